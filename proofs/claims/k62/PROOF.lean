import PyProof.Rows.All
import Wide.All
import OpenK.AllK
import Wide.FinOn
import HandS.ForMost
import HandS.Deep
import HandS.Star
import HandS.TupAny
import HandS.Wide
import HandS.SortInts
import HandS.Flow
import HandS.SetFor
import HandS.Strs
import HandS.Text
import PyProof.Rows.StrPins2
import HandS.IsInst
import HandS.Property
import HandS.ClsMeth
import HandS.FStr
import HandS.Style
import HandS.Conv
import HandS.Zip
import HandS.FStrTup
import HandS.Ends
import HandS.HeadEnd
import PyProof.ReprRoads
import HandS.TupSets
import HandS.SortRule
import KE.KOpsOwn
import PyProof.P3In
import PyProof.RulesMatch
import HandS.Exc
import HandS.ExcOwn
import HandS.WordsExc
import HandS.TryMany
import HandS.SlotsOwn
import OpenK.KOps
import PyProof.ListNew
import PyProof.InstNe
import OpenK.KMeth
import PyProof.TupleOfSeq
import PyProof.WalkInts
import PyProof.WalksMore
import PyProof.StrLawsRepr
import PyProof.CollectStr
import HandS.ReplaceLit
import PyProof.ListStr
import HandS.DictComp
import HandS.DictTup
import HandS.Iter
import KE.KDictWalk
import HandS.List
import HandS.TupMul
import KE.SortData
import PyProof.StrLawsReplace
import KE.IntTextLaws
import HandS.GenList
import HandS.GenYield
import PyProof.GenComp
import KE.KStateDown
import HandS.Head0
import HandS.Head1
import HandS.Head2
import HandS.HeadHook1
import HandS.HeadHook2
import PySem.Challenge.RW_countcycles_k62_which_rules_follow
set_option Elab.async false
set_option linter.all false
set_option maxRecDepth 100000
set_option maxHeartbeats 4000000
/-! Plain mathematics: sorting, walks. -/
namespace Mt
/-- the ints of a list, each once, ascending -/
def ins (x : Int) : List Int → List Int
  | [] => [x]
  | y :: r => if x < y then x :: y :: r else if x = y then y :: r else y :: ins x r
def srt (ns : List Int) : List Int := ns.foldr ins []
theorem mem_ins {x z : Int} : ∀ {l : List Int}, z ∈ ins x l ↔ z = x ∨ z ∈ l
  | [] => by simp [ins]
  | y :: r => by
    unfold ins
    split
    · simp
    · split
      · rename_i h; subst h; simp
      · rw [List.mem_cons, mem_ins (l := r), List.mem_cons]
        constructor
        · rintro (h | h | h)
          · exact .inr (.inl h)
          · exact .inl h
          · exact .inr (.inr h)
        · rintro (h | h | h)
          · exact .inr (.inl h)
          · exact .inl h
          · exact .inr (.inr h)
theorem mem_srt {z : Int} : ∀ {l : List Int}, z ∈ srt l ↔ z ∈ l
  | [] => by simp [srt]
  | y :: r => by
    show z ∈ ins y (srt r) ↔ _
    rw [mem_ins, mem_srt (l := r), List.mem_cons]
theorem ins_sorted {x : Int} : ∀ {l : List Int}, l.Pairwise (· < ·) → (ins x l).Pairwise (· < ·)
  | [], _ => by simp [ins]
  | y :: r, h => by
    obtain ⟨h1, h2⟩ := List.pairwise_cons.mp h
    unfold ins
    split
    · rename_i hxy
      refine List.pairwise_cons.mpr ⟨fun z hz => ?_, h⟩
      rcases List.mem_cons.mp hz with rfl | hz
      · exact hxy
      · have := h1 z hz
        omega
    · split
      · exact h
      · refine List.pairwise_cons.mpr ⟨fun z hz => ?_, ins_sorted h2⟩
        rcases mem_ins.mp hz with rfl | hz
        · omega
        · exact h1 z hz
theorem srt_sorted : ∀ l : List Int, (srt l).Pairwise (· < ·)
  | [] => by simp [srt]
  | y :: r => ins_sorted (srt_sorted r)
theorem sorted_unique : ∀ {l m : List Int}, l.Pairwise (· < ·) → m.Pairwise (· < ·) → (∀ z, z ∈ l ↔ z ∈ m) → l = m
  | [], [], _, _, _ => rfl
  | [], y :: m, _, _, h => by
    have := (h y).mpr (by simp)
    simp at this
  | x :: l, [], _, _, h => by
    have := (h x).mp (by simp)
    simp at this
  | x :: l, y :: m, h1, h2, h => by
    obtain ⟨a1, a2⟩ := List.pairwise_cons.mp h1
    obtain ⟨b1, b2⟩ := List.pairwise_cons.mp h2
    have e : x = y := by
      have p := (h x).mp (by simp)
      have q := (h y).mpr (by simp)
      rcases List.mem_cons.mp p with e | p
      · exact e
      · rcases List.mem_cons.mp q with e | q
        · exact e.symm
        · have := b1 x p
          have := a1 y q
          omega
    subst e
    rw [sorted_unique a2 b2 fun z => ?_]
    constructor
    · intro hz
      rcases List.mem_cons.mp ((h z).mp (List.mem_cons_of_mem _ hz)) with e | q
      · have := a1 z hz
        omega
      · exact q
    · intro hz
      rcases List.mem_cons.mp ((h z).mpr (List.mem_cons_of_mem _ hz)) with e | q
      · have := b1 z hz
        omega
      · exact q
/-- the ends of the pairs that start at c -/
def endsAt (ps : List (Int × Int)) (c : Int) : List Int := (ps.filter fun p => p.1 == c).map (·.2)
/-- one column more -/
def stepC (w : List Int) (s : List (List Int) × List Int) (c : Int) : List (List Int) × List Int := if s.2.contains c then s else (s.1 ++ [w ++ [c]], s.2 ++ [c])
def stepW (ps : List (Int × Int)) (s : List (List Int) × List Int) (w : List Int) : List (List Int) × List Int := (srt (endsAt ps (w.getLastD 0))).foldl (stepC w) s
def level (ps : List (Int × Int)) (ws : List (List Int)) (had : List Int) : List (List Int) × List Int := ws.foldl (stepW ps) ([], had)
def run (ps : List (Int × Int)) (b : Int) : Nat → List (List Int) → List Int → Option (Option (List Int))
  | 0, _, _ => none
  | m + 1, ws, had => if ws = [] then some none else match ws.find? (fun w => w.getLastD 0 == b) with
    | some w => some (some w)
    | none => run ps b m (level ps ws had).1 (level ps ws had).2
/-- walks and had as the loop keeps them -/
structure Wk (ps : List (Int × Int)) (a : Int) (n : Nat) (ws : List (List Int)) (had : List Int) : Prop where
  ne : ∀ w ∈ ws, w ≠ []
  le : ∀ w ∈ ws, w.length ≤ n
  few : ws.length ≤ had.length
  nd : had.Nodup
  of : ∀ x ∈ had, x = a ∨ x ∈ ps.map (·.2)
theorem stepC_no {w : List Int} {s : List (List Int) × List Int} {c : Int} (h : s.2.contains c = true) : stepC w s c = s := by unfold stepC; rw [if_pos h]
theorem stepC_yes {w : List Int} {s : List (List Int) × List Int} {c : Int} (h : s.2.contains c = false) : stepC w s c = (s.1 ++ [w ++ [c]], s.2 ++ [c]) := by unfold stepC; rw [if_neg (by rw [h]; decide)]
/-- what one turn adds keeps within bounds -/
structure Lv (ps : List (Int × Int)) (a : Int) (n : Nat) (s : List (List Int) × List Int) : Prop where
  ne : ∀ w ∈ s.1, w ≠ []
  le : ∀ w ∈ s.1, w.length ≤ n + 1
  few : s.1.length ≤ s.2.length
  nd : s.2.Nodup
  of : ∀ x ∈ s.2, x = a ∨ x ∈ ps.map (·.2)
theorem nodup_le {α : Type} [DecidableEq α] : ∀ {l m : List α}, l.Nodup → (∀ x ∈ l, x ∈ m) → l.length ≤ m.length
  | [], _, _, _ => Nat.zero_le _
  | x :: l, m, h, hs => by
    obtain ⟨h1, h2⟩ := List.nodup_cons.mp h
    have hx : x ∈ m := hs x (by simp)
    have := nodup_le (l := l) (m := m.erase x) h2 fun y hy => (List.mem_erase_of_ne (fun z => h1 (by rw [← z]; exact hy))).mpr (hs y (by simp [hy]))
    rw [List.length_erase_of_mem hx] at this
    have : 0 < m.length := List.length_pos_of_mem hx
    simp
    omega
theorem Lv.had {ps : List (Int × Int)} {a : Int} {n : Nat} {s : List (List Int) × List Int} (h : Lv ps a n s) : s.2.length ≤ ps.length + 1 := by
  have := nodup_le (m := a :: ps.map (·.2)) h.nd fun x hx => by
    rcases h.of x hx with z | z
    · simp [z]
    · exact List.mem_cons_of_mem _ z
  simpa using this
theorem Lv.add {ps : List (Int × Int)} {a c : Int} {n : Nat} {w : List Int} {s : List (List Int) × List Int} (h : Lv ps a n s) (hw : w.length ≤ n) (hc : c ∈ ps.map (·.2)) (hn : s.2.contains c = false) : Lv ps a n (s.1 ++ [w ++ [c]], s.2 ++ [c]) := by
  have hc' : c ∉ s.2 := fun z => by rw [List.contains_iff_mem.mpr z] at hn; cases hn
  refine ⟨fun v hv => ?_, fun v hv => ?_, ?_, ?_, fun x hx => ?_⟩
  · rcases List.mem_append.mp hv with hv | hv
    · exact h.ne v hv
    · simp at hv; rw [hv]; simp
  · rcases List.mem_append.mp hv with hv | hv
    · exact h.le v hv
    · simp at hv; rw [hv]; simp; omega
  · have := h.few
    simp; omega
  · rw [List.nodup_append]
    exact ⟨h.nd, by simp, fun x hx y hy => by simp at hy; rw [hy]; exact fun z => hc' (z ▸ hx)⟩
  · rcases List.mem_append.mp hx with hx | hx
    · exact h.of x hx
    · simp at hx; rw [hx]; exact .inr hc
/-! ### it ends -/
def rem (ps : List (Int × Int)) (had : List Int) : Nat := ((ps.map (·.2)).filter fun c => !had.contains c).length
theorem rem_lt {ps : List (Int × Int)} {had hd : List Int} (hs : ∀ x ∈ had, x ∈ hd) {c : Int} (hc : c ∈ ps.map (·.2)) (h1 : c ∉ had) (h2 : c ∈ hd) : rem ps hd < rem ps had := by
  unfold rem
  generalize ps.map (·.2) = l at hc ⊢
  have mono : ∀ m : List Int, (m.filter fun c => !hd.contains c).length ≤ (m.filter fun c => !had.contains c).length := by
    intro m
    induction m with
    | nil => simp
    | cons x m ih =>
      rw [List.filter_cons, List.filter_cons]
      by_cases hx : x ∈ had
      · have e1 : (!had.contains x) = false := by simp [hx]
        have e2 : (!hd.contains x) = false := by simp [hs x hx]
        rw [e1, e2]
        exact ih
      · have e1 : (!had.contains x) = true := by simp [hx]
        rw [e1, if_pos rfl]
        split
        · rw [List.length_cons, List.length_cons]; omega
        · rw [List.length_cons]; omega
  induction l with
  | nil => cases hc
  | cons x m ih =>
    rw [List.filter_cons, List.filter_cons]
    by_cases hx : x = c
    · subst hx
      have e1 : (!had.contains x) = true := by simp [h1]
      have e2 : (!hd.contains x) = false := by simp [h2]
      rw [e1, e2, if_pos rfl, if_neg (by decide)]
      have := mono m
      rw [List.length_cons]; omega
    · have hm : c ∈ m := by
        rcases List.mem_cons.mp hc with z | z
        · exact absurd z.symm hx
        · exact z
      have := ih hm
      by_cases hx : x ∈ had
      · have e1 : (!had.contains x) = false := by simp [hx]
        have e2 : (!hd.contains x) = false := by simp [hs x hx]
        rw [e1, e2]
        exact this
      · have e1 : (!had.contains x) = true := by simp [hx]
        rw [e1, if_pos rfl]
        split
        · rw [List.length_cons, List.length_cons]; omega
        · rw [List.length_cons]; omega
/-- how a state of a level stands to what was had before -/
structure Nw (ps : List (Int × Int)) (had : List Int) (s : List (List Int) × List Int) : Prop where
  sub : ∀ x ∈ had, x ∈ s.2
  new : s.1 ≠ [] → ∃ c ∈ ps.map (·.2), c ∉ had ∧ c ∈ s.2
theorem endsAt_mem {ps : List (Int × Int)} {c d : Int} : d ∈ endsAt ps c ↔ (c, d) ∈ ps := by
  unfold endsAt
  rw [List.mem_map]
  constructor
  · rintro ⟨⟨x, y⟩, hp, rfl⟩
    obtain ⟨h1, h2⟩ := List.mem_filter.mp hp
    have : x = c := by simpa using h2
    rw [← this]
    exact h1
  · intro h
    exact ⟨(c, d), List.mem_filter.mpr ⟨h, by simp⟩, rfl⟩
theorem Nw.stepC {ps : List (Int × Int)} {had : List Int} {s : List (List Int) × List Int} {w : List Int} {c : Int} (h : Nw ps had s) (hc : c ∈ ps.map (·.2)) : Nw ps had (stepC w s c) := by
  by_cases q : s.2.contains c = true
  · rw [stepC_no q]; exact h
  · have q' : s.2.contains c = false := by simpa using q
    rw [stepC_yes q']
    have hn : c ∉ s.2 := fun z => q (List.contains_iff_mem.mpr z)
    exact ⟨fun x hx => List.mem_append_left _ (h.sub x hx), fun _ => ⟨c, hc, fun z => hn (h.sub c z), by simp⟩⟩
theorem foldl_keep {α β : Type} {f : β → α → β} (Q : β → Prop) : ∀ {l : List α} {s : β}, Q s → (∀ s, ∀ a ∈ l, Q s → Q (f s a)) → Q (l.foldl f s)
  | [], _, h, _ => h
  | a :: l, _, h, hs => foldl_keep (l := l) Q (hs _ a (by simp) h) fun s b hb => hs s b (by simp [hb])
theorem Nw.level (ps : List (Int × Int)) (ws : List (List Int)) (had : List Int) : Nw ps had (level ps ws had) :=
  foldl_keep (Nw ps had) ⟨fun _ h => h, fun h => absurd rfl h⟩ fun s w _ h => foldl_keep (Nw ps had) h fun s c hc h => h.stepC (List.mem_map.mpr ⟨(w.getLastD 0, c), endsAt_mem.mp (mem_srt.mp hc), rfl⟩)
theorem run_ends (ps : List (Int × Int)) (b : Int) : ∀ (m : Nat) (ws : List (List Int)) (had : List Int), 1 ≤ m → (ws = [] ∨ rem ps had + 2 ≤ m) → ∃ r, run ps b m ws had = some r
  | 0, _, _, h, _ => by omega
  | m + 1, ws, had, _, h => by
    unfold run
    by_cases e : ws = []
    · exact ⟨none, by rw [if_pos e]⟩
    · rw [if_neg e]
      cases q : ws.find? (fun w => w.getLastD 0 == b) with
      | some w => exact ⟨some w, rfl⟩
      | none =>
        have h2 : rem ps had + 2 ≤ m + 1 := h.resolve_left e
        have L := Nw.level ps ws had
        refine run_ends ps b m _ _ (by omega) ?_
        by_cases z : (level ps ws had).1 = []
        · exact .inl z
        · obtain ⟨c, h3, h4, h5⟩ := L.new z
          have := rem_lt L.sub h3 h4 h5
          exact .inr (by omega)
def short (ps : List (Int × Int)) (a b : Int) : Option (List Int) := (run ps b (ps.length + 3) [[a]] [a]).getD none
theorem short_run (ps : List (Int × Int)) (a b : Int) : run ps b (ps.length + 3) [[a]] [a] = some (short ps a b) := by
  obtain ⟨r, h⟩ := run_ends ps b (ps.length + 3) [[a]] [a] (by omega) (.inr (by
    have : rem ps [a] ≤ ps.length := by
      unfold rem
      exact Nat.le_trans (List.length_filter_le _ _) (by simp)
    omega))
  unfold short
  rw [h]; rfl
/-! ### what it finds -/
/-- there is a way by pairs -/
inductive Rch (ps : List (Int × Int)) (a : Int) : Int → Prop
  | refl : Rch ps a a
  | step {c d : Int} : Rch ps a c → (c, d) ∈ ps → Rch ps a d
theorem Rch.trans {ps : List (Int × Int)} {a b c : Int} (h : Rch ps a b) (h2 : Rch ps b c) : Rch ps a c := by
  induction h2 with
  | refl => exact h
  | step _ hp ih => exact .step ih hp
theorem Rch.one {ps : List (Int × Int)} {a b : Int} (h : (a, b) ∈ ps) : Rch ps a b := .step .refl h
theorem Rch.mono {ps qs : List (Int × Int)} {a b : Int} (h : Rch ps a b) (hs : ∀ p ∈ ps, p ∈ qs) : Rch qs a b := by
  induction h with
  | refl => exact .refl
  | step _ hp ih => exact .step ih (hs _ hp)
/-- a walk by pairs from a -/
inductive Wlk (ps : List (Int × Int)) (a : Int) : List Int → Int → Prop
  | one : Wlk ps a [a] a
  | more {w : List Int} {c d : Int} : Wlk ps a w c → (c, d) ∈ ps → Wlk ps a (w ++ [d]) d
theorem Wlk.rch {ps : List (Int × Int)} {a c : Int} {w : List Int} (h : Wlk ps a w c) : Rch ps a c := by
  induction h with
  | one => exact .refl
  | more _ hp ih => exact .step ih hp
/-- the state between two levels: had is closed but for the ends of ws -/
structure Bf (ps : List (Int × Int)) (a : Int) (ws : List (List Int)) (had : List Int) : Prop where
  wlk : ∀ w ∈ ws, Wlk ps a w (w.getLastD 0)
  a_in : a ∈ had
  cl : ∀ c ∈ had, (∃ w ∈ ws, w.getLastD 0 = c) ∨ ∀ d, (c, d) ∈ ps → d ∈ had
/-- .. within a level: old are the walks that are done -/
structure Bm (ps : List (Int × Int)) (a : Int) (had : List Int) (s : List (List Int) × List Int) : Prop where
  wlk : ∀ w ∈ s.1, Wlk ps a w (w.getLastD 0)
  sub : ∀ x ∈ had, x ∈ s.2
  new : ∀ c ∈ s.2, c ∈ had ∨ ∃ w ∈ s.1, w.getLastD 0 = c
theorem getLastD_append (w : List Int) (c : Int) : (w ++ [c]).getLastD 0 = c := by simp [List.getLastD_eq_getLast?]
theorem Bm.stepC {ps : List (Int × Int)} {a : Int} {had : List Int} {s : List (List Int) × List Int} {w : List Int} {c : Int} (h : Bm ps a had s) (hw : Wlk ps a w (w.getLastD 0)) (hc : (w.getLastD 0, c) ∈ ps) : Bm ps a had (stepC w s c) := by
  by_cases q : s.2.contains c = true
  · rw [stepC_no q]; exact h
  · have q' : s.2.contains c = false := by simpa using q
    rw [stepC_yes q']
    refine ⟨fun v hv => ?_, fun x hx => List.mem_append_left _ (h.sub x hx), fun x hx => ?_⟩
    · rcases List.mem_append.mp hv with hv | hv
      · exact h.wlk v hv
      · have : v = w ++ [c] := by simpa using hv
        subst this
        rw [getLastD_append]
        exact .more hw hc
    · rcases List.mem_append.mp hx with hx | hx
      · rcases h.new x hx with z | ⟨v, hv, e⟩
        · exact .inl z
        · exact .inr ⟨v, List.mem_append_left _ hv, e⟩
      · have : x = c := by simpa using hx
        subst this
        exact .inr ⟨w ++ [x], by simp, getLastD_append w x⟩
theorem stepC_in {w : List Int} {s : List (List Int) × List Int} {c : Int} : c ∈ (stepC w s c).2 := by
  by_cases q : s.2.contains c = true
  · rw [stepC_no q]; exact List.contains_iff_mem.mp q
  · rw [stepC_yes (by simpa using q)]; simp
theorem stepC_sub {w : List Int} {s : List (List Int) × List Int} {c x : Int} (h : x ∈ s.2) : x ∈ (stepC w s c).2 := by
  by_cases q : s.2.contains c = true
  · rw [stepC_no q]; exact h
  · rw [stepC_yes (by simpa using q)]; simp [h]
theorem foldC_sub {w : List Int} : ∀ {l : List Int} {s : List (List Int) × List Int} {x : Int}, x ∈ s.2 → x ∈ (l.foldl (stepC w) s).2
  | [], _, _, h => h
  | _ :: l, _, _, h => foldC_sub (l := l) (stepC_sub h)
theorem foldC_in {w : List Int} : ∀ {l : List Int} {s : List (List Int) × List Int} {x : Int}, x ∈ l → x ∈ (l.foldl (stepC w) s).2
  | y :: l, s, x, h => by
    rcases List.mem_cons.mp h with e | h
    · subst e; exact foldC_sub (l := l) stepC_in
    · exact foldC_in (l := l) h
theorem foldW_sub {ps : List (Int × Int)} : ∀ {l : List (List Int)} {s : List (List Int) × List Int} {x : Int}, x ∈ s.2 → x ∈ (l.foldl (stepW ps) s).2
  | [], _, _, h => h
  | _ :: l, _, _, h => foldW_sub (l := l) (foldC_sub h)
theorem foldW_in {ps : List (Int × Int)} : ∀ {l : List (List Int)} {s : List (List Int) × List Int} {w : List Int} {d : Int}, w ∈ l → (w.getLastD 0, d) ∈ ps → d ∈ (l.foldl (stepW ps) s).2
  | y :: l, s, w, d, h, hp => by
    rcases List.mem_cons.mp h with e | h
    · subst e
      exact foldW_sub (l := l) (foldC_in (mem_srt.mpr (endsAt_mem.mpr hp)))
    · exact foldW_in (l := l) h hp
theorem Bf.level {ps : List (Int × Int)} {a : Int} {ws : List (List Int)} {had : List Int} (h : Bf ps a ws had) : Bf ps a (level ps ws had).1 (level ps ws had).2 := by
  have B : Bm ps a had (Mt.level ps ws had) := foldl_keep (Bm ps a had) ⟨by simp, fun _ h => h, fun c hc => .inl hc⟩ fun s w hw hb =>
    foldl_keep (Bm ps a had) hb fun s c hc hb => hb.stepC (h.wlk w hw) (endsAt_mem.mp (mem_srt.mp hc))
  refine ⟨B.wlk, B.sub a h.a_in, fun c hc => ?_⟩
  rcases B.new c hc with z | z
  · rcases h.cl c z with ⟨w, hw, e⟩ | q
    · refine .inr fun d hd => ?_
      subst e
      exact foldW_in hw hd
    · exact .inr fun d hd => B.sub d (q d hd)
  · exact .inl z
theorem run_spec {ps : List (Int × Int)} {a b : Int} : ∀ {m : Nat} {ws : List (List Int)} {had : List Int} {r : Option (List Int)}, Bf ps a ws had → (∀ c ∈ had, c = b → ∃ w ∈ ws, w.getLastD 0 = b) → run ps b m ws had = some r →
    (∀ w, r = some w → Wlk ps a w b) ∧ (r = none → ¬ Rch ps a b)
  | 0, _, _, _, _, _, h => by cases h
  | m + 1, ws, had, r, B, hb, h => by
    unfold run at h
    by_cases e : ws = []
    · rw [if_pos e] at h
      cases h
      refine ⟨fun w z => (by cases z), fun _ hr => ?_⟩
      have cl : ∀ c, Rch ps a c → c ∈ had := by
        intro c hc
        induction hc with
        | refl => exact B.a_in
        | step _ hp ih =>
          rcases B.cl _ ih with ⟨w, hw, _⟩ | q
          · rw [e] at hw; cases hw
          · exact q _ hp
      obtain ⟨w, hw, _⟩ := hb b (cl b hr) rfl
      rw [e] at hw; cases hw
    · rw [if_neg e] at h
      cases q : ws.find? (fun w => w.getLastD 0 == b) with
      | some w =>
        rw [q] at h
        cases h
        refine ⟨fun w' z => ?_, fun z => (by cases z)⟩
        cases z
        have h1 := List.find?_some q
        have h2 := B.wlk w (List.mem_of_find?_eq_some q)
        have : w.getLastD 0 = b := by simpa using h1
        rw [this] at h2
        exact h2
      | none =>
        rw [q] at h
        refine run_spec B.level (fun c hc ec => ?_) h
        subst ec
        have hno := List.find?_eq_none.mp q
        have Bmm : Bm ps a had (Mt.level ps ws had) := foldl_keep (Bm ps a had) ⟨by simp, fun _ h => h, fun c hc => .inl hc⟩ fun s w hw hb =>
          foldl_keep (Bm ps a had) hb fun s c hc hb => hb.stepC (B.wlk w hw) (endsAt_mem.mp (mem_srt.mp hc))
        rcases Bmm.new c hc with z | z
        · obtain ⟨w, hw, e2⟩ := hb c z rfl
          exact absurd (show (w.getLastD 0 == c) = true by rw [e2]; simp) (hno w hw)
        · exact z
theorem short_spec (ps : List (Int × Int)) (a b : Int) : (∀ w, short ps a b = some w → Wlk ps a w b) ∧ (short ps a b = none → ¬ Rch ps a b) :=
  run_spec ⟨by intro w hw; have : w = [a] := by simpa using hw
               subst this; exact .one, by simp, fun c hc => .inl ⟨[a], by simp, by simp at hc; simp [hc]⟩⟩ (fun c hc e => ⟨[a], by simp, by simp at hc; subst hc; simp [e]⟩) (short_run ps a b)
/-- leads -/
theorem short_some (ps : List (Int × Int)) (a b : Int) : (short ps a b).isSome = true ↔ Rch ps a b := by
  obtain ⟨h1, h2⟩ := short_spec ps a b
  cases e : short ps a b with
  | none => exact ⟨fun z => (by cases z), fun z => absurd z (h2 e)⟩
  | some w => exact ⟨fun _ => (h1 w e).rch, fun _ => rfl⟩
/-! ### rules -/
/-- a rule: true for settles -/
abbrev R := Bool × Int × Int
def dn (r : R) : Int × Int := if r.1 = true then (r.2.1, r.2.2) else (r.2.2, r.2.1)
def dns (rs : List R) : List (Int × Int) := rs.map dn
/-- the walk that turns the rule from b to a round -/
def ring (rs : List R) (k : Bool) (a b : Int) : Option (List Int) := if k = true then short (dns rs) a b else short (dns rs) b a
def arr1 (rs : List R) (k : Bool) (r : R) : List (Int × Int) := if r.1 = k then (r.2.1, r.2.2) :: (if (ring rs k r.2.2 r.2.1).isSome = true then [(r.2.2, r.2.1)] else []) else []
def arr (rs : List R) (k : Bool) : List (Int × Int) := rs.flatMap (arr1 rs k)
def fol (rs : List R) (r : R) : Bool := (short (arr rs r.1) r.2.1 r.2.2).isSome
/-- rules for a width, none twice -/
structure Ok (w : Int) (rs : List R) : Prop where
  nd : rs.Nodup
  lo : ∀ r ∈ rs, 0 ≤ r.2.1 ∧ r.2.1 < w ∧ 0 ≤ r.2.2 ∧ r.2.2 < w ∧ r.2.1 ≠ r.2.2
def cols (w : Int) : List Int := (List.range w.toNat).map fun (i : Nat) => (i : Int)
theorem mem_cols {w a : Int} : a ∈ cols w ↔ 0 ≤ a ∧ a < w := by
  unfold cols
  rw [List.mem_map]
  constructor
  · rintro ⟨i, hi, rfl⟩
    have := List.mem_range.mp hi
    omega
  · rintro ⟨h1, h2⟩
    exact ⟨a.toNat, List.mem_range.mpr (by omega), by omega⟩
/-- all rules of a kind, ascending -/
def allK (w : Int) (k : Bool) : List R := (cols w).flatMap fun a => ((cols w).filter fun b => !decide (a = b)).map fun b => (k, a, b)
def allR (w : Int) : List R := allK w true ++ allK w false
theorem mem_allK {w : Int} {k : Bool} {r : R} : r ∈ allK w k ↔ r.1 = k ∧ 0 ≤ r.2.1 ∧ r.2.1 < w ∧ 0 ≤ r.2.2 ∧ r.2.2 < w ∧ r.2.1 ≠ r.2.2 := by
  obtain ⟨j, a, b⟩ := r
  unfold allK
  rw [List.mem_flatMap]
  constructor
  · rintro ⟨a', ha, h⟩
    obtain ⟨b', hb, e⟩ := List.mem_map.mp h
    cases e
    obtain ⟨h1, h2⟩ := List.mem_filter.mp hb
    have h3 := mem_cols.mp ha
    have h4 := mem_cols.mp h1
    exact ⟨rfl, h3.1, h3.2, h4.1, h4.2, by simpa using h2⟩
  · rintro ⟨h0, h1, h2, h3, h4, h5⟩
    simp only at h0 h1 h2 h3 h4 h5
    subst h0
    exact ⟨a, mem_cols.mpr ⟨h1, h2⟩, List.mem_map.mpr ⟨b, List.mem_filter.mpr ⟨mem_cols.mpr ⟨h3, h4⟩, by simpa using h5⟩, rfl⟩⟩
theorem mem_allR {w : Int} {r : R} : r ∈ allR w ↔ 0 ≤ r.2.1 ∧ r.2.1 < w ∧ 0 ≤ r.2.2 ∧ r.2.2 < w ∧ r.2.1 ≠ r.2.2 := by
  unfold allR
  rw [List.mem_append, mem_allK, mem_allK]
  constructor
  · rintro (h | h) <;> exact h.2
  · intro h
    cases e : r.1 with
    | true => exact .inl ⟨rfl, h⟩
    | false => exact .inr ⟨rfl, h⟩
theorem Ok.up {w v : Int} {rs : List R} (h : Ok w rs) (hv : w ≤ v) : Ok v rs := ⟨h.nd, fun r hr => by have := h.lo r hr; omega⟩
theorem Ok.kind {w : Int} {rs : List R} (h : Ok w rs) (hw : w ≤ 6) (k : Bool) : (rs.filter fun r => r.1 == k).length ≤ 30 := by
  have h6 := h.up hw
  have := nodup_le (l := rs.filter fun r => r.1 == k) (m := allK 6 k) (h.nd.sublist List.filter_sublist) fun r hr => by
    obtain ⟨h1, h2⟩ := List.mem_filter.mp hr
    exact mem_allK.mpr ⟨by simpa using h2, h6.lo r h1⟩
  have e : (allK 6 k).length = 30 := by cases k <;> decide
  omega
theorem Ok.len {w : Int} {rs : List R} (h : Ok w rs) (hw : w ≤ 6) : rs.length ≤ 60 := by
  have := nodup_le (m := allR 6) h.nd fun r hr => mem_allR.mpr ((h.up hw).lo r hr)
  have e : (allR 6).length = 60 := by decide
  omega
theorem arr1_len (rs : List R) (k : Bool) (r : R) : (arr1 rs k r).length ≤ if r.1 == k then 2 else 0 := by
  unfold arr1
  by_cases h : r.1 = k
  · have e : (r.1 == k) = true := by simpa using h
    rw [if_pos h, e]
    split <;> simp
  · have e : (r.1 == k) = false := by simpa using h
    rw [if_neg h, e]
    simp
theorem arr_len_aux (rs : List R) (k : Bool) : ∀ l : List R, (l.flatMap (arr1 rs k)).length ≤ 2 * (l.filter fun r => r.1 == k).length
  | [] => by simp
  | r :: l => by
    have h1 := arr1_len rs k r
    have h2 := arr_len_aux rs k l
    rw [List.flatMap_cons, List.length_append, List.filter_cons]
    split
    · rename_i h
      rw [if_pos h] at h1
      rw [List.length_cons]
      omega
    · rename_i h
      rw [if_neg h] at h1
      omega
theorem arr_len (rs : List R) (k : Bool) : (arr rs k).length ≤ 2 * (rs.filter fun r => r.1 == k).length := arr_len_aux rs k rs
end Mt
/-! Plain mathematics: draws; ways by a table of ways. -/
namespace Mt
abbrev Pn := Int × Int × Int
/-- a pen after at most k draws -/
def Nx (k : Int) (p q : Pn) : Prop := q.2.1 = p.2.1 ∧ p.2.2 ≤ q.2.2 ∧ q.2.2 ≤ p.2.2 + k
def Gd (b : Int) (p : Pn) : Prop := 0 ≤ p.2.1 ∧ p.2.1 < 1000000007 ∧ 0 ≤ p.2.2 ∧ p.2.2 ≤ b
theorem Nx.trans {j k : Int} {p q r : Pn} (h : Nx j p q) (h2 : Nx k q r) : Nx (j + k) p r := by
  unfold Nx at *
  omega
theorem Nx.refl (p : Pn) : Nx 0 p p := by unfold Nx; omega
theorem Nx.le {j k : Int} {p q : Pn} (h : Nx j p q) (hk : j ≤ k) : Nx k p q := by unfold Nx at *; omega
theorem Gd.nx {b c k : Int} {p q : Pn} (h : Gd b p) (hn : Nx k p q) (hc : b + k ≤ c) : Gd c q := by unfold Gd Nx at *; omega
theorem Gd.le {b c : Int} {p : Pn} (h : Gd b p) (hc : b ≤ c) : Gd c p := by unfold Gd at *; omega
def vR (w : Int) (r : R) : Prop := 0 ≤ r.2.1 ∧ r.2.1 < w ∧ 0 ≤ r.2.2 ∧ r.2.2 < w ∧ r.2.1 ≠ r.2.2
/-! ### the table of ways -/
def gt (M : List (List Bool)) (a b : Nat) : Bool := ((M.getD a []).getD b false)
def st (M : List (List Bool)) (a b : Nat) : List (List Bool) := M.set a ((M.getD a []).set b true)
def f3 (y a : Nat) (M : List (List Bool)) (b : Nat) : List (List Bool) := if (gt M a y && gt M y b) = true then st M a b else M
def f2 (w y : Nat) (M : List (List Bool)) (a : Nat) : List (List Bool) := (List.range w).foldl (f3 y a) M
def f1 (w : Nat) (M : List (List Bool)) (y : Nat) : List (List Bool) := (List.range w).foldl (f2 w y) M
def ini (w : Nat) (ps : List (Int × Int)) : List (List Bool) := (List.range w).map fun (a : Nat) => (List.range w).map fun (b : Nat) => decide ((a : Int) = (b : Int)) || decide (((a : Int), (b : Int)) ∈ ps)
def fw (w : Nat) (ps : List (Int × Int)) : List (List Bool) := (List.range w).foldl (f1 w) (ini w ps)
/-- a table of w rows of w -/
def Sq (w : Nat) (M : List (List Bool)) : Prop := M.length = w ∧ ∀ r ∈ M, r.length = w
theorem Sq.row {w : Nat} {M : List (List Bool)} (h : Sq w M) {a : Nat} (ha : a < w) : ∃ r, M[a]? = some r ∧ M.getD a [] = r ∧ r.length = w := by
  have hl : a < M.length := by rw [h.1]; exact ha
  refine ⟨M[a], List.getElem?_eq_getElem hl, ?_, h.2 _ (List.getElem_mem hl)⟩
  rw [List.getD_eq_getElem?_getD, List.getElem?_eq_getElem hl]; rfl
theorem Sq.st {w : Nat} {M : List (List Bool)} (h : Sq w M) {a : Nat} (ha : a < w) (b : Nat) : Sq w (st M a b) := by
  obtain ⟨r, h1, h2, h3⟩ := h.row ha
  unfold Mt.st
  rw [h2]
  refine ⟨by rw [List.length_set]; exact h.1, fun q hq => ?_⟩
  rcases List.mem_or_eq_of_mem_set hq with z | z
  · exact h.2 q z
  · rw [z, List.length_set]; exact h3
theorem gt_st {w : Nat} {M : List (List Bool)} (h : Sq w M) {a b c d : Nat} (ha : a < w) (hb : b < w) : gt (st M a b) c d = if c = a ∧ d = b then true else gt M c d := by
  obtain ⟨r, h1, h2, h3⟩ := h.row ha
  unfold gt st
  rw [h2]
  by_cases e : c = a
  · subst e
    have : (M.set c (r.set b true)).getD c [] = r.set b true := by
      rw [List.getD_eq_getElem?_getD, List.getElem?_set_self (by rw [h.1]; exact ha)]; rfl
    rw [this, h2]
    by_cases e2 : d = b
    · subst e2
      rw [if_pos ⟨rfl, rfl⟩, List.getD_eq_getElem?_getD, List.getElem?_set_self (by rw [h3]; exact hb)]; rfl
    · rw [if_neg (fun z => e2 z.2), List.getD_eq_getElem?_getD, List.getElem?_set_ne (Ne.symm e2), List.getD_eq_getElem?_getD]
  · rw [if_neg (fun z => e z.1)]
    have : (M.set a (r.set b true)).getD c [] = M.getD c [] := by
      rw [List.getD_eq_getElem?_getD, List.getElem?_set_ne (Ne.symm e), List.getD_eq_getElem?_getD]
    rw [this]
theorem sq_f3 {w y a : Nat} {M : List (List Bool)} (h : Sq w M) (ha : a < w) (b : Nat) : Sq w (f3 y a M b) := by
  unfold f3
  split
  · exact h.st ha b
  · exact h
theorem f3_mono {w y a : Nat} {M : List (List Bool)} (h : Sq w M) (ha : a < w) {b : Nat} (hb : b < w) {c d : Nat} (hg : gt M c d = true) : gt (f3 y a M b) c d = true := by
  unfold f3
  split
  · rw [gt_st h ha hb]
    split
    · rfl
    · exact hg
  · exact hg
theorem fold_keep {α : Type} {w : Nat} {f : List (List Bool) → α → List (List Bool)} (c d : Nat) : ∀ (l : List α) {M : List (List Bool)}, Sq w M → (∀ M x, x ∈ l → Sq w M → Sq w (f M x) ∧ (gt M c d = true → gt (f M x) c d = true)) → Sq w (l.foldl f M) ∧ (gt M c d = true → gt (l.foldl f M) c d = true)
  | [], _, h, _ => ⟨h, id⟩
  | x :: l, M, h, hf => by
    obtain ⟨a1, a2⟩ := hf M x (List.mem_cons_self ..) h
    obtain ⟨b1, b2⟩ := fold_keep c d l a1 fun M y hy => hf M y (List.mem_cons_of_mem _ hy)
    exact ⟨b1, fun z => b2 (a2 z)⟩
theorem keep_f2 {w y a : Nat} (ha : a < w) (c d : Nat) {M : List (List Bool)} (h : Sq w M) : Sq w (f2 w y M a) ∧ (gt M c d = true → gt (f2 w y M a) c d = true) :=
  fold_keep c d _ h fun M b hb hM => ⟨sq_f3 hM ha b, f3_mono hM ha (List.mem_range.mp hb)⟩
theorem keep_f1 {w y : Nat} (c d : Nat) {M : List (List Bool)} (h : Sq w M) : Sq w (f1 w M y) ∧ (gt M c d = true → gt (f1 w M y) c d = true) :=
  fold_keep c d _ h fun M a ha hM => keep_f2 (List.mem_range.mp ha) c d hM
/-- what a turn adds at least -/
theorem fold_hit {α : Type} {w : Nat} {f : List (List Bool) → α → List (List Bool)} {P : List (List Bool) → Prop} {c d : Nat} : ∀ (l : List α) {M : List (List Bool)} {x : α}, x ∈ l → Sq w M → P M → (∀ M x, x ∈ l → Sq w M → Sq w (f M x) ∧ (gt M c d = true → gt (f M x) c d = true) ∧ (P M → P (f M x))) → (∀ M, Sq w M → P M → gt (f M x) c d = true) → gt (l.foldl f M) c d = true
  | y :: l, M, x, hx, hM, hP, hf, hh => by
    obtain ⟨a1, a2, a3⟩ := hf M y (List.mem_cons_self ..) hM
    by_cases e : x = y
    · subst e
      exact (fold_keep c d l a1 fun M z hz hq => ⟨(hf M z (List.mem_cons_of_mem _ hz) hq).1, (hf M z (List.mem_cons_of_mem _ hz) hq).2.1⟩).2 (hh M hM hP)
    · have hx' : x ∈ l := by
        rcases List.mem_cons.mp hx with z | z
        · exact absurd z e
        · exact z
      exact fold_hit l hx' a1 (a3 hP) (fun M z hz hq => hf M z (List.mem_cons_of_mem _ hz) hq) hh
theorem f1_hit {w y a b : Nat} {M : List (List Bool)} (h : Sq w M) (ha : a < w) (hb : b < w) (h1 : gt M a y = true) (h2 : gt M y b = true) : gt (f1 w M y) a b = true := by
  refine fold_hit (P := fun M => gt M a y = true ∧ gt M y b = true) _ (List.mem_range.mpr ha) h ⟨h1, h2⟩ (fun M x hx hM => ⟨(keep_f2 (List.mem_range.mp hx) 0 0 hM).1, (keep_f2 (List.mem_range.mp hx) a b hM).2, fun hP => ⟨(keep_f2 (List.mem_range.mp hx) _ _ hM).2 hP.1, (keep_f2 (List.mem_range.mp hx) _ _ hM).2 hP.2⟩⟩) fun M hM hP => ?_
  refine fold_hit (P := fun M => gt M a y = true ∧ gt M y b = true) _ (List.mem_range.mpr hb) hM hP (fun M x hx hM => ⟨sq_f3 hM ha x, f3_mono hM ha (List.mem_range.mp hx), fun hP => ⟨f3_mono hM ha (List.mem_range.mp hx) hP.1, f3_mono hM ha (List.mem_range.mp hx) hP.2⟩⟩) fun M hM hP => ?_
  unfold f3
  rw [if_pos (by rw [hP.1, hP.2]; rfl), gt_st hM ha hb, if_pos ⟨rfl, rfl⟩]
theorem sq_ini (w : Nat) (ps : List (Int × Int)) : Sq w (ini w ps) := ⟨by simp [ini], fun r hr => by
  obtain ⟨a, _, rfl⟩ := List.mem_map.mp hr
  simp⟩
theorem gt_ini {w a b : Nat} (ps : List (Int × Int)) (ha : a < w) (hb : b < w) : gt (ini w ps) a b = (decide ((a : Int) = (b : Int)) || decide (((a : Int), (b : Int)) ∈ ps)) := by
  unfold gt ini
  rw [List.getD_eq_getElem?_getD (l := List.map _ _), List.getElem?_map, List.getElem?_range ha]
  simp only [Option.map_some, Option.getD_some]
  rw [List.getD_eq_getElem?_getD, List.getElem?_map, List.getElem?_range hb]
  rfl
/-- by way of columns below k -/
def Pth (ps : List (Int × Int)) : Nat → Nat → Nat → Prop
  | 0, a, b => a = b ∨ ((a : Int), (b : Int)) ∈ ps
  | k + 1, a, b => Pth ps k a b ∨ (Pth ps k a k ∧ Pth ps k k b)
theorem Pth.trans {ps : List (Int × Int)} : ∀ {k a b c : Nat}, c < k → Pth ps k a c → Pth ps k c b → Pth ps k a b
  | k + 1, a, b, c, hc, h1, h2 => by
    by_cases e : c = k
    · subst e
      have h1' : Pth ps c a c := h1.elim id (·.1)
      have h2' : Pth ps c c b := h2.elim id (·.2)
      exact .inr ⟨h1', h2'⟩
    · have hc' : c < k := by omega
      rcases h1 with h1 | ⟨h1, h1'⟩
      · rcases h2 with h2 | ⟨h2, h2'⟩
        · exact .inl (Pth.trans hc' h1 h2)
        · exact .inr ⟨Pth.trans hc' h1 h2, h2'⟩
      · rcases h2 with h2 | ⟨h2, h2'⟩
        · exact .inr ⟨h1, Pth.trans hc' h1' h2⟩
        · exact .inr ⟨h1, h2'⟩
theorem Pth.base {ps : List (Int × Int)} {a b : Nat} (h : a = b ∨ ((a : Int), (b : Int)) ∈ ps) : ∀ k, Pth ps k a b
  | 0 => h
  | k + 1 => .inl (Pth.base h k)
/-- all pairs in the width -/
def In (w : Nat) (ps : List (Int × Int)) : Prop := ∀ p ∈ ps, 0 ≤ p.1 ∧ p.1 < w ∧ 0 ≤ p.2 ∧ p.2 < w
theorem rch_pth {w : Nat} {ps : List (Int × Int)} (hin : In w ps) {a : Nat} (ha : a < w) {b : Int} (h : Rch ps (a : Int) b) : ∃ m : Nat, b = (m : Int) ∧ m < w ∧ Pth ps w a m := by
  induction h with
  | refl => exact ⟨a, rfl, ha, Pth.base (.inl rfl) w⟩
  | @step c d h1 h2 ih =>
    obtain ⟨m, rfl, hm, hp⟩ := ih
    have := hin _ h2
    have e : d = ((d.toNat : Nat) : Int) := by simp only at this; omega
    refine ⟨d.toNat, e, by simp only at this; omega, Pth.trans hm hp (Pth.base (.inr ?_) w)⟩
    rw [← e]; exact h2
theorem fw_part {w : Nat} (ps : List (Int × Int)) : ∀ k, k ≤ w → Sq w ((List.range k).foldl (f1 w) (ini w ps)) ∧ ∀ a b, a < w → b < w → Pth ps k a b → gt ((List.range k).foldl (f1 w) (ini w ps)) a b = true
  | 0, _ => ⟨sq_ini w ps, fun a b ha hb h => by
    show gt (ini w ps) a b = true
    rw [gt_ini ps ha hb]
    rcases h with h | h
    · rw [h]; simp
    · simp [h]⟩
  | k + 1, hk => by
    obtain ⟨h1, h2⟩ := fw_part (w := w) ps k (by omega)
    rw [List.range_succ, List.foldl_append]
    refine ⟨(keep_f1 0 0 h1).1, fun a b ha hb h => ?_⟩
    rcases h with h | ⟨h, h'⟩
    · exact (keep_f1 a b h1).2 (h2 a b ha hb h)
    · have hkw : k < w := by omega
      exact f1_hit h1 ha hb (h2 a k ha hkw h) (h2 k b hkw hb h')
theorem sound_f3 {ps : List (Int × Int)} {w y a : Nat} (ha : a < w) (hy : y < w) {M : List (List Bool)} (h : Sq w M) (hM : ∀ c d, c < w → d < w → gt M c d = true → Rch ps (c : Int) (d : Int)) {b : Nat} (hb : b < w) : ∀ c d, c < w → d < w → gt (f3 y a M b) c d = true → Rch ps (c : Int) (d : Int) := fun c d hc hd hg => by
  unfold f3 at hg
  split at hg
  · rename_i hk
    rw [gt_st h ha hb] at hg
    split at hg
    · rename_i e
      rw [Bool.and_eq_true] at hk
      rw [e.1, e.2]
      exact (hM a y ha hy hk.1).trans (hM y b hy hb hk.2)
    · exact hM c d hc hd hg
  · exact hM c d hc hd hg
theorem fold_inv {α : Type} {f : List (List Bool) → α → List (List Bool)} {P : List (List Bool) → Prop} : ∀ (l : List α) {M : List (List Bool)}, P M → (∀ M x, x ∈ l → P M → P (f M x)) → P (l.foldl f M)
  | [], _, h, _ => h
  | x :: l, M, h, hf => fold_inv l (hf M x (List.mem_cons_self ..) h) fun M y hy => hf M y (List.mem_cons_of_mem _ hy)
theorem sq_fw (w : Nat) (ps : List (Int × Int)) : Sq w (fw w ps) := (fw_part ps w (Nat.le_refl _)).1
theorem fw_rch {w : Nat} {ps : List (Int × Int)} (hin : In w ps) {a b : Nat} (ha : a < w) (hb : b < w) : gt (fw w ps) a b = true ↔ Rch ps (a : Int) (b : Int) := by
  constructor
  · have : Sq w (fw w ps) ∧ ∀ c d, c < w → d < w → gt (fw w ps) c d = true → Rch ps (c : Int) (d : Int) := by
      refine fold_inv (P := fun M => Sq w M ∧ ∀ c d, c < w → d < w → gt M c d = true → Rch ps (c : Int) (d : Int)) _ ⟨sq_ini w ps, fun c d hc hd hg => ?_⟩ fun M y hy hM => ?_
      · rw [gt_ini ps hc hd, Bool.or_eq_true, decide_eq_true_eq, decide_eq_true_eq] at hg
        rcases hg with hg | hg
        · rw [hg]; exact .refl
        · exact Rch.one hg
      · refine fold_inv (P := fun M => Sq w M ∧ ∀ c d, c < w → d < w → gt M c d = true → Rch ps (c : Int) (d : Int)) _ hM fun M a ha hM => ?_
        refine fold_inv (P := fun M => Sq w M ∧ ∀ c d, c < w → d < w → gt M c d = true → Rch ps (c : Int) (d : Int)) _ hM fun M b hb hM => ?_
        exact ⟨sq_f3 hM.1 (List.mem_range.mp ha) b, sound_f3 (List.mem_range.mp ha) (List.mem_range.mp hy) hM.1 hM.2 (List.mem_range.mp hb)⟩
    exact this.2 a b ha hb
  · intro h
    obtain ⟨m, e, hm, hp⟩ := rch_pth hin ha h
    have : b = m := by omega
    subst this
    exact (fw_part ps w (Nat.le_refl _)).2 a b ha hb hp
end Mt
/-! Plain mathematics: what follows, by tables of ways. -/
namespace Mt
def fnd (rs : List R) (k : Bool) : List (Int × Int) := (rs.filter fun r => decide (r.1 = k)).map fun r => (r.2.1, r.2.2)
def both (D : List (List Bool)) (p : Int × Int) : Bool := gt D p.1.toNat p.2.toNat && gt D p.2.toNat p.1.toNat
def prs (w : Nat) (rs : List R) (k : Bool) : List (Int × Int) := fnd rs k ++ ((fnd rs k).filter (both (fw w (dns rs)))).map fun p => (p.2, p.1)
def Vr (w : Int) (rs : List R) : Prop := ∀ r ∈ rs, vR w r
theorem Ok.vr {w : Int} {rs : List R} (h : Ok w rs) : Vr w rs := h.lo
theorem in_dns {w : Nat} {rs : List R} (h : Vr (w : Int) rs) : In w (dns rs) := fun p hp => by
  obtain ⟨r, hr, rfl⟩ := List.mem_map.mp hp
  have := h r hr
  unfold vR at this
  unfold dn
  split <;> (simp only; omega)
theorem mem_fnd {rs : List R} {k : Bool} {p : Int × Int} : p ∈ fnd rs k ↔ ∃ r ∈ rs, r.1 = k ∧ p = (r.2.1, r.2.2) := by
  unfold fnd
  rw [List.mem_map]
  constructor
  · rintro ⟨r, hr, rfl⟩
    obtain ⟨h1, h2⟩ := List.mem_filter.mp hr
    exact ⟨r, h1, of_decide_eq_true h2, rfl⟩
  · rintro ⟨r, h1, h2, rfl⟩
    exact ⟨r, List.mem_filter.mpr ⟨h1, decide_eq_true h2⟩, rfl⟩
theorem in_prs {w : Nat} {rs : List R} (h : Vr (w : Int) rs) (k : Bool) : In w (prs w rs k) := fun p hp => by
  unfold prs at hp
  rcases List.mem_append.mp hp with hp | hp
  · obtain ⟨r, hr, _, rfl⟩ := mem_fnd.mp hp
    have := h r hr
    unfold vR at this
    simp only
    omega
  · obtain ⟨q, hq, rfl⟩ := List.mem_map.mp hp
    obtain ⟨r, hr, _, rfl⟩ := mem_fnd.mp (List.mem_filter.mp hq).1
    have := h r hr
    unfold vR at this
    simp only
    omega
theorem dn_mem {rs : List R} {r : R} (h : r ∈ rs) : dn r ∈ dns rs := List.mem_map.mpr ⟨r, h, rfl⟩
theorem both_ring {w : Nat} {rs : List R} (h : Vr (w : Int) rs) {r : R} (hr : r ∈ rs) {k : Bool} (hk : r.1 = k) : both (fw w (dns rs)) (r.2.1, r.2.2) = (ring rs k r.2.2 r.2.1).isSome := by
  have hv := h r hr
  unfold vR at hv
  obtain ⟨a, ea⟩ : ∃ a : Nat, r.2.1 = (a : Int) := ⟨r.2.1.toNat, by omega⟩
  obtain ⟨b, eb⟩ : ∃ b : Nat, r.2.2 = (b : Int) := ⟨r.2.2.toNat, by omega⟩
  have ha : a < w := by omega
  have hb : b < w := by omega
  have hin := in_dns h
  have hm := dn_mem hr
  unfold dn at hm
  unfold both ring
  simp only
  rw [ea, eb, Int.toNat_natCast, Int.toNat_natCast, Bool.eq_iff_iff, Bool.and_eq_true, fw_rch hin ha hb, fw_rch hin hb ha]
  subst hk
  cases e : r.1 with
  | true =>
    rw [if_pos e, ea, eb] at hm
    rw [if_pos rfl, short_some]
    exact ⟨fun z => z.2, fun z => ⟨Rch.one hm, z⟩⟩
  | false =>
    rw [if_neg (by rw [e]; decide), ea, eb] at hm
    rw [if_neg (by decide), short_some]
    exact ⟨fun z => z.1, fun z => ⟨z, Rch.one hm⟩⟩
theorem mem_arr {rs : List R} {k : Bool} {p : Int × Int} : p ∈ arr rs k ↔ ∃ r ∈ rs, r.1 = k ∧ (p = (r.2.1, r.2.2) ∨ ((ring rs k r.2.2 r.2.1).isSome = true ∧ p = (r.2.2, r.2.1))) := by
  unfold arr
  rw [List.mem_flatMap]
  constructor
  · rintro ⟨r, hr, hp⟩
    unfold arr1 at hp
    split at hp
    · rename_i hk
      refine ⟨r, hr, hk, ?_⟩
      rcases List.mem_cons.mp hp with hp | hp
      · exact .inl hp
      · split at hp
        · rename_i hs
          exact .inr ⟨hs, List.mem_singleton.mp hp⟩
        · simp at hp
    · simp at hp
  · rintro ⟨r, hr, hk, hp⟩
    refine ⟨r, hr, ?_⟩
    unfold arr1
    rw [if_pos hk]
    rcases hp with rfl | ⟨hs, rfl⟩
    · exact List.mem_cons_self ..
    · rw [if_pos hs]
      exact List.mem_cons_of_mem _ (List.mem_singleton.mpr rfl)
theorem arr_prs {w : Nat} {rs : List R} (h : Vr (w : Int) rs) (k : Bool) (p : Int × Int) : p ∈ arr rs k ↔ p ∈ prs w rs k := by
  rw [mem_arr]
  unfold prs
  rw [List.mem_append, List.mem_map, mem_fnd]
  constructor
  · rintro ⟨r, hr, hk, hp | ⟨hs, hp⟩⟩
    · exact .inl ⟨r, hr, hk, hp⟩
    · refine .inr ⟨(r.2.1, r.2.2), List.mem_filter.mpr ⟨mem_fnd.mpr ⟨r, hr, hk, rfl⟩, ?_⟩, hp.symm⟩
      rw [both_ring h hr hk]; exact hs
  · rintro (⟨r, hr, hk, hp⟩ | ⟨q, hq, hp⟩)
    · exact ⟨r, hr, hk, .inl hp⟩
    · obtain ⟨h1, h2⟩ := List.mem_filter.mp hq
      obtain ⟨r, hr, hk, rfl⟩ := mem_fnd.mp h1
      rw [both_ring h hr hk] at h2
      exact ⟨r, hr, hk, .inr ⟨h2, hp.symm⟩⟩
theorem rch_arr {w : Nat} {rs : List R} (h : Vr (w : Int) rs) (k : Bool) (a b : Int) : Rch (arr rs k) a b ↔ Rch (prs w rs k) a b :=
  ⟨fun z => z.mono fun p hp => (arr_prs h k p).mp hp, fun z => z.mono fun p hp => (arr_prs h k p).mpr hp⟩
/-- the law's word for: it follows -/
def folT (w : Nat) (rs : List R) (r : R) : Bool := gt (fw w (prs w rs r.1)) r.2.1.toNat r.2.2.toNat
theorem folT_eq {w : Nat} {rs : List R} (h : Vr (w : Int) rs) {r : R} (hr : vR (w : Int) r) : folT w rs r = fol rs r := by
  unfold vR at hr
  obtain ⟨a, ea⟩ : ∃ a : Nat, r.2.1 = (a : Int) := ⟨r.2.1.toNat, by omega⟩
  obtain ⟨b, eb⟩ : ∃ b : Nat, r.2.2 = (b : Int) := ⟨r.2.2.toNat, by omega⟩
  unfold folT fol
  rw [Bool.eq_iff_iff, short_some, rch_arr h, ea, eb, Int.toNat_natCast, Int.toNat_natCast]
  exact fw_rch (in_prs h r.1) (by omega) (by omega)
theorem prs_len {w : Nat} {rs : List R} (h : Ok (w : Int) rs) (hw : w ≤ 6) (k : Bool) : (prs w rs k).length ≤ 60 := by
  have h1 : (fnd rs k).length ≤ 30 := by
    unfold fnd
    rw [List.length_map]
    have := h.kind (by omega) k
    have e : (rs.filter fun r => decide (r.1 = k)) = rs.filter fun r => r.1 == k := rfl
    rw [e]; exact this
  unfold prs
  rw [List.length_append, List.length_map]
  have := List.length_filter_le (both (fw w (dns rs))) (fnd rs k)
  omega
end Mt
/-! What follows from what follows. -/
namespace Mt
/-- a step down in the sense of a kind -/
def Dw (ps : List (Int × Int)) (k : Bool) (a b : Int) : Prop := if k = true then Rch ps a b else Rch ps b a
theorem Dw.trans {ps : List (Int × Int)} {k : Bool} {a b c : Int} (h : Dw ps k a b) (h2 : Dw ps k b c) : Dw ps k a c := by
  unfold Dw at *
  cases k with
  | true => exact Rch.trans (by simpa using h) (by simpa using h2)
  | false => exact Rch.trans (by simpa using h2) (by simpa using h)
theorem Dw.refl {ps : List (Int × Int)} {k : Bool} {a : Int} : Dw ps k a a := by
  unfold Dw
  cases k <;> exact .refl
theorem ring_dw {rs : List R} {k : Bool} {a b : Int} : (ring rs k a b).isSome = true ↔ Dw (dns rs) k a b := by
  unfold ring Dw
  cases k <;> simp [short_some]
theorem dw_given {rs : List R} {r : R} (h : r ∈ rs) : Dw (dns rs) r.1 r.2.1 r.2.2 := by
  have hm := dn_mem h
  unfold dn at hm
  unfold Dw
  split
  · rename_i e
    rw [if_pos e] at hm
    exact Rch.one hm
  · rename_i e
    rw [if_neg e] at hm
    exact Rch.one hm
theorem dw_arr {rs : List R} {k : Bool} {p : Int × Int} (h : p ∈ arr rs k) : Dw (dns rs) k p.1 p.2 := by
  obtain ⟨r, hr, hk, e | ⟨hg, e⟩⟩ := mem_arr.mp h
  · subst hk e
    exact dw_given hr
  · subst e
    exact ring_dw.mp hg
theorem dw_rch {rs : List R} {k : Bool} {a b : Int} (h : Rch (arr rs k) a b) : Dw (dns rs) k a b := by
  induction h with
  | refl => exact Dw.refl
  | step h1 h2 ih => exact ih.trans (dw_arr h2)
theorem arr_back {rs : List R} {k : Bool} {a b : Int} (h : (a, b) ∈ arr rs k) (hb : Dw (dns rs) k b a) : (b, a) ∈ arr rs k := by
  obtain ⟨r, hr, hk, e | ⟨hg, e⟩⟩ := mem_arr.mp h
  · injection e with e1 e2
    refine mem_arr.mpr ⟨r, hr, hk, .inr ⟨?_, by rw [e1, e2]⟩⟩
    rw [ring_dw, ← e1, ← e2]
    exact hb
  · injection e with e1 e2
    exact mem_arr.mpr ⟨r, hr, hk, .inl (by rw [e1, e2])⟩
theorem rch_back {rs : List R} {k : Bool} {a b : Int} (h : Rch (arr rs k) a b) : Dw (dns rs) k b a → Rch (arr rs k) b a := by
  induction h with
  | refl => exact fun _ => .refl
  | step h1 h2 ih =>
    intro hb
    have d1 := dw_rch h1
    have d2 := dw_arr h2
    have e1 := arr_back h2 (hb.trans d1)
    exact (Rch.one e1).trans (ih (d2.trans hb))
section
variable {rs F : List R}
/-- given rules and more that follow from them -/
structure Cl (rs F : List R) : Prop where
  sub : ∀ r ∈ rs, r ∈ F
  fol : ∀ r ∈ F, Rch (arr rs r.1) r.2.1 r.2.2
theorem dns_mono (h : ∀ r ∈ rs, r ∈ F) {a b : Int} (q : Rch (dns rs) a b) : Rch (dns F) a b := q.mono fun p hp => by
  obtain ⟨r, hr, rfl⟩ := List.mem_map.mp hp
  exact dn_mem (h r hr)
theorem dw_mono (h : ∀ r ∈ rs, r ∈ F) {k : Bool} {a b : Int} (q : Dw (dns rs) k a b) : Dw (dns F) k a b := by
  unfold Dw at *
  split
  · rename_i e; rw [if_pos e] at q; exact dns_mono h q
  · rename_i e; rw [if_neg e] at q; exact dns_mono h q
theorem arr_mono (h : ∀ r ∈ rs, r ∈ F) {k : Bool} {p : Int × Int} (q : p ∈ arr rs k) : p ∈ arr F k := by
  obtain ⟨r, hr, hk, e | ⟨hg, e⟩⟩ := mem_arr.mp q
  · exact mem_arr.mpr ⟨r, h r hr, hk, .inl e⟩
  · exact mem_arr.mpr ⟨r, h r hr, hk, .inr ⟨ring_dw.mpr (dw_mono h (ring_dw.mp hg)), e⟩⟩
theorem Cl.dns (c : Cl rs F) {a b : Int} : Rch (dns F) a b ↔ Rch (dns rs) a b := by
  refine ⟨fun h => ?_, dns_mono c.sub⟩
  induction h with
  | refl => exact .refl
  | step h1 h2 ih =>
    obtain ⟨r, hr, e⟩ := List.mem_map.mp h2
    have d := dw_rch (c.fol r hr)
    unfold Dw at d
    unfold dn at e
    split at e
    · rename_i hk
      injection e with e1 e2
      rw [if_pos hk, e1, e2] at d
      exact ih.trans d
    · rename_i hk
      injection e with e1 e2
      rw [if_neg hk, e1, e2] at d
      exact ih.trans d
theorem Cl.dw (c : Cl rs F) {k : Bool} {a b : Int} : Dw (Mt.dns F) k a b ↔ Dw (Mt.dns rs) k a b := by
  unfold Dw
  split <;> exact c.dns
theorem Cl.arr (c : Cl rs F) {k : Bool} {a b : Int} : Rch (arr F k) a b ↔ Rch (arr rs k) a b := by
  refine ⟨fun h => ?_, fun h => h.mono fun p hp => arr_mono c.sub hp⟩
  induction h with
  | refl => exact .refl
  | step h1 h2 ih =>
    obtain ⟨r, hr, hk, e | ⟨hg, e⟩⟩ := mem_arr.mp h2
    · injection e with e1 e2
      have := c.fol r hr
      rw [hk, ← e1, ← e2] at this
      exact ih.trans this
    · injection e with e1 e2
      have h3 := c.fol r hr
      rw [hk] at h3
      have := rch_back h3 (c.dw.mp (ring_dw.mp hg))
      rw [← e1, ← e2] at this
      exact ih.trans this
end
end Mt
/-! Other columns, other kinds; how long a walk is. -/
namespace Mt
/-! ### kinds exchanged -/
/-! ### how long a walk is, and where it goes -/
end Mt
/-! The walk that is found is the shortest, and the first of these. -/
namespace Mt
def lexL : List Int → List Int → Bool
  | [], [] => false
  | [], _ :: _ => true
  | _ :: _, [] => false
  | x :: xs, y :: ys => if x = y then lexL xs ys else decide (x < y)
theorem lexL_tr : ∀ {x y z : List Int}, lexL x y = true → lexL y z = true → lexL x z = true
  | _, [], [], _, h2 => by cases h2
  | _, _ :: _, [], _, h2 => by cases h2
  | [], _, _ :: _, _, _ => rfl
  | _ :: _, [], _ :: _, h1, _ => by cases h1
  | x :: xs, y :: ys, z :: zs, h1, h2 => by
    have a1 : (if x = y then lexL xs ys else decide (x < y)) = true := h1
    have a2 : (if y = z then lexL ys zs else decide (y < z)) = true := h2
    show (if x = z then lexL xs zs else decide (x < z)) = true
    by_cases e1 : x = y
    · subst e1
      rw [if_pos rfl] at a1
      by_cases e2 : x = z
      · subst e2
        rw [if_pos rfl] at a2 ⊢
        exact lexL_tr a1 a2
      · rw [if_neg e2] at a2 ⊢
        exact a2
    · rw [if_neg e1] at a1
      have b1 := of_decide_eq_true a1
      by_cases e2 : y = z
      · subst e2
        rw [if_neg e1]
        exact a1
      · rw [if_neg e2] at a2
        have b2 := of_decide_eq_true a2
        rw [if_neg (by omega)]
        exact decide_eq_true (by omega)
/-- one step more, the walks of one length -/
theorem lexL_snoc : ∀ {v u : List Int} {c d : Int}, v.length = u.length → (lexL v u = true ∨ (v = u ∧ c < d)) → lexL (v ++ [c]) (u ++ [d]) = true
  | [], [], c, d, _, h => by
    rcases h with h | ⟨_, h⟩
    · cases h
    · show (if c = d then lexL [] [] else decide (c < d)) = true
      rw [if_neg (by omega)]
      exact decide_eq_true h
  | [], _ :: _, _, _, h, _ => by cases h
  | _ :: _, [], _, _, h, _ => by cases h
  | x :: xs, y :: ys, c, d, hl, h => by
    show (if x = y then lexL (xs ++ [c]) (ys ++ [d]) else decide (x < y)) = true
    have hl' : xs.length = ys.length := by simpa using hl
    by_cases e : x = y
    · rw [if_pos e]
      refine lexL_snoc hl' ?_
      rcases h with h | ⟨h1, h2⟩
      · have h' : (if x = y then lexL xs ys else decide (x < y)) = true := h
        rw [if_pos e] at h'
        exact .inl h'
      · injection h1 with _ h1
        exact .inr ⟨h1, h2⟩
    · rw [if_neg e]
      rcases h with h | ⟨h1, _⟩
      · have h' : (if x = y then lexL xs ys else decide (x < y)) = true := h
        rw [if_neg e] at h'
        exact h'
      · injection h1 with h1 _
        exact absurd h1 e
section
variable {ps : List (Int × Int)} {a : Int}
theorem wlk_more {u : List Int} {c : Int} (h : Wlk ps a u c) (hl : 1 < u.length) : ∃ v d, u = v ++ [c] ∧ Wlk ps a v d ∧ (d, c) ∈ ps := by
  cases h with
  | one => exact absurd hl (Nat.lt_irrefl 1)
  | more h1 h2 => exact ⟨_, _, rfl, h1, h2⟩
/-- what stands at a level -/
structure BI (ps : List (Int × Int)) (a : Int) (n : Nat) (ws : List (List Int)) (hs : List Int) : Prop where
  pos : 1 ≤ n
  len : ∀ v ∈ ws, v.length = n
  wlk : ∀ v ∈ ws, Wlk ps a v (v.getLastD 0)
  asc : ws.Pairwise fun v u => lexL v u = true
  best : ∀ v ∈ ws, ∀ u, Wlk ps a u (v.getLastD 0) → n < u.length ∨ (u.length = n ∧ (u = v ∨ lexL v u = true))
  had : ∀ c, c ∈ hs ↔ ∃ u, Wlk ps a u c ∧ u.length ≤ n
  cov : ∀ c u, Wlk ps a u c → u.length = n → (∀ u', Wlk ps a u' c → n ≤ u'.length) → ∃ v ∈ ws, v.getLastD 0 = c
  nd : ∀ v ∈ ws, v.Nodup ∧ ∀ x ∈ v, x ∈ hs
/-- the pairs in the order in which they are tried -/
def tries (ps : List (Int × Int)) (ws : List (List Int)) : List (List Int × Int) := ws.flatMap fun v => (srt (endsAt ps (v.getLastD 0))).map fun c => (v, c)
theorem mem_tries {ws : List (List Int)} {v : List Int} {c : Int} : (v, c) ∈ tries ps ws ↔ v ∈ ws ∧ (v.getLastD 0, c) ∈ ps := by
  unfold tries
  rw [List.mem_flatMap]
  constructor
  · rintro ⟨u, hu, h⟩
    obtain ⟨d, hd, e⟩ := List.mem_map.mp h
    injection e with e1 e2
    subst e1 e2
    exact ⟨hu, endsAt_mem.mp (mem_srt.mp hd)⟩
  · rintro ⟨h1, h2⟩
    exact ⟨v, h1, List.mem_map.mpr ⟨c, mem_srt.mpr (endsAt_mem.mpr h2), rfl⟩⟩
def Bef (p q : List Int × Int) : Prop := lexL p.1 q.1 = true ∨ (p.1 = q.1 ∧ p.2 < q.2)
theorem tries_asc {ws : List (List Int)} (h : ws.Pairwise fun v u => lexL v u = true) : (tries ps ws).Pairwise Bef := by
  unfold tries
  induction ws with
  | nil => exact List.Pairwise.nil
  | cons v ws ih =>
    have hp := List.pairwise_cons.mp h
    rw [List.flatMap_cons]
    refine List.pairwise_append.mpr ⟨?_, ih hp.2, fun p hp1 q hq => ?_⟩
    · exact List.pairwise_map.mpr ((srt_sorted _).imp fun h => .inr ⟨rfl, h⟩)
    · obtain ⟨c, _, rfl⟩ := List.mem_map.mp hp1
      obtain ⟨u, hu, h2⟩ := List.mem_flatMap.mp hq
      obtain ⟨d, _, rfl⟩ := List.mem_map.mp h2
      exact .inl (hp.1 u hu)
theorem level_tries (ps : List (Int × Int)) (ws : List (List Int)) (had : List Int) : level ps ws had = (tries ps ws).foldl (fun s p => stepC p.1 s p.2) ([], had) := by
  unfold level tries
  rw [List.foldl_flatMap]
  congr 1
  funext s v
  unfold stepW
  rw [List.foldl_map]
structure FI (had : List Int) (pre : List (List Int × Int)) (s : List (List Int) × List Int) : Prop where
  h1 : ∀ c, c ∈ s.2 ↔ c ∈ had ∨ ∃ v, (v, c) ∈ pre
  h2 : ∀ x ∈ s.1, ∃ v c, (v, c) ∈ pre ∧ x = v ++ [c] ∧ c ∉ had ∧ ∀ v', (v', c) ∈ pre → v' = v ∨ lexL v v' = true
  h3 : ∀ v c, (v, c) ∈ pre → c ∉ had → ∃ x ∈ s.1, x.getLastD 0 = c
  h4 : s.1.Pairwise fun v u => lexL v u = true
theorem FI.step {n : Nat} {had : List Int} {pre : List (List Int × Int)} {s : List (List Int) × List Int} {v : List Int} {c : Int} (h : FI had pre s) (hb : ∀ p ∈ pre, Bef p (v, c)) (hn : ∀ p ∈ pre, p.1.length = n) (hv : v.length = n) : FI had (pre ++ [(v, c)]) (stepC v s c) := by
  have mem : ∀ {u : List Int} {d : Int}, (u, d) ∈ pre ++ [(v, c)] ↔ (u, d) ∈ pre ∨ (u = v ∧ d = c) := fun {u d} => by
    rw [List.mem_append, List.mem_singleton]
    constructor
    · rintro (z | z)
      · exact .inl z
      · injection z with z1 z2; exact .inr ⟨z1, z2⟩
    · rintro (z | ⟨rfl, rfl⟩)
      · exact .inl z
      · exact .inr rfl
  by_cases hc : c ∈ s.2
  · rw [stepC_no (by simpa using hc)]
    refine ⟨fun d => ?_, fun x hx => ?_, fun u d hu hd => ?_, h.h4⟩
    · rw [h.h1]
      constructor
      · rintro (z | ⟨u, z⟩)
        · exact .inl z
        · exact .inr ⟨u, mem.mpr (.inl z)⟩
      · rintro (z | ⟨u, z⟩)
        · exact .inl z
        · rcases mem.mp z with z | ⟨_, rfl⟩
          · exact .inr ⟨u, z⟩
          · exact (h.h1 d).mp hc
    · obtain ⟨u, d, h5, h6, h7, h8⟩ := h.h2 x hx
      refine ⟨u, d, mem.mpr (.inl h5), h6, h7, fun v' hv' => ?_⟩
      rcases mem.mp hv' with z | ⟨rfl, rfl⟩
      · exact h8 v' z
      · rcases hb _ h5 with z | ⟨z, z2⟩
        · exact .inr z
        · exact .inl z.symm
    · rcases mem.mp hu with z | ⟨rfl, rfl⟩
      · exact h.h3 u d z hd
      · rcases (h.h1 d).mp hc with z | ⟨u', z⟩
        · exact absurd z hd
        · exact h.h3 u' d z hd
  · rw [stepC_yes (by simpa using hc)]
    have hch : c ∉ had := fun z => hc ((h.h1 c).mpr (.inl z))
    have hcp : ∀ u, (u, c) ∉ pre := fun u z => hc ((h.h1 c).mpr (.inr ⟨u, z⟩))
    refine ⟨fun d => ?_, fun x hx => ?_, fun u d hu hd => ?_, ?_⟩
    · show d ∈ s.2 ++ [c] ↔ _
      rw [List.mem_append, List.mem_singleton, h.h1]
      constructor
      · rintro ((z | ⟨u, z⟩) | rfl)
        · exact .inl z
        · exact .inr ⟨u, mem.mpr (.inl z)⟩
        · exact .inr ⟨v, mem.mpr (.inr ⟨rfl, rfl⟩)⟩
      · rintro (z | ⟨u, z⟩)
        · exact .inl (.inl z)
        · rcases mem.mp z with z | ⟨_, rfl⟩
          · exact .inl (.inr ⟨u, z⟩)
          · exact .inr rfl
    · rcases List.mem_append.mp (show x ∈ s.1 ++ [v ++ [c]] from hx) with z | z
      · obtain ⟨u, d, h5, h6, h7, h8⟩ := h.h2 x z
        refine ⟨u, d, mem.mpr (.inl h5), h6, h7, fun v' hv' => ?_⟩
        rcases mem.mp hv' with y | ⟨_, rfl⟩
        · exact h8 v' y
        · exact absurd h5 (hcp u)
      · rw [List.mem_singleton.mp z]
        refine ⟨v, c, mem.mpr (.inr ⟨rfl, rfl⟩), rfl, hch, fun v' hv' => ?_⟩
        rcases mem.mp hv' with y | ⟨rfl, _⟩
        · exact absurd y (hcp v')
        · exact .inl rfl
    · rcases mem.mp hu with z | ⟨rfl, rfl⟩
      · obtain ⟨x, h5, h6⟩ := h.h3 u d z hd
        exact ⟨x, List.mem_append_left _ h5, h6⟩
      · exact ⟨_, List.mem_append_right _ (List.mem_singleton.mpr rfl), getLastD_append _ _⟩
    · show (s.1 ++ [v ++ [c]]).Pairwise _
      refine List.pairwise_append.mpr ⟨h.h4, List.pairwise_singleton _ _, fun x hx y hy => ?_⟩
      rw [List.mem_singleton.mp hy]
      obtain ⟨u, d, h5, rfl, _, _⟩ := h.h2 x hx
      exact lexL_snoc ((hn _ h5).trans hv.symm) (hb _ h5)
theorem FI.all {n : Nat} {had : List Int} : ∀ (l pre : List (List Int × Int)) (s : List (List Int) × List Int), (pre ++ l).Pairwise Bef → (∀ p ∈ pre ++ l, p.1.length = n) → FI had pre s → FI had (pre ++ l) (l.foldl (fun s p => stepC p.1 s p.2) s)
  | [], pre, s, _, _, h => by rw [List.append_nil]; exact h
  | (v, c) :: l, pre, s, hp, hn, h => by
    have e : pre ++ (v, c) :: l = (pre ++ [(v, c)]) ++ l := by simp
    rw [e] at hp hn ⊢
    have hb : ∀ p ∈ pre, Bef p (v, c) := fun p hpp => (List.pairwise_append.mp (List.pairwise_append.mp hp).1).2.2 p hpp (v, c) (List.mem_singleton.mpr rfl)
    exact FI.all l (pre ++ [(v, c)]) _ hp hn (h.step (n := n) hb (fun p hpp => hn p (List.mem_append_left _ (List.mem_append_left _ hpp))) (hn (v, c) (List.mem_append_left _ (List.mem_append_right _ (List.mem_singleton.mpr rfl)))))
theorem BI.level {n : Nat} {ws : List (List Int)} {had : List Int} (h : BI ps a n ws had) : BI ps a (n + 1) (level ps ws had).1 (level ps ws had).2 := by
  have fi : FI had (tries ps ws) (Mt.level ps ws had) := by
    rw [level_tries]
    have := FI.all (n := n) (had := had) (tries ps ws) [] ([], had) (by rw [List.nil_append]; exact tries_asc h.asc) (fun p hp => by
      rw [List.nil_append] at hp
      exact h.len p.1 (mem_tries.mp (show (p.1, p.2) ∈ tries ps ws from hp)).1) ⟨fun c => by simp, (fun x hx => by cases hx), (fun v c hv => by cases hv), List.Pairwise.nil⟩
    rw [List.nil_append] at this
    exact this
  generalize Mt.level ps ws had = s at fi
  -- a walk of the next length, its last column not had before
  have last : ∀ c u, Wlk ps a u c → u.length = n + 1 → c ∉ had → ∃ v' d v'', u = v' ++ [c] ∧ Wlk ps a v' d ∧ (d, c) ∈ ps ∧ v''∈ ws ∧ v''.getLastD 0 = d ∧ (v' = v'' ∨ lexL v'' v' = true) ∧ (v'', c) ∈ tries ps ws := fun c u hu hl hc => by
    obtain ⟨v', d, rfl, h1, h2⟩ := wlk_more hu (by have := h.pos; omega)
    have hl' : v'.length = n := by
      rw [List.length_append] at hl
      have : v'.length + 1 = n + 1 := hl
      omega
    have hmin : ∀ u', Wlk ps a u' d → n ≤ u'.length := fun u' hu' => by
      refine Nat.le_of_not_lt fun z => hc ((h.had c).mpr ⟨u' ++ [c], .more hu' h2, ?_⟩)
      rw [List.length_append]
      show u'.length + 1 ≤ n
      omega
    obtain ⟨v'', h3, h4⟩ := h.cov d v' h1 hl' hmin
    have h5 := h.best v'' h3 v' (by rw [h4]; exact h1)
    refine ⟨v', d, v'', rfl, h1, h2, h3, h4, ?_, mem_tries.mpr ⟨h3, by rw [h4]; exact h2⟩⟩
    rcases h5 with z | ⟨_, z⟩
    · omega
    · exact z
  have hadS : ∀ c, c ∈ s.2 ↔ ∃ u, Wlk ps a u c ∧ u.length ≤ n + 1 := fun c => by
    rw [fi.h1]
    constructor
    · rintro (z | ⟨v, z⟩)
      · obtain ⟨u, hu, hl⟩ := (h.had c).mp z
        exact ⟨u, hu, by omega⟩
      · obtain ⟨h1, h2⟩ := mem_tries.mp z
        refine ⟨v ++ [c], .more (h.wlk v h1) h2, ?_⟩
        rw [List.length_append, h.len v h1]
        exact Nat.le_refl _
    · rintro ⟨u, hu, hl⟩
      by_cases hc : c ∈ had
      · exact .inl hc
      · have : u.length = n + 1 := by
          have : ¬ u.length ≤ n := fun z => hc ((h.had c).mpr ⟨u, hu, z⟩)
          omega
        obtain ⟨_, _, v'', _, _, _, _, _, _, z⟩ := last c u hu this hc
        exact .inr ⟨v'', z⟩
  refine ⟨by omega, fun x hx => ?_, fun x hx => ?_, fi.h4, fun x hx u hu => ?_, hadS, fun c u hu hl hmin => ?_, fun x hx => ?_⟩
  · obtain ⟨v, c, h5, rfl, _, _⟩ := fi.h2 x hx
    rw [List.length_append, h.len v (mem_tries.mp h5).1]
    rfl
  · obtain ⟨v, c, h5, rfl, _, _⟩ := fi.h2 x hx
    rw [getLastD_append]
    obtain ⟨h1, h2⟩ := mem_tries.mp h5
    exact .more (h.wlk v h1) h2
  · obtain ⟨v, c, h5, rfl, hc, h8⟩ := fi.h2 x hx
    rw [getLastD_append] at hu
    have hn : ¬ u.length ≤ n := fun z => hc ((h.had c).mpr ⟨u, hu, z⟩)
    by_cases e : u.length = n + 1
    · refine .inr ⟨e, ?_⟩
      obtain ⟨v', d, v'', rfl, h1, h2, h3, h4, h6, h7⟩ := last c u hu e hc
      have hlv : v.length = n := h.len v (mem_tries.mp h5).1
      have hlv' : v'.length = n := by
        rw [List.length_append] at e
        have : v'.length + 1 = n + 1 := e
        omega
      have le : v' = v ∨ lexL v v' = true := by
        rcases h8 v'' h7 with rfl | z
        · exact h6
        · rcases h6 with rfl | y
          · exact .inr z
          · exact .inr (lexL_tr z y)
      rcases le with rfl | z
      · exact .inl rfl
      · exact .inr (lexL_snoc (hlv.trans hlv'.symm) (.inl z))
    · exact .inl (by omega)
  · have hc : c ∉ had := fun z => by
      obtain ⟨u', hu', hl'⟩ := (h.had c).mp z
      have := hmin u' hu'
      omega
    obtain ⟨_, _, v'', _, _, _, _, _, _, z⟩ := last c u hu hl hc
    exact fi.h3 v'' c z hc
  · obtain ⟨v, c, h5, rfl, hc, _⟩ := fi.h2 x hx
    obtain ⟨n1, n2⟩ := h.nd v (mem_tries.mp h5).1
    refine ⟨List.nodup_append.mpr ⟨n1, by simp, fun y hy z hz e => ?_⟩, fun y hy => ?_⟩
    · rw [List.mem_singleton] at hz
      exact hc (by rw [← hz, ← e]; exact n2 y hy)
    · rcases List.mem_append.mp hy with z | z
      · exact (fi.h1 y).mpr (.inl (n2 y z))
      · rw [List.mem_singleton.mp z]
        exact (fi.h1 c).mpr (.inr ⟨v, h5⟩)
end
end Mt
/-! Plain mathematics: the walk found among all tuples of different columns. -/
namespace Mt
def colN (w : Nat) : List Int := (List.range w).map fun (i : Nat) => (i : Int)
def exw (w : Nat) (o : List Int) : List (List Int) := ((colN w).filter fun x => !decide (x ∈ o)).map fun x => o ++ [x]
def lv (w : Nat) : Nat → List (List Int)
  | 0 => [[]]
  | n + 1 => (lv w n).flatMap (exw w)
/-! ### the walk -/
end Mt
/-! Plain mathematics: chains. -/
namespace Mt
end Mt
/-! Plain mathematics: rules in rows. -/
namespace Mt
def vat (x : List Int) (c : Int) : Int := x.getD c.toNat 0
/-! ### how many different values -/
def vals (rows : List (List Int)) (a : Int) : List Int := srt (rows.map fun x => vat x a)
end Mt
/-! The texts of rules. -/
namespace Mt
open PySem TL
def kS (k : Bool) : Str := if k = true then "settles" else "within"
def nS (i : Int) : Str := toString i
def lnS (r : R) : Str := nS r.2.1 ++ " " ++ kS r.1 ++ " " ++ nS r.2.2
def lnN (r : R) : Str := nS r.2.1 ++ " " ++ kS r.1 ++ " " ++ nS r.2.2 ++ "\n"
def textOf (rs : List R) : Str := Str.join "" (rs.map lnN)
theorem fine_cols {w : Int} {rs : List R} (h : Ok w rs) (hw : w ≤ 6) {r : R} (hr : r ∈ rs) : ∃ a b : Nat, r.2.1 = (a : Int) ∧ r.2.2 = (b : Int) ∧ a < 6 ∧ b < 6 := by
  have := h.lo r hr
  exact ⟨r.2.1.toNat, r.2.2.toNat, by omega, by omega, by omega, by omega⟩
theorem tl_nS {a : Nat} (h : a < 6) : tl (nS (a : Int)) = [48 + a] := by
  unfold nS
  rw [tl_num, numL_lt (by omega)]
theorem tl_kS (k : Bool) : tl (kS k) = if k = true then [115, 101, 116, 116, 108, 101, 115] else [119, 105, 116, 104, 105, 110] := by
  cases k <;> decide +kernel
theorem tl_sp : tl (" " : Str) = [32] := by decide +kernel
theorem tl_nl : tl ("\n" : Str) = [10] := by decide +kernel
theorem tl_none : tl ("" : Str) = [] := by decide +kernel
theorem tl_lnS {w : Int} {rs : List R} (h : Ok w rs) (hw : w ≤ 6) {r : R} (hr : r ∈ rs) : ∃ a b : Nat, r.2.1 = (a : Int) ∧ r.2.2 = (b : Int) ∧ a < 6 ∧ b < 6 ∧ tl (lnS r) = [48 + a, 32] ++ tl (kS r.1) ++ [32, 48 + b] := by
  obtain ⟨a, b, ea, eb, ha, hb⟩ := fine_cols h hw hr
  refine ⟨a, b, ea, eb, ha, hb, ?_⟩
  unfold lnS
  rw [tl_append, tl_append, tl_append, tl_append, ea, eb, tl_nS ha, tl_nS hb, tl_sp]
  simp
theorem no_nl {w : Int} {rs : List R} (h : Ok w rs) (hw : w ≤ 6) {r : R} (hr : r ∈ rs) : 10 ∉ tl (lnS r) := by
  obtain ⟨a, b, _, _, ha, hb, e⟩ := tl_lnS h hw hr
  rw [e, tl_kS]
  cases r.1 <;> simp <;> omega
theorem lnN_eq (r : R) : lnN r = lnS r ++ "\n" := rfl
theorem joinL_nil : ∀ l : List (List Nat), joinL [] l = l.flatten
  | [] => rfl
  | [p] => by simp [joinL]
  | p :: q :: r => by
    show p ++ ([] ++ joinL [] (q :: r)) = _
    rw [joinL_nil (q :: r)]; simp
theorem tl_textOf (rs : List R) : tl (textOf rs) = (rs.map fun r => tl (lnS r) ++ [10]).flatten := by
  unfold textOf
  rw [tl_join, tl_none, joinL_nil, List.map_map]
  congr 1
  refine List.map_congr_left fun r _ => ?_
  show tl (lnN r) = _
  rw [lnN_eq, tl_append, tl_nl]
theorem joinL_nl : ∀ l : List (List Nat), joinL [10] (l ++ [[]]) = (l.map fun p => p ++ [10]).flatten
  | [] => rfl
  | [p] => by simp [joinL]
  | p :: q :: r => by
    show p ++ ([10] ++ joinL [10] ((q :: r) ++ [[]])) = _
    rw [joinL_nl (q :: r)]; simp
theorem textOf_join (rs : List R) : textOf rs = Txt.join "\n" (rs.map lnS ++ [("" : Str)]) := by
  refine ext_tl ?_
  rw [join_eq, tl_join, tl_textOf, tl_nl, List.map_append, List.map_map]
  show _ = joinL [10] (_ ++ [tl ("" : Str)])
  rw [tl_none, joinL_nl, List.map_map]
  rfl
theorem split_text {w : Int} {rs : List R} (h : Ok w rs) (hw : w ≤ 6) : Txt.split (textOf rs) "\n" = rs.map lnS ++ [("" : Str)] := by
  rw [textOf_join]
  refine split_join tl_nl (by decide +kernel) (by simp) fun p hp => ?_
  rcases List.mem_append.mp hp with hp | hp
  · obtain ⟨r, hr, rfl⟩ := List.mem_map.mp hp
    exact no_nl h hw hr
  · rw [List.mem_singleton.mp hp, tl_none]; simp
theorem lnS_join (r : R) : lnS r = Txt.join " " [nS r.2.1, kS r.1, nS r.2.2] := by
  refine ext_tl ?_
  rw [join_eq, tl_join]
  unfold lnS
  simp only [tl_append, List.map_cons, List.map_nil, joinL, List.append_assoc]
theorem split_line {w : Int} {rs : List R} (h : Ok w rs) (hw : w ≤ 6) {r : R} (hr : r ∈ rs) : Txt.split (lnS r) " " = [nS r.2.1, kS r.1, nS r.2.2] := by
  rw [lnS_join]
  obtain ⟨a, b, ea, eb, ha, hb⟩ := fine_cols h hw hr
  refine split_join tl_sp (by decide +kernel) (by simp) fun p hp => ?_
  simp only [List.mem_cons, List.not_mem_nil, or_false] at hp
  rcases hp with rfl | rfl | rfl
  · rw [ea, tl_nS ha]; simp; omega
  · rw [tl_kS]; cases r.1 <;> decide
  · rw [eb, tl_nS hb]; simp; omega
theorem len_app (x y : Str) : (x ++ y).length = x.length + y.length := by rw [len_tl, tl_append, List.length_append, len_tl, len_tl]
theorem lnS_len {w : Int} {rs : List R} (h : Ok w rs) (hw : w ≤ 6) {r : R} (hr : r ∈ rs) : (lnS r).length ≤ 20 := by
  obtain ⟨a, b, _, _, ha, hb, e⟩ := tl_lnS h hw hr
  rw [len_tl, e, tl_kS]
  cases r.1 <;> simp
theorem lnN_len {w : Int} {rs : List R} (h : Ok w rs) (hw : w ≤ 6) {r : R} (hr : r ∈ rs) : (lnN r).length ≤ 21 := by
  rw [lnN_eq, len_app]
  have := lnS_len h hw hr
  have e : ("\n" : Str).length = 1 := by decide +kernel
  omega
theorem text_len {w : Int} {rs : List R} (h : Ok w rs) (hw : w ≤ 6) : (textOf rs).length ≤ 21 * rs.length := by
  rw [len_tl, tl_textOf]
  have : ∀ l : List R, (∀ r ∈ l, r ∈ rs) → ((l.map fun r => tl (lnS r) ++ [10]).flatten).length ≤ 21 * l.length := by
    intro l
    induction l with
    | nil => intro _; simp
    | cons r l ih =>
      intro hs
      rw [List.map_cons, List.flatten_cons, List.length_append, List.length_append, ← len_tl]
      have := lnS_len h hw (hs r (List.mem_cons_self ..))
      have := ih fun z hz => hs z (List.mem_cons_of_mem _ hz)
      simp only [List.length_cons, List.length_nil]
      omega
  exact this rs fun _ h => h
theorem sum_len {w : Int} {rs : List R} (h : Ok w rs) (hw : w ≤ 6) : (((rs.map lnN)).map (·.length)).sum ≤ 21 * rs.length := by
  have : ∀ l : List R, (∀ r ∈ l, r ∈ rs) → (((l.map lnN)).map (·.length)).sum ≤ 21 * l.length := by
    intro l
    induction l with
    | nil => intro _; simp
    | cons r l ih =>
      intro hs
      simp only [List.map_cons, List.sum_cons, List.length_cons]
      have := lnN_len h hw (hs r (List.mem_cons_self ..))
      have := ih fun z hz => hs z (List.mem_cons_of_mem _ hz)
      omega
  exact this rs fun _ h => h
theorem text_ends (rs : List R) (hne : rs ≠ []) : Txt.endswith (textOf rs) "\n" = true := by
  obtain ⟨p, hp⟩ : ∃ p, tl (textOf rs) = p ++ [10] := by
    rw [tl_textOf]
    obtain ⟨q, z, rfl⟩ : ∃ q z, rs = q ++ [z] := by
      cases e : rs.reverse with
      | nil => exact absurd (List.reverse_eq_nil_iff.mp e) hne
      | cons z q => exact ⟨q.reverse, z, by rw [← List.reverse_cons, ← e, List.reverse_reverse]⟩
    rw [List.map_append, List.flatten_append]
    exact ⟨_, by simp only [List.map_cons, List.map_nil, List.flatten_cons, List.flatten_nil, List.append_nil]; rw [← List.append_assoc]⟩
  have hl : (textOf rs).length = p.length + 1 := by rw [len_tl, hp]; simp
  have h1 : ("\n" : Str).length = 1 := by decide +kernel
  unfold Txt.endswith
  rw [Bool.and_eq_true]
  refine ⟨decide_eq_true (by omega), ?_⟩
  rw [StrLaws.subAt_eq, hl, h1]
  show ((tl (textOf rs)).drop _ |>.take 1) == tl ("\n" : Str)
  rw [hp, tl_nl]
  simp
theorem find_col {a : Nat} (h : a < 6) : Txt.find "012345" (nS (a : Int)) = (a : Int) := by
  have : ∀ a : Fin 6, Txt.find "012345" (nS ((a.val : Nat) : Int)) = ((a.val : Nat) : Int) := by decide +kernel
  exact this ⟨a, h⟩
theorem nS_len {a : Nat} (h : a < 6) : (nS (a : Int)).length = 1 := by rw [len_tl, tl_nS h]; rfl
end Mt
/-! The texts of tables. -/
namespace Mt
open PySem TL
/-! lines, each with its end -/
/-! values of a table -/
/-! rows -/
end Mt
/-! MU: what any text says of rules. -/
/-! A layer of values: what a body computes, told by data (D), the heap kept out of sight. -/
namespace Fx
open PySem L2
/-- a value told by a fact of the heap that stays -/
structure Px where
  φ : Hp → V → Prop
  nn : ∀ F v, φ F v → v ≠ .non
  mono : ∀ F F' v, Same F F' → φ F v → φ F' v
/-- data: c in obj is the number of a class -/
inductive D where
  | non | bl (b : Bool) | int (i : Int) | str (x : Str) | tup (xs : List D) | lst (xs : List D) | emp | obj (c : Nat) (xs : List D) | scr (ns : List Int) | ptup (xs : List D) | cls (c : Nat) | fct (p : Px)
/-- the written part, the classes by number: where each stands, the names of its fields in order -/
structure Gx where
  K : PySem.W.Frag
  cls : Nat → Addr
  fld : Nat → List Str
mutual
def Is (G : Gx) (F : Hp) : D → V → Prop
  | .non, v => v = .non
  | .bl b, v => v = .bl b
  | .int i, v => v = .int i
  | .str x, v => v = .str x
  | .tup ds, v => ∃ a xs, v = .ref a ∧ SqT G.K F a xs ∧ IsAll G F ds xs
  | .lst ds, v => ∃ a xs, v = .ref a ∧ F a = some (.lst xs) ∧ IsAll G F ds xs
  | .scr ns, v => ∃ a, v = .ref a ∧ SqL G.K F a (ns.map V.int)
  | .cls c, v => v = .ref (G.cls c)
  | .fct p, v => p.φ F v
  | .ptup ds, v => ∃ a xs o, v = .ref a ∧ F a = some (.frz o (.tup xs)) ∧ o.dict = none ∧ IsAll G F ds xs
  | .emp, v => ∃ a, v = .ref a ∧ F a = some (.dK [])
  | .obj c ds, v => ∃ a dx fs, v = .ref a ∧ F a = some (.ins (G.cls c) dx fs) ∧ fs.map (·.1) = G.fld c ∧ IsAll G F ds (fs.map (·.2))
def IsAll (G : Gx) (F : Hp) : List D → List V → Prop
  | [], vs => vs = []
  | d :: ds, vs => ∃ v r, vs = v :: r ∧ Is G F d v ∧ IsAll G F ds r
end
section
variable {G : Gx} {F F' H H' : Hp}
theorem same_rd {a : Addr} {u : HO} (e : Same F F') (h : Rd F a u) : Rd F' a u := by
  rcases h with h | ⟨o, h⟩
  · exact .inl (e a _ h)
  · exact .inr ⟨o, e a _ h⟩
theorem same_t {K : PySem.W.Frag} {a : Addr} {xs : List V} (e : Same F F') (h : SqT K F a xs) : SqT K F' a xs := by
  rcases h with h | h
  · exact .inl (same_rd e h)
  · exact .inr h
theorem same_l {K : PySem.W.Frag} {a : Addr} {xs : List V} (e : Same F F') (h : SqL K F a xs) : SqL K F' a xs := by
  rcases h with h | h
  · exact .inl (same_rd e h)
  · exact .inr h
mutual
theorem Is.mono (e : Same F F') : ∀ (d : D) {v : V}, Is G F d v → Is G F' d v
  | .non, _, h => h
  | .bl _, _, h => h
  | .int _, _, h => h
  | .str _, _, h => h
  | .tup ds, _, h => by
    obtain ⟨a, xs, rfl, h1, h2⟩ := h
    exact ⟨a, xs, rfl, same_t e h1, IsAll.mono e ds h2⟩
  | .lst ds, _, h => by
    obtain ⟨a, xs, rfl, h1, h2⟩ := h
    exact ⟨a, xs, rfl, e _ _ h1, IsAll.mono e ds h2⟩
  | .scr ns, _, h => by
    obtain ⟨a, rfl, h1⟩ := h
    exact ⟨a, rfl, same_l e h1⟩
  | .cls _, _, h => h
  | .fct p, _, h => p.mono F F' _ e h
  | .ptup ds, _, h => by
    obtain ⟨a, xs, o, rfl, h1, h2, h3⟩ := h
    exact ⟨a, xs, o, rfl, e _ _ h1, h2, IsAll.mono e ds h3⟩
  | .emp, _, h => by
    obtain ⟨a, rfl, h1⟩ := h
    exact ⟨a, rfl, e _ _ h1⟩
  | .obj c ds, _, h => by
    obtain ⟨a, dx, fs, rfl, h1, h2, h3⟩ := h
    exact ⟨a, dx, fs, rfl, e _ _ h1, h2, IsAll.mono e ds h3⟩
theorem IsAll.mono (e : Same F F') : ∀ (ds : List D) {vs : List V}, IsAll G F ds vs → IsAll G F' ds vs
  | [], _, h => h
  | d :: ds, _, h => by
    obtain ⟨v, r, rfl, h1, h2⟩ := h
    exact ⟨v, r, rfl, Is.mono e d h1, IsAll.mono e ds h2⟩
end
theorem IsAll.length : ∀ {ds : List D} {vs : List V}, IsAll G F ds vs → vs.length = ds.length
  | [], _, h => by cases h; rfl
  | d :: ds, _, h => by
    obtain ⟨v, r, rfl, h1, h2⟩ := h
    rw [List.length_cons, List.length_cons, IsAll.length h2]
theorem IsAll.get : ∀ {ds : List D} {vs : List V} {i : Nat} {d : D}, IsAll G F ds vs → ds[i]? = some d → ∃ v, vs[i]? = some v ∧ Is G F d v
  | [], _, _, _, h, e => by simp at e
  | d :: ds, _, 0, _, h, e => by
    obtain ⟨v, r, rfl, h1, h2⟩ := h
    simp at e
    subst e
    exact ⟨v, rfl, h1⟩
  | d :: ds, _, i + 1, _, h, e => by
    obtain ⟨v, r, rfl, h1, h2⟩ := h
    simpa using IsAll.get (i := i) h2 (by simpa using e)
theorem IsAll.append : ∀ {ds es : List D} {vs ws : List V}, IsAll G F ds vs → IsAll G F es ws → IsAll G F (ds ++ es) (vs ++ ws)
  | [], _, _, _, h, h' => by cases h; exact h'
  | d :: ds, _, _, _, h, h' => by
    obtain ⟨v, r, rfl, h1, h2⟩ := h
    exact ⟨v, _, rfl, h1, IsAll.append h2 h'⟩
theorem IsAll.one {d : D} {v : V} (h : Is G F d v) : IsAll G F [d] [v] := ⟨v, [], rfl, h, rfl⟩
theorem IsAll.take : ∀ {ds : List D} {vs : List V} (n : Nat), IsAll G F ds vs → IsAll G F (ds.take n) (vs.take n)
  | _, _, 0, _ => by simp [IsAll]
  | [], _, n + 1, h => by cases h; simp [IsAll]
  | d :: ds, _, n + 1, h => by
    obtain ⟨v, r, rfl, h1, h2⟩ := h
    exact ⟨v, _, by simp, h1, IsAll.take n h2⟩
theorem IsAll.drop : ∀ {ds : List D} {vs : List V} (n : Nat), IsAll G F ds vs → IsAll G F (ds.drop n) (vs.drop n)
  | _, _, 0, h => h
  | [], _, n + 1, h => by cases h; simp [IsAll]
  | d :: ds, _, n + 1, h => by
    obtain ⟨v, r, rfl, h1, h2⟩ := h
    simpa using IsAll.drop n h2
theorem IsAll.set : ∀ {ds : List D} {vs : List V} (i : Nat) {d : D} {v : V}, IsAll G F ds vs → Is G F d v → IsAll G F (ds.set i d) (vs.set i v)
  | [], _, _, _, _, h, _ => by cases h; simp [IsAll]
  | d :: ds, _, 0, _, _, h, q => by
    obtain ⟨v, r, rfl, h1, h2⟩ := h
    exact ⟨_, r, rfl, q, h2⟩
  | d :: ds, _, i + 1, _, _, h, q => by
    obtain ⟨v, r, rfl, h1, h2⟩ := h
    exact ⟨v, _, rfl, h1, IsAll.set i h2 q⟩
theorem IsAll.reverse {ds : List D} {vs : List V} (h : IsAll G F ds vs) : IsAll G F ds.reverse vs.reverse := by
  induction ds generalizing vs with
  | nil => cases h; simp [IsAll]
  | cons d ds ih =>
    obtain ⟨v, r, rfl, h1, h2⟩ := h
    rw [List.reverse_cons, List.reverse_cons]
    exact (ih h2).append (.one h1)
end
/-! ### what a slot holds -/
/-- a thing of ours of several objects: where they stand, what is true of them and of the slot -/
structure Bx where
  own : List Addr
  φ : Hp → Hp → Option V → Prop
  there : ∀ F H o, φ F H o → ∀ a ∈ own, ∃ u, H a = some u ∧ F a = none
  mono : ∀ F F' H H' o, Same F F' → (∀ a ∈ own, ∀ u, H a = some u → F a = none → H' a = some u ∧ F' a = none) → φ F H o → φ F' H' o
/-- nothing known; a value; a list of ours; an instance of ours, its fields so far; a list of ours of lists of ours; a dict of ours -/
inductive Cell where
  | no | val (d : D) | own (l : Addr) (ds : List D) | ins (l : Addr) (c : Nat) (ds : List D) | mat (l : Addr) (ls : List Addr) (rows : List (List D)) | dic (l : Addr) (kvs : List (Key × D)) | big (b : Bx)
def ownA : Cell → Option Addr
  | .own l _ => some l
  | .ins l _ _ => some l
  | .dic l _ => some l
  | _ => none
/-- what a cell owns -/
def Has : Cell → Addr → Prop
  | .own l _, a => a = l
  | .ins l _ _, a => a = l
  | .mat l ls _, a => a = l ∨ a ∈ ls
  | .dic l _, a => a = l
  | .big b, a => a ∈ b.own
  | _, _ => False
theorem has_own {c : Cell} {l a : Addr} (h : ownA c = some l) : Has c a ↔ a = l := by
  cases c with
  | no => cases h
  | val d => cases h
  | own l' ds => cases h; exact Iff.rfl
  | ins l' k ds => cases h; exact Iff.rfl
  | mat l' ls rows => cases h
  | dic l' kvs => cases h; exact Iff.rfl
  | big b => cases h
theorem has_self {c : Cell} {l : Addr} (h : ownA c = some l) : Has c l := (has_own h).mpr rfl
/-- what stands at a thing of ours -/
def Hold (G : Gx) (F : Hp) : Cell → HO → Prop
  | .own _ ds, o => ∃ vs, o = .lst vs ∧ IsAll G F ds vs
  | .ins _ c ds, o => ∃ dx fs, o = .ins (G.cls c) dx fs ∧ fs.map (·.1) = (G.fld c).take ds.length ∧ IsAll G F ds (fs.map (·.2))
  | .dic _ kvs, o => ∃ ws : List (Key × V), o = .dK ws ∧ ws.map (·.1) = kvs.map (·.1) ∧ IsAll G F (kvs.map (·.2)) (ws.map (·.2))
  | _, _ => False
def At (G : Gx) (F H : Hp) (c : Cell) (o : Option V) : Prop := match c with
  | .no => True
  | .val d => ∃ v, o = some v ∧ Is G F d v
  | .mat l ls rows => o = some (.ref l) ∧ H l = some (.lst (ls.map .ref)) ∧ F l = none ∧ l ∉ ls ∧ ls.Nodup ∧ ls.length = rows.length ∧ ∀ (j : Nat) (a : Addr) (row : List D), ls[j]? = some a → rows[j]? = some row → ∃ vs, H a = some (.lst vs) ∧ F a = none ∧ IsAll G F row vs
  | .big b => b.φ F H o
  | c => ∃ l u, ownA c = some l ∧ o = some (.ref l) ∧ H l = some u ∧ F l = none ∧ Hold G F c u
theorem Hold.mono {G : Gx} {F F' : Hp} (e : Same F F') : ∀ {c : Cell} {o : HO}, Hold G F c o → Hold G F' c o
  | .no, _, h => h
  | .val _, _, h => h
  | .own _ ds, _, h => by
    obtain ⟨vs, h1, h2⟩ := h
    exact ⟨vs, h1, IsAll.mono e ds h2⟩
  | .ins _ c ds, _, h => by
    obtain ⟨dx, fs, h1, h2, h3⟩ := h
    exact ⟨dx, fs, h1, h2, IsAll.mono e ds h3⟩
  | .mat _ _ _, _, h => h
  | .big _, _, h => h
  | .dic _ kvs, _, h => by
    obtain ⟨ws, h1, h2, h3⟩ := h
    exact ⟨ws, h1, h2, IsAll.mono e _ h3⟩
theorem at_own {G : Gx} {F H : Hp} {c : Cell} {o : Option V} {l : Addr} (h : ownA c = some l) : At G F H c o ↔ ∃ u, o = some (.ref l) ∧ H l = some u ∧ F l = none ∧ Hold G F c u := by
  cases c with
  | no => cases h
  | val d => cases h
  | own l' ds =>
    cases h
    exact ⟨fun ⟨a, u, h1, h2, h3, h4, h5⟩ => by cases h1; exact ⟨u, h2, h3, h4, h5⟩, fun ⟨u, h2, h3, h4, h5⟩ => ⟨l, u, rfl, h2, h3, h4, h5⟩⟩
  | ins l' k ds =>
    cases h
    exact ⟨fun ⟨a, u, h1, h2, h3, h4, h5⟩ => by cases h1; exact ⟨u, h2, h3, h4, h5⟩, fun ⟨u, h2, h3, h4, h5⟩ => ⟨l, u, rfl, h2, h3, h4, h5⟩⟩
  | mat l' ls rows => cases h
  | dic l' kvs =>
    cases h
    exact ⟨fun ⟨a, u, h1, h2, h3, h4, h5⟩ => by cases h1; exact ⟨u, h2, h3, h4, h5⟩, fun ⟨u, h2, h3, h4, h5⟩ => ⟨_, u, rfl, h2, h3, h4, h5⟩⟩
  | big b => cases h
/-- a cell: nothing, a value, or something of ours -/
theorem cell_cases (c : Cell) : c = .no ∨ (∃ d, c = .val d) ∨ (∃ l, ownA c = some l) ∨ (∃ l ls rows, c = .mat l ls rows) ∨ ∃ b, c = .big b := by
  cases c with
  | no => exact .inl rfl
  | val d => exact .inr (.inl ⟨d, rfl⟩)
  | own l ds => exact .inr (.inr (.inl ⟨l, rfl⟩))
  | ins l k ds => exact .inr (.inr (.inl ⟨l, rfl⟩))
  | mat l ls rows => exact .inr (.inr (.inr (.inl ⟨l, ls, rows, rfl⟩)))
  | dic l kvs => exact .inr (.inr (.inl ⟨l, rfl⟩))
  | big b => exact .inr (.inr (.inr (.inr ⟨b, rfl⟩)))
theorem At.has {G : Gx} {F H : Hp} {c : Cell} {o : Option V} {a : Addr} (h : At G F H c o) (ha : Has c a) : ∃ u, H a = some u ∧ F a = none := by
  rcases cell_cases c with rfl | ⟨d, rfl⟩ | ⟨l, hc⟩ | ⟨l, ls, rows, rfl⟩ | ⟨b, rfl⟩
  · exact False.elim ha
  · exact False.elim ha
  · obtain ⟨u, _, h1, h2, _⟩ := (at_own hc).mp h
    rw [(has_own hc).mp ha]
    exact ⟨u, h1, h2⟩
  · obtain ⟨_, h1, h2, _, _, hl, h3⟩ := h
    rcases ha with rfl | ha
    · exact ⟨_, h1, h2⟩
    · obtain ⟨j, hj⟩ := List.getElem?_of_mem ha
      have hlt : j < rows.length := by rw [← hl]; exact (List.getElem?_eq_some_iff.mp hj).1
      obtain ⟨vs, q1, q2, _⟩ := h3 j a rows[j] hj (List.getElem?_eq_getElem hlt)
      exact ⟨_, q1, q2⟩
  · exact b.there F H o h a ha
def Owns (cs : List Cell) (l : Addr) : Prop := ∃ (i : Nat) (c : Cell), cs[i]? = some c ∧ Has c l
structure Rel (G : Gx) (F : Hp) (σ : L2.St) (H : Hp) (cs : List Cell) : Prop where
  sub : Same F H
  len : σ.length = cs.length
  cel : ∀ (i : Nat) (c : Cell), cs[i]? = some c → ∃ o, σ[i]? = some o ∧ At G F H c o
  inj : ∀ (l : Addr) (i j : Nat) (c d : Cell), cs[i]? = some c → cs[j]? = some d → Has c l → Has d l → i = j
structure Stp (F H : Hp) (O : Addr → Prop) (F' H' : Hp) (O' : Addr → Prop) : Prop where
  fsub : Same F F'
  frame : ∀ a o, H a = some o → ¬ O a → H' a = some o
  fresh : ∀ a o, F' a = some o → F a = some o ∨ H a = none ∨ O a
  own : ∀ a, O' a → O a ∨ H a = none
  back : ∀ a, H' a = none → H a = none
section
variable {G : Gx} {F F1 F2 F' H H1 H2 H' : Hp} {O O1 O2 : Addr → Prop} {σ : L2.St} {cs cs' : List Cell}
theorem Stp.refl : Stp F H O F H O := ⟨Same.refl F, fun _ _ h _ => h, fun _ _ h => .inl h, fun _ h => .inl h, fun _ h => h⟩
theorem Stp.trans (a : Stp F H O F1 H1 O1) (b : Stp F1 H1 O1 F2 H2 O2) : Stp F H O F2 H2 O2 where
  fsub := a.fsub.trans b.fsub
  frame := fun x o h n => b.frame x o (a.frame x o h n) fun q => by
    rcases a.own x q with z | z
    · exact n z
    · rw [z] at h; cases h
  fresh := fun x o h => by
    rcases b.fresh x o h with z | z | z
    · exact a.fresh x o z
    · exact .inr (.inl (a.back x z))
    · rcases a.own x z with q | q
      · exact .inr (.inr q)
      · exact .inr (.inl q)
  own := fun x h => by
    rcases b.own x h with z | z
    · exact a.own x z
    · exact .inr (a.back x z)
  back := fun x h => a.back x (b.back x h)
/-- nothing owned is touched: the heap and what is known grow -/
structure Grow (F H F' H' : Hp) : Prop where
  fsub : Same F F'
  hsub : Same H H'
  sub : Same F' H'
  fresh : ∀ a o, F' a = some o → F a = some o ∨ H a = none
theorem Grow.refl (h : Same F H) : Grow F H F H := ⟨Same.refl F, Same.refl H, h, fun _ _ h => .inl h⟩
theorem Grow.trans (a : Grow F H F1 H1) (b : Grow F1 H1 F2 H2) : Grow F H F2 H2 :=
  ⟨a.fsub.trans b.fsub, a.hsub.trans b.hsub, b.sub, fun x o h => by
    rcases b.fresh x o h with z | z
    · exact a.fresh x o z
    · exact .inr (a.hsub.free z)⟩
theorem Grow.stp (g : Grow F H F' H') : Stp F H O F' H' O :=
  ⟨g.fsub, fun a o h _ => g.hsub a o h, fun a o h => (g.fresh a o h).imp id .inl, fun _ h => .inl h, fun _ h => g.hsub.free h⟩
/-- a cell as it is, what is known has grown -/
theorem At.mono {c : Cell} {o : Option V} (h : At G F H c o) (e : Same F F') (hl : ∀ l u, Has c l → H l = some u → F l = none → H' l = some u ∧ F' l = none) : At G F' H' c o := by
  rcases cell_cases c with rfl | ⟨d, rfl⟩ | ⟨l, hc⟩ | ⟨l, ls, rows, rfl⟩ | ⟨b, rfl⟩
  · trivial
  · obtain ⟨v, e1, q⟩ := h
    exact ⟨v, e1, Is.mono e d q⟩
  · obtain ⟨u, e1, h1, h2, h3⟩ := (at_own hc).mp h
    obtain ⟨a1, a2⟩ := hl l u (has_self hc) h1 h2
    exact (at_own hc).mpr ⟨u, e1, a1, a2, h3.mono e⟩
  · obtain ⟨e1, h1, h2, h3, h4, h5, h6⟩ := h
    obtain ⟨a1, a2⟩ := hl l _ (.inl rfl) h1 h2
    refine ⟨e1, a1, a2, h3, h4, h5, fun j a row hj hr => ?_⟩
    obtain ⟨vs, q1, q2, q3⟩ := h6 j a row hj hr
    obtain ⟨b1, b2⟩ := hl a _ (.inr (List.mem_of_getElem? hj)) q1 q2
    exact ⟨vs, b1, b2, IsAll.mono e row q3⟩
  · exact b.mono F F' H H' o e (fun a ha u => hl a u ha) h
theorem Rel.grow (r : Rel G F σ H cs) (g : Grow F H F' H') : Rel G F' σ H' cs where
  sub := g.sub
  len := r.len
  inj := r.inj
  cel := fun i c e => by
    obtain ⟨o, e1, q⟩ := r.cel i c e
    refine ⟨o, e1, q.mono g.fsub fun l u _ h1 h2 => ⟨g.hsub _ _ h1, ?_⟩⟩
    cases z : F' l with
    | none => rfl
    | some u =>
      rcases g.fresh l u z with y | y
      · rw [h2] at y; cases y
      · rw [h1] at y; cases y
theorem Rel.val (r : Rel G F σ H cs) {i : Nat} {d : D} (e : cs[i]? = some (.val d)) : ∃ v, σ[i]? = some (some v) ∧ Is G F d v := by
  obtain ⟨o, e1, v, e2, q⟩ := r.cel i _ e
  subst e2
  exact ⟨v, e1, q⟩
theorem Rel.owned (r : Rel G F σ H cs) {i : Nat} {c : Cell} {l : Addr} (e : cs[i]? = some c) (h : ownA c = some l) : ∃ u, σ[i]? = some (some (.ref l)) ∧ H l = some u ∧ F l = none ∧ Hold G F c u := by
  obtain ⟨o, e1, q⟩ := r.cel i c e
  obtain ⟨u, rfl, h1, h2, h3⟩ := (at_own h).mp q
  exact ⟨u, e1, h1, h2, h3⟩
theorem Rel.own (r : Rel G F σ H cs) {i : Nat} {l : Addr} {ds : List D} (e : cs[i]? = some (.own l ds)) : ∃ vs, σ[i]? = some (some (.ref l)) ∧ H l = some (.lst vs) ∧ F l = none ∧ IsAll G F ds vs := by
  obtain ⟨u, e1, h1, h2, vs, rfl, h3⟩ := r.owned e rfl
  exact ⟨vs, e1, h1, h2, h3⟩
theorem get_set {α : Type} {l : List α} {i j : Nat} {x y : α} (h : (l.set i x)[j]? = some y) : (i = j ∧ y = x ∧ i < l.length) ∨ (i ≠ j ∧ l[j]? = some y) := by
  by_cases e : i = j
  · subst e
    by_cases hi : i < l.length
    · rw [List.getElem?_set_self hi] at h
      cases h
      exact .inl ⟨rfl, rfl, hi⟩
    · rw [List.getElem?_eq_none (by simpa using hi)] at h; cases h
  · rw [List.getElem?_set_ne e] at h
    exact .inr ⟨e, h⟩
theorem inj_free {i : Nat} {c0 : Cell} (h0 : ∀ a, ¬ Has c0 a) (r : Rel G F σ H cs) : ∀ (l : Addr) (a b : Nat) (c d : Cell), (cs.set i c0)[a]? = some c → (cs.set i c0)[b]? = some d → Has c l → Has d l → a = b := fun l a b c d h1 h2 e1 e2 => by
  rcases get_set h1 with ⟨_, z, _⟩ | ⟨_, h1⟩
  · rw [z] at e1; exact absurd e1 (h0 _)
  · rcases get_set h2 with ⟨_, z, _⟩ | ⟨_, h2⟩
    · rw [z] at e2; exact absurd e2 (h0 _)
    · exact r.inj l a b c d h1 h2 e1 e2
/-- a slot is given a value -/
theorem Rel.setVal (r : Rel G F σ H cs) {i : Nat} {d : D} {v : V} (q : Is G F d v) : Rel G F (σ.set i (some v)) H (cs.set i (.val d)) where
  sub := r.sub
  len := by rw [List.length_set, List.length_set]; exact r.len
  inj := inj_free (fun _ h => h) r
  cel := fun j c e => by
    rcases get_set e with ⟨rfl, rfl, hi⟩ | ⟨n, e⟩
    · exact ⟨some v, by rw [List.getElem?_set_self (by rw [r.len]; exact hi)], v, rfl, q⟩
    · obtain ⟨o, e1, q1⟩ := r.cel j c e
      exact ⟨o, by rw [List.getElem?_set_ne n]; exact e1, q1⟩
theorem Rel.setNo (r : Rel G F σ H cs) {i : Nat} {o : Option V} : Rel G F (σ.set i o) H (cs.set i .no) where
  sub := r.sub
  len := by rw [List.length_set, List.length_set]; exact r.len
  inj := inj_free (fun _ h => h) r
  cel := fun j c e => by
    rcases get_set e with ⟨rfl, rfl, hi⟩ | ⟨n, e⟩
    · exact ⟨o, by rw [List.getElem?_set_self (by rw [r.len]; exact hi)], trivial⟩
    · obtain ⟨o, e1, q1⟩ := r.cel j c e
      exact ⟨o, by rw [List.getElem?_set_ne n]; exact e1, q1⟩
/-- forgetting a slot, the slots as they are -/
theorem Rel.forget (r : Rel G F σ H cs) (i : Nat) : Rel G F σ H (cs.set i .no) where
  sub := r.sub
  len := by rw [List.length_set]; exact r.len
  inj := inj_free (fun _ h => h) r
  cel := fun j c e => by
    rcases get_set e with ⟨rfl, rfl, hi⟩ | ⟨n, e⟩
    · exact ⟨σ[i]'(by rw [r.len]; exact hi), List.getElem?_eq_getElem _, trivial⟩
    · exact r.cel j c e
theorem Owns.set {i : Nat} {c : Cell} {a : Addr} (h : Owns (cs.set i c) a) : Owns cs a ∨ Has c a := by
  obtain ⟨j, d, e, q⟩ := h
  rcases get_set e with ⟨_, z, _⟩ | ⟨_, e⟩
  · exact .inr (z ▸ q)
  · exact .inl ⟨j, d, e, q⟩
/-- a slot is given a thing of ours -/
theorem Rel.setCell (r : Rel G F σ H cs) {i : Nat} {l : Addr} {c : Cell} {u : HO} (hc : ownA c = some l) (h1 : H l = some u) (h2 : F l = none) (q : Hold G F c u) (no : ¬ Owns cs l) : Rel G F (σ.set i (some (.ref l))) H (cs.set i c) where
  sub := r.sub
  len := by rw [List.length_set, List.length_set]; exact r.len
  inj := fun l' a b c1 d1 h1 h2 e1 e2 => by
    rcases get_set h1 with ⟨ea, z, _⟩ | ⟨ea, h1⟩
    · rcases get_set h2 with ⟨eb, z2, _⟩ | ⟨eb, h2⟩
      · omega
      · rw [z] at e1
        cases (has_own hc).mp e1
        exact absurd ⟨b, d1, h2, e2⟩ no
    · rcases get_set h2 with ⟨_, z, _⟩ | ⟨_, h2⟩
      · rw [z] at e2
        cases (has_own hc).mp e2
        exact absurd ⟨a, c1, h1, e1⟩ no
      · exact r.inj l' a b c1 d1 h1 h2 e1 e2
  cel := fun j c e => by
    rcases get_set e with ⟨rfl, rfl, hi⟩ | ⟨n, e⟩
    · exact ⟨_, by rw [List.getElem?_set_self (by rw [r.len]; exact hi)], (at_own hc).mpr ⟨u, rfl, h1, h2, q⟩⟩
    · obtain ⟨o, e1, q1⟩ := r.cel j c e
      exact ⟨o, by rw [List.getElem?_set_ne n]; exact e1, q1⟩
theorem Rel.setOwn (r : Rel G F σ H cs) {i : Nat} {l : Addr} {ds : List D} {vs : List V} (h1 : H l = some (.lst vs)) (h2 : F l = none) (q : IsAll G F ds vs) (no : ¬ Owns cs l) : Rel G F (σ.set i (some (.ref l))) H (cs.set i (.own l ds)) := r.setCell rfl h1 h2 ⟨vs, rfl, q⟩ no
/-- a thing of ours is written -/
theorem Rel.put (r : Rel G F σ H cs) {i : Nat} {l : Addr} {c d : Cell} {u : HO} (e : cs[i]? = some c) (hc : ownA c = some l) (hd : ownA d = some l) (q : Hold G F d u) : Rel G F σ (upd H l u) (cs.set i d) where
  sub := fun a o h => by
    obtain ⟨_, _, h1, h2, _⟩ := r.owned e hc
    rw [upd_ne (fun z => by rw [z, h2] at h; cases h)]
    exact r.sub a o h
  len := by rw [List.length_set]; exact r.len
  inj := fun l' a b c1 d1 h1 h2 e1 e2 => by
    have un : ∀ {j : Nat} {c1 : Cell}, (cs.set i d)[j]? = some c1 → Has c1 l' → ∃ c2, cs[j]? = some c2 ∧ Has c2 l' := fun {j c1} h he => by
      rcases get_set h with ⟨rfl, z, _⟩ | ⟨_, h⟩
      · rw [z] at he; cases (has_own hd).mp he; exact ⟨_, e, has_self hc⟩
      · exact ⟨_, h, he⟩
    obtain ⟨_, h1, e1⟩ := un h1 e1
    obtain ⟨_, h2, e2⟩ := un h2 e2
    exact r.inj l' a b _ _ h1 h2 e1 e2
  cel := fun j c1 e' => by
    obtain ⟨_, hs, h1, h2, _⟩ := r.owned e hc
    rcases get_set e' with ⟨rfl, rfl, hi⟩ | ⟨n, e2⟩
    · exact ⟨_, hs, (at_own hd).mpr ⟨u, rfl, upd_same, h2, q⟩⟩
    · obtain ⟨o, e1, q1⟩ := r.cel j c1 e2
      refine ⟨o, e1, q1.mono (Same.refl F) fun l' u' ho a1 a2 => ⟨?_, a2⟩⟩
      have : l' ≠ l := fun z => n (by subst z; exact (r.inj _ _ _ _ _ e e2 (has_self hc) ho))
      rw [upd_ne this]
      exact a1
theorem Rel.write (r : Rel G F σ H cs) {i : Nat} {l : Addr} {ds es : List D} {ws : List V} (e : cs[i]? = some (.own l ds)) (q : IsAll G F es ws) : Rel G F σ (upd H l (.lst ws)) (cs.set i (.own l es)) := r.put e rfl rfl ⟨ws, rfl, q⟩
theorem Owns.of {i : Nat} {l : Addr} {ds : List D} (e : cs[i]? = some (.own l ds)) : Owns cs l := ⟨i, _, e, rfl⟩
theorem Owns.mut {i : Nat} {l a : Addr} {c d : Cell} (e : cs[i]? = some c) (hc : ownA c = some l) (hd : ownA d = some l) : Owns (cs.set i d) a → Owns cs a := fun h => by
  rcases h.set with z | z
  · exact z
  · cases (has_own hd).mp z; exact ⟨i, c, e, has_self hc⟩
theorem Stp.put {i : Nat} {l : Addr} {c d : Cell} {u : HO} (e : cs[i]? = some c) (hc : ownA c = some l) (hd : ownA d = some l) : Stp F H (Owns cs) F (upd H l u) (Owns (cs.set i d)) :=
  ⟨Same.refl F, fun a o h n => by rw [upd_ne (fun z => n (by rw [z]; exact ⟨i, c, e, has_self hc⟩))]; exact h, fun _ _ h => .inl h, fun _ h => .inl (Owns.mut e hc hd h), fun a h => by
    by_cases z : a = l
    · rw [z, upd_same] at h; cases h
    · rw [upd_ne z] at h; exact h⟩
theorem Stp.write {i : Nat} {l : Addr} {ds es : List D} {ws : List V} (e : cs[i]? = some (.own l ds)) : Stp F H (Owns cs) F (upd H l (.lst ws)) (Owns (cs.set i (.own l es))) := Stp.put e rfl rfl
/-- a thing of ours becomes a value -/
theorem Rel.know (r : Rel G F σ H cs) {i : Nat} {l : Addr} {c : Cell} {d : D} {u : HO} (e : cs[i]? = some c) (hc : ownA c = some l) (h1 : H l = some u) (hd : Is G (upd F l u) d (.ref l)) : Rel G (upd F l u) σ H (cs.set i (.val d)) ∧ Stp F H (Owns cs) (upd F l u) H (Owns (cs.set i (.val d))) := by
  obtain ⟨u', hs, h1', h2, h3⟩ := r.owned e hc
  have up : Same F (upd F l u) := fun a o h => by
    rw [upd_ne (fun z => by rw [z, h2] at h; cases h)]; exact h
  refine ⟨⟨fun a o h => ?_, by rw [List.length_set]; exact r.len, fun j c1 e' => ?_, inj_free (fun _ h => h) r⟩, ⟨up, fun _ _ h _ => h, fun a o h => ?_, fun a h => ?_, fun _ h => h⟩⟩
  · by_cases z : a = l
    · subst z; rw [upd_same] at h; cases h; exact h1
    · rw [upd_ne z] at h; exact r.sub a o h
  · rcases get_set e' with ⟨rfl, rfl, hi⟩ | ⟨n, e2⟩
    · exact ⟨_, hs, _, rfl, hd⟩
    · obtain ⟨o, e1, q1⟩ := r.cel j c1 e2
      refine ⟨o, e1, q1.mono up fun l' u2 ho a1 a2 => ⟨a1, ?_⟩⟩
      have : l' ≠ l := fun z => n (by subst z; exact (r.inj _ _ _ _ _ e e2 (has_self hc) ho))
      rw [upd_ne this]
      exact a2
  · by_cases z : a = l
    · exact .inr (.inr (by rw [z]; exact ⟨i, c, e, has_self hc⟩))
    · rw [upd_ne z] at h; exact .inl h
  · rcases h.set with z | z
    · exact .inl z
    · cases z
theorem Rel.freeze (r : Rel G F σ H cs) {i : Nat} {l : Addr} {ds : List D} {vs : List V} (e : cs[i]? = some (.own l ds)) (h1 : H l = some (.lst vs)) : Rel G (upd F l (.lst vs)) σ H (cs.set i (.val (.lst ds))) ∧ Stp F H (Owns cs) (upd F l (.lst vs)) H (Owns (cs.set i (.val (.lst ds)))) := by
  obtain ⟨vs', hs, h1', h2, h3⟩ := r.own e
  rw [h1] at h1'
  cases h1'
  refine r.know e rfl h1 ⟨l, vs, rfl, upd_same, IsAll.mono (fun a o h => ?_) ds h3⟩
  rw [upd_ne (fun z => by rw [z, h2] at h; cases h)]; exact h
theorem Rel.stp_free {i : Nat} {c : Cell} (h0 : ∀ a, ¬ Has c a) : Stp F H (Owns cs) F H (Owns (cs.set i c)) :=
  ⟨Same.refl F, fun _ _ h _ => h, fun _ _ h => .inl h, fun a h => by
    rcases h.set with z | z
    · exact .inl z
    · exact absurd z (h0 _), fun _ h => h⟩
theorem Rel.stp_no (i : Nat) : Stp F H (Owns cs) F H (Owns (cs.set i .no)) := Rel.stp_free fun _ h => h
theorem Rel.stp_val (i : Nat) (d : D) : Stp F H (Owns cs) F H (Owns (cs.set i (.val d))) := Rel.stp_free fun _ h => h
theorem Rel.notOwns (r : Rel G F σ H cs) {l : Addr} (h : H l = none) : ¬ Owns cs l := fun ⟨_, _, e, q⟩ => by
  obtain ⟨o, _, q1⟩ := r.cel _ _ e
  obtain ⟨u, h1, _⟩ := q1.has q
  rw [h] at h1; cases h1
/-- each thing of ours is there but once -/
theorem Rel.once (r : Rel G F σ H cs) {i : Nat} {l : Addr} {c c0 : Cell} (e : cs[i]? = some c) (hc : ownA c = some l) (h0 : ∀ a, ¬ Has c0 a) : ¬ Owns (cs.set i c0) l := fun ⟨j, d, ej, q⟩ => by
  rcases get_set ej with ⟨_, z, _⟩ | ⟨n, ej⟩
  · rw [z] at q; exact absurd q (h0 _)
  · exact n (r.inj _ _ _ _ _ e ej (has_self hc) q)
end
end Fx
/-! What an expression, a test, a statement comes to, told by cells. -/
namespace Fx
open PySem L2
def Ev (G : Gx) (te : TE) (cs : List Cell) (d : D) (cs' : List Cell) : Prop := ∀ (F : Hp) (σ : L2.St) (H : Hp) (Q : VK), Rel G F σ H cs →
  (∀ v F' H', Stp F H (Owns cs) F' H' (Owns cs') → Rel G F' σ H' cs' → Is G F' d v → Q v H') → te σ H Q
/-- .. a new list -/
def EvN (G : Gx) (te : TE) (cs : List Cell) (ds : List D) (cs' : List Cell) : Prop := ∀ (F : Hp) (σ : L2.St) (H : Hp) (Q : VK), Rel G F σ H cs →
  (∀ p vs F' H', Stp F H (Owns cs) F' H' (Owns cs') → Rel G F' σ H' cs' → H p = none → ¬ Owns cs' p → H' p = some (.lst vs) → F' p = none → IsAll G F' ds vs → Q (.ref p) H') → te σ H Q
def EvT (G : Gx) (tt : TT) (cs : List Cell) (b : Bool) (cs' : List Cell) : Prop := ∀ (F : Hp) (σ : L2.St) (H : Hp) (Q : Bool → Hp → Prop), Rel G F σ H cs →
  (∀ F' H', Stp F H (Owns cs) F' H' (Owns cs') → Rel G F' σ H' cs' → Q b H') → tt σ H Q
/-- arguments that are values -/
def EvV (G : Gx) (ta : TA) (cs : List Cell) (ds : List D) (cs' : List Cell) : Prop := ∀ (F : Hp) (σ : L2.St) (H : Hp) (Q : List V → Hp → Prop), Rel G F σ H cs →
  (∀ vs F' H', Stp F H (Owns cs) F' H' (Owns cs') → Rel G F' σ H' cs' → IsAll G F' ds vs → Q vs H') → ta σ H Q
/-- arguments, the first a list of ours -/
def EvP (G : Gx) (ta : TA) (cs : List Cell) (l : Addr) (ds : List D) (cs' : List Cell) : Prop := ∀ (F : Hp) (σ : L2.St) (H : Hp) (Q : List V → Hp → Prop), Rel G F σ H cs →
  (∀ vs F' H', Stp F H (Owns cs) F' H' (Owns cs') → Rel G F' σ H' cs' → IsAll G F' ds vs → Q (.ref l :: vs) H') → ta σ H Q
structure Post where
  nx : List Cell → Prop
  rt : D → List Cell → Prop := fun _ _ => False
  rn : List D → List Cell → Prop := fun _ _ => False
  bk : List Cell → Prop := fun _ => False
  ct : List Cell → Prop := fun _ => False
def Goes (G : Gx) (F H : Hp) (O : Addr → Prop) (p : List Cell → Prop) (k : L2.St → Hp → Prop) : Prop := ∀ cs' σ' F' H', p cs' → Stp F H O F' H' (Owns cs') → Rel G F' σ' H' cs' → k σ' H'
def GoesV (G : Gx) (F H : Hp) (O : Addr → Prop) (p : D → List Cell → Prop) (k : VK) : Prop := ∀ d cs' σ' F' H' v, p d cs' → Stp F H O F' H' (Owns cs') → Rel G F' σ' H' cs' → Is G F' d v → k v H'
def GoesN (G : Gx) (F H : Hp) (O : Addr → Prop) (p : List D → List Cell → Prop) (k : VK) : Prop := ∀ ds cs' σ' F' H' q vs, p ds cs' → Stp F H O F' H' (Owns cs') → Rel G F' σ' H' cs' → (H q = none ∨ O q) → ¬ Owns cs' q → H' q = some (.lst vs) → F' q = none → IsAll G F' ds vs → k (.ref q) H'
def Sx (G : Gx) (ts : TS) (cs : List Cell) (P : Post) : Prop := ∀ (F : Hp) (σ : L2.St) (H : Hp) (E : Ends), Rel G F σ H cs →
  Goes G F H (Owns cs) P.nx E.nx → GoesV G F H (Owns cs) P.rt E.rt → GoesN G F H (Owns cs) P.rn E.rt → Goes G F H (Owns cs) P.bk E.bk → Goes G F H (Owns cs) P.ct E.ct → ts E σ H
section
variable {G : Gx} {F F' H H' : Hp} {O O' : Addr → Prop} {p : List Cell → Prop} {k : L2.St → Hp → Prop}
theorem Goes.after (g : Goes G F H O p k) (s : Stp F H O F' H' O') : Goes G F' H' O' p k := fun cs' σ' F2 H2 hp st r => g cs' σ' F2 H2 hp (s.trans st) r
theorem GoesV.after {p : D → List Cell → Prop} {k : VK} (g : GoesV G F H O p k) (s : Stp F H O F' H' O') : GoesV G F' H' O' p k := fun d cs' σ' F2 H2 v hp st r q => g d cs' σ' F2 H2 v hp (s.trans st) r q
theorem GoesN.after {p : List D → List Cell → Prop} {k : VK} (g : GoesN G F H O p k) (s : Stp F H O F' H' O') : GoesN G F' H' O' p k := fun d cs' σ' F2 H2 v vs hp st r n q1 q2 q3 q4 => g d cs' σ' F2 H2 v vs hp (s.trans st) r (by
  rcases n with n | n
  · exact .inl (s.back v n)
  · rcases s.own v n with z | z
    · exact .inr z
    · exact .inl z) q1 q2 q3 q4
end
/-! ### the text's own readings -/
section
variable (X : Cx)
def rdE (e : Expr) : TE := fun σ H Q => ∀ (pins : List (Addr × Obj)) (s : Shared), Inv X pins σ H s → wpAny (model X.prog X.w) X.A (eval e X.env) (EP X pins σ Q) X.xe s
def rdT (e : Expr) : TT := fun σ H Q => ∀ (pins : List (Addr × Obj)) (s : Shared), Inv X pins σ H s → wpAny (model X.prog X.w) X.A (isTrue e X.env (eval e X.env)) (TP X pins σ Q) X.xe s
def rdA (es : List Expr) : TA := fun σ H Q => ∀ (pos : Pos) (pins : List (Addr × Obj)) (s : Shared), Inv X pins σ H s → wpAny (model X.prog X.w) X.A (spliced (backTo pos (starEach es X.env))) (AP X pins σ Q) X.xe s
def rdS (st : Stmt) : TS := fun D σ H => ∀ (pins : List (Addr × Obj)) (s : Shared), Inv X pins σ H s → wpAny (model X.prog X.w) X.A (exec st X.env) (SP X pins D) X.xe s
def rdSs (st : List Stmt) : TS := fun D σ H => ∀ (pins : List (Addr × Obj)) (s : Shared), Inv X pins σ H s → wpAny (model X.prog X.w) X.A (execs st X.env) (SP X pins D) X.xe s
end
section
variable {X : Cx} {G : Gx} {e : Expr} {es : List Expr} {st : Stmt} {sts : List Stmt} {te : TE} {tt : TT} {ta : TA} {ts : TS} {cs cs' cs1 cs2 : List Cell} {d x y z : D} {ds : List D} {b : Bool} {l : Addr}
theorem pe_rd : PE X e (rdE X e) := ⟨fun pins s _ _ _ I h => h pins s I⟩
theorem pt_rd : PT X e (rdT X e) := ⟨fun pins s _ _ _ I h => h pins s I⟩
theorem pa_rd : PA X es (rdA X es) := ⟨fun pos pins s _ _ _ I h => h pos pins s I⟩
theorem ps_rd : PS X st (rdS X st) := ⟨fun pins s _ _ _ I h => h pins s I⟩
theorem pss_rd : PSs X sts (rdSs X sts) := ⟨fun pins s _ _ _ I h => h pins s I⟩
theorem ev_of (h : PE X e te) (q : Ev G te cs d cs') : Ev G (rdE X e) cs d cs' := fun F σ H Q r k pins s I => h.run pins s σ H Q I (q F σ H Q r k)
theorem evn_of (h : PE X e te) (q : EvN G te cs ds cs') : EvN G (rdE X e) cs ds cs' := fun F σ H Q r k pins s I => h.run pins s σ H Q I (q F σ H Q r k)
theorem evt_of (h : PT X e tt) (q : EvT G tt cs b cs') : EvT G (rdT X e) cs b cs' := fun F σ H Q r k pins s I => h.run pins s σ H Q I (q F σ H Q r k)
theorem evv_of (h : PA X es ta) (q : EvV G ta cs ds cs') : EvV G (rdA X es) cs ds cs' := fun F σ H Q r k pos pins s I => h.run pos pins s σ H Q I (q F σ H Q r k)
theorem evp_of (h : PA X es ta) (q : EvP G ta cs l ds cs') : EvP G (rdA X es) cs l ds cs' := fun F σ H Q r k pos pins s I => h.run pos pins s σ H Q I (q F σ H Q r k)
theorem sx_of {P : Post} (h : PS X st ts) (q : Sx G ts cs P) : Sx G (rdS X st) cs P := fun F σ H D r k1 k2 k3 k4 k5 pins s I => h.run pins s σ H D I (q F σ H D r k1 k2 k3 k4 k5)
theorem sxs_of {P : Post} (h : PSs X sts ts) (q : Sx G ts cs P) : Sx G (rdSs X sts) cs P := fun F σ H D r k1 k2 k3 k4 k5 pins s I => h.run pins s σ H D I (q F σ H D r k1 k2 k3 k4 k5)
/-! ### a new list as a value -/
theorem EvN.ev (h : EvN G te cs ds cs') : Ev G te cs (.lst ds) cs' := fun F σ H Q r k => h F σ H Q r fun p vs F' H' st r' hp no h1 h2 q => by
  have up : Same F' (upd F' p (.lst vs)) := fun a o e => by rw [upd_ne (ne_of_none e h2)]; exact e
  have g : Rel G (upd F' p (.lst vs)) σ H' cs' := by
    refine ⟨fun a o e => ?_, r'.len, fun i c e => ?_, r'.inj⟩
    · by_cases z : a = p
      · subst z; rw [upd_same] at e; cases e; exact h1
      · rw [upd_ne z] at e; exact r'.sub a o e
    · obtain ⟨o, e1, q1⟩ := r'.cel i c e
      refine ⟨o, e1, q1.mono up fun l' u ho a1 a2 => ⟨a1, ?_⟩⟩
      have : l' ≠ p := fun z => no (by subst z; exact ⟨i, c, e, ho⟩)
      rw [upd_ne this]
      exact a2
  refine k (.ref p) (upd F' p (.lst vs)) H' ⟨st.fsub.trans up, st.frame, fun a o e => ?_, st.own, st.back⟩ g ⟨p, vs, rfl, upd_same, IsAll.mono up ds q⟩
  by_cases z : a = p
  · subst z; exact .inr (.inl hp)
  · rw [upd_ne z] at e; exact st.fresh a o e
/-! ### names, constants -/
theorem ev_tVar {i : Nat} (h : cs[i]? = some (.val d)) : Ev G (tVar i) cs d cs := fun F σ H Q r k => by
  obtain ⟨v, e, q⟩ := r.val h
  exact ⟨v, e, k v F H .refl r q⟩
theorem ev_tVarO {i : Nat} (h : cs[i]? = some (.own l ds)) : Ev G (tVar i) cs (.lst ds) (cs.set i (.val (.lst ds))) := fun F σ H Q r k => by
  obtain ⟨vs, e, h1, h2, q⟩ := r.own h
  obtain ⟨r', st⟩ := r.freeze h h1
  have up : Same F (upd F l (.lst vs)) := fun a o e => by rw [upd_ne (ne_of_none e h2)]; exact e
  exact ⟨.ref l, e, k _ _ H st r' ⟨l, vs, rfl, upd_same, IsAll.mono up ds q⟩⟩
theorem ev_tC {v : V} (h : ∀ F, Is G F d v) : Ev G (tC v) cs d cs := fun F σ H Q r k => k v F H .refl r (h F)
theorem ev_var (i : Nat) {n : Str} {pos : Pos} (h : cs[i]? = some (.val d)) (hN : X.N[i]? = some n) (hv : Vis X.env.scope n) (hd : (n == ("__debug__" : Str)) = false := by decide) (hcd : (n == ("__classdict__" : Str)) = false := by decide) :
    Ev G (rdE X (.Name n pos)) cs d cs := ev_of (pe_var hN hv hd hcd) (ev_tVar h)
/-- a list of ours, read as a value: from then on it is one -/
theorem ev_varO (i : Nat) {n : Str} {pos : Pos} (h : cs[i]? = some (.own l ds)) (hN : X.N[i]? = some n) (hv : Vis X.env.scope n) (hd : (n == ("__debug__" : Str)) = false := by decide) (hcd : (n == ("__classdict__" : Str)) = false := by decide) :
    Ev G (rdE X (.Name n pos)) cs (.lst ds) (cs.set i (.val (.lst ds))) := ev_of (pe_var hN hv hd hcd) (ev_tVarO h)
theorem ev_int {i : Int} {j pos} : Ev G (rdE X (.Constant (.int i) j pos)) cs (.int i) cs := ev_of pe_int (ev_tC fun _ => rfl)
theorem ev_str {i : Str} {j pos} : Ev G (rdE X (.Constant (.str i) j pos)) cs (.str i) cs := ev_of pe_str (ev_tC fun _ => rfl)
theorem ev_bl {i : Bool} {j pos} : Ev G (rdE X (.Constant (.bool i) j pos)) cs (.bl i) cs := ev_of pe_bl (ev_tC fun _ => rfl)
theorem ev_non {j pos} : Ev G (rdE X (.Constant .none j pos)) cs .non cs := ev_of pe_non (ev_tC fun _ => rfl)
theorem ev_gstr {n : Str} {i : Str} {pos : Pos} (hg : Gl X n) (hm : ∃ t, X.mg n = some (.str i t)) (hd : (n == ("__debug__" : Str)) = false := by decide) : Ev G (rdE X (.Name n pos)) cs (.str i) cs := by
  obtain ⟨t, hm⟩ := hm
  exact ev_of (pe_glob (v := .str i) hg hm ⟨t, rfl⟩ hd) (ev_tC fun _ => rfl)
theorem ev_gint {n : Str} {i : Int} {pos : Pos} (hg : Gl X n) (hm : ∃ t, X.mg n = some (.int i t)) (hd : (n == ("__debug__" : Str)) = false := by decide) : Ev G (rdE X (.Name n pos)) cs (.int i) cs := by
  obtain ⟨t, hm⟩ := hm
  exact ev_of (pe_glob (v := .int i) hg hm ⟨t, rfl⟩ hd) (ev_tC fun _ => rfl)
/-! ### operators by values -/
def OpD (G : Gx) (r : R2) (x y z : D) : Prop := ∀ (F H : Hp) (v w : V) (Q : VK), Same F H → Is G F x v → Is G F y w → (∀ u F' H', Grow F H F' H' → Is G F' z u → Q u H') → r v w H Q
def OpN (G : Gx) (r : R2) (x y : D) (ds : List D) : Prop := ∀ (F H : Hp) (v w : V) (Q : VK), Same F H → Is G F x v → Is G F y w → (∀ p vs, H p = none → IsAll G F ds vs → Q (.ref p) (upd H p (.lst vs))) → r v w H Q
def UnD (G : Gx) (r : V → Hp → VK → Prop) (x z : D) : Prop := ∀ (F H : Hp) (v : V) (Q : VK), Same F H → Is G F x v → (∀ u F' H', Grow F H F' H' → Is G F' z u → Q u H') → r v H Q
def CallD (G : Gx) (r : List V → Hp → VK → Prop) (ds : List D) (z : D) : Prop := ∀ (F H : Hp) (vs : List V) (Q : VK), Same F H → IsAll G F ds vs → (∀ u F' H', Grow F H F' H' → Is G F' z u → Q u H') → r vs H Q
theorem grow_new {F H : Hp} {p : Addr} {o : HO} (s : Same F H) (hp : H p = none) : Grow F H F (upd H p o) :=
  ⟨Same.refl F, fun a u e => by rw [upd_ne (ne_of_none e hp)]; exact e, fun a u e => by rw [upd_ne (ne_of_none (s a u e) hp)]; exact s a u e, fun _ _ h => .inl h⟩
theorem grow_know {F H : Hp} {p : Addr} {o : HO} (s : Same F H) (hp : H p = none) : Grow F H (upd F p o) (upd H p o) :=
  ⟨fun a u e => by rw [upd_ne (ne_of_none (s a u e) hp)]; exact e, fun a u e => by rw [upd_ne (ne_of_none e hp)]; exact e, fun a u e => by
    by_cases z : a = p
    · subst z; rw [upd_same] at e ⊢; exact e
    · rw [upd_ne z] at e ⊢; exact s a u e, fun a u e => by
    by_cases z : a = p
    · subst z; exact .inr hp
    · rw [upd_ne z] at e; exact .inl e⟩
variable {ta tb tc : TE} {r r' : R2} {a c : Expr} {pos : Pos}
theorem ev_tOp (ha : Ev G ta cs x cs1) (hb : Ev G tb cs1 y cs2) (hr : OpD G r x y z) : Ev G (tOp r ta tb) cs z cs2 := fun F σ H Q rl k =>
  ha F σ H _ rl fun v F1 H1 st1 r1 q1 => hb F1 σ H1 _ r1 fun w F2 H2 st2 r2 q2 => hr F2 H2 v w Q r2.sub (Is.mono st2.fsub x q1) q2 fun u F3 H3 g q3 => k u F3 H3 ((st1.trans st2).trans g.stp) (r2.grow g) q3
theorem evn_new {F H : Hp} {σ : L2.St} {Q : VK} {F2 H2 : Hp} {es : List D} (st : Stp F H (Owns cs) F2 H2 (Owns cs2)) (rl : Rel G F σ H cs) (r2 : Rel G F2 σ H2 cs2)
    (k : ∀ p vs F' H', Stp F H (Owns cs) F' H' (Owns cs2) → Rel G F' σ H' cs2 → H p = none → ¬ Owns cs2 p → H' p = some (.lst vs) → F' p = none → IsAll G F' es vs → Q (.ref p) H') (p : Addr) (vs : List V) (hp : H2 p = none) (q : IsAll G F2 es vs) : Q (.ref p) (upd H2 p (.lst vs)) := by
  have g := grow_new (o := .lst vs) r2.sub hp
  have hp0 : H p = none := st.back p hp
  refine k p vs F2 _ (st.trans g.stp) (r2.grow g) hp0 (r2.notOwns hp) upd_same ?_ q
  cases e : F2 p with
  | none => rfl
  | some u => rw [r2.sub p u e] at hp; cases hp
end
end Fx
/-! Rules: expressions, tests, arguments. -/
namespace Fx
open PySem L2
section
variable {X : Cx} {G : Gx} {e a b c : Expr} {es rest : List Expr} {pos : Pos} {cs cs' cs1 cs2 cs3 : List Cell} {d x y z : D} {ds : List D} {k k1 k2 : Bool} {l : Addr} {r r' : R2} {te ta tb tc : TE} {tA : TA}
theorem evn_tOp (ha : Ev G ta cs x cs1) (hb : Ev G tb cs1 y cs2) (hr : OpN G r x y ds) : EvN G (tOp r ta tb) cs ds cs2 := fun F σ H Q rl k =>
  ha F σ H _ rl fun v F1 H1 st1 r1 q1 => hb F1 σ H1 _ r1 fun w F2 H2 st2 r2 q2 => hr F2 H2 v w Q r2.sub (Is.mono st2.fsub x q1) q2 (evn_new (st1.trans st2) rl r2 k)
theorem ev_bin {op : Operator} (ho : OpR X (binaryOp op) r) (hr : OpD G r x y z) (ha : Ev G (rdE X a) cs x cs1) (hb : Ev G (rdE X b) cs1 y cs2) : Ev G (rdE X (.BinOp a op b pos)) cs z cs2 := ev_of (pe_op ho pe_rd pe_rd) (ev_tOp ha hb hr)
theorem evn_bin {op : Operator} (ho : OpR X (binaryOp op) r) (hr : OpN G r x y ds) (ha : Ev G (rdE X a) cs x cs1) (hb : Ev G (rdE X b) cs1 y cs2) : EvN G (rdE X (.BinOp a op b pos)) cs ds cs2 := evn_of (pe_op ho pe_rd pe_rd) (evn_tOp ha hb hr)
theorem ev_un {op : UnaryOp} {r : V → Hp → VK → Prop} (ho : UnR X (unaryOp op) r) (hr : UnD G r x z) (ha : Ev G (rdE X a) cs x cs1) : Ev G (rdE X (.UnaryOp op a pos)) cs z cs1 :=
  ev_of (pe_un ho pe_rd) fun F σ H Q rl k => ha F σ H _ rl fun v F1 H1 st1 r1 q1 => hr F1 H1 v Q r1.sub q1 fun u F2 H2 g q2 => k u F2 H2 (st1.trans g.stp) (r1.grow g) q2
theorem ev_cmp {op : CmpOp} (ho : OpR X (compareOp op) r) (hr : OpD G r x y z) (ha : Ev G (rdE X a) cs x cs1) (hb : Ev G (rdE X b) cs1 y cs2) (hm : behindInMarks op b = false := by first | exact nomark _ | rfl) : Ev G (rdE X (.Compare a [op] [b] pos)) cs z cs2 :=
  ev_of (pe_cmpR ho pe_rd pe_rd hm) (ev_tOp ha hb hr)
theorem et_tTest (h : Ev G te cs (.bl k) cs1) : EvT G (tTest te) cs k cs1 := fun F σ H Q rl q => h F σ H _ rl fun v F1 H1 st1 r1 q1 => ⟨k, q1, q F1 H1 st1 r1⟩
theorem et_tB (h : Ev G te cs (.bl k) cs1) : EvT G (tB te) cs k cs1 := fun F σ H Q rl q => h F σ H _ rl fun v F1 H1 st1 r1 q1 => ⟨k, q1, q F1 H1 st1 r1⟩
theorem et_cmp {op : CmpOp} (ho : OpR X (compareOp op) r) (hr : OpD G r x y (.bl k)) (ha : Ev G (rdE X a) cs x cs1) (hb : Ev G (rdE X b) cs1 y cs2) (hm : behindInMarks op b = false := by first | exact nomark _ | rfl) : EvT G (rdT X (.Compare a [op] [b] pos)) cs k cs2 :=
  evt_of (pt_cmpR ho pe_rd pe_rd hm) (et_tTest (ev_tOp ha hb hr))
/-- an expression that gives a bool, as a test -/
theorem et_val (h : Ev G (rdE X e) cs (.bl k) cs1) (he : ∀ whole, isTrue e X.env whole = (do let v ← whole; standAt e.pos; holding [v] (truthy v)) := by intro _; rfl) : EvT G (rdT X e) cs k cs1 := evt_of (pt_val pe_rd he) (et_tB h)
theorem et_is (h : EvT G (rdT X e) cs k cs1) (q : k = k1) : EvT G (rdT X e) cs k1 cs1 := q ▸ h
theorem ev_is (h : Ev G te cs x cs1) (q : x = y) : Ev G te cs y cs1 := q ▸ h
theorem evn_is {es : List D} (h : EvN G te cs ds cs1) (q : ds = es) : EvN G te cs es cs1 := q ▸ h
theorem et_not (h : EvT G (rdT X e) cs k cs1) : EvT G (rdT X (.UnaryOp .Not e pos)) cs (!k) cs1 := evt_of (pt_not pt_rd) fun F σ H Q rl q => h F σ H _ rl q
/-! and, or as tests -/
def rdW (X : Cx) (e : Expr) : TT := fun σ H Q => ∀ (whole : Sem Value) (pins : List (Addr × Obj)) (s : Shared), Inv X pins σ H s → wpAny (model X.prog X.w) X.A (isTrue e X.env whole) (TP X pins σ Q) X.xe s
theorem pw_rd : PW X e (rdW X e) := ⟨fun wh pins s _ _ _ I h => h wh pins s I⟩
theorem ew_of {tt : TT} (h : PW X e tt) (q : EvT G tt cs k cs') : EvT G (rdW X e) cs k cs' := fun F σ H Q r kk wh pins s I => h.run wh pins s σ H Q I (q F σ H Q r kk)
theorem et_w (h : EvT G (rdW X e) cs k cs1) : EvT G (rdT X e) cs k cs1 := evt_of pw_rd.pt h
theorem ew_and1 (h : EvT G (rdT X a) cs k cs1) : EvT G (rdW X (.BoolOp .And [a] pos)) cs k cs1 := ew_of (pw_and1 pt_rd) h
theorem ew_or1 (h : EvT G (rdT X a) cs k cs1) : EvT G (rdW X (.BoolOp .Or [a] pos)) cs k cs1 := ew_of (pw_or1 pt_rd) h
theorem ew_andT (h : EvT G (rdT X a) cs true cs1) (h2 : EvT G (rdW X (.BoolOp .And (b :: rest) pos)) cs1 k cs2) : EvT G (rdW X (.BoolOp .And (a :: b :: rest) pos)) cs k cs2 :=
  ew_of (pw_and pt_rd pw_rd) fun F σ H Q rl q => h F σ H _ rl fun F1 H1 st1 r1 => iteT (h2 F1 σ H1 _ r1 fun F2 H2 st2 r2 => q F2 H2 (st1.trans st2) r2)
theorem ew_andF (h : EvT G (rdT X a) cs false cs1) : EvT G (rdW X (.BoolOp .And (a :: b :: rest) pos)) cs false cs1 :=
  ew_of (pw_and (tB' := rdW X (.BoolOp .And (b :: rest) pos)) pt_rd pw_rd) fun F σ H Q rl q => h F σ H _ rl fun F1 H1 st1 r1 => iteF (q F1 H1 st1 r1)
theorem ew_and (h : EvT G (rdT X a) cs k1 cs1) (h2 : k1 = true → EvT G (rdW X (.BoolOp .And (b :: rest) pos)) cs1 k2 cs1) : EvT G (rdW X (.BoolOp .And (a :: b :: rest) pos)) cs (k1 && k2) cs1 := by
  cases k1 with
  | true => exact ew_andT h (h2 rfl)
  | false => exact ew_andF h
theorem ew_orT (h : EvT G (rdT X a) cs true cs1) : EvT G (rdW X (.BoolOp .Or (a :: b :: rest) pos)) cs true cs1 :=
  ew_of (pw_or (tB' := rdW X (.BoolOp .Or (b :: rest) pos)) pt_rd pw_rd) fun F σ H Q rl q => h F σ H _ rl fun F1 H1 st1 r1 => iteT (q F1 H1 st1 r1)
theorem ew_orF (h : EvT G (rdT X a) cs false cs1) (h2 : EvT G (rdW X (.BoolOp .Or (b :: rest) pos)) cs1 k cs2) : EvT G (rdW X (.BoolOp .Or (a :: b :: rest) pos)) cs k cs2 :=
  ew_of (pw_or pt_rd pw_rd) fun F σ H Q rl q => h F σ H _ rl fun F1 H1 st1 r1 => iteF (h2 F1 σ H1 _ r1 fun F2 H2 st2 r2 => q F2 H2 (st1.trans st2) r2)
theorem ew_or (h : EvT G (rdT X a) cs k1 cs1) (h2 : k1 = false → EvT G (rdW X (.BoolOp .Or (b :: rest) pos)) cs1 k2 cs1) : EvT G (rdW X (.BoolOp .Or (a :: b :: rest) pos)) cs (k1 || k2) cs1 := by
  cases k1 with
  | false => exact ew_orF h (h2 rfl)
  | true => exact ew_orT h
/-! and, or, not as values -/
theorem ev_one {op} (h : Ev G (rdE X a) cs x cs1) : Ev G (rdE X (.BoolOp op [a] pos)) cs x cs1 := ev_of (pe_one pe_rd) h
theorem ev_andT (h : Ev G (rdE X a) cs (.bl true) cs1) (h2 : Ev G (rdE X (.BoolOp .And (b :: rest) pos)) cs1 x cs2) : Ev G (rdE X (.BoolOp .And (a :: b :: rest) pos)) cs x cs2 :=
  ev_of (pe_and pe_rd pe_rd) fun F σ H Q rl q => h F σ H _ rl fun v F1 H1 st1 r1 q1 => ⟨true, q1, iteT (h2 F1 σ H1 _ r1 fun w F2 H2 st2 r2 q2 => q w F2 H2 (st1.trans st2) r2 q2)⟩
theorem ev_andF (h : Ev G (rdE X a) cs (.bl false) cs1) : Ev G (rdE X (.BoolOp .And (a :: b :: rest) pos)) cs (.bl false) cs1 :=
  ev_of (pe_and (tb := rdE X (.BoolOp .And (b :: rest) pos)) pe_rd pe_rd) fun F σ H Q rl q => h F σ H _ rl fun v F1 H1 st1 r1 q1 => ⟨false, q1, iteF (q _ F1 H1 st1 r1 rfl)⟩
theorem ev_and (h : Ev G (rdE X a) cs (.bl k1) cs1) (h2 : k1 = true → Ev G (rdE X (.BoolOp .And (b :: rest) pos)) cs1 (.bl k2) cs1) : Ev G (rdE X (.BoolOp .And (a :: b :: rest) pos)) cs (.bl (k1 && k2)) cs1 := by
  cases k1 with
  | true => exact ev_andT h (h2 rfl)
  | false => exact ev_andF h
theorem ev_orT (h : Ev G (rdE X a) cs (.bl true) cs1) : Ev G (rdE X (.BoolOp .Or (a :: b :: rest) pos)) cs (.bl true) cs1 :=
  ev_of (pe_or (tb := rdE X (.BoolOp .Or (b :: rest) pos)) pe_rd pe_rd) fun F σ H Q rl q => h F σ H _ rl fun v F1 H1 st1 r1 q1 => ⟨true, q1, iteT (q _ F1 H1 st1 r1 rfl)⟩
theorem ev_orF (h : Ev G (rdE X a) cs (.bl false) cs1) (h2 : Ev G (rdE X (.BoolOp .Or (b :: rest) pos)) cs1 x cs2) : Ev G (rdE X (.BoolOp .Or (a :: b :: rest) pos)) cs x cs2 :=
  ev_of (pe_or pe_rd pe_rd) fun F σ H Q rl q => h F σ H _ rl fun v F1 H1 st1 r1 q1 => ⟨false, q1, iteF (h2 F1 σ H1 _ r1 fun w F2 H2 st2 r2 q2 => q w F2 H2 (st1.trans st2) r2 q2)⟩
theorem ev_or (h : Ev G (rdE X a) cs (.bl k1) cs1) (h2 : k1 = false → Ev G (rdE X (.BoolOp .Or (b :: rest) pos)) cs1 (.bl k2) cs1) : Ev G (rdE X (.BoolOp .Or (a :: b :: rest) pos)) cs (.bl (k1 || k2)) cs1 := by
  cases k1 with
  | false => exact ev_orF h (h2 rfl)
  | true => exact ev_orT h
theorem ev_not (h : Ev G (rdE X a) cs (.bl k) cs1) : Ev G (rdE X (.UnaryOp .Not a pos)) cs (.bl (!k)) cs1 :=
  ev_of (pe_not pe_rd) fun F σ H Q rl q => h F σ H _ rl fun v F1 H1 st1 r1 q1 => ⟨k, q1, q _ F1 H1 st1 r1 rfl⟩
theorem ev_ifT (h : EvT G (rdT X c) cs true cs1) (h2 : Ev G (rdE X a) cs1 x cs2) : Ev G (rdE X (.IfExp c a b pos)) cs x cs2 :=
  ev_of (pe_ifExp (tb := rdE X b) pt_rd pe_rd pe_rd) fun F σ H Q rl q => h F σ H _ rl fun F1 H1 st1 r1 => iteT (h2 F1 σ H1 _ r1 fun w F2 H2 st2 r2 q2 => q w F2 H2 (st1.trans st2) r2 q2)
theorem ev_ifF (h : EvT G (rdT X c) cs false cs1) (h2 : Ev G (rdE X b) cs1 x cs2) : Ev G (rdE X (.IfExp c a b pos)) cs x cs2 :=
  ev_of (pe_ifExp (ta := rdE X a) pt_rd pe_rd pe_rd) fun F σ H Q rl q => h F σ H _ rl fun F1 H1 st1 r1 => iteF (h2 F1 σ H1 _ r1 fun w F2 H2 st2 r2 q2 => q w F2 H2 (st1.trans st2) r2 q2)
theorem ev_if (h : EvT G (rdT X c) cs k cs1) (h1 : k = true → Ev G (rdE X a) cs1 x cs2) (h2 : k = false → Ev G (rdE X b) cs1 x cs2) : Ev G (rdE X (.IfExp c a b pos)) cs x cs2 := by
  cases k with
  | true => exact ev_ifT h (h1 rfl)
  | false => exact ev_ifF h (h2 rfl)
/-- x <= y <= z -/
theorem ev_chain {op op' : CmpOp} {w : D} (ho : OpR X (compareOp op) r) (ho' : OpR X (compareOp op') r') (hr : OpD G r x y (.bl k)) (hr' : k = true → OpD G r' y w (.bl k1)) (ha : Ev G (rdE X a) cs x cs1) (hb : Ev G (rdE X b) cs1 y cs2) (hc : k = true → Ev G (rdE X c) cs2 w cs2) (hpe : ∀ {t1 t2 t3 : TE}, PE X a t1 → PE X b t2 → PE X c t3 → PE X (.Compare a [op, op'] [b, c] pos) (tChain r r' t1 t2 t3)) :
    Ev G (rdE X (.Compare a [op, op'] [b, c] pos)) cs (.bl (k && k1)) cs2 :=
  ev_of (hpe pe_rd pe_rd pe_rd) fun F σ H Q rl q => ha F σ H _ rl fun v F1 H1 st1 r1 q1 => hb F1 σ H1 _ r1 fun w1 F2 H2 st2 r2 q2 => hr F2 H2 v w1 _ r2.sub (Is.mono st2.fsub x q1) q2 fun u F3 H3 g q3 => by
    have r3 := r2.grow g
    refine ⟨k, q3, ?_⟩
    cases k with
    | true =>
      exact iteT (hc rfl F3 σ H3 _ r3 fun w2 F4 H4 st4 r4 q4 => hr' rfl F4 H4 w1 w2 Q r4.sub (Is.mono (g.fsub.trans st4.fsub) y q2) q4 fun u F5 H5 g5 q5 => q u F5 H5 (((st1.trans st2).trans g.stp).trans (st4.trans g5.stp)) (r4.grow g5) q5)
    | false => exact iteF (q _ F3 H3 ((st1.trans st2).trans g.stp) r3 rfl)
/-! ### arguments -/
theorem evv_nil : EvV G (rdA X []) cs [] cs := evv_of pa_nil fun F σ H Q rl q => q [] F H .refl rl rfl
theorem evv_cons (h : Ev G (rdE X e) cs x cs1) (h2 : EvV G (rdA X es) cs1 ds cs2) (hs : starEach (e :: es) X.env = (false, eval e X.env) :: starEach es X.env := by rfl) : EvV G (rdA X (e :: es)) cs (x :: ds) cs2 :=
  evv_of (pa_cons pe_rd pa_rd hs) fun F σ H Q rl q => h F σ H _ rl fun v F1 H1 st1 r1 q1 => h2 F1 σ H1 _ r1 fun vs F2 H2 st2 r2 q2 => q _ F2 H2 (st1.trans st2) r2 ⟨v, vs, rfl, Is.mono st2.fsub x q1, q2⟩
/-- the first argument a list of ours, by its name -/
theorem evp_cons {i : Nat} {n : Str} {np : Pos} (h : cs[i]? = some (.own l ds)) (hN : X.N[i]? = some n) (hv : Vis X.env.scope n) {es' : List D} (h2 : EvV G (rdA X es) cs es' cs2) (hd : (n == ("__debug__" : Str)) = false := by decide) (hcd : (n == ("__classdict__" : Str)) = false := by decide)
    (hs : starEach (.Name n np :: es) X.env = (false, eval (.Name n np) X.env) :: starEach es X.env := by rfl) : EvP G (rdA X (.Name n np :: es)) cs l es' cs2 :=
  evp_of (pa_cons (pe_var hN hv hd hcd) pa_rd hs) fun F σ H Q rl q => by
    obtain ⟨vs, e1, _⟩ := rl.own h
    exact ⟨.ref l, e1, h2 F σ H _ rl fun vs F2 H2 st2 r2 q2 => q vs F2 H2 st2 r2 q2⟩
/-- a starred argument -/
theorem evv_star {sp : Pos} (h : Ev G (rdE X e) cs x cs1) (h2 : EvV G (rdA X es) cs1 ds cs2) {xs : List D} (hx : x = .lst xs ∨ x = .tup xs) (hK : G.K = X.K := by rfl) (hs : starEach (.Starred e sp :: es) X.env = (true, eval e X.env) :: starEach es X.env := by rfl) :
    EvV G (rdA X (.Starred e sp :: es)) cs (xs ++ ds) cs2 :=
  evv_of (StX.pa_star pe_rd pa_rd hs) fun F σ H Q rl q => h F σ H _ rl fun v F1 H1 st1 r1 q1 => by
    have z : ∃ a vs, v = V.ref a ∧ (SqT X.K H1 a vs ∨ SqL X.K H1 a vs) ∧ IsAll G F1 xs vs := by
      rcases hx with rfl | rfl
      · obtain ⟨a, vs, rfl, h1, h2⟩ := q1
        exact ⟨a, vs, rfl, .inr (SqL.of (r1.sub _ _ h1)), h2⟩
      · obtain ⟨a, vs, rfl, h1, h2⟩ := q1
        exact ⟨a, vs, rfl, .inl (by rw [← hK]; exact same_t r1.sub h1), h2⟩
    obtain ⟨a, vs, rfl, hq, hall⟩ := z
    exact ⟨a, vs, rfl, hq, h2 F1 σ H1 _ r1 fun ws F2 H2 st2 r2 q2 => q _ F2 H2 (st1.trans st2) r2 ((IsAll.mono st2.fsub xs hall).append q2)⟩
/-! ### displays -/
theorem ev_tup {x1} (h : EvV G (rdA X es) cs ds cs1) (hz : Nat.ble ds.length 1000 = true) : Ev G (rdE X (.Tuple es x1 pos)) cs (.tup ds) cs1 :=
  ev_of (pe_tup pa_rd) fun F σ H Q rl q => h F σ H _ rl fun vs F1 H1 st1 r1 q1 => ⟨by
    rw [q1.length]
    exact Nat.le_trans (Nat.le_of_ble_eq_true hz) (by decide), fun p hp => by
    have g := grow_know (o := .tup vs) r1.sub hp
    exact q _ _ _ (st1.trans g.stp) (r1.grow g) ⟨p, vs, rfl, SqT.of upd_same, IsAll.mono g.fsub ds q1⟩⟩
theorem evn_lst (h : EvV G (rdA X es) cs ds cs1) (hz : Nat.ble ds.length 1000 = true) : EvN G (rdE X (.List es pos)) cs ds cs1 :=
  evn_of (pe_lst pa_rd) fun F σ H Q rl q => h F σ H _ rl fun vs F1 H1 st1 r1 q1 => ⟨by
    rw [q1.length]
    exact Nat.le_trans (Nat.le_of_ble_eq_true hz) (by decide), fun p hp => evn_new st1 rl r1 q p vs hp q1⟩
/-! ### built-ins -/
theorem ev_callB {n : Str} {np : Pos} {id : String} {rr : List V → Hp → VK → Prop} (hc : CallR X (.builtin id) rr) (hr : CallD G rr ds z) (ha : EvV G (rdA X (e :: es)) cs ds cs1) (hg : Gl X n) (hm : X.mg n = none) (hv : bootBuiltins n = some (.builtin id)) (hn : n ≠ "__name__" := by decide) (hdb : (n == ("__debug__" : Str)) = false := by decide)
    (he : starEach (e :: es) X.env = (false, eval e X.env) :: starEach es X.env := by rfl) (hpl : (backTo pos (starEach es X.env)).any (·.1) = false := by rfl) : Ev G (rdE X (.Call (.Name n np) (e :: es) [] pos)) cs z cs1 :=
  ev_of (pe_callB hc hg hm hv pa_rd hn hdb he hpl) fun F σ H Q rl q => ha F σ H _ rl fun vs F1 H1 st1 r1 q1 => hr F1 H1 vs Q r1.sub q1 fun u F2 H2 g q2 => q u F2 H2 (st1.trans g.stp) (r1.grow g) q2
theorem ev_callTy {n : Str} {np : Pos} {T : String} {rr : List V → Hp → VK → Prop} (hc : CallR X (.type T) rr) (hr : CallD G rr ds z) (ha : EvV G (rdA X (e :: es)) cs ds cs1) (hg : Gl X n) (hm : X.mg n = none) (hv : bootBuiltins n = some (.type T)) (hn : n ≠ "__name__" := by decide) (hdb : (n == ("__debug__" : Str)) = false := by decide)
    (he : starEach (e :: es) X.env = (false, eval e X.env) :: starEach es X.env := by rfl) (hpl : (backTo pos (starEach es X.env)).any (·.1) = false := by rfl) : Ev G (rdE X (.Call (.Name n np) (e :: es) [] pos)) cs z cs1 :=
  ev_of (pe_callTy hc hg hm hv pa_rd hn hdb he hpl) fun F σ H Q rl q => ha F σ H _ rl fun vs F1 H1 st1 r1 q1 => hr F1 H1 vs Q r1.sub q1 fun u F2 H2 g q2 => q u F2 H2 (st1.trans g.stp) (r1.grow g) q2
/-! ### subscripts, slices -/
theorem ev_ix (ho : IxR X r) (hr : OpD G r x y z) (ha : Ev G (rdE X a) cs x cs1) (hb : Ev G (rdE X b) cs1 y cs2) (hs : PlainIx b := by exact fun _ _ => rfl) : Ev G (rdE X (.Subscript a b pos)) cs z cs2 := ev_of (pe_ix ho pe_rd pe_rd hs) (ev_tOp ha hb hr)
def EvS (G : Gx) (to : TO) (cs : List Cell) (o : Option Int) (cs' : List Cell) : Prop := ∀ (F : Hp) (σ : L2.St) (H : Hp) (Q : Option Int → Hp → Prop), Rel G F σ H cs →
  (∀ F' H', Stp F H (Owns cs) F' H' (Owns cs') → Rel G F' σ H' cs' → Q o H') → to σ H Q
theorem es_none : EvS G tNoPart cs none cs := fun F σ H Q rl q => q F H .refl rl
theorem es_some {i : Int} (h : Ev G te cs (.int i) cs1) : EvS G (tPart te) cs (some i) cs1 := fun F σ H Q rl q => h F σ H _ rl fun v F1 H1 st1 r1 q1 => ⟨i, q1, q F1 H1 st1 r1⟩
theorem evn_slice {lo hi : Option Expr} {p2 : Pos} {tl th : TO} {ol oh : Option Int} {xs : List D} (hl : PO X lo tl) (hh : PO X hi th) (h : Ev G (rdE X e) cs (.lst xs) cs1) (h1 : EvS G tl cs1 ol cs2) (h2 : EvS G th cs2 oh cs3) :
    EvN G (rdE X (.Subscript e (.Slice lo hi none p2) pos)) cs ((xs.drop (HT.sIx xs.length 0 ol)).take (HT.sIx xs.length xs.length oh - HT.sIx xs.length 0 ol)) cs3 :=
  evn_of (pe_slice sl_list pe_rd hl hh) fun F σ H Q rl q => h F σ H _ rl fun v F1 H1 st1 r1 q1 => h1 F1 σ H1 _ r1 fun F2 H2 st2 r2 => h2 F2 σ H2 _ r2 fun F3 H3 st3 r3 => by
    obtain ⟨a, vs, rfl, h5, h6⟩ := q1
    have up := st2.fsub.trans st3.fsub
    refine ⟨a, vs, rfl, SqL.of (r3.sub _ _ (up _ _ h5)), fun p hp => ?_⟩
    have hl := h6.length
    refine evn_new ((st1.trans st2).trans st3) rl r3 q p _ hp ?_
    unfold cutV
    rw [hl]
    exact IsAll.take _ (IsAll.drop _ (IsAll.mono up xs h6))
end
end Fx
/-! Rules: statements, targets, loops, comprehensions. -/
namespace Fx
open PySem L2
/-- a target is given a value -/
def EvG (G : Gx) (g : TG) (tl : List Nat) (d : D) (cs cs' : List Cell) : Prop := ∀ (F : Hp) (σ : L2.St) (H : Hp) (v : V) (Q : L2.St → Hp → Prop), Rel G F σ H cs → Is G F d v →
  (∀ σ', Stp F H (Owns cs) F H (Owns cs') → Rel G F σ' H cs' → (σ'.length = σ.length ∧ ∀ j, j ∉ tl → σ'[j]? = σ[j]?) → Q σ' H) → g v σ H Q
def EvGs (G : Gx) (g : TGs) (tl : List Nat) (ds : List D) (cs cs' : List Cell) : Prop := ∀ (F : Hp) (σ : L2.St) (H : Hp) (vs : List V) (Q : L2.St → Hp → Prop), Rel G F σ H cs → IsAll G F ds vs →
  (∀ σ', Stp F H (Owns cs) F H (Owns cs') → Rel G F σ' H cs' → (σ'.length = σ.length ∧ ∀ j, j ∉ tl → σ'[j]? = σ[j]?) → Q σ' H) → g vs σ H Q
/-- what is walked -/
def ItD (G : Gx) (J : It) (F : Hp) (its : List D) : Prop := ∀ F1 H1, Same F F1 → Same F1 H1 →
  (∀ (i : Nat) (d : D), its[i]? = some d → J.go i H1 ∧ ∀ x H2, J.yld i H1 x H2 → ∃ F2, Grow F1 H1 F2 H2 ∧ Is G F2 d x) ∧ J.stop its.length H1
def EvI (G : Gx) (wi : TI) (cs : List Cell) (its : List D) (cs' : List Cell) : Prop := ∀ (F : Hp) (σ : L2.St) (H : Hp) (R : It → Hp → Prop), Rel G F σ H cs →
  (∀ J F' H', Stp F H (Owns cs) F' H' (Owns cs') → Rel G F' σ H' cs' → ItD G J F' its → R J H') → wi σ H R
section
variable {X : Cx} {G : Gx} {e a b c tg iter : Expr} {es : List Expr} {st : Stmt} {sts body : List Stmt} {pos : Pos} {cs cs' cs1 cs2 cs3 : List Cell} {d x y z : D} {ds : List D} {k : Bool} {l : Addr} {P : Post} {tl : List Nat}
/-! ### blocks -/
theorem sx_nil (h : P.nx cs) : Sx G (rdSs X []) cs P := sxs_of pss_nil fun F σ H E rl k1 _ _ _ _ => k1 cs σ F H h .refl rl
theorem sx_cons (h : Sx G (rdS X st) cs { P with nx := fun cs' => Sx G (rdSs X sts) cs' P }) : Sx G (rdSs X (st :: sts)) cs P :=
  sxs_of (pss_cons ps_rd pss_rd) fun F σ H E rl k1 k2 k3 k4 k5 => h F σ H { E with nx := rdSs X sts E } rl (fun cs' σ' F' H' hp st r => hp F' σ' H' E r (k1.after st) (k2.after st) (k3.after st) (k4.after st) (k5.after st)) k2 k3 k4 k5
theorem sx_one (h : Sx G (rdS X st) cs P) : Sx G (rdSs X [st]) cs P := sxs_of (pss_one ps_rd) h
theorem sx_expr (h : Ev G (rdE X e) cs d cs1) (hp : P.nx cs1) (hs : swapsWith e none pos.line X.env = pure false := by rfl) : Sx G (rdS X (.Expr e pos)) cs P :=
  sx_of (ps_expr pe_rd hs) fun F σ H E rl k1 _ _ _ _ => h F σ H _ rl fun v F1 H1 st1 r1 _ => k1 cs1 σ F1 H1 hp st1 r1
theorem sx_ret (h : Ev G (rdE X e) cs d cs1) (hp : P.rt d cs1) : Sx G (rdS X (.Return (some e) pos)) cs P :=
  sx_of (ps_ret pe_rd) fun F σ H E rl _ k2 _ _ _ => h F σ H _ rl fun v F1 H1 st1 r1 q1 => k2 d cs1 σ F1 H1 v hp st1 r1 q1
theorem sx_retN (h : EvN G (rdE X e) cs ds cs1) (hp : P.rn ds cs1) : Sx G (rdS X (.Return (some e) pos)) cs P :=
  sx_of (ps_ret pe_rd) fun F σ H E rl _ _ k3 _ _ => h F σ H _ rl fun p vs F1 H1 st1 r1 q0 q1 q2 q3 q4 => k3 ds cs1 σ F1 H1 p vs hp st1 r1 (.inl q0) q1 q2 q3 q4
/-- a list of ours is handed back -/
theorem sx_retO (i : Nat) {n : Str} {np : Pos} (h : cs[i]? = some (.own l ds)) (hp : P.rn ds (cs.set i .no)) (hN : X.N[i]? = some n) (hv : Vis X.env.scope n) (hd : (n == ("__debug__" : Str)) = false := by decide) (hcd : (n == ("__classdict__" : Str)) = false := by decide) :
    Sx G (rdS X (.Return (some (.Name n np)) pos)) cs P :=
  sx_of (ps_ret (pe_var hN hv hd hcd)) fun F σ H E rl _ _ k3 _ _ => by
    obtain ⟨vs, e1, h1, h2, q⟩ := rl.own h
    exact ⟨.ref l, e1, k3 ds (cs.set i .no) σ F H l vs hp (Rel.stp_no i) (rl.forget i) (.inr (.of h)) (rl.once h rfl fun _ h => h) h1 h2 q⟩
theorem sx_if {s1 s2 : List Stmt} (h : EvT G (rdT X c) cs k cs1) (h1 : k = true → Sx G (rdSs X s1) cs1 P) (h2 : k = false → Sx G (rdSs X s2) cs1 P) : Sx G (rdS X (.If c s1 s2 pos)) cs P :=
  sx_of (ps_if pt_rd pss_rd pss_rd) fun F σ H E rl k1 k2 k3 k4 k5 => h F σ H _ rl fun F1 H1 st r1 => by
    cases k with
    | true => exact iteT (h1 rfl F1 σ H1 E r1 (k1.after st) (k2.after st) (k3.after st) (k4.after st) (k5.after st))
    | false => exact iteF (h2 rfl F1 σ H1 E r1 (k1.after st) (k2.after st) (k3.after st) (k4.after st) (k5.after st))
theorem sx_post {P' : Post} {ts : TS} (h : Sx G ts cs P) (n : ∀ c, P.nx c → P'.nx c) (r : ∀ d c, P.rt d c → P'.rt d c) (rn : ∀ d c, P.rn d c → P'.rn d c) (bk : ∀ c, P.bk c → P'.bk c) (ct : ∀ c, P.ct c → P'.ct c) : Sx G ts cs P' := fun F σ H E rl k1 k2 k3 k4 k5 =>
  h F σ H E rl (fun cs' σ' F' H' hp => k1 cs' σ' F' H' (n _ hp)) (fun d cs' σ' F' H' v hp => k2 d cs' σ' F' H' v (r _ _ hp)) (fun d cs' σ' F' H' q vs hp => k3 d cs' σ' F' H' q vs (rn _ _ hp)) (fun cs' σ' F' H' hp => k4 cs' σ' F' H' (bk _ hp)) (fun cs' σ' F' H' hp => k5 cs' σ' F' H' (ct _ hp))
/-! ### targets -/
def rdG (X : Cx) (tg : Expr) : TG := fun v σ H Q => ∀ (pins : List (Addr × Obj)) (s : Shared) (u : Value), Inv X pins σ H s → RelV v u → wpAny (model X.prog X.w) X.A (assign tg X.env u) (fun _ s' => ∃ σ' H', Inv X pins σ' H' s' ∧ Q σ' H') X.xe s
def rdGs (X : Cx) (ts : List Expr) : TGs := fun vs σ H Q => ∀ (pins : List (Addr × Obj)) (s : Shared) (us : List Value), Inv X pins σ H s → Vals vs us → wpAny (model X.prog X.w) X.A (assignInOrder ((assignEach ts X.env).map (·.2)) us) (fun _ s' => ∃ σ' H', Inv X pins σ' H' s' ∧ Q σ' H') X.xe s
theorem pg_rd : PG X tg (rdG X tg) := ⟨fun pins s _ _ _ u _ I r h => h pins s u I r⟩
theorem pgs_rd : PGs X es (rdGs X es) := ⟨fun pins s _ _ _ us _ I r h => h pins s us I r⟩
theorem eg_of {g : TG} (h : PG X tg g) (q : EvG G g tl d cs cs') : EvG G (rdG X tg) tl d cs cs' := fun F σ H v Q rl qv k pins s u I r => h.run pins s σ H v u Q I r (q F σ H v Q rl qv k)
theorem egs_of {g : TGs} (h : PGs X es g) (q : EvGs G g tl ds cs cs') : EvGs G (rdGs X es) tl ds cs cs' := fun F σ H vs Q rl qv k pins s us I r => h.run pins s σ H vs us Q I r (q F σ H vs Q rl qv k)
theorem eg_name (i : Nat) {n : Str} (hN : X.N.Nodup) (hi : X.N[i]? = some n) (hx : Loc X.env.scope n) (hf : X.fn n = true ∨ X.env.scope.names.lookup n = some .local) : EvG G (rdG X (.Name n pos)) [i] d cs (cs.set i (.val d)) :=
  eg_of (pg_name hN hi hx hf) fun F σ H v Q rl qv k => k _ (Rel.stp_val i d) (rl.setVal qv) ⟨List.length_set, fun j hj => List.getElem?_set_ne (fun z => hj (by simp [z]))⟩
theorem egs_nil : EvGs G (rdGs X []) [] [] cs cs := egs_of pgs_nil fun F σ H vs Q rl qv k => by
  cases qv
  exact ⟨rfl, k σ .refl rl ⟨rfl, fun _ _ => rfl⟩⟩
theorem egs_cons {tl2 : List Nat} (h : EvG G (rdG X e) tl d cs cs1) (h2 : EvGs G (rdGs X es) tl2 ds cs1 cs2) (hs : (assignEach (e :: es) X.env).map (·.2) = assign e X.env :: (assignEach es X.env).map (·.2) := by rfl) : EvGs G (rdGs X (e :: es)) (tl ++ tl2) (d :: ds) cs cs2 :=
  egs_of (pgs_cons pg_rd pgs_rd hs) fun F σ H vs Q rl qv k => by
    obtain ⟨v, r, rfl, q1, q2⟩ := qv
    exact ⟨v, r, rfl, h F σ H v _ rl q1 fun σ' st r1 u1 => h2 F σ' H r _ r1 q2 fun σ2 st2 r2 u2 => k σ2 (st.trans st2) r2 ⟨u2.1.trans u1.1, fun j hj => (u2.2 j fun z => hj (List.mem_append_right _ z)).trans (u1.2 j fun z => hj (List.mem_append_left _ z))⟩⟩
theorem eg_tup {kk : Nat} (hc : X.calm = true) (h : EvGs G (rdGs X es) tl ds cs cs1) (hK : G.K = X.K := by rfl) (hn : (assignEach es X.env).length = ds.length := by rfl) (hst : (assignEach es X.env).findIdx? (·.1) = none := by rfl) : EvG G (rdG X (.Tuple es kk pos)) tl (.tup ds) cs cs1 :=
  eg_of (pg_tup hc pgs_rd hn hst) fun F σ H v Q rl qv k => by
    obtain ⟨a, xs, rfl, h1, h2⟩ := qv
    exact ⟨a, xs, rfl, by rw [← hK]; exact same_t rl.sub h1, h2.length, h F σ H xs Q rl h2 k⟩
/-- target = value -/
theorem sx_asg (h : Ev G (rdE X e) cs d cs1) (hg : EvG G (rdG X tg) tl d cs1 cs2) (hp : P.nx cs2) (hs : swapsWithSole [tg] e pos.line X.env = pure false := by rfl) (hw : swappedStores [tg] e X.env = pure none := by rfl)
    (h1 : (assignEach [tg] X.env).map (·.2) = [assign tg X.env] := by rfl) : Sx G (rdS X (.Assign [tg] e pos)) cs P :=
  sx_of (ps_asg pe_rd pg_rd hs hw h1) fun F σ H E rl k1 _ _ _ _ => h F σ H _ rl fun v F1 H1 st1 r1 q1 => hg F1 σ H1 v _ r1 q1 fun σ' st2 r2 _ => k1 cs2 σ' F1 H1 hp (st1.trans st2) r2
/-- name = value -/
theorem sx_set (i : Nat) {n : Str} {np : Pos} (h : Ev G (rdE X e) cs d cs1) (hp : P.nx (cs1.set i (.val d))) (hN : X.N.Nodup) (hi : X.N[i]? = some n) (hx : Loc X.env.scope n) (hf : X.fn n = true ∨ X.env.scope.names.lookup n = some .local) (hs : swapsWith e (some (.Name n np)) pos.line X.env = pure false := by rfl) :
    Sx G (rdS X (.Assign [.Name n np] e pos)) cs P :=
  sx_of (ps_set (i := i) hN hi hx pe_rd hs hf) fun F σ H E rl k1 _ _ _ _ => h F σ H _ rl fun v F1 H1 st1 r1 q1 => k1 _ _ F1 H1 hp (st1.trans (Rel.stp_val i d)) (r1.setVal q1)
theorem set_own {F H F1 H1 : Hp} {σ : L2.St} {i : Nat} {vs : List V} (st : Stp F H (Owns cs) F1 H1 (Owns cs1)) (r1 : Rel G F1 σ H1 cs1) (hp : H l = none) (no : ¬ Owns cs1 l) (h1 : H1 l = some (.lst vs)) (h2 : F1 l = none) (q : IsAll G F1 ds vs) :
    Stp F H (Owns cs) F1 H1 (Owns (cs1.set i (.own l ds))) ∧ Rel G F1 (σ.set i (some (.ref l))) H1 (cs1.set i (.own l ds)) :=
  ⟨⟨st.fsub, st.frame, st.fresh, fun a z => by
    rcases z.set with z | z
    · exact st.own a z
    · (cases z; exact .inr hp), st.back⟩, r1.setOwn h1 h2 q no⟩
/-- name = a new list -/
theorem sx_setN (i : Nat) {n : Str} {np : Pos} (h : EvN G (rdE X e) cs ds cs1) (hp : ∀ l, P.nx (cs1.set i (.own l ds))) (hN : X.N.Nodup) (hi : X.N[i]? = some n) (hx : Loc X.env.scope n) (hf : X.fn n = true ∨ X.env.scope.names.lookup n = some .local) (hs : swapsWith e (some (.Name n np)) pos.line X.env = pure false := by rfl) :
    Sx G (rdS X (.Assign [.Name n np] e pos)) cs P :=
  sx_of (ps_set (i := i) hN hi hx pe_rd hs hf) fun F σ H E rl k1 _ _ _ _ => h F σ H _ rl fun p vs F1 H1 st1 r1 q0 q1 q2 q3 q4 => by
    obtain ⟨st2, r2⟩ := set_own (i := i) st1 r1 q0 q1 q2 q3 q4
    exact k1 _ _ F1 H1 (hp p) st2 r2
/-- a, b = two new lists -/
theorem sx_parNN (i j : Nat) {n m : Str} {ds es : List D} {px py pt : Pos} {kt k2 pt2} (ha : EvN G (rdE X a) cs ds cs1) (hb : EvN G (rdE X b) cs1 es cs2) (hp : ∀ l l', P.nx ((cs2.set i (.own l ds)).set j (.own l' es)))
    (hpar : ∀ {ta : TA}, PA X [a, b] ta → PS X (.Assign [.Tuple [.Name n px, .Name m py] kt pt] (.Tuple [a, b] k2 pt2) pos) (tPar i j ta)) (hij : i ≠ j) (hs : starEach [a, b] X.env = (false, eval a X.env) :: starEach [b] X.env := by rfl) (hs2 : starEach [b] X.env = (false, eval b X.env) :: starEach [] X.env := by rfl) :
    Sx G (rdS X (.Assign [.Tuple [.Name n px, .Name m py] kt pt] (.Tuple [a, b] k2 pt2) pos)) cs P :=
  sx_of (hpar (pa_cons pe_rd (pa_cons pe_rd pa_nil hs2) hs)) fun F σ H E rl k1 _ _ _ _ => ha F σ H _ rl fun p vs F1 H1 st1 r1 q0 q1 q2 q3 q4 => hb F1 σ H1 _ r1 fun p' vs' F2 H2 st2 r2 w0 w1 w2 w3 w4 => by
    have e1 : ¬ Owns cs2 p := fun z => by
      rcases st2.own p z with z | z
      · exact q1 z
      · rw [q2] at z; cases z
    have f1 : F2 p = none := by
      cases z : F2 p with
      | none => rfl
      | some u =>
        rcases st2.fresh p u z with z | z | z
        · rw [q3] at z; cases z
        · rw [q2] at z; cases z
        · exact absurd z q1
    obtain ⟨st3, r3⟩ := set_own (i := i) (st1.trans st2) r2 q0 e1 (st2.frame p _ q2 q1) f1 (IsAll.mono st2.fsub ds q4)
    have nn : p' ≠ p := fun z => by rw [z, q2] at w0; cases w0
    obtain ⟨st4, r4⟩ := set_own (i := j) st3 r3 (st1.back p' w0) (fun z => by
      rcases z.set with z | z
      · exact w1 z
      · cases z; exact nn rfl) w2 w3 w4
    exact ⟨.ref p, .ref p', rfl, k1 _ _ F2 H2 (hp p p') st4 r4⟩
/-! ### a list of ours changes -/
section
variable {i : Nat} {n m : Str} {np ap : Pos} {es' : List D} {o : Expr}
theorem own_meth {id : String} {rr : V → List V → Hp → VK → Prop} {F H : Hp} {σ : L2.St} (rl : Rel G F σ H cs) (h : cs[i]? = some (.own l ds)) : ∃ vs, σ[i]? = some (some (.ref l)) ∧ H l = some (.lst vs) ∧ F l = none ∧ IsAll G F ds vs ∧ tyV X.K "list" (.ref l) H := by
  obtain ⟨vs, e1, h1, h2, q⟩ := rl.own h
  exact ⟨vs, e1, h1, h2, q, .inl ⟨rfl, vs, SqL.of h1⟩⟩
/-- xs.append(e) -/
theorem sx_append (i : Nat) (h : cs[i]? = some (.own l ds)) (he : Ev G (rdE X e) cs d cs1) (h1 : cs1[i]? = some (.own l es')) (hz : es'.length < 10000000) (hp : P.nx (cs1.set i (.own l (es' ++ [d])))) (hN : X.N[i]? = some n) (hv : Vis X.env.scope n)
    (hpe : ∀ {to : TE} {t : TA}, PE X (.Name n np) to → PA X [e] t → PE X (.Call (.Attribute (.Name n np) "append" ap) [e] [] pos) (tBM X.K "list" rAppend to t)) {spos : Pos} (hd : (n == ("__debug__" : Str)) = false := by decide) (hcd : (n == ("__classdict__" : Str)) = false := by decide)
    (hs : starEach [e] X.env = (false, eval e X.env) :: starEach [] X.env := by rfl) (hsw : swapsWith (.Call (.Attribute (.Name n np) "append" ap) [e] [] pos) none spos.line X.env = pure false := by rfl) :
    Sx G (rdS X (.Expr (.Call (.Attribute (.Name n np) "append" ap) [e] [] pos) spos)) cs P :=
  sx_of (ps_expr (hpe (pe_var hN hv hd hcd) (pa_cons pe_rd pa_nil hs)) hsw) fun F σ H E rl k1 _ _ _ _ => by
    obtain ⟨vs, e1, _, _, _, ty⟩ := own_meth (X := X) (id := "") (rr := fun _ _ _ _ => True) rl h
    refine ⟨.ref l, e1, ty, he F σ H _ rl fun v F1 H1 st1 r1 q1 => ?_⟩
    obtain ⟨vs1, e2, h2, h3, h4⟩ := r1.own h1
    refine ⟨l, vs1, v, rfl, rfl, h2, ?_, ?_⟩
    · rw [h4.length]
      exact Nat.lt_trans hz (by decide)
    · exact k1 _ σ F1 _ hp (st1.trans (Stp.write h1)) (r1.write h1 (h4.append (.one q1)))
end
/-! ### loops -/
def rdI (X : Cx) (tg iter : Expr) : TI := fun σ H R => ∀ (pins : List (Addr × Obj)) (s : Shared), Inv X pins σ H s →
  wpAny (model X.prog X.w) X.A (eval iter X.env) (fun v s1 => wpAny (model X.prog X.w) X.A (pyIter v) (PIE X pins σ tg R) X.xe s1) X.xe s
theorem pi_rd : PI X tg iter (rdI X tg iter) := ⟨fun pins s _ _ _ I h => h pins s I⟩
theorem ei_of {wi : TI} {its : List D} (h : PI X tg iter wi) (q : EvI G wi cs its cs') : EvI G (rdI X tg iter) cs its cs' := fun F σ H R rl k pins s I => h.run pins s σ H R I (q F σ H R rl k)
theorem itd_list {K : PySem.W.Frag} {F : Hp} {a : Addr} {vs : List V} (h : F a = some (.lst vs)) (q : IsAll G F ds vs) : ItD G (Itl K a) F ds := fun F1 H1 s1 s2 => by
  have hq : SqL K H1 a vs := SqL.of (s2 _ _ (s1 _ _ h))
  refine ⟨fun i d e => ?_, ⟨vs, hq, by rw [q.length]; exact Nat.le_refl _⟩⟩
  obtain ⟨v, e1, q1⟩ := (IsAll.mono s1 ds q).get e
  refine ⟨⟨vs, v, hq, e1⟩, fun x H2 ⟨eH, y⟩ => ?_⟩
  subst eH
  have := y vs hq
  rw [e1] at this
  cases this
  exact ⟨F1, .refl s2, q1⟩
theorem itd_tup {K : PySem.W.Frag} {F : Hp} {a : Addr} {vs : List V} (h : SqT K F a vs) (q : IsAll G F ds vs) : ItD G (Itt K a) F ds := fun F1 H1 s1 s2 => by
  have hq : SqT K H1 a vs := same_t (s1.trans s2) h
  refine ⟨fun i d e => ?_, ⟨vs, hq, by rw [q.length]; exact Nat.le_refl _⟩⟩
  obtain ⟨v, e1, q1⟩ := (IsAll.mono s1 ds q).get e
  refine ⟨⟨vs, v, hq, e1⟩, fun x H2 ⟨eH, y⟩ => ?_⟩
  subst eH
  have := y vs hq
  rw [e1] at this
  cases this
  exact ⟨F1, .refl s2, q1⟩
def rng (n : Nat) : List D := (List.range n).map fun (i : Nat) => D.int (i : Int)
theorem rng_get {n i : Nat} {d : D} (h : (rng n)[i]? = some d) : i < n ∧ d = .int (i : Int) := by
  unfold rng at h
  rw [List.getElem?_map] at h
  by_cases hi : i < n
  · rw [List.getElem?_range hi] at h
    exact ⟨hi, (Option.some.inj h).symm⟩
  · rw [List.getElem?_eq_none (by simpa using hi)] at h
    cases h
theorem rng_length (n : Nat) : (rng n).length = n := by unfold rng; simp
theorem itd_rng {F : Hp} {n : Nat} : ItD G (Itr 0 n) F (rng n) := fun F1 H1 s1 s2 => by
  refine ⟨fun i d e => ?_, by rw [rng_length]; exact Nat.le_refl _⟩
  obtain ⟨hi, rfl⟩ := rng_get e
  refine ⟨hi, fun x H2 ⟨eH, y⟩ => ?_⟩
  subst eH
  rw [Int.zero_add] at y
  exact ⟨F1, .refl s2, y⟩
theorem ei_list (h : Ev G (rdE X iter) cs (.lst ds) cs1) : EvI G (rdI X tg iter) cs ds cs1 := ei_of (pi_list pe_rd) fun F σ H R rl q => h F σ H _ rl fun v F1 H1 st1 r1 q1 => by
  obtain ⟨a, vs, rfl, h1, h2⟩ := q1
  exact ⟨a, rfl, ⟨vs, SqL.of (r1.sub _ _ h1)⟩, q _ F1 H1 st1 r1 (itd_list h1 h2)⟩
theorem ei_tup (h : Ev G (rdE X iter) cs (.tup ds) cs1) (hK : G.K = X.K := by rfl) : EvI G (rdI X tg iter) cs ds cs1 := ei_of (pi_tup pe_rd) fun F σ H R rl q => h F σ H _ rl fun v F1 H1 st1 r1 q1 => by
  obtain ⟨a, vs, rfl, h1, h2⟩ := q1
  rw [hK] at h1
  exact ⟨a, rfl, ⟨vs, same_t r1.sub h1⟩, q _ F1 H1 st1 r1 (itd_tup h1 h2)⟩
theorem ei_seq (h : Ev G (rdE X iter) cs d cs1) (hs : d = .lst ds ∨ d = .tup ds) (hK : G.K = X.K := by rfl) : EvI G (rdI X tg iter) cs ds cs1 := by
  rcases hs with rfl | rfl
  · exact ei_list h
  · exact ei_tup h hK
theorem ei_range {p : Pos} {n : Nat} (h : EvV G (rdA X [e]) cs [.int (n : Int)] cs1) (hg : Gl X "range") (hm : X.mg "range" = none) (hn : n ≤ 1000000) (hs : starEach [e] X.env = [(false, eval e X.env)] := by rfl) : EvI G (rdI X tg (.Call (.Name "range" p) [e] [] pos)) cs (rng n) cs1 :=
  ei_of (pi_range1 hg hm pa_rd hs) fun F σ H R rl q => h F σ H _ rl fun vs F1 H1 st1 r1 q1 => by
    obtain ⟨v, r, rfl, hv, hr⟩ := q1
    cases hv
    cases hr
    refine ⟨(n : Int), rfl, by omega, by omega, ?_⟩
    rw [Int.toNat_natCast]
    exact q _ F1 H1 st1 r1 itd_rng
theorem sx_for {its : List D} (hi : EvI G (rdI X tg iter) cs its cs1) (I : Nat → List Cell → Prop) (h0 : I 0 cs1)
    (hs : ∀ (i : Nat) d cs2, its[i]? = some d → I i cs2 → ∃ cs3 tl, EvG G (rdG X tg) tl d cs2 cs3 ∧ Sx G (rdSs X body) cs3 { nx := I (i + 1), ct := I (i + 1), bk := P.nx, rt := P.rt, rn := P.rn }) (hd : ∀ cs2, I its.length cs2 → P.nx cs2)
    (hc : X.calm = true) (hp : PassesOwn (model X.prog X.w) X.A X.env X.xe := by exact PassesOwn.never) (hf : ∀ x, foldedSetIterable iter X.env x = pure x := by intro _; rfl) : Sx G (rdS X (.For tg iter body [] pos)) cs P :=
  sx_of (ps_for hp hc pi_rd pg_rd pss_rd hf) fun F σ H E rl k1 k2 k3 k4 k5 => hi F σ H _ rl fun J F1 H1 st1 r1 it => by
    refine ⟨fun i m σ2 H2 => m = its.length - i ∧ i ≤ its.length ∧ ∃ cs2 F2, I i cs2 ∧ Rel G F2 σ2 H2 cs2 ∧ Stp F1 H1 (Owns cs1) F2 H2 (Owns cs2), ⟨its.length, by simp, Nat.zero_le _, cs1, F1, h0, r1, .refl⟩, ?_⟩
    rintro i m σ2 H2 ⟨rfl, hi2, cs2, F2, i2, r2, st2⟩
    obtain ⟨hgo, hstop⟩ := it F2 H2 st2.fsub r2.sub
    by_cases hlt : i < its.length
    · obtain ⟨go, yl⟩ := hgo i its[i] (List.getElem?_eq_getElem hlt)
      refine .inr ⟨go, fun σ' H' => ∃ cs4 F4, I (i + 1) cs4 ∧ Rel G F4 σ' H' cs4 ∧ Stp F1 H1 (Owns cs1) F4 H' (Owns cs4), fun σ' H' q => ⟨its.length - (i + 1), by omega, rfl, hlt, q⟩, fun x H3 y => ?_⟩
      obtain ⟨F3, g, q3⟩ := yl x H3 y
      obtain ⟨cs3, tl, hg, hb⟩ := hs i its[i] cs2 (List.getElem?_eq_getElem hlt) i2
      refine hg F3 σ2 H3 x _ (r2.grow g) q3 fun σ3 st3 r3 _ => ?_
      have sa := (st2.trans g.stp).trans st3
      have sb := st1.trans sa
      exact hb F3 σ3 H3 _ r3 (fun cs4 σ4 F4 H4 i4 s4 r4 => ⟨cs4, F4, i4, r4, sa.trans s4⟩) (k2.after sb) (k3.after sb) (k1.after sb) (fun cs4 σ4 F4 H4 i4 s4 r4 => ⟨cs4, F4, i4, r4, sa.trans s4⟩)
    · have e : i = its.length := by omega
      subst e
      exact .inl ⟨hstop, k1 cs2 σ2 F2 H2 (hd cs2 i2) (st1.trans st2) r2⟩
theorem sx_while {m0 : Nat} (I : Nat → List Cell → Prop) (h0 : I m0 cs) (hs : ∀ m cs2, I m cs2 → ∃ k cs3, EvT G (rdT X c) cs2 k cs3 ∧ (k = true → Sx G (rdSs X body) cs3 { nx := fun cs4 => ∃ m', m' < m ∧ I m' cs4, ct := fun cs4 => ∃ m', m' < m ∧ I m' cs4, bk := P.nx, rt := P.rt, rn := P.rn }) ∧ (k = false → P.nx cs3))
    (hp : PassesOwn (model X.prog X.w) X.A X.env X.xe := by exact PassesOwn.never) : Sx G (rdS X (.While c body [] pos)) cs P :=
  sx_of (ps_while hp pt_rd pss_rd) fun F σ H E rl k1 k2 k3 k4 k5 => by
    refine ⟨fun m σ2 H2 => ∃ cs2 F2, I m cs2 ∧ Rel G F2 σ2 H2 cs2 ∧ Stp F H (Owns cs) F2 H2 (Owns cs2), ⟨m0, cs, F, h0, rl, .refl⟩, ?_⟩
    rintro m σ2 H2 ⟨cs2, F2, i2, r2, st2⟩
    obtain ⟨k, cs3, ht, hb, hn⟩ := hs m cs2 i2
    refine ht F2 σ2 H2 _ r2 fun F3 H3 st3 r3 => ?_
    have sa := st2.trans st3
    cases k with
    | true =>
      refine iteT ⟨fun σ' H' => ∃ m', m' < m ∧ ∃ cs4 F4, I m' cs4 ∧ Rel G F4 σ' H' cs4 ∧ Stp F H (Owns cs) F4 H' (Owns cs4), fun σ' H' q => q, ?_⟩
      exact hb rfl F3 σ2 H3 _ r3 (fun cs4 σ4 F4 H4 ⟨m', hm, i4⟩ s4 r4 => ⟨m', hm, cs4, F4, i4, r4, sa.trans s4⟩) (k2.after sa) (k3.after sa) (k1.after sa) (fun cs4 σ4 F4 H4 ⟨m', hm, i4⟩ s4 r4 => ⟨m', hm, cs4, F4, i4, r4, sa.trans s4⟩)
    | false => exact iteF (k1 cs3 σ2 F3 H3 (hn rfl) sa r3)
end
end Fx
namespace Fx
open PySem L2
section
variable {G : Gx} {ts : TS} {cs : List Cell} {P : Post} {l : Addr} {ds : List D}
/-- a list of ours is left as it is from here on -/
theorem sx_frz (i : Nat) (h : cs[i]? = some (.own l ds)) (q : Sx G ts (cs.set i (.val (.lst ds))) P) : Sx G ts cs P := fun F σ H E rl k1 k2 k3 k4 k5 => by
  obtain ⟨vs, _, h1, _, _⟩ := rl.own h
  obtain ⟨r', st⟩ := rl.freeze h h1
  exact q _ σ H E r' (k1.after st) (k2.after st) (k3.after st) (k4.after st) (k5.after st)
end
end Fx
/-! Rules: comprehensions; contracts of defs; calls. -/
namespace Fx
open PySem L2
def wipeC (cs : List Cell) : List Nat → List Cell
  | [] => cs
  | v :: vs => (wipeC cs vs).set v .no
def keepC : Option Cell → Cell
  | some (.val d) => .val d
  | _ => .no
theorem keepC_free (c : Option Cell) (a : Addr) : ¬ Has (keepC c) a := by
  unfold keepC
  split <;> exact fun h => h
def restC (cs2 cs5 : List Cell) : List Nat → List Cell
  | [] => cs5
  | v :: vs => (restC cs2 cs5 vs).set v (keepC cs2[v]?)
section
variable {G : Gx} {F F2 F5 H H2 H5 : Hp} {σ σ2 : L2.St} {cs cs2 cs5 : List Cell}
theorem Rel.wipe (r : Rel G F σ H cs) : ∀ vs : List Nat, Rel G F (L2.wipe σ vs) H (wipeC cs vs) ∧ Stp F H (Owns cs) F H (Owns (wipeC cs vs))
  | [] => ⟨r, .refl⟩
  | v :: vs => by
    obtain ⟨r1, s1⟩ := Rel.wipe r vs
    exact ⟨r1.setNo, s1.trans (Rel.stp_no v)⟩
theorem wipe_get (σ : L2.St) : ∀ (vs : List Nat) (j : Nat), j ∉ vs → (L2.wipe σ vs)[j]? = σ[j]?
  | [], _, _ => rfl
  | v :: vs, j, h => by
    unfold L2.wipe
    rw [List.getElem?_set_ne (fun z => h (by simp [z]))]
    exact wipe_get σ vs j fun z => h (List.mem_cons_of_mem _ z)
theorem wipe_in (σ : L2.St) : ∀ (vs : List Nat) (j : Nat), j ∈ vs → (L2.wipe σ vs)[j]? = if j < σ.length then some none else none
  | v :: vs, j, h => by
    unfold L2.wipe
    by_cases e : v = j
    · subst e
      by_cases hl : v < σ.length
      · rw [if_pos hl, List.getElem?_set_self (by rw [wipe_length]; exact hl)]
      · rw [if_neg hl, List.getElem?_eq_none (by rw [List.length_set, wipe_length]; omega)]
    · rw [List.getElem?_set_ne e]
      exact wipe_in σ vs j (by simpa [Ne.symm e] using h)
theorem wipe_same {vs : List Nat} (hl : σ2.length = σ.length) (h : ∀ j, j ∉ vs → σ2[j]? = (L2.wipe σ vs)[j]?) : L2.wipe σ2 vs = L2.wipe σ vs := by
  apply List.ext_getElem?
  intro j
  by_cases hj : j ∈ vs
  · rw [wipe_in _ _ _ hj, wipe_in _ _ _ hj, hl]
  · rw [wipe_get _ _ _ hj, h j hj]
theorem restC_length (vs : List Nat) : (restC cs2 cs5 vs).length = cs5.length := by
  induction vs with
  | nil => rfl
  | cons v vs ih => unfold restC; rw [List.length_set]; exact ih
theorem restC_get : ∀ (vs : List Nat) (j : Nat) (c : Cell), (restC cs2 cs5 vs)[j]? = some c → (j ∉ vs ∧ cs5[j]? = some c) ∨ (j ∈ vs ∧ c = keepC cs2[j]?)
  | [], j, c, h => .inl ⟨by simp, h⟩
  | v :: vs, j, c, h => by
    unfold restC at h
    rcases get_set h with ⟨rfl, rfl, _⟩ | ⟨n, h⟩
    · exact .inr ⟨by simp, rfl⟩
    · rcases restC_get vs j c h with ⟨a, b⟩ | ⟨a, b⟩
      · exact .inl ⟨by simp [a, Ne.symm n], b⟩
      · exact .inr ⟨by simp [a], b⟩
theorem Rel.rest {vs : List Nat} (r2 : Rel G F2 σ H2 cs2) (r5 : Rel G F5 σ2 H5 cs5) (s : Same F2 F5) (hl : σ2.length = σ.length) (h : ∀ j, j ∉ vs → σ2[j]? = σ[j]?) : Rel G F5 σ H5 (restC cs2 cs5 vs) where
  sub := r5.sub
  len := by
    rw [restC_length, ← r5.len, hl]
  inj := fun l i j c d h1 h2 e1 e2 => by
    have un : ∀ {i : Nat} {c : Cell}, (restC cs2 cs5 vs)[i]? = some c → Has c l → cs5[i]? = some c := fun {i c} h e => by
      rcases restC_get vs i _ h with ⟨_, q⟩ | ⟨_, q⟩
      · exact q
      · rw [q] at e; exact absurd e (keepC_free _ _)
    exact r5.inj l i j c d (un h1 e1) (un h2 e2) e1 e2
  cel := fun i c e => by
    rcases restC_get vs i c e with ⟨hn, q⟩ | ⟨hn, q⟩
    · obtain ⟨o, e1, q1⟩ := r5.cel i c q
      exact ⟨o, by rw [← h i hn]; exact e1, q1⟩
    · subst q
      cases z : cs2[i]? with
      | none =>
        have a1 : cs2.length ≤ i := List.getElem?_eq_none_iff.mp z
        have a2 : i < (restC cs2 cs5 vs).length := (List.getElem?_eq_some_iff.mp e).1
        rw [restC_length, ← r5.len, hl, r2.len] at a2
        omega
      | some c =>
        obtain ⟨o, e1, q1⟩ := r2.cel i c z
        refine ⟨o, e1, ?_⟩
        cases c with
        | no => trivial
        | own l ds => trivial
        | ins l k ds => trivial
        | mat l ls rows => trivial
        | dic l kvs => trivial
        | big b => trivial
        | val d =>
          obtain ⟨v, e2, q2⟩ := q1
          exact ⟨v, e2, Is.mono s d q2⟩
end
/-! ### list comprehensions -/
section
variable {X : Cx} {G : Gx} {e elt tg iter : Expr} {es ifs : List Expr} {pos : Pos} {cs cs' cs1 cs2 cs3 : List Cell} {d x y z : D} {ds its : List D} {k : Bool} {l : Addr} {P : Post} {scope : Scope}
def rdTs (X : Cx) (ifs : List Expr) : TT := fun σ H Q => ∀ (pins : List (Addr × Obj)) (s : Shared), Inv X pins σ H s →
  wpAny (model X.prog X.w) X.A (forIn ifs true fun c r => if r = true then do let ok ← isTrue c X.env (eval c X.env); pure (ForInStep.yield ok) else pure (ForInStep.yield r)) (TP X pins σ Q) X.xe s
theorem ets_of {tt : TT} (h : PTs X ifs tt) (q : EvT G tt cs k cs') : EvT G (rdTs X ifs) cs k cs' := fun F σ H Q r kk pins s I => h.run pins s σ H Q I (q F σ H Q r kk)
theorem ets_nil : EvT G (rdTs X []) cs true cs := ets_of pts_nil fun F σ H Q rl q => q F H .refl rl
theorem ets_one {c : Expr} (h : EvT G (rdT X c) cs k cs') : EvT G (rdTs X [c]) cs k cs' := ets_of (pts_one pt_rd) h
/-- a comprehension's block -/
abbrev Bk (X : Cx) (scope : Scope) (s : Shared) (H : Hp) (C : Addr) (cl : List (Str × Addr)) (fp : List Addr) : Cx := X.blk s H scope (compEnvC scope cl C X.env) fp
/-- one turn: I by the turn, what is made so far, the cells -/
def Turn1 (G : Gx) (X : Cx) (scope : Scope) (tg elt : Expr) (ifs : List Expr) (vs : List Nat) (I : Nat → List D → List Cell → Prop) (i : Nat) (d : D) (acc : List D) (cs2 : List Cell) : Prop :=
  ∃ cs3 tl k cs4, (∀ j ∈ tl, j ∈ vs) ∧ (∀ s H C cl fp, EvG G (rdG (Bk X scope s H C cl fp) tg) tl d (wipeC cs2 vs) cs3) ∧ (∀ s H C cl fp, EvT G (rdTs (Bk X scope s H C cl fp) ifs) cs3 k cs4) ∧
    (k = true → ∃ y cs5, (∀ s H C cl fp, Ev G (rdE (Bk X scope s H C cl fp) elt) cs4 y cs5) ∧ acc.length < 10000000 ∧ I (i + 1) (acc ++ [y]) (restC cs2 cs5 vs)) ∧ (k = false → I (i + 1) acc (restC cs2 cs4 vs))
/-- .. one of several values; .. of several new lists -/
def EvR (G : Gx) (te : TE) (cs : List Cell) (R : D → List Cell → Prop) : Prop := ∀ (F : Hp) (σ : L2.St) (H : Hp) (Q : VK), Rel G F σ H cs →
  (∀ d cs' v F' H', R d cs' → Stp F H (Owns cs) F' H' (Owns cs') → Rel G F' σ H' cs' → Is G F' d v → Q v H') → te σ H Q
def EvNR (G : Gx) (te : TE) (cs : List Cell) (R : List D → List Cell → Prop) : Prop := ∀ (F : Hp) (σ : L2.St) (H : Hp) (Q : VK), Rel G F σ H cs →
  (∀ ds cs' p vs F' H', R ds cs' → Stp F H (Owns cs) F' H' (Owns cs') → Rel G F' σ H' cs' → H p = none → ¬ Owns cs' p → H' p = some (.lst vs) → F' p = none → IsAll G F' ds vs → Q (.ref p) H') → te σ H Q
def Turn1R (G : Gx) (X : Cx) (scope : Scope) (tg elt : Expr) (ifs : List Expr) (vs : List Nat) (I : Nat → List D → List Cell → Prop) (i : Nat) (d : D) (acc : List D) (cs2 : List Cell) : Prop :=
  ∃ cs3 tl k cs4, (∀ j ∈ tl, j ∈ vs) ∧ (∀ s H C cl fp, EvG G (rdG (Bk X scope s H C cl fp) tg) tl d (wipeC cs2 vs) cs3) ∧ (∀ s H C cl fp, EvT G (rdTs (Bk X scope s H C cl fp) ifs) cs3 k cs4) ∧
    (k = true → ∃ R', (∀ s H C cl fp, EvR G (rdE (Bk X scope s H C cl fp) elt) cs4 R') ∧ ∀ y cs5, R' y cs5 → acc.length < 10000000 ∧ I (i + 1) (acc ++ [y]) (restC cs2 cs5 vs)) ∧ (k = false → I (i + 1) acc (restC cs2 cs4 vs))
theorem stp_sub {F H F' H' : Hp} {O O' O2 : Addr → Prop} (s : Stp F H O F' H' O') (h : ∀ a, O2 a → O' a) : Stp F H O F' H' O2 := ⟨s.fsub, s.frame, s.fresh, fun a z => s.own a (h a z), s.back⟩
theorem owns_rest {vs : List Nat} {a : Addr} {cs5 : List Cell} (h : Owns (restC cs2 cs5 vs) a) : Owns cs5 a := by
  obtain ⟨i, c, e, ho⟩ := h
  rcases restC_get vs i _ e with ⟨_, q⟩ | ⟨_, q⟩
  · exact ⟨i, c, q, ho⟩
  · rw [q] at ho; exact absurd ho (keepC_free _ _)
theorem Stp.plus {F H F' H' : Hp} {O O' : Addr → Prop} {a : Addr} (s : Stp F H O F' H' O') : Stp F H (fun b => O b ∨ b = a) F' H' (fun b => O' b ∨ b = a) :=
  ⟨s.fsub, fun b o e n => s.frame b o e fun z => n (.inl z), fun b o e => by
    rcases s.fresh b o e with z | z | z
    · exact .inl z
    · exact .inr (.inl z)
    · exact .inr (.inr (.inl z)), fun b e => by
    rcases e with e | e
    · rcases s.own b e with z | z
      · exact .inl (.inl z)
      · exact .inr z
    · exact .inl (.inr e), s.back⟩
theorem stp_wr {F H : Hp} {O : Addr → Prop} {a : Addr} {o : HO} : Stp F H (fun b => O b ∨ b = a) F (upd H a o) (fun b => O b ∨ b = a) :=
  ⟨Same.refl F, fun b u e n => by rw [upd_ne (fun z => n (.inr z))]; exact e, fun _ _ e => .inl e, fun _ e => .inl e, fun b e => by
    by_cases z : b = a
    · rw [z, upd_same] at e; cases e
    · rw [upd_ne z] at e; exact e⟩
theorem Rel.updFree {F H : Hp} {σ : L2.St} {a : Addr} {o : HO} (r : Rel G F σ H cs) (h : F a = none) (no : ¬ Owns cs a) : Rel G F σ (upd H a o) cs where
  sub := fun b u e => by rw [upd_ne (ne_of_none e h)]; exact r.sub b u e
  len := r.len
  inj := r.inj
  cel := fun i c e => by
    obtain ⟨q, e1, q1⟩ := r.cel i c e
    refine ⟨q, e1, q1.mono (Same.refl F) fun l u ho a1 a2 => ⟨?_, a2⟩⟩
    rw [upd_ne (fun z => no (by rw [← z]; exact ⟨i, c, e, ho⟩))]
    exact a1
theorem free_of {F H F' H' : Hp} {O O' : Addr → Prop} {a : Addr} {o : HO} (s : Stp F H O F' H' O') (h : F a = none) (h1 : H a = some o) (n : ¬ O a) : F' a = none := by
  cases e : F' a with
  | none => rfl
  | some u =>
    rcases s.fresh a u e with z | z | z
    · rw [h] at z; cases z
    · rw [h1] at z; cases z
    · exact absurd z n
theorem not_owns_of {F H F' H' : Hp} {O O' : Addr → Prop} {a : Addr} {o : HO} (s : Stp F H O F' H' O') (h1 : H a = some o) (n : ¬ O a) : ¬ O' a := fun z => by
  rcases s.own a z with z | z
  · exact n z
  · rw [h1] at z; cases z
abbrev gU (X : Cx) (scope : Scope) (tg : Expr) : TG := fun v σ H Q => ∀ s H0 C cl fp, rdG (Bk X scope s H0 C cl fp) tg v σ H Q
abbrev tU (X : Cx) (scope : Scope) (ifs : List Expr) : TT := fun σ H Q => ∀ s H0 C cl fp, rdTs (Bk X scope s H0 C cl fp) ifs σ H Q
abbrev eU (X : Cx) (scope : Scope) (elt : Expr) : TE := fun σ H Q => ∀ s H0 C cl fp, rdE (Bk X scope s H0 C cl fp) elt σ H Q
theorem evnr_tLc {own : List (Str × Nat)} {R : List D → List Cell → Prop} (hi : EvI G (rdI X tg iter) cs its cs1) (I : Nat → List D → List Cell → Prop) (h0 : I 0 [] cs1)
    (hs : ∀ (i : Nat) d acc cs2, its[i]? = some d → I i acc cs2 → Turn1R G X scope tg elt ifs (own.map (·.2)) I i d acc cs2)
    (hd : ∀ acc cs2, I its.length acc cs2 → R acc cs2) :
    EvNR G (tLc (rdI X tg iter) (gU X scope tg) (tU X scope ifs) (eU X scope elt) (own.map (·.2))) cs R := fun F σ H Q rl q => by
    refine hi F σ H _ rl fun J F1 H1 st1 r1 it Dl hD => ?_
    have g0 := grow_new (o := .lst []) r1.sub hD
    have hF : F1 Dl = none := by
      cases e : F1 Dl with
      | none => rfl
      | some u => rw [r1.sub Dl u e] at hD; cases hD
    have hH : H Dl = none := st1.back Dl hD
    refine ⟨fun i m H2 => m = its.length - i ∧ i ≤ its.length ∧ ∃ acc cs2 F2 ws, I i acc cs2 ∧ Rel G F2 σ H2 cs2 ∧ Stp F1 (upd H1 Dl (.lst [])) (fun a => Owns cs1 a ∨ a = Dl) F2 H2 (fun a => Owns cs2 a ∨ a = Dl) ∧ H2 Dl = some (.lst ws) ∧ F2 Dl = none ∧ IsAll G F2 acc ws ∧ ¬ Owns cs2 Dl,
      ⟨its.length, by simp, Nat.zero_le _, [], cs1, F1, [], h0, r1.grow g0, .refl, upd_same, hF, rfl, r1.notOwns hD⟩, ?_⟩
    rintro i m H2 ⟨rfl, hi2, acc, cs2, F2, ws, i2, r2, st2, hw, hF2, qa, no2⟩
    obtain ⟨hgo, hstop⟩ := it F2 H2 st2.fsub r2.sub
    have stAll : Stp F H (Owns cs) F2 H2 (Owns cs2) := by
      refine ⟨st1.fsub.trans st2.fsub, fun a o e n => ?_, fun a o e => ?_, fun a e => ?_, fun a e => ?_⟩
      · have na : a ≠ Dl := fun z => by rw [z, hH] at e; cases e
        have e1 := st1.frame a o e n
        refine st2.frame a o (by rw [upd_ne na]; exact e1) fun z => ?_
        rcases z with z | z
        · rcases st1.own a z with y | y
          · exact n y
          · rw [y] at e; cases e
        · exact na z
      · rcases st2.fresh a o e with z | z | z | z
        · exact st1.fresh a o z
        · have na : a ≠ Dl := fun y => by rw [y, upd_same] at z; cases z
          rw [upd_ne na] at z
          exact .inr (.inl (st1.back a z))
        · rcases st1.own a z with y | y
          · exact .inr (.inr y)
          · exact .inr (.inl y)
        · rw [z, hF2] at e; cases e
      · rcases st2.own a (.inl e) with (z | z) | z
        · exact st1.own a z
        · exact absurd (z ▸ e) no2
        · have na : a ≠ Dl := fun y => by rw [y, upd_same] at z; cases z
          rw [upd_ne na] at z
          exact .inr (st1.back a z)
      · have z := st2.back a e
        have na : a ≠ Dl := fun y => by rw [y, upd_same] at z; cases z
        rw [upd_ne na] at z
        exact st1.back a z
    by_cases hlt : i < its.length
    · obtain ⟨go, yl⟩ := hgo i its[i] (List.getElem?_eq_getElem hlt)
      refine .inr ⟨go, fun H' => ∃ acc cs4 F4 ws, I (i + 1) acc cs4 ∧ Rel G F4 σ H' cs4 ∧ Stp F1 (upd H1 Dl (.lst [])) (fun a => Owns cs1 a ∨ a = Dl) F4 H' (fun a => Owns cs4 a ∨ a = Dl) ∧ H' Dl = some (.lst ws) ∧ F4 Dl = none ∧ IsAll G F4 acc ws ∧ ¬ Owns cs4 Dl,
        fun H' z => ⟨its.length - (i + 1), by omega, rfl, hlt, z⟩, fun x H3 y => ?_⟩
      obtain ⟨F3, g, q3⟩ := yl x H3 y
      obtain ⟨cs3, tl, k, cs4, htl, hg, ht, hy, hn⟩ := hs i its[i] acc cs2 (List.getElem?_eq_getElem hlt) i2
      have r3 := r2.grow g
      obtain ⟨rw3, sw3⟩ := r3.wipe (own.map (·.2))
      intro sA HA CA clA fpA
      refine hg sA HA CA clA fpA F3 (L2.wipe σ (own.map (·.2))) H3 x _ rw3 q3 fun σ3 st3 r4 u3 => ?_
      have hl3 : σ3.length = σ.length := u3.1.trans (wipe_length σ _)
      have out : ∀ j, j ∉ own.map (·.2) → σ3[j]? = (L2.wipe σ (own.map (·.2)))[j]? := fun j hj => u3.2 j fun z => hj (htl j z)
      have outS : ∀ j, j ∉ own.map (·.2) → σ3[j]? = σ[j]? := fun j hj => (out j hj).trans (wipe_get σ _ j hj)
      have w3 : H3 Dl = some (.lst ws) := g.hsub _ _ hw
      have f3 : F3 Dl = none := by
        cases e : F3 Dl with
        | none => rfl
        | some u =>
          rcases g.fresh Dl u e with z | z
          · rw [hF2] at z; cases z
          · rw [hw] at z; cases z
      have no3 : ¬ Owns cs3 Dl := fun z => by
        rcases st3.own Dl z with z | z
        · rcases sw3.own Dl z with z | z
          · exact no2 z
          · rw [w3] at z; cases z
        · rw [w3] at z; cases z
      refine ⟨wipe_same hl3 out, ?_⟩
      intro sB HB CB clB fpB
      refine ht sB HB CB clB fpB F3 σ3 H3 _ r4 fun F4 H4 st4 r5 => ?_
      have w4 : H4 Dl = some (.lst ws) := st4.frame _ _ w3 no3
      have f4 : F4 Dl = none := free_of st4 f3 w3 no3
      have no4 : ¬ Owns cs4 Dl := not_owns_of st4 w3 no3
      have s4 : Stp F2 H2 (Owns cs2) F4 H4 (Owns cs4) := ((g.stp.trans sw3).trans st3).trans st4
      cases k with
      | true =>
        obtain ⟨R', he, hR⟩ := hy rfl
        refine iteT ?_
        intro sC HC CC clC fpC
        refine he sC HC CC clC fpC F4 σ3 H4 _ r5 fun y cs5 v F5 H5 ry st5 r6 q6 => ?_
        obtain ⟨hz, i5⟩ := hR y cs5 ry
        have w5 : H5 Dl = some (.lst ws) := st5.frame _ _ w4 no4
        have f5 : F5 Dl = none := free_of st5 f4 w4 no4
        have no5 : ¬ Owns cs5 Dl := not_owns_of st5 w4 no4
        have s5 := s4.trans st5
        have no6 : ¬ Owns (restC cs2 cs5 (own.map (·.2))) Dl := fun z => no5 (owns_rest z)
        refine ⟨ws, w5, by rw [qa.length]; exact Nat.lt_trans hz (by decide), acc ++ [y], restC cs2 cs5 (own.map (·.2)), F5, ws ++ [v], i5, (r2.rest r6 s5.fsub hl3 outS).updFree f5 no6, ?_, upd_same, f5, (IsAll.mono s5.fsub acc qa).append (.one q6), no6⟩
        exact (st2.trans (stp_sub s5 fun a => owns_rest).plus).trans stp_wr
      | false =>
        have i5 := hn rfl
        refine iteF ⟨acc, restC cs2 cs4 (own.map (·.2)), F4, ws, i5, r2.rest r5 s4.fsub hl3 outS, st2.trans (stp_sub s4 fun a => owns_rest).plus, w4, f4, IsAll.mono s4.fsub acc qa, fun z => no4 (owns_rest z)⟩
    · have e : i = its.length := by omega
      subst e
      exact .inl ⟨hstop, q acc cs2 Dl ws F2 H2 (hd acc cs2 i2) stAll r2 hH no2 hw hF2 qa⟩
theorem evn_tLc {own : List (Str × Nat)} (hi : EvI G (rdI X tg iter) cs its cs1) (I : Nat → List D → List Cell → Prop) (h0 : I 0 [] cs1)
    (hs : ∀ (i : Nat) d acc cs2, its[i]? = some d → I i acc cs2 → Turn1 G X scope tg elt ifs (own.map (·.2)) I i d acc cs2)
    (hd : ∀ acc cs2, I its.length acc cs2 → acc = ds ∧ cs2 = cs') :
    EvN G (tLc (rdI X tg iter) (gU X scope tg) (tU X scope ifs) (eU X scope elt) (own.map (·.2))) cs ds cs' := fun F σ H Q rl q =>
  evnr_tLc (R := fun acc cs2 => acc = ds ∧ cs2 = cs') hi I h0 (fun i d acc cs2 h1 h2 => by
    obtain ⟨cs3, tl, k, cs4, a1, a2, a3, a4, a5⟩ := hs i d acc cs2 h1 h2
    refine ⟨cs3, tl, k, cs4, a1, a2, a3, fun hk => ?_, a5⟩
    obtain ⟨y, cs5, b1, b2, b3⟩ := a4 hk
    exact ⟨fun z c => z = y ∧ c = cs5, fun s H0 C cl fp F σ H Q rl q => b1 s H0 C cl fp F σ H Q rl fun v F' H' st r i => q y cs5 v F' H' ⟨rfl, rfl⟩ st r i, fun z c ⟨e1, e2⟩ => by subst e1 e2; exact ⟨b2, b3⟩⟩) hd F σ H Q rl fun acc cs2 p vs F' H' ⟨e1, e2⟩ => by subst e1 e2; exact q p vs F' H'
theorem evn_lc {own : List (Str × Nat)} (h : EvN G (tLc (rdI X tg iter) (gU X scope tg) (tU X scope ifs) (eU X scope elt) (own.map (·.2))) cs ds cs') (hc : X.calm = true) (hN : X.N.Nodup) (ok : BlkOk X.N X.env.scope scope own) (hf : ∀ x, foldedSetIterable iter X.env x = pure x := by intro _; rfl) :
    EvN G (rdE X (.ListComp elt [⟨tg, iter, ifs, 0⟩] scope pos)) cs ds cs' :=
  evn_of (pe_lc (g := gU X scope tg) (tt := tU X scope ifs) (te := eU X scope elt) hc hN pi_rd ok
    (fun s H0 C cl fp => ⟨fun pins t σ H v u Q J r h => h s H0 C cl fp pins t u J r⟩) (fun s H0 C cl fp => ⟨fun pins t σ H Q J h => h s H0 C cl fp pins t J⟩) (fun s H0 C cl fp => ⟨fun pins t σ H Q J h => h s H0 C cl fp pins t J⟩) hf) h
/-- name = [..] on one line -/
theorem sx_setLc (i : Nat) {own : List (Str × Nat)} {n : Str} {py spos : Pos} (h : EvN G (tLc (rdI X tg iter) (gU X scope tg) (tU X scope ifs) (eU X scope elt) (own.map (·.2))) cs ds cs1) (hp : ∀ l, P.nx (cs1.set i (.own l ds))) (hc : X.calm = true) (hN : X.N.Nodup) (hy : X.N[i]? = some n) (hyl : X.env.scope.names.lookup n = some .local)
    (hsw : swapsWith (.ListComp elt [⟨tg, iter, ifs, 0⟩] scope pos) (some (.Name n py)) spos.line X.env = pure true) (ok : BlkOk X.N X.env.scope scope own) (hf : ∀ x, foldedSetIterable iter X.env x = pure x := by intro _; rfl) :
    Sx G (rdS X (.Assign [.Name n py] (.ListComp elt [⟨tg, iter, ifs, 0⟩] scope pos) spos)) cs P :=
  sx_of (ps_setLc (i := i) (g := gU X scope tg) (tt := tU X scope ifs) (te := eU X scope elt) hc hN hy hyl hsw pi_rd ok
    (fun s H0 C cl fp => ⟨fun pins t σ H v u Q J r h => h s H0 C cl fp pins t u J r⟩) (fun s H0 C cl fp => ⟨fun pins t σ H Q J h => h s H0 C cl fp pins t J⟩) (fun s H0 C cl fp => ⟨fun pins t σ H Q J h => h s H0 C cl fp pins t J⟩) hf) fun F σ H E rl k1 _ _ _ _ => h F σ H _ rl fun p vs F1 H1 st1 r1 q0 q1 q2 q3 q4 => by
    obtain ⟨st2, r2⟩ := set_own (i := i) st1 r1 q0 q1 q2 q3 q4
    exact k1 _ _ F1 H1 (hp p) st2 r2
end
end Fx
namespace Fx
open PySem L2
section
variable {X : Cx} {G : Gx} {elt tg iter : Expr} {ifs : List Expr} {cs cs1 : List Cell} {scope : Scope}
/-- one turn that changes nothing -/
def TurnP (G : Gx) (X : Cx) (scope : Scope) (tg elt : Expr) (ifs : List Expr) (vs : List Nat) (cs1 : List Cell) (d : D) (k : Bool) (y : D) : Prop :=
  ∃ cs3 tl, (∀ j ∈ tl, j ∈ vs) ∧ (∀ s H C cl fp, EvG G (rdG (Bk X scope s H C cl fp) tg) tl d (wipeC cs1 vs) cs3) ∧ (∀ s H C cl fp, EvT G (rdTs (Bk X scope s H C cl fp) ifs) cs3 k cs3) ∧
    (k = true → ∀ s H C cl fp, Ev G (rdE (Bk X scope s H C cl fp) elt) cs3 y cs3) ∧ restC cs1 cs3 vs = cs1
theorem filter_take_succ {α : Type} (t : α → Bool) (xs : List α) {i : Nat} {x : α} (h : xs[i]? = some x) : (xs.take (i + 1)).filter t = (xs.take i).filter t ++ if t x = true then [x] else [] := by
  rw [List.take_add_one, h, List.filter_append]
  congr 1
  simp only [Option.toList_some, List.filter_cons, List.filter_nil]
theorem evn_pure {α : Type} {own : List (Str × Nat)} (xs : List α) (enc : α → D) (t : α → Bool) (g : α → D) (hi : EvI G (rdI X tg iter) cs (xs.map enc) cs1) (hz : xs.length < 10000000) (hs : ∀ x ∈ xs, TurnP G X scope tg elt ifs (own.map (·.2)) cs1 (enc x) (t x) (g x)) :
    EvN G (tLc (rdI X tg iter) (gU X scope tg) (tU X scope ifs) (eU X scope elt) (own.map (·.2))) cs ((xs.filter t).map g) cs1 := by
  refine evn_tLc (its := xs.map enc) hi (fun i acc c => acc = ((xs.take i).filter t).map g ∧ c = cs1) ⟨by simp, rfl⟩ (fun i d acc c hd hI => ?_) (fun acc c hI => ?_)
  · obtain ⟨rfl, rfl⟩ := hI
    rw [List.getElem?_map] at hd
    cases e : xs[i]? with
    | none => rw [e] at hd; cases hd
    | some x =>
      rw [e] at hd
      cases hd
      have hx : x ∈ xs := List.mem_of_getElem? e
      obtain ⟨cs3, tl, h1, h2, h3, h4, h5⟩ := hs x hx
      refine ⟨cs3, tl, t x, cs3, h1, h2, h3, fun ht => ⟨g x, cs3, h4 ht, ?_, ?_, h5⟩, fun ht => ⟨?_, h5⟩⟩
      · have a1 := List.length_filter_le t (xs.take i)
        have a2 := List.length_take_le i xs
        have a3 : (xs.take i).length ≤ xs.length := by rw [List.length_take]; omega
        rw [List.length_map]
        omega
      · rw [filter_take_succ t xs e, if_pos ht, List.map_append]; rfl
      · rw [filter_take_succ t xs e, if_neg (by rw [ht]; decide), List.append_nil]
  · obtain ⟨rfl, rfl⟩ := hI
    rw [List.length_map, List.take_length]
    exact ⟨rfl, rfl⟩
end
end Fx
/-! Contracts of defs, and calls. -/
namespace Fx
open PySem L2
inductive Out where
  | val (d : D) | new (ds : List D)
def Ret (G : Gx) (F H : Hp) (o : Out) (Q : VK) : Prop := match o with
  | .val d => ∀ v F' H', Grow F H F' H' → Is G F' d v → Q v H'
  | .new es => ∀ p vs F' H', Grow F H F' H' → H p = none → H' p = some (.lst vs) → F' p = none → IsAll G F' es vs → Q (.ref p) H'
/-- a def of values: C tells what comes back -/
def sp0 (G : Gx) (C : List D → Out → Prop) : Sp := fun vs H Q _ => ∃ F ds o, Same F H ∧ IsAll G F ds vs ∧ C ds o ∧ Ret G F H o Q
def RetP (G : Gx) (F H : Hp) (l : Addr) (o : Out) (ps' : List D) (Q : VK) : Prop := match o with
  | .val d => ∀ v F' H' pv', Stp F H (· = l) F' H' (· = l) → Same F' H' → H' l = some (.lst pv') → F' l = none → IsAll G F' ps' pv' → Is G F' d v → Q v H'
  | .new es => ∀ p vs F' H' pv', Stp F H (· = l) F' H' (· = l) → Same F' H' → H' l = some (.lst pv') → F' l = none → IsAll G F' ps' pv' → H p = none → H' p = some (.lst vs) → F' p = none → IsAll G F' es vs → Q (.ref p) H'
/-- a def whose first argument is a list that it changes -/
def sp1 (G : Gx) (C : List D → List D → Out → List D → Prop) : Sp := fun vs H Q _ => ∃ F l pv us ps ds o ps', Same F H ∧ vs = .ref l :: us ∧ H l = some (.lst pv) ∧ F l = none ∧ IsAll G F ps pv ∧ IsAll G F ds us ∧ C ps ds o ps' ∧ RetP G F H l o ps' Q
def post0 (o : Out) : Post := match o with
  | .val d => { nx := fun _ => d = .non, rt := fun d' _ => d' = d }
  | .new es => { nx := fun _ => False, rn := fun es' _ => es' = es }
def post1 (l : Addr) (ps' : List D) (o : Out) : Post := match o with
  | .val d => { nx := fun cs => d = .non ∧ cs[0]? = some (.own l ps'), rt := fun d' cs => d' = d ∧ cs[0]? = some (.own l ps') }
  | .new es => { nx := fun _ => False, rn := fun es' cs => es' = es ∧ cs[0]? = some (.own l ps') }
def nos (n : Nat) : List Cell := List.replicate n .no
def vals (ds : List D) : List Cell := ds.map .val
section
variable {G : Gx} {F H : Hp}
theorem owns_start {ds : List D} {n : Nat} {l : Addr} : ¬ Owns (vals ds ++ nos n) l := fun ⟨i, c, h1, ho⟩ => by
  unfold vals nos at h1
  rw [List.getElem?_append] at h1
  split at h1
  · rw [List.getElem?_map] at h1
    cases e : ds[i]? with
    | none => rw [e] at h1; cases h1
    | some d => rw [e] at h1; cases h1; cases ho
  · rw [List.getElem?_replicate] at h1
    split at h1
    · cases h1; cases ho
    · cases h1
theorem rel_start {ds : List D} {vs : List V} {N : List Str} (s : Same F H) (h : IsAll G F ds vs) (hl : ds.length ≤ N.length) : Rel G F (start N vs) H (vals ds ++ nos (N.length - ds.length)) where
  sub := s
  len := by
    unfold L2.start vals nos
    rw [List.length_append, List.length_append, List.length_map, List.length_map, List.length_replicate, List.length_replicate, h.length]
  inj := fun l i j c d h1 _ e1 _ => absurd ⟨i, c, h1, e1⟩ owns_start
  cel := fun i c e => by
    unfold vals nos at e
    unfold L2.start
    rw [List.getElem?_append] at e ⊢
    rw [List.length_map] at e ⊢
    rw [h.length]
    split at e
    · rename_i hi
      rw [if_pos hi, List.getElem?_map]
      rw [List.getElem?_map] at e
      cases q : ds[i]? with
      | none => rw [q] at e; cases e
      | some d =>
        rw [q] at e
        obtain ⟨v, e1, q1⟩ := h.get q
        rw [e1]
        cases e
        exact ⟨_, rfl, v, rfl, q1⟩
    · rename_i hi
      rw [if_neg hi, List.getElem?_replicate]
      rw [List.getElem?_replicate] at e
      split at e
      · rename_i h2
        rw [if_pos h2]
        cases e
        exact ⟨_, rfl, trivial⟩
      · cases e
theorem rel_start1 {l : Addr} {pv : List V} {ps ds : List D} {vs : List V} {N : List Str} (s : Same F H) (h1 : H l = some (.lst pv)) (h2 : F l = none) (hp : IsAll G F ps pv) (h : IsAll G F ds vs) (hl : ds.length + 1 ≤ N.length) :
    Rel G F (start N (.ref l :: vs)) H (.own l ps :: (vals ds ++ nos (N.length - (ds.length + 1)))) := by
  cases N with
  | nil => simp at hl
  | cons n N =>
    have r := rel_start (N := N) s h (by simpa using hl)
    have e : start (n :: N) (V.ref l :: vs) = some (V.ref l) :: start N vs := by unfold L2.start; simp
    have e2 : (n :: N).length - (ds.length + 1) = N.length - ds.length := by simp
    rw [e, e2]
    refine ⟨s, by rw [List.length_cons, List.length_cons, r.len], fun i c q => ?_, fun l' i j c d q1 q2 e1 e2 => ?_⟩
    · cases i with
      | zero =>
        cases q
        exact ⟨_, rfl, l, .lst pv, rfl, rfl, h1, h2, pv, rfl, hp⟩
      | succ i => exact r.cel i c (by simpa using q)
    · cases i with
      | zero =>
        cases j with
        | zero => rfl
        | succ j => exact absurd ⟨j, d, by simpa using q2, e2⟩ owns_start
      | succ i => exact absurd ⟨i, c, by simpa using q1, e1⟩ owns_start
theorem owns_start1 {ds ps : List D} {n : Nat} {l a : Addr} : Owns (.own l ps :: (vals ds ++ nos n)) a ↔ a = l := by
  constructor
  · rintro ⟨i, c, h, e⟩
    cases i with
    | zero => cases h; cases e; rfl
    | succ i => exact absurd ⟨i, c, by simpa using h, e⟩ owns_start
  · rintro rfl
    exact ⟨0, _, rfl, rfl⟩
theorem grow_of {F H F' H' : Hp} {O O' : Addr → Prop} (s : Stp F H O F' H' O') (n : ∀ a, ¬ O a) (h : Same F' H') : Grow F H F' H' :=
  ⟨s.fsub, fun a o e => s.frame a o e (n a), h, fun a o e => by
    rcases s.fresh a o e with z | z | z
    · exact .inl z
    · exact .inr z
    · exact absurd z (n a)⟩
end
/-- the context of a def's body -/
abbrev cx0 (P : Program) (w : World) (K : PySem.W.Frag) (mg : Str → Option Value) (base : Heap) (N : List Str) (qual : Str) (st : Stmt) (f : Addr) (cdv : Value) (A : Around) (outer : List Env) (s : Shared) (H : Hp) (E : XK) : Cx := (cxOf CX0 P w K mg base N qual (defScope st) f cdv A outer s H E).nox
section
variable {P : Program} {w : World} {G : Gx} {mg : Str → Option Value} {base : Heap} {x qual : Str} {st : Stmt} {f : Addr} {fd : FuncData} {N ps : List Str} {k : Nat}
theorem fnOk0 {C : List D → Out → Prop} (F : L2.Fun G.K x qual st f fd) (S : FnScope N ps (defScope st)) (hl : ∀ ds o, C ds o → ds.length = ps.length) (hN : ps.length ≤ N.length)
    (body : ∀ cdv A outer s H E, Room k (cx0 P w G.K mg base N qual st f cdv A outer s H E).A → ∀ ds o, C ds o → Sx G (rdSs (cx0 P w G.K mg base N qual st f cdv A outer s H E) (defBody st)) (vals ds ++ nos (N.length - ps.length)) (post0 o)) :
    FnOk P w G.K mg base CX0 (k + 1) f fd ps (sp0 G C) := by
  have hlen : ∀ vs H Q E, sp0 G C vs H Q E → vs.length = ps.length := fun vs H Q E ⟨F, ds, o, _, h, c, _⟩ => h.length.trans (hl ds o c)
  refine F.ok S hlen fun cdv A outer s H vs Q E hr hsp => ?_
  obtain ⟨F0, ds, o, sm, h, c, ret⟩ := hsp
  refine ⟨_, pss_rd, ?_⟩
  have hdl := hl ds o c
  have rl := rel_start (N := N) sm h (by omega)
  rw [hdl] at rl
  have no : ∀ a, ¬ Owns (vals ds ++ nos (N.length - ps.length)) a := fun a => owns_start
  refine body cdv A outer s H E hr ds o c F0 _ H _ rl ?_ ?_ ?_ (fun cs' σ' F' H' hp => ?_) (fun cs' σ' F' H' hp => ?_)
  · intro cs' σ' F' H' hp st r
    cases o with
    | val d =>
      have e : d = .non := hp
      subst e
      exact ret .non F' H' (grow_of st no r.sub) rfl
    | new es => exact False.elim hp
  · intro d cs' σ' F' H' v hp st r q
    cases o with
    | val d' =>
      have e : d = d' := hp
      subst e
      exact ret v F' H' (grow_of st no r.sub) q
    | new es => exact False.elim hp
  · intro es cs' σ' F' H' p vs' hp st r q0 q1 q2 q3 q4
    cases o with
    | val d' => exact False.elim hp
    | new es' =>
      have e : es = es' := hp
      subst e
      exact ret p vs' F' H' (grow_of st no r.sub) (q0.elim id fun z => absurd z (no p)) q2 q3 q4
  · cases o <;> exact False.elim hp
  · cases o <;> exact False.elim hp
theorem fn0 {C : List D → Out → Prop} (F : L2.Fun G.K x qual st f fd) (S : FnScope N ps (defScope st)) (hb : Binds G.K fd ps []) (hl : ∀ ds o, C ds o → ds.length = ps.length) (hN : ps.length ≤ N.length)
    (body : ∀ cdv A outer s H E, Room k (cx0 P w G.K mg base N qual st f cdv A outer s H E).A → ∀ ds o, C ds o → Sx G (rdSs (cx0 P w G.K mg base N qual st f cdv A outer s H E) (defBody st)) (vals ds ++ nos (N.length - ps.length)) (post0 o)) :
    FnR P w G.K mg base CX0 (k + 1) f (sp0 G C) := by
  have := (fnOk0 F S hl hN body).raw hb (dvs := []) .nil
  intro A outer s H us vs Q E hr e0 r hsp
  exact this A outer s H us vs Q E hr e0 r (by show _; simpa using hsp)
theorem stp_pen {F H F' H' : Hp} {O' : Addr → Prop} {l : Addr} {ps ds : List D} {n : Nat} (s : Stp F H (Owns (.own l ps :: (vals ds ++ nos n))) F' H' O') (h : H l ≠ none) : Stp F H (· = l) F' H' (· = l) :=
  ⟨s.fsub, fun a o e z => s.frame a o e fun y => z (owns_start1.mp y), fun a o e => by
    rcases s.fresh a o e with z | z | z
    · exact .inl z
    · exact .inr (.inl z)
    · exact .inr (.inr (owns_start1.mp z)), fun a e => .inl e, s.back⟩
theorem fn1 {C : List D → List D → Out → List D → Prop} (F : L2.Fun G.K x qual st f fd) (S : FnScope N ps (defScope st)) (hb : Binds G.K fd ps []) (hl : ∀ qs ds o qs', C qs ds o qs' → ds.length + 1 = ps.length) (hN : ps.length ≤ N.length)
    (body : ∀ cdv A outer s H E, Room k (cx0 P w G.K mg base N qual st f cdv A outer s H E).A → ∀ l qs ds o qs', C qs ds o qs' → Sx G (rdSs (cx0 P w G.K mg base N qual st f cdv A outer s H E) (defBody st)) (.own l qs :: (vals ds ++ nos (N.length - ps.length))) (post1 l qs' o)) :
    FnR P w G.K mg base CX0 (k + 1) f (sp1 G C) := by
  have hlen : ∀ vs H Q E, sp1 G C vs H Q E → vs.length = ps.length := fun vs H Q E ⟨F, l, pv, us, qs, ds, o, qs', _, e, _, _, _, h, c, _⟩ => by rw [e, List.length_cons, h.length]; exact hl _ _ _ _ c
  have K1 : FnOk P w G.K mg base CX0 (k + 1) f fd ps (sp1 G C) := by
    refine F.ok S hlen fun cdv A outer s H vs Q E hr hsp => ?_
    obtain ⟨F0, l, pv, us, qs, ds, o, qs', sm, rfl, h1, h2, hp, h, c, ret⟩ := hsp
    refine ⟨_, pss_rd, ?_⟩
    have hdl := hl qs ds o qs' c
    have rl := rel_start1 (N := N) sm h1 h2 hp h (by omega)
    rw [hdl] at rl
    have ne : H l ≠ none := by rw [h1]; intro z; cases z
    refine body cdv A outer s H E hr l qs ds o qs' c F0 _ H _ rl ?_ ?_ ?_ (fun cs' σ' F' H' hp => ?_) (fun cs' σ' F' H' hp => ?_)
    · intro cs' σ' F' H' hp st r
      cases o with
      | val d =>
        obtain ⟨e, e2⟩ : d = D.non ∧ cs'[0]? = some (Cell.own l qs') := hp
        subst e
        obtain ⟨pv', _, a1, a2, a3⟩ := r.own e2
        exact ret .non F' H' pv' (stp_pen st ne) r.sub a1 a2 a3 rfl
      | new es => exact False.elim hp
    · intro d cs' σ' F' H' v hp st r q
      cases o with
      | val d' =>
        obtain ⟨e, e2⟩ : d = d' ∧ cs'[0]? = some (Cell.own l qs') := hp
        subst e
        obtain ⟨pv', _, a1, a2, a3⟩ := r.own e2
        exact ret v F' H' pv' (stp_pen st ne) r.sub a1 a2 a3 q
      | new es => exact False.elim hp
    · intro es cs' σ' F' H' p vs' hp st r q0 q1 q2 q3 q4
      cases o with
      | val d' => exact False.elim hp
      | new es' =>
        obtain ⟨e, e2⟩ : es = es' ∧ cs'[0]? = some (Cell.own l qs') := hp
        subst e
        obtain ⟨pv', _, a1, a2, a3⟩ := r.own e2
        refine ret p vs' F' H' pv' (stp_pen st ne) r.sub a1 a2 a3 (q0.elim id fun z => ?_) q2 q3 q4
        have : p = l := owns_start1.mp z
        exact absurd ⟨0, _, e2, by rw [this]; rfl⟩ q1
    · cases o <;> exact False.elim hp
    · cases o <;> exact False.elim hp
  have := K1.raw hb (dvs := []) .nil
  intro A outer s H us vs Q E hr e0 r hsp
  exact this A outer s H us vs Q E hr e0 r (by show _; simpa using hsp)
end
/-! ### calls -/
def Fn0 (G : Gx) (P : Program) (w : World) (mg : Str → Option Value) (base : Heap) (k : Nat) (n : Str) (C : List D → Out → Prop) : Prop := ∃ f, mg n = some (.ref f) ∧ PySem.W.keepIn G.K (.ref f) = true ∧ FnR P w G.K mg base CX0 k f (sp0 G C)
def Fn1 (G : Gx) (P : Program) (w : World) (mg : Str → Option Value) (base : Heap) (k : Nat) (n : Str) (C : List D → List D → Out → List D → Prop) : Prop := ∃ f, mg n = some (.ref f) ∧ PySem.W.keepIn G.K (.ref f) = true ∧ FnR P w G.K mg base CX0 k f (sp1 G C)
section
variable {X : Cx} {G : Gx} {e : Expr} {es : List Expr} {np pos : Pos} {n : Str} {cs cs' cs1 cs2 : List Cell} {d : D} {ds es' qs qs' : List D} {l : Addr} {j k : Nat}
theorem pe_callR {CX : CXT} {f : Addr} {sp : Sp} {E : XK} {t : TA} (F : FnR X.prog X.w X.K X.mg X.base CX k f sp) (hr : Room k X.A) (hk : PySem.W.keepIn X.K (.ref f) = true) (hg : Gl X n) (hm : X.mg n = some (.ref f)) (hx : Passes CX X E) (ha : PA X (e :: es) t) (hd : (n == ("__debug__" : Str)) = false := by decide)
    (he : starEach (e :: es) X.env = (false, eval e X.env) :: starEach es X.env := by rfl) (hpl : (backTo pos (starEach es X.env)).any (·.1) = false := by rfl) :
    PE X (.Call (.Name n np) (e :: es) [] pos) (fun σ H Q => t σ H fun vs H1 => sp vs H1 Q E) := by
  refine ⟨fun pins s σ H Q I h => ?_⟩
  refine wpAny_Call_Name_kw (ld_glob I hg hm ?_ hd)
  refine PySem.W.callWith_K (h₀ := X.base) I.ok.mod.kin hk (thn (ha.run pos pins s σ H _ I h) fun us s1 ⟨vs, H1, I1, r, q⟩ => ⟨I1.kIn, ?_⟩) he hpl
  exact wpAny_call (run_fnR F hr hx I1 r q)
theorem ev_fn0 {C : List D → Out → Prop} (Fn : Fn0 G X.prog X.w X.mg X.base k n C) (hr : Room j X.A) (hk : k ≤ j) (ha : EvV G (rdA X (e :: es)) cs ds cs1) (hC : C ds (.val d)) (hg : Gl X n) (hK : G.K = X.K := by rfl) (hd : (n == ("__debug__" : Str)) = false := by decide)
    (he : starEach (e :: es) X.env = (false, eval e X.env) :: starEach es X.env := by rfl) (hpl : (backTo pos (starEach es X.env)).any (·.1) = false := by rfl) : Ev G (rdE X (.Call (.Name n np) (e :: es) [] pos)) cs d cs1 := by
  obtain ⟨f, hm, kp, F⟩ := Fn
  rw [hK] at kp F
  refine ev_of (pe_callR F (hr.mono hk) kp hg hm pass0 pa_rd hd he hpl) fun F σ H Q rl q => ha F σ H _ rl fun vs F1 H1 st1 r1 q1 => ?_
  exact ⟨F1, ds, .val d, r1.sub, q1, hC, fun v F2 H2 g q2 => q v F2 H2 (st1.trans g.stp) (r1.grow g) q2⟩
theorem evn_fn0 {C : List D → Out → Prop} (Fn : Fn0 G X.prog X.w X.mg X.base k n C) (hr : Room j X.A) (hk : k ≤ j) (ha : EvV G (rdA X (e :: es)) cs ds cs1) (hC : C ds (.new es')) (hg : Gl X n) (hK : G.K = X.K := by rfl) (hd : (n == ("__debug__" : Str)) = false := by decide)
    (he : starEach (e :: es) X.env = (false, eval e X.env) :: starEach es X.env := by rfl) (hpl : (backTo pos (starEach es X.env)).any (·.1) = false := by rfl) : EvN G (rdE X (.Call (.Name n np) (e :: es) [] pos)) cs es' cs1 := by
  obtain ⟨f, hm, kp, F⟩ := Fn
  rw [hK] at kp F
  refine evn_of (pe_callR F (hr.mono hk) kp hg hm pass0 pa_rd hd he hpl) fun F σ H Q rl q => ha F σ H _ rl fun vs F1 H1 st1 r1 q1 => ?_
  exact ⟨F1, ds, .new es', r1.sub, q1, hC, fun p vs F2 H2 g h0 h1 h2 h3 => q p vs F2 H2 (st1.trans g.stp) (r1.grow g) (st1.back p h0) (r1.notOwns h0) h1 h2 h3⟩
theorem pen_back {i : Nat} {F1 H1 F2 H2 : Hp} {σ : L2.St} {pv' : List V} (r1 : Rel G F1 σ H1 cs1) (hi : cs1[i]? = some (.own l qs)) (st : Stp F1 H1 (· = l) F2 H2 (· = l)) (s : Same F2 H2) (h1 : H2 l = some (.lst pv')) (h2 : F2 l = none) (q : IsAll G F2 qs' pv') :
    Rel G F2 σ H2 (cs1.set i (.own l qs')) ∧ Stp F1 H1 (Owns cs1) F2 H2 (Owns (cs1.set i (.own l qs'))) := by
  refine ⟨⟨s, by rw [List.length_set]; exact r1.len, fun a c e => ?_, fun l' a b c d h1 h2 e1 e2 => ?_⟩, ⟨st.fsub, fun a o e n => st.frame a o e fun z => n (by rw [z]; exact .of hi), fun a o e => ?_, fun a e => .inl (Owns.mut hi rfl rfl e), st.back⟩⟩
  · rcases get_set e with ⟨rfl, rfl, _⟩ | ⟨n, e3⟩
    · obtain ⟨vs, e1, _⟩ := r1.own hi
      exact ⟨_, e1, l, .lst pv', rfl, rfl, h1, h2, pv', rfl, q⟩
    · obtain ⟨o, e1, q1⟩ := r1.cel a c e3
      refine ⟨o, e1, q1.mono st.fsub fun l' u ho a1 a2 => ?_⟩
      have nl : l' ≠ l := fun z => n (by subst z; exact r1.inj _ _ _ _ _ hi e3 rfl ho)
      exact ⟨st.frame _ _ a1 nl, free_of st a2 a1 nl⟩
  · have un : ∀ {a : Nat} {c : Cell}, (cs1.set i (.own l qs'))[a]? = some c → Has c l' → ∃ d, cs1[a]? = some d ∧ Has d l' := fun {a c} h he => by
      rcases get_set h with ⟨rfl, z, _⟩ | ⟨_, h⟩
      · rw [z] at he; cases he; exact ⟨_, hi, rfl⟩
      · exact ⟨_, h, he⟩
    obtain ⟨_, h1, e1⟩ := un h1 e1
    obtain ⟨_, h2, e2⟩ := un h2 e2
    exact r1.inj l' a b _ _ h1 h2 e1 e2
  · rcases st.fresh a o e with z | z | z
    · exact .inl z
    · exact .inr (.inl z)
    · exact .inr (.inr (by rw [z]; exact .of hi))
theorem ev_fn1 {C : List D → List D → Out → List D → Prop} (i : Nat) (Fn : Fn1 G X.prog X.w X.mg X.base k n C) (hr : Room j X.A) (hk : k ≤ j) (ha : EvP G (rdA X (e :: es)) cs l ds cs1) (hi : cs1[i]? = some (.own l qs)) (hC : C qs ds (.val d) qs') (hg : Gl X n) (hK : G.K = X.K := by rfl) (hd : (n == ("__debug__" : Str)) = false := by decide)
    (he : starEach (e :: es) X.env = (false, eval e X.env) :: starEach es X.env := by rfl) (hpl : (backTo pos (starEach es X.env)).any (·.1) = false := by rfl) : Ev G (rdE X (.Call (.Name n np) (e :: es) [] pos)) cs d (cs1.set i (.own l qs')) := by
  obtain ⟨f, hm, kp, F⟩ := Fn
  rw [hK] at kp F
  refine ev_of (pe_callR F (hr.mono hk) kp hg hm pass0 pa_rd hd he hpl) fun F σ H Q rl q => ha F σ H _ rl fun vs F1 H1 st1 r1 q1 => ?_
  obtain ⟨pv, _, a1, a2, a3⟩ := r1.own hi
  refine ⟨F1, l, pv, vs, qs, ds, .val d, qs', r1.sub, rfl, a1, a2, a3, q1, hC, fun v F2 H2 pv' st2 s2 h1 h2 h3 h4 => ?_⟩
  obtain ⟨r2, s3⟩ := pen_back r1 hi st2 s2 h1 h2 h3
  exact q v F2 H2 (st1.trans s3) r2 h4
end
end Fx
/-! Operations by data. -/
namespace Fx
open PySem L2
mutual
def toPy : D → PyData
  | .non => .none
  | .bl b => .bool b
  | .int i => .int i
  | .str x => .str x
  | .tup ds => .tuple (toPys ds)
  | .lst ds => .list (toPys ds)
  | .ptup ds => .tuple (toPys ds)
  | _ => .none
def toPys : List D → List PyData
  | [] => []
  | d :: ds => toPy d :: toPys ds
end
mutual
def plain : D → Bool
  | .non => true
  | .bl _ => true
  | .int _ => true
  | .str x => PyData.canLay0 (.str x)
  | .tup ds => plains ds
  | .lst ds => plains ds
  | .ptup ds => plains ds
  | _ => false
def plains : List D → Bool
  | [] => true
  | d :: ds => plain d && plains ds
end
theorem plains_all : ∀ ds : List D, plains ds = ds.all plain
  | [] => rfl
  | d :: ds => by
    show (plain d && plains ds) = _
    rw [plains_all ds]; rfl
mutual
def deep : D → Nat
  | .tup ds => deeps ds + 1
  | .lst ds => deeps ds + 1
  | .ptup ds => deeps ds + 1
  | _ => 0
def deeps : List D → Nat
  | [] => 0
  | d :: ds => max (deep d) (deeps ds)
end
section
variable {G : Gx} {F H : Hp}
mutual
theorem dp_of (s : Same F H) : ∀ (d : D) (v : V), Is G F d v → plain d = true → Dp G.K H v (toPy d)
  | .non, _, h, _ => by cases h; exact .non
  | .bl b, _, h, _ => by cases h; exact .bl b
  | .int i, _, h, _ => by cases h; exact .int i
  | .str x, _, h, _ => by cases h; exact .str x
  | .tup ds, _, h, p => by
    obtain ⟨a, xs, rfl, h1, h2⟩ := h
    exact .tup (same_t s h1) (dps_of s ds xs h2 p)
  | .lst ds, _, h, p => by
    obtain ⟨a, xs, rfl, h1, h2⟩ := h
    exact .lst (SqL.of (s _ _ h1)) (dps_of s ds xs h2 p)
  | .ptup ds, _, h, p => by
    obtain ⟨a, xs, o, rfl, h1, h2, h3⟩ := h
    exact .tup (.inl (.inr ⟨o, s _ _ h1⟩)) (dps_of s ds xs h3 p)
  | .emp, _, _, p => by cases p
  | .obj _ _, _, _, p => by cases p
  | .scr _, _, _, p => by cases p
  | .cls _, _, _, p => by cases p
  | .fct _, _, _, p => by cases p
theorem dps_of (s : Same F H) : ∀ (ds : List D) (vs : List V), IsAll G F ds vs → plains ds = true → DpAll G.K H vs (toPys ds)
  | [], _, h, _ => by cases h; exact .nil
  | d :: ds, _, h, p => by
    obtain ⟨v, r, rfl, h1, h2⟩ := h
    have p' : (plain d && plains ds) = true := p
    rw [Bool.and_eq_true] at p'
    exact .cons (dp_of s d v h1 p'.1) (dps_of s ds r h2 p'.2)
end
end
mutual
theorem lay_of : ∀ d : D, plain d = true → (toPy d).canLay0 = true
  | .non, _ => rfl
  | .bl _, _ => rfl
  | .int _, _ => rfl
  | .str x, p => p
  | .tup ds, p => lays_of ds p
  | .lst ds, p => lays_of ds p
  | .ptup ds, p => lays_of ds p
  | .emp, p => by cases p
  | .obj _ _, p => by cases p
  | .scr _, p => by cases p
  | .cls _, p => by cases p
  | .fct _, p => by cases p
theorem lays_of : ∀ ds : List D, plains ds = true → PyData.canLayAll0 (toPys ds) = true
  | [], _ => rfl
  | d :: ds, p => by
    have p' : (plain d && plains ds) = true := p
    rw [Bool.and_eq_true] at p'
    show ((toPy d).canLay0 && PyData.canLayAll0 (toPys ds)) = true
    rw [lay_of d p'.1, lays_of ds p'.2]; rfl
end
mutual
theorem depth_of : ∀ d : D, (toPy d).depth ≤ deep d
  | .non => Nat.le_refl _
  | .bl _ => Nat.le_refl _
  | .int _ => Nat.le_refl _
  | .str _ => Nat.le_refl _
  | .tup ds => Nat.succ_le_succ (depths_of ds)
  | .lst ds => Nat.succ_le_succ (depths_of ds)
  | .ptup ds => Nat.succ_le_succ (depths_of ds)
  | .emp => Nat.le_refl _
  | .obj _ _ => Nat.le_refl _
  | .scr _ => Nat.le_refl _
  | .cls _ => Nat.le_refl _
  | .fct _ => Nat.le_refl _
theorem depths_of : ∀ ds : List D, PyData.depthAll (toPys ds) ≤ deeps ds
  | [] => Nat.le_refl _
  | d :: ds => by
    show max (toPy d).depth (PyData.depthAll (toPys ds)) ≤ max (deep d) (deeps ds)
    have := depth_of d
    have := depths_of ds
    omega
end
/-- data that == and in serve -/
def fine (d : D) : Prop := plain d = true ∧ deep d ≤ 64
theorem fine.shaped {d : D} (h : fine d) : SeqAt.shaped (toPy d) = true := by
  have := depth_of d
  show ((toPy d).canLay0 && decide ((toPy d).depth ≤ 64)) = true
  rw [lay_of d h.1, decide_eq_true (by have := h.2; omega)]; rfl
def eqD (x y : D) : Bool := PyData.eqv (toPy x) (toPy y)
/-! ### operators -/
def BinJ (G : Gx) (X : Cx) (op : Operator) (x y z : D) : Prop := ∃ r, OpR X (binaryOp op) r ∧ OpD G r x y z
def BinN (G : Gx) (X : Cx) (op : Operator) (x y : D) (ds : List D) : Prop := ∃ r, OpR X (binaryOp op) r ∧ OpN G r x y ds
def CmpJ (G : Gx) (X : Cx) (op : CmpOp) (x y : D) (k : Bool) : Prop := ∃ r, OpR X (compareOp op) r ∧ OpD G r x y (.bl k)
def IxJ (G : Gx) (X : Cx) (x y z : D) : Prop := ∃ r, IxR X r ∧ OpD G r x y z
section
variable {X : Cx} {G : Gx} {a b c e : Expr} {es : List Expr} {pos : Pos} {cs cs1 cs2 cs3 : List Cell} {x y z w : D} {ds es' xs ys : List D} {k k1 k2 : Bool} {i j : Int} {s t : Str} {n : Nat}
theorem ev_b {op : Operator} (q : BinJ G X op x y z) (ha : Ev G (rdE X a) cs x cs1) (hb : Ev G (rdE X b) cs1 y cs2) : Ev G (rdE X (.BinOp a op b pos)) cs z cs2 := by
  obtain ⟨r, h1, h2⟩ := q
  exact ev_bin h1 h2 ha hb
theorem evn_b {op : Operator} (q : BinN G X op x y ds) (ha : Ev G (rdE X a) cs x cs1) (hb : Ev G (rdE X b) cs1 y cs2) : EvN G (rdE X (.BinOp a op b pos)) cs ds cs2 := by
  obtain ⟨r, h1, h2⟩ := q
  exact evn_bin h1 h2 ha hb
theorem ev_c {op : CmpOp} (q : CmpJ G X op x y k) (ha : Ev G (rdE X a) cs x cs1) (hb : Ev G (rdE X b) cs1 y cs2) (hm : behindInMarks op b = false := by first | exact nomark _ | rfl) : Ev G (rdE X (.Compare a [op] [b] pos)) cs (.bl k) cs2 := by
  obtain ⟨r, h1, h2⟩ := q
  exact ev_cmp h1 h2 ha hb hm
theorem et_c {op : CmpOp} (q : CmpJ G X op x y k) (ha : Ev G (rdE X a) cs x cs1) (hb : Ev G (rdE X b) cs1 y cs2) (hm : behindInMarks op b = false := by first | exact nomark _ | rfl) : EvT G (rdT X (.Compare a [op] [b] pos)) cs k cs2 := by
  obtain ⟨r, h1, h2⟩ := q
  exact et_cmp h1 h2 ha hb hm
theorem ev_i (q : IxJ G X x y z) (ha : Ev G (rdE X a) cs x cs1) (hb : Ev G (rdE X b) cs1 y cs2) (hs : PlainIx b := by exact fun _ _ => rfl) : Ev G (rdE X (.Subscript a b pos)) cs z cs2 := by
  obtain ⟨r, h1, h2⟩ := q
  exact ev_ix h1 h2 ha hb hs
/-- x <= y <= z -/
theorem ev_cc {op op' : CmpOp} (q : CmpJ G X op x y k) (q2 : k = true → CmpJ G X op' y w k1) (ha : Ev G (rdE X a) cs x cs1) (hb : Ev G (rdE X b) cs1 y cs2) (hc : Ev G (rdE X c) cs2 w cs2)
    (hpe : ∀ {r r' : R2} {t1 t2 t3 : TE}, OpR X (compareOp op) r → OpR X (compareOp op') r' → PE X a t1 → PE X b t2 → PE X c t3 → PE X (.Compare a [op, op'] [b, c] pos) (tChain r r' t1 t2 t3)) : Ev G (rdE X (.Compare a [op, op'] [b, c] pos)) cs (.bl (k && k1)) cs2 := by
  obtain ⟨r, h1, h2⟩ := q
  cases k with
  | true =>
    obtain ⟨r', h3, h4⟩ := q2 rfl
    exact ev_chain h1 h3 h2 (fun _ => h4) ha hb (fun _ => hc) (hpe h1 h3)
  | false => exact ev_chain (w := w) (r' := fun _ _ _ _ => False) (k1 := k1) h1 (fun _ _ _ _ _ _ _ _ _ _ _ _ h => h.elim) h2 (fun z => by cases z) ha hb (fun z => by cases z) (hpe h1 (fun _ _ _ _ _ _ _ _ _ _ _ _ h => h.elim))
theorem od_I0 {g : Int → Int → V} (hz : ∀ F, Is G F z (g i j)) : OpD G (rI0 g) (.int i) (.int j) z := fun F H v w Q s h1 h2 q => by
  cases h1; cases h2
  exact ⟨i, j, rfl, rfl, q _ F H (.refl s) (hz F)⟩
theorem od_I {C : Int → Int → Prop} {g : Int → Int → V} (hc : C i j) (hz : ∀ F, Is G F z (g i j)) : OpD G (rI C g) (.int i) (.int j) z := fun F H v w Q s h1 h2 q => by
  cases h1; cases h2
  exact ⟨i, j, rfl, rfl, hc, q _ F H (.refl s) (hz F)⟩
theorem b_add : BinJ G X .Add (.int i) (.int j) (.int (i + j)) := ⟨_, op_add, od_I0 fun _ => rfl⟩
theorem b_sub : BinJ G X .Sub (.int i) (.int j) (.int (i - j)) := ⟨_, op_sub, od_I0 fun _ => rfl⟩
theorem b_mul (h : CMul i j) : BinJ G X .Mult (.int i) (.int j) (.int (i * j)) := ⟨_, op_mul, od_I h fun _ => rfl⟩
theorem b_mod (h : 0 < j) : BinJ G X .Mod (.int i) (.int j) (.int (i % j)) := ⟨_, op_mod, od_I h fun _ => rfl⟩
theorem b_div (h : CDivW i j) : BinJ G X .FloorDiv (.int i) (.int j) (.int (i / j)) := ⟨_, op_fdivW, od_I h fun _ => rfl⟩
theorem b_pow (h : CPow i j) : BinJ G X .Pow (.int i) (.int j) (.int (i ^ j.toNat)) := ⟨_, op_pow, od_I h fun _ => rfl⟩
theorem b_addS (h : s.length + t.length ≤ 10000000) : BinJ G X .Add (.str s) (.str t) (.str (s ++ t)) := ⟨_, op_add_str, fun F H v w Q sm h1 h2 q => by
  cases h1; cases h2
  exact ⟨s, t, rfl, rfl, Nat.le_trans h (by decide), q _ F H (.refl sm) rfl⟩⟩
theorem b_addL (h : xs.length + ys.length ≤ 10000000) : BinN G X .Add (.lst xs) (.lst ys) (xs ++ ys) := ⟨_, op_cat, fun F H v w Q sm h1 h2 q => by
  obtain ⟨p, vs, rfl, a1, a2⟩ := h1
  obtain ⟨p', ws, rfl, b1, b2⟩ := h2
  exact ⟨p, p', vs, ws, rfl, rfl, sm _ _ a1, sm _ _ b1, by rw [a2.length, b2.length]; exact Nat.le_trans h (by decide), fun l hl => q l _ hl (a2.append b2)⟩⟩
theorem b_addT (h : xs.length + ys.length ≤ 10000000) (hK : G.K = X.K := by rfl) : BinJ G X .Add (.tup xs) (.tup ys) (.tup (xs ++ ys)) := ⟨_, op_catA, fun F H v w Q sm h1 h2 q => by
  have h1' := h1
  have h2' := h2
  obtain ⟨p, vs, rfl, a1, a2⟩ := h1
  obtain ⟨p', ws, rfl, b1, b2⟩ := h2
  rw [hK] at a1 b1
  refine ⟨p, p', vs, ws, rfl, rfl, same_t sm a1, same_t sm b1, by rw [a2.length, b2.length]; exact Nat.le_trans h (by decide), fun e => ?_, fun _ e => ?_, fun _ _ l hl => ?_⟩
  · have : xs = [] := List.eq_nil_of_length_eq_zero (by rw [← a2.length, e]; rfl)
    subst this
    exact q _ F H (.refl sm) h2'
  · have : ys = [] := List.eq_nil_of_length_eq_zero (by rw [← b2.length, e]; rfl)
    subst this
    rw [List.append_nil] at q
    exact q _ F H (.refl sm) h1'
  · have g := grow_know (o := .tup (vs ++ ws)) sm hl
    exact q _ _ _ g ⟨l, _, rfl, SqT.of upd_same, IsAll.mono g.fsub _ (a2.append b2)⟩⟩
/-! comparisons -/
theorem c_lt : CmpJ G X .Lt (.int i) (.int j) (decide (i < j)) := ⟨_, op_lt, od_I0 fun _ => rfl⟩
theorem c_le : CmpJ G X .LtE (.int i) (.int j) (decide (i ≤ j)) := ⟨_, op_le, od_I0 fun _ => rfl⟩
theorem c_gt : CmpJ G X .Gt (.int i) (.int j) (decide (j < i)) := ⟨_, op_gt, od_I0 fun _ => rfl⟩
theorem c_eq : CmpJ G X .Eq (.int i) (.int j) (decide (i = j)) := ⟨_, op_eq, fun F H v w Q sm h1 h2 q => by
  cases h1; cases h2
  refine ⟨rfl, ?_⟩
  rw [show decide (V.int i = V.int j) = decide (i = j) by rw [dec_int, Bool.beq_eq_decide_eq]]
  exact q _ F H (.refl sm) rfl⟩
theorem c_ne : CmpJ G X .NotEq (.int i) (.int j) (!decide (i = j)) := ⟨_, op_ne, fun F H v w Q sm h1 h2 q => by
  cases h1; cases h2
  refine ⟨rfl, ?_⟩
  rw [show decide (V.int i = V.int j) = decide (i = j) by rw [dec_int, Bool.beq_eq_decide_eq]]
  exact q _ F H (.refl sm) rfl⟩
theorem c_eqS : CmpJ G X .Eq (.str s) (.str t) (decide (s = t)) := ⟨_, op_eq, fun F H v w Q sm h1 h2 q => by
  cases h1; cases h2
  refine ⟨rfl, ?_⟩
  rw [show decide (V.str s = V.str t) = decide (s = t) by rw [dec_str, Bool.beq_eq_decide_eq]]
  exact q _ F H (.refl sm) rfl⟩
theorem c_neS : CmpJ G X .NotEq (.str s) (.str t) (!decide (s = t)) := ⟨_, op_ne, fun F H v w Q sm h1 h2 q => by
  cases h1; cases h2
  refine ⟨rfl, ?_⟩
  rw [show decide (V.str s = V.str t) = decide (s = t) by rw [dec_str, Bool.beq_eq_decide_eq]]
  exact q _ F H (.refl sm) rfl⟩
theorem c_neD (hu : X.A.units + 64 < cLine) (hx : fine x) (hy : fine y) (hK : G.K = X.K := by rfl) : CmpJ G X .NotEq x y (!eqD x y) := ⟨_, op_neD hu, fun F H v w Q sm h1 h2 q => by
  have d1 := dp_of sm x v h1 hx.1
  have d2 := dp_of sm y w h2 hy.1
  rw [hK] at d1 d2
  exact ⟨_, _, d1, d2, hx.shaped, hy.shaped, q _ F H (.refl sm) rfl⟩⟩
theorem toPys_any (x : D) : ∀ ds : List D, ((toPys ds).any fun z => PyData.eqv z (toPy x)) = ds.any fun z => eqD z x
  | [] => rfl
  | d :: ds => by
    show (PyData.eqv (toPy d) (toPy x) || (toPys ds).any _) = _
    rw [toPys_any x ds]; rfl
theorem c_inL (hu : X.A.units + 65 < cLine) (hx : fine x) (hy : fine (.lst ds)) (hK : G.K = X.K := by rfl) : CmpJ G X .In x (.lst ds) (ds.any fun z => eqD z x) := ⟨_, op_inD hu, fun F H v w Q sm h1 h2 q => by
  have d1 := dp_of sm x v h1 hx.1
  have d2 := dp_of sm _ w h2 hy.1
  rw [hK] at d1 d2
  refine ⟨_, toPys ds, d1, d2, hx.shaped, hy.shaped, ?_⟩
  rw [toPys_any]
  exact q _ F H (.refl sm) rfl⟩
theorem c_niL (hu : X.A.units + 65 < cLine) (hx : fine x) (hy : fine (.lst ds)) (hK : G.K = X.K := by rfl) : CmpJ G X .NotIn x (.lst ds) (!ds.any fun z => eqD z x) := ⟨_, op_notInD hu, fun F H v w Q sm h1 h2 q => by
  have d1 := dp_of sm x v h1 hx.1
  have d2 := dp_of sm _ w h2 hy.1
  rw [hK] at d1 d2
  refine ⟨_, toPys ds, d1, d2, hx.shaped, hy.shaped, ?_⟩
  rw [toPys_any]
  exact q _ F H (.refl sm) rfl⟩
def isN : D → Bool
  | .non => true
  | _ => false
theorem is_non {F : Hp} : ∀ {x : D} {v : V}, Is G F x v → decide (v = .non) = isN x
  | .non, _, h => by cases h; rfl
  | .bl _, _, h => by cases h; rfl
  | .int _, _, h => by cases h; rfl
  | .str _, _, h => by cases h; rfl
  | .tup _, _, h => by obtain ⟨_, _, rfl, _⟩ := h; rfl
  | .lst _, _, h => by obtain ⟨_, _, rfl, _⟩ := h; rfl
  | .emp, _, h => by obtain ⟨_, rfl, _⟩ := h; rfl
  | .obj _ _, _, h => by obtain ⟨_, _, _, rfl, _⟩ := h; rfl
  | .scr _, _, h => by obtain ⟨_, rfl, _⟩ := h; rfl
  | .cls _, _, h => by cases h; rfl
  | .fct p, _, h => decide_eq_false (p.nn _ _ h)
  | .ptup _, _, h => by obtain ⟨_, _, _, rfl, _⟩ := h; rfl
theorem c_notN : CmpJ G X .IsNot x .non (!isN x) := ⟨_, op_notN, fun F H v w Q sm h1 h2 q => by
  cases h2
  refine ⟨rfl, ?_⟩
  rw [is_non h1]
  exact q _ F H (.refl sm) rfl⟩
/-! items -/
theorem atI_get {α : Type} {l : List α} {i : Int} {j : Nat} (h : ixN l.length i = some j) : atI l i = l[j]? := by unfold atI; rw [h]; rfl
theorem i_lst {m : Nat} (h : ixN xs.length i = some m) (hz : xs[m]? = some z) : IxJ G X (.lst xs) (.int i) z := ⟨_, ix_list, fun F H v w Q sm h1 h2 q => by
  obtain ⟨p, vs, rfl, a1, a2⟩ := h1
  cases h2
  obtain ⟨u, e, q1⟩ := a2.get hz
  exact ⟨p, vs, i, u, rfl, rfl, SqL.of (sm _ _ a1), by rw [atI_get (j := m) (by rw [a2.length]; exact h)]; exact e, q u F H (.refl sm) q1⟩⟩
theorem i_tup {m : Nat} (h : ixN xs.length i = some m) (hz : xs[m]? = some z) (hK : G.K = X.K := by rfl) : IxJ G X (.tup xs) (.int i) z := ⟨_, ix_tup, fun F H v w Q sm h1 h2 q => by
  obtain ⟨p, vs, rfl, a1, a2⟩ := h1
  cases h2
  obtain ⟨u, e, q1⟩ := a2.get hz
  rw [hK] at a1
  exact ⟨p, vs, i, u, rfl, rfl, same_t sm a1, by rw [atI_get (j := m) (by rw [a2.length]; exact h)]; exact e, q u F H (.refl sm) q1⟩⟩
theorem i_scr {m : Nat} {ns : List Int} (h : ixN ns.length i = some m) (hz : ns[m]? = some j) (hK : G.K = X.K := by rfl) : IxJ G X (.scr ns) (.int i) (.int j) := ⟨_, ix_list, fun F H v w Q sm h1 h2 q => by
  obtain ⟨p, rfl, a1⟩ := h1
  cases h2
  rw [hK] at a1
  refine ⟨p, _, i, .int j, rfl, rfl, same_l sm a1, ?_, q _ F H (.refl sm) rfl⟩
  rw [atI_get (j := m) (by rw [List.length_map]; exact h), List.getElem?_map, hz]; rfl⟩
theorem ixN_nat {n j : Nat} (hj : j < n) : ixN n (j : Int) = some j := by
  unfold ixN
  rw [if_pos (by omega), if_pos (by omega)]
  simp
theorem ixN_last {n : Nat} (h : 0 < n) : ixN n (-1) = some (n - 1) := by
  unfold ixN
  rw [if_neg (by decide), if_pos (by omega)]
  congr 1
  omega
/-! built-in functions -/
theorem cd_len (h : x = .lst xs ∨ x = .tup xs) (hK : G.K = X.K := by rfl) : CallD G (fun vs H Q => ∃ p ys, vs = [.ref p] ∧ (SqL X.K H p ys ∨ SqT X.K H p ys) ∧ Q (.int ys.length) H) [x] (.int (xs.length : Int)) := fun F H vs Q sm h1 q => by
  obtain ⟨v, r, rfl, hv, hr⟩ := h1
  cases hr
  rcases h with rfl | rfl
  · obtain ⟨p, ws, rfl, a1, a2⟩ := hv
    refine ⟨p, ws, rfl, .inl (SqL.of (sm _ _ a1)), ?_⟩
    rw [a2.length]
    exact q _ F H (.refl sm) rfl
  · obtain ⟨p, ws, rfl, a1, a2⟩ := hv
    rw [hK] at a1
    refine ⟨p, ws, rfl, .inr (same_t sm a1), ?_⟩
    rw [a2.length]
    exact q _ F H (.refl sm) rfl
theorem ev_len {np : Pos} (h : x = .lst xs ∨ x = .tup xs) (ha : Ev G (rdE X e) cs x cs1) (hm : X.mg "len" = none) (hg : Gl X "len") (hK : G.K = X.K := by rfl) (hs : starEach [e] X.env = (false, eval e X.env) :: starEach [] X.env := by rfl) (hpl : (backTo pos (starEach [] X.env)).any (·.1) = false := by rfl) :
    Ev G (rdE X (.Call (.Name "len" np) [e] [] pos)) cs (.int (xs.length : Int)) cs1 := ev_callB call_len_seq (cd_len h hK) (evv_cons ha evv_nil hs) hg hm PySem.boot_len (by decide) (by decide) hs hpl
theorem ev_lenL {np : Pos} (ha : Ev G (rdE X e) cs (.lst xs) cs1) (hm : X.mg "len" = none) (hg : Gl X "len") (hK : G.K = X.K := by rfl) (hs : starEach [e] X.env = (false, eval e X.env) :: starEach [] X.env := by rfl) (hpl : (backTo pos (starEach [] X.env)).any (·.1) = false := by rfl) :
    Ev G (rdE X (.Call (.Name "len" np) [e] [] pos)) cs (.int (xs.length : Int)) cs1 := ev_len (.inl rfl) ha hm hg hK hs hpl
theorem ev_lenT {np : Pos} (ha : Ev G (rdE X e) cs (.tup xs) cs1) (hm : X.mg "len" = none) (hg : Gl X "len") (hK : G.K = X.K := by rfl) (hs : starEach [e] X.env = (false, eval e X.env) :: starEach [] X.env := by rfl) (hpl : (backTo pos (starEach [] X.env)).any (·.1) = false := by rfl) :
    Ev G (rdE X (.Call (.Name "len" np) [e] [] pos)) cs (.int (xs.length : Int)) cs1 := ev_len (.inr rfl) ha hm hg hK hs hpl
/-! ### a list of ours, looked at -/
def minus (F : Hp) (l : Addr) : Hp := fun a => if a = l then none else F a
theorem minus_ne {F : Hp} {l a : Addr} (h : a ≠ l) : minus F l a = F a := if_neg h
theorem minus_same {F : Hp} {l : Addr} : minus F l l = none := if_pos rfl
mutual
def imm : D → Bool
  | .non => true
  | .bl _ => true
  | .int _ => true
  | .str _ => true
  | .tup ds => imms ds
  | _ => false
def imms : List D → Bool
  | [] => true
  | d :: ds => imm d && imms ds
end
mutual
theorem imm_minus {F : Hp} {l : Addr} {vs : List V} (hl : F l = some (.lst vs)) : ∀ (d : D) {v : V}, Is G F d v → imm d = true → Is G (minus F l) d v
  | .non, _, h, _ => h
  | .bl _, _, h, _ => h
  | .int _, _, h, _ => h
  | .str _, _, h, _ => h
  | .tup ds, _, h, p => by
    obtain ⟨a, xs, rfl, h1, h2⟩ := h
    refine ⟨a, xs, rfl, ?_, imms_minus hl ds h2 p⟩
    rcases h1 with (h1 | ⟨o, h1⟩) | h1
    · exact .inl (.inl (by rw [minus_ne (ne_of h1 hl (by intro z; cases z))]; exact h1))
    · exact .inl (.inr ⟨o, by rw [minus_ne (ne_of h1 hl (by intro z; cases z))]; exact h1⟩)
    · exact .inr h1
  | .lst _, _, _, p => by cases p
  | .emp, _, _, p => by cases p
  | .obj _ _, _, _, p => by cases p
  | .scr _, _, _, p => by cases p
  | .cls _, _, _, p => by cases p
  | .fct _, _, _, p => by cases p
  | .ptup _, _, _, p => by cases p
theorem imms_minus {F : Hp} {l : Addr} {vs : List V} (hl : F l = some (.lst vs)) : ∀ (ds : List D) {us : List V}, IsAll G F ds us → imms ds = true → IsAll G (minus F l) ds us
  | [], _, h, _ => h
  | d :: ds, _, h, p => by
    obtain ⟨v, r, rfl, h1, h2⟩ := h
    have p' : (imm d && imms ds) = true := p
    rw [Bool.and_eq_true] at p'
    exact ⟨v, r, rfl, imm_minus hl d h1 p'.1, imms_minus hl ds h2 p'.2⟩
end
theorem grow_peek {F H F2 H2 : Hp} {l : Addr} {o : HO} (sm : Same F H) (h2 : F l = none) (h1 : H l = some o) (g : Grow (upd F l o) H F2 H2) : Grow F H (minus F2 l) H2 := by
  refine ⟨fun a u e => ?_, g.hsub, fun a u e => ?_, fun a u e => ?_⟩
  · have n := ne_of_none e h2
    rw [minus_ne n]
    exact g.fsub a u (by rw [upd_ne n]; exact e)
  · have n : a ≠ l := fun z => by rw [z, minus_same] at e; cases e
    rw [minus_ne n] at e
    exact g.sub a u e
  · have n : a ≠ l := fun z => by rw [z, minus_same] at e; cases e
    rw [minus_ne n] at e
    rcases g.fresh a u e with z | z
    · rw [upd_ne n] at z; exact .inl z
    · exact .inr z
theorem same_peek {F H : Hp} {l : Addr} {o : HO} (sm : Same F H) (h1 : H l = some o) : Same (upd F l o) H := fun a u e => by
  by_cases z : a = l
  · subst z; rw [upd_same] at e; cases e; exact h1
  · rw [upd_ne z] at e; exact sm a u e
theorem up_peek {F : Hp} {l : Addr} {o : HO} (h : F l = none) : Same F (upd F l o) := fun a u e => by rw [upd_ne (ne_of_none e h)]; exact e
section
variable {p : Nat} {l : Addr} {nm : Str} {np : Pos}
/-- a op xs, xs ours -/
theorem ev_tOpO {r : R2} {ta : TE} (ha : Ev G ta cs x cs1) (hi : cs1[p]? = some (.own l ds)) (hr : OpD G r x (.lst ds) z) (hz : imm z = true) : Ev G (tOp r ta (tVar p)) cs z cs1 := fun F σ H Q rl q =>
  ha F σ H _ rl fun v F1 H1 st1 r1 q1 => by
    obtain ⟨vs, e1, h1, h2, h3⟩ := r1.own hi
    refine ⟨_, e1, hr (upd F1 l (.lst vs)) H1 v (.ref l) Q (same_peek r1.sub h1) (Is.mono (up_peek h2) x q1) ⟨l, vs, rfl, upd_same, IsAll.mono (up_peek h2) ds h3⟩ fun u F2 H2 g q2 => ?_⟩
    have g2 := grow_peek r1.sub h2 h1 g
    exact q u _ H2 (st1.trans g2.stp) (r1.grow g2) (imm_minus (g.fsub _ _ upd_same) z q2 hz)
/-- xs op b, xs ours -/
theorem ev_tOpO1 {r : R2} {tb : TE} (h0 : cs[p]? = some (.own l es')) (hb : Ev G tb cs y cs1) (hi : cs1[p]? = some (.own l ds)) (hr : OpD G r (.lst ds) y z) (hz : imm z = true) : Ev G (tOp r (tVar p) tb) cs z cs1 := fun F σ H Q rl q => by
    obtain ⟨vs0, e0, _⟩ := rl.own h0
    refine ⟨_, e0, hb F σ H _ rl fun v F1 H1 st1 r1 q1 => ?_⟩
    obtain ⟨vs, e1, h1, h2, h3⟩ := r1.own hi
    refine hr (upd F1 l (.lst vs)) H1 (.ref l) v Q (same_peek r1.sub h1) ⟨l, vs, rfl, upd_same, IsAll.mono (up_peek h2) ds h3⟩ (Is.mono (up_peek h2) y q1) fun u F2 H2 g q2 => ?_
    have g2 := grow_peek r1.sub h2 h1 g
    exact q u _ H2 (st1.trans g2.stp) (r1.grow g2) (imm_minus (g.fsub _ _ upd_same) z q2 hz)
theorem et_cO (p : Nat) {op : CmpOp} (q : CmpJ G X op x (.lst ds) k) (ha : Ev G (rdE X a) cs x cs1) (hi : cs1[p]? = some (.own l ds)) (hN : X.N[p]? = some nm) (hv : Vis X.env.scope nm) (hm : behindInMarks op (.Name nm np) = false := by first | exact nomark _ | rfl) (hd : (nm == ("__debug__" : Str)) = false := by decide) (hcd : (nm == ("__classdict__" : Str)) = false := by decide) :
    EvT G (rdT X (.Compare a [op] [.Name nm np] pos)) cs k cs1 := by
  obtain ⟨r, h1, h2⟩ := q
  exact evt_of (pt_cmpR h1 pe_rd (pe_var hN hv hd hcd) hm) (et_tTest (ev_tOpO ha hi h2 rfl))
/-- xs[e], xs ours -/
theorem ev_iO (p : Nat) (q : IxJ G X (.lst ds) y z) (h0 : cs[p]? = some (.own l es')) (hb : Ev G (rdE X b) cs y cs1) (hi : cs1[p]? = some (.own l ds)) (hz : imm z = true) (hN : X.N[p]? = some nm) (hv : Vis X.env.scope nm) (hs : PlainIx b := by exact fun _ _ => rfl) (hd : (nm == ("__debug__" : Str)) = false := by decide) (hcd : (nm == ("__classdict__" : Str)) = false := by decide) :
    Ev G (rdE X (.Subscript (.Name nm np) b pos)) cs z cs1 := by
  obtain ⟨r, h1, h2⟩ := q
  exact ev_of (pe_ix h1 (pe_var hN hv hd hcd) pe_rd hs) (ev_tOpO1 h0 hb hi h2 hz)
end
theorem ev_neg (ha : Ev G (rdE X a) cs (.int i) cs1) : Ev G (rdE X (.UnaryOp .USub a pos)) cs (.int (-i)) cs1 := ev_un un_neg (fun F H v Q sm h1 q => by
  cases h1
  exact ⟨i, rfl, q _ F H (.refl sm) rfl⟩) ha
end
end Fx
namespace Fx
open PySem L2
theorem plains_of {ds : List D} (h : ∀ d ∈ ds, plain d = true) : plains ds = true := by
  rw [plains_all]
  exact List.all_eq_true.mpr h
theorem deeps_le {n : Nat} : ∀ {ds : List D}, (∀ d ∈ ds, deep d ≤ n) → deeps ds ≤ n
  | [], _ => Nat.zero_le _
  | d :: ds, h => by
    show max (deep d) (deeps ds) ≤ n
    have h1 := h d (by simp)
    have h2 := deeps_le (ds := ds) fun e he => h e (by simp [he])
    omega
theorem fine_lst {ds : List D} (h : ∀ d ∈ ds, plain d = true ∧ deep d ≤ 30) : fine (.lst ds) := ⟨plains_of fun d hd => (h d hd).1, by
  show deeps ds + 1 ≤ 64
  have := deeps_le (n := 30) fun d hd => (h d hd).2
  omega⟩
theorem fine_tup {ds : List D} (h : ∀ d ∈ ds, plain d = true ∧ deep d ≤ 30) : fine (.tup ds) := ⟨plains_of fun d hd => (h d hd).1, by
  show deeps ds + 1 ≤ 64
  have := deeps_le (n := 30) fun d hd => (h d hd).2
  omega⟩
theorem ints_flat {ns : List Int} : ∀ d ∈ ns.map D.int, plain d = true ∧ deep d ≤ 0 := fun d hd => by
  obtain ⟨n, _, rfl⟩ := List.mem_map.mp hd
  exact ⟨rfl, Nat.le_refl _⟩
theorem tup_ints {ns : List Int} : plain (.tup (ns.map D.int)) = true ∧ deep (.tup (ns.map D.int)) ≤ 1 := ⟨plains_of fun d hd => (ints_flat d hd).1, Nat.succ_le_succ (deeps_le fun d hd => (ints_flat d hd).2)⟩
theorem eqD_nil (xs : List D) : eqD (.lst xs) (.lst []) = xs.isEmpty := by cases xs <;> rfl
theorem eqD_int (i j : Int) : eqD (.int i) (.int j) = (i == j) := rfl
theorem any_int (x : Int) (ns : List Int) : ((ns.map D.int).any fun z => eqD z (.int x)) = ns.contains x := by
  induction ns with
  | nil => rfl
  | cons n ns ih =>
    rw [List.map_cons, List.any_cons, ih, eqD_int, List.contains_cons]
    congr 1
    rw [Bool.eq_iff_iff]
    simp
    constructor <;> exact fun h => h.symm
end Fx
/-! sorted(set(xs)) of a list of ints. -/
namespace Fx
open PySem L2 PySem.Spec PyProof.Rows Mt
abbrev o0 (w : World) : Obj := { cls := .type "set", dict := none, data := .set #[] 0 (.fresh 0 0 (!w.params.followText "set-order")) }
section
variable {P : Program} {w : World} {A : Around} {E : Value → Shared → Prop} {s : Shared}
/-- what set.__init__ leaves, the argument a list of ints -/
def SetEnd (w : World) (s : Shared) (ns : List Int) (s2 : Shared) : Prop := ∃ (h2 : Heap) (tk n : Nat), s2 = { s with heap := h2, toks := tk } ∧ SetR w h2 s.heap.objs.size (fun j => decide (j ∈ ns)) n ∧ n ≤ ns.length ∧ ∀ b o, s.heap.get? b = some o → h2.get? b = some o
theorem set_of_list {l : Addr} {its : Array Value} (ns : List Int) {Q : Value → Shared → Prop} (hh : A.handled = none) (hl : s.heap.IsList l its) (hi : IntsAre its.toList ns) (hb : ns.length + 1 < scanBound)
    (q : ∀ s2, SetEnd w s ns s2 → Q (.ref s.heap.objs.size) s2) : wpAny (model P w) A (call (.type "set") [.ref l]) Q E s := by
  have hz : its.size = ns.length := by
    have y := IntsAre.length hi
    rwa [Array.length_toList] at y
  obtain ⟨c, tl, hmro⟩ := F.called_set.mro
  have hmade := F.called_set.made
  have hsub := F.called_set.sub
  have h1 := F.called_set.notType
  have h2 := F.called_set.canCreate
  have hct := F.typeCall_set_1 (.ref l)
  refine wpAny_call (codeAny_of_tree ?_)
  show wpAny _ _ (callAny (.type "set") _) _ _ _
  refine wpAny_pure ⟨Code.quiet_builtin _ (by decide +kernel), codeAny_builtin F.entry_type_call ?_⟩
  rw [Around.under_plain (weight_type_call_type "set" [.ref l] []) rfl]
  repeat (any_goals (first | assumption | wp_step))
  refine codeAny_mono (code_set_led1 (.ref l) (E := E) (Q₁ := fun u t => u = .ref s.heap.objs.size ∧ t = { s with heap := s.heap.push (o0 w) }) ⟨rfl, rfl⟩) fun r t hr => ?_
  cases r with
  | error e => exact hr
  | ok fl =>
    cases fl with
    | next => exact hr.elim
    | brk => exact hr.elim
    | cont => exact hr.elim
    | ret u =>
      obtain ⟨rfl, rfl⟩ := hr
      have hS : (s.heap.push (o0 w)).get? s.heap.objs.size = some (o0 w) := Heap.get?_push_size _ rfl
      have hT : Shared.TypeIs { s with heap := s.heap.push (o0 w) } (.ref s.heap.objs.size) "set" := ⟨_, hS, rfl⟩
      have hli := F.called_set.init.lookup
      have hbi := F.called_set.init.bind (.ref s.heap.objs.size)
      repeat (any_goals (first | assumption | wp_step))
      refine codeAny_mono (codeAny_call_builtin (R := wants (fun r s2 => r = .none ∧ SetEnd w s ns s2) E) F.called_set.init.plain F.entry_set_init (check_set_init_1 hT ?_)) fun r2 s2 hr2 => ?_
      · obtain ⟨ol, hol, hcl, nl, hdl⟩ := hl
        obtain ⟨oc, od, ot, os⟩ := ol
        simp only at hcl hdl
        subst hcl
        subst hdl
        have hol2 : (s.heap.push (o0 w)).get? l = some { cls := .type "list", dict := od, data := .seq its nl, slots := os } := Heap.get?_push_of_some _ hol
        have n1 := F.sub_list_set
        have n2 := F.sub_list_frozenset
        have n3 : (Value.type "list" == Value.type "dict") = false := by decide
        have hl2 : (s.heap.push (o0 w)).IsList l its := ⟨_, hol2, rfl, nl, rfl⟩
        unfold Builtin.«set.__init__» noKeywords Builtin.Frozenset.updateFrom
        generalize hPI : pyIter = PI
        wp_walk
        subst hPI
        refine wpAny_pyIter_list hl2 ?_
        refine wpAny_bind (wpAny_runValue ?_)
        have lt : l < s.heap.objs.size := Heap.lt_size hol
        have sz : (s.heap.push (o0 w)).objs.size = s.heap.objs.size + 1 := Heap.size_push ..
        have ne : l ≠ (s.heap.push (o0 w)).objs.size := by
          rw [sz]
          exact Nat.ne_of_lt (Nat.lt_succ_of_lt lt)
        have nf : s.heap.objs.size ∉ [(s.heap.push (o0 w)).objs.size, l] := by
          rw [sz]
          simp only [List.mem_cons, List.not_mem_nil, or_false, not_or]
          exact ⟨Nat.ne_of_lt (Nat.lt_succ_self _), Nat.ne_of_gt lt⟩
        have val : ∀ (i : Nat) (v : Value), its[i]? = some v → ∃ k t, ns[i]? = some k ∧ v = .int k t := fun i v hv => by
          have hin : i < ns.length := hz ▸ (Array.getElem?_eq_some_iff.mp hv).1
          obtain ⟨t, e⟩ := PyProof.Rows.IntsAre.int_at hi i v (by rw [Array.getElem?_toList]; exact hv)
          exact ⟨ns[i], t, List.getElem?_eq_getElem hin, by rw [e, List.getD_eq_getElem?_getD, List.getElem?_eq_getElem hin]; rfl⟩
        have h3 : A.in1.in1.in1.handled = none := by simp [hh]
        refine set_update_ints ((Walks.list h3 _ l ne its).toS) s.heap.objs.size nf ns hz hb val (its.size - 0) 0 _ (by omega) (Nat.zero_le _) ⟨⟨_, Heap.get?_push_size _ rfl, rfl, rfl⟩, (hl2.push _)⟩ ⟨0, Nat.le_refl 0, ?_⟩ ?_
        · exact setR_new_at (Heap.get?_push_of_some _ hS)
        · intro s' n' hm hn hR
          obtain ⟨hp, g2, d2, t2, os2⟩ := s'
          have eg : g2 = s.gens := hm.gens
          have ed : d2 = s.drawn := hm.drawn
          have eo : os2 = s.os := hm.os
          subst eg
          subst ed
          subst eo
          show wpAny _ _ _ _ _ _
          refine wpAny_pure ?_
          show wpAny _ _ (ret Value.none) _ _ _
          rw [hz] at hn
          refine wpAny_pure ⟨rfl, hp, t2, n', rfl, hR, hn, fun b o e => ?_⟩
          have b0 : b < s.heap.objs.size := Heap.lt_size e
          refine hm.heap b o ?_ (Heap.get?_push_of_some _ (Heap.get?_push_of_some _ e))
          simp only [List.mem_cons, List.not_mem_nil, or_false, not_or]
          rw [sz]
          exact ⟨Nat.ne_of_lt b0, Nat.ne_of_lt (Nat.lt_succ_of_lt b0)⟩
      · cases r2 with
        | error e => exact hr2
        | ok f2 =>
          cases f2 with
          | next => exact hr2.elim
          | brk => exact hr2.elim
          | cont => exact hr2.elim
          | ret u2 =>
            obtain ⟨rfl, he⟩ := hr2
            repeat (any_goals (first | assumption | wp_step))
            exact q _ he
end
section
variable {X : Cx} {G : Gx} {e : Expr} {pos p1 p2 q2 : Pos} {cs cs1 : List Cell}
def rSetI (K : PySem.W.Frag) (w : World) : List V → Hp → VK → Prop := fun vs H Q => ∃ (l : Addr) (ns : List Int), vs = [V.ref l] ∧ SqL K H l (ns.map V.int) ∧ ns.length < 64 ∧ ∀ p n, n ≤ ns.length → H p = none → Q (.ref p) (upd H p (SetO w p (fun j => decide (j ∈ ns)) n))
theorem cr_setI (hc : X.calm = true) : CallR X (.type "set") (rSetI X.K X.w) := by
  intro pins s σ H vs us Q I r h
  obtain ⟨l, ns, rfl, hq, hz, q⟩ := h
  rw [Vals.ref1 r]
  obtain ⟨its, rv, pl, _⟩ := I.list hq
  have hi : IntsAre its.toArray.toList ns := ints_of_vals rv
  refine set_of_list ns (I.ok.hd hc) pl.isList hi (by unfold scanBound; omega) fun s2 he => ?_
  obtain ⟨h2, tk, n, rfl, R, hn, k⟩ := he
  exact ⟨.ref s.heap.objs.size, _, I.laid (t' := tk) k (Nat.le_refl _) (setO_new R), rfl, q _ n hn (I.hok.fresh (Nat.le_refl _))⟩
theorem isAll_ints {F : Hp} : ∀ {ns : List Int} {vs : List V}, IsAll G F (ns.map .int) vs → vs = ns.map V.int
  | [], _, h => h
  | n :: ns, _, h => by
    obtain ⟨v, r, rfl, h1, h2⟩ := h
    cases h1
    rw [isAll_ints h2]; rfl
theorem ints_isAll {F : Hp} : ∀ (ns : List Int), IsAll G F (ns.map .int) (ns.map V.int)
  | [] => rfl
  | n :: ns => ⟨_, _, rfl, rfl, ints_isAll ns⟩
/-- sorted(set(xs)) -/
theorem evn_sortSet {ns : List Int} (ha : Ev G (rdE X e) cs (.lst (ns.map .int)) cs1) (hz : ns.length < 64) (hc : X.calm = true) (g1 : Gl X "sorted") (m1 : X.mg "sorted" = none) (g2 : Gl X "set") (m2 : X.mg "set" = none) (hs : starEach [e] X.env = (false, eval e X.env) :: starEach [] X.env := by rfl) (hpl : (backTo q2 (starEach [] X.env)).any (·.1) = false := by rfl)
    (hs2 : starEach [.Call (.Name "set" p2) [e] [] q2] X.env = (false, eval (.Call (.Name "set" p2) [e] [] q2) X.env) :: starEach [] X.env := by rfl) (hpl2 : (backTo pos (starEach [] X.env)).any (·.1) = false := by rfl) :
    EvN G (rdE X (.Call (.Name "sorted" p1) [.Call (.Name "set" p2) [e] [] q2] [] pos)) cs ((srt ns).map .int) cs1 := by
  refine evn_of (pe_callB (cr_sortedSet hc) g1 m1 (by decide +kernel) (pa_cons (pe_callTy (cr_setI hc) g2 m2 PyProof.Rows.boot_set (pa_cons pe_rd pa_nil hs) (by decide) (by decide) hs hpl) pa_nil hs2) (by decide) (by decide) hs2 hpl2) ?_
  intro F σ H Q rl q
  refine ha F σ H _ rl fun v F1 H1 st1 r1 q1 => ?_
  obtain ⟨a, vs, rfl, h1, h2⟩ := q1
  have ev := isAll_ints h2
  subst ev
  refine ⟨a, ns, rfl, SqL.of (r1.sub _ _ h1), hz, fun p n hn hp => ?_⟩
  refine ⟨p, _, n, rfl, upd_same, by omega, fun ms p3 hs3 hm hl hp3 => ?_⟩
  have g0 := grow_new (o := SetO X.w p (fun j => decide (j ∈ ns)) n) r1.sub hp
  have e : ms = srt ns := sorted_unique hs3 (srt_sorted ns) fun z => by
    rw [hm z, mem_srt, decide_eq_true_eq]
  subst e
  exact evn_new (st1.trans g0.stp) rl (r1.grow g0) q p3 _ hp3 (ints_isAll _)
end
end Fx
/-! Kinds, counts, objects of the text's own classes. -/
namespace Fx
open PySem L2
/-! ### isinstance -/
def tyN : D → Option String
  | .non => some "NoneType"
  | .bl _ => some "bool"
  | .int _ => some "int"
  | .str _ => some "str"
  | .tup _ => some "tuple"
  | .ptup _ => some "tuple"
  | .lst _ => some "list"
  | .emp => some "dict"
  | _ => none
section
variable {X : Cx} {G : Gx} {a b c e : Expr} {es : List Expr} {pos : Pos} {cs cs1 cs2 cs3 : List Cell} {x y z w d : D} {ds es' xs ys : List D} {k k1 k2 : Bool} {i j : Int} {n : Nat}
theorem tyX_of {F H : Hp} {v : V} {t : String} (sm : Same F H) (h : Is G F d v) (ht : tyN d = some t) : TyX G.K H v (.type t) := by
  cases d with
  | non => cases ht; cases h; exact .base .non
  | bl b => cases ht; cases h; exact .base (.bl b)
  | int i => cases ht; cases h; exact .base (.int i)
  | str s => cases ht; cases h; exact .base (.str s)
  | tup ds =>
    cases ht
    obtain ⟨a, xs, rfl, h1, h2⟩ := h
    rcases h1 with (h1 | ⟨o, h1⟩) | ⟨o, its, n, h1, h2, _⟩
    · exact .base (.tup (sm _ _ h1))
    · exact .fTuple (sm _ _ h1)
    · exact .kTuple h1 h2
  | ptup ds =>
    cases ht
    obtain ⟨a, xs, o, rfl, h1, _⟩ := h
    exact .fTuple (sm _ _ h1)
  | lst ds =>
    cases ht
    obtain ⟨a, xs, rfl, h1, h2⟩ := h
    exact .base (.lst (sm _ _ h1))
  | emp =>
    cases ht
    obtain ⟨a, rfl, h1⟩ := h
    exact .base (.dK (sm _ _ h1))
  | obj c ds => cases ht
  | scr ns => cases ht
  | cls c => cases ht
  | fct p => cases ht
theorem ev_isi {ip tp : Pos} {T : Str} {T' t : String} (ha : Ev G (rdE X e) cs d cs1) (ht : tyN d = some t) (hk : kitB t T' = some k) (m1 : X.mg "isinstance" = none) (g1 : Gl X "isinstance") (m2 : X.mg T = none) (g2 : Gl X T) (hv : bootBuiltins T = some (.type T')) (hK : G.K = X.K := by rfl) (hn : T ≠ "__name__" := by decide) (hd : (T == ("__debug__" : Str)) = false := by decide)
    (hs : starEach [e, .Name T tp] X.env = (false, eval e X.env) :: starEach [.Name T tp] X.env := by rfl) (hs2 : starEach [.Name T tp] X.env = (false, eval (.Name T tp) X.env) :: starEach [] X.env := by rfl) (hpl : (backTo pos (starEach [.Name T tp] X.env)).any (·.1) = false := by rfl) :
    Ev G (rdE X (.Call (.Name "isinstance" ip) [e, .Name T tp] [] pos)) cs (.bl k) cs1 :=
  ev_of (pe_callB call_isi g1 m1 (by decide +kernel) (pa_cons pe_rd (pa_cons (pe_bltn (v := .ty T') g2 m2 hv rfl hn hd) pa_nil hs2) hs) (by decide) (by decide) hs hpl) fun F σ H Q rl q => ha F σ H _ rl fun v F1 H1 st1 r1 q1 => by
    have ty := tyX_of r1.sub q1 ht
    rw [hK] at ty
    exact ⟨v, .ty T', _, _, k, rfl, .ty T', ty, kit_ty hk, q _ F1 H1 st1 r1 rfl⟩
/-! ### xs.count(y) -/
theorem toPys_countP (x : D) : ∀ ds : List D, (toPys ds).countP (fun z => PyData.eqv z (toPy x)) = ds.countP fun z => eqD z x
  | [] => rfl
  | d :: ds => by
    show (toPy d :: toPys ds).countP _ = _
    rw [List.countP_cons, List.countP_cons, toPys_countP x ds]
    rfl
theorem countP_map {α β : Type} (f : α → β) (p : β → Bool) : ∀ l : List α, (l.map f).countP p = l.countP fun a => p (f a)
  | [] => rfl
  | a :: l => by rw [List.map_cons, List.countP_cons, List.countP_cons, countP_map f p l]
def rCntL (K : PySem.W.Frag) : V → List V → Hp → VK → Prop := fun x xs H Q => ∃ (y : V) (d : PyData) (ds : List PyData), xs = [y] ∧ Dp K H x (.list ds) ∧ Dp K H y d ∧ SeqAt.shaped (.list ds) = true ∧ SeqAt.shaped d = true ∧ Q (.int (ds.countP fun z => PyData.eqv z d : Nat)) H
theorem mt_cntL (hu : X.A.units + 65 < cLine) : MtR X "list.count" (rCntL X.K) := by
  intro pins s σ H x xs v us Q I rx rxs h
  obtain ⟨y, d, ds, rfl, hl, hy, sl, sd, q⟩ := h
  obtain ⟨uy, rfl, ry⟩ := rxs.one
  obtain ⟨bs, r1⟩ := Dp.reads I d y uy hy ry
  have lay : PyData.canLayAll0 ds = true := SeqAt.canLay_of_shaped sl
  cases hl with
  | lst hs ha =>
    rename_i a ws
    cases rx
    obtain ⟨its, rv, ⟨⟨cl, dd, dt, st⟩, n, ho, hc, hdn, hdt⟩, _⟩ := I.list hs
    simp only at hc hdt
    subst hc hdt
    obtain ⟨as, h4⟩ := Dp.readsAll I ds _ its ha rv
    have hm : its.map (SeqAt.readOf s.heap) = ds := SeqAt.readsAll_map ds its as lay h4
    refine call_meets PySem.F.slot_list_count ⟨_, ho, rfl⟩ PySem.F.entry_list_count (PySem.F.args_list_count_2 _ _) (SeqAt.list_countAt a its.toArray n dd st uy fun u => PyData.eqv (SeqAt.readOf s.heap u) d) ⟨ho, SeqAt.items_eqAt (vs := its.toArray) (show ReadsAll s.heap its.toArray.toList ds as from h4) r1 lay (SeqAt.canLay_of_shaped sd) (PyProof.Rows.room_in_shaped sd hu), ?_⟩
    refine ⟨.int (ds.countP fun z => PyData.eqv z d : Nat), H, I.tok _, ⟨s.toks, ?_⟩, q⟩
    have e : its.toArray.toList.countP (fun u => PyData.eqv (SeqAt.readOf s.heap u) d) = ds.countP fun z => PyData.eqv z d := by rw [← hm, countP_map]
    rw [← e]
/-- a tuple without a dict -/
def Tp (H : Hp) (x : V) (ws : List V) : Prop := ∃ a o, x = .ref a ∧ H a = some (.frz o (.tup ws)) ∧ o.dict = none
def tTM (r : V → List V → Hp → VK → Prop) (to : TE) (t : TA) : TE := fun σ H Q => to σ H fun x H1 => (∃ ws, Tp H1 x ws) ∧ t σ H1 fun xs H2 => r x xs H2 Q
theorem pe_tm {o : Expr} {to : TE} {t : TA} {name : Str} {apos cpos : Pos} {id : String} {r : V → List V → Hp → VK → Prop} (pa : PlainAttrs "tuple") (slot : Slot "tuple" name id) (hty : typeOf (.builtin id) = pure (.type "method_descriptor")) (hm : MtR X id r) (ho : PE X o to) (ha : PA X (e :: es) t)
    (hbase : attributeBase o name X.env (eval o X.env) = eval o X.env := by rfl)
    (hfew : ((backTo cpos (starEach (e :: es) X.env)).all (fun x => !x.1) && (backToKw cpos (keywordEach [] X.env)).all (fun x => x.1.isSome) && decide ((e :: es).length + ([] : List Keyword).length + (if ([] : List Keyword).isEmpty then 0 else 1) < 30)) = true := by rfl)
    (hline : (apos.endLine == cpos.line) = true := by rfl) (hs : starEach (e :: es) X.env = (false, eval e X.env) :: starEach es X.env := by rfl) (hplain : (backTo cpos (starEach es X.env)).any (·.1) = false := by rfl) : PE X (.Call (.Attribute o name apos) (e :: es) [] cpos) (tTM r to t) := by
  refine ⟨fun pins s σ H Q I h => ?_⟩
  refine wpAny_Call_method_late hbase hfew hline rfl (thn (ho.run pins s σ H _ I h) fun v s1 ⟨x, H1, I1, r1, ⟨ws, p, ob, ex, hp, hd⟩, q1⟩ => ?_)
  subst ex
  obtain rfl : v = Value.ref p := r1
  obtain ⟨h1, _, its, _, o2, h2, h3, h4⟩ := (show ObjOk X.prog X.w H1 s1.heap p (.frz ob (.tup ws)) from I1.hok p _ hp)
  rw [h1] at h2
  cases h2
  refine ⟨"tuple", id, pa, slot, hty, ⟨ob, h1, h3⟩, fun a ea => by cases ea; exact ⟨ob, h1, hd⟩, ?_⟩
  have hA := ha.run cpos pins s1 σ H1 _ I1 q1
  rw [hs] at hA ⊢
  refine Calls.callWith_builtin (by show (false || (backTo cpos (starEach es X.env)).any (·.1)) = false; rw [hplain] <;> rfl) (Calls.evalArgs_plain ?_)
  exact thn hA fun us s2 ⟨vs, H2, I2, r2, q2⟩ => hm pins s2 σ H2 (.ref p) vs _ us Q I2 rfl r2 q2
def rCntT (K : PySem.W.Frag) : V → List V → Hp → VK → Prop := fun x xs H Q => ∃ (y : V) (d : PyData) (ds : List PyData), xs = [y] ∧ Dp K H x (.tuple ds) ∧ Dp K H y d ∧ SeqAt.shaped (.tuple ds) = true ∧ SeqAt.shaped d = true ∧ Q (.int (ds.countP fun z => PyData.eqv z d : Nat)) H
theorem mt_cntT (hu : X.A.units + 65 < cLine) : MtR X "tuple.count" (rCntT X.K) := by
  intro pins s σ H x xs v us Q I rx rxs h
  obtain ⟨y, d, ds, rfl, hl, hy, sl, sd, q⟩ := h
  obtain ⟨uy, rfl, ry⟩ := rxs.one
  obtain ⟨bs, r1⟩ := Dp.reads I d y uy hy ry
  have lay : PyData.canLayAll0 ds = true := SeqAt.canLay_of_shaped sl
  cases hl with
  | tup hs ha =>
    rename_i a ws
    cases rx
    obtain ⟨its, rv, ⟨⟨cl, dd, dt, st⟩, ho, hc, n, hdt⟩, _⟩ := I.tuple hs
    simp only at hc hdt
    subst hc hdt
    obtain ⟨as, h4⟩ := Dp.readsAll I ds _ its ha rv
    have hm : its.map (SeqAt.readOf s.heap) = ds := SeqAt.readsAll_map ds its as lay h4
    refine call_meets PySem.F.slot_tuple_count ⟨_, ho, rfl⟩ PySem.F.entry_tuple_count (PySem.F.args_tuple_count_2 _ _) (SeqAt.tuple_countAt a its.toArray n dd st uy fun u => PyData.eqv (SeqAt.readOf s.heap u) d) ⟨ho, SeqAt.items_eqAt (vs := its.toArray) (show ReadsAll s.heap its.toArray.toList ds as from h4) r1 lay (SeqAt.canLay_of_shaped sd) (PyProof.Rows.room_in_shaped sd hu), ?_⟩
    refine ⟨.int (ds.countP fun z => PyData.eqv z d : Nat), H, I.tok _, ⟨s.toks, ?_⟩, q⟩
    have e : its.toArray.toList.countP (fun u => PyData.eqv (SeqAt.readOf s.heap u) d) = ds.countP fun z => PyData.eqv z d := by rw [← hm, countP_map]
    rw [← e]
theorem ev_cntL {o : Expr} {ap : Pos} (ho : Ev G (rdE X o) cs (.lst xs) cs1) (he : Ev G (rdE X e) cs1 d cs2) (hu : X.A.units + 65 < cLine) (fx : fine (.lst xs)) (fd : fine d) (hpe : ∀ {to : TE} {t : TA}, PE X o to → PA X [e] t → PE X (.Call (.Attribute o "count" ap) [e] [] pos) (tBM X.K "list" (rCntL X.K) to t)) (hK : G.K = X.K := by rfl) (hs : starEach [e] X.env = (false, eval e X.env) :: starEach [] X.env := by rfl) :
    Ev G (rdE X (.Call (.Attribute o "count" ap) [e] [] pos)) cs (.int (xs.countP fun z => eqD z d : Nat)) cs2 :=
  ev_of (hpe pe_rd (pa_cons pe_rd pa_nil hs)) fun F σ H Q rl q => ho F σ H _ rl fun v F1 H1 st1 r1 q1 => by
    have q1' := q1
    obtain ⟨a, vs, rfl, h1, h2⟩ := q1
    refine ⟨.inl ⟨rfl, vs, SqL.of (r1.sub _ _ h1)⟩, he F1 σ H1 _ r1 fun w F2 H2 st2 r2 q2 => ?_⟩
    have d1 := dp_of r2.sub _ _ (Is.mono st2.fsub _ q1') fx.1
    have d2 := dp_of r2.sub _ _ q2 fd.1
    rw [hK] at d1 d2
    refine ⟨w, toPy d, toPys xs, rfl, d1, d2, fx.shaped, fd.shaped, ?_⟩
    rw [toPys_countP]
    exact q _ F2 H2 (st1.trans st2) r2 rfl
theorem ev_cntT {o : Expr} {ap : Pos} (ho : Ev G (rdE X o) cs (.ptup xs) cs1) (he : Ev G (rdE X e) cs1 d cs2) (hu : X.A.units + 65 < cLine) (fx : fine (.tup xs)) (fd : fine d) (hpe : ∀ {to : TE} {t : TA}, PE X o to → PA X [e] t → PE X (.Call (.Attribute o "count" ap) [e] [] pos) (tTM (rCntT X.K) to t)) (hK : G.K = X.K := by rfl) (hs : starEach [e] X.env = (false, eval e X.env) :: starEach [] X.env := by rfl) :
    Ev G (rdE X (.Call (.Attribute o "count" ap) [e] [] pos)) cs (.int (xs.countP fun z => eqD z d : Nat)) cs2 :=
  ev_of (hpe pe_rd (pa_cons pe_rd pa_nil hs)) fun F σ H Q rl q => ho F σ H _ rl fun v F1 H1 st1 r1 q1 => by
    have q1' := q1
    obtain ⟨a, vs, ob, rfl, h1, h2, h3⟩ := q1
    refine ⟨⟨vs, a, ob, rfl, r1.sub _ _ h1, h2⟩, he F1 σ H1 _ r1 fun w F2 H2 st2 r2 q2 => ?_⟩
    have d1 := dp_of r2.sub (.ptup xs) _ (Is.mono st2.fsub _ q1') fx.1
    have d2 := dp_of r2.sub _ _ q2 fd.1
    rw [hK] at d1 d2
    refine ⟨w, toPy d, toPys xs, rfl, d1, d2, fx.shaped, fd.shaped, ?_⟩
    rw [toPys_countP]
    exact q _ F2 H2 (st1.trans st2) r2 rfl
theorem ev_ptup {te : TE} (h : Ev G te cs (.ptup xs) cs1) : Ev G te cs (.tup xs) cs1 := fun F σ H Q rl q => h F σ H Q rl fun v F1 H1 st1 r1 q1 => by
  obtain ⟨a, vs, ob, rfl, h1, h2, h3⟩ := q1
  exact q _ F1 H1 st1 r1 ⟨a, vs, rfl, .inl (.inr ⟨ob, h1⟩), h3⟩
/-! ### fields, properties, methods -/
theorem lookup_at : ∀ {fs : List (Str × V)} {ns : List Str} {ds : List D} {F : Hp} {f : Str} {j : Nat} {d : D}, fs.map (·.1) = ns → IsAll G F ds (fs.map (·.2)) → ns.findIdx? (· == f) = some j → ds[j]? = some d → ∃ v, fs.lookup f = some v ∧ Is G F d v
  | [], _, _, _, _, _, _, h, _, hj, _ => by subst h; cases hj
  | (n, v) :: fs, _, [], _, _, _, _, h, ha, _, _ => by
    exfalso
    cases ha
  | (n, v) :: fs, _, d0 :: ds, F, f, j, d, h, ha, hj, hd => by
    subst h
    obtain ⟨v', r, e, h1, h2⟩ := ha
    cases e
    rw [List.map_cons, List.findIdx?_cons] at hj
    by_cases q : (n == f) = true
    · rw [if_pos q] at hj
      cases hj
      cases hd
      have : n = f := by simpa using q
      subst this
      exact ⟨v, by simp [List.lookup], h1⟩
    · rw [if_neg q] at hj
      cases hk : (fs.map (·.1)).findIdx? (· == f) with
      | none => rw [hk] at hj; cases hj
      | some j' =>
        rw [hk] at hj
        cases hj
        obtain ⟨w, e1, q1⟩ := lookup_at (fs := fs) (ds := ds) (F := F) (f := f) (j := j') (d := d) rfl h2 hk (by simpa using hd)
        refine ⟨w, ?_, q1⟩
        have q' : (f == n) = false := by
          rw [beq_eq_false_iff_ne]
          intro z
          subst z
          simp at q
        rw [List.lookup_cons, q']
        exact e1
/-- e.f, a field -/
theorem ev_fld {f : Str} {c : Nat} {m : Nat} (he : Ev G (rdE X e) cs (.obj c ds) cs1) (hj : (G.fld c).findIdx? (· == f) = some m) (hd : ds[m]? = some z) (cl : Cls X.K (G.cls c)) (na : NoAttr X.K (G.cls c) f) (hb : attributeBase e f X.env (eval e X.env) = eval e X.env := by rfl) : Ev G (rdE X (.Attribute e f pos)) cs z cs1 :=
  ev_of (pe_fld pe_rd hb) fun F σ H Q rl q => he F σ H _ rl fun v F1 H1 st1 r1 q1 => by
    obtain ⟨a, dx, fs, rfl, h1, h2, h3⟩ := q1
    obtain ⟨u, e1, q2⟩ := lookup_at h2 h3 hj hd
    exact ⟨a, _, dx, fs, u, rfl, r1.sub _ _ h1, cl, na, e1, q _ F1 H1 st1 r1 q2⟩
end
end Fx
/-! Instances made; class methods. -/
namespace Fx
open PySem PyProof PyProof.Rows L2
section
variable {CX : CXT} {P : Program} {w : World} {K : PySem.W.Frag} {mg : Str → Option Value} {base : Heap} {k : Nat} {f : Addr} {name qual pv : Str} {params : Arguments} {body : List Stmt} {scope : Scope} {dV kV doc pm cdv ct oc : Value} {an od : Option Addr} {osl : Array (Option Value)} {N ps : List Str} {sp : Sp}
/-- def f(a, .., *v): what is left over is a new tuple, its object known -/
theorem fn_starF (lk : K.lookup f = some ⟨oc, od, .func (PySem.W.fnOf name qual params body scope dV kV doc pm an cdv ct), osl⟩) (hcd : PySem.W.codeIn K cdv qual = true) (S : FnScope N (ps ++ [pv]) scope) (hCX : StX.CXUp CX)
    (hb : ∀ us rest : List Value, us.length = ps.length → bindArgs (PySem.W.fnOf name qual params body scope dV kV doc pm an cdv ct) ⟨us ++ rest, []⟩ = (newTuple rest >>= fun t => pure (ps.zip us ++ [(pv, t)])))
    (hbody : ∀ (A : Around) (outer : List Env) (s : Shared) (H : Hp) (vs : List V) (Q : VK) (E : XK), Room k (A.deeper (envOfC qual scope s.heap.objs.size f cdv)) → sp vs H Q E → ∃ t, PSs (cxOf CX P w K mg base N qual scope f cdv A outer s H E) body t ∧ t { nx := fun _ H' => Q .non H', rt := Q } (L2.start N vs) H) :
    FnR P w K mg base CX (k + 1) f (fun vs H Q E => ∃ ws rest, vs = ws ++ rest ∧ ws.length = ps.length ∧ rest.length ≤ sizeLine ∧ ∀ (p : Addr) (o : Obj), H p = none → o.dict = none → sp (ws ++ [V.ref p]) (upd H p (.frz o (.tup rest))) Q E) := by
  intro A outer s H us vs Q E hr e0 r ⟨ws, rest, ev, hl, hz, hq⟩
  subst ev
  obtain ⟨u1, u2, eu, r1, r2⟩ := StX.vals_split r
  subst eu
  have l1 : u1.length = ps.length := r1.length.symm.trans hl
  have l2 : u2.length ≤ sizeLine := r2.length ▸ hz
  have hn : H s.heap.objs.size = none := e0.hok.fresh (Nat.le_refl _)
  refine StX.run_bnd lk hcd S hr e0 (G := fun xs H2 => ∃ (p : Addr) (o : Obj), H p = none ∧ o.dict = none ∧ xs = ws ++ [V.ref p] ∧ H2 = upd H p (.frz o (.tup rest))) (fun A' Ex Q' h => ?_) fun s2 H2 xs ⟨p, o, hp, ho, ex, eH⟩ hr' => ?_
  · rw [hb u1 u2 l1]
    refine wpAny_bind (wpAny_newTuple (wpAny_pure ?_) l2)
    generalize hob : ({ cls := .type "tuple", data := .seq u2.toArray } : Obj) = ob
    have g1 : (s.heap.push ob).get? s.heap.objs.size = some ob := Heap.get?_push_size _ (by rw [← hob]; rfl)
    have new : ObjOk P w (upd H s.heap.objs.size (.frz ob (.tup rest))) (s.heap.push ob) s.heap.objs.size (.frz ob (.tup rest)) := ⟨g1, hz, u2, r2, ob, g1, by rw [← hob], 0, by rw [← hob]⟩
    have un : Un (frs outer) [] H (upd H s.heap.objs.size (.frz ob (.tup rest))) s.heap (s.heap.push ob) := StX.un_laid hn
    have z := h _ _ (ws ++ [V.ref s.heap.objs.size]) (u1 ++ [Value.ref s.heap.objs.size]) (StX.env0_laid e0 new) un rfl (fun e s' => hCX outer s H _ _ E e s' un (fun b o q => Heap.get?_push_of_some _ q) rfl) (r1.append (.cons rfl .nil)) (by rw [List.length_append, List.length_append, hl]; rfl) ⟨_, ob, hn, by rw [← hob], rfl, rfl⟩
    rwa [List.zip_append l1.symm] at z
  · subst ex eH
    exact hbody A outer s2 _ _ Q E hr' (hq p o hp ho)
end
/-- __init__(self, width, *rest): the fields that it leaves -/
def spI (G : Gx) (c : Nat) (C : List D → List D → Prop) : Sp := fun vs H Q _ => ∃ F x dx us ds fs, Same F H ∧ vs = .ref x :: us ∧ H x = some (.ins (G.cls c) dx []) ∧ F x = none ∧ IsAll G F ds us ∧ us.length ≤ 100000 ∧ C ds fs ∧
  ∀ F' H', Stp F H (· = x) F' H' (fun _ => False) → Same F' H' → Is G F' (.obj c fs) (.ref x) → Q .non H'
section
variable {P : Program} {w : World} {G : Gx} {mg : Str → Option Value} {base : Heap} {x qual pv : Str} {st : Stmt} {f : Addr} {fd : FuncData} {N : List Str} {k : Nat}
theorem fnI {c : Nat} {C : List D → List D → Prop} {self width : Str} (F : L2.Fun G.K x qual st f fd) (S : FnScope N ([self, width] ++ [pv]) (defScope st))
    (hb : ∀ (kV doc pm : Value) (an : Option Addr) (cdv ct a b : Value) (rest : List Value), bindArgs (PySem.W.fnOf x qual (defArgs st) (defBody st) (defScope st) .none kV doc pm an cdv ct) ⟨a :: b :: rest, []⟩ = (newTuple rest >>= fun t => pure [(self, a), (width, b), (pv, t)]))
    (hN : 3 ≤ N.length) (hC : ∀ ds fs, C ds fs → 0 < ds.length ∧ fs.length = (G.fld c).length)
    (body : ∀ cdv A outer s H E, Room k (cx0 P w G.K mg base N qual st f cdv A outer s H E).A → ∀ l d rs fs, C (d :: rs) fs → Sx G (rdSs (cx0 P w G.K mg base N qual st f cdv A outer s H E) (defBody st)) (.ins l c [] :: .val d :: .val (.ptup rs) :: nos (N.length - 3)) { nx := fun cs => cs[0]? = some (.ins l c fs) }) :
    FnR P w G.K mg base CX0 (k + 1) f (spI G c C) := by
  obtain ⟨oc, od, kV, doc, pm, an, cdv, ct, osl, rfl, lk, hcd⟩ := F.ex
  let sp : Sp := fun vs H Q _ => ∃ F l dx p d rs fs v, Same F H ∧ vs = [.ref l, v, .ref p] ∧ H l = some (.ins (G.cls c) dx []) ∧ F l = none ∧ Is G F d v ∧ Is G F (.ptup rs) (.ref p) ∧ C (d :: rs) fs ∧
    ∀ F' H', Stp F H (· = l) F' H' (fun _ => False) → Same F' H' → Is G F' (.obj c fs) (.ref l) → Q .non H'
  have K1 := fn_starF (P := P) (w := w) (mg := mg) (base := base) (CX := CX0) (k := k) (sp := sp) lk hcd S StX.cxUp_none (fun us rest hl => by
    match us, hl with
    | [a, b], _ => exact hb kV doc pm an cdv ct a b rest) (fun A outer s H vs Q E hr hsp => by
    obtain ⟨F0, l, dx, p, d, rs, fs, v, sm, rfl, h1, h2, hd, hp, hc, ret⟩ := hsp
    refine ⟨_, PSs.nox pss_rd, ?_⟩
    have r0 : Rel G F0 (L2.start N [.ref l, v, .ref p]) H (.ins l c [] :: .val d :: .val (.ptup rs) :: nos (N.length - 3)) := by
      have e : L2.start N [.ref l, v, .ref p] = some (.ref l) :: some v :: some (.ref p) :: List.replicate (N.length - 3) none := rfl
      rw [e]
      refine ⟨sm, by unfold nos; simp, fun i cc q => ?_, fun l' i j c1 c2 q1 q2 e1 e2 => ?_⟩
      · match i, q with
        | 0, q =>
          cases q
          exact ⟨_, rfl, l, _, rfl, rfl, h1, h2, dx, [], rfl, rfl, rfl⟩
        | 1, q =>
          cases q
          exact ⟨_, rfl, v, rfl, hd⟩
        | 2, q =>
          cases q
          exact ⟨_, rfl, _, rfl, hp⟩
        | i + 3, q =>
          have q' : (nos (N.length - 3))[i]? = some cc := q
          unfold nos at q'
          rw [List.getElem?_replicate] at q'
          split at q'
          · rename_i hlt
            cases q'
            exact ⟨none, by show (List.replicate (N.length - 3) none)[i]? = _; rw [List.getElem?_replicate, if_pos hlt], trivial⟩
          · cases q'
      · have one : ∀ {i : Nat} {c1 : Cell}, (Cell.ins l c [] :: .val d :: .val (.ptup rs) :: nos (N.length - 3))[i]? = some c1 → Has c1 l' → i = 0 := fun {i c1} q e => by
          match i, q with
          | 0, _ => rfl
          | 1, q => cases q; cases e
          | 2, q => cases q; cases e
          | i + 3, q =>
            have q' : (nos (N.length - 3))[i]? = some c1 := q
            unfold nos at q'
            rw [List.getElem?_replicate] at q'
            split at q'
            · cases q'; cases e
            · cases q'
        rw [one q1 e1, one q2 e2]
    have own0 : ∀ a, Owns (.ins l c [] :: .val d :: .val (.ptup rs) :: nos (N.length - 3)) a → a = l := fun a ⟨i, c1, q, e⟩ => by
      match i, q with
      | 0, q => cases q; cases e; rfl
      | 1, q => cases q; cases e
      | 2, q => cases q; cases e
      | i + 3, q =>
        have q' : (nos (N.length - 3))[i]? = some c1 := q
        unfold nos at q'
        rw [List.getElem?_replicate] at q'
        split at q'
        · cases q'; cases e
        · cases q'
    refine body cdv A outer s H E hr l d rs fs hc F0 _ H _ r0 ?_ (fun _ _ _ _ _ _ hp => hp.elim) (fun _ _ _ _ _ _ _ hp => hp.elim) (fun _ _ _ _ hp => hp.elim) (fun _ _ _ _ hp => hp.elim)
    intro cs' σ' F' H' hp2 st r'
    obtain ⟨u, e1, g1, g2, dx2, fs2, rfl, g3, g4⟩ := r'.owned (l := l) hp2 rfl
    have hfl := (hC _ _ hc).2
    rw [hfl, List.take_length] at g3
    obtain ⟨r2, st2⟩ := r'.know (d := .obj c fs) hp2 rfl g1 ⟨l, dx2, fs2, rfl, upd_same, g3, IsAll.mono (fun a o h => by rw [upd_ne (ne_of_none h g2)]; exact h) fs g4⟩
    have sa := st.trans st2
    refine ret _ H' ⟨sa.fsub, fun a o e n => sa.frame a o e fun z => n (own0 a z), fun a o e => ?_, fun a e => e.elim, sa.back⟩ r2.sub ⟨l, dx2, fs2, rfl, upd_same, g3, IsAll.mono (fun a o h => by rw [upd_ne (ne_of_none h g2)]; exact h) fs g4⟩
    rcases sa.fresh a o e with z | z | z
    · exact .inl z
    · exact .inr (.inl z)
    · exact .inr (.inr (own0 a z)))
  refine K1.imp fun vs H Q E h => ?_
  obtain ⟨F0, l, dx, us, ds, fs, sm, rfl, h1, h2, hall, hz, hc, ret⟩ := h
  cases ds with
  | nil => exact absurd (hC _ _ hc).1 (by simp)
  | cons d rs =>
    obtain ⟨v, vr, rfl, hd, hr⟩ := hall
    refine ⟨[.ref l, v], vr, rfl, rfl, Nat.le_trans (by simp at hz; omega) (show 100000 ≤ sizeLine by decide), fun p o hp ho => ?_⟩
    have g := grow_know (o := .frz o (.tup vr)) sm hp
    have lp : l ≠ p := ne_of_none h1 hp
    refine ⟨upd F0 p (.frz o (.tup vr)), l, dx, p, d, rs, fs, v, g.sub, rfl, by rw [upd_ne lp]; exact h1, by rw [upd_ne lp]; exact h2, Is.mono g.fsub d hd, ⟨p, vr, o, rfl, upd_same, ho, IsAll.mono g.fsub rs hr⟩, hc, fun F' H' st sm' hi => ?_⟩
    exact ret F' H' ((g.stp (O := (· = l))).trans st) sm' hi
end
/-! ### C(e, .., *y) -/
section
variable {X : Cx} {G : Gx} {e : Expr} {es : List Expr} {np pos : Pos} {n : Str} {cs cs' cs1 cs2 : List Cell} {d : D} {ds fs : List D} {c j k : Nat}
theorem make_end {F H F1 H1 : Hp} {σ : L2.St} {Q : VK} {f : Addr} {vs : List V} {C : List D → List D → Prop} (st1 : Stp F H (Owns cs) F1 H1 (Owns cs1)) (rl : Rel G F σ H cs) (r1 : Rel G F1 σ H1 cs1) (q1 : IsAll G F1 ds vs) (hz : ds.length ≤ 100000) (hC : C ds fs)
    (q : ∀ v F' H', Stp F H (Owns cs) F' H' (Owns cs1) → Rel G F' σ H' cs1 → Is G F' (.obj c fs) v → Q v H') (x dx : Addr) (hx : H1 x = none) (hdx : H1 dx = none) (hne : dx ≠ x) :
    spI G c C (V.ref x :: vs) (upd (upd H1 dx (.own x)) x (.ins (G.cls c) dx [])) (fun v H2 => v = .non ∧ Q (.ref x) H2) E0 := by
  have g1 := grow_new (o := .own x) r1.sub hdx
  have hx2 : upd H1 dx (.own x) x = none := by rw [upd_ne hne.symm]; exact hx
  have g2 := grow_new (o := .ins (G.cls c) dx []) g1.sub hx2
  have g := g1.trans g2
  have fx : F1 x = none := by
    cases e : F1 x with
    | none => rfl
    | some u => rw [r1.sub x u e] at hx; cases hx
  refine ⟨F1, x, dx, vs, ds, fs, g.sub, rfl, upd_same, fx, q1, by rw [q1.length]; exact hz, hC, fun F' H' st sm hi => ⟨rfl, ?_⟩⟩
  have nox : ¬ Owns cs1 x := r1.notOwns hx
  have sA : Stp F1 H1 (Owns cs1) F' H' (Owns cs1) := by
    refine ⟨st.fsub, fun a o e n => ?_, fun a o e => ?_, fun a e => .inl e, fun a e => g.hsub.free (st.back a e)⟩
    · exact st.frame a o (g.hsub a o e) fun z => by rw [z, hx] at e; cases e
    · rcases st.fresh a o e with z | z | z
      · exact .inl z
      · exact .inr (.inl (g.hsub.free z))
      · exact .inr (.inl (z ▸ hx))
  refine q _ F' H' (st1.trans sA) ⟨sm, r1.len, fun i cc e => ?_, r1.inj⟩ hi
  obtain ⟨o, e1, a1⟩ := r1.cel i cc e
  refine ⟨o, e1, a1.mono st.fsub fun l u hl h1 h2 => ?_⟩
  have nl : ¬ l = x := fun z => nox (z ▸ ⟨i, cc, e, hl⟩)
  have h1' := g.hsub l u h1
  refine ⟨st.frame l u h1' nl, ?_⟩
  cases z : F' l with
  | none => rfl
  | some u' =>
    rcases st.fresh l u' z with y | y | y
    · rw [h2] at y; cases y
    · rw [h1'] at y; cases y
    · exact absurd y nl
theorem pe_makeLS {f C : Addr} {i : Nat} {sp : Sp} {E : XK} {t : TA} (M : Mk X.K C f) (F : FnR X.prog X.w X.K X.mg X.base CX0 k f sp) (hr : Room (k + 1) X.A) (hN : X.N[i]? = some n) (hv : Vis X.env.scope n) (hx : Passes CX0 X E) (ha : PA X (e :: es) t) (hdb : (n == ("__debug__" : Str)) = false := by decide) (hcd : (n == ("__classdict__" : Str)) = false := by decide)
    (he : starEach (e :: es) X.env = (false, eval e X.env) :: starEach es X.env := by rfl) (hst : (backTo pos (starEach es X.env)).any (·.1) = true := by rfl) : PE X (.Call (.Name n np) (e :: es) [] pos) (fun σ H Q => tVar i σ H fun y H1 => y = .ref C ∧ StX.tMakeR C sp E t σ H1 Q) := by
  refine ⟨fun pins s σ H Q I h => ?_⟩
  refine wpAny_Call_Name_kw (thn ((pe_var (X := X) (i := i) (pos := np) hN hv hdb hcd).run pins s σ H _ I h) fun u s0 ⟨y, H0, I0, ry, ey, hq⟩ => ?_)
  subst ey
  obtain rfl : u = Value.ref C := ry
  exact PySem.W.callWith_S2 (h₀ := X.base) I0.ok.mod.kin M.kp (thn (ha.run pos pins s0 σ H0 _ I0 hq) fun us s1 ⟨vs, H1, I1, r, q⟩ => ⟨I1.kIn, StX.run_makeR M F hr hx I1 r q⟩) he hst
/-- cls(e, .., *y), cls a name that holds the class -/
theorem ev_makeLS {C : List D → List D → Prop} {f : Addr} (i : Nat) (M : Mk X.K (G.cls c) f) (Fn : FnR X.prog X.w X.K X.mg X.base CX0 k f (spI G c C)) (hr : Room j X.A) (hk : k + 1 ≤ j) (hi : cs[i]? = some (.val (.cls c))) (ha : EvV G (rdA X (e :: es)) cs ds cs1) (hz : ds.length ≤ 100000) (hC : C ds fs) (hN : X.N[i]? = some n) (hv : Vis X.env.scope n) (hdb : (n == ("__debug__" : Str)) = false := by decide) (hcd : (n == ("__classdict__" : Str)) = false := by decide)
    (he : starEach (e :: es) X.env = (false, eval e X.env) :: starEach es X.env := by rfl) (hst : (backTo pos (starEach es X.env)).any (·.1) = true := by rfl) : Ev G (rdE X (.Call (.Name n np) (e :: es) [] pos)) cs (.obj c fs) cs1 :=
  ev_of (pe_makeLS (i := i) (E := E0) M Fn (hr.mono hk) hN hv pass0 pa_rd hdb hcd he hst) fun F σ H Q rl q => by
    obtain ⟨v, e1, q0⟩ := rl.val hi
    cases q0
    exact ⟨_, e1, rfl, ha F σ H _ rl fun vs F1 H1 st1 r1 q1 x dx hx hdx hne => make_end (f := f) st1 rl r1 q1 hz hC q x dx hx hdx hne⟩
/-- C.m(e, ..), a class method -/
theorem ev_cmeth {o : Expr} {m : Str} {C : List D → Out → Prop} {pa g : Addr} {mc : Value} {ap : Pos} {pl : Sem Bool} {z : D} (rd : ClX.CRead X.K (G.cls c) mc) (cm : ClX.CMet X.K (G.cls c) mc m pa g) (Fn : FnR X.prog X.w X.K X.mg X.base CX0 k g (sp0 G C)) (hr : Room j X.A) (hk : k ≤ j) {on : Str} {op : Pos} (ho : o = .Name on op) (hg : Gl X on) (hm : X.mg on = some (.ref (G.cls c))) (ha : EvV G (rdA X (e :: es)) cs ds cs1) (hC : C (.cls c :: ds) (.val z)) (hdb : (on == ("__debug__" : Str)) = false := by decide)
    (hst : starEach (e :: es) X.env = (false, eval e X.env) :: starEach es X.env := by rfl) (hpl : (backTo pos (starEach es X.env)).any (·.1) = false := by rfl)
    (ht : eval (.Call (.Attribute o m ap) (e :: es) [] pos) X.env = (do
      let ov ← eval o X.env
      standAt ap.atName
      let (f, first) ← holding [ov] (getMethod ov m pl)
      callWith pos f first (backTo pos (starEach (e :: es) X.env)) (backToKw pos (keywordEach [] X.env))) := by rfl) : Ev G (rdE X (.Call (.Attribute o m ap) (e :: es) [] pos)) cs z cs1 := by
  subst ho
  refine ev_of (ClX.pe_cmeth (E := E0) (pe_glob (v := .ref (G.cls c)) hg hm rfl hdb) rd cm Fn (hr.mono hk) pass0 pa_rd hst hpl ht) fun F σ H Q rl q => ⟨rfl, ha F σ H _ rl fun vs F1 H1 st1 r1 q1 => ?_⟩
  exact ⟨F1, .cls c :: ds, .val z, r1.sub, ⟨_, vs, rfl, rfl, q1⟩, hC, fun v F3 H3 g q3 => q v F3 H3 (st1.trans g.stp) (r1.grow g) q3⟩
def gFld (K : PySem.W.Frag) (ta : TE) (f : Str) : TG := fun v σ H Q => ta σ H fun x H1 => ∃ a C dx fs, x = .ref a ∧ H1 a = some (.ins C dx fs) ∧ Cls K C ∧ NoAttr K C f ∧ fs.length < 1000 ∧ Q σ (upd H1 a (.ins C dx (putF f v fs)))
theorem pg_fld {o : Expr} {f : Str} {ta : TE} (ha : PE X o ta) (hg : ∀ v, assign (.Attribute o f pos) X.env v = (do
      let ov ← holding [v] (eval o X.env)
      standAt pos.atName
      holding [v, ov] (setAttr ov f v)
      release [v, ov] []) := by intro _; rfl) : PG X (.Attribute o f pos) (gFld X.K ta f) := by
  refine ⟨fun pins s σ H v u Q I r h => ?_⟩
  rw [hg]
  refine wpAny_bind (wpAny_holding (thn (ha.run pins s σ H _ I h) fun ov s1 ⟨x, H1, I1, rx, a, C, dx, fs, ex, ea, c, n, l, q⟩ => ?_))
  subst ex
  obtain rfl : ov = Value.ref a := rx
  refine wpAny_bind (wpAny_standAt ?_)
  refine wpAny_bind (wpAny_holding (setattr_ok I1 ea c n l r fun s3 I3 => ?_))
  exact wpAny_release ⟨σ, _, I3, q⟩
/-- self.f, self.g = value in __init__ -/
theorem sx_self2 {i : Nat} {l : Addr} {f1 f2 : Str} {x y : D} {n : Str} {P : Post} {p1 p2 p3 p4 pt : Pos} {kt : Nat} (he : Ev G (rdE X e) cs (.tup [x, y]) cs2) (h2 : cs2[i]? = some (.ins l c [])) (hp : P.nx (cs2.set i (.ins l c [x, y]))) (hN : X.N[i]? = some n) (hv : Vis X.env.scope n)
    (cl : Cls X.K (G.cls c)) (n1 : NoAttr X.K (G.cls c) f1) (n2 : NoAttr X.K (G.cls c) f2) (hf : (G.fld c).take 2 = [f1, f2]) (hne : ¬ f1 = f2) (hcalm : X.calm = true) (hK : G.K = X.K := by rfl)
    (hdb : (n == ("__debug__" : Str)) = false := by decide) (hcd : (n == ("__classdict__" : Str)) = false := by decide)
    (hs : swapsWithSole [.Tuple [.Attribute (.Name n p1) f1 p2, .Attribute (.Name n p3) f2 p4] kt pt] e pos.line X.env = pure false := by rfl) (hw : swappedStores [.Tuple [.Attribute (.Name n p1) f1 p2, .Attribute (.Name n p3) f2 p4] kt pt] e X.env = pure none := by rfl) :
    Sx G (rdS X (.Assign [.Tuple [.Attribute (.Name n p1) f1 p2, .Attribute (.Name n p3) f2 p4] kt pt] e pos)) cs P := by
  refine sx_of (ps_asg pe_rd (pg_tup hcalm (pgs_cons (pg_fld (pe_var (i := i) hN hv hdb hcd)) (pgs_cons (pg_fld (pe_var (i := i) hN hv hdb hcd)) pgs_nil))) hs hw rfl) fun F σ H E rl k1 _ _ _ _ => he F σ H _ rl fun v F1 H1 st1 r1 q1 => ?_
  obtain ⟨a, xs, rfl, t1, v1, xr, rfl, hx, v2, xr2, rfl, hy, hz⟩ := q1
  cases hz
  obtain ⟨u, e1, g1, g2, dx, fs0, eu, g3, g4⟩ := r1.owned (l := l) h2 rfl
  subst eu
  have z0 : fs0 = [] := by
    cases fs0 with
    | nil => rfl
    | cons p q => cases g3
  subst z0
  refine ⟨a, _, rfl, by rw [← hK]; exact same_t r1.sub t1, rfl, v1, _, rfl, _, e1, l, _, dx, [], rfl, g1, cl, n1, by decide, v2, [], rfl, _, e1, l, _, dx, _, rfl, upd_same, cl, n2, by show 1 < 1000; decide, rfl, ?_⟩
  have pf : putF f2 v2 (putF f1 v1 []) = [(f1, v1), (f2, v2)] := by
    simp [putF, hne]
  rw [show ∀ (o p : HO), upd (upd H1 l o) l p = upd H1 l p from fun o p => by funext z; by_cases q : z = l <;> simp [upd, q], pf]
  exact k1 _ σ F1 _ hp (st1.trans (Stp.put h2 rfl rfl)) (r1.put h2 rfl rfl ⟨dx, _, rfl, hf.symm, v1, [v2], rfl, hx, v2, [], rfl, hy, rfl⟩)
end
end Fx
/-! Texts; methods of lists; what is built in. -/
namespace Fx
open PySem PyProof PyProof.Rows L2
section
variable {X : Cx} {G : Gx} {e o a b : Expr} {es : List Expr} {pos ap p : Pos} {cs cs1 cs2 cs3 : List Cell} {d x z : D} {ds xs : List D} {n : Str}
/-! ### texts -/
/-- a.m(b): a text's method -/
theorem ev_m1 {id : String} {name x y : Str} {r : V → List V → Hp → VK → Prop} (slot : Slot "str" name id) (ty : typeOf (.builtin id) = pure (.type "method_descriptor")) (rule : MtR X id r) (ho : Ev G (rdE X o) cs (.str x) cs1) (he : Ev G (rdE X e) cs1 (.str y) cs2)
    (hr : ∀ H Q u, (∀ F, Is G F z u) → Q u H → r (.str x) [.str y] H Q) (hz : ∃ u, ∀ F, Is G F z u)
    (hs : starEach [e] X.env = [(false, eval e X.env)] := by rfl) (hbase : attributeBase o name X.env (eval o X.env) = eval o X.env := by rfl) (hline : (ap.endLine == pos.line) = true := by rfl) : Ev G (rdE X (.Call (.Attribute o name ap) [e] [] pos)) cs z cs2 :=
  ev_of (pe_m1 slot ty rule pe_rd pe_rd hs hbase hline) fun F σ H Q rl q => ho F σ H _ rl fun v F1 H1 st1 r1 q1 => by
    cases q1
    refine ⟨⟨x, rfl⟩, he F1 σ H1 _ r1 fun v2 F2 H2 st2 r2 q2 => ?_⟩
    cases q2
    obtain ⟨u, hu⟩ := hz
    exact hr H2 Q u hu (q u F2 H2 (st1.trans st2) r2 (hu F2))
theorem ev_endswith {x y : Str} (ho : Ev G (rdE X o) cs (.str x) cs1) (he : Ev G (rdE X e) cs1 (.str y) cs2)
    (hs : starEach [e] X.env = [(false, eval e X.env)] := by rfl) (hbase : attributeBase o "endswith" X.env (eval o X.env) = eval o X.env := by rfl) (hline : (ap.endLine == pos.line) = true := by rfl) : Ev G (rdE X (.Call (.Attribute o "endswith" ap) [e] [] pos)) cs (.bl (Txt.endswith x y)) cs2 :=
  ev_m1 PySem.F.slot_str_endswith PySem.F.type_str_endswith mt_endswith ho he (fun H Q u hu q => ⟨x, y, rfl, rfl, by have := hu (fun _ => none); cases this; exact q⟩) ⟨_, fun _ => rfl⟩ hs hbase hline
theorem ev_find {x y : Str} (ho : Ev G (rdE X o) cs (.str x) cs1) (he : Ev G (rdE X e) cs1 (.str y) cs2)
    (hs : starEach [e] X.env = [(false, eval e X.env)] := by rfl) (hbase : attributeBase o "find" X.env (eval o X.env) = eval o X.env := by rfl) (hline : (ap.endLine == pos.line) = true := by rfl) : Ev G (rdE X (.Call (.Attribute o "find" ap) [e] [] pos)) cs (.int (Txt.find x y)) cs2 :=
  ev_m1 PySem.F.slot_str_find PySem.F.type_str_find mt_find ho he (fun H Q u hu q => ⟨x, y, rfl, rfl, by have := hu (fun _ => none); cases this; exact q⟩) ⟨_, fun _ => rfl⟩ hs hbase hline
theorem isAll_strs {F : Hp} : ∀ ys : List Str, IsAll G F (ys.map D.str) (ys.map V.str)
  | [] => rfl
  | y :: ys => ⟨_, _, rfl, rfl, isAll_strs ys⟩
theorem strs_isAll {F : Hp} : ∀ {ys : List Str} {vs : List V}, IsAll G F (ys.map D.str) vs → vs = ys.map V.str
  | [], _, h => h
  | y :: ys, _, h => by
    obtain ⟨v, r, rfl, h1, h2⟩ := h
    cases h1
    rw [strs_isAll h2]; rfl
theorem evn_split {x y : Str} (ho : Ev G (rdE X o) cs (.str x) cs1) (he : Ev G (rdE X e) cs1 (.str y) cs2) (h0 : (y.length == 0) = false) (hx : x.length ≤ 10000000)
    (hs : starEach [e] X.env = [(false, eval e X.env)] := by rfl) (hbase : attributeBase o "split" X.env (eval o X.env) = eval o X.env := by rfl) (hline : (ap.endLine == pos.line) = true := by rfl) : EvN G (rdE X (.Call (.Attribute o "split" ap) [e] [] pos)) cs ((Txt.split x y).map .str) cs2 :=
  evn_of (pe_split pe_rd pe_rd hs hbase hline) fun F σ H Q rl q => ho F σ H _ rl fun v F1 H1 st1 r1 q1 => by
    cases q1
    refine ⟨⟨x, rfl⟩, he F1 σ H1 _ r1 fun v2 F2 H2 st2 r2 q2 => ?_⟩
    cases q2
    exact ⟨x, y, rfl, rfl, h0, by rw [sizeLine_eq]; omega, fun p hp => evn_new (st1.trans st2) rl r2 q p _ hp (isAll_strs _)⟩
theorem ev_join {x : Str} {ys : List Str} (ho : Ev G (rdE X o) cs (.str x) cs1) (he : Ev G (rdE X e) cs1 (.lst (ys.map .str)) cs2) (hz : (ys.map (·.length)).sum + ys.length * x.length ≤ 16777216)
    (hs : starEach [e] X.env = [(false, eval e X.env)] := by rfl) (hbase : attributeBase o "join" X.env (eval o X.env) = eval o X.env := by rfl) (hline : (ap.endLine == pos.line) = true := by rfl) : Ev G (rdE X (.Call (.Attribute o "join" ap) [e] [] pos)) cs (.str (Str.join x ys)) cs2 :=
  ev_of (pe_join pe_rd pe_rd hs hbase hline) fun F σ H Q rl q => ho F σ H _ rl fun v F1 H1 st1 r1 q1 => by
    cases q1
    refine ⟨⟨x, rfl⟩, he F1 σ H1 _ r1 fun v2 F2 H2 st2 r2 q2 => ?_⟩
    obtain ⟨a, vs, rfl, h1, h2⟩ := q2
    rw [strs_isAll h2] at h1
    refine ⟨x, a, ys, rfl, rfl, .inl (SqL.of (r2.sub _ _ h1)), hz, ?_⟩
    rw [TL.join_eq]
    exact q _ F2 H2 (st1.trans st2) r2 rfl
/-- str(i) -/
theorem ev_strI {i : Int} (ha : Ev G (rdE X e) cs (.int i) cs1) (hi : i.natAbs.log2 < 1920) (hm : X.mg "str" = none) (hg : Gl X "str") (hs : starEach [e] X.env = (false, eval e X.env) :: starEach [] X.env := by rfl) :
    Ev G (rdE X (.Call (.Name "str" p) [e] [] pos)) cs (.str (toString i)) cs1 :=
  ev_callTy call_str_int (fun F H vs Q sm h q => by
    obtain ⟨v, r, rfl, h1, h2⟩ := h
    cases h1
    cases h2
    exact ⟨i, rfl, hi, q _ F H (.refl sm) rfl⟩) (evv_cons ha evv_nil hs) hg hm boot_str (by decide) (by decide) hs (by rfl)
theorem ev_lenS {s : Str} (ha : Ev G (rdE X e) cs (.str s) cs1) (hz : s.length ≤ 10000000) (hm : X.mg "len" = none) (hg : Gl X "len") (hs : starEach [e] X.env = (false, eval e X.env) :: starEach [] X.env := by rfl) :
    Ev G (rdE X (.Call (.Name "len" p) [e] [] pos)) cs (.int (s.length : Int)) cs1 :=
  ev_callB call_len_str (fun F H vs Q sm h q => by
    obtain ⟨v, r, rfl, h1, h2⟩ := h
    cases h1
    cases h2
    exact ⟨s, rfl, by rw [sizeLine_eq]; omega, q _ F H (.refl sm) rfl⟩) (evv_cons ha evv_nil hs) hg hm boot_len (by decide) (by decide) hs (by rfl)
/-! parts of f'..' -/
/-! ### all, max, min, list -/
theorem bls_isAll {F : Hp} : ∀ {bs : List Bool} {vs : List V}, IsAll G F (bs.map D.bl) vs → vs = bs.map V.bl
  | [], _, h => h
  | y :: ys, _, h => by
    obtain ⟨v, r, rfl, h1, h2⟩ := h
    cases h1
    rw [bls_isAll h2]; rfl
theorem ev_all {bs : List Bool} (ha : Ev G (rdE X e) cs (.lst (bs.map .bl)) cs1) (hc : X.calm = true) (hm : X.mg "all" = none) (hg : Gl X "all") (hs : starEach [e] X.env = (false, eval e X.env) :: starEach [] X.env := by rfl) :
    Ev G (rdE X (.Call (.Name "all" p) [e] [] pos)) cs (.bl (bs.all id)) cs1 :=
  ev_callB (cr_all hc) (fun F H vs Q sm h q => by
    obtain ⟨v, r, rfl, ⟨a, us, rfl, h1, h2⟩, h3⟩ := h
    cases h3
    rw [bls_isAll h2] at h1
    exact ⟨a, bs, rfl, SqL.of (sm _ _ h1), q _ F H (.refl sm) rfl⟩) (evv_cons ha evv_nil hs) hg hm boot_all (by decide) (by decide) hs (by rfl)
theorem ev_max2 {i j : Int} (ha : EvV G (rdA X (e :: es)) cs [.int i, .int j] cs1) (hc : X.calm = true) (hm : X.mg "max" = none) (hg : Gl X "max")
    (he : starEach (e :: es) X.env = (false, eval e X.env) :: starEach es X.env := by rfl) (hpl : (backTo pos (starEach es X.env)).any (·.1) = false := by rfl) : Ev G (rdE X (.Call (.Name "max" p) (e :: es) [] pos)) cs (.int (if j > i then j else i)) cs1 :=
  ev_callB (call_max2 hc) (fun F H vs Q sm h q => by
    obtain ⟨v, r, rfl, h1, v2, r2, rfl, h2, h3⟩ := h
    cases h1; cases h2; cases h3
    exact ⟨i, j, rfl, q _ F H (.refl sm) rfl⟩) ha hg hm boot_max (by decide) (by decide) he hpl
theorem ev_min2 {i j : Int} (ha : EvV G (rdA X (e :: es)) cs [.int i, .int j] cs1) (hc : X.calm = true) (hm : X.mg "min" = none) (hg : Gl X "min")
    (he : starEach (e :: es) X.env = (false, eval e X.env) :: starEach es X.env := by rfl) (hpl : (backTo pos (starEach es X.env)).any (·.1) = false := by rfl) : Ev G (rdE X (.Call (.Name "min" p) (e :: es) [] pos)) cs (.int (if j < i then j else i)) cs1 :=
  ev_callB (call_min2 hc) (fun F H vs Q sm h q => by
    obtain ⟨v, r, rfl, h1, v2, r2, rfl, h2, h3⟩ := h
    cases h1; cases h2; cases h3
    exact ⟨i, j, rfl, q _ F H (.refl sm) rfl⟩) ha hg hm boot_min (by decide) (by decide) he hpl
/-! ### reversed by [::-1] -/
/-! ### zip -/
/-! ### a list of ours changes -/
variable {i : Nat} {l : Addr} {P : Post} {np : Pos} {es' : List D}
/-- xs.extend(a list) -/
theorem sx_extend (i : Nat) {ys : List D} {spos : Pos} (h : cs[i]? = some (.own l ds)) (he : Ev G (rdE X e) cs (.lst ys) cs1) (h1 : cs1[i]? = some (.own l es')) (hz : es'.length + ys.length ≤ 1000000) (hp : P.nx (cs1.set i (.own l (es' ++ ys)))) (hN : X.N[i]? = some n) (hv : Vis X.env.scope n)
    (hpe : ∀ {to : TE} {t : TA}, PE X (.Name n np) to → PA X [e] t → PE X (.Call (.Attribute (.Name n np) "extend" ap) [e] [] pos) (tBM X.K "list" rExtend to t)) (hd : (n == ("__debug__" : Str)) = false := by decide) (hcd : (n == ("__classdict__" : Str)) = false := by decide)
    (hs : starEach [e] X.env = (false, eval e X.env) :: starEach [] X.env := by rfl) (hsw : swapsWith (.Call (.Attribute (.Name n np) "extend" ap) [e] [] pos) none spos.line X.env = pure false := by rfl) :
    Sx G (rdS X (.Expr (.Call (.Attribute (.Name n np) "extend" ap) [e] [] pos) spos)) cs P :=
  sx_of (ps_expr (hpe (pe_var hN hv hd hcd) (pa_cons pe_rd pa_nil hs)) hsw) fun F σ H E rl k1 _ _ _ _ => by
    obtain ⟨vs, e1, _, _, _, ty⟩ := own_meth (X := X) (id := "") (rr := fun _ _ _ _ => True) rl h
    refine ⟨.ref l, e1, ty, he F σ H _ rl fun v F1 H1 st1 r1 q1 => ?_⟩
    obtain ⟨b, us, rfl, q1, q2⟩ := q1
    obtain ⟨vs1, e2, h2, h3, h4⟩ := r1.own h1
    refine ⟨l, b, vs1, us, rfl, rfl, h2, r1.sub _ _ q1, ?_, ?_⟩
    · rw [h4.length, q2.length, sizeLine_eq]; omega
    · exact k1 _ σ F1 _ hp (st1.trans (Stp.write h1)) (r1.write h1 (h4.append q2))
/-- xs[k] = e -/
theorem sx_setIx (i : Nat) {j : Int} {m : Nat} {ix : Expr} {sp : Pos} (he : Ev G (rdE X e) cs d cs1) (hx : Ev G (rdE X ix) cs1 (.int j) cs2) (h0 : cs1[i]? = some (.own l ds)) (h1 : cs2[i]? = some (.own l es')) (hj : ixN es'.length j = some m) (hp : P.nx (cs2.set i (.own l (es'.set m d)))) (hN : X.N[i]? = some n) (hv : Vis X.env.scope n)
    (hd : (n == ("__debug__" : Str)) = false := by decide) (hcd : (n == ("__classdict__" : Str)) = false := by decide)
    (hs : swapsWithSole [.Subscript (.Name n np) ix sp] e pos.line X.env = pure false := by rfl) (hw : swappedStores [.Subscript (.Name n np) ix sp] e X.env = pure none := by rfl) (h1' : (assignEach [.Subscript (.Name n np) ix sp] X.env).map (·.2) = [assign (.Subscript (.Name n np) ix sp) X.env] := by rfl)
    (ha : ∀ v, assign (.Subscript (.Name n np) ix sp) X.env v = (do
      let ov ← holding [v] (eval (.Name n np) X.env)
      let iv ← holding [v, ov] (eval ix X.env)
      standAt sp
      holding [v, ov, iv] (setItem ov iv v)
      release [v, ov, iv] []) := by intro _; rfl) :
    Sx G (rdS X (.Assign [.Subscript (.Name n np) ix sp] e pos)) cs P :=
  sx_of (ps_asg pe_rd (pg_sub (pe_var (i := i) hN hv hd hcd) pe_rd set_list ha) hs hw h1') fun F σ H E rl k1 _ _ _ _ => he F σ H _ rl fun v F1 H1 st1 r1 q1 => by
    obtain ⟨vs0, e0, _⟩ := r1.own h0
    refine ⟨.ref l, e0, hx F1 σ H1 _ r1 fun v2 F2 H2 st2 r2 q2 => ?_⟩
    cases q2
    obtain ⟨vs1, e2, h2, h3, h4⟩ := r2.own h1
    refine ⟨l, vs1, j, m, rfl, rfl, h2, by rw [h4.length]; exact hj, k1 _ σ F2 _ hp ((st1.trans st2).trans (Stp.write h1)) (r2.write h1 (h4.set m (Is.mono st2.fsub d q1)))⟩
end
end Fx
/-! A class's parts, each with its promise. -/
namespace Fx
open PySem PyProof PyProof.Rows L2
section
variable (G : Gx) (P : Program) (w : World) (mg : Str → Option Value) (base : Heap) (c k : Nat)
def PkInit (C : List D → List D → Prop) : Prop := ∃ f, Mk G.K (G.cls c) f ∧ FnR P w G.K mg base CX0 k f (spI G c C)
def PkCls (m : Str) (C : List D → Out → Prop) : Prop := ∃ mc pa g, ClX.CRead G.K (G.cls c) mc ∧ ClX.CMet G.K (G.cls c) mc m pa g ∧ FnR P w G.K mg base CX0 k g (sp0 G C)
end
section
variable {X : Cx} {G : Gx} {e o : Expr} {es : List Expr} {pos ap np op : Pos} {cs cs1 cs2 : List Cell} {d z : D} {ds fs es' : List D} {c j k m : Nat} {n : Str}
theorem ev_makeLSP {C : List D → List D → Prop} (i : Nat) (Pk : PkInit G X.prog X.w X.mg X.base c k C) (hr : Room j X.A) (hk : k + 1 ≤ j) (hi : cs[i]? = some (.val (.cls c))) (ha : EvV G (rdA X (e :: es)) cs ds cs1) (hz : ds.length ≤ 100000) (hC : C ds fs) (hN : X.N[i]? = some n) (hv : Vis X.env.scope n) (hK : G.K = X.K := by rfl) (hdb : (n == ("__debug__" : Str)) = false := by decide) (hcd : (n == ("__classdict__" : Str)) = false := by decide)
    (he : starEach (e :: es) X.env = (false, eval e X.env) :: starEach es X.env := by rfl) (hst : (backTo pos (starEach es X.env)).any (·.1) = true := by rfl) : Ev G (rdE X (.Call (.Name n np) (e :: es) [] pos)) cs (.obj c fs) cs1 := by
  obtain ⟨f, h1, h2⟩ := Pk
  rw [hK] at h1 h2
  exact ev_makeLS i h1 h2 hr hk hi ha hz hC hN hv hdb hcd he hst
theorem ev_cmethP {nm on : Str} {C : List D → Out → Prop} {pl : Sem Bool} (Pk : PkCls G X.prog X.w X.mg X.base c k nm C) (hr : Room j X.A) (hk : k ≤ j) (hg : Gl X on) (hm : X.mg on = some (.ref (G.cls c))) (ha : EvV G (rdA X (e :: es)) cs ds cs1) (hC : C (.cls c :: ds) (.val z)) (hK : G.K = X.K := by rfl) (hdb : (on == ("__debug__" : Str)) = false := by decide)
    (hst : starEach (e :: es) X.env = (false, eval e X.env) :: starEach es X.env := by rfl) (hpl : (backTo pos (starEach es X.env)).any (·.1) = false := by rfl)
    (ht : eval (.Call (.Attribute (.Name on op) nm ap) (e :: es) [] pos) X.env = (do
      let ov ← eval (.Name on op) X.env
      standAt ap.atName
      let (f, first) ← holding [ov] (getMethod ov nm pl)
      callWith pos f first (backTo pos (starEach (e :: es) X.env)) (backToKw pos (keywordEach [] X.env))) := by rfl) : Ev G (rdE X (.Call (.Attribute (.Name on op) nm ap) (e :: es) [] pos)) cs z cs1 := by
  obtain ⟨mc, pa, g, h1, h2, h3⟩ := Pk
  rw [hK] at h1 h2 h3
  exact ev_cmeth h1 h2 h3 hr hk rfl hg hm ha hC hdb hst hpl ht
theorem ei_lp {tg iter : Expr} (h : Ev G (rdE X iter) cs d cs1) (hs : d = .lst ds ∨ d = .ptup ds) (hK : G.K = X.K := by rfl) : EvI G (rdI X tg iter) cs ds cs1 := by
  rcases hs with rfl | rfl
  · exact ei_list h
  · exact ei_tup (ev_ptup h) hK
theorem ev_cntQ {q : D} {xs : List D} (hq : q = .lst xs ∨ q = .ptup xs) (ho : Ev G (rdE X o) cs q cs1) (he : Ev G (rdE X e) cs1 d cs2) (hu : X.A.units + 65 < cLine) (fx : fine (.lst xs)) (fy : fine (.tup xs)) (fd : fine d)
    (hpe : ∀ {to : TE} {t : TA}, PE X o to → PA X [e] t → PE X (.Call (.Attribute o "count" ap) [e] [] pos) (tBM X.K "list" (rCntL X.K) to t)) (hpt : ∀ {to : TE} {t : TA}, PE X o to → PA X [e] t → PE X (.Call (.Attribute o "count" ap) [e] [] pos) (tTM (rCntT X.K) to t))
    (hK : G.K = X.K := by rfl) (hs : starEach [e] X.env = (false, eval e X.env) :: starEach [] X.env := by rfl) :
    Ev G (rdE X (.Call (.Attribute o "count" ap) [e] [] pos)) cs (.int (xs.countP fun z => eqD z d : Nat)) cs2 := by
  rcases hq with rfl | rfl
  · exact ev_cntL ho he hu fx fd hpe hK hs
  · exact ev_cntT ho he hu fy fd hpt hK hs
end
end Fx
/-! Lists of lists that are ours. -/
namespace Fx
open PySem PyProof PyProof.Rows L2
/-- a list of lists, no name holds it yet -/
structure MatAt (G : Gx) (F H : Hp) (O : Addr → Prop) (l : Addr) (ls : List Addr) (rows : List (List D)) : Prop where
  at_ : H l = some (.lst (ls.map .ref))
  un : F l = none
  no : ¬ O l
  out : l ∉ ls
  nd : ls.Nodup
  len : ls.length = rows.length
  row : ∀ (j : Nat) (a : Addr) (row : List D), ls[j]? = some a → rows[j]? = some row → ∃ vs, H a = some (.lst vs) ∧ F a = none ∧ ¬ O a ∧ IsAll G F row vs
def EvM (G : Gx) (te : TE) (cs : List Cell) (rows : List (List D)) (cs' : List Cell) : Prop := ∀ (F : Hp) (σ : L2.St) (H : Hp) (Q : VK), Rel G F σ H cs →
  (∀ l ls F' H', Stp F H (Owns cs) F' H' (Owns cs') → Rel G F' σ H' cs' → MatAt G F' H' (Owns cs') l ls rows → H l = none → (∀ a ∈ ls, H a = none) → Q (.ref l) H') → te σ H Q
section
variable {G : Gx} {F H F' H' : Hp} {O O' : Addr → Prop} {σ : L2.St} {cs cs1 : List Cell} {l : Addr} {ls : List Addr} {rows : List (List D)} {i : Nat}
theorem MatAt.rowOf (m : MatAt G F H O l ls rows) {a : Addr} (h : a ∈ ls) : ∃ vs, H a = some (.lst vs) ∧ F a = none ∧ ¬ O a := by
  obtain ⟨j, hj⟩ := List.getElem?_of_mem h
  have hlt : j < rows.length := by rw [← m.len]; exact (List.getElem?_eq_some_iff.mp hj).1
  obtain ⟨vs, q1, q2, q3, _⟩ := m.row j a rows[j] hj (List.getElem?_eq_getElem hlt)
  exact ⟨vs, q1, q2, q3⟩
theorem MatAt.step (m : MatAt G F H O l ls rows) (s : Stp F H O F' H' O') : MatAt G F' H' O' l ls rows where
  at_ := s.frame _ _ m.at_ m.no
  un := free_of s m.un m.at_ m.no
  no := not_owns_of s m.at_ m.no
  out := m.out
  nd := m.nd
  len := m.len
  row := fun j a row h1 h2 => by
    obtain ⟨vs, q1, q2, q3, q4⟩ := m.row j a row h1 h2
    exact ⟨vs, s.frame _ _ q1 q3, free_of s q2 q1 q3, not_owns_of s q1 q3, IsAll.mono s.fsub row q4⟩
theorem Rel.setMat (r : Rel G F σ H cs) (m : MatAt G F H (Owns cs) l ls rows) : Rel G F (σ.set i (some (.ref l))) H (cs.set i (.mat l ls rows)) where
  sub := r.sub
  len := by rw [List.length_set, List.length_set]; exact r.len
  inj := fun l' a b c1 d1 h1 h2 e1 e2 => by
    have un : ∀ {z : Addr}, Has (.mat l ls rows) z → ¬ Owns cs z := fun {z} h => by
      rcases h with rfl | h
      · exact m.no
      · obtain ⟨_, _, _, q⟩ := m.rowOf h
        exact q
    rcases get_set h1 with ⟨ea, z, _⟩ | ⟨ea, h1⟩
    · rcases get_set h2 with ⟨eb, z2, _⟩ | ⟨eb, h2⟩
      · omega
      · rw [z] at e1
        exact absurd ⟨b, d1, h2, e2⟩ (un e1)
    · rcases get_set h2 with ⟨_, z, _⟩ | ⟨_, h2⟩
      · rw [z] at e2
        exact absurd ⟨a, c1, h1, e1⟩ (un e2)
      · exact r.inj l' a b c1 d1 h1 h2 e1 e2
  cel := fun j c e => by
    rcases get_set e with ⟨rfl, rfl, hi⟩ | ⟨n, e⟩
    · refine ⟨_, by rw [List.getElem?_set_self (by rw [r.len]; exact hi)], rfl, m.at_, m.un, m.out, m.nd, m.len, fun j a row h1 h2 => ?_⟩
      obtain ⟨vs, q1, q2, q3, q4⟩ := m.row j a row h1 h2
      exact ⟨vs, q1, q2, q4⟩
    · obtain ⟨o, e1, q1⟩ := r.cel j c e
      exact ⟨o, by rw [List.getElem?_set_ne n]; exact e1, q1⟩
theorem Rel.mat (r : Rel G F σ H cs) (e : cs[i]? = some (.mat l ls rows)) : σ[i]? = some (some (.ref l)) ∧ H l = some (.lst (ls.map .ref)) ∧ F l = none ∧ l ∉ ls ∧ ls.Nodup ∧ ls.length = rows.length ∧ ∀ (j : Nat) (a : Addr) (row : List D), ls[j]? = some a → rows[j]? = some row → ∃ vs, H a = some (.lst vs) ∧ F a = none ∧ IsAll G F row vs := by
  obtain ⟨o, e1, rfl, q⟩ := r.cel i _ e
  exact ⟨e1, q⟩
/-- an item of a row is written -/
theorem Rel.putMat (r : Rel G F σ H cs) {j : Nat} {a : Addr} {row : List D} {ws : List V} (e : cs[i]? = some (.mat l ls rows)) (ha : ls[j]? = some a) (q : IsAll G F row ws) : Rel G F σ (upd H a (.lst ws)) (cs.set i (.mat l ls (rows.set j row))) ∧ Stp F H (Owns cs) F (upd H a (.lst ws)) (Owns (cs.set i (.mat l ls (rows.set j row)))) := by
  obtain ⟨hs, h1, h2, h3, h4, h5, h6⟩ := r.mat e
  have hm : a ∈ ls := List.mem_of_getElem? ha
  have hja := (List.getElem?_eq_some_iff.mp ha).1
  obtain ⟨vs0, b1, b2, _⟩ := h6 j a (rows[j]'(by omega)) ha (List.getElem?_eq_getElem (by omega))
  have la : l ≠ a := fun z => h3 (z ▸ hm)
  have same : ∀ z, Has (.mat l ls (rows.set j row)) z ↔ Has (.mat l ls rows) z := fun z => Iff.rfl
  have un : ∀ {k : Nat} {c1 : Cell} {z : Addr}, (cs.set i (.mat l ls (rows.set j row)))[k]? = some c1 → Has c1 z → ∃ c2, cs[k]? = some c2 ∧ Has c2 z := fun {k c1 z} h he => by
    rcases get_set h with ⟨rfl, q, _⟩ | ⟨_, h⟩
    · rw [q] at he; exact ⟨_, e, he⟩
    · exact ⟨_, h, he⟩
  refine ⟨⟨fun b o h => ?_, by rw [List.length_set]; exact r.len, fun k c1 e' => ?_, fun l' x y c1 d1 g1 g2 e1 e2 => ?_⟩, ⟨Same.refl F, fun b o h n => ?_, fun _ _ h => .inl h, fun b ⟨k, c1, z1, z2⟩ => ?_, fun b h => ?_⟩⟩
  · rw [upd_ne (fun z => by rw [z, b2] at h; cases h)]
    exact r.sub b o h
  · rcases get_set e' with ⟨rfl, rfl, hi⟩ | ⟨n, e2⟩
    · refine ⟨_, hs, rfl, by rw [upd_ne la]; exact h1, h2, h3, h4, by rw [List.length_set]; exact h5, fun k b rw' g1 g2 => ?_⟩
      by_cases ekj : j = k
      · subst ekj
        rw [ha] at g1
        cases g1
        rw [List.getElem?_set_self (by omega)] at g2
        cases g2
        exact ⟨ws, upd_same, b2, q⟩
      · rw [List.getElem?_set_ne ekj] at g2
        obtain ⟨vs, q1, q2, q3⟩ := h6 k b rw' g1 g2
        have : b ≠ a := fun z => by
          subst z
          obtain ⟨x1, y1⟩ := List.getElem?_eq_some_iff.mp ha
          obtain ⟨x2, y2⟩ := List.getElem?_eq_some_iff.mp g1
          exact ekj ((List.getElem_inj h4).mp (y1.trans y2.symm))
        exact ⟨vs, by rw [upd_ne this]; exact q1, q2, q3⟩
    · obtain ⟨o, e1, q1⟩ := r.cel k c1 e2
      refine ⟨o, e1, q1.mono (Same.refl F) fun l' u' ho a1 a2 => ⟨?_, a2⟩⟩
      have : l' ≠ a := fun z => n (by subst z; exact r.inj _ _ _ _ _ e e2 (.inr hm) ho)
      rw [upd_ne this]
      exact a1
  · obtain ⟨_, g1, e1⟩ := un g1 e1
    obtain ⟨_, g2, e2⟩ := un g2 e2
    exact r.inj l' x y _ _ g1 g2 e1 e2
  · rw [upd_ne (fun z => n (by rw [z]; exact ⟨i, _, e, .inr hm⟩))]
    exact h
  · obtain ⟨c2, g1, g2⟩ := un z1 z2
    exact .inl ⟨k, c2, g1, g2⟩
  · by_cases z : b = a
    · rw [z, upd_same] at h; cases h
    · rw [upd_ne z] at h; exact h
/-- it becomes a value -/
theorem Rel.knowMat (r : Rel G F σ H cs) (e : cs[i]? = some (.mat l ls rows)) : ∃ F', Rel G F' σ H (cs.set i (.val (.lst (rows.map .lst)))) ∧ Stp F H (Owns cs) F' H (Owns (cs.set i (.val (.lst (rows.map .lst))))) ∧ Is G F' (.lst (rows.map .lst)) (.ref l) := by
  classical
  obtain ⟨hs, h1, h2, h3, h4, h5, h6⟩ := r.mat e
  have hrow : ∀ a ∈ ls, F a = none ∧ ∃ vs, H a = some (.lst vs) := fun a ha => by
    obtain ⟨j, hj⟩ := List.getElem?_of_mem ha
    have hlt : j < rows.length := by rw [← h5]; exact (List.getElem?_eq_some_iff.mp hj).1
    obtain ⟨vs, q1, q2, _⟩ := h6 j a rows[j] hj (List.getElem?_eq_getElem hlt)
    exact ⟨q2, vs, q1⟩
  let F' : Hp := fun a => if a = l ∨ a ∈ ls then H a else F a
  have up : Same F F' := fun a o h => by
    show (if a = l ∨ a ∈ ls then H a else F a) = some o
    rw [if_neg]
    · exact h
    · rintro (z | z)
      · rw [z, h2] at h; cases h
      · rw [(hrow a z).1] at h; cases h
  have at1 : ∀ a, a = l ∨ a ∈ ls → F' a = H a := fun a h => if_pos h
  have at2 : ∀ a, ¬ (a = l ∨ a ∈ ls) → F' a = F a := fun a h => if_neg h
  have isl : Is G F' (.lst (rows.map .lst)) (.ref l) := by
    refine ⟨l, ls.map .ref, rfl, by rw [at1 l (.inl rfl)]; exact h1, ?_⟩
    have key : ∀ (n : Nat) (as : List Addr) (rs : List (List D)), as.length = n → rs.length = n → (∀ (j : Nat) (a : Addr) (row : List D), as[j]? = some a → rs[j]? = some row → a ∈ ls ∧ ∃ vs, H a = some (.lst vs) ∧ IsAll G F row vs) → IsAll G F' (rs.map .lst) (as.map .ref) := by
      intro n
      induction n with
      | zero =>
        intro as rs ha hr _
        rw [List.length_eq_zero_iff.mp ha, List.length_eq_zero_iff.mp hr]
        rfl
      | succ n ih =>
        intro as rs ha hr hq
        cases as with
        | nil => cases ha
        | cons a as =>
          cases rs with
          | nil => cases hr
          | cons row rs =>
            obtain ⟨hm, vs, q1, q2⟩ := hq 0 a row rfl rfl
            refine ⟨_, _, rfl, ⟨a, vs, rfl, by rw [at1 a (.inr hm)]; exact q1, IsAll.mono up row q2⟩, ih as rs (by simpa using ha) (by simpa using hr) fun j b rw' g1 g2 => hq (j + 1) b rw' g1 g2⟩
    exact key ls.length ls rows rfl h5.symm fun j a row g1 g2 => by
      obtain ⟨vs, q1, q2, q3⟩ := h6 j a row g1 g2
      exact ⟨List.mem_of_getElem? g1, vs, q1, q3⟩
  refine ⟨F', ⟨fun a o h => ?_, by rw [List.length_set]; exact r.len, fun j c1 e' => ?_, inj_free (fun _ h => h) r⟩, ⟨up, fun _ _ h _ => h, fun a o h => ?_, fun a h => ?_, fun _ h => h⟩, isl⟩
  · by_cases z : a = l ∨ a ∈ ls
    · rw [at1 a z] at h; exact h
    · rw [at2 a z] at h; exact r.sub a o h
  · rcases get_set e' with ⟨rfl, rfl, hi⟩ | ⟨n, e2⟩
    · exact ⟨_, hs, _, rfl, isl⟩
    · obtain ⟨o, e1, q1⟩ := r.cel j c1 e2
      refine ⟨o, e1, q1.mono up fun l' u2 ho a1 a2 => ⟨a1, ?_⟩⟩
      rw [at2 l' fun z => n (r.inj _ _ _ _ _ e e2 z ho)]
      exact a2
  · by_cases z : a = l ∨ a ∈ ls
    · exact .inr (.inr ⟨i, _, e, z⟩)
    · rw [at2 a z] at h; exact .inl h
  · rcases h.set with z | z
    · exact .inl z
    · cases z
end
section
variable {X : Cx} {G : Gx} {e elt tg iter a b : Expr} {pos p1 np sp : Pos} {cs cs1 cs2 cs3 : List Cell} {d x z : D} {row : List D} {rows : List (List D)} {l : Addr} {ls : List Addr} {P : Post} {scope : Scope} {n : Str}
theorem evm_pure {α : Type} {own : List (Str × Nat)} (xs : List α) (enc : α → D) (g : α → List D) (hi : EvI G (rdI X tg iter) cs (xs.map enc) cs1) (hz : xs.length < 10000000)
    (hs : ∀ x ∈ xs, ∃ cs3 tl, (∀ j ∈ tl, j ∈ own.map (·.2)) ∧ (∀ s H C cl fp, EvG G (rdG (Bk X scope s H C cl fp) tg) tl (enc x) (wipeC cs1 (own.map (·.2))) cs3) ∧ (∀ s H C cl fp, EvN G (rdE (Bk X scope s H C cl fp) elt) cs3 (g x) cs3) ∧ restC cs1 cs3 (own.map (·.2)) = cs1) :
    EvM G (tLc (rdI X tg iter) (gU X scope tg) (tU X scope []) (eU X scope elt) (own.map (·.2))) cs (xs.map g) cs1 := fun F σ H Q rl q => by
  refine hi F σ H _ rl fun J F1 H1 st1 r1 it Dl hD => ?_
  have g0 := grow_new (o := .lst []) r1.sub hD
  have hF : F1 Dl = none := by
    cases e : F1 Dl with
    | none => rfl
    | some u => rw [r1.sub Dl u e] at hD; cases hD
  have hH : H Dl = none := st1.back Dl hD
  refine ⟨fun i m H2 => m = xs.length - i ∧ i ≤ xs.length ∧ ∃ F2 ls, Rel G F2 σ H2 cs1 ∧ Stp F1 (upd H1 Dl (.lst [])) (fun a => Owns cs1 a ∨ a = Dl) F2 H2 (fun a => Owns cs1 a ∨ a = Dl) ∧ MatAt G F2 H2 (Owns cs1) Dl ls ((xs.take i).map g) ∧ ∀ a ∈ ls, upd H1 Dl (.lst []) a = none,
    ⟨xs.length, by simp, Nat.zero_le _, F1, [], r1.grow g0, .refl, ⟨upd_same, hF, r1.notOwns hD, by simp, by simp, by simp, by simp⟩, by simp⟩, ?_⟩
  rintro i m H2 ⟨rfl, hi2, F2, ls, r2, st2, mt, fr⟩
  obtain ⟨hgo, hstop⟩ := it F2 H2 st2.fsub r2.sub
  have stAll : Stp F H (Owns cs) F2 H2 (Owns cs1) := by
    refine ⟨st1.fsub.trans st2.fsub, fun a o e n => ?_, fun a o e => ?_, fun a e => ?_, fun a e => ?_⟩
    · have na : a ≠ Dl := fun z => by rw [z, hH] at e; cases e
      have e1 := st1.frame a o e n
      refine st2.frame a o (by rw [upd_ne na]; exact e1) fun z => ?_
      rcases z with z | z
      · rcases st1.own a z with y | y
        · exact n y
        · rw [y] at e; cases e
      · exact na z
    · rcases st2.fresh a o e with z | z | z | z
      · exact st1.fresh a o z
      · have na : a ≠ Dl := fun y => by rw [y, upd_same] at z; cases z
        rw [upd_ne na] at z
        exact .inr (.inl (st1.back a z))
      · rcases st1.own a z with y | y
        · exact .inr (.inr y)
        · exact .inr (.inl y)
      · rw [z, mt.un] at e; cases e
    · rcases st2.own a (.inl e) with (z | z) | z
      · exact st1.own a z
      · exact absurd (z ▸ e) mt.no
      · have na : a ≠ Dl := fun y => by rw [y, upd_same] at z; cases z
        rw [upd_ne na] at z
        exact .inr (st1.back a z)
    · have z := st2.back a e
      have na : a ≠ Dl := fun y => by rw [y, upd_same] at z; cases z
      rw [upd_ne na] at z
      exact st1.back a z
  by_cases hlt : i < xs.length
  · have hx0 : xs[i]? = some xs[i] := List.getElem?_eq_getElem hlt
    obtain ⟨go, yl⟩ := hgo i (enc xs[i]) (by rw [List.getElem?_map, hx0]; rfl)
    refine .inr ⟨go, fun H' => ∃ F2 ls, Rel G F2 σ H' cs1 ∧ Stp F1 (upd H1 Dl (.lst [])) (fun a => Owns cs1 a ∨ a = Dl) F2 H' (fun a => Owns cs1 a ∨ a = Dl) ∧ MatAt G F2 H' (Owns cs1) Dl ls ((xs.take (i + 1)).map g) ∧ ∀ a ∈ ls, upd H1 Dl (.lst []) a = none,
      fun H' z => ⟨xs.length - (i + 1), by omega, rfl, hlt, z⟩, fun x H3 y => ?_⟩
    obtain ⟨F3, gr, q3⟩ := yl x H3 y
    obtain ⟨cs3, tl, htl, hg, he, hre⟩ := hs xs[i] (List.getElem_mem hlt)
    have r3 := r2.grow gr
    obtain ⟨rw3, sw3⟩ := r3.wipe (own.map (·.2))
    intro sA HA CA clA fpA
    refine hg sA HA CA clA fpA F3 (L2.wipe σ (own.map (·.2))) H3 x _ rw3 q3 fun σ3 st3 r4 u3 => ?_
    have hl3 : σ3.length = σ.length := u3.1.trans (wipe_length σ _)
    have out : ∀ j, j ∉ own.map (·.2) → σ3[j]? = (L2.wipe σ (own.map (·.2)))[j]? := fun j hj => u3.2 j fun z => hj (htl j z)
    have outS : ∀ j, j ∉ own.map (·.2) → σ3[j]? = σ[j]? := fun j hj => (out j hj).trans (wipe_get σ _ j hj)
    refine ⟨wipe_same hl3 out, ?_⟩
    intro sB HB CB clB fpB
    refine ets_nil (G := G) (cs := cs3) F3 σ3 H3 _ r4 fun F4 H4 st4 r5 => ?_
    refine iteT ?_
    intro sC HC CC clC fpC
    refine he sC HC CC clC fpC F4 σ3 H4 _ r5 fun p vs F5 H5 st5 r6 p0 p1 p2 p3 p4 => ?_
    have s4 : Stp F2 H2 (Owns cs1) F4 H4 (Owns cs3) := ((gr.stp.trans sw3).trans st3).trans st4
    have s5 := s4.trans st5
    have s6 : Stp F2 H2 (Owns cs1) F5 H5 (Owns cs1) := by
      have := stp_sub s5 (O2 := Owns (restC cs1 cs3 (own.map (·.2)))) fun a => owns_rest
      rw [hre] at this
      exact this
    have r7 : Rel G F5 σ H5 cs1 := by
      have := r2.rest r6 s5.fsub hl3 outS
      rw [hre] at this
      exact this
    have m5 := mt.step s6
    have hp2 : H2 p = none := s4.back p p0
    have no1 : ¬ Owns cs1 p := fun z => p1 (owns_rest (cs2 := cs1) (vs := own.map (·.2)) (by rw [hre]; exact z))
    have nD : p ≠ Dl := fun z => by rw [z, mt.at_] at hp2; cases hp2
    have nls : p ∉ ls := fun z => by
      obtain ⟨vs, q1, _⟩ := mt.rowOf z
      rw [q1] at hp2; cases hp2
    have hlen : ls.length = i := by rw [mt.len, List.length_map, List.length_take]; omega
    refine ⟨ls.map .ref, m5.at_, by rw [List.length_map, hlen]; exact Nat.lt_trans (Nat.lt_trans hlt hz) (by decide), F5, ls ++ [p], r7.updFree m5.un m5.no, (st2.trans s6.plus).trans stp_wr, ?_, ?_⟩
    · have tk : (xs.take (i + 1)).map g = (xs.take i).map g ++ [g xs[i]] := by rw [List.take_add_one, hx0, List.map_append]; rfl
      rw [tk]
      refine ⟨by rw [upd_same, List.map_append]; rfl, m5.un, m5.no, ?_, ?_, by rw [List.length_append, List.length_append, m5.len]; rfl, fun j a row g1 g2 => ?_⟩
      · intro z
        rcases List.mem_append.mp z with z | z
        · exact m5.out z
        · exact nD (List.mem_singleton.mp z).symm
      · refine List.nodup_append.mpr ⟨m5.nd, by simp, fun a ha b hb => ?_⟩
        rw [List.mem_singleton.mp hb]
        exact fun z => nls (z ▸ ha)
      · have hml : ((xs.take i).map g).length = i := by rw [List.length_map, List.length_take]; omega
        by_cases hj : j < i
        · rw [List.getElem?_append_left (by omega)] at g1 g2
          obtain ⟨ws, q1, q2, q3, q4⟩ := m5.row j a row g1 g2
          have : a ≠ Dl := fun z => m5.out (z ▸ List.mem_of_getElem? g1)
          exact ⟨ws, by rw [upd_ne this]; exact q1, q2, q3, q4⟩
        · rw [List.getElem?_append_right (by omega)] at g1 g2
          have hj0 : j - ls.length = 0 := by
            have := (List.getElem?_eq_some_iff.mp g1).1
            simp at this
            omega
          have hj1 : j - ((xs.take i).map g).length = 0 := by omega
          rw [hj0] at g1
          rw [hj1] at g2
          cases g1
          cases g2
          exact ⟨vs, by rw [upd_ne nD]; exact p2, p3, no1, p4⟩
    · intro a ha
      rcases List.mem_append.mp ha with ha | ha
      · exact fr a ha
      · rw [List.mem_singleton.mp ha]
        exact st2.back p hp2
  · have e : i = xs.length := by omega
    subst e
    rw [List.take_length] at mt
    refine .inl ⟨by rw [List.length_map] at hstop; exact hstop, q Dl ls F2 H2 stAll r2 mt hH fun a ha => ?_⟩
    have z := fr a ha
    have na : a ≠ Dl := fun y => mt.out (y ▸ ha)
    rw [upd_ne na] at z
    exact st1.back a z
/-- name = [[..] for ..] on one line -/
theorem sx_setM (i : Nat) {own : List (Str × Nat)} {py spos : Pos} (h : EvM G (tLc (rdI X tg iter) (gU X scope tg) (tU X scope []) (eU X scope elt) (own.map (·.2))) cs rows cs1) (hp : ∀ l ls, P.nx (cs1.set i (.mat l ls rows))) (hc : X.calm = true) (hN : X.N.Nodup) (hy : X.N[i]? = some n) (hyl : X.env.scope.names.lookup n = some .local)
    (hsw : swapsWith (.ListComp elt [⟨tg, iter, [], 0⟩] scope pos) (some (.Name n py)) spos.line X.env = pure true) (ok : BlkOk X.N X.env.scope scope own) (hf : ∀ x, foldedSetIterable iter X.env x = pure x := by intro _; rfl) :
    Sx G (rdS X (.Assign [.Name n py] (.ListComp elt [⟨tg, iter, [], 0⟩] scope pos) spos)) cs P :=
  sx_of (ps_setLc (i := i) (g := gU X scope tg) (tt := tU X scope []) (te := eU X scope elt) hc hN hy hyl hsw pi_rd ok
    (fun s H0 C cl fp => ⟨fun pins t σ H v u Q J r h => h s H0 C cl fp pins t u J r⟩) (fun s H0 C cl fp => ⟨fun pins t σ H Q J h => h s H0 C cl fp pins t J⟩) (fun s H0 C cl fp => ⟨fun pins t σ H Q J h => h s H0 C cl fp pins t J⟩) hf) fun F σ H E rl k1 _ _ _ _ => h F σ H _ rl fun l ls F1 H1 st1 r1 m h0 h0s => by
    refine k1 _ _ F1 H1 (hp l ls) ⟨st1.fsub, st1.frame, st1.fresh, fun a z => ?_, st1.back⟩ (r1.setMat m)
    rcases z.set with z | z
    · exact st1.own a z
    · rcases z with rfl | z
      · exact .inr h0
      · exact .inr (h0s a z)
/-- m[a][b] -/
theorem ev_ixM (i : Nat) {ia ib : Int} {ja jb : Nat} (h0 : cs[i]? = some (.mat l ls rows)) (ha : Ev G (rdE X a) cs (.int ia) cs) (hb : Ev G (rdE X b) cs (.int ib) cs) (e1 : ixN rows.length ia = some ja) (hr : rows[ja]? = some row) (e2 : ixN row.length ib = some jb) (hz : row[jb]? = some z)
    (hN : X.N[i]? = some n) (hv : Vis X.env.scope n) (hs : PlainIx a := by exact fun _ _ => rfl) (hs2 : PlainIx b := by exact fun _ _ => rfl) (hd : (n == ("__debug__" : Str)) = false := by decide) (hcd : (n == ("__classdict__" : Str)) = false := by decide) :
    Ev G (rdE X (.Subscript (.Subscript (.Name n np) a p1) b pos)) cs z cs :=
  ev_of (pe_ix ix_list (pe_ix ix_list (pe_var (i := i) hN hv hd hcd) pe_rd hs) pe_rd hs2) fun F σ H Q rl q => by
    obtain ⟨s1, _⟩ := rl.mat h0
    refine ⟨_, s1, ha F σ H _ rl fun v F1 H1 st1 r1 q1 => ?_⟩
    cases q1
    obtain ⟨_, h1, h2, h3, h4, h5, h6⟩ := r1.mat h0
    have hja := (List.getElem?_eq_some_iff.mp hr).1
    have hla : ls[ja]? = some (ls[ja]'(by omega)) := List.getElem?_eq_getElem (by omega)
    refine ⟨l, ls.map .ref, ia, .ref (ls[ja]'(by omega)), rfl, rfl, SqL.of h1, by rw [atI_get (j := ja) (by rw [List.length_map, h5]; exact e1), List.getElem?_map, hla]; rfl, hb F1 σ H1 _ r1 fun v2 F2 H2 st2 r2 q2 => ?_⟩
    cases q2
    obtain ⟨_, g1, g2, g3, g4, g5, g6⟩ := r2.mat h0
    obtain ⟨vs, b1, b2, b3⟩ := g6 ja _ row hla hr
    obtain ⟨u, c1, c2⟩ := b3.get hz
    exact ⟨_, vs, ib, u, rfl, rfl, SqL.of b1, by rw [atI_get (j := jb) (by rw [b3.length]; exact e2)]; exact c1, q u F2 H2 (st1.trans st2) r2 c2⟩
/-- m[a][b] = e -/
theorem sx_setIxM (i : Nat) {ia ib : Int} {ja jb : Nat} (h0 : cs[i]? = some (.mat l ls rows)) (he : Ev G (rdE X e) cs d cs) (ha : Ev G (rdE X a) cs (.int ia) cs) (hb : Ev G (rdE X b) cs (.int ib) cs) (e1 : ixN rows.length ia = some ja) (hr : rows[ja]? = some row) (e2 : ixN row.length ib = some jb) (hp : P.nx (cs.set i (.mat l ls (rows.set ja (row.set jb d)))))
    (hN : X.N[i]? = some n) (hv : Vis X.env.scope n) (hs0 : PlainIx a := by exact fun _ _ => rfl) (hd : (n == ("__debug__" : Str)) = false := by decide) (hcd : (n == ("__classdict__" : Str)) = false := by decide)
    (hs : swapsWithSole [.Subscript (.Subscript (.Name n np) a p1) b sp] e pos.line X.env = pure false := by rfl) (hw : swappedStores [.Subscript (.Subscript (.Name n np) a p1) b sp] e X.env = pure none := by rfl) (h1' : (assignEach [.Subscript (.Subscript (.Name n np) a p1) b sp] X.env).map (·.2) = [assign (.Subscript (.Subscript (.Name n np) a p1) b sp) X.env] := by rfl)
    (hg : ∀ v, assign (.Subscript (.Subscript (.Name n np) a p1) b sp) X.env v = (do
      let ov ← holding [v] (eval (.Subscript (.Name n np) a p1) X.env)
      let iv ← holding [v, ov] (eval b X.env)
      standAt sp
      holding [v, ov, iv] (setItem ov iv v)
      release [v, ov, iv] []) := by intro _; rfl) :
    Sx G (rdS X (.Assign [.Subscript (.Subscript (.Name n np) a p1) b sp] e pos)) cs P :=
  sx_of (ps_asg pe_rd (pg_sub (pe_ix ix_list (pe_var (i := i) hN hv hd hcd) pe_rd hs0) pe_rd set_list hg) hs hw h1') fun F σ H E rl k1 _ _ _ _ => he F σ H _ rl fun v F0 H0 st0 r0 q0 => by
    obtain ⟨s1, _⟩ := r0.mat h0
    refine ⟨_, s1, ha F0 σ H0 _ r0 fun v F1 H1 st1 r1 q1 => ?_⟩
    cases q1
    obtain ⟨_, h1, h2, h3, h4, h5, h6⟩ := r1.mat h0
    have hja := (List.getElem?_eq_some_iff.mp hr).1
    have hla : ls[ja]? = some (ls[ja]'(by omega)) := List.getElem?_eq_getElem (by omega)
    refine ⟨l, ls.map .ref, ia, .ref (ls[ja]'(by omega)), rfl, rfl, SqL.of h1, by rw [atI_get (j := ja) (by rw [List.length_map, h5]; exact e1), List.getElem?_map, hla]; rfl, hb F1 σ H1 _ r1 fun v2 F2 H2 st2 r2 q2 => ?_⟩
    cases q2
    obtain ⟨_, g1, g2, g3, g4, g5, g6⟩ := r2.mat h0
    obtain ⟨vs, b1, b2, b3⟩ := g6 ja _ row hla hr
    obtain ⟨rp, sp'⟩ := r2.putMat h0 hla (b3.set jb (Is.mono (st1.fsub.trans st2.fsub) d q0))
    exact ⟨_, vs, ib, jb, rfl, rfl, b1, by rw [b3.length]; exact e2, k1 _ σ F2 _ hp (((st0.trans st1).trans st2).trans sp') rp⟩
theorem sx_frzM {ts : TS} (i : Nat) (h : cs[i]? = some (.mat l ls rows)) (q : Sx G ts (cs.set i (.val (.lst (rows.map .lst)))) P) : Sx G ts cs P := fun F σ H E rl k1 k2 k3 k4 k5 => by
  obtain ⟨F', r', st, _⟩ := rl.knowMat h
  exact q _ σ H E r' (k1.after st) (k2.after st) (k3.after st) (k4.after st) (k5.after st)
end
end Fx
/-! Values that are told by what is known of them alone. -/
namespace Fx
open PySem PyProof PyProof.Rows L2
section
variable {X : Cx} {G : Gx} {e a b c elt tg iter : Expr} {es ifs : List Expr} {pos np : Pos} {cs cs' cs1 cs2 : List Cell} {d x z : D} {ds xs : List D} {k : Bool} {l : Addr} {P : Post} {scope : Scope} {n : Str} {R : D → List Cell → Prop} {RN : List D → List Cell → Prop}
theorem ev_lenScr {ns : List Int} {p : Pos} (ha : Ev G (rdE X e) cs (.scr ns) cs1) (hm : X.mg "len" = none) (hg : Gl X "len") (hK : G.K = X.K := by rfl) (hs : starEach [e] X.env = (false, eval e X.env) :: starEach [] X.env := by rfl) :
    Ev G (rdE X (.Call (.Name "len" p) [e] [] pos)) cs (.int (ns.length : Int)) cs1 :=
  ev_callB call_len_seq (fun F H vs Q sm h q => by
    obtain ⟨v, r, rfl, ⟨a, rfl, h1⟩, h2⟩ := h
    cases h2
    refine ⟨a, _, rfl, .inl (by rw [← hK]; exact same_l sm h1), ?_⟩
    rw [List.length_map]
    exact q _ F H (.refl sm) rfl) (evv_cons ha evv_nil hs) hg hm boot_len (by decide) (by decide) hs (by rfl)
theorem ei_is {its its' : List D} (h : EvI G (rdI X tg iter) cs its cs1) (e : its = its') : EvI G (rdI X tg iter) cs its' cs1 := e ▸ h
theorem ints_vals {F : Hp} : ∀ {ns : List Int} {vs : List V}, IsAll G F (ns.map D.int) vs → vs = ns.map V.int
  | [], _, h => h
  | y :: ys, _, h => by
    obtain ⟨v, r, rfl, h1, h2⟩ := h
    cases h1
    rw [ints_vals h2]; rfl
theorem inV_ints (i : Int) : ∀ ns : List Int, inV (.int i) (ns.map V.int) = ns.any fun y => y == i
  | [] => rfl
  | y :: ns => by
    show (eqV (.int y) (.int i) || inV (.int i) (ns.map V.int)) = _
    rw [inV_ints i ns]; rfl
theorem flat_ints : ∀ ns : List Int, (ns.map V.int).all flatV = true
  | [] => rfl
  | y :: ns => by
    rw [List.map_cons, List.all_cons, flat_ints ns]; rfl
theorem c_inTi {ns : List Int} {i : Int} (hK : G.K = X.K := by rfl) : CmpJ G X .In (.int i) (.tup (ns.map .int)) (ns.any fun y => y == i) := ⟨_, op_in_seq, fun F H v w Q sm h1 h2 q => by
  cases h1
  obtain ⟨a, vs, rfl, h3, h4⟩ := h2
  rw [ints_vals h4] at h3
  rw [hK] at h3
  refine ⟨a, _, rfl, .inr (same_t sm h3), rfl, flat_ints ns, ?_⟩
  show Q (.bl (inV (.int i) (ns.map V.int))) H
  rw [inV_ints]
  exact q _ F H (.refl sm) rfl⟩
theorem sx_cut {st : Stmt} {sts : List Stmt} (K : List Cell → Prop) (h : Sx G (rdS X st) cs { P with nx := K }) (k : ∀ cs', K cs' → Sx G (rdSs X sts) cs' P) : Sx G (rdSs X (st :: sts)) cs P :=
  sx_cons (sx_post h k (fun _ _ h => h) (fun _ _ h => h) (fun _ h => h) (fun _ h => h))
/-- a, b = two values, both names local -/
theorem sx_parVV (i j : Nat) {n m : Str} {y : D} {px py pt : Pos} {kt k2 pt2} (ha : Ev G (rdE X a) cs x cs1) (hb : Ev G (rdE X b) cs1 y cs2) (hp : P.nx ((cs2.set i (.val x)).set j (.val y)))
    (hpar : ∀ {ta : TA}, PA X [a, b] ta → PS X (.Assign [.Tuple [.Name n px, .Name m py] kt pt] (.Tuple [a, b] k2 pt2) pos) (tPar i j ta)) (hs : starEach [a, b] X.env = (false, eval a X.env) :: starEach [b] X.env := by rfl) (hs2 : starEach [b] X.env = (false, eval b X.env) :: starEach [] X.env := by rfl) :
    Sx G (rdS X (.Assign [.Tuple [.Name n px, .Name m py] kt pt] (.Tuple [a, b] k2 pt2) pos)) cs P :=
  sx_of (hpar (pa_cons pe_rd (pa_cons pe_rd pa_nil hs2) hs)) fun F σ H E rl k1 _ _ _ _ => ha F σ H _ rl fun v F1 H1 st1 r1 q1 => hb F1 σ H1 _ r1 fun v' F2 H2 st2 r2 q2 =>
    ⟨v, v', rfl, k1 _ _ F2 H2 hp (((st1.trans st2).trans (Rel.stp_val i x)).trans (Rel.stp_val j y)) ((r2.setVal (Is.mono st2.fsub x q1)).setVal q2)⟩
theorem evr_of {te : TE} (h : PE X e te) (q : EvR G te cs R) : EvR G (rdE X e) cs R := fun F σ H Q rl kk pins s I => h.run pins s σ H Q I (q F σ H Q rl kk)
theorem evnr_of {te : TE} (h : PE X e te) (q : EvNR G te cs RN) : EvNR G (rdE X e) cs RN := fun F σ H Q rl kk pins s I => h.run pins s σ H Q I (q F σ H Q rl kk)
theorem evr_ev {te : TE} (h : Ev G te cs d cs1) (hR : R d cs1) : EvR G te cs R := fun F σ H Q rl q => h F σ H Q rl fun v F' H' st r i => q d cs1 v F' H' hR st r i
theorem EvR.mono {te : TE} {R' : D → List Cell → Prop} (h : EvR G te cs R) (hR : ∀ d c, R d c → R' d c) : EvR G te cs R' := fun F σ H Q rl q => h F σ H Q rl fun d cs' v F' H' r => q d cs' v F' H' (hR d cs' r)
theorem evnr_lc {own : List (Str × Nat)} (h : EvNR G (tLc (rdI X tg iter) (gU X scope tg) (tU X scope ifs) (eU X scope elt) (own.map (·.2))) cs RN) (hc : X.calm = true) (hN : X.N.Nodup) (ok : BlkOk X.N X.env.scope scope own) (hf : ∀ x, foldedSetIterable iter X.env x = pure x := by intro _; rfl) :
    EvNR G (rdE X (.ListComp elt [⟨tg, iter, ifs, 0⟩] scope pos)) cs RN :=
  evnr_of (pe_lc (g := gU X scope tg) (tt := tU X scope ifs) (te := eU X scope elt) hc hN pi_rd ok
    (fun s H0 C cl fp => ⟨fun pins t σ H v u Q J r h => h s H0 C cl fp pins t u J r⟩) (fun s H0 C cl fp => ⟨fun pins t σ H Q J h => h s H0 C cl fp pins t J⟩) (fun s H0 C cl fp => ⟨fun pins t σ H Q J h => h s H0 C cl fp pins t J⟩) hf) h
/-! ### statements -/
theorem sx_setR (i : Nat) (h : EvR G (rdE X e) cs R) (hp : ∀ d cs1, R d cs1 → P.nx (cs1.set i (.val d))) (hN : X.N.Nodup) (hi : X.N[i]? = some n) (hx : Loc X.env.scope n) (hf : X.fn n = true ∨ X.env.scope.names.lookup n = some .local) (hs : swapsWith e (some (.Name n np)) pos.line X.env = pure false := by rfl) :
    Sx G (rdS X (.Assign [.Name n np] e pos)) cs P :=
  sx_of (ps_set (i := i) hN hi hx pe_rd hs hf) fun F σ H E rl k1 _ _ _ _ => h F σ H _ rl fun d cs1 v F1 H1 hR st1 r1 q1 => k1 _ _ F1 H1 (hp d cs1 hR) (st1.trans (Rel.stp_val i d)) (r1.setVal q1)
theorem sx_setNR (i : Nat) (h : EvNR G (rdE X e) cs RN) (hp : ∀ ds cs1 l, RN ds cs1 → P.nx (cs1.set i (.own l ds))) (hN : X.N.Nodup) (hi : X.N[i]? = some n) (hx : Loc X.env.scope n) (hf : X.fn n = true ∨ X.env.scope.names.lookup n = some .local) (hs : swapsWith e (some (.Name n np)) pos.line X.env = pure false := by rfl) :
    Sx G (rdS X (.Assign [.Name n np] e pos)) cs P :=
  sx_of (ps_set (i := i) hN hi hx pe_rd hs hf) fun F σ H E rl k1 _ _ _ _ => h F σ H _ rl fun ds cs1 p vs F1 H1 hR st1 r1 q0 q1 q2 q3 q4 => by
    obtain ⟨st2, r2⟩ := set_own (i := i) st1 r1 q0 q1 q2 q3 q4
    exact k1 _ _ F1 H1 (hp ds cs1 p hR) st2 r2
theorem sx_retR (h : EvR G (rdE X e) cs R) (hp : ∀ d cs1, R d cs1 → P.rt d cs1) : Sx G (rdS X (.Return (some e) pos)) cs P :=
  sx_of (ps_ret pe_rd) fun F σ H E rl _ k2 _ _ _ => h F σ H _ rl fun d cs1 v F1 H1 hR st1 r1 q1 => k2 d cs1 σ F1 H1 v (hp d cs1 hR) st1 r1 q1
end
/-! ### defs -/
/-- a def whose first argument is a list that it changes: C what it needs, R what it leaves -/
def sp1R (G : Gx) (C : List D → List D → Prop) (R : List D → List D → D → List D → Prop) : Sp := fun vs H Q _ => ∃ F l pv us ps ds, Same F H ∧ vs = .ref l :: us ∧ H l = some (.lst pv) ∧ F l = none ∧ IsAll G F ps pv ∧ IsAll G F ds us ∧ C ps ds ∧ ∀ d ps', R ps ds d ps' → RetP G F H l (.val d) ps' Q
def Fn1R (G : Gx) (P : Program) (w : World) (mg : Str → Option Value) (base : Heap) (k : Nat) (n : Str) (C : List D → List D → Prop) (R : List D → List D → D → List D → Prop) : Prop := ∃ f, mg n = some (.ref f) ∧ PySem.W.keepIn G.K (.ref f) = true ∧ FnR P w G.K mg base CX0 k f (sp1R G C R)
section
variable {P : Program} {w : World} {G : Gx} {mg : Str → Option Value} {base : Heap} {x qual : Str} {st : Stmt} {f : Addr} {fd : FuncData} {N ps : List Str} {k : Nat}
theorem fn1R {C : List D → List D → Prop} {R : List D → List D → D → List D → Prop} (F : L2.Fun G.K x qual st f fd) (S : FnScope N ps (defScope st)) (hb : Binds G.K fd ps []) (hl : ∀ qs ds, C qs ds → ds.length + 1 = ps.length) (hN : ps.length ≤ N.length)
    (body : ∀ cdv A outer s H E, Room k (cx0 P w G.K mg base N qual st f cdv A outer s H E).A → ∀ l qs ds, C qs ds → Sx G (rdSs (cx0 P w G.K mg base N qual st f cdv A outer s H E) (defBody st)) (.own l qs :: (vals ds ++ nos (N.length - ps.length))) { nx := fun _ => False, rt := fun d cs => ∃ qs', R qs ds d qs' ∧ cs[0]? = some (.own l qs') }) :
    FnR P w G.K mg base CX0 (k + 1) f (sp1R G C R) := by
  have hlen : ∀ vs H Q E, sp1R G C R vs H Q E → vs.length = ps.length := fun vs H Q E ⟨F, l, pv, us, qs, ds, _, e, _, _, _, h, c, _⟩ => by rw [e, List.length_cons, h.length]; exact hl _ _ c
  have K1 : FnOk P w G.K mg base CX0 (k + 1) f fd ps (sp1R G C R) := by
    refine F.ok S hlen fun cdv A outer s H vs Q E hr hsp => ?_
    obtain ⟨F0, l, pv, us, qs, ds, sm, rfl, h1, h2, hp, h, c, ret⟩ := hsp
    refine ⟨_, pss_rd, ?_⟩
    have hdl := hl qs ds c
    have rl := rel_start1 (N := N) sm h1 h2 hp h (by omega)
    rw [hdl] at rl
    have ne : H l ≠ none := by rw [h1]; intro z; cases z
    refine body cdv A outer s H E hr l qs ds c F0 _ H _ rl (fun cs' σ' F' H' hp => hp.elim) ?_ (fun _ _ _ _ _ _ _ hp => hp.elim) (fun _ _ _ _ hp => hp.elim) (fun _ _ _ _ hp => hp.elim)
    intro d cs' σ' F' H' v hp st r q
    obtain ⟨qs', hR, e2⟩ := hp
    obtain ⟨pv', _, a1, a2, a3⟩ := r.own e2
    exact ret d qs' hR v F' H' pv' (stp_pen st ne) r.sub a1 a2 a3 q
  have := K1.raw hb (dvs := []) .nil
  intro A outer s H us vs Q E hr e0 r hsp
  exact this A outer s H us vs Q E hr e0 r (by show _; simpa using hsp)
end
section
variable {X : Cx} {G : Gx} {e : Expr} {es : List Expr} {np pos : Pos} {n : Str} {cs cs1 : List Cell} {ds qs : List D} {l : Addr} {j k : Nat}
theorem evr_fn1 {C : List D → List D → Prop} {R : List D → List D → D → List D → Prop} (i : Nat) (Fn : Fn1R G X.prog X.w X.mg X.base k n C R) (hr : Room j X.A) (hk : k ≤ j) (ha : EvP G (rdA X (e :: es)) cs l ds cs1) (hi : cs1[i]? = some (.own l qs)) (hC : C qs ds) (hg : Gl X n) (hK : G.K = X.K := by rfl) (hd : (n == ("__debug__" : Str)) = false := by decide)
    (he : starEach (e :: es) X.env = (false, eval e X.env) :: starEach es X.env := by rfl) (hpl : (backTo pos (starEach es X.env)).any (·.1) = false := by rfl) : EvR G (rdE X (.Call (.Name n np) (e :: es) [] pos)) cs fun d c => ∃ qs', R qs ds d qs' ∧ c = cs1.set i (.own l qs') := by
  obtain ⟨f, hm, kp, F⟩ := Fn
  rw [hK] at kp F
  refine evr_of (pe_callR F (hr.mono hk) kp hg hm pass0 pa_rd hd he hpl) fun F σ H Q rl q => ha F σ H _ rl fun vs F1 H1 st1 r1 q1 => ?_
  obtain ⟨pv, _, a1, a2, a3⟩ := r1.own hi
  refine ⟨F1, l, pv, vs, qs, ds, r1.sub, rfl, a1, a2, a3, q1, hC, fun d qs' hR v F2 H2 pv' st2 s2 h1 h2 h3 h4 => ?_⟩
  obtain ⟨r2, s3⟩ := pen_back r1 hi st2 s2 h1 h2 h3
  exact q d _ v F2 H2 ⟨qs', hR, rfl⟩ (st1.trans s3) r2 h4
end
end Fx
/-! repr of data; contracts of defs that are called where nothing is being shown. -/
namespace Fx
open PySem L2
section
variable {X : Cx} {G : Gx} {e : Expr} {pos : Pos} {cs cs1 : List Cell} {x : D}
def rRep (K : PySem.W.Frag) : List V → Hp → VK → Prop := fun vs H Q => ∃ y d, vs = [y] ∧ Dp K H y d ∧ d.showable = true ∧ d.hasDict = false ∧ d.depth ≤ 64 ∧ d.shown.length ≤ sizeLine ∧ Q (.str d.shown) H
theorem cr_repr (hg : X.A.guards = some []) (hu : X.A.units + 65 < cLine) : CallR X (.builtin "repr") (rRep X.K) := by
  intro pins s σ H vs us Q I r h
  obtain ⟨y, d, rfl, hd, hs, hk, hdp, hz, q⟩ := h
  cases r with
  | cons ry rt =>
    cases rt
    obtain ⟨as, rd⟩ := Dp.reads I d y _ hd ry
    have big : ∀ a, y = .ref a → wpAny (model X.prog X.w) X.A (call (.builtin "repr") [.ref a]) (EP X pins σ Q) X.xe s := fun a e => by
      subst e
      cases ry
      exact repr_of_reads' rd hs (fun z => by rw [hk] at z; cases z) hg (by omega) (fun _ _ z => z) (fun h' u tk kp => ⟨.str _, H, I.kept kp, ⟨_, rfl⟩, q⟩) hz
    cases hd with
    | non => cases ry; exact PySem.P.repr_of_none ⟨.str _, H, I.tok _, ⟨_, rfl⟩, q⟩
    | bl b => cases ry; exact PySem.P.repr_of_bool ⟨.str _, H, I.tok _, ⟨_, rfl⟩, q⟩
    | int i =>
      obtain ⟨t, rfl⟩ := ry
      exact PySem.P.repr_of_int (of_decide_eq_true hs) ⟨.str _, H, I.tok _, ⟨_, rfl⟩, q⟩
    | str z =>
      obtain ⟨t, rfl⟩ := ry
      exact PySem.P.repr_of_str ⟨.str _, H, I.tok _, ⟨_, rfl⟩, q⟩ hz
    | tup h1 h2 =>
      have := big _ rfl
      cases ry
      exact this
    | lst h1 h2 =>
      have := big _ rfl
      cases ry
      exact this
/-- what repr serves -/
structure Shows (x : D) : Prop where
  pl : plain x = true
  sh : (toPy x).showable = true
  nd : (toPy x).hasDict = false
  dp : deep x ≤ 64
  sz : (toPy x).shown.length ≤ sizeLine
theorem ev_repr {np : Pos} (sx : Shows x) (ha : Ev G (rdE X e) cs x cs1) (hg : X.A.guards = some []) (hu : X.A.units + 65 < cLine) (hm : X.mg "repr" = none) (gl : Gl X "repr") (hK : G.K = X.K := by rfl) (hs : starEach [e] X.env = (false, eval e X.env) :: starEach [] X.env := by rfl) (hpl : (backTo pos (starEach [] X.env)).any (·.1) = false := by rfl) :
    Ev G (rdE X (.Call (.Name "repr" np) [e] [] pos)) cs (.str (toPy x).shown) cs1 :=
  ev_callB (cr_repr hg hu) (fun F H vs Q sm h1 q => by
    obtain ⟨v, r, rfl, hv, hr⟩ := h1
    cases hr
    have d1 := dp_of sm x v hv sx.pl
    rw [hK] at d1
    exact ⟨v, toPy x, rfl, d1, sx.sh, sx.nd, Nat.le_trans (depth_of x) sx.dp, sx.sz, q _ F H (.refl sm) rfl⟩) (evv_cons ha evv_nil hs) gl hm (by rfl) (by decide) (by decide) hs hpl
end
/-! ### defs called where nothing is being shown -/
def FnG (P : Program) (w : World) (K : PySem.W.Frag) (mg : Str → Option Value) (base : Heap) (k : Nat) (f : Addr) (sp : Sp) : Prop :=
  ∀ (A : Around) (outer : List Env) (s : Shared) (H : Hp) (us : List Value) (vs : List V) (Q : VK) (E : XK), A.guards = some [] → Room k A → Env0 P w K mg base A outer s H → Vals vs us → sp vs H Q E →
    codeAny (model P w) A (.call (.ref f) ⟨us, []⟩) (CR CX0 outer P w H s Q E) s
def Fn0G (G : Gx) (P : Program) (w : World) (mg : Str → Option Value) (base : Heap) (k : Nat) (n : Str) (C : List D → Out → Prop) : Prop := ∃ f, mg n = some (.ref f) ∧ PySem.W.keepIn G.K (.ref f) = true ∧ FnG P w G.K mg base k f (sp0 G C)
section
variable {P : Program} {w : World} {G : Gx} {mg : Str → Option Value} {base : Heap} {x qual : Str} {st : Stmt} {f : Addr} {fd : FuncData} {N ps : List Str} {k : Nat}
theorem fnG_of {sp : Sp} (Fu : L2.Fun G.K x qual st f fd) (S : FnScope N ps (defScope st)) (bi : Binds G.K fd ps []) (ln : ∀ vs H Q E, sp vs H Q E → vs.length = ps.length)
    (bd : ∀ cdv A outer s H vs Q E, Room k (cx0 P w G.K mg base N qual st f cdv A outer s H E).A → A.guards = some [] → sp vs H Q E →
      rdSs (cx0 P w G.K mg base N qual st f cdv A outer s H E) (defBody st) { nx := fun _ H' => Q .non H', rt := Q } (start N vs) H) : FnG P w G.K mg base (k + 1) f sp := by
  obtain ⟨oc, od, kV, doc, pm, an, cdv, ct, osl, rfl, lk, hc⟩ := Fu.ex
  intro A outer s H us vs Q E gd room env rv want
  have n1 := ln vs H Q E want
  have inn : ∀ b o, base.get? b = some o → s.heap.get? b = some o := fun b o z => (env.bs b o z).1
  have KX := env.mod.kin.keeps inn
  have n2 : (us ++ []).length = ps.length := by
    rw [List.append_nil, ← rv.length]
    exact n1
  have bt := bi s us KX n2
  rw [List.append_nil] at bt
  have kinds : ∀ y ∈ ps.zip us, (defScope st).names.lookup y.1 = some .local ∨ ((defScope st).names.lookup y.1 = some .cell ∧ ((cellsFrom (s.heap.objs.size + 1) (defScope st).names []).lookup y.1).isSome = true) := by
    intro ⟨n, v⟩ hy
    refine (S.par n (List.of_mem_zip hy).1).imp id fun q => ?_
    exact ⟨q, PySem.W.cellsFrom_some _ _ _ (.inl q)⟩
  refine codeAny_call_function room.depth (KX _ _ lk) rfl S.co S.gen rfl (PySem.W.codeRec_of KX hc) (bt _ _ _ _ ?_)
  refine wpAny_newFunctionEnv_cells S.kind kinds fun en he s1 xx => ?_
  subst he
  refine ⟨(env.mod.nolimit.keeps inn).keeps xx.toInCall.keep, codeAny_func ?_⟩
  have I0 := inv_start (CX := CX0) (E := E) S room.hd env n1 rv xx
  have body := pss_rd.nox.run [] s1 (start N vs) H _ I0 (bd cdv A outer s H vs Q E (room.deeper _) gd want)
  refine wpAny_mono body (fun fl s2 z => ?_) fun _ _ z => z
  cases fl with
  | brk =>
    obtain ⟨_, _, _, z⟩ := z
    exact z.elim
  | cont =>
    obtain ⟨_, _, _, z⟩ := z
    exact z.elim
  | next =>
    obtain ⟨_, H2, J, z⟩ := z
    exact ⟨V.non, H2, J.os, J.bare, J.base, J.hok, rfl, z⟩
  | ret u =>
    obtain ⟨v, _, H2, J, rr, z⟩ := z
    exact ⟨v, H2, J.os, J.bare, J.base, J.hok, rr, z⟩
theorem fn0G {C : List D → Out → Prop} (F : L2.Fun G.K x qual st f fd) (S : FnScope N ps (defScope st)) (hb : Binds G.K fd ps []) (hl : ∀ ds o, C ds o → ds.length = ps.length) (hN : ps.length ≤ N.length)
    (body : ∀ cdv A outer s H E, Room k (cx0 P w G.K mg base N qual st f cdv A outer s H E).A → (cx0 P w G.K mg base N qual st f cdv A outer s H E).A.guards = some [] → ∀ ds o, C ds o → Sx G (rdSs (cx0 P w G.K mg base N qual st f cdv A outer s H E) (defBody st)) (vals ds ++ nos (N.length - ps.length)) (post0 o)) :
    FnG P w G.K mg base (k + 1) f (sp0 G C) := by
  refine fnG_of F S hb (fun vs H Q E ⟨F, ds, o, _, h, c, _⟩ => h.length.trans (hl ds o c)) fun cdv A outer s H vs Q E hr gd hsp => ?_
  obtain ⟨F0, ds, o, sm, h, c, ret⟩ := hsp
  have hdl := hl ds o c
  have rl := rel_start (N := N) sm h (by omega)
  rw [hdl] at rl
  have no : ∀ a, ¬ Owns (vals ds ++ nos (N.length - ps.length)) a := fun a => owns_start
  refine body cdv A outer s H E hr gd ds o c F0 _ H _ rl ?_ ?_ ?_ (fun cs' σ' F' H' hp => ?_) (fun cs' σ' F' H' hp => ?_)
  · intro cs' σ' F' H' hp st r
    cases o with
    | val d =>
      have e : d = .non := hp
      subst e
      exact ret .non F' H' (grow_of st no r.sub) rfl
    | new es => exact False.elim hp
  · intro d cs' σ' F' H' v hp st r q
    cases o with
    | val d' =>
      have e : d = d' := hp
      subst e
      exact ret v F' H' (grow_of st no r.sub) q
    | new es => exact False.elim hp
  · intro es cs' σ' F' H' p vs' hp st r q0 q1 q2 q3 q4
    cases o with
    | val d' => exact False.elim hp
    | new es' =>
      have e : es = es' := hp
      subst e
      exact ret p vs' F' H' (grow_of st no r.sub) (q0.elim id fun z => absurd z (no p)) q2 q3 q4
  · cases o <;> exact False.elim hp
  · cases o <;> exact False.elim hp
end
section
variable {X : Cx} {G : Gx} {e : Expr} {es : List Expr} {np pos : Pos} {n : Str} {cs cs1 : List Cell} {d : D} {ds : List D} {j k : Nat}
theorem ev_fn0G {C : List D → Out → Prop} (Fn : Fn0G G X.prog X.w X.mg X.base k n C) (gd : X.A.guards = some []) (hr : Room j X.A) (hk : k ≤ j) (ha : EvV G (rdA X (e :: es)) cs ds cs1) (hC : C ds (.val d)) (hg : Gl X n) (hK : G.K = X.K := by rfl) (hd : (n == ("__debug__" : Str)) = false := by decide)
    (he : starEach (e :: es) X.env = (false, eval e X.env) :: starEach es X.env := by rfl) (hpl : (backTo pos (starEach es X.env)).any (·.1) = false := by rfl) : Ev G (rdE X (.Call (.Name n np) (e :: es) [] pos)) cs d cs1 := by
  obtain ⟨f, hm, kp, F⟩ := Fn
  rw [hK] at kp F
  -- a promise at this very place
  have pe : PE X (.Call (.Name n np) (e :: es) [] pos) (fun σ H Q => rdA X (e :: es) σ H fun vs H1 => sp0 G C vs H1 Q E0) := by
    refine ⟨fun pins s σ H Q I h => ?_⟩
    refine wpAny_Call_Name_kw (ld_glob I hg hm ?_ hd)
    refine PySem.W.callWith_K (h₀ := X.base) I.ok.mod.kin kp (thn (pa_rd.run pos pins s σ H _ I h) fun us s1 ⟨vs, H1, I1, r, q⟩ => ⟨I1.kIn, ?_⟩) he hpl
    refine wpAny_call (codeAny_mono (F X.A X.stack s1 H1 us vs Q E0 gd (hr.mono hk) I1.env0 r q) fun r s2 z => ?_)
    cases r with
    | error _ => exact z.elim
    | ok fl =>
      cases fl with
      | ret u => exact I1.after z
      | next => exact z.elim
      | brk => exact z.elim
      | cont => exact z.elim
  refine ev_of pe fun F σ H Q rl q => ha F σ H _ rl fun vs F1 H1 st1 r1 q1 => ?_
  exact ⟨F1, ds, .val d, r1.sub, q1, hC, fun v F2 H2 g q2 => q v F2 H2 (st1.trans g.stp) (r1.grow g) q2⟩
end
end Fx
/-! The law's end for a promise that holds where nothing is being shown. -/
namespace Fx
open PySem L2 PySem.Spec PyProof.Rows
section
variable {P : Program} {w : World} {K : PySem.W.Frag} {mg mb : Str → Option Value} {k : Nat} {fa a : Addr} {sp : Sp} {s₁ : Shared} {vs : List Value} {ns : List Int}
theorem law_endG (KX : K.In s₁.heap) (g0 : s₁.heap.Ns mainGlobals mg) (b0 : s₁.heap.Ns builtinsNs mb) (bb : ∀ x : Str, x ≠ "__name__" → mb x = bootBuiltins x) (nl : s₁.heap.NoLimit) (gens : s₁.gens = #[])
    (at_ : s₁.heap.get? a = some { cls := .type "list", data := .seq vs.toArray }) (isI : IntsAre vs ns) (few : ns.length ≤ sizeLine) (room : Room k callerA)
    (F : ∀ base : Heap, FnG P w K mg base k fa sp)
    (want : ∀ H : Hp, SqL K H a (ns.map V.int) → sp [.ref a] H (fun v _ => v = .bl true) fun _ _ _ => False) :
    codeAny (model P w) callerA (.call (.ref fa) ⟨[.ref a], []⟩) (fun r s' => r = .ok (.ret (.bool true)) ∧ OldK s₁.heap s'.heap ∧ s'.os = s₁.os ∧ AllBare s'.gens) s₁ := by
  have rv := vals_ints isI
  have ln := isI.length
  -- nothing but the script is tracked in H
  have go : ∀ H : Hp, (∀ b, H b = none ∨ ∃ o xs, H b = some (.frz o (.lst xs))) → SqL K H a (ns.map V.int) → HOk P w H s₁.heap → (∀ b, b ≠ a → H b = none) → (K.lookup a ≠ none → H a = none) →
      codeAny (model P w) callerA (.call (.ref fa) ⟨[.ref a], []⟩) (fun r s' => r = .ok (.ret (.bool true)) ∧ OldK s₁.heap s'.heap ∧ s'.os = s₁.os ∧ AllBare s'.gens) s₁ := by
    intro H hO hS hok hA hK
    have free : ∀ {b : Addr} {o : Obj} {es : Array DictEntry} {ep : Nat}, s₁.heap.get? b = some o → o.data = .dict es ep → H b = none := by
      intro b o es ep e d
      by_cases z : b = a
      · subst z
        rw [at_] at e
        cases e
        have d' : Data.seq vs.toArray _ = Data.dict es ep := d
        cases d'
      · exact hA b z
    have nsp : ∀ {b : Addr} {m : Str → Option Value}, s₁.heap.Ns b m → (hidT s₁.heap H).Ns b m := by
      rintro b m ⟨o, es, ep, e, d, r⟩
      exact ⟨o, es, ep, hidT_get e (free e d), d, r⟩
    have kin : K.In (hidT s₁.heap H) := by
      intro b o e
      refine hidT_get (KX b o e) ?_
      by_cases z : b = a
      · subst z
        exact hK (by rw [e]; intro y; cases y)
      · exact hA b z
    have md : Mod K mg (hidT s₁.heap H) := ⟨kin, nsp g0, ⟨mb, nsp b0, bb⟩, by
      obtain ⟨mc, h1, h2⟩ := nl
      exact ⟨mc, nsp h1, h2⟩⟩
    have en : Env0 P w K mg (hidT s₁.heap H) callerA [] s₁ H := by
      refine ⟨rfl, md, fun b o e => of_hidT e, Nat.le_of_eq (hidT_size _ _), trivial, fun b hb => ?_, hok, .of_eq gens⟩
      exact absurd (show b ∈ ([] : List Addr) from hb) (by simp)
    refine codeAny_mono (F (hidT s₁.heap H) callerA [] s₁ H [.ref a] [.ref a] _ _ rfl room en (.cons rfl .nil) (want H hS)) fun r s' h => ?_
    cases r with
    | error e => exact False.elim h
    | ok fl =>
      cases fl with
      | next => exact False.elim h
      | brk => exact False.elim h
      | cont => exact False.elim h
      | ret u =>
        obtain ⟨v, H', os, bare, un, ok2, r', q⟩ := h
        have q' : v = .bl true := q
        subst q'
        obtain rfl : u = Value.bool true := r'
        refine ⟨rfl, OldK.of_keep fun b o e => ?_, os, bare⟩
        rcases hO b with z | ⟨ob, xs, z⟩
        · refine un.keep b o e z ?_ (by simp)
          intro y
          exact absurd (show b ∈ ([] : List Addr) from y) (by simp)
        · have e1 := (hok b _ z).1
          have e2 := (ok2 b _ (un.frzs b ob _ z)).1
          rw [e] at e1
          cases e1
          exact e2
  cases hk : K.lookup a with
  | some o =>
    have e := KX a o hk
    rw [at_] at e
    cases e
    refine go (fun _ => none) (fun _ => .inl rfl) (.inr ⟨_, vs.toArray, _, hk, rfl, rfl, rfl, ?_, by simpa using rv⟩) (fun b u z => ?_) (fun _ _ => rfl) fun _ => rfl
    · rw [List.size_toArray, ln]
      exact few
    · have z' : (none : Option HO) = some u := z
      cases z'
  | none =>
    let o : Obj := { cls := .type "list", data := .seq vs.toArray }
    have e1 : (upd (fun _ => none) a (HO.frz o (.lst (ns.map V.int))) : Hp) a = some (.frz o (.lst (ns.map V.int))) := upd_same
    refine go (upd (fun _ => none) a (.frz o (.lst (ns.map V.int)))) (fun b => ?_) (.inl (.inr ⟨o, e1⟩)) (fun b u z => ?_) (fun b z => upd_ne z) fun z => absurd hk z
    · by_cases y : b = a
      · subst y
        exact .inr ⟨o, _, e1⟩
      · exact .inl (upd_ne y)
    · by_cases y : b = a
      · subst y
        rw [e1] at z
        cases z
        exact ⟨at_, by rw [List.length_map]; exact few, vs, _, rv, at_⟩
      · rw [upd_ne y] at z
        cases z
theorem walk_G {l : PySem.W.OpenLaw} {n k : Nat} {q : Program} {loose : List Str} {XP : (Str → Option Value) → Heap → Prop} {YP : World → Heap → Prop} {d : DefRec} (hn : l.most = some n) (hn2 : n ≤ sizeLine) (hdf : d.params.defaults = []) (hr : Room k callerA)
    (F : ∀ (w : World) (mg : Str → Option Value) (fa : Addr) (h : Heap), YP w h → h.Ns mainGlobals mg → mg d.name = some (.ref fa) →
      ∃ (K : PySem.W.Frag) (sp : Sp), K.In h ∧ (∀ (H : Hp) (a : Addr) (ns : List Int), ns.length ≤ n → SqL K H a (ns.map V.int) → sp [.ref a] H (fun v _ => v = .bl true) fun _ _ _ => False) ∧ ∀ base : Heap, FnG l.prog w K mg base k fa sp) :
    PySem.W.WalkO q loose XP YP l.row.toRowW d [] (fun f vs => PySem.call f vs) := by
  refine Att.attach_call hn hdf ?_
  intro w _ s₁ mg mb fa _ _ _ _ a vs ns G Y _ _ _ gm ob it le ge
  obtain ⟨K, sp, KX, hsp, hF⟩ := F w mg fa _ Y G.T.g gm
  exact law_endG KX G.T.g G.T.b G.T.builtins G.T.nolimit ge ob it (Nat.le_trans le hn2) hr hF fun H hS => hsp H a ns le hS
end
end Fx
/-! Calls of instances; comprehensions with two fors; what repr serves. -/
namespace Fx
open PySem L2
section
variable (G : Gx) (P : Program) (w : World) (mg : Str → Option Value) (base : Heap) (c k : Nat)
def PkCall (C : List D → Out → Prop) : Prop := ∃ g, StX.CallO G.K (G.cls c) g ∧ FnR P w G.K mg base CX0 k g (sp0 G C)
end
section
variable {X : Cx} {G : Gx} {e fe : Expr} {es : List Expr} {pos : Pos} {cs cs1 cs2 : List Cell} {z : D} {ds es' : List D} {c j k : Nat}
theorem ev_inst {C : List D → Out → Prop} (Pk : PkCall G X.prog X.w X.mg X.base c k C) (hf : Ev G (rdE X fe) cs (.obj c ds) cs1) (hr : Room j X.A) (hk : k ≤ j) (ha : EvV G (rdA X (e :: es)) cs1 es' cs2) (hC : C (.obj c ds :: es') (.val z)) (hK : G.K = X.K := by rfl)
    (ht : eval (.Call fe (e :: es) [] pos) X.env = (do callWith pos (← eval fe X.env) [] (backTo pos (starEach (e :: es) X.env)) (backToKw pos (keywordEach [] X.env))) := by rfl)
    (he : starEach (e :: es) X.env = (false, eval e X.env) :: starEach es X.env := by rfl) (hpl : (backTo pos (starEach es X.env)).any (·.1) = false := by rfl) : Ev G (rdE X (.Call fe (e :: es) [] pos)) cs z cs2 := by
  obtain ⟨g, c1, F⟩ := Pk
  rw [hK] at c1 F
  refine ev_of (StX.pe_callO (E := E0) pe_rd c1 F (hr.mono hk) pass0 pa_rd ht he hpl) fun F σ H Q rl q => hf F σ H _ rl fun v F1 H1 st1 r1 q1 => ?_
  obtain ⟨a, dx, fs, rfl, h1, h2, h3⟩ := q1
  refine ⟨a, rfl, ha F1 σ H1 _ r1 fun vs F2 H2 st2 r2 q2 => ?_⟩
  have h4 := st2.fsub _ _ h1
  exact ⟨.inr ⟨dx, fs, r2.sub _ _ h4⟩, F2, .obj c ds :: es', .val z, r2.sub, ⟨_, _, rfl, ⟨a, dx, fs, rfl, h4, h2, IsAll.mono st2.fsub ds h3⟩, q2⟩, hC, fun u F3 H3 g3 q3 => q u F3 H3 ((st1.trans st2).trans g3.stp) (r2.grow g3) q3⟩
end
/-! ### [.. for .. in .. for .. in .. if ..] -/
/-! ### what repr serves: how long the text is -/
section
open TL
structure Sh (k n : Nat) (x : D) : Prop where
  pl : plain x = true
  sh : (toPy x).showable = true
  nd : (toPy x).hasDict = false
  dp : deep x ≤ k
  sz : (toPy x).shown.length ≤ n
theorem Sh.shows {k n : Nat} {x : D} (h : Sh k n x) (hk : k ≤ 64) (hn : n ≤ 16777216) : Shows x := ⟨h.pl, h.sh, h.nd, Nat.le_trans h.dp hk, Nat.le_trans h.sz (by rw [sizeLine_eq]; exact hn)⟩
theorem Sh.le {k n k' n' : Nat} {x : D} (h : Sh k n x) (hk : k ≤ k') (hn : n ≤ n') : Sh k' n' x := ⟨h.pl, h.sh, h.nd, Nat.le_trans h.dp hk, Nat.le_trans h.sz hn⟩
section
variable {ds : List D} {k n : Nat}
theorem sh_bl (b : Bool) : Sh 0 5 (.bl b) := ⟨rfl, by cases b <;> decide +kernel, by cases b <;> decide +kernel, Nat.le_refl _, by cases b <;> decide +kernel⟩
end
end
end Fx
/-! a, b, .. = .., each a value or a new list. -/
namespace Fx
open PySem L2
inductive Itm where
  | v (d : D) | n (ds : List D)
def cellOf : Itm → Addr → Cell
  | .v d, _ => .val d
  | .n ds, p => .own p ds
def One (G : Gx) (F H H0 : Hp) (O : Addr → Prop) : Itm → V → Addr → Prop
  | .v d, v, _ => Is G F d v
  | .n ds, v, p => v = .ref p ∧ H0 p = none ∧ ¬ O p ∧ F p = none ∧ ∃ ws, H p = some (.lst ws) ∧ IsAll G F ds ws
def EvO (G : Gx) (te : TE) (cs : List Cell) (R : Itm → List Cell → Prop) : Prop := ∀ (F : Hp) (σ : L2.St) (H : Hp) (Q : VK), Rel G F σ H cs →
  (∀ it cs' v p F' H', R it cs' → Stp F H (Owns cs) F' H' (Owns cs') → Rel G F' σ H' cs' → One G F' H' H (Owns cs') it v p → Q v H') → te σ H Q
def Dis (i1 : Itm) (p1 : Addr) (i2 : Itm) (p2 : Addr) : Prop := ∀ ds es, i1 = .n ds → i2 = .n es → p1 ≠ p2
section
variable {X : Cx} {G : Gx} {a b c e : Expr} {es : List Expr} {pos : Pos} {cs cs1 : List Cell} {d : D} {ds : List D} {P : Post} {te : TE}
theorem eo_v (h : Ev G te cs d cs1) : EvO G te cs fun it c => it = .v d ∧ c = cs1 := fun F σ H Q rl q => h F σ H Q rl fun v F1 H1 st r i => q (.v d) cs1 v 0 F1 H1 ⟨rfl, rfl⟩ st r i
theorem eo_vR {R : D → List Cell → Prop} (h : EvR G te cs R) : EvO G te cs fun it c => ∃ d, it = .v d ∧ R d c := fun F σ H Q rl q => h F σ H Q rl fun d c v F1 H1 hR st r i => q (.v d) c v 0 F1 H1 ⟨d, rfl, hR⟩ st r i
theorem eo_n (h : EvN G te cs ds cs1) : EvO G te cs fun it c => it = .n ds ∧ c = cs1 := fun F σ H Q rl q => h F σ H Q rl fun p vs F1 H1 st r h0 h1 h2 h3 h4 => q (.n ds) cs1 (.ref p) p F1 H1 ⟨rfl, rfl⟩ st r ⟨rfl, h0, h1, h3, vs, h2, h4⟩
theorem EvO.mono {R R' : Itm → List Cell → Prop} (h : EvO G te cs R) (hR : ∀ it c, R it c → R' it c) : EvO G te cs R' := fun F σ H Q rl q => h F σ H Q rl fun it c v p F1 H1 r => q it c v p F1 H1 (hR it c r)
theorem One.step {F H F' H' H0 : Hp} {O O' : Addr → Prop} {it : Itm} {v : V} {p : Addr} (h : One G F H H0 O it v p) (s : Stp F H O F' H' O') : One G F' H' H0 O' it v p := by
  cases it with
  | v d => exact Is.mono s.fsub d h
  | n ds =>
    obtain ⟨h1, h2, h3, h4, ws, h5, h6⟩ := h
    exact ⟨h1, h2, not_owns_of s h5 h3, free_of s h4 h5 h3, ws, s.frame _ _ h5 h3, IsAll.mono s.fsub ds h6⟩
theorem One.back {F H H0 H1 : Hp} {O : Addr → Prop} {it : Itm} {v : V} {p : Addr} (h : One G F H H1 O it v p) (s : ∀ a, H1 a = none → H0 a = none) : One G F H H0 O it v p := by
  cases it with
  | v d => exact h
  | n ds =>
    obtain ⟨h1, h2, h3⟩ := h
    exact ⟨h1, s _ h2, h3⟩
theorem dis_of {F H H0 F' H' : Hp} {O O' : Addr → Prop} {i1 i2 : Itm} {v1 v2 : V} {p1 p2 : Addr} (h1 : One G F H H0 O i1 v1 p1) (h2 : One G F' H' H O' i2 v2 p2) : Dis i1 p1 i2 p2 := fun ds es e1 e2 z => by
  subst e1 e2
  obtain ⟨_, _, _, _, ws, a, _⟩ := h1
  obtain ⟨_, b, _⟩ := h2
  rw [z, b] at a
  cases a
/-- a name takes an item -/
theorem One.set {F H H0 : Hp} {σ : L2.St} {it : Itm} {v : V} {p : Addr} (i : Nat) (h : One G F H H0 (Owns cs) it v p) (r : Rel G F σ H cs) : Rel G F (σ.set i (some v)) H (cs.set i (cellOf it p)) := by
  cases it with
  | v d => exact r.setVal h
  | n ds =>
    obtain ⟨rfl, h2, h3, h4, ws, h5, h6⟩ := h
    exact r.setOwn h5 h4 h6 h3
theorem Owns.setc {i : Nat} {it : Itm} {p x : Addr} (h : Owns (cs.set i (cellOf it p)) x) : Owns cs x ∨ ((∃ ds, it = .n ds) ∧ x = p) := by
  rcases h.set with z | z
  · exact .inl z
  · cases it with
    | v d => exact False.elim z
    | n ds => exact .inr ⟨⟨ds, rfl⟩, z⟩
theorem One.past {F H H0 : Hp} {i1 i2 : Itm} {v2 : V} {p1 p2 : Addr} {i : Nat} (h : One G F H H0 (Owns cs) i2 v2 p2) (hd : Dis i1 p1 i2 p2) : One G F H H0 (Owns (cs.set i (cellOf i1 p1))) i2 v2 p2 := by
  cases i2 with
  | v d => exact h
  | n ds =>
    obtain ⟨h1, h2, h3, h4⟩ := h
    refine ⟨h1, h2, fun z => ?_, h4⟩
    rcases z.setc with z | ⟨⟨es, e⟩, z⟩
    · exact h3 z
    · exact hd es ds e rfl z.symm
theorem stp_items {F H F' H' : Hp} {O : Addr → Prop} {cs' : List Cell} (s : Stp F H O F' H' (Owns cs1)) (h : ∀ x, Owns cs' x → Owns cs1 x ∨ H x = none) : Stp F H O F' H' (Owns cs') :=
  ⟨s.fsub, s.frame, s.fresh, fun x z => by
    rcases h x z with y | y
    · exact s.own x y
    · exact .inr y, s.back⟩
theorem One.fresh {F H H0 : Hp} {O : Addr → Prop} {it : Itm} {v : V} {p : Addr} (h : One G F H H0 O it v p) (hn : ∃ ds, it = .n ds) : H0 p = none := by
  obtain ⟨ds, rfl⟩ := hn
  exact h.2.1
/-- x, y, z = a, b, c by way of a tuple -/
theorem sx_tup3 (i j l : Nat) {n m o : Str} {px py pz pt : Pos} {kt k2 pt2} {R1 : Itm → List Cell → Prop} {R2 : Itm → Itm → List Cell → Prop} {R3 : Itm → Itm → Itm → List Cell → Prop} (ha : EvO G (rdE X a) cs R1) (hb : ∀ i1 c, R1 i1 c → EvO G (rdE X b) c (R2 i1)) (hcc : ∀ i1 i2 c', R2 i1 i2 c' → EvO G (rdE X c) c' (R3 i1 i2))
    (hp : ∀ i1 i2 i3 c p q r, R3 i1 i2 i3 c → P.nx (((c.set i (cellOf i1 p)).set j (cellOf i2 q)).set l (cellOf i3 r)))
    (hc : X.calm = true) (hN : X.N.Nodup) (hi : X.N[i]? = some n) (hj : X.N[j]? = some m) (hl : X.N[l]? = some o) (hx : Loc X.env.scope n) (hy : Loc X.env.scope m) (hz : Loc X.env.scope o) (hf : X.fn n = true ∨ X.env.scope.names.lookup n = some .local) (hf2 : X.fn m = true ∨ X.env.scope.names.lookup m = some .local) (hf3 : X.fn o = true ∨ X.env.scope.names.lookup o = some .local)
    (hs : starEach [a, b, c] X.env = (false, eval a X.env) :: starEach [b, c] X.env := by rfl) (hs2 : starEach [b, c] X.env = (false, eval b X.env) :: starEach [c] X.env := by rfl) (hs3 : starEach [c] X.env = (false, eval c X.env) :: starEach [] X.env := by rfl)
    (hsw : swapsWithSole [.Tuple [.Name n px, .Name m py, .Name o pz] kt pt] (.Tuple [a, b, c] k2 pt2) pos.line X.env = pure false := by rfl) (hw : swappedStores [.Tuple [.Name n px, .Name m py, .Name o pz] kt pt] (.Tuple [a, b, c] k2 pt2) X.env = pure none := by rfl) (hK : G.K = X.K := by rfl) :
    Sx G (rdS X (.Assign [.Tuple [.Name n px, .Name m py, .Name o pz] kt pt] (.Tuple [a, b, c] k2 pt2) pos)) cs P :=
  sx_of (ps_asg (pe_tup (pa_cons pe_rd (pa_cons pe_rd (pa_cons pe_rd pa_nil hs3) hs2) hs)) (pg_tup hc (pgs_cons (pg_name hN hi hx hf) (pgs_cons (pg_name hN hj hy hf2) (pgs_cons (pg_name hN hl hz hf3) pgs_nil)))) hsw hw) fun F σ H E rl k1 _ _ _ _ => ha F σ H _ rl fun i1 c1 v1 p1 F1 H1 h1 st1 r1 o1 => hb i1 c1 h1 F1 σ H1 _ r1 fun i2 c2 v2 p2 F2 H2 h2 st2 r2 o2 => hcc i1 i2 c2 h2 F2 σ H2 _ r2 fun i3 c3 v3 p3 F3 H3 h3 st3 r3 o3 => by
    refine ⟨by show 3 ≤ sizeLine; decide, fun p hp0 => ?_⟩
    have g := grow_new (o := .tup [v1, v2, v3]) r3.sub hp0
    have r4 := r3.grow g
    have gs := g.stp (O := Owns c3)
    have st12 := st1.trans st2
    have d12 := dis_of o1 o2
    have d23 := dis_of o2 o3
    have d13 := dis_of (o1.step st2) o3
    have o1' := o1.step ((st2.trans st3).trans gs)
    have o2' := (o2.back (H0 := H) st1.back).step (st3.trans gs)
    have o3' := (o3.back (H0 := H) st12.back).step gs
    refine ⟨p, [v1, v2, v3], rfl, SqT.of upd_same, rfl, v1, [v2, v3], rfl, v2, [v3], rfl, v3, [], rfl, rfl, ?_⟩
    have e2 := o2'.past (i := i) d12
    have e3 := (o3'.past (i := i) d13).past (i := j) (i1 := i2) (p1 := p2) d23
    refine k1 _ _ F3 _ (hp i1 i2 i3 c3 p1 p2 p3 h3) (stp_items (st12.trans (st3.trans gs)) fun x hx => ?_) (e3.set l (e2.set j (o1'.set i r4)))
    rcases hx.setc with z | ⟨e, z⟩
    · rcases z.setc with z | ⟨e, z⟩
      · rcases z.setc with z | ⟨e, z⟩
        · exact .inl z
        · rw [z]; exact .inr (o1'.fresh e)
      · rw [z]; exact .inr (o2'.fresh e)
    · rw [z]; exact .inr (o3'.fresh e)
end
end Fx
/-! sorted of lists and of sets of tuples; a tuple's key: ints and the two words. -/
namespace Fx
open PySem L2 PyProof PyProof.Rows
abbrev Atm := Int ⊕ Bool
abbrev Ky := List Atm
/-! ### the sorted list -/
/-! ### the sort's own comparisons -/
def atI : Atm → Value → Prop
  | .inl a, u => ∃ t, u = .int a t
  | .inr k, u => ∃ t, u = .str (Mt.kS k) t
def IsIt : Ky → List Value → Prop
  | [], us => us = []
  | x :: k, us => ∃ u r, us = u :: r ∧ atI x u ∧ IsIt k r
section
variable {prog : Program} {w : World} {A : Around} {s : Shared}
/-- a tuple with this key -/
def IsKy (h : Heap) (v : Value) (k : Ky) : Prop := ∃ a o us n, v = .ref a ∧ h.get? a = some o ∧ o.cls = .type "tuple" ∧ o.data = .seq us n ∧ IsIt k us.toList
theorem IsKy.keeps {h h' : Heap} {v : Value} {k : Ky} (x : IsKy h v k) (kp : ∀ b o, h.get? b = some o → o.cls = .type "tuple" → h'.get? b = some o) : IsKy h' v k := by
  obtain ⟨a, o, us, n, e, ho, hc, hd, hi⟩ := x
  exact ⟨a, o, us, n, e, kp a o ho hc, hc, hd, hi⟩
end
/-! ### by the layer's heaps -/
end Fx
/-! sorted(set(xs)), sorted(xs) of tuples, by data. -/
namespace Fx
open PySem L2 PyProof PyProof.Rows
/-! ### by data -/
end Fx
/-! append of one of several values; enumerate. -/
namespace Fx
open PySem L2
section
variable {X : Cx} {G : Gx} {e : Expr} {p pos : Pos} {cs cs1 : List Cell} {d : D} {xs : List D}
theorem sx_appendR {P : Post} {l : Addr} {ds : List D} {n : Str} {np ap spos : Pos} {R : D → List Cell → Prop} (i : Nat) (h : cs[i]? = some (.own l ds)) (he : EvR G (rdE X e) cs R) (hp : ∀ d c, R d c → ∃ es', c[i]? = some (.own l es') ∧ es'.length < 10000000 ∧ P.nx (c.set i (.own l (es' ++ [d])))) (hN : X.N[i]? = some n) (hv : Vis X.env.scope n)
    (hpe : ∀ {to : TE} {t : TA}, PE X (.Name n np) to → PA X [e] t → PE X (.Call (.Attribute (.Name n np) "append" ap) [e] [] pos) (tBM X.K "list" rAppend to t)) (hd : (n == ("__debug__" : Str)) = false := by decide) (hcd : (n == ("__classdict__" : Str)) = false := by decide)
    (hs : starEach [e] X.env = (false, eval e X.env) :: starEach [] X.env := by rfl) (hsw : swapsWith (.Call (.Attribute (.Name n np) "append" ap) [e] [] pos) none spos.line X.env = pure false := by rfl) :
    Sx G (rdS X (.Expr (.Call (.Attribute (.Name n np) "append" ap) [e] [] pos) spos)) cs P :=
  sx_of (ps_expr (hpe (pe_var hN hv hd hcd) (pa_cons pe_rd pa_nil hs)) hsw) fun F σ H E rl k1 _ _ _ _ => by
    obtain ⟨vs, e1, _, _, _, ty⟩ := own_meth (X := X) (id := "") (rr := fun _ _ _ _ => True) rl h
    refine ⟨.ref l, e1, ty, he F σ H _ rl fun d c v F1 H1 hR st1 r1 q1 => ?_⟩
    obtain ⟨es', h1, hz, hp1⟩ := hp d c hR
    obtain ⟨vs1, e2, h2, h3, h4⟩ := r1.own h1
    refine ⟨l, vs1, v, rfl, rfl, h2, ?_, ?_⟩
    · rw [h4.length]
      exact Nat.lt_trans hz (by decide)
    · exact k1 _ σ F1 _ hp1 (st1.trans (Stp.write h1)) (r1.write h1 (h4.append (.one q1)))
/-- for a, b in enumerate(xs) -/
def enumD (xs : List D) : List D := (List.range xs.length).map fun (i : Nat) => .tup [.int (i : Int), xs.getD i .non]
theorem enumD_get {i : Nat} {d : D} (h : (enumD xs)[i]? = some d) : ∃ x, xs[i]? = some x ∧ d = .tup [.int (i : Int), x] := by
  unfold enumD at h
  rw [List.getElem?_map] at h
  by_cases hi : i < xs.length
  · rw [List.getElem?_range hi] at h
    refine ⟨xs[i], List.getElem?_eq_getElem hi, ?_⟩
    cases h
    show D.tup [D.int (i : Int), xs.getD i .non] = _
    rw [List.getD_eq_getElem?_getD, List.getElem?_eq_getElem hi]
    rfl
  · rw [List.getElem?_eq_none (by simpa using hi)] at h
    cases h
theorem ei_enum {tpos : Pos} {elts : List Expr} {kk : Nat} (h : EvV G (rdA X [e]) cs [.lst xs] cs1) (hg : Gl X "enumerate") (hm : X.mg "enumerate" = none) (hs : starEach [e] X.env = [(false, eval e X.env)] := by rfl) :
    EvI G (rdI X (.Tuple elts kk tpos) (.Call (.Name "enumerate" p) [e] [] pos)) cs (enumD xs) cs1 :=
  ei_of (pi_enum hg hm pa_rd hs) fun F σ H R rl q => h F σ H _ rl fun vs F1 H1 st1 r1 q1 => by
    obtain ⟨v1, r, rfl, ⟨a, us, rfl, h1, h2⟩, h5⟩ := q1
    cases h5
    refine ⟨a, us, rfl, SqL.of (r1.sub _ _ h1), q _ F1 H1 st1 r1 fun F2 H2 s1 s2 => ⟨fun i d hd => ?_, ?_⟩⟩
    · have ha := SqL.of (K := X.K) (s2 _ _ (s1 _ _ h1))
      obtain ⟨x, ex, rfl⟩ := enumD_get hd
      obtain ⟨vx, e1, i1⟩ := h2.get ex
      refine ⟨⟨us, vx, ha, e1⟩, ?_⟩
      rintro z H3 ⟨T, x', rfl, hT, rfl, q1⟩
      have z1 := q1 _ ha
      rw [e1] at z1; cases z1
      have g := grow_know (o := .tup [.int (i : Int), vx]) s2 hT
      exact ⟨_, g, T, _, rfl, SqT.of upd_same, _, [vx], rfl, rfl, vx, [], rfl, Is.mono (s1.trans g.fsub) _ i1, rfl⟩
    · refine ⟨us, SqL.of (s2 _ _ (s1 _ _ h1)), ?_⟩
      rw [h2.length]
      unfold enumD
      rw [List.length_map, List.length_range]
      exact Nat.le_refl _
end
end Fx
/-! arguments and tests told by a property. -/
namespace Fx
open PySem L2
def EvVR (G : Gx) (ta : TA) (cs : List Cell) (R : List D → List Cell → Prop) : Prop := ∀ (F : Hp) (σ : L2.St) (H : Hp) (Q : List V → Hp → Prop), Rel G F σ H cs →
  (∀ ds cs' vs F' H', R ds cs' → Stp F H (Owns cs) F' H' (Owns cs') → Rel G F' σ H' cs' → IsAll G F' ds vs → Q vs H') → ta σ H Q
def EvTR (G : Gx) (tt : TT) (cs : List Cell) (R : Bool → List Cell → Prop) : Prop := ∀ (F : Hp) (σ : L2.St) (H : Hp) (Q : Bool → Hp → Prop), Rel G F σ H cs →
  (∀ k cs' F' H', R k cs' → Stp F H (Owns cs) F' H' (Owns cs') → Rel G F' σ H' cs' → Q k H') → tt σ H Q
section
variable {X : Cx} {G : Gx} {e c : Expr} {es : List Expr} {np pos : Pos} {n : Str} {cs cs1 : List Cell} {d x : D} {ds : List D} {j k : Nat} {P : Post}
theorem evvr_of {t : TA} (h : PA X es t) {R : List D → List Cell → Prop} (q : EvVR G t cs R) : EvVR G (rdA X es) cs R := fun F σ H Q r kk pos pins s I => h.run pos pins s σ H Q I (q F σ H Q r kk)
theorem evvr_v (h : EvV G (rdA X es) cs ds cs1) : EvVR G (rdA X es) cs fun z c => z = ds ∧ c = cs1 := fun F σ H Q rl q => h F σ H Q rl fun vs F1 H1 st r i => q ds cs1 vs F1 H1 ⟨rfl, rfl⟩ st r i
theorem EvVR.mono {ta : TA} {R R' : List D → List Cell → Prop} (h : EvVR G ta cs R) (hR : ∀ ds c, R ds c → R' ds c) : EvVR G ta cs R' := fun F σ H Q rl q => h F σ H Q rl fun ds c vs F1 H1 r => q ds c vs F1 H1 (hR ds c r)
theorem evvr_cons {R : List D → List Cell → Prop} (h : Ev G (rdE X e) cs x cs1) (h2 : EvVR G (rdA X es) cs1 R) (hs : starEach (e :: es) X.env = (false, eval e X.env) :: starEach es X.env := by rfl) : EvVR G (rdA X (e :: es)) cs fun z c => ∃ r, z = x :: r ∧ R r c :=
  evvr_of (pa_cons pe_rd pa_rd hs) fun F σ H Q rl q => h F σ H _ rl fun v F1 H1 st1 r1 q1 => h2 F1 σ H1 _ r1 fun ds c vs F2 H2 hR st2 r2 q2 => q _ c _ F2 H2 ⟨ds, rfl, hR⟩ (st1.trans st2) r2 ⟨v, vs, rfl, Is.mono st2.fsub x q1, q2⟩
theorem evvr_consR {R1 : D → List Cell → Prop} {R2 : D → List D → List Cell → Prop} (h : EvR G (rdE X e) cs R1) (h2 : ∀ d c, R1 d c → EvVR G (rdA X es) c (R2 d)) (hs : starEach (e :: es) X.env = (false, eval e X.env) :: starEach es X.env := by rfl) : EvVR G (rdA X (e :: es)) cs fun z c => ∃ d r, z = d :: r ∧ R2 d r c :=
  evvr_of (pa_cons pe_rd pa_rd hs) fun F σ H Q rl q => h F σ H _ rl fun d c1 v F1 H1 h1 st1 r1 q1 => h2 d c1 h1 F1 σ H1 _ r1 fun ds c vs F2 H2 hR st2 r2 q2 => q _ c _ F2 H2 ⟨d, ds, rfl, hR⟩ (st1.trans st2) r2 ⟨v, vs, rfl, Is.mono st2.fsub d q1, q2⟩
/-- one argument more, told by a property, nothing behind it -/
theorem evvr_lastR {R1 : D → List Cell → Prop} (h : EvR G (rdE X e) cs R1) (hs : starEach [e] X.env = (false, eval e X.env) :: starEach [] X.env := by rfl) : EvVR G (rdA X [e]) cs fun z c => ∃ d, z = [d] ∧ R1 d c :=
  (evvr_consR (R2 := fun d r c => r = [] ∧ R1 d c) h (fun d c h1 => (evvr_v evv_nil).mono fun r c' hh => ⟨hh.1, by rw [hh.2]; exact h1⟩) hs).mono fun z c ⟨d, r, e1, e2, h3⟩ => ⟨d, by rw [e1, e2], h3⟩
/-! calls -/
theorem pe_fn0G {C : List D → Out → Prop} {f : Addr} (hm : X.mg n = some (.ref f)) (kp : PySem.W.keepIn X.K (.ref f) = true) (F : FnG X.prog X.w X.K X.mg X.base k f (sp0 G C)) (gd : X.A.guards = some []) (hr : Room k X.A) (hg : Gl X n) (hd : (n == ("__debug__" : Str)) = false := by decide)
    (he : starEach (e :: es) X.env = (false, eval e X.env) :: starEach es X.env := by rfl) (hpl : (backTo pos (starEach es X.env)).any (·.1) = false := by rfl) : PE X (.Call (.Name n np) (e :: es) [] pos) (fun σ H Q => rdA X (e :: es) σ H fun vs H1 => sp0 G C vs H1 Q E0) := by
  refine ⟨fun pins s σ H Q I h => ?_⟩
  refine wpAny_Call_Name_kw (ld_glob I hg hm ?_ hd)
  refine PySem.W.callWith_K (h₀ := X.base) I.ok.mod.kin kp (thn (pa_rd.run pos pins s σ H _ I h) fun us s1 ⟨vs, H1, I1, r, q⟩ => ⟨I1.kIn, ?_⟩) he hpl
  refine wpAny_call (codeAny_mono (F X.A X.stack s1 H1 us vs Q E0 gd hr I1.env0 r q) fun r s2 z => ?_)
  cases r with
  | error _ => exact z.elim
  | ok fl =>
    cases fl with
    | ret u => exact I1.after z
    | next => exact z.elim
    | brk => exact z.elim
    | cont => exact z.elim
theorem evr_fn0GR {C : List D → Out → Prop} {R : List D → List Cell → Prop} {R' : D → List Cell → Prop} (Fn : Fn0G G X.prog X.w X.mg X.base k n C) (gd : X.A.guards = some []) (hr : Room j X.A) (hk : k ≤ j) (ha : EvVR G (rdA X (e :: es)) cs R) (hC : ∀ ds c, R ds c → ∃ d, C ds (.val d) ∧ R' d c) (hg : Gl X n) (hK : G.K = X.K := by rfl) (hd : (n == ("__debug__" : Str)) = false := by decide)
    (he : starEach (e :: es) X.env = (false, eval e X.env) :: starEach es X.env := by rfl) (hpl : (backTo pos (starEach es X.env)).any (·.1) = false := by rfl) : EvR G (rdE X (.Call (.Name n np) (e :: es) [] pos)) cs R' := by
  obtain ⟨f, hm, kp, F⟩ := Fn
  rw [hK] at kp F
  refine evr_of (pe_fn0G hm kp F gd (hr.mono hk) hg hd he hpl) fun F σ H Q rl q => ha F σ H _ rl fun ds c vs F1 H1 hR st1 r1 q1 => ?_
  obtain ⟨d, h1, h2⟩ := hC ds c hR
  exact ⟨F1, ds, .val d, r1.sub, q1, h1, fun v F2 H2 g q2 => q d c v F2 H2 h2 (st1.trans g.stp) (r1.grow g) q2⟩
/-! tests -/
theorem etr_of {tt : TT} {R : Bool → List Cell → Prop} (h : PT X e tt) (q : EvTR G tt cs R) : EvTR G (rdT X e) cs R := fun F σ H Q r kk pins s I => h.run pins s σ H Q I (q F σ H Q r kk)
theorem etr_val {R : D → List Cell → Prop} (h : EvR G (rdE X e) cs R) (hb : ∀ d c, R d c → ∃ b, d = .bl b) (he : ∀ whole, isTrue e X.env whole = (do let v ← whole; standAt e.pos; holding [v] (truthy v)) := by intro _; rfl) : EvTR G (rdT X e) cs fun b c => R (.bl b) c :=
  etr_of (pt_val pe_rd he) fun F σ H Q rl q => h F σ H _ rl fun d c v F1 H1 hR st r i => by
    obtain ⟨b, rfl⟩ := hb d c hR
    exact ⟨b, i, q b c F1 H1 hR st r⟩
theorem etr_not {R : Bool → List Cell → Prop} (h : EvTR G (rdT X e) cs R) : EvTR G (rdT X (.UnaryOp .Not e pos)) cs fun b c => R (!b) c :=
  etr_of (pt_not pt_rd) fun F σ H Q rl q => h F σ H _ rl fun k c F1 H1 hR st r => q (!k) c F1 H1 (by rw [Bool.not_not]; exact hR) st r
theorem EvTR.mono {tt : TT} {R R' : Bool → List Cell → Prop} (h : EvTR G tt cs R) (hR : ∀ b c, R b c → R' b c) : EvTR G tt cs R' := fun F σ H Q rl q => h F σ H Q rl fun k c F1 H1 r => q k c F1 H1 (hR k c r)
theorem sx_ifR {s1 s2 : List Stmt} {R : Bool → List Cell → Prop} (h : EvTR G (rdT X c) cs R) (h1 : ∀ c1, R true c1 → Sx G (rdSs X s1) c1 P) (h2 : ∀ c1, R false c1 → Sx G (rdSs X s2) c1 P) : Sx G (rdS X (.If c s1 s2 pos)) cs P :=
  sx_of (ps_if pt_rd pss_rd pss_rd) fun F σ H E rl k1 k2 k3 k4 k5 => h F σ H _ rl fun k c1 F1 H1 hR st r => by
    cases k with
    | true => exact iteT (h1 c1 hR F1 σ H1 E r (k1.after st) (k2.after st) (k3.after st) (k4.after st) (k5.after st))
    | false => exact iteF (h2 c1 hR F1 σ H1 E r (k1.after st) (k2.after st) (k3.after st) (k4.after st) (k5.after st))
end
end Fx
/-! x + y by the class's own method, both instances of it. -/
namespace Fx
open PySem L2 PyProof.Rows PySem.Calls
end Fx
/-! for over one of several lists; defs that change a list, called where nothing is shown. -/
namespace Fx
open PySem L2
/-! ### is, is not of bools -/
/-! ### defs that change a list, called where nothing is shown -/
end Fx
/-! x in a tuple, x not in a tuple, by data. -/
namespace Fx
open PySem L2
end Fx
/-! sorted(xs) of ints. -/
namespace Fx
open PySem L2
end Fx
/-! for x in zip(tuple, tuple), the target one name. -/
namespace Fx
open PySem L2 RZ PySem.Spec PyProof.Rows
end Fx
/-! slices of tuples. -/
namespace Fx
open PySem L2
end Fx
/-! match of a text with cases that are texts. -/
namespace Fx
open PySem L2
end Fx
/-! dicts of ours: {}, d.get(k, x), d[k], d[k] = x. -/
namespace Fx
open PySem L2
def valD (kvs : List (Key × D)) (k : Key) : Option D := (kvs.find? fun kv => decide (kv.1 = k)).map (·.2)
def putKD (kvs : List (Key × D)) (k : Key) (d : D) : List (Key × D) :=
  if (kvs.any fun kv => decide (kv.1 = k)) = true then kvs.map (fun kv => if kv.1 = k then (kv.1, d) else kv) else kvs ++ [(k, d)]
/-- what stands at a dict -/
def DicAt (G : Gx) (F : Hp) (kvs : List (Key × D)) (ws : List (Key × V)) : Prop := ws.map (·.1) = kvs.map (·.1) ∧ IsAll G F (kvs.map (·.2)) (ws.map (·.2))
section
variable {G : Gx} {F : Hp}
theorem dic_nil : DicAt G F [] [] := ⟨rfl, rfl⟩
theorem DicAt.cons {k : Key} {d : D} {kvs : List (Key × D)} {w : List (Key × V)} (h : DicAt G F ((k, d) :: kvs) w) : ∃ v ws, w = (k, v) :: ws ∧ Is G F d v ∧ DicAt G F kvs ws := by
  obtain ⟨h1, v, r, h2, h3, h4⟩ := h
  cases w with
  | nil => cases h1
  | cons x ws =>
    obtain ⟨k', v'⟩ := x
    simp only [List.map_cons, List.cons.injEq] at h1 h2
    obtain ⟨rfl, h1⟩ := h1
    obtain ⟨rfl, h2⟩ := h2
    subst h2
    exact ⟨v', ws, rfl, h3, h1, h4⟩
theorem DicAt.put1 {k : Key} {d : D} {v : V} {kvs : List (Key × D)} {ws : List (Key × V)} (hd : Is G F d v) (h : DicAt G F kvs ws) : DicAt G F ((k, d) :: kvs) ((k, v) :: ws) :=
  ⟨by simp only [List.map_cons, h.1], v, _, rfl, hd, h.2⟩
theorem DicAt.get : ∀ {kvs : List (Key × D)} {ws : List (Key × V)} (k : Key), DicAt G F kvs ws → (valD kvs k = none ∧ valV ws k = none) ∨ ∃ d v, valD kvs k = some d ∧ valV ws k = some v ∧ Is G F d v
  | [], ws, k, h => by
    have : ws = [] := by
      cases ws with
      | nil => rfl
      | cons x y => cases h.1
    subst this
    exact .inl ⟨rfl, rfl⟩
  | (k', d) :: kvs, ws, k, h => by
    obtain ⟨v, ws, rfl, hd, h⟩ := h.cons
    by_cases e : k' = k
    · subst e
      exact .inr ⟨d, v, by simp [valD], by simp [valV], hd⟩
    · rcases DicAt.get k h with ⟨h1, h2⟩ | ⟨d', v', h1, h2, h3⟩
      · exact .inl ⟨by unfold valD at h1 ⊢; rw [List.find?_cons_of_neg (by simpa using e)]; exact h1, by unfold valV at h2 ⊢; rw [List.find?_cons_of_neg (by simpa using e)]; exact h2⟩
      · exact .inr ⟨d', v', by unfold valD at h1 ⊢; rw [List.find?_cons_of_neg (by simpa using e)]; exact h1, by unfold valV at h2 ⊢; rw [List.find?_cons_of_neg (by simpa using e)]; exact h2, h3⟩
theorem DicAt.any : ∀ {kvs : List (Key × D)} {ws : List (Key × V)} (k : Key), DicAt G F kvs ws → (ws.any fun kv => decide (kv.1 = k)) = kvs.any fun kv => decide (kv.1 = k)
  | [], ws, k, h => by
    cases ws with
    | nil => rfl
    | cons x y => cases h.1
  | (k', d) :: kvs, ws, k, h => by
    obtain ⟨v, ws, rfl, hd, h⟩ := h.cons
    rw [List.any_cons, List.any_cons, DicAt.any k h]
theorem DicAt.mapp {k : Key} {d : D} {v : V} (hd : Is G F d v) : ∀ {kvs : List (Key × D)} {ws : List (Key × V)}, DicAt G F kvs ws → DicAt G F (kvs.map fun kv => if kv.1 = k then (kv.1, d) else kv) (ws.map fun kv => if kv.1 = k then (kv.1, v) else kv)
  | [], ws, h => by
    cases ws with
    | nil => exact h
    | cons x y => cases h.1
  | (k', d') :: kvs, ws, h => by
    obtain ⟨v', ws, rfl, hd', h⟩ := h.cons
    have ih := DicAt.mapp (k := k) hd h
    rw [List.map_cons, List.map_cons]
    by_cases e : k' = k
    · rw [if_pos e, if_pos e]
      exact ih.put1 hd
    · rw [if_neg e, if_neg e]
      exact ih.put1 hd'
theorem DicAt.snoc {k : Key} {d : D} {v : V} (hd : Is G F d v) : ∀ {kvs : List (Key × D)} {ws : List (Key × V)}, DicAt G F kvs ws → DicAt G F (kvs ++ [(k, d)]) (ws ++ [(k, v)])
  | [], ws, h => by
    cases ws with
    | nil => exact dic_nil.put1 hd
    | cons x y => cases h.1
  | (k', d') :: kvs, ws, h => by
    obtain ⟨v', ws, rfl, hd', h⟩ := h.cons
    exact (DicAt.snoc hd h).put1 hd'
theorem DicAt.put {k : Key} {d : D} {v : V} {kvs : List (Key × D)} {ws : List (Key × V)} (hd : Is G F d v) (h : DicAt G F kvs ws) : DicAt G F (putKD kvs k d) (putK ws k v) := by
  unfold putKD putK
  rw [h.any k]
  split
  · exact h.mapp hd
  · exact h.snoc hd
theorem DicAt.len {kvs : List (Key × D)} {ws : List (Key × V)} (h : DicAt G F kvs ws) : ws.length = kvs.length := by
  have := congrArg List.length h.1
  simpa using this
end
theorem Rel.dic {G : Gx} {F H : Hp} {σ : L2.St} {cs : List Cell} (r : Rel G F σ H cs) {i : Nat} {l : Addr} {kvs : List (Key × D)} (e : cs[i]? = some (.dic l kvs)) : ∃ ws, σ[i]? = some (some (.ref l)) ∧ H l = some (.dK ws) ∧ F l = none ∧ DicAt G F kvs ws := by
  obtain ⟨u, h1, h2, h3, ws, rfl, h4, h5⟩ := r.owned e rfl
  exact ⟨ws, h1, h2, h3, h4, h5⟩
section
variable {X : Cx} {G : Gx} {cs : List Cell} {d : D}
theorem ev_v (i : Nat) {n : Str} {pos : Pos} (h : cs[i]? = some (.val d)) (hN : X.N[i]? = some n := by rfl) (hv : Vis X.env.scope n := by first | exact .inl rfl | exact .inr (.inl rfl)) (hd : (n == ("__debug__" : Str)) = false := by decide) (hcd : (n == ("__classdict__" : Str)) = false := by decide) : Ev G (rdE X (.Name n pos)) cs d cs := ev_var i h hN hv hd hcd
end
end Fx
/-! Fx30: len(set(ints)), for over a text, a sign in a text, int(text). -/
namespace Fx
open PySem L2 PySem.Spec PyProof.Rows
/-! x <= y <= z as a test -/
/-! a property whose getter computes -/
end Fx
/-! Fx31: items of lists of ours (any value), displays told by a property, list * n, ours + list. -/
namespace Fx
open PySem L2
section
variable {X : Cx} {G : Gx} {e a b : Expr} {es : List Expr} {np pos : Pos} {nm : Str} {cs cs1 cs2 : List Cell} {z : D} {ds es' xs ys : List D} {l : Addr}
theorem IsAll.replicate {F : Hp} {us : List V} (h : IsAll G F xs us) : ∀ n : Nat, IsAll G F (List.replicate n xs).flatten (List.replicate n us).flatten
  | 0 => rfl
  | n + 1 => by
    rw [List.replicate_succ, List.replicate_succ, List.flatten_cons, List.flatten_cons]
    exact h.append (IsAll.replicate h n)
end
/-! a call of a def with a list that it changes, the other arguments told by a property -/
end Fx
/-! FxE: exceptions of the text's own classes: raise, calls that may raise, try .. except. W is what is wished of an exception. -/
namespace Fx
open PySem L2
/-- what an exception meets: its class by number -/
def GoesX (G : Gx) (F H : Hp) (O : Addr → Prop) (S : Nat → List Cell → Prop) (W : WX) : Prop := ∀ c cs' σ' F' H', S c cs' → Stp F H O F' H' (Owns cs') → Rel G F' σ' H' cs' → W (.ref (G.cls c)) none σ' H'
/-- .. the slots as they were -/
def GoesXs (G : Gx) (F H : Hp) (σ : L2.St) (O : Addr → Prop) (S : Nat → List Cell → Prop) (W : WX) : Prop := ∀ c cs' F' H', S c cs' → Stp F H O F' H' (Owns cs') → Rel G F' σ H' cs' → W (.ref (G.cls c)) none σ H'
theorem GoesX.at_ {G : Gx} {F H : Hp} {O : Addr → Prop} {S : Nat → List Cell → Prop} {W : WX} (g : GoesX G F H O S W) (σ : L2.St) : GoesXs G F H σ O S W := fun c cs' F' H' => g c cs' σ F' H'
theorem GoesXs.after {G : Gx} {F H F' H' : Hp} {σ : L2.St} {O O' : Addr → Prop} {S : Nat → List Cell → Prop} {W : WX} (g : GoesXs G F H σ O S W) (s : Stp F H O F' H' O') : GoesXs G F' H' σ O' S W := fun c cs' F2 H2 hp st r => g c cs' F2 H2 hp (s.trans st) r
theorem GoesX.after {G : Gx} {F H F' H' : Hp} {O O' : Addr → Prop} {S : Nat → List Cell → Prop} {W : WX} (g : GoesX G F H O S W) (s : Stp F H O F' H' O') : GoesX G F' H' O' S W := fun c cs' σ' F2 H2 hp st r => g c cs' σ' F2 H2 hp (s.trans st) r
/-! ### the classes of exceptions -/
/-! ### defs that may raise -/
def RetX (G : Gx) (F H : Hp) (o : Out ⊕ Nat) (Q : VK) (E : XK) : Prop := match o with
  | .inl o => Ret G F H o Q
  | .inr c => ∀ F' H', Grow F H F' H' → E (.ref (G.cls c)) none H'
def spX (G : Gx) (C : List D → Out ⊕ Nat → Prop) : Sp := fun vs H Q E => ∃ F ds o, Same F H ∧ IsAll G F ds vs ∧ C ds o ∧ RetX G F H o Q E
end Fx
/-! Fx32: len of an instance, a call with no arguments. -/
namespace Fx
open PySem L2
end Fx
/-! list(zip(tuple, tuple)). -/
namespace Fx
open PySem L2 RZ PySem.Spec PyProof.Rows
end Fx
/-! xs.extend(a tuple). -/
namespace Fx
open PySem L2 RZ PySem.Spec PyProof.Rows
end Fx
/-! == and != of two instances of one class, in and not in of an instance, by the class's own methods. -/
namespace Fx
open PySem L2 PyProof.Rows PySem.Calls
end Fx
/-! sorted of a tuple of tuples. -/
namespace Fx
open PySem L2 PyProof PyProof.Rows
end Fx
/-! max of a tuple of ints. -/
namespace Fx
open PySem L2 PyProof PyProof.Rows
end Fx
/-! calls with arguments told by a relation. -/
namespace Fx
open PySem L2
end Fx
/-! FxF: try .. except with several clauses, each by a class of the text. -/
namespace Fx
open PySem L2
section
variable {X : Cx} {G : Gx} {W : WX} {cs : List Cell} {P : Post} {S S' : Nat → List Cell → Prop}
/-- what a clause's suite wishes -/
def tSuite (X : Cx) (suite : List Stmt) : TS := fun D σ H => ∀ (a : Addr) (pn : List (Addr × Obj)), rdSs (X.suite a pn) suite D σ H
inductive HsN (G : Gx) (X : Cx) : List ExceptHandler → List (Nat × List Stmt) → Prop
  | nil : HsN G X [] []
  | cons {x : Str} {h : Nat} {b₀ : Stmt} {suite : List Stmt} {np pos' : Pos} {hds : List ExceptHandler} {l : List (Nat × List Stmt)} (hc : Names X x (.ref (G.cls h))) (r : HsN G X hds l) :
      HsN G X (.ExceptHandler (some (.Name x np)) none (b₀ :: suite) pos' :: hds) ((h, b₀ :: suite) :: l)
def lOf (G : Gx) (X : Cx) (l : List (Nat × List Stmt)) : List (Value × (Addr → Value → Option Addr → TS)) := l.map fun p => (.ref (G.cls p.1), fun _ _ _ => tSuite X p.2)
theorem HsN.ok {hds : List ExceptHandler} {l : List (Nat × List Stmt)} (h : HsN G X hds l) : HdsOk X hds (lOf G X l) := by
  induction h with
  | nil => exact .nil
  | cons hc r ih => exact .cons hc (fun a oe cls d pn hz hv => ⟨fun pins s σ H D I h => pss_rd.run pins s σ H D I (h a _)⟩) ih
end
end Fx
/-! FxG: isinstance of things that are no instances of a class of the text. -/
namespace Fx
open PySem L2
end Fx
/-! FxH: defs that may raise, called where nothing is raised; x + y whose method may raise; which class an exception is caught by. -/
namespace Fx
open PySem L2 PyProof.Rows PySem.Calls
section
variable {P : Program} {w : World} {G : Gx} {mg : Str → Option Value} {base : Heap} {k : Nat} {n : Str} {f : Addr}
theorem fnR_of_X {C : List D → Out ⊕ Nat → Prop} {C0 : List D → Out → Prop} (F : FnR P w G.K mg base (L2.CX P w) k f (spX G C)) (h : ∀ ds o, C0 ds o → C ds (.inl o)) : FnR P w G.K mg base CX0 k f (sp0 G C0) := by
  intro A outer s H us vs Q E hr e0 r hsp
  obtain ⟨F0, ds, o, sm, hi, hc, ret⟩ := hsp
  refine codeAny_mono (F A outer s H us vs Q E0 hr e0 r ⟨F0, ds, .inl o, sm, hi, h ds o hc, ret⟩) fun r s' hq => ?_
  cases r with
  | error e =>
    obtain ⟨a, B, H', cls, d, _, _, _, _, _, _, _, z⟩ := hq
    exact False.elim z
  | ok fl => cases fl <;> exact hq
end
/-! ### x + y -/
end Fx
/-! FxI: texts as repr shows them. -/
namespace Fx
open PySem L2 TL
def okS (x : Str) : Prop := ∀ c ∈ x.cps.toList, c < 1114112
end Fx
/-! FxJ: class methods that may raise; kinds of any value; slices, list(), replace of texts; xs.index(y). -/
namespace Fx
open PySem L2 PyProof PyProof.Rows
/-! ### C.m(..) that may raise -/
section
variable (G : Gx) (P : Program) (w : World) (mg : Str → Option Value) (base : Heap) (c k : Nat)
def PkClsX (m : Str) (C : List D → Out ⊕ Nat → Prop) : Prop := ∃ mc pa g, ClX.CRead G.K (G.cls c) mc ∧ ClX.CMet G.K (G.cls c) mc m pa g ∧ FnR P w G.K mg base (L2.CX P w) k g (spX G C)
variable {G P w mg base c k}
theorem PkClsX.cls {m : Str} {C : List D → Out ⊕ Nat → Prop} {C0 : List D → Out → Prop} (h : PkClsX G P w mg base c k m C) (hC : ∀ ds o, C0 ds o → C ds (.inl o)) : PkCls G P w mg base c k m C0 := by
  obtain ⟨mc, pa, g, h1, h2, h3⟩ := h
  exact ⟨mc, pa, g, h1, h2, fnR_of_X h3 hC⟩
end
/-! ### kinds -/
/-! ### texts -/
end Fx
/-! FxK: list(text), text.replace(..), xs.index(y). -/
namespace Fx
open PySem L2 PyProof PyProof.Rows
/-! ### behind a written text a token is out -/
end Fx
/-! FxL: things of ours of several objects (instances with lists and dicts of their own): changed, looked at, known at last. -/
namespace Fx
open PySem L2
section
variable {G : Gx} {F H F' H' : Hp} {σ : L2.St} {cs : List Cell} {i : Nat} {b : Bx} {d z : D} {ds : List D}
theorem Rel.big (r : Rel G F σ H cs) (e : cs[i]? = some (.big b)) : ∃ o, σ[i]? = some o ∧ b.φ F H o := r.cel i _ e
/-! ### looked at -/
def seen (b : Bx) (F H : Hp) : Hp := fun a => if a ∈ b.own then H a else F a
end
/-! ### instances with lists and dicts of their own -/
theorem DicAt.mono {G : Gx} {F F' : Hp} {kvs : List (Key × D)} {ws : List (Key × V)} (e : Same F F') (h : DicAt G F kvs ws) : DicAt G F' kvs ws := ⟨h.1, IsAll.mono e _ h.2⟩
inductive Fd where
  | d (x : D) | own (a : Addr) (ds : List D) | dic (a : Addr) (kvs : List (Key × D))
def fdA : Fd → Option Addr
  | .d _ => none
  | .own a _ => some a
  | .dic a _ => some a
def FdAt (G : Gx) (F H : Hp) : Fd → V → Prop
  | .d x, v => Is G F x v
  | .own a ds, v => v = .ref a ∧ F a = none ∧ ∃ vs, H a = some (.lst vs) ∧ IsAll G F ds vs
  | .dic a kvs, v => v = .ref a ∧ F a = none ∧ ∃ ws, H a = some (.dK ws) ∧ DicAt G F kvs ws
def FdsAt (G : Gx) (F H : Hp) : List Fd → List V → Prop
  | [], vs => vs = []
  | f :: fs, vs => ∃ v r, vs = v :: r ∧ FdAt G F H f v ∧ FdsAt G F H fs r
def fdsA (fs : List Fd) : List Addr := fs.filterMap fdA
section
variable {G : Gx} {F H F' H' : Hp}
theorem FdAt.mono {f : Fd} {v : V} (e : Same F F') (hl : ∀ a, fdA f = some a → ∀ u, H a = some u → F a = none → H' a = some u ∧ F' a = none) (h : FdAt G F H f v) : FdAt G F' H' f v := by
  cases f with
  | d x => exact Is.mono e x h
  | own a ds =>
    obtain ⟨h1, h2, vs, h3, h4⟩ := h
    obtain ⟨g1, g2⟩ := hl a rfl _ h3 h2
    exact ⟨h1, g2, vs, g1, IsAll.mono e ds h4⟩
  | dic a kvs =>
    obtain ⟨h1, h2, ws, h3, h4⟩ := h
    obtain ⟨g1, g2⟩ := hl a rfl _ h3 h2
    exact ⟨h1, g2, ws, g1, h4.mono e⟩
theorem fdsA_cons {f : Fd} {fs : List Fd} {a : Addr} : a ∈ fdsA (f :: fs) ↔ fdA f = some a ∨ a ∈ fdsA fs := by
  unfold fdsA
  rw [List.mem_filterMap, List.mem_filterMap]
  simp [or_and_right, exists_or]
theorem FdsAt.mono (e : Same F F') : ∀ {fs : List Fd} {vs : List V}, (∀ a ∈ fdsA fs, ∀ u, H a = some u → F a = none → H' a = some u ∧ F' a = none) → FdsAt G F H fs vs → FdsAt G F' H' fs vs
  | [], _, _, h => h
  | f :: fs, _, hl, h => by
    obtain ⟨v, r, rfl, h1, h2⟩ := h
    exact ⟨v, r, rfl, h1.mono e fun a ha => hl a (fdsA_cons.mpr (.inl ha)), FdsAt.mono e (fun a ha => hl a (fdsA_cons.mpr (.inr ha))) h2⟩
theorem FdAt.there {f : Fd} {v : V} {a : Addr} (h : FdAt G F H f v) (ha : fdA f = some a) : v = .ref a ∧ F a = none ∧ ∃ u, H a = some u ∧ (∀ xs, u ≠ .tup xs ∧ ∀ ob, u ≠ .frz ob (.tup xs)) := by
  cases f with
  | d x => cases ha
  | own a' ds =>
    cases ha
    obtain ⟨h1, h2, vs, h3, _⟩ := h
    exact ⟨h1, h2, _, h3, fun xs => ⟨(fun z => nomatch z), (fun ob z => nomatch z)⟩⟩
  | dic a' kvs =>
    cases ha
    obtain ⟨h1, h2, vs, h3, _⟩ := h
    exact ⟨h1, h2, _, h3, fun xs => ⟨(fun z => nomatch z), (fun ob z => nomatch z)⟩⟩
theorem FdsAt.there : ∀ {fs : List Fd} {vs : List V} {a : Addr}, FdsAt G F H fs vs → a ∈ fdsA fs → F a = none ∧ ∃ u, H a = some u ∧ (∀ xs, u ≠ .tup xs ∧ ∀ ob, u ≠ .frz ob (.tup xs))
  | [], _, _, _, ha => absurd ha (by simp [fdsA])
  | f :: fs, _, a, h, ha => by
    obtain ⟨v, r, rfl, h1, h2⟩ := h
    rcases fdsA_cons.mp ha with ha | ha
    · exact (h1.there ha).2
    · exact h2.there ha
theorem FdsAt.len : ∀ {fs : List Fd} {vs : List V}, FdsAt G F H fs vs → vs.length = fs.length
  | [], _, h => by cases h; rfl
  | f :: fs, _, h => by
    obtain ⟨v, r, rfl, _, h2⟩ := h
    rw [List.length_cons, List.length_cons, h2.len]
theorem FdsAt.get : ∀ {fs : List Fd} {vs : List V} {m : Nat} {f : Fd}, FdsAt G F H fs vs → fs[m]? = some f → ∃ v, vs[m]? = some v ∧ FdAt G F H f v
  | [], _, _, _, _, e => by simp at e
  | g :: fs, _, 0, f, h, e => by
    obtain ⟨v, r, rfl, h1, h2⟩ := h
    cases e
    exact ⟨v, rfl, h1⟩
  | g :: fs, _, m + 1, f, h, e => by
    obtain ⟨v, r, rfl, h1, h2⟩ := h
    exact h2.get (m := m) (by simpa using e)
theorem nodup_cons' {f : Fd} {fs : List Fd} (h : (fdsA (f :: fs)).Nodup) : (fdsA fs).Nodup ∧ ∀ a, fdA f = some a → a ∉ fdsA fs := by
  unfold fdsA at h ⊢
  rw [List.filterMap_cons] at h
  cases e : fdA f with
  | none => rw [e] at h; exact ⟨h, fun a z => nomatch z⟩
  | some x =>
    rw [e] at h
    obtain ⟨h1, h2⟩ := List.nodup_cons.mp h
    exact ⟨h2, fun a z => by cases z; exact h1⟩
/-- one of its things is written -/
theorem FdsAt.put {a : Addr} {u : HO} {f f' : Fd} (ha : fdA f = some a) (ha' : fdA f' = some a) (hf : F a = none) (q : FdAt G F (upd H a u) f' (.ref a)) : ∀ {fs : List Fd} {m : Nat} {vs : List V}, FdsAt G F H fs vs → fs[m]? = some f → (fdsA fs).Nodup → FdsAt G F (upd H a u) (fs.set m f') vs
  | [], _, _, _, e, _ => by simp at e
  | g :: fs, 0, _, h, e, nd => by
    obtain ⟨v, r, rfl, h1, h2⟩ := h
    cases e
    obtain ⟨nd1, nd2⟩ := nodup_cons' nd
    have hv := (h1.there ha).1
    subst hv
    refine ⟨_, r, rfl, q, h2.mono (Same.refl F) fun x hx o g1 g2 => ⟨?_, g2⟩⟩
    rw [upd_ne (show x ≠ a from fun z => nd2 a ha (z ▸ hx))]
    exact g1
  | g :: fs, m + 1, _, h, e, nd => by
    obtain ⟨v, r, rfl, h1, h2⟩ := h
    obtain ⟨nd1, nd2⟩ := nodup_cons' nd
    have e' : fs[m]? = some f := by simpa using e
    have hin : a ∈ fdsA fs := List.mem_filterMap.mpr ⟨f, List.mem_of_getElem? e', ha⟩
    refine ⟨v, r, rfl, h1.mono (Same.refl F) fun x hx o g1 g2 => ⟨?_, g2⟩, FdsAt.put ha ha' hf q h2 e' nd1⟩
    rw [upd_ne (show x ≠ a from fun z => nd2 x hx (z ▸ hin))]
    exact g1
end
/-! ### methods that change what they are called on -/
/-! ### __init__(self, a, ..) -/
end Fx
/-! FxM: dicts whose keys are tuples known by their places: made by a comprehension, walked by values() and items(). -/
namespace Fx
open PySem PySem.Spec PyProof.Rows L2
/-! ### a dict that is known from now on; its values, its items -/
section
variable {P : Program} {w : World} {K : PySem.W.Frag} {d : Addr} {o : Obj} {ks : List (List Key × Addr)} {vs : List V} {es : Array DictEntry} {ep : Nat}
/-- what the object o of such a dict holds -/
structure Holds (P : Program) (w : World) (o : Obj) (ks : List (List Key × Addr)) (vs : List V) (es : Array DictEntry) (ep : Nat) : Prop where
  ex : o.ExactDict
  dat : o.data = .dict es ep
  len : es.size = ks.length
  lenV : vs.length = ks.length
  key : ∀ (i : Nat) (hi : i < es.size) (k : List Key) (q : Addr), ks[i]? = some (k, q) → es[i].key = .ref q
  val : ∀ (i : Nat) (hi : i < es.size) (v : V), vs[i]? = some v → RelV v es[i].val
end
end Fx
/-! FxN: the same by data: {k: v for ..} with tuples as keys, d.values(), d.items(); sum and max of a list; a list of two new things of ours known. -/
namespace Fx
open PySem L2
end Fx
/-! FxO: instances of ours that live on: a data field is set anew, a list field grows. -/
namespace Fx
open PySem L2
/-! ### self.f, self.g, self.h = a, b, [] in __init__ -/
/-! ### a new instance of ours -/
/-! ### a cell set apart: what is done without it leaves it as it is -/
end Fx
/-! FxP: tuple * n, len(set(tuples of ints)). -/
namespace Fx
open PySem L2 PySem.Spec PyProof.Rows
end Fx
/-! FxQ: dicts of ours: known ones walked by values() and items(), two given to a def that changes them, {} among the parts of a tuple assignment. -/
namespace Fx
open PySem L2
theorem DicAt.split {G : Gx} {F : Hp} {kvs : List (Key × D)} {ws : List (Key × V)} (h : DicAt G F kvs ws) : kvs.map (·.1) = ws.map (·.1) ∧ IsAll G F (kvs.map (·.2)) (ws.map (·.2)) := ⟨h.1.symm, h.2⟩
/-! ### a def that changes two dicts -/
/-! ### x, y, .. = new things of any kind -/
def OneC (G : Gx) (F H H0 : Hp) (O : Addr → Prop) (c : Cell) (v : V) : Prop := At G F H c (some v) ∧ ∀ a, Has c a → H0 a = none ∧ ¬ O a
def EvC (G : Gx) (te : TE) (cs : List Cell) (R : Cell → List Cell → Prop) : Prop := ∀ (F : Hp) (σ : L2.St) (H : Hp) (Q : VK), Rel G F σ H cs →
  (∀ c cs' v F' H', R c cs' → Stp F H (Owns cs) F' H' (Owns cs') → Rel G F' σ H' cs' → OneC G F' H' H (Owns cs') c v → Q v H') → te σ H Q
section
variable {X : Cx} {G : Gx} {a b c e : Expr} {pos : Pos} {cs cs1 : List Cell} {d : D} {ds : List D} {P : Post} {te : TE}
theorem EvC.mono {R R' : Cell → List Cell → Prop} (h : EvC G te cs R) (hR : ∀ c c', R c c' → R' c c') : EvC G te cs R' := fun F σ H Q rl q => h F σ H Q rl fun c c' v F1 H1 r => q c c' v F1 H1 (hR c c' r)
theorem OneC.step {F H F' H' H0 : Hp} {O O' : Addr → Prop} {c : Cell} {v : V} (h : OneC G F H H0 O c v) (s : Stp F H O F' H' O') : OneC G F' H' H0 O' c v :=
  ⟨h.1.mono s.fsub fun l u hl a1 a2 => ⟨s.frame _ _ a1 (h.2 l hl).2, free_of s a2 a1 (h.2 l hl).2⟩, fun x hx => by
    obtain ⟨u, h1, _⟩ := h.1.has hx
    exact ⟨(h.2 x hx).1, not_owns_of s h1 (h.2 x hx).2⟩⟩
theorem OneC.back {F H H0 H1 : Hp} {O : Addr → Prop} {c : Cell} {v : V} (h : OneC G F H H1 O c v) (s : ∀ a, H1 a = none → H0 a = none) : OneC G F H H0 O c v := ⟨h.1, fun x hx => ⟨s x (h.2 x hx).1, (h.2 x hx).2⟩⟩
theorem OneC.past {F H H0 : Hp} {cs : List Cell} {c c1 : Cell} {v : V} {i : Nat} (h : OneC G F H H0 (Owns cs) c v) (d : ∀ x, Has c1 x → ¬ Has c x) : OneC G F H H0 (Owns (cs.set i c1)) c v := ⟨h.1, fun x hx => ⟨(h.2 x hx).1, fun z => by
  rcases z.set with z | z
  · exact (h.2 x hx).2 z
  · exact d x z hx⟩⟩
end
end Fx
/-! FxR: sorted of a list of data of any shape (nested tuples), told as one list. -/
namespace Fx
open PySem L2 PyProof.Rows
open PySem.W (EachIs AllAlike Sortable dataLe TotalLe)
end Fx
/-! MV: signs and lengths of texts that are cut and joined. -/
/-! MW: what any text says of a table. -/
/-! if and for in a generator's body. -/
namespace Gf
open PySem L2
end Gf
/-! Generators by data. -/
namespace Fx
open PySem L2 Gf
/-! ### generator defs -/
end Fx
/-! What the top leaves: facts and defs, each at an address told by a function. -/
namespace Fx
open PySem PyProof PyProof.Rows L2
/-- a def, where it stands; sup: the file and the class of a method that says super() -/
structure Df where
  at_ : PySem.W.Frag → Addr
  name : Str
  qual : Str
  st : Stmt
  sup : Option (Str × Str)
def Df.val (d : Df) : He.FnW := some (d.name, d.qual, defArgs d.st, .stmts (defBody d.st), defScope d.st, mainGlobals, [], builtinsNs)
/-- (but for the closure) -/
def fnA (K : PySem.W.Frag) (f : Addr) : He.FnW := match K.lookup f with
  | some ⟨_, _, .func fd, _⟩ => some (fd.name, fd.qualname, fd.params, fd.body, fd.scope, fd.globals, [], fd.builtins)
  | _ => none
def isNo : Value → Bool
  | .none => true
  | _ => false
theorem isNo_ok {v : Value} (h : isNo v = true) : v = .none := by
  cases v <;> first | rfl | cases h
def noCl : List (Str × Addr) → Bool
  | [] => true
  | _ => false
theorem noCl_ok {l : List (Str × Addr)} (h : noCl l = true) : l = [] := by
  cases l <;> first | rfl | cases h
/-- a cell that holds the class at D -/
def cellIs (K : PySem.W.Frag) (c D : Addr) : Bool := match K.lookup c with
  | some ⟨_, _, .cell (some (.ref D')), _⟩ => decide (D' = D)
  | _ => false
def codeFl (K : PySem.W.Frag) (c : Addr) (file : Str) : Bool := match K.lookup c with
  | some ⟨_, _, .fields vs, _⟩ => (match (vs[2]? : Option Value) with
    | some (Value.str f _) => decide (f = file)
    | _ => false)
  | _ => false
/-- such a method's own parts: its class's cell, its code object's file -/
def supOk (K : PySem.W.Frag) (cl : List (Str × Addr)) (code : Value) (file C : Str) : Bool := match cl, code with
  | [(n, cc)], .ref cda => decide (n = ("__class__" : Str)) && (cellIs K cc (He.ga K C) && (codeFl K cda file && (PySem.W.clsIn K (He.ga K C)).isSome))
  | _, _ => false
def Df.more (K : PySem.W.Frag) (fd : FuncData) : Option (Str × Str) → Bool
  | none => noCl fd.closure && isNo fd.defaults
  | some (file, C) => supOk K fd.closure fd.code file C
def Df.ok (K : PySem.W.Frag) (d : Df) : Bool := PySem.W.keepIn K (.ref (d.at_ K)) && (match K.lookup (d.at_ K) with
  | some ⟨_, _, .func fd, _⟩ => PySem.W.codeIn K fd.code d.qual && Df.more K fd d.sup
  | _ => false)
theorem Df.fun_ {K : PySem.W.Frag} {d : Df} (e : fnA K (d.at_ K) = d.val) (c : d.ok K = true) (hs : d.sup = none) : ∃ fd, L2.Fun K d.name d.qual d.st (d.at_ K) fd := by
  obtain ⟨kp, c2⟩ := He.ba c
  unfold fnA at e
  cases q : K.lookup (d.at_ K) with
  | none =>
    rw [q] at c2
    cases c2
  | some o =>
    obtain ⟨oc, od, dt, osl⟩ := o
    rw [q] at c2 e
    cases dt with
    | func fd =>
      obtain ⟨n1, n2, n3, n4, n5, n6, n7, n8, n9, n10, n11, n12, n13, n14, n15⟩ := fd
      have e2 : (some (n1, n2, n3, n4, n5, n6, [], n15) : He.FnW) = some (d.name, d.qual, defArgs d.st, .stmts (defBody d.st), defScope d.st, mainGlobals, [], builtinsNs) := e
      simp only [Option.some.injEq, Prod.mk.injEq] at e2
      obtain ⟨h1, h2, h3, h4, h5, h6, _, h8⟩ := e2
      subst h1 h2 h3 h4 h5 h6 h8
      rw [hs] at c2
      have c3 : (PySem.W.codeIn K n13 d.qual && (noCl n7 && isNo n8)) = true := c2
      obtain ⟨k1, k⟩ := He.ba c3
      obtain ⟨k2, k3⟩ := He.ba k
      have k2 := noCl_ok k2
      have k3 := isNo_ok k3
      subst k2 k3
      exact ⟨_, ⟨oc, od, n9, n10, n11, n12, n13, n14, osl, rfl, q, k1⟩, kp⟩
    | _ => cases c2
abbrev AlY : Type := Bool × List He.FnW
def obsY (fa : List (PySem.W.Frag → Bool)) (fn : List Df) (K : PySem.W.Frag) : AlY := ((fa.all fun f => f K) && fn.all fun d => d.ok K, fn.map fun d => fnA K (d.at_ K))
/-- (a recursion of its own: the kernel must not hold the two maps' functions against each other) -/
def valsY : List Df → List He.FnW
  | [] => []
  | d :: r => d.val :: valsY r
theorem valsY_eq : ∀ fn : List Df, valsY fn = fn.map Df.val
  | [] => rfl
  | d :: r => congrArg (d.val :: ·) (valsY_eq r)
def valY (fn : List Df) : AlY := (true, valsY fn)
def SaysY (fa : List (PySem.W.Frag → Bool)) (fn : List Df) (K : PySem.W.Frag) : Prop := obsY fa fn K = valY fn
section
variable {fa : List (PySem.W.Frag → Bool)} {fn : List Df} {K : PySem.W.Frag}
theorem SaysY.fact (c : SaysY fa fn K) (i : Nat) {f : PySem.W.Frag → Bool} (h : fa[i]? = some f := by rfl) : f K = true := by
  have c1 := (He.ba (show ((fa.all fun f => f K) && fn.all fun d => d.ok K) = true from congrArg (fun z : AlY => z.1) c)).1
  exact List.all_eq_true.mp c1 f (List.mem_of_getElem? h)
theorem SaysY.raw (c : SaysY fa fn K) (i : Nat) {d : Df} (h : fn[i]? = some d := by rfl) : fnA K (d.at_ K) = d.val ∧ d.ok K = true := by
  have c2 := (He.ba (show ((fa.all fun f => f K) && fn.all fun d => d.ok K) = true from congrArg (fun z : AlY => z.1) c)).2
  have e : fn.map (fun d => fnA K (d.at_ K)) = fn.map Df.val := (show fn.map (fun d => fnA K (d.at_ K)) = valsY fn from congrArg (fun z : AlY => z.2) c).trans (valsY_eq fn)
  have e2 : (fn.map fun d => fnA K (d.at_ K))[i]? = (fn.map Df.val)[i]? := by rw [e]
  rw [List.getElem?_map, List.getElem?_map, h] at e2
  exact ⟨Option.some.inj e2, List.all_eq_true.mp c2 d (List.mem_of_getElem? h)⟩
theorem SaysY.def_ (c : SaysY fa fn K) (i : Nat) {d : Df} (h : fn[i]? = some d := by rfl) (hs : d.sup = none := by rfl) : ∃ fd, L2.Fun K d.name d.qual d.st (d.at_ K) fd := Df.fun_ (c.raw i h).1 (c.raw i h).2 hs
end
/-! ### addresses -/
def aG (x : Str) (K : PySem.W.Frag) : Addr := He.ga K x
def aM (C m : Str) (K : PySem.W.Frag) : Addr := He.ma K (He.ga K C) m
/-- the first field of a record (a property's getter, a class method's def) -/
def rec0 (K : PySem.W.Frag) (p : Addr) (T : String) : Addr := match PySem.W.recIn K p T with
  | some (.ref g :: _) => g
  | _ => 0
/-- a class method's record stands where the class's dict has it -/
def aR (C m : Str) (K : PySem.W.Frag) : Addr := match PySem.W.findCls K (.ref (He.ga K C)) (.type "type") m with
  | some (.get _ (.ref p) _ _) => p
  | _ => 0
def aK (C m : Str) (K : PySem.W.Frag) : Addr := rec0 K (aR C m K) "classmethod"
/-! ### facts of a class -/
def recHas (K : PySem.W.Frag) (p : Addr) (T : String) (g : Addr) : Bool := match PySem.W.recIn K p T with
  | some (.ref g' :: _) => decide (g' = g)
  | _ => false
theorem recHas_ok {K : PySem.W.Frag} {p g : Addr} {T : String} (h : recHas K p T g = true) : ∃ rest, PySem.W.recIn K p T = some (.ref g :: rest) := by
  unfold recHas at h
  split at h
  · rename_i g' rest e
    rw [of_decide_eq_true h] at e
    exact ⟨rest, e⟩
  · cases h
def fRead (C : Str) (K : PySem.W.Frag) : Bool := PySem.W.readsIn K (He.ga K C) (.type "type") && He.eqO (PySem.W.specialIn K (.ref (He.ga K C)) "__getattribute__") (some (some (.builtin "type.__getattribute__")))
theorem fRead_ok {C : Str} {K : PySem.W.Frag} (h : fRead C K = true) : ClX.CRead K (He.ga K C) (.type "type") := by
  obtain ⟨h1, h2⟩ := He.ba h
  exact ⟨h1, He.eqO_ok h2⟩
def isCM (C : Addr) : Option PySem.W.CFound → Addr → Bool
  | some (.get (.builtin id) (.ref p) .none (.ref c)), q => decide (id = "classmethod.__get__") && (decide (p = q) && decide (c = C))
  | _, _ => false
def fCM (C m : Str) (K : PySem.W.Frag) : Bool := isCM (He.ga K C) (PySem.W.findCls K (.ref (He.ga K C)) (.type "type") m) (aR C m K) && (recHas K (aR C m K) "classmethod" (aK C m K) && PySem.W.fnIn K (aK C m K))
theorem isCM_ok {C p : Addr} {o : Option PySem.W.CFound} (h : isCM C o p = true) : o = some (.get (.builtin "classmethod.__get__") (.ref p) .none (.ref C)) := by
  unfold isCM at h
  split at h
  · obtain ⟨h1, h⟩ := He.ba h
    obtain ⟨h2, h3⟩ := He.ba h
    rw [of_decide_eq_true h1, of_decide_eq_true h2, of_decide_eq_true h3]
  · cases h
theorem fCM_ok {C m : Str} {K : PySem.W.Frag} (h : fCM C m K = true) : ClX.CMet K (He.ga K C) (.type "type") m (aR C m K) (aK C m K) := by
  obtain ⟨h1, h⟩ := He.ba h
  obtain ⟨h2, h3⟩ := He.ba h
  exact ⟨isCM_ok h1, recHas_ok h2, h3⟩
def fTy (C : Str) (K : PySem.W.Frag) : Bool := He.eqO (PySem.W.findIn K (.ref (He.ga K C)) "__class__") (some (some (.builtin "object.__class__"))) && (He.eqO (PySem.W.specialIn K (.builtin "object.__class__") "__get__") (some (some (.builtin "getset_descriptor.__get__"))) && (decide (PySem.W.takesIn K (.builtin "object.__class__") = some true) && decide (PySem.W.mroIn K (He.ga K C) (.type "object") = some true)))
theorem fTy_ok {C : Str} {K : PySem.W.Frag} (h : fTy C K = true) (cl : Cls K (He.ga K C)) (a dx : Addr) (fs : List (Str × V)) : TyOf K (fun b => if b = a then some (.ins (He.ga K C) dx fs) else none) (.ref a) (.ref (He.ga K C)) := by
  obtain ⟨h1, h⟩ := He.ba h
  obtain ⟨h2, h⟩ := He.ba h
  obtain ⟨h3, h4⟩ := He.ba h
  exact .ins (dx := dx) (fs := fs) (if_pos rfl) cl (He.eqO_ok h1) (He.eqO_ok h2) (of_decide_eq_true h3) (of_decide_eq_true h4)
def fKit (C : Str) (K : PySem.W.Frag) : Bool := decide (PySem.W.kitOne K (.ref (He.ga K C)) (.ref (He.ga K C)) = some true)
def fCall (C : Str) (K : PySem.W.Frag) : Bool := He.eqO (PySem.W.findIn K (.ref (He.ga K C)) "__call__") (some (some (.ref (aM C "__call__" K)))) && (PySem.W.isFn K (.ref (aM C "__call__" K)) && PySem.W.fnIn K (aM C "__call__" K))
theorem fCall_ok {C : Str} {K : PySem.W.Frag} (h : fCall C K = true) : StX.CallO K (He.ga K C) (aM C "__call__" K) := by
  obtain ⟨h1, h⟩ := He.ba h
  obtain ⟨h2, h3⟩ := He.ba h
  exact ⟨He.eqO_ok h1, h2, h3⟩
/-! the parts that hang at the module's names and at the machine's own tables: level by level, the ones seen as the bits of a number -/
def frB {α : Type} (n : Nat) (k : Nat → α) : α := match n with
  | 0 => k 0
  | m + 1 => k (m + 1)
def addY : List Addr → Nat → List Addr → (List Addr → Nat → List Addr) → List Addr
  | [], seen, acc, k => k acc seen
  | a :: r, seen, acc, k => match Nat.land (Nat.shiftRight seen a) 1 with
    | 0 => frB (Nat.lor seen (Nat.shiftLeft 1 a)) fun seen => addY r seen (a :: acc) k
    | _ + 1 => addY r seen acc k
def refsY (g : Addr → Option Obj) (a : Addr) : List Addr := match g a with
  | some o => He.refsD o
  | none => []
/-- the refs of the ones at hand -/
def nextY (g : Addr → Option Obj) : List Addr → Nat → List Addr → (List Addr → Nat → List Addr) → List Addr
  | [], seen, acc, k => k acc seen
  | a :: r, seen, acc, k => addY (refsY g a) seen acc fun acc seen => nextY g r seen acc k
def walkY (g : Addr → Option Obj) : Nat → List Addr → Nat → List Addr
  | 0, now, _ => now
  | n + 1, now, seen => now ++ nextY g now seen [] fun nx seen => walkY g n nx seen
def asY (g : Addr → Option Obj) (more : List Addr) (n : Nat) : List Addr := addY (mainGlobals :: more) 0 [] fun now seen => walkY g n now seen
def obsZG (n : Nat) (more : List Addr) (fa : List (PySem.W.Frag → Bool)) (fn : List Df) (g : Addr → Option Obj) : AlY := obsY fa fn (He.frG g (asY g more n))
def hookZ (n : Nat) (more : List Addr) (fa : List (PySem.W.Frag → Bool)) (fn : List Df) : PySem.W.Hook where
  α := AlY
  obs := fun s => obsZG n more fa fn s.heap.get?
  val := fun _ => valY fn
  says := fun _ h => ∃ K : PySem.W.Frag, K.In h ∧ SaysY fa fn K
  of := fun _ _ e => ⟨_, He.frG_in, e⟩
  keeps := fun _ _ _ ⟨K, hK, c⟩ k => ⟨K, PySem.W.Frag.In.keeps hK k, c⟩
theorem obsZG_eq {n : Nat} {more : List Addr} {fa : List (PySem.W.Frag → Bool)} {fn : List Df} {g : Addr → Option Obj} {s : Shared} (h : ∀ a, g a = s.heap.get? a) : obsZG n more fa fn g = (hookZ n more fa fn).obs s := by
  have e : g = s.heap.get? := funext h
  rw [e] <;> rfl
theorem bindsTo1 {K : PySem.W.Frag} {name qual x : Str} {st : Stmt} {f : Addr} {fd : FuncData} (F : L2.Fun K name qual st f fd)
    (h : ∀ (kV doc pm : Value) (an : Option Addr) (cdv ct u : Value), bindArgs (PySem.W.fnOf name qual (defArgs st) (defBody st) (defScope st) .none kV doc pm an cdv ct) ⟨[u], []⟩ = pure [(x, u)]) (s : Shared) (v : Value) : BindsTo s fd ⟨[v], []⟩ [(x, v)] := by
  obtain ⟨oc, od, kV, doc, pm, an, cdv, ct, osl, rfl, lk, hcd⟩ := F.ex
  exact .of_eq (h kV doc pm an cdv ct v)
/-! ### the run in parts: each part runs the module anew, so that less memory is in use at a time -/
end Fx
namespace Pr
open PySem L2 Fx Mt
def top (i : Nat) : Stmt := PySem.Challenge.pw_countcycles_k62_which_rules_follow.main.body.getD i (.Pass ⟨0, 0, 0, 0⟩)
/-- the built-in names that the text uses -/
def bnames : List Str := ["len", "range", "sorted", "set", "max", "min", "list", "tuple", "str", "int", "isinstance", "zip", "enumerate", "all", "bool", "repr", "sum", "any"]
structure Tx (mg : Str → Option Value) : Prop where
  bi : ∀ n ∈ bnames, mg n = none
  SETTLES : ∃ t, mg "SETTLES" = some (.str "settles" t)
  WITHIN : ∃ t, mg "WITHIN" = some (.str "within" t)
  MOST_WIDTH : ∃ t, mg "MOST_WIDTH" = some (.int 6 t)
section
variable {mg : Str → Option Value}
theorem Tx.len (T : Tx mg) : mg "len" = none := T.bi _ (by decide +kernel)
theorem Tx.range (T : Tx mg) : mg "range" = none := T.bi _ (by decide +kernel)
theorem Tx.sorted (T : Tx mg) : mg "sorted" = none := T.bi _ (by decide +kernel)
theorem Tx.set (T : Tx mg) : mg "set" = none := T.bi _ (by decide +kernel)
theorem Tx.max (T : Tx mg) : mg "max" = none := T.bi _ (by decide +kernel)
theorem Tx.min (T : Tx mg) : mg "min" = none := T.bi _ (by decide +kernel)
theorem Tx.list (T : Tx mg) : mg "list" = none := T.bi _ (by decide +kernel)
theorem Tx.tuple (T : Tx mg) : mg "tuple" = none := T.bi _ (by decide +kernel)
theorem Tx.str (T : Tx mg) : mg "str" = none := T.bi _ (by decide +kernel)
theorem Tx.int (T : Tx mg) : mg "int" = none := T.bi _ (by decide +kernel)
theorem Tx.isinstance (T : Tx mg) : mg "isinstance" = none := T.bi _ (by decide +kernel)
theorem Tx.zip (T : Tx mg) : mg "zip" = none := T.bi _ (by decide +kernel)
theorem Tx.enumerate (T : Tx mg) : mg "enumerate" = none := T.bi _ (by decide +kernel)
theorem Tx.all (T : Tx mg) : mg "all" = none := T.bi _ (by decide +kernel)
theorem Tx.bool (T : Tx mg) : mg "bool" = none := T.bi _ (by decide +kernel)
theorem Tx.repr (T : Tx mg) : mg "repr" = none := T.bi _ (by decide +kernel)
theorem Tx.sum (T : Tx mg) : mg "sum" = none := T.bi _ (by decide +kernel)
theorem Tx.any (T : Tx mg) : mg "any" = none := T.bi _ (by decide +kernel)
end
def encP (p : Int × Int) : D := .tup [.int p.1, .int p.2]
def optW : Option (List Int) → D
  | none => .non
  | some w => .tup (w.map .int)
def encW (w : List Int) : D := .tup (w.map .int)
def encR (r : R) : D := .tup [.str (kS r.1), .int r.2.1, .int r.2.2]
theorem kS_settles (k : Bool) : decide (kS k = "settles") = k := by cases k <;> decide +kernel
theorem kS_eq (k j : Bool) : decide (kS k = kS j) = decide (k = j) := by cases k <;> cases j <;> decide +kernel
def Seq (d : D) (ds : List D) : Prop := d = .lst ds ∨ d = .tup ds
def C_shortest : List D → Out → Prop := fun ds o => ∃ (ps : List (Int × Int)) (a b : Int), ds = [.lst (ps.map encP), .int a, .int b] ∧ ps.length < 64 ∧ o = .val (optW (short ps a b))
def C_leads : List D → Out → Prop := fun ds o => ∃ (ps : List (Int × Int)) (a b : Int), ds = [.lst (ps.map encP), .int a, .int b] ∧ ps.length < 64 ∧ o = .val (.bl (short ps a b).isSome)
def C_downs : List D → Out → Prop := fun ds o => ∃ (q : D) (rs : List R), ds = [q] ∧ Seq q (rs.map encR) ∧ rs.length < 64 ∧ o = .new ((dns rs).map encP)
def C_ring_of : List D → Out → Prop := fun ds o => ∃ (q : D) (rs : List R) (k : Bool) (a b : Int), ds = [q, .str (kS k), .int a, .int b] ∧ Seq q (rs.map encR) ∧ rs.length < 64 ∧ o = .val (optW (ring rs k a b))
def C_arrows : List D → Out → Prop := fun ds o => ∃ (q : D) (rs : List R) (k : Bool), ds = [q, .str (kS k)] ∧ Seq q (rs.map encR) ∧ rs.length < 64 ∧ o = .new ((arr rs k).map encP)
def C_follows : List D → Out → Prop := fun ds o => ∃ (q : D) (rs : List R) (r : R), ds = [q, encR r] ∧ Seq q (rs.map encR) ∧ rs.length < 64 ∧ (arr rs r.1).length < 64 ∧ o = .val (.bl (fol rs r))
theorem isN_optW (o : Option (List Int)) : (!isN (optW o)) = o.isSome := by cases o <;> rfl
theorem eqD_str (s t : Str) : eqD (.str s) (.str t) = decide (s = t) := by
  show (s == t) = _
  by_cases h : s = t
  · rw [decide_eq_true h, h]; exact beq_self_eq_true _
  · rw [decide_eq_false h]; exact beq_eq_false_iff_ne.mpr h
theorem eqD_encR (r s : R) : eqD (encR r) (encR s) = decide (r = s) := by
  obtain ⟨k, a, b⟩ := r
  obtain ⟨k2, a2, b2⟩ := s
  have e : eqD (encR (k, a, b)) (encR (k2, a2, b2)) = (eqD (.str (kS k)) (.str (kS k2)) && (eqD (.int a) (.int a2) && (eqD (.int b) (.int b2) && true))) := rfl
  rw [e, eqD_str, kS_eq, eqD_int, eqD_int]
  simp [Prod.ext_iff]
  rfl
theorem kS_lay (k : Bool) : PyData.canLay0 (.str (kS k)) = true := by cases k <;> decide +kernel
theorem encR_fine (r : R) : Fx.plain (encR r) = true ∧ deep (encR r) ≤ 1 := ⟨by
  show (PyData.canLay0 (.str (kS r.1)) && (true && (true && true))) = true
  rw [kS_lay]; rfl, by show max 0 (max 0 (max 0 0)) + 1 ≤ 1; decide⟩
theorem fine_encR (r : R) : fine (encR r) := ⟨(encR_fine r).1, Nat.le_trans (encR_fine r).2 (by decide)⟩
theorem fine_encRs (rs : List R) : fine (.lst (rs.map encR)) := fine_lst fun d hd => by
  obtain ⟨v, _, rfl⟩ := List.mem_map.mp hd
  exact ⟨(encR_fine v).1, Nat.le_trans (encR_fine v).2 (by decide)⟩
theorem fine_encRt (rs : List R) : fine (.tup (rs.map encR)) := fine_tup fun d hd => by
  obtain ⟨v, _, rfl⟩ := List.mem_map.mp hd
  exact ⟨(encR_fine v).1, Nat.le_trans (encR_fine v).2 (by decide)⟩
theorem any_encR (r : R) (rs : List R) : ((rs.map encR).any fun z => eqD z (encR r)) = decide (r ∈ rs) := by
  induction rs with
  | nil => rfl
  | cons s rs ih =>
    rw [List.map_cons, List.any_cons, ih, eqD_encR]
    simp only [List.mem_cons, Bool.decide_or]
    congr 1
    exact decide_eq_decide.mpr ⟨Eq.symm, Eq.symm⟩
theorem count_encR (r : R) (rs : List R) : ((rs.map encR).countP fun z => eqD z (encR r)) = rs.count r := by
  induction rs with
  | nil => rfl
  | cons s rs ih =>
    rw [List.map_cons, List.countP_cons, ih, eqD_encR, List.count_cons]
    simp
theorem count_one {rs : List R} (h : rs.Nodup) {r : R} (hr : r ∈ rs) : rs.count r = 1 := by
  have h1 := List.nodup_iff_count.mp h r
  have h2 := List.count_pos_iff.mpr hr
  omega
theorem _root_.Mt.Ok.filter {w : Int} {rs : List R} (h : Ok w rs) (f : R → Bool) : Ok w (rs.filter f) := ⟨h.nd.filter f, fun r hr => h.lo r ((List.mem_filter.mp hr).1)⟩
theorem _root_.Mt.Ok.arr {w : Int} {rs : List R} (h : Ok w rs) (hw : w ≤ 6) (k : Bool) : (Mt.arr rs k).length < 64 := by
  have h1 := arr_len rs k
  have h2 := h.kind hw k
  omega
/-- a list of rules, as an object -/
def encK (w : Int) (rs : List R) : D := .obj 0 [.int w, .ptup (rs.map encR)]
def okR (w : Int) (r : R) : Bool := (decide (0 ≤ r.2.1) && decide (r.2.1 ≤ w - 1)) && ((decide (0 ≤ r.2.2) && decide (r.2.2 ≤ w - 1)) && !decide (r.2.1 = r.2.2))
theorem Ok.okR {w : Int} {rs : List R} (h : Ok w rs) {r : R} (hr : r ∈ rs) : okR w r = true := by
  have := h.lo r hr
  unfold Pr.okR
  simp
  omega
/-- what is known of the class -/
structure RC (G : Gx) (mg : Str → Option Value) : Prop where
  fld : G.fld 0 = [("columns" : Str), "kept"]
  cl : Cls G.K (G.cls 0)
  n1 : NoAttr G.K (G.cls 0) "columns"
  n2 : NoAttr G.K (G.cls 0) "kept"
  nm : mg "Rules" = some (.ref (G.cls 0))
  ty : ∀ a dx fs, TyOf G.K (fun b => if b = a then some (.ins (G.cls 0) dx fs) else none) (.ref a) (.ref (G.cls 0))
  kit : PySem.W.kitOne G.K (.ref (G.cls 0)) (.ref (G.cls 0)) = some true
def C_is_integer : List D → Out → Prop := fun ds o => ∃ i : Int, ds = [.int i] ∧ o = .val (.bl true)
def C_is_between : List D → Out → Prop := fun ds o => ∃ i a b : Int, ds = [.int i, .int a, .int b] ∧ o = .val (.bl (decide (a ≤ i) && decide (i ≤ b)))
def C_need_width : List D → Out → Prop := fun ds o => ∃ i : Int, ds = [.int i] ∧ 1 ≤ i ∧ i ≤ 6 ∧ o = .val .non
def C_is_column : List D → Out → Prop := fun ds o => ∃ i w : Int, ds = [.int i, .int w] ∧ o = .val (.bl (decide (0 ≤ i) && decide (i ≤ w - 1)))
def C_is_rule : List D → Out → Prop := fun ds o => ∃ (r : R) (w : Int), ds = [encR r, .int w] ∧ o = .val (.bl (okR w r))
def C_need_rule : List D → Out → Prop := fun ds o => ∃ (r : R) (w : Int), ds = [encR r, .int w] ∧ okR w r = true ∧ o = .val .non
def C_are_rules : List D → Out → Prop := fun ds o => ∃ (q : D) (rs : List R) (w : Int), ds = [q, .int w] ∧ (q = .lst (rs.map encR) ∨ q = .ptup (rs.map encR)) ∧ Ok w rs ∧ rs.length < 64 ∧ o = .val (.bl true)
def C_column_of : List D → Out → Prop := fun ds o => ∃ a : Nat, ds = [.str (nS (a : Int))] ∧ a < 6 ∧ o = .val (.int (a : Int))
def C_rule_of : List D → Out → Prop := fun ds o => ∃ (w : Int) (rs : List R) (r : R), ds = [.str (lnS r)] ∧ Ok w rs ∧ w ≤ 6 ∧ r ∈ rs ∧ o = .val (encR r)
def C_init : List D → List D → Prop := fun ds fs => ∃ (w : Int) (rs : List R), ds = .int w :: rs.map encR ∧ Ok w rs ∧ 1 ≤ w ∧ w ≤ 6 ∧ fs = [.int w, .ptup (rs.map encR)]
def C_read : List D → Out → Prop := fun ds o => ∃ (w : Int) (rs : List R), ds = [.cls 0, .int w, .str (textOf rs)] ∧ Ok w rs ∧ 1 ≤ w ∧ w ≤ 6 ∧ o = .val (encK w rs)
end Pr
namespace Pr
open PySem L2 Fx Mt
abbrev s_shortest : Stmt := top 11
section
variable {P : Program} {w : World} {G : Gx} {mg : Str → Option Value} {base : Heap}
abbrev N_shortest : List Str := ["pairs", "a", "b", "walks", "had", "walk", "longer", "column", "start", "end"]
theorem sc_shortest : FnScope N_shortest ["pairs", "a", "b"] (defScope s_shortest) := ⟨rfl, rfl, rfl, by decide +kernel, rfl, by decide +kernel, by decide +kernel⟩
theorem ok_shortest {f : Addr} {fd : FuncData} (F : L2.Fun G.K "shortest" "shortest" s_shortest f fd) (hb : Binds G.K fd ["pairs", "a", "b"] []) (T : Tx mg) : FnR P w G.K mg base CX0 1 f (sp0 G C_shortest) := by
  refine fn0 F sc_shortest hb (fun ds o ⟨ps, a, b, e, _⟩ => by rw [e]; rfl) (by decide) fun cdv A outer s H E hr ds o hC => ?_
  obtain ⟨ps, a, b, rfl, hps, rfl⟩ := hC
  obtain ⟨m, r, hm, hrun, er⟩ : ∃ m r, m ≤ 1000 ∧ run ps b m [[a]] [a] = some r ∧ r = short ps a b := ⟨_, _, by omega, short_run ps a b, rfl⟩
  rw [← er]
  have hu65 : (cx0 P w G.K mg base N_shortest "shortest" s_shortest f cdv A outer s H E).A.units + 65 < cLine := by have := hr.un; omega
  -- walks, had = [(a,)], [a]
  refine sx_cons (sx_parNN 3 4 (evn_lst (evv_cons (ev_tup (evv_cons (ev_var 1 rfl rfl (.inl rfl)) evv_nil) rfl) evv_nil) rfl) (evn_lst (evv_cons (ev_var 1 rfl rfl (.inl rfl)) evv_nil) rfl) (fun l lh => ?_) (fun h => ps_par (i := 3) (j := 4) rfl sc_shortest.nd rfl rfl (by decide) rfl rfl h (by rfl)) (by decide))
  refine sx_frz 3 (l := l) (ds := [encW [a]]) rfl ?_
  -- while walks != []:
  refine sx_cons (sx_while (m0 := m) (fun m c => ∃ ws had n c5 c6 c7, c = [.val (.lst (ps.map encP)), .val (.int a), .val (.int b), .val (.lst (ws.map encW)), .own lh (had.map .int), c5, c6, c7, .no, .no] ∧ Wk ps a n ws had ∧ n + m ≤ 1001 ∧ run ps b m ws had = some r)
    ⟨[[a]], [a], 1, .no, .no, .no, rfl, ⟨by simp, by simp, by simp, by simp, by simp⟩, by omega, hrun⟩ (fun m c hI => ?_))
  obtain ⟨ws, had, n, c5, c6, c7, rfl, hW, hn, hrun⟩ := hI
  have fw : fine (.lst (ws.map encW)) := fine_lst fun d hd => by
    obtain ⟨v, _, rfl⟩ := List.mem_map.mp hd
    exact ⟨tup_ints.1, Nat.le_trans tup_ints.2 (by decide)⟩
  have lastV : ∀ v ∈ ws, (v.map D.int)[(v.map D.int).length - 1]? = some (.int (v.getLastD 0)) := fun v hv => by
    have h0 := hW.ne v hv
    rw [List.length_map, List.getElem?_map, List.getLastD_eq_getLast?, List.getLast?_eq_getElem?]
    cases v with
    | nil => exact absurd rfl h0
    | cons x v => simp
  have lastI : ∀ v ∈ ws, ixN (v.map D.int).length (-1) = some ((v.map D.int).length - 1) := fun v hv => ixN_last (by
    have h0 := hW.ne v hv
    rw [List.length_map]
    exact List.length_pos_iff.mpr h0)
  refine ⟨_, _, et_c (c_neD hr.units fw (fine_lst (by simp))) (ev_var 3 rfl rfl (.inl rfl)) (evn_lst evv_nil rfl).ev, fun hb => ?_, fun hb => ?_⟩
  · rw [eqD_nil] at hb
    have hne : ws ≠ [] := fun z => by rw [z] at hb; cases hb
    cases m with
    | zero => cases hrun
    | succ m =>
      have hrun2 : (match ws.find? (fun w => w.getLastD 0 == b) with | some w => some (some w) | none => run ps b m (level ps ws had).1 (level ps ws had).2) = some r := by
        have := hrun
        unfold Mt.run at this
        rw [if_neg hne] at this
        exact this
      -- for walk in walks: if walk[-1] == b: return walk
      refine sx_cons (sx_for (ei_list (ev_var 3 rfl rfl (.inl rfl))) (fun i c => (∃ c5, c = [.val (.lst (ps.map encP)), .val (.int a), .val (.int b), .val (.lst (ws.map encW)), .own lh (had.map .int), c5, c6, c7, .no, .no]) ∧ ∀ v ∈ ws.take i, (v.getLastD 0 == b) = false) ⟨⟨c5, rfl⟩, by simp⟩ (fun i d c hi hI => ?_) (fun c hI => ?_) rfl)
      · obtain ⟨⟨c5, rfl⟩, hno⟩ := hI
        rw [List.getElem?_map] at hi
        cases e : ws[i]? with
        | none => rw [e] at hi; cases hi
        | some v =>
          rw [e] at hi
          cases hi
          have hv : v ∈ ws := List.mem_of_getElem? e
          refine ⟨_, _, eg_name 5 sc_shortest.nd rfl (.inr rfl) (.inl rfl), ?_⟩
          refine sx_one (sx_if (et_c c_eq (ev_i (i_tup (lastI v hv) (lastV v hv)) (ev_var 5 rfl rfl (.inr (.inl rfl))) (ev_neg ev_int)) (ev_var 2 rfl rfl (.inl rfl))) (fun hb => ?_) (fun hb => ?_))
          · refine sx_one (sx_ret (ev_var 5 rfl rfl (.inr (.inl rfl))) ?_)
            have hf : ws.find? (fun w => w.getLastD 0 == b) = some v := by
              have hb' : (v.getLastD 0 == b) = true := by rw [beq_iff_eq]; exact of_decide_eq_true hb
              rw [List.find?_eq_some_iff_getElem]
              obtain ⟨hlt, hge⟩ := List.getElem?_eq_some_iff.mp e
              refine ⟨hb', i, hlt, hge, fun j hj => ?_⟩
              rw [hno ws[j] (List.mem_take_iff_getElem.mpr ⟨j, by omega, rfl⟩)]
              rfl
            rw [hf] at hrun2
            cases hrun2
            rfl
          · refine sx_nil ⟨⟨_, rfl⟩, fun v' hv' => ?_⟩
            rw [List.take_add_one, e] at hv'
            rcases List.mem_append.mp hv' with hv' | hv'
            · exact hno v' hv'
            · simp at hv'
              subst hv'
              rw [beq_eq_false_iff_ne]
              exact of_decide_eq_false hb
      · obtain ⟨⟨c5, rfl⟩, hno⟩ := hI
        rw [List.length_map, List.take_length] at hno
        have hf : ws.find? (fun w => w.getLastD 0 == b) = none := List.find?_eq_none.mpr fun v hv => by rw [hno v hv]; decide
        rw [hf] at hrun2
        -- longer = []
        refine sx_cons (sx_setN 6 (evn_lst evv_nil rfl) (fun ll => ?_) sc_shortest.nd rfl (.inl rfl) (.inl rfl))
        -- for walk in walks:
        refine sx_cons (sx_for (ei_list (ev_var 3 rfl rfl (.inl rfl))) (fun i c => ∃ lo hd c5 c7, c = [.val (.lst (ps.map encP)), .val (.int a), .val (.int b), .val (.lst (ws.map encW)), .own lh (hd.map .int), c5, .own ll (lo.map encW), c7, .no, .no] ∧ (lo, hd) = (ws.take i).foldl (stepW ps) ([], had) ∧ Lv ps a n (lo, hd))
          ⟨[], had, c5, c7, rfl, by simp, ⟨by simp, by simp, by simp, hW.nd, hW.of⟩⟩ (fun i d c hi hI => ?_) (fun c hI => ?_) rfl)
        · obtain ⟨lo, hd, c5, c7, rfl, hfold, hL⟩ := hI
          rw [List.getElem?_map] at hi
          cases e : ws[i]? with
          | none => rw [e] at hi; cases hi
          | some v =>
            rw [e] at hi
            cases hi
            have hv : v ∈ ws := List.mem_of_getElem? e
            refine ⟨_, _, eg_name 5 sc_shortest.nd rfl (.inr rfl) (.inl rfl), ?_⟩
            have hend : (endsAt ps (v.getLastD 0)).length ≤ ps.length := by
              unfold endsAt
              rw [List.length_map]
              exact List.length_filter_le _ _
            refine sx_one (sx_for (ei_list (EvN.ev (evn_sortSet (ns := endsAt ps (v.getLastD 0)) (EvN.ev (evn_is (evn_lc (own := [("start", 8), ("end", 9)]) (evn_pure ps encP (fun p => p.1 == v.getLastD 0) (fun p => .int p.2) (ei_list (ev_var 0 rfl rfl (.inl rfl))) (by omega) fun p hp =>
                ⟨_, _, by decide, fun _ _ _ _ _ => eg_tup rfl (egs_cons (eg_name 8 sc_shortest.nd rfl (.inl rfl) (.inr rfl)) (egs_cons (eg_name 9 sc_shortest.nd rfl (.inl rfl) (.inr rfl)) egs_nil)),
                  fun _ _ _ _ _ => ets_one (et_is (et_c c_eq (ev_var 8 rfl rfl (.inl rfl)) (ev_i (i_tup (lastI v hv) (lastV v hv)) (ev_var 5 rfl rfl (.inr (.inl rfl))) (ev_neg ev_int))) (by rw [Bool.beq_eq_decide_eq])),
                  fun _ _ _ _ _ _ => ev_var 9 rfl rfl (.inl rfl), rfl⟩) rfl sc_shortest.nd (blkOk_by (N := N_shortest) (sc := defScope s_shortest) (by decide +kernel))) (by unfold endsAt; rw [List.map_map]; rfl))) (by omega) rfl rfl T.sorted rfl T.set)))
              (fun j c => ∃ lo2 hd2 c7, c = [.val (.lst (ps.map encP)), .val (.int a), .val (.int b), .val (.lst (ws.map encW)), .own lh (hd2.map .int), .val (encW v), .own ll (lo2.map encW), c7, .no, .no] ∧ (lo2, hd2) = ((srt (endsAt ps (v.getLastD 0))).take j).foldl (stepC v) (lo, hd) ∧ Lv ps a n (lo2, hd2))
              ⟨lo, hd, c7, rfl, by simp, hL⟩ (fun j d c hi hI => ?_) (fun c hI => ?_) rfl)
            · obtain ⟨lo2, hd2, c7, rfl, hf2, hL2⟩ := hI
              rw [List.getElem?_map] at hi
              cases e2 : (srt (endsAt ps (v.getLastD 0)))[j]? with
              | none => rw [e2] at hi; cases hi
              | some col =>
                rw [e2] at hi
                cases hi
                have hcol : col ∈ ps.map (·.2) := by
                  have h1 := mem_srt.mp (List.mem_of_getElem? e2)
                  unfold endsAt at h1
                  obtain ⟨p, hp, rfl⟩ := List.mem_map.mp h1
                  exact List.mem_map.mpr ⟨p, (List.mem_filter.mp hp).1, rfl⟩
                have hhd := hL2.had
                have hfw := hL2.few
                have hvl := hW.le v hv
                simp only at hhd hfw
                refine ⟨_, _, eg_name 7 sc_shortest.nd rfl (.inl rfl) (.inl rfl), ?_⟩
                -- if column not in had:
                refine sx_one (sx_if (et_cO 4 (c_niL hu65 ⟨rfl, Nat.zero_le _⟩ (fine_lst fun d hd => ⟨(ints_flat d hd).1, Nat.le_trans (ints_flat d hd).2 (by decide)⟩)) (ev_var 7 rfl rfl (.inl rfl)) rfl rfl (.inl rfl)) (fun hb => ?_) (fun hb => ?_))
                · rw [any_int] at hb
                  have hb2 : hd2.contains col = false := by
                    cases q : hd2.contains col with
                    | false => rfl
                    | true => rw [q] at hb; cases hb
                  -- had.append(column)
                  refine sx_cons (sx_append 4 rfl (ev_var 7 rfl rfl (.inl rfl)) rfl (by rw [List.length_map]; omega) ?_ rfl (.inl rfl) (pe_bm PySem.F.plainAttrs_list PySem.F.slot_list_append PySem.F.type_list_append mt_append))
                  -- longer.append(walk + (column,))
                  refine sx_one (sx_append 6 rfl (ev_b (b_addT (by rw [List.length_map]; show _ + 1 ≤ _; omega)) (ev_var 5 rfl rfl (.inr (.inl rfl))) (ev_tup (evv_cons (ev_var 7 rfl rfl (.inl rfl)) evv_nil) rfl)) rfl (by rw [List.length_map]; omega) ?_ rfl (.inl rfl) (pe_bm PySem.F.plainAttrs_list PySem.F.slot_list_append PySem.F.type_list_append mt_append))
                  refine ⟨lo2 ++ [v ++ [col]], hd2 ++ [col], .val (.int col), ?_, ?_, hL2.add hvl hcol hb2⟩
                  · simp only [List.map_append, List.map_cons, List.map_nil, encW]
                    rfl
                  · rw [List.take_add_one, e2, List.foldl_append, ← hf2]
                    exact (stepC_yes (s := (lo2, hd2)) hb2).symm
                · rw [any_int] at hb
                  have hb2 : hd2.contains col = true := by
                    cases q : hd2.contains col with
                    | true => rfl
                    | false => rw [q] at hb; cases hb
                  refine sx_nil ⟨lo2, hd2, _, rfl, ?_, hL2⟩
                  rw [List.take_add_one, e2, List.foldl_append, ← hf2]
                  exact (stepC_no (s := (lo2, hd2)) hb2).symm
            · obtain ⟨lo2, hd2, c7, rfl, hf2, hL2⟩ := hI
              rw [List.length_map, List.take_length] at hf2
              refine ⟨lo2, hd2, _, c7, rfl, ?_, hL2⟩
              rw [List.take_add_one, e, List.foldl_append, ← hfold]
              exact hf2
        · obtain ⟨lo, hd, c5, c7, rfl, hfold, hL⟩ := hI
          rw [List.length_map, List.take_length] at hfold
          -- walks = longer
          refine sx_one (sx_set 3 (ev_varO 6 rfl rfl (.inl rfl)) ?_ sc_shortest.nd rfl (.inl rfl) (.inl rfl))
          have e1 : lo = (level ps ws had).1 := congrArg Prod.fst hfold
          have e2 : hd = (level ps ws had).2 := congrArg Prod.snd hfold
          rw [← e1, ← e2] at hrun2
          exact ⟨m, Nat.lt_succ_self m, lo, hd, n + 1, c5, _, c7, rfl, ⟨hL.ne, hL.le, hL.few, hL.nd, hL.of⟩, by omega, hrun2⟩
  · rw [eqD_nil] at hb
    have hne : ws = [] := by
      cases ws with
      | nil => rfl
      | cons x y => cases hb
    subst hne
    cases m with
    | zero => cases hrun
    | succ m =>
      unfold Mt.run at hrun
      rw [if_pos rfl] at hrun
      cases hrun
      refine sx_one (sx_ret ev_non rfl)
end
end Pr
namespace Pr
open PySem L2 Fx Mt
abbrev s_leads : Stmt := top 12
section
variable {P : Program} {w : World} {G : Gx} {mg : Str → Option Value} {base : Heap}
theorem sc_leads : FnScope ["pairs", "a", "b"] ["pairs", "a", "b"] (defScope s_leads) := ⟨rfl, rfl, rfl, by decide +kernel, rfl, by decide +kernel, by decide +kernel⟩
theorem ok_leads {f : Addr} {fd : FuncData} (F : L2.Fun G.K "leads" "leads" s_leads f fd) (hb : Binds G.K fd ["pairs", "a", "b"] []) (F_shortest : Fn0 G P w mg base 1 "shortest" C_shortest) : FnR P w G.K mg base CX0 2 f (sp0 G C_leads) := by
  refine fn0 F sc_leads hb (fun ds o ⟨ps, a, b, e, _⟩ => by rw [e]; rfl) (by decide) fun cdv A outer s H E hr ds o hC => ?_
  obtain ⟨ps, a, b, rfl, hps, rfl⟩ := hC
  refine sx_one (sx_ret (ev_c c_notN (ev_fn0 F_shortest hr (by decide) (evv_cons (ev_var 0 rfl rfl (.inl rfl)) (evv_cons (ev_var 1 rfl rfl (.inl rfl)) (evv_cons (ev_var 2 rfl rfl (.inl rfl)) evv_nil))) ⟨ps, a, b, rfl, hps, rfl⟩ rfl) ev_non) ?_)
  exact congrArg D.bl (isN_optW _)
end
end Pr
namespace Pr
open PySem L2 Fx Mt
abbrev s_downs : Stmt := top 13
abbrev N_downs : List Str := ["rules", "kind", "a", "b"]
section
variable {P : Program} {w : World} {G : Gx} {mg : Str → Option Value} {base : Heap}
theorem sc_downs : FnScope N_downs ["rules"] (defScope s_downs) := ⟨rfl, rfl, rfl, by decide +kernel, rfl, by decide +kernel, by decide +kernel⟩
theorem ok_downs {f : Addr} {fd : FuncData} (F : L2.Fun G.K "downs" "downs" s_downs f fd) (hb : Binds G.K fd ["rules"] []) (T : Tx mg) : FnR P w G.K mg base CX0 1 f (sp0 G C_downs) := by
  refine fn0 F sc_downs hb (fun ds o ⟨q, rs, e, _⟩ => by rw [e]; rfl) (by decide) fun cdv A outer s H E hr ds o hC => ?_
  obtain ⟨q, rs, rfl, hq, hz, rfl⟩ := hC
  refine sx_one (sx_retN (evn_is (evn_lc (own := [("kind", 1), ("a", 2), ("b", 3)]) (evn_pure rs encR (fun _ => true) (fun r => encP (dn r)) (ei_seq (ev_var 0 rfl rfl (.inl rfl)) hq) (by omega) fun r hr =>
    ⟨_, _, by decide, fun _ _ _ _ _ => eg_tup rfl (egs_cons (eg_name 1 sc_downs.nd rfl (.inl rfl) (.inr rfl)) (egs_cons (eg_name 2 sc_downs.nd rfl (.inl rfl) (.inr rfl)) (egs_cons (eg_name 3 sc_downs.nd rfl (.inl rfl) (.inr rfl)) egs_nil))),
      fun _ _ _ _ _ => ets_nil, fun _ _ _ _ _ _ => ev_if (et_c c_eqS (ev_var 1 rfl rfl (.inl rfl)) (ev_gstr rfl T.SETTLES)) (fun hk => ev_is (ev_tup (evv_cons (ev_var 2 rfl rfl (.inl rfl)) (evv_cons (ev_var 3 rfl rfl (.inl rfl)) evv_nil)) rfl) ?_) (fun hk => ev_is (ev_tup (evv_cons (ev_var 3 rfl rfl (.inl rfl)) (evv_cons (ev_var 2 rfl rfl (.inl rfl)) evv_nil)) rfl) ?_), rfl⟩) rfl sc_downs.nd (blkOk_by (N := N_downs) (sc := defScope s_downs) (by decide +kernel))) ?_) rfl)
  · rw [kS_settles] at hk
    unfold encP dn
    rw [if_pos hk]
  · rw [kS_settles] at hk
    unfold encP dn
    rw [if_neg (by rw [hk]; decide)]
  · unfold dns
    rw [List.filter_eq_self.mpr (by simp), List.map_map]
    rfl
end
end Pr
namespace Pr
open PySem L2 Fx Mt
abbrev s_ring_of : Stmt := top 14
section
variable {P : Program} {w : World} {G : Gx} {mg : Str → Option Value} {base : Heap}
theorem sc_ring_of : FnScope ["rules", "kind", "a", "b"] ["rules", "kind", "a", "b"] (defScope s_ring_of) := ⟨rfl, rfl, rfl, by decide +kernel, rfl, by decide +kernel, by decide +kernel⟩
theorem ok_ring_of {f : Addr} {fd : FuncData} (F : L2.Fun G.K "ring_of" "ring_of" s_ring_of f fd) (hb : Binds G.K fd ["rules", "kind", "a", "b"] []) (T : Tx mg) (F_shortest : Fn0 G P w mg base 1 "shortest" C_shortest) (F_downs : Fn0 G P w mg base 1 "downs" C_downs) : FnR P w G.K mg base CX0 2 f (sp0 G C_ring_of) := by
  refine fn0 F sc_ring_of hb (fun ds o ⟨q, rs, k, a, b, e, _⟩ => by rw [e]; rfl) (by decide) fun cdv A outer s H E hr ds o hC => ?_
  obtain ⟨q, rs, k, a, b, rfl, hq, hz, rfl⟩ := hC
  have hd : (dns rs).length < 64 := by unfold dns; rw [List.length_map]; exact hz
  refine sx_one (sx_ret (ev_if (et_c c_eqS (ev_var 1 rfl rfl (.inl rfl)) (ev_gstr rfl T.SETTLES)) (fun hk => ev_is (ev_fn0 F_shortest hr (by decide) (evv_cons (EvN.ev (evn_fn0 F_downs hr (by decide) (evv_cons (ev_var 0 rfl rfl (.inl rfl)) evv_nil) ⟨q, rs, rfl, hq, hz, rfl⟩ rfl)) (evv_cons (ev_var 2 rfl rfl (.inl rfl)) (evv_cons (ev_var 3 rfl rfl (.inl rfl)) evv_nil))) ⟨dns rs, a, b, rfl, hd, rfl⟩ rfl) ?_)
    (fun hk => ev_is (ev_fn0 F_shortest hr (by decide) (evv_cons (EvN.ev (evn_fn0 F_downs hr (by decide) (evv_cons (ev_var 0 rfl rfl (.inl rfl)) evv_nil) ⟨q, rs, rfl, hq, hz, rfl⟩ rfl)) (evv_cons (ev_var 3 rfl rfl (.inl rfl)) (evv_cons (ev_var 2 rfl rfl (.inl rfl)) evv_nil))) ⟨dns rs, b, a, rfl, hd, rfl⟩ rfl) ?_)) rfl)
  · rw [kS_settles] at hk
    unfold ring
    rw [if_pos hk]
  · rw [kS_settles] at hk
    unfold ring
    rw [if_neg (by rw [hk]; decide)]
end
end Pr
namespace Pr
open PySem L2 Fx Mt
abbrev s_arrows : Stmt := top 15
section
variable {P : Program} {w : World} {G : Gx} {mg : Str → Option Value} {base : Heap}
theorem sc_arrows : FnScope ["rules", "kind", "found", "other", "a", "b"] ["rules", "kind"] (defScope s_arrows) := ⟨rfl, rfl, rfl, by decide +kernel, rfl, by decide +kernel, by decide +kernel⟩
theorem take_flatMap {α β : Type} (f : α → List β) (l : List α) {i : Nat} {x : α} (h : l[i]? = some x) : (l.take (i + 1)).flatMap f = (l.take i).flatMap f ++ f x := by
  rw [List.take_add_one, h, List.flatMap_append]
  simp
theorem ok_arrows {f : Addr} {fd : FuncData} (F : L2.Fun G.K "arrows" "arrows" s_arrows f fd) (hb : Binds G.K fd ["rules", "kind"] []) (F_ring_of : Fn0 G P w mg base 2 "ring_of" C_ring_of) : FnR P w G.K mg base CX0 3 f (sp0 G C_arrows) := by
  refine fn0 F sc_arrows hb (fun ds o ⟨q, rs, k, e, _⟩ => by rw [e]; rfl) (by decide) fun cdv A outer s H E hr ds o hC => ?_
  obtain ⟨q, rs, k, rfl, hq, hz, rfl⟩ := hC
  refine sx_cons (sx_setN 2 (evn_lst evv_nil rfl) (fun l => ?_) sc_arrows.nd rfl (.inl rfl) (.inl rfl))
  refine sx_cons (sx_for (its := rs.map encR) (ei_seq (ev_var 0 rfl rfl (.inl rfl)) hq) (fun i c => ∃ c3 c4 c5, c = [.val q, .val (.str (kS k)), .own l (((rs.take i).flatMap (arr1 rs k)).map encP), c3, c4, c5]) ⟨.no, .no, .no, rfl⟩ (fun i d c hi hI => ?_) (fun c hI => ?_) rfl)
  · obtain ⟨c3, c4, c5, rfl⟩ := hI
    rw [List.getElem?_map] at hi
    cases e : rs[i]? with
    | none => rw [e] at hi; cases hi
    | some r =>
      rw [e] at hi
      cases hi
      have hlen : ((rs.take i).flatMap (arr1 rs k)).length ≤ 1000 := by
        have h1 := arr_len_aux rs k (rs.take i)
        have h2 := List.length_filter_le (fun r : R => r.1 == k) (rs.take i)
        have h3 : (rs.take i).length ≤ rs.length := by rw [List.length_take]; omega
        omega
      refine ⟨_, _, eg_tup rfl (egs_cons (eg_name 3 sc_arrows.nd rfl (.inl rfl) (.inl rfl)) (egs_cons (eg_name 4 sc_arrows.nd rfl (.inl rfl) (.inl rfl)) (egs_cons (eg_name 5 sc_arrows.nd rfl (.inl rfl) (.inl rfl)) egs_nil))), ?_⟩
      refine sx_one (sx_if (et_c c_eqS (ev_var 3 rfl rfl (.inl rfl)) (ev_var 1 rfl rfl (.inl rfl))) (fun hb => ?_) (fun hb => ?_))
      · rw [kS_eq] at hb
        have hk : r.1 = k := of_decide_eq_true hb
        refine sx_cons (sx_append 2 rfl (ev_tup (evv_cons (ev_var 4 rfl rfl (.inl rfl)) (evv_cons (ev_var 5 rfl rfl (.inl rfl)) evv_nil)) rfl) rfl (by rw [List.length_map]; omega) ?_ rfl (.inl rfl) (pe_bm PySem.F.plainAttrs_list PySem.F.slot_list_append PySem.F.type_list_append mt_append))
        refine sx_one (sx_if (et_is (et_c c_notN (ev_fn0 F_ring_of hr (by decide) (evv_cons (ev_var 0 rfl rfl (.inl rfl)) (evv_cons (ev_var 1 rfl rfl (.inl rfl)) (evv_cons (ev_var 5 rfl rfl (.inl rfl)) (evv_cons (ev_var 4 rfl rfl (.inl rfl)) evv_nil)))) ⟨q, rs, k, r.2.2, r.2.1, rfl, hq, hz, rfl⟩ rfl) ev_non) (isN_optW _)) (fun hb => ?_) (fun hb => ?_))
        · refine sx_one (sx_append 2 rfl (ev_tup (evv_cons (ev_var 5 rfl rfl (.inl rfl)) (evv_cons (ev_var 4 rfl rfl (.inl rfl)) evv_nil)) rfl) rfl (by rw [List.length_append, List.length_map]; show _ + 1 < _; omega) ?_ rfl (.inl rfl) (pe_bm PySem.F.plainAttrs_list PySem.F.slot_list_append PySem.F.type_list_append mt_append))
          refine ⟨.val (.str (kS r.1)), .val (.int r.2.1), .val (.int r.2.2), ?_⟩
          have e1 : arr1 rs k r = [(r.2.1, r.2.2), (r.2.2, r.2.1)] := by unfold arr1; rw [if_pos hk, if_pos hb]
          rw [take_flatMap _ _ e, e1, List.map_append]
          simp only [List.set, List.append_assoc]
          rfl
        · refine sx_nil ⟨.val (.str (kS r.1)), .val (.int r.2.1), .val (.int r.2.2), ?_⟩
          have e1 : arr1 rs k r = [(r.2.1, r.2.2)] := by unfold arr1; rw [if_pos hk, if_neg (by rw [hb]; decide)]
          rw [take_flatMap _ _ e, e1, List.map_append]
          rfl
      · rw [kS_eq] at hb
        have hk : ¬ r.1 = k := of_decide_eq_false hb
        refine sx_nil ⟨.val (.str (kS r.1)), .val (.int r.2.1), .val (.int r.2.2), ?_⟩
        have e1 : arr1 rs k r = [] := by unfold arr1; rw [if_neg hk]
        rw [take_flatMap _ _ e, e1, List.append_nil]
        rfl
  · obtain ⟨c3, c4, c5, rfl⟩ := hI
    refine sx_one (sx_retO 2 rfl ?_ rfl (.inl rfl))
    rw [List.length_map, List.take_length]
    rfl
end
end Pr
namespace Pr
open PySem L2 Fx Mt
abbrev s_follows : Stmt := top 16
section
variable {P : Program} {w : World} {G : Gx} {mg : Str → Option Value} {base : Heap}
theorem sc_follows : FnScope ["rules", "rule", "kind", "a", "b"] ["rules", "rule"] (defScope s_follows) := ⟨rfl, rfl, rfl, by decide +kernel, rfl, by decide +kernel, by decide +kernel⟩
theorem ok_follows {f : Addr} {fd : FuncData} (F : L2.Fun G.K "follows" "follows" s_follows f fd) (hb : Binds G.K fd ["rules", "rule"] []) (F_leads : Fn0 G P w mg base 2 "leads" C_leads) (F_arrows : Fn0 G P w mg base 3 "arrows" C_arrows) : FnR P w G.K mg base CX0 4 f (sp0 G C_follows) := by
  refine fn0 F sc_follows hb (fun ds o ⟨q, rs, r, e, _⟩ => by rw [e]; rfl) (by decide) fun cdv A outer s H E hr ds o hC => ?_
  obtain ⟨q, rs, r, rfl, hq, hz, ha, rfl⟩ := hC
  refine sx_cons (sx_asg (ev_var 1 rfl rfl (.inl rfl)) (eg_tup rfl (egs_cons (eg_name 2 sc_follows.nd rfl (.inl rfl) (.inl rfl)) (egs_cons (eg_name 3 sc_follows.nd rfl (.inl rfl) (.inl rfl)) (egs_cons (eg_name 4 sc_follows.nd rfl (.inl rfl) (.inl rfl)) egs_nil)))) ?_)
  refine sx_one (sx_ret (ev_fn0 F_leads hr (by decide) (evv_cons (EvN.ev (evn_fn0 F_arrows hr (by decide) (evv_cons (ev_var 0 rfl rfl (.inl rfl)) (evv_cons (ev_var 2 rfl rfl (.inl rfl)) evv_nil)) ⟨q, rs, r.1, rfl, hq, hz, rfl⟩ rfl)) (evv_cons (ev_var 3 rfl rfl (.inl rfl)) (evv_cons (ev_var 4 rfl rfl (.inl rfl)) evv_nil))) ⟨arr rs r.1, r.2.1, r.2.2, rfl, ha, rfl⟩ rfl) rfl)
end
end Pr
namespace Pr
open PySem L2 Fx Mt
abbrev s_is_integer : Stmt := top 19
section
variable {P : Program} {w : World} {G : Gx} {mg : Str → Option Value} {base : Heap}
theorem sc_is_integer : FnScope ["thing"] ["thing"] (defScope s_is_integer) := ⟨rfl, rfl, rfl, by decide +kernel, rfl, by decide +kernel, by decide +kernel⟩
theorem ok_is_integer {f : Addr} {fd : FuncData} (F : L2.Fun G.K "is_integer" "is_integer" s_is_integer f fd) (hb : Binds G.K fd ["thing"] []) (T : Tx mg) : FnR P w G.K mg base CX0 1 f (sp0 G C_is_integer) := by
  refine fn0 F sc_is_integer hb (fun ds o ⟨i, e, _⟩ => by rw [e]; rfl) (by decide) fun cdv A outer s H E hr ds o hC => ?_
  obtain ⟨i, rfl, rfl⟩ := hC
  refine sx_one (sx_ret (ev_and (ev_isi (t := "int") (T' := "int") (k := true) (ev_var 0 rfl rfl (.inl rfl)) rfl (by decide +kernel) T.isinstance rfl T.int rfl (by decide +kernel)) fun _ => (ev_one (ev_not (ev_isi (t := "int") (T' := "bool") (k := false) (ev_var 0 rfl rfl (.inl rfl)) rfl (by decide +kernel) T.isinstance rfl T.bool rfl (by decide +kernel))))) rfl)
end
end Pr
namespace Pr
open PySem L2 Fx Mt
abbrev s_is_between : Stmt := top 20
section
variable {P : Program} {w : World} {G : Gx} {mg : Str → Option Value} {base : Heap}
theorem sc_is_between : FnScope ["thing", "low", "high"] ["thing", "low", "high"] (defScope s_is_between) := ⟨rfl, rfl, rfl, by decide +kernel, rfl, by decide +kernel, by decide +kernel⟩
theorem ok_is_between {f : Addr} {fd : FuncData} (F : L2.Fun G.K "is_between" "is_between" s_is_between f fd) (hb : Binds G.K fd ["thing", "low", "high"] []) (F_is_integer : Fn0 G P w mg base 1 "is_integer" C_is_integer) : FnR P w G.K mg base CX0 2 f (sp0 G C_is_between) := by
  refine fn0 F sc_is_between hb (fun ds o ⟨i, a, b, e, _⟩ => by rw [e]; rfl) (by decide) fun cdv A outer s H E hr ds o hC => ?_
  obtain ⟨i, a, b, rfl, rfl⟩ := hC
  refine sx_one (sx_ret (ev_and (ev_fn0 F_is_integer hr (by decide) (evv_cons (ev_var 0 rfl rfl (.inl rfl)) evv_nil) ⟨i, rfl, rfl⟩ rfl) fun _ => (ev_one (ev_cc c_le (fun _ => c_le) (ev_var 1 rfl rfl (.inl rfl)) (ev_var 0 rfl rfl (.inl rfl)) (ev_var 2 rfl rfl (.inl rfl)) pe_chain))) rfl)
end
end Pr
namespace Pr
open PySem L2 Fx Mt
abbrev s_need_width : Stmt := top 21
section
variable {P : Program} {w : World} {G : Gx} {mg : Str → Option Value} {base : Heap}
theorem sc_need_width : FnScope ["thing"] ["thing"] (defScope s_need_width) := ⟨rfl, rfl, rfl, by decide +kernel, rfl, by decide +kernel, by decide +kernel⟩
theorem ok_need_width {f : Addr} {fd : FuncData} (F : L2.Fun G.K "need_width" "need_width" s_need_width f fd) (hb : Binds G.K fd ["thing"] []) (T : Tx mg) (F_is_between : Fn0 G P w mg base 2 "is_between" C_is_between) : FnR P w G.K mg base CX0 3 f (sp0 G C_need_width) := by
  refine fn0 F sc_need_width hb (fun ds o ⟨i, e, _⟩ => by rw [e]; rfl) (by decide) fun cdv A outer s H E hr ds o hC => ?_
  obtain ⟨i, rfl, h1, h2, rfl⟩ := hC
  refine sx_one (sx_if (et_not (et_val (ev_fn0 F_is_between hr (by decide) (evv_cons (ev_var 0 rfl rfl (.inl rfl)) (evv_cons ev_int (evv_cons (ev_gint rfl T.MOST_WIDTH) evv_nil))) ⟨i, 1, 6, rfl, rfl⟩ rfl))) (fun hb => ?_) (fun hb => ?_))
  · exfalso
    simp [h1, h2] at hb
  · exact sx_nil rfl
end
end Pr
namespace Pr
open PySem L2 Fx Mt
abbrev s_is_column : Stmt := top 22
section
variable {P : Program} {w : World} {G : Gx} {mg : Str → Option Value} {base : Heap}
theorem sc_is_column : FnScope ["thing", "width"] ["thing", "width"] (defScope s_is_column) := ⟨rfl, rfl, rfl, by decide +kernel, rfl, by decide +kernel, by decide +kernel⟩
theorem ok_is_column {f : Addr} {fd : FuncData} (F : L2.Fun G.K "is_column" "is_column" s_is_column f fd) (hb : Binds G.K fd ["thing", "width"] []) (F_is_between : Fn0 G P w mg base 2 "is_between" C_is_between) : FnR P w G.K mg base CX0 3 f (sp0 G C_is_column) := by
  refine fn0 F sc_is_column hb (fun ds o ⟨i, w, e, _⟩ => by rw [e]; rfl) (by decide) fun cdv A outer s H E hr ds o hC => ?_
  obtain ⟨i, w, rfl, rfl⟩ := hC
  refine sx_one (sx_ret (ev_fn0 F_is_between hr (by decide) (evv_cons (ev_var 0 rfl rfl (.inl rfl)) (evv_cons ev_int (evv_cons (ev_b b_sub (ev_var 1 rfl rfl (.inl rfl)) ev_int) evv_nil))) ⟨i, 0, w - 1, rfl, rfl⟩ rfl) rfl)
end
end Pr
namespace Pr
open PySem L2 Fx Mt
abbrev s_is_rule : Stmt := top 23
section
variable {P : Program} {w : World} {G : Gx} {mg : Str → Option Value} {base : Heap}
theorem sc_is_rule : FnScope ["thing", "width"] ["thing", "width"] (defScope s_is_rule) := ⟨rfl, rfl, rfl, by decide +kernel, rfl, by decide +kernel, by decide +kernel⟩
theorem kS_two (k : Bool) : (!decide (kS k = "settles") && !decide (kS k = "within")) = false := by cases k <;> decide +kernel
theorem ok_is_rule {f : Addr} {fd : FuncData} (F : L2.Fun G.K "is_rule" "is_rule" s_is_rule f fd) (hb : Binds G.K fd ["thing", "width"] []) (T : Tx mg) (F_is_column : Fn0 G P w mg base 3 "is_column" C_is_column) : FnR P w G.K mg base CX0 4 f (sp0 G C_is_rule) := by
  refine fn0 F sc_is_rule hb (fun ds o ⟨i, w, e, _⟩ => by rw [e]; rfl) (by decide) fun cdv A outer s H E hr ds o hC => ?_
  obtain ⟨r, w, rfl, rfl⟩ := hC
  refine sx_cons (sx_if (et_w (ew_or (et_not (et_val (ev_isi (t := "tuple") (T' := "tuple") (k := true) (ev_var 0 rfl rfl (.inl rfl)) rfl (by decide +kernel) T.isinstance rfl T.tuple rfl (by decide +kernel)))) fun _ => (ew_or (et_c c_ne (ev_lenT (ev_var 0 rfl rfl (.inl rfl)) T.len rfl) ev_int) fun _ => (ew_or1 (et_not (et_val (ev_isi (t := "str") (T' := "str") (k := true) (ev_i (i_tup (m := 0) rfl rfl) (ev_var 0 rfl rfl (.inl rfl)) ev_int) rfl (by decide +kernel) T.isinstance rfl T.str rfl (by decide +kernel)))))))) (fun hb => ?_) (fun hb => ?_))
  · cases hb
  refine sx_nil ?_
  refine sx_cons (sx_if (et_w (ew_and (et_c c_neS (ev_i (i_tup (m := 0) rfl rfl) (ev_var 0 rfl rfl (.inl rfl)) ev_int) (ev_gstr rfl T.SETTLES)) fun _ => (ew_and1 (et_c c_neS (ev_i (i_tup (m := 0) rfl rfl) (ev_var 0 rfl rfl (.inl rfl)) ev_int) (ev_gstr rfl T.WITHIN))))) (fun hb => ?_) (fun hb => ?_))
  · rw [kS_two] at hb; cases hb
  refine sx_nil ?_
  refine sx_one (sx_ret (ev_and (ev_fn0 F_is_column hr (by decide) (evv_cons (ev_i (i_tup (m := 1) rfl rfl) (ev_var 0 rfl rfl (.inl rfl)) ev_int) (evv_cons (ev_var 1 rfl rfl (.inl rfl)) evv_nil)) ⟨r.2.1, w, rfl, rfl⟩ rfl) fun _ => (ev_and (ev_fn0 F_is_column hr (by decide) (evv_cons (ev_i (i_tup (m := 2) rfl rfl) (ev_var 0 rfl rfl (.inl rfl)) ev_int) (evv_cons (ev_var 1 rfl rfl (.inl rfl)) evv_nil)) ⟨r.2.2, w, rfl, rfl⟩ rfl) fun _ => (ev_one (ev_c c_ne (ev_i (i_tup (m := 1) rfl rfl) (ev_var 0 rfl rfl (.inl rfl)) ev_int) (ev_i (i_tup (m := 2) rfl rfl) (ev_var 0 rfl rfl (.inl rfl)) ev_int))))) rfl)
end
end Pr
namespace Pr
open PySem L2 Fx Mt
abbrev s_need_rule : Stmt := top 24
section
variable {P : Program} {w : World} {G : Gx} {mg : Str → Option Value} {base : Heap}
theorem sc_need_rule : FnScope ["thing", "width"] ["thing", "width"] (defScope s_need_rule) := ⟨rfl, rfl, rfl, by decide +kernel, rfl, by decide +kernel, by decide +kernel⟩
theorem ok_need_rule {f : Addr} {fd : FuncData} (F : L2.Fun G.K "need_rule" "need_rule" s_need_rule f fd) (hb : Binds G.K fd ["thing", "width"] []) (F_is_rule : Fn0 G P w mg base 4 "is_rule" C_is_rule) : FnR P w G.K mg base CX0 5 f (sp0 G C_need_rule) := by
  refine fn0 F sc_need_rule hb (fun ds o ⟨i, w, e, _⟩ => by rw [e]; rfl) (by decide) fun cdv A outer s H E hr ds o hC => ?_
  obtain ⟨r, w, rfl, h1, rfl⟩ := hC
  refine sx_one (sx_if (et_not (et_val (ev_fn0 F_is_rule hr (by decide) (evv_cons (ev_var 0 rfl rfl (.inl rfl)) (evv_cons (ev_var 1 rfl rfl (.inl rfl)) evv_nil)) ⟨r, w, rfl, rfl⟩ rfl))) (fun hb => ?_) (fun hb => ?_))
  · rw [h1] at hb; cases hb
  · exact sx_nil rfl
end
end Pr
namespace Pr
open PySem L2 Fx Mt
abbrev s_are_rules : Stmt := top 25
abbrev N_are_rules : List Str := ["things", "width", "thing"]
section
variable {P : Program} {w : World} {G : Gx} {mg : Str → Option Value} {base : Heap}
theorem sc_are_rules : FnScope N_are_rules ["things", "width"] (defScope s_are_rules) := ⟨rfl, rfl, rfl, by decide +kernel, rfl, by decide +kernel, by decide +kernel⟩
theorem all_bls {α : Type} (f : α → Bool) : ∀ (l : List α), (∀ x ∈ l, f x = true) → (l.map f).all id = true
  | [], _ => rfl
  | x :: l, h => by
    rw [List.map_cons, List.all_cons, all_bls f l fun y hy => h y (List.mem_cons_of_mem _ hy)]
    show (f x && true) = true
    rw [h x (List.mem_cons_self ..)]; rfl
theorem ok_are_rules {f : Addr} {fd : FuncData} (F : L2.Fun G.K "are_rules" "are_rules" s_are_rules f fd) (hb : Binds G.K fd ["things", "width"] []) (T : Tx mg) (F_is_rule : Fn0 G P w mg base 4 "is_rule" C_is_rule) : FnR P w G.K mg base CX0 5 f (sp0 G C_are_rules) := by
  refine fn0 F sc_are_rules hb (fun ds o ⟨q, rs, w, e, _⟩ => by rw [e]; rfl) (by decide) fun cdv A outer s H E hr ds o hC => ?_
  obtain ⟨q, rs, wd, rfl, hq, hok, hz, rfl⟩ := hC
  have hu65 : (cx0 P w G.K mg base N_are_rules "are_rules" s_are_rules f cdv A outer s H E).A.units + 65 < cLine := by have := hr.un; omega
  refine sx_cons (sx_if (et_not (et_val (ev_all (bs := rs.map (okR wd)) (ev_is (EvN.ev (evn_lc (own := [("thing", 2)]) (evn_pure rs encR (fun _ => true) (fun r => .bl (okR wd r)) (ei_lp (ev_var 0 rfl rfl (.inr (.inl rfl))) hq) (by omega) fun r hr' => ⟨_, _, by decide, fun _ _ _ _ _ => (eg_name 2 sc_are_rules.nd rfl (.inl rfl) (.inr rfl)), fun _ _ _ _ _ => ets_nil, fun _ _ _ _ _ _ => (ev_fn0 F_is_rule hr (by decide) (evv_cons (ev_var 2 rfl rfl (.inl rfl)) (evv_cons (ev_var 1 rfl rfl (.inr (.inl rfl))) evv_nil)) ⟨r, wd, rfl, rfl⟩ rfl), rfl⟩) rfl sc_are_rules.nd (blkOk_by (N := N_are_rules) (sc := defScope s_are_rules) (by decide +kernel)))) ?_) rfl T.all rfl))) (fun hb => ?_) (fun hb => ?_))
  · rw [List.filter_eq_self.mpr (by simp), List.map_map]
    rfl
  · rw [all_bls _ _ fun r hr => Ok.okR hok hr] at hb; cases hb
  refine sx_nil ?_
  refine sx_one (sx_ret (ev_is (ev_all (bs := rs.map fun r => decide (((rs.count r : Nat) : Int) = 1)) (ev_is (EvN.ev (evn_lc (own := [("thing", 2)]) (evn_pure rs encR (fun _ => true) (fun r => .bl (decide (((rs.count r : Nat) : Int) = 1))) (ei_lp (ev_var 0 rfl rfl (.inr (.inl rfl))) hq) (by omega) fun r hr' => ⟨_, _, by decide, fun _ _ _ _ _ => (eg_name 2 sc_are_rules.nd rfl (.inl rfl) (.inr rfl)), fun _ _ _ _ _ => ets_nil, fun _ _ _ _ _ _ => ev_is (ev_c c_eq (ev_cntQ hq (ev_var 0 rfl rfl (.inr (.inl rfl))) (ev_var 2 rfl rfl (.inl rfl)) (by exact hu65) (fine_encRs rs) (fine_encRt rs) (fine_encR r) (pe_bm PySem.F.plainAttrs_list PySem.F.slot_list_count PySem.F.type_list_count (mt_cntL (by exact hu65))) (pe_tm PySem.F.plainAttrs_tuple PySem.F.slot_tuple_count PySem.F.type_tuple_count (mt_cntT (by exact hu65)))) ev_int) ?_, rfl⟩) rfl sc_are_rules.nd (blkOk_by (N := N_are_rules) (sc := defScope s_are_rules) (by decide +kernel)))) ?_) rfl T.all rfl) ?_) rfl)
  · rw [count_encR]
  · rw [List.filter_eq_self.mpr (by simp), List.map_map]
    rfl
  · rw [all_bls _ _ fun r hr => by rw [count_one hok.nd hr]; rfl]
end
end Pr
namespace Pr
open PySem L2 Fx Mt
abbrev s_column_of : Stmt := top 26
section
variable {P : Program} {w : World} {G : Gx} {mg : Str → Option Value} {base : Heap}
theorem sc_column_of : FnScope ["word"] ["word"] (defScope s_column_of) := ⟨rfl, rfl, rfl, by decide +kernel, rfl, by decide +kernel, by decide +kernel⟩
theorem ok_column_of {f : Addr} {fd : FuncData} (F : L2.Fun G.K "column_of" "column_of" s_column_of f fd) (hb : Binds G.K fd ["word"] []) (T : Tx mg) : FnR P w G.K mg base CX0 1 f (sp0 G C_column_of) := by
  refine fn0 F sc_column_of hb (fun ds o ⟨i, e, _⟩ => by rw [e]; rfl) (by decide) fun cdv A outer s H E hr ds o hC => ?_
  obtain ⟨a, rfl, ha, rfl⟩ := hC
  have hl := nS_len ha
  refine sx_one (sx_ret (ev_if (et_c c_eq (ev_lenS (ev_var 0 rfl rfl (.inl rfl)) (by omega) T.len rfl) ev_int) (fun _ => ev_is (ev_find ev_str (ev_var 0 rfl rfl (.inl rfl))) (by rw [find_col ha])) (fun hb => ?_)) rfl)
  rw [hl] at hb
  cases hb
end
end Pr
namespace Pr
open PySem L2 Fx Mt
abbrev s_rule_of : Stmt := top 27
section
variable {P : Program} {w : World} {G : Gx} {mg : Str → Option Value} {base : Heap}
theorem sc_rule_of : FnScope ["line", "words"] ["line"] (defScope s_rule_of) := ⟨rfl, rfl, rfl, by decide +kernel, rfl, by decide +kernel, by decide +kernel⟩
theorem ok_rule_of {f : Addr} {fd : FuncData} (F : L2.Fun G.K "rule_of" "rule_of" s_rule_of f fd) (hb : Binds G.K fd ["line"] []) (T : Tx mg) (F_column_of : Fn0 G P w mg base 1 "column_of" C_column_of) : FnR P w G.K mg base CX0 2 f (sp0 G C_rule_of) := by
  refine fn0 F sc_rule_of hb (fun ds o ⟨w, rs, r, e, _⟩ => by rw [e]; rfl) (by decide) fun cdv A outer s H E hr ds o hC => ?_
  obtain ⟨wd, rs, r, rfl, hok, hw, hm, rfl⟩ := hC
  obtain ⟨a, b, ea, eb, ha, hb2⟩ := fine_cols hok hw hm
  have hlen := lnS_len hok hw hm
  refine sx_cons (sx_set 1 (ev_is (EvN.ev (evn_split (ev_var 0 rfl rfl (.inl rfl)) ev_str (by decide +kernel) (by omega))) (congrArg (fun l => D.lst (l.map D.str)) (split_line hok hw hm))) ?_ sc_rule_of.nd rfl (.inl rfl) (.inl rfl))
  refine sx_cons (sx_if (et_c c_ne (ev_lenL (ev_var 1 rfl rfl (.inl rfl)) T.len rfl) ev_int) (fun hb => ?_) (fun hb => ?_))
  · cases hb
  refine sx_nil ?_
  refine sx_one (sx_ret (ev_tup (evv_cons (ev_i (i_lst (m := 1) rfl rfl) (ev_var 1 rfl rfl (.inl rfl)) ev_int) (evv_cons (ev_fn0 F_column_of hr (by decide) (evv_cons (ev_i (i_lst (m := 0) rfl rfl) (ev_var 1 rfl rfl (.inl rfl)) ev_int) evv_nil) ⟨a, by rw [ea], ha, rfl⟩ rfl) (evv_cons (ev_fn0 F_column_of hr (by decide) (evv_cons (ev_i (i_lst (m := 2) rfl rfl) (ev_var 1 rfl rfl (.inl rfl)) ev_int) evv_nil) ⟨b, by rw [eb], hb2, rfl⟩ rfl) evv_nil))) rfl) ?_)
  show D.tup [.str (kS r.1), .int (a : Int), .int (b : Int)] = encR r
  unfold encR
  rw [ea, eb]
end
end Pr
namespace Pr
open PySem L2 Fx Mt
abbrev s_init : Stmt := inClass (top 28) 0
section
variable {P : Program} {w : World} {G : Gx} {mg : Str → Option Value} {base : Heap}
theorem sc_init : FnScope [("self" : Str), "width", "rules"] ([("self" : Str), "width"] ++ [("rules" : Str)]) (defScope s_init) := ⟨rfl, rfl, rfl, by decide +kernel, rfl, by decide +kernel, by decide +kernel⟩
theorem ok_init {f : Addr} {fd : FuncData} (F : L2.Fun G.K "__init__" "Rules.__init__" s_init f fd) (K : RC G mg) (F_need_width : Fn0 G P w mg base 3 "need_width" C_need_width) (F_are_rules : Fn0 G P w mg base 5 "are_rules" C_are_rules) : FnR P w G.K mg base CX0 6 f (spI G 0 C_init) := by
  refine fnI F sc_init (fun kV doc pm an cdv ct a b rest => by cases rest <;> rfl) (by decide) (fun ds fs ⟨w, rs, e, _, _, _, e2⟩ => by rw [e, e2, K.fld]; exact ⟨Nat.succ_pos _, rfl⟩) fun cdv A outer s H E hr l d rs fs hC => ?_
  obtain ⟨wd, us, e, hok, h1, h2, rfl⟩ := hC
  cases e
  have hz := hok.len h2
  refine sx_cons (sx_expr (ev_fn0 F_need_width hr (by decide) (evv_cons (ev_var 1 rfl rfl (.inl rfl)) evv_nil) ⟨wd, rfl, h1, h2, rfl⟩ rfl) ?_)
  refine sx_cons (sx_if (et_not (et_val (ev_fn0 F_are_rules hr (by decide) (evv_cons (ev_var 2 rfl rfl (.inl rfl)) (evv_cons (ev_var 1 rfl rfl (.inl rfl)) evv_nil)) ⟨_, us, wd, rfl, .inr rfl, hok, by omega, rfl⟩ rfl))) (fun hb => ?_) (fun hb => ?_))
  · cases hb
  refine sx_nil ?_
  refine sx_one (sx_self2 (i := 0) (l := l) (c := 0) (ev_tup (evv_cons (ev_var 1 rfl rfl (.inl rfl)) (evv_cons (ev_var 2 rfl rfl (.inl rfl)) evv_nil)) rfl) rfl rfl rfl (.inl rfl) K.cl K.n1 K.n2 (by rw [K.fld]; rfl) (by decide +kernel) rfl)
end
end Pr
namespace Pr
open PySem L2 Fx Mt
section
variable {P : Program} {w : World} {G : Gx} {mg : Str → Option Value} {base : Heap}
theorem nat6_log {a : Nat} (h : a < 6) : ((a : Int)).natAbs.log2 < 1920 := by
  rw [Int.natAbs_natCast]
  have : a.log2 ≤ a := Nat.log2_le_self a
  omega
end
end Pr
namespace Pr
open PySem L2 Fx Mt
abbrev s_read : Stmt := inClass (top 28) 1
abbrev N_read : List Str := ["cls", "width", "text", "found", "line"]
section
variable {P : Program} {w : World} {G : Gx} {mg : Str → Option Value} {base : Heap}
theorem sc_read : FnScope N_read ["cls", "width", "text"] (defScope s_read) := ⟨rfl, rfl, rfl, by decide +kernel, rfl, by decide +kernel, by decide +kernel⟩
theorem text_ok (rs : List R) : (!decide (textOf rs = "") && !Txt.endswith (textOf rs) "\n") = false := by
  cases rs with
  | nil => decide +kernel
  | cons r rs => rw [text_ends _ (by simp)]; simp
theorem cut_last {α : Type} (l : List α) (z : α) : ((l ++ [z]).drop (HT.sIx (l ++ [z]).length 0 none)).take (HT.sIx (l ++ [z]).length (l ++ [z]).length (some (-1)) - HT.sIx (l ++ [z]).length 0 none) = l := by
  have e1 : HT.sIx (l ++ [z]).length 0 none = 0 := rfl
  have e2 : HT.sIx (l ++ [z]).length (l ++ [z]).length (some (-1)) = l.length := by
    rw [List.length_append]
    unfold HT.sIx
    simp
    omega
  rw [e1, e2]
  simp
theorem ok_read {f : Addr} {fd : FuncData} (F : L2.Fun G.K "read" "Rules.read" s_read f fd) (hb : Binds G.K fd ["cls", "width", "text"] []) (T : Tx mg) (K : RC G mg) (F_need_width : Fn0 G P w mg base 3 "need_width" C_need_width) (F_are_rules : Fn0 G P w mg base 5 "are_rules" C_are_rules) (F_rule_of : Fn0 G P w mg base 2 "rule_of" C_rule_of) (I : PkInit G P w mg base 0 6 C_init) : FnR P w G.K mg base CX0 8 f (sp0 G C_read) := by
  refine fn0 F sc_read hb (fun ds o ⟨w, rs, e, _⟩ => by rw [e]; rfl) (by decide) fun cdv A outer s H E hr ds o hC => ?_
  obtain ⟨wd, rs, rfl, hok, h1, h2, rfl⟩ := hC
  have hl := hok.len h2
  have ht := text_len hok h2
  refine sx_cons (sx_expr (ev_fn0 F_need_width hr (by decide) (evv_cons (ev_var 1 rfl rfl (.inl rfl)) evv_nil) ⟨wd, rfl, h1, h2, rfl⟩ rfl) ?_)
  refine sx_cons (sx_if (et_w (ew_or (et_not (et_val (ev_isi (t := "str") (T' := "str") (k := true) (ev_var 2 rfl rfl (.inl rfl)) rfl (by decide +kernel) T.isinstance rfl T.str rfl (by decide +kernel)))) fun _ => (ew_or1 (et_w (ew_and (et_c c_neS (ev_var 2 rfl rfl (.inl rfl)) ev_str) fun _ => (ew_and1 (et_not (et_val (ev_endswith (ev_var 2 rfl rfl (.inl rfl)) ev_str))))))))) (fun hb => ?_) (fun hb => ?_))
  · rw [text_ok] at hb; cases hb
  refine sx_nil ?_
  have hcut : D.lst (((List.map D.str (rs.map lnS ++ [("" : Str)])).drop (HT.sIx (List.map D.str (rs.map lnS ++ [("" : Str)])).length 0 none)).take (HT.sIx (List.map D.str (rs.map lnS ++ [("" : Str)])).length (List.map D.str (rs.map lnS ++ [("" : Str)])).length (some (-1)) - HT.sIx (List.map D.str (rs.map lnS ++ [("" : Str)])).length 0 none)) = .lst (rs.map fun r => D.str (lnS r)) := by
    rw [List.map_append, List.map_map]
    show D.lst ((((rs.map fun r => D.str (lnS r)) ++ [D.str ("" : Str)]).drop _).take _) = _
    exact congrArg D.lst (cut_last _ _)
  refine sx_cons (sx_setLc 3 (own := [("line", 4)]) (evn_pure rs (fun r => D.str (lnS r)) (fun _ => true) encR (ei_list (ev_is (EvN.ev (evn_slice po_none (po_some pe_rd) (ev_is (EvN.ev (evn_split (ev_var 2 rfl rfl (.inl rfl)) ev_str (by decide +kernel) (by omega))) (congrArg (fun l => D.lst (l.map D.str)) (split_text hok h2))) es_none (es_some (ev_neg ev_int)))) hcut)) (by omega) fun r hr' => ⟨_, _, by decide, fun _ _ _ _ _ => (eg_name 4 sc_read.nd rfl (.inl rfl) (.inr rfl)), fun _ _ _ _ _ => ets_nil, fun _ _ _ _ _ _ => (ev_fn0 F_rule_of hr (by decide) (evv_cons (ev_var 4 rfl rfl (.inl rfl)) evv_nil) ⟨wd, rs, r, rfl, hok, h2, hr', rfl⟩ rfl), rfl⟩) (fun l => ?_) rfl sc_read.nd rfl rfl (sw_true rfl rfl rfl (by decide +kernel)) (blkOk_by (N := N_read) (sc := defScope s_read) (by decide +kernel)))
  rw [List.filter_eq_self.mpr (by simp)]
  refine sx_frz 3 (l := l) (ds := rs.map encR) rfl ?_
  refine sx_cons (sx_if (et_not (et_val (ev_fn0 F_are_rules hr (by decide) (evv_cons (ev_var 3 rfl rfl (.inl rfl)) (evv_cons (ev_var 1 rfl rfl (.inl rfl)) evv_nil)) ⟨_, rs, wd, rfl, .inl rfl, hok, by omega, rfl⟩ rfl))) (fun hb => ?_) (fun hb => ?_))
  · cases hb
  refine sx_nil ?_
  refine sx_one (sx_ret (ev_makeLSP (c := 0) 0 I hr (by decide) rfl (evv_cons (ev_var 1 rfl rfl (.inl rfl)) (evv_star (ev_var 3 rfl rfl (.inl rfl)) evv_nil (.inl rfl))) (by simp; omega) ⟨wd, rs, by rw [List.append_nil], hok, h1, h2, rfl⟩ rfl (.inl rfl)) rfl)
end
end Pr
namespace Pr
open PySem L2 Fx Mt
theorem cols_length (m : Nat) : (cols (m : Int)).length = m := by unfold cols; simp
def prsA (w : Int) : List (Int × Int) := (cols w).flatMap fun a => ((cols w).filter fun b => !decide (a = b)).map fun b => (a, b)
theorem allK_prs (w : Int) (k : Bool) : allK w k = (prsA w).map fun p => (k, p.1, p.2) := by
  unfold allK prsA
  rw [List.map_flatMap]
  congr 1
  funext a
  rw [List.map_map]
  rfl
theorem prsA_len (w : Nat) (hw : w ≤ 6) : (prsA (w : Int)).length ≤ 36 := by
  have h1 : ∀ l : List Int, (l.flatMap fun a => ((cols (w : Int)).filter fun b => !decide (a = b)).map fun b => (a, b)).length ≤ l.length * w := by
    intro l
    induction l with
    | nil => simp
    | cons a l ih =>
      rw [List.flatMap_cons, List.length_append, List.length_map, List.length_cons, Nat.succ_mul]
      have := List.length_filter_le (fun b : Int => !decide (a = b)) (cols (w : Int))
      rw [cols_length] at this
      omega
  have := h1 (cols (w : Int))
  rw [cols_length] at this
  exact Nat.le_trans this (Nat.mul_le_mul hw hw)
/-- all rules that follow -/
def folA (w : Int) (rs : List R) : List R := (allR w).filter (fol rs)
def C_call : List D → Out → Prop := fun ds o => ∃ (w : Int) (rs : List R) (r : R), ds = [encK w rs, encR r] ∧ Ok w rs ∧ w ≤ 6 ∧ okR w r = true ∧ o = .val (.bl (fol rs r))
theorem allR_len (w : Nat) (hw : w ≤ 6) : (allR (w : Int)).length ≤ 72 := by
  unfold allR
  rw [List.length_append, allK_prs, allK_prs, List.length_map, List.length_map]
  have := prsA_len w hw
  omega
end Pr
namespace Pr
open PySem L2 Fx Mt
abbrev s_call : Stmt := inClass (top 28) 5
section
variable {P : Program} {w : World} {G : Gx} {mg : Str → Option Value} {base : Heap}
theorem sc_call : FnScope ["self", "rule"] ["self", "rule"] (defScope s_call) := ⟨rfl, rfl, rfl, by decide +kernel, rfl, by decide +kernel, by decide +kernel⟩
theorem ok_call {f : Addr} {fd : FuncData} (F : L2.Fun G.K "__call__" "Rules.__call__" s_call f fd) (hb : Binds G.K fd ["self", "rule"] []) (K : RC G mg) (F_need_rule : Fn0 G P w mg base 5 "need_rule" C_need_rule) (F_follows : Fn0 G P w mg base 4 "follows" C_follows) : FnR P w G.K mg base CX0 6 f (sp0 G C_call) := by
  refine fn0 F sc_call hb (fun ds o ⟨w, rs, r, e, _⟩ => by rw [e]; rfl) (by decide) fun cdv A outer s H E hr ds o hC => ?_
  obtain ⟨wd, rs, r, rfl, hok, hw, hv, rfl⟩ := hC
  have hl := hok.len hw
  refine sx_cons (sx_expr (ev_fn0 F_need_rule hr (by decide) (evv_cons (ev_var 1 rfl rfl (.inl rfl)) (evv_cons (ev_fld (c := 0) (m := 0) (ev_var 0 rfl rfl (.inl rfl)) (by rw [K.fld]; decide +kernel) rfl K.cl K.n1) evv_nil)) ⟨r, wd, rfl, hv, rfl⟩ rfl) ?_)
  exact sx_one (sx_ret (ev_fn0 F_follows hr (by decide) (evv_cons (ev_ptup (ev_fld (c := 0) (m := 1) (ev_var 0 rfl rfl (.inl rfl)) (by rw [K.fld]; decide +kernel) rfl K.cl K.n2)) (evv_cons (ev_var 1 rfl rfl (.inl rfl)) evv_nil)) ⟨_, rs, r, rfl, .inr rfl, by omega, hok.arr (by omega) r.1, rfl⟩ rfl) rfl)
end
end Pr
namespace Pr
open PySem L2 Fx Mt
def penD (p : Pn) : List D := [.int p.1, .int p.2.1, .int p.2.2]
theorem penD_inj {p q : Pn} (h : penD p = penD q) : p = q := by
  unfold penD at h
  injection h with h1 h
  injection h with h2 h
  injection h with h3 _
  injection h1 with h1
  injection h2 with h2
  injection h3 with h3
  exact Prod.ext h1 (Prod.ext h2 h3)
def mixB (b c : Int) : Int := (b * 48271 + 1009 * c + 7) % 2147483647
def mixC (b : Int) : Int := (b * b + 69621 * b + 11) % 2147483629
def mixD (m : Int) : Int := (m * m + 40014 * m) % 2147483587
def dr2 (p : Pn) (m : Int) : Int × Pn :=
  if 0 < p.1 then (p.1 % m, (p.1 / m, p.2.1, p.2.2)) else (mixD (mixC (mixB p.2.1 (p.2.2 + 1))) / 16 % m, (p.1, mixB p.2.1 (p.2.2 + 1), p.2.2 + 1))
def Gd2 (n : Int) (p : Pn) : Prop := 0 ≤ p.2.1 ∧ p.2.1 < 2147483648 ∧ 0 ≤ p.2.2 ∧ p.2.2 ≤ n
def Nx2 (k : Int) (p q : Pn) : Prop := ∀ n, Gd2 n p → Gd2 (n + k) q
theorem dr2_lo (p : Pn) {m : Int} (h : 0 < m) : 0 ≤ (dr2 p m).1 ∧ (dr2 p m).1 < m := by
  unfold dr2
  split <;> exact ⟨Int.emod_nonneg _ (by omega), Int.emod_lt_of_pos _ h⟩
theorem mixB_lo (b c : Int) : 0 ≤ mixB b c ∧ mixB b c < 2147483647 := ⟨Int.emod_nonneg _ (by decide), Int.emod_lt_of_pos _ (by decide)⟩
theorem mixC_lo (b : Int) : 0 ≤ mixC b ∧ mixC b < 2147483629 := ⟨Int.emod_nonneg _ (by decide), Int.emod_lt_of_pos _ (by decide)⟩
theorem dr2_nx (p : Pn) (m : Int) : Nx2 1 p (dr2 p m).2 := fun n h => by
  unfold Gd2 at h ⊢
  unfold dr2
  split
  · show 0 ≤ p.2.1 ∧ p.2.1 < 2147483648 ∧ 0 ≤ p.2.2 ∧ p.2.2 ≤ n + 1
    omega
  · show 0 ≤ mixB p.2.1 (p.2.2 + 1) ∧ mixB p.2.1 (p.2.2 + 1) < 2147483648 ∧ 0 ≤ p.2.2 + 1 ∧ p.2.2 + 1 ≤ n + 1
    have := mixB_lo p.2.1 (p.2.2 + 1)
    omega
theorem Gd2.le {b c : Int} {p : Pn} (h : Gd2 b p) (hc : b ≤ c) : Gd2 c p := by unfold Gd2 at *; omega
theorem Nx2.refl (p : Pn) : Nx2 0 p p := fun n h => h.le (by omega)
theorem Nx2.trans {j k : Int} {p q r : Pn} (h : Nx2 j p q) (h2 : Nx2 k q r) : Nx2 (j + k) p r := fun n g => by
  have := h2 _ (h n g)
  rw [Int.add_assoc] at this
  exact this
theorem Nx2.le {j k : Int} {p q : Pn} (h : Nx2 j p q) (hk : j ≤ k) : Nx2 k p q := fun n g => (h n g).le (by omega)
theorem Gd2.nx {b c k : Int} {p q : Pn} (h : Gd2 b p) (hn : Nx2 k p q) (hc : b + k ≤ c) : Gd2 c q := (hn b h).le hc
theorem div_ok {m : Int} (h0 : 0 < m) (h : m ≤ 1000000) (i : Int) : CDivW i m := ⟨h0, by
  have h2 : m.natAbs < 2 ^ 20 := by omega
  have : m.natAbs.log2 < 20 := (Nat.log2_lt (by omega)).mpr h2
  omega⟩
theorem mul_r {i j : Int} (h1 : -1000000000000000000 < j) (h2 : j < 1000000000000000000) : CMul i j := .inr ⟨by omega, by omega⟩
theorem mul_l {i j : Int} (h1 : -1000000000000000000 < i) (h2 : i < 1000000000000000000) : CMul i j := .inl ⟨by omega, by omega⟩
def C_cell : List D → Out → Prop := fun ds o => ∃ (ns : List Int) (k : Nat), ds = [.scr ns, .int (k : Int)] ∧ o = .val (.int (ns.getD k 0))
def C_source : List D → Out → Prop := fun ds o => ∃ i : Int, ds = [.int i] ∧ o = .new (penD (if i - 10 ^ 18 > 0 then i - 10 ^ 18 else 0, i % 2147483629 + 1, 0))
def C_draw : List D → List D → Out → List D → Prop := fun qs ds o qs' => ∃ (p : Pn) (m : Int), qs = penD p ∧ ds = [.int m] ∧ 0 < m ∧ m ≤ 1000000 ∧ Gd2 1000000000 p ∧ o = .val (.int (dr2 p m).1) ∧ qs' = penD (dr2 p m).2
def ksOk (s : Str) : Prop := s = "s" ∨ s = "w" ∨ s = "sw"
def B_choose : List D → List D → Prop := fun qs ds => ∃ (p : Pn) (v : D), qs = penD p ∧ ds = [v] ∧ Gd2 100000000 p ∧ ((∃ xs, v = .lst xs ∧ 0 < xs.length ∧ xs.length ≤ 1000) ∨ ∃ s, v = .str s ∧ ksOk s)
def R_choose : List D → List D → D → List D → Prop := fun qs ds d qs' => ∃ (p p' : Pn), qs = penD p ∧ qs' = penD p' ∧ Nx2 1 p p' ∧ (∀ xs, ds = [.lst xs] → d ∈ xs) ∧ (∀ s, ds = [.str s] → ∃ t, d = .str t)
def C_equal : List D → Out → Prop := fun ds o => ∃ x : D, ds = [x, x] ∧ Shows x ∧ o = .val (.bl true)
end Pr
namespace Pr
open PySem L2 Fx Mt
abbrev s_law_cell : Stmt := top 31
section
variable {P : Program} {w : World} {G : Gx} {mg : Str → Option Value} {base : Heap}
theorem sc_law_cell : FnScope ["_law_script", "_law_index"] ["_law_script", "_law_index"] (defScope s_law_cell) := ⟨rfl, rfl, rfl, by decide +kernel, rfl, by decide +kernel, by decide +kernel⟩
theorem ok_law_cell {f : Addr} {fd : FuncData} (F : L2.Fun G.K "_law_cell" "_law_cell" s_law_cell f fd) (hb : Binds G.K fd ["_law_script", "_law_index"] []) (T : Tx mg) : FnR P w G.K mg base CX0 1 f (sp0 G C_cell) := by
  refine fn0 F sc_law_cell hb (fun ds o ⟨ns, k, e, _⟩ => by rw [e]; rfl) (by decide) fun cdv A outer s H E hr ds o hC => ?_
  obtain ⟨ns, k, rfl, rfl⟩ := hC
  refine sx_cons (sx_if (et_c c_lt (ev_var 1 rfl rfl (.inl rfl)) (ev_lenScr (ev_var 0 rfl rfl (.inl rfl)) T.len rfl)) (fun hb => ?_) (fun hb => ?_))
  · have hk : k < ns.length := by have := of_decide_eq_true hb; omega
    refine sx_one (sx_ret (ev_i (i_scr (m := k) (j := ns.getD k 0) (ixN_nat hk) (by rw [List.getElem?_eq_getElem hk, List.getD_eq_getElem?_getD, List.getElem?_eq_getElem hk]; rfl)) (ev_var 0 rfl rfl (.inl rfl)) (ev_var 1 rfl rfl (.inl rfl))) rfl)
  · have hk : ns.length ≤ k := by have := of_decide_eq_false hb; omega
    refine sx_nil (sx_one (sx_ret ev_int ?_))
    rw [List.getD_eq_getElem?_getD, List.getElem?_eq_none hk]
    rfl
end
end Pr
namespace Pr
open PySem L2 Fx Mt
abbrev s_law_source : Stmt := top 32
section
variable {P : Program} {w : World} {G : Gx} {mg : Str → Option Value} {base : Heap}
theorem sc_law_source : FnScope ["_law_cell_here"] ["_law_cell_here"] (defScope s_law_source) := ⟨rfl, rfl, rfl, by decide +kernel, rfl, by decide +kernel, by decide +kernel⟩
theorem ok_law_source {f : Addr} {fd : FuncData} (F : L2.Fun G.K "_law_source" "_law_source" s_law_source f fd) (hb : Binds G.K fd ["_law_cell_here"] []) (T : Tx mg) : FnR P w G.K mg base CX0 1 f (sp0 G C_source) := by
  refine fn0 F sc_law_source hb (fun ds o ⟨i, e, _⟩ => by rw [e]; rfl) (by decide) fun cdv A outer s H E hr ds o hC => ?_
  obtain ⟨i, rfl, rfl⟩ := hC
  refine sx_one (sx_retN (evn_lst (evv_cons (ev_max2 (evv_cons ev_int (evv_cons (ev_b b_sub (ev_var 0 rfl rfl (.inl rfl)) (ev_b (b_pow (by unfold CPow; decide)) ev_int ev_int)) evv_nil)) rfl T.max rfl) (evv_cons (ev_b b_add (ev_b (b_mod (by decide)) (ev_var 0 rfl rfl (.inl rfl)) ev_int) ev_int) (evv_cons ev_int evv_nil))) rfl) ?_)
  rfl
end
end Pr
namespace Pr
open PySem L2 Fx Mt
abbrev s_law_draw : Stmt := top 33
abbrev N_law_draw : List Str := ["_law_source_here", "_law_many", "_law_mixed_here", "_law_found"]
section
variable {P : Program} {w : World} {G : Gx} {mg : Str → Option Value} {base : Heap}
theorem sc_law_draw : FnScope N_law_draw ["_law_source_here", "_law_many"] (defScope s_law_draw) := ⟨rfl, rfl, rfl, by decide +kernel, rfl, by decide +kernel, by decide +kernel⟩
theorem ok_law_draw {f : Addr} {fd : FuncData} (F : L2.Fun G.K "_law_draw" "_law_draw" s_law_draw f fd) (hb : Binds G.K fd ["_law_source_here", "_law_many"] []) : FnR P w G.K mg base CX0 1 f (sp1 G C_draw) := by
  refine fn1 F sc_law_draw hb (fun qs ds o qs' ⟨p, m, _, e, _⟩ => by rw [e]; rfl) (by decide) fun cdv A outer s H E hr l qs ds o qs' hC => ?_
  obtain ⟨p, m, rfl, rfl, h0, h1, hg, rfl, rfl⟩ := hC
  unfold Gd2 at hg
  have mb := mixB_lo p.2.1 (p.2.2 + 1)
  have mc := mixC_lo (mixB p.2.1 (p.2.2 + 1))
  refine sx_cons (sx_if (et_c c_gt (ev_iO 0 (i_lst (m := 0) rfl rfl) rfl ev_int rfl rfl rfl (.inl rfl)) ev_int) (fun hb => ?_) (fun hb => ?_))
  · have hp : 0 < p.1 := of_decide_eq_true hb
    refine sx_cons (sx_set 3 (ev_b (b_mod h0) (ev_iO 0 (i_lst (m := 0) rfl rfl) rfl ev_int rfl rfl rfl (.inl rfl)) (ev_var 1 rfl rfl (.inl rfl))) ?_ sc_law_draw.nd rfl (.inl rfl) (.inl rfl))
    refine sx_cons (sx_setIx 0 (m := 0) (ev_b (b_div (div_ok h0 h1 _)) (ev_iO 0 (i_lst (m := 0) rfl rfl) rfl ev_int rfl rfl rfl (.inl rfl)) (ev_var 1 rfl rfl (.inl rfl))) ev_int rfl rfl rfl ?_ rfl (.inl rfl))
    refine sx_one (sx_ret (ev_var 3 rfl rfl (.inl rfl)) ?_)
    unfold dr2
    rw [if_pos hp]
    exact ⟨rfl, rfl⟩
  · have hp : ¬ 0 < p.1 := of_decide_eq_false hb
    refine sx_nil ?_
    refine sx_cons (sx_setIx 0 (m := 2) (ev_b b_add (ev_iO 0 (i_lst (m := 2) rfl rfl) rfl ev_int rfl rfl rfl (.inl rfl)) ev_int) ev_int rfl rfl rfl ?_ rfl (.inl rfl))
    refine sx_cons (sx_setIx 0 (m := 1) (d := .int (mixB p.2.1 (p.2.2 + 1))) (ev_b (b_mod (by decide)) (ev_b b_add (ev_b b_add (ev_b (b_mul (mul_r (by decide) (by decide))) (ev_iO 0 (i_lst (m := 1) rfl rfl) rfl ev_int rfl rfl rfl (.inl rfl)) ev_int) (ev_b (b_mul (mul_l (by decide) (by decide))) ev_int (ev_iO 0 (i_lst (m := 2) rfl rfl) rfl ev_int rfl rfl rfl (.inl rfl)))) ev_int) ev_int) ev_int rfl rfl rfl ?_ rfl (.inl rfl))
    refine sx_cons (sx_set 2 (d := .int (mixC (mixB p.2.1 (p.2.2 + 1)))) (ev_b (b_mod (by decide)) (ev_b b_add (ev_b b_add (ev_b (b_mul (mul_r (by omega) (by omega))) (ev_iO 0 (i_lst (m := 1) (z := .int (mixB p.2.1 (p.2.2 + 1))) rfl rfl) rfl ev_int rfl rfl rfl (.inl rfl)) (ev_iO 0 (i_lst (m := 1) (z := .int (mixB p.2.1 (p.2.2 + 1))) rfl rfl) rfl ev_int rfl rfl rfl (.inl rfl))) (ev_b (b_mul (mul_l (by decide) (by decide))) ev_int (ev_iO 0 (i_lst (m := 1) (z := .int (mixB p.2.1 (p.2.2 + 1))) rfl rfl) rfl ev_int rfl rfl rfl (.inl rfl)))) ev_int) ev_int) ?_ sc_law_draw.nd rfl (.inl rfl) (.inl rfl))
    refine sx_cons (sx_set 2 (d := .int (mixD (mixC (mixB p.2.1 (p.2.2 + 1))))) (ev_b (b_mod (by decide)) (ev_b b_add (ev_b (b_mul (mul_r (by omega) (by omega))) (ev_var 2 rfl rfl (.inl rfl)) (ev_var 2 rfl rfl (.inl rfl))) (ev_b (b_mul (mul_l (by decide) (by decide))) ev_int (ev_var 2 rfl rfl (.inl rfl)))) ev_int) ?_ sc_law_draw.nd rfl (.inl rfl) (.inl rfl))
    refine sx_one (sx_ret (ev_b (b_mod h0) (ev_b (b_div (div_ok (by decide) (by decide) _)) (ev_var 2 rfl rfl (.inl rfl)) ev_int) (ev_var 1 rfl rfl (.inl rfl))) ?_)
    unfold dr2
    rw [if_neg hp]
    exact ⟨rfl, rfl⟩
end
end Pr
namespace Pr
open PySem L2 Fx Mt
abbrev s_law_choose : Stmt := top 34
section
variable {P : Program} {w : World} {G : Gx} {mg : Str → Option Value} {base : Heap}
theorem sc_law_choose : FnScope ["_law_source_here", "_law_values"] ["_law_source_here", "_law_values"] (defScope s_law_choose) := ⟨rfl, rfl, rfl, by decide +kernel, rfl, by decide +kernel, by decide +kernel⟩
theorem i_strAt {X : Cx} {s : Str} {i : Int} {c : Nat} (hz : s.length ≤ 1000) (h : atI s.cps.toList i = some c) : IxJ G X (.str s) (.int i) (.str ⟨#[c]⟩) := ⟨_, ix_str, fun F H v w Q sm h1 h2 q => by
  cases h1
  cases h2
  exact ⟨s, i, c, rfl, rfl, by rw [sizeLine_eq]; omega, h, q _ F H (.refl sm) rfl⟩⟩
theorem ks_len {s : Str} (h : ksOk s) : 0 < s.length ∧ s.length ≤ 2 := by rcases h with rfl | rfl | rfl <;> decide +kernel
theorem ok_law_choose {f : Addr} {fd : FuncData} (F : L2.Fun G.K "_law_choose" "_law_choose" s_law_choose f fd) (hb : Binds G.K fd ["_law_source_here", "_law_values"] []) (T : Tx mg) (F_draw : Fn1 G P w mg base 1 "_law_draw" C_draw) : FnR P w G.K mg base CX0 2 f (sp1R G B_choose R_choose) := by
  refine fn1R F sc_law_choose hb (fun qs ds ⟨p, v, _, e, _⟩ => by rw [e]; rfl) (by decide) fun cdv A outer s H E hr l qs ds hC => ?_
  obtain ⟨p, v, rfl, rfl, hg, hv⟩ := hC
  rcases hv with ⟨xs, rfl, h0, h1⟩ | ⟨t, rfl, ht⟩
  · have d1 := dr2_lo p (m := (xs.length : Int)) (by omega)
    obtain ⟨k, hk⟩ : ∃ k : Nat, (dr2 p (xs.length : Int)).1 = (k : Int) := ⟨(dr2 p (xs.length : Int)).1.toNat, by omega⟩
    have hkl : k < xs.length := by omega
    refine sx_one (sx_ret (ev_i (i_lst (m := k) (z := xs[k]) (by rw [hk]; exact ixN_nat hkl) (List.getElem?_eq_getElem hkl)) (ev_var 1 rfl rfl (.inl rfl)) (ev_fn1 0 F_draw hr (by decide) (evp_cons (i := 0) rfl rfl (.inl rfl) (evv_cons (ev_lenL (ev_var 1 rfl rfl (.inl rfl)) T.len rfl) evv_nil)) rfl ⟨p, (xs.length : Int), rfl, rfl, by omega, by omega, hg.le (by decide), rfl, rfl⟩ rfl)) ?_)
    refine ⟨penD (dr2 p (xs.length : Int)).2, ⟨p, _, rfl, rfl, dr2_nx p _, fun ys e => ?_, fun s e => by cases e⟩, rfl⟩
    cases e
    exact List.getElem_mem hkl
  · have hl := ks_len ht
    have d1 := dr2_lo p (m := (t.length : Int)) (by omega)
    obtain ⟨k, hk⟩ : ∃ k : Nat, (dr2 p (t.length : Int)).1 = (k : Int) := ⟨(dr2 p (t.length : Int)).1.toNat, by omega⟩
    have hkl : k < t.cps.toList.length := by
      have e : t.cps.toList.length = t.length := by simp [Str.length]
      omega
    refine sx_one (sx_ret (ev_i (i_strAt (c := t.cps.toList[k]) (by omega) (by rw [hk]; rw [Fx.atI_get (j := k) (ixN_nat hkl)]; exact List.getElem?_eq_getElem hkl)) (ev_var 1 rfl rfl (.inl rfl)) (ev_fn1 0 F_draw hr (by decide) (evp_cons (i := 0) rfl rfl (.inl rfl) (evv_cons (ev_lenS (ev_var 1 rfl rfl (.inl rfl)) (by omega) T.len rfl) evv_nil)) rfl ⟨p, (t.length : Int), rfl, rfl, by omega, by omega, hg.le (by decide), rfl, rfl⟩ rfl)) ?_)
    refine ⟨penD (dr2 p (t.length : Int)).2, ⟨p, _, rfl, rfl, dr2_nx p _, ?_, ?_⟩, rfl⟩
    · intro ys e
      cases e
    · intro s e
      exact ⟨_, rfl⟩
end
end Pr
namespace Pr
open PySem L2 Fx Mt
abbrev s_law_is_equal : Stmt := top 35
section
variable {P : Program} {w : World} {G : Gx} {mg : Str → Option Value} {base : Heap}
theorem sc_law_is_equal : FnScope ["_law_actual", "_law_expected"] ["_law_actual", "_law_expected"] (defScope s_law_is_equal) := ⟨rfl, rfl, rfl, by decide +kernel, rfl, by decide +kernel, by decide +kernel⟩
theorem ok_law_is_equal {f : Addr} {fd : FuncData} (F : L2.Fun G.K "_law_is_equal" "_law_is_equal" s_law_is_equal f fd) (hb : Binds G.K fd ["_law_actual", "_law_expected"] []) (T : Tx mg) : FnG P w G.K mg base 1 f (sp0 G C_equal) := by
  refine fn0G F sc_law_is_equal hb (fun ds o ⟨x, e, _⟩ => by rw [e]; rfl) (by decide) fun cdv A outer s H E hr gd ds o hC => ?_
  obtain ⟨x, rfl, hx, rfl⟩ := hC
  have hu65 : (cx0 P w G.K mg base ["_law_actual", "_law_expected"] "_law_is_equal" s_law_is_equal f cdv A outer s H E).A.units + 65 < cLine := by have := hr.un; omega
  refine sx_one (sx_ret (ev_is (ev_c c_eqS (ev_repr hx (ev_var 0 rfl rfl (.inl rfl)) gd hu65 T.repr rfl) (ev_repr hx (ev_var 1 rfl rfl (.inl rfl)) gd hu65 T.repr rfl)) (congrArg D.bl (decide_eq_true rfl))) rfl)
end
end Pr
namespace Pr
open PySem L2 Fx Mt
theorem eqD_encP (p q : Int × Int) : eqD (encP p) (encP q) = decide (p = q) := by
  obtain ⟨a, b⟩ := p
  obtain ⟨c, d⟩ := q
  have e : eqD (encP (a, b)) (encP (c, d)) = (eqD (.int a) (.int c) && (eqD (.int b) (.int d) && true)) := rfl
  rw [e, eqD_int, eqD_int]
  simp [Prod.ext_iff]
  rfl
theorem any_encP (q : Int × Int) (ps : List (Int × Int)) : ((ps.map encP).any fun z => eqD z (encP q)) = decide (q ∈ ps) := by
  induction ps with
  | nil => rfl
  | cons s ps ih =>
    rw [List.map_cons, List.any_cons, ih, eqD_encP]
    simp only [List.mem_cons, Bool.decide_or]
    congr 1
    exact decide_eq_decide.mpr ⟨Eq.symm, Eq.symm⟩
theorem fine_encP (q : Int × Int) : fine (encP q) := ⟨rfl, by show max 0 (max 0 0) + 1 ≤ 64; decide⟩
theorem fine_encPs (ps : List (Int × Int)) : fine (.lst (ps.map encP)) := fine_lst fun d hd => by
  obtain ⟨v, _, rfl⟩ := List.mem_map.mp hd
  exact ⟨rfl, by show max 0 (max 0 0) + 1 ≤ 30; decide⟩
theorem rng_get {n i : Nat} {d : D} (h : (rng n)[i]? = some d) : d = .int (i : Int) ∧ i < n := by
  unfold rng at h
  rw [List.getElem?_map] at h
  by_cases hi : i < n
  · rw [List.getElem?_range hi] at h
    cases h
    exact ⟨rfl, hi⟩
  · rw [List.getElem?_eq_none (by simpa using hi)] at h; cases h
theorem rng_len (n : Nat) : (rng n).length = n := by unfold rng; rw [List.length_map, List.length_range]
theorem sIx_lo {n k d : Nat} (h : k ≤ n) : HT.sIx n d (some (k : Int)) = k := by
  unfold HT.sIx
  simp
  split <;> omega
def C_downs2 : List D → Out → Prop := fun ds o => ∃ rs : List R, ds = [.lst (rs.map encR)] ∧ rs.length < 64 ∧ o = .new ((dns rs).map encP)
def C_all : List D → Out → Prop := fun ds o => ∃ w : Nat, ds = [.int (w : Int)] ∧ w ≤ 6 ∧ o = .new ((allR (w : Int)).map encR)
def C_list : List D → Out → Prop := fun ds o => ∃ (w : Int) (rs : List R), ds = [.int w, .lst (rs.map encR)] ∧ Ok w rs ∧ 1 ≤ w ∧ w ≤ 6 ∧ o = .val (encK w rs)
def B_step : List D → List D → Prop := fun qs ds => ∃ (p : Pn) (a b : Int) (s : Str), qs = penD p ∧ ds = [.int a, .int b, .str s] ∧ ksOk s ∧ Gd2 10000000 p
def R_step : List D → List D → D → List D → Prop := fun qs ds d qs' => ∃ (p p' : Pn) (r : R), qs = penD p ∧ qs' = penD p' ∧ Nx2 1 p p' ∧ d = encR r ∧ ∀ a b s, ds = [.int a, .int b, .str s] → dn r = (a, b)
def B_mixed : List D → List D → Prop := fun qs ds => ∃ (p : Pn) (m : Nat), qs = penD p ∧ ds = [.int (m : Int)] ∧ m ≤ 100 ∧ Gd2 10000000 p
def Perm2 (m : Nat) (ns : List Int) : Prop := ns.length = m ∧ ns.Nodup ∧ ∀ x ∈ ns, 0 ≤ x ∧ x < (m : Int)
def R_mixed : List D → List D → D → List D → Prop := fun qs ds d qs' => ∃ (p p' : Pn) (ns : List Int) (m : Nat), qs = penD p ∧ qs' = penD p' ∧ ds = [.int (m : Int)] ∧ Nx2 (m : Int) p p' ∧ d = .lst (ns.map .int) ∧ Perm2 m ns
def B_nearly : List D → List D → Prop := fun qs ds => ∃ p : Pn, qs = penD p ∧ ds = [] ∧ Gd2 1000000 p
def R_nearly : List D → List D → D → List D → Prop := fun qs ds d qs' => ∃ (p p' : Pn) (rs : List R), qs = penD p ∧ qs' = penD p' ∧ d = .lst (rs.map encR) ∧ Ok 6 rs ∧ Nx2 2 p p'
end Pr
namespace Pr
open PySem L2 Fx Mt
abbrev s_law_downs : Stmt := top 42
abbrev N_law_downs : List Str := ["_law_rules_here", "_law_kind", "_law_a", "_law_b"]
section
variable {P : Program} {w : World} {G : Gx} {mg : Str → Option Value} {base : Heap}
theorem sc_law_downs : FnScope N_law_downs ["_law_rules_here"] (defScope s_law_downs) := ⟨rfl, rfl, rfl, by decide +kernel, rfl, by decide +kernel, by decide +kernel⟩
theorem ok_law_downs {f : Addr} {fd : FuncData} (F : L2.Fun G.K "_law_downs" "_law_downs" s_law_downs f fd) (hb : Binds G.K fd ["_law_rules_here"] []) : FnR P w G.K mg base CX0 1 f (sp0 G C_downs2) := by
  refine fn0 F sc_law_downs hb (fun ds o ⟨rs, e, _⟩ => by rw [e]; rfl) (by decide) fun cdv A outer s H E hr ds o hC => ?_
  obtain ⟨rs, rfl, hz, rfl⟩ := hC
  refine sx_one (sx_retN (evn_is (evn_lc (own := [("_law_kind", 1), ("_law_a", 2), ("_law_b", 3)]) (evn_pure rs encR (fun _ => true) (fun r => encP (dn r)) (ei_list (ev_var 0 rfl rfl (.inl rfl))) (by omega) fun r hr =>
    ⟨_, _, by decide, fun _ _ _ _ _ => eg_tup rfl (egs_cons (eg_name 1 sc_law_downs.nd rfl (.inl rfl) (.inr rfl)) (egs_cons (eg_name 2 sc_law_downs.nd rfl (.inl rfl) (.inr rfl)) (egs_cons (eg_name 3 sc_law_downs.nd rfl (.inl rfl) (.inr rfl)) egs_nil))),
      fun _ _ _ _ _ => ets_nil, fun _ _ _ _ _ _ => ev_if (et_c c_eqS (ev_var 1 rfl rfl (.inl rfl)) ev_str) (fun hk => ev_is (ev_tup (evv_cons (ev_var 2 rfl rfl (.inl rfl)) (evv_cons (ev_var 3 rfl rfl (.inl rfl)) evv_nil)) rfl) ?_) (fun hk => ev_is (ev_tup (evv_cons (ev_var 3 rfl rfl (.inl rfl)) (evv_cons (ev_var 2 rfl rfl (.inl rfl)) evv_nil)) rfl) ?_), rfl⟩) rfl sc_law_downs.nd (blkOk_by (N := N_law_downs) (sc := defScope s_law_downs) (by decide +kernel))) ?_) rfl)
  · rw [kS_settles] at hk
    unfold encP dn
    rw [if_pos hk]
  · rw [kS_settles] at hk
    unfold encP dn
    rw [if_neg (by rw [hk]; decide)]
  · unfold dns
    rw [List.filter_eq_self.mpr (by simp), List.map_map]
    rfl
end
end Pr
namespace Pr
open PySem L2 Fx Mt
abbrev s_law_all : Stmt := top 40
abbrev N_law_all : List Str := ["_law_width", "_law_found", "_law_kind", "_law_a", "_law_b"]
section
variable {P : Program} {w : World} {G : Gx} {mg : Str → Option Value} {base : Heap}
theorem sc_law_all : FnScope N_law_all ["_law_width"] (defScope s_law_all) := ⟨rfl, rfl, rfl, by decide +kernel, rfl, by decide +kernel, by decide +kernel⟩
def rowK (w : Nat) (k : Bool) (a : Nat) : List R := ((List.range w).filter fun (b : Nat) => !decide ((a : Int) = (b : Int))).map fun (b : Nat) => (k, (a : Int), (b : Int))
theorem allK_rows (w : Nat) (k : Bool) : allK (w : Int) k = (List.range w).flatMap (rowK w k) := by
  unfold allK cols rowK
  rw [Int.toNat_natCast, List.flatMap_map]
  congr 1
  funext a
  rw [List.filter_map, List.map_map]
  rfl
theorem rowK_len (w : Nat) (k : Bool) (a : Nat) : (rowK w k a).length ≤ w := by
  unfold rowK
  rw [List.length_map]
  exact Nat.le_trans (List.length_filter_le _ _) (by rw [List.length_range]; exact Nat.le_refl _)
theorem rows_len (w : Nat) (k : Bool) : ∀ i, ((List.range i).flatMap (rowK w k)).length ≤ i * w
  | 0 => by simp
  | i + 1 => by
    rw [List.range_succ, List.flatMap_append, List.length_append]
    have := rows_len w k i
    have h2 := rowK_len w k i
    simp only [List.flatMap_cons, List.flatMap_nil, List.append_nil]
    rw [Nat.succ_mul]
    omega
theorem ok_law_all {f : Addr} {fd : FuncData} (F : L2.Fun G.K "_law_all" "_law_all" s_law_all f fd) (hb : Binds G.K fd ["_law_width"] []) (T : Tx mg) : FnR P w G.K mg base CX0 1 f (sp0 G C_all) := by
  refine fn0 F sc_law_all hb (fun ds o ⟨w, e, _⟩ => by rw [e]; rfl) (by decide) fun cdv A outer s H E hr ds o hC => ?_
  obtain ⟨wd, rfl, hw, rfl⟩ := hC
  refine sx_cons (sx_setN 1 (evn_lst evv_nil rfl) (fun l => ?_) sc_law_all.nd rfl (.inl rfl) (.inl rfl))
  refine sx_cons (sx_for (its := [true, false].map fun k => D.str (kS k)) (ei_tup (ev_tup (evv_cons ev_str (evv_cons ev_str evv_nil)) rfl)) (fun i c => ∃ c2 c3, c = [.val (.int (wd : Int)), .own l ((([true, false].take i).flatMap (allK (wd : Int))).map encR), c2, c3, .no]) ⟨.no, .no, rfl⟩ (fun i d c hi hI => ?_) (fun c hI => ?_) rfl)
  · obtain ⟨c2, c3, rfl⟩ := hI
    rw [List.getElem?_map] at hi
    cases e : ([true, false])[i]? with
    | none => rw [e] at hi; cases hi
    | some k =>
      rw [e] at hi
      cases hi
      have hi2 : i < 2 := (List.getElem?_eq_some_iff.mp e).1
      have hpre : (([true, false].take i).flatMap (allK (wd : Int))).length ≤ 72 := by
        have h1 : ∀ k, (allK (wd : Int) k).length ≤ 36 := fun k => by
          rw [allK_rows]
          exact Nat.le_trans (rows_len wd k wd) (Nat.mul_le_mul hw hw)
        have : i = 0 ∨ i = 1 := by omega
        rcases this with rfl | rfl
        · simp
        · simp only [List.take, List.flatMap_cons, List.flatMap_nil, List.append_nil]
          have := h1 true
          omega
      refine ⟨_, _, eg_name 2 sc_law_all.nd rfl (.inr rfl) (.inl rfl), ?_⟩
      refine sx_one (sx_for (its := rng wd) (ei_range (n := wd) (evv_cons (ev_var 0 rfl rfl (.inl rfl)) evv_nil) rfl T.range (by omega)) (fun j c => ∃ c3, c = [.val (.int (wd : Int)), .own l ((([true, false].take i).flatMap (allK (wd : Int)) ++ (List.range j).flatMap (rowK wd k)).map encR), .val (.str (kS k)), c3, .no]) ⟨c3, by simp⟩ (fun j d c hj hJ => ?_) (fun c hJ => ?_) rfl)
      · obtain ⟨c3, rfl⟩ := hJ
        obtain ⟨rfl, hjw⟩ := rng_get hj
        have hr1 := rows_len wd k j
        have hr2 : j * wd ≤ 36 := Nat.mul_le_mul (by omega : j ≤ 6) hw
        refine ⟨_, _, eg_name 3 sc_law_all.nd rfl (.inr rfl) (.inl rfl), ?_⟩
        refine sx_one (sx_extend 1 (ys := (rowK wd k j).map encR) rfl (ev_is (EvN.ev (evn_lc (own := [("_law_b", 4)]) (evn_pure (List.range wd) (fun (b : Nat) => .int (b : Int)) (fun (b : Nat) => !decide ((j : Int) = (b : Int))) (fun (b : Nat) => encR (k, (j : Int), (b : Int))) (ei_range (n := wd) (evv_cons (ev_var 0 rfl rfl (.inl rfl)) evv_nil) rfl T.range (by omega)) (by rw [List.length_range]; omega) fun b hb => ⟨_, _, by decide, fun _ _ _ _ _ => (eg_name 4 sc_law_all.nd rfl (.inl rfl) (.inr rfl)), fun _ _ _ _ _ => (ets_one (et_is (et_c c_ne (ev_var 4 rfl rfl (.inl rfl)) (ev_var 3 rfl rfl (.inr (.inl rfl)))) (congrArg (fun z => !z) (decide_eq_decide.mpr ⟨Eq.symm, Eq.symm⟩)))), fun _ _ _ _ _ _ => (ev_tup (evv_cons (ev_var 2 rfl rfl (.inr (.inl rfl))) (evv_cons (ev_var 3 rfl rfl (.inr (.inl rfl))) (evv_cons (ev_var 4 rfl rfl (.inl rfl)) evv_nil))) rfl), rfl⟩) rfl sc_law_all.nd (blkOk_by (N := N_law_all) (sc := defScope s_law_all) (by decide +kernel)))) ?_) rfl ?_ ?_ rfl (.inl rfl) (pe_bm PySem.F.plainAttrs_list PySem.F.slot_list_extend PySem.F.type_list_extend mt_extend))
        · unfold rowK
          rw [List.map_map]
          rfl
        · rw [List.length_map, List.length_map, List.length_append]
          have := rowK_len wd k j
          omega
        · refine ⟨.val (.int (j : Int)), ?_⟩
          rw [List.range_succ, List.flatMap_append, ← List.append_assoc, List.map_append (l₂ := List.flatMap _ [j])]
          simp only [List.flatMap_cons, List.flatMap_nil, List.append_nil]
          rfl
      · obtain ⟨c3, rfl⟩ := hJ
        refine ⟨.val (.str (kS k)), c3, ?_⟩
        rw [rng_len, ← allK_rows, List.take_add_one, e, List.flatMap_append]
        simp
  · obtain ⟨c2, c3, rfl⟩ := hI
    refine sx_one (sx_retO 1 rfl ?_ rfl (.inl rfl))
    show (List.map encR (List.flatMap (allK (wd : Int)) ([true, false].take 2))) = _
    unfold allR
    simp
end
end Pr
namespace Pr
open PySem L2 Fx Mt
abbrev s_law_list : Stmt := top 39
abbrev N_law_list : List Str := ["_law_width", "_law_rules_here", "_law_kind", "_law_a", "_law_b"]
section
variable {P : Program} {w : World} {G : Gx} {mg : Str → Option Value} {base : Heap}
theorem sc_law_list : FnScope N_law_list ["_law_width", "_law_rules_here"] (defScope s_law_list) := ⟨rfl, rfl, rfl, by decide +kernel, rfl, by decide +kernel, by decide +kernel⟩
theorem ok_law_list {f : Addr} {fd : FuncData} (F : L2.Fun G.K "_law_list" "_law_list" s_law_list f fd) (hb : Binds G.K fd ["_law_width", "_law_rules_here"] []) (T : Tx mg) (K : RC G mg) (I_read : PkCls G P w mg base 0 8 "read" C_read) : FnR P w G.K mg base CX0 9 f (sp0 G C_list) := by
  refine fn0 F sc_law_list hb (fun ds o ⟨w, rs, e, _⟩ => by rw [e]; rfl) (by decide) fun cdv A outer s H E hr ds o hC => ?_
  obtain ⟨wd, rs, rfl, hok, hw1, hw, rfl⟩ := hC
  have hl := hok.len hw
  have hs := sum_len hok hw
  have lk : ∀ k, (kS k).length ≤ 10 := by intro k; cases k <;> decide +kernel
  have l1 : (" " : Str).length = 1 := by decide +kernel
  have l2 : ("\n" : Str).length = 1 := by decide +kernel
  refine sx_one (sx_ret (ev_cmethP (c := 0) I_read hr (by decide) rfl K.nm (evv_cons (ev_var 0 rfl rfl (.inl rfl)) (evv_cons (ev_join (ys := rs.map lnN) ev_str (ev_is (EvN.ev (evn_lc (own := [("_law_kind", 2), ("_law_a", 3), ("_law_b", 4)]) (evn_pure rs encR (fun _ => true) (fun r => .str (lnN r)) (ei_list (ev_var 1 rfl rfl (.inl rfl))) (by omega) fun r hr' => ⟨_, _, by decide, fun _ _ _ _ _ => eg_tup rfl (egs_cons (eg_name 2 sc_law_list.nd rfl (.inl rfl) (.inr rfl)) (egs_cons (eg_name 3 sc_law_list.nd rfl (.inl rfl) (.inr rfl)) (egs_cons (eg_name 4 sc_law_list.nd rfl (.inl rfl) (.inr rfl)) egs_nil))), fun _ _ _ _ _ => ets_nil, fun _ _ _ _ _ _ => (ev_b (b_addS ?_) (ev_b (b_addS ?_) (ev_b (b_addS ?_) (ev_b (b_addS ?_) (ev_b (b_addS ?_) (ev_strI (ev_var 3 rfl rfl (.inl rfl)) ?_ T.str rfl) ev_str) (ev_var 2 rfl rfl (.inl rfl))) ev_str) (ev_strI (ev_var 4 rfl rfl (.inl rfl)) ?_ T.str rfl)) ev_str), rfl⟩) rfl sc_law_list.nd (blkOk_by (N := N_law_list) (sc := defScope s_law_list) (by decide +kernel)))) ?_) ?_) evv_nil)) ⟨wd, rs, rfl, hok, hw1, hw, rfl⟩) rfl)
  all_goals first
    | (obtain ⟨a, b, ea, eb, ha, hb2⟩ := fine_cols hok hw hr'
       have q1 : (nS r.2.1).length = 1 := by rw [ea]; exact nS_len ha
       have q2 : (nS r.2.2).length = 1 := by rw [eb]; exact nS_len hb2
       have q3 := lk r.1
       simp only [len_app, q1, q2, l1, l2]
       omega)
    | (obtain ⟨a, b, ea, eb, ha, hb2⟩ := fine_cols hok hw hr'; rw [ea]; exact nat6_log ha)
    | (obtain ⟨a, b, ea, eb, ha, hb2⟩ := fine_cols hok hw hr'; rw [eb]; exact nat6_log hb2)
    | (rw [List.filter_eq_self.mpr (by simp), List.map_map]; rfl)
    | (have e : ("" : Str).length = 0 := by decide +kernel
       rw [e, List.length_map]
       omega)
end
end Pr
namespace Pr
open PySem L2 Fx Mt
abbrev s_law_step : Stmt := top 37
abbrev N_law_step : List Str := ["_law_source_here", "_law_a", "_law_b", "_law_kinds"]
section
variable {P : Program} {w : World} {G : Gx} {mg : Str → Option Value} {base : Heap}
theorem sc_law_step : FnScope N_law_step N_law_step (defScope s_law_step) := ⟨rfl, rfl, rfl, by decide +kernel, rfl, by decide +kernel, by decide +kernel⟩
theorem evr_ifR {X : Cx} {c a b : Expr} {pos : Pos} {cs : List Cell} {R : D → List Cell → Prop} {RT : Bool → List Cell → Prop} (h : ∀ (F : Hp) (σ : L2.St) (H : Hp) (Q : Bool → Hp → Prop), Rel G F σ H cs → (∀ k cs1 F' H', RT k cs1 → Stp F H (Owns cs) F' H' (Owns cs1) → Rel G F' σ H' cs1 → Q k H') → rdT X c σ H Q)
    (h1 : ∀ cs1, RT true cs1 → EvR G (rdE X a) cs1 R) (h2 : ∀ cs1, RT false cs1 → EvR G (rdE X b) cs1 R) : EvR G (rdE X (.IfExp c a b pos)) cs R :=
  evr_of (pe_ifExp pt_rd pe_rd pe_rd) fun F σ H Q rl q => h F σ H _ rl fun k cs1 F1 H1 hk st1 r1 => by
    cases k with
    | true => exact iteT (h1 cs1 hk F1 σ H1 _ r1 fun d cs2 v F2 H2 hd st2 r2 i2 => q d cs2 v F2 H2 hd (st1.trans st2) r2 i2)
    | false => exact iteF (h2 cs1 hk F1 σ H1 _ r1 fun d cs2 v F2 H2 hd st2 r2 i2 => q d cs2 v F2 H2 hd (st1.trans st2) r2 i2)
/-- e == "..", e one of several texts -/
theorem etr_eqS {X : Cx} {e : Expr} {pos : Pos} {cs : List Cell} {t : Str} {j : Nat} {pc : Pos} {RT : D → List Cell → Prop} (h : EvR G (rdE X e) cs RT) (hs : ∀ d c, RT d c → ∃ s, d = .str s) :
    ∀ (F : Hp) (σ : L2.St) (H : Hp) (Q : Bool → Hp → Prop), Rel G F σ H cs → (∀ k cs1 F' H', (∃ d, RT d cs1) → Stp F H (Owns cs) F' H' (Owns cs1) → Rel G F' σ H' cs1 → Q k H') → rdT X (.Compare e [.Eq] [.Constant (.str t) j pc] pos) σ H Q := fun F σ H Q rl q pins s I =>
  (pt_cmpR op_eq pe_rd pe_str (by rfl)).run pins s σ H Q I (h F σ H _ rl fun d cs1 v F1 H1 hd st1 r1 i1 => by
    obtain ⟨z, rfl⟩ := hs d cs1 hd
    cases i1
    exact ⟨rfl, _, rfl, q _ cs1 F1 H1 ⟨_, hd⟩ st1 r1⟩)
theorem ok_law_step {f : Addr} {fd : FuncData} (F : L2.Fun G.K "_law_step" "_law_step" s_law_step f fd) (hb : Binds G.K fd ["_law_source_here", "_law_a", "_law_b", "_law_kinds"] []) (F_choose : Fn1R G P w mg base 2 "_law_choose" B_choose R_choose) : FnR P w G.K mg base CX0 3 f (sp1R G B_step R_step) := by
  refine fn1R F sc_law_step hb (fun qs ds ⟨p, a, b, s, _, e, _⟩ => by rw [e]; rfl) (by decide) fun cdv A outer s H E hr l qs ds hC => ?_
  obtain ⟨p, a, b, t, rfl, rfl, ht, hg⟩ := hC
  refine sx_one (sx_retR (R := fun d c => ∃ (p' : Pn) (r : R), d = encR r ∧ dn r = (a, b) ∧ Nx2 1 p p' ∧ c = [.own l (penD p'), .val (.int a), .val (.int b), .val (.str t)]) (evr_ifR (RT := fun _ c => ∃ p' : Pn, Nx2 1 p p' ∧ c = [.own l (penD p'), .val (.int a), .val (.int b), .val (.str t)]) (fun F σ H Q rl q => etr_eqS (evr_fn1 0 F_choose hr (by decide) (evp_cons (i := 0) rfl rfl (.inl rfl) (evv_cons (ev_var 3 rfl rfl (.inl rfl)) evv_nil)) rfl ⟨p, .str t, rfl, rfl, hg.le (by decide), .inr ⟨t, rfl, ht⟩⟩ (by rfl)) (fun d c hd => ?_) F σ H Q rl fun k cs1 F' H' hk => q k cs1 F' H' ?_) (fun cs1 hk => ?_) (fun cs1 hk => ?_)) (fun d c hd => ?_))
  · obtain ⟨qs', ⟨p1, p2, e1, e2, hx, _, hstr⟩, rfl⟩ := hd
    exact hstr t rfl
  · obtain ⟨d, qs', ⟨p1, p2, e1, e2, hx, _, hstr⟩, rfl⟩ := hk
    cases penD_inj e1
    subst e2
    exact ⟨p2, hx, rfl⟩
  · obtain ⟨p', hx, rfl⟩ := hk
    exact evr_ev (ev_tup (evv_cons ev_str (evv_cons (ev_var 1 rfl rfl (.inl rfl)) (evv_cons (ev_var 2 rfl rfl (.inl rfl)) evv_nil))) rfl) ⟨p', (true, a, b), rfl, rfl, hx, rfl⟩
  · obtain ⟨p', hx, rfl⟩ := hk
    exact evr_ev (ev_tup (evv_cons ev_str (evv_cons (ev_var 2 rfl rfl (.inl rfl)) (evv_cons (ev_var 1 rfl rfl (.inl rfl)) evv_nil))) rfl) ⟨p', (false, b, a), rfl, rfl, hx, rfl⟩
  · obtain ⟨p', r, rfl, hr2, hx, rfl⟩ := hd
    refine ⟨penD p', ⟨p, p', r, rfl, rfl, hx, rfl, fun a2 b2 s2 e => ?_⟩, rfl⟩
    injection e with e1 e
    injection e with e2 e
    injection e1 with e1
    injection e2 with e2
    rw [hr2, e1, e2]
end
end Pr
namespace Pr
open PySem L2 Fx Mt
def VO (c : Cell) (ds : List D) : Prop := c = .val (.lst ds) ∨ ∃ l, c = .own l ds
theorem sx_vo {G : Gx} {ts : TS} {cs : List Cell} {P : Post} {c : Cell} {ds : List D} (i : Nat) (hc : VO c ds) (h : cs[i]? = some c) (q : Sx G ts (cs.set i (.val (.lst ds))) P) : Sx G ts cs P := by
  rcases hc with rfl | ⟨l, rfl⟩
  · have e : cs.set i (.val (.lst ds)) = cs := by
      apply List.ext_getElem?
      intro j
      by_cases z : i = j
      · subst z
        rw [List.getElem?_set_self (List.getElem?_eq_some_iff.mp h).1, h]
      · rw [List.getElem?_set_ne z]
    rw [e] at q
    exact q
  · exact sx_frz i h q
end Pr
namespace Pr
open PySem L2 Fx Mt
abbrev s_law_mixed : Stmt := top 36
abbrev N_law_mixed : List Str := ["_law_source_here", "_law_many", "_law_turn", "_law_found", "_law_left", "_law_one", "_law_at"]
section
variable {P : Program} {w : World} {G : Gx} {mg : Str → Option Value} {base : Heap}
theorem sc_law_mixed : FnScope N_law_mixed ["_law_source_here", "_law_many"] (defScope s_law_mixed) := ⟨rfl, rfl, rfl, by decide +kernel, rfl, by decide +kernel, by decide +kernel⟩
theorem cols_nodup (m : Nat) : (cols (m : Int)).Nodup := by
  unfold cols
  refine List.pairwise_map.mpr (List.nodup_range.imp fun h e => h (Int.ofNat.inj e))
/-- what is left: those that were not chosen -/
theorem left_len {m : Nat} {fs lf : List Int} (h : ∀ x, x ∈ lf ↔ (0 ≤ x ∧ x < (m : Int)) ∧ x ∉ fs) (hn : lf.Nodup) (hf : fs.Nodup) (hr : ∀ x ∈ fs, 0 ≤ x ∧ x < (m : Int)) : lf.length + fs.length = m := by
  have hp : (lf ++ fs).Perm (cols (m : Int)) := by
    refine (List.perm_ext_iff_of_nodup ?_ ?_).mpr fun x => ?_
    · refine List.nodup_append.mpr ⟨hn, hf, fun a ha b hb e => ?_⟩
      subst e
      exact ((h a).mp ha).2 hb
    · exact cols_nodup m
    · rw [List.mem_append, mem_cols, h]
      constructor
      · rintro (z | z)
        · exact z.1
        · exact hr x z
      · intro z
        by_cases e : x ∈ fs
        · exact .inr e
        · exact .inl ⟨z, e⟩
  have := hp.length_eq
  rw [List.length_append] at this
  rw [this]
  unfold cols
  simp
theorem cols_rng (m : Nat) : rng m = (cols (m : Int)).map D.int := by
  unfold rng cols
  rw [List.map_map, Int.toNat_natCast]
  rfl
theorem ok_law_mixed {f : Addr} {fd : FuncData} (F : L2.Fun G.K "_law_mixed" "_law_mixed" s_law_mixed f fd) (hb : Binds G.K fd ["_law_source_here", "_law_many"] []) (T : Tx mg) (F_choose : Fn1R G P w mg base 2 "_law_choose" B_choose R_choose) : FnR P w G.K mg base CX0 3 f (sp1R G B_mixed R_mixed) := by
  refine fn1R F sc_law_mixed hb (fun qs ds ⟨p, m, _, e, _⟩ => by rw [e]; rfl) (by decide) fun cdv A outer s H E hr l qs ds hC => ?_
  obtain ⟨p, m, rfl, rfl, hm, hg⟩ := hC
  have l0 : (cols (m : Int)).length = m := by unfold cols; simp
  -- found, left = [], [at for at in range(many)]
  refine sx_cons (sx_parNN 3 4 (es := (cols (m : Int)).map D.int) (evn_lst evv_nil rfl) (evn_is (evn_lc (own := [("_law_at", 6)]) (evn_pure (cols (m : Int)) D.int (fun _ => true) D.int (ei_is (ei_range (n := m) (evv_cons (ev_var 1 rfl rfl (.inl rfl)) evv_nil) rfl T.range (by omega)) (cols_rng m)) (by omega) fun x hx => ⟨_, _, by decide, fun _ _ _ _ _ => (eg_name 6 sc_law_mixed.nd rfl (.inl rfl) (.inr rfl)), fun _ _ _ _ _ => ets_nil, fun _ _ _ _ _ _ => (ev_var 6 rfl rfl (.inl rfl)), rfl⟩) rfl sc_law_mixed.nd (blkOk_by (N := N_law_mixed) (sc := defScope s_law_mixed) (by decide +kernel))) (by rw [List.filter_eq_self.mpr (by simp)])) (fun lf ll => ?_) (fun h => ps_par (i := 3) (j := 4) rfl sc_law_mixed.nd rfl rfl (by decide) rfl rfl h (by rfl)) (by decide))
  refine sx_frz 4 (l := ll) (ds := (cols (m : Int)).map D.int) rfl ?_
  refine sx_cons (sx_for (its := rng m) (ei_range (n := m) (evv_cons (ev_var 1 rfl rfl (.inl rfl)) evv_nil) rfl T.range (by omega)) (fun i c => ∃ p' fs lv c2 c4 c5, c = [.own l (penD p'), .val (.int (m : Int)), c2, .own lf (fs.map D.int), c4, c5, .no] ∧ VO c4 (lv.map D.int) ∧ fs.length = i ∧ fs.Nodup ∧ (∀ x ∈ fs, 0 ≤ x ∧ x < (m : Int)) ∧ lv.Nodup ∧ (∀ x, x ∈ lv ↔ (0 ≤ x ∧ x < (m : Int)) ∧ x ∉ fs) ∧ Nx2 (i : Int) p p')
    ⟨p, [], cols (m : Int), .no, _, .no, rfl, .inl rfl, rfl, List.nodup_nil, by simp, cols_nodup m, fun x => by rw [mem_cols]; simp, Nx2.refl p⟩ (fun i d c hi hI => ?_) (fun c hI => ?_) rfl)
  · obtain ⟨p', fs, lv, c2, c4, c5, rfl, hvo, hl, hn, hin, ln, lm, hx⟩ := hI
    obtain ⟨rfl, him⟩ := rng_get hi
    have hlen := left_len lm ln hn hin
    have g1 := hg.nx hx (c := 20000000) (by omega)
    refine ⟨_, _, eg_name 2 sc_law_mixed.nd rfl (.inl rfl) (.inl rfl), ?_⟩
    refine sx_vo 4 hvo rfl ?_
    refine sx_cons (sx_setR 5 (R := fun d c => ∃ (one : Int) (p2 : Pn), d = .int one ∧ one ∈ lv ∧ Nx2 1 p' p2 ∧ c = [.own l (penD p2), .val (.int (m : Int)), .val (.int (i : Int)), .own lf (fs.map D.int), .val (.lst (lv.map D.int)), c5, .no]) ((evr_fn1 0 F_choose hr (by decide) (evp_cons (i := 0) rfl rfl (.inl rfl) (evv_cons (ev_var 4 rfl rfl (.inl rfl)) evv_nil)) rfl ⟨p', .lst (lv.map D.int), rfl, rfl, g1.le (by decide), .inl ⟨lv.map D.int, rfl, by rw [List.length_map]; omega, by rw [List.length_map]; omega⟩⟩ (by rfl)).mono fun d c hd => ?_) (fun d c hd => ?_) sc_law_mixed.nd rfl (.inr rfl) (.inl rfl))
    · obtain ⟨qs', ⟨p1, p2, e1, e2, hx2, hin2, _⟩, rfl⟩ := hd
      cases penD_inj e1
      subst e2
      obtain ⟨one, ho, rfl⟩ := List.mem_map.mp (hin2 _ rfl)
      exact ⟨one, p2, rfl, ho, hx2, rfl⟩
    · obtain ⟨one, p2, rfl, ho, hx2, rfl⟩ := hd
      refine sx_cons (sx_append 3 rfl (ev_var 5 rfl rfl (.inr (.inl rfl))) rfl (by rw [List.length_map]; omega) ?_ rfl (.inl rfl) (pe_bm PySem.F.plainAttrs_list PySem.F.slot_list_append PySem.F.type_list_append mt_append))
      refine sx_one (sx_setLc 4 (own := [("_law_at", 6)]) (evn_pure lv D.int (fun x => !decide (x = one)) D.int (ei_list (ev_var 4 rfl rfl (.inl rfl))) (by omega) fun x hx => ⟨_, _, by decide, fun _ _ _ _ _ => (eg_name 6 sc_law_mixed.nd rfl (.inl rfl) (.inr rfl)), fun _ _ _ _ _ => (ets_one (et_c c_ne (ev_var 6 rfl rfl (.inl rfl)) (ev_var 5 rfl rfl (.inr (.inl rfl))))), fun _ _ _ _ _ _ => (ev_var 6 rfl rfl (.inl rfl)), rfl⟩) (fun l2 => ?_) rfl sc_law_mixed.nd rfl rfl (sw_true rfl rfl rfl (by decide +kernel)) (blkOk_by (N := N_law_mixed) (sc := defScope s_law_mixed) (by decide +kernel)))
      have hlt := ((lm one).mp ho)
      refine ⟨p2, fs ++ [one], lv.filter fun x => !decide (x = one), .val (.int (i : Int)), _, .val (.int one), by rw [List.map_append]; rfl, .inr ⟨l2, rfl⟩, by rw [List.length_append, hl]; rfl, ?_, fun x hx' => ?_, ln.filter _, fun x => ?_, (hx.trans hx2).le (by omega)⟩
      · refine List.nodup_append.mpr ⟨hn, by simp, fun a ha b hb e => ?_⟩
        rw [List.mem_singleton] at hb
        subst hb e
        exact hlt.2 ha
      · rcases List.mem_append.mp hx' with z | z
        · exact hin x z
        · rw [List.mem_singleton] at z
          subst z
          exact hlt.1
      · rw [List.mem_filter, lm, List.mem_append, List.mem_singleton]
        simp
        constructor
        · rintro ⟨⟨a1, a2⟩, a3⟩
          exact ⟨a1, a2, a3⟩
        · rintro ⟨a1, a2, a3⟩
          exact ⟨⟨a1, a2⟩, a3⟩
  · obtain ⟨p', fs, lv, c2, c4, c5, rfl, hvo, hl, hn, hin, ln, lm, hx⟩ := hI
    rw [rng_len] at hl hx
    refine sx_frz 3 (l := lf) (ds := fs.map D.int) rfl ?_
    exact sx_one (sx_ret (ev_var 3 rfl rfl (.inl rfl)) ⟨_, ⟨p, p', fs, m, rfl, rfl, rfl, hx.le (by omega), rfl, hl, hn, hin⟩, rfl⟩)
end
end Pr
namespace Pr
open PySem L2 Fx Mt
abbrev s_law_nearly : Stmt := top 45
abbrev N_law_nearly : List Str := ["_law_source_here", "_law_every", "_law_by"]
section
variable {P : Program} {w : World} {G : Gx} {mg : Str → Option Value} {base : Heap}
theorem sc_law_nearly : FnScope N_law_nearly ["_law_source_here"] (defScope s_law_nearly) := ⟨rfl, rfl, rfl, by decide +kernel, rfl, by decide +kernel, by decide +kernel⟩
theorem ok_all6 : Ok 6 (allR 6) := ⟨by decide +kernel, fun r hr => mem_allR.mp hr⟩
theorem len_all6 : (allR 6).length = 60 := by decide +kernel
theorem ok_law_nearly {f : Addr} {fd : FuncData} (F : L2.Fun G.K "_law_nearly" "_law_nearly" s_law_nearly f fd) (hb : Binds G.K fd ["_law_source_here"] []) (F_draw : Fn1 G P w mg base 1 "_law_draw" C_draw) (F_all : Fn0 G P w mg base 1 "_law_all" C_all) : FnR P w G.K mg base CX0 2 f (sp1R G B_nearly R_nearly) := by
  refine fn1R F sc_law_nearly hb (fun qs ds ⟨p, _, e, _⟩ => by rw [e]; rfl) (by decide) fun cdv A outer s H E hr l qs ds hC => ?_
  obtain ⟨p, rfl, rfl, hg⟩ := hC
  have d1 := dr2_lo p (m := 60) (by decide)
  have n1 := dr2_nx p 60
  have g1 := hg.nx n1 (c := 2000000) (by decide)
  have d2 := dr2_lo (dr2 p 60).2 (m := 3) (by decide)
  have n2 := dr2_nx (dr2 p 60).2 3
  obtain ⟨k, hk⟩ : ∃ k : Nat, (dr2 p 60).1 = (k : Int) := ⟨(dr2 p 60).1.toNat, by omega⟩
  obtain ⟨j, hj⟩ : ∃ j : Nat, (dr2 (dr2 p 60).2 3).1 = (j : Int) := ⟨(dr2 (dr2 p 60).2 3).1.toNat, by omega⟩
  have l6 : ((allR 6).map encR).length = 60 := by rw [List.length_map]; exact len_all6
  refine sx_cons (sx_parVV 1 2 (EvN.ev (evn_fn0 F_all hr (by decide) (evv_cons ev_int evv_nil) ⟨6, rfl, by decide, rfl⟩ (by rfl))) (ev_fn1 0 F_draw hr (by decide) (evp_cons (i := 0) rfl rfl (.inl rfl) (evv_cons ev_int evv_nil)) rfl ⟨p, 60, rfl, rfl, by decide, by decide, hg.le (by decide), rfl, rfl⟩ (by rfl)) ?_ (fun h => ps_par (i := 1) (j := 2) rfl sc_law_nearly.nd rfl rfl (by decide) rfl rfl h (by rfl)))
  rw [hk]
  have cut1 : (((allR 6).map encR).drop (HT.sIx ((allR 6).map encR).length 0 (some (k : Int)))).take (HT.sIx ((allR 6).map encR).length ((allR 6).map encR).length none - HT.sIx ((allR 6).map encR).length 0 (some (k : Int))) = ((allR 6).drop k).map encR := by
    rw [sIx_lo (by omega), List.map_drop]
    exact List.take_of_length_le (by rw [List.length_drop]; exact Nat.le_refl _)
  have cut2 : (((allR 6).map encR).drop (HT.sIx ((allR 6).map encR).length 0 none)).take (HT.sIx ((allR 6).map encR).length ((allR 6).map encR).length (some (k : Int)) - HT.sIx ((allR 6).map encR).length 0 none) = ((allR 6).take k).map encR := by
    rw [sIx_lo (by omega), List.map_take]
    rfl
  have cut3 : ∀ rs : List R, j ≤ rs.length → ((rs.map encR).drop (HT.sIx (rs.map encR).length 0 (some (j : Int)))).take (HT.sIx (rs.map encR).length (rs.map encR).length none - HT.sIx (rs.map encR).length 0 (some (j : Int))) = (rs.drop j).map encR := fun rs h => by
    rw [sIx_lo (by rw [List.length_map]; exact h), List.map_drop]
    exact List.take_of_length_le (by rw [List.length_drop]; exact Nat.le_refl _)
  refine sx_one (sx_ret (d := .lst ((((allR 6).drop k ++ (allR 6).take k).drop j).map encR)) (ev_is (EvN.ev (evn_slice (po_some pe_rd) po_none (EvN.ev (evn_is (evn_b (b_addL (xs := ((allR 6).drop k).map encR) (ys := ((allR 6).take k).map encR) (by simp only [List.length_map, List.length_take, List.length_drop, len_all6]; omega)) (EvN.ev (evn_is (evn_slice (po_some pe_rd) po_none (ev_var 1 rfl rfl (.inl rfl)) (es_some (ev_var 2 rfl rfl (.inl rfl))) es_none) cut1)) (EvN.ev (evn_is (evn_slice po_none (po_some pe_rd) (ev_var 1 rfl rfl (.inl rfl)) es_none (es_some (ev_var 2 rfl rfl (.inl rfl)))) cut2))) (List.map_append (f := encR)).symm)) (es_some (ev_is (ev_fn1 0 F_draw hr (by decide) (evp_cons (i := 0) rfl rfl (.inl rfl) (evv_cons ev_int evv_nil)) rfl ⟨_, 3, rfl, rfl, by decide, by decide, g1.le (by decide), rfl, rfl⟩ (by rfl)) (congrArg D.int hj))) es_none)) (congrArg D.lst (cut3 _ (by simp only [List.length_append, List.length_take, List.length_drop, len_all6]; omega)))) ?_)
  refine ⟨penD (dr2 (dr2 p 60).2 3).2, ⟨p, _, _, rfl, rfl, rfl, ⟨?_, fun r hr => ?_⟩, (n1.trans n2).le (by decide)⟩, rfl⟩
  · refine (List.Nodup.sublist (List.drop_sublist _ _)) ?_
    have hp : ((allR 6).drop k ++ (allR 6).take k).Perm (allR 6) := by
      refine List.perm_append_comm.trans ?_
      rw [List.take_append_drop]
    exact hp.nodup_iff.mpr ok_all6.nd
  · refine ok_all6.lo r ?_
    rcases List.mem_append.mp (List.mem_of_mem_drop hr) with z | z
    · exact List.mem_of_mem_drop z
    · exact List.mem_of_mem_take z
end
end Pr
namespace Pr
open PySem L2 Fx Mt
def encM (M : List (List Bool)) : List (List D) := M.map fun r => r.map D.bl
def matD (M : List (List Bool)) : D := .lst ((encM M).map .lst)
def C_reach : List D → Out → Prop := fun ds o => ∃ (w : Nat) (ps : List (Int × Int)), ds = [.int (w : Int), .lst (ps.map encP)] ∧ w ≤ 6 ∧ ps.length < 64 ∧ o = .val (matD (fw w ps))
theorem mat_row {w : Nat} {M : List (List Bool)} (h : Sq w M) {a : Nat} (ha : a < w) : ixN (encM M).length (a : Int) = some a ∧ (encM M)[a]? = some ((M.getD a []).map D.bl) := by
  obtain ⟨r, h1, h2, h3⟩ := h.row ha
  refine ⟨ixN_nat (by unfold encM; rw [List.length_map, h.1]; exact ha), ?_⟩
  unfold encM
  rw [List.getElem?_map, h1, h2]
  rfl
theorem mat_at {w : Nat} {M : List (List Bool)} (h : Sq w M) {a b : Nat} (ha : a < w) (hb : b < w) : ixN ((M.getD a []).map D.bl).length (b : Int) = some b ∧ ((M.getD a []).map D.bl)[b]? = some (D.bl (gt M a b)) := by
  obtain ⟨r, h1, h2, h3⟩ := h.row ha
  rw [h2]
  refine ⟨ixN_nat (by rw [List.length_map, h3]; exact hb), ?_⟩
  unfold gt
  rw [h2, List.getElem?_map, List.getD_eq_getElem?_getD, List.getElem?_eq_getElem (by rw [h3]; exact hb)]
  rfl
theorem mat_set {w : Nat} {M : List (List Bool)} (h : Sq w M) {a b : Nat} (ha : a < w) : (encM M).set a (((M.getD a []).map D.bl).set b (.bl true)) = encM (st M a b) := by
  unfold encM st
  rw [List.map_set, List.map_set]
def C_arrows2 : List D → Out → Prop := fun ds o => ∃ (w : Nat) (rs : List R) (k : Bool), ds = [.int (w : Int), .lst (rs.map encR), .str (kS k)] ∧ w ≤ 6 ∧ Ok (w : Int) rs ∧ o = .new ((prs w rs k).map encP)
end Pr
namespace Pr
open PySem L2 Fx Mt
abbrev s_law_reach : Stmt := top 41
abbrev N_law_reach : List Str := ["_law_width", "_law_pairs", "_law_found", "_law_middle", "_law_a", "_law_b"]
section
variable {P : Program} {w : World} {G : Gx} {mg : Str → Option Value} {base : Heap}
theorem sc_law_reach : FnScope N_law_reach ["_law_width", "_law_pairs"] (defScope s_law_reach) := ⟨rfl, rfl, rfl, by decide +kernel, rfl, by decide +kernel, by decide +kernel⟩
def lcSc : Expr → Scope
  | .ListComp _ _ sc _ => sc
  | _ => { kind := .function, names := [], isGenerator := false, isCoroutine := false }
def asgE : Stmt → Expr
  | .Assign _ e _ => e
  | _ => .Constant .none 0 ⟨0, 0, 0, 0⟩
def relS (i o : Scope) : Scope := relabel i (PyProof.Rows.envOfC "" o 0 0 .none)
theorem sq_k1 {w : Nat} {M : List (List Bool)} (h : Sq w M) (i : Nat) : Sq w ((List.range i).foldl (f1 w) M) := fold_inv _ h fun M y _ hM => (keep_f1 0 0 hM).1
theorem sq_k2 {w y : Nat} {M : List (List Bool)} (h : Sq w M) {i : Nat} (hi : i ≤ w) : Sq w ((List.range i).foldl (f2 w y) M) := fold_inv _ h fun M a ha hM => (keep_f2 (by have := List.mem_range.mp ha; omega) 0 0 hM).1
theorem sq_k3 {w y a : Nat} (ha : a < w) {M : List (List Bool)} (h : Sq w M) (i : Nat) : Sq w ((List.range i).foldl (f3 y a) M) := fold_inv _ h fun M b _ hM => sq_f3 hM ha b
theorem ok_law_reach {f : Addr} {fd : FuncData} (F : L2.Fun G.K "_law_reach" "_law_reach" s_law_reach f fd) (hb : Binds G.K fd ["_law_width", "_law_pairs"] []) (T : Tx mg) : FnR P w G.K mg base CX0 1 f (sp0 G C_reach) := by
  refine fn0 F sc_law_reach hb (fun ds o ⟨w, ps, e, _⟩ => by rw [e]; rfl) (by decide) fun cdv A outer s H E hr ds o hC => ?_
  obtain ⟨wd, ps, rfl, hw, hz, rfl⟩ := hC
  have hu65 : (cx0 P w G.K mg base N_law_reach "_law_reach" s_law_reach f cdv A outer s H E).A.units + 65 < cLine := by have := hr.un; omega
  refine sx_cons (sx_setM 2 (own := [("_law_a", 4)]) (evm_pure (List.range wd) (fun (a : Nat) => .int (a : Int)) (fun (a : Nat) => (List.range wd).map fun (b : Nat) => .bl (decide ((a : Int) = (b : Int)) || decide (((a : Int), (b : Int)) ∈ ps))) (ei_range (n := wd) (evv_cons (ev_var 0 rfl rfl (.inr (.inl rfl))) evv_nil) rfl T.range (by omega)) (by rw [List.length_range]; omega) fun a ha => ⟨_, _, by decide, fun _ _ _ _ _ => eg_name 4 sc_law_reach.nd rfl (.inr rfl) (.inl rfl), fun _ _ _ _ _ => evn_is (evn_lc (own := [("_law_b", 5)]) (evn_pure (List.range wd) (fun (b : Nat) => .int (b : Int)) (fun _ => true) (fun (b : Nat) => .bl (decide ((a : Int) = (b : Int)) || decide (((a : Int), (b : Int)) ∈ ps))) (ei_range (n := wd) (evv_cons (ev_var 0 rfl rfl (.inr (.inl rfl))) evv_nil) rfl T.range (by omega)) (by rw [List.length_range]; omega) fun b hb => ⟨_, _, by decide, fun _ _ _ _ _ => eg_name 5 sc_law_reach.nd rfl (.inl rfl) (.inr rfl), fun _ _ _ _ _ => ets_nil, fun _ _ _ _ _ _ => ev_or (ev_c c_eq (ev_var 4 rfl rfl (.inr (.inl rfl))) (ev_var 5 rfl rfl (.inl rfl))) fun _ => ev_one (ev_is (ev_c (c_inL (by exact hu65) (fine_encP ((a : Int), (b : Int))) (fine_encPs ps)) (ev_tup (evv_cons (ev_var 4 rfl rfl (.inr (.inl rfl))) (evv_cons (ev_var 5 rfl rfl (.inl rfl)) evv_nil)) rfl) (ev_var 1 rfl rfl (.inr (.inl rfl)))) (by rw [any_encP])), rfl⟩) rfl sc_law_reach.nd (blkOk_by (N := N_law_reach) (sc := relS (lcSc (asgE ((defBody s_law_reach).getD 0 (.Pass ⟨0, 0, 0, 0⟩)))) (defScope s_law_reach)) (by decide +kernel))) ?_, rfl⟩) (fun l ls => ?_) rfl sc_law_reach.nd rfl rfl (sw_true rfl rfl rfl (by decide +kernel)) (blkOk_by (N := N_law_reach) (sc := defScope s_law_reach) (by decide +kernel)))
  · rw [List.filter_eq_self.mpr (by simp)]
  have e0 : ((List.range wd).map fun (a : Nat) => (List.range wd).map fun (b : Nat) => D.bl (decide ((a : Int) = (b : Int)) || decide (((a : Int), (b : Int)) ∈ ps))) = encM (ini wd ps) := by
    unfold encM ini
    rw [List.map_map]
    refine List.map_congr_left fun a _ => ?_
    simp only [Function.comp]
    rw [List.map_map]
    rfl
  rw [e0]
  have s0 := sq_ini wd ps
  refine sx_cons (sx_for (its := rng wd) (ei_range (n := wd) (evv_cons (ev_var 0 rfl rfl (.inr (.inl rfl))) evv_nil) rfl T.range (by omega)) (fun i c => ∃ c3 c4 c5, c = [.val (.int (wd : Int)), .val (.lst (ps.map encP)), .mat l ls (encM ((List.range i).foldl (f1 wd) (ini wd ps))), c3, c4, c5]) ⟨.no, .no, .no, rfl⟩ (fun y d c hi hI => ?_) (fun c hI => ?_) rfl)
  · obtain ⟨c3, c4, c5, rfl⟩ := hI
    obtain ⟨rfl, hy⟩ := rng_get hi
    have s1 := sq_k1 s0 y
    generalize hM1 : (List.range y).foldl (f1 wd) (ini wd ps) = M1 at s1
    refine ⟨_, _, eg_name 3 sc_law_reach.nd rfl (.inl rfl) (.inl rfl), ?_⟩
    refine sx_one (sx_for (its := rng wd) (ei_range (n := wd) (evv_cons (ev_var 0 rfl rfl (.inr (.inl rfl))) evv_nil) rfl T.range (by omega)) (fun i c => ∃ c4 c5, c = [.val (.int (wd : Int)), .val (.lst (ps.map encP)), .mat l ls (encM ((List.range i).foldl (f2 wd y) M1)), .val (.int (y : Int)), c4, c5]) ⟨c4, c5, rfl⟩ (fun a d c hi hI => ?_) (fun c hI => ?_) rfl)
    · obtain ⟨c4, c5, rfl⟩ := hI
      obtain ⟨rfl, ha⟩ := rng_get hi
      have s2 := sq_k2 (y := y) s1 (Nat.le_of_lt ha)
      generalize hM2 : (List.range a).foldl (f2 wd y) M1 = M2 at s2
      refine ⟨_, _, eg_name 4 sc_law_reach.nd rfl (.inl rfl) (.inl rfl), ?_⟩
      refine sx_one (sx_for (its := rng wd) (ei_range (n := wd) (evv_cons (ev_var 0 rfl rfl (.inr (.inl rfl))) evv_nil) rfl T.range (by omega)) (fun i c => ∃ c5, c = [.val (.int (wd : Int)), .val (.lst (ps.map encP)), .mat l ls (encM ((List.range i).foldl (f3 y a) M2)), .val (.int (y : Int)), .val (.int (a : Int)), c5]) ⟨c5, rfl⟩ (fun b d c hi hI => ?_) (fun c hI => ?_) rfl)
      · obtain ⟨c5, rfl⟩ := hI
        obtain ⟨rfl, hb⟩ := rng_get hi
        have s3 := sq_k3 (y := y) ha s2 b
        have hnx : (List.range (b + 1)).foldl (f3 y a) M2 = f3 y a ((List.range b).foldl (f3 y a) M2) b := by rw [List.range_succ, List.foldl_append]; rfl
        rw [hnx]
        generalize hM3 : (List.range b).foldl (f3 y a) M2 = M3 at s3
        refine ⟨_, _, eg_name 5 sc_law_reach.nd rfl (.inl rfl) (.inl rfl), ?_⟩
        refine sx_one (sx_if (et_w (ew_and (et_val (ev_ixM 2 rfl (ev_var 4 rfl rfl (.inl rfl)) (ev_var 3 rfl rfl (.inl rfl)) (mat_row s3 ha).1 (mat_row s3 ha).2 (mat_at s3 ha hy).1 (mat_at s3 ha hy).2 rfl (.inl rfl))) fun _ => (ew_and1 (et_val (ev_ixM 2 rfl (ev_var 3 rfl rfl (.inl rfl)) (ev_var 5 rfl rfl (.inl rfl)) (mat_row s3 hy).1 (mat_row s3 hy).2 (mat_at s3 hy hb).1 (mat_at s3 hy hb).2 rfl (.inl rfl)))))) (fun hk => ?_) (fun hk => ?_))
        · refine sx_one (sx_setIxM 2 rfl ev_bl (ev_var 4 rfl rfl (.inl rfl)) (ev_var 5 rfl rfl (.inl rfl)) (mat_row s3 ha).1 (mat_row s3 ha).2 (mat_at s3 ha hb).1 ⟨.val (.int (b : Int)), ?_⟩ rfl (.inl rfl))
          rw [mat_set s3 ha]
          unfold f3
          rw [if_pos hk]
          rfl
        · refine sx_nil ⟨.val (.int (b : Int)), ?_⟩
          unfold f3
          rw [if_neg (by rw [hk]; decide)]
          rfl
      · obtain ⟨c5, rfl⟩ := hI
        refine ⟨.val (.int (a : Int)), c5, ?_⟩
        rw [rng_len, List.range_succ, List.foldl_append, hM2]
        rfl
    · obtain ⟨c4, c5, rfl⟩ := hI
      refine ⟨.val (.int (y : Int)), c4, c5, ?_⟩
      rw [rng_len, List.range_succ, List.foldl_append, hM1]
      rfl
  · obtain ⟨c3, c4, c5, rfl⟩ := hI
    refine sx_frzM 2 (l := l) (ls := ls) rfl ?_
    rw [rng_len]
    exact sx_one (sx_ret (ev_var 2 rfl rfl (.inl rfl)) rfl)
end
end Pr
namespace Pr
open PySem L2 Fx Mt
abbrev s_law_arrows : Stmt := top 43
abbrev N_law_arrows : List Str := ["_law_width", "_law_rules_here", "_law_kind", "_law_there", "_law_found", "_law_other", "_law_a", "_law_b"]
section
variable {P : Program} {w : World} {G : Gx} {mg : Str → Option Value} {base : Heap}
theorem sc_law_arrows : FnScope N_law_arrows ["_law_width", "_law_rules_here", "_law_kind"] (defScope s_law_arrows) := ⟨rfl, rfl, rfl, by decide +kernel, rfl, by decide +kernel, by decide +kernel⟩
theorem row_lst {w : Nat} {M : List (List Bool)} (h : Sq w M) {a : Nat} (ha : a < w) : ixN ((encM M).map D.lst).length (a : Int) = some a ∧ ((encM M).map D.lst)[a]? = some (.lst ((M.getD a []).map D.bl)) := by
  obtain ⟨h1, h2⟩ := mat_row h ha
  refine ⟨by rw [List.length_map]; exact h1, ?_⟩
  rw [List.getElem?_map, h2]
  rfl
theorem ok_law_arrows {f : Addr} {fd : FuncData} (F : L2.Fun G.K "_law_arrows" "_law_arrows" s_law_arrows f fd) (hb : Binds G.K fd ["_law_width", "_law_rules_here", "_law_kind"] []) (F_reach : Fn0 G P w mg base 1 "_law_reach" C_reach) (F_downs : Fn0 G P w mg base 1 "_law_downs" C_downs2) : FnR P w G.K mg base CX0 2 f (sp0 G C_arrows2) := by
  refine fn0 F sc_law_arrows hb (fun ds o ⟨w, rs, k, e, _⟩ => by rw [e]; rfl) (by decide) fun cdv A outer s H E hr ds o hC => ?_
  obtain ⟨wd, rs, k, rfl, hw, hok, rfl⟩ := hC
  have hl := hok.len (by omega)
  have hq := sq_fw wd (dns rs)
  refine sx_cons (sx_set 3 (ev_fn0 F_reach hr (by decide) (evv_cons (ev_var 0 rfl rfl (.inl rfl)) (evv_cons (EvN.ev (evn_fn0 F_downs hr (by decide) (evv_cons (ev_var 1 rfl rfl (.inl rfl)) evv_nil) ⟨rs, rfl, by omega, rfl⟩ rfl)) evv_nil)) ⟨wd, dns rs, rfl, hw, by unfold dns; rw [List.length_map]; omega, rfl⟩ rfl) ?_ sc_law_arrows.nd rfl (.inr rfl) (.inl rfl))
  refine sx_cons (sx_setLc 4 (own := [("_law_other", 5), ("_law_a", 6), ("_law_b", 7)]) (evn_pure rs encR (fun r => decide (r.1 = k)) (fun r => encP (r.2.1, r.2.2)) (ei_list (ev_var 1 rfl rfl (.inl rfl))) (by omega) fun x hx => ⟨_, _, by decide, fun _ _ _ _ _ => (eg_tup rfl (egs_cons (eg_name 5 sc_law_arrows.nd rfl (.inl rfl) (.inr rfl)) (egs_cons (eg_name 6 sc_law_arrows.nd rfl (.inl rfl) (.inr rfl)) (egs_cons (eg_name 7 sc_law_arrows.nd rfl (.inl rfl) (.inr rfl)) egs_nil)))), fun _ _ _ _ _ => (ets_one (et_is (et_c c_eqS (ev_var 5 rfl rfl (.inl rfl)) (ev_var 2 rfl rfl (.inr (.inl rfl)))) (by rw [kS_eq]))), fun _ _ _ _ _ _ => (ev_tup (evv_cons (ev_var 6 rfl rfl (.inl rfl)) (evv_cons (ev_var 7 rfl rfl (.inl rfl)) evv_nil)) rfl), rfl⟩) (fun l => ?_) rfl sc_law_arrows.nd rfl rfl (sw_true rfl rfl rfl (by decide +kernel)) (blkOk_by (N := N_law_arrows) (sc := defScope s_law_arrows) (by decide +kernel)))
  have e1 : (rs.filter fun r => decide (r.1 = k)).map (fun r => encP (r.2.1, r.2.2)) = (fnd rs k).map encP := by
    unfold fnd
    rw [List.map_map]
    rfl
  rw [e1]
  have hfl : (fnd rs k).length ≤ 60 := by
    unfold fnd
    rw [List.length_map]
    have := List.length_filter_le (fun r : R => decide (r.1 = k)) rs
    omega
  refine sx_frz 4 (l := l) (ds := (fnd rs k).map encP) rfl ?_
  refine sx_one (sx_retN (evn_is (evn_b (b_addL ?_) (ev_var 4 rfl rfl (.inl rfl)) (EvN.ev (evn_lc (own := [("_law_a", 6), ("_law_b", 7)]) (evn_pure (fnd rs k) encP (both (fw wd (dns rs))) (fun p => encP (p.2, p.1)) (ei_list (ev_var 4 rfl rfl (.inl rfl))) (by omega) fun q hq' => ?_) rfl sc_law_arrows.nd (blkOk_by (N := N_law_arrows) (sc := defScope s_law_arrows) (by decide +kernel))))) ?_) rfl)
  · rw [List.length_map, List.length_map]
    have := List.length_filter_le (both (fw wd (dns rs))) (fnd rs k)
    omega
  · obtain ⟨r, hr', _, rfl⟩ := mem_fnd.mp hq'
    have hv := hok.lo r hr'
    obtain ⟨a, ea⟩ : ∃ a : Nat, r.2.1 = (a : Int) := ⟨r.2.1.toNat, by omega⟩
    obtain ⟨b, eb⟩ : ∃ b : Nat, r.2.2 = (b : Int) := ⟨r.2.2.toNat, by omega⟩
    have ha : a < wd := by omega
    have hb : b < wd := by omega
    rw [ea, eb]
    refine ⟨_, _, by decide, fun _ _ _ _ _ => (eg_tup rfl (egs_cons (eg_name 6 sc_law_arrows.nd rfl (.inl rfl) (.inr rfl)) (egs_cons (eg_name 7 sc_law_arrows.nd rfl (.inl rfl) (.inr rfl)) egs_nil))), fun _ _ _ _ _ => (ets_one (et_is (et_w (ew_and (et_val (ev_i (i_lst (mat_at hq ha hb).1 (mat_at hq ha hb).2) (ev_i (i_lst (row_lst hq ha).1 (row_lst hq ha).2) (ev_var 3 rfl rfl (.inr (.inl rfl))) (ev_var 6 rfl rfl (.inl rfl))) (ev_var 7 rfl rfl (.inl rfl)))) fun _ => (ew_and1 (et_val (ev_i (i_lst (mat_at hq hb ha).1 (mat_at hq hb ha).2) (ev_i (i_lst (row_lst hq hb).1 (row_lst hq hb).2) (ev_var 3 rfl rfl (.inr (.inl rfl))) (ev_var 7 rfl rfl (.inl rfl))) (ev_var 6 rfl rfl (.inl rfl))))))) ?_)), fun _ _ _ _ _ _ => (ev_tup (evv_cons (ev_var 7 rfl rfl (.inl rfl)) (evv_cons (ev_var 6 rfl rfl (.inl rfl)) evv_nil)) rfl), rfl⟩
    unfold both
    simp only [Int.toNat_natCast]
  · unfold prs
    rw [List.map_append, List.map_map]
    rfl
end
end Pr
namespace Pr
open PySem L2 Fx Mt
abbrev s_law_rules : Stmt := top 38
abbrev N_law_rules : List Str := ["_law_source_here", "_law_width", "_law_way", "_law_kinds", "_law_some", "_law_order", "_law_size", "_law_turn", "_law_a", "_law_b", "_law_by", "_law_at", "_law_one"]
def B_rules : List D → List D → Prop := fun qs ds => ∃ (p : Pn) (w : Nat), qs = penD p ∧ ds = [.int (w : Int)] ∧ 1 ≤ w ∧ w ≤ 6 ∧ Gd2 1000000 p
def R_rules : List D → List D → D → List D → Prop := fun qs ds d qs' => ∃ (p p' : Pn) (w : Nat) (rs : List R), qs = penD p ∧ qs' = penD p' ∧ ds = [.int (w : Int)] ∧ d = .lst (rs.map encR) ∧ Ok (w : Int) rs ∧ Nx2 100 p p'
theorem dn_vR {w a b : Int} {r : R} (h : dn r = (a, b)) (ha : 0 ≤ a) (ha2 : a < w) (hb : 0 ≤ b) (hb2 : b < w) (hab : a ≠ b) : vR w r := by
  unfold dn at h
  unfold vR
  split at h
  · injection h with h1 h2; omega
  · injection h with h1 h2; omega
theorem Vr.snoc {w : Int} {rs : List R} {r : R} (h : Vr w rs) (hr : vR w r) : Vr w (rs ++ [r]) := fun x hx => by
  rcases List.mem_append.mp hx with z | z
  · exact h x z
  · rw [List.mem_singleton.mp z]; exact hr
/-- each once, the first place counts -/
def ddR (rs : List R) : List R := ((List.range rs.length).filter fun i => !decide (rs.getD i (true, 0, 0) ∈ rs.take i)).map fun i => rs.getD i (true, 0, 0)
theorem ddR_ok {w : Int} {rs : List R} (h : Vr w rs) : Ok w (ddR rs) := by
  refine ⟨List.pairwise_map.mpr (List.Pairwise.imp_of_mem (fun {i j} hi hj hij e => ?_) (List.pairwise_lt_range.filter _)), fun r hr => ?_⟩
  · have h2 := (List.mem_filter.mp hj).2
    have hil := List.mem_range.mp (List.mem_filter.mp hi).1
    simp only [Bool.not_eq_true', decide_eq_false_iff_not] at h2
    refine h2 ?_
    rw [← e, List.getD_eq_getElem?_getD, List.getElem?_eq_getElem hil]
    exact List.mem_take_iff_getElem.mpr ⟨i, by omega, rfl⟩
  · obtain ⟨i, hi, rfl⟩ := List.mem_map.mp hr
    have hil := List.mem_range.mp (List.mem_filter.mp hi).1
    rw [List.getD_eq_getElem?_getD, List.getElem?_eq_getElem hil]
    exact h _ (List.getElem_mem hil)
section
variable {P : Program} {w : World} {G : Gx} {mg : Str → Option Value} {base : Heap}
theorem sc_law_rules : FnScope N_law_rules ["_law_source_here", "_law_width"] (defScope s_law_rules) := ⟨rfl, rfl, rfl, by decide +kernel, rfl, by decide +kernel, by decide +kernel⟩
def rcx (l : Addr) (p : Pn) (w : Nat) (way : Nat) (ks : Str) (ls : Addr) (rs : List R) (od : List Int) (sz : Nat) (c7 c8 c9 : Cell) : List Cell := [.own l (penD p), .val (.int (w : Int)), .val (.int (way : Int)), .val (.str ks), .own ls (rs.map encR), .val (.lst (od.map .int)), .val (.int (sz : Int)), c7, c8, c9, .no, .no, .no]
def rst (l : Addr) (p0 : Pn) (w way : Nat) (ks : Str) (od : List Int) (sz : Nat) (b : Nat) (k : Int) : List Cell → Prop := fun c => ∃ p ls rs c7 c8 c9, c = rcx l p w way ks ls rs od sz c7 c8 c9 ∧ Vr (w : Int) rs ∧ rs.length ≤ b ∧ Nx2 k p0 p
theorem Perm2.at {m : Nat} {ns : List Int} (h : Perm2 m ns) {i : Nat} (hi : i < m) : ∃ x, ns[i]? = some x ∧ 0 ≤ x ∧ x < (m : Int) ∧ ixN (ns.map D.int).length (i : Int) = some i ∧ (ns.map D.int)[i]? = some (.int x) := by
  obtain ⟨h1, h2, h3⟩ := h
  have hl : i < ns.length := by omega
  have hx := h3 ns[i] (List.getElem_mem hl)
  refine ⟨ns[i], List.getElem?_eq_getElem hl, hx.1, hx.2, ixN_nat (by rw [List.length_map]; exact hl), ?_⟩
  rw [List.getElem?_map, List.getElem?_eq_getElem hl]
  rfl
theorem Perm2.ne {m : Nat} {ns : List Int} (h : Perm2 m ns) {i j : Nat} {x y : Int} (hx : ns[i]? = some x) (hy : ns[j]? = some y) (hij : i ≠ j) : x ≠ y := fun e => by
  subst e
  obtain ⟨hi, e1⟩ := List.getElem?_eq_some_iff.mp hx
  obtain ⟨hj, e2⟩ := List.getElem?_eq_some_iff.mp hy
  exact hij ((List.getElem_inj h.2.1).mp (e1.trans e2.symm))
theorem ok_law_rules {f : Addr} {fd : FuncData} (F : L2.Fun G.K "_law_rules" "_law_rules" s_law_rules f fd) (hb : Binds G.K fd ["_law_source_here", "_law_width"] []) (T : Tx mg) (F_draw : Fn1 G P w mg base 1 "_law_draw" C_draw) (F_choose : Fn1R G P w mg base 2 "_law_choose" B_choose R_choose) (F_step : Fn1R G P w mg base 3 "_law_step" B_step R_step) (F_mixed : Fn1R G P w mg base 3 "_law_mixed" B_mixed R_mixed) : FnR P w G.K mg base CX0 4 f (sp1R G B_rules R_rules) := by
  refine fn1R F sc_law_rules hb (fun qs ds ⟨p, m, _, e, _⟩ => by rw [e]; rfl) (by decide) fun cdv A outer s H E hr l qs ds hC => ?_
  obtain ⟨p, wd, rfl, rfl, hw1, hw6, hg⟩ := hC
  have hu65 : (cx0 P w G.K mg base N_law_rules "_law_rules" s_law_rules f cdv A outer s H E).A.units + 65 < cLine := by have := hr.un; omega
  have d1 := dr2_lo p (m := 8) (by decide)
  have n1 := dr2_nx p 8
  have g1 := hg.nx n1 (c := 2000000) (by decide)
  obtain ⟨way, hway⟩ : ∃ n : Nat, (dr2 p 8).1 = (n : Int) := ⟨((dr2 p 8).1).toNat, by omega⟩
  have hw8 : way < 8 := by omega
  -- way, kinds, some = draw(8), choose([..]), []
  refine sx_cut (fun c => ∃ p2 ks ls, c = [.own l (penD p2), .val (.int (wd : Int)), .val (.int (way : Int)), .val (.str ks), .own ls [], .no, .no, .no, .no, .no, .no, .no, .no] ∧ ksOk ks ∧ Nx2 1 (dr2 p 8).2 p2) (sx_tup3 2 3 4 (R1 := fun it c => it = .v (.int (way : Int)) ∧ c = [.own l (penD (dr2 p 8).2), .val (.int (wd : Int)), .no, .no, .no, .no, .no, .no, .no, .no, .no, .no, .no]) (R2 := fun i1 it c => i1 = .v (.int (way : Int)) ∧ ∃ ks p2, it = .v (.str ks) ∧ ksOk ks ∧ Nx2 1 (dr2 p 8).2 p2 ∧ c = [.own l (penD p2), .val (.int (wd : Int)), .no, .no, .no, .no, .no, .no, .no, .no, .no, .no, .no]) (R3 := fun i1 i2 it c => i1 = .v (.int (way : Int)) ∧ it = .n [] ∧ ∃ ks p2, i2 = .v (.str ks) ∧ ksOk ks ∧ Nx2 1 (dr2 p 8).2 p2 ∧ c = [.own l (penD p2), .val (.int (wd : Int)), .no, .no, .no, .no, .no, .no, .no, .no, .no, .no, .no]) ?_ ?_ ?_ ?_ rfl sc_law_rules.nd rfl rfl rfl (.inl rfl) (.inr rfl) (.inr rfl) (.inl rfl) (.inl rfl) (.inl rfl)) fun c hc => ?_
  · exact eo_v (ev_is (ev_fn1 0 F_draw hr (by decide) (evp_cons (i := 0) rfl rfl (.inr (.inl rfl)) (evv_cons ev_int evv_nil)) rfl ⟨p, 8, rfl, rfl, by decide, by decide, hg.le (by decide), rfl, rfl⟩ (by rfl)) (congrArg D.int hway))
  · rintro i1 c ⟨rfl, rfl⟩
    refine (eo_vR (evr_fn1 0 F_choose hr (by decide) (evp_cons (i := 0) rfl rfl (.inr (.inl rfl)) (evv_cons (EvN.ev (evn_lst (evv_cons ev_str (evv_cons ev_str (evv_cons ev_str (evv_cons ev_str (evv_cons ev_str evv_nil))))) rfl)) evv_nil)) rfl ⟨_, _, rfl, rfl, g1.le (by decide), .inl ⟨_, rfl, by decide, by decide⟩⟩ (by rfl))).mono fun it c hy => ?_
    obtain ⟨d, rfl, qs', ⟨q1, q2, e1, e2, hx, hin, _⟩, rfl⟩ := hy
    cases penD_inj e1
    subst e2
    have hm := hin _ rfl
    refine ⟨rfl, ?_⟩
    simp only [List.mem_cons, List.not_mem_nil, or_false, or_self] at hm
    rcases hm with rfl | rfl | rfl
    · exact ⟨_, q2, rfl, .inl rfl, hx, rfl⟩
    · exact ⟨_, q2, rfl, .inr (.inl rfl), hx, rfl⟩
    · exact ⟨_, q2, rfl, .inr (.inr rfl), hx, rfl⟩
  · rintro i1 i2 c ⟨rfl, ks, p2, rfl, hks, hx, rfl⟩
    exact (eo_n (evn_lst evv_nil rfl)).mono fun it c hy => ⟨rfl, hy.1, ks, p2, rfl, hks, hx, hy.2⟩
  · rintro i1 i2 i3 c pa pb pc ⟨rfl, rfl, ks, p2, rfl, hks, hx, rfl⟩
    exact ⟨p2, ks, pc, rfl, hks, hx⟩
  obtain ⟨p2, ks, ls, rfl, hks, hx2⟩ := hc
  have n2 := n1.trans hx2
  have g2 := hg.nx n2 (c := 3000000) (by decide)
  -- order = mixed(width)
  refine sx_cut (fun c => ∃ p3 od, c = [.own l (penD p3), .val (.int (wd : Int)), .val (.int (way : Int)), .val (.str ks), .own ls [], .val (.lst (od.map .int)), .no, .no, .no, .no, .no, .no, .no] ∧ Perm2 wd od ∧ Nx2 10 p2 p3) (sx_setR 5 (evr_fn1 0 F_mixed hr (by decide) (evp_cons (i := 0) rfl rfl (.inr (.inl rfl)) (evv_cons (ev_var 1 rfl rfl (.inl rfl)) evv_nil)) rfl ⟨p2, wd, rfl, rfl, by omega, g2.le (by decide)⟩ (by rfl)) (fun d c hy => ?_) sc_law_rules.nd rfl (.inr rfl) (.inl rfl)) fun c hc => ?_
  · obtain ⟨qs', ⟨q1, q2, od, m, e1, e2, e3, hx, rfl, hp⟩, rfl⟩ := hy
    cases penD_inj e1
    subst e2
    injection e3 with e3
    injection e3 with e3
    have : wd = m := by omega
    subst this
    exact ⟨q2, od, rfl, hp, hx.le (by omega)⟩
  obtain ⟨p3, od, rfl, hod, hx3⟩ := hc
  have n3 := n2.trans hx3
  have g3 := hg.nx n3 (c := 4000000) (by decide)
  -- size = 1 + draw(width)
  have d4 := dr2_lo p3 (m := (wd : Int)) (by omega)
  have n4 := n3.trans (dr2_nx p3 (wd : Int))
  obtain ⟨sz, hsz⟩ : ∃ n : Nat, 1 + (dr2 p3 (wd : Int)).1 = (n : Int) := ⟨(1 + (dr2 p3 (wd : Int)).1).toNat, by omega⟩
  have hs1 : 1 ≤ sz := by omega
  have hsw : sz ≤ wd := by omega
  refine sx_cons (sx_set 6 (ev_is (ev_b b_add ev_int (ev_fn1 0 F_draw hr (by decide) (evp_cons (i := 0) rfl rfl (.inr (.inl rfl)) (evv_cons (ev_var 1 rfl rfl (.inl rfl)) evv_nil)) rfl ⟨p3, (wd : Int), rfl, rfl, by omega, by omega, g3.le (by decide), rfl, rfl⟩ (by rfl))) (congrArg D.int hsz)) ?_ sc_law_rules.nd rfl (.inl rfl) (.inl rfl))
  generalize hp4 : (dr2 p3 (wd : Int)).2 = p4 at n4
  have g4 := hg.nx n4 (c := 5000000) (by decide)
  have okS : ksOk "s" := .inl rfl
  have okW : ksOk "w" := .inr (.inl rfl)
  have okSW : ksOk "sw" := .inr (.inr rfl)
  -- a step appended
  have stepOk : ∀ {p' : Pn} {a b : Int} {t : Str} {c : List Cell} {d : D} {qs' : List D}, 0 ≤ a → a < (wd : Int) → 0 ≤ b → b < (wd : Int) → a ≠ b → R_step (penD p') [.int a, .int b, .str t] d qs' → ∃ p'' r, d = encR r ∧ vR (wd : Int) r ∧ Nx2 1 p' p'' ∧ qs' = penD p'' := fun {p' a b t c d qs'} h1 h2 h3 h4 h5 h => by
    obtain ⟨q1, q2, r, e1, e2, hx, rfl, hd⟩ := h
    cases penD_inj e1
    exact ⟨q2, r, rfl, dn_vR (hd a b t rfl) h1 h2 h3 h4 h5, hx, e2⟩
  -- if way in (1, 2, 3, 4, 5):
  refine sx_cut (rst l p4 wd way ks od sz 5 5) (sx_if (et_c (c_inTi (ns := [1, 2, 3, 4, 5])) (ev_var 2 rfl rfl (.inl rfl)) (ev_tup (evv_cons ev_int (evv_cons ev_int (evv_cons ev_int (evv_cons ev_int (evv_cons ev_int evv_nil))))) rfl)) (fun _ => ?_) (fun _ => sx_nil ⟨p4, ls, [], .no, .no, .no, rfl, (fun r hr => by cases hr), by decide, (Nx2.refl _).le (by decide)⟩)) fun c hc => ?_
  · obtain ⟨n, hn⟩ : ∃ n : Nat, sz = n + 1 := ⟨sz - 1, by omega⟩
    refine sx_one (sx_setNR 4 (RN := fun acc c => ∃ p' rs, acc = rs.map encR ∧ Vr (wd : Int) rs ∧ rs.length = n ∧ Nx2 (n : Int) p4 p' ∧ c = [.own l (penD p'), .val (.int (wd : Int)), .val (.int (way : Int)), .val (.str ks), .own ls [], .val (.lst (od.map .int)), .val (.int (sz : Int)), .no, .no, .no, .no, .no, .no]) (evnr_lc (own := [("_law_at", 11)]) (evnr_tLc (its := rng n) (ei_range (n := n) (evv_cons (ev_is (ev_b b_sub (ev_var 6 rfl rfl (.inl rfl)) ev_int) (by rw [hn]; exact congrArg D.int (by omega))) evv_nil) rfl T.range (by omega))
      (fun i acc c => ∃ p' rs, acc = rs.map encR ∧ Vr (wd : Int) rs ∧ rs.length = i ∧ Nx2 (i : Int) p4 p' ∧ c = [.own l (penD p'), .val (.int (wd : Int)), .val (.int (way : Int)), .val (.str ks), .own ls [], .val (.lst (od.map .int)), .val (.int (sz : Int)), .no, .no, .no, .no, .no, .no]) ⟨p4, [], rfl, (fun r hr => by cases hr), rfl, (Nx2.refl _).le (by decide), rfl⟩ (fun i d acc c hi hI => ?_) (fun acc c hI => ?_)) rfl sc_law_rules.nd (blkOk_by (N := N_law_rules) (sc := defScope s_law_rules) (by decide +kernel))) (fun ds c ls' hR => ?_) sc_law_rules.nd rfl (.inr rfl) (.inl rfl))
    · obtain ⟨p', rs, rfl, hv, hl, hx, rfl⟩ := hI
      obtain ⟨rfl, hin⟩ := rng_get hi
      have g' := g4.nx hx (c := 6000000) (by omega)
      obtain ⟨x, ex, x0, x1, ix1, ix2⟩ := hod.at (i := i) (by omega)
      obtain ⟨y, ey, y0, y1, iy1, iy2⟩ := hod.at (i := i + 1) (by omega)
      have hxy := hod.ne ex ey (by omega)
      refine ⟨_, _, true, _, by decide, fun _ _ _ _ _ => eg_name 11 sc_law_rules.nd rfl (.inl rfl) (.inr rfl), fun _ _ _ _ _ => ets_nil, fun _ => ⟨_, fun _ _ _ _ _ => evr_fn1 0 F_step hr (by decide) (evp_cons (i := 0) rfl rfl (.inr (.inl rfl)) (evv_cons (ev_i (i_lst ix1 ix2) (ev_var 5 rfl rfl (.inr (.inl rfl))) (ev_var 11 rfl rfl (.inl rfl))) (evv_cons (ev_i (i_lst iy1 iy2) (ev_var 5 rfl rfl (.inr (.inl rfl))) (ev_is (ev_b b_add (ev_var 11 rfl rfl (.inl rfl)) ev_int) (congrArg D.int (by omega)))) (evv_cons (ev_var 3 rfl rfl (.inr (.inl rfl))) evv_nil)))) rfl ⟨p', x, y, ks, rfl, rfl, hks, g'.le (by decide)⟩ (by rfl), fun z c5 hy => ?_⟩, fun z => by cases z⟩
      obtain ⟨qs', hR, rfl⟩ := hy
      obtain ⟨p'', r, rfl, hvr, hx', rfl⟩ := stepOk (c := []) x0 x1 y0 y1 hxy hR
      exact ⟨by rw [List.length_map]; omega, p'', rs ++ [r], by rw [List.map_append]; rfl, Vr.snoc hv hvr, by rw [List.length_append, hl]; rfl, (hx.trans hx').le (by omega), rfl⟩
    · rw [rng_len] at hI
      exact hI
    · obtain ⟨p', rs, rfl, hv, hl, hx, rfl⟩ := hR
      exact ⟨p', ls', rs, .no, .no, .no, rfl, hv, by omega, hx.le (by omega)⟩
  obtain ⟨p5, ls5, rs5, c7, c8, c9, rfl, hv5, hl5, hx5⟩ := hc
  have g5 := g4.nx hx5 (c := 6000000) (by decide)
  obtain ⟨o0, eo0, oo0, oo1, io1, io2⟩ := hod.at (i := 0) (by omega)
  obtain ⟨z, ez, z0, z1, iz1, iz2⟩ := hod.at (i := sz - 1) (by omega)
  have ezs : ((sz : Int) - 1) = ((sz - 1 : Nat) : Int) := by omega
  -- if way in (2, 3, 5) and size > 1:
  refine sx_cut (rst l p5 wd way ks od sz 6 1) (sx_if (et_w (ew_and (et_c (c_inTi (ns := [2, 3, 5])) (ev_var 2 rfl rfl (.inl rfl)) (ev_tup (evv_cons ev_int (evv_cons ev_int (evv_cons ev_int evv_nil))) rfl)) fun _ => ew_and1 (et_c c_gt (ev_var 6 rfl rfl (.inl rfl)) ev_int))) (fun hb => ?_) (fun _ => sx_nil ⟨p5, ls5, rs5, c7, c8, c9, rfl, hv5, by omega, (Nx2.refl _).le (by decide)⟩)) fun c hc => ?_
  · rw [Bool.and_eq_true] at hb
    have hs2 : (1 : Int) < sz := of_decide_eq_true hb.2
    refine sx_one (sx_appendR 4 rfl (evr_fn1 0 F_step hr (by decide) (evp_cons (i := 0) rfl rfl (.inr (.inl rfl)) (evv_cons (ev_i (i_lst iz1 iz2) (ev_var 5 rfl rfl (.inr (.inl rfl))) (ev_is (ev_b b_sub (ev_var 6 rfl rfl (.inl rfl)) ev_int) (congrArg D.int ezs))) (evv_cons (ev_i (i_lst io1 io2) (ev_var 5 rfl rfl (.inr (.inl rfl))) ev_int) (evv_cons (ev_var 3 rfl rfl (.inr (.inl rfl))) evv_nil)))) rfl ⟨p5, z, o0, ks, rfl, rfl, hks, g5.le (by decide)⟩ (by rfl)) (fun d c hy => ?_) rfl (.inr (.inl rfl)) (pe_bm PySem.F.plainAttrs_list PySem.F.slot_list_append PySem.F.type_list_append mt_append))
    obtain ⟨qs', hR, rfl⟩ := hy
    obtain ⟨p'', r, rfl, hvr, hx', rfl⟩ := stepOk (c := []) z0 z1 oo0 oo1 (hod.ne ez eo0 (by omega)) hR
    exact ⟨rs5.map encR, rfl, by rw [List.length_map]; omega, p'', ls5, rs5 ++ [r], c7, c8, c9, by unfold rcx; rw [List.map_append]; rfl, Vr.snoc hv5 hvr, by rw [List.length_append]; show rs5.length + 1 ≤ 6; omega, hx'⟩
  obtain ⟨p6, ls6, rs6, c7, c8, c9, rfl, hv6, hl6, hx6⟩ := hc
  have g6 := g5.nx hx6 (c := 7000000) (by decide)
  -- if way == 5 and size + 1 < width:
  refine sx_cut (rst l p6 wd way ks od sz 9 3) (sx_if (et_w (ew_and (et_c c_eq (ev_var 2 rfl rfl (.inl rfl)) ev_int) fun _ => ew_and1 (et_c c_lt (ev_b b_add (ev_var 6 rfl rfl (.inl rfl)) ev_int) (ev_var 1 rfl rfl (.inl rfl))))) (fun hb => ?_) (fun _ => sx_nil ⟨p6, ls6, rs6, c7, c8, c9, rfl, hv6, by omega, (Nx2.refl _).le (by decide)⟩)) fun c hc => ?_
  · rw [Bool.and_eq_true] at hb
    have hs2 : (sz : Int) + 1 < wd := of_decide_eq_true hb.2
    obtain ⟨u, eu, u0, u1, iu1, iu2⟩ := hod.at (i := sz) (by omega)
    obtain ⟨v, ev, v0, v1, iv1, iv2⟩ := hod.at (i := sz + 1) (by omega)
    have evs : ((sz : Int) + 1) = ((sz + 1 : Nat) : Int) := by omega
    have huv := hod.ne eu ev (by omega)
    have hou := hod.ne eo0 eu (by omega)
    refine sx_cut (rst l p6 wd way ks od sz 7 1) (sx_appendR 4 rfl (evr_fn1 0 F_step hr (by decide) (evp_cons (i := 0) rfl rfl (.inr (.inl rfl)) (evv_cons (ev_i (i_lst iu1 iu2) (ev_var 5 rfl rfl (.inr (.inl rfl))) (ev_var 6 rfl rfl (.inl rfl))) (evv_cons (ev_i (i_lst iv1 iv2) (ev_var 5 rfl rfl (.inr (.inl rfl))) (ev_is (ev_b b_add (ev_var 6 rfl rfl (.inl rfl)) ev_int) (congrArg D.int evs))) (evv_cons ev_str evv_nil)))) rfl ⟨p6, u, v, "s", rfl, rfl, okS, g6.le (by decide)⟩ (by rfl)) (fun d c hy => ?_) rfl (.inr (.inl rfl)) (pe_bm PySem.F.plainAttrs_list PySem.F.slot_list_append PySem.F.type_list_append mt_append)) fun c hc => ?_
    · obtain ⟨qs', hR, rfl⟩ := hy
      obtain ⟨p'', r, rfl, hvr, hx', rfl⟩ := stepOk (c := []) u0 u1 v0 v1 huv hR
      exact ⟨rs6.map encR, rfl, by rw [List.length_map]; omega, p'', ls6, rs6 ++ [r], c7, c8, c9, by unfold rcx; rw [List.map_append]; rfl, Vr.snoc hv6 hvr, by rw [List.length_append]; show rs6.length + 1 ≤ 7; omega, hx'⟩
    obtain ⟨p7, ls7, rs7, c7, c8, c9, rfl, hv7, hl7, hx7⟩ := hc
    have g7 := g6.nx hx7 (c := 7000001) (by decide)
    refine sx_cut (rst l p6 wd way ks od sz 8 2) (sx_appendR 4 rfl (evr_fn1 0 F_step hr (by decide) (evp_cons (i := 0) rfl rfl (.inr (.inl rfl)) (evv_cons (ev_i (i_lst iv1 iv2) (ev_var 5 rfl rfl (.inr (.inl rfl))) (ev_is (ev_b b_add (ev_var 6 rfl rfl (.inl rfl)) ev_int) (congrArg D.int evs))) (evv_cons (ev_i (i_lst iu1 iu2) (ev_var 5 rfl rfl (.inr (.inl rfl))) (ev_var 6 rfl rfl (.inl rfl))) (evv_cons ev_str evv_nil)))) rfl ⟨p7, v, u, "w", rfl, rfl, okW, g7.le (by decide)⟩ (by rfl)) (fun d c hy => ?_) rfl (.inr (.inl rfl)) (pe_bm PySem.F.plainAttrs_list PySem.F.slot_list_append PySem.F.type_list_append mt_append)) fun c hc => ?_
    · obtain ⟨qs', hR, rfl⟩ := hy
      obtain ⟨p'', r, rfl, hvr, hx', rfl⟩ := stepOk (c := []) v0 v1 u0 u1 (Ne.symm huv) hR
      exact ⟨rs7.map encR, rfl, by rw [List.length_map]; omega, p'', ls7, rs7 ++ [r], c7, c8, c9, by unfold rcx; rw [List.map_append]; rfl, Vr.snoc hv7 hvr, by rw [List.length_append]; show rs7.length + 1 ≤ 8; omega, (hx7.trans hx').le (by decide)⟩
    obtain ⟨p8, ls8, rs8, c7, c8, c9, rfl, hv8, hl8, hx8⟩ := hc
    have g8 := g6.nx hx8 (c := 7000002) (by decide)
    refine sx_one (sx_appendR 4 rfl (evr_fn1 0 F_step hr (by decide) (evp_cons (i := 0) rfl rfl (.inr (.inl rfl)) (evv_cons (ev_i (i_lst io1 io2) (ev_var 5 rfl rfl (.inr (.inl rfl))) ev_int) (evv_cons (ev_i (i_lst iu1 iu2) (ev_var 5 rfl rfl (.inr (.inl rfl))) (ev_var 6 rfl rfl (.inl rfl))) (evv_cons ev_str evv_nil)))) rfl ⟨p8, o0, u, "sw", rfl, rfl, okSW, g8.le (by decide)⟩ (by rfl)) (fun d c hy => ?_) rfl (.inr (.inl rfl)) (pe_bm PySem.F.plainAttrs_list PySem.F.slot_list_append PySem.F.type_list_append mt_append))
    obtain ⟨qs', hR, rfl⟩ := hy
    obtain ⟨p'', r, rfl, hvr, hx', rfl⟩ := stepOk (c := []) oo0 oo1 u0 u1 hou hR
    exact ⟨rs8.map encR, rfl, by rw [List.length_map]; omega, p'', ls8, rs8 ++ [r], c7, c8, c9, by unfold rcx; rw [List.map_append]; rfl, Vr.snoc hv8 hvr, by rw [List.length_append]; show rs8.length + 1 ≤ 9; omega, (hx8.trans hx').le (by decide)⟩
  obtain ⟨p7, ls7, rs7, c7, c8, c9, rfl, hv7, hl7, hx7⟩ := hc
  have g7 := g6.nx hx7 (c := 8000000) (by decide)
  obtain ⟨tn, htn, htn2⟩ : ∃ tn : Nat, ([3, 1, 0, 2, 2, 1, 12, 6] : List Nat)[way]? = some tn ∧ tn ≤ 12 := by
    have : way = 0 ∨ way = 1 ∨ way = 2 ∨ way = 3 ∨ way = 4 ∨ way = 5 ∨ way = 6 ∨ way = 7 := by omega
    rcases this with rfl | rfl | rfl | rfl | rfl | rfl | rfl | rfl <;> exact ⟨_, rfl, by decide⟩
  have htd : ([.int 3, .int 1, .int 0, .int 2, .int 2, .int 1, .int 12, .int 6] : List D)[way]? = some (.int (tn : Int)) := by
    have e : ([.int 3, .int 1, .int 0, .int 2, .int 2, .int 1, .int 12, .int 6] : List D) = ([3, 1, 0, 2, 2, 1, 12, 6] : List Nat).map fun (n : Nat) => D.int (n : Int) := rfl
    rw [e, List.getElem?_map, htn]
    rfl
  -- for turn in range([..][way]):
  refine sx_cut (rst l p7 wd way ks od sz 21 36) (sx_for (its := rng tn) (ei_range (n := tn) (evv_cons (ev_i (i_lst (m := way) (ixN_nat (by show way < 8; exact hw8)) htd) (EvN.ev (evn_lst (evv_cons ev_int (evv_cons ev_int (evv_cons ev_int (evv_cons ev_int (evv_cons ev_int (evv_cons ev_int (evv_cons ev_int (evv_cons ev_int evv_nil)))))))) rfl)) (ev_var 2 rfl rfl (.inl rfl))) evv_nil) rfl T.range (by omega)) (fun i c => rst l p7 wd way ks od sz (9 + i) (3 * (i : Int)) c) ⟨p7, ls7, rs7, c7, c8, c9, rfl, hv7, hl7, (Nx2.refl _).le (by decide)⟩ (fun i d c hi hI => ?_) (fun c hI => ?_) rfl) fun c hc => ?_
  · obtain ⟨p8, ls8, rs8, c7, c8, c9, rfl, hv8, hl8, hx8⟩ := hI
    obtain ⟨rfl, hin⟩ := rng_get hi
    have g8 := g7.nx hx8 (c := 9000000) (by omega)
    have da := dr2_lo p8 (m := (wd : Int)) (by omega)
    have na := dr2_nx p8 (wd : Int)
    have ga := g8.nx na (c := 9000001) (by decide)
    have db := dr2_lo (dr2 p8 (wd : Int)).2 (m := (wd : Int)) (by omega)
    have nb := dr2_nx (dr2 p8 (wd : Int)).2 (wd : Int)
    have nab := na.trans nb
    generalize ea : (dr2 p8 (wd : Int)).1 = a at da
    generalize eb : (dr2 (dr2 p8 (wd : Int)).2 (wd : Int)).1 = b at db
    generalize ep : (dr2 (dr2 p8 (wd : Int)).2 (wd : Int)).2 = p9 at nab
    have g9 := g8.nx nab (c := 9000002) (by decide)
    refine ⟨_, _, eg_name 7 sc_law_rules.nd rfl (.inl rfl) (.inl rfl), ?_⟩
    refine sx_cons (sx_parVV 8 9 (ev_is (ev_fn1 0 F_draw hr (by decide) (evp_cons (i := 0) rfl rfl (.inr (.inl rfl)) (evv_cons (ev_var 1 rfl rfl (.inl rfl)) evv_nil)) rfl ⟨p8, (wd : Int), rfl, rfl, by omega, by omega, g8.le (by decide), rfl, rfl⟩ (by rfl)) (congrArg D.int ea)) (ev_is (ev_fn1 0 F_draw hr (by decide) (evp_cons (i := 0) rfl rfl (.inr (.inl rfl)) (evv_cons (ev_var 1 rfl rfl (.inl rfl)) evv_nil)) rfl ⟨_, (wd : Int), rfl, rfl, by omega, by omega, ga.le (by decide), rfl, rfl⟩ (by rfl)) (congrArg D.int eb)) ?_ (fun h => ps_par (i := 8) (j := 9) rfl sc_law_rules.nd rfl rfl (by decide) rfl rfl h (by rfl)))
    rw [ep]
    refine sx_one (sx_if (et_c c_ne (ev_var 8 rfl rfl (.inl rfl)) (ev_var 9 rfl rfl (.inl rfl))) (fun hb => ?_) (fun _ => sx_nil ⟨p9, ls8, rs8, _, _, _, rfl, hv8, by omega, (hx8.trans nab).le (by omega)⟩))
    have hab : a ≠ b := by simpa using hb
    obtain ⟨t, ht, hte⟩ : ∃ t : Str, ksOk t ∧ t = (if decide ((way : Int) < 7) = true then ("sw" : Str) else ks) := ⟨_, by split <;> assumption, rfl⟩
    refine sx_one (sx_appendR 4 rfl (evr_fn1 0 F_step hr (by decide) (evp_cons (i := 0) rfl rfl (.inr (.inl rfl)) (evv_cons (ev_var 8 rfl rfl (.inl rfl)) (evv_cons (ev_var 9 rfl rfl (.inl rfl)) (evv_cons (x := .str t) (ev_if (et_c c_lt (ev_var 2 rfl rfl (.inl rfl)) ev_int) (fun hk => ev_is ev_str (by rw [hte, if_pos hk])) (fun hk => ev_is (ev_var 3 rfl rfl (.inr (.inl rfl))) (by rw [hte, if_neg (by rw [hk]; decide)]))) evv_nil)))) rfl ⟨p9, a, b, t, rfl, rfl, ht, g9.le (by decide)⟩ (by rfl)) (fun d c hy => ?_) rfl (.inr (.inl rfl)) (pe_bm PySem.F.plainAttrs_list PySem.F.slot_list_append PySem.F.type_list_append mt_append))
    obtain ⟨qs', hR, rfl⟩ := hy
    obtain ⟨p'', r, rfl, hvr, hx', rfl⟩ := stepOk (c := []) da.1 da.2 db.1 db.2 hab hR
    exact ⟨rs8.map encR, rfl, by rw [List.length_map]; omega, p'', ls8, rs8 ++ [r], _, _, _, by unfold rcx; rw [List.map_append]; rfl, Vr.snoc hv8 hvr, by rw [List.length_append]; show rs8.length + 1 ≤ 9 + (i + 1); omega, ((hx8.trans nab).trans hx').le (by omega)⟩
  · obtain ⟨p8, ls8, rs8, c7, c8, c9, rfl, hv8, hl8, hx8⟩ := hI
    rw [rng_len] at hl8 hx8
    exact ⟨p8, ls8, rs8, c7, c8, c9, rfl, hv8, by omega, hx8.le (by omega)⟩
  obtain ⟨p8, ls8, rs8, c7, c8, c9, rfl, hv8, hl8, hx8⟩ := hc
  have g8 := g7.nx hx8 (c := 9000000) (by decide)
  refine sx_frz 4 (l := ls8) (ds := rs8.map encR) rfl ?_
  -- by = draw(len(some) + 1)
  have dy := dr2_lo p8 (m := (rs8.length : Int) + 1) (by omega)
  have ny := dr2_nx p8 ((rs8.length : Int) + 1)
  obtain ⟨k, hk⟩ : ∃ k : Nat, (dr2 p8 ((rs8.length : Int) + 1)).1 = (k : Int) := ⟨(dr2 p8 ((rs8.length : Int) + 1)).1.toNat, by omega⟩
  refine sx_cons (sx_set 10 (ev_is (ev_fn1 0 F_draw hr (by decide) (evp_cons (i := 0) rfl rfl (.inr (.inl rfl)) (evv_cons (ev_is (ev_b b_add (ev_lenL (ev_var 4 rfl rfl (.inr (.inl rfl))) T.len rfl) ev_int) (by rw [List.length_map])) evv_nil)) rfl ⟨p8, (rs8.length : Int) + 1, rfl, rfl, by omega, by omega, g8.le (by decide), rfl, rfl⟩ (by rfl)) (congrArg D.int hk)) ?_ sc_law_rules.nd rfl (.inl rfl) (.inl rfl))
  generalize ep : (dr2 p8 ((rs8.length : Int) + 1)).2 = p9 at ny
  have hkl : k ≤ rs8.length := by omega
  have cut1 : ((rs8.map encR).drop (HT.sIx (rs8.map encR).length 0 (some (k : Int)))).take (HT.sIx (rs8.map encR).length (rs8.map encR).length none - HT.sIx (rs8.map encR).length 0 (some (k : Int))) = (rs8.drop k).map encR := by
    rw [sIx_lo (by rw [List.length_map]; exact hkl), List.map_drop]
    exact List.take_of_length_le (by rw [List.length_drop]; exact Nat.le_refl _)
  have cut2 : ((rs8.map encR).drop (HT.sIx (rs8.map encR).length 0 none)).take (HT.sIx (rs8.map encR).length (rs8.map encR).length (some (k : Int)) - HT.sIx (rs8.map encR).length 0 none) = (rs8.take k).map encR := by
    rw [sIx_lo (by rw [List.length_map]; exact hkl), List.map_take]
    rfl
  refine sx_cons (sx_setN 4 (ds := (rs8.drop k ++ rs8.take k).map encR) (evn_is (evn_b (b_addL (xs := (rs8.drop k).map encR) (ys := (rs8.take k).map encR) (by simp only [List.length_map, List.length_take, List.length_drop]; omega)) (EvN.ev (evn_is (evn_slice (po_some pe_rd) po_none (ev_var 4 rfl rfl (.inr (.inl rfl))) (es_some (ev_var 10 rfl rfl (.inl rfl))) es_none) cut1)) (EvN.ev (evn_is (evn_slice po_none (po_some pe_rd) (ev_var 4 rfl rfl (.inr (.inl rfl))) es_none (es_some (ev_var 10 rfl rfl (.inl rfl)))) cut2))) (List.map_append (f := encR)).symm) (fun ls9 => ?_) sc_law_rules.nd rfl (.inr rfl) (.inl rfl))
  have hv9 : Vr (wd : Int) (rs8.drop k ++ rs8.take k) := fun r hr => by
    rcases List.mem_append.mp hr with z | z
    · exact hv8 r (List.mem_of_mem_drop z)
    · exact hv8 r (List.mem_of_mem_take z)
  have hl9 : (rs8.drop k ++ rs8.take k).length ≤ 21 := by simp only [List.length_append, List.length_take, List.length_drop]; omega
  generalize hrs9 : rs8.drop k ++ rs8.take k = rs9 at hv9 hl9
  refine sx_frz 4 (l := ls9) (ds := rs9.map encR) rfl ?_
  have henum : enumD (rs9.map encR) = (List.range rs9.length).map fun (i : Nat) => D.tup [.int (i : Int), encR (rs9.getD i (true, 0, 0))] := by
    unfold enumD
    rw [List.length_map]
    refine List.map_congr_left fun i hi => ?_
    have hil := List.mem_range.mp hi
    rw [List.getD_eq_getElem?_getD, List.getElem?_map, List.getD_eq_getElem?_getD, List.getElem?_eq_getElem hil]
    rfl
  refine sx_one (sx_ret (EvN.ev (evn_is (es := (ddR rs9).map encR) (evn_lc (own := [("_law_at", 11), ("_law_one", 12)]) (evn_pure (List.range rs9.length) (fun (i : Nat) => D.tup [.int (i : Int), encR (rs9.getD i (true, 0, 0))]) (fun i => !decide (rs9.getD i (true, 0, 0) ∈ rs9.take i)) (fun i => encR (rs9.getD i (true, 0, 0))) (ei_is (ei_enum (evv_cons (ev_var 4 rfl rfl (.inr (.inl rfl))) evv_nil) rfl T.enumerate) henum) (by rw [List.length_range]; omega) fun i hi => ?_) rfl sc_law_rules.nd (blkOk_by (N := N_law_rules) (sc := defScope s_law_rules) (by decide +kernel))) ?_)) ?_)
  · have hil := List.mem_range.mp hi
    have cut3 : ((rs9.map encR).drop (HT.sIx (rs9.map encR).length 0 none)).take (HT.sIx (rs9.map encR).length (rs9.map encR).length (some (i : Int)) - HT.sIx (rs9.map encR).length 0 none) = (rs9.take i).map encR := by
      rw [sIx_lo (by rw [List.length_map]; omega), List.map_take]
      rfl
    exact ⟨_, _, by decide, fun _ _ _ _ _ => eg_tup rfl (egs_cons (eg_name 11 sc_law_rules.nd rfl (.inl rfl) (.inr rfl)) (egs_cons (eg_name 12 sc_law_rules.nd rfl (.inl rfl) (.inr rfl)) egs_nil)), fun _ _ _ _ _ => ets_one (et_is (et_c (c_niL (by exact hu65) (fine_encR (rs9.getD i (true, 0, 0))) (fine_encRs (rs9.take i))) (ev_var 12 rfl rfl (.inl rfl)) (EvN.ev (evn_is (evn_slice po_none (po_some pe_rd) (ev_var 4 rfl rfl (.inr (.inl rfl))) es_none (es_some (ev_var 11 rfl rfl (.inl rfl)))) cut3))) (by rw [any_encR])), fun _ _ _ _ _ _ => ev_var 12 rfl rfl (.inl rfl), rfl⟩
  · unfold ddR
    rw [List.map_map]
    rfl
  · refine ⟨penD p9, ⟨p, p9, wd, ddR rs9, rfl, rfl, rfl, rfl, ddR_ok hv9, ?_⟩, rfl⟩
    exact ((((((n4.trans hx5).trans hx6).trans hx7).trans hx8).trans ny).le (by decide))
end
end Pr
namespace Pr
open PySem L2 Fx Mt
abbrev s_law_due : Stmt := top 44
abbrev N_law_due : List Str := ["_law_width", "_law_rules_here", "_law_settled", "_law_named", "_law_kind", "_law_a", "_law_b"]
def C_ldue : List D → Out → Prop := fun ds o => ∃ (w : Nat) (rs : List R), ds = [.int (w : Int), .lst (rs.map encR)] ∧ w ≤ 6 ∧ Ok (w : Int) rs ∧ o = .new ((folA (w : Int) rs).map encR)
section
variable {P : Program} {w : World} {G : Gx} {mg : Str → Option Value} {base : Heap}
theorem sc_law_due : FnScope N_law_due ["_law_width", "_law_rules_here"] (defScope s_law_due) := ⟨rfl, rfl, rfl, by decide +kernel, rfl, by decide +kernel, by decide +kernel⟩
theorem ok_law_due {f : Addr} {fd : FuncData} (F : L2.Fun G.K "_law_due" "_law_due" s_law_due f fd) (hb : Binds G.K fd ["_law_width", "_law_rules_here"] []) (F_reach : Fn0 G P w mg base 1 "_law_reach" C_reach) (F_arrows : Fn0 G P w mg base 2 "_law_arrows" C_arrows2) (F_all : Fn0 G P w mg base 1 "_law_all" C_all) : FnR P w G.K mg base CX0 3 f (sp0 G C_ldue) := by
  refine fn0 F sc_law_due hb (fun ds o ⟨w, rs, e, _⟩ => by rw [e]; rfl) (by decide) fun cdv A outer s H E hr ds o hC => ?_
  obtain ⟨wd, rs, rfl, hw, hok, rfl⟩ := hC
  have q1 := sq_fw wd (prs wd rs true)
  have q2 := sq_fw wd (prs wd rs false)
  have l1 := prs_len hok hw true
  have l2 := prs_len hok hw false
  refine sx_cons (sx_set 2 (ev_fn0 F_reach hr (by decide) (evv_cons (ev_var 0 rfl rfl (.inl rfl)) (evv_cons (EvN.ev (evn_fn0 F_arrows hr (by decide) (evv_cons (ev_var 0 rfl rfl (.inl rfl)) (evv_cons (ev_var 1 rfl rfl (.inl rfl)) (evv_cons ev_str evv_nil))) ⟨wd, rs, true, rfl, hw, hok, rfl⟩ (by rfl))) evv_nil)) ⟨wd, prs wd rs true, rfl, hw, by omega, rfl⟩ (by rfl)) ?_ sc_law_due.nd rfl (.inr rfl) (.inl rfl))
  refine sx_cons (sx_set 3 (ev_fn0 F_reach hr (by decide) (evv_cons (ev_var 0 rfl rfl (.inl rfl)) (evv_cons (EvN.ev (evn_fn0 F_arrows hr (by decide) (evv_cons (ev_var 0 rfl rfl (.inl rfl)) (evv_cons (ev_var 1 rfl rfl (.inl rfl)) (evv_cons ev_str evv_nil))) ⟨wd, rs, false, rfl, hw, hok, rfl⟩ (by rfl))) evv_nil)) ⟨wd, prs wd rs false, rfl, hw, by omega, rfl⟩ (by rfl)) ?_ sc_law_due.nd rfl (.inr rfl) (.inl rfl))
  refine sx_one (sx_retN (evn_is (evn_lc (own := [("_law_kind", 4), ("_law_a", 5), ("_law_b", 6)]) (evn_pure (allR (wd : Int)) encR (folT wd rs) encR (ei_list (EvN.ev (evn_fn0 F_all hr (by decide) (evv_cons (ev_var 0 rfl rfl (.inl rfl)) evv_nil) ⟨wd, rfl, hw, rfl⟩ (by rfl)))) (by have := allR_len wd hw; omega) fun r hr' => ?_) rfl sc_law_due.nd (blkOk_by (N := N_law_due) (sc := defScope s_law_due) (by decide +kernel))) ?_) rfl)
  · have hv := mem_allR.mp hr'
    obtain ⟨k, x, y⟩ := r
    simp only at hv
    obtain ⟨a, ea⟩ : ∃ a : Nat, x = (a : Int) := ⟨x.toNat, by omega⟩
    obtain ⟨b, eb⟩ : ∃ b : Nat, y = (b : Int) := ⟨y.toNat, by omega⟩
    subst ea eb
    have ha : a < wd := by omega
    have hb : b < wd := by omega
    refine ⟨_, _, by decide, fun _ _ _ _ _ => (eg_tup rfl (egs_cons (eg_name 4 sc_law_due.nd rfl (.inl rfl) (.inr rfl)) (egs_cons (eg_name 5 sc_law_due.nd rfl (.inl rfl) (.inr rfl)) (egs_cons (eg_name 6 sc_law_due.nd rfl (.inl rfl) (.inr rfl)) egs_nil)))), fun _ _ _ _ _ => ets_one ?_, fun _ _ _ _ _ _ => (ev_tup (evv_cons (ev_var 4 rfl rfl (.inl rfl)) (evv_cons (ev_var 5 rfl rfl (.inl rfl)) (evv_cons (ev_var 6 rfl rfl (.inl rfl)) evv_nil))) rfl), rfl⟩
    cases k with
    | true =>
      refine et_is (et_val (ev_i (i_lst (mat_at q1 ha hb).1 (mat_at q1 ha hb).2) (ev_i (i_lst (row_lst q1 ha).1 (row_lst q1 ha).2) (ev_ifT (et_is (et_c c_eqS (ev_var 4 rfl rfl (.inl rfl)) ev_str) (kS_settles true)) (ev_var 2 rfl rfl (.inr (.inl rfl)))) (ev_var 5 rfl rfl (.inl rfl))) (ev_var 6 rfl rfl (.inl rfl)))) ?_
      unfold folT
      simp only [Int.toNat_natCast]
    | false =>
      refine et_is (et_val (ev_i (i_lst (mat_at q2 ha hb).1 (mat_at q2 ha hb).2) (ev_i (i_lst (row_lst q2 ha).1 (row_lst q2 ha).2) (ev_ifF (et_is (et_c c_eqS (ev_var 4 rfl rfl (.inl rfl)) ev_str) (kS_settles false)) (ev_var 3 rfl rfl (.inr (.inl rfl)))) (ev_var 5 rfl rfl (.inl rfl))) (ev_var 6 rfl rfl (.inl rfl)))) ?_
      unfold folT
      simp only [Int.toNat_natCast]
  · unfold folA
    congr 1
    exact List.filter_congr fun r hr' => folT_eq hok.vr (mem_allR.mp hr')
end
end Pr
namespace Pr
open PySem L2 Fx Mt
abbrev s_law_is_right : Stmt := top 46
abbrev N_law_is_right : List Str := ["_law_width", "_law_given", "_law_rules_here", "_law_due_here", "_law_rule"]
def C_right : List D → Out → Prop := fun ds o => ∃ (w : Nat) (rs : List R), ds = [.int (w : Int), .lst (rs.map encR)] ∧ 1 ≤ w ∧ w ≤ 6 ∧ Ok (w : Int) rs ∧ o = .val (.bl true)
theorem okR_of {w : Int} {r : R} (h : vR w r) : okR w r = true := by
  unfold vR at h
  unfold Pr.okR
  simp
  omega
section
variable {P : Program} {w : World} {G : Gx} {mg : Str → Option Value} {base : Heap}
theorem sc_law_is_right : FnScope N_law_is_right ["_law_width", "_law_given"] (defScope s_law_is_right) := ⟨rfl, rfl, rfl, by decide +kernel, rfl, by decide +kernel, by decide +kernel⟩
theorem ok_law_is_right {f : Addr} {fd : FuncData} (F : L2.Fun G.K "_law_is_right" "_law_is_right" s_law_is_right f fd) (hb : Binds G.K fd ["_law_width", "_law_given"] []) (T : Tx mg) (F_list : Fn0 G P w mg base 9 "_law_list" C_list) (F_ldue : Fn0 G P w mg base 3 "_law_due" C_ldue) (F_all : Fn0 G P w mg base 1 "_law_all" C_all) (F_equal : Fn0G G P w mg base 1 "_law_is_equal" C_equal) (I_call : PkCall G P w mg base 0 6 C_call) : FnG P w G.K mg base 10 f (sp0 G C_right) := by
  refine fn0G F sc_law_is_right hb (fun ds o ⟨w, rs, e, _⟩ => by rw [e]; rfl) (by decide) fun cdv A outer s H E hr gd ds o hC => ?_
  obtain ⟨wd, rs, rfl, hw1, hw, hok, rfl⟩ := hC
  have hu65 : (cx0 P w G.K mg base N_law_is_right "_law_is_right" s_law_is_right f cdv A outer s H E).A.units + 65 < cLine := by have := hr.un; omega
  refine sx_cons (sx_parVV 2 3 (ev_fn0 F_list hr (by decide) (evv_cons (ev_var 0 rfl rfl (.inl rfl)) (evv_cons (ev_var 1 rfl rfl (.inl rfl)) evv_nil)) ⟨(wd : Int), rs, rfl, hok, by omega, by omega, rfl⟩ (by rfl)) (EvN.ev (evn_fn0 F_ldue hr (by decide) (evv_cons (ev_var 0 rfl rfl (.inl rfl)) (evv_cons (ev_var 1 rfl rfl (.inl rfl)) evv_nil)) ⟨wd, rs, rfl, hw, hok, rfl⟩ (by rfl))) ?_ (fun h => ps_par (i := 2) (j := 3) rfl sc_law_is_right.nd rfl rfl (by decide) rfl rfl h (by rfl)))
  show Sx G _ [.val (.int (wd : Int)), .val (.lst (rs.map encR)), .val (encK (wd : Int) rs), .val (.lst ((folA (wd : Int) rs).map encR)), .no] _
  refine sx_cons (sx_for (its := (allR (wd : Int)).map encR) (ei_list (EvN.ev (evn_fn0 F_all hr (by decide) (evv_cons (ev_var 0 rfl rfl (.inl rfl)) evv_nil) ⟨wd, rfl, hw, rfl⟩ (by rfl)))) (fun i c => ∃ c4, c = [.val (.int (wd : Int)), .val (.lst (rs.map encR)), .val (encK (wd : Int) rs), .val (.lst ((folA (wd : Int) rs).map encR)), c4]) ⟨_, rfl⟩ (fun i d c hi hI => ?_) (fun c hI => ?_) rfl)
  · obtain ⟨c4, rfl⟩ := hI
    rw [List.getElem?_map] at hi
    cases e : (allR (wd : Int))[i]? with
    | none => rw [e] at hi; cases hi
    | some r =>
      rw [e] at hi
      cases hi
      have hm := List.mem_of_getElem? e
      have hv := mem_allR.mp hm
      have hd : decide (r ∈ folA (wd : Int) rs) = fol rs r := by
        rw [Bool.eq_iff_iff, decide_eq_true_iff]
        exact ⟨fun h => (List.mem_filter.mp h).2, fun h => List.mem_filter.mpr ⟨hm, h⟩⟩
      refine ⟨_, _, eg_name 4 sc_law_is_right.nd rfl (.inl rfl) (.inl rfl), ?_⟩
      refine sx_one (sx_if (k := false) (et_is (et_not (et_val (ev_fn0G F_equal gd hr (by decide) (evv_cons (ev_inst (c := 0) I_call (ev_v 2 rfl) hr (by decide) (evv_cons (ev_v 4 rfl) evv_nil) ⟨(wd : Int), rs, r, rfl, hok, by omega, okR_of hv, rfl⟩) (evv_cons (ev_is (ev_c (c_inL (by exact hu65) (fine_encR r) (fine_encRs (folA (wd : Int) rs))) (ev_v 4 rfl) (ev_v 3 rfl)) (congrArg D.bl ((any_encR _ _).trans hd))) evv_nil)) ⟨.bl (fol rs r), rfl, (sh_bl _).shows (by decide) (by decide), rfl⟩ (by rfl)))) rfl) (fun hb => by cases hb) (fun _ => sx_nil ⟨_, rfl⟩))
  · obtain ⟨c4, rfl⟩ := hI
    exact sx_one (sx_ret ev_bl rfl)
end
end Pr
namespace Pr
open PySem L2 Fx Mt
abbrev s_law : Stmt := top 47
abbrev N_law : List Str := ["_law_script", "_law_index", "_law_source_here", "_law_lap", "_law_width"]
def C_law : List D → Out → Prop := fun ds o => ∃ ns : List Int, ds = [.scr ns] ∧ o = .val (.bl true)
section
variable {P : Program} {w : World} {G : Gx} {mg : Str → Option Value} {base : Heap}
theorem sc_law : FnScope N_law ["_law_script"] (defScope s_law) := ⟨rfl, rfl, rfl, by decide +kernel, rfl, by decide +kernel, by decide +kernel⟩
theorem ok_law {f : Addr} {fd : FuncData} (F : L2.Fun G.K "law" "law" s_law f fd) (hb : Binds G.K fd ["_law_script"] []) (T : Tx mg)
    (F_cell : Fn0 G P w mg base 1 "_law_cell" C_cell) (F_source : Fn0 G P w mg base 1 "_law_source" C_source) (F_draw : Fn1 G P w mg base 1 "_law_draw" C_draw) (F_rules : Fn1R G P w mg base 4 "_law_rules" B_rules R_rules) (F_nearly : Fn1R G P w mg base 2 "_law_nearly" B_nearly R_nearly) (F_right : Fn0G G P w mg base 10 "_law_is_right" C_right) :
    FnG P w G.K mg base 11 f (sp0 G C_law) := by
  refine fn0G F sc_law hb (fun ds o ⟨ns, e, _⟩ => by rw [e]; rfl) (by decide) fun cdv A outer s H E hr gd ds o hC => ?_
  obtain ⟨ns, rfl, rfl⟩ := hC
  obtain ⟨n, hn, hn3⟩ : ∃ n : Nat, (if (if (2 : Int) < (ns.length : Int) then (2 : Int) else (ns.length : Int)) > 1 then (if (2 : Int) < (ns.length : Int) then (2 : Int) else (ns.length : Int)) else 1) = (n : Int) ∧ n ≤ 2 := by
    refine ⟨(if (if (2 : Int) < (ns.length : Int) then (2 : Int) else (ns.length : Int)) > 1 then (if (2 : Int) < (ns.length : Int) then (2 : Int) else (ns.length : Int)) else 1).toNat, ?_, ?_⟩ <;> split <;> split <;> omega
  refine sx_cons (sx_for (its := rng n) (ei_range (evv_cons (ev_is (ev_max2 (evv_cons ev_int (evv_cons (ev_min2 (evv_cons (ev_lenScr (ev_var 0 rfl rfl (.inl rfl)) T.len rfl) (evv_cons ev_int evv_nil)) rfl T.min rfl) evv_nil)) rfl T.max rfl) (congrArg D.int hn)) evv_nil) rfl T.range (by omega)) (fun i c => ∃ c1 c2 c3 c4, c = [.val (.scr ns), c1, c2, c3, c4]) ⟨_, _, _, _, rfl⟩ (fun i d c hi hI => ?_) (fun c hI => ?_) rfl)
  · obtain ⟨c1, c2, c3, c4, rfl⟩ := hI
    obtain ⟨rfl, hin⟩ := rng_get hi
    refine ⟨_, _, eg_name 1 sc_law.nd rfl (.inl rfl) (.inl rfl), ?_⟩
    refine sx_cons (sx_setN 2 (evn_fn0 F_source hr (by decide) (evv_cons (ev_fn0 F_cell hr (by decide) (evv_cons (ev_var 0 rfl rfl (.inl rfl)) (evv_cons (ev_var 1 rfl rfl (.inl rfl)) evv_nil)) ⟨ns, i, rfl, rfl⟩ (by rfl)) evv_nil) ⟨ns.getD i 0, rfl, rfl⟩ rfl) (fun l => ?_) sc_law.nd rfl (.inl rfl) (.inl rfl))
    generalize hp0 : ((if ns.getD i 0 - 10 ^ 18 > 0 then ns.getD i 0 - 10 ^ 18 else 0, ns.getD i 0 % 2147483629 + 1, 0) : Pn) = p0
    have g0 : Gd2 0 p0 := by
      rw [← hp0]
      have h1 := Int.emod_nonneg (ns.getD i 0) (b := 2147483629) (by decide)
      have h2 := Int.emod_lt_of_pos (ns.getD i 0) (b := 2147483629) (by decide)
      exact ⟨by show 0 ≤ _ + 1; omega, by show _ + 1 < 2147483648; omega, Int.le_refl _, Int.le_refl _⟩
    -- if not is_right(6, nearly(source)): return False
    refine sx_cons (sx_ifR (R := fun b c => b = false ∧ ∃ p', c = [.val (.scr ns), .val (.int (i : Int)), .own l (penD p'), c3, c4] ∧ Gd2 10 p') ((etr_not (etr_val (evr_fn0GR (R' := fun d c => d = .bl true ∧ ∃ p', c = [.val (.scr ns), .val (.int (i : Int)), .own l (penD p'), c3, c4] ∧ Gd2 10 p') F_right gd hr (by decide) (evvr_cons ev_int (evvr_lastR (evr_fn1 2 F_nearly hr (by decide) (evp_cons (i := 2) rfl rfl (.inl rfl) evv_nil) rfl ⟨p0, rfl, rfl, g0.le (by decide)⟩ (by rfl)))) (fun ds c hy => ?_) (by rfl)) (fun d c h => ⟨_, h.1⟩))).mono fun b c h => ?_) (fun c h => ?_) (fun c h => ?_))
    · obtain ⟨r, rfl, d, rfl, qs', ⟨q1, q2, rs, e1, e2, rfl, hok, hx⟩, rfl⟩ := hy
      cases penD_inj e1
      subst e2
      exact ⟨_, ⟨6, rs, rfl, by decide, by decide, hok, rfl⟩, rfl, q2, rfl, g0.nx hx (by decide)⟩
    · obtain ⟨h1, h2⟩ := h
      refine ⟨?_, h2⟩
      cases b with
      | false => rfl
      | true => injection h1 with h1; cases h1
    · exact absurd h.1 (by decide)
    obtain ⟨_, p1, rfl, g1⟩ := h
    refine sx_nil ?_
    refine sx_one (sx_for (its := rng 6) (ei_range (n := 6) (evv_cons ev_int evv_nil) rfl T.range (by decide)) (fun j c => ∃ p c3 c4, c = [.val (.scr ns), .val (.int (i : Int)), .own l (penD p), c3, c4] ∧ Gd2 (10 + 200 * (j : Int)) p) ⟨p1, _, _, rfl, g1.le (by decide)⟩ (fun j d c hj hJ => ?_) (fun c hJ => ?_) rfl)
    · obtain ⟨p, c3, c4, rfl, hg⟩ := hJ
      obtain ⟨rfl, hj5⟩ := rng_get hj
      have d1 := dr2_lo p (m := 6) (by decide)
      have n1 := dr2_nx p 6
      obtain ⟨wd, hwd⟩ : ∃ k : Nat, 1 + (dr2 p 6).1 = (k : Int) := ⟨(1 + (dr2 p 6).1).toNat, by omega⟩
      have g2 := hg.nx n1 (c := 11 + 200 * (j : Int)) (by omega)
      refine ⟨_, _, eg_name 3 sc_law.nd rfl (.inl rfl) (.inl rfl), ?_⟩
      refine sx_cons (sx_set 4 (ev_is (ev_b b_add ev_int (ev_fn1 2 F_draw hr (by decide) (evp_cons (i := 2) rfl rfl (.inl rfl) (evv_cons ev_int evv_nil)) rfl ⟨p, 6, rfl, rfl, by decide, by decide, hg.le (by omega), rfl, rfl⟩ (by rfl))) (congrArg D.int hwd)) ?_ sc_law.nd rfl (.inl rfl) (.inl rfl))
      refine sx_one (sx_ifR (R := fun b c => b = false ∧ ∃ p', c = [.val (.scr ns), .val (.int (i : Int)), .own l (penD p'), .val (.int (j : Int)), .val (.int (wd : Int))] ∧ Gd2 (10 + 200 * ((j + 1 : Nat) : Int)) p') ((etr_not (etr_val (evr_fn0GR (R' := fun d c => d = .bl true ∧ ∃ p', c = [.val (.scr ns), .val (.int (i : Int)), .own l (penD p'), .val (.int (j : Int)), .val (.int (wd : Int))] ∧ Gd2 (10 + 200 * ((j + 1 : Nat) : Int)) p') F_right gd hr (by decide) (evvr_cons (ev_var 4 rfl rfl (.inl rfl)) (evvr_lastR (evr_fn1 2 F_rules hr (by decide) (evp_cons (i := 2) rfl rfl (.inl rfl) (evv_cons (ev_var 4 rfl rfl (.inl rfl)) evv_nil)) rfl ⟨_, wd, rfl, rfl, by omega, by omega, g2.le (by omega)⟩ (by rfl)))) (fun ds c hy => ?_) (by rfl)) (fun d c h => ⟨_, h.1⟩))).mono fun b c h => ?_) (fun c h => ?_) (fun c h => ?_))
      · obtain ⟨r, rfl, d, rfl, qs', ⟨q1, q2, m, rs, e1, e2, e3, rfl, hok, hx⟩, rfl⟩ := hy
        cases penD_inj e1
        subst e2
        injection e3 with e3
        injection e3 with e3
        have e4 : wd = m := by omega
        subst e4
        exact ⟨_, ⟨wd, rs, rfl, by omega, by omega, hok, rfl⟩, rfl, q2, rfl, g2.nx hx (by omega)⟩
      · obtain ⟨h1, h2⟩ := h
        refine ⟨?_, h2⟩
        cases b with
        | false => rfl
        | true => injection h1 with h1; cases h1
      · exact absurd h.1 (by decide)
      obtain ⟨_, p2, rfl, g3⟩ := h
      exact sx_nil ⟨p2, _, _, rfl, g3⟩
    · obtain ⟨p, c3, c4, rfl, hg⟩ := hJ
      exact ⟨_, _, _, _, rfl⟩
  · exact sx_one (sx_ret ev_bl rfl)
end
end Pr
namespace Pr
open PySem L2 Fx Mt
def hfa0 : List (PySem.W.Frag → Bool) := [(fun K => (He.Fa.glo "Rules").ok K), (fun K => bnames.all fun n => (He.Fa.free n).ok K), (fun K => (He.Fa.str "SETTLES" "settles").ok K), (fun K => (He.Fa.str "WITHIN" "within").ok K), (fun K => (He.Fa.int "MOST_WIDTH" 6).ok K), (fun K => (He.Fa.cls "Rules").ok K), (fun K => (He.Fa.noat "Rules" "columns").ok K), (fun K => (He.Fa.noat "Rules" "kept").ok K), (fun K => (He.Fa.mkr "Rules").ok K), fTy "Rules", fKit "Rules", fRead "Rules", (fun K => (He.Fa.glo "shortest").ok K), (fun K => (He.Fa.glo "leads").ok K), (fun K => (He.Fa.glo "downs").ok K), (fun K => (He.Fa.glo "ring_of").ok K), (fun K => (He.Fa.glo "arrows").ok K), (fun K => (He.Fa.glo "follows").ok K), (fun K => (He.Fa.glo "is_integer").ok K), (fun K => (He.Fa.glo "is_between").ok K)]
def hfa1 : List (PySem.W.Frag → Bool) := [(fun K => (He.Fa.glo "need_width").ok K), (fun K => (He.Fa.glo "is_column").ok K), (fun K => (He.Fa.glo "is_rule").ok K), (fun K => (He.Fa.glo "need_rule").ok K), (fun K => (He.Fa.glo "are_rules").ok K), (fun K => (He.Fa.glo "column_of").ok K), (fun K => (He.Fa.glo "rule_of").ok K), fCM "Rules" "read", fCall "Rules", (fun K => (He.Fa.glo "_law_cell").ok K), (fun K => (He.Fa.glo "_law_source").ok K), (fun K => (He.Fa.glo "_law_draw").ok K), (fun K => (He.Fa.glo "_law_choose").ok K), (fun K => (He.Fa.glo "_law_is_equal").ok K), (fun K => (He.Fa.glo "_law_downs").ok K), (fun K => (He.Fa.glo "_law_all").ok K), (fun K => (He.Fa.glo "_law_list").ok K), (fun K => (He.Fa.glo "_law_step").ok K), (fun K => (He.Fa.glo "_law_mixed").ok K), (fun K => (He.Fa.glo "_law_nearly").ok K)]
def hfa2 : List (PySem.W.Frag → Bool) := [(fun K => (He.Fa.glo "_law_reach").ok K), (fun K => (He.Fa.glo "_law_arrows").ok K), (fun K => (He.Fa.glo "_law_rules").ok K), (fun K => (He.Fa.glo "_law_due").ok K), (fun K => (He.Fa.glo "_law_is_right").ok K), (fun K => (He.Fa.glo "law").ok K)]
def hfa : List (PySem.W.Frag → Bool) := hfa0 ++ hfa1 ++ hfa2
def hfn0 : List Df := [⟨aG "shortest", "shortest", "shortest", s_shortest, none⟩, ⟨aG "leads", "leads", "leads", s_leads, none⟩, ⟨aG "downs", "downs", "downs", s_downs, none⟩, ⟨aG "ring_of", "ring_of", "ring_of", s_ring_of, none⟩, ⟨aG "arrows", "arrows", "arrows", s_arrows, none⟩, ⟨aG "follows", "follows", "follows", s_follows, none⟩, ⟨aG "is_integer", "is_integer", "is_integer", s_is_integer, none⟩, ⟨aG "is_between", "is_between", "is_between", s_is_between, none⟩, ⟨aG "need_width", "need_width", "need_width", s_need_width, none⟩, ⟨aG "is_column", "is_column", "is_column", s_is_column, none⟩, ⟨aG "is_rule", "is_rule", "is_rule", s_is_rule, none⟩, ⟨aG "need_rule", "need_rule", "need_rule", s_need_rule, none⟩, ⟨aG "are_rules", "are_rules", "are_rules", s_are_rules, none⟩, ⟨aG "column_of", "column_of", "column_of", s_column_of, none⟩, ⟨aG "rule_of", "rule_of", "rule_of", s_rule_of, none⟩, ⟨aM "Rules" "__init__", "__init__", "Rules.__init__", s_init, none⟩, ⟨aK "Rules" "read", "read", "Rules.read", s_read, none⟩, ⟨aM "Rules" "__call__", "__call__", "Rules.__call__", s_call, none⟩, ⟨aG "_law_cell", "_law_cell", "_law_cell", s_law_cell, none⟩, ⟨aG "_law_source", "_law_source", "_law_source", s_law_source, none⟩]
def hfn1 : List Df := [⟨aG "_law_draw", "_law_draw", "_law_draw", s_law_draw, none⟩, ⟨aG "_law_choose", "_law_choose", "_law_choose", s_law_choose, none⟩, ⟨aG "_law_is_equal", "_law_is_equal", "_law_is_equal", s_law_is_equal, none⟩, ⟨aG "_law_downs", "_law_downs", "_law_downs", s_law_downs, none⟩, ⟨aG "_law_all", "_law_all", "_law_all", s_law_all, none⟩, ⟨aG "_law_list", "_law_list", "_law_list", s_law_list, none⟩, ⟨aG "_law_step", "_law_step", "_law_step", s_law_step, none⟩, ⟨aG "_law_mixed", "_law_mixed", "_law_mixed", s_law_mixed, none⟩, ⟨aG "_law_nearly", "_law_nearly", "_law_nearly", s_law_nearly, none⟩, ⟨aG "_law_reach", "_law_reach", "_law_reach", s_law_reach, none⟩, ⟨aG "_law_arrows", "_law_arrows", "_law_arrows", s_law_arrows, none⟩, ⟨aG "_law_rules", "_law_rules", "_law_rules", s_law_rules, none⟩, ⟨aG "_law_due", "_law_due", "_law_due", s_law_due, none⟩, ⟨aG "_law_is_right", "_law_is_right", "_law_is_right", s_law_is_right, none⟩, ⟨aG "law", "law", "law", s_law, none⟩]
def hfn : List Df := hfn0 ++ hfn1
def hnm0 : List Str := ["ColumnError", "NoWidth", "NoRules", "NoRule", "NoText", "NotRules", "UnlikeWidths", "SETTLES", "WITHIN", "shortest", "leads", "downs", "ring_of", "arrows", "follows", "MOST_WIDTH", "is_integer", "is_between", "need_width", "is_column"]
def hnm1 : List Str := ["is_rule", "need_rule", "are_rules", "column_of", "rule_of", "Rules", "need_rules", "_law_cell", "_law_source", "_law_draw", "_law_choose", "_law_is_equal", "_law_mixed", "_law_step", "_law_rules", "_law_list", "_law_all", "_law_reach", "_law_downs", "_law_arrows"]
def hnm2 : List Str := ["_law_due", "_law_nearly", "_law_is_right"]
def hnm : List Str := hnm0 ++ hnm1 ++ hnm2
def gxc (K : PySem.W.Frag) : Nat → Addr
  | 10 => He.ga K "ColumnError"
  | 11 => He.ga K "NoWidth"
  | 14 => He.ga K "NoRules"
  | 15 => He.ga K "NoRule"
  | 18 => He.ga K "NoText"
  | 20 => He.ga K "NotRules"
  | 21 => He.ga K "UnlikeWidths"
  | _ => He.ga K "Rules"
abbrev gx (K : PySem.W.Frag) : Gx := ⟨K, gxc K, fun _ => ["columns", "kept"]⟩
abbrev hRow : PySem.W.OpenRow := PySem.W.OpenLaw.row PySem.Challenge.rw_countcycles_k62_which_rules_follow
abbrev hk : PySem.W.Hook := hookZ 6 [cStatics] hfa hfn
def hob (s : PySem.W.SharedT) : AlY := obsZG 6 [cStatics] hfa hfn (HandSHeadRun.getT s)
theorem hob_eq (s : PySem.W.SharedT) : hob s = hk.obs s.abs := obsZG_eq (HandSHeadRun.getT_eq s)
theorem hrun (w : World) : HandSHeadRun.RunEq hRow (PySem.W.view hRow.prog [47]) hk hob 8000 hnm w := by
  intro os
  kernel_rfl
theorem hfacts {P : Program} {w : World} {K : PySem.W.Frag} {h : Heap} {mg : Str → Option Value} {f : Addr} (X : K.In h) (Gn : h.Ns mainGlobals mg) (hlaw : mg ("law" : Str) = some (.ref f)) (c : SaysY hfa hfn K) :
    ∃ fd : FuncData, (∀ (s : Shared) (v : Value), BindsTo s fd ⟨[v], []⟩ [("_law_script", v)]) ∧ ∀ base : Heap, FnG P w K mg base 11 f (sp0 (gx K) C_law) := by
  obtain ⟨fdL, FL⟩ := c.def_ 34
  have e := hlaw.symm.trans (He.glo_ok X Gn (c.fact 45))
  cases e
  have bL : Binds K fdL ["_law_script"] [] := FL.binds fun _ _ _ _ _ _ us hl => match us, hl with | [_], _ => rfl
  refine ⟨fdL, fun s v => bindsTo1 FL (fun _ _ _ _ _ _ u => rfl) s v, fun base => ?_⟩
  have T : Tx mg := ⟨fun n hn => He.free_ok X Gn (List.all_eq_true.mp (c.fact 1) n hn), He.str_ok X Gn (c.fact 2), He.str_ok X Gn (c.fact 3), He.int_ok X Gn (c.fact 4)⟩
  let G : Gx := gx K
  have KC : RC G mg := ⟨rfl, He.cls_ok (c.fact 5), He.noat_ok (c.fact 6), He.noat_ok (c.fact 7), He.glo_ok X Gn (c.fact 0), fTy_ok (c.fact 9) (He.cls_ok (c.fact 5)), of_decide_eq_true (c.fact 10)⟩
  obtain ⟨fd0, F0⟩ := c.def_ 0
  have B0 : Binds K fd0 ["pairs", "a", "b"] [] := F0.binds fun _ _ _ _ _ _ us hl => match us, hl with | [_, _, _], _ => rfl
  have Y0 : Fn0 G P w mg base 1 "shortest" C_shortest := ⟨_, He.glo_ok X Gn (c.fact 12), F0.kp, ok_shortest F0 B0 T⟩
  obtain ⟨fd1, F1⟩ := c.def_ 1
  have B1 : Binds K fd1 ["pairs", "a", "b"] [] := F1.binds fun _ _ _ _ _ _ us hl => match us, hl with | [_, _, _], _ => rfl
  have Y1 : Fn0 G P w mg base 2 "leads" C_leads := ⟨_, He.glo_ok X Gn (c.fact 13), F1.kp, ok_leads F1 B1 Y0⟩
  obtain ⟨fd2, F2⟩ := c.def_ 2
  have B2 : Binds K fd2 ["rules"] [] := F2.binds fun _ _ _ _ _ _ us hl => match us, hl with | [_], _ => rfl
  have Y2 : Fn0 G P w mg base 1 "downs" C_downs := ⟨_, He.glo_ok X Gn (c.fact 14), F2.kp, ok_downs F2 B2 T⟩
  obtain ⟨fd3, F3⟩ := c.def_ 3
  have B3 : Binds K fd3 ["rules", "kind", "a", "b"] [] := F3.binds fun _ _ _ _ _ _ us hl => match us, hl with | [_, _, _, _], _ => rfl
  have Y3 : Fn0 G P w mg base 2 "ring_of" C_ring_of := ⟨_, He.glo_ok X Gn (c.fact 15), F3.kp, ok_ring_of F3 B3 T Y0 Y2⟩
  obtain ⟨fd4, F4⟩ := c.def_ 4
  have B4 : Binds K fd4 ["rules", "kind"] [] := F4.binds fun _ _ _ _ _ _ us hl => match us, hl with | [_, _], _ => rfl
  have Y4 : Fn0 G P w mg base 3 "arrows" C_arrows := ⟨_, He.glo_ok X Gn (c.fact 16), F4.kp, ok_arrows F4 B4 Y3⟩
  obtain ⟨fd5, F5⟩ := c.def_ 5
  have B5 : Binds K fd5 ["rules", "rule"] [] := F5.binds fun _ _ _ _ _ _ us hl => match us, hl with | [_, _], _ => rfl
  have Y5 : Fn0 G P w mg base 4 "follows" C_follows := ⟨_, He.glo_ok X Gn (c.fact 17), F5.kp, ok_follows F5 B5 Y1 Y4⟩
  obtain ⟨fd6, F6⟩ := c.def_ 6
  have B6 : Binds K fd6 ["thing"] [] := F6.binds fun _ _ _ _ _ _ us hl => match us, hl with | [_], _ => rfl
  have Y6 : Fn0 G P w mg base 1 "is_integer" C_is_integer := ⟨_, He.glo_ok X Gn (c.fact 18), F6.kp, ok_is_integer F6 B6 T⟩
  obtain ⟨fd7, F7⟩ := c.def_ 7
  have B7 : Binds K fd7 ["thing", "low", "high"] [] := F7.binds fun _ _ _ _ _ _ us hl => match us, hl with | [_, _, _], _ => rfl
  have Y7 : Fn0 G P w mg base 2 "is_between" C_is_between := ⟨_, He.glo_ok X Gn (c.fact 19), F7.kp, ok_is_between F7 B7 Y6⟩
  obtain ⟨fd8, F8⟩ := c.def_ 8
  have B8 : Binds K fd8 ["thing"] [] := F8.binds fun _ _ _ _ _ _ us hl => match us, hl with | [_], _ => rfl
  have Y8 : Fn0 G P w mg base 3 "need_width" C_need_width := ⟨_, He.glo_ok X Gn (c.fact 20), F8.kp, ok_need_width F8 B8 T Y7⟩
  obtain ⟨fd9, F9⟩ := c.def_ 9
  have B9 : Binds K fd9 ["thing", "width"] [] := F9.binds fun _ _ _ _ _ _ us hl => match us, hl with | [_, _], _ => rfl
  have Y9 : Fn0 G P w mg base 3 "is_column" C_is_column := ⟨_, He.glo_ok X Gn (c.fact 21), F9.kp, ok_is_column F9 B9 Y7⟩
  obtain ⟨fd10, F10⟩ := c.def_ 10
  have B10 : Binds K fd10 ["thing", "width"] [] := F10.binds fun _ _ _ _ _ _ us hl => match us, hl with | [_, _], _ => rfl
  have Y10 : Fn0 G P w mg base 4 "is_rule" C_is_rule := ⟨_, He.glo_ok X Gn (c.fact 22), F10.kp, ok_is_rule F10 B10 T Y9⟩
  obtain ⟨fd11, F11⟩ := c.def_ 11
  have B11 : Binds K fd11 ["thing", "width"] [] := F11.binds fun _ _ _ _ _ _ us hl => match us, hl with | [_, _], _ => rfl
  have Y11 : Fn0 G P w mg base 5 "need_rule" C_need_rule := ⟨_, He.glo_ok X Gn (c.fact 23), F11.kp, ok_need_rule F11 B11 Y10⟩
  obtain ⟨fd12, F12⟩ := c.def_ 12
  have B12 : Binds K fd12 ["things", "width"] [] := F12.binds fun _ _ _ _ _ _ us hl => match us, hl with | [_, _], _ => rfl
  have Y12 : Fn0 G P w mg base 5 "are_rules" C_are_rules := ⟨_, He.glo_ok X Gn (c.fact 24), F12.kp, ok_are_rules F12 B12 T Y10⟩
  obtain ⟨fd13, F13⟩ := c.def_ 13
  have B13 : Binds K fd13 ["word"] [] := F13.binds fun _ _ _ _ _ _ us hl => match us, hl with | [_], _ => rfl
  have Y13 : Fn0 G P w mg base 1 "column_of" C_column_of := ⟨_, He.glo_ok X Gn (c.fact 25), F13.kp, ok_column_of F13 B13 T⟩
  obtain ⟨fd14, F14⟩ := c.def_ 14
  have B14 : Binds K fd14 ["line"] [] := F14.binds fun _ _ _ _ _ _ us hl => match us, hl with | [_], _ => rfl
  have Y14 : Fn0 G P w mg base 2 "rule_of" C_rule_of := ⟨_, He.glo_ok X Gn (c.fact 26), F14.kp, ok_rule_of F14 B14 T Y13⟩
  obtain ⟨fd15, F15⟩ := c.def_ 15
  have Y15 : PkInit G P w mg base 0 6 C_init := ⟨_, He.mkr_ok (c.fact 8), ok_init F15 KC Y8 Y12⟩
  obtain ⟨fd16, F16⟩ := c.def_ 16
  have B16 : Binds K fd16 ["cls", "width", "text"] [] := F16.binds fun _ _ _ _ _ _ us hl => match us, hl with | [_, _, _], _ => rfl
  have Y16 : PkCls G P w mg base 0 8 "read" C_read := ⟨_, _, _, fRead_ok (c.fact 11), fCM_ok (c.fact 27), ok_read F16 B16 T KC Y8 Y12 Y14 Y15⟩
  obtain ⟨fd17, F17⟩ := c.def_ 17
  have B17 : Binds K fd17 ["self", "rule"] [] := F17.binds fun _ _ _ _ _ _ us hl => match us, hl with | [_, _], _ => rfl
  have Y17 : PkCall G P w mg base 0 6 C_call := ⟨_, fCall_ok (c.fact 28), ok_call F17 B17 KC Y11 Y5⟩
  obtain ⟨fd18, F18⟩ := c.def_ 18
  have B18 : Binds K fd18 ["_law_script", "_law_index"] [] := F18.binds fun _ _ _ _ _ _ us hl => match us, hl with | [_, _], _ => rfl
  have Y18 : Fn0 G P w mg base 1 "_law_cell" C_cell := ⟨_, He.glo_ok X Gn (c.fact 29), F18.kp, ok_law_cell F18 B18 T⟩
  obtain ⟨fd19, F19⟩ := c.def_ 19
  have B19 : Binds K fd19 ["_law_cell_here"] [] := F19.binds fun _ _ _ _ _ _ us hl => match us, hl with | [_], _ => rfl
  have Y19 : Fn0 G P w mg base 1 "_law_source" C_source := ⟨_, He.glo_ok X Gn (c.fact 30), F19.kp, ok_law_source F19 B19 T⟩
  obtain ⟨fd20, F20⟩ := c.def_ 20
  have B20 : Binds K fd20 ["_law_source_here", "_law_many"] [] := F20.binds fun _ _ _ _ _ _ us hl => match us, hl with | [_, _], _ => rfl
  have Y20 : Fn1 G P w mg base 1 "_law_draw" C_draw := ⟨_, He.glo_ok X Gn (c.fact 31), F20.kp, ok_law_draw F20 B20⟩
  obtain ⟨fd21, F21⟩ := c.def_ 21
  have B21 : Binds K fd21 ["_law_source_here", "_law_values"] [] := F21.binds fun _ _ _ _ _ _ us hl => match us, hl with | [_, _], _ => rfl
  have Y21 : Fn1R G P w mg base 2 "_law_choose" B_choose R_choose := ⟨_, He.glo_ok X Gn (c.fact 32), F21.kp, ok_law_choose F21 B21 T Y20⟩
  obtain ⟨fd22, F22⟩ := c.def_ 22
  have B22 : Binds K fd22 ["_law_actual", "_law_expected"] [] := F22.binds fun _ _ _ _ _ _ us hl => match us, hl with | [_, _], _ => rfl
  have Y22 : Fn0G G P w mg base 1 "_law_is_equal" C_equal := ⟨_, He.glo_ok X Gn (c.fact 33), F22.kp, ok_law_is_equal F22 B22 T⟩
  obtain ⟨fd23, F23⟩ := c.def_ 23
  have B23 : Binds K fd23 ["_law_rules_here"] [] := F23.binds fun _ _ _ _ _ _ us hl => match us, hl with | [_], _ => rfl
  have Y23 : Fn0 G P w mg base 1 "_law_downs" C_downs2 := ⟨_, He.glo_ok X Gn (c.fact 34), F23.kp, ok_law_downs F23 B23⟩
  obtain ⟨fd24, F24⟩ := c.def_ 24
  have B24 : Binds K fd24 ["_law_width"] [] := F24.binds fun _ _ _ _ _ _ us hl => match us, hl with | [_], _ => rfl
  have Y24 : Fn0 G P w mg base 1 "_law_all" C_all := ⟨_, He.glo_ok X Gn (c.fact 35), F24.kp, ok_law_all F24 B24 T⟩
  obtain ⟨fd25, F25⟩ := c.def_ 25
  have B25 : Binds K fd25 ["_law_width", "_law_rules_here"] [] := F25.binds fun _ _ _ _ _ _ us hl => match us, hl with | [_, _], _ => rfl
  have Y25 : Fn0 G P w mg base 9 "_law_list" C_list := ⟨_, He.glo_ok X Gn (c.fact 36), F25.kp, ok_law_list F25 B25 T KC Y16⟩
  obtain ⟨fd26, F26⟩ := c.def_ 26
  have B26 : Binds K fd26 ["_law_source_here", "_law_a", "_law_b", "_law_kinds"] [] := F26.binds fun _ _ _ _ _ _ us hl => match us, hl with | [_, _, _, _], _ => rfl
  have Y26 : Fn1R G P w mg base 3 "_law_step" B_step R_step := ⟨_, He.glo_ok X Gn (c.fact 37), F26.kp, ok_law_step F26 B26 Y21⟩
  obtain ⟨fd27, F27⟩ := c.def_ 27
  have B27 : Binds K fd27 ["_law_source_here", "_law_many"] [] := F27.binds fun _ _ _ _ _ _ us hl => match us, hl with | [_, _], _ => rfl
  have Y27 : Fn1R G P w mg base 3 "_law_mixed" B_mixed R_mixed := ⟨_, He.glo_ok X Gn (c.fact 38), F27.kp, ok_law_mixed F27 B27 T Y21⟩
  obtain ⟨fd28, F28⟩ := c.def_ 28
  have B28 : Binds K fd28 ["_law_source_here"] [] := F28.binds fun _ _ _ _ _ _ us hl => match us, hl with | [_], _ => rfl
  have Y28 : Fn1R G P w mg base 2 "_law_nearly" B_nearly R_nearly := ⟨_, He.glo_ok X Gn (c.fact 39), F28.kp, ok_law_nearly F28 B28 Y20 Y24⟩
  obtain ⟨fd29, F29⟩ := c.def_ 29
  have B29 : Binds K fd29 ["_law_width", "_law_pairs"] [] := F29.binds fun _ _ _ _ _ _ us hl => match us, hl with | [_, _], _ => rfl
  have Y29 : Fn0 G P w mg base 1 "_law_reach" C_reach := ⟨_, He.glo_ok X Gn (c.fact 40), F29.kp, ok_law_reach F29 B29 T⟩
  obtain ⟨fd30, F30⟩ := c.def_ 30
  have B30 : Binds K fd30 ["_law_width", "_law_rules_here", "_law_kind"] [] := F30.binds fun _ _ _ _ _ _ us hl => match us, hl with | [_, _, _], _ => rfl
  have Y30 : Fn0 G P w mg base 2 "_law_arrows" C_arrows2 := ⟨_, He.glo_ok X Gn (c.fact 41), F30.kp, ok_law_arrows F30 B30 Y29 Y23⟩
  obtain ⟨fd31, F31⟩ := c.def_ 31
  have B31 : Binds K fd31 ["_law_source_here", "_law_width"] [] := F31.binds fun _ _ _ _ _ _ us hl => match us, hl with | [_, _], _ => rfl
  have Y31 : Fn1R G P w mg base 4 "_law_rules" B_rules R_rules := ⟨_, He.glo_ok X Gn (c.fact 42), F31.kp, ok_law_rules F31 B31 T Y20 Y21 Y26 Y27⟩
  obtain ⟨fd32, F32⟩ := c.def_ 32
  have B32 : Binds K fd32 ["_law_width", "_law_rules_here"] [] := F32.binds fun _ _ _ _ _ _ us hl => match us, hl with | [_, _], _ => rfl
  have Y32 : Fn0 G P w mg base 3 "_law_due" C_ldue := ⟨_, He.glo_ok X Gn (c.fact 43), F32.kp, ok_law_due F32 B32 Y29 Y30 Y24⟩
  obtain ⟨fd33, F33⟩ := c.def_ 33
  have B33 : Binds K fd33 ["_law_width", "_law_given"] [] := F33.binds fun _ _ _ _ _ _ us hl => match us, hl with | [_, _], _ => rfl
  have Y33 : Fn0G G P w mg base 10 "_law_is_right" C_right := ⟨_, He.glo_ok X Gn (c.fact 44), F33.kp, ok_law_is_right F33 B33 T Y25 Y32 Y24 Y22 Y17⟩
  exact ok_law FL bL T Y18 Y19 Y20 Y31 Y28 Y33
end Pr
open PySem PySem.W PySem.Calls PyProof.Rows
theorem PySem.Challenge.cw_countcycles_k62_which_rules_follow_holds : PySem.Challenge.rw_countcycles_k62_which_rules_follow.Holds := by
  w_on; o_law
  refine HandSHeadRun.head_any (r := OpenLaw.row PySem.Challenge.rw_countcycles_k62_which_rules_follow) (q := view (OpenLaw.row PySem.Challenge.rw_countcycles_k62_which_rules_follow).prog [47]) (H := Pr.hk) (ob := Pr.hob) (M := 8000) (loose := Pr.hnm) (d := HandSHeadRun.topDef (OpenLaw.row PySem.Challenge.rw_countcycles_k62_which_rules_follow).prog 47) (kwd := []) Pr.hob_eq
    (by kernel_rfl) (fun s => by kernel_rfl) Pr.hrun (by kernel_rfl) (by kernel_rfl) (by kernel_rfl) (by rfl) (by first | assumption | decide +kernel) (by decide +kernel) ⟨rfl, rfl, rfl, rfl, rfl, by decide +kernel⟩ ?hw ?hc
  case hw => w_witness2
  case hc =>
    refine Fx.walk_G (l := PySem.Challenge.rw_countcycles_k62_which_rules_follow) (n := 63) (k := 11) rfl (by decide) (by kernel_rfl) ⟨rfl, by decide, by decide⟩ ?F
    intro w mg fa h Y G hmg0
    obtain ⟨K, KX, c⟩ := Y
    have hmg : mg ("law" : PySem.Str) = some (.ref fa) := by
      have e : (HandSHeadRun.topDef (OpenLaw.row PySem.Challenge.rw_countcycles_k62_which_rules_follow).prog 47).name = ("law" : PySem.Str) := by kernel_rfl
      rw [← e]
      exact hmg0
    obtain ⟨fd, hb, hF⟩ := Pr.hfacts (P := (PySem.Challenge.rw_countcycles_k62_which_rules_follow).prog) (w := w) KX G hmg c
    exact ⟨K, Fx.sp0 (Pr.gx K) Pr.C_law, KX, fun H a ns hl hS => ⟨H, [.scr ns], .val (.bl true), L2.Same.refl H, ⟨_, [], rfl, ⟨a, rfl, hS⟩, rfl⟩, ⟨ns, rfl, rfl⟩, fun v F' H' g q => q⟩, hF⟩
