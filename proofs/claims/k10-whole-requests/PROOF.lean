import PyProof.Rows.All
import Wide.All
import OpenK.AllK
import Wide.FinOn
import KE.KStateDown
import HandS.ForMost
import HandS.ForExc
import HandS.More
import KE.KDictKeyed
import KE.KDictWalk
import KE.KDictCopyH
import KE.GoesEnum
import KE.GoesNew
import PyProof.EnumMake
import HandS.IsInst
import HandS.Wide
import HandS.TupAny
import HandS.TupMul
import HandS.TupSets
import HandS.Strs
import HandS.Zip
import HandS.Conv
import HandS.Defaults
import HandS.EndTab
import HandS.DictComp
import HandS.AnyAll
import HandS.SetKeys
import HandS.BoundDict
import HandS.Walk
import HandS.TupLen
import KE.KDictDisplayH
import KE.KDictPairs
import HandS.Ends
import KE.LtData
import KE.GoesZip
import KE.GoesMore
import KE.DataMinMax
import KE.SortKeyHeap
import KE.KDictSum
import HandS.Lambda
import HandS.Exc
import HandS.ExcOwn
import HandS.WordsExc
import HandS.Head0
import HandS.HeadHook1
import HandS.Sort
import HandS.SetFor
import KE.DataEq
import HandS.WordsDict
import Lean
import HandS.Base
import HandS.Call
import HandS.Words
import HandS.Head1
import HandS.Head2
import HandS.HeadEnd
import HandS.HeadHook2
import HandS.HeadHook3
import HandS.HeadHook4
import HandS.HeadWalk
import PySem.Challenge.RW_holestore_k10_whole_requests

/-! plain mathematics: the mirrors -/
set_option linter.all false
namespace L2.K10
/-! ### insertion sort -/
def ins (x : Nat) : List Nat → List Nat
  | [] => [x]
  | y :: r => if x ≤ y then x :: y :: r else y :: ins x r
def isrt : List Nat → List Nat
  | [] => []
  | x :: r => ins x (isrt r)
theorem ins_perm (x : Nat) : ∀ l, (ins x l).Perm (x :: l)
  | [] => .refl _
  | y :: r => by
    unfold ins
    split
    · exact .refl _
    · exact ((ins_perm x r).cons y).trans (List.Perm.swap x y r)
theorem isrt_perm : ∀ l, (isrt l).Perm l
  | [] => .refl _
  | x :: r => (ins_perm x (isrt r)).trans ((isrt_perm r).cons x)
theorem ins_sorted (x : Nat) : ∀ l, l.Pairwise (· ≤ ·) → (ins x l).Pairwise (· ≤ ·)
  | [], _ => by simp [ins]
  | y :: r, h => by
    unfold ins
    have h' := List.pairwise_cons.mp h
    split
    · rename_i hx
      refine List.pairwise_cons.mpr ⟨fun z hz => ?_, h⟩
      rcases List.mem_cons.mp hz with rfl | hz
      · exact hx
      · exact Nat.le_trans hx (h'.1 z hz)
    · rename_i hx
      refine List.pairwise_cons.mpr ⟨fun z hz => ?_, ins_sorted x r h'.2⟩
      rcases List.mem_cons.mp ((ins_perm x r).mem_iff.mp hz) with rfl | hz
      · omega
      · exact h'.1 z hz
theorem isrt_sorted : ∀ l, (isrt l).Pairwise (· ≤ ·)
  | [] => .nil
  | x :: r => ins_sorted x _ (isrt_sorted r)
theorem srt_unique {ns : List Int} {l : List Nat} (hp : ns.Perm (l.map (fun n : Nat => (n : Int)))) (hs : ns.Pairwise (· ≤ ·)) : ns = (isrt l).map (fun n : Nat => (n : Int)) := by
  have h1 : ns.Perm ((isrt l).map (fun n : Nat => (n : Int))) := hp.trans ((isrt_perm l).symm.map _)
  have h2 : ((isrt l).map (fun n : Nat => (n : Int))).Pairwise (· ≤ ·) := by
    rw [List.pairwise_map]
    exact (isrt_sorted l).imp fun h => by omega
  exact h1.eq_of_pairwise (fun a b _ _ h h' => by omega) hs h2
theorem isrt_len (l : List Nat) : (isrt l).length = l.length := (isrt_perm l).length_eq
/-! ### standings, slides -/
abbrev Sg := List (Option Nat)
abbrev Tie := Nat × Nat
abbrev Word := List (Nat × Nat)
def nearL (ties : List Tie) (p : Nat) : List Nat := (ties.filter fun t => t.2 == p).map (·.1)
def nearR (ties : List Tie) (p : Nat) : List Nat := (ties.filter fun t => t.1 == p).map (·.2)
def nearM (ties : List Tie) (p : Nat) : List Nat := isrt (nearL ties p ++ nearR ties p)
def slidM (s : Sg) (m : Nat × Nat) : Sg := (s.set m.1 none).set m.2 (s.getD m.1 none)
def holesM (s : Sg) (l : List Nat) : List Nat := l.filter fun o => s[o]? == some none
def slidesAt (ties : List Tie) (s : Sg) (p : Nat) : List (Nat × Nat) := (holesM s (nearM ties p)).map fun o => (p, o)
def slidesM (ties : List Tie) (s : Sg) : List (Nat × Nat) := (List.range s.length).flatMap fun p => if (s.getD p none).isSome then slidesAt ties s p else []
theorem mem_nearM {ties : List Tie} {p o : Nat} (h : o ∈ nearM ties p) : (o, p) ∈ ties ∨ (p, o) ∈ ties := by
  unfold nearM nearL nearR at h
  have h := (isrt_perm _).mem_iff.mp h
  rcases List.mem_append.mp h with h | h
  · obtain ⟨t, ht, rfl⟩ := List.mem_map.mp h
    obtain ⟨h1, h2⟩ := List.mem_filter.mp ht
    have : t.2 = p := by simpa using h2
    exact .inl (by rw [← this]; exact h1)
  · obtain ⟨t, ht, rfl⟩ := List.mem_map.mp h
    obtain ⟨h1, h2⟩ := List.mem_filter.mp ht
    have : t.1 = p := by simpa using h2
    exact .inr (by rw [← this]; exact h1)
/-- every tie below n -/
def TiesOk (n : Nat) (ties : List Tie) : Prop := ∀ t ∈ ties, t.1 < n ∧ t.2 < n
theorem near_lt {n : Nat} {ties : List Tie} (h : TiesOk n ties) {p o : Nat} (ho : o ∈ nearM ties p) : o < n := by
  rcases mem_nearM ho with z | z
  · exact (h _ z).1
  · exact (h _ z).2
theorem near_len (ties : List Tie) (p : Nat) : (nearM ties p).length ≤ 2 * ties.length := by
  unfold nearM nearL nearR
  rw [isrt_len, List.length_append, List.length_map, List.length_map]
  have h1 := List.length_filter_le (fun t : Tie => t.2 == p) ties
  have h2 := List.length_filter_le (fun t : Tie => t.1 == p) ties
  omega
def slidesTo (ties : List Tie) (s : Sg) (i : Nat) : List (Nat × Nat) := (List.range i).flatMap fun p => if (s.getD p none).isSome then slidesAt ties s p else []
theorem slidesTo_succ (ties : List Tie) (s : Sg) (i : Nat) : slidesTo ties s (i + 1) = slidesTo ties s i ++ if (s.getD i none).isSome then slidesAt ties s i else [] := by
  unfold slidesTo
  rw [List.range_succ, List.flatMap_append]
  simp
theorem slidesAt_len (ties : List Tie) (s : Sg) (p : Nat) : (slidesAt ties s p).length ≤ 2 * ties.length := by
  unfold slidesAt holesM
  rw [List.length_map]
  exact Nat.le_trans (List.length_filter_le _ _) (near_len ties p)
theorem slidesTo_len (ties : List Tie) (s : Sg) : ∀ i, (slidesTo ties s i).length ≤ i * (2 * ties.length)
  | 0 => by simp [slidesTo]
  | i + 1 => by
    rw [slidesTo_succ, List.length_append, Nat.add_mul]
    have h1 := slidesTo_len ties s i
    have h2 := slidesAt_len ties s i
    split
    · omega
    · simp; omega
end L2.K10

/-! plain mathematics: tables by standings, the law's search -/
set_option linter.all false
namespace L2.K10
variable {β : Type}
def aget (F : List (Sg × β)) (k : Sg) : Option β := (F.find? fun f => decide (f.1 = k)).map (·.2)
theorem aget_nil {k : Sg} : aget ([] : List (Sg × β)) k = none := rfl
theorem aget_pos {f : Sg × β} {r : List (Sg × β)} {k : Sg} (h : f.1 = k) : aget (f :: r) k = some f.2 := by simp [aget, h]
theorem aget_neg {f : Sg × β} {r : List (Sg × β)} {k : Sg} (h : ¬ f.1 = k) : aget (f :: r) k = aget r k := by simp [aget, h]
theorem aget_app {F G : List (Sg × β)} {k : Sg} : aget (F ++ G) k = match aget F k with | some b => some b | none => aget G k := by
  induction F with
  | nil => rfl
  | cons f r ih =>
    by_cases e : f.1 = k
    · rw [List.cons_append, aget_pos e, aget_pos e]
    · rw [List.cons_append, aget_neg e, aget_neg e, ih]
theorem aget_app_some {F G : List (Sg × β)} {k : Sg} {b : β} (h : aget F k = some b) : aget (F ++ G) k = some b := by rw [aget_app, h]
theorem aget_mem {F : List (Sg × β)} {k : Sg} {b : β} (h : aget F k = some b) : (k, b) ∈ F := by
  induction F with
  | nil => cases h
  | cons f r ih =>
    by_cases e : f.1 = k
    · rw [aget_pos e] at h
      cases h
      rw [← e]
      exact List.mem_cons_self
    · rw [aget_neg e] at h
      exact List.mem_cons_of_mem _ (ih h)
theorem aget_some_iff {F : List (Sg × β)} {k : Sg} : (aget F k).isSome = true ↔ k ∈ F.map (·.1) := by
  induction F with
  | nil => simp [aget]
  | cons f r ih =>
    by_cases e : f.1 = k
    · rw [aget_pos e]
      simp [e]
    · rw [aget_neg e, ih]
      simp only [List.map_cons, List.mem_cons]
      constructor
      · exact .inr
      · rintro (h | h)
        · exact absurd h.symm e
        · exact h
theorem aget_none_iff {F : List (Sg × β)} {k : Sg} : aget F k = none ↔ k ∉ F.map (·.1) := by
  rw [← aget_some_iff]
  cases aget F k <;> simp
theorem aget_of_mem {F : List (Sg × β)} (hn : (F.map (·.1)).Nodup) {k : Sg} {b : β} (h : (k, b) ∈ F) : aget F k = some b := by
  induction F with
  | nil => cases h
  | cons f r ih =>
    rw [List.map_cons, List.nodup_cons] at hn
    rcases List.mem_cons.mp h with e | h
    · rw [← e]
      exact aget_pos rfl
    · have ne : ¬ f.1 = k := fun e => hn.1 (by rw [e]; exact List.mem_map.mpr ⟨_, h, rfl⟩)
      rw [aget_neg ne]
      exact ih hn.2 h
/-! ### slides -/
theorem slidM_len (s : Sg) (m : Nat × Nat) : (slidM s m).length = s.length := by simp [slidM]
theorem mem_slidesM {ties : List Tie} {s : Sg} {m : Nat × Nat} (h : m ∈ slidesM ties s) : m.1 < s.length ∧ (s.getD m.1 none).isSome = true ∧ m.2 ∈ nearM ties m.1 ∧ s[m.2]? = some none := by
  unfold slidesM at h
  obtain ⟨p, hp, h⟩ := List.mem_flatMap.mp h
  have hp := List.mem_range.mp hp
  by_cases hs : (s.getD p none).isSome = true
  · rw [if_pos hs] at h
    unfold slidesAt holesM at h
    obtain ⟨o, ho, rfl⟩ := List.mem_map.mp h
    obtain ⟨h1, h2⟩ := List.mem_filter.mp ho
    exact ⟨hp, hs, h1, by simpa using h2⟩
  · rw [if_neg hs] at h
    cases h
theorem slides_ok {ties : List Tie} {s : Sg} {m : Nat × Nat} (h : m ∈ slidesM ties s) : m.1 < s.length ∧ m.2 < s.length ∧ m.1 ≠ m.2 := by
  obtain ⟨h1, h2, h3, h4⟩ := mem_slidesM h
  refine ⟨h1, (List.getElem?_eq_some_iff.mp h4).1, fun e => ?_⟩
  rw [← e] at h4
  have h5 : s.getD m.1 none = none := by simp [h4]
  rw [h5] at h2
  cases h2
/-! ### the law's search -/
def lawStep (one : Sg) (F : List (Sg × Word)) (sl : Nat × Nat) : List (Sg × Word) := if (aget F (slidM one sl)).isSome then F else F ++ [(slidM one sl, (aget F one).getD [] ++ [sl])]
def lawProc (ties : List Tie) (F : List (Sg × Word)) (one : Sg) : List (Sg × Word) := (slidesM ties one).foldl (lawStep one) F
def lawW (ties : List Tie) (s : Sg) : Nat → List (Sg × Word)
  | 0 => [(s, [])]
  | t + 1 => match (lawW ties s t)[t]? with
    | some f => lawProc ties (lawW ties s t) f.1
    | none => lawW ties s t
theorem lawStep_grows (one : Sg) (F : List (Sg × Word)) (sl : Nat × Nat) : ∃ G, lawStep one F sl = F ++ G := by
  unfold lawStep
  split
  · exact ⟨[], by simp⟩
  · exact ⟨_, rfl⟩
theorem lawFold_grows (one : Sg) : ∀ (l : List (Nat × Nat)) (F : List (Sg × Word)), ∃ G, l.foldl (lawStep one) F = F ++ G
  | [], F => ⟨[], by simp⟩
  | sl :: r, F => by
    obtain ⟨G, h⟩ := lawStep_grows one F sl
    obtain ⟨G', h'⟩ := lawFold_grows one r (lawStep one F sl)
    exact ⟨G ++ G', by rw [List.foldl_cons, h', h, List.append_assoc]⟩
theorem lawFold_le (one : Sg) (l : List (Nat × Nat)) (F : List (Sg × Word)) (j : Nat) : ((l.take j).foldl (lawStep one) F).length ≤ (l.foldl (lawStep one) F).length := by
  have e : l.foldl (lawStep one) F = (l.drop j).foldl (lawStep one) ((l.take j).foldl (lawStep one) F) := by rw [← List.foldl_append, List.take_append_drop]
  obtain ⟨G, h⟩ := lawFold_grows one (l.drop j) ((l.take j).foldl (lawStep one) F)
  rw [e, h, List.length_append]
  omega
theorem lawStep_keys {one : Sg} {n : Nat} (h1 : one.length = n) {F : List (Sg × Word)} {sl : Nat × Nat} (h : ∀ f ∈ F, f.1.length = n) : ∀ f ∈ lawStep one F sl, f.1.length = n := by
  intro f hf
  unfold lawStep at hf
  split at hf
  · exact h f hf
  · rcases List.mem_append.mp hf with hf | hf
    · exact h f hf
    · simp at hf
      subst hf
      rw [← h1]
      exact slidM_len _ _
theorem lawFold_keys {one : Sg} {n : Nat} (h1 : one.length = n) : ∀ (l : List (Nat × Nat)) {F : List (Sg × Word)}, (∀ f ∈ F, f.1.length = n) → ∀ f ∈ l.foldl (lawStep one) F, f.1.length = n
  | [], _, h => h
  | sl :: r, F, h => lawFold_keys h1 r (lawStep_keys h1 h)
theorem lawW_keys (ties : List Tie) (s : Sg) : ∀ t, ∀ f ∈ lawW ties s t, f.1.length = s.length
  | 0, f, hf => by
    simp [lawW] at hf
    rw [hf]
  | t + 1, f, hf => by
    have ih := lawW_keys ties s t
    unfold lawW at hf
    split at hf
    · rename_i g hg
      exact lawFold_keys (ih g (List.mem_of_getElem? hg)) _ ih f hf
    · exact ih f hf
end L2.K10

/-! plain mathematics: the program's search, layer by layer; the finite check -/
set_option linter.all false
set_option maxRecDepth 100000
namespace L2.K10
/-! ### order of words -/
def pLt (a b : Nat × Nat) : Bool := Nat.blt a.1 b.1 || (Nat.beq a.1 b.1 && Nat.blt a.2 b.2)
def wLt : Word → Word → Bool
  | [], [] => false
  | [], _ :: _ => true
  | _ :: _, [] => false
  | a :: r, b :: t => pLt a b || (Nat.beq a.1 b.1 && Nat.beq a.2 b.2 && wLt r t)
def wAsc : List Word → Bool
  | a :: b :: r => wLt a b && wAsc (b :: r)
  | _ => true
/-! ### one layer: found, one, and the later ones; none if an order asked for fails -/
def pStep (F : List (Sg × Word)) (one : Sg) (L : Option (List (Sg × Word))) (sl : Nat × Nat) : Option (List (Sg × Word)) :=
  match L with
  | none => none
  | some L =>
    match aget F (slidM one sl) with
    | some _ => some L
    | none =>
      match aget F one with
      | none => none
      | some wd =>
        match aget L (slidM one sl) with
        | none => some (L ++ [(slidM one sl, wd ++ [sl])])
        | some x => if wLt x (wd ++ [sl]) then some L else none
def pOne (ties : List Tie) (F : List (Sg × Word)) (L : Option (List (Sg × Word))) (one : Sg) : Option (List (Sg × Word)) := (slidesM ties one).foldl (pStep F one) L
def pLayer (ties : List Tie) (F : List (Sg × Word)) (layer : List Sg) : Option (List (Sg × Word)) := layer.foldl (pOne ties F) (some [])
def pRun (ties : List Tie) : Nat → List (Sg × Word) → List Sg → Option (List (Sg × Word))
  | _, F, [] => some F
  | 0, _, _ => none
  | n + 1, F, layer =>
    match pLayer ties F layer with
    | none => none
    | some L => if wAsc (L.map (·.2)) then pRun ties n (F ++ L) (L.map (·.1)) else none
/-! ### the check -/
def nbOk (ties : List Tie) (W : List (Sg × Word)) (f : Sg × Word) : Bool :=
  (slidesM ties f.1).all fun sl => match aget W (slidM f.1 sl) with
    | none => false
    | some g => Nat.ble g.length (f.2.length + 1)
def chk (ties : List Tie) (s : Sg) : Bool :=
  let W := lawW ties s 24
  Nat.ble W.length 24 && W.all (nbOk ties W) && W.all (fun f => Nat.ble f.2.length 24) && decide (pRun ties 24 [(s, [])] [s] = some W)
def standsOf : Nat → Sg → List Sg
  | 0, _ => [[]]
  | n + 1, left => (List.range left.length).flatMap fun i => (standsOf n (left.eraseIdx i)).map fun r => left.getD i none :: r
def t6 : List Tie := [(0, 1), (0, 2), (0, 3), (1, 2), (1, 3), (2, 3)]
end L2.K10

set_option linter.all false
namespace L2.K10
theorem lawStep_nodup {one : Sg} {F : List (Sg × Word)} {sl : Nat × Nat} (h : (F.map (·.1)).Nodup) : ((lawStep one F sl).map (·.1)).Nodup := by
  unfold lawStep
  split
  · exact h
  · rename_i e
    rw [List.map_append]
    refine List.nodup_append.mpr ⟨h, by simp, fun a ha b hb => ?_⟩
    simp at hb
    subst hb
    intro z
    subst z
    exact e (aget_some_iff.mpr ha)
theorem lawFold_nodup {one : Sg} : ∀ (l : List (Nat × Nat)) {F : List (Sg × Word)}, (F.map (·.1)).Nodup → ((l.foldl (lawStep one) F).map (·.1)).Nodup
  | [], _, h => h
  | _ :: r, _, h => lawFold_nodup r (lawStep_nodup h)
theorem lawW_nodup (ties : List Tie) (s : Sg) : ∀ t, ((lawW ties s t).map (·.1)).Nodup
  | 0 => by simp [lawW]
  | t + 1 => by
    have ih := lawW_nodup ties s t
    unfold lawW
    split
    · exact lawFold_nodup _ ih
    · exact ih
def LOk (ties : List Tie) (s : Sg) : Prop := ∀ t, (lawW ties s t).length ≤ 500 ∧ ∀ f ∈ lawW ties s t, f.2.length ≤ 500
def lensM (F : List (Sg × Word)) : List (Sg × Nat) := F.map fun g => (g.1, g.2.length)
def farM (ties : List Tie) (s : Sg) : List (Sg × List (Sg × Nat)) := (lawW ties s 6000).map fun f => (f.1, lensM (lawW ties f.1 6000))
theorem farM_keys (ties : List Tie) (s : Sg) : (farM ties s).map (·.1) = (lawW ties s 6000).map (·.1) := by simp [farM, List.map_map, Function.comp_def]
theorem lensM_keys (F : List (Sg × Word)) : (lensM F).map (·.1) = F.map (·.1) := by simp [lensM, List.map_map, Function.comp_def]
end L2.K10

/-! plain mathematics: the program's search, its steps -/
set_option linter.all false
namespace L2.K10
theorem pStep_none (F : List (Sg × Word)) (one : Sg) (sl : Nat × Nat) : pStep F one none sl = none := rfl
theorem pFold_none (F : List (Sg × Word)) (one : Sg) : ∀ l : List (Nat × Nat), l.foldl (pStep F one) none = none
  | [] => rfl
  | _ :: l => pFold_none F one l
theorem pOne_none (ties : List Tie) (F : List (Sg × Word)) (one : Sg) : pOne ties F none one = none := pFold_none F one _
theorem pOnes_none (ties : List Tie) (F : List (Sg × Word)) : ∀ l : List Sg, l.foldl (pOne ties F) none = none
  | [] => rfl
  | s :: l => by rw [List.foldl_cons, pOne_none]; exact pOnes_none ties F l
/-- if all is told, so is the beginning -/
theorem fold_pre {α β : Type} {f : Option α → β → Option α} (hn : ∀ l : List β, l.foldl f none = none) {a : Option α} {l : List β} {r : α} (h : l.foldl f a = some r) (i : Nat) : ∃ r', (l.take i).foldl f a = some r' ∧ (l.drop i).foldl f (some r') = some r := by
  have e : l.foldl f a = (l.drop i).foldl f ((l.take i).foldl f a) := by rw [← List.foldl_append, List.take_append_drop]
  rw [e] at h
  cases q : (l.take i).foldl f a with
  | none => rw [q, hn] at h; cases h
  | some r' => rw [q] at h; exact ⟨r', rfl, h⟩
theorem fold_next {α β : Type} {f : Option α → β → Option α} {a : Option α} {l : List β} {i : Nat} {x : β} {r : Option α} (hx : l[i]? = some x) (h : (l.take i).foldl f a = r) : (l.take (i + 1)).foldl f a = f r x := by
  rw [List.take_add_one, hx, List.foldl_append, h]
  rfl
/-- what holds of the later ones -/
structure LInv (F L : List (Sg × Word)) : Prop where
  nd : (L.map (·.1)).Nodup
  new : ∀ f ∈ L, aget F f.1 = none
  ne : ∀ f ∈ L, f.2 ≠ []
theorem LInv.nil (F : List (Sg × Word)) : LInv F [] := ⟨List.nodup_nil, (fun _ h => by cases h), fun _ h => by cases h⟩
theorem pStep_cases {F : List (Sg × Word)} {one : Sg} {L L' : List (Sg × Word)} {sl : Nat × Nat} (h : pStep F one (some L) sl = some L') :
    (∃ x, aget F (slidM one sl) = some x ∧ L' = L) ∨ (aget F (slidM one sl) = none ∧ ∃ wd, aget F one = some wd ∧ ((aget L (slidM one sl) = none ∧ L' = L ++ [(slidM one sl, wd ++ [sl])]) ∨ ∃ x, aget L (slidM one sl) = some x ∧ wLt x (wd ++ [sl]) = true ∧ L' = L)) := by
  unfold pStep at h
  dsimp only at h
  split at h
  · rename_i x hx
    exact .inl ⟨x, hx, (Option.some.inj h).symm⟩
  · rename_i hx
    refine .inr ⟨hx, ?_⟩
    split at h
    · cases h
    · rename_i wd hwd
      refine ⟨wd, hwd, ?_⟩
      split at h
      · rename_i hL
        exact .inl ⟨hL, (Option.some.inj h).symm⟩
      · rename_i x hL
        split at h
        · rename_i hw
          exact .inr ⟨x, hL, hw, (Option.some.inj h).symm⟩
        · cases h
theorem LInv.step {F : List (Sg × Word)} {one : Sg} {L L' : List (Sg × Word)} {sl : Nat × Nat} (I : LInv F L) (h : pStep F one (some L) sl = some L') : LInv F L' := by
  rcases pStep_cases h with ⟨_, _, rfl⟩ | ⟨hF, wd, _, ⟨hL, rfl⟩ | ⟨_, _, _, rfl⟩⟩
  · exact I
  · refine ⟨?_, fun f hf => ?_, fun f hf => ?_⟩
    · rw [List.map_append]
      refine List.nodup_append.mpr ⟨I.nd, by simp, fun a ha b hb => ?_⟩
      simp at hb
      subst hb
      intro z
      subst z
      exact aget_none_iff.mp hL ha
    · rcases List.mem_append.mp hf with hf | hf
      · exact I.new f hf
      · simp at hf
        subst hf
        exact hF
    · rcases List.mem_append.mp hf with hf | hf
      · exact I.ne f hf
      · simp at hf
        subst hf
        simp
  · exact I
theorem LInv.fold {F : List (Sg × Word)} {one : Sg} : ∀ (l : List (Nat × Nat)) {L L' : List (Sg × Word)}, LInv F L → l.foldl (pStep F one) (some L) = some L' → LInv F L'
  | [], L, L', I, h => by cases h; exact I
  | sl :: l, L, L', I, h => by
    rw [List.foldl_cons] at h
    cases q : pStep F one (some L) sl with
    | none => rw [q, pFold_none] at h; cases h
    | some L1 => rw [q] at h; exact LInv.fold l (I.step q) h
theorem LInv.ones {ties : List Tie} {F : List (Sg × Word)} : ∀ (l : List Sg) {L L' : List (Sg × Word)}, LInv F L → l.foldl (pOne ties F) (some L) = some L' → LInv F L'
  | [], L, L', I, h => by cases h; exact I
  | s :: l, L, L', I, h => by
    rw [List.foldl_cons] at h
    cases q : pOne ties F (some L) s with
    | none => rw [q, pOnes_none] at h; cases h
    | some L1 => rw [q] at h; exact LInv.ones l (LInv.fold _ I q) h
theorem pStep_grows {F : List (Sg × Word)} {one : Sg} {L L' : List (Sg × Word)} {sl : Nat × Nat} (h : pStep F one (some L) sl = some L') : ∃ G, L' = L ++ G := by
  rcases pStep_cases h with ⟨_, _, rfl⟩ | ⟨_, wd, _, ⟨_, rfl⟩ | ⟨_, _, _, rfl⟩⟩
  · exact ⟨[], by simp⟩
  · exact ⟨_, rfl⟩
  · exact ⟨[], by simp⟩
theorem pFold_grows {F : List (Sg × Word)} {one : Sg} : ∀ (l : List (Nat × Nat)) {L L' : List (Sg × Word)}, l.foldl (pStep F one) (some L) = some L' → ∃ G, L' = L ++ G
  | [], L, L', h => by cases h; exact ⟨[], by simp⟩
  | sl :: l, L, L', h => by
    rw [List.foldl_cons] at h
    cases q : pStep F one (some L) sl with
    | none => rw [q, pFold_none] at h; cases h
    | some L1 =>
      rw [q] at h
      obtain ⟨G, rfl⟩ := pStep_grows q
      obtain ⟨G2, rfl⟩ := pFold_grows l h
      exact ⟨G ++ G2, by rw [List.append_assoc]⟩
theorem pOnes_grows {ties : List Tie} {F : List (Sg × Word)} : ∀ (l : List Sg) {L L' : List (Sg × Word)}, l.foldl (pOne ties F) (some L) = some L' → ∃ G, L' = L ++ G
  | [], L, L', h => by cases h; exact ⟨[], by simp⟩
  | s :: l, L, L', h => by
    rw [List.foldl_cons] at h
    cases q : pOne ties F (some L) s with
    | none => rw [q, pOnes_none] at h; cases h
    | some L1 =>
      rw [q] at h
      obtain ⟨G, rfl⟩ := pFold_grows _ q
      obtain ⟨G2, rfl⟩ := pOnes_grows l h
      exact ⟨G ++ G2, by rw [List.append_assoc]⟩
/-! ### the order of words -/
theorem pLt_iff {a b : Nat × Nat} : pLt a b = true ↔ a.1 < b.1 ∨ a.1 = b.1 ∧ a.2 < b.2 := by
  unfold pLt
  simp
theorem wLt_cons {a b : Nat × Nat} {l m : Word} : wLt (a :: l) (b :: m) = true ↔ pLt a b = true ∨ a = b ∧ wLt l m = true := by
  show (pLt a b || (Nat.beq a.1 b.1 && Nat.beq a.2 b.2 && wLt l m)) = true ↔ _
  simp [Prod.ext_iff, and_assoc]
theorem wLt_asym : ∀ {l m : Word}, wLt l m = true → wLt m l = false
  | [], [], h => by cases h
  | [], _ :: _, _ => rfl
  | _ :: _, [], h => by cases h
  | a :: l, b :: m, h => by
    cases q : wLt (b :: m) (a :: l) with
    | false => rfl
    | true =>
      exfalso
      rcases wLt_cons.mp h with h1 | ⟨rfl, h1⟩
      · rcases wLt_cons.mp q with q1 | ⟨rfl, q1⟩
        · rw [pLt_iff] at h1 q1; omega
        · rw [pLt_iff] at h1; omega
      · rcases wLt_cons.mp q with q1 | ⟨_, q1⟩
        · rw [pLt_iff] at q1; omega
        · rw [wLt_asym h1] at q1; cases q1
theorem wLt_trans : ∀ {l m n : Word}, wLt l m = true → wLt m n = true → wLt l n = true
  | [], [], _, h, _ => by cases h
  | [], _ :: _, [], _, h => by cases h
  | [], _ :: _, _ :: _, _, _ => rfl
  | _ :: _, [], _, h, _ => by cases h
  | _ :: _, _ :: _, [], _, h => by cases h
  | a :: l, b :: m, c :: n, h, g => by
    rw [wLt_cons] at h g ⊢
    rcases h with h | ⟨rfl, h⟩
    · rcases g with g | ⟨rfl, g⟩
      · left
        rw [pLt_iff] at h g ⊢
        omega
      · exact .inl h
    · rcases g with g | ⟨rfl, g⟩
      · exact .inl g
      · exact .inr ⟨rfl, wLt_trans h g⟩
theorem wLt_irr (l : Word) : wLt l l = false := by
  cases q : wLt l l with
  | false => rfl
  | true => have := wLt_asym q; rw [q] at this; cases this
theorem wAsc_pw : ∀ {l : List Word}, wAsc l = true → l.Pairwise fun a b => wLt a b = true
  | [], _ => .nil
  | [a], _ => List.pairwise_singleton _ _
  | a :: b :: l, h => by
    unfold wAsc at h
    rw [Bool.and_eq_true] at h
    have ih := wAsc_pw (l := b :: l) h.2
    refine List.pairwise_cons.mpr ⟨fun c hc => ?_, ih⟩
    rcases List.mem_cons.mp hc with rfl | hc
    · exact h.1
    · exact wLt_trans h.1 ((List.pairwise_cons.mp ih).1 c hc)
/-! ### the run -/
theorem pRun_cons {ties : List Tie} {n : Nat} {F R : List (Sg × Word)} {layer : List Sg} (hl : layer ≠ []) (h : pRun ties n F layer = some R) :
    ∃ n' L, n = n' + 1 ∧ pLayer ties F layer = some L ∧ wAsc (L.map (·.2)) = true ∧ pRun ties n' (F ++ L) (L.map (·.1)) = some R := by
  cases layer with
  | nil => exact absurd rfl hl
  | cons x l =>
    cases n with
    | zero => simp [pRun] at h
    | succ n =>
      unfold pRun at h
      split at h
      · cases h
      · rename_i L hL
        split at h
        · rename_i ha
          exact ⟨n, L, rfl, hL, ha, h⟩
        · cases h
theorem pRun_nil {ties : List Tie} {n : Nat} {F R : List (Sg × Word)} (h : pRun ties n F [] = some R) : R = F := by
  unfold pRun at h
  exact (Option.some.inj h).symm
theorem pRun_grows {ties : List Tie} : ∀ {n : Nat} {F R : List (Sg × Word)} {layer : List Sg}, pRun ties n F layer = some R → ∃ G, R = F ++ G
  | n, F, R, [], h => ⟨[], by rw [pRun_nil h, List.append_nil]⟩
  | 0, F, R, _ :: _, h => by simp [pRun] at h
  | n + 1, F, R, x :: l, h => by
    obtain ⟨n', L, e, h1, h2, h3⟩ := pRun_cons (by simp) h
    obtain rfl : n' = n := by omega
    obtain ⟨G, hG⟩ := pRun_grows h3
    exact ⟨L ++ G, by rw [hG, List.append_assoc]⟩
end L2.K10

/-! plain mathematics: costs_after's mirror -/
set_option linter.all false
namespace L2.K10
abbrev Lays := List (Nat × List Sg)
def lHas (L : Lays) (c : Nat) : Bool := L.any fun e => e.1 == c
def lGet (L : Lays) (c : Nat) : List Sg := ((L.find? fun e => e.1 == c).map (·.2)).getD []
def lSet (L : Lays) (c : Nat) : Lays := if lHas L c then L else L ++ [(c, [])]
def lAdd (L : Lays) (c : Nat) (xs : List Sg) : Lays := L.map fun e => if e.1 = c then (e.1, e.2 ++ xs) else e
def lApp (L : Lays) (c : Nat) (xs : List Sg) : Lays := lAdd (lSet L c) c xs
def lDrop (L : Lays) (c : Nat) : Lays := L.filter fun e => decide (e.1 ≠ c)
def cPut (ties : List Tie) (c : Nat) (st : List (Sg × Nat) × Lays) (s : Sg) : List (Sg × Nat) × Lays :=
  match aget st.1 s with
  | some _ => st
  | none => (st.1 ++ [(s, c)], lApp st.2 (c + 1) ((slidesM ties s).map fun sl => slidM s sl))
def cLot (ties : List Tie) (c : Nat) (F : List (Sg × Nat)) (L : Lays) : List (Sg × Nat) × Lays := (lGet L c).foldl (cPut ties c) (F, lDrop L c)
def cKeep (F : List (Sg × Nat)) (L : Lays) : Lays := L.filter fun e => e.2.any fun s => !(aget F s).isSome
def cRun (ties : List Tie) : Nat → List (Sg × Nat) → Lays → Nat → Option (List (Sg × Nat))
  | _, F, [], _ => some F
  | 0, _, _, _ => none
  | n + 1, F, L, c => cRun ties n (cLot ties c F L).1 (cKeep (cLot ties c F L).1 (cLot ties c F L).2) (c + 1)
def cStart (costs : List (Sg × Nat)) : Lays := costs.foldl (fun L f => lApp L f.2 [f.1]) []
theorem cRun_nil {ties : List Tie} {m : Nat} {F R : List (Sg × Nat)} {c : Nat} (h : cRun ties m F [] c = some R) : R = F := by
  cases m <;> exact (Option.some.inj h).symm
theorem cRun_cons {ties : List Tie} {m : Nat} {F R : List (Sg × Nat)} {L : Lays} {c : Nat} (hL : L ≠ []) (h : cRun ties m F L c = some R) :
    ∃ m', m = m' + 1 ∧ cRun ties m' (cLot ties c F L).1 (cKeep (cLot ties c F L).1 (cLot ties c F L).2) (c + 1) = some R := by
  cases L with
  | nil => exact absurd rfl hL
  | cons e r =>
    cases m with
    | zero => cases h
    | succ m => exact ⟨m, rfl, h⟩
/-! ### sizes -/
def lSum (L : Lays) : Nat := (L.map fun e => e.2.length).sum
theorem lHas_iff {L : Lays} {c : Nat} : lHas L c = true ↔ c ∈ L.map (·.1) := by
  unfold lHas
  rw [List.any_eq_true, List.mem_map]
  exact ⟨fun ⟨e, h1, h2⟩ => ⟨e, h1, by simpa using h2⟩, fun ⟨e, h1, h2⟩ => ⟨e, h1, by simpa using h2⟩⟩
theorem lSet_keys (L : Lays) (c : Nat) (h : (L.map (·.1)).Nodup) : ((lSet L c).map (·.1)).Nodup := by
  unfold lSet
  split
  · exact h
  · rename_i hh
    rw [List.map_append, List.nodup_append]
    refine ⟨h, by simp, fun a ha b hb => ?_⟩
    simp at hb
    subst hb
    intro e
    subst e
    exact hh (lHas_iff.mpr ha)
theorem lAdd_map (L : Lays) (c : Nat) (xs : List Sg) : (lAdd L c xs).map (·.1) = L.map (·.1) := by
  unfold lAdd
  rw [List.map_map]
  refine List.map_congr_left fun e _ => ?_
  show (if e.1 = c then (e.1, e.2 ++ xs) else e).1 = e.1
  split <;> rfl
theorem lApp_keys (L : Lays) (c : Nat) (xs : List Sg) (h : (L.map (·.1)).Nodup) : ((lApp L c xs).map (·.1)).Nodup := by
  unfold lApp
  rw [lAdd_map]
  exact lSet_keys L c h
theorem sub_keys {p : Nat × List Sg → Bool} {L : Lays} (h : (L.map (·.1)).Nodup) : ((L.filter p).map (·.1)).Nodup := h.sublist ((List.filter_sublist).map _)
theorem lAdd_sum (xs : List Sg) (c : Nat) : ∀ (L : Lays), (L.map (·.1)).Nodup → lSum (lAdd L c xs) ≤ lSum L + xs.length
  | [], _ => by simp [lAdd, lSum]
  | e :: r, h => by
    rw [List.map_cons, List.nodup_cons] at h
    by_cases hc : e.1 = c
    · have : lAdd r c xs = r := by
        unfold lAdd
        refine (List.map_congr_left (g := id) fun x hx => ?_).trans (List.map_id _)
        rw [if_neg fun z => h.1 (by rw [hc, ← z]; exact List.mem_map.mpr ⟨x, hx, rfl⟩)]
        rfl
      show lSum ((if e.1 = c then (e.1, e.2 ++ xs) else e) :: lAdd r c xs) ≤ _
      rw [if_pos hc, this]
      simp [lSum]
      omega
    · show lSum ((if e.1 = c then (e.1, e.2 ++ xs) else e) :: lAdd r c xs) ≤ _
      rw [if_neg hc]
      have := lAdd_sum xs c r h.2
      simp [lSum] at this ⊢
      omega
theorem lSet_sum (L : Lays) (c : Nat) : lSum (lSet L c) = lSum L := by
  unfold lSet
  split
  · rfl
  · simp [lSum]
theorem lApp_sum (L : Lays) (c : Nat) (xs : List Sg) (h : (L.map (·.1)).Nodup) : lSum (lApp L c xs) ≤ lSum L + xs.length := by
  have := lAdd_sum xs c _ (lSet_keys L c h)
  rw [lSet_sum] at this
  exact this
theorem lApp_len (L : Lays) (c : Nat) (xs : List Sg) : (lApp L c xs).length ≤ L.length + 1 := by
  unfold lApp lAdd lSet
  rw [List.length_map]
  split <;> simp
theorem filter_sum (p : Nat × List Sg → Bool) : ∀ L : Lays, lSum (L.filter p) ≤ lSum L
  | [] => Nat.le_refl _
  | e :: r => by
    have ih := filter_sum p r
    rw [List.filter_cons]
    split <;> simp [lSum] at ih ⊢ <;> omega
theorem mem_sum {L : Lays} {e : Nat × List Sg} (h : e ∈ L) : e.2.length ≤ lSum L := by
  unfold lSum
  induction L with
  | nil => cases h
  | cons x r ih =>
    rw [List.map_cons, List.sum_cons]
    rcases List.mem_cons.mp h with rfl | h
    · omega
    · have := ih h; omega
/-- the invariant of sizes -/
structure CSz (B : Nat) (F : List (Sg × Nat)) (L : Lays) : Prop where
  nd : (L.map (·.1)).Nodup
  len : L.length ≤ B + F.length
  sum : lSum L ≤ B + 60 * F.length
theorem CSz.filter {B : Nat} {F : List (Sg × Nat)} {L : Lays} (h : CSz B F L) (p : Nat × List Sg → Bool) : CSz B F (L.filter p) :=
  ⟨sub_keys h.nd, Nat.le_trans (List.length_filter_le _ _) h.len, Nat.le_trans (filter_sum p L) h.sum⟩
theorem CSz.put {ties : List Tie} {c B : Nat} {F : List (Sg × Nat)} {L : Lays} {s : Sg} (h : CSz B F L) (hs : (slidesM ties s).length ≤ 60) : CSz B (cPut ties c (F, L) s).1 (cPut ties c (F, L) s).2 := by
  unfold cPut
  dsimp only
  split
  · exact h
  · have h1 := lApp_len L (c + 1) ((slidesM ties s).map fun sl => slidM s sl)
    have h2 := lApp_sum L (c + 1) ((slidesM ties s).map fun sl => slidM s sl) h.nd
    rw [List.length_map] at h2
    have a := h.len
    have b := h.sum
    refine ⟨lApp_keys _ _ _ h.nd, ?_, ?_⟩ <;> simp only [List.length_append, List.length_cons, List.length_nil] <;> omega
theorem CSz.start {costs : List (Sg × Nat)} : ∀ i, CSz i [] ((costs.take i).foldl (fun L f => lApp L f.2 [f.1]) [])
  | 0 => ⟨.nil, Nat.le_refl _, Nat.le_refl _⟩
  | i + 1 => by
    have ih := CSz.start (costs := costs) i
    rw [List.take_add_one, List.foldl_append]
    cases e : costs[i]? with
    | none => exact ⟨ih.nd, by have := ih.len; simp at this ⊢; omega, by have := ih.sum; simp at this ⊢; omega⟩
    | some f =>
      simp only [Option.toList, List.foldl_cons, List.foldl_nil]
      have h1 := lApp_len ((costs.take i).foldl (fun L f => lApp L f.2 [f.1]) []) f.2 [f.1]
      have h2 := lApp_sum ((costs.take i).foldl (fun L f => lApp L f.2 [f.1]) []) f.2 [f.1] ih.nd
      have a := ih.len
      have b := ih.sum
      refine ⟨lApp_keys _ _ _ ih.nd, ?_, ?_⟩ <;> simp only [List.length_cons, List.length_nil] at * <;> omega
/-! ### found only grows -/
theorem cPut_grows (ties : List Tie) (c : Nat) (st : List (Sg × Nat) × Lays) (s : Sg) : ∃ G, (cPut ties c st s).1 = st.1 ++ G := by
  unfold cPut
  split
  · exact ⟨[], by simp⟩
  · exact ⟨_, rfl⟩
theorem cFold_grows (ties : List Tie) (c : Nat) : ∀ (l : List Sg) (st : List (Sg × Nat) × Lays), ∃ G, (l.foldl (cPut ties c) st).1 = st.1 ++ G
  | [], st => ⟨[], by simp⟩
  | s :: r, st => by
    obtain ⟨G, h⟩ := cPut_grows ties c st s
    obtain ⟨G2, h2⟩ := cFold_grows ties c r (cPut ties c st s)
    exact ⟨G ++ G2, by rw [List.foldl_cons, h2, h, List.append_assoc]⟩
theorem cRun_grows {ties : List Tie} : ∀ {m : Nat} {F R : List (Sg × Nat)} {L : Lays} {c : Nat}, cRun ties m F L c = some R → ∃ G, R = F ++ G
  | m, F, R, [], c, h => ⟨[], by rw [cRun_nil h]; simp⟩
  | 0, F, R, e :: r, c, h => by cases h
  | m + 1, F, R, e :: r, c, h => by
    obtain ⟨m', rfl', h'⟩ := cRun_cons (by simp) h
    cases rfl'
    obtain ⟨G, hG⟩ := cRun_grows h'
    obtain ⟨G2, hG2⟩ := cFold_grows ties c (lGet (e :: r) c) (F, lDrop (e :: r) c)
    exact ⟨G2 ++ G, by rw [hG, cLot, hG2, List.append_assoc]⟩
end L2.K10

/-! plain mathematics: fewest_slides' mirror -/
set_option linter.all false
namespace L2.K10
def cOk (n : Nat) (ties : List Tie) (W : List (Sg × Nat)) : Bool := Nat.ble W.length 500 && W.all fun f => Nat.beq f.1.length n && Nat.ble (slidesM ties f.1).length 60
/-- costs_after, its bounds looked at -/
def cAft (n : Nat) (ties : List Tie) (k : Nat) (C : List (Sg × Nat)) : Option (List (Sg × Nat)) :=
  match cRun ties k [] (cStart C) 0 with
  | none => none
  | some W => if cOk n ties W = true then some W else none
def atG (g b : Nat) (f : Sg × Nat) : Bool := decide (f.1.getD g none = some b)
/-- none: not told; some none: no way -/
def fewM (n : Nat) (ties : List Tie) (k g : Nat) : List Nat → List (Sg × Nat) → Option (Option (List (Sg × Nat)))
  | [], C => some (some C)
  | b :: r, C =>
    match cAft n ties k C with
    | none => none
    | some W => match W.filter (atG g b) with
      | [] => some none
      | f :: t => fewM n ties k g r (f :: t)
theorem cAft_some {n : Nat} {ties : List Tie} {k : Nat} {C W : List (Sg × Nat)} (h : cAft n ties k C = some W) : cRun ties k [] (cStart C) 0 = some W ∧ W.length ≤ 500 ∧ ∀ f ∈ W, f.1.length = n ∧ (slidesM ties f.1).length ≤ 60 := by
  unfold cAft at h
  split at h
  · cases h
  · rename_i W' hW
    split at h
    · rename_i ho
      obtain rfl := Option.some.inj h
      unfold cOk at ho
      rw [Bool.and_eq_true, List.all_eq_true] at ho
      refine ⟨hW, Nat.le_of_ble_eq_true ho.1, fun f hf => ?_⟩
      have := ho.2 f hf
      rw [Bool.and_eq_true] at this
      exact ⟨Nat.eq_of_beq_eq_true this.1, Nat.le_of_ble_eq_true this.2⟩
    · cases h
theorem fewM_cons {n : Nat} {ties : List Tie} {k g b : Nat} {r : List Nat} {C : List (Sg × Nat)} {res : Option (List (Sg × Nat))} (h : fewM n ties k g (b :: r) C = some res) :
    ∃ W, cAft n ties k C = some W ∧ ((W.filter (atG g b) = [] ∧ res = none) ∨ (W.filter (atG g b) ≠ [] ∧ fewM n ties k g r (W.filter (atG g b)) = some res)) := by
  unfold fewM at h
  split at h
  · cases h
  · rename_i W hW
    refine ⟨W, hW, ?_⟩
    split at h
    · rename_i e
      exact .inl ⟨e, (Option.some.inj h).symm⟩
    · rename_i f t e
      refine .inr ⟨by rw [e]; simp, ?_⟩
      rw [e]
      exact h
end L2.K10
namespace L2.K10
theorem aget_none_not {β : Type} {F : List (Sg × β)} {k : Sg} (h : aget F k = none) : k ∉ F.map (·.1) := by
  intro hm
  obtain ⟨f, hf, e⟩ := List.mem_map.mp hm
  induction F with
  | nil => cases hf
  | cons x r ih =>
    by_cases hx : x.1 = k
    · rw [aget_pos hx] at h
      cases h
    · rw [aget_neg hx] at h
      rcases List.mem_cons.mp hf with rfl | hf
      · exact hx e
      · exact ih h (List.mem_map.mpr ⟨f, hf, e⟩) hf
theorem cPut_nd {ties : List Tie} {c : Nat} {st : List (Sg × Nat) × Lays} {s : Sg} (h : (st.1.map (·.1)).Nodup) : ((cPut ties c st s).1.map (·.1)).Nodup := by
  unfold cPut
  split
  · exact h
  · rename_i hn
    rw [List.map_append, List.nodup_append]
    refine ⟨h, by simp, fun a ha b hb => ?_⟩
    simp at hb
    subst hb
    exact fun e => aget_none_not hn (e ▸ ha)
theorem cFold_nd {ties : List Tie} {c : Nat} : ∀ (l : List Sg) {st : List (Sg × Nat) × Lays}, (st.1.map (·.1)).Nodup → ((l.foldl (cPut ties c) st).1.map (·.1)).Nodup
  | [], _, h => h
  | s :: r, _, h => cFold_nd r (cPut_nd h)
theorem cRun_nd {ties : List Tie} : ∀ {m : Nat} {F R : List (Sg × Nat)} {L : Lays} {c : Nat}, cRun ties m F L c = some R → (F.map (·.1)).Nodup → (R.map (·.1)).Nodup
  | m, F, R, [], c, h, hn => by rw [cRun_nil h]; exact hn
  | 0, F, R, e :: r, c, h, _ => by cases h
  | m + 1, F, R, e :: r, c, h, hn => by
    obtain ⟨m', rfl', h'⟩ := cRun_cons (by simp) h
    cases rfl'
    exact cRun_nd h' (cFold_nd _ hn)
end L2.K10

/-! plain mathematics: farthest_ask's mirror -/
set_option linter.all false
namespace L2.K10
def kGet (F : List (Nat × Nat)) (b : Nat) : Option Nat := (F.find? fun e => decide (e.1 = b)).map (·.2)
def kPut (F : List (Nat × Nat)) (b n : Nat) : List (Nat × Nat) := if (F.any fun e => decide (e.1 = b)) = true then F.map (fun e => if e.1 = b then (e.1, n) else e) else F ++ [(b, n)]
def farStep (g : Nat) (F : List (Nat × Nat)) (f : Sg × Word) : List (Nat × Nat) :=
  match f.1.getD g none with
  | none => F
  | some b => kPut F b (min ((kGet F b).getD f.2.length) f.2.length)
def farF (g : Nat) (R : List (Sg × Word)) : List (Nat × Nat) := R.foldl (farStep g) []
theorem kPut_len (F : List (Nat × Nat)) (b n : Nat) : (kPut F b n).length ≤ F.length + 1 := by
  unfold kPut
  split <;> simp
theorem farStep_len (g : Nat) (F : List (Nat × Nat)) (f : Sg × Word) : (farStep g F f).length ≤ F.length + 1 := by
  unfold farStep
  split
  · omega
  · exact kPut_len _ _ _
theorem farF_len (g : Nat) (R : List (Sg × Word)) : ∀ i, ((R.take i).foldl (farStep g) []).length ≤ i
  | 0 => by simp
  | i + 1 => by
    have ih := farF_len g R i
    rw [List.take_add_one, List.foldl_append]
    cases R[i]? with
    | none => simp; omega
    | some f =>
      simp only [Option.toList, List.foldl_cons, List.foldl_nil]
      have := farStep_len g ((R.take i).foldl (farStep g) []) f
      omega
end L2.K10

/-! plain mathematics: nearest_slides' mirror -/
set_option linter.all false
namespace L2.K10
def nwLt (a b : Nat × Word) : Bool := decide (a.1 < b.1) || (decide (a.1 = b.1) && wLt a.2 b.2)
def minNW (x : Nat × Word) (xs : List (Nat × Word)) : Nat × Word := xs.foldl (fun a y => if nwLt y a = true then y else a) x
def wayAt (g b : Nat) (f : Sg × Word) : Bool := decide (f.1.getD g none = some b)
def wOk (n : Nat) (R : List (Sg × Word)) : Bool := Nat.ble R.length 500 && R.all fun f => Nat.beq f.1.length n && Nat.ble f.2.length 500
/-- words_from, its bounds looked at -/
def wFrom (n : Nat) (ties : List Tie) (k : Nat) (s : Sg) : Option (List (Sg × Word)) :=
  match pRun ties k [(s, [])] [s] with
  | none => none
  | some R => if wOk n R = true then some R else none
/-- none: not told; some none: no way -/
def nearR' (n : Nat) (ties : List Tie) (k g : Nat) : List Nat → Sg → Nat → Option (Option Nat)
  | [], _, t => some (some t)
  | b :: r, s, t =>
    match wFrom n ties k s with
    | none => none
    | some R =>
      match (R.filter (wayAt g b)).map (fun f => (f.2.length, f.2)) with
      | [] => some none
      | x :: xs => match R.filter (fun f => decide (f.2 = (minNW x xs).2)) with
        | [] => none
        | f :: _ => nearR' n ties k g r f.1 (t + (minNW x xs).1)
end L2.K10
namespace L2.K10
theorem wFrom_some {n : Nat} {ties : List Tie} {k : Nat} {s : Sg} {R : List (Sg × Word)} (h : wFrom n ties k s = some R) : pRun ties k [(s, [])] [s] = some R ∧ R.length ≤ 500 ∧ ∀ f ∈ R, f.1.length = n ∧ f.2.length ≤ 500 := by
  unfold wFrom at h
  split at h
  · cases h
  · rename_i R' hR
    split at h
    · rename_i ho
      obtain rfl := Option.some.inj h
      unfold wOk at ho
      rw [Bool.and_eq_true, List.all_eq_true] at ho
      refine ⟨hR, Nat.le_of_ble_eq_true ho.1, fun f hf => ?_⟩
      have := ho.2 f hf
      rw [Bool.and_eq_true] at this
      exact ⟨Nat.eq_of_beq_eq_true this.1, Nat.le_of_ble_eq_true this.2⟩
    · cases h
theorem nearR_cons {n : Nat} {ties : List Tie} {k g b : Nat} {r : List Nat} {s : Sg} {t : Nat} {res : Option Nat} (h : nearR' n ties k g (b :: r) s t = some res) :
    ∃ R, wFrom n ties k s = some R ∧ ((R.filter (wayAt g b) = [] ∧ res = none) ∨ ∃ x xs f fs, (R.filter (wayAt g b)).map (fun f => (f.2.length, f.2)) = x :: xs ∧ R.filter (fun f => decide (f.2 = (minNW x xs).2)) = f :: fs ∧ nearR' n ties k g r f.1 (t + (minNW x xs).1) = some res) := by
  unfold nearR' at h
  split at h
  · cases h
  · rename_i R hR
    refine ⟨R, hR, ?_⟩
    split at h
    · rename_i e
      exact .inl ⟨List.map_eq_nil_iff.mp e, (Option.some.inj h).symm⟩
    · rename_i x xs e
      split at h
      · cases h
      · rename_i f fs e2
        exact .inr ⟨x, xs, f, fs, e, e2, h⟩
end L2.K10

/-! plain mathematics: slides stand ascending -/
set_option linter.all false
namespace L2.K10
/-- ties as they are drawn -/
structure TiG (n : Nat) (ties : List Tie) : Prop where
  lt : ∀ t ∈ ties, t.1 < t.2 ∧ t.2 < n
  nd : ties.Nodup
theorem TiG.ok {n : Nat} {ties : List Tie} (h : TiG n ties) : TiesOk n ties := fun t ht => ⟨Nat.lt_trans (h.lt t ht).1 (h.lt t ht).2, (h.lt t ht).2⟩
theorem near_nodup {n : Nat} {ties : List Tie} (h : TiG n ties) (p : Nat) : (nearM ties p).Nodup := by
  unfold nearM
  refine (isrt_perm _).nodup_iff.mpr (List.nodup_append.mpr ⟨?_, ?_, ?_⟩)
  · unfold nearL
    refine List.pairwise_map.mpr ((h.nd.sublist List.filter_sublist).imp_of_mem fun {a b} ha hb z e => z ?_)
    have h1 := (List.mem_filter.mp ha).2
    have h2 := (List.mem_filter.mp hb).2
    exact Prod.ext e (by simp at h1 h2; rw [h1, h2])
  · unfold nearR
    refine List.pairwise_map.mpr ((h.nd.sublist List.filter_sublist).imp_of_mem fun {a b} ha hb z e => z ?_)
    have h1 := (List.mem_filter.mp ha).2
    have h2 := (List.mem_filter.mp hb).2
    exact Prod.ext (by simp at h1 h2; rw [h1, h2]) e
  · intro a ha b hb e
    unfold nearL at ha
    unfold nearR at hb
    obtain ⟨t, ht, rfl⟩ := List.mem_map.mp ha
    obtain ⟨u, hu, rfl⟩ := List.mem_map.mp hb
    obtain ⟨h1, h2⟩ := List.mem_filter.mp ht
    obtain ⟨h3, h4⟩ := List.mem_filter.mp hu
    have h5 := h.lt t h1
    have h6 := h.lt u h3
    simp at h2 h4
    omega
theorem near_asc {n : Nat} {ties : List Tie} (h : TiG n ties) (p : Nat) : (nearM ties p).Pairwise (· < ·) := by
  have h1 : (nearM ties p).Pairwise (· ≤ ·) := isrt_sorted _
  exact (h1.and (near_nodup h p)).imp fun ⟨a, b⟩ => Nat.lt_of_le_of_ne a b
theorem slidesAt_asc {n : Nat} {ties : List Tie} (h : TiG n ties) (s : Sg) (p : Nat) : (slidesAt ties s p).Pairwise fun a b => pLt a b = true := by
  unfold slidesAt holesM
  refine List.pairwise_map.mpr (((near_asc h p).sublist List.filter_sublist).imp fun {a b} z => ?_)
  exact pLt_iff.mpr (.inr ⟨rfl, z⟩)
theorem mem_slidesAt {ties : List Tie} {s : Sg} {p : Nat} {m : Nat × Nat} (h : m ∈ slidesAt ties s p) : m.1 = p := by
  unfold slidesAt at h
  obtain ⟨o, _, rfl⟩ := List.mem_map.mp h
  rfl
theorem mem_slidesTo {ties : List Tie} {s : Sg} {m : Nat × Nat} : ∀ {i : Nat}, m ∈ slidesTo ties s i → m.1 < i
  | 0, h => by simp [slidesTo] at h
  | i + 1, h => by
    rw [slidesTo_succ] at h
    rcases List.mem_append.mp h with h | h
    · have := mem_slidesTo h; omega
    · split at h
      · have := mem_slidesAt h; omega
      · cases h
theorem slidesTo_asc {n : Nat} {ties : List Tie} (h : TiG n ties) (s : Sg) : ∀ i, (slidesTo ties s i).Pairwise fun a b => pLt a b = true
  | 0 => by simp [slidesTo]
  | i + 1 => by
    rw [slidesTo_succ]
    refine List.pairwise_append.mpr ⟨slidesTo_asc h s i, ?_, fun a ha b hb => ?_⟩
    · split
      · exact slidesAt_asc h s i
      · exact .nil
    · split at hb
      · exact pLt_iff.mpr (.inl (by rw [mem_slidesAt hb]; exact mem_slidesTo ha))
      · cases hb
theorem slides_asc {n : Nat} {ties : List Tie} (h : TiG n ties) (s : Sg) : (slidesM ties s).Pairwise fun a b => pLt a b = true := slidesTo_asc h s s.length
/-! ### words one longer -/
theorem wLt_snoc_same : ∀ (l : Word) {a b : Nat × Nat}, pLt a b = true → wLt (l ++ [a]) (l ++ [b]) = true
  | [], _, _, h => wLt_cons.mpr (.inl h)
  | _ :: l, _, _, h => wLt_cons.mpr (.inr ⟨rfl, wLt_snoc_same l h⟩)
theorem wLt_snoc : ∀ {l m : Word} (a b : Nat × Nat), l.length = m.length → wLt l m = true → wLt (l ++ [a]) (m ++ [b]) = true
  | [], [], _, _, _, h => by cases h
  | [], _ :: _, _, _, e, _ => by cases e
  | _ :: _, [], _, _, e, _ => by cases e
  | c :: l, d :: m, a, b, e, h => by
    rw [wLt_cons] at h
    show wLt (c :: (l ++ [a])) (d :: (m ++ [b])) = true
    rw [wLt_cons]
    rcases h with h | ⟨rfl, h⟩
    · exact .inl h
    · exact .inr ⟨rfl, wLt_snoc a b (by simpa using e) h⟩
theorem wAsc_of : ∀ {l : List Word}, (l.Pairwise fun a b => wLt a b = true) → wAsc l = true
  | [], _ => rfl
  | [_], _ => rfl
  | a :: b :: l, h => by
    unfold wAsc
    have h' := List.pairwise_cons.mp h
    rw [h'.1 b List.mem_cons_self, wAsc_of h'.2]
    rfl
/-! ### few that differ -/
theorem nodup_few {α : Type} [DecidableEq α] : ∀ {l m : List α}, l.Nodup → (∀ x ∈ l, x ∈ m) → l.length ≤ m.length
  | [], _, _, _ => Nat.zero_le _
  | x :: l, m, h, hs => by
    have h' := List.nodup_cons.mp h
    have hx := hs x List.mem_cons_self
    have := nodup_few (l := l) (m := m.erase x) h'.2 fun y hy => (List.mem_erase_of_ne fun (e : y = x) => h'.1 (e ▸ hy)).mpr (hs y (List.mem_cons_of_mem _ hy))
    rw [List.length_erase_of_mem hx] at this
    have hp := List.length_pos_of_mem hx
    rw [List.length_cons]
    omega
end L2.K10

/-! plain mathematics: the program's search is the law's -/
set_option linter.all false
namespace L2.K10
/-- k comes of s by the word -/
def goW (s : Sg) (w : Word) : Sg := w.foldl slidM s
/-- a word whose slides can be done -/
def okW (ties : List Tie) : Sg → Word → Prop
  | _, [] => True
  | s, m :: w => m ∈ slidesM ties s ∧ okW ties (slidM s m) w
theorem okW_snoc {ties : List Tie} : ∀ {w : Word} {s : Sg} {m : Nat × Nat}, okW ties s w → m ∈ slidesM ties (goW s w) → okW ties s (w ++ [m])
  | [], _, _, _, h => ⟨h, trivial⟩
  | _ :: _, _, _, h, g => ⟨h.1, okW_snoc h.2 g⟩
theorem goW_snoc (s : Sg) (w : Word) (m : Nat × Nat) : goW s (w ++ [m]) = slidM (goW s w) m := by
  unfold goW
  rw [List.foldl_append]
  rfl
/-- one slide: both do the same -/
theorem step_both {F L : List (Sg × Word)} {one : Sg} {wd : Word} {sl : Nat × Nat} (h1 : aget F one = some wd) (h2 : ∀ f ∈ L, wLt f.2 (wd ++ [sl]) = true) :
    ∃ L', pStep F one (some L) sl = some L' ∧ lawStep one (F ++ L) sl = F ++ L' ∧ (∃ x, aget (F ++ L') (slidM one sl) = some x ∧ (aget (F ++ L) (slidM one sl) = none → x = wd ++ [sl])) ∧ (L' = L ∨ L' = L ++ [(slidM one sl, wd ++ [sl])]) := by
  have ho : aget (F ++ L) one = some wd := aget_app_some h1
  unfold pStep lawStep
  dsimp only
  cases hF : aget F (slidM one sl) with
  | some x =>
    have e : aget (F ++ L) (slidM one sl) = some x := aget_app_some hF
    refine ⟨L, rfl, by rw [e]; rfl, ⟨x, e, fun z => by rw [e] at z; cases z⟩, .inl rfl⟩
  | none =>
    have e : aget (F ++ L) (slidM one sl) = aget L (slidM one sl) := by rw [aget_app, hF]
    rw [h1]
    dsimp only
    cases hL : aget L (slidM one sl) with
    | none =>
      refine ⟨_, rfl, ?_, ⟨wd ++ [sl], ?_, fun _ => rfl⟩, .inr rfl⟩
      · rw [e, hL, ho, List.append_assoc]
        rfl
      · rw [aget_app, hF]
        dsimp only
        rw [aget_app, hL]
        exact aget_pos rfl
    | some x =>
      have hx := h2 _ (aget_mem hL)
      dsimp only at hx ⊢
      rw [if_pos hx]
      refine ⟨L, rfl, by rw [e, hL]; rfl, ⟨x, by rw [e, hL], fun z => by rw [e, hL] at z; cases z⟩, .inl rfl⟩
/-- what the later ones are, ahead of candidates -/
structure LG (U : List Sg) (ties : List Tie) (s : Sg) (l : Nat) (L : List (Sg × Word)) : Prop where
  pw : L.Pairwise fun a b => wLt a.2 b.2 = true
  len : ∀ f ∈ L, f.2.length = l + 1
  inU : ∀ f ∈ L, f.1 ∈ U
  path : ∀ f ∈ L, okW ties s f.2 ∧ goW s f.2 = f.1
theorem LG.nil {U : List Sg} {ties : List Tie} {s : Sg} {l : Nat} : LG U ties s l [] := ⟨.nil, (fun _ h => by cases h), (fun _ h => by cases h), fun _ h => by cases h⟩
theorem LG.snoc {U : List Sg} {ties : List Tie} {s : Sg} {l : Nat} {L : List (Sg × Word)} (G : LG U ties s l L) {g : Sg × Word} (h1 : ∀ f ∈ L, wLt f.2 g.2 = true) (h2 : g.2.length = l + 1) (h3 : g.1 ∈ U) (h4 : okW ties s g.2 ∧ goW s g.2 = g.1) : LG U ties s l (L ++ [g]) := by
  refine ⟨List.pairwise_append.mpr ⟨G.pw, List.pairwise_singleton _ _, fun a ha b hb => ?_⟩, fun f hf => ?_, fun f hf => ?_, fun f hf => ?_⟩
  · simp at hb
    subst hb
    exact h1 a ha
  all_goals
    rcases List.mem_append.mp hf with hf | hf
    · first
      | exact G.len f hf
      | exact G.inU f hf
      | exact G.path f hf
    · simp at hf
      subst hf
      first
      | exact h2
      | exact h3
      | exact h4
section
variable {U : List Sg} {ties : List Tie} {s : Sg} {l : Nat}
theorem fold_both {F : List (Sg × Word)} {one : Sg} {wd : Word} (h1 : aget F one = some wd) (hl : wd.length = l) (hp : okW ties s wd ∧ goW s wd = one) (hU : ∀ m ∈ slidesM ties one, slidM one m ∈ U) :
    ∀ (sls : List (Nat × Nat)) (L : List (Sg × Word)), (∀ m ∈ sls, m ∈ slidesM ties one) → (sls.Pairwise fun a b => pLt a b = true) → LG U ties s l L → (∀ f ∈ L, ∀ m ∈ sls, wLt f.2 (wd ++ [m]) = true) → (∀ f ∈ L, ∀ (v : Word) m, v.length = l → wLt wd v = true → wLt f.2 (v ++ [m]) = true) →
      ∃ L', sls.foldl (pStep F one) (some L) = some L' ∧ sls.foldl (lawStep one) (F ++ L) = F ++ L' ∧ LG U ties s l L' ∧ (∀ f ∈ L', ∀ (v : Word) m, v.length = l → wLt wd v = true → wLt f.2 (v ++ [m]) = true) ∧ (∃ G, L' = L ++ G) ∧ ∀ m ∈ sls, ∃ x, aget (F ++ L') (slidM one m) = some x
  | [], L, _, _, G, _, g => ⟨L, rfl, rfl, G, g, ⟨[], by simp⟩, fun _ h => by cases h⟩
  | m :: sls, L, hs, ha, G, hlt, g => by
    have ha' := List.pairwise_cons.mp ha
    obtain ⟨L1, e1, e2, ⟨x, hx, _⟩, e3⟩ := step_both (sl := m) h1 (fun f hf => hlt f hf m List.mem_cons_self)
    have hm := hs m List.mem_cons_self
    have new : ∀ v : Word, ∀ k, v.length = l → wLt wd v = true → wLt (wd ++ [m]) (v ++ [k]) = true := fun v k hv hw => wLt_snoc _ _ (by rw [hl, hv]) hw
    have G1 : LG U ties s l L1 ∧ (∀ f ∈ L1, ∀ k ∈ sls, wLt f.2 (wd ++ [k]) = true) ∧ (∀ f ∈ L1, ∀ (v : Word) k, v.length = l → wLt wd v = true → wLt f.2 (v ++ [k]) = true) ∧ ∃ G, L1 = L ++ G := by
      rcases e3 with rfl | rfl
      · exact ⟨G, fun f hf k hk => hlt f hf k (List.mem_cons_of_mem _ hk), g, [], by simp⟩
      · refine ⟨G.snoc (fun f hf => hlt f hf m List.mem_cons_self) (by simp [hl]) (hU m hm) ⟨okW_snoc hp.1 (by rw [hp.2]; exact hm), by rw [goW_snoc, hp.2]⟩, fun f hf k hk => ?_, fun f hf v k hv hw => ?_, _, rfl⟩
        · rcases List.mem_append.mp hf with hf | hf
          · exact hlt f hf k (List.mem_cons_of_mem _ hk)
          · simp at hf
            subst hf
            exact wLt_snoc_same _ (ha'.1 k hk)
        · rcases List.mem_append.mp hf with hf | hf
          · exact g f hf v k hv hw
          · simp at hf
            subst hf
            exact new v k hv hw
    obtain ⟨G1, g1, g2, D1, hD1⟩ := G1
    obtain ⟨L', f1, f2, f3, f4, ⟨D, hD⟩, f5⟩ := fold_both h1 hl hp hU sls L1 (fun k hk => hs k (List.mem_cons_of_mem _ hk)) ha'.2 G1 g1 g2
    refine ⟨L', by rw [List.foldl_cons, e1]; exact f1, by rw [List.foldl_cons, e2]; exact f2, f3, f4, ⟨D1 ++ D, by rw [hD, hD1, List.append_assoc]⟩, fun k hk => ?_⟩
    rcases List.mem_cons.mp hk with rfl | hk
    · exact ⟨x, by rw [hD, ← List.append_assoc]; exact aget_app_some hx⟩
    · exact f5 k hk
/-- a layer -/
theorem layer_both {n : Nat} (hT : TiG n ties) {F : List (Sg × Word)} (hF : (F.map (·.1)).Nodup) : ∀ (B : List (Sg × Word)) (L : List (Sg × Word)), (∀ f ∈ B, f ∈ F ∧ f.2.length = l ∧ (okW ties s f.2 ∧ goW s f.2 = f.1) ∧ ∀ m ∈ slidesM ties f.1, slidM f.1 m ∈ U) → (B.Pairwise fun a b => wLt a.2 b.2 = true) → LG U ties s l L →
    (∀ f ∈ L, ∀ g ∈ B, ∀ m, wLt f.2 (g.2 ++ [m]) = true) →
    ∃ L', (B.map (·.1)).foldl (pOne ties F) (some L) = some L' ∧ B.foldl (fun F f => lawProc ties F f.1) (F ++ L) = F ++ L' ∧ LG U ties s l L' ∧ (∃ G, L' = L ++ G) ∧ ∀ f ∈ B, ∀ m ∈ slidesM ties f.1, ∃ x, aget (F ++ L') (slidM f.1 m) = some x
  | [], L, _, _, G, _ => ⟨L, rfl, rfl, G, ⟨[], by simp⟩, fun _ h => by cases h⟩
  | b :: B, L, hB, ha, G, hlt => by
    have ha' := List.pairwise_cons.mp ha
    obtain ⟨b1, b2, b3, b4⟩ := hB b List.mem_cons_self
    have hb : aget F b.1 = some b.2 := aget_of_mem hF b1
    obtain ⟨L1, e1, e2, G1, g1, ⟨D1, hD1⟩, n1⟩ := fold_both hb b2 b3 b4 (slidesM ties b.1) L (fun _ h => h) (slides_asc hT b.1) G (fun f hf m _ => hlt f hf b List.mem_cons_self m) (fun f hf v m hv hw => wLt_trans (hlt f hf b List.mem_cons_self m) (wLt_snoc _ _ (by rw [b2, hv]) hw))
    obtain ⟨L', f1, f2, f3, ⟨D, hD⟩, f5⟩ := layer_both hT hF B L1 (fun f hf => hB f (List.mem_cons_of_mem _ hf)) ha'.2 G1 (fun f hf g hg m => g1 f hf g.2 m (hB g (List.mem_cons_of_mem _ hg)).2.1 (ha'.1 g hg))
    refine ⟨L', ?_, ?_, f3, ⟨D1 ++ D, by rw [hD, hD1, List.append_assoc]⟩, fun f hf m hm => ?_⟩
    · rw [List.map_cons, List.foldl_cons]
      show List.foldl _ ((slidesM ties b.1).foldl (pStep F b.1) (some L)) _ = _
      rw [e1]
      exact f1
    · rw [List.foldl_cons]
      show List.foldl _ ((slidesM ties b.1).foldl (lawStep b.1) (F ++ L)) _ = _
      rw [e2]
      exact f2
    · rcases List.mem_cons.mp hf with rfl | hf
      · obtain ⟨x, hx⟩ := n1 m hm
        exact ⟨x, by rw [hD, ← List.append_assoc]; exact aget_app_some hx⟩
      · exact f5 f hf m hm
end
/-- the law's turns over a layer -/
theorem lawW_layer (ties : List Tie) (s : Sg) : ∀ (B A R : List (Sg × Word)), lawW ties s A.length = A ++ B ++ R → lawW ties s (A.length + B.length) = B.foldl (fun F f => lawProc ties F f.1) (A ++ B ++ R)
  | [], A, R, h => by simpa using h
  | b :: B, A, R, h => by
    have e : lawW ties s (A.length + 1) = lawProc ties (A ++ b :: B ++ R) b.1 := by
      show (match (lawW ties s A.length)[A.length]? with | some f => lawProc ties (lawW ties s A.length) f.1 | none => lawW ties s A.length) = _
      have hb : (lawW ties s A.length)[A.length]? = some b := by rw [h]; simp
      rw [hb, h]
    obtain ⟨G, hG⟩ := lawFold_grows b.1 (slidesM ties b.1) (A ++ b :: B ++ R)
    have e2 : lawProc ties (A ++ b :: B ++ R) b.1 = (A ++ [b]) ++ B ++ (R ++ G) := by
      show (slidesM ties b.1).foldl (lawStep b.1) (A ++ b :: B ++ R) = _
      rw [hG]
      simp
    have := lawW_layer ties s B (A ++ [b]) (R ++ G) (by rw [List.length_append, List.length_singleton, e, e2])
    rw [List.length_append, List.length_singleton] at this
    rw [List.foldl_cons, e2, List.length_cons, ← this]
    congr 1
    omega
end L2.K10

/-! plain mathematics: what the search finds -/
set_option linter.all false
namespace L2.K10
/-- standings closed under slides, at most 24 -/
structure Clo (ties : List Tie) (U : List Sg) : Prop where
  len : U.length ≤ 24
  clo : ∀ k ∈ U, ∀ m ∈ slidesM ties k, slidM k m ∈ U
/-- the state between two layers -/
structure BI (U : List Sg) (ties : List Tie) (s : Sg) (l : Nat) (A B : List (Sg × Word)) : Prop where
  law : lawW ties s A.length = A ++ B
  la : l ≤ A.length
  lenA : ∀ f ∈ A, f.2.length < l
  lenB : ∀ f ∈ B, f.2.length = l
  pw : B.Pairwise fun a b => wLt a.2 b.2 = true
  inU : ∀ f ∈ A ++ B, f.1 ∈ U
  path : ∀ f ∈ A ++ B, okW ties s f.2 ∧ goW s f.2 = f.1
  nb : ∀ f ∈ A, ∀ m ∈ slidesM ties f.1, ∃ x, aget (A ++ B) (slidM f.1 m) = some x ∧ x.length ≤ f.2.length + 1
/-- what the search finds -/
structure BFS (U : List Sg) (ties : List Tie) (s : Sg) (R : List (Sg × Word)) : Prop where
  law : ∀ t, R.length ≤ t → lawW ties s t = R
  pre : ∀ t, ∃ G, R = lawW ties s t ++ G
  len : R.length ≤ 24
  wl : ∀ f ∈ R, f.2.length < 24
  inU : ∀ f ∈ R, f.1 ∈ U
  path : ∀ f ∈ R, okW ties s f.2 ∧ goW s f.2 = f.1
  nb : ∀ f ∈ R, ∀ m ∈ slidesM ties f.1, ∃ x, aget R (slidM f.1 m) = some x ∧ x.length ≤ f.2.length + 1
  nd : (R.map (·.1)).Nodup
  own : aget R s = some []
theorem lawW_stable {ties : List Tie} {s : Sg} {R : List (Sg × Word)} {t : Nat} (h : lawW ties s t = R) (hl : R.length ≤ t) : ∀ d, lawW ties s (t + d) = R
  | 0 => h
  | d + 1 => by
    have ih := lawW_stable h hl d
    show (match (lawW ties s (t + d))[t + d]? with | some f => lawProc ties (lawW ties s (t + d)) f.1 | none => lawW ties s (t + d)) = R
    rw [ih]
    have : R[t + d]? = none := List.getElem?_eq_none_iff.mpr (by omega)
    rw [this]
theorem lawW_grow1 (ties : List Tie) (s : Sg) (t : Nat) : ∃ G, lawW ties s (t + 1) = lawW ties s t ++ G := by
  show ∃ G, (match (lawW ties s t)[t]? with | some f => lawProc ties (lawW ties s t) f.1 | none => lawW ties s t) = _
  split
  · exact lawFold_grows _ _ _
  · exact ⟨[], by simp⟩
theorem lawW_grow (ties : List Tie) (s : Sg) (t : Nat) : ∀ d, ∃ G, lawW ties s (t + d) = lawW ties s t ++ G
  | 0 => ⟨[], by simp⟩
  | d + 1 => by
    obtain ⟨G, h⟩ := lawW_grow ties s t d
    obtain ⟨G2, h2⟩ := lawW_grow1 ties s (t + d)
    exact ⟨G ++ G2, by rw [← List.append_assoc, ← h]; exact h2⟩
theorem lawW_own (ties : List Tie) (s : Sg) (t : Nat) : aget (lawW ties s t) s = some [] := by
  obtain ⟨G, h⟩ := lawW_grow ties s 0 t
  rw [Nat.zero_add] at h
  rw [h]
  exact aget_pos rfl
section
variable {U : List Sg} {ties : List Tie} {s : Sg} {n : Nat}
theorem BI.count {l : Nat} {A B : List (Sg × Word)} (C : Clo ties U) (I : BI U ties s l A B) : A.length + B.length ≤ 24 := by
  have hn := lawW_nodup ties s A.length
  rw [I.law] at hn
  have := nodup_few hn (m := U) fun x hx => by
    obtain ⟨f, hf, rfl⟩ := List.mem_map.mp hx
    exact I.inU f hf
  rw [List.length_map, List.length_append] at this
  exact Nat.le_trans this C.len
theorem BI.next (hT : TiG n ties) {l : Nat} {A B : List (Sg × Word)} (C : Clo ties U) (I : BI U ties s l A B) : ∃ L, pLayer ties (A ++ B) (B.map (·.1)) = some L ∧ wAsc (L.map (·.2)) = true ∧ (B ≠ [] → BI U ties s (l + 1) (A ++ B) L) := by
  have hn := lawW_nodup ties s A.length
  rw [I.law] at hn
  have hB : ∀ f ∈ B, f ∈ A ++ B := fun f hf => List.mem_append_right _ hf
  obtain ⟨L, e1, e2, G, _, nb⟩ := layer_both (l := l) (U := U) (s := s) hT hn B [] (fun f hf => ⟨hB f hf, I.lenB f hf, I.path f (hB f hf), C.clo _ (I.inU f (hB f hf))⟩) I.pw .nil (fun f hf => by cases hf)
  refine ⟨L, e1, wAsc_of (List.pairwise_map.mpr G.pw), fun hne => ?_⟩
  have hlaw : lawW ties s (A ++ B).length = (A ++ B) ++ L := by
    have := lawW_layer ties s B A [] (by rw [List.append_nil]; exact I.law)
    rw [List.length_append, this]
    exact e2
  have hb1 : 1 ≤ B.length := by
    cases B with
    | nil => exact absurd rfl hne
    | cons _ _ => simp
  have hn2 := lawW_nodup ties s (A ++ B).length
  rw [hlaw] at hn2
  have lab : ∀ f ∈ A ++ B, f.2.length ≤ l := fun f hf => by
    rcases List.mem_append.mp hf with hf | hf
    · have := I.lenA f hf; omega
    · have := I.lenB f hf; omega
  refine ⟨hlaw, by rw [List.length_append]; have := I.la; omega, fun f hf => by have := lab f hf; omega, G.len, G.pw, fun f hf => ?_, fun f hf => ?_, fun f hf m hm => ?_⟩
  · rcases List.mem_append.mp hf with hf | hf
    · exact I.inU f hf
    · exact G.inU f hf
  · rcases List.mem_append.mp hf with hf | hf
    · exact I.path f hf
    · exact G.path f hf
  · rcases List.mem_append.mp hf with hf | hf
    · obtain ⟨x, h1, h2⟩ := I.nb f hf m hm
      exact ⟨x, aget_app_some h1, h2⟩
    · obtain ⟨x, hx⟩ := nb f hf m hm
      refine ⟨x, hx, ?_⟩
      rw [I.lenB f hf]
      rcases List.mem_append.mp (aget_mem hx) with h | h
      · have := lab _ h
        dsimp only at this
        omega
      · exact Nat.le_of_eq (G.len _ h)
theorem BI.run (hT : TiG n ties) (C : Clo ties U) : ∀ (m l : Nat) (A B : List (Sg × Word)), 24 ≤ m + A.length → BI U ties s l A B → ∃ R, pRun ties m (A ++ B) (B.map (·.1)) = some R ∧ ∃ l', BI U ties s l' R []
  | m, l, A, [], _, I => ⟨A, by
      cases m <;> simp [pRun], l, by
      have h := I.law
      rw [List.append_nil] at h
      exact ⟨by rw [List.append_nil]; exact h, I.la, I.lenA, (fun _ h => by cases h), .nil, I.inU, I.path, I.nb⟩⟩
  | 0, l, A, b :: B, h, I => by
    have := I.count C
    rw [List.length_cons] at this
    omega
  | m + 1, l, A, b :: B, h, I => by
    obtain ⟨L, e1, e2, e3⟩ := I.next hT C
    obtain ⟨R, r1, r2⟩ := BI.run hT C m (l + 1) (A ++ b :: B) L (by rw [List.length_append, List.length_cons]; omega) (e3 (by simp))
    refine ⟨R, ?_, r2⟩
    show (match pLayer ties (A ++ b :: B) ((b :: B).map (·.1)) with
      | none => none
      | some L => if wAsc (L.map (·.2)) then pRun ties m (A ++ b :: B ++ L) (L.map (·.1)) else none) = some R
    rw [e1]
    dsimp only
    rw [if_pos e2]
    exact r1
theorem bfs (hT : TiG n ties) (C : Clo ties U) (hs : s ∈ U) : ∃ R, pRun ties 24 [(s, [])] [s] = some R ∧ BFS U ties s R := by
  obtain ⟨R, h, l', I⟩ := BI.run (s := s) hT C 24 0 [] [(s, [])] (by simp) ⟨rfl, Nat.le_refl _, (fun _ h => by cases h), (fun f hf => by simp at hf; rw [hf]; rfl), List.pairwise_singleton _ _, (fun f hf => by simp at hf; rw [hf]; exact hs),
    (fun f hf => by simp at hf; rw [hf]; exact ⟨trivial, rfl⟩), fun _ h => by cases h⟩
  have hl : lawW ties s R.length = R := by have := I.law; rw [List.append_nil] at this; exact this
  have hc := I.count C
  have st : ∀ t, R.length ≤ t → lawW ties s t = R := fun t ht => by
    obtain ⟨d, rfl⟩ := Nat.exists_eq_add_of_le ht
    exact lawW_stable hl (Nat.le_refl _) d
  have hA : ∀ f, f ∈ R → f ∈ R ++ [] := fun f hf => by rw [List.append_nil]; exact hf
  -- words are short
  have wl : ∀ f ∈ R, f.2.length < 24 := ?_
  · refine ⟨R, h, st, fun t => ?_, by simp at hc; exact hc, wl, fun f hf => I.inU f (hA f hf), fun f hf => I.path f (hA f hf), fun f hf m hm => ?_, by rw [← hl]; exact lawW_nodup _ _ _, by rw [← hl]; exact lawW_own _ _ _⟩
    · by_cases ht : R.length ≤ t
      · exact ⟨[], by rw [st t ht, List.append_nil]⟩
      · obtain ⟨G, hG⟩ := lawW_grow ties s t (R.length - t)
        rw [Nat.add_sub_of_le (by omega), hl] at hG
        exact ⟨G, hG⟩
    · obtain ⟨x, h1, h2⟩ := I.nb f hf m hm
      rw [List.append_nil] at h1
      exact ⟨x, h1, h2⟩
  · intro f hf
    have h1 := I.lenA f hf
    have h2 := I.la
    simp at hc
    omega
end
end L2.K10

/-! plain mathematics: costs_after finds the least -/
set_option linter.all false
namespace L2.K10
/-- x can be had for v -/
def Wk (ties : List Tie) (C : List (Sg × Nat)) (x : Sg) (v : Nat) : Prop := ∃ f ∈ C, ∃ w, okW ties f.1 w ∧ goW f.1 w = x ∧ v = f.2 + w.length
def Best (ties : List Tie) (C : List (Sg × Nat)) (x : Sg) (v : Nat) : Prop := Wk ties C x v ∧ ∀ v', Wk ties C x v' → v ≤ v'
theorem Best.uniq {ties : List Tie} {C : List (Sg × Nat)} {x : Sg} {v u : Nat} (h : Best ties C x v) (g : Best ties C x u) : v = u := Nat.le_antisymm (h.2 _ g.1) (g.2 _ h.1)
theorem Wk.own {ties : List Tie} {C : List (Sg × Nat)} {f : Sg × Nat} (h : f ∈ C) : Wk ties C f.1 f.2 := ⟨f, h, [], trivial, rfl, rfl⟩
theorem Wk.next {ties : List Tie} {C : List (Sg × Nat)} {x : Sg} {v : Nat} (h : Wk ties C x v) {m : Nat × Nat} (hm : m ∈ slidesM ties x) : Wk ties C (slidM x m) (v + 1) := by
  obtain ⟨f, hf, w, h1, rfl, rfl⟩ := h
  exact ⟨f, hf, w ++ [m], okW_snoc h1 hm, goW_snoc _ _ _, by rw [List.length_append, List.length_singleton]; omega⟩
def InL (L : Lays) (c : Nat) (x : Sg) : Prop := ∃ e ∈ L, e.1 = c ∧ x ∈ e.2
theorem InL.app {L : Lays} {c : Nat} {x : Sg} (h : InL L c x) (d : Nat) (xs : List Sg) : InL (lApp L d xs) c x := by
  obtain ⟨e, he, rfl, hx⟩ := h
  have he' : e ∈ lSet L d := by
    unfold lSet
    split
    · exact he
    · exact List.mem_append_left _ he
  refine ⟨if e.1 = d then (e.1, e.2 ++ xs) else e, List.mem_map.mpr ⟨e, he', rfl⟩, ?_, ?_⟩
  · split <;> rfl
  · split
    · exact List.mem_append_left _ hx
    · exact hx
theorem InL.put {L : Lays} {d : Nat} {xs : List Sg} {x : Sg} (h : x ∈ xs) : InL (lApp L d xs) d x := by
  have : ∃ e ∈ lSet L d, e.1 = d := by
    unfold lSet
    split
    · rename_i hh
      obtain ⟨e, he, e1⟩ := List.mem_map.mp (lHas_iff.mp hh)
      exact ⟨e, he, e1⟩
    · exact ⟨(d, []), by simp, rfl⟩
  obtain ⟨e, he, hd⟩ := this
  refine ⟨(e.1, e.2 ++ xs), List.mem_map.mpr ⟨e, he, by rw [if_pos hd]⟩, hd, List.mem_append_right _ h⟩
/-- an entry of lApp, where it comes from -/
theorem lApp_mem {L : Lays} {d : Nat} {xs : List Sg} {e : Nat × List Sg} (h : e ∈ lApp L d xs) : (e ∈ L ∧ e.1 ≠ d) ∨ (e.1 = d ∧ ∀ x ∈ e.2, InL L d x ∨ x ∈ xs) := by
  unfold lApp lAdd at h
  obtain ⟨e0, he0, rfl⟩ := List.mem_map.mp h
  have h0 : e0 ∈ L ∨ e0 = (d, []) := by
    unfold lSet at he0
    split at he0
    · exact .inl he0
    · rcases List.mem_append.mp he0 with h | h
      · exact .inl h
      · simp at h; exact .inr h
  by_cases hd : e0.1 = d
  · rw [if_pos hd]
    refine .inr ⟨hd, fun x hx => ?_⟩
    rcases List.mem_append.mp hx with hx | hx
    · rcases h0 with h0 | rfl
      · exact .inl ⟨e0, h0, hd, hx⟩
      · cases hx
    · exact .inr hx
  · rw [if_neg hd]
    rcases h0 with h0 | rfl
    · exact .inl ⟨h0, hd⟩
    · exact absurd rfl hd
theorem lGet_in {L : Lays} {c : Nat} {x : Sg} (h : x ∈ lGet L c) : InL L c x := by
  unfold lGet at h
  cases q : L.find? fun e => e.1 == c with
  | none => rw [q] at h; cases h
  | some e =>
    rw [q] at h
    exact ⟨e, List.mem_of_find?_eq_some q, by simpa using List.find?_some q, h⟩
theorem in_lGet {L : Lays} (hn : (L.map (·.1)).Nodup) {c : Nat} {x : Sg} (h : InL L c x) : x ∈ lGet L c := by
  obtain ⟨e, he, rfl, hx⟩ := h
  have : L.find? (fun a => a.1 == e.1) = some e := by
    induction L with
    | nil => cases he
    | cons a L ih =>
      rw [List.map_cons, List.nodup_cons] at hn
      rcases List.mem_cons.mp he with rfl | he
      · simp
      · have na : ¬ a.1 = e.1 := fun z => hn.1 (by rw [z]; exact List.mem_map.mpr ⟨e, he, rfl⟩)
        rw [List.find?_cons_of_neg (by simpa using na)]
        exact ih hn.2 he
  unfold lGet
  rw [this]
  exact hx
section
variable {U : List Sg} {ties : List Tie} {C : List (Sg × Nat)} {B : Nat}
/-- between two counts -/
structure CI (U : List Sg) (ties : List Tie) (C : List (Sg × Nat)) (B c : Nat) (F : List (Sg × Nat)) (L : Lays) : Prop where
  fnd : ∀ f ∈ F, f.2 < c ∧ Best ties C f.1 f.2
  fU : ∀ f ∈ F, f.1 ∈ U
  nd : (F.map (·.1)).Nodup
  lay : ∀ e ∈ L, c ≤ e.1 ∧ e.1 ≤ max B c ∧ (∀ x ∈ e.2, Wk ties C x e.1 ∧ x ∈ U) ∧ ∃ x ∈ e.2, x ∉ F.map (·.1)
  lnd : (L.map (·.1)).Nodup
  src : ∀ f ∈ C, f.1 ∈ F.map (·.1) ∨ InL L f.2 f.1
  clo : ∀ f ∈ F, ∀ m ∈ slidesM ties f.1, slidM f.1 m ∈ F.map (·.1) ∨ InL L (f.2 + 1) (slidM f.1 m)
/-- within a count: some of the lot is left -/
structure CJ (U : List Sg) (ties : List Tie) (C : List (Sg × Nat)) (B c : Nat) (F : List (Sg × Nat)) (L : Lays) (lot : List Sg) : Prop where
  fnd : ∀ f ∈ F, f.2 ≤ c ∧ Best ties C f.1 f.2
  fU : ∀ f ∈ F, f.1 ∈ U
  nd : (F.map (·.1)).Nodup
  lay : ∀ e ∈ L, c < e.1 ∧ e.1 ≤ max B (c + 1) ∧ (∀ x ∈ e.2, Wk ties C x e.1 ∧ x ∈ U)
  lnd : (L.map (·.1)).Nodup
  src : ∀ f ∈ C, f.1 ∈ F.map (·.1) ∨ (f.2 = c ∧ f.1 ∈ lot) ∨ InL L f.2 f.1
  clo : ∀ f ∈ F, ∀ m ∈ slidesM ties f.1, slidM f.1 m ∈ F.map (·.1) ∨ (f.2 + 1 = c ∧ slidM f.1 m ∈ lot) ∨ InL L (f.2 + 1) (slidM f.1 m)
  lot : ∀ x ∈ lot, Wk ties C x c ∧ x ∈ U
/-- what can be had for less is found -/
theorem walk_found {ties : List Tie} {F : List (Sg × Nat)} {c : Nat} (hF : ∀ f ∈ F, Best ties C f.1 f.2)
    (hc : ∀ f ∈ F, f.2 + 1 < c → ∀ m ∈ slidesM ties f.1, slidM f.1 m ∈ F.map (·.1)) : ∀ (w : Word) (x : Sg) (v : Nat), x ∈ F.map (·.1) → Wk ties C x v → okW ties x w → v + w.length < c → goW x w ∈ F.map (·.1)
  | [], x, v, hx, _, _, _ => hx
  | m :: w, x, v, hx, hv, hw, hl => by
    obtain ⟨f, hf, rfl⟩ := List.mem_map.mp hx
    have hle := (hF f hf).2 v hv
    rw [List.length_cons] at hl
    exact walk_found hF hc w (slidM f.1 m) (v + 1) (hc f hf (by omega) m hw.1) (hv.next hw.1) hw.2 (by omega)
theorem CJ.low {c : Nat} {F : List (Sg × Nat)} {L : Lays} {lot : List Sg} (J : CJ U ties C B c F L lot) {x : Sg} {v : Nat} (h : Wk ties C x v) (hv : v < c) : x ∈ F.map (·.1) := by
  have none : ∀ d y, InL L d y → c < d := fun d y ⟨e, he, h1, _⟩ => by rw [← h1]; exact (J.lay e he).1
  obtain ⟨f, hf, w, h1, rfl, rfl⟩ := h
  refine walk_found (fun f hf => (J.fnd f hf).2) (fun g hg hl m hm => ?_) w f.1 f.2 ?_ (Wk.own hf) h1 hv
  · rcases J.clo g hg m hm with h | ⟨h, _⟩ | h
    · exact h
    · omega
    · have := none _ _ h; omega
  · rcases J.src f hf with h | ⟨h, _⟩ | h
    · exact h
    · omega
    · have := none _ _ h; omega
theorem CJ.step (K : ∀ k ∈ U, ∀ m ∈ slidesM ties k, slidM k m ∈ U) {c : Nat} {F : List (Sg × Nat)} {L : Lays} {x : Sg} {lot : List Sg} (J : CJ U ties C B c F L (x :: lot)) : CJ U ties C B c (cPut ties c (F, L) x).1 (cPut ties c (F, L) x).2 lot ∧ x ∈ (cPut ties c (F, L) x).1.map (·.1) := by
  obtain ⟨hx, hxU⟩ := J.lot x List.mem_cons_self
  unfold cPut
  dsimp only
  split
  · rename_i v hv
    have hin : x ∈ F.map (·.1) := aget_some_iff.mp (by rw [hv]; rfl)
    refine ⟨⟨J.fnd, J.fU, J.nd, J.lay, J.lnd, fun f hf => ?_, fun f hf m hm => ?_, fun y hy => J.lot y (List.mem_cons_of_mem _ hy)⟩, hin⟩
    · rcases J.src f hf with h | ⟨h, h'⟩ | h
      · exact .inl h
      · rcases List.mem_cons.mp h' with h' | h'
        · exact .inl (by rw [h']; exact hin)
        · exact .inr (.inl ⟨h, h'⟩)
      · exact .inr (.inr h)
    · rcases J.clo f hf m hm with h | ⟨h, h'⟩ | h
      · exact .inl h
      · rcases List.mem_cons.mp h' with h' | h'
        · exact .inl (by rw [h']; exact hin)
        · exact .inr (.inl ⟨h, h'⟩)
      · exact .inr (.inr h)
  · rename_i hn
    have hnot := aget_none_not hn
    have own : x ∈ (F ++ [(x, c)]).map (·.1) := by simp
    have old : ∀ y, y ∈ F.map (·.1) → y ∈ (F ++ [(x, c)]).map (·.1) := fun y hy => by rw [List.map_append]; exact List.mem_append_left _ hy
    refine ⟨⟨fun f hf => ?_, fun f hf => ?_, ?_, fun e he => ?_, lApp_keys _ _ _ J.lnd, fun f hf => ?_, fun f hf m hm => ?_, fun y hy => J.lot y (List.mem_cons_of_mem _ hy)⟩, own⟩
    · rcases List.mem_append.mp hf with hf | hf
      · exact J.fnd f hf
      · simp at hf
        subst hf
        refine ⟨Nat.le_refl _, hx, fun v' hv' => ?_⟩
        by_cases hlt : v' < c
        · exact absurd (J.low hv' hlt) hnot
        · omega
    · rcases List.mem_append.mp hf with hf | hf
      · exact J.fU f hf
      · simp at hf
        subst hf
        exact hxU
    · rw [List.map_append, List.nodup_append]
      refine ⟨J.nd, by simp, fun a ha b hb => ?_⟩
      simp at hb
      subst hb
      exact fun e => hnot (e ▸ ha)
    · rcases lApp_mem he with ⟨h, _⟩ | ⟨h, h'⟩
      · exact J.lay e h
      · refine ⟨by omega, by omega, fun y hy => ?_⟩
        rw [h]
        rcases h' y hy with ⟨e2, he2, h2, hy2⟩ | hy
        · rw [← h2]
          exact (J.lay e2 he2).2.2 y hy2
        · obtain ⟨m, hm, rfl⟩ := List.mem_map.mp hy
          exact ⟨hx.next hm, K x hxU m hm⟩
    · rcases J.src f hf with h | ⟨h, h'⟩ | h
      · exact .inl (old _ h)
      · rcases List.mem_cons.mp h' with h' | h'
        · exact .inl (by rw [h']; exact own)
        · exact .inr (.inl ⟨h, h'⟩)
      · exact .inr (.inr (h.app _ _))
    · rcases List.mem_append.mp hf with hf | hf
      · rcases J.clo f hf m hm with h | ⟨h, h'⟩ | h
        · exact .inl (old _ h)
        · rcases List.mem_cons.mp h' with h' | h'
          · exact .inl (by rw [h']; exact own)
          · exact .inr (.inl ⟨h, h'⟩)
        · exact .inr (.inr (h.app _ _))
      · simp at hf
        subst hf
        exact .inr (.inr (InL.put (List.mem_map.mpr ⟨m, hm, rfl⟩)))
theorem CJ.fold (K : ∀ k ∈ U, ∀ m ∈ slidesM ties k, slidM k m ∈ U) {c : Nat} : ∀ {lot : List Sg} {st : List (Sg × Nat) × Lays}, CJ U ties C B c st.1 st.2 lot → CJ U ties C B c (lot.foldl (cPut ties c) st).1 (lot.foldl (cPut ties c) st).2 [] ∧ ∀ x ∈ lot, x ∈ (lot.foldl (cPut ties c) st).1.map (·.1)
  | [], _, J => ⟨J, fun _ h => by cases h⟩
  | x :: lot, st, J => by
    obtain ⟨J1, hx⟩ := J.step K
    obtain ⟨J2, h2⟩ := CJ.fold K (lot := lot) (st := cPut ties c st x) J1
    refine ⟨J2, fun y hy => ?_⟩
    rcases List.mem_cons.mp hy with rfl | hy
    · obtain ⟨G, hG⟩ := cFold_grows ties c lot (cPut ties c st y)
      rw [List.foldl_cons, hG, List.map_append]
      exact List.mem_append_left _ hx
    · exact h2 y hy
theorem InL.drop {L : Lays} {c d : Nat} {x : Sg} (h : InL L d x) (n : d ≠ c) : InL (lDrop L c) d x := by
  obtain ⟨e, he, rfl, hx⟩ := h
  exact ⟨e, List.mem_filter.mpr ⟨he, by simpa using n⟩, rfl, hx⟩
theorem CI.step (K : ∀ k ∈ U, ∀ m ∈ slidesM ties k, slidM k m ∈ U) {c : Nat} {F : List (Sg × Nat)} {L : Lays} (I : CI U ties C B c F L) :
    CI U ties C B (c + 1) (cLot ties c F L).1 (cKeep (cLot ties c F L).1 (cLot ties c F L).2) ∧ (∀ x ∈ lGet L c, x ∈ (cLot ties c F L).1.map (·.1)) := by
  have J0 : CJ U ties C B c F (lDrop L c) (lGet L c) := by
    refine ⟨fun f hf => ⟨Nat.le_of_lt (I.fnd f hf).1, (I.fnd f hf).2⟩, I.fU, I.nd, fun e he => ?_, sub_keys I.lnd, fun f hf => ?_, fun f hf m hm => ?_, fun x hx => ?_⟩
    · obtain ⟨he, hc⟩ := List.mem_filter.mp he
      obtain ⟨h1, h2, h3, _⟩ := I.lay e he
      have : e.1 ≠ c := by simpa using hc
      exact ⟨by omega, by omega, h3⟩
    · rcases I.src f hf with h | h
      · exact .inl h
      · by_cases e : f.2 = c
        · exact .inr (.inl ⟨e, in_lGet I.lnd (e ▸ h)⟩)
        · exact .inr (.inr (h.drop e))
    · rcases I.clo f hf m hm with h | h
      · exact .inl h
      · by_cases e : f.2 + 1 = c
        · exact .inr (.inl ⟨e, in_lGet I.lnd (e ▸ h)⟩)
        · exact .inr (.inr (h.drop e))
    · obtain ⟨e, he, h1, h2⟩ := lGet_in hx
      rw [← h1]
      exact (I.lay e he).2.2.1 x h2
  obtain ⟨J, hl⟩ := CJ.fold (st := (F, lDrop L c)) K J0
  refine ⟨?_, hl⟩
  show CI U ties C B (c + 1) ((lGet L c).foldl (cPut ties c) (F, lDrop L c)).1 (cKeep ((lGet L c).foldl (cPut ties c) (F, lDrop L c)).1 ((lGet L c).foldl (cPut ties c) (F, lDrop L c)).2)
  generalize (lGet L c).foldl (cPut ties c) (F, lDrop L c) = st at J
  have keep : ∀ d x, InL st.2 d x → x ∈ st.1.map (·.1) ∨ InL (cKeep st.1 st.2) d x := fun d x ⟨e, he, h1, h2⟩ => by
    by_cases hx : (aget st.1 x).isSome = true
    · exact .inl (aget_some_iff.mp hx)
    · refine .inr ⟨e, List.mem_filter.mpr ⟨he, List.any_eq_true.mpr ⟨x, h2, ?_⟩⟩, h1, h2⟩
      simpa using hx
  refine ⟨fun f hf => ⟨Nat.lt_succ_of_le (J.fnd f hf).1, (J.fnd f hf).2⟩, J.fU, J.nd, fun e he => ?_, sub_keys J.lnd, fun f hf => ?_, fun f hf m hm => ?_⟩
  · obtain ⟨he, ha⟩ := List.mem_filter.mp he
    obtain ⟨h1, h2, h3⟩ := J.lay e he
    obtain ⟨x, hx, hn⟩ := List.any_eq_true.mp ha
    refine ⟨h1, h2, h3, x, hx, fun z => ?_⟩
    rw [aget_some_iff.mpr z] at hn
    cases hn
  · rcases J.src f hf with h | ⟨_, h⟩ | h
    · exact .inl h
    · cases h
    · exact keep _ _ h
  · rcases J.clo f hf m hm with h | ⟨_, h⟩ | h
    · exact .inl h
    · cases h
    · exact keep _ _ h
theorem CI.run (K : Clo ties U) : ∀ (n c : Nat) (F : List (Sg × Nat)) (L : Lays), CI U ties C B c F L → (B + 1 - c) + (24 - F.length) ≤ n → ∃ R c', cRun ties n F L c = some R ∧ CI U ties C B c' R []
  | n, c, F, [], I, _ => ⟨F, c, by cases n <;> rfl, I⟩
  | n, c, F, e :: L, I, hn => by
    obtain ⟨h1, h2, h3, x, hx, hxn⟩ := I.lay e List.mem_cons_self
    have hlen : F.length + 1 ≤ 24 := by
      have hd : (x :: F.map (·.1)).Nodup := List.nodup_cons.mpr ⟨hxn, I.nd⟩
      have := nodup_few hd (m := U) fun y hy => by
        rcases List.mem_cons.mp hy with rfl | hy
        · exact (h3 _ hx).2
        · obtain ⟨f, hf, rfl⟩ := List.mem_map.mp hy
          exact I.fU f hf
      rw [List.length_cons, List.length_map] at this
      exact Nat.le_trans this K.len
    cases n with
    | zero => omega
    | succ n =>
      obtain ⟨I2, hl⟩ := I.step K.clo
      obtain ⟨G, hG⟩ := cFold_grows ties c (lGet (e :: L) c) (F, lDrop (e :: L) c)
      have hG : (cLot ties c F (e :: L)).1 = F ++ G := hG
      refine CI.run K n (c + 1) _ _ I2 ?_
      rw [hG, List.length_append]
      by_cases hB : c ≤ B
      · omega
      · have he : e.1 = c := by omega
        have hin := hl x (in_lGet I.lnd ⟨e, List.mem_cons_self, he, hx⟩)
        rw [hG, List.map_append] at hin
        rcases List.mem_append.mp hin with h | h
        · exact absurd h hxn
        · have : 1 ≤ G.length := by
            cases G with
            | nil => cases h
            | cons _ _ => simp
          omega
theorem start_in : ∀ (C : List (Sg × Nat)) (L : Lays), (L.map (·.1)).Nodup → (∀ e ∈ L, e.2 ≠ []) →
    ((C.foldl (fun L f => lApp L f.2 [f.1]) L).map (·.1)).Nodup ∧ (∀ e ∈ C.foldl (fun L f => lApp L f.2 [f.1]) L, e.2 ≠ []) ∧ (∀ d x, InL (C.foldl (fun L f => lApp L f.2 [f.1]) L) d x → InL L d x ∨ (x, d) ∈ C) ∧ (∀ d x, InL L d x ∨ (x, d) ∈ C → InL (C.foldl (fun L f => lApp L f.2 [f.1]) L) d x)
  | [], L, hn, he => ⟨hn, he, fun _ _ h => .inl h, fun _ _ h => h.resolve_right (by simp)⟩
  | f :: C, L, hn, he => by
    rw [List.foldl_cons]
    have hne : ∀ e ∈ lApp L f.2 [f.1], e.2 ≠ [] := fun e h => by
      unfold lApp lAdd at h
      obtain ⟨e0, he0, rfl⟩ := List.mem_map.mp h
      split
      · simp
      · rename_i hd
        unfold lSet at he0
        split at he0
        · exact he _ he0
        · rcases List.mem_append.mp he0 with h | h
          · exact he _ h
          · simp at h
            rw [h] at hd
            exact absurd rfl hd
    obtain ⟨h1, h2, h3, h4⟩ := start_in C (lApp L f.2 [f.1]) (lApp_keys _ _ _ hn) hne
    refine ⟨h1, h2, fun d x h => ?_, fun d x h => ?_⟩
    · rcases h3 d x h with ⟨e, he, rfl, hx⟩ | h
      · rcases lApp_mem he with ⟨h, _⟩ | ⟨h, h'⟩
        · exact .inl ⟨e, h, rfl, hx⟩
        · rcases h' x hx with h'' | h''
          · exact .inl (by rw [h]; exact h'')
          · simp at h''
            rw [h, h'']
            exact .inr List.mem_cons_self
      · exact .inr (List.mem_cons_of_mem _ h)
    · refine h4 d x ?_
      rcases h with h | h
      · exact .inl (h.app _ _)
      · rcases List.mem_cons.mp h with h | h
        · cases h
          exact .inl (InL.put (by simp))
        · exact .inr h
theorem CI.start (hU : ∀ f ∈ C, f.1 ∈ U) (hB : ∀ f ∈ C, f.2 ≤ B) : CI U ties C B 0 [] (cStart C) := by
  obtain ⟨h1, h2, h3, h4⟩ := start_in C [] .nil (fun _ h => by cases h)
  have h3 : ∀ d x, InL (cStart C) d x → (x, d) ∈ C := fun d x h => (h3 d x h).resolve_left fun ⟨_, h, _⟩ => by cases h
  refine ⟨(fun _ h => by cases h), (fun _ h => by cases h), .nil, fun e he => ?_, h1, fun f hf => .inr (h4 _ _ (.inr hf)), fun _ h => by cases h⟩
  have hne := h2 e he
  have hm : ∀ x ∈ e.2, (x, e.1) ∈ C := fun x hx => h3 _ _ ⟨e, he, rfl, hx⟩
  obtain ⟨x, hx⟩ := List.exists_mem_of_ne_nil _ hne
  have := hB _ (hm x hx)
  dsimp only at this
  exact ⟨Nat.zero_le _, by omega, fun y hy => ⟨Wk.own (f := (y, e.1)) (hm y hy), hU _ (hm y hy)⟩, x, hx, by simp⟩
/-- costs_after's answer -/
theorem costs_best (K : Clo ties U) (hU : ∀ f ∈ C, f.1 ∈ U) (hB : ∀ f ∈ C, f.2 ≤ B) {n : Nat} (hn : B + 25 ≤ n) : ∃ R, cRun ties n [] (cStart C) 0 = some R ∧ R.length ≤ 24 ∧ (R.map (·.1)).Nodup ∧ (∀ f ∈ R, f.1 ∈ U) ∧ ∀ x v, aget R x = some v ↔ Best ties C x v := by
  obtain ⟨R, c', h, I⟩ := CI.run (C := C) (B := B) K n 0 [] (cStart C) (CI.start hU hB) (by simp; omega)
  have hlen := nodup_few I.nd (m := U) fun y hy => by
    obtain ⟨f, hf, rfl⟩ := List.mem_map.mp hy
    exact I.fU f hf
  rw [List.length_map] at hlen
  have nil : ∀ d x, ¬ InL [] d x := fun d x ⟨_, h, _⟩ => by cases h
  refine ⟨R, h, Nat.le_trans hlen K.len, I.nd, I.fU, fun x v => ⟨fun g => (I.fnd _ (aget_mem g)).2, fun g => ?_⟩⟩
  obtain ⟨f, hf, w, h1, h2, h3⟩ := g.1
  have hx : goW f.1 w ∈ R.map (·.1) := walk_found (c := f.2 + w.length + 1) (fun f hf => (I.fnd f hf).2) (fun g hg _ m hm => (I.clo g hg m hm).resolve_right (nil _ _)) w f.1 f.2 ((I.src f hf).resolve_right (nil _ _)) (Wk.own hf) h1 (by omega)
  rw [h2] at hx
  obtain ⟨e, he, rfl⟩ := List.mem_map.mp hx
  rw [g.uniq (I.fnd e he).2]
  exact aget_of_mem I.nd he
end
end L2.K10

/-! plain mathematics: the law's own costs -/
set_option linter.all false
namespace L2.K10
def aput (F : List (Sg × Nat)) (k : Sg) (n : Nat) : List (Sg × Nat) := if (aget F k).isSome then F.map (fun x => if x.1 = k then (x.1, n) else x) else F ++ [(k, n)]
def offer (L : List (Sg × Nat)) (o : Sg × Nat) : List (Sg × Nat) := aput L o.1 (min ((aget L o.1).getD 999) o.2)
def dpO (g b c : Nat) (L : List (Sg × Nat)) (f : Sg × Nat) : List (Sg × Nat) := if atG g b f = true then offer L (f.1, c + f.2) else L
def dpI (ties : List Tie) (g b : Nat) (L : List (Sg × Nat)) (e : Sg × Nat) : List (Sg × Nat) := (lensM (lawW ties e.1 6000)).foldl (dpO g b e.2) L
def dpS (ties : List Tie) (g : Nat) (C : List (Sg × Nat)) (b : Nat) : List (Sg × Nat) := C.foldl (dpI ties g b) []
theorem aput_keys {F : List (Sg × Nat)} {k : Sg} {n : Nat} : (aput F k n).map (·.1) = if (aget F k).isSome then F.map (·.1) else F.map (·.1) ++ [k] := by
  unfold aput
  split
  · rw [List.map_map]
    refine List.map_congr_left fun x _ => ?_
    show (if x.1 = k then (x.1, n) else x).1 = x.1
    split <;> rfl
  · simp
theorem aput_len (F : List (Sg × Nat)) (k : Sg) (n : Nat) : (aput F k n).length ≤ F.length + 1 := by
  unfold aput
  split <;> simp
theorem aput_nodup {F : List (Sg × Nat)} {k : Sg} {n : Nat} (h : (F.map (·.1)).Nodup) : ((aput F k n).map (·.1)).Nodup := by
  rw [aput_keys]
  split
  · exact h
  · rename_i hn
    refine List.nodup_append.mpr ⟨h, by simp, fun a ha b hb => ?_⟩
    simp at hb
    subst hb
    exact fun e => hn (aget_some_iff.mpr (e ▸ ha))
theorem aget_aput {F : List (Sg × Nat)} {k x : Sg} {n : Nat} : aget (aput F k n) x = if x = k then some n else aget F x := by
  unfold aput
  split
  · rename_i hs
    induction F with
    | nil => cases hs
    | cons f r ih =>
      rw [List.map_cons]
      by_cases hf : f.1 = k
      · rw [if_pos hf]
        by_cases hx : x = k
        · rw [if_pos hx, aget_pos (by rw [hx]; exact hf)]
        · rw [if_neg hx, aget_neg (f := (f.1, n)) (fun z => hx (by rw [← z]; exact hf)), aget_neg (fun z => hx (by rw [← z]; exact hf))]
          -- the rest holds no k or does: both alike
          have : ∀ r : List (Sg × Nat), aget (r.map fun x => if x.1 = k then (x.1, n) else x) x = aget r x := fun r => by
            induction r with
            | nil => rfl
            | cons e r ih =>
              rw [List.map_cons]
              by_cases he : e.1 = k
              · rw [if_pos he, aget_neg (f := (e.1, n)) (fun z => hx (by rw [← z]; exact he)), aget_neg (fun z => hx (by rw [← z]; exact he))]
                exact ih
              · rw [if_neg he]
                by_cases hex : e.1 = x
                · rw [aget_pos hex, aget_pos hex]
                · rw [aget_neg hex, aget_neg hex]
                  exact ih
          exact this r
      · rw [if_neg hf]
        rw [aget_neg hf] at hs
        by_cases hfx : f.1 = x
        · rw [aget_pos hfx, aget_pos hfx, if_neg (fun z => hf (by rw [hfx, z]))]
        · rw [aget_neg hfx, aget_neg hfx]
          exact ih hs
  · rename_i hs
    have hs : aget F k = none := by
      cases q : aget F k with
      | none => rfl
      | some v => rw [q] at hs; exact absurd rfl hs
    rw [aget_app]
    by_cases hx : x = k
    · rw [if_pos hx, hx, hs]
      exact aget_pos rfl
    · rw [if_neg hx]
      cases q : aget F x with
      | some v => rfl
      | none => exact (aget_neg (f := (k, n)) (fun z => hx z.symm)).trans aget_nil
/-- one key's offers -/
def oneO (x : Sg) (a : Option Nat) (o : Sg × Nat) : Option Nat := if o.1 = x then some (min (a.getD 999) o.2) else a
theorem aget_offer {L : List (Sg × Nat)} {o : Sg × Nat} {x : Sg} : aget (offer L o) x = oneO x (aget L x) o := by
  unfold offer oneO
  rw [aget_aput]
  by_cases h : o.1 = x
  · rw [if_pos h.symm, if_pos h, h]
  · rw [if_neg (fun z => h z.symm), if_neg h]
theorem aget_offers {x : Sg} : ∀ (l : List (Sg × Nat)) (L : List (Sg × Nat)), aget (l.foldl offer L) x = l.foldl (oneO x) (aget L x)
  | [], _ => rfl
  | o :: l, L => by rw [List.foldl_cons, List.foldl_cons, aget_offers l, aget_offer]
theorem offers_nodup : ∀ (l : List (Sg × Nat)) {L : List (Sg × Nat)}, (L.map (·.1)).Nodup → ((l.foldl offer L).map (·.1)).Nodup
  | [], _, h => h
  | o :: l, L, h => offers_nodup l (aput_nodup h)
theorem oneO_some {x : Sg} : ∀ (l : List (Sg × Nat)) (a : Option Nat) (v : Nat), (∀ o ∈ l, o.1 = x → o.2 ≤ 999) → (∀ u, a = some u → u ≤ 999) → l.foldl (oneO x) a = some v → (∀ u, a = some u → v ≤ u) ∧ (∀ o ∈ l, o.1 = x → v ≤ o.2) ∧ (a = some v ∨ ∃ o ∈ l, o.1 = x ∧ v = o.2)
  | [], a, v, _, _, h => ⟨fun u hu => by
      have : a = some v := h
      rw [this] at hu
      exact Nat.le_of_eq (Option.some.inj hu), (fun _ h => by cases h), .inl h⟩
  | o :: l, a, v, hl, ha, h => by
    rw [List.foldl_cons] at h
    by_cases e : o.1 = x
    · have e1 : oneO x a o = some (min (a.getD 999) o.2) := if_pos e
      rw [e1] at h
      have h9 := hl o List.mem_cons_self e
      obtain ⟨h1, h2, h3⟩ := oneO_some l _ v (fun p hp => hl p (List.mem_cons_of_mem _ hp)) (fun u hu => by
        have := Option.some.inj hu
        omega) h
      have h4 := h1 _ rfl
      refine ⟨fun u hu => ?_, fun p hp ep => ?_, ?_⟩
      · subst hu
        simp at h4
        omega
      · rcases List.mem_cons.mp hp with rfl | hp
        · omega
        · exact h2 p hp ep
      · rcases h3 with h3 | ⟨p, hp, ep, hv⟩
        · have h3 := Option.some.inj h3
          cases a with
          | none =>
            simp at h3
            exact .inr ⟨o, List.mem_cons_self, e, by omega⟩
          | some u =>
            simp at h3
            by_cases hu : u ≤ o.2
            · exact .inl (by rw [← h3]; congr 1; omega)
            · exact .inr ⟨o, List.mem_cons_self, e, by omega⟩
        · exact .inr ⟨p, List.mem_cons_of_mem _ hp, ep, hv⟩
    · have e1 : oneO x a o = a := if_neg e
      rw [e1] at h
      obtain ⟨h1, h2, h3⟩ := oneO_some l a v (fun p hp => hl p (List.mem_cons_of_mem _ hp)) ha h
      refine ⟨h1, fun p hp ep => ?_, ?_⟩
      · rcases List.mem_cons.mp hp with rfl | hp
        · exact absurd ep e
        · exact h2 p hp ep
      · rcases h3 with h3 | ⟨p, hp, ep, hv⟩
        · exact .inl h3
        · exact .inr ⟨p, List.mem_cons_of_mem _ hp, ep, hv⟩
theorem oneO_has {x : Sg} : ∀ (l : List (Sg × Nat)) (a : Option Nat), (a.isSome = true ∨ ∃ o ∈ l, o.1 = x) → (l.foldl (oneO x) a).isSome = true
  | [], a, h => by
    rcases h with h | ⟨o, ho, _⟩
    · exact h
    · cases ho
  | o :: l, a, h => by
    rw [List.foldl_cons]
    refine oneO_has l _ ?_
    by_cases e : o.1 = x
    · exact .inl (by rw [oneO, if_pos e]; rfl)
    · rw [oneO, if_neg e]
      rcases h with h | ⟨p, hp, ep⟩
      · exact .inl h
      · rcases List.mem_cons.mp hp with rfl | hp
        · exact absurd ep e
        · exact .inr ⟨p, hp, ep⟩
/-- the table of offers: each key's least -/
theorem offers_least {l : List (Sg × Nat)} (h9 : ∀ o ∈ l, o.2 ≤ 999) {x : Sg} {v : Nat} : aget (l.foldl offer []) x = some v ↔ (x, v) ∈ l ∧ ∀ u, (x, u) ∈ l → v ≤ u := by
  rw [aget_offers, aget_nil]
  have key : ∀ v, l.foldl (oneO x) none = some v → (x, v) ∈ l ∧ ∀ u, (x, u) ∈ l → v ≤ u := fun v h => by
    obtain ⟨_, h2, h3⟩ := oneO_some l none v (fun o ho _ => h9 o ho) (fun _ z => by cases z) h
    rcases h3 with h3 | ⟨⟨k, u⟩, ho, e, hv⟩
    · cases h3
    · simp only at e hv
      subst e hv
      exact ⟨ho, fun u hu => h2 _ hu rfl⟩
  refine ⟨key v, fun ⟨h1, h2⟩ => ?_⟩
  have hs := oneO_has (x := x) l none (.inr ⟨_, h1, rfl⟩)
  cases q : l.foldl (oneO x) none with
  | none => rw [q] at hs; cases hs
  | some u =>
    obtain ⟨h3, h4⟩ := key u q
    exact congrArg some (Nat.le_antisymm (h4 _ h1) (h2 _ h3))
/-- what one standing offers -/
def offs (ties : List Tie) (g b : Nat) (e : Sg × Nat) : List (Sg × Nat) := ((lensM (lawW ties e.1 6000)).filter (atG g b)).map fun f => (f.1, e.2 + f.2)
theorem dpI_offs (ties : List Tie) (g b : Nat) (L : List (Sg × Nat)) (e : Sg × Nat) : dpI ties g b L e = (offs ties g b e).foldl offer L := by
  unfold dpI offs
  generalize lensM (lawW ties e.1 6000) = F
  induction F generalizing L with
  | nil => rfl
  | cons f r ih =>
    rw [List.foldl_cons, ih, List.filter_cons]
    unfold dpO
    split <;> rfl
theorem foldl_flat {α β γ : Type} (f : β → γ → β) (k : α → List γ) (h : β → α → β) (e : ∀ L a, h L a = (k a).foldl f L) : ∀ (C : List α) (L : β), C.foldl h L = (C.flatMap k).foldl f L
  | [], _ => rfl
  | a :: C, L => by rw [List.foldl_cons, foldl_flat f k h e C, List.flatMap_cons, List.foldl_append, e]
theorem dpS_offs (ties : List Tie) (g b : Nat) (C L : List (Sg × Nat)) : C.foldl (dpI ties g b) L = (C.flatMap (offs ties g b)).foldl offer L := foldl_flat offer (offs ties g b) (dpI ties g b) (dpI_offs ties g b) C L
theorem dpS_nodup (ties : List Tie) (g b : Nat) (C : List (Sg × Nat)) : ((dpS ties g C b).map (·.1)).Nodup := by
  unfold dpS
  rw [dpS_offs]
  exact offers_nodup _ .nil
/-- the law's costs: the least, at the gate -/
theorem dpS_best {U : List Sg} {ties : List Tie} {g b : Nat} {C : List (Sg × Nat)} (hW : ∀ f ∈ C, BFS U ties f.1 (lawW ties f.1 6000)) (hC : ∀ f ∈ C, f.2 ≤ 900) {x : Sg} {v : Nat} : aget (dpS ties g C b) x = some v ↔ x.getD g none = some b ∧ Best ties C x v := by
  unfold dpS
  rw [dpS_offs]
  have mem : ∀ {x : Sg} {v : Nat}, (x, v) ∈ C.flatMap (offs ties g b) ↔ x.getD g none = some b ∧ ∃ e ∈ C, ∃ wd, (x, wd) ∈ lawW ties e.1 6000 ∧ v = e.2 + wd.length := fun {x v} => by
    rw [List.mem_flatMap]
    constructor
    · rintro ⟨e, he, h⟩
      obtain ⟨f, hf, z⟩ := List.mem_map.mp h
      obtain ⟨hf, hg⟩ := List.mem_filter.mp hf
      obtain ⟨w, hw, rfl⟩ := List.mem_map.mp hf
      cases z
      exact ⟨of_decide_eq_true hg, e, he, w.2, hw, rfl⟩
    · rintro ⟨hg, e, he, wd, hw, rfl⟩
      refine ⟨e, he, List.mem_map.mpr ⟨(x, wd.length), List.mem_filter.mpr ⟨List.mem_map.mpr ⟨(x, wd), hw, rfl⟩, decide_eq_true hg⟩, rfl⟩⟩
  have wk : ∀ {x : Sg} {v : Nat}, (x, v) ∈ C.flatMap (offs ties g b) → x.getD g none = some b ∧ Wk ties C x v := fun {x v} h => by
    obtain ⟨hg, e, he, wd, hw, rfl⟩ := mem.mp h
    obtain ⟨p1, p2⟩ := (hW e he).path _ hw
    exact ⟨hg, e, he, wd, p1, p2, rfl⟩
  -- every course is offered, or better
  have reach : ∀ {e : Sg × Nat}, e ∈ C → ∀ (w : Word) (y : Sg) (wd : Word), aget (lawW ties e.1 6000) y = some wd → okW ties y w → ∃ w2, aget (lawW ties e.1 6000) (goW y w) = some w2 ∧ w2.length ≤ wd.length + w.length := fun {e} he w => by
    induction w with
    | nil => exact fun y wd h _ => ⟨wd, h, Nat.le_refl _⟩
    | cons m w ih =>
      intro y wd h ho
      obtain ⟨x2, h2, h3⟩ := (hW e he).nb _ (aget_mem h) m ho.1
      obtain ⟨w2, h4, h5⟩ := ih _ _ h2 ho.2
      exact ⟨w2, h4, by rw [List.length_cons]; simp only at h3; omega⟩
  have better : ∀ {x : Sg} {v : Nat}, x.getD g none = some b → Wk ties C x v → ∃ u, u ≤ v ∧ (x, u) ∈ C.flatMap (offs ties g b) := fun {x v} hg h => by
    obtain ⟨e, he, w, h1, rfl, rfl⟩ := h
    obtain ⟨w2, h2, h3⟩ := reach he w e.1 [] (hW e he).own h1
    exact ⟨e.2 + w2.length, by simp at h3; omega, mem.mpr ⟨hg, e, he, w2, aget_mem h2, rfl⟩⟩
  rw [offers_least (fun o ho => by
    obtain ⟨_, e, he, wd, hw, hv⟩ := mem.mp (show (o.1, o.2) ∈ _ from ho)
    have h1 := hC e he
    have h2 := (hW e he).wl _ hw
    simp only at h2
    omega)]
  constructor
  · rintro ⟨h1, h2⟩
    obtain ⟨hg, hw⟩ := wk h1
    refine ⟨hg, hw, fun v' hv' => ?_⟩
    obtain ⟨u, hu, hm⟩ := better hg hv'
    exact Nat.le_trans (h2 u hm) hu
  · rintro ⟨hg, hb⟩
    obtain ⟨u, hu, hm⟩ := better hg hb.1
    have := hb.2 u (wk hm).2
    obtain rfl : u = v := Nat.le_antisymm hu this
    exact ⟨hm, fun u hu => hb.2 u (wk hu).2⟩
end L2.K10

/-! plain mathematics: slides go back; the asks -/
set_option linter.all false
namespace L2.K10
theorem near_symm {ties : List Tie} {p o : Nat} (h : o ∈ nearM ties p) : p ∈ nearM ties o := by
  unfold nearM nearL nearR
  refine (isrt_perm _).mem_iff.mpr (List.mem_append.mpr ?_)
  rcases mem_nearM h with z | z
  · exact .inr (List.mem_map.mpr ⟨_, List.mem_filter.mpr ⟨z, by simp⟩, rfl⟩)
  · exact .inl (List.mem_map.mpr ⟨_, List.mem_filter.mpr ⟨z, by simp⟩, rfl⟩)
theorem slides_mem {ties : List Tie} {s : Sg} {p o : Nat} (h1 : p < s.length) (h2 : (s.getD p none).isSome = true) (h3 : o ∈ nearM ties p) (h4 : s[o]? = some none) : (p, o) ∈ slidesM ties s := by
  unfold slidesM
  refine List.mem_flatMap.mpr ⟨p, List.mem_range.mpr h1, ?_⟩
  rw [if_pos h2]
  unfold slidesAt holesM
  exact List.mem_map.mpr ⟨o, List.mem_filter.mpr ⟨h3, by simpa using h4⟩, rfl⟩
theorem slid_back {ties : List Tie} {s : Sg} {m : Nat × Nat} (h : m ∈ slidesM ties s) : (m.2, m.1) ∈ slidesM ties (slidM s m) ∧ slidM (slidM s m) (m.2, m.1) = s := by
  obtain ⟨h1, h2, h3, h4⟩ := mem_slidesM h
  obtain ⟨_, h5, hne⟩ := slides_ok h
  obtain ⟨x, hx⟩ := Option.isSome_iff_exists.mp h2
  have l2 : m.2 < (s.set m.1 none).length := by rw [List.length_set]; exact h5
  have g2 : (slidM s m).getD m.2 none = some x := by
    unfold slidM
    rw [List.getD_eq_getElem?_getD, List.getElem?_set_self l2, hx]
    rfl
  have g1 : (slidM s m)[m.1]? = some none := by
    unfold slidM
    rw [List.getElem?_set_ne (fun z => hne z.symm), List.getElem?_set_self h1]
  refine ⟨slides_mem (by rw [slidM_len]; exact h5) (by rw [g2]; rfl) (near_symm h3) g1, ?_⟩
  unfold slidM at g2
  show ((slidM s m).set m.2 none).set m.1 ((slidM s m).getD m.2 none) = s
  unfold slidM
  rw [g2]
  refine List.ext_getElem? fun i => ?_
  by_cases i1 : i = m.1
  · subst i1
    rw [List.getElem?_set_self (by simp; exact h1)]
    rw [List.getD_eq_getElem?_getD] at hx
    cases q : s[m.1]? with
    | none => rw [q] at hx; cases hx
    | some y => rw [q] at hx; exact congrArg some hx.symm
  · rw [List.getElem?_set_ne (fun z => i1 z.symm)]
    by_cases i2 : i = m.2
    · subst i2
      rw [List.getElem?_set_self (by simp; exact h5), h4]
    · rw [List.getElem?_set_ne (fun z => i2 z.symm), List.getElem?_set_ne (fun z => i2 z.symm), List.getElem?_set_ne (fun z => i1 z.symm)]
theorem okW_app {ties : List Tie} : ∀ {w v : Word} {s : Sg}, okW ties s w → okW ties (goW s w) v → okW ties s (w ++ v)
  | [], _, _, _, h => h
  | _ :: _, _, _, h, g => ⟨h.1, okW_app h.2 g⟩
theorem goW_app (s : Sg) (w v : Word) : goW s (w ++ v) = goW (goW s w) v := by
  unfold goW
  rw [List.foldl_append]
theorem way_back {ties : List Tie} : ∀ {w : Word} {s : Sg}, okW ties s w → ∃ v, okW ties (goW s w) v ∧ goW (goW s w) v = s
  | [], s, _ => ⟨[], trivial, rfl⟩
  | m :: w, s, h => by
    obtain ⟨v, h1, h2⟩ := way_back h.2
    obtain ⟨b1, b2⟩ := slid_back h.1
    refine ⟨v ++ [(m.2, m.1)], ?_, ?_⟩
    · refine okW_snoc h1 ?_
      show _ ∈ slidesM ties (goW (goW (slidM s m) w) v)
      rw [h2]
      exact b1
    · rw [goW_snoc]
      show slidM (goW (goW (slidM s m) w) v) _ = s
      rw [h2]
      exact b2
theorem BFS.reach {U : List Sg} {ties : List Tie} {s : Sg} {R : List (Sg × Word)} (B : BFS U ties s R) : ∀ (w : Word) (y : Sg) (wd : Word), aget R y = some wd → okW ties y w → ∃ w2, aget R (goW y w) = some w2 ∧ w2.length ≤ wd.length + w.length
  | [], _, wd, h, _ => ⟨wd, h, Nat.le_refl _⟩
  | m :: w, y, wd, h, o => by
    obtain ⟨x, h1, h2⟩ := B.nb _ (aget_mem h) m o.1
    obtain ⟨w2, h3, h4⟩ := B.reach w _ x h1 o.2
    exact ⟨w2, h3, by rw [List.length_cons]; simp only at h2; omega⟩
theorem BFS.goes {U : List Sg} {ties : List Tie} {s : Sg} {R : List (Sg × Word)} (B : BFS U ties s R) {w : Word} (h : okW ties s w) : ∃ w2, aget R (goW s w) = some w2 := let ⟨w2, h2, _⟩ := B.reach w s [] B.own h; ⟨w2, h2⟩
/-- what a program's yard and its standings are -/
structure Fld (n : Nat) (ties : List Tie) (U : List Sg) : Prop where
  tg : TiG n ties
  clo : Clo ties U
  len : ∀ k ∈ U, k.length = n
  few : ∀ k ∈ U, (slidesM ties k).length ≤ 60
/-- two tables of the same entries -/
structure Same (C C' : List (Sg × Nat)) : Prop where
  n1 : (C.map (·.1)).Nodup
  n2 : (C'.map (·.1)).Nodup
  mem : ∀ f, f ∈ C ↔ f ∈ C'
theorem Same.best {ties : List Tie} {C C' : List (Sg × Nat)} (S : Same C C') {x : Sg} {v : Nat} : Best ties C x v ↔ Best ties C' x v := by
  have wk : ∀ v, Wk ties C x v ↔ Wk ties C' x v := fun v => ⟨fun ⟨f, h, r⟩ => ⟨f, (S.mem f).mp h, r⟩, fun ⟨f, h, r⟩ => ⟨f, (S.mem f).mpr h, r⟩⟩
  unfold Best
  rw [wk]
  exact and_congr_right fun _ => ⟨fun h v' g => h v' ((wk _).mpr g), fun h v' g => h v' ((wk _).mp g)⟩
theorem aget_iff {F : List (Sg × Nat)} (h : (F.map (·.1)).Nodup) {f : Sg × Nat} : f ∈ F ↔ aget F f.1 = some f.2 := ⟨fun z => aget_of_mem h z, fun z => aget_mem z⟩
section
variable {n g : Nat} {ties : List Tie} {U : List Sg}
theorem Fld.bfs (A : Fld n ties U) {s : Sg} (hs : s ∈ U) : pRun ties 24 [(s, [])] [s] = some (lawW ties s 6000) ∧ BFS U ties s (lawW ties s 6000) := by
  obtain ⟨R, h, B⟩ := L2.K10.bfs A.tg A.clo hs
  rw [B.law 6000 (Nat.le_trans B.len (by decide))]
  exact ⟨h, B⟩
theorem dp_nil (ties : List Tie) (g : Nat) : ∀ bs : List Nat, bs.foldl (dpS ties g) [] = []
  | [] => rfl
  | _ :: bs => dp_nil ties g bs
/-- the costs of asks, the law's -/
structure COk (U : List Sg) (B : Nat) (C : List (Sg × Nat)) : Prop where
  inU : ∀ f ∈ C, f.1 ∈ U
  le : ∀ f ∈ C, f.2 ≤ B
theorem best_le (A : Fld n ties U) {C : List (Sg × Nat)} {B : Nat} (O : COk U B C) {x : Sg} {v : Nat} (h : Best ties C x v) : v ≤ B + 24 ∧ x ∈ U := by
  obtain ⟨f, hf, w, h1, rfl, _⟩ := h.1
  obtain ⟨_, bf⟩ := A.bfs (O.inU f hf)
  obtain ⟨w2, h2⟩ := bf.goes h1
  obtain ⟨p1, p2⟩ := bf.path _ (aget_mem h2)
  have h3 := bf.wl _ (aget_mem h2)
  have h4 := h.2 (f.2 + w2.length) ⟨f, hf, w2, p1, p2, rfl⟩
  have h5 := O.le f hf
  simp only at h3
  exact ⟨by omega, bf.inU _ (aget_mem h2)⟩
theorem cAft_best (A : Fld n ties U) {C : List (Sg × Nat)} {B : Nat} (O : COk U B C) {k : Nat} (hk : B + 25 ≤ k) : ∃ W, cAft n ties k C = some W ∧ (W.map (·.1)).Nodup ∧ ∀ x v, aget W x = some v ↔ Best ties C x v := by
  obtain ⟨W, h1, h2, h3, h4, h5⟩ := costs_best A.clo O.inU O.le hk
  refine ⟨W, ?_, h3, h5⟩
  unfold cAft
  rw [h1]
  refine if_pos ?_
  unfold cOk
  rw [Bool.and_eq_true, List.all_eq_true]
  refine ⟨Nat.ble_eq_true_of_le (by omega), fun f hf => ?_⟩
  rw [Bool.and_eq_true]
  exact ⟨by rw [A.len _ (h4 f hf)]; exact Nat.beq_refl n, Nat.ble_eq_true_of_le (A.few _ (h4 f hf))⟩
/-- one ask: the program's table and the law's -/
theorem ask_same (A : Fld n ties U) {C C' W : List (Sg × Nat)} {B : Nat} (S : Same C C') (O : COk U B C) (hB : B ≤ 900) (hn : (W.map (·.1)).Nodup) (hW : ∀ x v, aget W x = some v ↔ Best ties C x v) (b : Nat) : Same (W.filter (atG g b)) (dpS ties g C' b) ∧ COk U (B + 24) (W.filter (atG g b)) := by
  have O' : COk U B C' := ⟨fun f hf => O.inU f ((S.mem f).mpr hf), fun f hf => O.le f ((S.mem f).mpr hf)⟩
  have hd : ∀ {x v}, aget (dpS ties g C' b) x = some v ↔ x.getD g none = some b ∧ Best ties C' x v := dpS_best (U := U) (fun f hf => (A.bfs (O'.inU f hf)).2) (fun f hf => Nat.le_trans (O'.le f hf) hB)
  have hm : ∀ f, f ∈ W.filter (atG g b) ↔ f.1.getD g none = some b ∧ Best ties C f.1 f.2 := fun f => by
    rw [List.mem_filter, aget_iff hn, hW, and_comm]
    exact and_congr_left fun _ => decide_eq_true_iff
  refine ⟨⟨hn.sublist (List.filter_sublist.map _), dpS_nodup _ _ _ _, fun f => ?_⟩, fun f hf => ?_, fun f hf => ?_⟩
  · rw [hm, aget_iff (dpS_nodup ties g b C'), hd, S.best]
  · exact (best_le A O ((hm f).mp hf).2).2
  · exact (best_le A O ((hm f).mp hf).2).1
theorem Same.nil {C : List (Sg × Nat)} (S : Same [] C) : C = [] := List.eq_nil_iff_forall_not_mem.mpr fun f hf => by cases (S.mem f).mpr hf
theorem Same.ne {C C' : List (Sg × Nat)} (S : Same C C') (h : C ≠ []) : C' ≠ [] := fun z => by
  subst z
  exact h (List.eq_nil_iff_forall_not_mem.mpr fun f hf => by cases (S.mem f).mp hf)
/-- fewest_slides -/
theorem few_main (A : Fld n ties U) : ∀ (bs : List Nat) (C C' : List (Sg × Nat)) (B : Nat), Same C C' → C ≠ [] → COk U B C → B + 24 * bs.length ≤ 900 →
    ∃ res, fewM n ties 1000 g bs C = some res ∧ ((res = none ∧ bs.foldl (dpS ties g) C' = []) ∨ ∃ Cp, res = some Cp ∧ Cp ≠ [] ∧ Same Cp (bs.foldl (dpS ties g) C'))
  | [], C, C', B, S, h0, _, _ => ⟨some C, rfl, .inr ⟨C, rfl, h0, S⟩⟩
  | b :: bs, C, C', B, S, h0, O, hB => by
    rw [List.length_cons] at hB
    obtain ⟨W, h1, h2, h3⟩ := cAft_best A O (k := 1000) (by omega)
    obtain ⟨S2, O2⟩ := ask_same (g := g) A S O (by omega) h2 h3 b
    unfold fewM
    rw [h1, List.foldl_cons]
    dsimp only
    cases q : W.filter (atG g b) with
    | nil =>
      rw [q] at S2
      exact ⟨none, rfl, .inl ⟨rfl, by rw [S2.nil]; exact dp_nil ties g bs⟩⟩
    | cons f t =>
      rw [q] at S2 O2
      exact few_main A bs (f :: t) _ (B + 24) S2 (by simp) O2 (by omega)
/-- costs are left only if each ask's book can come -/
theorem dp_come (A : Fld n ties U) {s : Sg} : ∀ (bs : List Nat) (C : List (Sg × Nat)) (B : Nat), COk U B C → (C.map (·.1)).Nodup → B + 24 * bs.length ≤ 900 → (∀ f ∈ C, ∃ w, okW ties s w ∧ goW s w = f.1) → bs.foldl (dpS ties g) C ≠ [] → ∀ b ∈ bs, ∃ w, okW ties s w ∧ (goW s w).getD g none = some b
  | [], _, _, _, _, _, _, _, b, hb => by cases hb
  | b :: bs, C, B, O, hn, hB, hs, hne, b', hb' => by
    rw [List.length_cons] at hB
    rw [List.foldl_cons] at hne
    have hd : ∀ {x v}, aget (dpS ties g C b) x = some v ↔ x.getD g none = some b ∧ Best ties C x v := dpS_best (U := U) (fun f hf => (A.bfs (O.inU f hf)).2) (fun f hf => Nat.le_trans (O.le f hf) (by omega))
    have hm : ∀ f ∈ dpS ties g C b, f.1.getD g none = some b ∧ Best ties C f.1 f.2 := fun f hf => hd.mp ((aget_iff (dpS_nodup ties g b C)).mp hf)
    have hw : ∀ f ∈ dpS ties g C b, ∃ w, okW ties s w ∧ goW s w = f.1 := fun f hf => by
      obtain ⟨e, he, w, h1, h2, _⟩ := (hm f hf).2.1
      obtain ⟨v, h3, h4⟩ := hs e he
      exact ⟨v ++ w, okW_app h3 (by rw [h4]; exact h1), by rw [goW_app, h4, h2]⟩
    rcases List.mem_cons.mp hb' with rfl | hb'
    · have : dpS ties g C b' ≠ [] := fun z => hne (by rw [z]; exact dp_nil ties g bs)
      obtain ⟨f, hf⟩ := List.exists_mem_of_ne_nil _ this
      obtain ⟨w, h1, h2⟩ := hw f hf
      exact ⟨w, h1, by rw [h2]; exact (hm f hf).1⟩
    · exact dp_come A bs (dpS ties g C b) (B + 24) ⟨fun f hf => (best_le A O (hm f hf).2).2, fun f hf => (best_le A O (hm f hf).2).1⟩ (dpS_nodup _ _ _ _) (by omega) hw hne b' hb'
theorem minNW_mem : ∀ (xs : List (Nat × Word)) (x : Nat × Word), minNW x xs ∈ x :: xs
  | [], x => List.mem_cons_self
  | y :: xs, x => by
    have := minNW_mem xs (if nwLt y x = true then y else x)
    have e : minNW x (y :: xs) = minNW (if nwLt y x = true then y else x) xs := rfl
    rw [e]
    rcases List.mem_cons.mp this with h | h
    · rw [h]
      split
      · exact List.mem_cons_of_mem _ List.mem_cons_self
      · exact List.mem_cons_self
    · exact List.mem_cons_of_mem _ (List.mem_cons_of_mem _ h)
theorem wFrom_ok (A : Fld n ties U) {s : Sg} (hs : s ∈ U) : wFrom n ties 24 s = some (lawW ties s 6000) := by
  obtain ⟨h, B⟩ := A.bfs hs
  generalize lawW ties s 6000 = R at h B ⊢
  unfold wFrom
  rw [h]
  refine if_pos ?_
  unfold wOk
  have l := B.len
  rw [Bool.and_eq_true, List.all_eq_true]
  refine ⟨Nat.ble_eq_true_of_le (by omega), fun f hf => ?_⟩
  have := B.wl f hf
  rw [Bool.and_eq_true]
  exact ⟨by rw [A.len _ (B.inU f hf)]; exact Nat.beq_refl n, Nat.ble_eq_true_of_le (by omega)⟩
/-- one ask of nearest_slides -/
theorem near_step {k : Nat} {s : Sg} {R : List (Sg × Word)} (hW : wFrom n ties k s = some R) (B : BFS U ties s R) {b : Nat} {bs : List Nat} (hb : ∃ w, okW ties s w ∧ (goW s w).getD g none = some b) (t : Nat) : ∃ f u, f ∈ R ∧ nearR' n ties k g (b :: bs) s t = nearR' n ties k g bs f.1 u := by
  have hne : (R.filter (wayAt g b)).map (fun f => (f.2.length, f.2)) ≠ [] := fun z => by
    obtain ⟨w, h1, h2⟩ := hb
    obtain ⟨w2, h3⟩ := B.goes h1
    have : (goW s w, w2) ∈ R.filter (wayAt g b) := List.mem_filter.mpr ⟨aget_mem h3, decide_eq_true h2⟩
    rw [List.map_eq_nil_iff.mp z] at this
    cases this
  rw [nearR'.eq_2, hW]
  dsimp only
  cases q : (R.filter (wayAt g b)).map (fun f => (f.2.length, f.2)) with
  | nil => exact absurd q hne
  | cons x xs =>
    dsimp only
    have hmem := minNW_mem xs x
    rw [← q] at hmem
    obtain ⟨f0, hf0, e0⟩ := List.mem_map.mp hmem
    have hin : f0 ∈ R.filter (fun f => decide (f.2 = (minNW x xs).2)) := List.mem_filter.mpr ⟨(List.mem_filter.mp hf0).1, decide_eq_true (by rw [← e0])⟩
    cases q2 : R.filter (fun f => decide (f.2 = (minNW x xs).2)) with
    | nil => rw [q2] at hin; cases hin
    | cons f fs => exact ⟨f, _, (List.mem_filter.mp (by rw [q2]; exact List.mem_cons_self : f ∈ R.filter fun f => decide (f.2 = (minNW x xs).2))).1, rfl⟩
/-- nearest_slides, when every book can come -/
theorem near_main (A : Fld n ties U) (bs : List Nat) : ∀ (s : Sg) (t : Nat), s ∈ U → (∀ b ∈ bs, ∃ w, okW ties s w ∧ (goW s w).getD g none = some b) → ∃ tt, nearR' n ties 24 g bs s t = some (some tt) := by
  induction bs with
  | nil => exact fun _ t _ _ => ⟨t, rfl⟩
  | cons b bs ih =>
    intro s t hs hb
    obtain ⟨R, hR⟩ : ∃ R, R = lawW ties s 6000 := ⟨_, rfl⟩
    have hW := wFrom_ok A hs
    have B := (A.bfs hs).2
    rw [← hR] at hW B
    obtain ⟨f, u, hf, e⟩ := near_step (g := g) (bs := bs) hW B (hb b List.mem_cons_self) t
    rw [e]
    obtain ⟨p1, p2⟩ := B.path f hf
    refine ih f.1 u (B.inU f hf) fun b' hb' => ?_
    obtain ⟨w, h1, h2⟩ := hb b' (List.mem_cons_of_mem _ hb')
    obtain ⟨v, h3, h4⟩ := way_back p1
    rw [p2] at h3 h4
    exact ⟨v ++ w, okW_app h3 (by rw [h4]; exact h1), by rw [goW_app, h4]; exact h2⟩
end
end L2.K10

/-! plain mathematics: the farthest ask -/
set_option linter.all false
namespace L2.K10
theorem kPut_keys {F : List (Nat × Nat)} {b n : Nat} : (kPut F b n).map (·.1) = if (F.any fun e => decide (e.1 = b)) = true then F.map (·.1) else F.map (·.1) ++ [b] := by
  unfold kPut
  split
  · rw [List.map_map]
    refine List.map_congr_left fun x _ => ?_
    show (if x.1 = b then (x.1, n) else x).1 = x.1
    split <;> rfl
  · simp
theorem kGet_cons {e : Nat × Nat} {F : List (Nat × Nat)} {x : Nat} : kGet (e :: F) x = if e.1 = x then some e.2 else kGet F x := by
  unfold kGet
  rw [List.find?_cons]
  by_cases h : e.1 = x
  · rw [if_pos h, decide_eq_true h]
    rfl
  · rw [if_neg h, decide_eq_false h]
theorem kGet_map {F : List (Nat × Nat)} {b n x : Nat} : kGet (F.map fun e => if e.1 = b then (e.1, n) else e) x = if x = b then (kGet F x).map (fun _ => n) else kGet F x := by
  induction F with
  | nil => simp [kGet]
  | cons e F ih =>
    rw [List.map_cons, kGet_cons, kGet_cons, ih]
    by_cases h : e.1 = b
    · rw [if_pos h]
      by_cases hx : x = b
      · rw [if_pos hx, if_pos (h.trans hx.symm), if_pos (h.trans hx.symm), if_pos hx]
        rfl
      · have : ¬ e.1 = x := fun z => hx (z.symm.trans h)
        rw [if_neg this, if_neg hx, if_neg hx, if_neg this]
    · rw [if_neg h]
      by_cases he : e.1 = x
      · have hx : ¬ x = b := fun z => h (he.trans z)
        rw [if_pos he, if_neg hx, if_pos he]
      · rw [if_neg he, if_neg he]
theorem kHas_iff {F : List (Nat × Nat)} {b : Nat} : (F.any fun e => decide (e.1 = b)) = true ↔ b ∈ F.map (·.1) := by
  rw [List.any_eq_true, List.mem_map]
  exact ⟨fun ⟨e, h1, h2⟩ => ⟨e, h1, of_decide_eq_true h2⟩, fun ⟨e, h1, h2⟩ => ⟨e, h1, decide_eq_true h2⟩⟩
theorem kGet_app {F G : List (Nat × Nat)} {x : Nat} : kGet (F ++ G) x = match kGet F x with | some v => some v | none => kGet G x := by
  induction F with
  | nil => rfl
  | cons e F ih =>
    rw [List.cons_append, kGet_cons, kGet_cons, ih]
    split <;> rfl
theorem kGet_some {F : List (Nat × Nat)} {x : Nat} : (kGet F x).isSome = true ↔ x ∈ F.map (·.1) := by
  induction F with
  | nil => simp [kGet]
  | cons e F ih =>
    rw [kGet_cons, List.map_cons, List.mem_cons]
    by_cases h : e.1 = x
    · rw [if_pos h]
      exact ⟨fun _ => .inl h.symm, fun _ => rfl⟩
    · rw [if_neg h, ih]
      exact ⟨.inr, fun z => z.resolve_left fun q => h q.symm⟩
theorem kGet_put {F : List (Nat × Nat)} {b n x : Nat} : kGet (kPut F b n) x = if x = b then some n else kGet F x := by
  unfold kPut
  split
  · rename_i h
    rw [kGet_map]
    by_cases hx : x = b
    · rw [if_pos hx, if_pos hx]
      subst hx
      have := kGet_some.mpr (kHas_iff.mp h)
      cases q : kGet F x with
      | none => rw [q] at this; cases this
      | some v => rfl
    · rw [if_neg hx, if_neg hx]
  · rename_i h
    rw [kGet_app, kGet_cons]
    by_cases hx : x = b
    · subst hx
      rw [if_pos rfl, if_pos rfl]
      cases q : kGet F x with
      | none => rfl
      | some v => exact absurd (kHas_iff.mpr (kGet_some.mp (by rw [q]; rfl))) h
    · rw [if_neg (fun z => hx z.symm), if_neg hx]
      cases kGet F x <;> rfl
theorem kPut_nodup {F : List (Nat × Nat)} {b n : Nat} (h : (F.map (·.1)).Nodup) : ((kPut F b n).map (·.1)).Nodup := by
  rw [kPut_keys]
  split
  · exact h
  · rename_i hn
    refine List.nodup_append.mpr ⟨h, by simp, fun a ha c hc => ?_⟩
    simp at hc
    subst hc
    exact fun e => hn (kHas_iff.mpr (e ▸ ha))
/-- one book's least so far -/
def oneF (g x : Nat) (a : Option Nat) (f : Sg × Word) : Option Nat := if f.1.getD g none = some x then some (min (a.getD f.2.length) f.2.length) else a
theorem kGet_far {g x : Nat} {F : List (Nat × Nat)} {f : Sg × Word} : kGet (farStep g F f) x = oneF g x (kGet F x) f := by
  unfold farStep oneF
  cases h : f.1.getD g none with
  | none => rw [if_neg (fun z => by cases z)]
  | some b =>
    dsimp only
    rw [kGet_put]
    by_cases hx : x = b
    · rw [if_pos hx, if_pos (by rw [hx]), hx]
    · rw [if_neg hx, if_neg (fun z => hx (Option.some.inj z).symm)]
theorem kGet_fars {g x : Nat} : ∀ (R : List (Sg × Word)) (F : List (Nat × Nat)), kGet (R.foldl (farStep g) F) x = R.foldl (oneF g x) (kGet F x)
  | [], _ => rfl
  | f :: R, F => by rw [List.foldl_cons, List.foldl_cons, kGet_fars R, kGet_far]
theorem far_nodup {g : Nat} : ∀ (R : List (Sg × Word)) (F : List (Nat × Nat)), (F.map (·.1)).Nodup → ((R.foldl (farStep g) F).map (·.1)).Nodup
  | [], _, h => h
  | f :: R, F, h => by
    refine far_nodup R _ ?_
    unfold farStep
    split
    · exact h
    · exact kPut_nodup h
theorem oneF_some {g x : Nat} : ∀ (l : List (Sg × Word)) (a : Option Nat) (v : Nat), l.foldl (oneF g x) a = some v → (∀ u, a = some u → v ≤ u) ∧ (∀ f ∈ l, f.1.getD g none = some x → v ≤ f.2.length) ∧ (a = some v ∨ ∃ f ∈ l, f.1.getD g none = some x ∧ v = f.2.length)
  | [], a, v, h => ⟨fun u hu => by
      have : a = some v := h
      rw [this] at hu
      exact Nat.le_of_eq (Option.some.inj hu), (fun _ h => by cases h), .inl h⟩
  | f :: l, a, v, h => by
    rw [List.foldl_cons] at h
    by_cases e : f.1.getD g none = some x
    · have e1 : oneF g x a f = some (min (a.getD f.2.length) f.2.length) := if_pos e
      rw [e1] at h
      obtain ⟨h1, h2, h3⟩ := oneF_some l _ v h
      have h4 := h1 _ rfl
      refine ⟨fun u hu => ?_, fun p hp ep => ?_, ?_⟩
      · subst hu
        simp at h4
        omega
      · rcases List.mem_cons.mp hp with rfl | hp
        · omega
        · exact h2 p hp ep
      · rcases h3 with h3 | ⟨p, hp, ep, hv⟩
        · have h3 := Option.some.inj h3
          cases a with
          | none =>
            simp at h3
            exact .inr ⟨f, List.mem_cons_self, e, by omega⟩
          | some u =>
            simp at h3
            by_cases hu : u ≤ f.2.length
            · exact .inl (by rw [← h3]; congr 1; omega)
            · exact .inr ⟨f, List.mem_cons_self, e, by omega⟩
        · exact .inr ⟨p, List.mem_cons_of_mem _ hp, ep, hv⟩
    · have e1 : oneF g x a f = a := if_neg e
      rw [e1] at h
      obtain ⟨h1, h2, h3⟩ := oneF_some l a v h
      refine ⟨h1, fun p hp ep => ?_, ?_⟩
      · rcases List.mem_cons.mp hp with rfl | hp
        · exact absurd ep e
        · exact h2 p hp ep
      · rcases h3 with h3 | ⟨p, hp, ep, hv⟩
        · exact .inl h3
        · exact .inr ⟨p, List.mem_cons_of_mem _ hp, ep, hv⟩
theorem oneF_has {g x : Nat} : ∀ (l : List (Sg × Word)) (a : Option Nat), (a.isSome = true ∨ ∃ f ∈ l, f.1.getD g none = some x) → (l.foldl (oneF g x) a).isSome = true
  | [], a, h => by
    rcases h with h | ⟨o, ho, _⟩
    · exact h
    · cases ho
  | f :: l, a, h => by
    rw [List.foldl_cons]
    refine oneF_has l _ ?_
    by_cases e : f.1.getD g none = some x
    · exact .inl (by rw [oneF, if_pos e]; rfl)
    · rw [oneF, if_neg e]
      rcases h with h | ⟨p, hp, ep⟩
      · exact .inl h
      · rcases List.mem_cons.mp hp with rfl | hp
        · exact absurd ep e
        · exact .inr ⟨p, hp, ep⟩
/-- m is the least length of a word to a standing with b at the gate -/
def LeastW (g : Nat) (R : List (Sg × Word)) (b m : Nat) : Prop := (∃ f ∈ R, f.1.getD g none = some b ∧ m = f.2.length) ∧ ∀ f ∈ R, f.1.getD g none = some b → m ≤ f.2.length
theorem kGet_mem {F : List (Nat × Nat)} : (F.map (·.1)).Nodup → ∀ {b v : Nat}, (b, v) ∈ F ↔ kGet F b = some v := by
  induction F with
  | nil => intro _ b v; simp [kGet]
  | cons e F ih =>
    intro hn b v
    rw [List.map_cons, List.nodup_cons] at hn
    rw [kGet_cons, List.mem_cons]
    by_cases h : e.1 = b
    · rw [if_pos h]
      constructor
      · rintro (z | z)
        · rw [← z]
        · exact absurd (List.mem_map.mpr ⟨_, z, h.symm⟩) hn.1
      · intro z
        exact .inl (Prod.ext h.symm (Option.some.inj z).symm)
    · rw [if_neg h, ← ih hn.2]
      exact ⟨fun z => z.resolve_left fun q => h (by rw [← q]), .inr⟩
theorem far_mem {g : Nat} {R : List (Sg × Word)} {b v : Nat} : (b, v) ∈ farF g R ↔ LeastW g R b v := by
  unfold farF
  rw [kGet_mem (far_nodup R [] .nil), kGet_fars]
  have key : ∀ v, R.foldl (oneF g b) (kGet [] b) = some v → LeastW g R b v := fun v h => by
    obtain ⟨_, h2, h3⟩ := oneF_some R _ v h
    exact ⟨(h3.resolve_left fun z => nomatch (show (none : Option Nat) = some v from z)), h2⟩
  refine ⟨key v, fun ⟨⟨f, hf, e, hv⟩, h2⟩ => ?_⟩
  have hs := oneF_has (g := g) (x := b) R (kGet [] b) (.inr ⟨f, hf, e⟩)
  cases q : R.foldl (oneF g b) (kGet [] b) with
  | none => rw [q] at hs; cases hs
  | some u =>
    obtain ⟨⟨f2, hf2, e2, hu⟩, h4⟩ := key u q
    exact congrArg some (Nat.le_antisymm (hv ▸ h4 f hf e) (hu ▸ h2 f2 hf2 e2))
/-- the books at the gate -/
def comeL (g : Nat) (R : List (Sg × Word)) : List Nat := R.filterMap fun f => f.1.getD g none
theorem mem_comeL {g : Nat} {R : List (Sg × Word)} {b : Nat} : b ∈ comeL g R ↔ ∃ f ∈ R, f.1.getD g none = some b := List.mem_filterMap
theorem far_keys {g : Nat} {R : List (Sg × Word)} {b : Nat} : b ∈ (farF g R).map (·.1) ↔ b ∈ comeL g R := by
  rw [mem_comeL, ← kGet_some]
  unfold farF
  rw [kGet_fars]
  constructor
  · intro h
    obtain ⟨v, hv⟩ := Option.isSome_iff_exists.mp h
    obtain ⟨_, _, h3⟩ := oneF_some R _ v hv
    obtain ⟨f, h1, h2, _⟩ := h3.resolve_left fun z => nomatch (show (none : Option Nat) = some v from z)
    exact ⟨f, h1, h2⟩
  · exact fun h => oneF_has R _ (.inr h)
/-- as many as the law's sorted set holds -/
theorem come_len {g : Nat} {R : List (Sg × Word)} {ns : List Int} (h1 : ns.Pairwise (· < ·)) (h2 : ∀ k : Int, k ∈ ns ↔ k ∈ (comeL g R).map (fun n : Nat => (n : Int))) : ns.length = (farF g R).length := by
  have hn : ns.Nodup := h1.imp fun h e => by omega
  have hf : ((farF g R).map fun e => (e.1 : Int)).Nodup := by
    have := far_nodup (g := g) R [] .nil
    have h3 : ((R.foldl (farStep g) []).map (·.1)).Pairwise (· ≠ ·) := this
    rw [List.pairwise_map] at h3
    exact List.pairwise_map.mpr (h3.imp fun h e => h (by omega))
  have hm : ∀ k : Int, k ∈ ((farF g R).map fun e => (e.1 : Int)) ↔ k ∈ ns := fun k => by
    rw [h2, List.mem_map, List.mem_map]
    constructor
    · rintro ⟨e, he, rfl⟩
      exact ⟨e.1, far_keys.mp (List.mem_map.mpr ⟨e, he, rfl⟩), rfl⟩
    · rintro ⟨b, hb, rfl⟩
      obtain ⟨e, he, rfl⟩ := List.mem_map.mp (far_keys.mpr hb)
      exact ⟨e, he, rfl⟩
  have a := nodup_few hn (m := (farF g R).map fun e => (e.1 : Int)) fun x hx => (hm x).mpr hx
  have b := nodup_few hf (m := ns) fun x hx => (hm x).mp hx
  rw [List.length_map] at a b
  omega
/-- all books come, if so many do -/
theorem come_all {g nb : Nat} {R : List (Sg × Word)} (h : (farF g R).length = nb) (hlt : ∀ b ∈ comeL g R, b < nb) {b : Nat} (hb : b < nb) : ∃ f ∈ R, f.1.getD g none = some b := by
  by_cases hm : b ∈ comeL g R
  · exact mem_comeL.mp hm
  · exfalso
    have hn : (b :: (farF g R).map (·.1)).Nodup := List.nodup_cons.mpr ⟨fun z => hm (far_keys.mp z), far_nodup R [] .nil⟩
    have := nodup_few hn (m := List.range nb) fun x hx => by
      rcases List.mem_cons.mp hx with rfl | hx
      · exact List.mem_range.mpr hb
      · exact List.mem_range.mpr (hlt x (far_keys.mp hx))
    rw [List.length_cons, List.length_map, List.length_range] at this
    omega
theorem LeastW.uniq {g : Nat} {R : List (Sg × Word)} {b m k : Nat} (h : LeastW g R b m) (q : LeastW g R b k) : m = k := by
  obtain ⟨⟨f, h1, h2, rfl⟩, h3⟩ := h
  obtain ⟨⟨e, q1, q2, rfl⟩, q3⟩ := q
  exact Nat.le_antisymm (h3 e q1 q2) (q3 f h1 h2)
/-- the greatest of the least, both ways -/
theorem far_max {g nb : Nat} {R : List (Sg × Word)} (h : (farF g R).length = nb) (hlt : ∀ b ∈ comeL g R, b < nb) {ms : List Nat} (hms : ∀ b, b < nb → ∃ m, ms[b]? = some m ∧ LeastW g R b m) (hml : ms.length = nb) {m k : Nat}
    (h1 : m ∈ (farF g R).map (·.2)) (h2 : ∀ j ∈ (farF g R).map (·.2), j ≤ m) (h3 : k ∈ ms) (h4 : ∀ j ∈ ms, j ≤ k) : m = k := by
  refine Nat.le_antisymm ?_ ?_
  · obtain ⟨⟨b, v⟩, he, rfl⟩ := List.mem_map.mp h1
    have hb := hlt b (far_keys.mp (List.mem_map.mpr ⟨_, he, rfl⟩))
    obtain ⟨u, hu, hl⟩ := hms b hb
    rw [(far_mem.mp he).uniq hl]
    exact h4 _ (List.mem_of_getElem? hu)
  · obtain ⟨b, hb⟩ := List.getElem?_of_mem h3
    have hlt2 := (List.getElem?_eq_some_iff.mp hb).1
    obtain ⟨u, hu, hl⟩ := hms b (by omega)
    rw [hb] at hu
    obtain rfl := Option.some.inj hu
    exact h2 _ (List.mem_map.mpr ⟨_, far_mem.mpr hl, rfl⟩)
end L2.K10

set_option Elab.async false
set_option linter.all false
set_option maxRecDepth 100000
set_option maxHeartbeats 4000000
namespace L2.K10
open PySem PySem.Spec PyProof.Rows
/-! ### standings as keys -/

def oV : Option Nat → V
  | none => .non
  | some n => .int (n : Int)
def oL : Option Nat → Leaf
  | none => .none
  | some n => .num (n : Int)
theorem oL_inj {a b : Option Nat} (h : oL a = oL b) : a = b := by
  cases a <;> cases b <;> simp [oL] at h ⊢
  omega
theorem oLs_inj {a b : Sg} (h : a.map oL = b.map oL) : a = b := List.map_inj_right (fun _ _ => oL_inj) |>.mp h
theorem oV_inj {a b : Option Nat} (h : oV a = oV b) : a = b := by
  cases a <;> cases b <;> simp [oV] at h ⊢
  omega
theorem oVs_inj {a b : Sg} (h : a.map oV = b.map oV) : a = b := List.map_inj_right (fun _ _ => oV_inj) |>.mp h
def sgKind (P : Program) (w : World) : HeapKind P w Sg where
  is := fun h k a => (tupleKind (leafKind P w)).is h (k.map oL) a
  hash := fun k => (tupleKind (leafKind P w)).hash (k.map oL)
  draws := fun k => (tupleKind (leafKind P w)).draws (k.map oL)
  room := (tupleKind (leafKind P w)).room
  inj := fun hx hy => oLs_inj ((tupleKind (leafKind P w)).inj hx hy)
  keeps := fun x ho hd hs => (tupleKind (leafKind P w)).keeps x ho hd hs
  pyHash := fun hu hk h => (tupleKind (leafKind P w)).pyHash hu hk h
  eqBool := fun {A E s x y a b Q} hu hx hy h => (tupleKind (leafKind P w)).eqBool hu hx hy (by
    have e : decide (x.map oL = y.map oL) = decide (x = y) := by
      by_cases q : x = y
      · subst q; simp
      · rw [decide_eq_false q, decide_eq_false fun z => q (oLs_inj z)]
    rw [e]; exact h)
  quiet := fun hk h => (tupleKind (leafKind P w)).quiet hk h
/-- at a: the tuple of a standing -/
def IsSg (H : Hp) (a : Addr) (s : Sg) : Prop := H a = some (.tup (s.map oV))
theorem sg_leaf {P : Program} {w : World} : ∀ {s : Sg} {us : List Value}, Vals (s.map oV) us → ItemsAre (leafKind P w) (s.map oL) us
  | [], _, .nil => .nil
  | none :: r, _, .cons h t => by
    cases h
    exact .cons rfl (sg_leaf t)
  | some n :: r, _, .cons h t => by
    obtain ⟨tk, rfl⟩ := h
    exact .cons (by simp [oL, leafKind, Leaf.isOf]) (sg_leaf t)
theorem sg_is {P : Program} {w : World} {H : Hp} {h : Heap} {a : Addr} {s : Sg} (ok : HOk P w H h) (e : IsSg H a s) : (sgKind P w).is h s a := by
  obtain ⟨_, its, r, o, h1, h2, n, h3⟩ := (show ObjOk P w H h a (.tup (s.map oV)) from ok a _ e)
  exact ⟨o, its.toArray, n, h1, h2, h3, by simpa using sg_leaf r⟩
/-! ### the entries of a dict keyed by standings -/
abbrev Ents := List (Sg × Addr × V)
def xget (xs : Ents) (k : Sg) : Option V := (xs.find? fun x => decide (x.1 = k)).map (·.2.2)
def xput (xs : Ents) (k : Sg) (a : Addr) (v : V) : Ents := if (xget xs k).isSome then xs.map (fun x => if x.1 = k then (x.1, x.2.1, v) else x) else xs ++ [(k, a, v)]
abbrev XR : Ents → List (Sg × Addr × Value) → Prop := Paired fun p q => p.1 = q.1 ∧ p.2.1 = q.2.1 ∧ RelV p.2.2 q.2.2
theorem xget_nil {k : Sg} : xget [] k = none := rfl
theorem xget_pos {x : Sg × Addr × V} {r : Ents} {k : Sg} (h : x.1 = k) : xget (x :: r) k = some x.2.2 := by simp [xget, h]
theorem xget_neg {x : Sg × Addr × V} {r : Ents} {k : Sg} (h : ¬ x.1 = k) : xget (x :: r) k = xget r k := by simp [xget, h]
theorem XR.get : ∀ {xs : Ents} {ys : List (Sg × Addr × Value)}, XR xs ys → ∀ k, RelO (xget xs k) ((atKey ys k).map (·.2))
  | _, _, .nil, _ => trivial
  | x :: xs, y :: ys, .cons ⟨h1, h2, h3⟩ t, k => by
    by_cases e : x.1 = k
    · have e' : y.1 = k := h1 ▸ e
      rw [xget_pos e]
      have : atKey (y :: ys) k = some y.2 := by simp [atKey, e']
      rw [this]
      exact h3
    · have e' : ¬ y.1 = k := h1 ▸ e
      rw [xget_neg e]
      have : atKey (y :: ys) k = atKey ys k := by simp [atKey, e']
      rw [this]
      exact XR.get t k
theorem XR.map_put {k : Sg} {v : V} {u : Value} (r : RelV v u) : ∀ {xs : Ents} {ys : List (Sg × Addr × Value)}, XR xs ys → XR (xs.map fun x => if x.1 = k then (x.1, x.2.1, v) else x) (ys.map (putAt k u))
  | _, _, .nil => .nil
  | x :: xs, y :: ys, .cons ⟨h1, h2, h3⟩ t => by
    refine .cons ?_ (XR.map_put r t)
    by_cases e : x.1 = k
    · have e' : y.1 = k := h1 ▸ e
      simp only [putAt, e, e', if_true]
      exact ⟨trivial, h2, r⟩
    · have e' : ¬ y.1 = k := h1 ▸ e
      simp only [putAt, e, e', if_false]
      exact ⟨h1, h2, h3⟩
theorem XR.put {xs : Ents} {ys : List (Sg × Addr × Value)} (h : XR xs ys) (k : Sg) (a : Addr) {v : V} {u : Value} (r : RelV v u) : XR (xput xs k a v) (storedH ys k a u) := by
  have q := (h.get k).isSome_eq
  rw [Option.isSome_map] at q
  unfold xput storedH
  rw [q]
  by_cases e : (atKey ys k).isSome = true
  · rw [if_pos e, if_pos e]
    exact XR.map_put r h
  · rw [if_neg e, if_neg e]
    exact Paired.snoc h ⟨rfl, rfl, r⟩
theorem xput_len (xs : Ents) (k : Sg) (a : Addr) (v : V) : (xput xs k a v).length ≤ xs.length + 1 := by
  unfold xput
  split <;> simp
theorem xput_keys {Pr : Sg → Addr → Prop} {xs : Ents} {k : Sg} {a : Addr} {v : V} (h : ∀ z ∈ xs, Pr z.1 z.2.1) (hk : Pr k a) : ∀ z ∈ xput xs k a v, Pr z.1 z.2.1 := by
  intro z hz
  unfold xput at hz
  split at hz
  · obtain ⟨y, hy, e⟩ := List.mem_map.mp hz
    split at e
    · subst e; exact h y hy
    · subst e; exact h y hy
  · rcases List.mem_append.mp hz with hz | hz
    · exact h z hz
    · simp at hz; subst hz; exact hk
/-! ### the object -/
def sdO (P : Program) (w : World) (d : Addr) (xs : Ents) (ep : Nat) : HO := .ext fun h => xs.length ≤ sizeLine ∧ (d == sysModules) = false ∧ ∃ ys, XR xs ys ∧ (ys.map (·.1)).Nodup ∧
  ∃ o es, h.get? d = some o ∧ o.ExactDict ∧ o.data = .dict es ep ∧ es.toList = ys.map (entryOfKey (sgKind P w))
/-- at d: a dict of these entries -/
def SDx (P : Program) (w : World) (H : Hp) (d : Addr) (xs : Ents) : Prop := ∃ ep, H d = some (sdO P w d xs ep) ∧ ∀ z ∈ xs, IsSg H z.2.1 z.1
section
variable {P : Program} {w : World} {H : Hp} {h : Heap} {d : Addr} {xs : Ents} {ep : Nat}
theorem sdO_new {ys : List (Sg × Addr × Value)} {o : Obj} {es : Array DictEntry} {H' : Hp} (hl : xs.length ≤ sizeLine) (hd : (d == sysModules) = false) (r : XR xs ys) (hn : (ys.map (·.1)).Nodup) (ho : h.get? d = some o) (hc : o.ExactDict) (hdat : o.data = .dict es ep)
    (he : es.toList = ys.map (entryOfKey (sgKind P w))) : ObjOk P w H' h d (sdO P w d xs ep) :=
  ⟨⟨hl, hd, ys, r, hn, o, es, ho, hc, hdat, he⟩, ⟨o, ho⟩, fun h1 h2 ⟨a1, a2, ys, a3, a4, o, es, a5, a6⟩ st => ⟨a1, a2, ys, a3, a4, o, es, st _ a5, a6⟩⟩
theorem sd_raw (ok : HOk P w H h) (e : H d = some (sdO P w d xs ep)) : xs.length ≤ sizeLine ∧ (d == sysModules) = false ∧ ∃ ys, XR xs ys ∧ (ys.map (·.1)).Nodup ∧
    ∃ o es, h.get? d = some o ∧ o.ExactDict ∧ o.data = .dict es ep ∧ es.toList = ys.map (entryOfKey (sgKind P w)) := (show ObjOk P w H h d (sdO P w d xs ep) from ok d _ e).1
theorem xr_is (ok : HOk P w H h) : ∀ {xs : Ents} {ys : List (Sg × Addr × Value)}, XR xs ys → (∀ z ∈ xs, IsSg H z.2.1 z.1) → ∀ y ∈ ys, (sgKind P w).is h y.1 y.2.1
  | _, _, .nil, _, _, hy => by simp at hy
  | x :: xs, y :: ys, .cons ⟨h1, h2, h3⟩ t, hk, z, hz => by
    rcases List.mem_cons.mp hz with rfl | hz
    · rw [← h1, ← h2]
      exact sg_is ok (hk x (List.mem_cons_self))
    · exact xr_is ok t (fun z hz => hk z (List.mem_cons_of_mem _ hz)) z hz
theorem sd_of (ok : HOk P w H h) (e : H d = some (sdO P w d xs ep)) (hk : ∀ z ∈ xs, IsSg H z.2.1 z.1) : xs.length ≤ sizeLine ∧ (d == sysModules) = false ∧ ∃ ys, XR xs ys ∧ h.DictOfH (sgKind P w) d ys := by
  obtain ⟨a1, a2, ys, a3, a4, o, es, a5, a6, a7, a8⟩ := sd_raw ok e
  exact ⟨a1, a2, ys, a3, o, es, ep, a5, a6, a7, a8, xr_is ok a3 hk, a4⟩
theorem SDx.of (ok : HOk P w H h) (e : SDx P w H d xs) : xs.length ≤ sizeLine ∧ (d == sysModules) = false ∧ ∃ ys, XR xs ys ∧ h.DictOfH (sgKind P w) d ys := by
  obtain ⟨ep, e1, e2⟩ := e
  exact sd_of ok e1 e2
end
theorem sg_room {P : Program} {w : World} {A : Around} (hu : A.units + 1 < cLine) : (sgKind P w).room A.in1 := show (tupleKind (leafKind P w)).room A.in1 from tupleKind_room_in1 hu
section
variable {X : Cx} {pins : List (Addr × Obj)} {σ : St} {H : Hp} {s : Shared} {a b : Addr} {y v : V} {u r : Value} {o : Option V} {A : Around} {E : Value → Shared → Prop} {xs : Ents} {k : Sg}
theorem sd_getItem {Q : Value → Shared → Prop} (hu : A.units + 1 < cLine) (I : Inv X pins σ H s) (e : SDx X.prog X.w H a xs) (eb : IsSg H b k) (l : xget xs k = some v) (h : ∀ w' s', Inv X pins σ H s' → RelV v w' → Q w' s') :
    wpAny (model X.prog X.w) A (getItem (.ref a) (.ref b)) Q E s := by
  obtain ⟨z, hd, ys, rel, dd⟩ := e.of I.hok
  obtain ⟨w', hw, rw'⟩ := RelO.some_of (v := v) (o := (atKey ys k).map (·.2)) (by rw [← l]; exact rel.get k)
  obtain ⟨p, hp, hp2⟩ := Option.map_eq_some_iff.mp hw
  refine wpAny_getItem_heap (sg_room hu) (sg_is I.hok eb) dd hp ?_
  rw [hp2]
  exact h w' _ (I.tok _) rw'
theorem sd_in {Q : Value → Shared → Prop} (hu : A.units + 1 < cLine) (I : Inv X pins σ H s) (e : SDx X.prog X.w H a xs) (eb : IsSg H b k) (h : ∀ s', Inv X pins σ H s' → Q (.bool (xget xs k).isSome) s') :
    wpAny (model X.prog X.w) A (compareOp .In (.ref b) (.ref a)) Q E s := by
  obtain ⟨z, hd, ys, rel, dd⟩ := e.of I.hok
  refine wpAny_in_heap (sg_room hu) (sg_is I.hok eb) hd dd ?_
  have q := (rel.get k).isSome_eq
  rw [Option.isSome_map] at q
  rw [← q]
  exact h _ (I.tok _)
theorem sd_notIn {Q : Value → Shared → Prop} (hu : A.units + 1 < cLine) (I : Inv X pins σ H s) (e : SDx X.prog X.w H a xs) (eb : IsSg H b k) (h : ∀ s', Inv X pins σ H s' → Q (.bool (!(xget xs k).isSome)) s') :
    wpAny (model X.prog X.w) A (compareOp .NotIn (.ref b) (.ref a)) Q E s := by
  obtain ⟨z, hd, ys, rel, dd⟩ := e.of I.hok
  refine wpAny_notIn_heap (sg_room hu) (sg_is I.hok eb) hd dd ?_
  have q := (rel.get k).isSome_eq
  rw [Option.isSome_map] at q
  rw [← q]
  exact h _ (I.tok _)
theorem sd_setItem {Q : Unit → Shared → Prop} (hu : A.units + 1 < cLine) (I : Inv X pins σ H s) (e : SDx X.prog X.w H a xs) (eb : IsSg H b k) (hl : xs.length < sizeLine) (rv : RelV v r)
    (h : ∀ ep s', Inv X pins σ (upd H a (sdO X.prog X.w a (xput xs k b v) ep)) s' → Q () s') : wpAny (model X.prog X.w) A (setItem (.ref a) (.ref b) r) Q E s := by
  obtain ⟨z, hd, ys, rel, dd⟩ := e.of I.hok
  obtain ⟨ep0, e0, ek⟩ := e
  have hz : ys.length ≤ sizeLine := by rw [← Paired.length rel]; exact z
  have hl : (xput xs k b v).length ≤ sizeLine := by have := xput_len xs k b v; omega
  refine wpAny_setItem_heap (hsz := hz) (sg_room hu) (sg_is I.hok eb) dd fun h' dd' hs => ?_
  obtain ⟨q, es, ep, hq, h2, h3, h4, _, h5⟩ := dd'
  refine h ep _ (d_write I (by rw [e0]; exact True.intro) hs ⟨q, hq⟩ (sdO_new hl hd (rel.put k b rv) h5 hq h2 h3 h4))
theorem sd_get2 {Q : Value → Shared → Prop} {d0 : V} (hu : A.units + 1 < cLine) (I : Inv X pins σ H s) (e : SDx X.prog X.w H a xs) (eb : IsSg H b k) (rd : RelV d0 r) (h : ∀ w' s', Inv X pins σ H s' → RelV ((xget xs k).getD d0) w' → Q w' s') :
    wpAny (model X.prog X.w) A (call (.builtin "dict.get") [.ref a, .ref b, r]) Q E s := by
  obtain ⟨z, hd, ys, rel, dd⟩ := e.of I.hok
  exact call_meetsIn PySem.F.slot_dict_get dd.typeIs PySem.F.entry_dict_get (PySem.F.args_dict_get_3 _ _ _) (meetsH_dict_get_default (sgKind X.prog X.w) a b hd r) ⟨sg_room hu, k, ys, sg_is I.hok eb, dd, h _ _ (I.tok _) ((rel.get k).getD rd)⟩
theorem sd_typeIs (I : Inv X pins σ H s) (e : SDx X.prog X.w H a xs) : s.TypeIs (.ref a) "dict" ∧ (∀ b, Value.ref a = .ref b → ∃ ob, s.heap.get? b = some ob ∧ ob.dict = none) ∧ (a == sysModules) = false := by
  obtain ⟨z, hd, ys, rel, dd⟩ := e.of I.hok
  refine ⟨dd.typeIs, fun b q => ?_, hd⟩
  cases q
  obtain ⟨ob, _, _, h1, h2, _⟩ := dd
  exact ⟨ob, h1, h2.2.1⟩
end
/-! ### rules -/
/-- d[y], y in d, y not in d, d[y] = v, d.get(y, x) -/
def tNGet (P : Program) (w : World) (td ty : TE) : TE := fun σ H Q => td σ H fun x H1 => ty σ H1 fun y H2 => ∃ d xs b k v, x = .ref d ∧ SDx P w H2 d xs ∧ y = .ref b ∧ IsSg H2 b k ∧ xget xs k = some v ∧ Q v H2
def tNIn (P : Program) (w : World) (ty td : TE) : TE := fun σ H Q => ty σ H fun y H1 => td σ H1 fun x H2 => ∃ d xs b k, x = .ref d ∧ SDx P w H2 d xs ∧ y = .ref b ∧ IsSg H2 b k ∧ Q (.bl (xget xs k).isSome) H2
def tNNotIn (P : Program) (w : World) (ty td : TE) : TE := fun σ H Q => ty σ H fun y H1 => td σ H1 fun x H2 => ∃ d xs b k, x = .ref d ∧ SDx P w H2 d xs ∧ y = .ref b ∧ IsSg H2 b k ∧ Q (.bl (!(xget xs k).isSome)) H2
def sNPut (P : Program) (w : World) (td ty tv : TE) : TS := fun D σ H => tv σ H fun v H1 => td σ H1 fun x H2 => ty σ H2 fun y H3 => ∃ d xs b k, x = .ref d ∧ SDx P w H3 d xs ∧ y = .ref b ∧ IsSg H3 b k ∧ xs.length < sizeLine ∧
  ∀ ep, D.nx σ (upd H3 d (sdO P w d (xput xs k b v) ep))
def tNGet2 (P : Program) (w : World) (td ty tx : TE) : TE := fun σ H Q => td σ H fun x H1 => ∃ d xs0, x = .ref d ∧ SDx P w H1 d xs0 ∧ ty σ H1 fun y H2 => tx σ H2 fun z H3 => ∃ xs b k, SDx P w H3 d xs ∧ y = .ref b ∧ IsSg H3 b k ∧ Q ((xget xs k).getD z) H3
section
variable {X : Cx} {o i e f value : Expr} {pos pos' apos cpos : Pos} {td ty tv tx : TE}
theorem pe_nget (hu : X.A.units + 1 < cLine) (ho : PE X o td) (hi : PE X i ty) (hs : NoSl i) : PE X (.Subscript o i pos) (tNGet X.prog X.w td ty) := by
  refine ⟨fun pins s σ H Q I h => ?_⟩
  refine subD_of PySem.F.slot_dict_getitem.lookup hs (thn (ho.run pins s σ H _ I h) fun u s1 ⟨x, H1, I1, rx, q1⟩ => thn (hi.run pins s1 σ H1 _ I1 q1) fun iv s2 ⟨y, H2, I2, ry, d, xs, b, k, v, ex, g, ey, eb, l, q2⟩ => ?_)
  subst ex ey
  obtain rfl : u = Value.ref d := rx
  obtain rfl : iv = Value.ref b := ry
  exact ⟨(sd_typeIs I2 g).1, sd_getItem hu I2 g eb l fun w' s3 I3 rw' => ⟨v, H2, I3, rw', q2⟩⟩
theorem pc_nin (hu : X.A.units + 1 < cLine) (hi : PE X i ty) (ho : PE X o td) : PC X .In i o (tNIn X.prog X.w ty td) := by
  refine ⟨fun pins s σ H Q I h => ?_⟩
  refine thn (hi.run pins s σ H _ I h) fun iv s1 ⟨y, H1, I1, ry, q1⟩ => thn (ho.run pins s1 σ H1 _ I1 q1) fun u s2 ⟨x, H2, I2, rx, d, xs, b, k, ex, g, ey, eb, q2⟩ => ?_
  subst ex ey
  obtain rfl : u = Value.ref d := rx
  obtain rfl : iv = Value.ref b := ry
  exact sd_in hu I2 g eb fun s3 I3 => ⟨.bl (xget xs k).isSome, H2, I3, rfl, q2⟩
theorem pc_nnotin (hu : X.A.units + 1 < cLine) (hi : PE X i ty) (ho : PE X o td) : PC X .NotIn i o (tNNotIn X.prog X.w ty td) := by
  refine ⟨fun pins s σ H Q I h => ?_⟩
  refine thn (hi.run pins s σ H _ I h) fun iv s1 ⟨y, H1, I1, ry, q1⟩ => thn (ho.run pins s1 σ H1 _ I1 q1) fun u s2 ⟨x, H2, I2, rx, d, xs, b, k, ex, g, ey, eb, q2⟩ => ?_
  subst ex ey
  obtain rfl : u = Value.ref d := rx
  obtain rfl : iv = Value.ref b := ry
  exact sd_notIn hu I2 g eb fun s3 I3 => ⟨.bl (!(xget xs k).isSome), H2, I3, rfl, q2⟩
theorem ps_nput (hu : X.A.units + 1 < cLine) (ho : PE X o td) (hi : PE X i ty) (hv : PE X value tv) (hs : swapsWith value (some (.Subscript o i pos')) pos.line X.env = pure false) :
    PS X (.Assign [.Subscript o i pos'] value pos) (sNPut X.prog X.w td ty tv) := by
  refine ⟨fun pins s σ H D I h => ?_⟩
  refine wpAny_Assign_Subscript (thn (hv.run pins s σ H _ I h) fun r s1 ⟨v, H1, I1, rv, q1⟩ => thn (ho.run pins s1 σ H1 _ I1 q1) fun u s2 ⟨x, H2, I2, rx, q2⟩ => thn (hi.run pins s2 σ H2 _ I2 q2) fun iv s3 ⟨y, H3, I3, ry, d, xs, b, k, ex, g, ey, eb, hl, q3⟩ => ?_) hs
  subst ex ey
  obtain rfl : u = Value.ref d := rx
  obtain rfl : iv = Value.ref b := ry
  exact sd_setItem hu I3 g eb hl rv fun ep s4 I4 => ⟨σ, _, I4, q3 ep⟩
theorem pe_nget2 (hu : X.A.units + 1 < cLine) (ho : PE X o td) (he : PE X e ty) (hf : PE X f tx) (m : M2 X o "get" apos e f cpos) : PE X (.Call (.Attribute o "get" apos) [e, f] [] cpos) (tNGet2 X.prog X.w td ty tx) := by
  refine ⟨fun pins s σ H Q I h => ?_⟩
  refine wpAny_Call_method m.base m.few m.line PySem.F.plainAttrs_dict PySem.F.slot_dict_get PySem.F.type_dict_get (thn (ho.run pins s σ H _ I h) fun u s1 ⟨x, H1, I1, rx, d, xs0, ex, g0, q1⟩ => ?_)
  subst ex
  obtain rfl : u = Value.ref d := rx
  obtain ⟨t1, t2, _⟩ := sd_typeIs I1 g0
  refine ⟨t1, t2, ?_⟩
  rw [m.trees]
  refine Calls.callWith_builtin rfl (Calls.evalArgs_plain (Calls.spliced_cons (thn (he.run pins s1 σ H1 _ I1 q1) fun iv s2 ⟨y, H2, I2, ry, q2⟩ =>
    Calls.spliced_cons (thn (hf.run pins s2 σ H2 _ I2 q2) fun fv s3 ⟨z, H3, I3, rz, xs, b, k, g, ey, eb, q3⟩ => Calls.spliced_nil ?_))))
  subst ey
  obtain rfl : iv = Value.ref b := ry
  exact sd_get2 hu I3 g eb rz fun w' s4 I4 rw' => ⟨_, H3, I4, rw', q3⟩
end
end L2.K10

set_option Elab.async false
set_option linter.all false
set_option maxRecDepth 100000
set_option maxHeartbeats 4000000
namespace L2.K10
open PySem PySem.Spec PyProof.Rows
/-! ### walks over a dict of standings -/
theorem XR.at_ : ∀ {xs : Ents} {ys : List (Sg × Addr × Value)}, XR xs ys → ∀ {i : Nat} {x : Sg × Addr × V}, xs[i]? = some x → ∃ y, ys[i]? = some y ∧ x.1 = y.1 ∧ x.2.1 = y.2.1 ∧ RelV x.2.2 y.2.2
  | _, _, .nil, _, _, e => by simp at e
  | _ :: _, _ :: _, .cons h t, 0, _, e => by
    simp at e
    subst e
    exact ⟨_, rfl, h⟩
  | _ :: _, _ :: _, .cons h t, i + 1, x, e => by
    obtain ⟨y, h1, h2⟩ := XR.at_ t (i := i) (x := x) (by simpa using e)
    exact ⟨y, by simpa using h1, h2⟩
theorem sd_ents {P : Program} {w : World} {H : Hp} {h : Heap} {d : Addr} {xs : Ents} {ep : Nat} (ok : HOk P w H h) (e : H d = some (sdO P w d xs ep)) :
    (d == sysModules) = false ∧ ∃ es, h.DictRaw d es ep ∧ es.size = xs.length ∧ ∀ i x, xs[i]? = some x → ∃ hi : i < es.size, es[i].key = .ref x.2.1 ∧ RelV x.2.2 es[i].val := by
  obtain ⟨a1, a2, ys, a3, a4, o, es, a5, a6, a7, a8⟩ := sd_raw ok e
  have hl : xs.length = ys.length := Paired.length a3
  have hs : es.size = ys.length := by rw [← Array.length_toList, a8, List.length_map]
  refine ⟨a2, es, ⟨o, a5, a6, a7⟩, by omega, fun i x hx => ?_⟩
  obtain ⟨y, hy, e1, e2, e3⟩ := a3.at_ hx
  have hi : i < es.size := by rw [hs]; exact (List.getElem?_eq_some_iff.mp hy).1
  refine ⟨hi, ?_⟩
  have q : es.toList[i]? = some (entryOfKey (sgKind P w) y) := by rw [a8, List.getElem?_map, hy]; rfl
  have q2 : es[i] = entryOfKey (sgKind P w) y := by
    rw [Array.getElem?_toList, Array.getElem?_eq_getElem hi] at q
    exact Option.some.inj q
  rw [q2, e2]
  exact ⟨rfl, e3⟩
/-- the keys -/
def Jnk (P : Program) (w : World) (d : Addr) (xs : Ents) (ep : Nat) : It :=
  ⟨fun i H => H d = some (sdO P w d xs ep) ∧ i < xs.length, fun i H x H' => H' = H ∧ ∃ k a v, xs[i]? = some (k, a, v) ∧ x = .ref a, fun i H => H d = some (sdO P w d xs ep) ∧ xs.length ≤ i⟩
/-- the pairs, each a new tuple -/
def Jni (P : Program) (w : World) (d : Addr) (xs : Ents) (ep : Nat) : It :=
  ⟨fun i H => H d = some (sdO P w d xs ep) ∧ i < xs.length, fun i H x H' => ∃ T k a v, xs[i]? = some (k, a, v) ∧ x = .ref T ∧ H T = none ∧ H' = upd H T (.tup [.ref a, v]), fun i H => H d = some (sdO P w d xs ep) ∧ xs.length ≤ i⟩
section
variable {P : Program} {w : World} {K : PySem.W.Frag} {tg : Expr} {d : Addr} {xs : Ents} {ep : Nat}
theorem turn_nk (it : Addr) : Turn P w K tg (Jnk P w d xs ep) [it] it (fun i h => h.IsKeyIter it d i xs.length ep) where
  mem := by simp
  obj := fun i h st b hb => by
    obtain rfl : b = it := by simpa using hb
    obtain ⟨oi, e, c, dd⟩ := st
    exact ⟨oi, e, fun v z => by rw [dd] at z; cases z⟩
  keep := fun i h h' st k => st.at fun oi e => k it (by simp) oi e
  item := by
    intro X hP hw hK hc i pins s σ H E I hf st hg
    subst hP hw hK
    obtain ⟨hd, hi⟩ := hg
    obtain ⟨f0, f1, f2, f3, f4, f5⟩ := hf it (by simp)
    obtain ⟨hs, es, hm, hsz, ent⟩ := sd_ents I.hok hd
    obtain ⟨hi', hk, hv⟩ := ent i xs[i] (List.getElem?_eq_getElem hi)
    rw [← hsz] at st
    refine wpAny_pyNext_keys_item_raw st hm hi' fun h' st' sb => ?_
    have I1 : Inv X pins σ H { s with heap := h' } := I.turned (t' := s.toks) (fun b ob hb e => (sb.2 b hb).trans e) f0 f1 f3 f4 f5
    obtain ⟨oi, e, c, dd⟩ := id st'
    exact ⟨_, rfl, go_of (s := { s with heap := h' }) e c dd (by decide) ⟨.ref xs[i].2.1, H, I1, hk, ⟨rfl, _, _, _, List.getElem?_eq_getElem hi, rfl⟩, hsz ▸ st', fun b hb => (hf b hb).1⟩⟩
  done := by
    intro X hP hw hK hc i pins s σ H E I hf st hg
    subst hP hw hK
    obtain ⟨hd, hi⟩ := hg
    obtain ⟨f0, f1, f2, f3, f4, f5⟩ := hf it (by simp)
    obtain ⟨hs, es, hm, hsz, ent⟩ := sd_ents I.hok hd
    rw [← hsz] at st
    exact wpAny_pyNext_keys_end_raw (I.ok.hd hc) st hm (by omega) fun h' eb => ⟨rfl, I.turned (t' := s.toks) (fun b ob hb e => eb b ob hb e) f0 f1 f3 f4 f5⟩
  self := fun A i s Q E st h => by
    refine wpAny_pyIter_slot st.typeIs F.slot_dict_keyiterator_iter (wpAny_call_entry F.slot_dict_keyiterator_iter st.typeIs F.entry_dict_keyiterator_iter ?_ (F.args_dict_keyiterator_iter_1 _))
    show wpAny _ _ (ret (.ref it)) _ _ s
    exact wpAny_pure ⟨_, rfl, "dict_keyiterator", _, st.typeIs, F.slot_dict_keyiterator_next.lookup, h⟩
theorem turn_ni {elts : List Expr} {kk : Nat} {tpos : Pos} (it : Addr) : Turn P w K (.Tuple elts kk tpos) (Jni P w d xs ep) [it] it (fun i h => ∃ ok ov, IsItemIter h it d i xs.length ep ok ov) where
  mem := by simp
  obj := fun i h st b hb => by
    obtain rfl : b = it := by simpa using hb
    obtain ⟨ok, ov, e⟩ := st
    exact ⟨_, e, fun v z => nomatch z⟩
  keep := fun i h h' st k => let ⟨ok, ov, e⟩ := st; ⟨ok, ov, k it (by simp) _ e⟩
  item := by
    intro X hP hw hK hc i pins s σ H E I hf st hg
    subst hP hw hK
    obtain ⟨hd, hi⟩ := hg
    obtain ⟨hs, es, hm, hsz, ent⟩ := sd_ents I.hok hd
    obtain ⟨hi', hk, hv⟩ := ent i xs[i] (List.getElem?_eq_getElem hi)
    obtain ⟨ok, ov, he⟩ := st
    have hlt : it < s.heap.objs.size := Heap.lt_size he
    rw [← hsz] at he
    refine wpAny_pyNext_items_item_raw he hm hi' fun h' ho hT hz hkk => ?_
    refine ⟨_, rfl, wpAny_letOwnedTupleGo_items (s := { s with heap := h' }) ho fun h'' he' sb => ?_⟩
    have hT2 : h''.get? s.heap.objs.size = some { cls := .type "tuple", data := .seq #[es[i].key, es[i].val] } := (sb.2 _ (Nat.ne_of_gt hlt)).trans hT
    have new : ObjOk X.prog X.w (upd H s.heap.objs.size (.tup [.ref xs[i].2.1, xs[i].2.2])) h'' s.heap.objs.size (.tup [.ref xs[i].2.1, xs[i].2.2]) :=
      ⟨by show 2 ≤ sizeLine; decide, [es[i].key, es[i].val], .cons hk (.cons hv .nil), ⟨_, hT2, rfl, _, rfl⟩⟩
    have I1 : Inv X pins σ (upd H s.heap.objs.size (.tup [.ref xs[i].2.1, xs[i].2.2])) { s with heap := h'' } :=
      I.turnedNew (t' := s.toks) (ch := [it]) (fun b ob hb e => (sb.2 b (by simpa using hb)).trans (hkk b ob (by simpa using hb) e)) hf (Nat.le_refl _) new
    refine ⟨.ref s.heap.objs.size, _, I1, rfl, ⟨_, _, _, _, List.getElem?_eq_getElem hi, rfl, I.hok.fresh (Nat.le_refl _), rfl⟩, ⟨_, _, hsz ▸ he'⟩, fun b hb => ?_⟩
    obtain rfl : b = it := by simpa using hb
    rw [upd_ne (Nat.ne_of_lt hlt)]
    exact (hf b (by simp)).1
  done := by
    intro X hP hw hK hc i pins s σ H E I hf st hg
    subst hP hw hK
    obtain ⟨hd, hi⟩ := hg
    obtain ⟨f0, f1, f2, f3, f4, f5⟩ := hf it (by simp)
    obtain ⟨hs, es, hm, hsz, ent⟩ := sd_ents I.hok hd
    obtain ⟨ok, ov, he⟩ := st
    rw [← hsz] at he
    exact wpAny_pyNext_items_end_raw (I.ok.hd hc) he hm (by omega) fun h' eb => ⟨rfl, I.turned (t' := s.toks) (fun b ob hb e => eb b ob hb e) f0 f1 f3 f4 f5⟩
  self := fun A i s Q E st h => let ⟨_, _, e⟩ := st; PySem.W.kcp_self e h
end
def iNk (P : Program) (w : World) (td : TE) : TI := fun σ H R => td σ H fun x H1 => ∃ d xs ep, x = .ref d ∧ H1 d = some (sdO P w d xs ep) ∧ R (Jnk P w d xs ep) H1
def iNi (P : Program) (w : World) (td : TE) : TI := fun σ H R => td σ H fun x H1 => ∃ d xs ep, x = .ref d ∧ H1 d = some (sdO P w d xs ep) ∧ R (Jni P w d xs ep) H1
section
variable {X : Cx} {tg e : Expr} {td : TE} {apos cpos : Pos}
theorem pi_nk (he : PE X e td) : PI X tg e (iNk X.prog X.w td) := by
  refine ⟨fun pins s σ H R I h => ?_⟩
  refine thn (he.run pins s σ H _ I h) fun u s1 ⟨x, H1, I1, rx, d, xs, ep, ex, hd, q⟩ => ?_
  subst ex
  obtain rfl : u = Value.ref d := rx
  obtain ⟨hs, es, hm, hsz, ent⟩ := sd_ents I1.hok hd
  refine wpAny_pyIter_dict_raw hs hm (pi_one (tk := s1.toks) I1 _ (turn_nk _) ⟨_, Heap.get?_push_size _ rfl, rfl, ?_⟩ q)
  rw [hsz] <;> rfl
theorem pi_ni {elts : List Expr} {kk : Nat} {tpos : Pos} (he : PE X e td) (hbase : attributeBase e "items" X.env (eval e X.env) = eval e X.env := by rfl) (hline : (apos.endLine == cpos.line) = true := by rfl) :
    PI X (.Tuple elts kk tpos) (.Call (.Attribute e "items" apos) [] [] cpos) (iNi X.prog X.w td) := by
  refine ⟨fun pins s σ H R I h => ?_⟩
  refine wpAny_Call_method (T := "dict") (id := "dict.items") hbase rfl hline F.plainAttrs_dict F.slot_dict_items F.type_dict_items (thn (he.run pins s σ H _ I h) fun u s1 ⟨x, H1, I1, rx, d, xs, ep, ex, hd, q⟩ => ?_)
  subst ex
  obtain rfl : u = Value.ref d := rx
  obtain ⟨hs, es, hm, hsz, ent⟩ := sd_ents I1.hok hd
  obtain ⟨o, ho, hx, hdat⟩ := id hm
  refine ⟨hm.typeIs, fun b eb => by cases eb; exact ⟨o, ho, hx.2.1⟩, ?_⟩
  have I2 : Inv X pins σ H1 { s1 with heap := s1.heap.push { cls := .type "dict_items", data := .fields #[.ref d] } } := I1.kept (t' := s1.toks) fun b ob q => Heap.get?_push_of_some _ q
  have fin : wpAny (model X.prog X.w) X.A (pyIter (.ref s1.heap.objs.size)) (PIE X pins σ (.Tuple elts kk tpos) R) X.xe { s1 with heap := s1.heap.push { cls := .type "dict_items", data := .fields #[.ref d] } } := by
    refine wpAny_pyIter_items_raw (d := d) ⟨_, Heap.get?_push_size _ rfl, rfl, rfl⟩ (hm.push _) (pi_one (tk := s1.toks) I2 _ (turn_ni _) ⟨.none, .none, ?_⟩ q)
    rw [← hsz]
    exact Heap.get?_push_size _ rfl
  show wpAny _ _ (callWith cpos (.builtin "dict.items") [.ref d] [] []) _ X.xe s1
  exact method_meetsIn F.slot_dict_items F.entry_dict_items rfl (PySem.evalArgs_none ⟨rfl, hm.typeIs, F.args_dict_items_1 _, _, meets_dict_items_raw d hs, ⟨es, ep, hm⟩, fin⟩)
end
end L2.K10

set_option Elab.async false
set_option linter.all false
set_option maxRecDepth 100000
set_option maxHeartbeats 4000000
namespace L2.K10
open PySem PySem.Spec PyProof.Rows
open AutoSeq1 (wpAny_loadPart')
/-! ### enumerate of a tuple -/
theorem meets_enumerate_newT (l : Addr) (items : Array Value) (n : Nat) (dct : Option Addr) (sl : Array (Option Value)) :
    Meets (Builtin.«enumerate.__new__» ⟨[.type "enumerate", .ref l], []⟩) (fun _ R s => s.heap.get? l = some { cls := .type "tuple", dict := dct, data := .seq items n, slots := sl } ∧
      R (.ok (.ret (.ref (s.heap.push { cls := .type "tuple_iterator", data := .fields #[.ref l, .int 0 0] }).objs.size)))
        { s with heap := (s.heap.push { cls := .type "tuple_iterator", data := .fields #[.ref l, .int 0 0] }).push { cls := .type "enumerate", data := .fields #[.none, .bool false, .ref s.heap.objs.size, rawInt 0, .none, .none] } }) :=
  .of_wp fun prog w A R s h => by
    obtain ⟨hp, g, d, tk, os⟩ := s
    obtain ⟨hl, h⟩ := h
    have hsub := sub_enumerate
    have hT : Heap.IsTuple (Shared.heap ⟨hp, g, d, tk, os⟩) l items := ⟨_, hl, rfl, n, rfl⟩
    wp_walk using wpAny_loadPart' hl
    refine wpAny_stack_any fun st => wpAny_pure ?_
    split
    · rename_i c _ _ _ _ _
      cases (c == Value.type "enumerate") <;> (wp_walk using wpAny_loadPart' hl, wpAny_pyIter_tuple hT; exact ⟨_, rfl, h⟩)
    · wp_walk using wpAny_loadPart' hl, wpAny_pyIter_tuple hT
      exact ⟨_, rfl, h⟩
theorem call_enumerate_tup {prog : Program} {w : World} {A : Around} {E : Value → Shared → Prop} {s : Shared} {l : Addr} {items : Array Value} {Q : Value → Shared → Prop} (hL : s.heap.IsTuple l items)
    (h : ∀ h', IsEnum h' (s.heap.objs.size + 1) s.heap.objs.size 0 .none → h'.IsTupleIter s.heap.objs.size l 0 → (∀ b o, s.heap.get? b = some o → h'.get? b = some o) → Q (.ref (s.heap.objs.size + 1)) { s with heap := h' }) :
    wpAny (model prog w) A (call (.type "enumerate") [.ref l]) Q E s := by
  obtain ⟨⟨c, dct, dt, sl⟩, hl, hc, n, hd⟩ := hL
  replace hc : c = .type "tuple" := hc
  replace hd : dt = .seq items n := hd
  subst hc hd
  refine callType_new F.called_enumerate (by decide) (F.typeCall_enumerate_1 _) (F.newCall_enumerate_1 _) (fun obj => F.args_object_init_2 obj _) F.entry_enumerate_new (meets_enumerate_newT l items n dct sl) ⟨hl, ?_⟩
  generalize ei : ({ cls := .type "tuple_iterator", data := .fields #[.ref l, .int 0 0] } : Obj) = oi
  have fi : oi.isFreed = false := by rw [← ei]; rfl
  have hz : (s.heap.push oi).objs.size = s.heap.objs.size + 1 := Heap.size_push ..
  show _ ∧ _
  rw [hz]
  have he : IsEnum ((s.heap.push oi).push { cls := .type "enumerate", data := .fields #[.none, .bool false, .ref s.heap.objs.size, rawInt 0, .none, .none] }) (s.heap.objs.size + 1) s.heap.objs.size 0 .none := by
    have q := Heap.get?_push_size (s.heap.push oi) (o := { cls := .type "enumerate", data := .fields #[.none, .bool false, .ref s.heap.objs.size, rawInt 0, .none, .none] }) rfl
    rw [hz] at q
    exact q
  exact ⟨⟨_, he, rfl⟩, h _ he ⟨oi, Heap.get?_push_of_some _ (Heap.get?_push_size _ fi), by rw [← ei], by rw [← ei]; rfl⟩ fun b o x => Heap.get?_push_of_some _ (Heap.get?_push_of_some _ x)⟩
/-- the tuple at a, each item in a new pair -/
def Jet (K : PySem.W.Frag) (a : Addr) (xs : List V) : It :=
  ⟨fun i H => SqT K H a xs ∧ i < xs.length, fun i H v H' => ∃ T x, v = .ref T ∧ H T = none ∧ H' = upd H T (.tup [.int (i : Nat), x]) ∧ xs[i]? = some x, fun i H => SqT K H a xs ∧ i = xs.length⟩
theorem turn_enumT {P : Program} {w : World} {K : PySem.W.Frag} {elts : List Expr} {kk : Nat} {tpos : Pos} (a e it : Addr) (xs : List V) :
    Turn P w K (.Tuple elts kk tpos) (Jet K a xs) [e, it] e (fun i h => (∃ old, IsEnum h e it ((i : Nat) : Int) old) ∧ h.IsTupleIter it a i ∧ e ≠ it) where
  mem := by simp
  obj := fun i h st b hb => by
    obtain ⟨⟨old, he⟩, ⟨o, ho, hc, hd⟩, _⟩ := st
    rcases (show b = e ∨ b = it by simpa using hb) with z | z
    · rw [z]; exact ⟨_, he, fun v q => nomatch q⟩
    · rw [z]; exact ⟨o, ho, fun v q => by rw [hd] at q; cases q⟩
  keep := fun i h h' st k => let ⟨⟨old, he⟩, hi, hne⟩ := st; ⟨⟨old, k e (by simp) _ he⟩, hi.at fun o q => k it (by simp) o q, hne⟩
  item := by
    intro X hP hw hK hc i pins s σ H E I hf st hg
    subst hP hw hK
    obtain ⟨⟨old, he⟩, hit, hne⟩ := st
    obtain ⟨hq, hlt⟩ := hg
    obtain ⟨its, rv, p, hz⟩ := I.tuple hq
    obtain ⟨u, hu, ru⟩ := rv.get (List.getElem?_eq_getElem hlt)
    have hel : e < s.heap.objs.size := Heap.lt_size he
    have hil : it < s.heap.objs.size := by obtain ⟨_, q, _⟩ := hit; exact Heap.lt_size q
    have nof : ∀ b, H b ≠ none → b ≠ e ∧ b ≠ it := fun b hb => ⟨fun z => hb (by rw [z]; exact (hf e (by simp)).1), fun z => hb (by rw [z]; exact (hf it (by simp)).1)⟩
    have hae : a ≠ e ∧ a ≠ it := by
      obtain ⟨oe, he1, hc1, n1, hd1⟩ := id p
      obtain ⟨oi, he2, hc2, hd2⟩ := id hit
      refine ⟨fun z => ?_, fun z => ?_⟩
      · rw [z, he] at he1; cases he1; cases hd1
      · rw [z, he2] at he1; cases he1; rw [hd2] at hd1; cases hd1
    have D := Draws.tuple (prog := X.prog) (w := X.w) (A := X.A.in1) (I.ok.hd hc) it a hae.2 its.toArray
    have G := GoesN.enumFrom (elts := elts) (x1 := kk) (pos := tpos) 0 D e hne (by simp [hne, hae.1.symm]) (by simp)
    have hsz : its.toArray.size = xs.length := by rw [List.size_toArray]; exact rv.length.symm
    refine wpAny_mono (G.goes i s (fun v s2 => ∃ x H', Inv X pins σ H' s2 ∧ RelV x v ∧ (Jet X.K a xs).yld i H x H' ∧ ((∃ old, IsEnum s2.heap e it ((i + 1 : Nat) : Int) old) ∧ s2.heap.IsTupleIter it a (i + 1) ∧ e ≠ it) ∧ ∀ b ∈ [e, it], H' b = none) E (by omega)
      ⟨⟨old, by rw [Int.zero_add]; exact he⟩, hit, p⟩ fun v h' tk hY st' hk htk => ?_) (fun r s1 h => ?_) fun _ _ x => x
    · obtain ⟨T, t, x, rfl, hT, hx, hI⟩ := hY
      obtain ⟨⟨old', he'⟩, hit', _⟩ := st'
      obtain ⟨oT, hT1, hT2, nT, hT3⟩ := id hI
      have ex : x = u := by
        rw [List.getElem?_toArray, hu] at hx
        exact (Option.some.inj hx).symm
      subst ex
      have new : ObjOk X.prog X.w (upd H T (.tup [.int (i : Nat), xs[i]])) h' T (.tup [.int (i : Nat), xs[i]]) :=
        ⟨by show 2 ≤ sizeLine; decide, [.int (0 + (i : Int)) t, x], .cons ⟨_, by rw [Int.zero_add]⟩ (.cons ru .nil), hI⟩
      have I1 : Inv X pins σ (upd H T (.tup [.int (i : Nat), xs[i]])) { s with heap := h', toks := tk } := I.turnedNew (ch := [e, it]) hk hf hT new
      refine ⟨.ref T, _, I1, rfl, ⟨T, xs[i], rfl, I.hok.fresh hT, rfl, List.getElem?_eq_getElem hlt⟩, ⟨⟨old', ?_⟩, hit', hne⟩, fun b hb => ?_⟩
      · have e1 : ((i + 1 : Nat) : Int) = 0 + ((i + 1 : Nat) : Int) := by omega
        rw [e1]; exact he'
      · have hb' : b < s.heap.objs.size := by
          rcases (show b = e ∨ b = it by simpa using hb) with z | z
          · rw [z]; exact hel
          · rw [z]; exact hil
        rw [upd_ne (Nat.ne_of_lt (Nat.lt_of_lt_of_le hb' hT))]
        exact (hf b hb).1
    · obtain ⟨v, rfl, hv⟩ := h
      exact ⟨v, rfl, wpAny_mono hv (fun _ s2 hq => hq) fun _ _ x => x⟩
  done := by
    intro X hP hw hK hc i pins s σ H E I hf st hg
    subst hP hw hK
    obtain ⟨⟨old, he⟩, hit, hne⟩ := st
    obtain ⟨hq, hle⟩ := hg
    obtain ⟨its, rv, p, hz⟩ := I.tuple hq
    have hae : a ≠ e ∧ a ≠ it := by
      obtain ⟨oe, he1, hc1, n1, hd1⟩ := id p
      obtain ⟨oi, he2, hc2, hd2⟩ := id hit
      refine ⟨fun z => ?_, fun z => ?_⟩
      · rw [z, he] at he1; cases he1; cases hd1
      · rw [z, he2] at he1; cases he1; rw [hd2] at hd1; cases hd1
    have D := Draws.tuple (prog := X.prog) (w := X.w) (A := X.A.in1) (I.ok.hd hc) it a hae.2 its.toArray
    have G := GoesN.enumFrom (elts := elts) (x1 := kk) (pos := tpos) 0 D e hne (by simp [hne, hae.1.symm]) (by simp)
    have hsz : its.toArray.size = xs.length := by rw [List.size_toArray]; exact rv.length.symm
    rw [hsz] at G
    refine G.stops s (fun s1 => Inv X pins σ H s1) E ⟨⟨old, ?_⟩, ?_, p⟩ fun h' tk hk htk => I.turnedL (ch := [e, it]) hk hf
    · rw [Int.zero_add, ← hle]; exact he
    · rw [← hle]; exact hit
  self := fun A i s Q E st h => let ⟨⟨_, he⟩, _⟩ := st; wpAny_pyIter_enum he h
def iEnumT (K : PySem.W.Frag) (ta : TA) : TI := fun σ H R => ta σ H fun vs H1 => ∃ a xs, vs = [.ref a] ∧ SqT K H1 a xs ∧ R (Jet K a xs) H1
theorem pi_enumT {X : Cx} {e : Expr} {ta : TA} {p pos tpos : Pos} {elts : List Expr} {kk : Nat} (hg : Gl X "enumerate") (hm : X.mg "enumerate" = none) (ha : PA X [e] ta) (hs : starEach [e] X.env = [(false, eval e X.env)] := by rfl) :
    PI X (.Tuple elts kk tpos) (.Call (.Name "enumerate" p) [e] [] pos) (iEnumT X.K ta) := by
  refine ⟨fun pins s σ H R I h => ?_⟩
  refine Call_ (ld_blt I hg hm boot_enumerate (PyProof.Rows.callWith_type1 (thn (ha.run pos pins s σ H _ I h) fun us s1 ⟨vs, H1, I1, r1, q1⟩ => ?_) hs rfl))
  obtain ⟨a, xs, ex, hq, q⟩ := q1
  subst ex
  obtain ⟨u, rfl⟩ : ∃ u, us = [u] := by
    cases r1 with
    | cons r rr => cases rr; exact ⟨_, rfl⟩
  obtain rfl : u = Value.ref a := by
    cases r1 with
    | cons r rr => exact r
  obtain ⟨its, rv, p', hz⟩ := I1.tuple hq
  refine call_enumerate_tup p' fun h' he hit hk => wpAny_pyIter_enum he ?_
  have I2 : Inv X pins σ H1 { s1 with heap := h' } := I1.kept (t' := s1.toks) hk
  refine ⟨s1.heap.objs.size + 1, [s1.heap.objs.size + 1, s1.heap.objs.size], _, _, H1, rfl, I2, turn_enumT a (s1.heap.objs.size + 1) s1.heap.objs.size xs, ⟨⟨.none, he⟩, hit, Nat.succ_ne_self _⟩, fun b hb => ?_, q⟩
  have hle : s1.heap.objs.size ≤ b := by
    rcases (show b = s1.heap.objs.size + 1 ∨ b = s1.heap.objs.size by simpa using hb) with z | z
    · rw [z]; exact Nat.le_add_right _ _
    · rw [z]; exact Nat.le_refl _
  exact I1.fpOk hle (I1.hok.fresh hle)
end L2.K10

set_option Elab.async false
set_option linter.all false
set_option maxRecDepth 100000
set_option maxHeartbeats 4000000
namespace L2.K10
open PySem PySem.Spec PyProof.Rows
/-! ### the text -/
abbrev prg : Program := PySem.Challenge.pw_holestore_k10_whole_requests
def top (i : Nat) : Stmt := prg.main.body.getD i (.Pass ⟨0, 0, 0, 0⟩)
abbrev FnP (K : PySem.W.Frag) (x : Str) (i : Nat) (f : Addr) (fd : FuncData) : Prop := FunD K x x (defArgs (top i)) (defBody (top i)) (defScope (top i)) [] [] f fd
section
variable {CX : CXT} {P : Program} {w : World} {K : PySem.W.Frag} {mg : Str → Option Value} {base : Heap} {N : List Str} {q : Str} {sc : Scope} {f : Addr} {cd : Value} {A : Around} {o : List Env} {s : Shared} {H : Hp} {E : XK}
theorem cxp : (cxOf CX P w K mg base N q sc f cd A o s H E).nox.prog = P := rfl
theorem cxw : (cxOf CX P w K mg base N q sc f cd A o s H E).nox.w = w := rfl
theorem cxk : (cxOf CX P w K mg base N q sc f cd A o s H E).nox.K = K := rfl
theorem cxp' : (cxOf CX P w K mg base N q sc f cd A o s H E).prog = P := rfl
theorem cxw' : (cxOf CX P w K mg base N q sc f cd A o s H E).w = w := rfl
theorem cxk' : (cxOf CX P w K mg base N q sc f cd A o s H E).K = K := rfl
end
/-! ### heaps that grow -/
def NT (o : HO) : Prop := ∀ ps, o ≠ .tbl ps
/-- the four tables of code objects -/
structure Tbs where
  a : Addr
  n : Addr
  c : Addr
  w : Addr
  ne : w ≠ a ∧ w ≠ n ∧ w ≠ c
def lamQ : Str := "words_from.<locals>.<lambda>"
structure Tb (T : Tbs) (H : Hp) : Prop where
  a : GxR.TabG H T.a
  n : GxR.TabG H T.n
  c : GxR.TabG H T.c
  w : LamX.TabS H T.w lamQ
/-- all but the tables stays; the tables stay tables -/
structure Ex (T : Tbs) (H H' : Hp) : Prop where
  keep : ∀ b o, H b = some o → NT o → H' b = some o
  tab : Tb T H → Tb T H'
  free : ∀ b, H' b = none → H b = none
theorem Ex.refl {T : Tbs} {H : Hp} : Ex T H H := ⟨fun _ _ h _ => h, id, fun _ h => h⟩
theorem Ex.trans {T : Tbs} {H H1 H2 : Hp} (a : Ex T H H1) (b : Ex T H1 H2) : Ex T H H2 := ⟨fun c o h n => b.keep c o (a.keep c o h n) n, fun t => b.tab (a.tab t), fun c h => a.free c (b.free c h)⟩
theorem upd_none {H : Hp} {p b : Addr} {o : HO} (h : upd H p o b = none) : b ≠ p ∧ H b = none := by
  by_cases e : b = p
  · rw [e, upd_same] at h
    cases h
  · rw [upd_ne e] at h
    exact ⟨e, h⟩
theorem codeO_nt {c : Addr} {q : Str} : NT (LamX.CodeO c q) := fun ps => LamX.codeO_ne ps
theorem tabG_mono {H H' : Hp} {p : Addr} (k : ∀ ps, H p = some (.tbl ps) → H' p = some (.tbl ps)) (t : GxR.TabG H p) : GxR.TabG H' p := let ⟨ps, h1, h2⟩ := t; ⟨ps, k ps h1, h2⟩
theorem tabS_mono {H H' : Hp} {p : Addr} {q : Str} (k : ∀ ps, H p = some (.tbl ps) → H' p = some (.tbl ps)) (k2 : ∀ b o, H b = some o → NT o → H' b = some o) (t : LamX.TabS H p q) : LamX.TabS H' p q := by
  obtain ⟨ps, h1, h2, h3⟩ := t
  refine ⟨ps, k ps h1, h2, fun pos cv h => ?_⟩
  obtain ⟨c, e1, e2⟩ := h3 pos cv h
  exact ⟨c, e1, k2 c _ e2 codeO_nt⟩
theorem tb_mono {T : Tbs} {H H' : Hp} (k : ∀ b ps, H b = some (.tbl ps) → H' b = some (.tbl ps)) (k2 : ∀ b o, H b = some o → NT o → H' b = some o) (t : Tb T H) : Tb T H' :=
  ⟨tabG_mono (k _) t.a, tabG_mono (k _) t.n, tabG_mono (k _) t.c, tabS_mono (k _) k2 t.w⟩
theorem Ex.of {T : Tbs} {H H' : Hp} (k : ∀ b o, H b = some o → H' b = some o) : Ex T H H' := ⟨fun b o h _ => k b o h, tb_mono (fun b ps h => k b _ h) fun b o h _ => k b o h, fun b h => by
  cases e : H b with
  | none => rfl
  | some o => rw [k b o e] at h; cases h⟩
theorem ex_new {T : Tbs} {H : Hp} {p : Addr} {o : HO} (h : H p = none) : Ex T H (upd H p o) := .of fun b x e => by rw [upd_ne (ne_of_none e h)]; exact e
/-- an object of ours: no table, no code object -/
def Own (u : HO) : Prop := NT u ∧ ∀ c q, u ≠ LamX.CodeO c q
theorem own_lst {xs : List V} : Own (.lst xs) := ⟨(fun _ z => nomatch z), fun _ _ z => by unfold LamX.CodeO at z; cases z⟩
theorem own_dK {xs : List (Key × V)} : Own (.dK xs) := ⟨(fun _ z => nomatch z), fun _ _ z => by unfold LamX.CodeO at z; cases z⟩
theorem own_tup {xs : List V} : Own (.tup xs) := ⟨(fun _ z => nomatch z), fun _ _ z => by unfold LamX.CodeO at z; cases z⟩
theorem own_sd {P : Program} {w : World} {d : Addr} {xs : Ents} {ep : Nat} : Own (sdO P w d xs ep) := by
  refine ⟨(fun _ z => nomatch z), fun c q z => ?_⟩
  unfold sdO LamX.CodeO at z
  injection z with z
  let ob : Obj := { cls := .none, data := .fields #[.none, .str q 0] }
  let h : Heap := { objs := Array.replicate (c + d + 1) ob }
  have g : ∀ b, b < c + d + 1 → h.get? b = some ob := fun b hb => Heap.get?_some_iff.mpr ⟨by
    show (Array.replicate (c + d + 1) ob)[b]? = some ob
    rw [Array.getElem?_replicate, if_pos hb], rfl⟩
  have hc : h.get? c = some ob := g c (Nat.lt_succ_of_le (Nat.le_add_right c d))
  have hd : h.get? d = some ob := g d (Nat.lt_succ_of_le (Nat.le_add_left d c))
  have e := congrFun z h
  have r : ∃ (oc : Obj) (vs : Array Value) (t : Tok), h.get? c = some oc ∧ oc.data = .fields vs ∧ vs[1]? = some (.str q t) := ⟨ob, #[.none, .str q 0], 0, hc, rfl, rfl⟩
  rw [← e] at r
  obtain ⟨_, _, ys, _, _, o, es, ho, _, hdat, _⟩ := r
  rw [hd] at ho
  cases ho
  cases hdat
/-- a new object of ours is written: what stood ahead stays -/
theorem Ex.write {T : Tbs} {H H1 : Hp} {p : Addr} {o u : HO} (e : Ex T H H1) (h0 : H p = none) (h1 : H1 p = some u) (n : Own u) : Ex T H (upd H1 p o) := by
  refine ⟨fun b x hb nx => ?_, fun t => ?_, fun b hb => e.free b (upd_none hb).2⟩
  · rw [upd_ne (ne_of_none hb h0)]
    exact e.keep b x hb nx
  · have t1 := e.tab t
    have ne : ∀ b ps, H1 b = some (.tbl ps) → b ≠ p := fun b ps hb z => by
      rw [z, h1] at hb
      exact n.1 ps (Option.some.inj hb)
    have g : ∀ {q}, GxR.TabG H1 q → GxR.TabG (upd H1 p o) q := fun {q} z => tabG_mono (fun ps hq => by rw [upd_ne (ne _ _ hq)]; exact hq) z
    refine ⟨g t1.a, g t1.n, g t1.c, ?_⟩
    obtain ⟨ps, q1, q2, q3⟩ := t1.w
    refine ⟨ps, by rw [upd_ne (ne _ _ q1)]; exact q1, q2, fun pos cv hc => ?_⟩
    obtain ⟨c, c1, c2⟩ := q3 pos cv hc
    refine ⟨c, c1, ?_⟩
    rw [upd_ne fun z => ?_]
    · exact c2
    · rw [z, h1] at c2
      exact n.2 _ _ (Option.some.inj c2)
/-! ### immutable data -/
def TpS (H H' : Hp) : Prop := ∀ b xs, H b = some (.tup xs) → H' b = some (.tup xs)
theorem TpS.refl {H : Hp} : TpS H H := fun _ _ h => h
theorem TpS.trans {H H1 H2 : Hp} (a : TpS H H1) (b : TpS H1 H2) : TpS H H2 := fun c o h => b c o (a c o h)
theorem Ex.tps {T : Tbs} {H H' : Hp} (e : Ex T H H') : TpS H H' := fun b xs h => e.keep b _ h own_tup.1
theorem tps_new {H : Hp} {p : Addr} {o : HO} (h : H p = none) : TpS H (upd H p o) := fun b x e => by rw [upd_ne (ne_of_none e h)]; exact e
theorem tps_write {H : Hp} {p : Addr} {o u : HO} (h : H p = some u) (n : ∀ xs, u ≠ .tup xs) : TpS H (upd H p o) := fun b x e => by
  rw [upd_ne fun z => ?_]
  · exact e
  · rw [z, h] at e
    exact n _ (Option.some.inj e)
def nV (n : Nat) : V := .int (n : Int)
/-- a pair of numbers; a tuple of such -/
def IsP (H : Hp) (a : Addr) (p : Nat × Nat) : Prop := H a = some (.tup [nV p.1, nV p.2])
def IsW (H : Hp) (a : Addr) (l : List (Nat × Nat)) : Prop := ∃ as : List Addr, H a = some (.tup (as.map V.ref)) ∧ Paired (IsP H) as l
theorem IsSg.mono {H H' : Hp} {a : Addr} {s : Sg} (e : TpS H H') (h : IsSg H a s) : IsSg H' a s := e _ _ h
theorem IsP.mono {H H' : Hp} {a : Addr} {p : Nat × Nat} (e : TpS H H') (h : IsP H a p) : IsP H' a p := e _ _ h
theorem IsPs.mono {H H' : Hp} {as : List Addr} {l : List (Nat × Nat)} (e : TpS H H') (h : Paired (IsP H) as l) : Paired (IsP H') as l := Paired.mapP h fun _ _ => IsP.mono e
theorem IsW.mono {H H' : Hp} {a : Addr} {l : List (Nat × Nat)} (e : TpS H H') (h : IsW H a l) : IsW H' a l := let ⟨as, h1, h2⟩ := h; ⟨as, e _ _ h1, IsPs.mono e h2⟩
theorem sqT_new {K : PySem.W.Frag} {H : Hp} {a p : Addr} {o : HO} {xs : List V} (h : H p = none) (t : SqT K H a xs) : SqT K (upd H p o) a xs := by
  rcases t with (t | ⟨ob, t⟩) | t
  · exact .inl (.inl (by rw [upd_ne (ne_of_none t h)]; exact t))
  · exact .inl (.inr ⟨ob, by rw [upd_ne (ne_of_none t h)]; exact t⟩)
  · exact .inr t
theorem paired_at {α β : Type} {F : α → β → Prop} : ∀ {l₁ : List α} {l₂ : List β}, Paired F l₁ l₂ → ∀ {i : Nat} {a : α}, l₁[i]? = some a → ∃ b, l₂[i]? = some b ∧ F a b
  | _, _, .nil, _, _, e => by simp at e
  | _ :: _, _ :: _, .cons h t, 0, _, e => by simp at e; subst e; exact ⟨_, rfl, h⟩
  | _ :: _, _ :: _, .cons h t, i + 1, a, e => by
    obtain ⟨b, h1, h2⟩ := paired_at t (i := i) (a := a) (by simpa using e)
    exact ⟨b, by simpa using h1, h2⟩
theorem paired_app {α β : Type} {F : α → β → Prop} : ∀ {l₁ m₁ : List α} {l₂ m₂ : List β}, Paired F l₁ l₂ → Paired F m₁ m₂ → Paired F (l₁ ++ m₁) (l₂ ++ m₂)
  | _, _, _, _, .nil, h => h
  | _, _, _, _, .cons h t, h' => .cons h (paired_app t h')
theorem ips_at {H : Hp} {as : List Addr} {l : List (Nat × Nat)} (h : Paired (IsP H) as l) {i : Nat} {x : V} (e : (as.map V.ref)[i]? = some x) : ∃ b t, x = .ref b ∧ l[i]? = some t ∧ IsP H b t := by
  rw [List.getElem?_map] at e
  obtain ⟨b, hb, rfl⟩ := Option.map_eq_some_iff.mp e
  obtain ⟨t, h1, h2⟩ := paired_at h hb
  exact ⟨b, t, rfl, h1, h2⟩
theorem small64 {n : Nat} (h : n ≤ 1000) : n ≤ sizeLine := Nat.le_trans h (by decide)
section
variable {P : Program} {w : World} {K : PySem.W.Frag}
theorem lc_tupG {a : Addr} {xs : List V} {g : TG} {tt : TT} {te : TE} {vs : List Nat} {σ : St} {H1 : Hp} {D : Addr} {Qd : Hp → Prop} (G : Nat → List V) (hT : SqT K H1 a xs) (hn : H1 D = none) (h0 : G 0 = [])
    (hs : ∀ i x, xs[i]? = some x → g x (wipe σ vs) (upd H1 D (.lst (G i))) fun σ2 H2 => wipe σ2 vs = wipe σ vs ∧ tt σ2 H2 fun b H3 => if b = true then te σ2 H3 fun y H4 => ∃ acc, H4 D = some (.lst acc) ∧ acc.length < sizeLine ∧
      upd H4 D (.lst (acc ++ [y])) = upd H1 D (.lst (G (i + 1))) else H3 = upd H1 D (.lst (G (i + 1))))
    (hd : Qd (upd H1 D (.lst (G xs.length)))) :
    ∃ W : Nat → Nat → Hp → Prop, (∃ m, W 0 m (upd H1 D (.lst []))) ∧ ∀ i m H, W i m H →
      ((Itt K a).stop i H ∧ Qd H) ∨ ((Itt K a).go i H ∧ ∃ Nx : Hp → Prop, (∀ H', Nx H' → ∃ m', m' < m ∧ W (i + 1) m' H') ∧ ∀ x H', (Itt K a).yld i H x H' → g x (wipe σ vs) H' fun σ2 H2 => wipe σ2 vs = wipe σ vs ∧ tt σ2 H2 fun b H3 =>
        if b = true then te σ2 H3 fun y H4 => ∃ acc, H4 D = some (.lst acc) ∧ acc.length < sizeLine ∧ Nx (upd H4 D (.lst (acc ++ [y]))) else Nx H3) :=
  lc_tup (fun i H => H = upd H1 D (.lst (G i))) (by rw [h0]) (fun i H _ e => by rw [e]; exact sqT_new hn hT) (fun i x H hx e => by subst e; exact hs i x hx) (fun H e => by subst e; exact hd)
abbrev gP2 (K : PySem.W.Frag) (i j : Nat) : TG := gTup K 2 (gCons (gName i) (gCons (gName j) gNil))
theorem walk_nk {d : Addr} {xs : Ents} {ep : Nat} : Walk (Jnk P w d xs ep) xs.length (fun H => H d = some (sdO P w d xs ep)) (fun i H x H' => H' = H ∧ ∃ k a v, xs[i]? = some (k, a, v) ∧ x = .ref a) :=
  ⟨fun _ _ hi h => ⟨h, hi⟩, fun _ h => ⟨h, Nat.le_refl _⟩, fun _ _ _ _ _ _ y => y⟩
theorem walk_ni {d : Addr} {xs : Ents} {ep : Nat} : Walk (Jni P w d xs ep) xs.length (fun H => H d = some (sdO P w d xs ep)) (fun i H x H' => ∃ T k a v, xs[i]? = some (k, a, v) ∧ x = .ref T ∧ H T = none ∧ H' = upd H T (.tup [.ref a, v])) :=
  ⟨fun _ _ hi h => ⟨h, hi⟩, fun _ h => ⟨h, Nat.le_refl _⟩, fun _ _ _ _ _ _ y => y⟩
theorem walk_enumT {a : Addr} {xs : List V} : Walk (Jet K a xs) xs.length (fun H => SqT K H a xs) (fun i H v H' => ∃ T x, v = .ref T ∧ H T = none ∧ H' = upd H T (.tup [.int (i : Nat), x]) ∧ xs[i]? = some x) :=
  ⟨fun _ _ hi h => ⟨h, hi⟩, fun _ h => ⟨h, rfl⟩, fun _ _ _ _ _ _ y => y⟩
end
theorem ixn {n j : Nat} (hj : j < n) : ixN n (j : Int) = some j := by
  unfold ixN
  rw [if_pos (by omega), if_pos (by omega)]
  simp
theorem oV_at {s : Sg} {i : Nat} (h : i < s.length) : (s.map oV)[i]? = some (oV (s.getD i none)) := by
  rw [List.getElem?_map, List.getElem?_eq_getElem h]
  simp [h]
theorem oV_set (s : Sg) (i : Nat) (x : Option Nat) : (s.map oV).set i (oV x) = (s.set i x).map oV := by rw [List.map_set]
/-! ### yards, lists of pairs -/
structure Yd where
  n : Nat
  ties : List Tie
  g : Nat
def IsY (H : Hp) (y : Addr) (Y : Yd) : Prop := ∃ t, H y = some (.tup [nV Y.n, .ref t, nV Y.g]) ∧ IsW H t Y.ties
theorem IsY.mono {H H' : Hp} {y : Addr} {Y : Yd} (e : TpS H H') (h : IsY H y Y) : IsY H' y Y := let ⟨t, h1, h2⟩ := h; ⟨t, e _ _ h1, h2.mono e⟩
def IsPL (H : Hp) (r : Addr) (l : List (Nat × Nat)) : Prop := ∃ as : List Addr, H r = some (.lst (as.map V.ref)) ∧ Paired (IsP H) as l
end L2.K10

set_option Elab.async false
set_option linter.all false
set_option maxRecDepth 100000
set_option maxHeartbeats 4000000
namespace L2.K10
open PySem PySem.Spec PyProof.Rows
section
variable {P : Program} {w : World} {K : PySem.W.Frag} {mg : Str → Option Value} {base : Heap}
abbrev nSlid : List Str := ["standing", "slide", "found"]
theorem scSlid : FnScope nSlid ["standing", "slide"] (defScope (top 17)) := ⟨rfl, rfl, rfl, by decide +kernel, rfl, by decide +kernel, by decide +kernel⟩
def spSlid (T : Tbs) : Sp := fun vs H Q _ => ∃ (a b : Addr) (s : Sg) (m : Nat × Nat), vs = [.ref a, .ref b] ∧ IsSg H a s ∧ IsP H b m ∧ m.1 < s.length ∧ m.2 < s.length ∧ m.1 ≠ m.2 ∧ s.length ≤ 20 ∧
  ∀ H' r, Ex T H H' → H r = none → IsSg H' r (slidM s m) → Q (.ref r) H'
theorem ok_slid {T : Tbs} {f : Addr} {fd : FuncData} (F : FnP K "slid" 17 f fd) (mL : mg "list" = none) (mT : mg "tuple" = none) : FnOk P w K mg base CX0 1 f fd ["standing", "slide"] (spSlid T) := by
  refine F.ok scSlid (fun vs H Q E h => ?_) (fun cdv A outer s H vs Q E hr h => ?_)
  · obtain ⟨a, b, s, m, rfl, _⟩ := h
    rfl
  · obtain ⟨a, b, st, m, rfl, hS, hP, h1, h2, h12, hl, q⟩ := h
    refine ⟨_, PSs.nox (pss_cons (ps_set (i := 2) scSlid.nd rfl (.inl rfl) (pe_callTy call_list_of (by rfl) mL (by decide +kernel) (pa_cons (pv 0) pa_nil)))
      (pss_cons (ps_asg (pe_tup (pa_cons pe_non (pa_cons (pe_ix ix_tup (pv 0) (pe_ix ix_tup (pv 1) pe_int (fun _ _ => rfl)) (fun _ _ => rfl)) pa_nil)))
        (pg_tup (by rfl) (pgs_cons (pg_sub (pv 2) (pe_ix ix_tup (pv 1) pe_int (fun _ _ => rfl)) set_list) (pgs_cons (pg_sub (pv 2) (pe_ix ix_tup (pv 1) pe_int (fun _ _ => rfl)) set_list) pgs_nil))))
      (pss_one (ps_ret (pe_callTy call_tuple_of (by rfl) mT (by decide +kernel) (pa_cons (pv 2) pa_nil)))))), ?_⟩
    refine ⟨_, rfl, a, _, rfl, .inr (.of hS), fun f nf => ?_⟩
    have tf := tps_new (o := .lst (st.map oV)) nf
    refine ⟨_, rfl, _, rfl, b, _, _, _, rfl, rfl, .of (hP.mono tf), atI_nat (j := 0) rfl, a, _, _, _, rfl, rfl, .of (hS.mono tf), atI_nat (oV_at h1), ?_⟩
    refine ⟨by show 2 ≤ sizeLine; decide, fun t nt => ?_⟩
    have tt := tps_new (o := .tup [V.non, oV (st.getD m.1 none)]) nt
    have nft : f ≠ t := fun z => by rw [← z, upd_same] at nt; cases nt
    refine ⟨t, _, rfl, .of upd_same, rfl, _, _, rfl, _, rfl, _, rfl, b, _, _, _, rfl, rfl, .of ((hP.mono tf).mono tt), atI_nat (j := 0) rfl, f, _, _, m.1, rfl, rfl, by rw [upd_ne nft, upd_same], ?_, ?_⟩
    · exact ixn (by rw [List.length_map]; exact h1)
    have e0 : Ex T H (upd (upd H f (.lst (st.map oV))) t (.tup [V.non, oV (st.getD m.1 none)])) := (ex_new nf).trans (ex_new nt)
    have u1 : upd (upd H f (.lst (st.map oV))) t (.tup [V.non, oV (st.getD m.1 none)]) f = some (.lst (st.map oV)) := by rw [upd_ne nft, upd_same]
    have t1 := tps_write (o := .lst ((st.map oV).set m.1 V.non)) u1 (fun _ z => nomatch z)
    have e1 : Ex T H (upd (upd (upd H f (.lst (st.map oV))) t (.tup [V.non, oV (st.getD m.1 none)])) f (.lst ((st.map oV).set m.1 V.non))) := e0.write nf u1 own_lst
    refine ⟨_, _, rfl, _, rfl, _, rfl, b, _, _, _, rfl, rfl, .of (((hP.mono tf).mono tt).mono t1), atI_nat (j := 1) rfl, f, _, _, m.2, rfl, rfl, upd_same, ?_, rfl, ?_⟩
    · exact ixn (by rw [List.length_set, List.length_map]; exact h2)
    have e2 := e1.write (o := .lst (((st.map oV).set m.1 V.non).set m.2 (oV (st.getD m.1 none)))) nf upd_same own_lst
    refine ⟨_, rfl, f, _, rfl, .inl ⟨.of upd_same, fun r nr => ?_⟩⟩
    refine q _ r (e2.trans (ex_new nr)) (e2.free _ nr) ?_
    show _ = _
    rw [upd_same, show V.non = oV none from rfl, oV_set, oV_set]
    rfl
end
end L2.K10

set_option Elab.async false
set_option linter.all false
set_option maxRecDepth 100000
set_option maxHeartbeats 4000000
namespace L2.K10
open PySem PySem.Spec PyProof.Rows
section
variable {P : Program} {w : World} {K : PySem.W.Frag} {mg : Str → Option Value} {base : Heap}
abbrev nNear : List Str := ["ties", "place", "found", "one", "other"]
theorem scNear : FnScope nNear ["ties", "place"] (defScope (top 12)) := ⟨rfl, rfl, rfl, by decide +kernel, rfl, by decide +kernel, by decide +kernel⟩
def spNear (T : Tbs) : Sp := fun vs H Q _ => ∃ (a : Addr) (ties : List Tie) (p : Nat), vs = [.ref a, nV p] ∧ IsW H a ties ∧ ties.length ≤ 20 ∧
  ∀ H' r, Ex T H H' → H r = none → H' r = some (.lst ((nearM ties p).map nV)) → Q (.ref r) H'
theorem ok_near {T : Tbs} {f : Addr} {fd : FuncData} (F : FnP K "near" 12 f fd) (mS : mg "sorted" = none) : FnOk P w K mg base CX0 1 f fd ["ties", "place"] (spNear T) := by
  refine F.ok scNear (fun vs H Q E h => ?_) (fun cdv A outer s H vs Q E hr h => ?_)
  · obtain ⟨a, ties, p, rfl, _⟩ := h
    rfl
  · obtain ⟨a, ties, p, rfl, ⟨as, hT, hp⟩, hl, q⟩ := h
    refine ⟨_, PSs.nox (pss_cons (ps_set (i := 2) scNear.nd rfl (.inl rfl) (pe_op op_cat
        (pe_lc (own := [("one", 3), ("other", 4)]) (g := gP2 K 3 4) (tt := tTest (tOp rEq (tVar 4) (tVar 1))) (te := tVar 3) (by rfl) scNear.nd (pi_tup (pv 0)) (blkOk_by (own := [("one", 3), ("other", 4)]) (N := nNear) (sc := defScope (top 12)) (by decide +kernel))
          (fun _ _ _ _ _ => pg_tup (by rfl) (pgs_cons (pg_name (i := 3) scNear.nd rfl (.inl rfl)) (pgs_cons (pg_name (i := 4) scNear.nd rfl (.inl rfl)) pgs_nil)))
          (fun _ _ _ _ _ => pts_one (pt_cmpR op_eq (pv 4) (pv 1) (nomark _))) (fun _ _ _ _ _ => pv 3))
        (pe_lc (own := [("one", 3), ("other", 4)]) (g := gP2 K 3 4) (tt := tTest (tOp rEq (tVar 3) (tVar 1))) (te := tVar 4) (by rfl) scNear.nd (pi_tup (pv 0)) (blkOk_by (own := [("one", 3), ("other", 4)]) (N := nNear) (sc := defScope (top 12)) (by decide +kernel))
          (fun _ _ _ _ _ => pg_tup (by rfl) (pgs_cons (pg_name (i := 3) scNear.nd rfl (.inl rfl)) (pgs_cons (pg_name (i := 4) scNear.nd rfl (.inl rfl)) pgs_nil)))
          (fun _ _ _ _ _ => pts_one (pt_cmpR op_eq (pv 3) (pv 1) (nomark _))) (fun _ _ _ _ _ => pv 4))))
      (pss_one (ps_ret (pe_callB cr_sorted (by rfl) mS (by decide +kernel) (pa_cons (pv 2) pa_nil))))), ?_⟩
    have nl : ∀ l : List Tie, l.length ≤ 20 → ∀ (f : Tie → Bool) (g : Tie → V), ((l.filter f).map g).length < sizeLine := fun l h f g => by
      rw [List.length_map]
      exact Nat.lt_of_le_of_lt (List.length_filter_le _ _) (small1000 (by omega))
    have tl : ∀ i, (ties.take i).length ≤ 20 := fun i => Nat.le_trans (List.length_take_le' _ _) hl
    -- the first list
    refine ⟨.ref a, rfl, a, rfl, ⟨_, .of hT⟩, fun D1 n1 => ?_⟩
    refine lc_tupG (fun i => ((ties.take i).filter fun t => t.2 == p).map fun t => nV t.1) (.of hT) n1 rfl (fun i x hx => ?_) ?_
    · obtain ⟨b, t, rfl, ht, hb⟩ := ips_at hp hx
      refine ⟨b, _, rfl, .of ((hb.mono (tps_new n1))), rfl, _, _, rfl, _, _, rfl, rfl, rfl, ?_⟩
      refine ⟨_, rfl, nV p, rfl, rfl, _, rfl, ite2 (fun e => ?_) (fun e => ?_)⟩
      · have e1 : (t.2 == p) = true := by
          have z := V.int.inj (of_decide_eq_true e)
          simp; omega
        refine ⟨_, rfl, _, upd_same, nl _ (tl i) _ _, ?_⟩
        rw [upd_upd, List.take_add_one, ht]
        simp [e1]
      · have e1 : (t.2 == p) = false := by
          have z : ¬ V.int (t.2 : Int) = V.int (p : Int) := fun z => e (decide_eq_true z)
          simp
          intro q
          exact z (by rw [q])
        rw [List.take_add_one, ht]
        simp [e1]
    -- the second one
    refine ⟨.ref a, rfl, a, rfl, ⟨_, sqT_new n1 (.of hT)⟩, fun D2 n2 => ?_⟩
    have e12 := tps_new (o := .lst (List.map (fun t => nV t.1) (List.filter (fun t => t.2 == p) (List.take (as.map V.ref).length ties)))) n1
    refine lc_tupG (fun i => ((ties.take i).filter fun t => t.1 == p).map fun t => nV t.2) (sqT_new n1 (.of hT)) n2 rfl (fun i x hx => ?_) ?_
    · obtain ⟨b, t, rfl, ht, hb⟩ := ips_at hp hx
      refine ⟨b, _, rfl, .of ((hb.mono e12).mono (tps_new n2)), rfl, _, _, rfl, _, _, rfl, rfl, rfl, ?_⟩
      refine ⟨_, rfl, nV p, rfl, rfl, _, rfl, ite2 (fun e => ?_) (fun e => ?_)⟩
      · have e1 : (t.1 == p) = true := by
          have z := V.int.inj (of_decide_eq_true e)
          simp; omega
        refine ⟨_, rfl, _, upd_same, nl _ (tl i) _ _, ?_⟩
        rw [upd_upd, List.take_add_one, ht]
        simp [e1]
      · have e1 : (t.1 == p) = false := by
          have z : ¬ V.int (t.1 : Int) = V.int (p : Int) := fun z => e (decide_eq_true z)
          simp
          intro q
          exact z (by rw [q])
        rw [List.take_add_one, ht]
        simp [e1]
    -- +, sorted
    have hz : (as.map V.ref).length = ties.length := by rw [List.length_map]; exact Paired.length hp
    have n12 : D1 ≠ D2 := fun z => by rw [← z, upd_same] at n2; cases n2
    have sx : ∀ (f : Tie → Bool), (ties.filter f).length ≤ 20 := fun f => Nat.le_trans (List.length_filter_le _ _) hl
    simp only [hz, List.take_length] at n2 ⊢
    refine ⟨D1, D2, _, _, rfl, rfl, by rw [upd_ne n12, upd_same], upd_same, ?_, fun D3 n3 => ?_⟩
    · refine small64 ?_
      simp only [List.length_map]
      have := sx fun t => t.2 == p
      have := sx fun t => t.1 == p
      omega
    refine ⟨_, rfl, D3, (nearL ties p ++ nearR ties p).map fun n : Nat => (n : Int), rfl, .of ?_, ?_, fun ns D4 hperm hs n4 => ?_⟩
    · rw [upd_same]
      simp [nearL, nearR, List.map_map, Function.comp_def, nV]
    · simp only [List.length_map, List.length_append, nearL, nearR]
      have := sx fun t => t.2 == p
      have := sx fun t => t.1 == p
      omega
    have e := srt_unique hperm hs
    refine q _ D4 ((((ex_new n1).trans (ex_new n2)).trans (ex_new n3)).trans (ex_new n4)) ?_ ?_
    · exact (upd_none (upd_none (upd_none n4).2).2).2
    · rw [upd_same, e]
      simp [nearM, List.map_map, Function.comp_def, nV]
end
end L2.K10

set_option Elab.async false
set_option linter.all false
set_option maxRecDepth 100000
set_option maxHeartbeats 4000000
namespace L2.K10
open PySem PySem.Spec PyProof.Rows
section
variable {P : Program} {w : World} {K : PySem.W.Frag} {mg : Str → Option Value} {base : Heap}
abbrev nSlides : List Str := ["yard", "standing", "found", "place", "book", "other"]
theorem scSlides : FnScope nSlides ["yard", "standing"] (defScope (top 18)) := ⟨rfl, rfl, rfl, by decide +kernel, rfl, by decide +kernel, by decide +kernel⟩
def spSlides (T : Tbs) : Sp := fun vs H Q _ => ∃ (y a : Addr) (Y : Yd) (s : Sg), vs = [.ref y, .ref a] ∧ IsY H y Y ∧ IsSg H a s ∧ TiesOk s.length Y.ties ∧ Y.ties.length ≤ 20 ∧ s.length ≤ 20 ∧
  ∀ H' r, Ex T H H' → H r = none → IsPL H' r (slidesM Y.ties s) → Q (.ref r) H'
theorem ok_slides {T : Tbs} {f fN : Addr} {fd fdN : FuncData} (F : FnP K "slides_of" 18 f fd) (FN : FnP K "near" 12 fN fdN) (gN : mg "near" = some (.ref fN)) (mS : mg "sorted" = none) (mE : mg "enumerate" = none) :
    FnOk P w K mg base CX0 2 f fd ["yard", "standing"] (spSlides T) := by
  have GN : FnOk P w K mg base CX0 1 fN fdN ["ties", "place"] (spNear T) := ok_near FN mS
  have bN : Binds K fdN ["ties", "place"] [] := FN.bindsN fun _ _ _ _ _ _ us hl => match us, hl with | [_, _], _ => rfl
  refine F.ok scSlides (fun vs H Q E h => ?_) (fun cdv A outer s H vs Q E hr h => ?_)
  · obtain ⟨y, a, Y, s, rfl, _⟩ := h
    rfl
  · obtain ⟨y, a, Y, st, rfl, hY, hS, hT, hl1, hl2, q⟩ := h
    refine ⟨_, PSs.nox (pss_cons (ps_set (i := 2) scSlides.nd rfl (.inl rfl) (pe_lst pa_nil))
      (pss_cons (ps_for PassesOwn.never rfl (pi_enumT (by rfl) mE (pa_cons (pv 1) pa_nil)) (pg_tup rfl (pgs_cons (pg_name (i := 3) scSlides.nd rfl (.inr rfl)) (pgs_cons (pg_name (i := 4) scSlides.nd rfl (.inl rfl)) pgs_nil)))
        (pss_one (ps_if (pt_cmp (pc_notN (pv 4)))
          (pss_one (ps_expr (pe_bm PySem.F.plainAttrs_list PySem.F.slot_list_extend PySem.F.type_list_extend mt_extend (pv 2) (pa_cons
            (pe_lc (own := [("other", 5)]) (g := gName 5) (tt := tB (tIsN (tOp (rIxT K) (tVar 1) (tVar 5)))) (te := tTup (tCons (tVar 3) (tCons (tVar 5) tNil))) (by rfl) scSlides.nd
              (pi_list (pe_call GN hr (by rfl) gN FN.kp bN .nil pass0 (pa_cons (pe_ix ix_tup (pv 0) pe_int (fun _ _ => rfl)) (pa_cons (pv 3) pa_nil))))
              (blkOk_by (own := [("other", 5)]) (N := nSlides) (sc := defScope (top 18)) (by decide +kernel)) (fun _ _ _ _ _ => pg_name (i := 5) scSlides.nd rfl (.inl rfl))
              (fun _ _ _ _ _ => pts_one (pt_cmp (pc_isN (pe_ix ix_tup (pv 1) (pv 5) (fun _ _ => rfl))))) (fun _ _ _ _ _ => pe_tup (pa_cons (pv 3) (pa_cons (pv 5) pa_nil)))) pa_nil)))) pss_nil)))
      (pss_one (ps_ret (pv 2))))), ?_⟩
    obtain ⟨t, hY1, hY2⟩ := id hY
    refine ⟨Nat.zero_le _, fun r nr => ?_⟩
    -- the loop
    refine ⟨_, rfl, a, _, rfl, .of (hS.mono (tps_new nr)), ?_⟩
    refine for_it walk_enumT (fun i σ H1 => ∃ z3 z4 z5, σ = [some (.ref y), some (.ref a), some (.ref r), z3, z4, z5] ∧ Ex T H H1 ∧ IsPL H1 r (slidesTo Y.ties st i))
      ⟨none, none, none, rfl, ex_new nr, [], upd_same, .nil⟩ (fun i σ H1 _ ⟨_, _, _, _, e, _⟩ => .of (hS.mono e.tps)) (fun i x σ H1 H2 hi hP hy => ?_) (fun σ H1 hP => ?_)
    · obtain ⟨z3, z4, z5, rfl, e, as, hr1, hps⟩ := hP
      obtain ⟨T1, v, rfl, nT, rfl, hv⟩ := hy
      rw [List.length_map] at hi
      rw [oV_at hi] at hv
      obtain rfl := Option.some.inj hv
      have e2 : Ex T H (upd H1 T1 (.tup [.int (i : Nat), oV (st.getD i none)])) := e.trans (ex_new nT)
      have nrT : r ≠ T1 := ne_of_none hr1 nT
      refine ⟨T1, _, rfl, .of upd_same, rfl, _, _, rfl, _, _, rfl, rfl, ?_⟩
      refine ⟨_, rfl, _, rfl, ?_⟩
      cases hb : st.getD i none with
      | none =>
        rw [hb] at e2
        refine ⟨_, _, _, rfl, e2, as, by rw [upd_ne nrT]; exact hr1, ?_⟩
        rw [slidesTo_succ, hb]
        simp only [Option.isSome_none, Bool.false_eq_true, if_false, List.append_nil]
        exact IsPs.mono (tps_new nT) hps
      | some n =>
        have e3 : (!decide (oV (some n) = V.non)) = true := by simp [oV]
        rw [if_pos e3]
        have tT := tps_new (o := .tup [.int (i : Nat), oV (st.getD i none)]) nT
        have hrT : upd H1 T1 (.tup [.int (i : Nat), oV (st.getD i none)]) r = some (.lst (as.map V.ref)) := by rw [upd_ne nrT]; exact hr1
        rw [hb] at tT hrT e2
        generalize hH2 : upd H1 T1 (.tup [.int (i : Nat), oV (some n)]) = H2 at tT hrT e2 ⊢
        have hY2' := hY.mono e2.tps
        obtain ⟨t', hY1', hY2'⟩ := hY2'
        -- found.extend
        refine ⟨.ref r, rfl, .inl ⟨rfl, _, .of hrT⟩, ?_⟩
        -- near(yard[1], place)
        refine ⟨_, rfl, y, _, _, _, rfl, rfl, .of hY1', atI_nat (j := 1) rfl, _, rfl, t', Y.ties, i, rfl, hY2', hl1, fun H3 p3 e3 np3 hp3 => ?_⟩
        have hrT3 := e3.keep _ _ hrT own_lst.1
        refine ⟨p3, rfl, ⟨_, .of hp3⟩, fun D nD => ?_⟩
        have nDp : p3 ≠ D := ne_of_none hp3 nD
        have nDr : r ≠ D := ne_of_none hrT3 nD
        refine lc_list (fun j H4 => ∃ ds : List Addr, Ex T H3 H4 ∧ H4 D = some (.lst (ds.map V.ref)) ∧ Paired (IsP H4) ds ((holesM st ((nearM Y.ties i).take j)).map fun o => (i, o)))
          ⟨[], ex_new nD, upd_same, .nil⟩ (fun j H4 _ ⟨_, e4, _⟩ => .of (e4.keep _ _ hp3 own_lst.1)) (fun j x H4 hx ⟨ds, e4, hD4, hd4⟩ => ?_) (fun H4 ⟨ds, e4, hD4, hd4⟩ => ?_)
        · rw [List.getElem?_map] at hx
          obtain ⟨o, ho, rfl⟩ := Option.map_eq_some_iff.mp hx
          have hlt : o < st.length := near_lt hT (List.mem_of_getElem? ho)
          refine ⟨rfl, _, rfl, nV o, rfl, a, _, _, _, rfl, rfl, .of (hS.mono ((e2.trans e3).trans e4).tps), atI_nat (oV_at hlt), _, rfl, ite2 (fun eh => ?_) (fun eh => ?_)⟩
          · have eo : (st[o]? == some none) = true := by
              have z : oV (st.getD o none) = V.non := of_decide_eq_true eh
              have z2 : st.getD o none = none := oV_inj (b := none) z
              rw [List.getElem?_eq_getElem hlt]
              simp [List.getD, List.getElem?_eq_getElem hlt] at z2
              simp [z2]
            refine ⟨_, rfl, _, rfl, by show 2 ≤ sizeLine; decide, fun pr npr => ?_⟩
            have ndr : D ≠ pr := ne_of_none hD4 npr
            have e5 : Ex T H3 (upd H4 pr (.tup [nV i, nV o])) := e4.trans (ex_new npr)
            have hD5 : upd H4 pr (.tup [nV i, nV o]) D = some (.lst (ds.map V.ref)) := by rw [upd_ne ndr]; exact hD4
            refine ⟨_, hD5, ?_, ds ++ [pr], ?_, ?_, ?_⟩
            · rw [List.length_map, Paired.length hd4, List.length_map]
              refine small1000 (Nat.le_trans (List.length_filter_le _ _) (Nat.le_trans (List.length_take_le' _ _) ?_))
              have := near_len Y.ties i
              omega
            · exact e5.write nD hD5 own_lst
            · rw [upd_same, List.map_append]
              rfl
            · have tp := tps_write (o := .lst (ds.map V.ref ++ [V.ref pr])) hD5 (fun _ z => nomatch z)
              have hpp : IsP (upd H4 pr (.tup [nV i, nV o])) pr (i, o) := upd_same
              rw [List.take_add_one, ho]
              unfold holesM
              rw [List.filter_append, List.map_append]
              simp only [Option.toList, List.filter_cons, eo, if_true, List.filter_nil, List.map_cons, List.map_nil]
              exact Paired.snoc (IsPs.mono tp (IsPs.mono (tps_new npr) hd4)) (hpp.mono tp)
          · have eo : (st[o]? == some none) = false := by
              have z : ¬ oV (st.getD o none) = V.non := fun z => eh (decide_eq_true z)
              have z2 : ¬ st.getD o none = none := fun q => z (by rw [q]; rfl)
              rw [List.getElem?_eq_getElem hlt]
              simp [List.getD, List.getElem?_eq_getElem hlt] at z2
              cases q : st[o] with
              | none => exact absurd q z2
              | some v => rfl
            refine ⟨ds, e4, hD4, ?_⟩
            rw [List.take_add_one, ho]
            unfold holesM
            rw [List.filter_append, List.map_append]
            simp only [Option.toList, List.filter_cons, eo, List.filter_nil, List.map_nil, List.append_nil, Bool.false_eq_true, if_false]
            exact hd4
        · -- extended
          rw [List.length_map, List.take_length] at hd4
          have hrT4 := e4.keep _ _ hrT3 own_lst.1
          have hlen : ds.length ≤ 40 := by
            rw [Paired.length hd4, List.length_map]
            refine Nat.le_trans (List.length_filter_le _ _) ?_
            have := near_len Y.ties i
            omega
          have hal : as.length ≤ 800 := by
            rw [Paired.length hps]
            refine Nat.le_trans (slidesTo_len _ _ _) (Nat.le_trans (Nat.mul_le_mul (Nat.le_trans (Nat.le_of_lt hi) hl2) (Nat.mul_le_mul (Nat.le_refl 2) hl1)) (by decide))
          refine ⟨r, D, _, _, rfl, rfl, hrT4, hD4, small64 (by rw [List.length_map, List.length_map]; omega), ?_⟩
          have e6 := (e2.trans e3).trans e4
          have tw := tps_write (o := .lst (as.map V.ref ++ ds.map V.ref)) hrT4 (fun _ z => nomatch z)
          refine ⟨_, _, _, rfl, e6.write nr hrT4 own_lst, as ++ ds, by rw [upd_same, List.map_append], ?_⟩
          rw [slidesTo_succ, hb]
          simp only [Option.isSome_some, if_true]
          exact paired_app (IsPs.mono tw (IsPs.mono (tT.trans (e3.trans e4).tps) hps)) (IsPs.mono tw hd4)
    · obtain ⟨z3, z4, z5, rfl, e, as, hr1, hps⟩ := hP
      rw [List.length_map] at hps
      exact ⟨_, rfl, q _ r e nr ⟨as, hr1, hps⟩⟩
end
end L2.K10

set_option Elab.async false
set_option linter.all false
set_option maxRecDepth 100000
set_option maxHeartbeats 4000000
namespace L2.K10
open PySem PySem.Spec PyProof.Rows
section
variable {P : Program} {w : World} {K : PySem.W.Frag} {mg : Str → Option Value} {base : Heap}
abbrev nNearL : List Str := ["_law_ties", "_law_place", "_law_one", "_law_other"]
theorem scNearL : FnScope nNearL ["_law_ties", "_law_place"] (defScope (top 33)) := ⟨rfl, rfl, rfl, by decide +kernel, rfl, by decide +kernel, by decide +kernel⟩
theorem ok_nearL {T : Tbs} {f : Addr} {fd : FuncData} (F : FnP K "_law_near" 33 f fd) (mS : mg "sorted" = none) : FnOk P w K mg base CX0 1 f fd ["_law_ties", "_law_place"] (spNear T) := by
  refine F.ok scNearL (fun vs H Q E h => ?_) (fun cdv A outer s H vs Q E hr h => ?_)
  · obtain ⟨a, ties, p, rfl, _⟩ := h
    rfl
  · obtain ⟨a, ties, p, rfl, ⟨as, hT, hp⟩, hl, q⟩ := h
    refine ⟨_, PSs.nox (pss_one (ps_ret (pe_callB cr_sorted (by rfl) mS (by decide +kernel) (pa_cons (pe_op op_cat
        (pe_lc (own := [("_law_one", 2), ("_law_other", 3)]) (g := gP2 K 2 3) (tt := tTest (tOp rEq (tVar 3) (tVar 1))) (te := tVar 2) (by rfl) scNearL.nd (pi_tup (pv 0)) (blkOk_by (own := [("_law_one", 2), ("_law_other", 3)]) (N := nNearL) (sc := defScope (top 33)) (by decide +kernel))
          (fun _ _ _ _ _ => pg_tup (by rfl) (pgs_cons (pg_name (i := 2) scNearL.nd rfl (.inl rfl)) (pgs_cons (pg_name (i := 3) scNearL.nd rfl (.inl rfl)) pgs_nil)))
          (fun _ _ _ _ _ => pts_one (pt_cmpR op_eq (pv 3) (pv 1) (nomark _))) (fun _ _ _ _ _ => pv 2))
        (pe_lc (own := [("_law_one", 2), ("_law_other", 3)]) (g := gP2 K 2 3) (tt := tTest (tOp rEq (tVar 2) (tVar 1))) (te := tVar 3) (by rfl) scNearL.nd (pi_tup (pv 0)) (blkOk_by (own := [("_law_one", 2), ("_law_other", 3)]) (N := nNearL) (sc := defScope (top 33)) (by decide +kernel))
          (fun _ _ _ _ _ => pg_tup (by rfl) (pgs_cons (pg_name (i := 2) scNearL.nd rfl (.inl rfl)) (pgs_cons (pg_name (i := 3) scNearL.nd rfl (.inl rfl)) pgs_nil)))
          (fun _ _ _ _ _ => pts_one (pt_cmpR op_eq (pv 2) (pv 1) (nomark _))) (fun _ _ _ _ _ => pv 3))) pa_nil)))), ?_⟩
    have nl : ∀ l : List Tie, l.length ≤ 20 → ∀ (f : Tie → Bool) (g : Tie → V), ((l.filter f).map g).length < sizeLine := fun l h f g => by
      rw [List.length_map]
      exact Nat.lt_of_le_of_lt (List.length_filter_le _ _) (small1000 (by omega))
    have tl : ∀ i, (ties.take i).length ≤ 20 := fun i => Nat.le_trans (List.length_take_le' _ _) hl
    -- the first list
    refine ⟨.ref a, rfl, a, rfl, ⟨_, .of hT⟩, fun D1 n1 => ?_⟩
    refine lc_tupG (fun i => ((ties.take i).filter fun t => t.2 == p).map fun t => nV t.1) (.of hT) n1 rfl (fun i x hx => ?_) ?_
    · obtain ⟨b, t, rfl, ht, hb⟩ := ips_at hp hx
      refine ⟨b, _, rfl, .of ((hb.mono (tps_new n1))), rfl, _, _, rfl, _, _, rfl, rfl, rfl, ?_⟩
      refine ⟨_, rfl, nV p, rfl, rfl, _, rfl, ite2 (fun e => ?_) (fun e => ?_)⟩
      · have e1 : (t.2 == p) = true := by
          have z := V.int.inj (of_decide_eq_true e)
          simp; omega
        refine ⟨_, rfl, _, upd_same, nl _ (tl i) _ _, ?_⟩
        rw [upd_upd, List.take_add_one, ht]
        simp [e1]
      · have e1 : (t.2 == p) = false := by
          have z : ¬ V.int (t.2 : Int) = V.int (p : Int) := fun z => e (decide_eq_true z)
          simp
          intro q
          exact z (by rw [q])
        rw [List.take_add_one, ht]
        simp [e1]
    -- the second one
    refine ⟨.ref a, rfl, a, rfl, ⟨_, sqT_new n1 (.of hT)⟩, fun D2 n2 => ?_⟩
    have e12 := tps_new (o := .lst (List.map (fun t => nV t.1) (List.filter (fun t => t.2 == p) (List.take (as.map V.ref).length ties)))) n1
    refine lc_tupG (fun i => ((ties.take i).filter fun t => t.1 == p).map fun t => nV t.2) (sqT_new n1 (.of hT)) n2 rfl (fun i x hx => ?_) ?_
    · obtain ⟨b, t, rfl, ht, hb⟩ := ips_at hp hx
      refine ⟨b, _, rfl, .of ((hb.mono e12).mono (tps_new n2)), rfl, _, _, rfl, _, _, rfl, rfl, rfl, ?_⟩
      refine ⟨_, rfl, nV p, rfl, rfl, _, rfl, ite2 (fun e => ?_) (fun e => ?_)⟩
      · have e1 : (t.1 == p) = true := by
          have z := V.int.inj (of_decide_eq_true e)
          simp; omega
        refine ⟨_, rfl, _, upd_same, nl _ (tl i) _ _, ?_⟩
        rw [upd_upd, List.take_add_one, ht]
        simp [e1]
      · have e1 : (t.1 == p) = false := by
          have z : ¬ V.int (t.1 : Int) = V.int (p : Int) := fun z => e (decide_eq_true z)
          simp
          intro q
          exact z (by rw [q])
        rw [List.take_add_one, ht]
        simp [e1]
    -- +, sorted
    have hz : (as.map V.ref).length = ties.length := by rw [List.length_map]; exact Paired.length hp
    have n12 : D1 ≠ D2 := fun z => by rw [← z, upd_same] at n2; cases n2
    have sx : ∀ (f : Tie → Bool), (ties.filter f).length ≤ 20 := fun f => Nat.le_trans (List.length_filter_le _ _) hl
    simp only [hz, List.take_length] at n2 ⊢
    refine ⟨D1, D2, _, _, rfl, rfl, by rw [upd_ne n12, upd_same], upd_same, ?_, fun D3 n3 => ?_⟩
    · refine small64 ?_
      simp only [List.length_map]
      have := sx fun t => t.2 == p
      have := sx fun t => t.1 == p
      omega
    refine ⟨D3, (nearL ties p ++ nearR ties p).map fun n : Nat => (n : Int), rfl, .of ?_, ?_, fun ns D4 hperm hs n4 => ?_⟩
    · rw [upd_same]
      simp [nearL, nearR, List.map_map, Function.comp_def, nV]
    · simp only [List.length_map, List.length_append, nearL, nearR]
      have := sx fun t => t.2 == p
      have := sx fun t => t.1 == p
      omega
    have e := srt_unique hperm hs
    refine q _ D4 ((((ex_new n1).trans (ex_new n2)).trans (ex_new n3)).trans (ex_new n4)) ?_ ?_
    · exact (upd_none (upd_none (upd_none n4).2).2).2
    · rw [upd_same, e]
      simp [nearM, List.map_map, Function.comp_def, nV]
end
end L2.K10

set_option Elab.async false
set_option linter.all false
set_option maxRecDepth 100000
set_option maxHeartbeats 4000000
namespace L2.K10
open PySem PySem.Spec PyProof.Rows
section
variable {P : Program} {w : World} {K : PySem.W.Frag} {mg : Str → Option Value} {base : Heap}
abbrev nSlidesL : List Str := ["_law_yard_here", "_law_standing_here", "_law_found", "_law_place", "_law_book", "_law_near_here", "_law_other"]
theorem scSlidesL : FnScope nSlidesL ["_law_yard_here", "_law_standing_here"] (defScope (top 34)) := ⟨rfl, rfl, rfl, by decide +kernel, rfl, by decide +kernel, by decide +kernel⟩
theorem ok_slidesL {T : Tbs} {f fN : Addr} {fd fdN : FuncData} (F : FnP K "_law_slides" 34 f fd) (FN : FnP K "_law_near" 33 fN fdN) (gN : mg "_law_near" = some (.ref fN)) (mS : mg "sorted" = none) (mE : mg "enumerate" = none) :
    FnOk P w K mg base CX0 2 f fd ["_law_yard_here", "_law_standing_here"] (spSlides T) := by
  have GN : FnOk P w K mg base CX0 1 fN fdN ["_law_ties", "_law_place"] (spNear T) := ok_nearL FN mS
  have bN : Binds K fdN ["_law_ties", "_law_place"] [] := FN.bindsN fun _ _ _ _ _ _ us hl => match us, hl with | [_, _], _ => rfl
  refine F.ok scSlidesL (fun vs H Q E h => ?_) (fun cdv A outer s H vs Q E hr h => ?_)
  · obtain ⟨y, a, Y, s, rfl, _⟩ := h
    rfl
  · obtain ⟨y, a, Y, st, rfl, hY, hS, hT, hl1, hl2, q⟩ := h
    refine ⟨_, PSs.nox (pss_cons (ps_set (i := 2) scSlidesL.nd rfl (.inl rfl) (pe_lst pa_nil))
      (pss_cons (ps_for PassesOwn.never rfl (pi_enumT (by rfl) mE (pa_cons (pv 1) pa_nil)) (pg_tup rfl (pgs_cons (pg_name (i := 3) scSlidesL.nd rfl (.inr rfl)) (pgs_cons (pg_name (i := 4) scSlidesL.nd rfl (.inl rfl)) pgs_nil)))
        (pss_cons (ps_setLc (i := 5) (own := [("_law_other", 6)]) (g := gName 6) (tt := tB (tIsN (tOp (rIxT K) (tVar 1) (tVar 6)))) (te := tVar 6) (by rfl) scSlidesL.nd rfl rfl (sw_true rfl rfl rfl (by decide +kernel))
            (pi_list (pe_call GN hr (by rfl) gN FN.kp bN .nil pass0 (pa_cons (pe_ix ix_tup (pv 0) pe_int (fun _ _ => rfl)) (pa_cons (pv 3) pa_nil))))
            (blkOk_by (own := [("_law_other", 6)]) (N := nSlidesL) (sc := defScope (top 34)) (by decide +kernel)) (fun _ _ _ _ _ => pg_name (i := 6) scSlidesL.nd rfl (.inl rfl))
            (fun _ _ _ _ _ => pts_one (pt_cmp (pc_isN (pe_ix ix_tup (pv 1) (pv 6) (fun _ _ => rfl))))) (fun _ _ _ _ _ => pv 6))
          (pss_one (ps_set (i := 2) scSlidesL.nd rfl (.inl rfl) (pe_op op_cat (pv 2) (pe_ifExp (pt_cmp (pc_notN (pv 4)))
            (pe_lc (own := [("_law_other", 6)]) (g := gName 6) (tt := tYes) (te := tTup (tCons (tVar 3) (tCons (tVar 6) tNil))) (by rfl) scSlidesL.nd (pi_list (pv 5))
              (blkOk_by (own := [("_law_other", 6)]) (N := nSlidesL) (sc := defScope (top 34)) (by decide +kernel)) (fun _ _ _ _ _ => pg_name (i := 6) scSlidesL.nd rfl (.inl rfl))
              (fun _ _ _ _ _ => pts_nil) (fun _ _ _ _ _ => pe_tup (pa_cons (pv 3) (pa_cons (pv 6) pa_nil))))
            (pe_lst pa_nil)))))))
      (pss_one (ps_ret (pv 2))))), ?_⟩
    obtain ⟨t, hY1, hY2⟩ := id hY
    refine ⟨Nat.zero_le _, fun r nr => ?_⟩
    refine ⟨_, rfl, a, _, rfl, .of (hS.mono (tps_new nr)), ?_⟩
    refine for_it walk_enumT (fun i σ H1 => ∃ r z3 z4 z5 z6, σ = [some (.ref y), some (.ref a), some (.ref r), z3, z4, z5, z6] ∧ Ex T H H1 ∧ H r = none ∧ IsPL H1 r (slidesTo Y.ties st i))
      ⟨r, none, none, none, none, rfl, ex_new nr, nr, [], upd_same, .nil⟩ (fun i σ H1 _ ⟨_, _, _, _, _, _, e, _⟩ => .of (hS.mono e.tps)) (fun i x σ H1 H2 hi hP hy => ?_) (fun σ H1 hP => ?_)
    · obtain ⟨r, z3, z4, z5, z6, rfl, e, nr, as, hr1, hps⟩ := hP
      obtain ⟨T1, v, rfl, nT, rfl, hv⟩ := hy
      rw [List.length_map] at hi
      rw [oV_at hi] at hv
      obtain rfl := Option.some.inj hv
      have e2 : Ex T H (upd H1 T1 (.tup [.int (i : Nat), oV (st.getD i none)])) := e.trans (ex_new nT)
      have nrT : r ≠ T1 := ne_of_none hr1 nT
      refine ⟨T1, _, rfl, .of upd_same, rfl, _, _, rfl, _, _, rfl, rfl, ?_⟩
      have hrT : upd H1 T1 (.tup [.int (i : Nat), oV (st.getD i none)]) r = some (.lst (as.map V.ref)) := by rw [upd_ne nrT]; exact hr1
      have hpsT := IsPs.mono (tps_new (o := .tup [.int (i : Nat), oV (st.getD i none)]) nT) hps
      generalize hH2 : upd H1 T1 (.tup [.int (i : Nat), oV (st.getD i none)]) = H2 at hrT e2 hpsT ⊢
      have hY2' := hY.mono e2.tps
      obtain ⟨t', hY1', hY2'⟩ := hY2'
      refine ⟨_, rfl, y, _, _, _, rfl, rfl, .of hY1', atI_nat (j := 1) rfl, _, rfl, t', Y.ties, i, rfl, hY2', hl1, fun H3 p3 e3 np3 hp3 => ?_⟩
      have hrT3 := e3.keep _ _ hrT own_lst.1
      refine ⟨p3, rfl, ⟨_, .of hp3⟩, fun D nD => ?_⟩
      have nDp : p3 ≠ D := ne_of_none hp3 nD
      have nDr : r ≠ D := ne_of_none hrT3 nD
      have len2 : ∀ j, (holesM st ((nearM Y.ties i).take j)).length ≤ 40 := fun j => by
        refine Nat.le_trans (List.length_filter_le _ _) (Nat.le_trans (List.length_take_le' _ _) ?_)
        have := near_len Y.ties i
        omega
      -- near_here
      refine lc_list (fun j H4 => H4 = upd H3 D (.lst ((holesM st ((nearM Y.ties i).take j)).map nV)))
        rfl (fun j H4 _ h4 => by rw [h4]; exact .of (by rw [upd_ne nDp]; exact hp3)) (fun j x H4 hx h4 => ?_) (fun H4 h4 => ?_)
      · subst h4
        rw [List.getElem?_map] at hx
        obtain ⟨o, ho, rfl⟩ := Option.map_eq_some_iff.mp hx
        have hlt : o < st.length := near_lt hT (List.mem_of_getElem? ho)
        refine ⟨rfl, _, rfl, nV o, rfl, a, _, _, _, rfl, rfl, .of ((hS.mono (e2.trans e3).tps).mono (tps_new nD)), atI_nat (oV_at hlt), _, rfl, ite2 (fun eh => ?_) (fun eh => ?_)⟩
        · have eo : (st[o]? == some none) = true := by
            have z : oV (st.getD o none) = V.non := of_decide_eq_true eh
            have z2 : st.getD o none = none := oV_inj (b := none) z
            rw [List.getElem?_eq_getElem hlt]
            simp [List.getD, List.getElem?_eq_getElem hlt] at z2
            simp [z2]
          refine ⟨_, rfl, _, upd_same, small1000 (by rw [List.length_map]; exact Nat.le_trans (len2 j) (by decide)), ?_⟩
          rw [upd_upd, List.take_add_one, ho]
          unfold holesM
          rw [List.filter_append, List.map_append]
          simp only [Option.toList, List.filter_cons, eo, if_true, List.filter_nil, List.map_cons, List.map_nil]
        · have eo : (st[o]? == some none) = false := by
            have z : ¬ oV (st.getD o none) = V.non := fun z => eh (decide_eq_true z)
            have z2 : ¬ st.getD o none = none := fun q => z (by rw [q]; rfl)
            rw [List.getElem?_eq_getElem hlt]
            simp [List.getD, List.getElem?_eq_getElem hlt] at z2
            cases q : st[o] with
            | none => exact absurd q z2
            | some v => rfl
          rw [List.take_add_one, ho]
          unfold holesM
          rw [List.filter_append, List.map_append]
          simp only [Option.toList, List.filter_cons, eo, List.filter_nil, List.map_nil, List.append_nil, Bool.false_eq_true, if_false]
      -- found + (..)
      rw [List.length_map, List.take_length] at h4
      have e4 : Ex T H3 H4 := by rw [h4]; exact ex_new nD
      have hD4 : H4 D = some (.lst ((holesM st (nearM Y.ties i)).map nV)) := by rw [h4, upd_same]
      have hrT4 := e4.keep _ _ hrT3 own_lst.1
      have hal : as.length ≤ 800 := by
        rw [Paired.length hps]
        refine Nat.le_trans (slidesTo_len _ _ _) (Nat.le_trans (Nat.mul_le_mul (Nat.le_trans (Nat.le_of_lt hi) hl2) (Nat.mul_le_mul (Nat.le_refl 2) hl1)) (by decide))
      refine ⟨_, rfl, _, rfl, _, rfl, ?_⟩
      cases hb : st.getD i none with
      | none =>
        refine ⟨Nat.zero_le _, fun L nL => ?_⟩
        have nrL : r ≠ L := ne_of_none hrT4 nL
        refine ⟨r, L, _, _, rfl, rfl, by rw [upd_ne nrL]; exact hrT4, upd_same, small64 (by rw [List.length_map]; show as.length + 0 ≤ 1000; omega), fun r2 nr2 => ?_⟩
        have e6 := (((e2.trans e3).trans e4).trans (ex_new (o := .lst []) nL)).trans (ex_new (o := .lst (as.map V.ref ++ [])) nr2)
        refine ⟨r2, _, _, _, _, rfl, e6, ((((e2.trans e3).trans e4).trans (ex_new (o := .lst []) nL)).free _ nr2), as, by rw [upd_same, List.append_nil], ?_⟩
        rw [slidesTo_succ, hb]
        simp only [Option.isSome_none, Bool.false_eq_true, if_false, List.append_nil]
        exact IsPs.mono (tps_new nr2) (IsPs.mono (tps_new nL) (IsPs.mono (e3.trans e4).tps hpsT))
      | some n =>
        have e3' : (!decide (oV (some n) = V.non)) = true := by simp [oV]
        show if (!decide (oV (some n) = V.non)) = true then _ else _
        rw [if_pos e3']
        refine ⟨_, rfl, D, rfl, ⟨_, .of hD4⟩, fun L nL => ?_⟩
        have nrL : r ≠ L := ne_of_none hrT4 nL
        have nDL : D ≠ L := ne_of_none hD4 nL
        refine lc_list (fun j H5 => ∃ ds : List Addr, Ex T H4 H5 ∧ H5 L = some (.lst (ds.map V.ref)) ∧ Paired (IsP H5) ds (((holesM st (nearM Y.ties i)).take j).map fun o => (i, o)))
          ⟨[], ex_new nL, upd_same, .nil⟩ (fun j H5 _ ⟨_, e5, _⟩ => .of (e5.keep _ _ hD4 own_lst.1)) (fun j x H5 hx ⟨ds, e5, hL5, hd5⟩ => ?_) (fun H5 ⟨ds, e5, hL5, hd5⟩ => ?_)
        · rw [List.getElem?_map] at hx
          obtain ⟨o, ho, rfl⟩ := Option.map_eq_some_iff.mp hx
          refine ⟨rfl, _, rfl, _, rfl, by show 2 ≤ sizeLine; decide, fun pr npr => ?_⟩
          have ndr : L ≠ pr := ne_of_none hL5 npr
          have hL6 : upd H5 pr (.tup [nV i, nV o]) L = some (.lst (ds.map V.ref)) := by rw [upd_ne ndr]; exact hL5
          refine ⟨_, hL6, ?_, ds ++ [pr], ?_, ?_, ?_⟩
          · rw [List.length_map, Paired.length hd5, List.length_map]
            refine small1000 (Nat.le_trans (List.length_take_le' _ _) (Nat.le_trans (List.length_filter_le _ _) ?_))
            have := near_len Y.ties i
            omega
          · exact (e5.trans (ex_new npr)).write nL hL6 own_lst
          · rw [upd_same, List.map_append]
            rfl
          · have tp := tps_write (o := .lst (ds.map V.ref ++ [V.ref pr])) hL6 (fun _ z => nomatch z)
            have hpp : IsP (upd H5 pr (.tup [nV i, nV o])) pr (i, o) := upd_same
            rw [List.take_add_one, ho, List.map_append]
            exact Paired.snoc (IsPs.mono tp (IsPs.mono (tps_new npr) hd5)) (hpp.mono tp)
        · rw [List.length_map, List.take_length] at hd5
          have hrT5 := e5.keep _ _ hrT4 own_lst.1
          have hlen : ds.length ≤ 40 := by
            rw [Paired.length hd5, List.length_map]
            refine Nat.le_trans (List.length_filter_le _ _) ?_
            have := near_len Y.ties i
            omega
          refine ⟨r, L, _, _, rfl, rfl, hrT5, hL5, small64 (by rw [List.length_map, List.length_map]; omega), fun r2 nr2 => ?_⟩
          have e6 := ((e2.trans e3).trans e4).trans e5
          refine ⟨r2, _, _, _, _, rfl, e6.trans (ex_new nr2), e6.free _ nr2, as ++ ds, by rw [upd_same, List.map_append], ?_⟩
          rw [slidesTo_succ, hb]
          simp only [Option.isSome_some, if_true]
          exact paired_app (IsPs.mono (tps_new nr2) (IsPs.mono ((e3.trans e4).trans e5).tps hpsT)) (IsPs.mono (tps_new nr2) hd5)
    · obtain ⟨r, z3, z4, z5, z6, rfl, e, nr, as, hr1, hps⟩ := hP
      rw [List.length_map] at hps
      exact ⟨_, rfl, q _ r e nr ⟨as, hr1, hps⟩⟩
end
end L2.K10

set_option Elab.async false
set_option linter.all false
set_option maxRecDepth 100000
set_option maxHeartbeats 4000000
namespace L2.K10
open PySem PySem.Spec PyProof.Rows
section
variable {P : Program} {w : World} {K : PySem.W.Frag} {mg : Str → Option Value} {base : Heap}
abbrev nSlidL : List Str := ["_law_standing_here", "_law_slide", "_law_found"]
theorem scSlidL : FnScope nSlidL ["_law_standing_here", "_law_slide"] (defScope (top 35)) := ⟨rfl, rfl, rfl, by decide +kernel, rfl, by decide +kernel, by decide +kernel⟩
theorem ok_slidL {T : Tbs} {f : Addr} {fd : FuncData} (F : FnP K "_law_slid" 35 f fd) (mL : mg "list" = none) (mT : mg "tuple" = none) : FnOk P w K mg base CX0 1 f fd ["_law_standing_here", "_law_slide"] (spSlid T) := by
  refine F.ok scSlidL (fun vs H Q E h => ?_) (fun cdv A outer s H vs Q E hr h => ?_)
  · obtain ⟨a, b, s, m, rfl, _⟩ := h
    rfl
  · obtain ⟨a, b, st, m, rfl, hS, hP, h1, h2, h12, hl, q⟩ := h
    refine ⟨_, PSs.nox (pss_cons (ps_set (i := 2) scSlidL.nd rfl (.inl rfl) (pe_callTy call_list_of (by rfl) mL (by decide +kernel) (pa_cons (pv 0) pa_nil)))
      (pss_cons (ps_asg (pe_tup (pa_cons (pe_ix ix_tup (pv 0) (pe_ix ix_tup (pv 1) pe_int (fun _ _ => rfl)) (fun _ _ => rfl)) (pa_cons pe_non pa_nil)))
        (pg_tup (by rfl) (pgs_cons (pg_sub (pv 2) (pe_ix ix_tup (pv 1) pe_int (fun _ _ => rfl)) set_list) (pgs_cons (pg_sub (pv 2) (pe_ix ix_tup (pv 1) pe_int (fun _ _ => rfl)) set_list) pgs_nil))))
      (pss_one (ps_ret (pe_callTy call_tuple_of (by rfl) mT (by decide +kernel) (pa_cons (pv 2) pa_nil)))))), ?_⟩
    refine ⟨_, rfl, a, _, rfl, .inr (.of hS), fun f nf => ?_⟩
    have tf := tps_new (o := .lst (st.map oV)) nf
    refine ⟨_, rfl, _, rfl, b, _, _, _, rfl, rfl, .of (hP.mono tf), atI_nat (j := 0) rfl, a, _, _, _, rfl, rfl, .of (hS.mono tf), atI_nat (oV_at h1), ?_⟩
    refine ⟨by show 2 ≤ sizeLine; decide, fun t nt => ?_⟩
    have tt := tps_new (o := .tup [oV (st.getD m.1 none), V.non]) nt
    have nft : f ≠ t := fun z => by rw [← z, upd_same] at nt; cases nt
    refine ⟨t, _, rfl, .of upd_same, rfl, _, _, rfl, _, rfl, _, rfl, b, _, _, _, rfl, rfl, .of ((hP.mono tf).mono tt), atI_nat (j := 1) rfl, f, _, _, m.2, rfl, rfl, by rw [upd_ne nft, upd_same], ?_, ?_⟩
    · exact ixn (by rw [List.length_map]; exact h2)
    have e0 : Ex T H (upd (upd H f (.lst (st.map oV))) t (.tup [oV (st.getD m.1 none), V.non])) := (ex_new nf).trans (ex_new nt)
    have u1 : upd (upd H f (.lst (st.map oV))) t (.tup [oV (st.getD m.1 none), V.non]) f = some (.lst (st.map oV)) := by rw [upd_ne nft, upd_same]
    have t1 := tps_write (o := .lst ((st.map oV).set m.2 (oV (st.getD m.1 none)))) u1 (fun _ z => nomatch z)
    have e1 : Ex T H (upd (upd (upd H f (.lst (st.map oV))) t (.tup [oV (st.getD m.1 none), V.non])) f (.lst ((st.map oV).set m.2 (oV (st.getD m.1 none))))) := e0.write nf u1 own_lst
    refine ⟨_, _, rfl, _, rfl, _, rfl, b, _, _, _, rfl, rfl, .of (((hP.mono tf).mono tt).mono t1), atI_nat (j := 0) rfl, f, _, _, m.1, rfl, rfl, upd_same, ?_, rfl, ?_⟩
    · exact ixn (by rw [List.length_set, List.length_map]; exact h1)
    have e2 := e1.write (o := .lst (((st.map oV).set m.2 (oV (st.getD m.1 none))).set m.1 V.non)) nf upd_same own_lst
    refine ⟨_, rfl, f, _, rfl, .inl ⟨.of upd_same, fun r nr => ?_⟩⟩
    refine q _ r (e2.trans (ex_new nr)) (e2.free _ nr) ?_
    show _ = _
    rw [upd_same, show V.non = oV none from rfl, oV_set, oV_set]
    unfold slidM
    rw [List.set_comm _ _ h12]
end
end L2.K10

set_option Elab.async false
set_option linter.all false
set_option maxRecDepth 100000
set_option maxHeartbeats 4000000
namespace L2.K10
open PySem PySem.Spec PyProof.Rows
/-! ### a new dict -/
theorem sd_empty {P : Program} {w : World} {H : Hp} (h : Heap) (hb : sysModules < h.objs.size) : ObjOk P w H (h.push { cls := .type "dict", data := .dict #[] }) h.objs.size (sdO P w h.objs.size [] 0) :=
  sdO_new (Nat.zero_le _) (beq_eq_false_iff_ne.mpr (Ne.symm (Nat.ne_of_lt hb))) .nil List.nodup_nil (Heap.get?_push_size _ rfl) ⟨rfl, rfl, rfl⟩ rfl rfl
/-- {}, to be such a dict -/
def tNNew (P : Program) (w : World) : TE := fun _ H Q => ∀ p, H p = none → Q (.ref p) (upd H p (sdO P w p [] 0))
/-- {k: v} -/
def tND1 (P : Program) (w : World) (tk tv : TE) : TE := fun σ H Q => ∀ p, H p = none → tk σ (upd H p (sdO P w p [] 0)) fun y H1 => tv σ H1 fun v H2 => ∃ b k, y = .ref b ∧ IsSg H2 b k ∧ H2 p = some (sdO P w p [] 0) ∧
  ∀ ep, Q (.ref p) (upd H2 p (sdO P w p [(k, b, v)] ep))
section
variable {X : Cx} {pos : Pos}
theorem pe_nnew : PE X (.Dict [] [] pos) (tNNew X.prog X.w) := ⟨fun pins s σ H Q I h =>
  wpAny_Dict_empty ⟨.ref s.heap.objs.size, _, I.laid (a := s.heap.objs.size) (o := sdO X.prog X.w s.heap.objs.size [] 0) (t' := s.toks) (fun _ _ q => Heap.get?_push_of_some _ q) (Nat.le_refl _) (sd_empty s.heap I.big), rfl, h _ (I.hok.fresh (Nat.le_refl _))⟩⟩
theorem pe_nd1 {k v : Expr} {tk tv : TE} (hu : X.A.units + 1 < cLine) (hk : PE X k tk) (hv : PE X v tv) : PE X (.Dict [some k] [v] pos) (tND1 X.prog X.w tk tv) := by
  refine ⟨fun pins s σ H Q I q => ?_⟩
  have hn := I.hok.fresh (Nat.le_refl s.heap.objs.size)
  have I1 := I.laid (a := s.heap.objs.size) (o := sdO X.prog X.w s.heap.objs.size [] 0) (h' := s.heap.push { cls := .type "dict", data := .dict #[] }) (t' := s.toks) (fun _ _ q => Heap.get?_push_of_some _ q) (Nat.le_refl _) (sd_empty s.heap I.big)
  have hz := zip_pairTrees [some k] [v] X.env pos rfl rfl
  rw [arm_eval_Dict, hz, dictDisplay_pairs (pairTrees [some k] [v] X.env pos) (by simp [pairTrees]) (by simp [pairTrees])]
  refine wpAny_bind (wpAny_standAt (wpAny_bind (wpAny_subDictH (knd := sgKind X.prog X.w) (Q := fun d s' => wpAny (model X.prog X.w) X.A (pure (Value.ref d)) (EP X pins σ Q) X.xe s') (show X.A.units < cLine by omega) (by simp [pairTrees]) ?_)))
  refine pairTrees_cons_walk (thn (hk.run pins _ σ _ _ I1 (q _ hn)) fun u s1 ⟨y, H1, I2, ry, q1⟩ => thn (hv.run pins s1 σ H1 _ I2 q1) fun w2 s2 ⟨vv, H2, I3, rv, b, kk, ey, eb, ep0, q2⟩ => pairTrees_nil_walk ?_)
  subst ey
  obtain rfl : u = Value.ref b := ry
  obtain ⟨_, hS, ys, r0, dd⟩ := sd_of I3.hok ep0 (fun z hz => absurd hz (by simp))
  cases r0
  refine ⟨[(kk, b, w2)], ⟨rfl, rfl, sg_is I3.hok eb, trivial⟩, dd, fun h' tk' dd' hs => wpAny_pure ?_⟩
  obtain ⟨o, es, ep, ho, h2, h3, h4, h5, h6⟩ := dd'
  have e1 : storedAllH ([] : List (Sg × Addr × Value)) [(kk, b, w2)] = [(kk, b, w2)] := rfl
  rw [e1] at h4 h6
  exact ⟨.ref s.heap.objs.size, _, d_write (t' := tk') I3 (by rw [ep0]; exact True.intro) hs ⟨o, ho⟩ (sdO_new (xs := [(kk, b, vv)]) (by show 1 ≤ sizeLine; decide) hS (.cons ⟨rfl, rfl, rv⟩ .nil) h6 ho h2 h3 h4), rfl, q2 ep⟩
end
/-! ### truth -/
theorem sd_truth {X : Cx} {pins : List (Addr × Obj)} {σ : St} {H : Hp} {s : Shared} {a : Addr} {A : Around} {E : Value → Shared → Prop} {xs : Ents} {Q : Bool → Shared → Prop} (I : Inv X pins σ H s) (e : SDx X.prog X.w H a xs) (h : ∀ s', Inv X pins σ H s' → Q (!xs.isEmpty) s') :
    wpAny (model X.prog X.w) A (truthy (.ref a)) Q E s := by
  obtain ⟨z, hd, ys, rel, hm⟩ := e.of I.hok
  have hl : xs.length = ys.length := Paired.length rel
  have hne : ((ys.length : Int) != 0) = !xs.isEmpty := by
    cases rel
    · rfl
    · simp; omega
  have key : wpAny (model X.prog X.w) A (runValue (.builtin "len" ⟨[.ref a], []⟩)) (fun r s' => r = .int ys.length (s.toks + 1) ∧ Q (!xs.isEmpty) s') E s := by
    refine wpAny_runValue (codeAny_builtin entry_len ?_)
    rw [Around.under_plainId plain_len _]
    exact wpAny_mono (wpAny_len_body_dictH (Q := fun r s' => r = .int ys.length (s.toks + 1) ∧ Q (!xs.isEmpty) s') hd hm (by rw [sizeLine_eq] at z; omega) ⟨rfl, h _ (I.tok _)⟩)
      (fun fin s' h' => by obtain ⟨r, rfl, hq⟩ := h'; exact hq) fun _ _ e => e
  unfold truthy
  first
    | refine wpAny_bind (wpAny_callSpecial?_none (name := Str.ofString "__bool__") hm.typeIs noBool_dict ?_)
    | refine wpAny_bind (wpAny_pure (wpAny_bind (wpAny_callSpecial?_none (name := Str.ofString "__bool__") hm.typeIs noBool_dict ?_)))
  first
    | refine wpAny_bind (wpAny_specialOf (name := Str.ofString "__len__") hm.typeIs F.slot_dict_len.lookup ?_)
    | refine wpAny_bind (wpAny_pure (wpAny_bind (wpAny_specialOf (name := Str.ofString "__len__") hm.typeIs F.slot_dict_len.lookup ?_)))
  first
    | exact wpAny_bind (wpAny_mono key (fun r s' h' => by obtain ⟨rfl, hq⟩ := h'; exact wpAny_pure (hne ▸ hq)) fun _ _ e => e)
    | exact wpAny_bind (wpAny_pure (wpAny_bind (wpAny_mono key (fun r s' h' => by obtain ⟨rfl, hq⟩ := h'; exact wpAny_pure (hne ▸ hq)) fun _ _ e => e)))
def tNTru (P : Program) (w : World) (te : TE) : TT := fun σ H Q => te σ H fun x H1 => ∃ d xs, x = .ref d ∧ SDx P w H1 d xs ∧ Q (!xs.isEmpty) H1
theorem pt_ntru {X : Cx} {a : Expr} {ta : TE} (ha : PE X a ta) (he : ∀ whole, isTrue a X.env whole = (do let v ← whole; standAt a.pos; holding [v] (truthy v)) := by intro _; rfl) : PT X a (tNTru X.prog X.w ta) := by
  refine ⟨fun pins s σ H Q I h => ?_⟩
  refine isTrue_plain (thn (ha.run pins s σ H _ I h) fun v s1 ⟨x, H1, I1, r1, d, xs, ex, e, q⟩ => ?_) (he _)
  subst ex
  obtain rfl : v = Value.ref d := r1
  exact sd_truth I1 e fun s2 I2 => ⟨H1, I2, q⟩
/-! ### d == {}, d != {} -/
theorem same_empty {prog : Program} {w : World} {A : Around} {E : Value → Shared → Prop} {s : Shared} {nm : String} {a b : Addr} {es : Array DictEntry} {ep ep' : Nat} {Q : Bool → Shared → Prop} (ha : (a == sysModules) = false) (hb : (b == sysModules) = false)
    (da : s.heap.DictRaw a es ep) (db : s.heap.DictRaw b #[] ep') (h : Q es.isEmpty s) : wpAny (model prog w) A (Builtin.Dict.samePairs nm a b) Q E s := by
  obtain ⟨oa, hoa, _, hda⟩ := da
  obtain ⟨ob, hob, _, hdb⟩ := db
  unfold Builtin.Dict.samePairs Builtin.Dict.showsAll
  rw [if_neg (show ¬ (a == sysModules) = true by rw [ha]; exact Bool.false_ne_true), if_neg (show ¬ (b == sysModules) = true by rw [hb]; exact Bool.false_ne_true)]
  refine wpAny_bind (wpAny_pure (wpAny_bind (wpAny_pure ?_)))
  refine wpAny_bind (wpAny_dictEntries hoa hda ?_)
  dsimp only
  refine wpAny_bind (wpAny_dictEntries hob hdb ?_)
  by_cases hsz : es.size = 0
  · have he : es = #[] := Array.eq_empty_of_size_eq_zero hsz
    subst he
    rw [if_neg (by simp)]
    refine wpAny_bind (wpAny_dictEpoch hoa hda ?_)
    refine wpAny_bind ?_
    rw [Std.Legacy.Range.forIn_eq_forIn_range']
    simp only [Std.Legacy.Range.size, Array.size_empty, Nat.sub_zero, Nat.add_sub_cancel, Nat.div_one, Nat.zero_add, Nat.sub_self, List.range'_zero, List.forIn_nil]
    exact wpAny_pure (wpAny_pure h)
  · rw [if_pos (by simpa using hsz)]
    have e : es.isEmpty = false := by
      cases q : es.isEmpty with
      | false => rfl
      | true => exact absurd (by simpa using q) hsz
    rw [e] at h
    exact wpAny_bind (wpAny_rule (wpAny_pure h))
theorem dk_nil_raw {P : Program} {w : World} {H : Hp} {h : Heap} {b : Addr} (ok : HOk P w H h) (e : H b = some (.dK [])) : (b == sysModules) = false ∧ ∃ ep, h.DictRaw b #[] ep := by
  obtain ⟨_, hd, vs, r, dd⟩ := dk_of ok e
  cases r
  obtain ⟨es, ep, h1, h2, _⟩ := dd.raw
  have : es = #[] := Array.eq_empty_of_size_eq_zero (by rw [h2]; rfl)
  subst this
  exact ⟨hd, ep, h1⟩
theorem sd_raw' {P : Program} {w : World} {H : Hp} {h : Heap} {d : Addr} {xs : Ents} (ok : HOk P w H h) (e : SDx P w H d xs) : (d == sysModules) = false ∧ ∃ es ep, h.DictRaw d es ep ∧ es.isEmpty = xs.isEmpty := by
  obtain ⟨ep, e1, e2⟩ := e
  obtain ⟨a2, es, hm, hs, _⟩ := sd_ents ok e1
  refine ⟨a2, es, ep, hm, ?_⟩
  have e3 : es.isEmpty = decide (es.size = 0) := rfl
  rw [e3, hs]
  cases xs <;> simp
def rEqE (P : Program) (w : World) : R2 := fun x y H Q => ∃ d b xs, x = .ref d ∧ y = .ref b ∧ SDx P w H d xs ∧ H b = some (.dK []) ∧ Q (.bl xs.isEmpty) H
def rNeE (P : Program) (w : World) : R2 := fun x y H Q => ∃ d b xs, x = .ref d ∧ y = .ref b ∧ SDx P w H d xs ∧ H b = some (.dK []) ∧ Q (.bl (!xs.isEmpty)) H
section
variable {X : Cx}
theorem op_eqE (hu : X.A.units + 1 < cLine) : OpR X (compareOp .Eq) (rEqE X.prog X.w) := by
  intro pins s σ H x y v u Q I rx ry h
  obtain ⟨a, b, xs, rfl, rfl, ea, eb, q⟩ := h
  obtain rfl : v = Value.ref a := rx
  obtain rfl : u = Value.ref b := ry
  obtain ⟨ya, es, ep, da, e1⟩ := sd_raw' I.hok ea
  obtain ⟨yb, ep', db⟩ := dk_nil_raw I.hok eb
  refine wpAny_richCompare_same_room (op := .Eq) da.typeIs db.typeIs PySem.F.slot_dict_eq (wpAny_call_entry PySem.F.slot_dict_eq da.typeIs PySem.F.entry_dict_eq ?_ (PySem.F.args_dict_eq_2 _ _)) (by omega)
  show wpAny _ _ (Builtin.Dict.dictSlotArgs "__eq__" ⟨[.ref a, .ref b], []⟩ >>= _) _ _ s
  refine wpAny_bind ?_
  unfold Builtin.Dict.dictSlotArgs
  refine wpAny_bind (wpAny_notOrdered_dict da.typeIs ?_)
  show wpAny _ _ (pure (Value.ref a, Value.ref b)) _ _ s
  refine wpAny_pure (wpAny_bind (wpAny_isInstance (T := "dict") db.typeIs PySem.F.sub_dict_dict ?_))
  simp only [Bool.not_true, Bool.false_eq_true, if_false]
  refine wpAny_bind (wpAny_pure (wpAny_bind (wpAny_pure ?_)))
  refine wpAny_bind (same_empty ya yb da db ?_)
  refine wpAny_pure ⟨.bool (es.isEmpty == true), rfl, (fun x => nomatch x), ?_⟩
  have e2 : (es.isEmpty == true) = xs.isEmpty := by rw [e1]; cases xs.isEmpty <;> rfl
  rw [e2]
  exact ⟨.bl xs.isEmpty, H, I, rfl, q⟩
theorem op_neE (hu : X.A.units + 1 < cLine) : OpR X (compareOp .NotEq) (rNeE X.prog X.w) := by
  intro pins s σ H x y v u Q I rx ry h
  obtain ⟨a, b, xs, rfl, rfl, ea, eb, q⟩ := h
  obtain rfl : v = Value.ref a := rx
  obtain rfl : u = Value.ref b := ry
  obtain ⟨ya, es, ep, da, e1⟩ := sd_raw' I.hok ea
  obtain ⟨yb, ep', db⟩ := dk_nil_raw I.hok eb
  refine wpAny_richCompare_same_room (op := .NotEq) da.typeIs db.typeIs PySem.F.slot_dict_ne (wpAny_call_entry PySem.F.slot_dict_ne da.typeIs PySem.F.entry_dict_ne ?_ (PySem.F.args_dict_ne_2 _ _)) (by omega)
  show wpAny _ _ (Builtin.Dict.dictSlotArgs "__ne__" ⟨[.ref a, .ref b], []⟩ >>= _) _ _ s
  refine wpAny_bind ?_
  unfold Builtin.Dict.dictSlotArgs
  refine wpAny_bind (wpAny_notOrdered_dict da.typeIs ?_)
  show wpAny _ _ (pure (Value.ref a, Value.ref b)) _ _ s
  refine wpAny_pure (wpAny_bind (wpAny_isInstance (T := "dict") db.typeIs PySem.F.sub_dict_dict ?_))
  simp only [Bool.not_true, Bool.false_eq_true, if_false]
  refine wpAny_bind (wpAny_pure (wpAny_bind (wpAny_pure ?_)))
  refine wpAny_bind (same_empty ya yb da db ?_)
  refine wpAny_pure ⟨.bool (es.isEmpty == false), rfl, (fun x => nomatch x), ?_⟩
  have e2 : (es.isEmpty == false) = !xs.isEmpty := by rw [e1]; cases xs.isEmpty <;> rfl
  rw [e2]
  exact ⟨.bl (!xs.isEmpty), H, I, rfl, q⟩
end
end L2.K10

set_option Elab.async false
set_option linter.all false
set_option maxRecDepth 100000
set_option maxHeartbeats 4000000
namespace L2.K10
open PySem PySem.Spec PyProof.Rows
/-! ### dicts of standings, by what their values tell -/
section
variable {P : Program} {w : World} {β : Type} {R : Hp → V → β → Prop}
abbrev ER (R : Hp → V → β → Prop) (H : Hp) : Sg × Addr × V → Sg × β → Prop := fun x f => x.1 = f.1 ∧ IsSg H x.2.1 x.1 ∧ R H x.2.2 f.2
theorem er_get {H : Hp} : ∀ {xs : Ents} {F : List (Sg × β)}, Paired (ER R H) xs F → ∀ k, (xget xs k = none ∧ aget F k = none) ∨ ∃ v b, xget xs k = some v ∧ aget F k = some b ∧ R H v b
  | _, _, .nil, _ => .inl ⟨rfl, rfl⟩
  | x :: xs, f :: F, .cons ⟨h1, h2, h3⟩ t, k => by
    by_cases e : x.1 = k
    · exact .inr ⟨_, _, xget_pos e, aget_pos (h1 ▸ e), h3⟩
    · rw [xget_neg e, aget_neg (h1 ▸ e)]
      exact er_get t k
theorem er_isSome {H : Hp} {xs : Ents} {F : List (Sg × β)} (h : Paired (ER R H) xs F) (k : Sg) : (xget xs k).isSome = (aget F k).isSome := by
  rcases er_get h k with ⟨h1, h2⟩ | ⟨v, b, h1, h2, _⟩ <;> rw [h1, h2] <;> rfl
theorem er_some {H : Hp} {xs : Ents} {F : List (Sg × β)} (h : Paired (ER R H) xs F) {k : Sg} {b : β} (e : aget F k = some b) : ∃ v, xget xs k = some v ∧ R H v b := by
  rcases er_get h k with ⟨h1, h2⟩ | ⟨v, b', h1, h2, h3⟩
  · rw [e] at h2; cases h2
  · rw [e] at h2; cases h2; exact ⟨v, h1, h3⟩
theorem xput_new {xs : Ents} {k : Sg} {a : Addr} {v : V} (h : xget xs k = none) : xput xs k a v = xs ++ [(k, a, v)] := by unfold xput; rw [h]; rfl
theorem er_mono {H H' : Hp} (e : TpS H H') (hR : ∀ v b, R H v b → R H' v b) {xs : Ents} {F : List (Sg × β)} (h : Paired (ER R H) xs F) : Paired (ER R H') xs F := Paired.mapP h fun _ _ ⟨h1, h2, h3⟩ => ⟨h1, h2.mono e, hR _ _ h3⟩
theorem er_keys {H : Hp} : ∀ {xs : Ents} {F : List (Sg × β)}, Paired (ER R H) xs F → ∀ z ∈ xs, IsSg H z.2.1 z.1
  | _, _, .nil, _, hz => absurd hz (by simp)
  | x :: xs, f :: F, .cons ⟨h1, h2, h3⟩ t, z, hz => by
    rcases List.mem_cons.mp hz with rfl | hz
    · exact h2
    · exact er_keys t z hz
/-- at d: a dict of the table F -/
def DD (P : Program) (w : World) (R : Hp → V → β → Prop) (H : Hp) (d : Addr) (F : List (Sg × β)) : Prop := ∃ xs ep, H d = some (sdO P w d xs ep) ∧ Paired (ER R H) xs F
theorem DD.mono {H H' : Hp} {d : Addr} {F : List (Sg × β)} (h : DD P w R H d F) (hd : ∀ o, H d = some o → H' d = some o) (e : TpS H H') (hR : ∀ v b, R H v b → R H' v b) : DD P w R H' d F :=
  let ⟨xs, ep, h1, h2⟩ := h; ⟨xs, ep, hd _ h1, er_mono e hR h2⟩
theorem DD.sdx {H : Hp} {d : Addr} {F : List (Sg × β)} (h : DD P w R H d F) : ∃ xs, SDx P w H d xs ∧ Paired (ER R H) xs F := let ⟨xs, ep, h1, h2⟩ := h; ⟨xs, ⟨ep, h1, er_keys h2⟩, h2⟩
end
/-- values: words, numbers -/
def RW (H : Hp) (v : V) (l : Word) : Prop := ∃ a, v = .ref a ∧ IsW H a l
def RN (H : Hp) (v : V) (n : Nat) : Prop := v = nV n
theorem RW.mono {H H' : Hp} (e : TpS H H') (v : V) (l : Word) (h : RW H v l) : RW H' v l := let ⟨a, h1, h2⟩ := h; ⟨a, h1, h2.mono e⟩
abbrev DW (P : Program) (w : World) := DD P w RW
abbrev DN (P : Program) (w : World) := DD P w RN
/-- word + (slide,) -/
theorem catW {K : PySem.W.Frag} {T : Tbs} {H : Hp} {Q : VK} {wa q1 sa : Addr} {l : Word} {sl : Nat × Nat} (hw : IsW H wa l) (hq : H q1 = some (.tup [.ref sa])) (hs : IsP H sa sl) (hl : l.length ≤ 900) (h : ∀ H' r, Ex T H H' → IsW H' r (l ++ [sl]) → Q (.ref r) H') :
    rCatA K (.ref wa) (.ref q1) H Q := by
  obtain ⟨as, h1, h2⟩ := hw
  have hlen := Paired.length h2
  refine ⟨wa, q1, _, _, rfl, rfl, .of h1, .of hq, small64 (by rw [List.length_map]; show as.length + 1 ≤ 1000; omega), fun e => ?_, (fun _ e => nomatch e), fun _ _ p np => ?_⟩
  · have e2 : as = [] := List.map_eq_nil_iff.mp e
    subst e2
    cases h2
    exact h H q1 .refl ⟨[sa], hq, .cons hs .nil⟩
  · refine h _ p (ex_new np) ⟨as ++ [sa], by rw [upd_same, List.map_append]; rfl, ?_⟩
    exact Paired.snoc (IsPs.mono (tps_new np) h2) (hs.mono (tps_new np))
theorem sgs_at {H : Hp} {as : List Addr} {l : List Sg} (h : Paired (IsSg H) as l) {i : Nat} {x : V} (e : (as.map V.ref)[i]? = some x) : ∃ b t, x = .ref b ∧ l[i]? = some t ∧ IsSg H b t := by
  rw [List.getElem?_map] at e
  obtain ⟨b, hb, rfl⟩ := Option.map_eq_some_iff.mp e
  obtain ⟨t, h1, h2⟩ := paired_at h hb
  exact ⟨b, t, rfl, h1, h2⟩
theorem IsSgs.mono {H H' : Hp} {as : List Addr} {l : List Sg} (e : TpS H H') (h : Paired (IsSg H) as l) : Paired (IsSg H') as l := Paired.mapP h fun _ _ => IsSg.mono e
end L2.K10

set_option Elab.async false
set_option linter.all false
set_option maxRecDepth 100000
set_option maxHeartbeats 4000000
namespace L2.K10
open PySem PySem.Spec PyProof.Rows
section
variable {P : Program} {w : World} {K : PySem.W.Frag} {mg : Str → Option Value} {base : Heap}
abbrev nWordsL : List Str := ["_law_yard_here", "_law_standing_here", "_law_found", "_law_order", "_law_turn", "_law_one", "_law_slide", "_law_other"]
theorem scWordsL : FnScope nWordsL ["_law_yard_here", "_law_standing_here"] (defScope (top 36)) := ⟨rfl, rfl, rfl, by decide +kernel, rfl, by decide +kernel, by decide +kernel⟩
def spWordsL (P : Program) (w : World) (T : Tbs) : Sp := fun vs H Q _ => ∃ (y a : Addr) (Y : Yd) (s : Sg), vs = [.ref y, .ref a] ∧ IsY H y Y ∧ IsSg H a s ∧ TiesOk s.length Y.ties ∧ Y.ties.length ≤ 20 ∧ s.length ≤ 20 ∧ (∀ t, (lawW Y.ties s t).length ≤ 500 ∧ ∀ f ∈ lawW Y.ties s t, f.2.length ≤ 500) ∧
  ∀ H' r, Ex T H H' → H r = none → DW P w H' r (lawW Y.ties s 6000) → Q (.ref r) H'
def LW (P : Program) (w : World) (H : Hp) (f o : Addr) (F : List (Sg × Word)) : Prop := DW P w H f F ∧ ∃ os : List Addr, H o = some (.lst (os.map V.ref)) ∧ Paired (IsSg H) os (F.map (·.1))
theorem cut_one (xs : List V) (t : Nat) : cutV xs (some (t : Int)) (some ((t : Int) + 1)) = (xs.drop t).take 1 := by
  unfold cutV
  rw [show (t : Int) + 1 = ((t + 1 : Nat) : Int) by omega, HT.sIx_nat, HT.sIx_nat]
  by_cases h : t < xs.length
  · rw [Nat.min_eq_left (by omega), Nat.min_eq_left (by omega)]
    rw [show t + 1 - t = 1 by omega]
  · rw [Nat.min_eq_right (by omega), Nat.min_eq_right (by omega), List.drop_length, Nat.sub_self, List.drop_of_length_le (by omega)]
    simp
theorem ok_wordsL {T : Tbs} {f fS fM fN : Addr} {fd fdS fdM fdN : FuncData} (F : FnP K "_law_words" 36 f fd) (FS : FnP K "_law_slides" 34 fS fdS) (FM : FnP K "_law_slid" 35 fM fdM) (FN : FnP K "_law_near" 33 fN fdN) (gS : mg "_law_slides" = some (.ref fS))
    (gM : mg "_law_slid" = some (.ref fM)) (gN : mg "_law_near" = some (.ref fN)) (mS : mg "sorted" = none) (mE : mg "enumerate" = none) (mL : mg "list" = none) (mT : mg "tuple" = none) (mR : mg "range" = none) :
    FnOk P w K mg base CX0 3 f fd ["_law_yard_here", "_law_standing_here"] (spWordsL P w T) := by
  have GS : FnOk P w K mg base CX0 2 fS fdS ["_law_yard_here", "_law_standing_here"] (spSlides T) := ok_slidesL FS FN gN mS mE
  have GM : FnOk P w K mg base CX0 1 fM fdM ["_law_standing_here", "_law_slide"] (spSlid T) := ok_slidL FM mL mT
  have bS : Binds K fdS ["_law_yard_here", "_law_standing_here"] [] := FS.bindsN fun _ _ _ _ _ _ us hl => match us, hl with | [_, _], _ => rfl
  have bM : Binds K fdM ["_law_standing_here", "_law_slide"] [] := FM.bindsN fun _ _ _ _ _ _ us hl => match us, hl with | [_, _], _ => rfl
  refine F.ok scWordsL (fun vs H Q E h => ?_) (fun cdv A outer s H vs Q E hr h => ?_)
  · obtain ⟨y, a, Y, s, rfl, _⟩ := h
    rfl
  · obtain ⟨y, a, Y, st, rfl, hY, hS, hT, hl1, hl2, hb, q⟩ := h
    have hu := hu_of hr
    refine ⟨_, PSs.nox (pss_cons (ps_par (i := 2) (j := 3) rfl scWordsL.nd rfl rfl (by decide) rfl rfl (pa_cons (pe_nd1 hu (pv 1) (pe_tup pa_nil)) (pa_cons (pe_lst (pa_cons (pv 1) pa_nil)) pa_nil)) (by rfl))
      (pss_cons (ps_for PassesOwn.never rfl (pi_range1 (by rfl) mR (pa_cons pe_int pa_nil)) (pg_name (i := 4) scWordsL.nd rfl (.inl rfl))
        (pss_one (ps_for PassesOwn.never rfl (pi_list (pe_slice sl_list (pv 3) (po_some (pv 4)) (po_some (pe_op op_add (pv 4) pe_int)))) (pg_name (i := 5) scWordsL.nd rfl (.inl rfl))
          (pss_one (ps_for PassesOwn.never rfl (pi_list (pe_call GS hr (by rfl) gS FS.kp bS .nil pass0 (pa_cons (pv 0) (pa_cons (pv 5) pa_nil)))) (pg_name (i := 6) scWordsL.nd rfl (.inl rfl))
            (pss_cons (ps_set (i := 7) scWordsL.nd rfl (.inl rfl) (pe_call GM (hr.mono (by decide)) (by rfl) gM FM.kp bM .nil pass0 (pa_cons (pv 5) (pa_cons (pv 6) pa_nil))))
              (pss_one (ps_if (pt_cmp (pc_nnotin hu (pv 7) (pv 2)))
                (pss_cons (ps_nput hu (pv 2) (pv 7) (pe_op op_catA (pe_nget hu (pv 2) (pv 5) (fun _ _ => rfl)) (pe_tup (pa_cons (pv 6) pa_nil))) rfl)
                  (pss_one (ps_expr (pe_bm PySem.F.plainAttrs_list PySem.F.slot_list_append PySem.F.type_list_append mt_append (pv 3) (pa_cons (pv 7) pa_nil))))) pss_nil))))))))
      (pss_one (ps_ret (pv 2))))), ?_⟩
    simp only [cxp, cxw, cxk, cxp', cxw', cxk']
    refine fun d nd => ⟨_, rfl, Nat.zero_le _, fun e ne => ⟨a, st, rfl, ?_, ?_, fun ep => ?_⟩⟩
    · exact (hS.mono (tps_new nd)).mono (tps_new ne)
    · rw [upd_ne (ne_of_none upd_same ne), upd_same]
    have nde : e ≠ d := (upd_none ne).1
    have u2 : upd (upd H d (sdO P w d [] 0)) e (.tup []) d = some (sdO P w d [] 0) := by rw [upd_ne (Ne.symm nde), upd_same]
    have e2 : Ex T H (upd (upd H d (sdO P w d [] 0)) e (.tup [])) := (ex_new nd).trans (ex_new ne)
    have e3 : Ex T H (upd (upd (upd H d (sdO P w d [] 0)) e (.tup [])) d (sdO P w d [(st, a, .ref e)] ep)) := e2.write nd u2 own_sd
    have t3 := tps_write (o := sdO P w d [(st, a, .ref e)] ep) u2 (fun _ z => nomatch z)
    have he3 : IsW (upd (upd (upd H d (sdO P w d [] 0)) e (.tup [])) d (sdO P w d [(st, a, .ref e)] ep)) e [] := IsW.mono t3 ⟨[], upd_same, .nil⟩
    have hd3 : upd (upd (upd H d (sdO P w d [] 0)) e (.tup [])) d (sdO P w d [(st, a, .ref e)] ep) d = some (sdO P w d [(st, a, .ref e)] ep) := upd_same
    show tLst _ _ _ _
    generalize upd (upd (upd H d (sdO P w d [] 0)) e (.tup [])) d (sdO P w d [(st, a, .ref e)] ep) = H3 at e3 he3 hd3 ⊢
    refine ⟨_, rfl, by show 1 ≤ sizeLine; decide, fun o no => ⟨_, _, rfl, ?_⟩⟩
    have no0 := e3.free _ no
    have ndo : o ≠ d := fun z => by rw [z, hd3] at no; cases no
    -- the turns
    refine ⟨6000, rfl, by decide, by decide, for_range (lo := 0) (n := 6000) (fun t σ H1 => ∃ z4 z5 z6 z7, σ = [some (.ref y), some (.ref a), some (.ref d), some (.ref o), z4, z5, z6, z7] ∧ Ex T H H1 ∧ LW P w H1 d o (lawW Y.ties st t))
      ⟨none, none, none, none, rfl, e3.trans (ex_new no), ⟨_, ep, by rw [upd_ne (Ne.symm ndo)]; exact hd3, .cons ⟨rfl, IsSg.mono (e3.trans (ex_new no)).tps hS, e, rfl, he3.mono (tps_new no)⟩ .nil⟩,
        [a], upd_same, .cons (IsSg.mono (e3.trans (ex_new no)).tps hS) .nil⟩ (fun t σ H1 ht hP => ?_) (fun σ H1 hP => ?_)⟩
    · obtain ⟨z4, z5, z6, z7, rfl, e1, hD, os, ho, hos⟩ := hP
      have hos' := hos
      have hlen : os.length = (lawW Y.ties st t).length := by rw [Paired.length hos, List.length_map]
      refine ⟨_, rfl, _, rfl, _, rfl, _, rfl, _, _, rfl, rfl, _, rfl, o, _, rfl, .of ho, fun p np => ?_⟩
      have npo : o ≠ p := ne_of_none ho np
      obtain ⟨xs, ep1, hd1, hxs⟩ := hD
      have npd : d ≠ p := ne_of_none hd1 np
      have e4 := e1.trans (ex_new (o := .lst (cutV (os.map V.ref) (some (0 + (t : Int))) (some (0 + (t : Int) + 1)))) np)
      have t4 := tps_new (o := .lst (cutV (os.map V.ref) (some (0 + (t : Int))) (some (0 + (t : Int) + 1)))) np
      have np0 := e1.free _ np
      rw [Int.zero_add, cut_one] at e4 t4 ⊢
      -- for one in order[turn:turn + 1]
      refine ⟨p, rfl, ⟨_, .of upd_same⟩, for_list (xs := ((os.map V.ref).drop t).take 1) (fun j σ H2 => ∃ z5 z6 z7, σ = [some (.ref y), some (.ref a), some (.ref d), some (.ref o), some (.int t), z5, z6, z7] ∧ Ex T H H2 ∧ TpS H1 H2 ∧
          H2 p = some (.lst (((os.map V.ref).drop t).take 1)) ∧ LW P w H2 d o (if j = 0 then lawW Y.ties st t else lawW Y.ties st (t + 1)))
        ⟨z5, z6, z7, rfl, e4, t4, upd_same, ⟨xs, ep1, by rw [upd_ne npd]; exact hd1, er_mono t4 (RW.mono t4) hxs⟩, os, by rw [upd_ne npo]; exact ho, IsSgs.mono t4 hos⟩
        (fun j σ H2 _ ⟨_, _, _, _, _, _, h, _⟩ => .of h) (fun j x σ H2 hx hP => ?_) (fun σ H2 hP => ?_)⟩
      · obtain ⟨z5, z6, z7, rfl, e5, t5, hp, hL⟩ := hP
        obtain rfl : j = 0 := by
          have := (List.getElem?_eq_some_iff.mp hx).1
          rw [List.length_take] at this
          omega
        have hx' : (os.map V.ref)[t]? = some x := by
          rw [List.getElem?_take, if_pos (by decide), List.getElem?_drop] at hx
          exact hx
        obtain ⟨b, one, rfl, hone, hbs⟩ := sgs_at hos hx'
        rw [List.getElem?_map] at hone
        obtain ⟨fm, hfm, rfl⟩ := Option.map_eq_some_iff.mp hone
        rw [if_pos rfl] at hL
        have hF1 : lawW Y.ties st (t + 1) = lawProc Y.ties (lawW Y.ties st t) fm.1 := by rw [lawW, hfm]
        have hkl : fm.1.length = st.length := lawW_keys _ _ t fm (List.mem_of_getElem? hfm)
        have hbF := hb t
        have hbF1 := (hb (t + 1)).1
        rw [hF1] at hbF1 ⊢
        -- one's own word is there
        have hone' : ∃ wd, aget (lawW Y.ties st t) fm.1 = some wd ∧ wd.length ≤ 500 := by
          have : (aget (lawW Y.ties st t) fm.1).isSome = true := aget_some_iff.mpr (List.mem_map.mpr ⟨fm, List.mem_of_getElem? hfm, rfl⟩)
          obtain ⟨wd, hwd⟩ := Option.isSome_iff_exists.mp this
          exact ⟨wd, hwd, hbF.2 _ (aget_mem hwd)⟩
        obtain ⟨wd, hwd, hwl⟩ := hone'
        generalize hF : lawW Y.ties st t = F0 at *
        have hb5 : IsSg H2 b fm.1 := hbs.mono t5
        refine ⟨_, rfl, _, rfl, y, b, Y, fm.1, rfl, hY.mono e5.tps, hb5, by rw [hkl]; exact hT, hl1, by rw [hkl]; exact hl2, fun H3 p2 e6 np2 hp2 => ?_⟩
        obtain ⟨as, hp2, has⟩ := hp2
        obtain ⟨hD2, os2, ho2, hos2⟩ := hL
        have npp : p ≠ p2 := ne_of_none hp np2
        have nop : o ≠ p2 := ne_of_none ho2 np2
        obtain ⟨xs2, ep2, hd2, hxs2⟩ := hD2
        -- for slide in _law_slides(..)
        refine ⟨p2, rfl, ⟨_, .of hp2⟩, for_list (xs := as.map V.ref) (fun j σ H4 => ∃ z6 z7, σ = [some (.ref y), some (.ref a), some (.ref d), some (.ref o), some (.int t), some (.ref b), z6, z7] ∧ Ex T H H4 ∧ TpS H3 H4 ∧
            H4 p = some (.lst (((os.map V.ref).drop t).take 1)) ∧ H4 p2 = some (.lst (as.map V.ref)) ∧ LW P w H4 d o (((slidesM Y.ties fm.1).take j).foldl (lawStep fm.1) F0))
          ⟨z6, z7, rfl, e5.trans e6, .refl, e6.keep _ _ hp own_lst.1, hp2, ⟨xs2, ep2, e6.keep _ _ hd2 own_sd.1, er_mono e6.tps (RW.mono e6.tps) hxs2⟩, os2, e6.keep _ _ ho2 own_lst.1, IsSgs.mono e6.tps hos2⟩
          (fun j σ H4 _ ⟨_, _, _, _, _, _, h, _⟩ => .of h) (fun j x σ H4 hx hP => ?_) (fun σ H4 hP => ?_)⟩
        · obtain ⟨z6, z7, rfl, e7, t7, hp4, hp24, hL⟩ := hP
          obtain ⟨sa, sl, rfl, hsl, hsa⟩ := ips_at has hx
          have hsl4 := hsa.mono t7
          have hb4 : IsSg H4 b fm.1 := hb5.mono (e6.tps.trans t7)
          obtain ⟨k1, k2, k3⟩ := slides_ok (List.mem_of_getElem? hsl)
          refine ⟨_, rfl, _, rfl, b, sa, fm.1, sl, rfl, hb4, hsl4, k1, k2, k3, by rw [hkl]; exact hl2, fun H5 r5 e8 nr5 hr5 => ?_⟩
          obtain ⟨hD4, os4, ho4, hos4⟩ := hL
          obtain ⟨xs4, ep4, hd4, hxs4⟩ := hD4
          have hd5 := e8.keep _ _ hd4 own_sd.1
          have ho5 := e8.keep _ _ ho4 own_lst.1
          have hp5 := e8.keep _ _ hp4 own_lst.1
          have hp25 := e8.keep _ _ hp24 own_lst.1
          have hxs5 := er_mono e8.tps (RW.mono e8.tps) hxs4
          have hos5 := IsSgs.mono e8.tps hos4
          have hb5' := hb4.mono e8.tps
          have hsl5 := hsl4.mono e8.tps
          have e9 := e7.trans e8
          have t9 := t7.trans e8.tps
          have hfold : ((slidesM Y.ties fm.1).take (j + 1)).foldl (lawStep fm.1) F0 = lawStep fm.1 (((slidesM Y.ties fm.1).take j).foldl (lawStep fm.1) F0) sl := by
            rw [List.take_add_one, hsl, List.foldl_append]
            rfl
          obtain ⟨G, hG⟩ := lawFold_grows fm.1 ((slidesM Y.ties fm.1).take j) F0
          have hle : (((slidesM Y.ties fm.1).take j).foldl (lawStep fm.1) F0).length ≤ 500 := Nat.le_trans (lawFold_le _ _ _ _) hbF1
          rw [hG] at hxs5 hos5 hfold hle
          have hlx : xs4.length ≤ 500 := by rw [Paired.length hxs5]; exact hle
          have hlo : os4.length ≤ 500 := by rw [Paired.length hos5, List.length_map]; exact hle
          have hwd' : aget (F0 ++ G) fm.1 = some wd := aget_app_some hwd
          have sdx5 : SDx P w H5 d xs4 := ⟨ep4, hd5, er_keys hxs5⟩
          refine ⟨_, rfl, _, rfl, d, xs4, r5, _, rfl, sdx5, rfl, hr5, _, rfl, ?_⟩
          rw [er_isSome hxs5]
          cases hag : aget (F0 ++ G) (slidM fm.1 sl) with
          | some wo =>
            refine ⟨_, _, rfl, e9, t9, hp5, hp25, ?_⟩
            rw [hfold, lawStep, hag]
            exact ⟨⟨xs4, ep4, hd5, hxs5⟩, os4, ho5, hos5⟩
          | none =>
            have hxg : xget xs4 (slidM fm.1 sl) = none := by
              have z := er_isSome hxs5 (slidM fm.1 sl)
              rw [hag] at z
              cases q : xget xs4 (slidM fm.1 sl) with
              | none => rfl
              | some v => rw [q] at z; cases z
            obtain ⟨v, hv, wa, rfl, hwa⟩ := er_some hxs5 hwd'
            rw [if_pos (show (!(none : Option Word).isSome) = true from rfl)]
            refine ⟨_, rfl, _, rfl, d, xs4, b, fm.1, _, rfl, sdx5, rfl, hb5', hv, _, rfl, by show 1 ≤ sizeLine; decide, fun q1 nq1 => ?_⟩
            have tq := tps_new (o := .tup [.ref sa]) nq1
            refine catW (T := T) (hwa.mono tq) upd_same (hsl5.mono tq) (by omega) fun H6 r6 e10 hr6 => ?_
            have e11 : Ex T H5 H6 := (ex_new nq1).trans e10
            have hd6 := e11.keep _ _ hd5 own_sd.1
            have ho6 := e11.keep _ _ ho5 own_lst.1
            have hxs6 := er_mono e11.tps (RW.mono e11.tps) hxs5
            refine ⟨_, rfl, _, rfl, d, xs4, r5, slidM fm.1 sl, rfl, ⟨ep4, hd6, er_keys hxs6⟩, rfl, hr5.mono e11.tps, small1000 (by omega), fun ep6 => ?_⟩
            rw [xput_new hxg]
            have tw := tps_write (o := sdO P w d (xs4 ++ [(slidM fm.1 sl, r5, .ref r6)]) ep6) hd6 (fun _ z => nomatch z)
            have e12 : Ex T H (upd H6 d (sdO P w d (xs4 ++ [(slidM fm.1 sl, r5, .ref r6)]) ep6)) := (e9.trans e11).write nd hd6 own_sd
            have ho7 : upd H6 d (sdO P w d (xs4 ++ [(slidM fm.1 sl, r5, .ref r6)]) ep6) o = some (.lst (os4.map V.ref)) := by rw [upd_ne ndo]; exact ho6
            refine ⟨_, rfl, .inl ⟨rfl, _, .of ho7⟩, _, rfl, o, _, _, rfl, rfl, ho7, small1000 (by rw [List.length_map]; omega), ?_⟩
            have tw2 := tps_write (o := .lst (os4.map V.ref ++ [V.ref r5])) ho7 (fun _ z => nomatch z)
            have ta := tw.trans tw2
            have npd2 : p2 ≠ d := fun z => by rw [z, hd5] at hp25; cases hp25
            refine ⟨_, _, rfl, e12.write no0 ho7 own_lst, (t9.trans e11.tps).trans ta, ?_, ?_, ?_⟩
            · rw [upd_ne (Ne.symm npo), upd_ne (Ne.symm npd)]
              exact e11.keep _ _ hp5 own_lst.1
            · rw [upd_ne (Ne.symm nop), upd_ne npd2]
              exact e11.keep _ _ hp25 own_lst.1
            · rw [hfold, lawStep, hag, hwd']
              simp only [Option.isSome_none, Bool.false_eq_true, if_false, Option.getD_some]
              refine ⟨⟨_, ep6, by rw [upd_ne (Ne.symm ndo), upd_same], Paired.snoc (er_mono ta (RW.mono ta) hxs6) ⟨rfl, (hr5.mono e11.tps).mono ta, r6, rfl, hr6.mono ta⟩⟩, os4 ++ [r5], ?_, ?_⟩
              · rw [upd_same, List.map_append]
                rfl
              · rw [List.map_append]
                exact Paired.snoc (IsSgs.mono (e11.tps.trans ta) hos5) ((hr5.mono e11.tps).mono ta)
        · obtain ⟨z6, z7, rfl, e7, t7, hp4, hp24, hL⟩ := hP
          refine ⟨_, _, _, rfl, e7, (t5.trans e6.tps).trans t7, hp4, ?_⟩
          rw [if_neg (by decide)]
          rw [List.length_map, Paired.length has, List.take_length] at hL
          exact hL
      · obtain ⟨z5, z6, z7, rfl, e5, t5, hp, hL⟩ := hP
        refine ⟨_, _, _, _, rfl, e5, ?_⟩
        by_cases hlt : t < os.length
        · have : (((os.map V.ref).drop t).take 1).length = 1 := by
            rw [List.length_take, List.length_drop, List.length_map]
            omega
          rw [this, if_neg (by decide)] at hL
          exact hL
        · have : (((os.map V.ref).drop t).take 1).length = 0 := by
            rw [List.length_take, List.length_drop, List.length_map]
            omega
          rw [this, if_pos rfl] at hL
          have e6 : lawW Y.ties st (t + 1) = lawW Y.ties st t := by
            rw [lawW, List.getElem?_eq_none (by omega)]
          rw [e6]
          exact hL
    · obtain ⟨z4, z5, z6, z7, rfl, e1, hD, _⟩ := hP
      exact ⟨_, rfl, q _ d e1 nd hD⟩
end
end L2.K10

set_option Elab.async false
set_option linter.all false
set_option maxRecDepth 100000
set_option maxHeartbeats 4000000
namespace L2.K10
open PySem PySem.Spec PyProof.Rows
theorem stored_new {xs : List (Sg × Addr × Value)} {k : Sg} {a : Addr} {v : Value} (h : k ∉ xs.map (·.1)) : storedH xs k a v = xs ++ [(k, a, v)] := by
  unfold storedH
  have : (atKey xs k).isSome = false := by
    cases e : atKey xs k with
    | none => rfl
    | some q =>
      exfalso
      unfold atKey at e
      obtain ⟨x, hx, _⟩ := Option.map_eq_some_iff.mp e
      have h1 := List.mem_of_find?_eq_some hx
      have h2 := List.find?_some hx
      exact h (List.mem_map.mpr ⟨x, h1, by simpa using h2⟩)
  rw [this]
  rfl
theorem storedAll_new : ∀ {ps xs : List (Sg × Addr × Value)}, (∀ p ∈ ps, p.1 ∉ xs.map (·.1)) → (ps.map (·.1)).Nodup → storedAllH xs ps = xs ++ ps
  | [], xs, _, _ => by simp [storedAllH]
  | p :: ps, xs, h, hn => by
    have hn' := List.nodup_cons.mp hn
    have e : storedAllH xs (p :: ps) = storedAllH (storedH xs p.1 p.2.1 p.2.2) ps := rfl
    rw [e, stored_new (h p List.mem_cons_self), storedAll_new (fun q hq => ?_) hn'.2]
    · simp
    · rw [List.map_append]
      intro hm
      rcases List.mem_append.mp hm with hm | hm
      · exact h q (List.mem_cons_of_mem _ hq) hm
      · simp at hm
        exact hn'.1 (List.mem_map.mpr ⟨q, hq, hm⟩)
theorem sgk_keep {P : Program} {w : World} {h h' : Heap} {k : Sg} {b : Addr} (x : (sgKind P w).is h k b) (hk : ∀ o, h.get? b = some o → h'.get? b = some o) : (sgKind P w).is h' k b := by
  obtain ⟨o, its, n, h1, h2⟩ := x
  exact ⟨o, its, n, hk _ h1, h2⟩
theorem XR.keys : ∀ {xs : Ents} {ys : List (Sg × Addr × Value)}, XR xs ys → xs.map (·.1) = ys.map (·.1)
  | _, _, .nil => rfl
  | _ :: _, _ :: _, .cons ⟨h1, _, _⟩ t => by rw [List.map_cons, List.map_cons, h1, XR.keys t]
theorem xget_none {xs : Ents} {k : Sg} (h : xget xs k = none) : k ∉ xs.map (·.1) := by
  intro hm
  obtain ⟨x, hx, e⟩ := List.mem_map.mp hm
  unfold xget at h
  rw [Option.map_eq_none_iff, List.find?_eq_none] at h
  exact h x hx (by simpa using e)
theorem XR.app {xs xs' : Ents} {ys ys' : List (Sg × Addr × Value)} (h : XR xs ys) (h' : XR xs' ys') : XR (xs ++ xs') (ys ++ ys') := by
  induction h with
  | nil => exact h'
  | cons r _ ih => exact .cons r ih
/-! ### dict(pairs) -/
section
variable {P : Program} {w : World} {H : Hp} {h : Heap}
theorem sg_pairs (ok : HOk P w H h) : ∀ {ps : List Addr} {es : Ents}, Paired (fun (p : Addr) (e : Sg × Addr × V) => H p = some (.tup [.ref e.2.1, e.2.2]) ∧ IsSg H e.2.1 e.1) ps es →
    ∃ ys : List (Sg × Addr × Value), XR es ys ∧ ∀ (j : Nat) (y : Sg × Addr × Value), ys[j]? = some y → ∃ p, ps[j]? = some p ∧ h.IsTuple p #[.ref y.2.1, y.2.2] ∧ (sgKind P w).is h y.1 y.2.1
  | _, _, .nil => ⟨[], .nil, fun j y hy => by simp at hy⟩
  | p :: ps, e :: es, .cons ⟨h1, h2⟩ t => by
    obtain ⟨ys, r, hys⟩ := sg_pairs ok t
    obtain ⟨_, its, rv, o, ho, hc, n, hd⟩ := (show ObjOk P w H h p (.tup [.ref e.2.1, e.2.2]) from ok p _ h1)
    obtain ⟨u, y, ei, ru, ry⟩ := vals2 rv
    subst ei
    obtain rfl : u = Value.ref e.2.1 := ru
    refine ⟨(e.1, e.2.1, y) :: ys, .cons ⟨rfl, rfl, ry⟩ r, fun j z hz => ?_⟩
    cases j with
    | zero =>
      simp at hz
      subst hz
      exact ⟨p, rfl, ⟨o, ho, hc, n, hd⟩, sg_is ok h2⟩
    | succ j =>
      obtain ⟨q, q1, q2⟩ := hys j z (by simpa using hz)
      exact ⟨q, by simpa using q1, q2⟩
end
def rDictSg (K : PySem.W.Frag) (P : Program) (w : World) : List V → Hp → VK → Prop := fun xs H Q => ∃ (l : Addr) (ps : List Addr) (es : Ents), xs = [.ref l] ∧ SqL K H l (ps.map V.ref) ∧ Paired (fun (p : Addr) (e : Sg × Addr × V) => H p = some (.tup [.ref e.2.1, e.2.2]) ∧ IsSg H e.2.1 e.1) ps es ∧
  (es.map (·.1)).Nodup ∧ ∀ q ep, H q = none → Q (.ref q) (upd H q (sdO P w q es ep))
theorem cr_dictSg {X : Cx} (hc : X.calm = true) (hu : X.A.units + 64 < cLine) : CallR X (.type "dict") (rDictSg X.K X.prog X.w) := by
  intro pins s σ H xs us Q I r q
  obtain ⟨l, ps, es, ex, hq, hp, hn, q⟩ := q
  subst ex
  obtain ⟨u, eu, rx⟩ := vals1 r
  subst eu
  cases rx
  obtain ⟨its, rv, pl, hz⟩ := I.list hq
  have ei := refs_at rv
  subst ei
  rw [List.length_map] at hz
  obtain ⟨ys, rel, hys⟩ := sg_pairs I.hok hp
  have hle : ps.length = es.length := Paired.length hp
  have hly : es.length = ys.length := Paired.length rel
  obtain ⟨o, n, ho, hcl, hd, hdat⟩ := pl
  have PA := PairArg.list (prog := X.prog) (w := X.w) l (ps.map Value.ref).toArray (fun j => ps.getD j 0) (ys.map fun y => (Value.ref y.2.1, y.2.2))
  have hroom : (sgKind X.prog X.w).room X.A.in1.in1 := sg_room (A := X.A.in1) (by rw [Around.in1_units]; omega)
  refine call_dict_pairsH (knd := sgKind X.prog X.w) (ps := ys) PA (I.ok.hd hc) hroom ⟨⟨o, n, ho, hcl, hd, hdat⟩, ?_, fun j k v hj => ?_⟩ ⟨by rw [List.length_map], fun i key v hi => ?_⟩ (fun h' hk x hx => ?_) (by rw [List.length_map]; omega) fun h' tk hd' k => ?_
  · simp; omega
  · rw [List.getElem?_map] at hj
    obtain ⟨y, hy, e⟩ := Option.map_eq_some_iff.mp hj
    cases e
    obtain ⟨p, hp1, hp2, _⟩ := hys j y hy
    refine ⟨?_, .inl ?_⟩
    · simp [hp1]
    · show s.heap.IsTuple (ps.getD j 0) _
      rw [List.getD_eq_getElem?_getD, hp1]
      exact hp2
  · have hi : (ys.map fun y => (Value.ref y.2.1, y.2.2))[i]? = some (key, v) := hi
    rw [List.getElem?_map] at hi
    obtain ⟨y, hy, e⟩ := Option.map_eq_some_iff.mp hi
    cases e
    exact ⟨y.1, y.2.1, hy, rfl⟩
  · obtain ⟨j, hj, e⟩ := List.getElem_of_mem hx
    obtain ⟨p, _, _, hp3⟩ := hys j x (by rw [List.getElem?_eq_getElem hj, e])
    obtain ⟨o3, its3, n3, g1, g2⟩ := hp3
    exact ⟨o3, its3, n3, hk _ _ (Nat.ne_of_lt (Heap.lt_size g1)) (fun z => nomatch z) g1, g2⟩
  · have hm : (s.heap.objs.size == sysModules) = false := beq_eq_false_iff_ne.mpr (Nat.ne_of_gt I.big)
    have hn' : (ys.map (·.1)).Nodup := by rw [← rel.keys]; exact hn
    rw [storedAll_new (fun _ _ z => by simp at z) hn', List.nil_append] at hd'
    obtain ⟨o2, es2, ep, h1, h2, h3, h4, _, h6⟩ := hd'
    exact ⟨.ref s.heap.objs.size, _, I.laid (t' := tk) (fun b o e => k b o (fun z => nomatch z) e) (Nat.le_refl _) (sdO_new (xs := es) (by omega) hm rel h6 h1 h2 h3 h4), rfl, q _ ep (I.hok.fresh (Nat.le_refl _))⟩
/-! ### d.update(o) -/
def tNUpd (P : Program) (w : World) (td te : TE) : TE := fun σ H Q => td σ H fun x H1 => ∃ d xs0, x = .ref d ∧ SDx P w H1 d xs0 ∧ te σ H1 fun y H2 => ∃ xs o ys, SDx P w H2 d xs ∧ y = .ref o ∧ SDx P w H2 o ys ∧ d ≠ o ∧ xs ≠ [] ∧ (∀ z ∈ ys, xget xs z.1 = none) ∧ xs.length + ys.length ≤ sizeLine ∧
  ∀ ep, Q .non (upd H2 d (sdO P w d (xs ++ ys) ep))
theorem pe_nupd {X : Cx} {o e : Expr} {apos cpos : Pos} {td te : TE} (hu : X.A.units + 1 < cLine) (ho : PE X o td) (he : PE X e te) (m : M1 X o "update" apos e cpos) : PE X (.Call (.Attribute o "update" apos) [e] [] cpos) (tNUpd X.prog X.w td te) := by
  refine ⟨fun pins s σ H Q I h => ?_⟩
  refine wpAny_Call_method m.base m.few m.line PySem.F.plainAttrs_dict PySem.F.slot_dict_update PySem.F.type_dict_update (thn (ho.run pins s σ H _ I h) fun u s1 ⟨x, H1, I1, rx, d, xs0, ex, g0, q1⟩ => ?_)
  subst ex
  obtain rfl : u = Value.ref d := rx
  obtain ⟨t1, t2, _⟩ := sd_typeIs I1 g0
  refine ⟨t1, t2, ?_⟩
  rw [m.trees]
  refine Calls.callWith_builtin rfl (Calls.evalArgs_plain (Calls.spliced_cons (thn (he.run pins s1 σ H1 _ I1 q1) fun iv s2 ⟨y, H2, I2, ry, xs, b, ys, gd, ey, go, hne, hxs, hdis, hsz, q2⟩ => Calls.spliced_nil ?_)))
  subst ey
  obtain rfl : iv = Value.ref b := ry
  obtain ⟨z1, hd, zs, rel, dd⟩ := gd.of I2.hok
  obtain ⟨z2, hoS, zs2, rel2, dd2⟩ := go.of I2.hok
  have l1 : xs.length = zs.length := Paired.length rel
  have l2 : ys.length = zs2.length := Paired.length rel2
  obtain ⟨_, _, _, _, _, _, _, _, hn2⟩ := id dd2
  have hdis2 : ∀ p ∈ zs2, p.1 ∉ zs.map (·.1) := fun p hp => by
    have h1 : p.1 ∈ ys.map (·.1) := by rw [rel2.keys]; exact List.mem_map.mpr ⟨p, hp, rfl⟩
    obtain ⟨z, hz, e⟩ := List.mem_map.mp h1
    rw [← e, ← rel.keys]
    exact xget_none (hdis z hz)
  obtain ⟨ep0, e0, ek⟩ := gd
  refine call_update_dictH (knd := sgKind X.prog X.w) (sg_room hu) hne hoS dd dd2 (.inl fun z => hxs ?_) (by omega) fun h' dd' _ hs => ?_
  · cases rel with
    | nil => rfl
    | cons _ _ => cases z
  · rw [storedAll_new hdis2 hn2] at dd'
    obtain ⟨q, es, ep, hq, h2, h3, h4, _, h5⟩ := dd'
    exact ⟨.non, _, d_write (t' := s2.toks) I2 (by rw [e0]; exact True.intro) hs ⟨q, hq⟩ (sdO_new (xs := xs ++ ys) (by rw [List.length_append]; exact hsz) hd (rel.app rel2) h5 hq h2 h3 h4), rfl, q2 ep⟩
end L2.K10

set_option Elab.async false
set_option linter.all false
set_option maxRecDepth 100000
set_option maxHeartbeats 4000000
namespace L2.K10
open PySem PySem.Spec PyProof.Rows
theorem er_fst {β : Type} {R : Hp → V → β → Prop} {H : Hp} : ∀ {xs : Ents} {F : List (Sg × β)}, Paired (ER R H) xs F → xs.map (·.1) = F.map (·.1)
  | _, _, .nil => rfl
  | _ :: _, _ :: _, .cons ⟨h1, _, _⟩ t => by rw [List.map_cons, List.map_cons, h1, er_fst t]
theorem zip_lens {H : Hp} : ∀ {ws : Ents} {W : List (Sg × Word)}, Paired (ER RW H) ws W → Paired (ER RN H) ((ws.zip W).map fun q => (q.1.1, q.1.2.1, nV q.2.2.length)) (lensM W)
  | _, _, .nil => .nil
  | _ :: _, _ :: _, .cons ⟨h1, h2, _⟩ t => .cons ⟨h1, h2, rfl⟩ (zip_lens t)
theorem nodup_take {α : Type} {l : List α} (hn : l.Nodup) {i : Nat} {x : α} (h : l[i]? = some x) : x ∉ l.take i := by
  intro hm
  obtain ⟨hi, e⟩ := List.getElem?_eq_some_iff.mp h
  obtain ⟨j, hj, e2⟩ := List.getElem_of_mem hm
  rw [List.getElem_take] at e2
  rw [List.length_take] at hj
  have := (List.getElem_inj hn (i := j) (j := i) (h₀ := by omega) (h₁ := hi)).mp (e2.trans e.symm)
  omega
section
variable {P : Program} {w : World} {K : PySem.W.Frag} {mg : Str → Option Value} {base : Heap}
/-- values: dicts of numbers -/
def RD (P : Program) (w : World) (H : Hp) (v : V) (l : List (Sg × Nat)) : Prop := ∃ d, v = .ref d ∧ DN P w H d l
theorem DN.mono {T : Tbs} {H H' : Hp} (e : Ex T H H') {d : Addr} {F : List (Sg × Nat)} (h : DN P w H d F) : DN P w H' d F := DD.mono h (fun o ho => by
  obtain ⟨xs, ep, h1, _⟩ := h
  rw [h1] at ho
  exact e.keep _ _ (by rw [h1]; exact ho) (Option.some.inj ho ▸ own_sd.1)) e.tps fun _ _ z => z
theorem RD.mono {T : Tbs} {H H' : Hp} (e : Ex T H H') (v : V) (l : List (Sg × Nat)) (h : RD P w H v l) : RD P w H' v l := let ⟨d, h1, h2⟩ := h; ⟨d, h1, h2.mono e⟩
/-- the same, but new behind H1 -/
def R1 (P : Program) (w : World) (H1 H : Hp) (v : V) (l : List (Sg × Nat)) : Prop := ∃ d, v = .ref d ∧ H1 d = none ∧ DN P w H d l
theorem R1.mono {T : Tbs} {H1 H H' : Hp} (e : Ex T H H') (v : V) (l : List (Sg × Nat)) (h : R1 P w H1 H v l) : R1 P w H1 H' v l := let ⟨d, h1, h0, h2⟩ := h; ⟨d, h1, h0, h2.mono e⟩
abbrev DF (P : Program) (w : World) := DD P w (RD P w)
abbrev nAllL : List Str := ["_law_yard_here", "_law_standing_here", "_law_found", "_law_one", "_law_words_here", "_law_other"]
theorem scAllL : FnScope nAllL ["_law_yard_here", "_law_standing_here"] (defScope (top 37)) := ⟨rfl, rfl, rfl, by decide +kernel, rfl, by decide +kernel, by decide +kernel⟩
def spAllL (P : Program) (w : World) (T : Tbs) : Sp := fun vs H Q _ => ∃ (y a : Addr) (Y : Yd) (s : Sg), vs = [.ref y, .ref a] ∧ IsY H y Y ∧ IsSg H a s ∧ TiesOk s.length Y.ties ∧ Y.ties.length ≤ 20 ∧ s.length ≤ 20 ∧ LOk Y.ties s ∧ (∀ f ∈ lawW Y.ties s 6000, LOk Y.ties f.1) ∧
  ∀ H' r, Ex T H H' → H r = none → DF P w H' r (farM Y.ties s) → Q (.ref r) H'
theorem ok_allL {T : Tbs} {f fW fS fM fN : Addr} {fd fdW fdS fdM fdN : FuncData} (F : FnP K "_law_all" 37 f fd) (FW : FnP K "_law_words" 36 fW fdW) (FS : FnP K "_law_slides" 34 fS fdS) (FM : FnP K "_law_slid" 35 fM fdM) (FN : FnP K "_law_near" 33 fN fdN) (gW : mg "_law_words" = some (.ref fW))
    (gS : mg "_law_slides" = some (.ref fS)) (gM : mg "_law_slid" = some (.ref fM)) (gN : mg "_law_near" = some (.ref fN)) (mS : mg "sorted" = none) (mE : mg "enumerate" = none) (mL : mg "list" = none) (mT : mg "tuple" = none) (mR : mg "range" = none) (mD : mg "dict" = none) (mLe : mg "len" = none) :
    FnOk P w K mg base CX0 4 f fd ["_law_yard_here", "_law_standing_here"] (spAllL P w T) := by
  have GW : FnOk P w K mg base CX0 3 fW fdW ["_law_yard_here", "_law_standing_here"] (spWordsL P w T) := ok_wordsL FW FS FM FN gS gM gN mS mE mL mT mR
  have bW : Binds K fdW ["_law_yard_here", "_law_standing_here"] [] := FW.bindsN fun _ _ _ _ _ _ us hl => match us, hl with | [_, _], _ => rfl
  refine F.ok scAllL (fun vs H Q E h => ?_) (fun cdv A outer s H vs Q E hr h => ?_)
  · obtain ⟨y, a, Y, s, rfl, _⟩ := h
    rfl
  · obtain ⟨y, a, Y, st, rfl, hY, hS, hT, hl1, hl2, hb, hb2, q⟩ := h
    have hu := hu_of hr
    refine ⟨_, PSs.nox (pss_cons (ps_set (i := 2) scAllL.nd rfl (.inl rfl) pe_nnew)
      (pss_cons (ps_for PassesOwn.never rfl (pi_nk (pe_call GW hr (by rfl) gW FW.kp bW .nil pass0 (pa_cons (pv 0) (pa_cons (pv 1) pa_nil)))) (pg_name (i := 3) scAllL.nd rfl (.inl rfl))
        (pss_cons (ps_set (i := 4) scAllL.nd rfl (.inr rfl) (pe_call GW hr (by rfl) gW FW.kp bW .nil pass0 (pa_cons (pv 0) (pa_cons (pv 3) pa_nil))))
          (pss_one (ps_nput hu (pv 2) (pv 3) (pe_callTy (cr_dictSg (by rfl) hr.units) (by rfl) mD (by decide +kernel) (pa_cons
            (pe_lc (own := [("_law_other", 5)]) (g := gName 5) (tt := tYes) (te := tTup (tCons (tVar 5) (tCons (tCB (rLen K) (tCons (tNGet P w (tVar 4) (tVar 5)) tNil)) tNil))) (by rfl) scAllL.nd (pi_nk (pv 4))
              (blkOk_by (own := [("_law_other", 5)]) (N := nAllL) (sc := defScope (top 37)) (by decide +kernel)) (fun _ _ _ _ _ => pg_name (i := 5) scAllL.nd rfl (.inl rfl)) (fun _ _ _ _ _ => pts_nil)
              (fun _ _ _ _ _ => pe_tup (pa_cons (pv 5) (pa_cons (pe_callB call_len (by rfl) mLe boot_len (pa_cons (pe_nget hu (pv 4) (pv 5) (fun _ _ => rfl)) pa_nil)) pa_nil)))) pa_nil)) rfl))))
      (pss_one (ps_ret (pv 2))))), ?_⟩
    simp only [cxp, cxw, cxk, cxp', cxw', cxk']
    refine fun d nd => ?_
    have e0 : Ex T H (upd H d (sdO P w d [] 0)) := ex_new nd
    have hd0 : upd H d (sdO P w d [] 0) d = some (sdO P w d [] 0) := upd_same
    refine ⟨_, rfl, _, rfl, y, a, Y, st, rfl, hY.mono e0.tps, hS.mono e0.tps, hT, hl1, hl2, hb, fun H1 r e1 nr hr1 => ?_⟩
    obtain ⟨xs, ep, hr1, hxs⟩ := hr1
    have hd1 : H1 d = some (sdO P w d [] 0) := e1.keep _ _ hd0 own_sd.1
    have e01 := e0.trans e1
    have hk := er_keys hxs
    have hxl : xs.length = (lawW Y.ties st 6000).length := Paired.length hxs
    refine ⟨r, xs, ep, rfl, hr1, for_it walk_nk (fun i σ Hc => ∃ z3 z4, σ = [some (.ref y), some (.ref a), some (.ref d), z3, z4, none] ∧ Ex T H Hc ∧ TpS H1 Hc ∧ (∀ b, Hc b = none → H1 b = none) ∧ Hc r = some (sdO P w r xs ep) ∧ DD P w (R1 P w H1) Hc d ((farM Y.ties st).take i))
      ⟨none, none, rfl, e01, .refl, (fun _ h => h), hr1, [], 0, hd1, .nil⟩ (fun i σ Hc _ ⟨_, _, _, _, _, _, h, _⟩ => h) (fun i x σ Hc Hc' hi hP hy => ?_) (fun σ Hc hP => ?_)⟩
    · obtain ⟨z3, z4, rfl, e2, e2', fr2, hr2, hF⟩ := hP
      obtain ⟨rfl, k, b, v, hx, rfl⟩ := hy
      obtain ⟨f, hf, hfk, hfb, _⟩ := paired_at hxs hx
      simp only at hfk hfb
      subst hfk
      have hfm := List.mem_of_getElem? hf
      have hkl : f.1.length = st.length := lawW_keys _ _ _ f hfm
      have hb2' := hfb.mono e2'
      refine ⟨_, rfl, _, rfl, y, b, Y, f.1, rfl, hY.mono e2.tps, hb2', by rw [hkl]; exact hT, hl1, by rw [hkl]; exact hl2, hb2 f hfm, fun H3 wa e3 nwa hwa => ?_⟩
      have hwx := hwa
      obtain ⟨ws, wep, hwa3, hws⟩ := hwa
      have hwl : ws.length = (lawW Y.ties f.1 6000).length := Paired.length hws
      have hWok := hb2 f hfm
      -- the comprehension
      refine ⟨_, rfl, wa, ws, wep, rfl, hwa3, fun D nD => ?_⟩
      refine lc_it walk_nk (fun j H4 => Ex T H3 H4 ∧ ∃ ps : List Addr, H4 D = some (.lst (ps.map V.ref)) ∧ Paired (fun (p : Addr) (e : Sg × Addr × V) => H4 p = some (.tup [.ref e.2.1, e.2.2]) ∧ IsSg H4 e.2.1 e.1) ps (((ws.zip (lawW Y.ties f.1 6000)).map fun q => (q.1.1, q.1.2.1, nV q.2.2.length)).take j))
        ⟨ex_new nD, [], upd_same, .nil⟩ (fun j H4 _ ⟨e4, _⟩ => e4.keep _ _ hwa3 own_sd.1) (fun j x H4' H4 hj hP hy => ?_) (fun H4 hP => ?_)
      · obtain ⟨e4, ps, hD4, hps⟩ := hP
        obtain ⟨rfl, k2, b2, v2, hx2, rfl⟩ := hy
        obtain ⟨g, hg, hgk, hgb, hgv⟩ := paired_at hws hx2
        simp only at hgk hgb hgv
        subst hgk
        obtain ⟨wa2, rfl, hW2⟩ := hgv
        have hgm := List.mem_of_getElem? hg
        have hwa4 := e4.keep _ _ hwa3 own_sd.1
        have hws4 : Paired (ER RW H4) ws (lawW Y.ties f.1 6000) := er_mono e4.tps (RW.mono e4.tps) hws
        have hgb4 := hgb.mono e4.tps
        have hag : aget (lawW Y.ties f.1 6000) g.1 = some g.2 := aget_of_mem (lawW_nodup _ _ _) hgm
        obtain ⟨v3, hget, wa3, rfl, as3, hW3, hp3⟩ := er_some hws4 hag
        have hln : as3.length = g.2.length := Paired.length hp3
        refine ⟨rfl, _, rfl, _, rfl, _, rfl, wa, ws, b2, g.1, _, rfl, ⟨wep, hwa4, er_keys hws4⟩, rfl, hgb4, hget, .ref wa3, (as3.map V.ref).length, rfl, ?_, by show 2 ≤ sizeLine; decide, fun t nt => ⟨_, by rw [upd_ne (ne_of_none hD4 nt)]; exact hD4, ?_, ?_⟩⟩
        · exact .inr ⟨_, .of hW3, rfl⟩
        · have h1 := Paired.length hps
          have h2 := List.length_take_le j ((ws.zip (lawW Y.ties f.1 6000)).map fun q => (q.1.1, q.1.2.1, nV q.2.2.length))
          refine small1000 ?_
          rw [List.length_map, h1]
          have := (hWok 6000).1
          rw [List.length_take]
          omega
        · have e5 : Ex T H3 (upd H4 t (.tup [.ref b2, .int ((as3.map V.ref).length : Nat)])) := e4.trans (ex_new nt)
          have hD5 : upd H4 t (.tup [.ref b2, .int ((as3.map V.ref).length : Nat)]) D = some (.lst (ps.map V.ref)) := by rw [upd_ne (ne_of_none hD4 nt)]; exact hD4
          have t5 := (tps_new (o := .tup [.ref b2, .int ((as3.map V.ref).length : Nat)]) nt).trans (tps_write (o := .lst (ps.map V.ref ++ [V.ref t])) hD5 (fun _ z => nomatch z))
          refine ⟨e5.write nD hD5 own_lst, ps ++ [t], by rw [upd_same, List.map_append]; rfl, ?_⟩
          have hes : ((ws.zip (lawW Y.ties f.1 6000)).map fun q => (q.1.1, q.1.2.1, nV q.2.2.length))[j]? = some (g.1, b2, nV g.2.length) := by
            rw [List.getElem?_map, List.getElem?_zip_eq_some (z := ((g.1, b2, V.ref wa2), g)) |>.mpr ⟨hx2, hg⟩]
            rfl
          rw [List.take_add_one, hes]
          refine Paired.snoc (Paired.mapP hps fun p e ⟨q1, q2⟩ => ⟨t5 _ _ q1, q2.mono t5⟩) ⟨?_, hgb4.mono t5⟩
          rw [upd_ne (fun z => by rw [z, hD4] at nt; cases nt), upd_same, List.length_map, hln]
          rfl
      · obtain ⟨e4, ps, hD4, hps⟩ := hP
        have hzl : ((ws.zip (lawW Y.ties f.1 6000)).map fun q => (q.1.1, q.1.2.1, nV q.2.2.length)).length = ws.length := by rw [List.length_map, List.length_zip]; omega
        rw [← hzl, List.take_length] at hps
        have t4 := e4.tps
        have hen : Paired (ER RN H4) ((ws.zip (lawW Y.ties f.1 6000)).map fun q => (q.1.1, q.1.2.1, nV q.2.2.length)) (lensM (lawW Y.ties f.1 6000)) := zip_lens (er_mono t4 (RW.mono t4) hws)
        have hzk : (((ws.zip (lawW Y.ties f.1 6000)).map fun q => (q.1.1, q.1.2.1, nV q.2.2.length)).map (·.1)) = (lawW Y.ties f.1 6000).map (·.1) := by rw [er_fst hen, lensM_keys]
        generalize ((ws.zip (lawW Y.ties f.1 6000)).map fun q => (q.1.1, q.1.2.1, nV q.2.2.length)) = es at hzl hps hen hzk ⊢
        refine ⟨D, ps, es, rfl, .of hD4, hps, by rw [hzk]; exact lawW_nodup _ _ _, fun q2 ep2 nq2 => ?_⟩
        have e5 : Ex T H3 (upd H4 q2 (sdO P w q2 es ep2)) := e4.trans (ex_new nq2)
        have e35 := e3.trans e5
        have e6 := e2.trans e35
        have hF6 : DD P w (R1 P w H1) (upd H4 q2 (sdO P w q2 es ep2)) d ((farM Y.ties st).take i) := DD.mono hF (fun o ho => by
          obtain ⟨xs, ep, h1, _⟩ := hF
          rw [h1] at ho
          exact e35.keep _ _ (by rw [h1]; exact ho) (Option.some.inj ho ▸ own_sd.1)) e35.tps (R1.mono e35)
        have hq2 : DN P w (upd H4 q2 (sdO P w q2 es ep2)) q2 (lensM (lawW Y.ties f.1 6000)) := ⟨es, ep2, upd_same, er_mono (tps_new nq2) (fun _ _ z => z) hen⟩
        obtain ⟨xF, eF, hd6, hxF⟩ := hF6
        have hxFl := Paired.length hxF
        have hfk2 : f.1 ∉ ((farM Y.ties st).take i).map (·.1) := by
          rw [List.map_take, farM_keys]
          exact nodup_take (lawW_nodup _ _ _) (by rw [List.getElem?_map, hf]; rfl)
        have hxg : xget xF f.1 = none := by
          have z := er_isSome hxF f.1
          rw [aget_none_iff.mpr hfk2] at z
          cases q : xget xF f.1 with
          | none => rfl
          | some v => rw [q] at z; cases z
        have hb6 : IsSg (upd H4 q2 (sdO P w q2 es ep2)) b f.1 := hb2'.mono e35.tps
        refine ⟨_, rfl, _, rfl, d, xF, b, f.1, rfl, ⟨eF, hd6, er_keys hxF⟩, rfl, hb6, ?_, fun ep7 => ?_⟩
        · refine small1000 ?_
          rw [hxFl, List.length_take]
          have := (hb 6000).1
          rw [farM, List.length_map]
          omega
        rw [xput_new hxg]
        have t7 := tps_write (o := sdO P w d (xF ++ [(f.1, b, .ref q2)]) ep7) hd6 (fun _ z => nomatch z)
        have e7 := e6.write (o := sdO P w d (xF ++ [(f.1, b, .ref q2)]) ep7) nd hd6 own_sd
        have hr6 : upd H4 q2 (sdO P w q2 es ep2) r = some (sdO P w r xs ep) := e35.keep _ _ hr2 own_sd.1
        have rd : r ≠ d := fun z => by rw [z] at nr; rw [nr] at hd0; cases hd0
        refine ⟨_, _, rfl, e7, (e2'.trans e35.tps).trans t7, (fun b hb => fr2 b (e35.free _ (upd_none hb).2)), by rw [upd_ne rd]; exact hr6, ⟨_, ep7, upd_same, ?_⟩⟩
        have hfar : (farM Y.ties st)[i]? = some (f.1, lensM (lawW Y.ties f.1 6000)) := by
          rw [farM, List.getElem?_map, hf]
          rfl
        rw [List.take_add_one, hfar, Option.toList_some]
        have hd1n : H1 d ≠ none := by rw [hd1]; exact fun z => by cases z
        have hw : ∀ o : HO, ∀ d' l, H1 d' = none → DN P w (upd H4 q2 (sdO P w q2 es ep2)) d' l → DN P w (upd (upd H4 q2 (sdO P w q2 es ep2)) d o) d' l := fun o d' l h1 ⟨x2, e2, g1, g2⟩ => by
          have nz : d' ≠ d := fun z => hd1n (by rw [← z]; exact h1)
          refine ⟨x2, e2, by rw [upd_ne nz]; exact g1, er_mono (tps_write hd6 (fun _ z => nomatch z)) (fun _ _ z => z) g2⟩
        have hq1 : H1 q2 = none := fr2 _ (e3.free _ (e4.free _ nq2))
        have hx7 := er_mono (R := R1 P w H1) t7 (fun v l ⟨d', g1, g2, g3⟩ => ⟨d', g1, g2, hw _ d' l g2 g3⟩) hxF
        have hw2 := hw (sdO P w d (xF ++ [(f.1, b, .ref q2)]) ep7) _ _ hq1 hq2
        generalize lensM (lawW Y.ties f.1 6000) = l2 at hw2 ⊢
        generalize List.take i (farM Y.ties st) = l3 at hx7 ⊢
        exact Paired.snoc hx7 ⟨rfl, hb6.mono t7, q2, rfl, hq1, hw2⟩
    · obtain ⟨z3, z4, rfl, e2, e2', fr2, hr2, hF⟩ := hP
      refine ⟨_, rfl, q _ d e2 nd ?_⟩
      rw [hxl, List.take_of_length_le (by rw [farM, List.length_map]; exact Nat.le_refl _)] at hF
      obtain ⟨xF, eF, g1, g2⟩ := hF
      exact ⟨xF, eF, g1, Paired.mapP g2 fun _ _ ⟨q1, q2, d', q3, _, q4⟩ => ⟨q1, q2, d', q3, q4⟩⟩
end
end L2.K10

set_option Elab.async false
set_option linter.all false
set_option maxRecDepth 100000
set_option maxHeartbeats 4000000
namespace L2.K10
open PySem PySem.Spec PyProof.Rows
/-! ### generator expressions over a list or a tuple, elements told true or false -/
section
variable {X : Cx} {pins : List (Addr × Obj)} {σ : St} {H : Hp} {s : Shared}
abbrev gEnv (X : Cx) (scope : Scope) (L : Addr) (code : Value) : Env := genEnv scope (cloFrom X.env.cells scope.names []) L code builtinsNs X.env
/-- the element, where the walked item is told by Pf i: true or false; s1: what stood before -/
def EltD (X : Cx) (P : Addr) (scope : Scope) (x : Str) (elt : Expr) (s1 : Shared) (Pf : Nat → Value → Prop) (bs : Nat → Bool) : Prop :=
  ∀ (L : Addr) (code : Value) (A' : Around) (E' : Value → Shared → Prop) (i : Nat) (u : Value) (s₂ : Shared) (m₂ : Str → Option Value), A'.handled = none → A'.depth ≤ X.A.depth + 1 → A'.units ≤ X.A.units + 8 → Pf i u →
    s₂.heap.Ns L m₂ → m₂ x = some u → (∀ b o, b ≠ P → s1.heap.get? b = some o → s₂.heap.get? b = some o) →
    wpAny (model X.prog X.w) A' (eval elt (gEnv X scope L code)) (fun y s₃ => y = .bool (bs i) ∧ Keeps s₂ s₃) E' s₂
/-- the generator g of n elements, ready to be walked -/
def ReadyB (X : Cx) (pins : List (Addr × Obj)) (σ : St) (H1 : Hp) (P : Addr) (n : Nat) (bs : Nat → Bool) (g : Addr) (s5 : Shared) : Prop :=
  ∃ (fp wr : List Addr) (G : Array GenState → Array GenState → Prop) (F : Nat → Value → Prop) (St : Nat → Shared → Prop),
    WalksS X.prog X.w X.A.in1 g fp wr G n F St ∧ St 0 s5 ∧ TruthOf X.prog X.w X.A.in1 F bs ∧ ∀ s', Moved wr G s5 s' → ∃ H2, GxR.Tabbed P H1 H2 ∧ Inv X pins σ H2 s'
/-- what wpAny_GeneratorExp_walksQD asks behind the code -/
def GenPost (X : Cx) (scope : Scope) (x : Str) (elt : Expr) (it : Value) (Q' : Value → Shared → Prop) (code : Value) (bi : Addr) (s₄ : Shared) : Prop :=
  ∃ I fp wr n₀ P St₀ pz F, it = .ref I ∧ (∀ A' : Around, A'.handled = none → Walks X.prog X.w A' I fp wr n₀ P St₀) ∧ St₀ 0 s₄.heap ∧ (∀ b ∈ fp, b < s₄.heap.objs.size) ∧ s₄.heap.NoLimit ∧ cStatics ∉ wr ∧
          (∀ href : Heap, (∀ b o, s₄.heap.get? b = some o → href.get? b = some o) →
            QuietGenD X.prog X.w (genEnv scope (cloFrom X.env.cells scope.names []) s₄.heap.objs.size code bi X.env) x [] elt (List.range s₄.heap.objs.size) wr P pz F href (X.A.depth + 1) (X.A.units + 8)) ∧
          (∀ a h₅ tk gs, gs.bare = true → s₄.heap.objs.size < a → h₅.objs.size = a + 1 → (∀ b o, s₄.heap.get? b = some o → h₅.get? b = some o) →
            WalksS X.prog X.w X.A.in4 a (a :: s₄.heap.objs.size :: List.range s₄.heap.objs.size) (s₄.heap.objs.size :: wr) (GenOnlyQ s₄.gens.size) (passing pz n₀ 0).length
              (fun j y => ∃ i, (passing pz n₀ 0)[j]? = some i ∧ F i y) (GenAt X.prog X.w X.A.in4 a s₄.gens.size s₄.heap.objs.size (List.range s₄.heap.objs.size) wr pz n₀ F) →
            GenAt X.prog X.w X.A.in4 a s₄.gens.size s₄.heap.objs.size (List.range s₄.heap.objs.size) wr pz n₀ F 0 { s₄ with gens := s₄.gens.push gs, toks := tk, heap := h₅ } →
            Q' (.ref a) { s₄ with gens := s₄.gens.push gs, toks := tk, heap := h₅ })
theorem gen_core {c P : Addr} {elt : Expr} {x : Str} {gpos : Pos} {scope : Scope} {Q' : Value → Shared → Prop} {H1 : Hp} {s1 : Shared} {ps : Array Value} {o : Obj} {n : Nat} {Pf : Nat → Value → Prop} {St₀ : Nat → Heap → Prop} {yl : Addr} {bs : Nat → Bool}
    (hh : X.A.handled = none) (TB : GxR.TabB X.base X.mg c P) (hcode : X.env.code = .ref c) (I1 : Inv X pins σ H1 s1) (hP : H1 P = some (.tbl ps)) (ht : TriplesOk ps.toList) (hyl : yl < s1.heap.objs.size)
    (W₀ : ∀ A' : Around, A'.handled = none → Walks X.prog X.w A' s1.heap.objs.size [s1.heap.objs.size, yl] [s1.heap.objs.size] n Pf St₀)
    (hSt : ∀ h3 : Heap, (∀ b u, b ≠ P → (s1.heap.push o).get? b = some u → h3.get? b = some u) → St₀ 0 h3) (hel : EltD X P scope x elt s1 Pf bs) (hQ : ∀ g s5, ReadyB X pins σ H1 P n bs g s5 → Q' (.ref g) s5) :
    (s1.heap.push o).NoLimit ∧ wpAny (model X.prog X.w) X.A (genexprCode X.env gpos (X.env.qual ++ "<genexpr>") scope) (fun code s₃ => wpAny (model X.prog X.w) X.A (builtinsFor X.env.globals X.env.builtins) (fun bi s₄ =>
        GenPost X scope x elt (.ref s1.heap.objs.size) Q' code bi s₄) X.xe s₃) X.xe { s1 with heap := s1.heap.push o } := by
  have hPs : s1.heap.get? P = some { cls := .none, data := .fields ps } := I1.hok P _ hP
  have hPlt : P < s1.heap.objs.size := Heap.lt_size hPs
  have hP2 : (s1.heap.push o).get? P = some { cls := .none, data := .fields ps } := Heap.get?_push_of_some _ hPs
  have cd : PySem.W.CodeHd (s1.heap.push o) c P := TB.code.keeps fun b u e => Heap.get?_push_of_some _ (I1.bk b u e)
  have lim2 : (s1.heap.push o).NoLimit := I1.nolimit.push o
  have cont : ∀ (code : Value) (h3 : Heap) (tk : Nat) (ps' : Array Value), Heap.ExtBut P (s1.heap.push o) h3 → (s1.heap.push o).objs.size ≤ h3.objs.size → h3.get? P = some { cls := .none, data := .fields ps' } → (∃ more, ps' = ps ++ more) → TriplesOk ps'.toList →
      wpAny (model X.prog X.w) X.A (builtinsFor X.env.globals X.env.builtins) (fun bi s₄ => GenPost X scope x elt (.ref s1.heap.objs.size) Q' code bi s₄) X.xe { s1 with heap := h3, toks := tk } := by
    intro code h3 tk ps' hx hsz hP3 hmore ht3
    obtain ⟨bm, ob, e1, e2, e3, e4, e5, e6, e7, e8⟩ := TB.bm
    have hcP : cStatics ≠ P := fun e => by
      obtain ⟨_, hns, _⟩ := I1.nolimit
      obtain ⟨o', es, ep, ho, hd, _⟩ := hns
      rw [e, hPs] at ho
      cases ho
      cases hd
    have hcl : cStatics < s1.heap.objs.size := let ⟨_, hns, _⟩ := I1.nolimit; hns.lt
    have sz2 : (s1.heap.push o).objs.size = s1.heap.objs.size + 1 := Heap.size_push ..
    have keep3 : ∀ b u, b ≠ P → s1.heap.get? b = some u → h3.get? b = some u := fun b u hb e => hx b u hb (Heap.get?_push_of_some _ e)
    refine wpAny_builtinsFor (m := X.mg) (by rw [I1.ok.glob]; exact ((I1.mod.glob.keeps I1.bk).push o).extBut hx TB.gP) e1 e2 (keep3 _ _ e4 (I1.bk _ _ e5)) e6 e7 e8 ?_
    refine ⟨s1.heap.objs.size, [s1.heap.objs.size, yl], [s1.heap.objs.size], n, Pf, St₀, (fun _ => true), (fun i y => y = .bool (bs i)), rfl, W₀, hSt h3 (fun b u hb e => hx b u hb e), ?_, lim2.extBut hx hcP, ?_, ?_, ?_⟩
    · intro b hb
      rcases List.mem_cons.mp hb with z | z
      · rw [z]
        show s1.heap.objs.size < h3.objs.size
        omega
      · rcases List.mem_cons.mp z with z | z
        · rw [z]
          have e9 : s1.heap.objs.size ≤ h3.objs.size := by omega
          exact Nat.lt_of_lt_of_le hyl e9
        · cases z
    · intro z
      rcases List.mem_cons.mp z with z | z
      · exact Nat.ne_of_lt hcl z
      · cases z
    · intro href hhref
      refine ⟨fun A' E' i v s₂ m₂ hA hD hU hPv hn hm hk => ?_, fun A' E' i v s₂ m₂ hA hD hU hPv hp hn hm hk => ?_⟩
      · simp only [List.forIn_nil]
        exact wpAny_pure ⟨rfl, GxR.keeps_refl _⟩
      · refine hel _ _ A' E' i v s₂ m₂ hA hD hU hPv hn hm fun b u hb e => hk b ?_ ?_ u (hhref b u (keep3 b u hb e))
        · exact List.mem_range.mpr (Nat.lt_of_lt_of_le (Heap.lt_size e) (by show s1.heap.objs.size ≤ h3.objs.size; omega))
        · intro z
          rcases List.mem_cons.mp z with z | z
          · have hl := Heap.lt_size e
            rw [z] at hl
            exact Nat.lt_irrefl _ hl
          · cases z
    · intro g h5 tk5 gs hgb hag hsz5 hk5 W5 hgat
      simp only [GxR.passing_true, List.length_range] at W5
      refine hQ g _ ⟨_, _, _, _, _, W5.in4_1, hgat, ?_, fun s' hm => ?_⟩
      · intro j y sj Qj Ej hy hQj
        obtain ⟨i, hij, rfl⟩ := hy
        obtain ⟨hj, ej⟩ := List.getElem?_eq_some_iff.mp hij
        rw [List.getElem_range] at ej
        subst ej
        exact wpAny_truthy_bool hQj
      · obtain ⟨more, em⟩ := hmore
        have nwr : ∀ b u, s1.heap.get? b = some u → b ∉ h3.objs.size :: [s1.heap.objs.size] := fun b u e hb => by
          have hl := Heap.lt_size e
          rcases List.mem_cons.mp hb with z | z
          · rw [z] at hl
            have h9 : (h3.objs.size : Nat) < s1.heap.objs.size := hl
            omega
          · rcases List.mem_cons.mp z with z | z
            · rw [z] at hl
              exact Nat.lt_irrefl _ hl
            · cases z
        have J := GxR.inv_tab (more := more) (h' := s'.heap) (g' := s'.gens) (d' := s'.drawn) (t' := s'.toks) I1 hP (fun b u hb e => hm.heap b u (nwr b u e) (hk5 b u (keep3 b u hb e)))
          (by rw [← em]; exact hm.heap P _ (nwr P _ hPs) (hk5 P _ hP3)) (AllBare.movedS (I1.bare.push hgb) hm)
        rw [GxR.sh_eta s1 s' hm.os] at J
        refine ⟨upd H1 P (.tbl (ps ++ more)), ⟨⟨ps ++ more, upd_same, by rw [← em]; exact ht3⟩, fun b hb => upd_ne hb⟩, J⟩
  refine ⟨lim2, ?_⟩
  cases hf : codeAmong gpos ps.toList with
  | none =>
    refine wpAny_genexprCodeX hcode (cd.code hP2 ht) (cd.tab hP2) hf fun c' h' tk hx hge hlt hco' _ htab' _ => ?_
    obtain ⟨o1, vs, f1, tf, fl, tg, inF, tx, tt, op, _, _, _, _, _, _, _, _, _, htr, _⟩ := hco'
    exact cont _ h' tk _ hx (Nat.le_trans hge (Nat.le_of_lt hlt)) htab'.2 ⟨_, rfl⟩ htr
  | some cv =>
    refine wpAny_genexprCode_hit hcode (cd.code hP2 ht) hf ?_
    exact cont cv (s1.heap.push o) s1.toks ps (Heap.ExtBut.refl _ _) (Nat.le_refl _) hP2 ⟨#[], by simp⟩ ht
/-- the generator expression over a list or a tuple -/
theorem gen_seq {c P : Addr} {elt iter : Expr} {x : Str} {px gpos : Pos} {scope : Scope} {te : TE} {k : Nat} {Q' : Value → Shared → Prop} {R : List V → (Nat → Bool) → Hp → Prop} {C : VK}
    (hr : Room k X.A) (TB : GxR.TabB X.base X.mg c P) (hcode : X.env.code = .ref c) (S : GxR.GenS X.env scope x) (hi : PE X iter te)
    (hs : ∀ v, genFold iter X.env v = pure v) (I : Inv X pins σ H s) (h : te σ H C) (hC : ∀ v H1, C v H1 → ∃ (yl : Addr) (xs : List V) (bs : Nat → Bool), v = .ref yl ∧ (SqL X.K H1 yl xs ∨ SqT X.K H1 yl xs) ∧ GxR.TabG H1 P ∧
      (∀ s1, Inv X pins σ H1 s1 → EltD X P scope x elt s1 (fun i u => ∃ y, xs[i]? = some y ∧ RelV y u) bs) ∧ R xs bs H1)
    (hQ : ∀ xs bs H1 g s5, R xs bs H1 → ReadyB X pins σ H1 P xs.length bs g s5 → Q' (.ref g) s5) :
    wpAny (model X.prog X.w) X.A (eval (.GeneratorExp elt [⟨.Name x px, iter, [], 0⟩] scope gpos) X.env) Q' X.xe s := by
  refine wpAny_GeneratorExp_walksQD hr.hd S.co (closure_ok S.free) S.cell S.dot S.loc S.kind (by have := hr.dp; omega) ?_ hs
  refine thn (hi.run pins s σ H _ I h) fun xv s1 ⟨v, H1, I1, r1, q1⟩ => ?_
  obtain ⟨yl, xs, bs, rfl, hyl, ⟨ps, hP, ht⟩, hel, q1⟩ := hC v H1 q1
  obtain rfl : xv = Value.ref yl := r1
  have fin : ∀ (its : List Value), Vals xs its → its.toArray.size = xs.length ∧ ∀ (i : Nat) (u : Value), its.toArray[i]? = some u → ∃ y, xs[i]? = some y ∧ RelV y u := fun its rv => by
    refine ⟨by rw [List.size_toArray]; exact rv.length.symm, fun i u hu => ?_⟩
    have hu2 : its[i]? = some u := by simpa using hu
    have hl := rv.length
    obtain ⟨hi2, _⟩ := List.getElem?_eq_some_iff.mp hu2
    have hi3 : i < xs.length := by omega
    obtain ⟨u', hu', r⟩ := rv.get (List.getElem?_eq_getElem hi3)
    rw [hu2] at hu'
    cases hu'
    exact ⟨_, List.getElem?_eq_getElem _, r⟩
  rcases hyl with hyl | hyl
  · obtain ⟨its, rv, hl, hz⟩ := I1.list hyl
    obtain ⟨f1, f2⟩ := fin its rv
    have hIL := hl.isList
    have hlt : yl < s1.heap.objs.size := let ⟨_, e, _⟩ := hIL; Heap.lt_size e
    refine wpAny_pyIter_list hIL ?_
    have core := gen_core (x := x) (gpos := gpos) (scope := scope) (elt := elt) (Q' := Q') (o := { cls := .type "list_iterator", data := .fields #[.ref yl, .int 0 0] }) (n := xs.length) (Pf := fun i v => its.toArray[i]? = some v)
      (St₀ := fun i h => h.IsListIter s1.heap.objs.size yl i ∧ h.IsList yl its.toArray) (bs := bs) hr.hd TB hcode I1 hP ht hlt (fun A' hA => by rw [← f1]; exact Walks.list hA _ _ (Nat.ne_of_lt hlt) _)
      (fun h3 hk => ?_) (fun L code A' E' i u s₂ m₂ a1 a2 a3 a4 => hel s1 I1 L code A' E' i u s₂ m₂ a1 a2 a3 (f2 i u a4)) (fun g s5 hg => hQ xs bs H1 g s5 q1 hg)
    · exact core
    · have hPs : s1.heap.get? P = some { cls := .none, data := .fields ps } := I1.hok P _ hP
      refine ⟨⟨_, hk _ _ (Nat.ne_of_gt (Heap.lt_size hPs)) (Heap.get?_push_size _ rfl), rfl, rfl⟩, ?_⟩
      obtain ⟨ob, e, r1, n9, hd1⟩ := _root_.id hIL
      refine ⟨ob, hk _ _ (fun z => ?_) (Heap.get?_push_of_some _ e), r1, n9, hd1⟩
      rw [z, hPs] at e
      cases e
      cases hd1
  · obtain ⟨its, rv, hl, hz⟩ := I1.tuple hyl
    obtain ⟨f1, f2⟩ := fin its rv
    have hIL : s1.heap.IsTuple yl its.toArray := hl
    have hlt : yl < s1.heap.objs.size := let ⟨_, e, _⟩ := hIL; Heap.lt_size e
    refine wpAny_pyIter_tuple hIL ?_
    have core := gen_core (x := x) (gpos := gpos) (scope := scope) (elt := elt) (Q' := Q') (o := { cls := .type "tuple_iterator", data := .fields #[.ref yl, .int 0 0] }) (n := xs.length) (Pf := fun i v => its.toArray[i]? = some v)
      (St₀ := fun i h => h.IsTupleIter s1.heap.objs.size yl i ∧ h.IsTuple yl its.toArray) (bs := bs) hr.hd TB hcode I1 hP ht hlt (fun A' hA => by rw [← f1]; exact Walks.tuple hA _ _ (Nat.ne_of_lt hlt) _)
      (fun h3 hk => ?_) (fun L code A' E' i u s₂ m₂ a1 a2 a3 a4 => hel s1 I1 L code A' E' i u s₂ m₂ a1 a2 a3 (f2 i u a4)) (fun g s5 hg => hQ xs bs H1 g s5 q1 hg)
    · exact core
    · have hPs : s1.heap.get? P = some { cls := .none, data := .fields ps } := I1.hok P _ hP
      refine ⟨⟨_, hk _ _ (Nat.ne_of_gt (Heap.lt_size hPs)) (Heap.get?_push_size _ rfl), rfl, rfl⟩, ?_⟩
      obtain ⟨ob, e, r1, n9, hd1⟩ := _root_.id hIL
      refine ⟨ob, hk _ _ (fun z => ?_) (Heap.get?_push_of_some _ e), r1, n9, hd1⟩
      rw [z, hPs] at e
      cases e
      cases hd1
end
end L2.K10

set_option Elab.async false
set_option linter.all false
set_option maxRecDepth 100000
set_option maxHeartbeats 4000000
namespace L2.K10
open PySem PySem.Spec PyProof.Rows
theorem isi_ty {K : PySem.W.Frag} {H : Hp} {Q : VK} {x : V} {a b : String} {r : Bool} (h : TyX K H x (.type a)) (e : kitB a b = some r) (q : Q (.bl r) H) : rIsi K [x, .ty b] H Q := ⟨x, .ty b, _, _, r, rfl, .ty b, h, kit_ty e, q⟩
def isNum : V → Int → Int → Bool
  | .int i, lo, hi => decide (lo ≤ i) && decide (i ≤ hi)
  | _, _, _ => false
/-- what may be asked to be a number -/
inductive Askd : V → Prop where
  | int (i : Int) : Askd (.int i)
  | bl (b : Bool) : Askd (.bl b)
  | non : Askd .non
theorem Askd.oV (x : Option Nat) : Askd (oV x) := by
  cases x
  · exact .non
  · exact .int _
section
variable {P : Program} {w : World} {K : PySem.W.Frag} {mg : Str → Option Value} {base : Heap}
abbrev nNum : List Str := ["value", "low", "high"]
theorem scNum : FnScope nNum ["value", "low", "high"] (defScope (top 9)) := ⟨rfl, rfl, rfl, by decide +kernel, rfl, by decide +kernel, by decide +kernel⟩
def spNum : Sp := fun vs H Q _ => ∃ (x : V) (lo hi : Int), vs = [x, .int lo, .int hi] ∧ Askd x ∧ Q (.bl (isNum x lo hi)) H
theorem ok_num {f : Addr} {fd : FuncData} (F : FnP K "is_number" 9 f fd) (mI : mg "isinstance" = none) (mN : mg "int" = none) (mB : mg "bool" = none) : FnOk P w K mg base CX0 1 f fd ["value", "low", "high"] spNum := by
  refine F.ok scNum (fun vs H Q E h => ?_) (fun cdv A outer s H vs Q E hr h => ?_)
  · obtain ⟨x, lo, hi, rfl, _⟩ := h
    rfl
  · obtain ⟨x, lo, hi, rfl, hx, q⟩ := h
    refine ⟨_, PSs.nox (pss_one (ps_ret (pe_and (pe_callB call_isi (by rfl) mI (by decide +kernel) (pa_cons (pv 0) (pa_cons (pe_bltn (v := .ty "int") (by rfl) mN (show _ = some (.type "int") by decide +kernel) rfl) pa_nil)))
      (pe_and (pe_not (pe_callB call_isi (by rfl) mI (by decide +kernel) (pa_cons (pv 0) (pa_cons (pe_bltn (v := .ty "bool") (by rfl) mB (show _ = some (.type "bool") by decide +kernel) rfl) pa_nil))))
        (pe_one (pe_chain op_le op_le (pv 1) (pv 0) (pv 2))))))), ?_⟩
    simp only [cxp, cxw, cxk, cxp', cxw', cxk']
    refine ⟨_, rfl, ?_⟩
    cases hx with
    | non =>
      refine ⟨_, .ty "int", _, _, false, rfl, .ty "int", (.base .non), kit_ty (by decide +kernel), ?_⟩
      exact ⟨_, rfl, q⟩
    | bl b =>
      refine ⟨_, .ty "int", _, _, true, rfl, .ty "int", (.base (.bl b)), kit_ty (by decide +kernel), ?_⟩
      refine ⟨_, rfl, _, rfl, ?_⟩
      refine ⟨_, .ty "bool", _, _, true, rfl, .ty "bool", (.base (.bl b)), kit_ty (by decide +kernel), ?_⟩
      exact ⟨_, rfl, _, rfl, q⟩
    | int i =>
      refine ⟨_, .ty "int", _, _, true, rfl, .ty "int", (.base (.int i)), kit_ty (by decide +kernel), ?_⟩
      refine ⟨_, rfl, _, rfl, ?_⟩
      refine ⟨_, .ty "bool", _, _, false, rfl, .ty "bool", (.base (.int i)), kit_ty (by decide +kernel), ?_⟩
      refine ⟨_, rfl, _, rfl, ?_⟩
      refine ⟨_, rfl, _, rfl, _, _, rfl, rfl, _, rfl, ?_⟩
      have q : Q (.bl (decide (lo ≤ i) && decide (i ≤ hi))) H := q
      by_cases h1 : lo ≤ i
      · rw [if_pos (decide_eq_true h1)]
        rw [decide_eq_true h1, Bool.true_and] at q
        exact ⟨_, rfl, _, _, rfl, rfl, q⟩
      · rw [if_neg (by rw [decide_eq_false h1]; decide)]
        rw [decide_eq_false h1, Bool.false_and] at q
        exact q
end
end L2.K10

set_option Elab.async false
set_option linter.all false
set_option maxRecDepth 100000
set_option maxHeartbeats 4000000
namespace L2.K10
open PySem PySem.Spec PyProof.Rows
/-! ### is_number, called where nothing is told but the heap -/
/-- what the heap must hold -/
structure Fit (K : PySem.W.Frag) (mg : Str → Option Value) (h : Heap) : Prop where
  kin : K.In h
  lim : h.NoLimit
  glob : h.Ns mainGlobals mg
  blt : ∃ mb, h.Ns builtinsNs mb ∧ ∀ x : Str, x ≠ "__name__" → mb x = bootBuiltins x
theorem Fit.keeps {K : PySem.W.Frag} {mg : Str → Option Value} {h h' : Heap} (F : Fit K mg h) (k : ∀ b o, h.get? b = some o → h'.get? b = some o) : Fit K mg h' :=
  ⟨F.kin.keeps k, F.lim.keeps k, F.glob.keeps k, let ⟨mb, h1, h2⟩ := F.blt; ⟨mb, h1.keeps k, h2⟩⟩
section
variable {prog : Program} {w : World} {A : Around} {E : Value → Shared → Prop} {s : Shared} {K : PySem.W.Frag} {mg : Str → Option Value} {env : Env} {m : Str → Option Value} {Q : Value → Shared → Prop}
theorem raw_glob {x : Str} {u : Value} {pos : Pos} (F : Fit K mg s.heap) (hk : env.scope.kind = .function) (hG : env.globals = mainGlobals) (hg : env.kindOf x = some .globalImplicit) (hm : mg x = some u) (h : Q u s) (hd : (x == ("__debug__" : Str)) = false := by decide) :
    wpAny (model prog w) A (eval (.Name x pos) env) Q E s := Calls.Name_function_global hk hg (Calls.loadGlobal_global (by rw [hG]; exact F.glob) hm h) hd
theorem raw_blt {x : Str} {u : Value} {pos : Pos} (F : Fit K mg s.heap) (hk : env.scope.kind = .function) (hG : env.globals = mainGlobals) (hB : env.builtins = builtinsNs) (hg : env.kindOf x = some .globalImplicit) (hm : mg x = none) (hv : bootBuiltins x = some u) (h : Q u s)
    (hn : x ≠ "__name__" := by decide) (hd : (x == ("__debug__" : Str)) = false := by decide) : wpAny (model prog w) A (eval (.Name x pos) env) Q E s := by
  obtain ⟨mb, h1, h2⟩ := F.blt
  exact Calls.Name_function_global hk hg (Calls.loadGlobal_builtin (by rw [hG]; exact F.glob) hm (by rw [hB]; exact h1) ((h2 x hn).trans hv) h) hd
theorem raw_loc {x : Str} {u : Value} {pos : Pos} (hk : env.scope.kind = .function) (hl : env.kindOf x = some .local) (hn : s.heap.Ns env.locals m) (hm : m x = some u) (h : Q u s) (hd : (x == ("__debug__" : Str)) = false := by decide) :
    wpAny (model prog w) A (eval (.Name x pos) env) Q E s := wpAny_Name (wpAny_loadName_local hk hl hn hm h) hd
theorem raw_isi {v T : Str} {nT : String} {u t : Value} {b : Bool} {Z : Heap → Prop} {p1 p2 p3 p4 : Pos} (F : Fit K mg s.heap) (hk : env.scope.kind = .function) (hG : env.globals = mainGlobals) (hB : env.builtins = builtinsNs) (hl : env.kindOf v = some .local) (hn : s.heap.Ns env.locals m) (hm : m v = some u)
    (g1 : env.kindOf "isinstance" = some .globalImplicit) (mI : mg "isinstance" = none) (g2 : env.kindOf T = some .globalImplicit) (mT : mg T = none) (hT : bootBuiltins T = some (.type nT)) (kz : PySem.W.KitX K u t Z) (z : Z s.heap) (e : PySem.W.kitOne K t (.type nT) = some b) (hx : u ≠ .builtin "__main__.__loader__#opaque")
    (h : ∀ tk, Q (.bool b) { s with toks := tk }) (nT1 : T ≠ "__name__" := by decide) (dT : (T == ("__debug__" : Str)) = false := by decide) (dv : (v == ("__debug__" : Str)) = false := by decide) :
    wpAny (model prog w) A (eval (.Call (.Name "isinstance" p1) [.Name v p2, .Name T p3] [] p4) env) Q E s := by
  refine wpAny_Call_Name_kw (raw_blt F hk hG hB g1 mI (show _ = some (.builtin "isinstance") by decide +kernel) ?_)
  refine PyProof.Rows.callWith_builtin1 ?_ rfl rfl
  refine Calls.spliced_cons (raw_loc hk hl hn hm ?_ dv)
  refine Calls.spliced_cons (raw_blt F hk hG hB g2 mT hT ?_ nT1 dT)
  exact Calls.spliced_nil (PySem.W.kia_one kz F.kin z e hx h)
end
section
variable {prog : Program} {w : World} {A : Around} {s : Shared} {K : PySem.W.Frag} {mg : Str → Option Value}
theorem num_raw {f : Addr} {fd : FuncData} {R : Result → Shared → Prop} {u : Value} {x : V} {lo hi : Int} {t1 t2 : Tok} (FN : FnP K "is_number" 9 f fd) (F : Fit K mg s.heap) (mI : mg "isinstance" = none) (mN : mg "int" = none) (mB : mg "bool" = none) (hroom : A.depth < recursionLimit)
    (r : RelV x u) (hx : Askd x) (h : ∀ s', Keeps s s' → R (.ok (.ret (.bool (isNum x lo hi)))) s') : codeAny (model prog w) A (.call (.ref f) ⟨[u, .int lo t1, .int hi t2], []⟩) R s := by
  have bN : Binds K fd ["value", "low", "high"] [] := FN.bindsN fun _ _ _ _ _ _ us hl => match us, hl with | [_, _, _], _ => rfl
  obtain ⟨oc, od, dV, kV, doc, pm, an, cdv, ct, osl, rfl, lk, hcd, _, _⟩ := FN.ex
  refine Att.call_fn (binds := [("value", u), ("low", .int lo t1), ("high", .int hi t2)]) F.kin F.lim lk hcd hroom (bN s [u, .int lo t1, .int hi t2] F.kin rfl) (by rfl) (fun s₁ IC => ?_) rfl rfl rfl
  obtain ⟨h₁, tk₁, rfl⟩ := IC.toInCall.same
  have k : ∀ b o, s.heap.get? b = some o → h₁.get? b = some o := IC.toInCall.keep
  have hn := IC.toInCall.ns
  have F1 := F.keeps k
  show wpAny _ _ (execs _ _) _ _ _
  refine wpAny_execs_cons (wpAny_Return_some (BoolOp_and ?_))
  have lv : (bindL (envOfC "is_number" (defScope (top 9)) s.heap.objs.size f cdv).kindOf [("value", u), ("low", .int lo t1), ("high", .int hi t2)] fun _ => none) "value" = some u := rfl
  have ll : (bindL (envOfC "is_number" (defScope (top 9)) s.heap.objs.size f cdv).kindOf [("value", u), ("low", .int lo t1), ("high", .int hi t2)] fun _ => none) "low" = some (.int lo t1) := rfl
  have lh : (bindL (envOfC "is_number" (defScope (top 9)) s.heap.objs.size f cdv).kindOf [("value", u), ("low", .int lo t1), ("high", .int hi t2)] fun _ => none) "high" = some (.int hi t2) := rfl
  cases hx with
  | non =>
    cases r
    refine raw_isi (nT := "int") F1 rfl rfl rfl rfl hn lv rfl mI rfl mN (by decide +kernel) PySem.W.kitx_none True.intro (kit_ty (r := false) (by decide +kernel)) (fun z => nomatch z) fun tk => ?_
    exact wpAny_truthy_bool (h _ ⟨h₁, tk, rfl, k⟩)
  | bl b =>
    cases r
    refine raw_isi (nT := "int") F1 rfl rfl rfl rfl hn lv rfl mI rfl mN (by decide +kernel) PySem.W.kitx_bool True.intro (kit_ty (r := true) (by decide +kernel)) (fun z => nomatch z) fun tk => ?_
    refine wpAny_truthy_bool (BoolOp_and (UnaryOp_ ?_))
    refine raw_isi (nT := "bool") F1 rfl rfl rfl rfl hn lv rfl mI rfl mB (by decide +kernel) PySem.W.kitx_bool True.intro (kit_ty (r := true) (by decide +kernel)) (fun z => nomatch z) fun tk => ?_
    exact not_of (wpAny_truthy_bool (wpAny_truthy_bool (h _ ⟨h₁, tk, rfl, k⟩)))
  | int i =>
    obtain ⟨ti, rfl⟩ := r
    refine raw_isi (nT := "int") F1 rfl rfl rfl rfl hn lv rfl mI rfl mN (by decide +kernel) PySem.W.kitx_int True.intro (kit_ty (r := true) (by decide +kernel)) (fun z => nomatch z) fun tk => ?_
    refine wpAny_truthy_bool (BoolOp_and (UnaryOp_ ?_))
    refine raw_isi (nT := "bool") F1 rfl rfl rfl rfl hn lv rfl mI rfl mB (by decide +kernel) PySem.W.kitx_int True.intro (kit_ty (r := false) (by decide +kernel)) (fun z => nomatch z) fun tk => ?_
    refine not_of (wpAny_truthy_bool (wpAny_truthy_bool (BoolOp_one ?_)))
    refine Compare_chain ?_ (by with_unfolding_all rfl)
    refine raw_loc rfl rfl hn ll (chain_link (raw_loc rfl rfl hn lv ?_))
    refine le_int (wpAny_truthy_bool ?_)
    have h' : ∀ s', Keeps s s' → R (.ok (.ret (.bool (decide (lo ≤ i) && decide (i ≤ hi))))) s' := h
    by_cases h1 : lo ≤ i
    · rw [decide_eq_true h1] at h' ⊢
      refine ite_tt (chain_last (raw_loc rfl rfl hn lh ?_))
      exact le_int (h' _ ⟨h₁, tk, rfl, k⟩)
    · rw [decide_eq_false h1] at h' ⊢
      exact ite_ff (h' _ ⟨h₁, tk, rfl, k⟩)
end
end L2.K10

set_option Elab.async false
set_option linter.all false
set_option maxRecDepth 100000
set_option maxHeartbeats 4000000
namespace L2.K10
open PySem PySem.Spec PyProof.Rows
section
variable {X : Cx} {pins : List (Addr × Obj)} {σ : St} {H1 : Hp} {s1 s₂ : Shared} {P : Addr}
theorem fit_of {ps : Array Value} (I : Inv X pins σ H1 s1) (hP : H1 P = some (.tbl ps)) (k : ∀ b o, b ≠ P → s1.heap.get? b = some o → s₂.heap.get? b = some o) : Fit X.K X.mg s₂.heap := by
  have kb : ∀ b o, X.base.get? b = some o → s₂.heap.get? b = some o := fun b o e => k b o (fun z => by
    have := (I.bs b o e).2
    rw [z, hP] at this
    cases this) (I.bk b o e)
  exact ⟨I.ok.mod.kin.keeps kb, I.ok.mod.nolimit.keeps kb, I.mod.glob.keeps kb, let ⟨mb, h1, h2⟩ := I.mod.blt; ⟨mb, h1.keeps kb, h2⟩⟩
/-- a cell of the def, told by the slots -/
theorem cell_at {i : Nat} {x : Str} {v : V} (I : Inv X pins σ H1 s1) (hN : X.N[i]? = some x) (hσ : σ[i]? = some (some v)) (hk : X.env.scope.names.lookup x = some .cell) : ∃ c u, X.env.cells.lookup x = some c ∧ s1.heap.IsCell c (some u) ∧ RelV v u := by
  obtain ⟨m, hn, hl⟩ := I.loc
  obtain ⟨u, r, l⟩ := hl i x v hN hσ (.inr (.inl hk))
  rcases l with ⟨hk2, _⟩ | ⟨_, c, hc, hcell⟩
  · have : X.env.scope.names.lookup x = some .local := hk2
    rw [hk] at this
    cases this
  · exact ⟨c, u, hc, hcell, r⟩
theorem cell_keep {ps : Array Value} {c : Addr} {v : Option Value} (I : Inv X pins σ H1 s1) (hP : H1 P = some (.tbl ps)) (k : ∀ b o, b ≠ P → s1.heap.get? b = some o → s₂.heap.get? b = some o) (h : s1.heap.IsCell c v) : s₂.heap.IsCell c v := by
  have hPs : s1.heap.get? P = some { cls := .none, data := .fields ps } := I.hok P _ hP
  obtain ⟨o', e', hd⟩ := h
  refine ⟨o', k c o' (fun z => ?_) e', hd⟩
  rw [z, hPs] at e'
  cases e'
  cases hd
/-- is_number(x, 0, e3), x the walked item -/
theorem elt_isnum {xs : List V} {ps : Array Value} {f : Addr} {fd : FuncData} {scope : Scope} {x : Str} {e3 : Expr} {hi : Int} {j k : Nat} {p1 p2 p3 p4 : Pos} (I : Inv X pins σ H1 s1) (hP : H1 P = some (.tbl ps)) (hr : Room k X.A)
    (FN : FnP X.K "is_number" 9 f fd) (gN : X.mg "is_number" = some (.ref f)) (mI : X.mg "isinstance" = none) (mN : X.mg "int" = none) (mB : X.mg "bool" = none) (hk : scope.kind = .function) (hx : scope.names.lookup x = some .local) (hg : scope.names.lookup ("is_number" : Str) = some .globalImplicit)
    (ha : ∀ y ∈ xs, Askd y) (he3 : ∀ env, starEach [e3] env = [(false, eval e3 env)])
    (h3 : ∀ (L : Addr) (code : Value) (A' : Around) (E' : Value → Shared → Prop) (s₂ : Shared) (Q : Value → Shared → Prop), A'.handled = none → Fit X.K X.mg s₂.heap → (∀ b o, b ≠ P → s1.heap.get? b = some o → s₂.heap.get? b = some o) → (∀ t tk, Q (.int hi t) { s₂ with toks := tk }) →
      wpAny (model X.prog X.w) A' (eval e3 (gEnv X scope L code)) Q E' s₂) (hd : (x == ("__debug__" : Str)) = false := by decide) :
    EltD X P scope x (.Call (.Name "is_number" p1) [.Name x p2, .Constant (.int 0) j p3, e3] [] p4) s1 (fun i u => ∃ y, xs[i]? = some y ∧ RelV y u) (fun i => isNum (xs.getD i .non) 0 hi) := by
  intro L code A' E' i u s₂ m₂ hA hD hU ⟨y, hy, ry⟩ hn hm hkp
  have F2 := fit_of I hP hkp
  have ey : xs.getD i .non = y := by rw [List.getD_eq_getElem?_getD, hy]; rfl
  simp only [ey]
  have hy' := ha y (List.mem_of_getElem? hy)
  refine wpAny_Call_Name_kw (raw_glob F2 hk I.ok.glob hg gN ?_)
  have hs : starEach [.Name x p2, .Constant (.int 0) j p3, e3] (gEnv X scope L code) = (false, eval (.Name x p2) (gEnv X scope L code)) :: (false, eval (.Constant (.int 0) j p3) (gEnv X scope L code)) :: [(false, eval e3 (gEnv X scope L code))] := by
    show (false, eval (.Name x p2) (gEnv X scope L code)) :: (false, eval (.Constant (.int 0) j p3) (gEnv X scope L code)) :: starEach [e3] (gEnv X scope L code) = _
    rw [he3]
  have hs2 : starEach [.Constant (.int 0) j p3, e3] (gEnv X scope L code) = (false, eval (.Constant (.int 0) j p3) (gEnv X scope L code)) :: [(false, eval e3 (gEnv X scope L code))] := by
    show (false, eval (.Constant (.int 0) j p3) (gEnv X scope L code)) :: starEach [e3] (gEnv X scope L code) = _
    rw [he3]
  refine PySem.W.callWith_K (h₀ := X.base) I.ok.mod.kin FN.kp ?_ (by rw [hs, hs2]) (by rw [hs2]; rfl)
  rw [hs]
  refine Calls.spliced_cons (raw_loc hk hx hn hm ?_ hd)
  refine Calls.spliced_cons (wpAny_Constant_int (pos := p3) (k := j) ?_)
  refine Calls.spliced_cons (h3 L code A' E' _ _ hA (F2.keeps fun _ _ e => e) hkp fun t tk => Calls.spliced_nil ?_)
  refine ⟨F2.kin, ?_⟩
  refine wpAny_call (num_raw (x := y) FN (F2.keeps fun _ _ e => e) mI mN mB (by have := hr.dp; omega) ry hy' fun s' hs' => ?_)
  obtain ⟨h', tk', rfl, hk'⟩ := hs'
  exact ⟨rfl, h', tk', rfl, hk'⟩
end
end L2.K10

set_option Elab.async false
set_option linter.all false
set_option maxRecDepth 100000
set_option maxHeartbeats 4000000
namespace L2.K10
open PySem PySem.Spec PyProof.Rows
theorem okT {P : Program} {w : World} {K : PySem.W.Frag} {mg : Str → Option Value} {base : Heap} {x : Str} {i : Nat} {f c : Addr} {fd : FuncData} {CX : CXT} {N ps : List Str} {k : Nat} {sp : Sp} (F : FnP K x i f fd) (hc : fd.code = .ref c) (S : FnScope N ps (defScope (top i))) (len : ∀ vs H Q E, sp vs H Q E → vs.length = ps.length)
    (hbody : ∀ (A : Around) (outer : List Env) (s : Shared) (H : Hp) (vs : List V) (Q : VK) (E : XK), Room k (A.deeper (envOfC x (defScope (top i)) s.heap.objs.size f (.ref c))) → sp vs H Q E →
      ∃ t, PSs (cxOf CX P w K mg base N x (defScope (top i)) f (.ref c) A outer s H E) (defBody (top i)) t ∧ t { nx := fun _ H' => Q .non H', rt := Q } (start N vs) H) : FnOk P w K mg base CX (k + 1) f fd ps sp := by
  obtain ⟨oc, od, dV, kV, doc, pm, an, cdv, ct, osl, rfl, lk, hcd, _, _⟩ := F.ex
  obtain rfl : cdv = .ref c := hc
  exact fn_of lk hcd S len fun A outer s H vs Q E hr hsp => hbody A outer s H vs Q E hr hsp
section
variable {X : Cx}
/-- what the end of the numbers is, told by slots and heap -/
def EndIs (X : Cx) (P : Addr) (scope : Scope) (e3 : Expr) (he : St → Hp → Int → Prop) : Prop :=
  ∀ (pins : List (Addr × Obj)) (σ : St) (H1 : Hp) (s1 : Shared) (ps : Array Value) (hi : Int), Inv X pins σ H1 s1 → H1 P = some (.tbl ps) → he σ H1 hi →
    ∀ (L : Addr) (code : Value) (A' : Around) (E' : Value → Shared → Prop) (s₂ : Shared) (Q : Value → Shared → Prop), A'.handled = none → Fit X.K X.mg s₂.heap → (∀ b o, b ≠ P → s1.heap.get? b = some o → s₂.heap.get? b = some o) → (∀ t tk, Q (.int hi t) { s₂ with toks := tk }) →
      wpAny (model X.prog X.w) A' (eval e3 (gEnv X scope L code)) Q E' s₂
def tAllNum (K : PySem.W.Frag) (P : Addr) (he : St → Hp → Int → Prop) (te : TE) : TE := fun σ H Q => te σ H fun v H1 => ∃ (yl : Addr) (xs : List V) (hi : Int), v = .ref yl ∧ (SqL K H1 yl xs ∨ SqT K H1 yl xs) ∧ GxR.TabG H1 P ∧ (∀ y ∈ xs, Askd y) ∧ he σ H1 hi ∧
  ∀ H2, GxR.Tabbed P H1 H2 → Q (.bl (xs.all fun y => isNum y 0 hi)) H2
theorem all_getD (xs : List V) (f : V → Bool) : (List.range xs.length).all (fun i => f (xs.getD i .non)) = xs.all f := by
  rw [Bool.eq_iff_iff, List.all_eq_true, List.all_eq_true]
  constructor
  · intro h x hx
    obtain ⟨j, hj, e⟩ := List.getElem_of_mem hx
    have q := h j (List.mem_range.mpr hj)
    rw [List.getD_eq_getElem?_getD, List.getElem?_eq_getElem hj, Option.getD_some, e] at q
    exact q
  · intro h j hj
    have hj' := List.mem_range.mp hj
    rw [List.getD_eq_getElem?_getD, List.getElem?_eq_getElem hj', Option.getD_some]
    exact h _ (List.getElem_mem hj')
theorem pe_all_num {c P f : Addr} {fd : FuncData} {e3 iter : Expr} {x : Str} {px p gpos pos p1 p2 p3 p4 : Pos} {scope : Scope} {te : TE} {k j : Nat} {he : St → Hp → Int → Prop} (hr : Room k X.A) (hgl : Gl X "all") (hm : X.mg "all" = none) (TB : GxR.TabB X.base X.mg c P) (hcode : X.env.code = .ref c)
    (S : GxR.GenS X.env scope x) (hi : PE X iter te) (FN : FnP X.K "is_number" 9 f fd) (gN : X.mg "is_number" = some (.ref f)) (mI : X.mg "isinstance" = none) (mN : X.mg "int" = none) (mB : X.mg "bool" = none) (hg : scope.names.lookup ("is_number" : Str) = some .globalImplicit)
    (he3 : ∀ env, starEach [e3] env = [(false, eval e3 env)]) (h3 : EndIs X P scope e3 he) (hs : ∀ v, genFold iter X.env v = pure v) (hd : (x == ("__debug__" : Str)) = false := by decide)
    (hst : starEach [.GeneratorExp (.Call (.Name "is_number" p1) [.Name x p2, .Constant (.int 0) j p3, e3] [] p4) [⟨.Name x px, iter, [], 0⟩] scope gpos] X.env = (false, eval (.GeneratorExp (.Call (.Name "is_number" p1) [.Name x p2, .Constant (.int 0) j p3, e3] [] p4) [⟨.Name x px, iter, [], 0⟩] scope gpos) X.env) :: starEach [] X.env := by rfl) :
    PE X (.Call (.Name "all" p) [.GeneratorExp (.Call (.Name "is_number" p1) [.Name x p2, .Constant (.int 0) j p3, e3] [] p4) [⟨.Name x px, iter, [], 0⟩] scope gpos] [] pos) (tAllNum X.K P he te) := by
  refine ⟨fun pins s σ H Q I h => ?_⟩
  refine wpAny_Call_Name_kw (ld_blt I hgl hm (show _ = some (.builtin "all") by decide +kernel) ?_)
  refine PyProof.Rows.callWith_builtin1 ?_ hst (by rfl)
  rw [hst]
  show wpAny _ _ (spliced ((false, eval (.GeneratorExp (.Call (.Name "is_number" p1) [.Name x p2, .Constant (.int 0) j p3, e3] [] p4) [⟨.Name x px, iter, [], 0⟩] scope gpos) X.env) :: backTo pos (starEach [] X.env))) _ _ s
  refine Calls.spliced_cons (gen_seq (R := fun xs bs H1 => ∃ hi, bs = (fun i => isNum (xs.getD i .non) 0 hi) ∧ ∀ H2, GxR.Tabbed P H1 H2 → Q (.bl (xs.all fun y => isNum y 0 hi)) H2) hr TB hcode S hi hs I h (fun v H1 q => ?_) fun xs bs H1 g s5 hR hG => ?_)
  · obtain ⟨yl, xs, hi, rfl, hyl, hT, ha, hh, q⟩ := q
    refine ⟨yl, xs, _, rfl, hyl, hT, fun s1 I1 => ?_, hi, rfl, q⟩
    obtain ⟨ps, hP, _⟩ := hT
    exact elt_isnum I1 hP hr FN gN mI mN mB S.kind S.loc hg ha he3 (h3 pins σ H1 s1 ps hi I1 hP hh) hd
  · obtain ⟨hi, rfl, q⟩ := hR
    obtain ⟨fp, wr, G, F, St, W, hst2, htr, hI⟩ := hG
    refine Calls.spliced_nil ?_
    refine call_all_walkS (W.self 0 _ _ _ hst2 ⟨g, fp, wr, G, _, F, St, _, rfl, W, hst2, htr, fun s' hmv => ?_⟩)
    obtain ⟨H2, hT, J⟩ := hI s' hmv
    refine ⟨.bl _, H2, J, rfl, ?_⟩
    rw [all_getD xs fun y => isNum y 0 hi]
    exact q H2 hT
end
end L2.K10

set_option Elab.async false
set_option linter.all false
set_option maxRecDepth 100000
set_option maxHeartbeats 4000000
namespace L2.K10
open PySem PySem.Spec PyProof.Rows
section
variable {X : Cx} {P : Addr} {scope : Scope} {y : Str} {i j : Nat} {q1 q2 q3 q4 q5 : Pos}
theorem clo_lookup {c : Addr} (hcl : (cloFrom X.env.cells scope.names []).lookup y = some ((X.env.cells.lookup y).getD 0)) (hc : X.env.cells.lookup y = some c) : (cloFrom X.env.cells scope.names []).lookup y = some c := by rw [hcl, hc]; rfl
theorem raw_free {pins : List (Addr × Obj)} {σ : St} {H1 : Hp} {s1 s₂ : Shared} {ps : Array Value} {v : V} {pos : Pos} {L : Addr} {code : Value} {A' : Around} {E' : Value → Shared → Prop} {Q : Value → Shared → Prop} (I : Inv X pins σ H1 s1) (hP : H1 P = some (.tbl ps)) (k : ∀ b o, b ≠ P → s1.heap.get? b = some o → s₂.heap.get? b = some o)
    (hN : X.N[i]? = some y) (hσ : σ[i]? = some (some v)) (hc : X.env.scope.names.lookup y = some .cell) (hk : scope.kind = .function) (hf : scope.names.lookup y = some .free) (hcl : (cloFrom X.env.cells scope.names []).lookup y = some ((X.env.cells.lookup y).getD 0))
    (h : ∀ u, RelV v u → Q u s₂) (hn : (y == ("__classdict__" : Str)) = false := by decide) (hd : (y == ("__debug__" : Str)) = false := by decide) : wpAny (model X.prog X.w) A' (eval (.Name y pos) (gEnv X scope L code)) Q E' s₂ := by
  obtain ⟨c, u, h1, h2, r⟩ := cell_at I hN hσ hc
  exact wpAny_Name (wpAny_loadName_free hk hf (clo_lookup hcl h1) (cell_keep I hP k h2) (h u r) hn) hd
/-- y - 1, y a number of the def -/
theorem end_sub (hN : X.N[i]? = some y) (hc : X.env.scope.names.lookup y = some .cell) (hk : scope.kind = .function) (hf : scope.names.lookup y = some .free) (hcl : (cloFrom X.env.cells scope.names []).lookup y = some ((X.env.cells.lookup y).getD 0))
    (hn : (y == ("__classdict__" : Str)) = false := by decide) (hd : (y == ("__debug__" : Str)) = false := by decide) :
    EndIs X P scope (.BinOp (.Name y q1) .Sub (.Constant (.int 1) j q2) q3) (fun σ _ hi => ∃ n : Int, σ[i]? = some (some (.int n)) ∧ hi = n - 1) := by
  rintro pins σ H1 s1 ps hi I hP ⟨n, hσ, rfl⟩ L code A' E' s₂ Q hA F2 hkp q
  refine wpAny_BinOp (raw_free I hP hkp hN hσ hc hk hf hcl (fun u r => ?_) hn hd)
  obtain ⟨t, rfl⟩ := r
  exact wpAny_Constant_int (sub_int (q _ _))
/-- len(y) - 1, y a list of the def -/
theorem end_len (hN : X.N[i]? = some y) (hc : X.env.scope.names.lookup y = some .cell) (hk : scope.kind = .function) (hf : scope.names.lookup y = some .free) (hcl : (cloFrom X.env.cells scope.names []).lookup y = some ((X.env.cells.lookup y).getD 0))
    (hg : scope.names.lookup ("len" : Str) = some .globalImplicit) (mL : X.mg "len" = none) (hn : (y == ("__classdict__" : Str)) = false := by decide) (hd : (y == ("__debug__" : Str)) = false := by decide) :
    EndIs X P scope (.BinOp (.Call (.Name "len" q4) [.Name y q1] [] q5) .Sub (.Constant (.int 1) j q2) q3) (fun σ H hi => ∃ (b : Addr) (xs : List V), σ[i]? = some (some (.ref b)) ∧ H b = some (.lst xs) ∧ hi = (xs.length : Int) - 1) := by
  rintro pins σ H1 s1 ps hi I hP ⟨b, xs, hσ, hb, rfl⟩ L code A' E' s₂ Q hA F2 hkp q
  refine wpAny_BinOp (wpAny_Call_Name_kw (raw_blt F2 hk I.ok.glob rfl hg mL boot_len ?_))
  refine PyProof.Rows.callWith_builtin1 ?_ rfl rfl
  refine Calls.spliced_cons (raw_free I hP hkp hN hσ hc hk hf hcl (fun u r => Calls.spliced_nil ?_) hn hd)
  obtain rfl : u = Value.ref b := r
  obtain ⟨its, rv, pl, hz⟩ := I.list (.of hb)
  have hlen := rv.length
  have hPs : s1.heap.get? P = some { cls := .none, data := .fields ps } := I.hok P _ hP
  have hIL : s₂.heap.IsList b its.toArray := by
    obtain ⟨ob, e, r1, n9, hd1⟩ := pl.isList
    refine ⟨ob, hkp _ _ (fun z => ?_) e, r1, n9, hd1⟩
    rw [z, hPs] at e
    cases e
    cases hd1
  have hl := line63
  have hs : sizeLine = 16777216 := sizeLine_eq
  refine Calls.call_len_list hIL (by simp only [List.size_toArray]; omega) ?_
  have e : its.toArray.size = xs.length := by simp only [List.size_toArray]; omega
  rw [e]
  exact wpAny_Constant_int (sub_int (q _ _))
end
end L2.K10

set_option Elab.async false
set_option linter.all false
set_option maxRecDepth 100000
set_option maxHeartbeats 4000000
namespace L2.K10
open PySem PySem.Spec PySem.W PySem.SeqAt PyProof.Rows
/-! ### pairs and words as data -/
def dP (p : Nat × Nat) : PyData := .tuple [.int p.1, .int p.2]
def dW (l : Word) : PyData := .tuple (l.map dP)
def kLt (xs ys : List PyData) : Bool := PyProof.Rows.lexLt itemOrd (keyToksAll xs) (keyToksAll ys)
theorem kLt_nil : kLt [] [] = false := by
  unfold kLt
  rw [keyToksAll]
  rfl
theorem kLt_nc {y : PyData} {ys : List PyData} : kLt [] (y :: ys) = true := by
  unfold kLt
  rw [toks_all_cons, keyToksAll]
  rfl
theorem kLt_cn {y : PyData} {ys : List PyData} : kLt (y :: ys) [] = false := by
  unfold kLt
  rw [toks_all_cons, keyToksAll]
  rfl
theorem eqv_int (a b : Int) : PyData.eqv (.int a) (.int b) = decide (a = b) := by
  rw [Bool.eq_iff_iff]
  simp [PyData.eqv]
theorem kLt_int {a b : Int} {xs ys : List PyData} : kLt (.int a :: xs) (.int b :: ys) = (decide (a < b) || (decide (a = b) && kLt xs ys)) := by
  have h : alike (.int a) (.int b) = true := by rw [alike]
  by_cases e : a = b
  · have q : PyData.eqv (.int a) (.int b) = true := by rw [eqv_int]; exact decide_eq_true e
    unfold kLt
    rw [dataLt_all_yes h q]
    subst e
    simp
  · have q : PyData.eqv (.int a) (.int b) = false := by rw [eqv_int]; exact decide_eq_false e
    unfold kLt
    rw [dataLt_all_no h q, dataLt_int]
    simp [e]
theorem dataLt_P (a b : Nat × Nat) : dataLt (dP a) (dP b) = pLt a b := by
  unfold dP
  rw [dataLt_tuple]
  show kLt _ _ = _
  rw [kLt_int, kLt_int, kLt_nil]
  unfold pLt
  rw [Bool.eq_iff_iff]
  simp
  omega
theorem alike_P (a b : Nat × Nat) : alike (dP a) (dP b) = true := by simp [dP, alike, alikeAll]
theorem eqv_P (a b : Nat × Nat) : PyData.eqv (dP a) (dP b) = decide (a = b) := by
  unfold dP
  rw [Bool.eq_iff_iff]
  simp [PyData.eqv, PyData.eqvAll, Prod.ext_iff]
  omega
theorem kLt_P {a b : Nat × Nat} {xs ys : List PyData} : kLt (dP a :: xs) (dP b :: ys) = (pLt a b || (decide (a = b) && kLt xs ys)) := by
  have h := alike_P a b
  by_cases e : a = b
  · have q : PyData.eqv (dP a) (dP b) = true := by rw [eqv_P]; exact decide_eq_true e
    unfold kLt
    rw [dataLt_all_yes h q]
    subst e
    simp [pLt]
  · have q : PyData.eqv (dP a) (dP b) = false := by rw [eqv_P]; exact decide_eq_false e
    unfold kLt
    rw [dataLt_all_no h q, dataLt_P]
    simp [e]
theorem dataLt_W : ∀ (l m : Word), dataLt (dW l) (dW m) = wLt l m := by
  have key : ∀ (l m : Word), kLt (l.map dP) (m.map dP) = wLt l m := by
    intro l
    induction l with
    | nil => intro m; cases m with
      | nil => exact kLt_nil
      | cons _ _ => exact kLt_nc
    | cons a l ih => intro m; cases m with
      | nil => exact kLt_cn
      | cons b m =>
        rw [List.map_cons, List.map_cons, kLt_P, ih]
        show _ = (pLt a b || (Nat.beq a.1 b.1 && Nat.beq a.2 b.2 && wLt l m))
        rw [Bool.eq_iff_iff]
        simp [Prod.ext_iff, and_assoc]
  intro l m
  unfold dW
  rw [dataLt_tuple]
  exact key l m
theorem alikeAll_W : ∀ (l m : Word), alikeAll (l.map dP) (m.map dP) = true
  | [], _ => by simp [alikeAll]
  | _ :: _, [] => by simp [alikeAll]
  | a :: l, b :: m => by simp [alikeAll, alike_P, alikeAll_W l m]
theorem alike_W (l m : Word) : alike (dW l) (dW m) = true := by
  unfold dW
  rw [alike]
  exact alikeAll_W l m
end L2.K10

set_option Elab.async false
set_option linter.all false
set_option maxRecDepth 100000
set_option maxHeartbeats 4000000
namespace L2.K10
open PySem PySem.Spec PyProof.Rows
section
variable {X : Cx} {pins : List (Addr × Obj)} {σ : St} {H : Hp} {s : Shared}
/-- the element, where the walked pair is told by Pt i -/
def EltT (X : Cx) (P : Addr) (scope : Scope) (xa xb : Str) (elt : Expr) (s1 : Shared) (Pt : Nat → Array Value → Prop) (bs : Nat → Bool) : Prop :=
  ∀ (L : Addr) (code : Value) (A' : Around) (E' : Value → Shared → Prop) (i : Nat) (va vb : Value) (s₂ : Shared) (m₂ : Str → Option Value), A'.handled = none → A'.depth ≤ X.A.depth + 1 → A'.units ≤ X.A.units + 8 → Pt i #[va, vb] →
    s₂.heap.Ns L m₂ → m₂ xa = some va → m₂ xb = some vb → (∀ b o, b ≠ P → s1.heap.get? b = some o → s₂.heap.get? b = some o) →
    wpAny (model X.prog X.w) A' (eval elt (gEnv X scope L code)) (fun y s₃ => y = .bool (bs i) ∧ Keeps s₂ s₃) E' s₂
/-- what wpAny_GeneratorExp_walksQTD asks behind the code -/
def GenPostT (X : Cx) (scope : Scope) (xa xb : Str) (elt : Expr) (it : Value) (Q' : Value → Shared → Prop) (code : Value) (bi : Addr) (s₄ : Shared) : Prop :=
  ∃ I fp wr n₀ Pt St₀ Mid pz F, it = .ref I ∧ (∀ A' : Around, A'.handled = none → WalksU X.prog X.w A' I fp wr n₀ Pt St₀ Mid) ∧ (∀ i vals, Pt i vals → ∃ va vb, vals = #[va, vb]) ∧ St₀ 0 s₄.heap ∧ (∀ b ∈ fp, b < s₄.heap.objs.size) ∧ s₄.heap.NoLimit ∧ cStatics ∉ wr ∧
          (∀ href : Heap, (∀ b o, s₄.heap.get? b = some o → href.get? b = some o) →
            QuietGenTD X.prog X.w (genEnv scope (cloFrom X.env.cells scope.names []) s₄.heap.objs.size code bi X.env) xa xb [] elt (List.range s₄.heap.objs.size) wr Pt pz F href (X.A.depth + 1) (X.A.units + 8)) ∧
          (∀ a h₅ tk gs, gs.bare = true → s₄.heap.objs.size < a → h₅.objs.size = a + 1 → (∀ b o, s₄.heap.get? b = some o → h₅.get? b = some o) →
            WalksS X.prog X.w X.A.in4 a (a :: s₄.heap.objs.size :: List.range s₄.heap.objs.size) (s₄.heap.objs.size :: wr) (GenOnlyQ s₄.gens.size) (passing pz n₀ 0).length
              (fun j y => ∃ i, (passing pz n₀ 0)[j]? = some i ∧ F i y) (GenAt X.prog X.w X.A.in4 a s₄.gens.size s₄.heap.objs.size (List.range s₄.heap.objs.size) wr pz n₀ F) →
            GenAt X.prog X.w X.A.in4 a s₄.gens.size s₄.heap.objs.size (List.range s₄.heap.objs.size) wr pz n₀ F 0 { s₄ with gens := s₄.gens.push gs, toks := tk, heap := h₅ } →
            Q' (.ref a) { s₄ with gens := s₄.gens.push gs, toks := tk, heap := h₅ })
theorem gen_coreT {c P : Addr} {elt : Expr} {xa xb : Str} {gpos : Pos} {scope : Scope} {Q' : Value → Shared → Prop} {H1 : Hp} {s1 : Shared} {ps : Array Value} {hb : Heap} {n : Nat} {Pt : Nat → Array Value → Prop} {St₀ : Nat → Heap → Prop} {Mid : Nat → Addr → Heap → Prop} {It : Addr} {fp wr : List Addr} {bs : Nat → Bool}
    (hh : X.A.handled = none) (TB : GxR.TabB X.base X.mg c P) (hcode : X.env.code = .ref c) (I1 : Inv X pins σ H1 s1) (hP : H1 P = some (.tbl ps)) (ht : TriplesOk ps.toList) (hkb : ∀ b o, s1.heap.get? b = some o → hb.get? b = some o) (hbs : s1.heap.objs.size ≤ hb.objs.size) (hfp : ∀ b ∈ fp, b < hb.objs.size) (hwr : ∀ b ∈ wr, s1.heap.objs.size ≤ b) (hsz : ∀ i vals, Pt i vals → ∃ va vb, vals = #[va, vb])
    (W₀ : ∀ A' : Around, A'.handled = none → WalksU X.prog X.w A' It fp wr n Pt St₀ Mid)
    (hSt : ∀ h3 : Heap, (∀ b u, b ≠ P → hb.get? b = some u → h3.get? b = some u) → St₀ 0 h3) (hel : EltT X P scope xa xb elt s1 Pt bs) (hQ : ∀ g s5, ReadyB X pins σ H1 P n bs g s5 → Q' (.ref g) s5) :
    hb.NoLimit ∧ wpAny (model X.prog X.w) X.A (genexprCode X.env gpos (X.env.qual ++ "<genexpr>") scope) (fun code s₃ => wpAny (model X.prog X.w) X.A (builtinsFor X.env.globals X.env.builtins) (fun bi s₄ =>
        GenPostT X scope xa xb elt (.ref It) Q' code bi s₄) X.xe s₃) X.xe { s1 with heap := hb } := by
  have hPs : s1.heap.get? P = some { cls := .none, data := .fields ps } := I1.hok P _ hP
  have hPlt : P < s1.heap.objs.size := Heap.lt_size hPs
  have hP2 : hb.get? P = some { cls := .none, data := .fields ps } := hkb _ _ hPs
  have cd : PySem.W.CodeHd hb c P := TB.code.keeps fun b u e => hkb _ _ (I1.bk b u e)
  have lim2 : hb.NoLimit := I1.nolimit.keeps hkb
  have cont : ∀ (code : Value) (h3 : Heap) (tk : Nat) (ps' : Array Value), Heap.ExtBut P hb h3 → hb.objs.size ≤ h3.objs.size → h3.get? P = some { cls := .none, data := .fields ps' } → (∃ more, ps' = ps ++ more) → TriplesOk ps'.toList →
      wpAny (model X.prog X.w) X.A (builtinsFor X.env.globals X.env.builtins) (fun bi s₄ => GenPostT X scope xa xb elt (.ref It) Q' code bi s₄) X.xe { s1 with heap := h3, toks := tk } := by
    intro code h3 tk ps' hx hsz3 hP3 hmore ht3
    obtain ⟨bm, ob, e1, e2, e3, e4, e5, e6, e7, e8⟩ := TB.bm
    have hcP : cStatics ≠ P := fun e => by
      obtain ⟨_, hns, _⟩ := I1.nolimit
      obtain ⟨o', es, ep, ho, hd, _⟩ := hns
      rw [e, hPs] at ho
      cases ho
      cases hd
    have hcl : cStatics < s1.heap.objs.size := let ⟨_, hns, _⟩ := I1.nolimit; hns.lt
    have keep3 : ∀ b u, b ≠ P → s1.heap.get? b = some u → h3.get? b = some u := fun b u hb e => hx b u hb (hkb _ _ e)
    refine wpAny_builtinsFor (m := X.mg) (by rw [I1.ok.glob]; exact ((I1.mod.glob.keeps I1.bk).keeps hkb).extBut hx TB.gP) e1 e2 (keep3 _ _ e4 (I1.bk _ _ e5)) e6 e7 e8 ?_
    refine ⟨It, fp, wr, n, Pt, St₀, Mid, (fun _ => true), (fun i y => y = .bool (bs i)), rfl, W₀, hsz, hSt h3 (fun b u hb e => hx b u hb e), (fun b hbm => Nat.lt_of_lt_of_le (hfp b hbm) hsz3), lim2.extBut hx hcP, (fun z => absurd (hwr _ z) (Nat.not_le.mpr hcl)), ?_, ?_⟩
    · intro href hhref
      refine ⟨fun A' E' i va vb s₂ m₂ hA hD hU hPv hn hma hmb hk => ?_, fun A' E' i va vb s₂ m₂ hA hD hU hPv hp hn hma hmb hk => ?_⟩
      · simp only [List.forIn_nil]
        exact wpAny_pure ⟨rfl, GxR.keeps_refl _⟩
      · refine hel _ _ A' E' i va vb s₂ m₂ hA hD hU hPv hn hma hmb fun b u hb e => hk b ?_ ?_ u (hhref b u (keep3 b u hb e))
        · exact List.mem_range.mpr (Nat.lt_of_lt_of_le (Heap.lt_size e) (Nat.le_trans hbs hsz3))
        · exact fun z => absurd (hwr _ z) (Nat.not_le.mpr (Heap.lt_size e))
    · intro g h5 tk5 gs hgb hag hsz5 hk5 W5 hgat
      simp only [GxR.passing_true, List.length_range] at W5
      refine hQ g _ ⟨_, _, _, _, _, W5.in4_1, hgat, ?_, fun s' hm => ?_⟩
      · intro j y sj Qj Ej hy hQj
        obtain ⟨i, hij, rfl⟩ := hy
        obtain ⟨hj, ej⟩ := List.getElem?_eq_some_iff.mp hij
        rw [List.getElem_range] at ej
        subst ej
        exact wpAny_truthy_bool hQj
      · obtain ⟨more, em⟩ := hmore
        have nwr : ∀ b u, s1.heap.get? b = some u → b ∉ h3.objs.size :: wr := fun b u e hb => by
          have hl := Heap.lt_size e
          rcases List.mem_cons.mp hb with z | z
          · rw [z] at hl
            have h9 : (h3.objs.size : Nat) < s1.heap.objs.size := hl
            omega
          · exact absurd (hwr _ z) (Nat.not_le.mpr hl)
        have J := GxR.inv_tab (more := more) (h' := s'.heap) (g' := s'.gens) (d' := s'.drawn) (t' := s'.toks) I1 hP (fun b u hb e => hm.heap b u (nwr b u e) (hk5 b u (keep3 b u hb e)))
          (by rw [← em]; exact hm.heap P _ (nwr P _ hPs) (hk5 P _ hP3)) (AllBare.movedS (I1.bare.push hgb) hm)
        rw [GxR.sh_eta s1 s' hm.os] at J
        refine ⟨upd H1 P (.tbl (ps ++ more)), ⟨⟨ps ++ more, upd_same, by rw [← em]; exact ht3⟩, fun b hb => upd_ne hb⟩, J⟩
  refine ⟨lim2, ?_⟩
  cases hf : codeAmong gpos ps.toList with
  | none =>
    refine wpAny_genexprCodeX hcode (cd.code hP2 ht) (cd.tab hP2) hf fun c' h' tk hx hge hlt hco' _ htab' _ => ?_
    obtain ⟨o1, vs, f1, tf, fl, tg, inF, tx, tt, op, _, _, _, _, _, _, _, _, _, htr, _⟩ := hco'
    exact cont _ h' tk _ hx (Nat.le_trans hge (Nat.le_of_lt hlt)) htab'.2 ⟨_, rfl⟩ htr
  | some cv =>
    refine wpAny_genexprCode_hit hcode (cd.code hP2 ht) hf ?_
    exact cont cv hb s1.toks ps (Heap.ExtBut.refl _ _) (Nat.le_refl _) hP2 ⟨#[], by simp⟩ ht
end
end L2.K10

set_option Elab.async false
set_option linter.all false
set_option maxRecDepth 100000
set_option maxHeartbeats 4000000
namespace L2.K10
open PySem PySem.Spec PyProof.Rows
theorem reads_P {h : Heap} {a : Addr} {p : Nat × Nat} {t1 t2 : Tok} (e : h.IsTuple a #[.int (p.1 : Int) t1, .int (p.2 : Int) t2]) : Reads h (.ref a) (dP p) [] := by
  obtain ⟨o, ho, hc, n, hd⟩ := e
  exact .tuple ho hc hd (.cons (.int _ _) (.cons (.int _ _) .nil))
theorem tup_P {P : Program} {w : World} {H : Hp} {h : Heap} {a : Addr} {p : Nat × Nat} (ok : HOk P w H h) (e : IsP H a p) : ∃ t1 t2, h.IsTuple a #[.int (p.1 : Int) t1, .int (p.2 : Int) t2] := by
  obtain ⟨_, its, rv, o, ho, hc, n, hd⟩ := (show ObjOk P w H h a (.tup [nV p.1, nV p.2]) from ok a _ e)
  obtain ⟨u, y, ei, ru, ry⟩ := vals2 rv
  subst ei
  obtain ⟨t1, rfl⟩ := ru
  obtain ⟨t2, rfl⟩ := ry
  exact ⟨t1, t2, o, ho, hc, n, hd⟩
/-- two names -/
structure GenS2 (env : Env) (scope : Scope) (xa xb : Str) : Prop where
  kind : scope.kind = .function
  co : scope.isCoroutine = false
  cell : ∀ y ∈ scope.names, y.2 ≠ .cell
  dot : scope.names.lookup (".0" : Str) = some NameKind.local
  la : scope.names.lookup xa = some .local
  lb : scope.names.lookup xb = some .local
  ne : xa ≠ xb
  free : ∀ y ∈ scope.names, y.2 = .free → ∃ c, env.cells.lookup y.1 = some c
theorem not_mem2 {x y z : Nat} (h1 : x ≠ y) (h2 : x ≠ z) : (x : Addr) ∉ ([y, z] : List Addr) := fun h => by
  rcases List.mem_cons.mp h with h | h
  · exact h1 h
  · exact h2 (List.mem_singleton.mp h)
theorem sep_new {n a b : Nat} (ha : a < n) (hb : b < n) : ZipSep2 (n + 4) (n + 2) (n + 3) n (n + 1) [n, a] [n + 1, b] where
  TIz := Nat.ne_of_lt (by omega)
  TOz := Nat.ne_of_lt (by omega)
  TITO := Nat.ne_of_lt (by omega)
  TIi1 := Nat.ne_of_gt (by omega)
  mem1 := List.mem_cons_self
  zf1 := not_mem2 (by omega) (by omega)
  Tf1 := not_mem2 (by omega) (by omega)
  TIi2 := Nat.ne_of_gt (by omega)
  mem2 := List.mem_cons_self
  zf2 := not_mem2 (by omega) (by omega)
  Tf2 := not_mem2 (by omega) (by omega)
  sep1_2 := not_mem2 (by omega) (by omega)
  sep2_1 := not_mem2 (by omega) (by omega)
def tAllLt (K : PySem.W.Frag) (P : Addr) (ta : TA) : TE := fun σ H Q => ta σ H fun vs H1 => ∃ (a b : Addr) (as bs : List Addr) (l m : List (Nat × Nat)), vs = [.ref a, .ref b] ∧ SqT K H1 a (as.map V.ref) ∧ SqT K H1 b (bs.map V.ref) ∧ Paired (IsP H1) as l ∧ Paired (IsP H1) bs m ∧ GxR.TabG H1 P ∧
  ∀ H2, GxR.Tabbed P H1 H2 → Q (.bl ((List.range (min l.length m.length)).all fun i => pLt (l.getD i (0, 0)) (m.getD i (0, 0)))) H2
section
variable {X : Cx}
theorem pe_all_lt {c P : Addr} {ea eb : Expr} {xa xb : Str} {pa pb pt pz pz2 p gpos pos p1 p2 p3 : Pos} {kt k : Nat} {scope : Scope} {ta : TA} (hr : Room k X.A) (hgl : Gl X "all") (hm : X.mg "all" = none) (hgz : Gl X "zip") (mz : X.mg "zip" = none) (TB : GxR.TabB X.base X.mg c P) (hcode : X.env.code = .ref c)
    (S : GenS2 X.env scope xa xb) (ha : PA X [ea, eb] ta) (hs : ∀ v, genFold (.Call (.Name "zip" pz) [ea, eb] [] pz2) X.env v = pure v) (hea : starEach [ea, eb] X.env = (false, eval ea X.env) :: starEach [eb] X.env) (heb : (backTo pz2 (starEach [eb] X.env)).any (·.1) = false)
    (da : (xa == ("__debug__" : Str)) = false := by decide) (db : (xb == ("__debug__" : Str)) = false := by decide)
    (hst : starEach [.GeneratorExp (.Compare (.Name xa p1) [.Lt] [.Name xb p2] p3) [⟨.Tuple [.Name xa pa, .Name xb pb] kt pt, .Call (.Name "zip" pz) [ea, eb] [] pz2, [], 0⟩] scope gpos] X.env = (false, eval (.GeneratorExp (.Compare (.Name xa p1) [.Lt] [.Name xb p2] p3) [⟨.Tuple [.Name xa pa, .Name xb pb] kt pt, .Call (.Name "zip" pz) [ea, eb] [] pz2, [], 0⟩] scope gpos) X.env) :: starEach [] X.env := by rfl) :
    PE X (.Call (.Name "all" p) [.GeneratorExp (.Compare (.Name xa p1) [.Lt] [.Name xb p2] p3) [⟨.Tuple [.Name xa pa, .Name xb pb] kt pt, .Call (.Name "zip" pz) [ea, eb] [] pz2, [], 0⟩] scope gpos] [] pos) (tAllLt X.K P ta) := by
  refine ⟨fun pins s σ H Q I h => ?_⟩
  refine wpAny_Call_Name_kw (ld_blt I hgl hm (show _ = some (.builtin "all") by decide +kernel) ?_)
  refine PyProof.Rows.callWith_builtin1 ?_ hst (by rfl)
  rw [hst]
  show wpAny _ _ (spliced ((false, eval (.GeneratorExp (.Compare (.Name xa p1) [.Lt] [.Name xb p2] p3) [⟨.Tuple [.Name xa pa, .Name xb pb] kt pt, .Call (.Name "zip" pz) [ea, eb] [] pz2, [], 0⟩] scope gpos) X.env) :: backTo pos (starEach [] X.env))) _ _ s
  refine Calls.spliced_cons ?_
  refine wpAny_GeneratorExp_walksQTD hr.hd S.co (closure_ok S.free) S.cell S.dot S.la S.lb S.ne S.kind (by have := hr.dp; omega) ?_ hs
  refine wpAny_Call_Name_kw (ld_blt I hgz mz PyProof.Rows.boot_zip ?_)
  refine PyProof.Rows.callWith_type1 (thn (ha.run pz2 pins s σ H _ I h) fun us s1 ⟨vs, H1, I1, r1, q1⟩ => ?_) hea heb
  obtain ⟨a, b, as, bs, l, m, rfl, hqa, hqb, hpa, hpb, ⟨ps, hP, ht⟩, q⟩ := q1
  obtain ⟨u1, u2, rfl, hu1, hu2⟩ := vals2 r1
  obtain rfl : u1 = Value.ref a := hu1
  obtain rfl : u2 = Value.ref b := hu2
  obtain ⟨its, rv, pl1, _⟩ := I1.tuple hqa
  obtain ⟨its2, rv2, pl2, _⟩ := I1.tuple hqb
  have hIa : s1.heap.IsTuple a its.toArray := pl1
  have hIb : s1.heap.IsTuple b its2.toArray := pl2
  have hal : a < s1.heap.objs.size := let ⟨_, e, _⟩ := hIa; Heap.lt_size e
  have hbl : b < s1.heap.objs.size := let ⟨_, e, _⟩ := hIb; Heap.lt_size e
  have hPs : s1.heap.get? P = some { cls := .none, data := .fields ps } := I1.hok P _ hP
  have hPlt : P < s1.heap.objs.size := Heap.lt_size hPs
  have nTP : ∀ {t : Addr} {xs : Array Value}, s1.heap.IsTuple t xs → t ≠ P := fun {t xs} hx z => by
    obtain ⟨o, e, hc, n9, hd⟩ := hx
    rw [z, hPs] at e
    cases e
    cases hd
  have ei := refs_at rv
  have ei2 := refs_at rv2
  have n1 : its.toArray.size = l.length := by rw [List.size_toArray, ei, List.length_map]; exact Paired.length hpa
  have n2 : its2.toArray.size = m.length := by rw [List.size_toArray, ei2, List.length_map]; exact Paired.length hpb
  refine RZ.call_zipT hIa hIb fun h' hz hTI hTO h1 h2 hsz hk => wpAny_pyIter_zip hz ?_
  have SEP : ZipSep2 (s1.heap.objs.size + 4) (s1.heap.objs.size + 2) (s1.heap.objs.size + 3) s1.heap.objs.size (s1.heap.objs.size + 1) [s1.heap.objs.size, a] [s1.heap.objs.size + 1, b] := sep_new hal hbl
  have ge : ∀ x : Nat, s1.heap.objs.size ≤ x → x ≠ P := fun x hx => Nat.ne_of_gt (Nat.lt_of_lt_of_le hPlt hx)
  have hsz5 : h'.objs.size = s1.heap.objs.size + 5 := hsz
  have core := gen_coreT (pins := pins) (σ := σ) (gpos := gpos) (scope := scope) (xa := xa) (xb := xb) (elt := .Compare (.Name xa p1) [.Lt] [.Name xb p2] p3) (n := min its.toArray.size its2.toArray.size) (hb := h') (bs := fun i => pLt (l.getD i (0, 0)) (m.getD i (0, 0)))
    (Q' := fun v s₁ => wpAny (model X.prog X.w) X.A (spliced (backTo pos (starEach [] X.env))) (fun vs s₁ => wpAny (model X.prog X.w) X.A (call (.builtin "all") (v :: vs)) (EP X pins σ Q) X.xe s₁) X.xe s₁) hr.hd TB hcode I1 hP ht hk (by omega) (fun x hx => ?_) (fun x hx => ?_) (fun i vals ⟨x1, x2, _, _, e⟩ => ⟨x1, x2, e⟩)
    (fun A' hA => (WalksT.zipD2 SEP (Draws.tuple (A := A'.in1) hA s1.heap.objs.size a (Nat.ne_of_lt hal) its.toArray) (Draws.tuple (A := A'.in1) hA (s1.heap.objs.size + 1) b (Nat.ne_of_lt (Nat.lt_succ_of_lt hbl)) its2.toArray)).toU) (fun h3 h3k => ?_)
    (fun L code A' E' i va vb s₂ m₂ hA hD hU hPt hn hma hmb hkp => ?_) (fun g s5 hG => ?_)
  · exact core
  · rw [hsz5]
    have hx : x = s1.heap.objs.size + 4 ∨ x = s1.heap.objs.size + 2 ∨ x = s1.heap.objs.size + 3 ∨ x = s1.heap.objs.size ∨ x = a ∨ x = s1.heap.objs.size + 1 ∨ x = b := by simpa using hx
    have e1 : (s1.heap.objs.size : Nat) + 4 < s1.heap.objs.size + 5 := by omega
    have e2 : (s1.heap.objs.size : Nat) + 2 < s1.heap.objs.size + 5 := by omega
    have e3 : (s1.heap.objs.size : Nat) + 3 < s1.heap.objs.size + 5 := by omega
    have e4 : (s1.heap.objs.size : Nat) < s1.heap.objs.size + 5 := by omega
    have e5 : (s1.heap.objs.size : Nat) + 1 < s1.heap.objs.size + 5 := by omega
    rcases hx with z | z | z | z | z | z | z <;> rw [z]
    · exact e1
    · exact e2
    · exact e3
    · exact e4
    · exact Nat.lt_trans hal e4
    · exact e5
    · exact Nat.lt_trans hbl e4
  · have hx : x = s1.heap.objs.size + 4 ∨ x = s1.heap.objs.size + 3 ∨ x = s1.heap.objs.size ∨ x = s1.heap.objs.size + 1 := by simpa using hx
    rcases hx with z | z | z | z <;> rw [z]
    · exact Nat.le_add_right _ _
    · exact Nat.le_add_right _ _
    · exact Nat.le_refl _
    · exact Nat.le_add_right _ _
  · have tk : ∀ {t : Addr} {xs : Array Value}, s1.heap.IsTuple t xs → h3.IsTuple t xs := fun {t xs} hx => by
      have nz := nTP hx
      obtain ⟨o, e, r⟩ := hx
      exact ⟨o, h3k _ _ nz (hk _ _ e), r⟩
    refine ⟨h3k _ _ (ge _ (Nat.le_add_right _ _)) hz, h3k _ _ (ge _ (Nat.le_add_right _ _)) hTI, ⟨_, _, h3k _ _ (ge _ (Nat.le_add_right _ _)) hTO⟩, ⟨?_, tk hIa⟩, ⟨?_, tk hIb⟩⟩
    · obtain ⟨o, e, r⟩ := h1
      exact ⟨o, h3k _ _ (ge _ (Nat.le_refl _)) e, r⟩
    · obtain ⟨o, e, r⟩ := h2
      exact ⟨o, h3k _ _ (ge _ (Nat.le_add_right _ _)) e, r⟩
  · obtain ⟨x1, x2, hx1, hx2, hxe⟩ := hPt
    obtain ⟨rfl, rfl⟩ : va = x1 ∧ vb = x2 := by
      have := congrArg Array.toList hxe
      simp at this
      exact this
    have F2 := fit_of I1 hP hkp
    have tk : ∀ {t : Addr} {xs : Array Value}, s1.heap.IsTuple t xs → s₂.heap.IsTuple t xs := fun {t xs} hx => by
      have nz := nTP hx
      obtain ⟨o, e, r⟩ := hx
      exact ⟨o, hkp _ _ nz e, r⟩
    have get : ∀ (ds : List Addr) (us : List Value) (ls : List (Nat × Nat)) (v : Value), us = ds.map Value.ref → Paired (IsP H1) ds ls → us.toArray[i]? = some v → ∃ d, v = .ref d ∧ IsP H1 d (ls.getD i (0, 0)) := fun ds us ls v e1 e2 e3 => by
      rw [List.getElem?_toArray, e1, List.getElem?_map] at e3
      obtain ⟨d, hd, rfl⟩ := Option.map_eq_some_iff.mp e3
      obtain ⟨t, ht2, ht3⟩ := paired_at e2 hd
      exact ⟨d, rfl, by rw [List.getD_eq_getElem?_getD, ht2]; exact ht3⟩
    obtain ⟨d1, rfl, hd1⟩ := get as its l va ei hpa hx1
    obtain ⟨d2, rfl, hd2⟩ := get bs its2 m vb ei2 hpb hx2
    obtain ⟨t1, t2, g1⟩ := tup_P I1.hok hd1
    obtain ⟨t3, t4, g2⟩ := tup_P I1.hok hd2
    refine wpAny_Compare1 (raw_loc S.kind S.la hn hma (raw_loc S.kind S.lb hn hmb ?_ db) da)
    refine PySem.W.lt_data (reads_P (tk g1)) (reads_P (tk g2)) (alike_P _ _) (fun z => nomatch z) ?_ ?_
    · have e1 : (dP (l.getD i (0, 0))).depth = 1 := rfl
      have := hr.units
      have hle := Nat.min_le_left (dP (l.getD i (0, 0))).depth (dP (m.getD i (0, 0))).depth
      omega
    · rw [dataLt_P]
      exact ⟨rfl, GxR.keeps_refl _⟩
  · refine Calls.spliced_nil ?_
    obtain ⟨fp, wr, G, F, St, W, hst2, htr, hI⟩ := hG
    refine call_all_walkS (W.self 0 _ _ _ hst2 ⟨g, fp, wr, G, _, F, St, _, rfl, W, hst2, htr, fun s' hmv => ?_⟩)
    obtain ⟨H2, hT, J⟩ := hI s' hmv
    refine ⟨.bl _, H2, J, rfl, ?_⟩
    rw [n1, n2]
    exact q H2 hT
end
end L2.K10

set_option Elab.async false
set_option linter.all false
set_option maxRecDepth 100000
set_option maxHeartbeats 4000000
namespace L2.K10
open PySem PySem.Spec PySem.W PyProof.Rows
section
variable {prog : Program} {w : World} {A : Around} {E : Value → Shared → Prop} {s : Shared}
theorem call_min_twoH {a b : Value} {Q : Value → Shared → Prop}
    (h : wpAny (model prog w) A.in1 (pyIter (.ref s.heap.objs.size)) (fun it s₂ => ∃ I fp wr G n P St H bt, it = .ref I ∧ WalksS prog w A.in1 I fp wr G n P St ∧ St 0 s₂ ∧ (∀ b ∈ fp, b < s₂.heap.objs.size) ∧ 0 < n ∧
      (∀ b o, H.get? b = some o → b ∉ wr) ∧ (∀ b o, H.get? b = some o → s₂.heap.get? b = some o) ∧ CmpIn prog w A.in1 .Lt H P bt ∧ ∀ v s', P (argBest bt (n - 1)) v → Moved wr G s₂ s' → Q v s') E
      { s with heap := s.heap.push { cls := .type "tuple", data := .seq #[a, b] } }) :
    wpAny (model prog w) A (call (.builtin "min") [a, b]) Q E s := by
  have hname : (toString "min" ++ toString ".loop" : String) = "min.loop" := by decide
  refine call_function_tree F.kind_min F.plain_min F.entry_min (F.args_min2 _ _) ?_
  show wpAny _ A.in1 (Builtin.Builtins.bindParams "min" ["key", "default"] 0 ⟨[], []⟩ >>= _) _ _ s
  refine wpAny_bind (wpAny_of_eq (show Builtin.Builtins.bindParams "min" ["key", "default"] 0 ⟨[], []⟩ = pure [none, none] from rfl) ?_)
  show wpAny _ A.in1 (newTuple [a, b] >>= _) _ _ s
  refine wpAny_bind (wpAny_newObj_type ?_)
  refine wpAny_bind (wpAny_mono h (fun it s₂ h₂ => ?_) fun _ _ e => e)
  obtain ⟨I, fp, wr, G, n, P, St, H, bt, rfl, W, hst, hfp, hn, hw, hkeep, hcmp, hQ⟩ := h₂
  refine wpAny_bind (wpAny_newObj_type ?_)
  have hSf : s₂.heap.objs.size ∉ fp := fun hm => Nat.lt_irrefl _ (hfp _ hm)
  rw [hname]
  refine wpAny_pure ⟨plainId_quiet F.plain_min_loop _, codeAny_min_loop_firstH W H hw bt hcmp s₂.heap.objs.size hSf (fresh_in hkeep) _ hn (fun b o e => Heap.get?_push_of_some _ (hkeep b o e)) (W.frame 0 s₂ _ s₂.toks hst (Nat.le_refl _) fun b _ o e => Heap.get?_push_of_some _ e) (Heap.get?_push_size _ rfl) fun v s' hP hm => ?_⟩
  exact hQ v s' hP (Moved.drop_new (tk := s₂.toks) hm (Nat.le_refl _))
theorem min_two_data {a b : Value} {x y : PyData} {as bs : List Addr} {Q : Value → Shared → Prop} (hh : A.handled = none) (ra : Reads s.heap a x as) (rb : Reads s.heap b y bs) (ha : AlikeAll [x, y]) (hu : A.units + 1 + PyData.depthAll [x, y] < cLine)
    (h : ∀ h' tk, (∀ b o, s.heap.get? b = some o → h'.get? b = some o) → Q (if dataLt y x = true then b else a) { s with heap := h', toks := tk }) :
    wpAny (model prog w) A (call (.builtin "min") [a, b]) Q E s := by
  have kp : ∀ c o, s.heap.get? c = some o → (s.heap.push { cls := .type "tuple", data := .seq #[a, b] }).get? c = some o := fun c o e => Heap.get?_push_of_some _ e
  have hl : (s.heap.push { cls := .type "tuple", data := .seq #[a, b] }).IsTuple s.heap.objs.size #[a, b] := ⟨_, Heap.get?_push_size _ rfl, rfl, _, rfl⟩
  have hr : ReadsAll (s.heap.push { cls := .type "tuple", data := .seq #[a, b] }) (#[a, b] : Array Value).toList [x, y] (as ++ (bs ++ [])) := .cons (Reads.keeps kp ra) (.cons (Reads.keeps kp rb) .nil)
  refine call_min_twoH (iter_tupleW (A := A.in1) (s := { s with heap := s.heap.push { cls := .type "tuple", data := .seq #[a, b] } }) hh hl fun s₂ e W st hfp hw hk => ?_)
  refine ⟨_, _, _, _, _, _, _, (s.heap.push { cls := .type "tuple", data := .seq #[a, b] }), _, rfl, W, st, hfp, (show 0 < 2 by decide), hw, hk, cmpIn_lt (A := A.in1) (s := { s with heap := s.heap.push { cls := .type "tuple", data := .seq #[a, b] } }) hr ha (by show A.units + 1 + _ < _; exact hu), fun v s' hP m => ?_⟩
  obtain ⟨h', tk, rfl, hk'⟩ := moved_old (s := { s with heap := s.heap.push { cls := .type "tuple", data := .seq #[a, b] } }) e rfl m
  have e1 : v = if dataLt y x = true then b else a := by
    have hP : (#[a, b] : Array Value)[argBest (fun i j => dataLt ([x, y].getD i .none) ([x, y].getD j .none)) 1]? = some v := hP
    have e2 : argBest (fun i j => dataLt ([x, y].getD i .none) ([x, y].getD j .none)) 1 = if dataLt y x = true then 1 else 0 := rfl
    rw [e2] at hP
    split at hP
    · rename_i h1
      rw [if_pos h1]
      exact (Option.some.inj hP).symm
    · rename_i h1
      rw [if_neg h1]
      exact (Option.some.inj hP).symm
  rw [e1]
  exact h h' tk fun c o q => hk' c o (kp c o q)
end
/-! ### words, read off the heap -/
theorem reads_pairs {P : Program} {w : World} {H : Hp} {h : Heap} (ok : HOk P w H h) : ∀ {as : List Addr} {l : Word}, Paired (IsP H) as l → ReadsAll h (as.map Value.ref) (l.map dP) []
  | _, _, .nil => .nil
  | _, _, .cons e t => by
    obtain ⟨t1, t2, g⟩ := tup_P ok e
    exact .cons (as := []) (bs := []) (reads_P g) (reads_pairs ok t)
theorem reads_W {P : Program} {w : World} {H : Hp} {h : Heap} {a : Addr} {l : Word} (ok : HOk P w H h) (e : IsW H a l) : Reads h (.ref a) (dW l) [] := by
  obtain ⟨as, h1, h2⟩ := e
  obtain ⟨_, its, rv, o, ho, hc, n, hd⟩ := (show ObjOk P w H h a (.tup (as.map V.ref)) from ok a _ h1)
  have ei := refs_at rv
  subst ei
  exact .tuple ho hc hd (by simpa using reads_pairs ok h2)
theorem depth_pairs : ∀ l : Word, PyData.depthAll (l.map dP) ≤ 1
  | [] => Nat.zero_le _
  | p :: l => by
    show max (dP p).depth (PyData.depthAll (l.map dP)) ≤ 1
    have h1 : (dP p).depth = 1 := rfl
    have h2 := depth_pairs l
    omega
theorem depth_W (l : Word) : (dW l).depth ≤ 2 := by
  show PyData.depthAll (l.map dP) + 1 ≤ 2
  have := depth_pairs l
  omega
theorem alike2_W (l m : Word) : AlikeAll [dW l, dW m] := by
  refine ⟨fun x hx y hy => ?_, fun x hx => ?_⟩
  · simp at hx hy
    rcases hx with rfl | rfl <;> rcases hy with rfl | rfl <;> exact alike_W _ _
  · simp at hx
    rcases hx with rfl | rfl <;> exact fun z => nomatch z
def rMinW : List V → Hp → VK → Prop := fun xs H Q => ∃ a b l m, xs = [.ref a, .ref b] ∧ IsW H a l ∧ IsW H b m ∧ Q (.ref (if wLt m l = true then b else a)) H
theorem cr_min2W {X : Cx} (hc : X.calm = true) (hu : X.A.units + 64 < cLine) : CallR X (.builtin "min") rMinW := by
  intro pins s σ H xs us Q I r h
  obtain ⟨a, b, l, m, rfl, ha, hb, q⟩ := h
  obtain ⟨u1, u2, rfl, r1, r2⟩ := vals2 r
  obtain rfl : u1 = Value.ref a := r1
  obtain rfl : u2 = Value.ref b := r2
  refine min_two_data (I.ok.hd hc) (reads_W I.hok ha) (reads_W I.hok hb) (alike2_W l m) ?_ fun h' tk k => ?_
  · show X.A.units + 1 + max (dW l).depth (max (dW m).depth 0) < cLine
    have := depth_W l
    have := depth_W m
    omega
  · rw [dataLt_W]
    refine ⟨_, H, I.kept k, ?_, q⟩
    by_cases hw : wLt m l = true
    · rw [if_pos hw, if_pos hw]; rfl
    · rw [if_neg hw, if_neg hw]; rfl
end L2.K10

set_option Elab.async false
set_option linter.all false
set_option maxRecDepth 100000
set_option maxHeartbeats 4000000
namespace L2.K10
open PySem PySem.Spec PySem.W PySem.Calls PyProof.Rows
section
variable {prog : Program} {w : World} {A : Around} {E : Value → Shared → Prop} {s : Shared}
theorem sorted_dict_key {d : Addr} {es : Array DictEntry} {ep : Nat} {f : Value} {kw : List (Str × Value)} {kz : List PyData} {Q : Value → Shared → Prop} (hh : A.handled = none) (lo : (d == sysModules) = false) (dr : s.heap.DictRaw d es ep) (hz : es.size ≤ sizeLine)
    (hlen : kz.length = es.size) (hal : AllAlike kz) (hsk : Sortable kz) (hu : ∀ d, d ∈ kz → A.units + 2 + d.depth < cLine) (ha1 : argsOk "sorted" ⟨[.ref d], kw⟩) (ha2 : ∀ x, argsOk "list.sort" ⟨[.ref x], kw⟩) (ht : ∀ x, Builtin.«list.sort» ⟨[.ref x], kw⟩ = ksk_tree x f false)
    (turn : ∀ (i : Nat) (v : Value) (k : PyData), (es.toList.map (·.key))[i]? = some v → kz[i]? = some k → ∀ (h : Heap) (tk : Nat), (∀ b o, s.heap.get? b = some o → h.get? b = some o) →
      wpAny (model prog w) A.in1.in1 (call f [v]) (KeyPure k { s with heap := h, toks := tk }) (fun _ _ => False) { s with heap := h, toks := tk })
    (h : ∀ (h1 h' : Heap) (tk : Nat) (out : List Value) (c : Nat), (∀ b o, s.heap.get? b = some o → h1.get? b = some o) → (∀ b o, h1.get? b = some o → h'.get? b = some o) → h'.get? h1.objs.size = some (seqObj "list" (List.toArray out) c) → KeyedOut false kz (es.toList.map (·.key)) out → Q (.ref h1.objs.size) { s with heap := h', toks := tk }) :
    wpAny (model prog w) A (call (.builtin "sorted") [.ref d] kw) Q E s := by
  refine call_function_entry_kw kind_sorted plain_sorted entry_sorted ha1 ?_
  unfold Builtin.«sorted»
  refine wpAny_bind (m := checkCount "sorted" 1 1 _) (wpAny_pure ?_)
  refine wpAny_bind (kdu_collect (A := A.in1) (KdlSrc.rawDict lo) hh dr hz fun h1 tk1 acc hk1 hacc => ?_)
  have hvs : acc.toList = es.toList.map (·.key) := by
    refine List.ext_getElem? fun j => ?_
    rw [List.getElem?_map, Array.getElem?_toList, Array.getElem?_toList]
    cases hj : acc[j]? with
    | none =>
      have h1 : ¬ j < acc.size := by
        intro hlt
        rw [Array.getElem?_eq_getElem hlt] at hj
        cases hj
      have h2 : es[j]? = none := Array.getElem?_eq_none (by have := hacc.1; omega)
      rw [h2]
      rfl
    | some v =>
      obtain ⟨hi, e⟩ := hacc.2 j v hj
      rw [e, Array.getElem?_eq_getElem hi]
      rfl
  have hl : acc.toList.length = es.size := by rw [hvs, List.length_map, Array.length_toList]
  refine wpAny_bind (wpAny_newList ?_ (by rw [hl]; exact hz))
  have hoL : (h1.push (seqObj "list" acc.toList.toArray 0)).get? h1.objs.size = some (seqObj "list" acc.toList.toArray 0) := Heap.get?_push_size _ rfl
  show wpAny _ _ _ _ _ { s with heap := h1.push (seqObj "list" acc.toList.toArray 0), toks := tk1 }
  have up1 : ∀ {g : Heap}, KeepsBut h1.objs.size (h1.push (seqObj "list" acc.toList.toArray 0)) g → ∀ b o, h1.get? b = some o → g.get? b = some o := fun {g} kp b o q =>
    kp b o (Nat.ne_of_lt (Heap.lt_size q)) (Heap.get?_push_of_some _ q)
  have up : ∀ {g : Heap}, KeepsBut h1.objs.size (h1.push (seqObj "list" acc.toList.toArray 0)) g → ∀ b o, s.heap.get? b = some o → g.get? b = some o := fun {g} kp b o q =>
    kp b o (Nat.ne_of_lt (Heap.lt_size (hk1 b o q))) (Heap.get?_push_of_some _ (hk1 b o q))
  refine wpAny_bind (wpAny_holding (wpAny_call_entry_kw slot_list_sort ⟨_, hoL, rfl⟩ entry_list_sort ?_ (ha2 _)))
  show wpAny (model prog w) A.in1.in1 (Builtin.«list.sort» ⟨[.ref h1.objs.size], kw⟩) _ _ _
  rw [ht]
  refine wpAny_mono (keyH_tree (kz := kz) (s := { s with heap := h1.push (seqObj "list" acc.toList.toArray 0), toks := tk1 }) (P := fun f s' => f = .done (.ret .none) ∧ Q (.ref h1.objs.size) s') (E := fun _ _ => False) hoL (by rw [hl]; exact hlen) (by rw [hl]; exact hz) hal hsk
    (fun d hd => hu d hd) (fun i v k hv hkz h tk kp => turn i v k (by rw [← hvs]; exact hv) hkz h tk (up kp)) fun h' tk out c kp hD ko => ⟨rfl, h h1 h' tk out c hk1 (up1 kp) hD (by rw [← hvs]; exact ko)⟩) (fun f s' hf => ?_) fun _ _ e => e.elim
  obtain ⟨rfl, hq⟩ := hf
  exact ⟨_, rfl, wpAny_pure ⟨_, rfl, hq⟩⟩
theorem each_zip : ∀ {vs : List Value} {ks : List PyData}, ks.length = vs.length → EachIs (fun v (b : Value × PyData) => v = b.1) vs (vs.zip ks)
  | [], [], _ => .nil
  | v :: vs, k :: ks, h => .cons rfl (each_zip (by simpa using h))
theorem each_fst : ∀ {vs : List Value} {bs : List (Value × PyData)}, EachIs (fun v (b : Value × PyData) => v = b.1) vs bs → vs = bs.map (·.1)
  | _, _, .nil => rfl
  | _, _, .cons h t => by rw [h, each_fst t]; rfl
/-- keys in their order already: nothing moves -/
theorem keyed_id {ks : List PyData} {vs out : List Value} (h : KeyedOut false ks vs out) (hl : ks.length = vs.length) (ha : ks.Pairwise fun a b => dataLt b a = false) : out = vs := by
  have hk : (vs.zip ks).map (·.2) = ks := by
    show (vs.zip ks).map Prod.snd = ks
    rw [List.map_snd_zip]
    omega
  have e := each_zip hl
  have r := keyedOut_each (R := fun v (b : Value × PyData) => v = b.1) (bs := vs.zip ks) (·.2) (by rw [hk]; exact h) e
  have hs : (vs.zip ks).mergeSort (dataLe false (·.2)) = vs.zip ks := by
    apply List.mergeSort_of_pairwise
    rw [← hk] at ha
    refine (List.pairwise_map.mp ha).imp fun {a b} h => ?_
    show (!dataLt b.2 a.2) = true
    rw [h]
    rfl
  rw [hs] at r
  exact (each_fst r).trans (each_fst e).symm
end
end L2.K10

set_option Elab.async false
set_option linter.all false
set_option maxRecDepth 100000
set_option maxHeartbeats 4000000
namespace L2.K10
open PySem PySem.Spec PySem.W PyProof.Rows
abbrev lamP (pA : Pos) : Arguments := { posonlyargs := [], args := [{ arg := "one", annotation := none, pos := pA }], vararg := none, kwonlyargs := [], kw_defaults := [], kwarg := none, defaults := [] }
abbrev lamB (p1 p2 p3 : Pos) : Expr := .Subscript (.Name "found" p1) (.Name "one" p2) p3
abbrev lamSc : Scope := { kind := .function, names := [("one", .local), ("found", .free)], isGenerator := false, isCoroutine := false, more := [] }
section
variable {prog : Program} {w : World} {A : Around} {s : Shared} {K : PySem.W.Frag} {mg : Str → Option Value}
/-- lambda one: found[one], called where nothing is told but the heap -/
theorem lam_get {fl c' cF d b wa a' : Addr} {q : Str} {pm ctv : Value} {pA p1 p2 p3 : Pos} {cl : List (Str × Addr)} {ys : List (Sg × Addr × Value)} {k : Sg} {l : Word} (lim : s.heap.NoLimit) (ho : s.heap.get? fl = some (kla_obj "<lambda>" q (lamP pA) (lamB p1 p2 p3) lamSc cl pm c' ctv)) (hcd : s.heap.CodeRec (.ref c') q)
    (hcl : cl.lookup ("found" : Str) = some cF) (hcF : s.heap.IsCell cF (some (.ref d))) (dd : s.heap.DictOfH (sgKind prog w) d ys) (hk : (sgKind prog w).is s.heap k b) (hget : atKey ys k = some (a', .ref wa)) (hW : Reads s.heap (.ref wa) (dW l) [])
    (hroom : A.depth < recursionLimit) (hu : A.units + 10 < cLine) : wpAny (model prog w) A (call (.ref fl) [.ref b]) (KeyPure (dW l) s) (fun _ _ => False) s := by
  refine wpAny_call (kla_callFunE hroom ho rfl rfl rfl rfl hcd ?_)
  have hbind : bindArgs (kla_fn "<lambda>" q (lamP pA) (lamB p1 p2 p3) lamSc cl pm (.ref c') ctv) ⟨[.ref b], []⟩ = pure [(("one" : Str), Value.ref b)] := by rfl
  rw [hbind]
  refine wpAny_pure (wpAny_newFunctionEnv (show ∀ x ∈ lamSc.names, x.2 ≠ .cell by decide) (show ∀ x ∈ [(("one" : Str), Value.ref b)], lamSc.names.lookup x.1 = some .local by intro x hx; simp at hx; subst hx; rfl) (fun h₁ hns hsb => ⟨?_, ?_⟩) rfl)
  · exact lim.fresh _ hsb
  have hk₁ : ∀ b o, s.heap.get? b = some o → h₁.get? b = some o := fun b o e => hsb.extBut b o (Nat.ne_of_lt (Heap.lt_size e)) (Heap.get?_push_of_some _ e)
  refine kla_codeExpr ?_
  refine subD_of PySem.F.slot_dict_getitem.lookup (fun _ _ => rfl) ?_
  have hcF1 : h₁.IsCell cF (some (.ref d)) := let ⟨o, e, r⟩ := hcF; ⟨o, hk₁ _ _ e, r⟩
  have dd1 : h₁.DictOfH (sgKind prog w) d ys := by
    obtain ⟨o, es, ep, h1, h2, h3, h4, h5, h6⟩ := dd
    exact ⟨o, es, ep, hk₁ _ _ h1, h2, h3, h4, fun x hx => sgk_keep (h5 x hx) fun o e => hk₁ _ _ e, h6⟩
  refine wpAny_Name (wpAny_loadName_free (c := cF) rfl rfl hcl hcF1 ?_) (by decide)
  refine wpAny_Name (wpAny_loadName_local rfl rfl hns (v := .ref b) rfl ?_) (by decide)
  refine ⟨dd1.typeIs, ?_⟩
  refine wpAny_getItem_heap (sg_room ?_) (sgk_keep hk fun o e => hk₁ _ _ e) dd1 hget ?_
  · show (A.deeper _).in1.units < cLine
    simp [Around.in1_units]
    omega
  · exact ⟨_, _, rfl, hk₁, Reads.keeps hk₁ hW⟩
end
end L2.K10

set_option Elab.async false
set_option linter.all false
set_option maxRecDepth 100000
set_option maxHeartbeats 4000000
namespace L2.K10
open PySem PySem.Spec PyProof.Rows
/-! ### dicts keyed by numbers -/
def iK (n : Nat) : Key := Sum.inl (n : Int)
theorem iK_inj {a b : Nat} (h : iK a = iK b) : a = b := by
  have := Sum.inl.inj h
  omega
theorem kV_iK (n : Nat) : kV (iK n) = nV n := rfl
def keysD (F : List Nat) (v : V) : List (Key × V) := F.map fun n => (iK n, v)
theorem valV_keysD {F : List Nat} {v : V} {n : Nat} : (valV (keysD F v) (iK n)).isSome = decide (n ∈ F) := by
  induction F with
  | nil => rfl
  | cons a F ih =>
    by_cases e : a = n
    · subst e
      rw [show keysD (a :: F) v = (iK a, v) :: keysD F v from rfl, valV_pos rfl]
      simp
    · rw [show keysD (a :: F) v = (iK a, v) :: keysD F v from rfl, valV_neg (fun z => e (iK_inj z)), ih]
      have e2 : ¬ n = a := fun z => e z.symm
      simp [e2]
theorem putK_keysD {F : List Nat} {v : V} {n : Nat} (h : n ∉ F) : putK (keysD F v) (iK n) v = keysD (F ++ [n]) v := by
  rw [putK_new]
  · simp [keysD]
  · have z := valV_keysD (F := F) (v := v) (n := n)
    rw [decide_eq_false h] at z
    cases q : valV (keysD F v) (iK n) with
    | none => rfl
    | some x => rw [q] at z; cases z
theorem near_sym {ties : List Tie} {a b : Nat} (h : (a, b) ∈ ties) : b ∈ nearM ties a ∧ a ∈ nearM ties b := by
  unfold nearM nearL nearR
  refine ⟨(isrt_perm _).mem_iff.mpr (List.mem_append.mpr (.inr (List.mem_map.mpr ⟨(a, b), List.mem_filter.mpr ⟨h, by simp⟩, rfl⟩))), (isrt_perm _).mem_iff.mpr (List.mem_append.mpr (.inl (List.mem_map.mpr ⟨(a, b), List.mem_filter.mpr ⟨h, by simp⟩, rfl⟩)))⟩
theorem nodup_le {F : List Nat} {n : Nat} (h : F.Nodup) (hl : ∀ x ∈ F, x < n) : F.length ≤ n := by
  have := List.Nodup.length_le_of_subset h (l₂ := List.range n) fun x hx => List.mem_range.mpr (hl x hx)
  rwa [List.length_range] at this
theorem all_le {F : List Nat} {n : Nat} (hl : ∀ x, x < n → x ∈ F) : n ≤ F.length := by
  have := List.Nodup.length_le_of_subset List.nodup_range (l₁ := List.range n) (l₂ := F) fun x hx => hl x (List.mem_range.mp hx)
  rwa [List.length_range] at this
section
variable {P : Program} {w : World} {K : PySem.W.Frag} {mg : Str → Option Value} {base : Heap}
abbrev nHang : List Str := ["places", "ties", "place", "without", "found", "layer", "later", "one", "other"]
theorem scHang : FnScope nHang ["places", "ties", "place", "without"] (defScope (top 13)) := ⟨rfl, rfl, rfl, by decide +kernel, rfl, by decide +kernel, by decide +kernel⟩
def spHang (K : PySem.W.Frag) (T : Tbs) : Sp := fun vs H Q _ => ∃ (a wo : Addr) (ties : List Tie) (n : Nat), vs = [nV n, .ref a, nV 0, .ref wo] ∧ IsW H a ties ∧ ties.length ≤ 20 ∧ H wo = some (.tup []) ∧ 1 ≤ n ∧ n ≤ 10 ∧ TiesOk n ties ∧ (∀ p, 1 ≤ p → p < n → ∃ t ∈ ties, t.2 = p ∧ t.1 < p) ∧
  ∀ H' r xs, Ex T H H' → H r = none → H' r = some (.lst xs) → xs.length = n → Q (.ref r) H'
theorem ok_hang {T : Tbs} {f fN : Addr} {fd fdN : FuncData} (F : FnP K "hanging" 13 f fd) (FN : FnP K "near" 12 fN fdN) (gN : mg "near" = some (.ref fN)) (mS : mg "sorted" = none) : FnOk P w K mg base CX0 2 f fd ["places", "ties", "place", "without"] (spHang K T) := by
  have GN : FnOk P w K mg base CX0 1 fN fdN ["ties", "place"] (spNear T) := ok_near FN mS
  have bN : Binds K fdN ["ties", "place"] [] := FN.bindsN fun _ _ _ _ _ _ us hl => match us, hl with | [_, _], _ => rfl
  refine F.ok scHang (fun vs H Q E h => ?_) (fun cdv A outer s H vs Q E hr h => ?_)
  · obtain ⟨a, wo, ties, n, rfl, _⟩ := h
    rfl
  · obtain ⟨a, wo, ties, n, rfl, hW, hl, hwo, hn1, hn2, hT, hTr, q⟩ := h
    have hu := hu_of hr
    refine ⟨_, PSs.nox (pss_cons (ps_par (i := 4) (j := 5) rfl scHang.nd rfl rfl (by decide) rfl rfl (pa_cons (pe_disp (pps_cons (pv 2) (pe_bl (b := true)) pps_nil) rfl rfl (by simp) (by decide)) (pa_cons (pe_lst (pa_cons (pv 2) pa_nil)) pa_nil)) (by rfl))
      (pss_cons (ps_while PassesOwn.never (pt_truth (pv 5) (fun _ => rfl))
        (pss_cons (ps_set (i := 6) scHang.nd rfl (.inl rfl) (pe_lst pa_nil))
        (pss_cons (ps_for PassesOwn.never rfl (pi_list (pv 5)) (pg_name (i := 7) scHang.nd rfl (.inl rfl))
          (pss_one (ps_for PassesOwn.never rfl (pi_list (pe_call GN hr (by rfl) gN FN.kp bN .nil pass0 (pa_cons (pv 1) (pa_cons (pv 7) pa_nil)))) (pg_name (i := 8) scHang.nd rfl (.inl rfl))
            (pss_one (ps_if (PW.pt (pw_and (pt_cmpR op_notIn_seq (pv 8) (pv 3) (by rfl)) (pw_and1 (pt_cmp (pc_dnotin hu (pv 8) (pv 4))))))
              (pss_cons (ps_dput hu (pv 4) (pv 8) (pe_bl (b := true)) rfl)
                (pss_one (ps_expr (pe_bm PySem.F.plainAttrs_list PySem.F.slot_list_append PySem.F.type_list_append mt_append (pv 6) (pa_cons (pv 8) pa_nil))))) pss_nil)))))
        (pss_one (ps_set (i := 5) scHang.nd rfl (.inl rfl) (pv 6))))))
      (pss_one (ps_ret (pe_callB (call_sortedDI (by rfl)) (by rfl) mS (by decide +kernel) (pa_cons (pv 4) pa_nil)))))), ?_⟩
    simp only [cxp, cxw, cxk, cxp', cxw', cxk']
    -- {place: True}, [place]
    refine fun fo nfo => ⟨_, rfl, ?_⟩
    refine ⟨upd_same, [(iK 0, .bl true)], rfl, by decide, _, rfl, by show 1 ≤ sizeLine; decide, fun la nla => ⟨_, _, rfl, ?_⟩⟩
    rw [upd_upd] at nla ⊢
    have e0 : Ex T H (upd H fo (.dK (mergeK [] [(iK 0, .bl true)]))) := ex_new nfo
    have nlf : la ≠ fo := (upd_none nla).1
    have e1 := e0.trans (ex_new (o := .lst [nV 0]) nla)
    have hf1 : upd (upd H fo (.dK (mergeK [] [(iK 0, .bl true)]))) la (.lst [nV 0]) fo = some (.dK (keysD [0] (.bl true))) := by
      rw [upd_ne (Ne.symm nlf), upd_same]
      rfl
    have hl1 : upd (upd H fo (.dK (mergeK [] [(iK 0, .bl true)]))) la (.lst [nV 0]) la = some (.lst ([0].map nV)) := upd_same
    generalize upd (upd H fo (.dK (mergeK [] [(iK 0, .bl true)]))) la (.lst [nV 0]) = H1 at e1 hf1 hl1 ⊢
    let PW : St → Hp → List Nat → List Nat → Prop := fun σ H2 F L => ∃ lr z6 z7 z8, σ = [some (nV n), some (.ref a), some (nV 0), some (.ref wo), some (.ref fo), some (.ref lr), z6, z7, z8] ∧ Ex T H H2 ∧ H2 fo = some (.dK (keysD F (.bl true))) ∧ H2 lr = some (.lst (L.map nV)) ∧
      F.Nodup ∧ (∀ x ∈ F, x < n) ∧ (∀ x ∈ L, x ∈ F) ∧ 0 ∈ F ∧ ∀ x ∈ F, x ∉ L → ∀ y ∈ nearM ties x, y ∈ F
    refine ⟨fun m σ H2 => ∃ F L, m = 2 * (n - F.length) + (if L = [] then 0 else 1) ∧ PW σ H2 F L, ⟨_, [0], [0], rfl, la, none, none, none, rfl, e1, hf1, hl1, by simp, by simp; omega, by simp, by simp, fun x hx hx2 => absurd hx hx2⟩, ?_⟩
    rintro m σ H2 ⟨F, L, rfl, lr, z6, z7, z8, rfl, e2, hf2, hl2, hF1, hF2, hL, h0, hcl⟩
    refine ⟨_, rfl, !(L.map nV).isEmpty, .inl ⟨_, .of hl2, rfl⟩, ?_⟩
    cases L with
    | nil =>
      rw [if_neg (by simp)]
      have hall : ∀ x, x < n → x ∈ F := by
        intro x
        induction x using Nat.strongRecOn with
        | ind x ih =>
          intro hx
          by_cases hx0 : x = 0
          · rw [hx0]; exact h0
          · obtain ⟨t, ht, h1, h2⟩ := hTr x (by omega) hx
            have h3 := (near_sym (a := t.1) (b := t.2) ht).1
            rw [h1] at h3
            exact hcl _ (ih t.1 h2 (by omega)) (by simp) _ h3
      have hlen : F.length = n := Nat.le_antisymm (nodup_le hF1 hF2) (all_le hall)
      refine ⟨_, rfl, fo, keysD F (.bl true), F.map fun k : Nat => (k : Int), rfl, .inl hf2, ?_, ?_, fun ys p hperm hs np => ?_⟩
      · simp [keysD, iK, List.map_map, Function.comp_def]
      · rw [List.length_map]; omega
      · refine q _ p _ (e2.trans (ex_new np)) (e2.free _ np) upd_same ?_
        rw [List.length_map, hperm.length_eq, List.length_map, hlen]
    | cons x0 L0 =>
      rw [if_pos (by simp)]
      refine ⟨fun σ' H' => ∃ m', m' < _ ∧ ∃ F L, m' = 2 * (n - F.length) + (if L = [] then 0 else 1) ∧ PW σ' H' F L, fun σ' H' h => h, ?_⟩
      generalize hLL : x0 :: L0 = L at *
      have hLn : L ≠ [] := by rw [← hLL]; simp
      refine ⟨by show 0 ≤ sizeLine; decide, fun ne nne => ?_⟩
      have e3 := e2.trans (ex_new (o := .lst []) nne)
      have t3 := tps_new (o := .lst []) nne
      have hf3 : upd H2 ne (.lst []) fo = some (.dK (keysD F (.bl true))) := by rw [upd_ne (ne_of_none hf2 nne)]; exact hf2
      have hl3 : upd H2 ne (.lst []) lr = some (.lst (L.map nV)) := by rw [upd_ne (ne_of_none hl2 nne)]; exact hl2
      have n30 := e2.free _ nne
      have nlne : lr ≠ ne := ne_of_none hl2 nne
      have hn3 : upd H2 ne (.lst []) ne = some (.lst []) := upd_same
      generalize upd H2 ne (.lst []) = H3 at e3 t3 hf3 hl3 hn3 ⊢
      -- for one in layer
      refine ⟨_, rfl, lr, rfl, ⟨_, .of hl3⟩, for_list (xs := L.map nV) (fun i σ Hc => ∃ z7 z8 La, σ = [some (nV n), some (.ref a), some (nV 0), some (.ref wo), some (.ref fo), some (.ref lr), some (.ref ne), z7, z8] ∧ Ex T H Hc ∧ Hc fo = some (.dK (keysD (F ++ La) (.bl true))) ∧ Hc ne = some (.lst (La.map nV)) ∧ Hc lr = some (.lst (L.map nV)) ∧
          (F ++ La).Nodup ∧ (∀ x ∈ F ++ La, x < n) ∧ ∀ x ∈ L.take i, ∀ y ∈ nearM ties x, y ∈ F ++ La)
        ⟨z7, z8, [], rfl, e3, by rw [List.append_nil]; exact hf3, hn3, hl3, by rw [List.append_nil]; exact hF1, by rw [List.append_nil]; exact hF2, fun x hx => by simp at hx⟩
        (fun i σ Hc _ ⟨_, _, _, _, _, _, _, h, _⟩ => .of h) (fun i x σ Hc hx hP => ?_) (fun σ Hc hP => ?_)⟩
      · obtain ⟨z7, z8, La, rfl, e4, hf4, hn4, hl4, hN, hB, hC⟩ := hP
        rw [List.getElem?_map] at hx
        obtain ⟨x, hxL, rfl⟩ := Option.map_eq_some_iff.mp hx
        refine ⟨_, rfl, _, rfl, a, ties, x, rfl, hW.mono e4.tps, hl, fun H5 p e5 np hp => ?_⟩
        have npne : p ≠ ne := fun z => by rw [z, hn4] at np; cases np
        refine ⟨p, rfl, ⟨_, .of hp⟩, for_list (xs := (nearM ties x).map nV) (fun j σ Hd => ∃ z8 La, σ = [some (nV n), some (.ref a), some (nV 0), some (.ref wo), some (.ref fo), some (.ref lr), some (.ref ne), some (nV x), z8] ∧ Ex T H Hd ∧ Hd fo = some (.dK (keysD (F ++ La) (.bl true))) ∧ Hd ne = some (.lst (La.map nV)) ∧ Hd lr = some (.lst (L.map nV)) ∧
            (F ++ La).Nodup ∧ (∀ x ∈ F ++ La, x < n) ∧ (∀ x ∈ L.take i, ∀ y ∈ nearM ties x, y ∈ F ++ La) ∧ Hd p = some (.lst ((nearM ties x).map nV)) ∧ ∀ y ∈ (nearM ties x).take j, y ∈ F ++ La)
          ⟨z8, La, rfl, e4.trans e5, e5.keep _ _ hf4 own_dK.1, e5.keep _ _ hn4 own_lst.1, e5.keep _ _ hl4 own_lst.1, hN, hB, hC, hp, fun y hy => by simp at hy⟩
          (fun j σ Hd _ ⟨_, _, _, _, _, _, _, _, _, _, h, _⟩ => .of h) (fun j y σ Hd hy hP => ?_) (fun σ Hd hP => ?_)⟩
        · clear e4 hf4 hn4 hl4 hN hB hC hp
          obtain ⟨z8, La, rfl, e6, hf6, hn6, hl6, hN, hB, hC, hp6, hD⟩ := hP
          rw [List.getElem?_map] at hy
          obtain ⟨y, hyL, rfl⟩ := Option.map_eq_some_iff.mp hy
          have hym := List.mem_of_getElem? hyL
          refine ⟨_, rfl, _, rfl, wo, [], rfl, .inr (.of (e6.keep _ _ hwo own_tup.1)), rfl, rfl, _, rfl, ?_⟩
          refine iteT ?_
          refine ⟨_, rfl, _, rfl, fo, _, rfl, DGet.k (k := iK y) hf6, _, rfl, ?_⟩
          have hdec := valV_keysD (F := F ++ La) (v := .bl true) (n := y)
          rw [hdec]
          by_cases hin : y ∈ F ++ La
          · rw [decide_eq_true hin]
            refine ⟨_, La, rfl, e6, hf6, hn6, hl6, hN, hB, hC, hp6, fun y' hy' => ?_⟩
            rw [List.take_add_one, hyL] at hy'
            rcases List.mem_append.mp hy' with h | h
            · exact hD y' h
            · simp at h
              rw [h]
              exact hin
          · rw [decide_eq_false hin]
            have hlen := nodup_le hN hB
            have hyn : y < n := near_lt hT hym
            refine ⟨_, rfl, _, rfl, fo, _, rfl, DPut.k (k := iK y) hf6 (small1000 ?_), ?_⟩
            · rw [keysD, List.length_map]; omega
            have hkv : kV (iK y) = nV y := rfl
            rw [putK_keysD hin]
            have nef : ne ≠ fo := fun z => by rw [z, hf6] at hn6; cases hn6
            have nlf2 : lr ≠ fo := fun z => by rw [z, hf6] at hl6; cases hl6
            have npf : p ≠ fo := fun z => by rw [z, hf6] at hp6; cases hp6
            have nne6 : H ne = none := n30
            have e7 := e6.write (o := .dK (keysD (F ++ La ++ [y]) (.bl true))) nfo hf6 own_dK
            have hn7 : upd Hd fo (.dK (keysD (F ++ La ++ [y]) (.bl true))) ne = some (.lst (La.map nV)) := by rw [upd_ne nef]; exact hn6
            refine ⟨_, rfl, .inl ⟨rfl, _, .of hn7⟩, _, rfl, ne, _, _, rfl, rfl, hn7, small64 ?_, ?_⟩
            · rw [List.length_map]
              rw [List.length_append] at hlen
              omega
            refine ⟨_, La ++ [y], rfl, e7.write nne6 hn7 own_lst, ?_, ?_, ?_, ?_, ?_, ?_, ?_, ?_⟩
            · rw [upd_ne (Ne.symm nef), upd_same, List.append_assoc]
            · rw [upd_same, List.map_append]
              rfl
            · rw [upd_ne nlne, upd_ne nlf2]
              exact hl6
            · rw [← List.append_assoc]
              refine List.nodup_append.mpr ⟨hN, by simp, fun a ha b hb => ?_⟩
              simp at hb
              subst hb
              exact fun z => hin (z ▸ ha)
            · intro x' hx'
              rw [← List.append_assoc] at hx'
              rcases List.mem_append.mp hx' with h | h
              · exact hB x' h
              · simp at h
                rw [h]
                exact hyn
            · intro x' hx' y' hy'
              rw [← List.append_assoc]
              exact List.mem_append.mpr (.inl (hC x' hx' y' hy'))
            · rw [upd_ne npne, upd_ne npf]
              exact hp6
            · intro y' hy'
              rw [← List.append_assoc]
              rw [List.take_add_one, hyL] at hy'
              rcases List.mem_append.mp hy' with h | h
              · exact List.mem_append.mpr (.inl (hD y' h))
              · simp at h
                rw [h]
                exact List.mem_append.mpr (.inr (List.mem_singleton.mpr rfl))
        · obtain ⟨z8, La, rfl, e6, hf6, hn6, hl6, hN, hB, hC, hp6, hD⟩ := hP
          refine ⟨_, _, La, rfl, e6, hf6, hn6, hl6, hN, hB, fun x' hx' => ?_⟩
          rw [List.take_add_one, hxL] at hx'
          rcases List.mem_append.mp hx' with h | h
          · exact hC x' h
          · simp at h
            subst h
            rw [List.length_map, List.take_length] at hD
            exact hD
      · obtain ⟨z7, z8, La, rfl, e4, hf4, hn4, hl4, hN, hB, hC⟩ := hP
        rw [List.length_map, List.take_length] at hC
        refine ⟨_, rfl, _, ?_, F ++ La, La, rfl, ne, _, _, _, rfl, e4, hf4, hn4, hN, hB, fun x hx => List.mem_append.mpr (.inr hx), List.mem_append.mpr (.inl h0), fun x hx hx2 => ?_⟩
        · have h1 := nodup_le hN hB
          rw [List.length_append] at h1 ⊢
          rw [if_neg hLn]
          split
          · omega
          · rename_i hLa
            have : La.length ≠ 0 := fun z => hLa (List.eq_nil_of_length_eq_zero z)
            omega
        · rcases List.mem_append.mp hx with h | h
          · by_cases hxL : x ∈ L
            · exact hC x hxL
            · exact fun y hy => List.mem_append.mpr (.inl (hcl x h hxL y hy))
          · exact absurd h hx2
end
end L2.K10

set_option Elab.async false
set_option linter.all false
set_option maxRecDepth 100000
set_option maxHeartbeats 4000000
namespace L2.K10
open PySem PySem.Spec PyProof.Rows
theorem free_ok (sc scope : Scope) (L : Addr) (h : (scope.names.all fun y => decide (y.2 ≠ .free) || decide (sc.names.lookup y.1 = some .cell)) = true) : ∀ y ∈ scope.names, y.2 = .free → ∃ c, (cellsFrom (L + 1) sc.names []).lookup y.1 = some c := by
  intro y hy e
  have := List.all_eq_true.mp h y hy
  rw [Bool.or_eq_true] at this
  rcases this with q | q
  · exact absurd e (of_decide_eq_true q)
  · exact Option.isSome_iff_exists.mp (PySem.W.cellsFrom_some _ _ _ (.inl (of_decide_eq_true q)))
theorem paired_drop {α β : Type} {F : α → β → Prop} : ∀ {l : List α} {m : List β}, Paired F l m → ∀ n, Paired F (l.drop n) (m.drop n)
  | _, _, h, 0 => h
  | _, _, .nil, n + 1 => .nil
  | _, _, .cons _ t, n + 1 => paired_drop t n
/-- a table has grown -/
theorem ex_tab {T : Tbs} {H H' : Hp} {P : Addr} (ne : P ≠ T.w) (t : GxR.Tabbed P H H') (hP : GxR.TabG H P) : Ex T H H' := by
  obtain ⟨tg, k⟩ := t
  obtain ⟨ps, hps, _⟩ := hP
  have kn : ∀ b o, H b = some o → NT o → H' b = some o := fun b o hb n => by
    rw [k b (fun z => by
      rw [z, hps] at hb
      exact n ps (Option.some.inj hb).symm)]
    exact hb
  refine ⟨kn, fun h => ?_, fun b hb => ?_⟩
  · have g : ∀ {q}, GxR.TabG H q → GxR.TabG H' q := fun {q} z => by
      by_cases e : q = P
      · rw [e]; exact tg
      · obtain ⟨qs, h1, h2⟩ := z
        exact ⟨qs, by rw [k q e]; exact h1, h2⟩
    refine ⟨g h.a, g h.n, g h.c, ?_⟩
    obtain ⟨qs, h1, h2, h3⟩ := h.w
    refine ⟨qs, by rw [k _ (Ne.symm ne)]; exact h1, h2, fun pos cv hc => ?_⟩
    obtain ⟨c, c1, c2⟩ := h3 pos cv hc
    exact ⟨c, c1, kn _ _ c2 codeO_nt⟩
  · by_cases e : b = P
    · rw [e] at hb
      obtain ⟨qs, h1, _⟩ := tg
      rw [h1] at hb
      cases hb
    · rw [← k b e]; exact hb
section
variable {P : Program} {w : World} {K : PySem.W.Frag} {mg : Str → Option Value} {base : Heap}
abbrev nTies : List Str := ["places", "value", "tie"]
theorem scTies : FnScope nTies ["places", "value"] (defScope (top 10)) := ⟨rfl, rfl, rfl, by decide +kernel, rfl, by decide +kernel, by decide +kernel⟩
def spTies (T : Tbs) : Sp := fun vs H Q _ => ∃ (a : Addr) (ties : List Tie) (n : Nat), vs = [nV n, .ref a] ∧ IsW H a ties ∧ ties.length ≤ 20 ∧ 1 ≤ ties.length ∧ (∀ t ∈ ties, t.1 < t.2 ∧ t.2 < n) ∧ (∀ i, i + 1 < ties.length → pLt (ties.getD i (0, 0)) (ties.getD (i + 1) (0, 0)) = true) ∧ Tb T H ∧
  ∀ H', Ex T H H' → Q (.bl true) H'
theorem ok_ties {T : Tbs} {c : Addr} {f fN : Addr} {fd fdN : FuncData} (F : FnP K "are_ties" 10 f fd) (hc : fd.code = .ref c) (TB : GxR.TabB base mg c T.a) (FN : FnP K "is_number" 9 fN fdN) (gN : mg "is_number" = some (.ref fN)) (mI : mg "isinstance" = none) (mN : mg "int" = none) (mB : mg "bool" = none)
    (mT : mg "tuple" = none) (mL : mg "len" = none) (mA : mg "all" = none) (mZ : mg "zip" = none) : FnOk P w K mg base CX0 3 f fd ["places", "value"] (spTies T) := by
  refine okT F hc scTies (fun vs H Q E h => ?_) (fun A outer s H vs Q E hr h => ?_)
  · obtain ⟨a, ties, n, rfl, _⟩ := h
    rfl
  · obtain ⟨a, ties, n, rfl, hW, hl, hl1, hb, hasc, hTb, q⟩ := h
    refine ⟨_, PSs.nox (pss_cons (ps_if (pt_not (pt_val (pe_callB call_isi (by rfl) mI (by decide +kernel) (pa_cons (pv 1) (pa_cons (pe_bltn (v := .ty "tuple") (by rfl) mT (show _ = some (.type "tuple") by decide +kernel) rfl) pa_nil))))) (pss_one (ps_ret pe_bl)) pss_nil)
      (pss_cons (ps_for PassesOwn.never rfl (pi_tup (pv 1)) (pg_name (i := 2) scTies.nd rfl (.inl rfl))
        (pss_cons (ps_if (PW.pt (pw_or (pt_not (pt_val (pe_callB call_isi (by rfl) mI (by decide +kernel) (pa_cons (pv 2) (pa_cons (pe_bltn (v := .ty "tuple") (by rfl) mT (show _ = some (.type "tuple") by decide +kernel) rfl) pa_nil)))))
          (pw_or (pt_cmpR op_ne (pe_callB call_len (by rfl) mL boot_len (pa_cons (pv 2) pa_nil)) pe_int (nomark _))
            (pw_or1 (pt_not (pt_val (pe_all_num (he := fun σ _ hi => ∃ n : Int, σ[0]? = some (some (.int n)) ∧ hi = n - 1) hr (by rfl) mA TB rfl ⟨rfl, rfl, by decide +kernel, rfl, rfl, free_ok _ _ _ (by decide +kernel)⟩ (pv 2) FN gN mI mN mB rfl (fun _ => rfl) (end_sub (i := 0) rfl rfl rfl rfl (by rfl)) (by intro _; rfl))))))))
          (pss_one (ps_ret pe_bl)) pss_nil)
        (pss_one (ps_if (pt_cmp (pc_ge (pe_ix ix_tup (pv 2) pe_int (fun _ _ => rfl)) (pe_ix ix_tup (pv 2) pe_int (fun _ _ => rfl)))) (pss_one (ps_ret pe_bl)) pss_nil))))
      (pss_one (ps_ret (pe_all_lt hr (by rfl) mA (by rfl) mZ TB rfl ⟨rfl, rfl, by decide +kernel, rfl, rfl, rfl, by decide, free_ok _ _ _ (by decide +kernel)⟩ (pa_cons (pv 1) (pa_cons (pe_slice sl_tup (pv 1) (po_some pe_int) po_none) pa_nil)) (by intro _; rfl) rfl rfl))))), ?_⟩
    simp only [cxp, cxw, cxk, cxp', cxw', cxk']
    obtain ⟨as, hA, has⟩ := id hW
    refine ⟨_, rfl, _, .ty "tuple", _, _, true, rfl, .ty "tuple", .base (.tup hA), kit_ty (by decide +kernel), _, rfl, ?_⟩
    refine ⟨_, rfl, a, rfl, ⟨_, .of hA⟩, for_tup (xs := as.map V.ref) (fun i σ Hc => ∃ z2, σ = [some (nV n), some (.ref a), z2] ∧ Ex T H Hc) ⟨none, rfl, .refl⟩ (fun i σ Hc _ ⟨_, _, e⟩ => .of (e.keep _ _ hA own_tup.1)) (fun i x σ Hc hx hP => ?_) (fun σ Hc hP => ?_)⟩
    · obtain ⟨z2, rfl, e1⟩ := hP
      obtain ⟨b, t, rfl, ht, hbt⟩ := ips_at has hx
      have hb1 := hbt.mono e1.tps
      have hm := hb t (List.mem_of_getElem? ht)
      refine ⟨_, rfl, _, .ty "tuple", _, _, true, rfl, .ty "tuple", .base (.tup hb1), kit_ty (by decide +kernel), _, rfl, ?_⟩
      refine ⟨_, rfl, .ref b, 2, rfl, .inr ⟨_, .of hb1, rfl⟩, rfl, _, rfl, ?_⟩
      refine ⟨_, rfl, b, [nV t.1, nV t.2], (n : Int) - 1, rfl, .inr (.of hb1), (e1.tab hTb).a, fun y hy => ?_, ⟨n, rfl, rfl⟩, fun H2 hT2 => ⟨_, rfl, ?_⟩⟩
      · simp at hy
        rcases hy with rfl | rfl <;> exact .int _
      have hall : ([nV t.1, nV t.2].all fun y => isNum y 0 ((n : Int) - 1)) = true := by
        have h1 : isNum (nV t.1) 0 ((n : Int) - 1) = (decide ((0 : Int) ≤ (t.1 : Int)) && decide ((t.1 : Int) ≤ (n : Int) - 1)) := rfl
        have h2 : isNum (nV t.2) 0 ((n : Int) - 1) = (decide ((0 : Int) ≤ (t.2 : Int)) && decide ((t.2 : Int) ≤ (n : Int) - 1)) := rfl
        simp only [List.all_cons, List.all_nil, h1, h2]
        simp
        omega
      rw [hall]
      have e2 := e1.trans (ex_tab T.ne.1.symm hT2 (e1.tab hTb).a)
      have hb2 := hbt.mono e2.tps
      refine ⟨_, rfl, b, _, _, _, rfl, rfl, .of hb2, atI_nat (j := 0) rfl, _, rfl, b, _, _, _, rfl, rfl, .of hb2, atI_nat (j := 1) rfl, _, _, rfl, rfl, _, rfl, ?_⟩
      have hge : ¬ (((t.1 : Nat) : Int) ≥ ((t.2 : Nat) : Int)) := by omega
      exact ite2 (fun h => absurd (of_decide_eq_true h) hge) (fun _ => ⟨_, rfl, e2⟩)
    · obtain ⟨z2, rfl, e1⟩ := hP
      have hA1 := e1.keep _ _ hA own_tup.1
      have hlen : (as.map V.ref).length = ties.length := by rw [List.length_map]; exact Paired.length has
      refine ⟨_, rfl, _, rfl, 1, rfl, a, _, rfl, .of hA1, ?_, fun p np => ?_⟩
      · rintro ⟨h1, _⟩
        have h1 : HT.sIx (as.map V.ref).length 0 (some ((1 : Nat) : Int)) = 0 := h1
        rw [HT.sIx_nat, hlen] at h1
        omega
      have hcut : cutV (as.map V.ref) (some 1) none = (as.drop 1).map V.ref := by
        unfold cutV
        have h1 : HT.sIx (as.map V.ref).length 0 (some ((1 : Nat) : Int)) = 1 := by rw [HT.sIx_nat, hlen]; omega
        have h2 : HT.sIx (as.map V.ref).length (as.map V.ref).length none = (as.map V.ref).length := rfl
        have h1 : HT.sIx (as.map V.ref).length 0 (some 1) = 1 := h1
        rw [h1, h2, List.map_drop]
        exact List.take_of_length_le (by rw [List.length_drop]; exact Nat.le_refl _)
      rw [hcut]
      have e2 := e1.trans (ex_new (o := .tup ((as.drop 1).map V.ref)) np)
      have t12 := tps_new (o := .tup ((as.drop 1).map V.ref)) np
      have has1 := IsPs.mono e1.tps has
      refine ⟨a, p, as, as.drop 1, ties, ties.drop 1, rfl, .of (t12 _ _ hA1), .of upd_same, IsPs.mono t12 has1, paired_drop (IsPs.mono t12 has1) 1, (e2.tab hTb).a, fun H2 hT2 => ?_⟩
      have hall : ((List.range (min ties.length (ties.drop 1).length)).all fun i => pLt (ties.getD i (0, 0)) ((ties.drop 1).getD i (0, 0))) = true := by
        rw [List.all_eq_true]
        intro i hi
        have hi := List.mem_range.mp hi
        rw [List.length_drop] at hi
        have e3 : (ties.drop 1).getD i (0, 0) = ties.getD (i + 1) (0, 0) := by
          rw [List.getD_eq_getElem?_getD, List.getD_eq_getElem?_getD, List.getElem?_drop, Nat.add_comm]
        rw [e3]
        exact hasc i (by omega)
      rw [hall]
      exact q _ (e2.trans (ex_tab T.ne.1.symm hT2 (e2.tab hTb).a))
end
end L2.K10

set_option Elab.async false
set_option linter.all false
set_option maxRecDepth 100000
set_option maxHeartbeats 4000000
namespace L2.K10
open PySem PySem.Spec PyProof.Rows
section
variable {X : Cx} {pins : List (Addr × Obj)} {σ : St} {H : Hp} {s : Shared}
/-- the lambda of words_from is made -/
theorem lam_make3 {T : Tbs} {c : Addr} {params : Arguments} {body : Expr} {scope : Scope} {pos : Pos} {E : Value → Shared → Prop} {Q : Value → Shared → Prop} (I : Inv X pins σ H s) (TB : LamX.TabB X.base X.mg c T.w) (hcode : X.env.code = .ref c)
    (hq : X.env.qual ++ "<lambda>" = lamQ) (hT : Tb T H) (hdef : defaultsOf params X.env = ([], [])) (hfree : ∀ y ∈ scope.names, y.2 = .free → ∃ c, X.env.cells.lookup y.1 = some c)
    (h : ∀ (f c' : Addr) (pm ctv : Value) (H1 : Hp) (s' : Shared), Inv X pins σ H1 s' → Ex T H H1 → s'.heap.get? f = some (PySem.W.kla_obj "<lambda>" lamQ params body scope (cloFrom X.env.cells scope.names []) pm c' ctv) → H1 c' = some (LamX.CodeO c' lamQ) → Q (.ref f) s') :
    wpAny (model X.prog X.w) X.A (eval (.Lambda params body scope pos) X.env) Q E s := by
  obtain ⟨ps, hP, ht, ha⟩ := hT.w
  refine PySem.W.kla_eval hdef ?_
  rw [hq]
  have bP : s.heap.BuiltinsAt X.mg T.w := TB.bm.keeps I.bk
  have hP' : s.heap.get? T.w = some { cls := .none, data := .fields ps } := I.hok T.w _ hP
  cases hc : codeAmong pos ps.toList with
  | none =>
    refine PySem.W.kla_makeFunction (mg := X.mg) (c := c) (P := T.w) (ps := ps) (closure_ok hfree) I.ok.glob (I.mod.glob.keeps I.bk) hcode (TB.code.keeps I.bk) hP' ht hc TB.gP bP fun c' ctv h' tk hx hge hlt hrec htb => ?_
    obtain ⟨c2, oc, vs, t, e2, hoc, hd, hv⟩ := hrec
    cases e2
    have nC : H c' = none := I.hok.fresh hge
    have I1 := LamX.inv_table (t' := tk) (more := #[rawInt pos.line, rawInt pos.col, .ref c']) (h' := h'.push (PySem.W.kla_obj "<lambda>" lamQ params body scope (cloFrom X.env.cells scope.names []) ((X.mg "__name__").getD .none) c' ctv)) I hP
      (fun b o hb e => Heap.get?_push_of_some _ (hx b o hb e)) (Heap.get?_push_of_some _ htb) hge ⟨oc, vs, t, Heap.get?_push_of_some _ hoc, hd, hv⟩
    have nwc : T.w ≠ c' := ne_of_none hP nC
    have eL : (ps ++ #[rawInt pos.line, rawInt pos.col, .ref c']).toList = ps.toList ++ [rawInt pos.line, rawInt pos.col, .ref c'] := by simp
    have kn : ∀ b o, H b = some o → NT o → upd (upd H T.w (.tbl (ps ++ #[rawInt pos.line, rawInt pos.col, .ref c']))) c' (LamX.CodeO c' lamQ) b = some o := fun b o e n => by
      rw [upd_ne (ne_of_none e nC), upd_ne (fun z => n ps (Option.some.inj (e.symm.trans (by rw [z]; exact hP))))]
      exact e
    have ot : ∀ b, b ≠ T.w → GxR.TabG H b → GxR.TabG (upd (upd H T.w (.tbl (ps ++ #[rawInt pos.line, rawInt pos.col, .ref c']))) c' (LamX.CodeO c' lamQ)) b := fun b hb ⟨qs, h1, h2⟩ =>
      ⟨qs, by rw [upd_ne (ne_of_none h1 nC), upd_ne hb]; exact h1, h2⟩
    refine h h'.objs.size c' ((X.mg "__name__").getD .none) ctv _ _ I1 ⟨kn, fun tb => ⟨ot _ T.ne.1.symm tb.a, ot _ T.ne.2.1.symm tb.n, ot _ T.ne.2.2.symm tb.c, ?_⟩, fun b hb => (upd_none (upd_none hb).2).2⟩ (Heap.get?_push_size _ rfl) upd_same
    refine ⟨_, by rw [upd_ne nwc, upd_same], by rw [eL]; exact PySem.TriplesOk_snoc _ _ _ _ ht, fun p' cv hcv => ?_⟩
    rw [eL] at hcv
    rcases LamX.among_app _ ht hcv with z | z
    · obtain ⟨c0, e1, e2⟩ := ha p' cv z
      exact ⟨c0, e1, kn _ _ e2 codeO_nt⟩
    · exact ⟨c', z, upd_same⟩
  | some cv =>
    obtain ⟨c', e, hco⟩ := ha pos cv hc
    subst e
    refine PySem.W.kla_makeFunctionHit (mg := X.mg) (c := c) (P := T.w) (ps := ps) (closure_ok hfree) I.ok.glob (I.mod.glob.keeps I.bk) hcode (TB.code.keeps I.bk) hP' ht hc bP fun ctv h' tk hx hsz => ?_
    have I1 : Inv X pins σ H { s with heap := h'.push (PySem.W.kla_obj "<lambda>" lamQ params body scope (cloFrom X.env.cells scope.names []) ((X.mg "__name__").getD .none) c' ctv), toks := tk } := I.kept fun b o e => Heap.get?_push_of_some _ (hx b o e)
    exact h h'.objs.size c' ((X.mg "__name__").getD .none) ctv H _ I1 .refl (Heap.get?_push_size _ rfl) hco
end
end L2.K10

set_option Elab.async false
set_option linter.all false
set_option maxRecDepth 100000
set_option maxHeartbeats 4000000
namespace L2.K10
open PySem PySem.Spec PySem.W PyProof.Rows
def tSortLam (P : Program) (w : World) (T : Tbs) (i : Nat) (ta : TA) : TE := fun σ H Q => ta σ H fun vs H1 => ∃ (e dF : Addr) (xs xF : Ents) (ls : List Word), vs = [.ref e] ∧ SDx P w H1 e xs ∧ σ[i]? = some (some (.ref dF)) ∧ SDx P w H1 dF xF ∧ Tb T H1 ∧ ls.length = xs.length ∧
  (∀ (j : Nat) (z : Sg × Addr × V) (l : Word), xs[j]? = some z → ls[j]? = some l → ∃ wa, xget xF z.1 = some (.ref wa) ∧ IsW H1 wa l) ∧ (ls.Pairwise fun a b => wLt b a = false) ∧ (∀ l ∈ ls, l ≠ []) ∧ ∀ H2 r, Ex T H1 H2 → H2 r = none → Q (.ref r) (upd H2 r (.lst (xs.map fun z => V.ref z.2.1)))
theorem SDx.mono {P : Program} {w : World} {T : Tbs} {H H' : Hp} {d : Addr} {xs : Ents} (e : Ex T H H') (h : SDx P w H d xs) : SDx P w H' d xs := by
  obtain ⟨ep, h1, h2⟩ := h
  exact ⟨ep, e.keep _ _ h1 own_sd.1, fun z hz => (h2 z hz).mono e.tps⟩
theorem vals_refs3 : ∀ (xs : Ents), Vals (xs.map fun z => V.ref z.2.1) (xs.map fun z => Value.ref z.2.1)
  | [] => .nil
  | _ :: xs => .cons rfl (vals_refs3 xs)
section
variable {X : Cx}
theorem pe_sortLam {T : Tbs} {c : Addr} {e : Expr} {ta : TA} {i k : Nat} {p pA p1 p2 p3 pl kp pos : Pos} (hr : Room k X.A) (hg : Gl X "sorted") (hm : X.mg "sorted" = none) (he : PA X [e] ta) (TB : LamX.TabB X.base X.mg c T.w) (hcode : X.env.code = .ref c) (hq : X.env.qual ++ "<lambda>" = lamQ)
    (hN : X.N[i]? = some ("found" : Str)) (hcell : X.env.scope.names.lookup ("found" : Str) = some .cell) (hfree : ∀ y ∈ lamSc.names, y.2 = .free → ∃ c, X.env.cells.lookup y.1 = some c)
    (hst : starEach [e] X.env = (false, eval e X.env) :: starEach [] X.env) (hdef : defaultsOf (lamP pA) X.env = ([], [])) :
    PE X (.Call (.Name "sorted" p) [e] [⟨some "key", .Lambda (lamP pA) (lamB p1 p2 p3) lamSc pl, kp⟩] pos) (tSortLam X.prog X.w T i ta) := by
  refine ⟨fun pins s σ H Q I h => ?_⟩
  refine wpAny_Call_Name_kw (ld_blt I hg hm (show _ = some (.builtin "sorted") by decide +kernel) ?_)
  refine PyProof.Rows.callWith_kw ?_ (by rw [hst]; rfl) (by rw [hst]; rfl) rfl rfl
  refine thn (he.run pos pins s σ H _ I h) fun us s1 ⟨vs, H1, I1, r1, q1⟩ => ?_
  obtain ⟨d, dF, xs, xF, ls, rfl, hd, hσ, hF, hT, hlen, hwd, hasc, hne, q⟩ := q1
  obtain ⟨u, rfl, ru⟩ := vals1 r1
  obtain rfl : u = Value.ref d := ru
  show wpAny _ _ (evalAll ((do let v ← eval (.Lambda (lamP pA) (lamB p1 p2 p3) lamSc pl) X.env; standAt pos; pure v) :: [])) _ _ s1
  refine wpAny_evalAll_cons (wpAny_bind (lam_make3 I1 TB hcode hq hT hdef hfree fun f c' pm ctv H2 s2 I2 e2 hf hc' => wpAny_bind (wpAny_standAt (wpAny_pure (wpAny_evalAll_nil ?_)))))
  show wpAny _ _ (call (.builtin "sorted") [.ref d] [(("key" : Str), Value.ref f)]) _ _ s2
  obtain ⟨epd, hd1, hdk⟩ := hd.mono e2
  have hF2 := hF.mono e2
  obtain ⟨_, _, yF, relF, ddF⟩ := hF2.of I2.hok
  obtain ⟨lo, es, dr, hsz, ent⟩ := sd_ents I2.hok hd1
  obtain ⟨zl, _⟩ := sd_raw I2.hok hd1
  obtain ⟨cF, uF, hcl, hcF, rF⟩ := cell_at I2 hN hσ hcell
  obtain rfl : uF = Value.ref dF := rF
  obtain ⟨⟨oc, vc, tc, g1, g2, g3⟩, _⟩ := (show ObjOk X.prog X.w H2 s2.heap c' (LamX.CodeO c' lamQ) from I2.hok c' _ hc')
  have hks : (es.toList.map (·.key)) = xs.map fun z => Value.ref z.2.1 := by
    refine List.ext_getElem? fun j => ?_
    rw [List.getElem?_map, List.getElem?_map, Array.getElem?_toList]
    cases hj : xs[j]? with
    | none =>
      have h2 : es[j]? = none := Array.getElem?_eq_none (by rw [hsz]; exact List.getElem?_eq_none_iff.mp hj)
      rw [h2]
      rfl
    | some z =>
      obtain ⟨hi, e1, _⟩ := ent j z hj
      rw [Array.getElem?_eq_getElem hi]
      show some es[j].key = _
      rw [e1]
      rfl
  have hu64 := hr.units
  refine sorted_dict_key (kz := ls.map dW) hr.hd lo dr (by rw [hsz]; exact zl) (by rw [List.length_map, hsz]; exact hlen) (fun a ha b hb => ?_) (.inl fun a ha => ?_) (fun a ha => ?_) (PyProof.Rows.ksk_s1 _ _) (fun _ => PyProof.Rows.ksk_l1 _ _) (fun _ => PyProof.Rows.ksk_t1 _ _)
    (fun j v kd hv hkd h tk hk => ?_) (fun h1 h' tk out cc k1 k2 hD ko => ?_)
  · obtain ⟨la, _, rfl⟩ := List.mem_map.mp ha
    obtain ⟨lb, _, rfl⟩ := List.mem_map.mp hb
    exact alike_W la lb
  · obtain ⟨la, hla, rfl⟩ := List.mem_map.mp ha
    cases la with
    | nil => exact absurd rfl (hne _ hla)
    | cons x r => exact ⟨dP x, r.map dP, rfl⟩
  · obtain ⟨la, _, rfl⟩ := List.mem_map.mp ha
    have := depth_W la
    omega
  · rw [hks, List.getElem?_map] at hv
    obtain ⟨z, hz, rfl⟩ := Option.map_eq_some_iff.mp hv
    rw [List.getElem?_map] at hkd
    obtain ⟨l, hl, rfl⟩ := Option.map_eq_some_iff.mp hkd
    obtain ⟨wa, hget, hW⟩ := hwd j z l hz hl
    have hW2 := hW.mono e2.tps
    have hzk := hdk z (List.mem_of_getElem? hz)
    have hrel := relF.get z.1
    rw [hget] at hrel
    obtain ⟨w', hw, rw'⟩ := RelO.some_of (v := .ref wa) (o := (atKey yF z.1).map (·.2)) hrel
    obtain ⟨pr, hp, hp2⟩ := Option.map_eq_some_iff.mp hw
    obtain rfl : w' = Value.ref wa := rw'
    have dd1 : h.DictOfH (sgKind X.prog X.w) dF yF := by
      obtain ⟨o, es, ep, a1, a2, a3, a4, a5, a6⟩ := ddF
      exact ⟨o, es, ep, hk _ _ a1, a2, a3, a4, fun x hx => sgk_keep (a5 x hx) fun o e => hk _ _ e, a6⟩
    refine lam_get (s := { s2 with heap := h, toks := tk }) (I2.nolimit.keeps hk) (hk _ _ hf) ⟨c', oc, vc, tc, rfl, hk _ _ g1, g2, g3⟩ (clo_lookup (scope := lamSc) (by rfl) hcl) (let ⟨o, e, r⟩ := hcF; ⟨o, hk _ _ e, r⟩) dd1 (sgk_keep (sg_is I2.hok hzk) fun o e => hk _ _ e) (a' := pr.1) (by rw [hp]; rw [← hp2]) (Reads.keeps hk (reads_W I2.hok hW2)) ?_ ?_
    · have := hr.dp
      show X.A.depth < recursionLimit
      omega
    · simp [Around.in1_units]
      omega
  · have hout : out = xs.map fun z => Value.ref z.2.1 := by
      rw [← hks]
      refine keyed_id ko (by rw [hks, List.length_map, List.length_map]; exact hlen) ?_
      refine List.pairwise_map.mpr (hasc.imp fun {a b} h => ?_)
      rw [dataLt_W]
      exact h
    subst hout
    have I3 : Inv X pins σ H2 { s2 with heap := h1 } := I2.kept (t' := s2.toks) k1
    have ob : ObjOk X.prog X.w (upd H2 h1.objs.size (.lst (xs.map fun z => V.ref z.2.1))) h' h1.objs.size (.lst (xs.map fun z => V.ref z.2.1)) :=
      ⟨by rw [List.length_map]; exact zl, (xs.map fun z => Value.ref z.2.1), cc, vals_refs3 xs, hD⟩
    have nD : H2 h1.objs.size = none := I3.hok.fresh (Nat.le_refl _)
    exact ⟨.ref h1.objs.size, _, I3.laid (t' := tk) k2 (Nat.le_refl _) ob, rfl, q H2 _ e2 nD⟩
end
end L2.K10

set_option Elab.async false
set_option linter.all false
set_option maxRecDepth 100000
set_option maxHeartbeats 4000000
namespace L2.K10
open PySem PySem.Spec PyProof.Rows
theorem xget_mem {xs : Ents} (hn : (xs.map (·.1)).Nodup) {x : Sg × Addr × V} (hx : x ∈ xs) : xget xs x.1 = some x.2.2 := by
  induction xs with
  | nil => cases hx
  | cons y r ih =>
    rw [List.map_cons, List.nodup_cons] at hn
    rcases List.mem_cons.mp hx with rfl | hx
    · exact xget_pos rfl
    · rw [xget_neg (fun z => hn.1 (by rw [z]; exact List.mem_map.mpr ⟨x, hx, rfl⟩))]
      exact ih hn.2 hx
theorem xput_same {xs : Ents} {k : Sg} {a : Addr} {v : V} (hn : (xs.map (·.1)).Nodup) (h : xget xs k = some v) : xput xs k a v = xs := by
  unfold xput
  rw [h, if_pos (show (some v).isSome = true from rfl)]
  have : ∀ x ∈ xs, (if x.1 = k then (x.1, x.2.1, v) else x) = x := by
    intro x hx
    by_cases e : x.1 = k
    · rw [if_pos e]
      have h2 : xget xs k = some x.2.2 := by
        clear h
        induction xs with
        | nil => cases hx
        | cons y r ih =>
          rw [List.map_cons, List.nodup_cons] at hn
          rcases List.mem_cons.mp hx with rfl | hx
          · exact xget_pos e
          · rw [xget_neg (fun z => hn.1 (by rw [z, ← e]; exact List.mem_map.mpr ⟨x, hx, rfl⟩))]
            exact ih hn.2 hx
      rw [h] at h2
      cases h2
      rfl
    · rw [if_neg e]
  exact (List.map_congr_left this).trans (List.map_id xs)
theorem er_fst2 {β : Type} {R : Hp → V → β → Prop} {H : Hp} : ∀ {xs : Ents} {F : List (Sg × β)}, Paired (ER R H) xs F → xs.map (·.1) = F.map (·.1)
  | _, _, .nil => rfl
  | _ :: _, _ :: _, .cons ⟨h1, _, _⟩ t => by rw [List.map_cons, List.map_cons, h1, er_fst2 t]
theorem er_addrs {β : Type} {R : Hp → V → β → Prop} {H : Hp} : ∀ {xs : Ents} {F : List (Sg × β)}, Paired (ER R H) xs F → Paired (IsSg H) (xs.map (·.2.1)) (F.map (·.1))
  | _, _, .nil => .nil
  | x :: _, f :: _, .cons ⟨h1, h2, _⟩ t => .cons (by have h3 : IsSg H x.2.1 x.1 := h2; rw [h1] at h3; exact h3) (er_addrs t)
theorem xget_app {xs ys : Ents} {k : Sg} (h : xget xs k = none) : xget (xs ++ ys) k = xget ys k := by
  unfold xget at h ⊢
  rw [List.find?_append]
  rw [Option.map_eq_none_iff] at h
  rw [h]
  rfl
theorem xget_none_of {β : Type} {R : Hp → V → β → Prop} {H : Hp} {xs : Ents} {F : List (Sg × β)} (h : Paired (ER R H) xs F) {k : Sg} (e : aget F k = none) : xget xs k = none := by
  have z := er_isSome h k
  rw [e] at z
  cases q : xget xs k with
  | none => rfl
  | some v => rw [q] at z; cases z
theorem DW.mono {P : Program} {w : World} {T : Tbs} {H H' : Hp} (e : Ex T H H') {d : Addr} {F : List (Sg × Word)} (h : DW P w H d F) : DW P w H' d F := DD.mono h (fun o ho => by
  obtain ⟨xs, ep, h1, _⟩ := h
  rw [h1] at ho
  exact e.keep _ _ (by rw [h1]; exact ho) (Option.some.inj ho ▸ own_sd.1)) e.tps (RW.mono e.tps)
/-- another object is written: no tuple of ours -/
theorem DW.other {P : Program} {w : World} {H : Hp} {d p : Addr} {u o : HO} {F : List (Sg × Word)} (n : d ≠ p) (hp : H p = some u) (hu : ∀ xs, u ≠ .tup xs) (h : DW P w H d F) : DW P w (upd H p o) d F := by
  obtain ⟨xs, ep, h1, h2⟩ := h
  exact ⟨xs, ep, by rw [upd_ne n]; exact h1, er_mono (tps_write hp hu) (RW.mono (tps_write hp hu)) h2⟩
section
variable {P : Program} {w : World} {K : PySem.W.Frag} {mg : Str → Option Value} {base : Heap}
abbrev nWords : List Str := ["yard", "standing", "layer", "later", "one", "slide", "other", "way", "found"]
theorem scWords : FnScope nWords ["yard", "standing"] (defScope (top 19)) := ⟨rfl, rfl, rfl, by decide +kernel, rfl, by decide +kernel, by decide +kernel⟩
def spWords (P : Program) (w : World) (T : Tbs) : Sp := fun vs H Q _ => ∃ (y a : Addr) (Y : Yd) (s : Sg) (n : Nat) (R : List (Sg × Word)), vs = [.ref y, .ref a] ∧ IsY H y Y ∧ IsSg H a s ∧ TiesOk s.length Y.ties ∧ Y.ties.length ≤ 20 ∧ s.length ≤ 20 ∧ pRun Y.ties n [(s, [])] [s] = some R ∧
  R.length ≤ 500 ∧ (∀ f ∈ R, f.1.length = s.length ∧ f.2.length ≤ 500) ∧ Tb T H ∧ ∀ H' r, Ex T H H' → H r = none → DW P w H' r R → Q (.ref r) H'
theorem ok_words {T : Tbs} {c : Addr} {f fS fM fN : Addr} {fd fdS fdM fdN : FuncData} (F : FnP K "words_from" 19 f fd) (hc : fd.code = .ref c) (TB : LamX.TabB base mg c T.w) (FS : FnP K "slides_of" 18 fS fdS) (FM : FnP K "slid" 17 fM fdM) (FN : FnP K "near" 12 fN fdN) (gS : mg "slides_of" = some (.ref fS)) (gM : mg "slid" = some (.ref fM)) (gN : mg "near" = some (.ref fN))
    (mS : mg "sorted" = none) (mE : mg "enumerate" = none) (mL : mg "list" = none) (mT : mg "tuple" = none) (mM : mg "min" = none) : FnOk P w K mg base CX0 3 f fd ["yard", "standing"] (spWords P w T) := by
  have GS : FnOk P w K mg base CX0 2 fS fdS ["yard", "standing"] (spSlides T) := ok_slides FS FN gN mS mE
  have GM : FnOk P w K mg base CX0 1 fM fdM ["standing", "slide"] (spSlid T) := ok_slid FM mL mT
  have bS : Binds K fdS ["yard", "standing"] [] := FS.bindsN fun _ _ _ _ _ _ us hl => match us, hl with | [_, _], _ => rfl
  have bM : Binds K fdM ["standing", "slide"] [] := FM.bindsN fun _ _ _ _ _ _ us hl => match us, hl with | [_, _], _ => rfl
  refine okT F hc scWords (fun vs H Q E h => ?_) (fun A outer s H vs Q E hr h => ?_)
  · obtain ⟨y, a, Y, s, n, R, rfl, _⟩ := h
    rfl
  · obtain ⟨y, a, Y, st, n, R, rfl, hY, hS, hT, hl1, hl2, hrun, hRl, hRw, hTb, q⟩ := h
    have hu := hu_of hr
    refine ⟨_, PSs.nox (pss_cons (ps_asg (pe_tup (pa_cons (pe_nd1 hu (pv 1) (pe_tup pa_nil)) (pa_cons (pe_lst (pa_cons (pv 1) pa_nil)) pa_nil))) (pg_tup (by rfl) (pgs_cons (pg_name (i := 8) scWords.nd rfl (.inr rfl)) (pgs_cons (pg_name (i := 2) scWords.nd rfl (.inl rfl)) pgs_nil))))
      (pss_cons (ps_while PassesOwn.never (pt_truth (pv 2) (fun _ => rfl))
        (pss_cons (ps_set (i := 3) scWords.nd rfl (.inl rfl) pe_nnew)
        (pss_cons (ps_for PassesOwn.never rfl (pi_list (pv 2)) (pg_name (i := 4) scWords.nd rfl (.inl rfl))
          (pss_one (ps_for PassesOwn.never rfl (pi_list (pe_call GS hr (by rfl) gS FS.kp bS .nil pass0 (pa_cons (pv 0) (pa_cons (pv 4) pa_nil)))) (pg_name (i := 5) scWords.nd rfl (.inl rfl))
            (pss_cons (ps_set (i := 6) scWords.nd rfl (.inl rfl) (pe_call GM (hr.mono (by decide)) (by rfl) gM FM.kp bM .nil pass0 (pa_cons (pv 4) (pa_cons (pv 5) pa_nil))))
              (pss_one (ps_if (pt_cmp (pc_nnotin hu (pv 6) (pv 8)))
                (pss_cons (ps_set (i := 7) scWords.nd rfl (.inl rfl) (pe_op op_catA (pe_nget hu (pv 8) (pv 4) (fun _ _ => rfl)) (pe_tup (pa_cons (pv 5) pa_nil))))
                  (pss_one (ps_nput hu (pv 3) (pv 6) (pe_callB (cr_min2W (by rfl) hr.units) (by rfl) mM (by decide +kernel) (pa_cons (pv 7) (pa_cons (pe_nget2 hu (pv 3) (pv 6) (pv 7) ⟨rfl, rfl, rfl, rfl⟩) pa_nil))) rfl))) pss_nil))))))
        (pss_cons (ps_expr (pe_nupd hu (pv 8) (pv 3) ⟨rfl, rfl, rfl, rfl⟩))
        (pss_one (ps_set (i := 2) scWords.nd rfl (.inl rfl) (pe_sortLam (i := 8) hr (by rfl) mS (pa_cons (pv 3) pa_nil) TB rfl (by rfl) rfl rfl (free_ok _ _ _ (by decide +kernel)) rfl rfl)))))))
      (pss_one (ps_ret (pv 8))))), ?_⟩
    simp only [cxp, cxw, cxk, cxp', cxw', cxk']
    -- {standing: ()}, [standing]
    refine fun d nd => ⟨_, rfl, Nat.zero_le _, fun e ne => ⟨a, st, rfl, ?_, ?_, fun ep => ?_⟩⟩
    · exact (hS.mono (tps_new nd)).mono (tps_new ne)
    · rw [upd_ne (ne_of_none upd_same ne), upd_same]
    have nde : e ≠ d := (upd_none ne).1
    have u2 : upd (upd H d (sdO P w d [] 0)) e (.tup []) d = some (sdO P w d [] 0) := by rw [upd_ne (Ne.symm nde), upd_same]
    have e2 : Ex T H (upd (upd H d (sdO P w d [] 0)) e (.tup [])) := (ex_new nd).trans (ex_new ne)
    have e3 : Ex T H (upd (upd (upd H d (sdO P w d [] 0)) e (.tup [])) d (sdO P w d [(st, a, .ref e)] ep)) := e2.write nd u2 own_sd
    have t3 := tps_write (o := sdO P w d [(st, a, .ref e)] ep) u2 (fun _ z => nomatch z)
    have he3 : IsW (upd (upd (upd H d (sdO P w d [] 0)) e (.tup [])) d (sdO P w d [(st, a, .ref e)] ep)) e [] := IsW.mono t3 ⟨[], upd_same, .nil⟩
    have hd3 : upd (upd (upd H d (sdO P w d [] 0)) e (.tup [])) d (sdO P w d [(st, a, .ref e)] ep) d = some (sdO P w d [(st, a, .ref e)] ep) := upd_same
    generalize upd (upd (upd H d (sdO P w d [] 0)) e (.tup [])) d (sdO P w d [(st, a, .ref e)] ep) = H3 at e3 he3 hd3 ⊢
    refine ⟨_, rfl, by show 1 ≤ sizeLine; decide, fun la nla => ?_⟩
    have e4 := e3.trans (ex_new (o := .lst [V.ref a]) nla)
    have t4 := tps_new (o := .lst [V.ref a]) nla
    have hl4 : upd H3 la (.lst [V.ref a]) la = some (.lst ([a].map V.ref)) := upd_same
    have hd4 : upd H3 la (.lst [V.ref a]) d = some (sdO P w d [(st, a, .ref e)] ep) := by rw [upd_ne (ne_of_none hd3 nla)]; exact hd3
    have he4 := he3.mono t4
    generalize upd H3 la (.lst [V.ref a]) = H4 at e4 hl4 hd4 he4 ⊢
    refine ⟨by show 2 ≤ sizeLine; decide, fun t nt => ?_⟩
    have e5 := e4.trans (ex_new (o := .tup [V.ref d, V.ref la]) nt)
    have t5 := tps_new (o := .tup [V.ref d, V.ref la]) nt
    have hl5 : upd H4 t (.tup [V.ref d, V.ref la]) la = some (.lst ([a].map V.ref)) := by rw [upd_ne (ne_of_none hl4 nt)]; exact hl4
    have hd5 : upd H4 t (.tup [V.ref d, V.ref la]) d = some (sdO P w d [(st, a, .ref e)] ep) := by rw [upd_ne (ne_of_none hd4 nt)]; exact hd4
    have he5 := he4.mono t5
    refine ⟨t, _, rfl, .of upd_same, rfl, _, _, rfl, _, _, rfl, rfl, ?_⟩
    generalize upd H4 t (.tup [V.ref d, V.ref la]) = H5 at e5 hl5 hd5 he5 ⊢
    have hD5 : DW P w H5 d [(st, [])] := ⟨_, ep, hd5, .cons ⟨rfl, IsSg.mono e5.tps hS, e, rfl, he5⟩ .nil⟩
    -- the layers
    let PW : Nat → St → Hp → Prop := fun m σ Hc => ∃ (F : List (Sg × Word)) (layer : List Sg) (lr : Addr) (ls : List Addr) (z3 z4 z5 z6 z7 : Option V), σ = [some (.ref y), some (.ref a), some (.ref lr), z3, z4, z5, z6, z7, some (.ref d)] ∧ Ex T H Hc ∧ DW P w Hc d F ∧ Hc lr = some (.lst (ls.map V.ref)) ∧
      Paired (IsSg Hc) ls layer ∧ pRun Y.ties m F layer = some R ∧ F ≠ [] ∧ ∀ x ∈ layer, x.length = st.length
    refine ⟨PW, ⟨n, [(st, [])], [st], la, [a], none, none, none, none, none, rfl, e5, hD5, hl5, .cons (IsSg.mono e5.tps hS) .nil, hrun, by simp, by simp⟩, ?_⟩
    rintro m σ Hc ⟨F, layer, lr, ls, z3, z4, z5, z6, z7, rfl, e6, hD6, hl6, hls, hr6, hF0, hlay⟩
    refine ⟨_, rfl, !(ls.map V.ref).isEmpty, .inl ⟨_, .of hl6, rfl⟩, ?_⟩
    have hlsl := Paired.length hls
    by_cases hempty : layer = []
    · subst hempty
      obtain rfl : ls = [] := List.eq_nil_of_length_eq_zero hlsl
      refine iteF ⟨_, rfl, q _ d e6 nd ?_⟩
      rw [pRun_nil hr6]
      exact hD6
    · have hne : (!(ls.map V.ref).isEmpty) = true := by
        cases ls with
        | nil => exact absurd (List.eq_nil_of_length_eq_zero hlsl.symm) hempty
        | cons _ _ => rfl
      rw [hne]
      obtain ⟨m', L, rfl, hL, hasc, hr7⟩ := pRun_cons hempty hr6
      obtain ⟨G, hG⟩ := pRun_grows hr7
      have LI : LInv F L := LInv.ones _ (.nil F) hL
      have hFR : ∀ f ∈ F, f ∈ R := fun f hf => by rw [hG]; exact List.mem_append_left _ (List.mem_append_left _ hf)
      have hLR : ∀ f ∈ L, f ∈ R := fun f hf => by rw [hG]; exact List.mem_append_left _ (List.mem_append_right _ hf)
      have hlen : F.length + L.length ≤ 500 := by
        rw [hG, List.length_append, List.length_append] at hRl
        omega
      refine iteT ⟨fun σ' H' => ∃ m2, m2 < m' + 1 ∧ PW m2 σ' H', fun σ' H' h => h, ?_⟩
      refine fun ld nld => ?_
      have ld0 := e6.free _ nld
      have e7 := e6.trans (ex_new (o := sdO P w ld [] 0) nld)
      have ex7 := ex_new (T := T) (o := sdO P w ld [] 0) nld
      have hD7 : DW P w (upd Hc ld (sdO P w ld [] 0)) d F := DD.mono hD6 (fun o ho => by
        obtain ⟨xs, ep, h1, _⟩ := hD6
        rw [h1] at ho
        exact ex7.keep _ _ (by rw [h1]; exact ho) (Option.some.inj ho ▸ own_sd.1)) ex7.tps (RW.mono ex7.tps)
      have hl7 := ex7.keep _ _ hl6 own_lst.1
      have hls7 := IsSgs.mono ex7.tps hls
      have hL7 : DW P w (upd Hc ld (sdO P w ld [] 0)) ld [] := ⟨[], 0, upd_same, .nil⟩
      have nlrd : lr ≠ ld := ne_of_none hl6 nld
      have ndd : d ≠ ld := by
        obtain ⟨xs, ep, h1, _⟩ := hD6
        exact ne_of_none h1 nld
      generalize upd Hc ld (sdO P w ld [] 0) = H7 at e7 hD7 hl7 hls7 hL7 ⊢
      -- for one in layer
      refine ⟨_, rfl, lr, rfl, ⟨_, .of hl7⟩, for_list (xs := ls.map V.ref) (fun i σ Hx => ∃ z4 z5 z6 z7 Li, σ = [some (.ref y), some (.ref a), some (.ref lr), some (.ref ld), z4, z5, z6, z7, some (.ref d)] ∧ Ex T H Hx ∧ (layer.take i).foldl (pOne Y.ties F) (some []) = some Li ∧
          DW P w Hx d F ∧ DW P w Hx ld Li ∧ Hx lr = some (.lst (ls.map V.ref)) ∧ Paired (IsSg Hx) ls layer)
        ⟨z4, z5, z6, z7, [], rfl, e7, rfl, hD7, hL7, hl7, hls7⟩ (fun i σ Hx _ ⟨_, _, _, _, _, _, _, _, _, _, h, _⟩ => .of h) (fun i x σ Hx hx hP => ?_) (fun σ Hx hP => ?_)⟩
      · clear e7 hD7 hl7 hls7 hL7 hD6 hl6 hls
        obtain ⟨z4, z5, z6, z7, Li, rfl, e8, hLi, hD8, hL8, hl8, hls8⟩ := hP
        obtain ⟨b, one, rfl, hone, hb⟩ := sgs_at hls8 hx
        have hom := List.mem_of_getElem? hone
        have hkl := hlay one hom
        obtain ⟨Li', hLi', hrest⟩ := fold_pre (pOnes_none Y.ties F) hL i
        obtain rfl : Li' = Li := Option.some.inj (hLi'.symm.trans hLi)
        obtain ⟨Lj', hLj', hrest2⟩ := fold_pre (pOnes_none Y.ties F) hL (i + 1)
        have hOne : pOne Y.ties F (some Li') one = some Lj' := by
          rw [← fold_next hone hLi]
          exact hLj'
        refine ⟨_, rfl, _, rfl, y, b, Y, one, rfl, hY.mono e8.tps, hb, by rw [hkl]; exact hT, hl1, by rw [hkl]; exact hl2, fun H9 p e9 np hp => ?_⟩
        obtain ⟨as, hp, has⟩ := hp
        have npld : p ≠ ld := by
          obtain ⟨xs, ep, h1, _⟩ := hL8
          exact (ne_of_none h1 np).symm
        have hD9 : DW P w H9 d F := DD.mono hD8 (fun o ho => by
          obtain ⟨xs, ep, h1, _⟩ := hD8
          rw [h1] at ho
          exact e9.keep _ _ (by rw [h1]; exact ho) (Option.some.inj ho ▸ own_sd.1)) e9.tps (RW.mono e9.tps)
        have hL9 : DW P w H9 ld Li' := DD.mono hL8 (fun o ho => by
          obtain ⟨xs, ep, h1, _⟩ := hL8
          rw [h1] at ho
          exact e9.keep _ _ (by rw [h1]; exact ho) (Option.some.inj ho ▸ own_sd.1)) e9.tps (RW.mono e9.tps)
        -- for slide in slides_of(yard, one)
        refine ⟨p, rfl, ⟨_, .of hp⟩, for_list (xs := as.map V.ref) (fun j σ Hy => ∃ z5 z6 z7 Lj, σ = [some (.ref y), some (.ref a), some (.ref lr), some (.ref ld), some (.ref b), z5, z6, z7, some (.ref d)] ∧ Ex T H Hy ∧ TpS H9 Hy ∧ ((slidesM Y.ties one).take j).foldl (pStep F one) (some Li') = some Lj ∧
            DW P w Hy d F ∧ DW P w Hy ld Lj ∧ Hy lr = some (.lst (ls.map V.ref)) ∧ Hy p = some (.lst (as.map V.ref)))
          ⟨z5, z6, z7, Li', rfl, e8.trans e9, .refl, rfl, hD9, hL9, e9.keep _ _ hl8 own_lst.1, hp⟩ (fun j σ Hy _ ⟨_, _, _, _, _, _, _, _, _, _, _, h⟩ => .of h) (fun j x σ Hy hx2 hP => ?_) (fun σ Hy hP => ?_)⟩
        · obtain ⟨z5, z6, z7, Lj, rfl, e10, t10, hLj, hD10, hL10, hl10, hp10⟩ := hP
          obtain ⟨sa, sl, rfl, hsl, hsa⟩ := ips_at has hx2
          have hsl10 := hsa.mono t10
          have hb10 : IsSg Hy b one := hb.mono (e9.tps.trans t10)
          obtain ⟨k1, k2, k3⟩ := slides_ok (List.mem_of_getElem? hsl)
          refine ⟨_, rfl, _, rfl, b, sa, one, sl, rfl, hb10, hsl10, k1, k2, k3, by rw [hkl]; exact hl2, fun H11 r5 e11 nr5 hr5 => ?_⟩
          have hD11 := hD10.mono e11
          have hL11 := hL10.mono e11
          have hl11 := e11.keep _ _ hl10 own_lst.1
          have hp11 := e11.keep _ _ hp10 own_lst.1
          have e12 := e10.trans e11
          have t12 := t10.trans e11.tps
          obtain ⟨xF, sF, pF⟩ := hD11.sdx
          obtain ⟨Lk, hLk, hrest3⟩ := fold_pre (pFold_none F one) (show (slidesM Y.ties one).foldl (pStep F one) (some Li') = some Lj' from hOne) (j + 1)
          have hStep : pStep F one (some Lj) sl = some Lk := by
            rw [← fold_next hsl hLj]
            exact hLk
          refine ⟨_, rfl, _, rfl, d, xF, r5, _, rfl, sF, rfl, hr5, _, rfl, ?_⟩
          rw [er_isSome pF]
          rcases pStep_cases hStep with ⟨x, hx3, rfl⟩ | ⟨hFn, wd, hwd, hcase⟩
          · rw [hx3]
            exact ⟨_, _, _, Lk, rfl, e12, t12, hLk, hD11, hL11, hl11, hp11⟩
          · rw [hFn]
            refine iteT ?_
            obtain ⟨v, hv, wa, rfl, hwa⟩ := er_some pF hwd
            have hwdl := (hRw _ (hFR _ (aget_mem hwd))).2
            have hwdl : wd.length ≤ 500 := hwdl
            refine ⟨_, rfl, _, rfl, d, xF, b, one, _, rfl, sF, rfl, hb10.mono e11.tps, hv, _, rfl, by show 1 ≤ sizeLine; decide, fun q1 nq1 => ?_⟩
            have tq := tps_new (o := .tup [.ref sa]) nq1
            refine catW (T := T) (hwa.mono tq) upd_same ((hsl10.mono e11.tps).mono tq) (by omega) fun H13 r6 e13 hr6 => ?_
            have e14 : Ex T H11 H13 := (ex_new nq1).trans e13
            have hD13 := hD11.mono e14
            have hL13 := hL11.mono e14
            have hr5' := hr5.mono e14.tps
            obtain ⟨xL, epL, hld13, pL⟩ := hL13
            have sL : SDx P w H13 ld xL := ⟨epL, hld13, er_keys pL⟩
            have LIk : LInv F Lk := by
              refine LInv.step (LInv.fold _ (LInv.ones _ (.nil F) hLi) hLj) hStep
            have hLkl : Lk.length ≤ 500 := by
              obtain ⟨G1, rfl⟩ := pFold_grows _ hrest3
              obtain ⟨G2, rfl⟩ := pOnes_grows _ hrest2
              rw [List.length_append, List.length_append] at hlen
              omega
            have hxl : xL.length = Lj.length := Paired.length pL
            have hlr13 := e14.keep _ _ hl11 own_lst.1
            have hp13 := e14.keep _ _ hp11 own_lst.1
            have tw : ∀ o, TpS H13 (upd H13 ld o) := fun o => tps_write hld13 (fun _ z => nomatch z)
            have fin : ∀ (xs' : Ents) (ep' : Nat), Paired (ER RW H13) xs' Lk → (∃ z5 z6 z7 Lj2, ([some (.ref y), some (.ref a), some (.ref lr), some (.ref ld), some (.ref b), some (.ref sa), some (.ref r5), some (.ref r6), some (.ref d)] : St) = [some (.ref y), some (.ref a), some (.ref lr), some (.ref ld), some (.ref b), z5, z6, z7, some (.ref d)] ∧
                Ex T H (upd H13 ld (sdO P w ld xs' ep')) ∧ TpS H9 (upd H13 ld (sdO P w ld xs' ep')) ∧ ((slidesM Y.ties one).take (j + 1)).foldl (pStep F one) (some Li') = some Lj2 ∧ DW P w (upd H13 ld (sdO P w ld xs' ep')) d F ∧ DW P w (upd H13 ld (sdO P w ld xs' ep')) ld Lj2 ∧
                upd H13 ld (sdO P w ld xs' ep') lr = some (.lst (ls.map V.ref)) ∧ upd H13 ld (sdO P w ld xs' ep') p = some (.lst (as.map V.ref))) := fun xs' ep' hp' => by
              refine ⟨_, _, _, Lk, rfl, (e12.trans e14).write ld0 hld13 own_sd, (t12.trans e14.tps).trans (tw _), hLk, hD13.other ndd hld13 (fun _ z => nomatch z), ⟨xs', ep', upd_same, er_mono (tw _) (RW.mono (tw _)) hp'⟩, by rw [upd_ne nlrd]; exact hlr13, by rw [upd_ne npld]; exact hp13⟩
            -- later[other] = min(way, later.get(other, way))
            rcases hcase with ⟨hLn, hLe⟩ | ⟨x, hLx, hlt, hLe⟩
            · have hxg : xget xL (slidM one sl) = none := by
                have z := er_isSome pL (slidM one sl)
                rw [hLn] at z
                cases q : xget xL (slidM one sl) with
                | none => rfl
                | some v => rw [q] at z; cases z
              refine ⟨_, rfl, _, rfl, ld, xL, rfl, sL, _, rfl, _, rfl, xL, r5, slidM one sl, sL, rfl, hr5', r6, r6, wd ++ [sl], wd ++ [sl], by rw [hxg]; rfl, hr6, hr6, ?_⟩
              rw [ite_self]
              refine ⟨_, rfl, _, rfl, ld, xL, r5, slidM one sl, rfl, sL, rfl, hr5', small1000 (by rw [hxl]; rw [hLe] at hLkl; simp at hLkl; omega), fun ep' => ?_⟩
              rw [xput_new hxg]
              refine fin _ ep' ?_
              rw [hLe]
              exact Paired.snoc pL ⟨rfl, hr5', r6, rfl, hr6⟩
            · obtain ⟨v2, hv2, wx, rfl, hwx⟩ := er_some pL hLx
              refine ⟨_, rfl, _, rfl, ld, xL, rfl, sL, _, rfl, _, rfl, xL, r5, slidM one sl, sL, rfl, hr5', r6, wx, wd ++ [sl], x, by rw [hv2]; rfl, hr6, hwx, ?_⟩
              rw [if_pos hlt]
              refine ⟨_, rfl, _, rfl, ld, xL, r5, slidM one sl, rfl, sL, rfl, hr5', small1000 (by rw [hxl, ← hLe]; omega), fun ep' => ?_⟩
              rw [xput_same (by rw [er_fst2 pL, ← hLe]; exact LIk.nd) hv2]
              refine fin _ ep' ?_
              rw [hLe]
              exact pL
        · obtain ⟨z5, z6, z7, Lj, rfl, e10, t10, hLj, hD10, hL10, hl10, hp10⟩ := hP
          rw [List.length_map, Paired.length has, List.take_length] at hLj
          have hLj : pOne Y.ties F (some Li') one = some Lj := hLj
          obtain rfl : Lj = Lj' := Option.some.inj (hLj.symm.trans hOne)
          exact ⟨_, _, _, _, Lj, rfl, e10, hLj', hD10, hL10, hl10, IsSgs.mono (e9.tps.trans t10) hls8⟩
      · clear e7 hD7 hl7 hls7 hL7
        obtain ⟨z4, z5, z6, z7, Li, rfl, e8, hLi, hD8, hL8, hl8, hls8⟩ := hP
        rw [List.length_map, hlsl, List.take_length] at hLi
        obtain rfl : Li = L := Option.some.inj (hLi.symm.trans hL)
        obtain ⟨xF, epF, hd8, pF⟩ := hD8
        obtain ⟨xL, epL, hld8, pL⟩ := hL8
        have lF : xF.length = F.length := Paired.length pF
        have lL : xL.length = Li.length := Paired.length pL
        have hdis : ∀ z ∈ xL, xget xF z.1 = none := fun z hz => by
          refine xget_none_of pF ?_
          have : z.1 ∈ Li.map (·.1) := by rw [← er_fst2 pL]; exact List.mem_map.mpr ⟨z, hz, rfl⟩
          obtain ⟨f, hf, e⟩ := List.mem_map.mp this
          rw [← e]
          exact LI.new f hf
        refine ⟨_, rfl, d, xF, rfl, ⟨epF, hd8, er_keys pF⟩, _, rfl, xF, ld, xL, ⟨epF, hd8, er_keys pF⟩, rfl, ⟨epL, hld8, er_keys pL⟩, ndd, ?_, hdis, small64 (by omega), fun ep' => ?_⟩
        · intro z
          rw [z] at lF
          exact hF0 (List.eq_nil_of_length_eq_zero lF.symm)
        have tw : TpS Hx (upd Hx d (sdO P w d (xF ++ xL) ep')) := tps_write hd8 (fun _ z => nomatch z)
        have e9 := e8.write (o := sdO P w d (xF ++ xL) ep') nd hd8 own_sd
        have pF9 := er_mono tw (RW.mono tw) pF
        have pL9 := er_mono tw (RW.mono tw) pL
        have pA9 := paired_app pF9 pL9
        have hd9 : upd Hx d (sdO P w d (xF ++ xL) ep') d = some (sdO P w d (xF ++ xL) ep') := upd_same
        have hld9 : upd Hx d (sdO P w d (xF ++ xL) ep') ld = some (sdO P w ld xL epL) := by rw [upd_ne (Ne.symm ndd)]; exact hld8
        generalize upd Hx d (sdO P w d (xF ++ xL) ep') = H9 at e9 pF9 pL9 pA9 hd9 hld9 ⊢
        refine ⟨_, rfl, ld, d, xL, xF ++ xL, Li.map (·.2), rfl, ⟨epL, hld9, er_keys pL9⟩, rfl, ⟨ep', hd9, er_keys pA9⟩, e9.tab hTb, by rw [List.length_map]; exact lL.symm, fun j z l hz hl => ?_, ?_, fun l hl => ?_, fun H2 r e10 nr => ?_⟩
        · obtain ⟨f, hf, _, _, wa, hwa, hW⟩ := paired_at pL9 hz
          rw [List.getElem?_map, hf] at hl
          obtain rfl : f.2 = l := Option.some.inj hl
          have hzm := List.mem_of_getElem? hz
          refine ⟨wa, ?_, hW⟩
          rw [xget_app (hdis z hzm), xget_mem (by rw [er_fst2 pL]; exact LI.nd) hzm, hwa]
        · exact (wAsc_pw hasc).imp fun h => wLt_asym h
        · obtain ⟨f, hf, rfl⟩ := List.mem_map.mp hl
          exact LI.ne f hf
        · have e11 := e9.trans e10
          have e12 := e11.trans (ex_new (o := .lst (xL.map fun z => V.ref z.2.1)) nr)
          have ex12 := e10.trans (ex_new (o := .lst (xL.map fun z => V.ref z.2.1)) nr)
          refine ⟨m', by omega, F ++ Li, Li.map (·.1), r, xL.map (·.2.1), _, _, _, _, _, rfl, e12, DW.mono ex12 ⟨_, ep', hd9, pA9⟩, by rw [upd_same, List.map_map]; rfl, IsSgs.mono ex12.tps (er_addrs pL9), hr7, by simp [hF0], fun x hx => ?_⟩
          obtain ⟨f, hf, rfl⟩ := List.mem_map.mp hx
          exact (hRw f (hLR f hf)).1
end
end L2.K10

set_option Elab.async false
set_option linter.all false
set_option maxRecDepth 100000
set_option maxHeartbeats 4000000
namespace L2.K10
open PySem PySem.Spec PyProof.Rows
/-! ### any(one not in found for one in lot) -/
def tAnyNin (P : Program) (w : World) (K : PySem.W.Frag) (Pt : Addr) (i : Nat) (te : TE) : TE := fun σ H Q => te σ H fun v H1 => ∃ (yl d : Addr) (as : List Addr) (l : List Sg) (xs : Ents), v = .ref yl ∧ SqL K H1 yl (as.map V.ref) ∧ Paired (IsSg H1) as l ∧ GxR.TabG H1 Pt ∧ σ[i]? = some (some (.ref d)) ∧ SDx P w H1 d xs ∧
  ∀ H2, GxR.Tabbed Pt H1 H2 → Q (.bl (l.any fun s => !(xget xs s).isSome)) H2
theorem any_getD (l : List Sg) (f : Sg → Bool) : (List.range l.length).any (fun i => f (l.getD i [])) = l.any f := by
  rw [Bool.eq_iff_iff, List.any_eq_true, List.any_eq_true]
  constructor
  · rintro ⟨j, hj, e⟩
    have hj' := List.mem_range.mp hj
    rw [List.getD_eq_getElem?_getD, List.getElem?_eq_getElem hj', Option.getD_some] at e
    exact ⟨_, List.getElem_mem hj', e⟩
  · rintro ⟨x, hx, e⟩
    obtain ⟨j, hj, e2⟩ := List.getElem_of_mem hx
    refine ⟨j, List.mem_range.mpr hj, ?_⟩
    rw [List.getD_eq_getElem?_getD, List.getElem?_eq_getElem hj, Option.getD_some, e2]
    exact e
section
variable {X : Cx}
theorem pe_any_nin {c P : Addr} {iter : Expr} {x y : Str} {px p gpos pos p1 p2 p3 : Pos} {scope : Scope} {te : TE} {i k : Nat} (hr : Room k X.A) (hgl : Gl X "any") (hm : X.mg "any" = none) (TB : GxR.TabB X.base X.mg c P) (hcode : X.env.code = .ref c)
    (hk : scope.kind = .function) (hco : scope.isCoroutine = false) (hce : ∀ y ∈ scope.names, y.2 ≠ .cell) (hdot : scope.names.lookup (".0" : Str) = some NameKind.local) (hloc : scope.names.lookup x = some .local)
    (hfr : ∀ y ∈ scope.names, y.2 = .free → X.env.scope.names.lookup y.1 = some .cell) (hi : PE X iter te)
    (hN : X.N[i]? = some y) (hc : X.env.scope.names.lookup y = some .cell) (hf : scope.names.lookup y = some .free) (hcl : (cloFrom X.env.cells scope.names []).lookup y = some ((X.env.cells.lookup y).getD 0))
    (hs : ∀ v, genFold iter X.env v = pure v) (hdx : (x == ("__debug__" : Str)) = false := by decide) (hn : (y == ("__classdict__" : Str)) = false := by decide) (hdy : (y == ("__debug__" : Str)) = false := by decide)
    (hst : starEach [.GeneratorExp (.Compare (.Name x p1) [.NotIn] [.Name y p2] p3) [⟨.Name x px, iter, [], 0⟩] scope gpos] X.env = (false, eval (.GeneratorExp (.Compare (.Name x p1) [.NotIn] [.Name y p2] p3) [⟨.Name x px, iter, [], 0⟩] scope gpos) X.env) :: starEach [] X.env := by rfl) :
    PE X (.Call (.Name "any" p) [.GeneratorExp (.Compare (.Name x p1) [.NotIn] [.Name y p2] p3) [⟨.Name x px, iter, [], 0⟩] scope gpos] [] pos) (tAnyNin X.prog X.w X.K P i te) := by
  refine ⟨fun pins s σ H Q I h => ?_⟩
  have S : GxR.GenS X.env scope x := ⟨hk, hco, hce, hdot, hloc, fun z hz e => I.ok.has _ (.inl (hfr z hz e))⟩
  refine wpAny_Call_Name_kw (ld_blt I hgl hm (show _ = some (.builtin "any") by decide +kernel) ?_)
  refine PyProof.Rows.callWith_builtin1 ?_ hst (by rfl)
  rw [hst]
  show wpAny _ _ (spliced ((false, eval (.GeneratorExp (.Compare (.Name x p1) [.NotIn] [.Name y p2] p3) [⟨.Name x px, iter, [], 0⟩] scope gpos) X.env) :: backTo pos (starEach [] X.env))) _ _ s
  refine Calls.spliced_cons (gen_seq (R := fun vs bs H1 => ∃ (l : List Sg) (xs : Ents), vs.length = l.length ∧ bs = (fun j => !(xget xs (l.getD j [])).isSome) ∧ ∀ H2, GxR.Tabbed P H1 H2 → Q (.bl (l.any fun s => !(xget xs s).isSome)) H2) hr TB hcode S hi hs I h (fun v H1 q => ?_) fun vs bs H1 g s5 hR hG => ?_)
  · obtain ⟨yl, d, as, l, xs, rfl, hyl, hp, hT, hσ, hD, q⟩ := q
    have hlen := Paired.length hp
    refine ⟨yl, as.map V.ref, _, rfl, .inl hyl, hT, fun s1 I1 => ?_, l, xs, by rw [List.length_map]; exact hlen, rfl, q⟩
    obtain ⟨ps, hP, _⟩ := hT
    intro L code A' E' j u s₂ m₂ hA hDp hU ⟨yv, hy, ry⟩ hns hm2 hkp
    obtain ⟨b, st, rfl, hl, hb⟩ := sgs_at hp hy
    obtain rfl : u = Value.ref b := ry
    have hPs : s1.heap.get? P = some { cls := .none, data := .fields ps } := I1.hok P _ hP
    have est : l.getD j [] = st := by rw [List.getD_eq_getElem?_getD, hl]; rfl
    simp only [est]
    obtain ⟨_, hdm, ys, rel, dd⟩ := hD.of I1.hok
    have ktup : ∀ {a : Addr} {t : Sg}, (sgKind X.prog X.w).is s1.heap t a → (sgKind X.prog X.w).is s₂.heap t a := fun {a t} h => sgk_keep h fun o e => hkp _ _ (fun z => by
      obtain ⟨o', its, n, e1, e2, e3, _⟩ := h
      rw [z, hPs] at e1
      cases e1
      cases e3) e
    have dd2 : s₂.heap.DictOfH (sgKind X.prog X.w) d ys := by
      obtain ⟨o, es, ep, h1, h2, h3, h4, h5, h6⟩ := dd
      refine ⟨o, es, ep, hkp _ _ (fun z => ?_) h1, h2, h3, h4, fun x hx => ktup (h5 x hx), h6⟩
      rw [z, hPs] at h1
      cases h1
      cases h3
    refine wpAny_Compare1 (raw_loc hk hloc hns hm2 (raw_free I1 hP hkp hN hσ hc hk hf hcl (fun uu r => ?_) hn hdy) hdx)
    obtain rfl : uu = Value.ref d := r
    refine wpAny_notIn_heap (sg_room ?_) (ktup (sg_is I1.hok hb)) hdm dd2 ?_
    · have := hr.units
      omega
    · have q := (rel.get st).isSome_eq
      rw [Option.isSome_map] at q
      rw [← q]
      exact ⟨rfl, GxR.keeps_tok _ _⟩
  · obtain ⟨l, xs, hl, rfl, q⟩ := hR
    obtain ⟨fp, wr, G, F, St, W, hst2, htr, hI⟩ := hG
    refine Calls.spliced_nil ?_
    refine call_any_walkS (W.self 0 _ _ _ hst2 ⟨g, fp, wr, G, _, F, St, _, rfl, W, hst2, htr, fun s' hmv => ?_⟩)
    obtain ⟨H2, hT, J⟩ := hI s' hmv
    refine ⟨.bl _, H2, J, rfl, ?_⟩
    rw [hl, any_getD l fun s => !(xget xs s).isSome]
    exact q H2 hT
end
end L2.K10

set_option Elab.async false
set_option linter.all false
set_option maxRecDepth 100000
set_option maxHeartbeats 4000000
namespace L2.K10
open PySem PySem.Spec PyProof.Rows
/-! ### the dict of layers -/
theorem dc_it {J : It} {n : Nat} {G : Hp → Prop} {Y : Nat → Hp → V → Hp → Prop} (w : Walk J n G Y) {g : TG} {tt : TT} {tk tv : TE} {vs : List Nat} {σ : St} {H1 : Hp} {D : Addr} {Qd : Hp → Prop} (Pv : Nat → Hp → Prop) (h0 : Pv 0 (upd H1 D (.dK []))) (hG : ∀ i H, i ≤ n → Pv i H → G H)
    (hs : ∀ i x H H', i < n → Pv i H → Y i H x H' → g x (wipe σ vs) H' fun σ2 H2 => wipe σ2 vs = wipe σ vs ∧ tt σ2 H2 fun b H3 =>
      if b = true then tk σ2 H3 fun y H4 => tv σ2 H4 fun z H5 => ∃ kvs k, y = kV k ∧ H5 D = some (.dK kvs) ∧ kvs.length < sizeLine ∧ Pv (i + 1) (upd H5 D (.dK (putK kvs k z))) else Pv (i + 1) H3) (hd : ∀ H, Pv n H → Qd H) :
    ∃ W : Nat → Nat → Hp → Prop, (∃ m, W 0 m (upd H1 D (.dK []))) ∧ ∀ i m H, W i m H →
      (J.stop i H ∧ Qd H) ∨ (J.go i H ∧ ∃ Nx : Hp → Prop, (∀ H', Nx H' → ∃ m', m' < m ∧ W (i + 1) m' H') ∧ ∀ x H', J.yld i H x H' → g x (wipe σ vs) H' fun σ2 H2 => wipe σ2 vs = wipe σ vs ∧ tt σ2 H2 fun b H3 =>
        if b = true then tk σ2 H3 fun y H4 => tv σ2 H4 fun z H5 => ∃ kvs k, y = kV k ∧ H5 D = some (.dK kvs) ∧ kvs.length < sizeLine ∧ Nx (upd H5 D (.dK (putK kvs k z))) else Nx H3) := by
  refine ⟨fun i m H => m = n - i ∧ i ≤ n ∧ Pv i H, ⟨n, by simp, Nat.zero_le _, h0⟩, ?_⟩
  rintro i m H ⟨rfl, hi, p⟩
  have q := hG i H hi p
  by_cases hlt : i < n
  · refine .inr ⟨w.goes i H hlt q, Pv (i + 1), fun H' p' => ⟨n - (i + 1), by omega, rfl, hlt, p'⟩, fun x H' y => hs i x H H' hlt p (w.yields i H x H' hlt q y)⟩
  · have e : i = n := by omega
    subst e
    exact .inl ⟨w.stops H q, hd H p⟩
abbrev LLs := List (Nat × Addr × List Sg)
def plainL (LL : LLs) : Lays := LL.map fun e => (e.1, e.2.2)
def kvL (LL : LLs) : List (Key × V) := LL.map fun e => (Sum.inl (e.1 : Int), V.ref e.2.1)
def LotAt (H : Hp) (la : Addr) (lot : List Sg) : Prop := ∃ as : List Addr, H la = some (.lst (as.map V.ref)) ∧ Paired (IsSg H) as lot
structure Lay (H0 H : Hp) (d : Addr) (LL : LLs) : Prop where
  hd : H d = some (.dK (kvL LL))
  lots : ∀ e ∈ LL, LotAt H e.2.1 e.2.2
  na : (LL.map (·.2.1)).Nodup
  new : ∀ e ∈ LL, H0 e.2.1 = none
theorem LotAt.mono {H H' : Hp} {la : Addr} {lot : List Sg} (k : ∀ o, H la = some o → H' la = some o) (t : TpS H H') (h : LotAt H la lot) : LotAt H' la lot := let ⟨as, h1, h2⟩ := h; ⟨as, k _ h1, IsSgs.mono t h2⟩
theorem Lay.mono {T : Tbs} {H0 H H' : Hp} {d : Addr} {LL : LLs} (e : Ex T H H') (h : Lay H0 H d LL) : Lay H0 H' d LL :=
  ⟨e.keep _ _ h.hd own_dK.1, fun x hx => let ⟨as, h1, h2⟩ := h.lots x hx; ⟨as, e.keep _ _ h1 own_lst.1, IsSgs.mono e.tps h2⟩, h.na, h.new⟩
theorem Lay.other {H0 H : Hp} {d p : Addr} {LL : LLs} {o u : HO} (h : Lay H0 H d LL) (hp : H p = some u) (hu : ∀ xs, u ≠ .tup xs) (n1 : d ≠ p) (n2 : ∀ e ∈ LL, e.2.1 ≠ p) : Lay H0 (upd H p o) d LL :=
  ⟨by rw [upd_ne n1]; exact h.hd, fun x hx => (h.lots x hx).mono (fun o ho => by rw [upd_ne (n2 x hx)]; exact ho) (tps_write hp hu), h.na, h.new⟩
theorem lot_ne_d {H0 H : Hp} {d : Addr} {LL : LLs} (h : Lay H0 H d LL) {e : Nat × Addr × List Sg} (he : e ∈ LL) : e.2.1 ≠ d := fun z => by
  obtain ⟨as, h1, _⟩ := h.lots e he
  rw [z, h.hd] at h1
  cases h1
theorem plain_keys (LL : LLs) : (plainL LL).map (·.1) = LL.map (·.1) := by unfold plainL; rw [List.map_map]; rfl
theorem kv_val_none {LL : LLs} {c : Nat} (h : valV (kvL LL) (.inl (c : Int)) = none) : lHas (plainL LL) c = false := by
  induction LL with
  | nil => rfl
  | cons e r ih =>
    by_cases hc : e.1 = c
    · rw [kvL, List.map_cons, valV_pos (by rw [hc])] at h
      cases h
    · rw [kvL, List.map_cons, valV_neg (fun z => hc (by injection z with z; omega))] at h
      show (e.1 == c || lHas (plainL r) c) = false
      rw [ih h]
      simp [hc]
theorem kv_val_some {LL : LLs} {c : Nat} {v : V} (h : valV (kvL LL) (.inl (c : Int)) = some v) : ∃ e ∈ LL, e.1 = c ∧ v = .ref e.2.1 ∧ lGet (plainL LL) c = e.2.2 ∧ lHas (plainL LL) c = true := by
  induction LL with
  | nil => cases h
  | cons e r ih =>
    by_cases hc : e.1 = c
    · rw [kvL, List.map_cons, valV_pos (by rw [hc])] at h
      refine ⟨e, List.mem_cons_self, hc, (Option.some.inj h).symm, ?_, ?_⟩
      · unfold lGet plainL
        rw [List.map_cons, List.find?_cons_of_pos (by simp [hc])]
        rfl
      · show (e.1 == c || lHas (plainL r) c) = true
        simp [hc]
    · rw [kvL, List.map_cons, valV_neg (fun z => hc (by injection z with z; omega))] at h
      obtain ⟨x, h1, h2, h3, h4, h5⟩ := ih h
      refine ⟨x, List.mem_cons_of_mem _ h1, h2, h3, ?_, ?_⟩
      · unfold lGet plainL at h4 ⊢
        rw [List.map_cons, List.find?_cons_of_neg (by simp [hc])]
        exact h4
      · show (e.1 == c || lHas (plainL r) c) = true
        rw [h5]
        simp
theorem lGet_none {L : Lays} {c : Nat} (h : lHas L c = false) : lGet L c = [] := by
  unfold lGet
  rw [List.find?_eq_none.mpr]
  · rfl
  · intro e he z
    have : lHas L c = true := List.any_eq_true.mpr ⟨e, he, z⟩
    rw [h] at this
    cases this
theorem kvL_len (LL : LLs) : (kvL LL).length = (plainL LL).length := by unfold kvL plainL; rw [List.length_map, List.length_map]
/-- setdefault: the key was there -/
theorem lay_set_old {LL : LLs} {c : Nat} (h : lHas (plainL LL) c = true) : lSet (plainL LL) c = plainL LL := by unfold lSet; rw [if_pos h]
theorem lay_set_new {H0 H : Hp} {d z : Addr} {LL : LLs} {c : Nat} (h : Lay H0 H d LL) (hv : valV (kvL LL) (.inl (c : Int)) = none) (hz : H z = some (.lst [])) (h0 : H0 z = none) (n : ∀ e ∈ LL, e.2.1 ≠ z) (nd : d ≠ z) :
    Lay H0 (upd H d (.dK (putK (kvL LL) (.inl (c : Int)) (.ref z)))) d (LL ++ [(c, z, [])]) ∧ plainL (LL ++ [(c, z, [])]) = lSet (plainL LL) c := by
  have hh := kv_val_none hv
  refine ⟨⟨?_, fun e he => ?_, ?_, fun e he => ?_⟩, ?_⟩
  · rw [upd_same, putK_new _ hv]
    unfold kvL
    rw [List.map_append]
    rfl
  · have t := tps_write (o := HO.dK (putK (kvL LL) (.inl (c : Int)) (.ref z))) h.hd (fun _ z => nomatch z)
    rcases List.mem_append.mp he with he | he
    · exact (h.lots e he).mono (fun o ho => by rw [upd_ne (lot_ne_d h he)]; exact ho) t
    · simp at he
      subst he
      exact ⟨[], by rw [upd_ne (Ne.symm nd)]; exact hz, .nil⟩
  · rw [List.map_append, List.nodup_append]
    refine ⟨h.na, by simp, fun a ha b hb => ?_⟩
    simp at hb
    subst hb
    obtain ⟨e, he, rfl⟩ := List.mem_map.mp ha
    exact n e he
  · rcases List.mem_append.mp he with he | he
    · exact h.new e he
    · simp at he
      subst he
      exact h0
  · unfold lSet
    rw [hh]
    unfold plainL
    rw [List.map_append]
    rfl
def addL (LL : LLs) (c : Nat) (xs : List Sg) : LLs := LL.map fun e => if e.1 = c then (e.1, e.2.1, e.2.2 ++ xs) else e
theorem addL_kv (LL : LLs) (c : Nat) (xs : List Sg) : kvL (addL LL c xs) = kvL LL := by
  unfold kvL addL
  rw [List.map_map]
  refine List.map_congr_left fun e _ => ?_
  show (Sum.inl ((if e.1 = c then (e.1, e.2.1, e.2.2 ++ xs) else e).1 : Int), V.ref (if e.1 = c then (e.1, e.2.1, e.2.2 ++ xs) else e).2.1) = _
  split <;> rfl
theorem addL_ad (LL : LLs) (c : Nat) (xs : List Sg) : (addL LL c xs).map (·.2.1) = LL.map (·.2.1) := by
  unfold addL
  rw [List.map_map]
  refine List.map_congr_left fun e _ => ?_
  show (if e.1 = c then (e.1, e.2.1, e.2.2 ++ xs) else e).2.1 = _
  split <;> rfl
theorem addL_plain (LL : LLs) (c : Nat) (xs : List Sg) : plainL (addL LL c xs) = lAdd (plainL LL) c xs := by
  unfold plainL addL lAdd
  rw [List.map_map, List.map_map]
  refine List.map_congr_left fun e _ => ?_
  show ((if e.1 = c then (e.1, e.2.1, e.2.2 ++ xs) else e).1, (if e.1 = c then (e.1, e.2.1, e.2.2 ++ xs) else e).2.2) = if e.1 = c then (e.1, e.2.2 ++ xs) else (e.1, e.2.2)
  split <;> rfl
/-- a lot gets longer -/
theorem lay_add {H0 H : Hp} {d : Addr} {LL : LLs} {c : Nat} {e : Nat × Addr × List Sg} {as bs : List Addr} {xs : List Sg} (h : Lay H0 H d LL) (nk : (LL.map (·.1)).Nodup) (he : e ∈ LL) (hc : e.1 = c) (ha : H e.2.1 = some (.lst (as.map V.ref))) (hb : Paired (IsSg H) bs xs) :
    Lay H0 (upd H e.2.1 (.lst (as.map V.ref ++ bs.map V.ref))) d (addL LL c xs) := by
  have t := tps_write (o := HO.lst (as.map V.ref ++ bs.map V.ref)) ha (fun _ z => nomatch z)
  refine ⟨by rw [upd_ne (Ne.symm (lot_ne_d h he)), addL_kv]; exact h.hd, fun x hx => ?_, by rw [addL_ad]; exact h.na, fun x hx => ?_⟩
  · obtain ⟨y, hy, rfl⟩ := List.mem_map.mp hx
    by_cases hyc : y.1 = c
    · rw [if_pos hyc]
      have : y = e := by
        obtain ⟨i, hi, e1⟩ := List.getElem_of_mem hy
        obtain ⟨j, hj, e2⟩ := List.getElem_of_mem he
        have hij : i = j := by
          refine (List.getElem_inj nk (i := i) (j := j) (h₀ := by rw [List.length_map]; exact hi) (h₁ := by rw [List.length_map]; exact hj)).mp ?_
          rw [List.getElem_map, List.getElem_map, e1, e2, hyc, hc]
        subst hij
        exact e1.symm.trans e2
      subst this
      obtain ⟨as', h1, h2⟩ := h.lots y hy
      rw [ha] at h1
      have e3 : as.map V.ref = as'.map V.ref := by injection h1 with h1; injection h1
      refine ⟨as' ++ bs, by rw [upd_same, List.map_append, e3], ?_⟩
      exact paired_app (IsSgs.mono t h2) (IsSgs.mono t hb)
    · rw [if_neg hyc]
      refine (h.lots y hy).mono (fun o ho => ?_) t
      rw [upd_ne fun z => hyc ?_]
      · exact ho
      · obtain ⟨i, hi, e1⟩ := List.getElem_of_mem hy
        obtain ⟨j, hj, e2⟩ := List.getElem_of_mem he
        have hij : i = j := by
          refine (List.getElem_inj h.na (i := i) (j := j) (h₀ := by rw [List.length_map]; exact hi) (h₁ := by rw [List.length_map]; exact hj)).mp ?_
          rw [List.getElem_map, List.getElem_map, e1, e2, z]
        subst hij
        rw [← e1, e2, hc]
  · obtain ⟨y, hy, rfl⟩ := List.mem_map.mp hx
    split
    · exact h.new y hy
    · exact h.new y hy
/-- some entries go -/
theorem lay_filter {H0 H : Hp} {d : Addr} {LL : LLs} (h : Lay H0 H d LL) (p : Nat × Addr × List Sg → Bool) : Lay H0 (upd H d (.dK (kvL (LL.filter p)))) d (LL.filter p) :=
  ⟨upd_same, fun x hx => (h.lots x (List.mem_filter.mp hx).1).mono (fun o ho => by rw [upd_ne (lot_ne_d h (List.mem_filter.mp hx).1)]; exact ho) (tps_write h.hd fun _ z => nomatch z), h.na.sublist ((List.filter_sublist).map _), fun x hx => h.new x (List.mem_filter.mp hx).1⟩
theorem kv_drop (LL : LLs) (c : Nat) : dropK (kvL LL) (.inl (c : Int)) = kvL (LL.filter fun e => decide (e.1 ≠ c)) := by
  unfold dropK kvL
  rw [List.filter_map]
  congr 1
  refine List.filter_congr fun e _ => ?_
  show decide ((Sum.inl (e.1 : Int) : Key) ≠ .inl (c : Int)) = decide (e.1 ≠ c)
  refine decide_eq_decide.mpr ⟨fun h z => h (by rw [z]), fun h z => h (by injection z with z; omega)⟩
theorem plain_drop (LL : LLs) (c : Nat) : plainL (LL.filter fun e => decide (e.1 ≠ c)) = lDrop (plainL LL) c := by
  unfold plainL lDrop
  rw [List.filter_map]
  rfl
theorem drop_none {L : Lays} {c : Nat} (h : lHas L c = false) : lDrop L c = L := by
  unfold lDrop
  rw [List.filter_eq_self]
  intro e he
  refine decide_eq_true fun z => ?_
  have : lHas L c = true := List.any_eq_true.mpr ⟨e, he, by simp [z]⟩
  rw [h] at this
  cases this
end L2.K10

set_option Elab.async false
set_option linter.all false
set_option maxRecDepth 100000
set_option maxHeartbeats 4000000
namespace L2.K10
open PySem PySem.Spec PyProof.Rows
section
variable {X : Cx}
/-- name = {..} on one line, the name a local -/
theorem ps_setDc {i : Nat} {y : Str} {py : Pos} {kx vx tg iter : Expr} {ifs : List Expr} {scope : Scope} {own : List (Str × Nat)} {pos spos : Pos} {wi : TI} {g : TG} {tt : TT} {tk tv : TE} (hc : X.calm = true) (hN : X.N.Nodup) (hy : X.N[i]? = some y) (hyl : X.env.scope.names.lookup y = some .local)
    (hsw : swapsWith (.DictComp kx vx [⟨tg, iter, ifs, 0⟩] scope pos) (some (.Name y py)) spos.line X.env = pure true) (hi : PI X tg iter wi) (ok : BlkOk X.N X.env.scope scope own)
    (hg : ∀ (s : Shared) (H : Hp) (C : Addr) (cl : List (Str × Addr)) (fp : List Addr), PG (X.blk s H scope (compEnvC scope cl C X.env) fp) tg g) (ht : ∀ (s : Shared) (H : Hp) (C : Addr) (cl : List (Str × Addr)) (fp : List Addr), PTs (X.blk s H scope (compEnvC scope cl C X.env) fp) ifs tt)
    (hk : ∀ (s : Shared) (H : Hp) (C : Addr) (cl : List (Str × Addr)) (fp : List Addr), PE (X.blk s H scope (compEnvC scope cl C X.env) fp) kx tk)
    (he : ∀ (s : Shared) (H : Hp) (C : Addr) (cl : List (Str × Addr)) (fp : List Addr), PE (X.blk s H scope (compEnvC scope cl C X.env) fp) vx tv) (hs : ∀ x, foldedSetIterable iter X.env x = pure x := by intro _; rfl) :
    PS X (.Assign [.Name y py] (.DictComp kx vx [⟨tg, iter, ifs, 0⟩] scope pos) spos) (tAsg (tDc wi g tt tk tv (own.map (·.2))) (gName i)) := by
  refine ⟨fun pins s σ H D I h => ?_⟩
  rw [exec_Assign_Name_used _ _ _ _ hsw]
  refine wpAny_bind (wpAny_standAt (wpAny_bind ?_))
  show wpAny _ X.A (do let _ ← comprehension (.DictComp kx vx [⟨tg, iter, ifs, 0⟩] scope pos) scope X.env (firstIterPos [⟨tg, iter, ifs, 0⟩] pos) newDict false (eval iter X.env) (some (assign (.Name y py) X.env))) _ _ s
  have h : tDc wi g tt tk tv (own.map (·.2)) σ H (fun x H1 => gName i x σ H1 D.nx) := h
  refine wpAny_bind (thn (dc_core (Qf := fun _ s' => SP X pins D .next s') hc hN I hi ok hg ht hk he hs h fun L C s' m H' I' q hn f => ?_) fun _ s' hq => wpAny_pure (wpAny_pure hq))
  show wpAny _ _ (assign (.Name y py) X.env (.ref L)) _ _ _
  refine wpAny_assign_Name (store_ok2 (v := V.ref L) I' hN hy (.inl hyl) rfl (fun s2 I2 ⟨a, sb, ha⟩ => ?_) (.inr hyl))
  obtain ⟨f0, f1, f2, f3, f4, f5⟩ := f
  have haC : C ≠ a := by
    rcases ha with z | z
    · rw [z]; exact f1
    · exact fun e => f4 y a z e.symm
  refine ⟨m, hn.sameBut sb haC, fun h3 sb3 => ?_⟩
  exact ⟨_, H', I2.turned (t' := s2.toks) (fun b o hb e => (sb3.2 b hb).trans e) f0 f1 f3 f4 f5, q⟩
theorem dsw_true {kx vx : Expr} {gs : List Comprehension} {scope : Scope} {pos py : Pos} {y : Str} {l : Nat} {env : Env} (hk : env.scope.kind = .function) (hy : env.scope.names.lookup y = some .local) (hl : (py.line == pos.line) = true)
    (ha : (scope.names.any fun (n, k) => n == y && (k == .local || k == .cell)) = false) : swapsWith (.DictComp kx vx gs scope pos) (some (.Name y py)) l env = pure true := by
  have ky : env.kindOf y = some .local := hy
  have hb : env.blockKind = .function := by unfold Env.blockKind; rw [hk]; rfl
  unfold swapsWith
  simp only [hb, ky, ha, Expr.pos, hl]
  rfl
end
end L2.K10

set_option Elab.async false
set_option linter.all false
set_option maxRecDepth 100000
set_option maxHeartbeats 4000000
namespace L2.K10
open PySem PySem.Spec PyProof.Rows
/-- what stands behind layers.setdefault(c, []) -/
structure SetD (T : Tbs) (H0 Hx H3 : Hp) (dL : Addr) (LL LL' : LLs) (c : Nat) (x : Nat × Addr × List Sg) (z : Addr) : Prop where
  lay : Lay H0 H3 dL LL'
  ex : Ex T H0 H3
  mem : x ∈ LL'
  key : x.1 = c
  pl : plainL LL' = lSet (plainL LL) c
  same : ∀ b, b ≠ dL → b ≠ z → H3 b = Hx b
  tps : TpS Hx H3
  ad : ∀ e ∈ LL', e.2.1 ∈ LL.map (·.2.1) ∨ e.2.1 = z
theorem lay_setd {T : Tbs} {H0 Hx : Hp} {dL z : Addr} {LL : LLs} {c : Nat} (h : Lay H0 Hx dL LL) (e : Ex T H0 Hx) (h0 : H0 dL = none) (nz : Hx z = none) :
    (∀ v, valV (kvL LL) (.inl (c : Int)) = some v → ∃ LL' x, v = .ref x.2.1 ∧ SetD T H0 Hx (upd Hx z (.lst [])) dL LL LL' c x z) ∧
    (valV (kvL LL) (.inl (c : Int)) = none → ∃ LL' x, x.2.1 = z ∧ SetD T H0 Hx (upd (upd Hx z (.lst [])) dL (.dK (putK (kvL LL) (.inl (c : Int)) (.ref z)))) dL LL LL' c x z) := by
  have ez := ex_new (T := T) (o := .lst []) nz
  have hl : Lay H0 (upd Hx z (.lst [])) dL LL := h.mono ez
  have hzL : ∀ e ∈ LL, e.2.1 ≠ z := fun e he => by
    obtain ⟨as, h1, _⟩ := h.lots e he
    exact ne_of_none h1 nz
  have hdz : dL ≠ z := ne_of_none h.hd nz
  refine ⟨fun v hv => ?_, fun hv => ?_⟩
  · obtain ⟨x, hx, hxc, rfl, _, hh⟩ := kv_val_some hv
    exact ⟨LL, x, rfl, hl, e.trans ez, hx, hxc, (lay_set_old hh).symm, fun b _ hb => upd_ne hb, tps_new nz, fun y hy => .inl (List.mem_map.mpr ⟨y, hy, rfl⟩)⟩
  · obtain ⟨l1, l2⟩ := lay_set_new hl hv upd_same (e.free _ nz) hzL hdz
    refine ⟨LL ++ [(c, z, [])], (c, z, []), rfl, l1, (e.trans ez).write h0 hl.hd own_dK, List.mem_append_right _ (List.mem_singleton.mpr rfl), rfl, l2, fun b hb1 hb2 => ?_, (tps_new nz).trans (tps_write hl.hd fun _ z => nomatch z), fun y hy => ?_⟩
    · rw [upd_ne hb1, upd_ne hb2]
    · rcases List.mem_append.mp hy with hy | hy
      · exact .inl (List.mem_map.mpr ⟨y, hy, rfl⟩)
      · simp at hy
        subst hy
        exact .inr rfl
/-- the heap behind a lot's growth -/
theorem SetD.grow {T : Tbs} {H0 Hx H3 H4 : Hp} {dL z : Addr} {LL LL' : LLs} {c : Nat} {x : Nat × Addr × List Sg} (s : SetD T H0 Hx H3 dL LL LL' c x z) (nk : ((plainL LL).map (·.1)).Nodup) (e : Ex T H3 H4) {as bs : List Addr} {xs : List Sg} (ha : H4 x.2.1 = some (.lst (as.map V.ref))) (hb : Paired (IsSg H4) bs xs) :
    Lay H0 (upd H4 x.2.1 (.lst (as.map V.ref ++ bs.map V.ref))) dL (addL LL' c xs) ∧ Ex T H0 (upd H4 x.2.1 (.lst (as.map V.ref ++ bs.map V.ref))) ∧ plainL (addL LL' c xs) = lApp (plainL LL) c xs ∧ TpS H4 (upd H4 x.2.1 (.lst (as.map V.ref ++ bs.map V.ref))) := by
  have nk' : (LL'.map (·.1)).Nodup := by
    rw [← plain_keys, s.pl]
    exact lSet_keys _ _ nk
  refine ⟨lay_add (s.lay.mono e) nk' s.mem s.key ha hb, (s.ex.trans e).write (s.lay.new _ s.mem) ha own_lst, ?_, tps_write ha fun _ z => nomatch z⟩
  rw [addL_plain, s.pl]
  rfl
theorem SetD.at {T : Tbs} {H0 Hx H3 : Hp} {dL z : Addr} {LL LL' : LLs} {c B : Nat} {F : List (Sg × Nat)} {x : Nat × Addr × List Sg} (s : SetD T H0 Hx H3 dL LL LL' c x z) (hz : CSz B F (plainL LL)) : ∃ as : List Addr, H3 x.2.1 = some (.lst (as.map V.ref)) ∧ Paired (IsSg H3) as x.2.2 ∧ as.length ≤ B + 60 * F.length := by
  obtain ⟨as, h1, h2⟩ := s.lay.lots _ s.mem
  refine ⟨as, h1, h2, ?_⟩
  rw [Paired.length h2]
  have : (x.1, x.2.2) ∈ plainL LL' := List.mem_map.mpr ⟨x, s.mem, rfl⟩
  rw [s.pl] at this
  have q := mem_sum this
  rw [lSet_sum] at q
  exact Nat.le_trans q hz.sum
theorem cTake_mem {ties : List Tie} {c : Nat} {l : List Sg} {st : List (Sg × Nat) × Lays} (i : Nat) : ∀ f ∈ ((l.take i).foldl (cPut ties c) st).1, f ∈ (l.foldl (cPut ties c) st).1 := by
  intro f hf
  obtain ⟨G, h⟩ := cFold_grows ties c (l.drop i) ((l.take i).foldl (cPut ties c) st)
  rw [← List.foldl_append, List.take_append_drop] at h
  rw [h]
  exact List.mem_append_left _ hf
theorem cTake_len {ties : List Tie} {c : Nat} {l : List Sg} {st : List (Sg × Nat) × Lays} (i : Nat) : ((l.take i).foldl (cPut ties c) st).1.length ≤ (l.foldl (cPut ties c) st).1.length := by
  obtain ⟨G, h⟩ := cFold_grows ties c (l.drop i) ((l.take i).foldl (cPut ties c) st)
  rw [← List.foldl_append, List.take_append_drop] at h
  rw [h, List.length_append]
  omega
theorem cPut_some {ties : List Tie} {c x : Nat} {s : Sg} {st : List (Sg × Nat) × Lays} (h : aget st.1 s = some x) : cPut ties c st s = st := by
  unfold cPut
  rw [h]
theorem cPut_none {ties : List Tie} {c : Nat} {s : Sg} {st : List (Sg × Nat) × Lays} (h : aget st.1 s = none) : cPut ties c st s = (st.1 ++ [(s, c)], lApp st.2 (c + 1) ((slidesM ties s).map fun sl => slidM s sl)) := by
  unfold cPut
  rw [h]
theorem dn_ne {P : Program} {w : World} {H : Hp} {d e : Addr} {F : List (Sg × Nat)} {o : HO} (h : DN P w H d F) (he : H e = some o) (n : ∀ xs ep, o ≠ sdO P w d xs ep) : d ≠ e := by
  obtain ⟨xs, ep, h1, _⟩ := h
  intro z
  rw [← z, h1] at he
  exact n xs ep (Option.some.inj he).symm
theorem small32 {n : Nat} (h : n ≤ 100000) : n < sizeLine := Nat.lt_of_le_of_lt h (by decide)
end L2.K10
namespace L2.K10
open PySem PySem.Spec PyProof.Rows
theorem rd_dpop2 {σ : St} {H : Hp} {Q : VK} {i : Nat} {ty : TE} {d : Addr} {kvs : List (Key × V)} {k : Key} (hσ : σ[i]? = some (some (.ref d))) (hd : H d = some (.dK kvs)) (hy : ∀ Q', Q' (kV k) H → ty σ H Q')
    (h : ∀ v z H', H z = none → ((valV kvs k = some v ∧ H' = upd (upd H z (.lst [])) d (.dK (dropK kvs k))) ∨ (valV kvs k = none ∧ v = .ref z ∧ H' = upd H z (.lst []))) → Q v H') : tDPop2 (tVar i) ty (tLst tNil) σ H Q := by
  refine ⟨_, hσ, d, rfl, .inl ⟨_, .inl hd⟩, hy _ ?_⟩
  refine ⟨Nat.zero_le _, fun z nz => ⟨kvs, k, by rw [upd_ne (ne_of_none hd nz)]; exact hd, rfl, fun v hv => h v z _ nz (.inl ⟨hv, rfl⟩), fun hv => h _ z _ nz (.inr ⟨hv, rfl, rfl⟩)⟩⟩
theorem rd_dsetd {σ : St} {H : Hp} {Q : VK} {i : Nat} {ty : TE} {d : Addr} {kvs : List (Key × V)} {k : Key} (hσ : σ[i]? = some (some (.ref d))) (hd : H d = some (.dK kvs)) (hl : kvs.length < sizeLine) (hy : ∀ Q', Q' (kV k) H → ty σ H Q')
    (h : ∀ v z H', H z = none → ((valV kvs k = some v ∧ H' = upd H z (.lst [])) ∨ (valV kvs k = none ∧ v = .ref z ∧ H' = upd (upd H z (.lst [])) d (.dK (putK kvs k (.ref z))))) → Q v H') : tDSetd (tVar i) ty (tLst tNil) σ H Q := by
  refine ⟨_, hσ, d, rfl, .inl ⟨_, .inl hd⟩, hy _ ?_⟩
  refine ⟨Nat.zero_le _, fun z nz => ⟨kvs, k, by rw [upd_ne (ne_of_none hd nz)]; exact hd, rfl, hl, fun v hv => h v z _ nz (.inl ⟨hv, rfl⟩), fun hv => h _ z _ nz (.inr ⟨hv, rfl, rfl⟩)⟩⟩
end L2.K10

set_option Elab.async false
set_option linter.all false
set_option maxRecDepth 100000
set_option maxHeartbeats 4000000
namespace L2.K10
open PySem PySem.Spec PyProof.Rows
theorem fr_ok {names sn : List (Str × NameKind)} (h : (names.all fun y => match y.2 with | .free => (match sn.lookup y.1 with | some .cell => true | _ => false) | _ => true) = true) : ∀ y ∈ names, y.2 = .free → sn.lookup y.1 = some .cell := by
  intro y hy e
  have q := List.all_eq_true.mp h y hy
  simp only [e] at q
  split at q
  · assumption
  · cases q
section
variable {P : Program} {w : World} {K : PySem.W.Frag} {mg : Str → Option Value} {base : Heap}
abbrev nCosts : List Str := ["yard", "costs", "layers", "standing", "cost", "found", "slide", "key", "lot"]
theorem scCosts : FnScope nCosts ["yard", "costs"] (defScope (top 23)) := ⟨rfl, rfl, rfl, by decide +kernel, rfl, by decide +kernel, by decide +kernel⟩
def spCosts (P : Program) (w : World) (T : Tbs) : Sp := fun vs H Q _ => ∃ (y d : Addr) (Y : Yd) (C R : List (Sg × Nat)) (n k : Nat), vs = [.ref y, .ref d] ∧ IsY H y Y ∧ DN P w H d C ∧ TiesOk n Y.ties ∧ Y.ties.length ≤ 20 ∧ n ≤ 20 ∧ cRun Y.ties k [] (cStart C) 0 = some R ∧ C.length ≤ 500 ∧ R.length ≤ 500 ∧
  (∀ f ∈ R, f.1.length = n ∧ (slidesM Y.ties f.1).length ≤ 60) ∧ Tb T H ∧ ∀ H' r, Ex T H H' → H r = none → DN P w H' r R → Q (.ref r) H'
theorem ok_costs {T : Tbs} {c : Addr} {f fS fM fN : Addr} {fd fdS fdM fdN : FuncData} (F : FnP K "costs_after" 23 f fd) (hc : fd.code = .ref c) (TB : GxR.TabB base mg c T.c) (FS : FnP K "slides_of" 18 fS fdS) (FM : FnP K "slid" 17 fM fdM) (FN : FnP K "near" 12 fN fdN) (gS : mg "slides_of" = some (.ref fS)) (gM : mg "slid" = some (.ref fM)) (gN : mg "near" = some (.ref fN))
    (mS : mg "sorted" = none) (mE : mg "enumerate" = none) (mL : mg "list" = none) (mT : mg "tuple" = none) (mA : mg "any" = none) : FnOk P w K mg base CX0 3 f fd ["yard", "costs"] (spCosts P w T) := by
  have GS : FnOk P w K mg base CX0 2 fS fdS ["yard", "standing"] (spSlides T) := ok_slides FS FN gN mS mE
  have GM : FnOk P w K mg base CX0 1 fM fdM ["standing", "slide"] (spSlid T) := ok_slid FM mL mT
  have bS : Binds K fdS ["yard", "standing"] [] := FS.bindsN fun _ _ _ _ _ _ us hl => match us, hl with | [_, _], _ => rfl
  have bM : Binds K fdM ["standing", "slide"] [] := FM.bindsN fun _ _ _ _ _ _ us hl => match us, hl with | [_, _], _ => rfl
  refine okT F hc scCosts (fun vs H Q E h => ?_) (fun A outer s H vs Q E hr h => ?_)
  · obtain ⟨y, d, Y, C, R, n, k, rfl, _⟩ := h
    rfl
  · obtain ⟨y, dc, Y, C, R, n, k, rfl, hY, hC, hT, hl1, hl2, hrun, hCl, hRl, hRw, hTb, q⟩ := h
    have hu := hu_of hr
    refine ⟨_, PSs.nox (pss_cons (ps_asg (pe_tup (pa_cons pe_nnew (pa_cons pe_dnewK pa_nil))) (pg_tup (by rfl) (pgs_cons (pg_name (i := 5) scCosts.nd rfl (.inr rfl)) (pgs_cons (pg_name (i := 2) scCosts.nd rfl (.inl rfl)) pgs_nil))))
      (pss_cons (ps_for PassesOwn.never rfl (pi_ni (pv 1)) (pg_tup (by rfl) (pgs_cons (pg_name (i := 3) scCosts.nd rfl (.inr rfl)) (pgs_cons (pg_name (i := 4) scCosts.nd rfl (.inl rfl)) pgs_nil)))
        (pss_one (ps_expr (pe_bm PySem.F.plainAttrs_list PySem.F.slot_list_append PySem.F.type_list_append mt_append (pe_dsetd (pv 2) (pv 4) (pe_lst pa_nil) ⟨rfl, rfl, rfl, rfl⟩) (pa_cons (pv 3) pa_nil)))))
      (pss_cons (ps_set (i := 4) scCosts.nd rfl (.inl rfl) pe_int)
      (pss_cons (ps_while PassesOwn.never (pt_truth (pv 2) (fun _ => rfl))
        (pss_cons (ps_for PassesOwn.never rfl (pi_list (pe_dpop2 (pv 2) (pv 4) (pe_lst pa_nil) ⟨rfl, rfl, rfl, rfl⟩)) (pg_name (i := 3) scCosts.nd rfl (.inr rfl))
          (pss_one (ps_if (pt_cmp (pc_nnotin hu (pv 3) (pv 5)))
            (pss_cons (ps_nput hu (pv 5) (pv 3) (pv 4) (by intros; rfl))
              (pss_one (ps_expr (pe_bm PySem.F.plainAttrs_list PySem.F.slot_list_extend PySem.F.type_list_extend mt_extend (pe_dsetd (pv 2) (pe_op op_add (pv 4) pe_int) (pe_lst pa_nil) ⟨rfl, rfl, rfl, rfl⟩) (pa_cons
                (pe_lc (own := [("slide", 6)]) (g := gName 6) (tt := tYes) (te := tCall (spSlid T) [] E0 (tCons (tVar 3) (tCons (tVar 6) tNil))) (by rfl) scCosts.nd
                  (pi_list (pe_call GS hr (by rfl) gS FS.kp bS .nil pass0 (pa_cons (pv 0) (pa_cons (pv 3) pa_nil))))
                  (blkOk_by (own := [("slide", 6)]) (N := nCosts) (sc := defScope (top 23)) (by decide +kernel)) (fun _ _ _ _ _ => pg_name (i := 6) scCosts.nd rfl (.inl rfl)) (fun _ _ _ _ _ => pts_nil)
                  (fun _ _ _ _ _ => pe_call GM (hr.mono (by decide)) (by rfl) gM FM.kp bM .nil pass0 (pa_cons (pv 3) (pa_cons (pv 6) pa_nil)))) pa_nil))))) pss_nil)))
        (pss_cons (ps_lock (
          (ps_setDc (i := 2) (own := [("key", 7), ("lot", 8)]) (g := gP2 K 7 8) (tt := tB (tAnyNin P w K T.c 5 (tVar 8))) (tk := tVar 7) (tv := tVar 8) (by rfl) scCosts.nd rfl rfl (dsw_true rfl rfl rfl (by decide +kernel)) (pi_items (pv 2))
            (blkOk_by (own := [("key", 7), ("lot", 8)]) (N := nCosts) (sc := defScope (top 23)) (by decide +kernel))
            (fun _ _ _ _ _ => pg_tup (by rfl) (pgs_cons (pg_name (i := 7) scCosts.nd rfl (.inl rfl)) (pgs_cons (pg_name (i := 8) scCosts.nd rfl (.inl rfl)) pgs_nil)))
            (fun _ _ _ _ _ => pts_one (pt_val (pe_any_nin hr (by rfl) mA TB rfl rfl rfl (by decide +kernel) rfl rfl (fr_ok (by rfl)) (pv 8) rfl rfl rfl (by rfl) (by intro _; rfl))))
            (fun _ _ _ _ _ => pv 7) (fun _ _ _ _ _ => pv 8))))
        (pss_one (ps_aug (i := 4) scCosts.nd rfl (.inl rfl) pe_int ip_add)))))
      (pss_one (ps_ret (pv 5))))))), ?_⟩
    simp only [cxp, cxw, cxk, cxp', cxw', cxk']
    refine fun dF nF => ?_
    have e1 : Ex T H (upd H dF (sdO P w dF [] 0)) := ex_new nF
    have hF1 : upd H dF (sdO P w dF [] 0) dF = some (sdO P w dF [] 0) := upd_same
    generalize upd H dF (sdO P w dF [] 0) = H1 at e1 hF1 ⊢
    refine fun dL ndL1 => ?_
    have ndL : H dL = none := e1.free _ ndL1
    have e2 := e1.trans (ex_new (o := .dK []) ndL1)
    have hF2 : upd H1 dL (.dK []) dF = some (sdO P w dF [] 0) := by rw [upd_ne (ne_of_none hF1 ndL1)]; exact hF1
    have hL2 : upd H1 dL (.dK []) dL = some (.dK []) := upd_same
    generalize upd H1 dL (.dK []) = H2 at e2 hF2 hL2 ⊢
    refine ⟨by show 2 ≤ sizeLine; decide, fun t nt => ?_⟩
    have e3 := e2.trans (ex_new (o := .tup [V.ref dF, V.ref dL]) nt)
    have hF3 : upd H2 t (.tup [V.ref dF, V.ref dL]) dF = some (sdO P w dF [] 0) := by rw [upd_ne (ne_of_none hF2 nt)]; exact hF2
    have hL3 : upd H2 t (.tup [V.ref dF, V.ref dL]) dL = some (.dK []) := by rw [upd_ne (ne_of_none hL2 nt)]; exact hL2
    refine ⟨t, _, rfl, .of upd_same, rfl, _, _, rfl, _, _, rfl, rfl, ?_⟩
    generalize upd H2 t (.tup [V.ref dF, V.ref dL]) = H3 at e3 hF3 hL3 ⊢
    -- the costs
    obtain ⟨xC, epC, hC3, pC⟩ := DN.mono e3 hC
    have lC : xC.length = C.length := Paired.length pC
    have fin0 : ∀ (i : Nat) (Hx : Hp) (LL : LLs), plainL LL = (C.take i).foldl (fun L f => lApp L f.2 [f.1]) [] → i ≤ C.length → CSz C.length [] (plainL LL) := fun i Hx LL hpl hi => by
      have z := CSz.start (costs := C) i
      rw [← hpl] at z
      exact ⟨z.nd, Nat.le_trans z.len (by omega), Nat.le_trans z.sum (by omega)⟩
    refine ⟨_, rfl, dc, xC, epC, rfl, hC3, for_it walk_ni (fun i σ Hx => ∃ z3 z4 LL, σ = [some (.ref y), some (.ref dc), some (.ref dL), z3, z4, some (.ref dF), none, none, none] ∧ Ex T H Hx ∧ Lay H Hx dL LL ∧ plainL LL = (C.take i).foldl (fun L f => lApp L f.2 [f.1]) [] ∧ Hx dF = some (sdO P w dF [] 0) ∧ TpS H3 Hx ∧ Hx dc = some (sdO P w dc xC epC))
      ⟨none, none, [], rfl, e3, ⟨hL3, by simp, .nil, by simp⟩, rfl, hF3, .refl, hC3⟩ (fun i σ Hx _ ⟨_, _, _, _, _, _, _, _, _, h⟩ => h) (fun i x σ Hx Hx' hi hP hy => ?_) (fun σ Hx hP => ?_)⟩
    · obtain ⟨z3, z4, LL, rfl, e4, hL4, hpl, hF4, t4, hc4⟩ := hP
      obtain ⟨T1, kk, a, v, hx, rfl, nT, rfl⟩ := hy
      obtain ⟨f, hf, hfk, hfa, hfv⟩ := paired_at pC hx
      simp only at hfk hfa hfv
      subst hfk
      obtain rfl : v = nV f.2 := hfv
      have hz := fin0 i Hx LL hpl (by omega)
      have exT := ex_new (T := T) (o := .tup [.ref a, nV f.2]) nT
      have e5 := e4.trans exT
      have hL5 := hL4.mono exT
      have hF5 := exT.keep _ _ hF4 own_sd.1
      have hc5 := exT.keep _ _ hc4 own_sd.1
      have t5 := t4.trans exT.tps
      refine ⟨T1, _, rfl, .of upd_same, rfl, _, _, rfl, _, _, rfl, rfl, ?_⟩
      generalize upd Hx T1 (.tup [.ref a, nV f.2]) = H5 at e5 hL5 hF5 t5 hc5 ⊢
      clear exT e4 hL4 hF4 t4 nT hc4
      have fin : ∀ (H6 : Hp) (LL' : LLs) (x : Nat × Addr × List Sg) (z : Addr), H5 z = none → SetD T H H5 H6 dL LL LL' f.2 x z → 
          tyV K "list" (.ref x.2.1) H6 ∧ ∃ l xs y2, V.ref x.2.1 = .ref l ∧ [V.ref a] = [y2] ∧ H6 l = some (.lst xs) ∧ xs.length < sizeLine ∧ ∃ z3 z4 LL, ([some (.ref y), some (.ref dc), some (.ref dL), some (.ref a), some (nV f.2), some (.ref dF), none, none, none] : St) = [some (.ref y), some (.ref dc), some (.ref dL), z3, z4, some (.ref dF), none, none, none] ∧ Ex T H (upd H6 l (.lst (xs ++ [y2]))) ∧
            Lay H (upd H6 l (.lst (xs ++ [y2]))) dL LL ∧ plainL LL = (C.take (i + 1)).foldl (fun L f => lApp L f.2 [f.1]) [] ∧ (upd H6 l (.lst (xs ++ [y2]))) dF = some (sdO P w dF [] 0) ∧ TpS H3 (upd H6 l (.lst (xs ++ [y2]))) ∧ (upd H6 l (.lst (xs ++ [y2]))) dc = some (sdO P w dc xC epC) := by
        intro H6 LL' x z nz s
        obtain ⟨as, h1, h2, h3⟩ := s.at hz
        refine ⟨.inl ⟨rfl, _, .of h1⟩, x.2.1, _, _, rfl, rfl, h1, small32 (by rw [List.length_map]; simp at h3; omega), ?_⟩
        obtain ⟨g1, g2, g3, g4⟩ := s.grow hz.nd .refl (bs := [a]) (xs := [f.1]) h1 (.cons (hfa.mono (t5.trans s.tps)) .nil)
        have kF : H6 dF = some (sdO P w dF [] 0) := by
          rw [s.same _ (fun zz => ?_) (fun zz => ?_)]
          · exact hF5
          · rw [zz, hL5.hd] at hF5
            cases hF5
          · rw [zz, nz] at hF5
            cases hF5
        have kC : H6 dc = some (sdO P w dc xC epC) := by
          rw [s.same _ (fun zz => ?_) (fun zz => ?_)]
          · exact hc5
          · rw [zz, hL5.hd] at hc5
            cases hc5
          · rw [zz, nz] at hc5
            cases hc5
        refine ⟨_, _, _, rfl, g2, g1, ?_, ?_, (t5.trans s.tps).trans g4, ?_⟩
        · rw [g3, hpl, List.take_add_one, hf, List.foldl_append]
          rfl
        · rw [upd_ne fun zz => ?_]
          · exact kF
          · rw [zz, h1] at kF
            cases kF
        · rw [upd_ne fun zz => ?_]
          · exact kC
          · rw [zz, h1] at kC
            cases kC
      refine ⟨_, rfl, dL, rfl, .inl ⟨_, .inl hL5.hd⟩, _, rfl, Nat.zero_le _, fun z nz => ?_⟩
      obtain ⟨s1, s2⟩ := lay_setd (c := f.2) hL5 e5 ndL nz
      refine ⟨kvL LL, .inl (f.2 : Int), by rw [upd_ne (ne_of_none hL5.hd nz)]; exact hL5.hd, rfl, small32 (by rw [kvL_len]; have := hz.len; simp at this; omega), fun v hv => ?_, fun hv => ?_⟩
      · obtain ⟨LL', x, rfl, s⟩ := s1 v hv
        obtain ⟨ty, l, xs, y2, q1, q2, q3, q4, q5⟩ := fin _ LL' x z nz s
        exact ⟨ty, _, rfl, l, xs, y2, q1, q2, q3, q4, q5⟩
      · obtain ⟨LL', x, rfl, s⟩ := s2 hv
        obtain ⟨ty, l, xs, y2, q1, q2, q3, q4, q5⟩ := fin _ LL' x _ nz s
        exact ⟨ty, _, rfl, l, xs, y2, q1, q2, q3, q4, q5⟩
    · obtain ⟨z3, z4, LL, rfl, e4, hL4, hpl, hF4, t4, hc4⟩ := hP
      rw [lC, List.take_length] at hpl
      have hz := fin0 C.length Hx LL (by rw [List.take_length]; exact hpl) (Nat.le_refl _)
      have hpl : plainL LL = cStart C := hpl
      rw [← hpl] at hrun
      clear e1 e2 e3 hF1 hF2 hL2 hF3 hL3 hC3 pC lC fin0 hpl nt t4 hc4
      -- while layers
      let PW : Nat → St → Hp → Prop := fun m σ Hc => ∃ (F : List (Sg × Nat)) (LL : LLs) (ct : Nat) (dL : Addr) (z3 : Option V), σ = [some (.ref y), some (.ref dc), some (.ref dL), z3, some (nV ct), some (.ref dF), none, none, none] ∧ Ex T H Hc ∧ H dL = none ∧ Lay H Hc dL LL ∧ DN P w Hc dF F ∧ cRun Y.ties m F (plainL LL) ct = some R ∧ CSz C.length F (plainL LL)
      refine ⟨PW, ⟨k, [], LL, 0, dL, z3, rfl, e4, ndL, hL4, ⟨[], 0, hF4, .nil⟩, hrun, hz⟩, ?_⟩
      clear hrun hz hL4 ndL ndL1 e4 hF4
      rintro m σ Hc ⟨F, LL, ct, dL, z3, rfl, e4, ndL, hL4, hF4, hrun, hz⟩
      refine ⟨_, rfl, !(kvL LL).isEmpty, .inr (.inr ⟨_, hL4.hd, rfl⟩), ?_⟩
      by_cases hempty : LL = []
      · subst hempty
        refine iteF ⟨_, rfl, q _ dF e4 nF ?_⟩
        rw [cRun_nil hrun]
        exact hF4
      · have hne : (!(kvL LL).isEmpty) = true := by
          cases LL with
          | nil => exact absurd rfl hempty
          | cons _ _ => rfl
        rw [hne]
        obtain ⟨m', rfl, hrun'⟩ := cRun_cons (fun zz => hempty (List.map_eq_nil_iff.mp zz)) hrun
        have hrun' : cRun Y.ties m' (cLot Y.ties ct F (plainL LL)).1 (cKeep (cLot Y.ties ct F (plainL LL)).1 (cLot Y.ties ct F (plainL LL)).2) (ct + 1) = some R := hrun'
        refine iteT ⟨fun σ' H' => ∃ m2, m2 < m' + 1 ∧ PW m2 σ' H', fun σ' H' h => h, ?_⟩
        rw [tSeq, tFor, iList]
        refine rd_dpop2 (k := .inl (ct : Int)) rfl hL4.hd (fun Q' h => ⟨_, rfl, h⟩) fun v z Hp nz hvp => ?_
        have ez := ex_new (T := T) (o := .lst []) nz
        have hpop : ∃ (lp : Addr) (as : List Addr) (LL1 : LLs), v = .ref lp ∧ Ex T H Hp ∧ Lay H Hp dL LL1 ∧ plainL LL1 = lDrop (plainL LL) ct ∧ DN P w Hp dF F ∧ Hp lp = some (.lst (as.map V.ref)) ∧ Paired (IsSg Hp) as (lGet (plainL LL) ct) ∧ ∀ e ∈ LL1, e.2.1 ≠ lp := by
          have hLz := hL4.mono ez
          rcases hvp with ⟨hv, rfl⟩ | ⟨hv, rfl, rfl⟩
          · obtain ⟨x, hx, hxc, rfl, hxg, hh⟩ := kv_val_some hv
            obtain ⟨as, h1, h2⟩ := hLz.lots x hx
            have tw := tps_write (o := HO.dK (dropK (kvL LL) (.inl (ct : Int)))) hLz.hd (fun _ z => nomatch z)
            refine ⟨x.2.1, as, LL.filter fun e => decide (e.1 ≠ ct), rfl, (e4.trans ez).write ndL hLz.hd own_dK, by rw [kv_drop]; exact lay_filter hLz _, plain_drop LL ct, ?_, by rw [upd_ne (lot_ne_d hLz hx)]; exact h1, by rw [hxg]; exact IsSgs.mono tw h2, fun y hy e => ?_⟩
            · obtain ⟨xs, ep, g1, g2⟩ := hF4.mono ez
              exact ⟨xs, ep, by rw [upd_ne fun zz => by rw [zz, hLz.hd] at g1; cases g1]; exact g1, er_mono tw (fun _ _ z => z) g2⟩
            · obtain ⟨hy1, hy2⟩ := List.mem_filter.mp hy
              obtain ⟨i, hi, e1⟩ := List.getElem_of_mem hy1
              obtain ⟨j, hj, e2⟩ := List.getElem_of_mem hx
              have hij : i = j := by
                refine (List.getElem_inj hL4.na (i := i) (j := j) (h₀ := by rw [List.length_map]; exact hi) (h₁ := by rw [List.length_map]; exact hj)).mp ?_
                rw [List.getElem_map, List.getElem_map, e1, e2, e]
              subst hij
              rw [← e1, e2] at hy2
              exact (of_decide_eq_true hy2) hxc
          · have hh := kv_val_none hv
            refine ⟨z, [], LL, rfl, e4.trans ez, hLz, (drop_none hh).symm, hF4.mono ez, upd_same, by rw [lGet_none hh]; exact .nil, fun e he => ?_⟩
            obtain ⟨as, h1, _⟩ := hL4.lots e he
            exact ne_of_none h1 nz
        obtain ⟨lp, as, LL1, rfl, e5, hL5, hpl5, hF5, hp5, has5, hne5⟩ := hpop
        clear hvp ez nz e4 hL4 hF4
        have hinR : ∀ i, ∀ f ∈ (((lGet (plainL LL) ct).take i).foldl (cPut Y.ties ct) (F, lDrop (plainL LL) ct)).1, f ∈ R := fun i f hf => by
          obtain ⟨G, hG⟩ := cRun_grows hrun'
          rw [hG]
          exact List.mem_append_left _ (cTake_mem i f hf)
        have hlenR : ∀ i, (((lGet (plainL LL) ct).take i).foldl (cPut Y.ties ct) (F, lDrop (plainL LL) ct)).1.length ≤ 500 := fun i => by
          obtain ⟨G, hG⟩ := cRun_grows hrun'
          have h1 := cTake_len (ties := Y.ties) (c := ct) (l := lGet (plainL LL) ct) (st := (F, lDrop (plainL LL) ct)) i
          have h2 : R.length = (cLot Y.ties ct F (plainL LL)).1.length + G.length := by rw [hG, List.length_append]
          have h3 : (cLot Y.ties ct F (plainL LL)).1.length = ((lGet (plainL LL) ct).foldl (cPut Y.ties ct) (F, lDrop (plainL LL) ct)).1.length := rfl
          omega
        have hcsz : ∀ i, CSz C.length (((lGet (plainL LL) ct).take i).foldl (cPut Y.ties ct) (F, lDrop (plainL LL) ct)).1 (((lGet (plainL LL) ct).take i).foldl (cPut Y.ties ct) (F, lDrop (plainL LL) ct)).2 := fun i => by
          induction i with
          | zero => exact hz.filter _
          | succ i ih =>
            have hR := hinR (i + 1)
            rw [List.take_add_one] at hR ⊢
            cases hst : (lGet (plainL LL) ct)[i]? with
            | none =>
              simp only [Option.toList, List.append_nil]
              exact ih
            | some st =>
              rw [hst, List.foldl_append] at hR
              rw [List.foldl_append]
              simp only [Option.toList, List.foldl_cons, List.foldl_nil] at hR ⊢
              cases hag : aget (((lGet (plainL LL) ct).take i).foldl (cPut Y.ties ct) (F, lDrop (plainL LL) ct)).1 st with
              | some cc =>
                rw [cPut_some hag]
                exact ih
              | none =>
                refine ih.put (hRw (st, ct) (hR _ ?_)).2
                rw [cPut_none hag]
                exact List.mem_append_right _ (List.mem_singleton.mpr rfl)
        refine ⟨lp, rfl, ⟨_, .of hp5⟩, for_list (xs := as.map V.ref) (fun i σ Hx => ∃ z3 F' LL', σ = [some (.ref y), some (.ref dc), some (.ref dL), z3, some (nV ct), some (.ref dF), none, none, none] ∧ Ex T H Hx ∧ Lay H Hx dL LL' ∧ DN P w Hx dF F' ∧
            (F', plainL LL') = ((lGet (plainL LL) ct).take i).foldl (cPut Y.ties ct) (F, lDrop (plainL LL) ct) ∧ Hx lp = some (.lst (as.map V.ref)) ∧ Paired (IsSg Hx) as (lGet (plainL LL) ct) ∧ ∀ e ∈ LL', e.2.1 ≠ lp)
          ⟨z3, F, LL1, rfl, e5, hL5, hF5, by rw [hpl5]; rfl, hp5, has5, hne5⟩ (fun i σ Hx _ ⟨_, _, _, _, _, _, _, _, h, _⟩ => .of h) (fun i x σ Hx hx hP => ?_) (fun σ Hx hP => ?_)⟩
        · clear e5 hL5 hF5 hp5 has5 hne5
          obtain ⟨z3, F', LL', rfl, e6, hL6, hF6, hfl, hp6, has6, hne6⟩ := hP
          obtain ⟨b, st, rfl, hst, hb⟩ := sgs_at has6 hx
          have hnext : ((lGet (plainL LL) ct).take (i + 1)).foldl (cPut Y.ties ct) (F, lDrop (plainL LL) ct) = cPut Y.ties ct (F', plainL LL') st := by
            rw [List.take_add_one, hst, List.foldl_append, ← hfl]
            rfl
          have hz6 := hcsz i
          rw [← hfl] at hz6
          simp only at hz6
          have hR7 := hinR (i + 1)
          rw [hnext] at hR7
          rw [hnext]
          have hFl := hlenR i
          rw [← hfl] at hFl
          simp only at hFl
          clear hcsz hinR hlenR
          obtain ⟨xF, epF, hdF, pF⟩ := id hF6
          refine ⟨_, rfl, _, rfl, dF, xF, b, st, rfl, ⟨epF, hdF, er_keys pF⟩, rfl, hb, _, rfl, ?_⟩
          rw [er_isSome pF]
          cases hag : aget F' st with
          | some cc =>
            refine iteF ?_
            refine ⟨_, F', LL', rfl, e6, hL6, hF6, ?_, hp6, has6, hne6⟩
            rw [cPut_some (show aget (F', plainL LL').1 st = some cc from hag)]
          | none =>
            refine iteT ?_
            have hcp : cPut Y.ties ct (F', plainL LL') st = (F' ++ [(st, ct)], lApp (plainL LL') (ct + 1) ((slidesM Y.ties st).map fun sl => slidM st sl)) := cPut_none hag
            rw [hcp] at hR7 ⊢
            obtain ⟨hsl, hsn⟩ := hRw (st, ct) (hR7 _ (List.mem_append_right _ (List.mem_singleton.mpr rfl)))
            simp only at hsl hsn
            have hxl : xF.length = F'.length := Paired.length pF
            have hxg := xget_none_of pF hag
            refine ⟨_, rfl, _, rfl, _, rfl, dF, xF, b, st, rfl, ⟨epF, hdF, er_keys pF⟩, rfl, hb, small32 (by omega), fun ep => ?_⟩
            rw [xput_new hxg]
            have ndFL : dL ≠ dF := fun zz => by
              have := hL6.hd
              rw [zz, hdF] at this
              cases this
            have nlF : ∀ e ∈ LL', e.2.1 ≠ dF := fun e he zz => by
              obtain ⟨as', h1, _⟩ := hL6.lots e he
              rw [zz, hdF] at h1
              cases h1
            have tw := tps_write (o := sdO P w dF (xF ++ [(st, b, nV ct)]) ep) hdF (fun _ z => nomatch z)
            have e7 := e6.write (o := sdO P w dF (xF ++ [(st, b, nV ct)]) ep) nF hdF own_sd
            have hL7 : Lay H (upd Hx dF (sdO P w dF (xF ++ [(st, b, nV ct)]) ep)) dL LL' := hL6.other hdF (fun _ z => nomatch z) ndFL nlF
            have hF7 : DN P w (upd Hx dF (sdO P w dF (xF ++ [(st, b, nV ct)]) ep)) dF (F' ++ [(st, ct)]) := ⟨_, ep, upd_same, Paired.snoc (er_mono tw (fun _ _ z => z) pF) ⟨rfl, hb.mono tw, rfl⟩⟩
            have hp7 : upd Hx dF (sdO P w dF (xF ++ [(st, b, nV ct)]) ep) lp = some (.lst (as.map V.ref)) := by
              rw [upd_ne fun zz => by rw [zz, hdF] at hp6; cases hp6]
              exact hp6
            have has7 := IsSgs.mono tw has6
            have hb7 := hb.mono tw
            generalize upd Hx dF (sdO P w dF (xF ++ [(st, b, nV ct)]) ep) = H7 at e7 hL7 hF7 hp7 has7 hb7 ⊢
            clear tw e6 hL6 hF6 hdF pF hp6 has6 hb nlF ndFL hxg hxl
            show tDrop (tBM K "list" rExtend (tDSetd (tVar 2) (tOp (rI0 fun i j => V.int (i + j)) (tVar 4) (tC (V.int 1))) (tLst tNil)) _) _ _ _
            rw [tDrop, tBM]
            refine rd_dsetd (k := .inl ((ct + 1 : Nat) : Int)) rfl hL7.hd (small32 (by rw [kvL_len]; have := hz6.len; omega)) (fun Q' h => ⟨_, rfl, _, _, rfl, rfl, h⟩) fun v z H8 nz hv => ?_
            have hset : ∃ LL2 x, v = .ref x.2.1 ∧ SetD T H H7 H8 dL LL' LL2 (ct + 1) x z := by
              obtain ⟨s1, s2⟩ := lay_setd (c := ct + 1) hL7 e7 ndL nz
              rcases hv with ⟨hv, rfl⟩ | ⟨hv, rfl, rfl⟩
              · obtain ⟨LL2, x, rfl, s⟩ := s1 v hv
                exact ⟨LL2, x, rfl, s⟩
              · obtain ⟨LL2, x, rfl, s⟩ := s2 hv
                exact ⟨LL2, x, rfl, s⟩
            obtain ⟨LL2, x, rfl, s⟩ := hset
            clear hv
            obtain ⟨ls, hx8, hls8, hlsl⟩ := s.at hz6
            have nlz : lp ≠ z := ne_of_none hp7 nz
            have hp8 : H8 lp = some (.lst (as.map V.ref)) := by
              rw [s.same _ (fun zz => by rw [zz, hL7.hd] at hp7; cases hp7) nlz]
              exact hp7
            have hF8 : DN P w H8 dF (F' ++ [(st, ct)]) := by
              obtain ⟨xs, ep', g1, g2⟩ := hF7
              refine ⟨xs, ep', ?_, er_mono s.tps (fun _ _ z => z) g2⟩
              rw [s.same _ (fun zz => by rw [zz, hL7.hd] at g1; cases g1) (ne_of_none g1 nz)]
              exact g1
            have has8 := IsSgs.mono s.tps has7
            have hb8 := hb7.mono s.tps
            refine ⟨.inl ⟨rfl, _, .of hx8⟩, _, rfl, _, rfl, y, b, Y, st, rfl, hY.mono s.ex.tps, hb8, by rw [hsl]; exact hT, hl1, by rw [hsl]; exact hl2, fun H9 p e9 np hp => ?_⟩
            obtain ⟨ps, hp9, hps⟩ := hp
            refine ⟨p, rfl, ⟨_, .of hp9⟩, fun D nD => ?_⟩
            refine lc_list (xs := ps.map V.ref) (fun j H10 => ∃ ds : List Addr, Ex T H9 H10 ∧ H10 D = some (.lst (ds.map V.ref)) ∧ Paired (IsSg H10) ds (((slidesM Y.ties st).take j).map fun sl => slidM st sl))
              ⟨[], ex_new nD, upd_same, .nil⟩ (fun j H10 _ ⟨ds, e10, _⟩ => .of (e10.keep _ _ hp9 own_lst.1)) (fun j x2 H10 hx2 ⟨ds, e10, hD10, hds⟩ => ?_) (fun H10 ⟨ds, e10, hD10, hds⟩ => ?_)
            · obtain ⟨sa, sl, rfl, hsl2, hsa⟩ := ips_at hps hx2
              obtain ⟨k1, k2, k3⟩ := slides_ok (List.mem_of_getElem? hsl2)
              refine ⟨rfl, _, rfl, _, rfl, b, sa, st, sl, rfl, hb8.mono (e9.tps.trans e10.tps), hsa.mono e10.tps, k1, k2, k3, by rw [hsl]; exact hl2, fun H11 r e11 nr hr11 => ⟨_, e11.keep _ _ hD10 own_lst.1, ?_, ?_⟩⟩
              · have h1 := Paired.length hds
                rw [List.length_map, List.length_take] at h1
                exact small32 (by rw [List.length_map]; omega)
              · have hD11 := e11.keep _ _ hD10 own_lst.1
                have tw := tps_write (o := HO.lst (ds.map V.ref ++ [V.ref r])) hD11 (fun _ z => nomatch z)
                refine ⟨ds ++ [r], (e10.trans e11).write nD hD11 own_lst, by rw [upd_same, List.map_append]; rfl, ?_⟩
                rw [List.take_add_one, hsl2, List.map_append]
                exact Paired.snoc (IsSgs.mono (e11.tps.trans tw) hds) (hr11.mono tw)
            · rw [List.length_map, Paired.length hps, List.take_length] at hds
              have e9' := e9.trans e10
              have hx10 := e9'.keep _ _ hx8 own_lst.1
              obtain ⟨g1, g2, g3, g4⟩ := s.grow hz6.nd e9' hx10 hds
              have hdl := Paired.length hds
              rw [List.length_map] at hdl
              refine ⟨x.2.1, D, _, _, rfl, rfl, hx10, hD10, Nat.le_of_lt (small32 (by rw [List.length_map, List.length_map]; omega)), ?_⟩
              have nlx : lp ≠ x.2.1 := fun zz => by
                rcases s.ad _ s.mem with h | h
                · obtain ⟨e, he, h⟩ := List.mem_map.mp h
                  exact hne6 e he (h.trans zz.symm)
                · exact nlz (zz.trans h)
              refine ⟨_, _, _, rfl, g2, g1, ?_, by rw [g3], by rw [upd_ne nlx]; exact e9'.keep _ _ hp8 own_lst.1, IsSgs.mono (e9'.tps.trans g4) has8, fun e he zz => ?_⟩
              · obtain ⟨xs, ep', q1, q2⟩ := hF8.mono e9'
                exact ⟨xs, ep', by rw [upd_ne fun zz => by rw [zz, hx10] at q1; cases q1]; exact q1, er_mono g4 (fun _ _ z => z) q2⟩
              · have hm : e.2.1 ∈ (addL LL2 (ct + 1) ((slidesM Y.ties st).map fun sl => slidM st sl)).map (·.2.1) := List.mem_map.mpr ⟨e, he, rfl⟩
                rw [addL_ad] at hm
                obtain ⟨e', he', q⟩ := List.mem_map.mp hm
                rcases s.ad _ he' with h | h
                · obtain ⟨e2, he2, h⟩ := List.mem_map.mp h
                  exact hne6 e2 he2 (h.trans (q.trans zz))
                · exact nlz (zz.symm.trans (q.symm.trans h))
        · clear e5 hL5 hF5 hp5 has5 hne5
          obtain ⟨z3, F', LL', rfl, e6, hL6, hF6, hfl, hp6, has6, hne6⟩ := hP
          have hz6 := hcsz as.length
          rw [List.length_map] at hfl
          rw [← hfl] at hz6
          simp only at hz6
          rw [Paired.length has6, List.take_length] at hfl
          have hF'e : F' = (cLot Y.ties ct F (plainL LL)).1 := congrArg Prod.fst hfl
          have hL'e : plainL LL' = (cLot Y.ties ct F (plainL LL)).2 := congrArg Prod.snd hfl
          rw [← hF'e, ← hL'e] at hrun'
          have hFl : F'.length ≤ 500 := by
            have := hlenR (lGet (plainL LL) ct).length
            rw [List.take_length, ← hfl] at this
            exact this
          clear hcsz hinR hlenR hp6 has6 hne6 hfl hF'e hL'e
          have nk : (LL'.map (·.1)).Nodup := by rw [← plain_keys]; exact hz6.nd
          refine ⟨dL, .dK (kvL LL'), hL6.hd, trivial, fun od => ?_⟩
          refine ⟨_, rfl, dL, od, kvL LL', rfl, upd_same, fun D nD => ?_⟩
          have ef : Ex T H (upd Hx dL (.frz od (.dK (kvL LL')))) := e6.write ndL hL6.hd own_dK
          have tf : TpS Hx (upd Hx dL (.frz od (.dK (kvL LL')))) := tps_write hL6.hd fun _ z => nomatch z
          have hfd : upd Hx dL (.frz od (.dK (kvL LL'))) dL = some (.frz od (.dK (kvL LL'))) := upd_same
          have nDd : dL ≠ D := ne_of_none hfd nD
          have hlot : ∀ e ∈ LL', LotAt (upd Hx dL (.frz od (.dK (kvL LL')))) e.2.1 e.2.2 := fun e he => (hL6.lots e he).mono (fun o ho => by rw [upd_ne (lot_ne_d hL6 he)]; exact ho) tf
          have hFf : DN P w (upd Hx dL (.frz od (.dK (kvL LL')))) dF F' := by
            obtain ⟨xs, ep, q1, q2⟩ := hF6
            refine ⟨xs, ep, ?_, er_mono tf (fun _ _ z => z) q2⟩
            rw [upd_ne fun zz => ?_]
            · exact q1
            · have := hL6.hd
              rw [← zz, q1] at this
              cases this
          have ndLF : ∀ e ∈ LL', e.2.1 ≠ dL := fun e he => lot_ne_d hL6 he
          have hna := hL6.na
          have hnew := hL6.new
          have hlen : (kvL LL').length ≤ 1000 := by rw [kvL_len]; have := hz6.len; omega
          generalize upd Hx dL (.frz od (.dK (kvL LL'))) = Hf at ef tf hfd hlot hFf nD ⊢
          have eD := ex_new (T := T) (o := .dK []) nD
          refine dc_it walk_items (fun i H10 => Ex T Hf H10 ∧ H10 D = some (.dK (kvL ((LL'.take i).filter fun e => e.2.2.any fun s => !(aget F' s).isSome))))
            ⟨eD, upd_same⟩ (fun i H10 _ ⟨e10, _⟩ => e10.keep _ _ hfd fun _ z => nomatch z) (fun i x H10 H11 hi hP hy => ?_) (fun H10 hP => ?_)
          · obtain ⟨e10, hD10⟩ := hP
            obtain ⟨T1, x1, x2, rfl, nT, rfl, h1, h2⟩ := hy
            unfold kvL at hi
            rw [List.length_map] at hi
            have he : LL'[i]? = some LL'[i] := List.getElem?_eq_getElem hi
            have hm := List.getElem_mem hi
            generalize LL'[i] = e at he hm
            have hkv : (kvL LL')[i]? = some (Sum.inl (e.1 : Int), V.ref e.2.1) := by unfold kvL; rw [List.getElem?_map, he]; rfl
            simp only [hkv, Option.map_some, Option.some.injEq] at h1 h2
            subst h1 h2
            have e11 := e10.trans (ex_new (o := .tup [kV (Sum.inl (e.1 : Int)), V.ref e.2.1]) nT)
            have hD11 : upd H10 T1 (.tup [kV (Sum.inl (e.1 : Int)), V.ref e.2.1]) D = some (.dK (kvL ((LL'.take i).filter fun e => e.2.2.any fun s => !(aget F' s).isSome))) := by rw [upd_ne (ne_of_none hD10 nT)]; exact hD10
            refine ⟨T1, _, rfl, .of upd_same, rfl, _, _, rfl, _, _, rfl, rfl, ?_⟩
            generalize upd H10 T1 (.tup [kV (Sum.inl (e.1 : Int)), V.ref e.2.1]) = H11 at e11 hD11 ⊢
            obtain ⟨as', ha1, ha2⟩ := hlot e hm
            obtain ⟨xs, ep, q1, q2⟩ := hFf.mono e11
            have hTb11 := (ef.trans e11).tab hTb
            refine ⟨rfl, _, rfl, e.2.1, dF, as', e.2.2, xs, rfl, .of (e11.keep _ _ ha1 own_lst.1), IsSgs.mono e11.tps ha2, hTb11.c, rfl, ⟨ep, q1, er_keys q2⟩, fun H12 hT12 => ⟨_, rfl, ?_⟩⟩
            have heq : (e.2.2.any fun s => !(xget xs s).isSome) = e.2.2.any fun s => !(aget F' s).isSome := by
              congr 1
              funext s
              rw [er_isSome q2 s]
            rw [heq]
            have e12 : Ex T H11 H12 := ex_tab (Ne.symm T.ne.2.2) hT12 hTb11.c
            have hD12 := e12.keep _ _ hD11 own_dK.1
            cases hb : e.2.2.any fun s => !(aget F' s).isSome with
            | false =>
              refine ⟨e11.trans e12, ?_⟩
              rw [List.take_add_one, he, List.filter_append]
              simp only [Option.toList, List.filter_cons, hb, List.filter_nil, List.append_nil, Bool.false_eq_true, if_false]
              exact hD12
            | true =>
              refine ⟨_, rfl, _, rfl, _, _, rfl, hD12, small32 ?_, ?_⟩
              · have h3 : (kvL ((LL'.take i).filter fun e => e.2.2.any fun s => !(aget F' s).isSome)).length ≤ (kvL LL').length := by
                  unfold kvL
                  rw [List.length_map, List.length_map]
                  exact Nat.le_trans (List.length_filter_le _ _) (by rw [List.length_take]; omega)
                omega
              · refine ⟨(e11.trans e12).write nD hD12 own_dK, ?_⟩
                rw [upd_same, putK_new]
                · rw [List.take_add_one, he, List.filter_append]
                  simp only [Option.toList, List.filter_cons, hb, List.filter_nil, if_true]
                  unfold kvL
                  rw [List.map_append]
                  rfl
                · cases hv : valV (kvL ((LL'.take i).filter fun e => e.2.2.any fun s => !(aget F' s).isSome)) (Sum.inl (e.1 : Int)) with
                  | none => rfl
                  | some v =>
                    obtain ⟨e', he', hk, _⟩ := kv_val_some hv
                    have hmt := (List.mem_filter.mp he').1
                    have hi' : (LL'.map (·.1))[i]? = some e.1 := by rw [List.getElem?_map, he]; rfl
                    refine absurd ?_ (nodup_take nk hi')
                    rw [← List.map_take]
                    exact List.mem_map.mpr ⟨e', hmt, hk⟩
          · obtain ⟨e10, hD10⟩ := hP
            have hl2 : (kvL LL').length = LL'.length := by unfold kvL; rw [List.length_map]
            rw [hl2, List.take_length] at hD10
            have hfd10 := e10.keep _ _ hfd fun _ z => nomatch z
            refine ⟨hfd10, _, rfl, _, _, rfl, rfl, ?_⟩
            have ownF : Own (.frz od (.dK (kvL LL'))) := ⟨(fun _ z => nomatch z), fun _ _ z => by unfold LamX.CodeO at z; cases z⟩
            have tE := tps_write (o := HO.dK (kvL LL')) hfd10 (fun _ z => nomatch z)
            refine ⟨m', by omega, F', LL'.filter fun e => e.2.2.any fun s => !(aget F' s).isSome, ct + 1, D, z3, rfl, (ef.trans e10).write ndL hfd10 ownF, ef.free _ nD, ⟨?_, fun e he => ?_, ?_, fun e he => hnew e (List.mem_filter.mp he).1⟩, ?_, ?_, ?_⟩
            · rw [upd_ne (Ne.symm nDd)]
              exact hD10
            · have hem := (List.mem_filter.mp he).1
              obtain ⟨as', q1, q2⟩ := hlot e hem
              exact ⟨as', by rw [upd_ne (ndLF e hem)]; exact e10.keep _ _ q1 own_lst.1, IsSgs.mono (e10.tps.trans tE) q2⟩
            · exact hna.sublist ((List.filter_sublist).map _)
            · obtain ⟨xs, ep, q1, q2⟩ := hFf.mono e10
              refine ⟨xs, ep, ?_, er_mono tE (fun _ _ z => z) q2⟩
              rw [upd_ne fun zz => by rw [zz, hfd10] at q1; cases q1]
              exact q1
            · have : plainL (LL'.filter fun e => e.2.2.any fun s => !(aget F' s).isSome) = cKeep F' (plainL LL') := by
                unfold plainL cKeep
                rw [List.filter_map]
                rfl
              rw [this]
              exact hrun'
            · have : plainL (LL'.filter fun e => e.2.2.any fun s => !(aget F' s).isSome) = (plainL LL').filter fun e => e.2.any fun s => !(aget F' s).isSome := by
                unfold plainL
                rw [List.filter_map]
                rfl
              rw [this]
              exact hz6.filter _
end
end L2.K10

set_option Elab.async false
set_option linter.all false
set_option maxRecDepth 100000
set_option maxHeartbeats 4000000
namespace L2.K10
open PySem PySem.Spec PyProof.Rows
/-- an own error of the module: x, at C -/
structure BB (K : PySem.W.Frag) (mg : Str → Option Value) (x : Str) (C : Addr) : Prop where
  g : mg x = some (.ref C)
  q : PySem.W.excIn K C He.veBase "ValueError.__new__" = true
  k : PySem.W.keepIn K (.ref C) = true
  b : PySem.W.subIn K (.ref C) (.type "BaseException") = some true
  t : PySem.W.typeIn K (.ref C) = some (.type "type")
/-- X() -/
theorem pmk_own0 {X : Cx} {x : Str} {C : Addr} {p pos : Pos} (B : BB X.K X.mg x C) (hg : Gl X x) (hdb : (x == ("__debug__" : Str)) = false := by decide) : PMk X (.Call (.Name x p) [] [] pos) (fun _ H Q => Q (.ref C) none H) := by
  intro pins s σ H Q I h
  refine wpAny_Call_Name_kw (ld_glob I hg B.g ?_ hdb)
  refine PySem.W.callWith_K0 I.kIn B.k ?_
  show wpAny _ _ (call (.ref C) []) _ _ _
  obtain ⟨bm, N, nm, qn, bs, hdct, sn, sub, ab, col, dd, k0, k1, k2, k3, k5, mN, hC, hN, hni, T⟩ := exc_obj I.kIn B.q
  refine wpAny_call_exc_subT PySem.F.excBase_ValueError T hC hN hni (fun h' e hm => ?_) (Nat.zero_le _)
  exact mk_of I hm (raises_own B.b B.t) h (I.hok.gone hm.new)
theorem ps_raise0 {X : Cx} {W : WX} {x : Str} {C : Addr} {p pos pos' : Pos} (hc : X.calm = true) (tk : Takes X W) (B : BB X.K X.mg x C) (hg : Gl X x) (hdb : (x == ("__debug__" : Str)) = false := by decide) : PS X (.Raise (some (.Call (.Name x p) [] [] pos)) none pos') (fun _ σ H => W (.ref C) none σ H) :=
  ps_raise hc tk (pmk_own0 B hg hdb)
theorem Askd.flat {x : V} (h : Askd x) : flatV x = true := by cases h <;> rfl
theorem oV_flat (s : Sg) : (s.map oV).all flatV = true := by
  rw [List.all_eq_true]
  intro v hv
  obtain ⟨x, _, rfl⟩ := List.mem_map.mp hv
  cases x <;> rfl
def isBook (s : Sg) (x : V) : Bool := isNum x 0 ((s.length : Int) - 1) && inV x (s.map oV)
section
variable {P : Program} {w : World} {K : PySem.W.Frag} {mg : Str → Option Value} {base : Heap}
abbrev nBook : List Str := ["standing", "value"]
theorem scBook : FnScope nBook ["standing", "value"] (defScope (top 16)) := ⟨rfl, rfl, rfl, by decide +kernel, rfl, by decide +kernel, by decide +kernel⟩
def spBook (CB : Addr) : Sp := fun vs H Q E => ∃ (a : Addr) (s : Sg) (x : V), vs = [.ref a, x] ∧ IsSg H a s ∧ s.length ≤ 20 ∧ Askd x ∧ (isBook s x = true → Q .non H) ∧ (isBook s x = false → E (.ref CB) none H)
theorem ok_book {CB : Addr} {f fN : Addr} {fd fdN : FuncData} (B : BB K mg "BadBook" CB) (F : FnP K "need_book" 16 f fd) (FN : FnP K "is_number" 9 fN fdN) (gN : mg "is_number" = some (.ref fN)) (mI : mg "isinstance" = none) (mN : mg "int" = none) (mB : mg "bool" = none) (mL : mg "len" = none) :
    FnOk P w K mg base (L2.CX P w) 2 f fd ["standing", "value"] (spBook CB) := by
  have GN : FnOk P w K mg base CX0 1 fN fdN ["value", "low", "high"] spNum := ok_num FN mI mN mB
  have bN : Binds K fdN ["value", "low", "high"] [] := FN.bindsN fun _ _ _ _ _ _ us hl => match us, hl with | [_, _, _], _ => rfl
  refine F.ok scBook (fun vs H Q E h => ?_) (fun cdv A outer s H vs Q E hr h => ?_)
  · obtain ⟨a, s, x, rfl, _⟩ := h
    rfl
  · obtain ⟨a, st, x, rfl, hS, hl, hx, q1, q2⟩ := h
    refine ⟨_, pss_one (ps_if (PW.pt (pw_or (pt_not (pt_val (pe_call GN hr (by rfl) gN FN.kp bN .nil pass0 (pa_cons (pv 1) (pa_cons pe_int (pa_cons (pe_op op_sub (pe_callB call_len (by rfl) mL boot_len (pa_cons (pv 0) pa_nil)) pe_int) pa_nil))))))
      (pw_or1 (pt_cmpR op_notIn_seq (pv 1) (pv 0) (by rfl))))) (pss_one (ps_raise0 (W := fun cls d _ H => E cls d H) rfl (takes_of rfl rfl rfl rfl) B (by rfl))) pss_nil), ?_⟩
    simp only [cxp, cxw, cxk, cxp', cxw', cxk']
    refine ⟨_, rfl, _, rfl, .ref a, st.length, rfl, .inr ⟨_, .of hS, by rw [List.length_map]⟩, _, _, rfl, rfl, x, 0, _, rfl, hx, _, rfl, ?_⟩
    unfold isBook at q1 q2
    cases hn : isNum x 0 ((st.length : Int) - 1) with
    | false =>
      rw [hn] at q2
      exact q2 rfl
    | true =>
      rw [hn] at q1 q2
      refine ⟨_, rfl, _, rfl, a, _, rfl, .inr (.of hS), hx.flat, oV_flat st, _, rfl, ?_⟩
      cases hi : inV x (st.map oV) with
      | false =>
        rw [hi] at q2
        exact q2 rfl
      | true =>
        rw [hi] at q1
        exact q1 rfl
end
end L2.K10

set_option Elab.async false
set_option linter.all false
set_option maxRecDepth 100000
set_option maxHeartbeats 4000000
namespace L2.K10
open PySem PySem.Spec PyProof.Rows
section
variable {P : Program} {w : World} {K : PySem.W.Frag} {mg : Str → Option Value} {base : Heap}
abbrev nAsks : List Str := ["standing", "value", "book"]
theorem scAsks : FnScope nAsks ["standing", "value"] (defScope (top 22)) := ⟨rfl, rfl, rfl, by decide +kernel, rfl, by decide +kernel, by decide +kernel⟩
/-- what is no tuple, and too long a tuple -/
def BadAsk (H : Hp) (v : V) : Prop := v = .non ∨ (∃ l xs, v = .ref l ∧ H l = some (.lst xs)) ∨ ∃ l xs, v = .ref l ∧ H l = some (.tup xs) ∧ 20 < xs.length
def spAsks (CB : Addr) : Sp := fun vs H Q E => ∃ (a : Addr) (s : Sg) (v : V), vs = [.ref a, v] ∧ IsSg H a s ∧ s.length ≤ 20 ∧ ((BadAsk H v ∧ E (.ref CB) none H) ∨
  ∃ l xs, v = .ref l ∧ H l = some (.tup xs) ∧ xs.length ≤ 20 ∧ (∀ x ∈ xs, Askd x) ∧ ((∀ x ∈ xs, isBook s x = true) → Q .non H) ∧ ((∃ x ∈ xs, isBook s x = false) → E (.ref CB) none H))
theorem ok_asks {CB : Addr} {f fB fN : Addr} {fd fdB fdN : FuncData} (B : BB K mg "BadBook" CB) (F : FnP K "need_asks" 22 f fd) (FB : FnP K "need_book" 16 fB fdB) (FN : FnP K "is_number" 9 fN fdN) (gB : mg "need_book" = some (.ref fB)) (gN : mg "is_number" = some (.ref fN))
    (mI : mg "isinstance" = none) (mN : mg "int" = none) (mB : mg "bool" = none) (mL : mg "len" = none) (mT : mg "tuple" = none) (mA : ∃ t, mg "MOST_ASKS" = some (.int 20 t)) :
    FnOk P w K mg base (L2.CX P w) 3 f fd ["standing", "value"] (spAsks CB) := by
  have GB : FnOk P w K mg base (L2.CX P w) 2 fB fdB ["standing", "value"] (spBook CB) := ok_book B FB FN gN mI mN mB mL
  have bB : Binds K fdB ["standing", "value"] [] := FB.bindsN fun _ _ _ _ _ _ us hl => match us, hl with | [_, _], _ => rfl
  obtain ⟨tA, mA⟩ := mA
  refine F.ok scAsks (fun vs H Q E h => ?_) (fun cdv A outer s H vs Q E hr h => ?_)
  · obtain ⟨a, s, x, rfl, _⟩ := h
    rfl
  · obtain ⟨a, st, v, rfl, hS, hl, q⟩ := h
    refine ⟨_, pss_cons (ps_if (PW.pt (pw_or (pt_not (pt_val (pe_callB call_isi (by rfl) mI (by decide +kernel) (pa_cons (pv 1) (pa_cons (pe_bltn (v := .ty "tuple") (by rfl) mT (show _ = some (.type "tuple") by decide +kernel) rfl) pa_nil)))))
        (pw_or1 (pt_cmp (pc_gt (pe_callB call_len (by rfl) mL boot_len (pa_cons (pv 1) pa_nil)) (pe_glob (v := .int 20) (by rfl) mA ⟨_, rfl⟩))))))
          (pss_one (ps_raise0 (W := fun cls d _ H => E cls d H) rfl (takes_of rfl rfl rfl rfl) B (by rfl))) pss_nil)
      (pss_one (ps_for (passes_of rfl) rfl (pi_tup (pv 1)) (pg_name (i := 2) scAsks.nd rfl (.inl rfl))
        (pss_one (ps_expr (pe_call (E := E) GB hr (by rfl) gB FB.kp bB .nil (passes_call (W := fun cls d _ H => E cls d H) (takes_of rfl rfl rfl rfl) (fun _ _ _ _ h => h)) (pa_cons (pv 0) (pa_cons (pv 2) pa_nil))))))), ?_⟩
    simp only [cxp, cxw, cxk, cxp', cxw', cxk']
    rcases q with ⟨hb, q⟩ | ⟨l, xs, rfl, hx, hxl, hxa, q1, q2⟩
    · rcases hb with rfl | ⟨l, xs, rfl, hx⟩ | ⟨l, xs, rfl, hx, hxl⟩
      · refine ⟨_, rfl, _, .ty "tuple", _, _, false, rfl, .ty "tuple", .base .non, kit_ty (by decide +kernel), _, rfl, ?_⟩
        exact q
      · refine ⟨_, rfl, _, .ty "tuple", _, _, false, rfl, .ty "tuple", .base (.lst hx), kit_ty (by decide +kernel), _, rfl, ?_⟩
        exact q
      · refine ⟨_, rfl, _, .ty "tuple", _, _, true, rfl, .ty "tuple", .base (.tup hx), kit_ty (by decide +kernel), _, rfl, ?_⟩
        refine ⟨_, rfl, .ref l, xs.length, rfl, .inr ⟨_, .of hx, rfl⟩, _, _, rfl, rfl, _, rfl, ite2 (fun _ => q) (fun h => ?_)⟩
        exact absurd (decide_eq_true (show (20 : Int) < ((xs.length : Nat) : Int) by omega)) h
    · refine ⟨_, rfl, _, .ty "tuple", _, _, true, rfl, .ty "tuple", .base (.tup hx), kit_ty (by decide +kernel), _, rfl, ?_⟩
      refine ⟨_, rfl, .ref l, xs.length, rfl, .inr ⟨_, .of hx, rfl⟩, _, _, rfl, rfl, _, rfl, ite2 (fun h => ?_) (fun h => ?_)⟩
      · have h := of_decide_eq_true h
        omega
      refine ⟨_, rfl, l, rfl, ⟨_, .of hx⟩, for_tup (xs := xs) (fun i σ Hc => ∃ z2, σ = [some (.ref a), some (.ref l), z2] ∧ Hc = H ∧ ∀ x ∈ xs.take i, isBook st x = true) ⟨none, rfl, rfl, fun _ z => by simp at z⟩ (fun i σ Hc _ ⟨_, _, e, _⟩ => by rw [e]; exact .of hx) (fun i x σ Hc hxi hP => ?_) (fun σ Hc hP => ?_)⟩
      · obtain ⟨z2, rfl, rfl, hP⟩ := hP
        have hm := List.mem_of_getElem? hxi
        refine ⟨_, rfl, _, rfl, a, st, x, rfl, hS, hl, hxa x hm, fun hb => ⟨_, rfl, rfl, fun y hy => ?_⟩, fun hb => q2 ⟨x, hm, hb⟩⟩
        rw [List.take_add_one, hxi] at hy
        rcases List.mem_append.mp hy with h | h
        · exact hP y h
        · simp at h
          rw [h]
          exact hb
      · obtain ⟨z2, rfl, rfl, hP⟩ := hP
        rw [List.take_length] at hP
        exact q1 hP
end
end L2.K10

set_option Elab.async false
set_option linter.all false
set_option maxRecDepth 100000
set_option maxHeartbeats 4000000
namespace L2.K10
open PySem PySem.Spec PyProof.Rows
/-- the books of a standing, from the left -/
def bksM (s : Sg) : List Nat := s.filterMap id
theorem bks_take (s : Sg) (i : Nat) : bksM (s.take (i + 1)) = bksM (s.take i) ++ (match s[i]? with | some (some n) => [n] | _ => []) := by
  rw [List.take_add_one]
  unfold bksM
  rw [List.filterMap_append]
  congr 1
  cases s[i]? with
  | none => rfl
  | some x => cases x <;> rfl
theorem nodup_cast {l : List Nat} (h : l.Nodup) : (l.map fun m : Nat => (m : Int)).Nodup := List.pairwise_map.mpr (h.imp fun hne e => hne (by omega))
section
variable {P : Program} {w : World} {K : PySem.W.Frag} {mg : Str → Option Value} {base : Heap}
abbrev nStand : List Str := ["yard", "value", "books", "one"]
theorem scStand : FnScope nStand ["yard", "value"] (defScope (top 15)) := ⟨rfl, rfl, rfl, by decide +kernel, rfl, by decide +kernel, by decide +kernel⟩
def spStand (T : Tbs) : Sp := fun vs H Q _ => ∃ (y a : Addr) (Y : Yd) (s : Sg), vs = [.ref y, .ref a] ∧ IsY H y Y ∧ IsSg H a s ∧ s.length = Y.n ∧ s.length ≤ 20 ∧ none ∈ s ∧ bksM s ≠ [] ∧ (bksM s).Nodup ∧ (∀ b ∈ bksM s, b < (bksM s).length) ∧ Tb T H ∧ ∀ H', Ex T H H' → Q .non H'
theorem ok_stand {T : Tbs} {c : Addr} {f fN : Addr} {fd fdN : FuncData} (F : FnP K "need_standing" 15 f fd) (hc : fd.code = .ref c) (TB : GxR.TabB base mg c T.n) (FN : FnP K "is_number" 9 fN fdN) (gN : mg "is_number" = some (.ref fN)) (mI : mg "isinstance" = none) (mN : mg "int" = none) (mB : mg "bool" = none)
    (mT : mg "tuple" = none) (mL : mg "len" = none) (mA : mg "all" = none) (mS : mg "set" = none) : FnOk P w K mg base CX0 3 f fd ["yard", "value"] (spStand T) := by
  refine okT F hc scStand (fun vs H Q E h => ?_) (fun A outer s H vs Q E hr h => ?_)
  · obtain ⟨y, a, Y, s, rfl, _⟩ := h
    rfl
  · obtain ⟨y, a, Y, st, rfl, hY, hS, hYn, hl, hno, hb0, hbn, hbl, hTb, q⟩ := h
    refine ⟨_, PSs.nox (pss_cons (ps_if (PW.pt (pw_or (pt_not (pt_val (pe_callB call_isi (by rfl) mI (by decide +kernel) (pa_cons (pv 1) (pa_cons (pe_bltn (v := .ty "tuple") (by rfl) mT (show _ = some (.type "tuple") by decide +kernel) rfl) pa_nil)))))
        (pw_or (pt_cmpR op_ne (pe_callB call_len (by rfl) mL boot_len (pa_cons (pv 1) pa_nil)) (pe_ix ix_tup (pv 0) pe_int (fun _ _ => rfl)) (nomark _))
          (pw_or1 (pt_cmpR op_notIn_seq pe_non (pv 1) (by rfl)))))) pss_never pss_nil)
      (pss_cons (ps_set (i := 2) scStand.nd rfl (.inr rfl) (pe_lc (own := [("one", 3)]) (g := gName 3) (tt := tB (tNotN (tVar 3))) (te := tVar 3) (by rfl) scStand.nd (pi_tup (pv 1)) (blkOk_by (own := [("one", 3)]) (N := nStand) (sc := defScope (top 15)) (by decide +kernel))
          (fun _ _ _ _ _ => pg_name (i := 3) scStand.nd rfl (.inl rfl)) (fun _ _ _ _ _ => pts_one (pt_cmp (pc_notN (pv 3)))) (fun _ _ _ _ _ => pv 3)))
      (pss_one (ps_if (PW.pt (pw_or (pt_not (pt_truth (pv 2) (fun _ => rfl)))
        (pw_or (pt_not (pt_val (pe_all_num (he := fun σ H hi => ∃ (b : Addr) (xs : List V), σ[2]? = some (some (.ref b)) ∧ H b = some (.lst xs) ∧ hi = (xs.length : Int) - 1) hr (by rfl) mA TB rfl ⟨rfl, rfl, by decide +kernel, rfl, rfl, free_ok _ _ _ (by decide +kernel)⟩ (pv 2) FN gN mI mN mB rfl (fun _ => rfl) (end_len (i := 2) rfl rfl rfl rfl (by rfl) rfl mL) (by intro _; rfl))))
          (pw_or1 (pt_cmp (pc_lt (L2.pe_lenSetI rfl (by rfl) mL (by rfl) mS (pv 2)) (pe_callB call_len (by rfl) mL boot_len (pa_cons (pv 2) pa_nil)))))))) pss_never pss_nil)))), ?_⟩
    simp only [cxp, cxw, cxk, cxp', cxw', cxk']
    obtain ⟨t, hY1, hY2⟩ := id hY
    refine ⟨_, rfl, _, .ty "tuple", _, _, true, rfl, .ty "tuple", .base (.tup hS), kit_ty (by decide +kernel), _, rfl, ?_⟩
    have hlm : (st.map oV).length = st.length := List.length_map _
    refine ⟨_, rfl, .ref a, st.length, rfl, .inr ⟨_, .of hS, hlm.symm⟩, _, rfl, y, _, _, _, rfl, rfl, .of hY1, atI_nat (j := 0) rfl, rfl, _, rfl, ?_⟩
    have h1 : (!decide (V.int (st.length : Nat) = nV Y.n)) = false := by rw [hYn]; simp [nV]
    rw [h1]
    refine ⟨_, rfl, a, _, rfl, .inr (.of hS), rfl, oV_flat st, _, rfl, ?_⟩
    have h2 : inV .non (st.map oV) = true := by
      unfold inV
      rw [List.any_eq_true]
      exact ⟨.non, List.mem_map.mpr ⟨none, hno, rfl⟩, rfl⟩
    rw [h2]
    -- the books
    refine ⟨_, rfl, a, rfl, ⟨_, .of hS⟩, fun D nD => ?_⟩
    refine lc_tupG (fun i => (bksM (st.take i)).map nV) (.of hS) nD rfl (fun i x hx => ?_) ?_
    · rw [List.getElem?_map] at hx
      obtain ⟨z, hz, rfl⟩ := Option.map_eq_some_iff.mp hx
      refine ⟨rfl, _, rfl, _, rfl, ?_⟩
      cases z with
      | none =>
        refine iteF ?_
        rw [bks_take, hz]
        simp
      | some m =>
        refine iteT ⟨_, rfl, _, upd_same, ?_, ?_⟩
        · refine small1000 ?_
          rw [List.length_map]
          have h3 := List.length_filterMap_le id (st.take i)
          have h4 := List.length_take_le i st
          have h5 := List.length_take_le' i st
          show (List.filterMap id (st.take i)).length ≤ 1000
          omega
        · rw [upd_upd, bks_take, hz]
          simp
          rfl
    have hbk : bksM (st.take (st.map oV).length) = bksM st := by rw [hlm, List.take_length]
    rw [hbk]
    have e1 : Ex T H (upd H D (.lst ((bksM st).map nV))) := ex_new nD
    have hD : upd H D (.lst ((bksM st).map nV)) D = some (.lst ((bksM st).map nV)) := upd_same
    have h3 : true = !((bksM st).map nV).isEmpty := by
      cases h : bksM st with
      | nil => exact absurd h hb0
      | cons _ _ => rfl
    refine ⟨_, rfl, true, .inl ⟨_, .of hD, h3⟩, ?_⟩
    have hbl1 : (bksM st).length ≤ 20 := by
      have h3 := List.length_filterMap_le id st
      show (List.filterMap id st).length ≤ 20
      omega
    refine ⟨_, rfl, D, (bksM st).map nV, ((bksM st).length : Int) - 1, rfl, .inl (.of hD), (e1.tab hTb).n, fun y hy => ?_, ⟨D, (bksM st).map nV, rfl, hD, by rw [List.length_map]⟩, fun H2 hT2 => ⟨_, rfl, ?_⟩⟩
    · obtain ⟨m, _, rfl⟩ := List.mem_map.mp hy
      exact .int _
    have hall : (((bksM st).map nV).all fun y => isNum y 0 (((bksM st).length : Int) - 1)) = true := by
      rw [List.all_eq_true]
      intro y hy
      obtain ⟨m, hm, rfl⟩ := List.mem_map.mp hy
      have := hbl m hm
      show (decide ((0 : Int) ≤ (m : Int)) && decide ((m : Int) ≤ ((bksM st).length : Int) - 1)) = true
      simp
      omega
    rw [hall]
    have e2 := e1.trans (ex_tab T.ne.2.1.symm hT2 (e1.tab hTb).n)
    have hD2 := (ex_tab T.ne.2.1.symm hT2 (e1.tab hTb).n).keep _ _ hD own_lst.1
    refine ⟨_, rfl, D, (bksM st).map fun m : Nat => (m : Int), rfl, .of (by rw [hD2, List.map_map]; rfl), by rw [List.length_map]; omega, ?_, _, rfl, .ref D, (bksM st).length, rfl, .inl ⟨_, .of hD2, by rw [List.length_map]⟩, _, _, rfl, rfl, _, rfl, ?_⟩
    · exact nodup_cast hbn
    · refine ite2 (fun h => ?_) (fun _ => q _ e2)
      have h := of_decide_eq_true h
      rw [List.length_map] at h
      omega
end
end L2.K10

set_option Elab.async false
set_option linter.all false
set_option maxRecDepth 100000
set_option maxHeartbeats 4000000
namespace L2.K10
open PySem PySem.Spec PyProof.Rows
/-! ### the row of draws -/
/-- all but the row and the tables stays -/
structure Exr (T : Tbs) (r : Addr) (H H' : Hp) : Prop where
  keep : ∀ b o, b ≠ r → H b = some o → NT o → H' b = some o
  tab : Tb T H → Tb T H'
  free : ∀ b, H' b = none → H b = none
theorem Ex.row {T : Tbs} {r : Addr} {H H' : Hp} (e : Ex T H H') : Exr T r H H' := ⟨fun b o _ h n => e.keep b o h n, e.tab, e.free⟩
theorem Exr.refl {T : Tbs} {r : Addr} {H : Hp} : Exr T r H H := ⟨fun _ _ _ h _ => h, id, fun _ h => h⟩
theorem Exr.trans {T : Tbs} {r : Addr} {H H1 H2 : Hp} (a : Exr T r H H1) (b : Exr T r H1 H2) : Exr T r H H2 := ⟨fun c o n h t => b.keep c o n (a.keep c o n h t) t, fun t => b.tab (a.tab t), fun c h => a.free c (b.free c h)⟩
theorem tb_write {T : Tbs} {H1 : Hp} {p : Addr} {o u : HO} (h1 : H1 p = some u) (n : Own u) (t1 : Tb T H1) : Tb T (upd H1 p o) := by
  have ne : ∀ b ps, H1 b = some (.tbl ps) → b ≠ p := fun b ps hb z => by
    rw [z, h1] at hb
    exact n.1 ps (Option.some.inj hb)
  have g : ∀ {q}, GxR.TabG H1 q → GxR.TabG (upd H1 p o) q := fun {q} z => tabG_mono (fun ps hq => by rw [upd_ne (ne _ _ hq)]; exact hq) z
  refine ⟨g t1.a, g t1.n, g t1.c, ?_⟩
  obtain ⟨ps, q1, q2, q3⟩ := t1.w
  refine ⟨ps, by rw [upd_ne (ne _ _ q1)]; exact q1, q2, fun pos cv hc => ?_⟩
  obtain ⟨c, c1, c2⟩ := q3 pos cv hc
  refine ⟨c, c1, ?_⟩
  rw [upd_ne fun z => ?_]
  · exact c2
  · rw [z, h1] at c2
    exact n.2 _ _ (Option.some.inj c2)
/-- the row itself is written -/
theorem Exr.write {T : Tbs} {r : Addr} {H H1 : Hp} {o u : HO} (e : Exr T r H H1) (h1 : H1 r = some u) (n : Own u) : Exr T r H (upd H1 r o) :=
  ⟨fun b x nb hb nx => by rw [upd_ne nb]; exact e.keep b x nb hb nx, fun t => tb_write h1 n (e.tab t), fun b hb => e.free b (upd_none hb).2⟩
/-- a new object of ours is written -/
theorem Exr.writeN {T : Tbs} {r : Addr} {H H1 : Hp} {p : Addr} {o u : HO} (e : Exr T r H H1) (h0 : H p = none) (h1 : H1 p = some u) (n : Own u) : Exr T r H (upd H1 p o) :=
  ⟨fun b x nb hb nx => by rw [upd_ne (ne_of_none hb h0)]; exact e.keep b x nb hb nx, fun t => tb_write h1 n (e.tab t), fun b hb => e.free b (upd_none hb).2⟩
theorem Exr.new {T : Tbs} {r : Addr} {H H1 : Hp} {p : Addr} {o : HO} (e : Exr T r H H1) (h : H1 p = none) : Exr T r H (upd H1 p o) := e.trans (ex_new h).row
structure Rw (K : PySem.W.Frag) (H : Hp) (r sc : Addr) (ns : List Int) : Prop where
  at_ : ∃ (i : Nat) (b c : Int), H r = some (.lst [.ref sc, .int (i : Int), .int b, .int c]) ∧ 0 ≤ b ∧ b < 2147483647 ∧ 0 ≤ c
  seq : SqL K H sc (ns.map V.int)
theorem Exr.tps {T : Tbs} {r : Addr} {H H' : Hp} (e : Exr T r H H') {u : HO} (h : H r = some u) (n : ∀ xs, u ≠ .tup xs) : TpS H H' := fun b xs hb => e.keep b _ (fun z => by
  rw [z, h] at hb
  exact n xs (Option.some.inj hb)) hb own_tup.1
theorem Rw.tps {T : Tbs} {K : PySem.W.Frag} {H H' : Hp} {r sc : Addr} {ns : List Int} (h : Rw K H r sc ns) (e : Exr T r H H') : TpS H H' := by
  obtain ⟨⟨i, b, c, h1, _⟩, _⟩ := h
  exact e.tps h1 (fun _ z => nomatch z)
theorem sqL_keep {K : PySem.W.Frag} {H H' : Hp} {a : Addr} {xs : List V} (k : ∀ o, H a = some o → NT o → H' a = some o) (t : SqL K H a xs) : SqL K H' a xs := by
  rcases t with (t | ⟨ob, t⟩) | t
  · exact .inl (.inl (k _ t (fun _ z => nomatch z)))
  · exact .inl (.inr ⟨ob, k _ t (fun _ z => nomatch z)⟩)
  · exact .inr t
theorem sqL_row {K : PySem.W.Frag} {H : Hp} {r a sc : Addr} {ns : List Int} {xs : List V} {o : HO} (hr : H r = some (.lst (.ref sc :: xs))) (t : SqL K H a (ns.map V.int)) : SqL K (upd H r o) a (ns.map V.int) := by
  have ne : ∀ u, H a = some u → (∀ ys, u ≠ .lst (V.ref sc :: ys)) → a ≠ r := fun u h n z => by
    rw [z, hr] at h
    exact n xs (Option.some.inj h).symm
  rcases t with (t | ⟨ob, t⟩) | t
  · exact .inl (.inl (by
      rw [upd_ne (ne _ t fun ys z => ?_)]
      · exact t
      · cases ns <;> cases z))
  · exact .inl (.inr ⟨ob, by
      rw [upd_ne (ne _ t fun ys z => nomatch z)]
      exact t⟩)
  · exact .inr t
theorem Rw.mono {T : Tbs} {K : PySem.W.Frag} {H H' : Hp} {r sc : Addr} {ns : List Int} (e : Ex T H H') (h : Rw K H r sc ns) : Rw K H' r sc ns := by
  obtain ⟨⟨i, b, c, h1, h2⟩, h3⟩ := h
  exact ⟨⟨i, b, c, e.keep _ _ h1 own_lst.1, h2⟩, sqL_keep (fun o ho n => e.keep _ _ ho n) h3⟩
theorem Rw.back {T : Tbs} {K : PySem.W.Frag} {H0 H1 : Hp} {r sc : Addr} {ns : List Int} (h0 : Rw K H0 r sc ns) (e : Exr T r H0 H1) (h1 : ∃ (i : Nat) (b c : Int), H1 r = some (.lst [.ref sc, .int (i : Int), .int b, .int c]) ∧ 0 ≤ b ∧ b < 2147483647 ∧ 0 ≤ c) : Rw K H1 r sc ns := by
  refine ⟨h1, ?_⟩
  obtain ⟨⟨i, b, c, hr, _⟩, t⟩ := h0
  have ne : ∀ u, H0 sc = some u → (∀ ys, u ≠ .lst (V.ref sc :: ys)) → sc ≠ r := fun u h n z => by
    rw [z, hr] at h
    exact n _ (Option.some.inj h).symm
  rcases t with (t | ⟨ob, t⟩) | t
  · exact .inl (.inl (e.keep _ _ (ne _ t fun ys z => by cases ns <;> cases z) t (fun _ z => nomatch z)))
  · exact .inl (.inr ⟨ob, e.keep _ _ (ne _ t fun ys z => nomatch z) t (fun _ z => nomatch z)⟩)
  · exact .inr t
theorem Rw.some {K : PySem.W.Frag} {H : Hp} {r sc : Addr} {ns : List Int} (h : Rw K H r sc ns) : ∃ u, H r = some u := let ⟨⟨_, _, _, h1, _⟩, _⟩ := h; ⟨_, h1⟩
theorem Rw.writeN {T : Tbs} {K : PySem.W.Frag} {H0 H1 : Hp} {r sc p : Addr} {ns : List Int} {o u : HO} (h0 : Rw K H0 r sc ns) (e : Exr T r H0 H1) (h1 : Rw K H1 r sc ns) (n0 : H0 p = none) (hp : H1 p = .some u) (n : Own u) : Rw K (upd H1 p o) r sc ns := by
  refine h0.back (e.writeN (o := o) n0 hp n) ?_
  obtain ⟨⟨i, b, c, g1, g2⟩, _⟩ := h1
  obtain ⟨u0, hu0⟩ := h0.some
  exact ⟨i, b, c, by rw [upd_ne (ne_of_none hu0 n0)]; exact g1, g2⟩
end L2.K10

set_option Elab.async false
set_option linter.all false
set_option maxRecDepth 100000
set_option maxHeartbeats 4000000
namespace L2.K10
open PySem PySem.Spec PyProof.Rows
section
variable {P : Program} {w : World} {K : PySem.W.Frag} {mg : Str → Option Value} {base : Heap}
abbrev nTaken : List Str := ["_law_row", "_law_many", "_law_found", "_law_cell"]
theorem scTaken : FnScope nTaken ["_law_row", "_law_many"] (defScope (top 28)) := ⟨rfl, rfl, rfl, by decide +kernel, rfl, by decide +kernel, by decide +kernel⟩
def spTaken (K : PySem.W.Frag) (T : Tbs) : Sp := fun vs H Q _ => ∃ (r sc : Addr) (ns : List Int) (m : Nat), vs = [.ref r, nV m] ∧ 0 < m ∧ m ≤ 1000 ∧ Rw K H r sc ns ∧ ns.length ≤ 1000 ∧
  ∀ H' n, n < m → Exr T r H H' → Rw K H' r sc ns → Q (nV n) H'
theorem fmodN {z : Int} {m : Nat} (h : 0 < m) : ∃ n : Nat, n < m ∧ z.fmod (m : Int) = (n : Int) := by
  refine ⟨(z % (m : Int)).toNat, ?_, ?_⟩
  · have h1 := Int.emod_nonneg z (b := (m : Int)) (by omega)
    have h2 := Int.emod_lt_of_pos z (b := (m : Int)) (by omega)
    omega
  · rw [Int.fmod_eq_emod_of_nonneg z (by omega)]
    exact (Int.toNat_of_nonneg (Int.emod_nonneg z (by omega))).symm
theorem fmodB (z : Int) : 0 ≤ z.fmod 2147483647 ∧ z.fmod 2147483647 < 2147483647 := by
  rw [Int.fmod_eq_emod_of_nonneg z (by omega)]
  exact ⟨Int.emod_nonneg z (by omega), Int.emod_lt_of_pos z (by omega)⟩
theorem div9 {m : Nat} (h : 0 < m) (h2 : m ≤ 1000) {z : Int} : CDivW z (m : Int) := wide_div (b := 10) (by omega) (by rw [Int.natAbs_natCast]; omega) (by decide) (by decide)
theorem ok_taken {T : Tbs} {f : Addr} {fd : FuncData} (F : FnP K "_law_taken" 28 f fd) (mI : mg "int" = none) (mL : mg "len" = none) : FnOk P w K mg base CX0 1 f fd ["_law_row", "_law_many"] (spTaken K T) := by
  refine F.ok scTaken (fun vs H Q E h => ?_) (fun cdv A outer s H vs Q E hr h => ?_)
  · obtain ⟨r, sc, ns, m, rfl, _⟩ := h
    rfl
  · obtain ⟨r, sc, ns, m, rfl, m0, m1, hR, hns, q⟩ := h
    refine ⟨_, PSs.nox (pss_cons (ps_if (pt_cmp (pc_gt (pe_ix ix_list (pv 0) pe_int (fun _ _ => rfl)) pe_int))
        (pss_cons (ps_set (i := 2) scTaken.nd rfl (.inl rfl) (pe_op op_modN (pe_callTy call_int1 (by rfl) mI (by decide +kernel) (pa_cons (pe_ix ix_list (pv 0) pe_int (fun _ _ => rfl)) pa_nil)) (pv 1)))
          (pss_cons (ps_asg (pe_op op_fdivW (pe_ix ix_list (pv 0) pe_int (fun _ _ => rfl)) (pv 1)) (pg_sub (pv 0) pe_int set_list))
            (pss_one (ps_ret (pv 2))))) pss_nil)
      (pss_cons (ps_asg (pe_op op_add (pe_ix ix_list (pv 0) pe_int (fun _ _ => rfl)) pe_int) (pg_sub (pv 0) pe_int set_list))
      (pss_cons (ps_if (pt_cmp (pc_gt (pe_ix ix_list (pv 0) pe_int (fun _ _ => rfl)) (pe_callB call_len (by rfl) mL boot_len (pa_cons (pe_ix ix_list (pv 0) pe_int (fun _ _ => rfl)) pa_nil))))
        (pss_cons (ps_asg (pe_op op_modN (pe_callTy call_int1 (by rfl) mI (by decide +kernel) (pa_cons (pe_op op_add (pe_op op_mul (pe_ix ix_list (pv 0) pe_int (fun _ _ => rfl)) pe_int) pe_int) pa_nil)) pe_int) (pg_sub (pv 0) pe_int set_list))
          (pss_one (ps_ret (pe_op op_modN (pe_callTy call_int1 (by rfl) mI (by decide +kernel) (pa_cons (pe_op op_fdivW (pe_ix ix_list (pv 0) pe_int (fun _ _ => rfl)) pe_int) pa_nil)) (pv 1))))) pss_nil)
      (pss_cons (ps_set (i := 3) scTaken.nd rfl (.inl rfl) (pe_ix ix_list (pe_ix ix_list (pv 0) pe_int (fun _ _ => rfl)) (pe_op op_sub (pe_ix ix_list (pv 0) pe_int (fun _ _ => rfl)) pe_int) (fun _ _ => rfl)))
      (pss_cons (ps_asg (pe_op op_modN (pe_callTy call_int1 (by rfl) mI (by decide +kernel) (pa_cons (pe_op op_add (pe_op op_add (pe_op op_mul (pe_ix ix_list (pv 0) pe_int (fun _ _ => rfl)) pe_int) (pv 3)) pe_int) pa_nil)) pe_int) (pg_sub (pv 0) pe_int set_list))
      (pss_cons (ps_if (pt_cmp (pc_ge (pv 3) (pe_op op_pow pe_int pe_int)))
        (pss_one (ps_asg (pe_op op_fdivW (pv 3) (pv 1)) (pg_sub (pv 0) pe_int set_list))) pss_nil)
      (pss_one (ps_ret (pe_op op_modN (pe_callTy call_int1 (by rfl) mI (by decide +kernel) (pa_cons (pv 3) pa_nil)) (pv 1)))))))))), ?_⟩
    simp only [cxp, cxw, cxk, cxp', cxw', cxk']
    obtain ⟨⟨i, b, c, h1, hb0, hb1, hc0⟩, hsq⟩ := id hR
    have out : ∀ (H1 : Hp) (z : Int), Exr T r H H1 → Rw K H1 r sc ns → Q (.int (z.fmod (m : Int))) H1 := fun H1 z e1 h1 => by
      obtain ⟨n, hn, hz⟩ := fmodN (z := z) m0
      rw [hz]
      exact q H1 n hn e1 h1
    have mne : (m : Int) ≠ 0 := by omega
    refine ⟨_, rfl, r, _, _, _, rfl, rfl, .of h1, atI_nat (j := 3) rfl, _, _, rfl, rfl, _, rfl, ite2 (fun hc => ?_) (fun hc => ?_)⟩
    · have hc : c > 0 := of_decide_eq_true hc
      refine ⟨_, rfl, r, _, _, _, rfl, rfl, .of h1, atI_nat (j := 3) rfl, .inl ⟨_, rfl, _, rfl, _, _, rfl, rfl, mne, ?_⟩⟩
      refine ⟨_, rfl, r, _, _, _, rfl, rfl, .of h1, atI_nat (j := 3) rfl, _, rfl, _, _, rfl, rfl, div9 m0 m1, _, rfl, r, _, _, 3, rfl, rfl, h1, rfl, ?_⟩
      have e2 : Exr T r H (upd H r (.lst [.ref sc, .int (i : Int), .int b, .int (c / m)])) := Exr.refl.write h1 own_lst
      exact ⟨_, rfl, out _ _ e2 (hR.back e2 ⟨i, b, c / m, upd_same, hb0, hb1, Int.ediv_nonneg hc0 (by omega)⟩)⟩
    · refine ⟨_, rfl, r, _, _, _, rfl, rfl, .of h1, atI_nat (j := 1) rfl, _, _, rfl, rfl, _, rfl, r, _, _, 1, rfl, rfl, h1, rfl, ?_⟩
      have e2 : Exr T r H (upd H r (.lst [.ref sc, .int ((i + 1 : Nat) : Int), .int b, .int c])) := Exr.refl.write h1 own_lst
      have hR2 := hR.back e2 ⟨i + 1, b, c, upd_same, hb0, hb1, hc0⟩
      have hsq2 := hR2.seq
      show tSeq _ _ _ _ (upd H r (.lst [.ref sc, .int ((i + 1 : Nat) : Int), .int b, .int c]))
      have h2 : upd H r (.lst [.ref sc, .int ((i + 1 : Nat) : Int), .int b, .int c]) r = some (.lst [.ref sc, .int ((i + 1 : Nat) : Int), .int b, .int c]) := upd_same
      generalize upd H r (.lst [.ref sc, .int ((i + 1 : Nat) : Int), .int b, .int c]) = H2 at e2 hR2 hsq2 h2 ⊢
      refine ⟨_, rfl, r, _, _, _, rfl, rfl, .of h2, atI_nat (j := 1) rfl, _, rfl, r, _, _, _, rfl, rfl, .of h2, atI_nat (j := 0) rfl, ?_⟩
      refine ⟨.ref sc, (ns.map V.int).length, rfl, .inl ⟨_, hsq2, rfl⟩, _, _, rfl, rfl, _, rfl, ite2 (fun hd => ?_) (fun hd => ?_)⟩
      · refine ⟨_, rfl, r, _, _, _, rfl, rfl, .of h2, atI_nat (j := 2) rfl, _, _, rfl, rfl, .inl ⟨by omega, by omega⟩, _, _, rfl, rfl, .inl ⟨_, rfl, _, _, rfl, rfl, (show (2147483647 : Int) ≠ 0 by decide), ?_⟩⟩
        refine ⟨_, rfl, r, _, _, 2, rfl, rfl, h2, rfl, ?_⟩
        obtain ⟨b1, b2⟩ := fmodB (b * 48271 + 11)
        have e3 : Exr T r H (upd H2 r (.lst [.ref sc, .int ((i + 1 : Nat) : Int), .int ((b * 48271 + 11).fmod 2147483647), .int c])) := e2.write h2 own_lst
        refine ⟨_, rfl, r, _, _, _, rfl, rfl, .of upd_same, atI_nat (j := 2) rfl, _, _, rfl, rfl, div9 (m := 7) (by decide) (by decide), .inl ⟨_, rfl, _, rfl, _, _, rfl, rfl, mne, ?_⟩⟩
        exact out _ _ e3 (hR.back e3 ⟨i + 1, _, c, upd_same, b1, b2, hc0⟩)
      · have hi : i < ns.length := by
          have z : ¬ (((i + 1 : Nat) : Int) > ((ns.map V.int).length : Nat)) := fun z => hd (decide_eq_true z)
          rw [List.length_map] at z
          omega
        refine ⟨_, rfl, r, _, _, _, rfl, rfl, .of h2, atI_nat (j := 0) rfl, _, rfl, r, _, _, _, rfl, rfl, .of h2, atI_nat (j := 1) rfl, _, _, rfl, rfl, ?_⟩
        refine ⟨sc, _, _, .int ns[i], rfl, rfl, hsq2, ?_, ?_⟩
        · rw [show ((i + 1 : Nat) : Int) - 1 = (i : Int) by omega]
          exact atI_nat (by rw [List.getElem?_map, List.getElem?_eq_getElem hi]; rfl)
        · generalize ns[i] = z
          refine ⟨_, rfl, r, _, _, _, rfl, rfl, .of h2, atI_nat (j := 2) rfl, _, _, rfl, rfl, .inl ⟨by omega, by omega⟩, _, rfl, _, _, rfl, rfl, _, _, rfl, rfl, .inl ⟨_, rfl, _, _, rfl, rfl, (show (2147483647 : Int) ≠ 0 by decide), ?_⟩⟩
          refine ⟨_, rfl, r, _, _, 2, rfl, rfl, h2, rfl, ?_⟩
          obtain ⟨b1, b2⟩ := fmodB (b * 48271 + z + 11)
          have e3 : Exr T r H (upd H2 r (.lst [.ref sc, .int ((i + 1 : Nat) : Int), .int ((b * 48271 + z + 11).fmod 2147483647), .int c])) := e2.write h2 own_lst
          refine ⟨_, rfl, _, _, rfl, rfl, ⟨by decide, by decide, by decide⟩, _, _, rfl, rfl, _, rfl, ite2 (fun hz => ?_) (fun hz => ?_)⟩
          · have hz : z ≥ 10 ^ 18 := of_decide_eq_true hz
            refine ⟨_, rfl, _, rfl, _, _, rfl, rfl, div9 m0 m1, _, rfl, r, _, _, 3, rfl, rfl, upd_same, rfl, ?_⟩
            have e4 : Exr T r H (upd (upd H2 r (.lst [.ref sc, .int ((i + 1 : Nat) : Int), .int ((b * 48271 + z + 11).fmod 2147483647), .int c])) r (.lst [.ref sc, .int ((i + 1 : Nat) : Int), .int ((b * 48271 + z + 11).fmod 2147483647), .int (z / m)])) := e3.write upd_same own_lst
            exact ⟨_, rfl, .inl ⟨_, rfl, _, rfl, _, _, rfl, rfl, mne, out _ _ e4 (hR.back e4 ⟨i + 1, _, z / m, upd_same, b1, b2, Int.ediv_nonneg (by omega) (by omega)⟩)⟩⟩
          · exact ⟨_, rfl, .inl ⟨_, rfl, _, rfl, _, _, rfl, rfl, mne, out _ _ e3 (hR.back e3 ⟨i + 1, _, c, upd_same, b1, b2, hc0⟩)⟩⟩
end
end L2.K10

set_option Elab.async false
set_option linter.all false
set_option maxRecDepth 100000
set_option maxHeartbeats 4000000
namespace L2.K10
open PySem PySem.Spec PyProof.Rows
section
variable {P : Program} {w : World} {K : PySem.W.Frag} {mg : Str → Option Value} {base : Heap}
abbrev nPick : List Str := ["_law_row", "_law_things"]
theorem scPick : FnScope nPick ["_law_row", "_law_things"] (defScope (top 29)) := ⟨rfl, rfl, rfl, by decide +kernel, rfl, by decide +kernel, by decide +kernel⟩
def spPick (K : PySem.W.Frag) (T : Tbs) : Sp := fun vs H Q _ => ∃ (r sc p : Addr) (ns : List Int) (xs : List V), vs = [.ref r, .ref p] ∧ 0 < xs.length ∧ xs.length ≤ 1000 ∧ Rw K H r sc ns ∧ ns.length ≤ 1000 ∧ p ≠ r ∧ H p = some (.lst xs) ∧
  ∀ H' (n : Nat) v, xs[n]? = some v → Exr T r H H' → Rw K H' r sc ns → Q v H'
theorem ok_pick {T : Tbs} {f fT : Addr} {fd fdT : FuncData} (F : FnP K "_law_pick" 29 f fd) (FT : FnP K "_law_taken" 28 fT fdT) (gT : mg "_law_taken" = some (.ref fT)) (mI : mg "int" = none) (mL : mg "len" = none) : FnOk P w K mg base CX0 2 f fd ["_law_row", "_law_things"] (spPick K T) := by
  have GT : FnOk P w K mg base CX0 1 fT fdT ["_law_row", "_law_many"] (spTaken K T) := ok_taken FT mI mL
  have bT : Binds K fdT ["_law_row", "_law_many"] [] := FT.bindsN fun _ _ _ _ _ _ us hl => match us, hl with | [_, _], _ => rfl
  refine F.ok scPick (fun vs H Q E h => ?_) (fun cdv A outer s H vs Q E hr h => ?_)
  · obtain ⟨r, sc, p, ns, xs, rfl, _⟩ := h
    rfl
  · obtain ⟨r, sc, p, ns, xs, rfl, m0, m1, hR, hns, npr, hp, q⟩ := h
    refine ⟨_, PSs.nox (pss_one (ps_ret (pe_ix ix_list (pv 1) (pe_call GT hr (by rfl) gT FT.kp bT .nil pass0 (pa_cons (pv 0) (pa_cons (pe_callB call_len (by rfl) mL boot_len (pa_cons (pv 1) pa_nil)) pa_nil))) (fun _ _ => rfl)))), ?_⟩
    simp only [cxp, cxw, cxk, cxp', cxw', cxk']
    refine ⟨_, rfl, _, rfl, _, rfl, .ref p, xs.length, rfl, .inl ⟨_, .of hp, rfl⟩, r, sc, ns, xs.length, rfl, m0, m1, hR, hns, fun H1 n hn e1 hR1 => ?_⟩
    exact ⟨p, xs, _, xs[n], rfl, rfl, .of (e1.keep _ _ npr hp own_lst.1), atI_nat (List.getElem?_eq_getElem hn), q _ n _ (List.getElem?_eq_getElem hn) e1 hR1⟩
end
end L2.K10

set_option Elab.async false
set_option linter.all false
set_option maxRecDepth 100000
set_option maxHeartbeats 4000000
namespace L2.K10
open PySem PySem.Spec PyProof.Rows
def rTupOf (K : PySem.W.Frag) : List V → Hp → VK → Prop := fun xs H Q => ∃ p ys, xs = [.ref p] ∧ ((SqL K H p ys ∧ ∀ l, H l = none → Q (.ref l) (upd H l (.tup ys))) ∨ (SqT K H p ys ∧ Q (.ref p) H))
theorem cr_tupOf {X : Cx} : CallR X (.type "tuple") (rTupOf X.K) := call_tuple_of
/-- a yard as drawn -/
structure GY (Y : Yd) : Prop where
  n2 : 2 ≤ Y.n
  n4 : Y.n ≤ 4
  g : Y.g < Y.n
  lt : ∀ t ∈ Y.ties, t.1 < t.2 ∧ t.2 < Y.n
  tr : ∀ p, 1 ≤ p → p < Y.n → ∃ t ∈ Y.ties, t.2 = p
  asc : Y.ties.Pairwise fun a b => a.1 < b.1 ∨ a.1 = b.1 ∧ a.2 < b.2
theorem IsP.new {H : Hp} {p : Addr} {a b : Nat} : IsP (upd H p (.tup [nV a, nV b])) p (a, b) := upd_same
theorem pl_app {H : Hp} {D b : Addr} {as : List Addr} {ts : List (Nat × Nat)} {t : Nat × Nat} (h : H D = some (.lst (as.map V.ref))) (hp : Paired (IsP H) as ts) (hb : IsP H b t) : IsPL (upd H D (.lst (as.map V.ref ++ [.ref b]))) D (ts ++ [t]) := by
  have m := tps_write (o := .lst (as.map V.ref ++ [.ref b])) h (fun _ z => nomatch z)
  exact ⟨as ++ [b], by rw [upd_same, List.map_append]; rfl, Paired.snoc (IsPs.mono m hp) (hb.mono m)⟩
theorem IsPL.mono {T : Tbs} {H H' : Hp} (e : Ex T H H') {l : Addr} {ts : List (Nat × Nat)} (h : IsPL H l ts) : IsPL H' l ts := let ⟨as, h1, h2⟩ := h; ⟨as, e.keep _ _ h1 own_lst.1, IsPs.mono e.tps h2⟩
theorem IsPL.monoR {T : Tbs} {r : Addr} {H H' : Hp} (e : Exr T r H H') (t : TpS H H') {l : Addr} (n : l ≠ r) {ts : List (Nat × Nat)} (h : IsPL H l ts) : IsPL H' l ts := let ⟨as, h1, h2⟩ := h; ⟨as, e.keep _ _ n h1 own_lst.1, IsPs.mono t h2⟩
theorem pl_len {H : Hp} {as : List Addr} {ts : List (Nat × Nat)} (hp : Paired (IsP H) as ts) : (as.map V.ref).length = ts.length := by rw [List.length_map]; exact Paired.length hp
theorem zip_fst {α β γ : Type} (f : α → γ) : ∀ {l : List α} {m : List β}, l.length = m.length → (l.zip m).map (fun p => f p.1) = l.map f
  | [], [], _ => rfl
  | _ :: l, _ :: m, h => by simp [zip_fst f (l := l) (m := m) (by simpa using h)]
theorem paired_zip {α β : Type} {F : α → β → Prop} : ∀ {l : List α} {m : List β}, Paired F l m → ∀ {x : α × β}, x ∈ l.zip m → F x.1 x.2
  | _, _, .nil, _, hx => by simp at hx
  | _, _, .cons h t, x, hx => by
    rw [List.zip_cons_cons] at hx
    rcases List.mem_cons.mp hx with rfl | hx
    · exact h
    · exact paired_zip t hx
theorem zip_has {α β : Type} : ∀ {l : List α} {m : List β}, l.length = m.length → ∀ {t : β}, t ∈ m → ∃ a, (a, t) ∈ l.zip m
  | [], [], _, _, ht => by cases ht
  | [], _ :: _, h, _, _ => by simp at h
  | _ :: _, [], h, _, _ => by simp at h
  | a :: l, b :: m, h, t, ht => by
    rcases List.mem_cons.mp ht with rfl | ht
    · exact ⟨a, by simp⟩
    · obtain ⟨c, hc⟩ := zip_has (l := l) (m := m) (by simpa using h) ht
      exact ⟨c, by rw [List.zip_cons_cons]; exact List.mem_cons_of_mem _ hc⟩
theorem rows_back {H : Hp} {ts : List (Nat × Nat)} : ∀ {L : List (Addr × List Int)}, (∀ p ∈ L, ∃ b t, p = (b, [((t : Nat × Nat).1 : Int), (t.2 : Int)]) ∧ t ∈ ts ∧ IsP H b t) →
    ∃ ts' : List (Nat × Nat), L.map (·.2) = ts'.map (fun t => [(t.1 : Int), (t.2 : Int)]) ∧ Paired (IsP H) (L.map (·.1)) ts' ∧ ∀ t ∈ ts', t ∈ ts
  | [], _ => ⟨[], rfl, .nil, fun _ h => by cases h⟩
  | p :: L, h => by
    obtain ⟨b, t, rfl, h1, h2⟩ := h p List.mem_cons_self
    obtain ⟨ts', e1, e2, e3⟩ := rows_back (L := L) fun q hq => h q (List.mem_cons_of_mem _ hq)
    refine ⟨t :: ts', by rw [List.map_cons, e1]; rfl, .cons h2 e2, fun u hu => ?_⟩
    rcases List.mem_cons.mp hu with rfl | hu
    · exact h1
    · exact e3 u hu
theorem rows_asc {L : List (Addr × List Int)} {ts : List (Nat × Nat)} (e : L.map (·.2) = ts.map (fun t => [(t.1 : Int), (t.2 : Int)])) (hn : (L.map (·.2)).Nodup) (hp : L.Pairwise (fun q r => TS.code 64 q.2 ≤ TS.code 64 r.2)) (hs : ∀ t ∈ ts, t.1 < 64 ∧ t.2 < 64) :
    ts.Pairwise fun a b => a.1 < b.1 ∨ a.1 = b.1 ∧ a.2 < b.2 := by
  have h1 : (L.map (·.2)).Pairwise (fun a b => TS.code 64 a ≤ TS.code 64 b) := List.pairwise_map.mpr hp
  rw [e] at h1 hn
  have h2 := List.pairwise_map.mp h1
  have h3 := List.pairwise_map.mp hn
  refine List.Pairwise.imp_of_mem (fun {a b} ha hb h => ?_) (h2.and h3)
  obtain ⟨h4, h5⟩ := h
  rw [code_pair, code_pair] at h4
  have := hs a ha
  have := hs b hb
  by_cases e1 : a.1 = b.1
  · by_cases e2 : a.2 = b.2
    · exact absurd (by rw [e1, e2]) h5
    · omega
  · omega
theorem ite_join {α β : Type} {c A : Prop} [Decidable c] {C : α → β → Prop} {σ0 : α} {H0 : β} (J : α → β → Prop) (hJ : ∀ σ H, J σ H → C σ H) (h1 : c → (∀ σ H, J σ H → C σ H) → A) (h2 : ¬ c → J σ0 H0) : if c then A else C σ0 H0 := by
  split
  · exact h1 ‹_› hJ
  · exact hJ _ _ (h2 ‹_›)
theorem ite_joinC {c A : Prop} [Decidable c] {Q : VK} {v0 : V} {σ : St} {H0 : Hp} (J : V → Hp → Prop) (hJ : ∀ v H, J v H → Q v H) (h1 : c → (∀ v H, J v H → Q v H) → A) (h2 : ¬ c → J v0 H0) : if c then A else tC v0 σ H0 Q := by
  split
  · exact h1 ‹_› hJ
  · exact hJ _ _ (h2 ‹_›)
section
variable {P : Program} {w : World} {K : PySem.W.Frag} {mg : Str → Option Value} {base : Heap}
abbrev nYdL : List Str := ["_law_row", "_law_most", "_law_places", "_law_ties", "_law_pairs", "_law_one", "_law_way", "_law_turn", "_law_place", "_law_other"]
theorem scYdL : FnScope nYdL ["_law_row", "_law_most"] (defScope (top 31)) := ⟨rfl, rfl, rfl, by decide +kernel, rfl, by decide +kernel, by decide +kernel⟩
def spYdL (K : PySem.W.Frag) (T : Tbs) : Sp := fun vs H Q _ => ∃ (r sc : Addr) (ns : List Int), vs = [.ref r, nV 4] ∧ Rw K H r sc ns ∧ ns.length ≤ 1000 ∧
  ∀ H' y Y, Exr T r H H' → Rw K H' r sc ns → H y = none → IsY H' y Y → GY Y → Q (.ref y) H'
theorem ok_ydL {T : Tbs} {f fT fP : Addr} {fd fdT fdP : FuncData} (F : FnP K "_law_yard" 31 f fd) (FT : FnP K "_law_taken" 28 fT fdT) (FP : FnP K "_law_pick" 29 fP fdP) (gT : mg "_law_taken" = some (.ref fT)) (gP : mg "_law_pick" = some (.ref fP))
    (mI : mg "int" = none) (mL : mg "len" = none) (mS : mg "sorted" = none) (mR : mg "range" = none) (mT : mg "tuple" = none) (mSe : mg "set" = none) :
    FnOk P w K mg base CX0 3 f fd ["_law_row", "_law_most"] (spYdL K T) := by
  have GT : FnOk P w K mg base CX0 1 fT fdT ["_law_row", "_law_many"] (spTaken K T) := ok_taken FT mI mL
  have bT : Binds K fdT ["_law_row", "_law_many"] [] := FT.bindsN fun _ _ _ _ _ _ us hl => match us, hl with | [_, _], _ => rfl
  have GP : FnOk P w K mg base CX0 2 fP fdP ["_law_row", "_law_things"] (spPick K T) := ok_pick FP FT gT mI mL
  have bP : Binds K fdP ["_law_row", "_law_things"] [] := FP.bindsN fun _ _ _ _ _ _ us hl => match us, hl with | [_, _], _ => rfl
  refine F.ok scYdL (fun vs H Q E h => ?_) (fun cdv A outer s H vs Q E hr h => ?_)
  · obtain ⟨r, sc, ns, rfl, _⟩ := h
    rfl
  · obtain ⟨r, sc, ns, rfl, hR, hns, q⟩ := h
    refine ⟨_, PSs.nox (pss_cons (ps_set (i := 2) scYdL.nd rfl (.inl rfl) (pe_op op_add pe_int (pe_call GT (hr.mono (by decide)) (by rfl) gT FT.kp bT .nil pass0 (pa_cons (pv 0) (pa_cons (pe_op op_sub (pv 1) pe_int) pa_nil)))))
      (pss_cons (ps_setLc (i := 3) (own := [("_law_place", 8)]) (g := gName 8) (tt := tYes)
          (te := tCB (rTupOf K) (tCons (tCB (rSorted K) (tCons (tLst (tCons (tVar 8) (tCons (tCall (spTaken K T) [] E0 (tCons (tVar 0) (tCons (tVar 8) tNil))) tNil))) tNil)) tNil)) (by rfl) scYdL.nd rfl rfl (by rfl)
          (pi_range2 (by rfl) mR (pa_cons pe_int (pa_cons (pv 2) pa_nil))) (blkOk_by (own := [("_law_place", 8)]) (N := nYdL) (sc := defScope (top 31)) (by decide +kernel))
          (fun _ _ _ _ _ => pg_name (i := 8) scYdL.nd rfl (.inl rfl)) (fun _ _ _ _ _ => pts_nil)
          (fun _ _ _ _ _ => pe_callTy cr_tupOf (by rfl) mT (by decide +kernel) (pa_cons (pe_callB cr_sorted (by rfl) mS (by decide +kernel) (pa_cons (pe_lst (pa_cons (pv 8) (pa_cons (pe_call GT (hr.mono (by decide)) (by rfl) gT FT.kp bT .nil pass0 (pa_cons (pv 0) (pa_cons (pv 8) pa_nil))) pa_nil))) pa_nil)) pa_nil)))
      (pss_cons (ps_set (i := 4) scYdL.nd rfl (.inl rfl) (pe_lst pa_nil))
      (pss_cons (ps_for PassesOwn.never rfl (pi_range1 (by rfl) mR (pa_cons (pv 2) pa_nil)) (pg_name (i := 5) scYdL.nd rfl (.inr rfl))
        (pss_one (ps_set (i := 4) scYdL.nd rfl (.inl rfl) (pe_op op_cat (pv 4)
          (pe_lc (own := [("_law_other", 9)]) (g := gName 9) (tt := tYes) (te := tTup (tCons (tVar 5) (tCons (tVar 9) tNil))) (by rfl) scYdL.nd
            (pi_range2 (by rfl) mR (pa_cons (pe_op op_add (pv 5) pe_int) (pa_cons (pv 2) pa_nil))) (blkOk_by (own := [("_law_other", 9)]) (N := nYdL) (sc := defScope (top 31)) (by decide +kernel))
            (fun _ _ _ _ _ => pg_name (i := 9) scYdL.nd rfl (.inl rfl)) (fun _ _ _ _ _ => pts_nil)
            (fun _ _ _ _ _ => pe_tup (pa_cons (pv 5) (pa_cons (pv 9) pa_nil))))))))
      (pss_cons (ps_set (i := 6) scYdL.nd rfl (.inl rfl) (pe_call GT (hr.mono (by decide)) (by rfl) gT FT.kp bT .nil pass0 (pa_cons (pv 0) (pa_cons pe_int pa_nil))))
      (pss_cons (ps_if (pt_cmpR op_eq (pv 6) pe_int (nomark _))
        (pss_one (ps_set (i := 3) scYdL.nd rfl (.inl rfl) (pe_op op_cat
          (pe_lc (own := [("_law_place", 8)]) (g := gName 8) (tt := tYes) (te := tTup (tCons (tVar 8) (tCons (tOp (rI0 fun i j => .int (i + j)) (tVar 8) (tC (.int 1))) tNil))) (by rfl) scYdL.nd
            (pi_range1 (by rfl) mR (pa_cons (pe_op op_sub (pv 2) pe_int) pa_nil)) (blkOk_by (own := [("_law_place", 8)]) (N := nYdL) (sc := defScope (top 31)) (by decide +kernel))
            (fun _ _ _ _ _ => pg_name (i := 8) scYdL.nd rfl (.inl rfl)) (fun _ _ _ _ _ => pts_nil)
            (fun _ _ _ _ _ => pe_tup (pa_cons (pv 8) (pa_cons (pe_op op_add (pv 8) pe_int) pa_nil))))
          (pe_lst (pa_cons (pe_tup (pa_cons pe_int (pa_cons (pe_op op_sub (pv 2) pe_int) pa_nil))) pa_nil))))) pss_nil)
      (pss_cons (ps_for PassesOwn.never rfl (pi_range1 (by rfl) mR (pa_cons (pe_ifExp (pt_cmp (pc_lt (pv 6) pe_int)) (pe_call GT (hr.mono (by decide)) (by rfl) gT FT.kp bT .nil pass0 (pa_cons (pv 0) (pa_cons pe_int pa_nil))) pe_int) pa_nil)) (pg_name (i := 7) scYdL.nd rfl (.inl rfl))
        (pss_one (ps_expr (pe_bm PySem.F.plainAttrs_list PySem.F.slot_list_append PySem.F.type_list_append mt_append (pv 3) (pa_cons (pe_call GP hr (by rfl) gP FP.kp bP .nil pass0 (pa_cons (pv 0) (pa_cons (pv 4) pa_nil))) pa_nil)))))
      (pss_one (ps_ret (pe_tup (pa_cons (pv 2) (pa_cons
        (pe_callTy cr_tupOf (by rfl) mT (by decide +kernel) (pa_cons (pe_callB (cr_sortedT (by rfl)) (by rfl) mS (by decide +kernel) (pa_cons (pe_callTy (cr_setOfT (by rfl) hr.units) (by rfl) mSe (by decide +kernel) (pa_cons (pv 3) pa_nil)) pa_nil)) pa_nil))
        (pa_cons (pe_call GT (hr.mono (by decide)) (by rfl) gT FT.kp bT .nil pass0 (pa_cons (pv 0) (pa_cons (pv 2) pa_nil))) pa_nil))))))))))))), ?_⟩
    simp only [cxp, cxw, cxk, cxp', cxw', cxk']
    obtain ⟨uR, huR⟩ := hR.some
    refine ⟨_, rfl, _, rfl, _, _, rfl, rfl, r, sc, ns, 3, rfl, by decide, by decide, hR, hns, fun H1 k hk e1 hR1 => ⟨_, _, rfl, rfl, ?_⟩⟩
    obtain ⟨n, hn⟩ : ∃ n : Nat, n = 2 + k := ⟨_, rfl⟩
    have hi : (2 : Int) + ((k : Nat) : Int) = (n : Int) := by omega
    simp only [hi]
    have n2 : 2 ≤ n := by omega
    have n4 : n ≤ 4 := by omega
    -- the tree
    refine ⟨_, rfl, 1, (n : Int), rfl, ⟨by omega, by omega, by omega, by omega⟩, fun D nD => ?_⟩
    have hk1 : ((n : Int) - 1).toNat = n - 1 := by omega
    rw [hk1]
    have nD0 : H D = none := e1.free _ nD
    have nDr : D ≠ r := fun z => by rw [z, huR] at nD0; cases nD0
    refine lc_range (fun i H2 => Exr T r H H2 ∧ Rw K H2 r sc ns ∧ ∃ ts, IsPL H2 D ts ∧ ts.length = i ∧ (∀ t ∈ ts, t.1 < t.2 ∧ t.2 < n) ∧ ∀ p, 1 ≤ p → p ≤ i → ∃ t ∈ ts, t.2 = p)
      ⟨e1.new nD, Rw.mono (T := T) (ex_new nD) hR1, [], ⟨[], upd_same, .nil⟩, rfl, (fun _ z => by cases z), fun p h1 h2 => by omega⟩ (fun i H2 hi2 hP => ?_) (fun H2 hP => ?_)
    · obtain ⟨e2, hR2, ts, ⟨as, hD2, has⟩, htl, ht1, ht2⟩ := hP
      have e1i : (1 : Int) + (i : Nat) = ((i + 1 : Nat) : Int) := by omega
      rw [e1i]
      refine ⟨rfl, _, rfl, _, rfl, _, rfl, r, sc, ns, i + 1, rfl, by omega, by omega, hR2, hns, fun H3 x hx e3 hR3 => ⟨by show 2 ≤ sizeLine; decide, fun q1 nq1 => ?_⟩⟩
      have nDq : D ≠ q1 := ne_of_none (e3.keep _ _ nDr hD2 own_lst.1) nq1
      refine ⟨q1, [((i + 1 : Nat) : Int), (x : Int)], rfl, .of upd_same, by show 2 < 64; decide, fun ns' q2 hperm hs nq2 => ⟨q2, _, rfl, .inl ⟨.of upd_same, fun b nb => ?_⟩⟩⟩
      have hns' := srt_unique (l := [i + 1, x]) hperm hs
      have hsr : isrt [i + 1, x] = [x, i + 1] := by
        show ins (i + 1) (ins x []) = _
        simp only [ins]
        rw [if_neg (by omega)]
      have hm : ns'.map V.int = [nV x, nV (i + 1)] := by
        rw [hns', hsr]
        rfl
      rw [hm] at nb ⊢
      have hD3 : upd (upd (upd H3 q1 (.lst [V.int ((i + 1 : Nat) : Int), nV x])) q2 (.lst [nV x, nV (i + 1)])) b (.tup [nV x, nV (i + 1)]) D = some (.lst (as.map V.ref)) := by
        have h3 := e3.keep _ _ nDr hD2 own_lst.1
        have h4 : upd H3 q1 (.lst [V.int ((i + 1 : Nat) : Int), nV x]) D = some (.lst (as.map V.ref)) := by rw [upd_ne nDq]; exact h3
        have h5 : upd (upd H3 q1 (.lst [V.int ((i + 1 : Nat) : Int), nV x])) q2 (.lst [nV x, nV (i + 1)]) D = some (.lst (as.map V.ref)) := by rw [upd_ne (ne_of_none h4 nq2)]; exact h4
        rw [upd_ne (ne_of_none h5 nb)]
        exact h5
      have eX : Ex T H3 _ := ((ex_new (o := .lst [V.int ((i + 1 : Nat) : Int), nV x]) nq1).trans (ex_new (o := .lst [nV x, nV (i + 1)]) nq2)).trans (ex_new (o := .tup [nV x, nV (i + 1)]) nb)
      have hb : IsP (upd (upd (upd H3 q1 (.lst [V.int ((i + 1 : Nat) : Int), nV x])) q2 (.lst [nV x, nV (i + 1)])) b (.tup [nV x, nV (i + 1)])) b (x, i + 1) := upd_same
      show ∃ acc, upd (upd (upd H3 q1 (.lst [V.int ((i + 1 : Nat) : Int), nV x])) q2 (.lst [nV x, nV (i + 1)])) b (.tup [nV x, nV (i + 1)]) D = some (.lst acc) ∧ _
      refine ⟨_, hD3, small1000 (by rw [pl_len has]; omega), ?_⟩
      have has3 := IsPs.mono (hR2.tps e3) has
      have has4 := IsPs.mono eX.tps has3
      have e4 := (e2.trans e3).trans eX.row
      have hR4 := hR3.mono eX
      generalize upd (upd (upd H3 q1 (.lst [V.int ((i + 1 : Nat) : Int), nV x])) q2 (.lst [nV x, nV (i + 1)])) b (.tup [nV x, nV (i + 1)]) = H4 at hD3 hb has4 e4 hR4 ⊢
      refine ⟨e4.writeN nD0 hD3 own_lst, hR.writeN e4 hR4 nD0 hD3 own_lst, _, pl_app hD3 has4 hb, by simp [htl], fun t ht => ?_, fun p h1 h2 => ?_⟩
      · rcases List.mem_append.mp ht with h | h
        · exact ht1 t h
        · simp at h
          subst h
          exact ⟨hx, by show i + 1 < n; omega⟩
      · by_cases hp : p ≤ i
        · obtain ⟨t, h3, h4⟩ := ht2 p h1 hp
          exact ⟨t, List.mem_append.mpr (.inl h3), h4⟩
        · exact ⟨(x, i + 1), List.mem_append.mpr (.inr (List.mem_singleton.mpr rfl)), by show i + 1 = p; omega⟩
    · obtain ⟨e2, hR2, ts, hts, htl, ht1, ht2⟩ := hP
      -- the pairs
      refine ⟨by show 0 ≤ sizeLine; decide, fun p0 np0 => ?_⟩
      have np00 : H p0 = none := e2.free _ np0
      have ex3 := ex_new (T := T) (o := .lst []) np0
      have np0D : p0 ≠ D := fun z => by obtain ⟨as, h1, _⟩ := hts; rw [← z, np0] at h1; cases h1
      have e3 := e2.trans ex3.row
      have hR3 := hR2.mono ex3
      have hts3 := hts.mono ex3
      have hp3 : IsPL (upd H2 p0 (.lst [])) p0 [] := ⟨[], upd_same, .nil⟩
      generalize upd H2 p0 (.lst []) = H3 at ex3 e3 hR3 hts3 hp3 ⊢
      refine ⟨_, rfl, (n : Int), rfl, by omega, by omega, for_range (lo := 0) (n := n) (fun i σ H4 => ∃ pa z5, σ = [some (.ref r), some (nV 4), some (nV n), some (.ref D), some (.ref pa), z5, none, none, none, none] ∧ Exr T r H H4 ∧ Rw K H4 r sc ns ∧ H pa = none ∧ pa ≠ D ∧ IsPL H4 D ts ∧
          ∃ ps, IsPL H4 pa ps ∧ ps.length ≤ 4 * i ∧ (1 ≤ i → 0 < ps.length) ∧ ∀ t ∈ ps, t.1 < t.2 ∧ t.2 < n)
        ⟨p0, none, rfl, e3, hR3, np00, np0D, hts3, [], hp3, by simp, by omega, (fun _ z => by cases z)⟩ (fun i σ H4 hi4 hP => ?_) (fun σ H4 hP => ?_)⟩
      · obtain ⟨pa, z5, rfl, e4, hR4, npa, npaD, hts4, ps, hps, hpl, hp1, hp2⟩ := hP
        have z0 : (0 : Int) + (i : Nat) = ((i : Nat) : Int) := by omega
        rw [z0]
        refine ⟨_, rfl, _, rfl, _, _, rfl, rfl, _, rfl, _, _, rfl, ⟨by omega, by omega, by omega, by omega⟩, fun D5 nD5 => ?_⟩
        have hk5 : ((n : Int) - ((i : Int) + 1)).toNat = n - (i + 1) := by omega
        rw [hk5]
        refine lc_range (fun j H5 => Ex T H4 H5 ∧ ∃ qs, IsPL H5 D5 qs ∧ qs.length = j ∧ ∀ t ∈ qs, t.1 < t.2 ∧ t.2 < n) ⟨ex_new nD5, [], ⟨[], upd_same, .nil⟩, rfl, (fun _ z => by cases z)⟩ (fun j H5 hj hP => ?_) (fun H5 hP => ?_)
        · obtain ⟨e5, qs, ⟨as, hD5, has⟩, hql, hq⟩ := hP
          have zj : (i : Int) + 1 + (j : Nat) = ((i + 1 + j : Nat) : Int) := by omega
          rw [zj]
          refine ⟨rfl, _, rfl, _, rfl, by show 2 ≤ sizeLine; decide, fun b nb => ⟨as.map V.ref, ?_, ?_, ?_⟩⟩
          · rw [upd_ne (ne_of_none hD5 nb)]
            exact hD5
          · exact small1000 (by rw [pl_len has]; omega)
          · have hD6 : upd H5 b (.tup [nV i, nV (i + 1 + j)]) D5 = some (.lst (as.map V.ref)) := by
              rw [upd_ne (ne_of_none hD5 nb)]
              exact hD5
            refine ⟨(e5.trans (ex_new nb)).write nD5 hD6 own_lst, _, pl_app hD6 (IsPs.mono (tps_new nb) has) (t := (i, i + 1 + j)) upd_same, by simp [hql], fun t ht => ?_⟩
            rcases List.mem_append.mp ht with h | h
            · exact hq t h
            · simp at h
              subst h
              exact ⟨by show i < i + 1 + j; omega, by show i + 1 + j < n; omega⟩
        · obtain ⟨e5, qs, ⟨as, hD5, has⟩, hql, hq⟩ := hP
          obtain ⟨bs, hpa, hbs⟩ := hps.mono e5
          refine ⟨pa, D5, _, _, rfl, rfl, hpa, hD5, ?_, fun p6 np6 => ?_⟩
          · rw [pl_len has, pl_len hbs]
            exact small64 (by omega)
          have e6 := ex_new (T := T) (o := .lst (bs.map V.ref ++ as.map V.ref)) np6
          refine ⟨p6, _, rfl, e4.trans (e5.trans e6).row, hR4.mono (e5.trans e6), e4.free _ (e5.free _ np6), (fun z => by obtain ⟨as, h1, _⟩ := hts4.mono e5; rw [← z, np6] at h1; cases h1), hts4.mono (e5.trans e6), ps ++ qs, ⟨bs ++ as, by rw [upd_same, List.map_append], paired_app (IsPs.mono e6.tps hbs) (IsPs.mono e6.tps has)⟩, ?_, fun _ => ?_, fun t ht => ?_⟩
          · rw [List.length_append]; omega
          · rw [List.length_append]
            by_cases h0 : i = 0
            · omega
            · have := hp1 (by omega)
              omega
          · rcases List.mem_append.mp ht with h | h
            · exact hp2 t h
            · exact hq t h
      · obtain ⟨pa, z5, rfl, e4, hR4, npa, npaD, hts4, ps, hps, hpl, hp1, hp2⟩ := hP
        have hp1 := hp1 (by omega)
        clear ex3 e3 hR3 hts3 hp3
        have npar : pa ≠ r := fun z => by rw [z, huR] at npa; cases npa
        -- the way
        refine ⟨_, rfl, r, sc, ns, 4, rfl, by decide, by decide, hR4, hns, fun H5 wy hwy e5 hR5 => ?_⟩
        have t5 := hR4.tps e5
        have hts5 := hts4.monoR e5 t5 nDr
        have hps5 := hps.monoR e5 t5 npar
        have e6 := e4.trans e5
        clear e4 hR4 hts4 hps e5 t5
        refine ⟨_, rfl, rfl, _, rfl, ite_join (fun σ H6 => ∃ D ts, σ = [some (.ref r), some (nV 4), some (nV n), some (.ref D), some (.ref pa), z5, some (nV wy), none, none, none] ∧ H D = none ∧ pa ≠ D ∧ Exr T r H H6 ∧ Rw K H6 r sc ns ∧ IsPL H6 D ts ∧ IsPL H6 pa ps ∧ ts.length ≤ 4 ∧
            (∀ t ∈ ts, t.1 < t.2 ∧ t.2 < n) ∧ ∀ p, 1 ≤ p → p < n → ∃ t ∈ ts, t.2 = p) (fun σ H6 hJ => ?_) (fun hw key => ?_) (fun hw => ⟨D, ts, rfl, nD0, npaD, e6, hR5, hts5, hps5, by omega, ht1, fun p h1 h2 => ht2 p h1 (by omega)⟩)⟩
        · clear hR5 hts5 hps5 e6 hts htl ht1 ht2 hR2 e2
          obtain ⟨D, ts, rfl, nD0, npaD, e6, hR6, hts6, hps6, htl, ht1, ht2⟩ := hJ
          have nDr : D ≠ r := fun z => by rw [z, huR] at nD0; cases nD0
          refine ⟨_, rfl, _, _, rfl, rfl, _, rfl, ite_joinC (fun v H7 => ∃ m : Nat, v = nV m ∧ m ≤ 4 ∧ Exr T r H H7 ∧ Rw K H7 r sc ns ∧ IsPL H7 D ts ∧ IsPL H7 pa ps) (fun v H7 hJ => ?_) (fun _ key => ?_) (fun _ => ⟨0, rfl, by omega, e6, hR6, hts6, hps6⟩)⟩
          · clear e6 hR6 hts6 hps6
            obtain ⟨m, rfl, hm, e7, hR7, hts7, hps7⟩ := hJ
            refine ⟨(m : Int), rfl, by omega, by omega, for_range (lo := 0) (n := m) (fun i σ H8 => ∃ z7, σ = [some (.ref r), some (nV 4), some (nV n), some (.ref D), some (.ref pa), z5, some (nV wy), z7, none, none] ∧ Exr T r H H8 ∧ Rw K H8 r sc ns ∧ IsPL H8 pa ps ∧
                ∃ ts, IsPL H8 D ts ∧ ts.length ≤ 4 + i ∧ (∀ t ∈ ts, t.1 < t.2 ∧ t.2 < n) ∧ ∀ p, 1 ≤ p → p < n → ∃ t ∈ ts, t.2 = p)
              ⟨none, rfl, e7, hR7, hps7, ts, hts7, by omega, ht1, ht2⟩ (fun i σ H8 hi8 hP => ?_) (fun σ H8 hP => ?_)⟩
            · clear e7 hR7 hts7 hps7 htl ht1 ht2
              obtain ⟨z7, rfl, e7, hR7, hps7, ts, hts7, htl, ht1, ht2⟩ := hP
              obtain ⟨bs, hpa, hbs⟩ := id hps7
              obtain ⟨as, hD, has⟩ := id hts7
              refine ⟨_, rfl, .inl ⟨rfl, _, .of hD⟩, _, rfl, _, rfl, r, sc, pa, ns, bs.map V.ref, rfl, by rw [pl_len hbs]; exact hp1, by rw [pl_len hbs]; omega, hR7, hns, npar, hpa, fun H9 k v hv e9 hR9 => ?_⟩
              obtain ⟨b, t, rfl, ht, hb⟩ := ips_at hbs hv
              have t9 := hR7.tps e9
              have hD9 := e9.keep _ _ nDr hD own_lst.1
              have e10 := e7.trans e9
              have hb9 := hb.mono t9
              have htm := List.mem_of_getElem? ht
              refine ⟨D, _, _, rfl, rfl, hD9, small64 (by rw [pl_len has]; omega), _, rfl, e10.writeN nD0 hD9 own_lst, hR.writeN e10 hR9 nD0 hD9 own_lst, ?_, ts ++ [t], pl_app hD9 (IsPs.mono t9 has) hb9, by simp; omega, fun t2 ht2' => ?_, fun p h1 h2 => ?_⟩
              · exact ⟨bs, by rw [upd_ne npaD]; exact e9.keep _ _ npar hpa own_lst.1, IsPs.mono (tps_write hD9 (fun _ z => nomatch z)) (IsPs.mono t9 hbs)⟩
              · rcases List.mem_append.mp ht2' with h | h
                · exact ht1 t2 h
                · simp at h
                  subst h
                  exact hp2 _ htm
              · obtain ⟨t2, h3, h4⟩ := ht2 p h1 h2
                exact ⟨t2, List.mem_append.mpr (.inl h3), h4⟩
            · clear e7 hR7 hts7 hps7 htl ht1 ht2
              obtain ⟨z7, rfl, e7, hR7, hps7, ts, hts7, htl, ht1, ht2⟩ := hP
              obtain ⟨as, hD, has⟩ := hts7
              -- set, sorted, tuple
              have hks : (as.map V.ref) = ((as.zip ts).map fun p => ((p.1, [(p.2.1 : Int), (p.2.2 : Int)]) : Addr × List Int)).map fun p => V.ref p.1 := by
                rw [List.map_map]
                show _ = (as.zip ts).map fun p => V.ref p.1
                exact (zip_fst V.ref (Paired.length has)).symm
              have hkm : ∀ p ∈ ((as.zip ts).map fun p => ((p.1, [(p.2.1 : Int), (p.2.2 : Int)]) : Addr × List Int)), ∃ b t, p = (b, [((t : Nat × Nat).1 : Int), (t.2 : Int)]) ∧ t ∈ ts ∧ IsP H8 b t := by
                intro p hp
                obtain ⟨x, hx, rfl⟩ := List.mem_map.mp hp
                exact ⟨x.1, x.2, rfl, (List.of_mem_zip hx).2, paired_zip has hx⟩
              have hkt : ∀ t ∈ ts, [(t.1 : Int), (t.2 : Int)] ∈ ((as.zip ts).map fun p => ((p.1, [(p.2.1 : Int), (p.2.2 : Int)]) : Addr × List Int)).map (·.2) := by
                intro t ht
                rw [List.map_map]
                obtain ⟨a, ha⟩ := zip_has (Paired.length has) ht
                exact List.mem_map.mpr ⟨(a, t), ha, rfl⟩
              have hkl : ((as.zip ts).map fun p => ((p.1, [(p.2.1 : Int), (p.2.2 : Int)]) : Addr × List Int)).length < 64 := by
                rw [List.length_map, List.length_zip]
                omega
              generalize ((as.zip ts).map fun p => ((p.1, [(p.2.1 : Int), (p.2.2 : Int)]) : Addr × List Int)) = ks at hks hkm hkt hkl
              rw [hks] at hD
              refine ⟨_, rfl, _, rfl, D, ks, rfl, .of hD, fun p hp => ?_, hkl, fun a L na hL1 hL2 => ?_⟩
              · obtain ⟨b, t, rfl, _, hb⟩ := hkm p hp
                exact .of hb
              have ta := tps_new (o := SetTO P w a L) na
              have ea := ex_new (T := T) (o := SetTO P w a L) na
              refine ⟨a, L, 2, 64, rfl, upd_same, fun p hp => ?_, by decide, fun p hp => ?_, fun L' p hperm hnd hl64 hpw np => ?_⟩
              · obtain ⟨b, t, rfl, _, hb⟩ := hkm p (hL1 p hp)
                exact .of (hb.mono ta)
              · obtain ⟨b, t, rfl, ht, hb⟩ := hkm p (hL1 p hp)
                have := ht1 t ht
                refine ⟨rfl, fun m hm => ?_⟩
                simp at hm
                rcases hm with rfl | rfl <;> omega
              have ep := ea.trans (ex_new (o := .lst (L'.map fun q => V.ref q.1)) np)
              refine ⟨p, _, rfl, .inl ⟨.of upd_same, fun l nl => ?_⟩⟩
              have el := ep.trans (ex_new (o := .tup (L'.map fun q => V.ref q.1)) nl)
              have hl : upd (upd (upd H8 a (SetTO P w a L)) p (.lst (L'.map fun q => V.ref q.1))) l (.tup (L'.map fun q => V.ref q.1)) l = some (.tup (L'.map fun q => V.ref q.1)) := upd_same
              have l0 : H l = none := e7.free _ (ep.free _ nl)
              refine ⟨_, rfl, _, rfl, r, sc, ns, n, rfl, by omega, by omega, hR7.mono el, hns, fun H9 g hg e9 hR9 => ⟨by show 3 ≤ sizeLine; decide, fun y ny => ?_⟩⟩
              have lr : l ≠ r := fun z => by rw [z, huR] at l0; cases l0
              have t9 := (hR7.mono el).tps e9
              have hl9 := e9.keep _ _ lr hl own_tup.1
              have e10 := (e7.trans el.row).trans e9
              have hpL : ∀ p ∈ L', ∃ b t, p = (b, [((t : Nat × Nat).1 : Int), (t.2 : Int)]) ∧ t ∈ ts ∧ IsP H8 b t := fun p hp => hkm p (hL1 p (hperm.mem_iff.mp hp))
              obtain ⟨ts', hts', hts2, hts3⟩ := rows_back hpL
              refine q _ y ⟨n, ts', g⟩ (e10.new ny) (Rw.mono (T := T) (ex_new ny) hR9) (e10.free _ ny) ⟨l, upd_same, L'.map (·.1), ?_, ?_⟩ ⟨n2, n4, hg, fun t ht => ht1 t (hts3 t ht), fun p h1 h2 => ?_, ?_⟩
              · rw [upd_ne (ne_of_none hl9 ny), hl9, List.map_map]
                rfl
              · exact IsPs.mono (tps_new ny) (IsPs.mono t9 (IsPs.mono el.tps hts2))
              · obtain ⟨t, ht, htp⟩ := ht2 p h1 h2
                have h5 : [(t.1 : Int), (t.2 : Int)] ∈ L'.map (·.2) := (hperm.map _).mem_iff.mpr (by
                  obtain ⟨p, hp, hpe⟩ := List.mem_map.mp (hkt t ht)
                  rw [← hpe]
                  exact hL2 p hp)
                rw [hts'] at h5
                obtain ⟨t', ht', he⟩ := List.mem_map.mp h5
                have e3 : t'.2 = t.2 := by injection he with _ he; injection he with he _; omega
                exact ⟨t', ht', by rw [e3]; exact htp⟩
              · exact rows_asc hts' hnd hpw (fun t ht => by have := ht1 t (hts3 t ht); omega)
          · refine ⟨_, rfl, r, sc, ns, 4, rfl, by decide, by decide, hR6, hns, fun H7 m hm e7 hR7 => key _ _ ⟨m, rfl, by omega, e6.trans e7, hR7, hts6.monoR e7 (hR6.tps e7) nDr, hps6.monoR e7 (hR6.tps e7) npar⟩⟩
        · refine ⟨_, rfl, _, _, rfl, rfl, (n : Int) - 1, rfl, by omega, by omega, fun D7 nD7 => ?_⟩
          rw [hk1]
          have nD70 : H D7 = none := e6.free _ nD7
          refine lc_range (fun j H7 => Ex T H5 H7 ∧ ∃ qs, IsPL H7 D7 qs ∧ qs.length = j ∧ (∀ t ∈ qs, t.1 < t.2 ∧ t.2 < n) ∧ ∀ p, 1 ≤ p → p ≤ j → ∃ t ∈ qs, t.2 = p) ⟨ex_new nD7, [], ⟨[], upd_same, .nil⟩, rfl, (fun _ z => by cases z), fun p h1 h2 => by omega⟩ (fun j H7 hj hP => ?_) (fun H7 hP => ?_)
          · obtain ⟨e7, qs, ⟨as, hD7, has⟩, hql, hq, hq2⟩ := hP
            have zj : (0 : Int) + (j : Nat) = ((j : Nat) : Int) := by omega
            rw [zj]
            refine ⟨rfl, _, rfl, _, rfl, _, _, rfl, rfl, by show 2 ≤ sizeLine; decide, fun b nb => ⟨as.map V.ref, ?_, ?_, ?_⟩⟩
            · rw [upd_ne (ne_of_none hD7 nb)]
              exact hD7
            · exact small1000 (by rw [pl_len has]; omega)
            · have hD8 : upd H7 b (.tup [nV j, nV (j + 1)]) D7 = some (.lst (as.map V.ref)) := by
                rw [upd_ne (ne_of_none hD7 nb)]
                exact hD7
              refine ⟨(e7.trans (ex_new nb)).write nD7 hD8 own_lst, _, pl_app hD8 (IsPs.mono (tps_new nb) has) (t := (j, j + 1)) upd_same, by simp [hql], fun t ht => ?_, fun p h1 h2 => ?_⟩
              · rcases List.mem_append.mp ht with h | h
                · exact hq t h
                · simp at h
                  subst h
                  exact ⟨by show j < j + 1; omega, by show j + 1 < n; omega⟩
              · by_cases hp : p ≤ j
                · obtain ⟨t, h3, h4⟩ := hq2 p h1 hp
                  exact ⟨t, List.mem_append.mpr (.inl h3), h4⟩
                · exact ⟨(j, j + 1), List.mem_append.mpr (.inr (List.mem_singleton.mpr rfl)), by show j + 1 = p; omega⟩
          · obtain ⟨e7, qs, hqs, hql, hq, hq2⟩ := hP
            have hz : (n : Int) - 1 = ((n - 1 : Nat) : Int) := by omega
            refine ⟨_, rfl, _, _, rfl, rfl, by show 2 ≤ sizeLine; decide, fun b nb => ⟨by show 1 ≤ sizeLine; decide, fun l nl => ?_⟩⟩
            simp only [hz] at nl ⊢
            have e8 := (e7.trans (ex_new (o := .tup [nV 0, nV (n - 1)]) nb)).trans (ex_new (o := .lst [V.ref b]) nl)
            have e78 : Ex T H7 _ := (ex_new (o := .tup [nV 0, nV (n - 1)]) nb).trans (ex_new (o := .lst [V.ref b]) nl)
            obtain ⟨as, hD8, has⟩ := hqs.mono e78
            refine ⟨D7, l, _, _, rfl, rfl, hD8, upd_same, small64 (by rw [pl_len has]; show _ + 1 ≤ _; omega), fun l2 nl2 => ?_⟩
            have hb8 : IsP (upd (upd H7 b (.tup [nV 0, nV (n - 1)])) l (.lst [V.ref b])) b (0, n - 1) := IsP.mono (tps_new nl) (show IsP _ b (0, n - 1) from upd_same)
            have e9 := e8.trans (ex_new (o := .lst (as.map V.ref ++ [V.ref b])) nl2)
            have t9 := tps_new (o := .lst (as.map V.ref ++ [V.ref b])) nl2
            refine key _ _ ⟨l2, qs ++ [(0, n - 1)], rfl, e6.free _ (e8.free _ nl2), (fun z => by obtain ⟨as, h1, _⟩ := hps5.mono e8; rw [z] at h1; cases h1.symm.trans nl2), e6.trans e9.row, hR5.mono e9, ⟨as ++ [b], by rw [upd_same, List.map_append]; rfl, Paired.snoc (IsPs.mono t9 has) (hb8.mono t9)⟩, hps5.mono e9, by simp [hql]; omega, fun t ht => ?_, fun p h1 h2 => ?_⟩
            · rcases List.mem_append.mp ht with h | h
              · exact hq t h
              · simp at h
                subst h
                exact ⟨by show 0 < n - 1; omega, by show n - 1 < n; omega⟩
            · obtain ⟨t, h3, h4⟩ := hq2 p h1 (by omega)
              exact ⟨t, List.mem_append.mpr (.inl h3), h4⟩
end
end L2.K10

set_option Elab.async false
set_option linter.all false
set_option maxRecDepth 100000
set_option maxHeartbeats 4000000
namespace L2.K10
open PySem PySem.Spec PyProof.Rows
theorem GY.pos {Y : Yd} (G : GY Y) : 1 ≤ Y.ties.length := by
  obtain ⟨t, ht, _⟩ := G.tr 1 (Nat.le_refl _) (by have := G.n2; omega)
  exact List.length_pos_of_mem ht
theorem GY.asc2 {Y : Yd} (G : GY Y) (i : Nat) (h : i + 1 < Y.ties.length) : pLt (Y.ties.getD i (0, 0)) (Y.ties.getD (i + 1) (0, 0)) = true := by
  have h1 := List.pairwise_iff_getElem.mp G.asc i (i + 1) (by omega) h (by omega)
  rw [List.getD_eq_getElem?_getD, List.getD_eq_getElem?_getD, List.getElem?_eq_getElem h, List.getElem?_eq_getElem (show i < Y.ties.length by omega)]
  show pLt Y.ties[i] Y.ties[i + 1] = true
  unfold pLt
  simp
  exact h1
theorem GY.ok {Y : Yd} (G : GY Y) : TiesOk Y.n Y.ties := fun t ht => by have := G.lt t ht; omega
section
variable {P : Program} {w : World} {K : PySem.W.Frag} {mg : Str → Option Value} {base : Heap}
abbrev nYard : List Str := ["value", "places", "ties", "gate"]
theorem scYard : FnScope nYard ["value"] (defScope (top 11)) := ⟨rfl, rfl, rfl, by decide +kernel, rfl, by decide +kernel, by decide +kernel⟩
def spYard (T : Tbs) : Sp := fun vs H Q _ => ∃ (y : Addr) (Y : Yd), vs = [.ref y] ∧ IsY H y Y ∧ GY Y ∧ Y.ties.length ≤ 20 ∧ Tb T H ∧ ∀ H', Ex T H H' → Q .non H'
theorem ok_yard {T : Tbs} {c : Addr} {f fN fT fH fR : Addr} {fd fdN fdT fdH fdR : FuncData} (F : FnP K "need_yard" 11 f fd) (FT : FnP K "are_ties" 10 fT fdT) (hcT : fdT.code = .ref c) (TB : GxR.TabB base mg c T.a) (FH : FnP K "hanging" 13 fH fdH) (FR : FnP K "near" 12 fR fdR) (FN : FnP K "is_number" 9 fN fdN)
    (gN : mg "is_number" = some (.ref fN)) (gT : mg "are_ties" = some (.ref fT)) (gH : mg "hanging" = some (.ref fH)) (gR : mg "near" = some (.ref fR)) (mI : mg "isinstance" = none) (mN : mg "int" = none) (mB : mg "bool" = none)
    (mT : mg "tuple" = none) (mL : mg "len" = none) (mA : mg "all" = none) (mZ : mg "zip" = none) (mS : mg "sorted" = none) (mLe : ∃ t, mg "LEAST_PLACES" = some (.int 2 t)) (mMo : ∃ t, mg "MOST_PLACES" = some (.int 7 t)) : FnOk P w K mg base CX0 4 f fd ["value"] (spYard T) := by
  have GN : FnOk P w K mg base CX0 1 fN fdN ["value", "low", "high"] spNum := ok_num FN mI mN mB
  have bN : Binds K fdN ["value", "low", "high"] [] := FN.bindsN fun _ _ _ _ _ _ us hl => match us, hl with | [_, _, _], _ => rfl
  have GT : FnOk P w K mg base CX0 3 fT fdT ["places", "value"] (spTies T) := ok_ties FT hcT TB FN gN mI mN mB mT mL mA mZ
  have bT : Binds K fdT ["places", "value"] [] := FT.bindsN fun _ _ _ _ _ _ us hl => match us, hl with | [_, _], _ => rfl
  have GH : FnOk P w K mg base CX0 2 fH fdH ["places", "ties", "place", "without"] (spHang K T) := ok_hang FH FR gR mS
  have bH : Binds K fdH ["places", "ties", "place", "without"] [] := FH.bindsN fun _ _ _ _ _ _ us hl => match us, hl with | [_, _, _, _], _ => rfl
  obtain ⟨tL, mLe⟩ := mLe
  obtain ⟨tM, mMo⟩ := mMo
  refine F.ok scYard (fun vs H Q E h => ?_) (fun cdv A outer s H vs Q E hr h => ?_)
  · obtain ⟨y, Y, rfl, _⟩ := h
    rfl
  · obtain ⟨y, Y, rfl, hY, hG, hl, hTb, q⟩ := h
    refine ⟨_, PSs.nox (pss_cons (ps_if (PW.pt (pw_or (pt_not (pt_val (pe_callB call_isi (by rfl) mI (by decide +kernel) (pa_cons (pv 0) (pa_cons (pe_bltn (v := .ty "tuple") (by rfl) mT (show _ = some (.type "tuple") by decide +kernel) rfl) pa_nil)))))
        (pw_or1 (pt_cmpR op_ne (pe_callB call_len (by rfl) mL boot_len (pa_cons (pv 0) pa_nil)) pe_int (nomark _))))) pss_never pss_nil)
      (pss_cons (ps_asg (pv 0) (pg_tup rfl (pgs_cons (pg_name (i := 1) scYard.nd rfl (.inl rfl)) (pgs_cons (pg_name (i := 2) scYard.nd rfl (.inl rfl)) (pgs_cons (pg_name (i := 3) scYard.nd rfl (.inl rfl)) pgs_nil)))))
      (pss_cons (ps_if (pt_not (pt_val (pe_call GN (hr.mono (by decide)) (by rfl) gN FN.kp bN .nil pass0 (pa_cons (pv 1) (pa_cons (pe_glob (v := .int 2) (by rfl) mLe ⟨_, rfl⟩) (pa_cons (pe_glob (v := .int 7) (by rfl) mMo ⟨_, rfl⟩) pa_nil)))))) pss_never pss_nil)
      (pss_cons (ps_if (PW.pt (pw_or (pt_not (pt_val (pe_call GT hr (by rfl) gT FT.kp bT .nil pass0 (pa_cons (pv 1) (pa_cons (pv 2) pa_nil)))))
        (pw_or1 (pt_cmp (pc_lt (pe_callB call_len (by rfl) mL boot_len (pa_cons (pe_call GH (hr.mono (by decide)) (by rfl) gH FH.kp bH .nil pass0 (pa_cons (pv 1) (pa_cons (pv 2) (pa_cons pe_int (pa_cons (pe_tup pa_nil) pa_nil))))) pa_nil)) (pv 1)))))) pss_never pss_nil)
      (pss_one (ps_if (pt_not (pt_val (pe_call GN (hr.mono (by decide)) (by rfl) gN FN.kp bN .nil pass0 (pa_cons (pv 3) (pa_cons pe_int (pa_cons (pe_op op_sub (pv 1) pe_int) pa_nil)))))) pss_never pss_nil)))))), ?_⟩
    simp only [cxp, cxw, cxk, cxp', cxw', cxk']
    obtain ⟨t, hY1, hY2⟩ := id hY
    refine ⟨_, rfl, _, .ty "tuple", _, _, true, rfl, .ty "tuple", .base (.tup hY1), kit_ty (by decide +kernel), _, rfl, ?_⟩
    refine ⟨_, rfl, .ref y, 3, rfl, .inr ⟨_, .of hY1, rfl⟩, rfl, _, rfl, ?_⟩
    refine ⟨_, rfl, y, _, rfl, .of hY1, rfl, _, _, rfl, _, _, rfl, _, _, rfl, rfl, ?_⟩
    have n2 := hG.n2
    have n4 := hG.n4
    have hg := hG.g
    refine ⟨_, rfl, nV Y.n, 2, 7, rfl, .int _, _, rfl, ?_⟩
    have h1 : isNum (nV Y.n) 2 7 = true := by
      show (decide ((2 : Int) ≤ (Y.n : Int)) && decide ((Y.n : Int) ≤ 7)) = true
      simp
      omega
    rw [h1]
    refine ⟨_, rfl, _, rfl, t, Y.ties, Y.n, rfl, hY2, hl, hG.pos, hG.lt, hG.asc2, hTb, fun H1 e1 => ⟨_, rfl, ?_⟩⟩
    refine ⟨_, rfl, _, rfl, by show 0 ≤ sizeLine; decide, fun wo nwo => ?_⟩
    have e2 := e1.trans (ex_new (o := .tup []) nwo)
    refine ⟨t, wo, Y.ties, Y.n, rfl, hY2.mono e2.tps, hl, upd_same, by omega, by omega, hG.ok, fun p hp1 hp2 => ?_, fun H2 r xs e3 nr hr2 hxs => ?_⟩
    · obtain ⟨t, ht, h⟩ := hG.tr p hp1 hp2
      exact ⟨t, ht, h, by have := hG.lt t ht; omega⟩
    refine ⟨.ref r, xs.length, rfl, .inl ⟨_, .of hr2, rfl⟩, _, rfl, _, _, rfl, rfl, _, rfl, ?_⟩
    have e4 := e2.trans e3
    refine ite2 (fun h => ?_) (fun _ => ?_)
    · have h := of_decide_eq_true h
      omega
    refine ⟨_, rfl, _, rfl, _, _, rfl, rfl, nV Y.g, 0, (Y.n : Int) - 1, rfl, .int _, _, rfl, ?_⟩
    have h2 : isNum (nV Y.g) 0 ((Y.n : Int) - 1) = true := by
      show (decide ((0 : Int) ≤ (Y.g : Int)) && decide ((Y.g : Int) ≤ (Y.n : Int) - 1)) = true
      simp
      omega
    rw [h2]
    exact q _ e4
end
end L2.K10

set_option Elab.async false
set_option linter.all false
set_option maxRecDepth 100000
set_option maxHeartbeats 4000000
/-! dict comprehensions whose keys are standings (after the library's rule for keys that are ints or texts) -/
namespace L2.K10
open PySem PySem.Spec PyProof.Rows
theorem sd_dictSet {X : Cx} {pins : List (Addr × Obj)} {σ : St} {H : Hp} {s : Shared} {a b : Addr} {v : V} {r : Value} {E : Value → Shared → Prop} {xs : Ents} {k : Sg} {Q : Unit → Shared → Prop} (hu : X.A.units < cLine) (I : Inv X pins σ H s) (e : SDx X.prog X.w H a xs) (eb : IsSg H b k) (hl : xs.length < sizeLine) (rv : RelV v r)
    (h : ∀ ep s', Inv X pins σ (upd H a (sdO X.prog X.w a (xput xs k b v) ep)) s' → Q () s') : wpAny (model X.prog X.w) X.A (dictSet a (.ref b) r) Q E s := by
  obtain ⟨z, hd, ys, rel, dd⟩ := e.of I.hok
  obtain ⟨ep0, e0, ek⟩ := e
  have hz : ys.length ≤ sizeLine := by rw [← Paired.length rel]; exact z
  have hl : (xput xs k b v).length ≤ sizeLine := by have := xput_len xs k b v; omega
  refine wpAny_dictSet_heap (hsz := hz) (show (sgKind X.prog X.w).room X.A from hu) (sg_is I.hok eb) dd fun h' dd' hs => ?_
  obtain ⟨q, es, ep, hq, h2, h3, h4, _, h5⟩ := dd'
  exact h ep _ (d_write I (by rw [e0]; exact True.intro) hs ⟨q, hq⟩ (sdO_new hl hd (rel.put k b rv) h5 hq h2 h3 h4))
section
variable {X : Cx}
def tNDc (P : Program) (w : World) (wi : TI) (g : TG) (tt : TT) (tk tv : TE) (vs : List Nat) : TE := fun σ H Q => wi σ H fun J H1 => ∀ D, H1 D = none → ∃ W : Nat → Nat → Hp → Prop, (∃ m, W 0 m (upd H1 D (sdO P w D [] 0))) ∧ ∀ i m H, W i m H →
  (J.stop i H ∧ Q (.ref D) H) ∨ (J.go i H ∧ ∃ Nx : Hp → Prop, (∀ H', Nx H' → ∃ m', m' < m ∧ W (i + 1) m' H') ∧ ∀ x H', J.yld i H x H' → g x (wipe σ vs) H' fun σ2 H2 => wipe σ2 vs = wipe σ vs ∧ tt σ2 H2 fun b H3 =>
    if b = true then tk σ2 H3 fun y H4 => tv σ2 H4 fun z H5 => ∃ xs kb k, y = .ref kb ∧ SDx P w H5 D xs ∧ IsSg H5 kb k ∧ xs.length < sizeLine ∧ ∀ ep, Nx (upd H5 D (sdO P w D (xput xs k kb z) ep)) else Nx H3)
theorem nd_core {pins : List (Addr × Obj)} {s : Shared} {σ : St} {H : Hp} {Q : VK} {kx vx tg iter : Expr} {ifs : List Expr} {scope : Scope} {own : List (Str × Nat)} {pos pos' : Pos} {wi : TI} {g : TG} {tt : TT} {tk tv : TE} {use : Option (Value → Sem Unit)} {Qf : Value → Shared → Prop}
    (hu : X.A.units < cLine) (hc : X.calm = true) (hN : X.N.Nodup) (I : Inv X pins σ H s) (hi : PI X tg iter wi) (ok : BlkOk X.N X.env.scope scope own)
    (hg : ∀ (s : Shared) (H : Hp) (C : Addr) (cl : List (Str × Addr)) (fp : List Addr), PG (X.blk s H scope (compEnvC scope cl C X.env) fp) tg g) (ht : ∀ (s : Shared) (H : Hp) (C : Addr) (cl : List (Str × Addr)) (fp : List Addr), PTs (X.blk s H scope (compEnvC scope cl C X.env) fp) ifs tt)
    (hk : ∀ (s : Shared) (H : Hp) (C : Addr) (cl : List (Str × Addr)) (fp : List Addr), PE (X.blk s H scope (compEnvC scope cl C X.env) fp) kx tk)
    (he : ∀ (s : Shared) (H : Hp) (C : Addr) (cl : List (Str × Addr)) (fp : List Addr), PE (X.blk s H scope (compEnvC scope cl C X.env) fp) vx tv) (hs : ∀ x, foldedSetIterable iter X.env x = pure x)
    (h : tNDc X.prog X.w wi g tt tk tv (own.map (·.2)) σ H Q)
    (hRR : ∀ D C s' m H', Inv X pins σ H' s' → Q (.ref D) H' → s'.heap.Ns C m → FpOk X pins H' C → compPost (model X.prog X.w) X.A X.xe use Qf (.ref D) C (.ok .next) s') :
    wpAny (model X.prog X.w) X.A (comprehension (.DictComp kx vx [⟨tg, iter, ifs, 0⟩] scope pos) scope X.env pos' newDict false (eval iter X.env) use) Qf X.xe s := by
  have hfree : ∀ y ∈ scope.names, y.2 = .free → ∃ c, X.env.cells.lookup y.1 = some c := fun y hy e => by
    rcases ok.free y hy e with k | k
    · exact I.ok.has _ (.inl k)
    · exact I.ok.has _ (.inr k)
  refine wpAny_comprehension_free (use := use) rfl hs (closure_ok hfree) ok.kind (fun y hy e => by rw [ok.uniq y hy, e])
    (thn (hi.run pins s σ H _ I h) fun xv s1 hx => thn hx fun itv s2 h2 => ?_)
  obtain ⟨it, fp, tn, J, H2, e, I2, T, st2, f2, q⟩ := h2
  subst e
  refine wpAny_newObj_type (newEnv_comp ?_)
  generalize hD : s2.heap.objs.size = D
  have hDn : H2 D = none := I2.hok.fresh (Nat.le_of_eq hD)
  obtain ⟨W, ⟨m0, w0⟩, turn⟩ := q D hDn
  -- the new list
  generalize hs3 : ({ s2 with heap := s2.heap.push { cls := .type "dict", data := .dict #[] } } : Shared) = s3
  have I3 : Inv X pins σ (upd H2 D (sdO X.prog X.w D [] 0)) s3 := by
    rw [← hs3]
    refine I2.laid (t' := s2.toks) (fun b o e => Heap.get?_push_of_some _ e) (Nat.le_of_eq hD) ?_
    rw [← hD]
    exact sd_empty s2.heap I2.big
  have h3 : s3.heap = s2.heap.push { cls := .type "dict", data := .dict #[] } := by rw [← hs3]
  have sz : ∀ b ∈ fp, b < s2.heap.objs.size := fun b hb => by
    obtain ⟨o, e, _⟩ := T.obj _ _ st2 b hb
    exact Heap.lt_size e
  have f3 : ∀ b ∈ fp, FpOk X pins (upd H2 D (sdO X.prog X.w D [] 0)) b ∧ b < s3.heap.objs.size := fun b hb => by
    have hlt := sz b hb
    refine ⟨⟨?_, (f2 b hb).2⟩, by rw [h3, Heap.size_push]; exact Nat.lt_succ_of_lt hlt⟩
    rw [upd_ne (by rw [← hD]; exact Nat.ne_of_lt hlt)]
    exact (f2 b hb).1
  have st3 : tn 0 s3.heap := T.keep _ _ _ st2 fun b _ o e => by rw [h3]; exact Heap.get?_push_of_some _ e
  have I4 := block_start I3 ok hN f3
  have pg := hg s3 (upd H2 D (sdO X.prog X.w D [] 0)) s3.heap.objs.size (cellsFrom (s3.heap.objs.size + 1) scope.names (cloFrom X.env.cells scope.names [])) fp
  have pt := ht s3 (upd H2 D (sdO X.prog X.w D [] 0)) s3.heap.objs.size (cellsFrom (s3.heap.objs.size + 1) scope.names (cloFrom X.env.cells scope.names [])) fp
  have pk := hk s3 (upd H2 D (sdO X.prog X.w D [] 0)) s3.heap.objs.size (cellsFrom (s3.heap.objs.size + 1) scope.names (cloFrom X.env.cells scope.names [])) fp
  have pe := he s3 (upd H2 D (sdO X.prog X.w D [] 0)) s3.heap.objs.size (cellsFrom (s3.heap.objs.size + 1) scope.names (cloFrom X.env.cells scope.names [])) fp
  show codeAny _ _ (.compStart (.DictComp kx vx [⟨tg, iter, ifs, 0⟩] scope pos) 0 (.ref it) (.ref D) (compEnvC scope (cellsFrom (s3.heap.objs.size + 1) scope.names (cloFrom X.env.cells scope.names [])) s3.heap.objs.size X.env)) (compPost (model X.prog X.w) X.A X.xe use Qf (.ref D) s3.heap.objs.size) { s3 with heap := pushCells (s3.heap.push { cls := .type "dict", data := .dict #[] }) scope.names }
  have nfp : ∀ b ∈ fp, (upd H2 D (sdO X.prog X.w D [] 0)) b = none := fun b hb => (f3 b hb).1.1
  generalize hce : compEnvC scope (cellsFrom (s3.heap.objs.size + 1) scope.names (cloFrom X.env.cells scope.names [])) s3.heap.objs.size X.env = ce at I4 pg pt pk pe ⊢
  have cL : ce.locals = s3.heap.objs.size := by subst hce; rfl
  generalize hH3 : upd H2 D (sdO X.prog X.w D [] 0) = H3 at I3 I4 pg pt pk pe w0 nfp f3
  generalize hs4 : ({ s3 with heap := pushCells (s3.heap.push { cls := .type "dict", data := .dict #[] }) scope.names } : Shared) = s4 at I4 ⊢
  have st4 : tn 0 s4.heap := T.keep _ _ _ st3 fun b _ o e => by rw [← hs4]; exact pushCells_keeps _ _ _ _ (Heap.get?_push_of_some _ e)
  have stat : ∀ {σ' : St} {H' : Hp} {s' : Shared}, Inv (X.blk s3 H3 scope ce fp) [] σ' H' s' → (∀ b ∈ fp, H' b = none) → ∀ b ∈ fp, FpOk (X.blk s3 H3 scope ce fp) [] H' b := fun {σ' H' s'} I' hn b hb =>
    ⟨hn b hb, (I'.ok.exf b hb).1, I'.ok.exfs b hb, .inl hb, fun x c e => (I'.ok.exf b hb).2 x c e, fun p hp => absurd (show p ∈ ([] : List (Addr × Obj)) ++ [] from hp) (by simp)⟩
  have loop : codeAny (model X.prog X.w) X.A (.compLoop (.DictComp kx vx [⟨tg, iter, ifs, 0⟩] scope pos) 0 (.ref it) (.ref D) ce) (compPost (model X.prog X.w) X.A X.xe use Qf (.ref D) s3.heap.objs.size) s4 := by
    refine compLoop_anyD (fun n s' => ∃ i H', Inv (X.blk s3 H3 scope ce fp) [] (wipe σ (own.map (·.2))) H' s' ∧ tn i s'.heap ∧ (∀ b ∈ fp, H' b = none) ∧ W i n H') ?_ m0 ⟨0, H3, I4, st4, nfp, w0⟩
    rintro n s5 ⟨i, H5, I5, st5, n5, w5⟩
    rcases turn i n H5 w5 with ⟨stop, qq⟩ | ⟨go, Nx, hNx, step⟩
    · have td := T.done (X.blk s3 H3 scope ce fp) rfl rfl rfl hc i [] s5 _ H5 (fun _ _ => False) I5 (stat I5 n5) st5 stop
      refine thnF td fun r s6 ⟨hr, I6⟩ => ?_
      subst hr
      -- back in the def's context
      have I7 : Inv X pins σ H5 s6 := I3.call' (ch := fp) I6.os I6.base I6.hok I6.bare fun b hb => ⟨(f3 b hb).1.2.2.2.1, (f3 b hb).1.2.1, (f3 b hb).1.2.2.2.2.1, (f3 b hb).1.2.2.2.2.2⟩
      have nC : H5 s3.heap.objs.size = none := by
        have z : H5 ce.locals = none := I6.free
        rw [cL] at z
        exact z
      obtain ⟨m, hn, _⟩ := I6.loc
      have hn : s6.heap.Ns ce.locals m := hn
      rw [cL] at hn
      exact hRR D s3.heap.objs.size s6 m H5 I7 qq hn (I3.fpOk (Nat.le_refl _) nC)
    · have ti := T.item (X.blk s3 H3 scope ce fp) rfl rfl rfl hc i [] s5 _ H5 (fun _ _ => False) I5 (stat I5 n5) st5 go
      refine thnF ti fun r s6 ⟨u, hr, h6⟩ => ?_
      subst hr
      refine thnF h6 fun _ s7 ⟨x, H7, I7, r7, y7, st7, n7⟩ => ?_
      have I7' := I7.pinned (stat I7 n7) (T.obj _ _ st7)
      refine thnF (pg.run _ s7 _ H7 x u _ I7' r7 (step x H7 y7)) fun _ s8 ⟨σ8, H8, I8, hw8, q8⟩ => ?_
      refine thnF (pt.run _ s8 σ8 H8 _ I8 q8) fun b s9 ⟨H9, I9, q9⟩ => ?_
      -- the turn's end
      have fin : ∀ {s' : Shared} {H' : Hp}, Inv (X.blk s3 H3 scope ce fp) ([] ++ pinsAt fp s7.heap) σ8 H' s' → Nx H' → ∃ m, m < n ∧ ∃ i H', Inv (X.blk s3 H3 scope ce fp) [] (wipe σ (own.map (·.2))) H' s' ∧ tn i s'.heap ∧ (∀ b ∈ fp, H' b = none) ∧ W i m H' := fun {s' H'} I' nx => by
        obtain ⟨m', hm, w'⟩ := hNx H' nx
        have pin' : ∀ b ∈ fp, ∀ o, s7.heap.get? b = some o → s'.heap.get? b = some o ∧ H' b = none := fun b hb o e =>
          let z := I'.pin (b, o) (List.mem_append_right _ (List.mem_append_right _ (mem_pinsAt hb e)))
          ⟨z.1, z.2.1⟩
        have hl : (wipe σ (own.map (·.2))).length = σ8.length := by rw [← hw8, wipe_length]
        refine ⟨m', hm, i + 1, H', (I'.unpinned (pins := [])).weak hl (fun j v e => ?_), T.keep _ _ _ st7 fun b hb o e => (pin' b hb o e).1, fun b hb => ?_, w'⟩
        · rw [← hw8] at e
          exact (wipe_some e).1
        · obtain ⟨o, e, _⟩ := T.obj _ _ st7 b hb
          exact (pin' b hb o e).2
      cases b with
      | false =>
        simp only [Bool.false_eq_true, if_false] at q9 ⊢
        exact fin I9 q9
      | true =>
        simp only [if_true] at q9 ⊢
        refine thnF (pk.run _ s9 σ8 H9 _ I9 q9) fun z s10 ⟨yk, H10, I10, r10, q10⟩ => ?_
        refine thnF (pe.run _ s10 σ8 H10 _ I10 q10) fun z2 s11 ⟨yv, H11, I11, r11, xs, kb, k, ek, hD11, hkb, hz11, nx⟩ => ?_
        subst ek
        obtain rfl : z = Value.ref kb := r10
        exact sd_dictSet (X := X.blk s3 H3 scope ce fp) hu I11 hD11 hkb hz11 r11 fun ep s12 I12 => fin I12 (nx ep)
  exact codeAny_compStart_dict loop (T.self X.A 0 _ _ _ st4 loop)
end
end L2.K10
namespace L2.K10
open PySem PySem.Spec PyProof.Rows
section
variable {X : Cx}
/-- name = {..} on one line, the name a local, the keys standings -/
theorem ps_setNc {i : Nat} {y : Str} {py : Pos} {kx vx tg iter : Expr} {ifs : List Expr} {scope : Scope} {own : List (Str × Nat)} {pos spos : Pos} {wi : TI} {g : TG} {tt : TT} {tk tv : TE} (hu : X.A.units < cLine) (hc : X.calm = true) (hN : X.N.Nodup) (hy : X.N[i]? = some y) (hyl : X.env.scope.names.lookup y = some .local)
    (hsw : swapsWith (.DictComp kx vx [⟨tg, iter, ifs, 0⟩] scope pos) (some (.Name y py)) spos.line X.env = pure true) (hi : PI X tg iter wi) (ok : BlkOk X.N X.env.scope scope own)
    (hg : ∀ (s : Shared) (H : Hp) (C : Addr) (cl : List (Str × Addr)) (fp : List Addr), PG (X.blk s H scope (compEnvC scope cl C X.env) fp) tg g) (ht : ∀ (s : Shared) (H : Hp) (C : Addr) (cl : List (Str × Addr)) (fp : List Addr), PTs (X.blk s H scope (compEnvC scope cl C X.env) fp) ifs tt)
    (hk : ∀ (s : Shared) (H : Hp) (C : Addr) (cl : List (Str × Addr)) (fp : List Addr), PE (X.blk s H scope (compEnvC scope cl C X.env) fp) kx tk)
    (he : ∀ (s : Shared) (H : Hp) (C : Addr) (cl : List (Str × Addr)) (fp : List Addr), PE (X.blk s H scope (compEnvC scope cl C X.env) fp) vx tv) (hs : ∀ x, foldedSetIterable iter X.env x = pure x := by intro _; rfl) :
    PS X (.Assign [.Name y py] (.DictComp kx vx [⟨tg, iter, ifs, 0⟩] scope pos) spos) (tAsg (tNDc X.prog X.w wi g tt tk tv (own.map (·.2))) (gName i)) := by
  refine ⟨fun pins s σ H D I h => ?_⟩
  rw [exec_Assign_Name_used _ _ _ _ hsw]
  refine wpAny_bind (wpAny_standAt (wpAny_bind ?_))
  show wpAny _ X.A (do let _ ← comprehension (.DictComp kx vx [⟨tg, iter, ifs, 0⟩] scope pos) scope X.env (firstIterPos [⟨tg, iter, ifs, 0⟩] pos) newDict false (eval iter X.env) (some (assign (.Name y py) X.env))) _ _ s
  have h : tNDc X.prog X.w wi g tt tk tv (own.map (·.2)) σ H (fun x H1 => gName i x σ H1 D.nx) := h
  refine wpAny_bind (thn (nd_core (Qf := fun _ s' => SP X pins D .next s') hu hc hN I hi ok hg ht hk he hs h fun L C s' m H' I' q hn f => ?_) fun _ s' hq => wpAny_pure (wpAny_pure hq))
  show wpAny _ _ (assign (.Name y py) X.env (.ref L)) _ _ _
  refine wpAny_assign_Name (store_ok2 (v := V.ref L) I' hN hy (.inl hyl) rfl (fun s2 I2 ⟨a, sb, ha⟩ => ?_) (.inr hyl))
  obtain ⟨f0, f1, f2, f3, f4, f5⟩ := f
  have haC : C ≠ a := by
    rcases ha with z | z
    · rw [z]; exact f1
    · exact fun e => f4 y a z e.symm
  refine ⟨m, hn.sameBut sb haC, fun h3 sb3 => ?_⟩
  exact ⟨_, H', I2.turned (t' := s2.toks) (fun b o hb e => (sb3.2 b hb).trans e) f0 f1 f3 f4 f5, q⟩
end
end L2.K10
namespace L2.K10
open PySem PySem.Spec PyProof.Rows
theorem nd_it {P : Program} {w : World} {J : It} {n : Nat} {G : Hp → Prop} {Y : Nat → Hp → V → Hp → Prop} (wk : Walk J n G Y) {g : TG} {tt : TT} {tk tv : TE} {vs : List Nat} {σ : St} {H1 : Hp} {D : Addr} {Qd : Hp → Prop} (Pv : Nat → Hp → Prop) (h0 : Pv 0 (upd H1 D (sdO P w D [] 0))) (hG : ∀ i H, i ≤ n → Pv i H → G H)
    (hs : ∀ i x H H', i < n → Pv i H → Y i H x H' → g x (wipe σ vs) H' fun σ2 H2 => wipe σ2 vs = wipe σ vs ∧ tt σ2 H2 fun b H3 =>
      if b = true then tk σ2 H3 fun y H4 => tv σ2 H4 fun z H5 => ∃ xs kb k, y = .ref kb ∧ SDx P w H5 D xs ∧ IsSg H5 kb k ∧ xs.length < sizeLine ∧ ∀ ep, Pv (i + 1) (upd H5 D (sdO P w D (xput xs k kb z) ep)) else Pv (i + 1) H3) (hd : ∀ H, Pv n H → Qd H) :
    ∃ W : Nat → Nat → Hp → Prop, (∃ m, W 0 m (upd H1 D (sdO P w D [] 0))) ∧ ∀ i m H, W i m H →
      (J.stop i H ∧ Qd H) ∨ (J.go i H ∧ ∃ Nx : Hp → Prop, (∀ H', Nx H' → ∃ m', m' < m ∧ W (i + 1) m' H') ∧ ∀ x H', J.yld i H x H' → g x (wipe σ vs) H' fun σ2 H2 => wipe σ2 vs = wipe σ vs ∧ tt σ2 H2 fun b H3 =>
        if b = true then tk σ2 H3 fun y H4 => tv σ2 H4 fun z H5 => ∃ xs kb k, y = .ref kb ∧ SDx P w H5 D xs ∧ IsSg H5 kb k ∧ xs.length < sizeLine ∧ ∀ ep, Nx (upd H5 D (sdO P w D (xput xs k kb z) ep)) else Nx H3) := by
  refine ⟨fun i m H => m = n - i ∧ i ≤ n ∧ Pv i H, ⟨n, by simp, Nat.zero_le _, h0⟩, ?_⟩
  rintro i m H ⟨rfl, hi, p⟩
  have q := hG i H hi p
  by_cases hlt : i < n
  · refine .inr ⟨wk.goes i H hlt q, Pv (i + 1), fun H' p' => ⟨n - (i + 1), by omega, rfl, hlt, p'⟩, fun x H' y => hs i x H H' hlt p (wk.yields i H x H' hlt q y)⟩
  · have e : i = n := by omega
    subst e
    exact .inl ⟨wk.stops H q, hd H p⟩
end L2.K10

set_option Elab.async false
set_option linter.all false
set_option maxRecDepth 100000
set_option maxHeartbeats 4000000
/-! min(d.values()) of a dict of standings; max(d.values()) -/
namespace L2.K10
open PySem PySem.Spec PyProof.Rows
def tNMinV (P : Program) (w : World) (td : TE) : TE := fun σ H Q => td σ H fun x H1 => ∃ a xs ep is, x = V.ref a ∧ H1 a = some (sdO P w a xs ep) ∧ xs.map (·.2.2) = is.map V.int ∧ is ≠ [] ∧ ∀ m, m ∈ is → (∀ j ∈ is, m ≤ j) → Q (.int m) H1
def tMaxV (td : TE) : TE := fun σ H Q => td σ H fun x H1 => ∃ a kvs is, x = V.ref a ∧ H1 a = some (.dK kvs) ∧ kvs.map (·.2) = is.map V.int ∧ is ≠ [] ∧ ∀ m, m ∈ is → (∀ j ∈ is, j ≤ m) → Q (.int m) H1
section
variable {X : Cx} {o : Expr} {p pos apos mpos : Pos} {td : TE}
theorem pe_nminV (hc : X.calm = true) (hg : Gl X "min") (hm : X.mg "min" = none) (hd : PE X o td) (hbase : attributeBase o "values" X.env (eval o X.env) = eval o X.env := by rfl) (hline : (apos.endLine == mpos.line) = true := by rfl)
    (hse : starEach [Expr.Call (.Attribute o "values" apos) [] [] mpos] X.env = [(false, eval (Expr.Call (.Attribute o "values" apos) [] [] mpos) X.env)] := by rfl) :
    PE X (.Call (.Name "min" p) [.Call (.Attribute o "values" apos) [] [] mpos] [] pos) (tNMinV X.prog X.w td) := by
  refine ⟨fun pins s σ H Q I h => ?_⟩
  refine wpAny_Call_Name_kw (ld_blt I hg hm (u := .builtin "min") (by decide +kernel) ?_)
  rw [hse]
  refine PySem.callWith_builtin1 (wpAny_Call_method0_late hbase hline (thn (hd.run pins s σ H _ I h) fun v s1 ⟨x, H1, I1, r1, a, xs, ep, is, ex, ha, hv, hne, q⟩ => ?_))
  subst ex
  obtain rfl : v = Value.ref a := r1
  obtain ⟨hsys, es, hm2, hsz, ent⟩ := sd_ents I1.hok ha
  obtain ⟨ob, ho, hx, hdat⟩ := id hm2
  refine ⟨"dict", "dict.values", F.plainAttrs_dict, F.slot_dict_values, F.type_dict_values, hm2.typeIs, fun b e => ?_, Calls.callWith_builtin rfl (PySem.evalArgs_none ?_)⟩
  · cases e
    exact ⟨ob, ho, hx.2.1⟩
  refine call_meetsIn F.slot_dict_values hm2.typeIs F.entry_dict_values (F.args_dict_values_1 _) (meets_dict_values_raw a hsys) ⟨⟨es, ep, hm2⟩, ?_⟩
  have hlt : a < s1.heap.objs.size := Heap.lt_size ho
  have hsz1 : (s1.heap.push { cls := .type "dict_values", data := .fields #[.ref a] }).objs.size = s1.heap.objs.size + 1 := Heap.size_push _ _
  have hlv : es.size = is.length := by
    have e1 := congrArg List.length hv
    rw [List.length_map, List.length_map] at e1
    omega
  have hlen : 0 < es.size := by
    rw [hlv]
    exact List.length_pos_iff.mpr hne
  have hval : ∀ (i : Nat) (v : Value), (∃ hi : i < es.size, v = es[i].val) → ∃ t, v = Value.int (is.getD i 0) t := fun i v ⟨hi, hk⟩ => by
    have hi2 : i < xs.length := by omega
    obtain ⟨_, _, r⟩ := ent i xs[i] (List.getElem?_eq_getElem hi2)
    have e1 : (xs.map (·.2.2))[i]? = some xs[i].2.2 := by rw [List.getElem?_map, List.getElem?_eq_getElem hi2] <;> rfl
    rw [hv, List.getElem?_map] at e1
    obtain ⟨j, hj, e2⟩ := Option.map_eq_some_iff.mp e1
    rw [← e2] at r
    obtain ⟨t, e3⟩ := r
    refine ⟨t, ?_⟩
    rw [hk, e3, List.getD_eq_getElem?_getD, hj] <;> rfl
  refine call_min_walk (wpAny_pyIter_values_raw (v := s1.heap.objs.size) (d := a) ⟨_, Heap.get?_push_size _ rfl, rfl, rfl⟩ (hm2.push _) ?_)
  refine ⟨_, _, _, _, _, _, _, rfl, Walks.rawValues (A := X.A.in1) (I.ok.hd hc) (s1.heap.push { cls := .type "dict_values", data := .fields #[.ref a] }).objs.size a (by rw [hsz1]; exact Nat.ne_of_lt (Nat.lt_succ_of_lt hlt)) es ep,
    ⟨⟨_, Heap.get?_push_size _ rfl, rfl, rfl⟩, (hm2.push _).push _⟩, fun b hb => ?_, hlen, CmpOf.ints_lt (fun i => is.getD i 0) hval, fun v h' tk hP hk => ?_⟩
  · show b < ((s1.heap.push _).push _).objs.size
    rw [Heap.size_push, Heap.size_push]
    rw [hsz1] at hb
    rcases List.mem_cons.mp hb with e | hb
    · rw [e]
      exact Nat.lt_succ_self _
    · have e : b = a := List.mem_singleton.mp hb
      rw [e]
      exact Nat.lt_succ_of_lt (Nat.lt_succ_of_lt hlt)
  · obtain ⟨t, rfl⟩ := hval _ v hP
    obtain ⟨b1, b2⟩ := argBest_lt (fun i => is.getD i 0) (es.size - 1)
    refine ⟨.int _, H1, I1.kept (t' := tk) fun b u e => hk b u (fun hmem => ?_) (Heap.get?_push_of_some _ (Heap.get?_push_of_some _ e)), ⟨t, rfl⟩, q _ ?_ fun j hj => ?_⟩
    · have e1 : b = (s1.heap.push { cls := .type "dict_values", data := .fields #[.ref a] }).objs.size := List.mem_singleton.mp hmem
      have e2 := Heap.lt_size e
      rw [hsz1] at e1
      rw [e1] at e2
      exact absurd e2 (Nat.not_lt.mpr (Nat.le_succ _))
    · have hb : argBest (fun i j => decide (is.getD i 0 < is.getD j 0)) (es.size - 1) < is.length := by omega
      rw [List.getD_eq_getElem?_getD, List.getElem?_eq_getElem hb]
      exact List.getElem_mem hb
    · obtain ⟨i, hi, e⟩ := List.mem_iff_getElem.mp hj
      have e2 : is.getD i 0 = j := by rw [List.getD_eq_getElem?_getD, List.getElem?_eq_getElem hi, ← e] <;> rfl
      rw [← e2]
      exact b2 i (by omega)
theorem pe_maxV (hc : X.calm = true) (hg : Gl X "max") (hm : X.mg "max" = none) (hd : PE X o td) (hbase : attributeBase o "values" X.env (eval o X.env) = eval o X.env := by rfl) (hline : (apos.endLine == mpos.line) = true := by rfl)
    (hse : starEach [Expr.Call (.Attribute o "values" apos) [] [] mpos] X.env = [(false, eval (Expr.Call (.Attribute o "values" apos) [] [] mpos) X.env)] := by rfl) :
    PE X (.Call (.Name "max" p) [.Call (.Attribute o "values" apos) [] [] mpos] [] pos) (tMaxV td) := by
  refine ⟨fun pins s σ H Q I h => ?_⟩
  refine wpAny_Call_Name_kw (ld_blt I hg hm (u := .builtin "max") (by decide +kernel) ?_)
  rw [hse]
  refine PySem.callWith_builtin1 (wpAny_Call_method0_late hbase hline (thn (hd.run pins s σ H _ I h) fun v s1 ⟨x, H1, I1, r1, a, kvs, is, ex, ha, hv, hne, q⟩ => ?_))
  subst ex
  obtain rfl : v = Value.ref a := r1
  obtain ⟨_, hsys, vs, rel, dof⟩ := dk_of I1.hok ha
  obtain ⟨ep, dat⟩ := dof.dictAt
  obtain ⟨ob, es, ho, ex, hdat, hko, hpr, hnd⟩ := id dat
  refine ⟨"dict", "dict.values", F.plainAttrs_dict, F.slot_dict_values, F.type_dict_values, ⟨ob, ho, ex.1⟩, fun b e => ?_, Calls.callWith_builtin rfl (PySem.evalArgs_none ?_)⟩
  · cases e
    exact ⟨ob, ho, ex.2.1⟩
  refine call_meetsIn F.slot_dict_values ⟨ob, ho, ex.1⟩ F.entry_dict_values (F.args_dict_values_1 _) (meets_dict_values (mixKind X.prog X.w) a hsys) ⟨⟨vs, dof⟩, ?_⟩
  have k1 : ∀ b u, s1.heap.get? b = some u → (s1.heap.push { cls := .type "dict_values", data := .fields #[.ref a] }).get? b = some u := fun b u e => Heap.get?_push_of_some _ e
  have dat1 : (s1.heap.push { cls := .type "dict_values", data := .fields #[.ref a] }).DictAt (mixKind X.prog X.w) a vs ep := dat.keep k1
  have hlv : vs.length = is.length := by
    have e1 := congrArg List.length hv
    rw [List.length_map, List.length_map] at e1
    rw [← e1]
    exact (KV.length rel).symm
  have hlen : 0 < vs.length := by
    rw [hlv]
    exact List.length_pos_iff.mpr hne
  have hval : ∀ (i : Nat) (v : Value), (∃ k, vs[i]? = some (k, v)) → ∃ t, v = Value.int (is.getD i 0) t := fun i v ⟨k, hk⟩ => by
    obtain ⟨x, h1, h2⟩ := KV.at' rel hk
    have e1 : (kvs.map (·.2))[i]? = some x := by rw [List.getElem?_map, h1] <;> rfl
    rw [hv, List.getElem?_map] at e1
    obtain ⟨j, hj, e2⟩ := Option.map_eq_some_iff.mp e1
    subst e2
    obtain ⟨t, e3⟩ := h2
    refine ⟨t, ?_⟩
    rw [e3, List.getD_eq_getElem?_getD, hj] <;> rfl
  refine call_max_walk (wpAny_pyIter_values (v := s1.heap.objs.size) (d := a) ⟨_, Heap.get?_push_size _ rfl, rfl, rfl⟩ dat1 ?_)
  have hlt : a < s1.heap.objs.size := Heap.lt_size ho
  have hsz : (s1.heap.push { cls := .type "dict_values", data := .fields #[.ref a] }).objs.size = s1.heap.objs.size + 1 := Heap.size_push _ _
  refine ⟨_, _, _, _, _, _, _, rfl, Walks.dictValues (knd := mixKind X.prog X.w) (A := X.A.in1) (I.ok.hd hc) (s1.heap.push { cls := .type "dict_values", data := .fields #[.ref a] }).objs.size a (by rw [hsz]; exact Nat.ne_of_lt (Nat.lt_succ_of_lt hlt)) vs ep,
    ⟨⟨_, Heap.get?_push_size _ rfl, rfl, rfl⟩, dat1.keep fun b u e => Heap.get?_push_of_some _ e⟩, fun b hb => ?_, hlen, CmpOf.ints_gt (fun i => is.getD i 0) hval, fun v h' tk hP hk => ?_⟩
  · show b < ((s1.heap.push _).push _).objs.size
    rw [Heap.size_push, Heap.size_push]
    rw [hsz] at hb
    rcases List.mem_cons.mp hb with e | hb
    · rw [e]
      exact Nat.lt_succ_self _
    · have e : b = a := List.mem_singleton.mp hb
      rw [e]
      exact Nat.lt_succ_of_lt (Nat.lt_succ_of_lt hlt)
  · obtain ⟨t, rfl⟩ := hval _ v hP
    obtain ⟨b1, b2⟩ := argBest_gt (fun i => is.getD i 0) (vs.length - 1)
    refine ⟨.int _, H1, I1.kept (t' := tk) fun b u e => hk b u (fun hmem => ?_) (Heap.get?_push_of_some _ (k1 b u e)), ⟨t, rfl⟩, q _ ?_ fun j hj => ?_⟩
    · have e1 : b = (s1.heap.push { cls := .type "dict_values", data := .fields #[.ref a] }).objs.size := List.mem_singleton.mp hmem
      have e2 := Heap.lt_size e
      rw [hsz] at e1
      rw [e1] at e2
      exact absurd e2 (Nat.not_lt.mpr (Nat.le_succ _))
    · have hb : argBest (fun i j => decide (is.getD i 0 > is.getD j 0)) (vs.length - 1) < is.length := by omega
      rw [List.getD_eq_getElem?_getD, List.getElem?_eq_getElem hb]
      exact List.getElem_mem hb
    · obtain ⟨i, hi, e⟩ := List.mem_iff_getElem.mp hj
      have e2 : is.getD i 0 = j := by rw [List.getD_eq_getElem?_getD, List.getElem?_eq_getElem hi, ← e] <;> rfl
      rw [← e2]
      exact b2 i (by omega)
end
end L2.K10

set_option Elab.async false
set_option linter.all false
set_option maxRecDepth 100000
set_option maxHeartbeats 4000000
namespace L2.K10
open PySem PySem.Spec PyProof.Rows
section
/-- what the module holds that these defs need -/
structure Mod (K : PySem.W.Frag) (mg : Str → Option Value) (base : Heap) (T : Tbs) (CB CN : Addr) : Prop where
  yard : ∃ f fd, FnP K "need_yard" 11 f fd ∧ mg "need_yard" = some (.ref f)
  ties : ∃ f fd c, FnP K "are_ties" 10 f fd ∧ mg "are_ties" = some (.ref f) ∧ fd.code = .ref c ∧ GxR.TabB base mg c T.a
  hang : ∃ f fd, FnP K "hanging" 13 f fd ∧ mg "hanging" = some (.ref f)
  near : ∃ f fd, FnP K "near" 12 f fd ∧ mg "near" = some (.ref f)
  num : ∃ f fd, FnP K "is_number" 9 f fd ∧ mg "is_number" = some (.ref f)
  stand : ∃ f fd c, FnP K "need_standing" 15 f fd ∧ mg "need_standing" = some (.ref f) ∧ fd.code = .ref c ∧ GxR.TabB base mg c T.n
  book : ∃ f fd, FnP K "need_book" 16 f fd ∧ mg "need_book" = some (.ref f)
  slid : ∃ f fd, FnP K "slid" 17 f fd ∧ mg "slid" = some (.ref f)
  slides : ∃ f fd, FnP K "slides_of" 18 f fd ∧ mg "slides_of" = some (.ref f)
  words : ∃ f fd c, FnP K "words_from" 19 f fd ∧ mg "words_from" = some (.ref f) ∧ fd.code = .ref c ∧ LamX.TabB base mg c T.w
  asks : ∃ f fd, FnP K "need_asks" 22 f fd ∧ mg "need_asks" = some (.ref f)
  costs : ∃ f fd c, FnP K "costs_after" 23 f fd ∧ mg "costs_after" = some (.ref f) ∧ fd.code = .ref c ∧ GxR.TabB base mg c T.c
  gone : ∀ x ∈ (["isinstance", "int", "bool", "len", "tuple", "list", "sorted", "enumerate", "min", "max", "any", "all", "zip", "set", "range", "dict", "str"] : List Str), mg x = none
  most : ∃ t, mg "MOST_ASKS" = some (.int 20 t)
  least : ∃ t, mg "LEAST_PLACES" = some (.int 2 t)
  mostP : ∃ t, mg "MOST_PLACES" = some (.int 7 t)
  bad : BB K mg "BadBook" CB
  noway : BB K mg "NoWay" CN
variable {P : Program} {w : World} {K : PySem.W.Frag} {mg : Str → Option Value} {base : Heap} {T : Tbs} {CB CN : Addr}
/-- a def of the module, to be called -/
def Cal (P : Program) (w : World) (K : PySem.W.Frag) (mg : Str → Option Value) (base : Heap) (CX : CXT) (k : Nat) (x : Str) (ps : List Str) (sp : Sp) : Prop := ∃ f fd, mg x = some (.ref f) ∧ PySem.W.keepIn K (.ref f) = true ∧ Binds K fd ps [] ∧ FnOk P w K mg base CX k f fd ps sp
theorem Mod.no (M : Mod K mg base T CB CN) {x : Str} (h : x ∈ (["isinstance", "int", "bool", "len", "tuple", "list", "sorted", "enumerate", "min", "max", "any", "all", "zip", "set", "range", "dict", "str"] : List Str) := by decide) : mg x = none := M.gone x h
theorem Mod.cYard (M : Mod K mg base T CB CN) : Cal P w K mg base CX0 4 "need_yard" ["value"] (spYard T) := by
  obtain ⟨f, fd, F, g⟩ := M.yard
  obtain ⟨fT, fdT, c, FT, gT, hc, TB⟩ := M.ties
  obtain ⟨fH, fdH, FH, gH⟩ := M.hang
  obtain ⟨fR, fdR, FR, gR⟩ := M.near
  obtain ⟨fN, fdN, FN, gN⟩ := M.num
  exact ⟨f, fd, g, F.kp, F.bindsN fun _ _ _ _ _ _ us hl => (match us, hl with | [_], _ => rfl), ok_yard F FT hc TB FH FR FN gN gT gH gR M.no M.no M.no M.no M.no M.no M.no M.no M.least M.mostP⟩
theorem Mod.cStand (M : Mod K mg base T CB CN) : Cal P w K mg base CX0 3 "need_standing" ["yard", "value"] (spStand T) := by
  obtain ⟨f, fd, c, F, g, hc, TB⟩ := M.stand
  obtain ⟨fN, fdN, FN, gN⟩ := M.num
  exact ⟨f, fd, g, F.kp, F.bindsN fun _ _ _ _ _ _ us hl => (match us, hl with | [_, _], _ => rfl), ok_stand F hc TB FN gN M.no M.no M.no M.no M.no M.no M.no⟩
theorem Mod.cAsks (M : Mod K mg base T CB CN) : Cal P w K mg base (L2.CX P w) 3 "need_asks" ["standing", "value"] (spAsks CB) := by
  obtain ⟨f, fd, F, g⟩ := M.asks
  obtain ⟨fB, fdB, FB, gB⟩ := M.book
  obtain ⟨fN, fdN, FN, gN⟩ := M.num
  exact ⟨f, fd, g, F.kp, F.bindsN fun _ _ _ _ _ _ us hl => (match us, hl with | [_, _], _ => rfl), ok_asks M.bad F FB FN gB gN M.no M.no M.no M.no M.no M.most⟩
theorem Mod.cWords (M : Mod K mg base T CB CN) : Cal P w K mg base CX0 3 "words_from" ["yard", "standing"] (spWords P w T) := by
  obtain ⟨f, fd, c, F, g, hc, TB⟩ := M.words
  obtain ⟨fS, fdS, FS, gS⟩ := M.slides
  obtain ⟨fM, fdM, FM, gM⟩ := M.slid
  obtain ⟨fR, fdR, FR, gR⟩ := M.near
  exact ⟨f, fd, g, F.kp, F.bindsN fun _ _ _ _ _ _ us hl => (match us, hl with | [_, _], _ => rfl), ok_words F hc TB FS FM FR gS gM gR M.no M.no M.no M.no M.no⟩
theorem Mod.cCosts (M : Mod K mg base T CB CN) : Cal P w K mg base CX0 3 "costs_after" ["yard", "costs"] (spCosts P w T) := by
  obtain ⟨f, fd, c, F, g, hc, TB⟩ := M.costs
  obtain ⟨fS, fdS, FS, gS⟩ := M.slides
  obtain ⟨fM, fdM, FM, gM⟩ := M.slid
  obtain ⟨fR, fdR, FR, gR⟩ := M.near
  exact ⟨f, fd, g, F.kp, F.bindsN fun _ _ _ _ _ _ us hl => (match us, hl with | [_, _], _ => rfl), ok_costs F hc TB FS FM FR gS gM gR M.no M.no M.no M.no M.no⟩
end
end L2.K10

set_option Elab.async false
set_option linter.all false
set_option maxRecDepth 100000
set_option maxHeartbeats 4000000
namespace L2.K10
open PySem PySem.Spec PyProof.Rows
/-- a good yard, a good standing of it -/
structure GS (Y : Yd) (s : Sg) : Prop where
  gy : GY Y
  t20 : Y.ties.length ≤ 20
  len : s.length = Y.n
  l20 : s.length ≤ 20
  hole : none ∈ s
  bk : bksM s ≠ []
  nd : (bksM s).Nodup
  lt : ∀ b ∈ bksM s, b < (bksM s).length
theorem GS.ties {Y : Yd} {s : Sg} (G : GS Y s) : TiesOk s.length Y.ties := by rw [G.len]; exact G.gy.ok
section
variable {P : Program} {w : World} {K : PySem.W.Frag} {mg : Str → Option Value} {base : Heap}
abbrev nFew : List Str := ["yard", "standing", "asks", "costs", "book", "whole", "one", "cost"]
theorem scFew : FnScope nFew ["yard", "standing", "asks"] (defScope (top 24)) := ⟨rfl, rfl, rfl, by decide +kernel, rfl, by decide +kernel, by decide +kernel⟩
def spFew (CB CN : Addr) (T : Tbs) : Sp := fun vs H Q E => ∃ (y a : Addr) (v : V) (Y : Yd) (s : Sg), vs = [.ref y, .ref a, v] ∧ IsY H y Y ∧ IsSg H a s ∧ GS Y s ∧ Tb T H ∧ ((BadAsk H v ∧ ∀ H', Ex T H H' → E (.ref CB) none H') ∨
  ∃ l xs, v = .ref l ∧ H l = some (.tup xs) ∧ xs.length ≤ 20 ∧ (∀ x ∈ xs, Askd x) ∧ ((∃ x ∈ xs, isBook s x = false) → ∀ H', Ex T H H' → E (.ref CB) none H') ∧
    ((∀ x ∈ xs, isBook s x = true) → ∃ (bs : List Nat) (res : Option (List (Sg × Nat))) (k : Nat), xs = bs.map nV ∧ fewM s.length Y.ties k Y.g bs [(s, 0)] = some res ∧ (res = none → ∀ H', Ex T H H' → E (.ref CN) none H') ∧
      ∀ C, res = some C → ∀ m H', m ∈ C.map (·.2) → (∀ j ∈ C.map (·.2), m ≤ j) → Ex T H H' → Q (nV m) H'))
theorem vals_nums {H : Hp} : ∀ {xs : Ents} {C : List (Sg × Nat)}, Paired (ER RN H) xs C → xs.map (·.2.2) = (C.map fun f => (f.2 : Int)).map V.int
  | _, _, .nil => rfl
  | x :: _, f :: _, .cons h t => by
    rw [List.map_cons, List.map_cons, List.map_cons, vals_nums t]
    congr 1
    exact h.2.2
theorem ok_few {T : Tbs} {CB CN : Addr} {f : Addr} {fd : FuncData} (M : Mod K mg base T CB CN) (F : FnP K "fewest_slides" 24 f fd) : FnOk P w K mg base (L2.CX P w) 5 f fd ["yard", "standing", "asks"] (spFew CB CN T) := by
  obtain ⟨fY, fdY, gY, kY, bY, GYd⟩ := M.cYard (P := P) (w := w)
  obtain ⟨fS, fdS, gS, kS, bS, GSt⟩ := M.cStand (P := P) (w := w)
  obtain ⟨fA, fdA, gA, kA, bA, GA⟩ := M.cAsks (P := P) (w := w)
  obtain ⟨fC, fdC, gC, kC, bC, GC⟩ := M.cCosts (P := P) (w := w)
  refine F.ok scFew (fun vs H Q E h => ?_) (fun cdv A outer s H vs Q E hr h => ?_)
  · obtain ⟨y, a, v, Y, s, rfl, _⟩ := h
    rfl
  · obtain ⟨y, a, v, Y, st, rfl, hY, hS, G, hTb, q⟩ := h
    have hu := hu_of hr
    refine ⟨_, pss_cons (ps_expr (pe_call GYd hr (by rfl) gY kY bY .nil pass0 (pa_cons (pv 0) pa_nil)))
      (pss_cons (ps_expr (pe_call GSt (hr.mono (by decide)) (by rfl) gS kS bS .nil pass0 (pa_cons (pv 0) (pa_cons (pv 1) pa_nil))))
      (pss_cons (ps_expr (pe_call (E := E) GA (hr.mono (by decide)) (by rfl) gA kA bA .nil (passes_call (W := fun cls d _ H => E cls d H) (takes_of rfl rfl rfl rfl) (fun _ _ _ _ h => h)) (pa_cons (pv 1) (pa_cons (pv 2) pa_nil))))
      (pss_cons (ps_set (i := 3) scFew.nd rfl (.inl rfl) (pe_nd1 hu (pv 1) pe_int))
      (pss_cons (ps_for (passes_of rfl) rfl (pi_tup (pv 2)) (pg_name (i := 4) scFew.nd rfl (.inr rfl))
        (pss_cons (ps_set (i := 5) scFew.nd rfl (.inl rfl) (pe_call GC (hr.mono (by decide)) (by rfl) gC kC bC .nil pass0 (pa_cons (pv 0) (pa_cons (pv 3) pa_nil))))
        (pss_cons (ps_setNc (i := 3) (own := [("one", 6), ("cost", 7)]) (g := gP2 K 6 7) (tt := tTest (tOp rEq (tOp (rIxT K) (tVar 6) (tOp (rIxT K) (tVar 0) (tC (.int 2)))) (tVar 4))) (tk := tVar 6) (tv := tVar 7) (Nat.lt_of_succ_lt hu) (by rfl) scFew.nd rfl rfl (dsw_true rfl rfl rfl (by decide +kernel)) (pi_ni (pv 5))
            (blkOk_by (own := [("one", 6), ("cost", 7)]) (N := nFew) (sc := defScope (top 24)) (by decide +kernel))
            (fun _ _ _ _ _ => pg_tup (by rfl) (pgs_cons (pg_name (i := 6) scFew.nd rfl (.inl rfl)) (pgs_cons (pg_name (i := 7) scFew.nd rfl (.inl rfl)) pgs_nil)))
            (fun _ _ _ _ _ => pts_one (pt_cmpR op_eq (pe_ix ix_tup (pv 6) (pe_ix ix_tup (pv 0) pe_int (fun _ _ => rfl)) (fun _ _ => rfl)) (pv 4) (nomark _)))
            (fun _ _ _ _ _ => pv 6) (fun _ _ _ _ _ => pv 7))
        (pss_one (ps_if (pt_not (pt_ntru (pv 3))) (pss_one (ps_raise0 (W := fun cls d _ H => E cls d H) rfl (takes_of rfl rfl rfl rfl) M.noway (by rfl))) pss_nil)))))
      (pss_one (ps_ret (pe_nminV (by rfl) (by rfl) M.no (pv 3)))))))), ?_⟩
    simp only [cxp, cxw, cxk, cxp', cxw', cxk']
    refine ⟨_, rfl, y, Y, rfl, hY, G.gy, G.t20, hTb, fun H1 e1 => ?_⟩
    have hY1 := hY.mono e1.tps
    have hS1 := hS.mono e1.tps
    refine ⟨_, rfl, _, rfl, y, a, Y, st, rfl, hY1, hS1, G.len, G.l20, G.hole, G.bk, G.nd, G.lt, e1.tab hTb, fun H2 e2 => ?_⟩
    have e12 := e1.trans e2
    have hY2 := hY.mono e12.tps
    have hS2 := hS.mono e12.tps
    refine ⟨_, rfl, _, rfl, a, st, v, rfl, hS2, G.l20, ?_⟩
    rcases q with ⟨hb, q⟩ | ⟨l, xs, rfl, hx, hxl, hxa, q1, q2⟩
    · refine .inl ⟨?_, q _ e12⟩
      rcases hb with rfl | ⟨l, xs, rfl, hl⟩ | ⟨l, xs, rfl, hl, hn⟩
      · exact .inl rfl
      · exact .inr (.inl ⟨l, xs, rfl, e12.keep _ _ hl own_lst.1⟩)
      · exact .inr (.inr ⟨l, xs, rfl, e12.keep _ _ hl own_tup.1, hn⟩)
    · refine .inr ⟨l, xs, rfl, e12.keep _ _ hx own_tup.1, hxl, hxa, fun hall => ?_, fun hex => q1 hex _ e12⟩
      obtain ⟨bs, res, k, rfl, hfew, qn, qs⟩ := q2 hall
      rw [List.length_map] at hxl
      clear q1 q2 hall hxa
      -- costs = {standing: 0}
      refine fun d nd => ⟨_, rfl, a, st, rfl, ?_, upd_same, fun ep => ?_⟩
      · exact hS2.mono (tps_new nd)
      have ex2 := ex_new (T := T) (o := sdO P w d [] 0) nd
      have e3 := e12.trans (ex2.write nd upd_same own_sd (o := sdO P w d [(st, a, nV 0)] ep))
      have hC3 : DN P w (upd (upd H2 d (sdO P w d [] 0)) d (sdO P w d [(st, a, nV 0)] ep)) d [(st, 0)] := ⟨_, ep, upd_same, .cons ⟨rfl, IsSg.mono e3.tps hS, rfl⟩ .nil⟩
      show tSeq _ _ _ _ (upd (upd H2 d (sdO P w d [] 0)) d (sdO P w d [(st, a, nV 0)] ep))
      generalize upd (upd H2 d (sdO P w d [] 0)) d (sdO P w d [(st, a, nV 0)] ep) = H3 at e3 hC3 ⊢
      refine ⟨_, rfl, l, rfl, ⟨_, .of (e3.keep _ _ hx own_tup.1)⟩, for_tup (xs := bs.map nV) (fun i σ Hx => ∃ d z4 z5 C, σ = [some (.ref y), some (.ref a), some (.ref l), some (.ref d), z4, z5, none, none] ∧ Ex T H Hx ∧ DN P w Hx d C ∧ C ≠ [] ∧ C.length ≤ 500 ∧ fewM st.length Y.ties k Y.g (bs.drop i) C = some res)
        ⟨d, none, none, [(st, 0)], rfl, e3, hC3, by simp, by simp, hfew⟩ (fun i σ Hx _ ⟨_, _, _, _, _, e, _⟩ => .of (e.keep _ _ hx own_tup.1)) (fun i x σ Hx hxi hP => ?_) (fun σ Hx hP => ?_)⟩
      · obtain ⟨d, z4, z5, C, rfl, e4, hC4, hC0, hCl, hf⟩ := hP
        rw [List.getElem?_map] at hxi
        obtain ⟨b, hb, rfl⟩ := Option.map_eq_some_iff.mp hxi
        have hdr : bs.drop i = b :: bs.drop (i + 1) := by
          obtain ⟨hi, e⟩ := List.getElem?_eq_some_iff.mp hb
          rw [List.drop_eq_getElem_cons hi, e]
        rw [hdr] at hf
        obtain ⟨W, hW, hcase⟩ := fewM_cons hf
        obtain ⟨hrun, hWl, hWk⟩ := cAft_some hW
        refine ⟨_, rfl, _, rfl, y, d, Y, C, W, st.length, k, rfl, hY.mono e4.tps, hC4, G.ties, G.t20, G.l20, hrun, hCl, hWl, hWk, e4.tab hTb, fun H5 r e5 nr hr5 => ?_⟩
        have e45 := e4.trans e5
        obtain ⟨xW, epW, hr5, pW⟩ := hr5
        have lW : xW.length = W.length := Paired.length pW
        obtain ⟨t, hY5, hYt⟩ := hY.mono e45.tps
        -- the comprehension
        refine ⟨_, rfl, r, xW, epW, rfl, hr5, fun D nD => ?_⟩
        have wkn : (W.map (·.1)).Nodup := cRun_nd hrun .nil
        refine nd_it walk_ni (fun j H10 => Ex T H5 H10 ∧ DN P w H10 D ((W.take j).filter (atG Y.g b)))
          ⟨ex_new nD, [], 0, upd_same, .nil⟩ (fun j H10 _ ⟨e10, _⟩ => e10.keep _ _ hr5 own_sd.1) (fun j x H10 H11 hj hP hy => ?_) (fun H10 hP => ?_)
        · obtain ⟨e10, hD10⟩ := hP
          obtain ⟨T1, kk, fa, v, hx2, rfl, nT, rfl⟩ := hy
          obtain ⟨f, hf2, hfk, hfa, hfv⟩ := paired_at pW hx2
          simp only at hfk hfa hfv
          subst hfk
          obtain rfl : v = nV f.2 := hfv
          have hfm := List.mem_of_getElem? hf2
          obtain ⟨hfl, _⟩ := hWk f hfm
          have exT := ex_new (T := T) (o := .tup [.ref fa, nV f.2]) nT
          have e11 := e10.trans exT
          have hD11 := hD10.mono exT
          refine ⟨T1, _, rfl, .of upd_same, rfl, _, _, rfl, _, _, rfl, rfl, ?_⟩
          generalize upd H10 T1 (.tup [.ref fa, nV f.2]) = H11 at e11 hD11 ⊢
          have hglt : Y.g < f.1.length := by rw [hfl, G.len]; exact G.gy.g
          refine ⟨rfl, _, rfl, _, rfl, y, _, _, _, rfl, rfl, .of (e11.keep _ _ hY5 own_tup.1), atI_nat (j := 2) rfl, fa, _, _, _, rfl, rfl, .of (hfa.mono e11.tps), atI_nat (oV_at hglt), _, rfl, ?_, _, rfl, ?_⟩
          · cases f.1.getD Y.g none <;> rfl
          · have hdec : decide (oV (f.1.getD Y.g none) = nV b) = atG Y.g b f := by
              unfold atG
              refine decide_eq_decide.mpr ⟨fun h => oV_inj (b := some b) h, fun h => by rw [h]; rfl⟩
            rw [hdec]
            obtain ⟨xD, epD, hd11, pD⟩ := id hD11
            cases hb2 : atG Y.g b f with
            | false =>
              refine ⟨e11, ?_⟩
              rw [List.take_add_one, hf2, List.filter_append]
              simp only [Option.toList, List.filter_cons, hb2, List.filter_nil, List.append_nil, Bool.false_eq_true, if_false]
              exact hD11
            | true =>
              have hnew : aget ((W.take j).filter (atG Y.g b)) f.1 = none := by
                cases hag : aget ((W.take j).filter (atG Y.g b)) f.1 with
                | none => rfl
                | some c =>
                  have hmt := (List.mem_filter.mp (aget_mem hag)).1
                  have hi' : (W.map (·.1))[j]? = some f.1 := by rw [List.getElem?_map, hf2]; rfl
                  refine absurd ?_ (nodup_take wkn hi')
                  rw [← List.map_take]
                  exact List.mem_map.mpr ⟨_, hmt, rfl⟩
              have lD := Paired.length pD
              have hle : ((W.take j).filter (atG Y.g b)).length ≤ W.length := Nat.le_trans (List.length_filter_le _ _) (by rw [List.length_take]; omega)
              refine ⟨_, rfl, _, rfl, xD, fa, f.1, rfl, ⟨epD, hd11, er_keys pD⟩, hfa.mono e11.tps, small32 (by omega), fun ep => ?_⟩
              rw [xput_new (xget_none_of pD hnew)]
              have tw := tps_write (o := sdO P w D (xD ++ [(f.1, fa, nV f.2)]) ep) hd11 (fun _ z => nomatch z)
              refine ⟨e11.write nD hd11 own_sd, xD ++ [(f.1, fa, nV f.2)], ep, upd_same, ?_⟩
              rw [List.take_add_one, hf2, List.filter_append]
              simp only [Option.toList, List.filter_cons, hb2, List.filter_nil, if_true]
              exact Paired.snoc (er_mono tw (fun _ _ z => z) pD) ⟨rfl, hfa.mono (e11.tps.trans tw), rfl⟩
        · obtain ⟨e10, hD10⟩ := hP
          rw [lW, List.take_length] at hD10
          obtain ⟨xD, epD, hd10, pD⟩ := id hD10
          refine ⟨_, rfl, D, xD, rfl, ⟨epD, hd10, er_keys pD⟩, ?_⟩
          have e410 := e45.trans e10
          rcases hcase with ⟨h0, hres⟩ | ⟨h0, hf'⟩
          · have hx0 : xD = [] := by
              have := Paired.length pD
              rw [h0] at this
              exact List.eq_nil_of_length_eq_zero this
            rw [hx0]
            exact qn hres _ e410
          · have hne : (!xD.isEmpty) = true := by
              cases xD with
              | nil => exact absurd (List.eq_nil_of_length_eq_zero (Paired.length pD).symm) h0
              | cons _ _ => rfl
            rw [hne]
            refine ⟨D, _, _, _, rfl, e410, hD10, h0, Nat.le_trans (List.length_filter_le _ _) hWl, hf'⟩
      · obtain ⟨d, z4, z5, C, rfl, e4, hC4, hC0, hCl, hf⟩ := hP
        rw [List.length_map, List.drop_length] at hf
        obtain rfl : some C = res := Option.some.inj hf
        obtain ⟨xC, epC, hd4, pC⟩ := hC4
        refine ⟨_, rfl, d, xC, epC, C.map fun f => (f.2 : Int), rfl, hd4, ?_, by simp [hC0], fun m hm hmin => ?_⟩
        · exact vals_nums pC
        · obtain ⟨n, hn, rfl⟩ := List.mem_map.mp hm
          refine qs C rfl n.2 _ (List.mem_map.mpr ⟨n, hn, rfl⟩) (fun j hj => ?_) e4
          obtain ⟨f2, hf2, rfl⟩ := List.mem_map.mp hj
          have := hmin _ (List.mem_map.mpr ⟨f2, hf2, rfl⟩)
          omega
end
end L2.K10

set_option Elab.async false
set_option linter.all false
set_option maxRecDepth 100000
set_option maxHeartbeats 4000000
namespace L2.K10
open PySem PySem.Spec PyProof.Rows
def left0 (n h : Nat) : Sg := (List.range (n - h)).map some ++ List.replicate h none
theorem rgV_nat {a : Int} {k : Nat} (h : a = (k : Int)) : rgV 0 a = (List.range k).map nV := by
  unfold rgV
  have : (a - 0).toNat = k := by omega
  rw [this]
  apply List.map_congr_left
  intro i _
  show V.int (0 + (i : Int)) = V.int (i : Int)
  rw [Int.zero_add]
theorem eraseIdx_mapV (f : Option Nat → V) : ∀ (L : Sg) (k : Nat), (L.map f).eraseIdx k = (L.eraseIdx k).map f
  | [], _ => rfl
  | _ :: _, 0 => rfl
  | x :: L, k + 1 => by simp [eraseIdx_mapV f L k]
theorem standsOf_snoc {n : Nat} {L : Sg} {i : Nat} (h : i < L.length) {S : Sg} (hS : S ∈ standsOf n (L.eraseIdx i)) : L.getD i none :: S ∈ standsOf (n + 1) L :=
  List.mem_flatMap.mpr ⟨i, List.mem_range.mpr h, List.mem_map.mpr ⟨S, hS, rfl⟩⟩
section
variable {P : Program} {w : World} {K : PySem.W.Frag} {mg : Str → Option Value} {base : Heap}
abbrev nStL : List Str := ["_law_row", "_law_places", "_law_holes", "_law_left", "_law_found", "_law_place"]
theorem scStL : FnScope nStL ["_law_row", "_law_places", "_law_holes"] (defScope (top 32)) := ⟨rfl, rfl, rfl, by decide +kernel, rfl, by decide +kernel, by decide +kernel⟩
def spStL (K : PySem.W.Frag) (T : Tbs) : Sp := fun vs H Q _ => ∃ (r sc : Addr) (ns : List Int) (n h : Nat), vs = [.ref r, nV n, nV h] ∧ h ≤ n ∧ n ≤ 10 ∧ Rw K H r sc ns ∧ ns.length ≤ 1000 ∧
  ∀ H' a s, s ∈ standsOf n (left0 n h) → Exr T r H H' → Rw K H' r sc ns → H a = none → IsSg H' a s → Q (.ref a) H'
theorem ok_stL {T : Tbs} {f fT : Addr} {fd fdT : FuncData} (F : FnP K "_law_standing" 32 f fd) (FT : FnP K "_law_taken" 28 fT fdT) (gT : mg "_law_taken" = some (.ref fT)) (mI : mg "int" = none) (mL : mg "len" = none) (mLi : mg "list" = none) (mR : mg "range" = none) (mT : mg "tuple" = none) :
    FnOk P w K mg base CX0 2 f fd ["_law_row", "_law_places", "_law_holes"] (spStL K T) := by
  have GT : FnOk P w K mg base CX0 1 fT fdT ["_law_row", "_law_many"] (spTaken K T) := ok_taken FT mI mL
  have bT : Binds K fdT ["_law_row", "_law_many"] [] := FT.bindsN fun _ _ _ _ _ _ us hl => match us, hl with | [_, _], _ => rfl
  refine F.ok scStL (fun vs H Q E h => ?_) (fun cdv A outer s H vs Q E hr h => ?_)
  · obtain ⟨r, sc, ns, n, h, rfl, _⟩ := h
    rfl
  · obtain ⟨r, sc, ns, n, h, rfl, hh, hn, hR, hns, q⟩ := h
    refine ⟨_, PSs.nox (pss_cons (ps_par (i := 3) (j := 4) rfl scStL.nd rfl rfl (by decide) rfl rfl
        (pa_cons (pe_op op_cat (pe_listRg rfl (by rfl) mLi (prg_1 (by rfl) mR (pe_op op_sub (pv 1) (pv 2)))) (pe_op op_rep (pe_lst (pa_cons pe_non pa_nil)) (pv 2))) (pa_cons (pe_lst pa_nil) pa_nil)) (by rfl))
      (pss_cons (ps_for PassesOwn.never rfl (pi_range1 (by rfl) mR (pa_cons (pv 1) pa_nil)) (pg_name (i := 5) scStL.nd rfl (.inl rfl))
        (pss_one (ps_expr (pe_bm PySem.F.plainAttrs_list PySem.F.slot_list_append PySem.F.type_list_append mt_append (pv 4) (pa_cons
          (pe_bm PySem.F.plainAttrs_list PySem.F.slot_list_pop PySem.F.type_list_pop mt_popAt (pv 3) (pa_cons (pe_call GT hr (by rfl) gT FT.kp bT .nil pass0 (pa_cons (pv 0) (pa_cons (pe_callB call_len (by rfl) mL boot_len (pa_cons (pv 3) pa_nil)) pa_nil))) pa_nil)) pa_nil)))))
      (pss_one (ps_ret (pe_callTy call_tuple_of (by rfl) mT (by decide +kernel) (pa_cons (pv 4) pa_nil)))))), ?_⟩
    simp only [cxp, cxw, cxk, cxp', cxw', cxk']
    have e0 : ((n : Int) - (h : Int)) = ((n - h : Nat) : Int) := by omega
    refine ⟨_, rfl, _, rfl, _, _, rfl, rfl, _, rfl, ?_, fun q1 nq1 => ?_⟩
    · rw [e0]
      exact RgOk.of_le (by omega) (by omega) (by omega) (by omega)
    refine ⟨by show 1 ≤ sizeLine; decide, fun q2 nq2 => ⟨_, rfl, q2, _, _, rfl, rfl, upd_same, by omega, by omega, ?_, fun q3 nq3 => ?_⟩⟩
    · show 1 * _ ≤ _
      exact small64 (by omega)
    have n12 : q1 ≠ q2 := fun z => by rw [← z, upd_same] at nq2; cases nq2
    have n13 : q1 ≠ q3 := fun z => by rw [← z, upd_ne n12, upd_same] at nq3; cases nq3
    refine ⟨q1, q3, _, _, rfl, rfl, by rw [upd_ne n13, upd_ne n12, upd_same], upd_same, ?_, fun l nl => ?_⟩
    · rw [rgV_nat e0]
      simp only [List.length_map, List.length_range, List.length_flatten, List.map_replicate, List.sum_replicate_nat]
      refine small64 ?_
      simp
      omega
    refine ⟨by show 0 ≤ sizeLine; decide, fun fo nfo => ?_⟩
    have hL0 : rgV 0 ((n : Int) - (h : Int)) ++ (List.replicate (h : Int).toNat [V.non]).flatten = (left0 n h).map oV := by
      rw [rgV_nat e0]
      unfold left0
      simp [List.map_map, Function.comp_def, oV, nV]
    rw [hL0] at nfo ⊢
    have eA : Ex T H _ := ((ex_new (o := .lst (rgV 0 ((n : Int) - (h : Int)))) nq1).trans (ex_new (o := .lst [V.non]) nq2)).trans (ex_new (o := .lst (List.replicate (h : Int).toNat [V.non]).flatten) nq3)
    have n0 : H l = none := eA.free _ nl
    have e1 : Ex T H _ := eA.trans (ex_new (o := .lst ((left0 n h).map oV)) nl)
    have f0 : H fo = none := e1.free _ nfo
    have nlf : l ≠ fo := fun z => by rw [← z, upd_same] at nfo; cases nfo
    have e2 : Ex T H _ := e1.trans (ex_new (o := .lst []) nfo)
    have hl1 : upd (upd (upd (upd (upd H q1 (.lst (rgV 0 ((n : Int) - (h : Int))))) q2 (.lst [V.non])) q3 (.lst (List.replicate (h : Int).toNat [V.non]).flatten)) l (.lst ((left0 n h).map oV))) fo (.lst []) l = some (.lst ((left0 n h).map oV)) := by rw [upd_ne nlf, upd_same]
    have hf1 : upd (upd (upd (upd (upd H q1 (.lst (rgV 0 ((n : Int) - (h : Int))))) q2 (.lst [V.non])) q3 (.lst (List.replicate (h : Int).toNat [V.non]).flatten)) l (.lst ((left0 n h).map oV))) fo (.lst []) fo = some (.lst []) := upd_same
    generalize upd (upd (upd (upd (upd H q1 (.lst (rgV 0 ((n : Int) - (h : Int))))) q2 (.lst [V.non])) q3 (.lst (List.replicate (h : Int).toNat [V.non]).flatten)) l (.lst ((left0 n h).map oV))) fo (.lst []) = H1 at e2 hl1 hf1 ⊢
    have hR1 : Rw K H1 r sc ns := hR.mono e2
    obtain ⟨uR, huR⟩ := hR.some
    have nrl : l ≠ r := fun z => by rw [← z, n0] at huR; cases huR
    have nrf : fo ≠ r := fun z => by rw [← z, f0] at huR; cases huR
    have hlen0 : (left0 n h).length = n := by unfold left0; simp; omega
    refine ⟨_, _, rfl, _, rfl, n, rfl, by omega, by omega, for_range (lo := 0) (n := n) (fun t σ H2 => ∃ z5, σ = [some (.ref r), some (nV n), some (nV h), some (.ref l), some (.ref fo), z5] ∧ Exr T r H H2 ∧ Rw K H2 r sc ns ∧
        ∃ L F0 : Sg, L.length = n - t ∧ F0.length = t ∧ H2 l = some (.lst (L.map oV)) ∧ H2 fo = some (.lst (F0.map oV)) ∧ ∀ S ∈ standsOf (n - t) L, F0 ++ S ∈ standsOf n (left0 n h))
      ⟨none, rfl, e2.row, hR1, left0 n h, [], hlen0, rfl, hl1, hf1, fun S hS => hS⟩ (fun t σ H2 ht hP => ?_) (fun σ H2 hP => ?_)⟩
    · obtain ⟨z5, rfl, e3, hR3, L, F0, hL, hF, hl2, hf2, hS⟩ := hP
      refine ⟨_, rfl, .inl ⟨rfl, _, .of hf2⟩, _, rfl, .inl ⟨rfl, _, .of hl2⟩, _, rfl, _, rfl, .ref l, _, rfl, .inl ⟨_, .of hl2, rfl⟩, r, sc, ns, _, rfl, ?_, ?_, hR3, hns, fun H3 k hk e4 hR4 => ?_⟩
      · rw [List.length_map, hL]; omega
      · rw [List.length_map, hL]; omega
      rw [List.length_map] at hk
      have hl3 := e4.keep _ _ nrl hl2 own_lst.1
      have hf3 := e4.keep _ _ nrf hf2 own_lst.1
      have e5 := e3.trans e4
      refine ⟨l, _, _, k, oV (L.getD k none), rfl, rfl, hl3, by omega, by omega, ?_, oV_at hk, ?_⟩
      · rw [List.length_map, seqIndex_at (by omega) (by omega)]
        rfl
      have hl4 : upd H3 l (.lst ((L.map oV).eraseIdx k)) l = some (.lst ((L.eraseIdx k).map oV)) := by rw [upd_same, eraseIdx_mapV]
      have hf4 : upd H3 l (.lst ((L.map oV).eraseIdx k)) fo = some (.lst (F0.map oV)) := by rw [upd_ne (Ne.symm nlf)]; exact hf3
      have e6 : Exr T r H (upd H3 l (.lst ((L.map oV).eraseIdx k))) := e5.writeN n0 hl3 own_lst
      have hR6 : Rw K (upd H3 l (.lst ((L.map oV).eraseIdx k))) r sc ns := hR.writeN e5 hR4 n0 hl3 own_lst
      refine ⟨fo, _, _, rfl, rfl, hf4, small64 (by rw [List.length_map]; omega), ?_⟩
      have e7 : Exr T r H (upd (upd H3 l (.lst ((L.map oV).eraseIdx k))) fo (.lst (F0.map oV ++ [oV (L.getD k none)]))) := e6.writeN f0 hf4 own_lst
      refine ⟨_, rfl, e7, hR.writeN e6 hR6 f0 hf4 own_lst, L.eraseIdx k, F0 ++ [L.getD k none], ?_, ?_, ?_, ?_, fun S hS2 => ?_⟩
      · rw [List.length_eraseIdx]
        split <;> omega
      · simp [hF]
      · rw [upd_ne nlf]
        exact hl4
      · rw [upd_same, List.map_append]
        rfl
      · rw [List.append_assoc]
        refine hS _ ?_
        rw [show n - t = (n - (t + 1)) + 1 by omega]
        exact standsOf_snoc hk hS2
    · obtain ⟨z5, rfl, e3, hR3, L, F0, hL, hF, hl2, hf2, hS⟩ := hP
      refine ⟨_, rfl, fo, _, rfl, .inl ⟨.of hf2, fun a na => ?_⟩⟩
      refine q _ a F0 ?_ (e3.new na) (Rw.mono (T := T) (ex_new na) hR3) (e3.free _ na) upd_same
      have := hS [] (by rw [Nat.sub_self]; exact List.mem_singleton.mpr rfl)
      simpa using this
end
end L2.K10

/-! the standings of a yard as drawn -/
set_option linter.all false
set_option maxRecDepth 100000
namespace L2.K10
def stands (n h : Nat) : List Sg := standsOf n (left0 n h)
def stOk (n h : Nat) : Prop := (stands n h).length ≤ 24 ∧ ∀ k ∈ stands n h, (k.length = n ∧ none ∈ k ∧ k.filterMap id ≠ [] ∧ (k.filterMap id).Nodup ∧ (∀ b ∈ k.filterMap id, b < (k.filterMap id).length) ∧ (k.filterMap id).length = n - h) ∧
  ∀ a ∈ List.range n, ∀ b ∈ List.range n, (k.getD a none).isSome = true → k[b]? = some none → slidM k (a, b) ∈ stands n h
instance (n h : Nat) : Decidable (stOk n h) := by unfold stOk; infer_instance
theorem stOk_all : stOk 2 1 ∧ stOk 3 1 ∧ stOk 3 2 ∧ stOk 4 1 ∧ stOk 4 2 := by decide +kernel
theorem stOk_of {n h : Nat} (n4 : n ≤ 4) (h1 : 1 ≤ h) (h2 : h ≤ 2) (h3 : h < n) : stOk n h := by
  obtain ⟨a, b, c, d, e⟩ := stOk_all
  rcases (show (n = 2 ∧ h = 1) ∨ (n = 3 ∧ h = 1) ∨ (n = 3 ∧ h = 2) ∨ (n = 4 ∧ h = 1) ∨ (n = 4 ∧ h = 2) by omega) with ⟨rfl, rfl⟩ | ⟨rfl, rfl⟩ | ⟨rfl, rfl⟩ | ⟨rfl, rfl⟩ | ⟨rfl, rfl⟩ <;> assumption
theorem GY.tg {Y : Yd} (G : GY Y) : TiG Y.n Y.ties := ⟨G.lt, G.asc.imp fun h e => by subst e; omega⟩
theorem GY.t6 {Y : Yd} (G : GY Y) : Y.ties.length ≤ 6 := by
  refine nodup_few (m := L2.K10.t6) G.tg.nd fun t ht => ?_
  obtain ⟨a, b⟩ := t
  have h1 := G.lt _ ht
  have h2 := G.n4
  simp only at h1
  have : ∀ b, b < 4 → ∀ a, a < b → (a, b) ∈ L2.K10.t6 := by decide
  exact this b (by omega) a h1.1
section
variable {Y : Yd} {h : Nat}
theorem fld_of (G : GY Y) (h1 : 1 ≤ h) (h2 : h ≤ 2) (h3 : h < Y.n) : Fld Y.n Y.ties (stands Y.n h) := by
  obtain ⟨a, b⟩ := stOk_of G.n4 h1 h2 h3
  refine ⟨G.tg, ⟨a, fun k hk m hm => ?_⟩, fun k hk => (b k hk).1.1, fun k hk => ?_⟩
  · obtain ⟨q1, q2, _, q4⟩ := mem_slidesM hm
    obtain ⟨_, q5, _⟩ := slides_ok hm
    rw [(b k hk).1.1] at q1 q5
    exact (b k hk).2 m.1 (List.mem_range.mpr q1) m.2 (List.mem_range.mpr q5) q2 q4
  · have q := slidesTo_len Y.ties k k.length
    have := G.t6
    have n4 := G.n4
    rw [(b k hk).1.1] at q
    have e : slidesM Y.ties k = slidesTo Y.ties k Y.n := by
      unfold slidesM slidesTo
      rw [(b k hk).1.1]
    rw [e]
    have : Y.n * (2 * Y.ties.length) ≤ 4 * (2 * 6) := Nat.mul_le_mul n4 (by omega)
    omega
theorem gs_of (G : GY Y) (h1 : 1 ≤ h) (h2 : h ≤ 2) (h3 : h < Y.n) {k : Sg} (hk : k ∈ stands Y.n h) : GS Y k ∧ (bksM k).length = Y.n - h := by
  obtain ⟨_, b⟩ := stOk_of G.n4 h1 h2 h3
  obtain ⟨⟨q1, q2, q3, q4, q5, q6⟩, _⟩ := b k hk
  have := G.t6
  have := G.n4
  exact ⟨⟨G, by omega, q1, by omega, q2, q3, q4, q5⟩, q6⟩
end
/-- what may be asked as a book -/
theorem bk_mem {s : Sg} {b : Nat} : b ∈ bksM s ↔ some b ∈ s := by
  unfold bksM
  rw [List.mem_filterMap]
  exact ⟨fun ⟨x, h1, h2⟩ => by cases x <;> simp at h2; subst h2; exact h1, fun h => ⟨_, h, rfl⟩⟩
end L2.K10

set_option Elab.async false
set_option linter.all false
set_option maxRecDepth 100000
set_option maxHeartbeats 4000000
namespace L2.K10
open PySem PySem.Spec PyProof.Rows
section
variable {P : Program} {w : World} {K : PySem.W.Frag} {mg : Str → Option Value} {base : Heap}
abbrev nAlk : List Str := ["_law_found", "_law_due", "_law_k"]
theorem scAlk : FnScope nAlk ["_law_found", "_law_due"] (defScope (top 30)) := ⟨rfl, rfl, rfl, by decide +kernel, rfl, by decide +kernel, by decide +kernel⟩
/-- two alike scalars -/
def spAlk0 (T : Tbs) : Sp := fun vs H Q _ => ∃ x : V, vs = [x, x] ∧ (x = .non ∨ ∃ n : Nat, x = nV n) ∧ ∀ H', Ex T H H' → Q (.bl true) H'
/-- two alike lists of two numbers -/
def spAlk (T : Tbs) : Sp := fun vs H Q _ => ∃ (p q : Addr) (a b : Nat), vs = [.ref p, .ref q] ∧ H p = some (.lst [nV a, nV b]) ∧ H q = some (.lst [nV a, nV b]) ∧ ∀ H', Ex T H H' → Q (.bl true) H'
theorem kit2 {K : PySem.W.Frag} {a b c : String} {r : Bool} (r1 r2 : Bool) (e1 : kitB a b = some r1) (e2 : kitB a c = some r2) (e : (r1 || r2) = r) : PySem.W.kitAny K (.type a) [.type b, .type c] = some r := by
  subst e
  refine kitAny_cons (kit_ty e1) (fun h => ?_) (fun h => by rw [h]; rfl)
  subst h
  exact kitAny_cons (kit_ty e2) (fun h => by subst h; exact kitAny_nil) (fun h => by rw [h]; rfl)
theorem ok_alk0 {T : Tbs} {f : Addr} {fd : FuncData} (F : FnP K "_law_alike" 30 f fd) (mI : mg "isinstance" = none) (mN : mg "int" = none) (mB : mg "bool" = none) (mT : mg "tuple" = none) (mL : mg "list" = none) (mS : mg "str" = none) :
    FnOk P w K mg base CX0 1 f fd ["_law_found", "_law_due"] (spAlk0 T) := by
  refine F.ok scAlk (fun vs H Q E h => ?_) (fun cdv A outer s H vs Q E hr h => ?_)
  · obtain ⟨x, rfl, _⟩ := h
    rfl
  · obtain ⟨x, rfl, hx, q⟩ := h
    refine ⟨_, PSs.nox (pss_cons (ps_if (pt_val (pe_callB call_isiT (by rfl) mI (by decide +kernel) (pa_cons (pv 1) (pa_cons (pe_tup (pa_cons (pe_bltn (v := .ty "tuple") (by rfl) mT (show _ = some (.type "tuple") by decide +kernel) rfl) (pa_cons (pe_bltn (v := .ty "list") (by rfl) mL (show _ = some (.type "list") by decide +kernel) rfl) pa_nil))) pa_nil)))) pss_never pss_nil)
      (pss_cons (ps_if (PW.pt (pw_or (pt_cmp (pc_isN (pv 1))) (pw_or1 (pt_val (pe_callB call_isi (by rfl) mI (by decide +kernel) (pa_cons (pv 1) (pa_cons (pe_bltn (v := .ty "str") (by rfl) mS (show _ = some (.type "str") by decide +kernel) rfl) pa_nil)))))))
          (pss_one (ps_ret (pe_and (pe_cmpR op_eq (pv 0) (pv 1) (nomark _)) (pe_one (pe_cmpR op_eq (pe_callB call_isi (by rfl) mI (by decide +kernel) (pa_cons (pv 0) (pa_cons (pe_bltn (v := .ty "str") (by rfl) mS (show _ = some (.type "str") by decide +kernel) rfl) pa_nil))) (pe_callB call_isi (by rfl) mI (by decide +kernel) (pa_cons (pv 1) (pa_cons (pe_bltn (v := .ty "str") (by rfl) mS (show _ = some (.type "str") by decide +kernel) rfl) pa_nil))) (by rfl)))))) pss_nil)
      (pss_one (ps_ret (pe_and (pe_callB call_isi (by rfl) mI (by decide +kernel) (pa_cons (pv 0) (pa_cons (pe_bltn (v := .ty "int") (by rfl) mN (show _ = some (.type "int") by decide +kernel) rfl) pa_nil)))
        (pe_and (pe_cmpR op_eq (pe_callB call_isi (by rfl) mI (by decide +kernel) (pa_cons (pv 0) (pa_cons (pe_bltn (v := .ty "bool") (by rfl) mB (show _ = some (.type "bool") by decide +kernel) rfl) pa_nil))) (pe_callB call_isi (by rfl) mI (by decide +kernel) (pa_cons (pv 1) (pa_cons (pe_bltn (v := .ty "bool") (by rfl) mB (show _ = some (.type "bool") by decide +kernel) rfl) pa_nil))) (by rfl))
          (pe_one (pe_cmpR op_eq (pv 0) (pv 1) (nomark _))))))))), ?_⟩
    simp only [cxp, cxw, cxk, cxp', cxw', cxk']
    refine ⟨_, rfl, by show 2 ≤ sizeLine; decide, fun t nt => ?_⟩
    have e1 := ex_new (T := T) (o := .tup [.ty "tuple", .ty "list"]) nt
    rcases hx with rfl | ⟨n, rfl⟩
    · refine ⟨_, t, _, _, _, false, rfl, upd_same, .cons (.ty "tuple") (.cons (.ty "list") .nil), .base .non, kit2 false false (by decide +kernel) (by decide +kernel) rfl, _, rfl, ?_⟩
      refine ⟨_, rfl, true, rfl, ?_⟩
      refine ⟨_, rfl, _, rfl, rfl, true, rfl, ?_⟩
      refine ⟨_, rfl, _, .ty "str", _, _, false, rfl, .ty "str", .base .non, kit_ty (by decide +kernel), ?_⟩
      refine ⟨_, rfl, _, .ty "str", _, _, false, rfl, .ty "str", .base .non, kit_ty (by decide +kernel), rfl, ?_⟩
      exact q _ e1
    · refine ⟨_, t, _, _, _, false, rfl, upd_same, .cons (.ty "tuple") (.cons (.ty "list") .nil), .base (.int _), kit2 false false (by decide +kernel) (by decide +kernel) rfl, _, rfl, ?_⟩
      refine ⟨_, rfl, false, rfl, ?_⟩
      refine ⟨_, rfl, _, .ty "str", _, _, false, rfl, .ty "str", .base (.int _), kit_ty (by decide +kernel), _, rfl, ?_⟩
      refine ⟨_, rfl, _, .ty "int", _, _, true, rfl, .ty "int", .base (.int _), kit_ty (by decide +kernel), true, rfl, ?_⟩
      refine ⟨_, rfl, _, .ty "bool", _, _, false, rfl, .ty "bool", .base (.int _), kit_ty (by decide +kernel), ?_⟩
      refine ⟨_, rfl, _, .ty "bool", _, _, false, rfl, .ty "bool", .base (.int _), kit_ty (by decide +kernel), rfl, true, rfl, ?_⟩
      refine ⟨_, rfl, _, rfl, rfl, ?_⟩
      have hd : decide (nV n = nV n) = true := decide_eq_true rfl
      rw [hd]
      exact q _ e1
theorem ok_alk {T : Tbs} {f : Addr} {fd : FuncData} (F : FnP K "_law_alike" 30 f fd) (gA : mg "_law_alike" = some (.ref f)) (mI : mg "isinstance" = none) (mN : mg "int" = none) (mB : mg "bool" = none) (mT : mg "tuple" = none) (mL : mg "list" = none) (mS : mg "str" = none) (mLe : mg "len" = none) (mR : mg "range" = none) :
    FnOk P w K mg base CX0 2 f fd ["_law_found", "_law_due"] (spAlk T) := by
  have GA : FnOk P w K mg base CX0 1 f fd ["_law_found", "_law_due"] (spAlk0 T) := ok_alk0 F mI mN mB mT mL mS
  have bA : Binds K fd ["_law_found", "_law_due"] [] := F.bindsN fun _ _ _ _ _ _ us hl => match us, hl with | [_, _], _ => rfl
  refine F.ok scAlk (fun vs H Q E h => ?_) (fun cdv A outer s H vs Q E hr h => ?_)
  · obtain ⟨p, q, a, b, rfl, _⟩ := h
    rfl
  · obtain ⟨p, q, a, b, rfl, hp, hq, k⟩ := h
    refine ⟨_, PSs.nox (pss_cons (ps_if (pt_val (pe_callB call_isiT (by rfl) mI (by decide +kernel) (pa_cons (pv 1) (pa_cons (pe_tup (pa_cons (pe_bltn (v := .ty "tuple") (by rfl) mT (show _ = some (.type "tuple") by decide +kernel) rfl) (pa_cons (pe_bltn (v := .ty "list") (by rfl) mL (show _ = some (.type "list") by decide +kernel) rfl) pa_nil))) pa_nil))))
        (pss_cons (ps_if (PW.pt (pw_or (pt_not (pt_val (pe_callB call_isiT (by rfl) mI (by decide +kernel) (pa_cons (pv 0) (pa_cons (pe_tup (pa_cons (pe_bltn (v := .ty "tuple") (by rfl) mT (show _ = some (.type "tuple") by decide +kernel) rfl) (pa_cons (pe_bltn (v := .ty "list") (by rfl) mL (show _ = some (.type "list") by decide +kernel) rfl) pa_nil))) pa_nil)))))
            (pw_or1 (pt_cmpR op_ne (pe_callB call_isi (by rfl) mI (by decide +kernel) (pa_cons (pv 0) (pa_cons (pe_bltn (v := .ty "list") (by rfl) mL (show _ = some (.type "list") by decide +kernel) rfl) pa_nil))) (pe_callB call_isi (by rfl) mI (by decide +kernel) (pa_cons (pv 1) (pa_cons (pe_bltn (v := .ty "list") (by rfl) mL (show _ = some (.type "list") by decide +kernel) rfl) pa_nil))) (by rfl))))) pss_never pss_nil)
        (pss_cons (ps_if (pt_cmpR op_ne (pe_callB call_len (by rfl) mLe boot_len (pa_cons (pv 0) pa_nil)) (pe_callB call_len (by rfl) mLe boot_len (pa_cons (pv 1) pa_nil)) (by rfl)) pss_never pss_nil)
        (pss_one (ps_ret (pe_cmpR (op_eqD hr.units)
          (pe_lc (own := [("_law_k", 2)]) (g := gName 2) (tt := tNot (tB (tCall (spAlk0 T) [] E0 (tCons (tOp (rIxL K) (tVar 0) (tVar 2)) (tCons (tOp (rIxL K) (tVar 1) (tVar 2)) tNil))))) (te := tVar 2) (by rfl) scAlk.nd
            (pi_range1 (by rfl) mR (pa_cons (pe_callB call_len (by rfl) mLe boot_len (pa_cons (pv 1) pa_nil)) pa_nil)) (blkOk_by (own := [("_law_k", 2)]) (N := nAlk) (sc := defScope (top 30)) (by decide +kernel))
            (fun _ _ _ _ _ => pg_name (i := 2) scAlk.nd rfl (.inl rfl))
            (fun _ _ _ _ _ => pts_one (pt_not (pt_val (pe_call GA hr (by rfl) gA F.kp bA .nil pass0 (pa_cons (pe_ix ix_list (pv 0) (pv 2) (fun _ _ => rfl)) (pa_cons (pe_ix ix_list (pv 1) (pv 2) (fun _ _ => rfl)) pa_nil))))))
            (fun _ _ _ _ _ => pv 2)) (pe_lst pa_nil) (by rfl)))))) pss_nil) pss_never), ?_⟩
    simp only [cxp, cxw, cxk, cxp', cxw', cxk']
    refine ⟨_, rfl, by show 2 ≤ sizeLine; decide, fun t nt => ?_⟩
    have e1 := ex_new (T := T) (o := .tup [.ty "tuple", .ty "list"]) nt
    have hp1 := e1.keep _ _ hp own_lst.1
    have hq1 := e1.keep _ _ hq own_lst.1
    have ht1 : upd H t (.tup [.ty "tuple", .ty "list"]) t = some (.tup [.ty "tuple", .ty "list"]) := upd_same
    generalize upd H t (.tup [.ty "tuple", .ty "list"]) = H1 at e1 hp1 hq1 ht1 ⊢
    refine ⟨_, t, _, _, _, true, rfl, ht1, .cons (.ty "tuple") (.cons (.ty "list") .nil), .base (.lst hq1), kit2 false true (by decide +kernel) (by decide +kernel) rfl, _, rfl, ?_⟩
    refine ⟨_, rfl, by show 2 ≤ sizeLine; decide, fun t2 nt2 => ?_⟩
    have e2 := e1.trans (ex_new (T := T) (o := .tup [.ty "tuple", .ty "list"]) nt2)
    have hp2 := (ex_new (T := T) (o := .tup [.ty "tuple", .ty "list"]) nt2).keep _ _ hp1 own_lst.1
    have hq2 := (ex_new (T := T) (o := .tup [.ty "tuple", .ty "list"]) nt2).keep _ _ hq1 own_lst.1
    have ht2 : upd H1 t2 (.tup [.ty "tuple", .ty "list"]) t2 = some (.tup [.ty "tuple", .ty "list"]) := upd_same
    generalize upd H1 t2 (.tup [.ty "tuple", .ty "list"]) = H2 at e2 hp2 hq2 ht2 ⊢
    refine ⟨_, t2, _, _, _, true, rfl, ht2, .cons (.ty "tuple") (.cons (.ty "list") .nil), .base (.lst hp2), kit2 false true (by decide +kernel) (by decide +kernel) rfl, _, rfl, ?_⟩
    refine ⟨_, rfl, _, .ty "list", _, _, true, rfl, .ty "list", .base (.lst hp2), kit_ty (by decide +kernel), ?_⟩
    refine ⟨_, rfl, _, .ty "list", _, _, true, rfl, .ty "list", .base (.lst hq2), kit_ty (by decide +kernel), rfl, false, rfl, ?_⟩
    refine ⟨_, rfl, .ref p, 2, rfl, .inl ⟨_, .of hp2, rfl⟩, ?_⟩
    refine ⟨_, rfl, .ref q, 2, rfl, .inl ⟨_, .of hq2, rfl⟩, rfl, false, rfl, ?_⟩
    -- the list of what is unlike
    refine ⟨_, rfl, .ref q, 2, rfl, .inl ⟨_, .of hq2, rfl⟩, ?_⟩
    refine ⟨_, rfl, by decide, by decide, fun D nD => ?_⟩
    refine lc_range (n := 2) (fun i H3 => Ex T H2 H3 ∧ H3 D = some (.lst [])) ⟨ex_new nD, upd_same⟩ (fun i H3 hi hP => ?_) (fun H3 hP => ?_)
    · obtain ⟨e3, hD3⟩ := hP
      have hp3 := e3.keep _ _ hp2 own_lst.1
      have hq3 := e3.keep _ _ hq2 own_lst.1
      have zi : (0 : Int) + (i : Nat) = ((i : Nat) : Int) := by omega
      rw [zi]
      have hx : ∃ x : V, ([nV a, nV b] : List V)[i]? = some x ∧ (x = .non ∨ ∃ n : Nat, x = nV n) := by
        match i, hi with
        | 0, _ => exact ⟨_, rfl, .inr ⟨a, rfl⟩⟩
        | 1, _ => exact ⟨_, rfl, .inr ⟨b, rfl⟩⟩
      obtain ⟨x, hx, hxn⟩ := hx
      refine ⟨rfl, _, rfl, _, rfl, p, _, _, x, rfl, rfl, .of hp3, atI_nat hx, _, rfl, _, rfl, q, _, _, x, rfl, rfl, .of hq3, atI_nat hx, x, rfl, hxn, fun H4 e4 => ?_⟩
      exact ⟨true, rfl, e3.trans e4, e4.keep _ _ hD3 own_lst.1⟩
    · obtain ⟨e3, hD3⟩ := hP
      refine ⟨by show 0 ≤ sizeLine; decide, fun l nl => ⟨.list [], .list [], .lst (.of ?_) .nil, .lst (.of upd_same) .nil, rfl, rfl, ?_⟩⟩
      · rw [upd_ne (ne_of_none hD3 nl)]
        exact hD3
      · exact k _ (e2.trans (e3.trans (ex_new nl)))
end
end L2.K10

set_option Elab.async false
set_option linter.all false
set_option maxRecDepth 100000
set_option maxHeartbeats 4000000
/-! set(xs), xs a list of ints, and what stands in it -/
namespace L2.K10
open PySem PySem.Spec PyProof.Rows L2
/-- the new set, ahead of its members -/
abbrev voidSet (w : World) : Obj := { cls := .type "set", dict := none, data := .set #[] 0 (.fresh 0 0 (!w.params.followText "set-order")) }
section
variable {P : Program} {w : World} {A : Around} {E : Value → Shared → Prop} {s : Shared}
theorem set_of_list {l : Addr} {its : Array Value} (ns : List Int) {Q : Value → Shared → Prop} (hh : A.handled = none) (hl : s.heap.IsList l its) (hi : IntsAre its.toList ns) (hb : ns.length + 1 < scanBound)
    (h : ∀ (h' : Heap) (tk c : Nat), SetR w h' s.heap.objs.size (fun j => decide (j ∈ ns)) c → c ≤ ns.length → (∀ b o, s.heap.get? b = some o → h'.get? b = some o) → Q (.ref s.heap.objs.size) { s with heap := h', toks := tk }) :
    wpAny (model P w) A (call (.type "set") [.ref l]) Q E s := by
  have hsz : its.size = ns.length := by
    have := IntsAre.length hi
    rwa [Array.length_toList] at this
  obtain ⟨c, tl, hmro⟩ := F.called_set.mro
  have m1 := F.called_set.made; have m2 := F.called_set.sub; have m3 := F.called_set.notType; have m4 := F.called_set.canCreate; have m5 := F.typeCall_set_1 (.ref l)
  refine wpAny_call (codeAny_of_tree ?_)
  show wpAny _ _ (callAny (.type "set") _) _ _ _
  refine wpAny_pure ⟨Code.quiet_builtin _ (by decide +kernel), codeAny_builtin F.entry_type_call ?_⟩
  rw [Around.under_plain (weight_type_call_type "set" [.ref l] []) rfl]
  repeat (any_goals (first | assumption | wp_step))
  refine codeAny_mono (code_set_led1 (.ref l) (E := E) (Q₁ := fun x t => x = .ref s.heap.objs.size ∧ t = { s with heap := s.heap.push (voidSet w) }) ⟨rfl, rfl⟩) fun r t hr => ?_
  cases r with
  | error e => exact hr
  | ok fl =>
    cases fl with
    | ret x =>
      obtain ⟨rfl, rfl⟩ := hr
      have g0 : (s.heap.push (voidSet w)).get? s.heap.objs.size = some (voidSet w) := Heap.get?_push_size _ rfl
      have ty : Shared.TypeIs { s with heap := s.heap.push (voidSet w) } (.ref s.heap.objs.size) "set" := ⟨_, g0, rfl⟩
      have m6 := F.called_set.init.lookup
      have m7 := F.called_set.init.bind (.ref s.heap.objs.size)
      repeat (any_goals (first | assumption | wp_step))
      refine codeAny_mono (codeAny_call_builtin (R := wants (fun r t => r = .none ∧ ∃ h' tk c, t = { s with heap := h', toks := tk } ∧ SetR w h' s.heap.objs.size (fun j => decide (j ∈ ns)) c ∧ c ≤ ns.length ∧ (∀ b o, s.heap.get? b = some o → h'.get? b = some o)) E) F.called_set.init.plain F.entry_set_init (check_set_init_1 ty ?_)) fun r2 t2 hr2 => ?_
      · obtain ⟨⟨oc, od, dt, sl⟩, hol, hcl, nl, hdl⟩ := hl
        simp only at hcl hdl
        subst hcl; subst hdl
        have g1 : (s.heap.push (voidSet w)).get? l = some { cls := .type "list", dict := od, data := .seq its nl, slots := sl } := Heap.get?_push_of_some _ hol
        have m8 := F.sub_list_set
        have m9 := F.sub_list_frozenset
        have m10 : (Value.type "list" == Value.type "dict") = false := by decide
        have isl : (s.heap.push (voidSet w)).IsList l its := ⟨_, g1, rfl, nl, rfl⟩
        unfold Builtin.«set.__init__» noKeywords Builtin.Frozenset.updateFrom
        generalize hPI : pyIter = PI
        wp_walk
        subst hPI
        refine wpAny_pyIter_list isl ?_
        refine wpAny_bind (wpAny_runValue ?_)
        have ll : l < s.heap.objs.size := Heap.lt_size hol
        have hh3 : A.in1.in1.in1.handled = none := by simp [hh]
        have zz : (s.heap.push (voidSet w)).objs.size = s.heap.objs.size + 1 := Heap.size_push ..
        have n1 : l ≠ (s.heap.push (voidSet w)).objs.size := by
          rw [zz]
          exact Nat.ne_of_lt (Nat.lt_succ_of_lt ll)
        have n2 : s.heap.objs.size ∉ [(s.heap.push (voidSet w)).objs.size, l] := by
          rw [zz]
          simp only [List.mem_cons, List.not_mem_nil, or_false, not_or]
          exact ⟨Nat.ne_of_lt (Nat.lt_succ_self _), Nat.ne_of_gt ll⟩
        have val : ∀ (i : Nat) (v : Value), its[i]? = some v → ∃ k t, ns[i]? = some k ∧ v = .int k t := fun i v hv => by
          have hlt : i < ns.length := hsz ▸ (Array.getElem?_eq_some_iff.mp hv).1
          obtain ⟨t, e⟩ := PyProof.Rows.IntsAre.int_at hi i v (by rw [Array.getElem?_toList]; exact hv)
          refine ⟨ns[i], t, List.getElem?_eq_getElem hlt, ?_⟩
          rw [e, List.getD_eq_getElem?_getD, List.getElem?_eq_getElem hlt] <;> rfl
        refine set_update_ints ((Walks.list hh3 _ l n1 its).toS) s.heap.objs.size n2 ns hsz hb val (its.size - 0) 0 _ (by omega) (Nat.zero_le _) ⟨⟨_, Heap.get?_push_size _ rfl, rfl, rfl⟩, (isl.push _)⟩ ?hS0 ?hR
        case hS0 =>
          exact ⟨0, Nat.le_refl 0, setR_new_at (Heap.get?_push_of_some _ g0)⟩
        case hR =>
          intro t' c' hm hc' hS'
          obtain ⟨h', g2, d2, tk2, os2⟩ := t'
          obtain rfl : g2 = s.gens := hm.gens
          obtain rfl : d2 = s.drawn := hm.drawn
          obtain rfl : os2 = s.os := hm.os
          show wpAny _ _ _ _ _ _
          refine wpAny_pure ?_
          show wpAny _ _ (ret Value.none) _ _ _
          refine wpAny_pure ⟨rfl, h', tk2, c', rfl, hS', by omega, fun b o e => ?_⟩
          have b0 : b < s.heap.objs.size := Heap.lt_size e
          refine hm.heap b o ?_ (Heap.get?_push_of_some _ (Heap.get?_push_of_some _ e))
          rw [zz]
          simp only [List.mem_cons, List.not_mem_nil, or_false, not_or]
          exact ⟨Nat.ne_of_lt b0, Nat.ne_of_lt (Nat.lt_succ_of_lt b0)⟩
      · cases r2 with
        | error e => exact hr2
        | ok fl2 =>
          cases fl2 with
          | ret v =>
            obtain ⟨rfl, h', tk, c', rfl, hS', hc', hk'⟩ := hr2
            repeat (any_goals (first | assumption | wp_step))
            exact h _ _ _ hS' hc' hk'
          | _ => exact False.elim hr2
    | _ => exact False.elim hr
end
/-- set(xs) of ints -/
def rSetL (K : PySem.W.Frag) (w : World) : List V → Hp → VK → Prop := fun xs H Q => ∃ (l : Addr) (ns : List Int), xs = [V.ref l] ∧ SqL K H l (ns.map V.int) ∧ ns.length ≤ 4000 ∧
  ∀ p c, H p = none → c ≤ ns.length → Q (.ref p) (upd H p (SetO w p (fun j => decide (j ∈ ns)) c))
theorem cr_setL {X : Cx} (hc : X.calm = true) : CallR X (.type "set") (rSetL X.K X.w) := by
  intro pins s σ H xs us Q I r h
  obtain ⟨l, ns, rfl, hl, hf, q⟩ := h
  rw [Vals.ref1 r]
  obtain ⟨its, rv, pl, hz⟩ := I.list hl
  refine set_of_list ns (I.ok.hd hc) pl.isList (by simpa using rv.ints) (by unfold scanBound; omega) fun h' tk c R hcl k => ?_
  exact ⟨.ref s.heap.objs.size, upd H s.heap.objs.size (SetO X.w s.heap.objs.size (fun j => decide (j ∈ ns)) c), I.laid (t' := tk) k (Nat.le_refl _) (setO_new R), rfl, q _ c (I.hok.fresh (Nat.le_refl _)) hcl⟩
end L2.K10

set_option Elab.async false
set_option linter.all false
set_option maxRecDepth 100000
set_option maxHeartbeats 4000000
/-! words compared: == -/
namespace L2.K10
open PySem PySem.Spec PySem.W PyProof.Rows
theorem eqv_Ps : ∀ (l m : Word), PyData.eqvAll (l.map dP) (m.map dP) = decide (l = m)
  | [], [] => by simp [PyData.eqvAll]
  | [], _ :: _ => by simp [PyData.eqvAll]
  | _ :: _, [] => by simp [PyData.eqvAll]
  | p :: l, q :: m => by
    rw [List.map_cons, List.map_cons, PyData.eqvAll, eqv_P, eqv_Ps l m, Bool.eq_iff_iff]
    simp
theorem eqv_W2 (l m : Word) : PyData.eqv (dW l) (dW m) = decide (l = m) := by
  unfold dW
  rw [PyData.eqv, eqv_Ps]
theorem plain_W (l : Word) : (dW l).plain = true := by
  unfold dW
  rw [PyData.plain]
  induction l with
  | nil => rfl
  | cons p r ih => rw [List.map_cons, PyData.plainAll, ih]; rfl
def rEqW : R2 := fun x y H Q => ∃ a b l m, x = .ref a ∧ y = .ref b ∧ IsW H a l ∧ IsW H b m ∧ Q (.bl (decide (l = m))) H
theorem op_eqW {X : Cx} (hu : X.A.units + 64 < cLine) : OpR X (compareOp .Eq) rEqW := by
  intro pins s σ H x y v u Q I rx ry h
  obtain ⟨a, b, l, m, rfl, rfl, ha, hb, q⟩ := h
  obtain rfl : v = Value.ref a := rx
  obtain rfl : u = Value.ref b := ry
  show wpAny _ _ (richCompare .Eq (.ref a) (.ref b)) _ _ s
  have d1 := depth_W l
  refine PySem.SeqAt.rcAt_plain (reads_W I.hok ha) (reads_W I.hok hb) (plain_W l) (plain_W m) (by show X.A.units + _ < _; have : min (dW l).depth (dW m).depth ≤ (dW l).depth := Nat.min_le_left _ _; omega) X.prog X.w _ _ ?_
  rw [eqv_W2]
  exact ⟨.bl _, H, I, rfl, q⟩
end L2.K10

set_option Elab.async false
set_option linter.all false
set_option maxRecDepth 100000
set_option maxHeartbeats 4000000
/-! min of a list of (number, word) -/
namespace L2.K10
open PySem PySem.Spec PySem.W PyProof.Rows
def dNW (e : Nat × Word) : PyData := .tuple [.int (e.1 : Int), dW e.2]
theorem alike_NW (a b : Nat × Word) : alike (dNW a) (dNW b) = true := by
  have h := alike_W a.2 b.2
  simp only [dNW, alike, alikeAll, h, Bool.and_true]
theorem dataLt_NW (a b : Nat × Word) : dataLt (dNW a) (dNW b) = nwLt a b := by
  unfold dNW
  rw [dataLt_tuple]
  show kLt _ _ = _
  rw [kLt_int]
  have h := alike_W a.2 b.2
  have e : kLt [dW a.2] [dW b.2] = wLt a.2 b.2 := by
    unfold kLt
    by_cases q : PyData.eqv (dW a.2) (dW b.2) = true
    · rw [dataLt_all_yes h q]
      rw [eqv_W2] at q
      rw [of_decide_eq_true q]
      exact (show kLt [] [] = wLt b.2 b.2 by rw [kLt_nil, wLt_irr])
    · rw [dataLt_all_no h (by simpa using q), dataLt_W]
  rw [e]
  unfold nwLt
  have h1 : decide ((a.1 : Int) < (b.1 : Int)) = decide (a.1 < b.1) := decide_eq_decide.mpr (by omega)
  have h2 : decide ((a.1 : Int) = (b.1 : Int)) = decide (a.1 = b.1) := decide_eq_decide.mpr (by omega)
  rw [h1, h2]
theorem minD_NW : ∀ (xs : List (Nat × Word)) (x : Nat × Word), minD (dNW x) (xs.map dNW) = dNW (minNW x xs)
  | [], _ => rfl
  | y :: r, x => by
    have ih := minD_NW r (if nwLt y x = true then y else x)
    unfold minD minNW at ih ⊢
    rw [List.map_cons, List.foldl_cons, List.foldl_cons, dataLt_NW, ← ih]
    congr 1
    split <;> rfl
theorem dW_inj {l m : Word} (h : dW l = dW m) : l = m := by
  have := eqv_W2 l m
  rw [h, eqv_W2] at this
  exact of_decide_eq_true (this.symm.trans (decide_eq_true rfl))
theorem dNW_inj {a b : Nat × Word} (h : dNW a = dNW b) : a = b := by
  unfold dNW at h
  injection h with h
  injection h with h1 h2
  injection h1 with h1
  injection h2 with h2
  exact Prod.ext (by omega) (dW_inj h2)
def IsNW (H : Hp) (p : Addr) (e : Nat × Word) : Prop := ∃ wa, H p = some (.tup [nV e.1, .ref wa]) ∧ IsW H wa e.2
theorem IsNW.mono {H H' : Hp} {p : Addr} {e : Nat × Word} (t : TpS H H') (h : IsNW H p e) : IsNW H' p e := let ⟨wa, h1, h2⟩ := h; ⟨wa, t _ _ h1, h2.mono t⟩
theorem reads_NW {P : Program} {w : World} {H : Hp} {h : Heap} {p : Addr} {e : Nat × Word} (ok : HOk P w H h) (x : IsNW H p e) : Reads h (.ref p) (dNW e) [] := by
  obtain ⟨wa, h1, h2⟩ := x
  obtain ⟨_, its, rv, o, ho, hc, n, hd⟩ := (show ObjOk P w H h p (.tup [nV e.1, .ref wa]) from ok p _ h1)
  obtain ⟨u, y, ei, ru, ry⟩ := vals2 rv
  subst ei
  obtain ⟨t1, rfl⟩ := ru
  obtain rfl : y = Value.ref wa := ry
  exact .tuple ho hc hd (.cons (as := []) (bs := []) (.int _ _) (.cons (as := []) (bs := []) (reads_W ok h2) .nil))
theorem reads_NWs {P : Program} {w : World} {H : Hp} {h : Heap} (ok : HOk P w H h) : ∀ {ps : List Addr} {l : List (Nat × Word)}, Paired (IsNW H) ps l → ReadsAll h (ps.map Value.ref) (l.map dNW) []
  | _, _, .nil => .nil
  | _, _, .cons e t => .cons (as := []) (bs := []) (reads_NW ok e) (reads_NWs ok t)
theorem plain_NW (e : Nat × Word) : (dNW e).plain = true := by
  unfold dNW
  rw [PyData.plain, PyData.plainAll, PyData.plainAll, PyData.plainAll, plain_W]
  rfl
theorem depth_NW (e : Nat × Word) : (dNW e).depth ≤ 3 := by
  show PyData.depthAll [.int (e.1 : Int), dW e.2] + 1 ≤ 3
  have := depth_W e.2
  show max (PyData.depth (.int (e.1 : Int))) (max (dW e.2).depth 0) + 1 ≤ 3
  have h : PyData.depth (.int (e.1 : Int)) = 0 := rfl
  omega
theorem depth_NWs : ∀ l : List (Nat × Word), PyData.depthAll (l.map dNW) ≤ 3
  | [] => Nat.zero_le _
  | e :: r => by
    have h1 := depth_NW e
    have h2 := depth_NWs r
    show max (dNW e).depth (PyData.depthAll (r.map dNW)) ≤ 3
    omega
theorem alikeAll_NW (l : List (Nat × Word)) : AlikeAll (l.map dNW) := by
  refine ⟨fun x hx y hy => ?_, fun x hx => ?_⟩
  · obtain ⟨a, _, rfl⟩ := List.mem_map.mp hx
    obtain ⟨b, _, rfl⟩ := List.mem_map.mp hy
    exact alike_NW a b
  · obtain ⟨a, _, rfl⟩ := List.mem_map.mp hx
    exact fun z => nomatch z
def rMinNW (K : PySem.W.Frag) : List V → Hp → VK → Prop := fun xs H Q => ∃ (l : Addr) (ps : List Addr) (x : Nat × Word) (es : List (Nat × Word)), xs = [.ref l] ∧ SqL K H l (ps.map V.ref) ∧ Paired (IsNW H) ps (x :: es) ∧ ∀ p, p ∈ ps → IsNW H p (minNW x es) → Q (.ref p) H
theorem cr_minNW {X : Cx} (hc : X.calm = true) (hu : X.A.units + 64 < cLine) : CallR X (.builtin "min") (rMinNW X.K) := by
  intro pins s σ H xs us Q I r h
  obtain ⟨l, ps, x, es, rfl, hl, hp, q⟩ := h
  obtain ⟨u, rfl, ru⟩ := vals1 r
  obtain rfl : u = Value.ref l := ru
  obtain ⟨its, rv, pl, hz⟩ := I.list hl
  have ei := refs_at rv
  subst ei
  refine min_list_data (x := dNW x) (xs := es.map dNW) (I.ok.hd hc) pl.isList (reads_NWs I.hok hp) (alikeAll_NW (x :: es)) ?_ fun i v h' tk bs hv hr k => ?_
  · have := depth_NWs (x :: es)
    rw [List.map_cons] at this
    omega
  · have hv' : (ps.map Value.ref)[i]? = some v := by simpa using hv
    rw [List.getElem?_map] at hv'
    obtain ⟨p, hp1, rfl⟩ := Option.map_eq_some_iff.mp hv'
    obtain ⟨e, he, hpe⟩ := paired_at hp hp1
    have r1 := reads_NW I.hok hpe
    have r2 := Reads.keeps k r1
    rw [minD_NW] at hr
    have := PySem.SeqAt.plain_unique _ _ _ _ _ (plain_NW e) r2 hr
    have := dNW_inj this
    subst this
    exact ⟨.ref p, H, I.kept k, rfl, q p (List.mem_of_getElem? hp1) hpe⟩
end L2.K10

set_option Elab.async false
set_option linter.all false
set_option maxRecDepth 100000
set_option maxHeartbeats 4000000
namespace L2.K10
open PySem PySem.Spec PyProof.Rows
section
variable {P : Program} {w : World} {K : PySem.W.Frag} {mg : Str → Option Value} {base : Heap}
abbrev nNst : List Str := ["yard", "standing", "asks", "total", "book", "words", "way", "ways", "many", "one", "own"]
theorem scNst : FnScope nNst ["yard", "standing", "asks"] (defScope (top 25)) := ⟨rfl, rfl, rfl, by decide +kernel, rfl, by decide +kernel, by decide +kernel⟩
def spNear' (CB CN : Addr) (T : Tbs) : Sp := fun vs H Q E => ∃ (y a : Addr) (Y : Yd) (s : Sg) (l : Addr) (bs : List Nat) (res : Option Nat) (k : Nat), vs = [.ref y, .ref a, .ref l] ∧ IsY H y Y ∧ IsSg H a s ∧ GS Y s ∧ Tb T H ∧ H l = some (.tup (bs.map nV)) ∧ bs.length ≤ 20 ∧ (∀ b ∈ bs, isBook s (nV b) = true) ∧
  nearR' s.length Y.ties k Y.g bs s 0 = some res ∧ (res = none → ∀ H', Ex T H H' → E (.ref CN) none H') ∧ ∀ t, res = some t → ∀ H', Ex T H H' → Q (nV t) H'
def IsTr (H : Hp) (p : Addr) (f : Sg × Word) : Prop := ∃ wa oa, H p = some (.tup [nV f.2.length, .ref wa, .ref oa]) ∧ IsW H wa f.2
theorem IsTr.mono {H H' : Hp} {p : Addr} {f : Sg × Word} (t : TpS H H') (h : IsTr H p f) : IsTr H' p f := let ⟨wa, oa, h1, h2⟩ := h; ⟨wa, oa, t _ _ h1, h2.mono t⟩
theorem ok_nearest {T : Tbs} {CB CN : Addr} {f : Addr} {fd : FuncData} (M : Mod K mg base T CB CN) (F : FnP K "nearest_slides" 25 f fd) : FnOk P w K mg base (L2.CX P w) 5 f fd ["yard", "standing", "asks"] (spNear' CB CN T) := by
  obtain ⟨fY, fdY, gY, kY, bY, GYd⟩ := M.cYard (P := P) (w := w)
  obtain ⟨fS, fdS, gS, kS, bS, GSt⟩ := M.cStand (P := P) (w := w)
  obtain ⟨fA, fdA, gA, kA, bA, GA⟩ := M.cAsks (P := P) (w := w)
  obtain ⟨fW, fdW, gW, kW, bW, GW⟩ := M.cWords (P := P) (w := w)
  refine F.ok scNst (fun vs H Q E h => ?_) (fun cdv A outer s H vs Q E hr h => ?_)
  · obtain ⟨y, a, Y, s, l, bs, res, k, rfl, _⟩ := h
    rfl
  · obtain ⟨y, a, Y, st, l, bs, res, k, rfl, hY, hS, G, hTb, hx, hxl, hall, hrun, qn, qs⟩ := h
    have hu := hu_of hr
    refine ⟨_, pss_cons (ps_expr (pe_call GYd hr (by rfl) gY kY bY .nil pass0 (pa_cons (pv 0) pa_nil)))
      (pss_cons (ps_expr (pe_call GSt (hr.mono (by decide)) (by rfl) gS kS bS .nil pass0 (pa_cons (pv 0) (pa_cons (pv 1) pa_nil))))
      (pss_cons (ps_expr (pe_call (E := E) GA (hr.mono (by decide)) (by rfl) gA kA bA .nil (passes_call (W := fun cls d _ H => E cls d H) (takes_of rfl rfl rfl rfl) (fun _ _ _ _ h => h)) (pa_cons (pv 1) (pa_cons (pv 2) pa_nil))))
      (pss_cons (ps_set (i := 3) scNst.nd rfl (.inl rfl) pe_int)
      (pss_cons (ps_for (passes_of rfl) rfl (pi_tup (pv 2)) (pg_name (i := 4) scNst.nd rfl (.inr rfl))
        (pss_cons (ps_set (i := 5) scNst.nd rfl (.inl rfl) (pe_call GW (hr.mono (by decide)) (by rfl) gW kW bW .nil pass0 (pa_cons (pv 0) (pa_cons (pv 1) pa_nil))))
        (pss_cons (ps_setLc (i := 7) (own := [("one", 9), ("way", 6)]) (g := gP2 K 9 6) (tt := tTest (tOp rEq (tOp (rIxT K) (tVar 9) (tOp (rIxT K) (tVar 0) (tC (.int 2)))) (tVar 4))) (te := tTup (tCons (tCB (rLen K) (tCons (tVar 6) tNil)) (tCons (tVar 6) (tCons (tVar 9) tNil)))) (by rfl) scNst.nd rfl rfl (sw_true rfl rfl rfl (by decide +kernel)) (pi_ni (pv 5))
            (blkOk_by (own := [("one", 9), ("way", 6)]) (N := nNst) (sc := defScope (top 25)) (by decide +kernel))
            (fun _ _ _ _ _ => pg_tup (by rfl) (pgs_cons (pg_name (i := 9) scNst.nd rfl (.inl rfl)) (pgs_cons (pg_name (i := 6) scNst.nd rfl (.inl rfl)) pgs_nil)))
            (fun _ _ _ _ _ => pts_one (pt_cmpR op_eq (pe_ix ix_tup (pv 9) (pe_ix ix_tup (pv 0) pe_int (fun _ _ => rfl)) (fun _ _ => rfl)) (pv 4) (nomark _)))
            (fun _ _ _ _ _ => pe_tup (pa_cons (pe_callB call_len (by rfl) M.no boot_len (pa_cons (pv 6) pa_nil)) (pa_cons (pv 6) (pa_cons (pv 9) pa_nil)))))
        (pss_cons (ps_if (pt_not (pt_truth (pv 7) (fun _ => rfl))) (pss_one (ps_raise0 (W := fun cls d _ H => E cls d H) rfl (takes_of rfl rfl rfl rfl) M.noway (by rfl))) pss_nil)
        (pss_cons (ps_asg (pe_callB (cr_minNW (by rfl) hr.units) (by rfl) M.no (by decide +kernel) (pa_cons
            (pe_lc (own := [("many", 8), ("way", 6), ("one", 9)]) (g := gTup K 3 (gCons (gName 8) (gCons (gName 6) (gCons (gName 9) gNil)))) (tt := tYes) (te := tTup (tCons (tVar 8) (tCons (tVar 6) tNil))) (by rfl) scNst.nd (pi_list (pv 7))
              (blkOk_by (own := [("many", 8), ("way", 6), ("one", 9)]) (N := nNst) (sc := defScope (top 25)) (by decide +kernel))
              (fun _ _ _ _ _ => pg_tup (by rfl) (pgs_cons (pg_name (i := 8) scNst.nd rfl (.inl rfl)) (pgs_cons (pg_name (i := 6) scNst.nd rfl (.inl rfl)) (pgs_cons (pg_name (i := 9) scNst.nd rfl (.inl rfl)) pgs_nil))))
              (fun _ _ _ _ _ => pts_nil) (fun _ _ _ _ _ => pe_tup (pa_cons (pv 8) (pa_cons (pv 6) pa_nil)))) pa_nil)) (pg_tup (by rfl) (pgs_cons (pg_name (i := 8) scNst.nd rfl (.inl rfl)) (pgs_cons (pg_name (i := 6) scNst.nd rfl (.inr rfl)) pgs_nil))))
        (pss_cons (ps_set (i := 1) scNst.nd rfl (.inl rfl) (pe_ix ix_list
            (pe_lc (own := [("one", 9), ("own", 10)]) (g := gP2 K 9 10) (tt := tTest (tOp rEqW (tVar 10) (tVar 6))) (te := tVar 9) (by rfl) scNst.nd (pi_ni (pv 5))
              (blkOk_by (own := [("one", 9), ("own", 10)]) (N := nNst) (sc := defScope (top 25)) (by decide +kernel))
              (fun _ _ _ _ _ => pg_tup (by rfl) (pgs_cons (pg_name (i := 9) scNst.nd rfl (.inl rfl)) (pgs_cons (pg_name (i := 10) scNst.nd rfl (.inl rfl)) pgs_nil)))
              (fun _ _ _ _ _ => pts_one (pt_cmpR (op_eqW hr.units) (pv 10) (pv 6) (nomark _))) (fun _ _ _ _ _ => pv 9)) pe_int (fun _ _ => rfl)))
        (pss_one (ps_aug (i := 3) scNst.nd rfl (.inl rfl) (pv 8) ip_add))))))))
      (pss_one (ps_ret (pv 3))))))), ?_⟩
    simp only [cxp, cxw, cxk, cxp', cxw', cxk']
    refine ⟨_, rfl, y, Y, rfl, hY, G.gy, G.t20, hTb, fun H1 e1 => ?_⟩
    have hY1 := hY.mono e1.tps
    have hS1 := hS.mono e1.tps
    refine ⟨_, rfl, _, rfl, y, a, Y, st, rfl, hY1, hS1, G.len, G.l20, G.hole, G.bk, G.nd, G.lt, e1.tab hTb, fun H2 e2 => ?_⟩
    have e12 := e1.trans e2
    have hS2 := hS.mono e12.tps
    refine ⟨_, rfl, _, rfl, a, st, .ref l, rfl, hS2, G.l20, .inr ⟨l, bs.map nV, rfl, e12.keep _ _ hx own_tup.1, by rw [List.length_map]; exact hxl, fun x hx => ?_, fun _ => ?_, fun hex => ?_⟩⟩
    · obtain ⟨b, _, rfl⟩ := List.mem_map.mp hx
      exact .int _
    · have e3 := e12
      refine ⟨_, rfl, l, rfl, ⟨_, .of (e3.keep _ _ hx own_tup.1)⟩, for_tup (xs := bs.map nV) (fun i σ Hx => ∃ b z4 z5 z6 z7 z8 s t, σ = [some (.ref y), some (.ref b), some (.ref l), some (nV t), z4, z5, z6, z7, z8, none, none] ∧ Ex T H Hx ∧ IsSg Hx b s ∧ s.length = st.length ∧ nearR' st.length Y.ties k Y.g (bs.drop i) s t = some res)
        ⟨a, none, none, none, none, none, st, 0, rfl, e3, hS2, rfl, hrun⟩ (fun i σ Hx _ ⟨_, _, _, _, _, _, _, _, _, e, _⟩ => .of (e.keep _ _ hx own_tup.1)) (fun i x σ Hx hxi hP => ?_) (fun σ Hx hP => ?_)⟩
      · obtain ⟨b, z4, z5, z6, z7, z8, s, t, rfl, e4, hb4, hl4, hf⟩ := hP
        rw [List.getElem?_map] at hxi
        obtain ⟨b0, hb0, rfl⟩ := Option.map_eq_some_iff.mp hxi
        have hdr : bs.drop i = b0 :: bs.drop (i + 1) := by
          obtain ⟨hi, e⟩ := List.getElem?_eq_some_iff.mp hb0
          rw [List.drop_eq_getElem_cons hi, e]
        rw [hdr] at hf
        obtain ⟨R, hR, hcase⟩ := nearR_cons hf
        obtain ⟨hpr, hRl, hRk⟩ := wFrom_some hR
        refine ⟨_, rfl, _, rfl, y, b, Y, s, k, R, rfl, hY.mono e4.tps, hb4, by rw [hl4]; exact G.ties, G.t20, by rw [hl4]; exact G.l20, hpr, hRl, by rw [hl4]; exact hRk, e4.tab hTb, fun H5 r e5 nr hr5 => ?_⟩
        have e45 := e4.trans e5
        obtain ⟨xR, epR, hr5, pR⟩ := hr5
        have lR : xR.length = R.length := Paired.length pR
        obtain ⟨tt, hY5, _⟩ := hY.mono e45.tps
        refine ⟨_, rfl, r, xR, epR, rfl, hr5, fun D nD => ?_⟩
        refine lc_it walk_ni (fun j H10 => ∃ ps : List Addr, Ex T H5 H10 ∧ H10 D = some (.lst (ps.map V.ref)) ∧ Paired (IsTr H10) ps ((R.take j).filter (wayAt Y.g b0)))
          ⟨[], ex_new nD, upd_same, .nil⟩ (fun j H10 _ ⟨_, e10, _⟩ => e10.keep _ _ hr5 own_sd.1) (fun j x H10 H11 hj hP hy => ?_) (fun H10 hP => ?_)
        · obtain ⟨ps, e10, hD10, hps⟩ := hP
          obtain ⟨T1, kk, fa, v, hx2, rfl, nT, rfl⟩ := hy
          obtain ⟨f, hf2, hfk, hfa, hfv⟩ := paired_at pR hx2
          simp only at hfk hfa hfv
          subst hfk
          obtain ⟨wa, rfl, hwa⟩ := hfv
          obtain ⟨hfl, hfw⟩ := hRk f (List.mem_of_getElem? hf2)
          have exT := ex_new (T := T) (o := .tup [.ref fa, .ref wa]) nT
          have e11 := e10.trans exT
          have hD11 := exT.keep _ _ hD10 own_lst.1
          have hps11 : Paired (IsTr _) ps _ := Paired.mapP hps fun _ _ => IsTr.mono exT.tps
          refine ⟨T1, _, rfl, .of upd_same, rfl, _, _, rfl, _, _, rfl, rfl, ?_⟩
          generalize upd H10 T1 (.tup [.ref fa, .ref wa]) = H11 at e11 hD11 hps11 ⊢
          have hglt : Y.g < f.1.length := by rw [hfl, G.len]; exact G.gy.g
          refine ⟨rfl, _, rfl, _, rfl, y, _, _, _, rfl, rfl, .of (e11.keep _ _ hY5 own_tup.1), atI_nat (j := 2) rfl, fa, _, _, _, rfl, rfl, .of (hfa.mono e11.tps), atI_nat (oV_at hglt), _, rfl, ?_, _, rfl, ?_⟩
          · cases f.1.getD Y.g none <;> rfl
          · have hdec : decide (oV (f.1.getD Y.g none) = nV b0) = wayAt Y.g b0 f := by
              unfold wayAt
              exact decide_eq_decide.mpr ⟨fun h => oV_inj (b := some b0) h, fun h => by rw [h]; rfl⟩
            rw [hdec]
            obtain ⟨as, hw1, hw2⟩ := hwa.mono e11.tps
            have hwl := Paired.length hw2
            have hpl := Paired.length hps11
            have hle : ((R.take j).filter (wayAt Y.g b0)).length ≤ R.length := Nat.le_trans (List.length_filter_le _ _) (by rw [List.length_take]; omega)
            cases hb2 : wayAt Y.g b0 f with
            | false =>
              refine ⟨ps, e11, hD11, ?_⟩
              rw [List.take_add_one, hf2, List.filter_append]
              simp only [Option.toList, List.filter_cons, hb2, List.filter_nil, List.append_nil, Bool.false_eq_true, if_false]
              exact hps11
            | true =>
              refine ⟨_, rfl, .ref wa, (as.map V.ref).length, rfl, .inr ⟨_, .of hw1, rfl⟩, _, rfl, _, rfl, by show 3 ≤ sizeLine; decide, fun t2 nt2 => ⟨_, by rw [upd_ne (ne_of_none hD11 nt2)]; exact hD11, small32 (by rw [List.length_map]; omega), ?_⟩⟩
              have e12' := e11.trans (ex_new (o := .tup [.int ((as.map V.ref).length : Nat), .ref wa, .ref fa]) nt2)
              have t12 := tps_new (o := .tup [.int ((as.map V.ref).length : Nat), .ref wa, .ref fa]) nt2
              have hD12 : upd H11 t2 (.tup [.int ((as.map V.ref).length : Nat), .ref wa, .ref fa]) D = some (.lst (ps.map V.ref)) := by rw [upd_ne (ne_of_none hD11 nt2)]; exact hD11
              have tw := tps_write (o := HO.lst (ps.map V.ref ++ [V.ref t2])) hD12 (fun _ z => nomatch z)
              refine ⟨ps ++ [t2], e12'.write nD hD12 own_lst, by rw [upd_same, List.map_append]; rfl, ?_⟩
              rw [List.take_add_one, hf2, List.filter_append]
              simp only [Option.toList, List.filter_cons, hb2, List.filter_nil, if_true]
              refine Paired.snoc (Paired.mapP hps11 fun _ _ => IsTr.mono (t12.trans tw)) ⟨wa, fa, tw _ _ ?_, hwa.mono ((e11.tps.trans t12).trans tw)⟩
              rw [upd_same, List.length_map, hwl]
              rfl
        · obtain ⟨ps, e10, hD10, hps⟩ := hP
          rw [lR, List.take_length] at hps
          have hpl := Paired.length hps
          have hle : (R.filter (wayAt Y.g b0)).length ≤ R.length := List.length_filter_le _ _
          have e410 := e45.trans e10
          refine ⟨_, rfl, !(ps.map V.ref).isEmpty, .inl ⟨_, .of hD10, rfl⟩, ?_⟩
          rcases hcase with ⟨h0, hres⟩ | ⟨x, xs, f, fs, hxs, hfs, hf'⟩
          · have hp0 : ps = [] := List.eq_nil_of_length_eq_zero (by rw [hpl, h0]; rfl)
            rw [hp0]
            exact qn hres _ e410
          · have hne : (!(ps.map V.ref).isEmpty) = true := by
              cases ps with
              | nil =>
                have : (R.filter (wayAt Y.g b0)) = [] := List.eq_nil_of_length_eq_zero hpl.symm
                rw [this] at hxs
                cases hxs
              | cons _ _ => rfl
            rw [hne]
            -- min([(many, way) for many, way, one in ways])
            refine ⟨_, rfl, D, rfl, ⟨_, .of hD10⟩, fun D2 nD2 => ?_⟩
            refine lc_list (xs := ps.map V.ref) (fun j H12 => ∃ qs : List Addr, Ex T H10 H12 ∧ H12 D2 = some (.lst (qs.map V.ref)) ∧ Paired (IsNW H12) qs (((R.filter (wayAt Y.g b0)).take j).map fun f => (f.2.length, f.2)))
              ⟨[], ex_new nD2, upd_same, .nil⟩ (fun j H12 _ ⟨_, e12, _⟩ => .of (e12.keep _ _ hD10 own_lst.1)) (fun j x2 H12 hx2 hP => ?_) (fun H12 hP => ?_)
            · obtain ⟨qs2, e12, hD12, hq12⟩ := hP
              rw [List.getElem?_map] at hx2
              obtain ⟨p, hp1, rfl⟩ := Option.map_eq_some_iff.mp hx2
              obtain ⟨f2, hf2, wa, oa, hp2, hwa⟩ := paired_at hps hp1
              refine ⟨p, _, rfl, .of (e12.keep _ _ hp2 own_tup.1), rfl, _, _, rfl, _, _, rfl, _, _, rfl, rfl, rfl, _, rfl, _, rfl, by show 2 ≤ sizeLine; decide, fun t2 nt2 => ⟨_, by rw [upd_ne (ne_of_none hD12 nt2)]; exact hD12, small32 ?_, ?_⟩⟩
              · have := Paired.length hq12
                rw [List.length_map, List.length_take] at this
                rw [List.length_map]
                omega
              · have t12 := tps_new (o := .tup [nV f2.2.length, .ref wa]) nt2
                have hD13 : upd H12 t2 (.tup [nV f2.2.length, .ref wa]) D2 = some (.lst (qs2.map V.ref)) := by rw [upd_ne (ne_of_none hD12 nt2)]; exact hD12
                have tw := tps_write (o := HO.lst (qs2.map V.ref ++ [V.ref t2])) hD13 (fun _ z => nomatch z)
                refine ⟨qs2 ++ [t2], (e12.trans (ex_new nt2)).write nD2 hD13 own_lst, by rw [upd_same, List.map_append]; rfl, ?_⟩
                rw [List.take_add_one, hf2, List.map_append]
                exact Paired.snoc (Paired.mapP hq12 fun _ _ => IsNW.mono (t12.trans tw)) ⟨wa, tw _ _ upd_same, hwa.mono ((e12.tps.trans t12).trans tw)⟩
            · obtain ⟨qs2, e12, hD12, hq12⟩ := hP
              rw [List.length_map, hpl, List.take_length, hxs] at hq12
              refine ⟨D2, qs2, x, xs, rfl, .of hD12, hq12, fun p hpm hpn => ?_⟩
              obtain ⟨wa, hp3, hwa⟩ := hpn
              refine ⟨p, _, rfl, .of hp3, rfl, _, _, rfl, _, _, rfl, rfl, ?_⟩
              have e412 := e410.trans e12
              have e512 := e10.trans e12
              have hr12 := e512.keep _ _ hr5 own_sd.1
              have pR12 := er_mono e512.tps (RW.mono e512.tps) pR
              -- standing = [one for one, own in words.items() if own == way][0]
              refine ⟨_, rfl, r, xR, epR, rfl, hr12, fun D3 nD3 => ?_⟩
              refine lc_it walk_ni (fun j H14 => ∃ os : List Addr, Ex T H12 H14 ∧ H14 D3 = some (.lst (os.map V.ref)) ∧ Paired (fun (o : Addr) (f : Sg × Word) => IsSg H14 o f.1) os ((R.take j).filter fun f : Sg × Word => decide (f.2 = (minNW x xs).2)))
                ⟨[], ex_new nD3, upd_same, .nil⟩ (fun j H14 _ ⟨_, e14, _⟩ => e14.keep _ _ hr12 own_sd.1) (fun j x2 H14 H15 hj hP hy => ?_) (fun H14 hP => ?_)
              · obtain ⟨os, e14, hD14, hos⟩ := hP
                obtain ⟨T3, kk, fa, v, hx3, rfl, nT3, rfl⟩ := hy
                obtain ⟨f3, hf3, hfk, hfa, hfv⟩ := paired_at pR12 hx3
                simp only at hfk hfa hfv
                subst hfk
                obtain ⟨wa3, rfl, hwa3⟩ := hfv
                have exT := ex_new (T := T) (o := .tup [.ref fa, .ref wa3]) nT3
                have e15 := e14.trans exT
                have hD15 := exT.keep _ _ hD14 own_lst.1
                have hos15 := Paired.mapP hos fun (_ : Addr) (_ : Sg × Word) => IsSg.mono exT.tps
                have hw15 := hwa.mono e15.tps
                have hw315 := hwa3.mono e15.tps
                have hfa15 := hfa.mono e15.tps
                refine ⟨T3, _, rfl, .of upd_same, rfl, _, _, rfl, _, _, rfl, rfl, ?_⟩
                generalize upd H14 T3 (.tup [.ref fa, .ref wa3]) = H15 at e15 hD15 hos15 hw15 hw315 hfa15 ⊢
                refine ⟨rfl, _, rfl, _, rfl, wa3, wa, f3.2, (minNW x xs).2, rfl, rfl, hw315, hw15, ?_⟩
                refine ⟨_, rfl, ?_⟩
                have hf3m := List.mem_of_getElem? hf3
                cases hd : decide (f3.2 = (minNW x xs).2) with
                | true =>
                  refine ⟨_, rfl, _, hD15, small32 ?_, ?_⟩
                  · have h1 := Paired.length hos15
                    have h2 := List.length_filter_le (fun f : Sg × Word => decide (f.2 = (minNW x xs).2)) (R.take j)
                    rw [List.length_take] at h2
                    rw [List.length_map]
                    omega
                  · have tw := tps_write (o := HO.lst (os.map V.ref ++ [V.ref fa])) hD15 (fun _ z => nomatch z)
                    refine ⟨os ++ [fa], e15.write nD3 hD15 own_lst, by rw [upd_same, List.map_append]; rfl, ?_⟩
                    rw [List.take_add_one, hf3, List.filter_append]
                    simp only [Option.toList, List.filter_cons, hd, List.filter_nil, if_true]
                    exact Paired.snoc (Paired.mapP hos15 fun (_ : Addr) (_ : Sg × Word) => IsSg.mono tw) (hfa15.mono tw)
                | false =>
                  refine ⟨os, e15, hD15, ?_⟩
                  rw [List.take_add_one, hf3, List.filter_append]
                  simp only [Option.toList, List.filter_cons, hd, List.filter_nil, List.append_nil, Bool.false_eq_true, if_false]
                  exact hos15
              · obtain ⟨os, e14, hD14, hos⟩ := hP
                rw [lR, List.take_length, hfs] at hos
                cases hos with
                | @cons o1 _ ot _ h1 ht =>
                  refine ⟨D3, V.ref o1 :: ot.map V.ref, 0, _, rfl, rfl, .of hD14, atI_nat (j := 0) rfl, ?_⟩
                  refine ⟨_, rfl, _, rfl, _, _, rfl, rfl, ?_⟩
                  have hfm : f ∈ R := (List.mem_filter.mp (by rw [hfs]; exact List.mem_cons_self : f ∈ R.filter fun f => decide (f.2 = (minNW x xs).2))).1
                  exact ⟨o1, _, _, _, _, _, f.1, t + (minNW x xs).1, rfl, e412.trans e14, h1, (hRk f hfm).1, hf'⟩
      · obtain ⟨b, z4, z5, z6, z7, z8, s, t, rfl, e4, hb4, hl4, hf⟩ := hP
        rw [List.length_map, List.drop_length] at hf
        exact ⟨_, rfl, qs t (Option.some.inj hf).symm _ e4⟩
    · obtain ⟨x, hx, hbx⟩ := hex
      obtain ⟨b, hb, rfl⟩ := List.mem_map.mp hx
      rw [hall b hb] at hbx
      cases hbx
end
end L2.K10

set_option Elab.async false
set_option linter.all false
set_option maxRecDepth 100000
set_option maxHeartbeats 4000000
namespace L2.K10
open PySem PySem.Spec PyProof.Rows
def kvN (F : List (Nat × Nat)) : List (Key × V) := F.map fun e => (Sum.inl (e.1 : Int), nV e.2)
theorem kvN_get (F : List (Nat × Nat)) (b : Nat) : valV (kvN F) (.inl (b : Int)) = (kGet F b).map nV := by
  induction F with
  | nil => rfl
  | cons e r ih =>
    by_cases h : e.1 = b
    · rw [kvN, List.map_cons, valV_pos (by rw [h])]
      simp [kGet, h]
    · rw [kvN, List.map_cons, valV_neg (fun z => h (by injection z with z; omega))]
      have : kGet (e :: r) b = kGet r b := by simp [kGet, h]
      rw [this]
      exact ih
theorem kvN_put (F : List (Nat × Nat)) (b n : Nat) : putK (kvN F) (.inl (b : Int)) (nV n) = kvN (kPut F b n) := by
  have h : ((kvN F).any fun kv => decide (kv.1 = (.inl (b : Int) : Key))) = F.any fun e => decide (e.1 = b) := by
    unfold kvN
    rw [List.any_map]
    congr 1
    funext e
    show decide ((Sum.inl (e.1 : Int) : Key) = .inl (b : Int)) = decide (e.1 = b)
    exact decide_eq_decide.mpr ⟨fun z => by injection z with z; omega, fun z => by rw [z]⟩
  unfold putK kPut
  rw [h]
  split
  · unfold kvN
    rw [List.map_map, List.map_map]
    refine List.map_congr_left fun e _ => ?_
    show (if (Sum.inl (e.1 : Int) : Key) = .inl (b : Int) then ((Sum.inl (e.1 : Int) : Key), nV n) else (Sum.inl (e.1 : Int), nV e.2)) = (Sum.inl (((if e.1 = b then (e.1, n) else e).1 : Nat) : Int), nV (if e.1 = b then (e.1, n) else e).2)
    by_cases z : e.1 = b
    · rw [if_pos (by rw [z]), if_pos z]
    · rw [if_neg (fun q => z (by injection q with q; omega)), if_neg z]
  · unfold kvN
    rw [List.map_append]
    rfl
section
variable {P : Program} {w : World} {K : PySem.W.Frag} {mg : Str → Option Value} {base : Heap}
abbrev nFar : List Str := ["yard", "standing", "words", "found", "one", "way", "book", "books"]
theorem scFar : FnScope nFar ["yard", "standing"] (defScope (top 26)) := ⟨rfl, rfl, rfl, by decide +kernel, rfl, by decide +kernel, by decide +kernel⟩
def spFar (T : Tbs) : Sp := fun vs H Q _ => ∃ (y a : Addr) (Y : Yd) (s : Sg) (n : Nat) (R : List (Sg × Word)), vs = [.ref y, .ref a] ∧ IsY H y Y ∧ IsSg H a s ∧ GS Y s ∧ Tb T H ∧ pRun Y.ties n [(s, [])] [s] = some R ∧ R.length ≤ 500 ∧ (∀ f ∈ R, f.1.length = s.length ∧ f.2.length ≤ 500) ∧
  ((farF Y.g R).length = (bksM s).length → ∀ m H', m ∈ (farF Y.g R).map (·.2) → (∀ j ∈ (farF Y.g R).map (·.2), j ≤ m) → Ex T H H' → Q (nV m) H') ∧ ((farF Y.g R).length ≠ (bksM s).length → ∀ H', Ex T H H' → Q .non H')
theorem ok_far {T : Tbs} {CB CN : Addr} {f : Addr} {fd : FuncData} (M : Mod K mg base T CB CN) (F : FnP K "farthest_ask" 26 f fd) : FnOk P w K mg base CX0 5 f fd ["yard", "standing"] (spFar T) := by
  obtain ⟨fY, fdY, gY, kY, bY, GYd⟩ := M.cYard (P := P) (w := w)
  obtain ⟨fS, fdS, gS, kS, bS, GSt⟩ := M.cStand (P := P) (w := w)
  obtain ⟨fW, fdW, gW, kW, bW, GW⟩ := M.cWords (P := P) (w := w)
  refine F.ok scFar (fun vs H Q E h => ?_) (fun cdv A outer s H vs Q E hr h => ?_)
  · obtain ⟨y, a, Y, s, n, R, rfl, _⟩ := h
    rfl
  · obtain ⟨y, a, Y, st, n, R, rfl, hY, hS, G, hTb, hrun, hRl, hRw, q1, q2⟩ := h
    have hu := hu_of hr
    refine ⟨_, PSs.nox (pss_cons (ps_expr (pe_call GYd hr (by rfl) gY kY bY .nil pass0 (pa_cons (pv 0) pa_nil)))
      (pss_cons (ps_expr (pe_call GSt (hr.mono (by decide)) (by rfl) gS kS bS .nil pass0 (pa_cons (pv 0) (pa_cons (pv 1) pa_nil))))
      (pss_cons (ps_par (i := 2) (j := 3) (by rfl) scFar.nd rfl rfl (by decide) rfl rfl (pa_cons (pe_call GW (hr.mono (by decide)) (by rfl) gW kW bW .nil pass0 (pa_cons (pv 0) (pa_cons (pv 1) pa_nil))) (pa_cons pe_dnewK pa_nil)) (by rfl))
      (pss_cons (ps_for PassesOwn.never rfl (pi_ni (pv 2)) (pg_tup (by rfl) (pgs_cons (pg_name (i := 4) scFar.nd rfl (.inl rfl)) (pgs_cons (pg_name (i := 5) scFar.nd rfl (.inl rfl)) pgs_nil)))
        (pss_cons (ps_set (i := 6) scFar.nd rfl (.inl rfl) (pe_ix ix_tup (pv 4) (pe_ix ix_tup (pv 0) pe_int (fun _ _ => rfl)) (fun _ _ => rfl)))
        (pss_one (ps_if (pt_cmp (pc_notN (pv 6)))
          (pss_one (ps_dput hu (pv 3) (pv 6) (pe_callB (call_min2 (by rfl)) (by rfl) M.no (by decide +kernel) (pa_cons (pe_dget2 hu (pv 3) (pv 6) (pe_callB call_len (by rfl) M.no boot_len (pa_cons (pv 5) pa_nil)) ⟨rfl, rfl, rfl, rfl⟩) (pa_cons (pe_callB call_len (by rfl) M.no boot_len (pa_cons (pv 5) pa_nil)) pa_nil))) (by intros; rfl))) pss_nil))))
      (pss_cons (ps_setLc (i := 7) (own := [("book", 6)]) (g := gName 6) (tt := tB (tNotN (tVar 6))) (te := tVar 6) (by rfl) scFar.nd rfl rfl (sw_true rfl rfl rfl (by decide +kernel)) (pi_tup (pv 1)) (blkOk_by (own := [("book", 6)]) (N := nFar) (sc := defScope (top 26)) (by decide +kernel))
          (fun _ _ _ _ _ => pg_name (i := 6) scFar.nd rfl (.inl rfl)) (fun _ _ _ _ _ => pts_one (pt_cmp (pc_notN (pv 6)))) (fun _ _ _ _ _ => pv 6))
      (pss_one (ps_ret (pe_ifExp (pt_cmpR op_eq (pe_callB call_lenD (by rfl) M.no boot_len (pa_cons (pv 3) pa_nil)) (pe_callB call_len (by rfl) M.no boot_len (pa_cons (pv 7) pa_nil)) (nomark _))
        (pe_maxV (by rfl) (by rfl) M.no (pv 3)) pe_non)))))))), ?_⟩
    simp only [cxp, cxw, cxk, cxp', cxw', cxk']
    refine ⟨_, rfl, y, Y, rfl, hY, G.gy, G.t20, hTb, fun H1 e1 => ?_⟩
    have hY1 := hY.mono e1.tps
    have hS1 := hS.mono e1.tps
    refine ⟨_, rfl, _, rfl, y, a, Y, st, rfl, hY1, hS1, G.len, G.l20, G.hole, G.bk, G.nd, G.lt, e1.tab hTb, fun H2 e2 => ?_⟩
    have e12 := e1.trans e2
    have hY2 := hY.mono e12.tps
    have hS2 := hS.mono e12.tps
    refine ⟨_, rfl, _, rfl, y, a, Y, st, n, R, rfl, hY2, hS2, G.ties, G.t20, G.l20, hrun, hRl, hRw, e12.tab hTb, fun H3 r e3 nr hr3 => ?_⟩
    have e13 := e12.trans e3
    refine fun d nd => ⟨_, _, rfl, ?_⟩
    have ex4 := ex_new (T := T) (o := .dK []) nd
    have e4 := e13.trans ex4
    have nH : H d = none := e13.free _ nd
    obtain ⟨xR, epR, hr4, pR⟩ := hr3.mono ex4
    have lR : xR.length = R.length := Paired.length pR
    have hd4 : upd H3 d (.dK []) d = some (.dK (kvN [])) := upd_same
    generalize upd H3 d (.dK []) = H4 at e4 hr4 pR hd4 ⊢
    refine ⟨_, rfl, r, xR, epR, rfl, hr4, for_it walk_ni (fun i σ Hx => ∃ z4 z5 z6, σ = [some (.ref y), some (.ref a), some (.ref r), some (.ref d), z4, z5, z6, none] ∧ Ex T H Hx ∧ TpS H4 Hx ∧ Hx r = some (sdO P w r xR epR) ∧ Hx d = some (.dK (kvN ((R.take i).foldl (farStep Y.g) []))))
      ⟨none, none, none, rfl, e4, .refl, hr4, hd4⟩ (fun i σ Hx _ ⟨_, _, _, _, _, _, h, _⟩ => h) (fun i x σ Hx Hx' hi hP hy => ?_) (fun σ Hx hP => ?_)⟩
    · obtain ⟨z4, z5, z6, rfl, e5, t5, hr5, hd5⟩ := hP
      obtain ⟨T1, kk, fa, v, hx, rfl, nT, rfl⟩ := hy
      obtain ⟨f, hf, hfk, hfa, hfv⟩ := paired_at pR hx
      simp only at hfk hfa hfv
      subst hfk
      obtain ⟨wa, rfl, hwa⟩ := hfv
      obtain ⟨hfl, hfw⟩ := hRw f (List.mem_of_getElem? hf)
      have exT := ex_new (T := T) (o := .tup [.ref fa, .ref wa]) nT
      have e6 := e5.trans exT
      have t6 := t5.trans exT.tps
      have hr6 := exT.keep _ _ hr5 own_sd.1
      have hd6 := exT.keep _ _ hd5 own_dK.1
      refine ⟨T1, _, rfl, .of upd_same, rfl, _, _, rfl, _, _, rfl, rfl, ?_⟩
      generalize upd Hx T1 (.tup [.ref fa, .ref wa]) = H6 at e6 t6 hr6 hd6 ⊢
      obtain ⟨tt, hYa, _⟩ := hY.mono e6.tps
      have hglt : Y.g < f.1.length := by rw [hfl, G.len]; exact G.gy.g
      refine ⟨_, rfl, _, rfl, y, _, _, _, rfl, rfl, .of hYa, atI_nat (j := 2) rfl, fa, _, _, _, rfl, rfl, .of (hfa.mono t6), atI_nat (oV_at hglt), ?_⟩
      refine ⟨_, rfl, _, rfl, ?_⟩
      have hst : (R.take (i + 1)).foldl (farStep Y.g) [] = farStep Y.g ((R.take i).foldl (farStep Y.g) []) f := by
        rw [List.take_add_one, hf, List.foldl_append]
        rfl
      rw [hst]
      have hlen := farF_len Y.g R i
      rw [lR] at hi
      cases hb : f.1.getD Y.g none with
      | none =>
        refine iteF ⟨_, _, _, rfl, e6, t6, hr6, ?_⟩
        unfold farStep
        rw [hb]
        exact hd6
      | some b =>
        obtain ⟨as, hw1, hw2⟩ := hwa.mono t6
        have hwl := Paired.length hw2
        refine iteT ?_
        have hv : (valV (kvN ((R.take i).foldl (farStep Y.g) [])) (.inl (b : Int))).getD (.int ((as.map V.ref).length : Nat)) = .int (((kGet ((R.take i).foldl (farStep Y.g) []) b).getD f.2.length : Nat) : Int) := by
          rw [kvN_get, List.length_map, hwl]
          cases kGet ((R.take i).foldl (farStep Y.g) []) b <;> rfl
        refine ⟨_, rfl, d, rfl, .inl ⟨_, .inl hd6⟩, _, rfl, _, rfl, .ref wa, (as.map V.ref).length, rfl, .inr ⟨_, .of hw1, rfl⟩, _, DGet.k (k := .inl (b : Int)) hd6, _, rfl, .ref wa, (as.map V.ref).length, rfl, .inr ⟨_, .of hw1, rfl⟩, _, _, by rw [hv], ?_⟩
        refine ⟨_, rfl, _, rfl, d, _, rfl, DPut.k (k := .inl (b : Int)) hd6 (small32 (by unfold kvN; rw [List.length_map]; omega)), _, _, _, rfl, e6.write nH hd6 own_dK, t6.trans (tps_write hd6 fun _ z => nomatch z), ?_, ?_⟩
        · rw [upd_ne fun zz => by rw [zz, hd6] at hr6; cases hr6]
          exact hr6
        · rw [upd_same]
          have hmin : (V.int (if ((as.map V.ref).length : Int) < ((kGet ((R.take i).foldl (farStep Y.g) []) b).getD f.2.length : Nat) then ((as.map V.ref).length : Int) else ((kGet ((R.take i).foldl (farStep Y.g) []) b).getD f.2.length : Nat))) = nV (min ((kGet ((R.take i).foldl (farStep Y.g) []) b).getD f.2.length) f.2.length) := by
            rw [List.length_map, hwl]
            unfold nV
            congr 1
            split <;> omega
          rw [hmin, kvN_put]
          unfold farStep
          rw [hb]
    · obtain ⟨z4, z5, z6, rfl, e5, t5, hr5, hd5⟩ := hP
      rw [lR, List.take_length] at hd5
      refine ⟨_, rfl, a, rfl, ⟨_, .of (hS.mono e5.tps)⟩, fun D nD => ?_⟩
      refine lc_tupG (fun i => (bksM (st.take i)).map nV) (.of (hS.mono e5.tps)) nD rfl (fun i x hx => ?_) ?_
      · rw [List.getElem?_map] at hx
        obtain ⟨z, hz, rfl⟩ := Option.map_eq_some_iff.mp hx
        refine ⟨rfl, _, rfl, _, rfl, ?_⟩
        cases z with
        | none =>
          refine iteF ?_
          rw [bks_take, hz]
          simp
        | some m =>
          refine iteT ⟨_, rfl, _, upd_same, ?_, ?_⟩
          · refine small32 ?_
            rw [List.length_map]
            have h3 := List.length_filterMap_le id (st.take i)
            have h5 := List.length_take_le' i st
            have := G.l20
            show (List.filterMap id (st.take i)).length ≤ 100000
            omega
          · rw [upd_upd, bks_take, hz]
            simp
            rfl
      · rw [List.length_map, List.take_length]
        have e6 := e5.trans (ex_new (o := .lst ((bksM st).map nV)) nD)
        have hD6 : upd Hx D (.lst ((bksM st).map nV)) D = some (.lst ((bksM st).map nV)) := upd_same
        have hd6 : upd Hx D (.lst ((bksM st).map nV)) d = some (.dK (kvN (farF Y.g R))) := by rw [upd_ne (ne_of_none hd5 nD)]; exact hd5
        generalize upd Hx D (.lst ((bksM st).map nV)) = H6 at e6 hD6 hd6 ⊢
        have hkl : (kvN (farF Y.g R)).length = (farF Y.g R).length := by unfold kvN; rw [List.length_map]
        refine ⟨_, rfl, d, _, rfl, hd6, _, rfl, .ref D, ((bksM st).map nV).length, rfl, .inl ⟨_, .of hD6, rfl⟩, rfl, _, rfl, ?_⟩
        rw [hkl, List.length_map]
        by_cases hle : (farF Y.g R).length = (bksM st).length
        · have hdec : decide (V.int ((farF Y.g R).length : Nat) = V.int ((bksM st).length : Nat)) = true := by rw [hle]; simp
          rw [hdec]
          refine iteT ⟨_, rfl, d, _, (farF Y.g R).map fun e => (e.2 : Int), rfl, hd6, by unfold kvN; rw [List.map_map, List.map_map]; rfl, ?_, fun m hm hmax => ?_⟩
          · intro z
            have h0 : farF Y.g R = [] := List.map_eq_nil_iff.mp z
            rw [h0] at hle
            exact G.bk (List.eq_nil_of_length_eq_zero hle.symm)
          · obtain ⟨e, he, rfl⟩ := List.mem_map.mp hm
            refine q1 hle e.2 _ (List.mem_map.mpr ⟨e, he, rfl⟩) (fun j hj => ?_) e6
            obtain ⟨e2, he2, rfl⟩ := List.mem_map.mp hj
            have := hmax _ (List.mem_map.mpr ⟨e2, he2, rfl⟩)
            omega
        · have hdec : decide (V.int ((farF Y.g R).length : Nat) = V.int ((bksM st).length : Nat)) = false := by
            refine decide_eq_false fun z => hle ?_
            injection z with z
            omega
          rw [hdec]
          exact iteF (q2 hle _ e6)
end
end L2.K10

set_option Elab.async false
set_option linter.all false
set_option maxRecDepth 100000
set_option maxHeartbeats 4000000
/-! the law itself: names, state, the costs' loop -/
namespace L2.K10
open PySem PySem.Spec PyProof.Rows
abbrev nLaw : List Str := (["_law_script", "_law_row", "_law_yard_here", "_law_places", "_law_gate", "_law_holes", "_law_standing_here", "_law_books", "_law_asks", "_law_far", "_law_costs", "_law_one"] : List Str) ++ (["_law_come", "_law_book", "_law_later", "_law_other", "_law_now", "_law_total", "_law_words_here", "_law_way", "_law_slide", "_law_told", "e", "_law_due", "_law_turn"] : List Str)
theorem scLaw : FnScope nLaw ["_law_script"] (defScope (top 38)) := ⟨rfl, rfl, rfl, by decide +kernel, rfl, by decide +kernel, by decide +kernel⟩
def bd (i : Nat) : Stmt := (defBody (top 38)).getD i (.Pass ⟨0, 0, 0, 0⟩)
theorem er_mapk {H : Hp} {k : Sg} {n : Nat} : ∀ {xs : Ents} {F : List (Sg × Nat)}, Paired (ER RN H) xs F → Paired (ER RN H) (xs.map fun x => if x.1 = k then (x.1, x.2.1, nV n) else x) (F.map fun x => if x.1 = k then (x.1, n) else x)
  | _, _, .nil => .nil
  | x :: _, f :: _, .cons ⟨h1, h2, h3⟩ t => by
    rw [List.map_cons, List.map_cons]
    refine .cons ?_ (er_mapk t)
    by_cases e : x.1 = k
    · rw [if_pos e, if_pos (h1 ▸ e)]
      exact ⟨h1, h2, rfl⟩
    · rw [if_neg e, if_neg (h1 ▸ e)]
      exact ⟨h1, h2, h3⟩
theorem er_put {H : Hp} {xs : Ents} {F : List (Sg × Nat)} (h : Paired (ER RN H) xs F) {k : Sg} {a : Addr} {n : Nat} (ha : IsSg H a k) : Paired (ER RN H) (xput xs k a (nV n)) (aput F k n) := by
  unfold xput aput
  rw [er_isSome h k]
  split
  · exact er_mapk h
  · exact Paired.snoc h ⟨rfl, ha, rfl⟩
section
variable {P : Program} {w : World} {K : PySem.W.Frag} {mg : Str → Option Value} {base : Heap}
theorem DF.mono {T : Tbs} {H H' : Hp} (e : Ex T H H') {d : Addr} {F : List (Sg × List (Sg × Nat))} (h : DF P w H d F) : DF P w H' d F := DD.mono h (fun o ho => by
  obtain ⟨xs, ep, h1, _⟩ := h
  rw [h1] at ho
  exact e.keep _ _ (by rw [h1]; exact ho) (Option.some.inj ho ▸ own_sd.1)) e.tps (RD.mono e)
/-- what is fixed once it is drawn -/
structure LX where
  r : Addr
  sc : Addr
  ns : List Int
  y : Addr
  Y : Yd
  h : Nat
  a : Addr
  st : Sg
  l : Addr
  bs : List Nat
  d1 : Addr
/-- the plain facts -/
structure LX.Ok (L : LX) : Prop where
  gy : GY L.Y
  h1 : 1 ≤ L.h
  h2 : L.h ≤ 2
  h3 : L.h < L.Y.n
  st : L.st ∈ stands L.Y.n L.h
  nl : L.ns.length ≤ 1000
  bl : L.bs.length ≤ 5
  bk : ∀ b ∈ L.bs, b < L.Y.n - L.h
theorem LX.Ok.fld {L : LX} (O : L.Ok) : Fld L.Y.n L.Y.ties (stands L.Y.n L.h) := fld_of O.gy O.h1 O.h2 O.h3
theorem LX.Ok.gs {L : LX} (O : L.Ok) : GS L.Y L.st := (gs_of O.gy O.h1 O.h2 O.h3 O.st).1
/-- what stands in the heap -/
structure LX.At (P : Program) (w : World) (K : PySem.W.Frag) (T : Tbs) (L : LX) (H : Hp) : Prop where
  row : Rw K H L.r L.sc L.ns
  yd : IsY H L.y L.Y
  sg : IsSg H L.a L.st
  ak : H L.l = some (.tup (L.bs.map nV))
  far : DF P w H L.d1 (farM L.Y.ties L.st)
  tb : Tb T H
theorem LX.At.mono {T : Tbs} {L : LX} {H H' : Hp} (A : L.At P w K T H) (e : Ex T H H') : L.At P w K T H' :=
  ⟨A.row.mono e, A.yd.mono e.tps, A.sg.mono e.tps, e.keep _ _ A.ak own_tup.1, A.far.mono e, e.tab A.tb⟩
/-- the slots, from the first one to the asks' table -/
abbrev LX.sl (L : LX) : St := [some (.ref L.sc), some (.ref L.r), some (.ref L.y), some (nV L.Y.n), some (nV L.Y.g), some (nV L.h), some (.ref L.a), some (nV (L.Y.n - L.h)), some (.ref L.l), some (.ref L.d1)]
/-- the costs so far -/
def LX.cost (L : LX) (i : Nat) : List (Sg × Nat) := (L.bs.take i).foldl (dpS L.Y.ties L.Y.g) [(L.st, 0)]
theorem LX.cost_succ (L : LX) {i b : Nat} (h : L.bs[i]? = some b) : L.cost (i + 1) = dpS L.Y.ties L.Y.g (L.cost i) b := by
  unfold LX.cost
  rw [List.take_add_one, h, List.foldl_append]
  rfl
theorem LX.Ok.cost {L : LX} (O : L.Ok) : ∀ i, i ≤ L.bs.length → COk (stands L.Y.n L.h) (24 * i) (L.cost i) ∧ ((L.cost i).map (·.1)).Nodup ∧ ∀ f ∈ L.cost i, ∃ w, okW L.Y.ties L.st w ∧ goW L.st w = f.1
  | 0, _ => by
    have e : L.cost 0 = [(L.st, 0)] := rfl
    rw [e]
    refine ⟨⟨fun f hf => ?_, fun f hf => ?_⟩, by simp, fun f hf => ?_⟩ <;> (simp at hf; subst hf)
    · exact O.st
    · exact Nat.zero_le _
    · exact ⟨[], trivial, rfl⟩
  | i + 1, hi => by
    obtain ⟨I, hn, hs⟩ := LX.Ok.cost O i (by omega)
    have hb := List.getElem?_eq_getElem (l := L.bs) (i := i) (by omega)
    rw [L.cost_succ hb]
    have hl := O.bl
    have hd : ∀ {x v}, aget (dpS L.Y.ties L.Y.g (L.cost i) L.bs[i]) x = some v ↔ x.getD L.Y.g none = some L.bs[i] ∧ Best L.Y.ties (L.cost i) x v := dpS_best (U := stands L.Y.n L.h) (fun f hf => (O.fld.bfs (I.inU f hf)).2) (fun f hf => Nat.le_trans (I.le f hf) (by omega))
    have hm : ∀ f ∈ dpS L.Y.ties L.Y.g (L.cost i) L.bs[i], Best L.Y.ties (L.cost i) f.1 f.2 := fun f hf => (hd.mp ((aget_iff (dpS_nodup _ _ _ _)).mp hf)).2
    refine ⟨⟨fun f hf => (best_le O.fld I (hm f hf)).2, fun f hf => ?_⟩, dpS_nodup _ _ _ _, fun f hf => ?_⟩
    · have := (best_le O.fld I (hm f hf)).1
      omega
    · obtain ⟨e, he, w, h1, h2, _⟩ := (hm f hf).1
      obtain ⟨v, h3, h4⟩ := hs e he
      exact ⟨v ++ w, okW_app h3 (by rw [h4]; exact h1), by rw [goW_app, h4, h2]⟩
/-- what can come stands in the law's table -/
theorem LX.Ok.farAt {L : LX} (O : L.Ok) {k : Sg} {v : Word} (h : okW L.Y.ties L.st v) (e : goW L.st v = k) : aget (farM L.Y.ties L.st) k = some (lensM (lawW L.Y.ties k 6000)) := by
  obtain ⟨_, B⟩ := O.fld.bfs O.st
  obtain ⟨w2, h2⟩ := B.goes h
  rw [e] at h2
  refine aget_of_mem (by rw [farM_keys]; exact B.nd) ?_
  unfold farM
  exact List.mem_map.mpr ⟨_, aget_mem h2, rfl⟩
theorem lens_bfs {U : List Sg} {ties : List Tie} {s : Sg} {R : List (Sg × Word)} {n : Nat} (B : BFS U ties s R) (hU : ∀ k ∈ U, k.length = n) : (lensM R).length ≤ 24 ∧ ((lensM R).map (·.1)).Nodup ∧ ∀ q ∈ lensM R, q.1.length = n := by
  refine ⟨by unfold lensM; rw [List.length_map]; exact B.len, by rw [lensM_keys]; exact B.nd, fun q hq => ?_⟩
  obtain ⟨u, hu, rfl⟩ := List.mem_map.mp hq
  exact hU _ (B.inU u hu)
/-- one standing's row of the law's table -/
theorem LX.Ok.rowOf {L : LX} (O : L.Ok) {e : Sg × Nat} {v : Word} (hU : e.1 ∈ stands L.Y.n L.h) (h : okW L.Y.ties L.st v) (q : goW L.st v = e.1) (b : Nat) : ∃ W, aget (farM L.Y.ties L.st) e.1 = some W ∧ (∀ F, dpI L.Y.ties L.Y.g b F e = W.foldl (dpO L.Y.g b e.2) F) ∧ W.length ≤ 24 ∧ (W.map (·.1)).Nodup ∧ ∀ q ∈ W, q.1.length = L.Y.n :=
  ⟨_, O.farAt h q, fun _ => rfl, lens_bfs (O.fld.bfs hU).2 O.fld.len⟩
end
end L2.K10

set_option Elab.async false
set_option linter.all false
set_option maxRecDepth 100000
set_option maxHeartbeats 800000
/-! the law's loop over the costs -/
namespace L2.K10
open PySem PySem.Spec PyProof.Rows
abbrev XL (P : Program) (w : World) (K : PySem.W.Frag) (mg : Str → Option Value) (base : Heap) (f : Addr) (cd : Value) (A : Around) (o : List Env) (s : Shared) (H : Hp) (E : XK) : Cx := (cxOf CX0 P w K mg base nLaw "law" (defScope (top 38)) f cd A o s H E).nox
abbrev lawEnv (s : Shared) (f : Addr) (cd : Value) : Env := envOfC "law" (defScope (top 38)) s.heap.objs.size f cd
section
variable {P : Program} {w : World} {K : PySem.W.Frag} {mg : Str → Option Value} {base : Heap} {f : Addr} {cd : Value} {A : Around} {o : List Env} {s : Shared} {H0 : Hp} {E : XK}
abbrev LX.s9 (L : LX) (d2 cm : Addr) (z11 z13 z14 z15 : Option V) : St := L.sl ++ [some (.ref d2), z11, some (.ref cm), z13, z14, z15, none, none, none, none, none, none, none, none, none]
theorem int_min3 (a b c : Nat) : V.int (if ((b : Int) + (c : Int)) < (a : Int) then ((b : Int) + (c : Int)) else (a : Int)) = nV (min a (b + c)) := by
  have h : (if ((b : Int) + (c : Int)) < (a : Int) then ((b : Int) + (c : Int)) else (a : Int)) = ((min a (b + c) : Nat) : Int) := by
    split <;> omega
  rw [h]
  rfl
theorem law_costs {T : Tbs} (hr : Room 5 (A.deeper (lawEnv s f cd))) (mI : mg "min" = none) :
    ∃ t, PS (XL P w K mg base f cd A o s H0 E) (bd 9) t ∧ ∀ (L : LX) (O : L.Ok) (d2 cm : Addr) (z11 z13 z14 z15 : Option V) (H : Hp) (D : Ends), L.At P w K T H → DN P w H d2 [(L.st, 0)] →
      (∀ d z11 z13 z14 z15 H', Ex T H H' → DN P w H' d (L.cost L.bs.length) → D.nx (L.s9 d cm z11 z13 z14 z15) H') → t D (L.s9 d2 cm z11 z13 z14 z15) H := by
  have hu := hu_of hr
  refine ⟨_, ps_for PassesOwn.never rfl (pi_tup (pv 8)) (pg_name (i := 13) scLaw.nd rfl (.inr rfl))
    (pss_cons (ps_set (i := 14) scLaw.nd rfl (.inl rfl) pe_nnew)
    (pss_cons (ps_for PassesOwn.never rfl (pi_nk (pv 10)) (pg_name (i := 11) scLaw.nd rfl (.inl rfl))
      (pss_one (ps_for PassesOwn.never rfl (pi_nk (pe_nget hu (pv 9) (pv 11) (fun _ _ => rfl))) (pg_name (i := 15) scLaw.nd rfl (.inl rfl))
        (pss_one (ps_if (pt_cmpR op_eq (pe_ix ix_tup (pv 15) (pv 4) (fun _ _ => rfl)) (pv 13) (nomark _))
          (pss_one (ps_nput hu (pv 14) (pv 15) (pe_callB (call_min2 (by rfl)) (by rfl) mI (by decide +kernel) (pa_cons (pe_nget2 hu (pv 14) (pv 15) pe_int ⟨rfl, rfl, rfl, rfl⟩)
            (pa_cons (pe_op op_add (pe_nget hu (pv 10) (pv 11) (fun _ _ => rfl)) (pe_nget hu (pe_nget hu (pv 9) (pv 11) (fun _ _ => rfl)) (pv 15) (fun _ _ => rfl))) pa_nil))) (by rfl))) pss_nil)))))
    (pss_one (ps_set (i := 10) scLaw.nd rfl (.inr rfl) (pv 14))))), ?_⟩
  intro L O d2 cm z11 z13 z14 z15 H D hA hC k
  simp only [cxp, cxw, cxk, cxp', cxw', cxk']
  refine ⟨_, rfl, L.l, rfl, ⟨_, .of hA.ak⟩, for_tup (xs := L.bs.map nV) (fun i σ Hx => ∃ d z11 z13 z14 z15, σ = L.s9 d cm z11 z13 z14 z15 ∧ Ex T H Hx ∧ DN P w Hx d (L.cost i))
    ⟨d2, z11, z13, z14, z15, rfl, .refl, hC⟩ (fun i σ Hx _ ⟨_, _, _, _, _, _, e, _⟩ => .of (e.keep _ _ hA.ak own_tup.1)) (fun i x σ Hx hxi hP => ?_) (fun σ Hx hP => ?_)⟩
  · obtain ⟨d, z11, z13, z14, z15, rfl, e1, hC1⟩ := hP
    rw [List.getElem?_map] at hxi
    obtain ⟨b, hb, rfl⟩ := Option.map_eq_some_iff.mp hxi
    have hilt := (List.getElem?_eq_some_iff.mp hb).1
    obtain ⟨I, hCn, hCs⟩ := O.cost i (by omega)
    have A1 := hA.mono e1
    have hCl : (L.cost i).length ≤ 24 := by
      have := nodup_few hCn (m := stands L.Y.n L.h) fun x hx => by
        obtain ⟨e, he, rfl⟩ := List.mem_map.mp hx
        exact I.inU e he
      rw [List.length_map] at this
      exact Nat.le_trans this O.fld.clo.len
    obtain ⟨xC, epC, hd1, pC⟩ := id hC1
    have lC : xC.length = (L.cost i).length := Paired.length pC
    rw [L.cost_succ hb]
    have hCg : ∀ {j : Nat} {e : Sg × Nat}, (L.cost i)[j]? = some e → aget (L.cost i) e.1 = some e.2 := fun {j e} h => aget_of_mem hCn (List.mem_of_getElem? h)
    unfold dpS
    generalize L.cost i = C at hC1 I hCn hCs hCl pC lC hCg ⊢
    refine fun dl ndl => ?_
    have e2 := ex_new (T := T) (o := sdO P w dl [] 0) ndl
    have hd2 := e2.keep _ _ hd1 own_sd.1
    have pC2 := er_mono e2.tps (fun _ _ z => z) pC
    refine ⟨_, rfl, d, xC, epC, rfl, hd2, for_it walk_nk (fun j σ H2 => ∃ z11 z15, σ = L.s9 d cm z11 (some (nV b)) (some (.ref dl)) z15 ∧ Ex T Hx H2 ∧ ((C.take j).foldl (dpI L.Y.ties L.Y.g b) []).length ≤ 24 * j ∧ DN P w H2 dl ((C.take j).foldl (dpI L.Y.ties L.Y.g b) []))
      ⟨z11, z15, rfl, e2, Nat.zero_le _, [], 0, upd_same, .nil⟩ (fun j σ H2 _ ⟨_, _, _, e, _⟩ => e.keep _ _ hd1 own_sd.1) (fun j x σ H2o H2 hj hP hy => ?_) (fun σ H2 hP => ?_)⟩
    · obtain ⟨z11, z15, rfl, e3, hl3, hL3⟩ := hP
      obtain ⟨rfl, kk, ka, v, hx, rfl⟩ := hy
      obtain ⟨e, he, hek, hea, hev⟩ := paired_at pC hx
      simp only at hek hea hev
      subst hek
      obtain rfl : v = nV e.2 := hev
      have heU := I.inU e (List.mem_of_getElem? he)
      obtain ⟨we, hw1, hw2⟩ := hCs e (List.mem_of_getElem? he)
      obtain ⟨W, hfar, hdp, hWl, hWn, hWk⟩ := O.rowOf heU hw1 hw2 b
      have hstep : (C.take (j + 1)).foldl (dpI L.Y.ties L.Y.g b) [] = W.foldl (dpO L.Y.g b e.2) ((C.take j).foldl (dpI L.Y.ties L.Y.g b) []) := by
        rw [List.take_add_one, he, Option.toList_some, List.foldl_append, List.foldl_cons, List.foldl_nil, hdp]
      rw [hstep]
      clear hstep hdp
      generalize (C.take j).foldl (dpI L.Y.ties L.Y.g b) [] = L0 at hl3 hL3 ⊢
      have hea3 := hea.mono e3.tps
      obtain ⟨xF, epF, hF1, pF1⟩ := A1.far
      obtain ⟨vf, hvf, df, rfl, xW, epW, hdf1, pW1⟩ := er_some pF1 hfar
      have nf := ne_of_none hdf1 ndl
      have nd1 := ne_of_none hF1 ndl
      have hF3 := e3.keep _ _ hF1 own_sd.1
      have hdf := e3.keep _ _ hdf1 own_sd.1
      have pF := er_mono e3.tps (RD.mono e3) pF1
      have pW := er_mono e3.tps (fun _ _ z => z) pW1
      have lW : xW.length = W.length := Paired.length pW
      refine ⟨_, rfl, _, rfl, L.d1, xF, ka, e.1, _, rfl, ⟨epF, hF3, er_keys pF⟩, rfl, hea3, hvf, df, xW, epW, rfl, hdf, ?_⟩
      refine for_it walk_nk (fun q σ H4 => ∃ z15, σ = L.s9 d cm (some (.ref ka)) (some (nV b)) (some (.ref dl)) z15 ∧ Ex T Hx H4 ∧ H4 df = some (sdO P w df xW epW) ∧ H4 L.d1 = some (sdO P w L.d1 xF epF) ∧ TpS H2 H4 ∧ ((W.take q).foldl (dpO L.Y.g b e.2) L0).length ≤ 24 * j + q ∧ DN P w H4 dl ((W.take q).foldl (dpO L.Y.g b e.2) L0))
        ⟨z15, rfl, e3, hdf, hF3, .refl, by simpa using hl3, hL3⟩ (fun q σ H4 _ ⟨_, _, _, h, _⟩ => h) (fun q x σ H4o H4 hq hP hy => ?_) (fun σ H4 hP => ?_)
      · obtain ⟨z15, rfl, e4, hdf4, hF4, t4, hl4, hL4⟩ := hP
        obtain ⟨rfl, kk, oa, v, hx2, rfl⟩ := hy
        obtain ⟨u, hu, huk, hua, huv⟩ := paired_at pW hx2
        simp only at huk hua huv
        subst huk
        obtain rfl : v = nV u.2 := huv
        have hua4 := hua.mono t4
        have hglt : L.Y.g < u.1.length := by rw [hWk u (List.mem_of_getElem? hu)]; exact O.gy.g
        have hst : (W.take (q + 1)).foldl (dpO L.Y.g b e.2) L0 = dpO L.Y.g b e.2 ((W.take q).foldl (dpO L.Y.g b e.2) L0) u := by
          rw [List.take_add_one, hu, List.foldl_append]
          rfl
        rw [hst]
        generalize (W.take q).foldl (dpO L.Y.g b e.2) L0 = L1 at hl4 hL4 ⊢
        refine ⟨_, rfl, _, rfl, oa, _, _, _, rfl, rfl, .of hua4, atI_nat (oV_at hglt), _, rfl, ?_, _, rfl, ?_⟩
        · cases u.1.getD L.Y.g none <;> rfl
        have hdec : decide (oV (u.1.getD L.Y.g none) = nV b) = atG L.Y.g b u := by
          unfold atG
          exact decide_eq_decide.mpr ⟨fun h => oV_inj (b := some b) h, fun h => by rw [h]; rfl⟩
        rw [hdec]
        unfold dpO
        cases hg : atG L.Y.g b u with
        | false => exact ⟨_, rfl, e4, hdf4, hF4, t4, by simp; omega, hL4⟩
        | true =>
          obtain ⟨xL, epL, hdl, pL⟩ := id hL4
          have pC4 := er_mono (e4.tps) (fun _ _ z => z) pC
          have pF4 : Paired (ER (fun _ _ _ => True) H4) xF (farM L.Y.ties L.st) := Paired.mapP pF fun _ _ ⟨q1, q2, _⟩ => ⟨q1, q2.mono t4, trivial⟩
          have pW4 := er_mono t4 (fun _ _ z => z) pW
          have hd4 := e4.keep _ _ hd1 own_sd.1
          obtain ⟨v1, hv1, rfl⟩ := er_some pC4 (hCg he)
          obtain ⟨v2, hv2, rfl⟩ := er_some pW4 (aget_of_mem hWn (List.mem_of_getElem? hu))
          have hget : (xget xL u.1).getD (.int 999) = nV ((aget L1 u.1).getD 999) := by
            rcases er_get pL u.1 with ⟨q1, q2⟩ | ⟨v, n, q1, q2, rfl⟩ <;> rw [q1, q2] <;> rfl
          refine ⟨_, rfl, dl, xL, rfl, ⟨epL, hdl, er_keys pL⟩, _, rfl, xL, oa, u.1, ⟨epL, hdl, er_keys pL⟩, rfl, hua4, ?_⟩
          rw [hget]
          refine ⟨_, rfl, _, rfl, d, xC, ka, e.1, _, rfl, ⟨epC, hd4, er_keys pC4⟩, rfl, hea3.mono t4, hv1, ?_⟩
          refine ⟨_, rfl, _, rfl, L.d1, xF, ka, e.1, _, rfl, ⟨epF, hF4, er_keys pF4⟩, rfl, hea3.mono t4, hvf, ?_⟩
          refine ⟨_, rfl, df, xW, oa, u.1, _, rfl, ⟨epW, hdf4, er_keys pW4⟩, rfl, hua4, hv2, _, _, rfl, rfl, _, _, rfl, ?_⟩
          have lL := Paired.length pL
          refine ⟨_, rfl, _, rfl, dl, xL, oa, u.1, rfl, ⟨epL, hdl, er_keys pL⟩, rfl, hua4, small32 (by omega), fun ep => ?_⟩
          rw [int_min3]
          have tw := tps_write (o := sdO P w dl (xput xL u.1 oa (nV (min ((aget L1 u.1).getD 999) (e.2 + u.2)))) ep) hdl (fun _ z => nomatch z)
          refine ⟨_, rfl, e4.write ndl hdl own_sd, ?_, ?_, t4.trans tw, ?_, _, ep, upd_same, er_mono tw (fun _ _ z => z) (er_put pL hua4)⟩
          · rw [upd_ne nf]
            exact hdf4
          · rw [upd_ne nd1]
            exact hF4
          · exact Nat.le_trans (aput_len L1 u.1 (min ((aget L1 u.1).getD 999) (e.2 + u.2))) (by omega)
      · obtain ⟨z15, rfl, e4, _, _, _, hl4, hL4⟩ := hP
        rw [lW, List.take_length] at hl4 hL4
        exact ⟨_, _, rfl, e4, by omega, hL4⟩
    · obtain ⟨z11, z15, rfl, e3, hl3, hL3⟩ := hP
      rw [lC, List.take_length] at hL3
      exact ⟨_, rfl, _, _, _, _, _, rfl, e1.trans e3, hL3⟩
  · obtain ⟨d, z11, z13, z14, z15, rfl, e1, hC1⟩ := hP
    rw [List.length_map] at hC1
    exact k d z11 z13 z14 z15 Hx e1 hC1
end
end L2.K10

set_option Elab.async false
set_option linter.all false
set_option maxRecDepth 100000
set_option maxHeartbeats 800000
/-! the law's loop over the nearest ways -/
namespace L2.K10
open PySem PySem.Spec PyProof.Rows
theorem BFS.lok {U : List Sg} {ties : List Tie} {s : Sg} {R : List (Sg × Word)} (B : BFS U ties s R) : LOk ties s := fun t => by
  obtain ⟨G, hG⟩ := B.pre t
  have hl := B.len
  refine ⟨?_, fun f hf => ?_⟩
  · rw [hG, List.length_append] at hl
    omega
  · have := B.wl f (by rw [hG]; exact List.mem_append_left _ hf)
    omega
theorem okW_at {ties : List Tie} : ∀ {w : Word} {s : Sg} {q : Nat} {m : Nat × Nat}, okW ties s w → w[q]? = some m → m ∈ slidesM ties (goW s (w.take q))
  | [], _, _, _, _, h => by simp at h
  | a :: w, s, 0, m, h, e => by
    simp at e
    subst e
    exact h.1
  | a :: w, s, q + 1, m, h, e => okW_at (s := slidM s a) h.2 (by simpa using e)
theorem goW_len : ∀ (w : Word) (s : Sg), (goW s w).length = s.length
  | [], _ => rfl
  | m :: w, s => (goW_len w (slidM s m)).trans (slidM_len s m)
section
variable {P : Program} {w : World} {K : PySem.W.Frag} {mg : Str → Option Value} {base : Heap} {f : Addr} {cd : Value} {A : Around} {o : List Env} {s : Shared} {H0 : Hp} {E : XK}
abbrev LX.s11 (L : LX) (d2 cm : Addr) (z11 z13 z14 z15 : Option V) (now : Addr) (tot : Nat) (z18 z19 z20 : Option V) : St := L.sl ++ [some (.ref d2), z11, some (.ref cm), z13, z14, z15, some (.ref now), some (nV tot), z18, z19, z20, none, none, none, none]
theorem law_near {T : Tbs} (hr : Room 5 (A.deeper (lawEnv s f cd))) (mI : mg "min" = none) (mL : mg "len" = none) (cW : Cal P w K mg base CX0 3 "_law_words" ["_law_yard_here", "_law_standing_here"] (spWordsL P w T)) (cM : Cal P w K mg base CX0 1 "_law_slid" ["_law_standing_here", "_law_slide"] (spSlid T)) :
    ∃ t, PS (XL P w K mg base f cd A o s H0 E) (bd 11) t ∧ ∀ (L : LX) (O : L.Ok) (d2 cm : Addr) (z11 z13 z14 z15 : Option V) (tt : Nat) (H : Hp) (D : Ends), L.At P w K T H → DN P w H d2 (L.cost L.bs.length) →
      (L.cost L.bs.length ≠ [] → nearR' L.Y.n L.Y.ties 24 L.Y.g L.bs L.st 0 = some (some tt)) →
      (∀ z11 z13 z14 z15 now tot z18 z19 z20 H', (L.cost L.bs.length ≠ [] → tot = tt) → Ex T H H' → D.nx (L.s11 d2 cm z11 z13 z14 z15 now tot z18 z19 z20) H') → t D (L.s11 d2 cm z11 z13 z14 z15 L.a 0 none none none) H := by
  have hu := hu_of hr
  obtain ⟨fW, fdW, gW, kW, bW, GW⟩ := cW
  obtain ⟨fM, fdM, gM, kM, bM, GM⟩ := cM
  refine ⟨_, ps_for PassesOwn.never rfl (pi_tup (pe_ifExp (pt_cmpR (op_neE hu) (pv 10) pe_dnewK (by rfl)) (pv 8) (pe_tup pa_nil))) (pg_name (i := 13) scLaw.nd rfl (.inr rfl))
    (pss_cons (ps_set (i := 18) scLaw.nd rfl (.inr rfl) (pe_call GW (hr.mono (by decide)) (by rfl) gW kW bW .nil pass0 (pa_cons (pv 2) (pa_cons (pv 16) pa_nil))))
    (pss_cons (ps_set (i := 19) scLaw.nd rfl (.inl rfl) (pe_ix ix_tup (pe_callB (cr_minNW (by rfl) hr.units) (by rfl) mI (by decide +kernel) (pa_cons
        (pe_lc (own := [("_law_one", 11)]) (g := gName 11) (tt := tTest (tOp rEq (tOp (rIxT K) (tVar 11) (tVar 4)) (tVar 13))) (te := tTup (tCons (tCB (rLen K) (tCons (tNGet P w (tVar 18) (tVar 11)) tNil)) (tCons (tNGet P w (tVar 18) (tVar 11)) tNil))) (by rfl) scLaw.nd (pi_nk (pv 18))
          (blkOk_by (own := [("_law_one", 11)]) (N := nLaw) (sc := defScope (top 38)) (by decide +kernel)) (fun _ _ _ _ _ => pg_name (i := 11) scLaw.nd rfl (.inl rfl))
          (fun _ _ _ _ _ => pts_one (pt_cmpR op_eq (pe_ix ix_tup (pv 11) (pv 4) (fun _ _ => rfl)) (pv 13) (nomark _)))
          (fun _ _ _ _ _ => pe_tup (pa_cons (pe_callB call_len (by rfl) mL boot_len (pa_cons (pe_nget hu (pv 18) (pv 11) (fun _ _ => rfl)) pa_nil)) (pa_cons (pe_nget hu (pv 18) (pv 11) (fun _ _ => rfl)) pa_nil)))) pa_nil)) pe_int (fun _ _ => rfl)))
    (pss_cons (ps_set (i := 17) scLaw.nd rfl (.inl rfl) (pe_op op_add (pv 17) (pe_callB call_len (by rfl) mL boot_len (pa_cons (pv 19) pa_nil))))
    (pss_one (ps_for PassesOwn.never rfl (pi_tup (pv 19)) (pg_name (i := 20) scLaw.nd rfl (.inl rfl))
      (pss_one (ps_set (i := 16) scLaw.nd rfl (.inl rfl) (pe_call GM (hr.mono (by decide)) (by rfl) gM kM bM .nil pass0 (pa_cons (pv 16) (pa_cons (pv 20) pa_nil)))))))))), ?_⟩
  intro L O d2 cm z11 z13 z14 z15 tt H D hA hC hN k
  simp only [cxp, cxw, cxk, cxp', cxw', cxk']
  obtain ⟨xC, epC, hd, pC⟩ := hC
  refine ⟨_, rfl, fun e ne => ?_⟩
  have e1 := ex_new (T := T) (o := .dK []) ne
  have hd1 := e1.keep _ _ hd own_sd.1
  refine ⟨d2, e, xC, rfl, rfl, ⟨epC, hd1, er_keys (er_mono e1.tps (fun _ _ z => z) pC)⟩, upd_same, _, rfl, ?_⟩
  have A1 := hA.mono e1
  generalize upd H e (.dK []) = H1 at e1 A1 ⊢
  cases hb : (!xC.isEmpty) with
  | false =>
    have hx0 : xC = [] := by
      cases xC with
      | nil => rfl
      | cons _ _ => cases hb
    have hC0 : L.cost L.bs.length = [] := List.eq_nil_of_length_eq_zero (by rw [← Paired.length pC, hx0]; rfl)
    refine ⟨by show 0 ≤ sizeLine; decide, fun q nq => ⟨q, rfl, ⟨_, .of upd_same⟩, for_tup (xs := []) (fun i σ Hx => σ = L.s11 d2 cm z11 z13 z14 z15 L.a 0 none none none ∧ Ex T H Hx ∧ Hx q = some (.tup [])) ⟨rfl, e1.trans (ex_new nq), upd_same⟩ (fun i σ Hx _ ⟨_, _, h⟩ => .of h) (fun i x σ Hx hxi _ => by simp at hxi) (fun σ Hx hP => ?_)⟩⟩
    obtain ⟨rfl, e2, _⟩ := hP
    exact k _ _ _ _ _ _ _ _ _ _ (fun z => absurd hC0 z) e2
  | true =>
    have hC0 : L.cost L.bs.length ≠ [] := fun z => by
      have := Paired.length pC
      rw [z] at this
      rw [List.eq_nil_of_length_eq_zero this] at hb
      cases hb
    have hN := hN hC0
    refine ⟨_, rfl, L.l, rfl, ⟨_, .of A1.ak⟩, for_tup (xs := L.bs.map nV) (fun i σ Hx => ∃ z11 z13 now tot z18 z19 z20 st, σ = L.s11 d2 cm z11 z13 z14 z15 now tot z18 z19 z20 ∧ Ex T H Hx ∧ IsSg Hx now st ∧ st ∈ stands L.Y.n L.h ∧ nearR' L.Y.n L.Y.ties 24 L.Y.g (L.bs.drop i) st tot = some (some tt))
      ⟨z11, z13, L.a, 0, none, none, none, L.st, rfl, e1, A1.sg, O.st, hN⟩ (fun i σ Hx _ ⟨_, _, _, _, _, _, _, _, _, e, _⟩ => .of (e.keep _ _ hA.ak own_tup.1)) (fun i x σ Hx hxi hP => ?_) (fun σ Hx hP => ?_)⟩
    · obtain ⟨z11, z13, now, tot, z18, z19, z20, st, rfl, e2, hS, hU, hf⟩ := hP
      rw [List.getElem?_map] at hxi
      obtain ⟨b, hb0, rfl⟩ := Option.map_eq_some_iff.mp hxi
      have hdr : L.bs.drop i = b :: L.bs.drop (i + 1) := by
        obtain ⟨hi, e⟩ := List.getElem?_eq_some_iff.mp hb0
        rw [List.drop_eq_getElem_cons hi, e]
      rw [hdr] at hf
      obtain ⟨R, hR, hcase⟩ := nearR_cons hf
      have hRe := Option.some.inj ((wFrom_ok O.fld hU).symm.trans hR)
      have B := (O.fld.bfs hU).2
      have G := (gs_of O.gy O.h1 O.h2 O.h3 hU).1
      have A2 := hA.mono e2
      rcases hcase with ⟨_, hres⟩ | ⟨x, xs, f1, fs, hxs, hfs, hf'⟩
      · cases hres
      refine ⟨_, rfl, _, rfl, L.y, now, L.Y, st, rfl, A2.yd, hS, G.ties, G.t20, G.l20, B.lok, fun H3 r e3 nr hr3 => ?_⟩
      rw [hRe] at hr3 B
      clear hR hRe
      obtain ⟨xR, epR, hr3, pR⟩ := hr3
      have lR : xR.length = R.length := Paired.length pR
      have hRl := B.len
      refine ⟨_, rfl, r, xR, epR, rfl, hr3, fun D1 nD1 => ?_⟩
      refine lc_it walk_nk (fun j H4 => ∃ ps : List Addr, Ex T H3 H4 ∧ H4 D1 = some (.lst (ps.map V.ref)) ∧ Paired (IsNW H4) ps (((R.take j).filter (wayAt L.Y.g b)).map fun f => (f.2.length, f.2)))
        ⟨[], ex_new nD1, upd_same, .nil⟩ (fun j H4 _ ⟨_, e4, _⟩ => e4.keep _ _ hr3 own_sd.1) (fun j x1 H4o H4 hj hP hy => ?_) (fun H4 hP => ?_)
      · obtain ⟨ps, e4, hD4, hps⟩ := hP
        obtain ⟨rfl, kk, fa, v, hx2, rfl⟩ := hy
        obtain ⟨u, hu2, huk, hua, huv⟩ := paired_at pR hx2
        simp only at huk hua huv
        subst huk
        have hum := List.mem_of_getElem? hu2
        have pR4 := er_mono e4.tps (RW.mono e4.tps) pR
        have hr4 := e4.keep _ _ hr3 own_sd.1
        obtain ⟨v3, hget, wa, rfl, hwa⟩ := er_some pR4 (aget_of_mem B.nd hum)
        have hua4 := hua.mono e4.tps
        have hglt : L.Y.g < u.1.length := by rw [O.fld.len _ (B.inU u hum)]; exact O.gy.g
        refine ⟨rfl, _, rfl, _, rfl, fa, _, _, _, rfl, rfl, .of hua4, atI_nat (oV_at hglt), _, rfl, ?_, _, rfl, ?_⟩
        · cases u.1.getD L.Y.g none <;> rfl
        have hdec : decide (oV (u.1.getD L.Y.g none) = nV b) = wayAt L.Y.g b u := by
          unfold wayAt
          exact decide_eq_decide.mpr ⟨fun h => oV_inj (b := some b) h, fun h => by rw [h]; rfl⟩
        rw [hdec]
        have hpl := Paired.length hps
        have hle : ((R.take j).filter (wayAt L.Y.g b)).length ≤ R.length := Nat.le_trans (List.length_filter_le _ _) (by rw [List.length_take]; omega)
        rw [List.length_map] at hpl
        cases hw : wayAt L.Y.g b u with
        | false =>
          refine ⟨ps, e4, hD4, ?_⟩
          rw [List.take_add_one, hu2, List.filter_append]
          simp only [Option.toList, List.filter_cons, hw, List.filter_nil, List.append_nil, Bool.false_eq_true, if_false]
          exact hps
        | true =>
          obtain ⟨as, hw1, hw2⟩ := id hwa
          have hwl := Paired.length hw2
          refine ⟨_, rfl, _, rfl, r, xR, fa, u.1, _, rfl, ⟨epR, hr4, er_keys pR4⟩, rfl, hua4, hget, .ref wa, (as.map V.ref).length, rfl, .inr ⟨_, .of hw1, rfl⟩, ?_⟩
          refine ⟨_, rfl, _, rfl, r, xR, fa, u.1, _, rfl, ⟨epR, hr4, er_keys pR4⟩, rfl, hua4, hget, by show 2 ≤ sizeLine; decide, fun t2 nt2 => ⟨_, by rw [upd_ne (ne_of_none hD4 nt2)]; exact hD4, small32 (by rw [List.length_map]; omega), ?_⟩⟩
          have t12 := tps_new (o := .tup [.int ((as.map V.ref).length : Nat), .ref wa]) nt2
          have e5 := e4.trans (ex_new (o := .tup [.int ((as.map V.ref).length : Nat), .ref wa]) nt2)
          have hD5 : upd H4 t2 (.tup [.int ((as.map V.ref).length : Nat), .ref wa]) D1 = some (.lst (ps.map V.ref)) := by rw [upd_ne (ne_of_none hD4 nt2)]; exact hD4
          have tw := tps_write (o := HO.lst (ps.map V.ref ++ [V.ref t2])) hD5 (fun _ z => nomatch z)
          refine ⟨ps ++ [t2], e5.write nD1 hD5 own_lst, by rw [upd_same, List.map_append]; rfl, ?_⟩
          rw [List.take_add_one, hu2, List.filter_append, List.map_append]
          simp only [Option.toList, List.filter_cons, hw, List.filter_nil, if_true, List.map_cons, List.map_nil]
          refine Paired.snoc (Paired.mapP hps fun _ _ => IsNW.mono (t12.trans tw)) ⟨wa, tw _ _ ?_, hwa.mono (t12.trans tw)⟩
          rw [upd_same, List.length_map, hwl]
          rfl
      · obtain ⟨ps, e4, hD4, hps⟩ := hP
        rw [lR, List.take_length, hxs] at hps
        refine ⟨D1, ps, x, xs, rfl, .of hD4, hps, fun p hpm hpn => ?_⟩
        obtain ⟨wa, hp3, hwa⟩ := hpn
        obtain ⟨as, hw1, hw2⟩ := id hwa
        have hwl := Paired.length hw2
        have hml : (minNW x xs).1 = (minNW x xs).2.length := by
          have := minNW_mem xs x
          rw [← hxs] at this
          obtain ⟨g, _, e⟩ := List.mem_map.mp this
          rw [← e]
        have hfm : f1 ∈ R ∧ f1.2 = (minNW x xs).2 := by
          have : f1 ∈ R.filter fun f => decide (f.2 = (minNW x xs).2) := by rw [hfs]; exact List.mem_cons_self
          exact ⟨(List.mem_filter.mp this).1, of_decide_eq_true (List.mem_filter.mp this).2⟩
        obtain ⟨hfR, hfw⟩ := hfm
        obtain ⟨pt1, pt2⟩ := B.path f1 hfR
        have hU1 := B.inU f1 hfR
        rw [hfw] at pt1 pt2
        rw [hml] at hf' 
        generalize (minNW x xs).1 = mm at hp3
        generalize (minNW x xs).2 = way at *
        refine ⟨p, _, _, _, rfl, rfl, .of hp3, atI_nat (j := 1) rfl, ?_⟩
        refine ⟨_, rfl, _, rfl, .ref wa, (as.map V.ref).length, rfl, .inr ⟨_, .of hw1, rfl⟩, _, _, rfl, rfl, ?_⟩
        have e24 := e2.trans (e3.trans e4)
        refine ⟨_, rfl, wa, rfl, ⟨_, .of hw1⟩, for_tup (xs := as.map V.ref) (fun q σ H6 => ∃ now z20, σ = L.s11 d2 cm z11 (some (nV b)) z14 z15 now (tot + way.length) (some (.ref r)) (some (.ref wa)) z20 ∧ Ex T H H6 ∧ TpS H4 H6 ∧ IsSg H6 now (goW st (way.take q)))
          ⟨now, z20, ?_, e24, .refl, hS.mono (e3.trans e4).tps⟩ (fun q σ H6 _ ⟨_, _, _, _, t, _⟩ => .of (t _ _ hw1)) (fun q x2 σ H6 hx2 hP => ?_) (fun σ H6 hP => ?_)⟩
        · rw [List.length_map, hwl]
          rfl
        · obtain ⟨now, z20, rfl, e6, t6, hn⟩ := hP
          rw [List.getElem?_map] at hx2
          obtain ⟨sa, hsa, rfl⟩ := Option.map_eq_some_iff.mp hx2
          obtain ⟨m, hm, hP6⟩ := paired_at hw2 hsa
          obtain ⟨m1, m2, m3⟩ := slides_ok (okW_at pt1 hm)
          have hgl : (goW st (way.take q)).length = st.length := goW_len _ _
          rw [hgl] at m1 m2
          refine ⟨_, rfl, _, rfl, now, sa, _, m, rfl, hn, hP6.mono t6, by rw [hgl]; exact m1, by rw [hgl]; exact m2, m3, by rw [hgl]; exact G.l20, fun H7 r7 e7 _ hr7 => ?_⟩
          refine ⟨r7, _, rfl, e6.trans e7, t6.trans e7.tps, ?_⟩
          rw [List.take_add_one, hm]
          show IsSg H7 r7 (goW st (way.take q ++ [m]))
          rw [goW_snoc]
          exact hr7
        · obtain ⟨now, z20, rfl, e6, t6, hn⟩ := hP
          rw [List.length_map, hwl, List.take_length, pt2] at hn
          exact ⟨_, _, now, _, _, _, _, f1.1, rfl, e6, hn, hU1, hf'⟩
    · obtain ⟨z11, z13, now, tot, z18, z19, z20, st, rfl, e2, hS, hU, hf⟩ := hP
      rw [List.length_map, List.drop_length] at hf
      exact k _ _ _ _ _ _ _ _ _ _ (fun _ => Option.some.inj (Option.some.inj hf)) e2
end
end L2.K10

set_option Elab.async false
set_option linter.all false
set_option maxRecDepth 100000
set_option maxHeartbeats 800000
/-! the law's first try -/
namespace L2.K10
open PySem PySem.Spec PyProof.Rows
theorem inV_book {s : Sg} {b : Nat} : inV (nV b) (s.map oV) = true ↔ some b ∈ s := by
  unfold inV
  rw [List.any_map, List.any_eq_true]
  constructor
  · rintro ⟨x, hx, h⟩
    cases x with
    | none => cases h
    | some n =>
      have h : decide ((n : Int) = (b : Int)) = true := h
      have : n = b := by have := of_decide_eq_true h; omega
      rw [← this]
      exact hx
  · intro h
    exact ⟨some b, h, decide_eq_true rfl⟩
theorem isBook_iff {s : Sg} {b : Nat} (h : b < s.length) : isBook s (nV b) = true ↔ some b ∈ s := by
  have hn : isNum (nV b) 0 ((s.length : Int) - 1) = true := by
    show (decide ((0 : Int) ≤ (b : Int)) && decide ((b : Int) ≤ (s.length : Int) - 1)) = true
    rw [decide_eq_true (by omega), decide_eq_true (by omega)]
    rfl
  unfold isBook
  rw [hn, Bool.true_and]
  exact inV_book
theorem bks_len (s : Sg) : (bksM s).length ≤ s.length := List.length_filterMap_le _ _
theorem book_lt {s : Sg} (h1 : (bksM s).Nodup) (h2 : ∀ b ∈ bksM s, b < (bksM s).length) {b : Nat} : b < (bksM s).length ↔ some b ∈ s := by
  rw [← bk_mem]
  refine ⟨fun hb => ?_, h2 b⟩
  by_cases hm : b ∈ bksM s
  · exact hm
  · exfalso
    have := nodup_few (List.nodup_cons.mpr ⟨hm, h1⟩) (m := List.range (bksM s).length) fun x hx => by
      rcases List.mem_cons.mp hx with rfl | hx
      · exact List.mem_range.mpr hb
      · exact List.mem_range.mpr (h2 x hx)
    rw [List.length_cons, List.length_range] at this
    omega
theorem LX.Ok.isBook {L : LX} (O : L.Ok) {b : Nat} : L2.K10.isBook L.st (nV b) = decide (b < L.Y.n - L.h) := by
  obtain ⟨G, hl⟩ := gs_of O.gy O.h1 O.h2 O.h3 O.st
  have hk := book_lt (s := L.st) G.nd G.lt (b := b)
  rw [hl] at hk
  have := O.h1
  have := O.h3
  by_cases hb : b < L.Y.n
  · rw [Bool.eq_iff_iff, isBook_iff (by rw [G.len]; exact hb), ← hk]
    exact decide_eq_true_iff.symm
  · rw [decide_eq_false (by omega)]
    have hn : isNum (nV b) 0 ((L.st.length : Int) - 1) = false := by
      show (decide ((0 : Int) ≤ (b : Int)) && decide ((b : Int) ≤ (L.st.length : Int) - 1)) = false
      rw [decide_eq_false (p := (b : Int) ≤ (L.st.length : Int) - 1) (by rw [G.len]; omega), Bool.and_false]
    unfold L2.K10.isBook
    rw [hn, Bool.false_and]
theorem LX.Ok.books {L : LX} (O : L.Ok) : ∀ x ∈ L.bs.map nV, L2.K10.isBook L.st x = true := fun x hx => by
  obtain ⟨b, hb, rfl⟩ := List.mem_map.mp hx
  rw [O.isBook]
  exact decide_eq_true (O.bk b hb)
/-- what the program's two searches answer, and the law's -/
theorem LX.Ok.answers {L : LX} (O : L.Ok) : ∃ res tt, fewM L.st.length L.Y.ties 1000 L.Y.g L.bs [(L.st, 0)] = some res ∧ ((res = none ∧ L.cost L.bs.length = []) ∨ ∃ Cp, res = some Cp ∧ Cp ≠ [] ∧ Same Cp (L.cost L.bs.length)) ∧ (L.cost L.bs.length ≠ [] → nearR' L.Y.n L.Y.ties 24 L.Y.g L.bs L.st 0 = some (some tt)) := by
  have hl := O.bl
  have O0 : COk (stands L.Y.n L.h) 0 [(L.st, 0)] := by
    refine ⟨fun f hf => ?_, fun f hf => ?_⟩ <;> (simp at hf; subst hf)
    · exact O.st
    · exact Nat.le_refl _
  obtain ⟨res, h1, h2⟩ := few_main (g := L.Y.g) O.fld L.bs [(L.st, 0)] [(L.st, 0)] 0 ⟨by simp, by simp, fun _ => Iff.rfl⟩ (by simp) O0 (by omega)
  have hc : L.cost L.bs.length = L.bs.foldl (dpS L.Y.ties L.Y.g) [(L.st, 0)] := by
    unfold LX.cost
    rw [List.take_length]
  rw [← hc] at h2
  by_cases hC : L.cost L.bs.length = []
  · exact ⟨res, 0, by rw [O.gs.len]; exact h1, h2, fun z => absurd hC z⟩
  · obtain ⟨tt, ht⟩ := near_main (g := L.Y.g) O.fld L.bs L.st 0 O.st (dp_come (g := L.Y.g) O.fld L.bs [(L.st, 0)] 0 O0 (by simp) (by omega) (fun f hf => by
      simp at hf
      subst hf
      exact ⟨[], trivial, rfl⟩) (by rw [← hc]; exact hC))
    exact ⟨res, tt, by rw [O.gs.len]; exact h1, h2, fun _ => ht⟩
section
variable {P : Program} {w : World} {K : PySem.W.Frag} {mg : Str → Option Value} {base : Heap} {f : Addr} {cd : Value} {A : Around} {o : List Env} {s : Shared} {H0 : Hp} {E : XK}
abbrev LX.s12 (L : LX) (d2 cm : Addr) (z11 z13 z14 z15 : Option V) (now : Addr) (tot : Nat) (z18 z19 z20 z21 : Option V) : St := L.sl ++ [some (.ref d2), z11, some (.ref cm), z13, z14, z15, some (.ref now), some (nV tot), z18, z19, z20, z21, none, none, none]
theorem law_told {T : Tbs} {CB CN : Addr} (hr : Room 5 (A.deeper (lawEnv s f cd))) (mI : mg "min" = none) (gN : mg "NoWay" = some (.ref CN)) (eN : PySem.W.exmOne K (.ref CN) (.ref CN) = some true) (cF : Cal P w K mg base (L2.CX P w) 5 "fewest_slides" ["yard", "standing", "asks"] (spFew CB CN T))
    (cN : Cal P w K mg base (L2.CX P w) 5 "nearest_slides" ["yard", "standing", "asks"] (spNear' CB CN T)) (cA : Cal P w K mg base CX0 2 "_law_alike" ["_law_found", "_law_due"] (spAlk T)) :
    ∃ t, PS (XL P w K mg base f cd A o s H0 E) (bd 12) t ∧ ∀ (L : LX) (O : L.Ok) (d2 cm : Addr) (z11 z13 z14 z15 : Option V) (now : Addr) (tot : Nat) (z18 z19 z20 : Option V) (res : Option (List (Sg × Nat))) (H : Hp) (D : Ends), L.At P w K T H → DN P w H d2 (L.cost L.bs.length) →
      fewM L.st.length L.Y.ties 1000 L.Y.g L.bs [(L.st, 0)] = some res → ((res = none ∧ L.cost L.bs.length = []) ∨ ∃ Cp, res = some Cp ∧ Cp ≠ [] ∧ Same Cp (L.cost L.bs.length)) → (L.cost L.bs.length ≠ [] → nearR' L.Y.n L.Y.ties 24 L.Y.g L.bs L.st 0 = some (some tot)) →
      (∀ z21 H', Ex T H H' → D.nx (L.s12 d2 cm z11 z13 z14 z15 now tot z18 z19 z20 z21) H') → t D (L.s11 d2 cm z11 z13 z14 z15 now tot z18 z19 z20) H := by
  have hu := hu_of hr
  obtain ⟨fF, fdF, gF, kF, bF, GF⟩ := cF
  obtain ⟨fN, fdN, gNs, kN, bN, GN⟩ := cN
  obtain ⟨fA, fdA, gA, kA, bA, GA⟩ := cA
  refine ⟨_, ps_try_as (i := 22)
      (tb := fun W => tSeq (tAsg (tLst (tCons (tCallS (spFew CB CN T) (fun σ => WE W σ) (tCons (tVar 2) (tCons (tVar 6) (tCons (tVar 8) tNil)))) (tCons (tCallS (spNear' CB CN T) (fun σ => WE W σ) (tCons (tVar 2) (tCons (tVar 6) (tCons (tVar 8) tNil)))) tNil))) (gName 21))
        (tIfS (tOr (tTest (tOp (rEqE P w) (tVar 10) tDNewK)) (tNot (tB (tCall (spAlk T) [] E0 (tCons (tVar 21) (tCons (tLst (tCons (tCB (rMin K) (tCons (tLc (iNk P w (tVar 10)) (gName 11) tYes (tNGet P w (tVar 10) (tVar 11)) [11]) tNil)) (tCons (tVar 17) tNil))) tNil)))))) (tRet (tC (.bl false))) tNext))
      (ts := fun _ _ _ => tIfS (tTest (tOp (rNeE P w) (tVar 10) tDNewK)) (tRet (tC (.bl false))) tNext)
      rfl rfl scLaw.nd rfl rfl ⟨rfl, by decide, .inl gN⟩ takes0 (fun W pn xe tk _ =>
      pss_cons (ps_set (i := 21) scLaw.nd rfl (.inl rfl) (pe_lst (pa_cons (pe_callS GF hr (by rfl) gF kF bF (fun σ => passAt tk σ) (pa_cons (pv 2) (pa_cons (pv 6) (pa_cons (pv 8) pa_nil)))) (pa_cons (pe_callS GN hr (by rfl) gNs kN bN (fun σ => passAt tk σ) (pa_cons (pv 2) (pa_cons (pv 6) (pa_cons (pv 8) pa_nil)))) pa_nil))))
      (pss_one (ps_if (PW.pt (pw_or (pt_cmpR (op_eqE hu) (pv 10) pe_dnewK (by rfl)) (pw_or1 (pt_not (pt_val (pe_call GA (hr.mono (by decide)) (by rfl) gA kA bA .nil pass0 (pa_cons (pv 21) (pa_cons (pe_lst (pa_cons
          (pe_callB (cr_min (by rfl)) (by rfl) mI (by decide +kernel) (pa_cons (pe_lc (own := [("_law_one", 11)]) (g := gName 11) (tt := tYes) (te := tNGet P w (tVar 10) (tVar 11)) (by rfl) scLaw.nd (pi_nk (pv 10))
            (blkOk_by (own := [("_law_one", 11)]) (N := nLaw) (sc := defScope (top 38)) (by decide +kernel)) (fun _ _ _ _ _ => pg_name (i := 11) scLaw.nd rfl (.inl rfl)) (fun _ _ _ _ _ => pts_nil) (fun _ _ _ _ _ => pe_nget hu (pv 10) (pv 11) (fun _ _ => rfl))) pa_nil))
          (pa_cons (pv 17) pa_nil))) pa_nil)))))))) (pss_one (ps_ret pe_bl)) pss_nil)))
    (fun a oe cls d pn hz hf => pss_one (ps_if (pt_cmpR (r := rNeE P w) (op_neE hu) (pv 10) pe_dnewK (by rfl)) (pss_one (ps_ret pe_bl)) pss_nil)), ?_⟩
  intro L O d2 cm z11 z13 z14 z15 now tot z18 z19 z20 res H D hA hC hfew hres hnear k
  simp only [cxp, cxw, cxk, cxp', cxw', cxk']
  obtain ⟨xC, epC, hd, pC⟩ := id hC
  have lC := Paired.length pC
  have hask : ∀ x ∈ L.bs.map nV, Askd x := fun x hx => by
    obtain ⟨b, _, rfl⟩ := List.mem_map.mp hx
    exact .int _
  have hbl := O.bl
  obtain ⟨I, hCn, _⟩ := O.cost L.bs.length (Nat.le_refl _)
  have hCl : (L.cost L.bs.length).length ≤ 24 := by
    have := nodup_few hCn (m := stands L.Y.n L.h) fun x hx => by
      obtain ⟨e, he, rfl⟩ := List.mem_map.mp hx
      exact I.inU e he
    rw [List.length_map] at this
    exact Nat.le_trans this O.fld.clo.len
  refine ⟨_, rfl, _, rfl, _, rfl, L.y, L.a, .ref L.l, L.Y, L.st, rfl, hA.yd, hA.sg, O.gs, hA.tb, .inr ⟨L.l, L.bs.map nV, rfl, hA.ak, by rw [List.length_map]; omega, hask, fun ⟨x, hx, h⟩ => ?_, fun _ => ⟨L.bs, res, 1000, rfl, hfew, fun hn H1 e1 => ?_, fun Cp hCp m H1 hm hmin e1 => ?_⟩⟩⟩
  · rw [O.books x hx] at h
    cases h
  · -- no way: the suite
    have hC0 : L.cost L.bs.length = [] := by
      rcases hres with ⟨_, h⟩ | ⟨Cp, h, _⟩
      · exact h
      · rw [h] at hn
        cases hn
    have hx0 : xC = [] := List.eq_nil_of_length_eq_zero (by rw [lC, hC0]; rfl)
    subst hx0
    refine ⟨true, eN, fun _ a ha => ?_, fun z => nomatch z⟩
    refine ⟨_, rfl, fun e ne => ?_⟩
    have e2 := e1.trans (ex_new (T := T) (o := .dK []) ne)
    exact ⟨d2, e, [], rfl, rfl, ⟨epC, e2.keep _ _ hd own_sd.1, fun _ z => by cases z⟩, upd_same, false, rfl, k none _ e2⟩
  · obtain ⟨Cp', hcp, hne, S⟩ : ∃ Cp, res = some Cp ∧ Cp ≠ [] ∧ Same Cp (L.cost L.bs.length) := by
      rcases hres with ⟨h, _⟩ | h
      · rw [h] at hCp
        cases hCp
      · exact h
    obtain rfl : Cp = Cp' := Option.some.inj (hCp.symm.trans hcp)
    have hC0 := S.ne hne
    have A1 := hA.mono e1
    refine ⟨_, rfl, _, rfl, _, rfl, L.y, L.a, L.Y, L.st, L.l, L.bs, some tot, 24, rfl, A1.yd, A1.sg, O.gs, A1.tb, A1.ak, by omega, fun b hb => O.books _ (List.mem_map.mpr ⟨b, hb, rfl⟩), by rw [O.gs.len]; exact hnear hC0, (fun z => nomatch z), fun t ht H2 e2 => ?_⟩
    obtain rfl := Option.some.inj ht
    refine ⟨by show 2 ≤ sizeLine; decide, fun lt nlt => ?_⟩
    have e3 := (e1.trans e2).trans (ex_new (T := T) (o := .lst [nV m, nV tot]) nlt)
    have hlt : upd H2 lt (.lst [nV m, nV tot]) lt = some (.lst [nV m, nV tot]) := upd_same
    generalize upd H2 lt (.lst [nV m, nV tot]) = H3 at e3 hlt ⊢
    refine ⟨_, rfl, fun e ne => ?_⟩
    have en := ex_new (T := T) (o := .dK []) ne
    have e4 := e3.trans en
    have hlt4 := en.keep _ _ hlt own_lst.1
    have hev : upd H3 e (.dK []) e = some (.dK []) := upd_same
    generalize upd H3 e (.dK []) = H4 at e4 hlt4 hev ⊢
    have hd4 := e4.keep _ _ hd own_sd.1
    have pC4 := er_mono e4.tps (fun _ _ z => z) pC
    have hxe : xC.isEmpty = false := by
      cases xC with
      | nil => exact absurd (List.eq_nil_of_length_eq_zero lC.symm) hC0
      | cons _ _ => rfl
    refine ⟨d2, e, xC, rfl, rfl, ⟨epC, hd4, er_keys pC4⟩, hev, xC.isEmpty, rfl, ?_⟩
    rw [hxe]
    refine ⟨_, rfl, _, rfl, d2, xC, epC, rfl, hd4, fun D1 nD1 => ?_⟩
    generalize L.cost L.bs.length = C at hC hres hnear hC0 hCn I hCl S pC pC4 lC
    refine lc_it walk_nk (fun j H5 => Ex T H4 H5 ∧ H5 D1 = some (.lst ((C.take j).map fun f => nV f.2))) ⟨ex_new nD1, upd_same⟩ (fun j H5 _ ⟨e5, _⟩ => e5.keep _ _ hd4 own_sd.1) (fun j x H5o H5 hj hP hy => ?_) (fun H5 hP => ?_)
    · obtain ⟨e5, hD5⟩ := hP
      obtain ⟨rfl, kk, ka, v, hx, rfl⟩ := hy
      have pC5 := er_mono e5.tps (fun _ _ z => z) pC4
      obtain ⟨u, hu5, huk, hua, huv⟩ := paired_at pC5 hx
      simp only at huk hua huv
      subst huk
      obtain ⟨v3, hget, rfl⟩ := er_some pC5 (aget_of_mem hCn (List.mem_of_getElem? hu5))
      refine ⟨rfl, _, rfl, _, rfl, d2, xC, ka, u.1, _, rfl, ⟨epC, e5.keep _ _ hd4 own_sd.1, er_keys pC5⟩, rfl, hua, hget, _, hD5, small32 (by rw [List.length_map, List.length_take]; omega), e5.write nD1 hD5 own_lst, ?_⟩
      rw [upd_same, List.take_add_one, hu5, List.map_append]
      rfl
    · obtain ⟨e5, hD5⟩ := hP
      rw [lC, List.take_length] at hD5
      refine ⟨D1, C.map fun f => (f.2 : Int), rfl, .of ?_, ?_, fun m2 hm2 hmin2 => ?_⟩
      · rw [List.map_map]
        exact hD5
      · rw [List.length_map]
        exact List.length_pos_iff.mpr hC0
      · have hm2m : m2 = (m : Int) := by
          obtain ⟨u, hu5, rfl⟩ := List.mem_map.mp hm2
          obtain ⟨v, hv, rfl⟩ := List.mem_map.mp hm
          have h1 := hmin u.2 (List.mem_map.mpr ⟨u, (S.mem u).mpr hu5, rfl⟩)
          have h2 := hmin2 v.2 (List.mem_map.mpr ⟨v, (S.mem v).mp hv, rfl⟩)
          omega
        subst hm2m
        refine ⟨_, rfl, by show 2 ≤ sizeLine; decide, fun l2 nl2 => ?_⟩
        have en2 := ex_new (T := T) (o := .lst [V.int (m : Int), nV tot]) nl2
        refine ⟨lt, l2, m, tot, rfl, en2.keep _ _ (e5.keep _ _ hlt4 own_lst.1) own_lst.1, upd_same, fun H6 e6 => ?_⟩
        exact ⟨true, rfl, k (some (.ref lt)) H6 (e4.trans (e5.trans (en2.trans e6)))⟩
end
end L2.K10

set_option Elab.async false
set_option linter.all false
set_option maxRecDepth 100000
set_option maxHeartbeats 800000
/-! the law's own farthest ask -/
namespace L2.K10
open PySem PySem.Spec PyProof.Rows
/-- the outer block's scope -/
def scDue : Scope := { kind := .function, names := [(".0", .local), ("_law_book", .cell), ("min", .globalImplicit), ("_law_far", .free), ("_law_gate", .free), ("_law_standing_here", .free)], isGenerator := false, isCoroutine := false, more := [] }
section
variable {P : Program} {w : World} {K : PySem.W.Frag} {mg : Str → Option Value} {base : Heap} {f : Addr} {cd : Value} {A : Around} {o : List Env} {s : Shared} {H0 : Hp} {E : XK}
abbrev LX.s14 (L : LX) (d2 cm : Addr) (z11 z13 z14 z15 : Option V) (now : Addr) (tot : Nat) (z18 z19 z20 z21 z23 : Option V) : St := L.sl ++ [some (.ref d2), z11, some (.ref cm), z13, z14, z15, some (.ref now), some (nV tot), z18, z19, z20, z21, none, z23, none]
theorem law_due {T : Tbs} (hr : Room 5 (A.deeper (lawEnv s f cd))) (mI : mg "min" = none) (mX : mg "max" = none) (mL : mg "len" = none) (mR : mg "range" = none) :
    ∃ t, PS (XL P w K mg base f cd A o s H0 E) (bd 14) t ∧ ∀ (L : LX) (O : L.Ok) (R : List (Sg × Word)) (d2 cm : Addr) (z11 z13 z14 z15 : Option V) (now : Addr) (tot : Nat) (z18 z19 z20 z21 : Option V) (cs : List Int) (H : Hp) (D : Ends), L.At P w K T H → H cm = some (.lst (cs.map V.int)) →
      aget (farM L.Y.ties L.st) L.st = some (lensM R) → R.length ≤ 24 → (R.map (·.1)).Nodup → (∀ f ∈ R, f.1.length = L.Y.n) → (∀ b ∈ comeL L.Y.g R, b < L.Y.n - L.h) → cs.length = (farF L.Y.g R).length →
      (∀ z11 z13 z23 H', Ex T H H' → ((farF L.Y.g R).length ≠ L.Y.n - L.h → z23 = V.non) → ((farF L.Y.g R).length = L.Y.n - L.h → ∃ (k : Nat) (ms : List Nat), z23 = nV k ∧ ms.length = L.Y.n - L.h ∧ (∀ b, b < L.Y.n - L.h → ∃ m, ms[b]? = some m ∧ LeastW L.Y.g R b m) ∧ k ∈ ms ∧ ∀ j ∈ ms, j ≤ k) →
        D.nx (L.s14 d2 cm z11 z13 z14 z15 now tot z18 z19 z20 z21 (some z23)) H') → t D (L.s14 d2 cm z11 z13 z14 z15 now tot z18 z19 z20 z21 (some .non)) H := by
  have hu := hu_of hr
  refine ⟨_, ps_if (pt_cmpR op_eq (pe_callB call_len (by rfl) mL boot_len (pa_cons (pv 12) pa_nil)) (pv 7) (nomark _))
    (pss_one (ps_set (i := 23) scLaw.nd rfl (.inl rfl) (pe_callB (cr_max (by rfl)) (by rfl) mX (by decide +kernel) (pa_cons
      (pe_lc (own := [("_law_book", 13)]) (g := gName 13) (tt := tYes)
        (te := tCB (rMin K) (tCons (tLc (iNk P w (tNGet P w (tVar 9) (tVar 6))) (gName 11) (tTest (tOp rEq (tOp (rIxT K) (tVar 11) (tVar 4)) (tVar 13))) (tNGet P w (tNGet P w (tVar 9) (tVar 6)) (tVar 11)) [11]) tNil)) (by rfl) scLaw.nd
        (pi_range1 (by rfl) mR (pa_cons (pv 7) pa_nil)) (blkOk_by (own := [("_law_book", 13)]) (N := nLaw) (sc := defScope (top 38)) (by decide +kernel)) (fun _ _ _ _ _ => pg_name (i := 13) scLaw.nd rfl (.inr rfl)) (fun _ _ _ _ _ => pts_nil)
        (fun _ _ _ _ _ => pe_callB (cr_min (by rfl)) (by rfl) mI (by decide +kernel) (pa_cons
          (pe_lc (own := [("_law_one", 11)]) (g := gName 11) (tt := tTest (tOp rEq (tOp (rIxT K) (tVar 11) (tVar 4)) (tVar 13))) (te := tNGet P w (tNGet P w (tVar 9) (tVar 6)) (tVar 11)) (by rfl) scLaw.nd
            (pi_nk (pe_nget hu (pv 9) (pv 6) (fun _ _ => rfl))) (blkOk_by (own := [("_law_one", 11)]) (N := nLaw) (sc := relS scDue (defScope (top 38))) (by decide +kernel)) (fun _ _ _ _ _ => pg_name (i := 11) scLaw.nd rfl (.inl rfl))
            (fun _ _ _ _ _ => pts_one (pt_cmpR op_eq (pe_ix ix_tup (pv 11) (pv 4) (fun _ _ => rfl)) (pv 13) (nomark _)))
            (fun _ _ _ _ _ => pe_nget hu (pe_nget hu (pv 9) (pv 6) (fun _ _ => rfl)) (pv 11) (fun _ _ => rfl))) pa_nil)))
      pa_nil)))) pss_nil, ?_⟩
  intro L O R d2 cm z11 z13 z14 z15 now tot z18 z19 z20 z21 cs H D hA hcm hfar hRl hRn hRk hlt hcs k
  simp only [cxp, cxw, cxk, cxp', cxw', cxk']
  have hnb : ((farF L.Y.g R).length = L.Y.n - L.h) ↔ decide (V.int ((cs.map V.int).length : Nat) = nV (L.Y.n - L.h)) = true := by
    rw [List.length_map, hcs, decide_eq_true_iff]
    exact ⟨fun h => by rw [h]; rfl, fun h => by
      have h := V.int.inj h
      omega⟩
  refine ⟨_, rfl, .ref cm, (cs.map V.int).length, rfl, .inl ⟨_, .of hcm, rfl⟩, _, rfl, rfl, _, rfl, ite2 (fun hq => ?_) (fun hq => ?_)⟩
  · have hfl := hnb.mpr hq
    have h1 := O.h1
    have h3 := O.h3
    have n4 := O.gy.n4
    obtain ⟨nb, hnbe⟩ : ∃ nb, nb = L.Y.n - L.h := ⟨_, rfl⟩
    have hRF : (lensM R).length ≤ 24 := by unfold lensM; rw [List.length_map]; exact hRl
    have hRFn : ((lensM R).map (·.1)).Nodup := by rw [lensM_keys]; exact hRn
    have hRFk : ∀ u ∈ lensM R, u.1.length = L.Y.n := fun u hu => by
      obtain ⟨q, hq, rfl⟩ := List.mem_map.mp hu
      exact hRk q hq
    refine ⟨_, rfl, _, rfl, ?_, ?_, fun D1 nD1 => ?_⟩
    · show -2 ^ 62 ≤ ((L.Y.n - L.h : Nat) : Int)
      omega
    · show ((L.Y.n - L.h : Nat) : Int) < 2 ^ 62
      omega
    have hk1 : (((L.Y.n - L.h : Nat) : Int)).toNat = nb := by omega
    show ∃ W, _
    rw [hk1]
    refine lc_range (n := nb) (fun i H1 => ∃ ms : List Nat, Ex T H H1 ∧ H1 D1 = some (.lst (ms.map nV)) ∧ ms.length = i ∧ ∀ b, b < i → ∃ m, ms[b]? = some m ∧ LeastW L.Y.g R b m)
      ⟨[], ex_new nD1, upd_same, rfl, fun b hb => by omega⟩ (fun i H1 hi hP => ?_) (fun H1 hP => ?_)
    · obtain ⟨ms, e1, hD1, hml, hms⟩ := hP
      have zi : (0 : Int) + (i : Nat) = ((i : Nat) : Int) := by omega
      rw [zi]
      obtain ⟨f0, hf0, hg0⟩ := come_all hfl hlt (b := i) (by omega)
      have A1 := hA.mono e1
      obtain ⟨xF, epF, hF1, pF1⟩ := A1.far
      obtain ⟨vf, hvf, df, rfl, xW, epW, hdf, pW⟩ := er_some pF1 hfar
      have lW : xW.length = (lensM R).length := Paired.length pW
      refine ⟨rfl, _, rfl, _, rfl, L.d1, xF, L.a, L.st, _, rfl, ⟨epF, hF1, er_keys pF1⟩, rfl, A1.sg, hvf, df, xW, epW, rfl, hdf, fun D2 nD2 => ?_⟩
      refine lc_it walk_nk (fun j H2 => Ex T H1 H2 ∧ H2 D2 = some (.lst ((((lensM R).take j).filter (atG L.Y.g i)).map fun u => nV u.2))) ⟨ex_new nD2, upd_same⟩ (fun j H2 _ ⟨e2, _⟩ => e2.keep _ _ hdf own_sd.1) (fun j x H2o H2 hj hP hy => ?_) (fun H2 hP => ?_)
      · obtain ⟨e2, hD2⟩ := hP
        obtain ⟨rfl, kk, oa, v, hx2, rfl⟩ := hy
        obtain ⟨u, hu, huk, hua, huv⟩ := paired_at pW hx2
        simp only at huk hua huv
        subst huk
        have hua2 := hua.mono e2.tps
        have hum := List.mem_of_getElem? hu
        have hglt : L.Y.g < u.1.length := by rw [hRFk u hum]; exact O.gy.g
        refine ⟨rfl, _, rfl, _, rfl, oa, _, _, _, rfl, rfl, .of hua2, atI_nat (oV_at hglt), _, rfl, ?_, _, rfl, ?_⟩
        · cases u.1.getD L.Y.g none <;> rfl
        have hdec : decide (oV (u.1.getD L.Y.g none) = V.int (i : Int)) = atG L.Y.g i u := by
          unfold atG
          exact decide_eq_decide.mpr ⟨fun h => oV_inj (b := some i) h, fun h => by rw [h]; rfl⟩
        rw [hdec]
        cases hw : atG L.Y.g i u with
        | false =>
          refine ⟨e2, ?_⟩
          rw [List.take_add_one, hu, List.filter_append]
          simp only [Option.toList, List.filter_cons, hw, List.filter_nil, List.append_nil, Bool.false_eq_true, if_false]
          exact hD2
        | true =>
          have pF2 : Paired (ER (fun _ _ _ => True) H2) xF (farM L.Y.ties L.st) := Paired.mapP pF1 fun _ _ ⟨q1, q2, _⟩ => ⟨q1, q2.mono e2.tps, trivial⟩
          have pW2 := er_mono e2.tps (fun _ _ z => z) pW
          obtain ⟨v2, hv2, rfl⟩ := er_some pW2 (aget_of_mem hRFn hum)
          refine ⟨_, rfl, _, rfl, L.d1, xF, L.a, L.st, _, rfl, ⟨epF, e2.keep _ _ hF1 own_sd.1, er_keys pF2⟩, rfl, A1.sg.mono e2.tps, hvf, ?_⟩
          have hle : (((lensM R).take j).filter (atG L.Y.g i)).length ≤ (lensM R).length := Nat.le_trans (List.length_filter_le _ _) (by rw [List.length_take]; omega)
          refine ⟨_, rfl, df, xW, oa, u.1, _, rfl, ⟨epW, e2.keep _ _ hdf own_sd.1, er_keys pW2⟩, rfl, hua2, hv2, _, hD2, small32 (by rw [List.length_map]; omega), e2.write nD2 hD2 own_lst, ?_⟩
          rw [upd_same, List.take_add_one, hu, List.filter_append, List.map_append]
          simp only [Option.toList, List.filter_cons, hw, List.filter_nil, if_true, List.map_cons, List.map_nil]
      · obtain ⟨e2, hD2⟩ := hP
        rw [lW, List.take_length] at hD2
        have hin : (f0.1, f0.2.length) ∈ (lensM R).filter (atG L.Y.g i) := List.mem_filter.mpr ⟨List.mem_map.mpr ⟨f0, hf0, rfl⟩, decide_eq_true hg0⟩
        refine ⟨D2, ((lensM R).filter (atG L.Y.g i)).map fun u => (u.2 : Int), rfl, .of ?_, ?_, fun m hm hmin => ?_⟩
        · rw [List.map_map]
          exact hD2
        · rw [List.length_map]
          exact List.length_pos_iff.mpr fun z => by rw [z] at hin; cases hin
        · obtain ⟨u, hu, rfl⟩ := List.mem_map.mp hm
          obtain ⟨hu1, hu2⟩ := List.mem_filter.mp hu
          obtain ⟨q, hq, rfl⟩ := List.mem_map.mp hu1
          have hleast : LeastW L.Y.g R i q.2.length := ⟨⟨q, hq, of_decide_eq_true hu2, rfl⟩, fun p hp hpg => by
            have := hmin (p.2.length : Int) (List.mem_map.mpr ⟨(p.1, p.2.length), List.mem_filter.mpr ⟨List.mem_map.mpr ⟨p, hp, rfl⟩, decide_eq_true hpg⟩, rfl⟩)
            simp only at this
            omega⟩
          have hD12 := e2.keep _ _ hD1 own_lst.1
          refine ⟨_, hD12, small32 (by rw [List.length_map]; omega), ms ++ [q.2.length], (e1.trans e2).write nD1 hD12 own_lst, by rw [upd_same, List.map_append]; rfl, by rw [List.length_append, hml]; rfl, fun b hb => ?_⟩
          by_cases hbi : b < i
          · obtain ⟨m, h1, h2⟩ := hms b hbi
            exact ⟨m, by rw [List.getElem?_append_left (by omega)]; exact h1, h2⟩
          · obtain rfl : b = i := by omega
            exact ⟨q.2.length, by rw [List.getElem?_append_right (by omega), hml, Nat.sub_self]; rfl, hleast⟩
    · obtain ⟨ms, e1, hD1, hml, hms⟩ := hP
      refine ⟨D1, ms.map fun n : Nat => (n : Int), rfl, .of ?_, ?_, fun m hm hmax => ?_⟩
      · rw [List.map_map]
        exact hD1
      · rw [List.length_map]
        omega
      · obtain ⟨j, hj, rfl⟩ := List.mem_map.mp hm
        exact k _ _ (nV j) H1 e1 (fun z => absurd hfl z) fun _ => ⟨j, ms, rfl, by omega, by rw [← hnbe]; exact fun b hb => hms b hb, hj, fun i hi => by
          have := hmax i (List.mem_map.mpr ⟨i, hi, rfl⟩)
          omega⟩
  · exact k _ _ .non H .refl (fun _ => rfl) (fun z => absurd (hnb.mp z) hq)
end
end L2.K10

set_option Elab.async false
set_option linter.all false
set_option maxRecDepth 100000
set_option maxHeartbeats 800000
/-! the law's last looks -/
namespace L2.K10
open PySem PySem.Spec PyProof.Rows
theorem LX.At.back {P : Program} {w : World} {K : PySem.W.Frag} {T : Tbs} {L : LX} {H H' : Hp} (A : L.At P w K T H) (e : Exr T L.r H H') (hR : Rw K H' L.r L.sc L.ns) : IsY H' L.y L.Y ∧ IsSg H' L.a L.st ∧ Tb T H' :=
  ⟨A.yd.mono (A.row.tps e), A.sg.mono (A.row.tps e), e.tab A.tb⟩
section
variable {P : Program} {w : World} {K : PySem.W.Frag} {mg : Str → Option Value} {base : Heap} {f : Addr} {cd : Value} {A : Around} {o : List Env} {s : Shared} {H0 : Hp} {E : XK}
theorem law_far {T : Tbs} (hr : Room 5 (A.deeper (lawEnv s f cd))) (cR : Cal P w K mg base CX0 5 "farthest_ask" ["yard", "standing"] (spFar T)) (cA : Cal P w K mg base CX0 1 "_law_alike" ["_law_found", "_law_due"] (spAlk0 T)) :
    ∃ t, PS (XL P w K mg base f cd A o s H0 E) (bd 15) t ∧ ∀ (L : LX) (O : L.Ok) (R : List (Sg × Word)) (d2 cm : Addr) (z11 z13 z14 z15 : Option V) (now : Addr) (tot : Nat) (z18 z19 z20 z21 : Option V) (z23 : V) (H : Hp) (D : Ends), L.At P w K T H →
      pRun L.Y.ties 24 [(L.st, [])] [L.st] = some R → R.length ≤ 24 → (∀ f ∈ R, f.1.length = L.Y.n ∧ f.2.length < 24) → (∀ b ∈ comeL L.Y.g R, b < L.Y.n - L.h) →
      ((farF L.Y.g R).length ≠ L.Y.n - L.h → z23 = V.non) → ((farF L.Y.g R).length = L.Y.n - L.h → ∃ (k : Nat) (ms : List Nat), z23 = nV k ∧ ms.length = L.Y.n - L.h ∧ (∀ b, b < L.Y.n - L.h → ∃ m, ms[b]? = some m ∧ LeastW L.Y.g R b m) ∧ k ∈ ms ∧ ∀ j ∈ ms, j ≤ k) →
      (∀ H', Ex T H H' → D.nx (L.s14 d2 cm z11 z13 z14 z15 now tot z18 z19 z20 z21 (some z23)) H') → t D (L.s14 d2 cm z11 z13 z14 z15 now tot z18 z19 z20 z21 (some z23)) H := by
  obtain ⟨fR, fdR, gR, kR, bR, GR⟩ := cR
  obtain ⟨fA, fdA, gA, kA, bA, GA⟩ := cA
  refine ⟨_, ps_if (pt_not (pt_val (pe_call GA (hr.mono (by decide)) (by rfl) gA kA bA .nil pass0 (pa_cons (pe_call GR hr (by rfl) gR kR bR .nil pass0 (pa_cons (pv 2) (pa_cons (pv 6) pa_nil))) (pa_cons (pv 23) pa_nil))))) (pss_one (ps_ret pe_bl)) pss_nil, ?_⟩
  intro L O R d2 cm z11 z13 z14 z15 now tot z18 z19 z20 z21 z23 H D hA hrun hRl hRk hlt hn hs k
  have hb := (gs_of O.gy O.h1 O.h2 O.h3 O.st).2
  refine ⟨_, rfl, _, rfl, L.y, L.a, L.Y, L.st, 24, R, rfl, hA.yd, hA.sg, O.gs, hA.tb, hrun, by omega, fun f hf => ⟨by rw [O.gs.len]; exact (hRk f hf).1, by have := (hRk f hf).2; omega⟩, fun hl m H1 hm hmax e1 => ?_, fun hl H1 e1 => ?_⟩
  · rw [hb] at hl
    obtain ⟨q, ms, rfl, h1, h2, h3, h4⟩ := hs hl
    obtain rfl := far_max hl hlt h2 h1 hm hmax h3 h4
    exact ⟨_, rfl, nV m, rfl, .inr ⟨m, rfl⟩, fun H2 e2 => ⟨true, rfl, k H2 (e1.trans e2)⟩⟩
  · rw [hb] at hl
    obtain rfl := hn hl
    exact ⟨_, rfl, .non, rfl, .inl rfl, fun H2 e2 => ⟨true, rfl, k H2 (e1.trans e2)⟩⟩
theorem law_last {T : Tbs} {CB CN : Addr} (hr : Room 5 (A.deeper (lawEnv s f cd))) (gB : mg "BadBook" = some (.ref CB)) (eB : PySem.W.exmOne K (.ref CB) (.ref CB) = some true) (cF : Cal P w K mg base (L2.CX P w) 5 "fewest_slides" ["yard", "standing", "asks"] (spFew CB CN T)) (cP : Cal P w K mg base CX0 2 "_law_pick" ["_law_row", "_law_things"] (spPick K T)) :
    ∃ t, PS (XL P w K mg base f cd A o s H0 E) (bd 16) t ∧ ∀ (L : LX) (O : L.Ok) (d2 cm : Addr) (z11 z13 z14 z15 : Option V) (now : Addr) (tot : Nat) (z18 z19 z20 z21 z23 : Option V) (H : Hp) (D : Ends), L.At P w K T H →
      (∀ H', D.rt (.bl true) H') → t D (L.s14 d2 cm z11 z13 z14 z15 now tot z18 z19 z20 z21 z23) H := by
  obtain ⟨fF, fdF, gF, kF, bF, GF⟩ := cF
  obtain ⟨fP, fdP, gP, kP, bP, GP⟩ := cP
  refine ⟨_, ps_try_as (i := 22)
      (tb := fun W => tDrop (tCallS (spFew CB CN T) (fun σ => WE W σ) (tCons (tVar 2) (tCons (tVar 6) (tCons (tCall (spPick K T) [] E0 (tCons (tVar 1) (tCons (tLst (tCons (tC .non) (tCons (tLst (tCons (tC (.int 0)) tNil)) (tCons (tTup (tCons (tVar 7) tNil)) (tCons (tTup (tCons (tC (.bl true)) tNil))
        (tCons (tOp (rRepT K) (tTup (tCons (tC (.int 0)) tNil)) (tC (.int 21))) (tCons (tTup (tCons (tC .non) tNil)) tNil))))))) tNil))) tNil)))))
      (ts := fun _ _ _ => tRet (tC (.bl true))) rfl rfl scLaw.nd rfl rfl ⟨rfl, by decide, .inl gB⟩ takes0 (fun W pn xe tk _ =>
      pss_one (ps_expr (pe_callS GF hr (by rfl) gF kF bF (fun σ => passAt tk σ) (pa_cons (pv 2) (pa_cons (pv 6) (pa_cons (pe_call GP (hr.mono (by decide)) (by rfl) gP kP bP .nil pass0 (pa_cons (pv 1) (pa_cons
        (pe_lst (pa_cons pe_non (pa_cons (pe_lst (pa_cons pe_int pa_nil)) (pa_cons (pe_tup (pa_cons (pv 7) pa_nil)) (pa_cons (pe_tup (pa_cons pe_bl pa_nil)) (pa_cons (pe_op op_repT (pe_tup (pa_cons pe_int pa_nil)) pe_int) (pa_cons (pe_tup (pa_cons pe_non pa_nil)) pa_nil))))))) pa_nil))) pa_nil))))))
    (fun a oe cls d pn hz hf => pss_one (ps_ret pe_bl)), ?_⟩
  intro L O d2 cm z11 z13 z14 z15 now tot z18 z19 z20 z21 z23 H D hA k
  simp only [cxp, cxw, cxk, cxp', cxw', cxk']
  refine ⟨_, rfl, _, rfl, _, rfl, ?_⟩
  refine ⟨by show 1 ≤ sizeLine; decide, fun q1 n1 => ?_⟩
  have e1 := ex_new (T := T) (o := .lst [V.int 0]) n1
  have h1 : upd H q1 (.lst [V.int 0]) q1 = some (.lst [V.int 0]) := upd_same
  generalize upd H q1 (.lst [V.int 0]) = H1 at e1 h1 ⊢
  refine ⟨_, rfl, by show 1 ≤ sizeLine; decide, fun q2 n2 => ?_⟩
  have e2 := ex_new (T := T) (o := .tup [nV (L.Y.n - L.h)]) n2
  have h2 : upd H1 q2 (.tup [nV (L.Y.n - L.h)]) q2 = some (.tup [nV (L.Y.n - L.h)]) := upd_same
  generalize upd H1 q2 (.tup [nV (L.Y.n - L.h)]) = H2 at e2 h2 ⊢
  refine ⟨by show 1 ≤ sizeLine; decide, fun q3 n3 => ?_⟩
  have e3 := ex_new (T := T) (o := .tup [V.bl true]) n3
  have h3 : upd H2 q3 (.tup [V.bl true]) q3 = some (.tup [V.bl true]) := upd_same
  generalize upd H2 q3 (.tup [V.bl true]) = H3 at e3 h3 ⊢
  refine ⟨by show 1 ≤ sizeLine; decide, fun q4 n4 => ?_⟩
  have e4 := ex_new (T := T) (o := .tup [V.int 0]) n4
  have h4 : upd H3 q4 (.tup [V.int 0]) q4 = some (.tup [V.int 0]) := upd_same
  generalize upd H3 q4 (.tup [V.int 0]) = H4 at e4 h4 ⊢
  refine ⟨q4, 21, _, rfl, rfl, .of h4, by simp, by decide, by decide, by show 1 ≤ 1000; decide, fun q5 n5 => ?_⟩
  have e5 := ex_new (T := T) (o := .tup (List.replicate (21 : Int).toNat [V.int 0]).flatten) n5
  have h5 : upd H4 q5 (.tup (List.replicate (21 : Int).toNat [V.int 0]).flatten) q5 = some (.tup (List.replicate (21 : Int).toNat [V.int 0]).flatten) := upd_same
  generalize upd H4 q5 (.tup (List.replicate (21 : Int).toNat [V.int 0]).flatten) = H5 at e5 h5 ⊢
  refine ⟨by show 1 ≤ sizeLine; decide, fun q6 n6 => ?_⟩
  have e6 := ex_new (T := T) (o := .tup [V.non]) n6
  have h6 : upd H5 q6 (.tup [V.non]) q6 = some (.tup [V.non]) := upd_same
  generalize upd H5 q6 (.tup [V.non]) = H6 at e6 h6 ⊢
  refine ⟨by show 6 ≤ sizeLine; decide, fun q7 n7 => ?_⟩
  have e7 := ex_new (T := T) (o := .lst [V.non, .ref q1, .ref q2, .ref q3, .ref q5, .ref q6]) n7
  have h7 : upd H6 q7 (.lst [V.non, .ref q1, .ref q2, .ref q3, .ref q5, .ref q6]) q7 = some (.lst [V.non, .ref q1, .ref q2, .ref q3, .ref q5, .ref q6]) := upd_same
  generalize upd H6 q7 (.lst [V.non, .ref q1, .ref q2, .ref q3, .ref q5, .ref q6]) = H7 at e7 h7 ⊢
  have f6 := e7
  have f5 := e6.trans f6
  have f4 := e5.trans f5
  have f3 := e4.trans f4
  have f2 := e3.trans f3
  have f1 := e2.trans f2
  have f0 := e1.trans f1
  have A7 := hA.mono f0
  obtain ⟨uR, huR⟩ := hA.row.some
  have nr : ∀ {q : Addr}, H q = none → q ≠ L.r := fun {q} hq z => by rw [z, huR] at hq; cases hq
  have m1 := nr n1
  have m2 := nr (e1.free _ n2)
  have m3 := nr (e1.free _ (e2.free _ n3))
  have m5 := nr (e1.free _ (e2.free _ (e3.free _ (e4.free _ n5))))
  have m6 := nr (e1.free _ (e2.free _ (e3.free _ (e4.free _ (e5.free _ n6)))))
  have m7 := nr (e1.free _ (e2.free _ (e3.free _ (e4.free _ (e5.free _ (e6.free _ n7))))))
  refine ⟨L.r, L.sc, q7, L.ns, _, rfl, by show 0 < 6; decide, by show 6 ≤ 1000; decide, A7.row, O.nl, m7, h7, fun H8 n v hv e8 hR8 => ?_⟩
  obtain ⟨hY8, hS8, hT8⟩ := A7.back e8 hR8
  have g1 := e8.keep _ _ m1 (f1.keep _ _ h1 own_lst.1) own_lst.1
  have g2 := e8.keep _ _ m2 (f2.keep _ _ h2 own_tup.1) own_tup.1
  have g3 := e8.keep _ _ m3 (f3.keep _ _ h3 own_tup.1) own_tup.1
  have g5 := e8.keep _ _ m5 (f5.keep _ _ h5 own_tup.1) own_tup.1
  have g6 := e8.keep _ _ m6 (f6.keep _ _ h6 own_tup.1) own_tup.1
  have fin : ∀ H9, Ex T H8 H9 → wAs K (Value.ref CB) 22 (fun _ _ _ => tRet (tC (V.bl true))) (fun _ _ _ _ => False) D (.ref CB) none (L.s14 d2 cm z11 z13 z14 z15 now tot z18 z19 z20 z21 z23) H9 := fun H9 _ => ⟨true, eB, fun _ a _ => k H9, fun z => nomatch z⟩
  have one : ∀ (q : Addr) (x : V), H8 q = some (.tup [x]) → Askd x → isBook L.st x = false → ∃ l xs, V.ref q = .ref l ∧ H8 l = some (.tup xs) ∧ xs.length ≤ 20 ∧ (∀ x ∈ xs, Askd x) ∧ (∃ x ∈ xs, isBook L.st x = false) ∧ ¬ ∀ x ∈ xs, isBook L.st x = true := fun q x hq ha hb =>
    ⟨q, [x], rfl, hq, by show 1 ≤ 20; decide, fun y hy => by simp at hy; rw [hy]; exact ha, ⟨x, by simp, hb⟩, fun z => by rw [z x (by simp)] at hb; cases hb⟩
  have go : (∃ q x, v = .ref q ∧ H8 q = some (.tup [x]) ∧ Askd x ∧ isBook L.st x = false) ∨ BadAsk H8 v := by
    match n, hv with
    | 0, hv => exact .inr (.inl (Option.some.inj hv).symm)
    | 1, hv => exact .inr (.inr (.inl ⟨q1, _, (Option.some.inj hv).symm, g1⟩))
    | 2, hv => exact .inl ⟨q2, _, (Option.some.inj hv).symm, g2, .int _, by rw [O.isBook]; exact decide_eq_false (by omega)⟩
    | 3, hv => exact .inl ⟨q3, _, (Option.some.inj hv).symm, g3, .bl _, rfl⟩
    | 4, hv => exact .inr (.inr (.inr ⟨q5, _, (Option.some.inj hv).symm, g5, by decide⟩))
    | 5, hv => exact .inl ⟨q6, _, (Option.some.inj hv).symm, g6, .non, rfl⟩
    | n + 6, hv => simp at hv
  rcases go with ⟨q, x, rfl, hq, ha, hb⟩ | hb
  · obtain ⟨l, xs, h1, h2, h3, h4, h5, h6⟩ := one q x hq ha hb
    exact ⟨L.y, L.a, _, L.Y, L.st, rfl, hY8, hS8, O.gs, hT8, .inr ⟨l, xs, h1, h2, h3, h4, fun _ => fin, fun z => absurd z h6⟩⟩
  · exact ⟨L.y, L.a, v, L.Y, L.st, rfl, hY8, hS8, O.gs, hT8, .inl ⟨hb, fin⟩⟩
end
end L2.K10

set_option Elab.async false
set_option linter.all false
set_option maxRecDepth 100000
set_option maxHeartbeats 1600000
/-! the law -/
namespace L2.K10
open PySem PySem.Spec PyProof.Rows
/-- the books at the gate, by keys -/
def comeK (g : Nat) (ks : List Sg) : List Nat := ks.filterMap fun k => k.getD g none
theorem comeK_eq (g : Nat) (R : List (Sg × Word)) : comeK g (R.map (·.1)) = comeL g R := by
  unfold comeK comeL
  rw [List.filterMap_map]
  rfl
theorem comeK_snoc (g : Nat) {ks : List Sg} {j : Nat} {k : Sg} (h : ks[j]? = some k) : comeK g (ks.take (j + 1)) = comeK g (ks.take j) ++ (match k.getD g none with | some b => [b] | none => []) := by
  rw [List.take_add_one, h]
  unfold comeK
  rw [List.filterMap_append]
  congr 1
  simp only [Option.toList, List.filterMap_cons, List.filterMap_nil]
  cases k.getD g none <;> rfl
section
variable {P : Program} {w : World} {K : PySem.W.Frag} {mg : Str → Option Value} {base : Heap}
def spLaw (K : PySem.W.Frag) (T : Tbs) : Sp := fun vs H Q _ => ∃ (sc : Addr) (ns : List Int), vs = [.ref sc] ∧ SqL K H sc (ns.map V.int) ∧ ns.length ≤ 63 ∧ Tb T H ∧ ∀ H', Q (.bl true) H'
/-- the law's own defs, to be called -/
structure LOwn (P : Program) (w : World) (K : PySem.W.Frag) (mg : Str → Option Value) (base : Heap) (T : Tbs) (CB CN : Addr) : Prop where
  yard : Cal P w K mg base CX0 3 "_law_yard" ["_law_row", "_law_most"] (spYdL K T)
  taken : Cal P w K mg base CX0 1 "_law_taken" ["_law_row", "_law_many"] (spTaken K T)
  pick : Cal P w K mg base CX0 2 "_law_pick" ["_law_row", "_law_things"] (spPick K T)
  stand : Cal P w K mg base CX0 2 "_law_standing" ["_law_row", "_law_places", "_law_holes"] (spStL K T)
  all : Cal P w K mg base CX0 4 "_law_all" ["_law_yard_here", "_law_standing_here"] (spAllL P w T)
  words : Cal P w K mg base CX0 3 "_law_words" ["_law_yard_here", "_law_standing_here"] (spWordsL P w T)
  slid : Cal P w K mg base CX0 1 "_law_slid" ["_law_standing_here", "_law_slide"] (spSlid T)
  alk0 : Cal P w K mg base CX0 1 "_law_alike" ["_law_found", "_law_due"] (spAlk0 T)
  alk : Cal P w K mg base CX0 2 "_law_alike" ["_law_found", "_law_due"] (spAlk T)
  few : Cal P w K mg base (L2.CX P w) 5 "fewest_slides" ["yard", "standing", "asks"] (spFew CB CN T)
  near : Cal P w K mg base (L2.CX P w) 5 "nearest_slides" ["yard", "standing", "asks"] (spNear' CB CN T)
  far : Cal P w K mg base CX0 5 "farthest_ask" ["yard", "standing"] (spFar T)
  gB : mg "BadBook" = some (.ref CB)
  gN : mg "NoWay" = some (.ref CN)
  eB : PySem.W.exmOne K (.ref CB) (.ref CB) = some true
  eN : PySem.W.exmOne K (.ref CN) (.ref CN) = some true
  gone : ∀ x ∈ (["isinstance", "int", "bool", "len", "tuple", "list", "sorted", "enumerate", "min", "max", "any", "all", "zip", "set", "range", "dict", "str"] : List Str), mg x = none
theorem LOwn.no {T : Tbs} {CB CN : Addr} (M : LOwn P w K mg base T CB CN) {x : Str} (h : x ∈ (["isinstance", "int", "bool", "len", "tuple", "list", "sorted", "enumerate", "min", "max", "any", "all", "zip", "set", "range", "dict", "str"] : List Str) := by decide) : mg x = none := M.gone x h
theorem ok_law {T : Tbs} {CB CN : Addr} {f : Addr} {fd : FuncData} (M : LOwn P w K mg base T CB CN) (F : FnP K "law" 38 f fd) : FnOk P w K mg base CX0 6 f fd ["_law_script"] (spLaw K T) := by
  obtain ⟨fY, fdY, gY, kY, bY, GYd⟩ := M.yard
  obtain ⟨fT, fdT, gT, kT, bT, GT⟩ := M.taken
  obtain ⟨fS, fdS, gS, kS, bS, GS⟩ := M.stand
  obtain ⟨fA, fdA, gA, kA, bA, GA⟩ := M.all
  refine F.ok scLaw (fun vs H Q E h => ?_) (fun cdv A outer s H vs Q E hr h => ?_)
  · obtain ⟨sc, ns, rfl, _⟩ := h
    rfl
  · obtain ⟨sc, ns, rfl, hsc, hns, hTb, q⟩ := h
    have hu := hu_of hr
    obtain ⟨t9, p9, r9⟩ := law_costs (P := P) (w := w) (K := K) (mg := mg) (base := base) (f := f) (cd := cdv) (A := A) (o := outer) (s := s) (H0 := H) (E := E) (T := T) hr M.no
    obtain ⟨t11, p11, r11⟩ := law_near (P := P) (w := w) (K := K) (mg := mg) (base := base) (f := f) (cd := cdv) (A := A) (o := outer) (s := s) (H0 := H) (E := E) (T := T) hr M.no M.no M.words M.slid
    obtain ⟨t12, p12, r12⟩ := law_told (P := P) (w := w) (K := K) (mg := mg) (base := base) (f := f) (cd := cdv) (A := A) (o := outer) (s := s) (H0 := H) (E := E) (T := T) hr M.no M.gN M.eN M.few M.near M.alk
    obtain ⟨t14, p14, r14⟩ := law_due (P := P) (w := w) (K := K) (mg := mg) (base := base) (f := f) (cd := cdv) (A := A) (o := outer) (s := s) (H0 := H) (E := E) (T := T) hr M.no M.no M.no M.no
    obtain ⟨t15, p15, r15⟩ := law_far (P := P) (w := w) (K := K) (mg := mg) (base := base) (f := f) (cd := cdv) (A := A) (o := outer) (s := s) (H0 := H) (E := E) (T := T) hr M.far M.alk0
    obtain ⟨t16, p16, r16⟩ := law_last (P := P) (w := w) (K := K) (mg := mg) (base := base) (f := f) (cd := cdv) (A := A) (o := outer) (s := s) (H0 := H) (E := E) (T := T) hr M.gB M.eB M.few M.pick
    refine ⟨_, PSs.nox (pss_cons (ps_set (i := 1) scLaw.nd rfl (.inr rfl) (pe_lst (pa_cons (pv 0) (pa_cons pe_int (pa_cons pe_int (pa_cons pe_int pa_nil))))))
      (pss_cons (ps_set (i := 2) scLaw.nd rfl (.inl rfl) (pe_call GYd (hr.mono (by decide)) (by rfl) gY kY bY .nil pass0 (pa_cons (pv 1) (pa_cons pe_int pa_nil))))
      (pss_cons (ps_asg (pe_tup (pa_cons (pe_ix ix_tup (pv 2) pe_int (fun _ _ => rfl)) (pa_cons (pe_ix ix_tup (pv 2) pe_int (fun _ _ => rfl)) pa_nil))) (pg_tup (by rfl) (pgs_cons (pg_name (i := 3) scLaw.nd rfl (.inl rfl)) (pgs_cons (pg_name (i := 4) scLaw.nd rfl (.inr rfl)) pgs_nil))))
      (pss_cons (ps_set (i := 5) scLaw.nd rfl (.inl rfl) (pe_op op_add pe_int (pe_call GT (hr.mono (by decide)) (by rfl) gT kT bT .nil pass0 (pa_cons (pv 1) (pa_cons (pe_callB (call_min2 (by rfl)) (by rfl) M.no (by decide +kernel) (pa_cons pe_int (pa_cons (pe_op op_sub (pv 3) pe_int) pa_nil))) pa_nil)))))
      (pss_cons (ps_set (i := 6) scLaw.nd rfl (.inr rfl) (pe_call GS (hr.mono (by decide)) (by rfl) gS kS bS .nil pass0 (pa_cons (pv 1) (pa_cons (pv 3) (pa_cons (pv 5) pa_nil)))))
      (pss_cons (ps_set (i := 7) scLaw.nd rfl (.inr rfl) (pe_op op_sub (pv 3) (pv 5)))
      (pss_cons (ps_set (i := 8) scLaw.nd rfl (.inl rfl) (pe_callTy cr_tupOf (by rfl) M.no (by decide +kernel) (pa_cons
        (pe_lc (own := [("_law_turn", 24)]) (g := gName 24) (tt := tYes) (te := tCall (spTaken K T) [] E0 (tCons (tVar 1) (tCons (tVar 7) tNil))) (by rfl) scLaw.nd
          (pi_range1 (by rfl) M.no (pa_cons (pe_call GT (hr.mono (by decide)) (by rfl) gT kT bT .nil pass0 (pa_cons (pv 1) (pa_cons pe_int pa_nil))) pa_nil)) (blkOk_by (own := [("_law_turn", 24)]) (N := nLaw) (sc := defScope (top 38)) (by decide +kernel))
          (fun _ _ _ _ _ => pg_name (i := 24) scLaw.nd rfl (.inl rfl)) (fun _ _ _ _ _ => pts_nil) (fun _ _ _ _ _ => pe_call GT (hr.mono (by decide)) (by rfl) gT kT bT .nil pass0 (pa_cons (pv 1) (pa_cons (pv 7) pa_nil)))) pa_nil)))
      (pss_cons (ps_asg (pe_tup (pa_cons (pe_call GA (hr.mono (by decide)) (by rfl) gA kA bA .nil pass0 (pa_cons (pv 2) (pa_cons (pv 6) pa_nil))) (pa_cons (pe_nd1 hu (pv 6) pe_int) pa_nil))) (pg_tup (by rfl) (pgs_cons (pg_name (i := 9) scLaw.nd rfl (.inr rfl)) (pgs_cons (pg_name (i := 10) scLaw.nd rfl (.inr rfl)) pgs_nil))))
      (pss_cons (ps_set (i := 12) scLaw.nd rfl (.inl rfl) (pe_callB (cr_sortedSet (by rfl)) (by rfl) M.no (by decide +kernel) (pa_cons (pe_callTy (cr_setL (by rfl)) (by rfl) M.no (by decide +kernel) (pa_cons
        (pe_lc (own := [("_law_one", 11)]) (g := gName 11) (tt := tB (tNotN (tOp (rIxT K) (tVar 11) (tVar 4)))) (te := tOp (rIxT K) (tVar 11) (tVar 4)) (by rfl) scLaw.nd (pi_nk (pv 9)) (blkOk_by (own := [("_law_one", 11)]) (N := nLaw) (sc := defScope (top 38)) (by decide +kernel))
          (fun _ _ _ _ _ => pg_name (i := 11) scLaw.nd rfl (.inl rfl)) (fun _ _ _ _ _ => pts_one (pt_cmp (pc_notN (pe_ix ix_tup (pv 11) (pv 4) (fun _ _ => rfl))))) (fun _ _ _ _ _ => pe_ix ix_tup (pv 11) (pv 4) (fun _ _ => rfl))) pa_nil)) pa_nil)))
      (pss_cons p9 (pss_cons (ps_par (i := 16) (j := 17) (by rfl) scLaw.nd rfl rfl (by decide) rfl rfl (pa_cons (pv 6) (pa_cons pe_int pa_nil)) (by rfl))
      (pss_cons p11 (pss_cons p12 (pss_cons (ps_set (i := 23) scLaw.nd rfl (.inl rfl) pe_non) (pss_cons p14 (pss_cons p15 (pss_cons p16 pss_never))))))))))))))))), ?_⟩
    simp only [cxp, cxw, cxk, cxp', cxw', cxk']
    refine ⟨_, rfl, by show 4 ≤ sizeLine; decide, fun r nr => ?_⟩
    have e1 := ex_new (T := T) (o := .lst [.ref sc, .int 0, .int 7810, .int 0]) nr
    have hR1 : Rw K (upd H r (.lst [.ref sc, .int 0, .int 7810, .int 0])) r sc ns := ⟨⟨0, 7810, 0, upd_same, by decide, by decide, by decide⟩, sqL_keep (fun o ho n => e1.keep _ _ ho n) hsc⟩
    have hT1 := e1.tab hTb
    generalize upd H r (.lst [.ref sc, .int 0, .int 7810, .int 0]) = H1 at e1 hR1 hT1 ⊢
    -- the yard
    refine ⟨_, rfl, r, sc, ns, rfl, hR1, by omega, fun H2 y Y e2 hR2 ny hY2 hG => ?_⟩
    have hT2 := e2.tab hT1
    obtain ⟨ty, hYt, hYw⟩ := id hY2
    refine ⟨_, rfl, y, _, _, _, rfl, rfl, .of hYt, atI_nat (j := 0) rfl, _, rfl, y, _, _, _, rfl, rfl, .of hYt, atI_nat (j := 2) rfl, by show 2 ≤ sizeLine; decide, fun t1 nt1 => ?_⟩
    have e3 := ex_new (T := T) (o := .tup [nV Y.n, nV Y.g]) nt1
    refine ⟨t1, _, rfl, .of upd_same, rfl, _, _, rfl, _, _, rfl, rfl, ?_⟩
    have hR3 := hR2.mono e3
    have hT3 := e3.tab hT2
    have hY3 := hY2.mono e3.tps
    generalize upd H2 t1 (.tup [nV Y.n, nV Y.g]) = H3 at e3 hR3 hT3 hY3 ⊢
    -- the holes
    have n2 := hG.n2
    have n4 := hG.n4
    obtain ⟨m, hm, hm1, hm2⟩ : ∃ m : Nat, (if ((Y.n : Int) - 1) < 2 then ((Y.n : Int) - 1) else 2) = (m : Int) ∧ 0 < m ∧ m ≤ 2 ∧ m < Y.n := by
      refine ⟨min 2 (Y.n - 1), ?_, by omega, by omega, by omega⟩
      split <;> omega
    refine ⟨_, rfl, _, rfl, _, _, rfl, rfl, _, _, rfl, ?_⟩
    refine ⟨r, sc, ns, m, congrArg (fun z => [V.ref r, z]) (congrArg V.int hm), hm1, by omega, hR3, by omega, fun H4 x hx e4 hR4 => ⟨_, _, rfl, rfl, ?_⟩⟩
    have hT4 := e4.tab hT3
    have hY4 := hY3.mono (hR3.tps e4)
    obtain ⟨h, hh⟩ : ∃ h, h = 1 + x := ⟨_, rfl⟩
    have v5 : (1 : Int) + ((x : Nat) : Int) = ((h : Nat) : Int) := by omega
    simp only [v5]
    have h1 : 1 ≤ h := by omega
    have h2 : h ≤ 2 := by omega
    have h3 : h < Y.n := by omega
    clear hh hx hm hm1 hm2
    -- the standing
    refine ⟨_, rfl, _, rfl, _, rfl, r, sc, ns, Y.n, h, rfl, by omega, by omega, hR4, by omega, fun H5 a st hst e5 hR5 na hS5 => ?_⟩
    have hT5 := e5.tab hT4
    have hY5 := hY4.mono (hR4.tps e5)
    -- the books
    refine ⟨_, rfl, _, rfl, _, _, rfl, rfl, ?_⟩
    have v7 : ((Y.n : Nat) : Int) - ((h : Nat) : Int) = ((Y.n - h : Nat) : Int) := by omega
    simp only [v7]
    -- the asks
    refine ⟨_, rfl, r, sc, ns, 6, rfl, by decide, by decide, hR5, by omega, fun H6 k hk e6 hR6 => ⟨_, rfl, ?_, ?_, fun D nD => ?_⟩⟩
    · show -2 ^ 62 ≤ ((k : Nat) : Int)
      omega
    · show ((k : Nat) : Int) < 2 ^ 62
      omega
    have hT6 := e6.tab hT5
    have hY6 := hY5.mono (hR5.tps e6)
    have hS6 := hS5.mono (hR5.tps e6)
    have hk1 : ((k : Nat) : Int).toNat = k := by omega
    show ∃ W, _
    rw [hk1]
    obtain ⟨uR, huR⟩ := hR6.some
    have nDr : D ≠ r := fun z => by rw [z, huR] at nD; cases nD
    refine lc_range (n := k) (fun i H7 => Exr T r H6 H7 ∧ Rw K H7 r sc ns ∧ ∃ bs : List Nat, H7 D = some (.lst (bs.map nV)) ∧ bs.length = i ∧ ∀ b ∈ bs, b < Y.n - h)
      ⟨Exr.refl.new nD, hR6.mono (T := T) (ex_new nD), [], upd_same, rfl, (fun _ z => by cases z)⟩ (fun i H7 hi hP => ?_) (fun H7 hP => ?_)
    · obtain ⟨e7, hR7, bs, hD7, hbl, hbs⟩ := hP
      refine ⟨rfl, _, rfl, _, rfl, r, sc, ns, Y.n - h, rfl, by omega, by omega, hR7, by omega, fun H8 x hx e8 hR8 => ?_⟩
      have hD8 := e8.keep _ _ nDr hD7 own_lst.1
      refine ⟨_, hD8, small32 (by rw [List.length_map]; omega), (e7.trans e8).writeN nD hD8 own_lst, hR6.writeN (e7.trans e8) hR8 nD hD8 own_lst, bs ++ [x], by rw [upd_same, List.map_append]; rfl, by rw [List.length_append, hbl]; rfl, fun b hb => ?_⟩
      rcases List.mem_append.mp hb with hb | hb
      · exact hbs b hb
      · simp at hb
        omega
    · obtain ⟨e7, hR7, bs, hD7, hbl, hbs⟩ := hP
      have hT7 := e7.tab hT6
      have hY7 := hY6.mono (hR6.tps e7)
      have hS7 := hS6.mono (hR6.tps e7)
      refine ⟨D, _, rfl, .inl ⟨.of hD7, fun l nl => ?_⟩⟩
      have e8 := ex_new (T := T) (o := .tup (bs.map nV)) nl
      have hl8 : upd H7 l (.tup (bs.map nV)) l = some (.tup (bs.map nV)) := upd_same
      have hR8 := hR7.mono e8
      have hT8 := e8.tab hT7
      have hY8 := hY7.mono e8.tps
      have hS8 := hS7.mono e8.tps
      generalize upd H7 l (.tup (bs.map nV)) = H8 at e8 hl8 hR8 hT8 hY8 hS8 ⊢
      clear e7 e6 e5 e4 e3 e2 e1 hD7 hR7 hR6 hR5 hR4 hR3 hR2 hR1 hT1 hT2 hT3 hT4 hT5 hT6 hT7 hY2 hY3 hY4 hY5 hY6 hY7 hS5 hS6 hS7 huR nDr nD nl
      -- the table of all
      have FL := fld_of hG h1 h2 h3
      have GSt := (gs_of hG h1 h2 h3 hst).1
      have B := (FL.bfs hst).2
      refine ⟨_, rfl, _, rfl, y, a, Y, st, rfl, hY8, hS8, GSt.ties, GSt.t20, GSt.l20, B.lok, fun u hu => (FL.bfs (B.inU u hu)).2.lok, fun H9 d1 e9 nd1 hd1 => ?_⟩
      refine fun d2 nd2 => ⟨_, rfl, a, st, rfl, (hS8.mono e9.tps).mono (tps_new nd2), upd_same, fun ep => ?_⟩
      have exd := ex_new (T := T) (o := sdO P w d2 [] 0) nd2
      have e10 : Ex T H9 (upd (upd H9 d2 (sdO P w d2 [] 0)) d2 (sdO P w d2 [(st, a, V.int 0)] ep)) := exd.write nd2 upd_same own_sd
      have hC10 : DN P w (upd (upd H9 d2 (sdO P w d2 [] 0)) d2 (sdO P w d2 [(st, a, V.int 0)] ep)) d2 [(st, 0)] := ⟨_, ep, upd_same, .cons ⟨rfl, IsSg.mono (e9.trans e10).tps hS8, rfl⟩ .nil⟩
      generalize upd (upd H9 d2 (sdO P w d2 [] 0)) d2 (sdO P w d2 [(st, a, V.int 0)] ep) = H10 at e10 hC10 ⊢
      refine ⟨by show 2 ≤ sizeLine; decide, fun t nt => ⟨t, _, rfl, .of upd_same, rfl, _, _, rfl, _, _, rfl, rfl, ?_⟩⟩
      have e11 := ex_new (T := T) (o := .tup [.ref d1, .ref d2]) nt
      have eB := e9.trans (e10.trans e11)
      have AB : LX.At P w K T ⟨r, sc, ns, y, Y, h, a, st, l, bs, d1⟩ (upd H10 t (.tup [.ref d1, .ref d2])) := ⟨hR8.mono eB, hY8.mono eB.tps, hS8.mono eB.tps, eB.keep _ _ hl8 own_tup.1, DF.mono (e10.trans e11) hd1, eB.tab hT8⟩
      have OB : LX.Ok ⟨r, sc, ns, y, Y, h, a, st, l, bs, d1⟩ := ⟨hG, h1, h2, h3, hst, by show ns.length ≤ 1000; omega, by show bs.length ≤ 5; omega, hbs⟩
      have hCB := DN.mono e11 hC10
      generalize upd H10 t (.tup [.ref d1, .ref d2]) = HB at AB hCB ⊢
      clear e11 eB e10 hC10 exd e9 nd1 hd1 nd2 hR8 hT8 hY8 hS8 hl8 e8 nt
      -- the plain facts of the table
      have hrun := (FL.bfs hst).1
      have hfar : aget (farM Y.ties st) st = some (lensM (lawW Y.ties st 6000)) := OB.farAt (v := []) (k := st) trivial rfl
      have hfk := farM_keys Y.ties st
      generalize lawW Y.ties st 6000 = R at hrun hfar hfk B
      obtain ⟨res, tt, hfew, hres, hnear⟩ := OB.answers
      have hRk : ∀ u ∈ R, u.1.length = Y.n := fun u hu => FL.len _ (B.inU u hu)
      have hRb : ∀ b ∈ comeL Y.g R, b < Y.n - h := fun b hb => by
        obtain ⟨u, hu, hub⟩ := mem_comeL.mp hb
        obtain ⟨Gu, hbu⟩ := gs_of hG h1 h2 h3 (B.inU u hu)
        rw [← hbu]
        refine Gu.lt b (bk_mem.mpr ?_)
        rw [List.getD_eq_getElem?_getD] at hub
        cases q : u.1[Y.g]? with
        | none => rw [q] at hub; cases hub
        | some y =>
          rw [q] at hub
          obtain rfl : y = some b := hub
          exact List.mem_of_getElem? q
      -- the books that come
      obtain ⟨xF, epF, hF, pF⟩ := AB.far
      have lF : xF.length = (R.map (·.1)).length := by
        rw [← hfk, List.length_map]
        exact Paired.length pF
      have hRl := B.len
      refine ⟨_, rfl, d1, xF, epF, rfl, hF, fun D nD => ?_⟩
      refine lc_it walk_nk (fun j HD => Ex T HB HD ∧ HD D = some (.lst ((comeK Y.g ((R.map (·.1)).take j)).map nV))) ⟨ex_new nD, upd_same⟩ (fun j HD _ ⟨eD, _⟩ => eD.keep _ _ hF own_sd.1) (fun j x HDo HD hj hP hy => ?_) (fun HD hP => ?_)
      · obtain ⟨eD, hD⟩ := hP
        obtain ⟨rfl, kk, fa, v, hx, rfl⟩ := hy
        obtain ⟨u, hu, huk, hua, _⟩ := paired_at pF hx
        simp only at huk hua
        have hkj : (R.map (·.1))[j]? = some u.1 := by rw [← hfk, List.getElem?_map, hu]; rfl
        subst huk
        obtain ⟨q, hq, hqe⟩ := List.mem_map.mp (List.mem_of_getElem? hkj)
        have hglt : Y.g < u.1.length := by rw [← hqe, hRk q hq]; exact hG.g
        have hua2 := hua.mono eD.tps
        have hlen : (comeK Y.g ((R.map (·.1)).take j)).length ≤ 24 := Nat.le_trans (List.length_filterMap_le _ _) (by rw [List.length_take, List.length_map]; omega)
        have hst2 := comeK_snoc Y.g hkj
        rw [hst2]
        refine ⟨rfl, _, rfl, _, rfl, fa, _, _, _, rfl, rfl, .of hua2, atI_nat (oV_at hglt), _, rfl, ?_⟩
        cases hb : u.1.getD Y.g none with
        | none =>
          refine iteF ⟨eD, ?_⟩
          rw [List.append_nil]
          exact hD
        | some b =>
          refine iteT ?_
          refine ⟨_, rfl, _, rfl, fa, _, _, _, rfl, rfl, .of hua2, atI_nat (oV_at hglt), _, hD, small32 (by rw [List.length_map]; omega), eD.write nD hD own_lst, ?_⟩
          rw [upd_same, hb, List.map_append]
          rfl
      · obtain ⟨eD, hD⟩ := hP
        rw [lF, List.take_length, comeK_eq] at hD
        have hcl : (comeL Y.g R).length ≤ 24 := Nat.le_trans (List.length_filterMap_le _ _) hRl
        refine ⟨D, (comeL Y.g R).map fun n : Nat => (n : Int), rfl, .of (by rw [List.map_map]; exact hD), by rw [List.length_map]; omega, fun p c np hc => ?_⟩
        rw [List.length_map] at hc
        refine ⟨p, _, c, rfl, upd_same, by omega, fun cs cm hpw hmem hcl2 ncm => ?_⟩
        have eC := eD.trans ((ex_new (T := T) (o := SetO w p (fun j => decide (j ∈ (comeL Y.g R).map fun n : Nat => (n : Int))) c) np).trans (ex_new (T := T) (o := .lst (cs.map V.int)) ncm))
        have hcm : upd (upd HD p (SetO w p (fun j => decide (j ∈ (comeL Y.g R).map fun n : Nat => (n : Int))) c)) cm (.lst (cs.map V.int)) cm = some (.lst (cs.map V.int)) := upd_same
        have hcs : cs.length = (farF Y.g R).length := come_len hpw fun k => by rw [hmem, decide_eq_true_iff]
        generalize upd (upd HD p (SetO w p (fun j => decide (j ∈ (comeL Y.g R).map fun n : Nat => (n : Int))) c)) cm (.lst (cs.map V.int)) = HC at eC hcm ⊢
        have AC := AB.mono eC
        have hCC := DN.mono eC hCB
        clear hmem hpw eC hCB hD eD nD
        -- the loops
        refine r9 ⟨r, sc, ns, y, Y, h, a, st, l, bs, d1⟩ OB d2 cm none none none none HC _ AC hCC fun d3 z11 z13 z14 z15 H1' f1 hC1 => ?_
        have A1' := AC.mono f1
        refine ⟨_, rfl, _, _, rfl, ?_⟩
        refine r11 ⟨r, sc, ns, y, Y, h, a, st, l, bs, d1⟩ OB d3 cm z11 z13 z14 z15 tt H1' _ A1' hC1 hnear fun z11 z13 z14 z15 now tot z18 z19 z20 H2' htot f2 => ?_
        have A2' := A1'.mono f2
        have hC2 := DN.mono f2 hC1
        refine r12 ⟨r, sc, ns, y, Y, h, a, st, l, bs, d1⟩ OB d3 cm z11 z13 z14 z15 now tot z18 z19 z20 res H2' _ A2' hC2 hfew hres (fun z => by rw [htot z]; exact hnear z) fun z21 H3' f3 => ?_
        have A3' := A2'.mono f3
        have hcm3 := (f1.trans (f2.trans f3)).keep _ _ hcm own_lst.1
        refine r14 ⟨r, sc, ns, y, Y, h, a, st, l, bs, d1⟩ OB R d3 cm z11 z13 z14 z15 now tot z18 z19 z20 z21 cs H3' _ A3' hcm3 hfar hRl B.nd hRk hRb hcs fun z11 z13 z23 H4' f4 hn hs => ?_
        have A4' := A3'.mono f4
        refine r15 ⟨r, sc, ns, y, Y, h, a, st, l, bs, d1⟩ OB R d3 cm z11 z13 z14 z15 now tot z18 z19 z20 z21 z23 H4' _ A4' hrun hRl (fun u hu => ⟨hRk u hu, B.wl u hu⟩) hRb hn hs fun H5' f5 => ?_
        exact r16 ⟨r, sc, ns, y, Y, h, a, st, l, bs, d1⟩ OB d3 cm z11 z13 z14 z15 now tot z18 z19 z20 z21 (some z23) H5' _ (A4'.mono f5) q
end
end L2.K10

set_option Elab.async false
set_option linter.all false
set_option maxRecDepth 100000
set_option maxHeartbeats 0
/-! the head: where each def stands, the run of the top -/
namespace L2.K10
open PySem PySem.Spec PyProof.Rows
def dd (x : Str) (i : Nat) : He.DefD := ⟨(x, none), x, x, defArgs (top i), defBody (top i), defScope (top i), [], []⟩
def defsL : List (Str × Nat) := ([("is_number", 9), ("are_ties", 10), ("need_yard", 11), ("near", 12), ("hanging", 13), ("need_standing", 15), ("need_book", 16), ("slid", 17), ("slides_of", 18), ("words_from", 19), ("need_asks", 22), ("costs_after", 23), ("fewest_slides", 24)] : List (Str × Nat)) ++
  ([("nearest_slides", 25), ("farthest_ask", 26), ("_law_taken", 28), ("_law_pick", 29), ("_law_alike", 30), ("_law_yard", 31), ("_law_standing", 32), ("_law_near", 33), ("_law_slides", 34), ("_law_slid", 35), ("_law_words", 36), ("_law_all", 37), ("law", 38)] : List (Str × Nat))
def freeL : List Str := ["isinstance", "int", "bool", "len", "tuple", "list", "sorted", "enumerate", "min", "max", "any", "all", "zip", "set", "range", "dict", "str"]
def restL : List He.Fa := [.int "LEAST_PLACES" 2, .int "MOST_PLACES" 7, .int "MOST_ASKS" 20, .glo "BadBook", .glo "NoWay", .exc "BadBook", .exc "NoWay", .exm "BadBook" "BadBook" true, .exm "NoWay" "NoWay" true]
def fn : List He.DefD := defsL.map fun p => dd p.1 p.2
def fa : List He.Fa := (defsL.map fun p => He.Fa.glo p.1) ++ (freeL.map He.Fa.free ++ restL)
abbrev pA : He.Defn := ("are_ties", none)
abbrev pN : He.Defn := ("need_standing", none)
abbrev pC : He.Defn := ("costs_after", none)
abbrev pW : He.Defn := ("words_from", none)
def tf : List He.Defn := [pA, pN, pC, pW]
def exD (K : PySem.W.Frag) : Bool := decide ((He.cT K pW).2 ≠ (He.cT K pA).2 ∧ (He.cT K pW).2 ≠ (He.cT K pN).2 ∧ (He.cT K pW).2 ≠ (He.cT K pC).2)
abbrev R : PySem.W.OpenRow := PySem.W.OpenLaw.row PySem.Challenge.rw_holestore_k10_whole_requests
abbrev hk : PySem.W.Hook := He.hookX 4 fa fn [] tf exD
def ob (s : PySem.W.SharedT) : He.AlX := He.obsX 4 fa fn [] tf exD (HandSHeadRun.getT s)
theorem ob_eq (s : PySem.W.SharedT) : ob s = hk.obs s.abs := He.obsX_eq (HandSHeadRun.getT_eq s)
def loose : List Str := (["StoreError", "BadYard", "BadStanding", "BadBook", "NoWay", "LEAST_PLACES", "MOST_PLACES", "is_number", "are_ties", "need_yard", "near", "hanging", "need_standing", "need_book", "slid", "slides_of", "words_from"] : List Str) ++ (["MOST_ASKS", "need_asks", "costs_after", "fewest_slides", "nearest_slides", "farthest_ask", "_law_taken", "_law_pick", "_law_alike", "_law_yard", "_law_standing", "_law_near", "_law_slides", "_law_slid", "_law_words", "_law_all"] : List Str)
theorem run (w : World) : HandSHeadRun.RunEq R (PySem.W.view R.prog [38]) hk ob 3000 loose w := by
  intro os
  kernel_rfl
end L2.K10

set_option Elab.async false
set_option linter.all false
set_option maxRecDepth 100000
set_option maxHeartbeats 4000000
/-! the facts, put together; the end -/
namespace L2.K10
open PySem PySem.Spec PyProof.Rows
section
variable {P : Program} {w : World} {K : PySem.W.Frag} {mg : Str → Option Value} {base : Heap} {h : Heap}
theorem get_fn (X : K.In h) (G : h.Ns mainGlobals mg) (c : He.SaysD fa fn K) {x : Str} {i : Nat} (m : (x, i) ∈ defsL := by decide) : ∃ fd, FnP K x i (He.ga K x) fd ∧ mg x = some (.ref (He.ga K x)) := by
  obtain ⟨fd, F⟩ := c.defs (d := dd x i) (List.mem_map.mpr ⟨(x, i), m, rfl⟩)
  exact ⟨fd, F, He.glo_ok X G (c.facts (f := .glo x) (List.mem_append.mpr (.inl (List.mem_map.mpr ⟨(x, i), m, rfl⟩))))⟩
theorem get_rest (c : He.SaysD fa fn K) {f : He.Fa} (m : f ∈ restL) : f.ok K = true := c.facts (List.mem_append.mpr (.inr (List.mem_append.mpr (.inr m))))
theorem get_free (X : K.In h) (G : h.Ns mainGlobals mg) (c : He.SaysD fa fn K) {x : Str} (m : x ∈ freeL) : mg x = none := He.free_ok X G (c.facts (List.mem_append.mpr (.inr (List.mem_append.mpr (.inl (List.mem_map.mpr ⟨x, m, rfl⟩))))))
theorem get_code {x : Str} {i : Nat} {fd : FuncData} (F : FnP K x i (He.ga K x) fd) : fd.code = .ref (He.codeOf K (x, none)) := by
  obtain ⟨oc, od, dV, kV, doc, pm, an, cdv, ct, osl, rfl, lk, hcd, _, _⟩ := F.ex
  obtain ⟨c, rfl⟩ := He.codeIn_ref hcd
  rw [He.codeOf_eq (p := (x, none)) lk rfl]
/-- the tables -/
def tbs (K : PySem.W.Frag) (e : exD K = true) : Tbs := ⟨(He.cT K pA).2, (He.cT K pN).2, (He.cT K pC).2, (He.cT K pW).2, of_decide_eq_true e⟩
theorem get_mod {h : Heap} (X : K.In h) (G : h.Ns mainGlobals mg) (c : He.SaysD fa fn K) (e : exD K = true) (t : ∀ p ∈ tf.map (He.cT K), LamX.TabB base mg p.1 p.2) : Mod K mg base (tbs K e) (He.ga K "BadBook") (He.ga K "NoWay") := by
  have tab : ∀ p ∈ tf, GxR.TabB base mg (He.cT K p).1 (He.cT K p).2 := fun p hp => by
    obtain ⟨a, b, d⟩ := t _ (List.mem_map.mpr ⟨p, hp, rfl⟩)
    exact ⟨a, b, d⟩
  have simple : ∀ {x : Str} {i : Nat}, (x, i) ∈ defsL → ∃ f fd, FnP K x i f fd ∧ mg x = some (.ref f) := fun {x i} m => by
    obtain ⟨fd, F, g⟩ := get_fn X G c m
    exact ⟨_, fd, F, g⟩
  have withC : ∀ {x : Str} {i : Nat}, (x, i) ∈ defsL → (x, none) ∈ tf → ∃ f fd c, FnP K x i f fd ∧ mg x = some (.ref f) ∧ fd.code = .ref c ∧ GxR.TabB base mg c (He.cT K (x, none)).2 := fun {x i} m p => by
    obtain ⟨fd, F, g⟩ := get_fn X G c m
    exact ⟨_, fd, _, F, g, get_code F, tab _ p⟩
  have own : ∀ {x : Str}, He.Fa.glo x ∈ restL → He.Fa.exc x ∈ restL → BB K mg x (He.ga K x) := fun {x} m1 m2 => by
    obtain ⟨a, b, d, e⟩ := He.exc_ok (get_rest c m2)
    exact ⟨He.glo_ok X G (get_rest c m1), a, b, d, e⟩
  refine ⟨simple (by decide), withC (by decide) (by simp [tf]), simple (by decide), simple (by decide), simple (by decide), withC (by decide) (by simp [tf]), simple (by decide), simple (by decide), simple (by decide), ?_, simple (by decide), withC (by decide) (by simp [tf]),
    fun x hx => get_free X G c hx, He.int_ok X G (get_rest c (by simp [restL])), He.int_ok X G (get_rest c (by simp [restL])), He.int_ok X G (get_rest c (by simp [restL])), own (by simp [restL]) (by simp [restL]), own (by simp [restL]) (by simp [restL])⟩
  obtain ⟨fd, F, g⟩ := get_fn X G c (x := "words_from") (i := 19)
  exact ⟨_, fd, _, F, g, get_code F, t _ (List.mem_map.mpr ⟨pW, by simp [tf], rfl⟩)⟩
theorem Mod.cFew {T : Tbs} {CB CN : Addr} (M : Mod K mg base T CB CN) {f : Addr} {fd : FuncData} (F : FnP K "fewest_slides" 24 f fd) (g : mg "fewest_slides" = some (.ref f)) : Cal P w K mg base (L2.CX P w) 5 "fewest_slides" ["yard", "standing", "asks"] (spFew CB CN T) :=
  ⟨f, fd, g, F.kp, F.bindsN fun _ _ _ _ _ _ us hl => (match us, hl with | [_, _, _], _ => rfl), ok_few M F⟩
theorem Mod.cNear {T : Tbs} {CB CN : Addr} (M : Mod K mg base T CB CN) {f : Addr} {fd : FuncData} (F : FnP K "nearest_slides" 25 f fd) (g : mg "nearest_slides" = some (.ref f)) : Cal P w K mg base (L2.CX P w) 5 "nearest_slides" ["yard", "standing", "asks"] (spNear' CB CN T) :=
  ⟨f, fd, g, F.kp, F.bindsN fun _ _ _ _ _ _ us hl => (match us, hl with | [_, _, _], _ => rfl), ok_nearest M F⟩
theorem Mod.cFar {T : Tbs} {CB CN : Addr} (M : Mod K mg base T CB CN) {f : Addr} {fd : FuncData} (F : FnP K "farthest_ask" 26 f fd) (g : mg "farthest_ask" = some (.ref f)) : Cal P w K mg base CX0 5 "farthest_ask" ["yard", "standing"] (spFar T) :=
  ⟨f, fd, g, F.kp, F.bindsN fun _ _ _ _ _ _ us hl => (match us, hl with | [_, _], _ => rfl), ok_far (CB := CB) (CN := CN) M F⟩
theorem get_own {h : Heap} (X : K.In h) (G : h.Ns mainGlobals mg) (c : He.SaysD fa fn K) (e : exD K = true) (M : Mod K mg base (tbs K e) (He.ga K "BadBook") (He.ga K "NoWay")) : LOwn P w K mg base (tbs K e) (He.ga K "BadBook") (He.ga K "NoWay") := by
  obtain ⟨_, F28, g28⟩ := get_fn X G c (x := "_law_taken") (i := 28)
  obtain ⟨_, F29, g29⟩ := get_fn X G c (x := "_law_pick") (i := 29)
  obtain ⟨_, F30, g30⟩ := get_fn X G c (x := "_law_alike") (i := 30)
  obtain ⟨_, F31, g31⟩ := get_fn X G c (x := "_law_yard") (i := 31)
  obtain ⟨_, F32, g32⟩ := get_fn X G c (x := "_law_standing") (i := 32)
  obtain ⟨_, F33, g33⟩ := get_fn X G c (x := "_law_near") (i := 33)
  obtain ⟨_, F34, g34⟩ := get_fn X G c (x := "_law_slides") (i := 34)
  obtain ⟨_, F35, g35⟩ := get_fn X G c (x := "_law_slid") (i := 35)
  obtain ⟨_, F36, g36⟩ := get_fn X G c (x := "_law_words") (i := 36)
  obtain ⟨_, F37, g37⟩ := get_fn X G c (x := "_law_all") (i := 37)
  obtain ⟨_, F24, g24⟩ := get_fn X G c (x := "fewest_slides") (i := 24)
  obtain ⟨_, F25, g25⟩ := get_fn X G c (x := "nearest_slides") (i := 25)
  obtain ⟨_, F26, g26⟩ := get_fn X G c (x := "farthest_ask") (i := 26)
  refine ⟨⟨_, _, g31, F31.kp, F31.bindsN fun _ _ _ _ _ _ us hl => (match us, hl with | [_, _], _ => rfl), ok_ydL F31 F28 F29 g28 g29 M.no M.no M.no M.no M.no M.no⟩,
    ⟨_, _, g28, F28.kp, F28.bindsN fun _ _ _ _ _ _ us hl => (match us, hl with | [_, _], _ => rfl), ok_taken F28 M.no M.no⟩,
    ⟨_, _, g29, F29.kp, F29.bindsN fun _ _ _ _ _ _ us hl => (match us, hl with | [_, _], _ => rfl), ok_pick F29 F28 g28 M.no M.no⟩,
    ⟨_, _, g32, F32.kp, F32.bindsN fun _ _ _ _ _ _ us hl => (match us, hl with | [_, _, _], _ => rfl), ok_stL F32 F28 g28 M.no M.no M.no M.no M.no⟩,
    ⟨_, _, g37, F37.kp, F37.bindsN fun _ _ _ _ _ _ us hl => (match us, hl with | [_, _], _ => rfl), ok_allL F37 F36 F34 F35 F33 g36 g34 g35 g33 M.no M.no M.no M.no M.no M.no M.no⟩,
    ⟨_, _, g36, F36.kp, F36.bindsN fun _ _ _ _ _ _ us hl => (match us, hl with | [_, _], _ => rfl), ok_wordsL F36 F34 F35 F33 g34 g35 g33 M.no M.no M.no M.no M.no⟩,
    ⟨_, _, g35, F35.kp, F35.bindsN fun _ _ _ _ _ _ us hl => (match us, hl with | [_, _], _ => rfl), ok_slidL F35 M.no M.no⟩,
    ⟨_, _, g30, F30.kp, F30.bindsN fun _ _ _ _ _ _ us hl => (match us, hl with | [_, _], _ => rfl), ok_alk0 F30 M.no M.no M.no M.no M.no M.no⟩,
    ⟨_, _, g30, F30.kp, F30.bindsN fun _ _ _ _ _ _ us hl => (match us, hl with | [_, _], _ => rfl), ok_alk F30 g30 M.no M.no M.no M.no M.no M.no M.no M.no⟩,
    M.cFew F24 g24, M.cNear F25 g25, M.cFar F26 g26, M.bad.g, M.noway.g, He.exm_ok (get_rest c (by simp [restL])), He.exm_ok (get_rest c (by simp [restL])), M.gone⟩
theorem law_at {h : Heap} {f : Addr} (X : K.In h) (G : h.Ns mainGlobals mg) (c : He.SaysX fa fn [] tf exD w h K) (hf : mg "law" = some (.ref f)) : LamX.LawAtS PySem.Challenge.rw_holestore_k10_whole_requests w K CX0 6 63 "_law_script" mg f h := by
  obtain ⟨fd, F, g⟩ := get_fn X G c.t.d (x := "law") (i := 38)
  have e := hf.symm.trans g
  cases e
  have b := FunD.bindsA (ps := ["_law_script"]) F fun _ _ _ _ _ _ us hl => match us, hl with | [_], _ => rfl
  refine ⟨fd, tf.map (He.cT K), spLaw K (tbs K c.more), fun p hp => ?_, fun p hp => ?_, fun p hp => ?_, fun s v => b s [v] rfl, fun H a ns hl _ hT hS => ?_, fun base KB GB t => ?_⟩
  · obtain ⟨d, hd, rfl⟩ := List.mem_map.mp hp
    exact c.empty d hd
  · obtain ⟨d, hd, rfl⟩ := List.mem_map.mp hp
    exact c.out d hd
  · obtain ⟨d, hd, rfl⟩ := List.mem_map.mp hp
    exact PySem.W.codeHd_of_K X (c.hd d hd)
  · have tg : ∀ p ∈ tf, GxR.TabG H (He.cT K p).2 := fun p hp => ⟨#[], hT _ (List.mem_map.mpr ⟨p, hp, rfl⟩), trivial⟩
    refine ⟨a, ns, rfl, hS, hl, ⟨tg pA (by simp [tf]), tg pN (by simp [tf]), tg pC (by simp [tf]), ⟨#[], hT _ (List.mem_map.mpr ⟨pW, by simp [tf], rfl⟩), trivial, fun pos cv h => by cases h⟩⟩, fun _ => rfl⟩
  · exact ok_law (get_own X G c.t.d c.more (get_mod X G c.t.d c.more t)) F
end
end L2.K10

set_option Elab.async false
set_option linter.all false
set_option maxRecDepth 100000
set_option maxHeartbeats 0
open PySem PySem.W PySem.Calls PyProof.Rows
theorem PySem.Challenge.cw_holestore_k10_whole_requests_holds : PySem.Challenge.rw_holestore_k10_whole_requests.Holds := by
  w_on; o_law
  refine HandSHeadRun.head_any (r := OpenLaw.row PySem.Challenge.rw_holestore_k10_whole_requests) (q := view (OpenLaw.row PySem.Challenge.rw_holestore_k10_whole_requests).prog [38]) (H := L2.K10.hk) (ob := L2.K10.ob) (M := 3000) (loose := L2.K10.loose) (d := HandSHeadRun.topDef (OpenLaw.row PySem.Challenge.rw_holestore_k10_whole_requests).prog 38) (kwd := []) L2.K10.ob_eq
    (by kernel_rfl) (fun s => by kernel_rfl) L2.K10.run (by kernel_rfl) (by kernel_rfl) (by kernel_rfl) (by rfl) (by first | assumption | decide +kernel) (by decide +kernel) ⟨rfl, rfl, rfl, rfl, rfl, by decide +kernel⟩ ?hw ?hc
  case hw => w_witness2
  case hc =>
    refine LamX.walk_ofTsE (l := PySem.Challenge.rw_holestore_k10_whole_requests) (n := 63) (k := 6) (x := "_law_script") (CX := fun _ => L2.CX0) rfl (by decide) (by kernel_rfl) ⟨rfl, by decide, by decide⟩ ?F (fun _ _ _ _ _ z => z)
    intro w mg fa h Y G hmg0
    obtain ⟨K, KX, c⟩ := Y
    have hmg : mg ("law" : PySem.Str) = some (.ref fa) := by
      have e : (HandSHeadRun.topDef (OpenLaw.row PySem.Challenge.rw_holestore_k10_whole_requests).prog 38).name = ("law" : PySem.Str) := by kernel_rfl
      rw [← e]
      exact hmg0
    exact ⟨K, KX, L2.K10.law_at KX G c hmg⟩
