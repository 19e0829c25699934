import PyProof.Rows.All
import Wide.All
import OpenK.AllK
import Wide.FinOn
import HandS.ForMost
import HandS.Deep
import HandS.Defaults
import HandS.IsInst
import HandS.TupAny
import HandS.TupMul
import HandS.RevTup
import HandS.Rev
import HandS.RevRange
import HandS.Zip
import HandS.Walk
import HandS.Flow
import HandS.Conv
import HandS.SortInts
import KE.LtData
import KE.SortData
import KE.KeyNested
import KE.KDictKeyed
import KE.KDictWalk
import KE.KDictPairs
import HandS.More
import KE.GoesMore
import KE.GoesEnum
import HandS.Codes
import HandS.Style
import HandS.Ends
import HandS.Words
import HandS.WordsExc
import HandS.Head0
import HandS.Head1
import HandS.Head2
import HandS.HeadEnd
import HandS.HeadHook1
import HandS.HeadHook2
import PyProof.TableCode
import PySem.Challenge.RW_cutrows_k56_certificates_of_matters
set_option Elab.async false
set_option linter.all false
set_option maxRecDepth 100000
set_option maxHeartbeats 0
section
/-! The word table: names and texts of the programs, ascending. Printed by words.py. -/
namespace Cw
open PySem
def wo0 : List Str := (["", " is not allowed", "0", "Ground", "InvalidClaim", "NotAllowed", "OverflowError", "Player", "Price", "Stretch", "TooGreat", "ValueError", "__init__", "_law_advance", "_law_alive", "_law_all_picks", "_law_allowed", "_law_answers", "_law_any_fact", "_law_apart", "_law_are_cuts", "_law_bare", "_law_began", "_law_bent", "_law_bent_levels", "_law_broken_fault", "_law_cell_claim", "_law_cells", "_law_contents", "_law_costs", "_law_draw", "_law_drawn", "_law_drawn_item", "_law_due", "_law_execute", "_law_facts", "_law_first", "_law_fits", "_law_fresh", "_law_great_right"] : List String).map Str.ofString
def wo1 : List Str := (["_law_hang", "_law_idle", "_law_interrupt", "_law_is_bad", "_law_is_claim", "_law_is_number", "_law_is_right", "_law_is_table", "_law_item", "_law_items", "_law_lack", "_law_led", "_law_less", "_law_levels", "_law_levels_fault", "_law_long", "_law_long_right", "_law_marks", "_law_matters", "_law_middles", "_law_more", "_law_needs", "_law_number", "_law_odd_cuts", "_law_open_fault", "_law_opens", "_law_order", "_law_outcome", "_law_outcomes", "_law_pair", "_law_pen", "_law_places", "_law_plain_lack", "_law_plain_tables", "_law_plains", "_law_plan_fault", "_law_plan_price", "_law_played", "_law_price", "_law_price_answers"] : List String).map Str.ofString
def wo2 : List Str := (["_law_price_fault", "_law_program", "_law_read", "_law_renamed", "_law_replaced", "_law_rises", "_law_rows", "_law_run_fault", "_law_sends_answers", "_law_shapes", "_law_short_ways", "_law_shown_fault", "_law_some_program", "_law_split", "_law_spot", "_law_stretch", "_law_stretch_right", "_law_sure_fault", "_law_table_fault", "_law_tables", "_law_tainted", "_law_thing", "_law_trial", "_law_tried", "_law_truths", "_law_way_fault", "_law_ways", "_law_written", "_wall", "advance", "after_cuts", "again", "alive", "alive_at", "allowed", "allowed_fault", "answers", "append", "are_cuts", "are_levels"] : List String).map Str.ofString
def wo3 : List Str := (["ask", "asked_facts", "at", "back", "bad", "bare", "begin", "broken", "broken_fault", "broken_stretch", "cell_count", "cell_price", "cells", "cheapest", "claim", "class", "count", "cut_for", "cutrows.checker", "cutrows.claims", "cutrows.errors", "cutrows.facts", "cutrows.forms", "cutrows.good", "cutrows.matters", "cutrows.places", "cutrows.prices", "cutrows.programs", "cutrows.runs", "cutrows.safety", "cuts_for", "decide", "decide_allowed", "decide_matters", "decide_price", "decide_safe", "decide_sure", "do", "due_before", "end"] : List String).map Str.ofString
def wo4 : List Str := (["entries_fault", "execute", "explored", "extend", "facts_of", "fewest_splits", "first", "first_facts", "first_fault", "first_lack", "first_of", "form", "get", "good", "halves", "hand", "has_middle", "index", "insert", "interrupt", "is_allowed", "is_allowed_claim", "is_bad", "is_cell_claim", "is_claim", "is_count", "is_fact", "is_fine", "is_integer", "is_kept", "is_open_table", "is_pair", "is_place", "is_plain", "is_plain_pair", "is_plan", "is_price_claim", "is_safe", "is_small", "is_strictly_ascending"] : List String).map Str.ofString
def wo5 : List Str := (["is_table", "is_way", "kept", "lack", "last", "late", "law", "lead", "leads", "least_price", "less", "level", "levels", "levels_fault", "levels_in", "limit", "lineage_in", "lists", "made", "makings", "mark", "mark_indices", "matter_before", "matter_rows", "matters", "matters_fault", "middles_of", "more", "needed", "needs", "next_mark", "not", "nothing", "now", "number_of", "numbers", "odd", "open", "open_facts", "open_fault"] : List String).map Str.ofString
def wo6 : List Str := (["origins", "outgoing", "overwrites", "pair", "passed", "picks_for", "place", "places", "plain", "plain_facts", "plain_fault", "plain_table", "plan_fault", "plan_in", "planned", "planned_items", "played", "pop", "position_of", "price", "price_between", "price_fault", "price_of", "price_or_none", "read_cells", "require_claim", "require_small", "restarts", "resume", "run", "run_fault", "safe", "safe_fault", "same_shape", "save", "saved", "secured_since", "send", "sends_answers", "sent"] : List String).map Str.ofString
def wo7 : List Str := (["setdefault", "shape", "shape_fault", "shapes", "shown", "shown_fault", "source", "sources_of", "split", "split_program", "spoiling", "spot", "stored", "stretches_of", "sure", "sure_fault", "there", "times", "twice_asked", "update", "values", "way", "way_fault", "way_out", "ways_of", "what_is_left", "write", "writes_between", "written", "written_cell", "wrong", "wrong_after", "x"] : List String).map Str.ofString
def wordL : List Str := wo0 ++ (wo1 ++ (wo2 ++ (wo3 ++ (wo4 ++ (wo5 ++ (wo6 ++ (wo7)))))))
def words : Array Str := wordL.toArray
def wd (n : Nat) : Str := wordL.getD n Str.empty
end Cw
/-! Values as trees over an abstract heap, and how they stand in the layer's heap. -/
namespace Cw
open PySem PySem.Spec PyProof.Rows L2

def nW : Nat := 313
theorem wordL_len : wordL.length = nW := by decide +kernel
def ltL (a b : Str) : Bool := decide (a.cps.toList < b.cps.toList)
def ascB : List Str → Bool
  | [] => true
  | [_] => true
  | a :: b :: r => ltL a b && ascB (b :: r)
theorem words_asc : ascB wordL = true := by decide +kernel
theorem ltL_trans {a b c : Str} (h : ltL a b = true) (k : ltL b c = true) : ltL a c = true := by
  unfold ltL at *
  simp only [decide_eq_true_eq] at *
  exact List.lt_trans h k
theorem asc_head : ∀ {l : List Str} {a b : Str}, ascB (a :: l) = true → b ∈ l → ltL a b = true
  | [], _, _, _, h => by cases h
  | c :: r, a, b, h, hb => by
    unfold ascB at h
    rw [Bool.and_eq_true] at h
    rcases List.mem_cons.mp hb with e | hb
    · rw [e]; exact h.1
    · exact ltL_trans h.1 (asc_head h.2 hb)
theorem asc_tail : ∀ {l : List Str} {a : Str}, ascB (a :: l) = true → ascB l = true
  | [], _, _ => rfl
  | c :: r, a, h => by
    unfold ascB at h
    rw [Bool.and_eq_true] at h
    exact h.2
theorem asc_get : ∀ {l : List Str} {i j : Nat} {a b : Str}, ascB l = true → i < j → l[i]? = some a → l[j]? = some b → ltL a b = true
  | [], _, _, _, _, _, _, h, _ => by simp at h
  | c :: r, 0, 0, _, _, _, h, _, _ => absurd h (Nat.lt_irrefl _)
  | c :: r, 0, j + 1, a, b, h, _, h1, h2 => by
    have e : c = a := by simpa using h1
    subst e
    exact asc_head h (List.mem_of_getElem? (by simpa using h2))
  | c :: r, i + 1, 0, _, _, _, h, _, _ => absurd h (Nat.not_lt_zero _)
  | c :: r, i + 1, j + 1, a, b, h, hl, h1, h2 => asc_get (asc_tail h) (Nat.lt_of_succ_lt_succ hl) (by simpa using h1) (by simpa using h2)
theorem wd_get {i : Nat} (h : i < nW) : wordL[i]? = some (wd i) := by
  unfold wd
  have h' : i < wordL.length := by rw [wordL_len]; exact h
  rw [List.getD_eq_getElem?_getD, List.getElem?_eq_getElem h']
  rfl
theorem wd_lt {i j : Nat} (hj : j < nW) (h : i < j) : ltL (wd i) (wd j) = true := asc_get words_asc h (wd_get (Nat.lt_trans h hj)) (wd_get hj)
theorem ltL_irrefl (a : Str) : ltL a a = false := by
  unfold ltL
  exact decide_eq_false (List.lt_irrefl _)
theorem wd_inj {i j : Nat} (hi : i < nW) (hj : j < nW) (e : wd i = wd j) : i = j := by
  rcases Nat.lt_trichotomy i j with h | h | h
  · have q := wd_lt hj h
    rw [e, ltL_irrefl] at q
    cases q
  · exact h
  · have q := wd_lt hi h
    rw [e, ltL_irrefl] at q
    cases q

/-- a value: numbers, words (by their place in the table), other texts, tuples as trees; fl: a list that is never written (the script); ob: the object with this number -/
inductive D where
  | non | bl (b : Bool) | int (i : Int) | str (n : Nat) | txt (x : Str) | tup (ds : List D) | fl (ds : List D) | ob (n : Nat)
inductive O where
  | lst (ds : List D) | dic (kvs : List (D × D)) | ins (c : Nat) (fs : List (Nat × D))
abbrev AH := List O

/-- a list that is read alone -/
def FzL (K : PySem.W.Frag) (H : Hp) (a : Addr) (xs : List V) : Prop := (∃ o, H a = some (.frz o (.lst xs))) ∨
    ∃ (o : Obj) (its : Array Value) (n : Nat), K.lookup a = some o ∧ o.cls = .type "list" ∧ o.dict = none ∧ o.data = .seq its n ∧ its.size ≤ sizeLine ∧ Vals xs its.toList
theorem FzL.seq {K : PySem.W.Frag} {H : Hp} {a : Addr} {xs : List V} (h : FzL K H a xs) : SqL K H a xs := by
  rcases h with ⟨o, h⟩ | h
  · exact .inl (.inr ⟨o, h⟩)
  · exact .inr h

mutual
inductive RD (K : PySem.W.Frag) (m : List Addr) (H : Hp) : D → V → Prop
  | non : RD K m H .non .non
  | bl (b : Bool) : RD K m H (.bl b) (.bl b)
  | int (i : Int) : RD K m H (.int i) (.int i)
  | str {n : Nat} (h : n < nW) : RD K m H (.str n) (.str (wd n))
  | txt (x : Str) : RD K m H (.txt x) (.str x)
  | tup {ds : List D} {a : Addr} {xs : List V} (h : SqT K H a xs) (r : RDs K m H ds xs) : RD K m H (.tup ds) (.ref a)
  | fl {ds : List D} {a : Addr} {xs : List V} (h : FzL K H a xs) (r : RDs K m H ds xs) : RD K m H (.fl ds) (.ref a)
  | ob {n : Nat} {a : Addr} (h : m[n]? = some a) : RD K m H (.ob n) (.ref a)
inductive RDs (K : PySem.W.Frag) (m : List Addr) (H : Hp) : List D → List V → Prop
  | nil : RDs K m H [] []
  | cons {d : D} {ds : List D} {v : V} {vs : List V} (h : RD K m H d v) (t : RDs K m H ds vs) : RDs K m H (d :: ds) (v :: vs)
end

/-- what every step keeps: the tuples, the lists that are read alone, the numbers given out -/
structure Ext (K : PySem.W.Frag) (m : List Addr) (H : Hp) (m' : List Addr) (H' : Hp) : Prop where
  pre : ∀ (n : Nat) (a : Addr), m[n]? = some a → m'[n]? = some a
  tup : ∀ a xs, SqT K H a xs → SqT K H' a xs
  fl : ∀ a xs, FzL K H a xs → FzL K H' a xs
  /-- what is tracked and bears no number is kept, and gets none -/
  fr : ∀ a o, H a = some o → a ∉ m → H' a = some o ∧ a ∉ m'
theorem Ext.refl {K : PySem.W.Frag} {m : List Addr} {H : Hp} : Ext K m H m H := ⟨fun _ _ h => h, fun _ _ h => h, fun _ _ h => h, fun _ _ h n => ⟨h, n⟩⟩
theorem Ext.trans {K : PySem.W.Frag} {m m1 m2 : List Addr} {H H1 H2 : Hp} (a : Ext K m H m1 H1) (b : Ext K m1 H1 m2 H2) : Ext K m H m2 H2 :=
  ⟨fun n x h => b.pre n x (a.pre n x h), fun x xs h => b.tup x xs (a.tup x xs h), fun x xs h => b.fl x xs (a.fl x xs h), fun x o h n => let ⟨h1, n1⟩ := a.fr x o h n; b.fr x o h1 n1⟩
section
variable {K : PySem.W.Frag} {m m' : List Addr} {H H' : Hp}
mutual
theorem RD.ext0 (p : ∀ (n : Nat) (a : Addr), m[n]? = some a → m'[n]? = some a) (t : ∀ a xs, SqT K H a xs → SqT K H' a xs) (f : ∀ a xs, FzL K H a xs → FzL K H' a xs) : ∀ {d : D} {v : V}, RD K m H d v → RD K m' H' d v
  | _, _, .non => .non
  | _, _, .bl b => .bl b
  | _, _, .int i => .int i
  | _, _, .str h => .str h
  | _, _, .txt x => .txt x
  | _, _, .tup h r => .tup (t _ _ h) (RDs.ext0 p t f r)
  | _, _, .fl h r => .fl (f _ _ h) (RDs.ext0 p t f r)
  | _, _, .ob h => .ob (p _ _ h)
theorem RDs.ext0 (p : ∀ (n : Nat) (a : Addr), m[n]? = some a → m'[n]? = some a) (t : ∀ a xs, SqT K H a xs → SqT K H' a xs) (f : ∀ a xs, FzL K H a xs → FzL K H' a xs) : ∀ {ds : List D} {vs : List V}, RDs K m H ds vs → RDs K m' H' ds vs
  | _, _, .nil => .nil
  | _, _, .cons h r => .cons (RD.ext0 p t f h) (RDs.ext0 p t f r)
end
theorem RD.ext (e : Ext K m H m' H') {d : D} {v : V} (r : RD K m H d v) : RD K m' H' d v := r.ext0 e.pre e.tup e.fl
theorem RDs.ext (e : Ext K m H m' H') {ds : List D} {vs : List V} (r : RDs K m H ds vs) : RDs K m' H' ds vs := r.ext0 e.pre e.tup e.fl
theorem RDs.length : ∀ {ds : List D} {vs : List V}, RDs K m H ds vs → ds.length = vs.length
  | _, _, .nil => rfl
  | _, _, .cons _ t => congrArg Nat.succ t.length
theorem RDs.get : ∀ {ds : List D} {vs : List V} {i : Nat} {d : D}, RDs K m H ds vs → ds[i]? = some d → ∃ v, vs[i]? = some v ∧ RD K m H d v
  | _, _, _, _, .nil, e => by simp at e
  | _, _, 0, _, .cons h _, e => by simp at e; subst e; exact ⟨_, rfl, h⟩
  | _, _, i + 1, d, .cons _ t, e => by
    obtain ⟨v, h1, h2⟩ := RDs.get (i := i) (d := d) t (by simpa using e)
    exact ⟨v, by simpa using h1, h2⟩
theorem RDs.getV : ∀ {ds : List D} {vs : List V} {i : Nat} {v : V}, RDs K m H ds vs → vs[i]? = some v → ∃ d, ds[i]? = some d ∧ RD K m H d v
  | _, _, _, _, .nil, e => by simp at e
  | _, _, 0, _, .cons h _, e => by simp at e; subst e; exact ⟨_, rfl, h⟩
  | _, _, i + 1, d, .cons _ t, e => by
    obtain ⟨v, h1, h2⟩ := RDs.getV (i := i) (v := d) t (by simpa using e)
    exact ⟨v, by simpa using h1, h2⟩
theorem RDs.append : ∀ {ds es : List D} {vs ws : List V}, RDs K m H ds vs → RDs K m H es ws → RDs K m H (ds ++ es) (vs ++ ws)
  | _, _, _, _, .nil, s => s
  | _, _, _, _, .cons h t, s => .cons h (RDs.append t s)
theorem RDs.set {d : D} {v : V} (r : RD K m H d v) : ∀ {ds : List D} {vs : List V} (i : Nat), RDs K m H ds vs → RDs K m H (ds.set i d) (vs.set i v)
  | _, _, _, .nil => .nil
  | _, _, 0, .cons _ t => .cons r t
  | _, _, i + 1, .cons q t => .cons q (RDs.set r i t)
theorem RDs.take : ∀ {ds : List D} {vs : List V} (n : Nat), RDs K m H ds vs → RDs K m H (ds.take n) (vs.take n)
  | _, _, 0, _ => .nil
  | _, _, _ + 1, .nil => .nil
  | _, _, n + 1, .cons r t => .cons r (RDs.take n t)
theorem RDs.drop : ∀ {ds : List D} {vs : List V} (n : Nat), RDs K m H ds vs → RDs K m H (ds.drop n) (vs.drop n)
  | _, _, 0, r => r
  | _, _, _ + 1, .nil => .nil
  | _, _, n + 1, .cons _ t => RDs.drop n t
theorem RDs.reverse {ds : List D} {vs : List V} (h : RDs K m H ds vs) : RDs K m H ds.reverse vs.reverse := by
  induction ds generalizing vs with
  | nil => cases h; exact .nil
  | cons d ds ih =>
    cases h with
    | cons h t =>
      rw [List.reverse_cons, List.reverse_cons]
      exact (ih t).append (.cons h .nil)
theorem RDs.ints : ∀ (ns : List Int), RDs K m H (ns.map D.int) (ns.map V.int)
  | [] => .nil
  | n :: ns => .cons (.int n) (RDs.ints ns)
theorem RDs.ofInts : ∀ {ns : List Int} {vs : List V}, RDs K m H (ns.map D.int) vs → vs = ns.map V.int
  | [], _, .nil => rfl
  | _ :: _, _, .cons h t => by
    cases h
    rw [RDs.ofInts t]
    rfl
end

/-! ### objects -/
def RF (K : PySem.W.Frag) (m : List Addr) (H : Hp) : List (Nat × D) → List (Str × V) → Prop
  | [], [] => True
  | (n, d) :: fs, (x, v) :: gs => n < nW ∧ x = wd n ∧ RD K m H d v ∧ RF K m H fs gs
  | _, _ => False
/-- a key that is no tuple -/
def keyD : D → Option Key
  | .int i => some (.inl i)
  | .str n => some (.inr (wd n))
  | .txt x => some (.inr x)
  | _ => none
def RK (K : PySem.W.Frag) (m : List Addr) (H : Hp) : List (D × D) → List (Key × V) → Prop
  | [], [] => True
  | (k, d) :: fs, (x, v) :: gs => keyD k = some x ∧ RD K m H k (kV x) ∧ RD K m H d v ∧ RK K m H fs gs
  | _, _ => False
mutual
/-- a key as the library's nested keys have it -/
def nkD : D → Option NestedKey
  | .non => some .none
  | .bl b => some (.num (if b then 1 else 0))
  | .int i => some (.num i)
  | .str n => some (.text (wd n))
  | .txt x => some (.text x)
  | .tup ds => match nkDs ds with
    | some ks => some (.tup ks)
    | none => none
  | _ => none
def nkDs : List D → Option (List NestedKey)
  | [] => some []
  | d :: ds => match nkD d with
    | some k => (match nkDs ds with
      | some ks => some (k :: ks)
      | none => none)
    | none => none
end
/-- what is true of a dict's own object: its entries -/
def DicAt (w : World) (a : Addr) (es : List (NestedKey × Addr × V)) (h : Heap) : Prop := (a == sysModules) = false ∧ ∃ (o : Obj) (ds : Array DictEntry) (ep : Nat), h.get? a = some o ∧ o.ExactDict ∧ o.data = .dict ds ep ∧
  Paired (fun (e : NestedKey × Addr × V) (d : DictEntry) => d.key = .ref e.2.1 ∧ d.hash = e.1.hash w ∧ RelV e.2.2 d.val) es ds.toList
def RN (K : PySem.W.Frag) (m : List Addr) (H : Hp) : List (D × D) → List (NestedKey × Addr × V) → Prop
  | [], [] => True
  | (k, d) :: fs, (x, a, v) :: gs => nkD k = some x ∧ x.depth ≤ 8 ∧ RD K m H k (.ref a) ∧ RD K m H d v ∧ RN K m H fs gs
  | _, _ => False
/-- the object with a number, as it stands -/
def RO (w : World) (K : PySem.W.Frag) (ca : Nat → Option Addr) (m : List Addr) (H : Hp) (a : Addr) : O → Prop
  | .lst ds => ∃ xs, H a = some (.lst xs) ∧ RDs K m H ds xs
  | .dic kvs => (∃ ks, H a = some (.dK ks) ∧ RK K m H kvs ks) ∨ (∃ es, H a = some (.ext (DicAt w a es)) ∧ (es.map (·.1)).Nodup ∧ RN K m H kvs es)
  | .ins c fs => ∃ C dx gs, ca c = some C ∧ H a = some (.ins C dx gs) ∧ H dx = some (.own a) ∧ RF K m H fs gs
structure RelH (w : World) (K : PySem.W.Frag) (ca : Nat → Option Addr) (m : List Addr) (H : Hp) (h : AH) : Prop where
  len : m.length = h.length
  nd : m.Nodup
  ob : ∀ (n : Nat) (o : O) (a : Addr), h[n]? = some o → m[n]? = some a → RO w K ca m H a o
structure RelS (K : PySem.W.Frag) (m : List Addr) (H : Hp) (ρ : List (Option D)) (σ : L2.St) : Prop where
  len : σ.length = ρ.length
  at_ : ∀ (i : Nat) (d : D), ρ[i]? = some (some d) → ∃ v, σ[i]? = some (some v) ∧ RD K m H d v
theorem RelS.ext {K : PySem.W.Frag} {m m' : List Addr} {H H' : Hp} {ρ : List (Option D)} {σ : L2.St} (e : Ext K m H m' H') (r : RelS K m H ρ σ) : RelS K m' H' ρ σ :=
  ⟨r.len, fun i d h => let ⟨v, h1, h2⟩ := r.at_ i d h; ⟨v, h1, h2.ext e⟩⟩
theorem RelS.set {K : PySem.W.Frag} {m : List Addr} {H : Hp} {ρ : List (Option D)} {σ : L2.St} {d : D} {v : V} (r : RelS K m H ρ σ) (i : Nat) (q : RD K m H d v) : RelS K m H (ρ.set i (some d)) (σ.set i (some v)) := by
  refine ⟨by simp [r.len], fun j e h => ?_⟩
  by_cases hj : i = j
  · subst hj
    have hl : i < ρ.length := by
      by_cases hl : i < ρ.length
      · exact hl
      · rw [List.getElem?_eq_none (by simpa using hl)] at h
        cases h
    rw [List.getElem?_set_self hl] at h
    cases h
    exact ⟨v, by rw [List.getElem?_set_self (by rw [r.len]; exact hl)], q⟩
  · rw [List.getElem?_set_ne hj] at h
    obtain ⟨u, h1, h2⟩ := r.at_ j e h
    exact ⟨u, by rw [List.getElem?_set_ne hj]; exact h1, h2⟩

section
variable {w : World} {K : PySem.W.Frag} {ca : Nat → Option Addr} {m m' : List Addr} {H H' : Hp} {h : AH}
theorem RF.ext0 (p : ∀ (n : Nat) (a : Addr), m[n]? = some a → m'[n]? = some a) (t : ∀ a xs, SqT K H a xs → SqT K H' a xs) (f : ∀ a xs, FzL K H a xs → FzL K H' a xs) : ∀ {fs : List (Nat × D)} {gs : List (Str × V)}, RF K m H fs gs → RF K m' H' fs gs
  | [], [], _ => True.intro
  | (_, _) :: _, (_, _) :: _, h => ⟨h.1, h.2.1, h.2.2.1.ext0 p t f, RF.ext0 p t f h.2.2.2⟩
  | [], _ :: _, h => h.elim
  | _ :: _, [], h => h.elim
theorem RK.ext0 (p : ∀ (n : Nat) (a : Addr), m[n]? = some a → m'[n]? = some a) (t : ∀ a xs, SqT K H a xs → SqT K H' a xs) (f : ∀ a xs, FzL K H a xs → FzL K H' a xs) : ∀ {fs : List (D × D)} {gs : List (Key × V)}, RK K m H fs gs → RK K m' H' fs gs
  | [], [], _ => True.intro
  | (_, _) :: _, (_, _) :: _, h => ⟨h.1, h.2.1.ext0 p t f, h.2.2.1.ext0 p t f, RK.ext0 p t f h.2.2.2⟩
  | [], _ :: _, h => h.elim
  | _ :: _, [], h => h.elim
theorem RN.ext0 (p : ∀ (n : Nat) (a : Addr), m[n]? = some a → m'[n]? = some a) (t : ∀ a xs, SqT K H a xs → SqT K H' a xs) (f : ∀ a xs, FzL K H a xs → FzL K H' a xs) : ∀ {fs : List (D × D)} {gs : List (NestedKey × Addr × V)}, RN K m H fs gs → RN K m' H' fs gs
  | [], [], _ => True.intro
  | (_, _) :: _, (_, _, _) :: _, h => ⟨h.1, h.2.1, h.2.2.1.ext0 p t f, h.2.2.2.1.ext0 p t f, RN.ext0 p t f h.2.2.2.2⟩
  | [], _ :: _, h => h.elim
  | _ :: _, [], h => h.elim
/-- an object whose own place (and whose own dict's) is as it was -/
theorem RO.ext0 {a : Addr} {o : O} (p : ∀ (n : Nat) (a : Addr), m[n]? = some a → m'[n]? = some a) (t : ∀ a xs, SqT K H a xs → SqT K H' a xs) (f : ∀ a xs, FzL K H a xs → FzL K H' a xs)
    (k : ∀ b u, (b = a ∨ H b = some (.own a)) → H b = some u → H' b = some u) (r : RO w K ca m H a o) : RO w K ca m' H' a o := by
  cases o with
  | lst ds => obtain ⟨xs, h1, h2⟩ := r; exact ⟨xs, k _ _ (.inl rfl) h1, h2.ext0 p t f⟩
  | dic kvs =>
    rcases r with ⟨ks, h1, h2⟩ | ⟨es, h1, h2, h3⟩
    · exact .inl ⟨ks, k _ _ (.inl rfl) h1, h2.ext0 p t f⟩
    · exact .inr ⟨es, k _ _ (.inl rfl) h1, h2, h3.ext0 p t f⟩
  | ins c fs =>
    obtain ⟨C, dx, gs, h0, h1, h2, h3⟩ := r
    exact ⟨C, dx, gs, h0, k _ _ (.inl rfl) h1, k _ _ (.inr h2) h2, h3.ext0 p t f⟩
theorem RO.ext {a : Addr} {o : O} (e : Ext K m H m' H') (k : ∀ b u, (b = a ∨ H b = some (.own a)) → H b = some u → H' b = some u) (r : RO w K ca m H a o) : RO w K ca m' H' a o := r.ext0 e.pre e.tup e.fl k
/-- the heap's object at a -/
def MutO : HO → Prop
  | .lst _ => True
  | .dK _ => True
  | .ext _ => True
  | .ins _ _ _ => True
  | _ => False
theorem RO.mutO {a : Addr} {o : O} (r : RO w K ca m H a o) : ∃ u, H a = some u ∧ MutO u := by
  cases o with
  | lst ds => obtain ⟨xs, h1, _⟩ := r; exact ⟨_, h1, True.intro⟩
  | dic kvs =>
    rcases r with ⟨ks, h1, _⟩ | ⟨es, h1, _⟩
    · exact ⟨_, h1, True.intro⟩
    · exact ⟨_, h1, True.intro⟩
  | ins c fs => obtain ⟨C, dx, gs, _, h1, _⟩ := r; exact ⟨_, h1, True.intro⟩
theorem RelH.there (R : RelH w K ca m H h) {n : Nat} {a : Addr} (e : m[n]? = some a) : ∃ u, H a = some u ∧ MutO u := by
  have hl : n < h.length := by rw [← R.len]; exact (List.getElem?_eq_some_iff.mp e).1
  exact (R.ob n h[n] a (List.getElem?_eq_getElem hl) e).mutO

/-! ### a new thing, a thing written -/
theorem sqT_upd {a : Addr} {o : HO} (n1 : ∀ xs, H a ≠ some (.tup xs)) (n2 : ∀ u xs, H a ≠ some (.frz u (.tup xs))) {b : Addr} {xs : List V} (h : SqT K H b xs) : SqT K (upd H a o) b xs := by
  rcases h with (h | ⟨u, h⟩) | h
  · refine .inl (.inl ?_)
    rw [upd_ne (fun e : b = a => n1 xs (by rw [← e]; exact h))]; exact h
  · refine .inl (.inr ⟨u, ?_⟩)
    rw [upd_ne (fun e : b = a => n2 u xs (by rw [← e]; exact h))]; exact h
  · exact .inr h
theorem fzL_upd {a : Addr} {o : HO} (n2 : ∀ u xs, H a ≠ some (.frz u (.lst xs))) {b : Addr} {xs : List V} (h : FzL K H b xs) : FzL K (upd H a o) b xs := by
  rcases h with ⟨u, h⟩ | h
  · refine .inl ⟨u, ?_⟩
    rw [upd_ne (fun e : b = a => n2 u xs (by rw [← e]; exact h))]; exact h
  · exact .inr h
theorem Ext.new {a : Addr} {o : HO} (n : H a = none) : Ext K m H m (upd H a o) :=
  ⟨fun _ _ h => h, fun _ _ h => sqT_upd (by rw [n]; intro _ z; cases z) (by rw [n]; intro _ _ z; cases z) h, fun _ _ h => fzL_upd (by rw [n]; intro _ _ z; cases z) h, fun b u h k => ⟨by rw [upd_ne (ne_of_none h n)]; exact h, k⟩⟩
theorem Ext.written {a : Addr} {o u : HO} {k : Nat} (hk : m[k]? = some a) (n : H a = some u) (hm : MutO u) : Ext K m H m (upd H a o) := by
  refine ⟨fun _ _ h => h, fun _ _ h => sqT_upd ?_ ?_ h, fun _ _ h => fzL_upd ?_ h, fun b v h j => ⟨by rw [upd_ne (fun e => j (by rw [e]; exact List.mem_of_getElem? hk))]; exact h, j⟩⟩
  · rw [n]; intro _ z; cases z; exact hm
  · rw [n]; intro _ _ z; cases z; exact hm
  · rw [n]; intro _ _ z; cases z; exact hm
theorem pre_more {l : List Addr} : ∀ (n : Nat) (a : Addr), m[n]? = some a → (m ++ l)[n]? = some a := fun n a h => by
  rw [List.getElem?_append_left (List.getElem?_eq_some_iff.mp h).1]; exact h
theorem Ext.num {a : Addr} {o : HO} (n : H a = none) : Ext K m H (m ++ [a]) (upd H a o) :=
  ⟨pre_more, (Ext.new (K := K) (m := m) n).tup, (Ext.new (K := K) (m := m) n).fl, fun b u h k => ⟨by rw [upd_ne (ne_of_none h n)]; exact h, fun z => by
    rcases List.mem_append.mp z with z | z
    · exact k z
    · exact ne_of_none h n (by simpa using z)⟩⟩
/-- a new tuple (or any new thing that no number stands for) -/
theorem RelH.new {a : Addr} {o : HO} (R : RelH w K ca m H h) (n : H a = none) : RelH w K ca m (upd H a o) h :=
  ⟨R.len, R.nd, fun k ob b e1 e2 => (R.ob k ob b e1 e2).ext (Ext.new n) fun c u _ hu => by rw [upd_ne (ne_of_none hu n)]; exact hu⟩
/-- a new numbered thing -/
theorem RelH.num {a : Addr} {u : HO} {o : O} (R : RelH w K ca m H h) (n : H a = none) (r : RO w K ca (m ++ [a]) (upd H a u) a o) : RelH w K ca (m ++ [a]) (upd H a u) (h ++ [o]) := by
  have hout : a ∉ m := fun hm => by
    obtain ⟨i, e⟩ := List.getElem?_of_mem hm
    obtain ⟨v, hv, _⟩ := R.there e
    rw [n] at hv; cases hv
  refine ⟨by simp [R.len], ?_, fun k ob b e1 e2 => ?_⟩
  · rw [List.nodup_append]
    refine ⟨R.nd, by simp, fun x hx y hy e => ?_⟩
    have : y = a := by simpa using hy
    subst this
    exact hout (e ▸ hx)
  · by_cases hk : k < h.length
    · rw [List.getElem?_append_left hk] at e1
      rw [List.getElem?_append_left (by rw [R.len]; exact hk)] at e2
      exact (R.ob k ob b e1 e2).ext (Ext.num n) fun c v _ hv => by rw [upd_ne (ne_of_none hv n)]; exact hv
    · have hk2 : k = h.length := by
        have := (List.getElem?_eq_some_iff.mp e1).1
        rw [List.length_append] at this
        simp at this
        omega
      subst hk2
      rw [List.getElem?_append_right (Nat.le_refl _)] at e1
      rw [List.getElem?_append_right (by rw [R.len]; exact Nat.le_refl _), R.len] at e2
      simp at e1 e2
      subst e1 e2
      exact r
/-- the numbered thing n written -/
theorem RelH.put {a : Addr} {u u0 : HO} {o : O} {n : Nat} (R : RelH w K ca m H h) (hn : m[n]? = some a) (h0 : H a = some u0) (hm : MutO u0) (r : RO w K ca m (upd H a u) a o) : RelH w K ca m (upd H a u) (h.set n o) := by
  refine ⟨by simp [R.len], R.nd, fun k ob b e1 e2 => ?_⟩
  by_cases hk : n = k
  · subst hk
    have hl : n < h.length := by rw [← R.len]; exact (List.getElem?_eq_some_iff.mp hn).1
    rw [List.getElem?_set_self hl] at e1
    rw [hn] at e2
    cases e1; cases e2
    exact r
  · rw [List.getElem?_set_ne hk] at e1
    have hne : b ≠ a := fun e => by
      subst e
      obtain ⟨h1, q1⟩ := List.getElem?_eq_some_iff.mp hn
      obtain ⟨h2, q2⟩ := List.getElem?_eq_some_iff.mp e2
      exact hk ((List.getElem_inj R.nd).mp (q1.trans q2.symm))
    refine (R.ob k ob b e1 e2).ext (Ext.written hn h0 hm) fun c v hc hv => ?_
    rw [upd_ne]
    · exact hv
    · intro e
      subst e
      rcases hc with hc | hc
      · exact hne hc.symm
      · rw [h0] at hc; cases hc; exact hm
end
end Cw

end

section
/-! What an expression, a statement is worth over trees; the judgements that tie it to the layer. -/
namespace Cw
open PySem PySem.Spec PyProof.Rows L2

inductive Out (α : Type) where
  | ok (a : α) (h : AH) | ex (c : Nat) (fs : List D) (h : AH) | bad
def Out.bind {α β : Type} (x : Out α) (f : α → AH → Out β) : Out β := match x with
  | .ok a h => f a h
  | .ex c fs h => .ex c fs h
  | .bad => .bad
theorem Out.bind_ok {α β : Type} {x : Out α} {f : α → AH → Out β} {b : β} {h' : AH} (e : x.bind f = .ok b h') : ∃ a h, x = .ok a h ∧ f a h = .ok b h' := by
  cases x with
  | ok a h => exact ⟨a, h, rfl, e⟩
  | ex c fs h => cases e
  | bad => cases e
@[simp] theorem Out.ok_bind {α β : Type} {a : α} {h : AH} {f : α → AH → Out β} : (Out.ok a h).bind f = f a h := rfl

/-- a def by its name's number; a method by its class's and its own -/
inductive Fk where
  | fn (n : Nat) | me (c m : Nat)
  deriving DecidableEq
abbrev CallF := Fk → List D → AH → Out D
abbrev Env := List (Option D)
abbrev SE := CallF → Env → AH → Out D
abbrev SA := CallF → Env → AH → Out (List D)
inductive Fl where
  | nx (ρ : Env) | rt (d : D) | bk (ρ : Env) | ct (ρ : Env)
abbrev SS := CallF → Env → AH → Out Fl

/-- the written part, where the classes stand -/
structure Wk where
  P : Program
  w : World
  K : PySem.W.Frag
  mg : Str → Option Value
  base : Heap
  ca : Nat → Option Addr
abbrev Wk.R (W : Wk) (m : List Addr) (H : Hp) (h : AH) : Prop := RelH W.w W.K W.ca m H h
/-- the wish behind: whatever extends the state and is related to the outcome -/
def Wish (W : Wk) (m : List Addr) (H : Hp) (h' : AH) (q : List Addr → Hp → Prop) : Prop := ∀ m' H', Ext W.K m H m' H' → W.R m' H' h' → q m' H'
def tE (W : Wk) (c : CallF) (f : SE) : TE := fun σ H Q => ∃ m ρ h d h', RelS W.K m H ρ σ ∧ W.R m H h ∧ f c ρ h = .ok d h' ∧ Wish W m H h' fun m' H' => ∀ v, RD W.K m' H' d v → Q v H'
def tA (W : Wk) (c : CallF) (f : SA) : TA := fun σ H Q => ∃ m ρ h d h', RelS W.K m H ρ σ ∧ W.R m H h ∧ f c ρ h = .ok d h' ∧ Wish W m H h' fun m' H' => ∀ vs, RDs W.K m' H' d vs → Q vs H'
def tT (W : Wk) (c : CallF) (f : SE) : TT := fun σ H Q => ∃ m ρ h b h', RelS W.K m H ρ σ ∧ W.R m H h ∧ f c ρ h = .ok (.bl b) h' ∧ Wish W m H h' fun _ H' => Q b H'
/-- behind a statement -/
def FlQ (W : Wk) (m' : List Addr) (H' : Hp) (D0 : Ends) : Fl → Prop
  | .nx ρ => ∀ σ, RelS W.K m' H' ρ σ → D0.nx σ H'
  | .rt d => ∀ v, RD W.K m' H' d v → D0.rt v H'
  | .bk ρ => ∀ σ, RelS W.K m' H' ρ σ → D0.bk σ H'
  | .ct ρ => ∀ σ, RelS W.K m' H' ρ σ → D0.ct σ H'
def tS (W : Wk) (c : CallF) (f : SS) : TS := fun D0 σ H => ∃ m ρ h fl h', RelS W.K m H ρ σ ∧ W.R m H h ∧ f c ρ h = .ok fl h' ∧ Wish W m H h' fun m' H' => FlQ W m' H' D0 fl

abbrev DE (W : Wk) (c : CallF) (X : Cx) (e : Expr) (f : SE) : Prop := PE X e (tE W c f)
abbrev DA (W : Wk) (c : CallF) (X : Cx) (es : List Expr) (f : SA) : Prop := PA X es (tA W c f)
abbrev DT (W : Wk) (c : CallF) (X : Cx) (e : Expr) (f : SE) : Prop := PT X e (tT W c f)
abbrev DW (W : Wk) (c : CallF) (X : Cx) (e : Expr) (f : SE) : Prop := PW X e (tT W c f)
abbrev DS (W : Wk) (c : CallF) (X : Cx) (s : Stmt) (f : SS) : Prop := PS X s (tS W c f)
abbrev DB (W : Wk) (c : CallF) (X : Cx) (s : List Stmt) (f : SS) : Prop := PSs X s (tS W c f)

theorem PE.imp {X : Cx} {e : Expr} {t u : TE} (h : PE X e t) (k : ∀ σ H Q, u σ H Q → t σ H Q) : PE X e u := ⟨fun pins s σ H Q I q => h.run pins s σ H Q I (k σ H Q q)⟩
theorem PA.imp {X : Cx} {e : List Expr} {t u : TA} (h : PA X e t) (k : ∀ σ H Q, u σ H Q → t σ H Q) : PA X e u := ⟨fun pos pins s σ H Q I q => h.run pos pins s σ H Q I (k σ H Q q)⟩
theorem PT.imp {X : Cx} {e : Expr} {t u : TT} (h : PT X e t) (k : ∀ σ H Q, u σ H Q → t σ H Q) : PT X e u := ⟨fun pins s σ H Q I q => h.run pins s σ H Q I (k σ H Q q)⟩
theorem PW.imp {X : Cx} {e : Expr} {t u : TT} (h : PW X e t) (k : ∀ σ H Q, u σ H Q → t σ H Q) : PW X e u := ⟨fun wh pins s σ H Q I q => h.run wh pins s σ H Q I (k σ H Q q)⟩
theorem PS.imp {X : Cx} {e : Stmt} {t u : TS} (h : PS X e t) (k : ∀ D σ H, u D σ H → t D σ H) : PS X e u := ⟨fun pins s σ H D I q => h.run pins s σ H D I (k D σ H q)⟩
theorem PSs.imp {X : Cx} {e : List Stmt} {t u : TS} (h : PSs X e t) (k : ∀ D σ H, u D σ H → t D σ H) : PSs X e u := ⟨fun pins s σ H D I q => h.run pins s σ H D I (k D σ H q)⟩

/-! ### by values -/
def tV1 (W : Wk) (g : D → AH → Out D) : V → Hp → VK → Prop := fun x H Q => ∃ m h dx d h', W.R m H h ∧ RD W.K m H dx x ∧ g dx h = .ok d h' ∧ Wish W m H h' fun m' H' => ∀ v, RD W.K m' H' d v → Q v H'
def tV2 (W : Wk) (g : D → D → AH → Out D) : R2 := fun x y H Q => ∃ m h dx dy d h', W.R m H h ∧ RD W.K m H dx x ∧ RD W.K m H dy y ∧ g dx dy h = .ok d h' ∧ Wish W m H h' fun m' H' => ∀ v, RD W.K m' H' d v → Q v H'
def tVn (W : Wk) (g : List D → AH → Out D) : List V → Hp → VK → Prop := fun xs H Q => ∃ m h ds d h', W.R m H h ∧ RDs W.K m H ds xs ∧ g ds h = .ok d h' ∧ Wish W m H h' fun m' H' => ∀ v, RD W.K m' H' d v → Q v H'
def tVm (W : Wk) (g : D → List D → AH → Out D) : V → List V → Hp → VK → Prop := fun x xs H Q => ∃ m h dx ds d h', W.R m H h ∧ RD W.K m H dx x ∧ RDs W.K m H ds xs ∧ g dx ds h = .ok d h' ∧ Wish W m H h' fun m' H' => ∀ v, RD W.K m' H' d v → Q v H'

section
variable {W : Wk} {c : CallF} {X : Cx} {a b e : Expr} {es : List Expr} {fa fb fe : SE} {pos : Pos}
theorem Wish.here {m : List Addr} {H : Hp} {h' : AH} {q : List Addr → Hp → Prop} (w : Wish W m H h' q) (r : W.R m H h') : q m H := w m H Ext.refl r
theorem Wish.from {m m1 : List Addr} {H H1 : Hp} {h' : AH} {q : List Addr → Hp → Prop} (w : Wish W m H h' q) (e : Ext W.K m H m1 H1) : Wish W m1 H1 h' q := fun m' H' e' r => w m' H' (e.trans e') r

/-- the state goes on: an expression ahead, what it gives handed on -/
theorem tE_bind {f : SE} {g : D → AH → Out D} {σ : L2.St} {H : Hp} {Q : VK} (h : tE W c (fun c ρ h => (f c ρ h).bind g) σ H Q) :
    tE W c f σ H fun x H1 => tV1 W g x H1 Q := by
  obtain ⟨m, ρ, h0, d, h', rs, rh, e, q⟩ := h
  obtain ⟨d1, h1, e1, e2⟩ := Out.bind_ok e
  exact ⟨m, ρ, h0, d1, h1, rs, rh, e1, fun m' H' x r v rv => ⟨m', h1, d1, d, h', r, rv, e2, q.from x⟩⟩

def eVar (i : Nat) : SE := fun _ ρ h => match ρ[i]? with
  | some (some d) => .ok d h
  | _ => .bad
def eC (d : D) : SE := fun _ _ h => .ok d h
def eUn (g : D → AH → Out D) (a : SE) : SE := fun c ρ h => (a c ρ h).bind g
def eBin (g : D → D → AH → Out D) (a b : SE) : SE := fun c ρ h => (a c ρ h).bind fun x h1 => (b c ρ h1).bind fun y h2 => g x y h2
def aNil : SA := fun _ _ h => .ok [] h
def aCons (a : SE) (r : SA) : SA := fun c ρ h => (a c ρ h).bind fun x h1 => (r c ρ h1).bind fun xs h2 => .ok (x :: xs) h2
def eTup (r : SA) : SE := fun c ρ h => (r c ρ h).bind fun xs h1 => if xs.length ≤ 1000 then .ok (.tup xs) h1 else .bad
def eLst (r : SA) : SE := fun c ρ h => (r c ρ h).bind fun xs h1 => if xs.length ≤ 1000 then .ok (.ob h1.length) (h1 ++ [.lst xs]) else .bad
def eArg (g : List D → AH → Out D) (r : SA) : SE := fun c ρ h => (r c ρ h).bind g
def eCall (f : Fk) (r : SA) : SE := fun c ρ h => (r c ρ h).bind fun xs h1 => c f xs h1
def eMt (g : D → List D → AH → Out D) (a : SE) (r : SA) : SE := fun c ρ h => (a c ρ h).bind fun x h1 => (r c ρ h1).bind fun xs h2 => g x xs h2
def isB : D → AH → Out D → Out D
  | .bl _, _, o => o
  | _, _, _ => .bad
/-- a test's answer -/
def onB (x : D) (t f : Out D) : Out D := match x with
  | .bl true => t
  | .bl false => f
  | _ => .bad
def eIf (t a b : SE) : SE := fun c ρ h => (t c ρ h).bind fun x h1 => onB x (a c ρ h1) (b c ρ h1)
def eAnd (a b : SE) : SE := fun c ρ h => (a c ρ h).bind fun x h1 => onB x (b c ρ h1) (.ok (.bl false) h1)
def eOr (a b : SE) : SE := fun c ρ h => (a c ρ h).bind fun x h1 => onB x (.ok (.bl true) h1) (b c ρ h1)
def eNot (a : SE) : SE := fun c ρ h => (a c ρ h).bind fun x h1 => onB x (.ok (.bl false) h1) (.ok (.bl true) h1)
/-- a < b < d -/
def eChain (g g' : D → D → AH → Out D) (a b d : SE) : SE := fun c ρ h => (a c ρ h).bind fun x h1 => (b c ρ h1).bind fun y h2 => (g x y h2).bind fun z h3 => onB z ((d c ρ h3).bind fun u h4 => g' y u h4) (.ok (.bl false) h3)

theorem onB_ok {x : D} {t f : Out D} {d : D} {h' : AH} (e : onB x t f = .ok d h') : (x = .bl true ∧ t = .ok d h') ∨ (x = .bl false ∧ f = .ok d h') := by
  cases x with
  | bl b => cases b with
    | true => exact .inl ⟨rfl, e⟩
    | false => exact .inr ⟨rfl, e⟩
  | _ => cases e

theorem RD.bl_inv {K : PySem.W.Frag} {m : List Addr} {H : Hp} {b : Bool} {v : V} (r : RD K m H (.bl b) v) : v = .bl b := by cases r; rfl
theorem RD.int_inv {K : PySem.W.Frag} {m : List Addr} {H : Hp} {b : Int} {v : V} (r : RD K m H (.int b) v) : v = .int b := by cases r; rfl
theorem RD.non_inv {K : PySem.W.Frag} {m : List Addr} {H : Hp} {v : V} (r : RD K m H .non v) : v = .non := by cases r; rfl
theorem RD.tup_inv {K : PySem.W.Frag} {m : List Addr} {H : Hp} {ds : List D} {v : V} (r : RD K m H (.tup ds) v) : ∃ a xs, v = .ref a ∧ SqT K H a xs ∧ RDs K m H ds xs := by cases r with | tup h r => exact ⟨_, _, rfl, h, r⟩
theorem RD.fl_inv {K : PySem.W.Frag} {m : List Addr} {H : Hp} {ds : List D} {v : V} (r : RD K m H (.fl ds) v) : ∃ a xs, v = .ref a ∧ FzL K H a xs ∧ RDs K m H ds xs := by cases r with | fl h r => exact ⟨_, _, rfl, h, r⟩
theorem RD.ob_inv {K : PySem.W.Frag} {m : List Addr} {H : Hp} {n : Nat} {v : V} (r : RD K m H (.ob n) v) : ∃ a, v = .ref a ∧ m[n]? = some a := by cases r with | ob h => exact ⟨_, rfl, h⟩

theorem de_var {i : Nat} {x : Str} (hN : X.N[i]? = some x) (hv : Vis X.env.scope x) (hd : (x == ("__debug__" : Str)) = false) (hcd : (x == ("__classdict__" : Str)) = false) : DE W c X (.Name x pos) (eVar i) :=
  PE.imp (pe_var hN hv hd hcd) fun σ H Q ⟨m, ρ, h, d, h', rs, rh, e, q⟩ => by
    unfold eVar at e
    split at e
    · rename_i d0 hd0
      cases e
      obtain ⟨v, h1, h2⟩ := rs.at_ i _ hd0
      exact ⟨v, h1, q.here rh v h2⟩
    · cases e
theorem de_c {t : TE} {d : D} {v : V} (h : PE X e t) (ht : ∀ σ H Q, Q v H → t σ H Q) (r : ∀ m H, RD W.K m H d v) : DE W c X e (eC d) :=
  PE.imp h fun σ H Q ⟨m, ρ, h, d', h', rs, rh, e, q⟩ => by
    cases e
    exact ht σ H Q (q.here rh v (r _ _))
theorem de_bin {op : Operator} {g : D → D → AH → Out D} (ho : OpR X (binaryOp op) (tV2 W g)) (ha : DE W c X a fa) (hb : DE W c X b fb) : DE W c X (.BinOp a op b pos) (eBin g fa fb) :=
  PE.imp (pe_op ho ha hb) fun σ H Q ⟨m, ρ, h, d, h', rs, rh, e, q⟩ => by
    obtain ⟨x, h1, e1, e⟩ := Out.bind_ok e
    obtain ⟨y, h2, e2, e⟩ := Out.bind_ok e
    refine ⟨m, ρ, h, x, h1, rs, rh, e1, fun m1 H1 x1 r1 u ru => ?_⟩
    refine ⟨m1, ρ, h1, y, h2, rs.ext x1, r1, e2, fun m2 H2 x2 r2 v rv => ?_⟩
    exact ⟨m2, h2, x, y, d, h', r2, ru.ext x2, rv, e, q.from (x1.trans x2)⟩
theorem de_un {op : UnaryOp} {g : D → AH → Out D} (ho : UnR X (unaryOp op) (tV1 W g)) (ha : DE W c X a fa) : DE W c X (.UnaryOp op a pos) (eUn g fa) :=
  PE.imp (pe_un ho ha) fun σ H Q h => tE_bind h
theorem de_cmp {op : CmpOp} {g : D → D → AH → Out D} (ho : OpR X (compareOp op) (tV2 W g)) (hm : behindInMarks op b = false) (ha : DE W c X a fa) (hb : DE W c X b fb) : DE W c X (.Compare a [op] [b] pos) (eBin g fa fb) :=
  PE.imp (pe_cmpR ho ha hb hm) fun σ H Q ⟨m, ρ, h, d, h', rs, rh, e, q⟩ => by
    obtain ⟨x, h1, e1, e⟩ := Out.bind_ok e
    obtain ⟨y, h2, e2, e⟩ := Out.bind_ok e
    refine ⟨m, ρ, h, x, h1, rs, rh, e1, fun m1 H1 x1 r1 u ru => ?_⟩
    refine ⟨m1, ρ, h1, y, h2, rs.ext x1, r1, e2, fun m2 H2 x2 r2 v rv => ?_⟩
    exact ⟨m2, h2, x, y, d, h', r2, ru.ext x2, rv, e, q.from (x1.trans x2)⟩
theorem dt_cmp {op : CmpOp} {g : D → D → AH → Out D} (ho : OpR X (compareOp op) (tV2 W g)) (hm : behindInMarks op b = false) (ha : DE W c X a fa) (hb : DE W c X b fb) : DT W c X (.Compare a [op] [b] pos) (eBin g fa fb) :=
  PT.imp (pt_cmpR ho ha hb hm) fun σ H Q ⟨m, ρ, h, d, h', rs, rh, e, q⟩ => by
    obtain ⟨x, h1, e1, e⟩ := Out.bind_ok e
    obtain ⟨y, h2, e2, e⟩ := Out.bind_ok e
    refine ⟨m, ρ, h, x, h1, rs, rh, e1, fun m1 H1 x1 r1 u ru => ?_⟩
    refine ⟨m1, ρ, h1, y, h2, rs.ext x1, r1, e2, fun m2 H2 x2 r2 v rv => ?_⟩
    exact ⟨m2, h2, x, y, _, h', r2, ru.ext x2, rv, e, fun m3 H3 x3 r3 z rz => ⟨_, rz.bl_inv, q m3 H3 ((x1.trans x2).trans x3) r3⟩⟩
theorem de_chain {op op' : CmpOp} {g g' : D → D → AH → Out D} {dd : Expr} {fd : SE} {t : TE} (ho : OpR X (compareOp op) (tV2 W g)) (ho' : OpR X (compareOp op') (tV2 W g'))
    (h : PE X e t) (ht : t = tChain (tV2 W g) (tV2 W g') (tE W c fa) (tE W c fb) (tE W c fd)) : DE W c X e (eChain g g' fa fb fd) := by
  subst ht
  refine PE.imp h fun σ H Q ⟨m, ρ, h, d, h', rs, rh, e, q⟩ => ?_
  obtain ⟨x, h1, e1, e⟩ := Out.bind_ok e
  obtain ⟨y, h2, e2, e⟩ := Out.bind_ok e
  obtain ⟨z, h3, e3, e⟩ := Out.bind_ok e
  refine ⟨m, ρ, h, x, h1, rs, rh, e1, fun m1 H1 x1 r1 u ru => ?_⟩
  refine ⟨m1, ρ, h1, y, h2, rs.ext x1, r1, e2, fun m2 H2 x2 r2 v rv => ?_⟩
  refine ⟨m2, h2, x, y, z, h3, r2, ru.ext x2, rv, e3, fun m3 H3 x3 r3 zz rz => ?_⟩
  rcases onB_ok e with ⟨rfl, e⟩ | ⟨rfl, e⟩
  · refine ⟨true, rz.bl_inv, iteT ?_⟩
    obtain ⟨k, h4, e4, e⟩ := Out.bind_ok e
    refine ⟨m3, ρ, h3, k, h4, rs.ext ((x1.trans x2).trans x3), r3, e4, fun m4 H4 x4 r4 w4 rw4 => ?_⟩
    exact ⟨m4, h4, y, k, d, h', r4, rv.ext (x3.trans x4), rw4, e, q.from (((x1.trans x2).trans x3).trans x4)⟩
  · refine ⟨false, rz.bl_inv, iteF ?_⟩
    cases e
    exact q m3 H3 ((x1.trans x2).trans x3) r3 _ (.bl false)
/-- a test that is evaluated as a value -/
theorem dt_val (h : DE W c X e fe) (he : ∀ whole, isTrue e X.env whole = (do let v ← whole; standAt e.pos; holding [v] (truthy v))) : DT W c X e fe :=
  PT.imp (pt_val h he) fun σ H Q ⟨m, ρ, h, b, h', rs, rh, e, q⟩ => ⟨m, ρ, h, _, h', rs, rh, e, fun m' H' x r v rv => ⟨b, rv.bl_inv, q m' H' x r⟩⟩
theorem dt_not (ha : DT W c X a fa) : DT W c X (.UnaryOp .Not a pos) (eNot fa) :=
  PT.imp (pt_not ha) fun σ H Q ⟨m, ρ, h, b, h', rs, rh, e, q⟩ => by
    obtain ⟨x, h1, e1, e⟩ := Out.bind_ok e
    rcases onB_ok e with ⟨rfl, e⟩ | ⟨rfl, e⟩ <;> cases e <;> exact ⟨m, ρ, h, _, _, rs, rh, e1, fun m' H' x r => q m' H' x r⟩
theorem dw_and1 (ha : DT W c X a fa) : DW W c X (.BoolOp .And [a] pos) fa := pw_and1 ha
theorem dw_or1 (ha : DT W c X a fa) : DW W c X (.BoolOp .Or [a] pos) fa := pw_or1 ha
theorem dw_and (ha : DT W c X a fa) (hb : DW W c X (.BoolOp .And (b :: es) pos) fb) : DW W c X (.BoolOp .And (a :: b :: es) pos) (eAnd fa fb) :=
  PW.imp (pw_and ha hb) fun σ H Q ⟨m, ρ, h, d, h', rs, rh, e, q⟩ => by
    obtain ⟨x, h1, e1, e⟩ := Out.bind_ok e
    rcases onB_ok e with ⟨rfl, e⟩ | ⟨rfl, e⟩
    · exact ⟨m, ρ, h, _, h1, rs, rh, e1, fun m1 H1 x1 r1 => iteT ⟨m1, ρ, h1, _, h', rs.ext x1, r1, e, q.from x1⟩⟩
    · cases e
      exact ⟨m, ρ, h, _, _, rs, rh, e1, fun m1 H1 x1 r1 => iteF (q m1 H1 x1 r1)⟩
theorem dw_or (ha : DT W c X a fa) (hb : DW W c X (.BoolOp .Or (b :: es) pos) fb) : DW W c X (.BoolOp .Or (a :: b :: es) pos) (eOr fa fb) :=
  PW.imp (pw_or ha hb) fun σ H Q ⟨m, ρ, h, d, h', rs, rh, e, q⟩ => by
    obtain ⟨x, h1, e1, e⟩ := Out.bind_ok e
    rcases onB_ok e with ⟨rfl, e⟩ | ⟨rfl, e⟩
    · cases e
      exact ⟨m, ρ, h, _, _, rs, rh, e1, fun m1 H1 x1 r1 => iteT (q m1 H1 x1 r1)⟩
    · exact ⟨m, ρ, h, _, h1, rs, rh, e1, fun m1 H1 x1 r1 => iteF ⟨m1, ρ, h1, _, h', rs.ext x1, r1, e, q.from x1⟩⟩
theorem de_one {op : BoolOp} (ha : DE W c X a fa) : DE W c X (.BoolOp op [a] pos) fa := pe_one ha
theorem de_and (ha : DE W c X a fa) (hb : DE W c X (.BoolOp .And (b :: es) pos) fb) : DE W c X (.BoolOp .And (a :: b :: es) pos) (eAnd fa fb) :=
  PE.imp (pe_and ha hb) fun σ H Q ⟨m, ρ, h, d, h', rs, rh, e, q⟩ => by
    obtain ⟨x, h1, e1, e⟩ := Out.bind_ok e
    rcases onB_ok e with ⟨rfl, e⟩ | ⟨rfl, e⟩
    · exact ⟨m, ρ, h, _, h1, rs, rh, e1, fun m1 H1 x1 r1 v rv => ⟨true, rv.bl_inv, iteT ⟨m1, ρ, h1, _, h', rs.ext x1, r1, e, q.from x1⟩⟩⟩
    · cases e
      exact ⟨m, ρ, h, _, _, rs, rh, e1, fun m1 H1 x1 r1 v rv => ⟨false, rv.bl_inv, iteF (q m1 H1 x1 r1 _ (.bl false))⟩⟩
theorem de_or (ha : DE W c X a fa) (hb : DE W c X (.BoolOp .Or (b :: es) pos) fb) : DE W c X (.BoolOp .Or (a :: b :: es) pos) (eOr fa fb) :=
  PE.imp (pe_or ha hb) fun σ H Q ⟨m, ρ, h, d, h', rs, rh, e, q⟩ => by
    obtain ⟨x, h1, e1, e⟩ := Out.bind_ok e
    rcases onB_ok e with ⟨rfl, e⟩ | ⟨rfl, e⟩
    · cases e
      exact ⟨m, ρ, h, _, _, rs, rh, e1, fun m1 H1 x1 r1 v rv => ⟨true, rv.bl_inv, iteT (q m1 H1 x1 r1 _ (.bl true))⟩⟩
    · exact ⟨m, ρ, h, _, h1, rs, rh, e1, fun m1 H1 x1 r1 v rv => ⟨false, rv.bl_inv, iteF ⟨m1, ρ, h1, _, h', rs.ext x1, r1, e, q.from x1⟩⟩⟩
theorem de_not (ha : DE W c X a fa) : DE W c X (.UnaryOp .Not a pos) (eNot fa) :=
  PE.imp (pe_not ha) fun σ H Q ⟨m, ρ, h, d, h', rs, rh, e, q⟩ => by
    obtain ⟨x, h1, e1, e⟩ := Out.bind_ok e
    rcases onB_ok e with ⟨rfl, e⟩ | ⟨rfl, e⟩ <;> cases e <;> exact ⟨m, ρ, h, _, _, rs, rh, e1, fun m' H' x r v rv => ⟨_, rv.bl_inv, q m' H' x r _ (.bl _)⟩⟩
theorem de_if {t : Expr} {ft : SE} (ht : DT W c X t ft) (ha : DE W c X a fa) (hb : DE W c X b fb) : DE W c X (.IfExp t a b pos) (eIf ft fa fb) :=
  PE.imp (pe_ifExp ht ha hb) fun σ H Q ⟨m, ρ, h, d, h', rs, rh, e, q⟩ => by
    obtain ⟨x, h1, e1, e⟩ := Out.bind_ok e
    rcases onB_ok e with ⟨rfl, e⟩ | ⟨rfl, e⟩
    · exact ⟨m, ρ, h, _, h1, rs, rh, e1, fun m1 H1 x1 r1 => iteT ⟨m1, ρ, h1, _, h', rs.ext x1, r1, e, q.from x1⟩⟩
    · exact ⟨m, ρ, h, _, h1, rs, rh, e1, fun m1 H1 x1 r1 => iteF ⟨m1, ρ, h1, _, h', rs.ext x1, r1, e, q.from x1⟩⟩
theorem da_nil : DA W c X [] aNil :=
  PA.imp pa_nil fun σ H Q ⟨m, ρ, h, d, h', rs, rh, e, q⟩ => by
    cases e
    exact q.here rh [] .nil
theorem da_cons {fr : SA} (ha : DE W c X e fe) (hr : DA W c X es fr) (hs : starEach (e :: es) X.env = (false, eval e X.env) :: starEach es X.env) : DA W c X (e :: es) (aCons fe fr) :=
  PA.imp (pa_cons ha hr hs) fun σ H Q ⟨m, ρ, h, d, h', rs, rh, e, q⟩ => by
    obtain ⟨x, h1, e1, e⟩ := Out.bind_ok e
    obtain ⟨xs, h2, e2, e⟩ := Out.bind_ok e
    cases e
    refine ⟨m, ρ, h, x, h1, rs, rh, e1, fun m1 H1 x1 r1 u ru => ?_⟩
    exact ⟨m1, ρ, h1, xs, _, rs.ext x1, r1, e2, fun m2 H2 x2 r2 vs rvs => q m2 H2 (x1.trans x2) r2 _ (.cons (ru.ext x2) rvs)⟩
theorem thousand : 1000 ≤ sizeLine := by rw [sizeLine_eq]; decide
theorem de_tup {fr : SA} {k : Nat} (h : DA W c X es fr) : DE W c X (.Tuple es k pos) (eTup fr) :=
  PE.imp (pe_tup h) fun σ H Q ⟨m, ρ, h, d, h', rs, rh, e, q⟩ => by
    obtain ⟨xs, h1, e1, e⟩ := Out.bind_ok e
    split at e
    · rename_i hl
      cases e
      refine ⟨m, ρ, h, xs, _, rs, rh, e1, fun m1 H1 x1 r1 vs rvs => ⟨by rw [← rvs.length]; exact Nat.le_trans hl thousand, fun p hp => ?_⟩⟩
      exact q m1 (upd H1 p (.tup vs)) (x1.trans (Ext.new hp)) (r1.new hp) _ (.tup (SqT.of upd_same) (rvs.ext (Ext.new hp)))
    · cases e
theorem de_lst {fr : SA} (h : DA W c X es fr) : DE W c X (.List es pos) (eLst fr) :=
  PE.imp (pe_lst h) fun σ H Q ⟨m, ρ, h, d, h', rs, rh, e, q⟩ => by
    obtain ⟨xs, h1, e1, e⟩ := Out.bind_ok e
    split at e
    · rename_i hl
      cases e
      refine ⟨m, ρ, h, xs, h1, rs, rh, e1, fun m1 H1 x1 r1 vs rvs => ⟨by rw [← rvs.length]; exact Nat.le_trans hl thousand, fun p hp => ?_⟩⟩
      have x2 : Ext W.K m1 H1 (m1 ++ [p]) (upd H1 p (.lst vs)) := Ext.num hp
      exact q _ _ (x1.trans x2) (r1.num hp ⟨vs, upd_same, rvs.ext x2⟩) _ (.ob (by rw [List.getElem?_append_right (by rw [r1.len]; exact Nat.le_refl _), r1.len]; simp))
    · cases e
/-- a built-in called by its name -/
theorem de_arg {fr : SA} {r : List V → Hp → VK → Prop} {g : List D → AH → Out D} {t : TA → TE} (h : DA W c X es fr) (hp : ∀ t0, PA X es t0 → PE X e (tCB r t0)) (hg : ∀ xs H Q, tVn W g xs H Q → r xs H Q) : DE W c X e (eArg g fr) :=
  PE.imp (hp _ h) fun σ H Q ⟨m, ρ, h, d, h', rs, rh, e, q⟩ => by
    obtain ⟨xs, h1, e1, e⟩ := Out.bind_ok e
    exact ⟨m, ρ, h, xs, h1, rs, rh, e1, fun m1 H1 x1 r1 vs rvs => hg _ _ _ ⟨m1, h1, xs, d, h', r1, rvs, e, q.from x1⟩⟩
end
end Cw

end

section
/-! Operators by values over trees: arithmetic, order, equality, membership, subscripts, slices. -/
namespace Cw
open PySem PySem.Spec PyProof.Rows L2

/-! ### trees as the library's data -/
mutual
def toP : D → PyData
  | .non => .none
  | .bl b => .bool b
  | .int i => .int i
  | .str n => .str (wd n)
  | .txt x => .str x
  | .tup ds => .tuple (toPs ds)
  | .fl ds => .list (toPs ds)
  | .ob _ => .none
def toPs : List D → List PyData
  | [] => []
  | d :: ds => toP d :: toPs ds
end
mutual
/-- no numbered object in it, texts that can be laid, at most k deep -/
def okN : Nat → D → Bool
  | _, .non => true
  | _, .bl _ => true
  | _, .int _ => true
  | _, .str n => true
  | _, .txt x => PyData.strOk x
  | 0, .tup _ => false
  | k + 1, .tup ds => okNs k ds
  | _, .fl _ => false
  | _, .ob _ => false
def okNs : Nat → List D → Bool
  | _, [] => true
  | k, d :: ds => okN k d && okNs k ds
end
mutual
/-- Python's == -/
def pyEq : D → D → Bool
  | .non, .non => true
  | .bl a, .bl b => a == b
  | .bl a, .int j => decide ((if a = true then 1 else 0) = j)
  | .int i, .bl b => decide (i = (if b = true then 1 else 0))
  | .int i, .int j => decide (i = j)
  | .str n, .str k => n == k
  | .str n, .txt y => decide (wd n = y)
  | .txt x, .str k => decide (x = wd k)
  | .txt x, .txt y => decide (x = y)
  | .tup xs, .tup ys => pyEqs xs ys
  | _, _ => false
def pyEqs : List D → List D → Bool
  | [], [] => true
  | x :: xs, y :: ys => pyEq x y && pyEqs xs ys
  | _, _ => false
end
def wdsOk : Nat → Bool
  | 0 => true
  | n + 1 => PyData.strOk (wd n) && wdsOk n
theorem wds_ok : wdsOk nW = true := by decide +kernel
theorem wdsOk_at : ∀ {k n : Nat}, wdsOk k = true → n < k → PyData.strOk (wd n) = true
  | 0, _, _, h => absurd h (Nat.not_lt_zero _)
  | k + 1, n, e, h => by
    unfold wdsOk at e
    rw [Bool.and_eq_true] at e
    by_cases q : n = k
    · rw [q]; exact e.1
    · exact wdsOk_at (k := k) e.2 (by omega)

section
variable {K : PySem.W.Frag} {m : List Addr} {H : Hp}
mutual
theorem RD.dp : ∀ {k : Nat} {d : D} {v : V}, RD K m H d v → okN k d = true → Dp K H v (toP d) ∧ (toP d).canLay0 = true ∧ (toP d).depth ≤ k
  | _, _, _, .non, _ => ⟨.non, rfl, Nat.zero_le _⟩
  | _, _, _, .bl b, _ => ⟨.bl b, rfl, Nat.zero_le _⟩
  | _, _, _, .int i, _ => ⟨.int i, rfl, Nat.zero_le _⟩
  | _, _, _, .str h, _ => ⟨.str _, by rw [toP, PyData.canLay0]; exact wdsOk_at wds_ok h, Nat.zero_le _⟩
  | _, _, _, .txt x, e => ⟨.str _, by rw [toP, PyData.canLay0]; simpa [okN] using e, Nat.zero_le _⟩
  | 0, _, _, .tup h r, e => by simp [okN] at e
  | k + 1, _, _, .tup h r, e => by
    obtain ⟨a, b, c⟩ := RDs.dp (k := k) r (by simpa [okN] using e)
    exact ⟨.tup h a, by rw [toP, PyData.canLay0]; exact b, by rw [toP, PyData.depth]; omega⟩
  | k, _, _, .fl h r, e => by cases k <;> simp [okN] at e
  | k, _, _, .ob h, e => by cases k <;> simp [okN] at e
theorem RDs.dp : ∀ {k : Nat} {ds : List D} {vs : List V}, RDs K m H ds vs → okNs k ds = true → DpAll K H vs (toPs ds) ∧ PyData.canLayAll0 (toPs ds) = true ∧ PyData.depthAll (toPs ds) ≤ k
  | _, _, _, .nil, _ => ⟨.nil, by rw [toPs, PyData.canLayAll0], by rw [toPs, PyData.depthAll]; exact Nat.zero_le _⟩
  | k, _, _, .cons h t, e => by
    rw [okNs, Bool.and_eq_true] at e
    obtain ⟨a1, b1, c1⟩ := RD.dp (k := k) h e.1
    obtain ⟨a2, b2, c2⟩ := RDs.dp (k := k) t e.2
    exact ⟨.cons a1 a2, by rw [toPs, PyData.canLayAll0, b1, b2]; rfl, by rw [toPs, PyData.depthAll]; omega⟩
end
/-- words in the table -/
theorem eqv_str {n k : Nat} (hn : n < nW) (hk : k < nW) : decide (wd n = wd k) = (n == k) := by
  by_cases e : n = k
  · subst e; simp
  · have : ¬ wd n = wd k := fun q => e (wd_inj hn hk q)
    rw [decide_eq_false this]
    exact (beq_eq_false_iff_ne.mpr e).symm
end



section
variable {K : PySem.W.Frag} {m : List Addr} {H : Hp}
mutual
theorem eqv_toP : ∀ {x y : D} {v u : V}, RD K m H x v → RD K m H y u → (∀ k, okN k x = true → ∀ j, okN j y = true → PyData.eqv (toP x) (toP y) = pyEq x y)
  | .tup xs, .tup ys, _, _, h, h', k, e, j, e' => by
    cases h with
    | tup _ r => cases h' with
      | tup _ r' =>
        cases k with
        | zero => simp [okN] at e
        | succ k => cases j with
          | zero => simp [okN] at e'
          | succ j =>
            rw [toP, toP, PyData.eqv, pyEq]
            exact eqv_toPs r r' k (by simpa [okN] using e) j (by simpa [okN] using e')
  | .str n, .str k, _, _, .str hn, .str hk, _, _, _, _ => by
    rw [toP, toP, PyData.eqv, pyEq, ← eqv_str hn hk, Bool.beq_eq_decide_eq]
  | .non, y, _, _, _, h', _, _, j, e' => by cases y <;> first | rfl | (cases j <;> simp [okN] at e') | skip
  | .bl b, y, _, _, _, h', _, _, j, e' => by cases y <;> first | rfl | (cases j <;> simp [okN] at e') | skip
  | .int b, y, _, _, _, h', _, _, j, e' => by cases y <;> first | rfl | (cases j <;> simp [okN] at e') | skip
  | .txt b, y, _, _, _, h', _, _, j, e' => by cases y <;> first | rfl | (cases j <;> simp [okN] at e') | skip
  | .str b, .non, _, _, _, h', _, _, j, e' => rfl
  | .str b, .bl _, _, _, _, h', _, _, j, e' => rfl
  | .str b, .int _, _, _, _, h', _, _, j, e' => rfl
  | .str b, .txt _, _, _, _, h', _, _, j, e' => by rw [toP, toP, PyData.eqv, pyEq, Bool.beq_eq_decide_eq]
  | .str b, .tup _, _, _, _, h', _, _, j, e' => rfl
  | .tup b, .non, _, _, _, h', _, _, j, e' => rfl
  | .tup b, .bl _, _, _, _, h', _, _, j, e' => rfl
  | .tup b, .int _, _, _, _, h', _, _, j, e' => rfl
  | .tup b, .str _, _, _, _, h', _, _, j, e' => rfl
  | .tup b, .txt _, _, _, _, h', _, _, j, e' => rfl
  | _, .fl _, _, _, _, _, _, _, j, e' => by cases j <;> simp [okN] at e'
  | _, .ob _, _, _, _, _, _, _, j, e' => by cases j <;> simp [okN] at e'
  | .fl _, _, _, _, _, _, k, e, _, _ => by cases k <;> simp [okN] at e
  | .ob _, _, _, _, _, _, k, e, _, _ => by cases k <;> simp [okN] at e
theorem eqv_toPs : ∀ {x y : List D} {v u : List V}, RDs K m H x v → RDs K m H y u → (∀ k, okNs k x = true → ∀ j, okNs j y = true → PyData.eqvAll (toPs x) (toPs y) = pyEqs x y)
  | [], [], _, _, _, _, _, _, _, _ => by rw [toPs, PyData.eqvAll, pyEqs]
  | [], _ :: _, _, _, _, _, _, _, _, _ => by simp [toPs, PyData.eqvAll, pyEqs]
  | _ :: _, [], _, _, _, _, _, _, _, _ => by simp [toPs, PyData.eqvAll, pyEqs]
  | x :: xs, y :: ys, _, _, .cons h t, .cons h' t', k, e, j, e' => by
    rw [okNs, Bool.and_eq_true] at e e'
    rw [toPs, toPs, PyData.eqvAll, pyEqs, eqv_toP h h' k e.1 j e'.1, eqv_toPs t t' k e.2 j e'.2]
end
end
end Cw

end

section
/-! The operators' rules over trees. -/
namespace Cw
open PySem PySem.Spec PyProof.Rows L2

/-- the context is one of ours -/
structure Cok (W : Wk) (n : Nat) (X : Cx) : Prop where
  P : X.prog = W.P
  w : X.w = W.w
  K : X.K = W.K
  mg : X.mg = W.mg
  base : X.base = W.base
  calm : X.calm = true
  room : Room n X.A
  nd : X.N.Nodup
  pass : PassesOwn (model X.prog X.w) X.A X.env X.xe

/-- a list that may be read: the script, a numbered list -/
def getL (h : AH) : D → Option (List D)
  | .fl ds => some ds
  | .ob n => match h[n]? with
    | some (.lst ds) => some ds
    | _ => none
  | _ => none
/-- a list or a tuple -/
def getQ (h : AH) : D → Option (List D)
  | .tup ds => some ds
  | d => getL h d
section
variable {W : Wk} {m : List Addr} {H : Hp} {h : AH} {d : D} {ds : List D} {v : V}
theorem RelH.lst {n : Nat} {a : Addr} (r : W.R m H h) (e : h[n]? = some (.lst ds)) (ha : m[n]? = some a) : ∃ xs, H a = some (.lst xs) ∧ RDs W.K m H ds xs := r.ob n _ a e ha
theorem getL_ok (r : W.R m H h) (rd : RD W.K m H d v) (e : getL h d = some ds) : ∃ a xs, v = .ref a ∧ SqL W.K H a xs ∧ RDs W.K m H ds xs := by
  cases d with
  | fl es =>
    cases e
    obtain ⟨a, xs, h1, h2, h3⟩ := rd.fl_inv
    exact ⟨a, xs, h1, h2.seq, h3⟩
  | ob n =>
    obtain ⟨a, h1, h2⟩ := rd.ob_inv
    simp only [getL] at e
    split at e
    · rename_i es he
      cases e
      obtain ⟨xs, h3, h4⟩ := r.lst he h2
      exact ⟨a, xs, h1, SqL.of h3, h4⟩
    · cases e
  | _ => cases e
theorem getQ_ok (r : W.R m H h) (rd : RD W.K m H d v) (e : getQ h d = some ds) : ∃ a xs, v = .ref a ∧ (SqL W.K H a xs ∨ SqT W.K H a xs) ∧ RDs W.K m H ds xs := by
  cases d with
  | tup es =>
    cases e
    obtain ⟨a, xs, h1, h2, h3⟩ := rd.tup_inv
    exact ⟨a, xs, h1, .inr h2, h3⟩
  | _ =>
    obtain ⟨a, xs, h1, h2, h3⟩ := getL_ok r rd e
    exact ⟨a, xs, h1, .inl h2, h3⟩
end

/-! ### arithmetic -/
def cap : Nat := 100000
theorem cap_le {n : Nat} (h : n ≤ cap) : n ≤ sizeLine := Nat.le_trans h (by rw [sizeLine_eq]; decide)
theorem cap_lt {n : Nat} (h : n < cap) : n < sizeLine := Nat.lt_of_lt_of_le h (by rw [sizeLine_eq]; decide)
/-- a new list -/
def newL (h : AH) (xs : List D) : Out D := .ok (.ob h.length) (h ++ [.lst xs])
def addD : D → D → AH → Out D := fun x y h => match x, y with
  | .int i, .int j => .ok (.int (i + j)) h
  | .tup xs, .tup ys => if xs.length + ys.length ≤ cap then .ok (.tup (xs ++ ys)) h else .bad
  | .ob n, .ob k => match h[n]?, h[k]? with
    | some (.lst xs), some (.lst ys) => if xs.length + ys.length ≤ cap then newL h (xs ++ ys) else .bad
    | _, _ => .bad
  | _, _ => .bad
def subD : D → D → AH → Out D := fun x y h => match x, y with
  | .int i, .int j => .ok (.int (i - j)) h
  | _, _ => .bad
def small64 (i : Int) : Bool := decide (-(2 ^ 64) < i) && decide (i < 2 ^ 64)
def repL (k : Int) (xs : List D) : List D := (List.replicate k.toNat xs).flatten
def mulD : D → D → AH → Out D := fun x y h => match x, y with
  | .int i, .int j => if small64 i || small64 j then .ok (.int (i * j)) h else .bad
  | .ob n, .int k => match h[n]? with
    | some (.lst xs) => if 0 ≤ k ∧ k ≤ 1000 ∧ xs.length ≤ 1000 then newL h (repL k xs) else .bad
    | _ => .bad
  | .tup xs, .int k => if 2 ≤ k ∧ k ≤ 1000 ∧ xs.length ≤ 1000 ∧ xs ≠ [] then .ok (.tup (repL k xs)) h else .bad
  | _, _ => .bad
def fdivD : D → D → AH → Out D := fun x y h => match x, y with
  | .int i, .int j => if 0 < j ∧ j < 1073741824 then .ok (.int (i / j)) h else .bad
  | _, _ => .bad
def modD : D → D → AH → Out D := fun x y h => match x, y with
  | .int i, .int j => if 0 < j then .ok (.int (i % j)) h else .bad
  | _, _ => .bad
def powD : D → D → AH → Out D := fun x y h => match x, y with
  | .int i, .int j => if 0 ≤ j ∧ j ≤ 1000 ∧ i.natAbs < 2 ^ 64 then .ok (.int (i ^ j.toNat)) h else .bad
  | _, _ => .bad
def negD : D → AH → Out D := fun x h => match x with
  | .int i => .ok (.int (-i)) h
  | _ => .bad
/-- a comparison of two ints -/
def cmpD (p : Int → Int → Bool) : D → D → AH → Out D := fun x y h => match x, y with
  | .int i, .int j => .ok (.bl (p i j)) h
  | _, _ => .bad
abbrev gtD := cmpD fun i j => decide (j < i)
abbrev geD := cmpD fun i j => decide (j ≤ i)
abbrev leD := cmpD fun i j => decide (i ≤ j)

section
variable {W : Wk} {n : Nat} {X : Cx} {m : List Addr} {H : Hp} {h : AH}
/-- a new list laid and numbered: what is wished of it -/
theorem wish_newL {xs : List D} {ys : List V} {d : D} {h' : AH} {Q : VK} (r : W.R m H h) (e : newL h xs = .ok d h') (rv : RDs W.K m H xs ys) (q : Wish W m H h' fun m' H' => ∀ v, RD W.K m' H' d v → Q v H') :
    ∀ p, H p = none → Q (.ref p) (upd H p (.lst ys)) := fun p hp => by
  cases e
  have x2 : Ext W.K m H (m ++ [p]) (upd H p (.lst ys)) := Ext.num hp
  exact q _ _ x2 (r.num hp ⟨ys, upd_same, rv.ext x2⟩) _ (.ob (by rw [List.getElem?_append_right (by rw [r.len]; exact Nat.le_refl _), r.len]; simp))
/-- a new tuple -/
theorem wish_tup {xs : List D} {ys : List V} {Q : VK} (r : W.R m H h) (rv : RDs W.K m H xs ys) (q : Wish W m H h fun m' H' => ∀ v, RD W.K m' H' (.tup xs) v → Q v H') :
    ∀ p, H p = none → Q (.ref p) (upd H p (.tup ys)) := fun p hp => q m _ (Ext.new hp) (r.new hp) _ (.tup (SqT.of upd_same) (rv.ext (Ext.new hp)))
theorem RDs.nil_iff {K : PySem.W.Frag} {ds : List D} {vs : List V} (r : RDs K m H ds vs) : vs = [] ↔ ds = [] := by
  cases r with
  | nil => simp
  | cons _ _ => simp
theorem RDs.rep {K : PySem.W.Frag} {ds : List D} {vs : List V} (r : RDs K m H ds vs) : ∀ k : Nat, RDs K m H (List.replicate k ds).flatten (List.replicate k vs).flatten
  | 0 => .nil
  | k + 1 => by
    rw [List.replicate_succ, List.replicate_succ, List.flatten_cons, List.flatten_cons]
    exact r.append (RDs.rep r k)

theorem op_addD (C : Cok W n X) : OpR X (binaryOp .Add) (tV2 W addD) := by
  intro pins s σ H x y v u Q I rx ry ⟨m, h, dx, dy, d, h', r, ax, ay, e, q⟩
  unfold addD at e
  split at e
  · cases e
    have := ax.int_inv; have := ay.int_inv; subst x y
    exact op_add pins s σ H _ _ v u Q I rx ry ⟨_, _, rfl, rfl, q.here r _ (.int _)⟩
  · rename_i xs ys
    split at e
    · rename_i hl
      cases e
      obtain ⟨a, vs, rfl, ha, ra⟩ := ax.tup_inv
      obtain ⟨b, ws, rfl, hb, rb⟩ := ay.tup_inv
      refine op_catA pins s σ H _ _ v u Q I rx ry ?_
      rw [C.K]
      refine ⟨a, b, vs, ws, rfl, rfl, ha, hb, cap_le (by rw [← ra.length, ← rb.length]; exact hl), fun e0 => ?_, fun e0 e1 => ?_, fun e0 e1 => wish_tup r (ra.append rb) q⟩
      · have := ra.nil_iff.mp e0; subst this
        exact q.here r _ ay
      · have := rb.nil_iff.mp e1; subst this
        rw [List.append_nil] at q
        exact q.here r _ ax
    · cases e
  · rename_i i j
    split at e
    · rename_i xs ys h1 h2
      split at e
      · rename_i hl
        obtain ⟨a, rfl, ha⟩ := ax.ob_inv
        obtain ⟨b, rfl, hb⟩ := ay.ob_inv
        obtain ⟨vs, va, ra⟩ := r.lst h1 ha
        obtain ⟨ws, vb, rb⟩ := r.lst h2 hb
        exact op_cat pins s σ H _ _ v u Q I rx ry ⟨a, b, vs, ws, rfl, rfl, va, vb, cap_le (by rw [← ra.length, ← rb.length]; exact hl), wish_newL r e (ra.append rb) q⟩
      · cases e
    · cases e
  · cases e
theorem op_subD (C : Cok W n X) : OpR X (binaryOp .Sub) (tV2 W subD) := by
  intro pins s σ H x y v u Q I rx ry ⟨m, h, dx, dy, d, h', r, ax, ay, e, q⟩
  unfold subD at e
  split at e
  · cases e
    have := ax.int_inv; have := ay.int_inv; subst x y
    exact op_sub pins s σ H _ _ v u Q I rx ry ⟨_, _, rfl, rfl, q.here r _ (.int _)⟩
  · cases e
theorem op_mulD (C : Cok W n X) : OpR X (binaryOp .Mult) (tV2 W mulD) := by
  intro pins s σ H x y v u Q I rx ry ⟨m, h, dx, dy, d, h', r, ax, ay, e, q⟩
  unfold mulD at e
  split at e
  · split at e
    · rename_i hs
      cases e
      have := ax.int_inv; have := ay.int_inv; subst x y
      refine op_mul pins s σ H _ _ v u Q I rx ry ⟨_, _, rfl, rfl, ?_, q.here r _ (.int _)⟩
      simp only [small64, Bool.or_eq_true, Bool.and_eq_true, decide_eq_true_eq] at hs
      exact hs
    · cases e
  · split at e
    · rename_i xs h1
      split at e
      · rename_i hl
        obtain ⟨a, rfl, ha⟩ := ax.ob_inv
        have := ay.int_inv; subst y
        obtain ⟨vs, va, ra⟩ := r.lst h1 ha
        refine op_rep pins s σ H _ _ v u Q I rx ry ⟨a, _, vs, rfl, rfl, va, by omega, by omega, ?_, wish_newL r e (ra.rep _) q⟩
        rw [← ra.length]
        refine Nat.le_trans (Nat.mul_le_mul hl.2.2 (show _ ≤ 1000 by omega)) ?_
        rw [sizeLine_eq]; decide
      · cases e
    · cases e
  · split at e
    · rename_i xs k hl
      cases e
      obtain ⟨a, vs, rfl, ha, ra⟩ := ax.tup_inv
      have := ay.int_inv; subst y
      refine op_repT pins s σ H _ _ v u Q I rx ry ?_
      rw [C.K]
      exact ⟨a, _, vs, rfl, rfl, ha, fun e0 => hl.2.2.2 (ra.nil_iff.mp e0), hl.1, hl.2.1, by rw [← ra.length]; exact hl.2.2.1, wish_tup r (ra.rep _) q⟩
    · cases e
  · cases e
theorem op_fdivD (C : Cok W n X) : OpR X (binaryOp .FloorDiv) (tV2 W fdivD) := by
  intro pins s σ H x y v u Q I rx ry ⟨m, h, dx, dy, d, h', r, ax, ay, e, q⟩
  unfold fdivD at e
  split at e
  · split at e
    · rename_i hc
      cases e
      have := ax.int_inv; have := ay.int_inv; subst x y
      exact op_fdiv pins s σ H _ _ v u Q I rx ry ⟨_, _, rfl, rfl, hc, q.here r _ (.int _)⟩
    · cases e
  · cases e
theorem op_modD (C : Cok W n X) : OpR X (binaryOp .Mod) (tV2 W modD) := by
  intro pins s σ H x y v u Q I rx ry ⟨m, h, dx, dy, d, h', r, ax, ay, e, q⟩
  unfold modD at e
  split at e
  · split at e
    · rename_i hc
      cases e
      have := ax.int_inv; have := ay.int_inv; subst x y
      exact op_mod pins s σ H _ _ v u Q I rx ry ⟨_, _, rfl, rfl, hc, q.here r _ (.int _)⟩
    · cases e
  · cases e
theorem op_powD (C : Cok W n X) : OpR X (binaryOp .Pow) (tV2 W powD) := by
  intro pins s σ H x y v u Q I rx ry ⟨m, h, dx, dy, d, h', r, ax, ay, e, q⟩
  unfold powD at e
  split at e
  · split at e
    · rename_i hc
      cases e
      have := ax.int_inv; have := ay.int_inv; subst x y
      exact op_pow pins s σ H _ _ v u Q I rx ry ⟨_, _, rfl, rfl, ⟨hc.1, by omega, hc.2.2⟩, q.here r _ (.int _)⟩
    · cases e
  · cases e
theorem un_negD (C : Cok W n X) : UnR X (unaryOp .USub) (tV1 W negD) := by
  intro pins s σ H x v Q I rx ⟨m, h, dx, d, h', r, ax, e, q⟩
  unfold negD at e
  split at e
  · cases e
    have := ax.int_inv; subst x
    exact un_neg pins s σ H _ v Q I rx ⟨_, rfl, q.here r _ (.int _)⟩
  · cases e
theorem op_cmpD {op : CmpOp} {p : Int → Int → Bool} (ho : OpR X (compareOp op) (rI0 fun i j => .bl (p i j))) : OpR X (compareOp op) (tV2 W (cmpD p)) := by
  intro pins s σ H x y v u Q I rx ry ⟨m, h, dx, dy, d, h', r, ax, ay, e, q⟩
  unfold cmpD at e
  split at e
  · cases e
    have := ax.int_inv; have := ay.int_inv; subst x y
    exact ho pins s σ H _ _ v u Q I rx ry ⟨_, _, rfl, rfl, q.here r _ (.bl _)⟩
  · cases e

/-! ### equality, membership -/
/-- two things compared by == -/
def eqO (x y : D) (h : AH) : Option Bool := match x, y with
  | .ob n, .ob k => match h[n]?, h[k]? with
    | some (.lst xs), some (.lst ys) => if okNs 60 xs && okNs 60 ys then some (pyEqs xs ys) else none
    | _, _ => none
  | x, y => if okN 60 x && okN 60 y then some (pyEq x y) else none
def eqD : D → D → AH → Out D := fun x y h => match eqO x y h with
  | some b => .ok (.bl b) h
  | none => .bad
def neD : D → D → AH → Out D := fun x y h => match eqO x y h with
  | some b => .ok (.bl (!b)) h
  | none => .bad
theorem eqO_ok {x y : D} {v u : V} {b : Bool} (r : W.R m H h) (ax : RD W.K m H x v) (ay : RD W.K m H y u) (e : eqO x y h = some b) :
    ∃ d e, Dp W.K H v d ∧ Dp W.K H u e ∧ SeqAt.shaped d = true ∧ SeqAt.shaped e = true ∧ PyData.eqv d e = b := by
  unfold eqO at e
  split at e
  · split at e
    · rename_i xs ys h1 h2
      split at e
      · rename_i ho
        rw [Bool.and_eq_true] at ho
        cases e
        obtain ⟨a, rfl, ha⟩ := ax.ob_inv
        obtain ⟨c, rfl, hc⟩ := ay.ob_inv
        obtain ⟨vs, va, ra⟩ := r.lst h1 ha
        obtain ⟨ws, vb, rb⟩ := r.lst h2 hc
        obtain ⟨p1, p2, p3⟩ := ra.dp ho.1
        obtain ⟨q1, q2, q3⟩ := rb.dp ho.2
        refine ⟨.list (toPs xs), .list (toPs ys), .lst (SqL.of va) p1, .lst (SqL.of vb) q1, ?_, ?_, ?_⟩
        · unfold SeqAt.shaped
          rw [PyData.canLay0, p2, PyData.depth, Bool.true_and, decide_eq_true_eq]; omega
        · unfold SeqAt.shaped
          rw [PyData.canLay0, q2, PyData.depth, Bool.true_and, decide_eq_true_eq]; omega
        · rw [PyData.eqv]; exact eqv_toPs ra rb 60 ho.1 60 ho.2
      · cases e
    · cases e
  · split at e
    · rename_i ho
      rw [Bool.and_eq_true] at ho
      cases e
      obtain ⟨p1, p2, p3⟩ := ax.dp ho.1
      obtain ⟨q1, q2, q3⟩ := ay.dp ho.2
      refine ⟨_, _, p1, q1, ?_, ?_, eqv_toP ax ay 60 ho.1 60 ho.2⟩
      · simp only [SeqAt.shaped, p2, Bool.true_and, decide_eq_true_eq]; omega
      · simp only [SeqAt.shaped, q2, Bool.true_and, decide_eq_true_eq]; omega
    · cases e
theorem op_eqDD (C : Cok W n X) : OpR X (compareOp .Eq) (tV2 W eqD) := by
  intro pins s σ H x y v u Q I rx ry ⟨m, h, dx, dy, d, h', r, ax, ay, e, q⟩
  unfold eqD at e
  split at e
  · rename_i b hb
    cases e
    obtain ⟨p, p', h1, h2, h3, h4, h5⟩ := eqO_ok r ax ay hb
    refine op_eqD (by have := C.room.un; omega) pins s σ H _ _ v u Q I rx ry ?_
    rw [C.K]
    exact ⟨p, p', h1, h2, h3, h4, by rw [h5]; exact q.here r _ (.bl _)⟩
  · cases e
theorem op_neDD (C : Cok W n X) : OpR X (compareOp .NotEq) (tV2 W neD) := by
  intro pins s σ H x y v u Q I rx ry ⟨m, h, dx, dy, d, h', r, ax, ay, e, q⟩
  unfold neD at e
  split at e
  · rename_i b hb
    cases e
    obtain ⟨p, p', h1, h2, h3, h4, h5⟩ := eqO_ok r ax ay hb
    refine op_neD (by have := C.room.un; omega) pins s σ H _ _ v u Q I rx ry ?_
    rw [C.K]
    exact ⟨p, p', h1, h2, h3, h4, by rw [h5]; exact q.here r _ (.bl _)⟩
  · cases e
/-- x in a list, a tuple -/
def inQ (x : D) (ys : List D) : Bool := ys.any fun y => pyEq y x
end
end Cw

end

section
/-! Membership, subscripts, slices, built-in calls and methods over trees. -/
namespace Cw
open PySem PySem.Spec PyProof.Rows L2
section
variable {W : Wk} {n : Nat} {X : Cx} {m : List Addr} {H : Hp} {h : AH}

theorem any_toPs {x : D} {ys : List D} {v : V} {vs : List V} {k : Nat} (rx : RD W.K m H x v) (ry : RDs W.K m H ys vs) (ox : okN k x = true) (oy : okNs k ys = true) :
    ((toPs ys).any fun z => PyData.eqv z (toP x)) = inQ x ys := by
  induction ys generalizing vs with
  | nil => rfl
  | cons y ys ih =>
    cases ry with
    | cons r t =>
      rw [okNs, Bool.and_eq_true] at oy
      show (PyData.eqv (toP y) (toP x) || (toPs ys).any fun z => PyData.eqv z (toP x)) = (pyEq y x || inQ x ys)
      rw [ih t oy.2, eqv_toP r rx k oy.1 k ox]
def inLs (neg : Bool) : D → D → AH → Out D := fun x y h => match getQ h y with
  | some ys => if okN 60 x && okNs 60 ys then .ok (.bl (if neg then !inQ x ys else inQ x ys)) h else .bad
  | none => .bad
theorem in_ok (C : Cok W n X) (neg : Bool) : OpR X (compareOp (if neg then .NotIn else .In)) (tV2 W (inLs neg)) := by
  intro pins s σ H x y v u Q I rx ry ⟨m, h, dx, dy, d, h', r, ax, ay, e, q⟩
  unfold inLs at e
  split at e
  · rename_i ys hy
    split at e
    · rename_i ho
      rw [Bool.and_eq_true] at ho
      cases e
      obtain ⟨a, xs, rfl, hs, rq⟩ := getQ_ok r ay hy
      obtain ⟨p1, p2, p3⟩ := ax.dp ho.1
      obtain ⟨q1, q2, q3⟩ := rq.dp ho.2
      have hu := C.room.un
      rw [← C.K] at p1 q1 hs
      obtain ⟨as, r1⟩ := Dp.reads I _ _ _ p1 rx
      have hroom : X.A.units + 1 + min (PyData.depthAll (toPs ys)) (toP dx).depth < cLine := by omega
      have ha := any_toPs ax rq ho.1 ho.2
      rcases hs with hs | hs
      · obtain ⟨bs, r2⟩ := Dp.reads I _ _ _ (.lst hs q1) ry
        cases neg with
        | false => exact SeqAt.in_list_reads r2 r1 q2 p2 hroom ⟨.bl _, H, I, rfl, by rw [ha]; exact q.here r _ (.bl _)⟩
        | true => exact SeqAt.notIn_list_reads r2 r1 q2 p2 hroom ⟨.bl _, H, I, rfl, by rw [ha]; exact q.here r _ (.bl _)⟩
      · obtain ⟨bs, r2⟩ := Dp.reads I _ _ _ (.tup hs q1) ry
        cases neg with
        | false => exact SeqAt.in_tuple_reads r2 r1 q2 p2 hroom ⟨.bl _, H, I, rfl, by rw [ha]; exact q.here r _ (.bl _)⟩
        | true => exact SeqAt.notIn_tuple_reads r2 r1 q2 p2 hroom ⟨.bl _, H, I, rfl, by rw [ha]; exact q.here r _ (.bl _)⟩
    · cases e
  · cases e
/-- is None, is not None -/
def isNone : D → Bool
  | .non => true
  | _ => false
def isN (neg : Bool) : D → D → AH → Out D := fun x y h => match y with
  | .non => .ok (.bl (if neg then !isNone x else isNone x)) h
  | _ => .bad
theorem RD.isN {x : D} {v : V} (r : RD W.K m H x v) : decide (v = V.non) = isNone x := by
  cases r <;> first | rfl | exact decide_eq_false (fun z => nomatch z)
theorem is_ok (C : Cok W n X) : OpR X (compareOp .Is) (tV2 W (isN false)) := by
  intro pins s σ H x y v u Q I rx ry ⟨m, h, dx, dy, d, h', r, ax, ay, e, q⟩
  unfold isN at e
  split at e
  · cases e
    have := ay.non_inv; subst y
    exact op_isN pins s σ H _ _ v u Q I rx ry ⟨rfl, by rw [ax.isN]; exact q.here r _ (.bl _)⟩
  · cases e
theorem isnot_ok (C : Cok W n X) : OpR X (compareOp .IsNot) (tV2 W (isN true)) := by
  intro pins s σ H x y v u Q I rx ry ⟨m, h, dx, dy, d, h', r, ax, ay, e, q⟩
  unfold isN at e
  split at e
  · cases e
    have := ay.non_inv; subst y
    exact op_notN pins s σ H _ _ v u Q I rx ry ⟨rfl, by rw [ax.isN]; exact q.here r _ (.bl _)⟩
  · cases e

/-! ### subscripts -/
theorem RDs.atI {K : PySem.W.Frag} {ds : List D} {vs : List V} {i : Int} {d : D} (r : RDs K m H ds vs) (e : atI ds i = some d) : ∃ v, atI vs i = some v ∧ RD K m H d v := by
  unfold L2.atI at e ⊢
  rw [← r.length]
  cases q : ixN ds.length i with
  | none => rw [q] at e; cases e
  | some j =>
    rw [q] at e
    exact r.get e
def ixD : D → D → AH → Out D := fun x y h => match getQ h x, y with
  | some ds, .int i => match atI ds i with
    | some d => .ok d h
    | none => .bad
  | _, _ => .bad
theorem ix_ok (C : Cok W n X) : IxR X (tV2 W ixD) := by
  intro value slice pins s σ H x y v u Q I rx ry ⟨m, h, dx, dy, d, h', r, ax, ay, e, q⟩ hs
  unfold ixD at e
  split at e
  · rename_i ds i hq
    split at e
    · rename_i d0 hd
      cases e
      obtain ⟨a, xs, rfl, hl, rq⟩ := getQ_ok r ax hq
      obtain ⟨z, hz, rz⟩ := rq.atI hd
      have := ay.int_inv; subst y
      rw [← C.K] at hl
      rcases hl with hl | hl
      · exact ix_list value slice pins s σ H _ _ v u Q I rx ry ⟨a, xs, i, z, rfl, rfl, hl, hz, q.here r _ rz⟩ hs
      · exact ix_tup value slice pins s σ H _ _ v u Q I rx ry ⟨a, xs, i, z, rfl, rfl, hl, hz, q.here r _ rz⟩ hs
    · cases e
  · cases e
def setD : D → D → D → AH → Option AH := fun o i v h => match o, i with
  | .ob n, .int k => match h[n]? with
    | some (.lst ds) => match ixN ds.length k with
      | some j => some (h.set n (.lst (ds.set j v)))
      | none => none
    | _ => none
  | _, _ => none
def tVs (W : Wk) (g : D → D → D → AH → Option AH) : TSet := fun o i v H Q => ∃ m h d0 di dv h', W.R m H h ∧ RD W.K m H d0 o ∧ RD W.K m H di i ∧ RD W.K m H dv v ∧ g d0 di dv h = some h' ∧ Wish W m H h' fun _ H' => Q H'
/-- the numbered list n written -/
theorem put_lst {k : Nat} {a : Addr} {xs : List V} {ds ds' : List D} {ys : List V} {q : List Addr → Hp → Prop} (r : W.R m H h) (hk : h[k]? = some (.lst ds)) (ha : m[k]? = some a) (hx : H a = some (.lst xs)) (ry : RDs W.K m H ds' ys)
    (w : Wish W m H (h.set k (.lst ds')) q) : q m (upd H a (.lst ys)) := by
  have x1 : Ext W.K m H m (upd H a (.lst ys)) := Ext.written ha hx True.intro
  exact w _ _ x1 (r.put ha hx True.intro ⟨ys, upd_same, ry.ext x1⟩)
theorem set_ok (C : Cok W n X) : PSet X (tVs W setD) := by
  intro pins s σ H o i v ov iv u Q I ro ri rv ⟨m, h, d0, di, dv, h', r, a0, ai, av, e, q⟩
  unfold setD at e
  split at e
  · rename_i k j
    split at e
    · rename_i ds hk
      split at e
      · rename_i jj hj
        cases e
        obtain ⟨a, rfl, ha⟩ := a0.ob_inv
        have := ai.int_inv; subst i
        obtain ⟨xs, hx, rx⟩ := r.lst hk ha
        exact set_list pins s σ H _ _ _ ov iv u Q I ro ri rv ⟨a, xs, j, jj, rfl, rfl, hx, by rw [← rx.length]; exact hj, put_lst r hk ha hx (RDs.set av jj rx) q⟩
      · cases e
    · cases e
  · cases e

/-! ### slices -/
def cutD (xs : List D) (lo hi : Option Int) : List D := (xs.drop (HT.sIx xs.length 0 lo)).take (HT.sIx xs.length xs.length hi - HT.sIx xs.length 0 lo)
theorem RDs.cut {K : PySem.W.Frag} {ds : List D} {vs : List V} (r : RDs K m H ds vs) (lo hi : Option Int) : RDs K m H (cutD ds lo hi) (cutV vs lo hi) := by
  unfold cutD cutV
  rw [← r.length]
  exact (r.drop _).take _
def slD (x : D) (lo hi : Option Int) (h : AH) : Out D := match x with
  | .tup ds => .ok (.tup (cutD ds lo hi)) h
  | x => match getL h x with
    | some ds => newL h (cutD ds lo hi)
    | none => .bad
def tVl (W : Wk) (g : D → Option Int → Option Int → AH → Out D) : V → Option Int → Option Int → Hp → VK → Prop := fun x lo hi H Q => ∃ m h dx d h', W.R m H h ∧ RD W.K m H dx x ∧ g dx lo hi h = .ok d h' ∧ Wish W m H h' fun m' H' => ∀ v, RD W.K m' H' d v → Q v H'
theorem sIx_le' {n d : Nat} (hd : d ≤ n) (o : Option Int) : HT.sIx n d o ≤ n := HT.sIx_le n d hd o
theorem cut_whole {ds : List D} {lo hi : Option Int} (e : HT.sIx ds.length 0 lo = 0 ∧ HT.sIx ds.length ds.length hi = ds.length) : cutD ds lo hi = ds := by
  unfold cutD
  rw [e.1, e.2]
  simp
theorem sl_ok (C : Cok W n X) : SlR X (tVl W slD) := by
  intro pins s σ H x v vl vu lo hi sl Q I rx hs pl pu ⟨m, h, dx, d, h', r, ax, e, q⟩
  unfold slD at e
  split at e
  · rename_i ds
    cases e
    obtain ⟨a, xs, rfl, hx, rr⟩ := ax.tup_inv
    refine sl_tupA pins s σ H _ v vl vu lo hi sl Q I rx hs pl pu ?_
    rw [C.K]
    refine ⟨a, xs, rfl, hx, fun e0 => ?_, fun _ => wish_tup r (rr.cut lo hi) q⟩
    rw [cut_whole (by rw [rr.length]; exact e0)] at q
    exact q.here r _ ax
  · split at e
    · rename_i ds hd
      obtain ⟨a, xs, rfl, hx, rr⟩ := getL_ok r ax hd
      refine sl_list pins s σ H _ v vl vu lo hi sl Q I rx hs pl pu ?_
      rw [C.K]
      exact ⟨a, xs, rfl, hx, wish_newL r e (rr.cut lo hi) q⟩
    · cases e

/-! ### calls of built-ins -/
theorem RDs.one_inv {K : PySem.W.Frag} {d : D} {vs : List V} (r : RDs K m H [d] vs) : ∃ v, vs = [v] ∧ RD K m H d v := by
  cases r with
  | cons h t => cases t; exact ⟨_, rfl, h⟩
theorem RDs.two_inv {K : PySem.W.Frag} {d e : D} {vs : List V} (r : RDs K m H [d, e] vs) : ∃ v w, vs = [v, w] ∧ RD K m H d v ∧ RD K m H e w := by
  cases r with
  | cons h t => obtain ⟨w, rfl, q⟩ := t.one_inv; exact ⟨_, _, rfl, h, q⟩
theorem RDs.nil_inv {K : PySem.W.Frag} {vs : List V} (r : RDs K m H [] vs) : vs = [] := by cases r; rfl
def bLen : List D → AH → Out D := fun ds h => match ds with
  | [x] => match getQ h x with
    | some xs => .ok (.int xs.length) h
    | none => .bad
  | _ => .bad
theorem len_ok (C : Cok W n X) : CallR X (.builtin "len") (tVn W bLen) := by
  intro pins s σ H xs us Q I rx ⟨m, h, ds, d, h', r, ax, e, q⟩
  unfold bLen at e
  split at e
  · rename_i x
    split at e
    · rename_i ys hy
      cases e
      obtain ⟨v, rfl, rv⟩ := ax.one_inv
      obtain ⟨a, zs, rfl, hz, rr⟩ := getQ_ok r rv hy
      refine call_len_seq pins s σ H _ us Q I rx ?_
      rw [C.K]
      exact ⟨a, zs, rfl, hz, by rw [← rr.length]; exact q.here r _ (.int _)⟩
    · cases e
  · cases e
def bList : List D → AH → Out D := fun ds h => match ds with
  | [x] => match getQ h x with
    | some xs => newL h xs
    | none => .bad
  | _ => .bad
theorem list_ok (C : Cok W n X) : CallR X (.type "list") (tVn W bList) := by
  intro pins s σ H xs us Q I rx ⟨m, h, ds, d, h', r, ax, e, q⟩
  unfold bList at e
  split at e
  · split at e
    · rename_i ys hy
      obtain ⟨v, rfl, rv⟩ := ax.one_inv
      obtain ⟨a, zs, rfl, hz, rr⟩ := getQ_ok r rv hy
      refine call_list_of pins s σ H _ us Q I rx ?_
      rw [C.K]
      exact ⟨a, zs, rfl, hz, wish_newL r e rr q⟩
    · cases e
  · cases e
def bTuple : List D → AH → Out D := fun ds h => match ds with
  | [x] => match getQ h x with
    | some xs => .ok (.tup xs) h
    | none => .bad
  | _ => .bad
theorem tuple_ok (C : Cok W n X) : CallR X (.type "tuple") (tVn W bTuple) := by
  intro pins s σ H xs us Q I rx ⟨m, h, ds, d, h', r, ax, e, q⟩
  unfold bTuple at e
  split at e
  · split at e
    · rename_i ys hy
      cases e
      obtain ⟨v, rfl, rv⟩ := ax.one_inv
      obtain ⟨a, zs, rfl, hz, rr⟩ := getQ_ok r rv hy
      refine call_tuple_of pins s σ H _ us Q I rx ?_
      rw [C.K]
      refine ⟨a, zs, rfl, ?_⟩
      rcases hz with hz | hz
      · exact .inl ⟨hz, wish_tup r rr q⟩
      · exact .inr ⟨hz, q.here r _ (.tup hz rr)⟩
    · cases e
  · cases e
def bInt : List D → AH → Out D := fun ds h => match ds with
  | [.int i] => .ok (.int i) h
  | [.bl b] => .ok (.int (if b then 1 else 0)) h
  | _ => .bad
theorem int_ok (C : Cok W n X) : CallR X (.type "int") (tVn W bInt) := by
  intro pins s σ H xs us Q I rx ⟨m, h, ds, d, h', r, ax, e, q⟩
  unfold bInt at e
  split at e
  · cases e
    obtain ⟨v, rfl, rv⟩ := ax.one_inv
    have := rv.int_inv; subst v
    exact call_int1 pins s σ H _ us Q I rx (.inl ⟨_, rfl, q.here r _ (.int _)⟩)
  · cases e
    obtain ⟨v, rfl, rv⟩ := ax.one_inv
    have := rv.bl_inv; subst v
    exact call_int1 pins s σ H _ us Q I rx (.inr ⟨_, rfl, q.here r _ (.int _)⟩)
  · cases e
def bAbs : List D → AH → Out D := fun ds h => match ds with
  | [.int i] => .ok (.int (if i < 0 then -i else i)) h
  | _ => .bad
theorem abs_ok (C : Cok W n X) : CallR X (.builtin "abs") (tVn W bAbs) := by
  intro pins s σ H xs us Q I rx ⟨m, h, ds, d, h', r, ax, e, q⟩
  unfold bAbs at e
  split at e
  · cases e
    obtain ⟨v, rfl, rv⟩ := ax.one_inv
    have := rv.int_inv; subst v
    exact call_abs pins s σ H _ us Q I rx ⟨_, rfl, q.here r _ (.int _)⟩
  · cases e
/-- all are ints -/
def intsOf : List D → Option (List Int)
  | [] => some []
  | .int i :: ds => match intsOf ds with
    | some l => some (i :: l)
    | none => none
  | _ :: _ => none
theorem intsOf_eq : ∀ {ds : List D} {l : List Int}, intsOf ds = some l → ds = l.map D.int
  | [], l, e => by cases e; rfl
  | .int i :: ds, l, e => by
    unfold intsOf at e
    split at e
    · rename_i l' hl
      cases e
      rw [intsOf_eq hl]
      rfl
    · cases e
  | .non :: _, _, e => by cases e
  | .bl _ :: _, _, e => by cases e
  | .str _ :: _, _, e => by cases e
  | .txt _ :: _, _, e => by cases e
  | .tup _ :: _, _, e => by cases e
  | .fl _ :: _, _, e => by cases e
  | .ob _ :: _, _, e => by cases e
@[simp] theorem intsOf_map : ∀ (l : List Int), intsOf (l.map D.int) = some l
  | [] => rfl
  | i :: l => by
    show (match intsOf (l.map D.int) with | some l => some (i :: l) | none => none) = some (i :: l)
    rw [intsOf_map l]
def boolsOf : List D → Option (List Bool)
  | [] => some []
  | .bl i :: ds => match boolsOf ds with
    | some l => some (i :: l)
    | none => none
  | _ :: _ => none
theorem boolsOf_eq : ∀ {ds : List D} {l : List Bool}, boolsOf ds = some l → ds = l.map D.bl
  | [], l, e => by cases e; rfl
  | .bl i :: ds, l, e => by
    unfold boolsOf at e
    split at e
    · rename_i l' hl
      cases e
      rw [boolsOf_eq hl]
      rfl
    · cases e
  | .non :: _, _, e => by cases e
  | .int _ :: _, _, e => by cases e
  | .str _ :: _, _, e => by cases e
  | .txt _ :: _, _, e => by cases e
  | .tup _ :: _, _, e => by cases e
  | .fl _ :: _, _, e => by cases e
  | .ob _ :: _, _, e => by cases e
@[simp] theorem boolsOf_map : ∀ (l : List Bool), boolsOf (l.map D.bl) = some l
  | [] => rfl
  | i :: l => by
    show (match boolsOf (l.map D.bl) with | some l => some (i :: l) | none => none) = some (i :: l)
    rw [boolsOf_map l]
theorem RDs.ofBools {K : PySem.W.Frag} : ∀ {ns : List Bool} {vs : List V}, RDs K m H (ns.map D.bl) vs → vs = ns.map V.bl
  | [], _, .nil => rfl
  | _ :: _, _, .cons h t => by
    cases h
    rw [RDs.ofBools t]
    rfl
/-- any(xs), all(xs), sum(xs) of a list -/
def bAny : List D → AH → Out D := fun ds h => match ds with
  | [x] => match getL h x with
    | some xs => match boolsOf xs with
      | some l => .ok (.bl (l.any id)) h
      | none => .bad
    | none => .bad
  | _ => .bad
def bAll : List D → AH → Out D := fun ds h => match ds with
  | [x] => match getL h x with
    | some xs => match boolsOf xs with
      | some l => .ok (.bl (l.all id)) h
      | none => .bad
    | none => .bad
  | _ => .bad
def bSum : List D → AH → Out D := fun ds h => match ds with
  | [x] => match getL h x with
    | some xs => match intsOf xs with
      | some l => .ok (.int l.sum) h
      | none => .bad
    | none => .bad
  | _ => .bad
theorem any_ok (C : Cok W n X) : CallR X (.builtin "any") (tVn W bAny) := by
  intro pins s σ H xs us Q I rx ⟨m, h, ds, d, h', r, ax, e, q⟩
  unfold bAny at e
  split at e
  · split at e
    · rename_i ys hy
      split at e
      · rename_i l hl
        cases e
        obtain ⟨v, rfl, rv⟩ := ax.one_inv
        obtain ⟨a, zs, rfl, hz, rr⟩ := getL_ok r rv hy
        rw [boolsOf_eq hl] at rr
        rw [rr.ofBools] at hz
        refine cr_any C.calm pins s σ H _ us Q I rx ?_
        rw [C.K]
        exact ⟨a, l, rfl, hz, q.here r _ (.bl _)⟩
      · cases e
    · cases e
  · cases e
theorem all_ok (C : Cok W n X) : CallR X (.builtin "all") (tVn W bAll) := by
  intro pins s σ H xs us Q I rx ⟨m, h, ds, d, h', r, ax, e, q⟩
  unfold bAll at e
  split at e
  · split at e
    · rename_i ys hy
      split at e
      · rename_i l hl
        cases e
        obtain ⟨v, rfl, rv⟩ := ax.one_inv
        obtain ⟨a, zs, rfl, hz, rr⟩ := getL_ok r rv hy
        rw [boolsOf_eq hl] at rr
        rw [rr.ofBools] at hz
        refine cr_all C.calm pins s σ H _ us Q I rx ?_
        rw [C.K]
        exact ⟨a, l, rfl, hz, q.here r _ (.bl _)⟩
      · cases e
    · cases e
  · cases e
theorem sum_ok (C : Cok W n X) : CallR X (.builtin "sum") (tVn W bSum) := by
  intro pins s σ H xs us Q I rx ⟨m, h, ds, d, h', r, ax, e, q⟩
  unfold bSum at e
  split at e
  · split at e
    · rename_i ys hy
      split at e
      · rename_i l hl
        cases e
        obtain ⟨v, rfl, rv⟩ := ax.one_inv
        obtain ⟨a, zs, rfl, hz, rr⟩ := getL_ok r rv hy
        rw [intsOf_eq hl] at rr
        rw [rr.ofInts] at hz
        refine cr_sum C.calm pins s σ H _ us Q I rx ?_
        rw [C.K]
        exact ⟨a, l, rfl, hz, q.here r _ (.int _)⟩
      · cases e
    · cases e
  · cases e
/-- the least, the greatest of ints -/
def minL : Int → List Int → Int
  | a, [] => a
  | a, b :: l => minL (if b < a then b else a) l
def maxL : Int → List Int → Int
  | a, [] => a
  | a, b :: l => maxL (if a < b then b else a) l
theorem minL_spec : ∀ (l : List Int) (a : Int), minL a l ∈ a :: l ∧ ∀ y ∈ a :: l, minL a l ≤ y
  | [], a => ⟨by simp [minL], fun y hy => by simp at hy; subst hy; exact Int.le_refl _⟩
  | b :: l, a => by
    obtain ⟨h1, h2⟩ := minL_spec l (if b < a then b else a)
    refine ⟨?_, fun y hy => ?_⟩
    · show minL (if b < a then b else a) l ∈ _
      rcases List.mem_cons.mp h1 with e | e
      · rw [e]; split <;> simp
      · simp [e]
    · show minL (if b < a then b else a) l ≤ y
      have h3 := h2 _ List.mem_cons_self
      have h4 : (if b < a then b else a) ≤ a ∧ (if b < a then b else a) ≤ b := by split <;> omega
      rcases List.mem_cons.mp hy with e | hy
      · rw [e]; exact Int.le_trans h3 h4.1
      · rcases List.mem_cons.mp hy with e | hy
        · rw [e]; exact Int.le_trans h3 h4.2
        · exact h2 y (List.mem_cons_of_mem _ hy)
theorem maxL_spec : ∀ (l : List Int) (a : Int), maxL a l ∈ a :: l ∧ ∀ y ∈ a :: l, y ≤ maxL a l
  | [], a => ⟨by simp [maxL], fun y hy => by simp at hy; subst hy; exact Int.le_refl _⟩
  | b :: l, a => by
    obtain ⟨h1, h2⟩ := maxL_spec l (if a < b then b else a)
    refine ⟨?_, fun y hy => ?_⟩
    · show maxL (if a < b then b else a) l ∈ _
      rcases List.mem_cons.mp h1 with e | e
      · rw [e]; split <;> simp
      · simp [e]
    · show y ≤ maxL (if a < b then b else a) l
      have h3 := h2 _ List.mem_cons_self
      have h4 : a ≤ (if a < b then b else a) ∧ b ≤ (if a < b then b else a) := by split <;> omega
      rcases List.mem_cons.mp hy with e | hy
      · rw [e]; exact Int.le_trans h4.1 h3
      · rcases List.mem_cons.mp hy with e | hy
        · rw [e]; exact Int.le_trans h4.2 h3
        · exact h2 y (List.mem_cons_of_mem _ hy)
def bMin : List D → AH → Out D := fun ds h => match ds with
  | [.int i, .int j] => .ok (.int (if j < i then j else i)) h
  | [x] => match getL h x with
    | some xs => match intsOf xs with
      | some (a :: l) => .ok (.int (minL a l)) h
      | _ => .bad
    | none => .bad
  | _ => .bad
def bMax : List D → AH → Out D := fun ds h => match ds with
  | [.int i, .int j] => .ok (.int (if i < j then j else i)) h
  | [x] => match getL h x with
    | some xs => match intsOf xs with
      | some (a :: l) => .ok (.int (maxL a l)) h
      | _ => .bad
    | none => .bad
  | _ => .bad
theorem min_ok (C : Cok W n X) : CallR X (.builtin "min") (tVn W bMin) := by
  intro pins s σ H xs us Q I rx ⟨m, h, ds, d, h', r, ax, e, q⟩
  unfold bMin at e
  split at e
  · cases e
    obtain ⟨v, w, rfl, rv, rw'⟩ := ax.two_inv
    have := rv.int_inv; have := rw'.int_inv; subst v w
    exact call_min2 C.calm pins s σ H _ us Q I rx ⟨_, _, rfl, q.here r _ (.int _)⟩
  · split at e
    · rename_i ys hy
      split at e
      · rename_i a l hl
        cases e
        obtain ⟨v, rfl, rv⟩ := ax.one_inv
        obtain ⟨p, zs, rfl, hz, rr⟩ := getL_ok r rv hy
        rw [intsOf_eq hl] at rr
        rw [rr.ofInts] at hz
        refine cr_min C.calm pins s σ H _ us Q I rx ?_
        rw [C.K]
        refine ⟨p, a :: l, rfl, hz, Nat.succ_pos _, fun k h1 h2 => ?_⟩
        obtain ⟨g1, g2⟩ := minL_spec l a
        have : k = minL a l := Int.le_antisymm (h2 _ g1) (g2 _ h1)
        rw [this]
        exact q.here r _ (.int _)
      · cases e
    · cases e
  · cases e
theorem max_ok (C : Cok W n X) : CallR X (.builtin "max") (tVn W bMax) := by
  intro pins s σ H xs us Q I rx ⟨m, h, ds, d, h', r, ax, e, q⟩
  unfold bMax at e
  split at e
  · cases e
    obtain ⟨v, w, rfl, rv, rw'⟩ := ax.two_inv
    have := rv.int_inv; have := rw'.int_inv; subst v w
    exact call_max2 C.calm pins s σ H _ us Q I rx ⟨_, _, rfl, q.here r _ (.int _)⟩
  · split at e
    · rename_i ys hy
      split at e
      · rename_i a l hl
        cases e
        obtain ⟨v, rfl, rv⟩ := ax.one_inv
        obtain ⟨p, zs, rfl, hz, rr⟩ := getL_ok r rv hy
        rw [intsOf_eq hl] at rr
        rw [rr.ofInts] at hz
        refine cr_max C.calm pins s σ H _ us Q I rx ?_
        rw [C.K]
        refine ⟨p, a :: l, rfl, hz, Nat.succ_pos _, fun k h1 h2 => ?_⟩
        obtain ⟨g1, g2⟩ := maxL_spec l a
        have : k = maxL a l := Int.le_antisymm (g2 _ h1) (h2 _ g1)
        rw [this]
        exact q.here r _ (.int _)
      · cases e
    · cases e
  · cases e

/-! ### methods of lists -/
def mAppend : D → List D → AH → Out D := fun o ds h => match o, ds with
  | .ob k, [x] => match h[k]? with
    | some (.lst xs) => if xs.length < cap then .ok .non (h.set k (.lst (xs ++ [x]))) else .bad
    | _ => .bad
  | _, _ => .bad
theorem append_ok (C : Cok W n X) : MtR X "list.append" (tVm W mAppend) := by
  intro pins s σ H x xs v us Q I rx rs ⟨m, h, dx, ds, d, h', r, ax, as, e, q⟩
  unfold mAppend at e
  split at e
  · rename_i k y
    split at e
    · rename_i zs hk
      split at e
      · rename_i hc
        cases e
        obtain ⟨a, rfl, ha⟩ := ax.ob_inv
        obtain ⟨w, rfl, rw'⟩ := as.one_inv
        obtain ⟨vs, hx, rv⟩ := r.lst hk ha
        exact mt_append pins s σ H _ _ v us Q I rx rs ⟨a, vs, w, rfl, rfl, hx, cap_lt (by rw [← rv.length]; exact hc), put_lst r hk ha hx (rv.append (.cons rw' .nil)) q _ .non⟩
      · cases e
    · cases e
  · cases e
def mExtend : D → List D → AH → Out D := fun o ds h => match o, ds with
  | .ob k, [x] => match h[k]? with
    | some (.lst xs) => match x with
      | .tup ys => if xs.length + ys.length ≤ cap then .ok .non (h.set k (.lst (xs ++ ys))) else .bad
      | .ob j => match h[j]? with
        | some (.lst ys) => if xs.length + ys.length ≤ cap then .ok .non (h.set k (.lst (xs ++ ys))) else .bad
        | _ => .bad
      | _ => .bad
    | _ => .bad
  | _, _ => .bad

/-- extend by a tuple, whatever else its object bears -/
theorem extend_tup0 (l : Addr) (items : Array Value) (k : Nat) (b : Addr) (items2 : Array Value) (k2 : Nat) (dd : Option Addr) (sl : Array (Option Value))
    (hs0 : ¬(!items.isEmpty && Builtin.List.listTooLong (items.size + items2.size)) = true) (hs1 : items.size ≤ sizeLine) (hs2 : items.size + items2.size ≤ sizeLine + 1) :
    Meets (Builtin.«list.extend» ⟨[.ref l, .ref b], []⟩) (fun _ R s => s.heap.get? l = some { cls := .type "list", dict := none, data := .seq items k, slots := #[] } ∧
      s.heap.get? b = some { cls := .type "tuple", dict := dd, data := .seq items2 k2, slots := sl } ∧ R (.ok (.ret Value.none)) { s with heap := s.heap.update l (Obj.mapSeq fun x => x ++ items2), toks := s.toks }) :=
  .of_wp fun prog w A R s h => by
    obtain ⟨hp, g, d, tk, os⟩ := s
    obtain ⟨hl, hb, h⟩ := h
    have f1 := AutoSeq1.idx_int
    have f2 := AutoSeq1.sub_tuple_tuple
    have f3 := AutoSeq1.sub_list_list
    have f4 := AutoSeq1.sub_tuple_list
    have f5 := AutoSeq1.sub_list_tuple
    have hz' : (items ++ items2).size ≤ sizeLine + 1 := by
      rw [Array.size_append]
      exact hs2
    wp_walk using (wpAny_updateSeq hl rfl (hz := hs1) (_hz' := hz')), wpAny_loadPart' hl, wpAny_loadPart' hb
    exact ⟨_, rfl, h⟩
theorem ext_tup {pins : List (Addr × Obj)} {s : Shared} {σ : L2.St} {v : Value} {us : List Value} {Q : VK} {l b : Addr} {xs zs : List V} (I : Inv X pins σ H s) (rx : RelV (V.ref l) v) (rv : Vals [V.ref b] us) (hH : H l = some (.lst xs)) (hB : SqT X.K H b zs)
    (hz : xs.length + zs.length ≤ sizeLine) (q : Q .non (upd H l (.lst (xs ++ zs)))) : wpAny (model X.prog X.w) X.A (call (.builtin "list.extend") (v :: us)) (EP X pins σ Q) X.xe s := by
  cases rx
  obtain ⟨u, rfl, ru⟩ := rv.one
  cases ru
  obtain ⟨z, its, n, r, hl, e⟩ := I.lstM hH
  obtain ⟨its2, r2, ⟨⟨cls, dd, data, sl⟩, ho2, hc2, n2, hd2⟩, hs2⟩ := I.tuple hB
  simp only at hc2 hd2
  subst hc2 hd2
  have hl2 := r2.length
  have hsz : its.toArray.size + its2.toArray.size ≤ sizeLine := by rw [List.size_toArray, List.size_toArray]; omega
  have hlong : ¬ (!its.toArray.isEmpty && Builtin.List.listTooLong (its.toArray.size + its2.toArray.size)) = true := by
    rw [notLongL hsz, Bool.and_false]
    exact Bool.false_ne_true
  refine call_meets F.slot_list_extend ⟨_, e, rfl⟩ F.entry_list_extend (F.args_list_extend_2 _ _)
    (extend_tup0 l its.toArray n b its2.toArray n2 dd sl hlong (by rw [List.size_toArray]; omega) (by omega)) ⟨e, ho2, ?_⟩
  refine ⟨.non, _, I.lset (its' := its ++ its2) hH e (by simp) (r.append r2) ?_, rfl, q⟩
  rw [List.length_append]
  omega
theorem extend_ok (C : Cok W n X) : MtR X "list.extend" (tVm W mExtend) := by
  intro pins s σ H x xs v us Q I rx rs ⟨m, h, dx, ds, d, h', r, ax, as, e, q⟩
  unfold mExtend at e
  split at e
  · rename_i k y
    split at e
    · rename_i zs hk
      obtain ⟨a, rfl, ha⟩ := ax.ob_inv
      obtain ⟨vs, hx, rv⟩ := r.lst hk ha
      split at e
      · rename_i ys
        split at e
        · rename_i hc
          cases e
          obtain ⟨w, rfl, rw'⟩ := as.one_inv
          obtain ⟨b, ws, rfl, hb, rb⟩ := rw'.tup_inv
          exact ext_tup I rx rs hx (by rw [C.K]; exact hb) (cap_le (by rw [← rv.length, ← rb.length]; exact hc)) (put_lst r hk ha hx (rv.append rb) q _ .non)
        · cases e
      · rename_i j
        split at e
        · rename_i ys hj
          split at e
          · rename_i hc
            cases e
            obtain ⟨w, rfl, rw'⟩ := as.one_inv
            obtain ⟨b, rfl, hb⟩ := rw'.ob_inv
            obtain ⟨ws, hw, rb⟩ := r.lst hj hb
            exact mt_extend pins s σ H _ _ v us Q I rx rs ⟨a, b, vs, ws, rfl, rfl, hx, hw, cap_le (by rw [← rv.length, ← rb.length]; exact hc), put_lst r hk ha hx (rv.append rb) q _ .non⟩
          · cases e
        · cases e
      · cases e
    · cases e
  · cases e
def mPop : D → List D → AH → Out D := fun o ds h => match o, ds with
  | .ob k, [] => match h[k]? with
    | some (.lst xs) => match xs[xs.length - 1]? with
      | some x => .ok x (h.set k (.lst xs.dropLast))
      | none => .bad
    | _ => .bad
  | _, _ => .bad
theorem RDs.dropLast {K : PySem.W.Frag} {ds : List D} {vs : List V} (r : RDs K m H ds vs) : RDs K m H ds.dropLast vs.dropLast := by
  rw [List.dropLast_eq_take, List.dropLast_eq_take, r.length]
  exact r.take _
theorem pop_ok (C : Cok W n X) : MtR X "list.pop" (tVm W mPop) := by
  intro pins s σ H x xs v us Q I rx rs ⟨m, h, dx, ds, d, h', r, ax, as, e, q⟩
  unfold mPop at e
  split at e
  · rename_i k
    split at e
    · rename_i zs hk
      split at e
      · rename_i z hz
        cases e
        obtain ⟨a, rfl, ha⟩ := ax.ob_inv
        have := as.nil_inv; subst xs
        obtain ⟨vs, hx, rv⟩ := r.lst hk ha
        obtain ⟨w, hw, rw'⟩ := rv.get hz
        have x1 : Ext W.K m H m (upd H a (.lst vs.dropLast)) := Ext.written ha hx True.intro
        exact mt_pop pins s σ H _ _ v us Q I rx rs ⟨a, vs, w, rfl, rfl, hx, by rw [← rv.length]; exact hw, put_lst r hk ha hx rv.dropLast q _ (rw'.ext x1)⟩
      · cases e
    · cases e
  · cases e
def mInsert : D → List D → AH → Out D := fun o ds h => match o, ds with
  | .ob k, [.int i, x] => match h[k]? with
    | some (.lst xs) => if 0 ≤ i ∧ i < 2 ^ 62 ∧ xs.length < cap then .ok .non (h.set k (.lst (xs.take i.toNat ++ [x] ++ xs.drop i.toNat))) else .bad
    | _ => .bad
  | _, _ => .bad
theorem insert_ok (C : Cok W n X) : MtR X "list.insert" (tVm W mInsert) := by
  intro pins s σ H x xs v us Q I rx rs ⟨m, h, dx, ds, d, h', r, ax, as, e, q⟩
  unfold mInsert at e
  split at e
  · rename_i k i y
    split at e
    · rename_i zs hk
      split at e
      · rename_i hc
        cases e
        obtain ⟨a, rfl, ha⟩ := ax.ob_inv
        obtain ⟨w0, w, rfl, r0, rw'⟩ := as.two_inv
        have := r0.int_inv; subst w0
        obtain ⟨vs, hx, rv⟩ := r.lst hk ha
        exact mt_insert pins s σ H _ _ v us Q I rx rs ⟨a, vs, i, w, rfl, rfl, hx, cap_lt (by rw [← rv.length]; exact hc.2.2), hc.1, by omega, put_lst r hk ha hx (((rv.take _).append (.cons rw' .nil)).append (rv.drop _)) q _ .non⟩
      · cases e
    · cases e
  · cases e
end
end Cw

end

section
/-! Statements, targets, loops, comprehensions over trees. -/
namespace Cw
open PySem PySem.Spec PyProof.Rows L2

mutual
/-- the very same tree -/
def beqD : D → D → Bool
  | .non, .non => true
  | .bl a, .bl b => a == b
  | .int i, .int j => decide (i = j)
  | .str n, .str k => n == k
  | .txt x, .txt y => decide (x = y)
  | .tup xs, .tup ys => beqDs xs ys
  | .fl xs, .fl ys => beqDs xs ys
  | .ob n, .ob k => n == k
  | _, _ => false
def beqDs : List D → List D → Bool
  | [], [] => true
  | x :: xs, y :: ys => beqD x y && beqDs xs ys
  | _, _ => false
end
mutual
theorem beqD_eq : ∀ {x y : D}, beqD x y = true → x = y
  | .non, y, e => by cases y <;> first | rfl | cases e
  | .bl a, y, e => by cases y <;> first | (simp [beqD] at e; subst e; rfl) | cases e
  | .int a, y, e => by cases y <;> first | (simp [beqD] at e; subst e; rfl) | cases e
  | .str a, y, e => by cases y <;> first | (simp [beqD] at e; subst e; rfl) | cases e
  | .txt a, y, e => by cases y <;> first | (simp [beqD] at e; subst e; rfl) | cases e
  | .ob a, y, e => by cases y <;> first | (simp [beqD] at e; subst e; rfl) | cases e
  | .tup a, .tup b, e => by rw [beqD] at e; rw [beqDs_eq e]
  | .fl a, .fl b, e => by rw [beqD] at e; rw [beqDs_eq e]
  | .tup a, .non, e => by cases e
  | .tup a, .bl _, e => by cases e
  | .tup a, .int _, e => by cases e
  | .tup a, .str _, e => by cases e
  | .tup a, .txt _, e => by cases e
  | .tup a, .fl _, e => by cases e
  | .tup a, .ob _, e => by cases e
  | .fl a, .non, e => by cases e
  | .fl a, .bl _, e => by cases e
  | .fl a, .int _, e => by cases e
  | .fl a, .str _, e => by cases e
  | .fl a, .txt _, e => by cases e
  | .fl a, .tup _, e => by cases e
  | .fl a, .ob _, e => by cases e
theorem beqDs_eq : ∀ {x y : List D}, beqDs x y = true → x = y
  | [], [], _ => rfl
  | x :: xs, y :: ys, e => by
    rw [beqDs, Bool.and_eq_true] at e
    rw [beqD_eq e.1, beqDs_eq e.2]
  | [], _ :: _, e => by cases e
  | _ :: _, [], e => by cases e
end
mutual
@[simp] theorem beqD_refl : ∀ (x : D), beqD x x = true
  | .non => rfl
  | .bl _ => by simp [beqD]
  | .int _ => by simp [beqD]
  | .str _ => by simp [beqD]
  | .txt _ => by simp [beqD]
  | .ob _ => by simp [beqD]
  | .tup xs => by rw [beqD]; exact beqDs_refl xs
  | .fl xs => by rw [beqD]; exact beqDs_refl xs
@[simp] theorem beqDs_refl : ∀ (x : List D), beqDs x x = true
  | [] => rfl
  | x :: xs => by rw [beqDs, beqD_refl x, beqDs_refl xs]; rfl
end

/-- the numbered lists that are walked, as they must stand -/
abbrev Src := List (Nat × List D)
def chk (src : Src) (h : AH) : Bool := src.all fun p => match h[p.1]? with
  | some (.lst ds) => beqDs ds p.2
  | _ => false
theorem chk_at {src : Src} {h : AH} (e : chk src h = true) {p : Nat × List D} (hp : p ∈ src) : h[p.1]? = some (.lst p.2) := by
  have := List.all_eq_true.mp e p hp
  split at this
  · rename_i ds hd
    rw [hd, beqDs_eq this]
  · cases this
abbrev SI := CallF → Env → AH → Out (List D × Src)

/-! ### targets: names, tuples of names -/
inductive Tg where
  | one (i : Nat) | many (is : List Nat)
def Tg.ix : Tg → List Nat
  | .one i => [i]
  | .many is => is
def setMany : List Nat → List D → Env → Env
  | i :: is, d :: ds, ρ => setMany is ds (ρ.set i (some d))
  | _, _, ρ => ρ
def setT : Tg → D → Env → Option Env
  | .one i, d, ρ => some (ρ.set i (some d))
  | .many is, .tup ds, ρ => if ds.length = is.length then some (setMany is ds ρ) else none
  | _, _, _ => none
def gNames : List Nat → TGs
  | [] => gNil
  | i :: is => gCons (gName i) (gNames is)
def gT (K : PySem.W.Frag) : Tg → TG
  | .one i => gName i
  | .many is => gTup K is.length (gNames is)
theorem wipe_set {i : Nat} {x : Option V} : ∀ {vs : List Nat} {σ : L2.St}, i ∈ vs → wipe (σ.set i x) vs = wipe σ vs
  | [], _, h => by cases h
  | v :: vs, σ, h => by
    unfold wipe
    by_cases e : i ∈ vs
    · rw [wipe_set e]
    · have ev : v = i := by
        rcases List.mem_cons.mp h with q | q
        · exact q.symm
        · exact absurd q e
      subst ev
      have comm : ∀ (us : List Nat) (τ : L2.St), v ∉ us → wipe (τ.set v x) us = (wipe τ us).set v x := by
        intro us
        induction us with
        | nil => intro τ _; rfl
        | cons u us ih =>
          intro τ hu
          unfold wipe
          rw [ih τ (fun z => hu (List.mem_cons_of_mem _ z)), List.set_comm _ _ (fun z => hu (by rw [z]; exact List.mem_cons_self))]
      rw [comm vs σ e, List.set_set]
section
variable {W : Wk} {n : Nat} {X : Cx} {m : List Addr} {H : Hp} {h : AH}
theorem gNames_ok : ∀ {is : List Nat} {ds : List D} {vs : List V} {ρ : Env} {σ : L2.St} {Q : L2.St → Hp → Prop}, RelS W.K m H ρ σ → RDs W.K m H ds vs → ds.length = is.length →
    (∀ σ', RelS W.K m H (setMany is ds ρ) σ' → (∀ us, (∀ i ∈ is, i ∈ us) → wipe σ' us = wipe σ us) → Q σ' H) → gNames is vs σ H Q
  | [], [], _, _, σ, _, rs, .nil, _, k => ⟨rfl, k σ rs fun _ _ => rfl⟩
  | i :: is, d :: ds, _, ρ, σ, Q, rs, .cons h t, e, k => by
    refine ⟨_, _, rfl, ?_⟩
    show gNames is _ (σ.set i (some _)) H Q
    refine gNames_ok (rs.set i h) t (by simpa using e) fun σ' r' w => k σ' r' fun us hu => ?_
    rw [w us fun j hj => hu j (List.mem_cons_of_mem _ hj)]
    exact wipe_set (hu i List.mem_cons_self)
  | [], _ :: _, _, _, _, _, _, _, e, _ => by cases e
  | _ :: _, [], _, _, _, _, _, _, e, _ => by cases e
theorem gT_ok {tg : Tg} {d : D} {v : V} {ρ ρ' : Env} {σ : L2.St} {Q : L2.St → Hp → Prop} (rs : RelS W.K m H ρ σ) (rv : RD W.K m H d v) (e : setT tg d ρ = some ρ')
    (k : ∀ σ', RelS W.K m H ρ' σ' → (∀ us, (∀ i ∈ tg.ix, i ∈ us) → wipe σ' us = wipe σ us) → Q σ' H) : gT W.K tg v σ H Q := by
  cases tg with
  | one i =>
    cases e
    exact k _ (rs.set i rv) fun us hu => wipe_set (hu i (by simp [Tg.ix]))
  | many is =>
    cases d with
    | tup ds =>
      simp only [setT] at e
      split at e
      · rename_i hl
        cases e
        obtain ⟨a, xs, rfl, ha, ra⟩ := rv.tup_inv
        exact ⟨a, xs, rfl, ha, by rw [← ra.length]; exact hl, gNames_ok rs ra hl k⟩
      · cases e
    | _ => cases e

/-! ### what is walked -/
structure WalkD (W : Wk) (m : List Addr) (H0 : Hp) (J : It) (its : List D) (src : Src) : Prop where
  goes : ∀ i m' H h, Ext W.K m H0 m' H → W.R m' H h → chk src h = true → i < its.length → J.go i H
  stops : ∀ m' H h, Ext W.K m H0 m' H → W.R m' H h → chk src h = true → J.stop its.length H
  yields : ∀ i m' H h x H', Ext W.K m H0 m' H → W.R m' H h → chk src h = true → i < its.length → J.yld i H x H' → Ext W.K m' H m' H' ∧ W.R m' H' h ∧ ∃ d, its[i]? = some d ∧ RD W.K m' H' d x
theorem WalkD.ext {m1 : List Addr} {H1 : Hp} {J : It} {its : List D} {src : Src} (w : WalkD W m H J its src) (e : Ext W.K m H m1 H1) : WalkD W m1 H1 J its src :=
  ⟨fun i m' H h x => w.goes i m' H h (e.trans x), fun m' H h x => w.stops m' H h (e.trans x), fun i m' H h y H' x => w.yields i m' H h y H' (e.trans x)⟩
def tI (W : Wk) (c : CallF) (f : SI) : TI := fun σ H R => ∃ m ρ h p h', RelS W.K m H ρ σ ∧ W.R m H h ∧ f c ρ h = .ok p h' ∧ chk p.2 h' = true ∧ Wish W m H h' fun m' H' => ∀ J, WalkD W m' H' J p.1 p.2 → R J H'
abbrev DI (W : Wk) (c : CallF) (X : Cx) (tg iter : Expr) (f : SI) : Prop := PI X tg iter (tI W c f)
theorem PI.imp {tg iter : Expr} {t u : TI} (h : PI X tg iter t) (k : ∀ σ H Q, u σ H Q → t σ H Q) : PI X tg iter u := ⟨fun pins s σ H R I q => h.run pins s σ H R I (k σ H R q)⟩

/-- a list, a tuple walked -/
def iSeq (f : SE) : SI := fun c ρ h => (f c ρ h).bind fun x h1 => match x with
  | .ob k => match h1[k]? with
    | some (.lst ds) => .ok (ds, [(k, ds)]) h1
    | _ => .bad
  | .fl ds => .ok (ds, []) h1
  | _ => .bad
def iTupS (f : SE) : SI := fun c ρ h => (f c ρ h).bind fun x h1 => match x with
  | .tup ds => .ok (ds, []) h1
  | _ => .bad
theorem chk_one {k : Nat} {ds : List D} {h : AH} (e : h[k]? = some (.lst ds)) : chk [(k, ds)] h = true := by
  simp [chk, e]
/-- the source, read at any later state -/
theorem src_at {k : Nat} {ds : List D} {a : Addr} {m' : List Addr} {H0 H' : Hp} (x : Ext W.K m H0 m' H') (r : W.R m' H' h) (ha : m[k]? = some a) (e : chk [(k, ds)] h = true) : ∃ xs, H' a = some (.lst xs) ∧ RDs W.K m' H' ds xs :=
  r.lst (chk_at e List.mem_cons_self) (x.pre _ _ ha)
theorem di_list {c : CallF} {tg e : Expr} {f : SE} (C : Cok W n X) (he : DE W c X e f) : DI W c X tg e (iSeq f) :=
  PI.imp (pi_list he) fun σ H R ⟨m, ρ, h, p, h', rs, rh, e, ch, q⟩ => by
    obtain ⟨x, h1, e1, e⟩ := Out.bind_ok e
    split at e
    · rename_i k
      split at e
      · rename_i ds hk
        cases e
        refine ⟨m, ρ, h, _, _, rs, rh, e1, fun m1 H1 x1 r1 v rv => ?_⟩
        obtain ⟨a, rfl, ha⟩ := rv.ob_inv
        obtain ⟨xs, hx, rx⟩ := r1.lst hk ha
        refine ⟨a, rfl, ⟨xs, by rw [C.K]; exact SqL.of hx⟩, q m1 H1 x1 r1 _ ⟨fun i m' H' h' x' r' c' hi => ?_, fun m' H' h' x' r' c' => ?_, fun i m' H' h' y H2 x' r' c' hi hy => ?_⟩⟩
        · obtain ⟨ys, hy, ry⟩ := src_at x' r' ha c'
          obtain ⟨w, hw, _⟩ := ry.get (List.getElem?_eq_getElem hi)
          exact ⟨ys, w, SqL.of hy, hw⟩
        · obtain ⟨ys, hy, ry⟩ := src_at x' r' ha c'
          exact ⟨ys, SqL.of hy, by rw [ry.length]; exact Nat.le_refl _⟩
        · obtain ⟨ys, hy', ry⟩ := src_at x' r' ha c'
          obtain ⟨e2, e3⟩ := hy
          subst e2
          obtain ⟨w, hw, rw'⟩ := ry.get (List.getElem?_eq_getElem hi)
          have := e3 ys (SqL.of hy')
          rw [hw] at this; cases this
          exact ⟨Ext.refl, r', _, List.getElem?_eq_getElem hi, rw'⟩
      · cases e
    · rename_i ds
      cases e
      refine ⟨m, ρ, h, _, _, rs, rh, e1, fun m1 H1 x1 r1 v rv => ?_⟩
      obtain ⟨a, xs, rfl, hx, rx⟩ := rv.fl_inv
      refine ⟨a, rfl, ⟨xs, by rw [C.K]; exact hx.seq⟩, q m1 H1 x1 r1 _ ⟨fun i m' H' h' x' r' c' hi => ?_, fun m' H' h' x' r' c' => ?_, fun i m' H' h' y H2 x' r' c' hi hy => ?_⟩⟩
      · obtain ⟨w, hw, _⟩ := rx.get (List.getElem?_eq_getElem hi)
        exact ⟨xs, w, by rw [C.K]; exact (x'.fl _ _ hx).seq, hw⟩
      · exact ⟨xs, by rw [C.K]; exact (x'.fl _ _ hx).seq, by rw [rx.length]; exact Nat.le_refl _⟩
      · obtain ⟨e2, e3⟩ := hy
        subst e2
        obtain ⟨w, hw, rw'⟩ := rx.get (List.getElem?_eq_getElem hi)
        have := e3 xs (by rw [C.K]; exact (x'.fl _ _ hx).seq)
        rw [hw] at this; cases this
        exact ⟨Ext.refl, r', _, List.getElem?_eq_getElem hi, rw'.ext x'⟩
    · cases e
theorem di_tup {c : CallF} {tg e : Expr} {f : SE} (C : Cok W n X) (he : DE W c X e f) : DI W c X tg e (iTupS f) :=
  PI.imp (pi_tup he) fun σ H R ⟨m, ρ, h, p, h', rs, rh, e, ch, q⟩ => by
    obtain ⟨x, h1, e1, e⟩ := Out.bind_ok e
    split at e
    · rename_i ds
      cases e
      refine ⟨m, ρ, h, _, _, rs, rh, e1, fun m1 H1 x1 r1 v rv => ?_⟩
      obtain ⟨a, xs, rfl, hx, rx⟩ := rv.tup_inv
      refine ⟨a, rfl, ⟨xs, by rw [C.K]; exact hx⟩, q m1 H1 x1 r1 _ ⟨fun i m' H' h' x' r' c' hi => ?_, fun m' H' h' x' r' c' => ?_, fun i m' H' h' y H2 x' r' c' hi hy => ?_⟩⟩
      · obtain ⟨w, hw, _⟩ := rx.get (List.getElem?_eq_getElem hi)
        exact ⟨xs, w, by rw [C.K]; exact x'.tup _ _ hx, hw⟩
      · exact ⟨xs, by rw [C.K]; exact x'.tup _ _ hx, by rw [rx.length]; exact Nat.le_refl _⟩
      · obtain ⟨e2, e3⟩ := hy
        subst e2
        obtain ⟨w, hw, rw'⟩ := rx.get (List.getElem?_eq_getElem hi)
        have := e3 xs (by rw [C.K]; exact x'.tup _ _ hx)
        rw [hw] at this; cases this
        exact ⟨Ext.refl, r', _, List.getElem?_eq_getElem hi, rw'.ext x'⟩
    · cases e
/-- range(..) -/
def rngD (lo : Int) (n : Nat) (st : Int) : List D := (List.range n).map fun (i : Nat) => D.int (lo + i * st)
def iRng1 (r : SA) : SI := fun c ρ h => (r c ρ h).bind fun xs h1 => match xs with
  | [.int j] => if -100000 ≤ j ∧ j ≤ 100000 then .ok (rngD 0 j.toNat 1, []) h1 else .bad
  | _ => .bad
def iRng2 (r : SA) : SI := fun c ρ h => (r c ρ h).bind fun xs h1 => match xs with
  | [.int i, .int j] => if -100000 ≤ i ∧ i ≤ 100000 ∧ -100000 ≤ j ∧ j ≤ 100000 then .ok (rngD i (j - i).toNat 1, []) h1 else .bad
  | _ => .bad
/-- range(i, j, k): upward, or downward by one -/
def iRng3 (r : SA) : SI := fun c ρ h => (r c ρ h).bind fun xs h1 => match xs with
  | [.int i, .int j, .int k] => if k = -1 ∧ -100000 ≤ i ∧ i ≤ 100000 ∧ -100000 ≤ j ∧ j ≤ 100000 then .ok (rngD i (i - j).toNat (-1), []) h1
    else if 0 < k ∧ k ≤ 100000 ∧ -100000 ≤ i ∧ i ≤ 100000 ∧ -100000 ≤ j ∧ j ≤ 100000 then .ok (rngD i (if i < j then (j - i - 1) / k + 1 else 0).toNat k, []) h1 else .bad
  | _ => .bad
theorem rngD_get {lo st : Int} {k i : Nat} (h : i < k) : (rngD lo k st)[i]? = some (.int (lo + i * st)) := by
  unfold rngD
  rw [List.getElem?_map, List.getElem?_range h]
  rfl
theorem rngD_len {lo st : Int} {k : Nat} : (rngD lo k st).length = k := by simp [rngD]
theorem walkD_r {lo : Int} {k : Nat} : WalkD W m H (Itr lo k) (rngD lo k 1) [] := by
  refine ⟨fun i m' H h _ _ _ hi => ?_, fun m' H h _ _ _ => ?_, fun i m' H h x H' _ r _ hi y => ?_⟩
  · rw [rngD_len] at hi; exact hi
  · rw [rngD_len]; exact Nat.le_refl _
  · rw [rngD_len] at hi
    obtain ⟨e1, e2⟩ := y
    subst e1 e2
    exact ⟨Ext.refl, r, _, rngD_get hi, by rw [Int.mul_one]; exact .int _⟩
theorem walkD_c {lo st : Int} {k : Nat} : WalkD W m H (Itc lo st k) (rngD lo k st) [] := by
  refine ⟨fun i m' H h _ _ _ hi => ?_, fun m' H h _ _ _ => ?_, fun i m' H h x H' _ r _ hi y => ?_⟩
  · rw [rngD_len] at hi; exact hi
  · rw [rngD_len]; exact Nat.le_refl _
  · rw [rngD_len] at hi
    obtain ⟨e1, e2⟩ := y
    subst e1 e2
    exact ⟨Ext.refl, r, _, rngD_get hi, .int _⟩
end
end Cw

end

section
/-! enumerate over a tuple; reversed, zip over trees. -/
namespace Cw
open PySem PySem.Spec PyProof.Rows L2 RT

/-- enumerate.__new__ of one thing that can be walked -/
theorem enum_new1 {v : Value} {o : Obj} {G : Heap → Prop} (B : Begins v o G) :
    Meets (Builtin.«enumerate.__new__» ⟨[.type "enumerate", v], []⟩) (fun _ R s => G s.heap ∧ R (.ok (.ret (.ref (s.heap.push o).objs.size)))
        { s with heap := (s.heap.push o).push { cls := .type "enumerate", data := .fields #[.none, .bool false, .ref s.heap.objs.size, rawInt 0, .none, .none] } }) :=
  .of_wp fun prog w A R s h => by
    obtain ⟨hp, g, d, tk, os⟩ := s
    obtain ⟨h1, h⟩ := h
    have hsub := sub_enumerate
    have q1 : ∀ {A' : Around} {E : Value → Shared → Prop} {Q : Value → Shared → Prop}, Q (.ref hp.objs.size) ⟨hp.push o, g, d, tk, os⟩ → wpAny (model prog w) A' (pyIter v) Q E ⟨hp, g, d, tk, os⟩ :=
      fun q => B.iter prog w _ _ ⟨hp, g, d, tk, os⟩ _ h1 q
    wp_walk using q1
    refine wpAny_stack_any fun st => wpAny_pure ?_
    split
    · rename_i c _ _ _ _ _
      cases (c == Value.type "enumerate") <;> (wp_walk using q1; exact ⟨_, rfl, h⟩)
    · wp_walk using q1
      exact ⟨_, rfl, h⟩
section
variable {prog : Program} {w : World} {A : Around} {E : Value → Shared → Prop} {s : Shared}
theorem call_enum_tup {t : Addr} {items : Array Value} {Q : Value → Shared → Prop} (ht : s.heap.IsTuple t items)
    (h : ∀ h', IsEnum h' (s.heap.objs.size + 1) s.heap.objs.size 0 .none → h'.IsTupleIter s.heap.objs.size t 0 → (∀ b o, s.heap.get? b = some o → h'.get? b = some o) → Q (.ref (s.heap.objs.size + 1)) { s with heap := h' }) :
    wpAny (model prog w) A (call (.type "enumerate") [.ref t]) Q E s := by
  refine callType_new F.called_enumerate (by decide) (F.typeCall_enumerate_1 _) (F.newCall_enumerate_1 _) (fun obj => F.args_object_init_2 obj _) F.entry_enumerate_new
    (enum_new1 (begins_tuple t items)) ⟨ht, ?_⟩
  generalize ho : ({ cls := .type "tuple_iterator", data := .fields #[.ref t, .int 0 0] } : Obj) = o
  have hz : (s.heap.push o).objs.size = s.heap.objs.size + 1 := Heap.size_push ..
  show _ ∧ _
  rw [hz]
  have he : IsEnum ((s.heap.push o).push { cls := .type "enumerate", data := .fields #[.none, .bool false, .ref s.heap.objs.size, rawInt 0, .none, .none] }) (s.heap.objs.size + 1) s.heap.objs.size 0 .none := by
    have := Heap.get?_push_size (s.heap.push o) (o := { cls := .type "enumerate", data := .fields #[.none, .bool false, .ref s.heap.objs.size, rawInt 0, .none, .none] }) rfl
    rw [hz] at this
    exact this
  refine ⟨⟨_, he, rfl⟩, h _ he ?_ fun b o x => Heap.get?_push_of_some _ (Heap.get?_push_of_some _ x)⟩
  subst ho
  exact ⟨_, Heap.get?_push_of_some _ (Heap.get?_push_size _ rfl), rfl, rfl⟩
end

/-- the tuple at a, each item in a new pair -/
def IteT (K : PySem.W.Frag) (a : Addr) : It :=
  ⟨fun i H => ∃ (xs : List V) (x : V), SqT K H a xs ∧ xs[i]? = some x, fun i H v H' => ∃ T x, v = .ref T ∧ H T = none ∧ H' = upd H T (.tup [.int (i : Nat), x]) ∧ ∀ xs, SqT K H a xs → xs[i]? = some x, fun i H => ∃ xs : List V, SqT K H a xs ∧ xs.length = i⟩
theorem turn_enumT {P : Program} {w : World} {K : PySem.W.Frag} {elts : List Expr} {kk : Nat} {tpos : Pos} (a e it : Addr) :
    Turn P w K (.Tuple elts kk tpos) (IteT K a) [e, it] e (fun i h => (∃ old, IsEnum h e it ((i : Nat) : Int) old) ∧ h.IsTupleIter it a i ∧ e ≠ it ∧ a ≠ e ∧ a ≠ it) where
  mem := by simp
  obj := fun i h st b hb => by
    obtain ⟨⟨old, he⟩, ⟨o, ho, hc, hd⟩, _⟩ := st
    have e' : b = e ∨ b = it := by simpa using hb
    rcases e' with z | z
    · rw [z]; exact ⟨_, he, fun v q => nomatch q⟩
    · rw [z]; exact ⟨o, ho, fun v q => by rw [hd] at q; cases q⟩
  keep := fun i h h' st k => let ⟨⟨old, he⟩, hi, hne⟩ := st; ⟨⟨old, k e (by simp) _ he⟩, hi.at fun o q => k it (by simp) o q, hne⟩
  item := by
    intro X hP hw hK hc i pins s σ H E I hf st hg
    subst hP hw hK
    obtain ⟨⟨old, he⟩, hit, hne, n1, n2⟩ := st
    obtain ⟨xs, x, hq, hx⟩ := hg
    obtain ⟨its, rv, p, hz⟩ := I.tuple hq
    obtain ⟨u, hu, ru⟩ := rv.get hx
    have hel : e < s.heap.objs.size := Heap.lt_size he
    have hil : it < s.heap.objs.size := by obtain ⟨_, q, _⟩ := hit; exact Heap.lt_size q
    have hlt : i < its.toArray.size := by
      rw [List.size_toArray]
      exact (List.getElem?_eq_some_iff.mp hu).1
    refine wpAny_pyNext_enum_itemD (Draws.tuple (A := X.A.in1) (I.ok.hd hc) it a n2 its.toArray) he ⟨hit, p⟩ hlt hne (by simp [hne, Ne.symm n1]) fun y h' tk hP ho hst hT hsz hk => ?_
    have hy : y = u := by
      have h1 : its.toArray[i]? = some y := hP
      rw [List.getElem?_toArray, hu] at h1
      exact (Option.some.inj h1).symm
    subst hy
    refine ⟨_, rfl, wpAny_letOwnedTupleGo_enum (s := { s with heap := h', toks := tk + 1 }) ho fun h'' he' sb => ?_⟩
    have hT2 : h''.get? s.heap.objs.size = some { cls := .type "tuple", data := .seq #[.int i tk, y] } := (sb.2 _ (Nat.ne_of_gt hel)).trans hT
    have new : ObjOk X.prog X.w (upd H s.heap.objs.size (.tup [.int (i : Nat), x])) h'' s.heap.objs.size (.tup [.int (i : Nat), x]) :=
      ⟨by show 2 ≤ sizeLine; decide, [.int i tk, y], .cons ⟨_, rfl⟩ (.cons ru .nil), ⟨_, hT2, rfl, _, rfl⟩⟩
    have I1 : Inv X pins σ (upd H s.heap.objs.size (.tup [.int (i : Nat), x])) { s with heap := h'', toks := tk + 1 } :=
      I.turnedNew (ch := [e, it]) (fun b ob hb q => (sb.2 b (fun z => hb (by simp [z]))).trans (hk b ob (fun z => hb (by simp [z])) (fun z => hb (by simp [z])) q)) hf (Nat.le_refl _) new
    refine ⟨.ref s.heap.objs.size, _, I1, rfl, ⟨_, x, rfl, I.hok.fresh (Nat.le_refl _), rfl, fun ys hy => by rw [I.tuple_inj hy hq]; exact hx⟩, ⟨⟨y, ?_⟩, hst.1.at fun o q => (sb.2 it (Ne.symm hne)).trans q, hne, n1, n2⟩, fun b hb => ?_⟩
    · have e1 : ((i + 1 : Nat) : Int) = (i : Int) + 1 := by omega
      rw [e1]; exact he'
    · have hb' : b < s.heap.objs.size := by
        have e' : b = e ∨ b = it := by simpa using hb
        rcases e' with z | z
        · rw [z]; exact hel
        · rw [z]; exact hil
      rw [upd_ne (Nat.ne_of_lt hb')]
      exact (hf b hb).1
  done := by
    intro X hP hw hK hc i pins s σ H E I hf st hg
    subst hP hw hK
    obtain ⟨⟨old, he⟩, hit, hne, n1, n2⟩ := st
    obtain ⟨xs, hq, hx⟩ := hg
    obtain ⟨its, rv, p, hz⟩ := I.tuple hq
    obtain ⟨f0, f1, f2, f3, f4, f5⟩ := hf it (by simp)
    have hl := rv.length
    have hn : i = its.toArray.size := by
      rw [List.size_toArray]
      omega
    exact wpAny_pyNext_enum_endD (Draws.tuple (A := X.A.in1) (I.ok.hd hc) it a n2 its.toArray) he ⟨by rw [← hn]; exact hit, p⟩ fun h' eb => ⟨rfl, I.turned (t' := s.toks) (fun b o hb q => eb b o hb q) f0 f1 f3 f4 f5⟩
  self := fun A i s Q E st h => let ⟨⟨_, he⟩, _⟩ := st; wpAny_pyIter_enum he h

def iEnumT (K : PySem.W.Frag) (ta : TA) : TI := fun σ H R => ta σ H fun vs H1 => ∃ a xs, vs = [.ref a] ∧ SqT K H1 a xs ∧ R (IteT K a) H1
section
variable {X : Cx}
theorem pi_enumT {e : Expr} {ta : TA} {p pos tpos : Pos} {elts : List Expr} {kk : Nat} (hg : Gl X "enumerate") (hm : X.mg "enumerate" = none) (ha : PA X [e] ta) (hs : starEach [e] X.env = [(false, eval e X.env)]) :
    PI X (.Tuple elts kk tpos) (.Call (.Name "enumerate" p) [e] [] pos) (iEnumT X.K ta) := by
  refine ⟨fun pins s σ H R I h => ?_⟩
  refine Call_ (ld_blt I hg hm boot_enumerate (PyProof.Rows.callWith_type1 (thn (ha.run pos pins s σ H _ I h) fun us s1 ⟨vs, H1, I1, r1, q1⟩ => ?_) hs rfl))
  obtain ⟨a, xs, ex, hq, q⟩ := q1
  subst ex
  cases r1 with
  | cons r rr =>
    cases rr
    cases r
    obtain ⟨its, rv, p', hz⟩ := I1.tuple hq
    have hlt : a < s1.heap.objs.size := p'.lt
    refine call_enum_tup (show s1.heap.IsTuple a its.toArray from p') fun h' he hit hk => wpAny_pyIter_enum he ?_
    have I2 : Inv X pins σ H1 { s1 with heap := h' } := I1.kept (t' := s1.toks) hk
    refine ⟨s1.heap.objs.size + 1, [s1.heap.objs.size + 1, s1.heap.objs.size], _, _, H1, rfl, I2, turn_enumT a (s1.heap.objs.size + 1) s1.heap.objs.size, ⟨⟨.none, he⟩, hit, Nat.succ_ne_self _, Nat.ne_of_lt (Nat.lt_succ_of_lt hlt), Nat.ne_of_lt hlt⟩, fun b hb => ?_, q⟩
    have e' : b = s1.heap.objs.size + 1 ∨ b = s1.heap.objs.size := by simpa using hb
    have hle : s1.heap.objs.size ≤ b := by
      rcases e' with z | z
      · rw [z]; exact Nat.le_succ _
      · rw [z]; exact Nat.le_refl _
    exact I1.fpOk hle (I1.hok.fresh hle)
/-- enumerate of a list or of a tuple -/
def iEnumA (K : PySem.W.Frag) (ta : TA) : TI := fun σ H R => ta σ H fun vs H1 => ∃ a xs, vs = [.ref a] ∧ ((SqL K H1 a xs ∧ R (Ite K a) H1) ∨ (SqT K H1 a xs ∧ R (IteT K a) H1))
end
def enumD (ds : List D) : List D := ds.zipIdx.map fun p => .tup [.int (p.2 : Nat), p.1]
theorem enumD_get {ds : List D} {i : Nat} {d : D} (e : ds[i]? = some d) : (enumD ds)[i]? = some (.tup [.int (i : Nat), d]) := by
  unfold enumD
  rw [List.getElem?_map, List.getElem?_zipIdx, e]
  simp
theorem enumD_len {ds : List D} : (enumD ds).length = ds.length := by simp [enumD]
section
variable {W : Wk} {n : Nat} {X : Cx} {m : List Addr} {H : Hp} {h : AH}
/-- a new pair -/
theorem pair_new {T : Addr} {x y : V} {a b : D} (r : W.R m H h) (hT : H T = none) (ra : RD W.K m H a x) (rb : RD W.K m H b y) :
    Ext W.K m H m (upd H T (.tup [x, y])) ∧ W.R m (upd H T (.tup [x, y])) h ∧ RD W.K m (upd H T (.tup [x, y])) (.tup [a, b]) (.ref T) :=
  ⟨Ext.new hT, r.new hT, .tup (SqT.of upd_same) (.cons (ra.ext (Ext.new hT)) (.cons (rb.ext (Ext.new hT)) .nil))⟩
def iEnum (f : SE) : SI := fun c ρ h => (f c ρ h).bind fun x h1 => match x with
  | .ob k => match h1[k]? with
    | some (.lst ds) => .ok (enumD ds, [(k, ds)]) h1
    | _ => .bad
  | .tup ds => .ok (enumD ds, []) h1
  | _ => .bad
end

/-! ### sources whose kind is seen as they come -/
def iAny (K : PySem.W.Frag) (tl : TE) : TI := fun σ H R => tl σ H fun x H1 => ∃ a, x = .ref a ∧ (((∃ xs, SqL K H1 a xs) ∧ R (Itl K a) H1) ∨ ((∃ xs, SqT K H1 a xs) ∧ R (Itt K a) H1))
section
variable {X : Cx} {tg : Expr}
theorem pi_any {l : Expr} {tl : TE} (hl : PE X l tl) : PI X tg l (iAny X.K tl) := by
  refine ⟨fun pins s σ H R I h => ?_⟩
  refine thn (hl.run pins s σ H _ I h) fun v s1 ⟨x, H1, I1, r1, a, e, q⟩ => ?_
  subst e
  cases r1
  have two : ∀ b ∈ [s1.heap.objs.size], FpOk X pins H1 b := fun b hb => by
    have e : b = s1.heap.objs.size := by simpa using hb
    rw [e]
    exact I1.fpOk (Nat.le_refl _) (I1.hok.fresh (Nat.le_refl _))
  rcases q with ⟨⟨xs, hq⟩, q⟩ | ⟨⟨xs, hq⟩, q⟩
  · obtain ⟨its, rv, p, hz⟩ := I1.list hq
    refine wpAny_pyIter_list p.isList ?_
    exact ⟨_, [s1.heap.objs.size], _, _, H1, rfl, I1.kept (t' := s1.toks) fun b o e => Heap.get?_push_of_some _ e, turn_list a _, ⟨_, Heap.get?_push_size _ rfl, rfl, rfl⟩, two, q⟩
  · obtain ⟨its, rv, p, hz⟩ := I1.tuple hq
    refine wpAny_pyIter_tuple (show s1.heap.IsTuple a its.toArray from p) ?_
    exact ⟨_, [s1.heap.objs.size], _, _, H1, rfl, I1.kept (t' := s1.toks) fun b o e => Heap.get?_push_of_some _ e, turn_tuple a _, ⟨_, Heap.get?_push_size _ rfl, rfl, rfl⟩, two, q⟩
theorem pi_enumA {e : Expr} {ta : TA} {p pos tpos : Pos} {elts : List Expr} {kk : Nat} (hg : Gl X "enumerate") (hm : X.mg "enumerate" = none) (ha : PA X [e] ta) (hs : starEach [e] X.env = [(false, eval e X.env)]) :
    PI X (.Tuple elts kk tpos) (.Call (.Name "enumerate" p) [e] [] pos) (iEnumA X.K ta) := by
  refine ⟨fun pins s σ H R I h => ?_⟩
  refine Call_ (ld_blt I hg hm boot_enumerate (PyProof.Rows.callWith_type1 (thn (ha.run pos pins s σ H _ I h) fun us s1 ⟨vs, H1, I1, r1, a, xs, ex, q⟩ => ?_) hs rfl))
  subst ex
  cases r1 with
  | cons r rr =>
    cases rr
    cases r
    have two : ∀ b ∈ [s1.heap.objs.size + 1, s1.heap.objs.size], FpOk X pins H1 b := fun b hb => by
      have e' : b = s1.heap.objs.size + 1 ∨ b = s1.heap.objs.size := by simpa using hb
      have hle : s1.heap.objs.size ≤ b := by
        rcases e' with z | z
        · rw [z]; exact Nat.le_succ _
        · rw [z]; exact Nat.le_refl _
      exact I1.fpOk hle (I1.hok.fresh hle)
    rcases q with ⟨hq, q⟩ | ⟨hq, q⟩
    · obtain ⟨its, rv, p', hz⟩ := I1.list hq
      refine call_enumerate_list p'.isList fun h' he hit hsz hk => wpAny_pyIter_enum he ?_
      exact ⟨_, [s1.heap.objs.size + 1, s1.heap.objs.size], _, _, H1, rfl, I1.kept (t' := s1.toks) hk, turn_enum a (s1.heap.objs.size + 1) s1.heap.objs.size, ⟨⟨.none, he⟩, hit, Nat.succ_ne_self _⟩, two, q⟩
    · obtain ⟨its, rv, p', hz⟩ := I1.tuple hq
      have hlt : a < s1.heap.objs.size := p'.lt
      refine call_enum_tup (show s1.heap.IsTuple a its.toArray from p') fun h' he hit hk => wpAny_pyIter_enum he ?_
      exact ⟨_, [s1.heap.objs.size + 1, s1.heap.objs.size], _, _, H1, rfl, I1.kept (t' := s1.toks) hk, turn_enumT a (s1.heap.objs.size + 1) s1.heap.objs.size, ⟨⟨.none, he⟩, hit, Nat.succ_ne_self _, Nat.ne_of_lt (Nat.lt_succ_of_lt hlt), Nat.ne_of_lt hlt⟩, two, q⟩
end
section
variable {W : Wk} {n : Nat} {X : Cx} {m : List Addr} {H : Hp} {h : AH} {K : PySem.W.Frag}
/-- a list, a tuple, read later -/
theorem walkD_l {k : Nat} {a : Addr} {ds : List D} (hk : K = W.K) (ha : m[k]? = some a) : WalkD W m H (Itl K a) ds [(k, ds)] := by
  subst hk
  refine ⟨fun i m' H' h' x' r' c' hi => ?_, fun m' H' h' x' r' c' => ?_, fun i m' H' h' y H2 x' r' c' hi hy => ?_⟩
  · obtain ⟨ys, hy, ry⟩ := src_at x' r' ha c'
    obtain ⟨w, hw, _⟩ := ry.get (List.getElem?_eq_getElem hi)
    exact ⟨ys, w, SqL.of hy, hw⟩
  · obtain ⟨ys, hy, ry⟩ := src_at x' r' ha c'
    exact ⟨ys, SqL.of hy, by rw [ry.length]; exact Nat.le_refl _⟩
  · obtain ⟨ys, hy', ry⟩ := src_at x' r' ha c'
    obtain ⟨e2, e3⟩ := hy
    subst e2
    obtain ⟨w, hw, rw'⟩ := ry.get (List.getElem?_eq_getElem hi)
    have := e3 ys (SqL.of hy')
    rw [hw] at this; cases this
    exact ⟨Ext.refl, r', _, List.getElem?_eq_getElem hi, rw'⟩
theorem walkD_f {a : Addr} {ds : List D} {xs : List V} (hk : K = W.K) (hx : FzL W.K H a xs) (rx : RDs W.K m H ds xs) : WalkD W m H (Itl K a) ds [] := by
  subst hk
  refine ⟨fun i m' H' h' x' r' c' hi => ?_, fun m' H' h' x' r' c' => ?_, fun i m' H' h' y H2 x' r' c' hi hy => ?_⟩
  · obtain ⟨w, hw, _⟩ := rx.get (List.getElem?_eq_getElem hi)
    exact ⟨xs, w, (x'.fl _ _ hx).seq, hw⟩
  · exact ⟨xs, (x'.fl _ _ hx).seq, by rw [rx.length]; exact Nat.le_refl _⟩
  · obtain ⟨e2, e3⟩ := hy
    subst e2
    obtain ⟨w, hw, rw'⟩ := rx.get (List.getElem?_eq_getElem hi)
    have := e3 xs (x'.fl _ _ hx).seq
    rw [hw] at this; cases this
    exact ⟨Ext.refl, r', _, List.getElem?_eq_getElem hi, rw'.ext x'⟩
theorem walkD_t {a : Addr} {ds : List D} {xs : List V} (hk : K = W.K) (hx : SqT W.K H a xs) (rx : RDs W.K m H ds xs) : WalkD W m H (Itt K a) ds [] := by
  subst hk
  refine ⟨fun i m' H' h' x' r' c' hi => ?_, fun m' H' h' x' r' c' => ?_, fun i m' H' h' y H2 x' r' c' hi hy => ?_⟩
  · obtain ⟨w, hw, _⟩ := rx.get (List.getElem?_eq_getElem hi)
    exact ⟨xs, w, x'.tup _ _ hx, hw⟩
  · exact ⟨xs, x'.tup _ _ hx, by rw [rx.length]; exact Nat.le_refl _⟩
  · obtain ⟨e2, e3⟩ := hy
    subst e2
    obtain ⟨w, hw, rw'⟩ := rx.get (List.getElem?_eq_getElem hi)
    have := e3 xs (x'.tup _ _ hx)
    rw [hw] at this; cases this
    exact ⟨Ext.refl, r', _, List.getElem?_eq_getElem hi, rw'.ext x'⟩
theorem walkD_el {k : Nat} {a : Addr} {ds : List D} (hk : K = W.K) (ha : m[k]? = some a) : WalkD W m H (Ite K a) (enumD ds) [(k, ds)] := by
  subst hk
  refine ⟨fun i m' H' h' x' r' c' hi => ?_, fun m' H' h' x' r' c' => ?_, fun i m' H' h' y H2 x' r' c' hi hy => ?_⟩
  · rw [enumD_len] at hi
    obtain ⟨ys, hy, ry⟩ := src_at x' r' ha c'
    obtain ⟨w, hw, _⟩ := ry.get (List.getElem?_eq_getElem hi)
    exact ⟨ys, w, SqL.of hy, hw⟩
  · obtain ⟨ys, hy, ry⟩ := src_at x' r' ha c'
    exact ⟨ys, SqL.of hy, by rw [enumD_len, ry.length]; exact Nat.le_refl _⟩
  · rw [enumD_len] at hi
    obtain ⟨ys, hy', ry⟩ := src_at x' r' ha c'
    obtain ⟨T, z, e1, e2, e3, e4⟩ := hy
    subst e1 e3
    obtain ⟨w, hw, rw'⟩ := ry.get (List.getElem?_eq_getElem hi)
    have := e4 ys (SqL.of hy')
    rw [hw] at this; cases this
    obtain ⟨p1, p2, p3⟩ := pair_new r' e2 (.int (i : Nat)) rw'
    exact ⟨p1, p2, _, enumD_get (List.getElem?_eq_getElem hi), p3⟩
theorem walkD_et {a : Addr} {ds : List D} {xs : List V} (hk : K = W.K) (hx : SqT W.K H a xs) (rx : RDs W.K m H ds xs) : WalkD W m H (IteT K a) (enumD ds) [] := by
  subst hk
  refine ⟨fun i m' H' h' x' r' c' hi => ?_, fun m' H' h' x' r' c' => ?_, fun i m' H' h' y H2 x' r' c' hi hy => ?_⟩
  · rw [enumD_len] at hi
    obtain ⟨w, hw, _⟩ := rx.get (List.getElem?_eq_getElem hi)
    exact ⟨xs, w, x'.tup _ _ hx, hw⟩
  · exact ⟨xs, x'.tup _ _ hx, by rw [enumD_len, rx.length]⟩
  · rw [enumD_len] at hi
    obtain ⟨T, z, e1, e2, e3, e4⟩ := hy
    subst e1 e3
    obtain ⟨w, hw, rw'⟩ := rx.get (List.getElem?_eq_getElem hi)
    have := e4 xs (x'.tup _ _ hx)
    rw [hw] at this; cases this
    obtain ⟨p1, p2, p3⟩ := pair_new r' e2 (.int (i : Nat)) (rw'.ext x')
    exact ⟨p1, p2, _, enumD_get (List.getElem?_eq_getElem hi), p3⟩
def iOver (f : SE) : SI := fun c ρ h => (f c ρ h).bind fun x h1 => match x with
  | .ob k => match h1[k]? with
    | some (.lst ds) => .ok (ds, [(k, ds)]) h1
    | _ => .bad
  | .fl ds => .ok (ds, []) h1
  | .tup ds => .ok (ds, []) h1
  | _ => .bad
theorem di_over {c : CallF} {tg e : Expr} {f : SE} (C : Cok W n X) (he : DE W c X e f) : DI W c X tg e (iOver f) :=
  PI.imp (pi_any he) fun σ H R ⟨m, ρ, h, p, h', rs, rh, e, ch, q⟩ => by
    obtain ⟨x, h1, e1, e⟩ := Out.bind_ok e
    split at e
    · rename_i k
      split at e
      · rename_i ds hk
        cases e
        refine ⟨m, ρ, h, _, _, rs, rh, e1, fun m1 H1 x1 r1 v rv => ?_⟩
        obtain ⟨a, rfl, ha⟩ := rv.ob_inv
        obtain ⟨xs, hx, rx⟩ := r1.lst hk ha
        exact ⟨a, rfl, .inl ⟨⟨xs, by rw [C.K]; exact SqL.of hx⟩, q m1 H1 x1 r1 _ (walkD_l C.K ha)⟩⟩
      · cases e
    · cases e
      refine ⟨m, ρ, h, _, _, rs, rh, e1, fun m1 H1 x1 r1 v rv => ?_⟩
      obtain ⟨a, xs, rfl, hx, rx⟩ := rv.fl_inv
      exact ⟨a, rfl, .inl ⟨⟨xs, by rw [C.K]; exact hx.seq⟩, q m1 H1 x1 r1 _ (walkD_f C.K hx rx)⟩⟩
    · cases e
      refine ⟨m, ρ, h, _, _, rs, rh, e1, fun m1 H1 x1 r1 v rv => ?_⟩
      obtain ⟨a, xs, rfl, hx, rx⟩ := rv.tup_inv
      exact ⟨a, rfl, .inr ⟨⟨xs, by rw [C.K]; exact hx⟩, q m1 H1 x1 r1 _ (walkD_t C.K hx rx)⟩⟩
    · cases e
theorem di_enum {c : CallF} {e : Expr} {f : SE} {p pos tpos : Pos} {elts : List Expr} {kk : Nat} (C : Cok W n X) (hg : Gl X "enumerate") (hm : X.mg "enumerate" = none) (he : DE W c X e f)
    (hs : starEach [e] X.env = [(false, eval e X.env)]) : DI W c X (.Tuple elts kk tpos) (.Call (.Name "enumerate" p) [e] [] pos) (iEnum f) :=
  PI.imp (pi_enumA hg hm (pa_cons he pa_nil hs) hs) fun σ H R ⟨m, ρ, h, p, h', rs, rh, e, ch, q⟩ => by
    obtain ⟨x, h1, e1, e⟩ := Out.bind_ok e
    split at e
    · rename_i k
      split at e
      · rename_i ds hk
        cases e
        refine ⟨m, ρ, h, _, _, rs, rh, e1, fun m1 H1 x1 r1 v rv => ?_⟩
        obtain ⟨a, rfl, ha⟩ := rv.ob_inv
        obtain ⟨xs, hx, rx⟩ := r1.lst hk ha
        exact ⟨a, xs, rfl, .inl ⟨by rw [C.K]; exact SqL.of hx, q m1 H1 x1 r1 _ (walkD_el C.K ha)⟩⟩
      · cases e
    · cases e
      refine ⟨m, ρ, h, _, _, rs, rh, e1, fun m1 H1 x1 r1 v rv => ?_⟩
      obtain ⟨a, xs, rfl, hx, rx⟩ := rv.tup_inv
      exact ⟨a, xs, rfl, .inr ⟨by rw [C.K]; exact hx, q m1 H1 x1 r1 _ (walkD_et C.K hx rx)⟩⟩
    · cases e
/-- reversed(x) -/
def iRev (f : SE) : SI := fun c ρ h => (f c ρ h).bind fun x h1 => match x with
  | .ob k => match h1[k]? with
    | some (.lst ds) => .ok (ds.reverse, [(k, ds)]) h1
    | _ => .bad
  | .tup ds => .ok (ds.reverse, []) h1
  | _ => .bad
theorem walkD_rl {k : Nat} {a : Addr} {ds : List D} {j : Nat} (hj : j = ds.length) (hk : K = W.K) (ha : m[k]? = some a) : WalkD W m H (Itv K a j) ds.reverse [(k, ds)] := by
  subst hk hj
  refine ⟨fun i m' H' h' x' r' c' hi => ?_, fun m' H' h' x' r' c' => ?_, fun i m' H' h' y H2 x' r' c' hi hy => ?_⟩
  · rw [List.length_reverse] at hi
    obtain ⟨ys, hy, ry⟩ := src_at x' r' ha c'
    obtain ⟨w, hw, _⟩ := ry.get (List.getElem?_eq_getElem (show ds.length - 1 - i < ds.length by omega))
    exact ⟨hi, ys, w, SqL.of hy, hw⟩
  · rw [List.length_reverse]; exact Nat.le_refl _
  · rw [List.length_reverse] at hi
    obtain ⟨ys, hy', ry⟩ := src_at x' r' ha c'
    obtain ⟨e2, e3⟩ := hy
    subst e2
    have hlt : ds.length - 1 - i < ds.length := by omega
    obtain ⟨w, hw, rw'⟩ := ry.get (List.getElem?_eq_getElem hlt)
    have := e3 ys (SqL.of hy')
    rw [hw] at this; cases this
    exact ⟨Ext.refl, r', _, by rw [List.getElem?_reverse hi]; exact List.getElem?_eq_getElem hlt, rw'⟩
theorem walkD_rt {a : Addr} {ds : List D} {xs : List V} {j : Nat} (hj : j = ds.length) (hk : K = W.K) (hx : SqT W.K H a xs) (rx : RDs W.K m H ds xs) : WalkD W m H (ItvT K a j) ds.reverse [] := by
  subst hk hj
  refine ⟨fun i m' H' h' x' r' c' hi => ?_, fun m' H' h' x' r' c' => ?_, fun i m' H' h' y H2 x' r' c' hi hy => ?_⟩
  · rw [List.length_reverse] at hi
    obtain ⟨w, hw, _⟩ := rx.get (List.getElem?_eq_getElem (show ds.length - 1 - i < ds.length by omega))
    exact ⟨hi, xs, w, x'.tup _ _ hx, hw⟩
  · rw [List.length_reverse]; exact Nat.le_refl _
  · rw [List.length_reverse] at hi
    obtain ⟨e2, e3⟩ := hy
    subst e2
    have hlt : ds.length - 1 - i < ds.length := by omega
    obtain ⟨w, hw, rw'⟩ := rx.get (List.getElem?_eq_getElem hlt)
    have := e3 xs (x'.tup _ _ hx)
    rw [hw] at this; cases this
    exact ⟨Ext.refl, r', _, by rw [List.getElem?_reverse hi]; exact List.getElem?_eq_getElem hlt, rw'.ext x'⟩
theorem di_rev {c : CallF} {tg e : Expr} {f : SE} {p pos : Pos} (C : Cok W n X) (hg : Gl X "reversed") (hm : X.mg "reversed" = none) (he : DE W c X e f)
    (hs : starEach [e] X.env = (false, eval e X.env) :: starEach [] X.env) : DI W c X tg (.Call (.Name "reversed" p) [e] [] pos) (iRev f) :=
  PI.imp (pi_revA hg hm he hs) fun σ H R ⟨m, ρ, h, p, h', rs, rh, e, ch, q⟩ => by
    obtain ⟨x, h1, e1, e⟩ := Out.bind_ok e
    split at e
    · rename_i k
      split at e
      · rename_i ds hk
        cases e
        refine ⟨m, ρ, h, _, _, rs, rh, e1, fun m1 H1 x1 r1 v rv => ?_⟩
        obtain ⟨a, rfl, ha⟩ := rv.ob_inv
        obtain ⟨xs, hx, rx⟩ := r1.lst hk ha
        exact ⟨a, xs, rfl, .inl ⟨by rw [C.K]; exact SqL.of hx, q m1 H1 x1 r1 _ (walkD_rl rx.length.symm C.K ha)⟩⟩
      · cases e
    · cases e
      refine ⟨m, ρ, h, _, _, rs, rh, e1, fun m1 H1 x1 r1 v rv => ?_⟩
      obtain ⟨a, xs, rfl, hx, rx⟩ := rv.tup_inv
      exact ⟨a, xs, rfl, .inr ⟨by rw [C.K]; exact hx, q m1 H1 x1 r1 _ (walkD_rt rx.length.symm C.K hx rx)⟩⟩
    · cases e
/-- range(..) -/
theorem di_rng1 {c : CallF} {tg a : Expr} {r : SA} {p pos : Pos} (hg : Gl X "range") (hm : X.mg "range" = none) (ha : DA W c X [a] r) (hs : starEach [a] X.env = [(false, eval a X.env)]) : DI W c X tg (.Call (.Name "range" p) [a] [] pos) (iRng1 r) :=
  PI.imp (pi_range1 hg hm ha hs) fun σ H R ⟨m, ρ, h, p, h', rs, rh, e, ch, q⟩ => by
    obtain ⟨xs, h1, e1, e⟩ := Out.bind_ok e
    refine ⟨m, ρ, h, _, _, rs, rh, e1, fun m1 H1 x1 r1 v rv => ?_⟩
    split at e
    · split at e
      · cases e
        obtain ⟨w, rfl, rw'⟩ := rv.one_inv
        have := rw'.int_inv; subst w
        exact ⟨_, rfl, by omega, by omega, q m1 H1 x1 r1 _ walkD_r⟩
      · cases e
    · cases e
theorem di_rng2 {c : CallF} {tg a b : Expr} {r : SA} {p pos : Pos} (hg : Gl X "range") (hm : X.mg "range" = none) (ha : DA W c X [a, b] r) (hs : starEach [a, b] X.env = [(false, eval a X.env), (false, eval b X.env)]) (hs2 : starEach [b] X.env = [(false, eval b X.env)]) :
    DI W c X tg (.Call (.Name "range" p) [a, b] [] pos) (iRng2 r) :=
  PI.imp (pi_range2 hg hm ha hs hs2) fun σ H R ⟨m, ρ, h, p, h', rs, rh, e, ch, q⟩ => by
    obtain ⟨xs, h1, e1, e⟩ := Out.bind_ok e
    refine ⟨m, ρ, h, _, _, rs, rh, e1, fun m1 H1 x1 r1 v rv => ?_⟩
    split at e
    · split at e
      · cases e
        obtain ⟨w, z, rfl, rw', rz⟩ := rv.two_inv
        have := rw'.int_inv; have := rz.int_inv; subst w z
        exact ⟨_, _, rfl, by omega, q m1 H1 x1 r1 _ walkD_r⟩
      · cases e
    · cases e
theorem small_up {i j k : Int} (hk : 0 < k) (hk2 : k ≤ 100000) (h1 : -100000 ≤ i) (h2 : i ≤ 100000) (h3 : -100000 ≤ j) (h4 : j ≤ 100000) : RgC i j k (if i < j then (j - i - 1) / k + 1 else 0).toNat := by
  have e : Builtin.Range.rangeSize i j k = if i < j then (j - i - 1) / k + 1 else 0 := by
    unfold Builtin.Range.rangeSize
    rw [if_pos hk]
  have b0 : i < j → 0 ≤ (j - i - 1) / k := fun hl => Int.ediv_nonneg (by omega) (by omega)
  have b1 : i < j → (j - i - 1) / k ≤ j - i - 1 := fun hl => Int.ediv_le_self _ (by omega)
  refine ⟨by omega, by omega, ?_, ?_⟩
  · unfold Builtin.Range.small
    rw [e]
    simp only [Builtin.Range.rangeFitsLong, Bool.and_eq_true, Bool.or_eq_true, decide_eq_true_eq, beq_iff_eq, if_pos hk]
    split <;> omega
  · rw [e]
    split <;> omega
theorem di_rng3 {c : CallF} {tg a b d : Expr} {r : SA} {p pos : Pos} (hg : Gl X "range") (hm : X.mg "range" = none) (ha : DA W c X [a, b, d] r) (hs : starEach [a, b, d] X.env = (false, eval a X.env) :: starEach [b, d] X.env)
    (hs2 : (backTo pos (starEach [b, d] X.env)).any (·.1) = false) : DI W c X tg (.Call (.Name "range" p) [a, b, d] [] pos) (iRng3 r) :=
  PI.imp (pi_range3 hg hm ha hs hs2) fun σ H R ⟨m, ρ, h, p, h', rs, rh, e, ch, q⟩ => by
    obtain ⟨xs, h1, e1, e⟩ := Out.bind_ok e
    refine ⟨m, ρ, h, _, _, rs, rh, e1, fun m1 H1 x1 r1 v rv => ?_⟩
    split at e
    · cases rv with
      | cons q1 t =>
        obtain ⟨w, z, rfl, q2, q3⟩ := t.two_inv
        have := q1.int_inv; have := q2.int_inv; have := q3.int_inv; subst w z
        subst_vars
        split at e
        · rename_i hc
          cases e
          obtain ⟨rfl, hc⟩ := hc
          exact ⟨_, _, _, _, rfl, RgC.neg (by omega) (by omega) (by omega) (by omega), q m1 H1 x1 r1 _ walkD_c⟩
        · split at e
          · rename_i hc
            cases e
            exact ⟨_, _, _, _, rfl, small_up hc.1 hc.2.1 hc.2.2.1 hc.2.2.2.1 hc.2.2.2.2.1 hc.2.2.2.2.2, q m1 H1 x1 r1 _ walkD_c⟩
          · cases e
    · cases e
end
end Cw

end

section
/-! Statements and comprehensions over trees. -/
namespace Cw
open PySem PySem.Spec PyProof.Rows L2

/-! ### statements -/
def sNil : SS := fun _ ρ h => .ok (.nx ρ) h
def sSeq (a b : SS) : SS := fun c ρ h => (a c ρ h).bind fun fl h1 => match fl with
  | .nx ρ' => b c ρ' h1
  | fl => .ok fl h1
def sBreak : SS := fun _ ρ h => .ok (.bk ρ) h
def sCont : SS := fun _ ρ h => .ok (.ct ρ) h
def sExpr (e : SE) : SS := fun c ρ h => (e c ρ h).bind fun _ h1 => .ok (.nx ρ) h1
def sRet (e : SE) : SS := fun c ρ h => (e c ρ h).bind fun d h1 => .ok (.rt d) h1
def sRetN : SS := fun _ _ h => .ok (.rt .non) h
def onBS (x : D) (t f : Out Fl) : Out Fl := match x with
  | .bl true => t
  | .bl false => f
  | _ => .bad
def sIf (t : SE) (a b : SS) : SS := fun c ρ h => (t c ρ h).bind fun x h1 => onBS x (a c ρ h1) (b c ρ h1)
def sSet (i : Nat) (e : SE) : SS := fun c ρ h => (e c ρ h).bind fun d h1 => .ok (.nx (ρ.set i (some d))) h1
/-- tuple targets, any names -/
def sSetT (is : List Nat) (e : SE) : SS := fun c ρ h => (e c ρ h).bind fun d h1 => match setT (.many is) d ρ with
  | some ρ' => .ok (.nx ρ') h1
  | none => .bad
/-- x, y = a, b with plain names: as they are told -/
def sPar (is : List Nat) (r : SA) : SS := fun c ρ h => (r c ρ h).bind fun ds h1 => if ds.length = is.length then .ok (.nx (setMany is ds ρ)) h1 else .bad
def sSub (o i e : SE) : SS := fun c ρ h => (e c ρ h).bind fun d h1 => (o c ρ h1).bind fun x h2 => (i c ρ h2).bind fun y h3 => match setD x y d h3 with
  | some h4 => .ok (.nx ρ) h4
  | none => .bad
def sAug (i : Nat) (g : D → D → AH → Out D) (e : SE) : SS := fun c ρ h => match ρ[i]? with
  | some (some x) => (e c ρ h).bind fun y h1 => (g x y h1).bind fun z h2 => .ok (.nx (ρ.set i (some z))) h2
  | _ => .bad
def forL (body : D → Env → AH → Out Fl) (src : Src) : List D → Env → AH → Out Fl
  | [], ρ, h => .ok (.nx ρ) h
  | x :: xs, ρ, h => (body x ρ h).bind fun fl h1 => match fl with
    | .nx ρ' => if chk src h1 then forL body src xs ρ' h1 else .bad
    | .ct ρ' => if chk src h1 then forL body src xs ρ' h1 else .bad
    | .bk ρ' => .ok (.nx ρ') h1
    | .rt d => .ok (.rt d) h1
def stepT (tg : Tg) (b : SS) (c : CallF) (x : D) (ρ : Env) (h : AH) : Out Fl := match setT tg x ρ with
  | some ρ' => b c ρ' h
  | none => .bad
def sFor (it : SI) (tg : Tg) (b : SS) : SS := fun c ρ h => (it c ρ h).bind fun p h1 => if chk p.2 h1 then forL (stepT tg b c) p.2 p.1 ρ h1 else .bad
def whileL (t : Env → AH → Out D) (b : Env → AH → Out Fl) : Nat → Env → AH → Out Fl
  | 0, _, _ => .bad
  | n + 1, ρ, h => (t ρ h).bind fun x h1 => onBS x ((b ρ h1).bind fun fl h2 => match fl with
    | .nx ρ' => whileL t b n ρ' h2
    | .ct ρ' => whileL t b n ρ' h2
    | .bk ρ' => .ok (.nx ρ') h2
    | .rt d => .ok (.rt d) h2) (.ok (.nx ρ) h1)
def fuelW : Nat := 100000
def sWhile (t : SE) (b : SS) : SS := fun c ρ h => whileL (t c) (b c) fuelW ρ h

theorem onBS_ok {x : D} {t f : Out Fl} {d : Fl} {h' : AH} (e : onBS x t f = .ok d h') : (x = .bl true ∧ t = .ok d h') ∨ (x = .bl false ∧ f = .ok d h') := by
  cases x with
  | bl b => cases b with
    | true => exact .inl ⟨rfl, e⟩
    | false => exact .inr ⟨rfl, e⟩
  | _ => cases e

section
variable {W : Wk} {n : Nat} {X : Cx} {c : CallF} {m : List Addr} {H : Hp} {h : AH} {e : Expr} {fe : SE} {pos : Pos} {st : Stmt} {sts : List Stmt} {fs ft : SS}
theorem FlQ.mono {m' : List Addr} {H' : Hp} {D1 D2 : Ends} {fl : Fl} (h : FlQ W m' H' D1 fl) (h1 : ∀ σ H, D1.nx σ H → D2.nx σ H) (h2 : ∀ v H, D1.rt v H → D2.rt v H) (h3 : ∀ σ H, D1.bk σ H → D2.bk σ H) (h4 : ∀ σ H, D1.ct σ H → D2.ct σ H) : FlQ W m' H' D2 fl := by
  cases fl with
  | nx ρ => exact fun σ r => h1 _ _ (h σ r)
  | rt d => exact fun v r => h2 _ _ (h v r)
  | bk ρ => exact fun σ r => h3 _ _ (h σ r)
  | ct ρ => exact fun σ r => h4 _ _ (h σ r)
theorem db_nil : DB W c X [] sNil :=
  PSs.imp pss_nil fun D σ H ⟨m, ρ, h, fl, h', rs, rh, e, q⟩ => by
    cases e
    exact q.here rh σ rs
theorem db_cons (h1 : DS W c X st fs) (h2 : DB W c X sts ft) : DB W c X (st :: sts) (sSeq fs ft) :=
  PSs.imp (pss_cons h1 h2) fun D σ H ⟨m, ρ, h, fl, h', rs, rh, e, q⟩ => by
    obtain ⟨f1, h1, e1, e⟩ := Out.bind_ok e
    refine ⟨m, ρ, h, f1, h1, rs, rh, e1, fun m1 H1 x1 r1 => ?_⟩
    cases f1 with
    | nx ρ' => exact fun σ' rs' => ⟨m1, ρ', h1, fl, h', rs', r1, e, q.from x1⟩
    | rt d => cases e; exact q m1 H1 x1 r1
    | bk ρ' => cases e; exact q m1 H1 x1 r1
    | ct ρ' => cases e; exact q m1 H1 x1 r1
theorem ds_pass : DS W c X (.Pass pos) sNil :=
  PS.imp ps_pass fun D σ H ⟨m, ρ, h, fl, h', rs, rh, e, q⟩ => by cases e; exact q.here rh σ rs
theorem ds_break : DS W c X (.Break pos) sBreak :=
  PS.imp ps_break fun D σ H ⟨m, ρ, h, fl, h', rs, rh, e, q⟩ => by cases e; exact q.here rh σ rs
theorem ds_cont : DS W c X (.Continue pos) sCont :=
  PS.imp ps_continue fun D σ H ⟨m, ρ, h, fl, h', rs, rh, e, q⟩ => by cases e; exact q.here rh σ rs
theorem ds_expr (he : DE W c X e fe) (hs : swapsWith e none pos.line X.env = pure false) : DS W c X (.Expr e pos) (sExpr fe) :=
  PS.imp (ps_expr he hs) fun D σ H ⟨m, ρ, h, fl, h', rs, rh, e, q⟩ => by
    obtain ⟨d, h1, e1, e⟩ := Out.bind_ok e
    cases e
    exact ⟨m, ρ, h, d, _, rs, rh, e1, fun m1 H1 x1 r1 v _ => q m1 H1 x1 r1 σ (rs.ext x1)⟩
theorem ds_ret (he : DE W c X e fe) : DS W c X (.Return (some e) pos) (sRet fe) :=
  PS.imp (ps_ret he) fun D σ H ⟨m, ρ, h, fl, h', rs, rh, e, q⟩ => by
    obtain ⟨d, h1, e1, e⟩ := Out.bind_ok e
    cases e
    exact ⟨m, ρ, h, d, _, rs, rh, e1, fun m1 H1 x1 r1 v rv => q m1 H1 x1 r1 v rv⟩
theorem ds_retN : DS W c X (.Return none pos) sRetN :=
  PS.imp ps_retN fun D σ H ⟨m, ρ, h, fl, h', rs, rh, e, q⟩ => by cases e; exact q.here rh _ .non
theorem ds_if {a b : List Stmt} {fa fb : SS} (ht : DT W c X e fe) (ha : DB W c X a fa) (hb : DB W c X b fb) : DS W c X (.If e a b pos) (sIf fe fa fb) :=
  PS.imp (ps_if ht ha hb) fun D σ H ⟨m, ρ, h, fl, h', rs, rh, e, q⟩ => by
    obtain ⟨x, h1, e1, e⟩ := Out.bind_ok e
    rcases onBS_ok e with ⟨rfl, e⟩ | ⟨rfl, e⟩
    · exact ⟨m, ρ, h, _, h1, rs, rh, e1, fun m1 H1 x1 r1 => iteT ⟨m1, ρ, h1, fl, h', rs.ext x1, r1, e, q.from x1⟩⟩
    · exact ⟨m, ρ, h, _, h1, rs, rh, e1, fun m1 H1 x1 r1 => iteF ⟨m1, ρ, h1, fl, h', rs.ext x1, r1, e, q.from x1⟩⟩
theorem set_red {i : Nat} {te : TE} (h : te = tE W c fe) {D0 : Ends} {σ : L2.St} {H : Hp} (w : tS W c (sSet i fe) D0 σ H) : tAsg te (gName i) D0 σ H := by
  subst h
  obtain ⟨m, ρ, h, fl, h', rs, rh, e, q⟩ := w
  obtain ⟨d, h1, e1, e⟩ := Out.bind_ok e
  cases e
  exact ⟨m, ρ, h, d, _, rs, rh, e1, fun m1 H1 x1 r1 v rv => q m1 H1 x1 r1 _ ((rs.ext x1).set i rv)⟩
theorem ds_set {i : Nat} {x : Str} {pos' : Pos} (hN : X.N.Nodup) (hi : X.N[i]? = some x) (hx : Loc X.env.scope x) (he : DE W c X e fe) (hs : swapsWith e (some (.Name x pos')) pos.line X.env = pure false)
    (hf : X.fn x = true ∨ X.env.scope.names.lookup x = some .local) : DS W c X (.Assign [.Name x pos'] e pos) (sSet i fe) :=
  PS.imp (ps_set hN hi hx he hs hf) fun D σ H w => set_red rfl w
/-- a target by its judgement, with any value -/
theorem ds_tup {is : List Nat} {tg : Expr} (C : Cok W n X) (hg : PG X tg (gT X.K (.many is))) (he : DE W c X e fe) (hs : swapsWithSole [tg] e pos.line X.env = pure false) (hw : swappedStores [tg] e X.env = pure none)
    (h1 : (assignEach [tg] X.env).map (·.2) = [assign tg X.env]) : DS W c X (.Assign [tg] e pos) (sSetT is fe) :=
  PS.imp (ps_asg he hg hs hw h1) fun D σ H ⟨m, ρ, h, fl, h', rs, rh, e, q⟩ => by
    obtain ⟨d, h1, e1, e⟩ := Out.bind_ok e
    split at e
    · rename_i ρ' hρ
      cases e
      refine ⟨m, ρ, h, d, _, rs, rh, e1, fun m1 H1 x1 r1 v rv => ?_⟩
      rw [C.K]
      exact gT_ok (rs.ext x1) rv hρ fun σ' rs' _ => q m1 H1 x1 r1 σ' rs'
    · cases e
theorem ds_par {i j : Nat} {x y : Str} {a b : Expr} {r : SA} {px py pt : Pos} {kt k2 : Nat} {pt2 : Pos} (C : Cok W n X) (hi : X.N[i]? = some x) (hj : X.N[j]? = some y) (hij : i ≠ j)
    (hx : X.env.scope.names.lookup x = some .local) (hy : X.env.scope.names.lookup y = some .local) (ha : DA W c X [a, b] r)
    (hw : swappedStores [.Tuple [.Name x px, .Name y py] kt pt] (.Tuple [a, b] k2 pt2) X.env = pure (some [x, y])) :
    DS W c X (.Assign [.Tuple [.Name x px, .Name y py] kt pt] (.Tuple [a, b] k2 pt2) pos) (sPar [i, j] r) :=
  PS.imp (ps_par C.calm C.nd hi hj hij hx hy ha hw) fun D σ H ⟨m, ρ, h, fl, h', rs, rh, e, q⟩ => by
    obtain ⟨ds, h1, e1, e⟩ := Out.bind_ok e
    split at e
    · rename_i hl
      cases e
      refine ⟨m, ρ, h, ds, _, rs, rh, e1, fun m1 H1 x1 r1 vs rv => ?_⟩
      match ds, hl, rv with
      | [d1, d2], _, .cons q1 (.cons q2 .nil) => exact ⟨_, _, rfl, q m1 H1 x1 r1 _ (((rs.ext x1).set i q1).set j q2)⟩
    · cases e
theorem ds_sub {o i : Expr} {fo fi : SE} {pos' : Pos} (C : Cok W n X) (ho : DE W c X o fo) (hi : DE W c X i fi) (he : DE W c X e fe)
    (ha : ∀ v, assign (.Subscript o i pos') X.env v = (do
      let ov ← holding [v] (eval o X.env)
      let iv ← holding [v, ov] (eval i X.env)
      standAt pos'
      holding [v, ov, iv] (setItem ov iv v)
      release [v, ov, iv] []))
    (hs : swapsWithSole [.Subscript o i pos'] e pos.line X.env = pure false) : DS W c X (.Assign [.Subscript o i pos'] e pos) (sSub fo fi fe) :=
  PS.imp (ps_asg he (pg_sub ho hi (set_ok C) ha) hs) fun D σ H ⟨m, ρ, h, fl, h', rs, rh, e, q⟩ => by
    obtain ⟨d, h1, e1, e⟩ := Out.bind_ok e
    obtain ⟨x, h2, e2, e⟩ := Out.bind_ok e
    obtain ⟨y, h3, e3, e⟩ := Out.bind_ok e
    split at e
    · rename_i h4 hs
      cases e
      refine ⟨m, ρ, h, d, h1, rs, rh, e1, fun m1 H1 x1 r1 v rv => ?_⟩
      refine ⟨m1, ρ, h1, x, h2, rs.ext x1, r1, e2, fun m2 H2 x2 r2 u ru => ?_⟩
      refine ⟨m2, ρ, h2, y, h3, rs.ext (x1.trans x2), r2, e3, fun m3 H3 x3 r3 w rw' => ?_⟩
      exact ⟨m3, h3, x, y, d, _, r3, ru.ext x3, rw', rv.ext (x2.trans x3), hs, fun m4 H4 x4 r4 => q m4 H4 (((x1.trans x2).trans x3).trans x4) r4 σ (rs.ext (((x1.trans x2).trans x3).trans x4))⟩
    · cases e
theorem ds_aug {i : Nat} {x : Str} {op : Operator} {g : D → D → AH → Out D} {pos' : Pos} (hN : X.N.Nodup) (hi : X.N[i]? = some x) (hx : Loc X.env.scope x) (he : DE W c X e fe)
    (ho : PIp X op (tV2 W g)) (hf : X.fn x = true ∨ X.env.scope.names.lookup x = some .local) : DS W c X (.AugAssign (.Name x pos') op e pos) (sAug i g fe) :=
  PS.imp (ps_aug hN hi hx he ho hf) fun D σ H ⟨m, ρ, h, fl, h', rs, rh, e, q⟩ => by
    unfold sAug at e
    split at e
    · rename_i x0 hx0
      obtain ⟨y, h1, e1, e⟩ := Out.bind_ok e
      obtain ⟨z, h2, e2, e⟩ := Out.bind_ok e
      cases e
      obtain ⟨v, hv, rv⟩ := rs.at_ i x0 hx0
      refine ⟨v, hv, m, ρ, h, y, h1, rs, rh, e1, fun m1 H1 x1 r1 u ru => ?_⟩
      exact ⟨m1, h1, x0, y, z, _, r1, rv.ext x1, ru, e2, fun m2 H2 x2 r2 w rw' => q m2 H2 (x1.trans x2) r2 _ ((rs.ext (x1.trans x2)).set i rw')⟩
    · cases e
def iaddD : D → D → AH → Out D := fun x y h => match x, y with
  | .int i, .int j => .ok (.int (i + j)) h
  | _, _ => .bad
theorem iadd_ok : PIp X .Add (tV2 W iaddD) := by
  intro pins s σ H x y v u Q I rx ry ⟨m, h, dx, dy, d, h', r, ax, ay, e, q⟩
  unfold iaddD at e
  split at e
  · cases e
    have := ax.int_inv; have := ay.int_inv; subst x y
    exact ip_add pins s σ H _ _ v u Q I rx ry ⟨_, _, rfl, rfl, q.here r _ (.int _)⟩
  · cases e

/-! ### loops -/
theorem ds_for {tg iter : Expr} {body : List Stmt} {fi : SI} {t : Tg} {fb : SS} (C : Cok W n X) (hi : DI W c X tg iter fi) (hg : PG X tg (gT X.K t)) (hb : DB W c X body fb) (hs : ∀ x, foldedSetIterable iter X.env x = pure x) :
    DS W c X (.For tg iter body [] pos) (sFor fi t fb) :=
  PS.imp (ps_for C.pass C.calm hi hg hb hs) fun D0 σ H ⟨m, ρ, h, fl, h', rs, rh, e, q⟩ => by
    obtain ⟨p, h1, e1, e⟩ := Out.bind_ok e
    split at e
    · rename_i hc
      refine ⟨m, ρ, h, p, h1, rs, rh, e1, hc, fun m1 H1 x1 r1 J wk => ?_⟩
      obtain ⟨its, src⟩ := p
      refine ⟨fun i k σ2 H2 => k = its.length - i ∧ i ≤ its.length ∧ ∃ m2 ρ2 h2, Ext W.K m1 H1 m2 H2 ∧ RelS W.K m2 H2 ρ2 σ2 ∧ W.R m2 H2 h2 ∧ chk src h2 = true ∧ forL (stepT t fb c) src (its.drop i) ρ2 h2 = .ok fl h',
        ⟨_, rfl, Nat.zero_le _, m1, ρ, h1, Ext.refl, rs.ext x1, r1, hc, e⟩, ?_⟩
      rintro i k σ2 H2 ⟨rfl, hle, m2, ρ2, h2, x2, rs2, r2, c2, e2⟩
      by_cases hlt : i < its.length
      · right
        refine ⟨wk.goes i m2 H2 h2 x2 r2 c2 hlt, fun σ3 H3 => ∃ m3 ρ3 h3, Ext W.K m1 H1 m3 H3 ∧ RelS W.K m3 H3 ρ3 σ3 ∧ W.R m3 H3 h3 ∧ chk src h3 = true ∧ forL (stepT t fb c) src (its.drop (i + 1)) ρ3 h3 = .ok fl h',
          fun σ3 H3 hN => ⟨its.length - (i + 1), by omega, rfl, hlt, hN⟩, fun x H' y => ?_⟩
        obtain ⟨y1, y2, d, hd, rd⟩ := wk.yields i m2 H2 h2 x H' x2 r2 c2 hlt y
        have hdrop : its.drop i = d :: its.drop (i + 1) := by
          rw [List.drop_eq_getElem_cons hlt]
          rw [List.getElem?_eq_getElem hlt] at hd
          rw [Option.some.inj hd]
        rw [hdrop] at e2
        obtain ⟨f1, h3, e3, e4⟩ := Out.bind_ok (show (stepT t fb c d ρ2 h2).bind _ = .ok fl h' from e2)
        unfold stepT at e3
        split at e3
        · rename_i ρ3 hρ
          rw [C.K]
          refine gT_ok (rs2.ext y1) rd hρ fun σ3 rs3 _ => ?_
          refine ⟨m2, ρ3, h2, f1, h3, rs3, y2, e3, fun m4 H4 x4 r4 => ?_⟩
          have x5 : Ext W.K m1 H1 m4 H4 := (x2.trans y1).trans x4
          cases f1 with
          | nx ρ4 =>
            simp only at e4
            split at e4
            · rename_i c4
              exact fun σ4 rs4 => ⟨m4, ρ4, h3, x5, rs4, r4, c4, e4⟩
            · cases e4
          | ct ρ4 =>
            simp only at e4
            split at e4
            · rename_i c4
              exact fun σ4 rs4 => ⟨m4, ρ4, h3, x5, rs4, r4, c4, e4⟩
            · cases e4
          | bk ρ4 => cases e4; exact fun σ4 rs4 => q m4 H4 (x1.trans x5) r4 σ4 rs4
          | rt d4 => cases e4; exact fun v rv => q m4 H4 (x1.trans x5) r4 v rv
        · cases e3
      · left
        have hi2 : i = its.length := by omega
        subst hi2
        rw [List.drop_length] at e2
        cases e2
        exact ⟨wk.stops m2 H2 _ x2 r2 c2, q m2 H2 (x1.trans x2) r2 σ2 rs2⟩
    · cases e
theorem ds_while {t : Expr} {body : List Stmt} {ft : SE} {fb : SS} (C : Cok W n X) (ht : DT W c X t ft) (hb : DB W c X body fb) : DS W c X (.While t body [] pos) (sWhile ft fb) :=
  PS.imp (ps_while C.pass ht hb) fun D0 σ H ⟨m, ρ, h, fl, h', rs, rh, e, q⟩ => by
    refine ⟨fun k σ2 H2 => ∃ m2 ρ2 h2, Ext W.K m H m2 H2 ∧ RelS W.K m2 H2 ρ2 σ2 ∧ W.R m2 H2 h2 ∧ whileL (ft c) (fb c) k ρ2 h2 = .ok fl h', ⟨fuelW, m, ρ, h, Ext.refl, rs, rh, e⟩, ?_⟩
    rintro k σ2 H2 ⟨m2, ρ2, h2, x2, rs2, r2, e2⟩
    cases k with
    | zero => cases e2
    | succ k =>
      obtain ⟨x, h3, e3, e4⟩ := Out.bind_ok (show (ft c ρ2 h2).bind _ = .ok fl h' from e2)
      rcases onBS_ok e4 with ⟨rfl, e4⟩ | ⟨rfl, e4⟩
      · refine ⟨m2, ρ2, h2, true, h3, rs2, r2, e3, fun m3 H3 x3 r3 => iteT ?_⟩
        obtain ⟨f1, h4, e5, e6⟩ := Out.bind_ok e4
        refine ⟨fun σ4 H4 => ∃ m4 ρ4 h4, Ext W.K m H m4 H4 ∧ RelS W.K m4 H4 ρ4 σ4 ∧ W.R m4 H4 h4 ∧ whileL (ft c) (fb c) k ρ4 h4 = .ok fl h', fun σ4 H4 hN => ⟨k, Nat.lt_succ_self _, hN⟩, ?_⟩
        refine ⟨m3, ρ2, h3, f1, h4, rs2.ext x3, r3, e5, fun m4 H4 x4 r4 => ?_⟩
        have x5 : Ext W.K m H m4 H4 := (x2.trans x3).trans x4
        cases f1 with
        | nx ρ4 => exact fun σ4 rs4 => ⟨m4, ρ4, h4, x5, rs4, r4, e6⟩
        | ct ρ4 => exact fun σ4 rs4 => ⟨m4, ρ4, h4, x5, rs4, r4, e6⟩
        | bk ρ4 => cases e6; exact fun σ4 rs4 => q m4 H4 x5 r4 σ4 rs4
        | rt d4 => cases e6; exact fun v rv => q m4 H4 x5 r4 v rv
      · cases e4
        exact ⟨m2, ρ2, _, false, _, rs2, r2, e3, fun m3 H3 x3 r3 => iteF (q m3 H3 (x2.trans x3) r3 σ2 (rs2.ext x3))⟩

/-! ### comprehensions -/
def wipeE (ρ : Env) : List Nat → Env
  | [] => ρ
  | v :: vs => (wipeE ρ vs).set v none
theorem RelS.wipe {K : PySem.W.Frag} {ρ : Env} {σ : L2.St} (r : RelS K m H ρ σ) : ∀ vs : List Nat, RelS K m H (wipeE ρ vs) (L2.wipe σ vs)
  | [] => r
  | v :: vs => by
    have ih := r.wipe vs
    unfold wipeE L2.wipe
    refine ⟨by simp [ih.len], fun i d e => ?_⟩
    by_cases hi : v = i
    · subst hi
      by_cases hv : v < (wipeE ρ vs).length
      · rw [List.getElem?_set_self hv] at e; cases e
      · rw [List.getElem?_eq_none (by simpa using hv)] at e; cases e
    · rw [List.getElem?_set_ne hi] at e
      obtain ⟨w, h1, h2⟩ := ih.at_ i d e
      exact ⟨w, by rw [List.getElem?_set_ne hi]; exact h1, h2⟩
/-- the items made -/
def compL (tg : Tg) (ρ : Env) (tst elt : Env → AH → Out D) (src : Src) : List D → AH → Out (List D)
  | [], h => .ok [] h
  | x :: xs, h => match setT tg x ρ with
    | none => .bad
    | some ρ1 => (tst ρ1 h).bind fun b h1 => match b with
      | .bl true => (elt ρ1 h1).bind fun y h2 => if chk src h2 then (compL tg ρ tst elt src xs h2).bind fun ys h3 => .ok (y :: ys) h3 else .bad
      | .bl false => if chk src h1 then compL tg ρ tst elt src xs h1 else .bad
      | _ => .bad
theorem compL_len {tg : Tg} {ρ : Env} {tst elt : Env → AH → Out D} {src : Src} : ∀ {xs : List D} {h h' : AH} {ys : List D}, compL tg ρ tst elt src xs h = .ok ys h' → ys.length ≤ xs.length
  | [], h, h', ys, e => by cases e; exact Nat.le_refl _
  | x :: xs, h, h', ys, e => by
    unfold compL at e
    split at e
    · cases e
    · obtain ⟨b, h1, e1, e⟩ := Out.bind_ok e
      split at e
      · obtain ⟨y, h2, e2, e⟩ := Out.bind_ok e
        split at e
        · obtain ⟨zs, h3, e3, e⟩ := Out.bind_ok e
          cases e
          exact Nat.succ_le_succ (compL_len e3)
        · cases e
      · split at e
        · exact Nat.le_succ_of_le (compL_len e)
        · cases e
      · cases e
def eComp (it : SI) (own : List Nat) (tg : Tg) (tst elt : SE) : SE := fun c ρ h => (it c ρ h).bind fun p h1 =>
  if chk p.2 h1 && decide (p.1.length ≤ cap) then (compL tg (wipeE ρ own) (tst c) (elt c) p.2 p.1 h1).bind fun ys h2 => newL h2 ys else .bad
def eYes : SE := fun _ _ h => .ok (.bl true) h
theorem pts_yes : PTs X [] (tT W c eYes) := ⟨fun pins s σ H Q I ⟨m, ρ, h, b, h', rs, rh, e, q⟩ => by
  cases e
  exact pts_nil.run pins s σ H Q I (q.here rh)⟩
/-! the list at D written, which bears no number -/
section
variable {D : Addr} {acc : List V} {o : HO}
theorem Ext.behind {m' : List Addr} {H' : Hp} (x : Ext W.K m H m' H') (hD : H D = none) (hD' : H' D = some (.lst acc)) : Ext W.K m H m' (upd H' D o) := by
  refine ⟨x.pre, fun a xs q => sqT_upd ?_ ?_ (x.tup a xs q), fun a xs q => fzL_upd ?_ (x.fl a xs q), fun a u q k => ?_⟩
  · rw [hD']; intro _ z; cases z
  · rw [hD']; intro _ _ z; cases z
  · rw [hD']; intro _ _ z; cases z
  · obtain ⟨h1, h2⟩ := x.fr a u q k
    exact ⟨by rw [upd_ne (ne_of_none q hD)]; exact h1, h2⟩
theorem RDs.behind {ds : List Cw.D} {vs : List V} (hD' : H D = some (.lst acc)) (r : RDs W.K m H ds vs) : RDs W.K m (upd H D o) ds vs := by
  refine r.ext0 (fun _ _ q => q) (fun a xs q => sqT_upd ?_ ?_ q) (fun a xs q => fzL_upd ?_ q)
  · rw [hD']; intro _ z; cases z
  · rw [hD']; intro _ _ z; cases z
  · rw [hD']; intro _ _ z; cases z
theorem RD.behind {d : Cw.D} {v : V} (hD' : H D = some (.lst acc)) (r : RD W.K m H d v) : RD W.K m (upd H D o) d v := by
  refine r.ext0 (fun _ _ q => q) (fun a xs q => sqT_upd ?_ ?_ q) (fun a xs q => fzL_upd ?_ q)
  · rw [hD']; intro _ z; cases z
  · rw [hD']; intro _ _ z; cases z
  · rw [hD']; intro _ _ z; cases z
theorem RelH.behind (r : W.R m H h) (hD' : H D = some (.lst acc)) (hn : D ∉ m) : W.R m (upd H D o) h := by
  refine ⟨r.len, r.nd, fun k ob b e1 e2 => ?_⟩
  have q := r.ob k ob b e1 e2
  have hb : b ≠ D := fun z => hn (by rw [← z]; exact List.mem_of_getElem? e2)
  refine q.ext0 (fun _ _ q => q) (fun a xs q => sqT_upd ?_ ?_ q) (fun a xs q => fzL_upd ?_ q) fun c u hc hu => ?_
  · rw [hD']; intro _ z; cases z
  · rw [hD']; intro _ _ z; cases z
  · rw [hD']; intro _ _ z; cases z
  · rw [upd_ne]
    · exact hu
    · intro z
      rcases hc with hc | hc
      · exact hb (hc.symm.trans z)
      · rw [z, hD'] at hc; cases hc
/-- numbered now -/
theorem RelH.numD {ds : List Cw.D} (r : W.R m H h) (hD : H D = some (.lst acc)) (hn : D ∉ m) (rd : RDs W.K m H ds acc) : W.R (m ++ [D]) H (h ++ [.lst ds]) := by
  refine ⟨by simp [r.len], ?_, fun k ob b e1 e2 => ?_⟩
  · rw [List.nodup_append]
    refine ⟨r.nd, by simp, fun x hx y hy e => ?_⟩
    have : y = D := by simpa using hy
    subst this
    exact hn (e ▸ hx)
  · by_cases hk : k < h.length
    · rw [List.getElem?_append_left hk] at e1
      rw [List.getElem?_append_left (by rw [r.len]; exact hk)] at e2
      exact (r.ob k ob b e1 e2).ext0 pre_more (fun _ _ q => q) (fun _ _ q => q) fun _ _ _ hv => hv
    · have hk2 : k = h.length := by
        have := (List.getElem?_eq_some_iff.mp e1).1
        rw [List.length_append] at this
        simp at this
        omega
      subst hk2
      rw [List.getElem?_append_right (Nat.le_refl _)] at e1
      rw [List.getElem?_append_right (by rw [r.len]; exact Nat.le_refl _), r.len] at e2
      simp at e1 e2
      subst e1 e2
      exact ⟨acc, hD, rd.ext0 pre_more (fun _ _ q => q) (fun _ _ q => q)⟩
theorem Ext.numD {m' : List Addr} {H' : Hp} (x : Ext W.K m H m' H') (hD : H D = none) : Ext W.K m H (m' ++ [D]) H' :=
  ⟨fun k a q => pre_more k a (x.pre k a q), x.tup, x.fl, fun a u q k => by
    obtain ⟨h1, h2⟩ := x.fr a u q k
    refine ⟨h1, fun z => ?_⟩
    rcases List.mem_append.mp z with z | z
    · exact h2 z
    · exact ne_of_none q hD (by simpa using z)⟩
end
theorem wipe_wipe {vs : List Nat} {τ : L2.St} : L2.wipe (L2.wipe τ vs) vs = L2.wipe τ vs := by
  have key : ∀ (us : List Nat), (∀ u ∈ us, u ∈ vs) → L2.wipe (L2.wipe τ vs) us = L2.wipe τ vs := by
    intro us
    induction us with
    | nil => intro _; rfl
    | cons u us ih =>
      intro hu
      show (L2.wipe (L2.wipe τ vs) us).set u none = L2.wipe τ vs
      rw [ih fun z hz => hu z (List.mem_cons_of_mem _ hz)]
      apply List.ext_getElem?
      intro j
      by_cases hj : u = j
      · subst hj
        by_cases hl : u < (L2.wipe τ vs).length
        · rw [List.getElem?_set_self hl]
          cases q3 : (L2.wipe τ vs)[u]? with
          | none =>
            have := List.getElem?_eq_none_iff.mp q3
            omega
          | some o =>
            cases o with
            | none => rfl
            | some z => exact absurd (hu u List.mem_cons_self) (wipe_some q3).2
        · rw [List.getElem?_eq_none (by simpa using hl), List.getElem?_eq_none (by omega)]
      · rw [List.getElem?_set_ne hj]
  exact key vs fun _ hu => hu
/-- between two turns of a comprehension -/
def CInv (W : Wk) (m1 : List Addr) (H1 : Hp) (D : Addr) (src : Src) (go : List Cw.D → AH → Out (List Cw.D)) (its ys : List Cw.D) (h2 : AH) (i : Nat) (H2 : Hp) : Prop :=
  ∃ m2 h3 done rest acc, Ext W.K m1 H1 m2 H2 ∧ W.R m2 H2 h3 ∧ chk src h3 = true ∧ H2 D = some (.lst acc) ∧ D ∉ m2 ∧ RDs W.K m2 H2 done acc ∧ done.length ≤ i ∧ go (its.drop i) h3 = .ok rest h2 ∧ ys = done ++ rest
theorem comp_red {fi : SI} {own : List Nat} {t : Tg} {ft fel : SE} (hown : ∀ i ∈ t.ix, i ∈ own) {σ : L2.St} {H : Hp} {Q : VK} (w : tE W c (eComp fi own t ft fel) σ H Q) :
    tLc (tI W c fi) (gT W.K t) (tT W c ft) (tE W c fel) own σ H Q := by
  obtain ⟨m, ρ, h, d, h', rs, rh, e, q⟩ := w
  obtain ⟨p, h1, e1, e⟩ := Out.bind_ok e
  split at e
  · rename_i hc
    rw [Bool.and_eq_true, decide_eq_true_eq] at hc
    obtain ⟨its, src⟩ := p
    obtain ⟨ys, h2, e2, e⟩ := Out.bind_ok e
    refine ⟨m, ρ, h, (its, src), h1, rs, rh, e1, hc.1, fun m1 H1 x1 r1 J wk D hD => ?_⟩
    have hcap : its.length ≤ cap := hc.2
    have hout : ∀ {m0 : List Addr} {H0 : Hp} {h0 : AH}, W.R m0 H0 h0 → H0 D = none → D ∉ m0 := fun r0 hd z => by
      obtain ⟨i, hi⟩ := List.getElem?_of_mem z
      obtain ⟨u, hu, _⟩ := r0.there hi
      rw [hd] at hu; cases hu
    refine ⟨fun i k H2 => k = its.length - i ∧ i ≤ its.length ∧ CInv W m1 H1 D src (compL t (wipeE ρ own) (ft c) (fel c) src) its ys h2 i H2, ⟨its.length, rfl, Nat.zero_le _, ?_⟩, ?_⟩
    · exact ⟨m1, h1, [], ys, [], Ext.new hD, r1.new hD, hc.1, upd_same, hout r1 hD, .nil, Nat.zero_le _, e2, rfl⟩
    · rintro i k H2 ⟨rfl, hle, m2, h3, done, rest, acc, x2, r2, c2, hD2, hn2, rd2, hdl, e3, hys⟩
      by_cases hlt : i < its.length
      · right
        refine ⟨wk.goes i m2 H2 h3 x2 r2 c2 hlt, CInv W m1 H1 D src (compL t (wipeE ρ own) (ft c) (fel c) src) its ys h2 (i + 1), fun H4 hN => ⟨its.length - (i + 1), by omega, rfl, hlt, hN⟩, fun x H' y => ?_⟩
        obtain ⟨y1, y2, d1, hd, rd⟩ := wk.yields i m2 H2 h3 x H' x2 r2 c2 hlt y
        obtain ⟨hD3, hn3⟩ := y1.fr _ _ hD2 hn2
        have hdrop : its.drop i = d1 :: its.drop (i + 1) := by
          rw [List.drop_eq_getElem_cons hlt]
          rw [List.getElem?_eq_getElem hlt] at hd
          rw [Option.some.inj hd]
        rw [hdrop] at e3
        unfold compL at e3
        split at e3
        · cases e3
        · rename_i ρ1 hρ
          obtain ⟨b, h4, e4, e5⟩ := Out.bind_ok e3
          refine gT_ok ((rs.ext (x1.trans (x2.trans y1))).wipe own) rd hρ fun σ3 rs3 hw => ⟨by rw [hw own hown, wipe_wipe], ?_⟩
          split at e5
          · refine ⟨m2, ρ1, h3, true, h4, rs3, y2, e4, fun m5 H5 x5 r5 => iteT ?_⟩
            obtain ⟨hD5, hn5⟩ := x5.fr _ _ hD3 hn3
            obtain ⟨yv, h5, e6, e7⟩ := Out.bind_ok e5
            split at e7
            · rename_i c5
              obtain ⟨zs, h6, e8, e9⟩ := Out.bind_ok e7
              cases e9
              refine ⟨m5, ρ1, h4, yv, h5, rs3.ext x5, r5, e6, fun m6 H6 x6 r6 yV ry => ?_⟩
              obtain ⟨hD6, hn6⟩ := x6.fr _ _ hD5 hn5
              have rd6 := rd2.ext (y1.trans (x5.trans x6))
              refine ⟨acc, hD6, cap_lt (by rw [← rd6.length]; unfold cap at *; omega), m6, h5, done ++ [yv], zs, acc ++ [yV], (x2.trans (y1.trans (x5.trans x6))).behind hD hD6, r6.behind hD6 hn6, c5, upd_same, hn6, ?_, by simp; omega, e8, by rw [hys, List.append_assoc]; rfl⟩
              exact (rd6.behind hD6).append (.cons (ry.behind hD6) .nil)
            · cases e7
          · refine ⟨m2, ρ1, h3, false, h4, rs3, y2, e4, fun m5 H5 x5 r5 => iteF ?_⟩
            obtain ⟨hD5, hn5⟩ := x5.fr _ _ hD3 hn3
            split at e5
            · rename_i c5
              exact ⟨m5, h4, done, rest, acc, x2.trans (y1.trans x5), r5, c5, hD5, hn5, rd2.ext (y1.trans x5), by omega, e5, hys⟩
            · cases e5
          · cases e5
      · left
        have hi2 : i = its.length := by omega
        subst hi2
        rw [List.drop_length] at e3
        cases e3
        rw [List.append_nil] at hys
        subst hys
        refine ⟨wk.stops m2 H2 h2 x2 r2 c2, ?_⟩
        cases e
        exact q _ H2 (x1.trans (x2.numD hD)) (r2.numD hD2 hn2 rd2) _ (.ob (by rw [List.getElem?_append_right (by rw [r2.len]; exact Nat.le_refl _), r2.len]; simp))
  · cases e
end
end Cw

end

section
/-! x[::-1], sorted, isinstance, calls of defs, over trees. -/
namespace Cw
open PySem PySem.Spec PyProof.Rows L2 HT

/-! ### t[::-1] of a tuple -/
section
variable {prog : Program} {w : World} {A : Around} {E : Value → Shared → Prop} {s : Shared}
theorem applied_back {sl : Addr} {t : Tok} {n : Nat} {Q : Int × Int × Nat → Shared → Prop} (hs : s.heap.IsSliceOf sl .none .none (.int (-1) t)) (h : Q ((n : Int) - 1, -1, n) s) : wpAny (model prog w) A (Builtin.Slice.sliceApplied (.ref sl) (pure (n : Int))) Q E s := by
  obtain ⟨os, hos, hcs, hds⟩ := id hs
  unfold Builtin.Slice.sliceApplied Builtin.Slice.sliceFields
  refine wpAny_bind (wpAny_bind (wpAny_field hos hds (x := .none) rfl (wpAny_bind (wpAny_field hos hds (x := .none) rfl (wpAny_bind (wpAny_field hos hds (x := .int (-1) t) rfl (wpAny_pure ?_)))))))
  refine wpAny_bind (slicePart_int ?_)
  show wpAny _ _ (if ((-1 : Int) == 0) = true then _ else _) _ _ s
  rw [if_neg (by decide)]
  refine wpAny_bind (slicePart_none (wpAny_bind (slicePart_none (wpAny_bind (wpAny_pure ?_)))))
  show wpAny _ _ (pure ((n : Int) - 1, (-1 : Int), Builtin.Slice.slicePlaces ((n : Int) - 1) (-1) (-1))) _ _ s
  have e : Builtin.Slice.slicePlaces ((n : Int) - 1) (-1) (-1) = n := by
    unfold Builtin.Slice.slicePlaces
    rw [if_neg (by decide)]
    have e1 : (-(-1 : Int)) = 1 := by decide
    rw [e1, Int.ediv_one]
    split <;> omega
  rw [e]
  exact wpAny_pure h
theorem fm_congr {α β : Type} {f g : α → Option β} : ∀ {l : List α}, (∀ x ∈ l, f x = g x) → l.filterMap f = l.filterMap g
  | [], _ => rfl
  | a :: l, h => by
    rw [List.filterMap_cons, List.filterMap_cons, h a List.mem_cons_self, fm_congr fun x hx => h x (List.mem_cons_of_mem _ hx)]
theorem fm_get {α : Type} : ∀ ys : List α, (List.range ys.length).filterMap (fun k => ys[k]?) = ys
  | [] => rfl
  | y :: ys => by
    rw [List.length_cons, List.range_succ_eq_map, List.filterMap_cons]
    show y :: ((List.range ys.length).map Nat.succ).filterMap (fun k => (y :: ys)[k]?) = y :: ys
    rw [List.filterMap_map]
    exact congrArg _ (fm_get ys)
theorem pick_back (xs : List Value) : ((List.range xs.length).filterMap fun (k : Nat) => xs.toArray[(((xs.length : Int) - 1) + (k : Int) * (-1)).toNat]?) = xs.reverse := by
  have e : ∀ k ∈ List.range xs.length, xs.toArray[(((xs.length : Int) - 1) + (k : Int) * (-1)).toNat]? = xs.reverse[k]? := fun k hk => by
    have hk := List.mem_range.mp hk
    rw [List.getElem?_toArray, List.getElem?_reverse hk]
    congr 1
    omega
  rw [fm_congr e]
  have := fm_get xs.reverse
  rw [List.length_reverse] at this
  exact this
theorem getItem_back {t sl : Addr} {xs : List Value} {k : Tok} {Q : Value → Shared → Prop} (ht : IsTup s.heap t xs.toArray) (hs : s.heap.IsSliceOf sl .none .none (.int (-1) k)) (hz : xs.length ≤ sizeLine)
    (h : Q (.ref s.heap.objs.size) { s with heap := s.heap.push { cls := .type "tuple", data := .seq xs.reverse.toArray } }) : wpAny (model prog w) A (getItem (.ref t) (.ref sl)) Q E s := by
  have htake : sizeOk (.seq xs.reverse.toArray) := by
    show xs.reverse.toArray.size ≤ sizeLine
    rw [List.size_toArray, List.length_reverse]
    exact hz
  obtain ⟨os, hos, hcs, hds⟩ := id hs
  have hTs : s.TypeIs (.ref sl) "slice" := ⟨os, hos, hcs⟩
  unfold getItem
  try with_reducible refine wpAny_holding ?_
  first | refine wpAny_bind (wpAny_pure ?_) | skip
  refine wpAny_bind (wpAny_sequenceKey ht.typeIs (by decide) ?_)
  refine wpAny_bind (wpAny_callSpecial?_slot (name := Str.ofString "__getitem__") ht.typeIs PyProof.Rows.slot_tuple_getitem
    (wpAny_call_entry PyProof.Rows.slot_tuple_getitem ht.typeIs entry_tuple_getitem ?_ (args_tuple_getitem _ _)))
  show wpAny _ _ (Builtin.Tuple.tupleItemsOf (.ref t) >>= _) _ _ s
  refine wpAny_bind (tupleItemsOf_ ht ?_)
  refine wpAny_bind (wpAny_typeOf hTs ?_)
  rw [if_pos (by decide)]
  have e0 : xs.toArray.size = xs.length := List.size_toArray ..
  rw [e0]
  refine wpAny_bind (applied_back hs ?_)
  have hno : ¬ ((((xs.length : Int) - 1) == 0 && (-1 : Int) == 1 && xs.length == xs.length) = true) := by
    have : ((-1 : Int) == 1) = false := by decide
    rw [this, Bool.and_false, Bool.false_and]
    exact Bool.false_ne_true
  show wpAny _ _ (if (((xs.length : Int) - 1) == 0 && (-1 : Int) == 1 && xs.length == xs.length) = true then _ else _) _ _ s
  rw [if_neg hno, pick_back]
  first
    | exact wpAny_bind (m := Builtin.Tuple.tupleExact _) (wpAny_newObj_type (wpAny_pure ⟨_, rfl, wpAny_pure h⟩) htake)
    | exact wpAny_bind (wpAny_bind (m := Builtin.Tuple.tupleExact _) (wpAny_newObj_type (wpAny_pure ⟨_, rfl, wpAny_pure h⟩) htake))
end
def tRevA (K : PySem.W.Frag) (te : TE) : TE := fun σ H Q => te σ H fun x H1 => ∃ a xs, x = .ref a ∧ ((SqL K H1 a xs ∧ ∀ p, H1 p = none → Q (.ref p) (upd H1 p (.lst xs.reverse))) ∨ (SqT K H1 a xs ∧ ∀ p, H1 p = none → Q (.ref p) (upd H1 p (.tup xs.reverse))))
theorem pe_revA {X : Cx} {e : Expr} {te : TE} {k : Nat} {p1 p2 p3 pos : Pos} (he : PE X e te) : PE X (.Subscript e (.Slice none none (some (.UnaryOp .USub (.Constant (.int 1) k p1) p2)) p3) pos) (tRevA X.K te) := by
  refine ⟨fun pins s σ H Q I h => ?_⟩
  refine Subscript_ (thn (he.run pins s σ H _ I h) fun v s1 ⟨x, H1, I1, r1, q1⟩ => ?_)
  obtain ⟨a, xs, ex, q⟩ := q1
  subst ex
  cases r1
  have hst : PO X (some (.UnaryOp .USub (.Constant (.int 1) k p1) p2)) (tPart (tUn (rU fun i => .int (-i)) (tC (.int 1)))) := po_some (pe_un un_neg pe_int)
  refine wpAny_Slice (thn (po_none.run pins s1 σ H1 (fun o H2 => o = none ∧ H2 = H1) I1 ⟨rfl, rfl⟩) fun vl s2 ⟨l, H2, I2, pl, el, e2⟩ => ?_)
  subst el e2
  refine thn (po_none.run pins s2 σ H2 (fun o H3 => o = none ∧ H3 = H2) I2 ⟨rfl, rfl⟩) fun vu s3 ⟨u, H3, I3, pu, eu, e3⟩ => ?_
  subst eu e3
  refine thn (hst.run pins s3 σ H3 (fun o H4 => o = some (-1) ∧ H4 = H3) I3 ⟨1, rfl, -1, rfl, rfl, rfl⟩) fun vs s4 ⟨o, H4, I4, ps, eo, e4⟩ => ?_
  subst eo e4
  have I5 : Inv X pins σ H4 { s4 with heap := s4.heap.push { cls := .type "slice", data := .fields #[vl, vu, vs] } } := I4.kept (t' := s4.toks) fun b ob q => Heap.get?_push_of_some _ q
  show wpAny (model X.prog X.w) X.A (subscriptTail e (.Slice none none (some (.UnaryOp .USub (.Constant (.int 1) k p1) p2)) p3) (.ref a) (.ref s4.heap.objs.size)) (EP X pins σ Q) X.xe { s4 with heap := s4.heap.push { cls := .type "slice", data := .fields #[vl, vu, vs] } }
  rcases q with ⟨hx, q⟩ | ⟨hx, q⟩
  · obtain ⟨its, r, ht, hz⟩ := I5.list hx
    have hlen := r.length
    refine tail_any (ops := [.ref a, .ref s4.heap.objs.size]) ht.isList.typeIs (PySem.slot_list_getitem.lookup) ?_ (by with_unfolding_all rfl)
    refine wpAny_getItem_list_slice ht.isList (Heap.IsSliceOf.new _ vl vu vs) pl pu ps (by decide) ?_ (by rw [List.size_toArray]; omega)
    rw [PySem.W.krv_pick]
    refine ⟨.ref _, _, I5.laid (t' := s4.toks) (o := .lst xs.reverse) (fun b ob q => Heap.get?_push_of_some _ q) (Nat.le_refl _) ?_, rfl, q _ (I5.hok.fresh (Nat.le_refl _))⟩
    exact ⟨by rw [List.length_reverse]; exact hz, _, 0, r.reverse, Heap.get?_push_size _ rfl⟩
  · obtain ⟨its, r, ht, hz⟩ := I5.tuple hx
    have hlen := r.length
    refine tail_any (ops := [.ref a, .ref s4.heap.objs.size]) ht.typeIs (PyProof.Rows.slot_tuple_getitem.lookup) ?_ (by with_unfolding_all rfl)
    cases pl
    cases pu
    cases ps
    refine getItem_back ht (Heap.IsSliceOf.new _ _ _ _) (by omega) ?_
    refine ⟨.ref _, _, I5.laid (t' := s4.toks) (o := .tup xs.reverse) (fun b ob q => Heap.get?_push_of_some _ q) (Nat.le_refl _) ?_, rfl, q _ (I5.hok.fresh (Nat.le_refl _))⟩
    exact ⟨by rw [List.length_reverse]; exact hz, _, r.reverse, IsTup.new _ _⟩
def revD : D → AH → Out D := fun x h => match x with
  | .tup ds => .ok (.tup ds.reverse) h
  | x => match getL h x with
    | some ds => newL h ds.reverse
    | none => .bad
section
variable {W : Wk} {n : Nat} {X : Cx} {c : CallF} {m : List Addr} {H : Hp} {h : AH} {e : Expr} {fe : SE} {pos : Pos}
theorem de_rev {k : Nat} {p1 p2 p3 : Pos} (C : Cok W n X) (he : DE W c X e fe) : DE W c X (.Subscript e (.Slice none none (some (.UnaryOp .USub (.Constant (.int 1) k p1) p2)) p3) pos) (eUn revD fe) :=
  PE.imp (pe_revA he) fun σ H Q ⟨m, ρ, h, d, h', rs, rh, e, q⟩ => by
    obtain ⟨x, h1, e1, e⟩ := Out.bind_ok e
    refine ⟨m, ρ, h, x, h1, rs, rh, e1, fun m1 H1 x1 r1 v rv => ?_⟩
    unfold revD at e
    split at e
    · cases e
      obtain ⟨a, xs, rfl, hx, rx⟩ := rv.tup_inv
      exact ⟨a, xs, rfl, .inr ⟨by rw [C.K]; exact hx, wish_tup r1 rx.reverse (q.from x1)⟩⟩
    · split at e
      · rename_i ds hd
        obtain ⟨a, xs, rfl, hx, rx⟩ := getL_ok r1 rv hd
        exact ⟨a, xs, rfl, .inl ⟨by rw [C.K]; exact hx, wish_newL r1 e rx.reverse (q.from x1)⟩⟩
      · cases e

/-! ### sorted -/
def leS (a b : D) : Bool := !PySem.W.dataLt (toP b) (toP a)
def ins (a : D) : List D → List D
  | [] => [a]
  | b :: l => if leS a b then a :: b :: l else b :: ins a l
def isort : List D → List D
  | [] => []
  | a :: l => ins a (isort l)
theorem leS_eq : leS = PySem.W.dataLe false toP := rfl
theorem leS_total : PySem.W.TotalLe leS := by
  rw [leS_eq]
  exact PySem.W.sortLe_total _ _ _
theorem ins_mid : ∀ {l₁ l₂ : List D} {a : D}, (∀ b, b ∈ l₁ → (!leS a b) = true) → (∀ b ∈ l₂, leS a b = true) → ins a (l₁ ++ l₂) = l₁ ++ a :: l₂
  | [], [], a, _, _ => rfl
  | [], b :: l, a, _, h => by
    show (if leS a b then a :: b :: l else b :: ins a l) = a :: b :: l
    rw [if_pos (h b List.mem_cons_self)]
  | b :: l, l₂, a, h, k => by
    show (if leS a b then a :: b :: (l ++ l₂) else b :: ins a (l ++ l₂)) = b :: (l ++ a :: l₂)
    have := h b List.mem_cons_self
    rw [if_neg (by intro q; rw [q] at this; cases this), ins_mid (fun c hc => h c (List.mem_cons_of_mem _ hc)) k]
theorem isort_eq : ∀ l : List D, isort l = l.mergeSort leS
  | [] => by simp [isort]
  | a :: l => by
    have tr : ∀ a b c : D, leS a b = true → leS b c = true → leS a c = true := leS_total.trans
    have to : ∀ a b : D, (leS a b || leS b a) = true := fun a b => by
      rcases leS_total.total a b with h | h <;> simp [h]
    obtain ⟨l₁, l₂, h1, h2, h3⟩ := List.mergeSort_cons tr to a l
    rw [isort, isort_eq l, h2, h1]
    have hp := List.pairwise_mergeSort tr to (a :: l)
    rw [h1] at hp
    have h4 := (List.pairwise_append.mp hp).2.1
    exact ins_mid h3 fun b hb => (List.pairwise_cons.mp h4).1 b hb
theorem isort_perm (l : List D) : (isort l).Perm l := by rw [isort_eq]; exact List.mergeSort_perm _ _
theorem isort_sorted (l : List D) : (isort l).Pairwise fun a b => leS a b = true := by
  rw [isort_eq]
  exact List.pairwise_mergeSort leS_total.trans (fun a b => by
    rcases leS_total.total a b with h | h <;> simp [h]) l
def tupNE : D → Bool
  | .tup (_ :: _) => true
  | _ => false
def plainK : D → Bool
  | .int _ => true
  | .str _ => true
  | .bl _ => true
  | _ => false
def alikeS (ds : List D) : Bool := ds.all fun x => ds.all fun y => PySem.W.alike (toP x) (toP y)
def sortOk (ds : List D) : Bool := okNs 60 ds && (alikeS ds && ((ds.all tupNE || ds.all plainK) && decide (ds.length ≤ cap)))
theorem sortOk_ints (l : List Int) (h : l.length ≤ cap) : sortOk (l.map D.int) = true := by
  have h1 : okNs 60 (l.map D.int) = true := by
    clear h
    induction l with
    | nil => rfl
    | cons a l ih => rw [List.map_cons, okNs, ih]; rfl
  have h2 : alikeS (l.map D.int) = true := by
    unfold alikeS
    simp only [List.all_map, List.all_eq_true, Function.comp]
    intro x _ y _
    simp [toP, PySem.W.alike]
  have h3 : (l.map D.int).all plainK = true := by
    simp [List.all_map, plainK]
  unfold sortOk
  rw [h1, h2, h3, List.length_map, decide_eq_true h, Bool.or_true]
  rfl
def bSorted : List D → AH → Out D := fun ds h => match ds with
  | [x] => match getL h x with
    | some xs => if sortOk xs then newL h (isort xs) else .bad
    | none => .bad
  | _ => .bad
theorem each_of {H : Hp} {s : Shared} {pins : List (Addr × Obj)} {σ : L2.St} {K : PySem.W.Frag} (hK : X.K = K) (I : Inv X pins σ H s) : ∀ {ds : List D} {vs : List V} {us : List Value} {k : Nat}, RDs K m H ds vs → Vals vs us → okNs k ds = true →
    PySem.W.EachIs (fun u d => ∃ v, RD K m H d v ∧ RelV v u) us ds ∧ PySem.W.EachIs (fun v b => ∃ as, Reads s.heap v (toP b) as) us ds
  | [], _, _, _, .nil, .nil, _ => ⟨.nil, .nil⟩
  | d :: ds, _, _, k, .cons h t, .cons r q, e => by
    rw [okNs, Bool.and_eq_true] at e
    obtain ⟨i1, i2⟩ := each_of hK I t q e.2
    obtain ⟨p1, _, _⟩ := h.dp e.1
    rw [← hK] at p1
    obtain ⟨as, ra⟩ := Dp.reads I _ _ _ p1 r
    exact ⟨.cons ⟨_, h, r⟩ i1, .cons ⟨as, ra⟩ i2⟩
theorem each_back {K : PySem.W.Frag} : ∀ {us : List Value} {ds : List D}, PySem.W.EachIs (fun u d => ∃ v, RD K m H d v ∧ RelV v u) us ds → ∃ vs, RDs K m H ds vs ∧ Vals vs us
  | _, _, .nil => ⟨[], .nil, .nil⟩
  | _, _, .cons ⟨v, h, r⟩ t => by
    obtain ⟨vs, h2, r2⟩ := each_back t
    exact ⟨v :: vs, .cons h h2, .cons r r2⟩
theorem okNs_mem : ∀ {ds : List D} {k : Nat} {d : D}, okNs k ds = true → d ∈ ds → okN k d = true
  | [], _, _, _, h => by cases h
  | x :: ds, k, d, e, h => by
    rw [okNs, Bool.and_eq_true] at e
    rcases List.mem_cons.mp h with q | q
    · rw [q]; exact e.1
    · exact okNs_mem e.2 q
theorem RDs.mem {K : PySem.W.Frag} : ∀ {ds : List D} {vs : List V} {d : D}, RDs K m H ds vs → d ∈ ds → ∃ v, RD K m H d v
  | _ :: _, _, _, .cons h t, q => by
    rcases List.mem_cons.mp q with e | q
    · rw [e]; exact ⟨_, h⟩
    · exact t.mem q
  | [], _, _, _, q => by cases q
theorem sorted_ok (C : Cok W n X) : CallR X (.builtin "sorted") (tVn W bSorted) := by
  intro pins s σ H xs us Q I rx ⟨m, h, ds, d, h', r, ax, e, q⟩
  unfold bSorted at e
  split at e
  · split at e
    · rename_i ys hy
      split at e
      · rename_i hso
        unfold sortOk at hso
        simp only [Bool.and_eq_true, decide_eq_true_eq] at hso
        obtain ⟨hok, hal, hkd, hlen⟩ := hso
        obtain ⟨v, rfl, rv⟩ := ax.one_inv
        obtain ⟨a, zs, rfl, hz, rr⟩ := getL_ok r rv hy
        rw [← C.K] at hz
        obtain ⟨its, rvs, hl, hcl⟩ := I.list hz
        rw [Vals.ref1 rx]
        obtain ⟨e1, e2⟩ := each_of C.K I rr rvs hok
        have hroom := C.room.un
        refine PySem.W.sorted_data (enc := toP) (R := fun u d => ∃ v, RD W.K m H d v ∧ RelV v u) hl.isList e1 e2 ?_ ?_ (cap_le hlen) ?_ fun out hol ho => ?_
        · intro d hd d' hd'
          obtain ⟨x, hx, rfl⟩ := List.mem_map.mp hd
          obtain ⟨y, hy', rfl⟩ := List.mem_map.mp hd'
          exact List.all_eq_true.mp (List.all_eq_true.mp hal x hx) y hy'
        · rw [Bool.or_eq_true] at hkd
          rcases hkd with hk | hk
          · refine .inl fun d hd => ?_
            obtain ⟨x, hx, rfl⟩ := List.mem_map.mp hd
            have := List.all_eq_true.mp hk x hx
            cases x with
            | tup l => cases l with
              | nil => cases this
              | cons b l => exact ⟨toP b, toPs l, by rw [toP, toPs]⟩
            | _ => cases this
          · refine .inr fun d hd => ?_
            obtain ⟨x, hx, rfl⟩ := List.mem_map.mp hd
            have := List.all_eq_true.mp hk x hx
            cases x <;> first | (simp [plainK] at this; done) | (simp only [toP]; exact ⟨fun z => (by cases z), fun _ z => (by cases z)⟩)
        · intro b hb
          obtain ⟨w0, hw0⟩ := rr.mem hb
          have := (hw0.dp (okNs_mem hok hb)).2.2
          omega
        · rw [← leS_eq, ← isort_eq] at ho
          obtain ⟨ws, hws, rws⟩ := each_back ho
          obtain ⟨ep, he'⟩ := PyProof.Rows.sortedAll_at s.heap its out.toArray
          have hlw : ws.length ≤ sizeLine := by
            rw [rws.length, hol]
            exact cap_le hlen
          refine ⟨.ref _, upd H (s.heap.objs.size + 1) (.lst ws), I.laid (t' := s.toks) (fun _ _ => PyProof.Rows.sortedAll_old) (Nat.le_succ _) ⟨hlw, out, ep, rws, he'⟩, rfl, wish_newL r e hws q _ (I.hok.fresh (Nat.le_succ _))⟩
      · cases e
    · cases e
  · cases e
end
end Cw

end

section
/-! What of the text the rules ask; slices, isinstance, calls, comprehensions. -/
namespace Cw
open PySem PySem.Spec PyProof.Rows L2 C8

/-! ### looks at the text -/
def starB : Expr → Bool
  | .Starred .. => true
  | _ => false
def noStar (es : List Expr) : Bool := es.all fun e => !starB e
theorem star_cons {e : Expr} {es : List Expr} {env : PySem.Env} (h : starB e = false) : starEach (e :: es) env = (false, eval e env) :: starEach es env := by
  cases e <;> first | rfl | cases h
theorem noStar_cons {e : Expr} {es : List Expr} (h : noStar (e :: es) = true) : starB e = false ∧ noStar es = true := by
  unfold noStar at h
  rw [List.all_cons, Bool.and_eq_true, Bool.not_eq_true'] at h
  exact h
theorem stars_plain {pos : Pos} {env : PySem.Env} : ∀ {es : List Expr}, noStar es = true → (backTo pos (starEach es env)).any (·.1) = false
  | [], _ => rfl
  | e :: es, h => by
    obtain ⟨h1, h2⟩ := noStar_cons h
    rw [star_cons h1]
    show (false || (backTo pos (starEach es env)).any (·.1)) = false
    rw [stars_plain h2]; rfl
theorem stars_all {pos : Pos} {env : PySem.Env} : ∀ {es : List Expr}, noStar es = true → (backTo pos (starEach es env)).all (fun x => !x.1) = true
  | [], _ => rfl
  | e :: es, h => by
    obtain ⟨h1, h2⟩ := noStar_cons h
    rw [star_cons h1]
    show (true && (backTo pos (starEach es env)).all (fun x => !x.1)) = true
    rw [stars_all h2]; rfl
def nameCall : Expr → Bool
  | .Call (.Name _ _) [] [] _ => true
  | _ => false
theorem abase {o : Expr} {x : Str} {env : PySem.Env} (h : nameCall o = false) : attributeBase o x env (eval o env) = eval o env := by
  unfold attributeBase
  split
  · cases h
  · rfl
def sliceB : Expr → Bool
  | .Slice .. => true
  | _ => false
theorem plainIx {b : Expr} (h : sliceB b = false) : PlainIx b := by
  intro o i
  unfold subscripted
  cases b <;> first | rfl | cases h
def setB : Expr → Bool
  | .Set .. => true
  | _ => false
theorem notFolded {e : Expr} {env : PySem.Env} (h : setB e = false) : ∀ x, foldedSetIterable e env x = pure x := by
  intro x
  unfold foldedSetIterable
  cases e <;> first | rfl | cases h
def compB : Expr → Bool
  | .ListComp .. => true
  | .SetComp .. => true
  | .DictComp .. => true
  | _ => false
theorem noSwap {e : Expr} {t : Option Expr} {l : Nat} {env : PySem.Env} (h : compB e = false) : swapsWith e t l env = pure false := by
  unfold swapsWith
  cases e <;> first | rfl | cases h
def boolB : Expr → Bool
  | .UnaryOp .Not _ _ => true
  | .BoolOp _ _ _ => true
  | .IfExp _ _ _ _ => true
  | .Compare _ _ _ _ => true
  | _ => false
theorem plainTest {e : Expr} {env : PySem.Env} (h : boolB e = false) : ∀ whole, isTrue e env whole = (do let v ← whole; standAt e.pos; holding [v] (truthy v)) := by
  intro whole
  cases e with
  | UnaryOp op a p => cases op <;> first | rfl | cases h
  | BoolOp _ _ _ => cases h
  | IfExp _ _ _ _ => cases h
  | Compare _ _ _ _ => cases h
  | _ => rfl

section
variable {W : Wk} {n : Nat} {X : Cx} {c : CallF} {m : List Addr} {H : Hp} {h : AH} {e : Expr} {es : List Expr} {fe : SE} {fr : SA} {p pos apos cpos : Pos} {x : Str}

/-! ### slices -/
abbrev SO := CallF → Env → AH → Out (Option Int)
def oNone : SO := fun _ _ h => .ok none h
def oSome (f : SE) : SO := fun c ρ h => (f c ρ h).bind fun d h1 => match d with
  | .int i => .ok (some i) h1
  | _ => .bad
def tO (W : Wk) (c : CallF) (f : SO) : TO := fun σ H Q => ∃ m ρ h o h', RelS W.K m H ρ σ ∧ W.R m H h ∧ f c ρ h = .ok o h' ∧ Wish W m H h' fun _ H' => Q o H'
theorem PO.imp {e : Option Expr} {t u : TO} (h : PO X e t) (k : ∀ σ H Q, u σ H Q → t σ H Q) : PO X e u := ⟨fun pins s σ H Q I q => h.run pins s σ H Q I (k σ H Q q)⟩
theorem do_none : PO X none (tO W c oNone) := PO.imp po_none fun σ H Q ⟨m, ρ, h, o, h', rs, rh, e, q⟩ => by
  cases e
  exact q.here rh
theorem do_some (he : DE W c X e fe) : PO X (some e) (tO W c (oSome fe)) := PO.imp (po_some he) fun σ H Q ⟨m, ρ, h, o, h', rs, rh, e, q⟩ => by
  obtain ⟨d, h1, e1, e⟩ := Out.bind_ok e
  split at e
  · cases e
    exact ⟨m, ρ, h, _, _, rs, rh, e1, fun m1 H1 x1 r1 v rv => ⟨_, rv.int_inv, q m1 H1 x1 r1⟩⟩
  · cases e
def eSl (f : SE) (lo hi : SO) : SE := fun c ρ h => (f c ρ h).bind fun x h1 => (lo c ρ h1).bind fun l h2 => (hi c ρ h2).bind fun u h3 => slD x l u h3
theorem de_sl {lo hi : Option Expr} {fl fh : SO} {p2 : Pos} (C : Cok W n X) (he : DE W c X e fe) (hl : PO X lo (tO W c fl)) (hh : PO X hi (tO W c fh)) : DE W c X (.Subscript e (.Slice lo hi none p2) pos) (eSl fe fl fh) :=
  PE.imp (pe_slice (sl_ok C) he hl hh) fun σ H Q ⟨m, ρ, h, d, h', rs, rh, e, q⟩ => by
    obtain ⟨x, h1, e1, e⟩ := Out.bind_ok e
    obtain ⟨l, h2, e2, e⟩ := Out.bind_ok e
    obtain ⟨u, h3, e3, e⟩ := Out.bind_ok e
    refine ⟨m, ρ, h, x, h1, rs, rh, e1, fun m1 H1 x1 r1 v rv => ?_⟩
    refine ⟨m1, ρ, h1, l, h2, rs.ext x1, r1, e2, fun m2 H2 x2 r2 => ?_⟩
    refine ⟨m2, ρ, h2, u, h3, rs.ext (x1.trans x2), r2, e3, fun m3 H3 x3 r3 => ?_⟩
    exact ⟨m3, h3, x, d, h', r3, rv.ext (x2.trans x3), e, q.from ((x1.trans x2).trans x3)⟩
theorem de_ix {a b : Expr} {fa fb : SE} (C : Cok W n X) (ha : DE W c X a fa) (hb : DE W c X b fb) (hs : PlainIx b) : DE W c X (.Subscript a b pos) (eBin ixD fa fb) :=
  PE.imp (pe_ix (ix_ok C) ha hb hs) fun σ H Q ⟨m, ρ, h, d, h', rs, rh, e, q⟩ => by
    obtain ⟨x, h1, e1, e⟩ := Out.bind_ok e
    obtain ⟨y, h2, e2, e⟩ := Out.bind_ok e
    refine ⟨m, ρ, h, x, h1, rs, rh, e1, fun m1 H1 x1 r1 u ru => ?_⟩
    refine ⟨m1, ρ, h1, y, h2, rs.ext x1, r1, e2, fun m2 H2 x2 r2 v rv => ?_⟩
    exact ⟨m2, h2, x, y, d, h', r2, ru.ext x2, rv, e, q.from (x1.trans x2)⟩

/-! ### isinstance -/
def tyD (h : AH) : D → Option String
  | .non => some "NoneType"
  | .bl _ => some "bool"
  | .int _ => some "int"
  | .str _ => some "str"
  | .txt _ => some "str"
  | .tup _ => some "tuple"
  | .fl _ => some "list"
  | .ob n => match h[n]? with
    | some (.lst _) => some "list"
    | _ => none
theorem tyD_ok {d : D} {v : V} {t : String} (r : W.R m H h) (rd : RD W.K m H d v) (e : tyD h d = some t) : TyX W.K H v (.type t) := by
  cases rd with
  | non => cases e; exact .base .non
  | bl b => cases e; exact .base (.bl b)
  | int i => cases e; exact .base (.int i)
  | str z => cases e; exact .base (.str _)
  | txt z => cases e; exact .base (.str _)
  | tup z _ =>
    cases e
    rcases z with (z | ⟨o, z⟩) | ⟨o, its, k, z, zc, _⟩
    · exact .base (.tup z)
    · exact .fTuple z
    · exact .kTuple z zc
  | fl z _ =>
    cases e
    rcases z with ⟨o, z⟩ | ⟨o, its, k, z, zc, _⟩
    · exact .base (.frz z)
    · exact .kList z zc
  | @ob k a z =>
    simp only [tyD] at e
    split at e
    · rename_i ds hd
      cases e
      obtain ⟨xs, hx, _⟩ := r.lst hd z
      exact .base (.lst hx)
    · cases e
def isiA (t T : String) : Option Bool := match t, T with
  | "NoneType", _ => some false
  | "bool", "int" => some true
  | t, T => some (t == T)
def isiT : List String := ["int", "bool", "str", "tuple", "list", "dict"]
theorem isi_kit {d : D} {t T : String} (e : tyD h d = some t) (hT : T ∈ isiT) : ∃ b, isiA t T = some b ∧ kitB t T = some b := by
  have ht : t ∈ ["NoneType", "bool", "int", "str", "tuple", "list"] := by
    cases d <;> simp only [tyD] at e <;> first | (cases e; simp) | skip
    split at e
    · cases e; simp
    · cases e
  simp only [isiT, List.mem_cons, List.not_mem_nil, or_false] at ht hT
  rcases ht with rfl | rfl | rfl | rfl | rfl | rfl <;> rcases hT with rfl | rfl | rfl | rfl | rfl | rfl <;> exact ⟨_, rfl, by decide +kernel⟩
def isiD (T : String) : D → AH → Out D := fun x h => match tyD h x with
  | some t => match isiA t T with
    | some b => .ok (.bl b) h
    | none => .bad
  | none => .bad
theorem de_isi {T : String} {p2 : Pos} {xT : Str} (C : Cok W n X) (hT : T ∈ isiT) (hg : Gl X "isinstance") (hm : X.mg "isinstance" = none) (gT : Gl X xT) (mT : X.mg xT = none) (bT : bootBuiltins xT = some (.type T)) (nT : xT ≠ "__name__") (dT : (xT == ("__debug__" : Str)) = false)
    (he : DE W c X e fe) (hs : starB e = false) : DE W c X (.Call (.Name "isinstance" p) [e, .Name xT p2] [] pos) (eUn (isiD T) fe) := by
  have hty : PE X (.Name xT p2) (tC (.ty T)) := pe_bltn (v := .ty T) (u := .type T) gT mT bT rfl nT dT
  refine PE.imp (pe_callB (call_isi (X := X)) hg hm (by decide +kernel) (pa_cons he (pa_cons hty pa_nil rfl) (star_cons hs)) (he := star_cons hs)) fun σ H Q ⟨m, ρ, h, d, h', rs, rh, e, q⟩ => ?_
  obtain ⟨x, h1, e1, e⟩ := Out.bind_ok e
  refine ⟨m, ρ, h, x, h1, rs, rh, e1, fun m1 H1 x1 r1 v rv => ?_⟩
  unfold isiD at e
  split at e
  · rename_i t ht
    obtain ⟨b, hb, hk⟩ := isi_kit ht hT
    rw [hb] at e
    cases e
    exact ⟨v, .ty T, _, _, b, rfl, .ty T, by rw [C.K]; exact tyD_ok r1 rv ht, by rw [C.K]; exact kit_ty hk, q m1 H1 x1 r1 _ (.bl b)⟩
  · cases e

/-! ### built-in functions, methods of lists -/
def bltT : List (Str × (List D → AH → Out D)) := [("len", bLen), ("list", bList), ("tuple", bTuple), ("int", bInt), ("abs", bAbs), ("any", bAny), ("all", bAll), ("sum", bSum), ("min", bMin), ("max", bMax), ("sorted", bSorted)]
theorem blt_ok (C : Cok W n X) {g : List D → AH → Out D} (hx : bltT.lookup x = some g) (hg : Gl X x) (hm : X.mg x = none) (ha : DA W c X (e :: es) fr) (hs : noStar (e :: es) = true) :
    DE W c X (.Call (.Name x p) (e :: es) [] pos) (eArg g fr) := by
  obtain ⟨s1, s2⟩ := noStar_cons hs
  have st := star_cons (es := es) (env := X.env) s1
  have pl := stars_plain (pos := pos) (env := X.env) s2
  unfold bltT at hx
  simp only [List.lookup_cons] at hx
  split at hx
  · rename_i q; have e0 := eq_of_beq q; subst e0; cases hx
    exact de_arg (t := fun _ _ _ _ => True) ha (fun t0 h0 => pe_callB (len_ok C) hg hm (by decide +kernel) h0 (he := st) (hpl := pl)) fun _ _ _ z => z
  split at hx
  · rename_i q; have e0 := eq_of_beq q; subst e0; cases hx
    exact de_arg (t := fun _ _ _ _ => True) ha (fun t0 h0 => pe_callTy (list_ok C) hg hm (by decide +kernel) h0 (he := st) (hpl := pl)) fun _ _ _ z => z
  split at hx
  · rename_i q; have e0 := eq_of_beq q; subst e0; cases hx
    exact de_arg (t := fun _ _ _ _ => True) ha (fun t0 h0 => pe_callTy (tuple_ok C) hg hm (by decide +kernel) h0 (he := st) (hpl := pl)) fun _ _ _ z => z
  split at hx
  · rename_i q; have e0 := eq_of_beq q; subst e0; cases hx
    exact de_arg (t := fun _ _ _ _ => True) ha (fun t0 h0 => pe_callTy (int_ok C) hg hm (by decide +kernel) h0 (he := st) (hpl := pl)) fun _ _ _ z => z
  split at hx
  · rename_i q; have e0 := eq_of_beq q; subst e0; cases hx
    exact de_arg (t := fun _ _ _ _ => True) ha (fun t0 h0 => pe_callB (abs_ok C) hg hm (by decide +kernel) h0 (he := st) (hpl := pl)) fun _ _ _ z => z
  split at hx
  · rename_i q; have e0 := eq_of_beq q; subst e0; cases hx
    exact de_arg (t := fun _ _ _ _ => True) ha (fun t0 h0 => pe_callB (any_ok C) hg hm (by decide +kernel) h0 (he := st) (hpl := pl)) fun _ _ _ z => z
  split at hx
  · rename_i q; have e0 := eq_of_beq q; subst e0; cases hx
    exact de_arg (t := fun _ _ _ _ => True) ha (fun t0 h0 => pe_callB (all_ok C) hg hm (by decide +kernel) h0 (he := st) (hpl := pl)) fun _ _ _ z => z
  split at hx
  · rename_i q; have e0 := eq_of_beq q; subst e0; cases hx
    exact de_arg (t := fun _ _ _ _ => True) ha (fun t0 h0 => pe_callB (sum_ok C) hg hm (by decide +kernel) h0 (he := st) (hpl := pl)) fun _ _ _ z => z
  split at hx
  · rename_i q; have e0 := eq_of_beq q; subst e0; cases hx
    exact de_arg (t := fun _ _ _ _ => True) ha (fun t0 h0 => pe_callB (min_ok C) hg hm (by decide +kernel) h0 (he := st) (hpl := pl)) fun _ _ _ z => z
  split at hx
  · rename_i q; have e0 := eq_of_beq q; subst e0; cases hx
    exact de_arg (t := fun _ _ _ _ => True) ha (fun t0 h0 => pe_callB (max_ok C) hg hm (by decide +kernel) h0 (he := st) (hpl := pl)) fun _ _ _ z => z
  split at hx
  · rename_i q; have e0 := eq_of_beq q; subst e0; cases hx
    exact de_arg (t := fun _ _ _ _ => True) ha (fun t0 h0 => pe_callB (sorted_ok C) hg hm (by decide +kernel) h0 (he := st) (hpl := pl)) fun _ _ _ z => z
  · cases hx
/-- a method of a list -/
def onL (g : D → List D → AH → Out D) : D → List D → AH → Out D := fun o ds h => g o ds h
/-- the receiver is looked at ahead of the arguments -/
def eLm (g : D → List D → AH → Out D) (a : SE) (r : SA) : SE := fun c ρ h => (a c ρ h).bind fun x h1 => match getL h1 x with
  | some _ => (r c ρ h1).bind fun xs h2 => g x xs h2
  | none => .bad
theorem de_lm {o : Expr} {fo : SE} {id : String} {g : D → List D → AH → Out D} (C : Cok W n X) (slot : Slot "list" x id) (hty : typeOf (.builtin id) = pure (.type "method_descriptor")) (hm : MtR X id (tVm W g)) (ho : DE W c X o fo) (ha : DA W c X (e :: es) fr)
    (hb : nameCall o = false) (hs : noStar (e :: es) = true) (hl : (e :: es).length < 20) (hline : (apos.endLine == cpos.line) = true) : DE W c X (.Call (.Attribute o x apos) (e :: es) [] cpos) (eLm g fo fr) := by
  obtain ⟨s1, s2⟩ := noStar_cons hs
  refine PE.imp (pe_bm F.plainAttrs_list slot hty hm ho ha (abase hb) ?_ hline (star_cons s1) (stars_plain s2)) fun σ H Q ⟨m, ρ, h, d, h', rs, rh, e, q⟩ => ?_
  · rw [stars_all hs]
    show (true && true && decide ((e :: es).length + 0 + 0 < 30)) = true
    have : decide ((e :: es).length + 0 + 0 < 30) = true := decide_eq_true (by omega)
    rw [this]; rfl
  obtain ⟨x, h1, e1, e⟩ := Out.bind_ok e
  split at e
  · rename_i ds hd
    obtain ⟨xs, h2, e2, e⟩ := Out.bind_ok e
    refine ⟨m, ρ, h, x, h1, rs, rh, e1, fun m1 H1 x1 r1 v rv => ?_⟩
    obtain ⟨a, ys, rfl, hy, _⟩ := getL_ok r1 rv hd
    refine ⟨.inl ⟨rfl, ys, by rw [C.K]; exact hy⟩, m1, ρ, h1, xs, h2, rs.ext x1, r1, e2, fun m2 H2 x2 r2 vs rvs => ?_⟩
    exact ⟨m2, h2, x, xs, d, h', r2, rv.ext x2, rvs, e, q.from (x1.trans x2)⟩
  · cases e
theorem de_lm0 {o : Expr} {fo : SE} {id : String} {g : D → List D → AH → Out D} (C : Cok W n X) (slot : Slot "list" x id) (hty : typeOf (.builtin id) = pure (.type "method_descriptor")) (hm : MtR X id (tVm W g)) (ho : DE W c X o fo)
    (hb : nameCall o = false) (hline : (apos.endLine == cpos.line) = true) : DE W c X (.Call (.Attribute o x apos) [] [] cpos) (eLm g fo aNil) := by
  refine PE.imp (pe_bm0 F.plainAttrs_list slot hty hm ho (abase hb) hline) fun σ H Q ⟨m, ρ, h, d, h', rs, rh, e, q⟩ => ?_
  obtain ⟨x, h1, e1, e⟩ := Out.bind_ok e
  split at e
  · rename_i ds hd
    obtain ⟨xs, h2, e2, e⟩ := Out.bind_ok e
    cases e2
    refine ⟨m, ρ, h, x, h1, rs, rh, e1, fun m1 H1 x1 r1 v rv => ?_⟩
    obtain ⟨a, ys, rfl, hy, _⟩ := getL_ok r1 rv hd
    refine ⟨.inl ⟨rfl, ys, by rw [C.K]; exact hy⟩, ?_⟩
    exact ⟨m1, _, x, [], d, h', r1, rv, .nil, e, q.from x1⟩
  · cases e

/-! ### calls of defs -/
def spC (W : Wk) (c : CallF) (f : Fk) (ar : Nat) : Sp := fun vs H Q E => vs.length = ar ∧ ∃ m h ds d h', W.R m H h ∧ RDs W.K m H ds vs ∧ c f ds h = .ok d h' ∧ Wish W m H h' fun m' H' => ∀ v, RD W.K m' H' d v → Q v H'
def eCallD (f : Fk) (ar : Nat) (dfl : List D) (r : SA) : SE := fun c ρ h => (r c ρ h).bind fun xs h1 => if (xs ++ dfl).length = ar then c f (xs ++ dfl) h1 else .bad
theorem de_call {f : Fk} {ar : Nat} {dfl : List D} {dvs : List V} (C : Cok W n X) (F : Cal W.P W.w W.K W.mg W.base n x (spC W c f ar) dvs) (hd : ∀ m H, RDs W.K m H dfl dvs) (hg : Gl X x) (ha : DA W c X (e :: es) fr)
    (hdb : (x == ("__debug__" : Str)) = false) (hs : noStar (e :: es) = true) : DE W c X (.Call (.Name x p) (e :: es) [] pos) (eCallD f ar dfl fr) := by
  obtain ⟨s1, s2⟩ := noStar_cons hs
  have F' : Cal X.prog X.w X.K X.mg X.base n x (spC W c f ar) dvs := by rw [C.P, C.w, C.K, C.mg, C.base]; exact F
  refine PE.imp (pe_c F' C.room (Nat.le_refl _) hg ha hdb (star_cons s1) (stars_plain s2)) fun σ H Q ⟨m, ρ, h, d, h', rs, rh, e, q⟩ => ?_
  obtain ⟨xs, h1, e1, e⟩ := Out.bind_ok e
  split at e
  · rename_i hl
    refine ⟨m, ρ, h, xs, h1, rs, rh, e1, fun m1 H1 x1 r1 vs rvs => ?_⟩
    have rr := rvs.append (hd m1 H1)
    exact ⟨by rw [← rr.length]; exact hl, m1, h1, _, d, h', r1, rr, e, q.from x1⟩
  · cases e
theorem de_call0 {f : Fk} {ar : Nat} {dfl : List D} {dvs : List V} (C : Cok W n X) (F : Cal W.P W.w W.K W.mg W.base n x (spC W c f ar) dvs) (hd : ∀ m H, RDs W.K m H dfl dvs) (hg : Gl X x)
    (hdb : (x == ("__debug__" : Str)) = false) : DE W c X (.Call (.Name x p) [] [] pos) (eCallD f ar dfl aNil) := by
  obtain ⟨fa, fd, ps, ds, F1, hm, kp, b, dd⟩ := F.ex
  have F' : FnOk X.prog X.w X.K X.mg X.base C8.CX0 n fa fd ps (spC W c f ar) := by rw [C.P, C.w, C.K, C.mg, C.base]; exact F1
  refine PE.imp (pe_call0 F' C.room hg (by rw [C.mg]; exact hm) (by rw [C.K]; exact kp) (by rw [C.K]; exact b) dd (C8.pass0 (E := C8.E0)) hdb) fun σ H Q ⟨m, ρ, h, d, h', rs, rh, e, q⟩ => ?_
  obtain ⟨xs, h1, e1, e⟩ := Out.bind_ok e
  cases e1
  split at e
  · rename_i hl
    show spC W c f ar ([] ++ dvs) H Q C8.E0
    have rr := hd m H
    exact ⟨by rw [List.nil_append, ← rr.length]; exact hl, m, _, _, d, h', rh, rr, e, q⟩
  · cases e

/-! ### tuple(range(..)), list(range(..)) -/
def rngL : List D → Option (List D)
  | [.int j] => if -100000 ≤ j ∧ j ≤ 100000 then some (rngD 0 j.toNat 1) else none
  | [.int i, .int j] => if -100000 ≤ i ∧ i ≤ 100000 ∧ -100000 ≤ j ∧ j ≤ 100000 then some (rngD i (j - i).toNat 1) else none
  | _ => none
def bTupR : List D → AH → Out D := fun xs h => match rngL xs with
  | some ds => .ok (.tup ds) h
  | none => .bad
def bLstR : List D → AH → Out D := fun xs h => match rngL xs with
  | some ds => newL h ds
  | none => .bad
theorem rgV_rd {K : PySem.W.Frag} {a b : Int} : RDs K m H (rngD a (b - a).toNat 1) (rgV a b) := by
  unfold rngD rgV
  induction (List.range (b - a).toNat) with
  | nil => exact .nil
  | cons i l ih => exact .cons (by show RD K m H (.int (a + (i : Int) * 1)) (.int (a + i)); rw [Int.mul_one]; exact .int _) ih
theorem rgOk {a b : Int} (h1 : -100000 ≤ a) (h2 : a ≤ 100000) (h3 : -100000 ≤ b) (h4 : b ≤ 100000) : RgOk a b := by
  unfold RgOk
  refine ⟨by omega, by omega, by omega, by omega, by omega⟩
theorem de_tupR1 {a : Expr} {p2 pos2 : Pos} {fa : SE} (C : Cok W n X) (hg : Gl X "tuple") (hm : X.mg "tuple" = none) (hg2 : Gl X "range") (hm2 : X.mg "range" = none) (ha : DE W c X a fa) (hs : starB a = false) :
    DE W c X (.Call (.Name "tuple" p) [.Call (.Name "range" p2) [a] [] pos2] [] pos) (eArg bTupR (aCons fa aNil)) := by
  refine PE.imp (pe_tupRg C.calm hg hm (prg_1 hg2 hm2 ha (star_cons hs))) fun σ H Q ⟨m, ρ, h, d, h', rs, rh, e, q⟩ => ?_
  obtain ⟨xs, h1, e1, e⟩ := Out.bind_ok e
  obtain ⟨x, h2, e2, e1⟩ := Out.bind_ok e1
  cases e1
  refine ⟨m, ρ, h, x, _, rs, rh, e2, fun m1 H1 x1 r1 v rv => ?_⟩
  unfold bTupR at e
  split at e
  · rename_i ds hd
    cases e
    unfold rngL at hd
    split at hd
    · rename_i j hj
      cases hj
      split at hd
      · rename_i hb
        cases hd
        have := rv.int_inv; subst v
        refine ⟨j, rfl, rgOk (by omega) (by omega) hb.1 hb.2, wish_tup r1 ?_ (q.from x1)⟩
        have := rgV_rd (K := W.K) (m := m1) (H := H1) (a := 0) (b := j)
        rw [Int.sub_zero] at this
        exact this
      · cases hd
    · rename_i hj; cases hj
    · cases hd
  · cases e
theorem de_tupR2 {a b : Expr} {p2 pos2 : Pos} {fa fb : SE} (C : Cok W n X) (hg : Gl X "tuple") (hm : X.mg "tuple" = none) (hg2 : Gl X "range") (hm2 : X.mg "range" = none) (ha : DE W c X a fa) (hb : DE W c X b fb) (hs : starB a = false) (hs2 : starB b = false) :
    DE W c X (.Call (.Name "tuple" p) [.Call (.Name "range" p2) [a, b] [] pos2] [] pos) (eArg bTupR (aCons fa (aCons fb aNil))) := by
  refine PE.imp (pe_tupRg C.calm hg hm (prg_2 hg2 hm2 ha hb (star_cons hs) (star_cons hs2) (stars_plain (by unfold noStar; rw [List.all_cons, hs2]; rfl)))) fun σ H Q ⟨m, ρ, h, d, h', rs, rh, e, q⟩ => ?_
  obtain ⟨xs, h1, e1, e⟩ := Out.bind_ok e
  obtain ⟨x, h2, e2, e1⟩ := Out.bind_ok e1
  obtain ⟨xs2, h3, e3, e1⟩ := Out.bind_ok e1
  obtain ⟨y, h4, e4, e3⟩ := Out.bind_ok e3
  cases e3; cases e1
  refine ⟨m, ρ, h, x, h2, rs, rh, e2, fun m1 H1 x1 r1 v rv => ?_⟩
  refine ⟨m1, ρ, h2, y, _, rs.ext x1, r1, e4, fun m2 H2 x2 r2 w rw' => ?_⟩
  unfold bTupR at e
  split at e
  · rename_i ds hd
    cases e
    unfold rngL at hd
    split at hd
    · rename_i hj; cases hj
    · rename_i i j hj
      cases hj
      split at hd
      · rename_i hb
        cases hd
        have := rv.int_inv; subst v
        have := rw'.int_inv; subst w
        exact ⟨i, j, rfl, rfl, rgOk hb.1 hb.2.1 hb.2.2.1 hb.2.2.2, wish_tup r2 rgV_rd (q.from (x1.trans x2))⟩
      · cases hd
    · cases hd
  · cases e

/-! ### comprehensions -/
theorem de_lc {elt tg iter : Expr} {ifs : List Expr} {scope : Scope} {own : List (Str × Nat)} {fi : SI} {t : Tg} {ft fel : SE} (C : Cok W n X) (hi : DI W c X tg iter fi) (ok : BlkOk X.N X.env.scope scope own) (hown : ∀ i ∈ t.ix, i ∈ own.map (·.2))
    (hg : ∀ (s : Shared) (H : Hp) (C : Addr) (cl : List (Str × Addr)) (fp : List Addr), PG (X.blk s H scope (compEnvC scope cl C X.env) fp) tg (gT X.K t)) (ht : ∀ (s : Shared) (H : Hp) (C : Addr) (cl : List (Str × Addr)) (fp : List Addr), PTs (X.blk s H scope (compEnvC scope cl C X.env) fp) ifs (tT W c ft))
    (he : ∀ (s : Shared) (H : Hp) (C : Addr) (cl : List (Str × Addr)) (fp : List Addr), DE W c (X.blk s H scope (compEnvC scope cl C X.env) fp) elt fel) (hs : setB iter = false) :
    DE W c X (.ListComp elt [⟨tg, iter, ifs, 0⟩] scope pos) (eComp fi (own.map (·.2)) t ft fel) :=
  PE.imp (pe_lc C.calm C.nd hi ok hg ht he (notFolded hs)) fun σ H Q w => by
    rw [C.K]
    exact comp_red hown w
theorem ds_setLc {i : Nat} {y : Str} {py spos : Pos} {elt tg iter : Expr} {ifs : List Expr} {scope : Scope} {own : List (Str × Nat)} {fi : SI} {t : Tg} {ft fel : SE} (C : Cok W n X) (hy : X.N[i]? = some y) (hyl : X.env.scope.names.lookup y = some .local) (hk : X.env.scope.kind = .function)
    (hl : (py.line == pos.line) = true) (hnot : (scope.names.any fun (n, k) => n == y && (k == .local || k == .cell)) = false) (hi : DI W c X tg iter fi) (ok : BlkOk X.N X.env.scope scope own) (hown : ∀ i ∈ t.ix, i ∈ own.map (·.2))
    (hg : ∀ (s : Shared) (H : Hp) (C : Addr) (cl : List (Str × Addr)) (fp : List Addr), PG (X.blk s H scope (compEnvC scope cl C X.env) fp) tg (gT X.K t)) (ht : ∀ (s : Shared) (H : Hp) (C : Addr) (cl : List (Str × Addr)) (fp : List Addr), PTs (X.blk s H scope (compEnvC scope cl C X.env) fp) ifs (tT W c ft))
    (he : ∀ (s : Shared) (H : Hp) (C : Addr) (cl : List (Str × Addr)) (fp : List Addr), DE W c (X.blk s H scope (compEnvC scope cl C X.env) fp) elt fel) (hs : setB iter = false) :
    DS W c X (.Assign [.Name y py] (.ListComp elt [⟨tg, iter, ifs, 0⟩] scope pos) spos) (sSet i (eComp fi (own.map (·.2)) t ft fel)) :=
  PS.imp (ps_setLc C.calm C.nd hy hyl (sw_true hk hyl hl hnot) hi ok hg ht he (notFolded hs)) fun D0 σ H w => by
    rw [C.K]
    obtain ⟨m, ρ, h, fl, h', rs, rh, e, q⟩ := w
    obtain ⟨d, h1, e1, e⟩ := Out.bind_ok e
    cases e
    exact comp_red hown ⟨m, ρ, h, d, _, rs, rh, e1, fun m1 H1 x1 r1 v rv => q m1 H1 x1 r1 _ ((rs.ext x1).set i rv)⟩
theorem ds_setLcF {y : Str} {py spos : Pos} {elt : Expr} {gs : List Comprehension} {scope : Scope} {l : Nat} (hk : X.env.scope.kind = .function) (h : (X.env.scope.names.lookup y != some .local || !(py.line == pos.line) || (scope.names.any fun (n, k) => n == y && (k == .local || k == .cell))) = true) :
    swapsWith (.ListComp elt gs scope pos) (some (.Name y py)) l X.env = pure false := by
  have hb : X.env.blockKind = .function := by unfold PySem.Env.blockKind; rw [hk]; rfl
  have ky : X.env.kindOf y = X.env.scope.names.lookup y := rfl
  unfold swapsWith
  simp only [hb, ky, Expr.pos]
  show (pure (_ : Bool) : Sem Bool) = pure false
  congr 1
  cases h1 : (X.env.scope.names.lookup y == some NameKind.local) <;> cases h2 : (py.line == pos.line) <;> cases h3 : (scope.names.any fun (n, k) => n == y && (k == .local || k == .cell)) <;> simp_all
end
end Cw

end

section
/-! From the text to its reading: what a def's body computes; that it does. -/
namespace Cw
open PySem PySem.Spec PyProof.Rows L2

/-! ### the parts -/
structure SC where
  sc : Scope
  fn : Str → Bool
/-- what is known of the module: the names in use here, the defs (number, arity, defaults), the constants -/
structure CE where
  N : List Str
  fns : List (Str × (Nat × Nat × List D))
  gls : List (Str × D)
def eBad : SE := fun _ _ _ => .bad
def aBad : SA := fun _ _ _ => .bad
def iBad : SI := fun _ _ _ => .bad
def sBad : SS := fun _ _ _ => .bad
def posN (x : Str) : List Str → Nat → Option Nat
  | [], _ => none
  | y :: r, k => if y == x then some k else posN x r (k + 1)
theorem posN_at {x : Str} : ∀ {l : List Str} {k i : Nat}, posN x l k = some i → ∃ j, i = k + j ∧ l[j]? = some x
  | [], _, _, h => by cases h
  | y :: r, k, i, h => by
    unfold posN at h
    split at h
    · rename_i q
      cases h
      exact ⟨0, rfl, by rw [eq_of_beq q]; rfl⟩
    · obtain ⟨j, h1, h2⟩ := posN_at h
      exact ⟨j + 1, by omega, by simpa using h2⟩
theorem posN_ix {x : Str} {l : List Str} {i : Nat} (h : posN x l 0 = some i) : l[i]? = some x := by
  obtain ⟨j, h1, h2⟩ := posN_at h
  rw [h1, Nat.zero_add]; exact h2
def visB (sc : Scope) (x : Str) : Bool := match sc.names.lookup x with
  | some .local => true
  | some .cell => true
  | some .free => true
  | _ => false
theorem visB_ok {sc : Scope} {x : Str} (h : visB sc x = true) : Vis sc x := by
  unfold visB at h
  unfold Vis
  split at h <;> first | (rename_i q; rw [q]; simp) | cases h
def glB (sc : Scope) (x : Str) : Bool := match sc.names.lookup x with
  | some .globalImplicit => true
  | _ => false
def locB (z : SC) (x : Str) : Bool := match z.sc.names.lookup x with
  | some .local => true
  | some .cell => z.fn x
  | _ => false
def strD (x : Str) : D := match posN x wordL 0 with
  | some n => .str n
  | none => .txt x
def cConst : Const → Option D
  | .int i => some (.int i)
  | .bool b => some (.bl b)
  | .none => some .non
  | .str x => some (strD x)
  | _ => none
def binT : Operator → Option (D → D → AH → Out D)
  | .Add => some addD
  | .Sub => some subD
  | .Mult => some mulD
  | .FloorDiv => some fdivD
  | .Mod => some modD
  | .Pow => some powD
  | _ => none
abbrev ltD := cmpD fun i j => decide (i < j)
def cmpT : CmpOp → D → D → AH → Out D
  | .Eq => eqD
  | .NotEq => neD
  | .Lt => ltD
  | .LtE => leD
  | .Gt => gtD
  | .GtE => geD
  | .In => inLs false
  | .NotIn => inLs true
  | .Is => isN false
  | .IsNot => isN true
structure Comp where
  E : SC → Expr → SE
  A : SC → List Expr → SA
  T : SC → Expr → SE
  I : SC → Expr → Expr → SI
  S : SC → Stmt → SS
  B : SC → List Stmt → SS
def noComp : Comp := ⟨fun _ _ => eBad, fun _ _ => aBad, fun _ _ => eBad, fun _ _ _ => iBad, fun _ _ => sBad, fun _ _ => sBad⟩

section
variable (G : CE) (K : Comp)
def cName (z : SC) (x : Str) : SE :=
  if x == ("__debug__" : Str) || x == ("__classdict__" : Str) then eBad
  else if visB z.sc x then (match posN x G.N 0 with
    | some i => eVar i
    | none => eBad)
  else if glB z.sc x then (match G.gls.lookup x with
    | some d => eC d
    | none => eBad)
  else eBad
def cTgs (z : SC) : List Expr → Option (List Nat)
  | [] => some []
  | .Name x _ :: r => if locB z x then (match posN x G.N 0, cTgs z r with
    | some i, some is => some (i :: is)
    | _, _ => none) else none
  | _ => none
def cTg (z : SC) : Expr → Option Tg
  | .Name x _ => if locB z x then (match posN x G.N 0 with
    | some i => some (.one i)
    | none => none) else none
  | .Tuple es _ _ => (match cTgs G z es with
    | some is => some (.many is)
    | none => none)
  | _ => none
def blkZ (z : SC) (scope : Scope) : SC := ⟨relS scope z.sc, fun x => scope.names.lookup x == some .cell⟩
def ownL (scope : Scope) : List (Str × Nat) := scope.names.filterMap fun y => match y.2 with
  | .local => (posN y.1 G.N 0).map fun i => (y.1, i)
  | .cell => (posN y.1 G.N 0).map fun i => (y.1, i)
  | _ => none
def cIfs (z : SC) : List Expr → SE
  | [] => eYes
  | [e] => K.T z e
  | _ => eBad
def ifsB : List Expr → Bool
  | [] => true
  | [_] => true
  | _ => false
def subB (t : Tg) (own : List (Str × Nat)) : Bool := t.ix.all fun i => decide (i ∈ own.map (·.2))
def cComp (z : SC) (elt tg iter : Expr) (ifs : List Expr) (k : Int) (scope : Scope) : SE := match cTg G (blkZ z scope) tg with
  | none => eBad
  | some t => if decide (k = 0) && (!setB iter && (ifsB ifs && (blkC G.N z.sc scope (ownL G scope) && subB t (ownL G scope)))) then
      eComp (K.I z tg iter) ((ownL G scope).map (·.2)) t (cIfs K (blkZ z scope) ifs) (K.E (blkZ z scope) elt) else eBad
def isiN : List (Str × String) := [("int", "int"), ("bool", "bool"), ("str", "str"), ("tuple", "tuple"), ("list", "list"), ("dict", "dict")]
def isRange (z : SC) : List Expr → Option (List Expr)
  | [.Call (.Name x _) as [] _] => if x == ("range" : Str) && (glB z.sc x && (G.fns.lookup x).isNone) then some as else none
  | _ => none
def cBlt (z : SC) (x : Str) (args : List Expr) : SE :=
  if x == ("isinstance" : Str) then (match args with
    | [e, .Name t _] => if glB z.sc t then (match isiN.lookup t with
      | some T => if starB e then eBad else eUn (isiD T) (K.E z e)
      | none => eBad) else eBad
    | _ => eBad)
  else if x == ("tuple" : Str) && (isRange G z args).isSome then (match isRange G z args with
    | some [a] => if starB a then eBad else eArg bTupR (aCons (K.E z a) aNil)
    | some [a, b] => if starB a || starB b then eBad else eArg bTupR (aCons (K.E z a) (aCons (K.E z b) aNil))
    | _ => eBad)
  else match bltT.lookup x with
    | some g => if noStar args && !args.isEmpty then eArg g (K.A z args) else eBad
    | none => eBad
def cCall (z : SC) (x : Str) (args : List Expr) : SE :=
  if glB z.sc x && !(x == ("__debug__" : Str)) then (match G.fns.lookup x with
    | some (k, ar, dfl) => if noStar args then (match args with
      | [] => eCallD (.fn k) ar dfl aNil
      | e :: es => eCallD (.fn k) ar dfl (K.A z (e :: es))) else eBad
    | none => cBlt G K z x args) else eBad
def mtdT : List (Str × (D → List D → AH → Out D)) := [("append", mAppend), ("extend", mExtend), ("pop", mPop), ("insert", mInsert)]
def cMtd (z : SC) (o : Expr) (x : Str) (args : List Expr) (apos cpos : Pos) : SE := match mtdT.lookup x with
  | some g => if !nameCall o && ((apos.endLine == cpos.line) && (noStar args && decide (args.length < 20))) then (match args with
    | [] => eLm g (K.E z o) aNil
    | e :: es => eLm g (K.E z o) (K.A z (e :: es))) else eBad
  | none => eBad
def cPart (z : SC) : Option Expr → SO
  | none => oNone
  | some e => oSome (K.E z e)
def isRev : Option Expr → Option Expr → Option Expr → Bool
  | none, none, some (.UnaryOp .USub (.Constant (.int i) _ _) _) => decide (i = 1)
  | _, _, _ => false
def cSub (z : SC) (a b : Expr) : SE := match b with
  | .Slice lo hi st _ => if isRev lo hi st then eUn revD (K.E z a) else (match st with
    | none => eSl (K.E z a) (cPart K z lo) (cPart K z hi)
    | some _ => eBad)
  | b => eBin ixD (K.E z a) (K.E z b)
def cCmp (z : SC) (a : Expr) : List CmpOp → List Expr → SE
  | [op], [b] => if behindInMarks op b then eBad else eBin (cmpT op) (K.E z a) (K.E z b)
  | [op, op'], [b, d] => if lastMarks [op, op'] [b, d] then eBad else eChain (cmpT op) (cmpT op') (K.E z a) (K.E z b) (K.E z d)
  | _, _ => eBad
def stepE (z : SC) : Expr → SE
  | .Constant k _ _ => (match cConst k with
    | some d => eC d
    | none => eBad)
  | .Name x _ => cName G z x
  | .BinOp a op b _ => (match binT op with
    | some g => eBin g (K.E z a) (K.E z b)
    | none => eBad)
  | .UnaryOp .USub a _ => eUn negD (K.E z a)
  | .UnaryOp .Not a _ => eNot (K.E z a)
  | .BoolOp _ [a] _ => K.E z a
  | .BoolOp .And (a :: b :: r) p => eAnd (K.E z a) (K.E z (.BoolOp .And (b :: r) p))
  | .BoolOp .Or (a :: b :: r) p => eOr (K.E z a) (K.E z (.BoolOp .Or (b :: r) p))
  | .Compare a ops es _ => cCmp K z a ops es
  | .IfExp t a b _ => eIf (K.T z t) (K.E z a) (K.E z b)
  | .Tuple es _ _ => eTup (K.A z es)
  | .List es _ => eLst (K.A z es)
  | .Subscript a b _ => cSub K z a b
  | .ListComp elt [⟨tg, iter, ifs, k⟩] scope _ => cComp G K z elt tg iter ifs k scope
  | .Call (.Name x _) args [] _ => cCall G K z x args
  | .Call (.Attribute o x apos) args [] cpos => cMtd K z o x args apos cpos
  | _ => eBad
def stepA (z : SC) : List Expr → SA
  | [] => aNil
  | e :: r => if starB e then aBad else aCons (K.E z e) (K.A z r)
def stepTe (z : SC) : Expr → SE
  | .UnaryOp .Not a _ => eNot (K.T z a)
  | .BoolOp _ [a] _ => K.T z a
  | .BoolOp .And (a :: b :: r) p => eAnd (K.T z a) (K.T z (.BoolOp .And (b :: r) p))
  | .BoolOp .Or (a :: b :: r) p => eOr (K.T z a) (K.T z (.BoolOp .Or (b :: r) p))
  | .BoolOp _ [] _ => eBad
  | .IfExp .. => eBad
  | .Compare a ops es _ => cCmp K z a ops es
  | e => K.E z e
def cIter (z : SC) (tg iter : Expr) (x : Str) (args : List Expr) : SI :=
  if glB z.sc x && (G.fns.lookup x).isNone then
    if x == ("range" : Str) then (if noStar args then (match args with
      | [a] => iRng1 (K.A z [a])
      | [a, b] => iRng2 (K.A z [a, b])
      | [a, b, d] => iRng3 (K.A z [a, b, d])
      | _ => iBad) else iBad)
    else if x == ("enumerate" : Str) then (match args, tg with
      | [a], .Tuple _ _ _ => if starB a then iBad else iEnum (K.E z a)
      | _, _ => iBad)
    else if x == ("reversed" : Str) then (match args with
      | [a] => if starB a then iBad else iRev (K.E z a)
      | _ => iBad)
    else iOver (K.E z iter)
  else iOver (K.E z iter)
def stepI (z : SC) (tg iter : Expr) : SI := match iter with
  | .Call (.Name x p) args [] pos => cIter G K z tg (.Call (.Name x p) args [] pos) x args
  | e => iOver (K.E z e)
/-- the names of x, y = a, b that are told apart by the store's order -/
def parN (sc : Scope) (l : Nat) : List Expr → Bool
  | [] => true
  | .Name x p :: r => decide (sc.names.lookup x = some .local) && (p.line == l) && parN sc l r
  | _ => false
def namesE : List Expr → List Str
  | .Name x _ :: r => x :: namesE r
  | _ => []
def lineE : List Expr → Nat
  | e :: _ => e.pos.line
  | [] => 0
/-- swappedStores' answer, where all targets are such names -/
def parB (sc : Scope) (ts vs : List Expr) : Bool :=
  parN sc (lineE ts) ts && (decide (vs.length = ts.length) && (noStar vs && decide (namesE ts).Nodup))
def cAsgT (z : SC) (ts vs : List Expr) (e : Expr) : SS :=
  if !parN z.sc (lineE ts) ts then (match cTgs G z ts with
    | some is => sSetT is (K.E z e)
    | none => sBad)
  else if parB z.sc ts vs then
    if vs.all (foldedForSure 8) then (match cTgs G z ts with
      | some is => sSetT is (K.E z e)
      | none => sBad)
    else if vs.all (constantsAlone 8) then sBad
    else (match ts, vs with
      | [_, _], [_, _] => (match cTgs G z ts with
        | some [i, j] => if i = j then sBad else sPar [i, j] (K.A z vs)
        | _ => sBad)
      | [_, _, _], [_, _, _] => (match cTgs G z ts with
        | some [i, j, l] => if i = j ∨ i = l ∨ j = l then sBad else sPar [i, j, l] (K.A z vs)
        | _ => sBad)
      | _, _ => sBad)
  else sBad
def cAsg (z : SC) (tg e : Expr) : SS := match tg with
  | .Name y py => if locB z y then (match posN y G.N 0 with
    | some i => (match e with
      | .ListComp elt [⟨tg', iter, ifs, k⟩] scope _ => sSet i (cComp G K z elt tg' iter ifs k scope)
      | e => if compB e then sBad else sSet i (K.E z e))
    | none => sBad) else sBad
  | .Tuple ts _ _ => (match e with
    | .Tuple vs k p => cAsgT G K z ts vs (.Tuple vs k p)
    | e => if compB e then sBad else (match cTgs G z ts with
      | some is => sSetT is (K.E z e)
      | none => sBad))
  | .Subscript o i _ => if compB e || sliceB i then sBad else sSub (K.E z o) (K.E z i) (K.E z e)
  | _ => sBad
def stepS (z : SC) : Stmt → SS
  | .Pass _ => sNil
  | .Break _ => sBreak
  | .Continue _ => sCont
  | .Expr e _ => if compB e then sBad else sExpr (K.E z e)
  | .Return (some e) _ => sRet (K.E z e)
  | .Return none _ => sRetN
  | .If t a b _ => sIf (K.T z t) (K.B z a) (K.B z b)
  | .For tg iter body [] _ => (match cTg G z tg with
    | some t => if setB iter then sBad else sFor (K.I z tg iter) t (K.B z body)
    | none => sBad)
  | .While t body [] _ => sWhile (K.T z t) (K.B z body)
  | .Assign [tg] e _ => cAsg G K z tg e
  | .AugAssign (.Name y _) .Add e _ => if locB z y then (match posN y G.N 0 with
    | some i => sAug i iaddD (K.E z e)
    | none => sBad) else sBad
  | _ => sBad
def stepB (z : SC) : List Stmt → SS
  | [] => sNil
  | s :: r => sSeq (K.S z s) (K.B z r)
def stepC : Comp := ⟨stepE G K, stepA K, stepTe K, stepI G K, stepS G K, stepB K⟩
end
/-- the reading, to a depth -/
def compN (G : CE) : Nat → Comp
  | 0 => noComp
  | n + 1 => stepC G (compN G n)
end Cw

end

section
/-! The reading is sound: expressions. -/
namespace Cw
open PySem PySem.Spec PyProof.Rows L2 C8

structure Sok (X : Cx) (N : List Str) (z : SC) : Prop where
  N : X.N = N
  sc : X.env.scope = z.sc
  kind : z.sc.kind = .function
  fn : ∀ x, z.fn x = true → X.fn x = true
def bltN : List Str := ["isinstance", "tuple", "range", "enumerate", "reversed", "len", "list", "int", "abs", "any", "all", "sum", "min", "max", "sorted", "bool", "str", "dict", "set", "zip", "repr"]
structure Gok (W : Wk) (n : Nat) (c : CallF) (G : CE) : Prop where
  blt : ∀ x, x ∈ bltN → W.mg x = none
  gl : ∀ x d, G.gls.lookup x = some d → ∃ v u, W.mg x = some u ∧ RelV v u ∧ ∀ m H, RD W.K m H d v
  fn : ∀ x k ar dfl, G.fns.lookup x = some (k, ar, dfl) → ∃ dvs, Cal W.P W.w W.K W.mg W.base n x (spC W c (.fn k) ar) dvs ∧ ∀ m H, RDs W.K m H dfl dvs
structure Snd (W : Wk) (n : Nat) (c : CallF) (G : CE) (K : Comp) : Prop where
  E : ∀ X z e, Cok W n X → Sok X G.N z → DE W c X e (K.E z e)
  A : ∀ X z es, Cok W n X → Sok X G.N z → DA W c X es (K.A z es)
  T : ∀ X z e, Cok W n X → Sok X G.N z → DT W c X e (K.T z e)
  Wd : ∀ X z op es p, Cok W n X → Sok X G.N z → DW W c X (.BoolOp op es p) (K.T z (.BoolOp op es p))
  I : ∀ X z tg iter, Cok W n X → Sok X G.N z → DI W c X tg iter (K.I z tg iter)
  S : ∀ X z s, Cok W n X → Sok X G.N z → DS W c X s (K.S z s)
  B : ∀ X z s, Cok W n X → Sok X G.N z → DB W c X s (K.B z s)

section
variable {W : Wk} {n : Nat} {X : Cx} {c : CallF} {G : CE} {K : Comp} {z : SC} {e : Expr} {es : List Expr} {x : Str} {p pos : Pos}
theorem de_bad : DE W c X e eBad := ⟨fun _ _ _ _ _ _ ⟨_, _, _, _, _, _, _, q, _⟩ => by cases q⟩
theorem da_bad : DA W c X es aBad := ⟨fun _ _ _ _ _ _ _ ⟨_, _, _, _, _, _, _, q, _⟩ => by cases q⟩
theorem dt_bad : DT W c X e eBad := ⟨fun _ _ _ _ _ _ ⟨_, _, _, _, _, _, _, q, _⟩ => by cases q⟩
theorem dw_bad : DW W c X e eBad := ⟨fun _ _ _ _ _ _ _ ⟨_, _, _, _, _, _, _, q, _⟩ => by cases q⟩
theorem di_bad {tg : Expr} : DI W c X tg e iBad := ⟨fun _ _ _ _ _ _ ⟨_, _, _, _, _, _, _, q, _⟩ => by cases q⟩
theorem ds_bad {s : Stmt} : DS W c X s sBad := ⟨fun _ _ _ _ _ _ ⟨_, _, _, _, _, _, _, q, _⟩ => by cases q⟩
theorem db_bad {s : List Stmt} : DB W c X s sBad := ⟨fun _ _ _ _ _ _ ⟨_, _, _, _, _, _, _, q, _⟩ => by cases q⟩
theorem snd_no : Snd W n c G noComp := ⟨fun _ _ _ _ _ => de_bad, fun _ _ _ _ _ => da_bad, fun _ _ _ _ _ => dt_bad, fun _ _ _ _ _ _ _ => dw_bad, fun _ _ _ _ _ _ => di_bad, fun _ _ _ _ _ => ds_bad, fun _ _ _ _ _ => db_bad⟩
theorem Sok.gl (S : Sok X G.N z) (h : glB z.sc x = true) : Gl X x := by
  show X.env.scope.names.lookup x = _
  rw [S.sc]
  unfold glB at h
  split at h
  · assumption
  · cases h
theorem Sok.vis (S : Sok X G.N z) (h : visB z.sc x = true) : Vis X.env.scope x := by
  rw [S.sc]; exact visB_ok h
theorem Sok.loc (S : Sok X G.N z) (h : locB z x = true) : L2.Loc X.env.scope x ∧ (X.fn x = true ∨ X.env.scope.names.lookup x = some .local) := by
  rw [S.sc]
  unfold locB at h
  unfold L2.Loc
  split at h
  · rename_i q; rw [q]; simp
  · rename_i q; rw [q]; simp [S.fn x h]
  · cases h
theorem Sok.ix (S : Sok X G.N z) {i : Nat} (h : posN x G.N 0 = some i) : X.N[i]? = some x := by rw [S.N]; exact posN_ix h
theorem Sok.mg (C : Cok W n X) (g : Gok W n c G) (h : x ∈ bltN) : X.mg x = none := by rw [C.mg]; exact g.blt x h

theorem cmp_ok (C : Cok W n X) : ∀ op, OpR X (compareOp op) (tV2 W (cmpT op))
  | .Eq => op_eqDD C
  | .NotEq => op_neDD C
  | .Lt => op_cmpD op_lt
  | .LtE => op_cmpD op_le
  | .Gt => op_cmpD op_gt
  | .GtE => op_cmpD op_ge
  | .In => in_ok C false
  | .NotIn => in_ok C true
  | .Is => is_ok C
  | .IsNot => isnot_ok C
theorem bin_ok (C : Cok W n X) {op : Operator} {g : D → D → AH → Out D} (h : binT op = some g) : OpR X (binaryOp op) (tV2 W g) := by
  cases op <;> simp only [binT] at h <;> first | (cases h; done) | cases h
  · exact op_addD C
  · exact op_subD C
  · exact op_mulD C
  · exact op_modD C
  · exact op_powD C
  · exact op_fdivD C
theorem const_ok {k : Const} {j : Nat} {d : D} (h : cConst k = some d) : DE W c X (.Constant k j pos) (eC d) := by
  unfold cConst at h
  split at h <;> first | cases h | skip
  · exact de_c pe_int (fun σ H Q q => q) fun m H => .int _
  · exact de_c pe_bl (fun σ H Q q => q) fun m H => .bl _
  · exact de_c pe_non (fun σ H Q q => q) fun m H => .non
  · rename_i x
    refine de_c pe_str (fun σ H Q q => q) fun m H => ?_
    unfold strD
    split
    · rename_i i hi
      have h1 := posN_ix hi
      have h2 : i < nW := by rw [← wordL_len]; exact (List.getElem?_eq_some_iff.mp h1).1
      have h3 := wd_get h2
      rw [h1] at h3
      rw [Option.some.inj h3]
      exact .str h2
    · exact .txt x
theorem name_ok (C : Cok W n X) (S : Sok X G.N z) (g : Gok W n c G) : DE W c X (.Name x pos) (cName G z x) := by
  unfold cName
  split
  · exact de_bad
  rename_i hx
  rw [Bool.not_eq_true, Bool.or_eq_false_iff] at hx
  split
  · rename_i hv
    split
    · rename_i i hi
      exact de_var (S.ix hi) (S.vis hv) hx.1 hx.2
    · exact de_bad
  split
  · rename_i hg
    split
    · rename_i d hd
      obtain ⟨v, u, hm, r, rd⟩ := g.gl x d hd
      exact de_c (C8.pe_gc (S.gl hg) ⟨u, by rw [C.mg]; exact hm, r⟩ hx.1) (fun σ H Q q => q) rd
    · exact de_bad
  · exact de_bad
theorem dt_chain {op op' : CmpOp} {g g' : D → D → AH → Out D} {a b d : Expr} {fa fb fd : SE} (ho : OpR X (compareOp op) (tV2 W g)) (ho' : OpR X (compareOp op') (tV2 W g')) (ha : DE W c X a fa) (hb : DE W c X b fb) (hd : DE W c X d fd)
    (hm : lastMarks [op, op'] [b, d] = false) : DT W c X (.Compare a [op, op'] [b, d] pos) (eChain g g' fa fb fd) :=
  PT.imp (pt_chain ho ho' ha hb hd hm) fun σ H Q ⟨m, ρ, h, d, h', rs, rh, e, q⟩ => by
    obtain ⟨x, h1, e1, e⟩ := Out.bind_ok e
    obtain ⟨y, h2, e2, e⟩ := Out.bind_ok e
    obtain ⟨z, h3, e3, e⟩ := Out.bind_ok e
    refine ⟨m, ρ, h, x, h1, rs, rh, e1, fun m1 H1 x1 r1 u ru => ?_⟩
    refine ⟨m1, ρ, h1, y, h2, rs.ext x1, r1, e2, fun m2 H2 x2 r2 v rv => ?_⟩
    refine ⟨m2, h2, x, y, z, h3, r2, ru.ext x2, rv, e3, fun m3 H3 x3 r3 zz rz => ?_⟩
    rcases onB_ok e with ⟨rfl, e⟩ | ⟨rfl, e⟩
    · refine ⟨true, rz.bl_inv, iteT ?_⟩
      obtain ⟨k, h4, e4, e⟩ := Out.bind_ok e
      refine ⟨m3, ρ, h3, k, h4, rs.ext ((x1.trans x2).trans x3), r3, e4, fun m4 H4 x4 r4 w4 rw4 => ?_⟩
      exact ⟨m4, h4, y, k, _, h', r4, rv.ext (x3.trans x4), rw4, e, fun m5 H5 x5 r5 vv rvv => ⟨_, rvv.bl_inv, q m5 H5 ((((x1.trans x2).trans x3).trans x4).trans x5) r5⟩⟩
    · refine ⟨false, rz.bl_inv, iteF ?_⟩
      cases e
      exact ⟨_, rfl, q m3 H3 ((x1.trans x2).trans x3) r3⟩
theorem cmpE_ok (C : Cok W n X) (S : Sok X G.N z) (k : Snd W n c G K) {a : Expr} {ops : List CmpOp} : DE W c X (.Compare a ops es pos) (cCmp K z a ops es) ∧ DT W c X (.Compare a ops es pos) (cCmp K z a ops es) := by
  unfold cCmp
  split
  · split
    · exact ⟨de_bad, dt_bad⟩
    · rename_i op b hm
      rw [Bool.not_eq_true] at hm
      exact ⟨de_cmp (cmp_ok C op) hm (k.E X z _ C S) (k.E X z _ C S), dt_cmp (cmp_ok C op) hm (k.E X z _ C S) (k.E X z _ C S)⟩
  · split
    · exact ⟨de_bad, dt_bad⟩
    · rename_i op op' b d hm
      rw [Bool.not_eq_true] at hm
      exact ⟨de_chain (dd := d) (cmp_ok C op) (cmp_ok C op') (pe_chain (cmp_ok C op) (cmp_ok C op') (k.E X z _ C S) (k.E X z _ C S) (k.E X z _ C S) hm) rfl, dt_chain (cmp_ok C op) (cmp_ok C op') (k.E X z _ C S) (k.E X z _ C S) (k.E X z _ C S) hm⟩
  · exact ⟨de_bad, dt_bad⟩
theorem part_ok (C : Cok W n X) (S : Sok X G.N z) (k : Snd W n c G K) : ∀ o : Option Expr, PO X o (tO W c (cPart K z o))
  | none => do_none
  | some e => do_some (k.E X z e C S)
theorem sub_ok (C : Cok W n X) (S : Sok X G.N z) (k : Snd W n c G K) {a b : Expr} : DE W c X (.Subscript a b pos) (cSub K z a b) := by
  unfold cSub
  split
  · rename_i lo hi st p2
    split
    · rename_i hr
      unfold isRev at hr
      split at hr
      · rename_i i j p3 p4
        rw [decide_eq_true_eq] at hr
        subst hr
        exact de_rev C (k.E X z _ C S)
      · cases hr
    · split
      · exact de_sl C (k.E X z _ C S) (part_ok C S k _) (part_ok C S k _)
      · exact de_bad
  · rename_i hb
    refine de_ix C (k.E X z _ C S) (k.E X z _ C S) (plainIx ?_)
    cases b with
    | Slice l h s p => exact (hb l h s p rfl).elim
    | _ => rfl
theorem blt_sub (h : x ∈ bltT.map (·.1)) : x ∈ bltN := by
  simp only [bltT, List.map_cons, List.map_nil, List.mem_cons, List.not_mem_nil, or_false] at h
  unfold bltN
  rcases h with h | h | h | h | h | h | h | h | h | h | h <;> subst h <;> simp
theorem lookup_mem {β : Type} {l : List (Str × β)} {b : β} (h : l.lookup x = some b) : x ∈ l.map (·.1) := by
  induction l with
  | nil => cases h
  | cons y l ih =>
    rw [List.lookup_cons] at h
    split at h
    · rename_i q
      rw [List.map_cons, eq_of_beq q]
      exact List.mem_cons_self
    · exact List.mem_cons_of_mem _ (ih h)
theorem isi_ok {t : Str} {T : String} (h : isiN.lookup t = some T) : T ∈ isiT ∧ t ∈ bltN ∧ bootBuiltins t = some (.type T) ∧ t ≠ "__name__" ∧ (t == ("__debug__" : Str)) = false := by
  unfold isiN at h
  simp only [List.lookup_cons] at h
  split at h
  · rename_i q; have e0 := eq_of_beq q; subst e0; cases h
    exact ⟨by simp [isiT], by simp [bltN], by decide +kernel, by decide +kernel, by decide +kernel⟩
  split at h
  · rename_i q; have e0 := eq_of_beq q; subst e0; cases h
    exact ⟨by simp [isiT], by simp [bltN], by decide +kernel, by decide +kernel, by decide +kernel⟩
  split at h
  · rename_i q; have e0 := eq_of_beq q; subst e0; cases h
    exact ⟨by simp [isiT], by simp [bltN], by decide +kernel, by decide +kernel, by decide +kernel⟩
  split at h
  · rename_i q; have e0 := eq_of_beq q; subst e0; cases h
    exact ⟨by simp [isiT], by simp [bltN], by decide +kernel, by decide +kernel, by decide +kernel⟩
  split at h
  · rename_i q; have e0 := eq_of_beq q; subst e0; cases h
    exact ⟨by simp [isiT], by simp [bltN], by decide +kernel, by decide +kernel, by decide +kernel⟩
  split at h
  · rename_i q; have e0 := eq_of_beq q; subst e0; cases h
    exact ⟨by simp [isiT], by simp [bltN], by decide +kernel, by decide +kernel, by decide +kernel⟩
  · cases h
theorem isRange_ok {args as : List Expr} (h : isRange G z args = some as) : ∃ p q, args = [.Call (.Name "range" p) as [] q] ∧ glB z.sc "range" = true := by
  unfold isRange at h
  split at h
  · split at h
    · rename_i x p as' q hc
      cases h
      rw [Bool.and_eq_true, Bool.and_eq_true] at hc
      have := eq_of_beq hc.1
      subst this
      exact ⟨p, q, rfl, hc.2.1⟩
    · cases h
  · cases h
theorem bltC_ok (C : Cok W n X) (S : Sok X G.N z) (g : Gok W n c G) (k : Snd W n c G K) (hg : glB z.sc x = true) : DE W c X (.Call (.Name x p) es [] pos) (cBlt G K z x es) := by
  unfold cBlt
  split
  · rename_i q
    have e0 := eq_of_beq q; subst e0
    split
    · split
      · rename_i ht
        split
        · rename_i T hT
          split
          · exact de_bad
          · rename_i hs
            obtain ⟨h1, h2, h3, h4, h5⟩ := isi_ok hT
            exact de_isi C h1 (S.gl hg) (Sok.mg C g (by simp [bltN])) (S.gl ht) (Sok.mg C g h2) h3 h4 h5 (k.E X z _ C S) (by simpa using hs)
        · exact de_bad
      · exact de_bad
    · exact de_bad
  split
  · rename_i q
    rw [Bool.and_eq_true] at q
    have e0 := eq_of_beq q.1; subst e0
    split
    · rename_i a hr
      obtain ⟨p2, q2, rfl, hg2⟩ := isRange_ok hr
      split
      · exact de_bad
      · rename_i hs
        exact de_tupR1 C (S.gl hg) (Sok.mg C g (by simp [bltN])) (S.gl hg2) (Sok.mg C g (by simp [bltN])) (k.E X z _ C S) (by simpa using hs)
    · rename_i a b hr
      obtain ⟨p2, q2, rfl, hg2⟩ := isRange_ok hr
      split
      · exact de_bad
      · rename_i hs
        rw [Bool.not_eq_true, Bool.or_eq_false_iff] at hs
        exact de_tupR2 C (S.gl hg) (Sok.mg C g (by simp [bltN])) (S.gl hg2) (Sok.mg C g (by simp [bltN])) (k.E X z _ C S) (k.E X z _ C S) hs.1 hs.2
    · exact de_bad
  · split
    · rename_i f hf
      split
      · rename_i hs
        rw [Bool.and_eq_true] at hs
        cases es with
        | nil => cases hs.2
        | cons e es => exact blt_ok C hf (S.gl hg) (Sok.mg C g (blt_sub (lookup_mem hf))) (k.A X z _ C S) hs.1
      · exact de_bad
    · exact de_bad
theorem callC_ok (C : Cok W n X) (S : Sok X G.N z) (g : Gok W n c G) (k : Snd W n c G K) : DE W c X (.Call (.Name x p) es [] pos) (cCall G K z x es) := by
  unfold cCall
  split
  · rename_i hg
    rw [Bool.and_eq_true, Bool.not_eq_true'] at hg
    split
    · rename_i f ar dfl hf
      obtain ⟨dvs, F, hd⟩ := g.fn _ _ _ _ hf
      split
      · rename_i hs
        split
        · exact de_call0 C F hd (S.gl hg.1) hg.2
        · exact de_call C F hd (S.gl hg.1) (k.A X z _ C S) hg.2 hs
      · exact de_bad
    · exact bltC_ok C S g k hg.1
  · exact de_bad
theorem mtd_ok (C : Cok W n X) {f : D → List D → AH → Out D} (h : mtdT.lookup x = some f) : ∃ id, Slot "list" x id ∧ typeOf (.builtin id) = pure (.type "method_descriptor") ∧ MtR X id (tVm W f) := by
  unfold mtdT at h
  simp only [List.lookup_cons] at h
  split at h
  · rename_i q; have e0 := eq_of_beq q; subst e0; cases h
    exact ⟨_, F.slot_list_append, rfl, append_ok C⟩
  split at h
  · rename_i q; have e0 := eq_of_beq q; subst e0; cases h
    exact ⟨_, F.slot_list_extend, rfl, extend_ok C⟩
  split at h
  · rename_i q; have e0 := eq_of_beq q; subst e0; cases h
    exact ⟨_, F.slot_list_pop, rfl, pop_ok C⟩
  split at h
  · rename_i q; have e0 := eq_of_beq q; subst e0; cases h
    exact ⟨_, F.slot_list_insert, rfl, insert_ok C⟩
  · cases h
theorem mtdC_ok (C : Cok W n X) (S : Sok X G.N z) (k : Snd W n c G K) {o : Expr} {apos : Pos} : DE W c X (.Call (.Attribute o x apos) es [] pos) (cMtd K z o x es apos pos) := by
  unfold cMtd
  split
  · rename_i f hf
    obtain ⟨id, sl, hty, hm⟩ := mtd_ok (W := W) C hf
    split
    · rename_i hc
      simp only [Bool.and_eq_true, Bool.not_eq_true', decide_eq_true_eq] at hc
      obtain ⟨h1, h2, h3, h4⟩ := hc
      split
      · exact de_lm0 C sl hty hm (k.E X z _ C S) h1 h2
      · exact de_lm C sl hty hm (k.E X z _ C S) (k.A X z _ C S) h1 h3 h4 h2
    · exact de_bad
  · exact de_bad

/-! ### targets, comprehensions -/
theorem tgs_each : ∀ {es : List Expr} {is : List Nat}, Cok W n X → Sok X G.N z → cTgs G z es = some is → PGs X es (gNames is) ∧ es.length = is.length ∧ (assignEach es X.env).length = is.length ∧ (assignEach es X.env).findIdx? (·.1) = none
  | [], _, _, _, h => by cases h; exact ⟨pgs_nil, rfl, rfl, rfl⟩
  | e :: r, is, C, S, h => by
    cases e <;> simp only [cTgs] at h <;> try (cases h; done)
    rename_i y py
    split at h
    · rename_i hl
      split at h
      · rename_i i js hi hjs
        cases h
        obtain ⟨h1, h2, h3, h4⟩ := tgs_each C S hjs
        obtain ⟨l1, l2⟩ := S.loc hl
        refine ⟨pgs_cons (pg_name C.nd (S.ix hi) l1 l2) h1, by simp [h2], ?_, ?_⟩
        · show (assignEach r X.env).length + 1 = _
          rw [h3]; rfl
        · show ((false, assign (.Name y py) X.env) :: assignEach r X.env).findIdx? (·.1) = none
          rw [List.findIdx?_cons, h4]; rfl
      · cases h
    · cases h
theorem tg_ok {tg : Expr} {t : Tg} (C : Cok W n X) (S : Sok X G.N z) (h : cTg G z tg = some t) : PG X tg (gT X.K t) := by
  unfold cTg at h
  split at h
  · split at h
    · rename_i hl
      split at h
      · rename_i i hi
        cases h
        obtain ⟨l1, l2⟩ := S.loc hl
        exact pg_name C.nd (S.ix hi) l1 l2
      · cases h
    · cases h
  · split at h
    · rename_i is hi
      cases h
      obtain ⟨h1, h2, h3, h4⟩ := tgs_each C S hi
      exact pg_tup C.calm h1 h3 h4
    · cases h
  · cases h
theorem blk_ok {s : Shared} {H : Hp} {scope : Scope} {A : Addr} {cl : List (Str × Addr)} {fp : List Addr} (C : Cok W n X) : Cok W n (X.blk s H scope (compEnvC scope cl A X.env) fp) :=
  ⟨C.P, C.w, C.K, C.mg, C.base, C.calm, C.room, C.nd, PassesOwn.never⟩
theorem blk_sok {s : Shared} {H : Hp} {scope : Scope} {A : Addr} {cl : List (Str × Addr)} {fp : List Addr} (S : Sok X G.N z) (hk : scope.kind = .function) : Sok (X.blk s H scope (compEnvC scope cl A X.env) fp) G.N (blkZ z scope) := by
  refine ⟨S.N, ?_, hk, fun x h => h⟩
  show relabel scope X.env = relS scope z.sc
  rw [← S.sc]; rfl
theorem blkC_kind {N : List Str} {sc scope : Scope} {own : List (Str × Nat)} (h : blkC N sc scope own = true) : scope.kind = .function := (blkOk_by h).kind
/-- what a comprehension's parts give -/
theorem compC_ok (C : Cok W n X) (S : Sok X G.N z) (k : Snd W n c G K) {elt tg iter : Expr} {ifs : List Expr} {j : Int} {scope : Scope} :
    cComp G K z elt tg iter ifs j scope = eBad ∨ (j = 0 ∧ ∃ (own : List (Str × Nat)) (t : Tg) (fi : SI) (ft fel : SE), cComp G K z elt tg iter ifs j scope = eComp fi (own.map (·.2)) t ft fel ∧ DI W c X tg iter fi ∧ BlkOk X.N X.env.scope scope own ∧ (∀ i ∈ t.ix, i ∈ own.map (·.2)) ∧
      (∀ (s : Shared) (H : Hp) (C : Addr) (cl : List (Str × Addr)) (fp : List Addr), PG (X.blk s H scope (compEnvC scope cl C X.env) fp) tg (gT X.K t)) ∧
      (∀ (s : Shared) (H : Hp) (C : Addr) (cl : List (Str × Addr)) (fp : List Addr), PTs (X.blk s H scope (compEnvC scope cl C X.env) fp) ifs (tT W c ft)) ∧
      (∀ (s : Shared) (H : Hp) (C : Addr) (cl : List (Str × Addr)) (fp : List Addr), DE W c (X.blk s H scope (compEnvC scope cl C X.env) fp) elt fel) ∧ setB iter = false) := by
  unfold cComp
  split
  · exact .inl rfl
  · rename_i t ht
    split
    · rename_i hc
      simp only [Bool.and_eq_true, decide_eq_true_eq, Bool.not_eq_true'] at hc
      obtain ⟨h0, h1, h2, h3, h4⟩ := hc
      have hk := blkC_kind h3
      refine .inr ⟨h0, _, t, _, _, _, rfl, k.I X z tg iter C S, ?_, ?_, fun s H A cl fp => tg_ok (blk_ok C) (blk_sok S hk) ht, fun s H A cl fp => ?_, fun s H A cl fp => k.E _ _ _ (blk_ok C) (blk_sok S hk), h1⟩
      · rw [S.N, S.sc]; exact blkOk_by h3
      · intro i hi
        exact of_decide_eq_true (List.all_eq_true.mp h4 i hi)
      · unfold ifsB at h2
        unfold cIfs
        split
        · exact pts_yes
        · exact pts_one (k.T _ _ _ (blk_ok C) (blk_sok S hk))
        · rename_i q1 q2
          split at h2
          · exact absurd rfl q1
          · exact absurd rfl (q2 _)
          · cases h2
    · exact .inl rfl
theorem exprs_ok (C : Cok W n X) (S : Sok X G.N z) (g : Gok W n c G) (k : Snd W n c G K) : DE W c X e (stepE G K z e) := by
  unfold stepE
  split
  · split
    · exact const_ok (by assumption)
    · exact de_bad
  · exact name_ok C S g
  · split
    · exact de_bin (bin_ok C (by assumption)) (k.E X z _ C S) (k.E X z _ C S)
    · exact de_bad
  · exact de_un (un_negD C) (k.E X z _ C S)
  · exact de_not (k.E X z _ C S)
  · exact de_one (k.E X z _ C S)
  · exact de_and (k.E X z _ C S) (k.E X z _ C S)
  · exact de_or (k.E X z _ C S) (k.E X z _ C S)
  · exact (cmpE_ok C S k).1
  · exact de_if (k.T X z _ C S) (k.E X z _ C S) (k.E X z _ C S)
  · exact de_tup (k.A X z _ C S)
  · exact de_lst (k.A X z _ C S)
  · exact sub_ok C S k
  · rcases compC_ok (W := W) (c := c) C S k with h | ⟨h0, own, t, fi, ft, fel, h, h1, h2, h3, h4, h5, h6, h7⟩
    · rw [h]; exact de_bad
    · subst h0
      rw [h]; exact de_lc C h1 h2 h3 h4 h5 h6 h7
  · exact callC_ok C S g k
  · exact mtdC_ok C S k
  · exact de_bad
end
end Cw

end

section
/-! The reading is sound: tests, loops' sources, statements, defs. -/
namespace Cw
open PySem PySem.Spec PyProof.Rows L2 C8

section
variable {W : Wk} {n : Nat} {X : Cx} {c : CallF} {G : CE} {K : Comp} {z : SC} {e : Expr} {es : List Expr} {x : Str} {p pos : Pos}
theorem args_ok (C : Cok W n X) (S : Sok X G.N z) (k : Snd W n c G K) : DA W c X es (stepA K z es) := by
  unfold stepA
  split
  · exact da_nil
  · split
    · exact da_bad
    · rename_i hs
      exact da_cons (k.E X z _ C S) (k.A X z _ C S) (star_cons (by simpa using hs))
theorem bool_ok (C : Cok W n X) (S : Sok X G.N z) (k : Snd W n c G K) {op : BoolOp} : DW W c X (.BoolOp op es p) (stepTe K z (.BoolOp op es p)) := by
  cases es with
  | nil => cases op <;> exact dw_bad
  | cons a r =>
    cases r with
    | nil =>
      cases op
      · exact dw_and1 (k.T X z _ C S)
      · exact dw_or1 (k.T X z _ C S)
    | cons b r =>
      cases op
      · exact dw_and (k.T X z _ C S) (k.Wd X z _ _ _ C S)
      · exact dw_or (k.T X z _ C S) (k.Wd X z _ _ _ C S)
theorem tests_ok (C : Cok W n X) (S : Sok X G.N z) (k : Snd W n c G K) : DT W c X e (stepTe K z e) := by
  cases e with
  | BoolOp op es p => exact PW.pt (bool_ok C S k)
  | UnaryOp op a p =>
    cases op
    case Not => exact dt_not (k.T X z _ C S)
    all_goals exact dt_val (k.E X z _ C S) (plainTest rfl)
  | IfExp => exact dt_bad
  | Compare a ops es p => exact (cmpE_ok C S k).2
  | _ => exact dt_val (k.E X z _ C S) (plainTest rfl)
theorem iter_ok (C : Cok W n X) (S : Sok X G.N z) (g : Gok W n c G) (k : Snd W n c G K) {tg : Expr} : DI W c X tg e (stepI G K z tg e) := by
  unfold stepI
  split
  · rename_i x p args pos
    unfold cIter
    split
    · rename_i hg
      rw [Bool.and_eq_true] at hg
      split
      · rename_i q; have e0 := eq_of_beq q; subst e0
        have hm := Sok.mg (x := "range") C g (by simp [bltN])
        split
        · rename_i hs
          split
          · rename_i a
            exact di_rng1 (S.gl hg.1) hm (k.A X z _ C S) (star_cons (noStar_cons hs).1)
          · rename_i a b
            have s1 := noStar_cons hs
            have s2 := noStar_cons s1.2
            have e2 : starEach [b] X.env = [(false, eval b X.env)] := star_cons s2.1
            refine di_rng2 (S.gl hg.1) hm (k.A X z _ C S) ?_ e2
            rw [star_cons s1.1, e2]
          · rename_i a b d
            have s1 := noStar_cons hs
            exact di_rng3 (S.gl hg.1) hm (k.A X z _ C S) (star_cons s1.1) (stars_plain s1.2)
          · exact di_bad
        · exact di_bad
      split
      · rename_i q; have e0 := eq_of_beq q; subst e0
        have hm := Sok.mg (x := "enumerate") C g (by simp [bltN])
        split
        · split
          · exact di_bad
          · rename_i hs
            exact di_enum C (S.gl hg.1) hm (k.E X z _ C S) (star_cons (by simpa using hs))
        · exact di_bad
      split
      · rename_i q; have e0 := eq_of_beq q; subst e0
        have hm := Sok.mg (x := "reversed") C g (by simp [bltN])
        split
        · split
          · exact di_bad
          · rename_i hs
            exact di_rev C (S.gl hg.1) hm (k.E X z _ C S) (star_cons (by simpa using hs))
        · exact di_bad
      · exact di_over C (k.E X z _ C S)
    · exact di_over C (k.E X z _ C S)
  · exact di_over C (k.E X z _ C S)

/-! ### assignments -/
theorem par_len {sc : Scope} {l : Nat} : ∀ {ts : List Expr}, parN sc l ts = true → (namesE ts).length = ts.length
  | [], _ => rfl
  | t :: r, h => by
    cases t <;> simp only [parN] at h <;> try (cases h; done)
    rw [Bool.and_eq_true] at h
    show (namesE r).length + 1 = _
    rw [par_len h.2]; rfl
theorem par_names {sc : Scope} {l : Nat} (f : Expr → Option Str) (hf : ∀ y q, f (.Name y q) = if (sc.names.lookup y == some .local && q.line == l) = true then some y else none) : ∀ {ts : List Expr}, parN sc l ts = true → ts.filterMap f = namesE ts
  | [], _ => rfl
  | t :: r, h => by
    cases t <;> simp only [parN] at h <;> try (cases h; done)
    rename_i y q
    rw [Bool.and_eq_true, Bool.and_eq_true, decide_eq_true_eq] at h
    rw [List.filterMap_cons, hf]
    simp only [h.1.1, h.1.2, beq_self_eq_true, Bool.and_self, if_true]
    rw [par_names f hf h.2]; rfl
theorem noStar_any (f : Expr → Bool) (hf : ∀ e, starB e = false → f e = false) {vs : List Expr} (h : noStar vs = true) : vs.any f = false := by
  induction vs with
  | nil => rfl
  | cons v vs ih =>
    obtain ⟨h1, h2⟩ := noStar_cons h
    rw [List.any_cons, ih h2, hf v h1]; rfl
theorem dups_len {l : List Str} (h : l.Nodup) : l.eraseDups.length = l.length := by
  have key : ∀ (l : List Str), l.Nodup → l.eraseDups = l := by
    intro l
    induction l with
    | nil => intro _; simp
    | cons a l ih =>
      intro h
      rw [List.nodup_cons] at h
      rw [List.eraseDups_cons]
      have : l.filter (fun b => !b == a) = l := by
        rw [List.filter_eq_self]
        intro b hb
        rw [Bool.not_eq_true', beq_eq_false_iff_ne]
        intro e
        exact h.1 (e ▸ hb)
      rw [this, ih h.2]
  rw [key l h]
theorem par_some {ts vs : List Expr} {k1 k2 : Nat} {p1 p2 : Pos} (S : Sok X G.N z) (h : parB z.sc ts vs = true) (hl : ts.length = 2 ∨ ts.length = 3) (h1 : vs.all (foldedForSure 8) = false) (h2 : vs.all (constantsAlone 8) = false) :
    swappedStores [.Tuple ts k1 p1] (.Tuple vs k2 p2) X.env = pure (some (namesE ts)) := by
  have hb : X.env.blockKind = .function := by unfold PySem.Env.blockKind; rw [S.sc, S.kind]; rfl
  unfold parB at h
  simp only [Bool.and_eq_true, decide_eq_true_eq] at h
  obtain ⟨a1, a2, a3, a4⟩ := h
  have b2 := par_len a1
  have hline : (ts.head?.map (·.pos.line)).getD 0 = lineE ts := by cases ts <;> rfl
  have hk : ∀ y, X.env.kindOf y = z.sc.names.lookup y := fun y => by show X.env.scope.names.lookup y = _; rw [S.sc]
  unfold swappedStores
  simp only [hb, hline, hk]
  have c1 : (!(ts.length == 2 || ts.length == 3) || vs.length != ts.length || ScopeKind.function != ScopeKind.function) = false := by
    rw [a2]
    rcases hl with hl | hl <;> rw [hl] <;> rfl
  rw [c1, par_names (sc := z.sc) (l := lineE ts) _ (fun _ _ => rfl) a1, noStar_any _ (fun e he => by cases e <;> first | rfl | cases he) a3]
  simp only [Bool.false_eq_true, if_false, b2, dups_len a4, bne_self_eq_false, Bool.or_self, h1, h2]
theorem par_none {ts vs : List Expr} {k1 k2 : Nat} {p1 p2 : Pos} (S : Sok X G.N z) (h : parB z.sc ts vs = true) (h1 : vs.all (foldedForSure 8) = true) :
    swappedStores [.Tuple ts k1 p1] (.Tuple vs k2 p2) X.env = pure none := by
  unfold parB at h
  simp only [Bool.and_eq_true, decide_eq_true_eq] at h
  obtain ⟨a1, a2, a3, a4⟩ := h
  have b2 := par_len a1
  have hline : (ts.head?.map (·.pos.line)).getD 0 = lineE ts := by cases ts <;> rfl
  have hk : ∀ y, X.env.kindOf y = z.sc.names.lookup y := fun y => by show X.env.scope.names.lookup y = _; rw [S.sc]
  unfold swappedStores
  simp only [hline, hk]
  rw [par_names (sc := z.sc) (l := lineE ts) _ (fun _ _ => rfl) a1, noStar_any _ (fun e he => by cases e <;> first | rfl | cases he) a3]
  simp only [h1, if_true, Bool.false_eq_true, if_false, ite_self]
theorem par_less {sc : Scope} {l : Nat} (f : Expr → Option Str) (hf : ∀ y q, f (.Name y q) = if (sc.names.lookup y == some .local && q.line == l) = true then some y else none) (hf2 : ∀ t, (∀ y q, t = .Name y q → False) → f t = none) : ∀ {ts : List Expr}, parN sc l ts = false → (ts.filterMap f).length < ts.length
  | [], h => by cases h
  | t :: r, h => by
    have hle : ∀ r : List Expr, (r.filterMap f).length ≤ r.length := fun r => List.length_filterMap_le _ _
    rw [List.filterMap_cons]
    cases hq : f t with
    | none => exact Nat.lt_succ_of_le (hle r)
    | some y0 =>
      refine Nat.succ_lt_succ (par_less f hf hf2 (ts := r) ?_)
      by_cases hn : ∃ y q, t = .Name y q
      · obtain ⟨y, q, rfl⟩ := hn
        rw [hf] at hq
        simp only [parN] at h
        split at hq
        · rename_i hc
          rw [Bool.and_eq_true, beq_iff_eq] at hc
          rw [hc.1, hc.2] at h
          simpa using h
        · cases hq
      · rw [hf2 t fun y q e => hn ⟨y, q, e⟩] at hq
        cases hq
theorem par_none' {ts vs : List Expr} {k1 k2 : Nat} {p1 p2 : Pos} (S : Sok X G.N z) (h : parN z.sc (lineE ts) ts = false) :
    swappedStores [.Tuple ts k1 p1] (.Tuple vs k2 p2) X.env = pure none := by
  have hline : (ts.head?.map (·.pos.line)).getD 0 = lineE ts := by cases ts <;> rfl
  have hk : ∀ y, X.env.kindOf y = z.sc.names.lookup y := fun y => by show X.env.scope.names.lookup y = _; rw [S.sc]
  unfold swappedStores
  simp only [hline, hk]
  split
  · rfl
  split
  · rfl
  split
  · rfl
  · rename_i hc
    exfalso
    rw [Bool.not_eq_true, Bool.or_eq_false_iff, bne_eq_false_iff_eq] at hc
    refine absurd hc.1 (Nat.ne_of_lt (par_less (sc := z.sc) (l := lineE ts) _ (fun _ _ => rfl) (fun t ht => ?_) h))
    cases t with
    | Name y q => exact (ht y q rfl).elim
    | _ => rfl
theorem tup_none {ts : List Expr} {k1 : Nat} {p1 : Pos} (h : ∀ vs k p, e = .Tuple vs k p → False) : swappedStores [.Tuple ts k1 p1] e X.env = pure none := by
  unfold swappedStores
  cases e with
  | Tuple vs k p => exact (h vs k p rfl).elim
  | _ => rfl
theorem parN_cons {sc : Scope} {l : Nat} {t : Expr} {r : List Expr} (h : parN sc l (t :: r) = true) : ∃ y q, t = .Name y q ∧ sc.names.lookup y = some .local ∧ parN sc l r = true := by
  cases t <;> simp only [parN] at h <;> try (cases h; done)
  rename_i y q
  rw [Bool.and_eq_true, Bool.and_eq_true, decide_eq_true_eq] at h
  exact ⟨y, q, rfl, h.1.1, h.2⟩
theorem cTgs_cons {y : Str} {q : Pos} {r : List Expr} {i : Nat} {is : List Nat} (h : cTgs G z (.Name y q :: r) = some (i :: is)) : posN y G.N 0 = some i ∧ cTgs G z r = some is := by
  simp only [cTgs] at h
  split at h
  · split at h
    · rename_i a b; cases h; exact ⟨a, b⟩
    · cases h
  · cases h
theorem ds_par3 {i j l : Nat} {x y u : Str} {a b d : Expr} {r : SA} {px py pu pt : Pos} {kt k2 : Nat} {pt2 : Pos} (C : Cok W n X) (hi : X.N[i]? = some x) (hj : X.N[j]? = some y) (hl : X.N[l]? = some u) (hij : i ≠ j) (hil : i ≠ l) (hjl : j ≠ l)
    (hx : X.env.scope.names.lookup x = some .local) (hy : X.env.scope.names.lookup y = some .local) (hu : X.env.scope.names.lookup u = some .local) (ha : DA W c X [a, b, d] r)
    (hw : swappedStores [.Tuple [.Name x px, .Name y py, .Name u pu] kt pt] (.Tuple [a, b, d] k2 pt2) X.env = pure (some [x, y, u])) :
    DS W c X (.Assign [.Tuple [.Name x px, .Name y py, .Name u pu] kt pt] (.Tuple [a, b, d] k2 pt2) pos) (sPar [i, j, l] r) :=
  PS.imp (ps_par3 C.calm C.nd hi hj hl hij hil hjl hx hy hu ha hw) fun D σ H ⟨m, ρ, h, fl, h', rs, rh, e, q⟩ => by
    obtain ⟨ds, h1, e1, e⟩ := Out.bind_ok e
    split at e
    · rename_i hl
      cases e
      refine ⟨m, ρ, h, ds, _, rs, rh, e1, fun m1 H1 x1 r1 vs rv => ?_⟩
      match ds, hl, rv with
      | [d1, d2, d3], _, .cons q1 (.cons q2 (.cons q3 .nil)) => exact ⟨_, _, _, rfl, q m1 H1 x1 r1 _ ((((rs.ext x1).set i q1).set j q2).set l q3)⟩
    · cases e
theorem asgT_ok (C : Cok W n X) (S : Sok X G.N z) (k : Snd W n c G K) {ts vs : List Expr} {k1 k2 : Nat} {p1 p2 : Pos} : DS W c X (.Assign [.Tuple ts k1 p1] (.Tuple vs k2 p2) pos) (cAsgT G K z ts vs (.Tuple vs k2 p2)) := by
  unfold cAsgT
  split
  · rename_i hp
    rw [Bool.not_eq_true'] at hp
    split
    · rename_i is hi
      obtain ⟨h1, h2, h3, h4⟩ := tgs_each C S hi
      have hg : PG X (.Tuple ts k1 p1) (gT X.K (.many is)) := pg_tup C.calm h1 h3 h4
      exact ds_tup C hg (k.E X z _ C S) (noSwap (e := .Tuple vs k2 p2) (t := some (.Tuple ts k1 p1)) (l := pos.line) (env := X.env) rfl) (par_none' S hp) rfl
    · exact ds_bad
  split
  · rename_i hp
    have hp1 : parN z.sc (lineE ts) ts = true := by
      unfold parB at hp
      rw [Bool.and_eq_true] at hp
      exact hp.1
    split
    · rename_i hf
      split
      · rename_i is hi
        obtain ⟨h1, h2, h3, h4⟩ := tgs_each C S hi
        have hg : PG X (.Tuple ts k1 p1) (gT X.K (.many is)) := pg_tup C.calm h1 h3 h4
        exact ds_tup C hg (k.E X z _ C S) (noSwap (e := .Tuple vs k2 p2) (t := some (.Tuple ts k1 p1)) (l := pos.line) (env := X.env) rfl) (par_none S hp hf) rfl
      · exact ds_bad
    split
    · exact ds_bad
    rename_i hf hc
    rw [Bool.not_eq_true] at hf hc
    split
    · rename_i t1 t2 v1 v2
      split
      · rename_i i j hi
        split
        · exact ds_bad
        · rename_i hij
          have hw := par_some (k1 := k1) (k2 := k2) (p1 := p1) (p2 := p2) S hp (.inl rfl) hf hc
          obtain ⟨y1, q1, rfl, l1, r1⟩ := parN_cons hp1
          obtain ⟨y2, q2, rfl, l2, r2⟩ := parN_cons r1
          obtain ⟨g1, g2⟩ := cTgs_cons hi
          obtain ⟨g3, g4⟩ := cTgs_cons g2
          exact ds_par C (S.ix g1) (S.ix g3) hij (by rw [S.sc]; exact l1) (by rw [S.sc]; exact l2) (k.A X z _ C S) hw
      · exact ds_bad
    · rename_i t1 t2 t3 v1 v2 v3
      split
      · rename_i i j l hi
        split
        · exact ds_bad
        · rename_i hij
          have hw := par_some (k1 := k1) (k2 := k2) (p1 := p1) (p2 := p2) S hp (.inr rfl) hf hc
          obtain ⟨y1, q1, rfl, l1, r1⟩ := parN_cons hp1
          obtain ⟨y2, q2, rfl, l2, r2⟩ := parN_cons r1
          obtain ⟨y3, q3, rfl, l3, r3⟩ := parN_cons r2
          obtain ⟨g1, g2⟩ := cTgs_cons hi
          obtain ⟨g3, g4⟩ := cTgs_cons g2
          obtain ⟨g5, g6⟩ := cTgs_cons g4
          exact ds_par3 C (S.ix g1) (S.ix g3) (S.ix g5) (fun q => hij (.inl q)) (fun q => hij (.inr (.inl q))) (fun q => hij (.inr (.inr q))) (by rw [S.sc]; exact l1) (by rw [S.sc]; exact l2) (by rw [S.sc]; exact l3) (k.A X z _ C S) hw
      · exact ds_bad
    · exact ds_bad
  · exact ds_bad
theorem asg_ok (C : Cok W n X) (S : Sok X G.N z) (k : Snd W n c G K) {tg : Expr} : DS W c X (.Assign [tg] e pos) (cAsg G K z tg e) := by
  unfold cAsg
  split
  · rename_i y py
    split
    · rename_i hl
      obtain ⟨l1, l2⟩ := S.loc hl
      split
      · rename_i i hi
        split
        · rename_i elt tg' iter ifs j scope cpos
          rcases compC_ok (W := W) (c := c) C S k (elt := elt) (tg := tg') (iter := iter) (ifs := ifs) (j := j) (scope := scope) with h | ⟨h0, own, t, fi, ft, fel, h, h1, h2, h3, h4, h5, h6, h7⟩
          · rw [h]
            exact ⟨fun _ _ _ _ _ _ ⟨_, _, _, _, _, _, _, q, _⟩ => by cases q⟩
          · subst h0
            rw [h]
            have hk : X.env.scope.kind = .function := by rw [S.sc]; exact S.kind
            cases hc : (X.env.scope.names.lookup y != some .local || !(py.line == cpos.line) || (scope.names.any fun (n, k) => n == y && (k == .local || k == .cell)))
            · simp only [Bool.or_eq_false_iff, Bool.not_eq_false', bne_eq_false_iff_eq] at hc
              exact ds_setLc C (S.ix hi) hc.1.1 hk hc.1.2 hc.2 h1 h2 h3 h4 h5 h6 h7
            · exact ds_set C.nd (S.ix hi) l1 (de_lc C h1 h2 h3 h4 h5 h6 h7) (ds_setLcF (spos := pos) hk hc) l2
        · split
          · exact ds_bad
          · rename_i hc
            exact ds_set C.nd (S.ix hi) l1 (k.E X z _ C S) (noSwap (by simpa using hc)) l2
      · exact ds_bad
    · exact ds_bad
  · rename_i ts kt pt
    split
    · exact asgT_ok C S k
    · rename_i hn
      split
      · exact ds_bad
      · rename_i hc
        split
        · rename_i is hi
          obtain ⟨h1, h2, h3, h4⟩ := tgs_each C S hi
          have hg : PG X (.Tuple ts kt pt) (gT X.K (.many is)) := pg_tup C.calm h1 h3 h4
          exact ds_tup C (is := is) hg (k.E X z _ C S) (noSwap (t := some (.Tuple ts kt pt)) (l := pos.line) (env := X.env) (by simpa using hc)) (tup_none fun vs k p q => hn vs k p q) rfl
        · exact ds_bad
  · rename_i o i sp
    split
    · exact ds_bad
    · rename_i hc
      rw [Bool.not_eq_true, Bool.or_eq_false_iff] at hc
      refine ds_sub C (k.E X z _ C S) (k.E X z _ C S) (k.E X z _ C S) (fun v => ?_) (noSwap (t := some (.Subscript o i sp)) (l := pos.line) (env := X.env) hc.1)
      cases i with
      | Slice => cases hc.2
      | _ => rfl
  · exact ds_bad
theorem stmts_ok (C : Cok W n X) (S : Sok X G.N z) (k : Snd W n c G K) {s : Stmt} : DS W c X s (stepS G K z s) := by
  unfold stepS
  split
  · exact ds_pass
  · exact ds_break
  · exact ds_cont
  · split
    · exact ds_bad
    · rename_i hc
      exact ds_expr (k.E X z _ C S) (noSwap (by simpa using hc))
  · exact ds_ret (k.E X z _ C S)
  · exact ds_retN
  · exact ds_if (k.T X z _ C S) (k.B X z _ C S) (k.B X z _ C S)
  · split
    · rename_i t ht
      split
      · exact ds_bad
      · rename_i hs
        exact ds_for C (k.I X z _ _ C S) (tg_ok C S ht) (k.B X z _ C S) (notFolded (by simpa using hs))
    · exact ds_bad
  · exact ds_while C (k.T X z _ C S) (k.B X z _ C S)
  · exact asg_ok C S k
  · split
    · rename_i hl
      obtain ⟨l1, l2⟩ := S.loc hl
      split
      · rename_i i hi
        exact ds_aug C.nd (S.ix hi) l1 (k.E X z _ C S) iadd_ok l2
      · exact ds_bad
    · exact ds_bad
  · exact ds_bad
theorem block_ok (C : Cok W n X) (S : Sok X G.N z) (k : Snd W n c G K) {s : List Stmt} : DB W c X s (stepB K z s) := by
  cases s with
  | nil => exact db_nil
  | cons s r => exact db_cons (k.S X z _ C S) (k.B X z _ C S)
theorem snd_step (g : Gok W n c G) (k : Snd W n c G K) : Snd W n c G (stepC G K) :=
  ⟨fun X z e C S => exprs_ok C S g k, fun X z es C S => args_ok C S k, fun X z e C S => tests_ok C S k, fun X z op es p C S => bool_ok C S k, fun X z tg e C S => iter_ok C S g k, fun X z s C S => stmts_ok C S k, fun X z s C S => block_ok C S k⟩
theorem snd_all (g : Gok W n c G) : ∀ d, Snd W n c G (compN G d)
  | 0 => snd_no
  | d + 1 => snd_step g (snd_all g d)
end

end Cw

end

section
/-! Defs, the table of a law's defs, the head's own Hook. -/
namespace Cw
open PySem PySem.Spec PyProof.Rows L2

/-! ### defs -/
def depth : Nat := 200
/-- the reading of a def's body -/
def bodyOf (G : CE) (st : Stmt) : SS := (compN G depth).B ⟨defScope st, fun _ => true⟩ (defBody st)
def startE (nN : Nat) (ds : List D) : Env := ds.map some ++ List.replicate (nN - ds.length) none
/-- a call's outcome -/
def callOut (nN : Nat) (b : SS) (c : CallF) (ds : List D) (h : AH) : Out D := (b c (startE nN ds) h).bind fun fl h1 => match fl with
  | .nx _ => .ok .non h1
  | .rt d => .ok d h1
  | _ => .bad
abbrev TabF := Nat → Option (Nat × SS)
/-- calls to a depth -/
def callN (T : TabF) : Nat → CallF
  | 0 => fun _ _ _ => .bad
  | n + 1 => fun f ds h => match f with
    | .fn k => (match T k with
      | some (nN, b) => callOut nN b (callN T n) ds h
      | none => .bad)
    | .me _ _ => .bad
section
variable {W : Wk} {n : Nat} {c : CallF} {G : CE} {m : List Addr} {H : Hp}
theorem start_rel {nN : Nat} {N : List Str} {ds : List D} {vs : List V} (hN : N.length = nN) (r : RDs W.K m H ds vs) : RelS W.K m H (startE nN ds) (L2.start N vs) := by
  unfold startE L2.start
  refine ⟨by simp [r.length, hN], fun i d e => ?_⟩
  by_cases hi : i < ds.length
  · rw [List.getElem?_append_left (by simpa using hi), List.getElem?_map] at e
    cases q : ds[i]? with
    | none => rw [q] at e; cases e
    | some d0 =>
      rw [q] at e
      cases e
      obtain ⟨v, hv, rv⟩ := r.get q
      refine ⟨v, ?_, rv⟩
      rw [List.getElem?_append_left (by rw [List.length_map, ← r.length]; exact hi), List.getElem?_map, hv]
      rfl
  · rw [List.getElem?_append_right (by simpa using hi), List.getElem?_replicate] at e
    split at e <;> cases e
abbrev FnP (K : PySem.W.Frag) (x : Str) (st : Stmt) (dvs : List V) (kws : List (Str × V)) (f : Addr) (fd : FuncData) : Prop := FunD K x x (defArgs st) (defBody st) (defScope st) dvs kws f fd
/-- a def's promise at the next level, by its body -/
theorem fnOk_of {x : Str} {st : Stmt} {dvs0 : List V} {kws0 : List (Str × V)} {f : Addr} {fd : FuncData} {ps : List Str} {ar key : Nat} {c' : CallF} (g : Gok W n c G) (F : FnP W.K x st dvs0 kws0 f fd) (S : FnScope G.N ps (defScope st)) (ha : ps.length = ar)
    (hc : ∀ ds h, c' (.fn key) ds h = callOut G.N.length (bodyOf G st) c ds h) : FnOk W.P W.w W.K W.mg W.base C8.CX0 (n + 1) f fd ps (spC W c' (.fn key) ar) := by
  refine F.ok S (fun vs H Q E h => h.1.trans ha.symm) fun cdv A outer s H vs Q E hr ⟨hl, m, h, ds, d0, h', rh, rd, e, q⟩ => ?_
  have C : Cok W n (cxOf C8.CX0 W.P W.w W.K W.mg W.base G.N x (defScope st) f cdv A outer s H E).nox := ⟨rfl, rfl, rfl, rfl, rfl, rfl, hr, S.nd, PassesOwn.never⟩
  have SO : Sok (cxOf C8.CX0 W.P W.w W.K W.mg W.base G.N x (defScope st) f cdv A outer s H E).nox G.N ⟨defScope st, fun _ => true⟩ := ⟨rfl, rfl, S.kind, fun _ _ => rfl⟩
  refine ⟨_, PSs.nox ((snd_all g depth).B _ _ (defBody st) C SO), ?_⟩
  rw [hc] at e
  obtain ⟨fl, h1, e1, e2⟩ := Out.bind_ok e
  refine ⟨m, _, h, fl, h1, start_rel rfl rd, rh, e1, fun m' H' x r => ?_⟩
  cases fl with
  | nx ρ => cases e2; exact fun σ _ => q m' H' x r _ .non
  | rt d => cases e2; exact fun v rv => q m' H' x r v rv
  | bk ρ => cases e2
  | ct ρ => cases e2
/-- a def as the head tells of it, its reading in the table -/
structure Ent (K : PySem.W.Frag) (mg : Str → Option Value) (FN : List (Str × (Nat × Nat × List D))) (GL : List (Str × D)) (T : TabF) (x : Str) (k ar : Nat) (dfl : List D) : Prop where
  ex : ∃ (st : Stmt) (dvs0 : List V) (kws0 : List (Str × V)) (f : Addr) (fd : FuncData) (ps N : List Str) (dss : List Value) (dvs : List V), FnP K x st dvs0 kws0 f fd ∧ mg x = some (.ref f) ∧ Binds K fd ps dss ∧ Vals dvs dss ∧ FnScope N ps (defScope st) ∧ ps.length = ar ∧
    (∀ m H, RDs K m H dfl dvs) ∧ T k = some (N.length, bodyOf ⟨N, FN, GL⟩ st)
def EntAll (K : PySem.W.Frag) (mg : Str → Option Value) (FN : List (Str × (Nat × Nat × List D))) (GL : List (Str × D)) (T : TabF) : List (Str × (Nat × Nat × List D)) → Prop
  | [] => True
  | (x, k, ar, dfl) :: r => Ent K mg FN GL T x k ar dfl ∧ EntAll K mg FN GL T r
theorem EntAll.at_ {K : PySem.W.Frag} {mg : Str → Option Value} {FN : List (Str × (Nat × Nat × List D))} {GL : List (Str × D)} {T : TabF} : ∀ {l : List (Str × (Nat × Nat × List D))}, EntAll K mg FN GL T l → ∀ {x : Str} {k ar : Nat} {dfl : List D}, l.lookup x = some (k, ar, dfl) → Ent K mg FN GL T x k ar dfl
  | [], _, _, _, _, _, h => by cases h
  | (y, k', ar', dfl') :: r, e, x, k, ar, dfl, h => by
    rw [List.lookup_cons] at h
    split at h
    · rename_i q
      cases h
      rw [eq_of_beq q]
      exact e.1
    · exact EntAll.at_ e.2 h
theorem gok_all {FN : List (Str × (Nat × Nat × List D))} {GL : List (Str × D)} {T : TabF} (blt : ∀ x, x ∈ bltN → W.mg x = none) (gl : ∀ x d, GL.lookup x = some d → ∃ v u, W.mg x = some u ∧ RelV v u ∧ ∀ m H, RD W.K m H d v)
    (fn : EntAll W.K W.mg FN GL T FN) : ∀ (n : Nat) (N : List Str), Gok W n (callN T n) ⟨N, FN, GL⟩
  | 0, N => ⟨blt, gl, fun x k ar dfl h => by
      obtain ⟨st, dvs0, kws0, f, fd, ps, N', dss, dvs, F, hm, b, d, S, ha, rd, ht⟩ := (fn.at_ h).ex
      exact ⟨dvs, ⟨f, fd, ps, dss, ⟨fun vs H Q E q => q.1.trans ha.symm, fun A outer s H args us vs Q E _ _ _ _ ⟨_, _, _, _, _, _, _, _, e, _⟩ => by cases e⟩, hm, F.kp, b, d⟩, rd⟩⟩
  | n + 1, N => ⟨blt, gl, fun x k ar dfl h => by
      obtain ⟨st, dvs0, kws0, f, fd, ps, N', dss, dvs, F, hm, b, d, S, ha, rd, ht⟩ := (fn.at_ h).ex
      refine ⟨dvs, ⟨f, fd, ps, dss, ?_, hm, F.kp, b, d⟩, rd⟩
      refine fnOk_of (G := ⟨N', FN, GL⟩) (gok_all blt gl fn n N') F S ha fun ds h => ?_
      show (match T k with
        | some (nN, b) => callOut nN b (callN T n) ds h
        | none => Out.bad) = _
      rw [ht]⟩
/-- a def whose parameters are all written -/
theorem ent_plain {K : PySem.W.Frag} {mg : Str → Option Value} {FN : List (Str × (Nat × Nat × List D))} {GL : List (Str × D)} {T : TabF} {x : Str} {k ar : Nat} {st : Stmt} {kws : List (Str × V)} {f : Addr} {fd : FuncData} {ps N : List Str} {b : SS}
    (F : FnP K x st [] kws f fd) (hm : mg x = some (.ref f)) (hb : ∀ (kV doc pm : Value) (an : Option Addr) (cdv ct : Value) (us : List Value), us.length = ps.length → bindArgs (PySem.W.fnOf x x (defArgs st) (defBody st) (defScope st) .none kV doc pm an cdv ct) ⟨us, []⟩ = pure (ps.zip us))
    (S : C8.scC N ps (defScope st) = true) (ha : ps.length = ar) (hB : bodyOf ⟨N, FN, GL⟩ st = b) (hT : T k = some (N.length, b)) : Ent K mg FN GL T x k ar [] :=
  ⟨st, [], kws, f, fd, ps, N, [], [], F, hm, F.bindsN hb, .nil, C8.fnScope_by S, ha, fun _ _ => .nil, by rw [hB]; exact hT⟩
/-- .. with keyword-only defaults -/
theorem ent_kw {K : PySem.W.Frag} {mg : Str → Option Value} {FN : List (Str × (Nat × Nat × List D))} {GL : List (Str × D)} {T : TabF} {x : Str} {k ar j : Nat} {st : Stmt} {kws : List (Str × V)} {f : Addr} {fd : FuncData} {ps N : List Str} {dfl : List D} {b : SS}
    (F : FnP K x st [] kws f fd) (hm : mg x = some (.ref f)) (hk : kws ≠ []) (hn : j + kws.length = ps.length)
    (hb : ∀ (D : Addr) (doc pm : Value) (an : Option Addr) (cdv ct : Value) (us ks : List Value), us.length = j → ks.length = kws.length → KwChain D ((kws.map (·.1)).zip ks) (bindArgs (PySem.W.fnOf x x (defArgs st) (defBody st) (defScope st) .none (.ref D) doc pm an cdv ct) ⟨us, []⟩) (ps.zip (us ++ ks)))
    (S : C8.scC N ps (defScope st) = true) (ha : ps.length = ar) (rd : ∀ m H, RDs K m H dfl (kws.map (·.2))) (hB : bodyOf ⟨N, FN, GL⟩ st = b) (hT : T k = some (N.length, b)) : Ent K mg FN GL T x k ar dfl := by
  obtain ⟨ds, r, bb⟩ := F.binds0 j hk hn hb
  exact ⟨st, [], kws, f, fd, ps, N, ds, _, F, hm, bb, r, C8.fnScope_by S, ha, rd, by rw [hB]; exact hT⟩
end

/-! ### the head's Hook: the names' objects and what they name -/
def asT (xs : List Str) (g : Addr → Option Obj) : List Addr :=
  (fun fs => mainGlobals :: (fs ++ fs.flatMap fun a => match g a with
    | some o => He.refsD o
    | none => [])) (xs.map fun x => He.ga (He.frG g [mainGlobals]) x)
def obsK (ck : PySem.W.Frag → Bool) (fa : List He.Fa) (fn : List He.DefD) (K : PySem.W.Frag) : He.AlD := (ck K && (He.obsD fa fn K).1, (He.obsD fa fn K).2)
def obsT (xs : List Str) (ck : PySem.W.Frag → Bool) (fa : List He.Fa) (fn : List He.DefD) (g : Addr → Option Obj) : He.AlD := obsK ck fa fn (He.frG g (asT xs g))
def hookT (xs : List Str) (ck : PySem.W.Frag → Bool) (fa : List He.Fa) (fn : List He.DefD) : PySem.W.Hook where
  α := He.AlD
  obs := fun s => obsT xs ck fa fn s.heap.get?
  val := fun _ => He.valD fn
  says := fun _ h => ∃ K : PySem.W.Frag, K.In h ∧ ck K = true ∧ He.SaysD fa fn K
  of := fun _ _ e => by
    have e1 := congrArg (fun z : He.AlD => z.1) e
    have e2 := congrArg (fun z : He.AlD => z.2) e
    obtain ⟨h1, h2⟩ := He.ba e1
    exact ⟨_, He.frG_in, h1, Prod.ext h2 e2⟩
  keeps := fun _ _ _ ⟨K, hK, c⟩ k => ⟨K, PySem.W.Frag.In.keeps hK k, c⟩
theorem obsT_eq {xs : List Str} {ck : PySem.W.Frag → Bool} {fa : List He.Fa} {fn : List He.DefD} {g : Addr → Option Obj} {s : Shared} (h : ∀ a, g a = s.heap.get? a) : obsT xs ck fa fn g = (hookT xs ck fa fn).obs s := by
  have e : g = s.heap.get? := funext h
  rw [e] <;> rfl
theorem says_fact {fa : List He.Fa} {fn : List He.DefD} {K : PySem.W.Frag} (c : He.SaysD fa fn K) {f : He.Fa} (h : f ∈ fa) : f.ok K = true := by
  obtain ⟨i, hi⟩ := List.getElem?_of_mem h
  exact c.fact i hi
theorem free_all {fa : List He.Fa} {fn : List He.DefD} {K : PySem.W.Frag} {h : Heap} {mg : Str → Option Value} (X : K.In h) (G : h.Ns mainGlobals mg) (c : He.SaysD fa fn K) {xs : List Str} (hs : ∀ x ∈ xs, He.Fa.free x ∈ fa) : ∀ x, x ∈ xs → mg x = none :=
  fun x hx => He.free_ok X G (says_fact c (hs x hx))
/-- the script as the law's argument -/
theorem script_rd {K : PySem.W.Frag} {H : Hp} {a : Addr} {ns : List Int} (hO : Only H) (hS : SqL K H a (ns.map V.int)) : RD K [] H (.fl (ns.map D.int)) (.ref a) := by
  refine .fl ?_ (RDs.ints ns)
  rcases hS with (h | ⟨o, h⟩) | h
  · rcases hO a with q | ⟨o, xs, q⟩
    · rw [q] at h; cases h
    · rw [q] at h; cases h
  · exact .inl ⟨o, h⟩
  · exact .inr h
/-- the law's promise, from what its reading gives -/
theorem law_sp {W : Wk} {c : CallF} {k : Nat} {H : Hp} {a : Addr} {ns : List Int} (hO : Only H) (hS : SqL W.K H a (ns.map V.int)) (e : ∃ h', c (.fn k) [.fl (ns.map D.int)] [] = .ok (.bl true) h') :
    spC W c (.fn k) 1 [.ref a] H (fun v _ => v = .bl true) fun _ _ _ => False := by
  obtain ⟨h', e⟩ := e
  refine ⟨rfl, [], [], _, _, h', ⟨rfl, List.nodup_nil, fun n o b q => by simp at q⟩, .cons (script_rd hO hS) .nil, e, fun m' H' x r v rv => rv.bl_inv⟩
end Cw

end

section
/-! What a reading gives, told from behind: a calculus for simp. -/
namespace Cw
open L2

def sat {α : Type} (x : Out α) (Q : α → AH → Prop) : Prop := ∃ a h, x = .ok a h ∧ Q a h
section
variable {α β : Type} {c : CallF} {ρ : Env} {h h' : AH}
@[simp] theorem sat_ok {a : α} {Q : α → AH → Prop} : sat (.ok a h) Q ↔ Q a h := by
  unfold sat
  constructor
  · rintro ⟨_, _, e, q⟩; cases e; exact q
  · exact fun q => ⟨_, _, rfl, q⟩
@[simp] theorem sat_bad {Q : α → AH → Prop} : sat (.bad : Out α) Q ↔ False := by
  unfold sat
  constructor
  · rintro ⟨_, _, e, q⟩; cases e
  · exact False.elim
@[simp] theorem sat_ex {Q : α → AH → Prop} {k : Nat} {fs : List D} : sat (.ex k fs h : Out α) Q ↔ False := by
  unfold sat
  constructor
  · rintro ⟨_, _, e, q⟩; cases e
  · exact False.elim
@[simp] theorem sat_bind {x : Out α} {f : α → AH → Out β} {Q : β → AH → Prop} : sat (x.bind f) Q ↔ sat x fun a h1 => sat (f a h1) Q := by
  cases x <;> simp [Out.bind]
theorem sat.imp {x : Out α} {Q R : α → AH → Prop} (s : sat x Q) (k : ∀ a h, Q a h → R a h) : sat x R := by
  obtain ⟨a, h, e, q⟩ := s
  exact ⟨a, h, e, k a h q⟩
@[simp] theorem sat_ite {p : Prop} [Decidable p] {x y : Out α} {Q : α → AH → Prop} : sat (if p then x else y) Q ↔ if p then sat x Q else sat y Q := by
  split <;> rfl

@[simp] theorem s_var {i : Nat} {Q : D → AH → Prop} : sat (eVar i c ρ h) Q ↔ ∃ d, ρ[i]? = some (some d) ∧ Q d h := by
  unfold eVar
  split
  · rename_i d hd; simp [hd]
  · rename_i hd
    simp only [sat_bad, false_iff]
    rintro ⟨d, e, _⟩
    exact hd d e
@[simp] theorem s_c {d : D} {Q : D → AH → Prop} : sat (eC d c ρ h) Q ↔ Q d h := sat_ok
@[simp] theorem s_un {g : D → AH → Out D} {a : SE} {Q : D → AH → Prop} : sat (eUn g a c ρ h) Q ↔ sat (a c ρ h) fun x h1 => sat (g x h1) Q := sat_bind
@[simp] theorem s_bin {g : D → D → AH → Out D} {a b : SE} {Q : D → AH → Prop} : sat (eBin g a b c ρ h) Q ↔ sat (a c ρ h) fun x h1 => sat (b c ρ h1) fun y h2 => sat (g x y h2) Q := by
  unfold eBin; simp
@[simp] theorem s_nil {Q : List D → AH → Prop} : sat (aNil c ρ h) Q ↔ Q [] h := sat_ok
@[simp] theorem s_cons {a : SE} {r : SA} {Q : List D → AH → Prop} : sat (aCons a r c ρ h) Q ↔ sat (a c ρ h) fun x h1 => sat (r c ρ h1) fun xs h2 => Q (x :: xs) h2 := by
  unfold aCons; simp
@[simp] theorem s_tup {r : SA} {Q : D → AH → Prop} : sat (eTup r c ρ h) Q ↔ sat (r c ρ h) fun xs h1 => xs.length ≤ 1000 ∧ Q (.tup xs) h1 := by
  unfold eTup
  simp only [sat_bind, sat_ite, sat_ok, sat_bad]
  constructor <;> intro s <;> refine s.imp fun xs h1 q => ?_
  · split at q
    · exact ⟨by assumption, q⟩
    · cases q
  · rw [if_pos q.1]; exact q.2
@[simp] theorem s_lst {r : SA} {Q : D → AH → Prop} : sat (eLst r c ρ h) Q ↔ sat (r c ρ h) fun xs h1 => xs.length ≤ 1000 ∧ Q (.ob h1.length) (h1 ++ [.lst xs]) := by
  unfold eLst
  simp only [sat_bind, sat_ite, sat_ok, sat_bad]
  constructor <;> intro s <;> refine s.imp fun xs h1 q => ?_
  · split at q
    · exact ⟨by assumption, q⟩
    · cases q
  · rw [if_pos q.1]; exact q.2
@[simp] theorem s_arg {g : List D → AH → Out D} {r : SA} {Q : D → AH → Prop} : sat (eArg g r c ρ h) Q ↔ sat (r c ρ h) fun xs h1 => sat (g xs h1) Q := sat_bind
@[simp] theorem s_call {f : Fk} {ar : Nat} {dfl : List D} {r : SA} {Q : D → AH → Prop} : sat (eCallD f ar dfl r c ρ h) Q ↔ sat (r c ρ h) fun xs h1 => (xs ++ dfl).length = ar ∧ sat (c f (xs ++ dfl) h1) Q := by
  unfold eCallD
  simp only [sat_bind, sat_ite, sat_bad]
  constructor <;> intro s <;> refine s.imp fun xs h1 q => ?_
  · split at q
    · exact ⟨by assumption, q⟩
    · cases q
  · rw [if_pos q.1]; exact q.2
@[simp] theorem s_lm {g : D → List D → AH → Out D} {a : SE} {r : SA} {Q : D → AH → Prop} : sat (eLm g a r c ρ h) Q ↔ sat (a c ρ h) fun x h1 => ∃ ds, getL h1 x = some ds ∧ sat (r c ρ h1) fun xs h2 => sat (g x xs h2) Q := by
  unfold eLm
  simp only [sat_bind]
  constructor <;> intro s <;> refine s.imp fun x h1 q => ?_
  · split at q
    · exact ⟨_, by assumption, sat_bind.mp q⟩
    · cases sat_bad.mp q
  · obtain ⟨ds, e, q⟩ := q
    rw [e]; exact sat_bind.mpr q
/-- by a truth -/
def brD (x : D) (A B : Prop) : Prop := match x with
  | .bl b => if b = true then A else B
  | _ => False
@[simp] theorem brD_bl {b : Bool} {A B : Prop} : brD (.bl b) A B ↔ if b = true then A else B := Iff.rfl
theorem brD_of {x : D} {A B : Prop} (q : brD x A B) : ∃ b, x = .bl b ∧ if b = true then A else B := by
  cases x <;> first | exact ⟨_, rfl, q⟩ | cases q
@[simp] theorem s_onB {x : D} {t f : Out D} {Q : D → AH → Prop} : sat (onB x t f) Q ↔ brD x (sat t Q) (sat f Q) := by
  cases x with
  | bl b => cases b <;> simp [onB]
  | _ => simp [onB, brD]
@[simp] theorem s_onBS {x : D} {t f : Out Fl} {Q : Fl → AH → Prop} : sat (onBS x t f) Q ↔ brD x (sat t Q) (sat f Q) := by
  cases x with
  | bl b => cases b <;> simp [onBS]
  | _ => simp [onBS, brD]
@[simp] theorem s_if {t a b : SE} {Q : D → AH → Prop} : sat (eIf t a b c ρ h) Q ↔ sat (t c ρ h) fun x h1 => brD x (sat (a c ρ h1) Q) (sat (b c ρ h1) Q) := by
  unfold eIf; simp
@[simp] theorem s_and {a b : SE} {Q : D → AH → Prop} : sat (eAnd a b c ρ h) Q ↔ sat (a c ρ h) fun x h1 => brD x (sat (b c ρ h1) Q) (Q (.bl false) h1) := by
  unfold eAnd; simp
@[simp] theorem s_or {a b : SE} {Q : D → AH → Prop} : sat (eOr a b c ρ h) Q ↔ sat (a c ρ h) fun x h1 => brD x (Q (.bl true) h1) (sat (b c ρ h1) Q) := by
  unfold eOr; simp
@[simp] theorem s_not {a : SE} {Q : D → AH → Prop} : sat (eNot a c ρ h) Q ↔ sat (a c ρ h) fun x h1 => brD x (Q (.bl false) h1) (Q (.bl true) h1) := by
  unfold eNot
  simp only [sat_bind, s_onB, sat_ok]
@[simp] theorem s_chain {g g' : D → D → AH → Out D} {a b d : SE} {Q : D → AH → Prop} : sat (eChain g g' a b d c ρ h) Q ↔ sat (a c ρ h) fun x h1 => sat (b c ρ h1) fun y h2 => sat (g x y h2) fun z h3 => brD z (sat (d c ρ h3) fun u h4 => sat (g' y u h4) Q) (Q (.bl false) h3) := by
  unfold eChain; simp
@[simp] theorem s_sl {a : SE} {lo hi : SO} {Q : D → AH → Prop} : sat (eSl a lo hi c ρ h) Q ↔ sat (a c ρ h) fun x h1 => sat (lo c ρ h1) fun l h2 => sat (hi c ρ h2) fun u h3 => sat (slD x l u h3) Q := by
  unfold eSl; simp
@[simp] theorem s_oN {Q : Option Int → AH → Prop} : sat (oNone c ρ h) Q ↔ Q none h := sat_ok
@[simp] theorem s_oS {a : SE} {Q : Option Int → AH → Prop} : sat (oSome a c ρ h) Q ↔ sat (a c ρ h) fun x h1 => ∃ i, x = .int i ∧ Q (some i) h1 := by
  unfold oSome
  simp only [sat_bind]
  constructor <;> intro s <;> refine s.imp fun x h1 q => ?_
  · split at q
    · exact ⟨_, rfl, sat_ok.mp q⟩
    · cases sat_bad.mp q
  · obtain ⟨i, rfl, q⟩ := q; exact sat_ok.mpr q
@[simp] theorem s_yes {Q : D → AH → Prop} : sat (eYes c ρ h) Q ↔ Q (.bl true) h := sat_ok

/-! statements -/
def thenQ (f : Env → AH → Out Fl) (Q : Fl → AH → Prop) : Fl → AH → Prop := fun fl h => match fl with
  | .nx ρ => sat (f ρ h) Q
  | fl => Q fl h
@[simp] theorem thenQ_nx {f : Env → AH → Out Fl} {Q : Fl → AH → Prop} : thenQ f Q (.nx ρ) h ↔ sat (f ρ h) Q := Iff.rfl
@[simp] theorem thenQ_rt {f : Env → AH → Out Fl} {Q : Fl → AH → Prop} {d : D} : thenQ f Q (.rt d) h ↔ Q (.rt d) h := Iff.rfl
@[simp] theorem thenQ_bk {f : Env → AH → Out Fl} {Q : Fl → AH → Prop} : thenQ f Q (.bk ρ) h ↔ Q (.bk ρ) h := Iff.rfl
@[simp] theorem thenQ_ct {f : Env → AH → Out Fl} {Q : Fl → AH → Prop} : thenQ f Q (.ct ρ) h ↔ Q (.ct ρ) h := Iff.rfl
@[simp] theorem s_sNil {Q : Fl → AH → Prop} : sat (sNil c ρ h) Q ↔ Q (.nx ρ) h := sat_ok
@[simp] theorem s_sBreak {Q : Fl → AH → Prop} : sat (sBreak c ρ h) Q ↔ Q (.bk ρ) h := sat_ok
@[simp] theorem s_sCont {Q : Fl → AH → Prop} : sat (sCont c ρ h) Q ↔ Q (.ct ρ) h := sat_ok
theorem s_seq {a b : SS} {Q : Fl → AH → Prop} : sat (sSeq a b c ρ h) Q ↔ sat (a c ρ h) (thenQ (b c) Q) := by
  unfold sSeq
  simp only [sat_bind]
  constructor <;> intro s <;> refine s.imp fun x h1 q => ?_
  · cases x <;> simpa using q
  · cases x <;> simpa using q
@[simp] theorem s_seqN {a : SS} {Q : Fl → AH → Prop} : sat (sSeq a sNil c ρ h) Q ↔ sat (a c ρ h) Q := by
  rw [s_seq]
  constructor <;> intro s <;> refine s.imp fun x h1 q => ?_ <;> cases x <;> simpa using q
def midQ (M : Env → AH → Prop) (Q : Fl → AH → Prop) : Fl → AH → Prop := fun fl h => match fl with
  | .nx ρ => M ρ h
  | fl => Q fl h
@[simp] theorem midQ_nx {M : Env → AH → Prop} {Q : Fl → AH → Prop} : midQ M Q (.nx ρ) h ↔ M ρ h := Iff.rfl
@[simp] theorem midQ_rt {M : Env → AH → Prop} {Q : Fl → AH → Prop} {d : D} : midQ M Q (.rt d) h ↔ Q (.rt d) h := Iff.rfl
@[simp] theorem midQ_bk {M : Env → AH → Prop} {Q : Fl → AH → Prop} : midQ M Q (.bk ρ) h ↔ Q (.bk ρ) h := Iff.rfl
@[simp] theorem midQ_ct {M : Env → AH → Prop} {Q : Fl → AH → Prop} : midQ M Q (.ct ρ) h ↔ Q (.ct ρ) h := Iff.rfl
/-- a statement, then the rest, with a word between (its form hidden from simp) -/
theorem s_cut {a b : SS} {Q : Fl → AH → Prop} (M : Env → AH → Prop) (s' : ∀ M', (∀ ρ h, M ρ h → M' ρ h) → sat (a c ρ h) (midQ M' Q)) (k : ∀ ρ h, M ρ h → sat (b c ρ h) Q) : sat (sSeq a b c ρ h) Q := by
  rw [s_seq]
  have s := s' M fun _ _ q => q
  refine s.imp fun fl h1 q => ?_
  cases fl with
  | nx ρ' => exact k _ _ q
  | _ => exact q
@[simp] theorem s_expr {a : SE} {Q : Fl → AH → Prop} : sat (sExpr a c ρ h) Q ↔ sat (a c ρ h) fun _ h1 => Q (.nx ρ) h1 := by
  unfold sExpr; simp
@[simp] theorem s_ret {a : SE} {Q : Fl → AH → Prop} : sat (sRet a c ρ h) Q ↔ sat (a c ρ h) fun d h1 => Q (.rt d) h1 := by
  unfold sRet; simp
@[simp] theorem s_retN {Q : Fl → AH → Prop} : sat (sRetN c ρ h) Q ↔ Q (.rt .non) h := sat_ok
@[simp] theorem s_sIf {t : SE} {a b : SS} {Q : Fl → AH → Prop} : sat (sIf t a b c ρ h) Q ↔ sat (t c ρ h) fun x h1 => brD x (sat (a c ρ h1) Q) (sat (b c ρ h1) Q) := by
  unfold sIf; simp
@[simp] theorem s_set {i : Nat} {a : SE} {Q : Fl → AH → Prop} : sat (sSet i a c ρ h) Q ↔ sat (a c ρ h) fun d h1 => Q (.nx (ρ.set i (some d))) h1 := by
  unfold sSet; simp
@[simp] theorem s_setT {is : List Nat} {a : SE} {Q : Fl → AH → Prop} : sat (sSetT is a c ρ h) Q ↔ sat (a c ρ h) fun d h1 => ∃ ρ', setT (.many is) d ρ = some ρ' ∧ Q (.nx ρ') h1 := by
  unfold sSetT
  simp only [sat_bind]
  constructor <;> intro s <;> refine s.imp fun x h1 q => ?_
  · split at q
    · exact ⟨_, by assumption, sat_ok.mp q⟩
    · cases sat_bad.mp q
  · obtain ⟨ρ', e, q⟩ := q
    rw [e]; exact sat_ok.mpr q
@[simp] theorem s_par {is : List Nat} {r : SA} {Q : Fl → AH → Prop} : sat (sPar is r c ρ h) Q ↔ sat (r c ρ h) fun ds h1 => ds.length = is.length ∧ Q (.nx (setMany is ds ρ)) h1 := by
  unfold sPar
  simp only [sat_bind, sat_ite, sat_ok, sat_bad]
  constructor <;> intro s <;> refine s.imp fun xs h1 q => ?_
  · split at q
    · exact ⟨by assumption, q⟩
    · cases q
  · rw [if_pos q.1]; exact q.2
@[simp] theorem s_sub {o i e : SE} {Q : Fl → AH → Prop} : sat (sSub o i e c ρ h) Q ↔ sat (e c ρ h) fun d h1 => sat (o c ρ h1) fun x h2 => sat (i c ρ h2) fun y h3 => ∃ h4, setD x y d h3 = some h4 ∧ Q (.nx ρ) h4 := by
  unfold sSub
  simp only [sat_bind]
  constructor <;> intro s <;> refine s.imp fun d h1 q => q.imp fun x h2 q => q.imp fun y h3 q => ?_
  · split at q
    · exact ⟨_, by assumption, sat_ok.mp q⟩
    · cases sat_bad.mp q
  · obtain ⟨ρ', e, q⟩ := q
    rw [e]; exact sat_ok.mpr q
@[simp] theorem s_aug {i : Nat} {g : D → D → AH → Out D} {e : SE} {Q : Fl → AH → Prop} : sat (sAug i g e c ρ h) Q ↔ ∃ x, ρ[i]? = some (some x) ∧ sat (e c ρ h) fun y h1 => sat (g x y h1) fun z h2 => Q (.nx (ρ.set i (some z))) h2 := by
  unfold sAug
  split
  · rename_i x hx; simp [hx]
  · rename_i hx
    simp only [sat_bad, false_iff]
    rintro ⟨d, e, _⟩
    exact hx d e
@[simp] theorem s_sbad {Q : Fl → AH → Prop} : sat (sBad c ρ h) Q ↔ False := sat_bad
@[simp] theorem s_ebad {Q : D → AH → Prop} : sat (eBad c ρ h) Q ↔ False := sat_bad
@[simp] theorem thenQ_bad {Q : Fl → AH → Prop} : sat (sBad c ρ h) Q ↔ False := sat_bad

/-! calls -/
def retQ (Q : D → AH → Prop) : Fl → AH → Prop := fun fl h => match fl with
  | .nx _ => Q .non h
  | .rt d => Q d h
  | _ => False
@[simp] theorem retQ_nx {Q : D → AH → Prop} : retQ Q (.nx ρ) h ↔ Q .non h := Iff.rfl
@[simp] theorem retQ_rt {Q : D → AH → Prop} {d : D} : retQ Q (.rt d) h ↔ Q d h := Iff.rfl
theorem s_out {nN : Nat} {b : SS} {ds : List D} {Q : D → AH → Prop} : sat (callOut nN b c ds h) Q ↔ sat (b c (startE nN ds) h) (retQ Q) := by
  unfold callOut
  simp only [sat_bind]
  constructor <;> intro s <;> refine s.imp fun x h1 q => ?_ <;> cases x <;> simpa [retQ] using q
theorem s_fn {T : TabF} {n k nN : Nat} {b : SS} {ds : List D} {Q : D → AH → Prop} (hT : T k = some (nN, b)) (s' : ∀ Q' : D → AH → Prop, (∀ d h, Q d h → Q' d h) → sat (b (callN T n) (startE nN ds) h) (retQ Q')) : sat (callN T (n + 1) (.fn k) ds h) Q := by
  have s := s' Q fun _ _ q => q
  unfold callN
  simp only [hT]
  exact s_out.mpr s
/-! loops -/
def loopQ (src : Src) (N : Env → AH → Prop) (Q : Fl → AH → Prop) : Fl → AH → Prop := fun fl h => match fl with
  | .nx ρ => chk src h = true ∧ N ρ h
  | .ct ρ => chk src h = true ∧ N ρ h
  | .bk ρ => Q (.nx ρ) h
  | .rt d => Q (.rt d) h
@[simp] theorem loopQ_nx {src : Src} {N : Env → AH → Prop} {Q : Fl → AH → Prop} : loopQ src N Q (.nx ρ) h ↔ chk src h = true ∧ N ρ h := Iff.rfl
@[simp] theorem loopQ_ct {src : Src} {N : Env → AH → Prop} {Q : Fl → AH → Prop} : loopQ src N Q (.ct ρ) h ↔ chk src h = true ∧ N ρ h := Iff.rfl
@[simp] theorem loopQ_bk {src : Src} {N : Env → AH → Prop} {Q : Fl → AH → Prop} : loopQ src N Q (.bk ρ) h ↔ Q (.nx ρ) h := Iff.rfl
@[simp] theorem loopQ_rt {src : Src} {N : Env → AH → Prop} {Q : Fl → AH → Prop} {d : D} : loopQ src N Q (.rt d) h ↔ Q (.rt d) h := Iff.rfl
@[simp] theorem chk_nil : chk [] h = true ↔ True := by simp [chk]
theorem s_forL {body : D → Env → AH → Out Fl} {src : Src} {Q : Fl → AH → Prop} (I : List D → Env → AH → Prop) {its : List D} : I [] ρ h →
    (∀ done x rest ρ h (N : Env → AH → Prop), its = done ++ x :: rest → I done ρ h → (∀ ρ h, I (done ++ [x]) ρ h → N ρ h) → sat (body x ρ h) (loopQ src N Q)) → (∀ ρ h, I its ρ h → Q (.nx ρ) h) → sat (forL body src its ρ h) Q := by
  have key : ∀ (its pre : List D) (ρ : Env) (h : AH), I pre ρ h →
    (∀ done x rest ρ h, pre ++ its = done ++ x :: rest → I done ρ h → sat (body x ρ h) (loopQ src (I (done ++ [x])) Q)) → (∀ ρ h, I (pre ++ its) ρ h → Q (.nx ρ) h) → sat (forL body src its ρ h) Q := by
    intro its
    induction its with
    | nil =>
      intro pre ρ h i0 _ e
      unfold forL
      rw [List.append_nil] at e
      exact sat_ok.mpr (e ρ h i0)
    | cons x xs ih =>
      intro pre ρ h i0 st e
      unfold forL
      rw [sat_bind]
      refine (st pre x xs ρ h rfl i0).imp fun fl h1 q => ?_
      have nx : ∀ ρ' h1, I (pre ++ [x]) ρ' h1 → sat (forL body src xs ρ' h1) Q := fun ρ' h1 i => ih (pre ++ [x]) ρ' h1 i (fun done y rest ρ h e1 => st done y rest ρ h (by rw [← e1]; simp)) (fun ρ h i => e ρ h (by simpa using i))
      cases fl with
      | nx ρ' =>
        show sat (if chk src h1 = true then forL body src xs ρ' h1 else Out.bad) Q
        rw [if_pos q.1]; exact nx _ _ q.2
      | ct ρ' =>
        show sat (if chk src h1 = true then forL body src xs ρ' h1 else Out.bad) Q
        rw [if_pos q.1]; exact nx _ _ q.2
      | bk ρ' => exact sat_ok.mpr q
      | rt d => exact sat_ok.mpr q
  intro i0 st e
  exact key its [] ρ h i0 (fun done x rest ρ h e i => st done x rest ρ h _ e i fun _ _ q => q) e
@[simp] theorem s_for {it : SI} {tg : Tg} {b : SS} {Q : Fl → AH → Prop} : sat (sFor it tg b c ρ h) Q ↔ sat (it c ρ h) fun p h1 => chk p.2 h1 = true ∧ sat (forL (stepT tg b c) p.2 p.1 ρ h1) Q := by
  unfold sFor
  simp only [sat_bind, sat_ite, sat_bad]
  constructor <;> intro s <;> refine s.imp fun xs h1 q => ?_
  · split at q
    · exact ⟨by assumption, q⟩
    · cases q
  · rw [if_pos q.1]; exact q.2
@[simp] theorem s_step {tg : Tg} {b : SS} {x : D} {Q : Fl → AH → Prop} : sat (stepT tg b c x ρ h) Q ↔ ∃ ρ', setT tg x ρ = some ρ' ∧ sat (b c ρ' h) Q := by
  unfold stepT
  split
  · rename_i ρ' e; simp [e]
  · rename_i e; simp [e]
@[simp] theorem s_rng1 {r : SA} {Q : List D × Src → AH → Prop} : sat (iRng1 r c ρ h) Q ↔ sat (r c ρ h) fun xs h1 => ∃ j, xs = [.int j] ∧ (-100000 ≤ j ∧ j ≤ 100000) ∧ Q (rngD 0 j.toNat 1, []) h1 := by
  unfold iRng1
  simp only [sat_bind]
  constructor <;> intro s <;> refine s.imp fun x h1 q => ?_
  · split at q
    · split at q
      · exact ⟨_, rfl, by assumption, sat_ok.mp q⟩
      · cases sat_bad.mp q
    · cases sat_bad.mp q
  · obtain ⟨j, rfl, hb, q⟩ := q
    simp only
    rw [if_pos hb]; exact sat_ok.mpr q
@[simp] theorem s_rng2 {r : SA} {Q : List D × Src → AH → Prop} : sat (iRng2 r c ρ h) Q ↔ sat (r c ρ h) fun xs h1 => ∃ i j, xs = [.int i, .int j] ∧ (-100000 ≤ i ∧ i ≤ 100000 ∧ -100000 ≤ j ∧ j ≤ 100000) ∧ Q (rngD i (j - i).toNat 1, []) h1 := by
  unfold iRng2
  simp only [sat_bind]
  constructor <;> intro s <;> refine s.imp fun x h1 q => ?_
  · split at q
    · split at q
      · exact ⟨_, _, rfl, by assumption, sat_ok.mp q⟩
      · cases sat_bad.mp q
    · cases sat_bad.mp q
  · obtain ⟨i, j, rfl, hb, q⟩ := q
    simp only
    rw [if_pos hb]; exact sat_ok.mpr q
def revS (h : AH) : D → Option (List D × Src)
  | .tup ds => some (ds.reverse, [])
  | .ob k => match h[k]? with
    | some (.lst ds) => some (ds.reverse, [(k, ds)])
    | _ => none
  | _ => none
@[simp] theorem revS_tup {ds : List D} : revS h (.tup ds) = some (ds.reverse, []) := rfl
def enumS (h : AH) : D → Option (List D × Src)
  | .tup ds => some (enumD ds, [])
  | .ob k => match h[k]? with
    | some (.lst ds) => some (enumD ds, [(k, ds)])
    | _ => none
  | _ => none
@[simp] theorem enumS_tup {ds : List D} : enumS h (.tup ds) = some (enumD ds, []) := rfl
def rng3L : List D → Option (List D)
  | [.int i, .int j, .int k] => if k = -1 ∧ -100000 ≤ i ∧ i ≤ 100000 ∧ -100000 ≤ j ∧ j ≤ 100000 then some (rngD i (i - j).toNat (-1))
    else if 0 < k ∧ k ≤ 100000 ∧ -100000 ≤ i ∧ i ≤ 100000 ∧ -100000 ≤ j ∧ j ≤ 100000 then some (rngD i (if i < j then (j - i - 1) / k + 1 else 0).toNat k) else none
  | _ => none
/-- what is walked, and whether it may be written -/
def seqS (h : AH) : D → Option (List D × Src)
  | .tup ds => some (ds, [])
  | .fl ds => some (ds, [])
  | .ob k => match h[k]? with
    | some (.lst ds) => some (ds, [(k, ds)])
    | _ => none
  | _ => none
@[simp] theorem seqS_tup {ds : List D} : seqS h (.tup ds) = some (ds, []) := rfl
@[simp] theorem seqS_fl {ds : List D} : seqS h (.fl ds) = some (ds, []) := rfl
theorem seqS_ob {k : Nat} {ds : List D} (e : h[k]? = some (.lst ds)) : seqS h (.ob k) = some (ds, [(k, ds)]) := by simp [seqS, e]
@[simp] theorem s_over {f : SE} {Q : List D × Src → AH → Prop} : sat (iOver f c ρ h) Q ↔ sat (f c ρ h) fun x h1 => ∃ p, seqS h1 x = some p ∧ Q p h1 := by
  unfold iOver
  simp only [sat_bind]
  constructor <;> intro s <;> refine s.imp fun x h1 q => ?_
  · split at q
    · split at q
      · rename_i e; exact ⟨_, seqS_ob e, sat_ok.mp q⟩
      · cases sat_bad.mp q
    · exact ⟨_, rfl, sat_ok.mp q⟩
    · exact ⟨_, rfl, sat_ok.mp q⟩
    · cases sat_bad.mp q
  · obtain ⟨p, e, q⟩ := q
    unfold seqS at e
    split at e
    · cases e; exact sat_ok.mpr q
    · cases e; exact sat_ok.mpr q
    · split at e
      · rename_i e1; cases e; simp only [e1]; exact sat_ok.mpr q
      · cases e
    · cases e
@[simp] theorem s_rev {f : SE} {Q : List D × Src → AH → Prop} : sat (iRev f c ρ h) Q ↔ sat (f c ρ h) fun x h1 => ∃ p, revS h1 x = some p ∧ Q p h1 := by
  unfold iRev
  simp only [sat_bind]
  constructor <;> intro s <;> refine s.imp fun x h1 q => ?_
  · split at q
    · split at q
      · rename_i e; exact ⟨_, by simp [revS, e], sat_ok.mp q⟩
      · cases sat_bad.mp q
    · exact ⟨_, rfl, sat_ok.mp q⟩
    · cases sat_bad.mp q
  · obtain ⟨p, e, q⟩ := q
    unfold revS at e
    split at e
    · cases e; exact sat_ok.mpr q
    · split at e
      · rename_i e1; cases e; simp only [e1]; exact sat_ok.mpr q
      · cases e
    · cases e
@[simp] theorem s_enum {f : SE} {Q : List D × Src → AH → Prop} : sat (iEnum f c ρ h) Q ↔ sat (f c ρ h) fun x h1 => ∃ p, enumS h1 x = some p ∧ Q p h1 := by
  unfold iEnum
  simp only [sat_bind]
  constructor <;> intro s <;> refine s.imp fun x h1 q => ?_
  · split at q
    · split at q
      · rename_i e; exact ⟨_, by simp [enumS, e], sat_ok.mp q⟩
      · cases sat_bad.mp q
    · exact ⟨_, rfl, sat_ok.mp q⟩
    · cases sat_bad.mp q
  · obtain ⟨p, e, q⟩ := q
    unfold enumS at e
    split at e
    · cases e; exact sat_ok.mpr q
    · split at e
      · rename_i e1; cases e; simp only [e1]; exact sat_ok.mpr q
      · cases e
    · cases e
@[simp] theorem s_rng3 {r : SA} {Q : List D × Src → AH → Prop} : sat (iRng3 r c ρ h) Q ↔ sat (r c ρ h) fun xs h1 => ∃ l, rng3L xs = some l ∧ Q (l, []) h1 := by
  unfold iRng3
  simp only [sat_bind]
  constructor <;> intro s <;> refine s.imp fun x h1 q => ?_
  · split at q
    · split at q
      · rename_i hb; exact ⟨_, by simp only [rng3L]; rw [if_pos hb], sat_ok.mp q⟩
      · split at q
        · rename_i ha hb; exact ⟨_, by simp only [rng3L]; rw [if_neg ha, if_pos hb], sat_ok.mp q⟩
        · cases sat_bad.mp q
    · cases sat_bad.mp q
  · obtain ⟨l, e, q⟩ := q
    unfold rng3L at e
    split at e
    · split at e
      · rename_i hb; cases e; (try simp only); rw [if_pos hb]; exact sat_ok.mpr q
      · split at e
        · rename_i ha hb; cases e; (try simp only); rw [if_neg ha, if_pos hb]; exact sat_ok.mpr q
        · cases e
    · cases e
theorem s_hide {α : Type} {x : Out α} {Q : α → AH → Prop} (s : ∀ Q' : α → AH → Prop, (∀ a h, Q a h → Q' a h) → sat x Q') : sat x Q := s Q fun _ _ q => q
theorem s_comp {it : SI} {own : List Nat} {tg : Tg} {tst elt : SE} {Q : D → AH → Prop} : sat (eComp it own tg tst elt c ρ h) Q ↔ sat (it c ρ h) fun p h1 => (chk p.2 h1 = true ∧ p.1.length ≤ cap) ∧ sat (compL tg (wipeE ρ own) (tst c) (elt c) p.2 p.1 h1) fun ys h2 => Q (.ob h2.length) (h2 ++ [.lst ys]) := by
  unfold eComp
  simp only [sat_bind, sat_ite, sat_bad, Bool.and_eq_true, decide_eq_true_eq, newL, sat_ok]
  constructor <;> intro s <;> refine s.imp fun xs h1 q => ?_
  · split at q
    · exact ⟨by assumption, q⟩
    · cases q
  · rw [if_pos q.1]; exact q.2
theorem s_compL {tg : Tg} {tst elt : Env → AH → Out D} {src : Src} {Q : List D → AH → Prop} (I : List D → List D → AH → Prop) {its : List D} : I [] [] h →
    (∀ done x rest ys h (N : List D → AH → Prop), its = done ++ x :: rest → I done ys h → (∀ ys h, I (done ++ [x]) ys h → N ys h) → ∃ ρ1, setT tg x ρ = some ρ1 ∧ sat (tst ρ1 h) fun b h1 => brD b (sat (elt ρ1 h1) fun y h2 => chk src h2 = true ∧ N (ys ++ [y]) h2) (chk src h1 = true ∧ N ys h1)) →
    (∀ ys h, I its ys h → Q ys h) → sat (compL tg ρ tst elt src its h) Q := by
  have key : ∀ (its pre ys0 : List D) (h : AH), I pre ys0 h →
    (∀ done x rest ys h, pre ++ its = done ++ x :: rest → I done ys h → ∃ ρ1, setT tg x ρ = some ρ1 ∧ sat (tst ρ1 h) fun b h1 => brD b (sat (elt ρ1 h1) fun y h2 => chk src h2 = true ∧ I (done ++ [x]) (ys ++ [y]) h2) (chk src h1 = true ∧ I (done ++ [x]) ys h1)) →
    sat (compL tg ρ tst elt src its h) fun zs h' => I (pre ++ its) (ys0 ++ zs) h' := by
    intro its
    induction its with
    | nil => intro pre ys0 h i0 st; unfold compL; rw [List.append_nil]; exact sat_ok.mpr (by rw [List.append_nil]; exact i0)
    | cons x xs ih =>
      intro pre ys0 h i0 st
      unfold compL
      obtain ⟨ρ1, e1, s1⟩ := st pre x xs ys0 h rfl i0
      rw [e1]
      simp only [sat_bind]
      refine s1.imp fun b h1 q0 => ?_
      obtain ⟨k, e, q⟩ := brD_of q0
      subst e
      have nx : ∀ (ys : List D) (h : AH), I (pre ++ [x]) ys h → sat (compL tg ρ tst elt src xs h) fun zs h' => I (pre ++ x :: xs) (ys ++ zs) h' := fun ys h i => by
        have := ih (pre ++ [x]) ys h i fun done y rest ys h e => st done y rest ys h (by rw [← e]; simp)
        simpa using this
      cases k with
      | true =>
        simp only [if_true, sat_bind, sat_ite, sat_bad, sat_ok] at q ⊢
        refine q.imp fun y h2 ⟨c2, i2⟩ => ?_
        rw [if_pos c2]
        refine (nx _ _ i2).imp fun zs h' i => by simpa using i
      | false =>
        simp only [Bool.false_eq_true, if_false, sat_ite, sat_bad] at q ⊢
        rw [if_pos q.1]
        exact nx _ _ q.2
  intro i0 st e
  refine (key its [] [] h i0 fun done x rest ys h e i => st done x rest ys h _ e i fun _ _ q => q).imp fun zs h' i => e _ _ i
end
end Cw

end

section
/-! The primitives for simp; how the heap grows. -/
namespace Cw
open L2
section
variable {h h' h'' : AH} {i j : Int}
@[simp] theorem p_add : addD (.int i) (.int j) h = .ok (.int (i + j)) h := rfl
@[simp] theorem p_sub : subD (.int i) (.int j) h = .ok (.int (i - j)) h := rfl
@[simp] theorem p_neg : negD (.int i) h = .ok (.int (-i)) h := rfl
@[simp] theorem p_cmp {p : Int → Int → Bool} : cmpD p (.int i) (.int j) h = .ok (.bl (p i j)) h := rfl
@[simp] theorem p_eqI : eqD (.int i) (.int j) h = .ok (.bl (decide (i = j))) h := rfl
@[simp] theorem p_neI : neD (.int i) (.int j) h = .ok (.bl (!decide (i = j))) h := rfl
@[simp] theorem p_eqS {a b : Nat} : eqD (.str a) (.str b) h = .ok (.bl (a == b)) h := rfl
@[simp] theorem p_neS {a b : Nat} : neD (.str a) (.str b) h = .ok (.bl (!(a == b))) h := rfl
@[simp] theorem p_isN : isN false .non .non h = .ok (.bl true) h := rfl
theorem p_is {x : D} : isN false x .non h = .ok (.bl (isNone x)) h := rfl
theorem p_nis {x : D} : isN true x .non h = .ok (.bl (!isNone x)) h := rfl
@[simp] theorem p_intI : bInt [.int i] h = .ok (.int i) h := rfl
@[simp] theorem p_intB {b : Bool} : bInt [.bl b] h = .ok (.int (if b then 1 else 0)) h := rfl
theorem p_mod (hj : 0 < j) : modD (.int i) (.int j) h = .ok (.int (i % j)) h := by simp [modD, hj]
theorem p_div (hj : 0 < j ∧ j < 1073741824) : fdivD (.int i) (.int j) h = .ok (.int (i / j)) h := by simp [fdivD, hj]
theorem p_mul (hj : small64 i = true ∨ small64 j = true) : mulD (.int i) (.int j) h = .ok (.int (i * j)) h := by
  show (if (small64 i || small64 j) = true then Out.ok (D.int (i * j)) h else Out.bad) = _
  rw [if_pos (by rcases hj with e | e <;> simp [e])]
theorem p_pow (hj : 0 ≤ j ∧ j ≤ 1000 ∧ i.natAbs < 2 ^ 64) : powD (.int i) (.int j) h = .ok (.int (i ^ j.toNat)) h := by
  show (if 0 ≤ j ∧ j ≤ 1000 ∧ i.natAbs < 2 ^ 64 then Out.ok (D.int (i ^ j.toNat)) h else Out.bad) = _
  rw [if_pos hj]
theorem at_nat {α : Type} {xs : List α} {j : Nat} {v : α} (e : xs[j]? = some v) : atI xs (j : Int) = some v := atI_nat e
@[simp] theorem at_0 {α : Type} {a : α} {l : List α} : atI (a :: l) 0 = some a := atI_nat (j := 0) rfl
@[simp] theorem at_1 {α : Type} {a b : α} {l : List α} : atI (a :: b :: l) 1 = some b := atI_nat (j := 1) rfl
@[simp] theorem at_2 {α : Type} {a b d : α} {l : List α} : atI (a :: b :: d :: l) 2 = some d := atI_nat (j := 2) rfl
theorem p_ix {x d : D} {ds : List D} (h1 : getQ h x = some ds) (h2 : atI ds i = some d) : ixD x (.int i) h = .ok d h := by
  unfold ixD; rw [h1]; simp only; rw [h2]
@[simp] theorem p_ixT {ds : List D} {Q : D → AH → Prop} : sat (ixD (.tup ds) (.int i) h) Q ↔ ∃ d, atI ds i = some d ∧ Q d h := by
  unfold ixD getQ
  simp only
  split
  · rename_i d e; simp [e]
  · rename_i e; simp [e]
theorem p_ixO {k : Nat} {ds : List D} (e : h[k]? = some (.lst ds)) {Q : D → AH → Prop} : sat (ixD (.ob k) (.int i) h) Q ↔ ∃ d, atI ds i = some d ∧ Q d h := by
  unfold ixD getQ getL
  simp only [e]
  split
  · rename_i d e; simp [e]
  · rename_i e; simp [e]
@[simp] theorem gQ_tup {ds : List D} : getQ h (.tup ds) = some ds := rfl
@[simp] theorem gL_fl {ds : List D} : getL h (.fl ds) = some ds := rfl
theorem gL_ob {k : Nat} {ds : List D} (e : h[k]? = some (.lst ds)) : getL h (.ob k) = some ds := by simp [getL, e]
theorem gQ_ob {k : Nat} {ds : List D} (e : h[k]? = some (.lst ds)) : getQ h (.ob k) = some ds := by simp [getQ, getL, e]
theorem p_len {x : D} {ds : List D} (e : getQ h x = some ds) : bLen [x] h = .ok (.int ds.length) h := by unfold bLen; simp only [e]
@[simp] theorem p_lenT {ds : List D} : bLen [.tup ds] h = .ok (.int ds.length) h := rfl
@[simp] theorem p_lenF {ds : List D} : bLen [.fl ds] h = .ok (.int ds.length) h := rfl
theorem p_list {x : D} {ds : List D} (e : getQ h x = some ds) : bList [x] h = .ok (.ob h.length) (h ++ [.lst ds]) := by unfold bList newL; simp only [e]
theorem p_tuple {x : D} {ds : List D} (e : getQ h x = some ds) : bTuple [x] h = .ok (.tup ds) h := by unfold bTuple; simp only [e]
theorem p_sorted {x : D} {ds : List D} (e : getL h x = some ds) (s : sortOk ds = true) : bSorted [x] h = .ok (.ob h.length) (h ++ [.lst (isort ds)]) := by unfold bSorted newL; simp only [e]; rw [if_pos s]
theorem p_set {k j : Nat} {i : Int} {ds : List D} {v : D} (e : h[k]? = some (.lst ds)) (hi : ixN ds.length i = some j) : setD (.ob k) (.int i) v h = some (h.set k (.lst (ds.set j v))) := by unfold setD; simp only [e, hi]
theorem p_append {k : Nat} {ds : List D} {v : D} (e : h[k]? = some (.lst ds)) (l : ds.length < cap) : mAppend (.ob k) [v] h = .ok .non (h.set k (.lst (ds ++ [v]))) := by unfold mAppend; simp only [e]; rw [if_pos l]
theorem p_extend {k j : Nat} {ds es : List D} (e : h[k]? = some (.lst ds)) (e2 : h[j]? = some (.lst es)) (l : ds.length + es.length ≤ cap) : mExtend (.ob k) [.ob j] h = .ok .non (h.set k (.lst (ds ++ es))) := by unfold mExtend; simp only [e, e2]; rw [if_pos l]
theorem p_in {x y : D} {ys : List D} {neg : Bool} (e : getQ h y = some ys) (o : okN 60 x = true) (os : okNs 60 ys = true) : inLs neg x y h = .ok (.bl (if neg then !inQ x ys else inQ x ys)) h := by
  unfold inLs; simp only [e]; rw [if_pos (by rw [o, os]; rfl)]

theorem p_neL {a b : Nat} {xs ys : List D} (e1 : h[a]? = some (.lst xs)) (e2 : h[b]? = some (.lst ys)) (o1 : okNs 60 xs = true) (o2 : okNs 60 ys = true) : neD (.ob a) (.ob b) h = .ok (.bl (!pyEqs xs ys)) h := by
  unfold neD eqO; simp only [e1, e2]; rw [if_pos (by rw [o1, o2]; rfl)]
theorem p_eqL {a b : Nat} {xs ys : List D} (e1 : h[a]? = some (.lst xs)) (e2 : h[b]? = some (.lst ys)) (o1 : okNs 60 xs = true) (o2 : okNs 60 ys = true) : eqD (.ob a) (.ob b) h = .ok (.bl (pyEqs xs ys)) h := by
  unfold eqD eqO; simp only [e1, e2]; rw [if_pos (by rw [o1, o2]; rfl)]
theorem p_neT {xs ys : List D} (o1 : okN 60 (.tup xs) = true) (o2 : okN 60 (.tup ys) = true) : neD (.tup xs) (.tup ys) h = .ok (.bl (!pyEqs xs ys)) h := by
  show (match (if okN 60 (.tup xs) && okN 60 (.tup ys) then some (pyEq (.tup xs) (.tup ys)) else none) with
    | some b => Out.ok (D.bl !b) h
    | none => .bad) = _
  rw [o1, o2]; simp [pyEq]
theorem p_eqT {xs ys : List D} (o1 : okN 60 (.tup xs) = true) (o2 : okN 60 (.tup ys) = true) : eqD (.tup xs) (.tup ys) h = .ok (.bl (pyEqs xs ys)) h := by
  show (match (if okN 60 (.tup xs) && okN 60 (.tup ys) then some (pyEq (.tup xs) (.tup ys)) else none) with
    | some b => Out.ok (D.bl b) h
    | none => .bad) = _
  rw [o1, o2]; simp [pyEq]
theorem okNs_all {k : Nat} {l : List D} (o : ∀ d ∈ l, okN k d = true) : okNs k l = true := by
  induction l with
  | nil => simp [okNs]
  | cons a l ih => rw [okNs, o a List.mem_cons_self, ih fun d hd => o d (List.mem_cons_of_mem _ hd)]; rfl
@[simp] theorem okNs_ints {k : Nat} {l : List Int} : okNs k (l.map D.int) = true := okNs_all fun d hd => by
  obtain ⟨i, _, rfl⟩ := List.mem_map.mp hd
  simp [okN]
@[simp] theorem okNs_nil {k : Nat} : okNs k [] = true := by simp [okNs]
theorem mem_rng {lo n : Nat} {x : D} {done rest : List D} (e : rngD (lo : Int) n 1 = done ++ x :: rest) : x = .int ((lo + done.length : Nat) : Int) ∧ done.length < n := by
  have hl : done.length < n := by
    have := congrArg List.length e
    rw [rngD_len, List.length_append, List.length_cons] at this
    omega
  have := rngD_get (lo := (lo : Int)) (st := 1) hl
  rw [e, List.getElem?_append_right (Nat.le_refl _)] at this
  simp at this
  exact ⟨by rw [this]; simp, hl⟩

theorem p_tupR {j : Int} (h0 : 0 ≤ j) (h1 : j ≤ 100000) : bTupR [.int j] h = .ok (.tup ((List.range j.toNat).map fun (k : Nat) => D.int k)) h := by
  have e : rngL [.int j] = some (rngD 0 j.toNat 1) := by
    show (if -100000 ≤ j ∧ j ≤ 100000 then some (rngD 0 j.toNat 1) else none) = _
    rw [if_pos ⟨by omega, h1⟩]
  unfold bTupR
  rw [e]
  unfold rngD
  simp

theorem rng3_down (hb : -100000 ≤ i ∧ i ≤ 100000 ∧ -100000 ≤ j ∧ j ≤ 100000) : rng3L [.int i, .int j, .int (-1)] = some (rngD i (i - j).toNat (-1)) := by
  show (if (-1 : Int) = -1 ∧ -100000 ≤ i ∧ i ≤ 100000 ∧ -100000 ≤ j ∧ j ≤ 100000 then some (rngD i (i - j).toNat (-1)) else _) = _
  rw [if_pos ⟨rfl, hb⟩]
theorem rng3_up {k : Int} (h0 : 0 < k) (h1 : k ≤ 100000) (hb : -100000 ≤ i ∧ i ≤ 100000 ∧ -100000 ≤ j ∧ j ≤ 100000) : rng3L [.int i, .int j, .int k] = some (rngD i (if i < j then (j - i - 1) / k + 1 else 0).toNat k) := by
  show (if k = -1 ∧ -100000 ≤ i ∧ i ≤ 100000 ∧ -100000 ≤ j ∧ j ≤ 100000 then _ else if 0 < k ∧ k ≤ 100000 ∧ -100000 ≤ i ∧ i ≤ 100000 ∧ -100000 ≤ j ∧ j ≤ 100000 then some (rngD i (if i < j then (j - i - 1) / k + 1 else 0).toNat k) else _) = _
  rw [if_neg (by omega), if_pos ⟨h0, h1, hb⟩]

/-! ### the heap -/
/-- all that stood stands -/
def Gr (h h' : AH) : Prop := ∀ (i : Nat) (o : O), h[i]? = some o → h'[i]? = some o
/-- all but the object p -/
def Kp (p : Nat) (h h' : AH) : Prop := ∀ (i : Nat) (o : O), i ≠ p → h[i]? = some o → h'[i]? = some o
theorem Gr.refl : Gr h h := fun _ _ e => e
theorem Gr.trans (a : Gr h h') (b : Gr h' h'') : Gr h h'' := fun i o e => b i o (a i o e)
theorem Gr.kp {p : Nat} (a : Gr h h') : Kp p h h' := fun i o _ e => a i o e
theorem Kp.refl {p : Nat} : Kp p h h := fun _ _ _ e => e
theorem Kp.trans {p : Nat} (a : Kp p h h') (b : Kp p h' h'') : Kp p h h'' := fun i o n e => b i o n (a i o n e)
theorem Gr.app {t : AH} : Gr h (h ++ t) := fun i o e => by
  rw [List.getElem?_append_left (List.getElem?_eq_some_iff.mp e).1]; exact e
theorem Gr.one {o : O} (g : Gr h h') : Gr h (h' ++ [o]) := g.trans Gr.app
theorem Kp.one {p : Nat} {o : O} (g : Kp p h h') : Kp p h (h' ++ [o]) := g.trans Gr.app.kp
@[simp] theorem top_get {o : O} : (h ++ [o])[h.length]? = some o := by simp
theorem free_top : h[h.length]? = none := by simp
theorem Gr.set {k : Nat} {o : O} (g : Gr h h') (f : h[k]? = none) : Gr h (h'.set k o) := fun i u e => by
  have hk : k ≠ i := fun z => by rw [z, e] at f; cases f
  rw [List.getElem?_set_ne hk]; exact g i u e
theorem Kp.set {p k : Nat} {o : O} (g : Kp p h h') (f : h[k]? = none) : Kp p h (h'.set k o) := fun i u n e => by
  have hk : k ≠ i := fun z => by rw [z, e] at f; cases f
  rw [List.getElem?_set_ne hk]; exact g i u n e
theorem Kp.own {p : Nat} {o : O} (g : Kp p h h') : Kp p h (h'.set p o) := fun i u n e => by
  rw [List.getElem?_set_ne (Ne.symm n)]; exact g i u n e
theorem set_get {k : Nat} {o u : O} (e : h[k]? = some u) : (h.set k o)[k]? = some o := List.getElem?_set_self (List.getElem?_eq_some_iff.mp e).1
theorem set_get_ne {k j : Nat} {o : O} (n : k ≠ j) : (h.set k o)[j]? = h[j]? := List.getElem?_set_ne n
end
end Cw

end

section
/-! The law's defs as they are read, the head's facts. Printed by mkHead.py. -/
namespace K56
open PySem PySem.Spec PyProof.Rows L2 Cw
def top (i : Nat) : Stmt := PySem.Challenge.pw_cutrows_k56_certificates_of_matters.main.body.getD i (.Pass ⟨0, 0, 0, 0⟩)
def FN : List (Str × (Nat × Nat × List D)) := [("is_integer", (139, 3, [])), ("cell_count", (107, 1, [])), ("written_cell", (218, 1, [])), ("read_cells", (192, 1, [])), ("matter_before", (163, 2, [])), ("matter_rows", (164, 1, [])), ("matters", (165, 2, [])), ("way_out", (213, 3, [])), ("is_cell_claim", (134, 2, [])), ("is_claim", (135, 2, [])), ("require_claim", (193, 2, [])), ("plain_table", (181, 2, [])), ("decide_matters", (114, 2, [])), ("decide", (112, 3, [(.tup [(.int 1), (.int 1), (.int 1), (.int 1), (.int 1), (.int 1), (.int 1), (.int 1), (.int 1), (.int 1), (.int 1)])])), ("_law_pen", (58, 1, [])), ("_law_fresh", (26, 1, [])), ("_law_draw", (18, 2, [])), ("_law_cells", (15, 3, [])), ("_law_item", (36, 2, [])), ("_law_program", (69, 4, [])), ("_law_written", (95, 1, [])), ("_law_read", (70, 1, [])), ("_law_alive", (2, 1, [])), ("_law_way_fault", (93, 4, [])), ("_law_lack", (38, 3, [])), ("_law_long", (43, 1, [])), ("law", (154, 1, []))]
def GL : List (Str × D) := []
def N_is_integer : List Str := ["value", "low", "high"]
def B_is_integer : SS :=
  (sSeq (sRet (eAnd (eUn (isiD "int") (eVar 0)) (eAnd (eNot (eUn (isiD "bool") (eVar 0))) (eChain leD leD (eVar 1) (eVar 0) (eVar 2)))))
  sNil)
def N_cell_count : List Str := ["program"]
def B_cell_count : SS :=
  (sSeq (sRet (eBin addD (eBin ixD (eVar 0) (eC (.int 0))) (eBin ixD (eVar 0) (eC (.int 1)))))
  sNil)
def N_written_cell : List Str := ["item"]
def B_written_cell : SS :=
  (sSeq (sRet (eIf (eBin (inLs false) (eBin ixD (eVar 0) (eC (.int 0))) (eTup (aCons (eC (.str 157)) (aCons (eC (.str 120)) aNil)))) (eBin ixD (eVar 0) (eC (.int 1))) (eC .non)))
  sNil)
def N_read_cells : List Str := ["item"]
def B_read_cells : SS :=
  (sSeq (sIf (eBin eqD (eBin ixD (eVar 0) (eC (.int 0))) (eC (.str 157)))
  (sSeq (sRet (eBin ixD (eVar 0) (eC (.int 2))))
  sNil)
  sNil)
  (sSeq (sRet (eIf (eBin eqD (eBin ixD (eVar 0) (eC (.int 0))) (eC (.str 277))) (eBin ixD (eVar 0) (eC (.int 1))) (eTup aNil)))
  sNil))
def N_matter_before : List Str := ["item", "alive", "written", "read", "kept_on", "cell"]
def B_matter_before : SS :=
  (sSeq (sSetT [2, 3] (eTup (aCons (eCallD (.fn 218) 1 [] (aCons (eVar 0) aNil)) (aCons (eCallD (.fn 192) 1 [] (aCons (eVar 0) aNil)) aNil))))
  (sSeq (sSet 4 (eComp (iOver (eVar 1)) [5] (.one 5) (eBin neD (eVar 5) (eVar 2)) (eVar 5)))
  (sSeq (sIf (eOr (eBin eqD (eBin ixD (eVar 0) (eC (.int 0))) (eC (.str 277))) (eAnd (eBin eqD (eBin ixD (eVar 0) (eC (.int 0))) (eC (.str 157))) (eBin (inLs false) (eVar 2) (eVar 1))))
  (sSeq (sSet 4 (eBin addD (eVar 4) (eComp (iOver (eVar 3)) [5] (.one 5) (eBin (inLs true) (eVar 5) (eVar 4)) (eVar 5))))
  sNil)
  sNil)
  (sSeq (sRet (eArg bTuple (aCons (eArg bSorted (aCons (eVar 4) aNil)) aNil)))
  sNil))))
def N_matter_rows : List Str := ["program", "found", "item"]
def B_matter_rows : SS :=
  (sSeq (sSet 1 (eLst (aCons (eTup aNil) aNil)))
  (sSeq (sFor (iRev (eBin ixD (eVar 0) (eC (.int 2)))) (.one 2)
  (sSeq (sExpr (eLm mAppend (eVar 1) (aCons (eCallD (.fn 163) 2 [] (aCons (eVar 2) (aCons (eBin ixD (eVar 1) (eUn negD (eC (.int 1)))) aNil))) aNil)))
  sNil))
  (sSeq (sRet (eUn revD (eVar 1)))
  sNil)))
def N_matters : List Str := ["program", "position"]
def B_matters : SS :=
  (sSeq (sRet (eBin ixD (eCallD (.fn 164) 1 [] (aCons (eVar 0) aNil)) (eVar 1)))
  sNil)
def N_way_out : List Str := ["program", "position", "cell", "alive", "way", "index", "item"]
def B_way_out : SS :=
  (sSeq (sPar [3, 4] (aCons (eCallD (.fn 164) 1 [] (aCons (eVar 0) aNil)) (aCons (eTup aNil) aNil)))
  (sSeq (sIf (eBin (inLs true) (eVar 2) (eBin ixD (eVar 3) (eVar 1)))
  (sSeq (sRet (eC .non))
  sNil)
  sNil)
  (sSeq (sFor (iRng2 (aCons (eVar 1) (aCons (eArg bLen (aCons (eBin ixD (eVar 0) (eC (.int 2))) aNil)) aNil))) (.one 5)
  (sSeq (sSet 6 (eBin ixD (eBin ixD (eVar 0) (eC (.int 2))) (eVar 5)))
  (sSeq (sIf (eAnd (eBin (inLs false) (eVar 2) (eCallD (.fn 192) 1 [] (aCons (eVar 6) aNil))) (eBin eqD (eBin ixD (eVar 6) (eC (.int 0))) (eC (.str 277))))
  (sSeq (sRet (eBin addD (eVar 4) (eTup (aCons (eVar 5) aNil))))
  sNil)
  sNil)
  (sSeq (sIf (eAnd (eBin (inLs false) (eVar 2) (eCallD (.fn 192) 1 [] (aCons (eVar 6) aNil))) (eBin (inLs false) (eCallD (.fn 218) 1 [] (aCons (eVar 6) aNil)) (eBin ixD (eVar 3) (eBin addD (eVar 5) (eC (.int 1))))))
  (sSeq (sPar [4, 2] (aCons (eBin addD (eVar 4) (eTup (aCons (eVar 5) aNil))) (aCons (eCallD (.fn 218) 1 [] (aCons (eVar 6) aNil)) aNil)))
  sNil)
  sNil)
  sNil))))
  (sSeq (sRet (eC .non))
  sNil))))
def N_is_cell_claim : List Str := ["program", "value"]
def B_is_cell_claim : SS :=
  (sSeq (sIf (eOr (eBin neD (eArg bLen (aCons (eVar 1) aNil)) (eC (.int 3))) (eNot (eCallD (.fn 139) 3 [] (aCons (eBin ixD (eVar 1) (eC (.int 1))) (aCons (eC (.int 0)) (aCons (eArg bLen (aCons (eBin ixD (eVar 0) (eC (.int 2))) aNil)) aNil))))))
  (sSeq (sRet (eC (.bl false)))
  sNil)
  sNil)
  (sSeq (sRet (eCallD (.fn 139) 3 [] (aCons (eBin ixD (eVar 1) (eC (.int 2))) (aCons (eC (.int 0)) (aCons (eBin subD (eCallD (.fn 107) 1 [] (aCons (eVar 0) aNil)) (eC (.int 1))) aNil)))))
  sNil))
def N_is_claim : List Str := ["program", "value", "word"]
def B_is_claim : SS :=
  (sSeq (sIf (eOr (eNot (eUn (isiD "tuple") (eVar 1))) (eOr (eBin eqD (eVar 1) (eTup aNil)) (eNot (eUn (isiD "str") (eBin ixD (eVar 1) (eC (.int 0)))))))
  (sSeq (sRet (eC (.bl false)))
  sNil)
  sNil)
  (sSeq (sSet 2 (eBin ixD (eVar 1) (eC (.int 0))))
  (sSeq (sIf (eBin eqD (eVar 2) (eC (.str 271)))
  (sSeq (sRet (eBin eqD (eArg bLen (aCons (eVar 1) aNil)) (eC (.int 1))))
  sNil)
  sNil)
  (sSeq (sIf (eBin (inLs false) (eVar 2) (eTup (aCons (eC (.str 294)) (aCons (eC (.str 224)) aNil))))
  (sSeq (sRet (eCallD (.fn 134) 2 [] (aCons (eVar 0) (aCons (eVar 1) aNil))))
  sNil)
  sNil)
  (sSeq (sIf (eBin eqD (eVar 2) (eC (.str 114)))
  (sSeq (sRet eBad)
  sNil)
  sNil)
  (sSeq (sRet (eAnd (eBin eqD (eVar 2) (eC (.str 259))) eBad))
  sNil))))))
def N_require_claim : List Str := ["program", "claim"]
def B_require_claim : SS :=
  (sSeq (sIf (eNot (eCallD (.fn 135) 2 [] (aCons (eVar 0) (aCons (eVar 1) aNil))))
  (sSeq sBad
  sNil)
  sNil)
  sNil)
def N_plain_table : List Str := ["program", "position", "found", "at", "cell"]
def B_plain_table : SS :=
  (sSeq (sSet 2 (eLst aNil))
  (sSeq (sFor (iRng2 (aCons (eVar 1) (aCons (eBin addD (eArg bLen (aCons (eBin ixD (eVar 0) (eC (.int 2))) aNil)) (eC (.int 1))) aNil))) (.one 3)
  (sSeq (sExpr (eLm mExtend (eVar 2) (aCons (eComp (iOver (eCallD (.fn 165) 2 [] (aCons (eVar 0) (aCons (eVar 3) aNil)))) [4] (.one 4) eYes (eTup (aCons (eVar 3) (aCons (eVar 4) aNil)))) aNil)))
  sNil))
  (sSeq (sRet (eArg bTuple (aCons (eVar 2) aNil)))
  sNil)))
def N_decide_matters : List Str := ["program", "claim", "position", "cell", "way"]
def B_decide_matters : SS :=
  (sSeq (sSetT [2, 3] (eSl (eVar 1) (oSome (eC (.int 1))) oNone))
  (sSeq (sSet 4 (eCallD (.fn 213) 3 [] (aCons (eVar 0) (aCons (eVar 2) (aCons (eVar 3) aNil)))))
  (sSeq (sIf (eBin (isN false) (eVar 4) (eC .non))
  (sSeq (sRet (eTup (aCons (eC (.str 127)) (aCons (eVar 1) (aCons (eCallD (.fn 181) 2 [] (aCons (eVar 0) (aCons (eVar 2) aNil))) aNil)))))
  sNil)
  sNil)
  (sSeq (sRet (eTup (aCons (eC (.str 284)) (aCons (eVar 1) (aCons (eVar 4) aNil)))))
  sNil))))
def N_decide : List Str := ["program", "claim", "prices"]
def B_decide : SS :=
  (sSeq (sExpr (eCallD (.fn 193) 2 [] (aCons (eVar 0) (aCons (eVar 1) aNil))))
  (sSeq (sIf (eBin eqD (eBin ixD (eVar 1) (eC (.int 0))) (eC (.str 271)))
  (sSeq (sRet eBad)
  sNil)
  sNil)
  (sSeq (sIf (eBin eqD (eBin ixD (eVar 1) (eC (.int 0))) (eC (.str 294)))
  (sSeq (sRet eBad)
  sNil)
  sNil)
  (sSeq (sIf (eBin eqD (eBin ixD (eVar 1) (eC (.int 0))) (eC (.str 224)))
  (sSeq (sRet (eCallD (.fn 114) 2 [] (aCons (eVar 0) (aCons (eVar 1) aNil))))
  sNil)
  sNil)
  (sSeq (sIf (eBin eqD (eBin ixD (eVar 1) (eC (.int 0))) (eC (.str 114)))
  (sSeq (sRet eBad)
  sNil)
  sNil)
  (sSeq (sRet eBad)
  sNil))))))
def N__law_pen : List Str := ["script"]
def B__law_pen : SS :=
  (sSeq (sRet (eLst (aCons (eArg bList (aCons (eSl (eVar 0) oNone (oSome (eC (.int 63)))) aNil)) (aCons (eC (.int 0)) (aCons (eC (.int 0)) aNil)))))
  sNil)
def N__law_fresh : List Str := ["pen", "at", "cell", "p", "state", "found", "turn"]
def B__law_fresh : SS :=
  (sSeq (sSet 1 (eBin ixD (eVar 0) (eC (.int 1))))
  (sSeq (sSub (eVar 0) (eC (.int 1)) (eBin addD (eVar 1) (eC (.int 1))))
  (sSeq (sSet 2 (eC (.int 0)))
  (sSeq (sIf (eBin neD (eBin ixD (eVar 0) (eC (.int 0))) (eLst aNil))
  (sSeq (sSet 2 (eBin ixD (eBin ixD (eVar 0) (eC (.int 0))) (eBin modD (eArg bInt (aCons (eVar 1) aNil)) (eArg bLen (aCons (eBin ixD (eVar 0) (eC (.int 0))) aNil)))))
  sNil)
  sNil)
  (sSeq (sIf (eAnd (eBin ltD (eVar 1) (eArg bLen (aCons (eBin ixD (eVar 0) (eC (.int 0))) aNil))) (eBin geD (eVar 2) (eBin powD (eC (.int 10)) (eC (.int 18)))))
  (sSeq (sRet (eBin subD (eVar 2) (eBin powD (eC (.int 10)) (eC (.int 18)))))
  sNil)
  sNil)
  (sSeq (sSet 3 (eC (.int 2305843009213693951)))
  (sSeq (sSet 4 (eBin modD (eArg bInt (aCons (eBin addD (eBin addD (eBin mulD (eVar 2) (eC (.int 48271))) (eBin mulD (eC (.int 40692)) (eVar 1))) (eC (.int 31))) aNil)) (eVar 3)))
  (sSeq (sSet 5 (eVar 4))
  (sSeq (sFor (iRng1 (aCons (eC (.int 6)) aNil)) (.one 6)
  (sSeq (sSet 4 (eBin modD (eArg bInt (aCons (eBin addD (eBin addD (eBin mulD (eVar 4) (eVar 4)) (eBin mulD (eBin mulD (eC (.int 69621)) (eBin addD (eVar 6) (eC (.int 1)))) (eBin addD (eVar 1) (eC (.int 1))))) (eVar 2)) aNil)) (eVar 3)))
  (sSeq (sSet 5 (eBin addD (eBin mulD (eVar 5) (eVar 3)) (eVar 4)))
  sNil)))
  (sSeq (sRet (eVar 5))
  sNil))))))))))
def N__law_draw : List Str := ["pen", "many", "digit"]
def B__law_draw : SS :=
  (sSeq (sIf (eBin ltD (eBin ixD (eVar 0) (eC (.int 2))) (eVar 1))
  (sSeq (sSub (eVar 0) (eC (.int 2)) (eCallD (.fn 26) 1 [] (aCons (eVar 0) aNil)))
  sNil)
  sNil)
  (sSeq (sSet 2 (eBin modD (eArg bInt (aCons (eBin ixD (eVar 0) (eC (.int 2))) aNil)) (eVar 1)))
  (sSeq (sSub (eVar 0) (eC (.int 2)) (eBin fdivD (eArg bInt (aCons (eBin ixD (eVar 0) (eC (.int 2))) aNil)) (eVar 1)))
  (sSeq (sRet (eVar 2))
  sNil))))
def N__law_cells : List Str := ["pen", "many", "most", "found", "lap", "cell"]
def B__law_cells : SS :=
  (sSeq (sSet 3 (eLst aNil))
  (sSeq (sFor (iRng1 (aCons (eCallD (.fn 18) 2 [] (aCons (eVar 0) (aCons (eBin addD (eVar 2) (eC (.int 1))) aNil))) aNil)) (.one 4)
  (sSeq (sSet 5 (eCallD (.fn 18) 2 [] (aCons (eVar 0) (aCons (eVar 1) aNil))))
  (sSeq (sIf (eBin (inLs true) (eVar 5) (eVar 3))
  (sSeq (sExpr (eLm mAppend (eVar 3) (aCons (eVar 5) aNil)))
  sNil)
  sNil)
  sNil)))
  (sSeq (sRet (eArg bTuple (aCons (eArg bSorted (aCons (eVar 3) aNil)) aNil)))
  sNil)))
def N__law_item : List Str := ["pen", "many", "option", "cell", "found"]
def B__law_item : SS :=
  (sSeq (sPar [2, 3] (aCons (eCallD (.fn 18) 2 [] (aCons (eVar 0) (aCons (eC (.int 9)) aNil))) (aCons (eCallD (.fn 18) 2 [] (aCons (eVar 0) (aCons (eVar 1) aNil))) aNil)))
  (sSeq (sIf (eBin ltD (eVar 2) (eC (.int 4)))
  (sSeq (sRet (eTup (aCons (eC (.str 157)) (aCons (eVar 3) (aCons (eCallD (.fn 15) 3 [] (aCons (eVar 0) (aCons (eVar 1) (aCons (eC (.int 3)) aNil)))) aNil)))))
  sNil)
  sNil)
  (sSeq (sIf (eBin eqD (eVar 2) (eC (.int 4)))
  (sSeq (sRet (eTup (aCons (eC (.str 120)) (aCons (eVar 3) aNil))))
  sNil)
  sNil)
  (sSeq (sIf (eBin ltD (eVar 2) (eC (.int 7)))
  (sSeq (sSet 4 (eCallD (.fn 15) 3 [] (aCons (eVar 0) (aCons (eVar 1) (aCons (eC (.int 3)) aNil)))))
  (sSeq (sRet (eTup (aCons (eC (.str 277)) (aCons (eIf (eBin neD (eVar 4) (eTup aNil)) (eVar 4) (eTup (aCons (eVar 3) aNil))) aNil))))
  sNil))
  sNil)
  (sSeq (sRet (eTup (aCons (eC (.str 220)) (aCons (eCallD (.fn 15) 3 [] (aCons (eVar 0) (aCons (eVar 1) (aCons (eVar 1) aNil)))) aNil))))
  sNil)))))
def N__law_program : List Str := ["pen", "kept", "loose", "most", "lap"]
def B__law_program : SS :=
  (sSeq (sIf (eBin eqD (eBin addD (eVar 1) (eVar 2)) (eC (.int 0)))
  (sSeq (sSet 2 (eC (.int 1)))
  sNil)
  sNil)
  (sSeq (sRet (eTup (aCons (eVar 1) (aCons (eVar 2) (aCons (eArg bTuple (aCons (eComp (iRng1 (aCons (eCallD (.fn 18) 2 [] (aCons (eVar 0) (aCons (eBin addD (eVar 3) (eC (.int 1))) aNil))) aNil)) [4] (.one 4) eYes (eCallD (.fn 36) 2 [] (aCons (eVar 0) (aCons (eBin addD (eVar 1) (eVar 2)) aNil)))) aNil)) aNil)))))
  sNil))
def N__law_written : List Str := ["item"]
def B__law_written : SS :=
  (sSeq (sRet (eIf (eBin (inLs false) (eBin ixD (eVar 0) (eC (.int 0))) (eTup (aCons (eC (.str 157)) (aCons (eC (.str 120)) aNil)))) (eBin ixD (eVar 0) (eC (.int 1))) (eC .non)))
  sNil)
def N__law_read : List Str := ["item"]
def B__law_read : SS :=
  (sSeq (sIf (eBin eqD (eBin ixD (eVar 0) (eC (.int 0))) (eC (.str 157)))
  (sSeq (sRet (eBin ixD (eVar 0) (eC (.int 2))))
  sNil)
  sNil)
  (sSeq (sRet (eIf (eBin eqD (eBin ixD (eVar 0) (eC (.int 0))) (eC (.str 277))) (eBin ixD (eVar 0) (eC (.int 1))) (eTup aNil)))
  sNil))
def N__law_alive : List Str := ["program", "found", "item", "written", "read", "cells", "cell"]
def B__law_alive : SS :=
  (sSeq (sSet 1 (eLst (aCons (eLst aNil) aNil)))
  (sSeq (sFor (iOver (eUn revD (eBin ixD (eVar 0) (eC (.int 2))))) (.one 2)
  (sSeq (sSetT [3, 4] (eTup (aCons (eCallD (.fn 95) 1 [] (aCons (eVar 2) aNil)) (aCons (eCallD (.fn 70) 1 [] (aCons (eVar 2) aNil)) aNil))))
  (sSeq (sSet 5 (eComp (iOver (eBin ixD (eVar 1) (eC (.int 0)))) [6] (.one 6) (eBin neD (eVar 6) (eVar 3)) (eVar 6)))
  (sSeq (sIf (eOr (eBin eqD (eBin ixD (eVar 2) (eC (.int 0))) (eC (.str 277))) (eAnd (eBin eqD (eBin ixD (eVar 2) (eC (.int 0))) (eC (.str 157))) (eBin (inLs false) (eVar 3) (eBin ixD (eVar 1) (eC (.int 0))))))
  (sSeq (sExpr (eLm mExtend (eVar 5) (aCons (eComp (iOver (eVar 4)) [6] (.one 6) (eBin (inLs true) (eVar 6) (eVar 5)) (eVar 6)) aNil)))
  sNil)
  sNil)
  (sSeq (sExpr (eLm mInsert (eVar 1) (aCons (eC (.int 0)) (aCons (eVar 5) aNil))))
  sNil)))))
  (sSeq (sRet (eVar 1))
  sNil)))
def N__law_way_fault : List Str := ["program", "position", "cell", "way", "at", "carried", "k", "index", "item", "one"]
def B__law_way_fault : SS :=
  (sSeq (sPar [4, 5] (aCons (eVar 1) (aCons (eVar 2) aNil)))
  (sSeq (sFor (iEnum (eVar 3)) (.many [6, 7])
  (sSeq (sSet 8 (eBin ixD (eBin ixD (eVar 0) (eC (.int 2))) (eVar 7)))
  (sSeq (sIf (eOr (eBin ltD (eVar 7) (eVar 4)) (eBin (inLs false) (eVar 5) (eComp (iOver (eSl (eBin ixD (eVar 0) (eC (.int 2))) (oSome (eVar 4)) (oSome (eVar 7)))) [9] (.one 9) eYes (eCallD (.fn 95) 1 [] (aCons (eVar 9) aNil)))))
  (sSeq (sRet (eTup (aCons (eC (.str 301)) (aCons (eVar 6) aNil))))
  sNil)
  sNil)
  (sSeq (sIf (eOr (eBin (inLs true) (eVar 5) (eCallD (.fn 70) 1 [] (aCons (eVar 8) aNil))) (eBin neD (eBin ixD (eVar 8) (eC (.int 0))) (eBin ixD (eLst (aCons (eC (.str 157)) (aCons (eC (.str 277)) aNil))) (eArg bInt (aCons (eBin eqD (eVar 6) (eBin subD (eArg bLen (aCons (eVar 3) aNil)) (eC (.int 1)))) aNil)))))
  (sSeq (sRet (eTup (aCons (eC (.str 301)) (aCons (eVar 6) aNil))))
  sNil)
  sNil)
  (sSeq (sPar [4, 5] (aCons (eBin addD (eVar 7) (eC (.int 1))) (aCons (eBin ixD (eVar 8) (eC (.int 1))) aNil)))
  sNil)))))
  (sSeq (sRet (eC .non))
  sNil)))
def N__law_lack : List Str := ["program", "position", "table", "at", "item", "cell", "due"]
def B__law_lack : SS :=
  (sSeq (sFor (iRng3 (aCons (eBin subD (eArg bLen (aCons (eBin ixD (eVar 0) (eC (.int 2))) aNil)) (eC (.int 1))) (aCons (eBin subD (eVar 1) (eC (.int 1))) (aCons (eUn negD (eC (.int 1))) aNil)))) (.one 3)
  (sSeq (sSet 4 (eBin ixD (eBin ixD (eVar 0) (eC (.int 2))) (eVar 3)))
  (sSeq (sFor (iRng1 (aCons (eBin addD (eBin ixD (eVar 0) (eC (.int 0))) (eBin ixD (eVar 0) (eC (.int 1)))) aNil)) (.one 5)
  (sSeq (sSet 6 (eAnd (eBin (inLs false) (eTup (aCons (eBin addD (eVar 3) (eC (.int 1))) (aCons (eVar 5) aNil))) (eVar 2)) (eBin neD (eVar 5) (eCallD (.fn 95) 1 [] (aCons (eVar 4) aNil)))))
  (sSeq (sIf (eBin (inLs false) (eVar 5) (eCallD (.fn 70) 1 [] (aCons (eVar 4) aNil)))
  (sSeq (sSet 6 (eOr (eVar 6) (eOr (eBin eqD (eBin ixD (eVar 4) (eC (.int 0))) (eC (.str 277))) (eBin (inLs false) (eTup (aCons (eBin addD (eVar 3) (eC (.int 1))) (aCons (eBin ixD (eVar 4) (eC (.int 1))) aNil))) (eVar 2)))))
  sNil)
  sNil)
  (sSeq (sIf (eAnd (eVar 6) (eBin (inLs true) (eTup (aCons (eVar 3) (aCons (eVar 5) aNil))) (eVar 2)))
  (sSeq (sRet (eTup (aCons (eC (.str 203)) (aCons (eVar 3) (aCons (eVar 5) aNil)))))
  sNil)
  sNil)
  sNil))))
  sNil)))
  (sSeq (sRet (eC .non))
  sNil))
def N__law_long : List Str := ["pen", "kept", "loose", "items", "many", "lap", "cell", "last", "one"]
def B__law_long : SS :=
  (sSeq (sPar [1, 2, 3] (aCons (eBin addD (eC (.int 1)) (eCallD (.fn 18) 2 [] (aCons (eVar 0) (aCons (eC (.int 4)) aNil)))) (aCons (eCallD (.fn 18) 2 [] (aCons (eVar 0) (aCons (eC (.int 6)) aNil))) (aCons (eLst aNil) aNil))))
  (sSeq (sSet 4 (eBin addD (eVar 1) (eVar 2)))
  (sSeq (sFor (iRng1 (aCons (eC (.int 31)) aNil)) (.one 5)
  (sSeq (sSet 6 (eCallD (.fn 18) 2 [] (aCons (eVar 0) (aCons (eVar 4) aNil))))
  (sSeq (sExpr (eLm mAppend (eVar 3) (aCons (eTup (aCons (eC (.str 157)) (aCons (eVar 6) (aCons (eArg bTuple (aCons (eComp (iOver (eCallD (.fn 15) 3 [] (aCons (eVar 0) (aCons (eVar 4) (aCons (eC (.int 3)) aNil))))) [8] (.one 8) (eBin neD (eVar 8) (eVar 6)) (eVar 8)) aNil)) aNil)))) aNil)))
  (sSeq (sExpr (eLm mAppend (eVar 3) (aCons (eTup (aCons (eC (.str 220)) (aCons (eArg bTupR (aCons (eVar 4) aNil)) aNil))) aNil)))
  sNil))))
  (sSeq (sSet 6 (eCallD (.fn 18) 2 [] (aCons (eVar 0) (aCons (eVar 1) aNil))))
  (sSeq (sSet 7 (eBin ixD (eLst (aCons (eTup (aCons (eC (.str 157)) (aCons (eVar 6) (aCons (eTup aNil) aNil)))) (aCons (eTup (aCons (eC (.str 220)) (aCons (eTup aNil) aNil))) (aCons (eTup (aCons (eC (.str 120)) (aCons (eVar 6) aNil))) (aCons (eTup (aCons (eC (.str 157)) (aCons (eBin subD (eVar 4) (eC (.int 1))) (aCons (eTup (aCons (eVar 6) aNil)) aNil)))) aNil))))) (eCallD (.fn 18) 2 [] (aCons (eVar 0) (aCons (eC (.int 4)) aNil)))))
  (sSeq (sRet (eTup (aCons (eVar 1) (aCons (eVar 2) (aCons (eBin addD (eArg bTuple (aCons (eVar 3) aNil)) (eTup (aCons (eTup (aCons (eC (.str 277)) (aCons (eTup (aCons (eVar 6) aNil)) aNil))) (aCons (eVar 7) aNil)))) aNil)))))
  sNil))))))
def N_law : List Str := ["script", "pen", "turn", "program", "step", "cell", "alive", "at", "word", "claim", "content", "pair"]
def B_law : SS :=
  (sSeq (sSet 1 (eCallD (.fn 58) 1 [] (aCons (eVar 0) aNil)))
  (sSeq (sFor (iRng1 (aCons (eArg bMax (aCons (eC (.int 1)) (aCons (eArg bMin (aCons (eC (.int 4)) (aCons (eArg bLen (aCons (eVar 0) aNil)) aNil))) aNil))) aNil)) (.one 2)
  (sSeq (sPar [3, 4] (aCons (eCallD (.fn 69) 4 [] (aCons (eVar 1) (aCons (eCallD (.fn 18) 2 [] (aCons (eVar 1) (aCons (eC (.int 5)) aNil))) (aCons (eCallD (.fn 18) 2 [] (aCons (eVar 1) (aCons (eC (.int 6)) aNil))) (aCons (eC (.int 12)) aNil))))) (aCons (eC (.int 1)) aNil)))
  (sSeq (sIf (eBin eqD (eCallD (.fn 18) 2 [] (aCons (eVar 1) (aCons (eC (.int 8)) aNil))) (eC (.int 0)))
  (sSeq (sPar [3, 4] (aCons (eCallD (.fn 43) 1 [] (aCons (eVar 1) aNil)) (aCons (eC (.int 16)) aNil)))
  sNil)
  sNil)
  (sSeq (sPar [5, 6] (aCons (eCallD (.fn 18) 2 [] (aCons (eVar 1) (aCons (eBin addD (eBin ixD (eVar 3) (eC (.int 0))) (eBin ixD (eVar 3) (eC (.int 1)))) aNil))) (aCons (eCallD (.fn 2) 1 [] (aCons (eVar 3) aNil)) aNil)))
  (sSeq (sFor (iRng3 (aCons (eC (.int 0)) (aCons (eBin addD (eArg bLen (aCons (eBin ixD (eVar 3) (eC (.int 2))) aNil)) (eC (.int 1))) (aCons (eVar 4) aNil)))) (.one 7)
  (sSeq (sSetT [8, 9, 10] (eCallD (.fn 112) 3 [(.tup [(.int 1), (.int 1), (.int 1), (.int 1), (.int 1), (.int 1), (.int 1), (.int 1), (.int 1), (.int 1), (.int 1)])] (aCons (eVar 3) (aCons (eTup (aCons (eC (.str 224)) (aCons (eVar 7) (aCons (eVar 5) aNil)))) aNil))))
  (sSeq (sIf (eOr (eBin neD (eVar 9) (eTup (aCons (eC (.str 224)) (aCons (eVar 7) (aCons (eVar 5) aNil))))) (eBin neD (eVar 8) (eIf (eBin (inLs false) (eVar 5) (eBin ixD (eVar 6) (eVar 7))) (eC (.str 284)) (eC (.str 127)))))
  (sSeq (sRet (eC (.bl false)))
  sNil)
  sNil)
  (sSeq (sIf (eBin eqD (eVar 8) (eC (.str 284)))
  (sSeq (sIf (eOr (eBin eqD (eVar 10) (eTup aNil)) (eBin neD (eArg bList (aCons (eVar 10) aNil)) (eArg bSorted (aCons (eArg bList (aCons (eVar 10) aNil)) aNil))))
  (sSeq (sRet (eC (.bl false)))
  sNil)
  sNil)
  (sSeq (sIf (eBin (isN true) (eCallD (.fn 93) 4 [] (aCons (eVar 3) (aCons (eVar 7) (aCons (eVar 5) (aCons (eVar 10) aNil))))) (eC .non))
  (sSeq (sRet (eC (.bl false)))
  sNil)
  sNil)
  sNil))
  (sSeq (sIf (eOr (eBin (inLs false) (eTup (aCons (eVar 7) (aCons (eVar 5) aNil))) (eVar 10)) (eBin (isN true) (eCallD (.fn 38) 3 [] (aCons (eVar 3) (aCons (eVar 7) (aCons (eVar 10) aNil)))) (eC .non)))
  (sSeq (sRet (eC (.bl false)))
  sNil)
  (sSeq (sIf (eOr (eBin neD (eArg bList (aCons (eVar 10) aNil)) (eArg bSorted (aCons (eArg bList (aCons (eVar 10) aNil)) aNil))) (eBin neD (eComp (iOver (eVar 10)) [11] (.one 11) (eBin ltD (eBin ixD (eVar 11) (eC (.int 0))) (eVar 7)) (eVar 11)) (eLst aNil)))
  (sSeq (sRet (eC (.bl false)))
  sNil)
  sNil)
  sNil))
  sNil))
  sNil))))
  sNil)))))
  (sSeq (sRet (eC (.bl true)))
  sNil)))
theorem e_is_integer : bodyOf ⟨N_is_integer, FN, GL⟩ (top 4) = B_is_integer := by kernel_rfl
theorem e_cell_count : bodyOf ⟨N_cell_count, FN, GL⟩ (top 5) = B_cell_count := by kernel_rfl
theorem e_written_cell : bodyOf ⟨N_written_cell, FN, GL⟩ (top 7) = B_written_cell := by kernel_rfl
theorem e_read_cells : bodyOf ⟨N_read_cells, FN, GL⟩ (top 8) = B_read_cells := by kernel_rfl
theorem e_matter_before : bodyOf ⟨N_matter_before, FN, GL⟩ (top 24) = B_matter_before := by kernel_rfl
theorem e_matter_rows : bodyOf ⟨N_matter_rows, FN, GL⟩ (top 25) = B_matter_rows := by kernel_rfl
theorem e_matters : bodyOf ⟨N_matters, FN, GL⟩ (top 26) = B_matters := by kernel_rfl
theorem e_way_out : bodyOf ⟨N_way_out, FN, GL⟩ (top 27) = B_way_out := by kernel_rfl
theorem e_is_cell_claim : bodyOf ⟨N_is_cell_claim, FN, GL⟩ (top 70) = B_is_cell_claim := by kernel_rfl
theorem e_is_claim : bodyOf ⟨N_is_claim, FN, GL⟩ (top 71) = B_is_claim := by kernel_rfl
theorem e_require_claim : bodyOf ⟨N_require_claim, FN, GL⟩ (top 72) = B_require_claim := by kernel_rfl
theorem e_plain_table : bodyOf ⟨N_plain_table, FN, GL⟩ (top 75) = B_plain_table := by kernel_rfl
theorem e_decide_matters : bodyOf ⟨N_decide_matters, FN, GL⟩ (top 76) = B_decide_matters := by kernel_rfl
theorem e_decide : bodyOf ⟨N_decide, FN, GL⟩ (top 77) = B_decide := by kernel_rfl
theorem e__law_pen : bodyOf ⟨N__law_pen, FN, GL⟩ (top 79) = B__law_pen := by kernel_rfl
theorem e__law_fresh : bodyOf ⟨N__law_fresh, FN, GL⟩ (top 80) = B__law_fresh := by kernel_rfl
theorem e__law_draw : bodyOf ⟨N__law_draw, FN, GL⟩ (top 81) = B__law_draw := by kernel_rfl
theorem e__law_cells : bodyOf ⟨N__law_cells, FN, GL⟩ (top 82) = B__law_cells := by kernel_rfl
theorem e__law_item : bodyOf ⟨N__law_item, FN, GL⟩ (top 83) = B__law_item := by kernel_rfl
theorem e__law_program : bodyOf ⟨N__law_program, FN, GL⟩ (top 84) = B__law_program := by kernel_rfl
theorem e__law_written : bodyOf ⟨N__law_written, FN, GL⟩ (top 85) = B__law_written := by kernel_rfl
theorem e__law_read : bodyOf ⟨N__law_read, FN, GL⟩ (top 86) = B__law_read := by kernel_rfl
theorem e__law_alive : bodyOf ⟨N__law_alive, FN, GL⟩ (top 87) = B__law_alive := by kernel_rfl
theorem e__law_way_fault : bodyOf ⟨N__law_way_fault, FN, GL⟩ (top 88) = B__law_way_fault := by kernel_rfl
theorem e__law_lack : bodyOf ⟨N__law_lack, FN, GL⟩ (top 89) = B__law_lack := by kernel_rfl
theorem e__law_long : bodyOf ⟨N__law_long, FN, GL⟩ (top 90) = B__law_long := by kernel_rfl
theorem e_law : bodyOf ⟨N_law, FN, GL⟩ (top 91) = B_law := by kernel_rfl
def T : TabF := fun k => match k with
  | 139 => some (3, B_is_integer)
  | 107 => some (1, B_cell_count)
  | 218 => some (1, B_written_cell)
  | 192 => some (1, B_read_cells)
  | 163 => some (6, B_matter_before)
  | 164 => some (3, B_matter_rows)
  | 165 => some (2, B_matters)
  | 213 => some (7, B_way_out)
  | 134 => some (2, B_is_cell_claim)
  | 135 => some (3, B_is_claim)
  | 193 => some (2, B_require_claim)
  | 181 => some (5, B_plain_table)
  | 114 => some (5, B_decide_matters)
  | 112 => some (3, B_decide)
  | 58 => some (1, B__law_pen)
  | 26 => some (7, B__law_fresh)
  | 18 => some (3, B__law_draw)
  | 15 => some (6, B__law_cells)
  | 36 => some (5, B__law_item)
  | 69 => some (5, B__law_program)
  | 95 => some (1, B__law_written)
  | 70 => some (1, B__law_read)
  | 2 => some (7, B__law_alive)
  | 93 => some (10, B__law_way_fault)
  | 38 => some (7, B__law_lack)
  | 43 => some (9, B__law_long)
  | 154 => some (12, B_law)
  | _ => none
def dd (x : Str) (i : Nat) (kw : List (Str × He.Dv)) : He.DefD := ⟨(x, none), x, x, defArgs (top i), defBody (top i), defScope (top i), [], kw⟩
def fn0 : List He.DefD := [dd "is_integer" 4 [], dd "cell_count" 5 [], dd "written_cell" 7 [], dd "read_cells" 8 [], dd "matter_before" 24 [], dd "matter_rows" 25 [], dd "matters" 26 [], dd "way_out" 27 [], dd "is_cell_claim" 70 [], dd "is_claim" 71 [], dd "require_claim" 72 [], dd "plain_table" 75 [], dd "decide_matters" 76 [], dd "decide" 77 [("prices", .glo "PRICES")], dd "_law_pen" 79 [], dd "_law_fresh" 80 [], dd "_law_draw" 81 [], dd "_law_cells" 82 [], dd "_law_item" 83 [], dd "_law_program" 84 []]
def fn1 : List He.DefD := [dd "_law_written" 85 [], dd "_law_read" 86 [], dd "_law_alive" 87 [], dd "_law_way_fault" 88 [], dd "_law_lack" 89 [], dd "_law_long" 90 [], dd "law" 91 []]
def fn : List He.DefD := fn0 ++ (fn1)
def faG : List He.Fa := [.glo "is_integer", .glo "cell_count", .glo "written_cell", .glo "read_cells", .glo "matter_before", .glo "matter_rows", .glo "matters", .glo "way_out", .glo "is_cell_claim", .glo "is_claim", .glo "require_claim", .glo "plain_table", .glo "decide_matters", .glo "decide", .glo "_law_pen", .glo "_law_fresh", .glo "_law_draw", .glo "_law_cells", .glo "_law_item", .glo "_law_program", .glo "_law_written", .glo "_law_read", .glo "_law_alive", .glo "_law_way_fault", .glo "_law_lack", .glo "_law_long", .glo "law"]
def faB : List He.Fa := bltN.map .free
def faC : List He.Fa := []
def fa : List He.Fa := faG ++ (faB ++ faC)
def ck (K : PySem.W.Frag) : Bool := He.tupB K "PRICES" [.int 1, .int 1, .int 1, .int 1, .int 1, .int 1, .int 1, .int 1, .int 1, .int 1, .int 1]
def nm0 : List Str := ["__name__", "InvalidClaim", "TooGreat", "is_integer", "cell_count", "is_kept", "written_cell", "read_cells", "mark_indices", "WRONG", "OPEN", "writes_between", "next_mark", "secured_since", "wrong_after", "restarts", "first_facts", "leads", "explored", "lineage_in", "is_bad", "matter_before", "matter_rows", "matters", "way_out", "picks_for", "cut_for", "cuts_for", "spoiling", "MAX_PLAIN"]
def nm1 : List Str := ["MAX_LOOSE_CELLS", "bare", "require_small", "has_middle", "places", "halves", "split_program", "position_of", "middles_of", "Stretch", "Ground", "MARK_PRICE", "SPLIT_PRICE", "HAND_PRICE", "CELL_PRICES", "cell_price", "price_or_none", "ways_of", "levels_in", "plan_in", "MAX_PRICE", "is_small", "is_place", "is_allowed_claim", "is_price_claim", "asked_facts", "open_facts", "plain_facts", "broken_stretch", "decide_allowed"]
def nm2 : List Str := ["decide_price", "PRICES", "is_cell_claim", "is_claim", "require_claim", "decide_safe", "decide_sure", "plain_table", "decide_matters", "decide", "_law_pen", "_law_fresh", "_law_draw", "_law_cells", "_law_item", "_law_program", "_law_written", "_law_read", "_law_alive", "_law_way_fault", "_law_lack", "_law_long"]
def nm : List Str := nm0 ++ (nm1 ++ (nm2))
def xs : List Str := ["is_integer", "cell_count", "written_cell", "read_cells", "matter_before", "matter_rows", "matters", "way_out", "is_cell_claim", "is_claim", "require_claim", "plain_table", "decide_matters", "decide", "_law_pen", "_law_fresh", "_law_draw", "_law_cells", "_law_item", "_law_program", "_law_written", "_law_read", "_law_alive", "_law_way_fault", "_law_lack", "_law_long", "law", "PRICES"]
abbrev R : PySem.W.OpenRow := PySem.W.OpenLaw.row PySem.Challenge.rw_cutrows_k56_certificates_of_matters
abbrev hk : PySem.W.Hook := hookT xs ck fa fn
def ob (s : PySem.W.SharedT) : He.AlD := obsT xs ck fa fn (HandSHeadRun.getT s)
theorem ob_eq (s : PySem.W.SharedT) : ob s = hk.obs s.abs := obsT_eq (HandSHeadRun.getT_eq s)
theorem run (w : World) : HandSHeadRun.RunEq R (PySem.W.view R.prog [91]) hk ob 12000 nm w := by
  intro os
  kernel_rfl
section
variable {K : PySem.W.Frag} {h : Heap} {mg : Str → Option Value}
theorem glob (X : K.In h) (G : h.Ns mainGlobals mg) (c : He.SaysD fa fn K) {x : Str} (hx : He.Fa.glo x ∈ fa) : mg x = some (.ref (He.ga K x)) := He.glo_ok X G (says_fact c hx)
theorem inG {x : Str} (hx : He.Fa.glo x ∈ faG) : He.Fa.glo x ∈ fa := List.mem_append_left _ hx
theorem en_is_integer (X : K.In h) (G : h.Ns mainGlobals mg) (c : He.SaysD fa fn K) : Ent K mg FN GL T "is_integer" 139 3 [] := by
  obtain ⟨fd, F⟩ := c.def_ 0 (d := dd "is_integer" 4 []) rfl
  exact ent_plain (ps := ["value", "low", "high"]) (N := N_is_integer) (st := top 4) F (glob X G c (inG (List.mem_of_getElem? (i := 0) rfl))) (fun _ _ _ _ _ _ us hl => match us, hl with | [_, _, _], _ => rfl) (by decide +kernel) rfl e_is_integer rfl
theorem en_cell_count (X : K.In h) (G : h.Ns mainGlobals mg) (c : He.SaysD fa fn K) : Ent K mg FN GL T "cell_count" 107 1 [] := by
  obtain ⟨fd, F⟩ := c.def_ 1 (d := dd "cell_count" 5 []) rfl
  exact ent_plain (ps := ["program"]) (N := N_cell_count) (st := top 5) F (glob X G c (inG (List.mem_of_getElem? (i := 1) rfl))) (fun _ _ _ _ _ _ us hl => match us, hl with | [_], _ => rfl) (by decide +kernel) rfl e_cell_count rfl
theorem en_written_cell (X : K.In h) (G : h.Ns mainGlobals mg) (c : He.SaysD fa fn K) : Ent K mg FN GL T "written_cell" 218 1 [] := by
  obtain ⟨fd, F⟩ := c.def_ 2 (d := dd "written_cell" 7 []) rfl
  exact ent_plain (ps := ["item"]) (N := N_written_cell) (st := top 7) F (glob X G c (inG (List.mem_of_getElem? (i := 2) rfl))) (fun _ _ _ _ _ _ us hl => match us, hl with | [_], _ => rfl) (by decide +kernel) rfl e_written_cell rfl
theorem en_read_cells (X : K.In h) (G : h.Ns mainGlobals mg) (c : He.SaysD fa fn K) : Ent K mg FN GL T "read_cells" 192 1 [] := by
  obtain ⟨fd, F⟩ := c.def_ 3 (d := dd "read_cells" 8 []) rfl
  exact ent_plain (ps := ["item"]) (N := N_read_cells) (st := top 8) F (glob X G c (inG (List.mem_of_getElem? (i := 3) rfl))) (fun _ _ _ _ _ _ us hl => match us, hl with | [_], _ => rfl) (by decide +kernel) rfl e_read_cells rfl
theorem en_matter_before (X : K.In h) (G : h.Ns mainGlobals mg) (c : He.SaysD fa fn K) : Ent K mg FN GL T "matter_before" 163 2 [] := by
  obtain ⟨fd, F⟩ := c.def_ 4 (d := dd "matter_before" 24 []) rfl
  exact ent_plain (ps := ["item", "alive"]) (N := N_matter_before) (st := top 24) F (glob X G c (inG (List.mem_of_getElem? (i := 4) rfl))) (fun _ _ _ _ _ _ us hl => match us, hl with | [_, _], _ => rfl) (by decide +kernel) rfl e_matter_before rfl
theorem en_matter_rows (X : K.In h) (G : h.Ns mainGlobals mg) (c : He.SaysD fa fn K) : Ent K mg FN GL T "matter_rows" 164 1 [] := by
  obtain ⟨fd, F⟩ := c.def_ 5 (d := dd "matter_rows" 25 []) rfl
  exact ent_plain (ps := ["program"]) (N := N_matter_rows) (st := top 25) F (glob X G c (inG (List.mem_of_getElem? (i := 5) rfl))) (fun _ _ _ _ _ _ us hl => match us, hl with | [_], _ => rfl) (by decide +kernel) rfl e_matter_rows rfl
theorem en_matters (X : K.In h) (G : h.Ns mainGlobals mg) (c : He.SaysD fa fn K) : Ent K mg FN GL T "matters" 165 2 [] := by
  obtain ⟨fd, F⟩ := c.def_ 6 (d := dd "matters" 26 []) rfl
  exact ent_plain (ps := ["program", "position"]) (N := N_matters) (st := top 26) F (glob X G c (inG (List.mem_of_getElem? (i := 6) rfl))) (fun _ _ _ _ _ _ us hl => match us, hl with | [_, _], _ => rfl) (by decide +kernel) rfl e_matters rfl
theorem en_way_out (X : K.In h) (G : h.Ns mainGlobals mg) (c : He.SaysD fa fn K) : Ent K mg FN GL T "way_out" 213 3 [] := by
  obtain ⟨fd, F⟩ := c.def_ 7 (d := dd "way_out" 27 []) rfl
  exact ent_plain (ps := ["program", "position", "cell"]) (N := N_way_out) (st := top 27) F (glob X G c (inG (List.mem_of_getElem? (i := 7) rfl))) (fun _ _ _ _ _ _ us hl => match us, hl with | [_, _, _], _ => rfl) (by decide +kernel) rfl e_way_out rfl
theorem en_is_cell_claim (X : K.In h) (G : h.Ns mainGlobals mg) (c : He.SaysD fa fn K) : Ent K mg FN GL T "is_cell_claim" 134 2 [] := by
  obtain ⟨fd, F⟩ := c.def_ 8 (d := dd "is_cell_claim" 70 []) rfl
  exact ent_plain (ps := ["program", "value"]) (N := N_is_cell_claim) (st := top 70) F (glob X G c (inG (List.mem_of_getElem? (i := 8) rfl))) (fun _ _ _ _ _ _ us hl => match us, hl with | [_, _], _ => rfl) (by decide +kernel) rfl e_is_cell_claim rfl
theorem en_is_claim (X : K.In h) (G : h.Ns mainGlobals mg) (c : He.SaysD fa fn K) : Ent K mg FN GL T "is_claim" 135 2 [] := by
  obtain ⟨fd, F⟩ := c.def_ 9 (d := dd "is_claim" 71 []) rfl
  exact ent_plain (ps := ["program", "value"]) (N := N_is_claim) (st := top 71) F (glob X G c (inG (List.mem_of_getElem? (i := 9) rfl))) (fun _ _ _ _ _ _ us hl => match us, hl with | [_, _], _ => rfl) (by decide +kernel) rfl e_is_claim rfl
theorem en_require_claim (X : K.In h) (G : h.Ns mainGlobals mg) (c : He.SaysD fa fn K) : Ent K mg FN GL T "require_claim" 193 2 [] := by
  obtain ⟨fd, F⟩ := c.def_ 10 (d := dd "require_claim" 72 []) rfl
  exact ent_plain (ps := ["program", "claim"]) (N := N_require_claim) (st := top 72) F (glob X G c (inG (List.mem_of_getElem? (i := 10) rfl))) (fun _ _ _ _ _ _ us hl => match us, hl with | [_, _], _ => rfl) (by decide +kernel) rfl e_require_claim rfl
theorem en_plain_table (X : K.In h) (G : h.Ns mainGlobals mg) (c : He.SaysD fa fn K) : Ent K mg FN GL T "plain_table" 181 2 [] := by
  obtain ⟨fd, F⟩ := c.def_ 11 (d := dd "plain_table" 75 []) rfl
  exact ent_plain (ps := ["program", "position"]) (N := N_plain_table) (st := top 75) F (glob X G c (inG (List.mem_of_getElem? (i := 11) rfl))) (fun _ _ _ _ _ _ us hl => match us, hl with | [_, _], _ => rfl) (by decide +kernel) rfl e_plain_table rfl
theorem en_decide_matters (X : K.In h) (G : h.Ns mainGlobals mg) (c : He.SaysD fa fn K) : Ent K mg FN GL T "decide_matters" 114 2 [] := by
  obtain ⟨fd, F⟩ := c.def_ 12 (d := dd "decide_matters" 76 []) rfl
  exact ent_plain (ps := ["program", "claim"]) (N := N_decide_matters) (st := top 76) F (glob X G c (inG (List.mem_of_getElem? (i := 12) rfl))) (fun _ _ _ _ _ _ us hl => match us, hl with | [_, _], _ => rfl) (by decide +kernel) rfl e_decide_matters rfl
theorem en_decide (X : K.In h) (G : h.Ns mainGlobals mg) (c : He.SaysD fa fn K) (k : ck K = true) : Ent K mg FN GL T "decide" 112 3 [(.tup [(.int 1), (.int 1), (.int 1), (.int 1), (.int 1), (.int 1), (.int 1), (.int 1), (.int 1), (.int 1), (.int 1)])] := by
  obtain ⟨fd, F⟩ := c.def_ 13 (d := dd "decide" 77 [("prices", .glo "PRICES")]) rfl
  refine ent_kw (ps := ["program", "claim", "prices"]) (N := N_decide) (j := 2) (st := top 77) F (glob X G c (inG (List.mem_of_getElem? (i := 13) rfl))) (List.cons_ne_nil _ _) rfl ?_ (by decide +kernel) rfl ?_ e_decide rfl
  · intro D doc pm an cdv ct us ks h1 h2
    match us, h1, ks, h2 with
    | [_, _], _, [_], _ => exact ⟨_, _, _, _, _, _, rfl, rfl, rfl⟩
  · intro m H
    exact .cons (.tup (He.tupB_ok k H) (.cons (.int _) (.cons (.int _) (.cons (.int _) (.cons (.int _) (.cons (.int _) (.cons (.int _) (.cons (.int _) (.cons (.int _) (.cons (.int _) (.cons (.int _) (.cons (.int _) .nil)))))))))))) .nil
theorem en__law_pen (X : K.In h) (G : h.Ns mainGlobals mg) (c : He.SaysD fa fn K) : Ent K mg FN GL T "_law_pen" 58 1 [] := by
  obtain ⟨fd, F⟩ := c.def_ 14 (d := dd "_law_pen" 79 []) rfl
  exact ent_plain (ps := ["script"]) (N := N__law_pen) (st := top 79) F (glob X G c (inG (List.mem_of_getElem? (i := 14) rfl))) (fun _ _ _ _ _ _ us hl => match us, hl with | [_], _ => rfl) (by decide +kernel) rfl e__law_pen rfl
theorem en__law_fresh (X : K.In h) (G : h.Ns mainGlobals mg) (c : He.SaysD fa fn K) : Ent K mg FN GL T "_law_fresh" 26 1 [] := by
  obtain ⟨fd, F⟩ := c.def_ 15 (d := dd "_law_fresh" 80 []) rfl
  exact ent_plain (ps := ["pen"]) (N := N__law_fresh) (st := top 80) F (glob X G c (inG (List.mem_of_getElem? (i := 15) rfl))) (fun _ _ _ _ _ _ us hl => match us, hl with | [_], _ => rfl) (by decide +kernel) rfl e__law_fresh rfl
theorem en__law_draw (X : K.In h) (G : h.Ns mainGlobals mg) (c : He.SaysD fa fn K) : Ent K mg FN GL T "_law_draw" 18 2 [] := by
  obtain ⟨fd, F⟩ := c.def_ 16 (d := dd "_law_draw" 81 []) rfl
  exact ent_plain (ps := ["pen", "many"]) (N := N__law_draw) (st := top 81) F (glob X G c (inG (List.mem_of_getElem? (i := 16) rfl))) (fun _ _ _ _ _ _ us hl => match us, hl with | [_, _], _ => rfl) (by decide +kernel) rfl e__law_draw rfl
theorem en__law_cells (X : K.In h) (G : h.Ns mainGlobals mg) (c : He.SaysD fa fn K) : Ent K mg FN GL T "_law_cells" 15 3 [] := by
  obtain ⟨fd, F⟩ := c.def_ 17 (d := dd "_law_cells" 82 []) rfl
  exact ent_plain (ps := ["pen", "many", "most"]) (N := N__law_cells) (st := top 82) F (glob X G c (inG (List.mem_of_getElem? (i := 17) rfl))) (fun _ _ _ _ _ _ us hl => match us, hl with | [_, _, _], _ => rfl) (by decide +kernel) rfl e__law_cells rfl
theorem en__law_item (X : K.In h) (G : h.Ns mainGlobals mg) (c : He.SaysD fa fn K) : Ent K mg FN GL T "_law_item" 36 2 [] := by
  obtain ⟨fd, F⟩ := c.def_ 18 (d := dd "_law_item" 83 []) rfl
  exact ent_plain (ps := ["pen", "many"]) (N := N__law_item) (st := top 83) F (glob X G c (inG (List.mem_of_getElem? (i := 18) rfl))) (fun _ _ _ _ _ _ us hl => match us, hl with | [_, _], _ => rfl) (by decide +kernel) rfl e__law_item rfl
theorem en__law_program (X : K.In h) (G : h.Ns mainGlobals mg) (c : He.SaysD fa fn K) : Ent K mg FN GL T "_law_program" 69 4 [] := by
  obtain ⟨fd, F⟩ := c.def_ 19 (d := dd "_law_program" 84 []) rfl
  exact ent_plain (ps := ["pen", "kept", "loose", "most"]) (N := N__law_program) (st := top 84) F (glob X G c (inG (List.mem_of_getElem? (i := 19) rfl))) (fun _ _ _ _ _ _ us hl => match us, hl with | [_, _, _, _], _ => rfl) (by decide +kernel) rfl e__law_program rfl
theorem en__law_written (X : K.In h) (G : h.Ns mainGlobals mg) (c : He.SaysD fa fn K) : Ent K mg FN GL T "_law_written" 95 1 [] := by
  obtain ⟨fd, F⟩ := c.def_ 20 (d := dd "_law_written" 85 []) rfl
  exact ent_plain (ps := ["item"]) (N := N__law_written) (st := top 85) F (glob X G c (inG (List.mem_of_getElem? (i := 20) rfl))) (fun _ _ _ _ _ _ us hl => match us, hl with | [_], _ => rfl) (by decide +kernel) rfl e__law_written rfl
theorem en__law_read (X : K.In h) (G : h.Ns mainGlobals mg) (c : He.SaysD fa fn K) : Ent K mg FN GL T "_law_read" 70 1 [] := by
  obtain ⟨fd, F⟩ := c.def_ 21 (d := dd "_law_read" 86 []) rfl
  exact ent_plain (ps := ["item"]) (N := N__law_read) (st := top 86) F (glob X G c (inG (List.mem_of_getElem? (i := 21) rfl))) (fun _ _ _ _ _ _ us hl => match us, hl with | [_], _ => rfl) (by decide +kernel) rfl e__law_read rfl
theorem en__law_alive (X : K.In h) (G : h.Ns mainGlobals mg) (c : He.SaysD fa fn K) : Ent K mg FN GL T "_law_alive" 2 1 [] := by
  obtain ⟨fd, F⟩ := c.def_ 22 (d := dd "_law_alive" 87 []) rfl
  exact ent_plain (ps := ["program"]) (N := N__law_alive) (st := top 87) F (glob X G c (inG (List.mem_of_getElem? (i := 22) rfl))) (fun _ _ _ _ _ _ us hl => match us, hl with | [_], _ => rfl) (by decide +kernel) rfl e__law_alive rfl
theorem en__law_way_fault (X : K.In h) (G : h.Ns mainGlobals mg) (c : He.SaysD fa fn K) : Ent K mg FN GL T "_law_way_fault" 93 4 [] := by
  obtain ⟨fd, F⟩ := c.def_ 23 (d := dd "_law_way_fault" 88 []) rfl
  exact ent_plain (ps := ["program", "position", "cell", "way"]) (N := N__law_way_fault) (st := top 88) F (glob X G c (inG (List.mem_of_getElem? (i := 23) rfl))) (fun _ _ _ _ _ _ us hl => match us, hl with | [_, _, _, _], _ => rfl) (by decide +kernel) rfl e__law_way_fault rfl
theorem en__law_lack (X : K.In h) (G : h.Ns mainGlobals mg) (c : He.SaysD fa fn K) : Ent K mg FN GL T "_law_lack" 38 3 [] := by
  obtain ⟨fd, F⟩ := c.def_ 24 (d := dd "_law_lack" 89 []) rfl
  exact ent_plain (ps := ["program", "position", "table"]) (N := N__law_lack) (st := top 89) F (glob X G c (inG (List.mem_of_getElem? (i := 24) rfl))) (fun _ _ _ _ _ _ us hl => match us, hl with | [_, _, _], _ => rfl) (by decide +kernel) rfl e__law_lack rfl
theorem en__law_long (X : K.In h) (G : h.Ns mainGlobals mg) (c : He.SaysD fa fn K) : Ent K mg FN GL T "_law_long" 43 1 [] := by
  obtain ⟨fd, F⟩ := c.def_ 25 (d := dd "_law_long" 90 []) rfl
  exact ent_plain (ps := ["pen"]) (N := N__law_long) (st := top 90) F (glob X G c (inG (List.mem_of_getElem? (i := 25) rfl))) (fun _ _ _ _ _ _ us hl => match us, hl with | [_], _ => rfl) (by decide +kernel) rfl e__law_long rfl
theorem en_law (X : K.In h) (G : h.Ns mainGlobals mg) (c : He.SaysD fa fn K) : Ent K mg FN GL T "law" 154 1 [] := by
  obtain ⟨fd, F⟩ := c.def_ 26 (d := dd "law" 91 []) rfl
  exact ent_plain (ps := ["script"]) (N := N_law) (st := top 91) F (glob X G c (inG (List.mem_of_getElem? (i := 26) rfl))) (fun _ _ _ _ _ _ us hl => match us, hl with | [_], _ => rfl) (by decide +kernel) rfl e_law rfl
theorem entAll (X : K.In h) (G : h.Ns mainGlobals mg) (c : He.SaysD fa fn K) (k : ck K = true) : EntAll K mg FN GL T FN := ⟨en_is_integer X G c, en_cell_count X G c, en_written_cell X G c, en_read_cells X G c, en_matter_before X G c, en_matter_rows X G c, en_matters X G c, en_way_out X G c, en_is_cell_claim X G c, en_is_claim X G c, en_require_claim X G c, en_plain_table X G c, en_decide_matters X G c, en_decide X G c k, en__law_pen X G c, en__law_fresh X G c, en__law_draw X G c, en__law_cells X G c, en__law_item X G c, en__law_program X G c, en__law_written X G c, en__law_read X G c, en__law_alive X G c, en__law_way_fault X G c, en__law_lack X G c, en__law_long X G c, en_law X G c, True.intro⟩
theorem glAll (X : K.In h) (G : h.Ns mainGlobals mg) (c : He.SaysD fa fn K) (k : ck K = true) : ∀ x d, GL.lookup x = some d → ∃ v u, mg x = some u ∧ RelV v u ∧ ∀ m H, RD K m H d v := fun x d e => by cases e
theorem frees (X : K.In h) (G : h.Ns mainGlobals mg) (c : He.SaysD fa fn K) : ∀ x, x ∈ bltN → mg x = none :=
  free_all X G c fun x hx => List.mem_append_right _ (List.mem_append_left _ (List.mem_map_of_mem hx))
theorem facts {P : Program} {w : World} {f : Addr} (X : K.In h) (G : h.Ns mainGlobals mg) (hfa : mg ("law" : Str) = some (.ref f)) (c : He.SaysD fa fn K) (k : ck K = true) :
    ∃ fd : FuncData, (∀ (s : Shared) (v : Value), BindsTo s fd ⟨[v], []⟩ [("script", v)]) ∧ ∀ base : Heap, K.In base → base.Ns mainGlobals mg → FnOk P w K mg base C8.CX0 14 f fd ["script"] (spC ⟨P, w, K, mg, base, fun _ => none⟩ (callN T 14) (.fn 154) 1) := by
  obtain ⟨fd, F⟩ := c.def_ 26 (d := dd "law" 91 []) rfl
  have e := hfa.symm.trans (glob X G c (inG (List.mem_of_getElem? (i := 26) rfl)) : mg ("law" : Str) = _)
  cases e
  have b := FunD.bindsA (ps := ["script"]) F fun _ _ _ _ _ _ us hl => match us, hl with | [_], _ => rfl
  refine ⟨fd, fun s v => b s [v] rfl, fun base KB GB => ?_⟩
  exact fnOk_of (W := ⟨P, w, K, mg, base, fun _ => none⟩) (st := top 91) (G := ⟨N_law, FN, GL⟩) (gok_all (W := ⟨P, w, K, mg, base, fun _ => none⟩) (frees X G c) (glAll X G c k) (entAll X G c k) 13 N_law) F (C8.fnScope_by (by decide +kernel)) rfl fun ds h => by
    show callOut N_law.length B_law (callN T 13) ds h = _
    rw [e_law]
end
end K56
open PySem PySem.W PySem.Calls PyProof.Rows
theorem K56.by_main (main : ∀ ns : List Int, ns.length ≤ 63 → ∃ h', Cw.callN K56.T 14 (.fn 154) [.fl (ns.map Cw.D.int)] [] = .ok (.bl true) h') : PySem.Challenge.rw_cutrows_k56_certificates_of_matters.Holds := by
  w_on; o_law
  refine HandSHeadRun.head_any (r := OpenLaw.row PySem.Challenge.rw_cutrows_k56_certificates_of_matters) (q := view (OpenLaw.row PySem.Challenge.rw_cutrows_k56_certificates_of_matters).prog [91]) (H := K56.hk) (ob := K56.ob) (M := 12000) (loose := K56.nm) (d := HandSHeadRun.topDef (OpenLaw.row PySem.Challenge.rw_cutrows_k56_certificates_of_matters).prog 91) (kwd := []) K56.ob_eq
    (by kernel_rfl) (fun s => by kernel_rfl) K56.run (by kernel_rfl) (by kernel_rfl) (by kernel_rfl) (by rfl) (by first | assumption | decide +kernel) (by decide +kernel) ⟨rfl, rfl, rfl, rfl, rfl, by decide +kernel⟩ ?hw ?hc
  case hw => w_witness2
  case hc =>
    refine L2.walk_ofE (l := PySem.Challenge.rw_cutrows_k56_certificates_of_matters) (n := 63) (k := 14) (x := "script") (CX := C8.CX0) rfl (by decide) (by kernel_rfl) ⟨rfl, by decide, by decide⟩ ?F (fun _ _ _ _ z => z)
    intro w mg fa h Y G hmg0
    obtain ⟨K, KX, k, c⟩ := Y
    have hmg : mg ("law" : PySem.Str) = some (.ref fa) := by
      have e : (HandSHeadRun.topDef (OpenLaw.row PySem.Challenge.rw_cutrows_k56_certificates_of_matters).prog 91).name = ("law" : PySem.Str) := by kernel_rfl
      rw [← e]
      exact hmg0
    obtain ⟨fd, hb, hF⟩ := K56.facts (P := (PySem.Challenge.rw_cutrows_k56_certificates_of_matters).prog) (w := w) KX G hmg c k
    exact ⟨K, fd, Cw.spC ⟨(PySem.Challenge.rw_cutrows_k56_certificates_of_matters).prog, w, K, mg, h, fun _ => none⟩ (Cw.callN K56.T 14) (.fn 154) 1, KX, hb, fun H a ns hl hO hS => Cw.law_sp (W := ⟨(PySem.Challenge.rw_cutrows_k56_certificates_of_matters).prog, w, K, mg, h, fun _ => none⟩) hO hS (main ns hl), hF⟩

end

section
/-! What the law draws. -/
namespace K56
open L2 Cw
/-! ### the pen -/
def Pen (p q : Nat) (ns : List Int) (h : AH) : Prop := p ≠ q ∧ h[q]? = some (.lst (ns.map D.int)) ∧ ∃ a d : Int, h[p]? = some (.lst [.ob q, .int a, .int d])
theorem Pen.gr {p q : Nat} {ns : List Int} {h h' : AH} (P : Pen p q ns h) (g : Gr h h') : Pen p q ns h' := ⟨P.1, g _ _ P.2.1, P.2.2.imp fun a ⟨d, e⟩ => ⟨d, g _ _ e⟩⟩
theorem Pen.set {p q : Nat} {ns : List Int} {h : AH} {k : Nat} {o : O} (P : Pen p q ns h) (n1 : k ≠ p) (n2 : k ≠ q) : Pen p q ns (h.set k o) :=
  ⟨P.1, by rw [set_get_ne n2]; exact P.2.1, P.2.2.imp fun a ⟨d, e⟩ => ⟨d, by rw [set_get_ne n1]; exact e⟩⟩
theorem Pen.ne {p q : Nat} {ns : List Int} {h : AH} {k : Nat} (P : Pen p q ns h) (f : h[k]? = none) : k ≠ p ∧ k ≠ q := by
  obtain ⟨_, hq, a, d, hp⟩ := P
  constructor
  · rintro rfl; rw [hp] at f; cases f
  · rintro rfl; rw [hq] at f; cases f
theorem small_of {i : Int} (h0 : 0 ≤ i) (h1 : i < 2305843009213693951) : Cw.small64 i = true := by
  unfold Cw.small64
  rw [Bool.and_eq_true, decide_eq_true_eq, decide_eq_true_eq]
  omega
theorem ix1 : ixN 3 1 = some 1 := by decide
theorem ix2 : ixN 3 2 = some 2 := by decide
theorem m_fresh {n p q : Nat} {ns : List Int} {h : AH} (P : Pen p q ns h) : sat (callN T (n + 1) (.fn 26) [.ob p] h) fun d h' => ∃ v, d = .int v ∧ Kp p h h' ∧ Pen p q ns h' := by
  obtain ⟨hpq, hq, a, d, hp⟩ := P
  refine s_fn (nN := 7) (b := B__law_fresh) rfl fun Q hQ => ?_
  simp only [B__law_fresh, startE, s_seqN]
  rw [s_seq]
  simp [p_ixO hp]
  rw [s_seq]
  simp [p_set hp (i := 1) ix1]
  generalize hh1 : h.set p _ = h1
  have hp1 : h1[p]? = some (.lst [.ob q, .int (a + 1), .int d]) := by rw [← hh1]; exact set_get hp
  have hq1 : h1[q]? = some (.lst (ns.map D.int)) := by rw [← hh1, set_get_ne hpq]; exact hq
  have k1 : Kp p h h1 := by rw [← hh1]; exact Kp.refl.own
  rw [s_seq]
  simp
  refine s_cut (fun ρ h2 => (∃ v : Int, ρ = [some (.ob p), some (.int a), some (.int v), none, none, none, none]) ∧ h2[q]? = some (.lst (ns.map D.int)) ∧ h2[p]? = some (.lst [.ob q, .int (a + 1), .int d]) ∧ Kp p h h2) (fun M hM => ?_) ?_
  · have hq2 : (h1 ++ [O.lst []])[q]? = some (.lst (ns.map D.int)) := Gr.app _ _ hq1
    have hp2 : (h1 ++ [O.lst []])[p]? = some (.lst [.ob q, .int (a + 1), .int d]) := Gr.app _ _ hp1
    simp [p_ixO hp1, p_neL hq2 top_get]
    have k2 : Kp p h (h1 ++ [O.lst []]) := k1.one
    generalize h1 ++ [O.lst []] = h2 at hq2 hp2 k2
    cases ns with
    | nil => simp [pyEqs]; exact hM _ _ ⟨⟨_, rfl⟩, hq2, hp2, k2⟩
    | cons x xs =>
      have hpos : (0 : Int) < (xs.length : Int) + 1 := by omega
      simp [pyEqs, p_ixO hp2, p_len (gQ_ob hq2)]
      rw [p_mod hpos]
      simp [p_ixO hq2]
      have h0 := Int.emod_nonneg a (b := (xs.length : Int) + 1) (by omega)
      have h3 := Int.emod_lt_of_pos a hpos
      generalize a % ((xs.length : Int) + 1) = r at h0 h3
      obtain ⟨k, rfl⟩ := Int.eq_ofNat_of_zero_le h0
      have hk : k < ((x :: xs).map D.int).length := by simp; omega
      refine ⟨_, at_nat (List.getElem?_eq_getElem hk), ?_⟩
      rw [List.getElem_map]
      exact hM _ _ ⟨⟨_, rfl⟩, hq2, hp2, k2⟩
  · rintro ρ h2 ⟨⟨v, rfl⟩, hq2, hp2, k2⟩
    have fin : ∀ u : Int, Q (.int u) h2 := fun u => hQ _ _ ⟨u, rfl, k2, hpq, hq2, _, _, hp2⟩
    refine s_cut (fun ρ h3 => ρ = [some (.ob p), some (.int a), some (.int v), none, none, none, none] ∧ h3 = h2) (fun M hM => ?_) ?_
    · simp [p_ixO hp2, p_len (gQ_ob hq2), p_pow]
      have e := hM _ _ ⟨rfl, rfl⟩
      simp [e, fin]
    · rintro ρ h3 ⟨rfl, rfl⟩
      rw [s_seq]
      simp
      rw [s_seq]
      simp [p_mul (i := v) (j := 48271) (.inr (by decide)), p_mul (i := 40692) (j := a) (.inl (by decide)), p_mod]
      have b0 := Int.emod_nonneg (v * 48271 + 40692 * a + 31) (b := 2305843009213693951) (by decide)
      have b1 := Int.emod_lt_of_pos (v * 48271 + 40692 * a + 31) (b := 2305843009213693951) (by decide)
      generalize (v * 48271 + 40692 * a + 31) % 2305843009213693951 = st at b0 b1
      rw [s_seq]
      simp
      refine s_cut (fun ρ h4 => ∃ s f t, ρ = [some (.ob p), some (.int a), some (.int v), some (.int 2305843009213693951), some (.int s), some (.int f), t] ∧ h4 = h3) (fun M hM => ?_) ?_
      · simp
        refine s_forL (fun done ρ h4 => ∃ s f t, ρ = [some (.ob p), some (.int a), some (.int v), some (.int 2305843009213693951), some (.int s), some (.int f), t] ∧ h4 = h3 ∧ 0 ≤ s ∧ s < 2305843009213693951) ⟨_, _, _, rfl, rfl, b0, b1⟩ ?_ ?_
        · rintro done x rest ρ h4 N e ⟨s, f, t, rfl, rfl, s0, s1⟩ hN
          obtain ⟨rfl, hl⟩ := mem_rng (lo := 0) e
          simp [setT]
          rw [s_seq]
          have m1 : Cw.small64 (done.length : Int) = true := small_of (by omega) (by omega)
          simp [p_mul (.inl (small_of s0 s1)), p_mul (i := 69621) (j := (done.length : Int) + 1) (.inl (by decide)), p_mul (i := 69621 * ((done.length : Int) + 1)) (j := a + 1) (.inl (small_of (by omega) (by omega))), p_mod, p_mul (i := f) (j := 2305843009213693951) (.inr (by decide))]
          exact hN _ _ ⟨_, _, _, rfl, rfl, Int.emod_nonneg _ (by decide), Int.emod_lt_of_pos _ (by decide)⟩
        · rintro ρ h4 ⟨s, f, t, rfl, rfl, _⟩
          exact hM _ _ ⟨_, _, _, rfl, rfl⟩
      · rintro ρ h4 ⟨s, f, t, rfl, rfl⟩
        simp [fin]
abbrev nD (n : Nat) : D := .int n
theorem m_draw {n p q : Nat} {ns : List Int} {h : AH} {k : Int} (P : Pen p q ns h) (h0 : 0 < k) (h1 : k < 1073741824) : sat (callN T (n + 2) (.fn 18) [.ob p, .int k] h) fun d h' => ∃ v : Nat, d = nD v ∧ (v : Int) < k ∧ Kp p h h' ∧ Pen p q ns h' := by
  refine s_fn (nN := 3) (b := B__law_draw) rfl fun Q hQ => ?_
  simp only [B__law_draw, startE, s_seqN]
  refine s_cut (fun ρ h' => ρ = [some (.ob p), some (.int k), none] ∧ Kp p h h' ∧ Pen p q ns h') (fun M hM => ?_) ?_
  · obtain ⟨hpq, hq, a, d, hp⟩ := P
    simp [p_ixO hp]
    split
    · refine (m_fresh (n := n) ⟨hpq, hq, a, d, hp⟩).imp ?_
      rintro d' h' ⟨v, rfl, g, hpq, hq', a', d', hp'⟩
      simp [p_set hp' (i := 2) ix2]
      refine hM _ _ ⟨rfl, g.own, hpq, by rw [set_get_ne hpq]; exact hq', a', v, ?_⟩
      rw [set_get hp']
    · exact hM _ _ ⟨rfl, Kp.refl, hpq, hq, a, d, hp⟩
  · rintro ρ h' ⟨rfl, g, hpq, hq', a', d', hp'⟩
    rw [s_seq]
    simp [p_ixO hp', p_mod h0]
    rw [s_seq]
    simp [p_ixO hp', p_div ⟨h0, h1⟩, p_set hp' (i := 2) ix2]
    have b0 := Int.emod_nonneg d' (b := k) (by omega)
    have b1 := Int.emod_lt_of_pos d' h0
    obtain ⟨v, hv⟩ := Int.eq_ofNat_of_zero_le b0
    rw [hv]
    refine hQ _ _ ⟨v, rfl, by omega, g.own, hpq, by rw [set_get_ne hpq]; exact hq', a', d' / k, ?_⟩
    rw [set_get hp']
abbrev nsD (l : List Nat) : D := .tup (l.map nD)
theorem map_nD {l : List Nat} : l.map nD = (l.map fun (k : Nat) => (k : Int)).map D.int := by rw [List.map_map]; rfl
@[simp] theorem okNs_nD {k : Nat} {l : List Nat} : okNs k (l.map nD) = true := by rw [map_nD]; exact okNs_ints
theorem sort_nD {l : List Nat} (hl : l.length ≤ cap) : sortOk (l.map nD) = true := by rw [map_nD]; exact sortOk_ints _ (by simpa using hl)
theorem leS_nD {a b : Nat} : leS (nD a) (nD b) = decide (a ≤ b) := by
  show (!PySem.W.dataLt (.int b) (.int a)) = _
  rw [PySem.W.dataLt_int]
  rw [← decide_not]
  congr 1
  rw [eq_iff_iff]
  omega
/-- numbers sorted: the same numbers, ascending -/
theorem isort_nD (l : List Nat) : ∃ r : List Nat, isort (l.map nD) = r.map nD ∧ r.Perm l ∧ r.Pairwise (· ≤ ·) := by
  have hp := isort_perm (l.map nD)
  have hs := isort_sorted (l.map nD)
  have hr : ∀ (L : List D), (∀ d ∈ L, ∃ k, d = nD k) → ∃ r : List Nat, L = r.map nD := by
    intro L
    induction L with
    | nil => intro _; exact ⟨[], rfl⟩
    | cons d L ih =>
      intro hL
      obtain ⟨k, rfl⟩ := hL d List.mem_cons_self
      obtain ⟨r, rfl⟩ := ih fun d hd => hL d (List.mem_cons_of_mem _ hd)
      exact ⟨k :: r, rfl⟩
  obtain ⟨r, hr⟩ := hr _ fun d hd => by
    obtain ⟨k, _, e⟩ := List.mem_map.mp (hp.mem_iff.mp hd)
    exact ⟨k, e.symm⟩
  rw [hr] at hp hs
  refine ⟨r, hr, ?_, ?_⟩
  · have key : ∀ {L M : List D}, L.Perm M → ∀ {a b : List Nat}, L = a.map nD → M = b.map nD → a.Perm b := by
      intro L M hLM a b ha hb
      have f : ∀ (x : List Nat), x = (x.map nD).filterMap fun d => match d with
        | .int i => some i.toNat
        | _ => none := by
        intro x
        induction x with
        | nil => rfl
        | cons y x ih => rw [List.map_cons, List.filterMap_cons, ← ih]; simp
      rw [f a, f b, ← ha, ← hb]
      exact hLM.filterMap _
    exact key hp rfl rfl
  · rw [List.pairwise_map] at hs
    exact hs.imp fun h => by rw [leS_nD] at h; exact of_decide_eq_true h
/-- cells drawn: few -/
theorem m_cells {n p q : Nat} {ns : List Int} {h : AH} {k w : Int} (P : Pen p q ns h) (h0 : 0 < k) (h1 : k < 1000) (w0 : 0 ≤ w) (w1 : w ≤ 20) :
    sat (callN T (n + 3) (.fn 15) [.ob p, .int k, .int w] h) fun d h' => ∃ l : List Nat, d = nsD l ∧ l.length ≤ 20 ∧ Kp p h h' ∧ Pen p q ns h' := by
  refine s_fn (nN := 6) (b := B__law_cells) rfl fun Q hQ => ?_
  simp only [B__law_cells, startE, s_seqN]
  rw [s_seq]
  simp
  have P1 : Pen p q ns (h ++ [.lst []]) := P.gr Gr.app
  have f0 : (h ++ [O.lst []])[h.length]? = some (.lst []) := top_get
  obtain ⟨n1, n2⟩ := P.ne (k := h.length) free_top
  refine s_cut (fun ρ h' => ∃ (l : List Nat) (t1 t2 : Option D), ρ = [some (.ob p), some (.int k), some (.int w), some (.ob h.length), t1, t2] ∧ l.length ≤ 20 ∧ h'[h.length]? = some (.lst (l.map nD)) ∧ Kp p h h' ∧ Pen p q ns h') (fun M hM => ?_) ?_
  · simp
    refine (m_draw (n := n) P1 (k := w + 1) (by omega) (by omega)).imp ?_
    rintro d h2 ⟨v, rfl, hv, g, P2⟩
    simp
    refine ⟨by omega, ?_⟩
    refine s_forL (fun done ρ h' => ∃ (l : List Nat) (t1 t2 : Option D), ρ = [some (.ob p), some (.int k), some (.int w), some (.ob h.length), t1, t2] ∧ l.length ≤ done.length ∧ h'[h.length]? = some (.lst (l.map nD)) ∧ Kp p h h' ∧ Pen p q ns h') ?_ ?_ ?_
    · exact ⟨[], _, _, rfl, Nat.le_refl _, g _ _ n1 f0, (Gr.app.kp).trans g, P2⟩
    · rintro done x rest ρ h3 N e ⟨l, t1, t2, rfl, hl, hf, g3, P3⟩ hN
      obtain ⟨rfl, hd⟩ := mem_rng (lo := 0) e
      simp [setT]
      rw [s_seq]
      simp
      refine (m_draw (n := n) P3 h0 (by omega)).imp ?_
      rintro d h4 ⟨u, rfl, hu, g4, P4⟩
      have hf4 := g4 _ _ n1 hf
      rw [p_in (gQ_ob hf4) rfl okNs_nD]
      cases hin : inQ (nD u) (l.map nD)
      · simp [gL_ob hf4]
        rw [p_append hf4 (by simp [cap]; omega)]
        simp
        refine hN _ _ ⟨l ++ [u], _, _, rfl, by simp; omega, ?_, ?_, P4.set n1 n2⟩
        · rw [set_get hf4]; simp
        · exact (g3.trans g4).set free_top
      · simp
        exact hN _ _ ⟨l, _, _, rfl, by simp; omega, hf4, g3.trans g4, P4⟩
    · rintro ρ h3 ⟨l, t1, t2, rfl, hl, hf, g3, P3⟩
      rw [rngD_len] at hl
      exact hM _ _ ⟨l, t1, t2, rfl, by omega, hf, g3, P3⟩
  · rintro ρ h3 ⟨l, t1, t2, rfl, hl, hf, g3, P3⟩
    simp
    rw [p_sorted (gL_ob hf) (sort_nD (by simp [cap]; omega))]
    obtain ⟨r, er, pr, sr⟩ := isort_nD l
    simp
    rw [p_tuple (gQ_ob top_get), er]
    simp
    exact hQ _ _ ⟨r, rfl, by rw [pr.length_eq]; exact hl, g3.one, P3.gr Gr.app⟩
end K56

end

section
/-! Drawn programs. -/
namespace K56
open L2 Cw
inductive It where
  | act (w : Nat) (rs : List Nat) | ask (w : Nat) | send (rs : List Nat) | mark (rs : List Nat)
def It.d : It → D
  | .act w rs => .tup [.str 157, nD w, nsD rs]
  | .ask w => .tup [.str 120, nD w]
  | .send rs => .tup [.str 277, nsD rs]
  | .mark rs => .tup [.str 220, nsD rs]
def It.rd : It → List Nat
  | .act _ rs => rs
  | .send rs => rs
  | _ => []
def It.wr : It → Option Nat
  | .act w _ => some w
  | .ask w => some w
  | _ => none
def Few (l : List It) : Prop := ∀ it ∈ l, it.rd.length ≤ 20
abbrev progD (k l : Nat) (its : List It) : D := .tup [nD k, nD l, .tup (its.map It.d)]
theorem okN_nsD {k : Nat} {l : List Nat} : okN (k + 1) (nsD l) = true := by rw [okN]; exact okNs_nD
theorem m_item {n p q : Nat} {ns : List Int} {h : AH} {k : Int} (P : Pen p q ns h) (h0 : 0 < k) (h1 : k ≤ 20) :
    sat (callN T (n + 4) (.fn 36) [.ob p, .int k] h) fun d h' => ∃ it : It, d = it.d ∧ it.rd.length ≤ 20 ∧ Kp p h h' ∧ Pen p q ns h' := by
  refine s_fn (nN := 5) (b := B__law_item) rfl fun Q hQ => ?_
  simp only [B__law_item, startE, s_seqN]
  rw [s_seq]
  simp
  refine (m_draw (n := n + 1) P (k := 9) (by omega) (by omega)).imp ?_
  rintro d h2 ⟨o, rfl, ho, g2, P2⟩
  refine (m_draw (n := n + 1) P2 h0 (by omega)).imp ?_
  rintro d h3 ⟨w, rfl, hw, g3, P3⟩
  have g := g2.trans g3
  simp [setMany]
  rw [s_seq]
  simp
  split
  · refine (m_cells (n := n) P3 h0 (by omega) (w := 3) (by omega) (by omega)).imp ?_
    rintro d h4 ⟨l, rfl, hl, g4, P4⟩
    exact hQ _ _ ⟨.act w l, rfl, hl, g.trans g4, P4⟩
  rw [s_seq]
  simp
  split
  · exact hQ _ _ ⟨.ask w, rfl, by simp [It.rd], g, P3⟩
  rw [s_seq]
  simp
  split
  · rw [s_seq]
    simp
    refine (m_cells (n := n) P3 h0 (by omega) (w := 3) (by omega) (by omega)).imp ?_
    rintro d h4 ⟨l, rfl, hl, g4, P4⟩
    rw [p_neT okN_nsD rfl]
    cases l with
    | nil =>
      simp [pyEqs]
      exact hQ _ _ ⟨.send [w], rfl, by simp [It.rd], g.trans g4, P4⟩
    | cons a l =>
      simp [pyEqs]
      exact hQ _ _ ⟨.send (a :: l), rfl, hl, g.trans g4, P4⟩
  · refine (m_cells (n := n) P3 h0 (by omega) (w := k) (by omega) (by omega)).imp ?_
    rintro d h4 ⟨l, rfl, hl, g4, P4⟩
    exact hQ _ _ ⟨.mark l, rfl, by simp [It.rd], g.trans g4, P4⟩
theorem m_program {n p q : Nat} {ns : List Int} {h : AH} {kp ls : Nat} {w : Int} (P : Pen p q ns h) (h1 : kp ≤ 8) (h2 : ls ≤ 8) (w0 : 0 ≤ w) (w1 : w ≤ 60) :
    sat (callN T (n + 5) (.fn 69) [.ob p, nD kp, nD ls, .int w] h) fun d h' => ∃ (ls' : Nat) (its : List It), d = progD kp ls' its ∧ ls' ≤ 8 ∧ 1 ≤ kp + ls' ∧ its.length ≤ 60 ∧ Few its ∧ Kp p h h' ∧ Pen p q ns h' := by
  refine s_fn (nN := 5) (b := B__law_program) rfl fun Q hQ => ?_
  simp only [B__law_program, startE, s_seqN]
  refine s_cut (fun ρ h' => ∃ ls' : Nat, ρ = [some (.ob p), some (nD kp), some (nD ls'), some (.int w), none] ∧ ls' ≤ 8 ∧ 1 ≤ kp + ls' ∧ h' = h) (fun M hM => ?_) ?_
  · simp
    split
    · exact hM _ _ ⟨1, rfl, by omega, by omega, rfl⟩
    · exact hM _ _ ⟨ls, rfl, h2, by omega, rfl⟩
  · rintro ρ h' ⟨ls', rfl, hl, hp, rfl⟩
    simp
    rw [s_comp]
    simp
    refine (m_draw (n := n + 2) P (k := w + 1) (by omega) (by omega)).imp ?_
    rintro d h3 ⟨v, rfl, hv, g3, P3⟩
    simp [rngD_len]
    refine ⟨by omega, by simp [cap]; omega, ?_⟩
    refine s_compL (fun done ys h4 => ∃ its : List It, ys = its.map It.d ∧ its.length = done.length ∧ Few its ∧ Kp p h' h4 ∧ Pen p q ns h4) ⟨[], rfl, rfl, fun _ z => (by cases z), g3, P3⟩ ?_ ?_
    · rintro done x rest ys h4 N e ⟨its, rfl, el, fw, g4, P4⟩ hN
      simp [setT, wipeE]
      refine (m_item (n := n) P4 (k := (kp : Int) + ls') (by omega) (by omega)).imp ?_
      rintro d h5 ⟨it, rfl, hit, g5, P5⟩
      refine hN _ _ ⟨its ++ [it], by simp, by simp [el], fun i hi => ?_, g4.trans g5, P5⟩
      rcases List.mem_append.mp hi with hi | hi
      · exact fw i hi
      · rw [List.mem_singleton.mp hi]; exact hit
    · rintro ys h4 ⟨its, rfl, el, fw, g4, P4⟩
      rw [rngD_len] at el
      rw [p_tuple (gQ_ob top_get)]
      simp
      exact hQ _ _ ⟨ls', its, rfl, hl, hp, by omega, fw, g4.one, P4.gr Gr.app⟩
theorem map_d (l m : List It) : (l ++ m).map It.d = l.map It.d ++ m.map It.d := List.map_append
/-- the long one: sixty-four items -/
theorem m_long {n p q : Nat} {ns : List Int} {h : AH} (P : Pen p q ns h) :
    sat (callN T (n + 5) (.fn 43) [.ob p] h) fun d h' => ∃ (kp ls : Nat) (its : List It), d = progD kp ls its ∧ kp ≤ 8 ∧ ls ≤ 8 ∧ 1 ≤ kp + ls ∧ its.length = 64 ∧ Few its ∧ Kp p h h' ∧ Pen p q ns h' := by
  refine s_fn (nN := 9) (b := B__law_long) rfl fun Q hQ => ?_
  simp only [B__law_long, startE, s_seqN]
  rw [s_seq]
  simp
  refine (m_draw (n := n + 2) P (k := 4) (by omega) (by omega)).imp ?_
  rintro d h2 ⟨a, rfl, ha, g2, P2⟩
  simp
  refine (m_draw (n := n + 2) P2 (k := 6) (by omega) (by omega)).imp ?_
  rintro d h3 ⟨b, rfl, hb, g3, P3⟩
  have g := g2.trans g3
  simp [setMany]
  rw [s_seq]
  simp
  have e1 : (1 : Int) + (a : Int) = ((1 + a : Nat) : Int) := by omega
  rw [e1]
  have f0 : (h3 ++ [O.lst []])[h3.length]? = some (.lst []) := top_get
  obtain ⟨n1, n2⟩ := P3.ne (k := h3.length) free_top
  have P4 : Pen p q ns (h3 ++ [O.lst []]) := P3.gr Gr.app
  generalize hL : h3.length = L at f0 n1 n2
  have fL : h3[L]? = none := by rw [← hL]; exact free_top
  refine s_cut (fun ρ h' => ∃ (its : List It) (t1 t2 t3 t4 : Option D), ρ = [some (.ob p), some (nD (1 + a)), some (nD b), some (.ob L), some (.int (((1 + a : Nat) : Int) + b)), t1, t2, t3, t4] ∧ its.length = 62 ∧ Few its ∧ h'[L]? = some (.lst (its.map It.d)) ∧ Kp p h h' ∧ Pen p q ns h') (fun M hM => ?_) ?_
  · simp
    refine s_forL (fun done ρ h' => ∃ (its : List It) (t1 t2 t3 t4 : Option D), ρ = [some (.ob p), some (nD (1 + a)), some (nD b), some (.ob L), some (.int (((1 + a : Nat) : Int) + b)), t1, t2, t3, t4] ∧ its.length = 2 * done.length ∧ Few its ∧ h'[L]? = some (.lst (its.map It.d)) ∧ Kp p h3 h' ∧ Pen p q ns h') ⟨[], _, _, _, _, rfl, rfl, fun _ z => (by cases z), f0, Gr.app.kp, P4⟩ ?_ ?_
    · rintro done x rest ρ h4 N e ⟨its, t1, t2, t3, t4, rfl, el, fw, hf, g4, P5⟩ hN
      obtain ⟨rfl, hd⟩ := mem_rng (lo := 0) e
      simp [setT]
      rw [s_seq]
      simp
      refine (m_draw (n := n + 2) P5 (k := 1 + (a : Int) + b) (by omega) (by omega)).imp ?_
      rintro d h5 ⟨w, rfl, hw, g5, P6⟩
      have hf5 := g5 _ _ n1 hf
      rw [s_seq]
      simp [gL_ob hf5]
      rw [s_comp]
      simp
      refine (m_cells (n := n + 1) P6 (k := 1 + (a : Int) + b) (by omega) (by omega) (w := 3) (by omega) (by omega)).imp ?_
      rintro d h6 ⟨l, rfl, hl, g6, P7⟩
      have hf6 := g6 _ _ n1 hf5
      simp
      refine ⟨_, _, ⟨rfl, rfl⟩, ⟨rfl, by simp [cap]; omega⟩, ?_⟩
      refine s_compL (fun done ys h7 => ∃ r : List Nat, ys = r.map nD ∧ r.length ≤ done.length ∧ h7 = h6) ⟨[], rfl, Nat.le_refl _, rfl⟩ ?_ ?_
      · rintro dn x rest2 ys h7 N2 e2 ⟨r, rfl, hr, rfl⟩ hN2
        have hx : ∃ u : Nat, x = nD u := by
          have : x ∈ l.map nD := by rw [e2]; simp
          obtain ⟨u, _, rfl⟩ := List.mem_map.mp this
          exact ⟨u, rfl⟩
        obtain ⟨u, rfl⟩ := hx
        simp [setT, wipeE]
        split
        · exact hN2 _ _ ⟨r, rfl, by simp; omega, rfl⟩
        · exact hN2 _ _ ⟨r ++ [u], by simp, by simp; omega, rfl⟩
      · rintro ys h7 ⟨r, rfl, hr, rfl⟩
        have hr : r.length ≤ 20 := by rw [List.length_map] at hr; omega
        rw [p_tuple (gQ_ob top_get)]
        simp only [sat_ok]
        have hf7 : (h7 ++ [O.lst (r.map nD)])[L]? = some (.lst (its.map It.d)) := Gr.app _ _ hf6
        have g7 : Kp p h3 (h7 ++ [O.lst (r.map nD)]) := ((g4.trans g5).trans g6).one
        have P8 : Pen p q ns (h7 ++ [O.lst (r.map nD)]) := P7.gr Gr.app
        generalize h7 ++ [O.lst (r.map nD)] = h8 at hf7 g7 P8
        rw [p_append hf7 (by simp [cap]; omega)]
        simp only [sat_ok]
        have hf8 := set_get (o := .lst (its.map It.d ++ [.tup [.str 157, nD w, nsD r]])) hf7
        have g8 := g7.set (o := .lst (its.map It.d ++ [.tup [.str 157, nD w, nsD r]])) fL
        have P9 := P8.set (o := .lst (its.map It.d ++ [.tup [.str 157, nD w, nsD r]])) n1 n2
        refine ⟨⟨_, gL_ob hf8⟩, ?_⟩
        rw [p_tupR (by omega) (by omega)]
        simp only [sat_ok]
        rw [p_append hf8 (by simp [cap]; omega)]
        simp only [sat_ok]
        refine hN _ _ ⟨its ++ [It.act w r, It.mark (List.range (1 + (a : Int) + b).toNat)], _, _, _, _, rfl, by simp; omega, fun i hi => ?_, ?_, g8.set fL, P9.set n1 n2⟩
        · rcases List.mem_append.mp hi with hi | hi
          · exact fw i hi
          · rcases List.mem_cons.mp hi with rfl | hi
            · exact hr
            · rw [List.mem_singleton.mp hi]; simp [It.rd]
        · rw [set_get hf8]; simp [It.d]
    · rintro ρ h4 ⟨its, t1, t2, t3, t4, rfl, el, fw, hf, g4, P5⟩
      exact hM _ _ ⟨its, _, _, _, _, rfl, by rw [rngD_len] at el; omega, fw, hf, g.trans g4, P5⟩
  · rintro ρ h4 ⟨its, t1, t2, t3, t4, rfl, el, fw, hf, g4, P5⟩
    rw [s_seq]
    simp
    refine (m_draw (n := n + 2) P5 (k := 1 + (a : Int)) (by omega) (by omega)).imp ?_
    rintro d h5 ⟨w, rfl, hw, g5, P6⟩
    have hf5 := g5 _ _ n1 hf
    refine s_cut (fun ρ h' => ∃ (it : It), ρ = [some (.ob p), some (nD (1 + a)), some (nD b), some (.ob L), some (.int (((1 + a : Nat) : Int) + b)), t1, some (nD w), some it.d, t4] ∧ it.rd.length ≤ 20 ∧ h'[L]? = some (.lst (its.map It.d)) ∧ Kp p h h' ∧ Pen p q ns h') (fun M hM => ?_) ?_
    · simp
      have n3 : h5.length ≠ p := (P6.ne (k := h5.length) free_top).1
      generalize hX : [D.tup [.str 157, nD w, .tup []], D.tup [.str 220, .tup []], D.tup [.str 120, nD w], D.tup [.str 157, D.int (1 + (a : Int) + b - 1), .tup [nD w]]] = X
      have hf6 : (h5 ++ [O.lst X])[L]? = some (.lst (its.map It.d)) := Gr.app _ _ hf5
      have ht6 : (h5 ++ [O.lst X])[h5.length]? = some (.lst X) := top_get
      refine (m_draw (n := n + 2) (P6.gr Gr.app) (k := 4) (by omega) (by omega)).imp ?_
      rintro d h7 ⟨v, rfl, hv, g7, P7⟩
      have hf7 := g7 _ _ n1 hf6
      have ht7 := g7 _ _ n3 ht6
      have gg : Kp p h h7 := ((g4.trans g5).one).trans g7
      rw [p_ixO ht7]
      have go : ∀ it : It, X[v]? = some it.d → it.rd.length ≤ 20 → ∃ d, atI X (v : Int) = some d ∧ M [some (D.ob p), some (nD (1 + a)), some (nD b), some (D.ob L), some (D.int (1 + (a : Int) + b)), t1, some (nD w), some d, t4] h7 := fun it e l => ⟨_, at_nat e, hM _ _ ⟨it, rfl, l, hf7, gg, P7⟩⟩
      have hv4 : v = 0 ∨ v = 1 ∨ v = 2 ∨ v = 3 := by omega
      rcases hv4 with rfl | rfl | rfl | rfl
      · exact go (.act w []) (by rw [← hX]; rfl) (by simp [It.rd])
      · exact go (.mark []) (by rw [← hX]; rfl) (by simp [It.rd])
      · exact go (.ask w) (by rw [← hX]; rfl) (by simp [It.rd])
      · refine go (.act (a + b) [w]) ?_ (by simp [It.rd])
        rw [← hX]
        show some _ = some _
        have : (1 + (a : Int) + b - 1) = ((a + b : Nat) : Int) := by omega
        rw [this]; rfl
    · rintro ρ h7 ⟨it, rfl, hit, hf7, g7, P7⟩
      simp
      rw [p_tuple (gQ_ob hf7)]
      simp [addD]
      refine ⟨by simp [cap]; omega, ?_⟩
      refine hQ _ _ ⟨1 + a, b, its ++ [It.send [w], it], ?_, by omega, by omega, by omega, by simp [el], fun i hi => ?_, g7, P7⟩
      · simp [It.d]
      · rcases List.mem_append.mp hi with hi | hi
        · exact fw i hi
        · rcases List.mem_cons.mp hi with rfl | hi
          · simp [It.rd]
          · rw [List.mem_singleton.mp hi]; exact hit
end K56

end

section
/-! What matters: the rows. -/
namespace K56
open L2 Cw
def oD : Option Nat → D
  | some n => nD n
  | none => .non
def It.tag : It → Nat
  | .act _ _ => 157
  | .ask _ => 120
  | .send _ => 277
  | .mark _ => 220
def It.snd (it : It) : Bool := it.tag == 277
theorem pyEq_nD {a b : Nat} : pyEq (nD a) (nD b) = decide (a = b) := by
  show decide ((a : Int) = (b : Int)) = _
  congr 1
  rw [eq_iff_iff]
  omega
theorem inQ_nD {c : Nat} {l : List Nat} : inQ (nD c) (l.map nD) = decide (c ∈ l) := by
  unfold inQ
  induction l with
  | nil => rfl
  | cons a l ih =>
    rw [List.map_cons, List.any_cons, ih, pyEq_nD, ← Bool.decide_or]
    congr 1
    rw [List.mem_cons, eq_iff_iff]
    exact ⟨fun h => h.elim (fun e => .inl e.symm) .inr, fun h => h.elim (fun e => .inl e.symm) .inr⟩
theorem inQ_non {l : List Nat} : inQ .non (l.map nD) = false := by
  unfold inQ
  induction l with
  | nil => rfl
  | cons a l ih => rw [List.map_cons, List.any_cons, ih]; rfl
def inO (o : Option Nat) (l : List Nat) : Bool := match o with
  | some w => decide (w ∈ l)
  | none => false
theorem inQ_oD {o : Option Nat} {l : List Nat} : inQ (oD o) (l.map nD) = inO o l := by
  cases o with
  | none => exact inQ_non
  | some w => exact inQ_nD
theorem okN_oD {o : Option Nat} {k : Nat} : okN k (oD o) = true := by cases o <;> cases k <;> rfl
section
variable {n : Nat} {h : AH} {it : It}
theorem m_written : callN T (n + 1) (.fn 218) [it.d] h = .ok (oD it.wr) h := by cases it <;> rfl
theorem m_lwritten : callN T (n + 1) (.fn 95) [it.d] h = .ok (oD it.wr) h := by cases it <;> rfl
theorem m_read : callN T (n + 1) (.fn 192) [it.d] h = .ok (nsD it.rd) h := by cases it <;> rfl
theorem m_lread : callN T (n + 1) (.fn 70) [it.d] h = .ok (nsD it.rd) h := by cases it <;> rfl
theorem p_tag {Q : D → AH → Prop} : sat (ixD it.d (.int 0) h) Q ↔ Q (.str it.tag) h := by cases it <;> simp [It.d, It.tag]
theorem tag_snd : (it.tag == 277) = it.snd := rfl
theorem p_neO {c : Nat} {o : Option Nat} : neD (nD c) (oD o) h = .ok (.bl (!decide (o = some c))) h := by
  cases o with
  | none => rfl
  | some w =>
    show Out.ok (D.bl (!decide ((c : Int) = (w : Int)))) h = _
    by_cases e : w = c
    · subst e; simp
    · have e2 : ¬((c : Int) = (w : Int)) := by omega
      simp [e, e2]
theorem p_inO {o : Option Nat} {l : List Nat} {b : Bool} : inLs b (oD o) (nsD l) h = .ok (.bl (if b then !inO o l else inO o l)) h := by
  rw [p_in gQ_tup okN_oD okNs_nD, inQ_oD]
theorem p_inT {c : Nat} {l : List Nat} {b : Bool} : inLs b (nD c) (nsD l) h = .ok (.bl (if b then !decide (c ∈ l) else decide (c ∈ l))) h := by
  rw [p_in gQ_tup rfl okNs_nD, inQ_nD]
theorem p_inL {c k : Nat} {l : List Nat} {b : Bool} (e : h[k]? = some (.lst (l.map nD))) : inLs b (nD c) (.ob k) h = .ok (.bl (if b then !decide (c ∈ l) else decide (c ∈ l))) h := by
  rw [p_in (gQ_ob e) rfl okNs_nD, inQ_nD]
end
/-- a comprehension that picks -/
theorem s_filter {c : CallF} {ρ : Env} {h : AH} {k : Nat} {tst : SE} {src : Src} {l : List Nat} (f : Nat → Bool) (hc : chk src h = true) (hk : k < ρ.length)
    (ht : ∀ a ∈ l, sat (tst c (ρ.set k (some (nD a))) h) fun b h1 => b = .bl (f a) ∧ h1 = h) : sat (compL (.one k) ρ (tst c) (eVar k c) src (l.map nD) h) fun ys h' => ys = (l.filter f).map nD ∧ h' = h := by
  refine s_compL (fun done ys h' => ∃ l1, done = l1.map nD ∧ ys = (l1.filter f).map nD ∧ h' = h) ⟨[], rfl, rfl, rfl⟩ ?_ ?_
  · rintro done x rest ys h' N e ⟨l1, rfl, rfl, rfl⟩ hN
    obtain ⟨l2, l3, rfl, e1, e2⟩ := List.map_eq_append_iff.mp e
    obtain ⟨a, l4, rfl, rfl, rfl⟩ := List.map_eq_cons_iff.mp e2
    refine ⟨_, rfl, (ht a (by simp)).imp ?_⟩
    rintro b h1 ⟨rfl, rfl⟩
    have eN : ∀ ys, ys = ((l1 ++ [a]).filter f).map nD → N ys h1 := fun ys e => hN _ _ ⟨l1 ++ [a], by simp, e, rfl⟩
    cases hf : f a
    · simp [hc]
      exact eN _ (by simp [List.filter_append, hf])
    · simp [List.getElem?_set_self hk, hc]
      exact eN _ (by simp [List.filter_append, hf])
  · rintro ys h' ⟨l1, e, rfl, rfl⟩
    have : l = l1 := by
      have inj : ∀ a b : Nat, nD a = nD b → a = b := fun a b e => by injection e with e; exact Int.ofNat.inj e
      exact List.map_inj_right inj |>.mp e
    rw [this]
    exact ⟨rfl, rfl⟩
/-- a cell matters ahead of these items -/
def Al : List It → Nat → Prop
  | [], _ => False
  | it :: r, c => (Al r c ∧ it.wr ≠ some c) ∨ (c ∈ it.rd ∧ (it.snd = true ∨ ∃ w, it.wr = some w ∧ Al r w))
structure Row (l : List It) (r : List Nat) : Prop where
  asc : r.Pairwise (· ≤ ·)
  mem : ∀ c, c ∈ r ↔ Al l c
  few : r.length ≤ 20 * l.length
theorem rd_wr {it : It} {c w : Nat} (h1 : c ∈ it.rd) (h2 : it.wr = some w) : it.tag = 157 := by
  cases it <;> simp [It.rd, It.wr, It.tag] at *
theorem inO_iff {o : Option Nat} {l : List Nat} : inO o l = true ↔ ∃ w, o = some w ∧ w ∈ l := by cases o <;> simp [inO]
theorem m_before {n : Nat} {h : AH} {it : It} {l : List It} {r : List Nat} (R : Row l r) (hl : l.length ≤ 64) (hi : it.rd.length ≤ 20) :
    sat (callN T (n + 2) (.fn 163) [it.d, nsD r] h) fun d h' => Gr h h' ∧ ∃ r', d = nsD r' ∧ Row (it :: l) r' := by
  refine s_fn (nN := 6) (b := B_matter_before) rfl fun Q hQ => ?_
  simp only [B_matter_before, startE, s_seqN]
  have hr : r.length ≤ 1280 := Nat.le_trans R.few (by omega)
  rw [s_seq]
  simp [m_written, m_read, setT, setMany]
  rw [s_seq]
  simp
  rw [s_comp]
  simp
  refine ⟨_, _, ⟨rfl, rfl⟩, ⟨rfl, by simp [cap]; omega⟩, ?_⟩
  refine (s_filter (fun c => !decide (it.wr = some c)) rfl (by simp [wipeE]) fun a _ => ?_).imp ?_
  · simp [wipeE, p_neO]
  rintro ys h1 ⟨rfl, rfl⟩
  have f0 : (h1 ++ [O.lst ((r.filter fun c => !decide (it.wr = some c)).map nD)])[h1.length]? = some (.lst ((r.filter fun c => !decide (it.wr = some c)).map nD)) := top_get
  have g0 : Gr h1 (h1 ++ [O.lst ((r.filter fun c => !decide (it.wr = some c)).map nD)]) := Gr.app
  generalize hk0 : (r.filter fun c => !decide (it.wr = some c)) = k0 at f0 g0
  generalize h1 ++ [O.lst (k0.map nD)] = h2 at f0 g0
  generalize h1.length = L at f0
  have hk0l : k0.length ≤ r.length := by rw [← hk0]; exact List.length_filter_le _ _
  refine s_cut (fun ρ h' => ∃ (k : List Nat) (L' : Nat) (t1 t2 t3 : Option D), ρ = [some it.d, some (nsD r), t1, t2, some (.ob L'), t3] ∧ h'[L']? = some (.lst (k.map nD)) ∧ Gr h1 h' ∧ (∀ c, c ∈ k ↔ Al (it :: l) c) ∧ k.length ≤ 20 * (it :: l).length) (fun M hM => ?_) ?_
  · have base : ∀ c, c ∈ k0 ↔ (Al l c ∧ it.wr ≠ some c) := fun c => by
      rw [← hk0, List.mem_filter, R.mem]
      simp
    have rest : ∀ (N : D → AH → Prop), (∀ (L' : Nat) (h' : AH), h'[L']? = some (.lst ((k0 ++ it.rd.filter fun c => !decide (c ∈ k0)).map nD)) → Gr h1 h' → N (.ob L') h') →
        sat (eComp (iOver (eVar 3)) [5] (.one 5) (eBin (inLs true) (eVar 5) (eVar 4)) (eVar 5) (callN T (n + 1)) [some it.d, some (nsD r), some (oD it.wr), some (nsD it.rd), some (.ob L), none] h2) fun y h2 => sat (addD (.ob L) y h2) N := by
      intro N hN
      rw [s_comp]
      simp
      refine ⟨_, _, ⟨rfl, rfl⟩, ⟨rfl, by simp [cap]; omega⟩, ?_⟩
      refine (s_filter (fun c => !decide (c ∈ k0)) rfl (by simp [wipeE]) fun a _ => ?_).imp ?_
      · simp [wipeE, p_inL f0]
      rintro ys h3 ⟨rfl, rfl⟩
      have f1 : (h3 ++ [O.lst ((it.rd.filter fun c => !decide (c ∈ k0)).map nD)])[L]? = some (.lst (k0.map nD)) := Gr.app _ _ f0
      simp [addD, f1]
      have : (it.rd.filter fun c => !decide (c ∈ k0)).length ≤ 20 := Nat.le_trans (List.length_filter_le _ _) hi
      refine ⟨by simp [cap]; omega, ?_⟩
      simp [newL]
      refine hN _ _ ?_ (g0.trans Gr.app)
      simp
    have more : (it.snd = true ∨ ∃ w, it.wr = some w ∧ w ∈ r) → sat (eComp (iOver (eVar 3)) [5] (.one 5) (eBin (inLs true) (eVar 5) (eVar 4)) (eVar 5) (callN T (n + 1)) [some it.d, some (nsD r), some (oD it.wr), some (nsD it.rd), some (.ob L), none] h2) fun y h2 => sat (addD (.ob L) y h2) fun d h1 =>
        M [some it.d, some (nsD r), some (oD it.wr), some (nsD it.rd), some d, none] h1 := fun hy => rest _ fun L' h' hf hg => hM _ _ ⟨_, L', _, _, _, rfl, hf, hg, fun c => by
      rw [List.mem_append, List.mem_filter]
      constructor
      · rintro (z | ⟨z, _⟩)
        · exact .inl ((base c).mp z)
        · exact .inr ⟨z, hy.imp id fun ⟨w, w1, w2⟩ => ⟨w, w1, (R.mem w).mp w2⟩⟩
      · rintro (z | ⟨z, _⟩)
        · exact .inl ((base c).mpr z)
        · by_cases q : c ∈ k0
          · exact .inl q
          · exact .inr ⟨z, by simp [q]⟩, by
      have e1 := List.length_filter_le (fun c => !decide (c ∈ k0)) it.rd
      have := R.few
      rw [List.length_append, List.length_cons]
      omega⟩
    have less : (it.snd = false ∧ ∀ w, it.wr = some w → w ∈ r → it.tag ≠ 157) → M [some it.d, some (nsD r), some (oD it.wr), some (nsD it.rd), some (.ob L), none] h2 := fun hn => hM _ _ ⟨k0, L, _, _, _, rfl, f0, g0, fun c => by
      rw [base]
      show _ ↔ (_ ∨ _)
      refine ⟨.inl, fun z => z.elim id fun z => ?_⟩
      obtain ⟨z1, z2 | ⟨w, z2, z3⟩⟩ := z
      · rw [hn.1] at z2; cases z2
      · exact absurd (rd_wr z1 z2) (hn.2 w z2 ((R.mem w).mpr z3)), by rw [List.length_cons]; have := R.few; omega⟩
    simp [p_tag, tag_snd]
    by_cases hs : it.snd = true
    · rw [if_pos hs]
      exact more (.inl hs)
    · rw [if_neg hs]
      rw [Bool.not_eq_true] at hs
      by_cases ht : it.tag = 157
      · rw [if_pos ht, p_inO]
        cases hw : inO it.wr r
        · simp
          refine less ⟨hs, fun w w1 w2 => ?_⟩
          have := inO_iff.mpr ⟨w, w1, w2⟩
          rw [hw] at this; cases this
        · simp
          exact more (.inr (inO_iff.mp hw))
      · rw [if_neg ht]
        exact less ⟨hs, fun _ _ _ => ht⟩
  · rintro ρ h3 ⟨k, L', t1, t2, t3, rfl, hf, g3, hm, hkl⟩
    simp
    rw [p_sorted (gL_ob hf) (sort_nD (by simp at hkl; simp [cap]; omega))]
    obtain ⟨r', er, pr, sr⟩ := isort_nD k
    simp
    rw [p_tuple (gQ_ob top_get), er]
    simp
    exact hQ _ _ ⟨g3.one, r', rfl, sr, fun c => by rw [pr.mem_iff]; exact hm c, by rw [pr.length_eq]; exact hkl⟩
end K56

end

section
/-! The rows for all positions; the law's own. -/
namespace K56
open L2 Cw
/-- items walked from the end -/
theorem rev_at {items : List It} {done rest : List D} {x : D} (e : (items.map It.d).reverse = done ++ x :: rest) : ∃ it l, x = it.d ∧ items.drop (items.length - (done.length + 1)) = it :: l ∧ items.drop (items.length - done.length) = l ∧ l.length = done.length ∧ it ∈ items ∧ done.length < items.length := by
  have e2 : items.map It.d = rest.reverse ++ x :: done.reverse := by
    have := congrArg List.reverse e
    simpa using this
  obtain ⟨a, b, rfl, h1, h2⟩ := List.map_eq_append_iff.mp e2
  obtain ⟨it, l, rfl, rfl, h3⟩ := List.map_eq_cons_iff.mp h2
  have hl : l.length = done.length := by
    have := congrArg List.length h3
    simpa using this
  refine ⟨it, l, rfl, ?_, ?_, hl, by simp, by simp; omega⟩
  · have : (a ++ it :: l).length - (done.length + 1) = a.length := by simp; omega
    rw [this, List.drop_left]
  · have : (a ++ it :: l).length - done.length = a.length + 1 := by simp; omega
    rw [this, ← List.drop_drop, List.drop_left]
    rfl
theorem last_of {α : Type} {l : List α} {i : Nat} {a : α} (hl : l.length = i + 1) (e : l[i]? = some a) : atI l (-1) = some a := by
  obtain ⟨b, c, rfl⟩ : ∃ b c, l = b ++ [c] := by
    have : l ≠ [] := fun z => by rw [z] at hl; cases hl
    exact ⟨l.dropLast, l.getLast this, (List.dropLast_concat_getLast this).symm⟩
  have hb : b.length = i := by simpa using hl
  rw [List.getElem?_append_right (by omega)] at e
  have : i - b.length = 0 := by omega
  rw [this] at e
  cases e
  exact atI_last _ _
def Rows (items : List It) (rows : List (List Nat)) : Prop := rows.length = items.length + 1 ∧ ∀ i r, rows[i]? = some r → Row (items.drop i) r
theorem m_rows {n : Nat} {h : AH} {k l : Nat} {items : List It} (hl : items.length ≤ 64) (fw : Few items) :
    sat (callN T (n + 3) (.fn 164) [progD k l items] h) fun d h' => Gr h h' ∧ ∃ m rows, d = .ob m ∧ h'[m]? = some (.lst (rows.map nsD)) ∧ Rows items rows := by
  refine s_fn (nN := 3) (b := B_matter_rows) rfl fun Q hQ => ?_
  simp only [B_matter_rows, startE, s_seqN]
  rw [s_seq]
  simp
  have f0 : (h ++ [O.lst [D.tup []]])[h.length]? = some (.lst ([[]].map nsD)) := top_get
  generalize hL : h.length = L at f0
  have fL : h[L]? = none := by rw [← hL]; exact free_top
  refine s_cut (fun ρ h' => ∃ (rows : List (List Nat)) (t : Option D), ρ = [some (progD k l items), some (.ob L), t] ∧ rows.length = items.length + 1 ∧ (∀ j r, rows[j]? = some r → Row (items.drop (items.length - j)) r) ∧ h'[L]? = some (.lst (rows.map nsD)) ∧ Gr h h') (fun M hM => ?_) ?_
  · simp
    refine ⟨_, _, ⟨rfl, rfl⟩, rfl, ?_⟩
    refine s_forL (fun done ρ h' => ∃ (rows : List (List Nat)) (t : Option D), ρ = [some (progD k l items), some (.ob L), t] ∧ rows.length = done.length + 1 ∧ (∀ j r, rows[j]? = some r → Row (items.drop (items.length - j)) r) ∧ h'[L]? = some (.lst (rows.map nsD)) ∧ Gr h h') ?_ ?_ ?_
    · refine ⟨[[]], _, rfl, rfl, fun j r e => ?_, f0, Gr.app⟩
      cases j with
      | zero =>
        cases e
        rw [Nat.sub_zero, List.drop_length]
        exact ⟨List.Pairwise.nil, fun c => by simp [Al], by simp⟩
      | succ j => cases e
    · rintro done x rest ρ h' N e ⟨rows, t, rfl, hr, hR, hf, hg⟩ hN
      obtain ⟨it, l', rfl, d1, d2, d3, d4, d5⟩ := rev_at e
      simp [setT, gL_ob hf]
      rw [p_ixO hf]
      have hlast : rows[done.length]? = some (rows[done.length]'(by omega)) := List.getElem?_eq_getElem (by omega)
      generalize rows[done.length]'(by omega) = r at hlast
      refine ⟨nsD r, last_of (i := done.length) (by simp [hr]) (by rw [List.getElem?_map, hlast]; rfl), ?_⟩
      have R := hR _ _ hlast
      rw [d2] at R
      refine (m_before (n := n) R (by omega) (fw _ d4)).imp ?_
      rintro d h2 ⟨g2, r', rfl, R'⟩
      have hf2 := g2 _ _ hf
      rw [p_append hf2 (by simp [cap]; omega)]
      simp
      refine hN _ _ ⟨rows ++ [r'], _, rfl, by simp [hr], fun j r0 e0 => ?_, by rw [set_get hf2]; simp, (hg.trans g2).set fL⟩
      by_cases hj : j < rows.length
      · rw [List.getElem?_append_left hj] at e0
        exact hR _ _ e0
      · rw [List.getElem?_append_right (by omega)] at e0
        have hj2 : j = done.length + 1 := by
          have := (List.getElem?_eq_some_iff.mp e0).1
          simp at this
          omega
        subst hj2
        rw [hr, Nat.sub_self] at e0
        cases e0
        rw [d1]; exact R'
    · rintro ρ h' ⟨rows, t, rfl, hr, hR, hf, hg⟩
      exact hM _ _ ⟨rows, _, rfl, by simpa using hr, hR, hf, hg⟩
  · rintro ρ h' ⟨rows, t, rfl, hr, hR, hf, hg⟩
    simp [revD, gL_ob hf, newL]
    refine hQ _ _ ⟨hg.one, _, rows.reverse, rfl, by rw [List.map_reverse]; exact top_get, by simp [hr], fun i r e => ?_⟩
    have hi := (List.getElem?_eq_some_iff.mp e).1
    rw [List.length_reverse] at hi
    rw [List.getElem?_reverse hi] at e
    have := hR _ _ e
    have e3 : items.length - (rows.length - 1 - i) = i := by omega
    rw [e3] at this
    exact this
/-- .. at one position -/
theorem m_matters {n : Nat} {h : AH} {k l pos : Nat} {items : List It} (hl : items.length ≤ 64) (fw : Few items) (hp : pos ≤ items.length) :
    sat (callN T (n + 4) (.fn 165) [progD k l items, nD pos] h) fun d h' => Gr h h' ∧ ∃ r, d = nsD r ∧ Row (items.drop pos) r := by
  refine s_fn (nN := 2) (b := B_matters) rfl fun Q hQ => ?_
  simp only [B_matters, startE, s_seqN]
  simp
  refine (m_rows (n := n) hl fw).imp ?_
  rintro d h' ⟨g, m, rows, rfl, hf, hr, hR⟩
  rw [p_ixO hf]
  have hlast : rows[pos]? = some (rows[pos]'(by omega)) := List.getElem?_eq_getElem (by omega)
  exact ⟨_, at_nat (by rw [List.getElem?_map, hlast]; rfl), hQ _ _ ⟨g, _, rfl, hR _ _ hlast⟩⟩
/-- the law's own -/
theorem m_alive {n : Nat} {h : AH} {k l : Nat} {items : List It} (hl : items.length ≤ 64) (fw : Few items) :
    sat (callN T (n + 2) (.fn 2) [progD k l items] h) fun d h' => Gr h h' ∧ ∃ (m : Nat) (obs : List Nat), d = .ob m ∧ h'[m]? = some (.lst (obs.map D.ob)) ∧ obs.length = items.length + 1 ∧ ∀ i o, obs[i]? = some o → ∃ r : List Nat, h'[o]? = some (.lst (r.map nD)) ∧ ∀ c, c ∈ r ↔ Al (items.drop i) c := by
  refine s_fn (nN := 7) (b := B__law_alive) rfl fun Q hQ => ?_
  simp only [B__law_alive, startE, s_seqN]
  rw [s_seq]
  simp
  have hL : ∀ j, j = h.length ∨ j = h.length + 1 → h[j]? = none := fun j hj => List.getElem?_eq_none (by omega)
  have f0 : (h ++ [O.lst [], O.lst [D.ob h.length]])[h.length + 1]? = some (.lst ([h.length].map D.ob)) := by simp
  have f1 : (h ++ [O.lst [], O.lst [D.ob h.length]])[h.length]? = some (.lst (([] : List Nat).map nD)) := by simp
  have g0 : Gr h (h ++ [O.lst [], O.lst [D.ob h.length]]) := Gr.app
  have hne : h.length ≠ h.length + 1 := by omega
  generalize hA : h.length = A at f0 f1 hne
  generalize hB : A + 1 = B at f0 hne
  have fB : h[B]? = none := hL B (.inr (by omega))
  refine s_cut (fun ρ h' => ∃ (obs : List Nat) (t1 t2 t3 t4 t5 : Option D), ρ = [some (progD k l items), some (.ob B), t1, t2, t3, t4, t5] ∧ obs.length = items.length + 1 ∧ (∀ i o, obs[i]? = some o → ∃ r : List Nat, h'[o]? = some (.lst (r.map nD)) ∧ ∀ c, c ∈ r ↔ Al (items.drop i) c) ∧ h'[B]? = some (.lst (obs.map D.ob)) ∧ Gr h h') (fun M hM => ?_) ?_
  · simp [revD]
    refine ⟨_, _, ⟨rfl, rfl⟩, rfl, ?_⟩
    refine s_forL (fun done ρ h' => ∃ (obs : List Nat) (t1 t2 t3 t4 t5 : Option D), ρ = [some (progD k l items), some (.ob B), t1, t2, t3, t4, t5] ∧ obs.length = done.length + 1 ∧ (∀ i o, obs[i]? = some o → o ≠ B ∧ ∃ r : List Nat, h'[o]? = some (.lst (r.map nD)) ∧ r.length ≤ 20 * done.length ∧ ∀ c, c ∈ r ↔ Al (items.drop (items.length - done.length + i)) c) ∧ h'[B]? = some (.lst (obs.map D.ob)) ∧ Gr h h') ?_ ?_ ?_
    · refine ⟨[A], _, _, _, _, _, rfl, rfl, fun i o e => ?_, f0, Gr.app⟩
      cases i with
      | zero =>
        cases e
        refine ⟨hne, [], f1, Nat.zero_le _, fun c => ?_⟩
        simp [Al]
      | succ i => cases e
    · rintro done x rest ρ h' N e ⟨obs, t1, t2, t3, t4, t5, rfl, ho, hO, hf, hg⟩ hN
      obtain ⟨it, l', rfl, d1, d2, d3, d4, d5⟩ := rev_at e
      simp [setT]
      rw [s_seq]
      simp [m_lwritten, m_lread, setT, setMany]
      obtain ⟨o, os, rfl⟩ : ∃ o os, obs = o :: os := by
        cases obs with
        | nil => cases ho
        | cons o os => exact ⟨o, os, rfl⟩
      obtain ⟨hoB, r, hr, hrl, hrm⟩ := hO 0 o rfl
      rw [Nat.add_zero, d2] at hrm
      have hil := fw _ d4
      rw [s_seq]
      simp
      rw [s_comp]
      simp
      rw [p_ixO hf]
      simp [seqS_ob hr]
      refine ⟨_, _, ⟨rfl, rfl⟩, ⟨by simp [chk, hr], by simp [cap]; omega⟩, ?_⟩
      refine (s_filter (fun c => !decide (it.wr = some c)) (by simp [chk, hr]) (by simp [wipeE]) fun a _ => ?_).imp ?_
      · simp [wipeE, p_neO]
      rintro ys h1 ⟨rfl, rfl⟩
      have q0 : (h1 ++ [O.lst ((r.filter fun c => !decide (it.wr = some c)).map nD)])[h1.length]? = some (.lst ((r.filter fun c => !decide (it.wr = some c)).map nD)) := top_get
      have g1 : Gr h1 (h1 ++ [O.lst ((r.filter fun c => !decide (it.wr = some c)).map nD)]) := Gr.app
      have hfree : h1[h1.length]? = none := free_top
      generalize hk0 : (r.filter fun c => !decide (it.wr = some c)) = k0 at q0 g1
      generalize h1 ++ [O.lst (k0.map nD)] = h2 at q0 g1
      generalize h1.length = L at q0 hfree
      have hk0l : k0.length ≤ r.length := by rw [← hk0]; exact List.length_filter_le _ _
      have base : ∀ c, c ∈ k0 ↔ (Al l' c ∧ it.wr ≠ some c) := fun c => by
        rw [← hk0, List.mem_filter, hrm]
        simp
      refine s_cut (fun ρ h3 => ∃ (k1 : List Nat) (t5 : Option D), ρ = [some (progD k l items), some (.ob B), some it.d, some (oD it.wr), some (nsD it.rd), some (.ob L), t5] ∧ h3[L]? = some (.lst (k1.map nD)) ∧ Gr h1 h3 ∧ (∀ c, c ∈ k1 ↔ Al (it :: l') c) ∧ k1.length ≤ 20 * (done.length + 1)) (fun M2 hM2 => ?_) ?_
      · have more : (it.snd = true ∨ ∃ w, it.wr = some w ∧ w ∈ r) → sat (eComp (iOver (eVar 4)) [6] (.one 6) (eBin (inLs true) (eVar 6) (eVar 5)) (eVar 6) (callN T (n + 1)) [some (progD k l items), some (.ob B), some it.d, some (oD it.wr), some (nsD it.rd), some (.ob L), t5] h2) fun y h2 => sat (mExtend (.ob L) [y] h2) fun d h1 =>
            M2 [some (progD k l items), some (.ob B), some it.d, some (oD it.wr), some (nsD it.rd), some (.ob L), t5] h1 := by
          intro hy
          rw [s_comp]
          simp
          refine ⟨_, _, ⟨rfl, rfl⟩, ⟨rfl, by simp [cap]; omega⟩, ?_⟩
          refine (s_filter (fun c => !decide (c ∈ k0)) rfl (by simp [wipeE]) fun a _ => ?_).imp ?_
          · simp [wipeE, p_inL q0]
          rintro ys h3 ⟨rfl, rfl⟩
          have q1 : (h3 ++ [O.lst ((it.rd.filter fun c => !decide (c ∈ k0)).map nD)])[L]? = some (.lst (k0.map nD)) := Gr.app _ _ q0
          have e1 := List.length_filter_le (fun c => !decide (c ∈ k0)) it.rd
          rw [p_extend q1 top_get (by rw [List.length_map, List.length_map]; unfold cap; omega)]
          simp
          refine hM2 _ _ ⟨k0 ++ it.rd.filter fun c => !decide (c ∈ k0), _, rfl, by rw [set_get q1]; simp, (g1.trans Gr.app).set hfree, fun c => ?_, by rw [List.length_append]; omega⟩
          rw [List.mem_append, List.mem_filter]
          constructor
          · rintro (z | ⟨z, _⟩)
            · exact .inl ((base c).mp z)
            · exact .inr ⟨z, hy.imp id fun ⟨w, w1, w2⟩ => ⟨w, w1, (hrm w).mp w2⟩⟩
          · rintro (z | ⟨z, _⟩)
            · exact .inl ((base c).mpr z)
            · by_cases q : c ∈ k0
              · exact .inl q
              · exact .inr ⟨z, by simp [q]⟩
        have less : (it.snd = false ∧ ∀ w, it.wr = some w → w ∈ r → it.tag ≠ 157) → M2 [some (progD k l items), some (.ob B), some it.d, some (oD it.wr), some (nsD it.rd), some (.ob L), t5] h2 := fun hn => hM2 _ _ ⟨k0, _, rfl, q0, g1, fun c => by
          rw [base]
          show _ ↔ (_ ∨ _)
          refine ⟨.inl, fun z => z.elim id fun z => ?_⟩
          obtain ⟨z1, z2 | ⟨w, z2, z3⟩⟩ := z
          · rw [hn.1] at z2; cases z2
          · exact absurd (rd_wr z1 z2) (hn.2 w z2 ((hrm w).mpr z3)), by omega⟩
        have hf2 := g1 _ _ hf
        have hr2 := g1 _ _ hr
        simp [p_tag, tag_snd, p_ixO hf2, gL_ob q0]
        by_cases hs : it.snd = true
        · rw [if_pos hs]
          exact more (.inl hs)
        · rw [if_neg hs]
          rw [Bool.not_eq_true] at hs
          by_cases ht : it.tag = 157
          · rw [if_pos ht]
            rw [p_in (gQ_ob hr2) okN_oD okNs_nD, inQ_oD]
            cases hw : inO it.wr r
            · simp
              refine less ⟨hs, fun w w1 w2 => ?_⟩
              have := inO_iff.mpr ⟨w, w1, w2⟩
              rw [hw] at this; cases this
            · simp
              exact ⟨⟨_, gL_ob q0⟩, more (.inr (inO_iff.mp hw))⟩
          · rw [if_neg ht]
            exact less ⟨hs, fun _ _ _ => ht⟩
      · rintro ρ h3 ⟨k1, t5, rfl, q3, g3, hm, hkl⟩
        have hf3 := g3 _ _ hf
        have hLB : L ≠ B := fun z => by rw [z, hf] at hfree; cases hfree
        simp [gL_ob hf3, mInsert, hf3]
        refine ⟨by simp at ho; simp [cap]; omega, ?_⟩
        refine hN _ _ ⟨L :: o :: os, _, _, _, _, _, rfl, by simp at ho ⊢; omega, fun i o' e => ?_, by rw [set_get hf3]; simp, (hg.trans g3).set fB⟩
        cases i with
        | zero =>
          cases e
          refine ⟨hLB, k1, by rw [set_get_ne (Ne.symm hLB)]; exact q3, by simpa using hkl, fun c => ?_⟩
          rw [hm c, Nat.add_zero, List.length_append, List.length_singleton, d1]
        | succ i =>
          obtain ⟨z1, r2, z2, z3, z4⟩ := hO i o' e
          refine ⟨z1, r2, by rw [set_get_ne (Ne.symm z1)]; exact g3 _ _ z2, by simp; omega, fun c => ?_⟩
          rw [z4 c]
          have : items.length - (done ++ [it.d]).length + (i + 1) = items.length - done.length + i := by simp; omega
          rw [this]
    · rintro ρ h' ⟨obs, t1, t2, t3, t4, t5, rfl, ho, hO, hf, hg⟩
      refine hM _ _ ⟨obs, _, _, _, _, _, rfl, by simpa using ho, fun i o e => ?_, hf, hg⟩
      obtain ⟨_, r, z1, _, z2⟩ := hO i o e
      refine ⟨r, z1, fun c => ?_⟩
      rw [z2 c]
      have : items.length - (items.map It.d).reverse.length + i = i := by simp
      rw [this]
  · rintro ρ h' ⟨obs, t1, t2, t3, t4, t5, rfl, ho, hO, hf, hg⟩
    simp
    exact hQ _ _ ⟨hg, B, obs, rfl, hf, ho, hO⟩
end K56

end

section
/-! Ways. -/
namespace K56
open L2 Cw
/-- no item from i up to k writes c -/
def NoWr (items : List It) (i k c : Nat) : Prop := ∀ j, i ≤ j → j < k → ∀ it, items[j]? = some it → it.wr ≠ some c
/-- a way from i on for c -/
def Way (items : List It) : Nat → Nat → List Nat → Prop
  | _, _, [] => False
  | i, c, [k] => i ≤ k ∧ NoWr items i k c ∧ ∃ it, items[k]? = some it ∧ it.snd = true ∧ c ∈ it.rd
  | i, c, k :: k' :: ks => i ≤ k ∧ NoWr items i k c ∧ ∃ it w, items[k]? = some it ∧ it.tag = 157 ∧ c ∈ it.rd ∧ it.wr = some w ∧ Way items (k + 1) w (k' :: ks)
theorem Way.weak {items : List It} {i c : Nat} {it : It} (e : items[i]? = some it) (hw : it.wr ≠ some c) : ∀ {ks : List Nat}, Way items (i + 1) c ks → Way items i c ks
  | [], h => h.elim
  | [k], ⟨h1, h2, h3⟩ => ⟨by omega, fun j j1 j2 it' e' => by
      by_cases q : j = i
      · subst q; rw [e] at e'; cases e'; exact hw
      · exact h2 j (by omega) j2 it' e', h3⟩
  | k :: k' :: ks, ⟨h1, h2, h3⟩ => ⟨by omega, fun j j1 j2 it' e' => by
      by_cases q : j = i
      · subst q; rw [e] at e'; cases e'; exact hw
      · exact h2 j (by omega) j2 it' e', h3⟩
theorem Way.here {items : List It} {i c : Nat} {it : It} (e : items[i]? = some it) (h1 : it.snd = true) (h2 : c ∈ it.rd) : Way items i c [i] :=
  ⟨Nat.le_refl _, fun j j1 j2 => by omega, it, e, h1, h2⟩
theorem Way.step {items : List It} {i c w : Nat} {it : It} {ks : List Nat} (e : items[i]? = some it) (h2 : c ∈ it.rd) (h3 : it.wr = some w) (h : Way items (i + 1) w ks) : Way items i c (i :: ks) := by
  cases ks with
  | nil => exact h.elim
  | cons k ks => exact ⟨Nat.le_refl _, fun j j1 j2 => by omega, it, w, e, rd_wr h2 h3, h2, h3, h⟩
theorem drop_cons {items : List It} {i : Nat} {it : It} (e : items[i]? = some it) : items.drop i = it :: items.drop (i + 1) := by
  obtain ⟨h, e⟩ := List.getElem?_eq_some_iff.mp e
  rw [List.drop_eq_getElem_cons h, e]
theorem item_at {items : List It} {i : Nat} {it : It} (e : items[i]? = some it) : atI (items.map It.d) (i : Int) = some it.d := at_nat (by rw [List.getElem?_map, e]; rfl)
theorem mem_rng2 {lo : Nat} {n : Nat} {x : D} {done rest : List D} (e : rngD (lo : Int) n 1 = done ++ x :: rest) : x = nD (lo + done.length) ∧ done.length < n := mem_rng e
/-- each way is as long as there are items -/
theorem m_way {n : Nat} {h : AH} {k l pos c : Nat} {items : List It} (hl : items.length ≤ 64) (fw : Few items) (hp : pos ≤ items.length) :
    sat (callN T (n + 4) (.fn 213) [progD k l items, nD pos, nD c] h) fun d h' => Gr h h' ∧ ((¬ Al (items.drop pos) c ∧ d = .non) ∨ (Al (items.drop pos) c ∧ ∃ ws : List Nat, d = nsD ws ∧ ws.length ≤ 64 ∧ Way items pos c ws)) := by
  refine s_fn (nN := 7) (b := B_way_out) rfl fun Q hQ => ?_
  simp only [B_way_out, startE, s_seqN]
  rw [s_seq]
  simp
  refine (m_rows (n := n) hl fw).imp ?_
  rintro d h1 ⟨g1, m, rows, rfl, hf, hr, hR⟩
  simp [setMany]
  have row : ∀ i, i ≤ items.length → ∃ r, atI (rows.map nsD) (i : Int) = some (nsD r) ∧ Row (items.drop i) r := fun i hi => by
    have : rows[i]? = some (rows[i]'(by omega)) := List.getElem?_eq_getElem (by omega)
    exact ⟨_, at_nat (by rw [List.getElem?_map, this]; rfl), hR _ _ this⟩
  refine s_cut (fun ρ h' => ρ = [some (progD k l items), some (nD pos), some (nD c), some (.ob m), some (.tup []), none, none] ∧ h' = h1 ∧ Al (items.drop pos) c) (fun M hM => ?_) ?_
  · obtain ⟨r, e, R⟩ := row pos hp
    simp
    rw [p_ixO hf]
    refine ⟨_, e, ?_⟩
    rw [p_inT]
    by_cases hc : c ∈ r
    · simp [hc]
      exact hM _ _ ⟨rfl, rfl, (R.mem c).mp hc⟩
    · simp [hc]
      exact hQ _ _ ⟨g1, .inl ⟨fun z => hc ((R.mem c).mpr z), rfl⟩⟩
  · rintro ρ h' ⟨rfl, rfl, ha⟩
    refine s_cut (fun ρ h2 => False) (fun M hM => ?_) (fun _ _ z => z.elim)
    simp
    refine ⟨_, _, ⟨rfl, rfl⟩, by omega, ?_⟩
    refine s_forL (fun done ρ h2 => ∃ (cc : Nat) (ws : List Nat) (t1 t2 : Option D), ρ = [some (progD k l items), some (nD pos), some (nD cc), some (.ob m), some (nsD ws), t1, t2] ∧ h2 = h' ∧ ws.length ≤ done.length ∧ Al (items.drop (pos + done.length)) cc ∧ ∀ ks, Way items (pos + done.length) cc ks → Way items pos c (ws ++ ks)) ?_ ?_ ?_
    · exact ⟨c, [], _, _, rfl, rfl, Nat.le_refl _, ha, fun ks w => w⟩
    · rintro done x rest ρ h2 N e ⟨cc, ws, t1, t2, rfl, rfl, hw, hA, hW⟩ hN
      obtain ⟨rfl, hd⟩ := mem_rng2 e
      simp at hd
      have hi : pos + done.length < items.length := by omega
      have ei : items[pos + done.length]? = some items[pos + done.length] := List.getElem?_eq_getElem hi
      generalize items[pos + done.length] = it at ei
      have ed := drop_cons ei
      have hq : done.length + 1 = (done ++ [nD (pos + done.length)]).length := by simp
      generalize hi' : pos + done.length = i at *
      simp [setT]
      rw [s_seq]
      simp
      refine ⟨_, item_at ei, ?_⟩
      refine s_cut (fun ρ h3 => ρ = [some (progD k l items), some (nD pos), some (nD cc), some (.ob m), some (nsD ws), some (nD i), some it.d] ∧ h3 = h2 ∧ (cc ∈ it.rd → it.snd = false)) (fun M2 hM2 => ?_) ?_
      · simp [m_read, p_inT]
        by_cases hc : cc ∈ it.rd
        · simp [hc, p_tag, tag_snd]
          cases hs : it.snd
          · simp
            exact hM2 _ _ ⟨rfl, rfl, fun _ => hs⟩
          · simp [addD]
            refine ⟨by simp [cap]; omega, ?_⟩
            exact hQ _ _ ⟨g1, .inr ⟨ha, ws ++ [i], by simp, by simp; omega, hW _ (Way.here ei hs hc)⟩⟩
        · simp [hc]
          exact hM2 _ _ ⟨rfl, rfl, fun z => absurd z hc⟩
      · rintro ρ h3 ⟨rfl, rfl, hns⟩
        rw [ed] at hA
        obtain ⟨r, er, R⟩ := row (i + 1) (by omega)
        have er' : atI (rows.map nsD) ((i : Int) + 1) = some (nsD r) := er
        have hi1 : i + 1 = pos + (done ++ [nD i]).length := by simp; omega
        have keep : (it.wr ≠ some cc ∧ Al (items.drop (i + 1)) cc) → N [some (progD k l items), some (nD pos), some (nD cc), some (.ob m), some (nsD ws), some (nD i), some it.d] h3 := fun ⟨z1, z2⟩ => hN _ _ ⟨cc, ws, _, _, rfl, rfl, by simp; omega, by rw [← hi1]; exact z2, fun ks w => hW ks (Way.weak ei z1 (by rw [hi1]; exact w))⟩
        simp [m_read, p_inT, m_written]
        by_cases hc : cc ∈ it.rd
        · simp [hc, p_ixO hf, er', p_inO]
          cases hw2 : inO it.wr r
          · simp
            rcases hA with ⟨z1, z2⟩ | ⟨_, z1 | ⟨w, z1, z2⟩⟩
            · exact keep ⟨z2, z1⟩
            · rw [hns hc] at z1; cases z1
            · have := inO_iff.mpr ⟨w, z1, (R.mem w).mpr z2⟩
              rw [hw2] at this; cases this
          · obtain ⟨w, w1, w2⟩ := inO_iff.mp hw2
            simp [addD]
            refine ⟨by simp [cap]; omega, ?_⟩
            simp [m_written, setMany, w1, oD]
            exact hN _ _ ⟨w, ws ++ [i], some (nD i), some it.d, by simp, rfl, by simp; omega, by rw [← hi1]; exact (R.mem w).mp w2, fun ks wy => by
              rw [List.append_assoc]
              exact hW _ (Way.step ei hc w1 (by rw [hi1]; exact wy))⟩
        · simp [hc]
          rcases hA with ⟨z1, z2⟩ | ⟨z1, _⟩
          · exact keep ⟨z2, z1⟩
          · exact absurd z1 hc
    · rintro ρ h2 ⟨cc, ws, t1, t2, rfl, rfl, hw, hA, hW⟩
      rw [rngD_len] at hA
      have : pos + ((items.length : Int) - pos).toNat = items.length := by omega
      rw [this, List.drop_length] at hA
      exact hA.elim
end K56

end

section
/-! Tables; the law's checks. -/
namespace K56
open L2 Cw
def pD (p : Nat × Nat) : D := .tup [nD p.1, nD p.2]
theorem pyEq_pD {p q : Nat × Nat} : pyEq (pD p) (pD q) = decide (p = q) := by
  obtain ⟨a, b⟩ := p
  obtain ⟨c, d⟩ := q
  show (pyEq (nD a) (nD c) && (pyEq (nD b) (nD d) && true)) = _
  rw [pyEq_nD, pyEq_nD, Bool.and_true, ← Bool.decide_and]
  congr 1
  rw [Prod.mk.injEq]
theorem inQ_pD {p : Nat × Nat} {l : List (Nat × Nat)} : inQ (pD p) (l.map pD) = decide (p ∈ l) := by
  unfold inQ
  induction l with
  | nil => rfl
  | cons a l ih =>
    rw [List.map_cons, List.any_cons, ih, pyEq_pD, ← Bool.decide_or]
    congr 1
    rw [List.mem_cons, eq_iff_iff]
    exact ⟨fun h => h.elim (fun e => .inl e.symm) .inr, fun h => h.elim (fun e => .inl e.symm) .inr⟩
theorem okN_pD {p : Nat × Nat} {k : Nat} : okN (k + 1) (pD p) = true := by
  show okNs k [nD p.1, nD p.2] = true
  exact okNs_nD (l := [p.1, p.2])
theorem okNs_pD {l : List (Nat × Nat)} {k : Nat} : okNs (k + 1) (l.map pD) = true := okNs_all fun d hd => by
  obtain ⟨p, _, rfl⟩ := List.mem_map.mp hd
  exact okN_pD
theorem p_inP {p : Nat × Nat} {l : List (Nat × Nat)} {b : Bool} {h : AH} : inLs b (pD p) (.tup (l.map pD)) h = .ok (.bl (if b then !decide (p ∈ l) else decide (p ∈ l))) h := by
  rw [p_in gQ_tup okN_pD okNs_pD, inQ_pD]
/-- pairs in order -/
def leP (p q : Nat × Nat) : Prop := p.1 < q.1 ∨ (p.1 = q.1 ∧ p.2 ≤ q.2)
theorem leS_pD {p q : Nat × Nat} (h : leP p q) : leS (pD p) (pD q) = true := by
  obtain ⟨a, b⟩ := p
  obtain ⟨c, d⟩ := q
  show (!PySem.W.dataLt (.tuple [.int c, .int d]) (.tuple [.int a, .int b])) = true
  rw [Bool.not_eq_true', PySem.W.dataLt_tuple]
  have al : ∀ x y : Int, PySem.W.alike (.int x) (.int y) = true := fun x y => by simp [PySem.W.alike]
  have no : ∀ (x y : Int) (xs ys : List PySem.PyData), y < x → PyProof.Rows.lexLt PyProof.Rows.itemOrd (PySem.W.keyToksAll (.int x :: xs)) (PySem.W.keyToksAll (.int y :: ys)) = false := fun x y xs ys hxy => by
    rw [PySem.W.dataLt_all_no (al x y) (by simp [PySem.PyData.eqv]; omega), PySem.W.dataLt_int]
    exact decide_eq_false (by omega)
  rcases h with h | ⟨h1, h2⟩
  · exact no (c : Int) (a : Int) _ _ (by simp at h; omega)
  · simp at h1 h2
    subst h1
    rw [PySem.W.dataLt_all_yes (al _ _) (by simp [PySem.PyData.eqv])]
    by_cases q : b = d
    · subst q
      rw [PySem.W.dataLt_all_yes (al _ _) (by simp [PySem.PyData.eqv])]
      rfl
    · exact no (d : Int) (b : Int) _ _ (by omega)
structure Tab (items : List It) (pos : Nat) (ps : List (Nat × Nat)) : Prop where
  mem : ∀ a c, (a, c) ∈ ps ↔ (pos ≤ a ∧ a ≤ items.length ∧ Al (items.drop a) c)
  asc : ps.Pairwise leP
  few : ps.length ≤ 90000
theorem m_table {n : Nat} {h : AH} {k l pos : Nat} {items : List It} (hl : items.length ≤ 64) (fw : Few items) (hp : pos ≤ items.length) :
    sat (callN T (n + 5) (.fn 181) [progD k l items, nD pos] h) fun d h' => Gr h h' ∧ ∃ ps, d = .tup (ps.map pD) ∧ Tab items pos ps := by
  refine s_fn (nN := 5) (b := B_plain_table) rfl fun Q hQ => ?_
  simp only [B_plain_table, startE, s_seqN]
  rw [s_seq]
  simp
  have f0 : (h ++ [O.lst []])[h.length]? = some (.lst (([] : List (Nat × Nat)).map pD)) := top_get
  generalize hL : h.length = L at f0
  have fL : h[L]? = none := by rw [← hL]; exact free_top
  refine s_cut (fun ρ h' => ∃ (ps : List (Nat × Nat)) (t1 t2 : Option D), ρ = [some (progD k l items), some (nD pos), some (.ob L), t1, t2] ∧ h'[L]? = some (.lst (ps.map pD)) ∧ Gr h h' ∧ Tab items pos ps) (fun M hM => ?_) ?_
  · simp
    refine ⟨_, _, ⟨rfl, rfl⟩, by omega, ?_⟩
    refine s_forL (fun done ρ h' => ∃ (ps : List (Nat × Nat)) (t1 t2 : Option D), ρ = [some (progD k l items), some (nD pos), some (.ob L), t1, t2] ∧ h'[L]? = some (.lst (ps.map pD)) ∧ Gr h h' ∧ (∀ a c, (a, c) ∈ ps ↔ (pos ≤ a ∧ a < pos + done.length ∧ Al (items.drop a) c)) ∧ ps.Pairwise leP ∧ ps.length ≤ 1280 * done.length) ?_ ?_ ?_
    · refine ⟨[], _, _, rfl, f0, Gr.app, fun a c => ?_, List.Pairwise.nil, Nat.zero_le _⟩
      simp
      omega
    · rintro done x rest ρ h' N e ⟨ps, t1, t2, rfl, hf, hg, hm, ha, hc⟩ hN
      obtain ⟨rfl, hd⟩ := mem_rng2 e
      have hd : pos + done.length ≤ items.length := by omega
      simp [setT, gL_ob hf]
      rw [s_comp]
      simp
      refine (m_matters (n := n) (pos := pos + done.length) hl fw hd).imp ?_
      rintro d h2 ⟨g2, r, rfl, R⟩
      have hf2 := g2 _ _ hf
      have hrl : r.length ≤ 1280 := Nat.le_trans R.few (by simp; omega)
      refine ⟨_, _, rfl, ⟨rfl, by simp [cap]; omega⟩, ?_⟩
      refine s_compL (fun dn ys h3 => ∃ r1, dn = r1.map nD ∧ ys = (r1.map fun c => (pos + done.length, c)).map pD ∧ h3 = h2) ⟨[], rfl, rfl, rfl⟩ ?_ ?_
      · rintro dn x rest2 ys h3 N2 e2 ⟨r1, rfl, rfl, rfl⟩ hN2
        obtain ⟨l2, l3, rfl, e3, e4⟩ := List.map_eq_append_iff.mp e2
        obtain ⟨a, l4, rfl, rfl, rfl⟩ := List.map_eq_cons_iff.mp e4
        simp [setT, wipeE]
        exact hN2 _ _ ⟨r1 ++ [a], by simp, by simp [pD], rfl⟩
      · rintro ys h3 ⟨r1, e1, rfl, rfl⟩
        have : r = r1 := by
          have inj : ∀ a b : Nat, nD a = nD b → a = b := fun a b e => by injection e with e; exact Int.ofNat.inj e
          exact List.map_inj_right inj |>.mp e1
        subst this
        obtain ⟨p2, hp2⟩ : ∃ p2, p2 = r.map fun c => (pos + done.length, c) := ⟨_, rfl⟩
        rw [← hp2]
        have hp2l : p2.length = r.length := by rw [hp2, List.length_map]
        have hf3 : (h3 ++ [O.lst (p2.map pD)])[L]? = some (.lst (ps.map pD)) := Gr.app _ _ hf2
        have hdl : done.length ≤ 64 := by omega
        rw [p_extend hf3 top_get (by rw [List.length_map, List.length_map]; unfold cap; omega)]
        simp
        refine hN _ _ ⟨ps ++ p2, _, _, rfl, by rw [set_get hf3]; simp, ((hg.trans g2).trans Gr.app).set fL, fun a c => ?_, ?_, by simp; omega⟩
        · rw [List.mem_append, hm, hp2, List.mem_map, List.length_append, List.length_singleton]
          constructor
          · rintro (⟨z1, z2, z3⟩ | ⟨c', z1, z2⟩)
            · exact ⟨z1, by omega, z3⟩
            · cases z2
              exact ⟨by omega, by omega, (R.mem _).mp z1⟩
          · rintro ⟨z1, z2, z3⟩
            by_cases q : a = pos + done.length
            · subst q
              exact .inr ⟨c, (R.mem _).mpr z3, rfl⟩
            · exact .inl ⟨z1, by omega, z3⟩
        · rw [List.pairwise_append, hp2]
          refine ⟨ha, ?_, fun p hp q hq => ?_⟩
          · rw [List.pairwise_map]
            exact R.asc.imp fun z => .inr ⟨rfl, z⟩
          · obtain ⟨c, _, rfl⟩ := List.mem_map.mp hq
            have := (hm p.1 p.2).mp hp
            exact .inl this.2.1
    · rintro ρ h' ⟨ps, t1, t2, rfl, hf, hg, hm, ha, hc⟩
      rw [rngD_len] at hm hc
      refine hM _ _ ⟨ps, _, _, rfl, hf, hg, fun a c => ?_, ha, by omega⟩
      rw [hm]
      constructor
      · rintro ⟨z1, z2, z3⟩; exact ⟨z1, by omega, z3⟩
      · rintro ⟨z1, z2, z3⟩; exact ⟨z1, by omega, z3⟩
  · rintro ρ h' ⟨ps, t1, t2, rfl, hf, hg, tb⟩
    simp
    rw [p_tuple (gQ_ob hf)]
    simp
    exact hQ _ _ ⟨hg, ps, rfl, tb⟩
end K56

end

section
/-! The law's checks of a way, of a table. -/
namespace K56
open L2 Cw
theorem inQ_oDs {c : Nat} {l : List It} (hn : ∀ it ∈ l, it.wr ≠ some c) : inQ (nD c) (l.map fun it => oD it.wr) = false := by
  unfold inQ
  rw [List.any_map, List.any_eq_false]
  intro it hi
  have := hn it hi
  cases q : it.wr with
  | none => simp [oD, q, pyEq]
  | some w =>
    rw [q] at this
    simp only [Function.comp, q, oD]
    rw [pyEq_nD]
    simp
    intro e
    exact this (by rw [e])
theorem okNs_oDs {k : Nat} {l : List It} : okNs k (l.map fun it => oD it.wr) = true := okNs_all fun d hd => by
  obtain ⟨it, _, rfl⟩ := List.mem_map.mp hd
  exact okN_oD
theorem cut_items {items : List It} {i w : Nat} (h1 : i ≤ w) (h2 : w ≤ items.length) : cutD (items.map It.d) (some (i : Int)) (some (w : Int)) = ((items.drop i).take (w - i)).map It.d := by
  unfold cutD
  rw [HT.sIx_nat, HT.sIx_nat, List.length_map, Nat.min_eq_left h2, Nat.min_eq_left (Nat.le_trans h1 h2), List.map_take, List.map_drop]
theorem Way.inv {items : List It} {i c w : Nat} {tl : List Nat} (h : Way items i c (w :: tl)) : i ≤ w ∧ NoWr items i w c ∧ ∃ it, items[w]? = some it ∧ c ∈ it.rd ∧ ((tl = [] ∧ it.snd = true) ∨ (tl ≠ [] ∧ ∃ w', it.tag = 157 ∧ it.wr = some w' ∧ Way items (w + 1) w' tl)) := by
  cases tl with
  | nil =>
    obtain ⟨h1, h2, it, h3, h4, h5⟩ := h
    exact ⟨h1, h2, it, h3, h5, .inl ⟨rfl, h4⟩⟩
  | cons k tl =>
    obtain ⟨h1, h2, it, w', h3, h4, h5, h6, h7⟩ := h
    exact ⟨h1, h2, it, h3, h5, .inr ⟨List.cons_ne_nil _ _, w', h4, h6, h7⟩⟩
theorem m_fault {n : Nat} {h : AH} {k l pos c : Nat} {items : List It} {ws : List Nat} (hl : items.length ≤ 64) (wsl : ws.length ≤ 64) (W : Way items pos c ws) :
    sat (callN T (n + 2) (.fn 93) [progD k l items, nD pos, nD c, nsD ws] h) fun d h' => Gr h h' ∧ d = .non := by
  refine s_fn (nN := 10) (b := B__law_way_fault) rfl fun Q hQ => ?_
  simp only [B__law_way_fault, startE, s_seqN]
  rw [s_seq]
  simp [setMany]
  refine s_cut (fun ρ h' => Gr h h') (fun M hM => ?_) ?_
  · simp
    refine ⟨_, _, ⟨rfl, rfl⟩, rfl, ?_⟩
    refine s_forL (fun done ρ h' => Gr h h' ∧ ∃ (a4 a5 t6 t7 t8 t9 : Option D), ρ = [some (progD k l items), some (nD pos), some (nD c), some (nsD ws), a4, a5, t6, t7, t8, t9] ∧ (ws.drop done.length = [] ∨ ∃ i cc, a4 = some (nD i) ∧ a5 = some (nD cc) ∧ Way items i cc (ws.drop done.length))) ?_ ?_ ?_
    · exact ⟨Gr.refl, _, _, _, _, _, _, rfl, .inr ⟨pos, c, rfl, rfl, W⟩⟩
    · rintro done x rest ρ h' N e ⟨hg, a4, a5, t6, t7, t8, t9, rfl, hI⟩ hN
      have hd : done.length < ws.length := by
        have := congrArg List.length e
        rw [enumD_len, List.length_map, List.length_append, List.length_cons] at this
        omega
      have ed : ws.drop done.length = ws[done.length] :: ws.drop (done.length + 1) := List.drop_eq_getElem_cons hd
      have ex : x = .tup [.int (done.length : Nat), nD ws[done.length]] := by
        have e1 := enumD_get (ds := ws.map nD) (i := done.length) (d := nD ws[done.length]) (by rw [List.getElem?_map, List.getElem?_eq_getElem hd]; rfl)
        rw [e, List.getElem?_append_right (Nat.le_refl _), Nat.sub_self] at e1
        simpa using e1
      subst ex
      generalize ws[done.length] = w at *
      generalize htl : ws.drop (done.length + 1) = tl at *
      have htl2 : tl.length = ws.length - (done.length + 1) := by rw [← htl, List.length_drop]
      rcases hI with hI | ⟨i, cc, rfl, rfl, hW⟩
      · rw [ed] at hI; cases hI
      rw [ed] at hW
      obtain ⟨h1, h2, it, h3, h4, h5⟩ := hW.inv
      have hwn : w < items.length := (List.getElem?_eq_some_iff.mp h3).1
      simp [setT, setMany]
      rw [s_seq]
      simp
      refine ⟨_, item_at h3, ?_⟩
      refine s_cut (fun ρ h2' => Gr h h2' ∧ ρ = [some (progD k l items), some (nD pos), some (nD c), some (nsD ws), some (nD i), some (nD cc), some (.int (done.length : Nat)), some (nD w), some it.d, t9]) (fun M2 hM2 => ?_) ?_
      · have hlt : ¬ w < i := by omega
        simp [hlt]
        rw [s_comp]
        simp [slD]
        rw [cut_items h1 (by omega)]
        refine ⟨_, _, ⟨rfl, rfl⟩, ⟨rfl, by simp [cap]; omega⟩, ?_⟩
        refine s_compL (fun dn ys h3 => ∃ r1 : List It, dn = r1.map It.d ∧ ys = (r1.map fun it => oD it.wr) ∧ h3 = h') ⟨[], rfl, rfl, rfl⟩ ?_ ?_
        · rintro dn x rest2 ys h3 N2 e2 ⟨r1, rfl, rfl, rfl⟩ hN2
          obtain ⟨l2, l3, e0, e3, e4⟩ := List.map_eq_append_iff.mp e2
          obtain ⟨a, l4, rfl, rfl, rfl⟩ := List.map_eq_cons_iff.mp e4
          simp [setT, wipeE, m_lwritten]
          exact hN2 _ _ ⟨r1 ++ [a], by simp, by simp, rfl⟩
        · rintro ys h3 ⟨r1, e1, rfl, rfl⟩
          have injd : ∀ a b : It, a.d = b.d → a = b := by
            intro a b e
            have injl : ∀ x y : List Nat, x.map nD = y.map nD → x = y := fun x y => List.map_inj_right (fun a b e => by injection e with e; exact Int.ofNat.inj e) |>.mp
            cases a <;> cases b <;> simp only [It.d, D.tup.injEq, List.cons.injEq, D.str.injEq, D.int.injEq] at e <;> first | (exfalso; omega) | skip
            · obtain ⟨_, e1, e2, _⟩ := e; rw [Int.ofNat.inj e1, injl _ _ e2]
            · obtain ⟨_, e1, _⟩ := e; rw [Int.ofNat.inj e1]
            · obtain ⟨_, e1, _⟩ := e; rw [injl _ _ e1]
            · obtain ⟨_, e1, _⟩ := e; rw [injl _ _ e1]
          have er : (items.drop i).take (w - i) = r1 := List.map_inj_right injd |>.mp e1
          have hno : ∀ it ∈ r1, it.wr ≠ some cc := fun it hi => by
            rw [← er] at hi
            obtain ⟨j, hj⟩ := List.getElem?_of_mem hi
            rw [List.getElem?_take] at hj
            split at hj
            · rename_i hjw
              rw [List.getElem?_drop] at hj
              exact h2 (i + j) (by omega) (by omega) it hj
            · cases hj
          rw [p_in (gQ_ob top_get) rfl okNs_oDs, inQ_oDs hno]
          simp
          exact hM2 _ _ ⟨hg.one, rfl⟩
      · rintro ρ h7 ⟨g7, rfl⟩
        refine s_cut (fun ρ h2' => Gr h h2' ∧ ρ = [some (progD k l items), some (nD pos), some (nD c), some (nsD ws), some (nD i), some (nD cc), some (.int (done.length : Nat)), some (nD w), some it.d, t9]) (fun M2 hM2 => ?_) ?_
        · simp [m_lread, p_inT, h4, p_tag]
          rw [p_ixO top_get]
          have hlast : ((done.length : Int) = (ws.length : Int) - 1) ↔ tl = [] := by
            rw [← List.length_eq_zero_iff, htl2]
            omega
          by_cases q : tl = []
          · have hs : it.snd = true := by
              rcases h5 with ⟨_, h⟩ | ⟨h, _⟩
              · exact h
              · exact absurd q h
            have : it.tag = 277 := by simpa [It.snd] using hs
            rw [if_pos (hlast.mpr q)]
            simp [this]
            exact hM2 _ _ ⟨g7.one, rfl⟩
          · have : it.tag = 157 := by
              rcases h5 with ⟨h, _⟩ | ⟨_, w', h, _⟩
              · exact absurd h q
              · exact h
            rw [if_neg fun z => q (hlast.mp z)]
            simp [this]
            exact hM2 _ _ ⟨g7.one, rfl⟩
        · rintro ρ h8 ⟨g8, rfl⟩
          have hdl : (done ++ [D.tup [D.int (done.length : Nat), nD w]]).length = done.length + 1 := by simp
          rcases h5 with ⟨q, hs⟩ | ⟨q, w', h6, h7', h8'⟩
          · have : ∃ d, sat (ixD it.d (.int 1) h8) fun x h => x = d ∧ h = h8 := by
              cases it <;> simp [It.d]
            obtain ⟨d, hd1⟩ := this
            simp
            refine hd1.imp ?_
            rintro x hh ⟨rfl, rfl⟩
            simp [setMany]
            exact hN _ _ ⟨g8, _, _, _, _, _, _, rfl, .inl (by rw [hdl, htl]; exact q)⟩
          · have : it.d = .tup [.str 157, nD w', nsD it.rd] := by
              cases it <;> simp [It.tag, It.wr, It.d, It.rd] at *
              rw [h7']
            simp [this, setMany]
            refine hN _ _ ⟨g8, _, _, _, _, _, _, rfl, .inr ⟨w + 1, w', by simp, rfl, ?_⟩⟩
            rw [hdl, htl]; exact h8'
    · rintro ρ h' ⟨hg, _⟩
      exact hM _ _ hg
  · rintro ρ h' hg
    simp
    exact hQ _ _ ⟨hg, rfl⟩
end K56

end

section
/-! The law's look for a lack; decide. -/
namespace K56
open L2 Cw
theorem mem_rngB {lo : Int} {n : Nat} {x : D} {done rest : List D} (e : rngD lo n (-1) = done ++ x :: rest) : x = .int (lo - done.length) ∧ done.length < n := by
  have hl : done.length < n := by
    have := congrArg List.length e
    rw [rngD_len, List.length_append, List.length_cons] at this
    omega
  have := rngD_get (lo := lo) (st := -1) hl
  rw [e, List.getElem?_append_right (Nat.le_refl _)] at this
  simp at this
  exact ⟨by rw [this]; congr 1, hl⟩
theorem pD_add {a c : Nat} : D.tup [.int ((a : Int) + 1), nD c] = pD (a + 1, c) := rfl
theorem m_lack {n : Nat} {h : AH} {k l pos : Nat} {items : List It} {ps : List (Nat × Nat)} (hl : items.length ≤ 64) (hk : k ≤ 8) (hl2 : l ≤ 8) (hp : pos ≤ items.length) (tb : Tab items pos ps) :
    sat (callN T (n + 2) (.fn 38) [progD k l items, nD pos, .tup (ps.map pD)] h) fun d h' => Gr h h' ∧ d = .non := by
  refine s_fn (nN := 7) (b := B__law_lack) rfl fun Q hQ => ?_
  simp only [B__law_lack, startE, s_seqN]
  refine s_cut (fun ρ h' => Gr h h') (fun M hM => ?_) ?_
  · simp
    refine ⟨_, rng3_down (by omega), ?_⟩
    refine s_forL (fun done ρ h' => Gr h h' ∧ ∃ (t3 t4 t5 t6 : Option D), ρ = [some (progD k l items), some (nD pos), some (.tup (ps.map pD)), t3, t4, t5, t6]) ⟨Gr.refl, _, _, _, _, rfl⟩ ?_ ?_
    · rintro done x rest ρ h' N e ⟨hg, t3, t4, t5, t6, rfl⟩ hN
      obtain ⟨rfl, hd⟩ := mem_rngB e
      have ha : (items.length : Int) - 1 - done.length = ((items.length - 1 - done.length : Nat) : Int) := by omega
      rw [ha] at *
      have hn : items.length - 1 - done.length < items.length := by omega
      have hpa : pos ≤ items.length - 1 - done.length := by omega
      generalize items.length - 1 - done.length = a at *
      have ei : items[a]? = some items[a] := List.getElem?_eq_getElem hn
      generalize items[a] = it at ei
      have ed := drop_cons ei
      simp [setT]
      rw [s_seq]
      simp
      refine ⟨_, item_at ei, ?_⟩
      refine ⟨by omega, ?_⟩
      refine s_forL (fun dn ρ h2 => Gr h h2 ∧ ∃ (t5 t6 : Option D), ρ = [some (progD k l items), some (nD pos), some (.tup (ps.map pD)), some (nD a), some it.d, t5, t6]) ⟨hg, _, _, rfl⟩ ?_ ?_
      · rintro dn x rest2 ρ h2 N2 e2 ⟨hg2, t5, t6, rfl⟩ hN2
        obtain ⟨rfl, hd2⟩ := mem_rng (lo := 0) e2
        generalize 0 + dn.length = c at *
        simp [setT]
        -- due
        have due : ∀ b : Bool, b = true → (a + 1, c) ∈ ps → it.wr ≠ some c → (a, c) ∈ ps := fun b _ z1 z2 => (tb.mem a c).mpr ⟨hpa, by omega, by rw [ed]; exact .inl ⟨((tb.mem _ _).mp z1).2.2, z2⟩⟩
        refine s_cut (fun ρ h3 => Gr h h3 ∧ ∃ b : Bool, ρ = [some (progD k l items), some (nD pos), some (.tup (ps.map pD)), some (nD a), some it.d, some (nD c), some (.bl b)] ∧ (b = true → (a, c) ∈ ps)) (fun M3 hM3 => ?_) ?_
        · simp
          rw [pD_add, p_inP]
          by_cases q : (a + 1, c) ∈ ps
          · simp [q, m_lwritten, p_neO]
            exact hM3 _ _ ⟨hg2, _, rfl, fun z => due true rfl q (by simpa using z)⟩
          · simp [q]
            exact hM3 _ _ ⟨hg2, _, rfl, fun z => by cases z⟩
        · rintro ρ h3 ⟨hg3, b, rfl, hb⟩
          refine s_cut (fun ρ h3 => Gr h h3 ∧ ∃ b : Bool, ρ = [some (progD k l items), some (nD pos), some (.tup (ps.map pD)), some (nD a), some it.d, some (nD c), some (.bl b)] ∧ (b = true → (a, c) ∈ ps)) (fun M3 hM3 => ?_) ?_
          · simp [m_lread, p_inT]
            by_cases hc : c ∈ it.rd
            · simp [hc]
              cases hbb : b
              · simp [p_tag, tag_snd]
                cases hs : it.snd
                · simp
                  have : ∃ w, it.d = .tup [.str 157, nD w, nsD it.rd] ∧ it.wr = some w := by
                    cases it <;> simp [It.rd, It.snd, It.tag, It.d, It.wr] at *
                  obtain ⟨w, e1, e2⟩ := this
                  rw [e1]
                  simp
                  rw [pD_add, p_inP]
                  simp
                  rw [← e1]
                  refine hM3 _ _ ⟨hg3, _, rfl, fun z => ?_⟩
                  have z : (a + 1, w) ∈ ps := by simpa using z
                  exact (tb.mem a c).mpr ⟨hpa, by omega, by rw [ed]; exact .inr ⟨hc, .inr ⟨w, e2, ((tb.mem _ _).mp z).2.2⟩⟩⟩
                · simp
                  exact hM3 _ _ ⟨hg3, _, rfl, fun _ => (tb.mem a c).mpr ⟨hpa, by omega, by rw [ed]; exact .inr ⟨hc, .inl hs⟩⟩⟩
              · simp
                exact hM3 _ _ ⟨hg3, _, rfl, fun _ => hb hbb⟩
            · simp [hc]
              exact hM3 _ _ ⟨hg3, b, rfl, hb⟩
          · rintro ρ h4 ⟨hg4, b2, rfl, hb2⟩
            simp
            cases hbb : b2
            · simp
              exact hN2 _ _ ⟨hg4, _, _, rfl⟩
            · have hm := hb2 hbb
              simp
              rw [show D.tup [nD a, nD c] = pD (a, c) from rfl, p_inP]
              simp [hm]
              exact hN2 _ _ ⟨hg4, _, _, rfl⟩
      · rintro ρ h2 ⟨hg2, t5, t6, rfl⟩
        simp
        exact hN _ _ ⟨hg2, _, _, _, _, rfl⟩
    · rintro ρ h' ⟨hg, _⟩
      exact hM _ _ hg
  · rintro ρ h' hg
    simp
    exact hQ _ _ ⟨hg, rfl⟩
theorem m_isint {n : Nat} {h : AH} {v : Nat} {lo hi : Int} : callN T (n + 1) (.fn 139) [nD v, .int lo, .int hi] h = .ok (.bl (decide (lo ≤ v) && decide ((v : Int) ≤ hi))) h := by
  have : sat (callN T (n + 1) (.fn 139) [nD v, .int lo, .int hi] h) fun d h' => d = .bl (decide (lo ≤ v) && decide ((v : Int) ≤ hi)) ∧ h' = h := by
    refine s_fn (nN := 3) (b := B_is_integer) rfl fun Q hQ => ?_
    have e1 : isiD "int" (nD v) h = .ok (.bl true) h := rfl
    have e2 : isiD "bool" (nD v) h = .ok (.bl false) h := rfl
    simp [B_is_integer, startE, e1, e2]
    by_cases q : lo ≤ (v : Int)
    · simp [q]; exact hQ _ _ ⟨by simp [q], rfl⟩
    · simp [q]; exact hQ _ _ ⟨by simp [q], rfl⟩
  obtain ⟨d, h', e, rfl, rfl⟩ := this
  exact e
abbrev PR : D := .tup [.int 1, .int 1, .int 1, .int 1, .int 1, .int 1, .int 1, .int 1, .int 1, .int 1, .int 1]
abbrev clm (a c : Nat) : D := .tup [.str 224, nD a, nD c]
theorem m_decide {n : Nat} {h : AH} {k l pos c : Nat} {items : List It} (hl : items.length ≤ 64) (fw : Few items) (hp : pos ≤ items.length) (hc : c < k + l) :
    sat (callN T (n + 7) (.fn 112) [progD k l items, clm pos c, PR] h) fun d h' => Gr h h' ∧
      ((¬ Al (items.drop pos) c ∧ ∃ ps, d = .tup [.str 127, clm pos c, .tup (ps.map pD)] ∧ Tab items pos ps) ∨ (Al (items.drop pos) c ∧ ∃ ws : List Nat, d = .tup [.str 284, clm pos c, nsD ws] ∧ ws.length ≤ 64 ∧ Way items pos c ws)) := by
  refine s_fn (nN := 3) (b := B_decide) rfl fun Q hQ => ?_
  have req : ∀ {n : Nat}, callN T (n + 4) (.fn 193) [progD k l items, clm pos c] h = .ok .non h := by
    intro n
    have : sat (callN T (n + 4) (.fn 193) [progD k l items, clm pos c] h) fun d h' => d = .non ∧ h' = h := by
      refine s_fn (nN := 2) (b := B_require_claim) rfl fun Q hQ => ?_
      have cl : callN T (n + 3) (.fn 135) [progD k l items, clm pos c] h = .ok (.bl true) h := by
        have : sat (callN T (n + 3) (.fn 135) [progD k l items, clm pos c] h) fun d h' => d = .bl true ∧ h' = h := by
          refine s_fn (nN := 3) (b := B_is_claim) rfl fun Q hQ => ?_
          have cc : callN T (n + 2) (.fn 134) [progD k l items, clm pos c] h = .ok (.bl true) h := by
            have : sat (callN T (n + 2) (.fn 134) [progD k l items, clm pos c] h) fun d h' => d = .bl true ∧ h' = h := by
              refine s_fn (nN := 2) (b := B_is_cell_claim) rfl fun Q hQ => ?_
              have cn : callN T (n + 1) (.fn 107) [progD k l items] h = .ok (.int ((k : Int) + l)) h := rfl
              simp [B_is_cell_claim, startE, s_seq, m_isint, hp, cn]
              have : (c : Int) ≤ (k : Int) + l - 1 := by omega
              simp [this]
              exact hQ _ _ ⟨rfl, rfl⟩
            obtain ⟨d, h', e, rfl, rfl⟩ := this
            exact e
          have e1 : isiD "tuple" (clm pos c) h = .ok (.bl true) h := rfl
          have e2 : isiD "str" (.str 224) h = .ok (.bl true) h := rfl
          have e3 : eqD (clm pos c) (.tup []) h = .ok (.bl false) h := rfl
          have e4 : inLs false (.str 224) (.tup [.str 294, .str 224]) h = .ok (.bl true) h := rfl
          simp [B_is_claim, startE, s_seq, e1, e2, e3, e4, cc]
          exact hQ _ _ ⟨rfl, rfl⟩
        obtain ⟨d, h', e, rfl, rfl⟩ := this
        exact e
      simp [B_require_claim, startE, s_seq, cl]
      exact hQ _ _ ⟨rfl, rfl⟩
    obtain ⟨d, h', e, rfl, rfl⟩ := this
    exact e
  simp [B_decide, startE, s_seq, req (n := n + 2)]
  refine (s_fn (n := n + 5) (k := 114) (nN := 5) (b := B_decide_matters) rfl fun Q2 hQ2 => ?_ : sat _ fun d h' => Gr h h' ∧
      ((¬ Al (items.drop pos) c ∧ ∃ ps, d = .tup [.str 127, clm pos c, .tup (ps.map pD)] ∧ Tab items pos ps) ∨ (Al (items.drop pos) c ∧ ∃ ws : List Nat, d = .tup [.str 284, clm pos c, nsD ws] ∧ ws.length ≤ 64 ∧ Way items pos c ws))).imp fun d h' q => hQ _ _ q
  simp only [B_decide_matters, startE, s_seqN]
  rw [s_seq]
  have cut : cutD [.str 224, nD pos, nD c] (some 1) none = [nD pos, nD c] := rfl
  simp [slD, cut, setT, setMany]
  rw [s_seq]
  simp
  refine (m_way (n := n + 1) hl fw hp).imp ?_
  rintro d h1 ⟨g1, (⟨ha, rfl⟩ | ⟨ha, ws, rfl, hw1, hw2⟩)⟩
  · rw [s_seq]
    simp [p_is, isNone]
    refine (m_table (n := n) hl fw hp).imp ?_
    rintro d h2 ⟨g2, ps, rfl, tb⟩
    exact hQ2 _ _ ⟨g1.trans g2, .inl ⟨ha, ps, rfl, tb⟩⟩
  · rw [s_seq]
    simp [p_is, isNone]
    exact hQ2 _ _ ⟨g1, .inr ⟨ha, ws, rfl, hw1, hw2⟩⟩
end K56

end

section
/-! The law. -/
namespace K56
open L2 Cw
theorem isort_id {l : List D} (h : l.Pairwise fun a b => leS a b = true) : isort l = l := by
  rw [isort_eq]
  exact List.mergeSort_of_pairwise h
theorem pyEqs_nD {l : List Nat} : pyEqs (l.map nD) (l.map nD) = true := by
  induction l with
  | nil => rfl
  | cons a l ih => rw [List.map_cons, pyEqs, ih, pyEq_nD]; simp
theorem pyEqs_pD {l : List (Nat × Nat)} : pyEqs (l.map pD) (l.map pD) = true := by
  induction l with
  | nil => rfl
  | cons a l ih => rw [List.map_cons, pyEqs, ih, pyEq_pD]; simp
theorem sort_pD {l : List (Nat × Nat)} (hl : l.length ≤ cap) : sortOk (l.map pD) = true := by
  have h2 : alikeS (l.map pD) = true := by
    unfold alikeS
    simp only [List.all_map, List.all_eq_true, Function.comp]
    intro x _ y _
    simp [pD, toP, toPs, PySem.W.alike, PySem.W.alikeAll]
  have h3 : (l.map pD).all tupNE = true := by
    simp [List.all_map, tupNE, pD]
  unfold sortOk
  rw [okNs_pD, h2, h3, List.length_map, decide_eq_true hl]
  rfl
theorem way_asc {items : List It} : ∀ {ws : List Nat} {i c : Nat}, Way items i c ws → ws.Pairwise (· ≤ ·) ∧ ∀ w ∈ ws, i ≤ w
  | [], _, _, h => h.elim
  | [k], i, c, h => ⟨List.pairwise_singleton _ _, fun w hw => by rw [List.mem_singleton.mp hw]; exact h.1⟩
  | k :: k' :: ks, i, c, ⟨h1, _, _, _, _, _, _, _, h⟩ => by
    obtain ⟨a, b⟩ := way_asc h
    refine ⟨List.pairwise_cons.mpr ⟨fun w hw => by have := b w hw; omega, a⟩, fun w hw => ?_⟩
    rcases List.mem_cons.mp hw with rfl | hw
    · exact h1
    · have := b w hw; omega
theorem m_pen {n : Nat} {ns : List Int} : sat (callN T (n + 1) (.fn 58) [.fl (ns.map D.int)] []) fun d h' => d = .ob 2 ∧ Pen 2 1 (ns.take 63) h' := by
  refine s_fn (nN := 1) (b := B__law_pen) rfl fun Q hQ => ?_
  have cut : cutD (ns.map D.int) none (some 63) = (ns.take 63).map D.int := by
    unfold cutD
    rw [HT.sIx_none, show (63 : Int) = ((63 : Nat) : Int) from rfl, HT.sIx_nat, List.length_map, List.drop_zero, Nat.sub_zero, List.map_take]
    by_cases q : 63 ≤ ns.length
    · rw [Nat.min_eq_left q]
    · rw [Nat.min_eq_right (by omega), List.take_of_length_le (by simp), List.take_of_length_le (by simp; omega)]
  simp [B__law_pen, startE, s_seq, slD, newL, cut]
  rw [p_list (gQ_ob (ds := (ns.take 63).map D.int) (by simp))]
  simp
  exact hQ _ _ ⟨rfl, by decide, by simp, 0, 0, by simp⟩
theorem mem_rngS {n s : Nat} {x : D} {done rest : List D} (e : rngD 0 n (s : Int) = done ++ x :: rest) : x = nD (done.length * s) ∧ done.length < n := by
  have hl : done.length < n := by
    have := congrArg List.length e
    rw [rngD_len, List.length_append, List.length_cons] at this
    omega
  have := rngD_get (lo := 0) (st := (s : Int)) hl
  rw [e, List.getElem?_append_right (Nat.le_refl _)] at this
  simp at this
  exact ⟨by rw [this]; simp [nD], hl⟩
theorem main (ns : List Int) (hns : ns.length ≤ 63) : ∃ h', callN T 14 (.fn 154) [.fl (ns.map D.int)] [] = .ok (.bl true) h' := by
  have : sat (callN T 14 (.fn 154) [.fl (ns.map D.int)] []) fun d h' => d = .bl true := by
    refine s_fn (nN := 12) (b := B_law) rfl fun Q hQ => ?_
    simp only [B_law, startE, s_seqN]
    rw [s_seq]
    simp
    refine (m_pen (n := 12)).imp ?_
    rintro d h1 ⟨rfl, P1⟩
    refine s_cut (fun ρ h' => True) (fun M hM => ?_) ?_
    · simp
      have hmin : bMin [.int 4, .int (ns.length : Nat)] h1 = .ok (.int (if (ns.length : Int) < 4 then ns.length else 4)) h1 := rfl
      rw [hmin]
      simp
      generalize hx : (if (ns.length : Int) < 4 then (ns.length : Int) else 4) = x
      have hmax : bMax [.int 1, .int x] h1 = .ok (.int (if 1 < x then x else 1)) h1 := rfl
      rw [hmax]
      simp
      refine ⟨by split at hx <;> split <;> omega, ?_⟩
      generalize (if 1 < x then x else 1).toNat = m
      refine s_forL (fun done ρ h' => Pen 2 1 (ns.take 63) h' ∧ ∃ (t2 t3 t4 t5 t6 t7 t8 t9 t10 t11 : Option D), ρ = [some (.fl (ns.map D.int)), some (.ob 2), t2, t3, t4, t5, t6, t7, t8, t9, t10, t11]) ⟨P1, _, _, _, _, _, _, _, _, _, _, rfl⟩ ?_ ?_
      · rintro done x rest ρ h2 N e ⟨P2, t2, t3, t4, t5, t6, t7, t8, t9, t10, t11, rfl⟩ hN
        simp [setT]
        -- the program
        refine s_cut (fun ρ h' => Pen 2 1 (ns.take 63) h' ∧ ∃ (kp ls : Nat) (its : List It), ρ = [some (.fl (ns.map D.int)), some (.ob 2), some x, some (progD kp ls its), some (.int 1), t5, t6, t7, t8, t9, t10, t11] ∧ kp ≤ 8 ∧ ls ≤ 8 ∧ 1 ≤ kp + ls ∧ its.length ≤ 64 ∧ Few its) (fun M hM => ?_) ?_
        · simp
          refine (m_draw (n := 11) P2 (k := 5) (by omega) (by omega)).imp ?_
          rintro d h3 ⟨a, rfl, ha, g3, P3⟩
          refine (m_draw (n := 11) P3 (k := 6) (by omega) (by omega)).imp ?_
          rintro d h4 ⟨b, rfl, hb, g4, P4⟩
          refine (m_program (n := 8) P4 (kp := a) (ls := b) (w := 12) (by omega) (by omega) (by omega) (by omega)).imp ?_
          rintro d h5 ⟨ls', its, rfl, q1, q2, q3, q4, g5, P5⟩
          simp [setMany]
          exact hM _ _ ⟨P5, a, ls', its, rfl, by omega, q1, q2, by omega, q4⟩
        · rintro ρ h3 ⟨P3, kp, ls, its, rfl, b1, b2, b3, b4, b5⟩
          refine s_cut (fun ρ h' => Pen 2 1 (ns.take 63) h' ∧ ∃ (kp ls st : Nat) (its : List It), ρ = [some (.fl (ns.map D.int)), some (.ob 2), some x, some (progD kp ls its), some (nD st), t5, t6, t7, t8, t9, t10, t11] ∧ kp ≤ 8 ∧ ls ≤ 8 ∧ 1 ≤ kp + ls ∧ its.length ≤ 64 ∧ Few its ∧ 1 ≤ st ∧ st ≤ 16) (fun M hM => ?_) ?_
          · simp
            refine (m_draw (n := 11) P3 (k := 8) (by omega) (by omega)).imp ?_
            rintro d h4 ⟨a, rfl, ha, g4, P4⟩
            simp
            split
            · refine (m_long (n := 8) P4).imp ?_
              rintro d h5 ⟨kp, ls, its, rfl, q1, q2, q3, q4, q5, g5, P5⟩
              simp [setMany]
              exact hM _ _ ⟨P5, kp, ls, 16, its, rfl, q1, q2, q3, by omega, q5, by omega, by omega⟩
            · exact hM _ _ ⟨P4, kp, ls, 1, its, rfl, b1, b2, b3, b4, b5, by omega, by omega⟩
          · rintro ρ h4 ⟨P4, kp, ls, st, its, rfl, b1, b2, b3, b4, b5, b6, b7⟩
            rw [s_seq]
            simp
            refine (m_draw (n := 11) P4 (k := (kp : Int) + ls) (by omega) (by omega)).imp ?_
            rintro d h5 ⟨c, rfl, hc, g5, P5⟩
            refine (m_alive (n := 11) b4 b5).imp ?_
            rintro d h6 ⟨g6, m, obs, rfl, hf, ho, hO⟩
            have P6 := P5.gr g6
            simp [setMany]
            refine ⟨_, rng3_up (by omega) (by omega) (by omega), ?_⟩
            refine s_forL (fun dn ρ h' => Gr h6 h' ∧ ∃ (t7 t8 t9 t10 t11 : Option D), ρ = [some (.fl (ns.map D.int)), some (.ob 2), some x, some (progD kp ls its), some (nD st), some (nD c), some (.ob m), t7, t8, t9, t10, t11]) ⟨Gr.refl, _, _, _, _, _, rfl⟩ ?_ ?_
            · rintro dn y rest2 ρ h7 N2 e2 ⟨g7, t7, t8, t9, t10, t11, rfl⟩ hN2
              obtain ⟨rfl, hd2⟩ := mem_rngS e2
              have hat : dn.length * st ≤ its.length := by
                have h0 : (0 : Int) < (its.length : Int) + 1 := by omega
                rw [if_pos h0] at hd2
                have h1 : (dn.length : Int) ≤ ((its.length : Int) + 1 - 0 - 1) / (st : Int) := by omega
                have h2 := Int.mul_le_of_le_ediv (by omega) h1
                have h3 : ((dn.length * st : Nat) : Int) = (dn.length : Int) * (st : Int) := by simp
                omega
              generalize dn.length * st = at_ at *
              simp [setT]
              have oat : obs[at_]? = some obs[at_] := List.getElem?_eq_getElem (by omega)
              generalize obs[at_] = o at oat
              obtain ⟨r, hr, hrm⟩ := hO _ _ oat
              refine s_cut (fun ρ h8 => Gr h6 h8 ∧ ∃ (w ct : D), ρ = [some (.fl (ns.map D.int)), some (.ob 2), some x, some (progD kp ls its), some (nD st), some (nD c), some (.ob m), some (nD at_), some w, some (clm at_ c), some ct, t11] ∧
                ((¬ Al (its.drop at_) c ∧ w = .str 127 ∧ ∃ ps, ct = .tup (ps.map pD) ∧ Tab its at_ ps) ∨ (Al (its.drop at_) c ∧ w = .str 284 ∧ ∃ ws : List Nat, ct = nsD ws ∧ ws.length ≤ 64 ∧ Way its at_ c ws))) (fun M3 hM3 => ?_) ?_
              · simp
                refine (m_decide (n := 6) (pos := at_) (c := c) b4 b5 hat (by omega)).imp ?_
                rintro d h8 ⟨g8, (⟨z1, ps, rfl, z2⟩ | ⟨z1, ws, rfl, z2, z3⟩)⟩
                · simp [setT, setMany]
                  exact hM3 _ _ ⟨g7.trans g8, _, _, rfl, .inl ⟨z1, rfl, ps, rfl, z2⟩⟩
                · simp [setT, setMany]
                  exact hM3 _ _ ⟨g7.trans g8, _, _, rfl, .inr ⟨z1, rfl, ws, rfl, z2, z3⟩⟩
              · rintro ρ h8 ⟨g8, w, ct, rfl, hcase⟩
                have hf8 := g8 _ _ hf
                have hr8 := g8 _ _ hr
                have oat2 : atI (obs.map D.ob) (at_ : Int) = some (.ob o) := at_nat (by rw [List.getElem?_map, oat]; rfl)
                have okc : okN 60 (clm at_ c) = true := rfl
                have eqc : pyEqs [.str 224, nD at_, nD c] [.str 224, nD at_, nD c] = true := by
                  show (true && (pyEq (nD at_) (nD at_) && (pyEq (nD c) (nD c) && true))) = true
                  rw [pyEq_nD, pyEq_nD]; simp
                refine s_cut (fun ρ h9 => h9 = h8 ∧ ρ = [some (.fl (ns.map D.int)), some (.ob 2), some x, some (progD kp ls its), some (nD st), some (nD c), some (.ob m), some (nD at_), some w, some (clm at_ c), some ct, t11]) (fun M4 hM4 => ?_) ?_
                · simp
                  rw [p_neT okc okc, eqc]
                  simp [p_ixO hf8, oat2, p_inL hr8]
                  rcases hcase with ⟨z1, rfl, _⟩ | ⟨z1, rfl, _⟩
                  · have : c ∉ r := fun z => z1 ((hrm c).mp z)
                    simp [this]
                    exact hM4 _ _ ⟨rfl, rfl⟩
                  · have : c ∈ r := (hrm c).mpr z1
                    simp [this]
                    exact hM4 _ _ ⟨rfl, rfl⟩
                · rintro ρ h9 ⟨rfl, rfl⟩
                  rcases hcase with ⟨z1, rfl, ps, rfl, z2⟩ | ⟨z1, rfl, ws, rfl, z2, z3⟩
                  · simp
                    have hno : (at_, c) ∉ ps := fun z => z1 ((z2.mem _ _).mp z).2.2
                    rw [show D.tup [nD at_, nD c] = pD (at_, c) from rfl, p_inP]
                    simp [hno]
                    refine (m_lack (n := 11) b4 b1 b2 hat z2).imp ?_
                    rintro d h10 ⟨g10, rfl⟩
                    rw [p_nis]
                    simp only [sat_ok, isNone, Bool.not_true, brD_bl, Bool.false_eq_true, if_false]
                    have few := z2.few
                    rw [p_list gQ_tup]
                    simp only [sat_ok]
                    rw [p_list gQ_tup]
                    simp only [sat_ok]
                    rw [p_sorted (gL_ob top_get) (sort_pD (by unfold cap; omega))]
                    simp only [sat_ok]
                    have hid : isort (ps.map pD) = ps.map pD := isort_id (by rw [List.pairwise_map]; exact z2.asc.imp leS_pD)
                    rw [hid]
                    rw [p_neL (Gr.app _ _ (Gr.app _ _ top_get)) top_get okNs_pD okNs_pD, pyEqs_pD]
                    have g11 : Gr h9 (h10 ++ [O.lst (ps.map pD)] ++ [O.lst (ps.map pD)] ++ [O.lst (ps.map pD)]) := ((g10.one).one).one
                    generalize h10 ++ [O.lst (ps.map pD)] ++ [O.lst (ps.map pD)] ++ [O.lst (ps.map pD)] = h11 at g11
                    simp only [sat_ok, Bool.not_true, brD_bl, Bool.false_eq_true, if_false]
                    rw [s_comp]
                    simp
                    refine ⟨_, _, ⟨rfl, rfl⟩, ⟨rfl, by simp [cap]; omega⟩, ?_⟩
                    refine s_compL (fun dn ys h12 => ys = [] ∧ h12 = h11) ⟨rfl, rfl⟩ ?_ ?_
                    · rintro dn y rest3 ys h12 N3 e3 ⟨rfl, rfl⟩ hN3
                      have hy : ∃ q ∈ ps, y = pD q := by
                        have : y ∈ ps.map pD := by rw [e3]; simp
                        obtain ⟨q, hq, rfl⟩ := List.mem_map.mp this
                        exact ⟨q, hq, rfl⟩
                      obtain ⟨q, hq, rfl⟩ := hy
                      have hq1 := ((z2.mem q.1 q.2).mp hq).1
                      have hq2 : ¬ (q.1 : Int) < (at_ : Int) := by omega
                      simp [setT, wipeE, pD]
                      rw [if_neg (by omega)]
                      exact hN3 _ _ ⟨rfl, rfl⟩
                    · rintro ys h12 ⟨rfl, rfl⟩
                      have e1 : (h12 ++ [O.lst [], O.lst []])[h12.length]? = some (.lst []) := by simp
                      have e2 : (h12 ++ [O.lst [], O.lst []])[h12.length + 1]? = some (.lst []) := by simp
                      rw [p_neL e1 e2 okNs_nil okNs_nil]
                      simp [pyEqs]
                      exact hN2 _ _ ⟨(g8.trans g11).trans Gr.app, _, _, _, _, _, rfl⟩
                  · simp
                    have hne : ws ≠ [] := fun z => by rw [z] at z3; exact z3
                    obtain ⟨w0, ws0, rfl⟩ : ∃ w0 ws0, ws = w0 :: ws0 := by
                      cases ws with
                      | nil => exact absurd rfl hne
                      | cons a b => exact ⟨a, b, rfl⟩
                    have hpe : pyEqs ((w0 :: ws0).map nD) [] = false := rfl
                    refine s_cut (fun ρ h10 => Gr h9 h10 ∧ ρ = [some (.fl (ns.map D.int)), some (.ob 2), some x, some (progD kp ls its), some (nD st), some (nD c), some (.ob m), some (nD at_), some (.str 284), some (clm at_ c), some (nsD (w0 :: ws0)), t11]) (fun M4 hM4 => ?_) ?_
                    · simp only [s_sIf, s_or, s_bin, s_var, s_tup, s_nil, s_arg, s_cons, s_ret, s_sNil, s_seqN]
                      refine ⟨_, rfl, by simp, ?_⟩
                      rw [p_eqT okN_nsD rfl, hpe]
                      simp only [sat_ok, brD_bl, Bool.false_eq_true, if_false]
                      refine ⟨_, rfl, ?_⟩
                      rw [p_list gQ_tup]
                      simp only [sat_ok]
                      refine ⟨_, rfl, ?_⟩
                      rw [p_list gQ_tup]
                      simp only [sat_ok]
                      rw [p_sorted (gL_ob top_get) (sort_nD (by unfold cap; omega))]
                      simp only [sat_ok]
                      have hid : isort ((w0 :: ws0).map nD) = (w0 :: ws0).map nD := isort_id (by rw [List.pairwise_map]; exact (way_asc z3).1.imp fun h => by rw [leS_nD]; exact decide_eq_true h)
                      rw [hid]
                      rw [p_neL (Gr.app _ _ (Gr.app _ _ top_get)) top_get okNs_nD okNs_nD, pyEqs_nD]
                      simp only [sat_ok, Bool.not_true, brD_bl, Bool.false_eq_true, if_false]
                      exact hM4 _ _ ⟨((Gr.app).one).one, rfl⟩
                    · rintro ρ h10 ⟨g10, rfl⟩
                      simp
                      refine (m_fault (n := 11) b4 z2 z3).imp ?_
                      rintro d h11 ⟨g11, rfl⟩
                      rw [p_nis]
                      simp only [sat_ok, isNone, Bool.not_true, brD_bl, Bool.false_eq_true, if_false]
                      exact hN2 _ _ ⟨(g8.trans g10).trans g11, _, _, _, _, _, rfl⟩
            · rintro ρ h7 ⟨g7, t7, t8, t9, t10, t11, rfl⟩
              exact ⟨rfl, hN _ _ ⟨P6.gr g7, _, _, _, _, _, _, _, _, _, _, rfl⟩⟩
      · rintro ρ h2 _
        exact hM _ _ True.intro
    · rintro ρ h2 _
      simp
      exact hQ _ _ rfl
  obtain ⟨d, h', e, rfl⟩ := this
  exact ⟨h', e⟩
end K56

end

theorem PySem.Challenge.cw_cutrows_k56_certificates_of_matters_holds : PySem.Challenge.rw_cutrows_k56_certificates_of_matters.Holds := by
  exact K56.by_main K56.main
