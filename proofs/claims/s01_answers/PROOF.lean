import PyProof.Rows.All
import Wide.All
import OpenK.AllK
import Wide.FinOn
import Open.SpecLaws
import KE.OsGo
import HandS.ForSpec
import HandS.Dict
import HandS.WordsDict
import HandS.SetKeys
import HandS.Conv
import HandS.SortInts
import HandS.NoneIn
import PyProof.DictMoreH
import HandS.Evl
import PySem.Challenge.RW_agreemost_s01_answers
set_option Elab.async false
set_option linter.all false
set_option maxRecDepth 100000
set_option maxHeartbeats 8000000
/-! Plain mathematics about the specification's member: what is heard, counts, ranks of the rules. No Python here. -/
namespace Ag
open Md13

/-! ### what was said -/
def saidL (h : Heard) (w : Nat) (k : Kind) (r : Nat) : Option Msg := (h.find? fun x => x.1 == w && (x.2.kind == k && x.2.round == r)).map fun x => x.2
theorem said_eq (s : St) (w : Nat) (k : Kind) (r : Nat) : said s w k r = saidL s.heard w k r := rfl
theorem saidL_nil (w : Nat) (k : Kind) (r : Nat) : saidL [] w k r = none := rfl
theorem saidL_snoc {h : Heard} {w : Nat} {m : Msg} (hn : saidL h w m.kind m.round = none) (w' : Nat) (k : Kind) (r : Nat) :
    saidL (h ++ [(w, m)]) w' k r = if w' = w ∧ k = m.kind ∧ r = m.round then some m else saidL h w' k r := by
  unfold saidL at hn ⊢
  rw [List.find?_append]
  by_cases c : w' = w ∧ k = m.kind ∧ r = m.round
  · obtain ⟨rfl, rfl, rfl⟩ := c
    rw [if_pos ⟨rfl, rfl, rfl⟩]
    rw [Option.map_eq_none_iff] at hn
    rw [hn]
    simp [List.find?_cons]
  · rw [if_neg c]
    have e : (List.find? (fun x : Nat × Msg => x.1 == w' && (x.2.kind == k && x.2.round == r)) [(w, m)]) = none := by
      rw [List.find?_cons]
      have : (w == w' && (m.kind == k && m.round == r)) = false := by
        cases q : (w == w' && (m.kind == k && m.round == r)) with
        | false => rfl
        | true =>
          simp only [Bool.and_eq_true, beq_iff_eq] at q
          exact absurd ⟨q.1.symm, q.2.1.symm, q.2.2.symm⟩ c
      simp only [this]
      rfl
    rw [e, Option.or_none]
theorem saidL_kind {h : Heard} {w : Nat} {k : Kind} {r : Nat} {m : Msg} (e : saidL h w k r = some m) : m.kind = k ∧ m.round = r ∧ (w, m) ∈ h := by
  unfold saidL at e
  obtain ⟨x, hx, rfl⟩ := Option.map_eq_some_iff.mp e
  have hp := List.find?_some hx
  have hm := List.mem_of_find?_eq_some hx
  simp only [Bool.and_eq_true, beq_iff_eq] at hp
  obtain ⟨a, b⟩ := x
  simp only at hp
  obtain ⟨rfl, h2, h3⟩ := hp
  exact ⟨h2, h3, hm⟩

/-! ### counts over the members -/
theorem filter_same : ∀ (n : Nat) (p q : Nat → Bool), (∀ j, j < n → q j = p j) → ((List.range n).filter q).length = ((List.range n).filter p).length
  | 0, _, _, _ => rfl
  | n + 1, p, q, h => by
    rw [List.range_succ, List.filter_append, List.filter_append, List.length_append, List.length_append, filter_same n p q fun j hj => h j (by omega)]
    simp only [List.filter_cons, List.filter_nil, h n (by omega)]
theorem filter_more : ∀ (n : Nat) (p q : Nat → Bool) (w : Nat), w < n → p w = false → q w = true → (∀ j, j ≠ w → q j = p j) → ((List.range n).filter q).length = ((List.range n).filter p).length + 1
  | 0, _, _, _, h, _, _, _ => by omega
  | n + 1, p, q, w, hw, hp, hq, h => by
    rw [List.range_succ, List.filter_append, List.filter_append, List.length_append, List.length_append]
    by_cases c : w = n
    · subst c
      rw [filter_same w p q fun j hj => h j (by omega)]
      simp only [List.filter_cons, List.filter_nil, hp, hq]
      simp
    · rw [filter_more n p q w (by omega) hp hq h]
      simp only [List.filter_cons, List.filter_nil, h n (by omega)]
      omega
theorem filter_le (n : Nat) (p : Nat → Bool) : ((List.range n).filter p).length ≤ n := by
  have := List.length_filter_le p (List.range n)
  rw [List.length_range] at this
  exact this
theorem filter_zero (n : Nat) (p : Nat → Bool) (h : ∀ j, p j = false) : ((List.range n).filter p).length = 0 := by
  rw [List.length_eq_zero_iff, List.filter_eq_nil_iff]
  intro a _
  rw [h a]
  exact Bool.false_ne_true
theorem filter_lone : ∀ (n : Nat) (p : Nat → Bool) (w : Nat), (∀ j, j ≠ w → p j = false) → ((List.range n).filter p).length ≤ 1
  | 0, _, _, _ => by simp
  | n + 1, p, w, h => by
    rw [List.range_succ, List.filter_append, List.length_append]
    by_cases c : w = n
    · subst c
      have e : ((List.range w).filter p).length = 0 := by
        rw [List.length_eq_zero_iff, List.filter_eq_nil_iff]
        intro a ha
        rw [h a (by have := List.mem_range.mp ha; omega)]
        exact Bool.false_ne_true
      rw [e]
      have := List.length_filter_le p [w]
      simpa using this
    · have e : ([n].filter p).length = 0 := by
        rw [List.filter_cons, h n (fun z => c z.symm)]
        rfl
      rw [e]
      exact filter_lone n p w h

/-- the test of a vote -/
def tst (f : Nat → Bool) (o : Option Msg) : Bool := match o with
  | some m => f m.value
  | none => false
def cnt (h : Heard) (n : Nat) (k : Kind) (r : Nat) (f : Nat → Bool) : Nat := ((List.range n).filter fun w => tst f (saidL h w k r)).length
theorem votes_eq (s : St) (k : Kind) (r : Nat) (f : Nat → Bool) : votes s k r f = cnt s.heard s.n k r f := rfl
theorem cnt_nil (n : Nat) (k : Kind) (r : Nat) (f : Nat → Bool) : cnt [] n k r f = 0 := filter_zero n _ fun _ => rfl
theorem cnt_none {h : Heard} {n : Nat} {k : Kind} {r : Nat} {f : Nat → Bool} (e : ∀ w, saidL h w k r = none) : cnt h n k r f = 0 := filter_zero n _ fun w => by rw [e w]; rfl
theorem cnt_snoc {h : Heard} {w n : Nat} {m : Msg} (hn : saidL h w m.kind m.round = none) (hw : w < n) (k : Kind) (r : Nat) (f : Nat → Bool) :
    cnt (h ++ [(w, m)]) n k r f = cnt h n k r f + (if k = m.kind ∧ r = m.round ∧ f m.value = true then 1 else 0) := by
  unfold cnt
  by_cases c : k = m.kind ∧ r = m.round ∧ f m.value = true
  · rw [if_pos c]
    refine filter_more n _ _ w hw ?_ ?_ fun j hj => ?_
    · rw [c.1, c.2.1, hn]; rfl
    · rw [saidL_snoc hn, if_pos ⟨rfl, c.1, c.2.1⟩]; exact c.2.2
    · rw [saidL_snoc hn, if_neg (fun z => hj z.1)]
  · rw [if_neg c, Nat.add_zero]
    refine filter_same n _ _ fun j hj => ?_
    rw [saidL_snoc hn]
    by_cases d : j = w ∧ k = m.kind ∧ r = m.round
    · rw [if_pos d, d.1, d.2.1, d.2.2, hn]
      show f m.value = false
      cases q : f m.value with
      | false => rfl
      | true => exact absurd ⟨d.2.1, d.2.2, q⟩ c
    · rw [if_neg d]

def anyIn (h : Heard) (r w : Nat) : Bool := h.any fun x => x.1 == w && x.2.round == r
def loud (h : Heard) (n r : Nat) : Nat := ((List.range n).filter fun w => anyIn h r w).length
theorem anyIn_snoc (h : Heard) (w : Nat) (m : Msg) (r w' : Nat) : anyIn (h ++ [(w, m)]) r w' = (anyIn h r w' || (w == w' && m.round == r)) := by
  unfold anyIn
  rw [List.any_append, List.any_cons, List.any_nil, Bool.or_false]
theorem loud_nil (n r : Nat) : loud [] n r = 0 := filter_zero n _ fun _ => rfl
theorem loud_none {h : Heard} {n r : Nat} (e : ∀ w, anyIn h r w = false) : loud h n r = 0 := filter_zero n _ e
theorem loud_snoc {h : Heard} {w n : Nat} {m : Msg} (hw : w < n) (r : Nat) :
    loud (h ++ [(w, m)]) n r = loud h n r + (if r = m.round ∧ anyIn h m.round w = false then 1 else 0) := by
  unfold loud
  by_cases c : r = m.round ∧ anyIn h m.round w = false
  · obtain ⟨rfl, c⟩ := c
    rw [if_pos ⟨rfl, c⟩]
    refine filter_more n _ _ w hw c ?_ fun j hj => ?_
    · rw [anyIn_snoc]; simp
    · rw [anyIn_snoc]
      have : (w == j) = false := beq_eq_false_iff_ne.mpr (fun z => hj z.symm)
      rw [this]; simp
  · rw [if_neg c, Nat.add_zero]
    refine filter_same n _ _ fun j hj => ?_
    rw [anyIn_snoc]
    by_cases d : w = j ∧ m.round = r
    · obtain ⟨rfl, rfl⟩ := d
      have : anyIn h m.round w = true := by
        cases q : anyIn h m.round w with
        | true => rfl
        | false => exact absurd ⟨rfl, q⟩ c
      rw [this, Bool.true_or]
    · have : (w == j && m.round == r) = false := by
        cases q : (w == j && m.round == r) with
        | false => rfl
        | true =>
          simp only [Bool.and_eq_true, beq_iff_eq] at q
          exact absurd q d
      rw [this, Bool.or_false]
theorem anyIn_iff {h : Heard} {r w : Nat} : anyIn h r w = true ↔ ∃ m, (w, m) ∈ h ∧ m.round = r := by
  unfold anyIn
  rw [List.any_eq_true]
  constructor
  · rintro ⟨⟨a, m⟩, hm, q⟩
    simp only [Bool.and_eq_true, beq_iff_eq] at q
    obtain ⟨rfl, q⟩ := q
    exact ⟨m, hm, q⟩
  · rintro ⟨m, hm, q⟩
    exact ⟨(w, m), hm, by simp [q]⟩

theorem ahead_eq (s : St) : ahead s = (List.range ROUNDS).reverse.find? fun r => decide (s.round < r) && decide (liars s.n < loud s.heard s.n r) := rfl
/-- the greatest of those below n that a test holds of -/
theorem find_rev_some {p : Nat → Bool} : ∀ {n r : Nat}, (List.range n).reverse.find? p = some r → r < n ∧ p r = true ∧ ∀ j, r < j → j < n → p j = false
  | 0, r, h => by simp at h
  | n + 1, r, h => by
    rw [List.range_succ, List.reverse_append, List.reverse_singleton, List.singleton_append, List.find?_cons] at h
    cases q : p n with
    | true =>
      rw [q] at h
      have e : n = r := Option.some.inj h
      subst e
      exact ⟨by omega, q, fun j a b => by omega⟩
    | false =>
      rw [q] at h
      obtain ⟨h1, h2, h3⟩ := find_rev_some h
      refine ⟨by omega, h2, fun j a b => ?_⟩
      by_cases c : j = n
      · rw [c]; exact q
      · exact h3 j a (by omega)
theorem find_rev_none {p : Nat → Bool} {n : Nat} (h : (List.range n).reverse.find? p = none) : ∀ j, j < n → p j = false := fun j hj => by
  have := List.find?_eq_none.mp h j (by simp [hj])
  cases q : p j with
  | false => rfl
  | true => exact absurd q this
theorem find_rev_is {p : Nat → Bool} {n r : Nat} (h1 : r < n) (h2 : p r = true) (h3 : ∀ j, r < j → j < n → p j = false) : (List.range n).reverse.find? p = some r := by
  cases e : (List.range n).reverse.find? p with
  | none => rw [find_rev_none e r h1] at h2; cases h2
  | some r' =>
    obtain ⟨a, b, c⟩ := find_rev_some e
    by_cases d : r < r'
    · rw [h3 r' d a] at b; cases b
    · by_cases d' : r' < r
      · rw [c r d' h1] at h2; cases h2
      · have : r' = r := by omega
        rw [this]
theorem find_rev_is_none {p : Nat → Bool} {n : Nat} (h : ∀ j, j < n → p j = false) : (List.range n).reverse.find? p = none := by
  rw [List.find?_eq_none]
  intro x hx
  have : x < n := by simpa using hx
  rw [h x this]
  exact Bool.false_ne_true
theorem ahead_none_iff {s : St} : ahead s = none ↔ ∀ r, s.round < r → r < ROUNDS → loud s.heard s.n r ≤ liars s.n := by
  rw [ahead_eq]
  constructor
  · intro h r h1 h2
    have := find_rev_none h r h2
    simp only [Bool.and_eq_false_iff, decide_eq_false_iff_not] at this
    omega
  · intro h
    refine find_rev_is_none fun j hj => ?_
    by_cases c : s.round < j
    · have := h j c hj
      simp; omega
    · simp [c]

/-! ### hearing -/
theorem hear_said {s : St} {w : Nat} {m : Msg} (h : (saidL s.heard w m.kind m.round).isSome = true) : hear s w m = s := if_pos h
theorem hear_new {s : St} {w : Nat} {m : Msg} (h : saidL s.heard w m.kind m.round = none) : hear s w m = { s with heard := s.heard ++ [(w, m)] } := by
  unfold hear
  rw [said_eq, h]
  exact if_neg (by simp)
theorem hear_cases (s : St) (w : Nat) (m : Msg) : ((saidL s.heard w m.kind m.round).isSome = true ∧ hear s w m = s) ∨ (saidL s.heard w m.kind m.round = none ∧ hear s w m = { s with heard := s.heard ++ [(w, m)] }) := by
  cases e : saidL s.heard w m.kind m.round with
  | none => exact .inr ⟨rfl, hear_new e⟩
  | some x => exact .inl ⟨rfl, hear_said (by rw [e]; rfl)⟩

end Ag
/-! The rules, one by one; a rank that falls; what the rules keep. -/
namespace Ag
open Md13

/-! ### the rules apart -/
abbrev Step := Option (St × List Act)
def r1 (s : St) : Step := match settled s with
  | some v =>
    let t : St := { s with height := s.height + 1, locked := none, good := none, heard := [], done := [], decided := v :: s.decided }
    let x := starts t 0
    some (x.1, .decide s.height v :: x.2)
  | none => none
def r2 (s : St) : Step := match ahead s with
  | some r => some (starts s r)
  | none => none
def backed (s : St) (o : Option Msg) (v : Nat) : Bool := match o with
  | some m => (match m.from_ with
    | none => true
    | some q => decide (q < s.round) && most s .first q (fun x => x == v))
  | none => false
def free (s : St) (o : Option Msg) (v : Nat) : Bool := match s.locked with
  | none => true
  | some l => l.1 == v || (match o.bind fun m => m.from_ with
    | some q => decide (l.2 ≤ q)
    | none => false)
def ofr (s : St) : Option Msg := offerOf s s.round
def ofv (s : St) : Nat := ((ofr s).map fun m => m.value).getD 0
def r3 (s : St) : Step := if s.at_ = .offering ∧ backed s (ofr s) (ofv s) = true then some (first s (if ofv s ≠ 0 ∧ free s (ofr s) (ofv s) = true then ofv s else 0)) else none
def r4 (s : St) : Step := if s.at_ ≠ .offering ∧ may s 4 = true ∧ ofv s ≠ 0 ∧ most s .first s.round (fun x => x == ofv s) = true then
    (let t : St := { once s 4 with good := some (ofv s, s.round) }
     if s.at_ = .first then some (second { t with locked := some (ofv s, s.round) } (ofv s)) else some (t, [])) else none
def r5 (s : St) : Step := if s.at_ = .first ∧ most s .first s.round (fun x => x == 0) = true then some (second s 0) else none
def r6 (s : St) : Step := if s.at_ = .first ∧ may s 2 = true ∧ most s .first s.round (fun _ => true) = true then some (once s 2, [.wait 2 s.height s.round]) else none
def r7 (s : St) : Step := if may s 3 = true ∧ most s .second s.round (fun _ => true) = true then some (once s 3, [.wait 3 s.height s.round]) else none

theorem rule_parts (s : St) : rule s = (r1 s).or ((r2 s).or ((r3 s).or ((r4 s).or ((r5 s).or ((r6 s).or (r7 s)))))) := by
  unfold rule r1 r2
  cases settled s with
  | some v => rfl
  | none =>
    cases ahead s with
    | some r => rfl
    | none =>
      simp only [Option.none_or]
      unfold r3 r4 r5 r6 r7
      have hb : (match offerOf s s.round with
          | some m => (match m.from_ with
            | none => true
            | some q => decide (q < s.round) && most s .first q (fun x => x == ((offerOf s s.round).map fun m => m.value).getD 0))
          | none => false) = backed s (ofr s) (ofv s) := rfl
      have hf : (match s.locked with
          | none => true
          | some l => l.1 == ((offerOf s s.round).map fun m => m.value).getD 0 || (match (offerOf s s.round).bind fun m => m.from_ with
            | some q => decide (l.2 ≤ q)
            | none => false)) = free s (ofr s) (ofv s) := rfl
      simp only [hb, hf]
      show (if s.at_ = .offering ∧ backed s (ofr s) (ofv s) = true then some (first s (if ofv s ≠ 0 ∧ free s (ofr s) (ofv s) = true then ofv s else 0)) else _) = _
      split
      · rfl
      · simp only [Option.none_or]
        show (if s.at_ ≠ .offering ∧ may s 4 = true ∧ ofv s ≠ 0 ∧ most s .first s.round (fun x => x == ofv s) = true then _ else _) = _
        split
        · show (if s.at_ = .first then some (second { ({ once s 4 with good := some (ofv s, s.round) } : St) with locked := some (ofv s, s.round) } (ofv s)) else some (({ once s 4 with good := some (ofv s, s.round) } : St), [])) = _
          split <;> rfl
        · simp only [Option.none_or]
          split
          · rfl
          · simp only [Option.none_or]
            split
            · rfl
            · simp only [Option.none_or]

/-! ### what holds of a member -/
structure Ok (s : St) : Prop where
  n4 : 4 ≤ s.n
  n32 : s.n ≤ 32
  me : s.me < s.n
  mine : s.mine ≠ 0
  ht : s.height = s.decided.length + 1
  rd : s.round < 64
  hw : ∀ x ∈ s.heard, x.1 < s.n ∧ x.2.round < 64
  lk : ∀ l, s.locked = some l → l.1 ≠ 0
  gd : ∀ g, s.good = some g → g.1 ≠ 0
  dn : ∀ x ∈ s.done, x.2 ≤ s.round

theorem hear_fields (s : St) (w : Nat) (m : Msg) : (hear s w m).n = s.n ∧ (hear s w m).me = s.me ∧ (hear s w m).mine = s.mine ∧ (hear s w m).begun = s.begun ∧ (hear s w m).height = s.height ∧ (hear s w m).round = s.round ∧
    (hear s w m).at_ = s.at_ ∧ (hear s w m).locked = s.locked ∧ (hear s w m).good = s.good ∧ (hear s w m).done = s.done ∧ (hear s w m).decided = s.decided := by
  rcases hear_cases s w m with ⟨_, e⟩ | ⟨_, e⟩ <;> rw [e] <;> exact ⟨rfl, rfl, rfl, rfl, rfl, rfl, rfl, rfl, rfl, rfl, rfl⟩
theorem hear_mem {s : St} {w : Nat} {m : Msg} {x : Nat × Msg} (h : x ∈ (hear s w m).heard) : x ∈ s.heard ∨ x = (w, m) := by
  rcases hear_cases s w m with ⟨_, e⟩ | ⟨_, e⟩
  · rw [e] at h; exact .inl h
  · rw [e] at h
    rcases List.mem_append.mp h with h | h
    · exact .inl h
    · exact .inr (List.mem_singleton.mp h)
theorem hear_len (s : St) (w : Nat) (m : Msg) : (hear s w m).heard.length ≤ s.heard.length + 1 := by
  rcases hear_cases s w m with ⟨_, e⟩ | ⟨_, e⟩ <;> rw [e]
  · omega
  · rw [List.length_append]; exact Nat.le_refl _
theorem Ok.hear {s : St} (h : Ok s) {w : Nat} {m : Msg} (hw : w < s.n) (hr : m.round < 64) : Ok (Md13.hear s w m) := by
  obtain ⟨a, b, c, d, e, f, g, i, j, k, l⟩ := hear_fields s w m
  refine ⟨by rw [a]; exact h.n4, by rw [a]; exact h.n32, by rw [a, b]; exact h.me, by rw [c]; exact h.mine, by rw [e, l]; exact h.ht, by rw [f]; exact h.rd, fun x hx => ?_, by rw [i]; exact h.lk, by rw [j]; exact h.gd, by rw [k, f]; exact h.dn⟩
  rw [a]
  rcases hear_mem hx with hx | rfl
  · exact h.hw x hx
  · exact ⟨hw, hr⟩
theorem Ok.says {s : St} (h : Ok s) (k : Kind) (v : Nat) (q : Option Nat) : Ok (says s k v q).1 := h.hear h.me h.rd
theorem Ok.at {s : St} (h : Ok s) (a : At) : Ok { s with at_ := a } := ⟨h.n4, h.n32, h.me, h.mine, h.ht, h.rd, h.hw, h.lk, h.gd, h.dn⟩
theorem Ok.first {s : St} (h : Ok s) (v : Nat) : Ok (first s v).1 := (h.says .first v none).at .first
theorem Ok.second {s : St} (h : Ok s) (v : Nat) : Ok (second s v).1 := (h.says .second v none).at .second
theorem Ok.starts {s : St} (h : Ok s) {r : Nat} (hr : r < 64) (hd : ∀ x ∈ s.done, x.2 ≤ r) : Ok (starts s r).1 := by
  have h' : Ok { s with round := r, at_ := .offering } := ⟨h.n4, h.n32, h.me, h.mine, h.ht, hr, h.hw, h.lk, h.gd, hd⟩
  unfold Md13.starts
  simp only
  split
  · exact h'.says _ _ _
  · exact h'
theorem Ok.once {s : St} (h : Ok s) (k : Nat) : Ok (once s k) := ⟨h.n4, h.n32, h.me, h.mine, h.ht, h.rd, h.hw, h.lk, h.gd, fun x hx => by
  rcases List.mem_cons.mp hx with rfl | hx
  · exact Nat.le_refl _
  · exact h.dn x hx⟩

theorem ahead_some {s : St} {r : Nat} (h : ahead s = some r) : r < 64 ∧ s.round < r ∧ liars s.n < loud s.heard s.n r ∧ ∀ j, r < j → j < 64 → loud s.heard s.n j ≤ liars s.n := by
  rw [ahead_eq] at h
  obtain ⟨a, b, c⟩ := find_rev_some h
  rw [Bool.and_eq_true, decide_eq_true_eq, decide_eq_true_eq] at b
  refine ⟨a, b.1, b.2, fun j h1 h2 => ?_⟩
  have := c j h1 h2
  simp only [Bool.and_eq_false_iff, decide_eq_false_iff_not] at this
  omega

/-- the state behind a decision, before the round begins -/
def fresh (s : St) (v : Nat) : St := { s with height := s.height + 1, locked := none, good := none, heard := [], done := [], decided := v :: s.decided }
theorem Ok.fresh {s : St} (h : Ok s) (v : Nat) : Ok (fresh s v) :=
  ⟨h.n4, h.n32, h.me, h.mine, congrArg (· + 1) h.ht, h.rd, fun x hx => (nomatch hx), fun _ e => (nomatch e), fun _ e => (nomatch e), fun x hx => (nomatch hx)⟩

theorem Ok.r1 {s t : St} {l : List Act} (h : Ok s) (e : r1 s = some (t, l)) : Ok t := by
  unfold Ag.r1 at e
  cases q : settled s with
  | none => rw [q] at e; cases e
  | some v =>
    rw [q] at e
    have e' := Option.some.inj e
    have : t = (Md13.starts (Ag.fresh s v) 0).1 := (congrArg Prod.fst e').symm
    rw [this]
    exact (h.fresh v).starts (by decide) fun x hx => (nomatch hx)
theorem Ok.r2 {s t : St} {l : List Act} (h : Ok s) (e : r2 s = some (t, l)) : Ok t := by
  unfold Ag.r2 at e
  cases q : ahead s with
  | none => rw [q] at e; cases e
  | some r =>
    rw [q] at e
    have e' := Option.some.inj e
    have : t = (Md13.starts s r).1 := (congrArg Prod.fst e').symm
    rw [this]
    obtain ⟨a, b, _⟩ := ahead_some q
    exact h.starts a fun x hx => by have := h.dn x hx; omega
theorem Ok.r3 {s t : St} {l : List Act} (h : Ok s) (e : r3 s = some (t, l)) : Ok t := by
  unfold Ag.r3 at e
  split at e
  · have : t = _ := (congrArg Prod.fst (Option.some.inj e)).symm
    rw [this]
    exact h.first _
  · cases e
theorem Ok.r4 {s t : St} {l : List Act} (h : Ok s) (e : r4 s = some (t, l)) : Ok t := by
  unfold Ag.r4 at e
  split at e
  · rename_i c
    have h4 := h.once 4
    have hg : Ok { Md13.once s 4 with good := some (ofv s, s.round) } := ⟨h4.n4, h4.n32, h4.me, h4.mine, h4.ht, h4.rd, h4.hw, h4.lk, fun g q => by cases q; exact c.2.2.1, h4.dn⟩
    have hl : Ok { ({ Md13.once s 4 with good := some (ofv s, s.round) } : St) with locked := some (ofv s, s.round) } := ⟨hg.n4, hg.n32, hg.me, hg.mine, hg.ht, hg.rd, hg.hw, fun g q => by cases q; exact c.2.2.1, hg.gd, hg.dn⟩
    simp only at e
    split at e
    · have : t = _ := (congrArg Prod.fst (Option.some.inj e)).symm
      rw [this]
      exact hl.second _
    · have : t = _ := (congrArg Prod.fst (Option.some.inj e)).symm
      rw [this]
      exact hg
  · cases e
theorem Ok.r5 {s t : St} {l : List Act} (h : Ok s) (e : r5 s = some (t, l)) : Ok t := by
  unfold Ag.r5 at e
  split at e
  · have : t = _ := (congrArg Prod.fst (Option.some.inj e)).symm
    rw [this]
    exact h.second _
  · cases e
theorem Ok.r6 {s t : St} {l : List Act} (h : Ok s) (e : r6 s = some (t, l)) : Ok t := by
  unfold Ag.r6 at e
  split at e
  · have : t = _ := (congrArg Prod.fst (Option.some.inj e)).symm
    rw [this]
    exact h.once 2
  · cases e
theorem Ok.r7 {s t : St} {l : List Act} (h : Ok s) (e : r7 s = some (t, l)) : Ok t := by
  unfold Ag.r7 at e
  split at e
  · have : t = _ := (congrArg Prod.fst (Option.some.inj e)).symm
    rw [this]
    exact h.once 3
  · cases e
theorem or_cases {a b : Step} {x : St × List Act} (h : a.or b = some x) : a = some x ∨ (a = none ∧ b = some x) := by
  cases a with
  | none => exact .inr ⟨rfl, h⟩
  | some y => exact .inl h
/-- the seven ways -/
theorem rule_cases {s : St} {x : St × List Act} (h : rule s = some x) : r1 s = some x ∨ (r1 s = none ∧ r2 s = some x) ∨ (r1 s = none ∧ r2 s = none ∧ (r3 s = some x ∨ r4 s = some x ∨ r5 s = some x ∨ r6 s = some x ∨ r7 s = some x)) := by
  rw [rule_parts] at h
  rcases or_cases h with h | ⟨h1, h⟩
  · exact .inl h
  rcases or_cases h with h | ⟨h2, h⟩
  · exact .inr (.inl ⟨h1, h⟩)
  refine .inr (.inr ⟨h1, h2, ?_⟩)
  rcases or_cases h with h | ⟨_, h⟩
  · exact .inl h
  rcases or_cases h with h | ⟨_, h⟩
  · exact .inr (.inl h)
  rcases or_cases h with h | ⟨_, h⟩
  · exact .inr (.inr (.inl h))
  rcases or_cases h with h | ⟨_, h⟩
  · exact .inr (.inr (.inr (.inl h)))
  · exact .inr (.inr (.inr (.inr h)))
theorem Ok.rule {s t : St} {l : List Act} (h : Ok s) (e : rule s = some (t, l)) : Ok t := by
  rcases rule_cases e with e | ⟨_, e⟩ | ⟨_, _, e | e | e | e | e⟩
  · exact h.r1 e
  · exact h.r2 e
  · exact h.r3 e
  · exact h.r4 e
  · exact h.r5 e
  · exact h.r6 e
  · exact h.r7 e

/-! ### sizes -/
theorem starts_len (s : St) (r : Nat) : (starts s r).1.heard.length ≤ s.heard.length + 1 ∧ (starts s r).1.decided = s.decided ∧ (starts s r).2.length = 1 := by
  unfold starts
  simp only
  split
  · exact ⟨hear_len _ _ _, (hear_fields _ _ _).2.2.2.2.2.2.2.2.2.2, rfl⟩
  · exact ⟨Nat.le_succ _, rfl, rfl⟩
def Small (s t : St) (l : List Act) : Prop := t.heard.length ≤ s.heard.length + 1 ∧ t.decided.length ≤ s.decided.length + 1 ∧ l.length ≤ 2
theorem small_says {s s' : St} (k : Kind) (v : Nat) (a : At) (h : s'.heard = s.heard) (h' : s'.decided = s.decided) : Small s { (says s' k v none).1 with at_ := a } (says s' k v none).2 :=
  ⟨by have := hear_len s' s'.me ⟨k, s'.height, s'.round, v, none⟩; rw [h] at this; exact this, by
    show (hear s' s'.me _).decided.length ≤ _
    rw [(hear_fields s' s'.me _).2.2.2.2.2.2.2.2.2.2, h']; omega, (by show 1 ≤ 2; decide)⟩
theorem small_rule {s t : St} {l : List Act} (e : rule s = some (t, l)) : Small s t l := by
  rcases rule_cases e with e | ⟨_, e⟩ | ⟨_, _, e | e | e | e | e⟩
  · unfold r1 at e
    cases q : settled s with
    | none => rw [q] at e; cases e
    | some v =>
      rw [q] at e
      have e' := Option.some.inj e
      have e1 : (starts (fresh s v) 0).1 = t := congrArg Prod.fst e'
      have e2 : .decide s.height v :: (starts (fresh s v) 0).2 = l := congrArg Prod.snd e'
      obtain ⟨a, b, c⟩ := starts_len (fresh s v) 0
      rw [← e1, ← e2]
      refine ⟨?_, ?_, ?_⟩
      · have : (fresh s v).heard.length = 0 := rfl
        omega
      · rw [b]; exact Nat.le_refl _
      · rw [List.length_cons, c]; decide
  · unfold r2 at e
    cases q : ahead s with
    | none => rw [q] at e; cases e
    | some r =>
      rw [q] at e
      have e' := Option.some.inj e
      have e1 : (starts s r).1 = t := congrArg Prod.fst e'
      have e2 : (starts s r).2 = l := congrArg Prod.snd e'
      obtain ⟨a, b, c⟩ := starts_len s r
      rw [← e1, ← e2]
      exact ⟨a, by rw [b]; omega, by rw [c]; decide⟩
  · unfold r3 at e
    split at e
    · have e' := Option.some.inj e
      have e1 := congrArg Prod.fst e'
      have e2 := congrArg Prod.snd e'
      simp only at e1 e2
      rw [← e1, ← e2]
      exact small_says _ _ _ rfl rfl
    · cases e
  · unfold r4 at e
    split at e
    · simp only at e
      split at e
      · have e' := Option.some.inj e
        have e1 := congrArg Prod.fst e'
        have e2 := congrArg Prod.snd e'
        simp only at e1 e2
        rw [← e1, ← e2]
        exact small_says (s := s) _ _ _ rfl rfl
      · cases e
        exact ⟨Nat.le_succ _, Nat.le_succ _, by simp⟩
    · cases e
  · unfold r5 at e
    split at e
    · have e' := Option.some.inj e
      have e1 := congrArg Prod.fst e'
      have e2 := congrArg Prod.snd e'
      simp only at e1 e2
      rw [← e1, ← e2]
      exact small_says _ _ _ rfl rfl
    · cases e
  · unfold r6 at e
    split at e
    · cases e
      exact ⟨Nat.le_succ _, Nat.le_succ _, by simp⟩
    · cases e
  · unfold r7 at e
    split at e
    · cases e
      exact ⟨Nat.le_succ _, Nat.le_succ _, by simp⟩
    · cases e
end Ag
/-! A rank of a state that every rule makes less: no run of the rules has 64 steps. -/
namespace Ag
open Md13

def lonely (s : St) : Bool := s.heard.all fun x => x.1 == s.me
def b2n (b : Bool) : Nat := if b = true then 1 else 0
def pAt (a : At) : Nat := match a with
  | .offering => 2
  | .first => 1
  | .second => 0
def pRank (s : St) : Nat := pAt s.at_ + (b2n (may s 4) + (b2n (may s 2) + b2n (may s 3)))
def rank (s : St) : Nat := if lonely s = true then (if s.at_ = .offering then 1 else 0) else 2 + ((if (ahead s).isNone = true then 0 else 6) + pRank s)

theorem b2n_le (b : Bool) : b2n b ≤ 1 := by cases b <;> decide
theorem pAt_le (a : At) : pAt a ≤ 2 := by cases a <;> decide
theorem pRank_le (s : St) : pRank s ≤ 5 := by
  have h1 := b2n_le (may s 4)
  have h2 := b2n_le (may s 2)
  have h3 := b2n_le (may s 3)
  have h4 := pAt_le s.at_
  unfold pRank
  omega
theorem rank_le (s : St) : rank s ≤ 13 := by
  have h := pRank_le s
  unfold rank
  split
  · split <;> omega
  · split <;> omega
theorem rank_lonely {s : St} (h : lonely s = true) : rank s ≤ 1 := by
  unfold rank
  rw [if_pos h]
  split <;> omega

theorem enough3 {n : Nat} (h : 4 ≤ n) : 3 ≤ enough n := by
  unfold enough liars
  omega
theorem liars1 {n : Nat} (h : 4 ≤ n) : 1 ≤ liars n := by
  unfold liars
  omega
theorem lonely_mem {s : St} (h : lonely s = true) {x : Nat × Msg} (hx : x ∈ s.heard) : x.1 = s.me := by
  have := List.all_eq_true.mp h x hx
  exact beq_iff_eq.mp this
theorem lonely_cnt {s : St} (h : lonely s = true) (k : Kind) (r : Nat) (f : Nat → Bool) : cnt s.heard s.n k r f ≤ 1 := by
  refine filter_lone s.n _ s.me fun j hj => ?_
  cases e : saidL s.heard j k r with
  | none => rfl
  | some m => exact absurd (lonely_mem h (saidL_kind e).2.2) hj
theorem lonely_most {s : St} (o : Ok s) (h : lonely s = true) (k : Kind) (r : Nat) (f : Nat → Bool) : most s k r f = false := by
  unfold most
  rw [votes_eq]
  have h1 := lonely_cnt h k r f
  have h2 := enough3 o.n4
  exact decide_eq_false (by omega)
theorem lonely_loud {s : St} (h : lonely s = true) (r : Nat) : loud s.heard s.n r ≤ 1 := by
  refine filter_lone s.n _ s.me fun j hj => ?_
  cases e : anyIn s.heard r j with
  | false => rfl
  | true =>
    obtain ⟨m, hm, _⟩ := anyIn_iff.mp e
    exact absurd (lonely_mem h hm) hj
theorem lonely_ahead {s : St} (o : Ok s) (h : lonely s = true) : ahead s = none := ahead_none_iff.mpr fun r _ _ => by
  have h1 := lonely_loud h r
  have h2 := liars1 o.n4
  omega
theorem lonely_hear {s : St} (h : lonely s = true) (m : Msg) : lonely (hear s s.me m) = true := by
  unfold lonely
  rw [(hear_fields s s.me m).2.1, List.all_eq_true]
  intro x hx
  rcases hear_mem hx with hx | rfl
  · exact beq_iff_eq.mpr (lonely_mem h hx)
  · exact beq_self_eq_true _

theorem lonely_settled {s : St} (o : Ok s) (h : lonely s = true) : settled s = none := by
  unfold settled
  rw [List.findSome?_eq_none_iff]
  intro r _
  cases offerOf s r with
  | none => rfl
  | some m =>
    show (if m.value ≠ 0 ∧ most s .second r (fun v => v == m.value) = true then some m.value else none) = none
    rw [if_neg]
    rintro ⟨_, q⟩
    rw [lonely_most o h] at q
    cases q

/-- what a member says in its own round changes nothing above it -/
theorem loud_hear_ne {s : St} {w : Nat} {m : Msg} {r : Nat} (hw : w < s.n) (h : r ≠ m.round) : loud (hear s w m).heard s.n r = loud s.heard s.n r := by
  rcases hear_cases s w m with ⟨_, e⟩ | ⟨_, e⟩
  · rw [e]
  · rw [e]
    show loud (s.heard ++ [(w, m)]) s.n r = _
    rw [loud_snoc hw, if_neg (fun z => h z.1), Nat.add_zero]
theorem ahead_says {s t : St} (o : Ok s) (k : Kind) (v : Nat) (q : Option Nat) (h : ∀ r, s.round < r → r < 64 → loud s.heard s.n r ≤ liars s.n)
    (e1 : t.heard = (says s k v q).1.heard) (e2 : t.n = s.n) (e3 : t.round = s.round) : ahead t = none := ahead_none_iff.mpr fun r h1 h2 => by
  rw [e1, e2]
  rw [e3] at h1
  show loud (hear s s.me _).heard s.n r ≤ liars s.n
  rw [loud_hear_ne o.me (show r ≠ s.round by omega)]
  exact h r h1 h2

theorem may_hear (s : St) (w : Nat) (m : Msg) (k : Nat) : may (hear s w m) k = may s k := by
  obtain ⟨_, _, _, _, _, f, _, _, _, k', _⟩ := hear_fields s w m
  unfold may
  rw [f, k']
theorem may_at (s : St) (a : At) (k : Nat) : may { s with at_ := a } k = may s k := rfl
theorem may_once (s : St) (j k : Nat) : may (once s j) k = (may s k && !(k == j)) := by
  unfold may once
  simp only [List.contains_cons]
  cases h : ((k, s.round) == (j, s.round)) with
  | true =>
    have e : (k, s.round) = (j, s.round) := beq_iff_eq.mp h
    have e' : k = j := congrArg Prod.fst e
    subst e'
    simp
  | false =>
    have e : (k == j) = false := by
      cases q : (k == j) with
      | false => rfl
      | true =>
        rw [beq_iff_eq.mp q] at h
        simp at h
    rw [e]
    simp
theorem pRank_says {s s' : St} (k : Kind) (v : Nat) (a : At) (h : ∀ j, may s' j = may s j) : pRank { (says s' k v none).1 with at_ := a } = pAt a + (b2n (may s 4) + (b2n (may s 2) + b2n (may s 3))) := by
  unfold pRank
  have e : ∀ j, may { (says s' k v none).1 with at_ := a } j = may s j := fun j => by
    rw [may_at]
    exact (may_hear s' s'.me _ j).trans (h j)
  rw [e, e, e]

theorem not_lonely_rank {s : St} (h : lonely s = false) : rank s = 2 + ((if (ahead s).isNone = true then 0 else 6) + pRank s) := by
  unfold rank
  rw [h, if_neg Bool.false_ne_true]
theorem rank_lt_of {s t : St} (hs : lonely s = false) (ht : ahead t = none) (hp : pRank t < (if (ahead s).isNone = true then 0 else 6) + pRank s) : rank t < rank s := by
  rw [not_lonely_rank hs]
  cases c : lonely t with
  | true => have := rank_lonely c; omega
  | false =>
    rw [not_lonely_rank c, ht, if_pos (show (none : Option Nat).isNone = true from rfl)]
    omega

/-- in a lonely state: only an own offer is voted on -/
theorem lonely_rule {s t : St} {l : List Act} (o : Ok s) (h : lonely s = true) (e : rule s = some (t, l)) : rank t < rank s := by
  have hr3 : r3 s = some (t, l) → rank t < rank s := fun e => by
    unfold r3 at e
    split at e
    · rename_i c
      have e1 : _ = t := congrArg Prod.fst (Option.some.inj e)
      have hl : lonely t = true := by
        rw [← e1]
        exact lonely_hear h _
      have ha : t.at_ = .first := by rw [← e1]; rfl
      unfold rank
      rw [if_pos h, if_pos hl, if_pos c.1, if_neg (by rw [ha]; decide)]
      decide
    · cases e
  rcases rule_cases e with e | ⟨_, e⟩ | ⟨_, _, e | e | e | e | e⟩
  · unfold r1 at e
    rw [lonely_settled o h] at e
    cases e
  · unfold r2 at e
    rw [lonely_ahead o h] at e
    cases e
  · exact hr3 e
  · unfold r4 at e
    rw [if_neg (fun z => by rw [lonely_most o h] at z; exact Bool.false_ne_true z.2.2.2)] at e
    cases e
  · unfold r5 at e
    rw [if_neg (fun z => by rw [lonely_most o h] at z; exact Bool.false_ne_true z.2)] at e
    cases e
  · unfold r6 at e
    rw [if_neg (fun z => by rw [lonely_most o h] at z; exact Bool.false_ne_true z.2.2)] at e
    cases e
  · unfold r7 at e
    rw [if_neg (fun z => by rw [lonely_most o h] at z; exact Bool.false_ne_true z.2)] at e
    cases e

theorem rank_rule {s t : St} {l : List Act} (o : Ok s) (e : rule s = some (t, l)) : rank t < rank s := by
  cases h : lonely s with
  | true => exact lonely_rule o h e
  | false =>
  rcases rule_cases e with e | ⟨_, e⟩ | ⟨_, n2, e⟩
  · unfold r1 at e
    cases q : settled s with
    | none => rw [q] at e; cases e
    | some v =>
      rw [q] at e
      have e1 : (starts (fresh s v) 0).1 = t := congrArg Prod.fst (Option.some.inj e)
      have hl : lonely t = true := by
        rw [← e1]
        unfold starts
        simp only
        split
        · exact lonely_hear (s := { fresh s v with round := 0, at_ := .offering }) rfl _
        · rfl
      have h1 := rank_lonely hl
      rw [not_lonely_rank h]
      omega
  · unfold r2 at e
    cases q : ahead s with
    | none => rw [q] at e; cases e
    | some r =>
      rw [q] at e
      have e1 : (starts s r).1 = t := congrArg Prod.fst (Option.some.inj e)
      obtain ⟨a1, a2, a3, a4⟩ := ahead_some q
      have ht : ahead t = none := by
        rw [← e1]
        unfold starts
        simp only
        split
        · refine ahead_says (s := { s with round := r, at_ := .offering }) ⟨o.n4, o.n32, o.me, o.mine, o.ht, a1, o.hw, o.lk, o.gd, fun x hx => ?_⟩ _ _ _ a4 rfl ?_ ?_
          · have := o.dn x hx
            show x.2 ≤ r
            omega
          · exact (hear_fields _ _ _).1
          · exact (hear_fields _ _ _).2.2.2.2.2.1
        · exact ahead_none_iff.mpr a4
      have hp := pRank_le t
      refine rank_lt_of h ht ?_
      rw [q, if_neg (show ¬ (some r).isNone = true from Bool.false_ne_true)]
      omega
  · have na : ahead s = none := by
      unfold r2 at n2
      cases q : ahead s with
      | none => rfl
      | some r => rw [q] at n2; cases n2
    have al := ahead_none_iff.mp na
    have fin : ∀ {t}, ahead t = none → pRank t < pRank s → rank t < rank s := fun {t} h1 h2 => by
      refine rank_lt_of h h1 ?_
      rw [na, if_pos (show (none : Option Nat).isNone = true from rfl)]
      omega
    have aSay : ∀ (s' : St) (k : Kind) (v : Nat) (a : At), Ok s' → s'.heard = s.heard → s'.n = s.n → s'.round = s.round → ahead { (says s' k v none).1 with at_ := a } = none := fun s' k v a o' e1 e2 e3 => by
      refine ahead_says o' k v none (fun r h1 h2 => ?_) rfl ?_ ?_
      · rw [e1, e2]
        rw [e3] at h1
        exact al r h1 h2
      · exact (hear_fields _ _ _).1
      · exact (hear_fields _ _ _).2.2.2.2.2.1
    have hs2 : pRank s = pAt s.at_ + (b2n (may s 4) + (b2n (may s 2) + b2n (may s 3))) := rfl
    rcases e with e | e | e | e | e
    · unfold r3 at e
      split at e
      · rename_i c
        have e1 : _ = t := congrArg Prod.fst (Option.some.inj e)
        rw [← e1]
        refine fin (aSay s _ _ _ o rfl rfl rfl) ?_
        have := pRank_says (s := s) (s' := s) .first (if ofv s ≠ 0 ∧ free s (ofr s) (ofv s) = true then ofv s else 0) .first (fun _ => rfl)
        have e2 : pAt s.at_ = 2 := by rw [c.1]; rfl
        show pRank { (says s .first _ none).1 with at_ := .first } < _
        rw [this, hs2, e2]
        show 1 + _ < 2 + _
        omega
      · cases e
    · have o0 := o
      unfold r4 at e
      split at e
      · rename_i c
        have m4 : b2n (may s 4) = 1 := by rw [c.2.1]; rfl
        simp only at e
        split at e
        · rename_i ca
          have e1 : _ = t := congrArg Prod.fst (Option.some.inj e)
          rw [← e1]
          have og : Ok { ({ once s 4 with good := some (ofv s, s.round) } : St) with locked := some (ofv s, s.round) } := by
            have h4 := o.once 4
            exact ⟨h4.n4, h4.n32, h4.me, h4.mine, h4.ht, h4.rd, h4.hw, fun g q => by cases q; exact c.2.2.1, fun g q => by cases q; exact c.2.2.1, h4.dn⟩
          refine fin (aSay _ _ _ _ og rfl rfl rfl) ?_
          have := pRank_says (s := once s 4) (s' := { ({ once s 4 with good := some (ofv s, s.round) } : St) with locked := some (ofv s, s.round) }) .second (ofv s) .second (fun _ => rfl)
          show pRank { (says _ .second _ none).1 with at_ := .second } < _
          rw [this, hs2, may_once, may_once, may_once, m4]
          have e2 : pAt s.at_ = 1 := by rw [ca]; rfl
          rw [e2]
          have : b2n (may s 4 && !(4 == 4)) = 0 := by
            have : (may s 4 && !((4 : Nat) == 4)) = false := by simp
            rw [this]; rfl
          rw [this]
          have h2 : b2n (may s 2 && !((2 : Nat) == 4)) = b2n (may s 2) := by simp
          have h3 : b2n (may s 3 && !((3 : Nat) == 4)) = b2n (may s 3) := by simp
          rw [h2, h3]
          show 0 + _ < 1 + _
          omega
        · have e1 : _ = t := congrArg Prod.fst (Option.some.inj e)
          rw [← e1]
          refine fin (ahead_none_iff.mpr al) ?_
          show pAt s.at_ + (b2n (may (once s 4) 4) + (b2n (may (once s 4) 2) + b2n (may (once s 4) 3))) < _
          rw [hs2, may_once, may_once, may_once, m4]
          have : b2n (may s 4 && !(4 == 4)) = 0 := by
            have : (may s 4 && !((4 : Nat) == 4)) = false := by simp
            rw [this]; rfl
          rw [this]
          have h2 : b2n (may s 2 && !((2 : Nat) == 4)) = b2n (may s 2) := by simp
          have h3 : b2n (may s 3 && !((3 : Nat) == 4)) = b2n (may s 3) := by simp
          rw [h2, h3]
          omega
      · cases e
    · unfold r5 at e
      split at e
      · rename_i c
        have e1 : _ = t := congrArg Prod.fst (Option.some.inj e)
        rw [← e1]
        refine fin (aSay s _ _ _ o rfl rfl rfl) ?_
        have := pRank_says (s := s) (s' := s) .second 0 .second (fun _ => rfl)
        have e2 : pAt s.at_ = 1 := by rw [c.1]; rfl
        show pRank { (says s .second _ none).1 with at_ := .second } < _
        rw [this, hs2, e2]
        show 0 + _ < 1 + _
        omega
      · cases e
    · unfold r6 at e
      split at e
      · rename_i c
        have e1 : _ = t := congrArg Prod.fst (Option.some.inj e)
        rw [← e1]
        refine fin (ahead_none_iff.mpr al) ?_
        show pAt s.at_ + (b2n (may (once s 2) 4) + (b2n (may (once s 2) 2) + b2n (may (once s 2) 3))) < _
        rw [hs2, may_once, may_once, may_once]
        have m2 : b2n (may s 2) = 1 := by rw [c.2.1]; rfl
        have : b2n (may s 2 && !(2 == 2)) = 0 := by
          have : (may s 2 && !((2 : Nat) == 2)) = false := by simp
          rw [this]; rfl
        have h2 : b2n (may s 4 && !((4 : Nat) == 2)) = b2n (may s 4) := by simp
        have h3 : b2n (may s 3 && !((3 : Nat) == 2)) = b2n (may s 3) := by simp
        rw [this, h2, h3, m2]
        omega
      · cases e
    · unfold r7 at e
      split at e
      · rename_i c
        have e1 : _ = t := congrArg Prod.fst (Option.some.inj e)
        rw [← e1]
        refine fin (ahead_none_iff.mpr al) ?_
        show pAt s.at_ + (b2n (may (once s 3) 4) + (b2n (may (once s 3) 2) + b2n (may (once s 3) 3))) < _
        rw [hs2, may_once, may_once, may_once]
        have m2 : b2n (may s 3) = 1 := by rw [c.1]; rfl
        have : b2n (may s 3 && !(3 == 3)) = 0 := by
          have : (may s 3 && !((3 : Nat) == 3)) = false := by simp
          rw [this]; rfl
        have h2 : b2n (may s 4 && !((4 : Nat) == 3)) = b2n (may s 4) := by simp
        have h3 : b2n (may s 2 && !((2 : Nat) == 3)) = b2n (may s 2) := by simp
        rw [this, h2, h3, m2]
        omega
      · cases e

/-! ### a run of the rules comes to an end -/
theorem settle_none {s : St} (h : rule s = none) : ∀ k, settle k s = (s, [])
  | 0 => rfl
  | k + 1 => by
    show (match rule s with
      | none => (s, [])
      | some (t, l) => let x := settle k t; (x.1, l ++ x.2)) = (s, [])
    rw [h]
theorem settle_some {s t : St} {l : List Act} (h : rule s = some (t, l)) (k : Nat) : settle (k + 1) s = ((settle k t).1, l ++ (settle k t).2) := by
  show (match rule s with
      | none => (s, [])
      | some (t, l) => let x := settle k t; (x.1, l ++ x.2)) = _
  rw [h]
theorem settle_ends : ∀ (k : Nat) (s : St), Ok s → rank s < k → rule (settle k s).1 = none ∧ Ok (settle k s).1
  | 0, s, _, h => by omega
  | k + 1, s, o, h => by
    cases e : rule s with
    | none => rw [settle_none e]; exact ⟨e, o⟩
    | some x =>
      obtain ⟨t, l⟩ := x
      rw [settle_some e]
      have := rank_rule o e
      exact settle_ends k t (o.rule e) (by omega)
theorem settle_small : ∀ (k : Nat) (s : St), (settle k s).1.heard.length ≤ s.heard.length + k ∧ (settle k s).1.decided.length ≤ s.decided.length + k ∧ (settle k s).2.length ≤ 2 * k
  | 0, s => ⟨Nat.le_refl _, Nat.le_refl _, Nat.le_refl _⟩
  | k + 1, s => by
    cases e : rule s with
    | none => rw [settle_none e]; exact ⟨(by show s.heard.length ≤ _; omega), (by show s.decided.length ≤ _; omega), by simp⟩
    | some x =>
      obtain ⟨t, l⟩ := x
      rw [settle_some e]
      obtain ⟨a, b, c⟩ := settle_small k t
      obtain ⟨a', b', c'⟩ := small_rule e
      refine ⟨by show (settle k t).1.heard.length ≤ _; omega, by show (settle k t).1.decided.length ≤ _; omega, ?_⟩
      show (l ++ (settle k t).2).length ≤ _
      rw [List.length_append]
      omega
end Ag
/-! What holds of a member between two calls; what a call does to it; lines of calls. Plain Lean. -/
namespace Ag
open Md13

theorem hear_begun (s : St) (w : Nat) (m : Msg) : (hear s w m).begun = s.begun := (hear_fields s w m).2.2.2.1
theorem starts_begun (s : St) (r : Nat) : (starts s r).1.begun = s.begun := by
  unfold starts
  simp only
  split
  · exact hear_begun _ _ _
  · rfl
theorem rule_begun {s t : St} {l : List Act} (e : rule s = some (t, l)) : t.begun = s.begun := by
  rcases rule_cases e with e | ⟨_, e⟩ | ⟨_, _, e | e | e | e | e⟩
  · unfold r1 at e
    cases q : settled s with
    | none => rw [q] at e; cases e
    | some v =>
      rw [q] at e
      have e1 : (starts (fresh s v) 0).1 = t := congrArg Prod.fst (Option.some.inj e)
      rw [← e1]
      exact starts_begun _ _
  · unfold r2 at e
    cases q : ahead s with
    | none => rw [q] at e; cases e
    | some r =>
      rw [q] at e
      have e1 : (starts s r).1 = t := congrArg Prod.fst (Option.some.inj e)
      rw [← e1]
      exact starts_begun _ _
  · unfold r3 at e
    split at e
    · have e1 : _ = t := congrArg Prod.fst (Option.some.inj e)
      rw [← e1]
      exact hear_begun s s.me _
    · cases e
  · unfold r4 at e
    split at e
    · simp only at e
      split at e
      · have e1 : _ = t := congrArg Prod.fst (Option.some.inj e)
        rw [← e1]
        exact hear_begun _ _ _
      · cases e; rfl
    · cases e
  · unfold r5 at e
    split at e
    · have e1 : _ = t := congrArg Prod.fst (Option.some.inj e)
      rw [← e1]
      exact hear_begun s s.me _
    · cases e
  · unfold r6 at e
    split at e
    · cases e; rfl
    · cases e
  · unfold r7 at e
    split at e
    · cases e; rfl
    · cases e
theorem settle_begun : ∀ (k : Nat) (s : St), (settle k s).1.begun = s.begun
  | 0, _ => rfl
  | k + 1, s => by
    cases e : rule s with
    | none => rw [settle_none e]
    | some x =>
      obtain ⟨t, l⟩ := x
      rw [settle_some e]
      exact (settle_begun k t).trans (rule_begun e)
theorem ite_none {α : Type} {c : Prop} [Decidable c] {x : α} (h : (if c then some x else none) = none) : ¬ c := fun z => by rw [if_pos z] at h; cases h
theorem or_none {a b : Step} (h : a.or b = none) : a = none ∧ b = none := by
  cases a with
  | none => exact ⟨rfl, h⟩
  | some x => cases h
theorem rule_none {s : St} (h : rule s = none) : r1 s = none ∧ r2 s = none ∧ r3 s = none ∧ r4 s = none ∧ r5 s = none ∧ r6 s = none ∧ r7 s = none := by
  rw [rule_parts] at h
  obtain ⟨h1, h⟩ := or_none h
  obtain ⟨h2, h⟩ := or_none h
  obtain ⟨h3, h⟩ := or_none h
  obtain ⟨h4, h⟩ := or_none h
  obtain ⟨h5, h⟩ := or_none h
  obtain ⟨h6, h⟩ := or_none h
  exact ⟨h1, h2, h3, h4, h5, h6, h⟩
/-- no rule asks what a member would offer -/
theorem rule_mine {s : St} (h : rule s = none) (v : Nat) : rule { s with mine := v } = none := by
  obtain ⟨h1, h2, h3, h4, h5, h6, h7⟩ := rule_none h
  have e1 : r1 { s with mine := v } = none := by
    unfold r1 at h1 ⊢
    have q : settled { s with mine := v } = settled s := rfl
    rw [q]
    cases z : settled s with
    | none => rfl
    | some x => rw [z] at h1; cases h1
  have e2 : r2 { s with mine := v } = none := by
    unfold r2 at h2 ⊢
    have q : ahead { s with mine := v } = ahead s := rfl
    rw [q]
    cases z : ahead s with
    | none => rfl
    | some x => rw [z] at h2; cases h2
  have e3 : r3 { s with mine := v } = none := by
    unfold r3 at h3 ⊢
    exact if_neg (ite_none h3)
  have e4 : r4 { s with mine := v } = none := by
    unfold r4 at h4 ⊢
    refine if_neg fun z => ?_
    have z' : s.at_ ≠ .offering ∧ may s 4 = true ∧ ofv s ≠ 0 ∧ most s .first s.round (fun x => x == ofv s) = true := z
    rw [if_pos z'] at h4
    simp only at h4
    split at h4 <;> cases h4
  have e5 : r5 { s with mine := v } = none := by
    unfold r5 at h5 ⊢
    exact if_neg (ite_none h5)
  have e6 : r6 { s with mine := v } = none := by
    unfold r6 at h6 ⊢
    exact if_neg (ite_none h6)
  have e7 : r7 { s with mine := v } = none := by
    unfold r7 at h7 ⊢
    exact if_neg (ite_none h7)
  rw [rule_parts, e1, e2, e3, e4, e5, e6, e7]
  rfl

/-! ### between two calls -/
structure Good (s : St) (i : Nat) : Prop where
  ok : Ok s
  quiet : s.begun = true → rule s = none
  cold : s.begun = false → s.done = []
  h1 : s.heard.length ≤ 65 * i
  h2 : s.decided.length ≤ 64 * i
theorem Good.up {s : St} {i : Nat} (g : Good s i) : Good s (i + 1) := ⟨g.ok, g.quiet, g.cold, by have := g.h1; omega, by have := g.h2; omega⟩
theorem between_iff {z : Int} {a b : Nat} : between z a b = true ↔ (a : Int) ≤ z ∧ z ≤ (b : Int) := by
  unfold between
  rw [Bool.and_eq_true, decide_eq_true_eq, decide_eq_true_eq]
theorem between_false {z : Int} {a b : Nat} : between z a b = false ↔ ¬ ((a : Int) ≤ z ∧ z ≤ (b : Int)) := by
  rw [← between_iff]
  cases between z a b <;> simp
theorem bt {z : Int} {a b : Nat} (h : ¬ between z a b = false) : (a : Int) ≤ z ∧ z ≤ (b : Int) := by
  cases q : between z a b with
  | true => exact between_iff.mp q
  | false => exact absurd q h
/-- behind a run -/
theorem Good.run {x : St × List Act} {i : Nat} (o : Ok x.1) (b : x.1.begun = true) (h1 : x.1.heard.length ≤ 65 * i + 1) (h2 : x.1.decided.length ≤ 64 * i) : Good (run x).1 (i + 1) := by
  have hr := rank_le x.1
  obtain ⟨e1, e2⟩ := settle_ends 64 x.1 o (by omega)
  obtain ⟨s1, s2, s3⟩ := settle_small 64 x.1
  refine ⟨e2, fun _ => e1, fun z => ?_, ?_, ?_⟩
  · have := settle_begun 64 x.1
    have z' : (settle 64 x.1).1.begun = false := z
    rw [this, b] at z'
    cases z'
  · show (settle 64 x.1).1.heard.length ≤ _
    omega
  · show (settle 64 x.1).1.decided.length ≤ _
    omega
theorem made_ok {n me mine : Nat} (h1 : 4 ≤ n) (h2 : n ≤ 32) (h3 : me < n) (h4 : mine ≠ 0) : Ok (made n me mine) :=
  ⟨h1, h2, h3, h4, rfl, by show 0 < 64; decide, fun x hx => (nomatch hx), fun _ e => (nomatch e), fun _ e => (nomatch e), fun x hx => (nomatch hx)⟩
theorem Ok.mineAt {s : St} (h : Ok s) {v : Nat} (hv : v ≠ 0) : Ok { s with mine := v } := ⟨h.n4, h.n32, h.me, hv, h.ht, h.rd, h.hw, h.lk, h.gd, h.dn⟩
theorem Ok.begunAt {s : St} (h : Ok s) (b : Bool) : Ok { s with begun := b } := ⟨h.n4, h.n32, h.me, h.mine, h.ht, h.rd, h.hw, h.lk, h.gd, h.dn⟩
theorem first_len (s : St) (v : Nat) : (first s v).1.heard.length ≤ s.heard.length + 1 ∧ (first s v).1.decided = s.decided ∧ (first s v).1.begun = s.begun ∧ (first s v).2.length = 1 :=
  ⟨hear_len s s.me _, (hear_fields s s.me _).2.2.2.2.2.2.2.2.2.2, hear_begun s s.me _, rfl⟩
theorem second_len (s : St) (v : Nat) : (second s v).1.heard.length ≤ s.heard.length + 1 ∧ (second s v).1.decided = s.decided ∧ (second s v).1.begun = s.begun ∧ (second s v).2.length = 1 :=
  ⟨hear_len s s.me _, (hear_fields s s.me _).2.2.2.2.2.2.2.2.2.2, hear_begun s s.me _, rfl⟩
/-- a message of another member, or none -/
def msgOf (s : St) (who : Int) (l : List Int) : Option Msg := if between who 0 (s.n - 1) = false ∨ who = (s.me : Int) then none else read l
theorem read_some {k h r v q : Int} {m : Msg} (e : read [k, h, r, v, q] = some m) : (1 ≤ k ∧ k ≤ 3) ∧ (1 ≤ h ∧ h ≤ 1000000) ∧ (0 ≤ r ∧ r ≤ 63) ∧ ((k = 1 ∧ 1 ≤ v ∧ v ≤ 2147483647 ∧ (q = -1 ∨ (0 ≤ q ∧ q ≤ 63))) ∨ (k ≠ 1 ∧ 0 ≤ v ∧ v ≤ 2147483647 ∧ q = -1)) ∧
    m = ⟨if k = 1 then .offer else if k = 2 then .first else .second, h.toNat, r.toNat, v.toNat, if q = -1 then none else some q.toNat⟩ := by
  have e' : (if between k 1 3 = false ∨ between h 1 HEIGHTS = false ∨ between r 0 (ROUNDS - 1) = false ∨ between v 0 MOST = false ∨ (q ≠ -1 ∧ (k ≠ 1 ∨ between q 0 (ROUNDS - 1) = false)) ∨ (k = 1 ∧ v = 0) then none
    else some (⟨if k = 1 then .offer else if k = 2 then .first else .second, h.toNat, r.toNat, v.toNat, if q = -1 then none else some q.toNat⟩ : Msg)) = some m := e
  split at e'
  · cases e'
  · rename_i c
    refine ⟨?_, ?_, ?_, ?_, (Option.some.inj e').symm⟩ <;> clear e e' <;> simp only [not_or] at c <;> obtain ⟨c1, c2, c3, c4, c5, c6⟩ := c
    · obtain ⟨a, b⟩ := bt c1
      exact ⟨by omega, by omega⟩
    · obtain ⟨a, b⟩ := bt c2
      have b' : h ≤ (1000000 : Int) := b
      exact ⟨by omega, by omega⟩
    · obtain ⟨a, b⟩ := bt c3
      have b' : r ≤ (63 : Int) := b
      exact ⟨by omega, by omega⟩
    · obtain ⟨hv1, hv2⟩ := bt c4
      have hv1 : 0 ≤ v := hv1
      have hv2 : v ≤ (2147483647 : Int) := hv2
      by_cases k1 : k = 1
      · refine .inl ⟨k1, by have : ¬ v = 0 := fun z => c6 ⟨k1, z⟩; omega, hv2, ?_⟩
        by_cases q1 : q = -1
        · exact .inl q1
        · obtain ⟨a, b⟩ := bt (fun z => c5 ⟨q1, .inr z⟩)
          exact .inr ⟨a, b⟩
      · refine .inr ⟨k1, hv1, hv2, ?_⟩
        by_cases q1 : q = -1
        · exact q1
        · exact absurd ⟨q1, .inl k1⟩ c5
theorem read_isSome {k h r v q : Int} : (read [k, h, r, v, q]).isSome = true ↔ (1 ≤ k ∧ k ≤ 3) ∧ (1 ≤ h ∧ h ≤ 1000000) ∧ (0 ≤ r ∧ r ≤ 63) ∧ ((k = 1 ∧ 1 ≤ v ∧ v ≤ 2147483647 ∧ (q = -1 ∨ (0 ≤ q ∧ q ≤ 63))) ∨ (k ≠ 1 ∧ 0 ≤ v ∧ v ≤ 2147483647 ∧ q = -1)) := by
  constructor
  · intro e
    obtain ⟨m, hm⟩ := Option.isSome_iff_exists.mp e
    obtain ⟨a, b, c, d, _⟩ := read_some hm
    exact ⟨a, b, c, d⟩
  · rintro ⟨a, b, c, d⟩
    show (if between k 1 3 = false ∨ between h 1 HEIGHTS = false ∨ between r 0 (ROUNDS - 1) = false ∨ between v 0 MOST = false ∨ (q ≠ -1 ∧ (k ≠ 1 ∨ between q 0 (ROUNDS - 1) = false)) ∨ (k = 1 ∧ v = 0) then none
    else some (⟨if k = 1 then .offer else if k = 2 then .first else .second, h.toNat, r.toNat, v.toNat, if q = -1 then none else some q.toNat⟩ : Msg)).isSome = true
    rw [if_neg]
    · rfl
    · simp only [between_false]
      rintro (z | z | z | z | ⟨z1, z⟩ | z)
      · exact z a
      · exact z b
      · exact z c
      · refine z ⟨?_, ?_⟩
        · show (0 : Int) ≤ v; omega
        · show v ≤ (2147483647 : Int); omega
      · rcases d with ⟨d1, _, _, d2⟩ | ⟨d1, _, _, d2⟩
        · rcases z with z | z
          · exact z d1
          · rcases d2 with d2 | d2
            · exact z1 d2
            · exact z d2
        · exact z1 d2
      · omega
theorem Good.answer {s : St} {i : Nat} (g : Good s i) (hi : i ≤ 10000) (q : Call) : Good (answer s q).1 (i + 1) := by
  cases q with
  | new_ n me mine =>
    show Good (if between n 4 MEMBERS = false ∨ between me 0 (n.toNat - 1) = false ∨ between mine 1 MOST = false then (s, only (-1)) else (made n.toNat me.toNat mine.toNat, only 0)).1 (i + 1)
    split
    · exact g.up
    · rename_i c
      simp only [between_false, not_or, Decidable.not_not] at c
      obtain ⟨⟨c1, c2⟩, ⟨c3, c4⟩, ⟨c5, c6⟩⟩ := c
      have c2' : n ≤ (32 : Int) := c2
      refine ⟨made_ok (by omega) (by omega) (by omega) (by omega), fun z => (nomatch z), fun _ => rfl, Nat.zero_le _, Nat.zero_le _⟩
  | offers mine =>
    show Good (if between mine 1 MOST = false then (s, only (-1)) else ({ s with mine := mine.toNat }, only 0)).1 (i + 1)
    split
    · exact g.up
    · rename_i c
      simp only [between_false, Decidable.not_not] at c
      refine ⟨g.ok.mineAt (by omega), fun z => rule_mine (g.quiet z) _, g.cold, by have := g.h1; show s.heard.length ≤ _; omega, by have := g.h2; show s.decided.length ≤ _; omega⟩
  | begin_ =>
    show Good (if s.begun = true then (s, only (-3)) else acts (Md13.run (starts { s with begun := true } 0))).1 (i + 1)
    split
    · exact g.up
    · rename_i c
      have c' : s.begun = false := by cases z : s.begun with
        | true => exact absurd z c
        | false => rfl
      obtain ⟨l1, l2, l3⟩ := starts_len { s with begun := true } 0
      refine Good.run (x := starts { s with begun := true } 0) ((g.ok.begunAt true).starts (by decide) fun x hx => ?_) (starts_begun _ _) ?_ ?_
      · have hd : s.done = [] := g.cold c'
        have hx' : x ∈ s.done := hx
        rw [hd] at hx'
        cases hx'
      · have := g.h1
        have l1' : (starts { s with begun := true } 0).1.heard.length ≤ s.heard.length + 1 := l1
        omega
      · rw [l2]
        exact g.h2
  | hears who m =>
    show Good (if s.begun = false then (s, only (-3)) else if between who 0 (s.n - 1) = false ∨ who = (s.me : Int) then (s, only (-1)) else match read m with
      | none => (s, only (-1))
      | some m => if HEIGHTS ≤ s.height then (s, only (-4)) else acts (Md13.hears s who.toNat m)).1 (i + 1)
    split
    · exact g.up
    · rename_i cb
      have cb' : s.begun = true := by cases z : s.begun with
        | true => rfl
        | false => exact absurd z cb
      split
      · exact g.up
      · rename_i c
        simp only [between_false, not_or, Decidable.not_not] at c
        split
        · exact g.up
        · rename_i m' hm
          split
          · exact g.up
          · show Good (if m'.height ≠ s.height then (s, []) else Md13.run (hear s who.toNat m', [])).1 (i + 1)
            split
            · exact g.up
            · have hn := g.ok.n4
              have hwho : who.toNat < s.n := by omega
              have hr : m'.round < 64 := by
                rcases m with _ | ⟨k, _ | ⟨h, _ | ⟨r, _ | ⟨v, _ | ⟨q, _ | _⟩⟩⟩⟩⟩ <;> first | (cases hm; done) | skip
                obtain ⟨_, _, h3, _, rfl⟩ := read_some hm
                show r.toNat < 64
                omega
              refine Good.run (x := (hear s who.toNat m', [])) (g.ok.hear hwho hr) ((hear_begun _ _ _).trans cb') ?_ ?_
              · have h1 := hear_len s who.toNat m'
                have := g.h1
                show (hear s who.toNat m').heard.length ≤ _
                omega
              · show (hear s who.toNat m').decided.length ≤ _
                rw [(hear_fields s who.toNat m').2.2.2.2.2.2.2.2.2.2]
                exact g.h2
  | late p h r =>
    show Good (if s.begun = false then (s, only (-3)) else if between p 1 3 = false ∨ between h 1 HEIGHTS = false ∨ between r 0 (ROUNDS - 1) = false then (s, only (-1)) else if HEIGHTS ≤ s.height then (s, only (-4)) else acts (Md13.late s p.toNat h.toNat r.toNat)).1 (i + 1)
    split
    · exact g.up
    · rename_i cb
      have cb' : s.begun = true := by cases z : s.begun with
        | true => rfl
        | false => exact absurd z cb
      split
      · exact g.up
      · split
        · exact g.up
        · show Good (Md13.late s p.toNat h.toNat r.toNat).1 (i + 1)
          have hh1 := g.h1
          have hh2 := g.h2
          unfold Md13.late
          by_cases c0 : h.toNat ≠ s.height ∨ r.toNat ≠ s.round
          · rw [if_pos c0]
            exact g.up
          · rw [if_neg c0]
            have er : r.toNat = s.round := by
              by_cases z : r.toNat = s.round
              · exact z
              · exact absurd (Or.inr z) c0
            split
            · obtain ⟨l1, l2, l3, _⟩ := first_len s 0
              exact Good.run (x := first s 0) (g.ok.first 0) (l3.trans cb') (by omega) (by rw [l2]; exact hh2)
            · split
              · obtain ⟨l1, l2, l3, _⟩ := second_len s 0
                exact Good.run (x := second s 0) (g.ok.second 0) (l3.trans cb') (by omega) (by rw [l2]; exact hh2)
              · split
                · rename_i c3
                  obtain ⟨l1, l2, _⟩ := starts_len s (r.toNat + 1)
                  have h3 : r.toNat + 1 < 64 := c3.2
                  exact Good.run (x := starts s (r.toNat + 1)) (g.ok.starts h3 fun x hx => by have := g.ok.dn x hx; omega) ((starts_begun _ _).trans cb') (by omega) (by rw [l2]; exact hh2)
                · exact g.up
  | decided h =>
    show Good (if between h 1 HEIGHTS = false then (s, only (-1)) else (s, only (match s.decided.reverse[h.toNat - 1]? with
      | some v => (v : Int)
      | none => 0))).1 (i + 1)
    split
    · exact g.up
    · exact g.up
  | state => exact g.up
end Ag
/-! Lines of calls. Plain Lean. -/
namespace Ag
theorem whole_id (c : List (List Int)) : PyMd13.whole c = c := by
  unfold PyMd13.whole
  split <;> rfl
theorem map_whole (cs : List (List (List Int))) : cs.map PyMd13.whole = cs := by
  have : PyMd13.whole = id := by
    funext c
    exact whole_id c
  rw [this, List.map_id]
/-- how many numbers a call has behind its first -/
def argc (p : Int) : Nat := if p = 1 then 3 else if p = 2 then 1 else if p = 3 then 0 else if p = 4 then 6 else if p = 5 then 3 else if p = 6 then 1 else 0
theorem shape_some {p : Int} {n k : Nat} (h : PyMd13.shape p = some (n, k)) : (1 ≤ p ∧ p ≤ 7) ∧ n = argc p ∧ k = 0 := by
  unfold PyMd13.shape at h
  unfold argc
  split at h
  · rename_i c; cases h; rw [if_pos c]; exact ⟨by omega, rfl, rfl⟩
  · rename_i c1; rw [if_neg c1]; split at h
    · rename_i c; cases h; rw [if_pos c]; exact ⟨by omega, rfl, rfl⟩
    · rename_i c2; rw [if_neg c2]; split at h
      · rename_i c; cases h; rw [if_pos c]; exact ⟨by omega, rfl, rfl⟩
      · rename_i c3; rw [if_neg c3]; split at h
        · rename_i c; cases h; rw [if_pos c]; exact ⟨by omega, rfl, rfl⟩
        · rename_i c4; rw [if_neg c4]; split at h
          · rename_i c; cases h; rw [if_pos c]; exact ⟨by omega, rfl, rfl⟩
          · rename_i c5; rw [if_neg c5]; split at h
            · rename_i c; cases h; rw [if_pos c]; exact ⟨by omega, rfl, rfl⟩
            · rename_i c6; rw [if_neg c6]; split at h
              · rename_i c; cases h; exact ⟨by omega, rfl, rfl⟩
              · cases h
/-- the first call of a line -/
theorem calls_cons {f : Nat} {p : Int} {r : List Int} {cs : List (List (List Int))} (h : PyFlat.calls PyMd13.shape f (p :: r) = some cs) :
    ∃ f' cs', (1 ≤ p ∧ p ≤ 7) ∧ argc p ≤ r.length ∧ cs = [p :: r.take (argc p)] :: cs' ∧ PyFlat.calls PyMd13.shape f' (r.drop (argc p)) = some cs' := by
  cases f with
  | zero => rw [PyFlat.calls] at h; cases h
  | succ f =>
    rw [PyFlat.calls] at h
    unfold PyFlat.call at h
    simp only at h
    cases hs : PyMd13.shape p with
    | none => rw [hs] at h; cases h
    | some x =>
      obtain ⟨n, k⟩ := x
      obtain ⟨h1, rfl, rfl⟩ := shape_some hs
      rw [hs] at h
      simp only at h
      by_cases c : r.length < argc p
      · rw [if_pos c] at h; cases h
      · rw [if_neg c] at h
        have e : PyFlat.rows 0 (r.drop (argc p)) = some ([], r.drop (argc p)) := rfl
        rw [e] at h
        simp only at h
        cases hc : PyFlat.calls PyMd13.shape f (r.drop (argc p)) with
        | none => rw [hc] at h; cases h
        | some cs' =>
          rw [hc] at h
          simp only [Option.some.injEq] at h
          exact ⟨f, cs', h1, by omega, h.symm, hc⟩
theorem calls_nil {f : Nat} {cs : List (List (List Int))} (h : PyFlat.calls PyMd13.shape f [] = some cs) : cs = [] := by
  rw [PyFlat.calls] at h
  exact (Option.some.inj h).symm
/-- a call's numbers are a call -/
theorem callOf_some {p : Int} {xs : List Int} (h1 : 1 ≤ p ∧ p ≤ 7) (h2 : xs.length = argc p) : ∃ q, Md13Neutral.callOf [p :: xs] = some q := by
  have hp : p = 1 ∨ p = 2 ∨ p = 3 ∨ p = 4 ∨ p = 5 ∨ p = 6 ∨ p = 7 := by omega
  rcases hp with rfl | rfl | rfl | rfl | rfl | rfl | rfl
  · have h2 : xs.length = 3 := h2
    match xs, h2 with
    | [a, b, c], _ => exact ⟨_, rfl⟩
  · have h2 : xs.length = 1 := h2
    match xs, h2 with
    | [a], _ => exact ⟨_, rfl⟩
  · have h2 : xs.length = 0 := h2
    match xs, h2 with
    | [], _ => exact ⟨_, rfl⟩
  · have h2 : xs.length = 6 := h2
    match xs, h2 with
    | [a, b, c, d, e, f], _ => exact ⟨_, rfl⟩
  · have h2 : xs.length = 3 := h2
    match xs, h2 with
    | [a, b, c], _ => exact ⟨_, rfl⟩
  · have h2 : xs.length = 1 := h2
    match xs, h2 with
    | [a], _ => exact ⟨_, rfl⟩
  · have h2 : xs.length = 0 := h2
    match xs, h2 with
    | [], _ => exact ⟨_, rfl⟩
/-- what a call answers, as numbers -/
def ansL (s : Md13.St) (q : Md13.Call) : List Int := (Md13.answer s q).2.value :: (Md13.answer s q).2.nums
theorem step_eq {s : Md13.St} {c : List (List Int)} {q : Md13.Call} (h : Md13Neutral.callOf c = some q) : Md13Neutral.step s c = ((Md13.answer s q).1, ansL s q) := by
  unfold Md13Neutral.step
  rw [h]
  rfl
/-- the answers of the calls from a state -/
def tellAll (s : Md13.St) (cs : List (List (List Int))) : List Int := PyFlat.told (PyFlat.played Md13Neutral.step s cs)
theorem tell_nil (s : Md13.St) : tellAll s [] = [] := rfl
theorem tell_cons {s : Md13.St} {c : List (List Int)} {cs : List (List (List Int))} {q : Md13.Call} (h : Md13Neutral.callOf c = some q) :
    tellAll s (c :: cs) = ((ansL s q).length : Int) :: (ansL s q ++ tellAll (Md13.answer s q).1 cs) := by
  unfold tellAll
  rw [PyFlat.played, step_eq h]
  unfold PyFlat.told
  rw [List.flatMap_cons]
  rfl
/-- the row's request: its calls, and what the answer is -/
theorem asked_is {L : List Int} (h : PyMd13.answers_asked L = true) : ∃ raw, PyFlat.calls PyMd13.shape L.length L = some raw ∧ raw ≠ [] ∧ raw.length ≤ 4000 ∧ (∃ c, raw.head? = some c ∧ Md13Neutral.begins c = true) ∧
    PyMd13.answers L = tellAll Md13Neutral.start raw ∧ (PyMd13.answers L).length ≤ 10000000 := by
  unfold PyMd13.answers_asked at h
  cases hc : PyFlat.calls PyMd13.shape L.length L with
  | none => rw [hc] at h; cases h
  | some raw =>
    rw [hc] at h
    simp only [Bool.and_eq_true] at h
    obtain ⟨⟨⟨⟨h1, h2⟩, h3⟩, h4⟩, h5⟩ := h
    rw [map_whole] at h4
    have ha : PyMd13.answers L = tellAll Md13Neutral.start raw := by
      unfold PyMd13.answers PyMd13.calls
      rw [hc]
      simp only
      rw [map_whole]
      rfl
    refine ⟨raw, rfl, ?_, ?_, ?_, ha, ?_⟩
    · intro z
      rw [z] at h1
      cases h1
    · unfold PyFlat.atMost at h2
      exact of_decide_eq_true h2
    · unfold Md13Neutral.asked at h4
      rw [Bool.and_eq_true] at h4
      cases hr : raw.head? with
      | none => rw [hr] at h4; cases h4.2
      | some c =>
        rw [hr] at h4
        exact ⟨c, rfl, h4.2⟩
    · unfold PyFlat.short at h5
      exact of_decide_eq_true h5
/-- the first call: a new with arguments as told -/
theorem begins_new {c : List (List Int)} (h : Md13Neutral.begins c = true) : ∃ n me mine, Md13Neutral.callOf c = some (.new_ n me mine) ∧ Md13.between n 4 32 = true ∧ Md13.between me 0 (n.toNat - 1) = true ∧ Md13.between mine 1 2147483647 = true := by
  unfold Md13Neutral.begins at h
  split at h
  · rename_i n me mine hq
    refine ⟨n, me, mine, hq, ?_⟩
    have h' : ((if Md13.between n 4 Md13.MEMBERS = false ∨ Md13.between me 0 (n.toNat - 1) = false ∨ Md13.between mine 1 Md13.MOST = false then (Md13Neutral.start, Md13.only (-1)) else (Md13.made n.toNat me.toNat mine.toNat, Md13.only 0)).2.value == 0) = true := h
    split at h'
    · cases h'
    · rename_i c
      simp only [not_or] at c
      obtain ⟨c1, c2, c3⟩ := c
      refine ⟨?_, ?_, ?_⟩
      · cases q : Md13.between n 4 32 with
        | true => rfl
        | false => exact absurd q c1
      · cases q : Md13.between me 0 (n.toNat - 1) with
        | true => rfl
        | false => exact absurd q c2
      · cases q : Md13.between mine 1 2147483647 with
        | true => rfl
        | false => exact absurd q c3
  · cases h
end Ag
namespace Ag
open PySem PySem.Spec PyProof.Rows L2
/-! ### the one rule that the layer lacks: setdefault on a dict whose keys are tuples -/
section
variable {X : Cx} {pins : List (Addr × Obj)} {σ : L2.St} {H : Hp} {s : Shared} {dd kk : Addr} {dv : Value} {z : V} {A : Around} {E : Value → Shared → Prop}
theorem d_setdT {tab : List (List Key × V)} {key : List Key} {Q : Value → Shared → Prop} (room : A.units + 1 < cLine) (I : Inv X pins σ H s) (hd : H dd = some (.dT tab)) (hk : H kk = some (.tup (key.map kV))) (rz : RelV z dv) (small : tab.length < sizeLine)
    (there : ∀ v, valV tab key = some v → ∀ (u : Value) (s' : Shared), Inv X pins σ H s' → RelV v u → Q u s') (absent : valV tab key = none → ∀ (u : Value) (s' : Shared), Inv X pins σ (upd H dd (.dT (putK tab key z))) s' → RelV z u → Q u s') :
    wpAny (model X.prog X.w) A (call (.builtin "dict.setdefault") [.ref dd, .ref kk, dv]) Q E s := by
  obtain ⟨lt, notSys, raw, same, isDict⟩ := dt_of I.hok hd
  have ltRaw : raw.length ≤ sizeLine := Paired.length same ▸ lt
  refine call_setdefault_heap (hsz := ltRaw) (knd := tupleKind (mixKind X.prog X.w)) (tupleKind_room_in1 room) (key_of I.hok hk) notSys isDict (fun p hp => ?_) (fun hn hp' isDict' but => ?_)
  · have atKey' := same.val key
    rw [hp] at atKey'
    cases hv : valV tab key with
    | some v => rw [hv] at atKey'; exact there v hv _ _ (I.tok _) atKey'
    | none => rw [hv] at atKey'; exact False.elim atKey'
  · have atKey' := same.val key
    rw [hn] at atKey'
    cases hv : valV tab key with
    | some v => rw [hv] at atKey'; exact False.elim atKey'
    | none =>
      have longer := length_putK tab key z
      refine absent hv _ _ ?_ rz
      obtain ⟨ob, ents, gen, at_, ex, dat, lst, _, nod⟩ := isDict'
      have other : ∀ c ys, H c = some (.tup ys) → upd H dd (.dT (putK tab key z)) c = some (.tup ys) := fun c ys ec => (upd_ne (ne_of ec hd (by intro q; cases q))).trans ec
      exact d_write I (by rw [hd]; exact True.intro) but ⟨ob, at_⟩ ⟨by omega, notSys, _, (same.put key hk rz).keeps other, ob, ents, gen, at_, ex, dat, lst, nod⟩
end
/-- d.setdefault(y, z), the keys tuples -/
def tDSetdT (td ty tx : TE) : TE := fun σ H Q => td σ H fun x H1 => ∃ a, x = .ref a ∧ IsD H1 a ∧ ty σ H1 fun y H2 => tx σ H2 fun z H3 => ∃ (tab : List (List Key × V)) (key : List Key) (b : Addr), H3 a = some (.dT tab) ∧ y = .ref b ∧ H3 b = some (.tup (key.map kV)) ∧ tab.length < sizeLine ∧
  (∀ v, valV tab key = some v → Q v H3) ∧ (valV tab key = none → Q z (upd H3 a (.dT (putK tab key z))))
theorem pe_dsetdT {X : Cx} {o e f : Expr} {td ty tx : TE} {apos cpos : Pos} (room : X.A.units + 1 < cLine) (ho : PE X o td) (he : PE X e ty) (hf : PE X f tx) (look : M2 X o "setdefault" apos e f cpos) :
    PE X (.Call (.Attribute o "setdefault" apos) [e, f] [] cpos) (tDSetdT td ty tx) := ⟨fun pins s σ H Q I h => by
  refine wpAny_Call_method look.base look.few look.line PySem.F.plainAttrs_dict PySem.F.slot_dict_setdefault PySem.F.type_dict_setdefault (thn (ho.run pins s σ H _ I h) ?_)
  rintro u s1 ⟨x, H1, I1, rx, a, rfl, isd, q1⟩
  cases rx
  obtain ⟨ty1, ty2, -⟩ := isD_at I1 isd
  refine ⟨ty1, ty2, ?_⟩
  rw [look.trees]
  refine Calls.callWith_builtin rfl (Calls.evalArgs_plain (Calls.spliced_cons (thn (he.run pins s1 σ H1 _ I1 q1) ?_)))
  rintro iv s2 ⟨y, H2, I2, ry, q2⟩
  refine Calls.spliced_cons (thn (hf.run pins s2 σ H2 _ I2 q2) ?_)
  rintro fv s3 ⟨z, H3, I3, rz, tab, key, b, ea, rfl, eb, small, qv, qn⟩
  refine Calls.spliced_nil ?_
  cases ry
  exact d_setdT room I3 ea eb rz small (fun v hv u s4 I4 ru => ⟨v, _, I4, ru, qv v hv⟩) fun hn u s4 I4 ru => ⟨z, _, I4, ru, qn hn⟩⟩
end Ag
namespace Ag
open PySem PySem.Spec PyProof.Rows L2
/-! ### the text by places -/
def top (i : Nat) : Stmt := PySem.Challenge.pw_agreemost_s01_answers.main.body.getD i (.Pass ⟨0, 0, 0, 0⟩)
abbrev s_H_init : Stmt := inClass (top 4) 0
theorem sc_H_init : FnScope ["self"] ["self"] (defScope s_H_init) := ⟨rfl, rfl, rfl, by decide +kernel, rfl, by decide +kernel, by decide +kernel⟩
abbrev s_H_hear : Stmt := inClass (top 4) 1
theorem sc_H_hear : FnScope ["self", "who", "kind", "number", "value", "known", "sayings", "tally", "members"] ["self", "who", "kind", "number", "value", "known"] (defScope s_H_hear) := ⟨rfl, rfl, rfl, by decide +kernel, rfl, by decide +kernel, by decide +kernel⟩
abbrev s_H_votes : Stmt := inClass (top 4) 2
theorem sc_H_votes : FnScope ["self", "kind", "number", "value"] ["self", "kind", "number", "value"] (defScope s_H_votes) := ⟨rfl, rfl, rfl, by decide +kernel, rfl, by decide +kernel, by decide +kernel⟩
abbrev s_H_voters : Stmt := inClass (top 4) 3
theorem sc_H_voters : FnScope ["self", "kind", "number"] ["self", "kind", "number"] (defScope s_H_voters) := ⟨rfl, rfl, rfl, by decide +kernel, rfl, by decide +kernel, by decide +kernel⟩
abbrev s_H_offer : Stmt := inClass (top 4) 4
theorem sc_H_offer : FnScope ["self", "number", "offerer"] ["self", "number", "offerer"] (defScope s_H_offer) := ⟨rfl, rfl, rfl, by decide +kernel, rfl, by decide +kernel, by decide +kernel⟩
abbrev s_H_loud_round : Stmt := inClass (top 4) 5
theorem sc_H_loud_round : FnScope ["self", "above", "many", "found", "number"] ["self", "above", "many"] (defScope s_H_loud_round) := ⟨rfl, rfl, rfl, by decide +kernel, rfl, by decide +kernel, by decide +kernel⟩
abbrev s_M_init : Stmt := inClass (top 14) 0
theorem sc_M_init : FnScope ["self", "many", "me", "mine"] ["self", "many", "me", "mine"] (defScope s_M_init) := ⟨rfl, rfl, rfl, by decide +kernel, rfl, by decide +kernel, by decide +kernel⟩
abbrev s_M_stand_at : Stmt := inClass (top 14) 1
theorem sc_M_stand_at : FnScope ["self", "height"] ["self", "height"] (defScope s_M_stand_at) := ⟨rfl, rfl, rfl, by decide +kernel, rfl, by decide +kernel, by decide +kernel⟩
abbrev s_M_offerer : Stmt := inClass (top 14) 2
theorem sc_M_offerer : FnScope ["self", "number"] ["self", "number"] (defScope s_M_offerer) := ⟨rfl, rfl, rfl, by decide +kernel, rfl, by decide +kernel, by decide +kernel⟩
abbrev s_M_offer : Stmt := inClass (top 14) 3
theorem sc_M_offer : FnScope ["self", "number"] ["self", "number"] (defScope s_M_offer) := ⟨rfl, rfl, rfl, by decide +kernel, rfl, by decide +kernel, by decide +kernel⟩
abbrev s_M_say : Stmt := inClass (top 14) 4
theorem sc_M_say : FnScope ["self", "kind", "value", "known"] ["self", "kind", "value", "known"] (defScope s_M_say) := ⟨rfl, rfl, rfl, by decide +kernel, rfl, by decide +kernel, by decide +kernel⟩
abbrev s_M_wait : Stmt := inClass (top 14) 5
theorem sc_M_wait : FnScope ["self", "part"] ["self", "part"] (defScope s_M_wait) := ⟨rfl, rfl, rfl, by decide +kernel, rfl, by decide +kernel, by decide +kernel⟩
abbrev s_M_begin_round : Stmt := inClass (top 14) 6
theorem sc_M_begin_round : FnScope ["self", "number"] ["self", "number"] (defScope s_M_begin_round) := ⟨rfl, rfl, rfl, by decide +kernel, rfl, by decide +kernel, by decide +kernel⟩
abbrev s_M_vote_first : Stmt := inClass (top 14) 7
theorem sc_M_vote_first : FnScope ["self", "value"] ["self", "value"] (defScope s_M_vote_first) := ⟨rfl, rfl, rfl, by decide +kernel, rfl, by decide +kernel, by decide +kernel⟩
abbrev s_M_vote_second : Stmt := inClass (top 14) 8
theorem sc_M_vote_second : FnScope ["self", "value"] ["self", "value"] (defScope s_M_vote_second) := ⟨rfl, rfl, rfl, by decide +kernel, rfl, by decide +kernel, by decide +kernel⟩
abbrev s_M_has_enough : Stmt := inClass (top 14) 9
theorem sc_M_has_enough : FnScope ["self", "kind", "number", "value"] ["self", "kind", "number", "value"] (defScope s_M_has_enough) := ⟨rfl, rfl, rfl, by decide +kernel, rfl, by decide +kernel, by decide +kernel⟩
abbrev s_decide : Stmt := top 15
theorem sc_decide : FnScope ["member", "number", "offer"] ["member"] (defScope s_decide) := ⟨rfl, rfl, rfl, by decide +kernel, rfl, by decide +kernel, by decide +kernel⟩
abbrev s_catch_up : Stmt := top 16
theorem sc_catch_up : FnScope ["member", "number"] ["member"] (defScope s_catch_up) := ⟨rfl, rfl, rfl, by decide +kernel, rfl, by decide +kernel, by decide +kernel⟩
abbrev s_is_backed : Stmt := top 17
theorem sc_is_backed : FnScope ["member", "offer", "value", "known"] ["member", "offer"] (defScope s_is_backed) := ⟨rfl, rfl, rfl, by decide +kernel, rfl, by decide +kernel, by decide +kernel⟩
abbrev s_answer_offer : Stmt := top 18
theorem sc_answer_offer : FnScope ["member", "offer", "value", "known", "locked", "since"] ["member"] (defScope s_answer_offer) := ⟨rfl, rfl, rfl, by decide +kernel, rfl, by decide +kernel, by decide +kernel⟩
abbrev s_lock_on_offer : Stmt := top 19
theorem sc_lock_on_offer : FnScope ["member", "offer"] ["member"] (defScope s_lock_on_offer) := ⟨rfl, rfl, rfl, by decide +kernel, rfl, by decide +kernel, by decide +kernel⟩
abbrev s_give_up : Stmt := top 20
theorem sc_give_up : FnScope ["member"] ["member"] (defScope s_give_up) := ⟨rfl, rfl, rfl, by decide +kernel, rfl, by decide +kernel, by decide +kernel⟩
abbrev s_wait_for_first : Stmt := top 21
theorem sc_wait_for_first : FnScope ["member"] ["member"] (defScope s_wait_for_first) := ⟨rfl, rfl, rfl, by decide +kernel, rfl, by decide +kernel, by decide +kernel⟩
abbrev s_wait_for_second : Stmt := top 22
theorem sc_wait_for_second : FnScope ["member"] ["member"] (defScope s_wait_for_second) := ⟨rfl, rfl, rfl, by decide +kernel, rfl, by decide +kernel, by decide +kernel⟩
abbrev s_keep_rules : Stmt := top 23
theorem sc_keep_rules : FnScope ["member", "done"] ["member"] (defScope s_keep_rules) := ⟨rfl, rfl, rfl, by decide +kernel, rfl, by decide +kernel, by decide +kernel⟩
abbrev s_be_late : Stmt := top 24
theorem sc_be_late : FnScope ["member", "part"] ["member", "part"] (defScope s_be_late) := ⟨rfl, rfl, rfl, by decide +kernel, rfl, by decide +kernel, by decide +kernel⟩
abbrev s_P_init : Stmt := inClass (top 32) 0
theorem sc_P_init : FnScope ["self"] ["self"] (defScope s_P_init) := ⟨rfl, rfl, rfl, by decide +kernel, rfl, by decide +kernel, by decide +kernel⟩
abbrev s_is_value : Stmt := top 33
theorem sc_is_value : FnScope ["number"] ["number"] (defScope s_is_value) := ⟨rfl, rfl, rfl, by decide +kernel, rfl, by decide +kernel, by decide +kernel⟩
abbrev s_is_height : Stmt := top 34
theorem sc_is_height : FnScope ["number"] ["number"] (defScope s_is_height) := ⟨rfl, rfl, rfl, by decide +kernel, rfl, by decide +kernel, by decide +kernel⟩
abbrev s_is_round : Stmt := top 35
theorem sc_is_round : FnScope ["number"] ["number"] (defScope s_is_round) := ⟨rfl, rfl, rfl, by decide +kernel, rfl, by decide +kernel, by decide +kernel⟩
abbrev s_new : Stmt := top 36
theorem sc_new : FnScope ["place", "numbers", "many", "me", "mine"] ["place", "numbers"] (defScope s_new) := ⟨rfl, rfl, rfl, by decide +kernel, rfl, by decide +kernel, by decide +kernel⟩
abbrev s_offers : Stmt := top 37
theorem sc_offers : FnScope ["member", "mine"] ["member", "mine"] (defScope s_offers) := ⟨rfl, rfl, rfl, by decide +kernel, rfl, by decide +kernel, by decide +kernel⟩
abbrev s_told : Stmt := top 38
theorem sc_told : FnScope ["member", "answer", "thing"] ["member"] (defScope s_told) := ⟨rfl, rfl, rfl, by decide +kernel, rfl, by decide +kernel, by decide +kernel⟩
abbrev s_begin : Stmt := top 39
theorem sc_begin : FnScope ["member"] ["member"] (defScope s_begin) := ⟨rfl, rfl, rfl, by decide +kernel, rfl, by decide +kernel, by decide +kernel⟩
abbrev s_is_message : Stmt := top 40
theorem sc_is_message : FnScope ["member", "numbers", "who", "kind", "height", "number", "value", "known"] ["member", "numbers"] (defScope s_is_message) := ⟨rfl, rfl, rfl, by decide +kernel, rfl, by decide +kernel, by decide +kernel⟩
abbrev s_hears : Stmt := top 41
theorem sc_hears : FnScope ["member", "numbers", "who", "kind", "height", "number", "value", "known"] ["member", "numbers"] (defScope s_hears) := ⟨rfl, rfl, rfl, by decide +kernel, rfl, by decide +kernel, by decide +kernel⟩
abbrev s_late : Stmt := top 42
theorem sc_late : FnScope ["member", "numbers", "part", "height", "number"] ["member", "numbers"] (defScope s_late) := ⟨rfl, rfl, rfl, by decide +kernel, rfl, by decide +kernel, by decide +kernel⟩
abbrev s_decided : Stmt := top 43
theorem sc_decided : FnScope ["member", "height"] ["member", "height"] (defScope s_decided) := ⟨rfl, rfl, rfl, by decide +kernel, rfl, by decide +kernel, by decide +kernel⟩
abbrev s_state : Stmt := top 44
theorem sc_state : FnScope ["member", "answer"] ["member"] (defScope s_state) := ⟨rfl, rfl, rfl, by decide +kernel, rfl, by decide +kernel, by decide +kernel⟩
abbrev s_answer_of : Stmt := top 45
theorem sc_answer_of : FnScope ["place", "call", "numbers"] ["place", "call", "numbers"] (defScope s_answer_of) := ⟨rfl, rfl, rfl, by decide +kernel, rfl, by decide +kernel, by decide +kernel⟩
abbrev s_answers : Stmt := top 46
theorem sc_answers : FnScope ["calls", "place", "found", "start", "call", "behind", "answer"] ["calls"] (defScope s_answers) := ⟨rfl, rfl, rfl, by decide +kernel, rfl, by decide +kernel, by decide +kernel⟩

/-- the addresses of the classes, and of the table -/
structure Cl where
  H : Addr
  M : Addr
  P : Addr
  N : Addr
structure Txt (K : PySem.W.Frag) (mg : Str → Option Value) (C : Cl) : Prop where
  clH : Cls K C.H
  nH_said : NoAttr K C.H "said"
  nH_tallies : NoAttr K C.H "tallies"
  nH_speakers : NoAttr K C.H "speakers"
  nH_kept : NoAttr K C.H "kept"
  clM : Cls K C.M
  nM_many : NoAttr K C.M "many"
  nM_me : NoAttr K C.M "me"
  nM_mine : NoAttr K C.M "mine"
  nM_liars : NoAttr K C.M "liars"
  nM_enough : NoAttr K C.M "enough"
  nM_begun : NoAttr K C.M "begun"
  nM_decisions : NoAttr K C.M "decisions"
  nM_things : NoAttr K C.M "things"
  nM_height : NoAttr K C.M "height"
  nM_round_now : NoAttr K C.M "round_now"
  nM_part : NoAttr K C.M "part"
  nM_lock : NoAttr K C.M "lock"
  nM_good : NoAttr K C.M "good"
  nM_heard : NoAttr K C.M "heard"
  nM_once : NoAttr K C.M "once"
  clP : Cls K C.P
  nP_member : NoAttr K C.P "member"
  gHeard : mg "Heard" = some (.ref C.H)
  gMember : mg "Member" = some (.ref C.M)
  gPlace : mg "Place" = some (.ref C.P)
  gOFFER : ∃ t, mg "OFFER" = some (.int 1 t)
  gFIRST : ∃ t, mg "FIRST" = some (.int 2 t)
  gSECOND : ∃ t, mg "SECOND" = some (.int 3 t)
  gNONE : ∃ t, mg "NONE" = some (.int 0 t)
  gOFFERING : ∃ t, mg "OFFERING" = some (.int 1 t)
  gVOTED_FIRST : ∃ t, mg "VOTED_FIRST" = some (.int 2 t)
  gVOTED_SECOND : ∃ t, mg "VOTED_SECOND" = some (.int 3 t)
  gWAITS : ∃ t, mg "WAITS" = some (.int 4 t)
  gDECIDES : ∃ t, mg "DECIDES" = some (.int 5 t)
  gLAST_ROUND : ∃ t, mg "LAST_ROUND" = some (.int 63 t)
  gMOST_ROUNDS : ∃ t, mg "MOST_ROUNDS" = some (.int 64 t)
  gBAD : ∃ t, mg "BAD" = some (.int (-1) t)
  gNOT_SO : ∃ t, mg "NOT_SO" = some (.int (-3) t)
  gAT_END : ∃ t, mg "AT_END" = some (.int (-4) t)
  gLAST_HEIGHT : ∃ t, mg "LAST_HEIGHT" = some (.int 1000000 t)
  gGREATEST : ∃ t, mg "GREATEST" = some (.int 2147483647 t)
  b_len : mg "len" = none
  b_range : mg "range" = none
  b_sorted : mg "sorted" = none
  b_list : mg "list" = none
  gNUMBERS : mg "NUMBERS" = some (.ref C.N)
  tNUMBERS : ∀ H : Hp, SqT K H C.N [.int 0, .int 3, .int 1, .int 0, .int 6, .int 3, .int 1, .int 0]
/-! ### wrappers: a def with its promise, found by its name -/
structure MK (P : Program) (w : World) (K : PySem.W.Frag) (mg : Str → Option Value) (base : Heap) (C : Addr) (m : Str) (k : Nat) (ps : List Str) (sp : Sp) : Prop where
  ex : ∃ f fd, Meth K C m f ∧ FnOk P w K mg base CX0 k f fd ps sp ∧ Binds K fd ps []
structure FK (P : Program) (w : World) (K : PySem.W.Frag) (mg : Str → Option Value) (base : Heap) (x : Str) (k : Nat) (ps : List Str) (sp : Sp) : Prop where
  ex : ∃ f fd, mg x = some (.ref f) ∧ PySem.W.keepIn K (.ref f) = true ∧ FnOk P w K mg base CX0 k f fd ps sp ∧ Binds K fd ps []
structure IK (P : Program) (w : World) (K : PySem.W.Frag) (mg : Str → Option Value) (base : Heap) (C : Addr) (k : Nat) (ps : List Str) (sp : Sp) : Prop where
  ex : ∃ f fd, Mk K C f ∧ FnOk P w K mg base CX0 k f fd ps sp ∧ Binds K fd ps []
section
variable {X : Cx} {k : Nat} {C : Addr} {m x : Str} {ps : List Str} {sp : Sp} {o e : Expr} {es : List Expr} {ta : TE} {t : TA} {p apos pos : Pos} {n : Int}
theorem pgi (hg : Gl X x) (h : ∃ t, X.mg x = some (.int n t)) (hd : (x == ("__debug__" : Str)) = false := by decide) : PE X (.Name x pos) (tC (.int n)) := by
  obtain ⟨t, h⟩ := h
  exact pe_glob hg h ⟨t, rfl⟩ hd
theorem pmeth {pl : Sem Bool} (M : MK X.prog X.w X.K X.mg X.base C m k ps sp) (hr : Room k X.A) (c : Cls X.K C) (he : PE X o ta) (ha : PA X (e :: es) t) (one : starEach (e :: es) X.env = (false, eval e X.env) :: starEach es X.env := by rfl) (plain : (backTo pos (starEach es X.env)).any (·.1) = false := by rfl)
    (how : eval (.Call (.Attribute o m apos) (e :: es) [] pos) X.env = (do let ov ← eval o X.env; standAt apos.atName; let (g, fst) ← holding [ov] (getMethod ov m pl); callWith pos g fst (backTo pos (starEach (e :: es) X.env)) (backToKw pos (keywordEach [] X.env))) := by rfl) :
    PE X (.Call (.Attribute o m apos) (e :: es) [] pos) (tMeth C m sp [] E0 ta t) := by
  obtain ⟨f, fd, hm, F, hb⟩ := M.ex
  exact pe_meth (pl := pl) he c hm F hr hb .nil pass0 ha one plain how
theorem pmeth0 {pl : Sem Bool} (M : MK X.prog X.w X.K X.mg X.base C m k ps sp) (hr : Room k X.A) (c : Cls X.K C) (he : PE X o ta)
    (how : eval (.Call (.Attribute o m apos) [] [] pos) X.env = (do let ov ← eval o X.env; standAt apos.atName; let (g, fst) ← holding [ov] (getMethod ov m pl); callWith pos g fst (backTo pos (starEach [] X.env)) (backToKw pos (keywordEach [] X.env))) := by rfl) :
    PE X (.Call (.Attribute o m apos) [] [] pos) (tMeth C m sp [] E0 ta tNil) := by
  obtain ⟨f, fd, hm, F, hb⟩ := M.ex
  exact pe_meth0 (pl := pl) he c hm F hr hb .nil pass0 how
theorem pcall (M : FK X.prog X.w X.K X.mg X.base x k ps sp) (hr : Room k X.A) (hg : Gl X x) (ha : PA X (e :: es) t) (dbg : (x == ("__debug__" : Str)) = false := by decide) (one : starEach (e :: es) X.env = (false, eval e X.env) :: starEach es X.env := by rfl)
    (plain : (backTo pos (starEach es X.env)).any (·.1) = false := by rfl) : PE X (.Call (.Name x p) (e :: es) [] pos) (tCall sp [] E0 t) := by
  obtain ⟨f, fd, hm, hk, F, hb⟩ := M.ex
  exact pe_call F hr hg hm hk hb .nil pass0 ha dbg one plain
theorem pmake (M : IK X.prog X.w X.K X.mg X.base C k ps sp) (hr : Room (k + 1) X.A) (hg : Gl X x) (hm : X.mg x = some (.ref C)) (ha : PA X (e :: es) t) (dbg : (x == ("__debug__" : Str)) = false := by decide)
    (one : starEach (e :: es) X.env = (false, eval e X.env) :: starEach es X.env := by rfl) (plain : (backTo pos (starEach es X.env)).any (·.1) = false := by rfl) : PE X (.Call (.Name x p) (e :: es) [] pos) (tMake C sp [] E0 t) := by
  obtain ⟨f, fd, hk, F, hb⟩ := M.ex
  exact pe_make hk F hr hg hm hb .nil pass0 ha dbg one plain
theorem pmake0 (M : IK X.prog X.w X.K X.mg X.base C k ps sp) (hr : Room (k + 1) X.A) (hg : Gl X x) (hm : X.mg x = some (.ref C)) (dbg : (x == ("__debug__" : Str)) = false := by decide) : PE X (.Call (.Name x p) [] [] pos) (tMake C sp [] E0 tNil) := by
  obtain ⟨f, fd, hk, F, hb⟩ := M.ex
  exact pe_make0 hk F hr hg hm hb .nil pass0 dbg
end
end Ag
namespace Ag
open PySem PyProof.Rows L2
/-! ### roles of addresses (ghost): what an object of the member is for -/
inductive Rl where
  | mem | things | act | dec | once | hrd | said | tal | spk | plc | fnd
  | sIn (k r : Nat)
  | tIn (k r : Nat)
  | pIn (r : Nat)
  deriving DecidableEq
def grp : Rl → Nat
  | .mem => 0
  | .things => 1
  | .act => 1
  | .dec => 2
  | .once => 3
  | .hrd => 4
  | .said => 5
  | .sIn _ _ => 5
  | .tal => 6
  | .tIn _ _ => 6
  | .spk => 7
  | .pIn _ => 7
  | .plc => 8
  | .fnd => 9
abbrev Rf := Addr → Option Rl
def setR (R : Rf) (a : Addr) (x : Rl) : Rf := fun b => if b = a then some x else R b
theorem setR_same {R : Rf} {a : Addr} {x : Rl} : setR R a x a = some x := if_pos rfl
theorem setR_ne {R : Rf} {a b : Addr} {x : Rl} (h : b ≠ a) : setR R a x b = R b := if_neg h
/-- roles stand at tracked places alone -/
def Dom (R : Rf) (H : Hp) : Prop := ∀ b, H b = none → R b = none
/-- what stays: all that has no role, or a role of a group that is not in S -/
def Kp (S : List Nat) (R : Rf) (H : Hp) (R' : Rf) (H' : Hp) : Prop := ∀ b o, H b = some o → (∀ x, R b = some x → grp x ∉ S) → H' b = some o ∧ R' b = R b
section
variable {S S' : List Nat} {R R' R1 R2 : Rf} {H H' H1 H2 : Hp} {a b : Addr} {o : HO} {x : Rl}
theorem Kp.refl : Kp S R H R H := fun _ _ h _ => ⟨h, rfl⟩
theorem Kp.trans (h1 : Kp S R H R1 H1) (h2 : Kp S R1 H1 R2 H2) : Kp S R H R2 H2 := fun b o h c => by
  obtain ⟨e, r⟩ := h1 b o h c
  obtain ⟨e', r'⟩ := h2 b o e (fun y q => c y (r ▸ q))
  exact ⟨e', r'.trans r⟩
theorem Kp.mono (h : Kp S R H R' H') (hs : ∀ g, g ∈ S → g ∈ S') : Kp S' R H R' H' := fun b o e c => h b o e fun x q z => c x q (hs _ z)
theorem Kp.upd (hx : R a = some x) (hs : grp x ∈ S) : Kp S R H R (upd H a o) := fun b u e c => by
  have : b ≠ a := fun z => by subst z; exact c x hx hs
  exact ⟨by rw [upd_ne this]; exact e, rfl⟩
theorem Kp.same (h : Same H H') : Kp S R H R H' := fun b o e _ => ⟨h b o e, rfl⟩
theorem Kp.new (h : H a = none) : Kp S R H R (L2.upd H a o) := fun b u e _ => ⟨by rw [upd_ne (ne_of_none e h)]; exact e, rfl⟩
theorem Kp.newR (h : H a = none) : Kp S R H (setR R a x) (L2.upd H a o) := fun b u e _ => by
  have n := ne_of_none e h
  exact ⟨by rw [upd_ne n]; exact e, setR_ne n⟩
theorem Kp.role (h : Kp S R H R' H') (e : H b = some o) (r : R b = some x) (hs : grp x ∉ S) : H' b = some o ∧ R' b = some x := by
  obtain ⟨a, c⟩ := h b o e fun y q z => by rw [r] at q; cases q; exact hs z
  exact ⟨a, c.trans r⟩
theorem Kp.bare (h : Kp S R H R' H') (e : H b = some o) (r : R b = none) : H' b = some o ∧ R' b = none := by
  obtain ⟨a, c⟩ := h b o e fun y q z => by rw [r] at q; cases q
  exact ⟨a, c.trans r⟩
theorem same_new (h : H a = none) : Same H (L2.upd H a o) := fun b u e => by rw [upd_ne (ne_of_none e h)]; exact e
theorem Dom.same (d : Dom R H) (h : Same H H') : Dom R H' := fun b e => d b (h.free e)
theorem Dom.upd (d : Dom R H) : Dom R (L2.upd H a o) := fun b e => by
  by_cases c : b = a
  · subst c; rw [upd_same] at e; cases e
  · rw [upd_ne c] at e; exact d b e
theorem Dom.newR (d : Dom R H) : Dom (setR R a x) (L2.upd H a o) := fun b e => by
  by_cases c : b = a
  · subst c; rw [upd_same] at e; cases e
  · rw [upd_ne c] at e; rw [setR_ne c]; exact d b e
theorem Dom.fresh (d : Dom R H) (h : H a = none) : R a = none := d a h
theorem same_free (h : Same H H') (e : H' a = none) : H a = none := h.free e
end

/-! ### attributes by their places -/
theorem lookup_zip : ∀ {ks : List Str} {vs : List V} {i : Nat} {k : Str} {v : V}, (ks.findIdx? fun x => k == x) = some i → vs[i]? = some v → (ks.zip vs).lookup k = some v
  | [], _, _, _, _, h, _ => by simp at h
  | x :: ks, [], _, _, _, _, h => by simp at h
  | x :: ks, y :: vs, i, k, v, h, hv => by
    rw [List.findIdx?_cons] at h
    show (match k == x with
      | true => some y
      | false => (ks.zip vs).lookup k) = some v
    cases e : (k == x) with
    | true =>
      rw [e] at h
      have : 0 = i := Option.some.inj h
      subst this
      simpa using hv
    | false =>
      rw [e] at h
      obtain ⟨j, hj, rfl⟩ := Option.map_eq_some_iff.mp (show Option.map (fun i => i + 1) (List.findIdx? (fun x => k == x) ks) = some i from h)
      exact lookup_zip hj (by simpa using hv)
theorem lookup_zip_none : ∀ {ks : List Str} {vs : List V} {k : Str}, (ks.findIdx? fun x => k == x) = none → (ks.zip vs).lookup k = none
  | [], _, _, _ => rfl
  | x :: ks, [], _, _ => rfl
  | x :: ks, y :: vs, k, h => by
    rw [List.findIdx?_cons] at h
    show (match k == x with
      | true => some y
      | false => (ks.zip vs).lookup k) = none
    cases e : (k == x) with
    | true => rw [e] at h; cases h
    | false =>
      rw [e] at h
      exact lookup_zip_none (Option.map_eq_none_iff.mp (show Option.map (fun i => i + 1) (List.findIdx? (fun x => k == x) ks) = none from h))
theorem put_zip : ∀ {ks : List Str} {vs : List V} {i : Nat} {k : Str} {v : V}, (ks.findIdx? fun x => k == x) = some i → i < vs.length → putF k v (ks.zip vs) = ks.zip (vs.set i v)
  | [], _, _, _, _, h, _ => by simp at h
  | x :: ks, [], _, _, _, _, h => by simp at h
  | x :: ks, y :: vs, i, k, v, h, hv => by
    rw [List.findIdx?_cons] at h
    show (if x = k then (x, v) :: ks.zip vs else (x, y) :: putF k v (ks.zip vs)) = _
    cases e : (k == x) with
    | true =>
      rw [e] at h
      have : 0 = i := Option.some.inj h
      subst this
      rw [if_pos (beq_iff_eq.mp e).symm]
      rfl
    | false =>
      rw [e] at h
      obtain ⟨j, hj, rfl⟩ := Option.map_eq_some_iff.mp (show Option.map (fun i => i + 1) (List.findIdx? (fun x => k == x) ks) = some i from h)
      have nk : ¬ x = k := fun z => by rw [z, beq_self_eq_true] at e; cases e
      rw [if_neg nk, put_zip hj (by simpa using hv)]
      rfl
def hKeys : List Str := ["said", "tallies", "speakers", "kept"]
def mKeys : List Str := ["many", "me", "mine", "liars", "enough", "begun", "decisions", "things", "height", "round_now", "part", "lock", "good", "heard", "once"]
def hF (sd tl sp : Addr) (n : Nat) : List (Str × V) := hKeys.zip [.ref sd, .ref tl, .ref sp, .int (n : Int)]
theorem hF_len (sd tl sp : Addr) (n : Nat) : (hF sd tl sp n).length = 4 := rfl
theorem hF_said (sd tl sp : Addr) (n : Nat) : (hF sd tl sp n).lookup ("said" : Str) = some (.ref sd) := lookup_zip (i := 0) (by decide +kernel) rfl
theorem hF_tal (sd tl sp : Addr) (n : Nat) : (hF sd tl sp n).lookup ("tallies" : Str) = some (.ref tl) := lookup_zip (i := 1) (by decide +kernel) rfl
theorem hF_spk (sd tl sp : Addr) (n : Nat) : (hF sd tl sp n).lookup ("speakers" : Str) = some (.ref sp) := lookup_zip (i := 2) (by decide +kernel) rfl
theorem hF_kept (sd tl sp : Addr) (n : Nat) : (hF sd tl sp n).lookup ("kept" : Str) = some (.int (n : Int)) := lookup_zip (i := 3) (by decide +kernel) rfl
theorem hF_put (sd tl sp : Addr) (n : Nat) : putF "kept" (.int ((n : Int) + 1)) (hF sd tl sp n) = hF sd tl sp (n + 1) := (put_zip (i := 3) (by decide +kernel) (by show 3 < 4; decide)).trans rfl
/-- none of the heard's methods is an attribute -/
theorem hF_no {sd tl sp : Addr} {n : Nat} {m : Str} (h : (hKeys.findIdx? fun x => m == x) = none) : (hF sd tl sp n).lookup m = none := lookup_zip_none h
/-- an attribute of the member: its place -/
theorem mF_at {vs : List V} {i : Nat} {k : Str} {v : V} (h : (mKeys.findIdx? fun x => k == x) = some i) (hv : vs[i]? = some v) : (mKeys.zip vs).lookup k = some v := lookup_zip h hv
theorem mF_no {vs : List V} {m : Str} (h : (mKeys.findIdx? fun x => m == x) = none) : (mKeys.zip vs).lookup m = none := lookup_zip_none h
end Ag
namespace Ag
open PySem PyProof.Rows L2
open Md13 (Msg Heard Act)
/-! ### what was heard, as it lies in the heap -/
def kn : Md13.Kind → Nat
  | .offer => 1
  | .first => 2
  | .second => 3
theorem kn_inj {a b : Md13.Kind} (h : kn a = kn b) : a = b := by cases a <;> cases b <;> first | rfl | (exact absurd h (by decide))
def fr (o : Option Nat) : Int := match o with
  | none => -1
  | some q => (q : Int)
def keyOf (k r : Nat) : List Key := [.inl (k : Int), .inl (r : Int)]
theorem keyOf_inj {k r k' r' : Nat} (h : keyOf k r = keyOf k' r') : k = k' ∧ r = r' := by
  unfold keyOf at h
  simp only [List.cons.injEq, Sum.inl.injEq, and_true] at h
  omega
theorem keyOf_kV (k r : Nat) : (keyOf k r).map kV = [V.int (k : Int), V.int (r : Int)] := rfl
theorem inl_inj {a b : Nat} (h : (Sum.inl (a : Int) : Key) = Sum.inl (b : Int)) : a = b := by
  have := Sum.inl.inj h
  omega
section
variable (H : Hp) (R : Rf)
def SEl : Option V → Option Msg → Prop
  | some u, some m => ∃ t, u = .ref t ∧ R t = none ∧ H t = some (.tup [.int (m.value : Int), .int (fr m.from_)])
  | none, none => True
  | _, _ => False
def SIn (h : Heard) (n : Nat) (k : Md13.Kind) (r : Nat) (v : V) : Prop :=
  ∃ b kv, v = .ref b ∧ R b = some (.sIn (kn k) r) ∧ H b = some (.dK kv) ∧ kv.length = cnt h n k r (fun _ => true) ∧ ∀ w : Nat, SEl H R (valV kv (.inl (w : Int))) (saidL h w k r)
def SEnt (h : Heard) (n : Nat) (k : Md13.Kind) (r : Nat) : Option V → Prop
  | none => ∀ w, saidL h w k r = none
  | some v => SIn H R h n k r v
def SaidAt (sd : Addr) (h : Heard) (n L : Nat) : Prop :=
  R sd = some .said ∧ ∃ kvs : List (List Key × V), H sd = some (.dT kvs) ∧ kvs.length ≤ L ∧ ∀ k r, SEnt H R h n k r (valV kvs (keyOf (kn k) r))
def SKey (sd : Addr) (h : Heard) (n L : Nat) (k : Md13.Kind) (r : Nat) (b : Addr) : Prop :=
  SaidAt H R sd h n L ∧ ∃ kvs : List (List Key × V), H sd = some (.dT kvs) ∧ valV kvs (keyOf (kn k) r) = some (.ref b)
def TIn (h : Heard) (n : Nat) (k : Md13.Kind) (r : Nat) (v : V) : Prop :=
  ∃ b kv, v = .ref b ∧ R b = some (.tIn (kn k) r) ∧ H b = some (.dK kv) ∧ kv.length ≤ cnt h n k r (fun _ => true) ∧ ∀ x : Nat, (valV kv (.inl (x : Int))).getD (.int 0) = .int (cnt h n k r (fun y => y == x) : Nat)
def TEnt (h : Heard) (n : Nat) (k : Md13.Kind) (r : Nat) : Option V → Prop
  | none => ∀ w, saidL h w k r = none
  | some v => TIn H R h n k r v
def TalAt (tl : Addr) (h : Heard) (n L : Nat) : Prop :=
  R tl = some .tal ∧ ∃ kvs : List (List Key × V), H tl = some (.dT kvs) ∧ kvs.length ≤ L ∧ ∀ k r, TEnt H R h n k r (valV kvs (keyOf (kn k) r))
def TKey (tl : Addr) (h : Heard) (n L : Nat) (k : Md13.Kind) (r : Nat) (b : Addr) : Prop :=
  TalAt H R tl h n L ∧ ∃ kvs : List (List Key × V), H tl = some (.dT kvs) ∧ valV kvs (keyOf (kn k) r) = some (.ref b)
def PIn (h : Heard) (n : Nat) (r : Nat) (v : V) : Prop :=
  ∃ b kv, v = .ref b ∧ R b = some (.pIn r) ∧ H b = some (.dK kv) ∧ kv.length = loud h n r ∧ ∀ w : Nat, (valV kv (.inl (w : Int))).isSome = anyIn h r w
def PEnt (h : Heard) (n : Nat) (r : Nat) : Option V → Prop
  | none => ∀ w, anyIn h r w = false
  | some v => PIn H R h n r v
def SpkAt (sp : Addr) (h : Heard) (n L : Nat) : Prop :=
  R sp = some .spk ∧ ∃ kvs : List (Key × V), H sp = some (.dK kvs) ∧ kvs.length ≤ L ∧ (∀ p ∈ kvs, ∃ r : Nat, r < 64 ∧ p.1 = .inl (r : Int)) ∧ ∀ r : Nat, PEnt H R h n r (valV kvs (.inl (r : Int)))
def PKey (sp : Addr) (h : Heard) (n L : Nat) (r : Nat) (b : Addr) : Prop :=
  SpkAt H R sp h n L ∧ ∃ kvs : List (Key × V), H sp = some (.dK kvs) ∧ valV kvs (.inl (r : Int)) = some (.ref b)
end
section
variable {S : List Nat} {H H' : Hp} {R R' : Rf} {sd tl sp b q t : Addr} {h : Heard} {n L w r : Nat} {k : Md13.Kind} {m : Msg} {kv : List (Key × V)}

/-! ### frames -/
theorem SEl.kp (K : Kp S R H R' H') : ∀ {u : Option V} {m : Option Msg}, SEl H R u m → SEl H' R' u m
  | some u, some m, ⟨t, e, r, a⟩ => by obtain ⟨a', r'⟩ := K.bare a r; exact ⟨t, e, r', a'⟩
  | none, none, _ => True.intro
  | some _, none, z => z
  | none, some _, z => z
theorem SIn.kp (K : Kp S R H R' H') (hs : 5 ∉ S) {v : V} (A : SIn H R h n k r v) : SIn H' R' h n k r v := by
  obtain ⟨b, kv, e, rb, eb, l, c⟩ := A
  obtain ⟨eb', rb'⟩ := K.role eb rb hs
  exact ⟨b, kv, e, rb', eb', l, fun w => (c w).kp K⟩
theorem SEnt.kp (K : Kp S R H R' H') (hs : 5 ∉ S) : ∀ {v : Option V}, SEnt H R h n k r v → SEnt H' R' h n k r v
  | none, a => a
  | some v, a => SIn.kp K hs a
theorem SaidAt.kp (A : SaidAt H R sd h n L) (K : Kp S R H R' H') (hs : 5 ∉ S) : SaidAt H' R' sd h n L := by
  obtain ⟨rs, kvs, es, l, c⟩ := A
  obtain ⟨es', rs'⟩ := K.role es rs hs
  exact ⟨rs', kvs, es', l, fun k r => (c k r).kp K hs⟩
theorem SKey.kp (A : SKey H R sd h n L k r b) (K : Kp S R H R' H') (hs : 5 ∉ S) : SKey H' R' sd h n L k r b := by
  obtain ⟨a, kvs, e, c⟩ := A
  exact ⟨a.kp K hs, kvs, (K.role e a.1 hs).1, c⟩
theorem TIn.kp (K : Kp S R H R' H') (hs : 6 ∉ S) {v : V} (A : TIn H R h n k r v) : TIn H' R' h n k r v := by
  obtain ⟨b, kv, e, rb, eb, l, c⟩ := A
  obtain ⟨eb', rb'⟩ := K.role eb rb hs
  exact ⟨b, kv, e, rb', eb', l, c⟩
theorem TEnt.kp (K : Kp S R H R' H') (hs : 6 ∉ S) : ∀ {v : Option V}, TEnt H R h n k r v → TEnt H' R' h n k r v
  | none, a => a
  | some v, a => TIn.kp K hs a
theorem TalAt.kp (A : TalAt H R tl h n L) (K : Kp S R H R' H') (hs : 6 ∉ S) : TalAt H' R' tl h n L := by
  obtain ⟨rs, kvs, es, l, c⟩ := A
  obtain ⟨es', rs'⟩ := K.role es rs hs
  exact ⟨rs', kvs, es', l, fun k r => (c k r).kp K hs⟩
theorem TKey.kp (A : TKey H R tl h n L k r b) (K : Kp S R H R' H') (hs : 6 ∉ S) : TKey H' R' tl h n L k r b := by
  obtain ⟨a, kvs, e, c⟩ := A
  exact ⟨a.kp K hs, kvs, (K.role e a.1 hs).1, c⟩
theorem PIn.kp (K : Kp S R H R' H') (hs : 7 ∉ S) {v : V} (A : PIn H R h n r v) : PIn H' R' h n r v := by
  obtain ⟨b, kv, e, rb, eb, l, c⟩ := A
  obtain ⟨eb', rb'⟩ := K.role eb rb hs
  exact ⟨b, kv, e, rb', eb', l, c⟩
theorem PEnt.kp (K : Kp S R H R' H') (hs : 7 ∉ S) : ∀ {v : Option V}, PEnt H R h n r v → PEnt H' R' h n r v
  | none, a => a
  | some v, a => PIn.kp K hs a
theorem SpkAt.kp (A : SpkAt H R sp h n L) (K : Kp S R H R' H') (hs : 7 ∉ S) : SpkAt H' R' sp h n L := by
  obtain ⟨rs, kvs, es, l, g, c⟩ := A
  obtain ⟨es', rs'⟩ := K.role es rs hs
  exact ⟨rs', kvs, es', l, g, fun r => (c r).kp K hs⟩
theorem PKey.kp (A : PKey H R sp h n L r b) (K : Kp S R H R' H') (hs : 7 ∉ S) : PKey H' R' sp h n L r b := by
  obtain ⟨a, kvs, e, c⟩ := A
  exact ⟨a.kp K hs, kvs, (K.role e a.1 hs).1, c⟩
theorem SaidAt.le {L' : Nat} (A : SaidAt H R sd h n L) (l : L ≤ L') : SaidAt H R sd h n L' := by
  obtain ⟨rs, kvs, es, l', c⟩ := A
  exact ⟨rs, kvs, es, Nat.le_trans l' l, c⟩
theorem TalAt.le {L' : Nat} (A : TalAt H R tl h n L) (l : L ≤ L') : TalAt H R tl h n L' := by
  obtain ⟨rs, kvs, es, l', c⟩ := A
  exact ⟨rs, kvs, es, Nat.le_trans l' l, c⟩
theorem SpkAt.le {L' : Nat} (A : SpkAt H R sp h n L) (l : L ≤ L') : SpkAt H R sp h n L' := by
  obtain ⟨rs, kvs, es, l', g, c⟩ := A
  exact ⟨rs, kvs, es, Nat.le_trans l' l, g, c⟩

/-! ### nothing heard -/
theorem SaidAt.nil (rs : R sd = some .said) (es : H sd = some (.dT [])) : SaidAt H R sd [] n 0 := ⟨rs, [], es, Nat.le_refl _, fun _ _ _ => rfl⟩
theorem TalAt.nil (rs : R tl = some .tal) (es : H tl = some (.dT [])) : TalAt H R tl [] n 0 := ⟨rs, [], es, Nat.le_refl _, fun _ _ _ => rfl⟩
theorem SpkAt.nil (rs : R sp = some .spk) (es : H sp = some (.dK [])) : SpkAt H R sp [] n 0 := ⟨rs, [], es, Nat.le_refl _, fun p hp => (nomatch hp), fun _ _ => rfl⟩

/-! ### said -/
theorem said_set_new {kvs : List (List Key × V)} (A : SaidAt H R sd h n L) (e : H sd = some (.dT kvs)) (hv : valV kvs (keyOf (kn k) r) = none) (hq : H q = some (.dK [])) (rq : R q = some (.sIn (kn k) r)) :
    SKey (upd H sd (.dT (putK kvs (keyOf (kn k) r) (.ref q)))) R sd h n (L + 1) k r q := by
  obtain ⟨rs, kvs', es, l, c⟩ := A
  rw [e] at es
  cases es
  have nsd : ∀ {b x}, R b = some x → x ≠ .said → b ≠ sd := fun hb hx z => by rw [z, rs] at hb; cases hb; exact hx rfl
  refine ⟨⟨rs, _, upd_same, ?_, fun k' r' => ?_⟩, _, upd_same, by rw [valV_put, if_pos rfl]⟩
  · have := length_putK kvs (keyOf (kn k) r) (.ref q)
    omega
  · rw [valV_put]
    by_cases z : keyOf (kn k') r' = keyOf (kn k) r
    · rw [if_pos z]
      obtain ⟨z1, rfl⟩ := keyOf_inj z
      have z1 := kn_inj z1
      subst z1
      have c0 := c k' r'
      rw [hv] at c0
      have hnone : ∀ w, saidL h w k' r' = none := c0
      refine ⟨q, [], rfl, rq, ?_, (cnt_none hnone).symm, fun w => ?_⟩
      · rw [upd_ne (nsd rq (by intro z; cases z))]; exact hq
      · rw [hnone w]; exact True.intro
    · rw [if_neg z]
      have c0 := c k' r'
      cases ev : valV kvs (keyOf (kn k') r') with
      | none => rw [ev] at c0; exact c0
      | some v =>
        rw [ev] at c0
        obtain ⟨b, kv, e1, e2, e3, e4, e5⟩ := (show SIn H R h n k' r' v from c0)
        refine ⟨b, kv, e1, e2, by rw [upd_ne (nsd e2 (by intro z; cases z))]; exact e3, e4, fun w => ?_⟩
        have := e5 w
        cases u1 : valV kv (.inl (w : Int)) with
        | none => rw [u1] at this; cases u2 : saidL h w k' r' with
          | none => exact True.intro
          | some m => rw [u2] at this; exact this
        | some u => rw [u1] at this; cases u2 : saidL h w k' r' with
          | none => rw [u2] at this; exact this
          | some m =>
            rw [u2] at this
            obtain ⟨t, a1, a2, a3⟩ := this
            exact ⟨t, a1, a2, by rw [upd_ne (ne_of a3 e (by intro z; cases z))]; exact a3⟩
theorem said_here {kvs : List (List Key × V)} {v : V} (A : SaidAt H R sd h n L) (e : H sd = some (.dT kvs)) (hv : valV kvs (keyOf (kn k) r) = some v) : ∃ b, v = .ref b ∧ SKey H R sd h n L k r b := by
  obtain ⟨rs, kvs', es, l, c⟩ := id A
  rw [e] at es
  cases es
  have c0 := c k r
  rw [hv] at c0
  obtain ⟨b, kv, e1, _⟩ := (show SIn H R h n k r v from c0)
  exact ⟨b, e1, A, kvs, e, by rw [hv, e1]⟩
/-- what the inner dict of a key holds -/
theorem SKey.inner (A : SKey H R sd h n L k r b) : R b = some (.sIn (kn k) r) ∧ ∃ kv, H b = some (.dK kv) ∧ kv.length = cnt h n k r (fun _ => true) ∧ ∀ w : Nat, SEl H R (valV kv (.inl (w : Int))) (saidL h w k r) := by
  obtain ⟨⟨rs, kvs', es, l, c⟩, kvs, e, hv⟩ := A
  rw [e] at es
  cases es
  have c0 := c k r
  rw [hv] at c0
  obtain ⟨b', kv, e1, e2, e3, e4, e5⟩ := (show SIn H R h n k r (.ref b) from c0)
  cases e1
  exact ⟨e2, kv, e3, e4, e5⟩
theorem sel_isSome {u : Option V} {m : Option Msg} (h : SEl H R u m) : u.isSome = m.isSome := by
  cases u with
  | none => cases m with
    | none => rfl
    | some _ => exact h.elim
  | some _ => cases m with
    | none => exact h.elim
    | some _ => rfl
theorem said_put (A : SKey H R sd h n L m.kind m.round b) (eb : H b = some (.dK kv)) (hn : saidL h w m.kind m.round = none) (hw : w < n) (et : H t = some (.tup [.int (m.value : Int), .int (fr m.from_)])) (rt : R t = none) :
    SaidAt (upd H b (.dK (putK kv (.inl (w : Int)) (.ref t)))) R sd (h ++ [(w, m)]) n L := by
  obtain ⟨rb, kv', eb', el, ec⟩ := A.inner
  rw [eb] at eb'
  cases eb'
  obtain ⟨⟨rs, kvs, es, l, c⟩, kvs', e, hv⟩ := A
  rw [e] at es
  cases es
  have nb : ∀ {b' x}, R b' = some x → x ≠ .sIn (kn m.kind) m.round → b' ≠ b := fun hb hx z => by rw [z, rb] at hb; cases hb; exact hx rfl
  have tup : ∀ {t' xs}, H t' = some (.tup xs) → upd H b (.dK (putK kv (.inl (w : Int)) (.ref t))) t' = some (.tup xs) := fun {t' xs} a => by rw [upd_ne (ne_of a eb (by intro z; cases z))]; exact a
  refine ⟨rs, kvs, by rw [upd_ne (nb rs (by intro z; cases z))]; exact e, l, fun k' r' => ?_⟩
  have c0 := c k' r'
  by_cases z : k' = m.kind ∧ r' = m.round
  · obtain ⟨rfl, rfl⟩ := z
    rw [hv]
    refine ⟨b, _, rfl, rb, upd_same, ?_, fun w' => ?_⟩
    · have hvn : valV kv (.inl (w : Int)) = none := by
        have := ec w
        rw [hn] at this
        cases q : valV kv (.inl (w : Int)) with
        | none => rfl
        | some _ => rw [q] at this; exact this.elim
      rw [putK_new _ hvn, List.length_append, el, cnt_snoc hn hw, if_pos ⟨rfl, rfl, rfl⟩]
      rfl
    · rw [valV_put, saidL_snoc hn]
      by_cases d : w' = w
      · subst d
        rw [if_pos rfl, if_pos ⟨rfl, rfl, rfl⟩]
        exact ⟨t, rfl, rt, tup et⟩
      · rw [if_neg (fun z => d (inl_inj z)), if_neg (fun z => d z.1)]
        have := ec w'
        cases u1 : valV kv (.inl (w' : Int)) with
        | none => rw [u1] at this; cases u2 : saidL h w' m.kind m.round with
          | none => exact True.intro
          | some m => rw [u2] at this; exact this
        | some u => rw [u1] at this; cases u2 : saidL h w' m.kind m.round with
          | none => rw [u2] at this; exact this
          | some m =>
            rw [u2] at this
            obtain ⟨t, a1, a2, a3⟩ := this
            exact ⟨t, a1, a2, tup a3⟩
  · have hsame : ∀ w', saidL (h ++ [(w, m)]) w' k' r' = saidL h w' k' r' := fun w' => by rw [saidL_snoc hn, if_neg (fun y => z y.2)]
    cases ev : valV kvs (keyOf (kn k') r') with
    | none => rw [ev] at c0; exact fun w' => (hsame w').trans (c0 w')
    | some v =>
      rw [ev] at c0
      obtain ⟨b', kv', e1, e2, e3, e4, e5⟩ := (show SIn H R h n k' r' v from c0)
      refine ⟨b', kv', e1, e2, ?_, ?_, fun w' => ?_⟩
      · rw [upd_ne (nb e2 (fun y => z (by injection y with y1 y2; exact ⟨kn_inj y1, y2⟩)))]; exact e3
      · rw [e4, cnt_snoc hn hw, if_neg (fun y => z ⟨y.1, y.2.1⟩), Nat.add_zero]
      · rw [hsame]
        have := e5 w'
        cases u1 : valV kv' (.inl (w' : Int)) with
        | none => rw [u1] at this; cases u2 : saidL h w' k' r' with
          | none => exact True.intro
          | some m => rw [u2] at this; exact this
        | some u => rw [u1] at this; cases u2 : saidL h w' k' r' with
          | none => rw [u2] at this; exact this
          | some m =>
            rw [u2] at this
            obtain ⟨t, a1, a2, a3⟩ := this
            exact ⟨t, a1, a2, tup a3⟩

/-! ### tallies -/
theorem tal_set_new {kvs : List (List Key × V)} (A : TalAt H R tl h n L) (e : H tl = some (.dT kvs)) (hv : valV kvs (keyOf (kn k) r) = none) (hq : H q = some (.dK [])) (rq : R q = some (.tIn (kn k) r)) :
    TKey (upd H tl (.dT (putK kvs (keyOf (kn k) r) (.ref q)))) R tl h n (L + 1) k r q := by
  obtain ⟨rs, kvs', es, l, c⟩ := A
  rw [e] at es
  cases es
  have nsd : ∀ {b x}, R b = some x → x ≠ .tal → b ≠ tl := fun hb hx z => by rw [z, rs] at hb; cases hb; exact hx rfl
  refine ⟨⟨rs, _, upd_same, ?_, fun k' r' => ?_⟩, _, upd_same, by rw [valV_put, if_pos rfl]⟩
  · have := length_putK kvs (keyOf (kn k) r) (.ref q)
    omega
  · rw [valV_put]
    by_cases z : keyOf (kn k') r' = keyOf (kn k) r
    · rw [if_pos z]
      obtain ⟨z1, rfl⟩ := keyOf_inj z
      have z1 := kn_inj z1
      subst z1
      have c0 := c k' r'
      rw [hv] at c0
      have hnone : ∀ w, saidL h w k' r' = none := c0
      refine ⟨q, [], rfl, rq, ?_, Nat.zero_le _, fun x => ?_⟩
      · rw [upd_ne (nsd rq (by intro z; cases z))]; exact hq
      · rw [cnt_none hnone]; rfl
    · rw [if_neg z]
      have c0 := c k' r'
      cases ev : valV kvs (keyOf (kn k') r') with
      | none => rw [ev] at c0; exact c0
      | some v =>
        rw [ev] at c0
        obtain ⟨b, kv, e1, e2, e3, e4, e5⟩ := (show TIn H R h n k' r' v from c0)
        exact ⟨b, kv, e1, e2, by rw [upd_ne (nsd e2 (by intro z; cases z))]; exact e3, e4, e5⟩
theorem tal_here {kvs : List (List Key × V)} {v : V} (A : TalAt H R tl h n L) (e : H tl = some (.dT kvs)) (hv : valV kvs (keyOf (kn k) r) = some v) : ∃ b, v = .ref b ∧ TKey H R tl h n L k r b := by
  obtain ⟨rs, kvs', es, l, c⟩ := id A
  rw [e] at es
  cases es
  have c0 := c k r
  rw [hv] at c0
  obtain ⟨b, kv, e1, _⟩ := (show TIn H R h n k r v from c0)
  exact ⟨b, e1, A, kvs, e, by rw [hv, e1]⟩
theorem TKey.inner (A : TKey H R tl h n L k r b) : R b = some (.tIn (kn k) r) ∧ ∃ kv, H b = some (.dK kv) ∧ kv.length ≤ cnt h n k r (fun _ => true) ∧ ∀ x : Nat, (valV kv (.inl (x : Int))).getD (.int 0) = .int (cnt h n k r (fun y => y == x) : Nat) := by
  obtain ⟨⟨rs, kvs', es, l, c⟩, kvs, e, hv⟩ := A
  rw [e] at es
  cases es
  have c0 := c k r
  rw [hv] at c0
  obtain ⟨b', kv, e1, e2, e3, e4, e5⟩ := (show TIn H R h n k r (.ref b) from c0)
  cases e1
  exact ⟨e2, kv, e3, e4, e5⟩
theorem tal_put (A : TKey H R tl h n L m.kind m.round b) (eb : H b = some (.dK kv)) (hn : saidL h w m.kind m.round = none) (hw : w < n) :
    TalAt (upd H b (.dK (putK kv (.inl (m.value : Int)) (.int ((cnt h n m.kind m.round (fun y => y == m.value) : Nat) + 1 : Int))))) R tl (h ++ [(w, m)]) n L := by
  obtain ⟨rb, kv', eb', el, ec⟩ := A.inner
  rw [eb] at eb'
  cases eb'
  obtain ⟨⟨rs, kvs, es, l, c⟩, kvs', e, hv⟩ := A
  rw [e] at es
  cases es
  have nb : ∀ {b' x}, R b' = some x → x ≠ .tIn (kn m.kind) m.round → b' ≠ b := fun hb hx z => by rw [z, rb] at hb; cases hb; exact hx rfl
  refine ⟨rs, kvs, by rw [upd_ne (nb rs (by intro z; cases z))]; exact e, l, fun k' r' => ?_⟩
  have c0 := c k' r'
  by_cases z : k' = m.kind ∧ r' = m.round
  · obtain ⟨rfl, rfl⟩ := z
    rw [hv]
    refine ⟨b, _, rfl, rb, upd_same, ?_, fun x => ?_⟩
    · rw [cnt_snoc hn hw, if_pos ⟨rfl, rfl, rfl⟩]
      have := length_putK kv (.inl (m.value : Int)) (.int ((cnt h n m.kind m.round (fun y => y == m.value) : Nat) + 1 : Int))
      omega
    · rw [valV_put, cnt_snoc hn hw]
      by_cases d : x = m.value
      · subst d
        rw [if_pos rfl, if_pos ⟨rfl, rfl, beq_self_eq_true _⟩]
        rfl
      · rw [if_neg (fun z => d (inl_inj z)), if_neg (fun z => d (beq_iff_eq.mp z.2.2).symm), Nat.add_zero]
        exact ec x
  · have hsame : ∀ w', saidL (h ++ [(w, m)]) w' k' r' = saidL h w' k' r' := fun w' => by rw [saidL_snoc hn, if_neg (fun y => z y.2)]
    cases ev : valV kvs (keyOf (kn k') r') with
    | none => rw [ev] at c0; exact fun w' => (hsame w').trans (c0 w')
    | some v =>
      rw [ev] at c0
      obtain ⟨b', kv', e1, e2, e3, e4, e5⟩ := (show TIn H R h n k' r' v from c0)
      refine ⟨b', kv', e1, e2, ?_, ?_, fun x => ?_⟩
      · rw [upd_ne (nb e2 (fun y => z (by injection y with y1 y2; exact ⟨kn_inj y1, y2⟩)))]; exact e3
      · rw [cnt_snoc hn hw, if_neg (fun y => z ⟨y.1, y.2.1⟩), Nat.add_zero]; exact e4
      · rw [e5, cnt_snoc hn hw, if_neg (fun y => z ⟨y.1, y.2.1⟩), Nat.add_zero]

/-! ### speakers -/
theorem spk_set_new {kvs : List (Key × V)} (A : SpkAt H R sp h n L) (e : H sp = some (.dK kvs)) (hv : valV kvs (.inl (r : Int)) = none) (hq : H q = some (.dK [])) (rq : R q = some (.pIn r)) (hr : r < 64) :
    PKey (upd H sp (.dK (putK kvs (.inl (r : Int)) (.ref q)))) R sp h n (L + 1) r q := by
  obtain ⟨rs, kvs', es, l, g, c⟩ := A
  rw [e] at es
  cases es
  have nsd : ∀ {b x}, R b = some x → x ≠ .spk → b ≠ sp := fun hb hx z => by rw [z, rs] at hb; cases hb; exact hx rfl
  refine ⟨⟨rs, _, upd_same, ?_, fun p hp => ?_, fun r' => ?_⟩, _, upd_same, by rw [valV_put, if_pos rfl]⟩
  · have := length_putK kvs (.inl (r : Int)) (.ref q)
    omega
  · rw [putK_new _ hv] at hp
    rcases List.mem_append.mp hp with hp | hp
    · exact g p hp
    · rw [List.mem_singleton.mp hp]; exact ⟨r, hr, rfl⟩
  · rw [valV_put]
    by_cases z : (Sum.inl (r' : Int) : Key) = .inl (r : Int)
    · rw [if_pos z]
      have z := inl_inj z
      subst z
      have c0 := c r'
      rw [hv] at c0
      have hnone : ∀ w, anyIn h r' w = false := c0
      refine ⟨q, [], rfl, rq, ?_, (loud_none hnone).symm, fun w => ?_⟩
      · rw [upd_ne (nsd rq (by intro z; cases z))]; exact hq
      · rw [hnone w]; rfl
    · rw [if_neg z]
      have c0 := c r'
      cases ev : valV kvs (.inl (r' : Int)) with
      | none => rw [ev] at c0; exact c0
      | some v =>
        rw [ev] at c0
        obtain ⟨b, kv, e1, e2, e3, e4, e5⟩ := (show PIn H R h n r' v from c0)
        exact ⟨b, kv, e1, e2, by rw [upd_ne (nsd e2 (by intro z; cases z))]; exact e3, e4, e5⟩
theorem spk_here {kvs : List (Key × V)} {v : V} (A : SpkAt H R sp h n L) (e : H sp = some (.dK kvs)) (hv : valV kvs (.inl (r : Int)) = some v) : ∃ b, v = .ref b ∧ PKey H R sp h n L r b := by
  obtain ⟨rs, kvs', es, l, g, c⟩ := id A
  rw [e] at es
  cases es
  have c0 := c r
  rw [hv] at c0
  obtain ⟨b, kv, e1, _⟩ := (show PIn H R h n r v from c0)
  exact ⟨b, e1, A, kvs, e, by rw [hv, e1]⟩
theorem PKey.inner (A : PKey H R sp h n L r b) : R b = some (.pIn r) ∧ ∃ kv, H b = some (.dK kv) ∧ kv.length = loud h n r ∧ ∀ w : Nat, (valV kv (.inl (w : Int))).isSome = anyIn h r w := by
  obtain ⟨⟨rs, kvs', es, l, g, c⟩, kvs, e, hv⟩ := A
  rw [e] at es
  cases es
  have c0 := c r
  rw [hv] at c0
  obtain ⟨b', kv, e1, e2, e3, e4, e5⟩ := (show PIn H R h n r (.ref b) from c0)
  cases e1
  exact ⟨e2, kv, e3, e4, e5⟩
theorem putK_there {kv : List (Key × V)} {k : Key} (v : V) (h : (valV kv k).isSome = true) : (putK kv k v).length = kv.length := by
  unfold putK
  rw [valV_any, if_pos h, List.length_map]
theorem spk_put (A : PKey H R sp h n L m.round b) (eb : H b = some (.dK kv)) (hw : w < n) :
    SpkAt (upd H b (.dK (putK kv (.inl (w : Int)) (.bl true)))) R sp (h ++ [(w, m)]) n L := by
  obtain ⟨rb, kv', eb', el, ec⟩ := A.inner
  rw [eb] at eb'
  cases eb'
  obtain ⟨⟨rs, kvs, es, l, g, c⟩, kvs', e, hv⟩ := A
  rw [e] at es
  cases es
  have nb : ∀ {b' x}, R b' = some x → x ≠ .pIn m.round → b' ≠ b := fun hb hx z => by rw [z, rb] at hb; cases hb; exact hx rfl
  refine ⟨rs, kvs, by rw [upd_ne (nb rs (by intro z; cases z))]; exact e, l, g, fun r' => ?_⟩
  have c0 := c r'
  by_cases z : r' = m.round
  · subst z
    rw [hv]
    refine ⟨b, _, rfl, rb, upd_same, ?_, fun w' => ?_⟩
    · rw [loud_snoc hw]
      cases q : anyIn h m.round w with
      | true =>
        rw [putK_there _ ((ec w).trans q), el, if_neg (fun y => by cases y.2), Nat.add_zero]
      | false =>
        have hvn : valV kv (.inl (w : Int)) = none := by
          have := (ec w).trans q
          cases q2 : valV kv (.inl (w : Int)) with
          | none => rfl
          | some _ => rw [q2] at this; cases this
        rw [putK_new _ hvn, List.length_append, el, if_pos ⟨rfl, rfl⟩]
        rfl
    · rw [valV_put, anyIn_snoc]
      by_cases d : w' = w
      · subst d
        rw [if_pos rfl]
        simp
      · rw [if_neg (fun z => d (inl_inj z)), ec]
        have : (w == w') = false := beq_eq_false_iff_ne.mpr fun z => d z.symm
        rw [this, Bool.false_and, Bool.or_false]
  · have hsame : ∀ w', anyIn (h ++ [(w, m)]) r' w' = anyIn h r' w' := fun w' => by
      rw [anyIn_snoc]
      have : (m.round == r') = false := beq_eq_false_iff_ne.mpr fun y => z y.symm
      rw [this, Bool.and_false, Bool.or_false]
    cases ev : valV kvs (.inl (r' : Int)) with
    | none => rw [ev] at c0; exact fun w' => (hsame w').trans (c0 w')
    | some v =>
      rw [ev] at c0
      obtain ⟨b', kv', e1, e2, e3, e4, e5⟩ := (show PIn H R h n r' v from c0)
      refine ⟨b', kv', e1, e2, ?_, ?_, fun w' => ?_⟩
      · rw [upd_ne (nb e2 (fun y => z (by injection y with y1))), ]; exact e3
      · rw [e4, loud_snoc hw, if_neg (fun y => z y.1), Nat.add_zero]
      · rw [e5, hsame]
end
/-! ### the object -/
def HeardAt (C : Cl) (H : Hp) (R : Rf) (a : Addr) (h : Heard) (n : Nat) : Prop :=
  ∃ dx sd tl sp, H a = some (.ins C.H dx (hF sd tl sp h.length)) ∧ R a = some .hrd ∧ SaidAt H R sd h n h.length ∧ TalAt H R tl h n h.length ∧ SpkAt H R sp h n h.length
theorem HeardAt.kp {C : Cl} {S : List Nat} {H H' : Hp} {R R' : Rf} {a : Addr} {h : Heard} {n : Nat} (A : HeardAt C H R a h n) (K : Kp S R H R' H') (h4 : 4 ∉ S) (h5 : 5 ∉ S) (h6 : 6 ∉ S) (h7 : 7 ∉ S) : HeardAt C H' R' a h n := by
  obtain ⟨dx, sd, tl, sp, e, r, s, t, p⟩ := A
  obtain ⟨e', r'⟩ := K.role e r h4
  exact ⟨dx, sd, tl, sp, e', r', s.kp K h5, t.kp K h6, p.kp K h7⟩
def hearL (h : Heard) (w : Nat) (m : Msg) : Heard := if (saidL h w m.kind m.round).isSome = true then h else h ++ [(w, m)]
theorem hear_hearL (s : Md13.St) (w : Nat) (m : Msg) : Md13.hear s w m = { s with heard := hearL s.heard w m } := by
  unfold hearL
  rcases hear_cases s w m with ⟨a, e⟩ | ⟨a, e⟩
  · rw [if_pos a, e]
  · rw [e, a]; rfl
end Ag
namespace Ag
open PySem PySem.Spec PyProof.Rows L2
open Md13 (Msg Heard Act)
theorem put_zip_new : ∀ {ks : List Str} {vs : List V} {k : Str} {v : V}, (ks.findIdx? fun x => k == x) = none → ks.length = vs.length → putF k v (ks.zip vs) = (ks ++ [k]).zip (vs ++ [v])
  | [], [], _, _, _, _ => rfl
  | [], _ :: _, _, _, _, h => by cases h
  | _ :: _, [], _, _, _, h => by cases h
  | x :: ks, y :: vs, k, v, h, hl => by
    rw [List.findIdx?_cons] at h
    show (if x = k then (x, v) :: ks.zip vs else (x, y) :: putF k v (ks.zip vs)) = _
    cases e : (k == x) with
    | true => rw [e] at h; cases h
    | false =>
      rw [e] at h
      have nk : ¬ x = k := fun z => by rw [z, beq_self_eq_true] at e; cases e
      rw [if_neg nk, put_zip_new (Option.map_eq_none_iff.mp (show Option.map (fun i => i + 1) (List.findIdx? (fun x => k == x) ks) = none from h)) (by simpa using hl)]
      rfl
theorem hF_new (sd tl sp : Addr) : putF "kept" (.int 0) (putF "speakers" (.ref sp) (putF "tallies" (.ref tl) (putF "said" (.ref sd) ([] : List (Str × V))))) = hF sd tl sp 0 := by
  have e1 : putF "said" (.ref sd) ([] : List (Str × V)) = (["said"] : List Str).zip [.ref sd] := rfl
  rw [e1, put_zip_new (by decide +kernel) rfl]
  show putF "kept" (.int 0) (putF "speakers" (.ref sp) ((["said", "tallies"] : List Str).zip [.ref sd, .ref tl])) = _
  rw [put_zip_new (by decide +kernel) rfl]
  show putF "kept" (.int 0) ((["said", "tallies", "speakers"] : List Str).zip [.ref sd, .ref tl, .ref sp]) = _
  rw [put_zip_new (by decide +kernel) rfl]
  rfl
theorem len_put {k : Str} {v : V} {fs : List (Str × V)} {n : Nat} (h : fs.length ≤ n) : (putF k v fs).length ≤ n + 1 := by
  have := length_putF k v fs
  omega
section
variable {P : Program} {w : World} {K : PySem.W.Frag} {mg : Str → Option Value} {base : Heap} {C : Cl}
/-! ### Heard.__init__ -/
def spHInit (C : Cl) : Sp := fun vs H Q _ => ∃ (p dx : Addr) (R : Rf), vs = [.ref p] ∧ H p = some (.ins C.H dx []) ∧ R p = some .hrd ∧ Dom R H ∧
  ∀ H' R', (∀ n, HeardAt C H' R' p [] n) → Dom R' H' → Kp [4] R H R' H' → Q .non H'
theorem ok_H_init (T : Txt K mg C) {f : Addr} {fd : FuncData} (F : Fun K "__init__" "Heard.__init__" s_H_init f fd) : FnOk P w K mg base CX0 1 f fd ["self"] (spHInit C) := by
  refine F.ok sc_H_init (fun vs H Q E h => ?_) (fun cdv A outer s H vs Q E hr h => ?_)
  · obtain ⟨p, dx, R, rfl, _⟩ := h
    rfl
  · obtain ⟨p, dx, R, rfl, hp, rp, d, k⟩ := h
    refine ⟨_, (pss_cons (ps_fld (pv 0) pe_dnewT rfl)
  (pss_cons (ps_fld (pv 0) pe_dnewT rfl)
  (pss_cons (ps_fld (pv 0) pe_dnewK rfl)
  (pss_one (ps_fld (pv 0) pe_int rfl))))), ?_⟩
    intro sd hsd
    have n1 : p ≠ sd := ne_of_none hp hsd
    refine ⟨_, rfl, p, C.H, dx, [], rfl, (by rw [upd_ne n1]; exact hp), T.clH, T.nH_said, (by show 0 < 1000; decide), ?_⟩
    intro tl htl
    have n2 : p ≠ tl := fun z => by subst z; rw [upd_same] at htl; cases htl
    have n3 : tl ≠ sd := fun z => by subst z; rw [upd_ne (Ne.symm n1), upd_same] at htl; cases htl
    refine ⟨_, rfl, p, C.H, dx, _, rfl, (by rw [upd_ne n2]; exact upd_same), T.clH, T.nH_tallies, (by show 1 < 1000; decide), ?_⟩
    intro sp hsp
    have n4 : p ≠ sp := fun z => by subst z; rw [upd_same] at hsp; cases hsp
    have n5 : sp ≠ tl := fun z => by subst z; rw [upd_ne (Ne.symm n4), upd_same] at hsp; cases hsp
    have n6 : sp ≠ sd := fun z => by subst z; rw [upd_ne (Ne.symm n4), upd_ne n5, upd_ne (Ne.symm n4), upd_same] at hsp; cases hsp
    refine ⟨_, rfl, p, C.H, dx, _, rfl, (by rw [upd_ne n4]; exact upd_same), T.clH, T.nH_speakers, (Nat.lt_of_le_of_lt (len_put (len_put (Nat.zero_le 0))) (by decide)), ?_⟩
    refine ⟨_, rfl, p, C.H, dx, _, rfl, upd_same, T.clH, T.nH_kept, (Nat.lt_of_le_of_lt (len_put (len_put (len_put (Nat.zero_le 0)))) (by decide)), ?_⟩
    rw [upd_upd, hF_new]
    have hs1 : H sd = none := hsd
    have ht1 : H tl = none := by rw [upd_ne (Ne.symm n2), upd_ne n3] at htl; exact htl
    have hp1 : H sp = none := by rw [upd_ne (Ne.symm n4), upd_ne n5, upd_ne (Ne.symm n4), upd_ne n6] at hsp; exact hsp
    have rs := d sd hs1
    have rt := d tl ht1
    have rq := d sp hp1
    have q1 : p ≠ sd := n1
    refine k _ (setR (setR (setR R sd .said) tl .tal) sp .spk) (fun n => ⟨dx, sd, tl, sp, upd_same, ?_, SaidAt.nil ?_ ?_, TalAt.nil ?_ ?_, SpkAt.nil ?_ ?_⟩) ?_ ?_
    · rw [setR_ne n4, setR_ne n2, setR_ne n1]; exact rp
    · rw [setR_ne (Ne.symm n6), setR_ne (Ne.symm n3), setR_same]
    · rw [upd_ne (Ne.symm n1), upd_ne (Ne.symm n6), upd_ne (Ne.symm n1), upd_ne (Ne.symm n3), upd_ne (Ne.symm n1), upd_same]
    · rw [setR_ne (Ne.symm n5), setR_same]
    · rw [upd_ne (Ne.symm n2), upd_ne (Ne.symm n5), upd_ne (Ne.symm n2), upd_same]
    · rw [setR_same]
    · rw [upd_ne (Ne.symm n4), upd_same]
    · exact (((d.newR).upd.newR).upd.newR).upd
    · have m4 : grp .hrd ∈ [4] := by decide
      refine (Kp.newR hsd).trans ((Kp.upd (x := .hrd) ?_ m4).trans ((Kp.newR htl).trans ((Kp.upd (x := .hrd) ?_ m4).trans ((Kp.newR hsp).trans (Kp.upd (x := .hrd) ?_ m4)))))
      · rw [setR_ne n1]; exact rp
      · rw [setR_ne n2, setR_ne n1]; exact rp
      · rw [setR_ne n4, setR_ne n2, setR_ne n1]; exact rp
end
end Ag
namespace Ag
open PySem PySem.Spec PyProof.Rows L2
open Md13 (Msg Heard Act)
theorem big {n : Nat} (h : n ≤ 10000000) : n < sizeLine := Nat.lt_of_le_of_lt h (by decide)
theorem isT {A B : Prop} {b : Bool} (h : b = true) (q : A) : if b = true then A else B := by rw [if_pos h]; exact q
theorem isF {A B : Prop} {b : Bool} (h : b = false) (q : B) : if b = true then A else B := by rw [h, if_neg Bool.false_ne_true]; exact q
section
variable {P : Program} {w : World} {K : PySem.W.Frag} {mg : Str → Option Value} {base : Heap} {C : Cl}
/-! ### Heard.hear -/
def spHear (C : Cl) : Sp := fun vs H Q _ => ∃ (a : Addr) (R : Rf) (h : Heard) (n w : Nat) (m : Msg),
  vs = [.ref a, .int (w : Int), .int (kn m.kind : Nat), .int (m.round : Int), .int (m.value : Int), .int (fr m.from_)] ∧ HeardAt C H R a h n ∧ Dom R H ∧ w < n ∧ n ≤ 32 ∧ m.round < 64 ∧ h.length < 1000000 ∧
  ∀ H' R', HeardAt C H' R' a (hearL h w m) n → Dom R' H' → Kp [4, 5, 6, 7] R H R' H' → Q .non H'
theorem ok_H_hear (T : Txt K mg C) {f : Addr} {fd : FuncData} (F : Fun K "hear" "Heard.hear" s_H_hear f fd) : FnOk P w K mg base CX0 1 f fd ["self", "who", "kind", "number", "value", "known"] (spHear C) := by
  refine F.ok sc_H_hear (fun vs H Q E h => ?_) (fun cdv A outer s H vs Q E hr h => ?_)
  · obtain ⟨a, R, h, n, w, m, rfl, _⟩ := h
    rfl
  · have hu := hu_of hr
    obtain ⟨a, R, h, n, w, m, rfl, ⟨dx, sd, tl, sp, ha, ra, aS, aT, aP⟩, d, hw, hn, hr64, hlen, k⟩ := h
    refine ⟨_, (Evl.pss_cut (ps_set (i := 6) sc_H_hear.nd rfl (Or.inl rfl) (pe_dsetdT hu (pe_fld (pv 0) rfl) (pe_tup (pa_cons (pv 2) (pa_cons (pv 3) pa_nil))) pe_dnewK ⟨rfl, rfl, rfl, rfl⟩))
  (pss_cons (ps_if (pt_cmp (pc_din hu (pv 1) (pv 6)))
  (pss_one ps_retN)
  pss_nil)
  (pss_cons (ps_dput hu (pv 6) (pv 1) (pe_tup (pa_cons (pv 4) (pa_cons (pv 5) pa_nil))) rfl)
  (pss_cons (ps_fld (pv 0) (pe_op op_add (pe_fld (pv 0) rfl) pe_int) rfl)
  (Evl.pss_cut (ps_set (i := 7) sc_H_hear.nd rfl (Or.inl rfl) (pe_dsetdT hu (pe_fld (pv 0) rfl) (pe_tup (pa_cons (pv 2) (pa_cons (pv 3) pa_nil))) pe_dnewK ⟨rfl, rfl, rfl, rfl⟩))
  (pss_cons (ps_dput hu (pv 7) (pv 4) (pe_op op_add (pe_dget2 hu (pv 7) (pv 4) pe_int ⟨rfl, rfl, rfl, rfl⟩) pe_int) rfl)
  (Evl.pss_cut (ps_set (i := 8) sc_H_hear.nd rfl (Or.inl rfl) (pe_dsetd (pe_fld (pv 0) rfl) (pv 3) pe_dnewK ⟨rfl, rfl, rfl, rfl⟩))
  (pss_one (ps_dput hu (pv 8) (pv 1) pe_bl rfl))))))))), ?_⟩
    refine ⟨fun σ' H1 => ∃ b R1, σ' = [some (.ref a), some (.int (w : Int)), some (.int (kn m.kind : Nat)), some (.int (m.round : Int)), some (.int (m.value : Int)), some (.int (fr m.from_)), some (.ref b), none, none] ∧
      SKey H1 R1 sd h n (h.length + 1) m.kind m.round b ∧ (saidL h w m.kind m.round ≠ none → SaidAt H1 R1 sd h n h.length) ∧ Dom R1 H1 ∧ Kp [5] R H R1 H1, ?_, ?_⟩
    · -- sayings = self.said.setdefault((kind, number), {})
      obtain ⟨rs, kvs, es, lS, cS⟩ := id aS
      refine ⟨_, rfl, a, C.H, dx, _, _, rfl, ha, T.clH, T.nH_said, hF_said _ _ _ _, sd, rfl, .inr ⟨kvs, .inl es⟩, _, rfl, _, rfl, (by show 2 ≤ sizeLine; decide), fun t ht => ?_⟩
      intro q hq
      have s1 : Same H (upd H t (.tup [.int (kn m.kind : Nat), .int (m.round : Int)])) := same_new ht
      have s2 := s1.trans (same_new (o := .dK []) hq)
      refine ⟨kvs, keyOf (kn m.kind) m.round, t, s2 _ _ es, rfl, ?_, big (by omega), fun v hv => ?_, fun hv => ?_⟩
      · rw [upd_ne (ne_of_none upd_same hq)]; exact upd_same
      · have K2 : Kp [5] R H R _ := Kp.same s2
        have aS2 := aS.kp (Kp.same (S := []) s2) (by decide)
        obtain ⟨b, rfl, sk⟩ := said_here aS2 (s2 _ _ es) hv
        exact ⟨b, R, rfl, ⟨sk.1.le (Nat.le_succ _), sk.2⟩, fun _ => aS2, d.same s2, K2⟩
      · have d1 := d.same s1
        have K2 : Kp [5] R H (setR R q (.sIn (kn m.kind) m.round)) _ := (Kp.same s1).trans (Kp.newR (o := .dK []) hq)
        have aS2 := aS.kp ((Kp.same (S := []) s1).trans (Kp.newR (x := .sIn (kn m.kind) m.round) (o := .dK []) hq)) (by decide)
        refine ⟨q, _, rfl, said_set_new aS2 (s2 _ _ es) hv upd_same setR_same, fun z => ?_, (d1.newR).upd, K2.trans (Kp.upd aS2.1 (by decide))⟩
        have := cS m.kind m.round
        rw [hv] at this
        exact absurd (this w) z
    · rintro σ' H1 ⟨b, R1, rfl, sk, hold, d1, K1⟩
      have ha1 := (K1.role ha ra (by decide))
      obtain ⟨rb, kv, eb, lb, cb⟩ := sk.inner
      -- if who in sayings: return
      refine ⟨_, rfl, _, rfl, b, _, rfl, DGet.k (k := .inl (w : Int)) eb, _, rfl, ?_⟩
      have hsel := sel_isSome (cb w)
      cases hs : saidL h w m.kind m.round with
      | some x =>
        rw [hs] at hsel
        refine isT hsel ?_
        refine k H1 R1 ?_ d1 (K1.mono (by decide))
        have e : hearL h w m = h := if_pos (by rw [hs]; rfl)
        rw [e]
        exact ⟨dx, sd, tl, sp, ha1.1, ha1.2, hold (by rw [hs]; exact fun z => nomatch z), aT.kp K1 (by decide), aP.kp K1 (by decide)⟩
      | none =>
        rw [hs] at hsel
        refine isF hsel ?_
        -- sayings[who] = (value, known)
        refine ⟨_, rfl, _, rfl, (by show 2 ≤ sizeLine; decide), fun t ht => ?_⟩
        have s1 : Same H1 (upd H1 t (.tup [.int (m.value : Int), .int (fr m.from_)])) := same_new ht
        have lkv : kv.length < sizeLine := big (by have := filter_le n (fun w => tst (fun _ => true) (saidL h w m.kind m.round)); rw [lb]; unfold cnt; omega)
        refine ⟨_, rfl, _, rfl, b, _, rfl, DPut.k (k := .inl (w : Int)) (s1 _ _ eb) lkv, ?_⟩
        have sk2 := sk.kp (Kp.same (S := []) s1) (by decide)
        have rt : R1 t = none := d1 t ht
        have aS3 := said_put sk2 (s1 _ _ eb) hs hw upd_same rt
        have K3 : Kp [5] R1 H1 R1 (upd (upd H1 t (.tup [.int (m.value : Int), .int (fr m.from_)])) b (.dK (putK kv (.inl (w : Int)) (.ref t)))) := (Kp.same s1).trans (Kp.upd rb (List.mem_singleton.mpr rfl))
        have d3 : Dom R1 (upd (upd H1 t (.tup [.int (m.value : Int), .int (fr m.from_)])) b (.dK (putK kv (.inl (w : Int)) (.ref t)))) := (d1.same s1).upd
        generalize (upd (upd H1 t (.tup [.int (m.value : Int), .int (fr m.from_)])) b (.dK (putK kv (.inl (w : Int)) (.ref t)))) = H3 at aS3 K3 d3 ⊢
        have K03 := K1.trans K3
        have ha3 := K03.role ha ra (by decide)
        -- self.kept = self.kept + 1
        refine ⟨_, rfl, a, C.H, dx, _, _, rfl, ha3.1, T.clH, T.nH_kept, hF_kept _ _ _ _, _, _, rfl, rfl, _, rfl, a, C.H, dx, _, rfl, ha3.1, T.clH, T.nH_kept, (by rw [hF_len]; decide), ?_⟩
        rw [hF_put]
        have K4 : Kp [4] R1 H3 R1 (upd H3 a (.ins C.H dx (hF sd tl sp (h.length + 1)))) := Kp.upd ha3.2 (by decide)
        have aS4 := aS3.kp K4 (by decide)
        have aT4 := (aT.kp K03 (by decide)).kp K4 (by decide)
        have aP4 := (aP.kp K03 (by decide)).kp K4 (by decide)
        have d4 : Dom R1 (upd H3 a (.ins C.H dx (hF sd tl sp (h.length + 1)))) := d3.upd
        have ha4 : upd H3 a (.ins C.H dx (hF sd tl sp (h.length + 1))) a = some (.ins C.H dx (hF sd tl sp (h.length + 1))) := upd_same
        have K04 : Kp [4, 5] R H R1 (upd H3 a (.ins C.H dx (hF sd tl sp (h.length + 1)))) := (K03.mono (by decide)).trans (K4.mono (by decide))
        generalize upd H3 a (.ins C.H dx (hF sd tl sp (h.length + 1))) = H4 at aS4 aT4 aP4 d4 ha4 K04 ⊢
        have ra4 := ha3.2
        -- tally = self.tallies.setdefault((kind, number), {})
        refine ⟨fun σ' H5 => ∃ c R5, σ' = [some (.ref a), some (.int (w : Int)), some (.int (kn m.kind : Nat)), some (.int (m.round : Int)), some (.int (m.value : Int)), some (.int (fr m.from_)), some (.ref b), some (.ref c), none] ∧
          TKey H5 R5 tl h n (h.length + 1) m.kind m.round c ∧ Dom R5 H5 ∧ Kp [6] R1 H4 R5 H5, ?_, ?_⟩
        · obtain ⟨rs, kvs, es, lS, cS⟩ := id aT4
          refine ⟨_, rfl, a, C.H, dx, _, _, rfl, ha4, T.clH, T.nH_tallies, hF_tal _ _ _ _, tl, rfl, .inr ⟨kvs, .inl es⟩, _, rfl, _, rfl, (by show 2 ≤ sizeLine; decide), fun t ht => ?_⟩
          intro q hq
          have s1 : Same H4 (upd H4 t (.tup [.int (kn m.kind : Nat), .int (m.round : Int)])) := same_new ht
          have s2 := s1.trans (same_new (o := .dK []) hq)
          refine ⟨kvs, keyOf (kn m.kind) m.round, t, s2 _ _ es, rfl, ?_, big (by omega), fun v hv => ?_, fun hv => ?_⟩
          · rw [upd_ne (ne_of_none upd_same hq)]; exact upd_same
          · have aS2 := aT4.kp (Kp.same (S := []) s2) (by decide)
            obtain ⟨b, rfl, sk⟩ := tal_here aS2 (s2 _ _ es) hv
            exact ⟨b, R1, rfl, ⟨sk.1.le (Nat.le_succ _), sk.2⟩, d4.same s2, Kp.same s2⟩
          · have d5 := d4.same s1
            have K2 : Kp [6] R1 H4 (setR R1 q (.tIn (kn m.kind) m.round)) _ := (Kp.same s1).trans (Kp.newR (o := .dK []) hq)
            have aS2 := aT4.kp ((Kp.same (S := []) s1).trans (Kp.newR (x := .tIn (kn m.kind) m.round) (o := .dK []) hq)) (by decide)
            exact ⟨q, _, rfl, tal_set_new aS2 (s2 _ _ es) hv upd_same setR_same, (d5.newR).upd, K2.trans (Kp.upd aS2.1 (by decide))⟩
        · rintro σ' H5 ⟨c, R5, rfl, tk, d5, K5⟩
          obtain ⟨rc, kv2, ec, lc, cc⟩ := tk.inner
          -- tally[value] = tally.get(value, 0) + 1
          refine ⟨_, rfl, c, rfl, .inl ⟨kv2, .inl ec⟩, _, rfl, _, DGet.k (k := .inl (m.value : Int)) ec, ?_⟩
          have hc := cc m.value
          refine ⟨((cnt h n m.kind m.round (fun y => y == m.value) : Nat) : Int), 1, hc, rfl, ?_⟩
          have lkv2 : kv2.length < sizeLine := big (by have := filter_le n (fun w => tst (fun _ => true) (saidL h w m.kind m.round)); unfold cnt at lc; omega)
          refine ⟨_, rfl, _, rfl, c, _, rfl, DPut.k (k := .inl (m.value : Int)) ec lkv2, ?_⟩
          have aT6 := tal_put tk ec hs hw
          have K6 : Kp [6] R5 H5 R5 (upd H5 c (.dK (putK kv2 (.inl (m.value : Int)) (.int ((cnt h n m.kind m.round (fun y => y == m.value) : Nat) + 1 : Int))))) := Kp.upd rc (List.mem_singleton.mpr rfl)
          have d6 : Dom R5 (upd H5 c (.dK (putK kv2 (.inl (m.value : Int)) (.int ((cnt h n m.kind m.round (fun y => y == m.value) : Nat) + 1 : Int))))) := d5.upd
          generalize (upd H5 c (.dK (putK kv2 (.inl (m.value : Int)) (.int ((cnt h n m.kind m.round (fun y => y == m.value) : Nat) + 1 : Int))))) = H6 at aT6 K6 d6 ⊢
          have K46 := K5.trans K6
          have aS6 := aS4.kp K46 (by decide)
          have aP6 := aP4.kp K46 (by decide)
          have ha6 := K46.role ha4 ra4 (by decide)
          have K06 : Kp [4, 5, 6] R H R5 H6 := (K04.mono (by decide)).trans (K46.mono (by decide))
          -- members = self.speakers.setdefault(number, {})
          refine ⟨fun σ' H7 => ∃ g R7, σ' = [some (.ref a), some (.int (w : Int)), some (.int (kn m.kind : Nat)), some (.int (m.round : Int)), some (.int (m.value : Int)), some (.int (fr m.from_)), some (.ref b), some (.ref c), some (.ref g)] ∧
            PKey H7 R7 sp h n (h.length + 1) m.round g ∧ Dom R7 H7 ∧ Kp [7] R5 H6 R7 H7, ?_, ?_⟩
          · obtain ⟨rs, kvs, es, lS, gS, cS⟩ := id aP6
            refine ⟨_, rfl, a, C.H, dx, _, _, rfl, ha6.1, T.clH, T.nH_speakers, hF_spk _ _ _ _, sp, rfl, .inl ⟨kvs, .inl es⟩, _, rfl, fun q hq => ?_⟩
            have s2 : Same H6 (upd H6 q (.dK [])) := same_new hq
            refine ⟨kvs, .inl (m.round : Int), s2 _ _ es, rfl, big (by omega), fun v hv => ?_, fun hv => ?_⟩
            · have aS2 := aP6.kp (Kp.same (S := []) s2) (by decide)
              obtain ⟨b, rfl, sk⟩ := spk_here aS2 (s2 _ _ es) hv
              exact ⟨b, R5, rfl, ⟨sk.1.le (Nat.le_succ _), sk.2⟩, d6.same s2, Kp.same s2⟩
            · have K2 : Kp [7] R5 H6 (setR R5 q (.pIn m.round)) _ := Kp.newR (o := .dK []) hq
              have aS2 := aP6.kp (Kp.newR (S := []) (x := .pIn m.round) (o := .dK []) hq) (by decide)
              exact ⟨q, _, rfl, spk_set_new aS2 (s2 _ _ es) hv upd_same setR_same hr64, (d6.newR).upd, K2.trans (Kp.upd aS2.1 (by decide))⟩
          · rintro σ' H7 ⟨g, R7, rfl, pk, d7, K7⟩
            obtain ⟨rg, kv3, eg, lg, cg⟩ := pk.inner
            -- members[who] = True
            have lkv3 : kv3.length < sizeLine := big (by have := filter_le n (fun w => anyIn h m.round w); rw [lg]; unfold loud; omega)
            refine ⟨_, rfl, _, rfl, g, _, rfl, DPut.k (k := .inl (w : Int)) eg lkv3, ?_⟩
            have aP8 := spk_put pk eg hw
            have K8 := K7.trans (Kp.upd (S := [7]) (o := .dK (putK kv3 (.inl (w : Int)) (.bl true))) rg (List.mem_singleton.mpr rfl))
            refine k _ R7 ?_ d7.upd ((K06.mono (by decide)).trans (K8.mono (by decide)))
            have e : hearL h w m = h ++ [(w, m)] := if_neg (by rw [hs]; exact Bool.false_ne_true)
            have ha8 := K8.role ha6.1 ha6.2 (by decide)
            rw [e]
            have el : (h ++ [(w, m)]).length = h.length + 1 := by rw [List.length_append]; rfl
            refine ⟨dx, sd, tl, sp, by rw [el]; exact ha8.1, ha8.2, ?_, ?_, ?_⟩
            · rw [el]; exact aS6.kp K8 (by decide)
            · rw [el]; exact aT6.kp K8 (by decide)
            · rw [el]; exact aP8
end
end Ag
namespace Ag
open PySem PySem.Spec PyProof.Rows L2
open Md13 (Msg Heard Act)
/-- an offer, as the program has it -/
def OfV (H : Hp) (R : Rf) (v : V) : Option Msg → Prop
  | none => v = .non
  | some m => ∃ t, v = .ref t ∧ R t = none ∧ H t = some (.tup [.int (m.value : Int), .int (fr m.from_)])
theorem OfV.kp {S : List Nat} {H H' : Hp} {R R' : Rf} {v : V} (K : Kp S R H R' H') : ∀ {m : Option Msg}, OfV H R v m → OfV H' R' v m
  | none, e => e
  | some m, ⟨t, e, r, a⟩ => by obtain ⟨a', r'⟩ := K.bare a r; exact ⟨t, e, r', a'⟩
def aheadL (h : Heard) (n above many : Nat) : Option Nat := (List.range 64).reverse.find? fun r => decide (above < r) && decide (many < loud h n r)
theorem ahead_L (s : Md13.St) : Md13.ahead s = aheadL s.heard s.n s.round (Md13.liars s.n) := rfl
def optV (o : Option Nat) : V := match o with
  | none => .non
  | some r => .int (r : Int)
theorem SpkAt.key {H : Hp} {R : Rf} {sp : Addr} {h : Heard} {n L r : Nat} (A : SpkAt H R sp h n L) {kvs : List (Key × V)} (e : H sp = some (.dK kvs)) (hl : 0 < loud h n r) : (.inl (r : Int) : Key) ∈ kvs.map (·.1) := by
  obtain ⟨rs, kvs', es, l, g, c⟩ := A
  rw [e] at es
  cases es
  have c0 := c r
  cases q : valV kvs (.inl (r : Int)) with
  | none =>
    rw [q] at c0
    have := loud_none (n := n) (show ∀ w, anyIn h r w = false from c0)
    omega
  | some v => exact valV_in q
section
variable {P : Program} {w : World} {K : PySem.W.Frag} {mg : Str → Option Value} {base : Heap} {C : Cl}
/-! ### Heard.votes -/
def spVotes (C : Cl) : Sp := fun vs H Q _ => ∃ (a : Addr) (R : Rf) (h : Heard) (n r v : Nat) (k : Md13.Kind),
  vs = [.ref a, .int (kn k : Nat), .int (r : Int), .int (v : Int)] ∧ HeardAt C H R a h n ∧ ∀ H', Same H H' → Q (.int (cnt h n k r (fun y => y == v) : Nat)) H'
theorem ok_H_votes (T : Txt K mg C) {f : Addr} {fd : FuncData} (F : Fun K "votes" "Heard.votes" s_H_votes f fd) : FnOk P w K mg base CX0 1 f fd ["self", "kind", "number", "value"] (spVotes C) := by
  refine F.ok sc_H_votes (fun vs H Q E h => ?_) (fun cdv A outer s H vs Q E hr h => ?_)
  · obtain ⟨a, R, h, n, r, v, k, rfl, _⟩ := h
    rfl
  · have hu := hu_of hr
    obtain ⟨a, R, h, n, r, v, k, rfl, ⟨dx, sd, tl, sp, ha, ra, aS, aT, aP⟩, go⟩ := h
    refine ⟨_, (pss_one (ps_ret (pe_dget2 hu (pe_dget2 hu (pe_fld (pv 0) rfl) (pe_tup (pa_cons (pv 1) (pa_cons (pv 2) pa_nil))) pe_dnewK ⟨rfl, rfl, rfl, rfl⟩) (pv 3) pe_int ⟨rfl, rfl, rfl, rfl⟩))), ?_⟩
    obtain ⟨rs, kvs, es, lS, cS⟩ := id aT
    refine ⟨_, rfl, a, C.H, dx, _, _, rfl, ha, T.clH, T.nH_tallies, hF_tal _ _ _ _, tl, rfl, .inr ⟨kvs, .inl es⟩, _, rfl, _, rfl, (by show 2 ≤ sizeLine; decide), fun t ht => ?_⟩
    intro q hq
    have s1 : Same H (upd H t (.tup [.int (kn k : Nat), .int (r : Int)])) := same_new ht
    have s2 := s1.trans (same_new (o := .dK []) hq)
    have et : upd (upd H t (.tup [.int (kn k : Nat), .int (r : Int)])) q (.dK []) t = some (.tup ((keyOf (kn k) r).map kV)) := by
      rw [upd_ne (ne_of_none upd_same hq)]; exact upd_same
    refine ⟨_, DGet.t (s2 _ _ es) et, ?_⟩
    have c0 := cS k r
    cases hv : valV kvs (keyOf (kn k) r) with
    | none =>
      rw [hv] at c0
      refine ⟨q, rfl, .inl ⟨[], .inl upd_same⟩, _, rfl, _, DGet.k (k := .inl (v : Int)) upd_same, ?_⟩
      have := go _ s2
      rw [cnt_none c0] at this
      exact this
    | some x =>
      rw [hv] at c0
      obtain ⟨b, kv, rfl, rb, eb, lb, cb⟩ := (show TIn H R h n k r x from c0)
      refine ⟨b, rfl, .inl ⟨kv, .inl (s2 _ _ eb)⟩, _, rfl, _, DGet.k (k := .inl (v : Int)) (s2 _ _ eb), ?_⟩
      rw [cb v]
      exact go _ s2
/-! ### Heard.voters -/
def spVoters (C : Cl) : Sp := fun vs H Q _ => ∃ (a : Addr) (R : Rf) (h : Heard) (n r : Nat) (k : Md13.Kind),
  vs = [.ref a, .int (kn k : Nat), .int (r : Int)] ∧ HeardAt C H R a h n ∧ ∀ H', Same H H' → Q (.int (cnt h n k r (fun _ => true) : Nat)) H'
theorem ok_H_voters (T : Txt K mg C) {f : Addr} {fd : FuncData} (F : Fun K "voters" "Heard.voters" s_H_voters f fd) : FnOk P w K mg base CX0 1 f fd ["self", "kind", "number"] (spVoters C) := by
  refine F.ok sc_H_voters (fun vs H Q E h => ?_) (fun cdv A outer s H vs Q E hr h => ?_)
  · obtain ⟨a, R, h, n, r, k, rfl, _⟩ := h
    rfl
  · have hu := hu_of hr
    obtain ⟨a, R, h, n, r, k, rfl, ⟨dx, sd, tl, sp, ha, ra, aS, aT, aP⟩, go⟩ := h
    refine ⟨_, (pss_one (ps_ret (pe_callB call_lenD (by rfl) T.b_len PySem.boot_len (pa_cons (pe_dget2 hu (pe_fld (pv 0) rfl) (pe_tup (pa_cons (pv 1) (pa_cons (pv 2) pa_nil))) pe_dnewK ⟨rfl, rfl, rfl, rfl⟩) pa_nil)))), ?_⟩
    obtain ⟨rs, kvs, es, lS, cS⟩ := id aS
    refine ⟨_, rfl, a, C.H, dx, _, _, rfl, ha, T.clH, T.nH_said, hF_said _ _ _ _, sd, rfl, .inr ⟨kvs, .inl es⟩, _, rfl, _, rfl, (by show 2 ≤ sizeLine; decide), fun t ht => ?_⟩
    intro q hq
    have s1 : Same H (upd H t (.tup [.int (kn k : Nat), .int (r : Int)])) := same_new ht
    have s2 := s1.trans (same_new (o := .dK []) hq)
    have et : upd (upd H t (.tup [.int (kn k : Nat), .int (r : Int)])) q (.dK []) t = some (.tup ((keyOf (kn k) r).map kV)) := by
      rw [upd_ne (ne_of_none upd_same hq)]; exact upd_same
    refine ⟨_, DGet.t (s2 _ _ es) et, ?_⟩
    have c0 := cS k r
    cases hv : valV kvs (keyOf (kn k) r) with
    | none =>
      rw [hv] at c0
      refine ⟨q, [], rfl, upd_same, ?_⟩
      have := go _ s2
      rw [cnt_none c0] at this
      exact this
    | some x =>
      rw [hv] at c0
      obtain ⟨b, kv, rfl, rb, eb, lb, cb⟩ := (show SIn H R h n k r x from c0)
      refine ⟨b, kv, rfl, s2 _ _ eb, ?_⟩
      rw [lb]
      exact go _ s2
/-! ### Heard.offer -/
def spHOffer (C : Cl) : Sp := fun vs H Q _ => ∃ (a : Addr) (R : Rf) (h : Heard) (n r o : Nat),
  vs = [.ref a, .int (r : Int), .int (o : Int)] ∧ HeardAt C H R a h n ∧ ∀ H' v, Same H H' → OfV H' R v (saidL h o .offer r) → Q v H'
theorem ok_H_offer (T : Txt K mg C) {f : Addr} {fd : FuncData} (F : Fun K "offer" "Heard.offer" s_H_offer f fd) : FnOk P w K mg base CX0 1 f fd ["self", "number", "offerer"] (spHOffer C) := by
  refine F.ok sc_H_offer (fun vs H Q E h => ?_) (fun cdv A outer s H vs Q E hr h => ?_)
  · obtain ⟨a, R, h, n, r, o, rfl, _⟩ := h
    rfl
  · have hu := hu_of hr
    obtain ⟨a, R, h, n, r, o, rfl, ⟨dx, sd, tl, sp, ha, ra, aS, aT, aP⟩, go⟩ := h
    refine ⟨_, (pss_one (ps_ret (pe_dget2 hu (pe_dget2 hu (pe_fld (pv 0) rfl) (pe_tup (pa_cons (pgi (by rfl) T.gOFFER) (pa_cons (pv 1) pa_nil))) pe_dnewK ⟨rfl, rfl, rfl, rfl⟩) (pv 2) pe_non ⟨rfl, rfl, rfl, rfl⟩))), ?_⟩
    obtain ⟨rs, kvs, es, lS, cS⟩ := id aS
    refine ⟨_, rfl, a, C.H, dx, _, _, rfl, ha, T.clH, T.nH_said, hF_said _ _ _ _, sd, rfl, .inr ⟨kvs, .inl es⟩, _, rfl, (by show 2 ≤ sizeLine; decide), fun t ht => ?_⟩
    intro q hq
    have s1 : Same H (upd H t (.tup [.int 1, .int (r : Int)])) := same_new ht
    have s2 := s1.trans (same_new (o := .dK []) hq)
    have et : upd (upd H t (.tup [.int 1, .int (r : Int)])) q (.dK []) t = some (.tup ((keyOf (kn .offer) r).map kV)) := by
      rw [upd_ne (ne_of_none upd_same hq)]; exact upd_same
    refine ⟨_, DGet.t (s2 _ _ es) et, ?_⟩
    have c0 := cS .offer r
    cases hv : valV kvs (keyOf (kn .offer) r) with
    | none =>
      rw [hv] at c0
      refine ⟨q, rfl, .inl ⟨[], .inl upd_same⟩, _, rfl, _, DGet.k (k := .inl (o : Int)) upd_same, ?_⟩
      refine go _ _ s2 ?_
      rw [(show ∀ w, saidL h w .offer r = none from c0) o]
      rfl
    | some x =>
      rw [hv] at c0
      obtain ⟨b, kv, rfl, rb, eb, lb, cb⟩ := (show SIn H R h n .offer r x from c0)
      refine ⟨b, rfl, .inl ⟨kv, .inl (s2 _ _ eb)⟩, _, rfl, _, DGet.k (k := .inl (o : Int)) (s2 _ _ eb), ?_⟩
      refine go _ _ s2 ?_
      have c1 := cb o
      cases u1 : valV kv (.inl (o : Int)) with
      | none =>
        rw [u1] at c1
        cases u2 : saidL h o .offer r with
        | none => rfl
        | some m => rw [u2] at c1; exact c1.elim
      | some u =>
        rw [u1] at c1
        cases u2 : saidL h o .offer r with
        | none => rw [u2] at c1; exact c1.elim
        | some m =>
          rw [u2] at c1
          obtain ⟨t', a1, a2, a3⟩ := c1
          exact ⟨t', a1, a2, s2 _ _ a3⟩
/-! ### Heard.loud_round -/
def spLoud (C : Cl) : Sp := fun vs H Q _ => ∃ (a : Addr) (R : Rf) (h : Heard) (n above many : Nat),
  vs = [.ref a, .int (above : Int), .int (many : Int)] ∧ HeardAt C H R a h n ∧ ∀ H', Same H H' → Q (optV (aheadL h n above many)) H'
theorem ok_H_loud (T : Txt K mg C) {f : Addr} {fd : FuncData} (F : Fun K "loud_round" "Heard.loud_round" s_H_loud_round f fd) : FnOk P w K mg base CX0 1 f fd ["self", "above", "many"] (spLoud C) := by
  refine F.ok sc_H_loud_round (fun vs H Q E h => ?_) (fun cdv A outer s H vs Q E hr h => ?_)
  · obtain ⟨a, R, h, n, r, o, rfl, _⟩ := h
    rfl
  · have hu := hu_of hr
    obtain ⟨a, R, h, n, above, many, rfl, ⟨dx, sd, tl, sp, ha, ra, aS, aT, aP⟩, go⟩ := h
    refine ⟨_, (pss_cons (ps_set (i := 3) sc_H_loud_round.nd rfl (Or.inl rfl) pe_non)
  (pss_cons (ps_for PassesOwn.never rfl (pi_list (pe_callB cr_sortedI (by rfl) T.b_sorted (by decide +kernel) (pa_cons (pe_callTy (call_list_dK rfl) (by rfl) T.b_list (by decide +kernel) (pa_cons (pe_fld (pv 0) rfl) pa_nil)) pa_nil))) (pg_name (i := 4) sc_H_loud_round.nd rfl (Or.inl rfl))
  (pss_one (ps_if (PW.pt (pw_and (pt_cmpR op_gt (pv 4) (pv 1) (nomark _)) (pw_and1 (pt_cmpR op_gt (pe_callB call_lenD (by rfl) T.b_len PySem.boot_len (pa_cons (pe_dget hu (pe_fld (pv 0) rfl) (pv 4) (fun _ _ => rfl)) pa_nil)) (pv 2) (nomark _)))))
  (pss_one (ps_set (i := 3) sc_H_loud_round.nd rfl (Or.inl rfl) (pv 4)))
  pss_nil)))
  (pss_one (ps_ret (pv 3))))), ?_⟩
    obtain ⟨rs, kvs, es, lS, gS, cS⟩ := id aP
    -- the keys as ints
    have keysI : ∀ l : List (Key × V), (∀ p ∈ l, ∃ r : Nat, r < 64 ∧ p.1 = .inl (r : Int)) → ∃ ks : List Int, (l.map fun kv => kV kv.1) = ks.map V.int ∧ ∀ x : Int, x ∈ ks ↔ (.inl x : Key) ∈ l.map (·.1) := by
      intro l
      induction l with
      | nil => exact fun _ => ⟨[], rfl, fun x => by simp⟩
      | cons p l ih =>
        intro g
        obtain ⟨ks, e, c⟩ := ih fun q hq => g q (List.mem_cons_of_mem _ hq)
        obtain ⟨r, _, er⟩ := g p List.mem_cons_self
        refine ⟨(r : Int) :: ks, ?_, fun x => ?_⟩
        · rw [List.map_cons, List.map_cons, e, er]
          rfl
        · rw [List.mem_cons, List.map_cons, List.mem_cons, c, er]
          simp
    obtain ⟨ks, eks, cks⟩ := keysI kvs gS
    refine ⟨_, rfl, a, C.H, dx, _, _, rfl, ha, T.clH, T.nH_speakers, hF_spk _ _ _ _, sp, kvs, rfl, es, fun l hl => ?_⟩
    have s1 : Same H (upd H l (.lst (kvs.map fun kv => kV kv.1))) := same_new hl
    refine ⟨l, ks, rfl, ?_, fun ns z perm rising hz => ?_⟩
    · rw [← eks]; exact SqL.of upd_same
    have s2 := s1.trans (same_new (o := .lst (ns.map V.int)) hz)
    let cond : Nat → Bool := fun r => decide (above < r) && decide (many < loud h n r)
    have memN : ∀ x ∈ ns, ∃ r : Nat, r < 64 ∧ x = (r : Int) := fun x hx => by
      have := (cks x).mp (perm.mem_iff.mp hx)
      obtain ⟨p, hp, ep⟩ := List.mem_map.mp this
      obtain ⟨r, hr, er⟩ := gS p hp
      rw [er] at ep
      exact ⟨r, hr, (Sum.inl.inj ep).symm⟩
    refine ⟨z, rfl, ⟨_, SqL.of upd_same⟩, for_list (K := K) (a := z) (xs := ns.map V.int) (fun i σ H' => ∃ fv y, σ = [some (.ref a), some (.int (above : Int)), some (.int (many : Int)), some fv, y] ∧ Same (upd (upd H l (.lst (kvs.map fun kv => kV kv.1))) z (.lst (ns.map V.int))) H' ∧
      ((fv = .non ∧ ∀ r : Nat, (r : Int) ∈ ns.take i → cond r = false) ∨ ∃ r : Nat, fv = .int (r : Int) ∧ cond r = true ∧ (r : Int) ∈ ns ∧ (r : Int) ∈ ns.take i ∧ ∀ r' : Nat, (r' : Int) ∈ ns.take i → cond r' = true → r' ≤ r))
      ⟨.non, none, rfl, Same.refl _, .inl ⟨rfl, fun r hr => by simp at hr⟩⟩ (fun i σ H' _ ⟨_, _, _, s5, _⟩ => s5.seq (SqL.of upd_same)) ?_ ?_⟩
    · rintro i y σ H' hi ⟨fv, y0, rfl, s5, best⟩
      obtain ⟨x, hx, rfl⟩ : ∃ x, ns[i]? = some x ∧ y = V.int x := by
        rw [List.getElem?_map] at hi
        cases e : ns[i]? with
        | none => rw [e] at hi; cases hi
        | some x => rw [e] at hi; exact ⟨x, rfl, (Option.some.inj hi).symm⟩
      have hxm : x ∈ ns := List.mem_of_getElem? hx
      obtain ⟨r, hr64, rfl⟩ := memN x hxm
      have tk : ns.take (i + 1) = ns.take i ++ [(r : Int)] := by rw [List.take_add_one, hx]; rfl
      have before : ∀ r' : Nat, (r' : Int) ∈ ns.take i → r' ≤ r := fun r' h' => by
        have pw : (ns.take i ++ [(r : Int)]).Pairwise (· ≤ ·) := by rw [← tk]; exact rising.sublist (List.take_sublist _ _)
        have := (List.pairwise_append.mp pw).2.2 _ h' (r : Int) (by simp)
        omega
      have sa := s2.trans s5
      -- if number > above and len(self.speakers[number]) > many: found = number
      have stay : cond r = false → ((fv = .non ∧ ∀ r : Nat, (r : Int) ∈ ns.take (i + 1) → cond r = false) ∨ ∃ r : Nat, fv = .int (r : Int) ∧ cond r = true ∧ (r : Int) ∈ ns ∧ (r : Int) ∈ ns.take (i + 1) ∧ ∀ r' : Nat, (r' : Int) ∈ ns.take (i + 1) → cond r' = true → r' ≤ r) := fun hc => by
        rcases best with ⟨e1, e2⟩ | ⟨r0, e1, e2, e3, e4, e5⟩
        · refine .inl ⟨e1, fun r' h' => ?_⟩
          rw [tk] at h'
          rcases List.mem_append.mp h' with h' | h'
          · exact e2 r' h'
          · have : r' = r := by have := List.mem_singleton.mp h'; omega
            rw [this]; exact hc
        · refine .inr ⟨r0, e1, e2, e3, by rw [tk]; exact List.mem_append_left _ e4, fun r' h' c' => ?_⟩
          rw [tk] at h'
          rcases List.mem_append.mp h' with h' | h'
          · exact e5 r' h' c'
          · have : r' = r := by have := List.mem_singleton.mp h'; omega
            rw [this, hc] at c'; cases c'
      refine ⟨_, rfl, _, rfl, _, _, rfl, rfl, _, rfl, ?_⟩
      by_cases c1 : (above : Int) < (r : Int)
      · refine isT (decide_eq_true c1) ?_
        have hk : (.inl (r : Int) : Key) ∈ kvs.map (·.1) := (cks _).mp (perm.mem_iff.mp hxm)
        have c0 := cS r
        cases hv : valV kvs (.inl (r : Int)) with
        | none => exact absurd hk (valV_not hv)
        | some x =>
          rw [hv] at c0
          obtain ⟨b, kv, rfl, rb, eb, lb, cb⟩ := (show PIn H R h n r x from c0)
          refine ⟨_, rfl, a, C.H, dx, _, _, rfl, sa _ _ ha, T.clH, T.nH_speakers, hF_spk _ _ _ _, _, rfl, sp, .ref b, rfl, ?_, b, kv, rfl, sa _ _ eb, ?_⟩
          · have := DGet.k (k := .inl (r : Int)) (sa _ _ es)
            rw [hv] at this
            exact this
          refine ⟨_, rfl, _, _, rfl, rfl, _, rfl, ?_⟩
          by_cases c2 : (many : Int) < (kv.length : Int)
          · have hc : cond r = true := by
              show (decide (above < r) && decide (many < loud h n r)) = true
              rw [decide_eq_true (by omega), decide_eq_true (by omega)]; rfl
            refine isT (decide_eq_true c2) ⟨_, rfl, .int (r : Int), _, rfl, s5, .inr ⟨r, rfl, hc, hxm, by rw [tk]; simp, fun r' h' c' => ?_⟩⟩
            rw [tk] at h'
            rcases List.mem_append.mp h' with h' | h'
            · exact before r' h'
            · have := List.mem_singleton.mp h'; omega
          · refine isF (decide_eq_false c2) ⟨fv, _, rfl, s5, stay ?_⟩
            show (decide (above < r) && decide (many < loud h n r)) = false
            rw [decide_eq_false (show ¬ many < loud h n r by omega), Bool.and_false]
      · refine isF (decide_eq_false c1) (isF rfl ⟨fv, _, rfl, s5, stay ?_⟩)
        show (decide (above < r) && decide (many < loud h n r)) = false
        rw [decide_eq_false (show ¬ above < r by omega), Bool.false_and]
    · rintro σ H' ⟨fv, y0, rfl, s5, best⟩
      rw [List.length_map, List.take_length] at best
      refine ⟨_, rfl, ?_⟩
      have inN : ∀ r : Nat, cond r = true → (r : Int) ∈ ns := fun r hc => by
        have h2 : (decide (above < r) && decide (many < loud h n r)) = true := hc
        rw [Bool.and_eq_true, decide_eq_true_eq, decide_eq_true_eq] at h2
        exact perm.mem_iff.mpr ((cks _).mpr (aP.key es (by omega)))
      have e : optV (aheadL h n above many) = fv := by
        rcases best with ⟨e1, e2⟩ | ⟨r0, e1, e2, e3, e4, e5⟩
        · have : aheadL h n above many = none := find_rev_is_none fun j hj => by
            cases q : cond j with
            | false => exact q
            | true => exact absurd (e2 j (inN j q)) (by rw [q]; exact Bool.noConfusion)
          rw [this, e1]; rfl
        · obtain ⟨r1, h64, er⟩ := memN _ e3
          have : aheadL h n above many = some r0 := find_rev_is (by omega) e2 fun j h1 h2 => by
            cases q : cond j with
            | false => exact q
            | true => have := e5 j (inN j q) q; omega
          rw [this, e1]; rfl
      have := go H' (s2.trans s5)
      rw [e] at this
      exact this
end
end Ag
namespace Ag
open PySem PySem.Spec PyProof.Rows L2
open Md13 (Msg Heard)
/-! ### a member, as it lies in the heap -/
def parts (a : Md13.At) : Nat := match a with
  | .offering => 1
  | .first => 2
  | .second => 3
def lockV (o : Option (Nat × Nat)) : List V := match o with
  | none => [.int 0, .int (-1)]
  | some l => [.int (l.1 : Int), .int (l.2 : Int)]
def mV (s : Md13.St) (d l t1 t2 hd o : Addr) : List V :=
  [.int (s.n : Int), .int (s.me : Int), .int (s.mine : Int), .int (Md13.liars s.n : Nat), .int (Md13.enough s.n : Nat), .bl s.begun, .ref d, .ref l, .int (s.height : Int), .int (s.round : Int), .int (parts s.at_ : Nat), .ref t1, .ref t2, .ref hd, .ref o]
def mF (s : Md13.St) (d l t1 t2 hd o : Addr) : List (Str × V) := mKeys.zip (mV s d l t1 t2 hd o)
section
variable (H : Hp) (R : Rf)
def DecAt (d : Addr) (dl : List Nat) : Prop := R d = some .dec ∧ ∃ kvs : List (Key × V), H d = some (.dK kvs) ∧ kvs.length ≤ dl.length ∧ ∀ h : Nat, valV kvs (.inl ((h + 1 : Nat) : Int)) = (dl.reverse[h]?).map fun v => V.int (v : Int)
def ActAt (p : Addr) (x : Md13.Act) : Prop := R p = some .act ∧ H p = some (.lst ((Md13.shown x).map V.int))
def ThAt (l : Addr) (acts : List Md13.Act) : Prop := R l = some .things ∧ ∃ ps : List Addr, H l = some (.lst (ps.map V.ref)) ∧ Paired (ActAt H R) ps acts
def OnceAt (o : Addr) (b4 b2 b3 : Bool) : Prop := R o = some .once ∧ ∃ kvs : List (Key × V), H o = some (.dK kvs) ∧ (valV kvs (.inr "lock")).isSome = !b4 ∧ (valV kvs (.inr "first")).isSome = !b2 ∧ (valV kvs (.inr "second")).isSome = !b3 ∧
  kvs.length + (b2n b4 + (b2n b2 + b2n b3)) ≤ 3
def PairAt (t : Addr) (o : Option (Nat × Nat)) : Prop := R t = none ∧ H t = some (.tup (lockV o))
end
structure MA (C : Cl) (H : Hp) (R : Rf) (a : Addr) (s : Md13.St) (acts : List Md13.Act) (dx d l t1 t2 hd o : Addr) : Prop where
  at_ : H a = some (.ins C.M dx (mF s d l t1 t2 hd o))
  ro : R a = some .mem
  dec : DecAt H R d s.decided
  th : ThAt H R l acts
  lk : PairAt H R t1 s.locked
  gd : PairAt H R t2 s.good
  hrd : HeardAt C H R hd s.heard s.n
  on : OnceAt H R o (Md13.may s 4) (Md13.may s 2) (Md13.may s 3)
  dom : Dom R H
def MemAt (C : Cl) (H : Hp) (R : Rf) (a : Addr) (s : Md13.St) (acts : List Md13.Act) : Prop := ∃ dx d l t1 t2 hd o, MA C H R a s acts dx d l t1 t2 hd o
/-- of all that has no role nothing changes -/
abbrev Ky (R : Rf) (H : Hp) (R' : Rf) (H' : Hp) : Prop := Kp [0, 1, 2, 3, 4, 5, 6, 7, 8] R H R' H'
abbrev Kx (R : Rf) (H : Hp) (R' : Rf) (H' : Hp) : Prop := Kp [0, 1, 2, 3, 4, 5, 6, 7] R H R' H'
section
variable {S : List Nat} {C : Cl} {H H' : Hp} {R R' : Rf} {a d l t o : Addr} {s : Md13.St} {acts : List Md13.Act} {dl : List Nat} {b4 b2 b3 : Bool} {x : Option (Nat × Nat)}
theorem DecAt.kp (A : DecAt H R d dl) (K : Kp S R H R' H') (h : 2 ∉ S) : DecAt H' R' d dl := by
  obtain ⟨r, kvs, e, c⟩ := A
  obtain ⟨e', r'⟩ := K.role e r h
  exact ⟨r', kvs, e', c⟩
theorem acts_kp (K : Kp S R H R' H') (h : 1 ∉ S) : ∀ {ps : List Addr} {acts : List Md13.Act}, Paired (ActAt H R) ps acts → Paired (ActAt H' R') ps acts
  | _, _, .nil => .nil
  | _, _, .cons ⟨r, e⟩ t => .cons (by obtain ⟨e', r'⟩ := K.role e r h; exact ⟨r', e'⟩) (acts_kp K h t)
theorem ThAt.kp (A : ThAt H R l acts) (K : Kp S R H R' H') (h : 1 ∉ S) : ThAt H' R' l acts := by
  obtain ⟨r, ps, e, c⟩ := A
  obtain ⟨e', r'⟩ := K.role e r h
  exact ⟨r', ps, e', acts_kp K h c⟩
theorem OnceAt.kp (A : OnceAt H R o b4 b2 b3) (K : Kp S R H R' H') (h : 3 ∉ S) : OnceAt H' R' o b4 b2 b3 := by
  obtain ⟨r, kvs, e, c⟩ := A
  obtain ⟨e', r'⟩ := K.role e r h
  exact ⟨r', kvs, e', c⟩
theorem PairAt.kp (A : PairAt H R t x) (K : Kp S R H R' H') : PairAt H' R' t x := by
  obtain ⟨r, e⟩ := A
  obtain ⟨e', r'⟩ := K.bare e r
  exact ⟨r', e'⟩
theorem MA.same {dx d l t1 t2 hd o : Addr} (A : MA C H R a s acts dx d l t1 t2 hd o) (h : Same H H') : MA C H' R a s acts dx d l t1 t2 hd o := by
  have K : Kp [] R H R H' := Kp.same h
  exact ⟨h _ _ A.at_, A.ro, A.dec.kp K (by decide), A.th.kp K (by decide), A.lk.kp K, A.gd.kp K, A.hrd.kp K (by decide) (by decide) (by decide) (by decide), A.on.kp K (by decide), A.dom.same h⟩
theorem MemAt.kp (A : MemAt C H R a s acts) (K : Kp S R H R' H') (hs : ∀ g, g < 8 → g ∉ S) (dm : Dom R' H') : MemAt C H' R' a s acts := by
  obtain ⟨dx, d, l, t1, t2, hd, o, A⟩ := A
  obtain ⟨e, r⟩ := K.role A.at_ A.ro (hs 0 (by decide))
  exact ⟨dx, d, l, t1, t2, hd, o, e, r, A.dec.kp K (hs 2 (by decide)), A.th.kp K (hs 1 (by decide)), A.lk.kp K, A.gd.kp K, A.hrd.kp K (hs 4 (by decide)) (hs 5 (by decide)) (hs 6 (by decide)) (hs 7 (by decide)), A.on.kp K (hs 3 (by decide)), dm⟩
theorem MemAt.same (A : MemAt C H R a s acts) (h : Same H H') : MemAt C H' R a s acts := by
  obtain ⟨dx, d, l, t1, t2, hd, o, A⟩ := A
  exact ⟨dx, d, l, t1, t2, hd, o, A.same h⟩
end
theorem paired_snoc {α β : Type} {F : α → β → Prop} : ∀ {xs : List α} {ys : List β} {x : α} {y : β}, Paired F xs ys → F x y → Paired F (xs ++ [x]) (ys ++ [y])
  | _, _, _, _, .nil, h => .cons h .nil
  | _, _, _, _, .cons r t, h => .cons r (paired_snoc t h)
/-- one thing more: the list l gets the new list p -/
theorem ThAt.snoc {H : Hp} {R : Rf} {l p : Addr} {acts : List Md13.Act} {x : Md13.Act} {ps : List Addr} (rl : R l = some .things) (el : H l = some (.lst (ps.map V.ref))) (c : Paired (ActAt H R) ps acts) (rp : R p = some .act) (ep : H p = some (.lst ((Md13.shown x).map V.int))) :
    ThAt (upd H l (.lst (ps.map V.ref ++ [.ref p]))) R l (acts ++ [x]) := by
  have ne : ∀ {b}, R b = some .act → b ≠ l := fun hb z => by rw [z, rl] at hb; cases hb
  have up : ∀ {ps acts}, Paired (ActAt H R) ps acts → Paired (ActAt (upd H l (.lst (ps.map V.ref ++ [.ref p]))) R) ps acts := fun {ps acts} c => Paired.mapP c fun b y ⟨r, e⟩ => ⟨r, by rw [upd_ne (ne r)]; exact e⟩
  refine ⟨rl, ps ++ [p], ?_, ?_⟩
  · rw [upd_same, List.map_append]; rfl
  · exact paired_snoc (Paired.mapP c fun b y ⟨r, e⟩ => ⟨r, by rw [upd_ne (ne r)]; exact e⟩) ⟨rp, by rw [upd_ne (ne rp)]; exact ep⟩
end Ag
namespace Ag
open PySem PySem.Spec PyProof.Rows L2
open Md13 (Msg Heard)
section
variable {s : Md13.St} {d l t1 t2 hd o : Addr}
theorem lk_many : (mF s d l t1 t2 hd o).lookup ("many" : Str) = some (.int (s.n : Int)) := mF_at (i := 0) (by decide +kernel) rfl
theorem lk_me : (mF s d l t1 t2 hd o).lookup ("me" : Str) = some (.int (s.me : Int)) := mF_at (i := 1) (by decide +kernel) rfl
theorem lk_mine : (mF s d l t1 t2 hd o).lookup ("mine" : Str) = some (.int (s.mine : Int)) := mF_at (i := 2) (by decide +kernel) rfl
theorem lk_liars : (mF s d l t1 t2 hd o).lookup ("liars" : Str) = some (.int (Md13.liars s.n : Nat)) := mF_at (i := 3) (by decide +kernel) rfl
theorem lk_enough : (mF s d l t1 t2 hd o).lookup ("enough" : Str) = some (.int (Md13.enough s.n : Nat)) := mF_at (i := 4) (by decide +kernel) rfl
theorem lk_begun : (mF s d l t1 t2 hd o).lookup ("begun" : Str) = some (.bl s.begun) := mF_at (i := 5) (by decide +kernel) rfl
theorem lk_decisions : (mF s d l t1 t2 hd o).lookup ("decisions" : Str) = some (.ref d) := mF_at (i := 6) (by decide +kernel) rfl
theorem lk_things : (mF s d l t1 t2 hd o).lookup ("things" : Str) = some (.ref l) := mF_at (i := 7) (by decide +kernel) rfl
theorem lk_height : (mF s d l t1 t2 hd o).lookup ("height" : Str) = some (.int (s.height : Int)) := mF_at (i := 8) (by decide +kernel) rfl
theorem lk_round_now : (mF s d l t1 t2 hd o).lookup ("round_now" : Str) = some (.int (s.round : Int)) := mF_at (i := 9) (by decide +kernel) rfl
theorem lk_part : (mF s d l t1 t2 hd o).lookup ("part" : Str) = some (.int (parts s.at_ : Nat)) := mF_at (i := 10) (by decide +kernel) rfl
theorem lk_lock : (mF s d l t1 t2 hd o).lookup ("lock" : Str) = some (.ref t1) := mF_at (i := 11) (by decide +kernel) rfl
theorem lk_good : (mF s d l t1 t2 hd o).lookup ("good" : Str) = some (.ref t2) := mF_at (i := 12) (by decide +kernel) rfl
theorem lk_heard : (mF s d l t1 t2 hd o).lookup ("heard" : Str) = some (.ref hd) := mF_at (i := 13) (by decide +kernel) rfl
theorem lk_once : (mF s d l t1 t2 hd o).lookup ("once" : Str) = some (.ref o) := mF_at (i := 14) (by decide +kernel) rfl
theorem mF_len : (mF s d l t1 t2 hd o).length = 15 := rfl
end
theorem shown_say (k : Md13.Kind) (h r v : Nat) (q : Option Nat) : (Md13.shown (.say ⟨k, h, r, v, q⟩)).map V.int = [.int (kn k : Nat), .int (h : Int), .int (r : Int), .int (v : Int), .int (fr q), .int 0] := by
  cases k <;> cases q <;> rfl
theorem says_eq (s : Md13.St) (k : Md13.Kind) (v : Nat) (q : Option Nat) : Md13.says s k v q = ({ s with heard := hearL s.heard s.me ⟨k, s.height, s.round, v, q⟩ }, [.say ⟨k, s.height, s.round, v, q⟩]) := by
  show (Md13.hear s s.me ⟨k, s.height, s.round, v, q⟩, _) = _
  rw [hear_hearL]
section
variable {P : Program} {w : World} {K : PySem.W.Frag} {mg : Str → Option Value} {base : Heap} {C : Cl}
/-! ### Member.offerer -/
def spOfferer (C : Cl) : Sp := fun vs H Q _ => ∃ (a : Addr) (R : Rf) (s : Md13.St) (acts : List Md13.Act) (r : Nat), vs = [.ref a, .int (r : Int)] ∧ MemAt C H R a s acts ∧ 0 < s.n ∧ Q (.int (Md13.offerer s.n s.height r : Nat)) H
theorem ok_M_offerer (T : Txt K mg C) {f : Addr} {fd : FuncData} (F : Fun K "offerer" "Member.offerer" s_M_offerer f fd) : FnOk P w K mg base CX0 1 f fd ["self", "number"] (spOfferer C) := by
  refine F.ok sc_M_offerer (fun vs H Q E h => ?_) (fun cdv A outer s0 H vs Q E hr h => ?_)
  · obtain ⟨a, R, s, acts, r, rfl, _⟩ := h
    rfl
  · obtain ⟨a, R, s, acts, r, rfl, ⟨dx, d, l, t1, t2, hd, o, A⟩, hn, go⟩ := h
    refine ⟨_, (pss_one (ps_ret (pe_op op_mod (pe_op op_add (pe_fld (pv 0) rfl) (pv 1)) (pe_fld (pv 0) rfl)))), ?_⟩
    refine ⟨_, rfl, a, C.M, dx, _, _, rfl, A.at_, T.clM, T.nM_height, lk_height, _, rfl, _, _, rfl, rfl, _, rfl, a, C.M, dx, _, _, rfl, A.at_, T.clM, T.nM_many, lk_many, _, _, rfl, rfl, (by show (0 : Int) < (s.n : Int); omega), ?_⟩
    have e : ((Md13.offerer s.n s.height r : Nat) : Int) = ((s.height : Int) + (r : Int)) % (s.n : Int) := by
      unfold Md13.offerer
      rw [Int.natCast_emod, Int.natCast_add]
    rw [e] at go
    exact go
/-! ### Member.offer -/
def spOffer (C : Cl) : Sp := fun vs H Q _ => ∃ (a : Addr) (R : Rf) (s : Md13.St) (acts : List Md13.Act) (r : Nat), vs = [.ref a, .int (r : Int)] ∧ MemAt C H R a s acts ∧ 0 < s.n ∧
  ∀ H' v, Same H H' → OfV H' R v (Md13.offerOf s r) → Q v H'
theorem ok_M_offer (T : Txt K mg C) {f : Addr} {fd : FuncData} (F : Fun K "offer" "Member.offer" s_M_offer f fd) (m_H_offer : MK P w K mg base C.H "offer" 1 ["self", "number", "offerer"] (spHOffer C)) (m_M_offerer : MK P w K mg base C.M "offerer" 1 ["self", "number"] (spOfferer C)) :
    FnOk P w K mg base CX0 2 f fd ["self", "number"] (spOffer C) := by
  refine F.ok sc_M_offer (fun vs H Q E h => ?_) (fun cdv A outer s0 H vs Q E hr h => ?_)
  · obtain ⟨a, R, s, acts, r, rfl, _⟩ := h
    rfl
  · obtain ⟨a, R, s, acts, r, rfl, M, hn, go⟩ := h
    obtain ⟨dx, d, l, t1, t2, hd, o, A⟩ := id M
    obtain ⟨dxh, sd, tl, sp, hh, rest⟩ := id A.hrd
    refine ⟨_, (pss_one (ps_ret (pmeth m_H_offer (hr.mono (by decide)) T.clH (pe_fld (pv 0) rfl) (pa_cons (pv 1) (pa_cons (pmeth m_M_offerer (hr.mono (by decide)) T.clM (pv 0) (pa_cons (pv 1) pa_nil)) pa_nil))))), ?_⟩
    refine ⟨_, rfl, a, C.M, dx, _, _, rfl, A.at_, T.clM, T.nM_heard, lk_heard, hd, dxh, _, rfl, hh, hF_no (by decide +kernel), _, rfl, _, rfl, a, dx, _, rfl, A.at_, mF_no (by decide +kernel), _, rfl, ?_⟩
    refine ⟨a, R, s, acts, r, rfl, M, hn, ?_⟩
    exact ⟨hd, R, s.heard, s.n, r, Md13.offerer s.n s.height r, rfl, A.hrd, fun H' v hs ho => go H' v hs ho⟩
/-! ### Member.say -/
def spSay (C : Cl) : Sp := fun vs H Q _ => ∃ (a : Addr) (R : Rf) (s : Md13.St) (acts : List Md13.Act) (k : Md13.Kind) (v : Nat) (q : Option Nat),
  vs = [.ref a, .int (kn k : Nat), .int (v : Int), .int (fr q)] ∧ MemAt C H R a s acts ∧ (s.me < s.n ∧ s.n ≤ 32 ∧ s.round < 64) ∧ s.heard.length < 1000000 ∧ acts.length < 1000000 ∧
  ∀ H' R', MemAt C H' R' a (Md13.says s k v q).1 (acts ++ (Md13.says s k v q).2) → Kx R H R' H' → Q .non H'
theorem ok_M_say (T : Txt K mg C) {f : Addr} {fd : FuncData} (F : Fun K "say" "Member.say" s_M_say f fd) (m_H_hear : MK P w K mg base C.H "hear" 1 ["self", "who", "kind", "number", "value", "known"] (spHear C)) :
    FnOk P w K mg base CX0 2 f fd ["self", "kind", "value", "known"] (spSay C) := by
  refine F.ok sc_M_say (fun vs H Q E h => ?_) (fun cdv A outer s0 H vs Q E hr h => ?_)
  · obtain ⟨a, R, s, acts, k, v, q, rfl, _⟩ := h
    rfl
  · obtain ⟨a, R, s, acts, k, v, q, rfl, M, ⟨h1, h2, h3⟩, hl, hz, go⟩ := h
    obtain ⟨dx, d, l, t1, t2, hd, o, A⟩ := id M
    obtain ⟨rl, ps, el, pc⟩ := id A.th
    refine ⟨_, (pss_cons (ps_expr (pe_bm PySem.F.plainAttrs_list PySem.F.slot_list_append PySem.F.type_list_append mt_append (pe_fld (pv 0) rfl) (pa_cons (pe_lst (pa_cons (pv 1) (pa_cons (pe_fld (pv 0) rfl) (pa_cons (pe_fld (pv 0) rfl) (pa_cons (pv 2) (pa_cons (pv 3) (pa_cons pe_int pa_nil))))))) pa_nil)))
  (pss_one (ps_expr (pmeth m_H_hear (hr.mono (by decide)) T.clH (pe_fld (pv 0) rfl) (pa_cons (pe_fld (pv 0) rfl) (pa_cons (pv 1) (pa_cons (pe_fld (pv 0) rfl) (pa_cons (pv 2) (pa_cons (pv 3) pa_nil))))))))), ?_⟩
    refine ⟨_, rfl, a, C.M, dx, _, _, rfl, A.at_, T.clM, T.nM_things, lk_things, .inl ⟨rfl, _, SqL.of el⟩, _, rfl, _, rfl, a, C.M, dx, _, _, rfl, A.at_, T.clM, T.nM_height, lk_height, _, rfl, a, C.M, dx, _, _, rfl, A.at_, T.clM, T.nM_round_now, lk_round_now,
      _, rfl, _, rfl, (by show 6 ≤ sizeLine; decide), fun p hp => ?_⟩
    have s1 : Same H (upd H p (.lst [.int (kn k : Nat), .int (s.height : Int), .int (s.round : Int), .int (v : Int), .int (fr q), .int 0])) := same_new hp
    have lps : ps.length = acts.length := Paired.length pc
    refine ⟨l, _, _, rfl, rfl, s1 _ _ el, (by rw [List.length_map, lps]; exact big (by omega)), ?_⟩
    have K1 : Kp [1] R H (setR R p .act) (upd H p (.lst [.int (kn k : Nat), .int (s.height : Int), .int (s.round : Int), .int (v : Int), .int (fr q), .int 0])) := Kp.newR hp
    have K1' : Kp [] R H (setR R p .act) (upd H p (.lst [.int (kn k : Nat), .int (s.height : Int), .int (s.round : Int), .int (v : Int), .int (fr q), .int 0])) := Kp.newR hp
    have rl1 := (K1'.role el rl (by decide)).2
    have th2 : ThAt (upd (upd H p (.lst [.int (kn k : Nat), .int (s.height : Int), .int (s.round : Int), .int (v : Int), .int (fr q), .int 0])) l (.lst (ps.map V.ref ++ [.ref p]))) (setR R p .act) l (acts ++ [.say ⟨k, s.height, s.round, v, q⟩]) :=
      ThAt.snoc rl1 (s1 _ _ el) (acts_kp K1' (by decide) pc) setR_same (by rw [upd_same, shown_say])
    have K2 := K1.trans (Kp.upd (S := [1]) (o := .lst (ps.map V.ref ++ [.ref p])) rl1 (by decide))
    have d2 : Dom (setR R p .act) (upd (upd H p (.lst [.int (kn k : Nat), .int (s.height : Int), .int (s.round : Int), .int (v : Int), .int (fr q), .int 0])) l (.lst (ps.map V.ref ++ [.ref p]))) := (A.dom.newR).upd
    have a2 := K2.role A.at_ A.ro (by decide)
    have hrd2 := A.hrd.kp K2 (by decide) (by decide) (by decide) (by decide)
    have dec2 := A.dec.kp K2 (by decide)
    have lk2 := A.lk.kp K2
    have gd2 := A.gd.kp K2
    have on2 := A.on.kp K2 (by decide)
    generalize (upd (upd H p (.lst [.int (kn k : Nat), .int (s.height : Int), .int (s.round : Int), .int (v : Int), .int (fr q), .int 0])) l (.lst (ps.map V.ref ++ [.ref p]))) = H2 at th2 K2 d2 a2 hrd2 dec2 lk2 gd2 on2 ⊢
    obtain ⟨dxh, sd, tl, sp, hh, rest⟩ := id hrd2
    refine ⟨_, rfl, a, C.M, dx, _, _, rfl, a2.1, T.clM, T.nM_heard, lk_heard, hd, dxh, _, rfl, hh, hF_no (by decide +kernel), _, rfl, a, C.M, dx, _, _, rfl, a2.1, T.clM, T.nM_me, lk_me, _, rfl, _, rfl, a, C.M, dx, _, _, rfl, a2.1, T.clM, T.nM_round_now, lk_round_now, _, rfl, _, rfl, ?_⟩
    refine ⟨hd, _, s.heard, s.n, s.me, ⟨k, s.height, s.round, v, q⟩, rfl, hrd2, d2, h1, h2, h3, hl, fun H' R' c1 c2 c3 => ?_⟩
    have e := says_eq s k v q
    refine go H' R' ?_ ((K2.mono (by decide)).trans (c3.mono (by decide)))
    rw [e]
    have a3 := c3.role a2.1 a2.2 (by decide)
    exact ⟨dx, d, l, t1, t2, hd, o, a3.1, a3.2, dec2.kp c3 (by decide), th2.kp c3 (by decide), lk2.kp c3, gd2.kp c3, c1, on2.kp c3 (by decide), c2⟩
/-! ### Member.wait -/
def spWait (C : Cl) : Sp := fun vs H Q _ => ∃ (a : Addr) (R : Rf) (s : Md13.St) (acts : List Md13.Act) (p : Nat), vs = [.ref a, .int (p : Int)] ∧ MemAt C H R a s acts ∧ acts.length < 1000000 ∧
  ∀ H' R', MemAt C H' R' a s (acts ++ [.wait p s.height s.round]) → Kx R H R' H' → Q .non H'
theorem ok_M_wait (T : Txt K mg C) {f : Addr} {fd : FuncData} (F : Fun K "wait" "Member.wait" s_M_wait f fd) : FnOk P w K mg base CX0 1 f fd ["self", "part"] (spWait C) := by
  refine F.ok sc_M_wait (fun vs H Q E h => ?_) (fun cdv A outer s0 H vs Q E hr h => ?_)
  · obtain ⟨a, R, s, acts, p, rfl, _⟩ := h
    rfl
  · obtain ⟨a, R, s, acts, pt, rfl, M, hz, go⟩ := h
    obtain ⟨dx, d, l, t1, t2, hd, o, A⟩ := id M
    obtain ⟨rl, ps, el, pc⟩ := id A.th
    refine ⟨_, (pss_one (ps_expr (pe_bm PySem.F.plainAttrs_list PySem.F.slot_list_append PySem.F.type_list_append mt_append (pe_fld (pv 0) rfl) (pa_cons (pe_lst (pa_cons (pgi (by rfl) T.gWAITS) (pa_cons (pv 1) (pa_cons (pe_fld (pv 0) rfl) (pa_cons (pe_fld (pv 0) rfl) (pa_cons pe_int (pa_cons pe_int pa_nil))))))) pa_nil)))), ?_⟩
    refine ⟨_, rfl, a, C.M, dx, _, _, rfl, A.at_, T.clM, T.nM_things, lk_things, .inl ⟨rfl, _, SqL.of el⟩, _, rfl, _, rfl, a, C.M, dx, _, _, rfl, A.at_, T.clM, T.nM_height, lk_height, _, rfl, a, C.M, dx, _, _, rfl, A.at_, T.clM, T.nM_round_now, lk_round_now,
      (by show 6 ≤ sizeLine; decide), fun p hp => ?_⟩
    have s1 : Same H (upd H p (.lst [.int 4, .int (pt : Int), .int (s.height : Int), .int (s.round : Int), .int 0, .int 0])) := same_new hp
    have lps : ps.length = acts.length := Paired.length pc
    refine ⟨l, _, _, rfl, rfl, s1 _ _ el, (by rw [List.length_map, lps]; exact big (by omega)), ?_⟩
    have K1 : Kp [1] R H (setR R p .act) (upd H p (.lst [.int 4, .int (pt : Int), .int (s.height : Int), .int (s.round : Int), .int 0, .int 0])) := Kp.newR hp
    have K1' : Kp [] R H (setR R p .act) (upd H p (.lst [.int 4, .int (pt : Int), .int (s.height : Int), .int (s.round : Int), .int 0, .int 0])) := Kp.newR hp
    have rl1 := (K1'.role el rl (by decide)).2
    have th2 : ThAt (upd (upd H p (.lst [.int 4, .int (pt : Int), .int (s.height : Int), .int (s.round : Int), .int 0, .int 0])) l (.lst (ps.map V.ref ++ [.ref p]))) (setR R p .act) l (acts ++ [.wait pt s.height s.round]) :=
      ThAt.snoc rl1 (s1 _ _ el) (acts_kp K1' (by decide) pc) setR_same upd_same
    have K2 := K1.trans (Kp.upd (S := [1]) (o := .lst (ps.map V.ref ++ [.ref p])) rl1 (by decide))
    have a2 := K2.role A.at_ A.ro (by decide)
    exact go _ _ ⟨dx, d, l, t1, t2, hd, o, a2.1, a2.2, A.dec.kp K2 (by decide), th2, A.lk.kp K2, A.gd.kp K2, A.hrd.kp K2 (by decide) (by decide) (by decide) (by decide), A.on.kp K2 (by decide), (A.dom.newR).upd⟩ (K2.mono (by decide))
/-! ### Member.has_enough -/
def spEnough (C : Cl) : Sp := fun vs H Q _ => ∃ (a : Addr) (R : Rf) (s : Md13.St) (acts : List Md13.Act) (k : Md13.Kind) (r v : Nat), vs = [.ref a, .int (kn k : Nat), .int (r : Int), .int (v : Int)] ∧ MemAt C H R a s acts ∧
  ∀ H', Same H H' → Q (.bl (Md13.most s k r (fun y => y == v))) H'
theorem ok_M_has_enough (T : Txt K mg C) {f : Addr} {fd : FuncData} (F : Fun K "has_enough" "Member.has_enough" s_M_has_enough f fd) (m_H_votes : MK P w K mg base C.H "votes" 1 ["self", "kind", "number", "value"] (spVotes C)) :
    FnOk P w K mg base CX0 2 f fd ["self", "kind", "number", "value"] (spEnough C) := by
  refine F.ok sc_M_has_enough (fun vs H Q E h => ?_) (fun cdv A outer s0 H vs Q E hr h => ?_)
  · obtain ⟨a, R, s, acts, k, r, v, rfl, _⟩ := h
    rfl
  · obtain ⟨a, R, s, acts, k, r, v, rfl, M, go⟩ := h
    obtain ⟨dx, d, l, t1, t2, hd, o, A⟩ := id M
    obtain ⟨dxh, sd, tl, sp, hh, rest⟩ := id A.hrd
    refine ⟨_, (pss_one (ps_ret (pe_cmpR op_ge (pmeth m_H_votes (hr.mono (by decide)) T.clH (pe_fld (pv 0) rfl) (pa_cons (pv 1) (pa_cons (pv 2) (pa_cons (pv 3) pa_nil)))) (pe_fld (pv 0) rfl) (nomark _)))), ?_⟩
    refine ⟨_, rfl, a, C.M, dx, _, _, rfl, A.at_, T.clM, T.nM_heard, lk_heard, hd, dxh, _, rfl, hh, hF_no (by decide +kernel), _, rfl, _, rfl, _, rfl, ?_⟩
    refine ⟨hd, R, s.heard, s.n, r, v, k, rfl, A.hrd, fun H' hs => ?_⟩
    refine ⟨_, rfl, a, C.M, dx, _, _, rfl, hs _ _ A.at_, T.clM, T.nM_enough, lk_enough, _, _, rfl, rfl, ?_⟩
    have e : Md13.most s k r (fun y => y == v) = decide (((Md13.enough s.n : Nat) : Int) ≤ ((cnt s.heard s.n k r (fun y => y == v) : Nat) : Int)) := by
      unfold Md13.most
      rw [votes_eq]
      exact decide_eq_decide.mpr (by omega)
    have := go H' hs
    rw [e] at this
    exact this
end
end Ag
namespace Ag
open PySem PySem.Spec PyProof.Rows L2
open Md13 (Msg Heard)
section
variable {s : Md13.St} {d l t1 t2 hd o : Addr}
theorem put_part (x : Md13.At) : putF "part" (.int (parts x : Nat)) (mF s d l t1 t2 hd o) = mF { s with at_ := x } d l t1 t2 hd o := (put_zip (i := 10) (by decide +kernel) (by show 10 < 15; decide)).trans rfl
theorem put_round (r : Nat) : putF "round_now" (.int (r : Int)) (mF s d l t1 t2 hd o) = mF { s with round := r } d l t1 t2 hd o := (put_zip (i := 9) (by decide +kernel) (by show 9 < 15; decide)).trans rfl
theorem put_once (q : Addr) : putF "once" (.ref q) (mF s d l t1 t2 hd o) = mF s d l t1 t2 hd q := (put_zip (i := 14) (by decide +kernel) (by show 14 < 15; decide)).trans rfl
theorem put_lock (q : Addr) : putF "lock" (.ref q) (mF s d l t1 t2 hd o) = mF s d l q t2 hd o := (put_zip (i := 11) (by decide +kernel) (by show 11 < 15; decide)).trans rfl
theorem put_good (q : Addr) : putF "good" (.ref q) (mF s d l t1 t2 hd o) = mF s d l t1 q hd o := (put_zip (i := 12) (by decide +kernel) (by show 12 < 15; decide)).trans rfl
theorem put_things (q : Addr) : putF "things" (.ref q) (mF s d l t1 t2 hd o) = mF s d q t1 t2 hd o := (put_zip (i := 7) (by decide +kernel) (by show 7 < 15; decide)).trans rfl
theorem put_mine (v : Nat) : putF "mine" (.int (v : Int)) (mF s d l t1 t2 hd o) = mF { s with mine := v } d l t1 t2 hd o := (put_zip (i := 2) (by decide +kernel) (by show 2 < 15; decide)).trans rfl
theorem put_begun (b : Bool) : putF "begun" (.bl b) (mF s d l t1 t2 hd o) = mF { s with begun := b } d l t1 t2 hd o := (put_zip (i := 5) (by decide +kernel) (by show 5 < 15; decide)).trans rfl
/-- a member's place and lock made anew: stand_at -/
theorem put_stand (ht : Nat) (t3 t4 hd2 o2 : Addr) :
    putF "once" (.ref o2) (putF "heard" (.ref hd2) (putF "good" (.ref t4) (putF "lock" (.ref t3) (putF "part" (.int 1) (putF "round_now" (.int 0) (putF "height" (.int (ht : Int)) (mF s d l t1 t2 hd o))))))) =
      mF { s with height := ht, round := 0, at_ := .offering } d l t3 t4 hd2 o2 := by
  unfold mF
  rw [put_zip (i := 8) (k := "height") (by decide +kernel) (by show 8 < 15; decide), put_zip (i := 9) (k := "round_now") (by decide +kernel) (by show 9 < 15; decide), put_zip (i := 10) (k := "part") (by decide +kernel) (by show 10 < 15; decide),
    put_zip (i := 11) (k := "lock") (by decide +kernel) (by show 11 < 15; decide), put_zip (i := 12) (k := "good") (by decide +kernel) (by show 12 < 15; decide), put_zip (i := 13) (k := "heard") (by decide +kernel) (by show 13 < 15; decide), put_zip (i := 14) (k := "once") (by decide +kernel) (by show 14 < 15; decide)]
  rfl
/-- the attributes as __init__ lays them -/
def f8 (n me mine li en : Int) (d l : Addr) : List (Str × V) :=
  putF "things" (.ref l) (putF "decisions" (.ref d) (putF "begun" (.bl false) (putF "enough" (.int en) (putF "liars" (.int li) (putF "mine" (.int mine) (putF "me" (.int me) (putF "many" (.int n) [])))))))
theorem f8_eq (n me mine li en : Int) (d l : Addr) : f8 n me mine li en d l = (["many", "me", "mine", "liars", "enough", "begun", "decisions", "things"] : List Str).zip [.int n, .int me, .int mine, .int li, .int en, .bl false, .ref d, .ref l] := by
  unfold f8
  have e1 : putF "many" (.int n) ([] : List (Str × V)) = (["many"] : List Str).zip [.int n] := rfl
  rw [e1, put_zip_new (by decide +kernel) rfl]
  show putF "things" (.ref l) (putF "decisions" (.ref d) (putF "begun" (.bl false) (putF "enough" (.int en) (putF "liars" (.int li) (putF "mine" (.int mine) ((["many", "me"] : List Str).zip [.int n, .int me])))))) = _
  rw [put_zip_new (by decide +kernel) rfl]
  show putF "things" (.ref l) (putF "decisions" (.ref d) (putF "begun" (.bl false) (putF "enough" (.int en) (putF "liars" (.int li) ((["many", "me", "mine"] : List Str).zip [.int n, .int me, .int mine]))))) = _
  rw [put_zip_new (by decide +kernel) rfl]
  show putF "things" (.ref l) (putF "decisions" (.ref d) (putF "begun" (.bl false) (putF "enough" (.int en) ((["many", "me", "mine", "liars"] : List Str).zip [.int n, .int me, .int mine, .int li])))) = _
  rw [put_zip_new (by decide +kernel) rfl]
  show putF "things" (.ref l) (putF "decisions" (.ref d) (putF "begun" (.bl false) ((["many", "me", "mine", "liars", "enough"] : List Str).zip [.int n, .int me, .int mine, .int li, .int en]))) = _
  rw [put_zip_new (by decide +kernel) rfl]
  show putF "things" (.ref l) (putF "decisions" (.ref d) ((["many", "me", "mine", "liars", "enough", "begun"] : List Str).zip [.int n, .int me, .int mine, .int li, .int en, .bl false])) = _
  rw [put_zip_new (by decide +kernel) rfl]
  show putF "things" (.ref l) ((["many", "me", "mine", "liars", "enough", "begun", "decisions"] : List Str).zip [.int n, .int me, .int mine, .int li, .int en, .bl false, .ref d]) = _
  rw [put_zip_new (by decide +kernel) rfl]
  rfl
theorem put_stand0 (n me mine li en : Int) (ht : Nat) (d l t3 t4 hd2 o2 : Addr) :
    putF "once" (.ref o2) (putF "heard" (.ref hd2) (putF "good" (.ref t4) (putF "lock" (.ref t3) (putF "part" (.int 1) (putF "round_now" (.int 0) (putF "height" (.int (ht : Int)) (f8 n me mine li en d l))))))) =
      mKeys.zip [.int n, .int me, .int mine, .int li, .int en, .bl false, .ref d, .ref l, .int (ht : Int), .int 0, .int 1, .ref t3, .ref t4, .ref hd2, .ref o2] := by
  rw [f8_eq, put_zip_new (k := "height") (by decide +kernel) rfl]
  show putF "once" (.ref o2) (putF "heard" (.ref hd2) (putF "good" (.ref t4) (putF "lock" (.ref t3) (putF "part" (.int 1) (putF "round_now" (.int 0) ((["many", "me", "mine", "liars", "enough", "begun", "decisions", "things", "height"] : List Str).zip [.int n, .int me, .int mine, .int li, .int en, .bl false, .ref d, .ref l, .int (ht : Int)])))))) = _
  rw [put_zip_new (k := "round_now") (by decide +kernel) rfl]
  show putF "once" (.ref o2) (putF "heard" (.ref hd2) (putF "good" (.ref t4) (putF "lock" (.ref t3) (putF "part" (.int 1) ((["many", "me", "mine", "liars", "enough", "begun", "decisions", "things", "height", "round_now"] : List Str).zip [.int n, .int me, .int mine, .int li, .int en, .bl false, .ref d, .ref l, .int (ht : Int), .int 0]))))) = _
  rw [put_zip_new (k := "part") (by decide +kernel) rfl]
  show putF "once" (.ref o2) (putF "heard" (.ref hd2) (putF "good" (.ref t4) (putF "lock" (.ref t3) ((["many", "me", "mine", "liars", "enough", "begun", "decisions", "things", "height", "round_now", "part"] : List Str).zip [.int n, .int me, .int mine, .int li, .int en, .bl false, .ref d, .ref l, .int (ht : Int), .int 0, .int 1])))) = _
  rw [put_zip_new (k := "lock") (by decide +kernel) rfl]
  show putF "once" (.ref o2) (putF "heard" (.ref hd2) (putF "good" (.ref t4) ((["many", "me", "mine", "liars", "enough", "begun", "decisions", "things", "height", "round_now", "part", "lock"] : List Str).zip [.int n, .int me, .int mine, .int li, .int en, .bl false, .ref d, .ref l, .int (ht : Int), .int 0, .int 1, .ref t3]))) = _
  rw [put_zip_new (k := "good") (by decide +kernel) rfl]
  show putF "once" (.ref o2) (putF "heard" (.ref hd2) ((["many", "me", "mine", "liars", "enough", "begun", "decisions", "things", "height", "round_now", "part", "lock", "good"] : List Str).zip [.int n, .int me, .int mine, .int li, .int en, .bl false, .ref d, .ref l, .int (ht : Int), .int 0, .int 1, .ref t3, .ref t4])) = _
  rw [put_zip_new (k := "heard") (by decide +kernel) rfl]
  show putF "once" (.ref o2) ((["many", "me", "mine", "liars", "enough", "begun", "decisions", "things", "height", "round_now", "part", "lock", "good", "heard"] : List Str).zip [.int n, .int me, .int mine, .int li, .int en, .bl false, .ref d, .ref l, .int (ht : Int), .int 0, .int 1, .ref t3, .ref t4, .ref hd2]) = _
  rw [put_zip_new (k := "once") (by decide +kernel) rfl]
  rfl
end
theorem first_eq (s : Md13.St) (v : Nat) : Md13.first s v = Md13.says { s with at_ := .first } .first v none := by
  show ({ (Md13.says s .first v none).1 with at_ := .first }, (Md13.says s .first v none).2) = _
  rw [says_eq, says_eq]
theorem second_eq (s : Md13.St) (v : Nat) : Md13.second s v = Md13.says { s with at_ := .second } .second v none := by
  show ({ (Md13.says s .second v none).1 with at_ := .second }, (Md13.says s .second v none).2) = _
  rw [says_eq, says_eq]
theorem may_new {s : Md13.St} {r : Nat} (h : ∀ x ∈ s.done, x.2 ≠ r) (k : Nat) : Md13.may { s with round := r, at_ := .offering } k = true := by
  unfold Md13.may
  have : s.done.contains (k, r) = false := by
    rw [List.contains_eq_any_beq, List.any_eq_false]
    intro x hx q
    have : (k, r) = x := beq_iff_eq.mp q
    exact h x hx (by rw [← this])
  show (!s.done.contains (k, r)) = true
  rw [this]; rfl
section
variable {P : Program} {w : World} {K : PySem.W.Frag} {mg : Str → Option Value} {base : Heap} {C : Cl}
/-! ### Member.vote_first, vote_second -/
def spVote1 (C : Cl) : Sp := fun vs H Q _ => ∃ (a : Addr) (R : Rf) (s : Md13.St) (acts : List Md13.Act) (v : Nat), vs = [.ref a, .int (v : Int)] ∧ MemAt C H R a s acts ∧ (s.me < s.n ∧ s.n ≤ 32 ∧ s.round < 64) ∧ s.heard.length < 1000000 ∧ acts.length < 1000000 ∧
  ∀ H' R', MemAt C H' R' a (Md13.first s v).1 (acts ++ (Md13.first s v).2) → Kx R H R' H' → Q .non H'
def spVote2 (C : Cl) : Sp := fun vs H Q _ => ∃ (a : Addr) (R : Rf) (s : Md13.St) (acts : List Md13.Act) (v : Nat), vs = [.ref a, .int (v : Int)] ∧ MemAt C H R a s acts ∧ (s.me < s.n ∧ s.n ≤ 32 ∧ s.round < 64) ∧ s.heard.length < 1000000 ∧ acts.length < 1000000 ∧
  ∀ H' R', MemAt C H' R' a (Md13.second s v).1 (acts ++ (Md13.second s v).2) → Kx R H R' H' → Q .non H'
theorem ok_M_vote_first (T : Txt K mg C) {f : Addr} {fd : FuncData} (F : Fun K "vote_first" "Member.vote_first" s_M_vote_first f fd) (m_M_say : MK P w K mg base C.M "say" 2 ["self", "kind", "value", "known"] (spSay C)) :
    FnOk P w K mg base CX0 3 f fd ["self", "value"] (spVote1 C) := by
  refine F.ok sc_M_vote_first (fun vs H Q E h => ?_) (fun cdv A outer s0 H vs Q E hr h => ?_)
  · obtain ⟨a, R, s, acts, v, rfl, _⟩ := h
    rfl
  · obtain ⟨a, R, s, acts, v, rfl, ⟨dx, d, l, t1, t2, hd, o, A⟩, hh, hl, hz, go⟩ := h
    refine ⟨_, (pss_cons (ps_fld (pv 0) (pgi (by rfl) T.gVOTED_FIRST) rfl)
  (pss_one (ps_expr (pmeth m_M_say (hr.mono (by decide)) T.clM (pv 0) (pa_cons (pgi (by rfl) T.gFIRST) (pa_cons (pv 1) (pa_cons (pe_un un_neg pe_int) pa_nil))))))), ?_⟩
    refine ⟨_, rfl, a, C.M, dx, _, rfl, A.at_, T.clM, T.nM_part, (by rw [mF_len]; decide), ?_⟩
    have e : putF "part" (.int 2) (mF s d l t1 t2 hd o) = mF { s with at_ := .first } d l t1 t2 hd o := put_part .first
    rw [e]
    have K1 : Kp [0] R H R (upd H a (.ins C.M dx (mF { s with at_ := .first } d l t1 t2 hd o))) := Kp.upd A.ro (by decide)
    refine ⟨_, rfl, a, dx, _, rfl, upd_same, mF_no (by decide +kernel), _, rfl, _, rfl, ?_⟩
    refine ⟨a, R, { s with at_ := .first }, acts, .first, v, none, rfl, ⟨dx, d, l, t1, t2, hd, o, upd_same, A.ro, A.dec.kp K1 (by decide), A.th.kp K1 (by decide), A.lk.kp K1, A.gd.kp K1, A.hrd.kp K1 (by decide) (by decide) (by decide) (by decide), A.on.kp K1 (by decide), A.dom.upd⟩, hh, hl, hz, fun H' R' M k2 => ?_⟩
    rw [← first_eq] at M
    exact go H' R' M ((K1.mono (by decide)).trans k2)
theorem ok_M_vote_second (T : Txt K mg C) {f : Addr} {fd : FuncData} (F : Fun K "vote_second" "Member.vote_second" s_M_vote_second f fd) (m_M_say : MK P w K mg base C.M "say" 2 ["self", "kind", "value", "known"] (spSay C)) :
    FnOk P w K mg base CX0 3 f fd ["self", "value"] (spVote2 C) := by
  refine F.ok sc_M_vote_second (fun vs H Q E h => ?_) (fun cdv A outer s0 H vs Q E hr h => ?_)
  · obtain ⟨a, R, s, acts, v, rfl, _⟩ := h
    rfl
  · obtain ⟨a, R, s, acts, v, rfl, ⟨dx, d, l, t1, t2, hd, o, A⟩, hh, hl, hz, go⟩ := h
    refine ⟨_, (pss_cons (ps_fld (pv 0) (pgi (by rfl) T.gVOTED_SECOND) rfl)
  (pss_one (ps_expr (pmeth m_M_say (hr.mono (by decide)) T.clM (pv 0) (pa_cons (pgi (by rfl) T.gSECOND) (pa_cons (pv 1) (pa_cons (pe_un un_neg pe_int) pa_nil))))))), ?_⟩
    refine ⟨_, rfl, a, C.M, dx, _, rfl, A.at_, T.clM, T.nM_part, (by rw [mF_len]; decide), ?_⟩
    have e : putF "part" (.int 3) (mF s d l t1 t2 hd o) = mF { s with at_ := .second } d l t1 t2 hd o := put_part .second
    rw [e]
    have K1 : Kp [0] R H R (upd H a (.ins C.M dx (mF { s with at_ := .second } d l t1 t2 hd o))) := Kp.upd A.ro (by decide)
    refine ⟨_, rfl, a, dx, _, rfl, upd_same, mF_no (by decide +kernel), _, rfl, _, rfl, ?_⟩
    refine ⟨a, R, { s with at_ := .second }, acts, .second, v, none, rfl, ⟨dx, d, l, t1, t2, hd, o, upd_same, A.ro, A.dec.kp K1 (by decide), A.th.kp K1 (by decide), A.lk.kp K1, A.gd.kp K1, A.hrd.kp K1 (by decide) (by decide) (by decide) (by decide), A.on.kp K1 (by decide), A.dom.upd⟩, hh, hl, hz, fun H' R' M k2 => ?_⟩
    rw [← second_eq] at M
    exact go H' R' M ((K1.mono (by decide)).trans k2)
/-! ### Member.begin_round -/
def spBegin (C : Cl) : Sp := fun vs H Q _ => ∃ (a : Addr) (R : Rf) (s : Md13.St) (acts : List Md13.Act) (r : Nat), vs = [.ref a, .int (r : Int)] ∧ MemAt C H R a s acts ∧ (s.me < s.n ∧ s.n ≤ 32 ∧ r < 64) ∧ (∀ g, s.good = some g → g.1 ≠ 0) ∧ (∀ x ∈ s.done, x.2 ≠ r) ∧
  s.heard.length < 1000000 ∧ acts.length < 1000000 ∧ ∀ H' R', MemAt C H' R' a (Md13.starts s r).1 (acts ++ (Md13.starts s r).2) → Kx R H R' H' → Q .non H'
theorem ok_M_begin_round (T : Txt K mg C) {f : Addr} {fd : FuncData} (F : Fun K "begin_round" "Member.begin_round" s_M_begin_round f fd) (m_M_say : MK P w K mg base C.M "say" 2 ["self", "kind", "value", "known"] (spSay C))
    (m_M_wait : MK P w K mg base C.M "wait" 1 ["self", "part"] (spWait C)) (m_M_offerer : MK P w K mg base C.M "offerer" 1 ["self", "number"] (spOfferer C)) :
    FnOk P w K mg base CX0 3 f fd ["self", "number"] (spBegin C) := by
  refine F.ok sc_M_begin_round (fun vs H Q E h => ?_) (fun cdv A outer s0 H vs Q E hr h => ?_)
  · obtain ⟨a, R, s, acts, v, rfl, _⟩ := h
    rfl
  · obtain ⟨a, R, s, acts, r, rfl, ⟨dx, d, l, t1, t2, hd, o, A⟩, hh, hgd, hdn, hl, hz, go⟩ := h
    refine ⟨_, (pss_cons (ps_fld (pv 0) (pv 1) rfl)
  (pss_cons (ps_fld (pv 0) (pgi (by rfl) T.gOFFERING) rfl)
  (pss_cons (ps_fld (pv 0) pe_dnewK rfl)
  (pss_one (ps_if (pt_cmpR op_ne (pmeth m_M_offerer (hr.mono (by decide)) T.clM (pv 0) (pa_cons (pv 1) pa_nil)) (pe_fld (pv 0) rfl) (nomark _))
  (pss_one (ps_expr (pmeth m_M_wait (hr.mono (by decide)) T.clM (pv 0) (pa_cons (pgi (by rfl) T.gOFFERING) pa_nil))))
  (pss_one (ps_if (pt_cmpR op_ne (pe_ix ix_tup (pe_fld (pv 0) rfl) pe_int (fun _ _ => rfl)) (pgi (by rfl) T.gNONE) (nomark _))
  (pss_one (ps_expr (pmeth m_M_say (hr.mono (by decide)) T.clM (pv 0) (pa_cons (pgi (by rfl) T.gOFFER) (pa_cons (pe_ix ix_tup (pe_fld (pv 0) rfl) pe_int (fun _ _ => rfl)) (pa_cons (pe_ix ix_tup (pe_fld (pv 0) rfl) pe_int (fun _ _ => rfl)) pa_nil))))))
  (pss_one (ps_expr (pmeth m_M_say (hr.mono (by decide)) T.clM (pv 0) (pa_cons (pgi (by rfl) T.gOFFER) (pa_cons (pe_fld (pv 0) rfl) (pa_cons (pe_un un_neg pe_int) pa_nil))))))))))))), ?_⟩
    -- self.round_now = number; self.part = OFFERING; self.once = {}
    refine ⟨_, rfl, _, rfl, a, C.M, dx, _, rfl, A.at_, T.clM, T.nM_round_now, (by rw [mF_len]; decide), ?_⟩
    rw [put_round]
    refine ⟨_, rfl, a, C.M, dx, _, rfl, upd_same, T.clM, T.nM_part, (by rw [mF_len]; decide), ?_⟩
    have e : putF "part" (.int 1) (mF { s with round := r } d l t1 t2 hd o) = mF { s with round := r, at_ := .offering } d l t1 t2 hd o := put_part .offering
    rw [e, upd_upd]
    intro q hq
    have nq : a ≠ q := fun z => by subst z; rw [upd_same] at hq; cases hq
    refine ⟨_, rfl, a, C.M, dx, _, rfl, (by rw [upd_ne nq]; exact upd_same), T.clM, T.nM_once, (by rw [mF_len]; decide), ?_⟩
    rw [put_once]
    have K1 : Kp [0, 3] R H R (upd H a (.ins C.M dx (mF { s with round := r, at_ := .offering } d l t1 t2 hd o))) := Kp.upd A.ro (by decide)
    have ra : setR R q .once a = some .mem := by rw [setR_ne nq]; exact A.ro
    have K2 : Kp [0, 3] R H (setR R q .once) (upd (upd (upd H a (.ins C.M dx (mF { s with round := r, at_ := .offering } d l t1 t2 hd o))) q (.dK [])) a (.ins C.M dx (mF { s with round := r, at_ := .offering } d l t1 t2 hd q))) :=
      K1.trans ((Kp.newR hq).trans (Kp.upd ra (by decide)))
    have M2 : MemAt C (upd (upd (upd H a (.ins C.M dx (mF { s with round := r, at_ := .offering } d l t1 t2 hd o))) q (.dK [])) a (.ins C.M dx (mF { s with round := r, at_ := .offering } d l t1 t2 hd q))) (setR R q .once) a { s with round := r, at_ := .offering } acts := by
      refine ⟨dx, d, l, t1, t2, hd, q, upd_same, ra, A.dec.kp K2 (by decide), A.th.kp K2 (by decide), A.lk.kp K2, A.gd.kp K2, A.hrd.kp K2 (by decide) (by decide) (by decide) (by decide), ?_, (A.dom.upd.newR).upd⟩
      rw [may_new hdn, may_new hdn, may_new hdn]
      exact ⟨setR_same, [], by rw [upd_ne (Ne.symm nq)]; exact upd_same, rfl, rfl, rfl, by decide⟩
    have hs : Md13.starts s r = (if Md13.offerer s.n s.height r = s.me then Md13.says { s with round := r, at_ := .offering } .offer ((s.good.map fun g => g.1).getD s.mine) (s.good.map fun g => g.2) else ({ s with round := r, at_ := .offering }, [.wait 1 s.height r])) := rfl
    generalize (upd (upd (upd H a (.ins C.M dx (mF { s with round := r, at_ := .offering } d l t1 t2 hd o))) q (.dK [])) a (.ins C.M dx (mF { s with round := r, at_ := .offering } d l t1 t2 hd q))) = H2 at M2 K2 ⊢
    clear K1
    obtain ⟨dx, d, l, t1, t2, hd, o, A⟩ := id M2
    -- if self.offerer(number) != self.me
    refine ⟨_, rfl, a, dx, _, rfl, A.at_, mF_no (by decide +kernel), _, rfl, ?_⟩
    refine ⟨a, _, _, acts, r, rfl, M2, (by show 0 < s.n; omega), ?_⟩
    refine ⟨_, rfl, a, C.M, dx, _, _, rfl, A.at_, T.clM, T.nM_me, lk_me, rfl, _, rfl, ?_⟩
    by_cases c : Md13.offerer s.n s.height r = s.me
    · have hc : (!decide (V.int ((Md13.offerer s.n s.height r : Nat) : Int) = V.int (s.me : Int))) = false := by rw [c, decide_eq_true rfl]; rfl
      refine isF hc ?_
      rw [if_pos c] at hs
      cases hg : s.good with
      | none =>
        rw [show ((s.good.map fun g => g.1).getD s.mine) = s.mine by rw [hg]; rfl, show (s.good.map fun g => g.2) = none by rw [hg]; rfl] at hs
        have eg : H2 t2 = some (.tup [.int 0, .int (-1)]) := by have := A.gd.2; rw [show lockV ({ s with round := r, at_ := .offering } : Md13.St).good = [.int 0, .int (-1)] from (by show lockV s.good = _; rw [hg]; rfl)] at this; exact this
        refine ⟨_, rfl, a, C.M, dx, _, _, rfl, A.at_, T.clM, T.nM_good, lk_good, t2, _, 0, .int 0, rfl, rfl, SqT.of eg, atI_nat (j := 0) rfl, rfl, _, rfl, ?_⟩
        refine isF rfl ?_
        refine ⟨_, rfl, a, dx, _, rfl, A.at_, mF_no (by decide +kernel), _, rfl, a, C.M, dx, _, _, rfl, A.at_, T.clM, T.nM_mine, lk_mine, _, rfl, ?_⟩
        refine ⟨a, _, _, acts, .offer, s.mine, none, rfl, M2, hh, hl, hz, fun H' R' M k2 => ?_⟩
        refine go H' R' ?_ ((K2.mono (by decide)).trans k2)
        rw [hs]
        exact M
      | some g =>
        rw [show ((s.good.map fun g => g.1).getD s.mine) = g.1 by rw [hg]; rfl, show (s.good.map fun g => g.2) = some g.2 by rw [hg]; rfl] at hs
        have eg : H2 t2 = some (.tup [.int (g.1 : Int), .int (g.2 : Int)]) := by have := A.gd.2; rw [show lockV ({ s with round := r, at_ := .offering } : Md13.St).good = [.int (g.1 : Int), .int (g.2 : Int)] from (by show lockV s.good = _; rw [hg]; rfl)] at this; exact this
        refine ⟨_, rfl, a, C.M, dx, _, _, rfl, A.at_, T.clM, T.nM_good, lk_good, t2, _, 0, .int (g.1 : Int), rfl, rfl, SqT.of eg, atI_nat (j := 0) rfl, rfl, _, rfl, ?_⟩
        have hne := hgd g hg
        have hc2 : (!decide (V.int (g.1 : Int) = V.int 0)) = true := by
          rw [decide_eq_false (fun z => by injection z with z; omega)]; rfl
        refine isT hc2 ?_
        refine ⟨_, rfl, a, dx, _, rfl, A.at_, mF_no (by decide +kernel), _, rfl, a, C.M, dx, _, _, rfl, A.at_, T.clM, T.nM_good, lk_good, t2, _, 0, .int (g.1 : Int), rfl, rfl, SqT.of eg, atI_nat (j := 0) rfl,
          _, rfl, a, C.M, dx, _, _, rfl, A.at_, T.clM, T.nM_good, lk_good, t2, _, 1, .int (g.2 : Int), rfl, rfl, SqT.of eg, atI_nat (j := 1) rfl, ?_⟩
        refine ⟨a, _, _, acts, .offer, g.1, some g.2, rfl, M2, hh, hl, hz, fun H' R' M k2 => ?_⟩
        refine go H' R' ?_ ((K2.mono (by decide)).trans k2)
        rw [hs]
        exact M
    · have hc : (!decide (V.int ((Md13.offerer s.n s.height r : Nat) : Int) = V.int (s.me : Int))) = true := by
        rw [decide_eq_false (fun z => by injection z with z; omega)]; rfl
      refine isT hc ?_
      rw [if_neg c] at hs
      refine ⟨_, rfl, a, dx, _, rfl, A.at_, mF_no (by decide +kernel), ?_⟩
      refine ⟨a, _, _, acts, 1, rfl, M2, hz, fun H' R' M k2 => ?_⟩
      refine go H' R' ?_ ((K2.mono (by decide)).trans k2)
      rw [hs]
      exact M
end
end Ag
namespace Ag
open PySem PySem.Spec PyProof.Rows L2
open Md13 (Msg Heard)
section
variable {P : Program} {w : World} {K : PySem.W.Frag} {mg : Str → Option Value} {base : Heap} {C : Cl}
/-! ### Member.stand_at -/
def fsStand (ht : Nat) (t1 t2 hd o : Addr) (fs : List (Str × V)) : List (Str × V) :=
  putF "once" (.ref o) (putF "heard" (.ref hd) (putF "good" (.ref t2) (putF "lock" (.ref t1) (putF "part" (.int 1) (putF "round_now" (.int 0) (putF "height" (.int (ht : Int)) fs))))))
def spStand (C : Cl) : Sp := fun vs H Q _ => ∃ (a dx : Addr) (R : Rf) (fs : List (Str × V)) (ht : Nat), vs = [.ref a, .int (ht : Int)] ∧ H a = some (.ins C.M dx fs) ∧ R a = some .mem ∧ Dom R H ∧ fs.length ≤ 900 ∧
  ∀ H' R' t1 t2 hd o, H' a = some (.ins C.M dx (fsStand ht t1 t2 hd o fs)) → R' a = some .mem → PairAt H' R' t1 none → PairAt H' R' t2 none → (∀ n, HeardAt C H' R' hd [] n) → OnceAt H' R' o true true true → Dom R' H' → Kp [0, 4] R H R' H' → Q .non H'
theorem ok_M_stand_at (T : Txt K mg C) {f : Addr} {fd : FuncData} (F : Fun K "stand_at" "Member.stand_at" s_M_stand_at f fd) (k_H_init : IK P w K mg base C.H 1 ["self"] (spHInit C)) :
    FnOk P w K mg base CX0 3 f fd ["self", "height"] (spStand C) := by
  refine F.ok sc_M_stand_at (fun vs H Q E h => ?_) (fun cdv A outer s0 H vs Q E hr h => ?_)
  · obtain ⟨a, dx, R, fs, ht, rfl, _⟩ := h
    rfl
  · obtain ⟨a, dx, R, fs, ht, rfl, ha, ra, dm, hlen, go⟩ := h
    refine ⟨_, (pss_cons (ps_fld (pv 0) (pv 1) rfl)
  (pss_cons (ps_fld (pv 0) pe_int rfl)
  (pss_cons (ps_fld (pv 0) (pgi (by rfl) T.gOFFERING) rfl)
  (pss_cons (ps_fld (pv 0) (pe_tup (pa_cons (pgi (by rfl) T.gNONE) (pa_cons (pe_un un_neg pe_int) pa_nil))) rfl)
  (pss_cons (ps_fld (pv 0) (pe_tup (pa_cons (pgi (by rfl) T.gNONE) (pa_cons (pe_un un_neg pe_int) pa_nil))) rfl)
  (pss_cons (ps_fld (pv 0) (pmake0 k_H_init (hr.mono (by decide)) (by rfl) T.gHeard) rfl)
  (pss_one (ps_fld (pv 0) pe_dnewK rfl)))))))), ?_⟩
    refine ⟨_, rfl, _, rfl, a, C.M, dx, _, rfl, ha, T.clM, T.nM_height, (by omega), ?_⟩
    have l1 : (putF "height" (.int (ht : Int)) fs).length ≤ 901 := len_put hlen
    refine ⟨_, rfl, a, C.M, dx, _, rfl, upd_same, T.clM, T.nM_round_now, (by omega), ?_⟩
    have l2 : (putF "round_now" (.int 0) (putF "height" (.int (ht : Int)) fs)).length ≤ 902 := len_put l1
    refine ⟨_, rfl, a, C.M, dx, _, rfl, upd_same, T.clM, T.nM_part, (by omega), ?_⟩
    have l3 : (putF "part" (.int 1) (putF "round_now" (.int 0) (putF "height" (.int (ht : Int)) fs))).length ≤ 903 := len_put l2
    rw [upd_upd, upd_upd]
    have K3 : Kp [0] R H R (upd H a (.ins C.M dx (putF "part" (.int 1) (putF "round_now" (.int 0) (putF "height" (.int (ht : Int)) fs))))) := Kp.upd ra (by decide)
    have d3 : Dom R (upd H a (.ins C.M dx (putF "part" (.int 1) (putF "round_now" (.int 0) (putF "height" (.int (ht : Int)) fs))))) := dm.upd
    have a3 : upd H a (.ins C.M dx (putF "part" (.int 1) (putF "round_now" (.int 0) (putF "height" (.int (ht : Int)) fs)))) a = some (.ins C.M dx (putF "part" (.int 1) (putF "round_now" (.int 0) (putF "height" (.int (ht : Int)) fs)))) := upd_same
    generalize upd H a (.ins C.M dx (putF "part" (.int 1) (putF "round_now" (.int 0) (putF "height" (.int (ht : Int)) fs)))) = H3 at K3 d3 a3 ⊢
    -- self.lock = (NONE, -1)
    refine ⟨_, rfl, (by show 2 ≤ sizeLine; decide), fun t1 ht1 => ?_⟩
    have s4 : Same H3 (upd H3 t1 (.tup [.int 0, .int (-1)])) := same_new ht1
    refine ⟨_, rfl, a, C.M, dx, _, rfl, s4 _ _ a3, T.clM, T.nM_lock, (by omega), ?_⟩
    have l4 : (putF "lock" (.ref t1) (putF "part" (.int 1) (putF "round_now" (.int 0) (putF "height" (.int (ht : Int)) fs)))).length ≤ 904 := len_put l3
    have p4 : PairAt (upd H3 t1 (.tup [.int 0, .int (-1)])) R t1 none := ⟨d3 t1 ht1, upd_same⟩
    have K4 : Kp [0] R H3 R (upd (upd H3 t1 (.tup [.int 0, .int (-1)])) a (.ins C.M dx (putF "lock" (.ref t1) (putF "part" (.int 1) (putF "round_now" (.int 0) (putF "height" (.int (ht : Int)) fs)))))) := (Kp.same s4).trans (Kp.upd ra (by decide))
    have d4 : Dom R (upd (upd H3 t1 (.tup [.int 0, .int (-1)])) a (.ins C.M dx (putF "lock" (.ref t1) (putF "part" (.int 1) (putF "round_now" (.int 0) (putF "height" (.int (ht : Int)) fs)))))) := (d3.same s4).upd
    have p4' : PairAt (upd (upd H3 t1 (.tup [.int 0, .int (-1)])) a (.ins C.M dx (putF "lock" (.ref t1) (putF "part" (.int 1) (putF "round_now" (.int 0) (putF "height" (.int (ht : Int)) fs)))))) R t1 none := p4.kp (Kp.upd (S := [0]) ra (by decide))
    have a4 : upd (upd H3 t1 (.tup [.int 0, .int (-1)])) a (.ins C.M dx (putF "lock" (.ref t1) (putF "part" (.int 1) (putF "round_now" (.int 0) (putF "height" (.int (ht : Int)) fs))))) a = some (.ins C.M dx (putF "lock" (.ref t1) (putF "part" (.int 1) (putF "round_now" (.int 0) (putF "height" (.int (ht : Int)) fs))))) := upd_same
    generalize upd (upd H3 t1 (.tup [.int 0, .int (-1)])) a (.ins C.M dx (putF "lock" (.ref t1) (putF "part" (.int 1) (putF "round_now" (.int 0) (putF "height" (.int (ht : Int)) fs))))) = H4 at K4 d4 p4' a4 ⊢
    clear p4
    -- self.good = (NONE, -1)
    refine ⟨_, rfl, (by show 2 ≤ sizeLine; decide), fun t2 ht2 => ?_⟩
    have s5 : Same H4 (upd H4 t2 (.tup [.int 0, .int (-1)])) := same_new ht2
    refine ⟨_, rfl, a, C.M, dx, _, rfl, s5 _ _ a4, T.clM, T.nM_good, (by omega), ?_⟩
    have l5 : (putF "good" (.ref t2) (putF "lock" (.ref t1) (putF "part" (.int 1) (putF "round_now" (.int 0) (putF "height" (.int (ht : Int)) fs))))).length ≤ 905 := len_put l4
    have p5 : PairAt (upd H4 t2 (.tup [.int 0, .int (-1)])) R t2 none := ⟨d4 t2 ht2, upd_same⟩
    have K5 : Kp [0] R H4 R (upd (upd H4 t2 (.tup [.int 0, .int (-1)])) a (.ins C.M dx (putF "good" (.ref t2) (putF "lock" (.ref t1) (putF "part" (.int 1) (putF "round_now" (.int 0) (putF "height" (.int (ht : Int)) fs))))))) := (Kp.same s5).trans (Kp.upd ra (by decide))
    have d5 : Dom R (upd (upd H4 t2 (.tup [.int 0, .int (-1)])) a (.ins C.M dx (putF "good" (.ref t2) (putF "lock" (.ref t1) (putF "part" (.int 1) (putF "round_now" (.int 0) (putF "height" (.int (ht : Int)) fs))))))) := (d4.same s5).upd
    have p5' : PairAt (upd (upd H4 t2 (.tup [.int 0, .int (-1)])) a (.ins C.M dx (putF "good" (.ref t2) (putF "lock" (.ref t1) (putF "part" (.int 1) (putF "round_now" (.int 0) (putF "height" (.int (ht : Int)) fs))))))) R t2 none := p5.kp (Kp.upd (S := [0]) ra (by decide))
    have p45 := p4'.kp K5
    have a5 : upd (upd H4 t2 (.tup [.int 0, .int (-1)])) a (.ins C.M dx (putF "good" (.ref t2) (putF "lock" (.ref t1) (putF "part" (.int 1) (putF "round_now" (.int 0) (putF "height" (.int (ht : Int)) fs)))))) a = some (.ins C.M dx (putF "good" (.ref t2) (putF "lock" (.ref t1) (putF "part" (.int 1) (putF "round_now" (.int 0) (putF "height" (.int (ht : Int)) fs)))))) := upd_same
    generalize upd (upd H4 t2 (.tup [.int 0, .int (-1)])) a (.ins C.M dx (putF "good" (.ref t2) (putF "lock" (.ref t1) (putF "part" (.int 1) (putF "round_now" (.int 0) (putF "height" (.int (ht : Int)) fs)))))) = H5 at K5 d5 p5' p45 a5 ⊢
    clear p5 p4'
    -- self.heard = Heard()
    intro x dxh nx ndx nex
    have s6 : Same H5 (upd H5 dxh (.own x)) := same_new ndx
    have nx6 : upd H5 dxh (.own x) x = none := by rw [upd_ne (Ne.symm nex)]; exact nx
    have K6 : Kp [] R H5 (setR R x .hrd) (upd (upd H5 dxh (.own x)) x (.ins C.H dxh [])) := (Kp.same s6).trans (Kp.newR nx6)
    have d6 : Dom (setR R x .hrd) (upd (upd H5 dxh (.own x)) x (.ins C.H dxh [])) := (d5.same s6).newR
    refine ⟨x, dxh, setR R x .hrd, rfl, upd_same, setR_same, d6, fun H7 R7 hh d7 K7 => ⟨rfl, ?_⟩⟩
    have K67 : Kp [4] R H5 R7 H7 := (K6.mono (by decide)).trans K7
    have a7 := K67.role a5 ra (by decide)
    refine ⟨_, rfl, a, C.M, dx, _, rfl, a7.1, T.clM, T.nM_heard, (by omega), ?_⟩
    have l8 : (putF "heard" (.ref x) (putF "good" (.ref t2) (putF "lock" (.ref t1) (putF "part" (.int 1) (putF "round_now" (.int 0) (putF "height" (.int (ht : Int)) fs)))))).length ≤ 906 := len_put l5
    have K8 : Kp [0] R7 H7 R7 (upd H7 a (.ins C.M dx (putF "heard" (.ref x) (putF "good" (.ref t2) (putF "lock" (.ref t1) (putF "part" (.int 1) (putF "round_now" (.int 0) (putF "height" (.int (ht : Int)) fs)))))))) := Kp.upd a7.2 (by decide)
    have d8 : Dom R7 (upd H7 a (.ins C.M dx (putF "heard" (.ref x) (putF "good" (.ref t2) (putF "lock" (.ref t1) (putF "part" (.int 1) (putF "round_now" (.int 0) (putF "height" (.int (ht : Int)) fs)))))))) := d7.upd
    have a8 : (upd H7 a (.ins C.M dx (putF "heard" (.ref x) (putF "good" (.ref t2) (putF "lock" (.ref t1) (putF "part" (.int 1) (putF "round_now" (.int 0) (putF "height" (.int (ht : Int)) fs)))))))) a = some (.ins C.M dx (putF "heard" (.ref x) (putF "good" (.ref t2) (putF "lock" (.ref t1) (putF "part" (.int 1) (putF "round_now" (.int 0) (putF "height" (.int (ht : Int)) fs))))))) := upd_same
    have hh8 := fun n => (hh n).kp K8 (by decide) (by decide) (by decide) (by decide)
    generalize (upd H7 a (.ins C.M dx (putF "heard" (.ref x) (putF "good" (.ref t2) (putF "lock" (.ref t1) (putF "part" (.int 1) (putF "round_now" (.int 0) (putF "height" (.int (ht : Int)) fs)))))))) = H8 at K8 d8 a8 hh8 ⊢
    -- self.once = {}
    intro q hq
    have nq : a ≠ q := ne_of_none a8 hq
    have s9 : Same H8 (upd H8 q (.dK [])) := same_new hq
    refine ⟨_, rfl, a, C.M, dx, _, rfl, s9 _ _ a8, T.clM, T.nM_once, (by omega), ?_⟩
    have ra9 : setR R7 q .once a = some .mem := by rw [setR_ne nq]; exact a7.2
    have K9 : Kp [0] R7 H8 (setR R7 q .once) (upd (upd H8 q (.dK [])) a (.ins C.M dx (fsStand ht t1 t2 x q fs))) := (Kp.newR hq).trans (Kp.upd ra9 (by decide))
    exact go _ _ t1 t2 x q upd_same ra9 (((p45.kp K67).kp K8).kp K9) (((p5'.kp K67).kp K8).kp K9) (fun n => (hh8 n).kp K9 (by decide) (by decide) (by decide) (by decide))
      ⟨setR_same, [], by rw [upd_ne (Ne.symm nq)]; exact upd_same, rfl, rfl, rfl, by decide⟩ ((d8.newR).upd) ((((((K3.trans K4).trans K5).mono (by decide)).trans (K67.mono (by decide))).trans (K8.mono (by decide))).trans (K9.mono (by decide)))
/-! ### Member.__init__ -/
def made (n me mine : Nat) : Md13.St := Md13.made n me mine
def spMInit (C : Cl) : Sp := fun vs H Q _ => ∃ (p dx : Addr) (R : Rf) (n me mine : Nat), vs = [.ref p, .int (n : Int), .int (me : Int), .int (mine : Int)] ∧ H p = some (.ins C.M dx []) ∧ R p = some .mem ∧ Dom R H ∧ 1 ≤ n ∧
  ∀ H' R', MemAt C H' R' p (Md13.made n me mine) [] → Kx R H R' H' → Q .non H'
theorem ok_M_init (T : Txt K mg C) {f : Addr} {fd : FuncData} (F : Fun K "__init__" "Member.__init__" s_M_init f fd) (m_M_stand_at : MK P w K mg base C.M "stand_at" 3 ["self", "height"] (spStand C)) :
    FnOk P w K mg base CX0 4 f fd ["self", "many", "me", "mine"] (spMInit C) := by
  refine F.ok sc_M_init (fun vs H Q E h => ?_) (fun cdv A outer s0 H vs Q E hr h => ?_)
  · obtain ⟨p, dx, R, n, me, mine, rfl, _⟩ := h
    rfl
  · obtain ⟨a, dx, R, n, me, mine, rfl, ha, ra, dm, hn, go⟩ := h
    refine ⟨_, (pss_cons (ps_fld (pv 0) (pv 1) rfl)
  (pss_cons (ps_fld (pv 0) (pv 2) rfl)
  (pss_cons (ps_fld (pv 0) (pv 3) rfl)
  (pss_cons (ps_fld (pv 0) (pe_op op_fdiv (pe_op op_sub (pv 1) pe_int) pe_int) rfl)
  (pss_cons (ps_fld (pv 0) (pe_op op_sub (pv 1) (pe_fld (pv 0) rfl)) rfl)
  (pss_cons (ps_fld (pv 0) pe_bl rfl)
  (pss_cons (ps_fld (pv 0) pe_dnewK rfl)
  (pss_cons (ps_fld (pv 0) (pe_lst pa_nil) rfl)
  (pss_one (ps_expr (pmeth m_M_stand_at (hr.mono (by decide)) T.clM (pv 0) (pa_cons pe_int pa_nil)))))))))))), ?_⟩
    have l0 : ([] : List (Str × V)).length ≤ 0 := Nat.le_refl _
    refine ⟨_, rfl, _, rfl, a, C.M, dx, _, rfl, ha, T.clM, T.nM_many, (by show 0 < 1000; decide), ?_⟩
    have l1 := len_put (k := "many") (v := .int (n : Int)) l0
    refine ⟨_, rfl, _, rfl, a, C.M, dx, _, rfl, upd_same, T.clM, T.nM_me, (by omega), ?_⟩
    have l2 := len_put (k := "me") (v := .int (me : Int)) l1
    refine ⟨_, rfl, _, rfl, a, C.M, dx, _, rfl, upd_same, T.clM, T.nM_mine, (by omega), ?_⟩
    have l3 := len_put (k := "mine") (v := .int (mine : Int)) l2
    refine ⟨_, rfl, _, _, rfl, rfl, _, _, rfl, rfl, ⟨by decide, by decide⟩, _, rfl, a, C.M, dx, _, rfl, upd_same, T.clM, T.nM_liars, (by omega), ?_⟩
    have l4 := len_put (k := "liars") (v := .int (((n : Int) - 1) / 3)) l3
    have lkl : (putF "liars" (.int (((n : Int) - 1) / 3)) (putF "mine" (.int (mine : Int)) (putF "me" (.int (me : Int)) (putF "many" (.int (n : Int)) [])))).lookup ("liars" : Str) = some (.int (((n : Int) - 1) / 3)) := by
      rw [lookup_putF, if_pos rfl]
    refine ⟨_, rfl, _, rfl, a, C.M, dx, _, _, rfl, upd_same, T.clM, T.nM_liars, lkl, _, _, rfl, rfl, _, rfl, a, C.M, dx, _, rfl, upd_same, T.clM, T.nM_enough, (Nat.lt_of_le_of_lt l4 (by decide)), ?_⟩
    have l5 := len_put (k := "enough") (v := .int ((n : Int) - ((n : Int) - 1) / 3)) l4
    refine ⟨_, rfl, a, C.M, dx, _, rfl, upd_same, T.clM, T.nM_begun, (Nat.lt_of_le_of_lt l5 (by decide)), ?_⟩
    have l6 := len_put (k := "begun") (v := .bl false) l5
    rw [upd_upd, upd_upd, upd_upd, upd_upd, upd_upd]
    have K1 : Kp [0] R H R (upd H a (.ins C.M dx (putF "begun" (.bl false) (putF "enough" (.int ((n : Int) - ((n : Int) - 1) / 3)) (putF "liars" (.int (((n : Int) - 1) / 3)) (putF "mine" (.int (mine : Int)) (putF "me" (.int (me : Int)) (putF "many" (.int (n : Int)) [])))))))) := Kp.upd ra (by decide)
    have d1 : Dom R (upd H a (.ins C.M dx (putF "begun" (.bl false) (putF "enough" (.int ((n : Int) - ((n : Int) - 1) / 3)) (putF "liars" (.int (((n : Int) - 1) / 3)) (putF "mine" (.int (mine : Int)) (putF "me" (.int (me : Int)) (putF "many" (.int (n : Int)) [])))))))) := dm.upd
    have a1 : (upd H a (.ins C.M dx (putF "begun" (.bl false) (putF "enough" (.int ((n : Int) - ((n : Int) - 1) / 3)) (putF "liars" (.int (((n : Int) - 1) / 3)) (putF "mine" (.int (mine : Int)) (putF "me" (.int (me : Int)) (putF "many" (.int (n : Int)) [])))))))) a =
      some (.ins C.M dx (putF "begun" (.bl false) (putF "enough" (.int ((n : Int) - ((n : Int) - 1) / 3)) (putF "liars" (.int (((n : Int) - 1) / 3)) (putF "mine" (.int (mine : Int)) (putF "me" (.int (me : Int)) (putF "many" (.int (n : Int)) []))))))) := upd_same
    generalize (upd H a (.ins C.M dx (putF "begun" (.bl false) (putF "enough" (.int ((n : Int) - ((n : Int) - 1) / 3)) (putF "liars" (.int (((n : Int) - 1) / 3)) (putF "mine" (.int (mine : Int)) (putF "me" (.int (me : Int)) (putF "many" (.int (n : Int)) [])))))))) = H1 at K1 d1 a1 ⊢
    -- self.decisions = {}; self.things = []
    intro d hd
    have nd : a ≠ d := ne_of_none a1 hd
    refine ⟨_, rfl, a, C.M, dx, _, rfl, (by rw [upd_ne nd]; exact a1), T.clM, T.nM_decisions, (by omega), ?_⟩
    have l7 := len_put (k := "decisions") (v := .ref d) l6
    refine ⟨Nat.zero_le _, fun l hl => ?_⟩
    have nl : a ≠ l := fun z => by subst z; rw [upd_same] at hl; cases hl
    refine ⟨_, rfl, a, C.M, dx, _, rfl, (by rw [upd_ne nl]; exact upd_same), T.clM, T.nM_things, (by omega), ?_⟩
    have l8 := len_put (k := "things") (v := .ref l) l7
    have ndl : l ≠ d := fun z => by subst z; rw [upd_ne (Ne.symm nl), upd_same] at hl; cases hl
    have ra1 : setR R d .dec a = some .mem := by rw [setR_ne nd]; exact ra
    have ra2 : setR (setR R d .dec) l .things a = some .mem := by rw [setR_ne nl]; exact ra1
    have K2 := ((Kp.newR (S := [0]) (x := .dec) (o := .dK []) hd).trans (Kp.upd ra1 (by decide))).trans ((Kp.newR (S := [0]) (x := .things) (o := .lst []) hl).trans (Kp.upd (o := .ins C.M dx (f8 n me mine (((n : Int) - 1) / 3) ((n : Int) - ((n : Int) - 1) / 3) d l)) ra2 (by decide)))
    have d2 := ((((d1.newR (x := .dec) (o := .dK []) (a := d)).upd (a := a) (o := .ins C.M dx (putF "decisions" (.ref d) (putF "begun" (.bl false) (putF "enough" (.int ((n : Int) - ((n : Int) - 1) / 3)) (putF "liars" (.int (((n : Int) - 1) / 3)) (putF "mine" (.int (mine : Int)) (putF "me" (.int (me : Int)) (putF "many" (.int (n : Int)) []))))))))).newR (a := l) (x := .things) (o := .lst [])).upd (a := a) (o := .ins C.M dx (f8 n me mine (((n : Int) - 1) / 3) ((n : Int) - ((n : Int) - 1) / 3) d l)))
    refine ⟨_, rfl, a, dx, _, rfl, upd_same, ?_, ?_⟩
    · show (f8 n me mine (((n : Int) - 1) / 3) ((n : Int) - ((n : Int) - 1) / 3) d l).lookup ("stand_at" : Str) = none
      rw [f8_eq]
      exact lookup_zip_none (by decide +kernel)
    refine ⟨a, dx, _, f8 n me mine (((n : Int) - 1) / 3) ((n : Int) - ((n : Int) - 1) / 3) d l, 1, rfl, upd_same, ra2, d2, Nat.le_trans l8 (by decide), fun H' R' t1 t2 hd' o' e1 e2 e3 e4 e5 e6 e7 K3 => ?_⟩
    refine go H' R' ?_ (((K1.mono (by decide)).trans (K2.mono (by decide))).trans (K3.mono (by decide)))
    have hd3 := K3.role (b := d) (o := .dK []) (x := .dec) (by rw [upd_ne (Ne.symm nd), upd_ne (Ne.symm ndl), upd_ne (Ne.symm nd)]; exact upd_same) (by rw [setR_ne (Ne.symm ndl)]; exact setR_same) (by decide)
    have hl3 := K3.role (b := l) (o := .lst []) (x := .things) (by rw [upd_ne (Ne.symm nl)]; exact upd_same) setR_same (by decide)
    refine ⟨dx, d, l, t1, t2, hd', o', ?_, e2, ⟨hd3.2, [], hd3.1, Nat.le_refl _, fun h => rfl⟩, ⟨hl3.2, [], hl3.1, .nil⟩, e3, e4, e5 n, e6, e7⟩
    rw [e1]
    unfold fsStand
    rw [put_stand0]
    have q1 : (((n : Int) - 1) / 3) = ((Md13.liars n : Nat) : Int) := by
      unfold Md13.liars
      omega
    have q2 : (n : Int) - ((n : Int) - 1) / 3 = ((Md13.enough n : Nat) : Int) := by
      unfold Md13.enough Md13.liars
      omega
    rw [q2, q1]
    rfl
/-! ### Place.__init__ -/
def spPInit (C : Cl) : Sp := fun vs H Q _ => ∃ (p dx : Addr), vs = [.ref p] ∧ H p = some (.ins C.P dx []) ∧ Q .non (upd H p (.ins C.P dx [("member", .non)]))
theorem ok_P_init (T : Txt K mg C) {f : Addr} {fd : FuncData} (F : Fun K "__init__" "Place.__init__" s_P_init f fd) : FnOk P w K mg base CX0 1 f fd ["self"] (spPInit C) := by
  refine F.ok sc_P_init (fun vs H Q E h => ?_) (fun cdv A outer s0 H vs Q E hr h => ?_)
  · obtain ⟨p, dx, rfl, _⟩ := h
    rfl
  · obtain ⟨p, dx, rfl, hp, go⟩ := h
    refine ⟨_, (pss_one (ps_fld (pv 0) pe_non rfl)), ?_⟩
    exact ⟨_, rfl, p, C.P, dx, _, rfl, hp, T.clP, T.nP_member, (by show 0 < 1000; decide), go⟩
end
end Ag
namespace Ag
open PySem PySem.Spec PyProof.Rows L2
open Md13 (Msg Heard)
/-- sizes within which a rule may be done -/
def Sz (s : Md13.St) (acts : List Md13.Act) : Prop := s.heard.length < 900000 ∧ acts.length < 900000 ∧ s.decided.length < 900000
section
variable {P : Program} {w : World} {K : PySem.W.Frag} {mg : Str → Option Value} {base : Heap} {C : Cl}
/-- a rule's def: it hands back whether the rule was done -/
def spRule (C : Cl) (rl : Md13.St → Step) : Sp := fun vs H Q _ => ∃ (a : Addr) (R : Rf) (s : Md13.St) (acts : List Md13.Act), vs = [.ref a] ∧ MemAt C H R a s acts ∧ Ok s ∧ Sz s acts ∧
  (rl s = none → ∀ H', Same H H' → Q (.bl false) H') ∧ (∀ t l, rl s = some (t, l) → ∀ H' R', MemAt C H' R' a t (acts ++ l) → Kx R H R' H' → Q (.bl true) H')
def settles (s : Md13.St) (r : Nat) : Option Nat := match Md13.offerOf s r with
  | some m => if m.value ≠ 0 ∧ Md13.most s .second r (fun v => v == m.value) = true then some m.value else none
  | none => none
theorem settled_eq (s : Md13.St) : Md13.settled s = (List.range 64).findSome? (settles s) := rfl
theorem findSome_none {f : Nat → Option Nat} {n : Nat} (h : ∀ j, j < n → f j = none) : (List.range n).findSome? f = none := by
  rw [List.findSome?_eq_none_iff]
  intro x hx
  exact h x (List.mem_range.mp hx)
theorem findSome_at {f : Nat → Option Nat} {v : Nat} : ∀ {n i : Nat}, i < n → (∀ j, j < i → f j = none) → f i = some v → (List.range n).findSome? f = some v
  | 0, i, h, _, _ => by omega
  | n + 1, i, h, h1, h2 => by
    rw [List.range_succ, List.findSome?_append]
    by_cases c : i < n
    · rw [findSome_at c h1 h2]; rfl
    · have : i = n := by omega
      subst this
      rw [findSome_none h1]
      simp [h2]
theorem lookup_here {dl : List Nat} (v : Nat) (h : Nat) : ((v :: dl).reverse[h]?) = if h = dl.length then some v else dl.reverse[h]? := by
  rw [List.reverse_cons]
  by_cases c : h = dl.length
  · subst c
    rw [if_pos rfl, List.getElem?_append_right (by rw [List.length_reverse]; exact Nat.le_refl _), List.length_reverse, Nat.sub_self]
    rfl
  · rw [if_neg c]
    by_cases d : h < dl.length
    · rw [List.getElem?_append_left (by rw [List.length_reverse]; exact d)]
    · have e1 : dl.reverse[h]? = none := List.getElem?_eq_none (by rw [List.length_reverse]; omega)
      rw [List.getElem?_append_right (by rw [List.length_reverse]; omega), List.length_reverse, e1]
      exact List.getElem?_eq_none (by show 1 ≤ h - dl.length; omega)
theorem backed_some (s : Md13.St) (m : Msg) (v : Nat) : backed s (some m) v = (match m.from_ with
  | none => true
  | some q => decide (q < s.round) && Md13.most s .first q (fun x => x == v)) := rfl
theorem DecAt.put {H : Hp} {R : Rf} {d : Addr} {dl : List Nat} {kvs : List (Key × V)} {v : Nat} (rd : R d = some .dec) (e : H d = some (.dK kvs)) (l : kvs.length ≤ dl.length) (c : ∀ h : Nat, valV kvs (.inl ((h + 1 : Nat) : Int)) = (dl.reverse[h]?).map fun v => V.int (v : Int)) :
    DecAt (upd H d (.dK (putK kvs (.inl ((dl.length + 1 : Nat) : Int)) (.int (v : Int))))) R d (v :: dl) := by
  refine ⟨rd, _, upd_same, ?_, fun h => ?_⟩
  · have := length_putK kvs (.inl ((dl.length + 1 : Nat) : Int)) (.int (v : Int))
    rw [List.length_cons]
    omega
  · rw [valV_put, lookup_here]
    by_cases z : h = dl.length
    · subst z
      rw [if_pos rfl, if_pos rfl]
      rfl
    · rw [if_neg z, if_neg (fun y => z (by have := inl_inj y; omega))]
      exact c h
/-! ### decide -/
theorem ok_decide (T : Txt K mg C) {f : Addr} {fd : FuncData} (F : Fun K "decide" "decide" s_decide f fd) (m_M_offer : MK P w K mg base C.M "offer" 2 ["self", "number"] (spOffer C)) (m_M_has_enough : MK P w K mg base C.M "has_enough" 2 ["self", "kind", "number", "value"] (spEnough C))
    (m_M_stand_at : MK P w K mg base C.M "stand_at" 3 ["self", "height"] (spStand C)) (m_M_begin_round : MK P w K mg base C.M "begin_round" 3 ["self", "number"] (spBegin C)) :
    FnOk P w K mg base CX0 4 f fd ["member"] (spRule C r1) := by
  refine F.ok sc_decide (fun vs H Q E h => ?_) (fun cdv A outer s0 H vs Q E hr h => ?_)
  · obtain ⟨a, R, s, acts, rfl, _⟩ := h
    rfl
  · have hu := hu_of hr
    obtain ⟨a, R, s, acts, rfl, M, ok, ⟨z1, z2, z3⟩, goN, goS⟩ := h
    refine ⟨_, (pss_cons (ps_for PassesOwn.never rfl (pi_range1 (by rfl) T.b_range (pa_cons (pgi (by rfl) T.gMOST_ROUNDS) pa_nil)) (pg_name (i := 1) sc_decide.nd rfl (Or.inl rfl))
  (pss_cons (ps_set (i := 2) sc_decide.nd rfl (Or.inl rfl) (pmeth m_M_offer (hr.mono (by decide)) T.clM (pv 0) (pa_cons (pv 1) pa_nil)))
  (pss_one (ps_if (PW.pt (pw_and (pt_cmpR op_notN (pv 2) pe_non (nomark _)) (pw_and (pt_cmpR op_ne (pe_ix ix_tup (pv 2) pe_int (fun _ _ => rfl)) (pgi (by rfl) T.gNONE) (nomark _)) (pw_and1 (pt_val (pmeth m_M_has_enough (hr.mono (by decide)) T.clM (pv 0) (pa_cons (pgi (by rfl) T.gSECOND) (pa_cons (pv 1) (pa_cons (pe_ix ix_tup (pv 2) pe_int (fun _ _ => rfl)) pa_nil)))))))))
  (pss_cons (ps_dput hu (pe_fld (pv 0) rfl) (pe_fld (pv 0) rfl) (pe_ix ix_tup (pv 2) pe_int (fun _ _ => rfl)) rfl)
  (pss_cons (ps_expr (pe_bm PySem.F.plainAttrs_list PySem.F.slot_list_append PySem.F.type_list_append mt_append (pe_fld (pv 0) rfl) (pa_cons (pe_lst (pa_cons (pgi (by rfl) T.gDECIDES) (pa_cons (pe_fld (pv 0) rfl) (pa_cons (pe_ix ix_tup (pv 2) pe_int (fun _ _ => rfl)) (pa_cons pe_int (pa_cons pe_int (pa_cons pe_int pa_nil))))))) pa_nil)))
  (pss_cons (ps_expr (pmeth m_M_stand_at (hr.mono (by decide)) T.clM (pv 0) (pa_cons (pe_op op_add (pe_fld (pv 0) rfl) pe_int) pa_nil)))
  (pss_cons (ps_expr (pmeth m_M_begin_round (hr.mono (by decide)) T.clM (pv 0) (pa_cons pe_int pa_nil)))
  (pss_one (ps_ret pe_bl))))))
  pss_nil))))
  (pss_one (ps_ret pe_bl))), ?_⟩
    have hn : 0 < s.n := by have := ok.n4; omega
    refine ⟨64, rfl, (by decide), (by decide), for_range (lo := 0) (n := (64 : Int).toNat) (fun i σ H' => ∃ x y, σ = [some (.ref a), x, y] ∧ Same H H' ∧ ∀ j, j < i → settles s j = none)
      ⟨none, none, rfl, Same.refl _, fun j hj => by omega⟩ ?_ ?_⟩
    · rintro i σ H1 hi ⟨x, y, rfl, s1, hno⟩
      have ei : (0 : Int) + (i : Int) = (i : Int) := Int.zero_add _
      rw [ei]
      have M1 := M.same s1
      obtain ⟨dx, d, l, t1, t2, hd, o, A1⟩ := id M1
      refine ⟨_, rfl, a, dx, _, rfl, A1.at_, mF_no (by decide +kernel), _, rfl, ?_⟩
      refine ⟨a, R, s, acts, i, rfl, M1, hn, fun H2 v s2 ho => ?_⟩
      have s12 := s1.trans s2
      have M2 := M1.same s2
      obtain ⟨dx, d, l, t1, t2, hd, o, A2⟩ := id M2
      cases hof : Md13.offerOf s i with
      | none =>
        rw [hof] at ho
        have ev : v = .non := ho
        subst ev
        refine ⟨_, rfl, rfl, _, rfl, isF rfl (isF rfl ⟨_, _, rfl, s12, fun j hj => ?_⟩)⟩
        by_cases c : j = i
        · rw [c]; unfold settles; rw [hof]
        · exact hno j (by omega)
      | some m =>
        rw [hof] at ho
        obtain ⟨t, rfl, rt, et⟩ := ho
        have notyet : settles s i = none → ∃ x' y', ([some (.ref a), some (.int (i : Int)), some (.ref t)] : L2.St) = [some (.ref a), x', y'] ∧ Same H H2 ∧ ∀ j, j < i + 1 → settles s j = none := fun q => ⟨_, _, rfl, s12, fun j hj => by
          by_cases c : j = i
          · rw [c]; exact q
          · exact hno j (by omega)⟩
        refine ⟨_, rfl, rfl, _, rfl, isT rfl ?_⟩
        refine ⟨_, rfl, t, _, 0, .int (m.value : Int), rfl, rfl, SqT.of et, atI_nat (j := 0) rfl, rfl, _, rfl, ?_⟩
        by_cases c0 : m.value = 0
        · have e0 : (!decide (V.int (m.value : Int) = V.int 0)) = false := by rw [c0]; rfl
          refine isF e0 (isF rfl (notyet ?_))
          unfold settles
          rw [hof]
          exact if_neg (fun z => z.1 c0)
        · have e0 : (!decide (V.int (m.value : Int) = V.int 0)) = true := by rw [decide_eq_false (fun z => by injection z with z; omega)]; rfl
          refine isT e0 ?_
          refine ⟨_, rfl, a, dx, _, rfl, A2.at_, mF_no (by decide +kernel), _, rfl, _, rfl, t, _, 0, .int (m.value : Int), rfl, rfl, SqT.of et, atI_nat (j := 0) rfl, ?_⟩
          refine ⟨a, R, s, acts, .second, i, m.value, rfl, M2, fun H3 s3 => ⟨_, rfl, ?_⟩⟩
          have et3 := s3 _ _ et
          have s13 := s12.trans s3
          have M3 := M2.same s3
          cases hm : Md13.most s .second i (fun y => y == m.value) with
          | false =>
            refine isF rfl ?_
            have q : settles s i = none := by
              unfold settles
              rw [hof]
              exact if_neg (fun z => by rw [hm] at z; exact Bool.false_ne_true z.2)
            exact ⟨_, _, rfl, s13, fun j hj => by
              by_cases c : j = i
              · rw [c]; exact q
              · exact hno j (by omega)⟩
          | true =>
            refine isT rfl ?_
            have hset : Md13.settled s = some m.value := by
              rw [settled_eq]
              refine findSome_at (show i < 64 from hi) hno ?_
              unfold settles
              rw [hof]
              exact if_pos ⟨c0, hm⟩
            have hr1 : r1 s = some ((Md13.starts (fresh s m.value) 0).1, .decide s.height m.value :: (Md13.starts (fresh s m.value) 0).2) := by
              unfold r1
              rw [hset]
              rfl
            have K03 : Kp [] R H R H3 := Kp.same s13
            clear M1 M2 A1 A2
            obtain ⟨dx, d, l, t1, t2, hd, o, A3⟩ := M3
            obtain ⟨rd, dkv, ed, ld, cd⟩ := id A3.dec
            have eh : (s.height : Int) = ((s.decided.length + 1 : Nat) : Int) := by rw [ok.ht]
            -- member.decisions[member.height] = offer[0]
            refine ⟨_, rfl, t, _, 0, .int (m.value : Int), rfl, rfl, SqT.of et3, atI_nat (j := 0) rfl, _, rfl, a, C.M, dx, _, _, rfl, A3.at_, T.clM, T.nM_decisions, lk_decisions, _, rfl, a, C.M, dx, _, _, rfl, A3.at_, T.clM, T.nM_height, lk_height,
              d, _, rfl, DPut.k (k := .inl (s.height : Int)) ed (big (by omega)), ?_⟩
            have dec4 : DecAt (upd H3 d (.dK (putK dkv (.inl (s.height : Int)) (.int (m.value : Int))))) R d (m.value :: s.decided) := by rw [eh]; exact DecAt.put rd ed ld cd
            have K4 : Kp [2] R H3 R (upd H3 d (.dK (putK dkv (.inl (s.height : Int)) (.int (m.value : Int))))) := Kp.upd rd (by decide)
            have d4 : Dom R (upd H3 d (.dK (putK dkv (.inl (s.height : Int)) (.int (m.value : Int))))) := A3.dom.upd
            generalize upd H3 d (.dK (putK dkv (.inl (s.height : Int)) (.int (m.value : Int)))) = H4 at dec4 K4 d4 ⊢
            have a4 := K4.role A3.at_ A3.ro (by decide)
            have th4 := A3.th.kp K4 (by decide)
            obtain ⟨rl, ps, el, pc⟩ := id th4
            have et4 := (K4.bare et3 rt).1
            -- member.things.append([DECIDES, member.height, offer[0], 0, 0, 0])
            refine ⟨_, rfl, a, C.M, dx, _, _, rfl, a4.1, T.clM, T.nM_things, lk_things, .inl ⟨rfl, _, SqL.of el⟩, _, rfl, a, C.M, dx, _, _, rfl, a4.1, T.clM, T.nM_height, lk_height, _, rfl, t, _, 0, .int (m.value : Int), rfl, rfl, SqT.of et4, atI_nat (j := 0) rfl,
              (by show 6 ≤ sizeLine; decide), fun p hp => ?_⟩
            have s5 : Same H4 (upd H4 p (.lst [.int 5, .int (s.height : Int), .int (m.value : Int), .int 0, .int 0, .int 0])) := same_new hp
            have lps : ps.length = acts.length := Paired.length pc
            refine ⟨l, _, _, rfl, rfl, s5 _ _ el, (by rw [List.length_map, lps]; exact big (by omega)), ?_⟩
            have K5' : Kp [] R H4 (setR R p .act) (upd H4 p (.lst [.int 5, .int (s.height : Int), .int (m.value : Int), .int 0, .int 0, .int 0])) := Kp.newR hp
            have rl5 := (K5'.role el rl (by decide)).2
            have th6 : ThAt (upd (upd H4 p (.lst [.int 5, .int (s.height : Int), .int (m.value : Int), .int 0, .int 0, .int 0])) l (.lst (ps.map V.ref ++ [.ref p]))) (setR R p .act) l (acts ++ [.decide s.height m.value]) :=
              ThAt.snoc rl5 (s5 _ _ el) (acts_kp K5' (by decide) pc) setR_same upd_same
            have K6 : Kp [1] R H4 (setR R p .act) (upd (upd H4 p (.lst [.int 5, .int (s.height : Int), .int (m.value : Int), .int 0, .int 0, .int 0])) l (.lst (ps.map V.ref ++ [.ref p]))) := (K5'.mono (by decide)).trans (Kp.upd rl5 (by decide))
            have d6 : Dom (setR R p .act) (upd (upd H4 p (.lst [.int 5, .int (s.height : Int), .int (m.value : Int), .int 0, .int 0, .int 0])) l (.lst (ps.map V.ref ++ [.ref p]))) := (d4.newR).upd
            generalize upd (upd H4 p (.lst [.int 5, .int (s.height : Int), .int (m.value : Int), .int 0, .int 0, .int 0])) l (.lst (ps.map V.ref ++ [.ref p])) = H6 at th6 K6 d6 ⊢
            have a6 := K6.role a4.1 a4.2 (by decide)
            have dec6 := dec4.kp K6 (by decide)
            -- member.stand_at(member.height + 1)
            refine ⟨_, rfl, a, dx, _, rfl, a6.1, mF_no (by decide +kernel), _, rfl, a, C.M, dx, _, _, rfl, a6.1, T.clM, T.nM_height, lk_height, _, _, rfl, rfl, ?_⟩
            refine ⟨a, dx, _, _, s.height + 1, rfl, a6.1, a6.2, d6, (by rw [mF_len]; decide), fun H7 R7 t3 t4 hd2 o2 e1 e2 e3 e4 e5 e6 e7 K7 => ?_⟩
            have K07 : Kx R H R7 H7 := (((K03.mono (by decide)).trans (K4.mono (by decide))).trans (K6.mono (by decide))).trans (K7.mono (by decide))
            have hst : fsStand (s.height + 1) t3 t4 hd2 o2 (mF s d l t1 t2 hd o) = mF { fresh s m.value with round := 0, at_ := .offering } d l t3 t4 hd2 o2 := put_stand (s.height + 1) t3 t4 hd2 o2
            rw [hst] at e1
            have M7 : MemAt C H7 R7 a { fresh s m.value with round := 0, at_ := .offering } (acts ++ [.decide s.height m.value]) :=
              ⟨dx, d, l, t3, t4, hd2, o2, e1, e2, dec6.kp K7 (by decide), th6.kp K7 (by decide), e3, e4, e5 s.n, e6, e7⟩
            -- member.begin_round(0); return True
            refine ⟨_, rfl, a, dx, _, rfl, e1, mF_no (by decide +kernel), ?_⟩
            refine ⟨a, R7, _, _, 0, rfl, M7, ⟨ok.me, ok.n32, by decide⟩, fun g q => (nomatch q), fun x q => (nomatch q), (by show 0 < 1000000; decide), (by rw [List.length_append]; show acts.length + 1 < 1000000; omega), fun H8 R8 M8 K8 => ?_⟩
            refine goS _ _ hr1 H8 R8 ?_ (K07.trans K8)
            rw [List.append_assoc] at M8
            exact M8
    · rintro σ H1 ⟨x, y, rfl, s1, hno⟩
      have hset : Md13.settled s = none := by
        rw [settled_eq]
        exact findSome_none hno
      refine goN ?_ _ s1
      unfold r1
      rw [hset]
/-! ### catch_up -/
theorem ok_catch_up (T : Txt K mg C) {f : Addr} {fd : FuncData} (F : Fun K "catch_up" "catch_up" s_catch_up f fd) (m_H_loud_round : MK P w K mg base C.H "loud_round" 1 ["self", "above", "many"] (spLoud C)) (m_M_begin_round : MK P w K mg base C.M "begin_round" 3 ["self", "number"] (spBegin C)) :
    FnOk P w K mg base CX0 4 f fd ["member"] (spRule C r2) := by
  refine F.ok sc_catch_up (fun vs H Q E h => ?_) (fun cdv A outer s0 H vs Q E hr h => ?_)
  · obtain ⟨a, R, s, acts, rfl, _⟩ := h
    rfl
  · obtain ⟨a, R, s, acts, rfl, M, ok, ⟨z1, z2, z3⟩, goN, goS⟩ := h
    refine ⟨_, (pss_cons (ps_set (i := 1) sc_catch_up.nd rfl (Or.inl rfl) (pmeth m_H_loud_round (hr.mono (by decide)) T.clH (pe_fld (pv 0) rfl) (pa_cons (pe_fld (pv 0) rfl) (pa_cons (pe_fld (pv 0) rfl) pa_nil))))
  (pss_cons (ps_if (pt_cmpR op_isN (pv 1) pe_non (nomark _))
  (pss_one (ps_ret pe_bl))
  pss_nil)
  (pss_cons (ps_expr (pmeth m_M_begin_round (hr.mono (by decide)) T.clM (pv 0) (pa_cons (pv 1) pa_nil)))
  (pss_one (ps_ret pe_bl))))), ?_⟩
    obtain ⟨dx, d, l, t1, t2, hd, o, A⟩ := id M
    obtain ⟨dxh, sd, tl, sp, hh, rest⟩ := id A.hrd
    refine ⟨_, rfl, a, C.M, dx, _, _, rfl, A.at_, T.clM, T.nM_heard, lk_heard, hd, dxh, _, rfl, hh, hF_no (by decide +kernel), _, rfl, a, C.M, dx, _, _, rfl, A.at_, T.clM, T.nM_round_now, lk_round_now, _, rfl, a, C.M, dx, _, _, rfl, A.at_, T.clM, T.nM_liars, lk_liars, ?_⟩
    refine ⟨hd, R, s.heard, s.n, s.round, Md13.liars s.n, rfl, A.hrd, fun H1 s1 => ?_⟩
    rw [← ahead_L]
    have M1 := M.same s1
    cases ha : Md13.ahead s with
    | none =>
      refine ⟨_, rfl, rfl, _, rfl, isT rfl ?_⟩
      refine goN ?_ _ s1
      unfold r2
      rw [ha]
    | some r =>
      refine ⟨_, rfl, rfl, _, rfl, isF rfl ?_⟩
      obtain ⟨b1, b2, _⟩ := ahead_some ha
      clear A
      obtain ⟨dx, d, l, t1, t2, hd, o, A⟩ := id M1
      refine ⟨_, rfl, a, dx, _, rfl, A.at_, mF_no (by decide +kernel), _, rfl, ?_⟩
      refine ⟨a, R, s, acts, r, rfl, M1, ⟨ok.me, ok.n32, b1⟩, ok.gd, fun x hx => by have := ok.dn x hx; omega, by omega, by omega, fun H2 R2 M2 K2 => ?_⟩
      refine goS _ _ ?_ H2 R2 M2 ((Kp.same s1).trans K2)
      unfold r2
      rw [ha]
/-! ### is_backed -/
def spBacked (C : Cl) : Sp := fun vs H Q _ => ∃ (a t : Addr) (R : Rf) (s : Md13.St) (acts : List Md13.Act) (m : Msg), vs = [.ref a, .ref t] ∧ MemAt C H R a s acts ∧ H t = some (.tup [.int (m.value : Int), .int (fr m.from_)]) ∧
  ∀ H', Same H H' → Q (.bl (backed s (some m) m.value)) H'
theorem ok_is_backed (T : Txt K mg C) {f : Addr} {fd : FuncData} (F : Fun K "is_backed" "is_backed" s_is_backed f fd) (m_M_has_enough : MK P w K mg base C.M "has_enough" 2 ["self", "kind", "number", "value"] (spEnough C)) :
    FnOk P w K mg base CX0 3 f fd ["member", "offer"] (spBacked C) := by
  refine F.ok sc_is_backed (fun vs H Q E h => ?_) (fun cdv A outer s0 H vs Q E hr h => ?_)
  · obtain ⟨a, t, R, s, acts, m, rfl, _⟩ := h
    rfl
  · obtain ⟨a, t, R, s, acts, m, rfl, M, et, go⟩ := h
    refine ⟨_, (pss_cons (ps_asg (pv 1) (pg_tup (by rfl) (pgs_cons (pg_name (i := 2) sc_is_backed.nd rfl (Or.inl rfl)) (pgs_cons (pg_name (i := 3) sc_is_backed.nd rfl (Or.inl rfl)) pgs_nil))))
  (pss_cons (ps_if (pt_cmpR op_eq (pv 3) (pe_un un_neg pe_int) (nomark _))
  (pss_one (ps_ret pe_bl))
  pss_nil)
  (pss_one (ps_ret (pe_and (pe_cmpR op_lt (pv 3) (pe_fld (pv 0) rfl) (nomark _)) (pe_one (pmeth m_M_has_enough (hr.mono (by decide)) T.clM (pv 0) (pa_cons (pgi (by rfl) T.gFIRST) (pa_cons (pv 3) (pa_cons (pv 2) pa_nil)))))))))), ?_⟩
    obtain ⟨dx, d, l, t1, t2, hd, o, A⟩ := id M
    refine ⟨_, rfl, t, _, rfl, SqT.of et, rfl, _, _, rfl, _, _, rfl, rfl, ?_⟩
    refine ⟨_, rfl, _, rfl, rfl, _, rfl, ?_⟩
    cases hf : m.from_ with
    | none =>
      refine isT rfl ?_
      have e : backed s (some m) m.value = true := by rw [backed_some, hf]
      have := go H (Same.refl _)
      rw [e] at this
      exact this
    | some q =>
      have e : backed s (some m) m.value = (decide (q < s.round) && Md13.most s .first q (fun x => x == m.value)) := by rw [backed_some, hf]
      rw [e] at go
      have e0 : decide (V.int (fr (some q)) = V.int (-1)) = false := decide_eq_false (fun z => by injection z with z; have : (q : Int) = -1 := z; omega)
      refine isF e0 ?_
      refine ⟨_, rfl, _, rfl, a, C.M, dx, _, _, rfl, A.at_, T.clM, T.nM_round_now, lk_round_now, _, _, rfl, rfl, _, rfl, ?_⟩
      by_cases c : q < s.round
      · rw [decide_eq_true c, Bool.true_and] at go
        refine isT (decide_eq_true (show (q : Int) < (s.round : Int) by omega)) ?_
        refine ⟨_, rfl, a, dx, _, rfl, A.at_, mF_no (by decide +kernel), _, rfl, _, rfl, ?_⟩
        exact ⟨a, R, s, acts, .first, q, m.value, rfl, M, fun H1 s1 => go H1 s1⟩
      · rw [decide_eq_false c, Bool.false_and] at go
        refine isF (decide_eq_false (show ¬ (q : Int) < (s.round : Int) by omega)) ?_
        exact go H (Same.refl _)
end
end Ag
namespace Ag
open PySem PySem.Spec PyProof.Rows L2
open Md13 (Msg Heard)
theorem part_ne (a : Md13.At) : (!decide (V.int (parts a : Nat) = V.int 1)) = !decide (a = .offering) := by cases a <;> rfl
theorem part_eq (a : Md13.At) : decide (V.int (parts a : Nat) = V.int 1) = decide (a = .offering) := by cases a <;> rfl
theorem part_ne2 (a : Md13.At) : (!decide (V.int (parts a : Nat) = V.int 2)) = !decide (a = .first) := by cases a <;> rfl
theorem part_eq2 (a : Md13.At) : decide (V.int (parts a : Nat) = V.int 2) = decide (a = .first) := by cases a <;> rfl
theorem dec_nat {a b : Nat} : decide (V.int (a : Int) = V.int (b : Int)) = decide (a = b) := by
  by_cases c : a = b
  · rw [c, decide_eq_true rfl, decide_eq_true rfl]
  · rw [decide_eq_false c, decide_eq_false (fun z => by injection z with z; omega)]
theorem ofv_some {s : Md13.St} {m : Msg} (h : Md13.offerOf s s.round = some m) : ofr s = some m ∧ ofv s = m.value := by
  have e : ofr s = some m := h
  refine ⟨e, ?_⟩
  unfold ofv
  rw [e]
  rfl
theorem ofv_none {s : Md13.St} (h : Md13.offerOf s s.round = none) : ofr s = none ∧ ofv s = 0 := by
  have e : ofr s = none := h
  refine ⟨e, ?_⟩
  unfold ofv
  rw [e]
  rfl
section
variable {H : Hp} {R : Rf} {o : Addr} {b2 b3 b4 : Bool}
theorem OnceAt.put4 (A : OnceAt H R o true b2 b3) : ∃ kvs : List (Key × V), H o = some (.dK kvs) ∧ kvs.length ≤ 3 ∧ valV kvs (.inr "lock") = none ∧ OnceAt (upd H o (.dK (putK kvs (.inr "lock") (.bl true)))) R o false b2 b3 := by
  obtain ⟨r, kvs, e, c4, c2, c3, l⟩ := A
  have hn : valV kvs (.inr "lock") = none := by
    cases q : valV kvs (.inr "lock") with
    | none => rfl
    | some _ => rw [q] at c4; cases c4
  refine ⟨kvs, e, by omega, hn, r, _, upd_same, ?_, ?_, ?_, ?_⟩
  · rw [valV_put, if_pos rfl]; rfl
  · rw [valV_put, if_neg (by decide +kernel)]; exact c2
  · rw [valV_put, if_neg (by decide +kernel)]; exact c3
  · rw [putK_new _ hn, List.length_append]
    have e1 : b2n true = 1 := rfl
    have e0 : b2n false = 0 := rfl
    rw [e1] at l
    rw [e0]
    show kvs.length + 1 + _ ≤ 3
    omega
theorem OnceAt.put2 (A : OnceAt H R o b4 true b3) : ∃ kvs : List (Key × V), H o = some (.dK kvs) ∧ kvs.length ≤ 3 ∧ valV kvs (.inr "first") = none ∧ OnceAt (upd H o (.dK (putK kvs (.inr "first") (.bl true)))) R o b4 false b3 := by
  obtain ⟨r, kvs, e, c4, c2, c3, l⟩ := A
  have hn : valV kvs (.inr "first") = none := by
    cases q : valV kvs (.inr "first") with
    | none => rfl
    | some _ => rw [q] at c2; cases c2
  refine ⟨kvs, e, by omega, hn, r, _, upd_same, ?_, ?_, ?_, ?_⟩
  · rw [valV_put, if_neg (by decide +kernel)]; exact c4
  · rw [valV_put, if_pos rfl]; rfl
  · rw [valV_put, if_neg (by decide +kernel)]; exact c3
  · rw [putK_new _ hn, List.length_append]
    have e1 : b2n true = 1 := rfl
    have e0 : b2n false = 0 := rfl
    rw [e1] at l
    rw [e0]
    show kvs.length + 1 + _ ≤ 3
    omega
theorem OnceAt.put3 (A : OnceAt H R o b4 b2 true) : ∃ kvs : List (Key × V), H o = some (.dK kvs) ∧ kvs.length ≤ 3 ∧ valV kvs (.inr "second") = none ∧ OnceAt (upd H o (.dK (putK kvs (.inr "second") (.bl true)))) R o b4 b2 false := by
  obtain ⟨r, kvs, e, c4, c2, c3, l⟩ := A
  have hn : valV kvs (.inr "second") = none := by
    cases q : valV kvs (.inr "second") with
    | none => rfl
    | some _ => rw [q] at c3; cases c3
  refine ⟨kvs, e, by omega, hn, r, _, upd_same, ?_, ?_, ?_, ?_⟩
  · rw [valV_put, if_neg (by decide +kernel)]; exact c4
  · rw [valV_put, if_neg (by decide +kernel)]; exact c2
  · rw [valV_put, if_pos rfl]; rfl
  · rw [putK_new _ hn, List.length_append]
    have e1 : b2n true = 1 := rfl
    have e0 : b2n false = 0 := rfl
    rw [e1] at l
    rw [e0]
    show kvs.length + 1 + _ ≤ 3
    omega
end
theorem may_once_ne {s : Md13.St} {j k : Nat} (h : (k == j) = false) : Md13.may (Md13.once s j) k = Md13.may s k := by
  rw [may_once, h]
  simp
theorem may_once_eq {s : Md13.St} {j : Nat} : Md13.may (Md13.once s j) j = false := by
  rw [may_once]
  simp
section
variable {P : Program} {w : World} {K : PySem.W.Frag} {mg : Str → Option Value} {base : Heap} {C : Cl}
/-! ### answer_offer -/
theorem ok_answer_offer (T : Txt K mg C) {f : Addr} {fd : FuncData} (F : Fun K "answer_offer" "answer_offer" s_answer_offer f fd) (m_M_offer : MK P w K mg base C.M "offer" 2 ["self", "number"] (spOffer C)) (f_is_backed : FK P w K mg base "is_backed" 3 ["member", "offer"] (spBacked C))
    (m_M_vote_first : MK P w K mg base C.M "vote_first" 3 ["self", "value"] (spVote1 C)) :
    FnOk P w K mg base CX0 4 f fd ["member"] (spRule C r3) := by
  refine F.ok sc_answer_offer (fun vs H Q E h => ?_) (fun cdv A outer s0 H vs Q E hr h => ?_)
  · obtain ⟨a, R, s, acts, rfl, _⟩ := h
    rfl
  · obtain ⟨a, R, s, acts, rfl, M, ok, ⟨z1, z2, z3⟩, goN, goS⟩ := h
    refine ⟨_, (pss_cons (ps_if (pt_cmpR op_ne (pe_fld (pv 0) rfl) (pgi (by rfl) T.gOFFERING) (nomark _))
  (pss_one (ps_ret pe_bl))
  pss_nil)
  (pss_cons (ps_set (i := 1) sc_answer_offer.nd rfl (Or.inl rfl) (pmeth m_M_offer (hr.mono (by decide)) T.clM (pv 0) (pa_cons (pe_fld (pv 0) rfl) pa_nil)))
  (pss_cons (ps_if (PW.pt (pw_or (pt_cmpR op_isN (pv 1) pe_non (nomark _)) (pw_or1 (pt_not (pt_val (pcall f_is_backed (hr.mono (by decide)) (by rfl) (pa_cons (pv 0) (pa_cons (pv 1) pa_nil))))))))
  (pss_one (ps_ret pe_bl))
  pss_nil)
  (pss_cons (ps_asg (pv 1) (pg_tup (by rfl) (pgs_cons (pg_name (i := 2) sc_answer_offer.nd rfl (Or.inl rfl)) (pgs_cons (pg_name (i := 3) sc_answer_offer.nd rfl (Or.inl rfl)) pgs_nil))))
  (pss_cons (ps_asg (pe_fld (pv 0) rfl) (pg_tup (by rfl) (pgs_cons (pg_name (i := 4) sc_answer_offer.nd rfl (Or.inl rfl)) (pgs_cons (pg_name (i := 5) sc_answer_offer.nd rfl (Or.inl rfl)) pgs_nil))))
  (pss_cons (ps_if (PW.pt (pw_and (pt_cmpR op_ne (pv 2) (pgi (by rfl) T.gNONE) (nomark _)) (pw_and1 (PW.pt (pw_or (pt_cmpR op_eq (pv 4) (pgi (by rfl) T.gNONE) (nomark _)) (pw_or (pt_cmpR op_eq (pv 4) (pv 2) (nomark _)) (pw_or1 (pt_cmpR op_ge (pv 3) (pv 5) (nomark _)))))))))
  (pss_one (ps_expr (pmeth m_M_vote_first (hr.mono (by decide)) T.clM (pv 0) (pa_cons (pv 2) pa_nil))))
  (pss_one (ps_expr (pmeth m_M_vote_first (hr.mono (by decide)) T.clM (pv 0) (pa_cons (pgi (by rfl) T.gNONE) pa_nil)))))
  (pss_one (ps_ret pe_bl)))))))), ?_⟩
    have hn : 0 < s.n := by have := ok.n4; omega
    obtain ⟨dx, d, l, t1, t2, hd, o, A⟩ := id M
    -- if member.part != OFFERING: return False
    refine ⟨_, rfl, a, C.M, dx, _, _, rfl, A.at_, T.clM, T.nM_part, lk_part, rfl, _, rfl, ?_⟩
    by_cases ca : s.at_ = .offering
    case neg =>
      refine isT (by rw [part_ne, decide_eq_false ca]; rfl) ?_
      refine goN ?_ _ (Same.refl _)
      unfold r3
      exact if_neg (fun z => ca z.1)
    refine isF (by rw [part_ne, decide_eq_true ca]; rfl) ?_
    -- offer = member.offer(member.round_now)
    refine ⟨_, rfl, a, dx, _, rfl, A.at_, mF_no (by decide +kernel), _, rfl, a, C.M, dx, _, _, rfl, A.at_, T.clM, T.nM_round_now, lk_round_now, ?_⟩
    refine ⟨a, R, s, acts, s.round, rfl, M, hn, fun H1 v s1 ho => ?_⟩
    have M1 := M.same s1
    cases hof : Md13.offerOf s s.round with
    | none =>
      rw [hof] at ho
      have ev : v = .non := ho
      subst ev
      refine ⟨_, rfl, rfl, _, rfl, isT rfl (isT rfl ?_)⟩
      refine goN ?_ _ s1
      unfold r3
      rw [(ofv_none hof).1]
      exact if_neg (fun z => Bool.false_ne_true z.2)
    | some m =>
      rw [hof] at ho
      obtain ⟨t, rfl, rt, et⟩ := ho
      obtain ⟨eo, ev⟩ := ofv_some hof
      refine ⟨_, rfl, rfl, _, rfl, isF rfl ?_⟩
      -- not is_backed(member, offer)
      refine ⟨_, rfl, _, rfl, ?_⟩
      refine ⟨a, t, R, s, acts, m, rfl, M1, et, fun H2 s2 => ⟨_, rfl, ?_⟩⟩
      have s12 := s1.trans s2
      have M2 := M1.same s2
      have et2 := s2 _ _ et
      cases hb : backed s (some m) m.value with
      | false =>
        refine isT rfl ?_
        refine goN ?_ _ s12
        unfold r3
        rw [eo, ev]
        exact if_neg (fun z => by rw [hb] at z; exact Bool.false_ne_true z.2)
      | true =>
        refine isF rfl ?_
        have hr3 : r3 s = some (Md13.first s (if m.value ≠ 0 ∧ free s (some m) m.value = true then m.value else 0)) := by
          unfold r3
          rw [eo, ev]
          exact if_pos ⟨ca, hb⟩
        clear A
        obtain ⟨dx, d, l, t1, t2, hd, o, A⟩ := id M2
        -- value, known = offer; locked, since = member.lock
        refine ⟨_, rfl, t, _, rfl, SqT.of et2, rfl, _, _, rfl, _, _, rfl, rfl, ?_⟩
        have vote : ∀ (x : Nat), (if m.value ≠ 0 ∧ free s (some m) m.value = true then m.value else 0) = x → ∀ H' R', MemAt C H' R' a (Md13.first s x).1 (acts ++ (Md13.first s x).2) → Kx R H2 R' H' → Q (.bl true) H' := fun x hx H' R' M' K' => by
          refine goS _ _ (by rw [hr3, hx]) H' R' M' ((Kp.same s12).trans K')
        by_cases c0 : m.value = 0
        · have hx : (if m.value ≠ 0 ∧ free s (some m) m.value = true then m.value else 0) = 0 := if_neg (fun z => z.1 c0)
          have e0 : (!decide (V.int (m.value : Int) = V.int 0)) = false := by rw [c0]; rfl
          obtain ⟨lv, ls, el⟩ : ∃ lv ls, lockV s.locked = [V.int lv, V.int ls] := by cases s.locked <;> exact ⟨_, _, rfl⟩
          have elk := A.lk.2
          rw [el] at elk
          refine ⟨_, rfl, a, C.M, dx, _, _, rfl, A.at_, T.clM, T.nM_lock, lk_lock, t1, _, rfl, SqT.of elk, rfl, _, _, rfl, _, _, rfl, rfl, ?_⟩
          refine ⟨_, rfl, rfl, _, rfl, isF e0 (isF rfl ?_)⟩
          refine ⟨_, rfl, a, dx, _, rfl, A.at_, mF_no (by decide +kernel), ?_⟩
          exact ⟨a, R, s, acts, 0, rfl, M2, ⟨ok.me, ok.n32, ok.rd⟩, by omega, by omega, vote 0 hx⟩
        · have e0 : (!decide (V.int (m.value : Int) = V.int 0)) = true := by rw [decide_eq_false (fun z => by injection z with z; omega)]; rfl
          have yes : free s (some m) m.value = true → (if m.value ≠ 0 ∧ free s (some m) m.value = true then m.value else 0) = m.value := fun q => if_pos ⟨c0, q⟩
          cases hlk : s.locked with
          | none =>
            have hf : free s (some m) m.value = true := by unfold free; rw [hlk]
            have elk : H2 t1 = some (.tup [.int 0, .int (-1)]) := by have := A.lk.2; rw [hlk] at this; exact this
            refine ⟨_, rfl, a, C.M, dx, _, _, rfl, A.at_, T.clM, T.nM_lock, lk_lock, t1, _, rfl, SqT.of elk, rfl, _, _, rfl, _, _, rfl, rfl, ?_⟩
            refine ⟨_, rfl, rfl, _, rfl, isT e0 ?_⟩
            refine ⟨_, rfl, rfl, _, rfl, isT rfl (isT rfl ?_)⟩
            refine ⟨_, rfl, a, dx, _, rfl, A.at_, mF_no (by decide +kernel), _, rfl, ?_⟩
            exact ⟨a, R, s, acts, m.value, rfl, M2, ⟨ok.me, ok.n32, ok.rd⟩, by omega, by omega, vote _ (yes hf)⟩
          | some lk =>
            have elk : H2 t1 = some (.tup [.int (lk.1 : Int), .int (lk.2 : Int)]) := by have := A.lk.2; rw [hlk] at this; exact this
            have hl0 := ok.lk lk hlk
            refine ⟨_, rfl, a, C.M, dx, _, _, rfl, A.at_, T.clM, T.nM_lock, lk_lock, t1, _, rfl, SqT.of elk, rfl, _, _, rfl, _, _, rfl, rfl, ?_⟩
            refine ⟨_, rfl, rfl, _, rfl, isT e0 ?_⟩
            have e1 : decide (V.int (lk.1 : Int) = V.int 0) = false := decide_eq_false (fun z => by injection z with z; omega)
            refine ⟨_, rfl, rfl, _, rfl, isF e1 ?_⟩
            by_cases c1 : lk.1 = m.value
            · have hf : free s (some m) m.value = true := by unfold free; rw [hlk]; simp [c1]
              refine ⟨_, rfl, _, rfl, rfl, _, rfl, isT (by rw [dec_nat]; exact decide_eq_true c1) (isT rfl ?_)⟩
              refine ⟨_, rfl, a, dx, _, rfl, A.at_, mF_no (by decide +kernel), _, rfl, ?_⟩
              exact ⟨a, R, s, acts, m.value, rfl, M2, ⟨ok.me, ok.n32, ok.rd⟩, by omega, by omega, vote _ (yes hf)⟩
            · refine ⟨_, rfl, _, rfl, rfl, _, rfl, isF (by rw [dec_nat]; exact decide_eq_false c1) ?_⟩
              refine ⟨_, rfl, _, rfl, _, _, rfl, rfl, _, rfl, ?_⟩
              have hfree : free s (some m) m.value = decide ((lk.2 : Int) ≤ fr m.from_) := by
                unfold free
                rw [hlk]
                show (lk.1 == m.value || (match m.from_ with
                  | some q => decide (lk.2 ≤ q)
                  | none => false)) = _
                rw [beq_eq_false_iff_ne.mpr c1, Bool.false_or]
                cases hq : m.from_ with
                | none => exact (decide_eq_false (show ¬ (lk.2 : Int) ≤ -1 by omega)).symm
                | some q => exact decide_eq_decide.mpr (show lk.2 ≤ q ↔ (lk.2 : Int) ≤ (q : Int) by omega)
              cases hc : decide ((lk.2 : Int) ≤ fr m.from_) with
              | true =>
                refine isT rfl ?_
                refine ⟨_, rfl, a, dx, _, rfl, A.at_, mF_no (by decide +kernel), _, rfl, ?_⟩
                exact ⟨a, R, s, acts, m.value, rfl, M2, ⟨ok.me, ok.n32, ok.rd⟩, by omega, by omega, vote _ (yes (hfree.trans hc))⟩
              | false =>
                refine isF rfl ?_
                have hx : (if m.value ≠ 0 ∧ free s (some m) m.value = true then m.value else 0) = 0 := if_neg (fun z => by rw [hfree, hc] at z; exact Bool.false_ne_true z.2)
                refine ⟨_, rfl, a, dx, _, rfl, A.at_, mF_no (by decide +kernel), ?_⟩
                exact ⟨a, R, s, acts, 0, rfl, M2, ⟨ok.me, ok.n32, ok.rd⟩, by omega, by omega, vote 0 hx⟩
/-! ### lock_on_offer -/
theorem ok_lock_on_offer (T : Txt K mg C) {f : Addr} {fd : FuncData} (F : Fun K "lock_on_offer" "lock_on_offer" s_lock_on_offer f fd) (m_M_offer : MK P w K mg base C.M "offer" 2 ["self", "number"] (spOffer C)) (m_M_has_enough : MK P w K mg base C.M "has_enough" 2 ["self", "kind", "number", "value"] (spEnough C))
    (m_M_vote_second : MK P w K mg base C.M "vote_second" 3 ["self", "value"] (spVote2 C)) :
    FnOk P w K mg base CX0 4 f fd ["member"] (spRule C r4) := by
  refine F.ok sc_lock_on_offer (fun vs H Q E h => ?_) (fun cdv A outer s0 H vs Q E hr h => ?_)
  · obtain ⟨a, R, s, acts, rfl, _⟩ := h
    rfl
  · have hu := hu_of hr
    obtain ⟨a, R, s, acts, rfl, M, ok, ⟨z1, z2, z3⟩, goN, goS⟩ := h
    refine ⟨_, (pss_cons (ps_if (PW.pt (pw_or (pt_cmpR op_eq (pe_fld (pv 0) rfl) (pgi (by rfl) T.gOFFERING) (nomark _)) (pw_or1 (pt_cmp (pc_din hu pe_str (pe_fld (pv 0) rfl))))))
  (pss_one (ps_ret pe_bl))
  pss_nil)
  (pss_cons (ps_set (i := 1) sc_lock_on_offer.nd rfl (Or.inl rfl) (pmeth m_M_offer (hr.mono (by decide)) T.clM (pv 0) (pa_cons (pe_fld (pv 0) rfl) pa_nil)))
  (pss_cons (ps_if (PW.pt (pw_or (pt_cmpR op_isN (pv 1) pe_non (nomark _)) (pw_or (pt_cmpR op_eq (pe_ix ix_tup (pv 1) pe_int (fun _ _ => rfl)) (pgi (by rfl) T.gNONE) (nomark _)) (pw_or1 (pt_not (pt_val (pmeth m_M_has_enough (hr.mono (by decide)) T.clM (pv 0) (pa_cons (pgi (by rfl) T.gFIRST) (pa_cons (pe_fld (pv 0) rfl) (pa_cons (pe_ix ix_tup (pv 1) pe_int (fun _ _ => rfl)) pa_nil))))))))))
  (pss_one (ps_ret pe_bl))
  pss_nil)
  (pss_cons (ps_dput hu (pe_fld (pv 0) rfl) pe_str pe_bl rfl)
  (pss_cons (ps_fld (pv 0) (pe_tup (pa_cons (pe_ix ix_tup (pv 1) pe_int (fun _ _ => rfl)) (pa_cons (pe_fld (pv 0) rfl) pa_nil))) rfl)
  (pss_cons (ps_if (pt_cmpR op_eq (pe_fld (pv 0) rfl) (pgi (by rfl) T.gVOTED_FIRST) (nomark _))
  (pss_cons (ps_fld (pv 0) (pe_tup (pa_cons (pe_ix ix_tup (pv 1) pe_int (fun _ _ => rfl)) (pa_cons (pe_fld (pv 0) rfl) pa_nil))) rfl)
  (pss_one (ps_expr (pmeth m_M_vote_second (hr.mono (by decide)) T.clM (pv 0) (pa_cons (pe_ix ix_tup (pv 1) pe_int (fun _ _ => rfl)) pa_nil)))))
  pss_nil)
  (pss_one (ps_ret pe_bl)))))))), ?_⟩
    have hn : 0 < s.n := by have := ok.n4; omega
    obtain ⟨dx, d, l, t1, t2, hd, o, A⟩ := id M
    -- if member.part == OFFERING or "lock" in member.once: return False
    refine ⟨_, rfl, a, C.M, dx, _, _, rfl, A.at_, T.clM, T.nM_part, lk_part, rfl, _, rfl, ?_⟩
    by_cases ca : s.at_ = .offering
    · refine isT (by rw [part_eq, decide_eq_true ca]) (isT rfl ?_)
      refine goN ?_ _ (Same.refl _)
      unfold r4
      exact if_neg (fun z => z.1 ca)
    refine isF (by rw [part_eq, decide_eq_false ca]) ?_
    obtain ⟨ro, okv, eo, c4, c2, c3, lo⟩ := id A.on
    refine ⟨_, rfl, a, C.M, dx, _, _, rfl, A.at_, T.clM, T.nM_once, lk_once, o, _, rfl, DGet.k (k := .inr "lock") eo, _, rfl, ?_⟩
    cases hm4 : Md13.may s 4 with
    | false =>
      refine isT (by rw [c4, hm4]; rfl) ?_
      refine goN ?_ _ (Same.refl _)
      unfold r4
      exact if_neg (fun z => by rw [hm4] at z; exact Bool.false_ne_true z.2.1)
    | true =>
    refine isF (by rw [c4, hm4]; rfl) ?_
    -- offer = member.offer(member.round_now)
    refine ⟨_, rfl, a, dx, _, rfl, A.at_, mF_no (by decide +kernel), _, rfl, a, C.M, dx, _, _, rfl, A.at_, T.clM, T.nM_round_now, lk_round_now, ?_⟩
    refine ⟨a, R, s, acts, s.round, rfl, M, hn, fun H1 v s1 ho => ?_⟩
    have M1 := M.same s1
    clear A eo lo
    cases hof : Md13.offerOf s s.round with
    | none =>
      rw [hof] at ho
      have ev : v = .non := ho
      subst ev
      refine ⟨_, rfl, rfl, _, rfl, isT rfl (isT rfl ?_)⟩
      refine goN ?_ _ s1
      unfold r4
      exact if_neg (fun z => z.2.2.1 (ofv_none hof).2)
    | some m =>
      rw [hof] at ho
      obtain ⟨t, rfl, rt, et⟩ := ho
      obtain ⟨eof, ev⟩ := ofv_some hof
      refine ⟨_, rfl, rfl, _, rfl, isF rfl ?_⟩
      refine ⟨_, rfl, t, _, 0, .int (m.value : Int), rfl, rfl, SqT.of et, atI_nat (j := 0) rfl, rfl, _, rfl, ?_⟩
      by_cases c0 : m.value = 0
      · refine isT (by rw [c0]; rfl) (isT rfl ?_)
        refine goN ?_ _ s1
        unfold r4
        exact if_neg (fun z => z.2.2.1 (ev.trans c0))
      refine isF (decide_eq_false (fun z => by injection z with z; omega)) ?_
      obtain ⟨dx, d, l, t1, t2, hd, o, A⟩ := id M1
      refine ⟨_, rfl, a, dx, _, rfl, A.at_, mF_no (by decide +kernel), _, rfl, a, C.M, dx, _, _, rfl, A.at_, T.clM, T.nM_round_now, lk_round_now, _, rfl, t, _, 0, .int (m.value : Int), rfl, rfl, SqT.of et, atI_nat (j := 0) rfl, ?_⟩
      refine ⟨a, R, s, acts, .first, s.round, m.value, rfl, M1, fun H2 s2 => ⟨_, rfl, ?_⟩⟩
      have s12 := s1.trans s2
      have M2 := M1.same s2
      have et2 := s2 _ _ et
      clear A
      cases hmost : Md13.most s .first s.round (fun y => y == m.value) with
      | false =>
        refine isT rfl ?_
        refine goN ?_ _ s12
        unfold r4
        rw [ev]
        exact if_neg (fun z => by rw [hmost] at z; exact Bool.false_ne_true z.2.2.2)
      | true =>
        refine isF rfl ?_
        have hr4 : r4 s = (if s.at_ = .first then some (Md13.second { ({ Md13.once s 4 with good := some (m.value, s.round) } : Md13.St) with locked := some (m.value, s.round) } m.value) else some (({ Md13.once s 4 with good := some (m.value, s.round) } : Md13.St), [])) := by
          unfold r4
          rw [ev]
          exact if_pos ⟨ca, hm4, c0, hmost⟩
        have K02 : Kx R H R H2 := Kp.same s12
        obtain ⟨dx, d, l, t1, t2, hd, o, A⟩ := M2
        -- member.once["lock"] = True
        have on2 := A.on
        rw [hm4] at on2
        obtain ⟨kvs, eo, lo, hno, on3⟩ := on2.put4
        refine ⟨_, rfl, a, C.M, dx, _, _, rfl, A.at_, T.clM, T.nM_once, lk_once, o, _, rfl, DPut.k (k := .inr "lock") eo (big (by omega)), ?_⟩
        have K3 : Kp [3] R H2 R (upd H2 o (.dK (putK kvs (.inr "lock") (.bl true)))) := Kp.upd on2.1 (by decide)
        have d3 : Dom R (upd H2 o (.dK (putK kvs (.inr "lock") (.bl true)))) := A.dom.upd
        generalize upd H2 o (.dK (putK kvs (.inr "lock") (.bl true))) = H3 at on3 K3 d3 ⊢
        have a3 := K3.role A.at_ A.ro (by decide)
        have et3 := (K3.bare et2 rt).1
        -- member.good = (offer[0], member.round_now)
        refine ⟨_, rfl, t, _, 0, .int (m.value : Int), rfl, rfl, SqT.of et3, atI_nat (j := 0) rfl, _, rfl, a, C.M, dx, _, _, rfl, a3.1, T.clM, T.nM_round_now, lk_round_now, (by show 2 ≤ sizeLine; decide), fun g hg => ?_⟩
        have s4 : Same H3 (upd H3 g (.tup [.int (m.value : Int), .int (s.round : Int)])) := same_new hg
        refine ⟨_, rfl, a, C.M, dx, _, rfl, s4 _ _ a3.1, T.clM, T.nM_good, (by rw [mF_len]; decide), ?_⟩
        rw [put_good]
        have K4 : Kp [0] R H3 R (upd (upd H3 g (.tup [.int (m.value : Int), .int (s.round : Int)])) a (.ins C.M dx (mF s d l t1 g hd o))) := (Kp.same s4).trans (Kp.upd a3.2 (by decide))
        have M4 : MemAt C (upd (upd H3 g (.tup [.int (m.value : Int), .int (s.round : Int)])) a (.ins C.M dx (mF s d l t1 g hd o))) R a { Md13.once s 4 with good := some (m.value, s.round) } acts := by
          have K24 : Kp [0, 3] R H2 R _ := (K3.mono (by decide)).trans (K4.mono (by decide))
          have gd : PairAt (upd H3 g (.tup [.int (m.value : Int), .int (s.round : Int)])) R g (some (m.value, s.round)) := ⟨d3 g hg, upd_same⟩
          refine ⟨dx, d, l, t1, g, hd, o, upd_same, a3.2, A.dec.kp K24 (by decide), A.th.kp K24 (by decide), A.lk.kp K24, gd.kp (Kp.upd (S := [0]) a3.2 (by decide)), A.hrd.kp K24 (by decide) (by decide) (by decide) (by decide), ?_, (d3.same s4).upd⟩
          have e4 : Md13.may ({ Md13.once s 4 with good := some (m.value, s.round) } : Md13.St) 4 = false := may_once_eq
          have e2 : Md13.may ({ Md13.once s 4 with good := some (m.value, s.round) } : Md13.St) 2 = Md13.may s 2 := may_once_ne rfl
          have e3 : Md13.may ({ Md13.once s 4 with good := some (m.value, s.round) } : Md13.St) 3 = Md13.may s 3 := may_once_ne rfl
          rw [e4, e2, e3]
          exact on3.kp K4 (by decide)
        have K04 : Kx R H R _ := (K02.trans (K3.mono (by decide))).trans (K4.mono (by decide))
        have et4 := (K4.bare et3 rt).1
        generalize (upd (upd H3 g (.tup [.int (m.value : Int), .int (s.round : Int)])) a (.ins C.M dx (mF s d l t1 g hd o))) = H4 at K4 M4 K04 et4 ⊢
        clear A K3 d3 a3 on3
        obtain ⟨dx, d, l, t1, t2, hd, o, A⟩ := id M4
        -- if member.part == VOTED_FIRST
        refine ⟨_, rfl, a, C.M, dx, _, _, rfl, A.at_, T.clM, T.nM_part, lk_part, rfl, _, rfl, ?_⟩
        have ep : (parts ({ Md13.once s 4 with good := some (m.value, s.round) } : Md13.St).at_) = parts s.at_ := rfl
        by_cases cf : s.at_ = .first
        · refine isT (by rw [ep, part_eq2, decide_eq_true cf]) ?_
          rw [if_pos cf] at hr4
          -- member.lock = (offer[0], member.round_now)
          refine ⟨_, rfl, t, _, 0, .int (m.value : Int), rfl, rfl, SqT.of et4, atI_nat (j := 0) rfl, _, rfl, a, C.M, dx, _, _, rfl, A.at_, T.clM, T.nM_round_now, lk_round_now, (by show 2 ≤ sizeLine; decide), fun g2 hg2 => ?_⟩
          have s5 : Same H4 (upd H4 g2 (.tup [.int (m.value : Int), .int (s.round : Int)])) := same_new hg2
          refine ⟨_, rfl, a, C.M, dx, _, rfl, s5 _ _ A.at_, T.clM, T.nM_lock, (by rw [mF_len]; decide), ?_⟩
          rw [put_lock]
          have K5 : Kp [0] R H4 R (upd (upd H4 g2 (.tup [.int (m.value : Int), .int (s.round : Int)])) a (.ins C.M dx (mF { Md13.once s 4 with good := some (m.value, s.round) } d l g2 t2 hd o))) := (Kp.same s5).trans (Kp.upd A.ro (by decide))
          have M5 : MemAt C (upd (upd H4 g2 (.tup [.int (m.value : Int), .int (s.round : Int)])) a (.ins C.M dx (mF { Md13.once s 4 with good := some (m.value, s.round) } d l g2 t2 hd o))) R a { ({ Md13.once s 4 with good := some (m.value, s.round) } : Md13.St) with locked := some (m.value, s.round) } acts := by
            have lk : PairAt (upd H4 g2 (.tup [.int (m.value : Int), .int (s.round : Int)])) R g2 (some (m.value, s.round)) := ⟨A.dom g2 hg2, upd_same⟩
            exact ⟨dx, d, l, g2, t2, hd, o, upd_same, A.ro, A.dec.kp K5 (by decide), A.th.kp K5 (by decide), lk.kp (Kp.upd (S := [0]) A.ro (by decide)), A.gd.kp K5, A.hrd.kp K5 (by decide) (by decide) (by decide) (by decide), A.on.kp K5 (by decide), (A.dom.same s5).upd⟩
          have et5 := (K5.bare et4 rt).1
          have a5 : (upd (upd H4 g2 (.tup [.int (m.value : Int), .int (s.round : Int)])) a (.ins C.M dx (mF { Md13.once s 4 with good := some (m.value, s.round) } d l g2 t2 hd o))) a = some (.ins C.M dx (mF { Md13.once s 4 with good := some (m.value, s.round) } d l g2 t2 hd o)) := upd_same
          -- member.vote_second(offer[0]); return True
          refine ⟨_, rfl, a, dx, _, rfl, a5, mF_no (by decide +kernel), _, rfl, t, _, 0, .int (m.value : Int), rfl, rfl, SqT.of et5, atI_nat (j := 0) rfl, ?_⟩
          refine ⟨a, R, _, acts, m.value, rfl, M5, ⟨ok.me, ok.n32, ok.rd⟩, (by show s.heard.length < 1000000; omega), by omega, fun H' R' M' K' => ?_⟩
          exact goS _ _ hr4 H' R' M' ((K04.trans (K5.mono (by decide))).trans K')
        · refine isF (by rw [ep, part_eq2, decide_eq_false cf]) ?_
          rw [if_neg cf] at hr4
          refine goS _ _ hr4 H4 R ?_ K04
          rw [List.append_nil]
          exact M4
end
end Ag
namespace Ag
open PySem PySem.Spec PyProof.Rows L2
open Md13 (Msg Heard)
theorem most_cnt (s : Md13.St) (k : Md13.Kind) (r : Nat) (f : Nat → Bool) : Md13.most s k r f = decide (Md13.enough s.n ≤ cnt s.heard s.n k r f) := rfl
theorem most_lt (s : Md13.St) (k : Md13.Kind) (r : Nat) (f : Nat → Bool) : decide (((cnt s.heard s.n k r f : Nat) : Int) < ((Md13.enough s.n : Nat) : Int)) = !Md13.most s k r f := by
  rw [most_cnt]
  by_cases c : Md13.enough s.n ≤ cnt s.heard s.n k r f
  · rw [decide_eq_true c, decide_eq_false (by omega)]; rfl
  · rw [decide_eq_false c, decide_eq_true (by omega)]; rfl
section
variable {P : Program} {w : World} {K : PySem.W.Frag} {mg : Str → Option Value} {base : Heap} {C : Cl}
/-! ### give_up -/
theorem ok_give_up (T : Txt K mg C) {f : Addr} {fd : FuncData} (F : Fun K "give_up" "give_up" s_give_up f fd) (m_M_has_enough : MK P w K mg base C.M "has_enough" 2 ["self", "kind", "number", "value"] (spEnough C))
    (m_M_vote_second : MK P w K mg base C.M "vote_second" 3 ["self", "value"] (spVote2 C)) :
    FnOk P w K mg base CX0 4 f fd ["member"] (spRule C r5) := by
  refine F.ok sc_give_up (fun vs H Q E h => ?_) (fun cdv A outer s0 H vs Q E hr h => ?_)
  · obtain ⟨a, R, s, acts, rfl, _⟩ := h
    rfl
  · obtain ⟨a, R, s, acts, rfl, M, ok, ⟨z1, z2, z3⟩, goN, goS⟩ := h
    refine ⟨_, (pss_cons (ps_if (PW.pt (pw_or (pt_cmpR op_ne (pe_fld (pv 0) rfl) (pgi (by rfl) T.gVOTED_FIRST) (nomark _)) (pw_or1 (pt_not (pt_val (pmeth m_M_has_enough (hr.mono (by decide)) T.clM (pv 0) (pa_cons (pgi (by rfl) T.gFIRST) (pa_cons (pe_fld (pv 0) rfl) (pa_cons (pgi (by rfl) T.gNONE) pa_nil)))))))))
  (pss_one (ps_ret pe_bl))
  pss_nil)
  (pss_cons (ps_expr (pmeth m_M_vote_second (hr.mono (by decide)) T.clM (pv 0) (pa_cons (pgi (by rfl) T.gNONE) pa_nil)))
  (pss_one (ps_ret pe_bl)))), ?_⟩
    obtain ⟨dx, d, l, t1, t2, hd, o, A⟩ := id M
    refine ⟨_, rfl, a, C.M, dx, _, _, rfl, A.at_, T.clM, T.nM_part, lk_part, rfl, _, rfl, ?_⟩
    by_cases ca : s.at_ = .first
    case neg =>
      refine isT (by rw [part_ne2, decide_eq_false ca]; rfl) (isT rfl ?_)
      refine goN ?_ _ (Same.refl _)
      unfold r5
      exact if_neg (fun z => ca z.1)
    refine isF (by rw [part_ne2, decide_eq_true ca]; rfl) ?_
    refine ⟨_, rfl, a, dx, _, rfl, A.at_, mF_no (by decide +kernel), _, rfl, a, C.M, dx, _, _, rfl, A.at_, T.clM, T.nM_round_now, lk_round_now, ?_⟩
    refine ⟨a, R, s, acts, .first, s.round, 0, rfl, M, fun H1 s1 => ⟨_, rfl, ?_⟩⟩
    cases hm : Md13.most s .first s.round (fun y => y == 0) with
    | false =>
      refine isT rfl ?_
      refine goN ?_ _ s1
      unfold r5
      exact if_neg (fun z => by rw [hm] at z; exact Bool.false_ne_true z.2)
    | true =>
      refine isF rfl ?_
      have M1 := M.same s1
      clear A
      obtain ⟨dx, d, l, t1, t2, hd, o, A⟩ := id M1
      refine ⟨_, rfl, a, dx, _, rfl, A.at_, mF_no (by decide +kernel), ?_⟩
      refine ⟨a, R, s, acts, 0, rfl, M1, ⟨ok.me, ok.n32, ok.rd⟩, by omega, by omega, fun H2 R2 M2 K2 => ?_⟩
      refine goS _ _ ?_ H2 R2 M2 ((Kp.same s1).trans K2)
      unfold r5
      exact if_pos ⟨ca, hm⟩
/-! ### wait_for_first -/
theorem ok_wait_for_first (T : Txt K mg C) {f : Addr} {fd : FuncData} (F : Fun K "wait_for_first" "wait_for_first" s_wait_for_first f fd) (m_H_voters : MK P w K mg base C.H "voters" 1 ["self", "kind", "number"] (spVoters C)) (m_M_wait : MK P w K mg base C.M "wait" 1 ["self", "part"] (spWait C)) :
    FnOk P w K mg base CX0 4 f fd ["member"] (spRule C r6) := by
  refine F.ok sc_wait_for_first (fun vs H Q E h => ?_) (fun cdv A outer s0 H vs Q E hr h => ?_)
  · obtain ⟨a, R, s, acts, rfl, _⟩ := h
    rfl
  · have hu := hu_of hr
    obtain ⟨a, R, s, acts, rfl, M, ok, ⟨z1, z2, z3⟩, goN, goS⟩ := h
    refine ⟨_, (pss_cons (ps_if (PW.pt (pw_or (pt_cmpR op_ne (pe_fld (pv 0) rfl) (pgi (by rfl) T.gVOTED_FIRST) (nomark _)) (pw_or1 (pt_cmp (pc_din hu pe_str (pe_fld (pv 0) rfl))))))
  (pss_one (ps_ret pe_bl))
  pss_nil)
  (pss_cons (ps_if (pt_cmpR op_lt (pmeth m_H_voters (hr.mono (by decide)) T.clH (pe_fld (pv 0) rfl) (pa_cons (pgi (by rfl) T.gFIRST) (pa_cons (pe_fld (pv 0) rfl) pa_nil))) (pe_fld (pv 0) rfl) (nomark _))
  (pss_one (ps_ret pe_bl))
  pss_nil)
  (pss_cons (ps_dput hu (pe_fld (pv 0) rfl) pe_str pe_bl rfl)
  (pss_cons (ps_expr (pmeth m_M_wait (hr.mono (by decide)) T.clM (pv 0) (pa_cons (pgi (by rfl) T.gVOTED_FIRST) pa_nil)))
  (pss_one (ps_ret pe_bl)))))), ?_⟩
    obtain ⟨dx, d, l, t1, t2, hd, o, A⟩ := id M
    refine ⟨_, rfl, a, C.M, dx, _, _, rfl, A.at_, T.clM, T.nM_part, lk_part, rfl, _, rfl, ?_⟩
    by_cases ca : s.at_ = .first
    case neg =>
      refine isT (by rw [part_ne2, decide_eq_false ca]; rfl) (isT rfl ?_)
      refine goN ?_ _ (Same.refl _)
      unfold r6
      exact if_neg (fun z => ca z.1)
    refine isF (by rw [part_ne2, decide_eq_true ca]; rfl) ?_
    obtain ⟨ro, okv, eo, c4, c2, c3, lo⟩ := id A.on
    refine ⟨_, rfl, a, C.M, dx, _, _, rfl, A.at_, T.clM, T.nM_once, lk_once, o, _, rfl, DGet.k (k := .inr "first") eo, _, rfl, ?_⟩
    cases hm2 : Md13.may s 2 with
    | false =>
      refine isT (by rw [c2, hm2]; rfl) ?_
      refine goN ?_ _ (Same.refl _)
      unfold r6
      exact if_neg (fun z => by rw [hm2] at z; exact Bool.false_ne_true z.2.1)
    | true =>
    refine isF (by rw [c2, hm2]; rfl) ?_
    obtain ⟨dxh, sd, tl, sp, hh, rest⟩ := id A.hrd
    refine ⟨_, rfl, a, C.M, dx, _, _, rfl, A.at_, T.clM, T.nM_heard, lk_heard, hd, dxh, _, rfl, hh, hF_no (by decide +kernel), _, rfl, a, C.M, dx, _, _, rfl, A.at_, T.clM, T.nM_round_now, lk_round_now, ?_⟩
    refine ⟨hd, R, s.heard, s.n, s.round, .first, rfl, A.hrd, fun H1 s1 => ?_⟩
    have M1 := M.same s1
    clear A hh rest eo lo
    obtain ⟨dx, d, l, t1, t2, hd, o, A⟩ := id M1
    refine ⟨_, rfl, a, C.M, dx, _, _, rfl, A.at_, T.clM, T.nM_enough, lk_enough, _, _, rfl, rfl, _, rfl, ?_⟩
    cases hm : Md13.most s .first s.round (fun _ => true) with
    | false =>
      refine isT (by rw [most_lt, hm]; rfl) ?_
      refine goN ?_ _ s1
      unfold r6
      exact if_neg (fun z => by rw [hm] at z; exact Bool.false_ne_true z.2.2)
    | true =>
      refine isF (by rw [most_lt, hm]; rfl) ?_
      have hr6 : r6 s = some (Md13.once s 2, [.wait 2 s.height s.round]) := by
        unfold r6
        exact if_pos ⟨ca, hm2, hm⟩
      have on2 := A.on
      rw [hm2] at on2
      obtain ⟨kvs, eo, lo, hno, on3⟩ := on2.put2
      refine ⟨_, rfl, a, C.M, dx, _, _, rfl, A.at_, T.clM, T.nM_once, lk_once, o, _, rfl, DPut.k (k := .inr "first") eo (big (by omega)), ?_⟩
      have K3 : Kp [3] R H1 R (upd H1 o (.dK (putK kvs (.inr "first") (.bl true)))) := Kp.upd on2.1 (by decide)
      have a3 := K3.role A.at_ A.ro (by decide)
      have M3 : MemAt C (upd H1 o (.dK (putK kvs (.inr "first") (.bl true)))) R a (Md13.once s 2) acts := by
        refine ⟨dx, d, l, t1, t2, hd, o, a3.1, a3.2, A.dec.kp K3 (by decide), A.th.kp K3 (by decide), A.lk.kp K3, A.gd.kp K3, A.hrd.kp K3 (by decide) (by decide) (by decide) (by decide), ?_, A.dom.upd⟩
        have e4 : Md13.may (Md13.once s 2) 4 = Md13.may s 4 := may_once_ne rfl
        have e2 : Md13.may (Md13.once s 2) 2 = false := may_once_eq
        have e3 : Md13.may (Md13.once s 2) 3 = Md13.may s 3 := may_once_ne rfl
        rw [e4, e2, e3]
        exact on3
      refine ⟨_, rfl, a, dx, _, rfl, a3.1, mF_no (by decide +kernel), ?_⟩
      refine ⟨a, R, Md13.once s 2, acts, 2, rfl, M3, by omega, fun H2 R2 M2 K2 => ?_⟩
      exact goS _ _ hr6 H2 R2 M2 (((Kp.same s1).trans (K3.mono (by decide))).trans K2)
/-! ### wait_for_second -/
theorem ok_wait_for_second (T : Txt K mg C) {f : Addr} {fd : FuncData} (F : Fun K "wait_for_second" "wait_for_second" s_wait_for_second f fd) (m_H_voters : MK P w K mg base C.H "voters" 1 ["self", "kind", "number"] (spVoters C)) (m_M_wait : MK P w K mg base C.M "wait" 1 ["self", "part"] (spWait C)) :
    FnOk P w K mg base CX0 4 f fd ["member"] (spRule C r7) := by
  refine F.ok sc_wait_for_second (fun vs H Q E h => ?_) (fun cdv A outer s0 H vs Q E hr h => ?_)
  · obtain ⟨a, R, s, acts, rfl, _⟩ := h
    rfl
  · have hu := hu_of hr
    obtain ⟨a, R, s, acts, rfl, M, ok, ⟨z1, z2, z3⟩, goN, goS⟩ := h
    refine ⟨_, (pss_cons (ps_if (PW.pt (pw_or (pt_cmp (pc_din hu pe_str (pe_fld (pv 0) rfl))) (pw_or1 (pt_cmpR op_lt (pmeth m_H_voters (hr.mono (by decide)) T.clH (pe_fld (pv 0) rfl) (pa_cons (pgi (by rfl) T.gSECOND) (pa_cons (pe_fld (pv 0) rfl) pa_nil))) (pe_fld (pv 0) rfl) (nomark _)))))
  (pss_one (ps_ret pe_bl))
  pss_nil)
  (pss_cons (ps_dput hu (pe_fld (pv 0) rfl) pe_str pe_bl rfl)
  (pss_cons (ps_expr (pmeth m_M_wait (hr.mono (by decide)) T.clM (pv 0) (pa_cons (pgi (by rfl) T.gVOTED_SECOND) pa_nil)))
  (pss_one (ps_ret pe_bl))))), ?_⟩
    obtain ⟨dx, d, l, t1, t2, hd, o, A⟩ := id M
    obtain ⟨ro, okv, eo, c4, c2, c3, lo⟩ := id A.on
    refine ⟨_, rfl, a, C.M, dx, _, _, rfl, A.at_, T.clM, T.nM_once, lk_once, o, _, rfl, DGet.k (k := .inr "second") eo, _, rfl, ?_⟩
    cases hm3 : Md13.may s 3 with
    | false =>
      refine isT (by rw [c3, hm3]; rfl) (isT rfl ?_)
      refine goN ?_ _ (Same.refl _)
      unfold r7
      exact if_neg (fun z => by rw [hm3] at z; exact Bool.false_ne_true z.1)
    | true =>
    refine isF (by rw [c3, hm3]; rfl) ?_
    obtain ⟨dxh, sd, tl, sp, hh, rest⟩ := id A.hrd
    refine ⟨_, rfl, a, C.M, dx, _, _, rfl, A.at_, T.clM, T.nM_heard, lk_heard, hd, dxh, _, rfl, hh, hF_no (by decide +kernel), _, rfl, a, C.M, dx, _, _, rfl, A.at_, T.clM, T.nM_round_now, lk_round_now, ?_⟩
    refine ⟨hd, R, s.heard, s.n, s.round, .second, rfl, A.hrd, fun H1 s1 => ?_⟩
    have M1 := M.same s1
    clear A hh rest eo lo
    obtain ⟨dx, d, l, t1, t2, hd, o, A⟩ := id M1
    refine ⟨_, rfl, a, C.M, dx, _, _, rfl, A.at_, T.clM, T.nM_enough, lk_enough, _, _, rfl, rfl, _, rfl, ?_⟩
    cases hm : Md13.most s .second s.round (fun _ => true) with
    | false =>
      refine isT (by rw [most_lt, hm]; rfl) ?_
      refine goN ?_ _ s1
      unfold r7
      exact if_neg (fun z => by rw [hm] at z; exact Bool.false_ne_true z.2)
    | true =>
      refine isF (by rw [most_lt, hm]; rfl) ?_
      have hr7 : r7 s = some (Md13.once s 3, [.wait 3 s.height s.round]) := by
        unfold r7
        exact if_pos ⟨hm3, hm⟩
      have on2 := A.on
      rw [hm3] at on2
      obtain ⟨kvs, eo, lo, hno, on3⟩ := on2.put3
      refine ⟨_, rfl, a, C.M, dx, _, _, rfl, A.at_, T.clM, T.nM_once, lk_once, o, _, rfl, DPut.k (k := .inr "second") eo (big (by omega)), ?_⟩
      have K3 : Kp [3] R H1 R (upd H1 o (.dK (putK kvs (.inr "second") (.bl true)))) := Kp.upd on2.1 (by decide)
      have a3 := K3.role A.at_ A.ro (by decide)
      have M3 : MemAt C (upd H1 o (.dK (putK kvs (.inr "second") (.bl true)))) R a (Md13.once s 3) acts := by
        refine ⟨dx, d, l, t1, t2, hd, o, a3.1, a3.2, A.dec.kp K3 (by decide), A.th.kp K3 (by decide), A.lk.kp K3, A.gd.kp K3, A.hrd.kp K3 (by decide) (by decide) (by decide) (by decide), ?_, A.dom.upd⟩
        have e4 : Md13.may (Md13.once s 3) 4 = Md13.may s 4 := may_once_ne rfl
        have e2 : Md13.may (Md13.once s 3) 2 = Md13.may s 2 := may_once_ne rfl
        have e3 : Md13.may (Md13.once s 3) 3 = false := may_once_eq
        rw [e4, e2, e3]
        exact on3
      refine ⟨_, rfl, a, dx, _, rfl, a3.1, mF_no (by decide +kernel), ?_⟩
      refine ⟨a, R, Md13.once s 3, acts, 3, rfl, M3, by omega, fun H2 R2 M2 K2 => ?_⟩
      exact goS _ _ hr7 H2 R2 M2 (((Kp.same s1).trans (K3.mono (by decide))).trans K2)
/-! ### keep_rules -/
def spKeep (C : Cl) : Sp := fun vs H Q _ => ∃ (a : Addr) (R : Rf) (s : Md13.St) (acts : List Md13.Act), vs = [.ref a] ∧ MemAt C H R a s acts ∧ Ok s ∧ (s.heard.length < 800000 ∧ acts.length < 800000 ∧ s.decided.length < 800000) ∧
  ∀ H' R', MemAt C H' R' a (Md13.settle 64 s).1 (acts ++ (Md13.settle 64 s).2) → Kx R H R' H' → Q .non H'
theorem ok_keep_rules (T : Txt K mg C) {f : Addr} {fd : FuncData} (F : Fun K "keep_rules" "keep_rules" s_keep_rules f fd) (f_decide : FK P w K mg base "decide" 4 ["member"] (spRule C r1)) (f_catch_up : FK P w K mg base "catch_up" 4 ["member"] (spRule C r2))
    (f_answer_offer : FK P w K mg base "answer_offer" 4 ["member"] (spRule C r3)) (f_lock_on_offer : FK P w K mg base "lock_on_offer" 4 ["member"] (spRule C r4)) (f_give_up : FK P w K mg base "give_up" 4 ["member"] (spRule C r5))
    (f_wait_for_first : FK P w K mg base "wait_for_first" 4 ["member"] (spRule C r6)) (f_wait_for_second : FK P w K mg base "wait_for_second" 4 ["member"] (spRule C r7)) :
    FnOk P w K mg base CX0 5 f fd ["member"] (spKeep C) := by
  refine F.ok sc_keep_rules (fun vs H Q E h => ?_) (fun cdv A outer s0 H vs Q E hr h => ?_)
  · obtain ⟨a, R, s, acts, rfl, _⟩ := h
    rfl
  · obtain ⟨a, R, s, acts, rfl, M, ok, ⟨z1, z2, z3⟩, go⟩ := h
    refine ⟨_, (pss_cons (ps_set (i := 1) sc_keep_rules.nd rfl (Or.inl rfl) pe_bl)
  (pss_one (ps_while PassesOwn.never (pt_val (pv 1))
  (Evl.pss_cut (ps_set (i := 1) sc_keep_rules.nd rfl (Or.inl rfl) (pe_or (pcall f_decide (hr.mono (by decide)) (by rfl) (pa_cons (pv 0) pa_nil)) (pe_or (pcall f_catch_up (hr.mono (by decide)) (by rfl) (pa_cons (pv 0) pa_nil)) (pe_or (pcall f_answer_offer (hr.mono (by decide)) (by rfl) (pa_cons (pv 0) pa_nil)) (pe_one (pcall f_lock_on_offer (hr.mono (by decide)) (by rfl) (pa_cons (pv 0) pa_nil)))))))
  (pss_one (ps_set (i := 1) sc_keep_rules.nd rfl (Or.inl rfl) (pe_or (pv 1) (pe_or (pcall f_give_up (hr.mono (by decide)) (by rfl) (pa_cons (pv 0) pa_nil)) (pe_or (pcall f_wait_for_first (hr.mono (by decide)) (by rfl) (pa_cons (pv 0) pa_nil)) (pe_one (pcall f_wait_for_second (hr.mono (by decide)) (by rfl) (pa_cons (pv 0) pa_nil)))))))))))), ?_⟩
    refine ⟨fun m σ H' => ∃ R' t l b k, σ = [some (.ref a), some (.bl b)] ∧ MemAt C H' R' a t (acts ++ l) ∧ Ok t ∧ Kx R H R' H' ∧ Md13.settle 64 s = ((Md13.settle k t).1, l ++ (Md13.settle k t).2) ∧
        (t.heard.length + k ≤ s.heard.length + 64 ∧ l.length + 2 * k ≤ 128 ∧ t.decided.length + k ≤ s.decided.length + 64) ∧ (b = true → rank t < k ∧ m = k) ∧ (b = false → Md13.rule t = none ∧ m = 0),
      ⟨64, R, s, [], true, 64, rfl, by rw [List.append_nil]; exact M, ok, Kp.refl, rfl, ⟨by omega, by show 0 + 2 * 64 ≤ 128; decide, by omega⟩, fun _ => ⟨by have := rank_le s; omega, rfl⟩, fun z => by cases z⟩, ?_⟩
    rintro m σ H1 ⟨R1, t, l, b, k, rfl, M1, okt, K1, hset, ⟨y1, y2, y3⟩, hb1, hb0⟩
    refine ⟨_, rfl, b, rfl, ?_⟩
    cases b with
    | false =>
      refine isF rfl ?_
      obtain ⟨hn, _⟩ := hb0 rfl
      rw [settle_none hn, List.append_nil] at hset
      refine go H1 R1 ?_ K1
      rw [hset]
      exact M1
    | true =>
      refine isT rfl ?_
      obtain ⟨hk, rfl⟩ := hb1 rfl
      refine ⟨fun σ' H' => ∃ m', m' < m ∧ ∃ R' t l b k, σ' = [some (.ref a), some (.bl b)] ∧ MemAt C H' R' a t (acts ++ l) ∧ Ok t ∧ Kx R H R' H' ∧ Md13.settle 64 s = ((Md13.settle k t).1, l ++ (Md13.settle k t).2) ∧
        (t.heard.length + k ≤ s.heard.length + 64 ∧ l.length + 2 * k ≤ 128 ∧ t.decided.length + k ≤ s.decided.length + 64) ∧ (b = true → rank t < k ∧ m' = k) ∧ (b = false → Md13.rule t = none ∧ m' = 0), fun σ' H' h => h, ?_⟩
      have sz : Sz t (acts ++ l) := ⟨by omega, by rw [List.length_append]; omega, by omega⟩
      obtain ⟨k, rfl⟩ : ∃ k', m = k' + 1 := ⟨m - 1, by omega⟩
      -- what is to be shown behind a rule, behind none
      have didit : ∀ t1 l1 H' R', Md13.rule t = some (t1, l1) → MemAt C H' R' a t1 ((acts ++ l) ++ l1) → Kx R1 H1 R' H' → ∃ m', m' < k + 1 ∧ ∃ R' t l b k, ([some (.ref a), some (.bl true)] : L2.St) = [some (.ref a), some (.bl b)] ∧ MemAt C H' R' a t (acts ++ l) ∧ Ok t ∧ Kx R H R' H' ∧ Md13.settle 64 s = ((Md13.settle k t).1, l ++ (Md13.settle k t).2) ∧
          (t.heard.length + k ≤ s.heard.length + 64 ∧ l.length + 2 * k ≤ 128 ∧ t.decided.length + k ≤ s.decided.length + 64) ∧ (b = true → rank t < k ∧ m' = k) ∧ (b = false → Md13.rule t = none ∧ m' = 0) := fun t1 l1 H' R' e M' K' => by
        have hrk := rank_rule okt e
        obtain ⟨x1, x2, x3⟩ := small_rule e
        refine ⟨k, by omega, R', t1, l ++ l1, true, k, rfl, by rw [← List.append_assoc]; exact M', okt.rule e, K1.trans K', ?_, ⟨by omega, by rw [List.length_append]; omega, by omega⟩, fun _ => ⟨by omega, rfl⟩, fun z => by cases z⟩
        rw [hset, settle_some e, List.append_assoc]
      have none_ : ∀ H', Md13.rule t = none → Same H1 H' → ∃ m', m' < k + 1 ∧ ∃ R' t l b k, ([some (.ref a), some (.bl false)] : L2.St) = [some (.ref a), some (.bl b)] ∧ MemAt C H' R' a t (acts ++ l) ∧ Ok t ∧ Kx R H R' H' ∧ Md13.settle 64 s = ((Md13.settle k t).1, l ++ (Md13.settle k t).2) ∧
          (t.heard.length + k ≤ s.heard.length + 64 ∧ l.length + 2 * k ≤ 128 ∧ t.decided.length + k ≤ s.decided.length + 64) ∧ (b = true → rank t < k ∧ m' = k) ∧ (b = false → Md13.rule t = none ∧ m' = 0) := fun H' e h =>
        ⟨0, by omega, R1, t, l, false, k + 1, rfl, M1.same h, okt, K1.trans (Kp.same h), hset, ⟨y1, y2, y3⟩, (fun z => by cases z), fun _ => ⟨e, rfl⟩⟩
      refine ⟨fun σ' H' => ∃ b, σ' = [some (.ref a), some (.bl b)] ∧ (b = true → ∃ t1 l1 R', Md13.rule t = some (t1, l1) ∧ MemAt C H' R' a t1 ((acts ++ l) ++ l1) ∧ Kx R1 H1 R' H') ∧
        (b = false → (r1 t = none ∧ r2 t = none ∧ r3 t = none ∧ r4 t = none) ∧ Same H1 H'), ?_, ?_⟩
      · -- done = decide(member) or catch_up(member) or answer_offer(member) or lock_on_offer(member)
        refine ⟨_, rfl, a, R1, t, acts ++ l, rfl, M1, okt, sz, fun e1 H2 h2 => ⟨_, rfl, isF rfl ?_⟩, fun t1 l1 e H' R' M' K' => ⟨_, rfl, isT rfl ⟨_, rfl, fun _ => ⟨t1, l1, R', by rw [rule_parts, e]; rfl, M', K'⟩, fun z => by cases z⟩⟩⟩
        refine ⟨_, rfl, a, R1, t, acts ++ l, rfl, M1.same h2, okt, sz, fun e2 H3 h3 => ⟨_, rfl, isF rfl ?_⟩, fun t1 l1 e H' R' M' K' => ⟨_, rfl, isT rfl ⟨_, rfl, fun _ => ⟨t1, l1, R', by rw [rule_parts, e1, e]; rfl, M', (Kp.same h2).trans K'⟩, fun z => by cases z⟩⟩⟩
        have h13 := h2.trans h3
        refine ⟨_, rfl, a, R1, t, acts ++ l, rfl, M1.same h13, okt, sz, fun e3 H4 h4 => ⟨_, rfl, isF rfl ?_⟩, fun t1 l1 e H' R' M' K' => ⟨_, rfl, isT rfl ⟨_, rfl, fun _ => ⟨t1, l1, R', by rw [rule_parts, e1, e2, e]; rfl, M', (Kp.same h13).trans K'⟩, fun z => by cases z⟩⟩⟩
        have h14 := h13.trans h4
        refine ⟨_, rfl, a, R1, t, acts ++ l, rfl, M1.same h14, okt, sz, fun e4 H5 h5 => ⟨_, rfl, (fun z => by cases z), fun _ => ⟨⟨e1, e2, e3, e4⟩, h14.trans h5⟩⟩, fun t1 l1 e H' R' M' K' => ⟨_, rfl, fun _ => ⟨t1, l1, R', by rw [rule_parts, e1, e2, e3, e]; rfl, M', (Kp.same h14).trans K'⟩, fun z => by cases z⟩⟩
      · rintro σ' H2 ⟨b, rfl, c1, c0⟩
        refine ⟨_, rfl, b, rfl, ?_⟩
        cases b with
        | true =>
          refine isT rfl ?_
          obtain ⟨t1, l1, R', e, M', K'⟩ := c1 rfl
          exact didit t1 l1 H2 R' e M' K'
        | false =>
          refine isF rfl ?_
          obtain ⟨⟨e1, e2, e3, e4⟩, h2⟩ := c0 rfl
          refine ⟨_, rfl, a, R1, t, acts ++ l, rfl, M1.same h2, okt, sz, fun e5 H3 h3 => ⟨_, rfl, isF rfl ?_⟩, fun t1 l1 e H' R' M' K' => ⟨_, rfl, isT rfl (didit t1 l1 H' R' (by rw [rule_parts, e1, e2, e3, e4, e]; rfl) M' ((Kp.same h2).trans K'))⟩⟩
          have h13 := h2.trans h3
          refine ⟨_, rfl, a, R1, t, acts ++ l, rfl, M1.same h13, okt, sz, fun e6 H4 h4 => ⟨_, rfl, isF rfl ?_⟩, fun t1 l1 e H' R' M' K' => ⟨_, rfl, isT rfl (didit t1 l1 H' R' (by rw [rule_parts, e1, e2, e3, e4, e5, e]; rfl) M' ((Kp.same h13).trans K'))⟩⟩
          have h14 := h13.trans h4
          exact ⟨_, rfl, a, R1, t, acts ++ l, rfl, M1.same h14, okt, sz, fun e7 H5 h5 => none_ H5 (by rw [rule_parts, e1, e2, e3, e4, e5, e6, e7]; rfl) (h14.trans h5), fun t1 l1 e H' R' M' K' => didit t1 l1 H' R' (by rw [rule_parts, e1, e2, e3, e4, e5, e6, e]; rfl) M' ((Kp.same h14).trans K')⟩
/-! ### be_late -/
def lateStep (s : Md13.St) (p : Nat) : Md13.St × List Md13.Act :=
  if p = 1 then (if s.at_ = .offering then Md13.first s 0 else (s, [])) else if p = 2 then (if s.at_ = .first then Md13.second s 0 else (s, [])) else if s.round < 63 then Md13.starts s (s.round + 1) else (s, [])
def spBeLate (C : Cl) : Sp := fun vs H Q _ => ∃ (a : Addr) (R : Rf) (s : Md13.St) (acts : List Md13.Act) (p : Nat), vs = [.ref a, .int (p : Int)] ∧ MemAt C H R a s acts ∧ Ok s ∧ Sz s acts ∧
  ∀ H' R', MemAt C H' R' a (lateStep s p).1 (acts ++ (lateStep s p).2) → Kx R H R' H' → Q .non H'
theorem ok_be_late (T : Txt K mg C) {f : Addr} {fd : FuncData} (F : Fun K "be_late" "be_late" s_be_late f fd) (m_M_vote_first : MK P w K mg base C.M "vote_first" 3 ["self", "value"] (spVote1 C)) (m_M_vote_second : MK P w K mg base C.M "vote_second" 3 ["self", "value"] (spVote2 C))
    (m_M_begin_round : MK P w K mg base C.M "begin_round" 3 ["self", "number"] (spBegin C)) :
    FnOk P w K mg base CX0 4 f fd ["member", "part"] (spBeLate C) := by
  refine F.ok sc_be_late (fun vs H Q E h => ?_) (fun cdv A outer s0 H vs Q E hr h => ?_)
  · obtain ⟨a, R, s, acts, p, rfl, _⟩ := h
    rfl
  · obtain ⟨a, R, s, acts, p, rfl, M, ok, ⟨z1, z2, z3⟩, go⟩ := h
    refine ⟨_, (pss_one (ps_if (pt_cmpR op_eq (pv 1) (pgi (by rfl) T.gOFFERING) (nomark _))
  (pss_one (ps_if (pt_cmpR op_eq (pe_fld (pv 0) rfl) (pgi (by rfl) T.gOFFERING) (nomark _))
  (pss_one (ps_expr (pmeth m_M_vote_first (hr.mono (by decide)) T.clM (pv 0) (pa_cons (pgi (by rfl) T.gNONE) pa_nil))))
  pss_nil))
  (pss_one (ps_if (pt_cmpR op_eq (pv 1) (pgi (by rfl) T.gVOTED_FIRST) (nomark _))
  (pss_one (ps_if (pt_cmpR op_eq (pe_fld (pv 0) rfl) (pgi (by rfl) T.gVOTED_FIRST) (nomark _))
  (pss_one (ps_expr (pmeth m_M_vote_second (hr.mono (by decide)) T.clM (pv 0) (pa_cons (pgi (by rfl) T.gNONE) pa_nil))))
  pss_nil))
  (pss_one (ps_if (pt_cmpR op_lt (pe_fld (pv 0) rfl) (pgi (by rfl) T.gLAST_ROUND) (nomark _))
  (pss_one (ps_expr (pmeth m_M_begin_round (hr.mono (by decide)) T.clM (pv 0) (pa_cons (pe_op op_add (pe_fld (pv 0) rfl) pe_int) pa_nil))))
  pss_nil)))))), ?_⟩
    obtain ⟨dx, d, l, t1, t2, hd, o, A⟩ := id M
    have stay : lateStep s p = (s, []) → Q .non H := fun e => by
      refine go H R ?_ Kp.refl
      rw [e, List.append_nil]
      exact M
    refine ⟨_, rfl, rfl, _, rfl, ?_⟩
    by_cases c1 : p = 1
    · subst c1
      refine isT rfl ?_
      refine ⟨_, rfl, a, C.M, dx, _, _, rfl, A.at_, T.clM, T.nM_part, lk_part, rfl, _, rfl, ?_⟩
      by_cases ca : s.at_ = .offering
      · refine isT (by rw [part_eq, decide_eq_true ca]) ?_
        have e : lateStep s 1 = Md13.first s 0 := by
          unfold lateStep
          rw [if_pos rfl, if_pos ca]
        refine ⟨_, rfl, a, dx, _, rfl, A.at_, mF_no (by decide +kernel), ?_⟩
        refine ⟨a, R, s, acts, 0, rfl, M, ⟨ok.me, ok.n32, ok.rd⟩, by omega, by omega, fun H' R' M' K' => ?_⟩
        refine go H' R' ?_ K'
        rw [e]
        exact M'
      · refine isF (by rw [part_eq, decide_eq_false ca]) ?_
        refine stay ?_
        unfold lateStep
        rw [if_pos rfl, if_neg ca]
    · have e1 : decide (V.int (p : Int) = V.int 1) = false := decide_eq_false (fun z => by injection z with z; omega)
      refine isF e1 ?_
      refine ⟨_, rfl, rfl, _, rfl, ?_⟩
      by_cases c2 : p = 2
      · subst c2
        refine isT rfl ?_
        refine ⟨_, rfl, a, C.M, dx, _, _, rfl, A.at_, T.clM, T.nM_part, lk_part, rfl, _, rfl, ?_⟩
        by_cases ca : s.at_ = .first
        · refine isT (by rw [part_eq2, decide_eq_true ca]) ?_
          have e : lateStep s 2 = Md13.second s 0 := by
            unfold lateStep
            rw [if_neg (by decide), if_pos rfl, if_pos ca]
          refine ⟨_, rfl, a, dx, _, rfl, A.at_, mF_no (by decide +kernel), ?_⟩
          refine ⟨a, R, s, acts, 0, rfl, M, ⟨ok.me, ok.n32, ok.rd⟩, by omega, by omega, fun H' R' M' K' => ?_⟩
          refine go H' R' ?_ K'
          rw [e]
          exact M'
        · refine isF (by rw [part_eq2, decide_eq_false ca]) ?_
          refine stay ?_
          unfold lateStep
          rw [if_neg (by decide), if_pos rfl, if_neg ca]
      · have e2 : decide (V.int (p : Int) = V.int 2) = false := decide_eq_false (fun z => by injection z with z; omega)
        refine isF e2 ?_
        refine ⟨_, rfl, a, C.M, dx, _, _, rfl, A.at_, T.clM, T.nM_round_now, lk_round_now, _, _, rfl, rfl, _, rfl, ?_⟩
        by_cases c3 : s.round < 63
        · refine isT (decide_eq_true (show (s.round : Int) < 63 by omega)) ?_
          have e : lateStep s p = Md13.starts s (s.round + 1) := by
            unfold lateStep
            rw [if_neg c1, if_neg c2, if_pos c3]
          refine ⟨_, rfl, a, dx, _, rfl, A.at_, mF_no (by decide +kernel), _, rfl, a, C.M, dx, _, _, rfl, A.at_, T.clM, T.nM_round_now, lk_round_now, _, _, rfl, rfl, ?_⟩
          refine ⟨a, R, s, acts, s.round + 1, rfl, M, ⟨ok.me, ok.n32, by omega⟩, ok.gd, fun x hx => by have := ok.dn x hx; omega, by omega, by omega, fun H' R' M' K' => ?_⟩
          refine go H' R' ?_ K'
          rw [e]
          exact M'
        · refine isF (decide_eq_false (show ¬ (s.round : Int) < 63 by omega)) ?_
          refine stay ?_
          unfold lateStep
          rw [if_neg c1, if_neg c2, if_neg c3]
end
end Ag
namespace Ag
open PySem PySem.Spec PyProof.Rows L2
open Md13 (Msg Heard)
theorem shown_len (x : Md13.Act) : (Md13.shown x).length = 6 := by cases x <;> rfl
theorem flat_len : ∀ l : List Md13.Act, (l.flatMap Md13.shown).length = 6 * l.length
  | [] => rfl
  | x :: l => by
    rw [List.flatMap_cons, List.length_append, shown_len, flat_len l, List.length_cons]
    omega
theorem paired_get {α β : Type} {F : α → β → Prop} : ∀ {xs : List α} {ys : List β} {i : Nat} {x : α}, Paired F xs ys → xs[i]? = some x → ∃ y, ys[i]? = some y ∧ F x y
  | _, _, _, _, .nil, h => by simp at h
  | _, _, 0, _, .cons r _, h => ⟨_, rfl, by cases h; exact r⟩
  | _, _, i + 1, x, .cons _ t, h => by
    obtain ⟨y, h1, h2⟩ := paired_get (i := i) (x := x) t (by simpa using h)
    exact ⟨y, by simpa using h1, h2⟩
/-- what is wanted behind a call: its answer at a new list, the member as the call leaves it -/
def After (C : Cl) (R : Rf) (H : Hp) (a : Addr) (s : Md13.St) (q : Md13.Call) (Q : VK) : Prop :=
  ∀ H' R' p, MemAt C H' R' a (Md13.answer s q).1 [] → H' p = some (.lst ((ansL s q).map V.int)) → R' p = none → Kx R H R' H' → Q (.ref p) H'
section
variable {P : Program} {w : World} {K : PySem.W.Frag} {mg : Str → Option Value} {base : Heap} {C : Cl}
/-! ### is_value, is_height, is_round -/
def spBtw (lo hi : Nat) : Sp := fun vs H Q _ => ∃ z : Int, vs = [.int z] ∧ Q (.bl (Md13.between z lo hi)) H
theorem btw_run {σ : L2.St} {H : Hp} {Q : VK} {z : Int} {lo hi : Nat} (h : σ[0]? = some (some (V.int z))) (q : Q (.bl (Md13.between z lo hi)) H) :
    tChain (rI0 fun i j => .bl (decide (i ≤ j))) (rI0 fun i j => .bl (decide (i ≤ j))) (tC (.int (lo : Int))) (tVar 0) (tC (.int (hi : Int))) σ H Q := by
  refine ⟨_, h, _, _, rfl, rfl, _, rfl, ?_⟩
  unfold Md13.between at q
  cases c : decide ((lo : Int) ≤ z) with
  | true =>
    rw [c, Bool.true_and] at q
    exact isT rfl ⟨_, _, rfl, rfl, q⟩
  | false =>
    rw [c, Bool.false_and] at q
    exact isF rfl q
theorem ok_is_value (T : Txt K mg C) {f : Addr} {fd : FuncData} (F : Fun K "is_value" "is_value" s_is_value f fd) : FnOk P w K mg base CX0 1 f fd ["number"] (spBtw 1 2147483647) := by
  refine F.ok sc_is_value (fun vs H Q E h => ?_) (fun cdv A outer s0 H vs Q E hr h => ?_)
  · obtain ⟨z, rfl, _⟩ := h
    rfl
  · obtain ⟨z, rfl, go⟩ := h
    exact ⟨_, (pss_one (ps_ret (pe_chain op_le op_le pe_int (pv 0) (pgi (by rfl) T.gGREATEST)))), btw_run rfl go⟩
theorem ok_is_height (T : Txt K mg C) {f : Addr} {fd : FuncData} (F : Fun K "is_height" "is_height" s_is_height f fd) : FnOk P w K mg base CX0 1 f fd ["number"] (spBtw 1 1000000) := by
  refine F.ok sc_is_height (fun vs H Q E h => ?_) (fun cdv A outer s0 H vs Q E hr h => ?_)
  · obtain ⟨z, rfl, _⟩ := h
    rfl
  · obtain ⟨z, rfl, go⟩ := h
    exact ⟨_, (pss_one (ps_ret (pe_chain op_le op_le pe_int (pv 0) (pgi (by rfl) T.gLAST_HEIGHT)))), btw_run rfl go⟩
theorem ok_is_round (T : Txt K mg C) {f : Addr} {fd : FuncData} (F : Fun K "is_round" "is_round" s_is_round f fd) : FnOk P w K mg base CX0 1 f fd ["number"] (spBtw 0 63) := by
  refine F.ok sc_is_round (fun vs H Q E h => ?_) (fun cdv A outer s0 H vs Q E hr h => ?_)
  · obtain ⟨z, rfl, _⟩ := h
    rfl
  · obtain ⟨z, rfl, go⟩ := h
    exact ⟨_, (pss_one (ps_ret (pe_chain op_le op_le pe_int (pv 0) (pgi (by rfl) T.gLAST_ROUND)))), btw_run rfl go⟩
/-! ### told -/
def tellL (acts : List Md13.Act) : List Int := (acts.length : Int) :: acts.flatMap Md13.shown
def spTold (C : Cl) : Sp := fun vs H Q _ => ∃ (a : Addr) (R : Rf) (s : Md13.St) (acts : List Md13.Act), vs = [.ref a] ∧ MemAt C H R a s acts ∧ acts.length ≤ 1000 ∧
  ∀ H' R' p, MemAt C H' R' a s [] → H' p = some (.lst ((tellL acts).map V.int)) → R' p = none → Kx R H R' H' → Q (.ref p) H'
theorem ok_told (T : Txt K mg C) {f : Addr} {fd : FuncData} (F : Fun K "told" "told" s_told f fd) : FnOk P w K mg base CX0 1 f fd ["member"] (spTold C) := by
  refine F.ok sc_told (fun vs H Q E h => ?_) (fun cdv A outer s0 H vs Q E hr h => ?_)
  · obtain ⟨a, R, s, acts, rfl, _⟩ := h
    rfl
  · obtain ⟨a, R, s, acts, rfl, M, hz, go⟩ := h
    refine ⟨_, (pss_cons (ps_set (i := 1) sc_told.nd rfl (Or.inl rfl) (pe_lst (pa_cons (pe_callB call_len_seq (by rfl) T.b_len PySem.boot_len (pa_cons (pe_fld (pv 0) rfl) pa_nil)) pa_nil)))
  (pss_cons (ps_for PassesOwn.never rfl (pi_list (pe_fld (pv 0) rfl)) (pg_name (i := 2) sc_told.nd rfl (Or.inl rfl))
  (pss_one (ps_expr (pe_bm PySem.F.plainAttrs_list PySem.F.slot_list_extend PySem.F.type_list_extend mt_extend (pv 1) (pa_cons (pv 2) pa_nil)))))
  (pss_cons (ps_fld (pv 0) (pe_lst pa_nil) rfl)
  (pss_one (ps_ret (pv 1)))))), ?_⟩
    obtain ⟨dx, d, l, t1, t2, hd, o, A⟩ := id M
    obtain ⟨rl, ps, el, pc⟩ := id A.th
    have lps : ps.length = acts.length := Paired.length pc
    refine ⟨_, rfl, a, C.M, dx, _, _, rfl, A.at_, T.clM, T.nM_things, lk_things, l, _, rfl, .inl (SqL.of el), (by show 1 ≤ sizeLine; decide), fun p hp => ?_⟩
    have s1 : Same H (upd H p (.lst [.int (((ps.map V.ref).length : Nat) : Int)])) := same_new hp
    have npa : p ≠ a := fun z => by rw [z, A.at_] at hp; cases hp
    refine ⟨_, rfl, a, C.M, dx, _, _, rfl, s1 _ _ A.at_, T.clM, T.nM_things, lk_things, l, rfl, ⟨_, SqL.of (s1 _ _ el)⟩, for_list (K := K) (a := l) (xs := ps.map V.ref)
      (fun i σ H' => ∃ y, σ = [some (.ref a), some (.ref p), y] ∧ Same H H' ∧ H' p = some (.lst (((acts.length : Int) :: (acts.take i).flatMap Md13.shown).map V.int)))
      ⟨none, rfl, s1, by rw [upd_same, List.length_map, lps]; rfl⟩ (fun i σ H' _ ⟨_, _, s5, _⟩ => SqL.of (s5 _ _ el)) ?_ ?_⟩
    · rintro i x σ H' hi ⟨y, rfl, s5, ep⟩
      obtain ⟨b, hb, rfl⟩ : ∃ b, ps[i]? = some b ∧ x = V.ref b := by
        rw [List.getElem?_map] at hi
        cases e : ps[i]? with
        | none => rw [e] at hi; cases hi
        | some b => rw [e] at hi; exact ⟨b, rfl, (Option.some.inj hi).symm⟩
      obtain ⟨act, hact, rb, eb⟩ := paired_get pc hb
      have hlt : i < acts.length := (List.getElem?_eq_some_iff.mp hact).1
      refine ⟨_, rfl, .inl ⟨rfl, _, SqL.of ep⟩, _, rfl, p, b, _, _, rfl, rfl, ep, s5 _ _ eb, ?_, ?_⟩
      · rw [List.length_map, List.length_map, List.length_cons, flat_len, shown_len, List.length_take]
        have : (6 * min i acts.length + 1) + 6 ≤ 10000000 := by omega
        exact Nat.le_of_lt (big this)
      · refine ⟨_, rfl, fun b' o' e' => ?_, ?_⟩
        · have : b' ≠ p := fun z => by rw [z, hp] at e'; cases e'
          rw [upd_ne this]
          exact s5 _ _ e'
        · rw [upd_same, ← List.map_append, List.take_add_one, hact]
          show some (HO.lst ((((acts.length : Int) :: (acts.take i).flatMap Md13.shown) ++ Md13.shown act).map V.int)) = some (HO.lst (((acts.length : Int) :: (acts.take i ++ [act]).flatMap Md13.shown).map V.int))
          rw [List.flatMap_append, List.flatMap_cons, List.flatMap_nil, List.append_nil, List.cons_append]
    · rintro σ H' ⟨y, rfl, s5, ep⟩
      rw [List.length_map, lps, List.take_length] at ep
      refine ⟨Nat.zero_le _, fun q hq => ?_⟩
      have nqa : a ≠ q := ne_of_none (s5 _ _ A.at_) hq
      have nqp : p ≠ q := ne_of_none ep hq
      have s6 : Same H' (upd H' q (.lst [])) := same_new hq
      refine ⟨_, rfl, a, C.M, dx, _, rfl, s6 _ _ (s5 _ _ A.at_), T.clM, T.nM_things, (by rw [mF_len]; decide), ?_⟩
      rw [put_things]
      have d5 := A.dom.same s5
      have ra : setR R q .things a = some .mem := by rw [setR_ne nqa]; exact A.ro
      have K2 : Kp [0, 1] R H (setR R q .things) (upd (upd H' q (.lst [])) a (.ins C.M dx (mF s d q t1 t2 hd o))) := (Kp.same s5).trans ((Kp.newR hq).trans (Kp.upd ra (by decide)))
      refine ⟨_, rfl, go _ (setR R q .things) p ?_ ?_ ?_ (K2.mono (by decide))⟩
      · refine ⟨dx, d, q, t1, t2, hd, o, upd_same, ra, A.dec.kp K2 (by decide), ⟨setR_same, [], by rw [upd_ne (Ne.symm nqa)]; exact upd_same, .nil⟩, A.lk.kp K2, A.gd.kp K2, A.hrd.kp K2 (by decide) (by decide) (by decide) (by decide), A.on.kp K2 (by decide), (d5.newR).upd⟩
      · rw [upd_ne npa, upd_ne nqp]
        exact ep
      · rw [setR_ne nqp]
        exact A.dom p hp
/-! ### new -/
def spNew (K : PySem.W.Frag) (C : Cl) : Sp := fun vs H Q _ => ∃ (pl dxp nb : Addr) (mv : V) (n me mine : Int) (R : Rf), vs = [.ref pl, .ref nb] ∧ H pl = some (.ins C.P dxp [("member", mv)]) ∧ R pl = some .plc ∧ Dom R H ∧ SqL K H nb [.int n, .int me, .int mine] ∧
  (¬ (Md13.between n 4 32 = true ∧ Md13.between me 0 (n.toNat - 1) = true ∧ Md13.between mine 1 2147483647 = true) → ∀ p, H p = none → Q (.ref p) (upd H p (.lst [.int (-1)]))) ∧
  ((Md13.between n 4 32 = true ∧ Md13.between me 0 (n.toNat - 1) = true ∧ Md13.between mine 1 2147483647 = true) → ∀ H' R' x p, MemAt C H' R' x (Md13.made n.toNat me.toNat mine.toNat) [] → H' pl = some (.ins C.P dxp [("member", .ref x)]) → R' pl = some .plc →
    H' p = some (.lst [.int 0]) → R' p = none → Ky R H R' H' → Q (.ref p) H')
theorem ok_new (T : Txt K mg C) {f : Addr} {fd : FuncData} (F : Fun K "new" "new" s_new f fd) (f_is_value : FK P w K mg base "is_value" 1 ["number"] (spBtw 1 2147483647)) (k_M_init : IK P w K mg base C.M 4 ["self", "many", "me", "mine"] (spMInit C)) :
    FnOk P w K mg base CX0 6 f fd ["place", "numbers"] (spNew K C) := by
  refine F.ok sc_new (fun vs H Q E h => ?_) (fun cdv A outer s0 H vs Q E hr h => ?_)
  · obtain ⟨pl, dxp, nb, mv, n, me, mine, R, rfl, _⟩ := h
    rfl
  · obtain ⟨pl, dxp, nb, mv, n, me, mine, R, rfl, hpl, rpl, dm, hnb, bad, good⟩ := h
    refine ⟨_, (pss_cons (ps_asg (pv 1) (pg_unl (by rfl) (pgs_cons (pg_name (i := 2) sc_new.nd rfl (Or.inl rfl)) (pgs_cons (pg_name (i := 3) sc_new.nd rfl (Or.inl rfl)) (pgs_cons (pg_name (i := 4) sc_new.nd rfl (Or.inl rfl)) pgs_nil)))))
  (pss_cons (ps_if (PW.pt (pw_or (pt_not (pt_chain op_le op_le pe_int (pv 2) pe_int)) (pw_or (pt_not (pt_chain op_le op_lt pe_int (pv 3) (pv 2))) (pw_or1 (pt_not (pt_val (pcall f_is_value (hr.mono (by decide)) (by rfl) (pa_cons (pv 4) pa_nil))))))))
  (pss_one (ps_ret (pe_lst (pa_cons (pgi (by rfl) T.gBAD) pa_nil))))
  pss_nil)
  (pss_cons (ps_fld (pv 0) (pmake k_M_init (hr.mono (by decide)) (by rfl) T.gMember (pa_cons (pv 2) (pa_cons (pv 3) (pa_cons (pv 4) pa_nil)))) rfl)
  (pss_one (ps_ret (pe_lst (pa_cons pe_int pa_nil))))))), ?_⟩
    have one : ([V.int (-1)] : List V).length ≤ sizeLine := by show 1 ≤ sizeLine; decide
    have one0 : ([V.int 0] : List V).length ≤ sizeLine := by show 1 ≤ sizeLine; decide
    refine ⟨_, rfl, nb, _, rfl, hnb, rfl, _, _, rfl, _, _, rfl, _, _, rfl, rfl, ?_⟩
    -- not 4 <= many <= 32
    refine ⟨_, rfl, _, _, rfl, rfl, _, rfl, ?_⟩
    by_cases c1 : (4 : Int) ≤ n
    case neg => exact isF (decide_eq_false c1) ⟨_, rfl, isT rfl (isT rfl ⟨one, bad fun z => c1 (between_iff.mp z.1).1⟩)⟩
    refine isT (decide_eq_true c1) ⟨_, _, rfl, rfl, _, rfl, ?_⟩
    by_cases c2 : n ≤ (32 : Int)
    case neg => exact isT (by rw [decide_eq_false c2]; rfl) (isT rfl ⟨one, bad fun z => c2 (between_iff.mp z.1).2⟩)
    refine isF (by rw [decide_eq_true c2]; rfl) ?_
    -- not 0 <= me < many
    refine ⟨_, rfl, _, _, rfl, rfl, _, rfl, ?_⟩
    by_cases c3 : (0 : Int) ≤ me
    case neg => exact isF (decide_eq_false c3) ⟨_, rfl, isT rfl (isT rfl ⟨one, bad fun z => c3 (between_iff.mp z.2.1).1⟩)⟩
    refine isT (decide_eq_true c3) ⟨_, rfl, _, _, rfl, rfl, _, rfl, ?_⟩
    by_cases c4 : me < n
    case neg => exact isT (by rw [decide_eq_false c4]; rfl) (isT rfl ⟨one, bad fun z => c4 (by have := (between_iff.mp z.2.1).2; omega)⟩)
    refine isF (by rw [decide_eq_true c4]; rfl) ?_
    -- not is_value(mine)
    refine ⟨_, rfl, mine, rfl, _, rfl, ?_⟩
    cases c5 : Md13.between mine 1 2147483647 with
    | false => exact isT rfl ⟨one, bad fun z => by rw [c5] at z; exact Bool.false_ne_true z.2.2⟩
    | true =>
    refine isF rfl ?_
    have hacc : Md13.between n 4 32 = true ∧ Md13.between me 0 (n.toNat - 1) = true ∧ Md13.between mine 1 2147483647 = true :=
      ⟨between_iff.mpr ⟨c1, c2⟩, between_iff.mpr ⟨c3, by omega⟩, c5⟩
    have c6 := between_iff.mp c5
    obtain ⟨n', rfl⟩ := Int.eq_ofNat_of_zero_le (show 0 ≤ n by omega)
    obtain ⟨me', rfl⟩ := Int.eq_ofNat_of_zero_le c3
    obtain ⟨mine', rfl⟩ := Int.eq_ofNat_of_zero_le (show 0 ≤ mine by omega)
    -- place.member = Member(many, me, mine)
    refine ⟨_, rfl, _, rfl, _, rfl, ?_⟩
    intro x dxm nx ndx nex
    have s1 : Same H (upd H dxm (.own x)) := same_new ndx
    have nx1 : upd H dxm (.own x) x = none := by rw [upd_ne (Ne.symm nex)]; exact nx
    have s2 : Same H (upd (upd H dxm (.own x)) x (.ins C.M dxm [])) := s1.trans (same_new nx1)
    have d2 : Dom (setR R x .mem) (upd (upd H dxm (.own x)) x (.ins C.M dxm [])) := (dm.same s1).newR
    have K1 : Kp [0, 1, 2, 3, 4, 5, 6, 7, 8] R H (setR R x .mem) (upd (upd H dxm (.own x)) x (.ins C.M dxm [])) := (Kp.same s1).trans (Kp.newR nx1)
    refine ⟨x, dxm, setR R x .mem, n', me', mine', rfl, upd_same, setR_same, d2, by omega, fun H' R' M' K' => ⟨rfl, ?_⟩⟩
    have npx : pl ≠ x := ne_of_none hpl nx
    have hpl' := K'.role (s2 _ _ hpl) (show setR R x .mem pl = some .plc by rw [setR_ne npx]; exact rpl) (by decide)
    refine ⟨_, rfl, pl, C.P, dxp, _, rfl, hpl'.1, T.clP, T.nP_member, (by show 1 < 1000; decide), ?_⟩
    have ep : putF "member" (.ref x) [(("member" : Str), mv)] = [(("member" : Str), V.ref x)] := if_pos rfl
    rw [ep]
    refine ⟨one0, fun p hp => ?_⟩
    have npl : pl ≠ p := fun z => by subst z; rw [upd_same] at hp; cases hp
    have dm' : Dom R' H' := by obtain ⟨_, _, _, _, _, _, _, A⟩ := M'; exact A.dom
    have K2 : Kp [8] R' H' R' (upd (upd H' pl (.ins C.P dxp [("member", .ref x)])) p (.lst [.int 0])) := (Kp.upd hpl'.2 (by decide)).trans (Kp.same (same_new hp))
    refine good hacc _ R' x p (M'.kp K2 ?_ ?_) ?_ hpl'.2 upd_same (dm'.upd p hp) ((K1.trans (K'.mono (by decide))).trans (K2.mono (by decide)))
    · intro g hg z
      rw [List.mem_singleton.mp z] at hg
      exact absurd hg (by decide)
    · exact (dm'.upd).upd
    · rw [upd_ne npl]
      exact upd_same
end
end Ag
namespace Ag
open PySem PySem.Spec PyProof.Rows L2
open Md13 (Msg Heard)
theorem one1 (v : V) : ([v] : List V).length ≤ sizeLine := by show 1 ≤ sizeLine; decide
section
variable {C : Cl} {H H1 : Hp} {R : Rf} {a : Addr} {s : Md13.St} {q : Md13.Call} {Q : VK} {z : Int}
/-- a refusal: a new list of one number -/
theorem refuse (M : MemAt C H R a s []) (e : Md13.answer s q = (s, Md13.only z)) (go : After C R H a s q Q) (h1 : Same H H1) : ∀ p, H1 p = none → Q (.ref p) (upd H1 p (.lst [.int z])) := fun p hp => by
  have h2 : Same H (upd H1 p (.lst [.int z])) := h1.trans (same_new hp)
  obtain ⟨dx, d, l, t1, t2, hd, o, A⟩ := id M
  refine go _ R p ?_ ?_ (A.dom p (h1.free hp)) (Kp.same h2)
  · rw [e]
    exact M.same h2
  · unfold ansL
    rw [e, upd_same]
    rfl
end
theorem run_ans {s : Md13.St} {q : Md13.Call} {x : Md13.St × List Md13.Act} (e : Md13.answer s q = Md13.acts (Md13.run x)) : (Md13.answer s q).1 = (Md13.settle 64 x.1).1 ∧ ansL s q = tellL (x.2 ++ (Md13.settle 64 x.1).2) := by
  unfold ansL
  rw [e]
  exact ⟨rfl, rfl⟩
theorem Good.low {s : Md13.St} {i : Nat} (g : Good s i) (hi : i ≤ 4000) : s.heard.length < 700000 ∧ s.decided.length < 700000 ∧ s.height < 700000 := by
  have h1 := g.h1
  have h2 := g.h2
  have h3 := g.ok.ht
  omega
section
variable {P : Program} {w : World} {K : PySem.W.Frag} {mg : Str → Option Value} {base : Heap} {C : Cl}
/-! ### offers -/
def spOffers (C : Cl) : Sp := fun vs H Q _ => ∃ (a : Addr) (R : Rf) (s : Md13.St) (z : Int), vs = [.ref a, .int z] ∧ MemAt C H R a s [] ∧ After C R H a s (.offers z) Q
theorem ok_offers (T : Txt K mg C) {f : Addr} {fd : FuncData} (F : Fun K "offers" "offers" s_offers f fd) (f_is_value : FK P w K mg base "is_value" 1 ["number"] (spBtw 1 2147483647)) :
    FnOk P w K mg base CX0 2 f fd ["member", "mine"] (spOffers C) := by
  refine F.ok sc_offers (fun vs H Q E h => ?_) (fun cdv A outer s0 H vs Q E hr h => ?_)
  · obtain ⟨a, R, s, z, rfl, _⟩ := h
    rfl
  · obtain ⟨a, R, s, z, rfl, M, go⟩ := h
    refine ⟨_, (pss_cons (ps_if (pt_not (pt_val (pcall f_is_value (hr.mono (by decide)) (by rfl) (pa_cons (pv 1) pa_nil))))
  (pss_one (ps_ret (pe_lst (pa_cons (pgi (by rfl) T.gBAD) pa_nil))))
  pss_nil)
  (pss_cons (ps_fld (pv 0) (pv 1) rfl)
  (pss_one (ps_ret (pe_lst (pa_cons pe_int pa_nil)))))), ?_⟩
    refine ⟨_, rfl, z, rfl, _, rfl, ?_⟩
    cases c : Md13.between z 1 2147483647 with
    | false =>
      refine isT rfl ⟨one1 _, refuse M ?_ go (Same.refl _)⟩
      show (if Md13.between z 1 Md13.MOST = false then (s, Md13.only (-1)) else _) = _
      exact if_pos c
    | true =>
      refine isF rfl ?_
      have e : Md13.answer s (.offers z) = ({ s with mine := z.toNat }, Md13.only 0) := by
        show (if Md13.between z 1 Md13.MOST = false then (s, Md13.only (-1)) else ({ s with mine := z.toNat }, Md13.only 0)) = _
        exact if_neg (fun y => by
          have c' : Md13.between z 1 Md13.MOST = true := c
          rw [c'] at y
          cases y)
      obtain ⟨z', rfl⟩ := Int.eq_ofNat_of_zero_le (show 0 ≤ z by have := (between_iff.mp c).1; omega)
      obtain ⟨dx, d, l, t1, t2, hd, o, A⟩ := id M
      refine ⟨_, rfl, _, rfl, a, C.M, dx, _, rfl, A.at_, T.clM, T.nM_mine, (by rw [mF_len]; decide), ?_⟩
      rw [put_mine]
      have K1 : Kp [0] R H R (upd H a (.ins C.M dx (mF { s with mine := z' } d l t1 t2 hd o))) := Kp.upd A.ro (by decide)
      refine ⟨one1 _, fun p hp => ?_⟩
      have s2 : Same (upd H a (.ins C.M dx (mF { s with mine := z' } d l t1 t2 hd o))) (upd (upd H a (.ins C.M dx (mF { s with mine := z' } d l t1 t2 hd o))) p (.lst [.int 0])) := same_new hp
      have M1 : MemAt C (upd H a (.ins C.M dx (mF { s with mine := z' } d l t1 t2 hd o))) R a { s with mine := z' } [] :=
        ⟨dx, d, l, t1, t2, hd, o, upd_same, A.ro, A.dec.kp K1 (by decide), A.th.kp K1 (by decide), A.lk.kp K1, A.gd.kp K1, A.hrd.kp K1 (by decide) (by decide) (by decide) (by decide), A.on.kp K1 (by decide), A.dom.upd⟩
      refine go _ R p ?_ ?_ ((A.dom.upd) p hp) ((K1.mono (by decide)).trans (Kp.same s2))
      · rw [e]
        exact M1.same s2
      · unfold ansL
        rw [e, upd_same]
        rfl
/-! ### begin -/
def spBeginA (C : Cl) : Sp := fun vs H Q _ => ∃ (a : Addr) (R : Rf) (s : Md13.St) (i : Nat), vs = [.ref a] ∧ MemAt C H R a s [] ∧ Good s i ∧ i ≤ 4000 ∧ After C R H a s .begin_ Q
theorem ok_begin (T : Txt K mg C) {f : Addr} {fd : FuncData} (F : Fun K "begin" "begin" s_begin f fd) (m_M_begin_round : MK P w K mg base C.M "begin_round" 3 ["self", "number"] (spBegin C)) (f_keep_rules : FK P w K mg base "keep_rules" 5 ["member"] (spKeep C))
    (f_told : FK P w K mg base "told" 1 ["member"] (spTold C)) : FnOk P w K mg base CX0 6 f fd ["member"] (spBeginA C) := by
  refine F.ok sc_begin (fun vs H Q E h => ?_) (fun cdv A outer s0 H vs Q E hr h => ?_)
  · obtain ⟨a, R, s, i, rfl, _⟩ := h
    rfl
  · obtain ⟨a, R, s, i, rfl, M, g, hi, go⟩ := h
    refine ⟨_, (pss_cons (ps_if (pt_val (pe_fld (pv 0) rfl))
  (pss_one (ps_ret (pe_lst (pa_cons (pgi (by rfl) T.gNOT_SO) pa_nil))))
  pss_nil)
  (pss_cons (ps_if (pt_cmpR op_eq (pe_fld (pv 0) rfl) (pgi (by rfl) T.gLAST_HEIGHT) (nomark _))
  (pss_one (ps_ret (pe_lst (pa_cons (pgi (by rfl) T.gAT_END) pa_nil))))
  pss_nil)
  (pss_cons (ps_fld (pv 0) pe_bl rfl)
  (pss_cons (ps_expr (pmeth m_M_begin_round (hr.mono (by decide)) T.clM (pv 0) (pa_cons pe_int pa_nil)))
  (pss_cons (ps_expr (pcall f_keep_rules (hr.mono (by decide)) (by rfl) (pa_cons (pv 0) pa_nil)))
  (pss_one (ps_ret (pcall f_told (hr.mono (by decide)) (by rfl) (pa_cons (pv 0) pa_nil))))))))), ?_⟩
    obtain ⟨l1, l2, l3⟩ := g.low hi
    obtain ⟨dx, d, l, t1, t2, hd, o, A⟩ := id M
    refine ⟨_, rfl, a, C.M, dx, _, _, rfl, A.at_, T.clM, T.nM_begun, lk_begun, _, rfl, ?_⟩
    cases cb : s.begun with
    | true =>
      refine isT rfl ⟨one1 _, refuse M ?_ go (Same.refl _)⟩
      show (if s.begun = true then (s, Md13.only (-3)) else _) = _
      exact if_pos cb
    | false =>
      refine isF rfl ?_
      have e : Md13.answer s .begin_ = Md13.acts (Md13.run (Md13.starts { s with begun := true } 0)) := by
        show (if s.begun = true then (s, Md13.only (-3)) else _) = _
        exact if_neg (by rw [cb]; exact Bool.false_ne_true)
      refine ⟨_, rfl, a, C.M, dx, _, _, rfl, A.at_, T.clM, T.nM_height, lk_height, rfl, _, rfl, ?_⟩
      refine isF (decide_eq_false (fun z => by injection z with z; omega)) ?_
      refine ⟨_, rfl, a, C.M, dx, _, rfl, A.at_, T.clM, T.nM_begun, (by rw [mF_len]; decide), ?_⟩
      rw [put_begun]
      have K1 : Kp [0] R H R (upd H a (.ins C.M dx (mF { s with begun := true } d l t1 t2 hd o))) := Kp.upd A.ro (by decide)
      have M1 : MemAt C (upd H a (.ins C.M dx (mF { s with begun := true } d l t1 t2 hd o))) R a { s with begun := true } [] :=
        ⟨dx, d, l, t1, t2, hd, o, upd_same, A.ro, A.dec.kp K1 (by decide), A.th.kp K1 (by decide), A.lk.kp K1, A.gd.kp K1, A.hrd.kp K1 (by decide) (by decide) (by decide) (by decide), A.on.kp K1 (by decide), A.dom.upd⟩
      have okb := g.ok.begunAt true
      have hdn : ∀ x ∈ ({ s with begun := true } : Md13.St).done, x.2 ≠ 0 := fun x hx => by
        have hx' : x ∈ s.done := hx
        rw [g.cold cb] at hx'
        cases hx'
      refine ⟨_, rfl, a, dx, _, rfl, upd_same, mF_no (by decide +kernel), ?_⟩
      refine ⟨a, R, { s with begun := true }, [], 0, rfl, M1, ⟨okb.me, okb.n32, by decide⟩, okb.gd, hdn, (by show s.heard.length < 1000000; omega), (by show 0 < 1000000; decide), fun H2 R2 M2 K2 => ?_⟩
      have ok2 : Ok (Md13.starts { s with begun := true } 0).1 := okb.starts (by decide) fun x hx => by
        have hx' : x ∈ s.done := hx
        rw [g.cold cb] at hx'
        cases hx'
      obtain ⟨n1, n2, n3⟩ := starts_len { s with begun := true } 0
      have n1 : (Md13.starts { s with begun := true } 0).1.heard.length ≤ s.heard.length + 1 := n1
      have n2 : (Md13.starts { s with begun := true } 0).1.decided.length = s.decided.length := congrArg List.length n2
      refine ⟨_, rfl, ?_⟩
      refine ⟨a, R2, _, _, rfl, M2, ok2, ⟨by omega, by rw [List.nil_append, n3]; decide, by omega⟩, fun H3 R3 M3 K3 => ?_⟩
      refine ⟨_, rfl, ?_⟩
      obtain ⟨_, _, m3⟩ := settle_small 64 (Md13.starts { s with begun := true } 0).1
      refine ⟨a, R3, _, _, rfl, M3, by rw [List.nil_append, List.length_append, n3]; omega, fun H4 R4 p M4 ep rp K4 => ?_⟩
      obtain ⟨r1, r2⟩ := run_ans e
      rw [List.nil_append] at ep
      refine go H4 R4 p ?_ ?_ rp ((((K1.mono (by decide)).trans K2).trans K3).trans K4)
      · rw [r1]
        exact M4
      · rw [r2]
        exact ep
/-! ### is_message -/
def spMsg (K : PySem.W.Frag) (C : Cl) : Sp := fun vs H Q _ => ∃ (a nb : Addr) (R : Rf) (s : Md13.St) (acts : List Md13.Act) (who k h r v q : Int), vs = [.ref a, .ref nb] ∧ MemAt C H R a s acts ∧ SqL K H nb [.int who, .int k, .int h, .int r, .int v, .int q] ∧ 1 ≤ s.n ∧
  Q (.bl (msgOf s who [k, h, r, v, q]).isSome) H
theorem msgOf_bad {s : Md13.St} {who : Int} {l : List Int} (hn : 1 ≤ s.n) (h : ¬ (0 ≤ who ∧ who < (s.n : Int)) ∨ who = (s.me : Int)) : (msgOf s who l).isSome = false := by
  unfold msgOf
  rw [if_pos]
  · rfl
  · rcases h with h | h
    · refine .inl (between_false.mpr fun z => h ⟨z.1, ?_⟩)
      have := z.2
      omega
    · exact .inr h
theorem msgOf_good {s : Md13.St} {who : Int} {l : List Int} (hn : 1 ≤ s.n) (h : 0 ≤ who ∧ who < (s.n : Int)) (h2 : who ≠ (s.me : Int)) : msgOf s who l = Md13.read l := by
  unfold msgOf
  rw [if_neg]
  rintro (z | z)
  · exact between_false.mp z ⟨h.1, by omega⟩
  · exact h2 z
theorem ok_is_message (T : Txt K mg C) {f : Addr} {fd : FuncData} (F : Fun K "is_message" "is_message" s_is_message f fd) (f_is_value : FK P w K mg base "is_value" 1 ["number"] (spBtw 1 2147483647)) (f_is_height : FK P w K mg base "is_height" 1 ["number"] (spBtw 1 1000000))
    (f_is_round : FK P w K mg base "is_round" 1 ["number"] (spBtw 0 63)) : FnOk P w K mg base CX0 2 f fd ["member", "numbers"] (spMsg K C) := by
  refine F.ok sc_is_message (fun vs H Q E h => ?_) (fun cdv A outer s0 H vs Q E hr h => ?_)
  · obtain ⟨a, nb, R, s, acts, who, k, h, r, v, q, rfl, _⟩ := h
    rfl
  · obtain ⟨a, nb, R, s, acts, who, k, h, r, v, q, rfl, ⟨dx, d, l, t1, t2, hd, o, A⟩, hnb, hn, go⟩ := h
    refine ⟨_, (pss_cons (ps_asg (pv 1) (pg_unl (by rfl) (pgs_cons (pg_name (i := 2) sc_is_message.nd rfl (Or.inl rfl)) (pgs_cons (pg_name (i := 3) sc_is_message.nd rfl (Or.inl rfl)) (pgs_cons (pg_name (i := 4) sc_is_message.nd rfl (Or.inl rfl)) (pgs_cons (pg_name (i := 5) sc_is_message.nd rfl (Or.inl rfl)) (pgs_cons (pg_name (i := 6) sc_is_message.nd rfl (Or.inl rfl)) (pgs_cons (pg_name (i := 7) sc_is_message.nd rfl (Or.inl rfl)) pgs_nil))))))))
  (pss_cons (ps_if (PW.pt (pw_or (pt_not (pt_chain op_le op_lt pe_int (pv 2) (pe_fld (pv 0) rfl))) (pw_or (pt_cmpR op_eq (pv 2) (pe_fld (pv 0) rfl) (nomark _)) (pw_or1 (pt_not (pt_chain op_le op_le (pgi (by rfl) T.gOFFER) (pv 3) (pgi (by rfl) T.gSECOND)))))))
  (pss_one (ps_ret pe_bl))
  pss_nil)
  (pss_cons (ps_if (PW.pt (pw_or (pt_not (pt_val (pcall f_is_height (hr.mono (by decide)) (by rfl) (pa_cons (pv 4) pa_nil)))) (pw_or1 (pt_not (pt_val (pcall f_is_round (hr.mono (by decide)) (by rfl) (pa_cons (pv 5) pa_nil)))))))
  (pss_one (ps_ret pe_bl))
  pss_nil)
  (pss_cons (ps_if (pt_cmpR op_eq (pv 3) (pgi (by rfl) T.gOFFER) (nomark _))
  (pss_one (ps_ret (pe_and (pcall f_is_value (hr.mono (by decide)) (by rfl) (pa_cons (pv 6) pa_nil)) (pe_one (pe_or (pe_cmpR op_eq (pv 7) (pe_un un_neg pe_int) (nomark _)) (pe_one (pcall f_is_round (hr.mono (by decide)) (by rfl) (pa_cons (pv 7) pa_nil))))))))
  pss_nil)
  (pss_one (ps_ret (pe_and (pe_or (pe_cmpR op_eq (pv 6) (pgi (by rfl) T.gNONE) (nomark _)) (pe_one (pcall f_is_value (hr.mono (by decide)) (by rfl) (pa_cons (pv 6) pa_nil)))) (pe_one (pe_cmpR op_eq (pv 7) (pe_un un_neg pe_int) (nomark _)))))))))), ?_⟩
    have say : ∀ b, (msgOf s who [k, h, r, v, q]).isSome = b → Q (.bl b) H := fun b e => by rw [e] at go; exact go
    refine ⟨_, rfl, nb, _, rfl, hnb, rfl, _, _, rfl, _, _, rfl, _, _, rfl, _, _, rfl, _, _, rfl, _, _, rfl, rfl, ?_⟩
    -- not 0 <= who < member.many
    refine ⟨_, rfl, _, _, rfl, rfl, _, rfl, ?_⟩
    by_cases c1 : (0 : Int) ≤ who
    case neg => exact isF (decide_eq_false c1) ⟨_, rfl, isT rfl (isT rfl (say _ (msgOf_bad hn (.inl fun z => c1 z.1))))⟩
    refine isT (decide_eq_true c1) ⟨_, rfl, a, C.M, dx, _, _, rfl, A.at_, T.clM, T.nM_many, lk_many, _, _, rfl, rfl, _, rfl, ?_⟩
    by_cases c2 : who < (s.n : Int)
    case neg => exact isT (by rw [decide_eq_false c2]; rfl) (isT rfl (say _ (msgOf_bad hn (.inl fun z => c2 z.2))))
    refine isF (by rw [decide_eq_true c2]; rfl) ?_
    -- who == member.me
    refine ⟨_, rfl, _, rfl, a, C.M, dx, _, _, rfl, A.at_, T.clM, T.nM_me, lk_me, rfl, _, rfl, ?_⟩
    by_cases c3 : who = (s.me : Int)
    · exact isT (decide_eq_true (by rw [c3])) (isT rfl (say _ (msgOf_bad hn (.inr c3))))
    refine isF (decide_eq_false (fun z => by injection z with z; exact c3 z)) ?_
    have em := msgOf_good (l := [k, h, r, v, q]) hn ⟨c1, c2⟩ c3
    rw [em] at say
    have no : ¬ ((1 ≤ k ∧ k ≤ 3) ∧ (1 ≤ h ∧ h ≤ 1000000) ∧ (0 ≤ r ∧ r ≤ 63) ∧ ((k = 1 ∧ 1 ≤ v ∧ v ≤ 2147483647 ∧ (q = -1 ∨ (0 ≤ q ∧ q ≤ 63))) ∨ (k ≠ 1 ∧ 0 ≤ v ∧ v ≤ 2147483647 ∧ q = -1))) → Q (.bl false) H := fun z =>
      say _ (by
        cases y : (Md13.read [k, h, r, v, q]).isSome with
        | false => rfl
        | true => exact absurd (read_isSome.mp y) z)
    have yes : ((1 ≤ k ∧ k ≤ 3) ∧ (1 ≤ h ∧ h ≤ 1000000) ∧ (0 ≤ r ∧ r ≤ 63) ∧ ((k = 1 ∧ 1 ≤ v ∧ v ≤ 2147483647 ∧ (q = -1 ∨ (0 ≤ q ∧ q ≤ 63))) ∨ (k ≠ 1 ∧ 0 ≤ v ∧ v ≤ 2147483647 ∧ q = -1))) → Q (.bl true) H := fun z => say _ (read_isSome.mpr z)
    -- not OFFER <= kind <= SECOND
    refine ⟨_, rfl, _, _, rfl, rfl, _, rfl, ?_⟩
    by_cases c4 : (1 : Int) ≤ k
    case neg => exact isF (decide_eq_false c4) ⟨_, rfl, isT rfl (no fun z => c4 z.1.1)⟩
    refine isT (decide_eq_true c4) ⟨_, _, rfl, rfl, _, rfl, ?_⟩
    by_cases c5 : k ≤ (3 : Int)
    case neg => exact isT (by rw [decide_eq_false c5]; rfl) (no fun z => c5 z.1.2)
    refine isF (by rw [decide_eq_true c5]; rfl) ?_
    -- not is_height(height) or not is_round(number)
    refine ⟨_, rfl, h, rfl, _, rfl, ?_⟩
    cases c6 : Md13.between h 1 1000000 with
    | false => exact isT rfl (isT rfl (no fun z => between_false.mp c6 z.2.1))
    | true =>
    refine isF rfl ?_
    refine ⟨_, rfl, r, rfl, _, rfl, ?_⟩
    cases c7 : Md13.between r 0 63 with
    | false => exact isT rfl (no fun z => between_false.mp c7 z.2.2.1)
    | true =>
    refine isF rfl ?_
    have h6 : 1 ≤ h ∧ h ≤ 1000000 := between_iff.mp c6
    have h7 : 0 ≤ r ∧ r ≤ 63 := between_iff.mp c7
    -- if kind == OFFER
    refine ⟨_, rfl, rfl, _, rfl, ?_⟩
    by_cases ck : k = 1
    · refine isT (decide_eq_true (by rw [ck])) ?_
      refine ⟨_, rfl, v, rfl, _, rfl, ?_⟩
      cases c8 : Md13.between v 1 2147483647 with
      | false =>
        refine isF rfl (no fun z => ?_)
        rcases z.2.2.2 with y | y
        · exact between_false.mp c8 ⟨y.2.1, y.2.2.1⟩
        · exact y.1 ck
      | true =>
        have h8 : 1 ≤ v ∧ v ≤ 2147483647 := between_iff.mp c8
        refine isT rfl ?_
        refine ⟨_, rfl, _, rfl, rfl, _, rfl, ?_⟩
        by_cases cq : q = -1
        · refine isT (decide_eq_true (by rw [cq])) (yes ⟨⟨c4, c5⟩, h6, h7, .inl ⟨ck, h8.1, h8.2, .inl cq⟩⟩)
        · refine isF (decide_eq_false (fun z => by injection z with z; exact cq z)) ?_
          refine ⟨_, rfl, q, rfl, ?_⟩
          cases c9 : Md13.between q 0 63 with
          | false =>
            refine no fun z => ?_
            rcases z.2.2.2 with y | y
            · rcases y.2.2.2 with x | x
              · exact cq x
              · exact between_false.mp c9 x
            · exact y.1 ck
          | true => exact yes ⟨⟨c4, c5⟩, h6, h7, .inl ⟨ck, h8.1, h8.2, .inr (between_iff.mp c9)⟩⟩
    · refine isF (decide_eq_false (fun z => by injection z with z; exact ck z)) ?_
      refine ⟨_, rfl, rfl, _, rfl, ?_⟩
      have fin : (0 ≤ v ∧ v ≤ 2147483647) → ∀ b, b = decide (V.int q = V.int (-1)) → Q (.bl b) H := fun hv b hb => by
        rw [hb]
        by_cases cq : q = -1
        · rw [decide_eq_true (by rw [cq])]
          exact yes ⟨⟨c4, c5⟩, h6, h7, .inr ⟨ck, hv.1, hv.2, cq⟩⟩
        · rw [decide_eq_false (fun z => by injection z with z; exact cq z)]
          refine no fun z => ?_
          rcases z.2.2.2 with y | y
          · exact ck y.1
          · exact cq y.2.2.2
      by_cases cv : v = 0
      · refine isT (decide_eq_true (by rw [cv])) ⟨_, rfl, isT rfl ?_⟩
        refine ⟨_, rfl, _, rfl, rfl, ?_⟩
        exact fin (by omega) _ rfl
      · refine isF (decide_eq_false (fun z => by injection z with z; exact cv z)) ?_
        refine ⟨_, rfl, v, rfl, _, rfl, ?_⟩
        cases c8 : Md13.between v 1 2147483647 with
        | false =>
          refine isF rfl (no fun z => ?_)
          have := between_false.mp c8
          rcases z.2.2.2 with y | y
          · exact ck y.1
          · exact this ⟨by have := y.2.1; show (1 : Int) ≤ v; omega, y.2.2.1⟩
        | true =>
          have h8 : 1 ≤ v ∧ v ≤ 2147483647 := between_iff.mp c8
          refine isT rfl ?_
          refine ⟨_, rfl, _, rfl, rfl, ?_⟩
          exact fin (by omega) _ rfl
end
end Ag
namespace Ag
open PySem PySem.Spec PyProof.Rows L2
open Md13 (Msg Heard)
/-! ### the answers, told apart -/
theorem ans_hears (s : Md13.St) (who : Int) (m : List Int) : Md13.answer s (.hears who m) = (if s.begun = false then (s, Md13.only (-3)) else match msgOf s who m with
    | none => (s, Md13.only (-1))
    | some m' => if Md13.HEIGHTS ≤ s.height then (s, Md13.only (-4)) else Md13.acts (Md13.hears s who.toNat m')) := by
  show (if s.begun = false then (s, Md13.only (-3)) else if Md13.between who 0 (s.n - 1) = false ∨ who = (s.me : Int) then (s, Md13.only (-1)) else match Md13.read m with
      | none => (s, Md13.only (-1))
      | some m => if Md13.HEIGHTS ≤ s.height then (s, Md13.only (-4)) else Md13.acts (Md13.hears s who.toNat m)) = _
  unfold msgOf
  by_cases c : Md13.between who 0 (s.n - 1) = false ∨ who = (s.me : Int)
  · rw [if_pos c, if_pos c]
  · rw [if_neg c, if_neg c]
theorem run_quiet {s : Md13.St} (h : Md13.rule s = none) : Md13.run (s, []) = (s, []) := by
  show ((Md13.settle 64 s).1, [] ++ (Md13.settle 64 s).2) = _
  rw [settle_none h]
  rfl
/-- what a member hears, then does -/
def hearsX (s : Md13.St) (w : Nat) (m : Msg) : Md13.St := if m.height = s.height then Md13.hear s w m else s
theorem hears_run {s : Md13.St} (h : Md13.rule s = none) (w : Nat) (m : Msg) : Md13.hears s w m = Md13.run (hearsX s w m, []) := by
  unfold Md13.hears hearsX
  by_cases c : m.height = s.height
  · rw [if_neg (fun z => z c), if_pos c]
  · rw [if_pos c, if_neg c, run_quiet h]
theorem late_run {s : Md13.St} (h : Md13.rule s = none) (p ht r : Nat) (hp : 1 ≤ p ∧ p ≤ 3) : Md13.late s p ht r = Md13.run (if ht = s.height ∧ r = s.round then lateStep s p else (s, [])) := by
  unfold Md13.late
  by_cases c : ht = s.height ∧ r = s.round
  · rw [if_neg (by rintro (z | z); exact z c.1; exact z c.2), if_pos c]
    unfold lateStep
    by_cases p1 : p = 1
    · subst p1
      rw [if_pos rfl]
      by_cases ca : s.at_ = .offering
      · rw [if_pos ⟨rfl, ca⟩, if_pos ca]
      · rw [if_neg (fun z => ca z.2), if_neg ca, if_neg (fun z => absurd z.1 (by decide)), if_neg (fun z => absurd z.1 (by decide)), run_quiet h]
    · rw [if_neg (fun z => p1 z.1), if_neg p1]
      by_cases p2 : p = 2
      · subst p2
        rw [if_pos rfl]
        by_cases ca : s.at_ = .first
        · rw [if_pos ⟨rfl, ca⟩, if_pos ca]
        · rw [if_neg (fun z => ca z.2), if_neg ca, if_neg (fun z => absurd z.1 (by decide)), run_quiet h]
      · have p3 : p = 3 := by omega
        rw [if_neg (fun z => p2 z.1), if_neg p2, c.2]
        by_cases c3 : s.round < 63
        · rw [if_pos ⟨p3, show s.round + 1 < 64 by omega⟩, if_pos c3]
        · rw [if_neg (fun z => c3 (by have : s.round + 1 < 64 := z.2; omega)), if_neg c3, run_quiet h]
  · rw [if_pos (by
      by_cases z : ht = s.height
      · exact .inr fun y => c ⟨z, y⟩
      · exact .inl z), if_neg c, run_quiet h]
theorem lateStep_ok {s : Md13.St} (h : Ok s) (p : Nat) : Ok (lateStep s p).1 := by
  unfold lateStep
  split
  · split
    · exact h.first 0
    · exact h
  · split
    · split
      · exact h.second 0
      · exact h
    · split
      · exact h.starts (by omega) fun x hx => by have := h.dn x hx; omega
      · exact h
theorem lateStep_len (s : Md13.St) (p : Nat) : (lateStep s p).1.heard.length ≤ s.heard.length + 1 ∧ (lateStep s p).1.decided.length = s.decided.length ∧ (lateStep s p).2.length ≤ 1 := by
  unfold lateStep
  split
  · split
    · obtain ⟨a, b, _, c⟩ := first_len s 0
      exact ⟨a, by rw [b], by rw [c]; exact Nat.le_refl _⟩
    · exact ⟨Nat.le_succ _, rfl, Nat.zero_le _⟩
  · split
    · split
      · obtain ⟨a, b, _, c⟩ := second_len s 0
        exact ⟨a, by rw [b], by rw [c]; exact Nat.le_refl _⟩
      · exact ⟨Nat.le_succ _, rfl, Nat.zero_le _⟩
    · split
      · obtain ⟨a, b, c⟩ := starts_len s (s.round + 1)
        exact ⟨a, by rw [b], by rw [c]; exact Nat.le_refl _⟩
      · exact ⟨Nat.le_succ _, rfl, Nat.zero_le _⟩
section
variable {P : Program} {w : World} {K : PySem.W.Frag} {mg : Str → Option Value} {base : Heap} {C : Cl}
/-! ### hears -/
def spHearsA (K : PySem.W.Frag) (C : Cl) : Sp := fun vs H Q _ => ∃ (a nb : Addr) (R : Rf) (s : Md13.St) (i : Nat) (who k h r v q : Int), vs = [.ref a, .ref nb] ∧ MemAt C H R a s [] ∧ SqL K H nb [.int who, .int k, .int h, .int r, .int v, .int q] ∧ Good s i ∧ i ≤ 4000 ∧ After C R H a s (.hears who [k, h, r, v, q]) Q
theorem ok_hears (T : Txt K mg C) {f : Addr} {fd : FuncData} (F : Fun K "hears" "hears" s_hears f fd) (f_is_message : FK P w K mg base "is_message" 2 ["member", "numbers"] (spMsg K C)) (m_H_hear : MK P w K mg base C.H "hear" 1 ["self", "who", "kind", "number", "value", "known"] (spHear C))
    (f_keep_rules : FK P w K mg base "keep_rules" 5 ["member"] (spKeep C)) (f_told : FK P w K mg base "told" 1 ["member"] (spTold C)) : FnOk P w K mg base CX0 6 f fd ["member", "numbers"] (spHearsA K C) := by
  refine F.ok sc_hears (fun vs H Q E h => ?_) (fun cdv A outer s0 H vs Q E hr h => ?_)
  · obtain ⟨a, nb, R, s, i, who, k, h, r, v, q, rfl, _⟩ := h
    rfl
  · obtain ⟨a, nb, R, s, i, who, k, h, r, v, q, rfl, M, hnb, g, hi, go⟩ := h
    refine ⟨_, (pss_cons (ps_if (pt_not (pt_val (pe_fld (pv 0) rfl)))
  (pss_one (ps_ret (pe_lst (pa_cons (pgi (by rfl) T.gNOT_SO) pa_nil))))
  pss_nil)
  (pss_cons (ps_if (pt_not (pt_val (pcall f_is_message (hr.mono (by decide)) (by rfl) (pa_cons (pv 0) (pa_cons (pv 1) pa_nil)))))
  (pss_one (ps_ret (pe_lst (pa_cons (pgi (by rfl) T.gBAD) pa_nil))))
  pss_nil)
  (pss_cons (ps_if (pt_cmpR op_eq (pe_fld (pv 0) rfl) (pgi (by rfl) T.gLAST_HEIGHT) (nomark _))
  (pss_one (ps_ret (pe_lst (pa_cons (pgi (by rfl) T.gAT_END) pa_nil))))
  pss_nil)
  (pss_cons (ps_asg (pv 1) (pg_unl (by rfl) (pgs_cons (pg_name (i := 2) sc_hears.nd rfl (Or.inl rfl)) (pgs_cons (pg_name (i := 3) sc_hears.nd rfl (Or.inl rfl)) (pgs_cons (pg_name (i := 4) sc_hears.nd rfl (Or.inl rfl)) (pgs_cons (pg_name (i := 5) sc_hears.nd rfl (Or.inl rfl)) (pgs_cons (pg_name (i := 6) sc_hears.nd rfl (Or.inl rfl)) (pgs_cons (pg_name (i := 7) sc_hears.nd rfl (Or.inl rfl)) pgs_nil))))))))
  (Evl.pss_cut (ps_if (pt_cmpR op_eq (pv 4) (pe_fld (pv 0) rfl) (nomark _))
  (pss_one (ps_expr (pmeth m_H_hear (hr.mono (by decide)) T.clH (pe_fld (pv 0) rfl) (pa_cons (pv 2) (pa_cons (pv 3) (pa_cons (pv 5) (pa_cons (pv 6) (pa_cons (pv 7) pa_nil))))))))
  pss_nil)
  (pss_cons (ps_expr (pcall f_keep_rules (hr.mono (by decide)) (by rfl) (pa_cons (pv 0) pa_nil)))
  (pss_one (ps_ret (pcall f_told (hr.mono (by decide)) (by rfl) (pa_cons (pv 0) pa_nil)))))))))), ?_⟩
    obtain ⟨l1, l2, l3⟩ := g.low hi
    obtain ⟨dx, d, l, t1, t2, hd, o, A⟩ := id M
    have hn := g.ok.n4
    -- if not member.begun
    refine ⟨_, rfl, a, C.M, dx, _, _, rfl, A.at_, T.clM, T.nM_begun, lk_begun, _, rfl, ?_⟩
    cases cb : s.begun with
    | false =>
      refine isT rfl ⟨one1 _, refuse M ?_ go (Same.refl _)⟩
      rw [ans_hears, if_pos cb]
    | true =>
    refine isF rfl ?_
    have hq := g.quiet cb
    -- if not is_message(member, numbers)
    refine ⟨_, rfl, _, rfl, ?_⟩
    refine ⟨a, nb, R, s, [], who, k, h, r, v, q, rfl, M, hnb, by omega, _, rfl, ?_⟩
    cases hm : msgOf s who [k, h, r, v, q] with
    | none =>
      refine isT rfl ⟨one1 _, refuse M ?_ go (Same.refl _)⟩
      rw [ans_hears, if_neg (by rw [cb]; exact Bool.noConfusion), hm]
    | some m =>
    refine isF rfl ?_
    have e : Md13.answer s (.hears who [k, h, r, v, q]) = Md13.acts (Md13.run (hearsX s who.toNat m, [])) := by
      rw [ans_hears, if_neg (by rw [cb]; exact Bool.noConfusion), hm]
      show (if 1000000 ≤ s.height then _ else Md13.acts (Md13.hears s who.toNat m)) = _
      rw [if_neg (by omega), hears_run hq]
    -- what the numbers are
    have hmsg : (0 ≤ who ∧ who < (s.n : Int)) ∧ Md13.read [k, h, r, v, q] = some m := by
      unfold msgOf at hm
      split at hm
      · cases hm
      · rename_i c
        simp only [not_or] at c
        have := bt c.1
        exact ⟨⟨this.1, by have := this.2; omega⟩, hm⟩
    obtain ⟨hw, hrd⟩ := hmsg
    obtain ⟨k1, k2, k3, k4, rfl⟩ := read_some hrd
    obtain ⟨who', rfl⟩ := Int.eq_ofNat_of_zero_le hw.1
    obtain ⟨h', rfl⟩ := Int.eq_ofNat_of_zero_le (show 0 ≤ h by omega)
    obtain ⟨r', rfl⟩ := Int.eq_ofNat_of_zero_le k3.1
    obtain ⟨v', rfl⟩ := Int.eq_ofNat_of_zero_le (show 0 ≤ v by omega)
    obtain ⟨kd, ekd, ekn⟩ : ∃ kd : Md13.Kind, (if k = 1 then Md13.Kind.offer else if k = 2 then .first else .second) = kd ∧ k = ((kn kd : Nat) : Int) := by
      have : k = 1 ∨ k = 2 ∨ k = 3 := by omega
      rcases this with z | z | z
      · subst z; exact ⟨.offer, rfl, rfl⟩
      · subst z; exact ⟨.first, rfl, rfl⟩
      · subst z; exact ⟨.second, rfl, rfl⟩
    obtain ⟨fq, efq, efr⟩ : ∃ fq : Option Nat, (if q = -1 then none else some q.toNat) = fq ∧ q = fr fq := by
      by_cases z : q = -1
      · exact ⟨none, if_pos z, z⟩
      · refine ⟨some q.toNat, if_neg z, ?_⟩
        show q = (q.toNat : Int)
        omega
    rw [ekd, efq] at e
    subst ekn efr
    clear ekd efq
    -- if member.height == LAST_HEIGHT
    refine ⟨_, rfl, a, C.M, dx, _, _, rfl, A.at_, T.clM, T.nM_height, lk_height, rfl, _, rfl, ?_⟩
    refine isF (decide_eq_false (fun z => by injection z with z; omega)) ?_
    -- who, kind, height, number, value, known = numbers
    refine ⟨_, rfl, nb, _, rfl, hnb, rfl, _, _, rfl, _, _, rfl, _, _, rfl, _, _, rfl, _, _, rfl, _, _, rfl, rfl, ?_⟩
    -- if height == member.height: member.heard.hear(..)
    refine ⟨fun σ' H1 => ∃ R1 y1 y2 y3 y4 y5 y6, σ' = [some (.ref a), y1, y2, y3, y4, y5, y6, some (.int (fr fq))] ∧ MemAt C H1 R1 a (hearsX s who' ⟨kd, h', r', v', fq⟩) [] ∧ Kx R H R1 H1, ?_, ?_⟩
    · refine ⟨_, rfl, _, rfl, a, C.M, dx, _, _, rfl, A.at_, T.clM, T.nM_height, lk_height, rfl, _, rfl, ?_⟩
      by_cases c : h' = s.height
      · refine isT (by rw [dec_nat]; exact decide_eq_true c) ?_
        obtain ⟨dxh, sd, tl, sp, hh, rest⟩ := id A.hrd
        refine ⟨_, rfl, a, C.M, dx, _, _, rfl, A.at_, T.clM, T.nM_heard, lk_heard, hd, dxh, _, rfl, hh, hF_no (by decide +kernel), _, rfl, _, rfl, _, rfl, _, rfl, _, rfl, ?_⟩
        refine ⟨hd, R, s.heard, s.n, who', ⟨kd, h', r', v', fq⟩, rfl, A.hrd, A.dom, by omega, g.ok.n32, (by show r' < 64; omega), by omega, fun H1 R1 c1 c2 c3 => ?_⟩
        refine ⟨R1, _, _, _, _, _, _, rfl, ?_, c3.mono (by decide)⟩
        have e2 : hearsX s who' ⟨kd, h', r', v', fq⟩ = { s with heard := hearL s.heard who' ⟨kd, h', r', v', fq⟩ } := by
          unfold hearsX
          rw [if_pos c, hear_hearL]
        rw [e2]
        have a3 := c3.role A.at_ A.ro (by decide)
        exact ⟨dx, d, l, t1, t2, hd, o, a3.1, a3.2, A.dec.kp c3 (by decide), A.th.kp c3 (by decide), A.lk.kp c3, A.gd.kp c3, c1, A.on.kp c3 (by decide), c2⟩
      · refine isF (by rw [dec_nat]; exact decide_eq_false c) ?_
        refine ⟨R, _, _, _, _, _, _, rfl, ?_, Kp.refl⟩
        have e2 : hearsX s who' ⟨kd, h', r', v', fq⟩ = s := by
          unfold hearsX
          rw [if_neg c]
        rw [e2]
        exact M
    · rintro σ' H1 ⟨R1, y1, y2, y3, y4, y5, y6, rfl, M1, K1⟩
      have okx : Ok (hearsX s who' ⟨kd, h', r', v', fq⟩) := by
        unfold hearsX
        split
        · exact g.ok.hear (by omega) (by show r' < 64; omega)
        · exact g.ok
      have lx : (hearsX s who' ⟨kd, h', r', v', fq⟩).heard.length ≤ s.heard.length + 1 ∧ (hearsX s who' ⟨kd, h', r', v', fq⟩).decided.length = s.decided.length := by
        unfold hearsX
        split
        · exact ⟨hear_len _ _ _, by rw [(hear_fields s who' _).2.2.2.2.2.2.2.2.2.2]⟩
        · exact ⟨Nat.le_succ _, rfl⟩
      refine ⟨_, rfl, ?_⟩
      refine ⟨a, R1, _, [], rfl, M1, okx, ⟨by omega, by show 0 < 800000; decide, by omega⟩, fun H3 R3 M3 K3 => ?_⟩
      refine ⟨_, rfl, ?_⟩
      obtain ⟨_, _, m3⟩ := settle_small 64 (hearsX s who' ⟨kd, h', r', v', fq⟩)
      refine ⟨a, R3, _, _, rfl, M3, by rw [List.nil_append]; omega, fun H4 R4 p M4 ep rp K4 => ?_⟩
      obtain ⟨r1, r2⟩ := run_ans e
      refine go H4 R4 p ?_ ?_ rp ((K1.trans K3).trans K4)
      · rw [r1]
        exact M4
      · rw [r2]
        exact ep
/-! ### late -/
def spLateA (K : PySem.W.Frag) (C : Cl) : Sp := fun vs H Q _ => ∃ (a nb : Addr) (R : Rf) (s : Md13.St) (i : Nat) (p h r : Int), vs = [.ref a, .ref nb] ∧ MemAt C H R a s [] ∧ SqL K H nb [.int p, .int h, .int r] ∧ Good s i ∧ i ≤ 4000 ∧ After C R H a s (.late p h r) Q
theorem ok_late (T : Txt K mg C) {f : Addr} {fd : FuncData} (F : Fun K "late" "late" s_late f fd) (f_is_height : FK P w K mg base "is_height" 1 ["number"] (spBtw 1 1000000)) (f_is_round : FK P w K mg base "is_round" 1 ["number"] (spBtw 0 63))
    (f_be_late : FK P w K mg base "be_late" 4 ["member", "part"] (spBeLate C)) (f_keep_rules : FK P w K mg base "keep_rules" 5 ["member"] (spKeep C)) (f_told : FK P w K mg base "told" 1 ["member"] (spTold C)) : FnOk P w K mg base CX0 6 f fd ["member", "numbers"] (spLateA K C) := by
  refine F.ok sc_late (fun vs H Q E h => ?_) (fun cdv A outer s0 H vs Q E hr h => ?_)
  · obtain ⟨a, nb, R, s, i, p, h, r, rfl, _⟩ := h
    rfl
  · obtain ⟨a, nb, R, s, i, p, h, r, rfl, M, hnb, g, hi, go⟩ := h
    refine ⟨_, (pss_cons (ps_asg (pv 1) (pg_unl (by rfl) (pgs_cons (pg_name (i := 2) sc_late.nd rfl (Or.inl rfl)) (pgs_cons (pg_name (i := 3) sc_late.nd rfl (Or.inl rfl)) (pgs_cons (pg_name (i := 4) sc_late.nd rfl (Or.inl rfl)) pgs_nil)))))
  (pss_cons (ps_if (pt_not (pt_val (pe_fld (pv 0) rfl)))
  (pss_one (ps_ret (pe_lst (pa_cons (pgi (by rfl) T.gNOT_SO) pa_nil))))
  pss_nil)
  (pss_cons (ps_if (PW.pt (pw_or (pt_not (pt_chain op_le op_le pe_int (pv 2) (pgi (by rfl) T.gVOTED_SECOND))) (pw_or (pt_not (pt_val (pcall f_is_height (hr.mono (by decide)) (by rfl) (pa_cons (pv 3) pa_nil)))) (pw_or1 (pt_not (pt_val (pcall f_is_round (hr.mono (by decide)) (by rfl) (pa_cons (pv 4) pa_nil))))))))
  (pss_one (ps_ret (pe_lst (pa_cons (pgi (by rfl) T.gBAD) pa_nil))))
  pss_nil)
  (pss_cons (ps_if (pt_cmpR op_eq (pe_fld (pv 0) rfl) (pgi (by rfl) T.gLAST_HEIGHT) (nomark _))
  (pss_one (ps_ret (pe_lst (pa_cons (pgi (by rfl) T.gAT_END) pa_nil))))
  pss_nil)
  (Evl.pss_cut (ps_if (PW.pt (pw_and (pt_cmpR op_eq (pv 3) (pe_fld (pv 0) rfl) (nomark _)) (pw_and1 (pt_cmpR op_eq (pv 4) (pe_fld (pv 0) rfl) (nomark _)))))
  (pss_one (ps_expr (pcall f_be_late (hr.mono (by decide)) (by rfl) (pa_cons (pv 0) (pa_cons (pv 2) pa_nil)))))
  pss_nil)
  (pss_cons (ps_expr (pcall f_keep_rules (hr.mono (by decide)) (by rfl) (pa_cons (pv 0) pa_nil)))
  (pss_one (ps_ret (pcall f_told (hr.mono (by decide)) (by rfl) (pa_cons (pv 0) pa_nil)))))))))), ?_⟩
    obtain ⟨l1, l2, l3⟩ := g.low hi
    obtain ⟨dx, d, l, t1, t2, hd, o, A⟩ := id M
    refine ⟨_, rfl, nb, _, rfl, hnb, rfl, _, _, rfl, _, _, rfl, _, _, rfl, rfl, ?_⟩
    have eL : Md13.answer s (.late p h r) = (if s.begun = false then (s, Md13.only (-3)) else if Md13.between p 1 3 = false ∨ Md13.between h 1 1000000 = false ∨ Md13.between r 0 63 = false then (s, Md13.only (-1)) else if 1000000 ≤ s.height then (s, Md13.only (-4)) else Md13.acts (Md13.late s p.toNat h.toNat r.toNat)) := rfl
    -- if not member.begun
    refine ⟨_, rfl, a, C.M, dx, _, _, rfl, A.at_, T.clM, T.nM_begun, lk_begun, _, rfl, ?_⟩
    cases cb : s.begun with
    | false =>
      refine isT rfl ⟨one1 _, refuse M ?_ go (Same.refl _)⟩
      rw [eL, if_pos cb]
    | true =>
    refine isF rfl ?_
    have hq := g.quiet cb
    rw [if_neg (by rw [cb]; exact Bool.noConfusion)] at eL
    have bad : (Md13.between p 1 3 = false ∨ Md13.between h 1 1000000 = false ∨ Md13.between r 0 63 = false) → ∀ x, H x = none → Q (.ref x) (upd H x (.lst [.int (-1)])) := fun z => refuse M (by rw [eL, if_pos z]) go (Same.refl _)
    -- not 1 <= part <= VOTED_SECOND
    refine ⟨_, rfl, _, _, rfl, rfl, _, rfl, ?_⟩
    by_cases c1 : (1 : Int) ≤ p
    case neg => exact isF (decide_eq_false c1) ⟨_, rfl, isT rfl (isT rfl ⟨one1 _, bad (.inl (between_false.mpr fun z => c1 z.1))⟩)⟩
    refine isT (decide_eq_true c1) ⟨_, _, rfl, rfl, _, rfl, ?_⟩
    by_cases c2 : p ≤ (3 : Int)
    case neg => exact isT (by rw [decide_eq_false c2]; rfl) (isT rfl ⟨one1 _, bad (.inl (between_false.mpr fun z => c2 z.2))⟩)
    refine isF (by rw [decide_eq_true c2]; rfl) ?_
    refine ⟨_, rfl, h, rfl, _, rfl, ?_⟩
    cases c3 : Md13.between h 1 1000000 with
    | false => exact isT rfl (isT rfl ⟨one1 _, bad (.inr (.inl c3))⟩)
    | true =>
    refine isF rfl ?_
    refine ⟨_, rfl, r, rfl, _, rfl, ?_⟩
    cases c4 : Md13.between r 0 63 with
    | false => exact isT rfl ⟨one1 _, bad (.inr (.inr c4))⟩
    | true =>
    refine isF rfl ?_
    have h3 : 1 ≤ h ∧ h ≤ 1000000 := between_iff.mp c3
    have h4 : 0 ≤ r ∧ r ≤ 63 := between_iff.mp c4
    rw [if_neg (by
      rintro (z | z | z)
      · exact between_false.mp z ⟨c1, c2⟩
      · rw [c3] at z; cases z
      · rw [c4] at z; cases z), if_neg (by omega)] at eL
    obtain ⟨p', rfl⟩ := Int.eq_ofNat_of_zero_le (show 0 ≤ p by omega)
    obtain ⟨h', rfl⟩ := Int.eq_ofNat_of_zero_le (show 0 ≤ h by omega)
    obtain ⟨r', rfl⟩ := Int.eq_ofNat_of_zero_le h4.1
    have e : Md13.answer s (.late (p' : Int) (h' : Int) (r' : Int)) = Md13.acts (Md13.run (if h' = s.height ∧ r' = s.round then lateStep s p' else (s, []))) := by
      rw [eL]
      exact congrArg Md13.acts (late_run hq p' h' r' (by omega))
    -- if member.height == LAST_HEIGHT
    refine ⟨_, rfl, a, C.M, dx, _, _, rfl, A.at_, T.clM, T.nM_height, lk_height, rfl, _, rfl, ?_⟩
    refine isF (decide_eq_false (fun z => by injection z with z; omega)) ?_
    refine ⟨fun σ' H1 => ∃ R1 y1 y2 y3 y4, σ' = [some (.ref a), y1, y2, y3, y4] ∧ MemAt C H1 R1 a (if h' = s.height ∧ r' = s.round then lateStep s p' else (s, [])).1 (if h' = s.height ∧ r' = s.round then lateStep s p' else (s, [])).2 ∧ Kx R H R1 H1, ?_, ?_⟩
    · refine ⟨_, rfl, _, rfl, a, C.M, dx, _, _, rfl, A.at_, T.clM, T.nM_height, lk_height, rfl, _, rfl, ?_⟩
      by_cases c : h' = s.height
      · refine isT (by rw [dec_nat]; exact decide_eq_true c) ?_
        refine ⟨_, rfl, _, rfl, a, C.M, dx, _, _, rfl, A.at_, T.clM, T.nM_round_now, lk_round_now, rfl, _, rfl, ?_⟩
        by_cases c' : r' = s.round
        · refine isT (by rw [dec_nat]; exact decide_eq_true c') ?_
          refine ⟨_, rfl, _, rfl, ?_⟩
          refine ⟨a, R, s, [], p', rfl, M, g.ok, ⟨by omega, by show 0 < 900000; decide, by omega⟩, fun H1 R1 M1 K1 => ?_⟩
          refine ⟨R1, _, _, _, _, rfl, ?_, K1⟩
          rw [if_pos ⟨c, c'⟩]
          exact M1
        · refine isF (by rw [dec_nat]; exact decide_eq_false c') ?_
          refine ⟨R, _, _, _, _, rfl, ?_, Kp.refl⟩
          rw [if_neg (fun z => c' z.2)]
          exact M
      · refine isF (by rw [dec_nat]; exact decide_eq_false c) (isF rfl ?_)
        refine ⟨R, _, _, _, _, rfl, ?_, Kp.refl⟩
        rw [if_neg (fun z => c z.1)]
        exact M
    · rintro σ' H1 ⟨R1, y1, y2, y3, y4, rfl, M1, K1⟩
      have okx : Ok (if h' = s.height ∧ r' = s.round then lateStep s p' else (s, [])).1 := by
        split
        · exact lateStep_ok g.ok p'
        · exact g.ok
      have lx : (if h' = s.height ∧ r' = s.round then lateStep s p' else (s, [])).1.heard.length ≤ s.heard.length + 1 ∧ (if h' = s.height ∧ r' = s.round then lateStep s p' else (s, [])).1.decided.length = s.decided.length ∧ (if h' = s.height ∧ r' = s.round then lateStep s p' else (s, [])).2.length ≤ 1 := by
        split
        · exact lateStep_len s p'
        · exact ⟨Nat.le_succ _, rfl, Nat.zero_le _⟩
      generalize (if h' = s.height ∧ r' = s.round then lateStep s p' else (s, [])) = x at e M1 okx lx ⊢
      refine ⟨_, rfl, ?_⟩
      refine ⟨a, R1, _, _, rfl, M1, okx, ⟨by omega, by omega, by omega⟩, fun H3 R3 M3 K3 => ?_⟩
      refine ⟨_, rfl, ?_⟩
      obtain ⟨_, _, m3⟩ := settle_small 64 x.1
      refine ⟨a, R3, _, _, rfl, M3, by rw [List.length_append]; omega, fun H4 R4 p M4 ep rp K4 => ?_⟩
      obtain ⟨r1, r2⟩ := run_ans e
      refine go H4 R4 p ?_ ?_ rp ((K1.trans K3).trans K4)
      · rw [r1]
        exact M4
      · rw [r2]
        exact ep
/-! ### decided -/
def spDecidedA (C : Cl) : Sp := fun vs H Q _ => ∃ (a : Addr) (R : Rf) (s : Md13.St) (z : Int), vs = [.ref a, .int z] ∧ MemAt C H R a s [] ∧ After C R H a s (.decided z) Q
theorem ok_decided (T : Txt K mg C) {f : Addr} {fd : FuncData} (F : Fun K "decided" "decided" s_decided f fd) (f_is_height : FK P w K mg base "is_height" 1 ["number"] (spBtw 1 1000000)) : FnOk P w K mg base CX0 2 f fd ["member", "height"] (spDecidedA C) := by
  refine F.ok sc_decided (fun vs H Q E h => ?_) (fun cdv A outer s0 H vs Q E hr h => ?_)
  · obtain ⟨a, R, s, z, rfl, _⟩ := h
    rfl
  · have hu := hu_of hr
    obtain ⟨a, R, s, z, rfl, M, go⟩ := h
    refine ⟨_, (pss_cons (ps_if (pt_not (pt_val (pcall f_is_height (hr.mono (by decide)) (by rfl) (pa_cons (pv 1) pa_nil))))
  (pss_one (ps_ret (pe_lst (pa_cons (pgi (by rfl) T.gBAD) pa_nil))))
  pss_nil)
  (pss_one (ps_ret (pe_lst (pa_cons (pe_dget2 hu (pe_fld (pv 0) rfl) (pv 1) (pgi (by rfl) T.gNONE) ⟨rfl, rfl, rfl, rfl⟩) pa_nil))))), ?_⟩
    obtain ⟨dx, d, l, t1, t2, hd, o, A⟩ := id M
    have eD : Md13.answer s (.decided z) = (if Md13.between z 1 1000000 = false then (s, Md13.only (-1)) else (s, Md13.only (match s.decided.reverse[z.toNat - 1]? with
      | some v => (v : Int)
      | none => 0))) := rfl
    refine ⟨_, rfl, z, rfl, _, rfl, ?_⟩
    cases c : Md13.between z 1 1000000 with
    | false =>
      refine isT rfl ⟨one1 _, refuse M ?_ go (Same.refl _)⟩
      rw [eD, if_pos c]
    | true =>
      refine isF rfl ?_
      rw [if_neg (by rw [c]; exact Bool.noConfusion)] at eD
      have h1 : 1 ≤ z ∧ z ≤ 1000000 := between_iff.mp c
      obtain ⟨h', rfl⟩ : ∃ h' : Nat, z = ((h' + 1 : Nat) : Int) := ⟨z.toNat - 1, by omega⟩
      obtain ⟨rd, kvs, ed, ld, cd⟩ := id A.dec
      refine ⟨_, rfl, a, C.M, dx, _, _, rfl, A.at_, T.clM, T.nM_decisions, lk_decisions, d, rfl, .inl ⟨kvs, .inl ed⟩, _, rfl, _, DGet.k (k := .inl ((h' + 1 : Nat) : Int)) ed, one1 _, ?_⟩
      have ev : (valV kvs (.inl ((h' + 1 : Nat) : Int))).getD (V.int 0) = V.int (match s.decided.reverse[h']? with
          | some v => (v : Int)
          | none => 0) := by
        rw [cd h']
        cases s.decided.reverse[h']? <;> rfl
      rw [ev]
      exact refuse M eD go (Same.refl _)
/-! ### state -/
def spStateA (C : Cl) : Sp := fun vs H Q _ => ∃ (a : Addr) (R : Rf) (s : Md13.St), vs = [.ref a] ∧ MemAt C H R a s [] ∧ After C R H a s .state Q
theorem ok_state (T : Txt K mg C) {f : Addr} {fd : FuncData} (F : Fun K "state" "state" s_state f fd) : FnOk P w K mg base CX0 1 f fd ["member"] (spStateA C) := by
  refine F.ok sc_state (fun vs H Q E h => ?_) (fun cdv A outer s0 H vs Q E hr h => ?_)
  · obtain ⟨a, R, s, rfl, _⟩ := h
    rfl
  · obtain ⟨a, R, s, rfl, M, go⟩ := h
    refine ⟨_, (pss_cons (ps_set (i := 1) sc_state.nd rfl (Or.inl rfl) (pe_lst (pa_cons pe_int (pa_cons (pe_fld (pv 0) rfl) (pa_cons (pe_fld (pv 0) rfl) (pa_cons (pe_fld (pv 0) rfl) pa_nil))))))
  (pss_cons (ps_expr (pe_bm PySem.F.plainAttrs_list PySem.F.slot_list_extend PySem.F.type_list_extend mt_extend (pv 1) (pa_cons (pe_callTy call_list_of (by rfl) T.b_list (by decide +kernel) (pa_cons (pe_fld (pv 0) rfl) pa_nil)) pa_nil)))
  (pss_cons (ps_expr (pe_bm PySem.F.plainAttrs_list PySem.F.slot_list_extend PySem.F.type_list_extend mt_extend (pv 1) (pa_cons (pe_callTy call_list_of (by rfl) T.b_list (by decide +kernel) (pa_cons (pe_fld (pv 0) rfl) pa_nil)) pa_nil)))
  (pss_cons (ps_expr (pe_bm PySem.F.plainAttrs_list PySem.F.slot_list_append PySem.F.type_list_append mt_append (pv 1) (pa_cons (pe_fld (pe_fld (pv 0) rfl) rfl) pa_nil)))
  (pss_one (ps_ret (pv 1))))))), ?_⟩
    obtain ⟨dx, d, l, t1, t2, hd, o, A⟩ := id M
    obtain ⟨dxh, sd, tl, sp, hh, rest⟩ := id A.hrd
    have llen : ∀ x : Option (Nat × Nat), (lockV x).length = 2 := fun x => by cases x <;> rfl
    -- answer = [0, member.height, member.round_now, member.part]
    refine ⟨_, rfl, a, C.M, dx, _, _, rfl, A.at_, T.clM, T.nM_height, lk_height, _, rfl, a, C.M, dx, _, _, rfl, A.at_, T.clM, T.nM_round_now, lk_round_now, _, rfl, a, C.M, dx, _, _, rfl, A.at_, T.clM, T.nM_part, lk_part, (by show 4 ≤ sizeLine; decide), fun p hp => ?_⟩
    have s1 : Same H (upd H p (.lst [.int 0, .int (s.height : Int), .int (s.round : Int), .int (parts s.at_ : Nat)])) := same_new hp
    have e1 : upd H p (.lst [.int 0, .int (s.height : Int), .int (s.round : Int), .int (parts s.at_ : Nat)]) p = some (.lst [.int 0, .int (s.height : Int), .int (s.round : Int), .int (parts s.at_ : Nat)]) := upd_same
    generalize upd H p (.lst [.int 0, .int (s.height : Int), .int (s.round : Int), .int (parts s.at_ : Nat)]) = H1 at s1 e1 ⊢
    -- answer.extend(list(member.lock))
    refine ⟨_, rfl, .inl ⟨rfl, _, SqL.of e1⟩, _, rfl, a, C.M, dx, _, _, rfl, s1 _ _ A.at_, T.clM, T.nM_lock, lk_lock, t1, _, rfl, .inr (SqT.of (s1 _ _ A.lk.2)), fun p2 hp2 => ?_⟩
    have s2 : Same H1 (upd H1 p2 (.lst (lockV s.locked))) := same_new hp2
    refine ⟨p, p2, _, _, rfl, rfl, s2 _ _ e1, upd_same, (by rw [llen]; show 4 + 2 ≤ sizeLine; decide), ?_⟩
    have frame : ∀ {H2 : Hp} {xs : List V}, Same H H2 → Same H (upd H2 p (.lst xs)) := fun {H2 xs} h b o e => by
      have : b ≠ p := fun z => by rw [z, hp] at e; cases e
      rw [upd_ne this]
      exact h _ _ e
    have s3 := frame (xs := [V.int 0, V.int (s.height : Int), V.int (s.round : Int), V.int (parts s.at_ : Nat)] ++ lockV s.locked) (s1.trans s2)
    have e3 : upd (upd H1 p2 (.lst (lockV s.locked))) p (.lst ([V.int 0, V.int (s.height : Int), V.int (s.round : Int), V.int (parts s.at_ : Nat)] ++ lockV s.locked)) p = some (.lst ([V.int 0, V.int (s.height : Int), V.int (s.round : Int), V.int (parts s.at_ : Nat)] ++ lockV s.locked)) := upd_same
    generalize upd (upd H1 p2 (.lst (lockV s.locked))) p (.lst ([V.int 0, V.int (s.height : Int), V.int (s.round : Int), V.int (parts s.at_ : Nat)] ++ lockV s.locked)) = H3 at s3 e3 ⊢
    -- answer.extend(list(member.good))
    refine ⟨_, rfl, .inl ⟨rfl, _, SqL.of e3⟩, _, rfl, a, C.M, dx, _, _, rfl, s3 _ _ A.at_, T.clM, T.nM_good, lk_good, t2, _, rfl, .inr (SqT.of (s3 _ _ A.gd.2)), fun p4 hp4 => ?_⟩
    have s4 : Same H3 (upd H3 p4 (.lst (lockV s.good))) := same_new hp4
    refine ⟨p, p4, _, _, rfl, rfl, s4 _ _ e3, upd_same, (by rw [List.length_append, llen, llen]; show 4 + 2 + 2 ≤ sizeLine; decide), ?_⟩
    have s5 := frame (xs := [V.int 0, V.int (s.height : Int), V.int (s.round : Int), V.int (parts s.at_ : Nat)] ++ lockV s.locked ++ lockV s.good) (s3.trans s4)
    have e5 : upd (upd H3 p4 (.lst (lockV s.good))) p (.lst ([V.int 0, V.int (s.height : Int), V.int (s.round : Int), V.int (parts s.at_ : Nat)] ++ lockV s.locked ++ lockV s.good)) p = some (.lst ([V.int 0, V.int (s.height : Int), V.int (s.round : Int), V.int (parts s.at_ : Nat)] ++ lockV s.locked ++ lockV s.good)) := upd_same
    generalize upd (upd H3 p4 (.lst (lockV s.good))) p (.lst ([V.int 0, V.int (s.height : Int), V.int (s.round : Int), V.int (parts s.at_ : Nat)] ++ lockV s.locked ++ lockV s.good)) = H5 at s5 e5 ⊢
    -- answer.append(member.heard.kept)
    refine ⟨_, rfl, .inl ⟨rfl, _, SqL.of e5⟩, _, rfl, a, C.M, dx, _, _, rfl, s5 _ _ A.at_, T.clM, T.nM_heard, lk_heard, hd, C.H, dxh, _, _, rfl, s5 _ _ hh, T.clH, T.nH_kept, hF_kept _ _ _ _, p, _, _, rfl, rfl, e5, (by rw [List.length_append, List.length_append, llen, llen]; show 4 + 2 + 2 < sizeLine; decide), ?_⟩
    refine ⟨_, rfl, go _ R p ?_ ?_ (A.dom p hp) (Kp.same (frame s5))⟩
    · exact M.same (frame s5)
    · rw [upd_same]
      have ea : ansL s .state = [0, (s.height : Int), (s.round : Int), (parts s.at_ : Nat)] ++ (match s.locked with
        | some l => [(l.1 : Int), (l.2 : Int)]
        | none => [0, -1]) ++ (match s.good with
        | some l => [(l.1 : Int), (l.2 : Int)]
        | none => [0, -1]) ++ [(s.heard.length : Int)] := by
        unfold ansL
        show (0 : Int) :: [(s.height : Int), (s.round : Int), (match s.at_ with
          | .offering => 1
          | .first => 2
          | .second => 3), (match s.locked with
          | some l => (l.1 : Int)
          | none => 0), (match s.locked with
          | some l => (l.2 : Int)
          | none => -1), (match s.good with
          | some l => (l.1 : Int)
          | none => 0), (match s.good with
          | some l => (l.2 : Int)
          | none => -1), (s.heard.length : Int)] = _
        cases s.locked <;> cases s.good <;> cases s.at_ <;> rfl
      rw [ea]
      cases s.locked <;> cases s.good <;> rfl
end
end Ag
namespace Ag
open PySem PySem.Spec PyProof.Rows L2
open Md13 (Msg Heard)
/-! ### the member that there is -/
def PS (C : Cl) (H : Hp) (R : Rf) (pl : Addr) (s : Md13.St) : Prop := ∃ x dxp, H pl = some (.ins C.P dxp [("member", .ref x)]) ∧ R pl = some .plc ∧ MemAt C H R x s []
def PN (C : Cl) (H : Hp) (R : Rf) (pl : Addr) : Prop := ∃ dxp, H pl = some (.ins C.P dxp [("member", .non)]) ∧ R pl = some .plc ∧ Dom R H
theorem lkP (v : V) : ([("member", v)] : List (Str × V)).lookup ("member" : Str) = some v := lookup_zip (ks := ["member"]) (vs := [v]) (i := 0) (by decide +kernel) rfl
theorem PS.kp {S : List Nat} {C : Cl} {H H' : Hp} {R R' : Rf} {pl : Addr} {s : Md13.St} (A : PS C H R pl s) (K : Kp S R H R' H') (hs : ∀ g, g < 9 → g ∉ S) (dm : Dom R' H') : PS C H' R' pl s := by
  obtain ⟨x, dxp, e, r, M⟩ := A
  obtain ⟨e', r'⟩ := K.role e r (hs 8 (by decide))
  exact ⟨x, dxp, e', r', M.kp K (fun g hg => hs g (by omega)) dm⟩
theorem PN.kp {S : List Nat} {C : Cl} {H H' : Hp} {R R' : Rf} {pl : Addr} (A : PN C H R pl) (K : Kp S R H R' H') (hs : 8 ∉ S) (dm : Dom R' H') : PN C H' R' pl := by
  obtain ⟨dxp, e, r, _⟩ := A
  obtain ⟨e', r'⟩ := K.role e r hs
  exact ⟨dxp, e', r', dm⟩
theorem PS.dom {C : Cl} {H : Hp} {R : Rf} {pl : Addr} {s : Md13.St} (A : PS C H R pl s) : Dom R H := by
  obtain ⟨_, _, _, _, _, _, _, _, _, _, _, A⟩ := A
  exact A.dom
/-- which call it is -/
theorem callOf_cases {c : Int} {ns : List Int} {q : Md13.Call} (h : Md13Neutral.callOf [c :: ns] = some q) :
    (c = 1 ∧ ∃ n me mine, ns = [n, me, mine] ∧ q = .new_ n me mine) ∨ (c = 2 ∧ ∃ z, ns = [z] ∧ q = .offers z) ∨ (c = 3 ∧ ns = [] ∧ q = .begin_) ∨ (c = 4 ∧ ∃ who k h r v x, ns = [who, k, h, r, v, x] ∧ q = .hears who [k, h, r, v, x]) ∨
      (c = 5 ∧ ∃ p h r, ns = [p, h, r] ∧ q = .late p h r) ∨ (c = 6 ∧ ∃ z, ns = [z] ∧ q = .decided z) ∨ (c = 7 ∧ ns = [] ∧ q = .state) := by
  unfold Md13Neutral.callOf at h
  split at h
  · rename_i n me mine e; cases e; cases h; exact .inl ⟨rfl, _, _, _, rfl, rfl⟩
  · rename_i z e; cases e; cases h; exact .inr (.inl ⟨rfl, _, rfl, rfl⟩)
  · rename_i e; cases e; cases h; exact .inr (.inr (.inl ⟨rfl, rfl, rfl⟩))
  · rename_i e; cases e; cases h; exact .inr (.inr (.inr (.inl ⟨rfl, _, _, _, _, _, _, rfl, rfl⟩)))
  · rename_i e; cases e; cases h; exact .inr (.inr (.inr (.inr (.inl ⟨rfl, _, _, _, rfl, rfl⟩))))
  · rename_i e; cases e; cases h; exact .inr (.inr (.inr (.inr (.inr (.inl ⟨rfl, _, rfl, rfl⟩)))))
  · rename_i e; cases e; cases h; exact .inr (.inr (.inr (.inr (.inr (.inr ⟨rfl, rfl, rfl⟩)))))
  · cases h
theorem answer_new (s : Md13.St) (n me mine : Int) : Md13.answer s (.new_ n me mine) = (if Md13.between n 4 32 = false ∨ Md13.between me 0 (n.toNat - 1) = false ∨ Md13.between mine 1 2147483647 = false then (s, Md13.only (-1)) else (Md13.made n.toNat me.toNat mine.toNat, Md13.only 0)) := rfl
section
variable {P : Program} {w : World} {K : PySem.W.Frag} {mg : Str → Option Value} {base : Heap} {C : Cl}
/-! ### answer_of -/
def spAnswerOf (K : PySem.W.Frag) (C : Cl) : Sp := fun vs H Q _ => ∃ (pl nb : Addr) (c : Int) (ns : List Int) (R : Rf) (s : Md13.St) (i : Nat) (q : Md13.Call), vs = [.ref pl, .int c, .ref nb] ∧ SqL K H nb (ns.map V.int) ∧ Md13Neutral.callOf [c :: ns] = some q ∧
  ((PS C H R pl s ∧ Good s i ∧ i ≤ 4000) ∨ (PN C H R pl ∧ ∃ n me mine, q = .new_ n me mine ∧ Md13.between n 4 32 = true ∧ Md13.between me 0 (n.toNat - 1) = true ∧ Md13.between mine 1 2147483647 = true)) ∧
  ∀ H' R' p, PS C H' R' pl (Md13.answer s q).1 → H' p = some (.lst ((ansL s q).map V.int)) → R' p = none → Ky R H R' H' → Q (.ref p) H'
theorem ok_answer_of (T : Txt K mg C) {f : Addr} {fd : FuncData} (F : Fun K "answer_of" "answer_of" s_answer_of f fd) (f_new : FK P w K mg base "new" 6 ["place", "numbers"] (spNew K C)) (f_offers : FK P w K mg base "offers" 2 ["member", "mine"] (spOffers C))
    (f_begin : FK P w K mg base "begin" 6 ["member"] (spBeginA C)) (f_hears : FK P w K mg base "hears" 6 ["member", "numbers"] (spHearsA K C)) (f_late : FK P w K mg base "late" 6 ["member", "numbers"] (spLateA K C))
    (f_decided : FK P w K mg base "decided" 2 ["member", "height"] (spDecidedA C)) (f_state : FK P w K mg base "state" 1 ["member"] (spStateA C)) :
    FnOk P w K mg base CX0 7 f fd ["place", "call", "numbers"] (spAnswerOf K C) := by
  refine F.ok sc_answer_of (fun vs H Q E h => ?_) (fun cdv A outer s0 H vs Q E hr h => ?_)
  · obtain ⟨pl, nb, c, ns, R, s, i, q, rfl, _⟩ := h
    rfl
  · obtain ⟨pl, nb, c, ns, R, s, i, q, rfl, hnb, hq, hst, go⟩ := h
    refine ⟨_, (pss_cons (ps_if (pt_cmpR op_eq (pv 1) pe_int (nomark _))
  (pss_one (ps_ret (pcall f_new (hr.mono (by decide)) (by rfl) (pa_cons (pv 0) (pa_cons (pv 2) pa_nil)))))
  pss_nil)
  (pss_cons (ps_if (pt_cmpR op_eq (pv 1) pe_int (nomark _))
  (pss_one (ps_ret (pcall f_offers (hr.mono (by decide)) (by rfl) (pa_cons (pe_fld (pv 0) rfl) (pa_cons (pe_ix ix_list (pv 2) pe_int (fun _ _ => rfl)) pa_nil)))))
  pss_nil)
  (pss_cons (ps_if (pt_cmpR op_eq (pv 1) pe_int (nomark _))
  (pss_one (ps_ret (pcall f_begin (hr.mono (by decide)) (by rfl) (pa_cons (pe_fld (pv 0) rfl) pa_nil))))
  pss_nil)
  (pss_cons (ps_if (pt_cmpR op_eq (pv 1) pe_int (nomark _))
  (pss_one (ps_ret (pcall f_hears (hr.mono (by decide)) (by rfl) (pa_cons (pe_fld (pv 0) rfl) (pa_cons (pv 2) pa_nil)))))
  pss_nil)
  (pss_cons (ps_if (pt_cmpR op_eq (pv 1) pe_int (nomark _))
  (pss_one (ps_ret (pcall f_late (hr.mono (by decide)) (by rfl) (pa_cons (pe_fld (pv 0) rfl) (pa_cons (pv 2) pa_nil)))))
  pss_nil)
  (pss_cons (ps_if (pt_cmpR op_eq (pv 1) pe_int (nomark _))
  (pss_one (ps_ret (pcall f_decided (hr.mono (by decide)) (by rfl) (pa_cons (pe_fld (pv 0) rfl) (pa_cons (pe_ix ix_list (pv 2) pe_int (fun _ _ => rfl)) pa_nil)))))
  pss_nil)
  (pss_one (ps_ret (pcall f_state (hr.mono (by decide)) (by rfl) (pa_cons (pe_fld (pv 0) rfl) pa_nil)))))))))), ?_⟩
    -- a call about a member that there is
    have about : q = q → ∀ x dxp, H pl = some (.ins C.P dxp [("member", .ref x)]) → R pl = some .plc → After C R H x s q Q := fun _ x dxp e r H' R' p M' ep rp K' => by
      obtain ⟨e', r'⟩ := K'.role e r (by decide)
      exact go H' R' p ⟨x, dxp, e', r', M'⟩ ep rp (K'.mono (by decide))
    rcases callOf_cases hq with ⟨rfl, n, me, mine, rfl, rfl⟩ | ⟨rfl, z, rfl, rfl⟩ | ⟨rfl, rfl, rfl⟩ | ⟨rfl, who, k, h, r, v, x6, rfl, rfl⟩ | ⟨rfl, p, h, r, rfl, rfl⟩ | ⟨rfl, z, rfl, rfl⟩ | ⟨rfl, rfl, rfl⟩
    · refine ⟨_, rfl, rfl, _, rfl, isT rfl ?_⟩
      refine ⟨_, rfl, _, rfl, ?_⟩
      have fin : ∀ dxp mv, H pl = some (.ins C.P dxp [("member", mv)]) → R pl = some .plc → Dom R H → (¬ (Md13.between n 4 32 = true ∧ Md13.between me 0 (n.toNat - 1) = true ∧ Md13.between mine 1 2147483647 = true) → PS C H R pl s) → spNew K C [.ref pl, .ref nb] H Q E0 := fun dxp mv e r dm hbad => by
        refine ⟨pl, dxp, nb, mv, n, me, mine, R, rfl, e, r, dm, hnb, fun hno p hp => ?_, fun hyes H' R' x p M' e' r' ep rp K' => ?_⟩
        · have ea : Md13.answer s (.new_ n me mine) = (s, Md13.only (-1)) := by
            rw [answer_new, if_pos]
            by_cases c1 : Md13.between n 4 32 = true
            · by_cases c2 : Md13.between me 0 (n.toNat - 1) = true
              · refine .inr (.inr ?_)
                cases z : Md13.between mine 1 2147483647 with
                | false => rfl
                | true => exact absurd ⟨c1, c2, z⟩ hno
              · exact .inr (.inl (by cases z : Md13.between me 0 (n.toNat - 1) with
                  | false => rfl
                  | true => exact absurd z c2))
            · exact .inl (by cases z : Md13.between n 4 32 with
                | false => rfl
                | true => exact absurd z c1)
          have s2 : Same H (upd H p (.lst [.int (-1)])) := same_new hp
          refine go _ R p ?_ ?_ (dm p hp) (Kp.same s2)
          · rw [ea]
            exact (hbad hno).kp (Kp.same (S := []) s2) (fun g _ => by simp) (dm.same s2)
          · unfold ansL
            rw [ea, upd_same]
            rfl
        · have ea : Md13.answer s (.new_ n me mine) = (Md13.made n.toNat me.toNat mine.toNat, Md13.only 0) := by
            rw [answer_new, if_neg]
            rintro (z | z | z)
            · rw [hyes.1] at z; cases z
            · rw [hyes.2.1] at z; cases z
            · rw [hyes.2.2] at z; cases z
          refine go H' R' p ?_ ?_ rp K'
          · rw [ea]
            exact ⟨x, dxp, e', r', M'⟩
          · unfold ansL
            rw [ea]
            exact ep
      rcases hst with ⟨ps, _, _⟩ | ⟨⟨dxp, e, r, dm⟩, n', me', mine', eq, acc⟩
      · obtain ⟨x, dxp, e, r, M⟩ := id ps
        exact fin dxp _ e r ps.dom fun _ => ps
      · cases eq
        exact fin dxp _ e r dm fun hno => absurd acc hno
    · rcases hst with ⟨ps, g, hi⟩ | ⟨_, _, _, _, eq, _⟩
      case inr => cases eq
      obtain ⟨x, dxp, e, r, M⟩ := ps
      refine ⟨_, rfl, rfl, _, rfl, isF rfl ?_⟩
      refine ⟨_, rfl, rfl, _, rfl, isT rfl ?_⟩
      refine ⟨_, rfl, pl, C.P, dxp, _, _, rfl, e, T.clP, T.nP_member, lkP _, _, rfl, nb, _, 0, .int z, rfl, rfl, hnb, atI_nat (j := 0) rfl, ?_⟩
      exact ⟨x, R, s, z, rfl, M, about rfl x dxp e r⟩
    · rcases hst with ⟨ps, g, hi⟩ | ⟨_, _, _, _, eq, _⟩
      case inr => cases eq
      obtain ⟨x, dxp, e, r, M⟩ := ps
      refine ⟨_, rfl, rfl, _, rfl, isF rfl ?_⟩
      refine ⟨_, rfl, rfl, _, rfl, isF rfl ?_⟩
      refine ⟨_, rfl, rfl, _, rfl, isT rfl ?_⟩
      refine ⟨_, rfl, pl, C.P, dxp, _, _, rfl, e, T.clP, T.nP_member, lkP _, ?_⟩
      exact ⟨x, R, s, i, rfl, M, g, hi, about rfl x dxp e r⟩
    · rcases hst with ⟨ps, g, hi⟩ | ⟨_, _, _, _, eq, _⟩
      case inr => cases eq
      obtain ⟨x, dxp, e, rr, M⟩ := ps
      refine ⟨_, rfl, rfl, _, rfl, isF rfl ?_⟩
      refine ⟨_, rfl, rfl, _, rfl, isF rfl ?_⟩
      refine ⟨_, rfl, rfl, _, rfl, isF rfl ?_⟩
      refine ⟨_, rfl, rfl, _, rfl, isT rfl ?_⟩
      refine ⟨_, rfl, pl, C.P, dxp, _, _, rfl, e, T.clP, T.nP_member, lkP _, _, rfl, ?_⟩
      exact ⟨x, nb, R, s, i, who, k, h, r, v, x6, rfl, M, hnb, g, hi, about rfl x dxp e rr⟩
    · rcases hst with ⟨ps, g, hi⟩ | ⟨_, _, _, _, eq, _⟩
      case inr => cases eq
      obtain ⟨x, dxp, e, rr, M⟩ := ps
      refine ⟨_, rfl, rfl, _, rfl, isF rfl ?_⟩
      refine ⟨_, rfl, rfl, _, rfl, isF rfl ?_⟩
      refine ⟨_, rfl, rfl, _, rfl, isF rfl ?_⟩
      refine ⟨_, rfl, rfl, _, rfl, isF rfl ?_⟩
      refine ⟨_, rfl, rfl, _, rfl, isT rfl ?_⟩
      refine ⟨_, rfl, pl, C.P, dxp, _, _, rfl, e, T.clP, T.nP_member, lkP _, _, rfl, ?_⟩
      exact ⟨x, nb, R, s, i, p, h, r, rfl, M, hnb, g, hi, about rfl x dxp e rr⟩
    · rcases hst with ⟨ps, g, hi⟩ | ⟨_, _, _, _, eq, _⟩
      case inr => cases eq
      obtain ⟨x, dxp, e, r, M⟩ := ps
      refine ⟨_, rfl, rfl, _, rfl, isF rfl ?_⟩
      refine ⟨_, rfl, rfl, _, rfl, isF rfl ?_⟩
      refine ⟨_, rfl, rfl, _, rfl, isF rfl ?_⟩
      refine ⟨_, rfl, rfl, _, rfl, isF rfl ?_⟩
      refine ⟨_, rfl, rfl, _, rfl, isF rfl ?_⟩
      refine ⟨_, rfl, rfl, _, rfl, isT rfl ?_⟩
      refine ⟨_, rfl, pl, C.P, dxp, _, _, rfl, e, T.clP, T.nP_member, lkP _, _, rfl, nb, _, 0, .int z, rfl, rfl, hnb, atI_nat (j := 0) rfl, ?_⟩
      exact ⟨x, R, s, z, rfl, M, about rfl x dxp e r⟩
    · rcases hst with ⟨ps, g, hi⟩ | ⟨_, _, _, _, eq, _⟩
      case inr => cases eq
      obtain ⟨x, dxp, e, r, M⟩ := ps
      refine ⟨_, rfl, rfl, _, rfl, isF rfl ?_⟩
      refine ⟨_, rfl, rfl, _, rfl, isF rfl ?_⟩
      refine ⟨_, rfl, rfl, _, rfl, isF rfl ?_⟩
      refine ⟨_, rfl, rfl, _, rfl, isF rfl ?_⟩
      refine ⟨_, rfl, rfl, _, rfl, isF rfl ?_⟩
      refine ⟨_, rfl, rfl, _, rfl, isF rfl ?_⟩
      refine ⟨_, rfl, pl, C.P, dxp, _, _, rfl, e, T.clP, T.nP_member, lkP _, ?_⟩
      exact ⟨x, R, s, rfl, M, about rfl x dxp e r⟩
/-! ### answers -/
theorem numbers_at {p : Int} (h : 1 ≤ p ∧ p ≤ 7) : atI ([.int 0, .int 3, .int 1, .int 0, .int 6, .int 3, .int 1, .int 0] : List V) p = some (.int (argc p : Nat)) := by
  have hp : p = 1 ∨ p = 2 ∨ p = 3 ∨ p = 4 ∨ p = 5 ∨ p = 6 ∨ p = 7 := by omega
  rcases hp with rfl | rfl | rfl | rfl | rfl | rfl | rfl
  · exact atI_nat (j := 1) rfl
  · exact atI_nat (j := 2) rfl
  · exact atI_nat (j := 3) rfl
  · exact atI_nat (j := 4) rfl
  · exact atI_nat (j := 5) rfl
  · exact atI_nat (j := 6) rfl
  · exact atI_nat (j := 7) rfl
theorem cut_at {L : List Int} {a b : Nat} (h : a ≤ b) (hb : b ≤ L.length) : cutV (L.map V.int) (some (a : Int)) (some (b : Int)) = ((L.drop a).take (b - a)).map V.int := by
  unfold cutV
  rw [HT.sIx_nat, HT.sIx_nat, List.length_map, Nat.min_eq_left (show a ≤ L.length by omega), Nat.min_eq_left hb, ← List.map_drop, ← List.map_take]
def spAnswers (K : PySem.W.Frag) : Sp := fun vs H Q _ => ∃ (a : Addr) (L : List Int), vs = [.ref a] ∧ SqL K H a (L.map V.int) ∧ PyMd13.answers_asked L = true ∧ ∀ (H' : Hp) (p : Addr), H' p = some (.lst ((PyMd13.answers L).map V.int)) → Q (.ref p) H'
theorem ok_answers (T : Txt K mg C) {f : Addr} {fd : FuncData} (F : Fun K "answers" "answers" s_answers f fd) (k_P_init : IK P w K mg base C.P 1 ["self"] (spPInit C)) (f_answer_of : FK P w K mg base "answer_of" 7 ["place", "call", "numbers"] (spAnswerOf K C)) :
    FnOk P w K mg base CX0 8 f fd ["calls"] (spAnswers K) := by
  refine F.ok sc_answers (fun vs H Q E h => ?_) (fun cdv A outer s0 H vs Q E hr h => ?_)
  · obtain ⟨a, L, rfl, _⟩ := h
    rfl
  · obtain ⟨a, L, rfl, hL, hask, go⟩ := h
    refine ⟨_, (pss_cons (ps_set (i := 1) sc_answers.nd rfl (Or.inl rfl) (pmake0 k_P_init (hr.mono (by decide)) (by rfl) T.gPlace))
  (pss_cons (ps_set (i := 2) sc_answers.nd rfl (Or.inl rfl) (pe_lst pa_nil))
  (pss_cons (ps_set (i := 3) sc_answers.nd rfl (Or.inl rfl) pe_int)
  (pss_cons (ps_while PassesOwn.never (pt_cmpR op_lt (pv 3) (pe_callB call_len_seq (by rfl) T.b_len PySem.boot_len (pa_cons (pv 0) pa_nil)) (nomark _))
  (pss_cons (ps_set (i := 4) sc_answers.nd rfl (Or.inl rfl) (pe_ix ix_list (pv 0) (pv 3) (fun _ _ => rfl)))
  (pss_cons (ps_set (i := 5) sc_answers.nd rfl (Or.inl rfl) (pe_op op_add (pe_op op_add (pv 3) pe_int) (pe_ix ix_tup (pe_glob (v := V.ref C.N) rfl T.gNUMBERS rfl) (pv 4) (fun _ _ => rfl))))
  (pss_cons (ps_set (i := 6) sc_answers.nd rfl (Or.inl rfl) (pcall f_answer_of (hr.mono (by decide)) (by rfl) (pa_cons (pv 1) (pa_cons (pv 4) (pa_cons (pe_slice sl_list (pv 0) (po_some (pe_op op_add (pv 3) pe_int)) (po_some (pv 5))) pa_nil)))))
  (pss_cons (ps_set (i := 3) sc_answers.nd rfl (Or.inl rfl) (pv 5))
  (pss_cons (ps_expr (pe_bm PySem.F.plainAttrs_list PySem.F.slot_list_append PySem.F.type_list_append mt_append (pv 2) (pa_cons (pe_callB call_len_seq (by rfl) T.b_len PySem.boot_len (pa_cons (pv 6) pa_nil)) pa_nil)))
  (pss_one (ps_expr (pe_bm PySem.F.plainAttrs_list PySem.F.slot_list_extend PySem.F.type_list_extend mt_extend (pv 2) (pa_cons (pv 6) pa_nil))))))))))
  (pss_one (ps_ret (pv 2))))))), ?_⟩
    obtain ⟨raw, hraw, hne, h4000, hbeg, hans, hlen⟩ := asked_is hask
    -- place = Place()
    intro pl dxp npl ndx nex
    have s1 : Same H (upd H dxp (.own pl)) := same_new ndx
    have npl1 : upd H dxp (.own pl) pl = none := by rw [upd_ne (Ne.symm nex)]; exact npl
    refine ⟨pl, dxp, rfl, upd_same, rfl, ?_⟩
    rw [upd_upd]
    have s2 : Same H (upd (upd H dxp (.own pl)) pl (.ins C.P dxp [("member", .non)])) := s1.trans (same_new npl1)
    have epl : upd (upd H dxp (.own pl)) pl (.ins C.P dxp [("member", .non)]) pl = some (.ins C.P dxp [("member", .non)]) := upd_same
    have d2 : Dom (setR (fun _ => none) pl .plc) (upd (upd H dxp (.own pl)) pl (.ins C.P dxp [("member", .non)])) := Dom.newR (R := fun _ => none) (fun _ _ => rfl)
    generalize upd (upd H dxp (.own pl)) pl (.ins C.P dxp [("member", .non)]) = H1 at s2 epl d2 ⊢
    -- found = []; start = 0
    refine ⟨Nat.zero_le _, fun fo hfo => ?_⟩
    have nfo : pl ≠ fo := ne_of_none epl hfo
    have s3 : Same H (upd H1 fo (.lst [])) := s2.trans (same_new hfo)
    have npl0 : ∀ b o, H b = some o → b ≠ pl := fun b o e => ne_of_none e npl
    have nfo0 : ∀ b o, H b = some o → b ≠ fo := fun b o e => ne_of_none (s2 _ _ e) hfo
    refine ⟨fun m σ H' => ∃ (R' : Rf) (s : Md13.St) (i pos fl : Nat) (found : List Int) (rest : List (List (List Int))) (y4 y5 y6 : Option V), σ = [some (.ref a), some (.ref pl), some (.ref fo), some (.int (pos : Int)), y4, y5, y6] ∧
        (∀ b o, H b = some o → H' b = some o ∧ R' b = none) ∧ (R' fo = some .fnd ∧ H' fo = some (.lst (found.map V.int))) ∧ PyFlat.calls PyMd13.shape fl (L.drop pos) = some rest ∧ pos ≤ L.length ∧ i + rest.length ≤ 4000 ∧
        found ++ tellAll s rest = PyMd13.answers L ∧ ((PS C H' R' pl s ∧ Good s i) ∨ (PN C H' R' pl ∧ ∃ c, rest.head? = some c ∧ Md13Neutral.begins c = true)) ∧ m = rest.length,
      ⟨raw.length, setR (setR (fun _ => none) pl .plc) fo .fnd, Md13Neutral.start, 0, 0, L.length, [], raw, none, none, none, rfl, fun b o e => ⟨s3 _ _ e, by rw [setR_ne (nfo0 b o e), setR_ne (npl0 b o e)]⟩, ⟨setR_same, upd_same⟩, hraw, Nat.zero_le _, by omega, hans.symm,
        .inr ⟨⟨dxp, by rw [upd_ne nfo]; exact epl, by rw [setR_ne nfo]; exact setR_same, d2.newR⟩, hbeg⟩, rfl⟩, ?_⟩
    rintro m σ H2 ⟨R2, s, i, pos, fl, found, rest, y4, y5, y6, rfl, F2, ⟨rfo, efo⟩, hc, hpos, hi, htot, hst, rfl⟩
    have hL2 : SqL K H2 a (L.map V.int) := by
      rcases hL with (z | ⟨o, z⟩) | z
      · exact .inl (.inl (F2 _ _ z).1)
      · exact .inl (.inr ⟨o, (F2 _ _ z).1⟩)
      · exact .inr z
    have dm2 : Dom R2 H2 := by
      rcases hst with ⟨ps, _⟩ | ⟨⟨_, _, _, d⟩, _⟩
      · exact ps.dom
      · exact d
    refine ⟨_, rfl, _, rfl, a, _, rfl, .inl hL2, _, _, rfl, rfl, _, rfl, ?_⟩
    by_cases clt : pos < L.length
    case neg =>
      refine isF (decide_eq_false (by rw [List.length_map]; omega)) ?_
      have e0 : L.drop pos = [] := List.drop_eq_nil_of_le (by omega)
      rw [e0] at hc
      have hr0 := calls_nil hc
      subst hr0
      rw [tell_nil, List.append_nil] at htot
      refine ⟨_, rfl, go H2 fo ?_⟩
      rw [← htot]
      exact efo
    refine isT (decide_eq_true (by rw [List.length_map]; omega)) ?_
    refine ⟨fun σ' H' => ∃ m', m' < rest.length ∧ ∃ (R' : Rf) (s : Md13.St) (i pos fl : Nat) (found : List Int) (rest : List (List (List Int))) (y4 y5 y6 : Option V), σ' = [some (.ref a), some (.ref pl), some (.ref fo), some (.int (pos : Int)), y4, y5, y6] ∧
        (∀ b o, H b = some o → H' b = some o ∧ R' b = none) ∧ (R' fo = some .fnd ∧ H' fo = some (.lst (found.map V.int))) ∧ PyFlat.calls PyMd13.shape fl (L.drop pos) = some rest ∧ pos ≤ L.length ∧ i + rest.length ≤ 4000 ∧
        found ++ tellAll s rest = PyMd13.answers L ∧ ((PS C H' R' pl s ∧ Good s i) ∨ (PN C H' R' pl ∧ ∃ c, rest.head? = some c ∧ Md13Neutral.begins c = true)) ∧ m' = rest.length, fun σ' H' h => h, ?_⟩
    -- the call
    have edrop : L.drop pos = L[pos] :: L.drop (pos + 1) := List.drop_eq_getElem_cons clt
    have eget : L[pos]? = some L[pos] := List.getElem?_eq_getElem clt
    generalize L[pos] = p at edrop eget
    rw [edrop] at hc
    obtain ⟨fl', rest', hp, hargc, rfl, hc'⟩ := calls_cons hc
    rw [List.length_drop] at hargc
    have hq' : ((L.drop (pos + 1)).take (argc p)).length = argc p := by rw [List.length_take, List.length_drop]; omega
    obtain ⟨q, hq⟩ := callOf_some hp hq'
    rw [tell_cons hq] at htot
    have htl : found.length + ((ansL s q).length + 1) ≤ 10000000 := by
      have := congrArg List.length htot
      rw [List.length_append, List.length_cons, List.length_append] at this
      omega
    -- call = calls[start]
    refine ⟨_, rfl, _, rfl, a, _, (pos : Int), .int p, rfl, rfl, hL2, atI_nat (j := pos) (by rw [List.getElem?_map, eget]; rfl), ?_⟩
    -- behind = start + 1 + NUMBERS[call]
    refine ⟨_, rfl, _, _, rfl, rfl, _, rfl, C.N, _, p, .int (argc p : Nat), rfl, rfl, T.tNUMBERS H2, numbers_at hp, _, _, rfl, rfl, ?_⟩
    -- answer = answer_of(place, call, calls[start + 1:behind])
    refine ⟨_, rfl, _, rfl, _, rfl, _, rfl, _, _, rfl, rfl, _, rfl, _, rfl, _, rfl, a, _, rfl, hL2, fun nb hnb => ?_⟩
    have ecut : cutV (L.map V.int) (some ((pos : Int) + 1)) (some ((pos : Int) + 1 + (argc p : Nat))) = ((L.drop (pos + 1)).take (argc p)).map V.int := by
      have := cut_at (L := L) (a := pos + 1) (b := pos + 1 + argc p) (by omega) (by omega)
      rw [show (pos + 1 + argc p) - (pos + 1) = argc p by omega] at this
      exact this
    have s4 : Same H2 (upd H2 nb (.lst (cutV (L.map V.int) (some ((pos : Int) + 1)) (some ((pos : Int) + 1 + (argc p : Nat)))))) := same_new hnb
    have enb : upd H2 nb (.lst (cutV (L.map V.int) (some ((pos : Int) + 1)) (some ((pos : Int) + 1 + (argc p : Nat))))) nb = some (.lst (((L.drop (pos + 1)).take (argc p)).map V.int)) := by rw [ecut]; exact upd_same
    have dm4 := dm2.same s4
    have K4 : Kp [] R2 H2 R2 _ := Kp.same s4
    have hst4 : ((PS C (upd H2 nb (.lst (cutV (L.map V.int) (some ((pos : Int) + 1)) (some ((pos : Int) + 1 + (argc p : Nat)))))) R2 pl s ∧ Good s i ∧ i ≤ 4000) ∨ (PN C (upd H2 nb (.lst (cutV (L.map V.int) (some ((pos : Int) + 1)) (some ((pos : Int) + 1 + (argc p : Nat)))))) R2 pl ∧ ∃ n me mine, q = .new_ n me mine ∧ Md13.between n 4 32 = true ∧ Md13.between me 0 (n.toNat - 1) = true ∧ Md13.between mine 1 2147483647 = true)) := by
      rcases hst with ⟨ps, g⟩ | ⟨pn, c, hc1, hc2⟩
      · exact .inl ⟨ps.kp K4 (fun g _ => by simp) dm4, g, by omega⟩
      · refine .inr ⟨pn.kp K4 (by simp) dm4, ?_⟩
        cases hc1
        obtain ⟨n, me, mine, e1, e2⟩ := begins_new hc2
        rw [hq] at e1
        exact ⟨n, me, mine, Option.some.inj e1, e2⟩
    have hgood : Good (Md13.answer s q).1 (i + 1) := by
      rcases hst4 with ⟨_, g, h⟩ | ⟨_, n, me, mine, rfl, h1, h2, h3⟩
      · exact g.answer (by omega) q
      · have e : Md13.answer s (.new_ n me mine) = Md13.answer (Md13.made 4 0 1) (.new_ n me mine) := by
          rw [answer_new, answer_new]
          rw [if_neg, if_neg]
          · rintro (z | z | z)
            · rw [h1] at z; cases z
            · rw [h2] at z; cases z
            · rw [h3] at z; cases z
          · rintro (z | z | z)
            · rw [h1] at z; cases z
            · rw [h2] at z; cases z
            · rw [h3] at z; cases z
        rw [e]
        have g0 : Good (Md13.made 4 0 1) i := ⟨made_ok (by decide) (by decide) (by decide) (by decide), fun z => (nomatch z), fun _ => rfl, Nat.zero_le _, Nat.zero_le _⟩
        exact g0.answer (by simp at hi; omega) _
    generalize upd H2 nb (.lst (cutV (L.map V.int) (some ((pos : Int) + 1)) (some ((pos : Int) + 1 + (argc p : Nat))))) = H4 at s4 enb dm4 K4 hst4 ⊢
    refine ⟨pl, nb, p, (L.drop (pos + 1)).take (argc p), R2, s, i, q, rfl, SqL.of enb, hq, hst4, fun H5 R5 pa ps5 epa rpa K5 => ?_⟩
    have K25 : Kp [0, 1, 2, 3, 4, 5, 6, 7, 8] R2 H2 R5 H5 := (K4.mono (by simp)).trans K5
    have hfo5 := K25.role efo rfo (by decide)
    have F5 : ∀ b o, H b = some o → H5 b = some o ∧ R5 b = none := fun b o e => K25.bare (F2 b o e).1 (F2 b o e).2
    have npa : pa ≠ fo := fun z => by rw [z, hfo5.2] at rpa; cases rpa
    -- start = behind
    refine ⟨_, rfl, ?_⟩
    -- found.append(len(answer))
    refine ⟨_, rfl, .inl ⟨rfl, _, SqL.of hfo5.1⟩, _, rfl, pa, _, rfl, .inl (SqL.of epa), fo, _, _, rfl, rfl, hfo5.1, (by rw [List.length_map]; exact big (by omega)), ?_⟩
    have K6 : Kp [9] R5 H5 R5 (upd H5 fo (.lst (found.map V.int ++ [.int ((((ansL s q).map V.int).length : Nat) : Int)]))) := Kp.upd hfo5.2 (by decide)
    -- found.extend(answer)
    refine ⟨_, rfl, .inl ⟨rfl, _, SqL.of upd_same⟩, _, rfl, fo, pa, _, _, rfl, rfl, upd_same, (by rw [upd_ne npa]; exact epa), ?_, ?_⟩
    · rw [List.length_append, List.length_map, List.length_map]
      exact Nat.le_of_lt (big (by show found.length + 1 + (ansL s q).length ≤ 10000000; omega))
    rw [upd_upd]
    have K7 : Kp [9] R5 H5 R5 (upd H5 fo (.lst ((found.map V.int ++ [.int ((((ansL s q).map V.int).length : Nat) : Int)]) ++ (ansL s q).map V.int))) := Kp.upd hfo5.2 (by decide)
    refine ⟨rest'.length, by rw [List.length_cons]; omega, R5, (Md13.answer s q).1, i + 1, pos + 1 + argc p, fl', found ++ (((ansL s q).length : Int) :: ansL s q), rest', _, _, _, rfl, fun b o e => K7.bare (F5 b o e).1 (F5 b o e).2, ⟨hfo5.2, ?_⟩, ?_, by omega, by rw [List.length_cons] at hi; omega, ?_, .inl ⟨ps5.kp K7 ?_ ps5.dom.upd, hgood⟩, rfl⟩
    · rw [upd_same, List.map_append, List.length_map, List.map_cons, List.append_assoc]
      rfl
    · rw [List.drop_drop] at hc'
      exact hc'
    · rw [List.append_assoc]
      exact htot
    · intro g hg z
      rw [List.mem_singleton.mp z] at hg
      exact absurd hg (by decide)
end
end Ag
namespace Ag
open PySem PySem.Spec PyProof.Rows L2
/-! ### the end: what the top has left -/
theorem all_mk {P : Program} {w : World} {K : PySem.W.Frag} {h : Heap} {mg : Str → Option Value} {fa CH CM CP CN : Addr} {f_H_init f_H_hear f_H_votes f_H_voters f_H_offer f_H_loud_round f_M_init f_M_stand_at f_M_offerer f_M_offer f_M_say f_M_wait f_M_begin_round f_M_vote_first f_M_vote_second f_M_has_enough f_decide f_catch_up f_is_backed f_answer_offer f_lock_on_offer f_give_up f_wait_for_first f_wait_for_second f_keep_rules f_be_late f_P_init f_is_value f_is_height f_is_round f_new f_offers f_told f_begin f_is_message f_hears f_late f_decided f_state f_answer_of f_answers : Addr} (X : K.In h) (G : h.Ns mainGlobals mg) (hfa : mg "answers" = some (.ref fa))
    {odN od_H_init an_H_init od_H_hear an_H_hear od_H_votes an_H_votes od_H_voters an_H_voters od_H_offer an_H_offer od_H_loud_round an_H_loud_round od_M_init an_M_init od_M_stand_at an_M_stand_at od_M_offerer an_M_offerer od_M_offer an_M_offer od_M_say an_M_say od_M_wait an_M_wait od_M_begin_round an_M_begin_round od_M_vote_first an_M_vote_first od_M_vote_second an_M_vote_second od_M_has_enough an_M_has_enough od_decide an_decide od_catch_up an_catch_up od_is_backed an_is_backed od_answer_offer an_answer_offer od_lock_on_offer an_lock_on_offer od_give_up an_give_up od_wait_for_first an_wait_for_first od_wait_for_second an_wait_for_second od_keep_rules an_keep_rules od_be_late an_be_late od_P_init an_P_init od_is_value an_is_value od_is_height an_is_height od_is_round an_is_round od_new an_new od_offers an_offers od_told an_told od_begin an_begin od_is_message an_is_message od_hears an_hears od_late an_late od_decided an_decided od_state an_state od_answer_of an_answer_of od_answers an_answers : Option Addr} {slN sl_H_init sl_H_hear sl_H_votes sl_H_voters sl_H_offer sl_H_loud_round sl_M_init sl_M_stand_at sl_M_offerer sl_M_offer sl_M_say sl_M_wait sl_M_begin_round sl_M_vote_first sl_M_vote_second sl_M_has_enough sl_decide sl_catch_up sl_is_backed sl_answer_offer sl_lock_on_offer sl_give_up sl_wait_for_first sl_wait_for_second sl_keep_rules sl_be_late sl_P_init sl_is_value sl_is_height sl_is_round sl_new sl_offers sl_told sl_begin sl_is_message sl_hears sl_late sl_decided sl_state sl_answer_of sl_answers : Array (Option Value)} {oc_H_init kV_H_init dc_H_init pm_H_init cd_H_init ct_H_init oc_H_hear kV_H_hear dc_H_hear pm_H_hear cd_H_hear ct_H_hear oc_H_votes kV_H_votes dc_H_votes pm_H_votes cd_H_votes ct_H_votes oc_H_voters kV_H_voters dc_H_voters pm_H_voters cd_H_voters ct_H_voters oc_H_offer kV_H_offer dc_H_offer pm_H_offer cd_H_offer ct_H_offer oc_H_loud_round kV_H_loud_round dc_H_loud_round pm_H_loud_round cd_H_loud_round ct_H_loud_round oc_M_init kV_M_init dc_M_init pm_M_init cd_M_init ct_M_init oc_M_stand_at kV_M_stand_at dc_M_stand_at pm_M_stand_at cd_M_stand_at ct_M_stand_at oc_M_offerer kV_M_offerer dc_M_offerer pm_M_offerer cd_M_offerer ct_M_offerer oc_M_offer kV_M_offer dc_M_offer pm_M_offer cd_M_offer ct_M_offer oc_M_say kV_M_say dc_M_say pm_M_say cd_M_say ct_M_say oc_M_wait kV_M_wait dc_M_wait pm_M_wait cd_M_wait ct_M_wait oc_M_begin_round kV_M_begin_round dc_M_begin_round pm_M_begin_round cd_M_begin_round ct_M_begin_round oc_M_vote_first kV_M_vote_first dc_M_vote_first pm_M_vote_first cd_M_vote_first ct_M_vote_first oc_M_vote_second kV_M_vote_second dc_M_vote_second pm_M_vote_second cd_M_vote_second ct_M_vote_second oc_M_has_enough kV_M_has_enough dc_M_has_enough pm_M_has_enough cd_M_has_enough ct_M_has_enough oc_decide kV_decide dc_decide pm_decide cd_decide ct_decide oc_catch_up kV_catch_up dc_catch_up pm_catch_up cd_catch_up ct_catch_up oc_is_backed kV_is_backed dc_is_backed pm_is_backed cd_is_backed ct_is_backed oc_answer_offer kV_answer_offer dc_answer_offer pm_answer_offer cd_answer_offer ct_answer_offer oc_lock_on_offer kV_lock_on_offer dc_lock_on_offer pm_lock_on_offer cd_lock_on_offer ct_lock_on_offer oc_give_up kV_give_up dc_give_up pm_give_up cd_give_up ct_give_up oc_wait_for_first kV_wait_for_first dc_wait_for_first pm_wait_for_first cd_wait_for_first ct_wait_for_first oc_wait_for_second kV_wait_for_second dc_wait_for_second pm_wait_for_second cd_wait_for_second ct_wait_for_second oc_keep_rules kV_keep_rules dc_keep_rules pm_keep_rules cd_keep_rules ct_keep_rules oc_be_late kV_be_late dc_be_late pm_be_late cd_be_late ct_be_late oc_P_init kV_P_init dc_P_init pm_P_init cd_P_init ct_P_init oc_is_value kV_is_value dc_is_value pm_is_value cd_is_value ct_is_value oc_is_height kV_is_height dc_is_height pm_is_height cd_is_height ct_is_height oc_is_round kV_is_round dc_is_round pm_is_round cd_is_round ct_is_round oc_new kV_new dc_new pm_new cd_new ct_new oc_offers kV_offers dc_offers pm_offers cd_offers ct_offers oc_told kV_told dc_told pm_told cd_told ct_told oc_begin kV_begin dc_begin pm_begin cd_begin ct_begin oc_is_message kV_is_message dc_is_message pm_is_message cd_is_message ct_is_message oc_hears kV_hears dc_hears pm_hears cd_hears ct_hears oc_late kV_late dc_late pm_late cd_late ct_late oc_decided kV_decided dc_decided pm_decided cd_decided ct_decided oc_state kV_state dc_state pm_state cd_state ct_state oc_answer_of kV_answer_of dc_answer_of pm_answer_of cd_answer_of ct_answer_of oc_answers kV_answers dc_answers pm_answers cd_answers ct_answers : Value} {qOFFER qFIRST qSECOND qNONE qOFFERING qVOTED_FIRST qVOTED_SECOND qWAITS qDECIDES qLAST_ROUND qMOST_ROUNDS qBAD qNOT_SO qAT_END qLAST_HEIGHT qGREATEST qn0 qn1 qn2 qn3 qn4 qn5 qn6 qn7 : Tok} {nN : Nat}
    (gHeard : PySem.W.nsIn K mainGlobals "Heard" = some (some (.ref CH)))
    (gMember : PySem.W.nsIn K mainGlobals "Member" = some (some (.ref CM)))
    (gPlace : PySem.W.nsIn K mainGlobals "Place" = some (some (.ref CP)))
    (pgH : PySem.W.plainGet K CH Str.empty = true)
    (hdH : PySem.W.hasDictIn K CH = true)
    (poH : PySem.W.plainOver K CH = true)
    (saH : PySem.W.findIn K (.ref CH) "__setattr__" = some (some (.builtin "object.__setattr__")))
    (mkH : PySem.W.makesIn K CH = true)
    (kcH : PySem.W.keepIn K (.ref CH) = true)
    (nH_said : PySem.W.findIn K (.ref CH) "said" = some none)
    (nH_tallies : PySem.W.findIn K (.ref CH) "tallies" = some none)
    (nH_speakers : PySem.W.findIn K (.ref CH) "speakers" = some none)
    (nH_kept : PySem.W.findIn K (.ref CH) "kept" = some none)
    (pgM : PySem.W.plainGet K CM Str.empty = true)
    (hdM : PySem.W.hasDictIn K CM = true)
    (poM : PySem.W.plainOver K CM = true)
    (saM : PySem.W.findIn K (.ref CM) "__setattr__" = some (some (.builtin "object.__setattr__")))
    (mkM : PySem.W.makesIn K CM = true)
    (kcM : PySem.W.keepIn K (.ref CM) = true)
    (nM_many : PySem.W.findIn K (.ref CM) "many" = some none)
    (nM_me : PySem.W.findIn K (.ref CM) "me" = some none)
    (nM_mine : PySem.W.findIn K (.ref CM) "mine" = some none)
    (nM_liars : PySem.W.findIn K (.ref CM) "liars" = some none)
    (nM_enough : PySem.W.findIn K (.ref CM) "enough" = some none)
    (nM_begun : PySem.W.findIn K (.ref CM) "begun" = some none)
    (nM_decisions : PySem.W.findIn K (.ref CM) "decisions" = some none)
    (nM_things : PySem.W.findIn K (.ref CM) "things" = some none)
    (nM_height : PySem.W.findIn K (.ref CM) "height" = some none)
    (nM_round_now : PySem.W.findIn K (.ref CM) "round_now" = some none)
    (nM_part : PySem.W.findIn K (.ref CM) "part" = some none)
    (nM_lock : PySem.W.findIn K (.ref CM) "lock" = some none)
    (nM_good : PySem.W.findIn K (.ref CM) "good" = some none)
    (nM_heard : PySem.W.findIn K (.ref CM) "heard" = some none)
    (nM_once : PySem.W.findIn K (.ref CM) "once" = some none)
    (pgP : PySem.W.plainGet K CP Str.empty = true)
    (hdP : PySem.W.hasDictIn K CP = true)
    (poP : PySem.W.plainOver K CP = true)
    (saP : PySem.W.findIn K (.ref CP) "__setattr__" = some (some (.builtin "object.__setattr__")))
    (mkP : PySem.W.makesIn K CP = true)
    (kcP : PySem.W.keepIn K (.ref CP) = true)
    (nP_member : PySem.W.findIn K (.ref CP) "member" = some none)
    (gOFFER : PySem.W.nsIn K mainGlobals "OFFER" = some (some (.int 1 qOFFER)))
    (gFIRST : PySem.W.nsIn K mainGlobals "FIRST" = some (some (.int 2 qFIRST)))
    (gSECOND : PySem.W.nsIn K mainGlobals "SECOND" = some (some (.int 3 qSECOND)))
    (gNONE : PySem.W.nsIn K mainGlobals "NONE" = some (some (.int 0 qNONE)))
    (gOFFERING : PySem.W.nsIn K mainGlobals "OFFERING" = some (some (.int 1 qOFFERING)))
    (gVOTED_FIRST : PySem.W.nsIn K mainGlobals "VOTED_FIRST" = some (some (.int 2 qVOTED_FIRST)))
    (gVOTED_SECOND : PySem.W.nsIn K mainGlobals "VOTED_SECOND" = some (some (.int 3 qVOTED_SECOND)))
    (gWAITS : PySem.W.nsIn K mainGlobals "WAITS" = some (some (.int 4 qWAITS)))
    (gDECIDES : PySem.W.nsIn K mainGlobals "DECIDES" = some (some (.int 5 qDECIDES)))
    (gLAST_ROUND : PySem.W.nsIn K mainGlobals "LAST_ROUND" = some (some (.int 63 qLAST_ROUND)))
    (gMOST_ROUNDS : PySem.W.nsIn K mainGlobals "MOST_ROUNDS" = some (some (.int 64 qMOST_ROUNDS)))
    (gBAD : PySem.W.nsIn K mainGlobals "BAD" = some (some (.int (-1) qBAD)))
    (gNOT_SO : PySem.W.nsIn K mainGlobals "NOT_SO" = some (some (.int (-3) qNOT_SO)))
    (gAT_END : PySem.W.nsIn K mainGlobals "AT_END" = some (some (.int (-4) qAT_END)))
    (gLAST_HEIGHT : PySem.W.nsIn K mainGlobals "LAST_HEIGHT" = some (some (.int 1000000 qLAST_HEIGHT)))
    (gGREATEST : PySem.W.nsIn K mainGlobals "GREATEST" = some (some (.int 2147483647 qGREATEST)))
    (z_len : PySem.W.nsIn K mainGlobals "len" = some none)
    (z_range : PySem.W.nsIn K mainGlobals "range" = some none)
    (z_sorted : PySem.W.nsIn K mainGlobals "sorted" = some none)
    (z_list : PySem.W.nsIn K mainGlobals "list" = some none)
    (gNUMBERS : PySem.W.nsIn K mainGlobals "NUMBERS" = some (some (.ref CN)))
    (lNUMBERS : K.lookup CN = some ⟨.type "tuple", odN, .seq #[.int 0 qn0, .int 3 qn1, .int 1 qn2, .int 0 qn3, .int 6 qn4, .int 3 qn5, .int 1 qn6, .int 0 qn7] nN, slN⟩)
    (a_H_init : PySem.W.findIn K (.ref CH) "__init__" = some (some (.ref f_H_init)))
    (i_H_init : PySem.W.isFn K (.ref f_H_init) = true)
    (l_H_init : K.lookup f_H_init = some ⟨oc_H_init, od_H_init, .func (PySem.W.fnOf "__init__" "Heard.__init__" (defArgs s_H_init) (defBody s_H_init) (defScope s_H_init) .none kV_H_init dc_H_init pm_H_init an_H_init cd_H_init ct_H_init), sl_H_init⟩)
    (c_H_init : PySem.W.codeIn K cd_H_init "Heard.__init__" = true)
    (k_H_init : PySem.W.keepIn K (.ref f_H_init) = true)
    (a_H_hear : PySem.W.findIn K (.ref CH) "hear" = some (some (.ref f_H_hear)))
    (i_H_hear : PySem.W.isFn K (.ref f_H_hear) = true)
    (l_H_hear : K.lookup f_H_hear = some ⟨oc_H_hear, od_H_hear, .func (PySem.W.fnOf "hear" "Heard.hear" (defArgs s_H_hear) (defBody s_H_hear) (defScope s_H_hear) .none kV_H_hear dc_H_hear pm_H_hear an_H_hear cd_H_hear ct_H_hear), sl_H_hear⟩)
    (c_H_hear : PySem.W.codeIn K cd_H_hear "Heard.hear" = true)
    (k_H_hear : PySem.W.keepIn K (.ref f_H_hear) = true)
    (a_H_votes : PySem.W.findIn K (.ref CH) "votes" = some (some (.ref f_H_votes)))
    (i_H_votes : PySem.W.isFn K (.ref f_H_votes) = true)
    (l_H_votes : K.lookup f_H_votes = some ⟨oc_H_votes, od_H_votes, .func (PySem.W.fnOf "votes" "Heard.votes" (defArgs s_H_votes) (defBody s_H_votes) (defScope s_H_votes) .none kV_H_votes dc_H_votes pm_H_votes an_H_votes cd_H_votes ct_H_votes), sl_H_votes⟩)
    (c_H_votes : PySem.W.codeIn K cd_H_votes "Heard.votes" = true)
    (k_H_votes : PySem.W.keepIn K (.ref f_H_votes) = true)
    (a_H_voters : PySem.W.findIn K (.ref CH) "voters" = some (some (.ref f_H_voters)))
    (i_H_voters : PySem.W.isFn K (.ref f_H_voters) = true)
    (l_H_voters : K.lookup f_H_voters = some ⟨oc_H_voters, od_H_voters, .func (PySem.W.fnOf "voters" "Heard.voters" (defArgs s_H_voters) (defBody s_H_voters) (defScope s_H_voters) .none kV_H_voters dc_H_voters pm_H_voters an_H_voters cd_H_voters ct_H_voters), sl_H_voters⟩)
    (c_H_voters : PySem.W.codeIn K cd_H_voters "Heard.voters" = true)
    (k_H_voters : PySem.W.keepIn K (.ref f_H_voters) = true)
    (a_H_offer : PySem.W.findIn K (.ref CH) "offer" = some (some (.ref f_H_offer)))
    (i_H_offer : PySem.W.isFn K (.ref f_H_offer) = true)
    (l_H_offer : K.lookup f_H_offer = some ⟨oc_H_offer, od_H_offer, .func (PySem.W.fnOf "offer" "Heard.offer" (defArgs s_H_offer) (defBody s_H_offer) (defScope s_H_offer) .none kV_H_offer dc_H_offer pm_H_offer an_H_offer cd_H_offer ct_H_offer), sl_H_offer⟩)
    (c_H_offer : PySem.W.codeIn K cd_H_offer "Heard.offer" = true)
    (k_H_offer : PySem.W.keepIn K (.ref f_H_offer) = true)
    (a_H_loud_round : PySem.W.findIn K (.ref CH) "loud_round" = some (some (.ref f_H_loud_round)))
    (i_H_loud_round : PySem.W.isFn K (.ref f_H_loud_round) = true)
    (l_H_loud_round : K.lookup f_H_loud_round = some ⟨oc_H_loud_round, od_H_loud_round, .func (PySem.W.fnOf "loud_round" "Heard.loud_round" (defArgs s_H_loud_round) (defBody s_H_loud_round) (defScope s_H_loud_round) .none kV_H_loud_round dc_H_loud_round pm_H_loud_round an_H_loud_round cd_H_loud_round ct_H_loud_round), sl_H_loud_round⟩)
    (c_H_loud_round : PySem.W.codeIn K cd_H_loud_round "Heard.loud_round" = true)
    (k_H_loud_round : PySem.W.keepIn K (.ref f_H_loud_round) = true)
    (a_M_init : PySem.W.findIn K (.ref CM) "__init__" = some (some (.ref f_M_init)))
    (i_M_init : PySem.W.isFn K (.ref f_M_init) = true)
    (l_M_init : K.lookup f_M_init = some ⟨oc_M_init, od_M_init, .func (PySem.W.fnOf "__init__" "Member.__init__" (defArgs s_M_init) (defBody s_M_init) (defScope s_M_init) .none kV_M_init dc_M_init pm_M_init an_M_init cd_M_init ct_M_init), sl_M_init⟩)
    (c_M_init : PySem.W.codeIn K cd_M_init "Member.__init__" = true)
    (k_M_init : PySem.W.keepIn K (.ref f_M_init) = true)
    (a_M_stand_at : PySem.W.findIn K (.ref CM) "stand_at" = some (some (.ref f_M_stand_at)))
    (i_M_stand_at : PySem.W.isFn K (.ref f_M_stand_at) = true)
    (l_M_stand_at : K.lookup f_M_stand_at = some ⟨oc_M_stand_at, od_M_stand_at, .func (PySem.W.fnOf "stand_at" "Member.stand_at" (defArgs s_M_stand_at) (defBody s_M_stand_at) (defScope s_M_stand_at) .none kV_M_stand_at dc_M_stand_at pm_M_stand_at an_M_stand_at cd_M_stand_at ct_M_stand_at), sl_M_stand_at⟩)
    (c_M_stand_at : PySem.W.codeIn K cd_M_stand_at "Member.stand_at" = true)
    (k_M_stand_at : PySem.W.keepIn K (.ref f_M_stand_at) = true)
    (a_M_offerer : PySem.W.findIn K (.ref CM) "offerer" = some (some (.ref f_M_offerer)))
    (i_M_offerer : PySem.W.isFn K (.ref f_M_offerer) = true)
    (l_M_offerer : K.lookup f_M_offerer = some ⟨oc_M_offerer, od_M_offerer, .func (PySem.W.fnOf "offerer" "Member.offerer" (defArgs s_M_offerer) (defBody s_M_offerer) (defScope s_M_offerer) .none kV_M_offerer dc_M_offerer pm_M_offerer an_M_offerer cd_M_offerer ct_M_offerer), sl_M_offerer⟩)
    (c_M_offerer : PySem.W.codeIn K cd_M_offerer "Member.offerer" = true)
    (k_M_offerer : PySem.W.keepIn K (.ref f_M_offerer) = true)
    (a_M_offer : PySem.W.findIn K (.ref CM) "offer" = some (some (.ref f_M_offer)))
    (i_M_offer : PySem.W.isFn K (.ref f_M_offer) = true)
    (l_M_offer : K.lookup f_M_offer = some ⟨oc_M_offer, od_M_offer, .func (PySem.W.fnOf "offer" "Member.offer" (defArgs s_M_offer) (defBody s_M_offer) (defScope s_M_offer) .none kV_M_offer dc_M_offer pm_M_offer an_M_offer cd_M_offer ct_M_offer), sl_M_offer⟩)
    (c_M_offer : PySem.W.codeIn K cd_M_offer "Member.offer" = true)
    (k_M_offer : PySem.W.keepIn K (.ref f_M_offer) = true)
    (a_M_say : PySem.W.findIn K (.ref CM) "say" = some (some (.ref f_M_say)))
    (i_M_say : PySem.W.isFn K (.ref f_M_say) = true)
    (l_M_say : K.lookup f_M_say = some ⟨oc_M_say, od_M_say, .func (PySem.W.fnOf "say" "Member.say" (defArgs s_M_say) (defBody s_M_say) (defScope s_M_say) .none kV_M_say dc_M_say pm_M_say an_M_say cd_M_say ct_M_say), sl_M_say⟩)
    (c_M_say : PySem.W.codeIn K cd_M_say "Member.say" = true)
    (k_M_say : PySem.W.keepIn K (.ref f_M_say) = true)
    (a_M_wait : PySem.W.findIn K (.ref CM) "wait" = some (some (.ref f_M_wait)))
    (i_M_wait : PySem.W.isFn K (.ref f_M_wait) = true)
    (l_M_wait : K.lookup f_M_wait = some ⟨oc_M_wait, od_M_wait, .func (PySem.W.fnOf "wait" "Member.wait" (defArgs s_M_wait) (defBody s_M_wait) (defScope s_M_wait) .none kV_M_wait dc_M_wait pm_M_wait an_M_wait cd_M_wait ct_M_wait), sl_M_wait⟩)
    (c_M_wait : PySem.W.codeIn K cd_M_wait "Member.wait" = true)
    (k_M_wait : PySem.W.keepIn K (.ref f_M_wait) = true)
    (a_M_begin_round : PySem.W.findIn K (.ref CM) "begin_round" = some (some (.ref f_M_begin_round)))
    (i_M_begin_round : PySem.W.isFn K (.ref f_M_begin_round) = true)
    (l_M_begin_round : K.lookup f_M_begin_round = some ⟨oc_M_begin_round, od_M_begin_round, .func (PySem.W.fnOf "begin_round" "Member.begin_round" (defArgs s_M_begin_round) (defBody s_M_begin_round) (defScope s_M_begin_round) .none kV_M_begin_round dc_M_begin_round pm_M_begin_round an_M_begin_round cd_M_begin_round ct_M_begin_round), sl_M_begin_round⟩)
    (c_M_begin_round : PySem.W.codeIn K cd_M_begin_round "Member.begin_round" = true)
    (k_M_begin_round : PySem.W.keepIn K (.ref f_M_begin_round) = true)
    (a_M_vote_first : PySem.W.findIn K (.ref CM) "vote_first" = some (some (.ref f_M_vote_first)))
    (i_M_vote_first : PySem.W.isFn K (.ref f_M_vote_first) = true)
    (l_M_vote_first : K.lookup f_M_vote_first = some ⟨oc_M_vote_first, od_M_vote_first, .func (PySem.W.fnOf "vote_first" "Member.vote_first" (defArgs s_M_vote_first) (defBody s_M_vote_first) (defScope s_M_vote_first) .none kV_M_vote_first dc_M_vote_first pm_M_vote_first an_M_vote_first cd_M_vote_first ct_M_vote_first), sl_M_vote_first⟩)
    (c_M_vote_first : PySem.W.codeIn K cd_M_vote_first "Member.vote_first" = true)
    (k_M_vote_first : PySem.W.keepIn K (.ref f_M_vote_first) = true)
    (a_M_vote_second : PySem.W.findIn K (.ref CM) "vote_second" = some (some (.ref f_M_vote_second)))
    (i_M_vote_second : PySem.W.isFn K (.ref f_M_vote_second) = true)
    (l_M_vote_second : K.lookup f_M_vote_second = some ⟨oc_M_vote_second, od_M_vote_second, .func (PySem.W.fnOf "vote_second" "Member.vote_second" (defArgs s_M_vote_second) (defBody s_M_vote_second) (defScope s_M_vote_second) .none kV_M_vote_second dc_M_vote_second pm_M_vote_second an_M_vote_second cd_M_vote_second ct_M_vote_second), sl_M_vote_second⟩)
    (c_M_vote_second : PySem.W.codeIn K cd_M_vote_second "Member.vote_second" = true)
    (k_M_vote_second : PySem.W.keepIn K (.ref f_M_vote_second) = true)
    (a_M_has_enough : PySem.W.findIn K (.ref CM) "has_enough" = some (some (.ref f_M_has_enough)))
    (i_M_has_enough : PySem.W.isFn K (.ref f_M_has_enough) = true)
    (l_M_has_enough : K.lookup f_M_has_enough = some ⟨oc_M_has_enough, od_M_has_enough, .func (PySem.W.fnOf "has_enough" "Member.has_enough" (defArgs s_M_has_enough) (defBody s_M_has_enough) (defScope s_M_has_enough) .none kV_M_has_enough dc_M_has_enough pm_M_has_enough an_M_has_enough cd_M_has_enough ct_M_has_enough), sl_M_has_enough⟩)
    (c_M_has_enough : PySem.W.codeIn K cd_M_has_enough "Member.has_enough" = true)
    (k_M_has_enough : PySem.W.keepIn K (.ref f_M_has_enough) = true)
    (a_decide : PySem.W.nsIn K mainGlobals "decide" = some (some (.ref f_decide)))
    (l_decide : K.lookup f_decide = some ⟨oc_decide, od_decide, .func (PySem.W.fnOf "decide" "decide" (defArgs s_decide) (defBody s_decide) (defScope s_decide) .none kV_decide dc_decide pm_decide an_decide cd_decide ct_decide), sl_decide⟩)
    (c_decide : PySem.W.codeIn K cd_decide "decide" = true)
    (k_decide : PySem.W.keepIn K (.ref f_decide) = true)
    (a_catch_up : PySem.W.nsIn K mainGlobals "catch_up" = some (some (.ref f_catch_up)))
    (l_catch_up : K.lookup f_catch_up = some ⟨oc_catch_up, od_catch_up, .func (PySem.W.fnOf "catch_up" "catch_up" (defArgs s_catch_up) (defBody s_catch_up) (defScope s_catch_up) .none kV_catch_up dc_catch_up pm_catch_up an_catch_up cd_catch_up ct_catch_up), sl_catch_up⟩)
    (c_catch_up : PySem.W.codeIn K cd_catch_up "catch_up" = true)
    (k_catch_up : PySem.W.keepIn K (.ref f_catch_up) = true)
    (a_is_backed : PySem.W.nsIn K mainGlobals "is_backed" = some (some (.ref f_is_backed)))
    (l_is_backed : K.lookup f_is_backed = some ⟨oc_is_backed, od_is_backed, .func (PySem.W.fnOf "is_backed" "is_backed" (defArgs s_is_backed) (defBody s_is_backed) (defScope s_is_backed) .none kV_is_backed dc_is_backed pm_is_backed an_is_backed cd_is_backed ct_is_backed), sl_is_backed⟩)
    (c_is_backed : PySem.W.codeIn K cd_is_backed "is_backed" = true)
    (k_is_backed : PySem.W.keepIn K (.ref f_is_backed) = true)
    (a_answer_offer : PySem.W.nsIn K mainGlobals "answer_offer" = some (some (.ref f_answer_offer)))
    (l_answer_offer : K.lookup f_answer_offer = some ⟨oc_answer_offer, od_answer_offer, .func (PySem.W.fnOf "answer_offer" "answer_offer" (defArgs s_answer_offer) (defBody s_answer_offer) (defScope s_answer_offer) .none kV_answer_offer dc_answer_offer pm_answer_offer an_answer_offer cd_answer_offer ct_answer_offer), sl_answer_offer⟩)
    (c_answer_offer : PySem.W.codeIn K cd_answer_offer "answer_offer" = true)
    (k_answer_offer : PySem.W.keepIn K (.ref f_answer_offer) = true)
    (a_lock_on_offer : PySem.W.nsIn K mainGlobals "lock_on_offer" = some (some (.ref f_lock_on_offer)))
    (l_lock_on_offer : K.lookup f_lock_on_offer = some ⟨oc_lock_on_offer, od_lock_on_offer, .func (PySem.W.fnOf "lock_on_offer" "lock_on_offer" (defArgs s_lock_on_offer) (defBody s_lock_on_offer) (defScope s_lock_on_offer) .none kV_lock_on_offer dc_lock_on_offer pm_lock_on_offer an_lock_on_offer cd_lock_on_offer ct_lock_on_offer), sl_lock_on_offer⟩)
    (c_lock_on_offer : PySem.W.codeIn K cd_lock_on_offer "lock_on_offer" = true)
    (k_lock_on_offer : PySem.W.keepIn K (.ref f_lock_on_offer) = true)
    (a_give_up : PySem.W.nsIn K mainGlobals "give_up" = some (some (.ref f_give_up)))
    (l_give_up : K.lookup f_give_up = some ⟨oc_give_up, od_give_up, .func (PySem.W.fnOf "give_up" "give_up" (defArgs s_give_up) (defBody s_give_up) (defScope s_give_up) .none kV_give_up dc_give_up pm_give_up an_give_up cd_give_up ct_give_up), sl_give_up⟩)
    (c_give_up : PySem.W.codeIn K cd_give_up "give_up" = true)
    (k_give_up : PySem.W.keepIn K (.ref f_give_up) = true)
    (a_wait_for_first : PySem.W.nsIn K mainGlobals "wait_for_first" = some (some (.ref f_wait_for_first)))
    (l_wait_for_first : K.lookup f_wait_for_first = some ⟨oc_wait_for_first, od_wait_for_first, .func (PySem.W.fnOf "wait_for_first" "wait_for_first" (defArgs s_wait_for_first) (defBody s_wait_for_first) (defScope s_wait_for_first) .none kV_wait_for_first dc_wait_for_first pm_wait_for_first an_wait_for_first cd_wait_for_first ct_wait_for_first), sl_wait_for_first⟩)
    (c_wait_for_first : PySem.W.codeIn K cd_wait_for_first "wait_for_first" = true)
    (k_wait_for_first : PySem.W.keepIn K (.ref f_wait_for_first) = true)
    (a_wait_for_second : PySem.W.nsIn K mainGlobals "wait_for_second" = some (some (.ref f_wait_for_second)))
    (l_wait_for_second : K.lookup f_wait_for_second = some ⟨oc_wait_for_second, od_wait_for_second, .func (PySem.W.fnOf "wait_for_second" "wait_for_second" (defArgs s_wait_for_second) (defBody s_wait_for_second) (defScope s_wait_for_second) .none kV_wait_for_second dc_wait_for_second pm_wait_for_second an_wait_for_second cd_wait_for_second ct_wait_for_second), sl_wait_for_second⟩)
    (c_wait_for_second : PySem.W.codeIn K cd_wait_for_second "wait_for_second" = true)
    (k_wait_for_second : PySem.W.keepIn K (.ref f_wait_for_second) = true)
    (a_keep_rules : PySem.W.nsIn K mainGlobals "keep_rules" = some (some (.ref f_keep_rules)))
    (l_keep_rules : K.lookup f_keep_rules = some ⟨oc_keep_rules, od_keep_rules, .func (PySem.W.fnOf "keep_rules" "keep_rules" (defArgs s_keep_rules) (defBody s_keep_rules) (defScope s_keep_rules) .none kV_keep_rules dc_keep_rules pm_keep_rules an_keep_rules cd_keep_rules ct_keep_rules), sl_keep_rules⟩)
    (c_keep_rules : PySem.W.codeIn K cd_keep_rules "keep_rules" = true)
    (k_keep_rules : PySem.W.keepIn K (.ref f_keep_rules) = true)
    (a_be_late : PySem.W.nsIn K mainGlobals "be_late" = some (some (.ref f_be_late)))
    (l_be_late : K.lookup f_be_late = some ⟨oc_be_late, od_be_late, .func (PySem.W.fnOf "be_late" "be_late" (defArgs s_be_late) (defBody s_be_late) (defScope s_be_late) .none kV_be_late dc_be_late pm_be_late an_be_late cd_be_late ct_be_late), sl_be_late⟩)
    (c_be_late : PySem.W.codeIn K cd_be_late "be_late" = true)
    (k_be_late : PySem.W.keepIn K (.ref f_be_late) = true)
    (a_P_init : PySem.W.findIn K (.ref CP) "__init__" = some (some (.ref f_P_init)))
    (i_P_init : PySem.W.isFn K (.ref f_P_init) = true)
    (l_P_init : K.lookup f_P_init = some ⟨oc_P_init, od_P_init, .func (PySem.W.fnOf "__init__" "Place.__init__" (defArgs s_P_init) (defBody s_P_init) (defScope s_P_init) .none kV_P_init dc_P_init pm_P_init an_P_init cd_P_init ct_P_init), sl_P_init⟩)
    (c_P_init : PySem.W.codeIn K cd_P_init "Place.__init__" = true)
    (k_P_init : PySem.W.keepIn K (.ref f_P_init) = true)
    (a_is_value : PySem.W.nsIn K mainGlobals "is_value" = some (some (.ref f_is_value)))
    (l_is_value : K.lookup f_is_value = some ⟨oc_is_value, od_is_value, .func (PySem.W.fnOf "is_value" "is_value" (defArgs s_is_value) (defBody s_is_value) (defScope s_is_value) .none kV_is_value dc_is_value pm_is_value an_is_value cd_is_value ct_is_value), sl_is_value⟩)
    (c_is_value : PySem.W.codeIn K cd_is_value "is_value" = true)
    (k_is_value : PySem.W.keepIn K (.ref f_is_value) = true)
    (a_is_height : PySem.W.nsIn K mainGlobals "is_height" = some (some (.ref f_is_height)))
    (l_is_height : K.lookup f_is_height = some ⟨oc_is_height, od_is_height, .func (PySem.W.fnOf "is_height" "is_height" (defArgs s_is_height) (defBody s_is_height) (defScope s_is_height) .none kV_is_height dc_is_height pm_is_height an_is_height cd_is_height ct_is_height), sl_is_height⟩)
    (c_is_height : PySem.W.codeIn K cd_is_height "is_height" = true)
    (k_is_height : PySem.W.keepIn K (.ref f_is_height) = true)
    (a_is_round : PySem.W.nsIn K mainGlobals "is_round" = some (some (.ref f_is_round)))
    (l_is_round : K.lookup f_is_round = some ⟨oc_is_round, od_is_round, .func (PySem.W.fnOf "is_round" "is_round" (defArgs s_is_round) (defBody s_is_round) (defScope s_is_round) .none kV_is_round dc_is_round pm_is_round an_is_round cd_is_round ct_is_round), sl_is_round⟩)
    (c_is_round : PySem.W.codeIn K cd_is_round "is_round" = true)
    (k_is_round : PySem.W.keepIn K (.ref f_is_round) = true)
    (a_new : PySem.W.nsIn K mainGlobals "new" = some (some (.ref f_new)))
    (l_new : K.lookup f_new = some ⟨oc_new, od_new, .func (PySem.W.fnOf "new" "new" (defArgs s_new) (defBody s_new) (defScope s_new) .none kV_new dc_new pm_new an_new cd_new ct_new), sl_new⟩)
    (c_new : PySem.W.codeIn K cd_new "new" = true)
    (k_new : PySem.W.keepIn K (.ref f_new) = true)
    (a_offers : PySem.W.nsIn K mainGlobals "offers" = some (some (.ref f_offers)))
    (l_offers : K.lookup f_offers = some ⟨oc_offers, od_offers, .func (PySem.W.fnOf "offers" "offers" (defArgs s_offers) (defBody s_offers) (defScope s_offers) .none kV_offers dc_offers pm_offers an_offers cd_offers ct_offers), sl_offers⟩)
    (c_offers : PySem.W.codeIn K cd_offers "offers" = true)
    (k_offers : PySem.W.keepIn K (.ref f_offers) = true)
    (a_told : PySem.W.nsIn K mainGlobals "told" = some (some (.ref f_told)))
    (l_told : K.lookup f_told = some ⟨oc_told, od_told, .func (PySem.W.fnOf "told" "told" (defArgs s_told) (defBody s_told) (defScope s_told) .none kV_told dc_told pm_told an_told cd_told ct_told), sl_told⟩)
    (c_told : PySem.W.codeIn K cd_told "told" = true)
    (k_told : PySem.W.keepIn K (.ref f_told) = true)
    (a_begin : PySem.W.nsIn K mainGlobals "begin" = some (some (.ref f_begin)))
    (l_begin : K.lookup f_begin = some ⟨oc_begin, od_begin, .func (PySem.W.fnOf "begin" "begin" (defArgs s_begin) (defBody s_begin) (defScope s_begin) .none kV_begin dc_begin pm_begin an_begin cd_begin ct_begin), sl_begin⟩)
    (c_begin : PySem.W.codeIn K cd_begin "begin" = true)
    (k_begin : PySem.W.keepIn K (.ref f_begin) = true)
    (a_is_message : PySem.W.nsIn K mainGlobals "is_message" = some (some (.ref f_is_message)))
    (l_is_message : K.lookup f_is_message = some ⟨oc_is_message, od_is_message, .func (PySem.W.fnOf "is_message" "is_message" (defArgs s_is_message) (defBody s_is_message) (defScope s_is_message) .none kV_is_message dc_is_message pm_is_message an_is_message cd_is_message ct_is_message), sl_is_message⟩)
    (c_is_message : PySem.W.codeIn K cd_is_message "is_message" = true)
    (k_is_message : PySem.W.keepIn K (.ref f_is_message) = true)
    (a_hears : PySem.W.nsIn K mainGlobals "hears" = some (some (.ref f_hears)))
    (l_hears : K.lookup f_hears = some ⟨oc_hears, od_hears, .func (PySem.W.fnOf "hears" "hears" (defArgs s_hears) (defBody s_hears) (defScope s_hears) .none kV_hears dc_hears pm_hears an_hears cd_hears ct_hears), sl_hears⟩)
    (c_hears : PySem.W.codeIn K cd_hears "hears" = true)
    (k_hears : PySem.W.keepIn K (.ref f_hears) = true)
    (a_late : PySem.W.nsIn K mainGlobals "late" = some (some (.ref f_late)))
    (l_late : K.lookup f_late = some ⟨oc_late, od_late, .func (PySem.W.fnOf "late" "late" (defArgs s_late) (defBody s_late) (defScope s_late) .none kV_late dc_late pm_late an_late cd_late ct_late), sl_late⟩)
    (c_late : PySem.W.codeIn K cd_late "late" = true)
    (k_late : PySem.W.keepIn K (.ref f_late) = true)
    (a_decided : PySem.W.nsIn K mainGlobals "decided" = some (some (.ref f_decided)))
    (l_decided : K.lookup f_decided = some ⟨oc_decided, od_decided, .func (PySem.W.fnOf "decided" "decided" (defArgs s_decided) (defBody s_decided) (defScope s_decided) .none kV_decided dc_decided pm_decided an_decided cd_decided ct_decided), sl_decided⟩)
    (c_decided : PySem.W.codeIn K cd_decided "decided" = true)
    (k_decided : PySem.W.keepIn K (.ref f_decided) = true)
    (a_state : PySem.W.nsIn K mainGlobals "state" = some (some (.ref f_state)))
    (l_state : K.lookup f_state = some ⟨oc_state, od_state, .func (PySem.W.fnOf "state" "state" (defArgs s_state) (defBody s_state) (defScope s_state) .none kV_state dc_state pm_state an_state cd_state ct_state), sl_state⟩)
    (c_state : PySem.W.codeIn K cd_state "state" = true)
    (k_state : PySem.W.keepIn K (.ref f_state) = true)
    (a_answer_of : PySem.W.nsIn K mainGlobals "answer_of" = some (some (.ref f_answer_of)))
    (l_answer_of : K.lookup f_answer_of = some ⟨oc_answer_of, od_answer_of, .func (PySem.W.fnOf "answer_of" "answer_of" (defArgs s_answer_of) (defBody s_answer_of) (defScope s_answer_of) .none kV_answer_of dc_answer_of pm_answer_of an_answer_of cd_answer_of ct_answer_of), sl_answer_of⟩)
    (c_answer_of : PySem.W.codeIn K cd_answer_of "answer_of" = true)
    (k_answer_of : PySem.W.keepIn K (.ref f_answer_of) = true)
    (a_answers : PySem.W.nsIn K mainGlobals "answers" = some (some (.ref f_answers)))
    (l_answers : K.lookup f_answers = some ⟨oc_answers, od_answers, .func (PySem.W.fnOf "answers" "answers" (defArgs s_answers) (defBody s_answers) (defScope s_answers) .none kV_answers dc_answers pm_answers an_answers cd_answers ct_answers), sl_answers⟩)
    (c_answers : PySem.W.codeIn K cd_answers "answers" = true)
    (k_answers : PySem.W.keepIn K (.ref f_answers) = true)
    : ∃ fd : FuncData, (∀ (s : Shared) (us : List Value), us.length = (["calls"] : List Str).length → BindsTo s fd ⟨us, []⟩ ((["calls"] : List Str).zip us)) ∧ ∀ base : Heap, K.In base → base.Ns mainGlobals mg → FnOk P w K mg base CX0 8 fa fd ["calls"] (spAnswers K) := by
  have e := hfa.symm.trans (PySem.W.mg_of X G a_answers)
  cases e
  let C : Cl := ⟨CH, CM, CP, CN⟩
  have T : Txt K mg C := ⟨⟨pgH, hdH, poH, saH⟩,
    nH_said,
    nH_tallies,
    nH_speakers,
    nH_kept,
    ⟨pgM, hdM, poM, saM⟩,
    nM_many,
    nM_me,
    nM_mine,
    nM_liars,
    nM_enough,
    nM_begun,
    nM_decisions,
    nM_things,
    nM_height,
    nM_round_now,
    nM_part,
    nM_lock,
    nM_good,
    nM_heard,
    nM_once,
    ⟨pgP, hdP, poP, saP⟩,
    nP_member,
    PySem.W.mg_of X G gHeard,
    PySem.W.mg_of X G gMember,
    PySem.W.mg_of X G gPlace,
    ⟨_, PySem.W.mg_of X G gOFFER⟩,
    ⟨_, PySem.W.mg_of X G gFIRST⟩,
    ⟨_, PySem.W.mg_of X G gSECOND⟩,
    ⟨_, PySem.W.mg_of X G gNONE⟩,
    ⟨_, PySem.W.mg_of X G gOFFERING⟩,
    ⟨_, PySem.W.mg_of X G gVOTED_FIRST⟩,
    ⟨_, PySem.W.mg_of X G gVOTED_SECOND⟩,
    ⟨_, PySem.W.mg_of X G gWAITS⟩,
    ⟨_, PySem.W.mg_of X G gDECIDES⟩,
    ⟨_, PySem.W.mg_of X G gLAST_ROUND⟩,
    ⟨_, PySem.W.mg_of X G gMOST_ROUNDS⟩,
    ⟨_, PySem.W.mg_of X G gBAD⟩,
    ⟨_, PySem.W.mg_of X G gNOT_SO⟩,
    ⟨_, PySem.W.mg_of X G gAT_END⟩,
    ⟨_, PySem.W.mg_of X G gLAST_HEIGHT⟩,
    ⟨_, PySem.W.mg_of X G gGREATEST⟩,
    PySem.W.mg_none_of X G z_len,
    PySem.W.mg_none_of X G z_range,
    PySem.W.mg_none_of X G z_sorted,
    PySem.W.mg_none_of X G z_list,
    PySem.W.mg_of X G gNUMBERS,
    fun H => .inr ⟨_, _, nN, lNUMBERS, rfl, rfl, (by show 8 ≤ sizeLine; decide), .cons ⟨_, rfl⟩ (.cons ⟨_, rfl⟩ (.cons ⟨_, rfl⟩ (.cons ⟨_, rfl⟩ (.cons ⟨_, rfl⟩ (.cons ⟨_, rfl⟩ (.cons ⟨_, rfl⟩ (.cons ⟨_, rfl⟩ (.nil))))))))⟩⟩
  have F_H_init := fun_mk (st := s_H_init) l_H_init c_H_init k_H_init
  have b_H_init := F_H_init.binds (ps := ["self"]) fun _ _ _ _ _ _ us hl => match us, hl with | [_], _ => rfl
  have F_H_hear := fun_mk (st := s_H_hear) l_H_hear c_H_hear k_H_hear
  have b_H_hear := F_H_hear.binds (ps := ["self", "who", "kind", "number", "value", "known"]) fun _ _ _ _ _ _ us hl => match us, hl with | [_, _, _, _, _, _], _ => rfl
  have F_H_votes := fun_mk (st := s_H_votes) l_H_votes c_H_votes k_H_votes
  have b_H_votes := F_H_votes.binds (ps := ["self", "kind", "number", "value"]) fun _ _ _ _ _ _ us hl => match us, hl with | [_, _, _, _], _ => rfl
  have F_H_voters := fun_mk (st := s_H_voters) l_H_voters c_H_voters k_H_voters
  have b_H_voters := F_H_voters.binds (ps := ["self", "kind", "number"]) fun _ _ _ _ _ _ us hl => match us, hl with | [_, _, _], _ => rfl
  have F_H_offer := fun_mk (st := s_H_offer) l_H_offer c_H_offer k_H_offer
  have b_H_offer := F_H_offer.binds (ps := ["self", "number", "offerer"]) fun _ _ _ _ _ _ us hl => match us, hl with | [_, _, _], _ => rfl
  have F_H_loud_round := fun_mk (st := s_H_loud_round) l_H_loud_round c_H_loud_round k_H_loud_round
  have b_H_loud_round := F_H_loud_round.binds (ps := ["self", "above", "many"]) fun _ _ _ _ _ _ us hl => match us, hl with | [_, _, _], _ => rfl
  have F_M_init := fun_mk (st := s_M_init) l_M_init c_M_init k_M_init
  have b_M_init := F_M_init.binds (ps := ["self", "many", "me", "mine"]) fun _ _ _ _ _ _ us hl => match us, hl with | [_, _, _, _], _ => rfl
  have F_M_stand_at := fun_mk (st := s_M_stand_at) l_M_stand_at c_M_stand_at k_M_stand_at
  have b_M_stand_at := F_M_stand_at.binds (ps := ["self", "height"]) fun _ _ _ _ _ _ us hl => match us, hl with | [_, _], _ => rfl
  have F_M_offerer := fun_mk (st := s_M_offerer) l_M_offerer c_M_offerer k_M_offerer
  have b_M_offerer := F_M_offerer.binds (ps := ["self", "number"]) fun _ _ _ _ _ _ us hl => match us, hl with | [_, _], _ => rfl
  have F_M_offer := fun_mk (st := s_M_offer) l_M_offer c_M_offer k_M_offer
  have b_M_offer := F_M_offer.binds (ps := ["self", "number"]) fun _ _ _ _ _ _ us hl => match us, hl with | [_, _], _ => rfl
  have F_M_say := fun_mk (st := s_M_say) l_M_say c_M_say k_M_say
  have b_M_say := F_M_say.binds (ps := ["self", "kind", "value", "known"]) fun _ _ _ _ _ _ us hl => match us, hl with | [_, _, _, _], _ => rfl
  have F_M_wait := fun_mk (st := s_M_wait) l_M_wait c_M_wait k_M_wait
  have b_M_wait := F_M_wait.binds (ps := ["self", "part"]) fun _ _ _ _ _ _ us hl => match us, hl with | [_, _], _ => rfl
  have F_M_begin_round := fun_mk (st := s_M_begin_round) l_M_begin_round c_M_begin_round k_M_begin_round
  have b_M_begin_round := F_M_begin_round.binds (ps := ["self", "number"]) fun _ _ _ _ _ _ us hl => match us, hl with | [_, _], _ => rfl
  have F_M_vote_first := fun_mk (st := s_M_vote_first) l_M_vote_first c_M_vote_first k_M_vote_first
  have b_M_vote_first := F_M_vote_first.binds (ps := ["self", "value"]) fun _ _ _ _ _ _ us hl => match us, hl with | [_, _], _ => rfl
  have F_M_vote_second := fun_mk (st := s_M_vote_second) l_M_vote_second c_M_vote_second k_M_vote_second
  have b_M_vote_second := F_M_vote_second.binds (ps := ["self", "value"]) fun _ _ _ _ _ _ us hl => match us, hl with | [_, _], _ => rfl
  have F_M_has_enough := fun_mk (st := s_M_has_enough) l_M_has_enough c_M_has_enough k_M_has_enough
  have b_M_has_enough := F_M_has_enough.binds (ps := ["self", "kind", "number", "value"]) fun _ _ _ _ _ _ us hl => match us, hl with | [_, _, _, _], _ => rfl
  have F_decide := fun_mk (st := s_decide) l_decide c_decide k_decide
  have b_decide := F_decide.binds (ps := ["member"]) fun _ _ _ _ _ _ us hl => match us, hl with | [_], _ => rfl
  have F_catch_up := fun_mk (st := s_catch_up) l_catch_up c_catch_up k_catch_up
  have b_catch_up := F_catch_up.binds (ps := ["member"]) fun _ _ _ _ _ _ us hl => match us, hl with | [_], _ => rfl
  have F_is_backed := fun_mk (st := s_is_backed) l_is_backed c_is_backed k_is_backed
  have b_is_backed := F_is_backed.binds (ps := ["member", "offer"]) fun _ _ _ _ _ _ us hl => match us, hl with | [_, _], _ => rfl
  have F_answer_offer := fun_mk (st := s_answer_offer) l_answer_offer c_answer_offer k_answer_offer
  have b_answer_offer := F_answer_offer.binds (ps := ["member"]) fun _ _ _ _ _ _ us hl => match us, hl with | [_], _ => rfl
  have F_lock_on_offer := fun_mk (st := s_lock_on_offer) l_lock_on_offer c_lock_on_offer k_lock_on_offer
  have b_lock_on_offer := F_lock_on_offer.binds (ps := ["member"]) fun _ _ _ _ _ _ us hl => match us, hl with | [_], _ => rfl
  have F_give_up := fun_mk (st := s_give_up) l_give_up c_give_up k_give_up
  have b_give_up := F_give_up.binds (ps := ["member"]) fun _ _ _ _ _ _ us hl => match us, hl with | [_], _ => rfl
  have F_wait_for_first := fun_mk (st := s_wait_for_first) l_wait_for_first c_wait_for_first k_wait_for_first
  have b_wait_for_first := F_wait_for_first.binds (ps := ["member"]) fun _ _ _ _ _ _ us hl => match us, hl with | [_], _ => rfl
  have F_wait_for_second := fun_mk (st := s_wait_for_second) l_wait_for_second c_wait_for_second k_wait_for_second
  have b_wait_for_second := F_wait_for_second.binds (ps := ["member"]) fun _ _ _ _ _ _ us hl => match us, hl with | [_], _ => rfl
  have F_keep_rules := fun_mk (st := s_keep_rules) l_keep_rules c_keep_rules k_keep_rules
  have b_keep_rules := F_keep_rules.binds (ps := ["member"]) fun _ _ _ _ _ _ us hl => match us, hl with | [_], _ => rfl
  have F_be_late := fun_mk (st := s_be_late) l_be_late c_be_late k_be_late
  have b_be_late := F_be_late.binds (ps := ["member", "part"]) fun _ _ _ _ _ _ us hl => match us, hl with | [_, _], _ => rfl
  have F_P_init := fun_mk (st := s_P_init) l_P_init c_P_init k_P_init
  have b_P_init := F_P_init.binds (ps := ["self"]) fun _ _ _ _ _ _ us hl => match us, hl with | [_], _ => rfl
  have F_is_value := fun_mk (st := s_is_value) l_is_value c_is_value k_is_value
  have b_is_value := F_is_value.binds (ps := ["number"]) fun _ _ _ _ _ _ us hl => match us, hl with | [_], _ => rfl
  have F_is_height := fun_mk (st := s_is_height) l_is_height c_is_height k_is_height
  have b_is_height := F_is_height.binds (ps := ["number"]) fun _ _ _ _ _ _ us hl => match us, hl with | [_], _ => rfl
  have F_is_round := fun_mk (st := s_is_round) l_is_round c_is_round k_is_round
  have b_is_round := F_is_round.binds (ps := ["number"]) fun _ _ _ _ _ _ us hl => match us, hl with | [_], _ => rfl
  have F_new := fun_mk (st := s_new) l_new c_new k_new
  have b_new := F_new.binds (ps := ["place", "numbers"]) fun _ _ _ _ _ _ us hl => match us, hl with | [_, _], _ => rfl
  have F_offers := fun_mk (st := s_offers) l_offers c_offers k_offers
  have b_offers := F_offers.binds (ps := ["member", "mine"]) fun _ _ _ _ _ _ us hl => match us, hl with | [_, _], _ => rfl
  have F_told := fun_mk (st := s_told) l_told c_told k_told
  have b_told := F_told.binds (ps := ["member"]) fun _ _ _ _ _ _ us hl => match us, hl with | [_], _ => rfl
  have F_begin := fun_mk (st := s_begin) l_begin c_begin k_begin
  have b_begin := F_begin.binds (ps := ["member"]) fun _ _ _ _ _ _ us hl => match us, hl with | [_], _ => rfl
  have F_is_message := fun_mk (st := s_is_message) l_is_message c_is_message k_is_message
  have b_is_message := F_is_message.binds (ps := ["member", "numbers"]) fun _ _ _ _ _ _ us hl => match us, hl with | [_, _], _ => rfl
  have F_hears := fun_mk (st := s_hears) l_hears c_hears k_hears
  have b_hears := F_hears.binds (ps := ["member", "numbers"]) fun _ _ _ _ _ _ us hl => match us, hl with | [_, _], _ => rfl
  have F_late := fun_mk (st := s_late) l_late c_late k_late
  have b_late := F_late.binds (ps := ["member", "numbers"]) fun _ _ _ _ _ _ us hl => match us, hl with | [_, _], _ => rfl
  have F_decided := fun_mk (st := s_decided) l_decided c_decided k_decided
  have b_decided := F_decided.binds (ps := ["member", "height"]) fun _ _ _ _ _ _ us hl => match us, hl with | [_, _], _ => rfl
  have F_state := fun_mk (st := s_state) l_state c_state k_state
  have b_state := F_state.binds (ps := ["member"]) fun _ _ _ _ _ _ us hl => match us, hl with | [_], _ => rfl
  have F_answer_of := fun_mk (st := s_answer_of) l_answer_of c_answer_of k_answer_of
  have b_answer_of := F_answer_of.binds (ps := ["place", "call", "numbers"]) fun _ _ _ _ _ _ us hl => match us, hl with | [_, _, _], _ => rfl
  have F_answers := fun_mk (st := s_answers) l_answers c_answers k_answers
  have b_answers := F_answers.binds (ps := ["calls"]) fun _ _ _ _ _ _ us hl => match us, hl with | [_], _ => rfl
  refine ⟨PySem.W.fnOf "answers" "answers" (defArgs s_answers) (defBody s_answers) (defScope s_answers) .none kV_answers dc_answers pm_answers an_answers cd_answers ct_answers, fun s us hu => match us, hu with | [_], _ => .of_eq rfl, fun base _ _ => ?_⟩
  have h_P_init : IK P w K mg base CP 1 ["self"] (spPInit C) := ⟨_, _, ⟨mkP, a_P_init, i_P_init, kcP⟩, ok_P_init T F_P_init , b_P_init⟩
  have h_is_value : FK P w K mg base "is_value" 1 ["number"] (spBtw 1 2147483647) := ⟨_, _, PySem.W.mg_of X G a_is_value, k_is_value, ok_is_value T F_is_value , b_is_value⟩
  have h_H_init : IK P w K mg base CH 1 ["self"] (spHInit C) := ⟨_, _, ⟨mkH, a_H_init, i_H_init, kcH⟩, ok_H_init T F_H_init , b_H_init⟩
  have h_M_stand_at : MK P w K mg base CM "stand_at" 3 ["self", "height"] (spStand C) := ⟨_, _, ⟨a_M_stand_at, i_M_stand_at, k_M_stand_at⟩, ok_M_stand_at T F_M_stand_at h_H_init, b_M_stand_at⟩
  have h_M_init : IK P w K mg base CM 4 ["self", "many", "me", "mine"] (spMInit C) := ⟨_, _, ⟨mkM, a_M_init, i_M_init, kcM⟩, ok_M_init T F_M_init h_M_stand_at, b_M_init⟩
  have h_new : FK P w K mg base "new" 6 ["place", "numbers"] (spNew K C) := ⟨_, _, PySem.W.mg_of X G a_new, k_new, ok_new T F_new h_is_value h_M_init, b_new⟩
  have h_offers : FK P w K mg base "offers" 2 ["member", "mine"] (spOffers C) := ⟨_, _, PySem.W.mg_of X G a_offers, k_offers, ok_offers T F_offers h_is_value, b_offers⟩
  have h_H_hear : MK P w K mg base CH "hear" 1 ["self", "who", "kind", "number", "value", "known"] (spHear C) := ⟨_, _, ⟨a_H_hear, i_H_hear, k_H_hear⟩, ok_H_hear T F_H_hear , b_H_hear⟩
  have h_M_say : MK P w K mg base CM "say" 2 ["self", "kind", "value", "known"] (spSay C) := ⟨_, _, ⟨a_M_say, i_M_say, k_M_say⟩, ok_M_say T F_M_say h_H_hear, b_M_say⟩
  have h_M_wait : MK P w K mg base CM "wait" 1 ["self", "part"] (spWait C) := ⟨_, _, ⟨a_M_wait, i_M_wait, k_M_wait⟩, ok_M_wait T F_M_wait , b_M_wait⟩
  have h_M_offerer : MK P w K mg base CM "offerer" 1 ["self", "number"] (spOfferer C) := ⟨_, _, ⟨a_M_offerer, i_M_offerer, k_M_offerer⟩, ok_M_offerer T F_M_offerer , b_M_offerer⟩
  have h_M_begin_round : MK P w K mg base CM "begin_round" 3 ["self", "number"] (spBegin C) := ⟨_, _, ⟨a_M_begin_round, i_M_begin_round, k_M_begin_round⟩, ok_M_begin_round T F_M_begin_round h_M_say h_M_wait h_M_offerer, b_M_begin_round⟩
  have h_H_offer : MK P w K mg base CH "offer" 1 ["self", "number", "offerer"] (spHOffer C) := ⟨_, _, ⟨a_H_offer, i_H_offer, k_H_offer⟩, ok_H_offer T F_H_offer , b_H_offer⟩
  have h_M_offer : MK P w K mg base CM "offer" 2 ["self", "number"] (spOffer C) := ⟨_, _, ⟨a_M_offer, i_M_offer, k_M_offer⟩, ok_M_offer T F_M_offer h_H_offer h_M_offerer, b_M_offer⟩
  have h_H_votes : MK P w K mg base CH "votes" 1 ["self", "kind", "number", "value"] (spVotes C) := ⟨_, _, ⟨a_H_votes, i_H_votes, k_H_votes⟩, ok_H_votes T F_H_votes , b_H_votes⟩
  have h_M_has_enough : MK P w K mg base CM "has_enough" 2 ["self", "kind", "number", "value"] (spEnough C) := ⟨_, _, ⟨a_M_has_enough, i_M_has_enough, k_M_has_enough⟩, ok_M_has_enough T F_M_has_enough h_H_votes, b_M_has_enough⟩
  have h_decide : FK P w K mg base "decide" 4 ["member"] (spRule C r1) := ⟨_, _, PySem.W.mg_of X G a_decide, k_decide, ok_decide T F_decide h_M_offer h_M_has_enough h_M_stand_at h_M_begin_round, b_decide⟩
  have h_H_loud_round : MK P w K mg base CH "loud_round" 1 ["self", "above", "many"] (spLoud C) := ⟨_, _, ⟨a_H_loud_round, i_H_loud_round, k_H_loud_round⟩, ok_H_loud T F_H_loud_round , b_H_loud_round⟩
  have h_catch_up : FK P w K mg base "catch_up" 4 ["member"] (spRule C r2) := ⟨_, _, PySem.W.mg_of X G a_catch_up, k_catch_up, ok_catch_up T F_catch_up h_H_loud_round h_M_begin_round, b_catch_up⟩
  have h_is_backed : FK P w K mg base "is_backed" 3 ["member", "offer"] (spBacked C) := ⟨_, _, PySem.W.mg_of X G a_is_backed, k_is_backed, ok_is_backed T F_is_backed h_M_has_enough, b_is_backed⟩
  have h_M_vote_first : MK P w K mg base CM "vote_first" 3 ["self", "value"] (spVote1 C) := ⟨_, _, ⟨a_M_vote_first, i_M_vote_first, k_M_vote_first⟩, ok_M_vote_first T F_M_vote_first h_M_say, b_M_vote_first⟩
  have h_answer_offer : FK P w K mg base "answer_offer" 4 ["member"] (spRule C r3) := ⟨_, _, PySem.W.mg_of X G a_answer_offer, k_answer_offer, ok_answer_offer T F_answer_offer h_M_offer h_is_backed h_M_vote_first, b_answer_offer⟩
  have h_M_vote_second : MK P w K mg base CM "vote_second" 3 ["self", "value"] (spVote2 C) := ⟨_, _, ⟨a_M_vote_second, i_M_vote_second, k_M_vote_second⟩, ok_M_vote_second T F_M_vote_second h_M_say, b_M_vote_second⟩
  have h_lock_on_offer : FK P w K mg base "lock_on_offer" 4 ["member"] (spRule C r4) := ⟨_, _, PySem.W.mg_of X G a_lock_on_offer, k_lock_on_offer, ok_lock_on_offer T F_lock_on_offer h_M_offer h_M_has_enough h_M_vote_second, b_lock_on_offer⟩
  have h_give_up : FK P w K mg base "give_up" 4 ["member"] (spRule C r5) := ⟨_, _, PySem.W.mg_of X G a_give_up, k_give_up, ok_give_up T F_give_up h_M_has_enough h_M_vote_second, b_give_up⟩
  have h_H_voters : MK P w K mg base CH "voters" 1 ["self", "kind", "number"] (spVoters C) := ⟨_, _, ⟨a_H_voters, i_H_voters, k_H_voters⟩, ok_H_voters T F_H_voters , b_H_voters⟩
  have h_wait_for_first : FK P w K mg base "wait_for_first" 4 ["member"] (spRule C r6) := ⟨_, _, PySem.W.mg_of X G a_wait_for_first, k_wait_for_first, ok_wait_for_first T F_wait_for_first h_H_voters h_M_wait, b_wait_for_first⟩
  have h_wait_for_second : FK P w K mg base "wait_for_second" 4 ["member"] (spRule C r7) := ⟨_, _, PySem.W.mg_of X G a_wait_for_second, k_wait_for_second, ok_wait_for_second T F_wait_for_second h_H_voters h_M_wait, b_wait_for_second⟩
  have h_keep_rules : FK P w K mg base "keep_rules" 5 ["member"] (spKeep C) := ⟨_, _, PySem.W.mg_of X G a_keep_rules, k_keep_rules, ok_keep_rules T F_keep_rules h_decide h_catch_up h_answer_offer h_lock_on_offer h_give_up h_wait_for_first h_wait_for_second, b_keep_rules⟩
  have h_told : FK P w K mg base "told" 1 ["member"] (spTold C) := ⟨_, _, PySem.W.mg_of X G a_told, k_told, ok_told T F_told , b_told⟩
  have h_begin : FK P w K mg base "begin" 6 ["member"] (spBeginA C) := ⟨_, _, PySem.W.mg_of X G a_begin, k_begin, ok_begin T F_begin h_M_begin_round h_keep_rules h_told, b_begin⟩
  have h_is_height : FK P w K mg base "is_height" 1 ["number"] (spBtw 1 1000000) := ⟨_, _, PySem.W.mg_of X G a_is_height, k_is_height, ok_is_height T F_is_height , b_is_height⟩
  have h_is_round : FK P w K mg base "is_round" 1 ["number"] (spBtw 0 63) := ⟨_, _, PySem.W.mg_of X G a_is_round, k_is_round, ok_is_round T F_is_round , b_is_round⟩
  have h_is_message : FK P w K mg base "is_message" 2 ["member", "numbers"] (spMsg K C) := ⟨_, _, PySem.W.mg_of X G a_is_message, k_is_message, ok_is_message T F_is_message h_is_value h_is_height h_is_round, b_is_message⟩
  have h_hears : FK P w K mg base "hears" 6 ["member", "numbers"] (spHearsA K C) := ⟨_, _, PySem.W.mg_of X G a_hears, k_hears, ok_hears T F_hears h_is_message h_H_hear h_keep_rules h_told, b_hears⟩
  have h_be_late : FK P w K mg base "be_late" 4 ["member", "part"] (spBeLate C) := ⟨_, _, PySem.W.mg_of X G a_be_late, k_be_late, ok_be_late T F_be_late h_M_vote_first h_M_vote_second h_M_begin_round, b_be_late⟩
  have h_late : FK P w K mg base "late" 6 ["member", "numbers"] (spLateA K C) := ⟨_, _, PySem.W.mg_of X G a_late, k_late, ok_late T F_late h_is_height h_is_round h_be_late h_keep_rules h_told, b_late⟩
  have h_decided : FK P w K mg base "decided" 2 ["member", "height"] (spDecidedA C) := ⟨_, _, PySem.W.mg_of X G a_decided, k_decided, ok_decided T F_decided h_is_height, b_decided⟩
  have h_state : FK P w K mg base "state" 1 ["member"] (spStateA C) := ⟨_, _, PySem.W.mg_of X G a_state, k_state, ok_state T F_state , b_state⟩
  have h_answer_of : FK P w K mg base "answer_of" 7 ["place", "call", "numbers"] (spAnswerOf K C) := ⟨_, _, PySem.W.mg_of X G a_answer_of, k_answer_of, ok_answer_of T F_answer_of h_new h_offers h_begin h_hears h_late h_decided h_state, b_answer_of⟩
  exact ok_answers T F_answers h_P_init h_answer_of
end Ag
open PySem PySem.W PyProof.Rows
set_option maxRecDepth 100000 in
set_option maxHeartbeats 8000000 in
theorem PySem.Challenge.cw_agreemost_s01_answers_holds : PySem.Challenge.rw_agreemost_s01_answers.Holds := by
  w_on; k_headS; (case hw => exact ⟨[.list [.int 1, .int 4, .int 0, .int 1]], by decide +kernel, by decide +kernel⟩)
  k_fillS
  refine L2.walk_specK (r := PySem.Challenge.rw_agreemost_s01_answers) (k := 8) (CX := L2.CX0) (ps := ["calls"]) (sp := Ag.spAnswers) (by decide +kernel) rfl rfl ⟨rfl, by decide, by decide⟩ (fun w h Y => PySem.W.kIn_of Y) ?F ?S (fun _ _ _ _ z => z)
  case F =>
    intro w mg fa h Y KX G hmg
    refine' Ag.all_mk KX G hmg ?gHeard ?gMember ?gPlace ?pgH ?hdH ?poH ?saH ?mkH ?kcH ?nH_said ?nH_tallies ?nH_speakers ?nH_kept ?pgM ?hdM ?poM ?saM ?mkM ?kcM ?nM_many ?nM_me ?nM_mine ?nM_liars ?nM_enough ?nM_begun ?nM_decisions ?nM_things ?nM_height ?nM_round_now ?nM_part ?nM_lock ?nM_good ?nM_heard ?nM_once ?pgP ?hdP ?poP ?saP ?mkP ?kcP ?nP_member ?gOFFER ?gFIRST ?gSECOND ?gNONE ?gOFFERING ?gVOTED_FIRST ?gVOTED_SECOND ?gWAITS ?gDECIDES ?gLAST_ROUND ?gMOST_ROUNDS ?gBAD ?gNOT_SO ?gAT_END ?gLAST_HEIGHT ?gGREATEST ?z_len ?z_range ?z_sorted ?z_list ?gNUMBERS ?lNUMBERS ?a_H_init ?i_H_init ?l_H_init ?c_H_init ?k_H_init ?a_H_hear ?i_H_hear ?l_H_hear ?c_H_hear ?k_H_hear ?a_H_votes ?i_H_votes ?l_H_votes ?c_H_votes ?k_H_votes ?a_H_voters ?i_H_voters ?l_H_voters ?c_H_voters ?k_H_voters ?a_H_offer ?i_H_offer ?l_H_offer ?c_H_offer ?k_H_offer ?a_H_loud_round ?i_H_loud_round ?l_H_loud_round ?c_H_loud_round ?k_H_loud_round ?a_M_init ?i_M_init ?l_M_init ?c_M_init ?k_M_init ?a_M_stand_at ?i_M_stand_at ?l_M_stand_at ?c_M_stand_at ?k_M_stand_at ?a_M_offerer ?i_M_offerer ?l_M_offerer ?c_M_offerer ?k_M_offerer ?a_M_offer ?i_M_offer ?l_M_offer ?c_M_offer ?k_M_offer ?a_M_say ?i_M_say ?l_M_say ?c_M_say ?k_M_say ?a_M_wait ?i_M_wait ?l_M_wait ?c_M_wait ?k_M_wait ?a_M_begin_round ?i_M_begin_round ?l_M_begin_round ?c_M_begin_round ?k_M_begin_round ?a_M_vote_first ?i_M_vote_first ?l_M_vote_first ?c_M_vote_first ?k_M_vote_first ?a_M_vote_second ?i_M_vote_second ?l_M_vote_second ?c_M_vote_second ?k_M_vote_second ?a_M_has_enough ?i_M_has_enough ?l_M_has_enough ?c_M_has_enough ?k_M_has_enough ?a_decide ?l_decide ?c_decide ?k_decide ?a_catch_up ?l_catch_up ?c_catch_up ?k_catch_up ?a_is_backed ?l_is_backed ?c_is_backed ?k_is_backed ?a_answer_offer ?l_answer_offer ?c_answer_offer ?k_answer_offer ?a_lock_on_offer ?l_lock_on_offer ?c_lock_on_offer ?k_lock_on_offer ?a_give_up ?l_give_up ?c_give_up ?k_give_up ?a_wait_for_first ?l_wait_for_first ?c_wait_for_first ?k_wait_for_first ?a_wait_for_second ?l_wait_for_second ?c_wait_for_second ?k_wait_for_second ?a_keep_rules ?l_keep_rules ?c_keep_rules ?k_keep_rules ?a_be_late ?l_be_late ?c_be_late ?k_be_late ?a_P_init ?i_P_init ?l_P_init ?c_P_init ?k_P_init ?a_is_value ?l_is_value ?c_is_value ?k_is_value ?a_is_height ?l_is_height ?c_is_height ?k_is_height ?a_is_round ?l_is_round ?c_is_round ?k_is_round ?a_new ?l_new ?c_new ?k_new ?a_offers ?l_offers ?c_offers ?k_offers ?a_told ?l_told ?c_told ?k_told ?a_begin ?l_begin ?c_begin ?k_begin ?a_is_message ?l_is_message ?c_is_message ?k_is_message ?a_hears ?l_hears ?c_hears ?k_hears ?a_late ?l_late ?c_late ?k_late ?a_decided ?l_decided ?c_decided ?k_decided ?a_state ?l_state ?c_state ?k_state ?a_answer_of ?l_answer_of ?c_answer_of ?k_answer_of ?a_answers ?l_answers ?c_answers ?k_answers
    (case gHeard => k_is)
    (case gMember => k_is)
    (case gPlace => k_is)
    (case pgH => k_is)
    (case hdH => k_is)
    (case poH => k_is)
    (case saH => k_is)
    (case mkH => k_is)
    (case kcH => k_is)
    (case nH_said => k_is)
    (case nH_tallies => k_is)
    (case nH_speakers => k_is)
    (case nH_kept => k_is)
    (case pgM => k_is)
    (case hdM => k_is)
    (case poM => k_is)
    (case saM => k_is)
    (case mkM => k_is)
    (case kcM => k_is)
    (case nM_many => k_is)
    (case nM_me => k_is)
    (case nM_mine => k_is)
    (case nM_liars => k_is)
    (case nM_enough => k_is)
    (case nM_begun => k_is)
    (case nM_decisions => k_is)
    (case nM_things => k_is)
    (case nM_height => k_is)
    (case nM_round_now => k_is)
    (case nM_part => k_is)
    (case nM_lock => k_is)
    (case nM_good => k_is)
    (case nM_heard => k_is)
    (case nM_once => k_is)
    (case pgP => k_is)
    (case hdP => k_is)
    (case poP => k_is)
    (case saP => k_is)
    (case mkP => k_is)
    (case kcP => k_is)
    (case nP_member => k_is)
    (case gOFFER => k_is)
    (case gFIRST => k_is)
    (case gSECOND => k_is)
    (case gNONE => k_is)
    (case gOFFERING => k_is)
    (case gVOTED_FIRST => k_is)
    (case gVOTED_SECOND => k_is)
    (case gWAITS => k_is)
    (case gDECIDES => k_is)
    (case gLAST_ROUND => k_is)
    (case gMOST_ROUNDS => k_is)
    (case gBAD => k_is)
    (case gNOT_SO => k_is)
    (case gAT_END => k_is)
    (case gLAST_HEIGHT => k_is)
    (case gGREATEST => k_is)
    (case z_len => k_is)
    (case z_range => k_is)
    (case z_sorted => k_is)
    (case z_list => k_is)
    (case gNUMBERS => k_is)
    (case lNUMBERS => k_is)
    (case a_H_init => k_is)
    (case i_H_init => k_is)
    (case l_H_init => k_is)
    (case c_H_init => k_is)
    (case k_H_init => k_is)
    (case a_H_hear => k_is)
    (case i_H_hear => k_is)
    (case l_H_hear => k_is)
    (case c_H_hear => k_is)
    (case k_H_hear => k_is)
    (case a_H_votes => k_is)
    (case i_H_votes => k_is)
    (case l_H_votes => k_is)
    (case c_H_votes => k_is)
    (case k_H_votes => k_is)
    (case a_H_voters => k_is)
    (case i_H_voters => k_is)
    (case l_H_voters => k_is)
    (case c_H_voters => k_is)
    (case k_H_voters => k_is)
    (case a_H_offer => k_is)
    (case i_H_offer => k_is)
    (case l_H_offer => k_is)
    (case c_H_offer => k_is)
    (case k_H_offer => k_is)
    (case a_H_loud_round => k_is)
    (case i_H_loud_round => k_is)
    (case l_H_loud_round => k_is)
    (case c_H_loud_round => k_is)
    (case k_H_loud_round => k_is)
    (case a_M_init => k_is)
    (case i_M_init => k_is)
    (case l_M_init => k_is)
    (case c_M_init => k_is)
    (case k_M_init => k_is)
    (case a_M_stand_at => k_is)
    (case i_M_stand_at => k_is)
    (case l_M_stand_at => k_is)
    (case c_M_stand_at => k_is)
    (case k_M_stand_at => k_is)
    (case a_M_offerer => k_is)
    (case i_M_offerer => k_is)
    (case l_M_offerer => k_is)
    (case c_M_offerer => k_is)
    (case k_M_offerer => k_is)
    (case a_M_offer => k_is)
    (case i_M_offer => k_is)
    (case l_M_offer => k_is)
    (case c_M_offer => k_is)
    (case k_M_offer => k_is)
    (case a_M_say => k_is)
    (case i_M_say => k_is)
    (case l_M_say => k_is)
    (case c_M_say => k_is)
    (case k_M_say => k_is)
    (case a_M_wait => k_is)
    (case i_M_wait => k_is)
    (case l_M_wait => k_is)
    (case c_M_wait => k_is)
    (case k_M_wait => k_is)
    (case a_M_begin_round => k_is)
    (case i_M_begin_round => k_is)
    (case l_M_begin_round => k_is)
    (case c_M_begin_round => k_is)
    (case k_M_begin_round => k_is)
    (case a_M_vote_first => k_is)
    (case i_M_vote_first => k_is)
    (case l_M_vote_first => k_is)
    (case c_M_vote_first => k_is)
    (case k_M_vote_first => k_is)
    (case a_M_vote_second => k_is)
    (case i_M_vote_second => k_is)
    (case l_M_vote_second => k_is)
    (case c_M_vote_second => k_is)
    (case k_M_vote_second => k_is)
    (case a_M_has_enough => k_is)
    (case i_M_has_enough => k_is)
    (case l_M_has_enough => k_is)
    (case c_M_has_enough => k_is)
    (case k_M_has_enough => k_is)
    (case a_decide => k_is)
    (case l_decide => k_is)
    (case c_decide => k_is)
    (case k_decide => k_is)
    (case a_catch_up => k_is)
    (case l_catch_up => k_is)
    (case c_catch_up => k_is)
    (case k_catch_up => k_is)
    (case a_is_backed => k_is)
    (case l_is_backed => k_is)
    (case c_is_backed => k_is)
    (case k_is_backed => k_is)
    (case a_answer_offer => k_is)
    (case l_answer_offer => k_is)
    (case c_answer_offer => k_is)
    (case k_answer_offer => k_is)
    (case a_lock_on_offer => k_is)
    (case l_lock_on_offer => k_is)
    (case c_lock_on_offer => k_is)
    (case k_lock_on_offer => k_is)
    (case a_give_up => k_is)
    (case l_give_up => k_is)
    (case c_give_up => k_is)
    (case k_give_up => k_is)
    (case a_wait_for_first => k_is)
    (case l_wait_for_first => k_is)
    (case c_wait_for_first => k_is)
    (case k_wait_for_first => k_is)
    (case a_wait_for_second => k_is)
    (case l_wait_for_second => k_is)
    (case c_wait_for_second => k_is)
    (case k_wait_for_second => k_is)
    (case a_keep_rules => k_is)
    (case l_keep_rules => k_is)
    (case c_keep_rules => k_is)
    (case k_keep_rules => k_is)
    (case a_be_late => k_is)
    (case l_be_late => k_is)
    (case c_be_late => k_is)
    (case k_be_late => k_is)
    (case a_P_init => k_is)
    (case i_P_init => k_is)
    (case l_P_init => k_is)
    (case c_P_init => k_is)
    (case k_P_init => k_is)
    (case a_is_value => k_is)
    (case l_is_value => k_is)
    (case c_is_value => k_is)
    (case k_is_value => k_is)
    (case a_is_height => k_is)
    (case l_is_height => k_is)
    (case c_is_height => k_is)
    (case k_is_height => k_is)
    (case a_is_round => k_is)
    (case l_is_round => k_is)
    (case c_is_round => k_is)
    (case k_is_round => k_is)
    (case a_new => k_is)
    (case l_new => k_is)
    (case c_new => k_is)
    (case k_new => k_is)
    (case a_offers => k_is)
    (case l_offers => k_is)
    (case c_offers => k_is)
    (case k_offers => k_is)
    (case a_told => k_is)
    (case l_told => k_is)
    (case c_told => k_is)
    (case k_told => k_is)
    (case a_begin => k_is)
    (case l_begin => k_is)
    (case c_begin => k_is)
    (case k_begin => k_is)
    (case a_is_message => k_is)
    (case l_is_message => k_is)
    (case c_is_message => k_is)
    (case k_is_message => k_is)
    (case a_hears => k_is)
    (case l_hears => k_is)
    (case c_hears => k_is)
    (case k_hears => k_is)
    (case a_late => k_is)
    (case l_late => k_is)
    (case c_late => k_is)
    (case k_late => k_is)
    (case a_decided => k_is)
    (case l_decided => k_is)
    (case c_decided => k_is)
    (case k_decided => k_is)
    (case a_state => k_is)
    (case l_state => k_is)
    (case c_state => k_is)
    (case k_state => k_is)
    (case a_answer_of => k_is)
    (case l_answer_of => k_is)
    (case c_answer_of => k_is)
    (case k_answer_of => k_is)
    (case a_answers => k_is)
    (case l_answers => k_is)
    (case c_answers => k_is)
    (case k_answers => k_is)
  case S =>
    intro K H xs a hO hwi hask hx
    cases hx with
    | cons h1 h2 =>
      cases h2
      cases h1 with
      | lst hs ha =>
        have e := L2.ints_dw a.1 _ ha
        subst e
        exact ⟨_, a.1, rfl, hs, hask, fun H' p hp => .lst (L2.SqL.of hp) (L2.dw_ints _)⟩
#print axioms PySem.Challenge.cw_agreemost_s01_answers_holds
