import PyProof.Rows.All
import Wide.All
import OpenK.AllK
import Wide.FinOn
import HandS.Text
import HandS.ForMost
import HandS.Exc
import HandS.ExcOwn
import HandS.WordsExc
import HandS.TryOnly
import KE.GoesComp
import KE.GoesRaise
import HandS.Wide
import HandS.IsInst
import HandS.ExcIs
import PySem.Challenge.RW_midlanes_k73_whole_one_lane_text
set_option Elab.async false
set_option linter.all false
set_option maxRecDepth 100000
set_option maxHeartbeats 4000000
/-! The law, kept: the plain law of lanes and texts (Ln), a few rules of our own (L2), what each def computes, the head. -/
section
set_option exponentiation.threshold 4000
/-! The plain law, part 1: numbers as texts. -/
namespace Ln
open PySem L2 TL
open PySem.NumText (AllDigits digitsVal)

/-- a number as a text -/
def num (n : Int) : Str := Str.ofString (toString n)
def numI (n : Int) : List Nat := if n < 0 then 45 :: numL n.natAbs else numL n.natAbs
theorem tl_numI (n : Int) : tl (num n) = numI n := by
  unfold numI num
  cases n with
  | ofNat m =>
    rw [if_neg (by exact Int.not_lt.mpr (Int.natCast_nonneg m))]
    exact tl_num m
  | negSucc m =>
    rw [if_pos (Int.negSucc_lt_zero m)]
    rw [tl_ofString]
    have e : toString (Int.negSucc m) = "-" ++ Nat.repr (m + 1) := rfl
    rw [e, String.toList_append, List.map_append, Nat.toList_repr]
    rfl
theorem pow_numL : ∀ m : Nat, m < 10 ^ (numL m).length := by
  intro m
  induction m using Nat.strongRecOn with
  | _ n ih =>
    by_cases h : n < 10
    · rw [numL_lt h]
      show n < 10 ^ 1
      omega
    · rw [numL_step (by omega)]
      have := ih (n / 10) (by omega)
      rw [List.length_append, List.length_singleton, Nat.pow_succ]
      omega
theorem head_numL : ∀ m : Nat, 0 < m → ∃ c r, numL m = c :: r ∧ 49 ≤ c := by
  intro m
  induction m using Nat.strongRecOn with
  | _ n ih =>
    intro h0
    by_cases h : n < 10
    · exact ⟨48 + n, [], numL_lt h, by omega⟩
    · obtain ⟨c, r, e, hc⟩ := ih (n / 10) (by omega) (by omega)
      exact ⟨c, r ++ [48 + n % 10], by rw [numL_step (by omega), e]; rfl, hc⟩
theorem numL_digitsVal {cs : List Nat} (h : AllDigits cs) (hne : cs ≠ []) (hh : cs.length = 1 ∨ ∃ c r, cs = c :: r ∧ 49 ≤ c) : numL (digitsVal cs) = cs := by
  obtain ⟨n, hn⟩ : ∃ n, cs.length = n + 1 := ⟨cs.length - 1, by
    have := List.length_pos_iff.mpr hne
    omega⟩
  have e := NumText.toDigits_digitsVal n cs hn h (by
    rcases hh with h | h
    · exact .inl (by omega)
    · exact .inr h)
  unfold numL
  rw [e, List.map_map]
  have : ∀ l : List Nat, AllDigits l → l.map (Char.toNat ∘ Char.ofNat) = l := by
    intro l
    induction l with
    | nil => intro _; rfl
    | cons c r ih =>
      intro h
      rw [List.map_cons, ih h.tail]
      have hc := h.head
      have : (Char.toNat ∘ Char.ofNat) c = c := by
        show (Char.ofNat c).toNat = c
        have hv : c.isValidChar := .inl (by omega)
        unfold Char.ofNat
        rw [dif_pos hv]
        rfl
      rw [this]
  exact this cs h

/-- a number's figures: up to 300 -/
def NumOk (n : Int) : Prop := (numL n.natAbs).length ≤ 300
theorem numOk_log {n : Int} (h : NumOk n) : n.natAbs.log2 < 1920 := by
  have h1 := pow_numL n.natAbs
  have h2 : n.natAbs < 10 ^ 300 := Nat.lt_of_lt_of_le h1 (Nat.pow_le_pow_right (by decide) h)
  by_cases z : n.natAbs = 0
  · rw [z]; decide
  · exact (Nat.log2_lt z).mpr (Nat.lt_of_lt_of_le h2 (by decide +kernel))
theorem numOk_of {n : Int} {k : Nat} (hk : 0 < k) (h3 : k ≤ 300) (h : n.natAbs < 10 ^ k) : NumOk n := Nat.le_trans (numL_len hk h) h3
theorem numI_len {n : Int} : (numI n).length ≤ (numL n.natAbs).length + 1 := by
  unfold numI
  split
  · exact Nat.le_refl _
  · exact Nat.le_succ _
theorem num_len {n : Int} : (num n).length ≤ (numL n.natAbs).length + 1 := by
  rw [len_tl, tl_numI]
  exact numI_len
theorem numI_free {n : Int} {s : Nat} (h : s < 48 ∨ 57 < s) (h' : s ≠ 45) : s ∉ numI n := by
  unfold numI
  split
  · intro q
    rcases List.mem_cons.mp q with q | q
    · exact h' q
    · exact numL_free h q
  · exact numL_free h

/-- the figures of a text: without a - ahead -/
def figsL (l : List Nat) : List Nat := if l.head? = some 45 then l.tail else l
/-- read_whole -/
def wholeL (l : List Nat) (most : Nat) : Option Int :=
  if figsL l = [] ∨ most < (figsL l).length then none
  else if ∃ c ∈ figsL l, ¬ (48 ≤ c ∧ c ≤ 57) then none
  else if (figsL l).head? = some 48 ∧ 1 < l.length then none
  else some (if l.head? = some 45 then -((digitsVal (figsL l) : Nat) : Int) else ((digitsVal (figsL l) : Nat) : Int))
def readWhole (t : Str) (most : Nat) : Option Int := wholeL (tl t) most

theorem whole_back {l : List Nat} {most : Nat} {n : Int} (h : wholeL l most = some n) : l = numI n ∧ (numL n.natAbs).length ≤ most := by
  unfold wholeL at h
  split at h
  · cases h
  · rename_i h1
    split at h
    · cases h
    · rename_i h2
      split at h
      · cases h
      · rename_i h3
        have hne : figsL l ≠ [] := fun e => h1 (.inl e)
        have hle : (figsL l).length ≤ most := Nat.le_of_not_lt fun e => h1 (.inr e)
        have hd : AllDigits (figsL l) := fun c hc => Decidable.byContradiction fun q => h2 ⟨c, hc, q⟩
        have key : (figsL l).length = 1 ∧ l.head? ≠ some 45 ∨ ∃ c r, figsL l = c :: r ∧ 49 ≤ c := by
          cases e : figsL l with
          | nil => exact absurd e hne
          | cons c r =>
            by_cases hc : c = 48
            · left
              have hl : ¬ 1 < l.length := fun q => h3 ⟨by rw [e, hc]; rfl, q⟩
              have hm : l.head? ≠ some 45 := by
                intro q
                have e' : figsL l = l.tail := by unfold figsL; rw [if_pos q]
                rw [e'] at e
                have : l.tail.length = r.length + 1 := by rw [e]; rfl
                rw [List.length_tail] at this
                omega
              refine ⟨?_, hm⟩
              have e' : figsL l = l := by unfold figsL; rw [if_neg hm]
              rw [e'] at e
              have : l.length = r.length + 1 := by rw [e]; rfl
              rw [List.length_cons]
              omega
            · right
              have := (hd c (by rw [e]; exact List.mem_cons_self)).1
              exact ⟨c, r, rfl, by omega⟩
        have back : numL (digitsVal (figsL l)) = figsL l := numL_digitsVal hd hne (by
          rcases key with k | k
          · exact .inl k.1
          · exact .inr k)
        have e := Option.some.inj h
        by_cases hm : l.head? = some 45
        · rw [if_pos hm] at e
          have e' : figsL l = l.tail := by unfold figsL; rw [if_pos hm]
          have hpos : 0 < digitsVal (figsL l) := by
            rcases key with k | ⟨c, r, ec, h49⟩
            · exact absurd hm k.2
            · rw [ec]; exact NumText.digitsVal_pos h49
          have na : n.natAbs = digitsVal (figsL l) := by omega
          have hneg : n < 0 := by omega
          refine ⟨?_, by rw [na, back]; exact hle⟩
          unfold numI
          rw [if_pos hneg, na, back, e']
          cases l with
          | nil => cases hm
          | cons c r =>
            have : c = 45 := Option.some.inj hm
            rw [this]; rfl
        · rw [if_neg hm] at e
          have e' : figsL l = l := by unfold figsL; rw [if_neg hm]
          have na : n.natAbs = digitsVal (figsL l) := by omega
          refine ⟨?_, by rw [na, back]; exact hle⟩
          unfold numI
          rw [if_neg (by omega), na, back, e']

theorem whole_fwd {n : Int} {most : Nat} (h : (numL n.natAbs).length ≤ most) : wholeL (numI n) most = some n := by
  have hd := numL_digits n.natAbs
  have hne := numL_ne n.natAbs
  by_cases hn : n < 0
  · have e : numI n = 45 :: numL n.natAbs := by unfold numI; rw [if_pos hn]
    have ef : figsL (numI n) = numL n.natAbs := by rw [e]; rfl
    unfold wholeL
    rw [ef, if_neg (by rintro (q | q); exact hne q; omega), if_neg (by rintro ⟨c, hc, q⟩; exact q (hd c hc)), if_neg (by
      rintro ⟨q, _⟩
      obtain ⟨c, r, ec, h49⟩ := head_numL n.natAbs (by omega)
      rw [ec] at q
      have : c = 48 := Option.some.inj q
      omega), e]
    rw [if_pos (show (45 :: numL n.natAbs).head? = some 45 from rfl), numL_val]
    exact congrArg some (by omega)
  · have e : numI n = numL n.natAbs := by unfold numI; rw [if_neg hn]
    have hm : (numL n.natAbs).head? ≠ some 45 := by
      intro q
      have := hd 45 (List.mem_of_mem_head? (by rw [q]; rfl))
      omega
    have ef : figsL (numI n) = numL n.natAbs := by rw [e]; unfold figsL; rw [if_neg hm]
    unfold wholeL
    rw [ef, if_neg (by rintro (q | q); exact hne q; omega), if_neg (by rintro ⟨c, hc, q⟩; exact q (hd c hc)), if_neg (by
      rintro ⟨q, hl⟩
      by_cases hz : n.natAbs = 0
      · rw [e, hz, numL_lt (by decide)] at hl
        simp at hl
      · obtain ⟨c, r, ec, h49⟩ := head_numL n.natAbs (by omega)
        rw [ec] at q
        have : c = 48 := Option.some.inj q
        omega), e]
    rw [if_neg hm, numL_val]
    exact congrArg some (by omega)
theorem readWhole_back {t : Str} {n : Int} (h : readWhole t 300 = some n) : t = num n ∧ NumOk n := by
  obtain ⟨e, z⟩ := whole_back h
  exact ⟨ext_tl (by rw [tl_numI]; exact e), z⟩
theorem readWhole_fwd {n : Int} (h : NumOk n) : readWhole (num n) 300 = some n := by
  unfold readWhole
  rw [tl_numI]
  exact whole_fwd h
end Ln
end
section
/-! The plain law, part 2: lanes as texts, written and read. -/
namespace Ln
open PySem L2 TL

/-! ### partial maps -/
def omap {α β : Type} (f : α → Option β) : List α → Option (List β)
  | [] => some []
  | a :: l => match f a with
    | none => none
    | some b => match omap f l with
      | none => none
      | some bs => some (b :: bs)
section
variable {α β : Type} {f : α → Option β}
theorem omap_cons_some {a : α} {l : List α} {bs : List β} (h : omap f (a :: l) = some bs) : ∃ b r, bs = b :: r ∧ f a = some b ∧ omap f l = some r := by
  unfold omap at h
  cases e : f a with
  | none => rw [e] at h; cases h
  | some b =>
    rw [e] at h
    cases e2 : omap f l with
    | none => rw [e2] at h; cases h
    | some r =>
      rw [e2] at h
      exact ⟨b, r, (Option.some.inj h).symm, rfl, rfl⟩
theorem omap_cons {a : α} {l : List α} {b : β} {r : List β} (h1 : f a = some b) (h2 : omap f l = some r) : omap f (a :: l) = some (b :: r) := by
  unfold omap
  rw [h1, h2]
theorem omap_none {x : α} : ∀ {l : List α} {i : Nat}, l[i]? = some x → f x = none → omap f l = none
  | [], i, h, _ => by simp at h
  | a :: l, 0, h, e => by
    have : a = x := Option.some.inj h
    subst this
    unfold omap
    rw [e]
  | a :: l, i + 1, h, e => by
    have ih := omap_none (l := l) (i := i) (by simpa using h) e
    unfold omap
    cases f a with
    | none => rfl
    | some b => rw [ih]
theorem omap_snoc {x : α} {y : β} : ∀ {l : List α} {r : List β}, omap f l = some r → f x = some y → omap f (l ++ [x]) = some (r ++ [y])
  | [], r, h, e => by
    have : ([] : List β) = r := Option.some.inj h
    subst this
    exact omap_cons e rfl
  | a :: l, r, h, e => by
    obtain ⟨b, r', rfl, h1, h2⟩ := omap_cons_some h
    exact omap_cons h1 (omap_snoc h2 e)
theorem omap_len : ∀ {l : List α} {r : List β}, omap f l = some r → r.length = l.length
  | [], r, h => by
    have : ([] : List β) = r := Option.some.inj h
    subst this
    rfl
  | a :: l, r, h => by
    obtain ⟨b, r', rfl, h1, h2⟩ := omap_cons_some h
    rw [List.length_cons, List.length_cons, omap_len h2]
/-- read back: each was written by g -/
theorem omap_back {g : β → α} {P : β → Prop} (hf : ∀ a b, f a = some b → a = g b ∧ P b) : ∀ {l : List α} {r : List β}, omap f l = some r → l = r.map g ∧ ∀ b ∈ r, P b
  | [], r, h => by
    have : ([] : List β) = r := Option.some.inj h
    subst this
    exact ⟨rfl, fun _ q => nomatch q⟩
  | a :: l, r, h => by
    obtain ⟨b, r', rfl, h1, h2⟩ := omap_cons_some h
    obtain ⟨e1, p1⟩ := hf a b h1
    obtain ⟨e2, p2⟩ := omap_back hf h2
    refine ⟨by rw [List.map_cons, ← e1, ← e2], fun c hc => ?_⟩
    rcases List.mem_cons.mp hc with q | q
    · rw [q]; exact p1
    · exact p2 c q
theorem omap_fwd {g : β → α} : ∀ {r : List β}, (∀ b ∈ r, f (g b) = some b) → omap f (r.map g) = some r
  | [], _ => rfl
  | b :: r, h => omap_cons (h b List.mem_cons_self) (omap_fwd fun c hc => h c (List.mem_cons_of_mem _ hc))
end

/-! ### lanes -/
abbrev Pair := Int × Int
abbrev Form := Int × List Pair
structure Edge where
  rows : Int
  moves : List Form
  k : Int
structure Frame where
  f : Int
  at_ : Int
  forms : List Form
structure Deed where
  word : Str
  nums : List Int
  edges : List Edge
structure Stand where
  many : Int
  paper : List Frame
  deed : Deed

def sColon : Str := ":"
def sSemi : Str := ";"
def sBlank : Str := " "
def sFeed : Str := "\n"

def pairText (p : Pair) : Str := num p.1 ++ sColon ++ num p.2
def formText (f : Form) : Str := Str.join sSemi (num f.1 :: f.2.map pairText)
def edgeText (e : Edge) : Str := Str.join sBlank (("edge" : Str) :: num e.rows :: num e.k :: e.moves.map formText)
def frameText (e : Frame) : Str := Str.join sBlank (("frame" : Str) :: num e.f :: num e.at_ :: e.forms.map formText)
def deedText (word : Str) (nums : List Int) : Str := Str.join sBlank (word :: nums.map num)
def standLines (s : Stand) : List Str :=
  Str.join sBlank [("stand" : Str), num s.many] :: (s.paper.map frameText ++ deedText s.deed.word s.deed.nums :: s.deed.edges.map edgeText)
def laneLines (L : List Stand) : List Str := (L.map standLines).flatten
def laneText (L : List Stand) : Str := Str.join sFeed (laneLines L)

def PairOk (p : Pair) : Prop := NumOk p.1 ∧ NumOk p.2
def FormOk (f : Form) : Prop := NumOk f.1 ∧ ∀ p ∈ f.2, PairOk p
def EdgeOk (e : Edge) : Prop := NumOk e.rows ∧ NumOk e.k ∧ ∀ f ∈ e.moves, FormOk f
def FrameOk (e : Frame) : Prop := NumOk e.f ∧ NumOk e.at_ ∧ ∀ f ∈ e.forms, FormOk f
/-- a deed's word, how many numbers, how many edges -/
def deedKind (word : Str) : Option (Nat × Nat) :=
  if word = "hold" then some (2, 1) else if word = "go" ∨ word = "tell" ∨ word = "take" then some (0, 1) else if word = "test" then some (0, 2) else if word = "leave" then some (0, 0) else none
def DeedOk (d : Deed) : Prop := deedKind d.word = some (d.nums.length, d.edges.length) ∧ (∀ n ∈ d.nums, NumOk n) ∧ ∀ e ∈ d.edges, EdgeOk e
def StandOk (s : Stand) : Prop := NumOk s.many ∧ (∀ e ∈ s.paper, FrameOk e) ∧ DeedOk s.deed
def LaneOk (L : List Stand) : Prop := L ≠ [] ∧ ∀ s ∈ L, StandOk s

/-! ### reading -/
def pairOf (one : Str) : Option Pair :=
  match Txt.split one sColon with
  | [a, w] => match readWhole a 300, readWhole w 300 with
    | some x, some y => some (x, y)
    | _, _ => none
  | _ => none
def formOf (t : Str) : Option Form :=
  match Txt.split t sSemi with
  | [] => none
  | s :: r => match omap pairOf r, readWhole s 300 with
    | some ps, some n => some (n, ps)
    | _, _ => none
/-- numbers_of(words, 2) -/
def nums2 (ws : List Str) : Option (Int × Int) :=
  match ws with
  | _ :: a :: b :: _ => match readWhole a 300, readWhole b 300 with
    | some x, some y => some (x, y)
    | _, _ => none
  | _ => none
def edgeOf (line : Str) : Option Edge :=
  if (Txt.split line sBlank).head? = some ("edge" : Str) then
    match nums2 (Txt.split line sBlank), omap formOf ((Txt.split line sBlank).drop 3) with
    | some (r, k), some fs => some ⟨r, fs, k⟩
    | _, _ => none
  else none
def frameOf (ws : List Str) : Option Frame :=
  match nums2 ws, omap formOf (ws.drop 3) with
  | some (f, a), some fs => some ⟨f, a, fs⟩
  | _, _ => none
def deedOf (ws : List Str) : Option (Str × List Int × Nat) :=
  if ws.head? = some ("hold" : Str) ∧ ws.length = 3 then
    match nums2 ws with
    | some (a, b) => some (("hold" : Str), [a, b], 1)
    | none => none
  else match ws with
    | [x] => if x = "go" ∨ x = "tell" ∨ x = "take" then some (x, [], 1) else if x = "test" then some (x, [], 2) else if x = "leave" then some (x, [], 0) else none
    | _ => none
def isFrame (l : Str) : Prop := (Txt.split l sBlank).head? = some ("frame" : Str)
instance (l : Str) : Decidable (isFrame l) := by unfold isFrame; infer_instance
def framesOf : List Str → Option (List Frame × List Str)
  | [] => some ([], [])
  | l :: r => if isFrame l then
      match frameOf (Txt.split l sBlank) with
      | none => none
      | some f => match framesOf r with
        | none => none
        | some (fs, r') => some (f :: fs, r')
    else some ([], l :: r)
def standOf (ls : List Str) : Option (Stand × List Str) :=
  match ls with
  | [] => none
  | l :: r => match Txt.split l sBlank with
    | [w, m] => if w = "stand" then
        match framesOf r with
        | none => none
        | some (_, []) => none
        | some (fs, d :: r2) => match deedOf (Txt.split d sBlank) with
          | none => none
          | some (x, ns, e) => if r2.length < e then none else
              match omap edgeOf (r2.take e), readWhole m 300 with
              | some es, some n => some (⟨n, fs, ⟨x, ns, es⟩⟩, r2.drop e)
              | _, _ => none
      else none
    | _ => none
def lanesN : Nat → List Str → Option (List Stand)
  | _, [] => some []
  | 0, _ :: _ => none
  | n + 1, l :: r => match standOf (l :: r) with
    | none => none
    | some (s, r') => match lanesN n r' with
      | none => none
      | some L => some (s :: L)
def lanes (ls : List Str) : Option (List Stand) := lanesN ls.length ls
def readLane (t : Str) : Option (List Stand) := lanes (Txt.split t sFeed)

/-! ### signs -/
theorem tl_colon : tl sColon = [58] := by unfold sColon; rw [tl_ofString]; rfl
theorem tl_semi : tl sSemi = [59] := by unfold sSemi; rw [tl_ofString]; rfl
theorem tl_blank : tl sBlank = [32] := by unfold sBlank; rw [tl_ofString]; rfl
theorem tl_feed : tl sFeed = [10] := by unfold sFeed; rw [tl_ofString]; rfl
theorem mem_joinL {S : List Nat} {c : Nat} : ∀ {ps : List (List Nat)}, c ∈ joinL S ps → c ∈ S ∨ ∃ p ∈ ps, c ∈ p
  | [], h => nomatch h
  | [p], h => .inr ⟨p, List.mem_cons_self, h⟩
  | p :: q :: r, h => by
    have h' : c ∈ p ++ (S ++ joinL S (q :: r)) := h
    rcases List.mem_append.mp h' with h | h
    · exact .inr ⟨p, List.mem_cons_self, h⟩
    · rcases List.mem_append.mp h with h | h
      · exact .inl h
      · rcases mem_joinL (ps := q :: r) h with h | ⟨z, hz, h⟩
        · exact .inl h
        · exact .inr ⟨z, List.mem_cons_of_mem _ hz, h⟩
/-- the sign c is not in the text -/
def Free (c : Nat) (t : Str) : Prop := c ∉ tl t
theorem Free.join {c : Nat} {y : Str} {ps : List Str} (h1 : Free c y) (h2 : ∀ p ∈ ps, Free c p) : Free c (Str.join y ps) := by
  unfold Free
  rw [tl_join]
  intro q
  rcases mem_joinL q with q | ⟨z, hz, q⟩
  · exact h1 q
  · obtain ⟨p, hp, rfl⟩ := List.mem_map.mp hz
    exact h2 p hp q
theorem Free.app {c : Nat} {x y : Str} (h1 : Free c x) (h2 : Free c y) : Free c (x ++ y) := by
  unfold Free
  rw [tl_append]
  intro q
  rcases List.mem_append.mp q with q | q
  · exact h1 q
  · exact h2 q
theorem Free.num {c : Nat} {n : Int} (h : c < 48 ∨ 57 < c) (h' : c ≠ 45) : Free c (num n) := by
  unfold Free
  rw [tl_numI]
  exact numI_free h h'
theorem free_pair {c : Nat} {p : Pair} (h : c = 32 ∨ c = 10 ∨ c = 59) : Free c (pairText p) := by
  refine ((Free.num ?_ ?_).app ?_).app (Free.num ?_ ?_)
  · omega
  · omega
  · unfold Free; rw [tl_colon]
    rcases h with rfl | rfl | rfl <;> decide
  · omega
  · omega
theorem free_form {c : Nat} {f : Form} (h : c = 32 ∨ c = 10) : Free c (formText f) := by
  refine Free.join ?_ fun p hp => ?_
  · unfold Free; rw [tl_semi]
    rcases h with rfl | rfl <;> decide
  · rcases List.mem_cons.mp hp with rfl | hp
    · exact Free.num (by omega) (by omega)
    · obtain ⟨q, _, rfl⟩ := List.mem_map.mp hp
      exact free_pair (by omega)
theorem free_feed_blank : Free 10 sBlank := by unfold Free; rw [tl_blank]; decide
theorem free_str {c : Nat} {s : String} (h : (s.toList.map Char.toNat).contains c = false) : Free c (Str.ofString s) := by
  unfold Free
  rw [tl_ofString]
  intro q
  rw [List.contains_iff_mem.mpr q] at h
  cases h
theorem free_words {w : Str} {a b : Int} {fs : List Form} (hw : Free 10 w) : Free 10 (Str.join sBlank (w :: num a :: num b :: fs.map formText)) := by
  refine Free.join free_feed_blank fun p hp => ?_
  rcases List.mem_cons.mp hp with rfl | hp
  · exact hw
  · rcases List.mem_cons.mp hp with rfl | hp
    · exact Free.num (by omega) (by omega)
    · rcases List.mem_cons.mp hp with rfl | hp
      · exact Free.num (by omega) (by omega)
      · obtain ⟨q, _, rfl⟩ := List.mem_map.mp hp
        exact free_form (by omega)
theorem kind_free {w : Str} {k : Nat × Nat} (h : deedKind w = some k) : Free 10 w ∧ Free 32 w := by
  unfold deedKind at h
  split at h
  · rename_i e; subst e; exact ⟨free_str (by decide +kernel), free_str (by decide +kernel)⟩
  · split at h
    · rename_i e
      rcases e with rfl | rfl | rfl <;> exact ⟨free_str (by decide +kernel), free_str (by decide +kernel)⟩
    · split at h
      · rename_i e; subst e; exact ⟨free_str (by decide +kernel), free_str (by decide +kernel)⟩
      · split at h
        · rename_i e; subst e; exact ⟨free_str (by decide +kernel), free_str (by decide +kernel)⟩
        · cases h
theorem free_deed {d : Deed} (h : DeedOk d) : Free 10 (deedText d.word d.nums) := by
  refine Free.join free_feed_blank fun p hp => ?_
  rcases List.mem_cons.mp hp with rfl | hp
  · exact (kind_free h.1).1
  · obtain ⟨q, _, rfl⟩ := List.mem_map.mp hp
    exact Free.num (by omega) (by omega)
theorem free_stand {s : Stand} (h : StandOk s) : ∀ l ∈ standLines s, Free 10 l := by
  intro l hl
  rcases List.mem_cons.mp hl with rfl | hl
  · refine Free.join free_feed_blank fun p hp => ?_
    rcases List.mem_cons.mp hp with rfl | hp
    · exact free_str (by decide +kernel)
    · rcases List.mem_cons.mp hp with rfl | hp
      · exact Free.num (by omega) (by omega)
      · cases hp
  · rcases List.mem_append.mp hl with hl | hl
    · obtain ⟨q, _, rfl⟩ := List.mem_map.mp hl
      exact free_words (free_str (by decide +kernel))
    · rcases List.mem_cons.mp hl with rfl | hl
      · exact free_deed h.2.2
      · obtain ⟨q, _, rfl⟩ := List.mem_map.mp hl
        exact free_words (free_str (by decide +kernel))

/-! ### split and join -/
theorem split_back (t y : Str) : t = Str.join y (Txt.split t y) := (StrLaws.join_split t y).symm
theorem split_fwd {y : Str} {c : Nat} (ey : tl y = [c]) (hc : c < 256) {ps : List Str} (hne : ps ≠ []) (h : ∀ p ∈ ps, Free c p) : Txt.split (Str.join y ps) y = ps := by
  rw [← join_eq]
  refine split_join ey ?_ hne h
  have : y.cps = #[c] := by
    have e : y.cps.toList = [c] := ey
    exact Array.toList_inj.mp e
  rw [this]
  simp [hc]
theorem split_ne (t y : Str) (hy : tl y ≠ []) : Txt.split t y ≠ [] := by
  intro e
  unfold Txt.split at e
  split at e
  · cases e
  · split at e
    · cases e
    · rw [StrLaws.partsBetween_eq] at e
      obtain ⟨p, r, q⟩ := StrLaws.partsFrom_ne t y.length 0 (Builtin.Str.occurrences t y 0 t.length (t.length + 1))
      first
        | (rw [q] at e; cases e)
        | skip
end Ln
end
section
/-! The plain law, part 3: what is read was written, what was written is read. -/
namespace Ln
open PySem L2 TL

/-! ### back -/
theorem pairOf_back {t : Str} {p : Pair} (h : pairOf t = some p) : t = pairText p ∧ PairOk p := by
  unfold pairOf at h
  split at h
  · rename_i a w e
    split at h
    · rename_i x y e1 e2
      obtain ⟨a1, a2⟩ := readWhole_back e1
      obtain ⟨b1, b2⟩ := readWhole_back e2
      have hp := Option.some.inj h
      subst hp
      refine ⟨?_, a2, b2⟩
      rw [split_back t sColon, e, a1, b1]
      rfl
    · cases h
  · cases h
theorem formOf_back {t : Str} {f : Form} (h : formOf t = some f) : t = formText f ∧ FormOk f := by
  unfold formOf at h
  split at h
  · cases h
  · rename_i s r e
    split at h
    · rename_i ps n e1 e2
      obtain ⟨a1, a2⟩ := readWhole_back e2
      obtain ⟨b1, b2⟩ := omap_back (g := pairText) (P := PairOk) (fun _ _ => pairOf_back) e1
      have hp := Option.some.inj h
      subst hp
      refine ⟨?_, a2, b2⟩
      rw [split_back t sSemi, e, a1, b1]
      rfl
    · cases h
theorem nums2_back {ws : List Str} {x y : Int} (h : nums2 ws = some (x, y)) : ∃ w r, ws = w :: num x :: num y :: r ∧ NumOk x ∧ NumOk y := by
  unfold nums2 at h
  split at h
  · rename_i w a b r
    split at h
    · rename_i e1 e2
      obtain ⟨a1, a2⟩ := readWhole_back e1
      obtain ⟨b1, b2⟩ := readWhole_back e2
      have hp := Option.some.inj h
      obtain ⟨rfl, rfl⟩ := Prod.mk.inj hp
      exact ⟨w, r, by rw [a1, b1], a2, b2⟩
    · cases h
  · cases h
theorem forms_back {l : List Str} {fs : List Form} (h : omap formOf l = some fs) : l = fs.map formText ∧ ∀ f ∈ fs, FormOk f :=
  omap_back (g := formText) (P := FormOk) (fun _ _ => formOf_back) h
theorem edgeOf_back {t : Str} {e : Edge} (h : edgeOf t = some e) : t = edgeText e ∧ EdgeOk e := by
  unfold edgeOf at h
  split at h
  · rename_i hh
    split at h
    · rename_i r k fs e1 e2
      obtain ⟨w, rr, ew, n1, n2⟩ := nums2_back e1
      have hp := Option.some.inj h
      subst hp
      rw [ew] at hh e2
      have hw : w = ("edge" : Str) := Option.some.inj hh
      obtain ⟨f1, f2⟩ := forms_back e2
      have f1 : rr = fs.map formText := f1
      refine ⟨?_, n1, n2, f2⟩
      rw [split_back t sBlank, ew, hw, f1]
      rfl
    · cases h
  · cases h
theorem frameOf_back {t : Str} {e : Frame} (hh : isFrame t) (h : frameOf (Txt.split t sBlank) = some e) : t = frameText e ∧ FrameOk e := by
  unfold isFrame at hh
  unfold frameOf at h
  split at h
  · rename_i r k fs e1 e2
    obtain ⟨w, rr, ew, n1, n2⟩ := nums2_back e1
    have hp := Option.some.inj h
    subst hp
    rw [ew] at hh e2
    have hw : w = ("frame" : Str) := Option.some.inj hh
    obtain ⟨f1, f2⟩ := forms_back e2
    have f1 : rr = fs.map formText := f1
    refine ⟨?_, n1, n2, f2⟩
    rw [split_back t sBlank, ew, hw, f1]
    rfl
  · cases h
theorem kind_hold : deedKind "hold" = some (2, 1) := by unfold deedKind; rw [if_pos rfl]
theorem deedOf_back {ws : List Str} {x : Str} {ns : List Int} {e : Nat} (h : deedOf ws = some (x, ns, e)) : ws = x :: ns.map num ∧ deedKind x = some (ns.length, e) ∧ ∀ n ∈ ns, NumOk n := by
  unfold deedOf at h
  split at h
  · rename_i hh
    split at h
    · rename_i a b e1
      obtain ⟨w, r, ew, n1, n2⟩ := nums2_back e1
      have hp := Option.some.inj h
      obtain ⟨ex, hp⟩ := Prod.mk.inj hp
      obtain ⟨rfl, rfl⟩ := Prod.mk.inj hp
      subst ex
      rw [ew] at hh
      have hw : w = ("hold" : Str) := Option.some.inj hh.1
      have hr : r = [] := by
        have := hh.2
        simp only [List.length_cons] at this
        exact List.length_eq_zero_iff.mp (by omega)
      refine ⟨by rw [ew, hw, hr]; rfl, kind_hold, fun n hn => ?_⟩
      rcases List.mem_cons.mp hn with rfl | hn
      · exact n1
      · rcases List.mem_cons.mp hn with rfl | hn
        · exact n2
        · cases hn
    · cases h
  · rename_i hh
    split at h
    · rename_i y
      have nh : ∀ (P : Prop), y = ("hold" : Str) → deedKind y = some (2, 1) := fun _ q => by rw [q]; exact kind_hold
      split at h
      · rename_i c
        have hp := Option.some.inj h
        obtain ⟨ex, hp⟩ := Prod.mk.inj hp
        obtain ⟨rfl, rfl⟩ := Prod.mk.inj hp
        subst ex
        refine ⟨rfl, ?_, fun _ q => nomatch q⟩
        unfold deedKind
        rw [if_neg (by rintro rfl; revert c; decide +kernel), if_pos c]
        rfl
      · rename_i c
        split at h
        · rename_i c2
          have hp := Option.some.inj h
          obtain ⟨ex, hp⟩ := Prod.mk.inj hp
          obtain ⟨rfl, rfl⟩ := Prod.mk.inj hp
          subst ex
          refine ⟨rfl, ?_, fun _ q => nomatch q⟩
          unfold deedKind
          rw [if_neg (by rw [c2]; decide +kernel), if_neg c, if_pos c2]
          rfl
        · rename_i c2
          split at h
          · rename_i c3
            have hp := Option.some.inj h
            obtain ⟨ex, hp⟩ := Prod.mk.inj hp
            obtain ⟨rfl, rfl⟩ := Prod.mk.inj hp
            subst ex
            refine ⟨rfl, ?_, fun _ q => nomatch q⟩
            unfold deedKind
            rw [if_neg (by rw [c3]; decide +kernel), if_neg c, if_neg c2, if_pos c3]
            rfl
          · cases h
    · cases h
theorem framesOf_back : ∀ {ls : List Str} {fs : List Frame} {r : List Str}, framesOf ls = some (fs, r) → ls = fs.map frameText ++ r ∧ (∀ e ∈ fs, FrameOk e) ∧ ∀ l r', r = l :: r' → ¬ isFrame l
  | [], fs, r, h => by
    have hp := Option.some.inj h
    obtain ⟨rfl, rfl⟩ := Prod.mk.inj hp
    exact ⟨rfl, (fun _ q => nomatch q), (fun _ _ q => nomatch q)⟩
  | l :: ls, fs, r, h => by
    unfold framesOf at h
    split at h
    · rename_i hh
      split at h
      · cases h
      · rename_i f e1
        split at h
        · cases h
        · rename_i fs' r' e2
          have hp := Option.some.inj h
          obtain ⟨rfl, rfl⟩ := Prod.mk.inj hp
          obtain ⟨b1, b2, b3⟩ := framesOf_back e2
          obtain ⟨c1, c2⟩ := frameOf_back hh e1
          refine ⟨by rw [List.map_cons, ← c1, List.cons_append, ← b1], fun e he => ?_, b3⟩
          rcases List.mem_cons.mp he with rfl | he
          · exact c2
          · exact b2 e he
    · rename_i hh
      have hp := Option.some.inj h
      obtain ⟨rfl, rfl⟩ := Prod.mk.inj hp
      exact ⟨rfl, (fun _ q => nomatch q), fun l' r' q => by injection q with q1 _; rw [← q1]; exact hh⟩
theorem standOf_back {ls r : List Str} {s : Stand} (h : standOf ls = some (s, r)) : ls = standLines s ++ r ∧ StandOk s := by
  unfold standOf at h
  split at h
  · cases h
  · rename_i l rest
    split at h
    · rename_i w m e0
      split at h
      · rename_i hw
        split at h
        · cases h
        · cases h
        · rename_i fs d r2 e1
          split at h
          · cases h
          · rename_i x ns e e2
            split at h
            · cases h
            · rename_i hl
              split at h
              · rename_i es n e3 e4
                have hp := Option.some.inj h
                obtain ⟨rfl, rfl⟩ := Prod.mk.inj hp
                obtain ⟨a1, a2, _⟩ := framesOf_back e1
                obtain ⟨b1, b2, b3⟩ := deedOf_back e2
                obtain ⟨c1, c2⟩ := omap_back (g := edgeText) (P := EdgeOk) (fun _ _ => edgeOf_back) e3
                obtain ⟨d1, d2⟩ := readWhole_back e4
                have hes : es.length = e := by
                  rw [omap_len e3, List.length_take]
                  omega
                refine ⟨?_, d2, a2, ?_, b3, c2⟩
                · have t1 : l = Str.join sBlank [("stand" : Str), num n] := by rw [split_back l sBlank, e0, hw, d1]
                  have t2 : d = deedText x ns := by rw [split_back d sBlank, b1]; rfl
                  have t3 : r2 = es.map edgeText ++ r2.drop e := by
                    conv => lhs; rw [← List.take_append_drop e r2]
                    rw [c1]
                  show l :: rest = Str.join sBlank [("stand" : Str), num n] :: (fs.map frameText ++ deedText x ns :: es.map edgeText) ++ r2.drop e
                  rw [← t1, ← t2, List.cons_append, List.append_assoc, List.cons_append, ← t3, ← a1]
                · show deedKind x = some (ns.length, es.length)
                  rw [hes]
                  exact b2
              · cases h
      · cases h
    · cases h
theorem standOf_less {ls r : List Str} {s : Stand} (h : standOf ls = some (s, r)) : r.length < ls.length := by
  rw [(standOf_back h).1]
  show r.length < (Str.join sBlank [("stand" : Str), num s.many] :: (s.paper.map frameText ++ deedText s.deed.word s.deed.nums :: s.deed.edges.map edgeText) ++ r).length
  rw [List.cons_append, List.length_cons, List.length_append]
  omega
theorem lanesN_more : ∀ {n m : Nat} {ls : List Str}, ls.length ≤ n → ls.length ≤ m → lanesN n ls = lanesN m ls
  | 0, 0, [], _, _ => rfl
  | 0, _ + 1, [], _, _ => rfl
  | _ + 1, 0, [], _, _ => rfl
  | _ + 1, _ + 1, [], _, _ => rfl
  | 0, _, _ :: _, h, _ => by simp at h
  | _, 0, _ :: _, _, h => by simp at h
  | n + 1, m + 1, l :: r, h1, h2 => by
    unfold lanesN
    cases e : standOf (l :: r) with
    | none => rfl
    | some q =>
      obtain ⟨s, r'⟩ := q
      have hl := standOf_less e
      rw [List.length_cons] at h1 h2 hl
      show (match lanesN n r' with | none => none | some L => some (s :: L)) = (match lanesN m r' with | none => none | some L => some (s :: L))
      rw [lanesN_more (n := n) (m := m) (ls := r') (by omega) (by omega)]
theorem lanes_nil : lanes [] = some [] := rfl
theorem lanes_none {ls : List Str} (h : ls ≠ []) (e : standOf ls = none) : lanes ls = none := by
  cases ls with
  | nil => exact absurd rfl h
  | cons l r =>
    show lanesN (r.length + 1) (l :: r) = none
    unfold lanesN
    rw [e]
theorem lanes_some {ls r : List Str} {s : Stand} (e : standOf ls = some (s, r)) : lanes ls = (lanes r).map (s :: ·) := by
  have hl := standOf_less e
  cases ls with
  | nil => simp at hl
  | cons l r0 =>
    show lanesN (r0.length + 1) (l :: r0) = _
    rw [List.length_cons] at hl
    unfold lanesN
    rw [e]
    show (match lanesN r0.length r with | none => none | some L => some (s :: L)) = _
    rw [lanesN_more (n := r0.length) (m := r.length) (ls := r) (by omega) (Nat.le_refl _)]
    show _ = (lanesN r.length r).map (s :: ·)
    cases lanesN r.length r <;> rfl
theorem lanes_back : ∀ (n : Nat) {ls : List Str} {L : List Stand}, ls.length ≤ n → lanes ls = some L → ls = laneLines L ∧ ∀ s ∈ L, StandOk s
  | _, [], L, _, h => by
    have : ([] : List Stand) = L := Option.some.inj h
    subst this
    exact ⟨rfl, fun _ q => nomatch q⟩
  | 0, _ :: _, _, h, _ => by simp at h
  | n + 1, l :: r, L, hn, h => by
    cases e : standOf (l :: r) with
    | none => rw [lanes_none (by simp) e] at h; cases h
    | some q =>
      obtain ⟨s, r'⟩ := q
      have hl := standOf_less e
      rw [lanes_some e] at h
      cases e2 : lanes r' with
      | none => rw [e2] at h; cases h
      | some L' =>
        rw [e2] at h
        have hL : s :: L' = L := Option.some.inj h
        subst hL
        rw [List.length_cons] at hn hl
        obtain ⟨b1, b2⟩ := lanes_back n (ls := r') (by omega) e2
        obtain ⟨c1, c2⟩ := standOf_back e
        refine ⟨?_, fun x hx => ?_⟩
        · show l :: r = ((s :: L').map standLines).flatten
          rw [List.map_cons, List.flatten_cons, c1]
          exact congrArg _ b1
        · rcases List.mem_cons.mp hx with rfl | hx
          · exact c2
          · exact b2 x hx
/-- WHAT IS READ IS WHAT IS SHOWN OF IT -/
theorem readLane_back {t : Str} {L : List Stand} (h : readLane t = some L) : laneText L = t ∧ LaneOk L := by
  obtain ⟨b1, b2⟩ := lanes_back _ (Nat.le_refl _) h
  refine ⟨?_, ?_, b2⟩
  · show Str.join sFeed (laneLines L) = t
    rw [← b1]
    exact (split_back t sFeed).symm
  · rintro rfl
    exact split_ne t sFeed (by rw [tl_feed]; simp) b1

/-! ### forward -/
theorem pairOf_fwd {p : Pair} (h : PairOk p) : pairOf (pairText p) = some p := by
  have e : Txt.split (pairText p) sColon = [num p.1, num p.2] := by
    refine split_fwd (ps := [num p.1, num p.2]) tl_colon (by decide) (by simp) fun q hq => ?_
    rcases List.mem_cons.mp hq with rfl | hq
    · exact Free.num (by omega) (by omega)
    · rcases List.mem_cons.mp hq with rfl | hq
      · exact Free.num (by omega) (by omega)
      · cases hq
  unfold pairOf
  rw [e]
  show (match readWhole (num p.1) 300, readWhole (num p.2) 300 with | some x, some y => some (x, y) | _, _ => none) = some p
  rw [readWhole_fwd h.1, readWhole_fwd h.2]
theorem formOf_fwd {f : Form} (h : FormOk f) : formOf (formText f) = some f := by
  have e : Txt.split (formText f) sSemi = num f.1 :: f.2.map pairText := by
    refine split_fwd tl_semi (by decide) (by simp) fun q hq => ?_
    rcases List.mem_cons.mp hq with rfl | hq
    · exact Free.num (by omega) (by omega)
    · obtain ⟨p, _, rfl⟩ := List.mem_map.mp hq
      exact free_pair (by omega)
  unfold formOf
  rw [e]
  show (match omap pairOf (f.2.map pairText), readWhole (num f.1) 300 with | some ps, some n => some (n, ps) | _, _ => none) = some f
  rw [omap_fwd (g := pairText) fun p hp => pairOf_fwd (h.2 p hp), readWhole_fwd h.1]
theorem split_words {w : Str} {a b : Int} {fs : List Form} (hw : Free 32 w) : Txt.split (Str.join sBlank (w :: num a :: num b :: fs.map formText)) sBlank = w :: num a :: num b :: fs.map formText := by
  refine split_fwd tl_blank (by decide) (by simp) fun q hq => ?_
  rcases List.mem_cons.mp hq with rfl | hq
  · exact hw
  · rcases List.mem_cons.mp hq with rfl | hq
    · exact Free.num (by omega) (by omega)
    · rcases List.mem_cons.mp hq with rfl | hq
      · exact Free.num (by omega) (by omega)
      · obtain ⟨p, _, rfl⟩ := List.mem_map.mp hq
        exact free_form (by omega)
theorem nums2_fwd {w : Str} {a b : Int} {r : List Str} (ha : NumOk a) (hb : NumOk b) : nums2 (w :: num a :: num b :: r) = some (a, b) := by
  show (match readWhole (num a) 300, readWhole (num b) 300 with | some x, some y => some (x, y) | _, _ => none) = _
  rw [readWhole_fwd ha, readWhole_fwd hb]
theorem edgeOf_fwd {e : Edge} (h : EdgeOk e) : edgeOf (edgeText e) = some e := by
  have es : Txt.split (edgeText e) sBlank = ("edge" : Str) :: num e.rows :: num e.k :: e.moves.map formText := split_words (free_str (by decide +kernel))
  unfold edgeOf
  rw [es, if_pos (show (("edge" : Str) :: num e.rows :: num e.k :: e.moves.map formText).head? = some ("edge" : Str) from rfl), nums2_fwd h.1 h.2.1]
  show (match some (e.rows, e.k), omap formOf (e.moves.map formText) with | some (r, k), some fs => some (⟨r, fs, k⟩ : Edge) | _, _ => none) = _
  rw [omap_fwd (g := formText) fun p hp => formOf_fwd (h.2.2 p hp)]
theorem frame_words {e : Frame} : Txt.split (frameText e) sBlank = ("frame" : Str) :: num e.f :: num e.at_ :: e.forms.map formText := split_words (free_str (by decide +kernel))
theorem isFrame_fwd {e : Frame} : isFrame (frameText e) := by
  unfold isFrame
  rw [frame_words]
  rfl
theorem frameOf_fwd {e : Frame} (h : FrameOk e) : frameOf (Txt.split (frameText e) sBlank) = some e := by
  unfold frameOf
  rw [frame_words, nums2_fwd h.1 h.2.1]
  show (match some (e.f, e.at_), omap formOf (e.forms.map formText) with | some (f, a), some fs => some (⟨f, a, fs⟩ : Frame) | _, _ => none) = _
  rw [omap_fwd (g := formText) fun p hp => formOf_fwd (h.2.2 p hp)]
theorem deed_words {d : Deed} (h : DeedOk d) : Txt.split (deedText d.word d.nums) sBlank = d.word :: d.nums.map num := by
  refine split_fwd tl_blank (by decide) (by simp) fun q hq => ?_
  rcases List.mem_cons.mp hq with rfl | hq
  · exact (kind_free h.1).2
  · obtain ⟨p, _, rfl⟩ := List.mem_map.mp hq
    exact Free.num (by omega) (by omega)
theorem kind_cases {w : Str} {k : Nat × Nat} (h : deedKind w = some k) : (w = "hold" ∧ k = (2, 1)) ∨ ((w = "go" ∨ w = "tell" ∨ w = "take") ∧ k = (0, 1)) ∨ (w = "test" ∧ k = (0, 2)) ∨ (w = "leave" ∧ k = (0, 0)) := by
  unfold deedKind at h
  split at h
  · rename_i c; exact .inl ⟨c, (Option.some.inj h).symm⟩
  · split at h
    · rename_i c; exact .inr (.inl ⟨c, (Option.some.inj h).symm⟩)
    · split at h
      · rename_i c; exact .inr (.inr (.inl ⟨c, (Option.some.inj h).symm⟩))
      · split at h
        · rename_i c; exact .inr (.inr (.inr ⟨c, (Option.some.inj h).symm⟩))
        · cases h
theorem deedOf_fwd {d : Deed} (h : DeedOk d) : deedOf (d.word :: d.nums.map num) = some (d.word, d.nums, d.edges.length) := by
  obtain ⟨w, ns, es⟩ := d
  obtain ⟨hk, hn, _⟩ := h
  have hk : deedKind w = some (ns.length, es.length) := hk
  have hn : ∀ n ∈ ns, NumOk n := hn
  show deedOf (w :: ns.map num) = some (w, ns, es.length)
  rcases kind_cases hk with ⟨rfl, e⟩ | ⟨c, e⟩ | ⟨rfl, e⟩ | ⟨rfl, e⟩
  · obtain ⟨e1, e2⟩ := Prod.mk.inj e
    rw [e2]
    match ns, e1, hn with
    | [a, b], _, hn =>
      unfold deedOf
      rw [if_pos ⟨rfl, rfl⟩]
      show (match nums2 (("hold" : Str) :: num a :: num b :: []) with | some (a, b) => some (("hold" : Str), [a, b], 1) | none => none) = _
      rw [nums2_fwd (hn a (by simp)) (hn b (by simp))]
  all_goals
    obtain ⟨e1, e2⟩ := Prod.mk.inj e
    rw [e2]
    have : ns = [] := List.length_eq_zero_iff.mp e1
    subst this
    unfold deedOf
    rw [if_neg (by rintro ⟨_, q⟩; simp at q)]
  · show (if w = "go" ∨ w = "tell" ∨ w = "take" then some (w, ([] : List Int), 1) else _) = _
    rw [if_pos c]
  · show (if ("test" : Str) = "go" ∨ ("test" : Str) = "tell" ∨ ("test" : Str) = "take" then some (("test" : Str), ([] : List Int), 1) else if ("test" : Str) = "test" then some (("test" : Str), ([] : List Int), 2) else _) = _
    rw [if_neg (by decide +kernel), if_pos rfl]
  · show (if ("leave" : Str) = "go" ∨ ("leave" : Str) = "tell" ∨ ("leave" : Str) = "take" then some (("leave" : Str), ([] : List Int), 1) else if ("leave" : Str) = "test" then some (("leave" : Str), ([] : List Int), 2) else if ("leave" : Str) = "leave" then some (("leave" : Str), ([] : List Int), 0) else none) = _
    rw [if_neg (by decide +kernel), if_neg (by decide +kernel), if_pos rfl]
theorem kind_notFrame {d : Deed} (h : DeedOk d) : ¬ isFrame (deedText d.word d.nums) := by
  unfold isFrame
  rw [deed_words h]
  intro q
  have q : d.word = ("frame" : Str) := Option.some.inj q
  have hk := h.1
  rw [q] at hk
  rcases kind_cases hk with ⟨c, _⟩ | ⟨c, _⟩ | ⟨c, _⟩ | ⟨c, _⟩ <;> revert c <;> decide +kernel
theorem framesOf_fwd {d : Str} {r : List Str} (hd : ¬ isFrame d) : ∀ {fs : List Frame}, (∀ e ∈ fs, FrameOk e) → framesOf (fs.map frameText ++ d :: r) = some (fs, d :: r)
  | [], _ => by
    show framesOf (d :: r) = _
    unfold framesOf
    rw [if_neg hd]
  | f :: fs, h => by
    show framesOf (frameText f :: (fs.map frameText ++ d :: r)) = _
    unfold framesOf
    rw [if_pos isFrame_fwd, frameOf_fwd (h f List.mem_cons_self), framesOf_fwd hd fun e he => h e (List.mem_cons_of_mem _ he)]
theorem standOf_fwd {s : Stand} {r : List Str} (h : StandOk s) : standOf (standLines s ++ r) = some (s, r) := by
  obtain ⟨n, fs, d⟩ := s
  obtain ⟨h1, h2, h3⟩ := h
  have h1 : NumOk n := h1
  have h2 : ∀ e ∈ fs, FrameOk e := h2
  have h3 : DeedOk d := h3
  have e0 : Txt.split (Str.join sBlank [("stand" : Str), num n]) sBlank = [("stand" : Str), num n] := by
    refine split_fwd tl_blank (by decide) (by simp) fun q hq => ?_
    rcases List.mem_cons.mp hq with rfl | hq
    · exact free_str (by decide +kernel)
    · rcases List.mem_cons.mp hq with rfl | hq
      · exact Free.num (by omega) (by omega)
      · cases hq
  have el : standLines ⟨n, fs, d⟩ ++ r = Str.join sBlank [("stand" : Str), num n] :: (fs.map frameText ++ deedText d.word d.nums :: (d.edges.map edgeText ++ r)) := by
    show Str.join sBlank [("stand" : Str), num n] :: (fs.map frameText ++ deedText d.word d.nums :: d.edges.map edgeText) ++ r = _
    rw [List.cons_append, List.append_assoc, List.cons_append]
  rw [el]
  have ht : (d.edges.map edgeText ++ r).take d.edges.length = d.edges.map edgeText := by
    rw [List.take_append_of_le_length (by rw [List.length_map]; exact Nat.le_refl _), List.take_of_length_le (by rw [List.length_map]; exact Nat.le_refl _)]
  have hdr : (d.edges.map edgeText ++ r).drop d.edges.length = r := by
    rw [List.drop_append_of_le_length (by rw [List.length_map]; exact Nat.le_refl _), List.drop_of_length_le (by rw [List.length_map]; exact Nat.le_refl _), List.nil_append]
  have ee : omap edgeOf (d.edges.map edgeText) = some d.edges := omap_fwd (g := edgeText) fun p hp => edgeOf_fwd (h3.2.2 p hp)
  unfold standOf
  simp only [e0, if_true, framesOf_fwd (kind_notFrame h3) h2, deed_words h3, deedOf_fwd h3, ht, hdr, ee, readWhole_fwd h1]
  rw [if_neg (by rw [List.length_append, List.length_map]; omega)]
theorem lanes_fwd : ∀ {L : List Stand}, (∀ s ∈ L, StandOk s) → lanes (laneLines L) = some L
  | [], _ => rfl
  | s :: L, h => by
    have e : laneLines (s :: L) = standLines s ++ laneLines L := by
      unfold laneLines
      rw [List.map_cons, List.flatten_cons]
    rw [e, lanes_some (standOf_fwd (h s List.mem_cons_self)), lanes_fwd fun x hx => h x (List.mem_cons_of_mem _ hx)]
    rfl
/-- WHAT IS SHOWN OF A LANE IS READ AS THAT LANE -/
theorem readLane_fwd {L : List Stand} (h : LaneOk L) : readLane (laneText L) = some L := by
  unfold readLane laneText
  have e : Txt.split (Str.join sFeed (laneLines L)) sFeed = laneLines L := by
    refine split_fwd tl_feed (by decide) ?_ fun l hl => ?_
    · intro q
      cases L with
      | nil => exact h.1 rfl
      | cons s L =>
        have e : laneLines (s :: L) = standLines s ++ laneLines L := by
          unfold laneLines
          rw [List.map_cons, List.flatten_cons]
        rw [e] at q
        cases q
    · unfold laneLines at hl
      obtain ⟨ls, h1, h2⟩ := List.mem_flatten.mp hl
      obtain ⟨s, hs, rfl⟩ := List.mem_map.mp h1
      exact free_stand (h.2 s hs) l h2
  rw [e]
  exact lanes_fwd h.2
end Ln
end
section
/-! Own rules: a list comprehension whose element calls a def that may raise. -/
namespace L2
open PySem PySem.Spec PyProof.Rows

/-- the wish of the raising block: noted, its variables let go, passed on -/
abbrev blkXe (X : Cx) (ce : Env) : Value → Shared → Prop := notedBy (model X.prog X.w) X.A ce (CompFails (model X.prog X.w) X.A X.xe ce)

theorem tracedZ_sameBut {h h' base : Heap} {e C : Addr} {Z : Obj → Prop} {fl : Value} {m : Str → Option Value} (hn : h.Ns C m) (sb : Heap.SameBut C h h') (t : HandSPX.TracedZ h base e Z fl) : HandSPX.TracedZ h' base e Z fl := by
  obtain ⟨oe, vs, T, oT, ts, he, hz, hd, h1, hnT, hTe, hT, hdT, h3⟩ := t
  obtain ⟨oC, es, ep, hoC, hdC, _⟩ := hn
  have ne : ∀ {b o ws}, h.get? b = some o → o.data = .fields ws → b ≠ C := fun {b o ws} hb hw q => by
    rw [q, hoC] at hb
    cases hb
    rw [hdC] at hw
    cases hw
  exact ⟨oe, vs, T, oT, ts, (sb.2 _ (ne he hd)).trans he, hz, hd, h1, hnT, hTe, (sb.2 _ (ne hT hdT)).trans hT, hdT, h3⟩

section
variable {X : Cx} {pins : List (Addr × Obj)} {σ : St} {H₃ : Hp} {s₃ : Shared} {W : WX}
/-- what a callee lets out within the block comes out of the comprehension -/
theorem blk_passes {scope : Scope} {cl : List (Str × Addr)} {fp : List Addr} (I₃ : Inv X pins σ H₃ s₃)
    (hfp : ∀ b ∈ fp, (b ∈ X.ex ∨ X.s_0.heap.objs.size ≤ b) ∧ b ≠ X.env.locals ∧ (∀ x c, X.env.cells.lookup x = some c → c ≠ b) ∧ ∀ p ∈ X.pn ++ pins, p.1 ≠ b)
    (hs : X.stack = X.env :: X.outer) (hf : X.env.frame = some X.env.locals) (tk : Takes X W) :
    Passes (L2.CX X.prog X.w) ((X.blk s₃ H₃ scope (compEnvC scope cl s₃.heap.objs.size X.env) fp).wish (blkXe X (compEnvC scope cl s₃.heap.objs.size X.env))) (fun cls d H' => W cls d σ H') := by
  intro pins' σ' H s e s' I' cr
  obtain ⟨a, B, H', cls, d, rfl, fl, hok, ub, na, os, ag, hE⟩ := cr
  have bs := I'.base
  have hlocC : ∃ m, s.heap.Ns s₃.heap.objs.size m := by
    obtain ⟨m, hn, _⟩ := I'.loc
    exact ⟨m, hn⟩
  have hfreeC : H s₃.heap.objs.size = none := I'.free
  generalize hce : compEnvC scope cl s₃.heap.objs.size X.env = ce
  have cL : ce.locals = s₃.heap.objs.size := by subst hce; rfl
  have cF : ce.frame = X.env.frame := by subst hce; rfl
  generalize hC : s₃.heap.objs.size = C at hlocC hfreeC cL
  have fl : HandSPX.FlyingZ B X.stack a (Zc cls d) s'.heap := fl
  have bs : Un (frs X.stack) fp H₃ H s₃.heap s.heap := bs
  have ub : UB (frs X.stack) H H' s.heap B s'.heap := ub
  have ltC : ∀ b o, s₃.heap.get? b = some o → b ≠ C := fun b o q => by rw [← hC]; exact Nat.ne_of_lt (Heap.lt_size q)
  have I₃C : C ∉ frs X.stack := fun z => by
    obtain ⟨_, o, ho, _⟩ := I₃.stack.mem z
    exact ltC C o ho rfl
  obtain ⟨m₀, hn₀⟩ := hlocC
  have hn' : s'.heap.Ns C m₀ := by
    obtain ⟨oL, es, ep, ho, r⟩ := hn₀
    exact ⟨oL, es, ep, fl.1 _ _ (ub.keep C oL ho hfreeC I₃C), r⟩
  have HC : H' C = none := by
    obtain ⟨oL, es, ep, ho, r⟩ := hn₀
    exact ub.free C oL ho hfreeC
  obtain ⟨B₀, b1, b2⟩ := restrict B fun b => decide (b ≠ C)
  have bin : ∀ b, b ≠ C → B₀.get? b = B.get? b := fun b hb => b1 b (decide_eq_true hb)
  have bC : B₀.get? C = none := b2 C (by simp)
  have bsub : ∀ b o, B₀.get? b = some o → B.get? b = some o ∧ b ≠ C := fun b o q => by
    have z : b ≠ C := fun z => by rw [z, bC] at q; cases q
    exact ⟨(bin b z).symm.trans q, z⟩
  have bnone : ∀ b, B.get? b = none → B₀.get? b = none := fun b q => by
    cases z : B₀.get? b with
    | none => rfl
    | some o => rw [(bsub b o z).1] at q; cases q
  have flf : ∀ L ∈ frs X.stack, B.get? L = none := fun L hL => (fl.2.2.1.mem hL).1
  obtain ⟨st, en, ff, oe, vs, T, oT, ts, he, hz, hd, h1, hnT, hTe, hT, hdT, h3⟩ := fl
  have fl₀ : HandSPX.FlyingZ B₀ (X.env :: X.outer) a (Zc cls d) s'.heap := by
    rw [← hs]
    exact ⟨fun b o q => st b o (bsub b o q).1, bnone a en, funFrames_none ff fun L hL => bnone L (flf L hL), oe, vs, T, oT, ts, he, hz, hd, h1, bnone T hnT, hTe, hT, hdT, h3⟩
  have hfr : X.A.frames = some (X.env :: X.outer) := by rw [I₃.ok.frames, hs]
  show wpAny (model X.prog X.w) X.A (noteFrame (.ref a) ce) _ _ s'
  rw [noteFrame_env _ cF]
  refine HandSPX.looks_onZ Zc.steady hfr hf fl₀ fun h₁ hh₁ up₁ => ?_
  have hn₁ : h₁.Ns C m₀ := up₁.ns hn'
  show CompFails (model X.prog X.w) X.A X.xe ce (.ref a) { s' with heap := h₁ }
  refine ⟨m₀, by rw [cL]; exact hn₁, fun h₂ m₂ hn₂ sb => ?_⟩
  rw [cL] at hn₂ sb
  have hh₂ : HandSPX.HeldZ B₀ (X.env :: X.outer) a (Zc cls d) X.env.locals h₂ := by
    obtain ⟨k1, k2, k3, k4⟩ := hh₁
    exact ⟨fun b o q => (sb.2 b (bsub b o q).2).trans (k1 b o q), k2, Heap.FunFrames.sameBut sb hn₂ k3, tracedZ_sameBut hn₁ sb k4⟩
  obtain ⟨q1, q2, q3, oe2, vs2, T2, oT2, ts2, he2, hz2, hd2, h12, r2⟩ := id hh₂
  unfold PySem.passOn
  refine wpAny_bind (wpAny_field he2 hd2 h12 ?_)
  rw [if_neg (show ¬ ((Value.ref T2 == Value.none) = true) from by simp)]
  have fin : wpAny (model X.prog X.w) X.A (setFlight (.ref a) ce.frame) (fun _ s4 => wpAny (model X.prog X.w) X.A (throw (.ref a) : Sem Value) (fun _ _ => False) X.xe s4) X.xe { s' with heap := h₂ } := by
    rw [cF, hf]
    refine HandSPX.setFlight_onZ hh₂ fun h₃ hh₃ up₃ => wpAny_throw (tk _ _ ?_)
    obtain ⟨G, g1, g2⟩ := restrict s'.heap fun b => (B₀.get? b).isSome || decide (b ∈ frs X.stack)
    have gB : ∀ b o, B₀.get? b = some o → G.get? b = some o := fun b o q => by
      rw [g1 b (by simp [q])]
      exact st b o (bsub b o q).1
    have gF : ∀ c, c ∈ frs X.stack → G.get? c = s'.heap.get? c := fun c hc => g1 c (by simp [hc])
    have og : ∀ b o, G.get? b = some o → s'.heap.get? b = some o ∧ ((B₀.get? b).isSome = true ∨ b ∈ frs X.stack) := fun b o q => by
      cases z : ((B₀.get? b).isSome || decide (b ∈ frs X.stack)) with
      | false => rw [g2 b z] at q; cases q
      | true =>
        rw [g1 b z] at q
        exact ⟨q, by simpa [Bool.or_eq_true] using z⟩
    refine ⟨a, B₀, { s₃ with heap := G, gens := s'.gens, drawn := s'.drawn, toks := s'.toks }, pins, σ, H', cls, d, rfl, ?_, fun b o q hb => ?_, fun b o q hnf => ?_, .inr (.inr (by rw [hs]; exact hh₃)), na, ?_, ag, hE⟩
    · refine I₃.call (ch := fp) ⟨fun b o q n hb hx => ?_, fun b o q n hb hx => ?_, fun b o q n hx => ?_, fun b o q hx => ?_, fun b xs q => ub.tups b xs (bs.tups b xs q), fun b o xs q => ub.frzs b o xs (bs.frzs b o xs q), fun b ps q => ?_⟩ ?_ ag hfp
      · have e1 := bs.keep b o q n hb hx
        have n1 := bs.free b o q n hx
        refine gB b o ?_
        rw [bin b (ltC b o q)]
        exact ub.keep b o e1 n1 hb
      · obtain ⟨sl, e1⟩ := bs.slot b o q n hb hx
        obtain ⟨sl2, e2⟩ := ub.slot b _ e1 hb
        exact ⟨sl2, by rw [gF b hb]; exact e2⟩
      · obtain ⟨o', e1⟩ := bs.there b o q hx
        exact ub.free b o' e1 (bs.free b o q n hx)
      · obtain ⟨o', e1⟩ := bs.there b o q hx
        by_cases hb : b ∈ frs X.stack
        · obtain ⟨sl, e2⟩ := ub.slot b o' e1 hb
          exact ⟨_, by rw [gF b hb]; exact e2⟩
        · obtain ⟨o'', e2⟩ := ub.there b o' e1 hb
          exact ⟨o'', gB b o'' (by rw [bin b (ltC b o q)]; exact e2)⟩
      · obtain ⟨m1, e1⟩ := bs.tbls b ps q
        obtain ⟨m3, e3⟩ := ub.tbls b _ e1
        exact ⟨m1 ++ m3, by rw [e3, Array.append_assoc]⟩
      · intro b o q
        refine (hok b o q).stay (fun c u hc r => gB c u ?_) (fun _ z => z) fun _ _ z => z
        rw [bin c ?_]
        · exact r
        · rintro rfl
          rcases hc with z | z
          · rw [← z, HC] at q; cases q
          · rw [HC] at z; cases z
    · obtain ⟨e', h⟩ := og b o q
      rcases h with h | h
      · obtain ⟨o', z⟩ := Option.isSome_iff_exists.mp h
        have y := st b o' (bsub b o' z).1
        rw [e'] at y; cases y
        exact z
      · exact absurd h hb
    · obtain ⟨e', h⟩ := og b o q
      have hbC : b ≠ C := by
        rintro rfl
        rcases h with h | h
        · rw [bC] at h; cases h
        · exact I₃C h
      obtain ⟨sl1, e1⟩ := up₁ b o e' hnf
      obtain ⟨sl2, e2⟩ := up₃ b _ ((sb.2 b hbC).trans e1) hnf
      exact ⟨sl2, e2⟩
    · exact os.trans I'.os
  first
    | exact wpAny_bind (wpAny_pure (wpAny_bind fin))
    | exact wpAny_bind fin
end
end L2
end
section
namespace L2
open PySem PySem.Spec PyProof.Rows
section
variable {X : Cx}
/-- [elt for tg in iter], elt may raise: te by the wish that a callee's exception meets -/
def tLcX (W : WX) (wi : TI) (g : TG) (te : XK → TE) (vs : List Nat) : TE := fun σ H Q => tLc wi g tYes (te fun cls d H' => W cls d σ H') vs σ H Q
theorem pe_lcX {W : WX} {elt tg iter : Expr} {scope : Scope} {own : List (Str × Nat)} {pos : Pos} {wi : TI} {g : TG} {te : XK → TE} (hst : X.stack = X.env :: X.outer) (hfr : X.env.frame = some X.env.locals) (tk : Takes X W)
    (hc : X.calm = true) (hN : X.N.Nodup) (hi : PI X tg iter wi) (ok : BlkOk X.N X.env.scope scope own)
    (hg : ∀ (s : Shared) (H : Hp) (C : Addr) (cl : List (Str × Addr)) (fp : List Addr), PG (X.blk s H scope (compEnvC scope cl C X.env) fp) tg g)
    (he : ∀ (s : Shared) (H : Hp) (C : Addr) (cl : List (Str × Addr)) (fp : List Addr) (xe : Value → Shared → Prop) (E : XK), Passes (L2.CX X.prog X.w) ((X.blk s H scope (compEnvC scope cl C X.env) fp).wish xe) E → PE ((X.blk s H scope (compEnvC scope cl C X.env) fp).wish xe) elt (te E))
    (hs : ∀ x, foldedSetIterable iter X.env x = pure x := by intro _; rfl) :
    PE X (.ListComp elt [⟨tg, iter, [], 0⟩] scope pos) (tLcX W wi g te (own.map (·.2))) := by
  refine ⟨fun pins s σ H Q I h => ?_⟩
  rw [eval_ListComp]
  have hfree : ∀ y ∈ scope.names, y.2 = .free → ∃ c, X.env.cells.lookup y.1 = some c := fun y hy e => (ok.free y hy e).elim (fun k => I.ok.has _ (.inl k)) fun k => I.ok.has _ (.inr k)
  refine comprehension_at (use := none) rfl hs (closure_ok hfree) ok.kind (fun y hy e => by rw [ok.uniq y hy, e]) (thn (hi.run pins s σ H _ I h) fun xv s₁ hx => thn hx fun itv s₂ h₂ => ?_)
  obtain ⟨it, fp, tn, J, H₂, rfl, I₂, T, st₂, f₂, q⟩ := h₂
  refine wpAny_newObj_type (newEnv_comp ?_) (Nat.zero_le _)
  have hDn : H₂ s₂.heap.objs.size = none := I₂.hok.fresh (Nat.le_refl _)
  obtain ⟨Wt, ⟨m₀, w₀⟩, turn⟩ := q _ hDn
  have I₃ : Inv X pins σ (upd H₂ s₂.heap.objs.size (.lst [])) { s₂ with heap := s₂.heap.push { cls := .type "list", data := .seq ([] : List Value).toArray } } :=
    I₂.laid (t' := s₂.toks) (fun b o e => Heap.get?_push_of_some _ e) (Nat.le_refl _) ⟨Nat.zero_le _, [], 0, .nil, Heap.get?_push_size _ rfl⟩
  have lt₂ : ∀ b ∈ fp, b < s₂.heap.objs.size := fun b hb => by
    obtain ⟨o, e, _⟩ := T.obj _ _ st₂ b hb
    exact Heap.lt_size e
  have hpush : ∀ b o, s₂.heap.get? b = some o → (s₂.heap.push { cls := .type "list", data := .seq ([] : List Value).toArray }).get? b = some o := fun b o e => Heap.get?_push_of_some _ e
  have hsz : (s₂.heap.push { cls := .type "list", data := .seq ([] : List Value).toArray }).objs.size = s₂.heap.objs.size + 1 := Heap.size_push ..
  generalize hD : s₂.heap.objs.size = D at hDn w₀ turn I₃ lt₂ hsz ⊢
  have st₃ : tn 0 (s₂.heap.push { cls := .type "list", data := .seq ([] : List Value).toArray }) := T.keep _ _ _ st₂ fun b _ o e => hpush b o e
  generalize hs₃ : ({ s₂ with heap := s₂.heap.push { cls := .type "list", data := .seq ([] : List Value).toArray } } : Shared) = s₃ at I₃ ⊢
  have hp₃ : s₃.heap = s₂.heap.push { cls := .type "list", data := .seq ([] : List Value).toArray } := by rw [← hs₃]
  rw [← hp₃] at st₃ hsz
  have f₃ : ∀ b ∈ fp, FpOk X pins (upd H₂ D (.lst [])) b ∧ b < s₃.heap.objs.size := fun b hb => by
    have hlt := lt₂ b hb
    exact ⟨⟨by rw [upd_ne (Nat.ne_of_lt hlt)]; exact (f₂ b hb).1, (f₂ b hb).2⟩, by rw [hsz]; exact Nat.lt_succ_of_lt hlt⟩
  generalize hH₃ : upd H₂ D (.lst []) = H₃ at I₃ f₃ w₀
  have I₄ := block_start I₃ ok hN f₃
  have chOk : ∀ b ∈ fp, (b ∈ X.ex ∨ X.s_0.heap.objs.size ≤ b) ∧ b ≠ X.env.locals ∧ (∀ x c, X.env.cells.lookup x = some c → c ≠ b) ∧ ∀ p ∈ X.pn ++ pins, p.1 ≠ b := fun b hb =>
    ⟨(f₃ b hb).1.2.2.2.1, (f₃ b hb).1.2.1, (f₃ b hb).1.2.2.2.2.1, (f₃ b hb).1.2.2.2.2.2⟩
  have pass := blk_passes (W := W) (scope := scope) (cl := cellsFrom (s₃.heap.objs.size + 1) scope.names (cloFrom X.env.cells scope.names [])) I₃ chOk hst hfr tk
  have pg := hg s₃ H₃ s₃.heap.objs.size (cellsFrom (s₃.heap.objs.size + 1) scope.names (cloFrom X.env.cells scope.names [])) fp
  have pe := he s₃ H₃ s₃.heap.objs.size (cellsFrom (s₃.heap.objs.size + 1) scope.names (cloFrom X.env.cells scope.names [])) fp _ _ pass
  show codeAny _ _ (.compStart (.ListComp elt [⟨tg, iter, [], 0⟩] scope pos) 0 (.ref it) (.ref D) (compEnvC scope (cellsFrom (s₃.heap.objs.size + 1) scope.names (cloFrom X.env.cells scope.names [])) s₃.heap.objs.size X.env))
    (compEnds (model X.prog X.w) X.A X.xe none (EP X pins σ Q) (.ref D) (compEnvC scope (cellsFrom (s₃.heap.objs.size + 1) scope.names (cloFrom X.env.cells scope.names [])) s₃.heap.objs.size X.env)) { s₃ with heap := pushCells (s₃.heap.push { cls := .type "dict", data := .dict #[] }) scope.names }
  generalize hce : compEnvC scope (cellsFrom (s₃.heap.objs.size + 1) scope.names (cloFrom X.env.cells scope.names [])) s₃.heap.objs.size X.env = ce at I₄ pg pe ⊢
  have cL : ce.locals = s₃.heap.objs.size := by subst hce; rfl
  generalize hs₄ : ({ s₃ with heap := pushCells (s₃.heap.push { cls := .type "dict", data := .dict #[] }) scope.names } : Shared) = s₄ at I₄ ⊢
  have st₄ : tn 0 s₄.heap := T.keep _ _ _ st₃ fun b _ o e => by rw [← hs₄]; exact pushCells_keeps _ _ _ _ (Heap.get?_push_of_some _ e)
  have stat : ∀ {σ' : St} {H' : Hp} {s' : Shared}, Inv (X.blk s₃ H₃ scope ce fp) [] σ' H' s' → (∀ b ∈ fp, H' b = none) → ∀ b ∈ fp, FpOk (X.blk s₃ H₃ scope ce fp) [] H' b := fun {σ' H' s'} J' hn b hb =>
    ⟨hn b hb, (J'.ok.exf b hb).1, J'.ok.exfs b hb, .inl hb, fun x c e => (J'.ok.exf b hb).2 x c e, fun p hp => absurd (show p ∈ ([] : List (Addr × Obj)) ++ [] from hp) (by simp)⟩
  have loop : codeAny (model X.prog X.w) X.A (.compLoop (.ListComp elt [⟨tg, iter, [], 0⟩] scope pos) 0 (.ref it) (.ref D) ce) (compEnds (model X.prog X.w) X.A X.xe none (EP X pins σ Q) (.ref D) ce) s₄ := by
    refine compLoop_any (fun n s' => ∃ i H', Inv (X.blk s₃ H₃ scope ce fp) [] (wipe σ (own.map (·.2))) H' s' ∧ tn i s'.heap ∧ (∀ b ∈ fp, H' b = none) ∧ Wt i n H') ?_ m₀ ⟨0, H₃, I₄, st₄, fun b hb => (f₃ b hb).1.1, w₀⟩
    rintro n s₅ ⟨i, H₅, I₅, st₅, n₅, w₅⟩
    rcases turn i n H₅ w₅ with ⟨stop, qq⟩ | ⟨go, Nx, hNx, step⟩
    · refine thnF (T.done (X.blk s₃ H₃ scope ce fp) rfl rfl rfl hc i [] s₅ _ H₅ (fun _ _ => False) I₅ (stat I₅ n₅) st₅ stop) fun r s₆ ⟨hr, I₆⟩ => ?_
      subst hr
      have I₇ : Inv X pins σ H₅ s₆ := I₃.call' (ch := fp) I₆.os I₆.base I₆.hok I₆.bare chOk
      have nC : H₅ s₃.heap.objs.size = none := by
        have z : H₅ ce.locals = none := I₆.free
        rw [cL] at z
        exact z
      obtain ⟨m, hn, _⟩ := I₆.loc
      refine ⟨m, hn, fun h'' sb => ?_⟩
      obtain ⟨f0, f1, f2, f3, f4, f5⟩ := I₃.fpOk (Nat.le_refl _) nC
      rw [cL] at sb
      exact ⟨.ref D, H₅, I₇.turned (t' := s₆.toks) (fun b o hb e => (sb.2 b hb).trans e) f0 f1 f3 f4 f5, rfl, qq⟩
    · refine thnF (T.item (X.blk s₃ H₃ scope ce fp) rfl rfl rfl hc i [] s₅ _ H₅ (fun _ _ => False) I₅ (stat I₅ n₅) st₅ go) fun r s₆ ⟨u, hr, h₆⟩ => ?_
      subst hr
      refine thnF h₆ fun _ s₇ ⟨x, H₇, I₇, r₇, y₇, st₇, n₇⟩ => ?_
      have I₇' := I₇.pinned (stat I₇ n₇) (T.obj _ _ st₇)
      refine thnF (pg.run _ s₇ _ H₇ x u _ I₇' r₇ (step x H₇ y₇)) fun _ s₈ ⟨σ₈, H₈, I₈, hw₈, q₈⟩ => ?_
      refine wpAny_tests_nil ?_
      have q₈ : te (fun cls d H' => W cls d σ H') σ₈ H₈ fun y H4 => ∃ acc, H4 D = some (.lst acc) ∧ acc.length < sizeLine ∧ Nx (upd H4 D (.lst (acc ++ [y]))) := q₈
      have fin : ∀ {s' : Shared} {H' : Hp}, Inv (X.blk s₃ H₃ scope ce fp) ([] ++ pinsAt fp s₇.heap) σ₈ H' s' → Nx H' → ∃ m, m < n ∧ ∃ i H', Inv (X.blk s₃ H₃ scope ce fp) [] (wipe σ (own.map (·.2))) H' s' ∧ tn i s'.heap ∧ (∀ b ∈ fp, H' b = none) ∧ Wt i m H' := fun {s' H'} J' nx => by
        obtain ⟨m', hlt, w'⟩ := hNx H' nx
        have pin' : ∀ b ∈ fp, ∀ o, s₇.heap.get? b = some o → s'.heap.get? b = some o ∧ H' b = none := fun b hb o e =>
          let z := J'.pin (b, o) (List.mem_append_right _ (List.mem_append_right _ (mem_pinsAt hb e)))
          ⟨z.1, z.2.1⟩
        refine ⟨m', hlt, i + 1, H', (J'.unpinned (pins := [])).weak (by rw [← hw₈, wipe_length]) (fun j v e => ?_), T.keep _ _ _ st₇ fun b hb o e => (pin' b hb o e).1, fun b hb => ?_, w'⟩
        · rw [← hw₈] at e
          exact (wipe_some e).1
        · obtain ⟨o, e, _⟩ := T.obj _ _ st₇ b hb
          exact (pin' b hb o e).2
      show wpAny _ _ (eval elt ce) _ _ _
      refine wpAny_mono (pe.run _ s₈ σ₈ H₈ _ (I₈.wish _) q₈) (fun z s₁₀ hz => ?_) fun e s' z => z
      obtain ⟨yv, H₁₀, I₁₀, r₁₀, acc, hD₁₀, hz₁₀, nx⟩ := hz
      have I₁₀' := I₁₀.unwish
      exact app_ok (X := X.blk s₃ H₃ scope ce fp) I₁₀' hD₁₀ hz₁₀ r₁₀ fun s₁₁ I₁₁ => fin I₁₁ nx
  exact codeAny_compStart_list loop (T.self X.A 0 _ _ _ st₄ loop)
end

/-! ### text * int -/
/-- a short text a few times -/
def rMulS : V → V → Hp → VK → Prop := fun x y H Q => ∃ (z : Str) (k : Int), x = .str z ∧ y = .int k ∧ z.length ≤ 1000 ∧ 0 ≤ k ∧ k ≤ 1000 ∧ ∀ r : Str, r.length = z.length * k.toNat → Q (.str r) H
end L2
end
section
namespace L2
open PySem PySem.Spec PyProof.Rows
theorem mul_len (z : Str) (n : Int) (h : 0 ≤ n) : (Txt.mul z n).length = z.length * n.toNat := by
  unfold Txt.mul
  by_cases h1 : n < 1
  · rw [if_pos h1]
    have : n = 0 := by omega
    subst this
    rfl
  · rw [if_neg h1]
    by_cases h2 : (n == 1 || z.length == 0) = true
    · rw [if_pos h2]
      simp only [Bool.or_eq_true, beq_iff_eq] at h2
      rcases h2 with rfl | h2
      · show z.length = z.length * 1
        omega
      · rw [h2]; omega
    · rw [if_neg h2]
      show ((List.replicate n.toNat z.cps).foldl (· ++ ·) #[]).size = _
      rw [size_reps]
      show 0 + n.toNat * z.length = _
      rw [Nat.zero_add, Nat.mul_comm]
theorem mulOk_small {z : Str} {k : Int} (hz : z.length ≤ 1000) (h0 : 0 ≤ k) (h1 : k ≤ 1000) : MulOk z k := by
  have hp : z.length * k.toNat ≤ 1000 * 1000 := Nat.mul_le_mul hz (by omega)
  refine ⟨?_, fun h2 _ => ?_, fun h2 _ => ?_⟩
  · simp; omega
  · have hk : 1 ≤ k := by omega
    have : (1000 : Int) ≤ (2 ^ 63 - 1) / k := by
      rw [Int.le_ediv_iff_mul_le (by omega)]
      omega
    omega
  · show decide (z.length * k.toNat > sizeLine) = false
    rw [sizeLine_eq]
    exact decide_eq_false (by omega)
theorem op_mulS {X : Cx} : OpR X (binaryOp .Mult) rMulS := by
  intro pins s σ H x y v u Q I rx ry h
  obtain ⟨z, k, rfl, rfl, hz, h0, h1, q⟩ := h
  obtain ⟨t, rfl⟩ := rx
  obtain ⟨t', rfl⟩ := ry
  exact SB.mul (mulOk_small hz h0 h1) fun t'' k' => ⟨.str (Txt.mul z k), H, I.tok k', ⟨_, rfl⟩, q _ (mul_len z k h0)⟩
end L2
end
section
namespace L2
open PySem PySem.Spec PyProof.Rows
/-- a list against an empty list: no sign is looked at -/
def rNeNil (K : PySem.W.Frag) : R2 := fun x y H Q => ∃ a b xs, x = .ref a ∧ y = .ref b ∧ SqL K H a xs ∧ SqL K H b [] ∧ Q (.bl (decide (xs.length ≠ 0))) H
theorem op_neNil {X : Cx} (hu : X.A.units < cLine) : OpR X (compareOp .NotEq) (rNeNil X.K) := by
  intro pins s σ H x y v u Q I rx ry h
  obtain ⟨a, b, xs, rfl, rfl, hx, hy, q⟩ := h
  cases rx
  cases ry
  obtain ⟨its, r, ht, _⟩ := I.list hx
  obtain ⟨its', r', ht', _⟩ := I.list hy
  cases r'
  have hl : its.toArray.size = xs.length := by rw [List.size_toArray]; exact r.length.symm
  by_cases h0 : xs.length = 0
  · rw [decide_eq_false (fun z => z h0)] at q
    have e := SeqAt.RcNeAt.lists (A := X.A) (s := s) (e := fun _ => true) ht.isList ht'.isList (by rw [hl, h0]; rfl) hu (fun j j1 j2 => absurd j2 (Nat.not_lt_zero _))
    rw [hl, h0] at e
    exact e _ _ _ _ ⟨.bl _, H, I, rfl, q⟩
  · rw [decide_eq_true h0] at q
    exact SeqAt.RcNeAt.lists_lengths (A := X.A) (s := s) ht.isList ht'.isList (by rw [hl]; simpa using h0) hu _ _ _ _ ⟨.bl _, H, I, rfl, q⟩
end L2
end
section
/-! What stands in the heap for a lane; what a call leaves. -/
namespace Ln
open PySem L2 TL

/-- data, as the heap bears it -/
inductive Dt where
  | int (i : Int)
  | str (s : Str)
  | tup (ds : List Dt)
  | lst (ds : List Dt)
/-- a list of objects -/
def AllRef (vs : List V) : Prop := ∀ v ∈ vs, ∃ a, v = .ref a
mutual
inductive Rep (N : Addr → Prop) (H : Hp) : V → Dt → Prop
  | int (i : Int) : Rep N H (.int i) (.int i)
  | str (s : Str) : Rep N H (.str s) (.str s)
  | tup {a : Addr} {vs : List V} {ds : List Dt} (h : H a = some (.tup vs)) (r : Reps N H vs ds) : Rep N H (.ref a) (.tup ds)
  | lst {a : Addr} {vs : List V} {ds : List Dt} (n : N a) (h : H a = some (.lst vs)) (al : AllRef vs) (r : Reps N H vs ds) : Rep N H (.ref a) (.lst ds)
inductive Reps (N : Addr → Prop) (H : Hp) : List V → List Dt → Prop
  | nil : Reps N H [] []
  | cons {v : V} {d : Dt} {vs : List V} {ds : List Dt} (h : Rep N H v d) (r : Reps N H vs ds) : Reps N H (v :: vs) (d :: ds)
end
section
variable {N N' : Addr → Prop} {H H' : Hp}
mutual
theorem Rep.mono (hN : ∀ a, N a → N' a) (ht : ∀ a xs, H a = some (.tup xs) → H' a = some (.tup xs)) (hl : ∀ a xs, N a → H a = some (.lst xs) → AllRef xs → H' a = some (.lst xs)) :
    ∀ {v : V} {d : Dt}, Rep N H v d → Rep N' H' v d
  | _, _, .int i => .int i
  | _, _, .str s => .str s
  | _, _, .tup h r => .tup (ht _ _ h) (Reps.mono hN ht hl r)
  | _, _, .lst n h al r => .lst (hN _ n) (hl _ _ n h al) al (Reps.mono hN ht hl r)
theorem Reps.mono (hN : ∀ a, N a → N' a) (ht : ∀ a xs, H a = some (.tup xs) → H' a = some (.tup xs)) (hl : ∀ a xs, N a → H a = some (.lst xs) → AllRef xs → H' a = some (.lst xs)) :
    ∀ {vs : List V} {ds : List Dt}, Reps N H vs ds → Reps N' H' vs ds
  | _, _, .nil => .nil
  | _, _, .cons h r => .cons (Rep.mono hN ht hl h) (Reps.mono hN ht hl r)
end
theorem Rep.same {v : V} {d : Dt} (r : Rep N H v d) (s : Same H H') : Rep N H' v d := r.mono (fun _ h => h) (fun _ _ h => s _ _ h) fun _ _ _ h _ => s _ _ h
theorem Reps.same {vs : List V} {ds : List Dt} (r : Reps N H vs ds) (s : Same H H') : Reps N H' vs ds := r.mono (fun _ h => h) (fun _ _ h => s _ _ h) fun _ _ _ h _ => s _ _ h
theorem Rep.weak {v : V} {d : Dt} (r : Rep N H v d) (hN : ∀ a, N a → N' a) : Rep N' H v d := r.mono hN (fun _ _ h => h) fun _ _ _ h _ => h
theorem Reps.weak {vs : List V} {ds : List Dt} (r : Reps N H vs ds) (hN : ∀ a, N a → N' a) : Reps N' H vs ds := r.mono hN (fun _ _ h => h) fun _ _ _ h _ => h
theorem Rep.intI {v : V} {i : Int} (r : Rep N H v (.int i)) : v = .int i := by cases r; rfl
theorem Rep.strI {v : V} {s : Str} (r : Rep N H v (.str s)) : v = .str s := by cases r; rfl
theorem Rep.tupI {v : V} {ds : List Dt} (r : Rep N H v (.tup ds)) : ∃ a vs, v = .ref a ∧ H a = some (.tup vs) ∧ Reps N H vs ds := by
  cases r with
  | tup h r => exact ⟨_, _, rfl, h, r⟩
theorem Rep.lstI {v : V} {ds : List Dt} (r : Rep N H v (.lst ds)) : ∃ a vs, v = .ref a ∧ N a ∧ H a = some (.lst vs) ∧ AllRef vs ∧ Reps N H vs ds := by
  cases r with
  | lst n h al r => exact ⟨_, _, rfl, n, h, al, r⟩
theorem Reps.nilI {vs : List V} (r : Reps N H vs []) : vs = [] := by cases r; rfl
theorem Reps.consI {vs : List V} {d : Dt} {ds : List Dt} (r : Reps N H vs (d :: ds)) : ∃ v ws, vs = v :: ws ∧ Rep N H v d ∧ Reps N H ws ds := by
  cases r with
  | cons h r => exact ⟨_, _, rfl, h, r⟩
theorem Reps.length : ∀ {vs : List V} {ds : List Dt}, Reps N H vs ds → vs.length = ds.length
  | _, _, .nil => rfl
  | _, _, .cons _ r => by rw [List.length_cons, List.length_cons, Reps.length r]
theorem Reps.get : ∀ {vs : List V} {ds : List Dt} {i : Nat} {v : V}, Reps N H vs ds → vs[i]? = some v → ∃ d, ds[i]? = some d ∧ Rep N H v d
  | _, _, _, _, .nil, e => by simp at e
  | _, _, 0, _, .cons h _, e => by
    have e := Option.some.inj e
    subst e
    exact ⟨_, rfl, h⟩
  | _, _, i + 1, v, .cons _ r, e => by
    obtain ⟨d, h1, h2⟩ := Reps.get (i := i) (v := v) r (by simpa using e)
    exact ⟨d, by simpa using h1, h2⟩
theorem Reps.getD : ∀ {vs : List V} {ds : List Dt} {i : Nat} {d : Dt}, Reps N H vs ds → ds[i]? = some d → ∃ v, vs[i]? = some v ∧ Rep N H v d
  | _, _, _, _, .nil, e => by simp at e
  | _, _, 0, _, .cons h _, e => by
    have e := Option.some.inj e
    subst e
    exact ⟨_, rfl, h⟩
  | _, _, i + 1, d, .cons _ r, e => by
    obtain ⟨v, h1, h2⟩ := Reps.getD (i := i) (d := d) r (by simpa using e)
    exact ⟨v, by simpa using h1, h2⟩
theorem Reps.append : ∀ {vs ws : List V} {ds es : List Dt}, Reps N H vs ds → Reps N H ws es → Reps N H (vs ++ ws) (ds ++ es)
  | _, _, _, _, .nil, s => s
  | _, _, _, _, .cons h r, s => .cons h (Reps.append r s)
theorem Reps.snoc {vs : List V} {ds : List Dt} {v : V} {d : Dt} (r : Reps N H vs ds) (h : Rep N H v d) : Reps N H (vs ++ [v]) (ds ++ [d]) := r.append (.cons h .nil)
theorem Reps.drop : ∀ {vs : List V} {ds : List Dt} (n : Nat), Reps N H vs ds → Reps N H (vs.drop n) (ds.drop n)
  | _, _, 0, r => r
  | _, _, _ + 1, .nil => .nil
  | _, _, n + 1, .cons _ r => Reps.drop n r
theorem Reps.ints : ∀ (l : List Int), Reps N H (l.map V.int) (l.map Dt.int)
  | [] => .nil
  | i :: l => .cons (.int i) (Reps.ints l)
theorem Reps.intsI : ∀ {l : List Int} {vs : List V}, Reps N H vs (l.map Dt.int) → vs = l.map V.int
  | [], vs, r => r.nilI
  | i :: l, vs, r => by
    obtain ⟨v, ws, rfl, h1, h2⟩ := r.consI
    rw [h1.intI, Reps.intsI h2]
    rfl
theorem AllRef.snoc {vs : List V} {a : Addr} (h : AllRef vs) : AllRef (vs ++ [.ref a]) := fun v hv => by
  rcases List.mem_append.mp hv with q | q
  · exact h v q
  · exact ⟨a, List.mem_singleton.mp q⟩
/-- data that are tuples -/
theorem Reps.tups : ∀ {vs : List V} {ds : List Dt}, Reps N H vs ds → (∀ d ∈ ds, ∃ es, d = Dt.tup es) → AllRef vs
  | _, _, .nil, _ => fun _ q => nomatch q
  | _, _, .cons h r, hd => fun v hv => by
    rcases List.mem_cons.mp hv with q | q
    · obtain ⟨es, e⟩ := hd _ List.mem_cons_self
      rw [e] at h
      obtain ⟨a, _, e1, _⟩ := h.tupI
      exact ⟨a, q.trans e1⟩
    · exact Reps.tups r (fun d hd' => hd d (List.mem_cons_of_mem _ hd')) v q
/-- a list of one's own is written: all else stands -/
theorem Rep.wr {v : V} {d : Dt} {q : Addr} {xs : List V} {o : HO} (r : Rep N H v d) (hq : H q = some (.lst xs)) (hN : ∀ a, N a → a ≠ q) : Rep N (upd H q o) v d :=
  r.mono (fun _ h => h) (fun a ys h => by rw [upd_ne (ne_of h hq (by intro z; cases z))]; exact h) fun a ys n h _ => by rw [upd_ne (hN a n)]; exact h
theorem Reps.wr {vs : List V} {ds : List Dt} {q : Addr} {xs : List V} {o : HO} (r : Reps N H vs ds) (hq : H q = some (.lst xs)) (hN : ∀ a, N a → a ≠ q) : Reps N (upd H q o) vs ds :=
  r.mono (fun _ h => h) (fun a ys h => by rw [upd_ne (ne_of h hq (by intro z; cases z))]; exact h) fun a ys n h _ => by rw [upd_ne (hN a n)]; exact h
end
theorem _root_.L2.Same.up {H H1 : Hp} {p : Addr} {o : HO} (s : Same H H1) (h : H1 p = none) : Same H (L2.upd H1 p o) := fun b u e => by
  rw [upd_ne (ne_of_none (s b u e) h)]
  exact s b u e
theorem _root_.L2.Same.nw {H : Hp} {p : Addr} {o : HO} (h : H p = none) : Same H (L2.upd H p o) := Same.up (Same.refl H) h
/-- an object that is new since H is written -/
theorem _root_.L2.Same.wr {H H1 : Hp} {p : Addr} {o : HO} (s : Same H H1) (h : H p = none) : Same H (L2.upd H1 p o) := fun b u e => by
  rw [upd_ne (ne_of_none e h)]
  exact s b u e

/-! ### the data of lanes -/
def pairD (p : Pair) : Dt := .tup [.int p.1, .int p.2]
def formD (f : Form) : Dt := .tup [.int f.1, .tup (f.2.map pairD)]
def formsD (fs : List Form) : Dt := .tup (fs.map formD)
def edgeD (e : Edge) : Dt := .tup [.int e.rows, formsD e.moves, .int e.k]
def frameD (e : Frame) : Dt := .tup [.int e.f, .int e.at_, formsD e.forms]
def deedDs (d : Deed) : List Dt := .str d.word :: (d.nums.map Dt.int ++ d.edges.map edgeD)
def deedD (d : Deed) : Dt := .tup (deedDs d)
def standD (s : Stand) : Dt := .tup [.int s.many, .lst (s.paper.map frameD), deedD s.deed]
def laneD (L : List Stand) : Dt := .lst (L.map standD)
section
variable {N : Addr → Prop} {H : Hp} {v : V}
theorem rep_pair {p : Pair} (r : Rep N H v (pairD p)) : ∃ a, v = .ref a ∧ H a = some (.tup [.int p.1, .int p.2]) := by
  obtain ⟨a, vs, rfl, h, r⟩ := r.tupI
  obtain ⟨v1, vs, rfl, h1, r⟩ := r.consI
  obtain ⟨v2, vs, rfl, h2, r⟩ := r.consI
  rw [h1.intI, h2.intI, r.nilI] at h
  exact ⟨a, rfl, h⟩
theorem rep_form {f : Form} (r : Rep N H v (formD f)) : ∃ a p vs, v = .ref a ∧ H a = some (.tup [.int f.1, .ref p]) ∧ H p = some (.tup vs) ∧ Reps N H vs (f.2.map pairD) := by
  obtain ⟨a, vs, rfl, h, r⟩ := r.tupI
  obtain ⟨v1, vs, rfl, h1, r⟩ := r.consI
  obtain ⟨v2, vs, rfl, h2, r⟩ := r.consI
  obtain rfl := r.nilI
  obtain ⟨p, ws, rfl, hp, rp⟩ := h2.tupI
  rw [h1.intI] at h
  exact ⟨a, p, ws, rfl, h, hp, rp⟩
theorem rep_edge {e : Edge} (r : Rep N H v (edgeD e)) : ∃ a p vs, v = .ref a ∧ H a = some (.tup [.int e.rows, .ref p, .int e.k]) ∧ H p = some (.tup vs) ∧ Reps N H vs (e.moves.map formD) := by
  obtain ⟨a, vs, rfl, h, r⟩ := r.tupI
  obtain ⟨v1, vs, rfl, h1, r⟩ := r.consI
  obtain ⟨v2, vs, rfl, h2, r⟩ := r.consI
  obtain ⟨v3, vs, rfl, h3, r⟩ := r.consI
  obtain rfl := r.nilI
  obtain ⟨p, ws, rfl, hp, rp⟩ := h2.tupI
  rw [h1.intI, h3.intI] at h
  exact ⟨a, p, ws, rfl, h, hp, rp⟩
theorem rep_frame {e : Frame} (r : Rep N H v (frameD e)) : ∃ a p vs, v = .ref a ∧ H a = some (.tup [.int e.f, .int e.at_, .ref p]) ∧ H p = some (.tup vs) ∧ Reps N H vs (e.forms.map formD) := by
  obtain ⟨a, vs, rfl, h, r⟩ := r.tupI
  obtain ⟨v1, vs, rfl, h1, r⟩ := r.consI
  obtain ⟨v2, vs, rfl, h2, r⟩ := r.consI
  obtain ⟨v3, vs, rfl, h3, r⟩ := r.consI
  obtain rfl := r.nilI
  obtain ⟨p, ws, rfl, hp, rp⟩ := h3.tupI
  rw [h1.intI, h2.intI] at h
  exact ⟨a, p, ws, rfl, h, hp, rp⟩
theorem rep_stand {s : Stand} (r : Rep N H v (standD s)) : ∃ a p d ws vs, v = .ref a ∧ H a = some (.tup [.int s.many, .ref p, .ref d]) ∧ N p ∧ H p = some (.lst ws) ∧ AllRef ws ∧ Reps N H ws (s.paper.map frameD) ∧ H d = some (.tup vs) ∧ Reps N H vs (deedDs s.deed) := by
  obtain ⟨a, vs, rfl, h, r⟩ := r.tupI
  obtain ⟨v1, vs, rfl, h1, r⟩ := r.consI
  obtain ⟨v2, vs, rfl, h2, r⟩ := r.consI
  obtain ⟨v3, vs, rfl, h3, r⟩ := r.consI
  obtain rfl := r.nilI
  obtain ⟨p, ws, rfl, np, hp, al, rp⟩ := h2.lstI
  obtain ⟨d, us, rfl, hd, rd⟩ := h3.tupI
  rw [h1.intI] at h
  exact ⟨a, p, d, ws, us, rfl, h, np, hp, al, rp, hd, rd⟩
end

/-! ### what a call of the law's own leaves: all that is no bag -/
def bagLike : HO → Bool
  | .lst [.ref _, .int _, .int _, .int _, .int _] => true
  | _ => false
def Keep (H H' : Hp) : Prop := ∀ a o, H a = some o → bagLike o = false → H' a = some o
theorem bagLike_refs {vs : List V} (h : AllRef vs) : bagLike (.lst vs) = false := by
  match vs, h with
  | [], _ => rfl
  | [a], _ => cases a <;> rfl
  | a :: b :: r, h =>
    obtain ⟨c, e⟩ := h b (by simp)
    subst e
    cases a <;> rfl
theorem bagLike_strs (l : List Str) : bagLike (.lst (l.map V.str)) = false := by
  match l with
  | [] => rfl
  | _ :: _ => rfl
theorem bagLike_ints (l : List Int) : bagLike (.lst (l.map V.int)) = false := by
  match l with
  | [] => rfl
  | _ :: _ => rfl
theorem _root_.L2.Same.keep {H H' : Hp} (s : Same H H') : Keep H H' := fun a o e _ => s a o e
theorem Keep.refl (H : Hp) : Keep H H := fun _ _ e _ => e
theorem Keep.trans {H H1 H2 : Hp} (a : Keep H H1) (b : Keep H1 H2) : Keep H H2 := fun c o e n => b c o (a c o e n) n
theorem Keep.upd {H H1 : Hp} {p : Addr} {o : HO} (s : Keep H H1) (h : H1 p = none) : Keep H (L2.upd H1 p o) := fun b u e n => by
  rw [upd_ne (ne_of_none (s b u e n) h)]
  exact s b u e n
/-- nothing but a bag stood at p -/
def Fresh (H : Hp) (p : Addr) : Prop := ∀ o, H p = some o → bagLike o = true
theorem Keep.fresh {H H1 : Hp} {p : Addr} (s : Keep H H1) (h : H1 p = none) : Fresh H p := fun o e => by
  cases q : bagLike o with
  | true => rfl
  | false => rw [s p o e q] at h; cases h
theorem Keep.wr {H H1 : Hp} {p : Addr} {o : HO} (s : Keep H H1) (h : Fresh H p) : Keep H (L2.upd H1 p o) := fun b u e n => by
  rw [upd_ne (fun z => by rw [z] at e; rw [h u e] at n; cases n)]
  exact s b u e n
theorem Rep.keep {N : Addr → Prop} {H H' : Hp} {v : V} {d : Dt} (r : Rep N H v d) (s : Keep H H') : Rep N H' v d :=
  r.mono (fun _ h => h) (fun _ _ h => s _ _ h rfl) fun _ _ _ h al => s _ _ h (bagLike_refs al)
theorem Reps.keep {N : Addr → Prop} {H H' : Hp} {vs : List V} {ds : List Dt} (r : Reps N H vs ds) (s : Keep H H') : Reps N H' vs ds :=
  r.mono (fun _ h => h) (fun _ _ h => s _ _ h rfl) fun _ _ _ h al => s _ _ h (bagLike_refs al)

/-- THE BAG at b: its numbers at l, the place, the rest, the stir, the count -/
structure BagAt (H : Hp) (b l : Addr) : Prop where
  ex : ∃ (ns : List Int) (i r st n : Int), H b = some (.lst [.ref l, .int i, .int r, .int st, .int n]) ∧ H l = some (.lst (ns.map V.int)) ∧ 0 ≤ i ∧ 0 ≤ r ∧ r < 10 ^ 60 ∧ (∀ x ∈ ns, 0 ≤ x ∧ x < 10 ^ 60) ∧ 0 ≤ st ∧ st < 2147483647
theorem BagAt.ne {H : Hp} {b l p : Addr} (B : BagAt H b l) (h : H p = none) : p ≠ b ∧ p ≠ l := by
  obtain ⟨ns, i, r, st, n, h1, h2, z⟩ := B.ex
  exact ⟨(ne_of_none h1 h).symm, (ne_of_none h2 h).symm⟩
theorem BagAt.wr {H : Hp} {b l p : Addr} {o : HO} (B : BagAt H b l) (n : p ≠ b ∧ p ≠ l) : BagAt (L2.upd H p o) b l := by
  obtain ⟨ns, i, r, st, m, h1, h2, z⟩ := B.ex
  exact ⟨ns, i, r, st, m, by rw [upd_ne n.1.symm]; exact h1, by rw [upd_ne n.2.symm]; exact h2, z⟩
theorem BagAt.upd {H : Hp} {b l p : Addr} {o : HO} (B : BagAt H b l) (h : H p = none) : BagAt (L2.upd H p o) b l := B.wr (B.ne h)
end Ln
end
section
/-! The text by places. -/
namespace Ln
open PySem L2 TL

def top (i : Nat) : Stmt := PySem.Challenge.pw_midlanes_k73_whole_one_lane_text.main.body.getD i (.Pass ⟨0, 0, 0, 0⟩)
abbrev sWhole : Stmt := top 7
abbrev sFormS : Stmt := top 10
abbrev sEdgeS : Stmt := top 11
abbrev sStandS : Stmt := top 12
abbrev sLaneS : Stmt := top 13
abbrev sForm : Stmt := top 14
abbrev sNums : Stmt := top 15
abbrev sEdge : Stmt := top 16
abbrev sFrame : Stmt := top 17
abbrev sDeed : Stmt := top 18
abbrev sStand : Stmt := top 19
abbrev sLane : Stmt := top 20
abbrev sBag : Stmt := top 22
abbrev sDraw : Stmt := top 23
abbrev sNumber : Stmt := top 24
abbrev sWForms : Stmt := top 25
abbrev sWEdge : Stmt := top 26
abbrev sWLane : Stmt := top 27
abbrev sFormW : Stmt := top 28
abbrev sLaneW : Stmt := top 29
abbrev sSign : Stmt := top 30
abbrev sRun : Stmt := top 31
abbrev sBent : Stmt := top 32
abbrev sRead : Stmt := top 33
abbrev sAlike : Stmt := top 34
abbrev sAgain : Stmt := top 35
abbrev sLaw : Stmt := top 36

/-- a def of the text -/
structure Df (K : PySem.W.Frag) (mg : Str → Option Value) (x : Str) (st : Stmt) (ps : List Str) (f : Addr) (fd : FuncData) : Prop where
  F : Fun K x x st f fd
  g : mg x = some (.ref f)
  b : Binds K fd ps []
/-- what the top has written -/
structure Txt (K : PySem.W.Frag) (mg : Str → Option Value) (C : Addr) : Prop where
  str : mg "str" = none
  len : mg "len" = none
  int : mg "int" = none
  tuple : mg "tuple" = none
  list : mg "list" = none
  range : mg "range" = none
  isi : mg "isinstance" = none
  all : mg "all" = none
  bool : mg "bool" = none
  abs : mg "abs" = none
  ve : mg "ValueError" = none
  fig : ∃ t, mg "FIGURES" = some (.str "0123456789" t)
  most : ∃ t, mg "MOST" = some (.int 300 t)
  gC : mg "NoText" = some (.ref C)
  xC : PySem.W.excIn K C [.type "ValueError", .type "Exception", .type "BaseException", .type "object"] "ValueError.__new__" = true
  kC : PySem.W.keepIn K (.ref C) = true
  bC : PySem.W.subIn K (.ref C) (.type "BaseException") = some true
  tC : PySem.W.typeIn K (.ref C) = some (.type "type")

/-- the most signs of a text -/
def B : Nat := 1048576

/-! ### lengths -/
theorem len_app (x y : Str) : (x ++ y).length = x.length + y.length := Str.length_append x y
theorem join_len (y : Str) : ∀ {ps : List Str}, ps ≠ [] → (ps.map (·.length)).sum + ps.length * y.length = (Str.join y ps).length + y.length
  | [], h => absurd rfl h
  | [x], _ => by
    show (x.length + 0) + 1 * y.length = x.length + y.length
    omega
  | x :: z :: r, _ => by
    have ih := join_len y (ps := z :: r) (by simp)
    have e : (Str.join y (x :: z :: r)).length = x.length + y.length + (Str.join y (z :: r)).length := by
      show (x ++ y ++ Str.join y (z :: r)).length = _
      rw [len_app, len_app]
    rw [e, List.map_cons, List.sum_cons, List.length_cons, Nat.succ_mul]
    omega
theorem mem_sum {l : List Str} {x : Str} (h : x ∈ l) : x.length ≤ (l.map (·.length)).sum := by
  induction l with
  | nil => cases h
  | cons a r ih =>
    rw [List.map_cons, List.sum_cons]
    rcases List.mem_cons.mp h with rfl | h
    · omega
    · have := ih h
      omega
theorem join_part {y x : Str} {ps : List Str} (h : x ∈ ps) : x.length ≤ (Str.join y ps).length := by
  have hne : ps ≠ [] := List.ne_nil_of_mem h
  have e := join_len y hne
  have h1 := mem_sum h
  have h2 : 1 ≤ ps.length := List.length_pos_iff.mpr hne
  have h3 : y.length ≤ ps.length * y.length := Nat.le_mul_of_pos_left _ h2
  omega
theorem join_many {y : Str} {ps : List Str} (hne : ps ≠ []) (hy : 1 ≤ y.length) : ps.length ≤ (Str.join y ps).length + y.length := by
  have e := join_len y hne
  have h3 : ps.length ≤ ps.length * y.length := Nat.le_mul_of_pos_right _ hy
  omega
theorem len_semi : sSemi.length = 1 := by rw [len_tl, tl_semi]; rfl
theorem len_blank : sBlank.length = 1 := by rw [len_tl, tl_blank]; rfl
theorem len_feed : sFeed.length = 1 := by rw [len_tl, tl_feed]; rfl
theorem len_colon : sColon.length = 1 := by rw [len_tl, tl_colon]; rfl
theorem line_eq : sizeLine = 16777216 := sizeLine_eq
theorem num_short {n : Int} (h : NumOk n) : (num n).length ≤ 301 := Nat.le_trans num_len (Nat.succ_le_succ h)
theorem pairs_le {f : Form} (h : (formText f).length ≤ B) : f.2.length ≤ B := by
  have e := join_many (y := sSemi) (ps := num f.1 :: f.2.map pairText) (by simp) (by rw [len_semi]; exact Nat.le_refl _)
  rw [List.length_cons, List.length_map, len_semi] at e
  have : (formText f).length = (Str.join sSemi (num f.1 :: f.2.map pairText)).length := rfl
  omega
theorem map_get {α β : Type} {g : α → β} {l : List α} {i : Nat} {y : β} (h : (l.map g)[i]? = some y) : ∃ x, l[i]? = some x ∧ g x = y := by
  rw [List.getElem?_map] at h
  cases e : l[i]? with
  | none => rw [e] at h; cases h
  | some x => rw [e] at h; exact ⟨x, rfl, Option.some.inj h⟩
theorem take_map {α β : Type} {g : α → β} {l : List α} {i : Nat} {x : α} (h : l[i]? = some x) : (l.take (i + 1)).map g = (l.take i).map g ++ [g x] := by
  rw [List.take_add_one, h, List.map_append]
  rfl
theorem take_le {α : Type} {l : List α} {i : Nat} : (l.take i).length ≤ l.length := by
  rw [List.length_take]
  omega
theorem get_lt {α : Type} {l : List α} {i : Nat} {x : α} (h : l[i]? = some x) : i < l.length := (List.getElem?_eq_some_iff.mp h).1
end Ln
end
section
namespace Ln
open PySem L2 TL
/-- anything of lanes -/
abbrev Any : Addr → Prop := fun _ => True
def spFormS : Sp := fun vs H Q _ => ∃ (v : V) (f : Form), vs = [v] ∧ Rep Any H v (formD f) ∧ FormOk f ∧ (formText f).length ≤ B ∧ ∀ H', Same H H' → Q (.str (formText f)) H'
section
variable {P : Program} {w : World} {K : PySem.W.Frag} {mg : Str → Option Value} {base : Heap} {C : Addr}
abbrev nFormS : List Str := ["form", "a", "w"]
theorem scFormS : FnScope nFormS ["form"] (defScope sFormS) := ⟨rfl, rfl, rfl, by decide +kernel, rfl, by decide +kernel, by decide +kernel⟩
theorem ok_formS {f : Addr} {fd : FuncData} (T : Txt K mg C) (D : Df K mg "form_shown" sFormS ["form"] f fd) : FnOk P w K mg base CX0 2 f fd ["form"] spFormS := by
  refine D.F.ok scFormS (fun vs H Q E h => ?_) (fun cdv A outer s H vs Q E hr h => ?_)
  · obtain ⟨v, fm, rfl, _⟩ := h
    rfl
  · obtain ⟨v, fm, rfl, hv, hf, hB, k⟩ := h
    obtain ⟨a, p, ws, rfl, ha, hp, rp⟩ := rep_form hv
    refine ⟨_, pss_one (ps_ret (pe_join pe_str (pe_op op_cat
      (pe_lst (pa_cons (pe_callTy call_str_int (by rfl) T.str (by decide +kernel) (pa_cons (pe_ix ix_tup (pv 0) pe_int (fun _ _ => rfl)) pa_nil)) pa_nil))
      (pe_lc (own := [("a", 1), ("w", 2)]) (g := gTup K 2 (gCons (gName 1) (gCons (gName 2) gNil))) (tt := tYes) (by rfl) scFormS.nd (pi_tup (pe_ix ix_tup (pv 0) pe_int (fun _ _ => rfl)))
        (blkOk_by (N := nFormS) (sc := defScope sFormS) (by decide +kernel))
        (fun _ _ _ _ _ => pg_tup rfl (pgs_cons (pg_name (i := 1) scFormS.nd rfl (Or.inl rfl)) (pgs_cons (pg_name (i := 2) scFormS.nd rfl (Or.inl rfl)) pgs_nil)))
        (fun _ _ _ _ _ => pts_nil)
        (fun _ _ _ _ _ => pe_op op_add_str (pe_op op_add_str (pe_callTy call_str_int (by rfl) T.str (by decide +kernel) (pa_cons (pv 1) pa_nil)) pe_str) (pe_callTy call_str_int (by rfl) T.str (by decide +kernel) (pa_cons (pv 2) pa_nil))))))), ?_⟩
    refine ⟨⟨_, rfl⟩, ?_⟩
    refine ⟨_, rfl, a, _, 0, _, rfl, rfl, SqT.of ha, rfl, _, rfl, numOk_log hf.1, by show 1 ≤ sizeLine; decide, fun l hl => ?_⟩
    have s1 : Same H (upd H l (.lst [.str (num fm.1)])) := Same.nw hl
    refine ⟨_, rfl, a, _, 1, _, rfl, rfl, SqT.of (s1 _ _ ha), rfl, p, rfl, ⟨_, SqT.of (s1 _ _ hp)⟩, fun L hL => ?_⟩
    have s2 : Same H (upd (upd H l (.lst [.str (num fm.1)])) L (.lst [])) := s1.up hL
    have hLl : l ≠ L := ne_of_none upd_same hL
    refine lc_tup (K := K) (a := p) (xs := ws) (fun i H' => Same H H' ∧ H' l = some (.lst [.str (num fm.1)]) ∧ H' L = some (.lst ((fm.2.take i).map fun q => V.str (pairText q))))
      ⟨s2, by rw [upd_ne hLl, upd_same]; rfl, upd_same⟩ (fun i H' _ z => SqT.of (z.1 _ _ hp)) ?_ ?_
    · rintro i x H' hi ⟨s3, hl3, hL3⟩
      obtain ⟨d, hd, rx⟩ := rp.get hi
      obtain ⟨q, hq, rfl⟩ := map_get hd
      obtain ⟨t, rfl, ht⟩ := rep_pair rx
      have hok := hf.2 q (List.mem_of_getElem? hq)
      refine ⟨t, _, rfl, SqT.of (s3 _ _ ht), rfl, _, _, rfl, _, _, rfl, rfl, rfl, ?_⟩
      have n1 := num_short hok.1
      have n2 := num_short hok.2
      refine ⟨_, rfl, _, rfl, numOk_log hok.1, _, _, rfl, rfl, ?_, _, rfl, _, rfl, numOk_log hok.2, _, _, rfl, rfl, ?_, _, hL3, ?_, s3.wr (s1.free hL), ?_, ?_⟩
      · have : sColon.length = 1 := len_colon
        show (num q.1).length + sColon.length ≤ sizeLine
        rw [line_eq]
        omega
      · have : sColon.length = 1 := len_colon
        show (num q.1 ++ sColon).length + (num q.2).length ≤ sizeLine
        rw [line_eq, len_app]
        omega
      · rw [List.length_map, line_eq]
        have := pairs_le hB
        have : B = 1048576 := rfl
        have := take_le (l := fm.2) (i := i)
        omega
      · rw [upd_ne hLl]; exact hl3
      · rw [upd_same, take_map hq]
        rfl
    · rintro H' ⟨s3, hl3, hL3⟩
      refine ⟨l, L, _, _, rfl, rfl, hl3, hL3, ?_, fun j hj => ?_⟩
      · rw [List.length_map, line_eq]
        have := pairs_le hB
        have : B = 1048576 := rfl
        have := take_le (l := fm.2) (i := ws.length)
        simp only [List.length_cons, List.length_nil]
        omega
      have hn : ws.length = fm.2.length := by rw [rp.length, List.length_map]
      refine ⟨sSemi, j, num fm.1 :: fm.2.map pairText, rfl, rfl, .inl (SqL.of ?_), ?_, ?_⟩
      · rw [upd_same, hn, List.take_length, List.map_cons, List.map_map]
        rfl
      · rw [join_len sSemi (by simp), len_semi]
        have e : (Str.join sSemi (num fm.1 :: fm.2.map pairText)).length = (formText fm).length := rfl
        have : B = 1048576 := rfl
        omega
      · rw [join_eq]
        exact k _ (s3.up hj)
end
end Ln
end
section
namespace Ln
open PySem L2 TL
def spEdgeS : Sp := fun vs H Q _ => ∃ (v : V) (e : Edge), vs = [v] ∧ Rep Any H v (edgeD e) ∧ EdgeOk e ∧ (edgeText e).length ≤ B ∧ ∀ H', Same H H' → Q (.str (edgeText e)) H'
theorem words_le {w : Str} {a b : Int} {fs : List Form} (h : (Str.join sBlank (w :: num a :: num b :: fs.map formText)).length ≤ B) : fs.length ≤ B ∧ ∀ f ∈ fs, (formText f).length ≤ B := by
  refine ⟨?_, fun f hf => ?_⟩
  · have e := join_many (y := sBlank) (ps := w :: num a :: num b :: fs.map formText) (by simp) (by rw [len_blank]; exact Nat.le_refl _)
    simp only [List.length_cons, List.length_map, len_blank] at e
    omega
  · refine Nat.le_trans (join_part (y := sBlank) (ps := w :: num a :: num b :: fs.map formText) ?_) h
    exact List.mem_cons_of_mem _ (List.mem_cons_of_mem _ (List.mem_cons_of_mem _ (List.mem_map_of_mem hf)))
theorem words_join {w : Str} {a b : Int} {fs : List Form} (h : (Str.join sBlank (w :: num a :: num b :: fs.map formText)).length ≤ B) :
    ((w :: num a :: num b :: fs.map formText).map (·.length)).sum + (w :: num a :: num b :: fs.map formText).length * sBlank.length ≤ 16777216 := by
  rw [join_len sBlank (by simp), len_blank]
  have : B = 1048576 := rfl
  omega
section
variable {P : Program} {w : World} {K : PySem.W.Frag} {mg : Str → Option Value} {base : Heap} {C : Addr}
abbrev nEdgeS : List Str := ["edge", "rows", "moves", "k", "form"]
theorem scEdgeS : FnScope nEdgeS ["edge"] (defScope sEdgeS) := ⟨rfl, rfl, rfl, by decide +kernel, rfl, by decide +kernel, by decide +kernel⟩
theorem ok_edgeS {f fF : Addr} {fd fdF : FuncData} (T : Txt K mg C) (D : Df K mg "edge_shown" sEdgeS ["edge"] f fd) (DF : Df K mg "form_shown" sFormS ["form"] fF fdF) (G : FnOk P w K mg base CX0 2 fF fdF ["form"] spFormS) :
    FnOk P w K mg base CX0 3 f fd ["edge"] spEdgeS := by
  refine D.F.ok scEdgeS (fun vs H Q E h => ?_) (fun cdv A outer s H vs Q E hr h => ?_)
  · obtain ⟨v, e, rfl, _⟩ := h
    rfl
  · obtain ⟨v, e, rfl, hv, he, hB, k⟩ := h
    obtain ⟨a, p, ws, rfl, ha, hp, rp⟩ := rep_edge hv
    obtain ⟨hm, hfl⟩ := words_le hB
    refine ⟨_, pss_cons (ps_asg (pv 0) (pg_tup rfl (pgs_cons (pg_name (i := 1) scEdgeS.nd rfl (Or.inl rfl)) (pgs_cons (pg_name (i := 2) scEdgeS.nd rfl (Or.inl rfl)) (pgs_cons (pg_name (i := 3) scEdgeS.nd rfl (Or.inl rfl)) pgs_nil)))))
      (pss_one (ps_ret (pe_join pe_str (pe_op op_cat
      (pe_lst (pa_cons pe_str (pa_cons (pe_callTy call_str_int (by rfl) T.str (by decide +kernel) (pa_cons (pv 1) pa_nil)) (pa_cons (pe_callTy call_str_int (by rfl) T.str (by decide +kernel) (pa_cons (pv 3) pa_nil)) pa_nil))))
      (pe_lc (own := [("form", 4)]) (g := gName 4) (tt := tYes) (by rfl) scEdgeS.nd (pi_tup (pv 2))
        (blkOk_by (N := nEdgeS) (sc := defScope sEdgeS) (by decide +kernel))
        (fun _ _ _ _ _ => pg_name (i := 4) scEdgeS.nd rfl (Or.inl rfl))
        (fun _ _ _ _ _ => pts_nil)
        (fun _ _ _ _ _ => pe_call G hr (by rfl) DF.g DF.F.kp DF.b .nil pass0 (pa_cons (pv 4) pa_nil))))))), ?_⟩
    refine ⟨_, rfl, a, _, rfl, SqT.of ha, rfl, _, _, rfl, _, _, rfl, _, _, rfl, rfl, ?_⟩
    refine ⟨⟨_, rfl⟩, ?_⟩
    refine ⟨_, rfl, _, rfl, numOk_log he.1, _, rfl, _, rfl, numOk_log he.2.1, (by show 3 ≤ sizeLine; decide), fun l hl => ?_⟩
    have s1 : Same H (upd H l (.lst [.str "edge", .str (num e.rows), .str (num e.k)])) := Same.nw hl
    refine ⟨_, rfl, p, rfl, ⟨_, SqT.of (s1 _ _ hp)⟩, fun L hL => ?_⟩
    have s2 := s1.up (o := .lst []) hL
    have hLl : l ≠ L := ne_of_none upd_same hL
    refine lc_tup (K := K) (a := p) (xs := ws) (fun i H' => Same H H' ∧ H' l = some (.lst [.str "edge", .str (num e.rows), .str (num e.k)]) ∧ H' L = some (.lst ((e.moves.take i).map fun q => V.str (formText q))))
      ⟨s2, by rw [upd_ne hLl, upd_same]; rfl, upd_same⟩ (fun i H' _ z => SqT.of (z.1 _ _ hp)) ?_ ?_
    · rintro i x H' hi ⟨s3, hl3, hL3⟩
      obtain ⟨d, hd, rx⟩ := rp.get hi
      obtain ⟨q, hq, rfl⟩ := map_get hd
      have hmem := List.mem_of_getElem? hq
      refine ⟨rfl, ?_⟩
      refine ⟨_, rfl, x, q, rfl, rx.same s3, he.2.2 q hmem, hfl q hmem, fun H2 s4 => ⟨_, s4 _ _ hL3, ?_, (s3.trans s4).wr (s1.free hL), ?_, ?_⟩⟩
      · rw [List.length_map, line_eq]
        have : B = 1048576 := rfl
        have := take_le (l := e.moves) (i := i)
        omega
      · rw [upd_ne hLl]; exact s4 _ _ hl3
      · rw [upd_same, take_map hq]
    · rintro H' ⟨s3, hl3, hL3⟩
      refine ⟨l, L, _, _, rfl, rfl, hl3, hL3, ?_, fun j hj => ?_⟩
      · rw [List.length_map, line_eq]
        have : B = 1048576 := rfl
        have := take_le (l := e.moves) (i := ws.length)
        simp only [List.length_cons, List.length_nil]
        omega
      have hn : ws.length = e.moves.length := by rw [rp.length, List.length_map]
      refine ⟨sBlank, j, ("edge" : Str) :: num e.rows :: num e.k :: e.moves.map formText, rfl, rfl, .inl (SqL.of ?_), words_join hB, ?_⟩
      · rw [upd_same, hn, List.take_length, List.map_cons, List.map_cons, List.map_cons, List.map_map]
        rfl
      · rw [join_eq]
        exact k _ (s3.up hj)
end

/-! ### a stand's lines, a lane's text -/
def spStandS : Sp := fun vs H Q _ => ∃ (v : V) (s : Stand), vs = [v] ∧ Rep Any H v (standD s) ∧ StandOk s ∧ (standLines s).length ≤ B ∧ (∀ l ∈ standLines s, l.length ≤ B) ∧
  ∀ H' p, Same H H' → H p = none → H' p = some (.lst ((standLines s).map V.str)) → Q (.ref p) H'
def spLaneS : Sp := fun vs H Q _ => ∃ (v : V) (L : List Stand), vs = [v] ∧ Rep Any H v (laneD L) ∧ LaneOk L ∧ (laneText L).length ≤ B ∧ ∀ H', Same H H' → Q (.str (laneText L)) H'
theorem app_assoc (x y z : Str) : x ++ y ++ z = x ++ (y ++ z) := ext_tl (by rw [tl_append, tl_append, tl_append, tl_append, List.append_assoc])
theorem stand_head (n : Int) : ("stand " : Str) ++ num n = Str.join sBlank [("stand" : Str), num n] := by
  show _ = ("stand" : Str) ++ sBlank ++ num n
  have : ("stand " : Str) = ("stand" : Str) ++ sBlank := by decide +kernel
  rw [this]
theorem hold_text (a b : Int) : ("hold " : Str) ++ num a ++ sBlank ++ num b = deedText "hold" [a, b] := by
  show _ = ("hold" : Str) ++ sBlank ++ (num a ++ sBlank ++ num b)
  have : ("hold " : Str) = ("hold" : Str) ++ sBlank := by decide +kernel
  rw [this, app_assoc, app_assoc]
  congr 1
  rw [app_assoc]
theorem standLines_len (s : Stand) : (standLines s).length = s.paper.length + s.deed.edges.length + 2 := by
  unfold standLines
  rw [List.length_cons, List.length_append, List.length_map, List.length_cons, List.length_map]
  omega
theorem paper_in {s : Stand} {e : Frame} (h : e ∈ s.paper) : frameText e ∈ standLines s := List.mem_cons_of_mem _ (List.mem_append_left _ (List.mem_map_of_mem h))
theorem edge_in {s : Stand} {e : Edge} (h : e ∈ s.deed.edges) : edgeText e ∈ standLines s := List.mem_cons_of_mem _ (List.mem_append_right _ (List.mem_cons_of_mem _ (List.mem_map_of_mem h)))
theorem lines_in {L : List Stand} {s : Stand} {l : Str} (h : s ∈ L) (hl : l ∈ standLines s) : l ∈ laneLines L := List.mem_flatten.mpr ⟨_, List.mem_map_of_mem h, hl⟩
theorem lane_ne {L : List Stand} (h : L ≠ []) : laneLines L ≠ [] := by
  cases L with
  | nil => exact absurd rfl h
  | cons s L =>
    unfold laneLines
    rw [List.map_cons, List.flatten_cons]
    unfold standLines
    intro q
    cases q
theorem lane_many {L : List Stand} (h : L ≠ []) (hB : (laneText L).length ≤ B) : (laneLines L).length ≤ B + 1 ∧ ∀ l ∈ laneLines L, l.length ≤ B := by
  have e := join_many (y := sFeed) (ps := laneLines L) (lane_ne h) (by rw [len_feed]; exact Nat.le_refl _)
  rw [len_feed] at e
  refine ⟨Nat.le_trans e (Nat.succ_le_succ hB), fun l hl => Nat.le_trans (join_part (y := sFeed) hl) hB⟩
end Ln
end
section
namespace Ln
open PySem L2 TL HT
theorem drop_min {α : Type} (xs : List α) (k : Nat) : xs.drop (min k xs.length) = xs.drop k := by
  by_cases h : k ≤ xs.length
  · rw [Nat.min_eq_left h]
  · rw [Nat.min_eq_right (by omega), List.drop_of_length_le (Nat.le_refl _), List.drop_of_length_le (by omega)]
theorem cut_from (xs : List V) (k : Nat) : cutV xs (some (k : Int)) none = xs.drop k := by
  unfold cutV
  rw [sIx_nat, sIx_none, drop_min]
  exact List.take_of_length_le (by rw [List.length_drop]; omega)
theorem cut_range (xs : List V) (i j : Nat) : cutV xs (some (i : Int)) (some (j : Int)) = (xs.drop i).take (j - i) := by
  unfold cutV
  rw [sIx_nat, sIx_nat, drop_min]
  by_cases h : i ≤ xs.length
  · by_cases h2 : j ≤ xs.length
    · rw [Nat.min_eq_left h, Nat.min_eq_left h2]
    · rw [Nat.min_eq_left h, Nat.min_eq_right (by omega), List.take_of_length_le (by rw [List.length_drop]; exact Nat.le_refl _), List.take_of_length_le (by rw [List.length_drop]; omega)]
  · rw [List.drop_of_length_le (by omega)]
    simp
theorem cut_to (xs : List V) (j : Nat) : cutV xs none (some (j : Int)) = xs.take j := by
  unfold cutV
  rw [sIx_nat, sIx_none]
  simp only [List.drop_zero, Nat.sub_zero]
  by_cases h2 : j ≤ xs.length
  · rw [Nat.min_eq_left h2]
  · rw [Nat.min_eq_right (by omega), List.take_length, List.take_of_length_le (by omega)]
theorem kind_hold_word {w : Str} {k : Nat × Nat} (h : deedKind w = some k) (hw : w = "hold") : k = (2, 1) := by
  rcases kind_cases h with ⟨_, e⟩ | ⟨c, _⟩ | ⟨c, _⟩ | ⟨c, _⟩
  · exact e
  all_goals
    exfalso
    rw [hw] at c
    revert c
    decide +kernel
theorem kind_other {w : Str} {k : Nat × Nat} (h : deedKind w = some k) (hw : ¬ w = "hold") : k.1 = 0 := by
  rcases kind_cases h with ⟨c, _⟩ | ⟨_, e⟩ | ⟨_, e⟩ | ⟨_, e⟩
  · exact absurd c hw
  all_goals rw [e]
theorem two_of {α : Type} {l : List α} (h : l.length = 2) : ∃ a b, l = [a, b] := match l, h with | [a, b], _ => ⟨a, b, rfl⟩
theorem deed_self (w : Str) : deedText w [] = w := rfl

def spStandS' : Sp := fun vs H Q _ => ∃ (v : V) (s : Stand), vs = [v] ∧ Rep Any H v (standD s) ∧ StandOk s ∧ (standLines s).length ≤ 2000000 ∧ (∀ l ∈ standLines s, l.length ≤ B) ∧
  ∀ H' p, Same H H' → H p = none → H' p = some (.lst ((standLines s).map V.str)) → Q (.ref p) H'
section
variable {P : Program} {w : World} {K : PySem.W.Frag} {mg : Str → Option Value} {base : Heap} {C : Addr}
abbrev nStandS : List Str := ["stand", "many", "paper", "deed", "lines", "f", "at", "forms", "form", "edge"]
theorem scStandS : FnScope nStandS ["stand"] (defScope sStandS) := ⟨rfl, rfl, rfl, by decide +kernel, rfl, by decide +kernel, by decide +kernel⟩
theorem ok_standS {f fF fE : Addr} {fd fdF fdE : FuncData} (T : Txt K mg C) (D : Df K mg "stand_shown" sStandS ["stand"] f fd) (DF : Df K mg "form_shown" sFormS ["form"] fF fdF) (GF : FnOk P w K mg base CX0 2 fF fdF ["form"] spFormS)
    (DE : Df K mg "edge_shown" sEdgeS ["edge"] fE fdE) (GE : FnOk P w K mg base CX0 3 fE fdE ["edge"] spEdgeS) : FnOk P w K mg base CX0 4 f fd ["stand"] spStandS' := by
  refine D.F.ok scStandS (fun vs H Q E h => ?_) (fun cdv A outer s H vs Q E hr h => ?_)
  · obtain ⟨v, e, rfl, _⟩ := h
    rfl
  · obtain ⟨v, st, rfl, hv, hst, hmany, hlens, k⟩ := h
    obtain ⟨a, p, d, ws, us, rfl, ha, _, hp, al, rp, hd, rd⟩ := rep_stand hv
    have hr2 : Room 2 _ := hr.mono (by decide)
    have hlen := standLines_len st
    refine ⟨_, (pss_cons (ps_asg (pv 0) (pg_tup rfl (pgs_cons (pg_name (i := 1) scStandS.nd rfl (Or.inl rfl)) (pgs_cons (pg_name (i := 2) scStandS.nd rfl (Or.inl rfl)) (pgs_cons (pg_name (i := 3) scStandS.nd rfl (Or.inl rfl)) pgs_nil)))))
      (pss_cons (ps_set (i := 4) scStandS.nd rfl (Or.inl rfl) (pe_lst (pa_cons (pe_op op_add_str pe_str (pe_callTy call_str_int (by rfl) T.str (by decide +kernel) (pa_cons (pv 1) pa_nil))) pa_nil)))
      (pss_cons (ps_for PassesOwn.never rfl (pi_list (pv 2)) (pg_tup rfl (pgs_cons (pg_name (i := 5) scStandS.nd rfl (Or.inl rfl)) (pgs_cons (pg_name (i := 6) scStandS.nd rfl (Or.inl rfl)) (pgs_cons (pg_name (i := 7) scStandS.nd rfl (Or.inl rfl)) pgs_nil))))
        (pss_one (ps_expr (pe_bm PySem.F.plainAttrs_list PySem.F.slot_list_append PySem.F.type_list_append mt_append (pv 4) (pa_cons (pe_join pe_str (pe_op op_cat (pe_lst (pa_cons pe_str (pa_cons (pe_callTy call_str_int (by rfl) T.str (by decide +kernel) (pa_cons (pv 5) pa_nil)) (pa_cons (pe_callTy call_str_int (by rfl) T.str (by decide +kernel) (pa_cons (pv 6) pa_nil)) pa_nil)))) (pe_lc (own := [("form", 8)]) (g := (gName 8)) (tt := tYes) (by rfl) scStandS.nd (pi_tup (pv 7)) (blkOk_by (N := nStandS) (sc := defScope sStandS) (by decide +kernel)) (fun _ _ _ _ _ => (pg_name (i := 8) scStandS.nd rfl (Or.inl rfl))) (fun _ _ _ _ _ => pts_nil) (fun _ _ _ _ _ => (pe_call GF hr2 (by rfl) DF.g DF.F.kp DF.b .nil pass0 (pa_cons (pv 8) pa_nil)))))) pa_nil)))))
      (pss_cons (ps_if (pt_cmpR op_eq (pe_ix ix_tup (pv 3) pe_int (fun _ _ => rfl)) pe_str (nomark _))
        (pss_cons (ps_expr (pe_bm PySem.F.plainAttrs_list PySem.F.slot_list_append PySem.F.type_list_append mt_append (pv 4) (pa_cons (pe_op op_add_str (pe_op op_add_str (pe_op op_add_str pe_str (pe_callTy call_str_int (by rfl) T.str (by decide +kernel) (pa_cons (pe_ix ix_tup (pv 3) pe_int (fun _ _ => rfl)) pa_nil))) pe_str) (pe_callTy call_str_int (by rfl) T.str (by decide +kernel) (pa_cons (pe_ix ix_tup (pv 3) pe_int (fun _ _ => rfl)) pa_nil))) pa_nil)))
        (pss_one (ps_ret (pe_op op_cat (pv 4) (pe_lst (pa_cons (pe_call GE hr (by rfl) DE.g DE.F.kp DE.b .nil pass0 (pa_cons (pe_ix ix_tup (pv 3) pe_int (fun _ _ => rfl)) pa_nil)) pa_nil))))))
        pss_nil)
      (pss_one (ps_ret (pe_op op_cat (pe_op op_cat (pv 4) (pe_lst (pa_cons (pe_ix ix_tup (pv 3) pe_int (fun _ _ => rfl)) pa_nil))) (pe_lc (own := [("edge", 9)]) (g := (gName 9)) (tt := tYes) (by rfl) scStandS.nd (pi_tup (pe_slice sl_tup (pv 3) (po_some pe_int) po_none)) (blkOk_by (N := nStandS) (sc := defScope sStandS) (by decide +kernel)) (fun _ _ _ _ _ => (pg_name (i := 9) scStandS.nd rfl (Or.inl rfl))) (fun _ _ _ _ _ => pts_nil) (fun _ _ _ _ _ => (pe_call GE hr (by rfl) DE.g DE.F.kp DE.b .nil pass0 (pa_cons (pv 9) pa_nil))))))))))), ?_⟩
    refine ⟨_, rfl, a, _, rfl, SqT.of ha, rfl, _, _, rfl, _, _, rfl, _, _, rfl, rfl, ?_⟩
    have n1 := num_short hst.1
    have lst : ("stand " : Str).length = 6 := by decide +kernel
    refine ⟨_, rfl, _, rfl, numOk_log hst.1, _, _, rfl, rfl, (by show ("stand " : Str).length + (num st.many).length ≤ sizeLine; rw [line_eq]; omega), (by show 1 ≤ sizeLine; decide), fun l hl => ?_⟩
    have s1 : Same H (upd H l (.lst [.str (Str.join sBlank [("stand" : Str), num st.many])])) := Same.nw hl
    have e0 : upd H l (.lst [.str (("stand " : Str) ++ num st.many)]) l = some (.lst [.str (Str.join sBlank [("stand" : Str), num st.many])]) := by rw [upd_same, stand_head]
    refine ⟨_, rfl, p, rfl, ⟨_, SqL.of (s1 _ _ hp)⟩, for_list (K := K) (a := p) (xs := ws) (fun i σ H' => ∃ v5 v6 v7, σ = [some (.ref a), some (.int st.many), some (.ref p), some (.ref d), some (.ref l), v5, v6, v7, none, none] ∧ Same H H' ∧
        H' l = some (.lst ((Str.join sBlank [("stand" : Str), num st.many] :: (st.paper.take i).map frameText).map V.str)))
      ⟨none, none, none, rfl, s1, e0⟩ (fun i σ H' _ ⟨_, _, _, _, s2, _⟩ => SqL.of (s2 _ _ hp)) ?_ ?_⟩
    · rintro i x σ H' hi ⟨v5, v6, v7, rfl, s2, hl2⟩
      obtain ⟨dd, hdd, rx⟩ := rp.get hi
      obtain ⟨fr, hfr, rfl⟩ := map_get hdd
      have hmem := List.mem_of_getElem? hfr
      have hok := hst.2.1 fr hmem
      obtain ⟨ta, tp, tvs, rfl, hta, htp, rtp⟩ := rep_frame rx
      have hBf : (frameText fr).length ≤ B := hlens _ (paper_in hmem)
      obtain ⟨hm, hfl⟩ := words_le hBf
      refine ⟨ta, _, rfl, SqT.of (s2 _ _ hta), rfl, _, _, rfl, _, _, rfl, _, _, rfl, rfl, ?_⟩
      refine ⟨_, rfl, .inl ⟨rfl, _, SqL.of hl2⟩, ⟨_, rfl⟩, _, rfl, _, rfl, numOk_log hok.1, _, rfl, _, rfl, numOk_log hok.2.1, (by show 3 ≤ sizeLine; decide), fun q hq => ?_⟩
      have s3 := s2.up (o := .lst [.str "frame", .str (num fr.f), .str (num fr.at_)]) hq
      have hlq : l ≠ q := ne_of_none hl2 hq
      refine ⟨_, rfl, tp, rfl, ⟨_, SqT.of (s3 _ _ (htp))⟩, fun L hL => ?_⟩
      have s4 := s3.up (o := .lst []) hL
      have hqL : q ≠ L := ne_of_none upd_same hL
      have hlL : l ≠ L := ne_of_none (by rw [upd_ne hlq]; exact hl2) hL
      refine lc_tup (K := K) (a := tp) (xs := tvs) (fun j H3 => Same H H3 ∧ H3 l = some (.lst ((Str.join sBlank [("stand" : Str), num st.many] :: (st.paper.take i).map frameText).map V.str)) ∧
          H3 q = some (.lst [.str "frame", .str (num fr.f), .str (num fr.at_)]) ∧ H3 L = some (.lst ((fr.forms.take j).map fun z => V.str (formText z))))
        ⟨s4, by rw [upd_ne hlL, upd_ne hlq]; exact hl2, by rw [upd_ne hqL, upd_same]; rfl, upd_same⟩ (fun j H3 _ z => SqT.of (z.1 _ _ (htp))) ?_ ?_
      · rintro j y H3 hj ⟨s5, hl5, hq5, hL5⟩
        obtain ⟨d2, hd2, ry⟩ := rtp.get hj
        obtain ⟨z, hz, rfl⟩ := map_get hd2
        have hzm := List.mem_of_getElem? hz
        refine ⟨rfl, _, rfl, y, z, rfl, ry.same s5, hok.2.2 z hzm, hfl z hzm, fun H4 s6 => ⟨_, s6 _ _ hL5, ?_, (s5.trans s6).wr (s3.free hL), ?_, ?_, ?_⟩⟩
        · rw [List.length_map, line_eq]
          have : B = 1048576 := rfl
          have := take_le (l := fr.forms) (i := j)
          omega
        · rw [upd_ne hlL]; exact s6 _ _ hl5
        · rw [upd_ne hqL]; exact s6 _ _ hq5
        · rw [upd_same, take_map hz]
      · rintro H3 ⟨s5, hl5, hq5, hL5⟩
        have hn : tvs.length = fr.forms.length := by rw [rtp.length, List.length_map]
        refine ⟨q, L, _, _, rfl, rfl, hq5, hL5, ?_, fun jj hjj => ?_⟩
        · rw [List.length_map, line_eq]
          have : B = 1048576 := rfl
          have := take_le (l := fr.forms) (i := tvs.length)
          simp only [List.length_cons, List.length_nil]
          omega
        have hlj : l ≠ jj := ne_of_none hl5 hjj
        refine ⟨sBlank, jj, ("frame" : Str) :: num fr.f :: num fr.at_ :: fr.forms.map formText, rfl, rfl, .inl (SqL.of ?_), words_join hBf, ?_⟩
        · rw [upd_same, hn, List.take_length, List.map_cons, List.map_cons, List.map_cons, List.map_map]
          rfl
        · rw [join_eq]
          refine ⟨l, _, _, rfl, rfl, by rw [upd_ne hlj]; exact hl5, ?_, ?_⟩
          · rw [List.length_map, List.length_cons, List.length_map, line_eq]
            have := take_le (l := st.paper) (i := i)
            omega
          · refine ⟨_, _, _, rfl, (s5.up hjj).wr hl, ?_⟩
            rw [upd_same, List.map_cons, List.map_cons, take_map hfr]
            simp
            rfl
    · rintro σ H' ⟨v5, v6, v7, rfl, s2, hl2⟩
      rw [List.take_of_length_le (by rw [rp.length, List.length_map]; exact Nat.le_refl _)] at hl2
      obtain ⟨v0, us, rfl, h0, rq⟩ := rd.consI
      have hd2 := s2 _ _ hd
      obtain rfl := h0.strI
      have hdk := hst.2.2.1
      refine ⟨_, rfl, d, _, 0, V.str st.deed.word, rfl, rfl, SqT.of hd2, at_of (j := 0) rfl rfl, rfl, _, rfl, ?_⟩
      by_cases hw : st.deed.word = "hold"
      · rw [decide_eq_true (by rw [hw] : V.str st.deed.word = V.str "hold")]
        refine iteT ?_
        obtain ⟨e1, e2⟩ := Prod.mk.inj (kind_hold_word hdk hw)
        obtain ⟨n1, n2, hns⟩ : ∃ n1 n2, st.deed.nums = [n1, n2] := two_of e1
        obtain ⟨eg, heg⟩ : ∃ eg, st.deed.edges = [eg] := List.length_eq_one_iff.mp e2
        rw [hns, heg] at rq
        obtain ⟨v1, us1, rfl, h1, rq1⟩ := rq.consI
        obtain ⟨v2, us2, rfl, h2, rq2⟩ := rq1.consI
        obtain ⟨v3, us3, rfl, h3, rq3⟩ := rq2.consI
        obtain rfl := rq3.nilI
        obtain rfl := h1.intI
        obtain rfl := h2.intI
        have ok1 : NumOk n1 := hst.2.2.2.1 n1 (by rw [hns]; simp)
        have ok2 : NumOk n2 := hst.2.2.2.1 n2 (by rw [hns]; simp)
        have oke : EdgeOk eg := hst.2.2.2.2 eg (by rw [heg]; simp)
        have hBe : (edgeText eg).length ≤ B := hlens _ (edge_in (by rw [heg]; simp))
        have m1 := num_short ok1
        have m2 := num_short ok2
        have lh : ("hold " : Str).length = 5 := by decide +kernel
        have lb := len_blank
        refine ⟨_, rfl, .inl ⟨rfl, _, SqL.of hl2⟩, _, rfl, d, _, 1, _, rfl, rfl, SqT.of hd2, rfl, _, rfl, numOk_log ok1, _, _, rfl, rfl, ?_, _, _, rfl, rfl, ?_, _, rfl, d, _, 2, _, rfl, rfl, SqT.of hd2, rfl, _, rfl, numOk_log ok2, _, _, rfl, rfl, ?_, ?_⟩
        · show ("hold " : Str).length + (num n1).length ≤ sizeLine
          rw [line_eq]; omega
        · show (("hold " : Str) ++ num n1).length + sBlank.length ≤ sizeLine
          rw [line_eq, len_app]; omega
        · show (("hold " : Str) ++ num n1 ++ sBlank).length + (num n2).length ≤ sizeLine
          rw [line_eq, len_app, len_app]; omega
        refine ⟨l, _, _, rfl, rfl, hl2, ?_, ?_⟩
        · rw [List.length_map, List.length_cons, List.length_map, line_eq]
          omega
        have s3 := s2.wr (o := .lst ((Str.join sBlank [("stand" : Str), num st.many] :: st.paper.map frameText).map V.str ++ [.str (("hold " : Str) ++ num n1 ++ sBlank ++ num n2)])) hl
        refine ⟨_, rfl, _, rfl, d, _, 3, _, rfl, rfl, SqT.of (s3 _ _ hd), rfl, v3, eg, rfl, h3.same s3, oke, hBe, fun H2 s4 => ⟨by show 1 ≤ sizeLine; decide, fun q hq => ?_⟩⟩
        have hl4 := s4 _ _ (show upd H' l _ l = some _ from upd_same)
        have hlq : l ≠ q := ne_of_none hl4 hq
        refine ⟨l, q, _, _, rfl, rfl, by rw [upd_ne hlq]; exact hl4, upd_same, ?_, fun z hz => ?_⟩
        · rw [List.length_append, List.length_map, List.length_cons, List.length_map, line_eq]
          simp only [List.length_cons, List.length_nil]
          omega
        refine k _ z (((s3.trans s4).up hq).up hz) (((s3.trans s4).up hq).free hz) ?_
        rw [upd_same]
        refine congrArg (fun q => some (HO.lst q)) ?_
        unfold standLines
        rw [hns, heg, hw, List.map_cons, List.map_cons, List.map_append, List.map_cons, List.map_cons, ← hold_text]
        simp [num, sBlank]
      · rw [decide_eq_false (fun q => hw (V.str.inj q) : ¬ V.str st.deed.word = V.str "hold")]
        refine iteF ?_
        have hns : st.deed.nums = [] := List.length_eq_zero_iff.mp (kind_other hdk hw)
        rw [hns] at rq
        have rq : Reps Any H us (st.deed.edges.map edgeD) := rq
        refine ⟨_, rfl, _, rfl, d, _, 0, V.str st.deed.word, rfl, rfl, SqT.of hd2, at_of (j := 0) rfl rfl, (by show 1 ≤ sizeLine; decide), fun q hq => ?_⟩
        have hlq : l ≠ q := ne_of_none hl2 hq
        have s3 := s2.up (o := .lst [.str st.deed.word]) hq
        refine ⟨l, q, _, _, rfl, rfl, by rw [upd_ne hlq]; exact hl2, upd_same, ?_, fun z hz => ?_⟩
        · rw [List.length_map, List.length_cons, List.length_map, line_eq]
          simp only [List.length_cons, List.length_nil]
          omega
        have s4 := s3.up (o := .lst ((Str.join sBlank [("stand" : Str), num st.many] :: st.paper.map frameText).map V.str ++ [.str st.deed.word])) hz
        refine ⟨_, rfl, _, rfl, d, _, rfl, SqT.of (s4 _ _ hd), ?_, fun y hy => ?_⟩
        · rintro ⟨q1, _⟩
          have : HT.sIx (V.str st.deed.word :: us).length 0 (some ((1 : Nat) : Int)) = 0 := q1
          rw [sIx_nat, List.length_cons] at this
          omega
        have ecut : cutV (V.str st.deed.word :: us) (some 1) none = us := cut_from _ 1
        rw [ecut]
        have s5 := s4.up (o := .tup us) hy
        have hzy : z ≠ y := ne_of_none upd_same hy
        refine ⟨y, rfl, ⟨_, SqT.of upd_same⟩, fun L hL => ?_⟩
        have s6 := s5.up (o := .lst []) hL
        have hyL : y ≠ L := ne_of_none upd_same hL
        have hzL : z ≠ L := ne_of_none (by rw [upd_ne hzy, upd_same]) hL
        refine lc_tup (K := K) (a := y) (xs := us) (fun j H3 => Same H H3 ∧ H3 y = some (.tup us) ∧ H3 z = some (.lst ((Str.join sBlank [("stand" : Str), num st.many] :: st.paper.map frameText).map V.str ++ [.str st.deed.word])) ∧
            H3 L = some (.lst ((st.deed.edges.take j).map fun z => V.str (edgeText z))))
          ⟨s6, by rw [upd_ne hyL, upd_same], by rw [upd_ne hzL, upd_ne hzy, upd_same], upd_same⟩ (fun j H3 _ z => SqT.of z.2.1) ?_ ?_
        · rintro j x H3 hj ⟨s7, hy7, hz7, hL7⟩
          obtain ⟨d2, hd2', rx⟩ := rq.get hj
          obtain ⟨eg, heg, rfl⟩ := map_get hd2'
          have hzm := List.mem_of_getElem? heg
          refine ⟨rfl, _, rfl, x, eg, rfl, rx.same s7, hst.2.2.2.2 eg hzm, hlens _ (edge_in hzm), fun H4 s8 => ⟨_, s8 _ _ hL7, ?_, (s7.trans s8).wr (s5.free hL), ?_, ?_, ?_⟩⟩
          · rw [List.length_map, line_eq]
            have := take_le (l := st.deed.edges) (i := j)
            omega
          · rw [upd_ne hyL]; exact s8 _ _ hy7
          · rw [upd_ne hzL]; exact s8 _ _ hz7
          · rw [upd_same, take_map heg]
        · rintro H3 ⟨s7, hy7, hz7, hL7⟩
          have hn : us.length = st.deed.edges.length := by rw [rq.length, List.length_map]
          rw [hn, List.take_length] at hL7
          refine ⟨z, L, _, _, rfl, rfl, hz7, hL7, ?_, fun t ht => ?_⟩
          · rw [List.length_append, List.length_map, List.length_map, List.length_cons, List.length_map, line_eq]
            simp only [List.length_cons, List.length_nil]
            omega
          refine k _ t (s7.up ht) (s7.free ht) ?_
          rw [upd_same]
          refine congrArg (fun q => some (HO.lst q)) ?_
          unfold standLines
          rw [hns, deed_self, List.map_cons, List.map_cons, List.map_append, List.map_cons, List.map_map]
          simp
end
def ln0 : Str := sFeed
section
variable {P : Program} {w : World} {K : PySem.W.Frag} {mg : Str → Option Value} {base : Heap} {C : Addr}
abbrev nLaneS : List Str := ["lane", "lines", "stand"]
theorem scLaneS : FnScope nLaneS ["lane"] (defScope sLaneS) := ⟨rfl, rfl, rfl, by decide +kernel, rfl, by decide +kernel, by decide +kernel⟩
theorem laneLines_take {L : List Stand} {i : Nat} {s : Stand} (h : L[i]? = some s) : laneLines (L.take (i + 1)) = laneLines (L.take i) ++ standLines s := by
  unfold laneLines
  rw [take_map h, List.flatten_append]
  simp
theorem laneLines_part {L : List Stand} {i : Nat} : (laneLines (L.take i)).length ≤ (laneLines L).length := by
  have e : laneLines L = laneLines (L.take i) ++ laneLines (L.drop i) := by
    unfold laneLines
    rw [← List.flatten_append, ← List.map_append, List.take_append_drop]
  rw [e, List.length_append]
  omega
theorem stand_part {L : List Stand} {s : Stand} (h : s ∈ L) : (standLines s).length ≤ (laneLines L).length := by
  obtain ⟨a, b, rfl⟩ := List.append_of_mem h
  unfold laneLines
  rw [List.map_append, List.map_cons, List.flatten_append, List.flatten_cons, List.length_append, List.length_append]
  omega
theorem ok_laneS {f fS : Addr} {fd fdS : FuncData} (T : Txt K mg C) (D : Df K mg "shown_lane" sLaneS ["lane"] f fd) (DS : Df K mg "stand_shown" sStandS ["stand"] fS fdS) (G : FnOk P w K mg base CX0 4 fS fdS ["stand"] spStandS') :
    FnOk P w K mg base CX0 5 f fd ["lane"] spLaneS := by
  refine D.F.ok scLaneS (fun vs H Q E h => ?_) (fun cdv A outer s H vs Q E hr h => ?_)
  · obtain ⟨v, e, rfl, _⟩ := h
    rfl
  · obtain ⟨v, Ln, rfl, hv, hok, hB, k⟩ := h
    obtain ⟨a, vs, rfl, _, ha, al, rs⟩ := hv.lstI
    obtain ⟨hmany, hlens⟩ := lane_many hok.1 hB
    have hBB : B = 1048576 := rfl
    refine ⟨_, (pss_cons (ps_set (i := 1) scLaneS.nd rfl (Or.inl rfl) (pe_lst pa_nil))
      (pss_cons (ps_for PassesOwn.never rfl (pi_list (pv 0)) (pg_name (i := 2) scLaneS.nd rfl (Or.inl rfl))
        (pss_one (ps_set (i := 1) scLaneS.nd rfl (Or.inl rfl) (pe_op op_cat (pv 1) (pe_call G hr (by rfl) DS.g DS.F.kp DS.b .nil pass0 (pa_cons (pv 2) pa_nil))))))
      (pss_one (ps_ret (pe_join pe_str (pv 1)))))), ?_⟩
    refine ⟨Nat.zero_le _, fun l hl => ?_⟩
    have s1 : Same H (upd H l (.lst [])) := Same.nw hl
    refine ⟨_, rfl, a, rfl, ⟨_, SqL.of (s1 _ _ ha)⟩, for_list (K := K) (a := a) (xs := vs) (fun i σ H' => ∃ p v2, σ = [some (.ref a), some (.ref p), v2] ∧ Same H H' ∧ H' p = some (.lst ((laneLines (Ln.take i)).map V.str)))
      ⟨l, none, rfl, s1, upd_same⟩ (fun i σ H' _ ⟨_, _, _, s2, _⟩ => SqL.of (s2 _ _ ha)) ?_ ?_⟩
    · rintro i x σ H' hi ⟨p, v2, rfl, s2, hp⟩
      obtain ⟨d, hd, rx⟩ := rs.get hi
      obtain ⟨st, hst, rfl⟩ := map_get hd
      have hmem := List.mem_of_getElem? hst
      have hl1 := stand_part hmem
      refine ⟨_, rfl, _, rfl, x, st, rfl, rx.same s2, hok.2 st hmem, by omega, fun y hy => hlens y (lines_in hmem hy), fun H2 q s3 _ hq => ?_⟩
      refine ⟨p, q, _, _, rfl, rfl, s3 _ _ hp, hq, ?_, fun z hz => ?_⟩
      · rw [List.length_map, List.length_map, line_eq]
        have := laneLines_part (L := Ln) (i := i)
        omega
      refine ⟨z, _, rfl, (s2.trans s3).up hz, ?_⟩
      rw [upd_same, laneLines_take hst, List.map_append]
    · rintro σ H' ⟨p, v2, rfl, s2, hp⟩
      have hn : vs.length = Ln.length := by rw [rs.length, List.length_map]
      rw [hn, List.take_length] at hp
      refine ⟨⟨_, rfl⟩, _, rfl, sFeed, p, laneLines Ln, rfl, rfl, .inl (SqL.of hp), ?_, ?_⟩
      · rw [join_len sFeed (lane_ne hok.1), len_feed]
        have : (Str.join sFeed (laneLines Ln)).length = (laneText Ln).length := rfl
        omega
      · rw [join_eq]
        exact k _ s2
end
end Ln
end
section
namespace Ln
open PySem L2 TL HT
/-- a for over a text's signs -/
theorem for_str {x : Str} {g : TG} {tb : TS} {D : Ends} {σ : St} {H : Hp} (Pv : Nat → St → Hp → Prop) (h0 : Pv 0 σ H)
    (hs : ∀ i c σ H, (tl x)[i]? = some c → Pv i σ H → g (.str ⟨#[c]⟩) σ H fun σ2 H2 => tb { D with nx := Pv (i + 1), ct := Pv (i + 1), bk := D.nx } σ2 H2) (hd : ∀ σ H, Pv (tl x).length σ H → D.nx σ H) :
    ∃ W : Nat → Nat → St → Hp → Prop, (∃ m, W 0 m σ H) ∧ ∀ i m σ H, W i m σ H →
      ((Its x).stop i H ∧ D.nx σ H) ∨ ((Its x).go i H ∧ ∃ N : St → Hp → Prop, (∀ σ' H', N σ' H' → ∃ m', m' < m ∧ W (i + 1) m' σ' H') ∧ ∀ v H', (Its x).yld i H v H' → g v σ H' fun σ2 H2 => tb { D with nx := N, ct := N, bk := D.nx } σ2 H2) := by
  have hsz : (tl x).length = x.cps.size := Array.length_toList
  refine ⟨fun i m σ H => m = (tl x).length - i ∧ i ≤ (tl x).length ∧ Pv i σ H, ⟨_, rfl, Nat.zero_le _, h0⟩, ?_⟩
  rintro i m σ H ⟨rfl, hi, p⟩
  by_cases hlt : i < (tl x).length
  · refine .inr ⟨show i < x.cps.size by omega, Pv (i + 1), fun σ' H' p' => ⟨(tl x).length - (i + 1), by omega, rfl, hlt, p'⟩, fun v H' y => ?_⟩
    obtain ⟨rfl, c, hc, rfl⟩ := y
    exact hs i c σ _ (by show x.cps.toList[i]? = some c; rw [Array.getElem?_toList]; exact hc) p
  · have e : i = (tl x).length := by omega
    subst e
    exact .inl ⟨Nat.le_of_eq hsz.symm, hd σ H p⟩
theorem tl_cutS (z : Str) (lo hi : Option Int) : tl (cutS z lo hi) = ((tl z).drop (HT.sIx z.length 0 lo)).take (HT.sIx z.length z.length hi - HT.sIx z.length 0 lo) := rfl
theorem cutS_from (z : Str) (k : Nat) : tl (cutS z (some (k : Int)) none) = (tl z).drop k := by
  rw [tl_cutS, sIx_nat, sIx_none, len_tl, drop_min]
  exact List.take_of_length_le (by rw [List.length_drop]; omega)
theorem cutS_to (z : Str) (k : Nat) : tl (cutS z none (some (k : Int))) = (tl z).take k := by
  rw [tl_cutS, sIx_nat, sIx_none, len_tl, List.drop_zero, Nat.sub_zero]
  by_cases h2 : k ≤ (tl z).length
  · rw [Nat.min_eq_left h2]
  · rw [Nat.min_eq_right (by omega), List.take_length, List.take_of_length_le (by omega)]
theorem mem_figs (c : Nat) : c ∈ (Str.ofString "0123456789").cps.toList ↔ 48 ≤ c ∧ c ≤ 57 := by
  have e : (Str.ofString "0123456789").cps.toList = [48, 49, 50, 51, 52, 53, 54, 55, 56, 57] := tl_ofString _
  rw [e]
  simp only [List.mem_cons, List.not_mem_nil, or_false]
  omega
def spWhole (C : Addr) : Sp := fun vs H Q E => ∃ (t : Str), vs = [.str t, .int 300] ∧ t.length ≤ B ∧ (∀ n, readWhole t 300 = some n → Q (.int n) H) ∧ (readWhole t 300 = none → E (.ref C) none H)
/-- the text of the figures -/
def figsT (t : Str) : Str := if (tl t).head? = some 45 then cutS t (some 1) none else t
theorem tl_figsT (t : Str) : tl (figsT t) = figsL (tl t) := by
  unfold figsT figsL
  split
  · rw [show (some (1 : Int)) = some ((1 : Nat) : Int) from rfl, cutS_from, List.drop_one]
  · rfl
theorem figs_le {l : List Nat} : (figsL l).length ≤ l.length := by
  unfold figsL
  split
  · rw [List.length_tail]; omega
  · exact Nat.le_refl _
theorem head_take {l : List Nat} : l.take 1 = [45] ↔ l.head? = some 45 := by
  cases l <;> simp
section
variable {P : Program} {w : World} {K : PySem.W.Frag} {mg : Str → Option Value} {base : Heap} {C : Addr}
abbrev nWhole : List Str := ["text", "most", "figures", "sign"]
theorem scWhole : FnScope nWhole ["text", "most"] (defScope sWhole) := ⟨rfl, rfl, rfl, by decide +kernel, rfl, by decide +kernel, by decide +kernel⟩
theorem ok_whole {f : Addr} {fd : FuncData} (T : Txt K mg C) (D : Df K mg "read_whole" sWhole ["text", "most"] f fd) : FnOk P w K mg base (L2.CX P w) 2 f fd ["text", "most"] (spWhole C) := by
  refine D.F.okX scWhole (fun vs H Q E h => ?_) (fun cdv A outer s H vs Q E hr h => ?_)
  · obtain ⟨t, rfl, _⟩ := h
    rfl
  · obtain ⟨t, rfl, hB, kS, kN⟩ := h
    obtain ⟨tf, hfig⟩ := T.fig
    have hBB : B = 1048576 := rfl
    refine ⟨_, (pss_cons (ps_set (i := 2) scWhole.nd rfl (Or.inl rfl) (pe_ifExp (pt_cmpR op_eq (pe_slice sl_str (pv 0) po_none (po_some pe_int)) pe_str (nomark _)) (pe_slice sl_str (pv 0) (po_some pe_int) po_none) (pv 0)))
      (pss_cons (ps_if (PW.pt (pw_or (pt_cmpR op_eq (pv 2) pe_str (nomark _)) (pw_or1 (pt_cmpR op_gt (pe_callB call_len_str (by rfl) T.len (by decide +kernel) (pa_cons (pv 2) pa_nil)) (pv 1) (nomark _)))))
        (pss_one (ps_raise rfl (takes_of rfl rfl rfl rfl) (pmk_own PySem.F.excBase_ValueError T.xC T.gC T.kC (raises_own T.bC T.tC) (by rfl))))
        pss_nil)
      (pss_cons (ps_for (passes_of rfl) rfl (pi_str (pv 2)) (pg_name (i := 3) scWhole.nd rfl (Or.inl rfl))
        (pss_one (ps_if (pt_cmpR op_notIn_sign (pv 3) (pe_glob (v := .str "0123456789") (by rfl) hfig ⟨_, rfl⟩) (by rfl))
          (pss_one (ps_raise rfl (takes_of rfl rfl rfl rfl) (pmk_own PySem.F.excBase_ValueError T.xC T.gC T.kC (raises_own T.bC T.tC) (by rfl))))
          pss_nil)))
      (pss_cons (ps_if (PW.pt (pw_and (pt_cmpR op_eq (pe_ix ix_str (pv 2) pe_int (fun _ _ => rfl)) pe_str (nomark _)) (pw_and1 (pt_cmpR op_gt (pe_callB call_len_str (by rfl) T.len (by decide +kernel) (pa_cons (pv 0) pa_nil)) pe_int (nomark _)))))
        (pss_one (ps_raise rfl (takes_of rfl rfl rfl rfl) (pmk_own PySem.F.excBase_ValueError T.xC T.gC T.kC (raises_own T.bC T.tC) (by rfl))))
        pss_nil)
      (pss_one (ps_ret (pe_callTy call_int_str (by rfl) T.int (by decide +kernel) (pa_cons (pv 0) pa_nil)))))))), ?_⟩
    have hl0 : t.length ≤ sizeLine := by rw [line_eq]; omega
    refine ⟨_, rfl, _, rfl, t, rfl, hl0, rfl, _, rfl, ?_⟩
    have key : ∀ (Q' : V → Hp → Prop), Q' (.str (figsT t)) H → if decide (V.str (cutS t none (some 1)) = V.str "-") = true then
        tSl rSlS (tVar 0) (tPart (tC (.int 1))) tNoPart [some (.str t), some (.int 300), none, none] H Q' else tVar 0 [some (.str t), some (.int 300), none, none] H Q' := by
      intro Q' hq
      have hiff : V.str (cutS t none (some 1)) = V.str "-" ↔ (tl t).head? = some 45 := by
        rw [← head_take]
        constructor
        · intro q
          have e := congrArg tl (V.str.inj q)
          rw [show (some (1 : Int)) = some ((1 : Nat) : Int) from rfl, cutS_to, tl_ofString] at e
          exact e
        · intro q
          refine congrArg V.str (ext_tl ?_)
          rw [show (some (1 : Int)) = some ((1 : Nat) : Int) from rfl, cutS_to, tl_ofString]
          exact q
      unfold figsT at hq
      by_cases h : (tl t).head? = some 45
      · rw [decide_eq_true (hiff.mpr h)]
        rw [if_pos h] at hq
        exact iteT ⟨_, rfl, _, rfl, t, rfl, hl0, hq⟩
      · rw [decide_eq_false fun q => h (hiff.mp q)]
        rw [if_neg h] at hq
        exact iteF ⟨_, rfl, hq⟩
    refine key _ ?_
    have hfl : (figsT t).length = (figsL (tl t)).length := by rw [len_tl, tl_figsT]
    have hfl2 : (figsL (tl t)).length ≤ t.length := by rw [len_tl]; exact figs_le
    have hempty : V.str (figsT t) = V.str "" ↔ figsL (tl t) = [] := by
      rw [← tl_figsT]
      constructor
      · intro q
        rw [V.str.inj q, tl_ofString]
        rfl
      · intro q
        refine congrArg V.str (ext_tl ?_)
        rw [q, tl_ofString]
        rfl
    have nope : (figsL (tl t) = [] ∨ 300 < (figsL (tl t)).length) → readWhole t 300 = none := fun q => by
      unfold readWhole wholeL
      rw [if_pos q]
    refine ⟨_, rfl, rfl, _, rfl, ?_⟩
    by_cases h1 : figsL (tl t) = []
    · rw [decide_eq_true (hempty.mpr h1)]
      exact iteT (iteT (kN (nope (.inl h1))))
    rw [decide_eq_false fun q => h1 (hempty.mp q)]
    refine iteF ⟨_, rfl, figsT t, rfl, by omega, _, rfl, _, _, rfl, rfl, _, rfl, ?_⟩
    by_cases h2 : (300 : Int) < ((figsT t).length : Int)
    · rw [decide_eq_true h2]
      exact iteT (kN (nope (.inr (by omega))))
    rw [decide_eq_false h2]
    refine iteF ?_
    refine ⟨_, rfl, figsT t, rfl, for_str (fun i σ H' => ∃ v, σ = [some (.str t), some (.int 300), some (.str (figsT t)), v] ∧ H' = H ∧ ∀ c ∈ (figsL (tl t)).take i, 48 ≤ c ∧ c ≤ 57)
      ⟨none, rfl, rfl, fun c q => by simp at q⟩ ?_ ?_⟩
    · rintro i c σ H' hi ⟨v, rfl, rfl, hall⟩
      rw [tl_figsT] at hi
      refine ⟨_, rfl, c, _, rfl, rfl, _, rfl, ?_⟩
      by_cases h3 : 48 ≤ c ∧ c ≤ 57
      · rw [decide_eq_true ((mem_figs c).mpr h3)]
        refine iteF ⟨_, rfl, rfl, fun d hd => ?_⟩
        rw [List.take_add_one, hi] at hd
        rcases List.mem_append.mp hd with hd | hd
        · exact hall d hd
        · have : d = c := by simpa using hd
          rw [this]; exact h3
      · rw [decide_eq_false fun q => h3 ((mem_figs c).mp q)]
        refine iteT (kN ?_)
        unfold readWhole wholeL
        rw [if_neg (by rintro (q | q); exact h1 q; omega), if_pos ⟨c, List.mem_of_getElem? hi, h3⟩]
    · rintro σ H' ⟨v, rfl, rfl, hall⟩
      rw [tl_figsT, List.take_length] at hall
      obtain ⟨c, r, ec⟩ := List.exists_cons_of_ne_nil h1
      have hc0 : atI (figsT t).cps.toList 0 = some c := atI_nat (xs := (figsT t).cps.toList) (j := 0) (v := c) (by show (tl (figsT t))[0]? = some c; rw [tl_figsT, ec]; rfl)
      have n0 : ¬ (figsL (tl t) = [] ∨ 300 < (figsL (tl t)).length) := by rintro (q | q); exact h1 q; omega
      have n1 : ¬ ∃ c ∈ figsL (tl t), ¬ (48 ≤ c ∧ c ≤ 57) := by rintro ⟨c, hc, q⟩; exact q (hall c hc)
      have hz : V.str ⟨#[c]⟩ = V.str "0" ↔ (figsL (tl t)).head? = some 48 := by
        rw [ec]
        constructor
        · intro q
          have e := congrArg tl (V.str.inj q)
          rw [tl_ofString] at e
          have e : [c] = [48] := e
          rw [List.cons.inj e |>.1]
          rfl
        · intro q
          have : c = 48 := Option.some.inj q
          rw [this]
          refine congrArg V.str (ext_tl ?_)
          rw [tl_ofString]
          rfl
      have last : ∀ (hn : ¬ ((figsL (tl t)).head? = some 48 ∧ 1 < (tl t).length)), tRet (tCB (fun xs H Q => ∃ a n, xs = [.str a] ∧ PySem.intText? a = some n ∧ a.length ≤ 640 ∧ Q (.int n) H) (tCons (tVar 0) tNil)) { nx := fun _ H' => Q .non H', rt := Q } [some (.str t), some (.int 300), some (.str (figsT t)), v] H' := by
        intro hn
        have hl3 : t.length ≤ 301 := by
          have : (tl t).length ≤ (figsL (tl t)).length + 1 := by
            unfold figsL
            split
            · rw [List.length_tail]; omega
            · omega
          rw [len_tl]
          omega
        have hd : NumText.AllDigits (figsL (tl t)) := hall
        by_cases h5 : (tl t).head? = some 45
        · have ef : figsL (tl t) = (tl t).tail := by unfold figsL; rw [if_pos h5]
          have et : t.cps.toList = 45 :: figsL (tl t) := by
            show tl t = _
            rw [ef]
            cases e : tl t with
            | nil => rw [e] at h5; cases h5
            | cons x y =>
              rw [e] at h5
              have : x = 45 := Option.some.inj h5
              rw [this]; rfl
          refine ⟨_, rfl, t, _, rfl, PySem.intText_neg et hd h1 (by omega), by omega, kS _ ?_⟩
          unfold readWhole wholeL
          rw [if_neg n0, if_neg n1, if_neg hn, if_pos h5]
        · have ef : figsL (tl t) = tl t := by unfold figsL; rw [if_neg h5]
          refine ⟨_, rfl, t, _, rfl, PySem.intText_digits (by show NumText.AllDigits (tl t); rw [← ef]; exact hd) (by show tl t ≠ []; rw [← ef]; exact h1) (by omega), by omega, kS _ ?_⟩
          unfold readWhole wholeL
          rw [if_neg n0, if_neg n1, if_neg hn, if_neg h5, ef]
      refine ⟨_, rfl, figsT t, 0, c, rfl, rfl, by omega, hc0, rfl, _, rfl, ?_⟩
      by_cases h4 : (figsL (tl t)).head? = some 48
      · rw [decide_eq_true (hz.mpr h4)]
        refine iteT ⟨_, rfl, t, rfl, hl0, _, _, rfl, rfl, _, rfl, ?_⟩
        by_cases h5 : (1 : Int) < (t.length : Int)
        · rw [decide_eq_true h5]
          refine iteT (kN ?_)
          unfold readWhole wholeL
          rw [if_neg n0, if_neg n1, if_pos ⟨h4, by rw [← len_tl]; omega⟩]
        · rw [decide_eq_false h5]
          exact iteF (last fun q => h5 (by have := q.2; rw [← len_tl] at this; omega))
      · rw [decide_eq_false fun q => h4 (hz.mp q)]
        exact iteF (iteF (last fun q => h4 q.1))
end
end Ln
end
section
namespace Ln
open PySem L2 TL HT
/-- no list within -/
abbrev Non : Addr → Prop := fun _ => False
theorem split_parts {t y : Str} (hy : y.length = 1) (hn : tl y ≠ []) : (Txt.split t y).length ≤ t.length + 1 ∧ ∀ p ∈ Txt.split t y, p.length ≤ t.length := by
  have e := split_back t y
  have hne := split_ne t y hn
  refine ⟨?_, fun p hp => ?_⟩
  · have := join_many (y := y) (ps := Txt.split t y) hne (by omega)
    rw [← e] at this
    omega
  · have := join_part (y := y) hp
    rw [← e] at this
    exact this
theorem split_semi (t : Str) : (Txt.split t sSemi).length ≤ t.length + 1 ∧ ∀ p ∈ Txt.split t sSemi, p.length ≤ t.length := split_parts len_semi (by rw [tl_semi]; simp)
theorem split_colon (t : Str) : (Txt.split t sColon).length ≤ t.length + 1 ∧ ∀ p ∈ Txt.split t sColon, p.length ≤ t.length := split_parts len_colon (by rw [tl_colon]; simp)
theorem split_blank (t : Str) : (Txt.split t sBlank).length ≤ t.length + 1 ∧ ∀ p ∈ Txt.split t sBlank, p.length ≤ t.length := split_parts len_blank (by rw [tl_blank]; simp)
theorem split_feed (t : Str) : (Txt.split t sFeed).length ≤ t.length + 1 ∧ ∀ p ∈ Txt.split t sFeed, p.length ≤ t.length := split_parts len_feed (by rw [tl_feed]; simp)
theorem take_succ_of {α : Type} {l : List α} {i : Nat} {x : α} (h : l[i]? = some x) : l.take (i + 1) = l.take i ++ [x] := by
  rw [List.take_add_one, h]
  rfl
def spForm (C : Addr) : Sp := fun vs H Q E => ∃ (t : Str), vs = [.str t] ∧ t.length ≤ B ∧ (∀ f, formOf t = some f → ∀ H' v, Same H H' → Rep Non H' v (formD f) → Q v H') ∧ (formOf t = none → ∀ H', Same H H' → E (.ref C) none H')
section
variable {P : Program} {w : World} {K : PySem.W.Frag} {mg : Str → Option Value} {base : Heap} {C : Addr}
abbrev nForm : List Str := ["text", "some", "pairs", "one", "pair"]
theorem scForm : FnScope nForm ["text"] (defScope sForm) := ⟨rfl, rfl, rfl, by decide +kernel, rfl, by decide +kernel, by decide +kernel⟩
theorem ok_form {f fW : Addr} {fd fdW : FuncData} (T : Txt K mg C) (D : Df K mg "form_of" sForm ["text"] f fd) (DW : Df K mg "read_whole" sWhole ["text", "most"] fW fdW) (GW : FnOk P w K mg base (L2.CX P w) 2 fW fdW ["text", "most"] (spWhole C)) :
    FnOk P w K mg base (L2.CX P w) 3 f fd ["text"] (spForm C) := by
  refine D.F.okX scForm (fun vs H Q E h => ?_) (fun cdv A outer s H vs Q E hr h => ?_)
  · obtain ⟨t, rfl, _⟩ := h
    rfl
  · obtain ⟨t, rfl, hB, kS, kN⟩ := h
    obtain ⟨tm, hmost⟩ := T.most
    have hr2 : Room 2 _ := hr.mono (by decide)
    have hBB : B = 1048576 := rfl
    refine ⟨_, (pss_cons (ps_set (i := 1) scForm.nd rfl (Or.inl rfl) (pe_split (pv 0) pe_str))
      (pss_cons (ps_set (i := 2) scForm.nd rfl (Or.inl rfl) (pe_lst pa_nil))
      (pss_cons (ps_for (passes_of rfl) rfl (pi_list (pe_slice sl_list (pv 1) (po_some pe_int) po_none)) (pg_name (i := 3) scForm.nd rfl (Or.inl rfl))
        (pss_cons (ps_set (i := 4) scForm.nd rfl (Or.inl rfl) (pe_split (pv 3) pe_str))
        (pss_cons (ps_if (pt_cmpR op_ne (pe_callB call_len_seq (by rfl) T.len (by decide +kernel) (pa_cons (pv 4) pa_nil)) pe_int (nomark _))
          (pss_one (ps_raise rfl (takes_of rfl rfl rfl rfl) (pmk_own PySem.F.excBase_ValueError T.xC T.gC T.kC (raises_own T.bC T.tC) (by rfl))))
          pss_nil)
        (pss_one (ps_expr (pe_bm PySem.F.plainAttrs_list PySem.F.slot_list_append PySem.F.type_list_append mt_append (pv 2) (pa_cons (pe_tup (pa_cons (pe_call GW hr2 (by rfl) DW.g DW.F.kp DW.b .nil (passes_call (takes_of rfl rfl rfl rfl) (fun _ _ _ _ z => z)) (pa_cons (pe_ix ix_list (pv 4) pe_int (fun _ _ => rfl)) (pa_cons (pe_glob (v := .int 300) (by rfl) hmost ⟨_, rfl⟩) pa_nil))) (pa_cons (pe_call GW hr2 (by rfl) DW.g DW.F.kp DW.b .nil (passes_call (takes_of rfl rfl rfl rfl) (fun _ _ _ _ z => z)) (pa_cons (pe_ix ix_list (pv 4) pe_int (fun _ _ => rfl)) (pa_cons (pe_glob (v := .int 300) (by rfl) hmost ⟨_, rfl⟩) pa_nil))) pa_nil))) pa_nil)))))))
      (pss_one (ps_ret (pe_tup (pa_cons (pe_call GW hr2 (by rfl) DW.g DW.F.kp DW.b .nil (passes_call (takes_of rfl rfl rfl rfl) (fun _ _ _ _ z => z)) (pa_cons (pe_ix ix_list (pv 1) pe_int (fun _ _ => rfl)) (pa_cons (pe_glob (v := .int 300) (by rfl) hmost ⟨_, rfl⟩) pa_nil))) (pa_cons (pe_callTy call_tuple_of (by rfl) T.tuple (by decide +kernel) (pa_cons (pv 2) pa_nil)) pa_nil)))))))), ?_⟩
    refine ⟨_, rfl, ⟨_, rfl⟩, t, sSemi, rfl, rfl, (by decide +kernel), (by rw [line_eq]; omega), fun l hl => ?_⟩
    have s1 : Same H (upd H l (.lst ((Txt.split t sSemi).map V.str))) := Same.nw hl
    refine ⟨Nat.zero_le _, fun q hq => ?_⟩
    have s2 := s1.up (o := .lst []) hq
    have hlq : l ≠ q := ne_of_none upd_same hq
    have hq0 : H q = none := s1.free hq
    obtain ⟨sm, slen⟩ := split_semi t
    obtain ⟨s0, rs, esp⟩ := List.exists_cons_of_ne_nil (split_ne t sSemi (by rw [tl_semi]; simp))
    rw [esp] at s1 hq s2 sm slen ⊢
    refine ⟨_, rfl, _, rfl, l, _, rfl, SqL.of (by rw [upd_ne hlq, upd_same]), fun m hm => ?_⟩
    have ecut : cutV ((s0 :: rs).map V.str) (some 1) none = rs.map V.str := cut_from _ 1
    rw [ecut]
    have s3 := s2.up (o := .lst (rs.map V.str)) hm
    have hlm : l ≠ m := ne_of_none (by rw [upd_ne hlq, upd_same]) hm
    have hqm : q ≠ m := ne_of_none upd_same hm
    have hm0 : H m = none := s2.free hm
    refine ⟨m, rfl, ⟨_, SqL.of upd_same⟩, for_list (K := K) (a := m) (xs := rs.map V.str) (fun i σ H' => ∃ v3 v4 vs ps, σ = [some (.str t), some (.ref l), some (.ref q), v3, v4] ∧ Same H H' ∧ H' l = some (.lst ((s0 :: rs).map V.str)) ∧ H' m = some (.lst (rs.map V.str)) ∧
        H' q = some (.lst vs) ∧ omap pairOf (rs.take i) = some ps ∧ Reps Non H' vs (ps.map pairD))
      ⟨none, none, [], [], rfl, s3, by rw [upd_ne hlm, upd_ne hlq, upd_same], upd_same, by rw [upd_ne hqm, upd_same], rfl, .nil⟩ (fun i σ H' _ ⟨_, _, _, _, _, _, _, z, _⟩ => SqL.of z) ?_ ?_⟩
    · rintro i x σ H' hi ⟨v3, v4, vs, ps, rfl, s4, hl4, hm4, hq4, hom, rp⟩
      obtain ⟨one, hone, rfl⟩ := map_get hi
      have hmem : one ∈ s0 :: rs := List.mem_cons_of_mem _ (List.mem_of_getElem? hone)
      have hol := slen one hmem
      have bad : pairOf one = none → formOf t = none := fun q => by
        unfold formOf
        rw [esp]
        show (match omap pairOf rs, readWhole s0 300 with | some ps, some n => some (n, ps) | _, _ => none) = none
        rw [omap_none hone q]
      refine ⟨_, rfl, ?_⟩
      refine ⟨⟨_, rfl⟩, one, sColon, rfl, rfl, (by decide +kernel), (by rw [line_eq]; omega), fun z hz => ?_⟩
      have s5 := s4.up (o := .lst ((Txt.split one sColon).map V.str)) hz
      obtain ⟨_, clen⟩ := split_colon one
      refine ⟨_, rfl, z, _, rfl, .inl (SqL.of upd_same), rfl, _, rfl, ?_⟩
      rw [List.length_map]
      by_cases h2 : (Txt.split one sColon).length = 2
      · rw [decide_eq_true (by rw [h2]; rfl : V.int ((Txt.split one sColon).length : Nat) = V.int 2)]
        refine iteF ?_
        obtain ⟨a, b, eab⟩ := two_of h2
        rw [eab] at clen s5 ⊢
        have hza : ∀ {H2 : Hp}, Same (upd H' z (.lst ([a, b].map V.str))) H2 → H2 z = some (.lst [.str a, .str b]) := fun s => s _ _ upd_same
        refine ⟨_, rfl, .inl ⟨rfl, _, SqL.of (by rw [upd_ne (ne_of_none hq4 hz)]; exact hq4)⟩, ?_⟩
        have ca := clen a (by simp)
        have cb := clen b (by simp)
        have mk : ∀ {x y}, readWhole a 300 = x → readWhole b 300 = y → pairOf one = (match x, y with | some x, some y => some (x, y) | _, _ => none) := fun {x y} e1 e2 => by
          unfold pairOf
          rw [eab, ← e1, ← e2]
          all_goals rfl
        refine ⟨_, rfl, z, _, 0, V.str a, rfl, rfl, SqL.of upd_same, at_of (j := 0) rfl rfl, a, rfl, by omega, fun n1 hn1 => ?_, fun hn1 => ?_⟩
        · refine ⟨_, rfl, z, _, 1, V.str b, rfl, rfl, SqL.of upd_same, at_of (j := 1) rfl rfl, b, rfl, by omega, fun n2 hn2 => ⟨by show 2 ≤ sizeLine; decide, fun y hy => ?_⟩, fun hn2 => ?_⟩
          · have hp := mk hn1 hn2
            have hqy : q ≠ y := ne_of_none (by rw [upd_ne (ne_of_none hq4 hz)]; exact hq4) hy
            have s6 := s5.up (o := .tup [.int n1, .int n2]) hy
            have s7 : Same H' (upd (upd H' z (.lst ([a, b].map V.str))) y (.tup [.int n1, .int n2])) := (Same.nw hz).up hy
            refine ⟨q, vs, _, rfl, rfl, s7 _ _ hq4, ?_, ?_⟩
            · have h1 := rp.length
              have h2 := omap_len hom
              have h3 := take_le (l := rs) (i := i)
              rw [List.length_map] at h1
              rw [List.length_cons] at sm
              rw [line_eq]
              omega
            · refine ⟨_, _, vs ++ [.ref y], ps ++ [(n1, n2)], rfl, s6.wr hq0, ?_, ?_, upd_same, ?_, ?_⟩
              · rw [upd_ne hlq]; exact s7 _ _ hl4
              · rw [upd_ne hqm.symm]; exact s7 _ _ hm4
              · rw [take_succ_of hone]
                exact omap_snoc hom hp
              · rw [List.map_append]
                refine ((rp.same s7).wr (s7 _ _ hq4) fun _ z => z.elim).snoc ?_
                refine Rep.tup (by rw [upd_ne hqy.symm]; exact upd_same) (.cons (.int _) (.cons (.int _) .nil))
          · exact kN (bad (mk hn1 hn2)) _ s5
        · refine kN (bad ?_) _ s5
          unfold pairOf
          rw [eab]
          show (match readWhole a 300, readWhole b 300 with | some x, some y => some (x, y) | _, _ => none) = none
          rw [hn1]
      · rw [decide_eq_false (fun q => h2 (by have := V.int.inj q; omega) : ¬ V.int ((Txt.split one sColon).length : Nat) = V.int 2)]
        refine iteT (kN (bad ?_) _ s5)
        unfold pairOf
        split
        · rename_i e
          rw [e] at h2
          exact absurd rfl h2
        · rfl
    · rintro σ H' ⟨v3, v4, vs, ps, rfl, s4, hl4, hm4, hq4, hom, rp⟩
      rw [List.length_map, List.take_length] at hom
      have sl : s0.length ≤ t.length := slen s0 List.mem_cons_self
      refine ⟨_, rfl, l, _, 0, V.str s0, rfl, rfl, SqL.of hl4, at_of (j := 0) rfl rfl, s0, rfl, by omega, fun n hn => ?_, fun hn => ?_⟩
      · refine ⟨_, rfl, q, vs, rfl, .inl ⟨SqL.of hq4, fun y hy => ⟨by show 2 ≤ sizeLine; decide, fun z hz => ?_⟩⟩⟩
        have hyz : y ≠ z := ne_of_none upd_same hz
        refine kS (n, ps) ?_ _ _ ((s4.up hy).up hz) ?_
        · unfold formOf
          rw [esp]
          show (match omap pairOf rs, readWhole s0 300 with | some ps, some n => some (n, ps) | _, _ => none) = _
          rw [hom, hn]
        · exact .tup upd_same (.cons (.int _) (.cons (.tup (by rw [upd_ne hyz]; exact upd_same) (rp.same ((Same.nw hy).up hz))) .nil))
      · refine kN ?_ _ s4
        unfold formOf
        rw [esp]
        show (match omap pairOf rs, readWhole s0 300 with | some ps, some n => some (n, ps) | _, _ => none) = none
        rw [hom, hn]
end
end Ln
end
section
namespace Ln
open PySem L2 TL HT
/-- words: few, each short -/
def WordsOk (ws : List Str) : Prop := ws.length ≤ 2000000 ∧ ∀ p ∈ ws, p.length ≤ B
def spNums (C : Addr) : Sp := fun vs H Q E => ∃ (a : Addr) (ws : List Str), vs = [.ref a, .int 2] ∧ H a = some (.lst (ws.map V.str)) ∧ WordsOk ws ∧
  (∀ x y, nums2 ws = some (x, y) → ∀ H' p, Same H H' → H p = none → H' p = some (.lst [.int x, .int y]) → Q (.ref p) H') ∧ (nums2 ws = none → ∀ H', Same H H' → E (.ref C) none H')
def spEdge (C : Addr) : Sp := fun vs H Q E => ∃ (t : Str), vs = [.str t] ∧ t.length ≤ B ∧ (∀ e, edgeOf t = some e → ∀ H' v, Same H H' → Rep Non H' v (edgeD e) → Q v H') ∧ (edgeOf t = none → ∀ H', Same H H' → E (.ref C) none H')
def spFrame (C : Addr) : Sp := fun vs H Q E => ∃ (a : Addr) (ws : List Str), vs = [.ref a] ∧ H a = some (.lst (ws.map V.str)) ∧ WordsOk ws ∧
  (∀ e, frameOf ws = some e → ∀ H' v, Same H H' → Rep Non H' v (frameD e) → Q v H') ∧ (frameOf ws = none → ∀ H', Same H H' → E (.ref C) none H')
def spDeed (C : Addr) : Sp := fun vs H Q E => ∃ (a : Addr) (ws : List Str), vs = [.ref a] ∧ H a = some (.lst (ws.map V.str)) ∧ ws ≠ [] ∧ WordsOk ws ∧
  (∀ x ns (e : Nat), deedOf ws = some (x, ns, e) → ∀ H' p l, Same H H' → H l = none → H' p = some (.tup [.ref l, .int (e : Int)]) → H' l = some (.lst (.str x :: ns.map V.int)) → Q (.ref p) H') ∧ (deedOf ws = none → ∀ H', Same H H' → E (.ref C) none H')
theorem words_ok {t : Str} (h : t.length ≤ B) : WordsOk (Txt.split t sBlank) := by
  obtain ⟨h1, h2⟩ := split_blank t
  have : B = 1048576 := rfl
  exact ⟨by omega, fun p hp => Nat.le_trans (h2 p hp) h⟩
section
variable {P : Program} {w : World} {K : PySem.W.Frag} {mg : Str → Option Value} {base : Heap} {C : Addr}
abbrev nNums : List Str := ["words", "many", "one"]
theorem scNums : FnScope nNums ["words", "many"] (defScope sNums) := ⟨rfl, rfl, rfl, by decide +kernel, rfl, by decide +kernel, by decide +kernel⟩
theorem ok_nums {f fW : Addr} {fd fdW : FuncData} (T : Txt K mg C) (D : Df K mg "numbers_of" sNums ["words", "many"] f fd) (DW : Df K mg "read_whole" sWhole ["text", "most"] fW fdW) (GW : FnOk P w K mg base (L2.CX P w) 2 fW fdW ["text", "most"] (spWhole C)) :
    FnOk P w K mg base (L2.CX P w) 3 f fd ["words", "many"] (spNums C) := by
  refine D.F.okX scNums (fun vs H Q E h => ?_) (fun cdv A outer s H vs Q E hr h => ?_)
  · obtain ⟨a, ws, rfl, _⟩ := h
    rfl
  · obtain ⟨a, ws, rfl, ha, ⟨hm, hl⟩, kS, kN⟩ := h
    obtain ⟨tm, hmost⟩ := T.most
    have hr2 : Room 2 _ := hr.mono (by decide)
    have hBB : B = 1048576 := rfl
    refine ⟨_, (pss_cons (ps_if (pt_cmpR op_le (pe_callB call_len_seq (by rfl) T.len (by decide +kernel) (pa_cons (pv 0) pa_nil)) (pv 1) (nomark _))
        (pss_one (ps_raise rfl (takes_of rfl rfl rfl rfl) (pmk_own PySem.F.excBase_ValueError T.xC T.gC T.kC (raises_own T.bC T.tC) (by rfl))))
        pss_nil)
      (pss_one (ps_ret (pe_lcX (own := [("one", 2)]) (g := (gName 2)) (W := (fun cls d _ H => E cls d H)) rfl rfl (takes_of rfl rfl rfl rfl) (by rfl) scNums.nd (pi_list (pe_slice sl_list (pv 0) (po_some pe_int) (po_some (pe_op op_add (pv 1) pe_int)))) (blkOk_by (N := nNums) (sc := defScope sNums) (by decide +kernel)) (fun _ _ _ _ _ => (pg_name (i := 2) scNums.nd rfl (Or.inl rfl))) (fun _ _ _ _ _ _ _ hx => (pe_call GW hr2 (by rfl) DW.g DW.F.kp DW.b .nil hx (pa_cons (pv 2) (pa_cons (pe_glob (v := .int 300) (by rfl) hmost ⟨_, rfl⟩) pa_nil)))))))), ?_⟩
    refine ⟨_, rfl, a, _, rfl, .inl (SqL.of ha), _, rfl, _, _, rfl, rfl, _, rfl, ?_⟩
    rw [List.length_map]
    by_cases h2 : ((ws.length : Nat) : Int) ≤ 2
    · rw [decide_eq_true h2]
      refine iteT (kN ?_ _ (Same.refl H))
      match ws, h2 with
      | [], _ => rfl
      | [_], _ => rfl
      | [_, _], _ => rfl
      | _ :: _ :: _ :: _, h2 => simp at h2; omega
    · rw [decide_eq_false h2]
      refine iteF ?_
      obtain ⟨w0, x, y, r, rfl⟩ : ∃ w0 x y r, ws = w0 :: x :: y :: r := by
        match ws, h2 with
        | [], h2 => simp at h2
        | [_], h2 => simp at h2
        | [_, _], h2 => simp at h2
        | w0 :: x :: y :: r, _ => exact ⟨w0, x, y, r, rfl⟩
      refine ⟨_, rfl, _, rfl, _, rfl, _, _, rfl, rfl, _, rfl, a, _, rfl, SqL.of ha, fun m hmm => ?_⟩
      have ecut : cutV ((w0 :: x :: y :: r).map V.str) (some 1) (some (2 + 1)) = [x, y].map V.str := cut_range _ 1 3
      rw [ecut]
      have s1 : Same H (upd H m (.lst ([x, y].map V.str))) := Same.nw hmm
      have hx := hl x (by simp)
      have hy := hl y (by simp)
      have hnums : nums2 (w0 :: x :: y :: r) = match readWhole x 300, readWhole y 300 with | some x, some y => some (x, y) | _, _ => none := rfl
      refine ⟨m, rfl, ⟨_, SqL.of upd_same⟩, fun L hL => ?_⟩
      have s2 := s1.up (o := .lst []) hL
      have hmL : m ≠ L := ne_of_none upd_same hL
      refine lc_list (K := K) (a := m) (xs := [x, y].map V.str) (fun i H' => Same H H' ∧ H' m = some (.lst ([x, y].map V.str)) ∧ ∃ ns, omap (readWhole · 300) ([x, y].take i) = some ns ∧ H' L = some (.lst (ns.map V.int)))
        ⟨s2, by rw [upd_ne hmL, upd_same], [], rfl, upd_same⟩ (fun i H' _ z => SqL.of z.2.1) ?_ ?_
      · rintro i v H' hi ⟨s3, hm3, ns, hom, hL3⟩
        obtain ⟨one, hone, rfl⟩ := map_get hi
        have hol : one.length ≤ B := by
          rcases List.mem_cons.mp (List.mem_of_getElem? hone) with e | e
          · rw [e]; exact hx
          · rw [List.mem_singleton.mp e]; exact hy
        have hlt := get_lt hone
        have hnl := omap_len hom
        have := take_le (l := [x, y]) (i := i)
        refine ⟨rfl, _, rfl, one, rfl, hol, fun n hn => ⟨_, hL3, ?_, s3.wr (s1.free hL), ?_, ns ++ [n], ?_, ?_⟩, fun hn => kN ?_ _ s3⟩
        · rw [List.length_map, line_eq]
          simp only [List.length_cons, List.length_nil] at this
          omega
        · rw [upd_ne hmL]; exact hm3
        · rw [take_succ_of hone]
          exact omap_snoc hom hn
        · rw [upd_same, List.map_append]
          rfl
        · have e := omap_none (f := (readWhole · 300)) hone hn
          rw [hnums]
          unfold omap at e
          cases e1 : readWhole x 300 with
          | none => rfl
          | some a =>
            rw [e1] at e
            unfold omap at e
            cases e2 : readWhole y 300 with
            | none => rfl
            | some b =>
              rw [e2] at e
              cases e
      · rintro H' ⟨s3, hm3, ns, hom, hL3⟩
        have hom : omap (readWhole · 300) [x, y] = some ns := hom
        obtain ⟨n1, r1, rfl, e1, hom1⟩ := omap_cons_some hom
        obtain ⟨n2, r2, rfl, e2, hom2⟩ := omap_cons_some hom1
        have : r2 = [] := (Option.some.inj hom2).symm
        subst this
        refine kS n1 n2 ?_ _ L s3 (s1.free hL) hL3
        rw [hnums, e1, e2]

/-! ### the forms of some words -/
theorem read_forms {σ : St} {H : Hp} {i j : Nat} {a : Addr} {ws : List Str} {W : WX} {Q : VK} (hi : σ[i]? = some (some (.ref a))) (hj : j < σ.length) (ha : H a = some (.lst (ws.map V.str))) (ok : WordsOk ws)
    (kS : ∀ fs, omap formOf (ws.drop 3) = some fs → ∀ H' p vs, Same H H' → H' p = some (.tup vs) → Reps Non H' vs (fs.map formD) → Q (.ref p) H') (kN : omap formOf (ws.drop 3) = none → ∀ H', Same H H' → W (.ref C) none σ H') :
    tCB (fun xs H Q => ∃ p ys, xs = [.ref p] ∧ ((SqL K H p ys ∧ ∀ l, H l = none → Q (.ref l) (upd H l (.tup ys))) ∨ (SqT K H p ys ∧ Q (.ref p) H)))
      (tCons (tLcX W (iList K (tSl (rSlL K) (tVar i) (tPart (tC (.int 3))) tNoPart)) (gName j) (fun E => tCall (spForm C) [] E (tCons (tVar j) tNil)) [j]) tNil) σ H Q := by
  have hBB : B = 1048576 := rfl
  refine ⟨_, hi, _, rfl, a, _, rfl, SqL.of ha, fun m hm => ?_⟩
  have ecut : cutV (ws.map V.str) (some 3) none = (ws.drop 3).map V.str := by
    rw [show (some (3 : Int)) = some ((3 : Nat) : Int) from rfl, cut_from, List.map_drop]
  rw [ecut]
  have s1 : Same H (upd H m (.lst ((ws.drop 3).map V.str))) := Same.nw hm
  refine ⟨m, rfl, ⟨_, SqL.of upd_same⟩, fun L hL => ?_⟩
  have s2 := s1.up (o := .lst []) hL
  have hmL : m ≠ L := ne_of_none upd_same hL
  have hL0 := s1.free hL
  refine lc_list (K := K) (a := m) (xs := (ws.drop 3).map V.str) (fun i H' => Same H H' ∧ H' m = some (.lst ((ws.drop 3).map V.str)) ∧ ∃ fs vs, omap formOf ((ws.drop 3).take i) = some fs ∧ H' L = some (.lst vs) ∧ Reps Non H' vs (fs.map formD))
    ⟨s2, by rw [upd_ne hmL, upd_same], [], [], rfl, upd_same, .nil⟩ (fun i H' _ z => SqL.of z.2.1) ?_ ?_
  · rintro k v H' hk ⟨s3, hm3, fs, vs, hom, hL3, rp⟩
    obtain ⟨one, hone, rfl⟩ := map_get hk
    have hol : one.length ≤ B := ok.2 one (List.mem_of_mem_drop (List.mem_of_getElem? hone))
    refine ⟨by unfold wipe; simp [wipe, List.set_set], ?_⟩
    have hx : ((wipe σ [j]).set j (some (V.str one)))[j]? = some (some (V.str one)) := List.getElem?_set_self (by rw [wipe_length]; exact hj)
    refine ⟨_, hx, one, rfl, hol, fun f hf H2 y s4 ry => ⟨vs, s4 _ _ hL3, ?_, (s3.trans s4).wr hL0, ?_, fs ++ [f], vs ++ [y], ?_, upd_same, ?_⟩, fun hn H2 s4 => kN (omap_none hone hn) _ (s3.trans s4)⟩
    · have h1 := rp.length
      have h2 := omap_len hom
      have h3 := take_le (l := ws.drop 3) (i := k)
      have h4 := ok.1
      rw [List.length_map] at h1
      rw [List.length_drop] at h3
      rw [line_eq]
      omega
    · rw [upd_ne hmL]; exact s4 _ _ hm3
    · rw [take_succ_of hone]
      exact omap_snoc hom hf
    · rw [List.map_append]
      exact ((rp.same s4).wr (s4 _ _ hL3) fun _ z => z.elim).snoc (ry.wr (s4 _ _ hL3) fun _ z => z.elim)
  · rintro H' ⟨s3, hm3, fs, vs, hom, hL3, rp⟩
    rw [List.length_map, List.take_length] at hom
    refine ⟨L, vs, rfl, .inl ⟨SqL.of hL3, fun l hl => kS fs hom _ l vs (s3.up hl) upd_same (rp.same (Same.nw hl))⟩⟩
end
end Ln
end
section
namespace Ln
open PySem L2 TL HT
section
variable {P : Program} {w : World} {K : PySem.W.Frag} {mg : Str → Option Value} {base : Heap} {C : Addr}
abbrev nEdge : List Str := ["line", "words", "rows", "k", "one"]
theorem scEdge : FnScope nEdge ["line"] (defScope sEdge) := ⟨rfl, rfl, rfl, by decide +kernel, rfl, by decide +kernel, by decide +kernel⟩
theorem ok_edge {f fF fN : Addr} {fd fdF fdN : FuncData} (T : Txt K mg C) (D : Df K mg "edge_of" sEdge ["line"] f fd) (DF : Df K mg "form_of" sForm ["text"] fF fdF) (GF : FnOk P w K mg base (L2.CX P w) 3 fF fdF ["text"] (spForm C))
    (DN : Df K mg "numbers_of" sNums ["words", "many"] fN fdN) (GN : FnOk P w K mg base (L2.CX P w) 3 fN fdN ["words", "many"] (spNums C)) : FnOk P w K mg base (L2.CX P w) 4 f fd ["line"] (spEdge C) := by
  refine D.F.okX scEdge (fun vs H Q E h => ?_) (fun cdv A outer s H vs Q E hr h => ?_)
  · obtain ⟨t, rfl, _⟩ := h
    rfl
  · obtain ⟨t, rfl, hB, kS, kN⟩ := h
    have hrF : Room 3 _ := hr
    have hrN : Room 3 _ := hr
    have hBB : B = 1048576 := rfl
    refine ⟨_, (pss_cons (ps_set (i := 1) scEdge.nd rfl (Or.inl rfl) (pe_split (pv 0) pe_str))
      (pss_cons (ps_if (pt_cmpR op_ne (pe_ix ix_list (pv 1) pe_int (fun _ _ => rfl)) pe_str (nomark _))
        (pss_one (ps_raise rfl (takes_of rfl rfl rfl rfl) (pmk_own PySem.F.excBase_ValueError T.xC T.gC T.kC (raises_own T.bC T.tC) (by rfl))))
        pss_nil)
      (pss_cons (ps_asg (pe_call GN hrN (by rfl) DN.g DN.F.kp DN.b .nil (passes_call (takes_of rfl rfl rfl rfl) (fun _ _ _ _ z => z)) (pa_cons (pv 1) (pa_cons pe_int pa_nil))) (pg_lst rfl (pgs_cons (pg_name (i := 2) scEdge.nd rfl (Or.inl rfl)) (pgs_cons (pg_name (i := 3) scEdge.nd rfl (Or.inl rfl)) pgs_nil))))
      (pss_one (ps_ret (pe_tup (pa_cons (pv 2) (pa_cons (pe_callTy call_tuple_of (by rfl) T.tuple (by decide +kernel) (pa_cons (pe_lcX (own := [("one", 4)]) (g := (gName 4)) (W := (fun cls d _ H => E cls d H)) rfl rfl (takes_of rfl rfl rfl rfl) (by rfl) scEdge.nd (pi_list (pe_slice sl_list (pv 1) (po_some pe_int) po_none)) (blkOk_by (N := nEdge) (sc := defScope sEdge) (by decide +kernel)) (fun _ _ _ _ _ => (pg_name (i := 4) scEdge.nd rfl (Or.inl rfl))) (fun _ _ _ _ _ _ _ hx => (pe_call GF hrF (by rfl) DF.g DF.F.kp DF.b .nil hx (pa_cons (pv 4) pa_nil)))) pa_nil)) (pa_cons (pv 3) pa_nil))))))))), ?_⟩
    refine ⟨_, rfl, ⟨_, rfl⟩, t, sBlank, rfl, rfl, (by decide +kernel), (by rw [line_eq]; omega), fun l hl => ?_⟩
    have s1 : Same H (upd H l (.lst ((Txt.split t sBlank).map V.str))) := Same.nw hl
    have hw := words_ok hB
    have hl1 : upd H l (.lst ((Txt.split t sBlank).map V.str)) l = some (.lst ((Txt.split t sBlank).map V.str)) := upd_same
    obtain ⟨w0, rs, esp⟩ := List.exists_cons_of_ne_nil (split_ne t sBlank (by rw [tl_blank]; simp))
    have e0 : ((Txt.split t sBlank).map V.str)[0]? = some (.str w0) := by rw [esp]; rfl
    refine ⟨_, rfl, l, _, 0, V.str w0, rfl, rfl, SqL.of hl1, at_of (j := 0) rfl e0, rfl, _, rfl, ?_⟩
    have ed : edgeOf t = if w0 = ("edge" : Str) then (match nums2 (Txt.split t sBlank), omap formOf ((Txt.split t sBlank).drop 3) with | some (r, k), some fs => some ⟨r, fs, k⟩ | _, _ => none) else none := by
      unfold edgeOf
      have : (Txt.split t sBlank).head? = some ("edge" : Str) ↔ w0 = ("edge" : Str) := by rw [esp]; exact ⟨fun q => Option.some.inj q, fun q => congrArg some q⟩
      by_cases c : w0 = ("edge" : Str)
      · rw [if_pos c, if_pos (this.mpr c)]
        all_goals rfl
      · rw [if_neg c, if_neg fun q => c (this.mp q)]
    by_cases c : w0 = ("edge" : Str)
    · rw [decide_eq_true (by rw [c] : V.str w0 = V.str "edge")]
      rw [if_pos c] at ed
      refine iteF ?_
      refine ⟨_, rfl, l, _, rfl, hl1, hw, fun x y hn H2 p s2 hp0 hp => ?_, fun hn H2 s2 => kN (by rw [ed, hn]) _ (s1.trans s2)⟩
      refine ⟨p, _, rfl, SqL.of hp, rfl, _, _, rfl, _, _, rfl, rfl, ?_⟩
      refine ⟨_, rfl, read_forms (i := 1) (j := 4) (W := fun cls d _ H => E cls d H) rfl (by show 4 < 5; decide) (s2 _ _ hl1) hw (fun fs hfs H3 q vs s3 hq rq => ?_) fun hn2 H3 s3 => kN (by rw [ed, hn, hn2]) _ ((s1.trans s2).trans s3)⟩
      refine ⟨_, rfl, (by show 3 ≤ sizeLine; decide), fun z hz => ?_⟩
      refine kS ⟨x, fs, y⟩ (by rw [ed, hn, hfs]) _ _ (((s1.trans s2).trans s3).up hz) ?_
      exact .tup upd_same (.cons (.int _) (.cons (.tup (by rw [upd_ne (ne_of_none hq hz)]; exact hq) (rq.same (Same.nw hz))) (.cons (.int _) .nil)))
    · rw [decide_eq_false (fun q => c (V.str.inj q) : ¬ V.str w0 = V.str "edge")]
      rw [if_neg c] at ed
      exact iteT (kN ed _ s1)
abbrev nFrame : List Str := ["words", "f", "at", "one"]
theorem scFrame : FnScope nFrame ["words"] (defScope sFrame) := ⟨rfl, rfl, rfl, by decide +kernel, rfl, by decide +kernel, by decide +kernel⟩
theorem ok_frame {f fF fN : Addr} {fd fdF fdN : FuncData} (T : Txt K mg C) (D : Df K mg "frame_of" sFrame ["words"] f fd) (DF : Df K mg "form_of" sForm ["text"] fF fdF) (GF : FnOk P w K mg base (L2.CX P w) 3 fF fdF ["text"] (spForm C))
    (DN : Df K mg "numbers_of" sNums ["words", "many"] fN fdN) (GN : FnOk P w K mg base (L2.CX P w) 3 fN fdN ["words", "many"] (spNums C)) : FnOk P w K mg base (L2.CX P w) 4 f fd ["words"] (spFrame C) := by
  refine D.F.okX scFrame (fun vs H Q E h => ?_) (fun cdv A outer s H vs Q E hr h => ?_)
  · obtain ⟨a, ws, rfl, _⟩ := h
    rfl
  · obtain ⟨a, ws, rfl, ha, hw, kS, kN⟩ := h
    have hrF : Room 3 _ := hr
    have hrN : Room 3 _ := hr
    refine ⟨_, (pss_cons (ps_asg (pe_call GN hrN (by rfl) DN.g DN.F.kp DN.b .nil (passes_call (takes_of rfl rfl rfl rfl) (fun _ _ _ _ z => z)) (pa_cons (pv 0) (pa_cons pe_int pa_nil))) (pg_lst rfl (pgs_cons (pg_name (i := 1) scFrame.nd rfl (Or.inl rfl)) (pgs_cons (pg_name (i := 2) scFrame.nd rfl (Or.inl rfl)) pgs_nil))))
      (pss_one (ps_ret (pe_tup (pa_cons (pv 1) (pa_cons (pv 2) (pa_cons (pe_callTy call_tuple_of (by rfl) T.tuple (by decide +kernel) (pa_cons (pe_lcX (own := [("one", 3)]) (g := (gName 3)) (W := (fun cls d _ H => E cls d H)) rfl rfl (takes_of rfl rfl rfl rfl) (by rfl) scFrame.nd (pi_list (pe_slice sl_list (pv 0) (po_some pe_int) po_none)) (blkOk_by (N := nFrame) (sc := defScope sFrame) (by decide +kernel)) (fun _ _ _ _ _ => (pg_name (i := 3) scFrame.nd rfl (Or.inl rfl))) (fun _ _ _ _ _ _ _ hx => (pe_call GF hrF (by rfl) DF.g DF.F.kp DF.b .nil hx (pa_cons (pv 3) pa_nil)))) pa_nil)) pa_nil))))))), ?_⟩
    have ed : frameOf ws = (match nums2 ws, omap formOf (ws.drop 3) with | some (f, a), some fs => some ⟨f, a, fs⟩ | _, _ => none) := rfl
    refine ⟨_, rfl, a, _, rfl, ha, hw, fun x y hn H2 p s2 hp0 hp => ?_, fun hn H2 s2 => kN (by rw [ed, hn]) _ s2⟩
    refine ⟨p, _, rfl, SqL.of hp, rfl, _, _, rfl, _, _, rfl, rfl, ?_⟩
    refine ⟨_, rfl, _, rfl, read_forms (i := 0) (j := 3) (W := fun cls d _ H => E cls d H) rfl (by show 3 < 4; decide) (s2 _ _ ha) hw (fun fs hfs H3 q vs s3 hq rq => ?_) fun hn2 H3 s3 => kN (by rw [ed, hn, hn2]) _ (s2.trans s3)⟩
    refine ⟨(by show 3 ≤ sizeLine; decide), fun z hz => ?_⟩
    refine kS ⟨x, y, fs⟩ (by rw [ed, hn, hfs]) _ _ ((s2.trans s3).up hz) ?_
    exact .tup upd_same (.cons (.int _) (.cons (.int _) (.cons (.tup (by rw [upd_ne (ne_of_none hq hz)]; exact hq) (rq.same (Same.nw hz))) .nil)))
abbrev nDeed : List Str := ["words"]
theorem scDeed : FnScope nDeed ["words"] (defScope sDeed) := ⟨rfl, rfl, rfl, by decide +kernel, rfl, by decide +kernel, by decide +kernel⟩
theorem deed_in (x : Str) : inV (.str x) [.str "go", .str "test", .str "tell", .str "take", .str "leave"] = decide (x = "go" ∨ x = "test" ∨ x = "tell" ∨ x = "take" ∨ x = "leave") := by
  show ((("go" : Str) == x) || ((("test" : Str) == x) || ((("tell" : Str) == x) || ((("take" : Str) == x) || ((("leave" : Str) == x) || false))))) = _
  simp only [Bool.or_false, Bool.decide_or]
  congr 1
  · exact Bool.beq_comm.trans (Bool.beq_eq_decide_eq _ _)
  · congr 1
    · exact Bool.beq_comm.trans (Bool.beq_eq_decide_eq _ _)
    · congr 1
      · exact Bool.beq_comm.trans (Bool.beq_eq_decide_eq _ _)
      · congr 1
        · exact Bool.beq_comm.trans (Bool.beq_eq_decide_eq _ _)
        · exact Bool.beq_comm.trans (Bool.beq_eq_decide_eq _ _)
theorem ok_deed {f fN : Addr} {fd fdN : FuncData} (T : Txt K mg C) (D : Df K mg "deed_of" sDeed ["words"] f fd)
    (DN : Df K mg "numbers_of" sNums ["words", "many"] fN fdN) (GN : FnOk P w K mg base (L2.CX P w) 3 fN fdN ["words", "many"] (spNums C)) : FnOk P w K mg base (L2.CX P w) 4 f fd ["words"] (spDeed C) := by
  refine D.F.okX scDeed (fun vs H Q E h => ?_) (fun cdv A outer s H vs Q E hr h => ?_)
  · obtain ⟨a, ws, rfl, _⟩ := h
    rfl
  · obtain ⟨a, ws, rfl, ha, hne, hw, kS, kN⟩ := h
    have hrN : Room 3 _ := hr
    obtain ⟨x, rs, rfl⟩ := List.exists_cons_of_ne_nil hne
    have hx : atI ((x :: rs).map V.str) 0 = some (.str x) := at_of (j := 0) rfl rfl
    refine ⟨_, (pss_cons (ps_if (PW.pt (pw_and (pt_cmpR op_eq (pe_ix ix_list (pv 0) pe_int (fun _ _ => rfl)) pe_str (nomark _)) (pw_and1 (pt_cmpR op_eq (pe_callB call_len_seq (by rfl) T.len (by decide +kernel) (pa_cons (pv 0) pa_nil)) pe_int (nomark _)))))
        (pss_one (ps_ret (pe_tup (pa_cons (pe_op op_cat (pe_lst (pa_cons pe_str pa_nil)) (pe_call GN hrN (by rfl) DN.g DN.F.kp DN.b .nil (passes_call (takes_of rfl rfl rfl rfl) (fun _ _ _ _ z => z)) (pa_cons (pv 0) (pa_cons pe_int pa_nil)))) (pa_cons pe_int pa_nil)))))
        pss_nil)
      (pss_cons (ps_if (PW.pt (pw_or (pt_cmpR op_ne (pe_callB call_len_seq (by rfl) T.len (by decide +kernel) (pa_cons (pv 0) pa_nil)) pe_int (nomark _)) (pw_or1 (pt_cmpR op_notIn_seq (pe_ix ix_list (pv 0) pe_int (fun _ _ => rfl)) (pe_tup (pa_cons pe_str (pa_cons pe_str (pa_cons pe_str (pa_cons pe_str (pa_cons pe_str pa_nil)))))) (by rfl)))))
        (pss_one (ps_raise rfl (takes_of rfl rfl rfl rfl) (pmk_own PySem.F.excBase_ValueError T.xC T.gC T.kC (raises_own T.bC T.tC) (by rfl))))
        pss_nil)
      (pss_cons (ps_if (pt_cmpR op_eq (pe_ix ix_list (pv 0) pe_int (fun _ _ => rfl)) pe_str (nomark _))
        (pss_one (ps_ret (pe_tup (pa_cons (pe_lst (pa_cons pe_str pa_nil)) (pa_cons pe_int pa_nil)))))
        pss_nil)
      (pss_one (ps_ret (pe_tup (pa_cons (pe_lst (pa_cons (pe_ix ix_list (pv 0) pe_int (fun _ _ => rfl)) pa_nil)) (pa_cons (pe_ifExp (pt_cmpR op_eq (pe_ix ix_list (pv 0) pe_int (fun _ _ => rfl)) pe_str (nomark _)) pe_int pe_int) pa_nil)))))))), ?_⟩
    refine ⟨_, rfl, a, _, 0, V.str x, rfl, rfl, SqL.of ha, hx, rfl, _, rfl, ?_⟩
    have rest : ¬ (x = ("hold" : Str) ∧ (x :: rs).length = 3) → (tSeq (tIfS (tOr (tTest (tOp rNe (tCB (fun xs H Q => ∃ p ys, xs = [.ref p] ∧ (SqL K H p ys ∨ SqT K H p ys) ∧ Q (.int ys.length) H) (tCons (tVar 0) tNil)) (tC (.int 1))))
          (tTest (tOp (rIn K true) (tOp (rIxL K) (tVar 0) (tC (.int 0))) (tTup (tCons (tC (.str "go")) (tCons (tC (.str "test")) (tCons (tC (.str "tell")) (tCons (tC (.str "take")) (tCons (tC (.str "leave")) tNil)))))))))
          (fun _ _ H => E (.ref C) none H) tNext)
        (tSeq (tIfS (tTest (tOp rEq (tOp (rIxL K) (tVar 0) (tC (.int 0))) (tC (.str "leave")))) (tRet (tTup (tCons (tLst (tCons (tC (.str "leave")) tNil)) (tCons (tC (.int 0)) tNil)))) tNext)
          (tRet (tTup (tCons (tLst (tCons (tOp (rIxL K) (tVar 0) (tC (.int 0))) tNil)) (tCons (tIf (tTest (tOp rEq (tOp (rIxL K) (tVar 0) (tC (.int 0))) (tC (.str "test")))) (tC (.int 2)) (tC (.int 1))) tNil))))))
        { nx := fun _ H' => Q .non H', rt := Q } [some (.ref a)] H := by
      intro hh
      have hh' : ¬ ((x :: rs).head? = some ("hold" : Str) ∧ (x :: rs).length = 3) := fun q => hh ⟨Option.some.inj q.1, q.2⟩
      refine ⟨_, rfl, a, _, rfl, .inl (SqL.of ha), rfl, _, rfl, ?_⟩
      rw [List.length_map]
      by_cases h1 : (x :: rs).length = 1
      · have hrs : rs = [] := List.length_eq_zero_iff.mp (by rw [List.length_cons] at h1; omega)
        subst hrs
        have eD : deedOf [x] = if x = "go" ∨ x = "tell" ∨ x = "take" then some (x, [], 1) else if x = "test" then some (x, [], 2) else if x = "leave" then some (x, [], 0) else none := by
          unfold deedOf
          rw [if_neg hh']
        rw [decide_eq_true (by rfl : V.int (([x] : List Str).length : Nat) = V.int 1)]
        refine iteF ⟨_, rfl, a, _, 0, V.str x, rfl, rfl, SqL.of ha, hx, (by show 5 ≤ sizeLine; decide), fun p hp => ?_⟩
        refine ⟨p, _, rfl, .inr (SqT.of upd_same), rfl, rfl, _, rfl, ?_⟩
        have s1 : Same H (upd H p (.tup [.str "go", .str "test", .str "tell", .str "take", .str "leave"])) := Same.nw hp
        rw [deed_in]
        by_cases h2 : x = "go" ∨ x = "test" ∨ x = "tell" ∨ x = "take" ∨ x = "leave"
        · rw [decide_eq_true h2]
          refine iteF ?_
          refine ⟨_, rfl, a, _, 0, V.str x, rfl, rfl, SqL.of (s1 _ _ ha), hx, rfl, _, rfl, ?_⟩
          have n1 : ¬ (("leave" : Str) = "go" ∨ ("leave" : Str) = "tell" ∨ ("leave" : Str) = "take") := by decide +kernel
          have n2 : ¬ (("leave" : Str) = "test") := by decide +kernel
          have n3 : ¬ (("test" : Str) = "go" ∨ ("test" : Str) = "tell" ∨ ("test" : Str) = "take") := by decide +kernel
          by_cases h3 : x = "leave"
          · rw [decide_eq_true (by rw [h3] : V.str x = V.str "leave")]
            refine iteT ⟨by show 1 ≤ sizeLine; decide, fun l hl => ⟨by show 2 ≤ sizeLine; decide, fun q hq => ?_⟩⟩
            refine kS x [] 0 ?_ _ q l ((s1.up hl).up hq) (s1.free hl) upd_same ?_
            · rw [eD, h3, if_neg n1, if_neg n2, if_pos rfl]
            · rw [upd_ne (ne_of_none upd_same hq), upd_same, h3]
              rfl
          · rw [decide_eq_false (fun q => h3 (V.str.inj q) : ¬ V.str x = V.str "leave")]
            refine iteF ⟨_, rfl, a, _, 0, V.str x, rfl, rfl, SqL.of (s1 _ _ ha), hx, (by show 1 ≤ sizeLine; decide), fun l hl => ?_⟩
            have s2 := s1.up (o := .lst [.str x]) hl
            refine ⟨_, rfl, a, _, 0, V.str x, rfl, rfl, SqL.of (s2 _ _ ha), hx, rfl, _, rfl, ?_⟩
            by_cases h4 : x = "test"
            · rw [decide_eq_true (by rw [h4] : V.str x = V.str "test")]
              refine iteT ⟨by show 2 ≤ sizeLine; decide, fun q hq => ?_⟩
              refine kS x [] 2 ?_ _ q l (s2.up hq) (s1.free hl) upd_same ?_
              · rw [eD, h4, if_neg n3, if_pos rfl]
              · rw [upd_ne (ne_of_none upd_same hq), upd_same]
                rfl
            · rw [decide_eq_false (fun q => h4 (V.str.inj q) : ¬ V.str x = V.str "test")]
              refine iteF ⟨by show 2 ≤ sizeLine; decide, fun q hq => ?_⟩
              refine kS x [] 1 ?_ _ q l (s2.up hq) (s1.free hl) upd_same ?_
              · rw [eD, if_pos]
                rcases h2 with h | h | h | h | h
                · exact .inl h
                · exact absurd h h4
                · exact .inr (.inl h)
                · exact .inr (.inr h)
                · exact absurd h h3
              · rw [upd_ne (ne_of_none upd_same hq), upd_same]
                rfl
        · rw [decide_eq_false h2]
          refine iteT (kN ?_ _ s1)
          rw [eD, if_neg fun q => h2 (by rcases q with q | q | q; exact .inl q; exact .inr (.inr (.inl q)); exact .inr (.inr (.inr (.inl q)))), if_neg fun q => h2 (.inr (.inl q)), if_neg fun q => h2 (.inr (.inr (.inr (.inr q))))]
      · rw [decide_eq_false (fun q => h1 (by have := V.int.inj q; omega) : ¬ V.int ((x :: rs).length : Nat) = V.int 1)]
        refine iteT (iteT (kN ?_ _ (Same.refl H)))
        unfold deedOf
        rw [if_neg hh']
        match rs, h1 with
        | [], h1 => exact absurd rfl h1
        | _ :: _, _ => rfl
    by_cases h1 : x = ("hold" : Str)
    · rw [decide_eq_true (by rw [h1] : V.str x = V.str "hold")]
      refine iteT ⟨_, rfl, a, _, rfl, .inl (SqL.of ha), rfl, _, rfl, ?_⟩
      rw [List.length_map]
      by_cases h2 : (x :: rs).length = 3
      · rw [decide_eq_true (by rw [h2]; rfl : V.int ((x :: rs).length : Nat) = V.int 3)]
        have eD : deedOf (x :: rs) = match nums2 (x :: rs) with | some (a, b) => some (("hold" : Str), [a, b], 1) | none => none := by
          unfold deedOf
          rw [if_pos ⟨congrArg some h1, h2⟩]
          all_goals rfl
        refine iteT ⟨by show 1 ≤ sizeLine; decide, fun l hl => ?_⟩
        have s1 : Same H (upd H l (.lst [.str "hold"])) := Same.nw hl
        refine ⟨_, rfl, a, _, rfl, s1 _ _ ha, hw, fun n1 n2 hn H2 p s2 hp0 hp => ?_, fun hn H2 s2 => kN (by rw [eD, hn]) _ (s1.trans s2)⟩
        refine ⟨l, p, _, _, rfl, rfl, s2 _ _ upd_same, hp, (by show 1 + 2 ≤ sizeLine; decide), fun q hq => ⟨by show 2 ≤ sizeLine; decide, fun z hz => ?_⟩⟩
        refine kS "hold" [n1, n2] 1 (by rw [eD, hn]) _ z q (((s1.trans s2).up hq).up hz) ((s1.trans s2).free hq) upd_same ?_
        rw [upd_ne (ne_of_none upd_same hz), upd_same]
        rfl
      · rw [decide_eq_false (fun q => h2 (by have := V.int.inj q; omega) : ¬ V.int ((x :: rs).length : Nat) = V.int 3)]
        exact iteF (rest fun q => h2 q.2)
    · rw [decide_eq_false (fun q => h1 (V.str.inj q) : ¬ V.str x = V.str "hold")]
      exact iteF (iteF (rest fun q => h1 q.1))
end
end Ln
end
section
namespace Ln
open PySem L2 TL HT
def spStand (C : Addr) : Sp := fun vs H Q E => ∃ (a : Addr) (ls : List Str), vs = [.ref a] ∧ H a = some (.lst (ls.map V.str)) ∧ ls ≠ [] ∧ WordsOk ls ∧
  (∀ s r, standOf ls = some (s, r) → ∀ H' p v q, Same H H' → H' p = some (.tup [v, .ref q]) → Rep (fun x => H x = none) H' v (standD s) → H q = none → H' q = some (.lst (r.map V.str)) → Q (.ref p) H') ∧
  (standOf ls = none → ∀ H', Same H H' → E (.ref C) none H')
theorem frames_step {rest r' : List Str} {l : Str} {i : Nat} {fs : List Frame} {f : Frame} (hd : rest.drop i = l :: r') (hf : isFrame l) (e : frameOf (Txt.split l sBlank) = some f)
    (h : framesOf rest = (framesOf (rest.drop i)).map fun q => (fs ++ q.1, q.2)) : framesOf rest = (framesOf (rest.drop (i + 1))).map fun q => ((fs ++ [f]) ++ q.1, q.2) := by
  have hd' : rest.drop (i + 1) = r' := by rw [← List.drop_drop, hd]; rfl
  rw [h, hd, hd']
  show (framesOf (l :: r')).map _ = _
  rw [show framesOf (l :: r') = if isFrame l then (match frameOf (Txt.split l sBlank) with | none => none | some f => match framesOf r' with | none => none | some (fs, r') => some (f :: fs, r')) else some ([], l :: r') from rfl, if_pos hf, e]
  cases framesOf r' with
  | none => rfl
  | some q =>
    obtain ⟨gs, r2⟩ := q
    show some (fs ++ f :: gs, r2) = some ((fs ++ [f]) ++ gs, r2)
    rw [List.append_assoc]
    rfl
theorem frames_none {rest r' : List Str} {l : Str} {i : Nat} {fs : List Frame} (hd : rest.drop i = l :: r') (hf : isFrame l) (e : frameOf (Txt.split l sBlank) = none)
    (h : framesOf rest = (framesOf (rest.drop i)).map fun q => (fs ++ q.1, q.2)) : framesOf rest = none := by
  rw [h, hd]
  rw [show framesOf (l :: r') = if isFrame l then (match frameOf (Txt.split l sBlank) with | none => none | some f => match framesOf r' with | none => none | some (fs, r') => some (f :: fs, r')) else some ([], l :: r') from rfl, if_pos hf, e]
  rfl
theorem frames_end {rest r' : List Str} {l : Str} {i : Nat} {fs : List Frame} (hd : rest.drop i = l :: r') (hf : ¬ isFrame l)
    (h : framesOf rest = (framesOf (rest.drop i)).map fun q => (fs ++ q.1, q.2)) : framesOf rest = some (fs, l :: r') := by
  rw [h, hd]
  rw [show framesOf (l :: r') = if isFrame l then (match frameOf (Txt.split l sBlank) with | none => none | some f => match framesOf r' with | none => none | some (fs, r') => some (f :: fs, r')) else some ([], l :: r') from rfl, if_neg hf]
  show some (fs ++ [], l :: r') = _
  rw [List.append_nil]
/-- stand_of, once the frames are read -/
theorem stand_at {l0 m d : Str} {rest r2 : List Str} {fs : List Frame} (h0 : Txt.split l0 sBlank = [("stand" : Str), m]) (hf : framesOf rest = some (fs, d :: r2)) :
    standOf (l0 :: rest) = match deedOf (Txt.split d sBlank) with
      | none => none
      | some (x, ns, e) => if r2.length < e then none else
          match omap edgeOf (r2.take e), readWhole m 300 with
          | some es, some n => some (⟨n, fs, ⟨x, ns, es⟩⟩, r2.drop e)
          | _, _ => none := by
  unfold standOf
  simp only [h0, if_true, hf]
  all_goals rfl
theorem stand_bad {l0 : Str} {rest ws : List Str} (e : Txt.split l0 sBlank = ws) (h : ∀ m, ws ≠ [("stand" : Str), m]) : standOf (l0 :: rest) = none := by
  unfold standOf
  simp only [e]
  split
  · rename_i _ w m
    exact if_neg fun q => h m (by rw [q])
  · rfl
theorem stand_fails {l0 m : Str} {rest : List Str} (h0 : Txt.split l0 sBlank = [("stand" : Str), m]) (hf : framesOf rest = none ∨ ∃ fs, framesOf rest = some (fs, [])) : standOf (l0 :: rest) = none := by
  unfold standOf
  rcases hf with hf | ⟨fs, hf⟩ <;> simp only [h0, if_true, hf]
section
variable {P : Program} {w : World} {K : PySem.W.Frag} {mg : Str → Option Value} {base : Heap} {C : Addr}
abbrev nStand : List Str := ["lines", "words", "paper", "k", "deed", "edges", "line"]
theorem scStand : FnScope nStand ["lines"] (defScope sStand) := ⟨rfl, rfl, rfl, by decide +kernel, rfl, by decide +kernel, by decide +kernel⟩
theorem ok_stand {f fW fF fD fE : Addr} {fd fdW fdF fdD fdE : FuncData} (T : Txt K mg C) (D : Df K mg "stand_of" sStand ["lines"] f fd) (DW : Df K mg "read_whole" sWhole ["text", "most"] fW fdW) (GW : FnOk P w K mg base (L2.CX P w) 2 fW fdW ["text", "most"] (spWhole C))
    (DF : Df K mg "frame_of" sFrame ["words"] fF fdF) (GF : FnOk P w K mg base (L2.CX P w) 4 fF fdF ["words"] (spFrame C)) (DD : Df K mg "deed_of" sDeed ["words"] fD fdD) (GD : FnOk P w K mg base (L2.CX P w) 4 fD fdD ["words"] (spDeed C))
    (DE : Df K mg "edge_of" sEdge ["line"] fE fdE) (GE : FnOk P w K mg base (L2.CX P w) 4 fE fdE ["line"] (spEdge C)) : FnOk P w K mg base (L2.CX P w) 5 f fd ["lines"] (spStand C) := by
  refine D.F.okX scStand (fun vs H Q E h => ?_) (fun cdv A outer s H vs Q E hr h => ?_)
  · obtain ⟨a, ls, rfl, _⟩ := h
    rfl
  · obtain ⟨a, ls, rfl, ha, hne, hw, kS, kN⟩ := h
    obtain ⟨tm, hmost⟩ := T.most
    have hr4 : Room 4 _ := hr
    have hrW : Room 2 _ := hr.mono (by decide)
    have hBB : B = 1048576 := rfl
    obtain ⟨l0, rest, rfl⟩ := List.exists_cons_of_ne_nil hne
    have hB0 : l0.length ≤ B := hw.2 l0 List.mem_cons_self
    have hlen := hw.1
    rw [List.length_cons] at hlen
    refine ⟨_, (pss_cons (ps_set (i := 1) scStand.nd rfl (Or.inl rfl) (pe_split (pe_ix ix_list (pv 0) pe_int (fun _ _ => rfl)) pe_str))
      (pss_cons (ps_if (PW.pt (pw_or (pt_cmpR op_ne (pe_ix ix_list (pv 1) pe_int (fun _ _ => rfl)) pe_str (nomark _)) (pw_or1 (pt_cmpR op_ne (pe_callB call_len_seq (by rfl) T.len (by decide +kernel) (pa_cons (pv 1) pa_nil)) pe_int (nomark _)))))
        (pss_one (ps_raise rfl (takes_of rfl rfl rfl rfl) (pmk_own PySem.F.excBase_ValueError T.xC T.gC T.kC (raises_own T.bC T.tC) (by rfl))))
        pss_nil)
      (pss_cons (ps_set (i := 2) scStand.nd rfl (Or.inl rfl) (pe_lst pa_nil))
      (pss_cons (ps_set (i := 3) scStand.nd rfl (Or.inl rfl) pe_int)
      (pss_cons (ps_while (passes_of rfl) (PW.pt (pw_and (pt_cmpR op_lt (pv 3) (pe_callB call_len_seq (by rfl) T.len (by decide +kernel) (pa_cons (pv 0) pa_nil)) (nomark _)) (pw_and1 (pt_cmpR op_eq (pe_ix ix_list (pe_split (pe_ix ix_list (pv 0) (pv 3) (fun _ _ => rfl)) pe_str) pe_int (fun _ _ => rfl)) pe_str (nomark _)))))
        (pss_cons (ps_expr (pe_bm PySem.F.plainAttrs_list PySem.F.slot_list_append PySem.F.type_list_append mt_append (pv 2) (pa_cons (pe_call GF hr4 (by rfl) DF.g DF.F.kp DF.b .nil (passes_call (takes_of rfl rfl rfl rfl) (fun _ _ _ _ z => z)) (pa_cons (pe_split (pe_ix ix_list (pv 0) (pv 3) (fun _ _ => rfl)) pe_str) pa_nil)) pa_nil)))
        (pss_one (ps_set (i := 3) scStand.nd rfl (Or.inl rfl) (pe_op op_add (pv 3) pe_int)))))
      (pss_cons (ps_if (pt_cmpR op_eq (pv 3) (pe_callB call_len_seq (by rfl) T.len (by decide +kernel) (pa_cons (pv 0) pa_nil)) (nomark _))
        (pss_one (ps_raise rfl (takes_of rfl rfl rfl rfl) (pmk_own PySem.F.excBase_ValueError T.xC T.gC T.kC (raises_own T.bC T.tC) (by rfl))))
        pss_nil)
      (pss_cons (ps_asg (pe_call GD hr4 (by rfl) DD.g DD.F.kp DD.b .nil (passes_call (takes_of rfl rfl rfl rfl) (fun _ _ _ _ z => z)) (pa_cons (pe_split (pe_ix ix_list (pv 0) (pv 3) (fun _ _ => rfl)) pe_str) pa_nil)) (pg_tup rfl (pgs_cons (pg_name (i := 4) scStand.nd rfl (Or.inl rfl)) (pgs_cons (pg_name (i := 5) scStand.nd rfl (Or.inl rfl)) pgs_nil))))
      (pss_cons (ps_if (pt_cmpR op_ge (pe_op op_add (pv 3) (pv 5)) (pe_callB call_len_seq (by rfl) T.len (by decide +kernel) (pa_cons (pv 0) pa_nil)) (nomark _))
        (pss_one (ps_raise rfl (takes_of rfl rfl rfl rfl) (pmk_own PySem.F.excBase_ValueError T.xC T.gC T.kC (raises_own T.bC T.tC) (by rfl))))
        pss_nil)
      (pss_cons (ps_for (passes_of rfl) rfl (pi_list (pe_slice sl_list (pv 0) (po_some (pe_op op_add (pv 3) pe_int)) (po_some (pe_op op_add (pe_op op_add (pv 3) pe_int) (pv 5))))) (pg_name (i := 6) scStand.nd rfl (Or.inl rfl))
        (pss_one (ps_expr (pe_bm PySem.F.plainAttrs_list PySem.F.slot_list_append PySem.F.type_list_append mt_append (pv 4) (pa_cons (pe_call GE hr4 (by rfl) DE.g DE.F.kp DE.b .nil (passes_call (takes_of rfl rfl rfl rfl) (fun _ _ _ _ z => z)) (pa_cons (pv 6) pa_nil)) pa_nil)))))
      (pss_one (ps_ret (pe_tup (pa_cons (pe_tup (pa_cons (pe_call GW hrW (by rfl) DW.g DW.F.kp DW.b .nil (passes_call (takes_of rfl rfl rfl rfl) (fun _ _ _ _ z => z)) (pa_cons (pe_ix ix_list (pv 1) pe_int (fun _ _ => rfl)) (pa_cons (pe_glob (v := .int 300) (by rfl) hmost ⟨_, rfl⟩) pa_nil))) (pa_cons (pv 2) (pa_cons (pe_callTy call_tuple_of (by rfl) T.tuple (by decide +kernel) (pa_cons (pv 4) pa_nil)) pa_nil)))) (pa_cons (pe_slice sl_list (pv 0) (po_some (pe_op op_add (pe_op op_add (pv 3) pe_int) (pv 5))) po_none) pa_nil)))))))))))))), ?_⟩
    refine ⟨_, rfl, a, _, 0, V.str l0, rfl, rfl, SqL.of ha, at_of (j := 0) rfl rfl, ⟨_, rfl⟩, l0, sBlank, rfl, rfl, (by decide +kernel), (by rw [line_eq]; omega), fun wl hwl => ?_⟩
    have s1 : Same H (upd H wl (.lst ((Txt.split l0 sBlank).map V.str))) := Same.nw hwl
    have hw1 : upd H wl (.lst ((Txt.split l0 sBlank).map V.str)) wl = some (.lst ((Txt.split l0 sBlank).map V.str)) := upd_same
    obtain ⟨w0, rs, esp⟩ := List.exists_cons_of_ne_nil (split_ne l0 sBlank (by rw [tl_blank]; simp))
    have e0 : ((Txt.split l0 sBlank).map V.str)[0]? = some (.str w0) := by rw [esp]; rfl
    have hsl := (words_ok hB0).2
    refine ⟨_, rfl, wl, _, 0, V.str w0, rfl, rfl, SqL.of hw1, at_of (j := 0) rfl e0, rfl, _, rfl, ?_⟩
    by_cases h1 : ¬ w0 = ("stand" : Str)
    · rw [decide_eq_false (fun q => h1 (V.str.inj q) : ¬ V.str w0 = V.str "stand")]
      refine iteT ?_
      refine iteT ?_
      exact kN (stand_bad esp fun m q => h1 (List.cons.inj q).1) _ s1
    replace h1 : w0 = ("stand" : Str) := Decidable.of_not_not h1
    rw [decide_eq_true (by rw [h1] : V.str w0 = V.str "stand")]
    refine iteF ⟨_, rfl, wl, _, rfl, .inl (SqL.of hw1), rfl, _, rfl, ?_⟩
    rw [List.length_map]
    by_cases h2 : ¬ (Txt.split l0 sBlank).length = 2
    · rw [decide_eq_false (fun q => h2 (by have := V.int.inj q; omega) : ¬ V.int ((Txt.split l0 sBlank).length : Nat) = V.int 2)]
      refine iteT ?_
      exact kN (stand_bad esp fun m q => h2 (by rw [esp, q]; rfl)) _ s1
    replace h2 : (Txt.split l0 sBlank).length = 2 := Decidable.of_not_not h2
    rw [decide_eq_true (by rw [h2]; rfl : V.int ((Txt.split l0 sBlank).length : Nat) = V.int 2)]
    obtain ⟨m, rfl⟩ : ∃ m, rs = [m] := by
      rw [esp, List.length_cons] at h2
      exact List.length_eq_one_iff.mp (by omega)
    rw [h1] at esp
    rw [esp] at s1 hw1 hsl ⊢
    have hm0 : m.length ≤ B := hsl m (by simp)
    refine iteF ?_
    refine ⟨Nat.zero_le _, fun p hp => ?_⟩
    have s2 := s1.up (o := .lst []) hp
    have hwp : wl ≠ p := ne_of_none hw1 hp
    have hp0 := s1.free hp
    have hwl0 : H wl = none := hwl
    refine ⟨fun mm σ H' => ∃ i vs fs, σ = [some (.ref a), some (.ref wl), some (.ref p), some (.int ((i : Nat) + 1 : Int)), none, none, none] ∧ Same H H' ∧ H' wl = some (.lst ([("stand" : Str), m].map V.str)) ∧ H' p = some (.lst vs) ∧ AllRef vs ∧ Reps Non H' vs (fs.map frameD) ∧
        (framesOf rest = (framesOf (rest.drop i)).map fun q => (fs ++ q.1, q.2)) ∧ mm = rest.length - i ∧ i ≤ rest.length ∧ fs.length = i,
      ⟨_, 0, [], [], rfl, s2, by rw [upd_ne hwp]; exact hw1, upd_same, (fun _ z => nomatch z), .nil, by
        rw [List.drop_zero]
        cases framesOf rest with
        | none => rfl
        | some q => rfl, rfl, Nat.zero_le _, rfl⟩, ?_⟩
    rintro mm σ H' ⟨i, vs, fs, rfl, s3, hw3, hp3, al, rp, hfr, rfl, hi, hfl⟩
    have ha3 := s3 _ _ ha
    refine ⟨_, rfl, _, rfl, a, _, rfl, .inl (SqL.of ha3), _, _, rfl, rfl, _, rfl, ?_⟩
    rw [List.length_map, List.length_cons]
    by_cases h3 : ¬ ((i : Nat) : Int) + 1 < ((rest.length + 1 : Nat) : Int)
    · rw [decide_eq_false h3]
      refine iteF (iteF ?_)
      have hie : i = rest.length := by omega
      refine ⟨_, rfl, _, rfl, a, _, rfl, .inl (SqL.of ha3), rfl, _, rfl, ?_⟩
      rw [List.length_map, List.length_cons, decide_eq_true (by rw [hie]; rfl : V.int ((i : Nat) + 1 : Int) = V.int ((rest.length + 1 : Nat) : Int))]
      refine iteT (kN (stand_fails esp (.inr ⟨fs, ?_⟩)) _ s3)
      rw [hfr, List.drop_of_length_le (by omega)]
      show some (fs ++ [], []) = _
      rw [List.append_nil]
    replace h3 : ((i : Nat) : Int) + 1 < ((rest.length + 1 : Nat) : Int) := Decidable.of_not_not h3
    rw [decide_eq_true h3]
    have hlt : i < rest.length := by omega
    obtain ⟨d, hd⟩ : ∃ d, rest[i]? = some d := ⟨rest[i], List.getElem?_eq_getElem hlt⟩
    have hdrop : rest.drop i = d :: rest.drop (i + 1) := by
      rw [List.drop_eq_getElem_cons hlt]
      rw [List.getElem?_eq_getElem hlt] at hd
      rw [Option.some.inj hd]
    have hBd : d.length ≤ B := hw.2 d (List.mem_cons_of_mem _ (List.mem_of_getElem? hd))
    have hix : atI ((l0 :: rest).map V.str) ((i : Nat) + 1 : Int) = some (.str d) := at_of (j := i + 1) (by omega) (by rw [List.getElem?_map]; show ((l0 :: rest)[i + 1]?).map _ = _; rw [List.getElem?_cons_succ, hd]; rfl)
    have hsd : d.length + 2 ≤ sizeLine := by rw [line_eq]; omega
    obtain ⟨d0, ds, esd⟩ := List.exists_cons_of_ne_nil (split_ne d sBlank (by rw [tl_blank]; simp))
    have ed0 : ((Txt.split d sBlank).map V.str)[0]? = some (.str d0) := by rw [esd]; rfl
    have hisf : isFrame d ↔ d0 = ("frame" : Str) := by
      unfold isFrame
      rw [esd]
      exact ⟨fun q => Option.some.inj q, fun q => congrArg some q⟩
    refine iteT ⟨_, rfl, _, rfl, a, _, _, V.str d, rfl, rfl, SqL.of ha3, hix, ⟨_, rfl⟩, d, sBlank, rfl, rfl, (by decide +kernel), hsd, fun z hz => ?_⟩
    have s4 := s3.up (o := .lst ((Txt.split d sBlank).map V.str)) hz
    have s34 : Same H' (upd H' z (.lst ((Txt.split d sBlank).map V.str))) := Same.nw hz
    refine ⟨z, _, 0, V.str d0, rfl, rfl, SqL.of upd_same, at_of (j := 0) rfl ed0, rfl, _, rfl, ?_⟩
    by_cases h4 : d0 = ("frame" : Str)
    · rw [decide_eq_true (by rw [h4] : V.str d0 = V.str "frame")]
      refine iteT ⟨fun σ' H' => ∃ m', m' < rest.length - i ∧ _, fun _ _ q => q, ?_⟩
      refine ⟨_, rfl, .inl ⟨rfl, _, SqL.of (s34 _ _ hp3)⟩, _, rfl, _, rfl, a, _, _, V.str d, rfl, rfl, SqL.of (s34 _ _ ha3), hix, ⟨_, rfl⟩, d, sBlank, rfl, rfl, (by decide +kernel), hsd, fun y hy => ?_⟩
      have s5 := s4.up (o := .lst ((Txt.split d sBlank).map V.str)) hy
      have s35 := s34.up (o := .lst ((Txt.split d sBlank).map V.str)) hy
      refine ⟨y, _, rfl, upd_same, words_ok hBd, fun e he H2 v s6 rv => ?_, fun hn H2 s6 => kN (stand_fails esp (.inl (frames_none hdrop (hisf.mpr h4) hn hfr))) _ (s5.trans s6)⟩
      obtain ⟨ta, _, _, rfl, _⟩ := rep_frame rv
      have s36 := s35.trans s6
      refine ⟨p, vs, _, rfl, rfl, s36 _ _ hp3, ?_, ?_⟩
      · have h5 := rp.length
        rw [List.length_map] at h5
        rw [line_eq]
        omega
      · refine ⟨_, rfl, _, _, rfl, rfl, rest.length - (i + 1), by omega, i + 1, vs ++ [.ref ta], fs ++ [e], ?_, (s5.trans s6).wr hp0, by rw [upd_ne hwp]; exact s36 _ _ hw3, upd_same, al.snoc, ?_, frames_step hdrop (hisf.mpr h4) he hfr, rfl, hlt, ?_⟩
        · show [some (V.ref a), some (V.ref wl), some (V.ref p), some (V.int ((i : Nat) + 1 + 1 : Int)), none, none, none] = _
          rw [show (((i + 1 : Nat) : Int) + 1) = (i : Int) + 1 + 1 by omega]
        · rw [List.map_append]
          exact ((rp.same s36).wr (s36 _ _ hp3) fun _ q => q.elim).snoc (rv.wr (s36 _ _ hp3) fun _ q => q.elim)
        · rw [List.length_append, hfl]
          rfl
    rw [decide_eq_false (fun q => h4 (V.str.inj q) : ¬ V.str d0 = V.str "frame")]
    refine iteF ?_
    have hfin := frames_end hdrop (fun q => h4 (hisf.mp q)) hfr
    have hst := stand_at esp hfin
    refine ⟨_, rfl, _, rfl, a, _, rfl, .inl (SqL.of (s34 _ _ ha3)), rfl, _, rfl, ?_⟩
    rw [List.length_map, List.length_cons, decide_eq_false (fun q => by have := V.int.inj q; omega : ¬ V.int ((i : Nat) + 1 : Int) = V.int ((rest.length + 1 : Nat) : Int))]
    refine iteF ?_
    refine ⟨_, rfl, _, rfl, a, _, _, V.str d, rfl, rfl, SqL.of (s34 _ _ ha3), hix, ⟨_, rfl⟩, d, sBlank, rfl, rfl, (by decide +kernel), hsd, fun y hy => ?_⟩
    have s5 := s4.up (o := .lst ((Txt.split d sBlank).map V.str)) hy
    have s35 := s34.up (o := .lst ((Txt.split d sBlank).map V.str)) hy
    refine ⟨y, _, rfl, upd_same, (by rw [esd]; simp), words_ok hBd, fun x ns e he H2 q l s6 hl hq hlst => ?_, fun hn H2 s6 => kN (by rw [hst, hn]) _ (s5.trans s6)⟩
    rw [he] at hst
    have hst : standOf (l0 :: rest) = if (rest.drop (i + 1)).length < e then none else
          match omap edgeOf ((rest.drop (i + 1)).take e), readWhole m 300 with
          | some es, some n => some (⟨n, fs, ⟨x, ns, es⟩⟩, (rest.drop (i + 1)).drop e)
          | _, _ => none := hst
    have s36 := s35.trans s6
    have s06 := s5.trans s6
    have hns : ns.length ≤ 2 := by
      obtain ⟨_, hk, _⟩ := deedOf_back he
      rcases kind_cases hk with ⟨_, q⟩ | ⟨_, q⟩ | ⟨_, q⟩ | ⟨_, q⟩ <;> (have := (Prod.mk.inj q).1; omega)
    have hlp : l ≠ p := (ne_of_none (s35 _ _ hp3) hl).symm
    have hlw : l ≠ wl := (ne_of_none (s35 _ _ hw3) hl).symm
    have hl0 : H l = none := s5.free hl
    refine ⟨q, _, rfl, SqT.of hq, rfl, _, _, rfl, _, _, rfl, rfl, ?_⟩
    have ha6 := s06 _ _ ha
    refine ⟨_, rfl, _, rfl, _, _, rfl, rfl, _, rfl, a, _, rfl, .inl (SqL.of ha6), _, _, rfl, rfl, _, rfl, ?_⟩
    rw [List.length_map, List.length_cons]
    have hdl : (rest.drop (i + 1)).length = rest.length - (i + 1) := List.length_drop
    by_cases h6 : ((rest.length + 1 : Nat) : Int) ≤ ((i : Nat) : Int) + 1 + (e : Int)
    · rw [decide_eq_true h6]
      refine iteT (kN ?_ _ s06)
      rw [hst, if_pos (by rw [hdl]; omega)]
    rw [decide_eq_false h6]
    rw [if_neg (by rw [hdl]; omega)] at hst
    refine iteF ?_
    refine ⟨_, rfl, _, rfl, _, _, rfl, rfl, _, rfl, _, rfl, _, _, rfl, rfl, _, rfl, _, _, rfl, rfl, _, rfl, a, _, rfl, SqL.of ha6, fun sl hsl2 => ?_⟩
    have ecut : cutV ((l0 :: rest).map V.str) (some ((i : Nat) + 1 + 1 : Int)) (some ((i : Nat) + 1 + 1 + (e : Int))) = ((rest.drop (i + 1)).take e).map V.str := by
      rw [show ((i : Nat) + 1 + 1 : Int) = ((i + 2 : Nat) : Int) by omega, show (((i + 2 : Nat) : Int) + (e : Int)) = ((i + 2 + e : Nat) : Int) by omega, cut_range, List.map_take, List.map_drop, List.map_cons]
      show (List.drop (i + 1) (rest.map V.str)).take (i + 2 + e - (i + 2)) = _
      rw [show i + 2 + e - (i + 2) = e by omega]
    rw [ecut]
    have s7 := s06.up (o := .lst (((rest.drop (i + 1)).take e).map V.str)) hsl2
    have s67 : Same H2 (upd H2 sl (.lst (((rest.drop (i + 1)).take e).map V.str))) := Same.nw hsl2
    have hlsl : l ≠ sl := ne_of_none hlst hsl2
    have hpsl : p ≠ sl := ne_of_none (s36 _ _ hp3) hsl2
    have htl : ((rest.drop (i + 1)).take e).length ≤ rest.length := by
      rw [List.length_take, List.length_drop]
      omega
    refine ⟨sl, rfl, ⟨_, SqL.of upd_same⟩, for_list (K := K) (a := sl) (xs := ((rest.drop (i + 1)).take e).map V.str)
      (fun j σ H7 => ∃ v6 us es, σ = [some (.ref a), some (.ref wl), some (.ref p), some (.int ((i : Nat) + 1 : Int)), some (.ref l), some (.int (e : Int)), v6] ∧ Same H H7 ∧ H7 sl = some (.lst (((rest.drop (i + 1)).take e).map V.str)) ∧
        H7 wl = some (.lst ([("stand" : Str), m].map V.str)) ∧ H7 p = some (.lst vs) ∧ Reps Non H7 vs (fs.map frameD) ∧ H7 l = some (.lst ((.str x :: ns.map V.int) ++ us)) ∧ omap edgeOf (((rest.drop (i + 1)).take e).take j) = some es ∧ Reps Non H7 us (es.map edgeD))
      ⟨none, [], [], rfl, s7, upd_same, s67 _ _ (s36 _ _ hw3), s67 _ _ (s36 _ _ hp3), (rp.same s36).same s67, by rw [List.append_nil]; exact s67 _ _ hlst, rfl, .nil⟩ (fun j σ H7 _ ⟨_, _, _, _, _, z, _⟩ => SqL.of z) ?_ ?_⟩
    · rintro j v σ H7 hj ⟨v6, us, es, rfl, s8, hs8, hw8, hp8, rp8, hl8, hom, ru⟩
      obtain ⟨ln, hln, rfl⟩ := map_get hj
      have hBl : ln.length ≤ B := hw.2 ln (List.mem_cons_of_mem _ (List.mem_of_mem_drop (List.mem_of_mem_take (List.mem_of_getElem? hln))))
      refine ⟨_, rfl, .inl ⟨rfl, _, SqL.of hl8⟩, _, rfl, ln, rfl, hBl, fun eg heg H8 v s9 rv => ?_, fun hn H8 s9 => kN (by rw [hst, omap_none hln hn]) _ (s8.trans s9)⟩
      refine ⟨l, _, _, rfl, rfl, s9 _ _ hl8, ?_, ?_⟩
      · have h7 := ru.length
        have h8 := omap_len hom
        have h9 := take_le (l := (rest.drop (i + 1)).take e) (i := j)
        rw [List.length_map] at h7
        rw [List.length_append, List.length_cons, List.length_map, line_eq]
        omega
      · have hl9 := s9 _ _ hl8
        refine ⟨_, us ++ [v], es ++ [eg], rfl, (s8.trans s9).wr hl0, by rw [upd_ne hlsl.symm]; exact s9 _ _ hs8, by rw [upd_ne hlw.symm]; exact s9 _ _ hw8, by rw [upd_ne hlp.symm]; exact s9 _ _ hp8,
          (rp8.same s9).wr hl9 fun _ q => q.elim, by rw [upd_same, List.append_assoc], ?_, ?_⟩
        · rw [take_succ_of hln]
          exact omap_snoc hom heg
        · rw [List.map_append]
          exact ((ru.same s9).wr hl9 fun _ q => q.elim).snoc (rv.wr hl9 fun _ q => q.elim)
    · rintro σ H7 ⟨v6, us, es, rfl, s8, hs8, hw8, hp8, rp8, hl8, hom, ru⟩
      rw [List.length_map, List.take_length] at hom
      rw [hom] at hst
      refine ⟨_, rfl, wl, _, 1, V.str m, rfl, rfl, SqL.of hw8, at_of (j := 1) rfl rfl, m, rfl, hm0, fun n hn => ?_, fun hn => kN (by rw [hst, hn]) _ s8⟩
      rw [hn] at hst
      refine ⟨_, rfl, _, rfl, l, _, rfl, .inl ⟨SqL.of hl8, fun t ht => ⟨by show 3 ≤ sizeLine; decide, fun u hu => ?_⟩⟩⟩
      have hpt : p ≠ t := ne_of_none hp8 ht
      have s9 := (s8.up (o := .tup ((.str x :: ns.map V.int) ++ us)) ht).up (o := .tup [.int n, .ref p, .ref t]) hu
      have s89 : Same H7 (upd (upd H7 t (.tup ((.str x :: ns.map V.int) ++ us))) u (.tup [.int n, .ref p, .ref t])) := (Same.nw ht).up hu
      refine ⟨_, rfl, _, rfl, _, _, rfl, rfl, _, rfl, _, _, rfl, rfl, _, rfl, a, _, rfl, SqL.of (s9 _ _ ha), fun y2 hy2 => ⟨by show 2 ≤ sizeLine; decide, fun r hr2 => ?_⟩⟩
      have ecut2 : cutV ((l0 :: rest).map V.str) (some ((i : Nat) + 1 + 1 + (e : Int))) none = ((rest.drop (i + 1)).drop e).map V.str := by
        rw [show ((i : Nat) + 1 + 1 + (e : Int)) = ((i + 1 + e + 1 : Nat) : Int) by omega, cut_from, List.map_drop, List.map_drop, List.map_cons, List.drop_drop]
        rfl
      rw [ecut2] at hr2 ⊢
      have hyr : y2 ≠ r := ne_of_none upd_same hr2
      have s9f : Same H7 _ := ((s89.up (o := .lst (((rest.drop (i + 1)).drop e).map V.str)) hy2).up (o := .tup [.ref u, .ref y2]) hr2)
      have htu : t ≠ u := ne_of_none upd_same hu
      have hty : upd (upd H7 t (.tup ((.str x :: ns.map V.int) ++ us))) u (.tup [.int n, .ref p, .ref t]) t = some (.tup ((.str x :: ns.map V.int) ++ us)) := by rw [upd_ne htu, upd_same]
      refine kS _ _ hst _ r (.ref u) y2 ((s9.up hy2).up hr2) upd_same ?_ (s9.free hy2) (by rw [upd_ne hyr, upd_same])
      have keep2 : ∀ b o, upd (upd H7 t (.tup ((.str x :: ns.map V.int) ++ us))) u (.tup [.int n, .ref p, .ref t]) b = some o → upd (upd (upd (upd H7 t (.tup ((.str x :: ns.map V.int) ++ us))) u (.tup [.int n, .ref p, .ref t])) y2 (.lst (((rest.drop (i + 1)).drop e).map V.str))) r (.tup [.ref u, .ref y2]) b = some o :=
        (Same.nw hy2).up hr2
      refine .tup (keep2 _ _ upd_same) (.cons (.int n) (.cons (.lst hp0 (s9f _ _ hp8) al ((rp8.same s9f).weak fun _ q => q.elim)) (.cons (.tup (keep2 _ _ hty) (.cons (.str x) ?_)) .nil)))
      exact (Reps.ints ns).append ((ru.same s9f).weak fun _ q => q.elim)
end
end Ln
end
section
namespace Ln
open PySem L2 TL HT
def spLane (C : Addr) : Sp := fun vs H Q E => ∃ (t : Str), vs = [.str t] ∧ t.length ≤ B ∧
  (∀ L, readLane t = some L → ∀ H' v, Same H H' → Rep (fun x => H x = none) H' v (laneD L) → Q v H') ∧
  (readLane t = none → ∀ H', Same H H' → E (.ref C) none H')
section
variable {P : Program} {w : World} {K : PySem.W.Frag} {mg : Str → Option Value} {base : Heap} {C : Addr}
abbrev nLane : List Str := ["text", "lines", "lane", "stand"]
theorem scLane : FnScope nLane ["text"] (defScope sLane) := ⟨rfl, rfl, rfl, by decide +kernel, rfl, by decide +kernel, by decide +kernel⟩
theorem ok_lane {f fS : Addr} {fd fdS : FuncData} (T : Txt K mg C) (D : Df K mg "read_lane" sLane ["text"] f fd) (DS : Df K mg "stand_of" sStand ["lines"] fS fdS)
    (G : FnOk P w K mg base (L2.CX P w) 5 fS fdS ["lines"] (spStand C)) : FnOk P w K mg base (L2.CX P w) 6 f fd ["text"] (spLane C) := by
  refine D.F.okX scLane (fun vs H Q E h => ?_) (fun cdv A outer s H vs Q E hr h => ?_)
  · obtain ⟨t, rfl, _⟩ := h
    rfl
  · obtain ⟨t, rfl, hB, kS, kN⟩ := h
    have hBB : B = 1048576 := rfl
    refine ⟨_, (pss_cons (ps_set (i := 1) scLane.nd rfl (Or.inl rfl) (pe_split (pv 0) pe_str))
      (pss_cons (ps_set (i := 2) scLane.nd rfl (Or.inl rfl) (pe_lst pa_nil))
      (pss_cons (ps_while (passes_of rfl) (pt_cmpR (op_neNil hr.units0) (pv 1) (pe_lst pa_nil) (nomark _))
        (pss_cons (ps_asg (pe_call G hr (by rfl) DS.g DS.F.kp DS.b .nil (passes_call (takes_of rfl rfl rfl rfl) (fun _ _ _ _ z => z)) (pa_cons (pv 1) pa_nil)) (pg_tup rfl (pgs_cons (pg_name (i := 3) scLane.nd rfl (Or.inl rfl)) (pgs_cons (pg_name (i := 1) scLane.nd rfl (Or.inl rfl)) pgs_nil))))
        (pss_one (ps_expr (pe_bm PySem.F.plainAttrs_list PySem.F.slot_list_append PySem.F.type_list_append mt_append (pv 2) (pa_cons (pv 3) pa_nil))))))
      (pss_one (ps_ret (pv 2)))))), ?_⟩
    refine ⟨_, rfl, ⟨_, rfl⟩, t, sFeed, rfl, rfl, (by decide +kernel), (by rw [line_eq]; omega), fun a0 ha0 => ?_⟩
    have hsp := split_feed t
    have s1 : Same H (upd H a0 (.lst ((Txt.split t sFeed).map V.str))) := Same.nw ha0
    refine ⟨Nat.zero_le _, fun g hg => ?_⟩
    have s2 := s1.up (o := .lst []) hg
    have hg0 := s1.free hg
    refine ⟨fun mm σ H' => ∃ a ls vs L v3, σ = [some (.str t), some (.ref a), some (.ref g), v3] ∧ Same H H' ∧ a ≠ g ∧ H' a = some (.lst (ls.map V.str)) ∧ H' g = some (.lst vs) ∧ AllRef vs ∧ Reps (fun x => H x = none ∧ x ≠ g) H' vs (L.map standD) ∧
        (readLane t = (lanes ls).map fun q => L ++ q) ∧ mm = ls.length ∧ WordsOk ls ∧ L.length + ls.length ≤ (Txt.split t sFeed).length,
      ⟨_, a0, Txt.split t sFeed, [], [], none, rfl, s2, ne_of_none upd_same hg, by rw [upd_ne (ne_of_none upd_same hg)]; exact upd_same, upd_same, (fun _ z => nomatch z), .nil, by
        show lanes _ = _
        cases lanes (Txt.split t sFeed) <;> rfl, rfl, ⟨by omega, fun p hp => by have := hsp.2 p hp; omega⟩, by simp⟩, ?_⟩
    rintro mm σ H' ⟨a, ls, vs, L, v3, rfl, s3, hag, ha3, hg3, al, rp, hrd, rfl, hw, hl⟩
    refine ⟨_, rfl, Nat.zero_le _, fun z hz => ⟨a, z, _, rfl, rfl, SqL.of (by rw [upd_ne (ne_of_none ha3 hz)]; exact ha3), SqL.of upd_same, ?_⟩⟩
    have s4 := s3.up (o := .lst []) hz
    have s34 : Same H' (upd H' z (.lst [])) := Same.nw hz
    rw [List.length_map]
    by_cases h1 : ls = []
    · subst h1
      refine ⟨_, rfl, ?_⟩
      refine iteF ?_
      refine ⟨_, rfl, kS L (by rw [hrd, lanes_nil]; show some (L ++ []) = _; rw [List.append_nil]) _ _ s4 (.lst hg0 (s34 _ _ hg3) al ((rp.same s34).weak fun _ q => q.1))⟩
    refine ⟨_, rfl, ?_⟩
    have h1' : ls.length ≠ 0 := fun e => h1 (List.length_eq_zero_iff.mp e)
    rw [decide_eq_true h1']
    refine iteT ⟨fun σ' H' => ∃ m', m' < ls.length ∧ _, fun _ _ q => q, ?_⟩
    refine ⟨_, rfl, a, ls, rfl, s34 _ _ ha3, h1, hw, fun s r he H2 p v q s5 hp rv hq hql => ?_, fun hn H2 s5 => kN (by rw [hrd, lanes_none h1 hn]; rfl) _ (s4.trans s5)⟩
    have s35 := s34.trans s5
    have hgq : g ≠ q := ne_of_none (s34 _ _ hg3) hq
    obtain ⟨x, _, _, _, _, rfl, _⟩ := rep_stand rv
    refine ⟨p, _, rfl, SqT.of hp, rfl, _, _, rfl, _, _, rfl, rfl, _, rfl, .inl ⟨rfl, _, SqL.of (s35 _ _ hg3)⟩, _, rfl, g, vs, _, rfl, rfl, s35 _ _ hg3, ?_, ?_⟩
    · have h5 := rp.length
      rw [List.length_map] at h5
      have := standOf_less he
      rw [line_eq]
      omega
    · have eb := (standOf_back he).1
      refine ⟨_, standOf_less he, q, r, vs ++ [.ref x], L ++ [s], some (.ref x), rfl, (s4.trans s5).wr hg0, hgq.symm, by rw [upd_ne hgq.symm]; exact hql, upd_same, al.snoc, ?_, ?_, rfl, ?_, ?_⟩
      · rw [List.map_append]
        refine ((rp.same s35).wr (s35 _ _ hg3) fun _ q => q.2).snoc ?_
        refine (rv.weak fun y hy => ⟨s4.free hy, fun e => ?_⟩).wr (s35 _ _ hg3) fun _ q => q.2
        rw [e] at hy
        rw [s34 _ _ hg3] at hy
        cases hy
      · rw [hrd, lanes_some he]
        cases lanes r with
        | none => rfl
        | some M =>
          show some (L ++ s :: M) = some ((L ++ [s]) ++ M)
          rw [List.append_assoc]
          rfl
      · refine ⟨Nat.le_trans (Nat.le_of_lt (standOf_less he)) hw.1, fun p hp => hw.2 p ?_⟩
        rw [eb]
        exact List.mem_append_right _ hp
      · have := standOf_less he
        rw [List.length_append]
        simp only [List.length_cons, List.length_nil]
        omega
end
end Ln
end
section
namespace Ln
open PySem L2 TL HT
theorem p60 : (0 : Int) < 10 ^ 60 := by decide
def spBag (K : PySem.W.Frag) : Sp := fun vs H Q _ => ∃ (a : Addr) (ns : List Int), vs = [.ref a] ∧ SqL K H a (ns.map V.int) ∧ ns.length ≤ 63 ∧ ∀ H' b l, Same H H' → BagAt H' b l → Q (.ref b) H'
def spDraw : Sp := fun vs H Q _ => ∃ (b l : Addr) (many : Int), vs = [.ref b, .int many] ∧ BagAt H b l ∧ 0 < many ∧ many ≤ 10 ^ 60 ∧ ∀ (i : Int) H', 0 ≤ i → i < many → BagAt H' b l → Keep H H' → Q (.int i) H'
def spNumber : Sp := fun vs H Q _ => ∃ (b l : Addr), vs = [.ref b] ∧ BagAt H b l ∧ ∀ (n : Int) H', n.natAbs < 10 ^ 60 → BagAt H' b l → Keep H H' → Q (.int n) H'
section
variable {P : Program} {w : World} {K : PySem.W.Frag} {mg : Str → Option Value} {base : Heap} {C : Addr}
abbrev nBag : List Str := ["script", "stir", "cell"]
theorem scBag : FnScope nBag ["script"] (defScope sBag) := ⟨rfl, rfl, rfl, by decide +kernel, rfl, by decide +kernel, by decide +kernel⟩
theorem ok_bag {f : Addr} {fd : FuncData} (T : Txt K mg C) (D : Df K mg "_law_bag" sBag ["script"] f fd) : FnOk P w K mg base CX0 1 f fd ["script"] (spBag K) := by
  refine D.F.ok scBag (fun vs H Q E h => ?_) (fun cdv A outer s H vs Q E hr h => ?_)
  · obtain ⟨a, ns, rfl, _⟩ := h
    rfl
  · obtain ⟨a, ns, rfl, ha, hlen, k⟩ := h
    refine ⟨_, (pss_cons (ps_set (i := 1) scBag.nd rfl (Or.inl rfl) pe_int)
      (pss_cons (ps_for PassesOwn.never rfl (pi_list (pe_slice sl_list (pv 0) po_none (po_some pe_int))) (pg_name (i := 2) scBag.nd rfl (Or.inl rfl))
        (pss_one (ps_set (i := 1) scBag.nd rfl (Or.inl rfl) (pe_op op_mod (pe_op op_add (pe_op op_add (pe_op op_mul (pv 1) pe_int) (pe_op op_mod (pv 2) pe_int)) pe_int) pe_int))))
      (pss_one (ps_ret (pe_lst (pa_cons (pe_lc (own := [("cell", 2)]) (g := (gName 2)) (tt := tYes) (by rfl) scBag.nd (pi_list (pe_slice sl_list (pv 0) po_none (po_some pe_int))) (blkOk_by (N := nBag) (sc := defScope sBag) (by decide +kernel)) (fun _ _ _ _ _ => (pg_name (i := 2) scBag.nd rfl (Or.inl rfl))) (fun _ _ _ _ _ => pts_nil) (fun _ _ _ _ _ => (pe_op op_mod (pe_callB call_abs (by rfl) T.abs (by decide +kernel) (pa_cons (pv 2) pa_nil)) (pe_op op_pow pe_int pe_int)))) (pa_cons pe_int (pa_cons pe_int (pa_cons (pv 1) (pa_cons pe_int pa_nil)))))))))), ?_⟩
    have ecut : cutV (ns.map V.int) none (some 63) = (ns.take 63).map V.int := by
      rw [show (63 : Int) = ((63 : Nat) : Int) from rfl, cut_to, List.map_take]
    refine ⟨_, rfl, _, rfl, a, _, rfl, ha, fun z hz => ?_⟩
    rw [ecut]
    have s1 : Same H (upd H z (.lst ((ns.take 63).map V.int))) := Same.nw hz
    refine ⟨z, rfl, ⟨_, SqL.of upd_same⟩, for_list (K := K) (a := z) (xs := (ns.take 63).map V.int) (fun i σ H' => ∃ st v, σ = [some (.ref a), some (.int st), v] ∧ 0 ≤ st ∧ st < 2147483647 ∧ H' = upd H z (.lst ((ns.take 63).map V.int)))
      ⟨11, none, rfl, by decide, by decide, rfl⟩ (fun i σ H' _ ⟨_, _, _, _, _, e⟩ => by rw [e]; exact SqL.of upd_same) ?_ ?_⟩
    · rintro i x σ H' hi ⟨st, v, rfl, g1, g2, rfl⟩
      obtain ⟨c, _, rfl⟩ := map_get hi
      refine ⟨_, rfl, _, _, rfl, rfl, .inl ⟨by omega, by omega⟩, _, rfl, _, _, rfl, rfl, (by show (0 : Int) < 2147483629; decide), _, _, rfl, rfl, _, _, rfl, rfl, _, _, rfl, rfl, (by show (0 : Int) < 2147483647; decide), ?_⟩
      exact ⟨_, some (.int c), rfl, Int.emod_nonneg _ (by decide), Int.emod_lt_of_pos _ (by decide), rfl⟩
    · rintro σ H' ⟨st, v, rfl, g1, g2, rfl⟩
      refine ⟨_, rfl, _, rfl, a, _, rfl, s1.seq ha, fun y hy => ?_⟩
      rw [ecut]
      have s2 := s1.up (o := .lst ((ns.take 63).map V.int)) hy
      refine ⟨y, rfl, ⟨_, SqL.of upd_same⟩, fun L hL => ?_⟩
      have s3 := s2.up (o := .lst []) hL
      have hyL : y ≠ L := ne_of_none upd_same hL
      refine lc_list (K := K) (a := y) (xs := (ns.take 63).map V.int) (fun i H' => ∃ ms : List Int, Same H H' ∧ H' y = some (.lst ((ns.take 63).map V.int)) ∧ H' L = some (.lst (ms.map V.int)) ∧ ms.length ≤ i ∧ ∀ m ∈ ms, 0 ≤ m ∧ m < 10 ^ 60)
        ⟨[], s3, by rw [upd_ne hyL, upd_same], upd_same, Nat.le_refl _, fun _ q => nomatch q⟩ (fun i H' _ ⟨_, _, q, _⟩ => SqL.of q) ?_ ?_
      · rintro i x H' hi ⟨ms, s4, hy4, hL4, hl, hm⟩
        obtain ⟨c, hc, rfl⟩ := map_get hi
        have hi63 : i < 63 := by
          have := (List.getElem?_eq_some_iff.mp hc).1
          rw [List.length_take] at this
          omega
        refine ⟨rfl, ?_⟩
        refine ⟨_, rfl, c, rfl, _, _, rfl, rfl, ⟨by decide, by decide, by decide⟩, _, _, rfl, rfl, p60, _, hL4, ?_, ms ++ [(if c < 0 then -c else c) % 10 ^ 60], s4.wr (s2.free hL), ?_, ?_, ?_, ?_⟩
        · rw [List.length_map, line_eq]
          omega
        · rw [upd_ne hyL]
          exact hy4
        · rw [upd_same, List.map_append]
          rfl
        · rw [List.length_append]
          simp only [List.length_cons, List.length_nil]
          omega
        · intro m hm'
          rcases List.mem_append.mp hm' with q | q
          · exact hm m q
          · rw [List.mem_singleton.mp q]
            exact ⟨Int.emod_nonneg _ (by decide), Int.emod_lt_of_pos _ (by decide)⟩
      · rintro H' ⟨ms, s4, hy4, hL4, hl, hm⟩
        refine ⟨_, rfl, by show 5 ≤ sizeLine; decide, fun b hb => ?_⟩
        refine k _ _ L (s4.up hb) ⟨ms, 0, 0, st, 0, upd_same, ?_, by decide, by decide, by decide, hm, g1, g2⟩
        rw [upd_ne (ne_of_none hL4 hb)]
        exact hL4
abbrev nDraw : List Str := ["bag", "many", "found"]
theorem scDraw : FnScope nDraw ["bag", "many"] (defScope sDraw) := ⟨rfl, rfl, rfl, by decide +kernel, rfl, by decide +kernel, by decide +kernel⟩
theorem wide60 {x m : Int} (h : 0 < m) (h2 : m ≤ 10 ^ 60) : CDivW x m := wide_div (b := 200) h (by
  have : (10 : Int) ^ 60 < 2 ^ 200 := by decide
  have e : ((2 ^ 200 : Nat) : Int) = 2 ^ 200 := by decide
  omega) (by decide) (by decide)
theorem div60 {r m : Int} (h : 0 < m) (h0 : 0 ≤ r) (h1 : r < 10 ^ 60) : 0 ≤ r / m ∧ r / m < 10 ^ 60 := ⟨Int.ediv_nonneg h0 (by omega), Int.lt_of_le_of_lt (Int.ediv_le_self m h0) h1⟩
theorem bag_wr {H : Hp} {b l : Addr} {ns : List Int} {i r st n i' r' st' n' : Int} (hb : H b = some (.lst [.ref l, .int i, .int r, .int st, .int n])) (hl : H l = some (.lst (ns.map V.int)))
    (h0 : 0 ≤ i') (h1 : 0 ≤ r') (h2 : r' < 10 ^ 60) (h3 : ∀ x ∈ ns, 0 ≤ x ∧ x < 10 ^ 60) (h4 : 0 ≤ st') (h5 : st' < 2147483647) : BagAt (upd H b (.lst [.ref l, .int i', .int r', .int st', .int n'])) b l ∧ Keep H (upd H b (.lst [.ref l, .int i', .int r', .int st', .int n'])) := by
  refine ⟨⟨ns, i', r', st', n', upd_same, ?_, h0, h1, h2, h3, h4, h5⟩, (Keep.refl H).wr fun o e => ?_⟩
  · rw [upd_ne (ne_of hl hb fun e => by
      injection e with e
      cases ns with
      | nil => cases e
      | cons x y => cases e)]
    exact hl
  · rw [hb] at e
    cases e
    rfl
theorem upd_upd {H : Hp} {b : Addr} {o o' : HO} : upd (upd H b o) b o' = upd H b o' := by
  funext x
  by_cases h : x = b
  · rw [h, upd_same, upd_same]
  · rw [upd_ne h, upd_ne h, upd_ne h]
theorem ok_draw {f : Addr} {fd : FuncData} (T : Txt K mg C) (D : Df K mg "_law_draw" sDraw ["bag", "many"] f fd) : FnOk P w K mg base CX0 1 f fd ["bag", "many"] spDraw := by
  refine D.F.ok scDraw (fun vs H Q E h => ?_) (fun cdv A outer s H vs Q E hr h => ?_)
  · obtain ⟨b, l, m, rfl, _⟩ := h
    rfl
  · obtain ⟨b, l, m, rfl, ⟨ns, i, r, st, n, hb, hl, h0, h1, h2, h3, h4, h5⟩, hm, hm2, k⟩ := h
    refine ⟨_, (pss_cons (ps_if (PW.pt (pw_and (pt_cmpR op_eq (pe_ix ix_list (pv 0) pe_int (fun _ _ => rfl)) pe_int (nomark _)) (pw_and1 (pt_cmpR op_lt (pe_ix ix_list (pv 0) pe_int (fun _ _ => rfl)) (pe_callB call_len_seq (by rfl) T.len (by decide +kernel) (pa_cons (pe_ix ix_list (pv 0) pe_int (fun _ _ => rfl)) pa_nil)) (nomark _)))))
        (pss_cons (ps_asg (pe_ix ix_list (pe_ix ix_list (pv 0) pe_int (fun _ _ => rfl)) (pe_ix ix_list (pv 0) pe_int (fun _ _ => rfl)) (fun _ _ => rfl)) (pg_sub (pv 0) pe_int set_list))
        (pss_one (ps_asg (pe_op op_add (pe_ix ix_list (pv 0) pe_int (fun _ _ => rfl)) pe_int) (pg_sub (pv 0) pe_int set_list))))
        (pss_one (ps_if (pt_cmpR op_eq (pe_ix ix_list (pv 0) pe_int (fun _ _ => rfl)) pe_int (nomark _))
          (pss_cons (ps_asg (pe_op op_add (pe_ix ix_list (pv 0) pe_int (fun _ _ => rfl)) pe_int) (pg_sub (pv 0) pe_int set_list))
          (pss_cons (ps_asg (pe_op op_mod (pe_op op_add (pe_op op_add (pe_op op_add (pe_op op_pow (pe_ix ix_list (pv 0) pe_int (fun _ _ => rfl)) pe_int) (pe_op op_mul pe_int (pe_ix ix_list (pv 0) pe_int (fun _ _ => rfl)))) (pe_op op_mul pe_int (pe_ix ix_list (pv 0) pe_int (fun _ _ => rfl)))) pe_int) pe_int) (pg_sub (pv 0) pe_int set_list))
          (pss_one (ps_ret (pe_op op_mod (pe_op op_fdivW (pe_ix ix_list (pv 0) pe_int (fun _ _ => rfl)) pe_int) (pv 1))))))
          pss_nil)))
      (pss_cons (ps_set (i := 2) scDraw.nd rfl (Or.inl rfl) (pe_op op_mod (pe_ix ix_list (pv 0) pe_int (fun _ _ => rfl)) (pv 1)))
      (pss_cons (ps_asg (pe_op op_fdivW (pe_ix ix_list (pv 0) pe_int (fun _ _ => rfl)) (pv 1)) (pg_sub (pv 0) pe_int set_list))
      (pss_one (ps_ret (pv 2)))))), ?_⟩
    have nlb : l ≠ b := ne_of hl hb fun e => by
      injection e with e
      cases ns with
      | nil => cases e
      | cons x y => cases e
    refine ⟨_, rfl, b, _, 2, _, rfl, rfl, SqL.of hb, rfl, rfl, _, rfl, ?_⟩
    by_cases c1 : ¬ r = 0
    · rw [decide_eq_false (fun q => c1 (V.int.inj q) : ¬ V.int r = V.int 0)]
      refine iteF ?_
      refine ⟨_, rfl, b, _, 2, _, rfl, rfl, SqL.of hb, rfl, rfl, _, rfl, ?_⟩
      rw [decide_eq_false (fun q => c1 (V.int.inj q) : ¬ V.int r = V.int 0)]
      refine iteF ?_
      refine ⟨_, rfl, b, _, 2, _, rfl, rfl, SqL.of hb, rfl, _, rfl, _, _, rfl, rfl, hm, _, rfl, b, _, 2, _, rfl, rfl, SqL.of hb, rfl, _, rfl, _, _, rfl, rfl, wide60 hm hm2, _, rfl, b, _, 2, 2, rfl, rfl, hb, rfl, _, rfl, ?_⟩
      have hd := div60 hm h1 h2
      have B1 := bag_wr (n' := n) hb hl h0 hd.1 hd.2 h3 h4 h5
      exact k _ _ (Int.emod_nonneg _ (by omega)) (Int.emod_lt_of_pos _ hm) B1.1 B1.2
    replace c1 : r = 0 := Decidable.of_not_not c1
    rw [decide_eq_true (by rw [c1] : V.int r = V.int 0)]
    refine iteT ?_
    refine ⟨_, rfl, b, _, 1, _, rfl, rfl, SqL.of hb, rfl, _, rfl, b, _, 0, _, rfl, rfl, SqL.of hb, rfl, l, _, rfl, .inl (SqL.of hl), _, _, rfl, rfl, _, rfl, ?_⟩
    rw [List.length_map]
    by_cases c2 : i < (ns.length : Int)
    · rw [decide_eq_true c2]
      refine iteT ?_
      obtain ⟨j, rfl⟩ := Int.eq_ofNat_of_zero_le h0
      obtain ⟨x, hx⟩ : ∃ x, ns[j]? = some x := ⟨ns[j]'(by omega), List.getElem?_eq_getElem (by omega)⟩
      have hx2 := h3 x (List.mem_of_getElem? hx)
      refine ⟨_, rfl, b, _, 0, _, rfl, rfl, SqL.of hb, rfl, _, rfl, b, _, 1, _, rfl, rfl, SqL.of hb, rfl, l, _, _, V.int x, rfl, rfl, SqL.of hl, at_of (j := j) rfl (by rw [List.getElem?_map, hx]; rfl), _, rfl, b, _, 2, 2, rfl, rfl, hb, rfl, ?_⟩
      have B1 := bag_wr (i' := (j : Int)) (st' := st) (n' := n) hb hl h0 hx2.1 hx2.2 h3 h4 h5
      have hb1 : upd H b (.lst ([V.ref l, .int j, .int r, .int st, .int n].set 2 (.int x))) b = some (.lst [.ref l, .int j, .int x, .int st, .int n]) := upd_same
      have hl1 : upd H b (.lst ([V.ref l, .int j, .int r, .int st, .int n].set 2 (.int x))) l = some (.lst (ns.map V.int)) := by rw [upd_ne nlb]; exact hl
      refine ⟨_, rfl, b, _, 1, _, rfl, rfl, SqL.of hb1, rfl, _, _, rfl, rfl, _, rfl, b, _, 1, 1, rfl, rfl, hb1, rfl, ?_⟩
      rw [upd_upd]
      have hb2 : upd H b (.lst ([V.ref l, .int j, .int x, .int st, .int n].set 1 (.int (j + 1)))) b = some (.lst [.ref l, .int (j + 1), .int x, .int st, .int n]) := upd_same
      refine ⟨_, rfl, b, _, 2, _, rfl, rfl, SqL.of hb2, rfl, _, rfl, _, _, rfl, rfl, hm, _, rfl, b, _, 2, _, rfl, rfl, SqL.of hb2, rfl, _, rfl, _, _, rfl, rfl, wide60 hm hm2, _, rfl, b, _, 2, 2, rfl, rfl, hb2, rfl, _, rfl, ?_⟩
      rw [upd_upd]
      have hd := div60 hm hx2.1 hx2.2
      have B2 := bag_wr (i' := (j : Int) + 1) (st' := st) (n' := n) hb hl (by omega) hd.1 hd.2 h3 h4 h5
      exact k _ _ (Int.emod_nonneg _ (by omega)) (Int.emod_lt_of_pos _ hm) B2.1 B2.2
    rw [decide_eq_false c2]
    refine iteF ?_
    refine ⟨_, rfl, b, _, 2, _, rfl, rfl, SqL.of hb, rfl, rfl, _, rfl, ?_⟩
    rw [decide_eq_true (by rw [c1] : V.int r = V.int 0)]
    refine iteT ?_
    refine ⟨_, rfl, b, _, 4, _, rfl, rfl, SqL.of hb, rfl, _, _, rfl, rfl, _, rfl, b, _, 4, 4, rfl, rfl, hb, rfl, ?_⟩
    have hb1 : upd H b (.lst ([V.ref l, .int i, .int r, .int st, .int n].set 4 (.int (n + 1)))) b = some (.lst [.ref l, .int i, .int r, .int st, .int (n + 1)]) := upd_same
    refine ⟨_, rfl, b, _, 3, _, rfl, rfl, SqL.of hb1, rfl, _, _, rfl, rfl, ⟨by decide, by decide, by omega⟩, _, rfl, b, _, 3, _, rfl, rfl, SqL.of hb1, rfl, _, _, rfl, rfl, .inl ⟨by decide, by decide⟩, _, _, rfl, rfl,
      _, rfl, b, _, 4, _, rfl, rfl, SqL.of hb1, rfl, _, _, rfl, rfl, .inl ⟨by decide, by decide⟩, _, _, rfl, rfl, _, _, rfl, rfl, _, _, rfl, rfl, (by show (0 : Int) < 2147483647; decide), _, rfl, b, _, 3, 3, rfl, rfl, hb1, rfl, ?_⟩
    rw [upd_upd]
    refine ⟨_, rfl, b, _, 3, _, rfl, rfl, SqL.of upd_same, rfl, _, _, rfl, rfl, ⟨by show (0 : Int) < 16; decide, by show Nat.log2 16 < 9000; decide⟩, _, rfl, _, _, rfl, rfl, hm, ?_⟩
    have B2 := bag_wr (st' := (st ^ (3 : Int).toNat + 48271 * st + 1013 * (n + 1) + 1) % 2147483647) (n' := n + 1) hb hl h0 h1 h2 h3 (Int.emod_nonneg _ (by decide)) (Int.emod_lt_of_pos _ (by decide))
    exact k _ _ (Int.emod_nonneg _ (by omega)) (Int.emod_lt_of_pos _ hm) B2.1 B2.2
abbrev nNumber : List Str := ["bag"]
theorem scNumber : FnScope nNumber ["bag"] (defScope sNumber) := ⟨rfl, rfl, rfl, by decide +kernel, rfl, by decide +kernel, by decide +kernel⟩
theorem ok_number {f fD : Addr} {fd fdD : FuncData} (T : Txt K mg C) (D : Df K mg "_law_number" sNumber ["bag"] f fd) (DD : Df K mg "_law_draw" sDraw ["bag", "many"] fD fdD) (GD : FnOk P w K mg base CX0 1 fD fdD ["bag", "many"] spDraw) :
    FnOk P w K mg base CX0 2 f fd ["bag"] spNumber := by
  refine D.F.ok scNumber (fun vs H Q E h => ?_) (fun cdv A outer s H vs Q E hr h => ?_)
  · obtain ⟨b, l, rfl, _⟩ := h
    rfl
  · obtain ⟨b, l, rfl, hb, k⟩ := h
    have hrD : Room 1 _ := hr
    refine ⟨_, (pss_cons (ps_if (pt_cmpR op_eq (pe_call GD hrD (by rfl) DD.g DD.F.kp DD.b .nil pass0 (pa_cons (pv 0) (pa_cons pe_int pa_nil))) pe_int (nomark _))
        (pss_one (ps_ret (pe_op op_mul (pe_op op_sub (pe_op op_mul (pe_call GD hrD (by rfl) DD.g DD.F.kp DD.b .nil pass0 (pa_cons (pv 0) (pa_cons pe_int pa_nil))) pe_int) pe_int) (pe_call GD hrD (by rfl) DD.g DD.F.kp DD.b .nil pass0 (pa_cons (pv 0) (pa_cons (pe_op op_pow pe_int pe_int) pa_nil))))))
        pss_nil)
      (pss_one (ps_ret (pe_op op_sub (pe_call GD hrD (by rfl) DD.g DD.F.kp DD.b .nil pass0 (pa_cons (pv 0) (pa_cons pe_int pa_nil))) pe_int)))), ?_⟩
    refine ⟨_, rfl, b, l, 8, rfl, hb, by decide, by decide, fun i H1 g1 g2 hb1 k1 => ?_⟩
    refine ⟨rfl, _, rfl, ?_⟩
    by_cases c : i = 7
    · rw [decide_eq_true (by rw [c] : V.int i = V.int 7)]
      refine iteT ?_
      refine ⟨_, rfl, b, l, 2, rfl, hb1, by decide, by decide, fun x H2 g3 g4 hb2 k2 => ⟨_, _, rfl, rfl, .inl ⟨by omega, by omega⟩, _, _, rfl, rfl, ?_⟩⟩
      refine ⟨_, rfl, _, _, rfl, rfl, ⟨by decide, by decide, by decide⟩, b, l, 10 ^ 60, rfl, hb2, by decide, by decide, fun y H3 g5 g6 hb3 k3 => ⟨_, _, rfl, rfl, .inl ⟨by omega, by omega⟩, ?_⟩⟩
      refine k _ _ ?_ hb3 ((k1.trans k2).trans k3)
      have hx : x = 0 ∨ x = 1 := by omega
      have e : ((10 ^ 60 : Nat) : Int) = 10 ^ 60 := by decide
      rcases hx with rfl | rfl <;> omega
    rw [decide_eq_false (fun q => c (V.int.inj q) : ¬ V.int i = V.int 7)]
    refine iteF ?_
    refine ⟨_, rfl, b, l, 9, rfl, hb1, by decide, by decide, fun x H2 g3 g4 hb2 k2 => ⟨_, _, rfl, rfl, k _ _ ?_ hb2 (k1.trans k2)⟩⟩
    have : (100 : Nat) < 10 ^ 60 := by decide
    omega
end
end Ln
end
section
namespace Ln
open PySem L2 TL HT
/-! ### what is drawn is small -/
theorem num_sm {n : Int} (h : n.natAbs < 10 ^ 60) : NumOk n ∧ (num n).length ≤ 61 := ⟨numOk_of (by decide) (by decide) h, Nat.le_trans num_len (Nat.succ_le_succ (numL_len (by decide) h))⟩
theorem sum_sm {l : List Str} {c : Nat} (h : ∀ x ∈ l, x.length ≤ c) : (l.map (·.length)).sum ≤ l.length * c := by
  induction l with
  | nil => exact Nat.zero_le _
  | cons a r ih =>
    rw [List.map_cons, List.sum_cons, List.length_cons, Nat.succ_mul]
    have h1 := h a List.mem_cons_self
    have h2 := ih fun x hx => h x (List.mem_cons_of_mem _ hx)
    omega
def PairSm (p : Pair) : Prop := PairOk p ∧ (pairText p).length ≤ 123
def FormSm (f : Form) : Prop := FormOk f ∧ (formText f).length ≤ 433
def EdgeSm (e : Edge) : Prop := EdgeOk e ∧ (edgeText e).length ≤ 1870
def FrameSm (e : Frame) : Prop := FrameOk e ∧ (frameText e).length ≤ 1870
theorem pair_sm {a w : Int} (h1 : a.natAbs < 10 ^ 60) (h2 : w.natAbs < 10 ^ 60) : PairSm (a, w) := by
  refine ⟨⟨(num_sm h1).1, (num_sm h2).1⟩, ?_⟩
  show (num a ++ sColon ++ num w).length ≤ 123
  rw [len_app, len_app, len_colon]
  have := (num_sm h1).2
  have := (num_sm h2).2
  omega
theorem form_sm {k : Int} {ps : List Pair} (h1 : k.natAbs < 10 ^ 60) (h2 : ∀ p ∈ ps, PairSm p) (h3 : ps.length ≤ 3) : FormSm (k, ps) := by
  refine ⟨⟨(num_sm h1).1, fun p hp => (h2 p hp).1⟩, ?_⟩
  have e := join_len sSemi (ps := num k :: ps.map pairText) (by simp)
  have s := sum_sm (l := ps.map pairText) (c := 123) fun x hx => by
    obtain ⟨p, hp, rfl⟩ := List.mem_map.mp hx
    exact (h2 p hp).2
  have := (num_sm h1).2
  rw [List.map_cons, List.sum_cons, List.length_cons, len_semi] at e
  rw [List.length_map] at s e
  show (Str.join sSemi (num k :: ps.map pairText)).length ≤ 433
  omega
theorem words_sm {w : Str} {a b : Int} {fs : List Form} (hw : w.length ≤ 5) (h1 : a.natAbs < 10 ^ 60) (h2 : b.natAbs < 10 ^ 60) (h3 : ∀ f ∈ fs, FormSm f) (h4 : fs.length ≤ 4) : (Str.join sBlank (w :: num a :: num b :: fs.map formText)).length ≤ 1870 := by
  have e := join_len sBlank (ps := w :: num a :: num b :: fs.map formText) (by simp)
  have s := sum_sm (l := fs.map formText) (c := 433) fun x hx => by
    obtain ⟨p, hp, rfl⟩ := List.mem_map.mp hx
    exact (h3 p hp).2
  have := (num_sm h1).2
  have := (num_sm h2).2
  rw [List.map_cons, List.sum_cons, List.length_cons, List.map_cons, List.sum_cons, List.length_cons, List.map_cons, List.sum_cons, List.length_cons, len_blank] at e
  rw [List.length_map] at s e
  omega
theorem edge_sm {a b : Int} {fs : List Form} (h1 : a.natAbs < 10 ^ 60) (h2 : b.natAbs < 10 ^ 60) (h3 : ∀ f ∈ fs, FormSm f) (h4 : fs.length ≤ 4) : EdgeSm ⟨a, fs, b⟩ :=
  ⟨⟨(num_sm h1).1, (num_sm h2).1, fun f hf => (h3 f hf).1⟩, words_sm (by decide) h1 h2 h3 h4⟩
theorem frame_sm {a b : Int} {fs : List Form} (h1 : a.natAbs < 10 ^ 60) (h2 : b.natAbs < 10 ^ 60) (h3 : ∀ f ∈ fs, FormSm f) (h4 : fs.length ≤ 4) : FrameSm ⟨a, b, fs⟩ :=
  ⟨⟨(num_sm h1).1, (num_sm h2).1, fun f hf => (h3 f hf).1⟩, words_sm (by decide) h1 h2 h3 h4⟩
def spWForms : Sp := fun vs H Q _ => ∃ (b l : Addr), vs = [.ref b] ∧ BagAt H b l ∧ ∀ (fs : List Form) (p : Addr) H', fs.length ≤ 4 → (∀ f ∈ fs, FormSm f) → BagAt H' b l → Keep H H' → Rep Non H' (.ref p) (formsD fs) → Q (.ref p) H'
def spWEdge : Sp := fun vs H Q _ => ∃ (b l : Addr), vs = [.ref b] ∧ BagAt H b l ∧ ∀ (e : Edge) (p : Addr) H', EdgeSm e → BagAt H' b l → Keep H H' → Rep Non H' (.ref p) (edgeD e) → Q (.ref p) H'
theorem pick5 {i : Int} (h0 : 0 ≤ i) (h1 : i < 5) : ∃ n : Nat, n ≤ 3 ∧ atI [V.int 0, .int 1, .int 1, .int 2, .int 3] i = some (.int (n : Nat)) := by
  have : i = 0 ∨ i = 1 ∨ i = 2 ∨ i = 3 ∨ i = 4 := by omega
  rcases this with rfl | rfl | rfl | rfl | rfl
  · exact ⟨0, by decide, rfl⟩
  · exact ⟨1, by decide, rfl⟩
  · exact ⟨1, by decide, rfl⟩
  · exact ⟨2, by decide, rfl⟩
  · exact ⟨3, by decide, rfl⟩
section
variable {P : Program} {w : World} {K : PySem.W.Frag} {mg : Str → Option Value} {base : Heap} {C : Addr}
abbrev nWForms : List Str := ["bag", "found", "k", "pairs", "j"]
theorem scWForms : FnScope nWForms ["bag"] (defScope sWForms) := ⟨rfl, rfl, rfl, by decide +kernel, rfl, by decide +kernel, by decide +kernel⟩
theorem ok_wforms {f fD fN : Addr} {fd fdD fdN : FuncData} (T : Txt K mg C) (D : Df K mg "_law_wild_forms" sWForms ["bag"] f fd) (DD : Df K mg "_law_draw" sDraw ["bag", "many"] fD fdD) (GD : FnOk P w K mg base CX0 1 fD fdD ["bag", "many"] spDraw)
    (DN : Df K mg "_law_number" sNumber ["bag"] fN fdN) (GN : FnOk P w K mg base CX0 2 fN fdN ["bag"] spNumber) : FnOk P w K mg base CX0 3 f fd ["bag"] spWForms := by
  refine D.F.ok scWForms (fun vs H Q E h => ?_) (fun cdv A outer s H vs Q E hr h => ?_)
  · obtain ⟨b, l, rfl, _⟩ := h
    rfl
  · obtain ⟨b, l, rfl, hb, k⟩ := h
    have hrN : Room 2 _ := hr
    have hrD : Room 1 _ := hrN.mono (by decide)
    refine ⟨_, (pss_cons (ps_set (i := 1) scWForms.nd rfl (Or.inl rfl) (pe_lst pa_nil))
      (pss_cons (ps_for PassesOwn.never rfl (pi_range1 (by rfl) T.range (pa_cons (pe_call GD hrD (by rfl) DD.g DD.F.kp DD.b .nil pass0 (pa_cons (pv 0) (pa_cons pe_int pa_nil))) pa_nil)) (pg_name (i := 2) scWForms.nd rfl (Or.inl rfl))
        (pss_cons (ps_setLc (i := 3) (own := [("j", 4)]) (g := (gName 4)) (tt := tYes) (by rfl) scWForms.nd rfl rfl (sw_true rfl rfl rfl (by decide +kernel)) (pi_range1 (by rfl) T.range (pa_cons (pe_ix ix_list (pe_lst (pa_cons pe_int (pa_cons pe_int (pa_cons pe_int (pa_cons pe_int (pa_cons pe_int pa_nil)))))) (pe_call GD hrD (by rfl) DD.g DD.F.kp DD.b .nil pass0 (pa_cons (pv 0) (pa_cons pe_int pa_nil))) (fun _ _ => rfl)) pa_nil)) (blkOk_by (N := nWForms) (sc := defScope sWForms) (by decide +kernel)) (fun _ _ _ _ _ => (pg_name (i := 4) scWForms.nd rfl (Or.inl rfl))) (fun _ _ _ _ _ => pts_nil) (fun _ _ _ _ _ => (pe_tup (pa_cons (pe_call GN hrN (by rfl) DN.g DN.F.kp DN.b .nil pass0 (pa_cons (pv 0) pa_nil)) (pa_cons (pe_call GN hrN (by rfl) DN.g DN.F.kp DN.b .nil pass0 (pa_cons (pv 0) pa_nil)) pa_nil)))))
        (pss_one (ps_expr (pe_bm PySem.F.plainAttrs_list PySem.F.slot_list_append PySem.F.type_list_append mt_append (pv 1) (pa_cons (pe_tup (pa_cons (pe_call GN hrN (by rfl) DN.g DN.F.kp DN.b .nil pass0 (pa_cons (pv 0) pa_nil)) (pa_cons (pe_callTy call_tuple_of (by rfl) T.tuple (by decide +kernel) (pa_cons (pv 3) pa_nil)) pa_nil))) pa_nil))))))
      (pss_one (ps_ret (pe_callTy call_tuple_of (by rfl) T.tuple (by decide +kernel) (pa_cons (pv 1) pa_nil)))))), ?_⟩
    refine ⟨Nat.zero_le _, fun g hg => ?_⟩
    have gn := hb.ne hg
    have hb0 := hb.upd (o := .lst []) hg
    have k0 : Keep H (upd H g (.lst [])) := (Same.nw hg).keep
    have fg : Fresh H g := (Keep.refl H).fresh hg
    refine ⟨_, rfl, b, l, 5, rfl, hb0, by decide, by decide, fun n H1 n0 n5 hb1 k1 => ⟨n, rfl, by omega, by omega, ?_⟩⟩
    refine for_range (fun i σ H' => ∃ v2 v3 v4 vs fs, σ = [some (.ref b), some (.ref g), v2, v3, v4] ∧ BagAt H' b l ∧ Keep H H' ∧ H' g = some (.lst vs) ∧ AllRef vs ∧ Reps Non H' vs (fs.map formD) ∧ fs.length = i ∧ ∀ f ∈ fs, FormSm f)
      ⟨none, none, none, [], [], rfl, hb1, k0.trans k1, k1 _ _ upd_same rfl, (fun _ q => nomatch q), .nil, rfl, fun _ q => nomatch q⟩ ?_ ?_
    · rintro i σ H2 hi ⟨v2, v3, v4, vs, fs, rfl, hb2, k2, hg2, al, rp, hl, hs⟩
      refine ⟨by show 5 ≤ sizeLine; decide, fun x hx => ⟨_, rfl, b, l, 5, rfl, hb2.upd hx, by decide, by decide, fun m H3 m0 m5 hb3 k3 => ?_⟩⟩
      obtain ⟨q, hq3, hq⟩ := pick5 m0 m5
      have k23 : Keep H2 H3 := (Same.nw hx).keep.trans k3
      refine ⟨x, _, m, _, rfl, rfl, SqL.of (k3 _ _ upd_same rfl), hq, q, rfl, by omega, by omega, fun D hD => ?_⟩
      have dn := hb3.ne hD
      have fD : Fresh H2 D := k23.fresh hD
      have fD0 : Fresh H D := (k2.trans k23).fresh hD
      have hg3 := k23 _ _ hg2 (bagLike_refs al)
      have gD : g ≠ D := ne_of_none hg3 hD
      refine lc_range (lo := 0) (n := q) (fun j H' => ∃ ws ps, BagAt H' b l ∧ Keep H2 H' ∧ H' D = some (.lst ws) ∧ AllRef ws ∧ Reps Non H' ws (ps.map pairD) ∧ ps.length = j ∧ ∀ p ∈ ps, PairSm p)
        ⟨[], [], hb3.upd hD, k23.trans (Same.nw hD).keep, upd_same, (fun _ q => nomatch q), .nil, rfl, fun _ q => nomatch q⟩ ?_ ?_
      · rintro j H' hj ⟨ws, ps, hb4, k4, hD4, al4, rp4, hl4, hs4⟩
        refine ⟨rfl, ?_⟩
        refine ⟨_, rfl, b, l, rfl, hb4, fun n1 H5 z1 hb5 k5 => ⟨_, rfl, b, l, rfl, hb5, fun n2 H6 z2 hb6 k6 => ⟨by show 2 ≤ sizeLine; decide, fun t ht => ?_⟩⟩⟩
        have k46 := k5.trans k6
        have hD6 := k46 _ _ hD4 (bagLike_refs al4)
        have st : Same H6 (upd H6 t (.tup [.int n1, .int n2])) := Same.nw ht
        have hD7 := st _ _ hD6
        have hlw := rp4.length
        rw [List.length_map] at hlw
        refine ⟨_, hD7, by rw [line_eq]; omega, ws ++ [.ref t], ps ++ [(n1, n2)], (hb6.upd ht).wr dn, ((k4.trans k46).trans st.keep).wr fD, upd_same, al4.snoc, ?_, by rw [List.length_append, hl4]; rfl, ?_⟩
        · rw [List.map_append]
          refine ((rp4.keep (k46.trans st.keep)).wr hD7 fun _ q => q.elim).snoc (Rep.wr (.tup upd_same (.cons (.int _) (.cons (.int _) .nil))) hD7 fun _ q => q.elim)
        · intro p hp
          rcases List.mem_append.mp hp with z | z
          · exact hs4 p z
          · rw [List.mem_singleton.mp z]
            exact pair_sm z1 z2
      · rintro H' ⟨ws, ps, hb4, k4, hD4, al4, rp4, hl4, hs4⟩
        have hg4 := k4 _ _ hg2 (bagLike_refs al)
        refine ⟨_, rfl, .inl ⟨rfl, _, SqL.of hg4⟩, _, rfl, b, l, rfl, hb4, fun n1 H5 z1 hb5 k5 => ?_⟩
        have hD5 := k5 _ _ hD4 (bagLike_refs al4)
        refine ⟨_, rfl, D, ws, rfl, .inl ⟨SqL.of hD5, fun t ht => ⟨by show 2 ≤ sizeLine; decide, fun u hu => ?_⟩⟩⟩
        have s5 : Same H5 (upd (upd H5 t (.tup ws)) u (.tup [.int n1, .ref t])) := (Same.nw ht).up hu
        have k45 := k5.trans s5.keep
        have hg6 := k45 _ _ hg4 (bagLike_refs al)
        refine ⟨g, vs, _, rfl, rfl, hg6, ?_, ?_⟩
        · have := rp.length
          rw [List.length_map] at this
          rw [line_eq]
          omega
        · refine ⟨_, _, _, vs ++ [.ref u], fs ++ [(n1, ps)], rfl, ((hb5.upd ht).upd hu).wr gn, ((k2.trans k4).trans k45).wr fg, upd_same, al.snoc, ?_, by rw [List.length_append, hl]; rfl, ?_⟩
          · rw [List.map_append]
            refine (((rp.keep k4).keep k45).wr hg6 fun _ q => q.elim).snoc (Rep.wr ?_ hg6 fun _ q => q.elim)
            exact .tup upd_same (.cons (.int _) (.cons (.tup (Same.nw hu _ _ upd_same) (rp4.keep k45)) .nil))
          · intro f hf
            rcases List.mem_append.mp hf with z | z
            · exact hs f z
            · rw [List.mem_singleton.mp z]
              exact form_sm z1 hs4 (by omega)
    · rintro σ H2 ⟨v2, v3, v4, vs, fs, rfl, hb2, k2, hg2, al, rp, hl, hs⟩
      refine ⟨_, rfl, g, vs, rfl, .inl ⟨SqL.of hg2, fun t ht => ?_⟩⟩
      exact k fs t _ (by omega) hs (hb2.upd ht) (k2.trans (Same.nw ht).keep) (.tup upd_same (rp.same (Same.nw ht)))
abbrev nWEdge : List Str := ["bag"]
theorem scWEdge : FnScope nWEdge ["bag"] (defScope sWEdge) := ⟨rfl, rfl, rfl, by decide +kernel, rfl, by decide +kernel, by decide +kernel⟩
theorem ok_wedge {f fN fF : Addr} {fd fdN fdF : FuncData} (T : Txt K mg C) (D : Df K mg "_law_wild_edge" sWEdge ["bag"] f fd) (DN : Df K mg "_law_number" sNumber ["bag"] fN fdN) (GN : FnOk P w K mg base CX0 2 fN fdN ["bag"] spNumber)
    (DF : Df K mg "_law_wild_forms" sWForms ["bag"] fF fdF) (GF : FnOk P w K mg base CX0 3 fF fdF ["bag"] spWForms) : FnOk P w K mg base CX0 4 f fd ["bag"] spWEdge := by
  refine D.F.ok scWEdge (fun vs H Q E h => ?_) (fun cdv A outer s H vs Q E hr h => ?_)
  · obtain ⟨b, l, rfl, _⟩ := h
    rfl
  · obtain ⟨b, l, rfl, hb, k⟩ := h
    have hrF : Room 3 _ := hr
    have hrN : Room 2 _ := hrF.mono (by decide)
    refine ⟨_, (pss_one (ps_ret (pe_tup (pa_cons (pe_call GN hrN (by rfl) DN.g DN.F.kp DN.b .nil pass0 (pa_cons (pv 0) pa_nil)) (pa_cons (pe_call GF hrF (by rfl) DF.g DF.F.kp DF.b .nil pass0 (pa_cons (pv 0) pa_nil)) (pa_cons (pe_call GN hrN (by rfl) DN.g DN.F.kp DN.b .nil pass0 (pa_cons (pv 0) pa_nil)) pa_nil)))))), ?_⟩
    refine ⟨_, rfl, b, l, rfl, hb, fun n1 H1 z1 hb1 k1 => ⟨_, rfl, b, l, rfl, hb1, fun fs p H2 hl hs hb2 k2 rp => ⟨_, rfl, b, l, rfl, hb2, fun n2 H3 z2 hb3 k3 => ⟨by show 3 ≤ sizeLine; decide, fun t ht => ?_⟩⟩⟩⟩
    have st : Same H3 (upd H3 t (.tup [.int n1, .ref p, .int n2])) := Same.nw ht
    exact k ⟨n1, fs, n2⟩ t _ (edge_sm z1 z2 hs hl) (hb3.upd ht) (((k1.trans k2).trans k3).trans st.keep) (.tup upd_same (.cons (.int _) (.cons (rp.keep (k3.trans st.keep)) (.cons (.int _) .nil))))
end
end Ln
end
section
namespace Ln
open PySem L2 TL HT
/-- what follows, by what holds there -/
theorem joint_if {t : TT} {a b r : TS} {D : Ends} {σ : St} {H : Hp} (I : St → Hp → Prop) (h : ∀ k : St → Hp → Prop, (∀ σ H, I σ H → k σ H) → tIfS t a b { D with nx := k } σ H) (hk : ∀ σ H, I σ H → r D σ H) : tSeq (tIfS t a b) r D σ H := h (r D) hk
def size (ls : List Str) : Nat := (ls.map (·.length)).sum + ls.length
theorem size_app (a b : List Str) : size (a ++ b) = size a + size b := by
  unfold size
  rw [List.map_append, List.sum_append, List.length_append]
  omega
theorem size_cons (x : Str) (a : List Str) : size (x :: a) = x.length + 1 + size a := by
  unfold size
  rw [List.map_cons, List.sum_cons, List.length_cons]
  omega
theorem size_nil : size [] = 0 := rfl
theorem size_sm {l : List Str} {c : Nat} (h : ∀ x ∈ l, x.length ≤ c) : size l ≤ l.length * (c + 1) := by
  have := sum_sm h
  unfold size
  rw [Nat.mul_succ]
  omega
def StandSm (s : Stand) : Prop := StandOk s ∧ size (standLines s) ≤ 11500
theorem stand_sm {m : Int} {fs : List Frame} {wd : Str} {ns : List Int} {es : List Edge} (h1 : m.natAbs < 10 ^ 60) (h2 : ∀ f ∈ fs, FrameSm f) (h3 : fs.length ≤ 4) (h4 : deedKind wd = some (ns.length, es.length)) (h5 : wd.length ≤ 5)
    (h6 : ∀ n ∈ ns, n.natAbs < 10 ^ 60) (h7 : ns.length ≤ 2) (h8 : ∀ e ∈ es, EdgeSm e) (h9 : es.length ≤ 2) : StandSm ⟨m, fs, ⟨wd, ns, es⟩⟩ := by
  refine ⟨⟨(num_sm h1).1, fun f hf => (h2 f hf).1, h4, fun n hn => (num_sm (h6 n hn)).1, fun e he => (h8 e he).1⟩, ?_⟩
  show size (Str.join sBlank [("stand" : Str), num m] :: (fs.map frameText ++ deedText wd ns :: es.map edgeText)) ≤ 11500
  rw [size_cons, size_app, size_cons]
  have a1 := join_len sBlank (ps := [("stand" : Str), num m]) (by simp)
  rw [List.map_cons, List.sum_cons, List.map_cons, List.sum_cons, List.length_cons, List.length_cons, len_blank, show ("stand" : Str).length = 5 by decide] at a1
  have a2 := (num_sm h1).2
  have a3 := size_sm (l := fs.map frameText) (c := 1870) fun x hx => by
    obtain ⟨p, hp, rfl⟩ := List.mem_map.mp hx
    exact (h2 p hp).2
  have a4 := size_sm (l := es.map edgeText) (c := 1870) fun x hx => by
    obtain ⟨p, hp, rfl⟩ := List.mem_map.mp hx
    exact (h8 p hp).2
  have a5 := join_len sBlank (ps := wd :: ns.map num) (by simp)
  have a6 := sum_sm (l := ns.map num) (c := 61) fun x hx => by
    obtain ⟨p, hp, rfl⟩ := List.mem_map.mp hx
    exact (num_sm (h6 p hp)).2
  rw [List.map_cons, List.sum_cons, List.length_cons, len_blank] at a5
  rw [List.length_map] at a3 a4 a5 a6
  have a7 : (deedText wd ns).length = (Str.join sBlank (wd :: ns.map num)).length := rfl
  simp only [List.map_nil, List.sum_nil, List.length_nil] at a1
  omega
theorem lane_sm {L : List Stand} (h : ∀ s ∈ L, StandSm s) (hl : L.length ≤ 5) : (laneText L).length ≤ 60000 := by
  have h1 : size (laneLines L) ≤ L.length * 11500 := by
    clear hl
    induction L with
    | nil => exact Nat.le_refl _
    | cons s r ih =>
      show size (standLines s ++ laneLines r) ≤ _
      rw [size_app, List.length_cons, Nat.succ_mul]
      have h1 := (h s List.mem_cons_self).2
      have h2 := ih fun x hx => h x (List.mem_cons_of_mem _ hx)
      omega
  unfold laneText
  by_cases h0 : laneLines L = []
  · rw [h0]; decide
  have e := join_len sFeed h0
  unfold size at h1
  rw [len_feed] at e
  omega
def spWLane : Sp := fun vs H Q _ => ∃ (b l : Addr), vs = [.ref b] ∧ BagAt H b l ∧ ∀ (L : List Stand) (p : Addr) H', L ≠ [] → L.length ≤ 5 → (∀ s ∈ L, StandSm s) → BagAt H' b l → Keep H H' → Rep Any H' (.ref p) (laneD L) → Q (.ref p) H'
theorem pick6 {i : Int} (h0 : 0 ≤ i) (h1 : i < 6) : ∃ (wd : Str) (e : Nat), atI [V.str "go", .str "test", .str "tell", .str "take", .str "hold", .str "leave"] i = some (.str wd) ∧ atI [V.int 1, .int 2, .int 1, .int 1, .int 1, .int 0] i = some (.int (e : Nat)) ∧
    deedKind wd = some (if i = 4 then 2 else 0, e) ∧ e ≤ 2 ∧ wd.length ≤ 5 := by
  have : i = 0 ∨ i = 1 ∨ i = 2 ∨ i = 3 ∨ i = 4 ∨ i = 5 := by omega
  rcases this with rfl | rfl | rfl | rfl | rfl | rfl
  · exact ⟨"go", 1, rfl, rfl, by decide, by decide, by decide⟩
  · exact ⟨"test", 2, rfl, rfl, by decide, by decide, by decide⟩
  · exact ⟨"tell", 1, rfl, rfl, by decide, by decide, by decide⟩
  · exact ⟨"take", 1, rfl, rfl, by decide, by decide, by decide⟩
  · exact ⟨"hold", 1, rfl, rfl, by decide, by decide, by decide⟩
  · exact ⟨"leave", 0, rfl, rfl, by decide, by decide, by decide⟩
section
variable {P : Program} {w : World} {K : PySem.W.Frag} {mg : Str → Option Value} {base : Heap} {C : Addr}
abbrev nWLane : List Str := ["bag", "lane", "k", "kind", "deed", "j", "many", "paper"]
theorem scWLane : FnScope nWLane ["bag"] (defScope sWLane) := ⟨rfl, rfl, rfl, by decide +kernel, rfl, by decide +kernel, by decide +kernel⟩
theorem ok_wlane {f fD fN fF fE : Addr} {fd fdD fdN fdF fdE : FuncData} (T : Txt K mg C) (D : Df K mg "_law_wild_lane" sWLane ["bag"] f fd) (DD : Df K mg "_law_draw" sDraw ["bag", "many"] fD fdD) (GD : FnOk P w K mg base CX0 1 fD fdD ["bag", "many"] spDraw)
    (DN : Df K mg "_law_number" sNumber ["bag"] fN fdN) (GN : FnOk P w K mg base CX0 2 fN fdN ["bag"] spNumber) (DF : Df K mg "_law_wild_forms" sWForms ["bag"] fF fdF) (GF : FnOk P w K mg base CX0 3 fF fdF ["bag"] spWForms)
    (DE : Df K mg "_law_wild_edge" sWEdge ["bag"] fE fdE) (GE : FnOk P w K mg base CX0 4 fE fdE ["bag"] spWEdge) : FnOk P w K mg base CX0 5 f fd ["bag"] spWLane := by
  refine D.F.ok scWLane (fun vs H Q E h => ?_) (fun cdv A outer s H vs Q E hr h => ?_)
  · obtain ⟨b, l, rfl, _⟩ := h
    rfl
  · obtain ⟨b, l, rfl, hb, k⟩ := h
    have hrE : Room 4 _ := hr
    have hrF : Room 3 _ := hrE.mono (by decide)
    have hrN : Room 2 _ := hrE.mono (by decide)
    have hrD : Room 1 _ := hrE.mono (by decide)
    refine ⟨_, (pss_cons (ps_set (i := 1) scWLane.nd rfl (Or.inl rfl) (pe_lst pa_nil))
      (pss_cons (ps_for PassesOwn.never rfl (pi_range1 (by rfl) T.range (pa_cons (pe_op op_add pe_int (pe_call GD hrD (by rfl) DD.g DD.F.kp DD.b .nil pass0 (pa_cons (pv 0) (pa_cons pe_int pa_nil)))) pa_nil)) (pg_name (i := 2) scWLane.nd rfl (Or.inl rfl))
        (pss_cons (ps_set (i := 3) scWLane.nd rfl (Or.inl rfl) (pe_call GD hrD (by rfl) DD.g DD.F.kp DD.b .nil pass0 (pa_cons (pv 0) (pa_cons pe_int pa_nil))))
        (pss_cons (ps_set (i := 4) scWLane.nd rfl (Or.inl rfl) (pe_tup (pa_cons (pe_ix ix_list (pe_lst (pa_cons pe_str (pa_cons pe_str (pa_cons pe_str (pa_cons pe_str (pa_cons pe_str (pa_cons pe_str pa_nil))))))) (pv 3) (fun _ _ => rfl)) pa_nil)))
        (pss_cons (ps_if (pt_cmpR op_eq (pv 3) pe_int (nomark _))
          (pss_one (ps_set (i := 4) scWLane.nd rfl (Or.inl rfl) (pe_op op_catT (pv 4) (pe_tup (pa_cons (pe_call GN hrN (by rfl) DN.g DN.F.kp DN.b .nil pass0 (pa_cons (pv 0) pa_nil)) (pa_cons (pe_call GN hrN (by rfl) DN.g DN.F.kp DN.b .nil pass0 (pa_cons (pv 0) pa_nil)) pa_nil))))))
          pss_nil)
        (pss_cons (ps_for PassesOwn.never rfl (pi_range1 (by rfl) T.range (pa_cons (pe_ix ix_list (pe_lst (pa_cons pe_int (pa_cons pe_int (pa_cons pe_int (pa_cons pe_int (pa_cons pe_int (pa_cons pe_int pa_nil))))))) (pv 3) (fun _ _ => rfl)) pa_nil)) (pg_name (i := 5) scWLane.nd rfl (Or.inl rfl))
          (pss_one (ps_set (i := 4) scWLane.nd rfl (Or.inl rfl) (pe_op op_catT (pv 4) (pe_tup (pa_cons (pe_call GE hrE (by rfl) DE.g DE.F.kp DE.b .nil pass0 (pa_cons (pv 0) pa_nil)) pa_nil))))))
        (pss_cons (ps_set (i := 6) scWLane.nd rfl (Or.inl rfl) (pe_call GN hrN (by rfl) DN.g DN.F.kp DN.b .nil pass0 (pa_cons (pv 0) pa_nil)))
        (pss_cons (ps_set (i := 7) scWLane.nd rfl (Or.inl rfl) (pe_lst pa_nil))
        (pss_cons (ps_for PassesOwn.never rfl (pi_range1 (by rfl) T.range (pa_cons (pe_call GD hrD (by rfl) DD.g DD.F.kp DD.b .nil pass0 (pa_cons (pv 0) (pa_cons pe_int pa_nil))) pa_nil)) (pg_name (i := 5) scWLane.nd rfl (Or.inl rfl))
          (pss_one (ps_expr (pe_bm PySem.F.plainAttrs_list PySem.F.slot_list_append PySem.F.type_list_append mt_append (pv 7) (pa_cons (pe_tup (pa_cons (pe_call GN hrN (by rfl) DN.g DN.F.kp DN.b .nil pass0 (pa_cons (pv 0) pa_nil)) (pa_cons (pe_call GN hrN (by rfl) DN.g DN.F.kp DN.b .nil pass0 (pa_cons (pv 0) pa_nil)) (pa_cons (pe_call GF hrF (by rfl) DF.g DF.F.kp DF.b .nil pass0 (pa_cons (pv 0) pa_nil)) pa_nil)))) pa_nil)))))
        (pss_one (ps_expr (pe_bm PySem.F.plainAttrs_list PySem.F.slot_list_append PySem.F.type_list_append mt_append (pv 1) (pa_cons (pe_tup (pa_cons (pv 6) (pa_cons (pv 7) (pa_cons (pv 4) pa_nil)))) pa_nil))))))))))))
      (pss_one (ps_ret (pv 1))))), ?_⟩
    refine ⟨Nat.zero_le _, fun g hg => ?_⟩
    have gn := hb.ne hg
    have hb0 := hb.upd (o := .lst []) hg
    have k0 : Keep H (upd H g (.lst [])) := (Same.nw hg).keep
    have fg : Fresh H g := (Keep.refl H).fresh hg
    refine ⟨_, rfl, b, l, 5, rfl, hb0, by decide, by decide, fun n H1 n0 n5 hb1 k1 => ⟨_, _, rfl, rfl, 1 + n, rfl, by omega, by omega, ?_⟩⟩
    refine for_range (fun i σ H' => ∃ v2 v3 v4 v5 v6 v7 vs L, σ = [some (.ref b), some (.ref g), v2, v3, v4, v5, v6, v7] ∧ BagAt H' b l ∧ Keep H H' ∧ H' g = some (.lst vs) ∧ AllRef vs ∧ Reps (fun x => x ≠ g) H' vs (L.map standD) ∧ L.length = i ∧ ∀ s ∈ L, StandSm s)
      ⟨none, none, none, none, none, none, [], [], rfl, hb1, k0.trans k1, k1 _ _ upd_same rfl, (fun _ q => nomatch q), .nil, rfl, fun _ q => nomatch q⟩ ?_ ?_
    · rintro i σ H2 hi ⟨v2, v3, v4, v5, v6, v7, vs, L, rfl, hb2, k2, hg2, al, rp, hl, hs⟩
      refine ⟨_, rfl, b, l, 6, rfl, hb2, by decide, by decide, fun q H3 q0 q6 hb3 k3 => ?_⟩
      obtain ⟨wd, e, hw, he, hk, he2, hw5⟩ := pick6 q0 q6
      refine ⟨by show 6 ≤ sizeLine; decide, fun x hx => ⟨_, rfl, x, _, q, _, rfl, rfl, SqL.of upd_same, hw, by show 1 ≤ sizeLine; decide, fun d hd => ?_⟩⟩
      have s3 : Same H3 (upd (upd H3 x (.lst [V.str "go", .str "test", .str "tell", .str "take", .str "hold", .str "leave"])) d (.tup [.str wd])) := (Same.nw hx).up hd
      dsimp only [gName]
      refine joint_if (fun σ H' => ∃ (d : Addr) (ns : List Int), σ = [some (.ref b), some (.ref g), some (.int ((0 : Int) + i)), some (.int q), some (.ref d), v5, v6, v7] ∧ BagAt H' b l ∧ Keep H2 H' ∧ H' d = some (.tup (.str wd :: ns.map V.int)) ∧ ns.length = (if q = 4 then 2 else 0) ∧ ∀ n ∈ ns, n.natAbs < 10 ^ 60) (fun kk hkk => ?_) ?_
      · refine ⟨_, rfl, rfl, _, rfl, ?_⟩
        by_cases c : q = 4
        · rw [decide_eq_true (by rw [c] : V.int q = V.int 4)]
          refine iteT ?_
          refine ⟨_, rfl, _, rfl, b, l, rfl, (hb3.upd hx).upd hd, fun n1 H4 z1 hb4 k4 => ⟨_, rfl, b, l, rfl, hb4, fun n2 H5 z2 hb5 k5 => ⟨by show 2 ≤ sizeLine; decide, fun y hy => ?_⟩⟩⟩
          have k45 := k4.trans k5
          refine ⟨d, y, _, _, rfl, rfl, SqT.of (Same.nw hy _ _ (k45 _ _ upd_same rfl)), SqT.of upd_same, (by simp), (by show 1 + 2 ≤ sizeLine; decide), (fun e => by cases e), fun _ p hp => ?_⟩
          refine hkk _ _ ⟨p, [n1, n2], rfl, (hb5.upd hy).upd hp, ((k3.trans s3.keep).trans k45).trans ((Same.nw hy).up hp).keep, upd_same, by rw [if_pos c]; rfl, fun n hn => ?_⟩
          rcases List.mem_cons.mp hn with rfl | hn
          · exact z1
          · rw [List.mem_singleton.mp hn]
            exact z2
        · rw [decide_eq_false (fun z => c (V.int.inj z) : ¬ V.int q = V.int 4)]
          refine iteF ?_
          exact hkk _ _ ⟨d, [], rfl, (hb3.upd hx).upd hd, k3.trans s3.keep, upd_same, by rw [if_neg c]; rfl, fun _ z => nomatch z⟩
      rintro _ H4 ⟨d, ns, rfl, hb4, k4, hd4, hnl, hns⟩
      rw [← hnl] at hk
      have hn2 : ns.length ≤ 2 := by
        rw [hnl]
        split <;> decide
      refine ⟨by show 6 ≤ sizeLine; decide, fun y hy => ⟨_, rfl, y, _, q, _, rfl, rfl, SqL.of upd_same, he, e, rfl, by omega, by omega, ?_⟩⟩
      refine for_range (fun j σ H' => ∃ v5 d us es, σ = [some (.ref b), some (.ref g), some (.int ((0 : Int) + i)), some (.int q), some (.ref d), v5, v6, v7] ∧ BagAt H' b l ∧ Keep H2 H' ∧ H' d = some (.tup ((.str wd :: ns.map V.int) ++ us)) ∧ Reps Non H' us (es.map edgeD) ∧ es.length = j ∧ ∀ x ∈ es, EdgeSm x)
        ⟨v5, d, [], [], rfl, hb4.upd hy, k4.trans (Same.nw hy).keep, by rw [List.append_nil]; exact Same.nw hy _ _ hd4, .nil, rfl, fun _ z => nomatch z⟩ ?_ ?_
      · rintro j _ H5 hj ⟨v5, d, us, es, rfl, hb5, k5, hd5, re, hel, hes⟩
        refine ⟨_, rfl, _, rfl, b, l, rfl, hb5, fun ed p H6 z hb6 k6 rv => ⟨by show 1 ≤ sizeLine; decide, fun t ht => ?_⟩⟩
        have k56 := k6.trans (Same.nw (o := .tup [.ref p]) ht).keep
        have hlen := re.length
        rw [List.length_map] at hlen
        refine ⟨d, t, _, _, rfl, rfl, SqT.of (k56 _ _ hd5 rfl), SqT.of upd_same, (by simp), ?_, (fun e => by cases e), fun _ u hu => ?_⟩
        · rw [List.length_append, List.length_cons, List.length_map, line_eq]
          simp only [List.length_cons, List.length_nil]
          omega
        have k5u := k56.trans (Same.nw (o := .tup ((.str wd :: ns.map V.int) ++ us ++ [.ref p])) hu).keep
        refine ⟨_, u, us ++ [.ref p], es ++ [ed], rfl, (hb6.upd ht).upd hu, k5.trans k5u, by rw [upd_same, List.append_assoc], ?_, by rw [List.length_append, hel]; rfl, fun x hx => ?_⟩
        · rw [List.map_append]
          exact (re.keep k5u).snoc (rv.keep ((Same.nw ht).up hu).keep)
        · rcases List.mem_append.mp hx with z' | z'
          · exact hes x z'
          · rw [List.mem_singleton.mp z']
            exact z
      · rintro _ H5 ⟨v5, d, us, es, rfl, hb5, k5, hd5, re, hel, hes⟩
        refine ⟨_, rfl, b, l, rfl, hb5, fun m H6 zm hb6 k6 => ⟨Nat.zero_le _, fun p hp => ?_⟩⟩
        have pn := hb6.ne hp
        have k56 := k6.trans (Same.nw (o := .lst []) hp).keep
        have fp2 : Fresh H2 p := (k5.trans k6).fresh hp
        have dp : d ≠ p := ne_of_none (k6 _ _ hd5 rfl) hp
        refine ⟨_, rfl, b, l, 5, rfl, hb6.upd hp, by decide, by decide, fun x H7 x0 x5 hb7 k7 => ⟨x, rfl, by omega, by omega, ?_⟩⟩
        have k57 := k56.trans k7
        have fp5 : Fresh H5 p := k6.fresh hp
        refine for_range (fun j σ H' => ∃ v5 ws fs, σ = [some (.ref b), some (.ref g), some (.int ((0 : Int) + i)), some (.int q), some (.ref d), v5, some (.int m), some (.ref p)] ∧ BagAt H' b l ∧ Keep H5 H' ∧ H' p = some (.lst ws) ∧ AllRef ws ∧ Reps Non H' ws (fs.map frameD) ∧ fs.length = j ∧ ∀ x ∈ fs, FrameSm x)
          ⟨v5, [], [], rfl, hb7, k57, k7 _ _ upd_same rfl, (fun _ z => nomatch z), .nil, rfl, fun _ z => nomatch z⟩ ?_ ?_
        · rintro j _ H8 hj ⟨v5, ws, fs, rfl, hb8, k8, hp8, alw, rw8, hfl, hfs⟩
          refine ⟨_, rfl, .inl ⟨rfl, _, SqL.of hp8⟩, _, rfl, b, l, rfl, hb8, fun n1 H9 z1 hb9 k9 => ⟨_, rfl, b, l, rfl, hb9, fun n2 H10 z2 hb10 k10 => ⟨_, rfl, b, l, rfl, hb10, fun gs t H11 hgl hgs hb11 k11 rt => ⟨by show 3 ≤ sizeLine; decide, fun u hu => ?_⟩⟩⟩⟩
          have k8u := ((k9.trans k10).trans k11).trans (Same.nw (o := .tup [.int n1, .int n2, .ref t]) hu).keep
          have hpu := k8u _ _ hp8 (bagLike_refs alw)
          have hlen := rw8.length
          rw [List.length_map] at hlen
          refine ⟨p, ws, _, rfl, rfl, hpu, by rw [line_eq]; omega, ?_⟩
          refine ⟨_, ws ++ [.ref u], fs ++ [⟨n1, n2, gs⟩], rfl, (hb11.upd hu).wr pn, (k8.trans k8u).wr fp5, upd_same, alw.snoc, ?_, by rw [List.length_append, hfl]; rfl, fun x hx => ?_⟩
          · rw [List.map_append]
            refine ((rw8.keep k8u).wr hpu fun _ z => z.elim).snoc (Rep.wr ?_ hpu fun _ z => z.elim)
            exact .tup upd_same (.cons (.int _) (.cons (.int _) (.cons (rt.same (Same.nw hu)) .nil)))
          · rcases List.mem_append.mp hx with z' | z'
            · exact hfs x z'
            · rw [List.mem_singleton.mp z']
              exact frame_sm z1 z2 hgs hgl
        · rintro _ H8 ⟨v5, ws, fs, rfl, hb8, k8, hp8, alw, rw8, hfl, hfs⟩
          have k28 := k5.trans k8
          have hg8 := k28 _ _ hg2 (bagLike_refs al)
          refine ⟨_, rfl, .inl ⟨rfl, _, SqL.of hg8⟩, _, rfl, _, rfl, _, rfl, by show 3 ≤ sizeLine; decide, fun t ht => ?_⟩
          have st : Same H8 (upd H8 t (.tup [.int m, .ref p, .ref d])) := Same.nw ht
          have hlen := rp.length
          rw [List.length_map] at hlen
          refine ⟨g, vs, _, rfl, rfl, st _ _ hg8, by rw [line_eq]; omega, ?_⟩
          refine ⟨_, _, _, _, _, _, vs ++ [.ref t], L ++ [⟨m, fs, ⟨wd, ns, es⟩⟩], rfl, (hb8.upd ht).wr gn, ((k2.trans k28).trans st.keep).wr fg, upd_same, al.snoc, ?_, by rw [List.length_append, hl]; rfl, fun x hx => ?_⟩
          · rw [List.map_append]
            refine ((rp.keep (k28.trans st.keep)).wr (st _ _ hg8) fun _ z => z).snoc (Rep.wr ?_ (st _ _ hg8) fun _ z => z)
            have gp : p ≠ g := (ne_of_none (k5.trans k6 |>.trans (Keep.refl _) |> fun z => z _ _ hg2 (bagLike_refs al)) hp).symm
            refine .tup upd_same (.cons (.int _) (.cons (.lst gp (st _ _ hp8) alw ((rw8.same st).weak fun _ z => z.elim)) (.cons (.tup (st _ _ (k8 _ _ hd5 rfl)) ?_) .nil)))
            refine .cons (.str wd) ((Reps.ints ns).append (((re.keep k8).same st).weak fun _ z => z.elim))
          · rcases List.mem_append.mp hx with z' | z'
            · exact hs x z'
            · rw [List.mem_singleton.mp z']
              have hel : es.length = e := hel
              rw [← hel] at hk he2
              exact stand_sm zm hfs (by omega) hk hw5 hns hn2 hes he2
    · rintro σ H2 ⟨v2, v3, v4, v5, v6, v7, vs, L, rfl, hb2, k2, hg2, al, rp, hl, hs⟩
      refine ⟨_, rfl, k L g _ (fun e => ?_) (by omega) hs hb2 k2 (.lst trivial hg2 al (rp.weak fun _ _ => trivial))⟩
      rw [e] at hl
      have : (0 : Nat) = (1 + n).toNat := hl
      omega
end
end Ln
end
section
namespace Ln
open PySem L2 TL HT
theorem join_snoc (y x : Str) : ∀ {ps : List Str}, ps ≠ [] → Str.join y (ps ++ [x]) = Str.join y ps ++ y ++ x
  | [], h => absurd rfl h
  | [a], _ => rfl
  | a :: z :: r, _ => by
    show a ++ y ++ Str.join y ((z :: r) ++ [x]) = (a ++ y ++ Str.join y (z :: r)) ++ y ++ x
    rw [join_snoc y x (ps := z :: r) (by simp), app_assoc, app_assoc, app_assoc, app_assoc, app_assoc]
theorem join_pre {y : Str} {ps qs : List Str} (h : ps ≠ []) : (Str.join y ps).length ≤ (Str.join y (ps ++ qs)).length := by
  have e1 := join_len y h
  have e2 := join_len y (ps := ps ++ qs) (by simp [h])
  rw [List.map_append, List.sum_append, List.length_append, Nat.add_mul] at e2
  omega
/-- the pairs, each with a ; ahead -/
def semi (p : Pair) : Str := sSemi ++ num p.1 ++ sColon ++ num p.2
theorem semi_eq (p : Pair) : semi p = sSemi ++ pairText p := by
  unfold semi pairText
  rw [app_assoc, app_assoc, app_assoc]
theorem empty_app (x : Str) : ("" : Str) ++ x = x := ext_tl (by rw [tl_append]; rfl)
theorem app_empty (x : Str) : x ++ ("" : Str) = x := ext_tl (by rw [tl_append, show tl ("" : Str) = [] from rfl, List.append_nil])
theorem semis (x : Str) (ps : List Pair) : x ++ Str.join "" (ps.map semi) = Str.join sSemi (x :: ps.map pairText) := by
  induction ps generalizing x with
  | nil => exact app_empty x
  | cons p r ih =>
    rw [List.map_cons, List.map_cons]
    show _ = x ++ sSemi ++ Str.join sSemi (pairText p :: r.map pairText)
    rw [← ih (pairText p), semi_eq]
    cases r with
    | nil =>
      show x ++ (sSemi ++ pairText p) = x ++ sSemi ++ (pairText p ++ "")
      rw [app_empty, app_assoc]
    | cons q r =>
      show x ++ (sSemi ++ pairText p ++ "" ++ Str.join "" ((q :: r).map semi)) = _
      rw [app_empty, app_assoc, app_assoc]
def spFormW : Sp := fun vs H Q _ => ∃ (v : V) (f : Form), vs = [v] ∧ Rep Any H v (formD f) ∧ FormOk f ∧ (formText f).length ≤ B ∧ ∀ H', Same H H' → Q (.str (formText f)) H'
section
variable {P : Program} {w : World} {K : PySem.W.Frag} {mg : Str → Option Value} {base : Heap} {C : Addr}
abbrev nFormW : List Str := ["form", "a", "w"]
theorem scFormW : FnScope nFormW ["form"] (defScope sFormW) := ⟨rfl, rfl, rfl, by decide +kernel, rfl, by decide +kernel, by decide +kernel⟩
theorem ok_formW {f : Addr} {fd : FuncData} (T : Txt K mg C) (D : Df K mg "_law_form_written" sFormW ["form"] f fd) : FnOk P w K mg base CX0 2 f fd ["form"] spFormW := by
  refine D.F.ok scFormW (fun vs H Q E h => ?_) (fun cdv A outer s H vs Q E hr h => ?_)
  · obtain ⟨v, fm, rfl, _⟩ := h
    rfl
  · obtain ⟨v, fm, rfl, hv, hf, hB, k⟩ := h
    obtain ⟨a, p, ws, rfl, ha, hp, rp⟩ := rep_form hv
    have lc : sColon.length = 1 := len_colon
    have ls : sSemi.length = 1 := len_semi
    refine ⟨_, (pss_one (ps_ret (pe_op op_add_str (pe_callTy call_str_int (by rfl) T.str (by decide +kernel) (pa_cons (pe_ix ix_tup (pv 0) pe_int (fun _ _ => rfl)) pa_nil)) (pe_join pe_str (pe_lc (own := [("a", 1), ("w", 2)]) (g := (gTup K 2 (gCons (gName 1) (gCons (gName 2) gNil)))) (tt := tYes) (by rfl) scFormW.nd (pi_tup (pe_ix ix_tup (pv 0) pe_int (fun _ _ => rfl))) (blkOk_by (N := nFormW) (sc := defScope sFormW) (by decide +kernel)) (fun _ _ _ _ _ => (pg_tup rfl (pgs_cons (pg_name (i := 1) scFormW.nd rfl (Or.inl rfl)) (pgs_cons (pg_name (i := 2) scFormW.nd rfl (Or.inl rfl)) pgs_nil)))) (fun _ _ _ _ _ => pts_nil) (fun _ _ _ _ _ => (pe_op op_add_str (pe_op op_add_str (pe_op op_add_str pe_str (pe_callTy call_str_int (by rfl) T.str (by decide +kernel) (pa_cons (pv 1) pa_nil))) pe_str) (pe_callTy call_str_int (by rfl) T.str (by decide +kernel) (pa_cons (pv 2) pa_nil))))))))), ?_⟩
    refine ⟨_, rfl, a, _, 0, _, rfl, rfl, SqT.of ha, rfl, _, rfl, numOk_log hf.1, ⟨_, rfl⟩, ?_⟩
    refine ⟨_, rfl, a, _, 1, _, rfl, rfl, SqT.of ha, rfl, p, rfl, ⟨_, SqT.of hp⟩, fun L hL => ?_⟩
    have s2 : Same H (upd H L (.lst [])) := Same.nw hL
    refine lc_tup (K := K) (a := p) (xs := ws) (fun i H' => Same H H' ∧ H' L = some (.lst ((fm.2.take i).map fun q => V.str (semi q))))
      ⟨s2, upd_same⟩ (fun i H' _ z => SqT.of (z.1 _ _ hp)) ?_ ?_
    · rintro i x H' hi ⟨s3, hL3⟩
      obtain ⟨d, hd, rx⟩ := rp.get hi
      obtain ⟨q, hq, rfl⟩ := map_get hd
      obtain ⟨t, rfl, ht⟩ := rep_pair rx
      have hok := hf.2 q (List.mem_of_getElem? hq)
      refine ⟨t, _, rfl, SqT.of (s3 _ _ ht), rfl, _, _, rfl, _, _, rfl, rfl, rfl, ?_⟩
      have n1 := num_short hok.1
      have n2 := num_short hok.2
      refine ⟨_, rfl, _, rfl, numOk_log hok.1, _, _, rfl, rfl, ?_, _, _, rfl, rfl, ?_, _, rfl, _, rfl, numOk_log hok.2, _, _, rfl, rfl, ?_, _, hL3, ?_, s3.wr hL, ?_⟩
      · show sSemi.length + (num q.1).length ≤ sizeLine
        rw [line_eq]
        omega
      · show (sSemi ++ num q.1).length + sColon.length ≤ sizeLine
        rw [line_eq, len_app]
        omega
      · show (sSemi ++ num q.1 ++ sColon).length + (num q.2).length ≤ sizeLine
        rw [line_eq, len_app, len_app]
        omega
      · rw [List.length_map, line_eq]
        have := pairs_le hB
        have : B = 1048576 := rfl
        have := take_le (l := fm.2) (i := i)
        omega
      · rw [upd_same, take_map hq]
        rfl
    · rintro H' ⟨s3, hL3⟩
      have hn : ws.length = fm.2.length := by rw [rp.length, List.length_map]
      have e := semis (num fm.1) fm.2
      have e2 : (formText fm).length = (num fm.1).length + (Str.join "" (fm.2.map semi)).length := by
        rw [← len_app, e]
        rfl
      refine ⟨("" : Str), L, fm.2.map semi, rfl, rfl, .inl (SqL.of ?_), ?_, ?_⟩
      · rw [hL3, hn, List.take_length, List.map_map]
        rfl
      · cases hm : fm.2.map semi with
        | nil => exact Nat.zero_le _
        | cons x r =>
          rw [← hm, join_len "" (by rw [hm]; simp)]
          have : B = 1048576 := rfl
          have : ("" : Str).length = 0 := rfl
          omega
      · rw [join_eq]
        refine ⟨_, _, rfl, rfl, ?_, ?_⟩
        · show (num fm.1).length + (Str.join "" (fm.2.map semi)).length ≤ sizeLine
          rw [line_eq]
          have : B = 1048576 := rfl
          omega
        · show Q (.str (num fm.1 ++ Str.join "" (fm.2.map semi))) _
          rw [e]
          exact k _ s3
/-- the words, so far -/
def sofar (wd : Str) (a b : Int) (fs : List Form) (m : Nat) : Str := Str.join sBlank (wd :: num a :: num b :: (fs.take m).map formText)
theorem sofar_succ {wd : Str} {a b : Int} {fs : List Form} {m : Nat} {f : Form} (h : fs[m]? = some f) : sofar wd a b fs (m + 1) = sofar wd a b fs m ++ sBlank ++ formText f := by
  unfold sofar
  rw [take_map h]
  exact join_snoc sBlank (formText f) (ps := wd :: num a :: num b :: (fs.take m).map formText) (by simp)
theorem sofar_le {wd : Str} {a b : Int} {fs : List Form} {m : Nat} : (sofar wd a b fs m).length ≤ (Str.join sBlank (wd :: num a :: num b :: fs.map formText)).length := by
  have e : wd :: num a :: num b :: fs.map formText = (wd :: num a :: num b :: (fs.take m).map formText) ++ (fs.drop m).map formText := by
    rw [List.cons_append, List.cons_append, List.cons_append, ← List.map_append, List.take_append_drop]
  rw [e]
  exact join_pre (by simp)
theorem sofar_all {wd : Str} {a b : Int} {fs : List Form} {m : Nat} (h : fs.length ≤ m) : sofar wd a b fs m = Str.join sBlank (wd :: num a :: num b :: fs.map formText) := by
  unfold sofar
  rw [List.take_of_length_le h]
theorem head3 {x wd : Str} (h : x = wd ++ sBlank) (a b : Int) (fs : List Form) : x ++ num a ++ sBlank ++ num b = sofar wd a b fs 0 := by
  show _ = wd ++ sBlank ++ (num a ++ sBlank ++ num b)
  rw [h, app_assoc, app_assoc, app_assoc, app_assoc, app_assoc]
theorem ix_last (xs : List V) (v : V) : ixN (xs ++ [v]).length (-1) = some xs.length := by
  unfold ixN
  rw [if_neg (by omega), List.length_append, if_pos (by simp only [List.length_cons, List.length_nil]; omega)]
  simp only [List.length_cons, List.length_nil]
  congr 1
  omega
theorem set_last (xs : List V) (v u : V) : (xs ++ [v]).set xs.length u = xs ++ [u] := by simp
theorem strs_snoc (pre : List Str) (x : Str) : (pre ++ [x]).map V.str = pre.map V.str ++ [V.str x] := by rw [List.map_append]; rfl
/-- only the objects -/
def refs : List V → List V
  | [] => []
  | .ref a :: r => .ref a :: refs r
  | _ :: r => refs r
theorem refs_snoc (l : List V) (v : V) : refs (l ++ [v]) = refs l ++ refs [v] := by
  induction l with
  | nil => rfl
  | cons a r ih => cases a <;> simp [refs, ih]
theorem refs_app (l m : List V) : refs (l ++ m) = refs l ++ refs m := by
  induction l with
  | nil => rfl
  | cons a r ih => cases a <;> simp [refs, ih]
theorem refs_ints (l : List Int) : refs (l.map V.int) = [] := by
  induction l with
  | nil => rfl
  | cons a r ih => exact ih
theorem refs_le (l : List V) : (refs l).length ≤ l.length := by
  induction l with
  | nil => exact Nat.le_refl _
  | cons a r ih =>
    cases a with
    | ref a => exact Nat.succ_le_succ ih
    | _ => exact Nat.le_succ_of_le ih
theorem refs_all {l : List V} (h : AllRef l) : refs l = l := by
  induction l with
  | nil => rfl
  | cons a r ih =>
    obtain ⟨x, rfl⟩ := h a List.mem_cons_self
    show V.ref x :: refs r = _
    rw [ih fun v hv => h v (List.mem_cons_of_mem _ hv)]
theorem reps_app {N : Addr → Prop} {H : Hp} : ∀ {ds es : List Dt} {vs : List V}, Reps N H vs (ds ++ es) → ∃ us ws, vs = us ++ ws ∧ Reps N H us ds ∧ Reps N H ws es
  | [], _, vs, r => ⟨[], vs, rfl, .nil, r⟩
  | d :: ds, es, vs, r => by
    obtain ⟨v, ws, rfl, h, r⟩ := Reps.consI r
    obtain ⟨us, xs, rfl, r1, r2⟩ := reps_app r
    exact ⟨v :: us, xs, rfl, .cons h r1, r2⟩
theorem edges_tups (es : List Edge) : ∀ d ∈ es.map edgeD, ∃ xs, d = Dt.tup xs := fun d hd => by
  obtain ⟨e, _, rfl⟩ := List.mem_map.mp hd
  exact ⟨_, rfl⟩
theorem deed_part {dd : Deed} {d : Dt} (h : d ∈ deedDs dd) : (∃ s, d = .str s) ∨ (∃ n, d = .int n) ∨ ∃ e, d = edgeD e := by
  rcases List.mem_cons.mp h with h | h
  · exact .inl ⟨_, h⟩
  rcases List.mem_append.mp h with h | h
  · obtain ⟨n, _, rfl⟩ := List.mem_map.mp h
    exact .inr (.inl ⟨n, rfl⟩)
  · obtain ⟨e, _, rfl⟩ := List.mem_map.mp h
    exact .inr (.inr ⟨e, rfl⟩)
def spLaneW : Sp := fun vs H Q _ => ∃ (v : V) (L : List Stand), vs = [v] ∧ Rep Any H v (laneD L) ∧ LaneOk L ∧ (laneText L).length ≤ B ∧ ∀ H', Same H H' → Q (.str (laneText L)) H'
abbrev nLaneW : List Str := ["lane", "lines", "many", "paper", "deed", "f", "at", "forms", "form", "rows", "moves", "k", "part"]
theorem scLaneW : FnScope nLaneW ["lane"] (defScope sLaneW) := ⟨rfl, rfl, rfl, by decide +kernel, rfl, by decide +kernel, by decide +kernel⟩
theorem ok_laneW {f fF : Addr} {fd fdF : FuncData} (T : Txt K mg C) (D : Df K mg "_law_lane_written" sLaneW ["lane"] f fd) (DF : Df K mg "_law_form_written" sFormW ["form"] fF fdF) (GF : FnOk P w K mg base CX0 2 fF fdF ["form"] spFormW) :
    FnOk P w K mg base CX0 3 f fd ["lane"] spLaneW := by
  refine D.F.ok scLaneW (fun vs H Q E h => ?_) (fun cdv A outer s H vs Q E hr h => ?_)
  · obtain ⟨v, e, rfl, _⟩ := h
    rfl
  · obtain ⟨v, Ln, rfl, hv, hok, hB, k⟩ := h
    obtain ⟨a, vs, rfl, _, ha, al, rs⟩ := hv.lstI
    obtain ⟨hmany, hlens⟩ := lane_many hok.1 hB
    have hBB : B = 1048576 := rfl
    have lb := len_blank
    refine ⟨_, (pss_cons (ps_set (i := 1) scLaneW.nd rfl (Or.inl rfl) (pe_lst pa_nil))
      (pss_cons (ps_for PassesOwn.never rfl (pi_list (pv 0)) (pg_tup rfl (pgs_cons (pg_name (i := 2) scLaneW.nd rfl (Or.inl rfl)) (pgs_cons (pg_name (i := 3) scLaneW.nd rfl (Or.inl rfl)) (pgs_cons (pg_name (i := 4) scLaneW.nd rfl (Or.inl rfl)) pgs_nil))))
        (pss_cons (ps_expr (pe_bm PySem.F.plainAttrs_list PySem.F.slot_list_append PySem.F.type_list_append mt_append (pv 1) (pa_cons (pe_op op_add_str pe_str (pe_callTy call_str_int (by rfl) T.str (by decide +kernel) (pa_cons (pv 2) pa_nil))) pa_nil)))
        (pss_cons (ps_for PassesOwn.never rfl (pi_list (pv 3)) (pg_tup rfl (pgs_cons (pg_name (i := 5) scLaneW.nd rfl (Or.inl rfl)) (pgs_cons (pg_name (i := 6) scLaneW.nd rfl (Or.inl rfl)) (pgs_cons (pg_name (i := 7) scLaneW.nd rfl (Or.inl rfl)) pgs_nil))))
          (pss_cons (ps_expr (pe_bm PySem.F.plainAttrs_list PySem.F.slot_list_append PySem.F.type_list_append mt_append (pv 1) (pa_cons (pe_op op_add_str (pe_op op_add_str (pe_op op_add_str pe_str (pe_callTy call_str_int (by rfl) T.str (by decide +kernel) (pa_cons (pv 5) pa_nil))) pe_str) (pe_callTy call_str_int (by rfl) T.str (by decide +kernel) (pa_cons (pv 6) pa_nil))) pa_nil)))
          (pss_one (ps_for PassesOwn.never rfl (pi_tup (pv 7)) (pg_name (i := 8) scLaneW.nd rfl (Or.inl rfl))
            (pss_one (ps_asg (pe_op op_add_str (pe_op op_add_str (pe_ix ix_list (pv 1) (pe_un un_neg pe_int) (fun _ _ => rfl)) pe_str) (pe_call GF hr (by rfl) DF.g DF.F.kp DF.b .nil pass0 (pa_cons (pv 8) pa_nil))) (pg_sub (pv 1) (pe_un un_neg pe_int) set_list)))))))
        (pss_cons (ps_expr (pe_bm PySem.F.plainAttrs_list PySem.F.slot_list_append PySem.F.type_list_append mt_append (pv 1) (pa_cons (pe_ix ix_tup (pv 4) pe_int (fun _ _ => rfl)) pa_nil)))
        (pss_cons (ps_if (pt_cmpR op_eq (pe_ix ix_tup (pv 4) pe_int (fun _ _ => rfl)) pe_str (nomark _))
          (pss_one (ps_asg (pe_op op_add_str (pe_op op_add_str (pe_op op_add_str (pe_op op_add_str (pe_ix ix_list (pv 1) (pe_un un_neg pe_int) (fun _ _ => rfl)) pe_str) (pe_callTy call_str_int (by rfl) T.str (by decide +kernel) (pa_cons (pe_ix ix_tup (pv 4) pe_int (fun _ _ => rfl)) pa_nil))) pe_str) (pe_callTy call_str_int (by rfl) T.str (by decide +kernel) (pa_cons (pe_ix ix_tup (pv 4) pe_int (fun _ _ => rfl)) pa_nil))) (pg_sub (pv 1) (pe_un un_neg pe_int) set_list)))
          pss_nil)
        (pss_one (ps_for PassesOwn.never rfl (pi_list (pe_lc (own := [("part", 12)]) (g := (gName 12)) (tt := (tTest (tCB (rIsi K) (tCons (tVar 12) (tCons (tC (.ty "tuple")) tNil))))) (by rfl) scLaneW.nd (pi_tup (pv 4)) (blkOk_by (N := nLaneW) (sc := defScope sLaneW) (by decide +kernel)) (fun _ _ _ _ _ => (pg_name (i := 12) scLaneW.nd rfl (Or.inl rfl))) (fun _ _ _ _ _ => pts_one (pt_val (pe_callB call_isi (by rfl) T.isi (by decide +kernel) (pa_cons (pv 12) (pa_cons (pe_bltn (v := .ty "tuple") (by rfl) T.tuple (by decide +kernel) rfl) pa_nil))))) (fun _ _ _ _ _ => (pv 12)))) (pg_tup rfl (pgs_cons (pg_name (i := 9) scLaneW.nd rfl (Or.inl rfl)) (pgs_cons (pg_name (i := 10) scLaneW.nd rfl (Or.inl rfl)) (pgs_cons (pg_name (i := 11) scLaneW.nd rfl (Or.inl rfl)) pgs_nil))))
          (pss_cons (ps_expr (pe_bm PySem.F.plainAttrs_list PySem.F.slot_list_append PySem.F.type_list_append mt_append (pv 1) (pa_cons (pe_op op_add_str (pe_op op_add_str (pe_op op_add_str pe_str (pe_callTy call_str_int (by rfl) T.str (by decide +kernel) (pa_cons (pv 9) pa_nil))) pe_str) (pe_callTy call_str_int (by rfl) T.str (by decide +kernel) (pa_cons (pv 11) pa_nil))) pa_nil)))
          (pss_one (ps_for PassesOwn.never rfl (pi_tup (pv 10)) (pg_name (i := 8) scLaneW.nd rfl (Or.inl rfl))
            (pss_one (ps_asg (pe_op op_add_str (pe_op op_add_str (pe_ix ix_list (pv 1) (pe_un un_neg pe_int) (fun _ _ => rfl)) pe_str) (pe_call GF hr (by rfl) DF.g DF.F.kp DF.b .nil pass0 (pa_cons (pv 8) pa_nil))) (pg_sub (pv 1) (pe_un un_neg pe_int) set_list)))))))))))))
      (pss_one (ps_ret (pe_join pe_str (pv 1)))))), ?_⟩
    refine ⟨Nat.zero_le _, fun g hg => ?_⟩
    have s1 : Same H (upd H g (.lst [])) := Same.nw hg
    refine ⟨_, rfl, a, rfl, ⟨_, SqL.of (s1 _ _ ha)⟩, for_list (K := K) (a := a) (xs := vs) (fun i σ H' => ∃ v2 v3 v4 v5 v6 v7 v8 v9 v10 v11 v12, σ = [some (.ref a), some (.ref g), v2, v3, v4, v5, v6, v7, v8, v9, v10, v11, v12] ∧ Same H H' ∧ H' g = some (.lst ((laneLines (Ln.take i)).map V.str)))
      ⟨none, none, none, none, none, none, none, none, none, none, none, rfl, s1, upd_same⟩ (fun i σ H' _ ⟨_, _, _, _, _, _, _, _, _, _, _, _, s2, _⟩ => SqL.of (s2 _ _ ha)) ?_ ?_⟩
    · rintro i x σ H2 hi ⟨v2, v3, v4, v5, v6, v7, v8, v9, v10, v11, v12, rfl, s2, hg2⟩
      obtain ⟨d, hd, rx⟩ := rs.get hi
      obtain ⟨st, hst, rfl⟩ := map_get hd
      have hmem := List.mem_of_getElem? hst
      have hso := hok.2 st hmem
      have hl1 := stand_part hmem
      have hl2 := laneLines_part (L := Ln) (i := i)
      have hl3 := standLines_len st
      have hln : ∀ l ∈ standLines st, l.length ≤ B := fun l hl => hlens l (lines_in hmem hl)
      obtain ⟨ta, pa, da, ws, us, rfl, hta, _, hpa, alw, rw_, hda, rd⟩ := rep_stand rx
      refine ⟨ta, _, rfl, SqT.of (s2 _ _ hta), rfl, _, _, rfl, _, _, rfl, _, _, rfl, rfl, ?_⟩
      have n1 := num_short hso.1
      have lst : ("stand " : Str).length = 6 := by decide +kernel
      refine ⟨_, rfl, .inl ⟨rfl, _, SqL.of hg2⟩, _, rfl, _, rfl, numOk_log hso.1, _, _, rfl, rfl, (by show ("stand " : Str).length + (num st.many).length ≤ sizeLine; rw [line_eq]; omega), g, _, _, rfl, rfl, hg2, (by rw [List.length_map, line_eq]; omega), ?_⟩
      have s3 := s2.wr (o := .lst ((laneLines (Ln.take i)).map V.str ++ [.str (("stand " : Str) ++ num st.many)])) hg
      have e3 : upd H2 g (.lst ((laneLines (Ln.take i)).map V.str ++ [.str (("stand " : Str) ++ num st.many)])) g = some (.lst ((laneLines (Ln.take i) ++ [Str.join sBlank [("stand" : Str), num st.many]]).map V.str)) := by
        rw [upd_same, strs_snoc, stand_head]
      refine ⟨_, rfl, pa, rfl, ⟨_, SqL.of (s3 _ _ hpa)⟩, for_list (K := K) (a := pa) (xs := ws) (fun j σ H' => ∃ v5 v6 v7 v8, σ = [some (.ref a), some (.ref g), some (.int st.many), some (.ref pa), some (.ref da), v5, v6, v7, v8, v9, v10, v11, v12] ∧ Same H H' ∧
          H' g = some (.lst ((laneLines (Ln.take i) ++ Str.join sBlank [("stand" : Str), num st.many] :: (st.paper.take j).map frameText).map V.str)))
        ⟨v5, v6, v7, v8, rfl, s3, e3⟩ (fun j σ H' _ ⟨_, _, _, _, _, s4, _⟩ => SqL.of (s4 _ _ hpa)) ?_ ?_⟩
      · rintro j y _ H4 hj ⟨v5, v6, v7, v8, rfl, s4, hg4⟩
        obtain ⟨dd, hdd, ry⟩ := rw_.get hj
        obtain ⟨fr, hfr, rfl⟩ := map_get hdd
        have hfm := List.mem_of_getElem? hfr
        have hfo := hso.2.1 fr hfm
        obtain ⟨fa, fp, fvs, rfl, hfa, hfp, rfp⟩ := rep_frame ry
        have hBf : (frameText fr).length ≤ B := hln _ (paper_in hfm)
        have hBf' : (Str.join sBlank (("frame" : Str) :: num fr.f :: num fr.at_ :: fr.forms.map formText)).length ≤ B := hBf
        obtain ⟨hm, hfl⟩ := words_le hBf
        have m1 := num_short hfo.1
        have m2 := num_short hfo.2.1
        have lf : ("frame " : Str).length = 6 := by decide +kernel
        have hjl := get_lt hfr
        generalize hpre : laneLines (Ln.take i) ++ Str.join sBlank [("stand" : Str), num st.many] :: (st.paper.take j).map frameText = pre at hg4
        have hpl : pre.length ≤ 4 * B := by
          rw [← hpre, List.length_append, List.length_cons, List.length_map]
          have := take_le (l := st.paper) (i := j)
          omega
        refine ⟨fa, _, rfl, SqT.of (s4 _ _ hfa), rfl, _, _, rfl, _, _, rfl, _, _, rfl, rfl, ?_⟩
        refine ⟨_, rfl, .inl ⟨rfl, _, SqL.of hg4⟩, _, rfl, _, rfl, numOk_log hfo.1, _, _, rfl, rfl, ?_, _, _, rfl, rfl, ?_, _, rfl, _, rfl, numOk_log hfo.2.1, _, _, rfl, rfl, ?_, g, _, _, rfl, rfl, hg4, (by rw [List.length_map, line_eq]; omega), ?_⟩
        · show ("frame " : Str).length + (num fr.f).length ≤ sizeLine
          rw [line_eq]; omega
        · show (("frame " : Str) ++ num fr.f).length + sBlank.length ≤ sizeLine
          rw [line_eq, len_app]; omega
        · show (("frame " : Str) ++ num fr.f ++ sBlank).length + (num fr.at_).length ≤ sizeLine
          rw [line_eq, len_app, len_app]; omega
        have s5 := s4.wr (o := .lst (pre.map V.str ++ [.str (("frame " : Str) ++ num fr.f ++ sBlank ++ num fr.at_)])) hg
        have e5 : upd H4 g (.lst (pre.map V.str ++ [.str (("frame " : Str) ++ num fr.f ++ sBlank ++ num fr.at_)])) g = some (.lst ((pre ++ [sofar "frame" fr.f fr.at_ fr.forms 0]).map V.str)) := by
          rw [upd_same, strs_snoc, head3 (x := "frame ") (wd := "frame") (by decide +kernel) fr.f fr.at_ fr.forms]
        refine ⟨_, rfl, fp, rfl, ⟨_, SqT.of (s5 _ _ hfp)⟩, for_tup (K := K) (a := fp) (xs := fvs) (fun m σ H' => ∃ v8, σ = [some (.ref a), some (.ref g), some (.int st.many), some (.ref pa), some (.ref da), some (.int fr.f), some (.int fr.at_), some (.ref fp), v8, v9, v10, v11, v12] ∧ Same H H' ∧
            H' g = some (.lst ((pre ++ [sofar "frame" fr.f fr.at_ fr.forms m]).map V.str)))
          ⟨v8, rfl, s5, e5⟩ (fun j σ H' _ ⟨_, _, s6, _⟩ => SqT.of (s6 _ _ hfp)) ?_ ?_⟩
        · rintro m z _ H6 hm6 ⟨v8, rfl, s6, hg6⟩
          obtain ⟨d2, hd2, rz⟩ := rfp.get hm6
          obtain ⟨fm, hfm6, rfl⟩ := map_get hd2
          have hzm := List.mem_of_getElem? hfm6
          have q1 := sofar_le (wd := "frame") (a := fr.f) (b := fr.at_) (fs := fr.forms) (m := m)
          have q2 := hfl fm hzm
          refine ⟨_, rfl, _, rfl, g, _, _, V.str (sofar "frame" fr.f fr.at_ fr.forms m), rfl, rfl, SqL.of hg6, by rw [strs_snoc]; exact atI_last _ _, _, _, rfl, rfl, ?_, _, rfl, z, fm, rfl, rz.same s6, hfo.2.2 fm hzm, q2, fun H7 s7 => ⟨_, _, rfl, rfl, ?_, _, rfl, _, rfl, ?_⟩⟩
          · show (sofar "frame" fr.f fr.at_ fr.forms m).length + sBlank.length ≤ sizeLine
            rw [line_eq]; omega
          · show (sofar "frame" fr.f fr.at_ fr.forms m ++ sBlank).length + (formText fm).length ≤ sizeLine
            rw [line_eq, len_app]; omega
          · refine ⟨g, _, _, _, rfl, rfl, s7 _ _ hg6, by rw [strs_snoc]; exact ix_last _ _, ?_⟩
            refine ⟨_, rfl, (s6.trans s7).wr hg, ?_⟩
            rw [upd_same, strs_snoc, set_last, strs_snoc, sofar_succ hfm6]
            rfl
        · rintro _ H6 ⟨v8, rfl, s6, hg6⟩
          refine ⟨_, _, _, _, rfl, s6, ?_⟩
          rw [hg6, sofar_all (by rw [rfp.length, List.length_map]; exact Nat.le_refl _), ← hpre, take_map hfr, List.append_assoc, List.cons_append]
          rfl
      · rintro _ H4 ⟨v5, v6, v7, v8, rfl, s4, hg4⟩
        rw [List.take_of_length_le (l := st.paper) (i := ws.length) (by rw [rw_.length, List.length_map]; exact Nat.le_refl _)] at hg4
        obtain ⟨v0, us, rfl, h0, rq⟩ := rd.consI
        obtain rfl := h0.strI
        have hdk := hso.2.2.1
        generalize hpre : laneLines (Ln.take i) ++ Str.join sBlank [("stand" : Str), num st.many] :: st.paper.map frameText = pre at hg4
        have hpl : pre.length ≤ 4 * B := by
          rw [← hpre, List.length_append, List.length_cons, List.length_map]
          omega
        refine ⟨_, rfl, .inl ⟨rfl, _, SqL.of hg4⟩, _, rfl, da, _, 0, V.str st.deed.word, rfl, rfl, SqT.of (s4 _ _ hda), at_of (j := 0) rfl rfl, g, _, _, rfl, rfl, hg4, (by rw [List.length_map, line_eq]; omega), ?_⟩
        have s5 := s4.wr (o := .lst (pre.map V.str ++ [.str st.deed.word])) hg
        have e5 : upd H4 g (.lst (pre.map V.str ++ [.str st.deed.word])) g = some (.lst ((pre ++ [st.deed.word]).map V.str)) := by rw [upd_same, strs_snoc]
        dsimp only
        refine joint_if (fun σ H' => σ = [some (.ref a), some (.ref g), some (.int st.many), some (.ref pa), some (.ref da), v5, v6, v7, v8, v9, v10, v11, v12] ∧ Same H H' ∧ H' g = some (.lst ((pre ++ [deedText st.deed.word st.deed.nums]).map V.str))) (fun kk hkk => ?_) ?_
        · refine ⟨_, rfl, da, _, 0, V.str st.deed.word, rfl, rfl, SqT.of (s5 _ _ hda), at_of (j := 0) rfl rfl, rfl, _, rfl, ?_⟩
          by_cases hw : st.deed.word = "hold"
          · rw [decide_eq_true (by rw [hw] : V.str st.deed.word = V.str "hold")]
            refine iteT ?_
            obtain ⟨e1, e2⟩ := Prod.mk.inj (kind_hold_word hdk hw)
            obtain ⟨n1, n2, hns⟩ : ∃ n1 n2, st.deed.nums = [n1, n2] := two_of e1
            have hda' := hda
            rw [hns] at rq
            obtain ⟨v1, us1, rfl, h1, rq1⟩ := rq.consI
            obtain ⟨v2, us2, rfl, h2, rq2⟩ := rq1.consI
            obtain rfl := h1.intI
            obtain rfl := h2.intI
            have ok1 : NumOk n1 := hso.2.2.2.1 n1 (by rw [hns]; simp)
            have ok2 : NumOk n2 := hso.2.2.2.1 n2 (by rw [hns]; simp)
            have m1 := num_short ok1
            have m2 := num_short ok2
            have lh : st.deed.word.length = 4 := by rw [hw]; decide
            refine ⟨_, rfl, _, rfl, g, _, _, V.str st.deed.word, rfl, rfl, SqL.of e5, by rw [strs_snoc]; exact atI_last _ _, _, _, rfl, rfl, ?_, _, rfl, da, _, 1, _, rfl, rfl, SqT.of (s5 _ _ hda), at_of (j := 1) rfl rfl, _, rfl, numOk_log ok1, _, _, rfl, rfl, ?_, _, _, rfl, rfl, ?_,
              _, rfl, da, _, 2, _, rfl, rfl, SqT.of (s5 _ _ hda), at_of (j := 2) rfl rfl, _, rfl, numOk_log ok2, _, _, rfl, rfl, ?_, _, rfl, _, rfl, ?_⟩
            · show st.deed.word.length + sBlank.length ≤ sizeLine
              rw [line_eq]; omega
            · show (st.deed.word ++ sBlank).length + (num n1).length ≤ sizeLine
              rw [line_eq, len_app]; omega
            · show (st.deed.word ++ sBlank ++ num n1).length + sBlank.length ≤ sizeLine
              rw [line_eq, len_app, len_app]; omega
            · show (st.deed.word ++ sBlank ++ num n1 ++ sBlank).length + (num n2).length ≤ sizeLine
              rw [line_eq, len_app, len_app, len_app]; omega
            refine ⟨g, _, _, _, rfl, rfl, e5, by rw [strs_snoc]; exact ix_last _ _, hkk _ _ ⟨rfl, s5.wr hg, ?_⟩⟩
            rw [upd_same, strs_snoc, set_last, strs_snoc, hns]
            show some (HO.lst (pre.map V.str ++ [V.str (st.deed.word ++ sBlank ++ num n1 ++ sBlank ++ num n2)])) = some (HO.lst (pre.map V.str ++ [V.str (st.deed.word ++ sBlank ++ (num n1 ++ sBlank ++ num n2))]))
            rw [app_assoc, app_assoc, app_assoc, app_assoc, app_assoc]
          · rw [decide_eq_false (fun q => hw (V.str.inj q) : ¬ V.str st.deed.word = V.str "hold")]
            refine iteF ?_
            have hns : st.deed.nums = [] := List.length_eq_zero_iff.mp (kind_other hdk hw)
            exact hkk _ _ ⟨rfl, s5, by rw [e5, hns]; rfl⟩
        rintro _ H6 ⟨rfl, s6, hg6⟩
        obtain ⟨ns, ves, rfl, rns, res⟩ := reps_app rq
        obtain rfl := rns.intsI
        have hde := s6 _ _ hda
        refine ⟨_, rfl, da, rfl, ⟨_, SqT.of hde⟩, fun M hM => ?_⟩
        have s7 := s6.up (o := .lst []) hM
        have gM : g ≠ M := ne_of_none hg6 hM
        have hM0 := s6.free hM
        refine lc_tup (K := K) (a := da) (xs := V.str st.deed.word :: (st.deed.nums.map V.int ++ ves)) (fun j H' => Same H H' ∧ H' g = some (.lst ((pre ++ [deedText st.deed.word st.deed.nums]).map V.str)) ∧ H' M = some (.lst (refs ((V.str st.deed.word :: (st.deed.nums.map V.int ++ ves)).take j))))
          ⟨s7, by rw [upd_ne gM]; exact hg6, upd_same⟩ (fun j H' _ z => SqT.of (z.1 _ _ hda)) ?_ ?_
        · rintro j y H7 hj ⟨s8, hg8, hM8⟩
          obtain ⟨dd, hdd, ry⟩ := rd.get hj
          refine ⟨rfl, _, rfl, ?_⟩
          rcases deed_part (List.mem_of_getElem? hdd) with ⟨z, rfl⟩ | ⟨z, rfl⟩ | ⟨z, rfl⟩
          · obtain rfl := ry.strI
            refine ⟨_, _, _, _, false, rfl, .ty _, .base (.str _), kit_ty (by decide +kernel), _, rfl, iteF ⟨s8, hg8, ?_⟩⟩
            rw [hM8, List.take_add_one, hj, refs_app]
            show _ = some (HO.lst (_ ++ []))
            rw [List.append_nil]
          · obtain rfl := ry.intI
            refine ⟨_, _, _, _, false, rfl, .ty _, .base (.int _), kit_ty (by decide +kernel), _, rfl, iteF ⟨s8, hg8, ?_⟩⟩
            rw [hM8, List.take_add_one, hj, refs_app]
            show _ = some (HO.lst (_ ++ []))
            rw [List.append_nil]
          · obtain ⟨ea, _, _, rfl, hea, _⟩ := rep_edge ry
            refine ⟨_, _, _, _, true, rfl, .ty _, .base (.tup (s8 _ _ hea)), kit_ty (by decide +kernel), _, rfl, iteT ⟨_, rfl, _, hM8, ?_, s8.wr hM0, by rw [upd_ne gM]; exact hg8, ?_⟩⟩
            · have r1 := refs_le ((V.str st.deed.word :: (st.deed.nums.map V.int ++ ves)).take j)
              have r2 := take_le (l := V.str st.deed.word :: (st.deed.nums.map V.int ++ ves)) (i := j)
              have r3 := res.length
              have r4 : st.deed.nums.length ≤ 2 := by rcases kind_cases hdk with ⟨_, q⟩ | ⟨_, q⟩ | ⟨_, q⟩ | ⟨_, q⟩ <;> (have := (Prod.mk.inj q).1; omega)
              rw [List.length_cons, List.length_append, List.length_map] at r2
              rw [List.length_map] at r3
              rw [line_eq]
              omega
            · rw [upd_same, List.take_add_one, hj, refs_app]
              rfl
        · rintro H7 ⟨s8, hg8, hM8⟩
          have eM : refs ((V.str st.deed.word :: (st.deed.nums.map V.int ++ ves)).take (V.str st.deed.word :: (st.deed.nums.map V.int ++ ves)).length) = ves := by
            rw [List.take_length]
            show refs (st.deed.nums.map V.int ++ ves) = ves
            rw [refs_app, refs_ints, refs_all (res.tups (edges_tups _))]
            rfl
          rw [eM] at hM8
          refine ⟨M, rfl, ⟨_, SqL.of hM8⟩, for_list (K := K) (a := M) (xs := ves) (fun j σ H' => ∃ v8 v9 v10 v11 v12, σ = [some (.ref a), some (.ref g), some (.int st.many), some (.ref pa), some (.ref da), v5, v6, v7, v8, v9, v10, v11, v12] ∧ Same H H' ∧ H' M = some (.lst ves) ∧
              H' g = some (.lst ((pre ++ deedText st.deed.word st.deed.nums :: (st.deed.edges.take j).map edgeText).map V.str)))
            ⟨v8, v9, v10, v11, _, rfl, s8, hM8, hg8⟩ (fun j σ H' _ ⟨_, _, _, _, _, _, _, z, _⟩ => SqL.of z) ?_ ?_⟩
          · rintro j y _ H9 hj ⟨v8, v9, v10, v11, v12, rfl, s9, hM9, hg9⟩
            obtain ⟨dd, hdd, ry⟩ := res.get hj
            obtain ⟨ed, hed, rfl⟩ := map_get hdd
            have hem := List.mem_of_getElem? hed
            have heo := hso.2.2.2.2 ed hem
            obtain ⟨ea, ep, evs, rfl, hea, hep, rep⟩ := rep_edge ry
            have hBe : (edgeText ed).length ≤ B := hln _ (edge_in hem)
            obtain ⟨hm, hfl⟩ := words_le hBe
            have m1 := num_short heo.1
            have m2 := num_short heo.2.1
            have le5 : ("edge " : Str).length = 5 := by decide +kernel
            generalize hpre2 : pre ++ deedText st.deed.word st.deed.nums :: (st.deed.edges.take j).map edgeText = pre2 at hg9
            have hpl2 : pre2.length ≤ 8 * B := by
              rw [← hpre2, List.length_append, List.length_cons, List.length_map]
              have := take_le (l := st.deed.edges) (i := j)
              omega
            refine ⟨ea, _, rfl, SqT.of (s9 _ _ hea), rfl, _, _, rfl, _, _, rfl, _, _, rfl, rfl, ?_⟩
            refine ⟨_, rfl, .inl ⟨rfl, _, SqL.of hg9⟩, _, rfl, _, rfl, numOk_log heo.1, _, _, rfl, rfl, ?_, _, _, rfl, rfl, ?_, _, rfl, _, rfl, numOk_log heo.2.1, _, _, rfl, rfl, ?_, g, _, _, rfl, rfl, hg9, (by rw [List.length_map, line_eq]; omega), ?_⟩
            · show ("edge " : Str).length + (num ed.rows).length ≤ sizeLine
              rw [line_eq]; omega
            · show (("edge " : Str) ++ num ed.rows).length + sBlank.length ≤ sizeLine
              rw [line_eq, len_app]; omega
            · show (("edge " : Str) ++ num ed.rows ++ sBlank).length + (num ed.k).length ≤ sizeLine
              rw [line_eq, len_app, len_app]; omega
            have s10 := s9.wr (o := .lst (pre2.map V.str ++ [.str (("edge " : Str) ++ num ed.rows ++ sBlank ++ num ed.k)])) hg
            have e10 : upd H9 g (.lst (pre2.map V.str ++ [.str (("edge " : Str) ++ num ed.rows ++ sBlank ++ num ed.k)])) g = some (.lst ((pre2 ++ [sofar "edge" ed.rows ed.k ed.moves 0]).map V.str)) := by
              rw [upd_same, strs_snoc, head3 (x := "edge ") (wd := "edge") (by decide +kernel) ed.rows ed.k ed.moves]
            refine ⟨_, rfl, ep, rfl, ⟨_, SqT.of (s10 _ _ hep)⟩, for_tup (K := K) (a := ep) (xs := evs) (fun m σ H' => ∃ v8 v12, σ = [some (.ref a), some (.ref g), some (.int st.many), some (.ref pa), some (.ref da), v5, v6, v7, v8, some (.int ed.rows), some (.ref ep), some (.int ed.k), v12] ∧ Same H H' ∧ H' M = some (.lst ves) ∧
                H' g = some (.lst ((pre2 ++ [sofar "edge" ed.rows ed.k ed.moves m]).map V.str)))
              ⟨v8, _, rfl, s10, by rw [upd_ne gM.symm]; exact hM9, e10⟩ (fun j σ H' _ ⟨_, _, _, s6, _⟩ => SqT.of (s6 _ _ hep)) ?_ ?_⟩
            · rintro m z _ H11 hm6 ⟨v8, v12, rfl, s11, hM11, hg11⟩
              obtain ⟨d2, hd2, rz⟩ := rep.get hm6
              obtain ⟨fm, hfm6, rfl⟩ := map_get hd2
              have hzm := List.mem_of_getElem? hfm6
              have q1 : (sofar "edge" ed.rows ed.k ed.moves m).length ≤ (edgeText ed).length := sofar_le (wd := "edge") (a := ed.rows) (b := ed.k) (fs := ed.moves) (m := m)
              have q2 := hfl fm hzm
              refine ⟨_, rfl, _, rfl, g, _, _, V.str (sofar "edge" ed.rows ed.k ed.moves m), rfl, rfl, SqL.of hg11, by rw [strs_snoc]; exact atI_last _ _, _, _, rfl, rfl, ?_, _, rfl, z, fm, rfl, rz.same s11, heo.2.2 fm hzm, q2, fun H7 s7 => ⟨_, _, rfl, rfl, ?_, _, rfl, _, rfl, ?_⟩⟩
              · show (sofar "edge" ed.rows ed.k ed.moves m).length + sBlank.length ≤ sizeLine
                rw [line_eq]; omega
              · show (sofar "edge" ed.rows ed.k ed.moves m ++ sBlank).length + (formText fm).length ≤ sizeLine
                rw [line_eq, len_app]; omega
              · refine ⟨g, _, _, _, rfl, rfl, s7 _ _ hg11, by rw [strs_snoc]; exact ix_last _ _, ?_⟩
                refine ⟨_, _, rfl, (s11.trans s7).wr hg, by rw [upd_ne gM.symm]; exact s7 _ _ hM11, ?_⟩
                rw [upd_same, strs_snoc, set_last, strs_snoc, sofar_succ hfm6]
                rfl
            · rintro _ H11 ⟨v8, v12, rfl, s11, hM11, hg11⟩
              refine ⟨_, _, _, _, _, rfl, s11, hM11, ?_⟩
              rw [hg11, sofar_all (by rw [rep.length, List.length_map]; exact Nat.le_refl _), ← hpre2, take_map hed, List.append_assoc, List.cons_append]
              rfl
          · rintro _ H9 ⟨v8, v9, v10, v11, v12, rfl, s9, hM9, hg9⟩
            refine ⟨_, _, _, _, _, _, _, _, _, _, _, rfl, s9, ?_⟩
            rw [hg9, List.take_of_length_le (by rw [res.length, List.length_map]; exact Nat.le_refl _), laneLines_take hst, ← hpre, List.append_assoc]
            rfl
    · rintro _ H' ⟨v2, v3, v4, v5, v6, v7, v8, v9, v10, v11, v12, rfl, s2, hg2⟩
      have hn : vs.length = Ln.length := by rw [rs.length, List.length_map]
      rw [hn, List.take_length] at hg2
      refine ⟨⟨_, rfl⟩, _, rfl, sFeed, g, laneLines Ln, rfl, rfl, .inl (SqL.of hg2), ?_, ?_⟩
      · rw [join_len sFeed (lane_ne hok.1), len_feed]
        have : (Str.join sFeed (laneLines Ln)).length = (laneText Ln).length := rfl
        omega
      · rw [join_eq]
        exact k _ s2
end
end Ln
end
section
namespace Ln
open PySem L2 TL HT
def spSign : Sp := fun vs H Q _ => ∃ (b l : Addr), vs = [.ref b] ∧ BagAt H b l ∧ ∀ (c : Str) H', c.length = 1 → BagAt H' b l → Keep H H' → Q (.str c) H'
def spRun : Sp := fun vs H Q _ => ∃ (b l : Addr), vs = [.ref b] ∧ BagAt H b l ∧ ∀ (r : Str) H', r.length ≤ 12 → BagAt H' b l → Keep H H' → Q (.str r) H'
def spBent : Sp := fun vs H Q _ => ∃ (t : Str) (p b l : Addr) (p0 p1 p2 : Int), vs = [.str t, .ref p, .ref b] ∧ t.length ≤ 1000000 ∧ H p = some (.lst [.int p0, .int p1, .int p2]) ∧ BagAt H b l ∧
  ∀ (r : Str) H', r.length ≤ t.length + 12 → BagAt H' b l → Keep H H' → Q (.str r) H'
def spAgain : Sp := fun vs H Q _ => ∃ (t : Str) (p : Addr) (p0 p1 p2 : Int), vs = [.str t, .ref p] ∧ t.length ≤ 500000 ∧ H p = some (.lst [.int p0, .int p1, .int p2]) ∧
  ∀ (r : Str) H', r.length ≤ 2 * t.length + 1 → Same H H' → Q (.str r) H'
theorem sign_at {z : Str} {n : Int} (h0 : 0 ≤ n) (h1 : n < (z.length : Int)) : ∃ c, atI z.cps.toList n = some c := by
  obtain ⟨j, rfl⟩ := Int.eq_ofNat_of_zero_le h0
  have hj : j < z.cps.toList.length := by
    have : z.cps.toList.length = z.length := by simp [Str.length]
    omega
  exact ⟨z.cps.toList[j], atI_nat (List.getElem?_eq_getElem hj)⟩
theorem len_one (c : Nat) : (⟨#[c]⟩ : Str).length = 1 := rfl
theorem cuts_le {t : Str} {i j : Int} (h0 : 0 ≤ i) (h : i ≤ j) : (cutS t none (some i)).length + (cutS t (some j) none).length ≤ t.length ∧ (cutS t none (some i)).length ≤ t.length := by
  obtain ⟨a, rfl⟩ := Int.eq_ofNat_of_zero_le h0
  obtain ⟨b, rfl⟩ := Int.eq_ofNat_of_zero_le (Int.le_trans h0 h)
  rw [len_tl, len_tl, len_tl, cutS_from, cutS_to, List.length_take, List.length_drop]
  omega
section
variable {P : Program} {w : World} {K : PySem.W.Frag} {mg : Str → Option Value} {base : Heap} {C : Addr}
abbrev nSign : List Str := ["bag", "some"]
theorem scSign : FnScope nSign ["bag"] (defScope sSign) := ⟨rfl, rfl, rfl, by decide +kernel, rfl, by decide +kernel, by decide +kernel⟩
theorem ok_sign {f fD : Addr} {fd fdD : FuncData} (T : Txt K mg C) (D : Df K mg "_law_any_sign" sSign ["bag"] f fd) (DD : Df K mg "_law_draw" sDraw ["bag", "many"] fD fdD) (GD : FnOk P w K mg base CX0 1 fD fdD ["bag", "many"] spDraw) :
    FnOk P w K mg base CX0 2 f fd ["bag"] spSign := by
  refine D.F.ok scSign (fun vs H Q E h => ?_) (fun cdv A outer s H vs Q E hr h => ?_)
  · obtain ⟨b, l, rfl, _⟩ := h
    rfl
  · obtain ⟨b, l, rfl, hb, k⟩ := h
    have hrD : Room 1 _ := hr
    refine ⟨_, (pss_cons (ps_set (i := 1) scSign.nd rfl (Or.inl rfl) pe_str)
      (pss_cons (ps_set (i := 1) scSign.nd rfl (Or.inl rfl) (pe_op op_add_str (pv 1) pe_str))
      (pss_cons (ps_if (pt_cmpR op_eq (pe_call GD hrD (by rfl) DD.g DD.F.kp DD.b .nil pass0 (pa_cons (pv 0) (pa_cons pe_int pa_nil))) pe_int (nomark _))
        (pss_one (ps_ret (pe_ix ix_str (pv 1) (pe_call GD hrD (by rfl) DD.g DD.F.kp DD.b .nil pass0 (pa_cons (pv 0) (pa_cons pe_int pa_nil))) (fun _ _ => rfl))))
        pss_nil)
      (pss_one (ps_ret (pe_ix ix_str (pv 1) (pe_call GD hrD (by rfl) DD.g DD.F.kp DD.b .nil pass0 (pa_cons (pv 0) (pa_cons pe_int pa_nil))) (fun _ _ => rfl))))))), ?_⟩
    refine ⟨_, rfl, _, _, rfl, rfl, ?_, ?_⟩
    · rw [line_eq]; decide +kernel
    generalize hz : ((_ : Str) ++ (_ : Str)) = z
    have hz9 : z.length = 95 := by rw [← hz]; decide +kernel
    refine ⟨_, rfl, b, l, 2, rfl, hb, by decide, by decide, fun q H1 q0 q2 hb1 k1 => ⟨rfl, _, rfl, ?_⟩⟩
    by_cases c : q = 1
    · rw [decide_eq_true (by rw [c] : V.int q = V.int 1)]
      refine iteT ?_
      refine ⟨_, rfl, _, rfl, b, l, 15, rfl, hb1, by decide, by decide, fun n H2 n0 n1 hb2 k2 => ?_⟩
      obtain ⟨x, hx⟩ := sign_at (z := z) n0 (by omega)
      exact ⟨z, n, x, rfl, rfl, by rw [line_eq]; omega, hx, k _ _ (len_one x) hb2 (k1.trans k2)⟩
    rw [decide_eq_false (fun z => c (V.int.inj z) : ¬ V.int q = V.int 1)]
    refine iteF ?_
    refine ⟨_, rfl, _, rfl, b, l, 95, rfl, hb1, by decide, by decide, fun n H2 n0 n1 hb2 k2 => ?_⟩
    obtain ⟨x, hx⟩ := sign_at (z := z) n0 (by omega)
    exact ⟨z, n, x, rfl, rfl, by rw [line_eq]; omega, hx, k _ _ (len_one x) hb2 (k1.trans k2)⟩
abbrev nRun : List Str := ["bag", "way", "many", "k"]
theorem scRun : FnScope nRun ["bag"] (defScope sRun) := ⟨rfl, rfl, rfl, by decide +kernel, rfl, by decide +kernel, by decide +kernel⟩
theorem ok_run {f fD fS : Addr} {fd fdD fdS : FuncData} (T : Txt K mg C) (D : Df K mg "_law_run" sRun ["bag"] f fd) (DD : Df K mg "_law_draw" sDraw ["bag", "many"] fD fdD) (GD : FnOk P w K mg base CX0 1 fD fdD ["bag", "many"] spDraw)
    (DS : Df K mg "_law_any_sign" sSign ["bag"] fS fdS) (GS : FnOk P w K mg base CX0 2 fS fdS ["bag"] spSign) : FnOk P w K mg base CX0 3 f fd ["bag"] spRun := by
  refine D.F.ok scRun (fun vs H Q E h => ?_) (fun cdv A outer s H vs Q E hr h => ?_)
  · obtain ⟨b, l, rfl, _⟩ := h
    rfl
  · obtain ⟨b, l, rfl, hb, k⟩ := h
    have hrS : Room 2 _ := hr
    have hrD : Room 1 _ := hrS.mono (by decide)
    refine ⟨_, (pss_cons (ps_set (i := 1) scRun.nd rfl (Or.inl rfl) (pe_call GD hrD (by rfl) DD.g DD.F.kp DD.b .nil pass0 (pa_cons (pv 0) (pa_cons pe_int pa_nil))))
      (pss_cons (ps_set (i := 2) scRun.nd rfl (Or.inl rfl) (pe_call GD hrD (by rfl) DD.g DD.F.kp DD.b .nil pass0 (pa_cons (pv 0) (pa_cons pe_int pa_nil))))
      (pss_cons (ps_if (pt_cmpR op_eq (pv 1) pe_int (nomark _))
        (pss_one (ps_ret (pe_op op_mulS pe_str (pv 2))))
        pss_nil)
      (pss_cons (ps_if (pt_cmpR op_eq (pv 1) pe_int (nomark _))
        (pss_one (ps_ret (pe_op op_mulS (pe_call GS hrS (by rfl) DS.g DS.F.kp DS.b .nil pass0 (pa_cons (pv 0) pa_nil)) (pv 2))))
        pss_nil)
      (pss_one (ps_ret (pe_join pe_str (pe_lc (own := [("k", 3)]) (g := (gName 3)) (tt := tYes) (by rfl) scRun.nd (pi_range1 (by rfl) T.range (pa_cons (pv 2) pa_nil)) (blkOk_by (N := nRun) (sc := defScope sRun) (by decide +kernel)) (fun _ _ _ _ _ => (pg_name (i := 3) scRun.nd rfl (Or.inl rfl))) (fun _ _ _ _ _ => pts_nil) (fun _ _ _ _ _ => (pe_call GS hrS (by rfl) DS.g DS.F.kp DS.b .nil pass0 (pa_cons (pv 0) pa_nil))))))))))), ?_⟩
    refine ⟨_, rfl, b, l, 3, rfl, hb, by decide, by decide, fun q H1 q0 q3 hb1 k1 => ⟨_, rfl, b, l, 13, rfl, hb1, by decide, by decide, fun n H2 n0 n13 hb2 k2 => ?_⟩⟩
    have k02 := k1.trans k2
    refine ⟨_, rfl, rfl, _, rfl, ?_⟩
    by_cases c0 : q = 0
    · rw [decide_eq_true (by rw [c0] : V.int q = V.int 0)]
      refine iteT ?_
      refine ⟨_, rfl, _, _, rfl, rfl, by decide, n0, by omega, fun r hr => k r _ ?_ hb2 k02⟩
      rw [hr, show (" " : Str).length = 1 by decide]
      omega
    rw [decide_eq_false (fun z => c0 (V.int.inj z) : ¬ V.int q = V.int 0)]
    refine iteF ?_
    refine ⟨_, rfl, rfl, _, rfl, ?_⟩
    by_cases c1 : q = 1
    · rw [decide_eq_true (by rw [c1] : V.int q = V.int 1)]
      refine iteT ?_
      refine ⟨_, rfl, b, l, rfl, hb2, fun c H3 hc hb3 k3 => ⟨_, rfl, _, _, rfl, rfl, by omega, n0, by omega, fun r hr => k r _ ?_ hb3 (k02.trans k3)⟩⟩
      rw [hr, hc]
      omega
    rw [decide_eq_false (fun z => c1 (V.int.inj z) : ¬ V.int q = V.int 1)]
    refine iteF ?_
    refine ⟨⟨_, rfl⟩, _, rfl, n, rfl, by omega, by omega, fun M hM => ?_⟩
    have fM : Fresh H M := k02.fresh hM
    have mn := hb2.ne hM
    refine lc_range (lo := 0) (n := n.toNat) (fun j H' => ∃ cs : List Str, BagAt H' b l ∧ Keep H H' ∧ H' M = some (.lst (cs.map V.str)) ∧ cs.length = j ∧ ∀ c ∈ cs, c.length ≤ 1)
      ⟨[], hb2.upd hM, k02.trans (Same.nw hM).keep, upd_same, rfl, fun _ q => nomatch q⟩ ?_ ?_
    · rintro j H' hj ⟨cs, hb3, k3, hM3, hl, hc⟩
      refine ⟨rfl, _, rfl, b, l, rfl, hb3, fun c H4 hc4 hb4 k4 => ⟨_, k4 _ _ hM3 (bagLike_strs _), by rw [List.length_map, line_eq]; omega, cs ++ [c], hb4.wr mn, (k3.trans k4).wr fM, by rw [upd_same, List.map_append]; rfl, by rw [List.length_append, hl]; rfl, fun x hx => ?_⟩⟩
      rcases List.mem_append.mp hx with z | z
      · exact hc x z
      · rw [List.mem_singleton.mp z]
        omega
    · rintro H' ⟨cs, hb3, k3, hM3, hl, hc⟩
      have s := sum_sm hc
      refine ⟨("" : Str), M, cs, rfl, rfl, .inl (SqL.of hM3), ?_, ?_⟩
      · rw [show ("" : Str).length = 0 from rfl]
        omega
      · rw [join_eq]
        refine k _ _ ?_ hb3 k3
        by_cases h0 : cs = []
        · rw [h0]; decide
        have e := join_len "" h0
        rw [show ("" : Str).length = 0 from rfl] at e
        omega
abbrev nBent : List Str := ["text", "pick", "bag", "at", "starts", "k", "gone"]
theorem scBent : FnScope nBent ["text", "pick", "bag"] (defScope sBent) := ⟨rfl, rfl, rfl, by decide +kernel, rfl, by decide +kernel, by decide +kernel⟩
theorem pick3 {i x : Int} (h0 : 0 ≤ i) (h1 : i < 3) (hx : 0 ≤ x) : ∃ n : Int, 0 ≤ n ∧ atI [V.int 0, .int 0, .int x] i = some (.int n) := by
  have : i = 0 ∨ i = 1 ∨ i = 2 := by omega
  rcases this with rfl | rfl | rfl
  · exact ⟨0, by decide, rfl⟩
  · exact ⟨0, by decide, rfl⟩
  · exact ⟨x, hx, rfl⟩
theorem ok_bent {f fS fR : Addr} {fd fdS fdR : FuncData} (T : Txt K mg C) (D : Df K mg "_law_bent_text" sBent ["text", "pick", "bag"] f fd) (DS : Df K mg "_law_any_sign" sSign ["bag"] fS fdS) (GS : FnOk P w K mg base CX0 2 fS fdS ["bag"] spSign)
    (DR : Df K mg "_law_run" sRun ["bag"] fR fdR) (GR : FnOk P w K mg base CX0 3 fR fdR ["bag"] spRun) : FnOk P w K mg base CX0 4 f fd ["text", "pick", "bag"] spBent := by
  refine D.F.ok scBent (fun vs H Q E h => ?_) (fun cdv A outer s H vs Q E hr h => ?_)
  · obtain ⟨t, p, b, l, p0, p1, p2, rfl, _⟩ := h
    rfl
  · obtain ⟨t, p, b, l, p0, p1, p2, rfl, ht, hp, hb, k⟩ := h
    have hrR : Room 3 _ := hr
    have hrS : Room 2 _ := hrR.mono (by decide)
    have htz : t.length ≤ sizeLine := by rw [line_eq]; omega
    refine ⟨_, (pss_cons (ps_set (i := 3) scBent.nd rfl (Or.inl rfl) (pe_op op_mod (pe_ix ix_list (pv 1) pe_int (fun _ _ => rfl)) (pe_op op_add (pe_callB call_len_str (by rfl) T.len (by decide +kernel) (pa_cons (pv 0) pa_nil)) pe_int)))
      (pss_cons (ps_if (pt_cmpR op_eq (pe_ix ix_list (pv 1) pe_int (fun _ _ => rfl)) pe_int (nomark _))
        (pss_one (ps_ret (pe_op op_add_str (pe_op op_add_str (pe_slice sl_str (pv 0) po_none (po_some (pv 3))) (pe_call GS hrS (by rfl) DS.g DS.F.kp DS.b .nil pass0 (pa_cons (pv 2) pa_nil))) (pe_slice sl_str (pv 0) (po_some (pv 3)) po_none))))
        pss_nil)
      (pss_cons (ps_if (pt_cmpR op_eq (pe_ix ix_list (pv 1) pe_int (fun _ _ => rfl)) pe_int (nomark _))
        (pss_one (ps_ret (pe_op op_add_str (pe_slice sl_str (pv 0) po_none (po_some (pv 3))) (pe_slice sl_str (pv 0) (po_some (pe_op op_add (pv 3) pe_int)) po_none))))
        pss_nil)
      (pss_cons (ps_if (pt_cmpR op_eq (pe_ix ix_list (pv 1) pe_int (fun _ _ => rfl)) pe_int (nomark _))
        (pss_one (ps_ret (pe_op op_add_str (pe_op op_add_str (pe_slice sl_str (pv 0) po_none (po_some (pv 3))) (pe_call GS hrS (by rfl) DS.g DS.F.kp DS.b .nil pass0 (pa_cons (pv 2) pa_nil))) (pe_slice sl_str (pv 0) (po_some (pe_op op_add (pv 3) pe_int)) po_none))))
        pss_nil)
      (pss_cons (ps_if (pt_cmpR op_eq (pe_ix ix_list (pv 1) pe_int (fun _ _ => rfl)) pe_int (nomark _))
        (pss_cons (ps_set (i := 4) scBent.nd rfl (Or.inl rfl) (pe_op op_cat (pe_lst (pa_cons pe_int pa_nil)) (pe_lc (own := [("k", 5)]) (g := (gName 5)) (tt := (tTest (tOp rEq (tOp rIxS (tVar 0) (tVar 5)) (tC (.str "\n"))))) (by rfl) scBent.nd (pi_range1 (by rfl) T.range (pa_cons (pe_callB call_len_str (by rfl) T.len (by decide +kernel) (pa_cons (pv 0) pa_nil)) pa_nil)) (blkOk_by (N := nBent) (sc := defScope sBent) (by decide +kernel)) (fun _ _ _ _ _ => (pg_name (i := 5) scBent.nd rfl (Or.inl rfl))) (fun _ _ _ _ _ => pts_one (pt_cmpR op_eq (pe_ix ix_str (pv 0) (pv 5) (fun _ _ => rfl)) pe_str (nomark _))) (fun _ _ _ _ _ => (pe_op op_add (pv 5) pe_int)))))
        (pss_one (ps_set (i := 3) scBent.nd rfl (Or.inl rfl) (pe_ix ix_list (pv 4) (pe_op op_mod (pe_ix ix_list (pv 1) pe_int (fun _ _ => rfl)) (pe_callB call_len_seq (by rfl) T.len (by decide +kernel) (pa_cons (pv 4) pa_nil))) (fun _ _ => rfl)))))
        pss_nil)
      (pss_cons (ps_set (i := 6) scBent.nd rfl (Or.inl rfl) (pe_ix ix_list (pe_lst (pa_cons pe_int (pa_cons pe_int (pa_cons (pe_op op_mod (pe_op op_fdivW (pe_ix ix_list (pv 1) pe_int (fun _ _ => rfl)) pe_int) pe_int) pa_nil)))) (pe_op op_mod (pe_ix ix_list (pv 1) pe_int (fun _ _ => rfl)) pe_int) (fun _ _ => rfl)))
      (pss_one (ps_ret (pe_op op_add_str (pe_op op_add_str (pe_slice sl_str (pv 0) po_none (po_some (pv 3))) (pe_call GR hrR (by rfl) DR.g DR.F.kp DR.b .nil pass0 (pa_cons (pv 2) pa_nil))) (pe_slice sl_str (pv 0) (po_some (pe_op op_add (pv 3) (pv 6))) po_none)))))))))), ?_⟩
    have hpos : (0 : Int) < ((t.length : Nat) : Int) + 1 := by omega
    refine ⟨_, rfl, p, _, 1, _, rfl, rfl, SqL.of hp, rfl, _, rfl, t, rfl, htz, _, _, rfl, rfl, _, _, rfl, rfl, hpos, ?_⟩
    dsimp only [gName]
    generalize hat : (p1 % (((t.length : Nat) : Int) + 1)) = at_
    have a0 : 0 ≤ at_ := by rw [← hat]; exact Int.emod_nonneg _ (by omega)
    have c1 := cuts_le (t := t) a0 (Int.le_refl at_)
    have c2 := cuts_le (t := t) (j := at_ + 1) a0 (by omega)
    have bad : ∀ (m : Int), ¬ p0 = m → ¬ V.int p0 = V.int m := fun m h z => h (V.int.inj z)
    refine ⟨_, rfl, p, _, 0, _, rfl, rfl, SqL.of hp, rfl, rfl, _, rfl, ?_⟩
    by_cases d0 : p0 = 0
    · rw [decide_eq_true (by rw [d0] : V.int p0 = V.int 0)]
      refine iteT ?_
      refine ⟨_, rfl, _, rfl, _, rfl, t, rfl, htz, _, rfl, b, l, rfl, hb, fun c H1 hc hb1 k1 => ⟨_, _, rfl, rfl, ?_, _, rfl, _, rfl, _, rfl, t, rfl, htz, _, _, rfl, rfl, ?_, k _ _ ?_ hb1 k1⟩⟩
      · rw [line_eq]; omega
      · rw [line_eq, len_app]; omega
      · rw [len_app, len_app]; omega
    rw [decide_eq_false (bad 0 d0)]
    refine iteF ?_
    refine ⟨_, rfl, p, _, 0, _, rfl, rfl, SqL.of hp, rfl, rfl, _, rfl, ?_⟩
    by_cases d1 : p0 = 1
    · rw [decide_eq_true (by rw [d1] : V.int p0 = V.int 1)]
      refine iteT ?_
      refine ⟨_, rfl, _, rfl, _, rfl, t, rfl, htz, _, rfl, _, rfl, _, _, rfl, rfl, _, rfl, t, rfl, htz, _, _, rfl, rfl, ?_, k _ _ ?_ hb (Keep.refl H)⟩
      · rw [line_eq]; omega
      · rw [len_app]; omega
    rw [decide_eq_false (bad 1 d1)]
    refine iteF ?_
    refine ⟨_, rfl, p, _, 0, _, rfl, rfl, SqL.of hp, rfl, rfl, _, rfl, ?_⟩
    by_cases d2 : p0 = 2
    · rw [decide_eq_true (by rw [d2] : V.int p0 = V.int 2)]
      refine iteT ?_
      refine ⟨_, rfl, _, rfl, _, rfl, t, rfl, htz, _, rfl, b, l, rfl, hb, fun c H1 hc hb1 k1 => ⟨_, _, rfl, rfl, ?_, _, rfl, _, rfl, _, _, rfl, rfl, _, rfl, t, rfl, htz, _, _, rfl, rfl, ?_, k _ _ ?_ hb1 k1⟩⟩
      · rw [line_eq]; omega
      · rw [line_eq, len_app]; omega
      · rw [len_app, len_app]; omega
    rw [decide_eq_false (bad 2 d2)]
    refine iteF ?_
    dsimp only [tNext]
    refine joint_if (fun σ H' => ∃ (a' : Int) (v4 v5 : Option V), σ = [some (.str t), some (.ref p), some (.ref b), some (.int a'), v4, v5, none] ∧ 0 ≤ a' ∧ Same H H' ∧ BagAt H' b l) (fun kk hkk => ?_) ?_
    · refine ⟨_, rfl, p, _, 0, _, rfl, rfl, SqL.of hp, rfl, rfl, _, rfl, ?_⟩
      by_cases d3 : p0 = 3
      · rw [decide_eq_true (by rw [d3] : V.int p0 = V.int 3)]
        refine iteT ?_
        refine ⟨by show 1 ≤ sizeLine; decide, fun x hx => ⟨_, rfl, t, rfl, htz, _, rfl, by omega, by omega, fun M hM => ?_⟩⟩
        have s2 : Same H (upd (upd H x (.lst [.int 0])) M (.lst [])) := (Same.nw hx).up hM
        have xM : x ≠ M := ne_of_none upd_same hM
        have hM0 := (Same.nw (H := H) (o := .lst [.int 0]) hx).free hM
        refine lc_range (lo := 0) (n := ((t.length : Nat) : Int).toNat) (fun j H' => ∃ ns : List Int, Same H H' ∧ BagAt H' b l ∧ H' x = some (.lst [.int 0]) ∧ H' M = some (.lst (ns.map V.int)) ∧ ns.length ≤ j ∧ ∀ n ∈ ns, 0 ≤ n)
          ⟨[], s2, (hb.upd hx).upd hM, by rw [upd_ne xM, upd_same], upd_same, Nat.le_refl _, fun _ q => nomatch q⟩ ?_ ?_
        · rintro j H' hj ⟨ns, s3, hb3, hx3, hM3, hl, hn⟩
          obtain ⟨c, hc⟩ := sign_at (z := t) (n := (0 : Int) + (j : Nat)) (by omega) (by omega)
          refine ⟨rfl, _, rfl, _, rfl, t, _, c, rfl, rfl, htz, hc, rfl, _, rfl, ?_⟩
          by_cases e : V.str ⟨#[c]⟩ = V.str "\n"
          · rw [decide_eq_true e]
            refine iteT ⟨_, rfl, _, _, rfl, rfl, _, hM3, by rw [List.length_map, line_eq]; omega, ns ++ [(0 : Int) + (j : Nat) + 1], s3.wr hM0, hb3.wr ((hb.upd hx).ne hM), by rw [upd_ne xM]; exact hx3, by rw [upd_same, List.map_append]; rfl, ?_, fun n hn' => ?_⟩
            · rw [List.length_append]
              simp only [List.length_cons, List.length_nil]
              omega
            · rcases List.mem_append.mp hn' with z | z
              · exact hn n z
              · rw [List.mem_singleton.mp z]
                omega
          · rw [decide_eq_false e]
            exact iteF ⟨ns, s3, hb3, hx3, hM3, by omega, hn⟩
        · rintro H' ⟨ns, s3, hb3, hx3, hM3, hl, hn⟩
          refine ⟨x, M, _, _, rfl, rfl, hx3, hM3, by rw [List.length_map, line_eq]; simp only [List.length_cons, List.length_nil]; omega, fun z hz => ?_⟩
          have s4 := s3.up (o := .lst ([V.int 0] ++ ns.map V.int)) hz
          have hz4 : upd H' z (.lst ([V.int 0] ++ ns.map V.int)) z = some (.lst ((0 :: ns).map V.int)) := upd_same
          have hpl : (0 : Int) < (((0 :: ns).length : Nat) : Int) := by rw [List.length_cons]; omega
          refine ⟨_, rfl, _, rfl, p, _, 1, _, rfl, rfl, SqL.of (s4 _ _ hp), rfl, _, rfl, z, _, rfl, .inl (SqL.of hz4), _, _, rfl, rfl, (by rw [List.length_map]; exact hpl), ?_⟩
          rw [List.length_map]
          have i0 := Int.emod_nonneg p1 (Int.ne_of_gt hpl)
          have i1 := Int.emod_lt_of_pos p1 hpl
          obtain ⟨i, hi⟩ := Int.eq_ofNat_of_zero_le i0
          have hil : i < (0 :: ns).length := by omega
          obtain ⟨y, hy⟩ : ∃ y, (0 :: ns)[i]? = some y := ⟨(0 :: ns)[i], List.getElem?_eq_getElem hil⟩
          refine ⟨z, _, _, V.int y, rfl, rfl, SqL.of hz4, at_of (j := i) hi (by rw [List.getElem?_map, hy]; rfl), ?_⟩
          refine hkk _ _ ⟨y, _, _, rfl, ?_, s4, hb3.upd hz⟩
          rcases List.mem_cons.mp (List.mem_of_getElem? hy) with e | e
          · omega
          · exact hn y e
      · rw [decide_eq_false (bad 3 d3)]
        exact iteF (hkk _ _ ⟨at_, _, _, rfl, a0, Same.refl H, hb⟩)
    rintro _ H3 ⟨a', v4, v5, rfl, ha, s3, hb3⟩
    have hp3 := s3 _ _ hp
    refine ⟨_, rfl, p, _, 2, _, rfl, rfl, SqL.of hp3, rfl, _, _, rfl, rfl, ⟨by show (0 : Int) < 3; decide, by show Nat.log2 3 < 9000; decide⟩, _, _, rfl, rfl, (by show (0 : Int) < 13; decide), by show 3 ≤ sizeLine; decide, fun y hy => ?_⟩
    have s4 : Same H3 (upd H3 y (.lst [.int 0, .int 0, .int (p2 / 3 % 13)])) := Same.nw hy
    obtain ⟨g, g0, hg⟩ := pick3 (i := p2 % 3) (x := p2 / 3 % 13) (Int.emod_nonneg _ (by decide)) (Int.emod_lt_of_pos _ (by decide)) (Int.emod_nonneg _ (by decide))
    refine ⟨_, rfl, p, _, 2, _, rfl, rfl, SqL.of (s4 _ _ hp3), rfl, _, _, rfl, rfl, (by show (0 : Int) < 3; decide), y, _, _, _, rfl, rfl, SqL.of upd_same, hg, ?_⟩
    have c3 := cuts_le (t := t) (j := a' + g) ha (by omega)
    refine ⟨_, rfl, _, rfl, _, rfl, t, rfl, htz, _, rfl, b, l, rfl, hb3.upd hy, fun c H5 hc hb5 k5 => ⟨_, _, rfl, rfl, ?_, _, rfl, _, rfl, _, rfl, _, _, rfl, rfl, _, rfl, t, rfl, htz, _, _, rfl, rfl, ?_, k _ _ ?_ hb5 ((s3.trans s4).keep.trans k5)⟩⟩
    · rw [line_eq]; omega
    · rw [line_eq, len_app]; omega
    · rw [len_app, len_app]; omega
abbrev nAgain : List Str := ["text", "pick", "lines", "at", "other"]
theorem scAgain : FnScope nAgain ["text", "pick"] (defScope sAgain) := ⟨rfl, rfl, rfl, by decide +kernel, rfl, by decide +kernel, by decide +kernel⟩
theorem ok_again {f : Addr} {fd : FuncData} (T : Txt K mg C) (D : Df K mg "_law_line_again" sAgain ["text", "pick"] f fd) : FnOk P w K mg base CX0 1 f fd ["text", "pick"] spAgain := by
  refine D.F.ok scAgain (fun vs H Q E h => ?_) (fun cdv A outer s H vs Q E hr h => ?_)
  · obtain ⟨t, p, p0, p1, p2, rfl, _⟩ := h
    rfl
  · obtain ⟨t, p, p0, p1, p2, rfl, ht, hp, k⟩ := h
    refine ⟨_, (pss_cons (ps_set (i := 2) scAgain.nd rfl (Or.inl rfl) (pe_split (pv 0) pe_str))
      (pss_cons (ps_set (i := 3) scAgain.nd rfl (Or.inl rfl) (pe_op op_mod (pe_ix ix_list (pv 1) pe_int (fun _ _ => rfl)) (pe_callB call_len_seq (by rfl) T.len (by decide +kernel) (pa_cons (pv 2) pa_nil))))
      (pss_cons (ps_set (i := 4) scAgain.nd rfl (Or.inl rfl) (pe_op op_mod (pe_ix ix_list (pv 1) pe_int (fun _ _ => rfl)) (pe_op op_add (pe_callB call_len_seq (by rfl) T.len (by decide +kernel) (pa_cons (pv 2) pa_nil)) pe_int)))
      (pss_one (ps_ret (pe_join pe_str (pe_op op_cat (pe_op op_cat (pe_slice sl_list (pv 2) po_none (po_some (pv 4))) (pe_lst (pa_cons (pe_ix ix_list (pv 2) (pv 3) (fun _ _ => rfl)) pa_nil))) (pe_slice sl_list (pv 2) (po_some (pv 4)) po_none)))))))), ?_⟩
    refine ⟨_, rfl, ⟨_, rfl⟩, t, sFeed, rfl, rfl, (by decide +kernel), (by rw [line_eq]; omega), fun a ha => ?_⟩
    obtain ⟨x0, xs, esp⟩ := List.exists_cons_of_ne_nil (split_ne t sFeed (by rw [tl_feed]; simp))
    have hne : Txt.split t sFeed ≠ [] := by rw [esp]; simp
    have hj := join_len sFeed hne
    rw [← split_back t sFeed, len_feed] at hj
    obtain ⟨hsl, hsp⟩ := split_feed t
    generalize Txt.split t sFeed = ls at ha hj hsl hsp esp hne ⊢
    have hpos : 0 < ls.length := List.length_pos_iff.mpr hne
    have s1 : Same H (upd H a (.lst (ls.map V.str))) := Same.nw ha
    have ha1 : upd H a (.lst (ls.map V.str)) a = some (.lst (ls.map V.str)) := upd_same
    refine ⟨_, rfl, p, _, 1, _, rfl, rfl, SqL.of (s1 _ _ hp), rfl, _, rfl, a, _, rfl, .inl (SqL.of ha1), _, _, rfl, rfl, (by rw [List.length_map]; show (0 : Int) < _; omega), ?_⟩
    refine ⟨_, rfl, p, _, 2, _, rfl, rfl, SqL.of (s1 _ _ hp), rfl, _, rfl, a, _, rfl, .inl (SqL.of ha1), _, _, rfl, rfl, _, _, rfl, rfl, (by show (0 : Int) < _; omega), ?_⟩
    rw [List.length_map]
    have hpos' : (0 : Int) < ((ls.length : Nat) : Int) := by omega
    obtain ⟨i, hi⟩ := Int.eq_ofNat_of_zero_le (Int.emod_nonneg p1 (Int.ne_of_gt hpos'))
    have i1 := Int.emod_lt_of_pos p1 hpos'
    obtain ⟨j, hj2⟩ := Int.eq_ofNat_of_zero_le (Int.emod_nonneg p2 (show ((ls.length : Nat) : Int) + 1 ≠ 0 by omega))
    obtain ⟨x, hx⟩ : ∃ x, ls[i]? = some x := ⟨ls[i]'(by omega), List.getElem?_eq_getElem (by omega)⟩
    have hxl := hsp x (List.mem_of_getElem? hx)
    dsimp only [gName]
    rw [hi, hj2]
    refine ⟨⟨_, rfl⟩, _, rfl, _, rfl, _, rfl, a, _, rfl, SqL.of ha1, fun y hy => ?_⟩
    rw [cut_to, ← List.map_take]
    have s2 := s1.up (o := .lst ((ls.take j).map V.str)) hy
    have s12 : Same (upd H a (.lst (ls.map V.str))) _ := Same.nw (o := .lst ((ls.take j).map V.str)) hy
    refine ⟨_, rfl, _, rfl, a, _, _, V.str x, rfl, rfl, SqL.of (s12 _ _ ha1), at_of (j := i) rfl (by rw [List.getElem?_map, hx]; rfl), by show 1 ≤ sizeLine; decide, fun z hz => ?_⟩
    have s3 := s2.up (o := .lst [.str x]) hz
    have s23 : Same _ (upd _ z (.lst [.str x])) := Same.nw hz
    refine ⟨y, z, _, _, rfl, rfl, s23 _ _ upd_same, upd_same, ?_, fun u hu => ?_⟩
    · rw [List.length_map, line_eq]
      have := take_le (l := ls) (i := j)
      simp only [List.length_cons, List.length_nil]
      omega
    have s34 : Same _ (upd _ u (.lst ((ls.take j).map V.str ++ [.str x]))) := Same.nw hu
    have s4 := s3.trans s34
    refine ⟨_, rfl, _, rfl, _, rfl, a, _, rfl, SqL.of (s34 _ _ (s23 _ _ (s12 _ _ ha1))), fun q hq => ?_⟩
    rw [cut_from, ← List.map_drop]
    have s45 : Same _ (upd _ q (.lst ((ls.drop j).map V.str))) := Same.nw hq
    refine ⟨u, q, _, _, rfl, rfl, s45 _ _ upd_same, upd_same, ?_, fun r hr2 => ?_⟩
    · rw [List.length_append, List.length_map, List.length_map, List.length_drop, line_eq]
      have := take_le (l := ls) (i := j)
      simp only [List.length_cons, List.length_nil]
      omega
    have s5 := (s4.trans s45).up (o := .lst (((ls.take j).map V.str ++ [.str x]) ++ (ls.drop j).map V.str)) hr2
    have hne2 : ls.take j ++ [x] ++ ls.drop j ≠ [] := by simp
    have e := join_len sFeed hne2
    rw [List.map_append, List.map_append, List.sum_append, List.sum_append, List.length_append, List.length_append, List.length_take, List.length_drop, len_feed] at e
    have e3 : (ls.map (·.length)).sum = ((ls.take j).map (·.length)).sum + ((ls.drop j).map (·.length)).sum := by
      rw [← List.sum_append, ← List.map_append, List.take_append_drop]
    simp only [List.map_cons, List.map_nil, List.sum_cons, List.sum_nil, List.length_cons, List.length_nil] at e
    refine ⟨sFeed, r, ls.take j ++ [x] ++ ls.drop j, rfl, rfl, .inl (SqL.of ?_), ?_, ?_⟩
    · rw [upd_same, List.map_append, List.map_append]
      rfl
    · rw [join_len sFeed hne2, len_feed]
      omega
    · rw [join_eq]
      exact k _ _ (by omega) s5
end
end Ln
end
section
namespace L2
open PySem PySem.Spec PyProof.Rows
/-- isinstance(e, c), e the exception that the suite holds: of the class D, without a dict -/
def rIsD (K : PySem.W.Frag) (D a : Addr) (cls : Value) (d : Option Addr) : List V → Hp → VK → Prop := fun xs H Q => cls = .ref D ∧ d = none ∧ rIsE K D a xs H Q
theorem call_isD {X : Cx} {a D : Addr} {oe : Obj} {cls : Value} {d : Option Addr} {pn : List (Addr × Obj)} (C : ExcC X.K D) (hz : Zc cls d oe) (hf : ∃ vs, oe.data = .fields vs) : CallR (X.suite a ((a, oe) :: pn)) (.builtin "isinstance") (rIsD X.K D a cls d) := by
  intro pins s σ H xs us Q I r h
  obtain ⟨rfl, rfl, h⟩ := h
  exact call_isE C hz hf pins s σ H xs us Q I r h
end L2
namespace Ln
open PySem L2 TL HT
/-- what the written part says of the errors -/
structure Txe (K : PySem.W.Frag) (mg : Str → Option Value) (C CL CN CF : Addr) : Prop where
  gL : mg "LaneError" = some (.ref CL)
  gN : mg "NotFormed" = some (.ref CN)
  gF : mg "Faulty" = some (.ref CF)
  te : PySem.W.exmOne K (.ref C) (.ref CL) = some true
  ex : ExcC K C
  kV : PySem.W.kitOne K (.ref C) (.type "ValueError") = some true
  kC : PySem.W.kitOne K (.ref C) (.ref C) = some true
  kN : PySem.W.kitOne K (.ref C) (.ref CN) = some false
  kF : PySem.W.kitOne K (.ref C) (.ref CF) = some false
def spRead : Sp := fun vs H Q _ => ∃ (t : Str), vs = [.str t] ∧ t.length ≤ B ∧
  (∀ L, readLane t = some L → ∀ H' r v q, Same H H' → H' r = some (.tup [v, .ref q]) → H' q = some (.lst []) → Rep (fun x => H x = none) H' v (laneD L) → Q (.ref r) H') ∧
  (readLane t = none → ∀ H' r q, Same H H' → H' r = some (.tup [.non, .ref q]) → H' q = some (.lst [.bl true, .bl true, .bl false]) → Q (.ref r) H')
section
variable {P : Program} {w : World} {K : PySem.W.Frag} {mg : Str → Option Value} {base : Heap} {C CL CN CF : Addr}
abbrev nRead : List Str := ["text", "found", "told", "e"]
theorem scRead : FnScope nRead ["text"] (defScope sRead) := ⟨rfl, rfl, rfl, by decide +kernel, rfl, by decide +kernel, by decide +kernel⟩
def tIsD (K : PySem.W.Frag) (C a : Addr) (cls : Value) (d : Option Addr) (c : V) : TE := tCB (rIsD K C a cls d) (tCons (tVar 3) (tCons (tC c) tNil))
theorem ok_read {f fR : Addr} {fd fdR : FuncData} (T : Txt K mg C) (TX : Txe K mg C CL CN CF) (D : Df K mg "_law_read" sRead ["text"] f fd) (DR : Df K mg "read_lane" sLane ["text"] fR fdR)
    (G : FnOk P w K mg base (L2.CX P w) 6 fR fdR ["text"] (spLane C)) : FnOk P w K mg base CX0 7 f fd ["text"] spRead := by
  refine D.F.ok scRead (fun vs H Q E h => ?_) (fun cdv A outer s H vs Q E hr h => ?_)
  · obtain ⟨t, rfl, _⟩ := h
    rfl
  · obtain ⟨t, rfl, hB, kS, kN⟩ := h
    refine ⟨_, pss_cons (ps_set (i := 1) scRead.nd rfl (Or.inl rfl) pe_non) (pss_cons (ps_set (i := 2) scRead.nd rfl (Or.inl rfl) (pe_lst pa_nil))
      (pss_cons (ps_try_as (i := 3) (tb := fun W => tAsg (tCallS (spLane C) (WE W) (tCons (tVar 0) tNil)) (gName 1))
        (ts := fun a cls d => tAsg (tLst (tCons (tIsD K C a cls d (.ty "ValueError")) (tCons (tIsD K C a cls d (.ref C)) (tCons (tOrV (tIsD K C a cls d (.ref CN)) (tIsD K C a cls d (.ref CF))) tNil)))) (gName 2)) (Wout := fun _ _ _ _ => False) rfl rfl scRead.nd rfl rfl ⟨rfl, by decide, Or.inl TX.gL⟩ takes0
          (fun W pn xe tk _ => pss_one (ps_set (i := 1) scRead.nd rfl (Or.inl rfl) (by exact (pe_callS G hr (by rfl) DR.g DR.F.kp DR.b (fun σ => passAt tk σ) (by exact (pa_cons (pv 0) pa_nil))))))
          (fun a oe cls d pn hz hf => pss_one (ps_set (i := 2) scRead.nd rfl (Or.inl rfl) (by exact (pe_lst (pa_cons (pe_callB (call_isD TX.ex hz hf) (by rfl) T.isi (by decide +kernel) (pa_cons (pv 3) (pa_cons (pe_bltn (v := .ty "ValueError") (by rfl) T.ve (by decide +kernel) rfl) pa_nil)))
            (pa_cons (pe_callB (call_isD TX.ex hz hf) (by rfl) T.isi (by decide +kernel) (pa_cons (pv 3) (pa_cons (pe_glob (v := .ref C) (by rfl) T.gC rfl) pa_nil)))
            (pa_cons (pe_or (pe_callB (call_isD TX.ex hz hf) (by rfl) T.isi (by decide +kernel) (pa_cons (pv 3) (pa_cons (pe_glob (v := .ref CN) (by rfl) TX.gN rfl) pa_nil))) (pe_one (pe_callB (call_isD TX.ex hz hf) (by rfl) T.isi (by decide +kernel) (pa_cons (pv 3) (pa_cons (pe_glob (v := .ref CF) (by rfl) TX.gF rfl) pa_nil))))) pa_nil))))))))
      (pss_one (ps_ret (pe_tup (pa_cons (pv 1) (pa_cons (pv 2) pa_nil)))))))
      , ?_⟩
    refine ⟨Nat.zero_le _, fun q hq => ?_⟩
    have s1 : Same H (upd H q (.lst [])) := Same.nw hq
    refine ⟨_, rfl, t, rfl, hB, fun L hL H' v s2 rv => ?_, fun hn H' s2 => ⟨true, TX.te, fun _ a ha => ?_, fun q => Bool.noConfusion q⟩⟩
    · refine ⟨_, rfl, _, rfl, by show 2 ≤ sizeLine; decide, fun r hr2 => ?_⟩
      have s3 : Same H' (upd H' r (.tup [v, .ref q])) := Same.nw hr2
      exact kS L hL _ r v q ((s1.trans s2).trans s3) upd_same (s3 _ _ (s2 _ _ upd_same)) ((rv.same s3).weak fun x hx => s1.free hx)
    · refine ⟨_, rfl, rfl, rfl, _, _, true, rfl, (fun u z => z), TX.kV, _, rfl, rfl, rfl, _, _, true, rfl, (fun u z => z), TX.kC, _, rfl, rfl, rfl, _, _, false, rfl, (fun u z => z), TX.kN, _, rfl, ?_⟩
      refine iteF ⟨_, rfl, rfl, rfl, _, _, false, rfl, (fun u z => z), TX.kF, by show 3 ≤ sizeLine; decide, fun p hp => ?_⟩
      have s3 := (s1.trans s2).up (o := .lst [.bl true, .bl true, .bl false]) hp
      refine ⟨_, rfl, _, rfl, by show 2 ≤ sizeLine; decide, fun r hr2 => ?_⟩
      exact kN hn _ r p (s3.up hr2) upd_same (by rw [upd_ne (ne_of_none upd_same hr2)]; exact upd_same)
end
end Ln
end
section
namespace Ln
open PySem L2 TL HT
/-- data of a bounded depth and width -/
def Fit : Nat → Dt → Prop
  | 0, _ => False
  | _ + 1, .int _ => True
  | _ + 1, .str _ => True
  | n + 1, .tup ds => ds.length ≤ 4000000 ∧ ∀ d ∈ ds, Fit n d
  | n + 1, .lst ds => ds.length ≤ 4000000 ∧ ∀ d ∈ ds, Fit n d
def mkO (b : Bool) (vs : List V) : HO := cond b (.lst vs) (.tup vs)
def seqD (b : Bool) (ds : List Dt) : Dt := cond b (.lst ds) (.tup ds)
theorem rep_seq {N : Addr → Prop} {H : Hp} {v : V} {b : Bool} {ds : List Dt} (r : Rep N H v (seqD b ds)) : ∃ a vs, v = .ref a ∧ H a = some (mkO b vs) ∧ Reps N H vs ds := by
  cases b with
  | true =>
    obtain ⟨a, vs, e, _, h, _, r⟩ := Rep.lstI r
    exact ⟨a, vs, e, h, r⟩
  | false => exact Rep.tupI r
theorem fit_seq {n : Nat} {b : Bool} {ds : List Dt} (h : Fit (n + 1) (seqD b ds)) : ds.length ≤ 4000000 ∧ ∀ d ∈ ds, Fit n d := by
  cases b <;> exact h
theorem ty_seq {K : PySem.W.Frag} {H : Hp} {a : Addr} {b : Bool} {vs : List V} (h : H a = some (mkO b vs)) : TyX K H (.ref a) (.type (cond b "list" "tuple")) := by
  cases b with
  | true => exact .base (.lst h)
  | false => exact .base (.tup h)
theorem any_seq {K : PySem.W.Frag} (b : Bool) : PySem.W.kitAny K (.type (cond b "list" "tuple")) [.type "list", .type "tuple"] = some true := by
  cases b with
  | true => exact kitAny_cons (b := true) (kit_ty (by decide +kernel)) (fun z => nomatch z) (fun _ => rfl)
  | false => exact kitAny_cons (b := false) (kit_ty (by decide +kernel)) (fun _ => kitAny_cons (b := true) (kit_ty (by decide +kernel)) (fun z => nomatch z) (fun _ => rfl)) (fun z => nomatch z)
theorem any_int {K : PySem.W.Frag} : PySem.W.kitAny K (.type "int") [.type "list", .type "tuple"] = some false :=
  kitAny_cons (b := false) (kit_ty (by decide +kernel)) (fun _ => kitAny_cons (b := false) (kit_ty (by decide +kernel)) (fun _ => kitAny_nil) (fun z => nomatch z)) (fun z => nomatch z)
theorem any_str {K : PySem.W.Frag} : PySem.W.kitAny K (.type "str") [.type "list", .type "tuple"] = some false :=
  kitAny_cons (b := false) (kit_ty (by decide +kernel)) (fun _ => kitAny_cons (b := false) (kit_ty (by decide +kernel)) (fun _ => kitAny_nil) (fun z => nomatch z)) (fun z => nomatch z)
theorem one_seq {K : PySem.W.Frag} (b : Bool) : PySem.W.kitOne K (.type (cond b "list" "tuple")) (.type "list") = some b := by
  cases b <;> exact kit_ty (by decide +kernel)
theorem sq_seq {K : PySem.W.Frag} {H : Hp} {a : Addr} {b : Bool} {vs : List V} (h : H a = some (mkO b vs)) : SqL K H a vs ∨ SqT K H a vs := by
  cases b with
  | true => exact .inl (SqL.of h)
  | false => exact .inr (SqT.of h)
theorem ix_seq_of {K : PySem.W.Frag} {H : Hp} {a : Addr} {b : Bool} {vs : List V} {i : Int} {v : V} {Q : VK} (h : H a = some (mkO b vs)) (e : atI vs i = some v) (q : Q v H) : rIx K (.ref a) (.int i) H Q := by
  cases b with
  | true => exact .inl ⟨a, vs, i, v, rfl, rfl, SqL.of h, e, q⟩
  | false => exact .inr (.inl ⟨a, vs, i, v, rfl, rfl, SqT.of h, e, q⟩)
theorem all_true : ∀ (n : Nat), (List.replicate n true).all id = true
  | 0 => rfl
  | n + 1 => all_true n
def spAlike : Nat → Sp
  | 0 => fun _ _ _ _ => False
  | n + 1 => fun vs H Q _ => ∃ (v u : V) (d : Dt), vs = [v, u] ∧ Rep Any H v d ∧ Rep Any H u d ∧ Fit (n + 1) d ∧ ∀ H', Same H H' → Q (.bl true) H'
theorem dt_cases (d : Dt) : (∃ b ds, d = seqD b ds) ∨ (∃ i, d = .int i) ∨ ∃ z, d = .str z := by
  cases d with
  | int i => exact .inr (.inl ⟨i, rfl⟩)
  | str z => exact .inr (.inr ⟨z, rfl⟩)
  | tup ds => exact .inl ⟨false, ds, rfl⟩
  | lst ds => exact .inl ⟨true, ds, rfl⟩
section
variable {P : Program} {w : World} {K : PySem.W.Frag} {mg : Str → Option Value} {base : Heap} {C CL CN CF : Addr}
abbrev nAlike : List Str := ["found", "due", "k"]
theorem scAlike : FnScope nAlike ["found", "due"] (defScope sAlike) := ⟨rfl, rfl, rfl, by decide +kernel, rfl, by decide +kernel, by decide +kernel⟩
theorem ok_alike {f : Addr} {fd : FuncData} (T : Txt K mg C) (D : Df K mg "_law_alike" sAlike ["found", "due"] f fd) : ∀ n, FnOk P w K mg base CX0 n f fd ["found", "due"] (spAlike n) := by
  intro n
  induction n with
  | zero => exact ⟨fun _ _ _ _ h => h.elim, fun _ _ _ _ _ _ _ _ _ _ _ _ _ h => h.elim⟩
  | succ n ih =>
    refine D.F.ok scAlike (fun vs H Q E h => ?_) (fun cdv A outer s H vs Q E hr h => ?_)
    · obtain ⟨v, u, d, rfl, _⟩ := h
      rfl
    · obtain ⟨v, u, d, rfl, rv, ru, hf, k⟩ := h
      refine ⟨_, (pss_cons (ps_if (pt_val (pe_callB call_isiT (by rfl) T.isi (by decide +kernel) (pa_cons (pv 1) (pa_cons (pe_tup (pa_cons (pe_bltn (v := .ty "list") (by rfl) T.list (by decide +kernel) rfl) (pa_cons (pe_bltn (v := .ty "tuple") (by rfl) T.tuple (by decide +kernel) rfl) pa_nil))) pa_nil))))
        (pss_cons (ps_if (PW.pt (pw_or (pt_not (pt_val (pe_callB call_isiT (by rfl) T.isi (by decide +kernel) (pa_cons (pv 0) (pa_cons (pe_tup (pa_cons (pe_bltn (v := .ty "list") (by rfl) T.list (by decide +kernel) rfl) (pa_cons (pe_bltn (v := .ty "tuple") (by rfl) T.tuple (by decide +kernel) rfl) pa_nil))) pa_nil))))) (pw_or1 (pt_cmpR op_ne (pe_callB call_isi (by rfl) T.isi (by decide +kernel) (pa_cons (pv 0) (pa_cons (pe_bltn (v := .ty "list") (by rfl) T.list (by decide +kernel) rfl) pa_nil))) (pe_callB call_isi (by rfl) T.isi (by decide +kernel) (pa_cons (pv 1) (pa_cons (pe_bltn (v := .ty "list") (by rfl) T.list (by decide +kernel) rfl) pa_nil))) (nomark _)))))
          (pss_one (ps_ret pe_bl))
          pss_nil)
        (pss_cons (ps_if (pt_cmpR op_ne (pe_callB call_len_seq (by rfl) T.len (by decide +kernel) (pa_cons (pv 0) pa_nil)) (pe_callB call_len_seq (by rfl) T.len (by decide +kernel) (pa_cons (pv 1) pa_nil)) (nomark _))
          (pss_one (ps_ret pe_bl))
          pss_nil)
        (pss_one (ps_ret (pe_callB (cr_all rfl) (by rfl) T.all (by decide +kernel) (pa_cons (pe_lc (own := [("k", 2)]) (g := (gName 2)) (tt := tYes) (by rfl) scAlike.nd (pi_range1 (by rfl) T.range (pa_cons (pe_callB call_len_seq (by rfl) T.len (by decide +kernel) (pa_cons (pv 1) pa_nil)) pa_nil)) (blkOk_by (N := nAlike) (sc := defScope sAlike) (by decide +kernel)) (fun _ _ _ _ _ => (pg_name (i := 2) scAlike.nd rfl (Or.inl rfl))) (fun _ _ _ _ _ => pts_nil) (fun _ _ _ _ _ => (pe_call ih hr (by rfl) D.g D.F.kp D.b .nil pass0 (pa_cons (pe_ix (show IxR _ (rIx K) from ix_seq) (pv 0) (pv 2) (fun _ _ => rfl)) (pa_cons (pe_ix (show IxR _ (rIx K) from ix_seq) (pv 1) (pv 2) (fun _ _ => rfl)) pa_nil))))) pa_nil))))))
        pss_nil)
      (pss_cons (ps_if (PW.pt (pw_or (pt_cmpR op_ne (pe_callB call_isi (by rfl) T.isi (by decide +kernel) (pa_cons (pv 0) (pa_cons (pe_bltn (v := .ty "bool") (by rfl) T.bool (by decide +kernel) rfl) pa_nil))) (pe_callB call_isi (by rfl) T.isi (by decide +kernel) (pa_cons (pv 1) (pa_cons (pe_bltn (v := .ty "bool") (by rfl) T.bool (by decide +kernel) rfl) pa_nil))) (nomark _)) (pw_or1 (pt_cmpR op_ne (pe_callB call_isi (by rfl) T.isi (by decide +kernel) (pa_cons (pv 0) (pa_cons (pe_bltn (v := .ty "int") (by rfl) T.int (by decide +kernel) rfl) pa_nil))) (pe_callB call_isi (by rfl) T.isi (by decide +kernel) (pa_cons (pv 1) (pa_cons (pe_bltn (v := .ty "int") (by rfl) T.int (by decide +kernel) rfl) pa_nil))) (nomark _)))))
        (pss_one (ps_ret pe_bl))
        pss_nil)
      (pss_one (ps_ret (pe_and (pe_cmpR op_eq (pe_callB call_isi (by rfl) T.isi (by decide +kernel) (pa_cons (pv 0) (pa_cons (pe_bltn (v := .ty "str") (by rfl) T.str (by decide +kernel) rfl) pa_nil))) (pe_callB call_isi (by rfl) T.isi (by decide +kernel) (pa_cons (pv 1) (pa_cons (pe_bltn (v := .ty "str") (by rfl) T.str (by decide +kernel) rfl) pa_nil))) (nomark _)) (pe_one (pe_cmpR op_eq (pv 0) (pv 1) (nomark _)))))))), ?_⟩
      rcases dt_cases d with ⟨b, ds, rfl⟩ | ⟨i, rfl⟩ | ⟨z, rfl⟩
      · obtain ⟨a, xs, rfl, ha, ra⟩ := rep_seq rv
        obtain ⟨c, ys, rfl, hc, rc⟩ := rep_seq ru
        obtain ⟨hw, hds⟩ := fit_seq hf
        have hxl := ra.length
        have hyl := rc.length
        refine ⟨_, rfl, by show 2 ≤ sizeLine; decide, fun p hp => ?_⟩
        have s1 : Same H (upd H p (.tup [.ty "list", .ty "tuple"])) := Same.nw hp
        refine ⟨_, p, _, _, _, true, rfl, upd_same, .cons (.ty _) (.cons (.ty _) .nil), ty_seq (s1 _ _ hc), any_seq b, _, rfl, ?_⟩
        refine iteT ?_
        refine ⟨_, rfl, by show 2 ≤ sizeLine; decide, fun q hq => ?_⟩
        have s2 := s1.up (o := .tup [.ty "list", .ty "tuple"]) hq
        refine ⟨_, q, _, _, _, true, rfl, upd_same, .cons (.ty _) (.cons (.ty _) .nil), ty_seq (s2 _ _ ha), any_seq b, _, rfl, ?_⟩
        refine iteF ?_
        refine ⟨_, rfl, _, _, _, _, b, rfl, .ty _, ty_seq (s2 _ _ ha), one_seq b, _, rfl, _, _, _, _, b, rfl, .ty _, ty_seq (s2 _ _ hc), one_seq b, rfl, _, rfl, ?_⟩
        rw [decide_eq_true (rfl : V.bl b = V.bl b)]
        refine iteF ?_
        refine ⟨_, rfl, a, xs, rfl, sq_seq (s2 _ _ ha), _, rfl, c, ys, rfl, sq_seq (s2 _ _ hc), rfl, _, rfl, ?_⟩
        rw [decide_eq_true (by rw [hxl, hyl] : V.int ((xs.length : Nat) : Int) = V.int ((ys.length : Nat) : Int))]
        refine iteF ?_
        refine ⟨_, rfl, c, ys, rfl, sq_seq (s2 _ _ hc), _, rfl, by omega, by omega, fun M hM => ?_⟩
        have s3 := s2.up (o := .lst []) hM
        have hM0 := s2.free hM
        refine lc_range (lo := 0) (n := ((ys.length : Nat) : Int).toNat) (fun j H' => Same H H' ∧ H' M = some (.lst ((List.replicate j true).map V.bl)))
          ⟨s3, upd_same⟩ ?_ ?_
        · rintro j H' hj ⟨s4, hM4⟩
          have hj1 : j < ds.length := by omega
          obtain ⟨d, hd⟩ : ∃ d, ds[j]? = some d := ⟨ds[j], List.getElem?_eq_getElem hj1⟩
          obtain ⟨x, hx, rx⟩ := ra.getD hd
          obtain ⟨y, hy, ry⟩ := rc.getD hd
          refine ⟨rfl, _, rfl, _, rfl, ix_seq_of (s4 _ _ ha) (at_of (j := j) (by omega) hx) ⟨_, rfl, _, rfl, ix_seq_of (s4 _ _ hc) (at_of (j := j) (by omega) hy) ?_⟩⟩
          have fd := hds d (List.mem_of_getElem? hd)
          cases n with
          | zero => exact fd.elim
          | succ m =>
            refine ⟨x, y, d, rfl, rx.same s4, ry.same s4, fd, fun H5 s5 => ⟨_, s5 _ _ hM4, by rw [List.length_map, List.length_replicate, line_eq]; omega, (s4.trans s5).wr hM0, ?_⟩⟩
            rw [upd_same, List.replicate_succ', List.map_append]
            rfl
        · rintro H' ⟨s4, hM4⟩
          refine ⟨M, _, rfl, SqL.of hM4, ?_⟩
          rw [all_true]
          exact k _ s4
      · obtain rfl := rv.intI
        obtain rfl := ru.intI
        refine ⟨_, rfl, by show 2 ≤ sizeLine; decide, fun p hp => ?_⟩
        have s1 : Same H (upd H p (.tup [.ty "list", .ty "tuple"])) := Same.nw hp
        refine ⟨_, p, _, _, _, false, rfl, upd_same, .cons (.ty _) (.cons (.ty _) .nil), .base (.int _), any_int, _, rfl, ?_⟩
        refine iteF ?_
        refine ⟨_, rfl, _, _, _, _, false, rfl, .ty _, .base (.int _), kit_ty (by decide +kernel), _, rfl, _, _, _, _, false, rfl, .ty _, .base (.int _), kit_ty (by decide +kernel), rfl, _, rfl, ?_⟩
        rw [decide_eq_true (rfl : V.bl false = V.bl false)]
        refine iteF ?_
        refine ⟨_, rfl, _, _, _, _, true, rfl, .ty _, .base (.int _), kit_ty (by decide +kernel), _, rfl, _, _, _, _, true, rfl, .ty _, .base (.int _), kit_ty (by decide +kernel), rfl, _, rfl, ?_⟩
        rw [decide_eq_true (rfl : V.bl true = V.bl true)]
        refine iteF ?_
        refine ⟨_, rfl, _, _, _, _, false, rfl, .ty _, .base (.int _), kit_ty (by decide +kernel), _, rfl, _, _, _, _, false, rfl, .ty _, .base (.int _), kit_ty (by decide +kernel), rfl, _, rfl, ?_⟩
        rw [decide_eq_true (rfl : V.bl false = V.bl false)]
        refine iteT ?_
        refine ⟨_, rfl, _, rfl, rfl, ?_⟩
        rw [decide_eq_true (rfl : V.int i = V.int i)]
        exact k _ s1
      · obtain rfl := rv.strI
        obtain rfl := ru.strI
        refine ⟨_, rfl, by show 2 ≤ sizeLine; decide, fun p hp => ?_⟩
        have s1 : Same H (upd H p (.tup [.ty "list", .ty "tuple"])) := Same.nw hp
        refine ⟨_, p, _, _, _, false, rfl, upd_same, .cons (.ty _) (.cons (.ty _) .nil), .base (.str _), any_str, _, rfl, ?_⟩
        refine iteF ?_
        refine ⟨_, rfl, _, _, _, _, false, rfl, .ty _, .base (.str _), kit_ty (by decide +kernel), _, rfl, _, _, _, _, false, rfl, .ty _, .base (.str _), kit_ty (by decide +kernel), rfl, _, rfl, ?_⟩
        rw [decide_eq_true (rfl : V.bl false = V.bl false)]
        refine iteF ?_
        refine ⟨_, rfl, _, _, _, _, false, rfl, .ty _, .base (.str _), kit_ty (by decide +kernel), _, rfl, _, _, _, _, false, rfl, .ty _, .base (.str _), kit_ty (by decide +kernel), rfl, _, rfl, ?_⟩
        rw [decide_eq_true (rfl : V.bl false = V.bl false)]
        refine iteF ?_
        refine ⟨_, rfl, _, _, _, _, true, rfl, .ty _, .base (.str _), kit_ty (by decide +kernel), _, rfl, _, _, _, _, true, rfl, .ty _, .base (.str _), kit_ty (by decide +kernel), rfl, _, rfl, ?_⟩
        rw [decide_eq_true (rfl : V.bl true = V.bl true)]
        refine iteT ?_
        refine ⟨_, rfl, _, rfl, rfl, ?_⟩
        rw [decide_eq_true (rfl : V.str z = V.str z)]
        exact k _ s1
end
end Ln
end
section
namespace Ln
open PySem L2 TL HT
theorem fit_pair (n : Nat) (p : Pair) : Fit (n + 2) (pairD p) := ⟨by show 2 ≤ 4000000; decide, fun d hd => by
  rcases List.mem_cons.mp hd with rfl | hd
  · trivial
  · rw [List.mem_singleton.mp hd]; trivial⟩
theorem fit_map {α : Type} {n : Nat} {g : α → Dt} {l : List α} (h : ∀ x ∈ l, Fit n (g x)) : ∀ d ∈ l.map g, Fit n d := fun d hd => by
  obtain ⟨x, hx, rfl⟩ := List.mem_map.mp hd
  exact h x hx
theorem fit_form (n : Nat) {f : Form} (h : (formText f).length ≤ B) : Fit (n + 4) (formD f) := ⟨by show 2 ≤ 4000000; decide, fun d hd => by
  rcases List.mem_cons.mp hd with rfl | hd
  · trivial
  · rw [List.mem_singleton.mp hd]
    have e := pairs_le h
    have : B = 1048576 := rfl
    exact ⟨by rw [List.length_map]; omega, fit_map fun p _ => fit_pair n p⟩⟩
theorem fit_forms (n : Nat) {fs : List Form} (h : fs.length ≤ B) (h2 : ∀ f ∈ fs, (formText f).length ≤ B) : Fit (n + 5) (formsD fs) := by
  have : B = 1048576 := rfl
  exact ⟨by rw [List.length_map]; omega, fit_map fun f hf => fit_form n (h2 f hf)⟩
theorem fit_edge (n : Nat) {e : Edge} (h : (edgeText e).length ≤ B) : Fit (n + 6) (edgeD e) := ⟨by show 3 ≤ 4000000; decide, fun d hd => by
  obtain ⟨h1, h2⟩ := words_le (w := "edge") (a := e.rows) (b := e.k) (fs := e.moves) h
  rcases List.mem_cons.mp hd with rfl | hd
  · trivial
  rcases List.mem_cons.mp hd with rfl | hd
  · exact fit_forms n h1 h2
  · rw [List.mem_singleton.mp hd]; trivial⟩
theorem fit_frame (n : Nat) {e : Frame} (h : (frameText e).length ≤ B) : Fit (n + 6) (frameD e) := ⟨by show 3 ≤ 4000000; decide, fun d hd => by
  obtain ⟨h1, h2⟩ := words_le (w := "frame") (a := e.f) (b := e.at_) (fs := e.forms) h
  rcases List.mem_cons.mp hd with rfl | hd
  · trivial
  rcases List.mem_cons.mp hd with rfl | hd
  · trivial
  · rw [List.mem_singleton.mp hd]
    exact fit_forms n h1 h2⟩
theorem fit_stand {s : Stand} (hs : StandOk s) (h1 : (standLines s).length ≤ 2000000) (h2 : ∀ l ∈ standLines s, l.length ≤ B) : Fit 8 (standD s) := ⟨by show 3 ≤ 4000000; decide, fun d hd => by
  have e := standLines_len s
  rcases List.mem_cons.mp hd with rfl | hd
  · trivial
  rcases List.mem_cons.mp hd with rfl | hd
  · exact ⟨by rw [List.length_map]; omega, fit_map fun f hf => fit_frame 0 (h2 _ (paper_in hf))⟩
  · rw [List.mem_singleton.mp hd]
    refine ⟨?_, fun d hd => ?_⟩
    · have hdk := hs.2.2.1
      have r4 : s.deed.nums.length ≤ 2 := by rcases kind_cases hdk with ⟨_, q⟩ | ⟨_, q⟩ | ⟨_, q⟩ | ⟨_, q⟩ <;> (have := (Prod.mk.inj q).1; omega)
      show (Dt.str s.deed.word :: (s.deed.nums.map Dt.int ++ s.deed.edges.map edgeD)).length ≤ _
      rw [List.length_cons, List.length_append, List.length_map, List.length_map]
      omega
    · rcases List.mem_cons.mp hd with rfl | hd
      · trivial
      rcases List.mem_append.mp hd with hd | hd
      · obtain ⟨x, _, rfl⟩ := List.mem_map.mp hd
        trivial
      · obtain ⟨x, hx, rfl⟩ := List.mem_map.mp hd
        exact fit_edge 0 (h2 _ (edge_in hx))⟩
theorem fit_lane {L : List Stand} (h : LaneOk L) (hB : (laneText L).length ≤ B) : Fit 9 (laneD L) := by
  obtain ⟨h1, h2⟩ := lane_many h.1 hB
  have hBB : B = 1048576 := rfl
  refine ⟨?_, fit_map fun s hs => fit_stand (h.2 s hs) ?_ fun l hl => h2 l (lines_in hs hl)⟩
  · rw [List.length_map]
    have : L.length ≤ (laneLines L).length := by
      clear h h1 h2 hB
      unfold laneLines
      induction L with
      | nil => exact Nat.le_refl _
      | cons s r ih =>
        rw [List.map_cons, List.flatten_cons, List.length_append, List.length_cons, standLines_len]
        omega
    omega
  · have := stand_part hs
    omega
theorem lane_len : ∀ (L : List Stand), L.length ≤ (laneLines L).length
  | [] => Nat.le_refl _
  | s :: r => by
    have ih := lane_len r
    show _ ≤ (standLines s ++ laneLines r).length
    rw [List.length_append, List.length_cons, standLines_len]
    omega
/-- data without lists -/
inductive Plain : Dt → Prop
  | int (i : Int) : Plain (.int i)
  | str (s : Str) : Plain (.str s)
  | tup {ds : List Dt} (h : ∀ d ∈ ds, Plain d) : Plain (.tup ds)
mutual
theorem plain_one {N N' : Addr → Prop} {H : Hp} : ∀ {v : V} {d : Dt}, Plain d → Rep N H v d → Rep N' H v d
  | _, _, _, .int i => .int i
  | _, _, _, .str s => .str s
  | _, _, p, .tup h r => .tup h (plain_all (by cases p with | tup h => exact h) r)
  | _, _, p, .lst _ _ _ _ => nomatch p
theorem plain_all {N N' : Addr → Prop} {H : Hp} : ∀ {vs : List V} {ds : List Dt}, (∀ d ∈ ds, Plain d) → Reps N H vs ds → Reps N' H vs ds
  | _, _, _, .nil => .nil
  | _, _, p, .cons h r => .cons (plain_one (p _ List.mem_cons_self) h) (plain_all (fun d hd => p d (List.mem_cons_of_mem _ hd)) r)
end
theorem plain_map {α : Type} {g : α → Dt} {l : List α} (h : ∀ x, Plain (g x)) : ∀ d ∈ l.map g, Plain d := fun d hd => by
  obtain ⟨x, _, rfl⟩ := List.mem_map.mp hd
  exact h x
theorem two_plain {a b : Dt} (ha : Plain a) (hb : Plain b) : ∀ d ∈ [a, b], Plain d := fun d hd => by
  rcases List.mem_cons.mp hd with rfl | hd
  · exact ha
  · rw [List.mem_singleton.mp hd]
    exact hb
theorem three_plain {a b c : Dt} (ha : Plain a) (hb : Plain b) (hc : Plain c) : ∀ d ∈ [a, b, c], Plain d := fun d hd => by
  rcases List.mem_cons.mp hd with rfl | hd
  · exact ha
  · exact two_plain hb hc d hd
theorem form_plain (f : Form) : Plain (formD f) := .tup (two_plain (.int _) (.tup (plain_map fun _ => .tup (two_plain (.int _) (.int _)))))
theorem edge_plain (e : Edge) : Plain (edgeD e) := .tup (three_plain (.int _) (.tup (plain_map form_plain)) (.int _))
theorem frame_plain (e : Frame) : Plain (frameD e) := .tup (three_plain (.int _) (.int _) (.tup (plain_map form_plain)))
theorem deed_plain {dd : Deed} : ∀ d ∈ deedDs dd, Plain d := fun d hd => by
  rcases deed_part hd with ⟨_, rfl⟩ | ⟨_, rfl⟩ | ⟨e, rfl⟩
  · exact .str _
  · exact .int _
  · exact edge_plain e
/-- list(..) -/
def rListOf (K : PySem.W.Frag) : List V → Hp → VK → Prop := fun xs H Q => ∃ p ys, xs = [.ref p] ∧ (SqL K H p ys ∨ SqT K H p ys) ∧ ∀ l, H l = none → Q (.ref l) (upd H l (.lst ys))
def spLaw (K : PySem.W.Frag) : Sp := fun vs H Q _ => ∃ (a : Addr) (ns : List Int), vs = [.ref a] ∧ SqL K H a (ns.map V.int) ∧ ns.length ≤ 63 ∧ ∀ H', Q (.bl true) H'
/-- the picks' lists -/
def Picks (H : Hp) (vs : List V) : Prop := ∀ v ∈ vs, ∃ (p : Addr) (p0 p1 p2 : Int), v = .ref p ∧ H p = some (.lst [.int p0, .int p1, .int p2])
theorem Picks.keep {H H' : Hp} {vs : List V} (h : Picks H vs) (s : Keep H H') : Picks H' vs := fun v hv => by
  obtain ⟨p, p0, p1, p2, e, hp⟩ := h v hv
  exact ⟨p, p0, p1, p2, e, s _ _ hp rfl⟩
theorem Picks.refs {H : Hp} {vs : List V} (h : Picks H vs) : AllRef vs := fun v hv => by
  obtain ⟨p, _, _, _, e, _⟩ := h v hv
  exact ⟨p, e⟩
section
variable {P : Program} {w : World} {K : PySem.W.Frag} {mg : Str → Option Value} {base : Heap} {C CL CN CF : Addr}
abbrev nLaw : List Str := ["script", "bag", "picks", "k", "text", "pick", "found", "told", "held", "many", "paper", "deed", "again"]
theorem scLaw : FnScope nLaw ["script"] (defScope sLaw) := ⟨rfl, rfl, rfl, by decide +kernel, rfl, by decide +kernel, by decide +kernel⟩
theorem ok_law {f fB fD fWL fLW fBT fLA fR fLS fA fRL : Addr} {fd fdB fdD fdWL fdLW fdBT fdLA fdR fdLS fdA fdRL : FuncData} (T : Txt K mg C) (D : Df K mg "law" sLaw ["script"] f fd)
    (DB : Df K mg "_law_bag" sBag ["script"] fB fdB) (GB : FnOk P w K mg base CX0 1 fB fdB ["script"] (spBag K))
    (DD : Df K mg "_law_draw" sDraw ["bag", "many"] fD fdD) (GD : FnOk P w K mg base CX0 1 fD fdD ["bag", "many"] spDraw)
    (DWL : Df K mg "_law_wild_lane" sWLane ["bag"] fWL fdWL) (GWL : FnOk P w K mg base CX0 5 fWL fdWL ["bag"] spWLane)
    (DLW : Df K mg "_law_lane_written" sLaneW ["lane"] fLW fdLW) (GLW : FnOk P w K mg base CX0 3 fLW fdLW ["lane"] spLaneW)
    (DBT : Df K mg "_law_bent_text" sBent ["text", "pick", "bag"] fBT fdBT) (GBT : FnOk P w K mg base CX0 4 fBT fdBT ["text", "pick", "bag"] spBent)
    (DLA : Df K mg "_law_line_again" sAgain ["text", "pick"] fLA fdLA) (GLA : FnOk P w K mg base CX0 1 fLA fdLA ["text", "pick"] spAgain)
    (DR : Df K mg "_law_read" sRead ["text"] fR fdR) (GR : FnOk P w K mg base CX0 7 fR fdR ["text"] spRead)
    (DLS : Df K mg "shown_lane" sLaneS ["lane"] fLS fdLS) (GLS : FnOk P w K mg base CX0 5 fLS fdLS ["lane"] spLaneS)
    (DA : Df K mg "_law_alike" sAlike ["found", "due"] fA fdA) (GA : FnOk P w K mg base CX0 9 fA fdA ["found", "due"] (spAlike 9))
    (DRL : Df K mg "read_lane" sLane ["text"] fRL fdRL) (GRL : FnOk P w K mg base (L2.CX P w) 6 fRL fdRL ["text"] (spLane C)) : FnOk P w K mg base CX0 10 f fd ["script"] (spLaw K) := by
  refine D.F.ok scLaw (fun vs H Q E h => ?_) (fun cdv A outer s H vs Q E hr h => ?_)
  · obtain ⟨a, ns, rfl, _⟩ := h
    rfl
  · obtain ⟨a, ns, rfl, ha, hlen, k⟩ := h
    have hBB : B = 1048576 := rfl
    refine ⟨_, (pss_cons (ps_set (i := 1) scLaw.nd rfl (Or.inl rfl) (pe_call GB (hr.mono (by decide)) (by rfl) DB.g DB.F.kp DB.b .nil pass0 (pa_cons (pv 0) pa_nil)))
      (pss_cons (ps_set (i := 2) scLaw.nd rfl (Or.inl rfl) (pe_lst pa_nil))
      (pss_cons (ps_for PassesOwn.never rfl (pi_range1 (by rfl) T.range (pa_cons (pe_call GD (hr.mono (by decide)) (by rfl) DD.g DD.F.kp DD.b .nil pass0 (pa_cons (pv 1) (pa_cons pe_int pa_nil))) pa_nil)) (pg_name (i := 3) scLaw.nd rfl (Or.inl rfl))
        (pss_one (ps_expr (pe_bm PySem.F.plainAttrs_list PySem.F.slot_list_append PySem.F.type_list_append mt_append (pv 2) (pa_cons (pe_lst (pa_cons (pe_call GD (hr.mono (by decide)) (by rfl) DD.g DD.F.kp DD.b .nil pass0 (pa_cons (pv 1) (pa_cons pe_int pa_nil))) (pa_cons (pe_call GD (hr.mono (by decide)) (by rfl) DD.g DD.F.kp DD.b .nil pass0 (pa_cons (pv 1) (pa_cons (pe_op op_pow pe_int pe_int) pa_nil))) (pa_cons (pe_call GD (hr.mono (by decide)) (by rfl) DD.g DD.F.kp DD.b .nil pass0 (pa_cons (pv 1) (pa_cons pe_int pa_nil))) pa_nil)))) pa_nil)))))
      (pss_cons (ps_set (i := 4) scLaw.nd rfl (Or.inl rfl) (pe_call GLW (hr.mono (by decide)) (by rfl) DLW.g DLW.F.kp DLW.b .nil pass0 (pa_cons (pe_call GWL (hr.mono (by decide)) (by rfl) DWL.g DWL.F.kp DWL.b .nil pass0 (pa_cons (pv 1) pa_nil)) pa_nil)))
      (pss_cons (ps_for PassesOwn.never rfl (pi_list (pv 2)) (pg_name (i := 5) scLaw.nd rfl (Or.inl rfl))
        (pss_one (ps_if (pt_cmpR op_lt (pe_ix ix_list (pv 5) pe_int (fun _ _ => rfl)) pe_int (nomark _))
          (pss_one (ps_set (i := 4) scLaw.nd rfl (Or.inl rfl) (pe_call GBT (hr.mono (by decide)) (by rfl) DBT.g DBT.F.kp DBT.b .nil pass0 (pa_cons (pv 4) (pa_cons (pv 5) (pa_cons (pv 1) pa_nil))))))
          (pss_one (ps_set (i := 4) scLaw.nd rfl (Or.inl rfl) (pe_call GLA (hr.mono (by decide)) (by rfl) DLA.g DLA.F.kp DLA.b .nil pass0 (pa_cons (pv 4) (pa_cons (pv 5) pa_nil))))))))
      (pss_cons (ps_asg (pe_call GR (hr.mono (by decide)) (by rfl) DR.g DR.F.kp DR.b .nil pass0 (pa_cons (pv 4) pa_nil)) (pg_tup rfl (pgs_cons (pg_name (i := 6) scLaw.nd rfl (Or.inl rfl)) (pgs_cons (pg_name (i := 7) scLaw.nd rfl (Or.inl rfl)) pgs_nil))))
      (pss_cons (ps_if (pt_cmpR (op_neNil hr.units0) (pv 7) (pe_lst pa_nil) (nomark _))
        (pss_one (ps_ret (pe_and (pe_cmpR op_isN (pv 6) pe_non (nomark _)) (pe_and (pe_cmpR (op_eqD hr.units) (pv 7) (pe_lst (pa_cons pe_bl (pa_cons pe_bl (pa_cons pe_bl pa_nil)))) (nomark _)) (pe_one (pe_cmpR op_gt (pe_callB call_len_seq (by rfl) T.len (by decide +kernel) (pa_cons (pv 2) pa_nil)) pe_int (nomark _)))))))
        pss_nil)
      (pss_cons (ps_setLc (i := 8) (own := [("many", 9), ("paper", 10), ("deed", 11)]) (g := (gTup K 3 (gCons (gName 9) (gCons (gName 10) (gCons (gName 11) gNil))))) (tt := tYes) (by rfl) scLaw.nd rfl rfl (sw_true rfl rfl rfl (by decide +kernel)) (pi_list (pv 6)) (blkOk_by (N := nLaw) (sc := defScope sLaw) (by decide +kernel)) (fun _ _ _ _ _ => (pg_tup rfl (pgs_cons (pg_name (i := 9) scLaw.nd rfl (Or.inl rfl)) (pgs_cons (pg_name (i := 10) scLaw.nd rfl (Or.inl rfl)) (pgs_cons (pg_name (i := 11) scLaw.nd rfl (Or.inl rfl)) pgs_nil))))) (fun _ _ _ _ _ => pts_nil) (fun _ _ _ _ _ => (pe_tup (pa_cons (pv 9) (pa_cons (pe_callTy (show CallR _ (.type "list") (rListOf K) from call_list_of) (by rfl) T.list (by decide +kernel) (pa_cons (pv 10) pa_nil)) (pa_cons (pv 11) pa_nil))))))
      (pss_cons (ps_set (i := 12) scLaw.nd rfl (Or.inl rfl) (pe_call GLS (hr.mono (by decide)) (by rfl) DLS.g DLS.F.kp DLS.b .nil pass0 (pa_cons (pv 6) pa_nil)))
      (pss_cons (ps_if (PW.pt (pw_or (pt_not (pt_val (pe_callB call_isi (by rfl) T.isi (by decide +kernel) (pa_cons (pv 12) (pa_cons (pe_bltn (v := .ty "str") (by rfl) T.str (by decide +kernel) rfl) pa_nil))))) (pw_or (pt_cmpR op_ne (pv 12) (pv 4) (nomark _)) (pw_or1 (pt_not (pt_val (pe_call GA hr (by rfl) DA.g DA.F.kp DA.b .nil pass0 (pa_cons (pv 6) (pa_cons (pv 8) pa_nil)))))))))
        (pss_one (ps_ret pe_bl))
        pss_nil)
      (pss_one (ps_ret (pe_call GA hr (by rfl) DA.g DA.F.kp DA.b .nil pass0 (pa_cons (pe_callS GRL (hr.mono (by decide)) (by rfl) DRL.g DRL.F.kp DRL.b (fun σ => passAt takes0 σ) (pa_cons (pv 12) pa_nil)) (pa_cons (pv 8) pa_nil))))))))))))))), ?_⟩
    refine ⟨_, rfl, a, ns, rfl, ha, hlen, fun H1 b l s1 hb1 => ⟨Nat.zero_le _, fun g hg => ?_⟩⟩
    have gn := hb1.ne hg
    refine ⟨_, rfl, b, l, 4, rfl, hb1.upd hg, by decide, by decide, fun n H2 n0 n4 hb2 k2 => ⟨n, rfl, by omega, by omega, ?_⟩⟩
    have fg : Fresh H1 g := (Keep.refl H1).fresh hg
    have k1 : Keep H1 (upd H1 g (.lst [])) := (Same.nw hg).keep
    refine for_range (fun i σ H' => ∃ v3 vs, σ = [some (.ref a), some (.ref b), some (.ref g), v3, none, none, none, none, none, none, none, none, none] ∧ BagAt H' b l ∧ Keep H1 H' ∧ H' g = some (.lst vs) ∧ Picks H' vs ∧ vs.length = i)
      ⟨none, [], rfl, hb2, k1.trans k2, k2 _ _ upd_same rfl, (fun _ z => nomatch z), rfl⟩ ?_ ?_
    · rintro i σ H3 hi ⟨v3, vs, rfl, hb3, k3, hg3, hps, hl⟩
      refine ⟨_, rfl, .inl ⟨rfl, _, SqL.of hg3⟩, _, rfl, b, l, 7, rfl, hb3, by decide, by decide, fun p0 H4 _ _ hb4 k4 => ⟨_, rfl, _, _, rfl, rfl, ⟨by decide, by decide, by decide⟩, b, l, _, rfl, hb4, by decide, by decide, fun p1 H5 _ _ hb5 k5 =>
        ⟨_, rfl, b, l, 131, rfl, hb5, by decide, by decide, fun p2 H6 _ _ hb6 k6 => ⟨by show 3 ≤ sizeLine; decide, fun x hx => ?_⟩⟩⟩⟩
      have k36 := (k4.trans k5).trans k6
      have st : Same H6 (upd H6 x (.lst [.int p0, .int p1, .int p2])) := Same.nw hx
      have k37 := k36.trans st.keep
      refine ⟨g, vs, _, rfl, rfl, k37 _ _ hg3 (bagLike_refs hps.refs), by rw [line_eq]; omega, ?_⟩
      have gx : g ≠ x := ne_of_none (k36 _ _ hg3 (bagLike_refs hps.refs)) hx
      refine ⟨_, vs ++ [.ref x], rfl, (hb6.upd hx).wr gn, (k3.trans k37).wr fg, upd_same, fun v hv => ?_, by rw [List.length_append, hl]; rfl⟩
      have h37 := k37 _ _ hg3 (bagLike_refs hps.refs)
      rcases List.mem_append.mp hv with z | z
      · obtain ⟨p, q0, q1, q2, e, hp⟩ := (hps.keep k37) v z
        refine ⟨p, q0, q1, q2, e, ?_⟩
        rw [upd_ne]
        · exact hp
        · intro e2
          rw [e2, h37] at hp
          have hp := HO.lst.inj (Option.some.inj hp)
          obtain ⟨y, hy⟩ := hps.refs (.int q0) (by rw [hp]; exact List.mem_cons_self)
          cases hy
      · rw [List.mem_singleton.mp z]
        exact ⟨x, p0, p1, p2, rfl, by rw [upd_ne gx.symm]; exact upd_same⟩
    · rintro σ H3 ⟨v3, vs, rfl, hb3, k3, hg3, hps, hl⟩
      have hvl : vs.length ≤ 3 := by omega
      refine ⟨_, rfl, b, l, rfl, hb3, fun L0 p H4 hne hl5 hsm hb4 k4 r4 => ⟨_, L0, rfl, r4, ⟨hne, fun s hs => (hsm s hs).1⟩, by have := lane_sm hsm hl5; omega, fun H5 s5 => ?_⟩⟩
      have ok0 : LaneOk L0 := ⟨hne, fun s hs => (hsm s hs).1⟩
      have len0 := lane_sm hsm hl5
      have k35 := k4.trans s5.keep
      have hb5 : BagAt H5 b l := by
        obtain ⟨ns', i', r', st', n', e1, e2, z⟩ := hb4.ex
        exact ⟨ns', i', r', st', n', s5 _ _ e1, s5 _ _ e2, z⟩
      have hps5 := hps.keep k35
      have hg5 := k35 _ _ hg3 (bagLike_refs hps.refs)
      refine ⟨_, rfl, g, rfl, ⟨_, SqL.of hg5⟩, for_list (K := K) (a := g) (xs := vs) (fun i σ H' => ∃ t v5, σ = [some (.ref a), some (.ref b), some (.ref g), v3, some (.str t), v5, none, none, none, none, none, none, none] ∧ BagAt H' b l ∧ Keep H5 H' ∧
          t.length + 20 ≤ 65536 * 2 ^ i ∧ (i = 0 → t = laneText L0)) ⟨_, none, rfl, hb5, Keep.refl _, by show (laneText L0).length + 20 ≤ 65536; omega, fun _ => rfl⟩ (fun i σ H' _ ⟨_, _, _, _, k6, _⟩ => SqL.of (k6 _ _ hg5 (bagLike_refs hps.refs))) ?_ ?_⟩
      · rintro i x _ H6 hi ⟨t, v5, rfl, hb6, k6, htl, _⟩
        have hil := get_lt hi
        obtain ⟨p, p0, p1, p2, rfl, hp⟩ := (hps5.keep k6) x (List.mem_of_getElem? hi)
        have h2i : 2 ^ i ≤ 2 ^ 2 := Nat.pow_le_pow_right (by decide) (by omega)
        have h2s : 2 ^ (i + 1) = 2 * 2 ^ i := by rw [Nat.pow_succ, Nat.mul_comm]
        have h2p : 1 ≤ 2 ^ i := Nat.one_le_two_pow
        refine ⟨_, rfl, p, _, 0, _, rfl, rfl, SqL.of hp, rfl, _, _, rfl, rfl, _, rfl, ?_⟩
        by_cases c : p0 < 5
        · rw [decide_eq_true c]
          refine iteT ⟨_, rfl, _, rfl, _, rfl, t, p, b, l, p0, p1, p2, rfl, by omega, hp, hb6, fun r H7 hr7 hb7 k7 => ⟨r, _, rfl, hb7, k6.trans k7, by omega, fun e => by omega⟩⟩
        · rw [decide_eq_false c]
          refine iteF ⟨_, rfl, _, rfl, t, p, p0, p1, p2, rfl, by omega, hp, fun r H7 hr7 s7 => ⟨r, _, rfl, ?_, k6.trans s7.keep, by omega, fun e => by omega⟩⟩
          obtain ⟨ns', i', r', st', n', e1, e2, z⟩ := hb6.ex
          exact ⟨ns', i', r', st', n', s7 _ _ e1, s7 _ _ e2, z⟩
      · rintro _ H6 ⟨t, v5, rfl, hb6, k6, htl, ht0⟩
        have h2i : 2 ^ vs.length ≤ 2 ^ 3 := Nat.pow_le_pow_right (by decide) hvl
        have htB : t.length ≤ B := by omega
        have hg6 := k6 _ _ hg5 (bagLike_refs hps.refs)
        refine ⟨_, rfl, t, rfl, htB, fun L hL H7 r v q s7 hr7 hq7 rv => ?_, fun hn H7 r q s7 hr7 hq7 => ?_⟩
        · refine ⟨r, _, rfl, SqT.of hr7, rfl, _, _, rfl, _, _, rfl, rfl, ?_⟩
          obtain ⟨et, okL⟩ := readLane_back hL
          have hLB : (laneText L).length ≤ B := by rw [et]; exact htB
          refine ⟨_, rfl, Nat.zero_le _, fun z hz => ⟨q, z, _, rfl, rfl, SqL.of (by rw [upd_ne (ne_of_none hq7 hz)]; exact hq7), SqL.of upd_same, _, rfl, ?_⟩⟩
          refine iteF ?_
          dsimp only [tNext]
          have s8 := Same.nw (H := H7) (o := .lst []) hz
          obtain ⟨fa, xs, rfl, _, hfa, alf, rf⟩ := rv.lstI
          have hfa8 := s8 _ _ hfa
          refine ⟨_, rfl, fa, rfl, ⟨_, SqL.of hfa8⟩, fun M hM => ?_⟩
          have s9 := s8.up (o := .lst []) hM
          have hM7 := s8.free hM
          refine lc_list (K := K) (a := fa) (xs := xs) (fun j H' => ∃ ws, Same H7 H' ∧ H' M = some (.lst ws) ∧ AllRef ws ∧ Reps (fun x => x ≠ M) H' ws ((L.take j).map standD))
            ⟨[], s9, upd_same, (fun _ z => nomatch z), .nil⟩ (fun j H' _ ⟨_, s10, _⟩ => SqL.of (s10 _ _ hfa)) ?_ ?_
          · rintro j x H' hj ⟨ws, s10, hM10, alw, rw_⟩
            obtain ⟨d, hd, rx⟩ := rf.get hj
            obtain ⟨st, hst, rfl⟩ := map_get hd
            obtain ⟨ta, pa, da, ps, us, rfl, hta, _, hpa, alp, rp, hda, rd⟩ := rep_stand rx
            refine ⟨ta, _, rfl, SqT.of (s10 _ _ hta), rfl, _, _, rfl, _, _, rfl, _, _, rfl, rfl, rfl, ?_⟩
            refine ⟨_, rfl, _, rfl, pa, ps, rfl, .inl (SqL.of (s10 _ _ hpa)), fun u hu => ⟨_, rfl, by show 3 ≤ sizeLine; decide, fun y hy => ?_⟩⟩
            have s11 : Same H' (upd (upd H' u (.lst ps)) y (.tup [.int st.many, .ref u, .ref da])) := (Same.nw hu).up hy
            have uM : u ≠ M := (ne_of_none hM10 hu).symm
            have hlw := rw_.length
            rw [List.length_map] at hlw
            have htk := take_le (l := L) (i := j)
            have hLl : L.length ≤ B + 1 := by
              obtain ⟨m1, _⟩ := lane_many okL.1 hLB
              have : L.length ≤ (laneLines L).length := lane_len L
              omega
            refine ⟨_, s11 _ _ hM10, by rw [line_eq]; omega, ws ++ [.ref y], (s10.trans s11).wr hM7, upd_same, alw.snoc, ?_⟩
            rw [take_map hst]
            refine ((rw_.same s11).wr (s11 _ _ hM10) fun _ z => z).snoc (Rep.wr ?_ (s11 _ _ hM10) fun _ z => z)
            have hu2 : upd (upd H' u (.lst ps)) y (.tup [.int st.many, .ref u, .ref da]) u = some (.lst ps) := Same.nw hy _ _ upd_same
            refine .tup upd_same (.cons (.int _) (.cons (.lst uM hu2 alp ?_) (.cons (.tup (s11 _ _ (s10 _ _ hda)) ?_) .nil)))
            · exact plain_all (plain_map frame_plain) (rp.same (s10.trans s11))
            · exact plain_all deed_plain (rd.same (s10.trans s11))
          · rintro H' ⟨ws, s10, hM10, alw, rw_⟩
            rw [List.take_of_length_le (by rw [rf.length, List.length_map]; exact Nat.le_refl _)] at rw_
            have rheld : Rep Any H' (.ref M) (laneD L) := .lst trivial hM10 alw (rw_.weak fun _ _ => trivial)
            have rfound : Rep Any H' (.ref fa) (laneD L) := (rv.same s10).weak fun _ _ => trivial
            have hfit := fit_lane okL hLB
            refine ⟨_, rfl, _, L, rfl, rfound, okL, hLB, fun H11 s11 => ?_⟩
            refine ⟨_, rfl, _, _, _, _, true, rfl, .ty _, .base (.str _), kit_ty (by decide +kernel), _, rfl, ?_⟩
            refine iteF ?_
            refine ⟨_, rfl, _, rfl, rfl, _, rfl, ?_⟩
            rw [decide_eq_true (by rw [et] : V.str (laneText L) = V.str t)]
            refine iteF ?_
            refine ⟨_, rfl, _, rfl, _, _, laneD L, rfl, rfound.same s11, rheld.same s11, hfit, fun H12 s12 => ⟨_, rfl, ?_⟩⟩
            refine iteF ?_
            have hrd : readLane (laneText L) = some L := by rw [et]; exact hL
            refine ⟨_, rfl, _, rfl, hLB, fun L' hL' H13 v13 s13 rv13 => ?_, fun hn => by rw [hrd] at hn; cases hn⟩
            rw [hrd] at hL'
            cases hL'
            exact ⟨_, rfl, _, _, laneD L, rfl, rv13.weak fun _ _ => trivial, ((rheld.same s11).same s12).same s13, hfit, fun H14 _ => k _⟩
        · refine ⟨r, _, rfl, SqT.of hr7, rfl, _, _, rfl, _, _, rfl, rfl, ?_⟩
          refine ⟨_, rfl, Nat.zero_le _, fun z hz => ⟨q, z, _, rfl, rfl, SqL.of (by rw [upd_ne (ne_of_none hq7 hz)]; exact hq7), SqL.of upd_same, _, rfl, ?_⟩⟩
          refine iteT ?_
          have s8 := Same.nw (H := H7) (o := .lst []) hz
          refine ⟨_, rfl, rfl, _, rfl, ?_⟩
          rw [decide_eq_true (rfl : V.non = V.non)]
          refine iteT ?_
          refine ⟨_, rfl, by show 3 ≤ sizeLine; decide, fun y hy => ?_⟩
          have s9 := s8.up (o := .lst [.bl true, .bl true, .bl false]) hy
          have dp : DpAll K (upd (upd H7 z (.lst [])) y (.lst [.bl true, .bl true, .bl false])) [.bl true, .bl true, .bl false] [.bool true, .bool true, .bool false] := .cons (.bl _) (.cons (.bl _) (.cons (.bl _) .nil))
          refine ⟨_, _, .lst (SqL.of (s9 _ _ hq7)) dp, .lst (SqL.of upd_same) dp, by decide +kernel, by decide +kernel, _, rfl, ?_⟩
          rw [show PyData.eqv (.list [.bool true, .bool true, .bool false]) (.list [.bool true, .bool true, .bool false]) = true by decide +kernel]
          refine iteT ?_
          refine ⟨_, rfl, g, _, rfl, .inl (SqL.of (s9 _ _ (s7 _ _ hg6))), _, _, rfl, rfl, ?_⟩
          have hpos : (0 : Int) < ((vs.length : Nat) : Int) := by
            by_cases h0 : vs.length = 0
            · rw [ht0 h0, readLane_fwd ok0] at hn
              cases hn
            · omega
          show Q (V.bl (decide (((vs.length : Nat) : Int) > 0))) _
          rw [decide_eq_true (show ((vs.length : Nat) : Int) > 0 from hpos)]
          exact k _
end
end Ln
end
section
namespace Ln
open PySem L2 TL HT
theorem kit_own_ty {K : PySem.W.Frag} {C : Addr} {T : String} {b : Bool} (h1 : PySem.W.kitMeta T = true) (h2 : PySem.W.subIn K (.ref C) (.type T) = some b) : PySem.W.kitOne K (.ref C) (.type T) = some b := by
  unfold PySem.W.kitOne
  rw [if_neg (fun z => by have := beq_iff_eq.mp z; cases this)]
  show (if PySem.W.kitMeta T = true then PySem.W.subIn K (.ref C) (.type T) else none) = some b
  rw [if_pos h1]
  exact h2
theorem kit_own_ref {K : PySem.W.Frag} {C D : Addr} {b : Bool} (hC : PySem.W.subIn K (.ref C) (.ref C) = some true) (hd : PySem.W.hasDictIn K D = true) (ht : PySem.W.typeIn K (.ref D) = some (.type "type")) (h4 : PySem.W.subIn K (.ref C) (.ref D) = some b) :
    PySem.W.kitOne K (.ref C) (.ref D) = some b := by
  unfold PySem.W.kitOne
  by_cases h : ((Value.ref C) == (Value.ref D)) = true
  · rw [if_pos h]
    have e := beq_iff_eq.mp h
    cases e
    exact hC.symm.trans h4
  · rw [if_neg h]
    obtain ⟨cd, hc, _⟩ := PySem.W.any_some hd
    have e2 : ((PySem.W.clsIn K D).isSome && PySem.W.typeIn K (.ref D) == some (.type "type")) = true := by rw [hc, ht] <;> rfl
    show (if ((PySem.W.clsIn K D).isSome && PySem.W.typeIn K (.ref D) == some (.type "type")) = true then PySem.W.subIn K (.ref C) (.ref D) else none) = some b
    rw [if_pos e2]
    exact h4

theorem all_mk {l : PySem.W.OpenLaw} {w : World} {K : PySem.W.Frag} {h : Heap} {mg : Str → Option Value} {fa C CL CN CF : Addr} (X : K.In h) (G : h.Ns mainGlobals mg) (hfa : mg "law" = some (.ref fa))
    {f1 f2 f3 f4 f5 f6 f7 f8 f9 f10 f11 f12 f13 f14 f15 f16 f17 f18 f19 f20 f21 f22 f23 f24 f25 f26 f27 : Addr} {od1 an1 od2 an2 od3 an3 od4 an4 od5 an5 od6 an6 od7 an7 od8 an8 od9 an9 od10 an10 od11 an11 od12 an12 od13 an13 od14 an14 od15 an15 od16 an16 od17 an17 od18 an18 od19 an19 od20 an20 od21 an21 od22 an22 od23 an23 od24 an24 od25 an25 od26 an26 od27 an27 : Option Addr} {sl1 sl2 sl3 sl4 sl5 sl6 sl7 sl8 sl9 sl10 sl11 sl12 sl13 sl14 sl15 sl16 sl17 sl18 sl19 sl20 sl21 sl22 sl23 sl24 sl25 sl26 sl27 : Array (Option Value)} {oc1 kV1 dc1 pm1 cd1 ct1 oc2 kV2 dc2 pm2 cd2 ct2 oc3 kV3 dc3 pm3 cd3 ct3 oc4 kV4 dc4 pm4 cd4 ct4 oc5 kV5 dc5 pm5 cd5 ct5 oc6 kV6 dc6 pm6 cd6 ct6 oc7 kV7 dc7 pm7 cd7 ct7 oc8 kV8 dc8 pm8 cd8 ct8 oc9 kV9 dc9 pm9 cd9 ct9 oc10 kV10 dc10 pm10 cd10 ct10 oc11 kV11 dc11 pm11 cd11 ct11 oc12 kV12 dc12 pm12 cd12 ct12 oc13 kV13 dc13 pm13 cd13 ct13 oc14 kV14 dc14 pm14 cd14 ct14 oc15 kV15 dc15 pm15 cd15 ct15 oc16 kV16 dc16 pm16 cd16 ct16 oc17 kV17 dc17 pm17 cd17 ct17 oc18 kV18 dc18 pm18 cd18 ct18 oc19 kV19 dc19 pm19 cd19 ct19 oc20 kV20 dc20 pm20 cd20 ct20 oc21 kV21 dc21 pm21 cd21 ct21 oc22 kV22 dc22 pm22 cd22 ct22 oc23 kV23 dc23 pm23 cd23 ct23 oc24 kV24 dc24 pm24 cd24 ct24 oc25 kV25 dc25 pm25 cd25 ct25 oc26 kV26 dc26 pm26 cd26 ct26 oc27 kV27 dc27 pm27 cd27 ct27 : Value} {tF tM : Tok}
    (a1 : PySem.W.nsIn K mainGlobals "read_whole" = some (some (.ref f1)))
    (l1 : K.lookup f1 = some ⟨oc1, od1, .func (PySem.W.fnOf "read_whole" "read_whole" (defArgs sWhole) (defBody sWhole) (defScope sWhole) .none kV1 dc1 pm1 an1 cd1 ct1), sl1⟩)
    (c1 : PySem.W.codeIn K cd1 "read_whole" = true)
    (k1 : PySem.W.keepIn K (.ref f1) = true)
    (a2 : PySem.W.nsIn K mainGlobals "form_shown" = some (some (.ref f2)))
    (l2 : K.lookup f2 = some ⟨oc2, od2, .func (PySem.W.fnOf "form_shown" "form_shown" (defArgs sFormS) (defBody sFormS) (defScope sFormS) .none kV2 dc2 pm2 an2 cd2 ct2), sl2⟩)
    (c2 : PySem.W.codeIn K cd2 "form_shown" = true)
    (k2 : PySem.W.keepIn K (.ref f2) = true)
    (a3 : PySem.W.nsIn K mainGlobals "edge_shown" = some (some (.ref f3)))
    (l3 : K.lookup f3 = some ⟨oc3, od3, .func (PySem.W.fnOf "edge_shown" "edge_shown" (defArgs sEdgeS) (defBody sEdgeS) (defScope sEdgeS) .none kV3 dc3 pm3 an3 cd3 ct3), sl3⟩)
    (c3 : PySem.W.codeIn K cd3 "edge_shown" = true)
    (k3 : PySem.W.keepIn K (.ref f3) = true)
    (a4 : PySem.W.nsIn K mainGlobals "stand_shown" = some (some (.ref f4)))
    (l4 : K.lookup f4 = some ⟨oc4, od4, .func (PySem.W.fnOf "stand_shown" "stand_shown" (defArgs sStandS) (defBody sStandS) (defScope sStandS) .none kV4 dc4 pm4 an4 cd4 ct4), sl4⟩)
    (c4 : PySem.W.codeIn K cd4 "stand_shown" = true)
    (k4 : PySem.W.keepIn K (.ref f4) = true)
    (a5 : PySem.W.nsIn K mainGlobals "shown_lane" = some (some (.ref f5)))
    (l5 : K.lookup f5 = some ⟨oc5, od5, .func (PySem.W.fnOf "shown_lane" "shown_lane" (defArgs sLaneS) (defBody sLaneS) (defScope sLaneS) .none kV5 dc5 pm5 an5 cd5 ct5), sl5⟩)
    (c5 : PySem.W.codeIn K cd5 "shown_lane" = true)
    (k5 : PySem.W.keepIn K (.ref f5) = true)
    (a6 : PySem.W.nsIn K mainGlobals "form_of" = some (some (.ref f6)))
    (l6 : K.lookup f6 = some ⟨oc6, od6, .func (PySem.W.fnOf "form_of" "form_of" (defArgs sForm) (defBody sForm) (defScope sForm) .none kV6 dc6 pm6 an6 cd6 ct6), sl6⟩)
    (c6 : PySem.W.codeIn K cd6 "form_of" = true)
    (k6 : PySem.W.keepIn K (.ref f6) = true)
    (a7 : PySem.W.nsIn K mainGlobals "numbers_of" = some (some (.ref f7)))
    (l7 : K.lookup f7 = some ⟨oc7, od7, .func (PySem.W.fnOf "numbers_of" "numbers_of" (defArgs sNums) (defBody sNums) (defScope sNums) .none kV7 dc7 pm7 an7 cd7 ct7), sl7⟩)
    (c7 : PySem.W.codeIn K cd7 "numbers_of" = true)
    (k7 : PySem.W.keepIn K (.ref f7) = true)
    (a8 : PySem.W.nsIn K mainGlobals "edge_of" = some (some (.ref f8)))
    (l8 : K.lookup f8 = some ⟨oc8, od8, .func (PySem.W.fnOf "edge_of" "edge_of" (defArgs sEdge) (defBody sEdge) (defScope sEdge) .none kV8 dc8 pm8 an8 cd8 ct8), sl8⟩)
    (c8 : PySem.W.codeIn K cd8 "edge_of" = true)
    (k8 : PySem.W.keepIn K (.ref f8) = true)
    (a9 : PySem.W.nsIn K mainGlobals "frame_of" = some (some (.ref f9)))
    (l9 : K.lookup f9 = some ⟨oc9, od9, .func (PySem.W.fnOf "frame_of" "frame_of" (defArgs sFrame) (defBody sFrame) (defScope sFrame) .none kV9 dc9 pm9 an9 cd9 ct9), sl9⟩)
    (c9 : PySem.W.codeIn K cd9 "frame_of" = true)
    (k9 : PySem.W.keepIn K (.ref f9) = true)
    (a10 : PySem.W.nsIn K mainGlobals "deed_of" = some (some (.ref f10)))
    (l10 : K.lookup f10 = some ⟨oc10, od10, .func (PySem.W.fnOf "deed_of" "deed_of" (defArgs sDeed) (defBody sDeed) (defScope sDeed) .none kV10 dc10 pm10 an10 cd10 ct10), sl10⟩)
    (c10 : PySem.W.codeIn K cd10 "deed_of" = true)
    (k10 : PySem.W.keepIn K (.ref f10) = true)
    (a11 : PySem.W.nsIn K mainGlobals "stand_of" = some (some (.ref f11)))
    (l11 : K.lookup f11 = some ⟨oc11, od11, .func (PySem.W.fnOf "stand_of" "stand_of" (defArgs sStand) (defBody sStand) (defScope sStand) .none kV11 dc11 pm11 an11 cd11 ct11), sl11⟩)
    (c11 : PySem.W.codeIn K cd11 "stand_of" = true)
    (k11 : PySem.W.keepIn K (.ref f11) = true)
    (a12 : PySem.W.nsIn K mainGlobals "read_lane" = some (some (.ref f12)))
    (l12 : K.lookup f12 = some ⟨oc12, od12, .func (PySem.W.fnOf "read_lane" "read_lane" (defArgs sLane) (defBody sLane) (defScope sLane) .none kV12 dc12 pm12 an12 cd12 ct12), sl12⟩)
    (c12 : PySem.W.codeIn K cd12 "read_lane" = true)
    (k12 : PySem.W.keepIn K (.ref f12) = true)
    (a13 : PySem.W.nsIn K mainGlobals "_law_bag" = some (some (.ref f13)))
    (l13 : K.lookup f13 = some ⟨oc13, od13, .func (PySem.W.fnOf "_law_bag" "_law_bag" (defArgs sBag) (defBody sBag) (defScope sBag) .none kV13 dc13 pm13 an13 cd13 ct13), sl13⟩)
    (c13 : PySem.W.codeIn K cd13 "_law_bag" = true)
    (k13 : PySem.W.keepIn K (.ref f13) = true)
    (a14 : PySem.W.nsIn K mainGlobals "_law_draw" = some (some (.ref f14)))
    (l14 : K.lookup f14 = some ⟨oc14, od14, .func (PySem.W.fnOf "_law_draw" "_law_draw" (defArgs sDraw) (defBody sDraw) (defScope sDraw) .none kV14 dc14 pm14 an14 cd14 ct14), sl14⟩)
    (c14 : PySem.W.codeIn K cd14 "_law_draw" = true)
    (k14 : PySem.W.keepIn K (.ref f14) = true)
    (a15 : PySem.W.nsIn K mainGlobals "_law_number" = some (some (.ref f15)))
    (l15 : K.lookup f15 = some ⟨oc15, od15, .func (PySem.W.fnOf "_law_number" "_law_number" (defArgs sNumber) (defBody sNumber) (defScope sNumber) .none kV15 dc15 pm15 an15 cd15 ct15), sl15⟩)
    (c15 : PySem.W.codeIn K cd15 "_law_number" = true)
    (k15 : PySem.W.keepIn K (.ref f15) = true)
    (a16 : PySem.W.nsIn K mainGlobals "_law_wild_forms" = some (some (.ref f16)))
    (l16 : K.lookup f16 = some ⟨oc16, od16, .func (PySem.W.fnOf "_law_wild_forms" "_law_wild_forms" (defArgs sWForms) (defBody sWForms) (defScope sWForms) .none kV16 dc16 pm16 an16 cd16 ct16), sl16⟩)
    (c16 : PySem.W.codeIn K cd16 "_law_wild_forms" = true)
    (k16 : PySem.W.keepIn K (.ref f16) = true)
    (a17 : PySem.W.nsIn K mainGlobals "_law_wild_edge" = some (some (.ref f17)))
    (l17 : K.lookup f17 = some ⟨oc17, od17, .func (PySem.W.fnOf "_law_wild_edge" "_law_wild_edge" (defArgs sWEdge) (defBody sWEdge) (defScope sWEdge) .none kV17 dc17 pm17 an17 cd17 ct17), sl17⟩)
    (c17 : PySem.W.codeIn K cd17 "_law_wild_edge" = true)
    (k17 : PySem.W.keepIn K (.ref f17) = true)
    (a18 : PySem.W.nsIn K mainGlobals "_law_wild_lane" = some (some (.ref f18)))
    (l18 : K.lookup f18 = some ⟨oc18, od18, .func (PySem.W.fnOf "_law_wild_lane" "_law_wild_lane" (defArgs sWLane) (defBody sWLane) (defScope sWLane) .none kV18 dc18 pm18 an18 cd18 ct18), sl18⟩)
    (c18 : PySem.W.codeIn K cd18 "_law_wild_lane" = true)
    (k18 : PySem.W.keepIn K (.ref f18) = true)
    (a19 : PySem.W.nsIn K mainGlobals "_law_form_written" = some (some (.ref f19)))
    (l19 : K.lookup f19 = some ⟨oc19, od19, .func (PySem.W.fnOf "_law_form_written" "_law_form_written" (defArgs sFormW) (defBody sFormW) (defScope sFormW) .none kV19 dc19 pm19 an19 cd19 ct19), sl19⟩)
    (c19 : PySem.W.codeIn K cd19 "_law_form_written" = true)
    (k19 : PySem.W.keepIn K (.ref f19) = true)
    (a20 : PySem.W.nsIn K mainGlobals "_law_lane_written" = some (some (.ref f20)))
    (l20 : K.lookup f20 = some ⟨oc20, od20, .func (PySem.W.fnOf "_law_lane_written" "_law_lane_written" (defArgs sLaneW) (defBody sLaneW) (defScope sLaneW) .none kV20 dc20 pm20 an20 cd20 ct20), sl20⟩)
    (c20 : PySem.W.codeIn K cd20 "_law_lane_written" = true)
    (k20 : PySem.W.keepIn K (.ref f20) = true)
    (a21 : PySem.W.nsIn K mainGlobals "_law_any_sign" = some (some (.ref f21)))
    (l21 : K.lookup f21 = some ⟨oc21, od21, .func (PySem.W.fnOf "_law_any_sign" "_law_any_sign" (defArgs sSign) (defBody sSign) (defScope sSign) .none kV21 dc21 pm21 an21 cd21 ct21), sl21⟩)
    (c21 : PySem.W.codeIn K cd21 "_law_any_sign" = true)
    (k21 : PySem.W.keepIn K (.ref f21) = true)
    (a22 : PySem.W.nsIn K mainGlobals "_law_run" = some (some (.ref f22)))
    (l22 : K.lookup f22 = some ⟨oc22, od22, .func (PySem.W.fnOf "_law_run" "_law_run" (defArgs sRun) (defBody sRun) (defScope sRun) .none kV22 dc22 pm22 an22 cd22 ct22), sl22⟩)
    (c22 : PySem.W.codeIn K cd22 "_law_run" = true)
    (k22 : PySem.W.keepIn K (.ref f22) = true)
    (a23 : PySem.W.nsIn K mainGlobals "_law_bent_text" = some (some (.ref f23)))
    (l23 : K.lookup f23 = some ⟨oc23, od23, .func (PySem.W.fnOf "_law_bent_text" "_law_bent_text" (defArgs sBent) (defBody sBent) (defScope sBent) .none kV23 dc23 pm23 an23 cd23 ct23), sl23⟩)
    (c23 : PySem.W.codeIn K cd23 "_law_bent_text" = true)
    (k23 : PySem.W.keepIn K (.ref f23) = true)
    (a24 : PySem.W.nsIn K mainGlobals "_law_read" = some (some (.ref f24)))
    (l24 : K.lookup f24 = some ⟨oc24, od24, .func (PySem.W.fnOf "_law_read" "_law_read" (defArgs sRead) (defBody sRead) (defScope sRead) .none kV24 dc24 pm24 an24 cd24 ct24), sl24⟩)
    (c24 : PySem.W.codeIn K cd24 "_law_read" = true)
    (k24 : PySem.W.keepIn K (.ref f24) = true)
    (a25 : PySem.W.nsIn K mainGlobals "_law_alike" = some (some (.ref f25)))
    (l25 : K.lookup f25 = some ⟨oc25, od25, .func (PySem.W.fnOf "_law_alike" "_law_alike" (defArgs sAlike) (defBody sAlike) (defScope sAlike) .none kV25 dc25 pm25 an25 cd25 ct25), sl25⟩)
    (c25 : PySem.W.codeIn K cd25 "_law_alike" = true)
    (k25 : PySem.W.keepIn K (.ref f25) = true)
    (a26 : PySem.W.nsIn K mainGlobals "_law_line_again" = some (some (.ref f26)))
    (l26 : K.lookup f26 = some ⟨oc26, od26, .func (PySem.W.fnOf "_law_line_again" "_law_line_again" (defArgs sAgain) (defBody sAgain) (defScope sAgain) .none kV26 dc26 pm26 an26 cd26 ct26), sl26⟩)
    (c26 : PySem.W.codeIn K cd26 "_law_line_again" = true)
    (k26 : PySem.W.keepIn K (.ref f26) = true)
    (a27 : PySem.W.nsIn K mainGlobals "law" = some (some (.ref f27)))
    (l27 : K.lookup f27 = some ⟨oc27, od27, .func (PySem.W.fnOf "law" "law" (defArgs sLaw) (defBody sLaw) (defScope sLaw) .none kV27 dc27 pm27 an27 cd27 ct27), sl27⟩)
    (c27 : PySem.W.codeIn K cd27 "law" = true)
    (k27 : PySem.W.keepIn K (.ref f27) = true)
    (zstr : PySem.W.nsIn K mainGlobals "str" = some none)
    (zlen : PySem.W.nsIn K mainGlobals "len" = some none)
    (zint : PySem.W.nsIn K mainGlobals "int" = some none)
    (ztup : PySem.W.nsIn K mainGlobals "tuple" = some none)
    (zlst : PySem.W.nsIn K mainGlobals "list" = some none)
    (zran : PySem.W.nsIn K mainGlobals "range" = some none)
    (zisi : PySem.W.nsIn K mainGlobals "isinstance" = some none)
    (zall : PySem.W.nsIn K mainGlobals "all" = some none)
    (zboo : PySem.W.nsIn K mainGlobals "bool" = some none)
    (zabs : PySem.W.nsIn K mainGlobals "abs" = some none)
    (zve : PySem.W.nsIn K mainGlobals "ValueError" = some none)
    (vF : PySem.W.nsIn K mainGlobals "FIGURES" = some (some (.str "0123456789" tF)))
    (vM : PySem.W.nsIn K mainGlobals "MOST" = some (some (.int 300 tM)))
    (gC : PySem.W.nsIn K mainGlobals "NoText" = some (some (.ref C)))
    (gCL : PySem.W.nsIn K mainGlobals "LaneError" = some (some (.ref CL)))
    (gCN : PySem.W.nsIn K mainGlobals "NotFormed" = some (some (.ref CN)))
    (gCF : PySem.W.nsIn K mainGlobals "Faulty" = some (some (.ref CF)))
    (xC : PySem.W.excIn K C [.type "ValueError", .type "Exception", .type "BaseException", .type "object"] "ValueError.__new__" = true)
    (kC : PySem.W.keepIn K (.ref C) = true)
    (tC : PySem.W.typeIn K (.ref C) = some (.type "type"))
    (dC : PySem.W.hasDictIn K C = true)
    (tCL : PySem.W.typeIn K (.ref CL) = some (.type "type"))
    (dCL : PySem.W.hasDictIn K CL = true)
    (tCN : PySem.W.typeIn K (.ref CN) = some (.type "type"))
    (dCN : PySem.W.hasDictIn K CN = true)
    (tCF : PySem.W.typeIn K (.ref CF) = some (.type "type"))
    (dCF : PySem.W.hasDictIn K CF = true)
    (bC : PySem.W.subIn K (.ref C) (.type "BaseException") = some true)
    (bL : PySem.W.subIn K (.ref CL) (.type "BaseException") = some true)
    (sC : PySem.W.subIn K (.ref C) (.ref C) = some true)
    (sL : PySem.W.subIn K (.ref C) (.ref CL) = some true)
    (sN : PySem.W.subIn K (.ref C) (.ref CN) = some false)
    (sF : PySem.W.subIn K (.ref C) (.ref CF) = some false)
    (sV : PySem.W.subIn K (.ref C) (.type "ValueError") = some true)
    (eg : PySem.W.findIn K (.ref C) "__getattribute__" = some (some (.builtin "BaseException.__getattribute__")))
    (ek : PySem.W.findIn K (.ref C) "__getattr__" = some none)
    (ea : PySem.W.findIn K (.ref C) "__class__" = some (some (.builtin "object.__class__")))
    (en : PySem.W.specialIn K (.builtin "object.__class__") "__get__" = some (some (.builtin "getset_descriptor.__get__")))
    (et : PySem.W.takesIn K (.builtin "object.__class__") = some true)
    (em : PySem.W.mroIn K C (.type "object") = some true) :
    ∃ fd : FuncData, (∀ (s : Shared) (v : Value), BindsTo s fd ⟨[v], []⟩ [("script", v)]) ∧ ∀ base : Heap, K.In base → base.Ns mainGlobals mg → FnOk l.prog w K mg base CX0 10 fa fd ["script"] (spLaw K) := by

  have e := hfa.symm.trans (PySem.W.mg_of X G a27)
  cases e
  have T : Txt K mg C := { str := PySem.W.mg_none_of X G zstr, len := PySem.W.mg_none_of X G zlen, int := PySem.W.mg_none_of X G zint, tuple := PySem.W.mg_none_of X G ztup, list := PySem.W.mg_none_of X G zlst, range := PySem.W.mg_none_of X G zran, isi := PySem.W.mg_none_of X G zisi, all := PySem.W.mg_none_of X G zall, bool := PySem.W.mg_none_of X G zboo, abs := PySem.W.mg_none_of X G zabs, ve := PySem.W.mg_none_of X G zve, fig := ⟨_, PySem.W.mg_of X G vF⟩, most := ⟨_, PySem.W.mg_of X G vM⟩, gC := PySem.W.mg_of X G gC, xC := xC, kC := kC, bC := bC, tC := tC }
  have TX : Txe K mg C CL CN CF := { gL := PySem.W.mg_of X G gCL, gN := PySem.W.mg_of X G gCN, gF := PySem.W.mg_of X G gCF, te := PySem.W.exm_ref bL dCL tCL sL, ex := ⟨eg, ek, bC, dC, ea, en, et, em⟩, kV := kit_own_ty (by decide +kernel) sV, kC := kit_own_ref sC dC tC sC, kN := kit_own_ref sC dCN tCN sN, kF := kit_own_ref sC dCF tCF sF }
  have F1 := fun_mk (st := sWhole) l1 c1 k1
  have D1 : Df K mg "read_whole" sWhole ["text", "most"] _ _ := ⟨F1, PySem.W.mg_of X G a1, F1.binds (ps := ["text", "most"]) fun _ _ _ _ _ _ us hl => match us, hl with | [_, _], _ => rfl⟩
  have F2 := fun_mk (st := sFormS) l2 c2 k2
  have D2 : Df K mg "form_shown" sFormS ["form"] _ _ := ⟨F2, PySem.W.mg_of X G a2, F2.binds (ps := ["form"]) fun _ _ _ _ _ _ us hl => match us, hl with | [_], _ => rfl⟩
  have F3 := fun_mk (st := sEdgeS) l3 c3 k3
  have D3 : Df K mg "edge_shown" sEdgeS ["edge"] _ _ := ⟨F3, PySem.W.mg_of X G a3, F3.binds (ps := ["edge"]) fun _ _ _ _ _ _ us hl => match us, hl with | [_], _ => rfl⟩
  have F4 := fun_mk (st := sStandS) l4 c4 k4
  have D4 : Df K mg "stand_shown" sStandS ["stand"] _ _ := ⟨F4, PySem.W.mg_of X G a4, F4.binds (ps := ["stand"]) fun _ _ _ _ _ _ us hl => match us, hl with | [_], _ => rfl⟩
  have F5 := fun_mk (st := sLaneS) l5 c5 k5
  have D5 : Df K mg "shown_lane" sLaneS ["lane"] _ _ := ⟨F5, PySem.W.mg_of X G a5, F5.binds (ps := ["lane"]) fun _ _ _ _ _ _ us hl => match us, hl with | [_], _ => rfl⟩
  have F6 := fun_mk (st := sForm) l6 c6 k6
  have D6 : Df K mg "form_of" sForm ["text"] _ _ := ⟨F6, PySem.W.mg_of X G a6, F6.binds (ps := ["text"]) fun _ _ _ _ _ _ us hl => match us, hl with | [_], _ => rfl⟩
  have F7 := fun_mk (st := sNums) l7 c7 k7
  have D7 : Df K mg "numbers_of" sNums ["words", "many"] _ _ := ⟨F7, PySem.W.mg_of X G a7, F7.binds (ps := ["words", "many"]) fun _ _ _ _ _ _ us hl => match us, hl with | [_, _], _ => rfl⟩
  have F8 := fun_mk (st := sEdge) l8 c8 k8
  have D8 : Df K mg "edge_of" sEdge ["line"] _ _ := ⟨F8, PySem.W.mg_of X G a8, F8.binds (ps := ["line"]) fun _ _ _ _ _ _ us hl => match us, hl with | [_], _ => rfl⟩
  have F9 := fun_mk (st := sFrame) l9 c9 k9
  have D9 : Df K mg "frame_of" sFrame ["words"] _ _ := ⟨F9, PySem.W.mg_of X G a9, F9.binds (ps := ["words"]) fun _ _ _ _ _ _ us hl => match us, hl with | [_], _ => rfl⟩
  have F10 := fun_mk (st := sDeed) l10 c10 k10
  have D10 : Df K mg "deed_of" sDeed ["words"] _ _ := ⟨F10, PySem.W.mg_of X G a10, F10.binds (ps := ["words"]) fun _ _ _ _ _ _ us hl => match us, hl with | [_], _ => rfl⟩
  have F11 := fun_mk (st := sStand) l11 c11 k11
  have D11 : Df K mg "stand_of" sStand ["lines"] _ _ := ⟨F11, PySem.W.mg_of X G a11, F11.binds (ps := ["lines"]) fun _ _ _ _ _ _ us hl => match us, hl with | [_], _ => rfl⟩
  have F12 := fun_mk (st := sLane) l12 c12 k12
  have D12 : Df K mg "read_lane" sLane ["text"] _ _ := ⟨F12, PySem.W.mg_of X G a12, F12.binds (ps := ["text"]) fun _ _ _ _ _ _ us hl => match us, hl with | [_], _ => rfl⟩
  have F13 := fun_mk (st := sBag) l13 c13 k13
  have D13 : Df K mg "_law_bag" sBag ["script"] _ _ := ⟨F13, PySem.W.mg_of X G a13, F13.binds (ps := ["script"]) fun _ _ _ _ _ _ us hl => match us, hl with | [_], _ => rfl⟩
  have F14 := fun_mk (st := sDraw) l14 c14 k14
  have D14 : Df K mg "_law_draw" sDraw ["bag", "many"] _ _ := ⟨F14, PySem.W.mg_of X G a14, F14.binds (ps := ["bag", "many"]) fun _ _ _ _ _ _ us hl => match us, hl with | [_, _], _ => rfl⟩
  have F15 := fun_mk (st := sNumber) l15 c15 k15
  have D15 : Df K mg "_law_number" sNumber ["bag"] _ _ := ⟨F15, PySem.W.mg_of X G a15, F15.binds (ps := ["bag"]) fun _ _ _ _ _ _ us hl => match us, hl with | [_], _ => rfl⟩
  have F16 := fun_mk (st := sWForms) l16 c16 k16
  have D16 : Df K mg "_law_wild_forms" sWForms ["bag"] _ _ := ⟨F16, PySem.W.mg_of X G a16, F16.binds (ps := ["bag"]) fun _ _ _ _ _ _ us hl => match us, hl with | [_], _ => rfl⟩
  have F17 := fun_mk (st := sWEdge) l17 c17 k17
  have D17 : Df K mg "_law_wild_edge" sWEdge ["bag"] _ _ := ⟨F17, PySem.W.mg_of X G a17, F17.binds (ps := ["bag"]) fun _ _ _ _ _ _ us hl => match us, hl with | [_], _ => rfl⟩
  have F18 := fun_mk (st := sWLane) l18 c18 k18
  have D18 : Df K mg "_law_wild_lane" sWLane ["bag"] _ _ := ⟨F18, PySem.W.mg_of X G a18, F18.binds (ps := ["bag"]) fun _ _ _ _ _ _ us hl => match us, hl with | [_], _ => rfl⟩
  have F19 := fun_mk (st := sFormW) l19 c19 k19
  have D19 : Df K mg "_law_form_written" sFormW ["form"] _ _ := ⟨F19, PySem.W.mg_of X G a19, F19.binds (ps := ["form"]) fun _ _ _ _ _ _ us hl => match us, hl with | [_], _ => rfl⟩
  have F20 := fun_mk (st := sLaneW) l20 c20 k20
  have D20 : Df K mg "_law_lane_written" sLaneW ["lane"] _ _ := ⟨F20, PySem.W.mg_of X G a20, F20.binds (ps := ["lane"]) fun _ _ _ _ _ _ us hl => match us, hl with | [_], _ => rfl⟩
  have F21 := fun_mk (st := sSign) l21 c21 k21
  have D21 : Df K mg "_law_any_sign" sSign ["bag"] _ _ := ⟨F21, PySem.W.mg_of X G a21, F21.binds (ps := ["bag"]) fun _ _ _ _ _ _ us hl => match us, hl with | [_], _ => rfl⟩
  have F22 := fun_mk (st := sRun) l22 c22 k22
  have D22 : Df K mg "_law_run" sRun ["bag"] _ _ := ⟨F22, PySem.W.mg_of X G a22, F22.binds (ps := ["bag"]) fun _ _ _ _ _ _ us hl => match us, hl with | [_], _ => rfl⟩
  have F23 := fun_mk (st := sBent) l23 c23 k23
  have D23 : Df K mg "_law_bent_text" sBent ["text", "pick", "bag"] _ _ := ⟨F23, PySem.W.mg_of X G a23, F23.binds (ps := ["text", "pick", "bag"]) fun _ _ _ _ _ _ us hl => match us, hl with | [_, _, _], _ => rfl⟩
  have F24 := fun_mk (st := sRead) l24 c24 k24
  have D24 : Df K mg "_law_read" sRead ["text"] _ _ := ⟨F24, PySem.W.mg_of X G a24, F24.binds (ps := ["text"]) fun _ _ _ _ _ _ us hl => match us, hl with | [_], _ => rfl⟩
  have F25 := fun_mk (st := sAlike) l25 c25 k25
  have D25 : Df K mg "_law_alike" sAlike ["found", "due"] _ _ := ⟨F25, PySem.W.mg_of X G a25, F25.binds (ps := ["found", "due"]) fun _ _ _ _ _ _ us hl => match us, hl with | [_, _], _ => rfl⟩
  have F26 := fun_mk (st := sAgain) l26 c26 k26
  have D26 : Df K mg "_law_line_again" sAgain ["text", "pick"] _ _ := ⟨F26, PySem.W.mg_of X G a26, F26.binds (ps := ["text", "pick"]) fun _ _ _ _ _ _ us hl => match us, hl with | [_, _], _ => rfl⟩
  have F27 := fun_mk (st := sLaw) l27 c27 k27
  have D27 : Df K mg "law" sLaw ["script"] _ _ := ⟨F27, PySem.W.mg_of X G a27, F27.binds (ps := ["script"]) fun _ _ _ _ _ _ us hl => match us, hl with | [_], _ => rfl⟩
  refine ⟨PySem.W.fnOf "law" "law" (defArgs sLaw) (defBody sLaw) (defScope sLaw) .none kV27 dc27 pm27 an27 cd27 ct27, fun s v => .of_eq rfl, fun base _ _ => ?_⟩
  have G1 : FnOk l.prog w K mg base (L2.CX l.prog w) 2 _ _ ["text", "most"] (spWhole C) := ok_whole T D1
  have G2 : FnOk l.prog w K mg base CX0 2 _ _ ["form"] spFormS := ok_formS T D2
  have G3 : FnOk l.prog w K mg base CX0 3 _ _ ["edge"] spEdgeS := ok_edgeS T D3 D2 G2
  have G4 : FnOk l.prog w K mg base CX0 4 _ _ ["stand"] spStandS' := ok_standS T D4 D2 G2 D3 G3
  have G5 : FnOk l.prog w K mg base CX0 5 _ _ ["lane"] spLaneS := ok_laneS T D5 D4 G4
  have G6 : FnOk l.prog w K mg base (L2.CX l.prog w) 3 _ _ ["text"] (spForm C) := ok_form T D6 D1 G1
  have G7 : FnOk l.prog w K mg base (L2.CX l.prog w) 3 _ _ ["words", "many"] (spNums C) := ok_nums T D7 D1 G1
  have G8 : FnOk l.prog w K mg base (L2.CX l.prog w) 4 _ _ ["line"] (spEdge C) := ok_edge T D8 D6 G6 D7 G7
  have G9 : FnOk l.prog w K mg base (L2.CX l.prog w) 4 _ _ ["words"] (spFrame C) := ok_frame T D9 D6 G6 D7 G7
  have G10 : FnOk l.prog w K mg base (L2.CX l.prog w) 4 _ _ ["words"] (spDeed C) := ok_deed T D10 D7 G7
  have G11 : FnOk l.prog w K mg base (L2.CX l.prog w) 5 _ _ ["lines"] (spStand C) := ok_stand T D11 D1 G1 D9 G9 D10 G10 D8 G8
  have G12 : FnOk l.prog w K mg base (L2.CX l.prog w) 6 _ _ ["text"] (spLane C) := ok_lane T D12 D11 G11
  have G13 : FnOk l.prog w K mg base CX0 1 _ _ ["script"] (spBag K) := ok_bag T D13
  have G14 : FnOk l.prog w K mg base CX0 1 _ _ ["bag", "many"] spDraw := ok_draw T D14
  have G15 : FnOk l.prog w K mg base CX0 2 _ _ ["bag"] spNumber := ok_number T D15 D14 G14
  have G16 : FnOk l.prog w K mg base CX0 3 _ _ ["bag"] spWForms := ok_wforms T D16 D14 G14 D15 G15
  have G17 : FnOk l.prog w K mg base CX0 4 _ _ ["bag"] spWEdge := ok_wedge T D17 D15 G15 D16 G16
  have G18 : FnOk l.prog w K mg base CX0 5 _ _ ["bag"] spWLane := ok_wlane T D18 D14 G14 D15 G15 D16 G16 D17 G17
  have G19 : FnOk l.prog w K mg base CX0 2 _ _ ["form"] spFormW := ok_formW T D19
  have G20 : FnOk l.prog w K mg base CX0 3 _ _ ["lane"] spLaneW := ok_laneW T D20 D19 G19
  have G21 : FnOk l.prog w K mg base CX0 2 _ _ ["bag"] spSign := ok_sign T D21 D14 G14
  have G22 : FnOk l.prog w K mg base CX0 3 _ _ ["bag"] spRun := ok_run T D22 D14 G14 D21 G21
  have G23 : FnOk l.prog w K mg base CX0 4 _ _ ["text", "pick", "bag"] spBent := ok_bent T D23 D21 G21 D22 G22
  have G24 : FnOk l.prog w K mg base CX0 7 _ _ ["text"] spRead := ok_read T TX D24 D12 G12
  have G25 : FnOk l.prog w K mg base CX0 9 _ _ ["found", "due"] (spAlike 9) := ok_alike T D25 9
  have G26 : FnOk l.prog w K mg base CX0 1 _ _ ["text", "pick"] spAgain := ok_again T D26
  exact ok_law T D27 D13 G13 D14 G14 D18 G18 D20 G20 D23 G23 D26 G26 D24 G24 D5 G5 D25 G25 D12 G12

theorem walk {l : PySem.W.OpenLaw} {q : Program} {loose : List Str} {XP : (Str → Option Value) → Heap → Prop} {YP : World → Heap → Prop} {d : DefRec} {K : Params → PySem.W.Frag} (hn : l.most = some 63) (hdf : d.params.defaults = [])
    (hY : ∀ (w : World) (h : Heap), YP w h → (K w.params).In h)
    (F : ∀ (w : World) (mg : Str → Option Value) (fa : Addr) (h : Heap), (K w.params).In h → h.Ns mainGlobals mg → mg d.name = some (.ref fa) →
      ∃ fd : FuncData, (∀ (s : Shared) (u : Value), BindsTo s fd ⟨[u], []⟩ [("script", u)]) ∧ ∀ base : Heap, (K w.params).In base → base.Ns mainGlobals mg → FnOk l.prog w (K w.params) mg base CX0 10 fa fd ["script"] (spLaw (K w.params))) :
    PySem.W.WalkO q loose XP YP l.row.toRowW d [] (fun f vs => PySem.call f vs) :=
  L2.walk_of (n := 63) (k := 10) (x := "script") (CX := fun _ => CX0) (sp := fun w => spLaw (K w.params)) hn (by decide) hdf ⟨rfl, by decide, by decide⟩ hY F (fun _ _ a ns hl _ hS => ⟨a, ns, rfl, hS, hl, fun _ => rfl⟩) fun _ _ _ _ _ z => z
end Ln
end
open PySem PySem.W PyProof.Rows
set_option maxRecDepth 100000 in
set_option maxHeartbeats 0 in
theorem PySem.Challenge.cw_midlanes_k73_whole_one_lane_text_holds : PySem.Challenge.rw_midlanes_k73_whole_one_lane_text.Holds := by
  w_on; o_law; k_head; (case hw => w_witness2)
  k_fill
  refine Ln.walk (l := PySem.Challenge.rw_midlanes_k73_whole_one_lane_text) rfl rfl (fun w h Y => PySem.W.kIn_of Y) ?F
  case F =>
    intro w mg fa h KX G hmg
    refine' Ln.all_mk KX G hmg ?a1 ?l1 ?c1 ?k1 ?a2 ?l2 ?c2 ?k2 ?a3 ?l3 ?c3 ?k3 ?a4 ?l4 ?c4 ?k4 ?a5 ?l5 ?c5 ?k5 ?a6 ?l6 ?c6 ?k6 ?a7 ?l7 ?c7 ?k7 ?a8 ?l8 ?c8 ?k8 ?a9 ?l9 ?c9 ?k9 ?a10 ?l10 ?c10 ?k10 ?a11 ?l11 ?c11 ?k11 ?a12 ?l12 ?c12 ?k12 ?a13 ?l13 ?c13 ?k13 ?a14 ?l14 ?c14 ?k14 ?a15 ?l15 ?c15 ?k15 ?a16 ?l16 ?c16 ?k16 ?a17 ?l17 ?c17 ?k17 ?a18 ?l18 ?c18 ?k18 ?a19 ?l19 ?c19 ?k19 ?a20 ?l20 ?c20 ?k20 ?a21 ?l21 ?c21 ?k21 ?a22 ?l22 ?c22 ?k22 ?a23 ?l23 ?c23 ?k23 ?a24 ?l24 ?c24 ?k24 ?a25 ?l25 ?c25 ?k25 ?a26 ?l26 ?c26 ?k26 ?a27 ?l27 ?c27 ?k27 ?zstr ?zlen ?zint ?ztup ?zlst ?zran ?zisi ?zall ?zboo ?zabs ?zve ?vF ?vM ?gC ?gCL ?gCN ?gCF ?xC ?kC ?tC ?dC ?tCL ?dCL ?tCN ?dCN ?tCF ?dCF ?bC ?bL ?sC ?sL ?sN ?sF ?sV ?eg ?ek ?ea ?en ?et ?em
    (case a1 => k_is)
    (case l1 => k_is)
    (case c1 => k_is)
    (case k1 => k_is)
    (case a2 => k_is)
    (case l2 => k_is)
    (case c2 => k_is)
    (case k2 => k_is)
    (case a3 => k_is)
    (case l3 => k_is)
    (case c3 => k_is)
    (case k3 => k_is)
    (case a4 => k_is)
    (case l4 => k_is)
    (case c4 => k_is)
    (case k4 => k_is)
    (case a5 => k_is)
    (case l5 => k_is)
    (case c5 => k_is)
    (case k5 => k_is)
    (case a6 => k_is)
    (case l6 => k_is)
    (case c6 => k_is)
    (case k6 => k_is)
    (case a7 => k_is)
    (case l7 => k_is)
    (case c7 => k_is)
    (case k7 => k_is)
    (case a8 => k_is)
    (case l8 => k_is)
    (case c8 => k_is)
    (case k8 => k_is)
    (case a9 => k_is)
    (case l9 => k_is)
    (case c9 => k_is)
    (case k9 => k_is)
    (case a10 => k_is)
    (case l10 => k_is)
    (case c10 => k_is)
    (case k10 => k_is)
    (case a11 => k_is)
    (case l11 => k_is)
    (case c11 => k_is)
    (case k11 => k_is)
    (case a12 => k_is)
    (case l12 => k_is)
    (case c12 => k_is)
    (case k12 => k_is)
    (case a13 => k_is)
    (case l13 => k_is)
    (case c13 => k_is)
    (case k13 => k_is)
    (case a14 => k_is)
    (case l14 => k_is)
    (case c14 => k_is)
    (case k14 => k_is)
    (case a15 => k_is)
    (case l15 => k_is)
    (case c15 => k_is)
    (case k15 => k_is)
    (case a16 => k_is)
    (case l16 => k_is)
    (case c16 => k_is)
    (case k16 => k_is)
    (case a17 => k_is)
    (case l17 => k_is)
    (case c17 => k_is)
    (case k17 => k_is)
    (case a18 => k_is)
    (case l18 => k_is)
    (case c18 => k_is)
    (case k18 => k_is)
    (case a19 => k_is)
    (case l19 => k_is)
    (case c19 => k_is)
    (case k19 => k_is)
    (case a20 => k_is)
    (case l20 => k_is)
    (case c20 => k_is)
    (case k20 => k_is)
    (case a21 => k_is)
    (case l21 => k_is)
    (case c21 => k_is)
    (case k21 => k_is)
    (case a22 => k_is)
    (case l22 => k_is)
    (case c22 => k_is)
    (case k22 => k_is)
    (case a23 => k_is)
    (case l23 => k_is)
    (case c23 => k_is)
    (case k23 => k_is)
    (case a24 => k_is)
    (case l24 => k_is)
    (case c24 => k_is)
    (case k24 => k_is)
    (case a25 => k_is)
    (case l25 => k_is)
    (case c25 => k_is)
    (case k25 => k_is)
    (case a26 => k_is)
    (case l26 => k_is)
    (case c26 => k_is)
    (case k26 => k_is)
    (case a27 => k_is)
    (case l27 => k_is)
    (case c27 => k_is)
    (case k27 => k_is)
    (case zstr => k_is)
    (case zlen => k_is)
    (case zint => k_is)
    (case ztup => k_is)
    (case zlst => k_is)
    (case zran => k_is)
    (case zisi => k_is)
    (case zall => k_is)
    (case zboo => k_is)
    (case zabs => k_is)
    (case zve => k_is)
    (case vF => k_is)
    (case vM => k_is)
    (case gC => k_is)
    (case gCL => k_is)
    (case gCN => k_is)
    (case gCF => k_is)
    (case xC => k_exc)
    (case kC => k_is)
    (case tC => k_is)
    (case dC => k_is)
    (case tCL => k_is)
    (case dCL => k_is)
    (case tCN => k_is)
    (case dCN => k_is)
    (case tCF => k_is)
    (case dCF => k_is)
    (case bC => k_is)
    (case bL => k_is)
    (case sC => k_is)
    (case sL => k_is)
    (case sN => k_is)
    (case sF => k_is)
    (case sV => k_is)
    (case eg => k_is)
    (case ek => k_is)
    (case ea => k_is)
    (case en => k_is)
    (case et => k_is)
    (case em => k_is)
