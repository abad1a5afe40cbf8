import PyProof.Rows.All
import Wide.All
import OpenK.AllK
import Wide.FinOn
import Open.SpecLaws
import KE.OsGo
import KE.KNest
import KE.GoesMore
import KE.GoesEnum
import HandS.ForSpec
import HandS.ForMost
import HandS.ExcInit
import HandS.ExcField
import HandS.Walk
import HandS.TupAny
import HandS.Conv
import HandS.Zip
import HandS.Nested
import KE.OsHead
import PySem.Challenge.RW_raceresults_s01_judge
set_option Elab.async false
/-! The mirror: what the program computes, as plain total functions over whole numbers and lists. -/
namespace MR
abbrev W := List Int
/-- words.parted -/
def pgo (b : Int) : W → W → List W
  | cur, [] => [cur]
  | cur, c :: r => if c = b then cur :: pgo b [] r else pgo b (cur ++ [c]) r
def parted (row : W) (b : Int) : List W := pgo b [] row
def isSmall (c : Int) : Bool := decide (97 ≤ c) && decide (c ≤ 122)
def isFig (c : Int) : Bool := decide (48 ≤ c) && decide (c ≤ 57)
def isName (w : W) : Bool := decide (1 ≤ w.length) && (decide (w.length ≤ 12) && (isSmall (w.headD 0) && w.all fun c => isSmall c || isFig c))
def numFold (w : W) : Int := w.foldl (fun n c => 10 * n + c - 48) 0
def numberOf (w : W) : Int := if w = [] ∨ w.all isFig = false then -1 else if 1 < w.length ∧ w.headD 0 = 48 then -1 else numFold w
/-- a written word -/
def sp (s : String) : W := s.toList.map fun c => (c.toNat : Int)
/-! ## cards: a line is what's left of its words; none: refused -/
def must (t : W) : List W → Option (List W)
  | w :: r => if w = t then some r else none
  | [] => none
def number (lo hi : Int) : List W → Option (Int × List W)
  | w :: r => if lo ≤ numberOf w ∧ numberOf w ≤ hi then some (numberOf w, r) else none
  | [] => none
def choice (ts : List W) : List W → Option (Nat × List W)
  | w :: r => (ts.findIdx? fun t => t == w).map fun i => (i, r)
  | [] => none
def ended : List W → Option Unit
  | [] => some ()
  | _ :: _ => none
/-- a race: how many runners; of each couple b, a, in their order -/
structure Race where
  many : Int
  heads : List (Int × Int)
def Race.interests (r : Race) : List Int := ((List.range r.many.toNat).map fun (i : Nat) => (1 : Int) + i).filter fun n => !(r.heads.any fun x => x.1 == n)
def coupleOk (many : Int) (had : List (Int × Int)) (a b : Int) : Bool :=
  (decide (1 ≤ a) && (decide (a < b) && (decide (b ≤ many) && !(had.any fun x => x.1 == a)))) && (!(had.any fun x => x.1 == b) && !(had.any fun x => x.2 == b))
/-- the loop of read_race: couples had, how many; what they're behind the line's end -/
def couples (many : Int) : List (Int × Int) → Int → List W → Option (List (Int × Int) × Int)
  | had, n, [] => some (had, n)
  | had, n, c :: a :: b :: r => if c = sp "couple" ∧ (1 ≤ numberOf a ∧ numberOf a ≤ many) ∧ (1 ≤ numberOf b ∧ numberOf b ≤ many) ∧ coupleOk many had (numberOf a) (numberOf b) = true
      then couples many (had ++ [(numberOf b, numberOf a)]) (n + 1) r else none
  | _, _, _ => none
/-- a card as it's read: its races, how many pools, their names -/
structure Card where
  races : List Race
  pools : Nat
  names : List W
def readRace (C : Card) (l : List W) : Option Card :=
  if C.races.length < 16 ∧ C.pools = 0 then
    (number 2 24 l).bind fun x => (couples x.1 [] 0 x.2).bind fun y => if y.2 ≤ 8 then some { C with races := C.races ++ [⟨x.1, y.1⟩] } else none
  else none
def kinds : List W := [sp "place", sp "order", sp "any", sp "legs"]
def nones : List W := [sp "refund", sp "carry", sp "fewer"]
def leastK (k : Nat) : Int := if k = 0 then 1 else 2
def mostK (k : Nat) : Int := if k = 2 then 3 else if k = 3 then 6 else 4
def readTerms (kind : Nat) (l : List W) : Option Unit :=
  (must (sp "take") l).bind fun l => (number 0 400 l).bind fun x => (must (sp "break") x.2).bind fun l => (number 1 1000 l).bind fun x =>
  (must (sp "least") x.2).bind fun l => (number 0 20000 l).bind fun m => (must (sp "unit") m.2).bind fun l => (number 1 10000 l).bind fun u =>
  if m.1 = 0 ∨ (u.1 ≤ m.1 ∧ m.1 ≤ 2 * u.1) then
    (must (sp "none") u.2).bind fun l => (choice nones l).bind fun z => if kind ≠ 0 ∨ z.1 ≠ 2 then ended z.2 else none
  else none
/-- how many races a pool of this kind goes over -/
def spans (kind : Nat) (k : Int) : Int := if kind = 3 then k else 1
def raceAt (rs : List Race) (n : Int) : Race := rs.getD (n.toNat - 1) ⟨0, []⟩
def readPool (C : Card) : List W → Option Card
  | [] => none
  | w :: l => if C.pools < 64 ∧ isName w = true ∧ w ∉ C.names then
      (choice kinds l).bind fun kd => (number (leastK kd.1) (mostK kd.1) kd.2).bind fun k => (must (sp "from") k.2).bind fun l =>
      (number 1 C.races.length l).bind fun r =>
      if r.1 + spans kd.1 k.1 - 1 ≤ (C.races.length : Int) ∧ (kd.1 = 3 ∨ k.1 ≤ ((raceAt C.races r.1).interests.length : Int)) then
        (readTerms kd.1 r.2).map fun _ => { C with pools := C.pools + 1, names := C.names ++ [w] }
      else none
    else none
def readDay (l : List W) : Option Unit := (must (sp "day") l).bind fun l => match l with
  | w :: r => if isName w = true then ended r else none
  | [] => none
def readLine (C : Card) (l : List W) : Option Card := (choice [sp "race", sp "pool"] l).bind fun x => if x.1 = 0 then readRace C x.2 else readPool C x.2
def readLines : Card → List (List W) → Option Card
  | C, [] => some C
  | C, l :: r => (readLine C l).bind fun C => readLines C r
/-- the words of a card's lines -/
def cardLines (text : W) : List (List W) := (parted text.dropLast 10).map fun l => parted l 32
def readCard (text : W) : Option (List Race) := if text.getLast? = some 10 then match cardLines text with
    | d :: ls => (readDay d).bind fun _ => (readLines ⟨[], 0, []⟩ ls).bind fun C => if C.races ≠ [] then some C.races else none
    | [] => none
  else none
/-! ## results: words with their places; a fault: its kind, its place -/
abbrev F := Nat × Nat
abbrev PW := W × Nat
/-- words' places, from one on -/
def placed : Nat → List W → List PW
  | _, [] => []
  | p, w :: r => (w, p) :: placed (p + w.length + 1) r
def rising : List Int → Bool
  | a :: b :: r => decide (a < b) && rising (b :: r)
  | _ => true
/-- Words.runners, behind the word -/
def runners (sign many : Int) (told : List Int) (x : PW) : Except F (List Int) :=
  let ns := (parted x.1 sign).map numberOf
  if (ns.all (fun n => (decide (1 ≤ n) && decide (n ≤ many)) && !told.contains n) && rising ns) = true then .ok ns else .error (4, x.2)
def closed : List PW → Except F Unit
  | [] => .ok ()
  | x :: _ => .error (3, x.2)
def outs (e : Nat) (many : Int) (told : List Int) : List PW → Except F Unit
  | [] => .error (3, e)
  | x :: r => match runners 44 many told x with
    | .error f => .error f
    | .ok _ => closed r
def groups (e : Nat) (many : Int) : List Int → List PW → Except F Unit
  | _, [] => .ok ()
  | told, x :: r => if x.1 = sp "out" then outs e many told r else match runners 61 many told x with
    | .error f => .error f
    | .ok ns => groups e many (told ++ ns) r
def readCame (e : Nat) (many : Int) : List PW → Except F Unit
  | [] => .error (3, e)
  | x :: r => match runners 61 many [] x with
    | .error f => .error f
    | .ok ns => groups e many ns r
/-- Words.choice -/
def choiceR (e : Nat) (ts : List W) : List PW → Except F (Nat × List PW)
  | [] => .error (3, e)
  | x :: r => match ts.findIdx? fun t => t == x.1 with
    | none => .error (3, x.2)
    | some i => .ok (i, r)
def wordR (e : Nat) : List PW → Except F (PW × List PW)
  | [] => .error (3, e)
  | x :: r => .ok (x, r)
/-- a line; found: the races told before -/
def lineR (rs : List Race) (found : List Int) (e : Nat) (l : List PW) : Except F (List Int) := match choiceR e [sp "race"] l with
  | .error f => .error f
  | .ok x => match wordR e x.2 with
    | .error f => .error f
    | .ok y => if ((decide (1 ≤ numberOf y.1.1) && decide (numberOf y.1.1 ≤ (rs.length : Int))) && found.all fun b => decide (b < numberOf y.1.1)) = true then
        match choiceR e [sp "void", sp "came"] y.2 with
        | .error f => .error f
        | .ok z => match (if z.1 = 0 then closed z.2 else readCame e (raceAt rs (numberOf y.1.1)).many z.2) with
          | .error f => .error f
          | .ok _ => .ok (found ++ [numberOf y.1.1])
      else .error (4, y.1.2)
def upTo : W → Option (W × W)
  | [] => none
  | c :: r => if c = 10 then some ([], r) else (upTo r).map fun x => (c :: x.1, x.2)
def byteOk (l : W) (i : Nat) : Bool := (decide (32 ≤ l.getD i 0) && decide (l.getD i 0 ≤ 126)) && (decide (l.getD i 0 ≠ 32) || (decide (0 < i) && (decide (i + 1 < l.length) && decide (l.getD (i - 1) 0 ≠ 32))))
/-- ask_bytes -/
def badAt (l : W) : Option Nat := if l = [] then some 0 else (List.range l.length).find? fun i => !byteOk l i
def result (rs : List Race) : Nat → Nat → List Int → W → Except F Unit
  | 0, _, _, _ => .ok ()
  | k + 1, p, found, t => if t = [] then .ok () else match upTo t with
    | none => .error (1, p + t.length)
    | some (l, r) => match badAt l with
      | some i => .error (2, p + i)
      | none => match lineR rs found (p + l.length) (placed p (parted l 32)) with
        | .error f => .error f
        | .ok found' => result rs k (p + l.length + 1) found' r
def judge (card res : W) : List Int := if card.length ≤ 65536 ∧ res.length ≤ 65536 then match readCard card with
    | none => [-8]
    | some rs => match result rs (res.length + 1) 0 [] res with
      | .error f => [-6, (f.1 : Int), (f.2 : Int)]
      | .ok _ => [0]
  else [-2]
end MR
/-! The plain law: the mirror is the specification. Part A: bytes, words, numbers, the card. -/
namespace ML
open MR
abbrev B := Tote.Bytes
def bi (c : UInt8) : Int := (c.toNat : Int)
def ib (w : B) : W := w.map bi
theorem bi_inj {a b : UInt8} (h : bi a = bi b) : a = b := by
  unfold bi at h
  exact UInt8.toNat_inj.mp (by omega)
theorem bi_eq {a : UInt8} {n : Nat} (hn : n < 256) : bi a = (n : Int) ↔ a = UInt8.ofNat n := by
  constructor
  · intro h
    apply UInt8.toNat_inj.mp
    unfold bi at h
    rw [UInt8.toNat_ofNat_of_lt' (by simpa using hn)]
    omega
  · rintro rfl
    unfold bi
    rw [UInt8.toNat_ofNat_of_lt' (by simpa using hn)]
theorem ib_inj : ∀ {v w : B}, ib v = ib w → v = w
  | [], [], _ => rfl
  | [], _ :: _, h => by cases h
  | _ :: _, [], h => by cases h
  | a :: v, b :: w, h => by
    have h1 := List.cons.inj (h : bi a :: ib v = bi b :: ib w)
    rw [bi_inj h1.1, ib_inj h1.2]
theorem ib_eq {v w : B} : ib v = ib w ↔ v = w := ⟨ib_inj, fun h => by rw [h]⟩
theorem ib_text (l : List Int) (h : ∀ x ∈ l, 0 ≤ x ∧ x ≤ 255) : ib (ResultNeutral.text l) = l := by
  unfold ib ResultNeutral.text ResultNeutral.nats
  rw [List.map_map, List.map_map]
  conv => rhs; rw [← List.map_id l]
  apply List.map_congr_left
  intro x hx
  have := h x hx
  show ((UInt8.ofNat x.toNat).toNat : Int) = x
  rw [UInt8.toNat_ofNat_of_lt' (by show x.toNat < 256; omega)]
  omega
theorem ib_nil {w : B} : ib w = [] ↔ w = [] := by unfold ib; simp
theorem ib_len (w : B) : (ib w).length = w.length := by unfold ib; simp
theorem ib_app (v w : B) : ib (v ++ w) = ib v ++ ib w := by unfold ib; simp
theorem sp_ascii (s : String) (h : s.toList.all (fun c => c.toNat < 256) = true) : sp s = ib (Tote.ascii s) := by
  unfold sp ib Tote.ascii
  rw [List.map_map]
  apply List.map_congr_left
  intro c hc
  have := List.all_eq_true.mp h c hc
  show (c.toNat : Int) = ((UInt8.ofNat c.toNat).toNat : Int)
  rw [UInt8.toNat_ofNat_of_lt' (by simpa using this)]
/-! ### letters, figures, numbers -/
theorem fig_eq (c : UInt8) : isFig (bi c) = Tote.isDigit c := by
  unfold isFig Tote.isDigit bi
  have h1 : (48 ≤ (c.toNat : Int)) ↔ (48 : UInt8) ≤ c := by rw [UInt8.le_iff_toNat_le]; show _ ↔ 48 ≤ c.toNat; omega
  have h2 : ((c.toNat : Int) ≤ 57) ↔ c ≤ (57 : UInt8) := by rw [UInt8.le_iff_toNat_le]; show _ ↔ c.toNat ≤ 57; omega
  simp only [h1, h2]
theorem small_eq (c : UInt8) : isSmall (bi c) = Tote.isSmall c := by
  unfold isSmall Tote.isSmall bi
  have h1 : (97 ≤ (c.toNat : Int)) ↔ (97 : UInt8) ≤ c := by rw [UInt8.le_iff_toNat_le]; show _ ↔ 97 ≤ c.toNat; omega
  have h2 : ((c.toNat : Int) ≤ 122) ↔ c ≤ (122 : UInt8) := by rw [UInt8.le_iff_toNat_le]; show _ ↔ c.toNat ≤ 122; omega
  simp only [h1, h2]
theorem digit_lo {c : UInt8} (h : Tote.isDigit c = true) : 48 ≤ c.toNat ∧ c.toNat ≤ 57 := by
  unfold Tote.isDigit at h
  rw [Bool.and_eq_true, decide_eq_true_eq, decide_eq_true_eq, UInt8.le_iff_toNat_le, UInt8.le_iff_toNat_le] at h
  exact h
theorem small_lo {c : UInt8} (h : Tote.isSmall c = true) : 97 ≤ c.toNat ∧ c.toNat ≤ 122 := by
  unfold Tote.isSmall at h
  rw [Bool.and_eq_true, decide_eq_true_eq, decide_eq_true_eq, UInt8.le_iff_toNat_le, UInt8.le_iff_toNat_le] at h
  exact h
theorem all_fig : ∀ w : B, (ib w).all isFig = w.all Tote.isDigit
  | [] => rfl
  | c :: r => by
    show (isFig (bi c) && (ib r).all isFig) = (Tote.isDigit c && r.all Tote.isDigit)
    rw [fig_eq, all_fig r]
theorem fold_eq : ∀ (w : B) (n : Nat), w.all Tote.isDigit = true → (ib w).foldl (fun (n c : Int) => 10 * n + c - 48) (n : Int) = ((w.foldl (fun (n : Nat) (c : UInt8) => 10 * n + (c.toNat - 48)) n : Nat) : Int)
  | [], _, _ => rfl
  | c :: r, n, h => by
    rw [List.all_cons, Bool.and_eq_true] at h
    have hc := digit_lo h.1
    show (ib r).foldl _ (10 * (n : Int) + bi c - 48) = ((r.foldl _ (10 * n + (c.toNat - 48)) : Nat) : Int)
    rw [← fold_eq r _ h.2]
    congr 1
    unfold bi
    omega
theorem number_eq (w : B) : numberOf (ib w) = match Tote.numberOf w with | none => -1 | some n => (n : Int) := by
  unfold numberOf Tote.numberOf
  rw [all_fig]
  cases w with
  | nil => rfl
  | cons c r =>
    by_cases hd : (c :: r).all Tote.isDigit = true
    · rw [if_neg (by rw [hd]; simp [ib])]
      have e1 : (1 < (ib (c :: r)).length ∧ (ib (c :: r)).headD 0 = 48) ↔ ((c :: r).head? = some 48 ∧ (c :: r) ≠ [48]) := by
        have : bi c = 48 ↔ c = 48 := bi_eq (n := 48) (by decide)
        rw [ib_len]
        show (1 < (c :: r).length ∧ bi c = 48) ↔ _
        rw [this]
        simp only [List.length_cons, List.head?_cons, Option.some.injEq, ne_eq, List.cons.injEq, not_and]
        constructor
        · rintro ⟨h1, h2⟩
          refine ⟨h2, fun _ h => ?_⟩
          rw [h] at h1
          simp at h1
        · rintro ⟨h1, h2⟩
          refine ⟨?_, h1⟩
          have := h2 h1
          cases r with
          | nil => exact absurd rfl this
          | cons _ _ => simp
      by_cases h0 : (c :: r).head? = some 48 ∧ (c :: r) ≠ [48]
      · rw [if_pos (e1.mpr h0), if_pos (.inr (.inr h0))]
      · rw [if_neg (fun q => h0 (e1.mp q)), if_neg]
        · exact fold_eq (c :: r) 0 hd
        · rintro (h | h | h)
          · cases h
          · rw [hd] at h; cases h
          · exact h0 h
    · have hd' : (c :: r).all Tote.isDigit = false := by simpa using hd
      rw [if_pos (.inr hd'), if_pos (.inr (.inl hd'))]
/-- a number within bounds that aren't below 0 -/
theorem number_in {w : B} {lo hi : Int} (h0 : 0 ≤ lo) (h : lo ≤ numberOf (ib w) ∧ numberOf (ib w) ≤ hi) : ∃ n, Tote.numberOf w = some n ∧ numberOf (ib w) = (n : Int) ∧ lo ≤ (n : Int) ∧ (n : Int) ≤ hi := by
  rw [number_eq] at h ⊢
  cases e : Tote.numberOf w with
  | none =>
    rw [e] at h
    have : lo ≤ (-1 : Int) := h.1
    omega
  | some n =>
    rw [e] at h
    exact ⟨n, rfl, rfl, h⟩
theorem name_eq (w : B) : isName (ib w) = Tote.isName w := by
  unfold isName Tote.isName
  rw [ib_len]
  cases w with
  | nil => rfl
  | cons c r =>
    have h1 : ∀ l : B, (ib l).all (fun c => isSmall c || isFig c) = l.all (fun c => Tote.isSmall c || Tote.isDigit c) := by
      intro l
      induction l with
      | nil => rfl
      | cons a l ih =>
        show ((isSmall (bi a) || isFig (bi a)) && (ib l).all _) = _
        rw [ih, small_eq, fig_eq]
        rfl
    rw [h1]
    show (_ && (_ && (isSmall (bi c) && _))) = (_ && (_ && (_ && Tote.isSmall c)))
    rw [small_eq, Bool.and_comm (Tote.isSmall c)]
    rfl
/-! ### words -/
/-- a word that can stand in a line -/
def good (w : B) : Prop := w ≠ [] ∧ ∀ c ∈ w, 33 ≤ c.toNat ∧ c.toNat ≤ 126
theorem good_digits {w : B} (h0 : w ≠ []) (h : w.all Tote.isDigit = true) : good w := ⟨h0, fun c hc => by
  have := digit_lo (List.all_eq_true.mp h c hc)
  omega⟩
theorem good_number {w : B} {n : Nat} (h : Tote.numberOf w = some n) : good w := by
  unfold Tote.numberOf at h
  split at h
  · cases h
  · next q =>
    rw [not_or, not_or] at q
    refine good_digits ?_ (by simpa using q.2.1)
    intro z
    subst z
    exact q.1 rfl
theorem good_name {w : B} (h : Tote.isName w = true) : good w := by
  unfold Tote.isName at h
  rw [Bool.and_eq_true, Bool.and_eq_true, Bool.and_eq_true] at h
  obtain ⟨h1, _, h2, _⟩ := h
  refine ⟨?_, fun c hc => ?_⟩
  · rintro rfl
    simp at h1
  · have q := List.all_eq_true.mp h2 c hc
    rw [Bool.or_eq_true] at q
    rcases q with q | q
    · have := small_lo q; omega
    · have := digit_lo q; omega
theorem good_num {w : B} {lo hi : Int} (h0 : 0 ≤ lo) (h : lo ≤ numberOf (ib w) ∧ numberOf (ib w) ≤ hi) : good w := by
  obtain ⟨n, e, _⟩ := number_in h0 h
  exact good_number e
/-- a row parted -/
def cutb (b : UInt8) : B → B → List B
  | cur, [] => [cur]
  | cur, c :: r => if c = b then cur :: cutb b [] r else cutb b (cur ++ [c]) r
theorem pgo_eq (b : UInt8) : ∀ (l cur : B), pgo (bi b) (ib cur) (ib l) = (cutb b cur l).map ib
  | [], _ => rfl
  | c :: r, cur => by
    show (if bi c = bi b then ib cur :: pgo (bi b) (ib []) (ib r) else pgo (bi b) (ib cur ++ [bi c]) (ib r)) = (if c = b then cur :: cutb b [] r else cutb b (cur ++ [c]) r).map ib
    by_cases h : c = b
    · rw [if_pos h, if_pos (by rw [h]), pgo_eq b r []]
      rfl
    · rw [if_neg h, if_neg (fun q => h (bi_inj q))]
      have := pgo_eq b r (cur ++ [c])
      rw [ib_app] at this
      exact this
theorem parted_eq (b : UInt8) (l : B) : parted (ib l) (bi b) = (cutb b [] l).map ib := pgo_eq b l []
theorem cutb_ne (b : UInt8) : ∀ (l cur : B), cutb b cur l ≠ []
  | [], _, h => by cases h
  | c :: r, cur, h => by
    unfold cutb at h
    split at h
    · cases h
    · exact cutb_ne b r _ h
/-- a line has no byte that can't stand there just if all its words can -/
theorem bad_good : ∀ (l cur : B) (p : Nat), (∀ c ∈ cur, 33 ≤ c.toNat ∧ c.toNat ≤ 126) → (Tote.badByte cur.isEmpty p l = none ↔ ∀ w ∈ cutb 32 cur l, good w)
  | [], cur, p, hc => by
    unfold Tote.badByte cutb
    cases cur with
    | nil => simp [good]
    | cons a t =>
      constructor
      · intro _ w hw
        rw [List.mem_singleton] at hw
        subst hw
        exact ⟨by simp, hc⟩
      · intro _
        rfl
  | c :: r, cur, p, hc => by
    unfold Tote.badByte cutb
    by_cases hs : c = 32
    · subst hs
      rw [if_neg (by decide), if_pos rfl, if_pos rfl]
      cases cur with
      | nil => simp [good]
      | cons a t =>
        rw [if_neg (by simp)]
        cases r with
        | nil =>
          simp only [List.isEmpty_nil, ↓reduceIte]
          constructor
          · intro h; cases h
          · intro h
            have := h [] (by simp [cutb])
            exact absurd rfl this.1
        | cons x r' =>
          rw [if_neg (by simp)]
          have ih := bad_good (x :: r') [] (p + 1) (by simp)
          rw [show (true : Bool) = List.isEmpty ([] : B) from rfl, ih]
          constructor
          · intro h w hw
            rcases List.mem_cons.mp hw with rfl | hw
            · exact ⟨by simp, hc⟩
            · exact h w hw
          · intro h w hw
            exact h w (List.mem_cons_of_mem _ hw)
    · rw [if_neg hs, if_neg hs]
      by_cases hb : c < 32 ∨ 126 < c
      · rw [if_pos hb]
        constructor
        · intro h; cases h
        · intro h
          exfalso
          -- the word with c in it isn't good
          have key : ∀ (l cur : B), c ∈ cur → ∃ w ∈ cutb 32 cur l, c ∈ w := by
            intro l
            induction l with
            | nil => intro cur h; exact ⟨cur, by simp [cutb], h⟩
            | cons y l ih =>
              intro cur h
              unfold cutb
              by_cases hy : y = 32
              · rw [if_pos hy]; exact ⟨cur, by simp, h⟩
              · rw [if_neg hy]; exact ih _ (by simp [h])
          obtain ⟨w, hw, hcw⟩ := key r (cur ++ [c]) (by simp)
          have := (h w hw).2 c hcw
          rcases hb with hb | hb
          · rw [UInt8.lt_iff_toNat_lt] at hb
            have : (32 : UInt8).toNat = 32 := rfl
            omega
          · rw [UInt8.lt_iff_toNat_lt] at hb
            have : (126 : UInt8).toNat = 126 := rfl
            omega
      · rw [if_neg hb]
        have hc' : 33 ≤ c.toNat ∧ c.toNat ≤ 126 := by
          rw [not_or, UInt8.lt_iff_toNat_lt, UInt8.lt_iff_toNat_lt] at hb
          have e1 : (32 : UInt8).toNat = 32 := rfl
          have e2 : (126 : UInt8).toNat = 126 := rfl
          have : c.toNat ≠ 32 := fun q => hs (UInt8.toNat_inj.mp (by rw [q]; rfl))
          omega
        have ih := bad_good r (cur ++ [c]) (p + 1) (by
          intro x hx
          rcases List.mem_append.mp hx with hx | hx
          · exact hc x hx
          · rw [List.mem_singleton] at hx; subst hx; exact hc')
        rw [show (cur ++ [c]).isEmpty = false by simp] at ih
        exact ih
theorem bad_none {l : B} : Tote.badByte true 0 l = none ↔ ∀ w ∈ cutb 32 [] l, good w := bad_good l [] 0 (by simp)
/-- the words of a line that may stand -/
def plw : Nat → List B → List Tote.Word
  | _, [] => []
  | p, w :: r => ⟨w, p⟩ :: plw (p + w.length + 1) r
theorem words_eq : ∀ (l cur : B) (p : Nat), cur.length ≤ p → (∀ w ∈ cutb 32 cur l, good w) → Tote.wordsFrom p cur l = plw (p - cur.length) (cutb 32 cur l)
  | [], cur, p, hp, h => by
    unfold Tote.wordsFrom cutb
    have := (h cur (by simp [cutb])).1
    rw [if_neg (by simpa using this)]
    rfl
  | c :: r, cur, p, hp, h => by
    unfold Tote.wordsFrom
    unfold cutb at h ⊢
    by_cases hs : c = 32
    · rw [if_pos hs] at h
      rw [if_pos hs, if_pos hs]
      have ih := words_eq r [] (p + 1) (by simp) (fun w hw => h w (List.mem_cons_of_mem _ hw))
      rw [ih]
      show _ = _ :: plw (p - cur.length + cur.length + 1) _
      rw [show p - cur.length + cur.length + 1 = p + 1 - ([] : B).length by simp; omega]
    · rw [if_neg hs] at h
      rw [if_neg hs, if_neg hs, words_eq r (cur ++ [c]) (p + 1) (by simp; omega) h]
      congr 1
      simp
theorem words_line {l : B} (p : Nat) (h : Tote.badByte true 0 l = none) : Tote.wordsFrom p [] l = plw p (cutb 32 [] l) := words_eq l [] p (Nat.zero_le _) (bad_none.mp h)
/-- words without their places, as the mirror has them -/
def wl (l : List Tote.Word) : List W := l.map fun x => ib x.w
theorem wl_plw : ∀ (ws : List B) (p : Nat), wl (plw p ws) = ws.map ib
  | [], _ => rfl
  | w :: r, p => by
    show ib w :: wl (plw _ r) = _
    rw [wl_plw r]
    rfl
end ML
/-! The plain law, part B: the card. -/
namespace ML
open MR
/-! ### words read, errors forgotten -/
def ok? {ε α : Type} : Except ε α → Option α
  | .ok a => some a
  | .error _ => none
theorem ok_bind {ε α β : Type} (x : Except ε α) (f : α → Except ε β) : ok? (x >>= f) = (ok? x).bind fun a => ok? (f a) := by cases x <;> rfl
theorem ok_bind' {ε α β : Type} (x : Except ε α) (f : α → Except ε β) : ok? (x.bind f) = (ok? x).bind fun a => ok? (f a) := by cases x <;> rfl
theorem ok_map {ε α β : Type} (x : Except ε α) (f : α → β) : ok? (x.map f) = (ok? x).map f := by cases x <;> rfl
theorem ok_pure {ε α : Type} (a : α) : ok? (pure a : Except ε α) = some a := rfl
theorem ok_ite {ε α : Type} {c : Prop} [Decidable c] (x y : Except ε α) : ok? (if c then x else y) = if c then ok? x else ok? y := by split <;> rfl
theorem must_eq (e : Nat) (s : String) (h : s.toList.all (fun c => c.toNat < 256) = true) (l : List Tote.Word) : must (sp s) (wl l) = (ok? (Tote.must e s l)).map wl := by
  cases l with
  | nil => rfl
  | cons w r =>
    show (if ib w.w = sp s then some (wl r) else none) = _
    rw [sp_ascii s h]
    unfold Tote.must
    rw [ok_bind]
    show _ = (ok? (if w.w = Tote.ascii s then _ else _)).map wl
    by_cases q : w.w = Tote.ascii s
    · rw [if_pos q, if_pos (by rw [q])]
      rfl
    · rw [if_neg q, if_neg (fun z => q (ib_inj z))]
      rfl
theorem number_eqn (e lo hi : Nat) (l : List Tote.Word) : number lo hi (wl l) = (ok? (Tote.number e lo hi l)).map fun x => ((x.1.1 : Int), wl x.2) := by
  cases l with
  | nil => rfl
  | cons w r =>
    show (if (lo : Int) ≤ numberOf (ib w.w) ∧ numberOf (ib w.w) ≤ hi then some (numberOf (ib w.w), wl r) else none) = _
    unfold Tote.number
    rw [ok_bind]
    show _ = (ok? (match Tote.numberOf w.w with
      | none => Except.error (⟨4, w.at_⟩ : Tote.Fault)
      | some n => if n < lo ∨ hi < n then Except.error (⟨4, w.at_⟩ : Tote.Fault) else pure ((n, w.at_), r))).map _
    rw [number_eq]
    cases Tote.numberOf w.w with
    | none =>
      rw [if_neg (by show ¬ ((lo : Int) ≤ -1 ∧ _); omega)]
      rfl
    | some n =>
      show (if (lo : Int) ≤ (n : Int) ∧ (n : Int) ≤ hi then _ else _) = (ok? (if n < lo ∨ hi < n then _ else _)).map _
      by_cases q : n < lo ∨ hi < n
      · rw [if_pos q, if_neg (by omega)]
        rfl
      · rw [if_neg q, if_pos (by omega)]
        rfl
theorem ended_eq (l : List Tote.Word) : ended (wl l) = ok? (Tote.closed l) := by cases l <;> rfl
/-- the k-th of some written words -/
theorem choice_eq {α : Type} (e : Nat) (L : List (α × String)) (h : L.all (fun y => y.2.toList.all (fun c => c.toNat < 256)) = true) (l : List Tote.Word) :
    (choice (L.map fun y => sp y.2) (wl l)).bind (fun x => L[x.1]?.map fun y => (y.1, x.2)) = (ok? (Tote.oneOf e L l)).map fun x => (x.1.1, wl x.2) := by
  cases l with
  | nil => rfl
  | cons w r =>
    unfold Tote.oneOf
    rw [ok_bind]
    show ((List.findIdx? (fun t => t == ib w.w) (L.map fun y => sp y.2)).map fun i => (i, wl r)).bind _ = (ok? (match L.find? fun y => Tote.ascii y.2 == w.w with
      | none => Except.error (⟨3, w.at_⟩ : Tote.Fault)
      | some y => pure ((y.1, w.at_), r))).map _
    induction L with
    | nil => rfl
    | cons y L ih =>
      rw [List.all_cons, Bool.and_eq_true] at h
      rw [List.map_cons, List.findIdx?_cons, List.find?_cons, sp_ascii _ h.1]
      by_cases q : Tote.ascii y.2 = w.w
      · have q1 : (ib (Tote.ascii y.2) == ib w.w) = true := by rw [q]; simp
        have q2 : (Tote.ascii y.2 == w.w) = true := by rw [q]; simp
        rw [q1, q2]
        rfl
      · have q1 : (ib (Tote.ascii y.2) == ib w.w) = false := by
          rw [beq_eq_false_iff_ne]; exact fun z => q (ib_inj z)
        have q2 : (Tote.ascii y.2 == w.w) = false := by
          rw [beq_eq_false_iff_ne]; exact q
        rw [q1, q2]
        have ih := ih h.2
        rw [← ih]
        cases List.findIdx? (fun t => t == ib w.w) (L.map fun y => sp y.2) <;> rfl
/-! ### couples -/
/-- couples as the mirror has them (b, a, in their order) and as the specification keeps them -/
structure Rel (had : List (Int × Int)) (L : List (Nat × Nat)) : Prop where
  fwd : ∀ x ∈ had, ∃ y ∈ L, x = ((y.2 : Int), (y.1 : Int))
  bwd : ∀ y ∈ L, ((y.2 : Int), (y.1 : Int)) ∈ had
  lt : ∀ y ∈ L, y.1 < y.2
theorem Rel.nil : Rel [] [] := ⟨by simp, by simp, by simp⟩
theorem mem_put (c : Nat × Nat) : ∀ (L : List (Nat × Nat)) (x : Nat × Nat), x ∈ Tote.putB c L ↔ x = c ∨ x ∈ L
  | [], x => by unfold Tote.putB; simp
  | y :: L, x => by
    unfold Tote.putB
    split
    · simp
    · rw [List.mem_cons, mem_put c L x, List.mem_cons]
      constructor
      · rintro (h | h | h)
        · exact .inr (.inl h)
        · exact .inl h
        · exact .inr (.inr h)
      · rintro (h | h | h)
        · exact .inr (.inl h)
        · exact .inl h
        · exact .inr (.inr h)
theorem Rel.put {had : List (Int × Int)} {L : List (Nat × Nat)} (r : Rel had L) {a b : Nat} (h : a < b) : Rel (had ++ [((b : Int), (a : Int))]) (Tote.putB (a, b) L) := by
  refine ⟨fun x hx => ?_, fun y hy => ?_, fun y hy => ?_⟩
  · rcases List.mem_append.mp hx with hx | hx
    · obtain ⟨y, hy, e⟩ := r.fwd x hx
      exact ⟨y, (mem_put _ _ _).mpr (.inr hy), e⟩
    · rw [List.mem_singleton] at hx
      exact ⟨(a, b), (mem_put _ _ _).mpr (.inl rfl), hx⟩
  · rcases (mem_put _ _ _).mp hy with rfl | hy
    · exact List.mem_append_right _ (List.mem_singleton.mpr rfl)
    · exact List.mem_append_left _ (r.bwd y hy)
  · rcases (mem_put _ _ _).mp hy with rfl | hy
    · exact h
    · exact r.lt y hy
theorem Rel.any1 {had : List (Int × Int)} {L : List (Nat × Nat)} (r : Rel had L) (n : Nat) : (had.any fun x => x.1 == (n : Int)) = L.any fun x => x.2 == n := by
  rw [Bool.eq_iff_iff, List.any_eq_true, List.any_eq_true]
  constructor
  · rintro ⟨x, hx, e⟩
    obtain ⟨y, hy, rfl⟩ := r.fwd x hx
    have e := eq_of_beq e
    exact ⟨y, hy, beq_iff_eq.mpr (by omega)⟩
  · rintro ⟨y, hy, e⟩
    have e := eq_of_beq e
    exact ⟨_, r.bwd y hy, beq_iff_eq.mpr (by omega)⟩
theorem Rel.any2 {had : List (Int × Int)} {L : List (Nat × Nat)} (r : Rel had L) (n : Nat) : (had.any fun x => x.2 == (n : Int)) = L.any fun x => x.1 == n := by
  rw [Bool.eq_iff_iff, List.any_eq_true, List.any_eq_true]
  constructor
  · rintro ⟨x, hx, e⟩
    obtain ⟨y, hy, rfl⟩ := r.fwd x hx
    have e := eq_of_beq e
    exact ⟨y, hy, beq_iff_eq.mpr (by omega)⟩
  · rintro ⟨y, hy, e⟩
    have e := eq_of_beq e
    exact ⟨_, r.bwd y hy, beq_iff_eq.mpr (by omega)⟩
theorem Rel.ok {had : List (Int × Int)} {L : List (Nat × Nat)} (r : Rel had L) {many a b : Nat} (ha : 1 ≤ a) (hb : b ≤ many) :
    coupleOk many had a b = ((!(L.any fun x => x.2 == a)) && (decide (a < b) && !(L.any fun x => x.1 == b || x.2 == b))) := by
  unfold coupleOk
  rw [r.any1, r.any1, r.any2]
  have e : (L.any fun x => x.1 == b || x.2 == b) = ((L.any fun x => x.1 == b) || L.any fun x => x.2 == b) := by
    induction L with
    | nil => rfl
    | cons y L ih =>
      have : ∀ L : List (Nat × Nat), (L.any fun x => x.1 == b || x.2 == b) = ((L.any fun x => x.1 == b) || L.any fun x => x.2 == b) := by
        intro L
        induction L with
        | nil => rfl
        | cons z L ih =>
          rw [List.any_cons, List.any_cons, List.any_cons, ih]
          cases (z.1 == b) <;> cases (z.2 == b) <;> cases (L.any fun x => x.1 == b) <;> cases (L.any fun x => x.2 == b) <;> rfl
      exact this _
  rw [e]
  have h1 : decide ((1 : Int) ≤ (a : Int)) = true := by simp; omega
  have h2 : decide ((b : Int) ≤ (many : Int)) = true := by simp; omega
  have h3 : decide ((a : Int) < (b : Int)) = decide (a < b) := by simp
  rw [h1, h2, h3]
  cases decide (a < b) <;> cases (L.any fun x => x.2 == a) <;> cases (L.any fun x => x.1 == b) <;> cases (L.any fun x => x.2 == b) <;> rfl
/-- the mirror's loop reads on over more than eight couples, too; that's asked behind it -/
theorem couples_more : ∀ (l : List W) (many : Int) (had : List (Int × Int)) (n : Int) (y : List (Int × Int) × Int), couples many had n l = some y → n ≤ y.2 ∧ (l ≠ [] → n + 1 ≤ y.2)
  | [], many, had, n, y, h => by
    unfold couples at h
    cases h
    exact ⟨Int.le_refl _, fun z => absurd rfl z⟩
  | [_], many, had, n, y, h => by unfold couples at h; cases h
  | [_, _], many, had, n, y, h => by unfold couples at h; cases h
  | c :: a :: b :: r, many, had, n, y, h => by
    unfold couples at h
    split at h
    · have := couples_more r many _ _ y h
      exact ⟨by omega, fun _ => by omega⟩
    · cases h
theorem wl_cons (w : Tote.Word) (l : List Tote.Word) : wl (w :: l) = ib w.w :: wl l := rfl
theorem ascii_couple : sp "couple" = ib (Tote.ascii "couple") := sp_ascii _ (by decide)
/-- one couple's words -/
theorem couples_step (many : Nat) (e : Nat) (had : List (Int × Int)) (n : Int) (L : List (Nat × Nat)) (k : Nat) (r : Rel had L) (l : List Tote.Word) (hl : l ≠ []) :
    (∃ (a b : Nat) (l' : List Tote.Word), couples many had n (wl l) = couples many (had ++ [((b : Int), (a : Int))]) (n + 1) (wl l') ∧ ok? (Tote.couplesIn e many (k + 1) L l) = ok? (Tote.couplesIn e many k (Tote.putB (a, b) L) l') ∧ a < b ∧ l'.length + 3 = l.length) ∨
    (couples many had n (wl l) = none ∧ ok? (Tote.couplesIn e many (k + 1) L l) = none) := by
  have hs : ok? (Tote.couplesIn e many (k + 1) L l) = (ok? (Tote.must e "couple" l)).bind fun m => (ok? (Tote.number e 1 many m)).bind fun a =>
      (ok? (Tote.holds (!(L.any fun (x : Nat × Nat) => x.2 == a.1.1)) 4 a.1.2)).bind fun _ => (ok? (Tote.number e 1 many a.2)).bind fun b =>
      (ok? (Tote.holds (decide (a.1.1 < b.1.1) && !(L.any fun (x : Nat × Nat) => x.1 == b.1.1 || x.2 == b.1.1)) 4 b.1.2)).bind fun _ => ok? (Tote.couplesIn e many k (Tote.putB (a.1.1, b.1.1) L) b.2) := by
    conv => lhs; unfold Tote.couplesIn
    rw [if_neg (by simpa using hl)]
    simp only [ok_bind]
  have hm : ∀ (c a b : Tote.Word) (l' : List Tote.Word), l = c :: a :: b :: l' → couples many had n (wl l) = if ib c.w = sp "couple" ∧ (1 ≤ numberOf (ib a.w) ∧ numberOf (ib a.w) ≤ (many : Int)) ∧ (1 ≤ numberOf (ib b.w) ∧ numberOf (ib b.w) ≤ (many : Int)) ∧ coupleOk many had (numberOf (ib a.w)) (numberOf (ib b.w)) = true
      then couples many (had ++ [(numberOf (ib b.w), numberOf (ib a.w))]) (n + 1) (wl l') else none := by
    rintro c a b l' rfl
    show couples _ _ _ (ib c.w :: ib a.w :: ib b.w :: wl l') = _
    rw [couples]
  rw [hs]
  match l, hl with
  | [c], _ =>
    right
    refine ⟨rfl, ?_⟩
    cases q : ok? (Tote.must e "couple" [c]) with
    | none => rfl
    | some m =>
      have e1 := must_eq e "couple" (by decide) [c]
      rw [q] at e1
      have : m = [] := by
        unfold wl must at e1
        simp only [List.map_cons, List.map_nil] at e1
        split at e1
        · have := Option.some.inj e1
          show m = []
          cases m with
          | nil => rfl
          | cons _ _ => simp [wl] at this
        · cases e1
      subst this
      rfl
  | [c, a], _ =>
    right
    refine ⟨rfl, ?_⟩
    cases q : ok? (Tote.must e "couple" [c, a]) with
    | none => rfl
    | some m =>
      have e1 : m = [a] := by
        unfold Tote.must at q
        rw [ok_bind] at q
        change ok? (if c.w = _ then _ else _) = _ at q
        split at q
        · exact (Option.some.inj q).symm
        · cases q
      subst e1
      show (ok? (Tote.number e 1 many [a])).bind _ = none
      cases q2 : ok? (Tote.number e 1 many [a]) with
      | none => rfl
      | some x =>
        have e2 : x.2 = [] := by
          unfold Tote.number at q2
          rw [ok_bind] at q2
          change ok? (match Tote.numberOf a.w with
            | none => Except.error _
            | some n => if n < 1 ∨ many < n then Except.error _ else pure ((n, a.at_), [])) = _ at q2
          split at q2
          · cases q2
          · split at q2
            · cases q2
            · rw [← Option.some.inj q2]
        show (ok? (Tote.holds _ 4 _)).bind (fun _ => (ok? (Tote.number e 1 many x.2)).bind _) = none
        rw [e2]
        cases ok? (Tote.holds (!(L.any fun (y : Nat × Nat) => y.2 == x.1.1)) 4 x.1.2) <;> rfl
  | c :: a :: b :: l', _ =>
    rw [hm c a b l' rfl]
    by_cases q1 : c.w = Tote.ascii "couple"
    · have m1 : ok? (Tote.must e "couple" (c :: a :: b :: l')) = some (a :: b :: l') := by
        unfold Tote.must
        rw [ok_bind]
        show ok? (if c.w = _ then _ else _) = _
        rw [if_pos q1]
        rfl
      rw [m1]
      have num : ∀ (x : Tote.Word) (t : List Tote.Word), (1 ≤ numberOf (ib x.w) ∧ numberOf (ib x.w) ≤ (many : Int) → ∃ i : Nat, numberOf (ib x.w) = (i : Int) ∧ 1 ≤ i ∧ i ≤ many ∧ ok? (Tote.number e 1 many (x :: t)) = some ((i, x.at_), t)) ∧
          (¬ (1 ≤ numberOf (ib x.w) ∧ numberOf (ib x.w) ≤ (many : Int)) → ok? (Tote.number e 1 many (x :: t)) = none) := by
        intro x t
        have e1 := number_eqn e 1 many (x :: t)
        change (if (1 : Int) ≤ numberOf (ib x.w) ∧ numberOf (ib x.w) ≤ (many : Int) then some (numberOf (ib x.w), wl t) else none) = _ at e1
        constructor
        · intro h
          obtain ⟨i, ei, e2, h1, h2⟩ := number_in (by decide) h
          refine ⟨i, e2, by omega, by omega, ?_⟩
          unfold Tote.number
          rw [ok_bind]
          show ok? (match Tote.numberOf x.w with
            | none => Except.error _
            | some n => if n < 1 ∨ many < n then Except.error _ else pure ((n, x.at_), t)) = _
          rw [ei]
          show ok? (if i < 1 ∨ many < i then _ else _) = _
          rw [if_neg (by omega)]
          rfl
        · intro h
          rw [if_neg h] at e1
          cases q : ok? (Tote.number e 1 many (x :: t)) with
          | none => rfl
          | some z => rw [q] at e1; cases e1
      show _ ∨ (_ ∧ (ok? (Tote.number e 1 many (a :: b :: l'))).bind _ = none)
      by_cases q2 : 1 ≤ numberOf (ib a.w) ∧ numberOf (ib a.w) ≤ (many : Int)
      · obtain ⟨i, ea, i1, i2, ei⟩ := (num a (b :: l')).1 q2
        by_cases q3 : 1 ≤ numberOf (ib b.w) ∧ numberOf (ib b.w) ≤ (many : Int)
        · obtain ⟨j, eb, j1, j2, ej⟩ := (num b l').1 q3
          have hok := r.ok (many := many) (a := i) (b := j) i1 j2
          by_cases q4 : coupleOk many had i j = true
          · left
            rw [if_pos ⟨by rw [q1, ascii_couple], q2, q3, by rw [ea, eb]; exact q4⟩, ea, eb]
            rw [q4] at hok
            have hok := hok.symm
            rw [Bool.and_eq_true] at hok
            refine ⟨i, j, l', rfl, ?_, ?_, by simp⟩
            · show (ok? (Tote.number e 1 many (a :: b :: l'))).bind _ = _
              rw [ei]
              show (ok? (Tote.holds (!(L.any fun (y : Nat × Nat) => y.2 == i)) 4 _)).bind (fun _ => (ok? (Tote.number e 1 many (b :: l'))).bind _) = _
              rw [hok.1, ej]
              show (ok? (Tote.holds (decide (i < j) && !(L.any fun (x : Nat × Nat) => x.1 == j || x.2 == j)) 4 _)).bind (fun _ => _) = _
              rw [hok.2]
              rfl
            · have := hok.2
              rw [Bool.and_eq_true] at this
              exact of_decide_eq_true this.1
          · right
            rw [if_neg (fun z => q4 (by have := z.2.2.2; rw [ea, eb] at this; exact this))]
            refine ⟨rfl, ?_⟩
            rw [ei]
            show (ok? (Tote.holds (!(L.any fun (y : Nat × Nat) => y.2 == i)) 4 _)).bind (fun _ => (ok? (Tote.number e 1 many (b :: l'))).bind _) = _
            rw [ej]
            have q5 : coupleOk many had i j = false := by simpa using q4
            rw [q5] at hok
            cases z1 : (!(L.any fun (y : Nat × Nat) => y.2 == i)) with
            | false => rfl
            | true =>
              rw [z1] at hok
              have hok : (decide (i < j) && !(L.any fun (x : Nat × Nat) => x.1 == j || x.2 == j)) = false := by simpa using hok.symm
              show (ok? (Tote.holds (decide (i < j) && !(L.any fun (x : Nat × Nat) => x.1 == j || x.2 == j)) 4 _)).bind (fun _ => _) = _
              rw [hok]
              rfl
        · right
          rw [if_neg (fun z => q3 z.2.2.1)]
          refine ⟨rfl, ?_⟩
          rw [ei]
          show (ok? (Tote.holds (!(L.any fun (y : Nat × Nat) => y.2 == i)) 4 _)).bind (fun _ => (ok? (Tote.number e 1 many (b :: l'))).bind _) = _
          rw [(num b l').2 q3]
          cases ok? (Tote.holds (!(L.any fun (y : Nat × Nat) => y.2 == i)) 4 a.at_) <;> rfl
      · right
        rw [if_neg (fun z => q2 z.2.1), (num a (b :: l')).2 q2]
        exact ⟨rfl, rfl⟩
    · right
      rw [if_neg (fun z => q1 (ib_inj (by rw [z.1, ascii_couple])))]
      refine ⟨rfl, ?_⟩
      have : ok? (Tote.must e "couple" (c :: a :: b :: l')) = none := by
        unfold Tote.must
        rw [ok_bind]
        show ok? (if c.w = _ then _ else _) = _
        rw [if_neg q1]
        rfl
      rw [this]
      rfl
theorem couples_eq (many e : Nat) : ∀ (k : Nat) (n : Int) (had : List (Int × Int)) (L : List (Nat × Nat)) (l : List Tote.Word), n + (k : Int) = 8 → Rel had L →
    match ok? (Tote.couplesIn e many k L l) with
    | some L2 => ∃ had2 m, couples many had n (wl l) = some (had2, m) ∧ m ≤ 8 ∧ Rel had2 L2
    | none => ∀ had2 m, couples many had n (wl l) = some (had2, m) → 8 < m
  | 0, n, had, L, l, hn, r => by
    cases l with
    | nil => exact ⟨had, n, rfl, by omega, r⟩
    | cons w t =>
      have e1 : ok? (Tote.couplesIn e many 0 L (w :: t)) = none := by
        unfold Tote.couplesIn
        show ok? (if _ then _ else _) = _
        split <;> rfl
      rw [e1]
      intro had2 m h
      have := (couples_more _ _ _ _ _ h).2 (by simp [wl])
      show 8 < m
      have : n + 1 ≤ m := this
      omega
  | k + 1, n, had, L, l, hn, r => by
    by_cases hl : l = []
    · subst hl
      have e1 : ok? (Tote.couplesIn e many (k + 1) L []) = some L := by
        unfold Tote.couplesIn
        rfl
      rw [e1]
      exact ⟨had, n, rfl, by omega, r⟩
    · rcases couples_step many e had n L k r l hl with ⟨a, b, l', h1, h2, h3, _⟩ | ⟨h1, h2⟩
      · rw [h1, h2]
        exact couples_eq many e k (n + 1) _ _ l' (by omega) (r.put h3)
      · rw [h1, h2]
        intro had2 m h
        cases h
end ML
/-! The plain law, part C: pools, lines, the card as a whole. -/
namespace ML
open MR
/-! ### words of an accepted line can all stand -/
def goodW (w : W) : Prop := w ≠ [] ∧ ∀ c ∈ w, 33 ≤ c ∧ c ≤ 126
theorem goodW_ib {w : B} : goodW (ib w) ↔ good w := by
  unfold goodW good
  rw [ne_eq, ib_nil]
  constructor
  · rintro ⟨h1, h2⟩
    refine ⟨h1, fun c hc => ?_⟩
    have := h2 (bi c) (List.mem_map_of_mem hc)
    unfold bi at this
    omega
  · rintro ⟨h1, h2⟩
    refine ⟨h1, fun c hc => ?_⟩
    obtain ⟨d, hd, rfl⟩ := List.mem_map.mp hc
    have := h2 d hd
    unfold bi
    omega
theorem goodW_num {w : W} (h : 0 ≤ numberOf w) : goodW w := by
  unfold numberOf at h
  split at h
  · omega
  · next q =>
    rw [not_or] at q
    refine ⟨q.1, fun c hc => ?_⟩
    have := List.all_eq_true.mp (by simpa using q.2 : w.all isFig = true) c hc
    unfold isFig at this
    rw [Bool.and_eq_true, decide_eq_true_eq, decide_eq_true_eq] at this
    omega
theorem goodW_name {w : W} (h : isName w = true) : goodW w := by
  unfold isName at h
  rw [Bool.and_eq_true, Bool.and_eq_true, Bool.and_eq_true] at h
  obtain ⟨h1, _, _, h2⟩ := h
  refine ⟨by rintro rfl; simp at h1, fun c hc => ?_⟩
  have := List.all_eq_true.mp h2 c hc
  unfold isSmall isFig at this
  rw [Bool.or_eq_true, Bool.and_eq_true, Bool.and_eq_true, decide_eq_true_eq, decide_eq_true_eq, decide_eq_true_eq, decide_eq_true_eq] at this
  omega
def goodB (w : W) : Bool := !w.isEmpty && w.all fun c => decide (33 ≤ c) && decide (c ≤ 126)
theorem goodW_of {w : W} (h : goodB w = true) : goodW w := by
  unfold goodB at h
  rw [Bool.and_eq_true] at h
  refine ⟨by rintro rfl; simp at h, fun c hc => ?_⟩
  have := List.all_eq_true.mp h.2 c hc
  rw [Bool.and_eq_true, decide_eq_true_eq, decide_eq_true_eq] at this
  exact this
theorem gd_must {t : W} {l r : List W} (h : must t l = some r) (g : goodB t = true) : ∃ w, l = w :: r ∧ goodW w := by
  cases l with
  | nil => cases h
  | cons w r' =>
    change (if w = t then some r' else none) = some r at h
    split at h
    · next q =>
      cases h
      exact ⟨w, rfl, q ▸ goodW_of g⟩
    · cases h
theorem gd_number {lo hi : Int} {l : List W} {x : Int × List W} (h : number lo hi l = some x) (h0 : 0 ≤ lo) : ∃ w, l = w :: x.2 ∧ goodW w := by
  cases l with
  | nil => cases h
  | cons w r =>
    change (if lo ≤ numberOf w ∧ numberOf w ≤ hi then some (numberOf w, r) else none) = some x at h
    split at h
    · next q =>
      cases h
      exact ⟨w, rfl, goodW_num (by omega)⟩
    · cases h
theorem gd_choice {ts : List W} {l : List W} {x : Nat × List W} (h : choice ts l = some x) (g : ts.all goodB = true) : ∃ w, l = w :: x.2 ∧ goodW w := by
  cases l with
  | nil => cases h
  | cons w r =>
    unfold choice at h
    rw [Option.map_eq_some_iff] at h
    obtain ⟨i, hi, rfl⟩ := h
    refine ⟨w, rfl, ?_⟩
    rw [List.findIdx?_eq_some_iff_getElem] at hi
    obtain ⟨hl, e, _⟩ := hi
    have := eq_of_beq e
    rw [← this]
    exact goodW_of (List.all_eq_true.mp g _ (List.getElem_mem _))
theorem gd_ended {l : List W} (h : ended l = some ()) : ∀ w ∈ l, goodW w := by
  cases l with
  | nil => intro w hw; cases hw
  | cons _ _ => cases h
theorem gd_cons {w : W} {r : List W} (h : goodW w) (t : ∀ w ∈ r, goodW w) : ∀ v ∈ w :: r, goodW v := fun v hv => by
  rcases List.mem_cons.mp hv with rfl | hv
  · exact h
  · exact t v hv
theorem gd_couples : ∀ (l : List W) (many : Int) (had : List (Int × Int)) (n : Int) (y : List (Int × Int) × Int), couples many had n l = some y → ∀ w ∈ l, goodW w
  | [], many, had, n, y, h => by intro w hw; cases hw
  | [_], many, had, n, y, h => by unfold couples at h; cases h
  | [_, _], many, had, n, y, h => by unfold couples at h; cases h
  | c :: a :: b :: r, many, had, n, y, h => by
    unfold couples at h
    split at h
    · next q =>
      refine gd_cons ?_ (gd_cons (goodW_num (by omega)) (gd_cons (goodW_num (by omega)) (gd_couples r many _ _ y h)))
      rw [q.1]
      exact goodW_of (by decide)
    · cases h
theorem gd_race {C D : Card} {l : List W} (h : readRace C l = some D) : ∀ w ∈ l, goodW w := by
  unfold readRace at h
  split at h
  · rw [Option.bind_eq_some_iff] at h
    obtain ⟨x, hx, h⟩ := h
    rw [Option.bind_eq_some_iff] at h
    obtain ⟨y, hy, h⟩ := h
    obtain ⟨w, rfl, hw⟩ := gd_number hx (by decide)
    exact gd_cons hw (gd_couples _ _ _ _ _ hy)
  · cases h
theorem gd_terms {k : Nat} {l : List W} (h : readTerms k l = some ()) : ∀ w ∈ l, goodW w := by
  unfold readTerms at h
  rw [Option.bind_eq_some_iff] at h
  obtain ⟨l1, h1, h⟩ := h
  rw [Option.bind_eq_some_iff] at h
  obtain ⟨x1, g1, h⟩ := h
  rw [Option.bind_eq_some_iff] at h
  obtain ⟨l2, h2, h⟩ := h
  rw [Option.bind_eq_some_iff] at h
  obtain ⟨x2, g2, h⟩ := h
  rw [Option.bind_eq_some_iff] at h
  obtain ⟨l3, h3, h⟩ := h
  rw [Option.bind_eq_some_iff] at h
  obtain ⟨x3, g3, h⟩ := h
  rw [Option.bind_eq_some_iff] at h
  obtain ⟨l4, h4, h⟩ := h
  rw [Option.bind_eq_some_iff] at h
  obtain ⟨x4, g4, h⟩ := h
  split at h
  · rw [Option.bind_eq_some_iff] at h
    obtain ⟨l5, h5, h⟩ := h
    rw [Option.bind_eq_some_iff] at h
    obtain ⟨z, hz, h⟩ := h
    split at h
    · obtain ⟨_, rfl, a1⟩ := gd_must h1 (by decide)
      obtain ⟨_, rfl, a2⟩ := gd_number g1 (by decide)
      obtain ⟨_, e, a3⟩ := gd_must h2 (by decide)
      obtain ⟨_, rfl, a4⟩ := gd_number g2 (by decide)
      obtain ⟨_, e2, a5⟩ := gd_must h3 (by decide)
      obtain ⟨_, rfl, a6⟩ := gd_number g3 (by decide)
      obtain ⟨_, e3, a7⟩ := gd_must h4 (by decide)
      obtain ⟨_, rfl, a8⟩ := gd_number g4 (by decide)
      obtain ⟨_, e4, a9⟩ := gd_must h5 (by decide)
      obtain ⟨_, rfl, a10⟩ := gd_choice hz (by decide)
      rw [e, e2, e3, e4]
      exact gd_cons a1 (gd_cons a2 (gd_cons a3 (gd_cons a4 (gd_cons a5 (gd_cons a6 (gd_cons a7 (gd_cons a8 (gd_cons a9 (gd_cons a10 (gd_ended h))))))))))
    · cases h
  · cases h
theorem least_pos (k : Nat) : 0 ≤ leastK k := by unfold leastK; split <;> decide
theorem gd_pool {C D : Card} {l : List W} (h : readPool C l = some D) : ∀ w ∈ l, goodW w := by
  cases l with
  | nil => cases h
  | cons w l =>
    rw [readPool] at h
    split at h
    · next q =>
      rw [Option.bind_eq_some_iff] at h
      obtain ⟨kd, h1, h⟩ := h
      rw [Option.bind_eq_some_iff] at h
      obtain ⟨k, h2, h⟩ := h
      rw [Option.bind_eq_some_iff] at h
      obtain ⟨l2, h3, h⟩ := h
      rw [Option.bind_eq_some_iff] at h
      obtain ⟨r, h4, h⟩ := h
      split at h
      · rw [Option.map_eq_some_iff] at h
        obtain ⟨_, h5, _⟩ := h
        obtain ⟨_, rfl, a1⟩ := gd_choice h1 (by decide)
        obtain ⟨_, e1, a2⟩ := gd_number h2 (least_pos _)
        obtain ⟨_, e2, a3⟩ := gd_must h3 (by decide)
        obtain ⟨_, rfl, a4⟩ := gd_number h4 (by decide)
        rw [e1, e2]
        exact gd_cons (goodW_name q.2.1) (gd_cons a1 (gd_cons a2 (gd_cons a3 (gd_cons a4 (gd_terms h5)))))
      · cases h
    · cases h
theorem gd_line {C D : Card} {l : List W} (h : readLine C l = some D) : ∀ w ∈ l, goodW w := by
  unfold readLine at h
  rw [Option.bind_eq_some_iff] at h
  obtain ⟨x, h1, h⟩ := h
  obtain ⟨_, rfl, a1⟩ := gd_choice h1 (by decide)
  split at h
  · exact gd_cons a1 (gd_race h)
  · exact gd_cons a1 (gd_pool h)
theorem gd_day {l : List W} (h : readDay l = some ()) : ∀ w ∈ l, goodW w := by
  unfold readDay at h
  rw [Option.bind_eq_some_iff] at h
  obtain ⟨r, h1, h⟩ := h
  obtain ⟨_, rfl, a1⟩ := gd_must h1 (by decide)
  cases r with
  | nil => cases h
  | cons w r =>
    change (if isName w = true then ended r else none) = some () at h
    split at h
    · next q => exact gd_cons a1 (gd_cons (goodW_name q) (gd_ended h))
    · cases h
/-! ### cards that are alike -/
structure RR (r : Tote.Race) (m : Race) : Prop where
  many : m.many = (r.runners : Int)
  rel : Rel m.heads r.couples
structure CR (C : Tote.Card) (M : Card) : Prop where
  len : M.races.length = C.races.length
  race : ∀ (i : Nat) (r : Tote.Race), C.races[i]? = some r → ∃ m : Race, M.races[i]? = some m ∧ RR r m
  pools : M.pools = C.pools.length
  names : M.names = C.pools.map fun p => ib p.name
theorem heads_len {r : Tote.Race} {m : Race} (h : RR r m) : m.interests.length = r.heads.length := by
  unfold Race.interests Tote.Race.heads
  rw [h.many, Int.toNat_natCast, List.filter_map, List.filter_map, List.length_map, List.length_map]
  congr 1
  apply List.filter_congr
  intro i _
  show (!(m.heads.any fun x => x.1 == (1 : Int) + (i : Int))) = (r.head (i + 1) == i + 1)
  have e := h.rel.any1 (i + 1)
  rw [show ((i + 1 : Nat) : Int) = (1 : Int) + (i : Int) by omega] at e
  rw [e]
  unfold Tote.Race.head
  cases q : r.couples.find? fun c => c.2 == i + 1 with
  | none =>
    have : (r.couples.any fun x => x.2 == i + 1) = false := by
      rw [List.find?_eq_none] at q
      rw [List.any_eq_false]
      exact fun x hx => q x hx
    rw [this]
    simp
  | some c =>
    have hc := List.mem_of_find?_eq_some q
    have h2 := List.find?_some q
    have h2 := eq_of_beq h2
    have : (r.couples.any fun x => x.2 == i + 1) = true := List.any_eq_true.mpr ⟨c, hc, beq_iff_eq.mpr h2⟩
    rw [this]
    have lt := h.rel.lt c hc
    show false = (c.1 == i + 1)
    symm
    rw [beq_eq_false_iff_ne]
    omega
/-- a line read by the specification and by the mirror -/
def Agree (o : Option (Option Tote.Card)) (m : Option Card) : Prop := match o with
  | some (some C) => ∃ M, m = some M ∧ CR C M
  | some none => False
  | none => m = none
/-! ### a race's line -/
theorem race_eq {C : Tote.Card} {M : Card} (e : Nat) (r : CR C M) (l : List Tote.Word) (hp : C.pools = []) (hn : C.races.length < 16) : Agree (ok? (Tote.withRace e C l)) (readRace M (wl l)) := by
  have h0 : M.races.length < 16 ∧ M.pools = 0 := ⟨by rw [r.len]; exact hn, by rw [r.pools, hp]; rfl⟩
  have e1 : ok? (Tote.withRace e C l) = (ok? (Tote.number e 2 24 l)).bind fun x => (ok? (Tote.couplesIn e x.1.1 8 [] x.2)).map fun c => some { C with races := C.races ++ [⟨x.1.1, c⟩] } := by
    unfold Tote.withRace Tote.raceIn
    rw [ok_map, ok_bind]
    show ((ok? (Tote.number e 2 24 l)).bind _).map _ = _
    cases ok? (Tote.number e 2 24 l) with
    | none => rfl
    | some x =>
      show (ok? (Tote.couplesIn e x.1.1 8 [] x.2 >>= _)).map _ = (ok? (Tote.couplesIn e x.1.1 8 [] x.2)).map _
      rw [ok_bind]
      cases ok? (Tote.couplesIn e x.1.1 8 [] x.2) <;> rfl
  have e2 : readRace M (wl l) = (ok? (Tote.number e 2 24 l)).bind fun x => (couples (x.1.1 : Int) [] 0 (wl x.2)).bind fun y => if y.2 ≤ 8 then some { M with races := M.races ++ [(⟨(x.1.1 : Int), y.1⟩ : Race)] } else none := by
    unfold readRace
    rw [if_pos h0, show (2 : Int) = ((2 : Nat) : Int) from rfl, show (24 : Int) = ((24 : Nat) : Int) from rfl, number_eqn e]
    cases ok? (Tote.number e 2 24 l) <;> rfl
  rw [e1, e2]
  cases ok? (Tote.number e 2 24 l) with
  | none => exact rfl
  | some x =>
    have h := couples_eq x.1.1 e 8 0 [] [] x.2 (by decide) Rel.nil
    rw [Option.bind_some, Option.bind_some]
    cases q : ok? (Tote.couplesIn e x.1.1 8 [] x.2) with
    | none =>
      rw [q] at h
      show ((couples (x.1.1 : Int) [] 0 (wl x.2)).bind fun y => if y.2 ≤ 8 then some ({ M with races := M.races ++ [(⟨(x.1.1 : Int), y.1⟩ : Race)] } : Card) else none) = none
      cases q2 : couples (x.1.1 : Int) [] 0 (wl x.2) with
      | none => rfl
      | some y =>
        have := h y.1 y.2 q2
        rw [Option.bind_some, if_neg (by omega)]
    | some L =>
      rw [q] at h
      obtain ⟨had, m, q2, q3, q4⟩ := h
      rw [q2, Option.bind_some, if_pos q3]
      refine ⟨{ M with races := M.races ++ [(⟨(x.1.1 : Int), had⟩ : Race)] }, rfl, ?_, ?_, r.pools, r.names⟩
      · show (M.races ++ [(⟨(x.1.1 : Int), had⟩ : Race)]).length = (C.races ++ [(⟨x.1.1, L⟩ : Tote.Race)]).length
        rw [List.length_append, List.length_append, r.len]
        rfl
      · intro i s hs
        change (C.races ++ [(⟨x.1.1, L⟩ : Tote.Race)])[i]? = some s at hs
        show ∃ m, (M.races ++ [(⟨(x.1.1 : Int), had⟩ : Race)])[i]? = some m ∧ RR s m
        by_cases hi : i < C.races.length
        · rw [List.getElem?_append_left hi] at hs
          rw [List.getElem?_append_left (by rw [r.len]; exact hi)]
          exact r.race i s hs
        · rw [List.getElem?_append_right (by omega)] at hs
          rw [List.getElem?_append_right (by rw [r.len]; omega), r.len]
          cases k : i - C.races.length with
          | zero =>
            rw [k] at hs
            cases Option.some.inj hs
            exact ⟨_, rfl, rfl, q4⟩
          | succ j => rw [k] at hs; cases hs
/-! ### a pool's line -/
theorem oneOf_cons {α : Type} (e : Nat) (L : List (α × String)) (w : Tote.Word) (r : List Tote.Word) : ok? (Tote.oneOf e L (w :: r)) = (L.find? fun y => Tote.ascii y.2 == w.w).map fun y => ((y.1, w.at_), r) := by
  unfold Tote.oneOf
  rw [ok_bind]
  show ok? (match L.find? fun y => Tote.ascii y.2 == w.w with
        | none => Except.error (⟨3, w.at_⟩ : Tote.Fault)
        | some y => pure ((y.1, w.at_), r)) = _
  cases L.find? fun y => Tote.ascii y.2 == w.w <;> rfl
theorem kinds_eq (e : Nat) (l : List Tote.Word) : (choice kinds (wl l) = none ∧ ok? (Tote.oneOf e Tote.KINDS l) = none) ∨
    ∃ (i : Nat) (z : (Tote.Kind × Nat) × List Tote.Word), choice kinds (wl l) = some (i, wl z.2) ∧ ok? (Tote.oneOf e Tote.KINDS l) = some z ∧
      ((i = 0 ∧ z.1.1 = .place) ∨ (i = 1 ∧ z.1.1 = .order) ∨ (i = 2 ∧ z.1.1 = .any) ∨ (i = 3 ∧ z.1.1 = .legs)) := by
  have h := choice_eq e Tote.KINDS (by decide) l
  change (choice kinds (wl l)).bind _ = _ at h
  cases q : choice kinds (wl l) with
  | none =>
    rw [q] at h
    left
    refine ⟨rfl, ?_⟩
    cases q2 : ok? (Tote.oneOf e Tote.KINDS l) with
    | none => rfl
    | some z => rw [q2] at h; cases h
  | some x =>
    rw [q] at h
    right
    obtain ⟨i, t⟩ := x
    have hi : i = 0 ∨ i = 1 ∨ i = 2 ∨ i = 3 := by
      cases l with
      | nil => cases q
      | cons w r =>
        change (List.findIdx? (fun t => t == ib w.w) kinds).map _ = _ at q
        rw [Option.map_eq_some_iff] at q
        obtain ⟨j, hj, e2⟩ := q
        rw [List.findIdx?_eq_some_iff_getElem] at hj
        obtain ⟨hl, _⟩ := hj
        cases e2
        have : i < 4 := hl
        omega
    cases q2 : ok? (Tote.oneOf e Tote.KINDS l) with
    | none =>
      rw [q2] at h
      rcases hi with rfl | rfl | rfl | rfl <;> cases h
    | some z =>
      rw [q2] at h
      rcases hi with rfl | rfl | rfl | rfl
      all_goals
        have h := Option.some.inj h
        have e1 := congrArg Prod.fst h
        have e2 := congrArg Prod.snd h
        change _ = z.1.1 at e1
        change t = wl z.2 at e2
        refine ⟨_, z, by rw [e2], rfl, ?_⟩
        rw [← e1]
        simp
theorem nones_eq (e : Nat) (p : Prop) [Decidable p] (kind : Nat) (hk : kind = 0 ↔ p) (l : List Tote.Word) :
    ((choice nones (wl l)).bind fun z => if kind ≠ 0 ∨ z.1 ≠ 2 then ended z.2 else none) = (ok? (Tote.oneOf e (if p then Tote.NONES.take 2 else Tote.NONES) l)).bind fun z => ok? (Tote.closed z.2) := by
  cases l with
  | nil => split <;> rfl
  | cons w r =>
    have e1 : ∀ L : List (Tote.None_ × String), (ok? (Tote.oneOf e L (w :: r))).bind (fun z => ok? (Tote.closed z.2)) = (L.find? fun y => Tote.ascii y.2 == w.w).bind fun _ => ok? (Tote.closed r) := by
      intro L
      rw [oneOf_cons]
      cases L.find? fun y => Tote.ascii y.2 == w.w <;> rfl
    rw [e1]
    show ((List.findIdx? (fun t => t == ib w.w) nones).map fun i => (i, wl r)).bind _ = _
    have f : ∀ s : String, s.toList.all (fun c => c.toNat < 256) = true → (sp s == ib w.w) = (Tote.ascii s == w.w) := by
      intro s hs
      rw [sp_ascii s hs, Bool.eq_iff_iff, beq_iff_eq, beq_iff_eq, ib_eq]
    have d1 : (Tote.ascii "refund" == w.w) = true → (Tote.ascii "carry" == w.w) = false := fun h => by rw [← eq_of_beq h]; decide
    unfold nones
    rw [List.findIdx?_cons, List.findIdx?_cons, List.findIdx?_cons, List.findIdx?_nil, f _ (by decide), f _ (by decide), f _ (by decide)]
    have e2 : (Tote.NONES.take 2).find? (fun y => Tote.ascii y.2 == w.w) = if Tote.ascii "refund" == w.w then some (Tote.None_.refund, "refund") else if Tote.ascii "carry" == w.w then some (Tote.None_.carry, "carry") else none := by
      show List.find? _ [(Tote.None_.refund, "refund"), (.carry, "carry")] = _
      rw [List.find?_cons, List.find?_cons, List.find?_nil]
      cases Tote.ascii "refund" == w.w <;> cases Tote.ascii "carry" == w.w <;> rfl
    have e3 : Tote.NONES.find? (fun y => Tote.ascii y.2 == w.w) = if Tote.ascii "refund" == w.w then some (Tote.None_.refund, "refund") else if Tote.ascii "carry" == w.w then some (Tote.None_.carry, "carry") else if Tote.ascii "fewer" == w.w then some (Tote.None_.fewer, "fewer") else none := by
      show List.find? _ [(Tote.None_.refund, "refund"), (.carry, "carry"), (.fewer, "fewer")] = _
      rw [List.find?_cons, List.find?_cons, List.find?_cons, List.find?_nil]
      cases Tote.ascii "refund" == w.w <;> cases Tote.ascii "carry" == w.w <;> cases Tote.ascii "fewer" == w.w <;> rfl
    have e4 : ended (wl r) = ok? (Tote.closed r) := ended_eq r
    by_cases hp : p
    · rw [if_pos hp, e2]
      have k0 : kind = 0 := hk.mpr hp
      subst k0
      cases h1 : Tote.ascii "refund" == w.w
      · cases h2 : Tote.ascii "carry" == w.w
        · cases h3 : Tote.ascii "fewer" == w.w
          · rfl
          · simp
        · simpa using e4
      · simpa using e4
    · rw [if_neg hp, e3]
      have k0 : kind ≠ 0 := fun z => hp (hk.mp z)
      cases h1 : Tote.ascii "refund" == w.w
      · cases h2 : Tote.ascii "carry" == w.w
        · cases h3 : Tote.ascii "fewer" == w.w
          · rfl
          · simpa [k0] using e4
        · simpa [k0] using e4
      · simpa [k0] using e4
end ML
/-! The plain law, part D: a pool's line, lines, the card. -/
namespace ML
open MR
theorem num1 (e lo hi : Nat) (lo' hi' : Int) (h1 : lo' = (lo : Int)) (h2 : hi' = (hi : Int)) (l : List Tote.Word) : number lo' hi' (wl l) = (ok? (Tote.number e lo hi l)).map fun x => ((x.1.1 : Int), wl x.2) := by
  rw [h1, h2]
  exact number_eqn e lo hi l
/-- what the specification reads of a pool's money -/
def termsS (e : Nat) (p : Prop) [Decidable p] (l : List Tote.Word) : Option ((Nat × Nat × Nat × Nat) × Tote.None_) :=
  (ok? (Tote.must e "take" l)).bind fun l1 => (ok? (Tote.number e 0 400 l1)).bind fun t => (ok? (Tote.must e "break" t.2)).bind fun l2 => (ok? (Tote.number e 1 1000 l2)).bind fun b =>
  (ok? (Tote.must e "least" b.2)).bind fun l3 => (ok? (Tote.number e 0 20000 l3)).bind fun m => (ok? (Tote.must e "unit" m.2)).bind fun l4 => (ok? (Tote.number e 1 10000 l4)).bind fun u =>
  (ok? (Tote.holds (m.1.1 == 0 || Tote.inside u.1.1 (2 * u.1.1) m.1.1) 4 u.1.2)).bind fun _ => (ok? (Tote.must e "none" u.2)).bind fun l5 =>
  (ok? (Tote.oneOf e (if p then Tote.NONES.take 2 else Tote.NONES) l5)).bind fun z => (ok? (Tote.closed z.2)).bind fun _ => some ((t.1.1, b.1.1, m.1.1, u.1.1), z.1.1)
theorem terms_eq (e : Nat) (p : Prop) [Decidable p] (kind : Nat) (hk : kind = 0 ↔ p) (l : List Tote.Word) : readTerms kind (wl l) = (termsS e p l).map fun _ => () := by
  unfold readTerms termsS
  rw [must_eq e "take" (by decide)]
  cases ok? (Tote.must e "take" l) with
  | none => rfl
  | some l1 =>
  rw [Option.map_some, Option.bind_some, Option.bind_some, num1 e 0 400 0 400 rfl rfl]
  cases ok? (Tote.number e 0 400 l1) with
  | none => rfl
  | some t =>
  rw [Option.map_some, Option.bind_some, Option.bind_some, must_eq e "break" (by decide)]
  cases ok? (Tote.must e "break" t.2) with
  | none => rfl
  | some l2 =>
  rw [Option.map_some, Option.bind_some, Option.bind_some, num1 e 1 1000 1 1000 rfl rfl]
  cases ok? (Tote.number e 1 1000 l2) with
  | none => rfl
  | some b =>
  rw [Option.map_some, Option.bind_some, Option.bind_some, must_eq e "least" (by decide)]
  cases ok? (Tote.must e "least" b.2) with
  | none => rfl
  | some l3 =>
  rw [Option.map_some, Option.bind_some, Option.bind_some, num1 e 0 20000 0 20000 rfl rfl]
  cases ok? (Tote.number e 0 20000 l3) with
  | none => rfl
  | some m =>
  rw [Option.map_some, Option.bind_some, Option.bind_some, must_eq e "unit" (by decide)]
  cases ok? (Tote.must e "unit" m.2) with
  | none => rfl
  | some l4 =>
  rw [Option.map_some, Option.bind_some, Option.bind_some, num1 e 1 10000 1 10000 rfl rfl]
  cases ok? (Tote.number e 1 10000 l4) with
  | none => rfl
  | some u =>
  rw [Option.map_some, Option.bind_some, Option.bind_some]
  have hc : (((m.1.1 : Int) = 0 ∨ ((u.1.1 : Int) ≤ (m.1.1 : Int) ∧ (m.1.1 : Int) ≤ 2 * (u.1.1 : Int)))) ↔ (m.1.1 == 0 || Tote.inside u.1.1 (2 * u.1.1) m.1.1) = true := by
    unfold Tote.inside
    rw [Bool.or_eq_true, Bool.and_eq_true, beq_iff_eq, decide_eq_true_eq, decide_eq_true_eq]
    omega
  by_cases hq : (m.1.1 == 0 || Tote.inside u.1.1 (2 * u.1.1) m.1.1) = true
  · rw [if_pos (hc.mpr hq), hq]
    show _ = Option.map _ ((ok? (Tote.must e "none" u.2)).bind _)
    rw [must_eq e "none" (by decide)]
    cases ok? (Tote.must e "none" u.2) with
    | none => rfl
    | some l5 =>
      rw [Option.map_some, Option.bind_some, Option.bind_some, nones_eq e p kind hk]
      cases ok? (Tote.oneOf e (if p then Tote.NONES.take 2 else Tote.NONES) l5) with
      | none => rfl
      | some z =>
        rw [Option.bind_some, Option.bind_some]
        cases ok? (Tote.closed z.2) <;> rfl
  · rw [if_neg (fun z => hq (hc.mp z))]
    have hq' : (m.1.1 == 0 || Tote.inside u.1.1 (2 * u.1.1) m.1.1) = false := by simpa using hq
    rw [hq']
    rfl
theorem pool_chain (e : Nat) (C : Tote.Card) (l : List Tote.Word) : ok? (Tote.poolIn e C l) = (ok? (Tote.newName e (C.pools.map fun (p : Tote.Pool) => p.name) l)).bind fun n => (ok? (Tote.oneOf e Tote.KINDS n.2)).bind fun kd =>
    (ok? (Tote.number e (Tote.leastK kd.1.1) (Tote.mostK kd.1.1) kd.2)).bind fun k => (ok? (Tote.must e "from" k.2)).bind fun l1 => (ok? (Tote.number e 1 C.races.length l1)).bind fun r =>
    (ok? (Tote.holds (kd.1.1 != .legs || decide (r.1.1 + k.1.1 ≤ C.races.length + 1)) 4 r.1.2)).bind fun _ =>
    (ok? (Tote.holds (kd.1.1 == .legs || ((C.races[r.1.1 - 1]?).map fun (x : Tote.Race) => decide (k.1.1 ≤ x.heads.length)).getD false) 7 k.1.2)).bind fun _ =>
    (termsS e (kd.1.1 = .place) r.2).map fun t => ⟨n.1, kd.1.1, k.1.1, r.1.1, t.2, t.1.1, t.1.2.1, t.1.2.2.1, t.1.2.2.2⟩ := by
  unfold Tote.poolIn termsS
  simp only [ok_bind, ok_pure, Option.map_bind, Function.comp_def, Option.map_some]
theorem holds_ok (b : Bool) (k p : Nat) : ok? (Tote.holds b k p) = if b = true then some () else none := by unfold Tote.holds; cases b <;> rfl
theorem pool_eq {C : Tote.Card} {M : Card} (e : Nat) (r : CR C M) (l : List Tote.Word) (hn : C.pools.length < 64) : Agree (ok? (Tote.withPool e C l)) (readPool M (wl l)) := by
  unfold Tote.withPool
  rw [ok_map, pool_chain]
  cases l with
  | nil => exact rfl
  | cons w l =>
  have h1 : ok? (Tote.newName e (C.pools.map fun (p : Tote.Pool) => p.name) (w :: l)) = if Tote.isName w.w = true ∧ w.w ∉ C.pools.map fun (p : Tote.Pool) => p.name then some (w.w, l) else none := by
    unfold Tote.newName
    rw [ok_bind]
    show ok? (if Tote.isName w.w = false then Except.error (⟨4, w.at_⟩ : Tote.Fault) else if (C.pools.map fun (p : Tote.Pool) => p.name).contains w.w = true then Except.error (⟨5, w.at_⟩ : Tote.Fault) else pure (w.w, l)) = _
    by_cases a : Tote.isName w.w = true
    · rw [if_neg (by simp [a])]
      by_cases b : w.w ∈ C.pools.map fun (p : Tote.Pool) => p.name
      · rw [if_pos (by simpa using b), if_neg (fun z => z.2 b)]
        rfl
      · rw [if_neg (by simpa using b), if_pos ⟨a, b⟩]
        rfl
    · rw [if_pos (by simpa using a), if_neg (fun z => a z.1)]
      rfl
  rw [h1]
  have h2 : (M.pools < 64 ∧ isName (ib w.w) = true ∧ ib w.w ∉ M.names) ↔ (Tote.isName w.w = true ∧ w.w ∉ C.pools.map fun (p : Tote.Pool) => p.name) := by
    rw [name_eq, r.names, r.pools]
    have : ib w.w ∈ C.pools.map (fun p => ib p.name) ↔ w.w ∈ C.pools.map fun (p : Tote.Pool) => p.name := by
      rw [List.mem_map, List.mem_map]
      constructor
      · rintro ⟨p, hp, q⟩
        exact ⟨p, hp, ib_inj q⟩
      · rintro ⟨p, hp, q⟩
        exact ⟨p, hp, by rw [q]⟩
    rw [this]
    exact ⟨fun z => z.2, fun z => ⟨hn, z⟩⟩
  show Agree _ (if M.pools < 64 ∧ isName (ib w.w) = true ∧ ib w.w ∉ M.names then (choice kinds (wl l)).bind _ else none)
  by_cases q : Tote.isName w.w = true ∧ w.w ∉ C.pools.map fun (p : Tote.Pool) => p.name
  case neg =>
    rw [if_neg q, if_neg (fun z => q (h2.mp z))]
    exact rfl
  rw [if_pos q, if_pos (h2.mpr q), Option.bind_some]
  rcases kinds_eq e l with ⟨c1, c2⟩ | ⟨i, z, c1, c2, hz⟩
  · rw [c1, c2]
    exact rfl
  rw [c1, c2, Option.bind_some, Option.bind_some]
  have k1 : leastK i = ((Tote.leastK z.1.1 : Nat) : Int) := by
    rcases hz with ⟨a, b⟩ | ⟨a, b⟩ | ⟨a, b⟩ | ⟨a, b⟩ <;> rw [a, b] <;> rfl
  have k2 : mostK i = ((Tote.mostK z.1.1 : Nat) : Int) := by
    rcases hz with ⟨a, b⟩ | ⟨a, b⟩ | ⟨a, b⟩ | ⟨a, b⟩ <;> rw [a, b] <;> rfl
  have k3 : i = 3 ↔ z.1.1 = .legs := by
    rcases hz with ⟨a, b⟩ | ⟨a, b⟩ | ⟨a, b⟩ | ⟨a, b⟩ <;> rw [a, b] <;> decide
  have k0 : i = 0 ↔ z.1.1 = .place := by
    rcases hz with ⟨a, b⟩ | ⟨a, b⟩ | ⟨a, b⟩ | ⟨a, b⟩ <;> rw [a, b] <;> decide
  rw [num1 e _ _ _ _ k1 k2]
  cases ok? (Tote.number e (Tote.leastK z.1.1) (Tote.mostK z.1.1) z.2) with
  | none => exact rfl
  | some k =>
  rw [Option.map_some, Option.bind_some, Option.bind_some, must_eq e "from" (by decide)]
  cases ok? (Tote.must e "from" k.2) with
  | none => exact rfl
  | some l1 =>
  rw [Option.map_some, Option.bind_some, Option.bind_some, num1 e 1 C.races.length 1 (M.races.length : Int) rfl (by rw [r.len])]
  cases hr : ok? (Tote.number e 1 C.races.length l1) with
  | none => exact rfl
  | some x =>
  rw [Option.map_some, Option.bind_some, Option.bind_some, holds_ok, holds_ok]
  -- the number is within bounds
  have hx : 1 ≤ x.1.1 ∧ x.1.1 ≤ C.races.length := by
    cases l1 with
    | nil => cases hr
    | cons v t =>
      unfold Tote.number at hr
      rw [ok_bind] at hr
      change ok? (match Tote.numberOf v.w with
        | none => Except.error (⟨4, v.at_⟩ : Tote.Fault)
        | some n => if n < 1 ∨ C.races.length < n then Except.error (⟨4, v.at_⟩ : Tote.Fault) else pure ((n, v.at_), t)) = some x at hr
      cases hv : Tote.numberOf v.w with
      | none => rw [hv] at hr; cases hr
      | some n =>
        rw [hv] at hr
        change ok? (if n < 1 ∨ C.races.length < n then Except.error (⟨4, v.at_⟩ : Tote.Fault) else pure ((n, v.at_), t)) = some x at hr
        by_cases b : n < 1 ∨ C.races.length < n
        · rw [if_pos b] at hr; cases hr
        · rw [if_neg b] at hr
          cases Option.some.inj hr
          show 1 ≤ n ∧ n ≤ C.races.length
          omega
  obtain ⟨rc, hrc⟩ : ∃ rc, C.races[x.1.1 - 1]? = some rc := ⟨_, List.getElem?_eq_getElem (by omega)⟩
  obtain ⟨m, hm, hrr⟩ := r.race _ _ hrc
  have hat : raceAt M.races (x.1.1 : Int) = m := by
    unfold raceAt
    rw [Int.toNat_natCast, List.getD_eq_getElem?_getD, hm]
    rfl
  rw [hat, heads_len hrr, hrc]
  have hcond : ((x.1.1 : Int) + spans i (k.1.1 : Int) - 1 ≤ (M.races.length : Int) ∧ (i = 3 ∨ (k.1.1 : Int) ≤ (rc.heads.length : Int))) ↔
      ((z.1.1 != .legs || decide (x.1.1 + k.1.1 ≤ C.races.length + 1)) = true ∧ (z.1.1 == .legs || ((some rc).map fun (x : Tote.Race) => decide (k.1.1 ≤ x.heads.length)).getD false) = true) := by
    rw [r.len, Bool.or_eq_true, Bool.or_eq_true, bne_iff_ne, beq_iff_eq, decide_eq_true_eq, Option.map_some, Option.getD_some, decide_eq_true_eq]
    unfold spans
    by_cases c3 : i = 3
    · rw [if_pos c3]
      have := k3.mp c3
      constructor
      · rintro ⟨a, _⟩
        exact ⟨.inr (by omega), .inl this⟩
      · rintro ⟨a, _⟩
        rcases a with a | a
        · exact absurd this a
        · exact ⟨by omega, .inl c3⟩
    · rw [if_neg c3]
      have n3 : z.1.1 ≠ .legs := fun q => c3 (k3.mpr q)
      constructor
      · rintro ⟨_, b⟩
        rcases b with b | b
        · exact absurd b c3
        · exact ⟨.inl n3, .inr (by omega)⟩
      · rintro ⟨_, b⟩
        rcases b with b | b
        · exact absurd b n3
        · exact ⟨by omega, .inr (by omega)⟩
  show Agree _ (if (x.1.1 : Int) + spans i (k.1.1 : Int) - 1 ≤ (M.races.length : Int) ∧ (i = 3 ∨ (k.1.1 : Int) ≤ (rc.heads.length : Int)) then (readTerms i (wl x.2)).map fun _ => { M with pools := M.pools + 1, names := M.names ++ [ib w.w] } else none)
  by_cases hb : (z.1.1 != .legs || decide (x.1.1 + k.1.1 ≤ C.races.length + 1)) = true ∧ (z.1.1 == .legs || ((some rc).map fun (x : Tote.Race) => decide (k.1.1 ≤ x.heads.length)).getD false) = true
  case neg =>
    rw [if_neg (fun q => hb (hcond.mp q))]
    by_cases b1 : (z.1.1 != .legs || decide (x.1.1 + k.1.1 ≤ C.races.length + 1)) = true
    · rw [if_pos b1, Option.bind_some, if_neg (fun q => hb ⟨b1, q⟩)]
      exact rfl
    · rw [if_neg b1]
      exact rfl
  rw [if_pos (hcond.mpr hb), if_pos hb.1, Option.bind_some, if_pos hb.2, Option.bind_some, terms_eq e _ i k0]
  cases termsS e (z.1.1 = .place) x.2 with
  | none => exact rfl
  | some t =>
    refine ⟨_, rfl, ⟨r.len, r.race, ?_, ?_⟩⟩
    · show M.pools + 1 = (C.pools ++ [_]).length
      rw [List.length_append, r.pools]
      rfl
    · show M.names ++ [ib w.w] = (C.pools ++ [_]).map _
      rw [List.map_append, r.names]
      rfl
/-! ### a line behind the first -/
theorem line_eq {C : Tote.Card} {M : Card} (r : CR C M) (l : List Tote.Word) (e : Nat) : Agree (ok? (Tote.lineIn (some C) ⟨l, e⟩)) (readLine M (wl l)) := by
  unfold Tote.lineIn
  rw [ok_bind']
  cases l with
  | nil => exact rfl
  | cons w l =>
  show Agree (ok? (if w.w = Tote.ascii "race" ∧ C.pools = [] then (if Tote.RACES ≤ C.races.length then Except.error (⟨6, w.at_⟩ : Tote.Fault) else Tote.withRace e C l)
    else if w.w = Tote.ascii "pool" ∧ C.races ≠ [] then (if Tote.POOLS ≤ C.pools.length then Except.error (⟨6, w.at_⟩ : Tote.Fault) else Tote.withPool e C l) else Except.error (⟨3, w.at_⟩ : Tote.Fault))) _
  have hr : (sp "race" == ib w.w) = (Tote.ascii "race" == w.w) := by rw [sp_ascii _ (by decide), Bool.eq_iff_iff, beq_iff_eq, beq_iff_eq, ib_eq]
  have hp : (sp "pool" == ib w.w) = (Tote.ascii "pool" == w.w) := by rw [sp_ascii _ (by decide), Bool.eq_iff_iff, beq_iff_eq, beq_iff_eq, ib_eq]
  have hm : readLine M (wl (w :: l)) = if w.w = Tote.ascii "race" then readRace M (wl l) else if w.w = Tote.ascii "pool" then readPool M (wl l) else none := by
    show ((List.findIdx? (fun t => t == ib w.w) [sp "race", sp "pool"]).map fun i => (i, wl l)).bind (fun x => if x.1 = 0 then readRace M x.2 else readPool M x.2) = _
    rw [List.findIdx?_cons, List.findIdx?_cons, List.findIdx?_nil, hr, hp]
    by_cases a : w.w = Tote.ascii "race"
    · rw [if_pos a, a]
      rfl
    · rw [if_neg a, show (Tote.ascii "race" == w.w) = false from beq_eq_false_iff_ne.mpr (fun z => a z.symm)]
      by_cases b : w.w = Tote.ascii "pool"
      · rw [if_pos b, b]
        rfl
      · rw [if_neg b, show (Tote.ascii "pool" == w.w) = false from beq_eq_false_iff_ne.mpr (fun z => b z.symm)]
        rfl
  rw [hm]
  have d : Tote.ascii "race" ≠ Tote.ascii "pool" := by decide
  by_cases a : w.w = Tote.ascii "race"
  · rw [if_pos a]
    by_cases c : C.pools = []
    · rw [if_pos ⟨a, c⟩]
      by_cases n : Tote.RACES ≤ C.races.length
      · rw [if_pos n]
        show readRace M (wl l) = none
        unfold readRace
        rw [if_neg]
        rintro ⟨z, _⟩
        rw [r.len] at z
        have : (16 : Nat) ≤ C.races.length := n
        omega
      · rw [if_neg n]
        exact race_eq e r l c (Nat.lt_of_not_le n)
    · rw [if_neg (fun z => c z.2), if_neg (fun z => d (a.symm.trans z.1))]
      show readRace M (wl l) = none
      unfold readRace
      rw [if_neg]
      rintro ⟨_, z⟩
      rw [r.pools] at z
      exact c (List.length_eq_zero_iff.mp z)
  · rw [if_neg a, if_neg (fun z => a z.1)]
    by_cases b : w.w = Tote.ascii "pool"
    · rw [if_pos b]
      by_cases c : C.races = []
      · rw [if_neg (fun z => z.2 c)]
        show readPool M (wl l) = none
        -- a number from 1 to 0 isn't there
        cases h : readPool M (wl l) with
        | none => rfl
        | some D =>
          exfalso
          cases l with
          | nil => cases h
          | cons v l =>
            change (if M.pools < 64 ∧ isName (ib v.w) = true ∧ ib v.w ∉ M.names then (choice kinds (wl l)).bind _ else none) = some D at h
            split at h
            · rw [Option.bind_eq_some_iff] at h
              obtain ⟨kd, _, h⟩ := h
              rw [Option.bind_eq_some_iff] at h
              obtain ⟨k, _, h⟩ := h
              rw [Option.bind_eq_some_iff] at h
              obtain ⟨l2, _, h⟩ := h
              rw [Option.bind_eq_some_iff] at h
              obtain ⟨x, hx, _⟩ := h
              have h0 : M.races.length = 0 := by rw [r.len, c]; rfl
              rw [h0] at hx
              cases l2 with
              | nil => cases hx
              | cons y t =>
                change (if (1 : Int) ≤ numberOf y ∧ numberOf y ≤ ((0 : Nat) : Int) then some (numberOf y, t) else none) = some x at hx
                rw [if_neg (by omega)] at hx
                cases hx
            · cases h
      · rw [if_pos ⟨b, c⟩]
        by_cases n : Tote.POOLS ≤ C.pools.length
        · rw [if_pos n]
          show readPool M (wl l) = none
          cases l with
          | nil => rfl
          | cons v l =>
            show (if M.pools < 64 ∧ _ then _ else none) = none
            rw [if_neg]
            rintro ⟨z, _⟩
            rw [r.pools] at z
            have : (64 : Nat) ≤ C.pools.length := n
            omega
        · rw [if_neg n]
          exact pool_eq e r l (Nat.lt_of_not_le n)
    · rw [if_neg b, if_neg (fun z => b z.1)]
      exact rfl
end ML
/-! The plain law, part E: lines of a card; bytes of a line; words with places. -/
namespace ML
open MR
/-! ### lines -/
theorem upto_none : ∀ {b : B}, Tote.upTo b = none → (10 : UInt8) ∉ b
  | [], _, h => by cases h
  | c :: r, e, h => by
    unfold Tote.upTo at e
    split at e
    · cases e
    · next q =>
      rw [Option.map_eq_none_iff] at e
      rcases List.mem_cons.mp h with h | h
      · exact q h.symm
      · exact upto_none e h
theorem upto_some : ∀ {b l r : B}, Tote.upTo b = some (l, r) → b = l ++ 10 :: r ∧ (10 : UInt8) ∉ l
  | [], _, _, e => by cases e
  | c :: b, l, r, e => by
    unfold Tote.upTo at e
    split at e
    · next q =>
      cases e
      exact ⟨by rw [q]; rfl, by simp⟩
    · next q =>
      rw [Option.map_eq_some_iff] at e
      obtain ⟨⟨l', r'⟩, h, e⟩ := e
      cases e
      obtain ⟨h1, h2⟩ := upto_some h
      refine ⟨by rw [h1]; rfl, ?_⟩
      intro z
      rcases List.mem_cons.mp z with z | z
      · exact q z.symm
      · exact h2 z
theorem cutb_at (b : UInt8) (r : B) : ∀ (l cur : B), b ∉ l → cutb b cur (l ++ b :: r) = (cur ++ l) :: cutb b [] r
  | [], cur, _ => by
    show cutb b cur (b :: r) = _
    rw [cutb, if_pos rfl, List.append_nil]
  | c :: l, cur, h => by
    show cutb b cur (c :: (l ++ b :: r)) = _
    have hc : c ≠ b := fun z => h (by rw [z]; exact List.mem_cons_self)
    rw [cutb, if_neg hc, cutb_at b r l _ (fun z => h (List.mem_cons_of_mem _ z)), List.append_assoc]
    rfl
theorem cutb_one (b : UInt8) : ∀ (l cur : B), b ∉ l → cutb b cur l = [cur ++ l]
  | [], cur, _ => by rw [cutb, List.append_nil]
  | c :: l, cur, h => by
    have hc : c ≠ b := fun z => h (by rw [z]; exact List.mem_cons_self)
    rw [cutb, if_neg hc, cutb_one b l _ (fun z => h (List.mem_cons_of_mem _ z)), List.append_assoc]
    rfl
/-- the mirror's step at a line of a card; its lines -/
def mstep : Option Card → List W → Option Card
  | none, l => (readDay l).map fun _ => ⟨[], 0, []⟩
  | some C, l => readLine C l
def mlines : Option Card → List (List W) → Option (Option Card)
  | m, [] => some m
  | m, l :: r => (mstep m l).bind fun C => mlines (some C) r
def OCR : Option Tote.Card → Option Card → Prop
  | none, none => True
  | some C, some M => CR C M
  | _, _ => False
theorem gd_step {m : Option Card} {D : Card} {l : List W} (h : mstep m l = some D) : ∀ w ∈ l, goodW w := by
  cases m with
  | none =>
    change (readDay l).map _ = some D at h
    rw [Option.map_eq_some_iff] at h
    obtain ⟨_, h, _⟩ := h
    exact gd_day h
  | some C => exact gd_line h
theorem day_eq (l : List Tote.Word) (e : Nat) : Agree (ok? (Tote.lineIn none ⟨l, e⟩)) (mstep none (wl l)) := by
  unfold Tote.lineIn
  rw [ok_bind']
  cases l with
  | nil => exact rfl
  | cons w l =>
  show Agree (ok? (if w.w = Tote.ascii "day" then Tote.dayIn e l else Except.error (⟨3, w.at_⟩ : Tote.Fault))) _
  have hd : sp "day" = ib (Tote.ascii "day") := sp_ascii _ (by decide)
  have hm : mstep none (wl (w :: l)) = if w.w = Tote.ascii "day" then ((match wl l with
      | v :: r => if isName v = true then ended r else none
      | [] => none) : Option Unit).map fun _ => ⟨[], 0, []⟩ else none := by
    show (((if ib w.w = sp "day" then some (wl l) else none).bind fun l => match l with
      | v :: r => if isName v = true then ended r else none
      | [] => none) : Option Unit).map _ = _
    rw [hd]
    by_cases q : w.w = Tote.ascii "day"
    · rw [if_pos q, if_pos (by rw [q])]
      rfl
    · rw [if_neg q, if_neg (fun z => q (ib_inj z))]
      rfl
  rw [hm]
  by_cases q : w.w = Tote.ascii "day"
  · rw [if_pos q, if_pos q]
    unfold Tote.dayIn
    rw [ok_bind]
    simp only [ok_bind]
    cases l with
    | nil => exact rfl
    | cons v r =>
      unfold Tote.newName
      rw [ok_bind]
      show Agree ((ok? (if Tote.isName v.w = false then Except.error (⟨4, v.at_⟩ : Tote.Fault) else if ([] : List B).contains v.w = true then Except.error (⟨5, v.at_⟩ : Tote.Fault) else pure (v.w, r))).bind _) (((if isName (ib v.w) = true then ended (wl r) else none) : Option Unit).map _)
      rw [name_eq]
      by_cases h : Tote.isName v.w = true
      · rw [if_neg (by simp [h]), if_neg (by simp), if_pos h, ended_eq]
        show Agree ((ok? (Tote.closed r)).bind _) ((ok? (Tote.closed r)).map _)
        cases ok? (Tote.closed r) with
        | none => exact rfl
        | some _ => exact ⟨_, rfl, ⟨rfl, fun i r h => by simp [Tote.noCard] at h, rfl, rfl⟩⟩
      · rw [if_pos (by simpa using h), if_neg h]
        exact rfl
  · rw [if_neg q, if_neg q]
    exact rfl
theorem step_eq {h : Option Tote.Card} {m : Option Card} (r : OCR h m) (l : List Tote.Word) (e : Nat) : Agree (ok? (Tote.lineIn h ⟨l, e⟩)) (mstep m (wl l)) := by
  cases h with
  | none =>
    cases m with
    | none => exact day_eq l e
    | some M => exact r.elim
  | some C =>
    cases m with
    | none => exact r.elim
    | some M => exact line_eq r l e
def wordsW (l : B) : List W := (cutb 32 [] l).map ib
/-- lines read by the specification (o) and by the mirror (z) -/
def LinesOk (last : Prop) (z : Option (Option Card)) (o : Option (Option Tote.Card)) : Prop := match o with
  | some h' => last ∧ ∃ C M, h' = some C ∧ z = some (some M) ∧ CR C M
  | none => last → z = none
theorem lines_eq : ∀ (k p : Nat) (h : Option Tote.Card) (m : Option Card) (b : B), b.length < k → b ≠ [] → OCR h m →
    LinesOk (b.getLast? = some 10) (mlines m ((cutb 10 [] b.dropLast).map wordsW)) (ok? (Tote.linesIn Tote.lineIn k p h b))
  | 0, p, h, m, b, hk, hb, r => absurd hk (Nat.not_lt_zero _)
  | k + 1, p, h, m, b, hk, hb, r => by
    unfold Tote.linesIn
    rw [if_neg (by simpa using hb)]
    cases hu : Tote.upTo b with
    | none =>
      intro hl
      exact absurd (List.mem_of_getLast? hl) (upto_none hu)
    | some x =>
      obtain ⟨l, t⟩ := x
      obtain ⟨rfl, hnl⟩ := upto_some hu
      dsimp only
      -- the lines of the rest
      have hlines : (cutb 10 [] (l ++ 10 :: t).dropLast).map wordsW = wordsW l :: (if t = [] then [] else (cutb 10 [] t.dropLast).map wordsW) := by
        by_cases ht : t = []
        · subst ht
          rw [if_pos rfl, List.dropLast_concat, cutb_one _ _ _ hnl]
          rfl
        · rw [if_neg ht, List.dropLast_append_of_ne_nil (by simp), List.dropLast_cons_of_ne_nil ht, cutb_at _ _ _ _ hnl]
          rfl
      have hlast : t ≠ [] → (l ++ 10 :: t).getLast? = t.getLast? := by
        intro ht
        rw [List.getLast?_append, List.getLast?_cons_of_ne_nil ht]
        cases hh : t.getLast? with
        | none => exact absurd (List.getLast?_eq_none_iff.mp hh) ht
        | some _ => rfl
      cases hbad : Tote.badByte true 0 l with
      | some i =>
        intro _
        rw [hlines]
        show (mstep m (wordsW l)).bind _ = none
        cases hs : mstep m (wordsW l) with
        | none => rfl
        | some D =>
          exfalso
          have hg := gd_step hs
          have : Tote.badByte true 0 l = none := bad_none.mpr fun w hw => goodW_ib.mp (hg _ (List.mem_map_of_mem hw))
          rw [hbad] at this
          cases this
      | none =>
        rw [words_line p hbad]
        have hst := step_eq r (plw p (cutb 32 [] l)) (p + l.length)
        rw [wl_plw] at hst
        change Agree _ (mstep m (wordsW l)) at hst
        rw [hlines]
        cases hln : Tote.lineIn h ⟨plw p (cutb 32 [] l), p + l.length⟩ with
        | error e =>
          rw [hln] at hst
          have hst : mstep m (wordsW l) = none := hst
          intro _
          show (mstep m (wordsW l)).bind _ = none
          rw [hst]
          rfl
        | ok s =>
          rw [hln] at hst
          cases s with
          | none => exact hst.elim
          | some C =>
            obtain ⟨M, e1, e2⟩ := hst
            by_cases ht : t = []
            · subst ht
              have : Tote.linesIn Tote.lineIn k (p + l.length + 1) (some C) [] = .ok (some C) := by cases k <;> rfl
              show LinesOk _ _ (ok? (Tote.linesIn Tote.lineIn k (p + l.length + 1) (some C) []))
              rw [this]
              refine ⟨by simp, C, M, rfl, ?_, e2⟩
              show (mstep m (wordsW l)).bind _ = _
              rw [e1]
              rfl
            · have ih := lines_eq k (p + l.length + 1) (some C) (some M) t (by simp at hk; omega) ht e2
              rw [if_neg ht, hlast ht]
              show LinesOk _ ((mstep m (wordsW l)).bind fun C => mlines (some C) _) (ok? (Tote.linesIn Tote.lineIn k (p + l.length + 1) (some C) t))
              rw [e1]
              exact ih
theorem mlines_some : ∀ (ls : List (List W)) (C : Card), mlines (some C) ls = (readLines C ls).map some
  | [], C => rfl
  | l :: r, C => by
    show (readLine C l).bind _ = ((readLine C l).bind _).map some
    cases readLine C l with
    | none => rfl
    | some D => exact mlines_some r D
theorem bi10 : bi 10 = 10 := rfl
theorem bi32 : bi 32 = 32 := rfl
theorem last_eq (b : B) : (ib b).getLast? = some 10 ↔ b.getLast? = some 10 := by
  unfold ib
  rw [List.getLast?_map]
  cases b.getLast? with
  | none => simp
  | some c =>
    show some (bi c) = some 10 ↔ _
    rw [Option.some.injEq, Option.some.injEq]
    exact bi_eq (n := 10) (by decide)
theorem lines_ib (b : B) : cardLines (ib b) = (cutb 10 [] b.dropLast).map wordsW := by
  unfold cardLines
  have : (ib b).dropLast = ib b.dropLast := by unfold ib; rw [List.map_dropLast]
  rw [this, ← bi10, parted_eq, List.map_map]
  apply List.map_congr_left
  intro l _
  show parted (ib l) 32 = wordsW l
  rw [← bi32, parted_eq]
  rfl
/-- races alike, as far as a result asks -/
structure Races (rs : List Race) (C : Tote.Card) : Prop where
  len : rs.length = C.races.length
  race : ∀ (i : Nat) (r : Tote.Race), C.races[i]? = some r → ∃ m : Race, rs[i]? = some m ∧ m.many = (r.runners : Int)
def CardOk (o : Option (List Race)) (x : Except Tote.Fault Tote.Card) : Prop := match x with
    | .error _ => o = none
    | .ok C => ∃ rs, o = some rs ∧ Races rs C
theorem card_eq (b : B) : CardOk (readCard (ib b)) (Tote.readCard b) := by
  by_cases hb : b = []
  · subst hb
    exact rfl
  have h := lines_eq (b.length + 1) 0 none none b (Nat.lt_succ_self _) hb trivial
  unfold Tote.readCard
  have hm : readCard (ib b) = if b.getLast? = some 10 then ((mlines none ((cutb 10 [] b.dropLast).map wordsW)).bind fun m => m.bind fun C => if C.races ≠ [] then some C.races else none) else none := by
    unfold readCard
    rw [lines_ib]
    by_cases hl : b.getLast? = some 10
    · rw [if_pos hl, if_pos ((last_eq b).mpr hl)]
      cases hc : (cutb 10 [] b.dropLast).map wordsW with
      | nil =>
        rw [List.map_eq_nil_iff] at hc
        exact absurd hc (cutb_ne _ _ _)
      | cons d ls =>
        show (readDay d).bind _ = (((readDay d).map _).bind _).bind _
        cases readDay d with
        | none => rfl
        | some _ =>
          show (readLines ⟨[], 0, []⟩ ls).bind _ = (mlines (some ⟨[], 0, []⟩) ls).bind _
          rw [mlines_some]
          cases readLines ⟨[], 0, []⟩ ls <;> rfl
    · rw [if_neg hl, if_neg (fun z => hl ((last_eq b).mp z))]
  rw [hm]
  cases hq : Tote.linesIn Tote.lineIn (b.length + 1) 0 none b with
  | error e =>
    rw [hq] at h
    by_cases hl : b.getLast? = some 10
    · rw [if_pos hl, h hl]
      exact rfl
    · rw [if_neg hl]
      exact rfl
  | ok h' =>
    rw [hq] at h
    obtain ⟨hl, C, M, rfl, h2, h3⟩ := h
    rw [if_pos hl, h2]
    show CardOk _ (if C.races = [] then Except.error (⟨8, b.length⟩ : Tote.Fault) else Except.ok C)
    by_cases h0 : C.races = []
    · rw [if_pos h0]
      show (if M.races ≠ [] then some M.races else none) = none
      rw [if_neg]
      intro z
      have := h3.len
      rw [h0] at this
      exact z (List.length_eq_zero_iff.mp this)
    · rw [if_neg h0]
      refine ⟨M.races, ?_, h3.len, fun i r hr => ?_⟩
      · show (if M.races ≠ [] then some M.races else none) = _
        rw [if_pos]
        intro z
        have := h3.len
        rw [z] at this
        exact h0 (List.length_eq_zero_iff.mp this.symm)
      · obtain ⟨m, hm, hr⟩ := h3.race i r hr
        exact ⟨m, hm, hr.many⟩
end ML
/-! The plain law, part F: results, the whole. -/
namespace ML
open MR
/-! ### the bytes of a line -/
theorem upto_eq : ∀ b : B, upTo (ib b) = (Tote.upTo b).map fun x => (ib x.1, ib x.2)
  | [] => rfl
  | c :: r => by
    show (if bi c = 10 then some ([], ib r) else (upTo (ib r)).map fun x => (bi c :: x.1, x.2)) = ((if c = 10 then some ([], r) else (Tote.upTo r).map fun (x : B × B) => (c :: x.1, x.2)) : Option (B × B)).map _
    by_cases h : c = 10
    · rw [if_pos h, if_pos (by rw [h]; rfl)]
      rfl
    · have h' : ¬ bi c = 10 := fun z => h ((bi_eq (n := 10) (by decide)).mp z)
      rw [if_neg h, if_neg h', upto_eq r]
      cases Tote.upTo r <;> rfl
theorem ib_getD (l : B) (i : Nat) (h : i < l.length) : (ib l).getD i 0 = bi l[i] := by
  unfold ib
  rw [List.getD_eq_getElem?_getD, List.getElem?_map, List.getElem?_eq_getElem h]
  rfl
/-- a blank isn't welcome behind these -/
def gap (pre : B) : Bool := pre.isEmpty || pre.getLast? == some 32
theorem byteOk_at (pre : B) (c : UInt8) (r : B) : byteOk (ib (pre ++ c :: r)) pre.length = ((decide ((32 : UInt8) ≤ c) && decide (c ≤ 126)) && (decide (c ≠ 32) || (!gap pre && !r.isEmpty))) := by
  unfold byteOk
  have hg : (ib (pre ++ c :: r)).getD pre.length 0 = bi c := by
    rw [ib_getD _ _ (by simp)]
    congr 1
    simp
  rw [hg]
  have h1 : decide (32 ≤ bi c) = decide ((32 : UInt8) ≤ c) := by
    rw [decide_eq_decide, UInt8.le_iff_toNat_le]
    unfold bi
    show _ ↔ 32 ≤ c.toNat
    omega
  have h2 : decide (bi c ≤ 126) = decide (c ≤ (126 : UInt8)) := by
    rw [decide_eq_decide, UInt8.le_iff_toNat_le]
    unfold bi
    show _ ↔ c.toNat ≤ 126
    omega
  have h3 : decide (bi c ≠ 32) = decide (c ≠ 32) := by
    rw [decide_eq_decide, ne_eq, ne_eq]
    exact not_congr (bi_eq (n := 32) (by decide))
  have h4 : (decide (0 < pre.length) && (decide (pre.length + 1 < (ib (pre ++ c :: r)).length) && decide ((ib (pre ++ c :: r)).getD (pre.length - 1) 0 ≠ 32))) = (!gap pre && !r.isEmpty) := by
    rw [ib_len]
    have e1 : decide (pre.length + 1 < (pre ++ c :: r).length) = !r.isEmpty := by
      cases r with
      | nil => simp
      | cons a t => simp
    rw [e1]
    cases hp : pre.reverse with
    | nil =>
      have : pre = [] := by simpa using hp
      subst this
      rfl
    | cons a t =>
      have : pre = t.reverse ++ [a] := by
        have := congrArg List.reverse hp
        simpa using this
      subst this
      have e2 : (ib (t.reverse ++ [a] ++ c :: r)).getD ((t.reverse ++ [a]).length - 1) 0 = bi a := by
        rw [ib_getD _ _ (by simp)]
        congr 1
        simp
      rw [e2]
      have e3 : decide (bi a ≠ 32) = decide (a ≠ 32) := by
        rw [decide_eq_decide, ne_eq, ne_eq]
        exact not_congr (bi_eq (n := 32) (by decide))
      rw [e3]
      unfold gap
      have e4 : (t.reverse ++ [a]).isEmpty = false := by simp
      have e5 : ((t.reverse ++ [a]).getLast? == some 32) = decide (a = 32) := by
        rw [List.getLast?_concat, Bool.eq_iff_iff, beq_iff_eq, decide_eq_true_eq, Option.some.injEq]
      have e6 : decide (0 < (t.reverse ++ [a]).length) = true := by simp
      rw [e4, e5, e6]
      by_cases ha : a = 32 <;> cases r.isEmpty <;> simp [ha]
  rw [h1, h2, h3, h4]
theorem bad_find : ∀ (r pre : B), (r ≠ [] ∨ gap pre = false) → (List.range' pre.length r.length).find? (fun i => !byteOk (ib (pre ++ r)) i) = Tote.badByte (gap pre) pre.length r
  | [], pre, h => by
    have hg : gap pre = false := by
      rcases h with h | h
      · exact absurd rfl h
      · exact h
    rw [hg]
    rfl
  | c :: r, pre, _ => by
    show (List.range' pre.length (r.length + 1)).find? _ = _
    rw [List.range'_succ, List.find?_cons, byteOk_at]
    have hnext : (c ≠ 32 ∨ r ≠ []) → (List.range' (pre.length + 1) r.length).find? (fun i => !byteOk (ib (pre ++ c :: r)) i) = Tote.badByte (gap (pre ++ [c])) (pre.length + 1) r := by
      intro h
      have ih := bad_find r (pre ++ [c]) (by
        rcases h with h | h
        · right
          unfold gap
          rw [List.getLast?_concat]
          simp [h]
        · exact .inl h)
      rw [List.length_append, List.append_assoc] at ih
      exact ih
    have hgc : gap (pre ++ [c]) = decide (c = 32) := by
      unfold gap
      rw [List.getLast?_concat]
      by_cases h : c = 32 <;> simp [h]
    have hlo : (c < 32 ∨ 126 < c) ↔ ¬ ((32 : UInt8) ≤ c ∧ c ≤ 126) := by
      rw [UInt8.lt_iff_toNat_lt, UInt8.lt_iff_toNat_lt, UInt8.le_iff_toNat_le, UInt8.le_iff_toNat_le]
      omega
    unfold Tote.badByte
    by_cases hb : c < 32 ∨ 126 < c
    · rw [if_pos hb]
      have : (decide ((32 : UInt8) ≤ c) && decide (c ≤ 126)) = false := by
        rw [← Bool.not_eq_true, Bool.and_eq_true, decide_eq_true_eq, decide_eq_true_eq]
        exact hlo.mp hb
      rw [this]
      rfl
    · rw [if_neg hb]
      have : (decide ((32 : UInt8) ≤ c) && decide (c ≤ 126)) = true := by
        rw [Bool.and_eq_true, decide_eq_true_eq, decide_eq_true_eq]
        exact Decidable.not_not.mp (fun z => hb (hlo.mpr z))
      rw [this]
      by_cases hs : c = 32
      · rw [if_pos hs]
        have e : decide (c ≠ 32) = false := by simp [hs]
        rw [e]
        cases hg : gap pre with
        | true =>
          rw [if_pos rfl]
          rfl
        | false =>
          rw [if_neg Bool.false_ne_true]
          cases hr : r.isEmpty with
          | true =>
            rw [if_pos rfl]
            rfl
          | false =>
            rw [if_neg Bool.false_ne_true]
            have hr' : r ≠ [] := by simpa using hr
            have := hnext (.inr hr')
            rw [hgc, hs] at this
            rw [hs]
            exact this
      · rw [if_neg hs]
        have e : decide (c ≠ 32) = true := by simp [hs]
        rw [e]
        have := hnext (.inl hs)
        rw [hgc, decide_eq_false hs] at this
        exact this
theorem bad_eq (l : B) : badAt (ib l) = Tote.badByte true 0 l := by
  unfold badAt
  by_cases h : l = []
  · subst h
    rfl
  · rw [if_neg (fun z => h (ib_nil.mp z)), ib_len, List.range_eq_range']
    exact bad_find l [] (.inl h)
/-! ### words with their places -/
def pw (l : List Tote.Word) : List PW := l.map fun x => (ib x.w, x.at_)
theorem placed_eq : ∀ (ws : List B) (p : Nat), placed p (ws.map ib) = pw (plw p ws)
  | [], _ => rfl
  | w :: r, p => by
    show (ib w, p) :: placed (p + (ib w).length + 1) (r.map ib) = (ib w, p) :: pw (plw (p + w.length + 1) r)
    rw [ib_len, placed_eq r]
theorem pw_cons (w : Tote.Word) (l : List Tote.Word) : pw (w :: l) = (ib w.w, w.at_) :: pw l := rfl
def fl (f : Tote.Fault) : F := (f.kind, f.place)
/-- runners as the mirror has them -/
def li (l : List Nat) : List Int := l.map fun (n : Nat) => (n : Int)
theorem li_app (a b : List Nat) : li (a ++ b) = li a ++ li b := by unfold li; simp
theorem cut_fold (sign : UInt8) : ∀ (w : B) (acc : List B) (cur : B), let z := w.foldl (fun (z : List B × B) (c : UInt8) => if c = sign then (z.1 ++ [z.2], []) else (z.1, z.2 ++ [c])) (acc, cur); z.1 ++ [z.2] = acc ++ cutb sign cur w
  | [], acc, cur => rfl
  | c :: r, acc, cur => by
    rw [List.foldl_cons, cutb]
    by_cases h : c = sign
    · rw [if_pos h, if_pos h]
      have := cut_fold sign r (acc ++ [cur]) []
      rw [List.append_assoc] at this
      exact this
    · rw [if_neg h, if_neg h]
      exact cut_fold sign r acc (cur ++ [c])
theorem nums_eq : ∀ ws : List B, match ws.mapM Tote.numberOf with
    | none => (-1 : Int) ∈ (ws.map ib).map numberOf
    | some l => (ws.map ib).map numberOf = li l
  | [] => rfl
  | w :: r => by
    have ih := nums_eq r
    rw [List.mapM_cons, List.map_cons, List.map_cons, number_eq]
    cases h : Tote.numberOf w with
    | none => exact List.mem_cons_self
    | some n =>
      show match (r.mapM Tote.numberOf).bind fun l => some (n :: l) with
        | none => (-1 : Int) ∈ (n : Int) :: (r.map ib).map numberOf
        | some l => (n : Int) :: (r.map ib).map numberOf = li l
      cases h2 : r.mapM Tote.numberOf with
      | none =>
        rw [h2] at ih
        exact List.mem_cons_of_mem _ ih
      | some l =>
        rw [h2] at ih
        show (n : Int) :: (r.map ib).map numberOf = li (n :: l)
        rw [ih]
        rfl
theorem rising_eq : ∀ l : List Nat, rising (li l) = Tote.risesN l
  | [] => rfl
  | [_] => rfl
  | a :: b :: r => by
    show (decide ((a : Int) < (b : Int)) && rising (li (b :: r))) = (decide (a < b) && Tote.risesN (b :: r))
    rw [rising_eq (b :: r)]
    congr 1
    rw [decide_eq_decide]
    omega
theorem contains_li (l : List Nat) (n : Nat) : (li l).contains (n : Int) = l.contains n := by
  rw [Bool.eq_iff_iff, List.contains_iff_mem, List.contains_iff_mem]
  unfold li
  rw [List.mem_map]
  constructor
  · rintro ⟨m, hm, e⟩
    have : m = n := by omega
    exact this ▸ hm
  · intro h
    exact ⟨n, h, rfl⟩
/-- the specification's reading and the mirror's, of runners -/
def RunOk (o : Except F (List Int)) (x : Except Tote.Fault (List Nat)) : Prop := match x with
  | .error f => o = .error (fl f)
  | .ok l => o = .ok (li l)
theorem runners_eq (sign : UInt8) (many : Nat) (had : List Nat) (w : Tote.Word) : RunOk (runners (bi sign) many (li had) (ib w.w, w.at_)) (Tote.partIn sign many had w) := by
  unfold runners Tote.partIn
  have hc := cut_fold sign w.w [] []
  rw [List.nil_append] at hc
  dsimp only at hc ⊢
  rw [hc, parted_eq]
  have hn := nums_eq (cutb sign [] w.w)
  cases hm : (cutb sign [] w.w).mapM Tote.numberOf with
  | none =>
    rw [hm] at hn
    show (if _ then _ else _) = _
    rw [if_neg]
    · rfl
    · intro z
      rw [Bool.and_eq_true] at z
      have := List.all_eq_true.mp z.1 _ hn
      rw [Bool.and_eq_true, Bool.and_eq_true, decide_eq_true_eq] at this
      omega
  | some l =>
    rw [hm] at hn
    have hn : ((cutb sign [] w.w).map ib).map numberOf = li l := hn
    rw [hn, rising_eq]
    have ha : (li l).all (fun n => (decide (1 ≤ n) && decide (n ≤ (many : Int))) && !(li had).contains n) = l.all fun (n : Nat) => decide (1 ≤ n) && (decide (n ≤ many) && !had.contains n) := by
      unfold li
      rw [List.all_map]
      congr 1
      funext n
      show ((decide (1 ≤ (n : Int)) && decide ((n : Int) ≤ (many : Int))) && !(li had).contains (n : Int)) = _
      rw [contains_li, Bool.and_assoc]
      congr 1
      · rw [decide_eq_decide]; omega
      · congr 1
        rw [decide_eq_decide]; omega
    rw [ha]
    show RunOk _ (if Tote.risesN l = true ∧ l.all _ = true then Except.ok l else Except.error (⟨4, w.at_⟩ : Tote.Fault))
    by_cases h : Tote.risesN l = true ∧ l.all (fun (n : Nat) => decide (1 ≤ n) && (decide (n ≤ many) && !had.contains n)) = true
    · rw [if_pos h, if_pos (by rw [h.1, h.2]; rfl)]
      exact rfl
    · rw [if_neg h, if_neg]
      · exact rfl
      · intro z
        rw [Bool.and_eq_true] at z
        exact h ⟨z.2, z.1⟩
/-! ### groups, lines -/
def UOk {α : Type} (o : Except F Unit) (x : Except Tote.Fault α) : Prop := match x with
  | .error f => o = .error (fl f)
  | .ok _ => o = .ok ()
theorem closed_eq (l : List Tote.Word) : UOk (closed (pw l)) (Tote.closed l) := by cases l <;> exact rfl
theorem outs_eq (e many : Nat) (had : List (List Nat)) (l : List Tote.Word) : UOk (outs e many (li had.flatten) (pw l)) (Tote.outIn e many had l) := by
  cases l with
  | nil => exact rfl
  | cons w r =>
    have h := runners_eq 44 many had.flatten w
    show UOk (match runners 44 many (li had.flatten) (ib w.w, w.at_) with
      | .error f => .error f
      | .ok _ => closed (pw r)) (Except.bind (Tote.partIn 44 many had.flatten w) fun s => Except.bind (Tote.closed r) fun _ => Except.ok (Tote.Came.came had s))
    change RunOk (runners 44 many (li had.flatten) (ib w.w, w.at_)) _ at h
    cases q : Tote.partIn 44 many had.flatten w with
    | error f =>
      rw [q] at h
      have h : runners 44 many (li had.flatten) (ib w.w, w.at_) = .error (fl f) := h
      rw [h]
      exact rfl
    | ok s =>
      rw [q] at h
      have h : runners 44 many (li had.flatten) (ib w.w, w.at_) = .ok (li s) := h
      rw [h]
      have hc := closed_eq r
      show UOk (closed (pw r)) (Except.bind (Tote.closed r) _)
      cases q2 : Tote.closed r with
      | error f => rw [q2] at hc; exact hc
      | ok _ => rw [q2] at hc; exact hc
theorem groups_eq (e many : Nat) : ∀ (l : List Tote.Word) (had : List (List Nat)), had ≠ [] → UOk (groups e many (li had.flatten) (pw l)) (Tote.groupsIn e many had l)
  | [], had, h => by
    unfold Tote.groupsIn
    rw [if_neg (by simpa using h)]
    exact rfl
  | w :: r, had, h => by
    unfold Tote.groupsIn
    have hh : had.isEmpty = false := by simpa using h
    show UOk (if ib w.w = sp "out" then outs e many (li had.flatten) (pw r) else match runners 61 many (li had.flatten) (ib w.w, w.at_) with
      | .error f => .error f
      | .ok ns => groups e many (li had.flatten ++ ns) (pw r)) _
    rw [sp_ascii "out" (by decide)]
    by_cases ho : w.w = Tote.ascii "out"
    · rw [if_pos (by rw [ho]), if_pos ⟨hh, ho⟩]
      exact outs_eq e many had r
    · rw [if_neg (fun z => ho (ib_inj z)), if_neg (fun z => ho z.2)]
      have hr := runners_eq 61 many had.flatten w
      change RunOk (runners 61 many (li had.flatten) (ib w.w, w.at_)) _ at hr
      cases q : Tote.partIn 61 many had.flatten w with
      | error f =>
        rw [q] at hr
        have hr : runners 61 many (li had.flatten) (ib w.w, w.at_) = .error (fl f) := hr
        rw [hr]
        exact rfl
      | ok g =>
        rw [q] at hr
        have hr : runners 61 many (li had.flatten) (ib w.w, w.at_) = .ok (li g) := hr
        rw [hr]
        have ih := groups_eq e many r (had ++ [g]) (by simp)
        rw [List.flatten_append, li_app] at ih
        have e2 : [g].flatten = g := by simp
        rw [e2] at ih
        exact ih
theorem readCame_eq (e many : Nat) (l : List Tote.Word) : UOk (readCame e many (pw l)) (Tote.groupsIn e many [] l) := by
  cases l with
  | nil => exact rfl
  | cons w r =>
    unfold Tote.groupsIn
    rw [if_neg (by simp)]
    show UOk (match runners 61 many [] (ib w.w, w.at_) with
      | .error f => .error f
      | .ok ns => groups e many ns (pw r)) (Except.bind (Tote.partIn 61 many [] w) _)
    have hr := runners_eq 61 many [] w
    change RunOk (runners 61 many [] (ib w.w, w.at_)) _ at hr
    cases q : Tote.partIn 61 many [] w with
    | error f =>
      rw [q] at hr
      have hr : runners 61 many [] (ib w.w, w.at_) = .error (fl f) := hr
      rw [hr]
      exact rfl
    | ok g =>
      rw [q] at hr
      have hr : runners 61 many [] (ib w.w, w.at_) = .ok (li g) := hr
      rw [hr]
      have ih := groups_eq e many r [g] (by simp)
      have e2 : [g].flatten = g := by simp
      rw [e2] at ih
      exact ih
/-- the races told before, as the specification and the mirror have them -/
structure FR (h : Tote.Result) (found : List Int) : Prop where
  le : ∀ b ∈ found, b ≤ (h.length : Int)
  last : h ≠ [] → (h.length : Int) ∈ found
theorem FR.all {h : Tote.Result} {found : List Int} (r : FR h found) {n : Nat} (hn : 1 ≤ n) : (found.all fun b => decide (b < (n : Int))) = decide (h.length < n) := by
  rw [Bool.eq_iff_iff, List.all_eq_true, decide_eq_true_eq]
  constructor
  · intro q
    by_cases e : h = []
    · subst e
      exact hn
    · have := q _ (r.last e)
      rw [decide_eq_true_eq] at this
      omega
  · intro q b hb
    have := r.le b hb
    rw [decide_eq_true_eq]
    omega
def LineOk (o : Except F (List Int)) (x : Except Tote.Fault Tote.Result) : Prop := match x with
  | .error f => o = .error (fl f)
  | .ok h => ∃ found, o = .ok found ∧ FR h found
theorem fill_len {α : Type} (h : List α) (n : Nat) (hn : h.length < n) (a c : α) : (h ++ List.replicate (n - 1 - h.length) a ++ [c]).length = n := by
  rw [List.length_append, List.length_append, List.length_replicate]
  show h.length + (n - 1 - h.length) + 1 = n
  omega
theorem FR.next {h : Tote.Result} {found : List Int} (r : FR h found) {n : Nat} (hn : h.length < n) {h' : Tote.Result} (hl : h'.length = n) : FR h' (found ++ [(n : Int)]) := by
  refine ⟨fun b hb => ?_, fun _ => ?_⟩
  · rw [hl]
    rcases List.mem_append.mp hb with hb | hb
    · have := r.le b hb
      omega
    · rw [List.mem_singleton] at hb
      omega
  · rw [hl]
    exact List.mem_append_right _ (List.mem_singleton.mpr rfl)
theorem lineR_eq {C : Tote.Card} {rs : List Race} (R : Races rs C) {h : Tote.Result} {found : List Int} (r : FR h found) (l : List Tote.Word) (e : Nat) : LineOk (lineR rs found e (pw l)) (C.cameIn h ⟨l, e⟩) := by
  unfold Tote.Card.cameIn
  have hch : ∀ (s : String) (w : Tote.Word), s.toList.all (fun c => c.toNat < 256) = true → (sp s == ib w.w) = (Tote.ascii s == w.w) := by
    intro s w hs
    rw [sp_ascii s hs, Bool.eq_iff_iff, beq_iff_eq, beq_iff_eq, ib_eq]
  cases l with
  | nil => exact rfl
  | cons w l =>
  by_cases hw : w.w = Tote.ascii "race"
  case neg =>
    have e1 : lineR rs found e (pw (w :: l)) = .error (3, w.at_) := by
      have : choiceR e [sp "race"] (pw (w :: l)) = .error (3, w.at_) := by
        show (match List.findIdx? (fun t => t == ib w.w) [sp "race"] with
          | none => .error (3, w.at_)
          | some i => .ok (i, pw l) : Except F (Nat × List PW)) = _
        rw [List.findIdx?_cons, hch _ _ (by decide), show (Tote.ascii "race" == w.w) = false from beq_eq_false_iff_ne.mpr (fun z => hw z.symm)]
        rfl
      unfold lineR
      rw [this]
    have e2 : Tote.must e "race" (w :: l) = .error ⟨3, w.at_⟩ := by
      show (if w.w = Tote.ascii "race" then _ else _) = _
      rw [if_neg hw]
    dsimp only
    rw [e1, e2]
    exact rfl
  have e2 : Tote.must e "race" (w :: l) = .ok l := by
    show (if w.w = Tote.ascii "race" then _ else _) = _
    rw [if_pos hw]
    rfl
  have e1 : lineR rs found e (pw (w :: l)) = match wordR e (pw l) with
      | .error f => .error f
      | .ok y => if ((decide (1 ≤ numberOf y.1.1) && decide (numberOf y.1.1 ≤ (rs.length : Int))) && found.all fun b => decide (b < numberOf y.1.1)) = true then
          match choiceR e [sp "void", sp "came"] y.2 with
          | .error f => .error f
          | .ok z => match (if z.1 = 0 then closed z.2 else readCame e (raceAt rs (numberOf y.1.1)).many z.2) with
            | .error f => .error f
            | .ok _ => .ok (found ++ [numberOf y.1.1])
        else .error (4, y.1.2) := by
    unfold lineR
    have : choiceR e [sp "race"] (pw (w :: l)) = .ok (0, pw l) := by
      show (match List.findIdx? (fun t => t == ib w.w) [sp "race"] with
        | none => .error (3, w.at_)
        | some i => .ok (i, pw l) : Except F (Nat × List PW)) = _
      rw [List.findIdx?_cons, hch _ _ (by decide), hw]
      rfl
    rw [this]
    first
      | done
      | rfl
  dsimp only
  rw [e1, e2]
  show LineOk _ (Except.bind (Tote.number e 1 C.races.length l) _)
  cases l with
  | nil => exact rfl
  | cons v l =>
  show LineOk (if ((decide (1 ≤ numberOf (ib v.w)) && decide (numberOf (ib v.w) ≤ (rs.length : Int))) && found.all fun b => decide (b < numberOf (ib v.w))) = true then _ else .error (4, v.at_)) _
  have hnum : Tote.number e 1 C.races.length (v :: l) = match Tote.numberOf v.w with
      | none => .error ⟨4, v.at_⟩
      | some n => if n < 1 ∨ C.races.length < n then .error ⟨4, v.at_⟩ else .ok ((n, v.at_), l) := rfl
  rw [hnum, number_eq]
  cases hv : Tote.numberOf v.w with
  | none =>
    rw [if_neg (by simp)]
    exact rfl
  | some n =>
  dsimp only
  by_cases hb : n < 1 ∨ C.races.length < n
  · rw [if_pos hb, if_neg]
    · exact rfl
    · intro z
      rw [Bool.and_eq_true, Bool.and_eq_true, decide_eq_true_eq, decide_eq_true_eq, R.len] at z
      omega
  rw [if_neg hb]
  have h1 : (decide (1 ≤ (n : Int)) && decide ((n : Int) ≤ (rs.length : Int))) = true := by
    rw [Bool.and_eq_true, decide_eq_true_eq, decide_eq_true_eq, R.len]
    omega
  rw [h1, r.all (by omega), Bool.true_and]
  show LineOk _ (Except.bind (Tote.holds (decide (h.length < n)) 4 v.at_) _)
  by_cases hl : h.length < n
  case neg =>
    rw [if_neg (by simpa using hl), decide_eq_false hl]
    exact rfl
  rw [decide_eq_true hl, if_pos rfl]
  show LineOk _ (Except.bind (Tote.next e l) _)
  cases l with
  | nil => exact rfl
  | cons u l =>
  show LineOk _ (if u.w = Tote.ascii "void" then (Tote.closed l).map (fun _ => h ++ List.replicate (n - 1 - h.length) Tote.Came.open_ ++ [Tote.Came.void])
    else if u.w = Tote.ascii "came" then (Tote.groupsIn e ((C.races[n - 1]?).map fun (r : Tote.Race) => r.runners).get! [] l).map (fun c => h ++ List.replicate (n - 1 - h.length) Tote.Came.open_ ++ [c])
    else .error ⟨3, u.at_⟩)
  have hc : choiceR e [sp "void", sp "came"] (pw (u :: l)) = if u.w = Tote.ascii "void" then .ok (0, pw l) else if u.w = Tote.ascii "came" then .ok (1, pw l) else .error (3, u.at_) := by
    show (match List.findIdx? (fun t => t == ib u.w) [sp "void", sp "came"] with
        | none => .error (3, u.at_)
        | some i => .ok (i, pw l) : Except F (Nat × List PW)) = _
    rw [List.findIdx?_cons, List.findIdx?_cons, List.findIdx?_nil, hch _ _ (by decide), hch _ _ (by decide)]
    by_cases a : u.w = Tote.ascii "void"
    · rw [if_pos a, a]
      rfl
    · rw [if_neg a, show (Tote.ascii "void" == u.w) = false from beq_eq_false_iff_ne.mpr (fun z => a z.symm)]
      by_cases b : u.w = Tote.ascii "came"
      · rw [if_pos b, b]
        rfl
      · rw [if_neg b, show (Tote.ascii "came" == u.w) = false from beq_eq_false_iff_ne.mpr (fun z => b z.symm)]
        rfl
  change choiceR e [sp "void", sp "came"] (List.map (fun x => (ib x.w, x.at_)) (u :: l)) = _ at hc
  rw [hc]
  by_cases a : u.w = Tote.ascii "void"
  · rw [if_pos a, if_pos a]
    show LineOk (match (if (0 : Nat) = 0 then closed (pw l) else _) with
      | .error f => .error f
      | .ok _ => .ok (found ++ [(n : Int)])) _
    rw [if_pos rfl]
    have hcl := closed_eq l
    cases q : Tote.closed l with
    | error f =>
      rw [q] at hcl
      have hcl : closed (pw l) = .error (fl f) := hcl
      rw [hcl]
      exact rfl
    | ok x =>
      rw [q] at hcl
      have hcl : closed (pw l) = .ok () := hcl
      rw [hcl]
      exact ⟨_, rfl, r.next hl (fill_len h n hl _ _)⟩
  · rw [if_neg a, if_neg a]
    by_cases b : u.w = Tote.ascii "came"
    · rw [if_pos b, if_pos b]
      obtain ⟨rc, hrc⟩ : ∃ rc, C.races[n - 1]? = some rc := ⟨_, List.getElem?_eq_getElem (by omega)⟩
      obtain ⟨m, hm, hmm⟩ := R.race _ _ hrc
      have hat : raceAt rs (n : Int) = m := by
        unfold raceAt
        rw [Int.toNat_natCast, List.getD_eq_getElem?_getD, hm]
        rfl
      show LineOk (match (if (1 : Nat) = 0 then _ else readCame e (raceAt rs (n : Int)).many (pw l)) with
        | .error f => .error f
        | .ok _ => .ok (found ++ [(n : Int)])) _
      rw [if_neg (by decide), hat, hmm, hrc]
      show LineOk _ ((Tote.groupsIn e rc.runners [] l).map _)
      have hg := readCame_eq e rc.runners l
      cases q : Tote.groupsIn e rc.runners [] l with
      | error f =>
        rw [q] at hg
        have hg : readCame e rc.runners (pw l) = .error (fl f) := hg
        rw [hg]
        exact rfl
      | ok c =>
        rw [q] at hg
        have hg : readCame e rc.runners (pw l) = .ok () := hg
        rw [hg]
        exact ⟨_, rfl, r.next hl (fill_len h n hl _ _)⟩
    · rw [if_neg b, if_neg b]
      exact rfl
theorem result_eq {C : Tote.Card} {rs : List Race} (R : Races rs C) : ∀ (k p : Nat) (h : Tote.Result) (found : List Int) (b : B), FR h found → UOk (result rs k p found (ib b)) (Tote.linesIn C.cameIn k p h b)
  | 0, _, _, _, _, _ => rfl
  | k + 1, p, h, found, b, r => by
    unfold Tote.linesIn result
    by_cases hb : b = []
    · subst hb
      exact rfl
    rw [if_neg (fun z => hb (ib_nil.mp z)), if_neg (by simpa using hb), upto_eq]
    cases hu : Tote.upTo b with
    | none =>
      show UOk (.error (1, p + (ib b).length)) _
      rw [ib_len]
      exact rfl
    | some x =>
      obtain ⟨l, t⟩ := x
      show UOk (match badAt (ib l) with
        | some i => .error (2, p + i)
        | none => match lineR rs found (p + (ib l).length) (placed p (parted (ib l) 32)) with
          | .error f => .error f
          | .ok found' => result rs k (p + (ib l).length + 1) found' (ib t)) _
      rw [bad_eq, ib_len, ← bi32, parted_eq, placed_eq]
      cases hbad : Tote.badByte true 0 l with
      | some i => simp only [hbad]; exact rfl
      | none =>
        simp only [hbad]
        rw [words_line p hbad]
        have hl := lineR_eq R r (plw p (cutb 32 [] l)) (p + l.length)
        cases q : C.cameIn h ⟨plw p (cutb 32 [] l), p + l.length⟩ with
        | error f =>
          rw [q] at hl
          have hl : lineR rs found (p + l.length) (pw (plw p (cutb 32 [] l))) = .error (fl f) := hl
          rw [hl]
          exact rfl
        | ok h' =>
          rw [q] at hl
          obtain ⟨found', hl, r'⟩ := hl
          rw [hl]
          exact result_eq R k _ h' found' t r'
/-- **The mirror is the specification.** -/
theorem judge_eq (card res : List Int) (h1 : ∀ x ∈ card, 0 ≤ x ∧ x ≤ 255) (h2 : ∀ x ∈ res, 0 ≤ x ∧ x ≤ 255) : PyWqaqcn.judge card res = judge card res := by
  have e1 := ib_text card h1
  have e2 := ib_text res h2
  have l1 : (ResultNeutral.text card).length = card.length := by
    have := ib_len (ResultNeutral.text card)
    rw [e1] at this
    exact this.symm
  have l2 : (ResultNeutral.text res).length = res.length := by
    have := ib_len (ResultNeutral.text res)
    rw [e2] at this
    exact this.symm
  show (let a := (if Tote.TEXT < (ResultNeutral.text res).length then Tote.says (-2) else Tote.ofCard (ResultNeutral.text card) fun C => match C.readResult (ResultNeutral.text res) with
    | .error e => ⟨-6, [(e.kind : Int), (e.place : Int)]⟩
    | .ok _ => Tote.says 0); a.code :: a.nums) = judge card res
  unfold judge Tote.ofCard
  rw [l1, l2]
  by_cases c2 : Tote.TEXT < res.length
  · rw [if_pos c2, if_neg (fun z => absurd z.2 (Nat.not_le.mpr c2))]
    rfl
  rw [if_neg c2]
  by_cases c1 : Tote.TEXT < card.length
  · rw [if_pos c1, if_neg (fun z => absurd z.1 (Nat.not_le.mpr c1))]
    rfl
  rw [if_neg c1, if_pos ⟨Nat.le_of_not_lt c1, Nat.le_of_not_lt c2⟩]
  have hc := card_eq (ResultNeutral.text card)
  rw [e1] at hc
  cases q : Tote.readCard (ResultNeutral.text card) with
  | error e =>
    rw [q] at hc
    have hc : readCard card = none := hc
    rw [hc]
    rfl
  | ok C =>
    rw [q] at hc
    obtain ⟨rs, hc, R⟩ := hc
    rw [hc]
    have hr := result_eq R (res.length + 1) 0 [] [] (ResultNeutral.text res) ⟨by simp, fun z => absurd rfl z⟩
    rw [e2] at hr
    show (let a := (match C.readResult (ResultNeutral.text res) with
      | .error e => ⟨-6, [(e.kind : Int), (e.place : Int)]⟩
      | .ok _ => Tote.says 0 : Tote.Ans); a.code :: a.nums) = match result rs (res.length + 1) 0 [] res with
      | .error f => [-6, (f.1 : Int), (f.2 : Int)]
      | .ok _ => [0]
    unfold Tote.Card.readResult
    rw [l2]
    cases q2 : Tote.linesIn C.cameIn (res.length + 1) 0 [] (ResultNeutral.text res) with
    | error f =>
      rw [q2] at hr
      have hr : result rs (res.length + 1) 0 [] res = .error (fl f) := hr
      rw [hr]
      rfl
    | ok h =>
      rw [q2] at hr
      have hr : result rs (res.length + 1) 0 [] res = .ok () := hr
      rw [hr]
      rfl
end ML
set_option maxRecDepth 100000
set_option maxHeartbeats 2000000
namespace RR
open PySem PySem.Spec PyProof.Rows L2
def top (i : Nat) : Stmt := PySem.Challenge.pw_raceresults_s01_judge.main.body.getD i (.Pass ⟨0, 0, 0, 0⟩)
/-- a def's text and how its arguments bind -/
structure MeBody (K : PySem.W.Frag) (name qual : Str) (st : Stmt) (ps : List Str) (f : Addr) (fd : FuncData) : Prop where
  F : Fun K name qual st f fd
  b : Binds K fd ps []
structure DefAt (K : PySem.W.Frag) (mg : Str → Option Value) (x name qual : Str) (st : Stmt) (ps : List Str) (f : Addr) (fd : FuncData) : Prop where
  g : mg x = some (.ref f)
  me : MeBody K name qual st ps f fd
/-- a written tuple -/
def TupK (K : PySem.W.Frag) (a : Addr) (xs : List V) : Prop := ∀ H, SqT K H a xs
theorem tupK_of {K : PySem.W.Frag} {a : Addr} {d : Option Addr} {its : Array Value} {n : Nat} {sl : Array (Option Value)} {xs : List V} (l : K.lookup a = some ⟨.type "tuple", d, .seq its n, sl⟩) (hs : its.size ≤ 100) (r : Vals xs its.toList) : TupK K a xs :=
  fun _ => .inr ⟨_, its, n, l, rfl, rfl, Nat.le_trans hs (by decide), r⟩
/-- an error of the class at S is what «except S» names -/
theorem exm_self {K : PySem.W.Frag} {S : Addr} (h1 : PySem.W.subIn K (.ref S) (.type "BaseException") = some true) (h2 : PySem.W.isClsIn K S = true) (h3 : PySem.W.typeIn K (.ref S) = some (.type "type")) (h4 : PySem.W.subIn K (.ref S) (.ref S) = some true) :
    PySem.W.exmOne K (.ref S) (.ref S) = some true := by
  have e1 : (PySem.W.subIn K (.ref S) (.type "BaseException") == some true) = true := by rw [h1] <;> rfl
  have e2 : ((PySem.W.clsIn K S).isSome && PySem.W.typeIn K (.ref S) == some (.type "type")) = true := by
    have h2' : (PySem.W.clsIn K S).isSome = true := h2
    rw [h2', h3] <;> rfl
  show (if (PySem.W.subIn K (.ref S) (.type "BaseException") == some true) = true then (if ((PySem.W.clsIn K S).isSome && PySem.W.typeIn K (.ref S) == some (.type "type")) = true then PySem.W.subIn K (.ref S) (.ref S) else none) else none) = some true
  rw [if_pos e1, if_pos e2]
  exact h4
abbrev s_refused_init : Stmt := inClass (top 10) 0
abbrev s_ask : Stmt := top 11
abbrev s_spelled : Stmt := top 12
abbrev s_parted : Stmt := top 13
abbrev s_is_small : Stmt := top 14
abbrev s_is_figure : Stmt := top 15
abbrev s_is_name : Stmt := top 16
abbrev s_number_of : Stmt := top 17
abbrev s_race_init : Stmt := inClass (top 28) 0
abbrev s_race_all_interests : Stmt := inClass (top 28) 2
abbrev s_race_couple : Stmt := inClass (top 28) 3
abbrev s_pool_init : Stmt := inClass (top 29) 0
abbrev s_pool_its_races : Stmt := inClass (top 29) 1
abbrev s_card_init : Stmt := inClass (top 30) 0
abbrev s_card_race_at : Stmt := inClass (top 30) 1
abbrev s_line_init : Stmt := inClass (top 31) 0
abbrev s_line_has_more : Stmt := inClass (top 31) 1
abbrev s_line_word : Stmt := inClass (top 31) 2
abbrev s_line_must : Stmt := inClass (top 31) 3
abbrev s_line_number : Stmt := inClass (top 31) 4
abbrev s_line_choice : Stmt := inClass (top 31) 5
abbrev s_line_end : Stmt := inClass (top 31) 6
abbrev s_need_cards : Stmt := top 32
abbrev s_read_race : Stmt := top 34
abbrev s_read_pool : Stmt := top 35
abbrev s_read_terms : Stmt := top 36
abbrev s_read_day : Stmt := top 37
abbrev s_read_card : Stmt := top 38
abbrev s_outcome_init : Stmt := inClass (top 48) 0
abbrev s_words_init : Stmt := inClass (top 49) 0
abbrev s_words_has_more : Stmt := inClass (top 49) 1
abbrev s_words_place : Stmt := inClass (top 49) 2
abbrev s_words_word : Stmt := inClass (top 49) 3
abbrev s_words_sees : Stmt := inClass (top 49) 4
abbrev s_words_choice : Stmt := inClass (top 49) 5
abbrev s_words_runners : Stmt := inClass (top 49) 6
abbrev s_words_end : Stmt := inClass (top 49) 7
abbrev s_need_outcomes : Stmt := top 50
abbrev s_ask_bytes : Stmt := top 52
abbrev s_read_came : Stmt := top 53
abbrev s_read_line : Stmt := top 54
abbrev s_read_result : Stmt := top 55
abbrev s_answered : Stmt := top 57
abbrev s_read_both : Stmt := top 58
abbrev s_judge : Stmt := top 59
theorem sc_refused_init : FnScope ["self", "told"] ["self", "told"] (defScope s_refused_init) := ⟨rfl, rfl, rfl, by decide +kernel, rfl, by decide +kernel, by decide +kernel⟩
theorem sc_ask : FnScope ["is_so", "number"] ["is_so", "number"] (defScope s_ask) := ⟨rfl, rfl, rfl, by decide +kernel, rfl, by decide +kernel, by decide +kernel⟩
theorem sc_spelled : FnScope ["text", "sign"] ["text"] (defScope s_spelled) := ⟨rfl, rfl, rfl, by decide +kernel, rfl, by decide +kernel, by decide +kernel⟩
theorem sc_parted : FnScope ["row", "byte", "found", "begin", "place"] ["row", "byte"] (defScope s_parted) := ⟨rfl, rfl, rfl, by decide +kernel, rfl, by decide +kernel, by decide +kernel⟩
theorem sc_is_small : FnScope ["byte"] ["byte"] (defScope s_is_small) := ⟨rfl, rfl, rfl, by decide +kernel, rfl, by decide +kernel, by decide +kernel⟩
theorem sc_is_figure : FnScope ["byte"] ["byte"] (defScope s_is_figure) := ⟨rfl, rfl, rfl, by decide +kernel, rfl, by decide +kernel, by decide +kernel⟩
theorem sc_is_name : FnScope ["word", "byte"] ["word"] (defScope s_is_name) := ⟨rfl, rfl, rfl, by decide +kernel, rfl, by decide +kernel, by decide +kernel⟩
theorem sc_number_of : FnScope ["word", "byte", "found"] ["word"] (defScope s_number_of) := ⟨rfl, rfl, rfl, by decide +kernel, rfl, by decide +kernel, by decide +kernel⟩
theorem sc_race_init : FnScope ["self", "many"] ["self", "many"] (defScope s_race_init) := ⟨rfl, rfl, rfl, by decide +kernel, rfl, by decide +kernel, by decide +kernel⟩
theorem sc_race_all_interests : FnScope ["self", "runner"] ["self"] (defScope s_race_all_interests) := ⟨rfl, rfl, rfl, by decide +kernel, rfl, by decide +kernel, by decide +kernel⟩
theorem sc_race_couple : FnScope ["self", "one", "other", "runner"] ["self", "one", "other"] (defScope s_race_couple) := ⟨rfl, rfl, rfl, by decide +kernel, rfl, by decide +kernel, by decide +kernel⟩
theorem sc_pool_init : FnScope ["self", "kind", "many", "race"] ["self", "kind", "many", "race"] (defScope s_pool_init) := ⟨rfl, rfl, rfl, by decide +kernel, rfl, by decide +kernel, by decide +kernel⟩
theorem sc_pool_its_races : FnScope ["self"] ["self"] (defScope s_pool_its_races) := ⟨rfl, rfl, rfl, by decide +kernel, rfl, by decide +kernel, by decide +kernel⟩
theorem sc_card_init : FnScope ["self"] ["self"] (defScope s_card_init) := ⟨rfl, rfl, rfl, by decide +kernel, rfl, by decide +kernel, by decide +kernel⟩
theorem sc_card_race_at : FnScope ["self", "number"] ["self", "number"] (defScope s_card_race_at) := ⟨rfl, rfl, rfl, by decide +kernel, rfl, by decide +kernel, by decide +kernel⟩
theorem sc_line_init : FnScope ["self", "words"] ["self", "words"] (defScope s_line_init) := ⟨rfl, rfl, rfl, by decide +kernel, rfl, by decide +kernel, by decide +kernel⟩
theorem sc_line_has_more : FnScope ["self"] ["self"] (defScope s_line_has_more) := ⟨rfl, rfl, rfl, by decide +kernel, rfl, by decide +kernel, by decide +kernel⟩
theorem sc_line_word : FnScope ["self"] ["self"] (defScope s_line_word) := ⟨rfl, rfl, rfl, by decide +kernel, rfl, by decide +kernel, by decide +kernel⟩
theorem sc_line_must : FnScope ["self", "text"] ["self", "text"] (defScope s_line_must) := ⟨rfl, rfl, rfl, by decide +kernel, rfl, by decide +kernel, by decide +kernel⟩
theorem sc_line_number : FnScope ["self", "least", "most", "found"] ["self", "least", "most"] (defScope s_line_number) := ⟨rfl, rfl, rfl, by decide +kernel, rfl, by decide +kernel, by decide +kernel⟩
theorem sc_line_choice : FnScope ["self", "texts", "word", "some", "place", "text"] ["self", "texts"] (defScope s_line_choice) := ⟨rfl, rfl, rfl, by decide +kernel, rfl, by decide +kernel, by decide +kernel⟩
theorem sc_line_end : FnScope ["self"] ["self"] (defScope s_line_end) := ⟨rfl, rfl, rfl, by decide +kernel, rfl, by decide +kernel, by decide +kernel⟩
theorem sc_need_cards : FnScope ["is_so"] ["is_so"] (defScope s_need_cards) := ⟨rfl, rfl, rfl, by decide +kernel, rfl, by decide +kernel, by decide +kernel⟩
theorem sc_read_race : FnScope ["card", "line", "race", "many", "one"] ["card", "line"] (defScope s_read_race) := ⟨rfl, rfl, rfl, by decide +kernel, rfl, by decide +kernel, by decide +kernel⟩
theorem sc_read_pool : FnScope ["card", "line", "name", "kind", "many", "pool"] ["card", "line"] (defScope s_read_pool) := ⟨rfl, rfl, rfl, by decide +kernel, rfl, by decide +kernel, by decide +kernel⟩
theorem sc_read_terms : FnScope ["line", "kind", "least", "unit", "none"] ["line", "kind"] (defScope s_read_terms) := ⟨rfl, rfl, rfl, by decide +kernel, rfl, by decide +kernel, by decide +kernel⟩
theorem sc_read_day : FnScope ["line"] ["line"] (defScope s_read_day) := ⟨rfl, rfl, rfl, by decide +kernel, rfl, by decide +kernel, by decide +kernel⟩
theorem sc_read_card : FnScope ["text", "lines", "card", "line", "row"] ["text"] (defScope s_read_card) := ⟨rfl, rfl, rfl, by decide +kernel, rfl, by decide +kernel, by decide +kernel⟩
theorem sc_outcome_init : FnScope ["self", "state"] ["self", "state"] (defScope s_outcome_init) := ⟨rfl, rfl, rfl, by decide +kernel, rfl, by decide +kernel, by decide +kernel⟩
theorem sc_words_init : FnScope ["self", "row", "begin", "word"] ["self", "row", "begin"] (defScope s_words_init) := ⟨rfl, rfl, rfl, by decide +kernel, rfl, by decide +kernel, by decide +kernel⟩
theorem sc_words_has_more : FnScope ["self"] ["self"] (defScope s_words_has_more) := ⟨rfl, rfl, rfl, by decide +kernel, rfl, by decide +kernel, by decide +kernel⟩
theorem sc_words_place : FnScope ["self"] ["self"] (defScope s_words_place) := ⟨rfl, rfl, rfl, by decide +kernel, rfl, by decide +kernel, by decide +kernel⟩
theorem sc_words_word : FnScope ["self"] ["self"] (defScope s_words_word) := ⟨rfl, rfl, rfl, by decide +kernel, rfl, by decide +kernel, by decide +kernel⟩
theorem sc_words_sees : FnScope ["self", "text"] ["self", "text"] (defScope s_words_sees) := ⟨rfl, rfl, rfl, by decide +kernel, rfl, by decide +kernel, by decide +kernel⟩
theorem sc_words_choice : FnScope ["self", "texts", "word", "some", "place", "text"] ["self", "texts"] (defScope s_words_choice) := ⟨rfl, rfl, rfl, by decide +kernel, rfl, by decide +kernel, by decide +kernel⟩
theorem sc_words_runners : FnScope ["self", "sign", "race", "numbers", "are_there", "are_rising", "piece", "number", "one", "other"] ["self", "sign", "race"] (defScope s_words_runners) := ⟨rfl, rfl, rfl, by decide +kernel, rfl, by decide +kernel, by decide +kernel⟩
theorem sc_words_end : FnScope ["self"] ["self"] (defScope s_words_end) := ⟨rfl, rfl, rfl, by decide +kernel, rfl, by decide +kernel, by decide +kernel⟩
theorem sc_need_outcomes : FnScope ["is_so", "kind", "place"] ["is_so", "kind", "place"] (defScope s_need_outcomes) := ⟨rfl, rfl, rfl, by decide +kernel, rfl, by decide +kernel, by decide +kernel⟩
theorem sc_ask_bytes : FnScope ["row", "begin", "place", "byte", "is_single"] ["row", "begin"] (defScope s_ask_bytes) := ⟨rfl, rfl, rfl, by decide +kernel, rfl, by decide +kernel, by decide +kernel⟩
theorem sc_read_came : FnScope ["words", "race", "found"] ["words", "race"] (defScope s_read_came) := ⟨rfl, rfl, rfl, by decide +kernel, rfl, by decide +kernel, by decide +kernel⟩
theorem sc_read_line : FnScope ["card", "found", "words", "number", "before"] ["card", "found", "words"] (defScope s_read_line) := ⟨rfl, rfl, rfl, by decide +kernel, rfl, by decide +kernel, by decide +kernel⟩
theorem sc_read_result : FnScope ["card", "text", "found", "begin", "ending", "row"] ["card", "text"] (defScope s_read_result) := ⟨rfl, rfl, rfl, by decide +kernel, rfl, by decide +kernel, by decide +kernel⟩
theorem sc_answered : FnScope ["deed", "refused"] ["deed"] (defScope s_answered) := ⟨rfl, rfl, rfl, by decide +kernel, rfl, by decide +kernel, by decide +kernel⟩
theorem sc_read_both : FnScope ["card", "result", "found"] ["card", "result"] (defScope s_read_both) := ⟨rfl, rfl, rfl, by decide +kernel, rfl, by decide +kernel, by decide +kernel⟩
theorem sc_judge : FnScope ["card", "result", "judged"] ["card", "result"] (defScope s_judge) := ⟨rfl, rfl, rfl, by decide +kernel, rfl, by decide +kernel, by decide +kernel⟩
/-- where the program's defs, classes and constants stand, and what is known of them -/
structure Tx (K : PySem.W.Frag) (mg : Str → Option Value) where
  cRefused : Addr
  cRace : Addr
  cPool : Addr
  cCard : Addr
  cLine : Addr
  cOutcome : Addr
  cWords : Addr
  f_refused_init : Addr
  d_refused_init : FuncData
  f_ask : Addr
  d_ask : FuncData
  f_spelled : Addr
  d_spelled : FuncData
  f_parted : Addr
  d_parted : FuncData
  f_is_small : Addr
  d_is_small : FuncData
  f_is_figure : Addr
  d_is_figure : FuncData
  f_is_name : Addr
  d_is_name : FuncData
  f_number_of : Addr
  d_number_of : FuncData
  f_race_init : Addr
  d_race_init : FuncData
  f_race_all_interests : Addr
  d_race_all_interests : FuncData
  f_race_couple : Addr
  d_race_couple : FuncData
  f_pool_init : Addr
  d_pool_init : FuncData
  f_pool_its_races : Addr
  d_pool_its_races : FuncData
  f_card_init : Addr
  d_card_init : FuncData
  f_card_race_at : Addr
  d_card_race_at : FuncData
  f_line_init : Addr
  d_line_init : FuncData
  f_line_has_more : Addr
  d_line_has_more : FuncData
  f_line_word : Addr
  d_line_word : FuncData
  f_line_must : Addr
  d_line_must : FuncData
  f_line_number : Addr
  d_line_number : FuncData
  f_line_choice : Addr
  d_line_choice : FuncData
  f_line_end : Addr
  d_line_end : FuncData
  f_need_cards : Addr
  d_need_cards : FuncData
  f_read_race : Addr
  d_read_race : FuncData
  f_read_pool : Addr
  d_read_pool : FuncData
  f_read_terms : Addr
  d_read_terms : FuncData
  f_read_day : Addr
  d_read_day : FuncData
  f_read_card : Addr
  d_read_card : FuncData
  f_outcome_init : Addr
  d_outcome_init : FuncData
  f_words_init : Addr
  d_words_init : FuncData
  f_words_has_more : Addr
  d_words_has_more : FuncData
  f_words_place : Addr
  d_words_place : FuncData
  f_words_word : Addr
  d_words_word : FuncData
  f_words_sees : Addr
  d_words_sees : FuncData
  f_words_choice : Addr
  d_words_choice : FuncData
  f_words_runners : Addr
  d_words_runners : FuncData
  f_words_end : Addr
  d_words_end : FuncData
  f_need_outcomes : Addr
  d_need_outcomes : FuncData
  f_ask_bytes : Addr
  d_ask_bytes : FuncData
  f_read_came : Addr
  d_read_came : FuncData
  f_read_line : Addr
  d_read_line : FuncData
  f_read_result : Addr
  d_read_result : FuncData
  f_answered : Addr
  d_answered : FuncData
  f_read_both : Addr
  d_read_both : FuncData
  f_judge : Addr
  d_judge : FuncData
  a_KINDS : Addr
  a_LEAST_K : Addr
  a_MOST_K : Addr
  a_NONES : Addr
  z_len : mg "len" = none
  z_range : mg "range" = none
  z_tuple : mg "tuple" = none
  z_all : mg "all" = none
  z_enumerate : mg "enumerate" = none
  z_zip : mg "zip" = none
  z_list : mg "list" = none
  z_ord : mg "ord" = none
  g_NEWLINE : ∃ t, mg "NEWLINE" = some (.int 10 t)
  g_BLANK : ∃ t, mg "BLANK" = some (.int 32 t)
  g_LAST_SIGN : ∃ t, mg "LAST_SIGN" = some (.int 126 t)
  g_LONGEST_TEXT : ∃ t, mg "LONGEST_TEXT" = some (.int 65536 t)
  g_LONGEST_NAME : ∃ t, mg "LONGEST_NAME" = some (.int 12 t)
  g_NO_CARD : ∃ t, mg "NO_CARD" = some (.int (-8) t)
  g_TOO_LONG : ∃ t, mg "TOO_LONG" = some (.int (-2) t)
  g_FAULTY : ∃ t, mg "FAULTY" = some (.int (-6) t)
  g_MOST_RACES : ∃ t, mg "MOST_RACES" = some (.int 16 t)
  g_MOST_POOLS : ∃ t, mg "MOST_POOLS" = some (.int 64 t)
  g_MOST_COUPLES : ∃ t, mg "MOST_COUPLES" = some (.int 8 t)
  g_PLACE : ∃ t, mg "PLACE" = some (.int 0 t)
  g_LEGS : ∃ t, mg "LEGS" = some (.int 3 t)
  g_NOT_ENDED : ∃ t, mg "NOT_ENDED" = some (.int 1 t)
  g_BAD_BYTE : ∃ t, mg "BAD_BYTE" = some (.int 2 t)
  g_BAD_WORD : ∃ t, mg "BAD_WORD" = some (.int 3 t)
  g_BAD_NUMBER : ∃ t, mg "BAD_NUMBER" = some (.int 4 t)
  g_EQUAL : ∃ t, mg "EQUAL" = some (.int 61 t)
  g_COMMA : ∃ t, mg "COMMA" = some (.int 44 t)
  g_CAME : ∃ t, mg "CAME" = some (.int 1 t)
  g_VOID : ∃ t, mg "VOID" = some (.int 2 t)
  g_KINDS : mg "KINDS" = some (.ref a_KINDS)
  t_KINDS : TupK K a_KINDS [.str "place", .str "order", .str "any", .str "legs"]
  g_LEAST_K : mg "LEAST_K" = some (.ref a_LEAST_K)
  t_LEAST_K : TupK K a_LEAST_K [.int 1, .int 2, .int 2, .int 2]
  g_MOST_K : mg "MOST_K" = some (.ref a_MOST_K)
  t_MOST_K : TupK K a_MOST_K [.int 4, .int 4, .int 3, .int 6]
  g_NONES : mg "NONES" = some (.ref a_NONES)
  t_NONES : TupK K a_NONES [.str "refund", .str "carry", .str "fewer"]
  g_cRefused : mg "Refused" = some (.ref cRefused)
  n_Refused_told : NoAttr K cRefused "told"
  g_cRace : mg "Race" = some (.ref cRace)
  k_cRace : Cls K cRace
  n_Race_many : NoAttr K cRace "many"
  n_Race_heads_of : NoAttr K cRace "heads_of"
  g_cPool : mg "Pool" = some (.ref cPool)
  k_cPool : Cls K cPool
  n_Pool_kind : NoAttr K cPool "kind"
  n_Pool_many : NoAttr K cPool "many"
  n_Pool_race : NoAttr K cPool "race"
  g_cCard : mg "Card" = some (.ref cCard)
  k_cCard : Cls K cCard
  n_Card_races : NoAttr K cCard "races"
  n_Card_pools : NoAttr K cCard "pools"
  n_Card_names : NoAttr K cCard "names"
  g_cLine : mg "Line" = some (.ref cLine)
  k_cLine : Cls K cLine
  n_Line_words : NoAttr K cLine "words"
  n_Line_at : NoAttr K cLine "at"
  g_cOutcome : mg "Outcome" = some (.ref cOutcome)
  k_cOutcome : Cls K cOutcome
  n_Outcome_state : NoAttr K cOutcome "state"
  n_Outcome_groups : NoAttr K cOutcome "groups"
  n_Outcome_out : NoAttr K cOutcome "out"
  g_cWords : mg "Words" = some (.ref cWords)
  k_cWords : Cls K cWords
  n_Words_words : NoAttr K cWords "words"
  n_Words_places : NoAttr K cWords "places"
  n_Words_ending : NoAttr K cWords "ending"
  n_Words_at : NoAttr K cWords "at"
  n_Words_told : NoAttr K cWords "told"
  refused_init : MeBody K "__init__" "Refused.__init__" s_refused_init ["self", "told"] f_refused_init d_refused_init
  ask : DefAt K mg "ask" "ask" "ask" s_ask ["is_so", "number"] f_ask d_ask
  spelled : DefAt K mg "spelled" "spelled" "spelled" s_spelled ["text"] f_spelled d_spelled
  parted : DefAt K mg "parted" "parted" "parted" s_parted ["row", "byte"] f_parted d_parted
  is_small : DefAt K mg "is_small" "is_small" "is_small" s_is_small ["byte"] f_is_small d_is_small
  is_figure : DefAt K mg "is_figure" "is_figure" "is_figure" s_is_figure ["byte"] f_is_figure d_is_figure
  is_name : DefAt K mg "is_name" "is_name" "is_name" s_is_name ["word"] f_is_name d_is_name
  number_of : DefAt K mg "number_of" "number_of" "number_of" s_number_of ["word"] f_number_of d_number_of
  race_init : MeBody K "__init__" "Race.__init__" s_race_init ["self", "many"] f_race_init d_race_init
  mk_Race : Mk K cRace f_race_init
  race_all_interests : MeBody K "all_interests" "Race.all_interests" s_race_all_interests ["self"] f_race_all_interests d_race_all_interests
  m_race_all_interests : Meth K cRace "all_interests" f_race_all_interests
  race_couple : MeBody K "couple" "Race.couple" s_race_couple ["self", "one", "other"] f_race_couple d_race_couple
  m_race_couple : Meth K cRace "couple" f_race_couple
  pool_init : MeBody K "__init__" "Pool.__init__" s_pool_init ["self", "kind", "many", "race"] f_pool_init d_pool_init
  mk_Pool : Mk K cPool f_pool_init
  pool_its_races : MeBody K "its_races" "Pool.its_races" s_pool_its_races ["self"] f_pool_its_races d_pool_its_races
  m_pool_its_races : Meth K cPool "its_races" f_pool_its_races
  card_init : MeBody K "__init__" "Card.__init__" s_card_init ["self"] f_card_init d_card_init
  mk_Card : Mk K cCard f_card_init
  card_race_at : MeBody K "race_at" "Card.race_at" s_card_race_at ["self", "number"] f_card_race_at d_card_race_at
  m_card_race_at : Meth K cCard "race_at" f_card_race_at
  line_init : MeBody K "__init__" "Line.__init__" s_line_init ["self", "words"] f_line_init d_line_init
  mk_Line : Mk K cLine f_line_init
  line_has_more : MeBody K "has_more" "Line.has_more" s_line_has_more ["self"] f_line_has_more d_line_has_more
  m_line_has_more : Meth K cLine "has_more" f_line_has_more
  line_word : MeBody K "word" "Line.word" s_line_word ["self"] f_line_word d_line_word
  m_line_word : Meth K cLine "word" f_line_word
  line_must : MeBody K "must" "Line.must" s_line_must ["self", "text"] f_line_must d_line_must
  m_line_must : Meth K cLine "must" f_line_must
  line_number : MeBody K "number" "Line.number" s_line_number ["self", "least", "most"] f_line_number d_line_number
  m_line_number : Meth K cLine "number" f_line_number
  line_choice : MeBody K "choice" "Line.choice" s_line_choice ["self", "texts"] f_line_choice d_line_choice
  m_line_choice : Meth K cLine "choice" f_line_choice
  line_end : MeBody K "end" "Line.end" s_line_end ["self"] f_line_end d_line_end
  m_line_end : Meth K cLine "end" f_line_end
  need_cards : DefAt K mg "need_cards" "need" "need" s_need_cards ["is_so"] f_need_cards d_need_cards
  read_race : DefAt K mg "read_race" "read_race" "read_race" s_read_race ["card", "line"] f_read_race d_read_race
  read_pool : DefAt K mg "read_pool" "read_pool" "read_pool" s_read_pool ["card", "line"] f_read_pool d_read_pool
  read_terms : DefAt K mg "read_terms" "read_terms" "read_terms" s_read_terms ["line", "kind"] f_read_terms d_read_terms
  read_day : DefAt K mg "read_day" "read_day" "read_day" s_read_day ["line"] f_read_day d_read_day
  read_card : DefAt K mg "read_card" "read_card" "read_card" s_read_card ["text"] f_read_card d_read_card
  outcome_init : MeBody K "__init__" "Outcome.__init__" s_outcome_init ["self", "state"] f_outcome_init d_outcome_init
  mk_Outcome : Mk K cOutcome f_outcome_init
  words_init : MeBody K "__init__" "Words.__init__" s_words_init ["self", "row", "begin"] f_words_init d_words_init
  mk_Words : Mk K cWords f_words_init
  words_has_more : MeBody K "has_more" "Words.has_more" s_words_has_more ["self"] f_words_has_more d_words_has_more
  m_words_has_more : Meth K cWords "has_more" f_words_has_more
  words_place : MeBody K "place" "Words.place" s_words_place ["self"] f_words_place d_words_place
  m_words_place : Meth K cWords "place" f_words_place
  words_word : MeBody K "word" "Words.word" s_words_word ["self"] f_words_word d_words_word
  m_words_word : Meth K cWords "word" f_words_word
  words_sees : MeBody K "sees" "Words.sees" s_words_sees ["self", "text"] f_words_sees d_words_sees
  m_words_sees : Meth K cWords "sees" f_words_sees
  words_choice : MeBody K "choice" "Words.choice" s_words_choice ["self", "texts"] f_words_choice d_words_choice
  m_words_choice : Meth K cWords "choice" f_words_choice
  words_runners : MeBody K "runners" "Words.runners" s_words_runners ["self", "sign", "race"] f_words_runners d_words_runners
  m_words_runners : Meth K cWords "runners" f_words_runners
  words_end : MeBody K "end" "Words.end" s_words_end ["self"] f_words_end d_words_end
  m_words_end : Meth K cWords "end" f_words_end
  need_outcomes : DefAt K mg "need_outcomes" "need" "need" s_need_outcomes ["is_so", "kind", "place"] f_need_outcomes d_need_outcomes
  ask_bytes : DefAt K mg "ask_bytes" "ask_bytes" "ask_bytes" s_ask_bytes ["row", "begin"] f_ask_bytes d_ask_bytes
  read_came : DefAt K mg "read_came" "read_came" "read_came" s_read_came ["words", "race"] f_read_came d_read_came
  read_line : DefAt K mg "read_line" "read_line" "read_line" s_read_line ["card", "found", "words"] f_read_line d_read_line
  read_result : DefAt K mg "read_result" "read_result" "read_result" s_read_result ["card", "text"] f_read_result d_read_result
  answered : DefAt K mg "answered" "answered" "answered" s_answered ["deed"] f_answered d_answered
  read_both : DefAt K mg "read_both" "read_both" "read_both" s_read_both ["card", "result"] f_read_both d_read_both
  judge : DefAt K mg "judge" "judge" "judge" s_judge ["card", "result"] f_judge d_judge
  ref_ox : OexC K cRefused
  ref_iC : PySem.W.findIn K (.ref cRefused) "__init__" = some (some (.ref f_refused_init))
  ref_tI : PySem.W.typeIn K (.ref f_refused_init) = some (.type "function")
  ref_xf : XfC K cRefused
  ref_te : PySem.W.exmOne K (.ref cRefused) (.ref cRefused) = some true
end RR
namespace RR
open PySem PySem.Spec PyProof.Rows L2
theorem tx_mk {K : PySem.W.Frag} {h : Heap} {mg : Str → Option Value} (X : K.In h) (G : h.Ns mainGlobals mg)
    {t_NEWLINE : Tok}
    {t_BLANK : Tok}
    {t_LAST_SIGN : Tok}
    {t_LONGEST_TEXT : Tok}
    {t_LONGEST_NAME : Tok}
    {t_NO_CARD : Tok}
    {t_TOO_LONG : Tok}
    {t_FAULTY : Tok}
    {t_MOST_RACES : Tok}
    {t_MOST_POOLS : Tok}
    {t_MOST_COUPLES : Tok}
    {t_PLACE : Tok}
    {t_LEGS : Tok}
    {t_NOT_ENDED : Tok}
    {t_BAD_BYTE : Tok}
    {t_BAD_WORD : Tok}
    {t_BAD_NUMBER : Tok}
    {t_EQUAL : Tok}
    {t_COMMA : Tok}
    {t_CAME : Tok}
    {t_VOID : Tok}
    {a_KINDS : Addr} {o_KINDS : Option Addr} {n_KINDS : Nat} {sl_KINDS : Array (Option Value)} {k_KINDS0 : Tok} {k_KINDS1 : Tok} {k_KINDS2 : Tok} {k_KINDS3 : Tok}
    {a_LEAST_K : Addr} {o_LEAST_K : Option Addr} {n_LEAST_K : Nat} {sl_LEAST_K : Array (Option Value)} {k_LEAST_K0 : Tok} {k_LEAST_K1 : Tok} {k_LEAST_K2 : Tok} {k_LEAST_K3 : Tok}
    {a_MOST_K : Addr} {o_MOST_K : Option Addr} {n_MOST_K : Nat} {sl_MOST_K : Array (Option Value)} {k_MOST_K0 : Tok} {k_MOST_K1 : Tok} {k_MOST_K2 : Tok} {k_MOST_K3 : Tok}
    {a_NONES : Addr} {o_NONES : Option Addr} {n_NONES : Nat} {sl_NONES : Array (Option Value)} {k_NONES0 : Tok} {k_NONES1 : Tok} {k_NONES2 : Tok}
    {cRefused : Addr}
    {cRace : Addr}
    {cPool : Addr}
    {cCard : Addr}
    {cLine : Addr}
    {cOutcome : Addr}
    {cWords : Addr}
    {f_refused_init : Addr} {od_refused_init an_refused_init : Option Addr} {sl_refused_init : Array (Option Value)} {oc_refused_init kV_refused_init dc_refused_init pm_refused_init cd_refused_init ct_refused_init : Value}
    {f_ask : Addr} {od_ask an_ask : Option Addr} {sl_ask : Array (Option Value)} {oc_ask kV_ask dc_ask pm_ask cd_ask ct_ask : Value}
    {f_spelled : Addr} {od_spelled an_spelled : Option Addr} {sl_spelled : Array (Option Value)} {oc_spelled kV_spelled dc_spelled pm_spelled cd_spelled ct_spelled : Value}
    {f_parted : Addr} {od_parted an_parted : Option Addr} {sl_parted : Array (Option Value)} {oc_parted kV_parted dc_parted pm_parted cd_parted ct_parted : Value}
    {f_is_small : Addr} {od_is_small an_is_small : Option Addr} {sl_is_small : Array (Option Value)} {oc_is_small kV_is_small dc_is_small pm_is_small cd_is_small ct_is_small : Value}
    {f_is_figure : Addr} {od_is_figure an_is_figure : Option Addr} {sl_is_figure : Array (Option Value)} {oc_is_figure kV_is_figure dc_is_figure pm_is_figure cd_is_figure ct_is_figure : Value}
    {f_is_name : Addr} {od_is_name an_is_name : Option Addr} {sl_is_name : Array (Option Value)} {oc_is_name kV_is_name dc_is_name pm_is_name cd_is_name ct_is_name : Value}
    {f_number_of : Addr} {od_number_of an_number_of : Option Addr} {sl_number_of : Array (Option Value)} {oc_number_of kV_number_of dc_number_of pm_number_of cd_number_of ct_number_of : Value}
    {f_race_init : Addr} {od_race_init an_race_init : Option Addr} {sl_race_init : Array (Option Value)} {oc_race_init kV_race_init dc_race_init pm_race_init cd_race_init ct_race_init : Value}
    {f_race_all_interests : Addr} {od_race_all_interests an_race_all_interests : Option Addr} {sl_race_all_interests : Array (Option Value)} {oc_race_all_interests kV_race_all_interests dc_race_all_interests pm_race_all_interests cd_race_all_interests ct_race_all_interests : Value}
    {f_race_couple : Addr} {od_race_couple an_race_couple : Option Addr} {sl_race_couple : Array (Option Value)} {oc_race_couple kV_race_couple dc_race_couple pm_race_couple cd_race_couple ct_race_couple : Value}
    {f_pool_init : Addr} {od_pool_init an_pool_init : Option Addr} {sl_pool_init : Array (Option Value)} {oc_pool_init kV_pool_init dc_pool_init pm_pool_init cd_pool_init ct_pool_init : Value}
    {f_pool_its_races : Addr} {od_pool_its_races an_pool_its_races : Option Addr} {sl_pool_its_races : Array (Option Value)} {oc_pool_its_races kV_pool_its_races dc_pool_its_races pm_pool_its_races cd_pool_its_races ct_pool_its_races : Value}
    {f_card_init : Addr} {od_card_init an_card_init : Option Addr} {sl_card_init : Array (Option Value)} {oc_card_init kV_card_init dc_card_init pm_card_init cd_card_init ct_card_init : Value}
    {f_card_race_at : Addr} {od_card_race_at an_card_race_at : Option Addr} {sl_card_race_at : Array (Option Value)} {oc_card_race_at kV_card_race_at dc_card_race_at pm_card_race_at cd_card_race_at ct_card_race_at : Value}
    {f_line_init : Addr} {od_line_init an_line_init : Option Addr} {sl_line_init : Array (Option Value)} {oc_line_init kV_line_init dc_line_init pm_line_init cd_line_init ct_line_init : Value}
    {f_line_has_more : Addr} {od_line_has_more an_line_has_more : Option Addr} {sl_line_has_more : Array (Option Value)} {oc_line_has_more kV_line_has_more dc_line_has_more pm_line_has_more cd_line_has_more ct_line_has_more : Value}
    {f_line_word : Addr} {od_line_word an_line_word : Option Addr} {sl_line_word : Array (Option Value)} {oc_line_word kV_line_word dc_line_word pm_line_word cd_line_word ct_line_word : Value}
    {f_line_must : Addr} {od_line_must an_line_must : Option Addr} {sl_line_must : Array (Option Value)} {oc_line_must kV_line_must dc_line_must pm_line_must cd_line_must ct_line_must : Value}
    {f_line_number : Addr} {od_line_number an_line_number : Option Addr} {sl_line_number : Array (Option Value)} {oc_line_number kV_line_number dc_line_number pm_line_number cd_line_number ct_line_number : Value}
    {f_line_choice : Addr} {od_line_choice an_line_choice : Option Addr} {sl_line_choice : Array (Option Value)} {oc_line_choice kV_line_choice dc_line_choice pm_line_choice cd_line_choice ct_line_choice : Value}
    {f_line_end : Addr} {od_line_end an_line_end : Option Addr} {sl_line_end : Array (Option Value)} {oc_line_end kV_line_end dc_line_end pm_line_end cd_line_end ct_line_end : Value}
    {f_need_cards : Addr} {od_need_cards an_need_cards : Option Addr} {sl_need_cards : Array (Option Value)} {oc_need_cards kV_need_cards dc_need_cards pm_need_cards cd_need_cards ct_need_cards : Value}
    {f_read_race : Addr} {od_read_race an_read_race : Option Addr} {sl_read_race : Array (Option Value)} {oc_read_race kV_read_race dc_read_race pm_read_race cd_read_race ct_read_race : Value}
    {f_read_pool : Addr} {od_read_pool an_read_pool : Option Addr} {sl_read_pool : Array (Option Value)} {oc_read_pool kV_read_pool dc_read_pool pm_read_pool cd_read_pool ct_read_pool : Value}
    {f_read_terms : Addr} {od_read_terms an_read_terms : Option Addr} {sl_read_terms : Array (Option Value)} {oc_read_terms kV_read_terms dc_read_terms pm_read_terms cd_read_terms ct_read_terms : Value}
    {f_read_day : Addr} {od_read_day an_read_day : Option Addr} {sl_read_day : Array (Option Value)} {oc_read_day kV_read_day dc_read_day pm_read_day cd_read_day ct_read_day : Value}
    {f_read_card : Addr} {od_read_card an_read_card : Option Addr} {sl_read_card : Array (Option Value)} {oc_read_card kV_read_card dc_read_card pm_read_card cd_read_card ct_read_card : Value}
    {f_outcome_init : Addr} {od_outcome_init an_outcome_init : Option Addr} {sl_outcome_init : Array (Option Value)} {oc_outcome_init kV_outcome_init dc_outcome_init pm_outcome_init cd_outcome_init ct_outcome_init : Value}
    {f_words_init : Addr} {od_words_init an_words_init : Option Addr} {sl_words_init : Array (Option Value)} {oc_words_init kV_words_init dc_words_init pm_words_init cd_words_init ct_words_init : Value}
    {f_words_has_more : Addr} {od_words_has_more an_words_has_more : Option Addr} {sl_words_has_more : Array (Option Value)} {oc_words_has_more kV_words_has_more dc_words_has_more pm_words_has_more cd_words_has_more ct_words_has_more : Value}
    {f_words_place : Addr} {od_words_place an_words_place : Option Addr} {sl_words_place : Array (Option Value)} {oc_words_place kV_words_place dc_words_place pm_words_place cd_words_place ct_words_place : Value}
    {f_words_word : Addr} {od_words_word an_words_word : Option Addr} {sl_words_word : Array (Option Value)} {oc_words_word kV_words_word dc_words_word pm_words_word cd_words_word ct_words_word : Value}
    {f_words_sees : Addr} {od_words_sees an_words_sees : Option Addr} {sl_words_sees : Array (Option Value)} {oc_words_sees kV_words_sees dc_words_sees pm_words_sees cd_words_sees ct_words_sees : Value}
    {f_words_choice : Addr} {od_words_choice an_words_choice : Option Addr} {sl_words_choice : Array (Option Value)} {oc_words_choice kV_words_choice dc_words_choice pm_words_choice cd_words_choice ct_words_choice : Value}
    {f_words_runners : Addr} {od_words_runners an_words_runners : Option Addr} {sl_words_runners : Array (Option Value)} {oc_words_runners kV_words_runners dc_words_runners pm_words_runners cd_words_runners ct_words_runners : Value}
    {f_words_end : Addr} {od_words_end an_words_end : Option Addr} {sl_words_end : Array (Option Value)} {oc_words_end kV_words_end dc_words_end pm_words_end cd_words_end ct_words_end : Value}
    {f_need_outcomes : Addr} {od_need_outcomes an_need_outcomes : Option Addr} {sl_need_outcomes : Array (Option Value)} {oc_need_outcomes kV_need_outcomes dc_need_outcomes pm_need_outcomes cd_need_outcomes ct_need_outcomes : Value}
    {f_ask_bytes : Addr} {od_ask_bytes an_ask_bytes : Option Addr} {sl_ask_bytes : Array (Option Value)} {oc_ask_bytes kV_ask_bytes dc_ask_bytes pm_ask_bytes cd_ask_bytes ct_ask_bytes : Value}
    {f_read_came : Addr} {od_read_came an_read_came : Option Addr} {sl_read_came : Array (Option Value)} {oc_read_came kV_read_came dc_read_came pm_read_came cd_read_came ct_read_came : Value}
    {f_read_line : Addr} {od_read_line an_read_line : Option Addr} {sl_read_line : Array (Option Value)} {oc_read_line kV_read_line dc_read_line pm_read_line cd_read_line ct_read_line : Value}
    {f_read_result : Addr} {od_read_result an_read_result : Option Addr} {sl_read_result : Array (Option Value)} {oc_read_result kV_read_result dc_read_result pm_read_result cd_read_result ct_read_result : Value}
    {f_answered : Addr} {od_answered an_answered : Option Addr} {sl_answered : Array (Option Value)} {oc_answered kV_answered dc_answered pm_answered cd_answered ct_answered : Value}
    {f_read_both : Addr} {od_read_both an_read_both : Option Addr} {sl_read_both : Array (Option Value)} {oc_read_both kV_read_both dc_read_both pm_read_both cd_read_both ct_read_both : Value}
    {f_judge : Addr} {od_judge an_judge : Option Addr} {sl_judge : Array (Option Value)} {oc_judge kV_judge dc_judge pm_judge cd_judge ct_judge : Value}
    {xnm xq : Str} {xN : Addr} {xbs : List Value} {xsn : List Str} {xsub : List Value} {xab : Bool} {xcol : Option Bool} {xdd : Option Addr} {x0 x1 x2 x3 x5 : Option Value}
    (z_len : PySem.W.nsIn K mainGlobals "len" = some none)
    (z_range : PySem.W.nsIn K mainGlobals "range" = some none)
    (z_tuple : PySem.W.nsIn K mainGlobals "tuple" = some none)
    (z_all : PySem.W.nsIn K mainGlobals "all" = some none)
    (z_enumerate : PySem.W.nsIn K mainGlobals "enumerate" = some none)
    (z_zip : PySem.W.nsIn K mainGlobals "zip" = some none)
    (z_list : PySem.W.nsIn K mainGlobals "list" = some none)
    (z_ord : PySem.W.nsIn K mainGlobals "ord" = some none)
    (g_NEWLINE : PySem.W.nsIn K mainGlobals "NEWLINE" = some (some (.int 10 t_NEWLINE)))
    (g_BLANK : PySem.W.nsIn K mainGlobals "BLANK" = some (some (.int 32 t_BLANK)))
    (g_LAST_SIGN : PySem.W.nsIn K mainGlobals "LAST_SIGN" = some (some (.int 126 t_LAST_SIGN)))
    (g_LONGEST_TEXT : PySem.W.nsIn K mainGlobals "LONGEST_TEXT" = some (some (.int 65536 t_LONGEST_TEXT)))
    (g_LONGEST_NAME : PySem.W.nsIn K mainGlobals "LONGEST_NAME" = some (some (.int 12 t_LONGEST_NAME)))
    (g_NO_CARD : PySem.W.nsIn K mainGlobals "NO_CARD" = some (some (.int (-8) t_NO_CARD)))
    (g_TOO_LONG : PySem.W.nsIn K mainGlobals "TOO_LONG" = some (some (.int (-2) t_TOO_LONG)))
    (g_FAULTY : PySem.W.nsIn K mainGlobals "FAULTY" = some (some (.int (-6) t_FAULTY)))
    (g_MOST_RACES : PySem.W.nsIn K mainGlobals "MOST_RACES" = some (some (.int 16 t_MOST_RACES)))
    (g_MOST_POOLS : PySem.W.nsIn K mainGlobals "MOST_POOLS" = some (some (.int 64 t_MOST_POOLS)))
    (g_MOST_COUPLES : PySem.W.nsIn K mainGlobals "MOST_COUPLES" = some (some (.int 8 t_MOST_COUPLES)))
    (g_PLACE : PySem.W.nsIn K mainGlobals "PLACE" = some (some (.int 0 t_PLACE)))
    (g_LEGS : PySem.W.nsIn K mainGlobals "LEGS" = some (some (.int 3 t_LEGS)))
    (g_NOT_ENDED : PySem.W.nsIn K mainGlobals "NOT_ENDED" = some (some (.int 1 t_NOT_ENDED)))
    (g_BAD_BYTE : PySem.W.nsIn K mainGlobals "BAD_BYTE" = some (some (.int 2 t_BAD_BYTE)))
    (g_BAD_WORD : PySem.W.nsIn K mainGlobals "BAD_WORD" = some (some (.int 3 t_BAD_WORD)))
    (g_BAD_NUMBER : PySem.W.nsIn K mainGlobals "BAD_NUMBER" = some (some (.int 4 t_BAD_NUMBER)))
    (g_EQUAL : PySem.W.nsIn K mainGlobals "EQUAL" = some (some (.int 61 t_EQUAL)))
    (g_COMMA : PySem.W.nsIn K mainGlobals "COMMA" = some (some (.int 44 t_COMMA)))
    (g_CAME : PySem.W.nsIn K mainGlobals "CAME" = some (some (.int 1 t_CAME)))
    (g_VOID : PySem.W.nsIn K mainGlobals "VOID" = some (some (.int 2 t_VOID)))
    (g_KINDS : PySem.W.nsIn K mainGlobals "KINDS" = some (some (.ref a_KINDS)))
    (l_KINDS : K.lookup a_KINDS = some ⟨.type "tuple", o_KINDS, .seq #[.str "place" k_KINDS0, .str "order" k_KINDS1, .str "any" k_KINDS2, .str "legs" k_KINDS3] n_KINDS, sl_KINDS⟩)
    (g_LEAST_K : PySem.W.nsIn K mainGlobals "LEAST_K" = some (some (.ref a_LEAST_K)))
    (l_LEAST_K : K.lookup a_LEAST_K = some ⟨.type "tuple", o_LEAST_K, .seq #[.int 1 k_LEAST_K0, .int 2 k_LEAST_K1, .int 2 k_LEAST_K2, .int 2 k_LEAST_K3] n_LEAST_K, sl_LEAST_K⟩)
    (g_MOST_K : PySem.W.nsIn K mainGlobals "MOST_K" = some (some (.ref a_MOST_K)))
    (l_MOST_K : K.lookup a_MOST_K = some ⟨.type "tuple", o_MOST_K, .seq #[.int 4 k_MOST_K0, .int 4 k_MOST_K1, .int 3 k_MOST_K2, .int 6 k_MOST_K3] n_MOST_K, sl_MOST_K⟩)
    (g_NONES : PySem.W.nsIn K mainGlobals "NONES" = some (some (.ref a_NONES)))
    (l_NONES : K.lookup a_NONES = some ⟨.type "tuple", o_NONES, .seq #[.str "refund" k_NONES0, .str "carry" k_NONES1, .str "fewer" k_NONES2] n_NONES, sl_NONES⟩)
    (g_cRefused : PySem.W.nsIn K mainGlobals "Refused" = some (some (.ref cRefused)))
    (n_Refused_told : PySem.W.findIn K (.ref cRefused) "told" = some none)
    (g_cRace : PySem.W.nsIn K mainGlobals "Race" = some (some (.ref cRace)))
    (pg_Race : PySem.W.plainGet K cRace Str.empty = true)
    (hd_Race : PySem.W.hasDictIn K cRace = true)
    (po_Race : PySem.W.plainOver K cRace = true)
    (sa_Race : PySem.W.findIn K (.ref cRace) "__setattr__" = some (some (.builtin "object.__setattr__")))
    (mk_Race : PySem.W.makesIn K cRace = true)
    (kc_Race : PySem.W.keepIn K (.ref cRace) = true)
    (n_Race_many : PySem.W.findIn K (.ref cRace) "many" = some none)
    (n_Race_heads_of : PySem.W.findIn K (.ref cRace) "heads_of" = some none)
    (g_cPool : PySem.W.nsIn K mainGlobals "Pool" = some (some (.ref cPool)))
    (pg_Pool : PySem.W.plainGet K cPool Str.empty = true)
    (hd_Pool : PySem.W.hasDictIn K cPool = true)
    (po_Pool : PySem.W.plainOver K cPool = true)
    (sa_Pool : PySem.W.findIn K (.ref cPool) "__setattr__" = some (some (.builtin "object.__setattr__")))
    (mk_Pool : PySem.W.makesIn K cPool = true)
    (kc_Pool : PySem.W.keepIn K (.ref cPool) = true)
    (n_Pool_kind : PySem.W.findIn K (.ref cPool) "kind" = some none)
    (n_Pool_many : PySem.W.findIn K (.ref cPool) "many" = some none)
    (n_Pool_race : PySem.W.findIn K (.ref cPool) "race" = some none)
    (g_cCard : PySem.W.nsIn K mainGlobals "Card" = some (some (.ref cCard)))
    (pg_Card : PySem.W.plainGet K cCard Str.empty = true)
    (hd_Card : PySem.W.hasDictIn K cCard = true)
    (po_Card : PySem.W.plainOver K cCard = true)
    (sa_Card : PySem.W.findIn K (.ref cCard) "__setattr__" = some (some (.builtin "object.__setattr__")))
    (mk_Card : PySem.W.makesIn K cCard = true)
    (kc_Card : PySem.W.keepIn K (.ref cCard) = true)
    (n_Card_races : PySem.W.findIn K (.ref cCard) "races" = some none)
    (n_Card_pools : PySem.W.findIn K (.ref cCard) "pools" = some none)
    (n_Card_names : PySem.W.findIn K (.ref cCard) "names" = some none)
    (g_cLine : PySem.W.nsIn K mainGlobals "Line" = some (some (.ref cLine)))
    (pg_Line : PySem.W.plainGet K cLine Str.empty = true)
    (hd_Line : PySem.W.hasDictIn K cLine = true)
    (po_Line : PySem.W.plainOver K cLine = true)
    (sa_Line : PySem.W.findIn K (.ref cLine) "__setattr__" = some (some (.builtin "object.__setattr__")))
    (mk_Line : PySem.W.makesIn K cLine = true)
    (kc_Line : PySem.W.keepIn K (.ref cLine) = true)
    (n_Line_words : PySem.W.findIn K (.ref cLine) "words" = some none)
    (n_Line_at : PySem.W.findIn K (.ref cLine) "at" = some none)
    (g_cOutcome : PySem.W.nsIn K mainGlobals "Outcome" = some (some (.ref cOutcome)))
    (pg_Outcome : PySem.W.plainGet K cOutcome Str.empty = true)
    (hd_Outcome : PySem.W.hasDictIn K cOutcome = true)
    (po_Outcome : PySem.W.plainOver K cOutcome = true)
    (sa_Outcome : PySem.W.findIn K (.ref cOutcome) "__setattr__" = some (some (.builtin "object.__setattr__")))
    (mk_Outcome : PySem.W.makesIn K cOutcome = true)
    (kc_Outcome : PySem.W.keepIn K (.ref cOutcome) = true)
    (n_Outcome_state : PySem.W.findIn K (.ref cOutcome) "state" = some none)
    (n_Outcome_groups : PySem.W.findIn K (.ref cOutcome) "groups" = some none)
    (n_Outcome_out : PySem.W.findIn K (.ref cOutcome) "out" = some none)
    (g_cWords : PySem.W.nsIn K mainGlobals "Words" = some (some (.ref cWords)))
    (pg_Words : PySem.W.plainGet K cWords Str.empty = true)
    (hd_Words : PySem.W.hasDictIn K cWords = true)
    (po_Words : PySem.W.plainOver K cWords = true)
    (sa_Words : PySem.W.findIn K (.ref cWords) "__setattr__" = some (some (.builtin "object.__setattr__")))
    (mk_Words : PySem.W.makesIn K cWords = true)
    (kc_Words : PySem.W.keepIn K (.ref cWords) = true)
    (n_Words_words : PySem.W.findIn K (.ref cWords) "words" = some none)
    (n_Words_places : PySem.W.findIn K (.ref cWords) "places" = some none)
    (n_Words_ending : PySem.W.findIn K (.ref cWords) "ending" = some none)
    (n_Words_at : PySem.W.findIn K (.ref cWords) "at" = some none)
    (n_Words_told : PySem.W.findIn K (.ref cWords) "told" = some none)
    (a_refused_init : PySem.W.findIn K (.ref cRefused) "__init__" = some (some (.ref f_refused_init)))
    (l_refused_init : K.lookup f_refused_init = some ⟨oc_refused_init, od_refused_init, .func (PySem.W.fnOf "__init__" "Refused.__init__" (defArgs s_refused_init) (defBody s_refused_init) (defScope s_refused_init) .none kV_refused_init dc_refused_init pm_refused_init an_refused_init cd_refused_init ct_refused_init), sl_refused_init⟩)
    (c_refused_init : PySem.W.codeIn K cd_refused_init "Refused.__init__" = true)
    (k_refused_init : PySem.W.keepIn K (.ref f_refused_init) = true)
    (a_ask : PySem.W.nsIn K mainGlobals "ask" = some (some (.ref f_ask)))
    (l_ask : K.lookup f_ask = some ⟨oc_ask, od_ask, .func (PySem.W.fnOf "ask" "ask" (defArgs s_ask) (defBody s_ask) (defScope s_ask) .none kV_ask dc_ask pm_ask an_ask cd_ask ct_ask), sl_ask⟩)
    (c_ask : PySem.W.codeIn K cd_ask "ask" = true)
    (k_ask : PySem.W.keepIn K (.ref f_ask) = true)
    (a_spelled : PySem.W.nsIn K mainGlobals "spelled" = some (some (.ref f_spelled)))
    (l_spelled : K.lookup f_spelled = some ⟨oc_spelled, od_spelled, .func (PySem.W.fnOf "spelled" "spelled" (defArgs s_spelled) (defBody s_spelled) (defScope s_spelled) .none kV_spelled dc_spelled pm_spelled an_spelled cd_spelled ct_spelled), sl_spelled⟩)
    (c_spelled : PySem.W.codeIn K cd_spelled "spelled" = true)
    (k_spelled : PySem.W.keepIn K (.ref f_spelled) = true)
    (a_parted : PySem.W.nsIn K mainGlobals "parted" = some (some (.ref f_parted)))
    (l_parted : K.lookup f_parted = some ⟨oc_parted, od_parted, .func (PySem.W.fnOf "parted" "parted" (defArgs s_parted) (defBody s_parted) (defScope s_parted) .none kV_parted dc_parted pm_parted an_parted cd_parted ct_parted), sl_parted⟩)
    (c_parted : PySem.W.codeIn K cd_parted "parted" = true)
    (k_parted : PySem.W.keepIn K (.ref f_parted) = true)
    (a_is_small : PySem.W.nsIn K mainGlobals "is_small" = some (some (.ref f_is_small)))
    (l_is_small : K.lookup f_is_small = some ⟨oc_is_small, od_is_small, .func (PySem.W.fnOf "is_small" "is_small" (defArgs s_is_small) (defBody s_is_small) (defScope s_is_small) .none kV_is_small dc_is_small pm_is_small an_is_small cd_is_small ct_is_small), sl_is_small⟩)
    (c_is_small : PySem.W.codeIn K cd_is_small "is_small" = true)
    (k_is_small : PySem.W.keepIn K (.ref f_is_small) = true)
    (a_is_figure : PySem.W.nsIn K mainGlobals "is_figure" = some (some (.ref f_is_figure)))
    (l_is_figure : K.lookup f_is_figure = some ⟨oc_is_figure, od_is_figure, .func (PySem.W.fnOf "is_figure" "is_figure" (defArgs s_is_figure) (defBody s_is_figure) (defScope s_is_figure) .none kV_is_figure dc_is_figure pm_is_figure an_is_figure cd_is_figure ct_is_figure), sl_is_figure⟩)
    (c_is_figure : PySem.W.codeIn K cd_is_figure "is_figure" = true)
    (k_is_figure : PySem.W.keepIn K (.ref f_is_figure) = true)
    (a_is_name : PySem.W.nsIn K mainGlobals "is_name" = some (some (.ref f_is_name)))
    (l_is_name : K.lookup f_is_name = some ⟨oc_is_name, od_is_name, .func (PySem.W.fnOf "is_name" "is_name" (defArgs s_is_name) (defBody s_is_name) (defScope s_is_name) .none kV_is_name dc_is_name pm_is_name an_is_name cd_is_name ct_is_name), sl_is_name⟩)
    (c_is_name : PySem.W.codeIn K cd_is_name "is_name" = true)
    (k_is_name : PySem.W.keepIn K (.ref f_is_name) = true)
    (a_number_of : PySem.W.nsIn K mainGlobals "number_of" = some (some (.ref f_number_of)))
    (l_number_of : K.lookup f_number_of = some ⟨oc_number_of, od_number_of, .func (PySem.W.fnOf "number_of" "number_of" (defArgs s_number_of) (defBody s_number_of) (defScope s_number_of) .none kV_number_of dc_number_of pm_number_of an_number_of cd_number_of ct_number_of), sl_number_of⟩)
    (c_number_of : PySem.W.codeIn K cd_number_of "number_of" = true)
    (k_number_of : PySem.W.keepIn K (.ref f_number_of) = true)
    (a_race_init : PySem.W.findIn K (.ref cRace) "__init__" = some (some (.ref f_race_init)))
    (i_race_init : PySem.W.isFn K (.ref f_race_init) = true)
    (l_race_init : K.lookup f_race_init = some ⟨oc_race_init, od_race_init, .func (PySem.W.fnOf "__init__" "Race.__init__" (defArgs s_race_init) (defBody s_race_init) (defScope s_race_init) .none kV_race_init dc_race_init pm_race_init an_race_init cd_race_init ct_race_init), sl_race_init⟩)
    (c_race_init : PySem.W.codeIn K cd_race_init "Race.__init__" = true)
    (k_race_init : PySem.W.keepIn K (.ref f_race_init) = true)
    (a_race_all_interests : PySem.W.findIn K (.ref cRace) "all_interests" = some (some (.ref f_race_all_interests)))
    (i_race_all_interests : PySem.W.isFn K (.ref f_race_all_interests) = true)
    (l_race_all_interests : K.lookup f_race_all_interests = some ⟨oc_race_all_interests, od_race_all_interests, .func (PySem.W.fnOf "all_interests" "Race.all_interests" (defArgs s_race_all_interests) (defBody s_race_all_interests) (defScope s_race_all_interests) .none kV_race_all_interests dc_race_all_interests pm_race_all_interests an_race_all_interests cd_race_all_interests ct_race_all_interests), sl_race_all_interests⟩)
    (c_race_all_interests : PySem.W.codeIn K cd_race_all_interests "Race.all_interests" = true)
    (k_race_all_interests : PySem.W.keepIn K (.ref f_race_all_interests) = true)
    (a_race_couple : PySem.W.findIn K (.ref cRace) "couple" = some (some (.ref f_race_couple)))
    (i_race_couple : PySem.W.isFn K (.ref f_race_couple) = true)
    (l_race_couple : K.lookup f_race_couple = some ⟨oc_race_couple, od_race_couple, .func (PySem.W.fnOf "couple" "Race.couple" (defArgs s_race_couple) (defBody s_race_couple) (defScope s_race_couple) .none kV_race_couple dc_race_couple pm_race_couple an_race_couple cd_race_couple ct_race_couple), sl_race_couple⟩)
    (c_race_couple : PySem.W.codeIn K cd_race_couple "Race.couple" = true)
    (k_race_couple : PySem.W.keepIn K (.ref f_race_couple) = true)
    (a_pool_init : PySem.W.findIn K (.ref cPool) "__init__" = some (some (.ref f_pool_init)))
    (i_pool_init : PySem.W.isFn K (.ref f_pool_init) = true)
    (l_pool_init : K.lookup f_pool_init = some ⟨oc_pool_init, od_pool_init, .func (PySem.W.fnOf "__init__" "Pool.__init__" (defArgs s_pool_init) (defBody s_pool_init) (defScope s_pool_init) .none kV_pool_init dc_pool_init pm_pool_init an_pool_init cd_pool_init ct_pool_init), sl_pool_init⟩)
    (c_pool_init : PySem.W.codeIn K cd_pool_init "Pool.__init__" = true)
    (k_pool_init : PySem.W.keepIn K (.ref f_pool_init) = true)
    (a_pool_its_races : PySem.W.findIn K (.ref cPool) "its_races" = some (some (.ref f_pool_its_races)))
    (i_pool_its_races : PySem.W.isFn K (.ref f_pool_its_races) = true)
    (l_pool_its_races : K.lookup f_pool_its_races = some ⟨oc_pool_its_races, od_pool_its_races, .func (PySem.W.fnOf "its_races" "Pool.its_races" (defArgs s_pool_its_races) (defBody s_pool_its_races) (defScope s_pool_its_races) .none kV_pool_its_races dc_pool_its_races pm_pool_its_races an_pool_its_races cd_pool_its_races ct_pool_its_races), sl_pool_its_races⟩)
    (c_pool_its_races : PySem.W.codeIn K cd_pool_its_races "Pool.its_races" = true)
    (k_pool_its_races : PySem.W.keepIn K (.ref f_pool_its_races) = true)
    (a_card_init : PySem.W.findIn K (.ref cCard) "__init__" = some (some (.ref f_card_init)))
    (i_card_init : PySem.W.isFn K (.ref f_card_init) = true)
    (l_card_init : K.lookup f_card_init = some ⟨oc_card_init, od_card_init, .func (PySem.W.fnOf "__init__" "Card.__init__" (defArgs s_card_init) (defBody s_card_init) (defScope s_card_init) .none kV_card_init dc_card_init pm_card_init an_card_init cd_card_init ct_card_init), sl_card_init⟩)
    (c_card_init : PySem.W.codeIn K cd_card_init "Card.__init__" = true)
    (k_card_init : PySem.W.keepIn K (.ref f_card_init) = true)
    (a_card_race_at : PySem.W.findIn K (.ref cCard) "race_at" = some (some (.ref f_card_race_at)))
    (i_card_race_at : PySem.W.isFn K (.ref f_card_race_at) = true)
    (l_card_race_at : K.lookup f_card_race_at = some ⟨oc_card_race_at, od_card_race_at, .func (PySem.W.fnOf "race_at" "Card.race_at" (defArgs s_card_race_at) (defBody s_card_race_at) (defScope s_card_race_at) .none kV_card_race_at dc_card_race_at pm_card_race_at an_card_race_at cd_card_race_at ct_card_race_at), sl_card_race_at⟩)
    (c_card_race_at : PySem.W.codeIn K cd_card_race_at "Card.race_at" = true)
    (k_card_race_at : PySem.W.keepIn K (.ref f_card_race_at) = true)
    (a_line_init : PySem.W.findIn K (.ref cLine) "__init__" = some (some (.ref f_line_init)))
    (i_line_init : PySem.W.isFn K (.ref f_line_init) = true)
    (l_line_init : K.lookup f_line_init = some ⟨oc_line_init, od_line_init, .func (PySem.W.fnOf "__init__" "Line.__init__" (defArgs s_line_init) (defBody s_line_init) (defScope s_line_init) .none kV_line_init dc_line_init pm_line_init an_line_init cd_line_init ct_line_init), sl_line_init⟩)
    (c_line_init : PySem.W.codeIn K cd_line_init "Line.__init__" = true)
    (k_line_init : PySem.W.keepIn K (.ref f_line_init) = true)
    (a_line_has_more : PySem.W.findIn K (.ref cLine) "has_more" = some (some (.ref f_line_has_more)))
    (i_line_has_more : PySem.W.isFn K (.ref f_line_has_more) = true)
    (l_line_has_more : K.lookup f_line_has_more = some ⟨oc_line_has_more, od_line_has_more, .func (PySem.W.fnOf "has_more" "Line.has_more" (defArgs s_line_has_more) (defBody s_line_has_more) (defScope s_line_has_more) .none kV_line_has_more dc_line_has_more pm_line_has_more an_line_has_more cd_line_has_more ct_line_has_more), sl_line_has_more⟩)
    (c_line_has_more : PySem.W.codeIn K cd_line_has_more "Line.has_more" = true)
    (k_line_has_more : PySem.W.keepIn K (.ref f_line_has_more) = true)
    (a_line_word : PySem.W.findIn K (.ref cLine) "word" = some (some (.ref f_line_word)))
    (i_line_word : PySem.W.isFn K (.ref f_line_word) = true)
    (l_line_word : K.lookup f_line_word = some ⟨oc_line_word, od_line_word, .func (PySem.W.fnOf "word" "Line.word" (defArgs s_line_word) (defBody s_line_word) (defScope s_line_word) .none kV_line_word dc_line_word pm_line_word an_line_word cd_line_word ct_line_word), sl_line_word⟩)
    (c_line_word : PySem.W.codeIn K cd_line_word "Line.word" = true)
    (k_line_word : PySem.W.keepIn K (.ref f_line_word) = true)
    (a_line_must : PySem.W.findIn K (.ref cLine) "must" = some (some (.ref f_line_must)))
    (i_line_must : PySem.W.isFn K (.ref f_line_must) = true)
    (l_line_must : K.lookup f_line_must = some ⟨oc_line_must, od_line_must, .func (PySem.W.fnOf "must" "Line.must" (defArgs s_line_must) (defBody s_line_must) (defScope s_line_must) .none kV_line_must dc_line_must pm_line_must an_line_must cd_line_must ct_line_must), sl_line_must⟩)
    (c_line_must : PySem.W.codeIn K cd_line_must "Line.must" = true)
    (k_line_must : PySem.W.keepIn K (.ref f_line_must) = true)
    (a_line_number : PySem.W.findIn K (.ref cLine) "number" = some (some (.ref f_line_number)))
    (i_line_number : PySem.W.isFn K (.ref f_line_number) = true)
    (l_line_number : K.lookup f_line_number = some ⟨oc_line_number, od_line_number, .func (PySem.W.fnOf "number" "Line.number" (defArgs s_line_number) (defBody s_line_number) (defScope s_line_number) .none kV_line_number dc_line_number pm_line_number an_line_number cd_line_number ct_line_number), sl_line_number⟩)
    (c_line_number : PySem.W.codeIn K cd_line_number "Line.number" = true)
    (k_line_number : PySem.W.keepIn K (.ref f_line_number) = true)
    (a_line_choice : PySem.W.findIn K (.ref cLine) "choice" = some (some (.ref f_line_choice)))
    (i_line_choice : PySem.W.isFn K (.ref f_line_choice) = true)
    (l_line_choice : K.lookup f_line_choice = some ⟨oc_line_choice, od_line_choice, .func (PySem.W.fnOf "choice" "Line.choice" (defArgs s_line_choice) (defBody s_line_choice) (defScope s_line_choice) .none kV_line_choice dc_line_choice pm_line_choice an_line_choice cd_line_choice ct_line_choice), sl_line_choice⟩)
    (c_line_choice : PySem.W.codeIn K cd_line_choice "Line.choice" = true)
    (k_line_choice : PySem.W.keepIn K (.ref f_line_choice) = true)
    (a_line_end : PySem.W.findIn K (.ref cLine) "end" = some (some (.ref f_line_end)))
    (i_line_end : PySem.W.isFn K (.ref f_line_end) = true)
    (l_line_end : K.lookup f_line_end = some ⟨oc_line_end, od_line_end, .func (PySem.W.fnOf "end" "Line.end" (defArgs s_line_end) (defBody s_line_end) (defScope s_line_end) .none kV_line_end dc_line_end pm_line_end an_line_end cd_line_end ct_line_end), sl_line_end⟩)
    (c_line_end : PySem.W.codeIn K cd_line_end "Line.end" = true)
    (k_line_end : PySem.W.keepIn K (.ref f_line_end) = true)
    (a_need_cards : PySem.W.nsIn K mainGlobals "need_cards" = some (some (.ref f_need_cards)))
    (l_need_cards : K.lookup f_need_cards = some ⟨oc_need_cards, od_need_cards, .func (PySem.W.fnOf "need" "need" (defArgs s_need_cards) (defBody s_need_cards) (defScope s_need_cards) .none kV_need_cards dc_need_cards pm_need_cards an_need_cards cd_need_cards ct_need_cards), sl_need_cards⟩)
    (c_need_cards : PySem.W.codeIn K cd_need_cards "need" = true)
    (k_need_cards : PySem.W.keepIn K (.ref f_need_cards) = true)
    (a_read_race : PySem.W.nsIn K mainGlobals "read_race" = some (some (.ref f_read_race)))
    (l_read_race : K.lookup f_read_race = some ⟨oc_read_race, od_read_race, .func (PySem.W.fnOf "read_race" "read_race" (defArgs s_read_race) (defBody s_read_race) (defScope s_read_race) .none kV_read_race dc_read_race pm_read_race an_read_race cd_read_race ct_read_race), sl_read_race⟩)
    (c_read_race : PySem.W.codeIn K cd_read_race "read_race" = true)
    (k_read_race : PySem.W.keepIn K (.ref f_read_race) = true)
    (a_read_pool : PySem.W.nsIn K mainGlobals "read_pool" = some (some (.ref f_read_pool)))
    (l_read_pool : K.lookup f_read_pool = some ⟨oc_read_pool, od_read_pool, .func (PySem.W.fnOf "read_pool" "read_pool" (defArgs s_read_pool) (defBody s_read_pool) (defScope s_read_pool) .none kV_read_pool dc_read_pool pm_read_pool an_read_pool cd_read_pool ct_read_pool), sl_read_pool⟩)
    (c_read_pool : PySem.W.codeIn K cd_read_pool "read_pool" = true)
    (k_read_pool : PySem.W.keepIn K (.ref f_read_pool) = true)
    (a_read_terms : PySem.W.nsIn K mainGlobals "read_terms" = some (some (.ref f_read_terms)))
    (l_read_terms : K.lookup f_read_terms = some ⟨oc_read_terms, od_read_terms, .func (PySem.W.fnOf "read_terms" "read_terms" (defArgs s_read_terms) (defBody s_read_terms) (defScope s_read_terms) .none kV_read_terms dc_read_terms pm_read_terms an_read_terms cd_read_terms ct_read_terms), sl_read_terms⟩)
    (c_read_terms : PySem.W.codeIn K cd_read_terms "read_terms" = true)
    (k_read_terms : PySem.W.keepIn K (.ref f_read_terms) = true)
    (a_read_day : PySem.W.nsIn K mainGlobals "read_day" = some (some (.ref f_read_day)))
    (l_read_day : K.lookup f_read_day = some ⟨oc_read_day, od_read_day, .func (PySem.W.fnOf "read_day" "read_day" (defArgs s_read_day) (defBody s_read_day) (defScope s_read_day) .none kV_read_day dc_read_day pm_read_day an_read_day cd_read_day ct_read_day), sl_read_day⟩)
    (c_read_day : PySem.W.codeIn K cd_read_day "read_day" = true)
    (k_read_day : PySem.W.keepIn K (.ref f_read_day) = true)
    (a_read_card : PySem.W.nsIn K mainGlobals "read_card" = some (some (.ref f_read_card)))
    (l_read_card : K.lookup f_read_card = some ⟨oc_read_card, od_read_card, .func (PySem.W.fnOf "read_card" "read_card" (defArgs s_read_card) (defBody s_read_card) (defScope s_read_card) .none kV_read_card dc_read_card pm_read_card an_read_card cd_read_card ct_read_card), sl_read_card⟩)
    (c_read_card : PySem.W.codeIn K cd_read_card "read_card" = true)
    (k_read_card : PySem.W.keepIn K (.ref f_read_card) = true)
    (a_outcome_init : PySem.W.findIn K (.ref cOutcome) "__init__" = some (some (.ref f_outcome_init)))
    (i_outcome_init : PySem.W.isFn K (.ref f_outcome_init) = true)
    (l_outcome_init : K.lookup f_outcome_init = some ⟨oc_outcome_init, od_outcome_init, .func (PySem.W.fnOf "__init__" "Outcome.__init__" (defArgs s_outcome_init) (defBody s_outcome_init) (defScope s_outcome_init) .none kV_outcome_init dc_outcome_init pm_outcome_init an_outcome_init cd_outcome_init ct_outcome_init), sl_outcome_init⟩)
    (c_outcome_init : PySem.W.codeIn K cd_outcome_init "Outcome.__init__" = true)
    (k_outcome_init : PySem.W.keepIn K (.ref f_outcome_init) = true)
    (a_words_init : PySem.W.findIn K (.ref cWords) "__init__" = some (some (.ref f_words_init)))
    (i_words_init : PySem.W.isFn K (.ref f_words_init) = true)
    (l_words_init : K.lookup f_words_init = some ⟨oc_words_init, od_words_init, .func (PySem.W.fnOf "__init__" "Words.__init__" (defArgs s_words_init) (defBody s_words_init) (defScope s_words_init) .none kV_words_init dc_words_init pm_words_init an_words_init cd_words_init ct_words_init), sl_words_init⟩)
    (c_words_init : PySem.W.codeIn K cd_words_init "Words.__init__" = true)
    (k_words_init : PySem.W.keepIn K (.ref f_words_init) = true)
    (a_words_has_more : PySem.W.findIn K (.ref cWords) "has_more" = some (some (.ref f_words_has_more)))
    (i_words_has_more : PySem.W.isFn K (.ref f_words_has_more) = true)
    (l_words_has_more : K.lookup f_words_has_more = some ⟨oc_words_has_more, od_words_has_more, .func (PySem.W.fnOf "has_more" "Words.has_more" (defArgs s_words_has_more) (defBody s_words_has_more) (defScope s_words_has_more) .none kV_words_has_more dc_words_has_more pm_words_has_more an_words_has_more cd_words_has_more ct_words_has_more), sl_words_has_more⟩)
    (c_words_has_more : PySem.W.codeIn K cd_words_has_more "Words.has_more" = true)
    (k_words_has_more : PySem.W.keepIn K (.ref f_words_has_more) = true)
    (a_words_place : PySem.W.findIn K (.ref cWords) "place" = some (some (.ref f_words_place)))
    (i_words_place : PySem.W.isFn K (.ref f_words_place) = true)
    (l_words_place : K.lookup f_words_place = some ⟨oc_words_place, od_words_place, .func (PySem.W.fnOf "place" "Words.place" (defArgs s_words_place) (defBody s_words_place) (defScope s_words_place) .none kV_words_place dc_words_place pm_words_place an_words_place cd_words_place ct_words_place), sl_words_place⟩)
    (c_words_place : PySem.W.codeIn K cd_words_place "Words.place" = true)
    (k_words_place : PySem.W.keepIn K (.ref f_words_place) = true)
    (a_words_word : PySem.W.findIn K (.ref cWords) "word" = some (some (.ref f_words_word)))
    (i_words_word : PySem.W.isFn K (.ref f_words_word) = true)
    (l_words_word : K.lookup f_words_word = some ⟨oc_words_word, od_words_word, .func (PySem.W.fnOf "word" "Words.word" (defArgs s_words_word) (defBody s_words_word) (defScope s_words_word) .none kV_words_word dc_words_word pm_words_word an_words_word cd_words_word ct_words_word), sl_words_word⟩)
    (c_words_word : PySem.W.codeIn K cd_words_word "Words.word" = true)
    (k_words_word : PySem.W.keepIn K (.ref f_words_word) = true)
    (a_words_sees : PySem.W.findIn K (.ref cWords) "sees" = some (some (.ref f_words_sees)))
    (i_words_sees : PySem.W.isFn K (.ref f_words_sees) = true)
    (l_words_sees : K.lookup f_words_sees = some ⟨oc_words_sees, od_words_sees, .func (PySem.W.fnOf "sees" "Words.sees" (defArgs s_words_sees) (defBody s_words_sees) (defScope s_words_sees) .none kV_words_sees dc_words_sees pm_words_sees an_words_sees cd_words_sees ct_words_sees), sl_words_sees⟩)
    (c_words_sees : PySem.W.codeIn K cd_words_sees "Words.sees" = true)
    (k_words_sees : PySem.W.keepIn K (.ref f_words_sees) = true)
    (a_words_choice : PySem.W.findIn K (.ref cWords) "choice" = some (some (.ref f_words_choice)))
    (i_words_choice : PySem.W.isFn K (.ref f_words_choice) = true)
    (l_words_choice : K.lookup f_words_choice = some ⟨oc_words_choice, od_words_choice, .func (PySem.W.fnOf "choice" "Words.choice" (defArgs s_words_choice) (defBody s_words_choice) (defScope s_words_choice) .none kV_words_choice dc_words_choice pm_words_choice an_words_choice cd_words_choice ct_words_choice), sl_words_choice⟩)
    (c_words_choice : PySem.W.codeIn K cd_words_choice "Words.choice" = true)
    (k_words_choice : PySem.W.keepIn K (.ref f_words_choice) = true)
    (a_words_runners : PySem.W.findIn K (.ref cWords) "runners" = some (some (.ref f_words_runners)))
    (i_words_runners : PySem.W.isFn K (.ref f_words_runners) = true)
    (l_words_runners : K.lookup f_words_runners = some ⟨oc_words_runners, od_words_runners, .func (PySem.W.fnOf "runners" "Words.runners" (defArgs s_words_runners) (defBody s_words_runners) (defScope s_words_runners) .none kV_words_runners dc_words_runners pm_words_runners an_words_runners cd_words_runners ct_words_runners), sl_words_runners⟩)
    (c_words_runners : PySem.W.codeIn K cd_words_runners "Words.runners" = true)
    (k_words_runners : PySem.W.keepIn K (.ref f_words_runners) = true)
    (a_words_end : PySem.W.findIn K (.ref cWords) "end" = some (some (.ref f_words_end)))
    (i_words_end : PySem.W.isFn K (.ref f_words_end) = true)
    (l_words_end : K.lookup f_words_end = some ⟨oc_words_end, od_words_end, .func (PySem.W.fnOf "end" "Words.end" (defArgs s_words_end) (defBody s_words_end) (defScope s_words_end) .none kV_words_end dc_words_end pm_words_end an_words_end cd_words_end ct_words_end), sl_words_end⟩)
    (c_words_end : PySem.W.codeIn K cd_words_end "Words.end" = true)
    (k_words_end : PySem.W.keepIn K (.ref f_words_end) = true)
    (a_need_outcomes : PySem.W.nsIn K mainGlobals "need_outcomes" = some (some (.ref f_need_outcomes)))
    (l_need_outcomes : K.lookup f_need_outcomes = some ⟨oc_need_outcomes, od_need_outcomes, .func (PySem.W.fnOf "need" "need" (defArgs s_need_outcomes) (defBody s_need_outcomes) (defScope s_need_outcomes) .none kV_need_outcomes dc_need_outcomes pm_need_outcomes an_need_outcomes cd_need_outcomes ct_need_outcomes), sl_need_outcomes⟩)
    (c_need_outcomes : PySem.W.codeIn K cd_need_outcomes "need" = true)
    (k_need_outcomes : PySem.W.keepIn K (.ref f_need_outcomes) = true)
    (a_ask_bytes : PySem.W.nsIn K mainGlobals "ask_bytes" = some (some (.ref f_ask_bytes)))
    (l_ask_bytes : K.lookup f_ask_bytes = some ⟨oc_ask_bytes, od_ask_bytes, .func (PySem.W.fnOf "ask_bytes" "ask_bytes" (defArgs s_ask_bytes) (defBody s_ask_bytes) (defScope s_ask_bytes) .none kV_ask_bytes dc_ask_bytes pm_ask_bytes an_ask_bytes cd_ask_bytes ct_ask_bytes), sl_ask_bytes⟩)
    (c_ask_bytes : PySem.W.codeIn K cd_ask_bytes "ask_bytes" = true)
    (k_ask_bytes : PySem.W.keepIn K (.ref f_ask_bytes) = true)
    (a_read_came : PySem.W.nsIn K mainGlobals "read_came" = some (some (.ref f_read_came)))
    (l_read_came : K.lookup f_read_came = some ⟨oc_read_came, od_read_came, .func (PySem.W.fnOf "read_came" "read_came" (defArgs s_read_came) (defBody s_read_came) (defScope s_read_came) .none kV_read_came dc_read_came pm_read_came an_read_came cd_read_came ct_read_came), sl_read_came⟩)
    (c_read_came : PySem.W.codeIn K cd_read_came "read_came" = true)
    (k_read_came : PySem.W.keepIn K (.ref f_read_came) = true)
    (a_read_line : PySem.W.nsIn K mainGlobals "read_line" = some (some (.ref f_read_line)))
    (l_read_line : K.lookup f_read_line = some ⟨oc_read_line, od_read_line, .func (PySem.W.fnOf "read_line" "read_line" (defArgs s_read_line) (defBody s_read_line) (defScope s_read_line) .none kV_read_line dc_read_line pm_read_line an_read_line cd_read_line ct_read_line), sl_read_line⟩)
    (c_read_line : PySem.W.codeIn K cd_read_line "read_line" = true)
    (k_read_line : PySem.W.keepIn K (.ref f_read_line) = true)
    (a_read_result : PySem.W.nsIn K mainGlobals "read_result" = some (some (.ref f_read_result)))
    (l_read_result : K.lookup f_read_result = some ⟨oc_read_result, od_read_result, .func (PySem.W.fnOf "read_result" "read_result" (defArgs s_read_result) (defBody s_read_result) (defScope s_read_result) .none kV_read_result dc_read_result pm_read_result an_read_result cd_read_result ct_read_result), sl_read_result⟩)
    (c_read_result : PySem.W.codeIn K cd_read_result "read_result" = true)
    (k_read_result : PySem.W.keepIn K (.ref f_read_result) = true)
    (a_answered : PySem.W.nsIn K mainGlobals "answered" = some (some (.ref f_answered)))
    (l_answered : K.lookup f_answered = some ⟨oc_answered, od_answered, .func (PySem.W.fnOf "answered" "answered" (defArgs s_answered) (defBody s_answered) (defScope s_answered) .none kV_answered dc_answered pm_answered an_answered cd_answered ct_answered), sl_answered⟩)
    (c_answered : PySem.W.codeIn K cd_answered "answered" = true)
    (k_answered : PySem.W.keepIn K (.ref f_answered) = true)
    (a_read_both : PySem.W.nsIn K mainGlobals "read_both" = some (some (.ref f_read_both)))
    (l_read_both : K.lookup f_read_both = some ⟨oc_read_both, od_read_both, .func (PySem.W.fnOf "read_both" "read_both" (defArgs s_read_both) (defBody s_read_both) (defScope s_read_both) .none kV_read_both dc_read_both pm_read_both an_read_both cd_read_both ct_read_both), sl_read_both⟩)
    (c_read_both : PySem.W.codeIn K cd_read_both "read_both" = true)
    (k_read_both : PySem.W.keepIn K (.ref f_read_both) = true)
    (a_judge : PySem.W.nsIn K mainGlobals "judge" = some (some (.ref f_judge)))
    (l_judge : K.lookup f_judge = some ⟨oc_judge, od_judge, .func (PySem.W.fnOf "judge" "judge" (defArgs s_judge) (defBody s_judge) (defScope s_judge) .none kV_judge dc_judge pm_judge an_judge cd_judge ct_judge), sl_judge⟩)
    (c_judge : PySem.W.codeIn K cd_judge "judge" = true)
    (k_judge : PySem.W.keepIn K (.ref f_judge) = true)
    (x_l : K.lookup cRefused = some (excClassObj xnm xq cRefused xN xbs [.type "ValueError", .type "Exception", .type "BaseException", .type "object"] true xsn xsub xab xcol xdd x0 x1 x2 x3 x5 "ValueError.__new__"))
    (x_sa : PySem.W.findIn K (.ref cRefused) "__setattr__" = some (some (.builtin "object.__setattr__")))
    (x_ga : PySem.W.findIn K (.ref cRefused) "__getattribute__" = some (some (.builtin "BaseException.__getattribute__")))
    (x_gg : PySem.W.findIn K (.ref cRefused) "__getattr__" = some none)
    (x_ex : PySem.W.subIn K (.ref cRefused) (.type "BaseException") = some true)
    (x_ty : PySem.W.typeIn K (.ref cRefused) = some (.type "type"))
    (x_kc : PySem.W.keepIn K (.ref cRefused) = true)
    (x_hd : PySem.W.hasDictIn K cRefused = true)
    (x_ic : PySem.W.isClsIn K cRefused = true)
    (x_ss : PySem.W.subIn K (.ref cRefused) (.ref cRefused) = some true)
    (x_ti : PySem.W.typeIn K (.ref f_refused_init) = some (.type "function")) : Nonempty (Tx K mg) := by
  refine ⟨{ cRefused := cRefused
                , cRace := cRace
                , cPool := cPool
                , cCard := cCard
                , cLine := cLine
                , cOutcome := cOutcome
                , cWords := cWords
                , f_refused_init := f_refused_init
                , d_refused_init := PySem.W.fnOf "__init__" "Refused.__init__" (defArgs s_refused_init) (defBody s_refused_init) (defScope s_refused_init) .none kV_refused_init dc_refused_init pm_refused_init an_refused_init cd_refused_init ct_refused_init
                , f_ask := f_ask
                , d_ask := PySem.W.fnOf "ask" "ask" (defArgs s_ask) (defBody s_ask) (defScope s_ask) .none kV_ask dc_ask pm_ask an_ask cd_ask ct_ask
                , f_spelled := f_spelled
                , d_spelled := PySem.W.fnOf "spelled" "spelled" (defArgs s_spelled) (defBody s_spelled) (defScope s_spelled) .none kV_spelled dc_spelled pm_spelled an_spelled cd_spelled ct_spelled
                , f_parted := f_parted
                , d_parted := PySem.W.fnOf "parted" "parted" (defArgs s_parted) (defBody s_parted) (defScope s_parted) .none kV_parted dc_parted pm_parted an_parted cd_parted ct_parted
                , f_is_small := f_is_small
                , d_is_small := PySem.W.fnOf "is_small" "is_small" (defArgs s_is_small) (defBody s_is_small) (defScope s_is_small) .none kV_is_small dc_is_small pm_is_small an_is_small cd_is_small ct_is_small
                , f_is_figure := f_is_figure
                , d_is_figure := PySem.W.fnOf "is_figure" "is_figure" (defArgs s_is_figure) (defBody s_is_figure) (defScope s_is_figure) .none kV_is_figure dc_is_figure pm_is_figure an_is_figure cd_is_figure ct_is_figure
                , f_is_name := f_is_name
                , d_is_name := PySem.W.fnOf "is_name" "is_name" (defArgs s_is_name) (defBody s_is_name) (defScope s_is_name) .none kV_is_name dc_is_name pm_is_name an_is_name cd_is_name ct_is_name
                , f_number_of := f_number_of
                , d_number_of := PySem.W.fnOf "number_of" "number_of" (defArgs s_number_of) (defBody s_number_of) (defScope s_number_of) .none kV_number_of dc_number_of pm_number_of an_number_of cd_number_of ct_number_of
                , f_race_init := f_race_init
                , d_race_init := PySem.W.fnOf "__init__" "Race.__init__" (defArgs s_race_init) (defBody s_race_init) (defScope s_race_init) .none kV_race_init dc_race_init pm_race_init an_race_init cd_race_init ct_race_init
                , f_race_all_interests := f_race_all_interests
                , d_race_all_interests := PySem.W.fnOf "all_interests" "Race.all_interests" (defArgs s_race_all_interests) (defBody s_race_all_interests) (defScope s_race_all_interests) .none kV_race_all_interests dc_race_all_interests pm_race_all_interests an_race_all_interests cd_race_all_interests ct_race_all_interests
                , f_race_couple := f_race_couple
                , d_race_couple := PySem.W.fnOf "couple" "Race.couple" (defArgs s_race_couple) (defBody s_race_couple) (defScope s_race_couple) .none kV_race_couple dc_race_couple pm_race_couple an_race_couple cd_race_couple ct_race_couple
                , f_pool_init := f_pool_init
                , d_pool_init := PySem.W.fnOf "__init__" "Pool.__init__" (defArgs s_pool_init) (defBody s_pool_init) (defScope s_pool_init) .none kV_pool_init dc_pool_init pm_pool_init an_pool_init cd_pool_init ct_pool_init
                , f_pool_its_races := f_pool_its_races
                , d_pool_its_races := PySem.W.fnOf "its_races" "Pool.its_races" (defArgs s_pool_its_races) (defBody s_pool_its_races) (defScope s_pool_its_races) .none kV_pool_its_races dc_pool_its_races pm_pool_its_races an_pool_its_races cd_pool_its_races ct_pool_its_races
                , f_card_init := f_card_init
                , d_card_init := PySem.W.fnOf "__init__" "Card.__init__" (defArgs s_card_init) (defBody s_card_init) (defScope s_card_init) .none kV_card_init dc_card_init pm_card_init an_card_init cd_card_init ct_card_init
                , f_card_race_at := f_card_race_at
                , d_card_race_at := PySem.W.fnOf "race_at" "Card.race_at" (defArgs s_card_race_at) (defBody s_card_race_at) (defScope s_card_race_at) .none kV_card_race_at dc_card_race_at pm_card_race_at an_card_race_at cd_card_race_at ct_card_race_at
                , f_line_init := f_line_init
                , d_line_init := PySem.W.fnOf "__init__" "Line.__init__" (defArgs s_line_init) (defBody s_line_init) (defScope s_line_init) .none kV_line_init dc_line_init pm_line_init an_line_init cd_line_init ct_line_init
                , f_line_has_more := f_line_has_more
                , d_line_has_more := PySem.W.fnOf "has_more" "Line.has_more" (defArgs s_line_has_more) (defBody s_line_has_more) (defScope s_line_has_more) .none kV_line_has_more dc_line_has_more pm_line_has_more an_line_has_more cd_line_has_more ct_line_has_more
                , f_line_word := f_line_word
                , d_line_word := PySem.W.fnOf "word" "Line.word" (defArgs s_line_word) (defBody s_line_word) (defScope s_line_word) .none kV_line_word dc_line_word pm_line_word an_line_word cd_line_word ct_line_word
                , f_line_must := f_line_must
                , d_line_must := PySem.W.fnOf "must" "Line.must" (defArgs s_line_must) (defBody s_line_must) (defScope s_line_must) .none kV_line_must dc_line_must pm_line_must an_line_must cd_line_must ct_line_must
                , f_line_number := f_line_number
                , d_line_number := PySem.W.fnOf "number" "Line.number" (defArgs s_line_number) (defBody s_line_number) (defScope s_line_number) .none kV_line_number dc_line_number pm_line_number an_line_number cd_line_number ct_line_number
                , f_line_choice := f_line_choice
                , d_line_choice := PySem.W.fnOf "choice" "Line.choice" (defArgs s_line_choice) (defBody s_line_choice) (defScope s_line_choice) .none kV_line_choice dc_line_choice pm_line_choice an_line_choice cd_line_choice ct_line_choice
                , f_line_end := f_line_end
                , d_line_end := PySem.W.fnOf "end" "Line.end" (defArgs s_line_end) (defBody s_line_end) (defScope s_line_end) .none kV_line_end dc_line_end pm_line_end an_line_end cd_line_end ct_line_end
                , f_need_cards := f_need_cards
                , d_need_cards := PySem.W.fnOf "need" "need" (defArgs s_need_cards) (defBody s_need_cards) (defScope s_need_cards) .none kV_need_cards dc_need_cards pm_need_cards an_need_cards cd_need_cards ct_need_cards
                , f_read_race := f_read_race
                , d_read_race := PySem.W.fnOf "read_race" "read_race" (defArgs s_read_race) (defBody s_read_race) (defScope s_read_race) .none kV_read_race dc_read_race pm_read_race an_read_race cd_read_race ct_read_race
                , f_read_pool := f_read_pool
                , d_read_pool := PySem.W.fnOf "read_pool" "read_pool" (defArgs s_read_pool) (defBody s_read_pool) (defScope s_read_pool) .none kV_read_pool dc_read_pool pm_read_pool an_read_pool cd_read_pool ct_read_pool
                , f_read_terms := f_read_terms
                , d_read_terms := PySem.W.fnOf "read_terms" "read_terms" (defArgs s_read_terms) (defBody s_read_terms) (defScope s_read_terms) .none kV_read_terms dc_read_terms pm_read_terms an_read_terms cd_read_terms ct_read_terms
                , f_read_day := f_read_day
                , d_read_day := PySem.W.fnOf "read_day" "read_day" (defArgs s_read_day) (defBody s_read_day) (defScope s_read_day) .none kV_read_day dc_read_day pm_read_day an_read_day cd_read_day ct_read_day
                , f_read_card := f_read_card
                , d_read_card := PySem.W.fnOf "read_card" "read_card" (defArgs s_read_card) (defBody s_read_card) (defScope s_read_card) .none kV_read_card dc_read_card pm_read_card an_read_card cd_read_card ct_read_card
                , f_outcome_init := f_outcome_init
                , d_outcome_init := PySem.W.fnOf "__init__" "Outcome.__init__" (defArgs s_outcome_init) (defBody s_outcome_init) (defScope s_outcome_init) .none kV_outcome_init dc_outcome_init pm_outcome_init an_outcome_init cd_outcome_init ct_outcome_init
                , f_words_init := f_words_init
                , d_words_init := PySem.W.fnOf "__init__" "Words.__init__" (defArgs s_words_init) (defBody s_words_init) (defScope s_words_init) .none kV_words_init dc_words_init pm_words_init an_words_init cd_words_init ct_words_init
                , f_words_has_more := f_words_has_more
                , d_words_has_more := PySem.W.fnOf "has_more" "Words.has_more" (defArgs s_words_has_more) (defBody s_words_has_more) (defScope s_words_has_more) .none kV_words_has_more dc_words_has_more pm_words_has_more an_words_has_more cd_words_has_more ct_words_has_more
                , f_words_place := f_words_place
                , d_words_place := PySem.W.fnOf "place" "Words.place" (defArgs s_words_place) (defBody s_words_place) (defScope s_words_place) .none kV_words_place dc_words_place pm_words_place an_words_place cd_words_place ct_words_place
                , f_words_word := f_words_word
                , d_words_word := PySem.W.fnOf "word" "Words.word" (defArgs s_words_word) (defBody s_words_word) (defScope s_words_word) .none kV_words_word dc_words_word pm_words_word an_words_word cd_words_word ct_words_word
                , f_words_sees := f_words_sees
                , d_words_sees := PySem.W.fnOf "sees" "Words.sees" (defArgs s_words_sees) (defBody s_words_sees) (defScope s_words_sees) .none kV_words_sees dc_words_sees pm_words_sees an_words_sees cd_words_sees ct_words_sees
                , f_words_choice := f_words_choice
                , d_words_choice := PySem.W.fnOf "choice" "Words.choice" (defArgs s_words_choice) (defBody s_words_choice) (defScope s_words_choice) .none kV_words_choice dc_words_choice pm_words_choice an_words_choice cd_words_choice ct_words_choice
                , f_words_runners := f_words_runners
                , d_words_runners := PySem.W.fnOf "runners" "Words.runners" (defArgs s_words_runners) (defBody s_words_runners) (defScope s_words_runners) .none kV_words_runners dc_words_runners pm_words_runners an_words_runners cd_words_runners ct_words_runners
                , f_words_end := f_words_end
                , d_words_end := PySem.W.fnOf "end" "Words.end" (defArgs s_words_end) (defBody s_words_end) (defScope s_words_end) .none kV_words_end dc_words_end pm_words_end an_words_end cd_words_end ct_words_end
                , f_need_outcomes := f_need_outcomes
                , d_need_outcomes := PySem.W.fnOf "need" "need" (defArgs s_need_outcomes) (defBody s_need_outcomes) (defScope s_need_outcomes) .none kV_need_outcomes dc_need_outcomes pm_need_outcomes an_need_outcomes cd_need_outcomes ct_need_outcomes
                , f_ask_bytes := f_ask_bytes
                , d_ask_bytes := PySem.W.fnOf "ask_bytes" "ask_bytes" (defArgs s_ask_bytes) (defBody s_ask_bytes) (defScope s_ask_bytes) .none kV_ask_bytes dc_ask_bytes pm_ask_bytes an_ask_bytes cd_ask_bytes ct_ask_bytes
                , f_read_came := f_read_came
                , d_read_came := PySem.W.fnOf "read_came" "read_came" (defArgs s_read_came) (defBody s_read_came) (defScope s_read_came) .none kV_read_came dc_read_came pm_read_came an_read_came cd_read_came ct_read_came
                , f_read_line := f_read_line
                , d_read_line := PySem.W.fnOf "read_line" "read_line" (defArgs s_read_line) (defBody s_read_line) (defScope s_read_line) .none kV_read_line dc_read_line pm_read_line an_read_line cd_read_line ct_read_line
                , f_read_result := f_read_result
                , d_read_result := PySem.W.fnOf "read_result" "read_result" (defArgs s_read_result) (defBody s_read_result) (defScope s_read_result) .none kV_read_result dc_read_result pm_read_result an_read_result cd_read_result ct_read_result
                , f_answered := f_answered
                , d_answered := PySem.W.fnOf "answered" "answered" (defArgs s_answered) (defBody s_answered) (defScope s_answered) .none kV_answered dc_answered pm_answered an_answered cd_answered ct_answered
                , f_read_both := f_read_both
                , d_read_both := PySem.W.fnOf "read_both" "read_both" (defArgs s_read_both) (defBody s_read_both) (defScope s_read_both) .none kV_read_both dc_read_both pm_read_both an_read_both cd_read_both ct_read_both
                , f_judge := f_judge
                , d_judge := PySem.W.fnOf "judge" "judge" (defArgs s_judge) (defBody s_judge) (defScope s_judge) .none kV_judge dc_judge pm_judge an_judge cd_judge ct_judge
                , a_KINDS := a_KINDS
                , a_LEAST_K := a_LEAST_K
                , a_MOST_K := a_MOST_K
                , a_NONES := a_NONES
                , z_len := PySem.W.mg_none_of X G z_len
                , z_range := PySem.W.mg_none_of X G z_range
                , z_tuple := PySem.W.mg_none_of X G z_tuple
                , z_all := PySem.W.mg_none_of X G z_all
                , z_enumerate := PySem.W.mg_none_of X G z_enumerate
                , z_zip := PySem.W.mg_none_of X G z_zip
                , z_list := PySem.W.mg_none_of X G z_list
                , z_ord := PySem.W.mg_none_of X G z_ord
                , g_NEWLINE := ⟨_, PySem.W.mg_of X G g_NEWLINE⟩
                , g_BLANK := ⟨_, PySem.W.mg_of X G g_BLANK⟩
                , g_LAST_SIGN := ⟨_, PySem.W.mg_of X G g_LAST_SIGN⟩
                , g_LONGEST_TEXT := ⟨_, PySem.W.mg_of X G g_LONGEST_TEXT⟩
                , g_LONGEST_NAME := ⟨_, PySem.W.mg_of X G g_LONGEST_NAME⟩
                , g_NO_CARD := ⟨_, PySem.W.mg_of X G g_NO_CARD⟩
                , g_TOO_LONG := ⟨_, PySem.W.mg_of X G g_TOO_LONG⟩
                , g_FAULTY := ⟨_, PySem.W.mg_of X G g_FAULTY⟩
                , g_MOST_RACES := ⟨_, PySem.W.mg_of X G g_MOST_RACES⟩
                , g_MOST_POOLS := ⟨_, PySem.W.mg_of X G g_MOST_POOLS⟩
                , g_MOST_COUPLES := ⟨_, PySem.W.mg_of X G g_MOST_COUPLES⟩
                , g_PLACE := ⟨_, PySem.W.mg_of X G g_PLACE⟩
                , g_LEGS := ⟨_, PySem.W.mg_of X G g_LEGS⟩
                , g_NOT_ENDED := ⟨_, PySem.W.mg_of X G g_NOT_ENDED⟩
                , g_BAD_BYTE := ⟨_, PySem.W.mg_of X G g_BAD_BYTE⟩
                , g_BAD_WORD := ⟨_, PySem.W.mg_of X G g_BAD_WORD⟩
                , g_BAD_NUMBER := ⟨_, PySem.W.mg_of X G g_BAD_NUMBER⟩
                , g_EQUAL := ⟨_, PySem.W.mg_of X G g_EQUAL⟩
                , g_COMMA := ⟨_, PySem.W.mg_of X G g_COMMA⟩
                , g_CAME := ⟨_, PySem.W.mg_of X G g_CAME⟩
                , g_VOID := ⟨_, PySem.W.mg_of X G g_VOID⟩
                , g_KINDS := PySem.W.mg_of X G g_KINDS
                , t_KINDS := tupK_of l_KINDS (by show 4 ≤ 100; decide) (.cons ⟨_, rfl⟩ (.cons ⟨_, rfl⟩ (.cons ⟨_, rfl⟩ (.cons ⟨_, rfl⟩ (.nil)))))
                , g_LEAST_K := PySem.W.mg_of X G g_LEAST_K
                , t_LEAST_K := tupK_of l_LEAST_K (by show 4 ≤ 100; decide) (.cons ⟨_, rfl⟩ (.cons ⟨_, rfl⟩ (.cons ⟨_, rfl⟩ (.cons ⟨_, rfl⟩ (.nil)))))
                , g_MOST_K := PySem.W.mg_of X G g_MOST_K
                , t_MOST_K := tupK_of l_MOST_K (by show 4 ≤ 100; decide) (.cons ⟨_, rfl⟩ (.cons ⟨_, rfl⟩ (.cons ⟨_, rfl⟩ (.cons ⟨_, rfl⟩ (.nil)))))
                , g_NONES := PySem.W.mg_of X G g_NONES
                , t_NONES := tupK_of l_NONES (by show 3 ≤ 100; decide) (.cons ⟨_, rfl⟩ (.cons ⟨_, rfl⟩ (.cons ⟨_, rfl⟩ (.nil))))
                , g_cRefused := PySem.W.mg_of X G g_cRefused
                , n_Refused_told := n_Refused_told
                , g_cRace := PySem.W.mg_of X G g_cRace
                , k_cRace := ⟨pg_Race, hd_Race, po_Race, sa_Race⟩
                , n_Race_many := n_Race_many
                , n_Race_heads_of := n_Race_heads_of
                , g_cPool := PySem.W.mg_of X G g_cPool
                , k_cPool := ⟨pg_Pool, hd_Pool, po_Pool, sa_Pool⟩
                , n_Pool_kind := n_Pool_kind
                , n_Pool_many := n_Pool_many
                , n_Pool_race := n_Pool_race
                , g_cCard := PySem.W.mg_of X G g_cCard
                , k_cCard := ⟨pg_Card, hd_Card, po_Card, sa_Card⟩
                , n_Card_races := n_Card_races
                , n_Card_pools := n_Card_pools
                , n_Card_names := n_Card_names
                , g_cLine := PySem.W.mg_of X G g_cLine
                , k_cLine := ⟨pg_Line, hd_Line, po_Line, sa_Line⟩
                , n_Line_words := n_Line_words
                , n_Line_at := n_Line_at
                , g_cOutcome := PySem.W.mg_of X G g_cOutcome
                , k_cOutcome := ⟨pg_Outcome, hd_Outcome, po_Outcome, sa_Outcome⟩
                , n_Outcome_state := n_Outcome_state
                , n_Outcome_groups := n_Outcome_groups
                , n_Outcome_out := n_Outcome_out
                , g_cWords := PySem.W.mg_of X G g_cWords
                , k_cWords := ⟨pg_Words, hd_Words, po_Words, sa_Words⟩
                , n_Words_words := n_Words_words
                , n_Words_places := n_Words_places
                , n_Words_ending := n_Words_ending
                , n_Words_at := n_Words_at
                , n_Words_told := n_Words_told
                , refused_init := ⟨fun_mk l_refused_init c_refused_init k_refused_init, (fun_mk (st := s_refused_init) l_refused_init c_refused_init k_refused_init).binds fun _ _ _ _ _ _ us hl => match us, hl with | [_, _], _ => rfl⟩
                , ask := ⟨PySem.W.mg_of X G a_ask, ⟨fun_mk l_ask c_ask k_ask, (fun_mk (st := s_ask) l_ask c_ask k_ask).binds fun _ _ _ _ _ _ us hl => match us, hl with | [_, _], _ => rfl⟩⟩
                , spelled := ⟨PySem.W.mg_of X G a_spelled, ⟨fun_mk l_spelled c_spelled k_spelled, (fun_mk (st := s_spelled) l_spelled c_spelled k_spelled).binds fun _ _ _ _ _ _ us hl => match us, hl with | [_], _ => rfl⟩⟩
                , parted := ⟨PySem.W.mg_of X G a_parted, ⟨fun_mk l_parted c_parted k_parted, (fun_mk (st := s_parted) l_parted c_parted k_parted).binds fun _ _ _ _ _ _ us hl => match us, hl with | [_, _], _ => rfl⟩⟩
                , is_small := ⟨PySem.W.mg_of X G a_is_small, ⟨fun_mk l_is_small c_is_small k_is_small, (fun_mk (st := s_is_small) l_is_small c_is_small k_is_small).binds fun _ _ _ _ _ _ us hl => match us, hl with | [_], _ => rfl⟩⟩
                , is_figure := ⟨PySem.W.mg_of X G a_is_figure, ⟨fun_mk l_is_figure c_is_figure k_is_figure, (fun_mk (st := s_is_figure) l_is_figure c_is_figure k_is_figure).binds fun _ _ _ _ _ _ us hl => match us, hl with | [_], _ => rfl⟩⟩
                , is_name := ⟨PySem.W.mg_of X G a_is_name, ⟨fun_mk l_is_name c_is_name k_is_name, (fun_mk (st := s_is_name) l_is_name c_is_name k_is_name).binds fun _ _ _ _ _ _ us hl => match us, hl with | [_], _ => rfl⟩⟩
                , number_of := ⟨PySem.W.mg_of X G a_number_of, ⟨fun_mk l_number_of c_number_of k_number_of, (fun_mk (st := s_number_of) l_number_of c_number_of k_number_of).binds fun _ _ _ _ _ _ us hl => match us, hl with | [_], _ => rfl⟩⟩
                , race_init := ⟨fun_mk l_race_init c_race_init k_race_init, (fun_mk (st := s_race_init) l_race_init c_race_init k_race_init).binds fun _ _ _ _ _ _ us hl => match us, hl with | [_, _], _ => rfl⟩
                , mk_Race := ⟨mk_Race, a_race_init, i_race_init, kc_Race⟩
                , race_all_interests := ⟨fun_mk l_race_all_interests c_race_all_interests k_race_all_interests, (fun_mk (st := s_race_all_interests) l_race_all_interests c_race_all_interests k_race_all_interests).binds fun _ _ _ _ _ _ us hl => match us, hl with | [_], _ => rfl⟩
                , m_race_all_interests := ⟨a_race_all_interests, i_race_all_interests, k_race_all_interests⟩
                , race_couple := ⟨fun_mk l_race_couple c_race_couple k_race_couple, (fun_mk (st := s_race_couple) l_race_couple c_race_couple k_race_couple).binds fun _ _ _ _ _ _ us hl => match us, hl with | [_, _, _], _ => rfl⟩
                , m_race_couple := ⟨a_race_couple, i_race_couple, k_race_couple⟩
                , pool_init := ⟨fun_mk l_pool_init c_pool_init k_pool_init, (fun_mk (st := s_pool_init) l_pool_init c_pool_init k_pool_init).binds fun _ _ _ _ _ _ us hl => match us, hl with | [_, _, _, _], _ => rfl⟩
                , mk_Pool := ⟨mk_Pool, a_pool_init, i_pool_init, kc_Pool⟩
                , pool_its_races := ⟨fun_mk l_pool_its_races c_pool_its_races k_pool_its_races, (fun_mk (st := s_pool_its_races) l_pool_its_races c_pool_its_races k_pool_its_races).binds fun _ _ _ _ _ _ us hl => match us, hl with | [_], _ => rfl⟩
                , m_pool_its_races := ⟨a_pool_its_races, i_pool_its_races, k_pool_its_races⟩
                , card_init := ⟨fun_mk l_card_init c_card_init k_card_init, (fun_mk (st := s_card_init) l_card_init c_card_init k_card_init).binds fun _ _ _ _ _ _ us hl => match us, hl with | [_], _ => rfl⟩
                , mk_Card := ⟨mk_Card, a_card_init, i_card_init, kc_Card⟩
                , card_race_at := ⟨fun_mk l_card_race_at c_card_race_at k_card_race_at, (fun_mk (st := s_card_race_at) l_card_race_at c_card_race_at k_card_race_at).binds fun _ _ _ _ _ _ us hl => match us, hl with | [_, _], _ => rfl⟩
                , m_card_race_at := ⟨a_card_race_at, i_card_race_at, k_card_race_at⟩
                , line_init := ⟨fun_mk l_line_init c_line_init k_line_init, (fun_mk (st := s_line_init) l_line_init c_line_init k_line_init).binds fun _ _ _ _ _ _ us hl => match us, hl with | [_, _], _ => rfl⟩
                , mk_Line := ⟨mk_Line, a_line_init, i_line_init, kc_Line⟩
                , line_has_more := ⟨fun_mk l_line_has_more c_line_has_more k_line_has_more, (fun_mk (st := s_line_has_more) l_line_has_more c_line_has_more k_line_has_more).binds fun _ _ _ _ _ _ us hl => match us, hl with | [_], _ => rfl⟩
                , m_line_has_more := ⟨a_line_has_more, i_line_has_more, k_line_has_more⟩
                , line_word := ⟨fun_mk l_line_word c_line_word k_line_word, (fun_mk (st := s_line_word) l_line_word c_line_word k_line_word).binds fun _ _ _ _ _ _ us hl => match us, hl with | [_], _ => rfl⟩
                , m_line_word := ⟨a_line_word, i_line_word, k_line_word⟩
                , line_must := ⟨fun_mk l_line_must c_line_must k_line_must, (fun_mk (st := s_line_must) l_line_must c_line_must k_line_must).binds fun _ _ _ _ _ _ us hl => match us, hl with | [_, _], _ => rfl⟩
                , m_line_must := ⟨a_line_must, i_line_must, k_line_must⟩
                , line_number := ⟨fun_mk l_line_number c_line_number k_line_number, (fun_mk (st := s_line_number) l_line_number c_line_number k_line_number).binds fun _ _ _ _ _ _ us hl => match us, hl with | [_, _, _], _ => rfl⟩
                , m_line_number := ⟨a_line_number, i_line_number, k_line_number⟩
                , line_choice := ⟨fun_mk l_line_choice c_line_choice k_line_choice, (fun_mk (st := s_line_choice) l_line_choice c_line_choice k_line_choice).binds fun _ _ _ _ _ _ us hl => match us, hl with | [_, _], _ => rfl⟩
                , m_line_choice := ⟨a_line_choice, i_line_choice, k_line_choice⟩
                , line_end := ⟨fun_mk l_line_end c_line_end k_line_end, (fun_mk (st := s_line_end) l_line_end c_line_end k_line_end).binds fun _ _ _ _ _ _ us hl => match us, hl with | [_], _ => rfl⟩
                , m_line_end := ⟨a_line_end, i_line_end, k_line_end⟩
                , need_cards := ⟨PySem.W.mg_of X G a_need_cards, ⟨fun_mk l_need_cards c_need_cards k_need_cards, (fun_mk (st := s_need_cards) l_need_cards c_need_cards k_need_cards).binds fun _ _ _ _ _ _ us hl => match us, hl with | [_], _ => rfl⟩⟩
                , read_race := ⟨PySem.W.mg_of X G a_read_race, ⟨fun_mk l_read_race c_read_race k_read_race, (fun_mk (st := s_read_race) l_read_race c_read_race k_read_race).binds fun _ _ _ _ _ _ us hl => match us, hl with | [_, _], _ => rfl⟩⟩
                , read_pool := ⟨PySem.W.mg_of X G a_read_pool, ⟨fun_mk l_read_pool c_read_pool k_read_pool, (fun_mk (st := s_read_pool) l_read_pool c_read_pool k_read_pool).binds fun _ _ _ _ _ _ us hl => match us, hl with | [_, _], _ => rfl⟩⟩
                , read_terms := ⟨PySem.W.mg_of X G a_read_terms, ⟨fun_mk l_read_terms c_read_terms k_read_terms, (fun_mk (st := s_read_terms) l_read_terms c_read_terms k_read_terms).binds fun _ _ _ _ _ _ us hl => match us, hl with | [_, _], _ => rfl⟩⟩
                , read_day := ⟨PySem.W.mg_of X G a_read_day, ⟨fun_mk l_read_day c_read_day k_read_day, (fun_mk (st := s_read_day) l_read_day c_read_day k_read_day).binds fun _ _ _ _ _ _ us hl => match us, hl with | [_], _ => rfl⟩⟩
                , read_card := ⟨PySem.W.mg_of X G a_read_card, ⟨fun_mk l_read_card c_read_card k_read_card, (fun_mk (st := s_read_card) l_read_card c_read_card k_read_card).binds fun _ _ _ _ _ _ us hl => match us, hl with | [_], _ => rfl⟩⟩
                , outcome_init := ⟨fun_mk l_outcome_init c_outcome_init k_outcome_init, (fun_mk (st := s_outcome_init) l_outcome_init c_outcome_init k_outcome_init).binds fun _ _ _ _ _ _ us hl => match us, hl with | [_, _], _ => rfl⟩
                , mk_Outcome := ⟨mk_Outcome, a_outcome_init, i_outcome_init, kc_Outcome⟩
                , words_init := ⟨fun_mk l_words_init c_words_init k_words_init, (fun_mk (st := s_words_init) l_words_init c_words_init k_words_init).binds fun _ _ _ _ _ _ us hl => match us, hl with | [_, _, _], _ => rfl⟩
                , mk_Words := ⟨mk_Words, a_words_init, i_words_init, kc_Words⟩
                , words_has_more := ⟨fun_mk l_words_has_more c_words_has_more k_words_has_more, (fun_mk (st := s_words_has_more) l_words_has_more c_words_has_more k_words_has_more).binds fun _ _ _ _ _ _ us hl => match us, hl with | [_], _ => rfl⟩
                , m_words_has_more := ⟨a_words_has_more, i_words_has_more, k_words_has_more⟩
                , words_place := ⟨fun_mk l_words_place c_words_place k_words_place, (fun_mk (st := s_words_place) l_words_place c_words_place k_words_place).binds fun _ _ _ _ _ _ us hl => match us, hl with | [_], _ => rfl⟩
                , m_words_place := ⟨a_words_place, i_words_place, k_words_place⟩
                , words_word := ⟨fun_mk l_words_word c_words_word k_words_word, (fun_mk (st := s_words_word) l_words_word c_words_word k_words_word).binds fun _ _ _ _ _ _ us hl => match us, hl with | [_], _ => rfl⟩
                , m_words_word := ⟨a_words_word, i_words_word, k_words_word⟩
                , words_sees := ⟨fun_mk l_words_sees c_words_sees k_words_sees, (fun_mk (st := s_words_sees) l_words_sees c_words_sees k_words_sees).binds fun _ _ _ _ _ _ us hl => match us, hl with | [_, _], _ => rfl⟩
                , m_words_sees := ⟨a_words_sees, i_words_sees, k_words_sees⟩
                , words_choice := ⟨fun_mk l_words_choice c_words_choice k_words_choice, (fun_mk (st := s_words_choice) l_words_choice c_words_choice k_words_choice).binds fun _ _ _ _ _ _ us hl => match us, hl with | [_, _], _ => rfl⟩
                , m_words_choice := ⟨a_words_choice, i_words_choice, k_words_choice⟩
                , words_runners := ⟨fun_mk l_words_runners c_words_runners k_words_runners, (fun_mk (st := s_words_runners) l_words_runners c_words_runners k_words_runners).binds fun _ _ _ _ _ _ us hl => match us, hl with | [_, _, _], _ => rfl⟩
                , m_words_runners := ⟨a_words_runners, i_words_runners, k_words_runners⟩
                , words_end := ⟨fun_mk l_words_end c_words_end k_words_end, (fun_mk (st := s_words_end) l_words_end c_words_end k_words_end).binds fun _ _ _ _ _ _ us hl => match us, hl with | [_], _ => rfl⟩
                , m_words_end := ⟨a_words_end, i_words_end, k_words_end⟩
                , need_outcomes := ⟨PySem.W.mg_of X G a_need_outcomes, ⟨fun_mk l_need_outcomes c_need_outcomes k_need_outcomes, (fun_mk (st := s_need_outcomes) l_need_outcomes c_need_outcomes k_need_outcomes).binds fun _ _ _ _ _ _ us hl => match us, hl with | [_, _, _], _ => rfl⟩⟩
                , ask_bytes := ⟨PySem.W.mg_of X G a_ask_bytes, ⟨fun_mk l_ask_bytes c_ask_bytes k_ask_bytes, (fun_mk (st := s_ask_bytes) l_ask_bytes c_ask_bytes k_ask_bytes).binds fun _ _ _ _ _ _ us hl => match us, hl with | [_, _], _ => rfl⟩⟩
                , read_came := ⟨PySem.W.mg_of X G a_read_came, ⟨fun_mk l_read_came c_read_came k_read_came, (fun_mk (st := s_read_came) l_read_came c_read_came k_read_came).binds fun _ _ _ _ _ _ us hl => match us, hl with | [_, _], _ => rfl⟩⟩
                , read_line := ⟨PySem.W.mg_of X G a_read_line, ⟨fun_mk l_read_line c_read_line k_read_line, (fun_mk (st := s_read_line) l_read_line c_read_line k_read_line).binds fun _ _ _ _ _ _ us hl => match us, hl with | [_, _, _], _ => rfl⟩⟩
                , read_result := ⟨PySem.W.mg_of X G a_read_result, ⟨fun_mk l_read_result c_read_result k_read_result, (fun_mk (st := s_read_result) l_read_result c_read_result k_read_result).binds fun _ _ _ _ _ _ us hl => match us, hl with | [_, _], _ => rfl⟩⟩
                , answered := ⟨PySem.W.mg_of X G a_answered, ⟨fun_mk l_answered c_answered k_answered, (fun_mk (st := s_answered) l_answered c_answered k_answered).binds fun _ _ _ _ _ _ us hl => match us, hl with | [_], _ => rfl⟩⟩
                , read_both := ⟨PySem.W.mg_of X G a_read_both, ⟨fun_mk l_read_both c_read_both k_read_both, (fun_mk (st := s_read_both) l_read_both c_read_both k_read_both).binds fun _ _ _ _ _ _ us hl => match us, hl with | [_, _], _ => rfl⟩⟩
                , judge := ⟨PySem.W.mg_of X G a_judge, ⟨fun_mk l_judge c_judge k_judge, (fun_mk (st := s_judge) l_judge c_judge k_judge).binds fun _ _ _ _ _ _ us hl => match us, hl with | [_, _], _ => rfl⟩⟩
                , ref_ox := ⟨⟨_, _, _, _, _, _, _, _, _, _, _, _, _, _, _, x_l, by decide +kernel⟩, x_sa, x_ex, x_ty, x_kc⟩
                , ref_iC := a_refused_init
                , ref_tI := x_ti
                , ref_xf := ⟨x_ga, x_gg, x_ex, x_hd⟩
                , ref_te := exm_self x_ex x_ic x_ty x_ss
    }⟩
end RR
namespace RR
open PySem PySem.Spec PyProof.Rows L2
/-! ### heaps -/
/-- tuples stay -/
def TS (H H' : Hp) : Prop := ∀ a xs, H a = some (.tup xs) → H' a = some (.tup xs)
theorem TS.refl (H : Hp) : TS H H := fun _ _ h => h
theorem TS.trans {H H1 H2 : Hp} (a : TS H H1) (b : TS H1 H2) : TS H H2 := fun x xs h => b x xs (a x xs h)
theorem TS.new {H : Hp} {p : Addr} {o : HO} (h : H p = none) : TS H (upd H p o) := fun a xs e => by rw [upd_ne (ne_of_none e h)]; exact e
theorem TS.of {H H' : Hp} (s : Same H H') : TS H H' := fun a _ e => s a _ e
theorem TS.lst {H : Hp} {p : Addr} {o : HO} {ys : List V} (h : H p = some (.lst ys)) : TS H (upd H p o) := fun a xs e => by
  rw [upd_ne (ne_of e h (fun z => by cases z))]; exact e
/-- all but what stands at a stays -/
def Off (a : Addr) (H H' : Hp) : Prop := ∀ b o, H b = some o → b ≠ a → H' b = some o
theorem Off.of {H H' : Hp} {a : Addr} (s : Same H H') : Off a H H' := fun b o h _ => s b o h
theorem Off.trans {a : Addr} {H H1 H2 : Hp} (x : Off a H H1) (y : Off a H1 H2) : Off a H H2 := fun b o h n => y b o (x b o h n) n
theorem Off.upd {a : Addr} {H : Hp} {o : HO} : Off a H (upd H a o) := fun b u h n => by rw [upd_ne n]; exact h
theorem Off.ts {a : Addr} {H H' : Hp} {o : HO} (x : Off a H H') (h : H a = some o) (n : ∀ xs, o ≠ .tup xs) : TS H H' := fun b xs e => x b _ e (fun z => by
  rw [z, h] at e; exact n xs (Option.some.inj e))
theorem Same.new {H : Hp} {p : Addr} {o : HO} (h : H p = none) : Same H (upd H p o) := fun a u e => by rw [upd_ne (ne_of_none e h)]; exact e
/-- what is new to H may change -/
theorem Same.mut {H H' : Hp} {p : Addr} {o : HO} (s : Same H H') (h : H p = none) : Same H (upd H' p o) := fun a u e => by rw [upd_ne (ne_of_none e h)]; exact s a u e
theorem fresh_of {H H' : Hp} {p : Addr} (s : Same H H') (h : H' p = none) : H p = none := s.free h
/-! ### words -/
abbrev W := MR.W
def wv (w : W) : List V := w.map V.int
theorem wv_len (w : W) : (wv w).length = w.length := List.length_map _
theorem wv_at {w : W} {i : Nat} {c : Int} (h : w[i]? = some c) : (wv w)[i]? = some (.int c) := by unfold wv; rw [List.getElem?_map, h]; rfl
def WAt (H : Hp) (a : Addr) (w : W) : Prop := H a = some (.tup (wv w))
theorem WAt.ts {H H' : Hp} {a : Addr} {w : W} (t : TS H H') (h : WAt H a w) : WAt H' a w := t a _ h
abbrev WsAt (H : Hp) (as : List Addr) (ws : List W) : Prop := Paired (WAt H) as ws
theorem WsAt.ts {H H' : Hp} (t : TS H H') : ∀ {as : List Addr} {ws : List W}, WsAt H as ws → WsAt H' as ws
  | _, _, .nil => .nil
  | _, _, .cons h r => .cons (h.ts t) (WsAt.ts t r)
theorem Paired.get {α β : Type} {F : α → β → Prop} : ∀ {l : List α} {m : List β} {i : Nat} {y : β}, Paired F l m → m[i]? = some y → ∃ x, l[i]? = some x ∧ F x y
  | _, _, _, _, .nil, h => by simp at h
  | _, _, 0, y, .cons (a := a) f _, h => by
    cases Option.some.inj h
    exact ⟨a, rfl, f⟩
  | _, _, i + 1, y, .cons (l₁ := l) (l₂ := m) f r, h => by
    obtain ⟨x, h1, h2⟩ := Paired.get (l := l) (m := m) (i := i) (y := y) r (by simpa using h)
    exact ⟨x, by simpa using h1, h2⟩
theorem Paired.get' {α β : Type} {F : α → β → Prop} : ∀ {l : List α} {m : List β} {i : Nat} {x : α}, Paired F l m → l[i]? = some x → ∃ y, m[i]? = some y ∧ F x y
  | _, _, _, _, .nil, h => by simp at h
  | _, _, 0, x, .cons (b := b) f _, h => by
    cases Option.some.inj h
    exact ⟨b, rfl, f⟩
  | _, _, i + 1, x, .cons (l₁ := l) (l₂ := m) f r, h => by
    obtain ⟨y, h1, h2⟩ := Paired.get' (l := l) (m := m) (i := i) (x := x) r (by simpa using h)
    exact ⟨y, by simpa using h1, h2⟩
theorem Paired.len {α β : Type} {F : α → β → Prop} : ∀ {l : List α} {m : List β}, Paired F l m → l.length = m.length
  | _, _, .nil => rfl
  | _, _, .cons _ r => by rw [List.length_cons, List.length_cons, Paired.len r]
theorem take_more {α : Type} : ∀ {l : List α} {i : Nat} {x : α}, l[i]? = some x → l.take (i + 1) = l.take i ++ [x]
  | [], i, x, h => by simp at h
  | a :: l, 0, x, h => by
    have e : a = x := Option.some.inj h
    subst e
    rfl
  | a :: l, i + 1, x, h => by
    have ih := take_more (l := l) (i := i) (x := x) h
    show a :: l.take (i + 1) = a :: l.take i ++ [x]
    rw [ih]
    rfl
theorem drop_more {α : Type} {l : List α} {i : Nat} {x : α} (h : l[i]? = some x) : l.drop i = x :: l.drop (i + 1) := by
  obtain ⟨hl, e⟩ := List.getElem?_eq_some_iff.mp h
  rw [List.drop_eq_getElem_cons hl, e]
theorem atI_last {α : Type} {xs : List α} {x : α} (h : xs.getLast? = some x) : atI xs (-1) = some x := by
  cases xs with
  | nil => cases h
  | cons a r =>
    unfold atI ixN
    rw [if_neg (by decide), if_pos (by simp only [List.length_cons]; omega)]
    rw [List.getLast?_eq_getElem?] at h
    rw [Option.bind_some]
    have : (-1 + ((a :: r).length : Int)).toNat = (a :: r).length - 1 := by simp only [List.length_cons]; omega
    rw [this]
    exact h
theorem cut_nat (xs : List V) (b e : Nat) (h1 : b ≤ e) (h2 : e ≤ xs.length) : cutV xs (some (b : Int)) (some (e : Int)) = (xs.take e).drop b := by
  unfold cutV
  rw [HT.sIx_nat, HT.sIx_nat, Nat.min_eq_left h2, Nat.min_eq_left (Nat.le_trans h1 h2), List.drop_take]
theorem sz {n : Nat} (h : n ≤ 1000000) : n ≤ sizeLine := Nat.le_trans h (by decide)
theorem szl {n : Nat} (h : n ≤ 1000000) : n < sizeLine := Nat.lt_of_le_of_lt h (by decide)
theorem ifT {c : Bool} {A B : Prop} (hc : c = true) (h : A) : if c = true then A else B := by rw [if_pos hc]; exact h
theorem ifF {c : Bool} {A B : Prop} (hc : c = false) (h : B) : if c = true then A else B := by rw [hc, if_neg Bool.false_ne_true]; exact h
theorem int_eq {i j : Int} : decide (V.int i = V.int j) = decide (i = j) := by rw [decide_eq_decide]; exact ⟨fun h => V.int.inj h, fun h => by rw [h]⟩
/-- a constant of the module -/
theorem pe_k {X : Cx} {x : Str} {n : Int} {pos : Pos} (hg : Gl X x) (h : ∃ t, X.mg x = some (.int n t)) (hd : (x == ("__debug__" : Str)) = false := by decide) : PE X (.Name x pos) (tC (.int n)) := by
  obtain ⟨t, ht⟩ := h
  exact pe_glob hg ht ⟨_, rfl⟩ hd
/-- a refusal: what's told, whatever the heap then -/
def Ref (CR : Addr) (E : XK) (told : List Int) : Prop := ∀ (d l : Addr) (H : Hp), H d = some (.xd [("told", .ref l)]) → H l = some (.lst (told.map V.int)) → E (.ref CR) (some d) H
theorem psx {X : Cx} {E : XK} (tk : Takes X (fun cls d _ H => E cls d H)) : Passes (L2.CX X.prog X.w) X E := passes_call tk fun _ _ _ _ h => h
/-- a comprehension: turn i gives vals i (none: its test is false); nothing that stood is changed -/
theorem lc_gen {J : It} {n : Nat} {G : Hp → Prop} {Y : Nat → Hp → V → Hp → Prop} (w : Walk J n G Y) {g : TG} {tt : TT} {te : TE} {vs : List Nat} {σ : L2.St} {H1 : Hp} {D : Addr} {Qd : Hp → Prop} (hD : H1 D = none) (hG : ∀ H, Same H1 H → G H) (hn : n ≤ 1000000) (vals : Nat → Option V)
    (hs : ∀ i x H H' (QV : VK) (QN : Hp → Prop), i < n → Same H1 H → Y i H x H' → (∀ v H4, vals i = some v → Same H H4 → QV v H4) → (vals i = none → ∀ H4, Same H H4 → QN H4) →
      g x (wipe σ vs) H' fun σ2 H2 => wipe σ2 vs = wipe σ vs ∧ tt σ2 H2 fun b H3 => if b = true then te σ2 H3 QV else QN H3)
    (hd : ∀ H, Same H1 H → H D = some (.lst ((List.range n).filterMap vals)) → Qd H) :
    ∃ W : Nat → Nat → Hp → Prop, (∃ m, W 0 m (upd H1 D (.lst []))) ∧ ∀ i m H, W i m H →
      (J.stop i H ∧ Qd H) ∨ (J.go i H ∧ ∃ Nx : Hp → Prop, (∀ H', Nx H' → ∃ m', m' < m ∧ W (i + 1) m' H') ∧ ∀ x H', J.yld i H x H' → g x (wipe σ vs) H' fun σ2 H2 => wipe σ2 vs = wipe σ vs ∧ tt σ2 H2 fun b H3 =>
        if b = true then te σ2 H3 fun y H4 => ∃ acc, H4 D = some (.lst acc) ∧ acc.length < sizeLine ∧ Nx (upd H4 D (.lst (acc ++ [y]))) else Nx H3) := by
  refine lc_it w (fun i H => Same H1 H ∧ H D = some (.lst ((List.range i).filterMap vals))) ⟨Same.new hD, upd_same⟩ (fun i H _ p => hG H p.1) (fun i x H H' hi p y => ?_) (fun H p => hd H p.1 p.2)
  refine hs i x H H' _ _ hi p.1 y (fun v H4 e s => ?_) fun e H4 s => ?_
  · refine ⟨_, s D _ p.2, ?_, Same.mut (Same.trans p.1 s) hD, ?_⟩
    · refine szl (Nat.le_trans (List.length_filterMap_le _ _) ?_)
      rw [List.length_range]
      omega
    · rw [upd_same, List.range_succ, List.filterMap_append, List.filterMap_cons, e]
      rfl
  · refine ⟨Same.trans p.1 s, ?_⟩
    rw [s D _ p.2, List.range_succ, List.filterMap_append, List.filterMap_cons, e]
    simp
theorem range_take (xs : List V) : ∀ i, i ≤ xs.length → (List.range i).filterMap (fun i => xs[i]?) = xs.take i
  | 0, _ => by simp
  | i + 1, h => by
    have e : xs[i]? = some xs[i] := List.getElem?_eq_getElem (by omega)
    rw [List.range_succ, List.filterMap_append, range_take xs i (by omega), take_more e, List.filterMap_cons, e]
    rfl
theorem range_vals {xs : List V} : (List.range xs.length).filterMap (fun i => xs[i]?) = xs := by
  rw [range_take xs _ (Nat.le_refl _), List.take_length]
/-- the same without a test: the values -/
theorem lc_vals {J : It} {n : Nat} {G : Hp → Prop} {Y : Nat → Hp → V → Hp → Prop} (w : Walk J n G Y) {g : TG} {te : TE} {vs : List Nat} {σ : L2.St} {H1 : Hp} {D : Addr} {Qd : Hp → Prop} (hD : H1 D = none) (hG : ∀ H, Same H1 H → G H) (hn : n ≤ 1000000) (xs : List V) (hx : xs.length = n)
    (hs : ∀ i x v H H' (QV : VK), xs[i]? = some v → Same H1 H → Y i H x H' → (∀ H4, Same H H4 → QV v H4) →
      g x (wipe σ vs) H' fun σ2 H2 => wipe σ2 vs = wipe σ vs ∧ te σ2 H2 QV)
    (mono : ∀ x σ2 H2 (Q Q' : L2.St → Hp → Prop), (∀ s h, Q s h → Q' s h) → g x σ2 H2 Q → g x σ2 H2 Q')
    (hd : ∀ H, Same H1 H → H D = some (.lst xs) → Qd H) :
    ∃ W : Nat → Nat → Hp → Prop, (∃ m, W 0 m (upd H1 D (.lst []))) ∧ ∀ i m H, W i m H →
      (J.stop i H ∧ Qd H) ∨ (J.go i H ∧ ∃ Nx : Hp → Prop, (∀ H', Nx H' → ∃ m', m' < m ∧ W (i + 1) m' H') ∧ ∀ x H', J.yld i H x H' → g x (wipe σ vs) H' fun σ2 H2 => wipe σ2 vs = wipe σ vs ∧ tYes σ2 H2 fun b H3 =>
        if b = true then te σ2 H3 fun y H4 => ∃ acc, H4 D = some (.lst acc) ∧ acc.length < sizeLine ∧ Nx (upd H4 D (.lst (acc ++ [y]))) else Nx H3) := by
  subst hx
  refine lc_gen w hD hG hn (fun i => xs[i]?) (fun i x H H' QV QN hi s y hv _ => ?_) (fun H s e => hd H s (by rw [range_vals] at e; exact e))
  refine mono _ _ _ _ _ ?_ (hs i x xs[i] H H' QV (List.getElem?_eq_getElem hi) s y fun H4 s4 => hv _ H4 (List.getElem?_eq_getElem hi) s4)
  rintro σ2 H2 ⟨h1, h2⟩
  refine ⟨h1, ?_⟩
  show if true = true then te σ2 H2 QV else QN H2
  exact iteT h2
theorem gName_mono {i : Nat} : ∀ (x : V) (σ2 : L2.St) (H2 : Hp) (Q Q' : L2.St → Hp → Prop), (∀ s h, Q s h → Q' s h) → gName i x σ2 H2 Q → gName i x σ2 H2 Q' := fun _ _ _ _ _ k h => k _ _ h
end RR
namespace RR
open PySem PySem.Spec PyProof.Rows L2
section
variable {P : Program} {w : World} {K : PySem.W.Frag} {mg : Str → Option Value} {base : Heap}
def spIsSmall : Sp := fun vs H Q _ => ∃ i : Int, vs = [.int i] ∧ Q (.bl (MR.isSmall i)) H
theorem ok_is_small (T : Tx K mg) : FnOk P w K mg base CX0 1 T.f_is_small T.d_is_small ["byte"] spIsSmall := by
  refine T.is_small.me.F.ok sc_is_small (fun vs H Q E h => ?_) (fun cdv A outer s H vs Q E hr h => ⟨_, pss_one (ps_ret (pe_chain op_le op_le pe_int (pv 0) pe_int)), ?_⟩)
  · obtain ⟨i, rfl, _⟩ := h; rfl
  · obtain ⟨i, rfl, q⟩ := h
    refine ⟨_, rfl, _, _, rfl, rfl, _, rfl, ?_⟩
    unfold MR.isSmall at q
    cases h1 : decide (97 ≤ i) with
    | true => rw [h1] at q; exact iteT ⟨_, _, rfl, rfl, q⟩
    | false => rw [h1] at q; exact iteF q
def spIsFigure : Sp := fun vs H Q _ => ∃ i : Int, vs = [.int i] ∧ Q (.bl (MR.isFig i)) H
theorem ok_is_figure (T : Tx K mg) : FnOk P w K mg base CX0 1 T.f_is_figure T.d_is_figure ["byte"] spIsFigure := by
  refine T.is_figure.me.F.ok sc_is_figure (fun vs H Q E h => ?_) (fun cdv A outer s H vs Q E hr h => ⟨_, pss_one (ps_ret (pe_chain op_le op_le pe_int (pv 0) pe_int)), ?_⟩)
  · obtain ⟨i, rfl, _⟩ := h; rfl
  · obtain ⟨i, rfl, q⟩ := h
    refine ⟨_, rfl, _, _, rfl, rfl, _, rfl, ?_⟩
    unfold MR.isFig at q
    cases h1 : decide (48 ≤ i) with
    | true => rw [h1] at q; exact iteT ⟨_, _, rfl, rfl, q⟩
    | false => rw [h1] at q; exact iteF q
/-- Refused.__init__ -/
def spRef (C : Addr) : Sp := fun vs H Q _ => ∃ (a : Addr) (v : V), vs = [.ref a, v] ∧ H a = some (exo a C none) ∧
  ∀ dx, H dx = none → dx ≠ a → Q .non (upd (upd H dx (exd dx [("told", v)])) a (exo a C (some dx)))
theorem ok_refinit (T : Tx K mg) : FnOk P w K mg base CX0 1 T.f_refused_init T.d_refused_init ["self", "told"] (spRef T.cRefused) := by
  refine T.refused_init.F.ok sc_refused_init (fun vs H Q E h => ?_) (fun cdv A outer s H vs Q E hr h => ⟨_, pss_one (ps_ost (pv 0) (pv 1)), ?_⟩)
  · obtain ⟨a, v, rfl, _⟩ := h; rfl
  · obtain ⟨a, v, rfl, ha, q⟩ := h
    exact ⟨_, rfl, _, rfl, a, T.cRefused, rfl, T.ref_ox, T.n_Refused_told, .inl ⟨ha, q⟩⟩
/-- Refused([..]), the list told at p: the reading behind its items -/
theorem ref_made {CR : Addr} {E : XK} {told : List Int} {H : Hp} {p : Addr} (q : Ref CR E told) (hp : H p = some (.lst (told.map V.int))) (a : Addr) (ha : H a = none) :
    spRef CR [.ref a, .ref p] (upd H a (exo a CR none)) (fun v H2 => v = .non ∧ ∃ (d : Addr) (fs : List (Str × V)), H2 a = some (exo a CR (some d)) ∧ H2 d = some (exd d fs) ∧ H d = none ∧ E (.ref CR) (some d) (upd (del H2 a) d (.xd fs))) (fun _ _ _ => False) := by
  refine ⟨a, _, rfl, upd_same, fun dx hdx hne => ⟨rfl, dx, [("told", .ref p)], upd_same, ?_, ?_, ?_⟩⟩
  · rw [upd_ne hne]; exact upd_same
  · rw [upd_ne hne] at hdx; exact hdx
  · rw [upd_ne hne] at hdx
    have e1 : p ≠ a := ne_of_none hp ha
    have e2 : p ≠ dx := ne_of_none hp hdx
    refine q dx p _ upd_same ?_
    rw [upd_ne e2, del_ne e1, upd_ne e1, upd_ne e2, upd_ne e1]
    exact hp
def spAsk (CR : Addr) : Sp := fun vs H Q E => ∃ (b : Bool) (n : Int), vs = [.bl b, .int n] ∧ (b = true → Q .non H) ∧ (b = false → Ref CR E [n])
theorem ok_ask (T : Tx K mg) : FnOk P w K mg base (L2.CX P w) 3 T.f_ask T.d_ask ["is_so", "number"] (spAsk T.cRefused) := by
  have GI : FnOk P w K mg base CX0 1 T.f_refused_init T.d_refused_init ["self", "told"] (spRef T.cRefused) := ok_refinit T
  refine T.ask.me.F.okX sc_ask (fun vs H Q E h => ?_) (fun cdv A outer s H vs Q E hr h => ⟨_, pss_one (ps_if (pt_not (pt_val (pv 0))) (pss_one (ps_raise rfl (takes_of rfl rfl rfl rfl) (pmk_oex T.ref_ox T.ref_iC T.ref_tI GI hr T.refused_init.b .nil pass0 rfl T.g_cRefused (by exact (pa_cons (pe_lst (pa_cons (pv 1) pa_nil)) pa_nil))))) pss_nil), ?_⟩)
  · obtain ⟨b, n, rfl, _⟩ := h; rfl
  · obtain ⟨b, n, rfl, q1, q2⟩ := h
    refine ⟨_, rfl, b, rfl, ?_⟩
    cases b with
    | true => exact iteF (q1 rfl)
    | false =>
      refine iteT ⟨_, rfl, by show 1 ≤ sizeLine; decide, fun p hp => ⟨by show 1 ≤ 1000; decide, fun a ha => ?_⟩⟩
      exact ref_made (told := [n]) (q2 rfl) upd_same a ha
def spNeedC (CR : Addr) : Sp := fun vs H Q E => ∃ b : Bool, vs = [.bl b] ∧ (b = true → Q .non H) ∧ (b = false → Ref CR E [-8])
theorem ok_need_cards (T : Tx K mg) : FnOk P w K mg base (L2.CX P w) 4 T.f_need_cards T.d_need_cards ["is_so"] (spNeedC T.cRefused) := by
  have G : FnOk P w K mg base (L2.CX P w) 3 T.f_ask T.d_ask ["is_so", "number"] (spAsk T.cRefused) := ok_ask T
  refine T.need_cards.me.F.okX sc_need_cards (fun vs H Q E h => ?_) (fun cdv A outer s H vs Q E hr h => ⟨_, pss_one (ps_expr (pe_call G hr rfl T.ask.g T.ask.me.F.kp T.ask.me.b .nil (psx (E := E) (takes_of rfl rfl rfl rfl)) (by exact (pa_cons (pv 0) (pa_cons (pe_k rfl T.g_NO_CARD) pa_nil))))), ?_⟩)
  · obtain ⟨b, rfl, _⟩ := h; rfl
  · obtain ⟨b, rfl, q1, q2⟩ := h
    exact ⟨_, rfl, b, -8, rfl, q1, q2⟩
def spNeedO (CR : Addr) : Sp := fun vs H Q E => ∃ (b : Bool) (k p : Int), vs = [.bl b, .int k, .int p] ∧ (b = true → Q .non H) ∧ (b = false → Ref CR E [-6, k, p])
theorem ok_need_outcomes (T : Tx K mg) : FnOk P w K mg base (L2.CX P w) 4 T.f_need_outcomes T.d_need_outcomes ["is_so", "kind", "place"] (spNeedO T.cRefused) := by
  have GI : FnOk P w K mg base CX0 1 T.f_refused_init T.d_refused_init ["self", "told"] (spRef T.cRefused) := ok_refinit T
  refine T.need_outcomes.me.F.okX sc_need_outcomes (fun vs H Q E h => ?_) (fun cdv A outer s H vs Q E hr h => ⟨_, pss_one (ps_if (pt_not (pt_val (pv 0))) (pss_one (ps_raise rfl (takes_of rfl rfl rfl rfl) (pmk_oex T.ref_ox T.ref_iC T.ref_tI GI (hr.mono (by decide)) T.refused_init.b .nil pass0 rfl T.g_cRefused (by exact (pa_cons (pe_lst (pa_cons (pe_k rfl T.g_FAULTY) (pa_cons (pv 1) (pa_cons (pv 2) pa_nil)))) pa_nil))))) pss_nil), ?_⟩)
  · obtain ⟨b, k, p, rfl, _⟩ := h; rfl
  · obtain ⟨b, k, pl, rfl, q1, q2⟩ := h
    refine ⟨_, rfl, b, rfl, ?_⟩
    cases b with
    | true => exact iteF (q1 rfl)
    | false =>
      refine iteT ⟨_, rfl, _, rfl, by show 3 ≤ sizeLine; decide, fun p hp => ⟨by show 1 ≤ 1000; decide, fun a ha => ?_⟩⟩
      exact ref_made (told := [-6, k, pl]) (q2 rfl) upd_same a ha
/-- a text's signs -/
def spz (z : Str) : W := z.cps.toList.map fun (c : Nat) => (c : Int)
def spSpelled : Sp := fun vs H Q _ => ∃ z : Str, vs = [.str z] ∧ z.length ≤ 1000 ∧ ∀ (H' : Hp) (p : Addr), Same H H' → H p = none → WAt H' p (spz z) → Q (.ref p) H'
theorem ok_spelled (T : Tx K mg) : FnOk P w K mg base CX0 1 T.f_spelled T.d_spelled ["text"] spSpelled := by
  refine T.spelled.me.F.ok sc_spelled (fun vs H Q E h => ?_) (fun cdv A outer s H vs Q E hr h => ⟨_, pss_one (ps_ret (pe_callTy call_tuple_of (by rfl) T.z_tuple (by decide +kernel) (pa_cons
    (pe_lc (own := [("sign", 1)]) (g := gName 1) (tt := tYes) rfl sc_spelled.nd (pi_str (pv 0)) (blkOk_by (own := [("sign", 1)]) (N := ["text", "sign"]) (sc := defScope s_spelled) (by decide +kernel)) (fun _ _ _ _ _ => pg_name (i := 1) sc_spelled.nd rfl (Or.inl rfl)) (fun _ _ _ _ _ => pts_nil)
      (fun _ _ _ _ _ => pe_callB call_ord (by rfl) T.z_ord (by decide +kernel) (pa_cons (pv 1) pa_nil))) pa_nil))), ?_⟩)
  · obtain ⟨z, rfl, _⟩ := h; rfl
  · obtain ⟨z, rfl, hz, q⟩ := h
    have hz' : z.cps.size ≤ 1000 := hz
    refine ⟨_, rfl, z, rfl, fun D hD => ?_⟩
    have e : ((spz z).map V.int).length = z.cps.size := by unfold spz; simp
    refine lc_vals walk_str hD (fun _ _ => trivial) (by omega) ((spz z).map V.int) e (fun i x v H2 H' QV hv s1 y hq => ?_) gName_mono (fun H1 sm hl => ?_)
    · obtain ⟨rfl, c, hc, rfl⟩ := y
      have e2 : v = .int (c : Int) := by
        unfold spz at hv
        rw [List.getElem?_map, List.getElem?_map, Array.getElem?_toList, hc] at hv
        exact (Option.some.inj hv).symm
      subst e2
      exact ⟨rfl, _, rfl, _, rfl, by rfl, hq _ (Same.refl _)⟩
    · refine ⟨D, _, rfl, .inl ⟨SqL.of hl, fun l hl2 => ?_⟩⟩
      exact q _ l (Same.trans sm (Same.new hl2)) (Same.free sm hl2) upd_same
end
end RR
namespace RR
open PySem PySem.Spec PyProof.Rows L2
section
variable {P : Program} {w : World} {K : PySem.W.Frag} {mg : Str → Option Value} {base : Heap}
def spIsName : Sp := fun vs H Q _ => ∃ (a : Addr) (w : W), vs = [.ref a] ∧ WAt H a w ∧ w.length ≤ 70000 ∧ ∀ H', Same H H' → Q (.bl (MR.isName w)) H'
theorem all_id (w : W) (f : Int → Bool) : (w.map f).all id = w.all f := by rw [List.all_map]; rfl
theorem ok_is_name (T : Tx K mg) : FnOk P w K mg base CX0 2 T.f_is_name T.d_is_name ["word"] spIsName := by
  have GS : FnOk P w K mg base CX0 1 T.f_is_small T.d_is_small ["byte"] spIsSmall := ok_is_small T
  have GF : FnOk P w K mg base CX0 1 T.f_is_figure T.d_is_figure ["byte"] spIsFigure := ok_is_figure T
  refine T.is_name.me.F.ok sc_is_name (fun vs H Q E h => ?_) (fun cdv A outer s H vs Q E hr h => ⟨_, pss_cons (ps_if (PW.pt (pw_or (pt_not (pt_chain op_le op_le pe_int (pe_callB call_len_seq (by rfl) T.z_len PySem.boot_len (pa_cons (pv 0) pa_nil)) (pe_k rfl T.g_LONGEST_NAME)))
      (pw_or1 (pt_not (pt_val (pe_call GS hr rfl T.is_small.g T.is_small.me.F.kp T.is_small.me.b .nil pass0 (by exact (pa_cons (pe_ix ix_tup (pv 0) pe_int (fun _ _ => rfl)) pa_nil)))))))) (pss_one (ps_ret pe_bl)) pss_nil)
    (pss_one (ps_ret (pe_callB (cr_all rfl) (by rfl) T.z_all (by decide +kernel) (pa_cons
      (pe_lc (own := [("byte", 1)]) (g := gName 1) (tt := tYes) rfl sc_is_name.nd (pi_tup (pv 0)) (blkOk_by (own := [("byte", 1)]) (N := ["word", "byte"]) (sc := defScope s_is_name) (by decide +kernel)) (fun _ _ _ _ _ => pg_name (i := 1) sc_is_name.nd rfl (Or.inl rfl)) (fun _ _ _ _ _ => pts_nil)
        (fun _ _ _ _ _ => pe_or (pe_call GS hr rfl T.is_small.g T.is_small.me.F.kp T.is_small.me.b .nil pass0 (by exact (pa_cons (pv 1) pa_nil))) (pe_one (pe_call GF hr rfl T.is_figure.g T.is_figure.me.F.kp T.is_figure.me.b .nil pass0 (by exact (pa_cons (pv 1) pa_nil)))))) pa_nil)))), ?_⟩)
  · obtain ⟨a, w, rfl, _⟩ := h; rfl
  · obtain ⟨a, w, rfl, ha, hl, q⟩ := h
    have hT : SqT K H a (wv w) := SqT.of ha
    -- the length
    refine ⟨_, rfl, a, wv w, rfl, .inr hT, _, _, rfl, rfl, _, rfl, ?_⟩
    rw [wv_len]
    cases h1 : decide ((1 : Int) ≤ (w.length : Int)) with
    | false =>
      refine iteF ⟨false, rfl, ?_⟩
      refine iteT (iteT ?_)
      have e : MR.isName w = false := by
        unfold MR.isName
        have : decide (1 ≤ w.length) = false := by
          have := of_decide_eq_false h1
          exact decide_eq_false (by omega)
        rw [this]; rfl
      rw [e] at q
      exact q H (Same.refl H)
    | true =>
      refine iteT ⟨_, _, rfl, rfl, _, rfl, ?_⟩
      cases h2 : decide ((w.length : Int) ≤ 12) with
      | false =>
        refine iteT (iteT ?_)
        have e : MR.isName w = false := by
          unfold MR.isName
          have : decide (w.length ≤ 12) = false := by
            have := of_decide_eq_false h2
            exact decide_eq_false (by omega)
          rw [this, Bool.false_and, Bool.and_false]
        rw [e] at q
        exact q H (Same.refl H)
      | true =>
        refine iteF ?_
        have g1 := of_decide_eq_true h1
        have g2 := of_decide_eq_true h2
        obtain ⟨c, r, rfl⟩ : ∃ c r, w = c :: r := by
          cases w with
          | nil => simp at g1
          | cons c r => exact ⟨c, r, rfl⟩
        refine ⟨_, rfl, a, wv (c :: r), 0, .int c, rfl, rfl, hT, atI_nat (j := 0) rfl, c, rfl, MR.isSmall c, rfl, ?_⟩
        have e : MR.isName (c :: r) = (MR.isSmall c && (c :: r).all fun c => MR.isSmall c || MR.isFig c) := by
          unfold MR.isName
          have e1 : decide (1 ≤ (c :: r).length) = true := decide_eq_true (by simp)
          have e2 : decide ((c :: r).length ≤ 12) = true := decide_eq_true (by omega)
          rw [e1, e2]; rfl
        rw [e] at q
        cases h3 : MR.isSmall c with
        | false =>
          refine iteT ?_
          rw [h3] at q
          exact q H (Same.refl H)
        | true =>
          rw [h3, Bool.true_and] at q
          refine iteF ?_
          refine ⟨_, rfl, a, rfl, ⟨_, hT⟩, fun D hD => ?_⟩
          refine lc_vals walk_tup hD (fun H' s' => SqT.of (s' a _ ha)) (by rw [wv_len]; omega) (((c :: r).map fun c => MR.isSmall c || MR.isFig c).map V.bl) (by simp [wv]) (fun i x v H2 H' QV hv s1 y hq => ?_) gName_mono (fun H1 sm hl1 => ?_)
          · obtain ⟨rfl, hx⟩ := y
            obtain ⟨d, hd, rfl⟩ : ∃ d, (c :: r)[i]? = some d ∧ x = V.int d := by
              unfold wv at hx
              rw [List.getElem?_map] at hx
              cases e0 : (c :: r)[i]? with
              | none => rw [e0] at hx; cases hx
              | some d => rw [e0] at hx; exact ⟨d, rfl, (Option.some.inj hx).symm⟩
            rw [List.getElem?_map, List.getElem?_map, hd] at hv
            have hv := Option.some.inj hv
            subst hv
            refine ⟨rfl, _, rfl, d, rfl, MR.isSmall d, rfl, ?_⟩
            cases h4 : MR.isSmall d with
            | true =>
              refine iteT ?_
              have : QV (V.bl (MR.isSmall d || MR.isFig d)) _ := hq _ (Same.refl _)
              rw [h4] at this
              exact this
            | false =>
              refine iteF ⟨_, rfl, d, rfl, ?_⟩
              have : QV (V.bl (MR.isSmall d || MR.isFig d)) _ := hq _ (Same.refl _)
              rw [h4, Bool.false_or] at this
              exact this
          · refine ⟨D, _, rfl, SqL.of hl1, ?_⟩
            rw [all_id]
            exact q H1 sm
def spNumberOf : Sp := fun vs H Q _ => ∃ (a : Addr) (w : W), vs = [.ref a] ∧ WAt H a w ∧ w.length ≤ 70000 ∧ ∀ H', Same H H' → Q (.int (MR.numberOf w)) H'
theorem ok_number_of (T : Tx K mg) : FnOk P w K mg base CX0 2 T.f_number_of T.d_number_of ["word"] spNumberOf := by
  have GF : FnOk P w K mg base CX0 1 T.f_is_figure T.d_is_figure ["byte"] spIsFigure := ok_is_figure T
  refine T.number_of.me.F.ok sc_number_of (fun vs H Q E h => ?_) (fun cdv A outer s H vs Q E hr h => ⟨_, pss_cons (ps_if (PW.pt (pw_or (pt_cmpR op_eq (pe_callB call_len_seq (by rfl) T.z_len PySem.boot_len (pa_cons (pv 0) pa_nil)) pe_int (nomark _))
      (pw_or1 (pt_not (pt_val (pe_callB (cr_all rfl) (by rfl) T.z_all (by decide +kernel) (pa_cons
        (pe_lc (own := [("byte", 1)]) (g := gName 1) (tt := tYes) rfl sc_number_of.nd (pi_tup (pv 0)) (blkOk_by (own := [("byte", 1)]) (N := ["word", "byte", "found"]) (sc := defScope s_number_of) (by decide +kernel)) (fun _ _ _ _ _ => pg_name (i := 1) sc_number_of.nd rfl (Or.inl rfl)) (fun _ _ _ _ _ => pts_nil)
          (fun _ _ _ _ _ => pe_call GF hr rfl T.is_figure.g T.is_figure.me.F.kp T.is_figure.me.b .nil pass0 (by exact (pa_cons (pv 1) pa_nil)))) pa_nil)))))))
        (pss_one (ps_ret (pe_un un_neg pe_int))) pss_nil)
    (pss_cons (ps_if (PW.pt (pw_and (pt_cmpR op_gt (pe_callB call_len_seq (by rfl) T.z_len PySem.boot_len (pa_cons (pv 0) pa_nil)) pe_int (nomark _)) (pw_and1 (pt_cmpR op_eq (pe_ix ix_tup (pv 0) pe_int (fun _ _ => rfl)) pe_int (nomark _))))) (pss_one (ps_ret (pe_un un_neg pe_int))) pss_nil)
    (pss_cons (ps_set (i := 2) sc_number_of.nd rfl (Or.inl rfl) pe_int)
    (pss_cons (ps_for PassesOwn.never rfl (pi_tup (pv 0)) (pg_name (i := 1) sc_number_of.nd rfl (Or.inl rfl)) (pss_one (ps_set (i := 2) sc_number_of.nd rfl (Or.inl rfl) (pe_op op_sub (pe_op op_add (pe_op op_mul pe_int (pv 2)) (pv 1)) pe_int))))
    (pss_one (ps_ret (pv 2)))))), ?_⟩)
  · obtain ⟨a, w, rfl, _⟩ := h; rfl
  · obtain ⟨a, w, rfl, ha, hl, q⟩ := h
    have hT : SqT K H a (wv w) := SqT.of ha
    refine ⟨_, rfl, a, wv w, rfl, .inr hT, rfl, _, rfl, ?_⟩
    rw [wv_len, int_eq]
    have item : ∀ {i : Nat} {x : V}, (wv w)[i]? = some x → ∃ d, w[i]? = some d ∧ x = V.int d := by
      intro i x hx
      unfold wv at hx
      rw [List.getElem?_map] at hx
      cases e0 : w[i]? with
      | none => rw [e0] at hx; cases hx
      | some d => rw [e0] at hx; exact ⟨d, rfl, (Option.some.inj hx).symm⟩
    by_cases h0 : w = []
    · subst h0
      refine iteT (iteT ⟨_, rfl, ?_⟩)
      exact q H (Same.refl H)
    · have e0 : decide ((w.length : Int) = 0) = false := decide_eq_false (fun z => h0 (List.length_eq_zero_iff.mp (by omega)))
      rw [e0]
      refine iteF ?_
      refine ⟨_, rfl, a, rfl, ⟨_, hT⟩, fun D hD => ?_⟩
      refine lc_vals walk_tup hD (fun H' s' => SqT.of (s' a _ ha)) (by rw [wv_len]; omega) ((w.map MR.isFig).map V.bl) (by simp [wv]) (fun i x v H2 H' QV hv s1 y hq => ?_) gName_mono (fun H1 sm hl1 => ?_)
      · obtain ⟨rfl, hx⟩ := y
        obtain ⟨d, hd, rfl⟩ := item hx
        rw [List.getElem?_map, List.getElem?_map, hd] at hv
        have hv := Option.some.inj hv
        subst hv
        exact ⟨rfl, _, rfl, d, rfl, hq _ (Same.refl _)⟩
      · refine ⟨D, _, rfl, SqL.of hl1, _, rfl, ?_⟩
        rw [all_id]
        have hT1 : SqT K H1 a (wv w) := SqT.of (sm a _ ha)
        cases h1 : w.all MR.isFig with
        | false =>
          refine iteT ⟨_, rfl, ?_⟩
          have e : MR.numberOf w = -1 := by
            unfold MR.numberOf
            rw [if_pos (.inr h1)]
          rw [e] at q
          exact q H1 sm
        | true =>
          refine iteF ?_
          refine ⟨_, rfl, a, wv w, rfl, .inr hT1, _, _, rfl, rfl, _, rfl, ?_⟩
          rw [wv_len]
          have fin : (¬ (1 < w.length ∧ w.headD 0 = 48)) → ∃ W : Nat → Nat → L2.St → Hp → Prop, (∃ m, W 0 m [some (.ref a), none, some (.int 0)] H1) ∧ _ := fun hb => for_it (walk_tup (K := K) (a := a) (xs := wv w)) (g := gName 1) (tb := tAsg (tOp (rI0 fun i j => .int (i - j)) (tOp (rI0 fun i j => .int (i + j)) (tOp (rI (fun i j => (-(2 ^ 64) < i ∧ i < 2 ^ 64) ∨ (-(2 ^ 64) < j ∧ j < 2 ^ 64)) fun i j => .int (i * j)) (tC (.int 10)) (tVar 2)) (tVar 1)) (tC (.int 48))) (gName 2))
              (D := { nx := fun σ H => tRet (tVar 2) { nx := fun _ H' => Q .non H', rt := Q } σ H, rt := Q }) (fun i σ H' => ∃ v, σ = [some (.ref a), v, some (.int ((w.take i).foldl (fun n c => 10 * n + c - 48) 0))] ∧ H' = H1) ⟨none, rfl, rfl⟩ (fun i σ H' _ p => by obtain ⟨v, _, rfl⟩ := p; exact hT1)
            (fun i x σ H2 H' hi p y => by
              obtain ⟨v, rfl, rfl⟩ := p
              obtain ⟨rfl, hx⟩ := y
              obtain ⟨d, hd, rfl⟩ := item hx
              refine ⟨_, rfl, _, _, rfl, rfl, .inl ⟨by decide, by decide⟩, _, rfl, _, _, rfl, rfl, _, _, rfl, rfl, ?_⟩
              refine ⟨some (.int d), ?_, rfl⟩
              rw [take_more hd, List.foldl_append]
              rfl)
            (fun σ H' p => by
              obtain ⟨v, rfl, rfl⟩ := p
              rw [wv_len, List.take_length]
              refine ⟨_, rfl, ?_⟩
              have e : MR.numberOf w = w.foldl (fun n c => 10 * n + c - 48) 0 := by
                unfold MR.numberOf
                rw [if_neg (by rintro (z | z); exact h0 z; rw [h1] at z; cases z), if_neg hb]
                rfl
              rw [e] at q
              exact q _ sm)
          cases h2 : decide ((1 : Int) < (w.length : Int)) with
          | false =>
            refine iteF (iteF ?_)
            exact ⟨_, rfl, a, rfl, ⟨_, hT1⟩, fin (fun z => by have := of_decide_eq_false h2; omega)⟩
          | true =>
            refine iteT ?_
            obtain ⟨c, r, rfl⟩ : ∃ c r, w = c :: r := by
              cases w with
              | nil => exact absurd rfl h0
              | cons c r => exact ⟨c, r, rfl⟩
            refine ⟨_, rfl, a, wv (c :: r), 0, .int c, rfl, rfl, hT1, atI_nat (j := 0) rfl, rfl, _, rfl, ?_⟩
            rw [int_eq]
            cases h3 : decide (c = 48) with
            | true =>
              refine iteT ⟨_, rfl, ?_⟩
              have e : MR.numberOf (c :: r) = -1 := by
                unfold MR.numberOf
                rw [if_neg (by rintro (z | z); cases z; rw [h1] at z; cases z), if_pos ⟨by have := of_decide_eq_true h2; omega, of_decide_eq_true h3⟩]
              rw [e] at q
              exact q H1 sm
            | false =>
              refine iteF ?_
              exact ⟨_, rfl, a, rfl, ⟨_, hT1⟩, fin (fun z => of_decide_eq_false h3 z.2)⟩
end
end RR
namespace RR
open PySem PySem.Spec PyProof.Rows L2
/-! ### a chain of three comparisons -/
section
variable {X : Cx} {a b c d : Expr} {ta tb tc td : TE} {pos : Pos}
def tChain3 (r r' r'' : R2) (ta tb tc td : TE) : TE := fun σ H Q => ta σ H fun x H1 => tb σ H1 fun y H2 => r x y H2 fun z H3 => ∃ k, z = .bl k ∧
  (if k = true then tc σ H3 fun u H4 => r' y u H4 fun z' H5 => ∃ k', z' = .bl k' ∧ (if k' = true then td σ H5 fun v H6 => r'' u v H6 Q else Q (.bl false) H5) else Q (.bl false) H3)
theorem pe_chain3 {op op' op'' : CmpOp} {r r' r'' : R2} (ho : OpR X (compareOp op) r) (ho' : OpR X (compareOp op') r') (ho'' : OpR X (compareOp op'') r'') (ha : PE X a ta) (hb : PE X b tb) (hc : PE X c tc) (hd : PE X d td)
    (hm : lastMarks [op, op', op''] [b, c, d] = false := by with_unfolding_all rfl) : PE X (.Compare a [op, op', op''] [b, c, d] pos) (tChain3 r r' r'' ta tb tc td) := by
  refine ⟨fun pins s σ H Q I h => ?_⟩
  refine Compare_chain (thn (ha.run pins s σ H _ I h) fun v s1 ⟨x, H1, I1, r1, q1⟩ => chain_link (thn (hb.run pins s1 σ H1 _ I1 q1) fun u s2 ⟨y, H2, I2, r2, q2⟩ =>
    thn (ho pins s2 σ H2 x y v u _ I2 r1 r2 q2) fun d s3 ⟨z, H3, I3, r3, k, e, q3⟩ => ?_)) hm
  subst e
  cases r3
  refine wpAny_truthy_bool ?_
  cases k with
  | false => exact ite_ff ⟨.bl false, H3, I3, rfl, q3⟩
  | true =>
    refine ite_tt (chain_link (thn (hc.run pins s3 σ H3 _ I3 q3) fun w4 s4 ⟨z4, H4, I4, r4, q4⟩ => thn (ho' pins s4 σ H4 y z4 u w4 _ I4 r2 r4 q4) fun d5 s5 ⟨z5, H5, I5, r5, k5, e5, q5⟩ => ?_))
    subst e5
    cases r5
    refine wpAny_truthy_bool ?_
    cases k5 with
    | false => exact ite_ff ⟨.bl false, H5, I5, rfl, q5⟩
    | true => exact ite_tt (chain_last (thn (hd.run pins s5 σ H5 _ I5 q5) fun w6 s6 ⟨z6, H6, I6, r6, q6⟩ => ho'' pins s6 σ H6 z4 z6 w4 w6 Q I6 r4 r6 q6))
end
end RR
namespace PySem
open Sem (wp)
open AutoSeq1 (wpAny_loadPart')
set_option maxRecDepth 100000
/-- enumerate(t), t a tuple: its two new cells -/
theorem rr_meets_enumT (l : Addr) (items : Array Value) (n : Nat) (dct : Option Addr) (sl : Array (Option Value)) :
    Meets (Builtin.«enumerate.__new__» ⟨[.type "enumerate", .ref l], []⟩) (fun _ R s => s.heap.get? l = some { cls := .type "tuple", dict := dct, data := .seq items n, slots := sl } ∧
      R (.ok (.ret (.ref (s.heap.push { cls := .type "tuple_iterator", data := .fields #[.ref l, .int 0 0] }).objs.size)))
        { s with heap := (s.heap.push { cls := .type "tuple_iterator", data := .fields #[.ref l, .int 0 0] }).push { cls := .type "enumerate", data := .fields #[.none, .bool false, .ref s.heap.objs.size, rawInt 0, .none, .none] } }) :=
  .of_wp fun prog w A R s h => by
    obtain ⟨hp, g, d, tk, os⟩ := s; obtain ⟨hl, h⟩ := h
    have hsub := sub_enumerate
    have hL : Heap.IsTuple (Shared.heap ⟨hp, g, d, tk, os⟩) l items := ⟨_, hl, rfl, n, rfl⟩
    wp_walk using wpAny_loadPart' hl
    refine wpAny_stack_any fun st => wpAny_pure ?_
    split
    · rename_i c _ _ _ _ _
      cases (c == Value.type "enumerate")
      · wp_walk using wpAny_loadPart' hl, wpAny_pyIter_tuple hL
        exact ⟨_, rfl, h⟩
      · wp_walk using wpAny_loadPart' hl, wpAny_pyIter_tuple hL
        exact ⟨_, rfl, h⟩
    · wp_walk using wpAny_loadPart' hl, wpAny_pyIter_tuple hL
      exact ⟨_, rfl, h⟩
theorem rr_call_enumT {prog : Program} {w : World} {A : Around} {E : Value → Shared → Prop} {s : Shared} {l : Addr} {items : Array Value} {Q : Value → Shared → Prop} (hL : s.heap.IsTuple l items)
    (h : ∀ h', IsEnum h' (s.heap.objs.size + 1) s.heap.objs.size 0 .none → h'.IsTupleIter s.heap.objs.size l 0 → h'.objs.size = s.heap.objs.size + 2 →
      (∀ b o, s.heap.get? b = some o → h'.get? b = some o) → Q (.ref (s.heap.objs.size + 1)) { s with heap := h' }) :
    wpAny (model prog w) A (call (.type "enumerate") [.ref l]) Q E s := by
  obtain ⟨⟨c, dct, dt, sl⟩, hl, hc, n, hd⟩ := hL
  replace hc : c = .type "tuple" := hc
  replace hd : dt = .seq items n := hd
  subst hc hd
  refine callType_new F.called_enumerate (by decide) (F.typeCall_enumerate_1 _) (F.newCall_enumerate_1 _) (fun obj => F.args_object_init_2 obj _) F.entry_enumerate_new
    (rr_meets_enumT l items n dct sl) ⟨hl, ?_⟩
  have hz : (s.heap.push { cls := .type "tuple_iterator", data := .fields #[.ref l, .int 0 0] }).objs.size = s.heap.objs.size + 1 := Heap.size_push ..
  show _ ∧ _
  rw [hz]
  have he : IsEnum ((s.heap.push { cls := .type "tuple_iterator", data := .fields #[.ref l, .int 0 0] }).push
      { cls := .type "enumerate", data := .fields #[.none, .bool false, .ref s.heap.objs.size, rawInt 0, .none, .none] }) (s.heap.objs.size + 1) s.heap.objs.size 0 .none := by
    have := Heap.get?_push_size (s.heap.push { cls := .type "tuple_iterator", data := .fields #[.ref l, .int 0 0] })
      (o := { cls := .type "enumerate", data := .fields #[.none, .bool false, .ref s.heap.objs.size, rawInt 0, .none, .none] }) rfl
    rw [hz] at this; exact this
  refine ⟨⟨_, he, rfl⟩, h _ he ⟨_, Heap.get?_push_of_some _ (Heap.get?_push_size _ rfl), rfl, rfl⟩ (by rw [Heap.size_push, hz]) fun b o x => Heap.get?_push_of_some _ (Heap.get?_push_of_some _ x)⟩
end PySem
namespace RR
open PySem PySem.Spec PyProof.Rows L2
/-- the tuple at a as it stands at each turn, each item in a new pair -/
def ItT (K : PySem.W.Frag) (a : Addr) : It :=
  ⟨fun i H => ∃ (xs : List V) (x : V), SqT K H a xs ∧ xs[i]? = some x, fun i H v H' => ∃ T x, v = .ref T ∧ H T = none ∧ H' = upd H T (.tup [.int (i : Nat), x]) ∧ ∀ xs, SqT K H a xs → xs[i]? = some x, fun i H => ∃ xs : List V, SqT K H a xs ∧ xs.length ≤ i⟩
theorem turn_enumT {P : Program} {w : World} {K : PySem.W.Frag} {elts : List Expr} {kk : Nat} {tpos : Pos} (a e it : Addr) :
    Turn P w K (.Tuple elts kk tpos) (ItT K a) [e, it] e (fun i h => (∃ old, IsEnum h e it ((i : Nat) : Int) old) ∧ h.IsTupleIter it a i ∧ e ≠ it) where
  mem := by simp
  obj := fun i h st b hb => by
    obtain ⟨⟨old, he⟩, ⟨o, ho, hc, hd⟩, _⟩ := st
    have e' : b = e ∨ b = it := by simpa using hb
    rcases e' with z | z
    · rw [z]; exact ⟨_, he, fun v q => nomatch q⟩
    · rw [z]; exact ⟨o, ho, fun v q => by rw [hd] at q; cases q⟩
  keep := fun i h h' st k => let ⟨⟨old, he⟩, hi, hne⟩ := st; ⟨⟨old, k e (by simp) _ he⟩, hi.at fun o q => k it (by simp) o q, hne⟩
  item := by
    intro X hP hw hK hc i pins s σ H E I hf st hg
    subst hP hw hK
    obtain ⟨⟨old, he⟩, hit, hne⟩ := st
    obtain ⟨xs, x, hq, hx⟩ := hg
    obtain ⟨its, rv, p, hz⟩ := I.tuple hq
    obtain ⟨u, hu, ru⟩ := rv.get hx
    have hel : e < s.heap.objs.size := Heap.lt_size he
    have hil : it < s.heap.objs.size := by obtain ⟨_, q, _⟩ := hit; exact Heap.lt_size q
    have hT : s.heap.IsTuple a its.toArray := p
    have hua : its.toArray[i]? = some u := by simpa using hu
    have hlt : i < its.toArray.size := by
      rcases Nat.lt_or_ge i its.toArray.size with z | z
      · exact z
      · rw [Array.getElem?_eq_none z] at hua; cases hua
    have hta : a ≠ it := fun z => by
      obtain ⟨o1, e1, c1, _⟩ := hT
      obtain ⟨o2, e2, c2, _⟩ := hit
      rw [z, e2] at e1
      cases e1
      rw [c1] at c2
      injection c2 with c3
      exact absurd c3 (by decide)
    have hea : e ≠ a := fun z => by
      obtain ⟨o1, e1, c1, _⟩ := hT
      have he' : s.heap.get? e = some _ := he
      rw [z, e1] at he'
      cases he'
      injection c1 with c3
      exact absurd c3 (by decide)
    refine wpAny_pyNext_enum_itemD (Draws.tuple (A := X.A.in1) (I.ok.hd hc) it a hta its.toArray) he ⟨hit, hT⟩ hlt hne (by simp [hne, hea]) fun v h' tk hv ho hst hTo hsz hk => ?_
    have ev : v = u := by rw [hua] at hv; exact (Option.some.inj hv).symm
    subst ev
    refine ⟨_, rfl, wpAny_letOwnedTupleGo_enum (s := { s with heap := h', toks := tk + 1 }) ho fun h'' he' sb => ?_⟩
    have hT2 : h''.get? s.heap.objs.size = some { cls := .type "tuple", data := .seq #[.int i tk, v] } := (sb.2 _ (Nat.ne_of_gt hel)).trans hTo
    have new : ObjOk X.prog X.w (upd H s.heap.objs.size (.tup [.int (i : Nat), x])) h'' s.heap.objs.size (.tup [.int (i : Nat), x]) :=
      ⟨by show 2 ≤ sizeLine; decide, [.int i tk, v], .cons ⟨_, rfl⟩ (.cons ru .nil), ⟨_, hT2, rfl, _, rfl⟩⟩
    have I1 : Inv X pins σ (upd H s.heap.objs.size (.tup [.int (i : Nat), x])) { s with heap := h'', toks := tk + 1 } :=
      I.turnedNew (ch := [e, it]) (fun b ob hb q => (sb.2 b (fun z => hb (by simp [z]))).trans (hk b ob (fun z => hb (by simp [z])) (fun z => hb (by simp [z])) q)) hf (Nat.le_refl _) new
    refine ⟨.ref s.heap.objs.size, _, I1, rfl, ⟨_, x, rfl, I.hok.fresh (Nat.le_refl _), rfl, fun ys hy => by rw [I.tuple_inj hy hq]; exact hx⟩, ⟨⟨v, ?_⟩, hst.1.at fun o q => (sb.2 it (Ne.symm hne)).trans q, hne⟩, fun b hb => ?_⟩
    · have e1 : ((i + 1 : Nat) : Int) = (i : Int) + 1 := by omega
      rw [e1]; exact he'
    · have hb' : b < s.heap.objs.size := by
        have e' : b = e ∨ b = it := by simpa using hb
        rcases e' with z | z
        · rw [z]; exact hel
        · rw [z]; exact hil
      rw [upd_ne (Nat.ne_of_lt hb')]
      exact (hf b hb).1
  done := by
    intro X hP hw hK hc i pins s σ H E I hf st hg
    subst hP hw hK
    obtain ⟨⟨old, he⟩, hit, hne⟩ := st
    obtain ⟨xs, hq, hx⟩ := hg
    obtain ⟨its, rv, p, hz⟩ := I.tuple hq
    obtain ⟨f0, f1, f2, f3, f4, f5⟩ := hf it (by simp)
    have hl := rv.length
    have hT : s.heap.IsTuple a its.toArray := p
    have hta : a ≠ it := fun z => by
      obtain ⟨o1, e1, c1, _⟩ := hT
      obtain ⟨o2, e2, c2, _⟩ := hit
      rw [z, e2] at e1
      cases e1
      rw [c1] at c2
      injection c2 with c3
      exact absurd c3 (by decide)
    unfold pyNext
    have hTy : s.TypeIs (.ref e) "enumerate" := ⟨_, he, rfl⟩
    refine wpAny_bind (wpAny_attempt (wpAny_callSpecial?_slot (name := Str.ofString "__next__") hTy F.slot_enumerate_next
      (wpAny_call_entry F.slot_enumerate_next hTy F.entry_enumerate_next ?_ (F.args_enumerate_next_1 _))))
    show wpAny _ _ (field (.ref e) 2 >>= _) _ _ _
    refine wpAny_bind (wpAny_field he rfl (x := .ref it) rfl ?_)
    refine wpAny_bind (wpAny_nextOf_tuple_end (I.ok.hd hc) hit hT (by simp; omega) fun h' x he' hx' => ?_)
    obtain ⟨o, ho, hc'⟩ := hx'
    refine wpAny_bind (wpAny_isInstance (T := "StopIteration") (b := true) ⟨o, ho, hc'⟩ isSubtype_stop ?_)
    exact wpAny_pure ⟨rfl, I.turned (t' := s.toks) (fun b o hb q => he' b o hb q) f0 f1 f3 f4 f5⟩
  self := fun A i s Q E st h => let ⟨⟨_, he⟩, _⟩ := st; wpAny_pyIter_enum he h
def iEnumT (K : PySem.W.Frag) (ta : TA) : TI := fun σ H R => ta σ H fun vs H1 => ∃ a xs, vs = [.ref a] ∧ SqT K H1 a xs ∧ R (ItT K a) H1
theorem pi_enumT {X : Cx} {e : Expr} {ta : TA} {p pos tpos : Pos} {elts : List Expr} {kk : Nat} (hg : Gl X "enumerate") (hm : X.mg "enumerate" = none) (ha : PA X [e] ta) (hs : starEach [e] X.env = [(false, eval e X.env)] := by rfl) :
    PI X (.Tuple elts kk tpos) (.Call (.Name "enumerate" p) [e] [] pos) (iEnumT X.K ta) := by
  refine ⟨fun pins s σ H R I h => ?_⟩
  refine Call_ (ld_blt I hg hm boot_enumerate (PyProof.Rows.callWith_type1 (thn (ha.run pos pins s σ H _ I h) fun us s1 ⟨vs, H1, I1, r1, q1⟩ => ?_) hs rfl))
  obtain ⟨a, xs, ex, hq, q⟩ := q1
  subst ex
  cases r1 with
  | cons r rr =>
    cases rr
    cases r
    obtain ⟨its, rv, p', hz⟩ := I1.tuple hq
    refine rr_call_enumT (show s1.heap.IsTuple a its.toArray from p') fun h' he hit hsz hk => wpAny_pyIter_enum he ?_
    have I2 : Inv X pins σ H1 { s1 with heap := h' } := I1.kept (t' := s1.toks) hk
    refine ⟨s1.heap.objs.size + 1, [s1.heap.objs.size + 1, s1.heap.objs.size], _, _, H1, rfl, I2, turn_enumT a (s1.heap.objs.size + 1) s1.heap.objs.size, ⟨⟨.none, he⟩, hit, Nat.succ_ne_self _⟩, fun b hb => ?_, q⟩
    have e' : b = s1.heap.objs.size + 1 ∨ b = s1.heap.objs.size := by simpa using hb
    have hle : s1.heap.objs.size ≤ b := by
      rcases e' with z | z
      · rw [z]; exact Nat.le_add_right _ _
      · rw [z]; exact Nat.le_refl _
    exact I1.fpOk hle (I1.hok.fresh hle)
theorem walk_enumT {K : PySem.W.Frag} {a : Addr} {xs : List V} : Walk (ItT K a) xs.length (fun H => SqT K H a xs) (YPair (fun i => some (.int (i : Nat))) (fun i => xs[i]?)) := by
  refine ⟨fun i _ hi q => ⟨xs, xs[i], q, by simp [hi]⟩, fun _ q => ⟨xs, q, Nat.le_refl _⟩, fun i H v H' _ q y => ?_⟩
  obtain ⟨T, x, h1, h2, h3, h4⟩ := y
  exact ⟨T, .int (i : Nat), x, h1, h2, h3, rfl, h4 xs q⟩
end RR
namespace RR
open PySem PySem.Spec PyProof.Rows L2
section
variable {P : Program} {w : World} {K : PySem.W.Frag} {mg : Str → Option Value} {base : Heap}
/-- parted(row, byte): row a list or a tuple that stands -/
def spParted (K : PySem.W.Frag) : Sp := fun vs H Q _ => ∃ (a : Addr) (row : W) (b : Int), vs = [.ref a, .int b] ∧ (SqL K H a (wv row) ∨ WAt H a row) ∧ row.length ≤ 70000 ∧
  ∀ (H' : Hp) (p : Addr) (as : List Addr), Same H H' → H p = none → H' p = some (.lst (as.map V.ref)) → WsAt H' as (MR.parted row b) → Q (.ref p) H'
theorem pgo_len (b : Int) : ∀ (l cur : W), (MR.pgo b cur l).length ≤ l.length + 1
  | [], _ => Nat.le_refl _
  | c :: r, cur => by
    unfold MR.pgo
    split
    · have := pgo_len b r []
      simp only [List.length_cons]
      omega
    · have := pgo_len b r (cur ++ [c])
      simp only [List.length_cons]
      omega
theorem ok_parted (T : Tx K mg) : FnOk P w K mg base CX0 1 T.f_parted T.d_parted ["row", "byte"] (spParted K) := by
  refine T.parted.me.F.ok sc_parted (fun vs H Q E h => ?_) (fun cdv A outer s H vs Q E hr h => ⟨_, pss_cons (ps_set (i := 2) sc_parted.nd rfl (Or.inl rfl) (pe_lst pa_nil))
    (pss_cons (ps_set (i := 3) sc_parted.nd rfl (Or.inl rfl) pe_int)
    (pss_cons (ps_for PassesOwn.never rfl (pi_range1 rfl T.z_range (pa_cons (pe_op op_add (pe_callB call_len_seq (by rfl) T.z_len PySem.boot_len (pa_cons (pv 0) pa_nil)) pe_int) pa_nil)) (pg_name (i := 4) sc_parted.nd rfl (Or.inl rfl))
      (pss_one (ps_if (PW.pt (pw_or (pt_cmpR op_eq (pv 4) (pe_callB call_len_seq (by rfl) T.z_len PySem.boot_len (pa_cons (pv 0) pa_nil)) (nomark _)) (pw_or1 (pt_cmpR op_eq (pe_ix ix_seq (pv 0) (pv 4) (fun _ _ => rfl)) (pv 1) (nomark _)))))
        (pss_cons (ps_expr (pe_bm PySem.F.plainAttrs_list PySem.F.slot_list_append PySem.F.type_list_append mt_append (pv 2) (pa_cons (pe_callTy call_tuple_of (by rfl) T.z_tuple (by decide +kernel) (pa_cons (pe_slice (SlR.or sl_list sl_tupA) (pv 0) (po_some (pv 3)) (po_some (pv 4))) pa_nil)) pa_nil)))
          (pss_one (ps_set (i := 3) sc_parted.nd rfl (Or.inl rfl) (pe_op op_add (pv 4) pe_int))))
        pss_nil)))
    (pss_one (ps_ret (pv 2))))), ?_⟩)
  · obtain ⟨a, row, b, rfl, _⟩ := h; rfl
  · obtain ⟨a, row, b, rfl, hrow, hl, q⟩ := h
    -- the row's length, in any heap behind
    have hlen : ∀ {H' : Hp}, Same H H' → SqL K H' a (wv row) ∨ SqT K H' a (wv row) := fun s => hrow.elim (fun h => .inl (Same.seq s h)) (fun h => .inr (SqT.of (s a _ h)))
    refine ⟨by show 0 ≤ sizeLine; decide, fun p hp => ?_⟩
    have s0 : Same H (upd H p (.lst [])) := Same.new hp
    refine ⟨_, rfl, a, wv row, rfl, hlen s0, _, _, rfl, rfl, _, rfl, ?_, ?_, ?_⟩
    · rw [wv_len]; omega
    · rw [wv_len]; omega
    have en : ((wv row).length + 1 : Int).toNat = row.length + 1 := by rw [wv_len]; omega
    rw [en]
    refine for_range (lo := 0) (n := row.length + 1) (fun i σ H' => ∃ (as : List Addr) (done : List W) (bg : Nat) (v : Option V), σ = [some (.ref a), some (.int b), some (.ref p), some (.int (bg : Int)), v] ∧ Same H H' ∧ H' p = some (.lst (as.map V.ref)) ∧ WsAt H' as done ∧ as.length ≤ i ∧ bg ≤ i ∧
      (i ≤ row.length → done ++ MR.pgo b ((row.take i).drop bg) (row.drop i) = MR.parted row b) ∧ (i = row.length + 1 → done = MR.parted row b))
      ⟨[], [], 0, none, rfl, s0, upd_same, .nil, Nat.le_refl _, Nat.le_refl _, fun _ => rfl, fun z => by omega⟩ ?_ ?_
    · rintro i σ H1 hi ⟨as, done, bg, v, rfl, s1, h1, hw, hal, hbg, e1, _⟩
      have ei : (0 : Int) + (i : Int) = (i : Int) := Int.zero_add _
      show tIfS _ _ _ _ ([some (V.ref a), some (V.int b), some (V.ref p), some (V.int (bg : Int)), v].set 4 (some (V.int ((0 : Int) + (i : Int))))) H1
      rw [ei]
      -- a word more
      have app : ∀ {D : Ends}, (∀ (H2 : Hp) (t : Addr), Same H H2 → H2 p = some (.lst ((as ++ [t]).map V.ref)) → WsAt H2 (as ++ [t]) (done ++ [(row.take i).drop bg]) → D.nx [some (.ref a), some (.int b), some (.ref p), some (.int ((i : Int) + 1)), some (.int (i : Int))] H2) → i ≤ row.length →
          tSeq (tDrop (tBM K "list" rAppend (tVar 2) (tCons (tCB (fun xs H Q => ∃ p ys, xs = [.ref p] ∧ ((SqL K H p ys ∧ ∀ l, H l = none → Q (.ref l) (upd H l (.tup ys))) ∨ (SqT K H p ys ∧ Q (.ref p) H))) (tCons (tSl (fun x lo hi H Q => rSlL K x lo hi H Q ∨ rSlA K x lo hi H Q) (tVar 0) (tPart (tVar 3)) (tPart (tVar 4))) tNil)) tNil))) (tAsg (tOp (rI0 fun i j => .int (i + j)) (tVar 4) (tC (.int 1))) (gName 3)) D
            [some (.ref a), some (.int b), some (.ref p), some (.int (bg : Int)), some (.int (i : Int))] H1 := by
        intro D k hil
        refine ⟨_, rfl, .inl ⟨rfl, _, SqL.of h1⟩, _, rfl, _, rfl, _, rfl, _, rfl, _, rfl, ?_⟩
        have ecut : cutV (wv row) (some (bg : Int)) (some (i : Int)) = wv ((row.take i).drop bg) := by
          rw [cut_nat _ _ _ hbg (by rw [wv_len]; exact hil)]
          unfold wv
          rw [List.map_drop, List.map_take]
        have hsz : (as.map V.ref).length < sizeLine := by
          rw [List.length_map]
          exact szl (by omega)
        -- behind the word t
        have fin : ∀ (H2 : Hp) (t : Addr), Same H1 H2 → WAt H2 t ((row.take i).drop bg) → ∃ l xs y, (V.ref p) = .ref l ∧ [V.ref t] = [y] ∧ H2 l = some (.lst xs) ∧ xs.length < sizeLine ∧
            (fun (_ : V) (H1 : Hp) => (tAsg (tOp (rI0 fun i j => .int (i + j)) (tVar 4) (tC (.int 1))) (gName 3)) D [some (V.ref a), some (.int b), some (.ref p), some (.int (bg : Int)), some (.int (i : Int))] H1) V.non (upd H2 l (.lst (xs ++ [y]))) := by
          intro H2 t s2 ht
          have hp2 := s2 p _ h1
          refine ⟨p, _, _, rfl, rfl, hp2, hsz, ?_⟩
          refine ⟨_, rfl, _, _, rfl, rfl, ?_⟩
          have ts : TS H2 (upd H2 p (.lst (as.map V.ref ++ [V.ref t]))) := TS.lst hp2
          refine k _ t (Same.mut (Same.trans s1 s2) hp) ?_ ?_
          · rw [upd_same, List.map_append]; rfl
          · exact Paired.snoc ((hw.ts (TS.of s2)).ts ts) (ht.ts ts)
        rcases hrow with hrow | hrow
        · refine .inl ⟨a, wv row, rfl, Same.seq s1 hrow, fun q1 hq1 => ?_⟩
          refine ⟨q1, _, rfl, .inl ⟨SqL.of upd_same, fun t ht => ?_⟩⟩
          have s2 : Same H1 (upd (upd H1 q1 (.lst (cutV (wv row) (some (bg : Int)) (some (i : Int))))) t (.tup (cutV (wv row) (some (bg : Int)) (some (i : Int))))) := Same.trans (Same.new hq1) (Same.new ht)
          refine fin _ t s2 ?_
          show upd _ t _ t = _
          rw [upd_same, ecut]
        · have hT : SqT K H1 a (wv row) := SqT.of (s1 a _ hrow)
          refine .inr ⟨a, wv row, rfl, hT, fun hwhole => ?_, fun _ t ht => ?_⟩
          · refine ⟨a, wv row, rfl, .inr ⟨hT, ?_⟩⟩
            refine fin H1 a (Same.refl _) ?_
            have e2 : row = (row.take i).drop bg := by
              obtain ⟨z1, z2⟩ := hwhole
              rw [HT.sIx_nat, wv_len] at z1
              rw [HT.sIx_nat, wv_len] at z2
              have hi2 : i = row.length := by omega
              subst hi2
              rw [List.take_length]
              have hb0 : bg = 0 ∨ row.length = 0 := by omega
              rcases hb0 with z | z
              · rw [z]; rfl
              · rw [List.length_eq_zero_iff.mp z]; simp
            rw [← e2]
            exact s1 a _ hrow
          · have s2 : Same H1 (upd H1 t (.tup (cutV (wv row) (some (bg : Int)) (some (i : Int))))) := Same.new ht
            refine ⟨t, _, rfl, .inr ⟨SqT.of upd_same, ?_⟩⟩
            refine fin _ t s2 ?_
            show upd _ t _ t = _
            rw [upd_same, ecut]
      refine ⟨_, rfl, _, rfl, a, wv row, rfl, hlen s1, rfl, _, rfl, ?_⟩
      rw [wv_len, int_eq]
      by_cases hi0 : i = row.length
      · -- the end
        have e0 : decide ((i : Int) = (row.length : Int)) = true := decide_eq_true (by omega)
        rw [e0]
        refine iteT (iteT ?_)
        refine app (fun H2 t s2 h2 hw2 => ?_) (by omega)
        refine ⟨as ++ [t], done ++ [(row.take i).drop bg], i + 1, some (.int (i : Int)), rfl, s2, h2, hw2, ?_, Nat.le_refl _, fun z => by omega, fun _ => ?_⟩
        · rw [List.length_append]; show as.length + 1 ≤ i + 1; omega
        · rw [← e1 (by omega), hi0, List.drop_length]
          rfl
      · have e0 : decide ((i : Int) = (row.length : Int)) = false := decide_eq_false (by omega)
        rw [e0]
        refine iteF ?_
        have hil : i < row.length := by omega
        have hc : row[i]? = some row[i] := List.getElem?_eq_getElem hil
        have hix : rIx K (.ref a) (.int (i : Int)) H1 (fun y H2 => y = .int row[i] ∧ H2 = H1) := by
          rcases hrow with hrow | hrow
          · exact .inl ⟨a, wv row, (i : Int), _, rfl, rfl, Same.seq s1 hrow, atI_nat (wv_at hc), rfl, rfl⟩
          · exact .inr (.inl ⟨a, wv row, (i : Int), _, rfl, rfl, SqT.of (s1 a _ hrow), atI_nat (wv_at hc), rfl, rfl⟩)
        have hix2 : ∀ Q : VK, Q (.int row[i]) H1 → rIx K (.ref a) (.int (i : Int)) H1 Q := by
          intro Q hQ
          rcases hrow with hrow | hrow
          · exact .inl ⟨a, wv row, (i : Int), _, rfl, rfl, Same.seq s1 hrow, atI_nat (wv_at hc), hQ⟩
          · exact .inr (.inl ⟨a, wv row, (i : Int), _, rfl, rfl, SqT.of (s1 a _ hrow), atI_nat (wv_at hc), hQ⟩)
        refine ⟨_, rfl, _, rfl, hix2 _ ⟨_, rfl, rfl, _, rfl, ?_⟩⟩
        rw [int_eq]
        have edrop := drop_more hc
        have e1 := e1 (by omega)
        rw [edrop, MR.pgo] at e1
        by_cases hb : row[i] = b
        · rw [decide_eq_true hb]
          refine iteT ?_
          refine app (fun H2 t s2 h2 hw2 => ?_) (by omega)
          rw [if_pos hb] at e1
          refine ⟨as ++ [t], done ++ [(row.take i).drop bg], i + 1, some (.int (i : Int)), rfl, s2, h2, hw2, ?_, Nat.le_refl _, fun _ => ?_, fun z => by omega⟩
          · rw [List.length_append]; show as.length + 1 ≤ i + 1; omega
          · rw [← e1, List.append_assoc]
            have : (row.take (i + 1)).drop (i + 1) = [] := by
              apply List.drop_eq_nil_of_le
              rw [List.length_take]
              omega
            rw [this]
            rfl
        · rw [decide_eq_false hb]
          refine iteF ?_
          rw [if_neg hb] at e1
          refine ⟨as, done, bg, some (.int (i : Int)), rfl, s1, h1, hw, by omega, by omega, fun _ => ?_, fun z => by omega⟩
          rw [← e1, take_more hc, List.drop_append_of_le_length]
          rw [List.length_take]
          omega
    · rintro σ H1 ⟨as, done, bg, v, rfl, s1, h1, hw, _, _, _, e2⟩
      rw [e2 rfl] at hw
      exact ⟨_, rfl, q H1 p as s1 hp h1 hw⟩
end
end RR
namespace RR
open PySem PySem.Spec PyProof.Rows L2
/-! ### == of words -/
def wd (w : W) : PyData := .tuple (w.map PyData.int)
theorem wd_can : ∀ w : W, PyData.canLayAll0 (w.map PyData.int) = true
  | [] => rfl
  | c :: r => by
    show (PyData.canLay0 (.int c) && PyData.canLayAll0 (r.map PyData.int)) = true
    rw [wd_can r]; rfl
theorem wd_dep : ∀ w : W, PyData.depthAll (w.map PyData.int) = 0
  | [] => rfl
  | c :: r => by
    show max (PyData.depth (.int c)) (PyData.depthAll (r.map PyData.int)) = 0
    rw [wd_dep r]; rfl
theorem wd_shaped (w : W) : SeqAt.shaped (wd w) = true := by
  unfold SeqAt.shaped
  rw [show PyData.canLay0 (wd w) = PyData.canLayAll0 (w.map PyData.int) by rfl, wd_can w]
  rw [show PyData.depth (wd w) = PyData.depthAll (w.map PyData.int) + 1 by rfl, wd_dep w]
  rfl
theorem wd_eqv : ∀ v w : W, PyData.eqvAll (v.map PyData.int) (w.map PyData.int) = (v == w)
  | [], [] => rfl
  | [], _ :: _ => rfl
  | _ :: _, [] => rfl
  | a :: v, b :: w => by
    show (PyData.eqv (.int a) (.int b) && PyData.eqvAll (v.map PyData.int) (w.map PyData.int)) = ((a :: v) == (b :: w))
    rw [wd_eqv v w]
    rfl
theorem dp_ints {K : PySem.W.Frag} {H : Hp} : ∀ w : W, DpAll K H (wv w) (w.map PyData.int)
  | [] => .nil
  | c :: r => .cons (.int c) (dp_ints r)
theorem rd_weq {K : PySem.W.Frag} {H : Hp} {a b : Addr} {v w : W} {Q : VK} (ha : WAt H a v) (hb : WAt H b w) (q : Q (.bl (v == w)) H) : rEqD K (.ref a) (.ref b) H Q := by
  refine ⟨wd v, wd w, .tup (SqT.of ha) (dp_ints v), .tup (SqT.of hb) (dp_ints w), wd_shaped v, wd_shaped w, ?_⟩
  rw [show PyData.eqv (wd v) (wd w) = PyData.eqvAll (v.map PyData.int) (w.map PyData.int) by rfl, wd_eqv]
  exact q
/-! ### fields -/
theorem lk_here {k : Str} {v : V} {r : List (Str × V)} : List.lookup k ((k, v) :: r) = some v := by
  have e : (k == k) = true := beq_self_eq_true k
  simp only [List.lookup, e]
theorem lk_past {k g : Str} {v : V} {r : List (Str × V)} (h : (k == g) = false) : List.lookup k ((g, v) :: r) = List.lookup k r := by
  simp only [List.lookup, h]
theorem put_here {f : Str} {v x : V} {r : List (Str × V)} : putF f v ((f, x) :: r) = (f, v) :: r := if_pos rfl
theorem put_past {f g : Str} {v x : V} {r : List (Str × V)} (h : ¬ g = f) : putF f v ((g, x) :: r) = (g, x) :: putF f v r := if_neg h
/-! ### Race -/
def rF (m : Int) (d : Addr) : List (Str × V) := [("many", .int m), ("heads_of", .ref d)]
theorem rF_many (m : Int) (d : Addr) : (rF m d).lookup ("many" : Str) = some (.int m) := lk_here
theorem rF_heads (m : Int) (d : Addr) : (rF m d).lookup ("heads_of" : Str) = some (.ref d) := (lk_past (by decide +kernel)).trans lk_here
theorem rF_ai (m : Int) (d : Addr) : (rF m d).lookup ("all_interests" : Str) = none := (lk_past (by decide +kernel)).trans ((lk_past (by decide +kernel)).trans rfl)
theorem rF_co (m : Int) (d : Addr) : (rF m d).lookup ("couple" : Str) = none := (lk_past (by decide +kernel)).trans ((lk_past (by decide +kernel)).trans rfl)
theorem rF_new (m : Int) (d : Addr) : putF "heads_of" (.ref d) (putF "many" (.int m) []) = rF m d := (put_past (by decide +kernel)).trans rfl
def hkv (l : List (Int × Int)) : List (Key × V) := l.map fun x => ((Sum.inl x.1 : Key), V.int x.2)
/-- at r: a race, its dict of couples at d -/
structure RaceAt (C : Addr) (H : Hp) (r d : Addr) (R : MR.Race) : Prop where
  ob : ∃ dx, H r = some (.ins C dx (rF R.many d))
  di : H d = some (.dK (hkv R.heads))
  nd : (R.heads.map Prod.fst).Nodup
theorem RaceAt.same {C : Addr} {H H' : Hp} {r d : Addr} {R : MR.Race} (h : RaceAt C H r d R) (s : Same H H') : RaceAt C H' r d R :=
  ⟨let ⟨dx, e⟩ := h.ob; ⟨dx, s _ _ e⟩, s _ _ h.di, h.nd⟩
theorem RaceAt.ne {C : Addr} {H : Hp} {r d : Addr} {R : MR.Race} (h : RaceAt C H r d R) : r ≠ d := by
  obtain ⟨dx, e⟩ := h.ob
  exact ne_of e h.di (fun z => by cases z)
theorem hkv_val (l : List (Int × Int)) (n : Int) : (valV (hkv l) (Sum.inl n)).isSome = l.any fun x => x.1 == n := by
  rw [← valV_any]
  unfold hkv
  rw [List.any_map]
  congr 1
  funext x
  show decide ((Sum.inl x.1 : Key) = Sum.inl n) = (x.1 == n)
  exact key_ll _ _
theorem hkv_at : ∀ {l : List (Int × Int)} {e : Int × Int}, (l.map Prod.fst).Nodup → e ∈ l → valV (hkv l) (Sum.inl e.1) = some (.int e.2)
  | [], _, _, h => by cases h
  | x :: l, e, nd, h => by
    have nd' := List.nodup_cons.mp nd
    rcases List.mem_cons.mp h with rfl | h
    · exact valV_pos (p := ((Sum.inl e.1 : Key), V.int e.2)) rfl
    · have hne : ¬ ((Sum.inl x.1 : Key) = Sum.inl e.1) := fun z => nd'.1 (by rw [Sum.inl.inj z]; exact List.mem_map_of_mem h)
      exact (valV_neg (p := ((Sum.inl x.1 : Key), V.int x.2)) hne).trans (hkv_at nd'.2 h)
theorem hkv_put (l : List (Int × Int)) (n m : Int) (h : (l.any fun x => x.1 == n) = false) : putK (hkv l) (Sum.inl n) (.int m) = hkv (l ++ [(n, m)]) := by
  unfold putK
  have : ((hkv l).any fun kv => decide (kv.1 = Sum.inl n)) = false := by
    rw [valV_any, hkv_val, h]
  rw [this, if_neg Bool.false_ne_true]
  unfold hkv
  rw [List.map_append]
  rfl
section
variable {P : Program} {w : World} {K : PySem.W.Frag} {mg : Str → Option Value} {base : Heap}
def spRaceInit (C : Addr) : Sp := fun vs H Q _ => ∃ (p dx : Addr) (m : Int), vs = [.ref p, .int m] ∧ H p = some (.ins C dx []) ∧
  ∀ (H' : Hp) (d : Addr), RaceAt C H' p d ⟨m, []⟩ → Off p H H' → H d = none → Q .non H'
theorem ok_race_init (T : Tx K mg) : FnOk P w K mg base CX0 1 T.f_race_init T.d_race_init ["self", "many"] (spRaceInit T.cRace) := by
  refine T.race_init.F.ok sc_race_init (fun vs H Q E h => ?_) (fun cdv A outer s H vs Q E hr h => ⟨_, pss_cons (ps_fld (pv 0) (pv 1) rfl) (pss_one (ps_fld (pv 0) pe_dnewK rfl)), ?_⟩)
  · obtain ⟨p, dx, m, rfl, _⟩ := h; rfl
  · obtain ⟨p, dx, m, rfl, hp, k⟩ := h
    refine ⟨_, rfl, _, rfl, p, T.cRace, dx, [], rfl, hp, T.k_cRace, T.n_Race_many, (by show 0 < 1000; decide), ?_⟩
    intro d hd
    have npd : p ≠ d := fun z => by rw [← z, upd_same] at hd; cases hd
    have hd0 : H d = none := by rw [upd_ne (Ne.symm npd)] at hd; exact hd
    refine ⟨_, rfl, p, T.cRace, dx, _, rfl, by rw [upd_ne npd]; exact upd_same, T.k_cRace, T.n_Race_heads_of, (by show 1 < 1000; decide), ?_⟩
    refine k _ d ⟨⟨dx, upd_same.trans (congrArg (fun q => some (HO.ins T.cRace dx q)) (rF_new m d))⟩, ?_, ?_⟩ ?_ hd0
    · rw [upd_ne (Ne.symm npd)]; exact upd_same
    · exact List.nodup_nil
    · intro b o e hb
      rw [upd_ne hb, upd_ne (ne_of_none e hd0), upd_ne hb]
      exact e
def spInterests (C : Addr) : Sp := fun vs H Q _ => ∃ (r d : Addr) (R : MR.Race), vs = [.ref r] ∧ RaceAt C H r d R ∧ 0 ≤ R.many ∧ R.many ≤ 100 ∧
  ∀ (H' : Hp) (p : Addr), Same H H' → H p = none → H' p = some (.lst (R.interests.map V.int)) → Q (.ref p) H'
theorem interests_vals (R : MR.Race) (n : Nat) (h : R.many.toNat = n) : (List.range n).filterMap (fun (i : Nat) => if (R.heads.any fun x => x.1 == (1 : Int) + (i : Int)) = true then none else some (V.int (1 + (i : Int)))) = R.interests.map V.int := by
  unfold MR.Race.interests
  rw [h]
  have : ∀ l : List Nat, l.filterMap (fun (i : Nat) => if (R.heads.any fun x => x.1 == (1 : Int) + (i : Int)) = true then none else some (V.int (1 + (i : Int)))) = (((l.map fun (i : Nat) => (1 : Int) + i).filter fun n => !(R.heads.any fun x => x.1 == n))).map V.int := by
    intro l
    induction l with
    | nil => rfl
    | cons i l ih =>
      rw [List.filterMap_cons, List.map_cons, List.filter_cons]
      cases hq : (R.heads.any fun x => x.1 == (1 : Int) + (i : Int)) with
      | true => simpa using ih
      | false => simpa using ih
  exact this _
theorem ok_interests (T : Tx K mg) : FnOk P w K mg base CX0 1 T.f_race_all_interests T.d_race_all_interests ["self"] (spInterests T.cRace) := by
  refine T.race_all_interests.F.ok sc_race_all_interests (fun vs H Q E h => ?_) (fun cdv A outer s H vs Q E hr h => ⟨_, pss_one (ps_ret
    (pe_lc (own := [("runner", 1)]) (g := gName 1) (tt := tB (tDNotIn (tVar 1) (tFld K (tVar 0) "heads_of"))) rfl sc_race_all_interests.nd (pi_range2 rfl T.z_range (pa_cons pe_int (pa_cons (pe_op op_add (pe_fld (pv 0) rfl) pe_int) pa_nil))) (blkOk_by (own := [("runner", 1)]) (N := ["self", "runner"]) (sc := defScope s_race_all_interests) (by decide +kernel)) (fun _ _ _ _ _ => pg_name (i := 1) sc_race_all_interests.nd rfl (Or.inl rfl))
      (fun _ _ _ _ _ => pts_one (pt_cmp (pc_dnotin (hu_of hr) (pv 1) (pe_fld (pv 0) rfl)))) (fun _ _ _ _ _ => pv 1))), ?_⟩)
  · obtain ⟨r, d, R, rfl, _⟩ := h; rfl
  · obtain ⟨r, d, R, rfl, hR, h0, h1, q⟩ := h
    obtain ⟨dx, ho⟩ := hR.ob
    refine ⟨_, rfl, r, _, dx, _, _, rfl, ho, T.k_cRace, T.n_Race_many, rF_many _ _, _, _, rfl, rfl, _, _, rfl, ⟨by decide, by decide, by omega, by omega⟩, fun D hD => ?_⟩
    have en : (R.many + 1 - 1).toNat = R.many.toNat := by omega
    rw [en]
    refine lc_gen walk_range hD (fun _ _ => trivial) (by omega) (fun (i : Nat) => if (R.heads.any fun x => x.1 == (1 : Int) + (i : Int)) = true then none else some (V.int (1 + (i : Int)))) (fun i x H2 H3 QV QN hi s2 y hv hn => ?_) (fun H2 s2 hl => ?_)
    · obtain ⟨rfl, rfl⟩ := y
      obtain ⟨dx2, ho2⟩ := (hR.same s2).ob
      refine ⟨rfl, _, rfl, _, rfl, r, _, dx2, _, _, rfl, ho2, T.k_cRace, T.n_Race_heads_of, rF_heads _ _, d, _, rfl, DGet.k (k := Sum.inl (1 + (i : Int))) (hR.same s2).di, _, rfl, ?_⟩
      rw [hkv_val]
      cases hq : (R.heads.any fun x => x.1 == (1 : Int) + (i : Int)) with
      | true => exact iteF (hn (by rw [hq]; rfl) _ (Same.refl _))
      | false => exact iteT ⟨_, rfl, hv _ _ (by rw [hq]; rfl) (Same.refl _)⟩
    · rw [interests_vals R _ rfl] at hl
      exact q H2 D s2 hD hl
def spCouple (C CR : Addr) : Sp := fun vs H Q E => ∃ (r d : Addr) (R : MR.Race) (a b : Int), vs = [.ref r, .int a, .int b] ∧ RaceAt C H r d R ∧ R.heads.length ≤ 70000 ∧
  (MR.coupleOk R.many R.heads a b = false → Ref CR E [-8]) ∧
  (MR.coupleOk R.many R.heads a b = true → ∀ H' : Hp, RaceAt C H' r d ⟨R.many, R.heads ++ [(b, a)]⟩ → Off d H H' → Q .non H')
theorem ok_couple (T : Tx K mg) : FnOk P w K mg base (L2.CX P w) 5 T.f_race_couple T.d_race_couple ["self", "one", "other"] (spCouple T.cRace T.cRefused) := by
  have G : FnOk P w K mg base (L2.CX P w) 4 T.f_need_cards T.d_need_cards ["is_so"] (spNeedC T.cRefused) := ok_need_cards T
  refine T.race_couple.F.okX sc_race_couple (fun vs H Q E h => ?_) (fun cdv A outer s H vs Q E hr h => ⟨_,
    pss_cons (ps_expr (pe_call G hr rfl T.need_cards.g T.need_cards.me.F.kp T.need_cards.me.b .nil (psx (E := E) (takes_of rfl rfl rfl rfl)) (by exact (pa_cons (pe_and (pe_chain3 op_le op_lt op_le pe_int (pv 1) (pv 2) (pe_fld (pv 0) rfl)) (pe_one (pe_cmp (pc_dnotin (hu_of hr) (pv 1) (pe_fld (pv 0) rfl))))) pa_nil))))
    (pss_cons (ps_expr (pe_call G hr rfl T.need_cards.g T.need_cards.me.F.kp T.need_cards.me.b .nil (psx (E := E) (takes_of rfl rfl rfl rfl)) (by exact (pa_cons (pe_and (pe_cmp (pc_dnotin (hu_of hr) (pv 2) (pe_fld (pv 0) rfl))) (pe_one (pe_cmpR op_notIn_seq (pv 2)
        (pe_lock (pe_lc (own := [("runner", 3)]) (g := gName 3) (tt := tYes) (te := tDGet (tFld K (tVar 0) "heads_of") (tVar 3)) rfl sc_race_couple.nd (pi_keys (pe_fld (pv 0) rfl)) (blkOk_by (own := [("runner", 3)]) (N := ["self", "one", "other", "runner"]) (sc := defScope s_race_couple) (by decide +kernel)) (fun _ _ _ _ _ => pg_name (i := 3) sc_race_couple.nd rfl (Or.inl rfl)) (fun _ _ _ _ _ => pts_nil)
          (fun _ _ _ _ _ => pe_dget (hu_of hr) (pe_fld (pv 0) rfl) (pv 3) (fun _ _ => rfl)))) (by rfl)))) pa_nil))))
    (pss_one (ps_dput (hu_of hr) (pe_fld (pv 0) rfl) (pv 2) (pv 1) rfl))), ?_⟩)
  · obtain ⟨r, d, R, a, b, rfl, _⟩ := h; rfl
  · obtain ⟨r, d, R, a, b, rfl, hR, hl, qE, qO⟩ := h
    obtain ⟨dx, ho⟩ := hR.ob
    -- the first test
    have t1 : ∀ Q' : VK, Q' (.bl (decide (1 ≤ a) && (decide (a < b) && (decide (b ≤ R.many) && !(R.heads.any fun x => x.1 == a))))) H →
        tAndV (tChain3 (rI0 fun i j => .bl (decide (i ≤ j))) (rI0 fun i j => .bl (decide (i < j))) (rI0 fun i j => .bl (decide (i ≤ j))) (tC (.int 1)) (tVar 1) (tVar 2) (tFld K (tVar 0) "many")) (tDNotIn (tVar 1) (tFld K (tVar 0) "heads_of")) [some (V.ref r), some (.int a), some (.int b), none] H Q' := by
      intro Q' q'
      refine ⟨_, rfl, _, _, rfl, rfl, _, rfl, ?_⟩
      cases h1 : decide (1 ≤ a) with
      | false => rw [h1] at q'; exact iteF ⟨_, rfl, iteF q'⟩
      | true =>
        rw [h1] at q'
        refine iteT ⟨_, rfl, _, _, rfl, rfl, _, rfl, ?_⟩
        cases h2 : decide (a < b) with
        | false => rw [h2] at q'; exact iteF ⟨_, rfl, iteF q'⟩
        | true =>
          rw [h2] at q'
          refine iteT ⟨_, rfl, r, _, dx, _, _, rfl, ho, T.k_cRace, T.n_Race_many, rF_many _ _, _, _, rfl, rfl, _, rfl, ?_⟩
          cases h3 : decide (b ≤ R.many) with
          | false => rw [h3] at q'; exact iteF q'
          | true =>
            rw [h3] at q'
            refine iteT ⟨_, rfl, _, rfl, r, _, dx, _, _, rfl, ho, T.k_cRace, T.n_Race_heads_of, rF_heads _ _, d, _, rfl, DGet.k (k := Sum.inl a) hR.di, ?_⟩
            rw [hkv_val]
            exact q'
    have e0 : MR.coupleOk R.many R.heads a b = ((decide (1 ≤ a) && (decide (a < b) && (decide (b ≤ R.many) && !(R.heads.any fun x => x.1 == a)))) && (!(R.heads.any fun x => x.1 == b) && !(R.heads.any fun x => x.2 == b))) := rfl
    refine t1 _ ⟨_, rfl, fun hb1 => ?_, fun hb1 => qE (by rw [e0, hb1]; rfl)⟩
    rw [hb1, Bool.true_and] at e0
    -- the second
    refine ⟨_, rfl, _, rfl, r, _, dx, _, _, rfl, ho, T.k_cRace, T.n_Race_heads_of, rF_heads _ _, d, _, rfl, DGet.k (k := Sum.inl b) hR.di, _, rfl, ?_⟩
    rw [hkv_val]
    cases h4 : (R.heads.any fun x => x.1 == b) with
    | true =>
      refine iteF ⟨_, rfl, (fun z => Bool.noConfusion z), (fun _ => qE ?_)⟩
      rw [e0, h4]; rfl
    | false =>
      rw [h4, Bool.not_false, Bool.true_and] at e0
      refine iteT ⟨_, rfl, d, _, hR.di, trivial, fun od => ?_⟩
      have hrd := hR.ne
      have hf : (upd H d (.frz od (.dK (hkv R.heads)))) d = some (.frz od (.dK (hkv R.heads))) := upd_same
      have hor : (upd H d (.frz od (.dK (hkv R.heads)))) r = some (.ins T.cRace dx (rF R.many d)) := by rw [upd_ne hrd]; exact ho
      refine ⟨_, rfl, r, _, dx, _, _, rfl, hor, T.k_cRace, T.n_Race_heads_of, rF_heads _ _, d, od, rfl, .inl ⟨_, hf, fun D hD => ?_⟩⟩
      have nd : (R.heads.map fun x => V.int x.2).length = (hkv R.heads).length := by unfold hkv; simp
      refine lc_vals walk_keys hD (fun H' s' => s' _ _ hf) (by rw [← nd, List.length_map]; omega) (R.heads.map fun x => V.int x.2) nd (fun i x v H2 H3 QV hv s1 y hq => ?_) gName_mono (fun H2 s2 hl2 => ?_)
      · obtain ⟨rfl, k0, v0, hk, rfl⟩ := y
        obtain ⟨e1, he1⟩ : ∃ e1, R.heads[i]? = some e1 := by
          cases q0 : R.heads[i]? with
          | none => rw [List.getElem?_map, q0] at hv; cases hv
          | some e1 => exact ⟨e1, rfl⟩
        rw [List.getElem?_map, he1] at hv
        have hv := Option.some.inj hv
        subst hv
        unfold hkv at hk
        rw [List.getElem?_map, he1] at hk
        have hk := Option.some.inj hk
        have hk1 : (Sum.inl e1.1 : Key) = k0 := congrArg Prod.fst hk
        subst hk1
        have hz := hkv_at hR.nd (List.mem_of_getElem? he1)
        exact ⟨rfl, _, rfl, r, _, dx, _, _, rfl, s1 _ _ hor, T.k_cRace, T.n_Race_heads_of, rF_heads _ _, _, rfl, d, .int e1.2, rfl, .inl ⟨hkv R.heads, Sum.inl e1.1, .inr ⟨od, s1 _ _ hf⟩, rfl, hz.symm⟩, hq _ (Same.refl _)⟩
      · have hfd : H2 d = some (.frz od (.dK (hkv R.heads))) := s2 _ _ hf
        have nDd : D ≠ d := fun z => by rw [z, hf] at hD; cases hD
        -- behind the lock all is as it was, and the list is new
        have sm : Same H (upd H2 d (.dK (hkv R.heads))) := fun c o e => by
          by_cases hc : c = d
          · rw [hc] at e ⊢
            rw [upd_same, ← hR.di]
            exact e
          · rw [upd_ne hc]
            exact s2 c o (by rw [upd_ne hc]; exact e)
        have hinv : inV (.int b) (R.heads.map fun x => V.int x.2) = R.heads.any fun x => x.2 == b := by
          unfold inV
          rw [List.any_map]
          rfl
        refine ⟨hfd, D, _, rfl, .inl (SqL.of (by rw [upd_ne nDd]; exact hl2)), rfl, by rw [List.all_map]; exact List.all_eq_true.mpr fun _ _ => rfl, ?_⟩
        rw [if_pos rfl, hinv]
        refine ⟨_, rfl, fun z => ?_, fun z => qE (by rw [e0, z])⟩
        have hR2 := hR.same sm
        obtain ⟨dx2, ho2⟩ := hR2.ob
        refine ⟨_, rfl, _, rfl, r, _, dx2, _, _, rfl, ho2, T.k_cRace, T.n_Race_heads_of, rF_heads _ _, ?_⟩
        refine ⟨_, rfl, d, _, rfl, DPut.k (k := Sum.inl b) hR2.di (by unfold hkv; rw [List.length_map]; exact szl (by omega)), ?_⟩
        refine qO (by rw [e0, z]) _ ⟨⟨dx2, ?_⟩, ?_, ?_⟩ ?_
        · rw [upd_ne hrd]; exact ho2
        · rw [upd_same, hkv_put _ _ _ h4]
        · show ((R.heads ++ [(b, a)]).map Prod.fst).Nodup
          rw [List.map_append, List.nodup_append]
          refine ⟨hR.nd, by simp, fun x hx y hy => ?_⟩
          have hy : y = b := by simpa using hy
          subst hy
          intro hxy
          subst hxy
          obtain ⟨e1, he1, rfl⟩ := List.mem_map.mp hx
          have : (R.heads.any fun x => x.1 == e1.1) = true := List.any_eq_true.mpr ⟨e1, he1, beq_self_eq_true _⟩
          rw [h4] at this
          cases this
        · exact Off.trans (Off.of sm) Off.upd
end
end RR
namespace RR
open PySem PySem.Spec PyProof.Rows L2
theorem putF_len (f : Str) (v : V) : ∀ fs : List (Str × V), (putF f v fs).length ≤ fs.length + 1
  | [] => Nat.le_refl _
  | p :: r => by
    unfold putF
    split
    · exact Nat.le_succ _
    · exact Nat.succ_le_succ (putF_len f v r)
/-! ### Pool -/
def pF (k m r : Int) : List (Str × V) := [("kind", .int k), ("many", .int m), ("race", .int r)]
theorem pF_kind (k m r : Int) : (pF k m r).lookup ("kind" : Str) = some (.int k) := lk_here
theorem pF_many (k m r : Int) : (pF k m r).lookup ("many" : Str) = some (.int m) := (lk_past (by decide +kernel)).trans lk_here
theorem pF_race (k m r : Int) : (pF k m r).lookup ("race" : Str) = some (.int r) := (lk_past (by decide +kernel)).trans ((lk_past (by decide +kernel)).trans lk_here)
theorem pF_ir (k m r : Int) : (pF k m r).lookup ("its_races" : Str) = none := (lk_past (by decide +kernel)).trans ((lk_past (by decide +kernel)).trans ((lk_past (by decide +kernel)).trans rfl))
theorem pF_new (k m r : Int) : putF "race" (.int r) (putF "many" (.int m) (putF "kind" (.int k) [])) = pF k m r := by
  rw [show putF "kind" (.int k) [] = [(("kind" : Str), V.int k)] from rfl, put_past (by decide +kernel), show putF "many" (.int m) [] = [(("many" : Str), V.int m)] from rfl, put_past (by decide +kernel), put_past (by decide +kernel)]
  rfl
def PoolAt (C : Addr) (H : Hp) (p : Addr) (k m r : Int) : Prop := ∃ dx, H p = some (.ins C dx (pF k m r))
/-! ### Card -/
def cF (lr lp dn : Addr) : List (Str × V) := [("races", .ref lr), ("pools", .ref lp), ("names", .ref dn)]
theorem cF_races (a b c : Addr) : (cF a b c).lookup ("races" : Str) = some (.ref a) := lk_here
theorem cF_pools (a b c : Addr) : (cF a b c).lookup ("pools" : Str) = some (.ref b) := (lk_past (by decide +kernel)).trans lk_here
theorem cF_names (a b c : Addr) : (cF a b c).lookup ("names" : Str) = some (.ref c) := (lk_past (by decide +kernel)).trans ((lk_past (by decide +kernel)).trans lk_here)
theorem cF_ra (a b c : Addr) : (cF a b c).lookup ("race_at" : Str) = none := (lk_past (by decide +kernel)).trans ((lk_past (by decide +kernel)).trans ((lk_past (by decide +kernel)).trans rfl))
theorem cF_new (a b c : Addr) : putF "names" (.ref c) (putF "pools" (.ref b) (putF "races" (.ref a) [])) = cF a b c := by
  rw [show putF "races" (.ref a) [] = [(("races" : Str), V.ref a)] from rfl, put_past (by decide +kernel), show putF "pools" (.ref b) [] = [(("pools" : Str), V.ref b)] from rfl, put_past (by decide +kernel), put_past (by decide +kernel)]
  rfl
/-- names as keys -/
def nkv (l : List W) : List (List Key × V) := l.map fun w => (w.map (fun c => (Sum.inl c : Key)), V.bl true)
abbrev RacesAt (C : Addr) (H : Hp) (ra : List (Addr × Addr)) (rs : List MR.Race) : Prop := Paired (fun (x : Addr × Addr) R => RaceAt C H x.1 x.2 R ∧ 0 ≤ R.many ∧ R.many ≤ 100) ra rs
theorem RacesAt.same {C : Addr} {H H' : Hp} (s : Same H H') : ∀ {ra : List (Addr × Addr)} {rs : List MR.Race}, RacesAt C H ra rs → RacesAt C H' ra rs
  | _, _, .nil => .nil
  | _, _, .cons h r => .cons ⟨h.1.same s, h.2⟩ (RacesAt.same s r)
/-- at c: a card; its lists at lr, lp, its dict of names at dn; ra: its races and their dicts -/
structure CardAt (CC CRc : Addr) (H : Hp) (c lr lp dn : Addr) (ra : List (Addr × Addr)) (M : MR.Card) : Prop where
  ob : ∃ dx, H c = some (.ins CC dx (cF lr lp dn))
  fr : H lr = some (.lst (ra.map fun x => V.ref x.1))
  rs : RacesAt CRc H ra M.races
  fp : ∃ ps : List V, H lp = some (.lst ps) ∧ ps.length = M.pools
  fn : H dn = some (.dT (nkv M.names))
  nrp : lr ≠ lp
theorem nkv_key (w : W) : (w.map (fun c => (Sum.inl c : Key))).map kV = wv w := by
  unfold wv
  rw [List.map_map]
  rfl
theorem inl_map_inj : ∀ {v w : W}, v.map (fun c => (Sum.inl c : Key)) = w.map (fun c => (Sum.inl c : Key)) → v = w
  | [], [], _ => rfl
  | [], _ :: _, h => by cases h
  | _ :: _, [], h => by cases h
  | a :: v, b :: w, h => by
    have h1 := List.cons.inj h
    rw [Sum.inl.inj h1.1, inl_map_inj h1.2]
theorem nkv_val (l : List W) (w : W) : (valV (nkv l) (w.map (fun c => (Sum.inl c : Key)))).isSome = decide (w ∈ l) := by
  rw [← valV_any]
  unfold nkv
  rw [List.any_map, Bool.eq_iff_iff, List.any_eq_true, decide_eq_true_eq]
  constructor
  · rintro ⟨v, hv, e⟩
    have := inl_map_inj (of_decide_eq_true e)
    exact this ▸ hv
  · intro h
    exact ⟨w, h, decide_eq_true rfl⟩
theorem nkv_put (l : List W) (w : W) (h : w ∉ l) : putK (nkv l) (w.map (fun c => (Sum.inl c : Key))) (.bl true) = nkv (l ++ [w]) := by
  unfold putK
  have : ((nkv l).any fun kv => decide (kv.1 = w.map (fun c => (Sum.inl c : Key)))) = false := by
    rw [valV_any, nkv_val, decide_eq_false h]
  rw [this, if_neg Bool.false_ne_true]
  unfold nkv
  rw [List.map_append]
  rfl
/-! ### Line -/
def lF (lw : Addr) (k : Int) : List (Str × V) := [("words", .ref lw), ("at", .int k)]
theorem lF_words (a : Addr) (k : Int) : (lF a k).lookup ("words" : Str) = some (.ref a) := lk_here
theorem lF_at (a : Addr) (k : Int) : (lF a k).lookup ("at" : Str) = some (.int k) := (lk_past (by decide +kernel)).trans lk_here
theorem lF_hm (a : Addr) (k : Int) : (lF a k).lookup ("has_more" : Str) = none := (lk_past (by decide +kernel)).trans ((lk_past (by decide +kernel)).trans rfl)
theorem lF_word (a : Addr) (k : Int) : (lF a k).lookup ("word" : Str) = none := (lk_past (by decide +kernel)).trans ((lk_past (by decide +kernel)).trans rfl)
theorem lF_must (a : Addr) (k : Int) : (lF a k).lookup ("must" : Str) = none := (lk_past (by decide +kernel)).trans ((lk_past (by decide +kernel)).trans rfl)
theorem lF_number (a : Addr) (k : Int) : (lF a k).lookup ("number" : Str) = none := (lk_past (by decide +kernel)).trans ((lk_past (by decide +kernel)).trans rfl)
theorem lF_choice (a : Addr) (k : Int) : (lF a k).lookup ("choice" : Str) = none := (lk_past (by decide +kernel)).trans ((lk_past (by decide +kernel)).trans rfl)
theorem lF_end (a : Addr) (k : Int) : (lF a k).lookup ("end" : Str) = none := (lk_past (by decide +kernel)).trans ((lk_past (by decide +kernel)).trans rfl)
theorem lF_new (a : Addr) (k : Int) : putF "at" (.int k) (putF "words" (.ref a) []) = lF a k := (put_past (by decide +kernel)).trans rfl
theorem lF_put (a : Addr) (k z : Int) : putF "at" (.int z) (lF a k) = lF a z := (put_past (by decide +kernel)).trans (congrArg _ put_here)
/-- at a: a line whose words stand in the list at lw; l: those not taken yet -/
structure LineAt (C : Addr) (H : Hp) (a lw : Addr) (l : List W) : Prop where
  ex : ∃ (dx : Addr) (ws : List W) (k : Nat) (as : List Addr), H a = some (.ins C dx (lF lw (k : Int))) ∧ H lw = some (.lst (as.map V.ref)) ∧ WsAt H as ws ∧ ws.drop k = l ∧ k ≤ ws.length ∧ ws.length ≤ 70000 ∧ ∀ v ∈ ws, v.length ≤ 70000
/-- it stands where its own objects do -/
theorem LineAt.keep {C : Addr} {H H' : Hp} {a lw : Addr} {l : List W} (h : LineAt C H a lw l) (s : ∀ b o, H b = some o → (b = a ∨ b = lw ∨ ∃ xs, o = .tup xs) → H' b = some o) : LineAt C H' a lw l := by
  obtain ⟨dx, ws, k, as, h1, h2, h3, h4, h5, h6, h7⟩ := h.ex
  exact ⟨dx, ws, k, as, s _ _ h1 (.inl rfl), s _ _ h2 (.inr (.inl rfl)), h3.ts (fun x xs e => s _ _ e (.inr (.inr ⟨xs, rfl⟩))), h4, h5, h6, h7⟩
theorem LineAt.same {C : Addr} {H H' : Hp} {a lw : Addr} {l : List W} (h : LineAt C H a lw l) (s : Same H H') : LineAt C H' a lw l := h.keep fun b o e _ => s b o e
section
variable {P : Program} {w : World} {K : PySem.W.Frag} {mg : Str → Option Value} {base : Heap}
def spPoolInit (C : Addr) : Sp := fun vs H Q _ => ∃ (p dx : Addr) (k m r : Int), vs = [.ref p, .int k, .int m, .int r] ∧ H p = some (.ins C dx []) ∧
  ∀ H' : Hp, PoolAt C H' p k m r → Off p H H' → Q .non H'
theorem ok_pool_init (T : Tx K mg) : FnOk P w K mg base CX0 1 T.f_pool_init T.d_pool_init ["self", "kind", "many", "race"] (spPoolInit T.cPool) := by
  refine T.pool_init.F.ok sc_pool_init (fun vs H Q E h => ?_) (fun cdv A outer s H vs Q E hr h => ⟨_, pss_cons (ps_fld (pv 0) (pv 1) rfl) (pss_cons (ps_fld (pv 0) (pv 2) rfl) (pss_one (ps_fld (pv 0) (pv 3) rfl))), ?_⟩)
  · obtain ⟨p, dx, k, m, r, rfl, _⟩ := h; rfl
  · obtain ⟨p, dx, k, m, r, rfl, hp, q⟩ := h
    refine ⟨_, rfl, _, rfl, p, T.cPool, dx, [], rfl, hp, T.k_cPool, T.n_Pool_kind, (by show 0 < 1000; decide), ?_⟩
    refine ⟨_, rfl, _, rfl, p, T.cPool, dx, _, rfl, upd_same, T.k_cPool, T.n_Pool_many, (by show 1 < 1000; decide), ?_⟩
    refine ⟨_, rfl, _, rfl, p, T.cPool, dx, _, rfl, upd_same, T.k_cPool, T.n_Pool_race, Nat.lt_of_le_of_lt (Nat.le_trans (putF_len _ _ _) (Nat.succ_le_succ (putF_len _ _ _))) (by decide), ?_⟩
    refine q _ ⟨dx, upd_same.trans (congrArg (fun q => some (HO.ins T.cPool dx q)) (pF_new k m r))⟩ fun b o e hb => ?_
    rw [upd_ne hb, upd_ne hb, upd_ne hb]
    exact e
def spItsRaces (C : Addr) : Sp := fun vs H Q _ => ∃ (p : Addr) (k m r : Int), vs = [.ref p] ∧ PoolAt C H p k m r ∧ (0 ≤ r ∧ r ≤ 100) ∧ (0 ≤ m ∧ m ≤ 100) ∧
  ∀ (H' : Hp) (l : Addr), Same H H' → H l = none → H' l = some (.lst (rgV r (r + if k = 3 then m else 1))) → Q (.ref l) H'
theorem ok_its_races (T : Tx K mg) : FnOk P w K mg base CX0 1 T.f_pool_its_races T.d_pool_its_races ["self"] (spItsRaces T.cPool) := by
  refine T.pool_its_races.F.ok sc_pool_its_races (fun vs H Q E h => ?_) (fun cdv A outer s H vs Q E hr h => ⟨_, pss_one (ps_ret (pe_listRg rfl rfl T.z_list (prg_2 rfl T.z_range (pe_fld (pv 0) rfl) (pe_op op_add (pe_fld (pv 0) rfl) (pe_ifExp (pt_cmpR op_eq (pe_fld (pv 0) rfl) (pe_k rfl T.g_LEGS) (nomark _)) (pe_fld (pv 0) rfl) pe_int))))), ?_⟩)
  · obtain ⟨p, k, m, r, rfl, _⟩ := h; rfl
  · obtain ⟨p, k, m, r, rfl, ⟨dx, hp⟩, hr0, hm0, q⟩ := h
    refine ⟨_, rfl, p, _, dx, _, _, rfl, hp, T.k_cPool, T.n_Pool_race, pF_race _ _ _, _, rfl, p, _, dx, _, _, rfl, hp, T.k_cPool, T.n_Pool_race, pF_race _ _ _, _, rfl, p, _, dx, _, _, rfl, hp, T.k_cPool, T.n_Pool_kind, pF_kind _ _ _, rfl, _, rfl, ?_⟩
    rw [int_eq]
    by_cases hk : k = 3
    · rw [if_pos hk] at q
      rw [decide_eq_true hk]
      refine iteT ⟨_, rfl, p, _, dx, _, _, rfl, hp, T.k_cPool, T.n_Pool_many, pF_many _ _ _, _, _, rfl, rfl, _, _, rfl, rfl, .of_le (by omega) (by omega) (by omega) (by omega), fun l hl => ?_⟩
      exact q _ l (Same.new hl) hl upd_same
    · rw [if_neg hk] at q
      rw [decide_eq_false hk]
      refine iteF ⟨_, _, rfl, rfl, _, _, rfl, rfl, .of_le (by omega) (by omega) (by omega) (by omega), fun l hl => ?_⟩
      exact q _ l (Same.new hl) hl upd_same
def spCardInit (CC CRc : Addr) : Sp := fun vs H Q _ => ∃ (p dx : Addr), vs = [.ref p] ∧ H p = some (.ins CC dx []) ∧
  ∀ (H' : Hp) (lr lp dn : Addr), CardAt CC CRc H' p lr lp dn [] ⟨[], 0, []⟩ → Off p H H' → H lr = none → H lp = none → H dn = none → Q .non H'
theorem ok_card_init (T : Tx K mg) : FnOk P w K mg base CX0 1 T.f_card_init T.d_card_init ["self"] (spCardInit T.cCard T.cRace) := by
  refine T.card_init.F.ok sc_card_init (fun vs H Q E h => ?_) (fun cdv A outer s H vs Q E hr h => ⟨_, pss_cons (ps_fld (pv 0) (pe_lst pa_nil) rfl) (pss_cons (ps_fld (pv 0) (pe_lst pa_nil) rfl) (pss_one (ps_fld (pv 0) pe_dnewT rfl))), ?_⟩)
  · obtain ⟨p, dx, rfl, _⟩ := h; rfl
  · obtain ⟨p, dx, rfl, hp, q⟩ := h
    refine ⟨by show 0 ≤ sizeLine; decide, fun lr hlr => ?_⟩
    have n1 : lr ≠ p := fun z => by rw [z, hp] at hlr; cases hlr
    refine ⟨_, rfl, p, T.cCard, dx, [], rfl, by rw [upd_ne (Ne.symm n1)]; exact hp, T.k_cCard, T.n_Card_races, (by show 0 < 1000; decide), ?_⟩
    refine ⟨by show 0 ≤ sizeLine; decide, fun lp hlp => ?_⟩
    have n2 : lp ≠ p := fun z => by rw [z, upd_same] at hlp; cases hlp
    rw [upd_ne n2] at hlp
    have n3 : lp ≠ lr := fun z => by rw [z, upd_same] at hlp; cases hlp
    rw [upd_ne n3] at hlp
    refine ⟨_, rfl, p, T.cCard, dx, _, rfl, by rw [upd_ne (Ne.symm n2)]; exact upd_same, T.k_cCard, T.n_Card_pools, (by show 1 < 1000; decide), ?_⟩
    intro dn hdn
    have n4 : dn ≠ p := fun z => by rw [z, upd_same] at hdn; cases hdn
    rw [upd_ne n4] at hdn
    have n5 : dn ≠ lp := fun z => by rw [z, upd_same] at hdn; cases hdn
    rw [upd_ne n5, upd_ne n4] at hdn
    have n6 : dn ≠ lr := fun z => by rw [z, upd_same] at hdn; cases hdn
    rw [upd_ne n6] at hdn
    refine ⟨_, rfl, p, T.cCard, dx, _, rfl, by rw [upd_ne (Ne.symm n4)]; exact upd_same, T.k_cCard, T.n_Card_names, Nat.lt_of_le_of_lt (Nat.le_trans (putF_len _ _ _) (Nat.succ_le_succ (putF_len _ _ _))) (by decide), ?_⟩
    refine q _ lr lp dn ⟨⟨dx, upd_same.trans (congrArg (fun q => some (HO.ins T.cCard dx q)) (cF_new lr lp dn))⟩, ?_, .nil, ⟨[], ?_, rfl⟩, ?_, Ne.symm n3⟩ (fun b o e hb => ?_) hlr hlp hdn
    · rw [upd_ne n1, upd_ne (Ne.symm n6), upd_ne n1, upd_ne (Ne.symm n3), upd_ne n1]; exact upd_same
    · rw [upd_ne n2, upd_ne (Ne.symm n5), upd_ne n2]; exact upd_same
    · rw [upd_ne n4]; exact upd_same
    · rw [upd_ne hb, upd_ne (ne_of_none e hdn), upd_ne hb, upd_ne (ne_of_none e hlp), upd_ne hb, upd_ne (ne_of_none e hlr)]
      exact e
def spRaceAt (CC CRc : Addr) : Sp := fun vs H Q _ => ∃ (c lr lp dn : Addr) (ra : List (Addr × Addr)) (M : MR.Card) (n : Int), vs = [.ref c, .int n] ∧ CardAt CC CRc H c lr lp dn ra M ∧ 1 ≤ n ∧ n ≤ (M.races.length : Int) ∧
  ∀ r d, RaceAt CRc H r d (MR.raceAt M.races n) → (0 ≤ (MR.raceAt M.races n).many ∧ (MR.raceAt M.races n).many ≤ 100) → (r, d) ∈ ra → Q (.ref r) H
theorem ok_race_at (T : Tx K mg) : FnOk P w K mg base CX0 1 T.f_card_race_at T.d_card_race_at ["self", "number"] (spRaceAt T.cCard T.cRace) := by
  refine T.card_race_at.F.ok sc_card_race_at (fun vs H Q E h => ?_) (fun cdv A outer s H vs Q E hr h => ⟨_, pss_one (ps_ret (pe_ix ix_list (pe_fld (pv 0) rfl) (pe_op op_sub (pv 1) pe_int) (fun _ _ => rfl))), ?_⟩)
  · obtain ⟨c, lr, lp, dn, ra, M, n, rfl, _⟩ := h; rfl
  · obtain ⟨c, lr, lp, dn, ra, M, n, rfl, hC, h1, h2, q⟩ := h
    obtain ⟨dx, ho⟩ := hC.ob
    have hlen := Paired.len hC.rs
    have hi : n.toNat - 1 < M.races.length := by omega
    obtain ⟨x, hx, hr1, hr2⟩ := Paired.get hC.rs (List.getElem?_eq_getElem hi)
    have eR : MR.raceAt M.races n = M.races[n.toNat - 1] := by
      unfold MR.raceAt
      rw [List.getD_eq_getElem?_getD, List.getElem?_eq_getElem hi]
      rfl
    have en : n - 1 = ((n.toNat - 1 : Nat) : Int) := by omega
    refine ⟨_, rfl, c, _, dx, _, _, rfl, ho, T.k_cCard, T.n_Card_races, cF_races _ _ _, _, rfl, _, _, rfl, rfl, lr, _, _, V.ref x.1, rfl, rfl, SqL.of hC.fr, ?_, ?_⟩
    · rw [en]
      exact atI_nat (by rw [List.getElem?_map, hx]; rfl)
    · exact q x.1 x.2 (by rw [eR]; exact hr1) (by rw [eR]; exact hr2) (List.mem_of_getElem? hx)
def spLineInit (C : Addr) : Sp := fun vs H Q _ => ∃ (p dx lw : Addr) (as : List Addr) (ws : List W), vs = [.ref p, .ref lw] ∧ H p = some (.ins C dx []) ∧ H lw = some (.lst (as.map V.ref)) ∧ WsAt H as ws ∧ ws.length ≤ 70000 ∧ (∀ v ∈ ws, v.length ≤ 70000) ∧
  ∀ H' : Hp, LineAt C H' p lw ws → Off p H H' → Q .non H'
theorem ok_line_init (T : Tx K mg) : FnOk P w K mg base CX0 1 T.f_line_init T.d_line_init ["self", "words"] (spLineInit T.cLine) := by
  refine T.line_init.F.ok sc_line_init (fun vs H Q E h => ?_) (fun cdv A outer s H vs Q E hr h => ⟨_, pss_cons (ps_fld (pv 0) (pv 1) rfl) (pss_one (ps_fld (pv 0) pe_int rfl)), ?_⟩)
  · obtain ⟨p, dx, lw, as, ws, rfl, _⟩ := h; rfl
  · obtain ⟨p, dx, lw, as, ws, rfl, hp, hl, hw, hz, hv, q⟩ := h
    refine ⟨_, rfl, _, rfl, p, T.cLine, dx, [], rfl, hp, T.k_cLine, T.n_Line_words, (by show 0 < 1000; decide), ?_⟩
    refine ⟨_, rfl, p, T.cLine, dx, _, rfl, upd_same, T.k_cLine, T.n_Line_at, (by show 1 < 1000; decide), ?_⟩
    have npl : lw ≠ p := fun z => by rw [z, hp] at hl; cases hl
    have off : Off p H (upd (upd H p (.ins T.cLine dx (putF "words" (.ref lw) []))) p (.ins T.cLine dx (putF "at" (.int 0) (putF "words" (.ref lw) [])))) := fun b o e hb => by
      rw [upd_ne hb, upd_ne hb]; exact e
    refine q _ ⟨dx, ws, 0, as, upd_same.trans (congrArg (fun q => some (HO.ins T.cLine dx q)) (lF_new lw 0)), off _ _ hl npl, hw.ts (off.ts hp (fun xs z => by cases z)), rfl, Nat.zero_le _, hz, hv⟩ off
def spHasMore (C : Addr) : Sp := fun vs H Q _ => ∃ (a lw : Addr) (l : List W), vs = [.ref a] ∧ LineAt C H a lw l ∧ Q (.bl (!l.isEmpty)) H
theorem ok_has_more (T : Tx K mg) : FnOk P w K mg base CX0 1 T.f_line_has_more T.d_line_has_more ["self"] (spHasMore T.cLine) := by
  refine T.line_has_more.F.ok sc_line_has_more (fun vs H Q E h => ?_) (fun cdv A outer s H vs Q E hr h => ⟨_, pss_one (ps_ret (pe_cmpR op_lt (pe_fld (pv 0) rfl) (pe_callB call_len_seq (by rfl) T.z_len PySem.boot_len (pa_cons (pe_fld (pv 0) rfl) pa_nil)) (nomark _))), ?_⟩)
  · obtain ⟨a, lw, l, rfl, _⟩ := h; rfl
  · obtain ⟨a, lw, l, rfl, hL, q⟩ := h
    obtain ⟨dx, ws, k, as, h1, h2, h3, h4, h5, h6, h7⟩ := hL.ex
    refine ⟨_, rfl, a, _, dx, _, _, rfl, h1, T.k_cLine, T.n_Line_at, lF_at _ _, _, rfl, a, _, dx, _, _, rfl, h1, T.k_cLine, T.n_Line_words, lF_words _ _, lw, _, rfl, .inl (SqL.of h2), _, _, rfl, rfl, ?_⟩
    have e : decide ((k : Int) < ((as.map V.ref).length : Int)) = !l.isEmpty := by
      rw [List.length_map, Paired.len h3, ← h4]
      by_cases hk : k < ws.length
      · rw [decide_eq_true (by omega), drop_more (List.getElem?_eq_getElem hk)]
        rfl
      · rw [decide_eq_false (by omega), List.drop_eq_nil_of_le (by omega)]
        rfl
    show Q (.bl (decide ((k : Int) < ((as.map V.ref).length : Int)))) H
    rw [e]
    exact q
def spWord (C CR : Addr) : Sp := fun vs H Q E => ∃ (a lw : Addr) (l : List W), vs = [.ref a] ∧ LineAt C H a lw l ∧ (l = [] → Ref CR E [-8]) ∧
  ∀ v r, l = v :: r → ∀ (H' : Hp) (t : Addr), LineAt C H' a lw r → Off a H H' → WAt H' t v → v.length ≤ 70000 → Q (.ref t) H'
theorem ok_word (T : Tx K mg) : FnOk P w K mg base (L2.CX P w) 5 T.f_line_word T.d_line_word ["self"] (spWord T.cLine T.cRefused) := by
  have G : FnOk P w K mg base (L2.CX P w) 4 T.f_need_cards T.d_need_cards ["is_so"] (spNeedC T.cRefused) := ok_need_cards T
  have GH : FnOk P w K mg base CX0 1 T.f_line_has_more T.d_line_has_more ["self"] (spHasMore T.cLine) := ok_has_more T
  refine T.line_word.F.okX sc_line_word (fun vs H Q E h => ?_) (fun cdv A outer s H vs Q E hr h => ⟨_,
    pss_cons (ps_expr (pe_call G hr rfl T.need_cards.g T.need_cards.me.F.kp T.need_cards.me.b .nil (psx (E := E) (takes_of rfl rfl rfl rfl)) (by exact (pa_cons (pe_meth0 (pv 0) T.k_cLine T.m_line_has_more GH (hr.mono (by decide)) T.line_has_more.b .nil pass0) pa_nil))))
    (pss_cons (ps_fldaug (pv 0) pe_int in_add)
    (pss_one (ps_ret (pe_ix ix_list (pe_fld (pv 0) rfl) (pe_op op_sub (pe_fld (pv 0) rfl) pe_int) (fun _ _ => rfl))))), ?_⟩)
  · obtain ⟨a, lw, l, rfl, _⟩ := h; rfl
  · obtain ⟨a, lw, l, rfl, hL, qE, qO⟩ := h
    obtain ⟨dx, ws, k, as, h1, h2, h3, h4, h5, h6, h7⟩ := hL.ex
    refine ⟨_, rfl, a, dx, _, rfl, h1, lF_hm _ _, a, lw, l, rfl, hL, ?_⟩
    refine ⟨_, rfl, fun hb => ?_, fun hb => qE (by simpa using hb)⟩
    obtain ⟨v, r, rfl⟩ : ∃ v r, l = v :: r := by
      cases l with
      | nil => cases hb
      | cons v r => exact ⟨v, r, rfl⟩
    have hk : k < ws.length := by
      rcases Nat.lt_or_ge k ws.length with z | z
      · exact z
      · rw [List.drop_eq_nil_of_le z] at h4; cases h4
    have hv : ws[k]? = some ws[k] := List.getElem?_eq_getElem hk
    rw [drop_more hv] at h4
    have h4 := List.cons.inj h4
    obtain ⟨t, ht, hw⟩ := Paired.get h3 hv
    refine ⟨_, rfl, a, _, dx, _, _, rfl, h1, T.k_cLine, T.n_Line_at, lF_at _ _, _, _, rfl, rfl, dx, _, h1, (by show 2 < 1000; decide), ?_⟩
    have npl : lw ≠ a := fun z => by rw [z, h1] at h2; cases h2
    have off : Off a H (upd H a (.ins T.cLine dx (putF "at" (.int ((k : Int) + 1)) (lF lw (k : Int))))) := Off.upd
    have ho : (upd H a (.ins T.cLine dx (putF "at" (.int ((k : Int) + 1)) (lF lw (k : Int))))) a = some (.ins T.cLine dx (lF lw (((k + 1 : Nat) : Int)))) := by
      rw [upd_same, lF_put]
      rfl
    have ts := off.ts h1 (fun xs z => by cases z)
    refine ⟨_, rfl, a, _, dx, _, _, rfl, ho, T.k_cLine, T.n_Line_words, lF_words _ _, _, rfl, a, _, dx, _, _, rfl, ho, T.k_cLine, T.n_Line_at, lF_at _ _, _, _, rfl, rfl, lw, _, _, V.ref t, rfl, rfl, SqL.of (off _ _ h2 npl), ?_, ?_⟩
    · have : ((k + 1 : Nat) : Int) - 1 = (k : Int) := by omega
      rw [this]
      exact atI_nat (by rw [List.getElem?_map, ht]; rfl)
    · refine qO v r rfl _ t ⟨dx, ws, k + 1, as, ho, off _ _ h2 npl, h3.ts ts, h4.2, hk, h6, h7⟩ off ?_ ?_
      · rw [← h4.1]; exact hw.ts ts
      · rw [← h4.1]; exact h7 _ (List.getElem_mem _)
end
end RR
namespace RR
open PySem PySem.Spec PyProof.Rows L2
theorem sqT_off {K : PySem.W.Frag} {H H' : Hp} {a tp C dx : Addr} {fs : List (Str × V)} {xs : List V} (h : SqT K H tp xs) (o : Off a H H') (ha : H a = some (.ins C dx fs)) : SqT K H' tp xs := by
  rcases h with (h | ⟨z, h⟩) | h
  · exact .inl (.inl (o _ _ h (ne_of h ha (fun z => by cases z))))
  · exact .inl (.inr ⟨z, o _ _ h (ne_of h ha (fun z => by cases z))⟩)
  · exact .inr h
theorem sqT_same {K : PySem.W.Frag} {H H' : Hp} {tp : Addr} {xs : List V} (h : SqT K H tp xs) (s : Same H H') : SqT K H' tp xs := by
  rcases h with (h | ⟨z, h⟩) | h
  · exact .inl (.inl (s _ _ h))
  · exact .inl (.inr ⟨z, s _ _ h⟩)
  · exact .inr h
/-- the first of those that are so -/
theorem first_of (n : Nat) (p : Nat → Bool) : match (List.range n).find? p with
    | none => (List.range n).filterMap (fun i => if p i = true then some (V.int (i : Int)) else none) = []
    | some i => ∃ r, (List.range n).filterMap (fun i => if p i = true then some (V.int (i : Int)) else none) = V.int (i : Int) :: r := by
  have e : ∀ l : List Nat, l.filterMap (fun i => if p i = true then some (V.int (i : Int)) else none) = (l.filter p).map fun (i : Nat) => V.int (i : Int) := by
    intro l
    induction l with
    | nil => rfl
    | cons i l ih =>
      rw [List.filterMap_cons, List.filter_cons]
      cases hp : p i with
      | true => simpa [hp] using ih
      | false => simpa [hp] using ih
  rw [e]
  have h := List.head?_filter (p := p) (l := List.range n)
  cases hf : (List.range n).find? p with
  | none =>
    rw [hf, List.head?_eq_none_iff] at h
    show _ = []
    rw [h]; rfl
  | some i =>
    rw [hf, List.head?_eq_some_iff] at h
    obtain ⟨r, h⟩ := h
    exact ⟨_, by rw [h]; rfl⟩
theorem idx_range (ts : List W) (w : W) : ts.findIdx? (fun t => t == w) = (List.range ts.length).find? fun i => ts[i]? == some w := by
  cases h : ts.findIdx? (fun t => t == w) with
  | none =>
    symm
    rw [List.find?_eq_none]
    intro i hi
    have hi := List.mem_range.mp hi
    rw [List.findIdx?_eq_none_iff] at h
    have := h ts[i] (List.getElem_mem _)
    rw [List.getElem?_eq_getElem hi]
    intro z
    have z := Option.some.inj (eq_of_beq z)
    rw [z] at this
    simp at this
  | some i =>
    symm
    rw [List.findIdx?_eq_some_iff_getElem] at h
    obtain ⟨hi, h1, h2⟩ := h
    rw [List.find?_range_eq_some]
    refine ⟨?_, List.mem_range.mpr hi, fun j hj => ?_⟩
    · rw [List.getElem?_eq_getElem hi]
      rw [eq_of_beq h1]
      exact beq_self_eq_true _
    · have := h2 j hj
      rw [List.getElem?_eq_getElem (Nat.lt_trans hj hi)]
      cases hq : (some ts[j] == some w) with
      | false => rfl
      | true =>
        exfalso
        have z := Option.some.inj (eq_of_beq hq)
        rw [z] at this
        simp at this
section
variable {P : Program} {w : World} {K : PySem.W.Frag} {mg : Str → Option Value} {base : Heap}
def spMust (C CR : Addr) : Sp := fun vs H Q E => ∃ (a lw : Addr) (l : List W) (z : Str), vs = [.ref a, .str z] ∧ z.length ≤ 1000 ∧ LineAt C H a lw l ∧ (MR.must (spz z) l = none → Ref CR E [-8]) ∧
  ∀ r, MR.must (spz z) l = some r → ∀ H' : Hp, LineAt C H' a lw r → Off a H H' → Q .non H'
theorem ok_must (T : Tx K mg) : FnOk P w K mg base (L2.CX P w) 6 T.f_line_must T.d_line_must ["self", "text"] (spMust T.cLine T.cRefused) := by
  have G : FnOk P w K mg base (L2.CX P w) 4 T.f_need_cards T.d_need_cards ["is_so"] (spNeedC T.cRefused) := ok_need_cards T
  have GW : FnOk P w K mg base (L2.CX P w) 5 T.f_line_word T.d_line_word ["self"] (spWord T.cLine T.cRefused) := ok_word T
  have GS : FnOk P w K mg base CX0 1 T.f_spelled T.d_spelled ["text"] spSpelled := ok_spelled T
  refine T.line_must.F.okX sc_line_must (fun vs H Q E h => ?_) (fun cdv A outer s H vs Q E hr h => ⟨_,
    pss_one (ps_expr (pe_call G (hr.mono (by decide)) rfl T.need_cards.g T.need_cards.me.F.kp T.need_cards.me.b .nil (psx (E := E) (takes_of rfl rfl rfl rfl)) (by exact (pa_cons (pe_cmpR (op_eqD hr.units)
      (pe_meth0 (pv 0) T.k_cLine T.m_line_word GW hr T.line_word.b .nil (psx (E := E) (takes_of rfl rfl rfl rfl))) (pe_call GS (hr.mono (by decide)) rfl T.spelled.g T.spelled.me.F.kp T.spelled.me.b .nil pass0 (by exact (pa_cons (pv 1) pa_nil))) (nomark _)) pa_nil)))), ?_⟩)
  · obtain ⟨a, lw, l, z, rfl, _⟩ := h; rfl
  · obtain ⟨a, lw, l, z, rfl, hz, hL, qE, qO⟩ := h
    obtain ⟨dx, ws, k, as, h1, _⟩ := hL.ex
    refine ⟨_, rfl, a, dx, _, rfl, h1, lF_word _ _, a, lw, l, rfl, hL, fun e => qE (by rw [e]; rfl), ?_⟩
    rintro v r rfl H1 t hL1 o1 ht hv
    refine ⟨_, rfl, z, rfl, hz, fun H2 p s2 hp hw2 => rd_weq (ht.ts (TS.of s2)) hw2 ?_⟩
    refine ⟨_, rfl, fun hb => ?_, fun hb => qE ?_⟩
    · exact qO r (by show (if v = spz z then some r else none) = some r; rw [if_pos (eq_of_beq hb)]) H2 (hL1.same s2) (Off.trans o1 (Off.of s2))
    · show (if v = spz z then some r else none) = none
      rw [if_neg]
      intro e
      rw [e] at hb
      simp at hb
def spNumber (C CR : Addr) : Sp := fun vs H Q E => ∃ (a lw : Addr) (l : List W) (lo hi : Int), vs = [.ref a, .int lo, .int hi] ∧ LineAt C H a lw l ∧ (MR.number lo hi l = none → Ref CR E [-8]) ∧
  ∀ x, MR.number lo hi l = some x → ∀ H' : Hp, LineAt C H' a lw x.2 → Off a H H' → Q (.int x.1) H'
theorem ok_number (T : Tx K mg) : FnOk P w K mg base (L2.CX P w) 6 T.f_line_number T.d_line_number ["self", "least", "most"] (spNumber T.cLine T.cRefused) := by
  have G : FnOk P w K mg base (L2.CX P w) 4 T.f_need_cards T.d_need_cards ["is_so"] (spNeedC T.cRefused) := ok_need_cards T
  have GW : FnOk P w K mg base (L2.CX P w) 5 T.f_line_word T.d_line_word ["self"] (spWord T.cLine T.cRefused) := ok_word T
  have GN : FnOk P w K mg base CX0 2 T.f_number_of T.d_number_of ["word"] spNumberOf := ok_number_of T
  refine T.line_number.F.okX sc_line_number (fun vs H Q E h => ?_) (fun cdv A outer s H vs Q E hr h => ⟨_,
    pss_cons (ps_set (i := 3) sc_line_number.nd rfl (Or.inl rfl) (pe_call GN (hr.mono (by decide)) rfl T.number_of.g T.number_of.me.F.kp T.number_of.me.b .nil pass0 (by exact (pa_cons (pe_meth0 (pv 0) T.k_cLine T.m_line_word GW hr T.line_word.b .nil (psx (E := E) (takes_of rfl rfl rfl rfl))) pa_nil))))
    (pss_cons (ps_expr (pe_call G (hr.mono (by decide)) rfl T.need_cards.g T.need_cards.me.F.kp T.need_cards.me.b .nil (psx (E := E) (takes_of rfl rfl rfl rfl)) (by exact (pa_cons (pe_chain op_le op_le (pv 1) (pv 3) (pv 2)) pa_nil))))
    (pss_one (ps_ret (pv 3)))), ?_⟩)
  · obtain ⟨a, lw, l, lo, hi, rfl, _⟩ := h; rfl
  · obtain ⟨a, lw, l, lo, hi, rfl, hL, qE, qO⟩ := h
    obtain ⟨dx, ws, k, as, h1, _⟩ := hL.ex
    refine ⟨_, rfl, a, dx, _, rfl, h1, lF_word _ _, a, lw, l, rfl, hL, fun e => qE (by rw [e]; rfl), ?_⟩
    rintro v r rfl H1 t hL1 o1 ht hv
    refine ⟨t, v, rfl, ht, hv, fun H2 s2 => ?_⟩
    have hn : MR.number lo hi (v :: r) = if lo ≤ MR.numberOf v ∧ MR.numberOf v ≤ hi then some (MR.numberOf v, r) else none := rfl
    refine ⟨_, rfl, _, rfl, _, _, rfl, rfl, _, rfl, ?_⟩
    have bad : ¬ (lo ≤ MR.numberOf v ∧ MR.numberOf v ≤ hi) → Ref T.cRefused E [-8] := fun z => qE (by rw [hn, if_neg z])
    cases c1 : decide (lo ≤ MR.numberOf v) with
    | false => exact iteF ⟨_, rfl, (fun z => Bool.noConfusion z), fun _ => bad fun z => of_decide_eq_false c1 z.1⟩
    | true =>
      refine iteT ⟨_, rfl, _, _, rfl, rfl, _, rfl, (fun z => ?_), fun z => bad fun y => of_decide_eq_false z y.2⟩
      exact ⟨_, rfl, qO _ (by rw [hn, if_pos ⟨of_decide_eq_true c1, of_decide_eq_true z⟩]) H2 (hL1.same s2) (Off.trans o1 (Off.of s2))⟩
def spEnd (C CR : Addr) : Sp := fun vs H Q E => ∃ (a lw : Addr) (l : List W), vs = [.ref a] ∧ LineAt C H a lw l ∧ (MR.ended l = none → Ref CR E [-8]) ∧ (MR.ended l = some () → Q .non H)
theorem ok_end (T : Tx K mg) : FnOk P w K mg base (L2.CX P w) 5 T.f_line_end T.d_line_end ["self"] (spEnd T.cLine T.cRefused) := by
  have G : FnOk P w K mg base (L2.CX P w) 4 T.f_need_cards T.d_need_cards ["is_so"] (spNeedC T.cRefused) := ok_need_cards T
  have GH : FnOk P w K mg base CX0 1 T.f_line_has_more T.d_line_has_more ["self"] (spHasMore T.cLine) := ok_has_more T
  refine T.line_end.F.okX sc_line_end (fun vs H Q E h => ?_) (fun cdv A outer s H vs Q E hr h => ⟨_,
    pss_one (ps_expr (pe_call G hr rfl T.need_cards.g T.need_cards.me.F.kp T.need_cards.me.b .nil (psx (E := E) (takes_of rfl rfl rfl rfl)) (by exact (pa_cons (pe_not (pe_meth0 (pv 0) T.k_cLine T.m_line_has_more GH (hr.mono (by decide)) T.line_has_more.b .nil pass0)) pa_nil)))), ?_⟩)
  · obtain ⟨a, lw, l, rfl, _⟩ := h; rfl
  · obtain ⟨a, lw, l, rfl, hL, qE, qO⟩ := h
    obtain ⟨dx, ws, k, as, h1, _⟩ := hL.ex
    refine ⟨_, rfl, a, dx, _, rfl, h1, lF_hm _ _, a, lw, l, rfl, hL, _, rfl, _, rfl, fun z => ?_, fun z => ?_⟩
    · cases l with
      | nil => exact qO rfl
      | cons _ _ => cases z
    · cases l with
      | nil => cases z
      | cons _ _ => exact qE rfl
def spChoice (K : PySem.W.Frag) (C CR : Addr) : Sp := fun vs H Q E => ∃ (a lw tp : Addr) (l : List W) (zs : List Str), vs = [.ref a, .ref tp] ∧ SqT K H tp (zs.map V.str) ∧ zs.length ≤ 100 ∧ (∀ z ∈ zs, z.length ≤ 1000) ∧ LineAt C H a lw l ∧
  (MR.choice (zs.map spz) l = none → Ref CR E [-8]) ∧ ∀ x, MR.choice (zs.map spz) l = some x → ∀ H' : Hp, LineAt C H' a lw x.2 → Off a H H' → Q (.int (x.1 : Int)) H'
theorem ok_choice (T : Tx K mg) : FnOk P w K mg base (L2.CX P w) 6 T.f_line_choice T.d_line_choice ["self", "texts"] (spChoice K T.cLine T.cRefused) := by
  have G : FnOk P w K mg base (L2.CX P w) 4 T.f_need_cards T.d_need_cards ["is_so"] (spNeedC T.cRefused) := ok_need_cards T
  have GW : FnOk P w K mg base (L2.CX P w) 5 T.f_line_word T.d_line_word ["self"] (spWord T.cLine T.cRefused) := ok_word T
  have GS : FnOk P w K mg base CX0 1 T.f_spelled T.d_spelled ["text"] spSpelled := ok_spelled T
  refine T.line_choice.F.okX sc_line_choice (fun vs H Q E h => ?_) (fun cdv A outer s H vs Q E hr h => ⟨_,
    pss_cons (ps_set (i := 2) sc_line_choice.nd rfl (Or.inr rfl) (pe_meth0 (pv 0) T.k_cLine T.m_line_word GW hr T.line_word.b .nil (psx (E := E) (takes_of rfl rfl rfl rfl))))
    (pss_cons (ps_setLc (i := 3) (own := [("place", 4), ("text", 5)]) (g := gTup K 2 (gCons (gName 4) (gCons (gName 5) gNil))) (tt := tTest (tOp (rEqD K) (tCall spSpelled [] E0 (tCons (tVar 5) tNil)) (tVar 2))) rfl sc_line_choice.nd rfl rfl (sw_true rfl rfl rfl (by decide +kernel)) (pi_enumT rfl T.z_enumerate (pa_cons (pv 1) pa_nil))
        (blkOk_by (own := [("place", 4), ("text", 5)]) (N := ["self", "texts", "word", "some", "place", "text"]) (sc := defScope s_line_choice) (by decide +kernel))
        (fun _ _ _ _ _ => pg_tup rfl (pgs_cons (pg_name (i := 4) sc_line_choice.nd rfl (Or.inl rfl)) (pgs_cons (pg_name (i := 5) sc_line_choice.nd rfl (Or.inl rfl)) pgs_nil)))
        (fun _ _ _ _ _ => pts_one (pt_cmpR (op_eqD hr.units) (pe_call GS (hr.mono (by decide)) rfl T.spelled.g T.spelled.me.F.kp T.spelled.me.b .nil pass0 (by exact (pa_cons (pv 5) pa_nil))) (pv 2) (nomark _)))
        (fun _ _ _ _ _ => pv 4))
    (pss_cons (ps_expr (pe_call G (hr.mono (by decide)) rfl T.need_cards.g T.need_cards.me.F.kp T.need_cards.me.b .nil (psx (E := E) (takes_of rfl rfl rfl rfl)) (by exact (pa_cons (pe_cmpR op_gt (pe_callB call_len_seq (by rfl) T.z_len PySem.boot_len (pa_cons (pv 3) pa_nil)) pe_int (nomark _)) pa_nil))))
    (pss_one (ps_ret (pe_ix ix_list (pv 3) pe_int (fun _ _ => rfl)))))), ?_⟩)
  · obtain ⟨a, lw, tp, l, zs, rfl, _⟩ := h; rfl
  · obtain ⟨a, lw, tp, l, zs, rfl, hT, hz1, hz2, hL, qE, qO⟩ := h
    obtain ⟨dx, ws, k, as, h1, _⟩ := hL.ex
    refine ⟨_, rfl, a, dx, _, rfl, h1, lF_word _ _, a, lw, l, rfl, hL, fun e => qE (by rw [e]; rfl), ?_⟩
    rintro v r rfl H1 t hL1 o1 ht hv
    have hT1 := sqT_off hT o1 h1
    refine ⟨_, rfl, tp, _, rfl, hT1, fun D hD => ?_⟩
    refine lc_gen walk_enumT hD (fun _ s => sqT_same hT1 s) (by rw [List.length_map]; omega) (fun i => if ((zs.map spz)[i]? == some v) = true then some (V.int (i : Int)) else none) (fun i x H2 H3 QV QN hi s2 y hvv hnn => ?_) (fun H2 s2 hl => ?_)
    · obtain ⟨Tp, x1, y1, rfl, nT, rfl, hx1, hy1⟩ := y
      have hx1 := (Option.some.inj hx1).symm
      subst hx1
      have hy1 : (zs.map V.str)[i]? = some y1 := hy1
      obtain ⟨z, hz, rfl⟩ : ∃ z, zs[i]? = some z ∧ y1 = V.str z := by
        rw [List.getElem?_map] at hy1
        cases e0 : zs[i]? with
        | none => rw [e0] at hy1; cases hy1
        | some z => rw [e0] at hy1; exact ⟨z, rfl, (Option.some.inj hy1).symm⟩
      have e1 : (zs.map spz)[i]? = some (spz z) := by rw [List.getElem?_map, hz]; rfl
      refine ⟨Tp, _, rfl, SqT.of upd_same, rfl, _, _, rfl, _, _, rfl, rfl, ?_⟩
      refine ⟨rfl, _, rfl, z, rfl, hz2 z (List.mem_of_getElem? hz), fun H4 p4 s4 hp4 hw4 => ?_⟩
      have s24 : Same H2 H4 := Same.trans (Same.new nT) s4
      refine ⟨_, rfl, rd_weq hw4 (ht.ts (TS.of (Same.trans s2 s24))) ⟨_, rfl, ?_⟩⟩
      cases hb : (spz z == v) with
      | true =>
        refine iteT ⟨_, rfl, hvv _ _ ?_ s24⟩
        rw [e1]
        have : (some (spz z) == some v) = true := by rw [eq_of_beq hb]; exact beq_self_eq_true _
        rw [if_pos this]
      | false =>
        refine iteF (hnn ?_ _ s24)
        rw [e1]
        have : ¬ (some (spz z) == some v) = true := fun q => by
          have := Option.some.inj (eq_of_beq q)
          rw [this] at hb
          simp at hb
        rw [if_neg this]
    · rw [List.length_map] at hl
      have hm : MR.choice (zs.map spz) (v :: r) = ((List.range zs.length).find? fun i => (zs.map spz)[i]? == some v).map fun i => (i, r) := by
        show ((zs.map spz).findIdx? fun t => t == v).map _ = _
        rw [idx_range, List.length_map]
      have hf := first_of zs.length fun i => (zs.map spz)[i]? == some v
      refine ⟨_, rfl, D, _, rfl, .inl (SqL.of hl), _, _, rfl, rfl, ?_⟩
      cases hc : (List.range zs.length).find? fun i => (zs.map spz)[i]? == some v with
      | none =>
        rw [hc] at hf
        have hf : _ = [] := hf
        rw [hf]
        exact ⟨_, rfl, (fun z => Bool.noConfusion z), fun _ => qE (by rw [hm, hc]; rfl)⟩
      | some i =>
        rw [hc] at hf
        obtain ⟨rest, hf⟩ := hf
        rw [hf] at hl
        rw [hf]
        refine ⟨_, rfl, (fun _ => ?_), fun z => ?_⟩
        · exact ⟨_, rfl, D, _, 0, _, rfl, rfl, SqL.of hl, atI_nat (j := 0) rfl, qO _ (by rw [hm, hc]; rfl) H2 (hL1.same s2) (Off.trans o1 (Off.of s2))⟩
        · have : decide ((0 : Int) < ((V.int (i : Int) :: rest).length : Int)) = false := z
          have := of_decide_eq_false this
          simp only [List.length_cons] at this
          omega
end
end RR
namespace RR
open PySem PySem.Spec PyProof.Rows L2
theorem LineAt.ins {C : Addr} {H : Hp} {a lw : Addr} {l : List W} (h : LineAt C H a lw l) : ∃ (dx : Addr) (k : Int), H a = some (.ins C dx (lF lw k)) := by
  obtain ⟨dx, ws, k, as, h1, _⟩ := h.ex
  exact ⟨dx, _, h1⟩
section
variable {P : Program} {w : World} {K : PySem.W.Frag} {mg : Str → Option Value} {base : Heap}
theorem rd_must (T : Tx K mg) {σ : L2.St} {H : Hp} {Q : VK} {E : XK} {i : Nat} {a lw : Addr} {l : List W} {s : String} (hs : σ[i]? = some (some (.ref a))) (hL : LineAt T.cLine H a lw l) (hz : (Str.ofString s).length ≤ 1000 ∧ spz (Str.ofString s) = MR.sp s) (qE : MR.must (MR.sp s) l = none → Ref T.cRefused E [-8])
    (qO : ∀ r, MR.must (MR.sp s) l = some r → ∀ H' : Hp, LineAt T.cLine H' a lw r → Off a H H' → Q .non H') :
    tMeth T.cLine "must" (spMust T.cLine T.cRefused) [] E (tVar i) (tCons (tC (.str (Str.ofString s))) tNil) σ H Q := by
  obtain ⟨dx, k, h1⟩ := hL.ins
  exact ⟨_, hs, a, dx, _, rfl, h1, lF_must _ _, a, lw, l, Str.ofString s, rfl, hz.1, hL, by rw [hz.2]; exact qE, by rw [hz.2]; exact qO⟩
theorem rd_number (T : Tx K mg) {σ : L2.St} {H : Hp} {Q : VK} {E : XK} {i : Nat} {a lw : Addr} {l : List W} {lo hi : Int} (hs : σ[i]? = some (some (.ref a))) (hL : LineAt T.cLine H a lw l) (qE : MR.number lo hi l = none → Ref T.cRefused E [-8])
    (qO : ∀ x, MR.number lo hi l = some x → ∀ H' : Hp, LineAt T.cLine H' a lw x.2 → Off a H H' → Q (.int x.1) H') :
    tMeth T.cLine "number" (spNumber T.cLine T.cRefused) [] E (tVar i) (tCons (tC (.int lo)) (tCons (tC (.int hi)) tNil)) σ H Q := by
  obtain ⟨dx, k, h1⟩ := hL.ins
  exact ⟨_, hs, a, dx, _, rfl, h1, lF_number _ _, a, lw, l, lo, hi, rfl, hL, qE, qO⟩
theorem rd_end (T : Tx K mg) {σ : L2.St} {H : Hp} {Q : VK} {E : XK} {i : Nat} {a lw : Addr} {l : List W} (hs : σ[i]? = some (some (.ref a))) (hL : LineAt T.cLine H a lw l) (qE : MR.ended l = none → Ref T.cRefused E [-8]) (qO : MR.ended l = some () → Q .non H) :
    tMeth T.cLine "end" (spEnd T.cLine T.cRefused) [] E (tVar i) tNil σ H Q := by
  obtain ⟨dx, k, h1⟩ := hL.ins
  exact ⟨_, hs, a, dx, _, rfl, h1, lF_end _ _, a, lw, l, rfl, hL, qE, qO⟩
theorem rd_word (T : Tx K mg) {σ : L2.St} {H : Hp} {Q : VK} {E : XK} {i : Nat} {a lw : Addr} {l : List W} (hs : σ[i]? = some (some (.ref a))) (hL : LineAt T.cLine H a lw l) (qE : l = [] → Ref T.cRefused E [-8])
    (qO : ∀ v r, l = v :: r → ∀ (H' : Hp) (t : Addr), LineAt T.cLine H' a lw r → Off a H H' → WAt H' t v → v.length ≤ 70000 → Q (.ref t) H') :
    tMeth T.cLine "word" (spWord T.cLine T.cRefused) [] E (tVar i) tNil σ H Q := by
  obtain ⟨dx, k, h1⟩ := hL.ins
  exact ⟨_, hs, a, dx, _, rfl, h1, lF_word _ _, a, lw, l, rfl, hL, qE, qO⟩
theorem rd_choice (T : Tx K mg) {σ : L2.St} {H : Hp} {Q : VK} {E : XK} {i : Nat} {a lw : Addr} {l : List W} {zs : List Str} {ts : List W} {ta : TE} (hs : σ[i]? = some (some (.ref a))) (hL : LineAt T.cLine H a lw l)
    (hta : ∀ Q' : VK, (∀ tp H1, Same H H1 → SqT K H1 tp (zs.map V.str) → Q' (.ref tp) H1) → ta σ H Q') (hz1 : zs.length ≤ 100) (hz2 : ∀ z ∈ zs, z.length ≤ 1000) (hts : zs.map spz = ts) (qE : MR.choice ts l = none → Ref T.cRefused E [-8])
    (qO : ∀ x, MR.choice ts l = some x → ∀ H' : Hp, LineAt T.cLine H' a lw x.2 → Off a H H' → Q (.int (x.1 : Int)) H') :
    tMeth T.cLine "choice" (spChoice K T.cLine T.cRefused) [] E (tVar i) (tCons ta tNil) σ H Q := by
  obtain ⟨dx, k, h1⟩ := hL.ins
  subst hts
  exact ⟨_, hs, a, dx, _, rfl, h1, lF_choice _ _, hta _ fun tp H1 s1 hT => ⟨a, lw, tp, l, zs, rfl, hT, hz1, hz2, hL.same s1, qE, fun x e H' hL' o' => qO x e H' hL' (Off.trans (Off.of s1) o')⟩⟩
def spDay (C CR : Addr) : Sp := fun vs H Q E => ∃ (a lw : Addr) (l : List W), vs = [.ref a] ∧ LineAt C H a lw l ∧ (MR.readDay l = none → Ref CR E [-8]) ∧ (MR.readDay l = some () → ∀ H' : Hp, Off a H H' → Q .non H')
theorem ok_day (T : Tx K mg) : FnOk P w K mg base (L2.CX P w) 7 T.f_read_day T.d_read_day ["line"] (spDay T.cLine T.cRefused) := by
  have G : FnOk P w K mg base (L2.CX P w) 4 T.f_need_cards T.d_need_cards ["is_so"] (spNeedC T.cRefused) := ok_need_cards T
  have GM : FnOk P w K mg base (L2.CX P w) 6 T.f_line_must T.d_line_must ["self", "text"] (spMust T.cLine T.cRefused) := ok_must T
  have GW : FnOk P w K mg base (L2.CX P w) 5 T.f_line_word T.d_line_word ["self"] (spWord T.cLine T.cRefused) := ok_word T
  have GN : FnOk P w K mg base CX0 2 T.f_is_name T.d_is_name ["word"] spIsName := ok_is_name T
  have GE : FnOk P w K mg base (L2.CX P w) 5 T.f_line_end T.d_line_end ["self"] (spEnd T.cLine T.cRefused) := ok_end T
  refine T.read_day.me.F.okX sc_read_day (fun vs H Q E h => ?_) (fun cdv A outer s H vs Q E hr h => ⟨_,
    pss_cons (ps_expr (pe_meth (pv 0) T.k_cLine T.m_line_must GM hr T.line_must.b .nil (psx (E := E) (takes_of rfl rfl rfl rfl)) (by exact (pa_cons pe_str pa_nil))))
    (pss_cons (ps_expr (pe_call G (hr.mono (by decide)) rfl T.need_cards.g T.need_cards.me.F.kp T.need_cards.me.b .nil (psx (E := E) (takes_of rfl rfl rfl rfl)) (by exact (pa_cons (pe_call GN (hr.mono (by decide)) rfl T.is_name.g T.is_name.me.F.kp T.is_name.me.b .nil pass0 (by exact (pa_cons (pe_meth0 (pv 0) T.k_cLine T.m_line_word GW (hr.mono (by decide)) T.line_word.b .nil (psx (E := E) (takes_of rfl rfl rfl rfl))) pa_nil))) pa_nil))))
    (pss_one (ps_expr (pe_meth0 (pv 0) T.k_cLine T.m_line_end GE (hr.mono (by decide)) T.line_end.b .nil (psx (E := E) (takes_of rfl rfl rfl rfl)))))), ?_⟩)
  · obtain ⟨a, lw, l, rfl, _⟩ := h; rfl
  · obtain ⟨a, lw, l, rfl, hL, qE, qO⟩ := h
    unfold MR.readDay at qE qO
    refine rd_must T rfl hL ⟨by decide, by decide +kernel⟩ (fun e => qE (by rw [e]; rfl)) fun l1 e1 H1 hL1 o1 => ?_
    rw [e1, Option.bind_some] at qE qO
    refine rd_word T rfl hL1 (fun e => qE (by rw [e])) fun v r e2 H2 t hL2 o2 ht hv => ?_
    subst e2
    have qE : (if MR.isName v = true then MR.ended r else none) = none → _ := qE
    have qO : (if MR.isName v = true then MR.ended r else none) = some () → _ := qO
    refine ⟨t, v, rfl, ht, hv, fun H3 s3 => ?_⟩
    refine ⟨_, rfl, fun hb => ?_, fun hb => qE (by rw [hb]; rfl)⟩
    rw [if_pos hb] at qE qO
    exact rd_end T rfl (hL2.same s3) qE fun e => qO e _ (Off.trans o1 (Off.trans o2 (Off.of s3)))
def spTerms (C CR : Addr) : Sp := fun vs H Q E => ∃ (a lw : Addr) (l : List W) (kind : Nat), vs = [.ref a, .int (kind : Int)] ∧ LineAt C H a lw l ∧ (MR.readTerms kind l = none → Ref CR E [-8]) ∧ (MR.readTerms kind l = some () → ∀ H' : Hp, Off a H H' → Q .non H')
theorem ok_terms (T : Tx K mg) : FnOk P w K mg base (L2.CX P w) 7 T.f_read_terms T.d_read_terms ["line", "kind"] (spTerms T.cLine T.cRefused) := by
  have G : FnOk P w K mg base (L2.CX P w) 4 T.f_need_cards T.d_need_cards ["is_so"] (spNeedC T.cRefused) := ok_need_cards T
  have GM : FnOk P w K mg base (L2.CX P w) 6 T.f_line_must T.d_line_must ["self", "text"] (spMust T.cLine T.cRefused) := ok_must T
  have GN : FnOk P w K mg base (L2.CX P w) 6 T.f_line_number T.d_line_number ["self", "least", "most"] (spNumber T.cLine T.cRefused) := ok_number T
  have GC : FnOk P w K mg base (L2.CX P w) 6 T.f_line_choice T.d_line_choice ["self", "texts"] (spChoice K T.cLine T.cRefused) := ok_choice T
  have GE : FnOk P w K mg base (L2.CX P w) 5 T.f_line_end T.d_line_end ["self"] (spEnd T.cLine T.cRefused) := ok_end T
  refine T.read_terms.me.F.okX sc_read_terms (fun vs H Q E h => ?_) (fun cdv A outer s H vs Q E hr h => ⟨_,
    pss_cons (ps_expr (pe_meth (pv 0) T.k_cLine T.m_line_must GM hr T.line_must.b .nil (psx (E := E) (takes_of rfl rfl rfl rfl)) (by exact (pa_cons pe_str pa_nil))))
    (pss_cons (ps_expr (pe_meth (pv 0) T.k_cLine T.m_line_number GN hr T.line_number.b .nil (psx (E := E) (takes_of rfl rfl rfl rfl)) (by exact (pa_cons pe_int (pa_cons pe_int pa_nil)))))
    (pss_cons (ps_expr (pe_meth (pv 0) T.k_cLine T.m_line_must GM hr T.line_must.b .nil (psx (E := E) (takes_of rfl rfl rfl rfl)) (by exact (pa_cons pe_str pa_nil))))
    (pss_cons (ps_expr (pe_meth (pv 0) T.k_cLine T.m_line_number GN hr T.line_number.b .nil (psx (E := E) (takes_of rfl rfl rfl rfl)) (by exact (pa_cons pe_int (pa_cons pe_int pa_nil)))))
    (pss_cons (ps_expr (pe_meth (pv 0) T.k_cLine T.m_line_must GM hr T.line_must.b .nil (psx (E := E) (takes_of rfl rfl rfl rfl)) (by exact (pa_cons pe_str pa_nil))))
    (pss_cons (ps_set (i := 2) sc_read_terms.nd rfl (Or.inl rfl) (pe_meth (pv 0) T.k_cLine T.m_line_number GN hr T.line_number.b .nil (psx (E := E) (takes_of rfl rfl rfl rfl)) (by exact (pa_cons pe_int (pa_cons pe_int pa_nil)))))
    (pss_cons (ps_expr (pe_meth (pv 0) T.k_cLine T.m_line_must GM hr T.line_must.b .nil (psx (E := E) (takes_of rfl rfl rfl rfl)) (by exact (pa_cons pe_str pa_nil))))
    (pss_cons (ps_set (i := 3) sc_read_terms.nd rfl (Or.inl rfl) (pe_meth (pv 0) T.k_cLine T.m_line_number GN hr T.line_number.b .nil (psx (E := E) (takes_of rfl rfl rfl rfl)) (by exact (pa_cons pe_int (pa_cons pe_int pa_nil)))))
    (pss_cons (ps_expr (pe_call G (hr.mono (by decide)) rfl T.need_cards.g T.need_cards.me.F.kp T.need_cards.me.b .nil (psx (E := E) (takes_of rfl rfl rfl rfl)) (by exact (pa_cons (pe_or (pe_cmpR op_eq (pv 2) pe_int (nomark _)) (pe_one (pe_chain op_le op_le (pv 3) (pv 2) (pe_op op_mul pe_int (pv 3))))) pa_nil))))
    (pss_cons (ps_expr (pe_meth (pv 0) T.k_cLine T.m_line_must GM hr T.line_must.b .nil (psx (E := E) (takes_of rfl rfl rfl rfl)) (by exact (pa_cons pe_str pa_nil))))
    (pss_cons (ps_set (i := 4) sc_read_terms.nd rfl (Or.inl rfl) (pe_meth (pv 0) T.k_cLine T.m_line_choice GC hr T.line_choice.b .nil (psx (E := E) (takes_of rfl rfl rfl rfl)) (by exact (pa_cons (pe_glob (v := .ref T.a_NONES) rfl T.g_NONES rfl) pa_nil))))
    (pss_cons (ps_expr (pe_call G (hr.mono (by decide)) rfl T.need_cards.g T.need_cards.me.F.kp T.need_cards.me.b .nil (psx (E := E) (takes_of rfl rfl rfl rfl)) (by exact (pa_cons (pe_or (pe_cmpR op_ne (pv 1) (pe_k rfl T.g_PLACE) (nomark _)) (pe_one (pe_cmpR op_ne (pe_ix ix_tup (pe_glob (v := .ref T.a_NONES) rfl T.g_NONES rfl) (pv 4) (fun _ _ => rfl)) pe_str (nomark _)))) pa_nil))))
    (pss_one (ps_expr (pe_meth0 (pv 0) T.k_cLine T.m_line_end GE (hr.mono (by decide)) T.line_end.b .nil (psx (E := E) (takes_of rfl rfl rfl rfl)))))))))))))))), ?_⟩)
  · obtain ⟨a, lw, l, kind, rfl, _⟩ := h; rfl
  · obtain ⟨a, lw, l, kind, rfl, hL, qE, qO⟩ := h
    unfold MR.readTerms at qE qO
    refine rd_must T rfl hL ⟨by decide, by decide +kernel⟩ (fun e => qE (by rw [e]; rfl)) fun l1 e1 H1 hL1 o1 => ?_
    rw [e1, Option.bind_some] at qE qO
    refine rd_number T rfl hL1 (fun e => qE (by rw [e]; rfl)) fun x2 e2 H2 hL2 o2 => ?_
    rw [e2, Option.bind_some] at qE qO
    refine rd_must T rfl hL2 ⟨by decide, by decide +kernel⟩ (fun e => qE (by rw [e]; rfl)) fun l3 e3 H3 hL3 o3 => ?_
    rw [e3, Option.bind_some] at qE qO
    refine rd_number T rfl hL3 (fun e => qE (by rw [e]; rfl)) fun x4 e4 H4 hL4 o4 => ?_
    rw [e4, Option.bind_some] at qE qO
    refine rd_must T rfl hL4 ⟨by decide, by decide +kernel⟩ (fun e => qE (by rw [e]; rfl)) fun l5 e5 H5 hL5 o5 => ?_
    rw [e5, Option.bind_some] at qE qO
    refine rd_number T rfl hL5 (fun e => qE (by rw [e]; rfl)) fun x6 e6 H6 hL6 o6 => ?_
    rw [e6, Option.bind_some] at qE qO
    refine rd_must T rfl hL6 ⟨by decide, by decide +kernel⟩ (fun e => qE (by rw [e]; rfl)) fun l7 e7 H7 hL7 o7 => ?_
    rw [e7, Option.bind_some] at qE qO
    refine rd_number T rfl hL7 (fun e => qE (by rw [e]; rfl)) fun x8 e8 H8 hL8 o8 => ?_
    rw [e8, Option.bind_some] at qE qO
    have off8 : Off a H H8 := Off.trans o1 (Off.trans o2 (Off.trans o3 (Off.trans o4 (Off.trans o5 (Off.trans o6 (Off.trans o7 o8))))))
    -- the bounds of unit
    have hu : 1 ≤ x8.1 ∧ x8.1 ≤ 10000 := by
      cases l7 with
      | nil => cases e8
      | cons v r =>
        have e8 : (if 1 ≤ MR.numberOf v ∧ MR.numberOf v ≤ 10000 then some (MR.numberOf v, r) else none) = some x8 := e8
        split at e8
        · next z => rw [← Option.some.inj e8]; exact z
        · cases e8
    have t1 : ∀ Q' : VK, Q' (.bl (decide (x6.1 = 0 ∨ (x8.1 ≤ x6.1 ∧ x6.1 ≤ 2 * x8.1)))) H8 →
        tOrV (tOp rEq (tVar 2) (tC (.int 0))) (tChain (rI0 fun i j => .bl (decide (i ≤ j))) (rI0 fun i j => .bl (decide (i ≤ j))) (tVar 3) (tVar 2) (tOp (rI (fun i j => (-(2 ^ 64) < i ∧ i < 2 ^ 64) ∨ (-(2 ^ 64) < j ∧ j < 2 ^ 64)) fun i j => .int (i * j)) (tC (.int 2)) (tVar 3))) [some (V.ref a), some (.int (kind : Int)), some (.int x6.1), some (.int x8.1), none] H8 Q' := by
      intro Q' q'
      refine ⟨_, rfl, rfl, _, rfl, ?_⟩
      rw [int_eq]
      by_cases c0 : x6.1 = 0
      · rw [decide_eq_true c0]
        rw [decide_eq_true (.inl c0)] at q'
        exact iteT q'
      · rw [decide_eq_false c0]
        refine iteF ⟨_, rfl, _, rfl, _, _, rfl, rfl, _, rfl, ?_⟩
        by_cases c1 : x8.1 ≤ x6.1
        · rw [decide_eq_true c1]
          refine iteT ⟨_, rfl, _, _, rfl, rfl, .inl ⟨by decide, by decide⟩, _, _, rfl, rfl, ?_⟩
          have : decide (x6.1 = 0 ∨ (x8.1 ≤ x6.1 ∧ x6.1 ≤ 2 * x8.1)) = decide (x6.1 ≤ 2 * x8.1) := by
            rw [decide_eq_decide]
            constructor
            · rintro (z | z)
              · exact absurd z c0
              · exact z.2
            · intro z; exact .inr ⟨c1, z⟩
          rw [this] at q'
          exact q'
        · rw [decide_eq_false c1]
          have : decide (x6.1 = 0 ∨ (x8.1 ≤ x6.1 ∧ x6.1 ≤ 2 * x8.1)) = false := decide_eq_false (by
            rintro (z | z)
            · exact c0 z
            · exact c1 z.1)
          rw [this] at q'
          exact iteF q'
    refine t1 _ ⟨_, rfl, fun hb => ?_, fun hb => qE (by rw [if_neg (of_decide_eq_false hb)])⟩
    rw [if_pos (of_decide_eq_true hb)] at qE qO
    refine rd_must T rfl hL8 ⟨by decide, by decide +kernel⟩ (fun e => qE (by rw [e]; rfl)) fun l9 e9 H9 hL9 o9 => ?_
    rw [e9, Option.bind_some] at qE qO
    refine rd_choice (zs := ["refund", "carry", "fewer"]) (ts := MR.nones) T rfl hL9 (fun Q' q' => q' _ _ (Same.refl _) (T.t_NONES _)) (by decide) (by decide) (by decide +kernel) (fun e => qE (by rw [e]; rfl)) fun x10 e10 H10 hL10 o10 => ?_
    rw [e10, Option.bind_some] at qE qO
    have hx10 : x10.1 < 3 := by
      cases l9 with
      | nil => cases e10
      | cons v r =>
        have e10 : (MR.nones.findIdx? fun t => t == v).map (fun i => (i, r)) = some x10 := e10
        rw [Option.map_eq_some_iff] at e10
        obtain ⟨i, hi, e⟩ := e10
        rw [List.findIdx?_eq_some_iff_getElem] at hi
        obtain ⟨hi, _⟩ := hi
        rw [← e]
        exact hi
    have t2 : ∀ Q' : VK, Q' (.bl (decide (kind ≠ 0 ∨ x10.1 ≠ 2))) H10 →
        tOrV (tOp rNe (tVar 1) (tC (.int 0))) (tOp rNe (tOp (rIxT K) (tC (.ref T.a_NONES)) (tVar 4)) (tC (.str "fewer"))) [some (V.ref a), some (.int (kind : Int)), some (.int x6.1), some (.int x8.1), some (.int (x10.1 : Int))] H10 Q' := by
      intro Q' q'
      refine ⟨_, rfl, rfl, _, rfl, ?_⟩
      rw [int_eq]
      by_cases c0 : kind = 0
      · have : decide ((kind : Int) = 0) = true := decide_eq_true (by omega)
        rw [this]
        refine iteF ⟨_, rfl, T.a_NONES, _, _, (["refund", "carry", "fewer"] : List Str)[x10.1]?.elim .non V.str, rfl, rfl, T.t_NONES _, ?_, ?_, ?_⟩
        · refine atI_nat ?_
          match x10.1, hx10 with
          | 0, _ => rfl
          | 1, _ => rfl
          | 2, _ => rfl
        · match x10.1, hx10 with
          | 0, _ => rfl
          | 1, _ => rfl
          | 2, _ => rfl
        · have e : (!decide ((["refund", "carry", "fewer"] : List Str)[x10.1]?.elim V.non V.str = V.str "fewer")) = decide (kind ≠ 0 ∨ x10.1 ≠ 2) := by
            rw [c0]
            match x10.1, hx10 with
            | 0, _ => decide +kernel
            | 1, _ => decide +kernel
            | 2, _ => decide +kernel
          rw [e]
          exact q'
      · have : decide ((kind : Int) = 0) = false := decide_eq_false (by omega)
        rw [this]
        rw [decide_eq_true (.inl c0)] at q'
        exact iteT q'
    refine t2 _ ⟨_, rfl, fun hb => ?_, fun hb => qE (by rw [if_neg (of_decide_eq_false hb)])⟩
    rw [if_pos (of_decide_eq_true hb)] at qE qO
    exact rd_end T rfl hL10 qE fun e => qO e _ (Off.trans off8 (Off.trans o9 o10))
end
end RR
namespace RR
open PySem PySem.Spec PyProof.Rows L2
theorem LineAt.len {C : Addr} {H : Hp} {a lw : Addr} {l : List W} (h : LineAt C H a lw l) : l.length ≤ 70000 := by
  obtain ⟨dx, ws, k, as, _, _, _, h4, _, h6, _⟩ := h.ex
  rw [← h4, List.length_drop]
  omega
theorem LineAt.lw {C : Addr} {H : Hp} {a lw : Addr} {l : List W} (h : LineAt C H a lw l) : ∃ xs, H lw = some (.lst xs) := by
  obtain ⟨dx, ws, k, as, _, h2, _⟩ := h.ex
  exact ⟨_, h2⟩
/-- races stand where theirs do -/
theorem RacesAt.keep {C : Addr} {H H' : Hp} : ∀ {ra : List (Addr × Addr)} {rs : List MR.Race}, RacesAt C H ra rs → (∀ b o, H b = some o → (∃ x ∈ ra, b = x.1 ∨ b = x.2) → H' b = some o) → RacesAt C H' ra rs
  | _, _, .nil, _ => .nil
  | _, _, .cons h r, s => .cons ⟨⟨let ⟨dx, e⟩ := h.1.ob; ⟨dx, s _ _ e ⟨_, List.mem_cons_self, .inl rfl⟩⟩, s _ _ h.1.di ⟨_, List.mem_cons_self, .inr rfl⟩, h.1.nd⟩, h.2⟩ (RacesAt.keep r fun b o e ⟨x, hx, q⟩ => s b o e ⟨x, List.mem_cons_of_mem _ hx, q⟩)
theorem RacesAt.kind {C : Addr} {H : Hp} : ∀ {ra : List (Addr × Addr)} {rs : List MR.Race}, RacesAt C H ra rs → ∀ x ∈ ra, (∃ dx fs, H x.1 = some (.ins C dx fs)) ∧ ∃ kvs, H x.2 = some (.dK kvs)
  | _, _, .nil, x, hx => by cases hx
  | _, _, .cons h r, x, hx => by
    rcases List.mem_cons.mp hx with rfl | hx
    · obtain ⟨dx, e⟩ := h.1.ob
      exact ⟨⟨dx, _, e⟩, _, h.1.di⟩
    · exact RacesAt.kind r x hx
theorem CardAt.off {CC CRc C : Addr} {H H' : Hp} {c lr lp dn a dx : Addr} {fs : List (Str × V)} {ra : List (Addr × Addr)} {M : MR.Card} (h : CardAt CC CRc H c lr lp dn ra M) (o : Off a H H') (ha : H a = some (.ins C dx fs)) (hc : c ≠ a) (hr : ∀ x ∈ ra, x.1 ≠ a) : CardAt CC CRc H' c lr lp dn ra M := by
  obtain ⟨dc, e⟩ := h.ob
  obtain ⟨ps, e2, e3⟩ := h.fp
  refine ⟨⟨dc, o _ _ e hc⟩, o _ _ h.fr (ne_of h.fr ha (fun z => by cases z)), h.rs.keep fun b u hb ⟨x, hx, q⟩ => ?_, ⟨ps, o _ _ e2 (ne_of e2 ha (fun z => by cases z)), e3⟩, o _ _ h.fn (ne_of h.fn ha (fun z => by cases z)), h.nrp⟩
  rcases q with rfl | rfl
  · exact o _ _ hb (hr x hx)
  · obtain ⟨_, kvs, hk⟩ := h.rs.kind x hx
    exact o _ _ hb (ne_of hk ha (fun z => by cases z))
theorem CardAt.same {CC CRc : Addr} {H H' : Hp} {c lr lp dn : Addr} {ra : List (Addr × Addr)} {M : MR.Card} (h : CardAt CC CRc H c lr lp dn ra M) (s : Same H H') : CardAt CC CRc H' c lr lp dn ra M := by
  obtain ⟨dc, e⟩ := h.ob
  obtain ⟨ps, e2, e3⟩ := h.fp
  exact ⟨⟨dc, s _ _ e⟩, s _ _ h.fr, h.rs.same s, ⟨ps, s _ _ e2, e3⟩, s _ _ h.fn, h.nrp⟩
theorem couples_one (many : Int) (had : List (Int × Int)) (n : Int) (l : List W) (h : l ≠ []) : MR.couples many had n l = (MR.must (MR.sp "couple") l).bind fun l1 => (MR.number 1 many l1).bind fun x => (MR.number 1 many x.2).bind fun y =>
    if MR.coupleOk many had x.1 y.1 = true then MR.couples many (had ++ [(y.1, x.1)]) (n + 1) y.2 else none := by
  match l, h with
  | [c], _ =>
    show none = (if c = MR.sp "couple" then some [] else none : Option (List W)).bind _
    split <;> rfl
  | [c, a], _ =>
    show none = (if c = MR.sp "couple" then some [a] else none : Option (List W)).bind _
    split
    · show none = (if 1 ≤ MR.numberOf a ∧ MR.numberOf a ≤ many then some (MR.numberOf a, []) else none : Option (Int × List W)).bind _
      split <;> rfl
    · rfl
  | c :: a :: b :: r, _ =>
    rw [MR.couples]
    show _ = (if c = MR.sp "couple" then some (a :: b :: r) else none : Option (List W)).bind _
    by_cases h1 : c = MR.sp "couple"
    · rw [if_pos h1, Option.bind_some]
      show _ = (if 1 ≤ MR.numberOf a ∧ MR.numberOf a ≤ many then some (MR.numberOf a, b :: r) else none : Option (Int × List W)).bind _
      by_cases h2 : 1 ≤ MR.numberOf a ∧ MR.numberOf a ≤ many
      · rw [if_pos h2, Option.bind_some]
        show _ = (if 1 ≤ MR.numberOf b ∧ MR.numberOf b ≤ many then some (MR.numberOf b, r) else none : Option (Int × List W)).bind _
        by_cases h3 : 1 ≤ MR.numberOf b ∧ MR.numberOf b ≤ many
        · rw [if_pos h3, Option.bind_some]
          by_cases h4 : MR.coupleOk many had (MR.numberOf a) (MR.numberOf b) = true
          · rw [if_pos ⟨h1, h2, h3, h4⟩, if_pos h4]
          · rw [if_neg (fun z => h4 z.2.2.2), if_neg h4]
        · rw [if_neg (fun z => h3 z.2.2.1), if_neg h3]
          rfl
      · rw [if_neg (fun z => h2 z.2.1), if_neg h2]
        rfl
    · rw [if_neg (fun z => h1 z.1), if_neg h1]
      rfl
theorem number_len {lo hi : Int} {l : List W} {x : Int × List W} (h : MR.number lo hi l = some x) : x.2.length + 1 = l.length ∧ lo ≤ x.1 ∧ x.1 ≤ hi := by
  cases l with
  | nil => cases h
  | cons v r =>
    have h : (if lo ≤ MR.numberOf v ∧ MR.numberOf v ≤ hi then some (MR.numberOf v, r) else none) = some x := h
    split at h
    · next z => rw [← Option.some.inj h]; exact ⟨rfl, z⟩
    · cases h
theorem must_len {t : W} {l r : List W} (h : MR.must t l = some r) : r.length + 1 = l.length := by
  cases l with
  | nil => cases h
  | cons v q =>
    have h : (if v = t then some q else none) = some r := h
    split at h
    · rw [← Option.some.inj h]; rfl
    · cases h
section
variable {P : Program} {w : World} {K : PySem.W.Frag} {mg : Str → Option Value} {base : Heap}
theorem rd_numberA (T : Tx K mg) {σ : L2.St} {H : Hp} {Q : VK} {E : XK} {i : Nat} {a lw : Addr} {l : List W} {lo hi : Int} {t : TA} (hs : σ[i]? = some (some (.ref a))) (hL : LineAt T.cLine H a lw l) (ht : ∀ Q' : List V → Hp → Prop, Q' [.int lo, .int hi] H → t σ H Q') (qE : MR.number lo hi l = none → Ref T.cRefused E [-8])
    (qO : ∀ x, MR.number lo hi l = some x → ∀ H' : Hp, LineAt T.cLine H' a lw x.2 → Off a H H' → Q (.int x.1) H') :
    tMeth T.cLine "number" (spNumber T.cLine T.cRefused) [] E (tVar i) t σ H Q := by
  obtain ⟨dx, k, h1⟩ := hL.ins
  exact ⟨_, hs, a, dx, _, rfl, h1, lF_number _ _, ht _ ⟨a, lw, l, lo, hi, rfl, hL, qE, qO⟩⟩
def spReadRace (CC CRc CL CR : Addr) : Sp := fun vs H Q E => ∃ (c lr lp dn a lw : Addr) (ra : List (Addr × Addr)) (M : MR.Card) (l : List W), vs = [.ref c, .ref a] ∧ CardAt CC CRc H c lr lp dn ra M ∧ LineAt CL H a lw l ∧ c ≠ a ∧ (∀ x ∈ ra, x.1 ≠ a) ∧
  (MR.readRace M l = none → Ref CR E [-8]) ∧
  ∀ M', MR.readRace M l = some M' → ∀ (H' : Hp) (ra' : List (Addr × Addr)), CardAt CC CRc H' c lr lp dn ra' M' → (∀ x ∈ ra', x ∈ ra ∨ (H x.1 = none ∧ H x.2 = none)) → (∀ b o, H b = some o → b ≠ a → b ≠ lr → H' b = some o) → Q .non H'
theorem ok_read_race (T : Tx K mg) : FnOk P w K mg base (L2.CX P w) 7 T.f_read_race T.d_read_race ["card", "line"] (spReadRace T.cCard T.cRace T.cLine T.cRefused) := by
  have G : FnOk P w K mg base (L2.CX P w) 4 T.f_need_cards T.d_need_cards ["is_so"] (spNeedC T.cRefused) := ok_need_cards T
  have GM : FnOk P w K mg base (L2.CX P w) 6 T.f_line_must T.d_line_must ["self", "text"] (spMust T.cLine T.cRefused) := ok_must T
  have GN : FnOk P w K mg base (L2.CX P w) 6 T.f_line_number T.d_line_number ["self", "least", "most"] (spNumber T.cLine T.cRefused) := ok_number T
  have GH : FnOk P w K mg base CX0 1 T.f_line_has_more T.d_line_has_more ["self"] (spHasMore T.cLine) := ok_has_more T
  have GR : FnOk P w K mg base CX0 1 T.f_race_init T.d_race_init ["self", "many"] (spRaceInit T.cRace) := ok_race_init T
  have GC : FnOk P w K mg base (L2.CX P w) 5 T.f_race_couple T.d_race_couple ["self", "one", "other"] (spCouple T.cRace T.cRefused) := ok_couple T
  refine T.read_race.me.F.okX sc_read_race (fun vs H Q E h => ?_) (fun cdv A outer s H vs Q E hr h => ⟨_,
    pss_cons (ps_expr (pe_call G (hr.mono (by decide)) rfl T.need_cards.g T.need_cards.me.F.kp T.need_cards.me.b .nil (psx (E := E) (takes_of rfl rfl rfl rfl)) (by exact (pa_cons (pe_and (pe_cmpR op_lt (pe_callB call_len_seq (by rfl) T.z_len PySem.boot_len (pa_cons (pe_fld (pv 0) rfl) pa_nil)) (pe_k rfl T.g_MOST_RACES) (nomark _))
      (pe_one (pe_cmpR op_eq (pe_callB call_len_seq (by rfl) T.z_len PySem.boot_len (pa_cons (pe_fld (pv 0) rfl) pa_nil)) pe_int (nomark _)))) pa_nil))))
    (pss_cons (ps_set (i := 2) sc_read_race.nd rfl (Or.inl rfl) (pe_make T.mk_Race GR (hr.mono (by decide)) rfl T.g_cRace T.race_init.b .nil pass0 (by exact (pa_cons (pe_meth (pv 1) T.k_cLine T.m_line_number GN hr T.line_number.b .nil (psx (E := E) (takes_of rfl rfl rfl rfl)) (by exact (pa_cons pe_int (pa_cons pe_int pa_nil)))) pa_nil))))
    (pss_cons (ps_set (i := 3) sc_read_race.nd rfl (Or.inl rfl) pe_int)
    (pss_cons (ps_while (passes_of rfl) (pt_val (pe_meth0 (pv 1) T.k_cLine T.m_line_has_more GH (hr.mono (by decide)) T.line_has_more.b .nil pass0))
      (pss_cons (ps_expr (pe_meth (pv 1) T.k_cLine T.m_line_must GM hr T.line_must.b .nil (psx (E := E) (takes_of rfl rfl rfl rfl)) (by exact (pa_cons pe_str pa_nil))))
      (pss_cons (ps_set (i := 4) sc_read_race.nd rfl (Or.inl rfl) (pe_meth (pv 1) T.k_cLine T.m_line_number GN hr T.line_number.b .nil (psx (E := E) (takes_of rfl rfl rfl rfl)) (by exact (pa_cons pe_int (pa_cons (pe_fld (pv 2) rfl) pa_nil)))))
      (pss_cons (ps_expr (pe_meth (pv 2) T.k_cRace T.m_race_couple GC (hr.mono (by decide)) T.race_couple.b .nil (psx (E := E) (takes_of rfl rfl rfl rfl)) (by exact (pa_cons (pv 4) (pa_cons (pe_meth (pv 1) T.k_cLine T.m_line_number GN hr T.line_number.b .nil (psx (E := E) (takes_of rfl rfl rfl rfl)) (by exact (pa_cons pe_int (pa_cons (pe_fld (pv 2) rfl) pa_nil)))) pa_nil)))))
      (pss_one (ps_aug (i := 3) sc_read_race.nd rfl (Or.inl rfl) pe_int ip_add))))))
    (pss_cons (ps_expr (pe_call G (hr.mono (by decide)) rfl T.need_cards.g T.need_cards.me.F.kp T.need_cards.me.b .nil (psx (E := E) (takes_of rfl rfl rfl rfl)) (by exact (pa_cons (pe_cmpR op_le (pv 3) (pe_k rfl T.g_MOST_COUPLES) (nomark _)) pa_nil))))
    (pss_one (ps_expr (pe_bm PySem.F.plainAttrs_list PySem.F.slot_list_append PySem.F.type_list_append mt_append (pe_fld (pv 0) rfl) (pa_cons (pv 2) pa_nil)))))))), ?_⟩)
  · obtain ⟨c, lr, lp, dn, a, lw, ra, M, l, rfl, _⟩ := h; rfl
  · obtain ⟨c, lr, lp, dn, a, lw, ra, M, l, rfl, hC, hL, nca, nra, qE, qO⟩ := h
    obtain ⟨dc, hc⟩ := hC.ob
    obtain ⟨ps, hlp, hps⟩ := hC.fp
    obtain ⟨da, k0, ha⟩ := hL.ins
    have hlen := Paired.len hC.rs
    unfold MR.readRace at qE qO
    -- the first test
    have t1 : ∀ Q' : VK, Q' (.bl (decide (M.races.length < 16 ∧ M.pools = 0))) H →
        tAndV (tOp (rI0 fun i j => .bl (decide (i < j))) (tCB (fun xs H Q => ∃ p ys, xs = [.ref p] ∧ (SqL K H p ys ∨ SqT K H p ys) ∧ Q (.int ys.length) H) (tCons (tFld K (tVar 0) "races") tNil)) (tC (.int 16)))
          (tOp rEq (tCB (fun xs H Q => ∃ p ys, xs = [.ref p] ∧ (SqL K H p ys ∨ SqT K H p ys) ∧ Q (.int ys.length) H) (tCons (tFld K (tVar 0) "pools") tNil)) (tC (.int 0))) [some (V.ref c), some (.ref a), none, none, none] H Q' := by
      intro Q' q'
      refine ⟨_, rfl, c, _, dc, _, _, rfl, hc, T.k_cCard, T.n_Card_races, cF_races _ _ _, lr, _, rfl, .inl (SqL.of hC.fr), _, _, rfl, rfl, _, rfl, ?_⟩
      rw [List.length_map, hlen]
      by_cases c1 : M.races.length < 16
      · rw [decide_eq_true (by omega)]
        refine iteT ⟨_, rfl, c, _, dc, _, _, rfl, hc, T.k_cCard, T.n_Card_pools, cF_pools _ _ _, lp, _, rfl, .inl (SqL.of hlp), rfl, ?_⟩
        rw [int_eq, hps]
        have : decide (((M.pools : Nat) : Int) = 0) = decide (M.races.length < 16 ∧ M.pools = 0) := by
          rw [decide_eq_decide]
          omega
        rw [this]
        exact q'
      · rw [decide_eq_false (by omega)]
        rw [decide_eq_false (fun z => c1 z.1)] at q'
        exact iteF q'
    refine t1 _ ⟨_, rfl, fun hb => ?_, fun hb => qE (by rw [if_neg (of_decide_eq_false hb)])⟩
    rw [if_pos (of_decide_eq_true hb)] at qE qO
    -- race = Race(line.number(2, 24))
    refine rd_number T rfl hL (fun e => qE (by rw [e]; rfl)) fun x1 e1 H1 hL1 o1 => ?_
    rw [e1, Option.bind_some] at qE qO
    obtain ⟨xl1, xlo, xhi⟩ := number_len e1
    intro r dx nr ndx ne
    refine ⟨r, dx, x1.1, rfl, upd_same, fun H2 d hR offr hd => ⟨rfl, ?_⟩⟩
    have hd1 : H1 d = none := NdefX.upd_none (NdefX.upd_none hd)
    have s12 : Same H1 H2 := Same.made nr ndx offr
    obtain ⟨da1, k1, ha1⟩ := hL1.ins
    have ner : r ≠ a := fun z => by rw [z, ha1] at nr; cases nr
    have ned : d ≠ a := fun z => by rw [z, ha1] at hd1; cases hd1
    -- what's not tracked ahead of all
    have back : ∀ b, H1 b = none → H b = none := fun b hb => by
      cases q : H b with
      | none => rfl
      | some o =>
        by_cases hba : b = a
        · rw [hba, ha1] at hb; cases hb
        · rw [o1 b o q hba] at hb; cases hb
    have hr0 := back r nr
    have hd0 := back d hd1
    -- the couples
    refine ⟨fun m σ H' => ∃ (had : List (Int × Int)) (n : Nat) (rest : List W) (v : Option V), σ = [some (V.ref c), some (.ref a), some (.ref r), some (.int (n : Int)), v] ∧ m = rest.length ∧ LineAt T.cLine H' a lw rest ∧ RaceAt T.cRace H' r d ⟨x1.1, had⟩ ∧ Off a H H' ∧
      had.length + rest.length ≤ 70000 ∧ MR.couples x1.1 [] 0 x1.2 = MR.couples x1.1 had (n : Int) rest, ⟨_, [], 0, x1.2, none, rfl, rfl, hL1.same s12, hR, Off.trans o1 (Off.of s12), by have := hL1.len; simpa using this, rfl⟩, ?_⟩
    rintro m σ H3 ⟨had, n, rest, v, rfl, rfl, hL3, hR3, o3, hz, heq⟩
    obtain ⟨da3, k3, ha3⟩ := hL3.ins
    refine ⟨_, rfl, a, da3, _, rfl, ha3, lF_hm _ _, a, lw, rest, rfl, hL3, _, rfl, ?_⟩
    by_cases hrest : rest = []
    · -- behind the loop
      subst hrest
      refine iteF ⟨_, rfl, _, _, rfl, rfl, _, rfl, fun hb => ?_, fun hb => qE ?_⟩
      · have hb := of_decide_eq_true hb
        have hC3 := hC.off o3 ha nca nra
        obtain ⟨dc3, hc3⟩ := hC3.ob
        refine ⟨_, rfl, c, _, dc3, _, _, rfl, hc3, T.k_cCard, T.n_Card_races, cF_races _ _ _, .inl ⟨rfl, _, SqL.of hC3.fr⟩, _, rfl, lr, _, _, rfl, rfl, hC3.fr, ?_, ?_⟩
        · rw [List.length_map, hlen]
          have := (of_decide_eq_true ‹decide (M.races.length < 16 ∧ M.pools = 0) = true›).1
          exact szl (by omega)
        · have hC3k := hC3.rs.kind
          have hlr3 := hC3.fr
          have offlr : Off lr H3 (upd H3 lr (.lst ((ra.map fun x => V.ref x.1) ++ [V.ref r]))) := Off.upd
          refine qO ⟨M.races ++ [⟨x1.1, had⟩], M.pools, M.names⟩ (by rw [heq]; show (some (had, (n : Int))).bind _ = _; rw [Option.bind_some, if_pos hb]) _ (ra ++ [(r, d)]) ⟨⟨dc3, offlr _ _ hc3 (ne_of hc3 hlr3 (fun z => by cases z))⟩, ?_, ?_, ?_, offlr _ _ hC3.fn (ne_of hC3.fn hlr3 (fun z => by cases z)), hC3.nrp⟩ ?_ ?_
          · rw [upd_same, List.map_append]; rfl
          · refine Paired.snoc (hC3.rs.keep fun b o hb ⟨x, hx, q⟩ => ?_) ⟨⟨?_, ?_, hR3.nd⟩, ?_⟩
            · obtain ⟨⟨dxx, fss, h1⟩, kvs, h2⟩ := hC3k x hx
              rcases q with rfl | rfl
              · exact offlr _ _ hb (ne_of h1 hlr3 (fun z => by cases z))
              · exact offlr _ _ hb (ne_of h2 hlr3 (fun z => by cases z))
            · obtain ⟨dr3, hr3⟩ := hR3.ob
              exact ⟨dr3, offlr _ _ hr3 (ne_of hr3 hlr3 (fun z => by cases z))⟩
            · exact offlr _ _ hR3.di (ne_of hR3.di hlr3 (fun z => by cases z))
            · exact ⟨by show (0 : Int) ≤ x1.1; omega, by show x1.1 ≤ 100; omega⟩
          · obtain ⟨ps3, hp3, hpl⟩ := hC3.fp
            exact ⟨ps3, offlr _ _ hp3 (Ne.symm hC3.nrp), hpl⟩
          · intro x hx
            rcases List.mem_append.mp hx with hx | hx
            · exact .inl hx
            · have hx : x = (r, d) := by simpa using hx
              rw [hx]
              exact .inr ⟨hr0, hd0⟩
          · intro b o hb hba hbl
            rw [upd_ne hbl]
            exact o3 b o hb hba
      · rw [heq]
        show (some (had, (n : Int))).bind _ = none
        rw [Option.bind_some, if_neg (of_decide_eq_false hb)]
    · rw [show (!rest.isEmpty) = true by cases rest with
        | nil => exact absurd rfl hrest
        | cons _ _ => rfl]
      refine iteT ?_
      have heq := heq.trans (couples_one x1.1 had n rest hrest)
      refine ⟨fun σ' H' => ∃ m', m' < rest.length ∧ ∃ (had : List (Int × Int)) (n : Nat) (rest : List W) (v : Option V), σ' = [some (V.ref c), some (.ref a), some (.ref r), some (.int (n : Int)), v] ∧ m' = rest.length ∧ LineAt T.cLine H' a lw rest ∧ RaceAt T.cRace H' r d ⟨x1.1, had⟩ ∧ Off a H H' ∧
        had.length + rest.length ≤ 70000 ∧ MR.couples x1.1 [] 0 x1.2 = MR.couples x1.1 had (n : Int) rest, fun _ _ q => q, ?_⟩
      -- across a change of the line
      have raceOff : ∀ {Ha Hb : Hp} {hd : List (Int × Int)}, RaceAt T.cRace Ha r d ⟨x1.1, hd⟩ → Off a Ha Hb → RaceAt T.cRace Hb r d ⟨x1.1, hd⟩ := fun hh oo => by
        obtain ⟨z, e⟩ := hh.ob
        exact ⟨⟨z, oo _ _ e ner⟩, oo _ _ hh.di ned, hh.nd⟩
      refine rd_must T rfl hL3 ⟨by decide, by decide +kernel⟩ (fun e => qE (by rw [heq, e]; rfl)) fun l4 e4 H4 hL4 o4 => ?_
      rw [e4, Option.bind_some] at heq
      have hR4 := raceOff hR3 o4
      obtain ⟨dr4, hr4⟩ := hR4.ob
      refine rd_numberA (lo := 1) (hi := x1.1) T rfl hL4 (fun Q' q' => ⟨_, rfl, r, _, dr4, _, _, rfl, hr4, T.k_cRace, T.n_Race_many, rF_many _ _, q'⟩) (fun e => qE (by rw [heq, e]; rfl)) fun x5 e5 H5 hL5 o5 => ?_
      rw [e5, Option.bind_some] at heq
      have hR5 := raceOff hR4 o5
      obtain ⟨dr5, hr5⟩ := hR5.ob
      refine ⟨_, rfl, r, dr5, _, rfl, hr5, rF_co _ _, _, rfl, ?_⟩
      refine rd_numberA (lo := 1) (hi := x1.1) T rfl hL5 (fun Q' q' => ⟨_, rfl, r, _, dr5, _, _, rfl, hr5, T.k_cRace, T.n_Race_many, rF_many _ _, q'⟩) (fun e => qE (by rw [heq, e]; rfl)) fun x6 e6 H6 hL6 o6 => ?_
      rw [e6, Option.bind_some] at heq
      have hR6 := raceOff hR5 o6
      refine ⟨r, d, ⟨x1.1, had⟩, x5.1, x6.1, rfl, hR6, by show had.length ≤ 70000; omega, fun hb => qE ?_, fun hb H7 hR7 o7 => ?_⟩
      · rw [heq]
        have hb : MR.coupleOk x1.1 had x5.1 x6.1 = false := hb
        rw [hb]
        rfl
      · have hb : MR.coupleOk x1.1 had x5.1 x6.1 = true := hb
        rw [if_pos hb] at heq
        refine ⟨_, rfl, _, _, rfl, rfl, ?_⟩
        have hl1 := must_len e4
        have hl2 := (number_len e5).1
        have hl3 := (number_len e6).1
        obtain ⟨xs, hlw⟩ := hL6.lw
        have o36 : Off a H H6 := Off.trans o3 (Off.trans o4 (Off.trans o5 o6))
        refine ⟨x6.2.length, by omega, had ++ [(x6.1, x5.1)], n + 1, x6.2, some (.int x5.1), rfl, rfl, ?_, hR7, ?_, ?_, heq⟩
        · refine hL6.keep fun b o hb q => o7 b o hb ?_
          rcases q with rfl | rfl | ⟨xs, rfl⟩
          · exact Ne.symm ned
          · exact ne_of hlw hR6.di (fun z => by cases z)
          · exact ne_of hb hR6.di (fun z => by cases z)
        · intro b o hb hba
          exact o7 b o (o36 b o hb hba) (ne_of_none hb hd0)
        · rw [List.length_append]
          show had.length + 1 + x6.2.length ≤ 70000
          omega
end
end RR
namespace RR
open PySem PySem.Spec PyProof.Rows L2
theorem LineAt.updD {C : Addr} {H : Hp} {a lw p : Addr} {l : List W} {u o : HO} (h : LineAt C H a lw l) (hp : H p = some u) (h1 : ∀ C dx fs, u ≠ .ins C dx fs) (h2 : ∀ xs, u ≠ .lst xs) (h3 : ∀ xs, u ≠ .tup xs) : LineAt C (upd H p o) a lw l := by
  obtain ⟨dx, k, e1⟩ := h.ins
  obtain ⟨xs, e2⟩ := h.lw
  refine h.keep fun b v hb q => ?_
  rw [upd_ne]
  · exact hb
  · rintro rfl
    rw [hp] at hb
    have hb := Option.some.inj hb
    rcases q with rfl | rfl | ⟨ys, rfl⟩
    · rw [hp] at e1; exact h1 _ _ _ (Option.some.inj e1)
    · rw [hp] at e2; exact h2 _ (Option.some.inj e2)
    · exact h3 _ hb
theorem choice_lt {ts : List W} {l : List W} {x : Nat × List W} (h : MR.choice ts l = some x) : x.1 < ts.length := by
  cases l with
  | nil => cases h
  | cons v r =>
    have e10 : (ts.findIdx? fun t => t == v).map (fun i => (i, r)) = some x := h
    rw [Option.map_eq_some_iff] at e10
    obtain ⟨i, hi, e⟩ := e10
    rw [List.findIdx?_eq_some_iff_getElem] at hi
    obtain ⟨hi, _⟩ := hi
    rw [← e]
    exact hi
section
variable {P : Program} {w : World} {K : PySem.W.Frag} {mg : Str → Option Value} {base : Heap}
theorem rd_choiceA (T : Tx K mg) {σ : L2.St} {H : Hp} {Q : VK} {E : XK} {i : Nat} {a lw ta : Addr} {l : List W} {zs : List Str} (ts : List W) (hs : σ[i]? = some (some (.ref a))) (hL : LineAt T.cLine H a lw l)
    (hta : ∀ H, SqT K H ta (zs.map V.str)) (hz1 : zs.length ≤ 100) (hz2 : ∀ z ∈ zs, z.length ≤ 1000) (hts : zs.map spz = ts) (qE : MR.choice ts l = none → Ref T.cRefused E [-8])
    (qO : ∀ x, MR.choice ts l = some x → ∀ H' : Hp, LineAt T.cLine H' a lw x.2 → Off a H H' → Q (.int (x.1 : Int)) H') :
    tMeth T.cLine "choice" (spChoice K T.cLine T.cRefused) [] E (tVar i) (tCons (tC (.ref ta)) tNil) σ H Q := by
  obtain ⟨dx, k, h1⟩ := hL.ins
  subst hts
  exact ⟨_, hs, a, dx, _, rfl, h1, lF_choice _ _, a, lw, ta, l, zs, rfl, hta _, hz1, hz2, hL, qE, fun x e H' hL' o' => qO x e H' hL' o'⟩
def spReadPool (CC CRc CL CR : Addr) : Sp := fun vs H Q E => ∃ (c lr lp dn a lw : Addr) (ra : List (Addr × Addr)) (M : MR.Card) (l : List W), vs = [.ref c, .ref a] ∧ CardAt CC CRc H c lr lp dn ra M ∧ LineAt CL H a lw l ∧ c ≠ a ∧ (∀ x ∈ ra, x.1 ≠ a) ∧ M.races.length ≤ 16 ∧ M.names.length = M.pools ∧
  (MR.readPool M l = none → Ref CR E [-8]) ∧
  ∀ M', MR.readPool M l = some M' → ∀ (H' : Hp), CardAt CC CRc H' c lr lp dn ra M' → (∀ b o, H b = some o → b ≠ a → b ≠ lp → b ≠ dn → H' b = some o) → Q .non H'
theorem ok_read_pool (T : Tx K mg) : FnOk P w K mg base (L2.CX P w) 8 T.f_read_pool T.d_read_pool ["card", "line"] (spReadPool T.cCard T.cRace T.cLine T.cRefused) := by
  have G : FnOk P w K mg base (L2.CX P w) 4 T.f_need_cards T.d_need_cards ["is_so"] (spNeedC T.cRefused) := ok_need_cards T
  have GM : FnOk P w K mg base (L2.CX P w) 6 T.f_line_must T.d_line_must ["self", "text"] (spMust T.cLine T.cRefused) := ok_must T
  have GW : FnOk P w K mg base (L2.CX P w) 5 T.f_line_word T.d_line_word ["self"] (spWord T.cLine T.cRefused) := ok_word T
  have GIN : FnOk P w K mg base CX0 2 T.f_is_name T.d_is_name ["word"] spIsName := ok_is_name T
  have GN : FnOk P w K mg base (L2.CX P w) 6 T.f_line_number T.d_line_number ["self", "least", "most"] (spNumber T.cLine T.cRefused) := ok_number T
  have GC : FnOk P w K mg base (L2.CX P w) 6 T.f_line_choice T.d_line_choice ["self", "texts"] (spChoice K T.cLine T.cRefused) := ok_choice T
  have GP : FnOk P w K mg base CX0 1 T.f_pool_init T.d_pool_init ["self", "kind", "many", "race"] (spPoolInit T.cPool) := ok_pool_init T
  have GI : FnOk P w K mg base CX0 1 T.f_pool_its_races T.d_pool_its_races ["self"] (spItsRaces T.cPool) := ok_its_races T
  have GA : FnOk P w K mg base CX0 1 T.f_card_race_at T.d_card_race_at ["self", "number"] (spRaceAt T.cCard T.cRace) := ok_race_at T
  have GR : FnOk P w K mg base CX0 1 T.f_race_all_interests T.d_race_all_interests ["self"] (spInterests T.cRace) := ok_interests T
  have GT : FnOk P w K mg base (L2.CX P w) 7 T.f_read_terms T.d_read_terms ["line", "kind"] (spTerms T.cLine T.cRefused) := ok_terms T
  refine T.read_pool.me.F.okX sc_read_pool (fun vs H Q E h => ?_) (fun cdv A outer s H vs Q E hr h => ⟨_,
    pss_cons (ps_set (i := 2) sc_read_pool.nd rfl (Or.inl rfl) (pe_meth0 (pv 1) T.k_cLine T.m_line_word GW (hr.mono (by decide)) T.line_word.b .nil (psx (E := E) (takes_of rfl rfl rfl rfl))))
    (pss_cons (ps_expr (pe_call G (hr.mono (by decide)) rfl T.need_cards.g T.need_cards.me.F.kp T.need_cards.me.b .nil (psx (E := E) (takes_of rfl rfl rfl rfl)) (by exact (pa_cons (pe_and (pe_cmpR op_lt (pe_callB call_len_seq (by rfl) T.z_len PySem.boot_len (pa_cons (pe_fld (pv 0) rfl) pa_nil)) (pe_k rfl T.g_MOST_POOLS) (nomark _))
      (pe_and (pe_call GIN (hr.mono (by decide)) rfl T.is_name.g T.is_name.me.F.kp T.is_name.me.b .nil pass0 (by exact (pa_cons (pv 2) pa_nil))) (pe_one (pe_cmp (pc_dnotin (hu_of hr) (pv 2) (pe_fld (pv 0) rfl)))))) pa_nil))))
    (pss_cons (ps_dput (hu_of hr) (pe_fld (pv 0) rfl) (pv 2) pe_bl rfl)
    (pss_cons (ps_set (i := 3) sc_read_pool.nd rfl (Or.inl rfl) (pe_meth (pv 1) T.k_cLine T.m_line_choice GC (hr.mono (by decide)) T.line_choice.b .nil (psx (E := E) (takes_of rfl rfl rfl rfl)) (by exact (pa_cons (pe_glob (v := .ref T.a_KINDS) rfl T.g_KINDS rfl) pa_nil))))
    (pss_cons (ps_set (i := 4) sc_read_pool.nd rfl (Or.inl rfl) (pe_meth (pv 1) T.k_cLine T.m_line_number GN (hr.mono (by decide)) T.line_number.b .nil (psx (E := E) (takes_of rfl rfl rfl rfl)) (by exact (pa_cons (pe_ix ix_tup (pe_glob (v := .ref T.a_LEAST_K) rfl T.g_LEAST_K rfl) (pv 3) (fun _ _ => rfl)) (pa_cons (pe_ix ix_tup (pe_glob (v := .ref T.a_MOST_K) rfl T.g_MOST_K rfl) (pv 3) (fun _ _ => rfl)) pa_nil)))))
    (pss_cons (ps_expr (pe_meth (pv 1) T.k_cLine T.m_line_must GM (hr.mono (by decide)) T.line_must.b .nil (psx (E := E) (takes_of rfl rfl rfl rfl)) (by exact (pa_cons pe_str pa_nil))))
    (pss_cons (ps_set (i := 5) sc_read_pool.nd rfl (Or.inl rfl) (pe_make T.mk_Pool GP (hr.mono (by decide)) rfl T.g_cPool T.pool_init.b .nil pass0 (by exact (pa_cons (pv 3) (pa_cons (pv 4) (pa_cons (pe_meth (pv 1) T.k_cLine T.m_line_number GN (hr.mono (by decide)) T.line_number.b .nil (psx (E := E) (takes_of rfl rfl rfl rfl)) (by exact (pa_cons pe_int (pa_cons (pe_callB call_len_seq (by rfl) T.z_len PySem.boot_len (pa_cons (pe_fld (pv 0) rfl) pa_nil)) pa_nil)))) pa_nil))))))
    (pss_cons (ps_expr (pe_call G (hr.mono (by decide)) rfl T.need_cards.g T.need_cards.me.F.kp T.need_cards.me.b .nil (psx (E := E) (takes_of rfl rfl rfl rfl)) (by exact (pa_cons (pe_cmpR op_le (pe_ix ix_list (pe_meth0 (pv 5) T.k_cPool T.m_pool_its_races GI (hr.mono (by decide)) T.pool_its_races.b .nil pass0) (pe_un un_neg pe_int) (fun _ _ => rfl)) (pe_callB call_len_seq (by rfl) T.z_len PySem.boot_len (pa_cons (pe_fld (pv 0) rfl) pa_nil)) (nomark _)) pa_nil))))
    (pss_cons (ps_expr (pe_call G (hr.mono (by decide)) rfl T.need_cards.g T.need_cards.me.F.kp T.need_cards.me.b .nil (psx (E := E) (takes_of rfl rfl rfl rfl)) (by exact (pa_cons (pe_or (pe_cmpR op_eq (pv 3) (pe_k rfl T.g_LEGS) (nomark _)) (pe_one (pe_cmpR op_ge (pe_callB call_len_seq (by rfl) T.z_len PySem.boot_len (pa_cons (pe_meth0
      (pe_meth (pv 0) T.k_cCard T.m_card_race_at GA (hr.mono (by decide)) T.card_race_at.b .nil pass0 (by exact (pa_cons (pe_fld (pv 5) rfl) pa_nil))) T.k_cRace T.m_race_all_interests GR (hr.mono (by decide)) T.race_all_interests.b .nil pass0) pa_nil)) (pv 4) (nomark _)))) pa_nil))))
    (pss_cons (ps_expr (pe_call GT hr rfl T.read_terms.g T.read_terms.me.F.kp T.read_terms.me.b .nil (psx (E := E) (takes_of rfl rfl rfl rfl)) (by exact (pa_cons (pv 1) (pa_cons (pv 3) pa_nil)))))
    (pss_one (ps_expr (pe_bm PySem.F.plainAttrs_list PySem.F.slot_list_append PySem.F.type_list_append mt_append (pe_fld (pv 0) rfl) (pa_cons (pv 5) pa_nil))))))))))))), ?_⟩)
  · obtain ⟨c, lr, lp, dn, a, lw, ra, M, l, rfl, _⟩ := h; rfl
  · obtain ⟨c, lr, lp, dn, a, lw, ra, M, l, rfl, hC, hL, nca, nra, hm16, hnp, qE, qO⟩ := h
    obtain ⟨da, k0, ha⟩ := hL.ins
    have hlen := Paired.len hC.rs
    -- name = line.word()
    refine rd_word T rfl hL (fun e => qE (by rw [e]; rfl)) fun v r e1 H1 t hL1 o1 ht hv => ?_
    subst e1
    have qE : (if M.pools < 64 ∧ MR.isName v = true ∧ v ∉ M.names then
      (MR.choice MR.kinds r).bind fun kd => (MR.number (MR.leastK kd.1) (MR.mostK kd.1) kd.2).bind fun k => (MR.must (MR.sp "from") k.2).bind fun l =>
      (MR.number 1 M.races.length l).bind fun r =>
      if r.1 + MR.spans kd.1 k.1 - 1 ≤ (M.races.length : Int) ∧ (kd.1 = 3 ∨ k.1 ≤ ((MR.raceAt M.races r.1).interests.length : Int)) then
        (MR.readTerms kd.1 r.2).map fun _ => { M with pools := M.pools + 1, names := M.names ++ [v] }
      else none
    else none) = none → _ := qE
    have qO : ∀ M', (if M.pools < 64 ∧ MR.isName v = true ∧ v ∉ M.names then
      (MR.choice MR.kinds r).bind fun kd => (MR.number (MR.leastK kd.1) (MR.mostK kd.1) kd.2).bind fun k => (MR.must (MR.sp "from") k.2).bind fun l =>
      (MR.number 1 M.races.length l).bind fun r =>
      if r.1 + MR.spans kd.1 k.1 - 1 ≤ (M.races.length : Int) ∧ (kd.1 = 3 ∨ k.1 ≤ ((MR.raceAt M.races r.1).interests.length : Int)) then
        (MR.readTerms kd.1 r.2).map fun _ => { M with pools := M.pools + 1, names := M.names ++ [v] }
      else none
    else none) = some M' → _ := qO
    have hC1 := hC.off o1 ha nca nra
    obtain ⟨dc, hc⟩ := hC1.ob
    obtain ⟨ps, hlp, hps⟩ := hC1.fp
    have htk : H1 t = some (.tup ((v.map (fun c => (Sum.inl c : Key))).map kV)) := by rw [nkv_key]; exact ht
    -- the test
    have t1 : ∀ Q' : VK, (∀ H', Same H1 H' → Q' (.bl (decide (M.pools < 64 ∧ MR.isName v = true ∧ v ∉ M.names))) H') →
        tAndV (tOp (rI0 fun i j => .bl (decide (i < j))) (tCB (fun xs H Q => ∃ p ys, xs = [.ref p] ∧ (SqL K H p ys ∨ SqT K H p ys) ∧ Q (.int ys.length) H) (tCons (tFld K (tVar 0) "pools") tNil)) (tC (.int 64)))
          (tAndV (tCall spIsName [] E0 (tCons (tVar 2) tNil)) (tDNotIn (tVar 2) (tFld K (tVar 0) "names"))) [some (V.ref c), some (.ref a), some (.ref t), none, none, none] H1 Q' := by
      intro Q' q'
      refine ⟨_, rfl, c, _, dc, _, _, rfl, hc, T.k_cCard, T.n_Card_pools, cF_pools _ _ _, lp, _, rfl, .inl (SqL.of hlp), _, _, rfl, rfl, _, rfl, ?_⟩
      rw [hps]
      by_cases c1 : M.pools < 64
      · rw [decide_eq_true (by omega)]
        refine iteT ⟨_, rfl, t, v, rfl, ht, hv, fun H2 s2 => ⟨_, rfl, ?_⟩⟩
        obtain ⟨dc2, hc2⟩ := (hC1.same s2).ob
        cases c2 : MR.isName v with
        | false =>
          rw [decide_eq_false (fun z => by rw [c2] at z; exact absurd z.2.1 (by decide))] at q'
          exact iteF (q' H2 s2)
        | true =>
          refine iteT ⟨_, rfl, _, rfl, c, _, dc2, _, _, rfl, hc2, T.k_cCard, T.n_Card_names, cF_names _ _ _, dn, _, rfl, DGet.t (hC1.same s2).fn (s2 _ _ htk), ?_⟩
          rw [nkv_val]
          have : (!decide (v ∈ M.names)) = decide (M.pools < 64 ∧ MR.isName v = true ∧ v ∉ M.names) := by
            rw [← decide_not, decide_eq_decide]
            exact ⟨fun z => ⟨c1, c2, z⟩, fun z => z.2.2⟩
          rw [this]
          exact q' H2 s2
      · rw [decide_eq_false (by omega)]
        rw [decide_eq_false (fun z => c1 z.1)] at q'
        exact iteF (q' H1 (Same.refl _))
    refine t1 _ fun H2 s2 => ⟨_, rfl, fun hb => ?_, fun hb => qE (by rw [if_neg (of_decide_eq_false hb)])⟩
    have hb := of_decide_eq_true hb
    rw [if_pos hb] at qE
    have qO := fun M' => by have := qO M'; rw [if_pos hb] at this; exact this
    have hC2 := hC1.same s2
    have hL2 := hL1.same s2
    obtain ⟨dc2, hc2⟩ := hC2.ob
    obtain ⟨ps2, hlp2, hps2⟩ := hC2.fp
    -- card.names[name] = True
    refine ⟨_, rfl, c, _, dc2, _, _, rfl, hc2, T.k_cCard, T.n_Card_names, cF_names _ _ _, _, rfl, dn, _, rfl, DPut.t hC2.fn (s2 _ _ htk) (by unfold nkv; rw [List.length_map]; exact szl (by omega)), ?_⟩
    rw [nkv_put _ _ hb.2.2]
    have offd : ∀ u : HO, Off dn H2 (upd H2 dn u) := fun u => Off.upd
    have hC3 : CardAt T.cCard T.cRace (upd H2 dn (.dT (nkv (M.names ++ [v])))) c lr lp dn ra ⟨M.races, M.pools, M.names ++ [v]⟩ := by
      refine ⟨⟨dc2, offd _ _ _ hc2 (ne_of hc2 hC2.fn (fun z => by cases z))⟩, offd _ _ _ hC2.fr (ne_of hC2.fr hC2.fn (fun z => by cases z)), hC2.rs.keep fun b o e ⟨x, hx, q⟩ => ?_, ⟨ps2, offd _ _ _ hlp2 (ne_of hlp2 hC2.fn (fun z => by cases z)), hps2⟩, upd_same, hC2.nrp⟩
      obtain ⟨⟨dxx, fss, k1⟩, kvs, k2⟩ := hC2.rs.kind x hx
      rcases q with rfl | rfl
      · exact offd _ _ _ e (ne_of k1 hC2.fn (fun z => by cases z))
      · exact offd _ _ _ e (ne_of k2 hC2.fn (fun z => by cases z))
    have hL3 := hL2.updD (o := .dT (nkv (M.names ++ [v]))) hC2.fn (fun _ _ _ z => by cases z) (fun _ z => by cases z) (fun _ z => by cases z)
    have o3 : ∀ b o, H b = some o → b ≠ a → b ≠ dn → (upd H2 dn (.dT (nkv (M.names ++ [v])))) b = some o := fun b o e n1 n2 => by
      rw [upd_ne n2]
      exact s2 _ _ (o1 _ _ e n1)
    generalize hH3 : upd H2 dn (.dT (nkv (M.names ++ [v]))) = H3 at hC3 hL3 o3 ⊢
    obtain ⟨da3, k3, ha3⟩ := hL3.ins
    -- the rest of the line
    refine rd_choiceA (zs := ["place", "order", "any", "legs"]) T MR.kinds rfl hL3 T.t_KINDS (by decide) (by decide) (by decide +kernel) (fun e => qE (by rw [e]; rfl)) fun kd e4 H4 hL4 o4 => ?_
    rw [e4, Option.bind_some] at qE
    simp only [e4, Option.bind_some] at qO
    have hk4 : kd.1 < 4 := choice_lt e4
    have hC4 := hC3.off o4 ha3 nca nra
    obtain ⟨da4, k4, ha4⟩ := hL4.ins
    refine rd_numberA (lo := MR.leastK kd.1) (hi := MR.mostK kd.1) T rfl hL4 (fun Q' q' => ?_) (fun e => qE (by rw [e]; rfl)) fun k e5 H5 hL5 o5 => ?_
    · refine ⟨_, rfl, T.a_LEAST_K, _, (kd.1 : Int), .int (MR.leastK kd.1), rfl, rfl, T.t_LEAST_K _, ?_, _, rfl, T.a_MOST_K, _, (kd.1 : Int), .int (MR.mostK kd.1), rfl, rfl, T.t_MOST_K _, ?_, q'⟩
      · refine atI_nat ?_
        match kd.1, hk4 with
        | 0, _ => rfl
        | 1, _ => rfl
        | 2, _ => rfl
        | 3, _ => rfl
      · refine atI_nat ?_
        match kd.1, hk4 with
        | 0, _ => rfl
        | 1, _ => rfl
        | 2, _ => rfl
        | 3, _ => rfl
    rw [e5, Option.bind_some] at qE
    simp only [e5, Option.bind_some] at qO
    have hk5 : 1 ≤ k.1 ∧ k.1 ≤ 6 := by
      have := (number_len e5).2
      unfold MR.leastK MR.mostK at this
      split at this <;> split at this <;> (try split at this) <;> omega
    have hC5 := hC4.off o5 ha4 nca nra
    obtain ⟨da5, k5, ha5⟩ := hL5.ins
    refine rd_must T rfl hL5 ⟨by decide, by decide +kernel⟩ (fun e => qE (by rw [e]; rfl)) fun l6 e6 H6 hL6 o6 => ?_
    rw [e6, Option.bind_some] at qE
    simp only [e6, Option.bind_some] at qO
    have hC6 := hC5.off o6 ha5 nca nra
    obtain ⟨da6, k6, ha6⟩ := hL6.ins
    obtain ⟨dc6, hc6⟩ := hC6.ob
    -- pool = Pool(..)
    refine ⟨_, rfl, _, rfl, ?_⟩
    have hlr6 := hC6.fr
    refine rd_numberA (lo := 1) (hi := (M.races.length : Int)) T rfl hL6 (fun Q' q' => ?_) (fun e => qE (by rw [e]; rfl)) fun rr e7 H7 hL7 o7 => ?_
    · refine ⟨_, rfl, c, _, dc6, _, _, rfl, hc6, T.k_cCard, T.n_Card_races, cF_races _ _ _, lr, _, rfl, .inl (SqL.of hlr6), ?_⟩
      rw [List.length_map, hlen]
      exact q'
    rw [e7, Option.bind_some] at qE
    simp only [e7, Option.bind_some] at qO
    obtain ⟨_, hr7, hr7'⟩ := number_len e7
    have hC7 := hC6.off o7 ha6 nca nra
    intro p dx np ndx ne
    refine ⟨p, dx, (kd.1 : Int), k.1, rr.1, rfl, upd_same, fun H8 hP8 off8 => ⟨rfl, ?_⟩⟩
    have s78 : Same H7 H8 := Same.made np ndx off8
    have hC8 := hC7.same s78
    have hL8 := hL7.same s78
    have o38 : Off a H3 H8 := Off.trans o4 (Off.trans o5 (Off.trans o6 (Off.trans o7 (Off.of s78))))
    obtain ⟨dc8, hc8⟩ := hC8.ob
    obtain ⟨da8, k8, ha8⟩ := hL8.ins
    obtain ⟨dp8, hp8⟩ := hP8
    have npa : p ≠ a := fun z => by obtain ⟨_, _, e⟩ := hL7.ins; rw [z, e] at np; cases np
    -- need(pool.its_races()[-1] <= len(card.races))
    refine ⟨_, rfl, p, dp8, _, rfl, hp8, pF_ir _ _ _, p, (kd.1 : Int), k.1, rr.1, rfl, ⟨dp8, hp8⟩, by omega, by omega, fun H9 l9 s9 _ hl9 => ?_⟩
    have hC9 := hC8.same s9
    have hL9 := hL8.same s9
    obtain ⟨dc9, hc9⟩ := hC9.ob
    have hp9 := s9 _ _ hp8
    have hspan : (if (kd.1 : Int) = 3 then k.1 else 1) = MR.spans kd.1 k.1 := by
      unfold MR.spans
      by_cases h3 : kd.1 = 3
      · rw [if_pos h3, if_pos (by omega)]
      · rw [if_neg h3, if_neg (by omega)]
    rw [hspan] at hl9
    have hsp : 1 ≤ MR.spans kd.1 k.1 ∧ MR.spans kd.1 k.1 ≤ 6 := by
      unfold MR.spans
      split <;> omega
    have hlast : (rgV rr.1 (rr.1 + MR.spans kd.1 k.1)).getLast? = some (.int (rr.1 + MR.spans kd.1 k.1 - 1)) := by
      rw [List.getLast?_eq_getElem?, rgV_length]
      unfold rgV
      rw [List.getElem?_map, List.getElem?_range (by omega)]
      show some (V.int _) = _
      congr 2
      omega
    refine ⟨_, rfl, l9, _, _, _, rfl, rfl, SqL.of hl9, atI_last hlast, _, rfl, c, _, dc9, _, _, rfl, hc9, T.k_cCard, T.n_Card_races, cF_races _ _ _, lr, _, rfl, .inl (SqL.of hC9.fr), _, _, rfl, rfl, ?_⟩
    rw [List.length_map, hlen]
    refine ⟨_, rfl, fun hb9 => ?_, fun hb9 => qE (by rw [if_neg (fun z => of_decide_eq_false hb9 z.1)])⟩
    have hb9 := of_decide_eq_true hb9
    -- need(kind == LEGS or ..)
    have t2 : ∀ Q' : VK, (∀ H', Same H9 H' → Q' (.bl (decide (kd.1 = 3 ∨ k.1 ≤ ((MR.raceAt M.races rr.1).interests.length : Int)))) H') →
        tOrV (tOp rEq (tVar 3) (tC (.int 3))) (tOp (rI0 fun i j => .bl (decide (i ≥ j))) (tCB (fun xs H Q => ∃ p ys, xs = [.ref p] ∧ (SqL K H p ys ∨ SqT K H p ys) ∧ Q (.int ys.length) H) (tCons (tMeth T.cRace "all_interests" (spInterests T.cRace) [] E0 (tMeth T.cCard "race_at" (spRaceAt T.cCard T.cRace) [] E0 (tVar 0) (tCons (tFld K (tVar 5) "race") tNil)) tNil) tNil)) (tVar 4))
          [some (V.ref c), some (.ref a), some (.ref t), some (.int (kd.1 : Int)), some (.int k.1), some (.ref p)] H9 Q' := by
      intro Q' q'
      refine ⟨_, rfl, rfl, _, rfl, ?_⟩
      rw [int_eq]
      by_cases h3 : kd.1 = 3
      · rw [decide_eq_true (by omega)]
        rw [decide_eq_true (.inl h3)] at q'
        exact iteT (q' _ (Same.refl _))
      · rw [decide_eq_false (by omega)]
        refine iteF ⟨_, rfl, c, dc9, _, rfl, hc9, cF_ra _ _ _, _, rfl, p, _, dp8, _, _, rfl, hp9, T.k_cPool, T.n_Pool_race, pF_race _ _ _, c, lr, lp, dn, ra, _, rr.1, rfl, hC9, hr7, hr7', fun r d hR hm _ => ?_⟩
        obtain ⟨dr, hr⟩ := hR.ob
        refine ⟨r, dr, _, rfl, hr, rF_ai _ _, r, d, _, rfl, hR, hm.1, hm.2, fun H10 l10 s10 _ hl10 => ?_⟩
        refine ⟨l10, _, rfl, .inl (SqL.of hl10), _, rfl, _, _, rfl, rfl, ?_⟩
        rw [List.length_map]
        have : decide (((MR.raceAt M.races rr.1).interests.length : Int) ≥ k.1) = decide (kd.1 = 3 ∨ k.1 ≤ ((MR.raceAt M.races rr.1).interests.length : Int)) := by
          rw [decide_eq_decide]
          exact ⟨fun z => .inr z, fun z => z.resolve_left h3⟩
        have q' := q' _ s10
        rw [← this] at q'
        exact q'
    refine t2 _ fun H10 s10 => ⟨_, rfl, fun hb10 => ?_, fun hb10 => qE (by rw [if_neg (fun z => of_decide_eq_false hb10 z.2)])⟩
    have hb10 := of_decide_eq_true hb10
    rw [if_pos ⟨hb9, hb10⟩] at qE
    have hC10 := hC9.same s10
    have hL10 := hL9.same s10
    obtain ⟨da10, k10, ha10⟩ := hL10.ins
    -- read_terms(line, kind)
    refine ⟨_, rfl, _, rfl, a, lw, _, kd.1, rfl, hL10, fun e => qE (by rw [e]; rfl), fun e H11 o11 => ?_⟩
    have hC11 := hC10.off o11 ha10 nca nra
    have hp11 := o11 _ _ (s10 _ _ hp9) npa
    obtain ⟨dc11, hc11⟩ := hC11.ob
    obtain ⟨ps11, hlp11, hps11⟩ := hC11.fp
    have hps11 : ps11.length = M.pools := hps11
    -- card.pools.append(pool)
    refine ⟨_, rfl, c, _, dc11, _, _, rfl, hc11, T.k_cCard, T.n_Card_pools, cF_pools _ _ _, .inl ⟨rfl, _, SqL.of hlp11⟩, _, rfl, lp, _, _, rfl, rfl, hlp11, szl (by omega), ?_⟩
    have offp : Off lp H11 (upd H11 lp (.lst (ps11 ++ [V.ref p]))) := Off.upd
    refine qO ⟨M.races, M.pools + 1, M.names ++ [v]⟩ ?_ _ ⟨⟨dc11, offp _ _ hc11 (ne_of hc11 hlp11 (fun z => by cases z))⟩, offp _ _ hC11.fr hC11.nrp, hC11.rs.keep fun b o e ⟨x, hx, q⟩ => ?_, ⟨_, upd_same, by simp [hps11]⟩, offp _ _ hC11.fn (ne_of hC11.fn hlp11 (fun z => by cases z)), hC11.nrp⟩ fun b o e n1 n2 n3 => ?_
    · rw [if_pos ⟨hb9, hb10⟩, e]
      rfl
    · obtain ⟨⟨dxx, fss, k1⟩, kvs, k2⟩ := hC11.rs.kind x hx
      rcases q with rfl | rfl
      · exact offp _ _ e (ne_of k1 hlp11 (fun z => by cases z))
      · exact offp _ _ e (ne_of k2 hlp11 (fun z => by cases z))
    · rw [upd_ne n2]
      exact o11 _ _ (s10 _ _ (s9 _ _ (o38 _ _ (o3 _ _ e n1 n3) n1))) n1
end
end RR
namespace RR
open PySem PySem.Spec PyProof.Rows L2
theorem tYes_ok {σ : L2.St} {H : Hp} {f g : Hp → Prop} (h : f H) : tYes σ H (fun b H3 => if b = true then f H3 else g H3) := by
  show (if true = true then f H else g H)
  rw [if_pos rfl]
  exact h
theorem pgo_ne (b : Int) : ∀ (l cur : W), MR.pgo b cur l ≠ []
  | [], _ => by intro h; cases h
  | c :: r, cur => by
    unfold MR.pgo
    split
    · intro h; cases h
    · exact pgo_ne b r _
theorem pgo_mem (b : Int) : ∀ (l cur : W) (v : W), v ∈ MR.pgo b cur l → v.length ≤ cur.length + l.length
  | [], cur, v, h => by
    have h : v ∈ [cur] := h
    rw [List.mem_singleton] at h
    rw [h]
    exact Nat.le_add_right _ _
  | c :: r, cur, v, h => by
    unfold MR.pgo at h
    split at h
    · rcases List.mem_cons.mp h with rfl | h
      · exact Nat.le_add_right _ _
      · have := pgo_mem b r [] v h
        simp only [List.length_cons, List.length_nil] at this ⊢
        omega
    · have := pgo_mem b r _ v h
      simp only [List.length_cons, List.length_append, List.length_nil] at this ⊢
      omega
theorem parted_ok {row : W} (b : Int) (h : row.length ≤ 66000) : (MR.parted row b).length ≤ 70000 ∧ ∀ v ∈ MR.parted row b, v.length ≤ 66000 := by
  constructor
  · have := pgo_len b row []
    show (MR.pgo b [] row).length ≤ _
    omega
  · intro v hv
    have := pgo_mem b row [] v hv
    simp only [List.length_nil] at this
    omega
abbrev LinesAt (C : Addr) (H : Hp) (la : List (Addr × Addr)) (ls : List (List W)) : Prop := Paired (fun (x : Addr × Addr) l => LineAt C H x.1 x.2 l) la ls
theorem LinesAt.keep {C : Addr} {H H' : Hp} : ∀ {la : List (Addr × Addr)} {ls : List (List W)}, LinesAt C H la ls → (∀ b o, H b = some o → (∃ x ∈ la, b = x.1 ∨ b = x.2) ∨ (∃ xs, o = .tup xs) → H' b = some o) → LinesAt C H' la ls
  | _, _, .nil, _ => .nil
  | _, _, .cons h r, s => .cons (h.keep fun b o e q => s b o e (by
      rcases q with rfl | rfl | q
      · exact .inl ⟨_, List.mem_cons_self, .inl rfl⟩
      · exact .inl ⟨_, List.mem_cons_self, .inr rfl⟩
      · exact .inr q)) (LinesAt.keep r fun b o e q => s b o e (q.imp (fun ⟨x, hx, y⟩ => ⟨x, List.mem_cons_of_mem _ hx, y⟩) id))
theorem LinesAt.kind {C : Addr} {H : Hp} : ∀ {la : List (Addr × Addr)} {ls : List (List W)}, LinesAt C H la ls → ∀ x ∈ la, (∃ dx fs, H x.1 = some (.ins C dx fs)) ∧ ∃ xs, H x.2 = some (.lst xs)
  | _, _, .nil, x, hx => by cases hx
  | _, _, .cons h r, x, hx => by
    rcases List.mem_cons.mp hx with rfl | hx
    · obtain ⟨dx, k, e⟩ := h.ins
      exact ⟨⟨dx, _, e⟩, h.lw⟩
    · exact LinesAt.kind r x hx
theorem race_more {M M' : MR.Card} {l : List W} (h : MR.readRace M l = some M') : M'.races.length ≤ 16 ∧ M'.pools = M.pools ∧ M'.names = M.names := by
  unfold MR.readRace at h
  split at h
  · next c =>
    rw [Option.bind_eq_some_iff] at h
    obtain ⟨x, _, h⟩ := h
    rw [Option.bind_eq_some_iff] at h
    obtain ⟨y, _, h⟩ := h
    split at h
    · rw [← Option.some.inj h]
      refine ⟨?_, rfl, rfl⟩
      show (M.races ++ [_]).length ≤ 16
      rw [List.length_append]
      have := c.1
      show M.races.length + 1 ≤ 16
      omega
    · cases h
  · cases h
theorem pool_more {M M' : MR.Card} {l : List W} (h : MR.readPool M l = some M') : M'.races = M.races ∧ M'.pools = M.pools + 1 ∧ M'.names.length = M.names.length + 1 := by
  cases l with
  | nil => cases h
  | cons v r =>
    rw [MR.readPool] at h
    split at h
    · rw [Option.bind_eq_some_iff] at h
      obtain ⟨x, _, h⟩ := h
      rw [Option.bind_eq_some_iff] at h
      obtain ⟨y, _, h⟩ := h
      rw [Option.bind_eq_some_iff] at h
      obtain ⟨z, _, h⟩ := h
      rw [Option.bind_eq_some_iff] at h
      obtain ⟨u, _, h⟩ := h
      split at h
      · rw [Option.map_eq_some_iff] at h
        obtain ⟨_, _, h⟩ := h
        rw [← h]
        refine ⟨rfl, rfl, ?_⟩
        show (M.names ++ [v]).length = _
        rw [List.length_append]
        rfl
      · cases h
    · cases h
section
variable {P : Program} {w : World} {K : PySem.W.Frag} {mg : Str → Option Value} {base : Heap}
def spReadCard (K : PySem.W.Frag) (CC CRc CR : Addr) : Sp := fun vs H Q E => ∃ (a : Addr) (text : W), vs = [.ref a] ∧ SqL K H a (wv text) ∧ text.length ≤ 66000 ∧
  (MR.readCard text = none → Ref CR E [-8]) ∧
  ∀ rs, MR.readCard text = some rs → ∀ (H' : Hp) (c lr lp dn : Addr) (ra : List (Addr × Addr)) (M : MR.Card), M.races = rs → M.races.length ≤ 16 → CardAt CC CRc H' c lr lp dn ra M → Same H H' → Q (.ref c) H'
theorem ok_read_card (T : Tx K mg) : FnOk P w K mg base (L2.CX P w) 9 T.f_read_card T.d_read_card ["text"] (spReadCard K T.cCard T.cRace T.cRefused) := by
  have G : FnOk P w K mg base (L2.CX P w) 4 T.f_need_cards T.d_need_cards ["is_so"] (spNeedC T.cRefused) := ok_need_cards T
  have GPa : FnOk P w K mg base CX0 1 T.f_parted T.d_parted ["row", "byte"] (spParted K) := ok_parted T
  have GL : FnOk P w K mg base CX0 1 T.f_line_init T.d_line_init ["self", "words"] (spLineInit T.cLine) := ok_line_init T
  have GD : FnOk P w K mg base (L2.CX P w) 7 T.f_read_day T.d_read_day ["line"] (spDay T.cLine T.cRefused) := ok_day T
  have GCI : FnOk P w K mg base CX0 1 T.f_card_init T.d_card_init ["self"] (spCardInit T.cCard T.cRace) := ok_card_init T
  have GC : FnOk P w K mg base (L2.CX P w) 6 T.f_line_choice T.d_line_choice ["self", "texts"] (spChoice K T.cLine T.cRefused) := ok_choice T
  have GRR : FnOk P w K mg base (L2.CX P w) 7 T.f_read_race T.d_read_race ["card", "line"] (spReadRace T.cCard T.cRace T.cLine T.cRefused) := ok_read_race T
  have GRP : FnOk P w K mg base (L2.CX P w) 8 T.f_read_pool T.d_read_pool ["card", "line"] (spReadPool T.cCard T.cRace T.cLine T.cRefused) := ok_read_pool T
  refine T.read_card.me.F.okX sc_read_card (fun vs H Q E h => ?_) (fun cdv A outer s H vs Q E hr h => ⟨_,
    pss_cons (ps_expr (pe_call G (hr.mono (by decide)) rfl T.need_cards.g T.need_cards.me.F.kp T.need_cards.me.b .nil (psx (E := E) (takes_of rfl rfl rfl rfl)) (by exact (pa_cons (pe_and (pe_cmpR op_gt (pe_callB call_len_seq (by rfl) T.z_len PySem.boot_len (pa_cons (pv 0) pa_nil)) pe_int (nomark _))
      (pe_one (pe_cmpR op_eq (pe_ix ix_list (pv 0) (pe_un un_neg pe_int) (fun _ _ => rfl)) (pe_k rfl T.g_NEWLINE) (nomark _)))) pa_nil))))
    (pss_cons (ps_setLc (i := 1) (own := [("row", 4)]) (g := gName 4) (tt := tYes) (te := tMake T.cLine (spLineInit T.cLine) [] E0 (tCons (tCall (spParted K) [] E0 (tCons (tVar 4) (tCons (tC (.int 32)) tNil))) tNil)) rfl sc_read_card.nd rfl rfl (sw_true rfl rfl rfl (by decide +kernel))
        (pi_list (pe_call GPa (hr.mono (by decide)) rfl T.parted.g T.parted.me.F.kp T.parted.me.b .nil pass0 (by exact (pa_cons (pe_slice sl_list (pv 0) po_none (po_some (pe_un un_neg pe_int))) (pa_cons (pe_k rfl T.g_NEWLINE) pa_nil)))))
        (blkOk_by (own := [("row", 4)]) (N := ["text", "lines", "card", "line", "row"]) (sc := defScope s_read_card) (by decide +kernel))
        (fun _ _ _ _ _ => pg_name (i := 4) sc_read_card.nd rfl (Or.inl rfl))
        (fun _ _ _ _ _ => pts_nil)
        (fun _ _ _ _ _ => pe_make T.mk_Line GL (hr.mono (by decide)) rfl T.g_cLine T.line_init.b .nil pass0 (by exact (pa_cons (pe_call GPa (hr.mono (by decide)) rfl T.parted.g T.parted.me.F.kp T.parted.me.b .nil pass0 (by exact (pa_cons (pv 4) (pa_cons (pe_k rfl T.g_BLANK) pa_nil)))) pa_nil))))
    (pss_cons (ps_expr (pe_call GD (hr.mono (by decide)) rfl T.read_day.g T.read_day.me.F.kp T.read_day.me.b .nil (psx (E := E) (takes_of rfl rfl rfl rfl)) (by exact (pa_cons (pe_ix ix_list (pv 1) pe_int (fun _ _ => rfl)) pa_nil))))
    (pss_cons (ps_set (i := 2) sc_read_card.nd rfl (Or.inl rfl) (pe_make0 T.mk_Card GCI (hr.mono (by decide)) rfl T.g_cCard T.card_init.b .nil pass0))
    (pss_cons (ps_for (passes_of rfl) rfl (pi_list (pe_slice sl_list (pv 1) (po_some pe_int) po_none)) (pg_name (i := 3) sc_read_card.nd rfl (Or.inl rfl))
      (pss_one (ps_if (pt_cmpR op_eq (pe_meth (pv 3) T.k_cLine T.m_line_choice GC (hr.mono (by decide)) T.line_choice.b .nil (psx (E := E) (takes_of rfl rfl rfl rfl)) (by exact (pa_cons (pe_tup (pa_cons pe_str (pa_cons pe_str pa_nil))) pa_nil))) pe_int (nomark _))
        (pss_one (ps_expr (pe_call GRR (hr.mono (by decide)) rfl T.read_race.g T.read_race.me.F.kp T.read_race.me.b .nil (psx (E := E) (takes_of rfl rfl rfl rfl)) (by exact (pa_cons (pv 2) (pa_cons (pv 3) pa_nil))))))
        (pss_one (ps_expr (pe_call GRP hr rfl T.read_pool.g T.read_pool.me.F.kp T.read_pool.me.b .nil (psx (E := E) (takes_of rfl rfl rfl rfl)) (by exact (pa_cons (pv 2) (pa_cons (pv 3) pa_nil)))))))))
    (pss_cons (ps_expr (pe_call G (hr.mono (by decide)) rfl T.need_cards.g T.need_cards.me.F.kp T.need_cards.me.b .nil (psx (E := E) (takes_of rfl rfl rfl rfl)) (by exact (pa_cons (pe_cmpR op_gt (pe_callB call_len_seq (by rfl) T.z_len PySem.boot_len (pa_cons (pe_fld (pv 2) rfl) pa_nil)) pe_int (nomark _)) pa_nil))))
    (pss_one (ps_ret (pv 2)))))))), ?_⟩)
  · obtain ⟨a, text, rfl, _⟩ := h; rfl
  · obtain ⟨a, text, rfl, hT, hl, qE, qO⟩ := h
    unfold MR.readCard at qE qO
    -- the first test
    have t1 : ∀ Q' : VK, Q' (.bl (decide (text.getLast? = some 10))) H →
        tAndV (tOp (rI0 fun i j => .bl (decide (i > j))) (tCB (fun xs H Q => ∃ p ys, xs = [.ref p] ∧ (SqL K H p ys ∨ SqT K H p ys) ∧ Q (.int ys.length) H) (tCons (tVar 0) tNil)) (tC (.int 0)))
          (tOp rEq (tOp (rIxL K) (tVar 0) (tUn (rU fun i => .int (-i)) (tC (.int 1)))) (tC (.int 10))) [some (V.ref a), none, none, none, none] H Q' := by
      intro Q' q'
      refine ⟨_, rfl, a, _, rfl, .inl hT, _, _, rfl, rfl, _, rfl, ?_⟩
      rw [wv_len]
      cases hlast : text.getLast? with
      | none =>
        rw [List.getLast?_eq_none_iff] at hlast
        subst hlast
        exact iteF q'
      | some z =>
        rw [hlast] at q'
        have hne : text ≠ [] := fun e => by rw [e] at hlast; cases hlast
        have hpos : 0 < text.length := List.length_pos_iff.mpr hne
        rw [decide_eq_true (by show (0 : Int) < text.length; omega)]
        refine iteT ⟨_, rfl, 1, rfl, a, _, _, .int z, rfl, rfl, hT, ?_, rfl, ?_⟩
        · refine atI_last ?_
          unfold wv
          rw [List.getLast?_map, hlast]
          rfl
        · rw [int_eq]
          have : decide (z = 10) = decide (some z = some (10 : Int)) := by
            rw [decide_eq_decide]
            exact ⟨fun e => by rw [e], fun e => Option.some.inj e⟩
          rw [this]
          exact q'
    refine t1 _ ⟨_, rfl, fun hb => ?_, fun hb => qE (by rw [if_neg (of_decide_eq_false hb)])⟩
    have hb := of_decide_eq_true hb
    rw [if_pos hb] at qE
    have qO := fun rs => by have := qO rs; rw [if_pos hb] at this; exact this
    have hpos : 0 < text.length := by
      cases text with
      | nil => cases hb
      | cons _ _ => exact Nat.succ_pos _
    -- lines
    refine ⟨_, rfl, 1, rfl, -1, rfl, a, wv text, rfl, hT, fun q1 hq1 => ?_⟩
    have ecut : cutV (wv text) none (some (-1)) = wv text.dropLast := by
      have e1 : HT.sIx (wv text).length (wv text).length (some (-1)) = text.length - 1 := by
        show (if (-1 : Int) < 0 then ((-1 : Int) + ((wv text).length : Int)).toNat else min (-1 : Int).toNat (wv text).length) = _
        rw [if_pos (by decide), wv_len]
        omega
      unfold cutV
      rw [HT.sIx_none, e1, List.drop_zero, List.dropLast_eq_take]
      unfold wv
      rw [List.map_take, Nat.sub_zero]
    rw [ecut]
    have hdl : text.dropLast.length ≤ 66000 := by rw [List.length_dropLast]; omega
    have s1 : Same H (upd H q1 (.lst (wv text.dropLast))) := Same.new hq1
    refine ⟨q1, text.dropLast, 10, rfl, .inl (SqL.of upd_same), by omega, fun H2 Lr as s2 _ hLr hws => ?_⟩
    have s2 := Same.trans s1 s2
    have hlen := Paired.len hws
    obtain ⟨hp1, hp2⟩ := parted_ok (row := text.dropLast) 10 hdl
    refine ⟨Lr, rfl, ⟨_, SqL.of hLr⟩, fun D hD => ?_⟩
    refine lc_it (walk_list (xs := as.map V.ref)) (fun i H' => ∃ la : List (Addr × Addr), Same H2 H' ∧ H' D = some (.lst (la.map fun x => V.ref x.1)) ∧ LinesAt T.cLine H' la ((MR.cardLines text).take i) ∧ (la.map Prod.fst).Nodup ∧ la.length ≤ i ∧ (∀ x ∈ la, x.2 ≠ D ∧ H2 x.1 = none))
      ⟨[], Same.new hD, upd_same, .nil, List.nodup_nil, Nat.le_refl _, fun _ h => by cases h⟩ (fun i H' hi p => ?_) (fun i x H3 H4 hi p y => ?_) (fun H3 p => ?_)
    · obtain ⟨la, s3, _⟩ := p
      exact SqL.of (s3 _ _ hLr)
    · -- a line more
      rw [List.length_map] at hi
      obtain ⟨la, s3, hD3, hla, hnd, hll, hld⟩ := p
      obtain ⟨rfl, hx⟩ := y
      rw [List.getElem?_map] at hx
      obtain ⟨t, ht, rfl⟩ : ∃ t, as[i]? = some t ∧ x = .ref t := by
        cases e : as[i]? with
        | none => rw [e] at hx; cases hx
        | some t => rw [e] at hx; exact ⟨t, rfl, (Option.some.inj hx).symm⟩
      obtain ⟨row, hrow, hrt⟩ := Paired.get' hws ht
      have hrl := hp2 _ (List.mem_of_getElem? hrow)
      have hcl : (MR.cardLines text)[i]? = some (MR.parted row 32) := by
        unfold MR.cardLines
        rw [List.getElem?_map, hrow]
        rfl
      obtain ⟨hq1, hq2⟩ := parted_ok (row := row) 32 hrl
      refine ⟨rfl, tYes_ok ?_⟩
      refine ⟨_, rfl, t, row, 32, rfl, .inr (hrt.ts (TS.of s3)), by omega, fun H5 lw ws s5 nlw hlw hwws => ?_⟩
      intro q dx nq ndx neq
      refine ⟨q, dx, lw, ws, _, rfl, upd_same, ?_, ?_, by omega, fun v hv => by have := hq2 v hv; omega, fun H6 hL6 off6 => ⟨rfl, ?_⟩⟩
      · exact (Same.trans (Same.new ndx) (Same.new (by rw [upd_ne (Ne.symm neq)]; exact nq))) _ _ hlw
      · exact hwws.ts (TS.of (Same.trans (Same.new ndx) (Same.new (by rw [upd_ne (Ne.symm neq)]; exact nq))))
      have s56 : Same H5 H6 := Same.made nq ndx off6
      have s36 := Same.trans s5 s56
      refine ⟨_, s36 _ _ hD3, by rw [List.length_map]; exact szl (by omega), la ++ [(q, lw)], Same.mut (Same.trans s3 s36) hD, ?_, ?_, ?_, ?_, ?_⟩
      · rw [upd_same, List.map_append]; rfl
      · rw [take_more hcl]
        have hDq : D ≠ lw := fun e => by rw [← e, hD3] at nlw; cases nlw
        refine Paired.snoc ((hla.keep fun b o e _ => s36 b o e).keep fun b o e z => ?_) (hL6.keep fun b o e z => ?_)
        · rw [upd_ne]; exact e
          rintro rfl
          rcases z with ⟨x, hx, z⟩ | ⟨xs, z⟩
          · obtain ⟨⟨dxx, fss, k1⟩, _⟩ := hla.kind x hx
            rcases z with rfl | z
            · rw [hD3] at k1; cases k1
            · exact (hld x hx).1 z.symm
          · rw [z, s36 _ _ hD3] at e; cases e
        · rw [upd_ne]; exact e
          rintro rfl
          rcases z with rfl | z | ⟨xs, z⟩
          · obtain ⟨dxx, k, k1⟩ := hL6.ins
            rw [s36 _ _ hD3] at k1; cases k1
          · exact hDq z
          · rw [z, s36 _ _ hD3] at e; cases e
      · rw [List.map_append, List.nodup_append]
        refine ⟨hnd, by simp, fun x hx y hy => ?_⟩
        have hy : y = q := by simpa using hy
        subst hy
        rintro rfl
        obtain ⟨z, hz, rfl⟩ := List.mem_map.mp hx
        obtain ⟨⟨dxx, fss, k1⟩, _⟩ := hla.kind z hz
        rw [s5 _ _ k1] at nq; cases nq
      · rw [List.length_append]; show la.length + 1 ≤ i + 1; omega
      · intro x hx
        rcases List.mem_append.mp hx with hx | hx
        · exact hld x hx
        · have hx : x = (q, lw) := by simpa using hx
          rw [hx]
          refine ⟨fun e => ?_, ?_⟩
          · have e : lw = D := e
            rw [e, hD3] at nlw; cases nlw
          · exact Same.free (Same.trans s3 s5) nq
    · -- all lines
      obtain ⟨la, s3, hD3, hla, hnd, _, hld⟩ := p
      rw [List.length_map, hlen] at hla
      rw [show (MR.parted text.dropLast 10).length = (MR.cardLines text).length by unfold MR.cardLines; rw [List.length_map], List.take_length] at hla
      have s03 : Same H H3 := Same.trans s2 s3
      cases hcl : MR.cardLines text with
      | nil =>
        exfalso
        unfold MR.cardLines at hcl
        rw [List.map_eq_nil_iff] at hcl
        exact pgo_ne 10 _ _ hcl
      | cons d ls =>
        rw [hcl] at hla qE
        have qO := fun rs => by have := qO rs; rw [hcl] at this; exact this
        have qE : ((MR.readDay d).bind fun _ => (MR.readLines ⟨[], 0, []⟩ ls).bind fun C => if C.races ≠ [] then some C.races else none) = none → _ := qE
        have qO : ∀ rs, ((MR.readDay d).bind fun _ => (MR.readLines ⟨[], 0, []⟩ ls).bind fun C => if C.races ≠ [] then some C.races else none) = some rs → _ := qO
        obtain ⟨x0, la', rfl, h0, hla'⟩ : ∃ x0 la', la = x0 :: la' ∧ LineAt T.cLine H3 x0.1 x0.2 d ∧ LinesAt T.cLine H3 la' ls := by
          cases hla with
          | cons h r => exact ⟨_, _, rfl, h, r⟩
        have hnd' := List.nodup_cons.mp hnd
        have hnd0 : x0.1 ∉ la'.map Prod.fst := hnd'.1
        obtain ⟨da0, k0, ha0⟩ := h0.ins
        -- read_day(lines[0])
        refine ⟨_, rfl, D, _, 0, V.ref x0.1, rfl, rfl, SqL.of hD3, atI_nat (j := 0) rfl, x0.1, x0.2, d, rfl, h0, fun e => qE (by rw [e]; rfl), fun e H4 o4 => ?_⟩
        rw [e, Option.bind_some] at qE
        simp only [e, Option.bind_some] at qO
        have hla4 : LinesAt T.cLine H4 la' ls := hla'.keep fun b o eb z => o4 b o eb (by
          rcases z with ⟨x, hx, z | z⟩ | ⟨xs, z⟩
          · rw [z]
            intro e
            exact hnd0 (by rw [← e]; exact List.mem_map_of_mem hx)
          · obtain ⟨_, ys, k1⟩ := hla'.kind x hx
            rw [z]
            exact ne_of k1 ha0 (fun z => by cases z)
          · rw [z] at eb
            exact ne_of eb ha0 (fun z => by cases z))
        have hD4 := o4 _ _ hD3 (ne_of hD3 ha0 (fun z => by cases z))
        have s04 : Same H H4 := fun b o eb => o4 b o (s03 _ _ eb) (ne_of_none eb (Same.free s2 (hld x0 List.mem_cons_self).2))
        -- card = Card()
        intro c dx nc ndx ne
        refine ⟨c, dx, rfl, upd_same, fun H5 lr lp dn hC5 offc nlr nlp ndn => ⟨rfl, ?_⟩⟩
        have s45 : Same H4 H5 := Same.made nc ndx offc
        have nlr := NdefX.upd_none (NdefX.upd_none nlr)
        have nlp := NdefX.upd_none (NdefX.upd_none nlp)
        have ndn := NdefX.upd_none (NdefX.upd_none ndn)
        -- for line in lines[1:]
        refine ⟨_, rfl, 1, rfl, D, _, rfl, SqL.of (s45 _ _ hD4), fun Lz hLz => ⟨Lz, rfl, ⟨_, SqL.of upd_same⟩, ?_⟩⟩
        have ecut1 : cutV ((x0 :: la').map fun x => V.ref x.1) (some 1) none = la'.map fun x => V.ref x.1 := by
          unfold cutV
          rw [HT.sIx_none, show ((1 : Int)) = ((1 : Nat) : Int) from rfl, HT.sIx_nat, List.map_cons, List.length_cons, Nat.min_eq_left (by omega), List.drop_succ_cons, List.drop_zero, Nat.add_sub_cancel, List.take_length]
        rw [ecut1]
        have s56 : Same H5 (upd H5 Lz (.lst (la'.map fun x => V.ref x.1))) := Same.new hLz
        have hC6 := hC5.same s56
        have hla6 : LinesAt T.cLine (upd H5 Lz (.lst (la'.map fun x => V.ref x.1))) la' ls := hla4.keep fun b o e _ => s56 _ _ (s45 _ _ e)
        have hz6 : (upd H5 Lz (.lst (la'.map fun x => V.ref x.1))) Lz = some (.lst (la'.map fun x => V.ref x.1)) := upd_same
        have s06 : Same H (upd H5 Lz (.lst (la'.map fun x => V.ref x.1))) := Same.trans s04 (Same.trans s45 s56)
        have nzr : Lz ≠ lr := fun e => by rw [e, hC5.fr] at hLz; cases hLz
        have nzp : Lz ≠ lp := fun e => by obtain ⟨_, z, _⟩ := hC5.fp; rw [e, z] at hLz; cases hLz
        have nzn : Lz ≠ dn := fun e => by rw [e, hC5.fn] at hLz; cases hLz
        generalize upd H5 Lz (.lst (la'.map fun x => V.ref x.1)) = H6 at s56 hC6 hla6 hz6 s06 ⊢
        obtain ⟨dc6, hc6⟩ := hC6.ob
        obtain ⟨ps6, hlp6, _⟩ := hC6.fp
        -- the lines stand apart from the card
        have apart : ∀ x ∈ la', x.1 ≠ c ∧ x.2 ≠ lr ∧ x.2 ≠ lp := fun x hx => by
          obtain ⟨⟨_, _, k1⟩, _, k2⟩ := hla4.kind x hx
          exact ⟨ne_of_none k1 nc, ne_of_none k2 nlr, ne_of_none k2 nlp⟩
        have newto : ∀ x ∈ la', H x.1 = none := fun x hx => Same.free s2 (hld x (List.mem_cons_of_mem _ hx)).2
        have hlen' := Paired.len hla6
        refine for_it (walk_list (xs := la'.map fun x => V.ref x.1)) (fun i σ H' => ∃ (ra : List (Addr × Addr)) (M : MR.Card) (v : Option V), σ = [some (V.ref a), some (V.ref D), some (V.ref c), v, none] ∧ CardAt T.cCard T.cRace H' c lr lp dn ra M ∧
            (∀ x ∈ ra, ∀ (j : Nat) (y : Addr × Addr), i ≤ j → la'[j]? = some y → x.1 ≠ y.1) ∧ M.races.length ≤ 16 ∧ M.names.length = M.pools ∧ MR.readLines ⟨[], 0, []⟩ ls = MR.readLines M (ls.drop i) ∧
            (∀ b o, H6 b = some o → b ≠ lr → b ≠ lp → b ≠ dn → (∀ (j : Nat) (y : Addr × Addr), j < i → la'[j]? = some y → b ≠ y.1) → H' b = some o))
          ⟨[], _, none, rfl, hC6, (fun _ h => by cases h), Nat.zero_le _, rfl, rfl, fun b o e _ _ _ _ => e⟩ (fun i σ H' hi p => ?_) (fun i x σ H0' H7 hi p y => ?_) (fun σ H7 p => ?_)
        · obtain ⟨_, _, _, _, _, _, _, _, _, fr⟩ := p
          refine SqL.of (fr _ _ hz6 nzr nzp nzn fun j y _ hy => ?_)
          obtain ⟨⟨_, _, k1⟩, _⟩ := hla6.kind y (List.mem_of_getElem? hy)
          exact ne_of hz6 k1 (fun z => by cases z)
        · -- a line
          rw [List.length_map] at hi
          obtain ⟨ra, M, v, rfl, hC7, hra, hm16, hnp, heq, fr⟩ := p
          obtain ⟨rfl, hx⟩ := y
          obtain ⟨yl, hyl, rfl⟩ : ∃ yl, la'[i]? = some yl ∧ x = .ref yl.1 := by
            rw [List.getElem?_map] at hx
            cases e : la'[i]? with
            | none => rw [e] at hx; cases hx
            | some t => rw [e] at hx; exact ⟨t, rfl, (Option.some.inj hx).symm⟩
          obtain ⟨l, hl7, hL6⟩ := Paired.get' hla6 hyl
          have hyl' := List.mem_of_getElem? hyl
          obtain ⟨nac, nwr, nwp⟩ := apart yl hyl'
          obtain ⟨da6, k6, ha6⟩ := hL6.ins
          obtain ⟨ws6, hlw6⟩ := hL6.lw
          have hL7 : LineAt T.cLine H7 yl.1 yl.2 l := hL6.keep fun b o e z => by
            rcases z with rfl | rfl | ⟨xs, rfl⟩
            · refine fr _ _ e (ne_of ha6 hC6.fr (fun z => by cases z)) (ne_of ha6 hlp6 (fun z => by cases z)) (ne_of ha6 hC6.fn (fun z => by cases z)) fun j y hj hy => ?_
              intro ee
              have h1 : (la'.map Prod.fst)[i]? = some yl.1 := by rw [List.getElem?_map, hyl]; rfl
              have h2 : (la'.map Prod.fst)[j]? = some yl.1 := by rw [List.getElem?_map, hy, ee]; rfl
              have hij := (List.getElem?_inj (i := i) (j := j) (by rw [List.length_map]; omega) hnd'.2).mp (h1.trans h2.symm)
              omega
            · refine fr _ _ e nwr nwp (ne_of hlw6 hC6.fn (fun z => by cases z)) fun j y hj hy => ?_
              obtain ⟨⟨_, _, k1⟩, _⟩ := hla6.kind y (List.mem_of_getElem? hy)
              exact ne_of hlw6 k1 (fun z => by cases z)
            · refine fr _ _ e (ne_of e hC6.fr (fun z => by cases z)) (ne_of e hlp6 (fun z => by cases z)) (ne_of e hC6.fn (fun z => by cases z)) fun j y hj hy => ?_
              obtain ⟨⟨_, _, k1⟩, _⟩ := hla6.kind y (List.mem_of_getElem? hy)
              exact ne_of e k1 (fun z => by cases z)
          obtain ⟨da7, k7, ha7⟩ := hL7.ins
          have hdrop : ls.drop i = l :: ls.drop (i + 1) := drop_more hl7
          have heq : MR.readLines ⟨[], 0, []⟩ ls = (MR.readLine M l).bind fun C => MR.readLines C (ls.drop (i + 1)) := heq.trans (by rw [hdrop]; rfl)
          rw [heq] at qE
          simp only [heq] at qO
          have hrl : MR.readLine M l = (MR.choice [MR.sp "race", MR.sp "pool"] l).bind fun x => if x.1 = 0 then MR.readRace M x.2 else MR.readPool M x.2 := rfl
          have hra7 : ∀ x ∈ ra, x.1 ≠ yl.1 := fun x hx => hra x hx i yl (Nat.le_refl _) hyl
          have ncy : c ≠ yl.1 := fun e => nac e.symm
          refine rd_choice (zs := ["race", "pool"]) (ts := [MR.sp "race", MR.sp "pool"]) T rfl hL7 (fun Q' q' => ⟨by show 2 ≤ sizeLine; decide, fun p hp => q' p _ (Same.new hp) (SqT.of upd_same)⟩) (by decide) (by decide) (by decide +kernel) (fun e => qE (by rw [hrl, e]; rfl)) fun x8 e8 H8 hL8 o8 => ?_
          rw [e8, Option.bind_some] at hrl
          have hC8 := hC7.off o8 ha7 ncy hra7
          refine ⟨rfl, _, rfl, ?_⟩
          rw [int_eq]
          by_cases h0 : x8.1 = 0
          · -- a race
            rw [if_pos h0] at hrl
            rw [decide_eq_true (show (x8.1 : Int) = 0 by omega)]
            refine iteT ⟨_, rfl, _, rfl, c, lr, lp, dn, yl.1, yl.2, ra, M, x8.2, rfl, hC8, hL8, ncy, hra7, fun e => qE (by rw [hrl, e]; rfl), fun M' e9 H9 ra' hC9 hra9 fr9 => ?_⟩
            obtain ⟨hm9, hp9, hn9⟩ := race_more e9
            refine ⟨ra', M', some (.ref yl.1), rfl, hC9, fun x hx j y hj hy => ?_, hm9, by rw [hn9, hp9]; exact hnp, by rw [heq, hrl, e9]; rfl, fun b o e n1 n2 n3 n4 => ?_⟩
            · rcases hra9 x hx with hx | ⟨hx, _⟩
              · exact hra x hx j y (by omega) hy
              · -- the line's own object stood
                obtain ⟨⟨dy, fy, k1⟩, _⟩ := hla6.kind y (List.mem_of_getElem? hy)
                have hy8 : H7 y.1 = some (.ins T.cLine dy fy) := fr _ _ k1 (ne_of k1 hC6.fr (fun z => by cases z)) (ne_of k1 hlp6 (fun z => by cases z)) (ne_of k1 hC6.fn (fun z => by cases z)) fun j2 y2 hj2 hy2 => by
                  intro ee
                  have h1 : (la'.map Prod.fst)[j]? = some y.1 := by rw [List.getElem?_map, hy]; rfl
                  have h2 : (la'.map Prod.fst)[j2]? = some y.1 := by rw [List.getElem?_map, hy2, ee]; rfl
                  obtain ⟨hjl, _⟩ := List.getElem?_eq_some_iff.mp hy
                  have hij := (List.getElem?_inj (i := j) (j := j2) (by rw [List.length_map]; exact hjl) hnd'.2).mp (h1.trans h2.symm)
                  omega
                have nyy : y.1 ≠ yl.1 := by
                  intro ee
                  have h1 : (la'.map Prod.fst)[j]? = some y.1 := by rw [List.getElem?_map, hy]; rfl
                  have h2 : (la'.map Prod.fst)[i]? = some y.1 := by rw [List.getElem?_map, hyl, ee]; rfl
                  obtain ⟨hjl, _⟩ := List.getElem?_eq_some_iff.mp hy
                  have hij := (List.getElem?_inj (i := j) (j := i) (by rw [List.length_map]; exact hjl) hnd'.2).mp (h1.trans h2.symm)
                  omega
                have := o8 _ _ hy8 nyy
                exact fun e => by rw [e, this] at hx; cases hx
            · have nb : b ≠ yl.1 := n4 i yl (Nat.lt_succ_self _) hyl
              exact fr9 b o (o8 b o (fr b o e n1 n2 n3 fun j y hj hy => n4 j y (Nat.lt_succ_of_lt hj) hy) nb) nb n1
          · -- a pool
            rw [if_neg h0] at hrl
            rw [decide_eq_false (show ¬ (x8.1 : Int) = 0 by omega)]
            refine iteF ⟨_, rfl, _, rfl, c, lr, lp, dn, yl.1, yl.2, ra, M, x8.2, rfl, hC8, hL8, ncy, hra7, hm16, hnp, fun e => qE (by rw [hrl, e]; rfl), fun M' e9 H9 hC9 fr9 => ?_⟩
            obtain ⟨hr9, hp9, hn9⟩ := pool_more e9
            refine ⟨ra, M', some (.ref yl.1), rfl, hC9, fun x hx j y hj hy => hra x hx j y (by omega) hy, by rw [hr9]; exact hm16, by rw [hn9, hp9, hnp], by rw [heq, hrl, e9]; rfl, fun b o e n1 n2 n3 n4 => ?_⟩
            have nb : b ≠ yl.1 := n4 i yl (Nat.lt_succ_self _) hyl
            exact fr9 b o (o8 b o (fr b o e n1 n2 n3 fun j y hj hy => n4 j y (Nat.lt_succ_of_lt hj) hy) nb) nb n2 n3
        · -- behind the loop
          obtain ⟨ra, M, v, rfl, hC7, hra, hm16, hnp, heq, fr⟩ := p
          rw [List.length_map, hlen', List.drop_length] at heq
          have heq : MR.readLines ⟨[], 0, []⟩ ls = some M := heq
          rw [heq, Option.bind_some] at qE
          simp only [heq, Option.bind_some] at qO
          obtain ⟨dc7, hc7⟩ := hC7.ob
          have hrlen := Paired.len hC7.rs
          refine ⟨_, rfl, c, _, dc7, _, _, rfl, hc7, T.k_cCard, T.n_Card_races, cF_races _ _ _, lr, _, rfl, .inl (SqL.of hC7.fr), _, _, rfl, rfl, ?_⟩
          rw [List.length_map, hrlen]
          refine ⟨_, rfl, fun hb => ?_, fun hb => qE ?_⟩
          · have hb : (0 : Int) < (M.races.length : Int) := of_decide_eq_true hb
            have hne : M.races ≠ [] := fun e => by rw [e] at hb; exact absurd hb (by decide)
            refine ⟨_, rfl, qO M.races (by rw [if_pos hne]) H7 c lr lp dn ra M rfl hm16 hC7 fun b o e => ?_⟩
            have e4 := s04 _ _ e
            exact fr b o (s06 _ _ e) (ne_of_none e4 nlr) (ne_of_none e4 nlp) (ne_of_none e4 ndn) fun j y _ hy => ne_of_none e (newto y (List.mem_of_getElem? hy))
          · have hb : ¬ (0 : Int) < (M.races.length : Int) := of_decide_eq_false hb
            have hne : M.races = [] := List.eq_nil_of_length_eq_zero (by omega)
            rw [if_neg (fun z => z hne)]
end
end RR
namespace RR
open PySem PySem.Spec PyProof.Rows L2
/-! ### Outcome -/
def oF (s : Int) (g o : Addr) : List (Str × V) := [("state", .int s), ("groups", .ref g), ("out", .ref o)]
theorem oF_groups (s : Int) (g o : Addr) : (oF s g o).lookup ("groups" : Str) = some (.ref g) := (lk_past (by decide +kernel)).trans lk_here
theorem oF_put (s : Int) (g o z : Addr) : putF "out" (.ref z) (oF s g o) = oF s g z := (put_past (by decide +kernel)).trans (congrArg _ ((put_past (by decide +kernel)).trans (congrArg _ put_here)))
theorem oF_new (s : Int) (g o : Addr) : putF "out" (.ref o) (putF "groups" (.ref g) (putF "state" (.int s) [])) = oF s g o := by
  rw [show putF "state" (.int s) [] = [(("state" : Str), V.int s)] from rfl, put_past (by decide +kernel), show putF "groups" (.ref g) [] = [(("groups" : Str), V.ref g)] from rfl, put_past (by decide +kernel), put_past (by decide +kernel)]
  rfl
/-! ### Words -/
def wF (lw lp lt : Addr) (e k : Int) : List (Str × V) := [("words", .ref lw), ("places", .ref lp), ("ending", .int e), ("at", .int k), ("told", .ref lt)]
section
variable (lw lp lt z : Addr) (e k i : Int)
theorem wF_words : (wF lw lp lt e k).lookup ("words" : Str) = some (.ref lw) := lk_here
theorem wF_places : (wF lw lp lt e k).lookup ("places" : Str) = some (.ref lp) := (lk_past (by decide +kernel)).trans lk_here
theorem wF_ending : (wF lw lp lt e k).lookup ("ending" : Str) = some (.int e) := (lk_past (by decide +kernel)).trans ((lk_past (by decide +kernel)).trans lk_here)
theorem wF_at : (wF lw lp lt e k).lookup ("at" : Str) = some (.int k) := (lk_past (by decide +kernel)).trans ((lk_past (by decide +kernel)).trans ((lk_past (by decide +kernel)).trans lk_here))
theorem wF_told : (wF lw lp lt e k).lookup ("told" : Str) = some (.ref lt) := (lk_past (by decide +kernel)).trans ((lk_past (by decide +kernel)).trans ((lk_past (by decide +kernel)).trans ((lk_past (by decide +kernel)).trans lk_here)))
theorem wF_no {f : Str} (h : (f == ("words" : Str)) = false ∧ (f == ("places" : Str)) = false ∧ (f == ("ending" : Str)) = false ∧ (f == ("at" : Str)) = false ∧ (f == ("told" : Str)) = false) : (wF lw lp lt e k).lookup f = none :=
  (lk_past h.1).trans ((lk_past h.2.1).trans ((lk_past h.2.2.1).trans ((lk_past h.2.2.2.1).trans ((lk_past h.2.2.2.2).trans rfl))))
theorem wF_hm : (wF lw lp lt e k).lookup ("has_more" : Str) = none := wF_no _ _ _ _ _ (by decide +kernel)
theorem wF_place : (wF lw lp lt e k).lookup ("place" : Str) = none := wF_no _ _ _ _ _ (by decide +kernel)
theorem wF_word : (wF lw lp lt e k).lookup ("word" : Str) = none := wF_no _ _ _ _ _ (by decide +kernel)
theorem wF_sees : (wF lw lp lt e k).lookup ("sees" : Str) = none := wF_no _ _ _ _ _ (by decide +kernel)
theorem wF_choice : (wF lw lp lt e k).lookup ("choice" : Str) = none := wF_no _ _ _ _ _ (by decide +kernel)
theorem wF_runners : (wF lw lp lt e k).lookup ("runners" : Str) = none := wF_no _ _ _ _ _ (by decide +kernel)
theorem wF_end : (wF lw lp lt e k).lookup ("end" : Str) = none := wF_no _ _ _ _ _ (by decide +kernel)
theorem wF_putat : putF "at" (.int i) (wF lw lp lt e k) = wF lw lp lt e i :=
  (put_past (by decide +kernel)).trans (congrArg _ ((put_past (by decide +kernel)).trans (congrArg _ ((put_past (by decide +kernel)).trans (congrArg _ put_here)))))
theorem wF_puttold : putF "told" (.ref z) (wF lw lp lt e k) = wF lw lp z e k :=
  (put_past (by decide +kernel)).trans (congrArg _ ((put_past (by decide +kernel)).trans (congrArg _ ((put_past (by decide +kernel)).trans (congrArg _ ((put_past (by decide +kernel)).trans (congrArg _ put_here)))))))
def wF0 : List (Str × V) := [("words", .ref lw), ("places", .ref lp)]
theorem wF0_new : putF "places" (.ref lp) (putF "words" (.ref lw) []) = wF0 lw lp := (put_past (by decide +kernel)).trans rfl
theorem wF0_words : (wF0 lw lp).lookup ("words" : Str) = some (.ref lw) := lk_here
theorem wF0_places : (wF0 lw lp).lookup ("places" : Str) = some (.ref lp) := (lk_past (by decide +kernel)).trans lk_here
theorem wF_new : putF "told" (.ref lt) (putF "at" (.int k) (putF "ending" (.int e) (wF0 lw lp))) = wF lw lp lt e k := by
  unfold wF0
  rw [put_past (f := "ending") (by decide +kernel), put_past (f := "ending") (by decide +kernel), show putF "ending" (.int e) [] = [(("ending" : Str), V.int e)] from rfl]
  rw [put_past (f := "at") (by decide +kernel), put_past (f := "at") (by decide +kernel), put_past (f := "at") (by decide +kernel), show putF "at" (.int k) [] = [(("at" : Str), V.int k)] from rfl]
  rw [put_past (f := "told") (by decide +kernel), put_past (f := "told") (by decide +kernel), put_past (f := "told") (by decide +kernel), put_past (f := "told") (by decide +kernel)]
  rfl
end
/-- at a: the words of a line with their places; k: how many were taken -/
structure WordsAt (C : Addr) (H : Hp) (a lw lp lt : Addr) (e : Nat) (told : List Int) (pws : List MR.PW) (k : Nat) : Prop where
  ob : ∃ dx, H a = some (.ins C dx (wF lw lp lt (e : Int) (k : Int)))
  fw : ∃ as : List Addr, H lw = some (.lst (as.map V.ref)) ∧ WsAt H as (pws.map Prod.fst)
  fp : H lp = some (.lst (pws.map fun x => V.int (x.2 : Int)))
  ft : H lt = some (.lst (told.map V.int))
  sz : k ≤ pws.length ∧ pws.length ≤ 70000 ∧ ∀ x ∈ pws, x.1.length ≤ 70000
section
variable {C : Addr} {H H' : Hp} {a lw lp lt : Addr} {e : Nat} {told : List Int} {pws : List MR.PW} {k : Nat}
theorem WordsAt.keep (h : WordsAt C H a lw lp lt e told pws k) (s : ∀ b o, H b = some o → (b = a ∨ b = lw ∨ b = lp ∨ b = lt ∨ ∃ xs, o = .tup xs) → H' b = some o) : WordsAt C H' a lw lp lt e told pws k := by
  obtain ⟨dx, h1⟩ := h.ob
  obtain ⟨as, h2, h3⟩ := h.fw
  exact ⟨⟨dx, s _ _ h1 (.inl rfl)⟩, ⟨as, s _ _ h2 (.inr (.inl rfl)), h3.ts fun x xs e => s _ _ e (.inr (.inr (.inr (.inr ⟨xs, rfl⟩))))⟩, s _ _ h.fp (.inr (.inr (.inl rfl))), s _ _ h.ft (.inr (.inr (.inr (.inl rfl)))), h.sz⟩
theorem WordsAt.same (h : WordsAt C H a lw lp lt e told pws k) (s : Same H H') : WordsAt C H' a lw lp lt e told pws k := h.keep fun b o e _ => s b o e
/-- one word more was taken -/
theorem WordsAt.next {dx : Addr} (h : WordsAt C H a lw lp lt e told pws k) (o : Off a H H') (h1 : H' a = some (.ins C dx (wF lw lp lt (e : Int) ((k : Int) + 1)))) (hk : k < pws.length) : WordsAt C H' a lw lp lt e told pws (k + 1) := by
  obtain ⟨dx0, h0⟩ := h.ob
  obtain ⟨as, h2, h3⟩ := h.fw
  exact ⟨⟨dx, by rw [h1]; rfl⟩, ⟨as, o _ _ h2 (ne_of h2 h0 (fun z => by cases z)), h3.ts (o.ts h0 (fun _ z => by cases z))⟩, o _ _ h.fp (ne_of h.fp h0 (fun z => by cases z)), o _ _ h.ft (ne_of h.ft h0 (fun z => by cases z)), hk, h.sz.2⟩
end
/-! ### places -/
def adv (p : Nat) (ws : List W) : Nat := ws.foldl (fun p w => p + w.length + 1) p
theorem placed_fst : ∀ (ws : List W) (p : Nat), (MR.placed p ws).map Prod.fst = ws
  | [], _ => rfl
  | w :: r, p => by
    show w :: (MR.placed (p + w.length + 1) r).map Prod.fst = w :: r
    rw [placed_fst r]
theorem placed_len (ws : List W) (p : Nat) : (MR.placed p ws).length = ws.length := by
  have := congrArg List.length (placed_fst ws p)
  rwa [List.length_map] at this
theorem placed_snoc : ∀ (ws : List W) (p : Nat) (v : W), MR.placed p (ws ++ [v]) = MR.placed p ws ++ [(v, adv p ws)]
  | [], _, _ => rfl
  | w :: r, p, v => by
    show (w, p) :: MR.placed (p + w.length + 1) (r ++ [v]) = (w, p) :: (MR.placed (p + w.length + 1) r ++ [(v, adv p (w :: r))])
    rw [placed_snoc r]
    rfl
theorem adv_snoc (ws : List W) (p : Nat) (v : W) : adv p (ws ++ [v]) = adv p ws + v.length + 1 := by
  unfold adv
  rw [List.foldl_append]
  rfl
theorem adv_pgo (b : Int) : ∀ (l cur : W) (p : Nat), adv p (MR.pgo b cur l) = p + cur.length + l.length + 1
  | [], cur, p => rfl
  | c :: r, cur, p => by
    unfold MR.pgo
    split
    · show adv (p + cur.length + 1) (MR.pgo b [] r) = _
      rw [adv_pgo b r]
      simp only [List.length_cons, List.length_nil]
      omega
    · rw [adv_pgo b r]
      simp only [List.length_cons, List.length_append, List.length_nil]
      omega
section
variable {P : Program} {w : World} {K : PySem.W.Frag} {mg : Str → Option Value} {base : Heap}
def spOutcomeInit (C : Addr) : Sp := fun vs H Q _ => ∃ (p dx : Addr) (s : Int), vs = [.ref p, .int s] ∧ H p = some (.ins C dx []) ∧
  ∀ (H' : Hp) (g o : Addr), (∃ dx, H' p = some (.ins C dx (oF s g o))) → H' g = some (.lst []) → Off p H H' → H g = none → Q .non H'
theorem ok_outcome_init (T : Tx K mg) : FnOk P w K mg base CX0 1 T.f_outcome_init T.d_outcome_init ["self", "state"] (spOutcomeInit T.cOutcome) := by
  refine T.outcome_init.F.ok sc_outcome_init (fun vs H Q E h => ?_) (fun cdv A outer s H vs Q E hr h => ⟨_, pss_cons (ps_fld (pv 0) (pv 1) rfl) (pss_cons (ps_fld (pv 0) (pe_lst pa_nil) rfl) (pss_one (ps_fld (pv 0) (pe_lst pa_nil) rfl))), ?_⟩)
  · obtain ⟨p, dx, s, rfl, _⟩ := h; rfl
  · obtain ⟨p, dx, s, rfl, hp, q⟩ := h
    refine ⟨_, rfl, _, rfl, p, T.cOutcome, dx, [], rfl, hp, T.k_cOutcome, T.n_Outcome_state, (by show 0 < 1000; decide), ?_⟩
    refine ⟨by show 0 ≤ sizeLine; decide, fun g hg => ?_⟩
    have n1 : g ≠ p := fun z => by rw [z, upd_same] at hg; cases hg
    rw [upd_ne n1] at hg
    refine ⟨_, rfl, p, T.cOutcome, dx, _, rfl, by rw [upd_ne (Ne.symm n1)]; exact upd_same, T.k_cOutcome, T.n_Outcome_groups, (by show 1 < 1000; decide), ?_⟩
    refine ⟨by show 0 ≤ sizeLine; decide, fun o ho => ?_⟩
    have n2 : o ≠ p := fun z => by rw [z, upd_same] at ho; cases ho
    rw [upd_ne n2] at ho
    have n3 : o ≠ g := fun z => by rw [z, upd_same] at ho; cases ho
    rw [upd_ne n3, upd_ne n2] at ho
    refine ⟨_, rfl, p, T.cOutcome, dx, _, rfl, by rw [upd_ne (Ne.symm n2)]; exact upd_same, T.k_cOutcome, T.n_Outcome_out, Nat.lt_of_le_of_lt (Nat.le_trans (putF_len _ _ _) (Nat.succ_le_succ (putF_len _ _ _))) (by decide), ?_⟩
    refine q _ g o ⟨dx, upd_same.trans (congrArg (fun q => some (HO.ins T.cOutcome dx q)) (oF_new s g o))⟩ ?_ (fun b u e hb => ?_) hg
    · rw [upd_ne n1, upd_ne (Ne.symm n3), upd_ne n1]; exact upd_same
    · rw [upd_ne hb, upd_ne (ne_of_none e ho), upd_ne hb, upd_ne (ne_of_none e hg), upd_ne hb]
      exact e
def spWHasMore (C : Addr) : Sp := fun vs H Q _ => ∃ (a lw lp lt : Addr) (e : Nat) (told : List Int) (pws : List MR.PW) (k : Nat), vs = [.ref a] ∧ WordsAt C H a lw lp lt e told pws k ∧ Q (.bl (decide (k < pws.length))) H
theorem ok_whas_more (T : Tx K mg) : FnOk P w K mg base CX0 1 T.f_words_has_more T.d_words_has_more ["self"] (spWHasMore T.cWords) := by
  refine T.words_has_more.F.ok sc_words_has_more (fun vs H Q E h => ?_) (fun cdv A outer s H vs Q E hr h => ⟨_, pss_one (ps_ret (pe_cmpR op_lt (pe_fld (pv 0) rfl) (pe_callB call_len_seq (by rfl) T.z_len PySem.boot_len (pa_cons (pe_fld (pv 0) rfl) pa_nil)) (nomark _))), ?_⟩)
  · obtain ⟨a, lw, lp, lt, e, told, pws, k, rfl, _⟩ := h; rfl
  · obtain ⟨a, lw, lp, lt, e, told, pws, k, rfl, hW, q⟩ := h
    obtain ⟨dx, h1⟩ := hW.ob
    obtain ⟨as, h2, h3⟩ := hW.fw
    refine ⟨_, rfl, a, _, dx, _, _, rfl, h1, T.k_cWords, T.n_Words_at, wF_at _ _ _ _ _, _, rfl, a, _, dx, _, _, rfl, h1, T.k_cWords, T.n_Words_words, wF_words _ _ _ _ _, lw, _, rfl, .inl (SqL.of h2), _, _, rfl, rfl, ?_⟩
    have e1 : decide ((k : Int) < ((as.map V.ref).length : Int)) = decide (k < pws.length) := by
      rw [List.length_map, Paired.len h3, List.length_map, decide_eq_decide]
      omega
    show Q (.bl (decide ((k : Int) < ((as.map V.ref).length : Int)))) H
    rw [e1]
    exact q
def spWPlace (C : Addr) : Sp := fun vs H Q _ => ∃ (a lw lp lt : Addr) (e : Nat) (told : List Int) (pws : List MR.PW) (k : Nat) (x : MR.PW), vs = [.ref a] ∧ WordsAt C H a lw lp lt e told pws (k + 1) ∧ pws[k]? = some x ∧ Q (.int (x.2 : Int)) H
theorem ok_wplace (T : Tx K mg) : FnOk P w K mg base CX0 1 T.f_words_place T.d_words_place ["self"] (spWPlace T.cWords) := by
  refine T.words_place.F.ok sc_words_place (fun vs H Q E h => ?_) (fun cdv A outer s H vs Q E hr h => ⟨_, pss_one (ps_ret (pe_ix ix_list (pe_fld (pv 0) rfl) (pe_op op_sub (pe_fld (pv 0) rfl) pe_int) (fun _ _ => rfl))), ?_⟩)
  · obtain ⟨a, lw, lp, lt, e, told, pws, k, x, rfl, _⟩ := h; rfl
  · obtain ⟨a, lw, lp, lt, e, told, pws, k, x, rfl, hW, hx, q⟩ := h
    obtain ⟨dx, h1⟩ := hW.ob
    refine ⟨_, rfl, a, _, dx, _, _, rfl, h1, T.k_cWords, T.n_Words_places, wF_places _ _ _ _ _, _, rfl, a, _, dx, _, _, rfl, h1, T.k_cWords, T.n_Words_at, wF_at _ _ _ _ _, _, _, rfl, rfl, lp, _, _, V.int (x.2 : Int), rfl, rfl, SqL.of hW.fp, ?_, q⟩
    have : ((k + 1 : Nat) : Int) - 1 = (k : Int) := by omega
    rw [this]
    exact atI_nat (by rw [List.getElem?_map, hx]; rfl)
def spWWord (C CR : Addr) : Sp := fun vs H Q E => ∃ (a lw lp lt : Addr) (e : Nat) (told : List Int) (pws : List MR.PW) (k : Nat), vs = [.ref a] ∧ WordsAt C H a lw lp lt e told pws k ∧ (pws[k]? = none → Ref CR E [-6, 3, (e : Int)]) ∧
  ∀ x, pws[k]? = some x → ∀ (H' : Hp) (t : Addr), WordsAt C H' a lw lp lt e told pws (k + 1) → Off a H H' → WAt H' t x.1 → x.1.length ≤ 70000 → Q (.ref t) H'
theorem ok_wword (T : Tx K mg) : FnOk P w K mg base (L2.CX P w) 5 T.f_words_word T.d_words_word ["self"] (spWWord T.cWords T.cRefused) := by
  have G : FnOk P w K mg base (L2.CX P w) 4 T.f_need_outcomes T.d_need_outcomes ["is_so", "kind", "place"] (spNeedO T.cRefused) := ok_need_outcomes T
  have GH : FnOk P w K mg base CX0 1 T.f_words_has_more T.d_words_has_more ["self"] (spWHasMore T.cWords) := ok_whas_more T
  refine T.words_word.F.okX sc_words_word (fun vs H Q E h => ?_) (fun cdv A outer s H vs Q E hr h => ⟨_,
    pss_cons (ps_expr (pe_call G hr rfl T.need_outcomes.g T.need_outcomes.me.F.kp T.need_outcomes.me.b .nil (psx (E := E) (takes_of rfl rfl rfl rfl)) (by exact (pa_cons (pe_meth0 (pv 0) T.k_cWords T.m_words_has_more GH (hr.mono (by decide)) T.words_has_more.b .nil pass0) (pa_cons (pe_k rfl T.g_BAD_WORD) (pa_cons (pe_fld (pv 0) rfl) pa_nil))))))
    (pss_cons (ps_fldaug (pv 0) pe_int in_add)
    (pss_one (ps_ret (pe_ix ix_list (pe_fld (pv 0) rfl) (pe_op op_sub (pe_fld (pv 0) rfl) pe_int) (fun _ _ => rfl))))), ?_⟩)
  · obtain ⟨a, lw, lp, lt, e, told, pws, k, rfl, _⟩ := h; rfl
  · obtain ⟨a, lw, lp, lt, e, told, pws, k, rfl, hW, qE, qO⟩ := h
    obtain ⟨dx, h1⟩ := hW.ob
    obtain ⟨as, h2, h3⟩ := hW.fw
    refine ⟨_, rfl, a, dx, _, rfl, h1, wF_hm _ _ _ _ _, a, lw, lp, lt, e, told, pws, k, rfl, hW, ?_⟩
    refine ⟨_, rfl, a, _, dx, _, _, rfl, h1, T.k_cWords, T.n_Words_ending, wF_ending _ _ _ _ _, ?_⟩
    refine ⟨_, 3, (e : Int), rfl, fun hb => ?_, fun hb => qE (List.getElem?_eq_none_iff.mpr (Nat.le_of_not_lt (of_decide_eq_false hb)))⟩
    have hk : k < pws.length := of_decide_eq_true hb
    have hx : pws[k]? = some pws[k] := List.getElem?_eq_getElem hk
    obtain ⟨t, ht, hw⟩ := Paired.get h3 (i := k) (y := pws[k].1) (by rw [List.getElem?_map, hx]; rfl)
    refine ⟨_, rfl, a, _, dx, _, _, rfl, h1, T.k_cWords, T.n_Words_at, wF_at _ _ _ _ _, _, _, rfl, rfl, dx, _, h1, (by show 5 < 1000; decide), ?_⟩
    have off : Off a H (upd H a (.ins T.cWords dx (putF "at" (.int ((k : Int) + 1)) (wF lw lp lt (e : Int) (k : Int))))) := Off.upd
    have h1' : (upd H a (.ins T.cWords dx (putF "at" (.int ((k : Int) + 1)) (wF lw lp lt (e : Int) (k : Int))))) a = some (.ins T.cWords dx (wF lw lp lt (e : Int) ((k : Int) + 1))) := upd_same.trans (congrArg (fun q => some (HO.ins T.cWords dx q)) (wF_putat lw lp lt (e : Int) (k : Int) _))
    have hW' := hW.next off h1' hk
    generalize (upd H a (.ins T.cWords dx (putF "at" (.int ((k : Int) + 1)) (wF lw lp lt (e : Int) (k : Int))))) = H1 at off h1' hW' ⊢
    have ts := off.ts h1 (fun xs z => by cases z)
    refine ⟨_, rfl, a, _, dx, _, _, rfl, h1', T.k_cWords, T.n_Words_words, wF_words _ _ _ _ _, _, rfl, a, _, dx, _, _, rfl, h1', T.k_cWords, T.n_Words_at, wF_at _ _ _ _ _, _, _, rfl, rfl, lw, _, _, V.ref t, rfl, rfl, SqL.of (off _ _ h2 (ne_of h2 h1 (fun z => by cases z))), ?_, ?_⟩
    · have : (k : Int) + 1 - 1 = (k : Int) := by omega
      rw [this]
      exact atI_nat (by rw [List.getElem?_map, ht]; rfl)
    · exact qO _ hx _ t hW' off (hw.ts ts) (hW.sz.2.2 _ (List.getElem_mem _))
def spSees (C : Addr) : Sp := fun vs H Q _ => ∃ (a lw lp lt : Addr) (e : Nat) (told : List Int) (pws : List MR.PW) (k : Nat) (z : Str), vs = [.ref a, .str z] ∧ z.length ≤ 1000 ∧ WordsAt C H a lw lp lt e told pws k ∧
  ∀ H', Same H H' → Q (.bl (match pws[k]? with | some x => x.1 == spz z | none => false)) H'
theorem ok_sees (T : Tx K mg) : FnOk P w K mg base CX0 2 T.f_words_sees T.d_words_sees ["self", "text"] (spSees T.cWords) := by
  have GH : FnOk P w K mg base CX0 1 T.f_words_has_more T.d_words_has_more ["self"] (spWHasMore T.cWords) := ok_whas_more T
  have GS : FnOk P w K mg base CX0 1 T.f_spelled T.d_spelled ["text"] spSpelled := ok_spelled T
  refine T.words_sees.F.ok sc_words_sees (fun vs H Q E h => ?_) (fun cdv A outer s H vs Q E hr h => ⟨_, pss_one (ps_ret (pe_and (pe_meth0 (pv 0) T.k_cWords T.m_words_has_more GH hr T.words_has_more.b .nil pass0)
    (pe_one (pe_cmpR (op_eqD hr.units) (pe_ix ix_list (pe_fld (pv 0) rfl) (pe_fld (pv 0) rfl) (fun _ _ => rfl)) (pe_call GS hr rfl T.spelled.g T.spelled.me.F.kp T.spelled.me.b .nil pass0 (by exact (pa_cons (pv 1) pa_nil))) (nomark _))))), ?_⟩)
  · obtain ⟨a, lw, lp, lt, e, told, pws, k, z, rfl, _⟩ := h; rfl
  · obtain ⟨a, lw, lp, lt, e, told, pws, k, z, rfl, hz, hW, q⟩ := h
    obtain ⟨dx, h1⟩ := hW.ob
    obtain ⟨as, h2, h3⟩ := hW.fw
    refine ⟨_, rfl, a, dx, _, rfl, h1, wF_hm _ _ _ _ _, a, lw, lp, lt, e, told, pws, k, rfl, hW, _, rfl, ?_⟩
    cases hx : pws[k]? with
    | none =>
      rw [hx] at q
      rw [decide_eq_false (Nat.not_lt.mpr (List.getElem?_eq_none_iff.mp hx))]
      exact iteF (q H (Same.refl _))
    | some x =>
      rw [hx] at q
      obtain ⟨hk, _⟩ := List.getElem?_eq_some_iff.mp hx
      obtain ⟨t, ht, hw⟩ := Paired.get h3 (i := k) (y := x.1) (by rw [List.getElem?_map, hx]; rfl)
      rw [decide_eq_true hk]
      refine iteT ⟨_, rfl, a, _, dx, _, _, rfl, h1, T.k_cWords, T.n_Words_words, wF_words _ _ _ _ _, _, rfl, a, _, dx, _, _, rfl, h1, T.k_cWords, T.n_Words_at, wF_at _ _ _ _ _, lw, _, _, V.ref t, rfl, rfl, SqL.of h2, atI_nat (by rw [List.getElem?_map, ht]; rfl), ?_⟩
      refine ⟨_, rfl, z, rfl, hz, fun H2 p s2 hp hw2 => rd_weq (hw.ts (TS.of s2)) hw2 ?_⟩
      exact q H2 s2
def spWEnd (C CR : Addr) : Sp := fun vs H Q E => ∃ (a lw lp lt : Addr) (e : Nat) (told : List Int) (pws : List MR.PW) (k : Nat), vs = [.ref a] ∧ WordsAt C H a lw lp lt e told pws k ∧
  (∀ f, MR.closed (pws.drop k) = .error f → Ref CR E [-6, (f.1 : Int), (f.2 : Int)]) ∧ (MR.closed (pws.drop k) = .ok () → Q .non H)
theorem ok_wend (T : Tx K mg) : FnOk P w K mg base (L2.CX P w) 5 T.f_words_end T.d_words_end ["self"] (spWEnd T.cWords T.cRefused) := by
  have G : FnOk P w K mg base (L2.CX P w) 4 T.f_need_outcomes T.d_need_outcomes ["is_so", "kind", "place"] (spNeedO T.cRefused) := ok_need_outcomes T
  have GH : FnOk P w K mg base CX0 1 T.f_words_has_more T.d_words_has_more ["self"] (spWHasMore T.cWords) := ok_whas_more T
  refine T.words_end.F.okX sc_words_end (fun vs H Q E h => ?_) (fun cdv A outer s H vs Q E hr h => ⟨_,
    pss_one (ps_if (pt_val (pe_meth0 (pv 0) T.k_cWords T.m_words_has_more GH (hr.mono (by decide)) T.words_has_more.b .nil pass0))
      (pss_one (ps_expr (pe_call G hr rfl T.need_outcomes.g T.need_outcomes.me.F.kp T.need_outcomes.me.b .nil (psx (E := E) (takes_of rfl rfl rfl rfl)) (by exact (pa_cons pe_bl (pa_cons (pe_k rfl T.g_BAD_WORD) (pa_cons (pe_ix ix_list (pe_fld (pv 0) rfl) (pe_fld (pv 0) rfl) (fun _ _ => rfl)) pa_nil))))))) pss_nil), ?_⟩)
  · obtain ⟨a, lw, lp, lt, e, told, pws, k, rfl, _⟩ := h; rfl
  · obtain ⟨a, lw, lp, lt, e, told, pws, k, rfl, hW, qE, qO⟩ := h
    obtain ⟨dx, h1⟩ := hW.ob
    refine ⟨_, rfl, a, dx, _, rfl, h1, wF_hm _ _ _ _ _, a, lw, lp, lt, e, told, pws, k, rfl, hW, _, rfl, ?_⟩
    cases hx : pws[k]? with
    | none =>
      have hk := List.getElem?_eq_none_iff.mp hx
      rw [decide_eq_false (Nat.not_lt.mpr hk)]
      rw [List.drop_eq_nil_of_le hk] at qO
      exact iteF (qO rfl)
    | some x =>
      obtain ⟨hk, _⟩ := List.getElem?_eq_some_iff.mp hx
      rw [decide_eq_true hk]
      rw [drop_more hx] at qE
      refine iteT ⟨_, rfl, a, _, dx, _, _, rfl, h1, T.k_cWords, T.n_Words_places, wF_places _ _ _ _ _, _, rfl, a, _, dx, _, _, rfl, h1, T.k_cWords, T.n_Words_at, wF_at _ _ _ _ _, lp, _, _, V.int (x.2 : Int), rfl, rfl, SqL.of hW.fp, atI_nat (by rw [List.getElem?_map, hx]; rfl), ?_⟩
      exact ⟨false, 3, (x.2 : Int), rfl, (fun z => Bool.noConfusion z), fun _ => qE (3, x.2) rfl⟩
end
end RR
namespace RR
open PySem PySem.Spec PyProof.Rows L2
section
variable {P : Program} {w : World} {K : PySem.W.Frag} {mg : Str → Option Value} {base : Heap}
def spWordsInit (C : Addr) : Sp := fun vs H Q _ => ∃ (a dx row : Addr) (r : W) (p : Nat), vs = [.ref a, .ref row, .int (p : Int)] ∧ H a = some (.ins C dx []) ∧ WAt H row r ∧ r.length ≤ 66000 ∧
  ∀ (H' : Hp) (lw lp lt : Addr), WordsAt C H' a lw lp lt (p + r.length) [] (MR.placed p (MR.parted r 32)) 0 → Off a H H' → Q .non H'
theorem ok_words_init (T : Tx K mg) : FnOk P w K mg base CX0 2 T.f_words_init T.d_words_init ["self", "row", "begin"] (spWordsInit T.cWords) := by
  have GPa : FnOk P w K mg base CX0 1 T.f_parted T.d_parted ["row", "byte"] (spParted K) := ok_parted T
  refine T.words_init.F.ok sc_words_init (fun vs H Q E h => ?_) (fun cdv A outer s H vs Q E hr h => ⟨_,
    pss_cons (ps_fld (pv 0) (pe_call GPa hr rfl T.parted.g T.parted.me.F.kp T.parted.me.b .nil pass0 (by exact (pa_cons (pv 1) (pa_cons (pe_k rfl T.g_BLANK) pa_nil)))) rfl)
    (pss_cons (ps_fld (pv 0) (pe_lst pa_nil) rfl)
    (pss_cons (ps_for PassesOwn.never rfl (pi_list (pe_fld (pv 0) rfl)) (pg_name (i := 3) sc_words_init.nd rfl (Or.inl rfl))
      (pss_cons (ps_expr (pe_bm PySem.F.plainAttrs_list PySem.F.slot_list_append PySem.F.type_list_append mt_append (pe_fld (pv 0) rfl) (pa_cons (pv 2) pa_nil)))
      (pss_one (ps_aug (i := 2) sc_words_init.nd rfl (Or.inl rfl) (pe_op op_add (pe_callB call_len_seq (by rfl) T.z_len PySem.boot_len (pa_cons (pv 3) pa_nil)) pe_int) ip_add))))
    (pss_cons (ps_fld (pv 0) (pe_op op_sub (pv 2) pe_int) rfl)
    (pss_cons (ps_fld (pv 0) pe_int rfl)
    (pss_one (ps_fld (pv 0) (pe_lst pa_nil) rfl)))))), ?_⟩)
  · obtain ⟨a, dx, row, r, p, rfl, _⟩ := h; rfl
  · obtain ⟨a, dx, row, r, p, rfl, ha, hrow, hl, q⟩ := h
    obtain ⟨hp1, hp2⟩ := parted_ok (row := r) 32 hl
    refine ⟨_, rfl, row, r, 32, rfl, .inr hrow, by omega, fun H1 lw as s1 nlw hlw hws => ?_⟩
    have ha1 := s1 _ _ ha
    refine ⟨_, rfl, a, T.cWords, dx, [], rfl, ha1, T.k_cWords, T.n_Words_words, (by show 0 < 1000; decide), ?_⟩
    have nwa : lw ≠ a := fun z => by rw [z, ha] at nlw; cases nlw
    refine ⟨by show 0 ≤ sizeLine; decide, fun lp hlp => ?_⟩
    have n1 : lp ≠ a := fun z => by rw [z, upd_same] at hlp; cases hlp
    rw [upd_ne n1] at hlp
    have n2 : lp ≠ lw := fun z => by rw [z, hlw] at hlp; cases hlp
    refine ⟨_, rfl, a, T.cWords, dx, _, rfl, by rw [upd_ne (Ne.symm n1)]; exact upd_same, T.k_cWords, T.n_Words_places, (by show 1 < 1000; decide), ?_⟩
    -- where it stands now
    have hb : ∀ b o, H1 b = some o → b ≠ a → (upd (upd (upd H1 a (.ins T.cWords dx (putF "words" (.ref lw) []))) lp (.lst [])) a (.ins T.cWords dx (putF "places" (.ref lp) (putF "words" (.ref lw) [])))) b = some o := fun b o e hb => by
      rw [upd_ne hb, upd_ne (ne_of_none e hlp), upd_ne hb]
      exact e
    have hla : (upd (upd (upd H1 a (.ins T.cWords dx (putF "words" (.ref lw) []))) lp (.lst [])) a (.ins T.cWords dx (putF "places" (.ref lp) (putF "words" (.ref lw) [])))) a = some (.ins T.cWords dx (wF0 lw lp)) := upd_same.trans (congrArg (fun q => some (HO.ins T.cWords dx q)) (wF0_new lw lp))
    have hlp1 : (upd (upd (upd H1 a (.ins T.cWords dx (putF "words" (.ref lw) []))) lp (.lst [])) a (.ins T.cWords dx (putF "places" (.ref lp) (putF "words" (.ref lw) [])))) lp = some (.lst []) := by rw [upd_ne n1]; exact upd_same
    generalize (upd (upd (upd H1 a (.ins T.cWords dx (putF "words" (.ref lw) []))) lp (.lst [])) a (.ins T.cWords dx (putF "places" (.ref lp) (putF "words" (.ref lw) [])))) = H2 at hb hla hlp1 ⊢
    have hlw2 := hb _ _ hlw nwa
    have hws2 : WsAt H2 as (MR.parted r 32) := hws.ts fun t xs e => hb _ _ e (ne_of e ha1 (fun z => by cases z))
    have hlen := Paired.len hws2
    refine ⟨_, rfl, a, _, dx, _, _, rfl, hla, T.k_cWords, T.n_Words_words, wF0_words _ _, lw, rfl, ⟨_, SqL.of hlw2⟩, ?_⟩
    refine for_it (walk_list (xs := as.map V.ref)) (fun i σ H' => ∃ v : Option V, σ = [some (.ref a), some (.ref row), some (.int (adv p ((MR.parted r 32).take i) : Nat)), v] ∧ H' lp = some (.lst ((MR.placed p ((MR.parted r 32).take i)).map fun x => V.int (x.2 : Int))) ∧ Off lp H2 H')
      ⟨none, rfl, hlp1, fun b o e _ => e⟩ (fun i σ H' hi p => ?_) (fun i x σ H0' H3 hi p y => ?_) (fun σ H3 pp => ?_)
    · obtain ⟨v, _, _, o⟩ := p
      exact SqL.of (o _ _ hlw2 (Ne.symm n2))
    · rw [List.length_map] at hi
      obtain ⟨v, rfl, hlp3, o3⟩ := p
      obtain ⟨rfl, hx⟩ := y
      rw [List.getElem?_map] at hx
      obtain ⟨t, ht, rfl⟩ : ∃ t, as[i]? = some t ∧ x = .ref t := by
        cases e : as[i]? with
        | none => rw [e] at hx; cases hx
        | some t => rw [e] at hx; exact ⟨t, rfl, (Option.some.inj hx).symm⟩
      obtain ⟨u, hu, hut⟩ := Paired.get' hws2 ht
      have hla3 := o3 _ _ hla (Ne.symm n1)
      have hpl : ((MR.placed p ((MR.parted r 32).take i)).map fun x => V.int (x.2 : Int)).length < sizeLine := by
        rw [List.length_map, placed_len, List.length_take]
        exact szl (by omega)
      refine ⟨_, rfl, a, _, dx, _, _, rfl, hla3, T.k_cWords, T.n_Words_places, wF0_places _ _, .inl ⟨rfl, _, SqL.of hlp3⟩, _, rfl, lp, _, _, rfl, rfl, hlp3, hpl, ?_⟩
      have hut3 : WAt (upd H3 lp (.lst (((MR.placed p ((MR.parted r 32).take i)).map fun x => V.int (x.2 : Int)) ++ [V.int (adv p ((MR.parted r 32).take i) : Nat)]))) t u := by
        show upd _ lp _ t = _
        rw [upd_ne (ne_of hut hlp1 (fun z => by cases z))]
        exact o3 _ _ hut (ne_of hut hlp1 (fun z => by cases z))
      refine ⟨_, rfl, _, rfl, t, _, rfl, .inr (SqT.of hut3), _, _, rfl, rfl, _, _, rfl, rfl, ?_⟩
      refine ⟨some (.ref t), ?_, ?_, ?_⟩
      · rw [take_more hu, adv_snoc, wv_len]
        show [_, _, _, _] = _
        congr 4
      · rw [upd_same, take_more hu, placed_snoc, List.map_append]
        rfl
      · exact Off.trans o3 Off.upd
    · obtain ⟨v, rfl, hlp3, o3⟩ := pp
      rw [List.length_map, hlen, List.take_length] at hlp3 ⊢
      have hla3 := o3 _ _ hla (Ne.symm n1)
      have hlw3 := o3 _ _ hlw2 (Ne.symm n2)
      have hws3 : WsAt H3 as (MR.parted r 32) := hws2.ts fun t xs e => o3 _ _ e (ne_of e hlp1 (fun z => by cases z))
      have eadv : adv p (MR.parted r 32) = p + r.length + 1 := by
        show adv p (MR.pgo 32 [] r) = _
        rw [adv_pgo]
        simp
      rw [eadv]
      refine ⟨_, rfl, _, _, rfl, rfl, _, rfl, a, T.cWords, dx, _, rfl, hla3, T.k_cWords, T.n_Words_ending, (by show 2 < 1000; decide), ?_⟩
      refine ⟨_, rfl, a, T.cWords, dx, _, rfl, upd_same, T.k_cWords, T.n_Words_at, Nat.lt_of_le_of_lt (putF_len _ _ _) (by show 2 + 1 < 1000; decide), ?_⟩
      refine ⟨by show 0 ≤ sizeLine; decide, fun lt hlt => ?_⟩
      have n3 : lt ≠ a := fun z => by rw [z, upd_same] at hlt; cases hlt
      rw [upd_ne n3, upd_ne n3] at hlt
      refine ⟨_, rfl, a, T.cWords, dx, _, rfl, by rw [upd_ne (Ne.symm n3)]; exact upd_same, T.k_cWords, T.n_Words_told, Nat.lt_of_le_of_lt (Nat.le_trans (putF_len _ _ _) (Nat.succ_le_succ (putF_len _ _ _))) (by show 2 + 1 + 1 < 1000; decide), ?_⟩
      have fin : ∀ {b o}, H3 b = some o → b ≠ a → ∀ x1 x2 x3 x4, (upd (upd (upd (upd H3 a x1) a x2) lt x3) a x4) b = some o := fun {b o} e hb x1 x2 x3 x4 => by
        rw [upd_ne hb, upd_ne (ne_of_none e hlt), upd_ne hb, upd_ne hb]
        exact e
      refine q _ lw lp lt ⟨⟨dx, upd_same.trans (congrArg (fun q => some (HO.ins T.cWords dx q)) ?_)⟩, ⟨as, fin hlw3 nwa _ _ _ _, ?_⟩, fin hlp3 n1 _ _ _ _, ?_, Nat.zero_le _, by rw [placed_len]; exact hp1, fun x hx => ?_⟩ ?_
      · show putF "told" (.ref lt) (putF "at" (.int 0) (putF "ending" (.int (((p + r.length + 1 : Nat) : Int) - 1)) (wF0 lw lp))) = _
        rw [show (((p + r.length + 1 : Nat) : Int) - 1) = ((p + r.length : Nat) : Int) by omega]
        exact wF_new lw lp lt ((p + r.length : Nat) : Int) 0
      · rw [placed_fst]
        exact hws3.ts fun t xs e => fin e (ne_of e hla3 (fun z => by cases z)) _ _ _ _
      · rw [upd_ne n3]; exact upd_same
      · have hx1 : x.1 ∈ MR.parted r 32 := by
          rw [← placed_fst (MR.parted r 32) p]
          exact List.mem_map_of_mem hx
        have := hp2 _ hx1
        omega
      · intro b o e hb'
        have e1 := s1 _ _ e
        have nbp : b ≠ lp := ne_of_none e1 hlp
        exact fin (o3 _ _ (hb _ _ e1 hb') nbp) hb' _ _ _ _
def spWChoice (K : PySem.W.Frag) (C CR : Addr) : Sp := fun vs H Q E => ∃ (a lw lp lt tp : Addr) (e : Nat) (told : List Int) (pws : List MR.PW) (k : Nat) (zs : List Str), vs = [.ref a, .ref tp] ∧ SqT K H tp (zs.map V.str) ∧ zs.length ≤ 100 ∧ (∀ z ∈ zs, z.length ≤ 1000) ∧ WordsAt C H a lw lp lt e told pws k ∧
  (∀ f, MR.choiceR e (zs.map spz) (pws.drop k) = .error f → Ref CR E [-6, (f.1 : Int), (f.2 : Int)]) ∧
  ∀ i r, MR.choiceR e (zs.map spz) (pws.drop k) = .ok (i, r) → r = pws.drop (k + 1) → ∀ H' : Hp, WordsAt C H' a lw lp lt e told pws (k + 1) → Off a H H' → Q (.int (i : Int)) H'
theorem ok_wchoice (T : Tx K mg) : FnOk P w K mg base (L2.CX P w) 6 T.f_words_choice T.d_words_choice ["self", "texts"] (spWChoice K T.cWords T.cRefused) := by
  have G : FnOk P w K mg base (L2.CX P w) 4 T.f_need_outcomes T.d_need_outcomes ["is_so", "kind", "place"] (spNeedO T.cRefused) := ok_need_outcomes T
  have GW : FnOk P w K mg base (L2.CX P w) 5 T.f_words_word T.d_words_word ["self"] (spWWord T.cWords T.cRefused) := ok_wword T
  have GPl : FnOk P w K mg base CX0 1 T.f_words_place T.d_words_place ["self"] (spWPlace T.cWords) := ok_wplace T
  have GS : FnOk P w K mg base CX0 1 T.f_spelled T.d_spelled ["text"] spSpelled := ok_spelled T
  refine T.words_choice.F.okX sc_words_choice (fun vs H Q E h => ?_) (fun cdv A outer s H vs Q E hr h => ⟨_,
    pss_cons (ps_set (i := 2) sc_words_choice.nd rfl (Or.inr rfl) (pe_meth0 (pv 0) T.k_cWords T.m_words_word GW hr T.words_word.b .nil (psx (E := E) (takes_of rfl rfl rfl rfl))))
    (pss_cons (ps_setLc (i := 3) (own := [("place", 4), ("text", 5)]) (g := gTup K 2 (gCons (gName 4) (gCons (gName 5) gNil))) (tt := tTest (tOp (rEqD K) (tCall spSpelled [] E0 (tCons (tVar 5) tNil)) (tVar 2))) rfl sc_words_choice.nd rfl rfl (sw_true rfl rfl rfl (by decide +kernel)) (pi_enumT rfl T.z_enumerate (pa_cons (pv 1) pa_nil))
        (blkOk_by (own := [("place", 4), ("text", 5)]) (N := ["self", "texts", "word", "some", "place", "text"]) (sc := defScope s_words_choice) (by decide +kernel))
        (fun _ _ _ _ _ => pg_tup rfl (pgs_cons (pg_name (i := 4) sc_words_choice.nd rfl (Or.inl rfl)) (pgs_cons (pg_name (i := 5) sc_words_choice.nd rfl (Or.inl rfl)) pgs_nil)))
        (fun _ _ _ _ _ => pts_one (pt_cmpR (op_eqD hr.units) (pe_call GS (hr.mono (by decide)) rfl T.spelled.g T.spelled.me.F.kp T.spelled.me.b .nil pass0 (by exact (pa_cons (pv 5) pa_nil))) (pv 2) (nomark _)))
        (fun _ _ _ _ _ => pv 4))
    (pss_cons (ps_expr (pe_call G (hr.mono (by decide)) rfl T.need_outcomes.g T.need_outcomes.me.F.kp T.need_outcomes.me.b .nil (psx (E := E) (takes_of rfl rfl rfl rfl)) (by exact (pa_cons (pe_cmpR op_gt (pe_callB call_len_seq (by rfl) T.z_len PySem.boot_len (pa_cons (pv 3) pa_nil)) pe_int (nomark _)) (pa_cons (pe_k rfl T.g_BAD_WORD) (pa_cons (pe_meth0 (pv 0) T.k_cWords T.m_words_place GPl (hr.mono (by decide)) T.words_place.b .nil pass0) pa_nil))))))
    (pss_one (ps_ret (pe_ix ix_list (pv 3) pe_int (fun _ _ => rfl)))))), ?_⟩)
  · obtain ⟨a, lw, lp, lt, tp, e, told, pws, k, zs, rfl, _⟩ := h; rfl
  · obtain ⟨a, lw, lp, lt, tp, e, told, pws, k, zs, rfl, hT, hz1, hz2, hW, qE, qO⟩ := h
    obtain ⟨dx, h1⟩ := hW.ob
    refine ⟨_, rfl, a, dx, _, rfl, h1, wF_word _ _ _ _ _, a, lw, lp, lt, e, told, pws, k, rfl, hW, fun hn => qE (3, e) (by rw [List.drop_eq_nil_of_le (List.getElem?_eq_none_iff.mp hn)]; rfl), ?_⟩
    intro x hx H1 t hW1 o1 ht hv
    have hdrop := drop_more hx
    obtain ⟨dx1, h1'⟩ := hW1.ob
    have hT1 := sqT_off hT o1 h1
    refine ⟨_, rfl, tp, _, rfl, hT1, fun D hD => ?_⟩
    refine lc_gen walk_enumT hD (fun _ s => sqT_same hT1 s) (by rw [List.length_map]; omega) (fun i => if ((zs.map spz)[i]? == some x.1) = true then some (V.int (i : Int)) else none) (fun i x0 H2 H3 QV QN hi s2 y hvv hnn => ?_) (fun H2 s2 hl => ?_)
    · obtain ⟨Tp, x1, y1, rfl, nT, rfl, hx1, hy1⟩ := y
      have hx1 := (Option.some.inj hx1).symm
      subst hx1
      have hy1 : (zs.map V.str)[i]? = some y1 := hy1
      obtain ⟨z, hz, rfl⟩ : ∃ z, zs[i]? = some z ∧ y1 = V.str z := by
        rw [List.getElem?_map] at hy1
        cases e0 : zs[i]? with
        | none => rw [e0] at hy1; cases hy1
        | some z => rw [e0] at hy1; exact ⟨z, rfl, (Option.some.inj hy1).symm⟩
      have e1 : (zs.map spz)[i]? = some (spz z) := by rw [List.getElem?_map, hz]; rfl
      refine ⟨Tp, _, rfl, SqT.of upd_same, rfl, _, _, rfl, _, _, rfl, rfl, ?_⟩
      refine ⟨rfl, _, rfl, z, rfl, hz2 z (List.mem_of_getElem? hz), fun H4 p4 s4 hp4 hw4 => ?_⟩
      have s24 : Same H2 H4 := Same.trans (Same.new nT) s4
      refine ⟨_, rfl, rd_weq hw4 (ht.ts (TS.of (Same.trans s2 s24))) ⟨_, rfl, ?_⟩⟩
      cases hb : (spz z == x.1) with
      | true =>
        refine iteT ⟨_, rfl, hvv _ _ ?_ s24⟩
        rw [e1]
        have : (some (spz z) == some x.1) = true := by rw [eq_of_beq hb]; exact beq_self_eq_true _
        rw [if_pos this]
      | false =>
        refine iteF (hnn ?_ _ s24)
        rw [e1]
        have : ¬ (some (spz z) == some x.1) = true := fun q => by
          have := Option.some.inj (eq_of_beq q)
          rw [this] at hb
          simp at hb
        rw [if_neg this]
    · rw [List.length_map] at hl
      have hm : MR.choiceR e (zs.map spz) (pws.drop k) = match ((List.range zs.length).find? fun i => (zs.map spz)[i]? == some x.1) with | none => .error (3, x.2) | some i => .ok (i, pws.drop (k + 1)) := by
        rw [hdrop]
        show (match (zs.map spz).findIdx? fun t => t == x.1 with | none => Except.error (3, x.2) | some i => .ok (i, pws.drop (k + 1))) = _
        rw [idx_range, List.length_map]
      have hf := first_of zs.length fun i => (zs.map spz)[i]? == some x.1
      have hW2 := hW1.same s2
      obtain ⟨dx2, h2'⟩ := hW2.ob
      refine ⟨_, rfl, D, _, rfl, .inl (SqL.of hl), _, _, rfl, rfl, _, rfl, a, dx2, _, rfl, h2', wF_place _ _ _ _ _, a, lw, lp, lt, e, told, pws, k, x, rfl, hW2, hx, ?_⟩
      cases hc : (List.range zs.length).find? fun i => (zs.map spz)[i]? == some x.1 with
      | none =>
        rw [hc] at hf hm
        have hf : _ = [] := hf
        rw [hf]
        exact ⟨_, 3, _, rfl, (fun z => Bool.noConfusion z), fun _ => qE (3, x.2) hm⟩
      | some i =>
        rw [hc] at hf hm
        obtain ⟨rest, hf⟩ := hf
        rw [hf] at hl
        rw [hf]
        refine ⟨_, 3, _, rfl, (fun _ => ?_), fun z => ?_⟩
        · exact ⟨_, rfl, D, _, 0, _, rfl, rfl, SqL.of hl, atI_nat (j := 0) rfl, qO i _ hm rfl H2 hW2 (Off.trans o1 (Off.of s2))⟩
        · have : decide ((0 : Int) < ((V.int (i : Int) :: rest).length : Int)) = false := z
          have := of_decide_eq_false this
          simp only [List.length_cons] at this
          omega
end
end RR
namespace RR
open PySem PySem.Spec PyProof.Rows L2
theorem gTup2_mono {K : PySem.W.Frag} {i j : Nat} : ∀ (x : V) (σ2 : L2.St) (H2 : Hp) (Q Q' : L2.St → Hp → Prop), (∀ s h, Q s h → Q' s h) → gTup K 2 (gCons (gName i) (gCons (gName j) gNil)) x σ2 H2 Q → gTup K 2 (gCons (gName i) (gCons (gName j) gNil)) x σ2 H2 Q' :=
  fun _ _ _ _ _ k ⟨a, xs, e, hs, hl, v, r, e2, v2, r2, e3, e4, q⟩ => ⟨a, xs, e, hs, hl, v, r, e2, v2, r2, e3, e4, k _ _ q⟩
theorem cut_one (xs : List V) : cutV xs (some 1) none = xs.drop 1 := by
  unfold cutV
  rw [HT.sIx_none, show ((1 : Int)) = ((1 : Nat) : Int) from rfl, HT.sIx_nat]
  cases xs with
  | nil => rfl
  | cons a r =>
    rw [List.length_cons, Nat.min_eq_left (by omega), List.take_of_length_le]
    rw [List.length_drop, List.length_cons]
    omega
theorem inV_ints (n : Int) (l : List Int) : inV (.int n) (l.map V.int) = l.contains n := by
  induction l with
  | nil => rfl
  | cons a r ih =>
    have e : inV (.int n) ((a :: r).map V.int) = ((a == n) || inV (.int n) (r.map V.int)) := rfl
    rw [e, ih, List.contains_cons]
    congr 1
    rw [Bool.eq_iff_iff, beq_iff_eq, beq_iff_eq]
    exact eq_comm
theorem rising_zip : ∀ ns : List Int, MR.rising ns = (List.zip ns (ns.drop 1)).all fun x => decide (x.1 < x.2)
  | [] => rfl
  | [_] => rfl
  | a :: b :: r => by
    show (decide (a < b) && MR.rising (b :: r)) = _
    rw [rising_zip (b :: r)]
    first
      | done
      | rfl
theorem rising_len {hi : Int} : ∀ (r : List Int) (a : Int), MR.rising (a :: r) = true → (∀ n ∈ a :: r, n ≤ hi) → ((a :: r).length : Int) ≤ hi - a + 1
  | [], a, _, h => by
    have := h a List.mem_cons_self
    simp only [List.length_cons, List.length_nil]
    omega
  | b :: r, a, hr, h => by
    have hr : (decide (a < b) && MR.rising (b :: r)) = true := hr
    rw [Bool.and_eq_true, decide_eq_true_eq] at hr
    have := rising_len r b hr.2 fun n hn => h n (List.mem_cons_of_mem _ hn)
    simp only [List.length_cons] at this ⊢
    omega
theorem runners_len {sign many : Int} {told ns : List Int} {x : MR.PW} (h : MR.runners sign many told x = .ok ns) (hm : many ≤ 100) : ns.length ≤ 100 := by
  have h : (if (((MR.parted x.1 sign).map MR.numberOf).all (fun n => (decide (1 ≤ n) && decide (n ≤ many)) && !told.contains n) && MR.rising ((MR.parted x.1 sign).map MR.numberOf)) = true then Except.ok ((MR.parted x.1 sign).map MR.numberOf) else .error (4, x.2)) = .ok ns := h
  split at h
  · next c =>
    have e : ((MR.parted x.1 sign).map MR.numberOf) = ns := by injection h
    rw [e, Bool.and_eq_true, List.all_eq_true] at c
    cases ns with
    | nil => exact Nat.zero_le _
    | cons a r =>
      have hall : ∀ n ∈ a :: r, 1 ≤ n ∧ n ≤ many := fun n hn => by
        have := c.1 n hn
        rw [Bool.and_eq_true, Bool.and_eq_true, decide_eq_true_eq, decide_eq_true_eq] at this
        exact this.1
      have h1 := (hall a List.mem_cons_self).1
      have := rising_len r a c.2 fun n hn => (hall n hn).2
      omega
  · cases h
section
variable {P : Program} {w : World} {K : PySem.W.Frag} {mg : Str → Option Value} {base : Heap}
def spRunners (C CRc CR : Addr) : Sp := fun vs H Q E => ∃ (a lw lp lt r d : Addr) (e : Nat) (told : List Int) (pws : List MR.PW) (k : Nat) (sign many : Int), vs = [.ref a, .int sign, .ref r] ∧ WordsAt C H a lw lp lt e told pws k ∧ told.length ≤ 100 * k ∧ r ≠ a ∧ (∃ dr, H r = some (.ins CRc dr (rF many d))) ∧ many ≤ 100 ∧
  (pws[k]? = none → Ref CR E [-6, 3, (e : Int)]) ∧
  ∀ x, pws[k]? = some x → (∀ f, MR.runners sign many told x = .error f → Ref CR E [-6, (f.1 : Int), (f.2 : Int)]) ∧
    ∀ ns, MR.runners sign many told x = .ok ns → ∀ (H' : Hp) (lt' nl : Addr), WordsAt C H' a lw lp lt' e (told ++ ns) pws (k + 1) → (told ++ ns).length ≤ 100 * (k + 1) → Off a H H' → H lt' = none → H nl = none → Q (.ref nl) H'
theorem ok_runners (T : Tx K mg) : FnOk P w K mg base (L2.CX P w) 6 T.f_words_runners T.d_words_runners ["self", "sign", "race"] (spRunners T.cWords T.cRace T.cRefused) := by
  have G : FnOk P w K mg base (L2.CX P w) 4 T.f_need_outcomes T.d_need_outcomes ["is_so", "kind", "place"] (spNeedO T.cRefused) := ok_need_outcomes T
  have GW : FnOk P w K mg base (L2.CX P w) 5 T.f_words_word T.d_words_word ["self"] (spWWord T.cWords T.cRefused) := ok_wword T
  have GPl : FnOk P w K mg base CX0 1 T.f_words_place T.d_words_place ["self"] (spWPlace T.cWords) := ok_wplace T
  have GPa : FnOk P w K mg base CX0 1 T.f_parted T.d_parted ["row", "byte"] (spParted K) := ok_parted T
  have GN : FnOk P w K mg base CX0 2 T.f_number_of T.d_number_of ["word"] spNumberOf := ok_number_of T
  refine T.words_runners.F.okX sc_words_runners (fun vs H Q E h => ?_) (fun cdv A outer s H vs Q E hr h => ⟨_,
    pss_cons (ps_setLc (i := 3) (own := [("piece", 6)]) (g := gName 6) (tt := tYes) (te := tCall spNumberOf [] E0 (tCons (tVar 6) tNil)) rfl sc_words_runners.nd rfl rfl (sw_true rfl rfl rfl (by decide +kernel))
        (pi_list (pe_call GPa (hr.mono (by decide)) rfl T.parted.g T.parted.me.F.kp T.parted.me.b .nil pass0 (by exact (pa_cons (pe_meth0 (pv 0) T.k_cWords T.m_words_word GW hr T.words_word.b .nil (psx (E := E) (takes_of rfl rfl rfl rfl))) (pa_cons (pv 1) pa_nil)))))
        (blkOk_by (own := [("piece", 6)]) (N := ["self", "sign", "race", "numbers", "are_there", "are_rising", "piece", "number", "one", "other"]) (sc := defScope s_words_runners) (by decide +kernel))
        (fun _ _ _ _ _ => pg_name (i := 6) sc_words_runners.nd rfl (Or.inl rfl)) (fun _ _ _ _ _ => pts_nil)
        (fun _ _ _ _ _ => pe_call GN (hr.mono (by decide)) rfl T.number_of.g T.number_of.me.F.kp T.number_of.me.b .nil pass0 (by exact (pa_cons (pv 6) pa_nil))))
    (pss_cons (ps_set (i := 4) sc_words_runners.nd rfl (Or.inl rfl) (pe_callB (cr_all rfl) (by rfl) T.z_all (by decide +kernel) (pa_cons
        (pe_lc (own := [("number", 7)]) (g := gName 7) (tt := tYes) (te := tAndV (tChain (rI0 fun i j => .bl (decide (i ≤ j))) (rI0 fun i j => .bl (decide (i ≤ j))) (tC (.int 1)) (tVar 7) (tFld K (tVar 2) "many")) (tOp (rIn K true) (tVar 7) (tFld K (tVar 0) "told"))) rfl sc_words_runners.nd (pi_list (pv 3))
          (blkOk_by (own := [("number", 7)]) (N := ["self", "sign", "race", "numbers", "are_there", "are_rising", "piece", "number", "one", "other"]) (sc := defScope s_words_runners) (by decide +kernel))
          (fun _ _ _ _ _ => pg_name (i := 7) sc_words_runners.nd rfl (Or.inl rfl)) (fun _ _ _ _ _ => pts_nil)
          (fun _ _ _ _ _ => pe_and (pe_chain op_le op_le pe_int (pv 7) (pe_fld (pv 2) rfl)) (pe_one (pe_cmpR op_notIn_seq (pv 7) (pe_fld (pv 0) rfl) (by rfl))))) pa_nil)))
    (pss_cons (ps_set (i := 5) sc_words_runners.nd rfl (Or.inl rfl) (pe_callB (cr_all rfl) (by rfl) T.z_all (by decide +kernel) (pa_cons
        (pe_lc (own := [("one", 8), ("other", 9)]) (g := gTup K 2 (gCons (gName 8) (gCons (gName 9) gNil))) (tt := tYes) (te := tOp (rI0 fun i j => .bl (decide (i < j))) (tVar 8) (tVar 9)) rfl sc_words_runners.nd (pi_zip rfl T.z_zip (pa_cons (pv 3) (pa_cons (pe_slice sl_list (pv 3) (po_some pe_int) po_none) pa_nil)))
          (blkOk_by (own := [("one", 8), ("other", 9)]) (N := ["self", "sign", "race", "numbers", "are_there", "are_rising", "piece", "number", "one", "other"]) (sc := defScope s_words_runners) (by decide +kernel))
          (fun _ _ _ _ _ => pg_tup rfl (pgs_cons (pg_name (i := 8) sc_words_runners.nd rfl (Or.inl rfl)) (pgs_cons (pg_name (i := 9) sc_words_runners.nd rfl (Or.inl rfl)) pgs_nil))) (fun _ _ _ _ _ => pts_nil)
          (fun _ _ _ _ _ => pe_cmpR op_lt (pv 8) (pv 9) (nomark _))) pa_nil)))
    (pss_cons (ps_expr (pe_call G (hr.mono (by decide)) rfl T.need_outcomes.g T.need_outcomes.me.F.kp T.need_outcomes.me.b .nil (psx (E := E) (takes_of rfl rfl rfl rfl)) (by exact (pa_cons (pe_and (pv 4) (pe_one (pv 5))) (pa_cons (pe_k rfl T.g_BAD_NUMBER) (pa_cons (pe_meth0 (pv 0) T.k_cWords T.m_words_place GPl (hr.mono (by decide)) T.words_place.b .nil pass0) pa_nil))))))
    (pss_cons (ps_fld (pv 0) (pe_op op_cat (pe_fld (pv 0) rfl) (pv 3)) rfl)
    (pss_one (ps_ret (pv 3))))))), ?_⟩)
  · obtain ⟨a, lw, lp, lt, r, d, e, told, pws, k, sign, many, rfl, _⟩ := h; rfl
  · obtain ⟨a, lw, lp, lt, r, d, e, told, pws, k, sign, many, rfl, hW, htl, nra, ⟨dr, hr0⟩, hm, qN, qX⟩ := h
    obtain ⟨dx, h1⟩ := hW.ob
    refine ⟨_, rfl, a, dx, _, rfl, h1, wF_word _ _ _ _ _, a, lw, lp, lt, e, told, pws, k, rfl, hW, qN, ?_⟩
    intro x hx H1 t hW1 o1 ht hv
    obtain ⟨qE, qO⟩ := qX x hx
    have hr1 := o1 _ _ hr0 nra
    refine ⟨_, rfl, t, x.1, sign, rfl, .inr ht, hv, fun H2 p as s2 np hp hws => ?_⟩
    have hpl := pgo_len sign x.1 []
    have hpl : (MR.parted x.1 sign).length ≤ 70001 := Nat.le_trans hpl (by omega)
    have hlen := Paired.len hws
    refine ⟨p, rfl, ⟨_, SqL.of hp⟩, fun D hD => ?_⟩
    have item : ∀ {i : Nat} {x0 : V}, (as.map V.ref)[i]? = some x0 → ∃ t, as[i]? = some t ∧ x0 = .ref t := fun {i x0} hx => by
      rw [List.getElem?_map] at hx
      cases e : as[i]? with
      | none => rw [e] at hx; cases hx
      | some t => rw [e] at hx; exact ⟨t, rfl, (Option.some.inj hx).symm⟩
    refine lc_vals (walk_list (xs := as.map V.ref)) hD (fun H' s' => SqL.of (s' _ _ hp)) (by rw [List.length_map, hlen]; omega) (((MR.parted x.1 sign).map MR.numberOf).map V.int) (by rw [List.length_map, List.length_map, List.length_map, hlen]) (fun i x0 v H3 H4 QV hv2 s3 y hq => ?_) gName_mono (fun H5 s5 hl5 => ?_)
    · obtain ⟨rfl, hx0⟩ := y
      obtain ⟨t0, ht0, rfl⟩ := item hx0
      obtain ⟨row, hrow, hrt⟩ := Paired.get' hws ht0
      rw [List.getElem?_map, List.getElem?_map, hrow] at hv2
      have hv2 := Option.some.inj hv2
      subst hv2
      have := pgo_mem sign x.1 [] row (List.mem_of_getElem? hrow)
      simp only [List.length_nil] at this
      exact ⟨rfl, _, rfl, t0, row, rfl, hrt.ts (TS.of s3), by omega, fun H' s' => hq _ s'⟩
    -- the numbers are at D
    have hnsl : ((MR.parted x.1 sign).map MR.numberOf).length ≤ 70001 := by rw [List.length_map]; exact hpl
    have hrun : MR.runners sign many told x = if (((MR.parted x.1 sign).map MR.numberOf).all (fun n => (decide (1 ≤ n) && decide (n ≤ many)) && !told.contains n) && MR.rising ((MR.parted x.1 sign).map MR.numberOf)) = true then Except.ok ((MR.parted x.1 sign).map MR.numberOf) else .error (4, x.2) := rfl
    generalize ((MR.parted x.1 sign).map MR.numberOf) = ns at hl5 hnsl hrun ⊢
    have s15 := Same.trans s2 s5
    have hW5 := hW1.same s15
    have hr5 := s15 _ _ hr1
    have nitem : ∀ {i : Nat} {x0 : V}, (ns.map V.int)[i]? = some x0 → ∃ n, ns[i]? = some n ∧ x0 = .int n := fun {i x0} hx => by
      rw [List.getElem?_map] at hx
      cases e : ns[i]? with
      | none => rw [e] at hx; cases hx
      | some t => rw [e] at hx; exact ⟨t, rfl, (Option.some.inj hx).symm⟩
    -- are_there
    refine ⟨_, rfl, D, rfl, ⟨_, SqL.of hl5⟩, fun D2 hD2 => ?_⟩
    refine lc_vals (walk_list (xs := ns.map V.int)) hD2 (fun H' s' => SqL.of (s' _ _ hl5)) (by rw [List.length_map]; omega) ((ns.map fun n => (decide (1 ≤ n) && decide (n ≤ many)) && !told.contains n).map V.bl) (by rw [List.length_map, List.length_map, List.length_map]) (fun i x0 v H6 H7 QV hv2 s6 y hq => ?_) gName_mono (fun H6 s6 hl6 => ?_)
    · obtain ⟨rfl, hx0⟩ := y
      obtain ⟨n, hn, rfl⟩ := nitem hx0
      rw [List.getElem?_map, List.getElem?_map, hn] at hv2
      have hv2 := Option.some.inj hv2
      subst hv2
      have hW6 := hW5.same s6
      obtain ⟨dx6, h6⟩ := hW6.ob
      have hq : QV (V.bl ((decide (1 ≤ n) && decide (n ≤ many)) && !told.contains n)) _ := hq _ (Same.refl _)
      refine ⟨rfl, _, rfl, _, _, rfl, rfl, _, rfl, ?_⟩
      cases c1 : decide (1 ≤ n) with
      | false =>
        rw [c1] at hq
        exact iteF ⟨_, rfl, iteF hq⟩
      | true =>
        rw [c1] at hq
        refine iteT ⟨_, rfl, r, _, dr, _, _, rfl, s6 _ _ hr5, T.k_cRace, T.n_Race_many, rF_many _ _, _, _, rfl, rfl, _, rfl, ?_⟩
        cases c2 : decide (n ≤ many) with
        | false =>
          rw [c2] at hq
          exact iteF hq
        | true =>
          rw [c2] at hq
          refine iteT ⟨_, rfl, _, rfl, a, _, dx6, _, _, rfl, h6, T.k_cWords, T.n_Words_told, wF_told _ _ _ _ _, lt, _, rfl, .inl (SqL.of hW6.ft), rfl, by rw [List.all_map]; exact List.all_eq_true.mpr fun _ _ => rfl, ?_⟩
          rw [if_pos rfl, inV_ints]
          exact hq
    refine ⟨D2, _, rfl, SqL.of hl6, ?_⟩
    rw [all_id]
    have hl56 := s6 _ _ hl5
    have s16 := Same.trans s15 s6
    -- are_rising
    refine ⟨_, rfl, _, rfl, 1, rfl, D, _, rfl, SqL.of hl56, fun Z hZ => ⟨D, Z, ns.map V.int, (ns.drop 1).map V.int, rfl, SqL.of (Same.new hZ _ _ hl56), ?_, fun D3 hD3 => ?_⟩⟩
    · refine SqL.of (upd_same.trans ?_)
      rw [cut_one, List.map_drop]
    have hZ7 : (upd H6 Z (.lst (cutV (ns.map V.int) (some 1) none))) Z = some (.lst ((ns.drop 1).map V.int)) := upd_same.trans (by rw [cut_one, List.map_drop])
    have s67 : Same H6 (upd H6 Z (.lst (cutV (ns.map V.int) (some 1) none))) := Same.new hZ
    have hl57 := s67 _ _ hl56
    generalize upd H6 Z (.lst (cutV (ns.map V.int) (some 1) none)) = H7 at hZ7 s67 hl57 hD3 ⊢
    refine lc_vals (walk_zip (xs := ns.map V.int) (ys := (ns.drop 1).map V.int) rfl) hD3 (fun H' s' => ⟨SqL.of (s' _ _ hl57), SqL.of (s' _ _ hZ7)⟩) (by rw [List.length_map]; omega) (((List.zip ns (ns.drop 1)).map fun x => decide (x.1 < x.2)).map V.bl) (by rw [List.length_map, List.length_map, List.length_map, List.length_map, List.length_zip]) (fun i x0 v H8 H9 QV hv2 s8 y hq => ?_) gTup2_mono (fun H8 s8 hl8 => ?_)
    · obtain ⟨Tp, u1, u2, rfl, nT, rfl, hu1, hu2⟩ := y
      obtain ⟨n1, hn1, rfl⟩ := nitem hu1
      obtain ⟨n2, hn2, rfl⟩ : ∃ n, (ns.drop 1)[i]? = some n ∧ u2 = .int n := by
        have hu2 : ((ns.drop 1).map V.int)[i]? = some u2 := hu2
        rw [List.getElem?_map] at hu2
        cases e : (ns.drop 1)[i]? with
        | none => rw [e] at hu2; cases hu2
        | some t => rw [e] at hu2; exact ⟨t, rfl, (Option.some.inj hu2).symm⟩
      have hz : (List.zip ns (ns.drop 1))[i]? = some (n1, n2) := by
        rw [List.getElem?_zip_eq_some]
        exact ⟨hn1, hn2⟩
      rw [List.getElem?_map, List.getElem?_map, hz] at hv2
      have hv2 := Option.some.inj hv2
      subst hv2
      exact ⟨Tp, _, rfl, SqT.of upd_same, rfl, _, _, rfl, _, _, rfl, rfl, ⟨rfl, _, rfl, _, rfl, _, _, rfl, rfl, hq _ (Same.new nT)⟩⟩
    refine ⟨D3, _, rfl, SqL.of hl8, ?_⟩
    rw [show (((List.zip ns (ns.drop 1)).map fun x => decide (x.1 < x.2)).all id) = MR.rising ns by rw [rising_zip, List.all_map]; rfl]
    have s18 := Same.trans s16 (Same.trans s67 s8)
    have hl58 := s8 _ _ hl57
    have hW8 := hW1.same s18
    obtain ⟨dx8, h8⟩ := hW8.ob
    have hD0 : H D = none := Same.free (Same.refl _) (by
      cases q0 : H D with
      | none => rfl
      | some o =>
        by_cases hDa : D = a
        · rw [hDa, s2 _ _ hW1.ob.choose_spec] at hD; cases hD
        · rw [s2 _ _ (o1 _ _ q0 hDa)] at hD; cases hD)
    -- need(are_there and are_rising, ..)
    have tst : ∀ Q' : VK, Q' (.bl (ns.all (fun n => (decide (1 ≤ n) && decide (n ≤ many)) && !told.contains n) && MR.rising ns)) H8 →
        tAndV (tVar 4) (tVar 5) [some (V.ref a), some (.int sign), some (.ref r), some (.ref D), some (.bl (ns.all fun n => (decide (1 ≤ n) && decide (n ≤ many)) && !told.contains n)), some (.bl (MR.rising ns)), none, none, none, none] H8 Q' := by
      intro Q' q'
      refine ⟨_, rfl, _, rfl, ?_⟩
      cases c1 : (ns.all fun n => (decide (1 ≤ n) && decide (n ≤ many)) && !told.contains n) with
      | false => rw [c1] at q'; exact iteF q'
      | true => rw [c1] at q'; exact iteT ⟨_, rfl, q'⟩
    refine tst _ ⟨_, rfl, a, dx8, _, rfl, h8, wF_place _ _ _ _ _, a, lw, lp, lt, e, told, pws, k, x, rfl, hW8, hx, ?_⟩
    refine ⟨_, 4, (x.2 : Int), rfl, fun hb => ?_, fun hb => qE (4, x.2) (by rw [hrun, hb]; rfl)⟩
    rw [if_pos hb] at hrun
    have hns := runners_len hrun hm
    have htl2 : (told ++ ns).length ≤ 100 * (k + 1) := by rw [List.length_append]; omega
    have hk7 : k + 1 ≤ 70000 := Nat.le_trans hW1.sz.1 hW1.sz.2.1
    -- self.told = self.told + numbers
    refine ⟨_, rfl, a, _, dx8, _, _, rfl, h8, T.k_cWords, T.n_Words_told, wF_told _ _ _ _ _, _, rfl, lt, D, _, _, rfl, rfl, hW8.ft, hl58, by rw [List.length_map, List.length_map]; rw [List.length_append] at htl2; exact Nat.le_trans (show _ ≤ 100 * 70000 + 100 by omega) (by decide), fun lt' hlt' => ?_⟩
    refine ⟨_, rfl, a, T.cWords, dx8, _, rfl, Same.new hlt' _ _ h8, T.k_cWords, T.n_Words_told, (by show 5 < 1000; decide), ?_⟩
    have na' : lt' ≠ a := fun z => by rw [z, h8] at hlt'; cases hlt'
    have off : Off a H8 (upd (upd H8 lt' (.lst ((told.map V.int) ++ (ns.map V.int)))) a (.ins T.cWords dx8 (putF "told" (.ref lt') (wF lw lp lt (e : Int) ((k + 1 : Nat) : Int))))) := fun b o eb hb' => by
      rw [upd_ne hb', upd_ne (ne_of_none eb hlt')]
      exact eb
    have oall : Off a H (upd (upd H8 lt' (.lst ((told.map V.int) ++ (ns.map V.int)))) a (.ins T.cWords dx8 (putF "told" (.ref lt') (wF lw lp lt (e : Int) ((k + 1 : Nat) : Int))))) := Off.trans o1 (Off.trans (Off.of s18) off)
    have hlt0 : H lt' = none := by
      cases q0 : H lt' with
      | none => rfl
      | some o => rw [s18 _ _ (o1 _ _ q0 na')] at hlt'; cases hlt'
    obtain ⟨as8, hf1, hf2⟩ := hW8.fw
    refine ⟨_, rfl, qO ns hrun _ lt' D ⟨⟨dx8, upd_same.trans (congrArg (fun q => some (HO.ins T.cWords dx8 q)) (wF_puttold _ _ _ _ _ _))⟩, ⟨as8, off _ _ hf1 (ne_of hf1 h8 (fun z => by cases z)), hf2.ts (off.ts h8 (fun _ z => by cases z))⟩, off _ _ hW8.fp (ne_of hW8.fp h8 (fun z => by cases z)), ?_, hW8.sz⟩ htl2 oall hlt0 hD0⟩
    rw [upd_ne na', upd_same, List.map_append]
end
end RR
namespace RR
open PySem PySem.Spec PyProof.Rows L2
section
variable {P : Program} {w : World} {K : PySem.W.Frag} {mg : Str → Option Value} {base : Heap}
def spAskBytes : Addr → Sp := fun CR vs H Q E => ∃ (a : Addr) (row : W) (p : Nat), vs = [.ref a, .int (p : Int)] ∧ WAt H a row ∧ row.length ≤ 70000 ∧ (∀ i, MR.badAt row = some i → Ref CR E [-6, 2, ((p + i : Nat) : Int)]) ∧
  (MR.badAt row = none → ∀ H', Same H H' → Q .non H')
theorem ok_ask_bytes (T : Tx K mg) : FnOk P w K mg base (L2.CX P w) 5 T.f_ask_bytes T.d_ask_bytes ["row", "begin"] (spAskBytes T.cRefused) := by
  have G : FnOk P w K mg base (L2.CX P w) 4 T.f_need_outcomes T.d_need_outcomes ["is_so", "kind", "place"] (spNeedO T.cRefused) := ok_need_outcomes T
  refine T.ask_bytes.me.F.okX sc_ask_bytes (fun vs H Q E h => ?_) (fun cdv A outer s H vs Q E hr h => ⟨_,
    pss_cons (ps_expr (pe_call G hr rfl T.need_outcomes.g T.need_outcomes.me.F.kp T.need_outcomes.me.b .nil (psx (E := E) (takes_of rfl rfl rfl rfl)) (by exact (pa_cons (pe_cmpR op_gt (pe_callB call_len_seq (by rfl) T.z_len PySem.boot_len (pa_cons (pv 0) pa_nil)) pe_int (nomark _)) (pa_cons (pe_k rfl T.g_BAD_BYTE) (pa_cons (pv 1) pa_nil))))))
    (pss_one (ps_for (passes_of rfl) rfl (pi_enumT rfl T.z_enumerate (pa_cons (pv 0) pa_nil)) (pg_tup rfl (pgs_cons (pg_name (i := 2) sc_ask_bytes.nd rfl (Or.inl rfl)) (pgs_cons (pg_name (i := 3) sc_ask_bytes.nd rfl (Or.inl rfl)) pgs_nil)))
      (pss_cons (ps_set (i := 4) sc_ask_bytes.nd rfl (Or.inl rfl) (pe_or (pe_cmpR op_ne (pv 3) (pe_k rfl T.g_BLANK) (nomark _)) (pe_one (pe_and (pe_chain op_lt op_lt pe_int (pv 2) (pe_op op_sub (pe_callB call_len_seq (by rfl) T.z_len PySem.boot_len (pa_cons (pv 0) pa_nil)) pe_int)) (pe_one (pe_cmpR op_ne (pe_ix ix_tup (pv 0) (pe_op op_sub (pv 2) pe_int) (fun _ _ => rfl)) (pe_k rfl T.g_BLANK) (nomark _)))))))
      (pss_one (ps_expr (pe_call G hr rfl T.need_outcomes.g T.need_outcomes.me.F.kp T.need_outcomes.me.b .nil (psx (E := E) (takes_of rfl rfl rfl rfl)) (by exact (pa_cons (pe_and (pe_chain op_le op_le (pe_k rfl T.g_BLANK) (pv 3) (pe_k rfl T.g_LAST_SIGN)) (pe_one (pv 4))) (pa_cons (pe_k rfl T.g_BAD_BYTE) (pa_cons (pe_op op_add (pv 1) (pv 2)) pa_nil))))))))
      )), ?_⟩)
  · obtain ⟨a, row, p, rfl, _⟩ := h; rfl
  · obtain ⟨a, row, p, rfl, ha, hl, qE, qO⟩ := h
    have hT : SqT K H a (wv row) := SqT.of ha
    refine ⟨_, rfl, a, _, rfl, .inr hT, _, _, rfl, rfl, _, rfl, _, 2, (p : Int), rfl, fun hb => ?_, fun hb => ?_⟩
    · have hb : (0 : Int) < ((wv row).length : Int) := of_decide_eq_true hb
      rw [wv_len] at hb
      have hne : row ≠ [] := fun z => by rw [z] at hb; exact absurd hb (by decide)
      have hbad : MR.badAt row = (List.range row.length).find? fun i => !MR.byteOk row i := by unfold MR.badAt; rw [if_neg hne]
      refine ⟨_, rfl, a, _, rfl, hT, ?_⟩
      refine for_it (walk_enumT (xs := wv row)) (fun i σ H' => ∃ v2 v3 v4 : Option V, σ = [some (.ref a), some (.int (p : Int)), v2, v3, v4] ∧ Same H H' ∧ ∀ j, j < i → MR.byteOk row j = true)
        ⟨none, none, none, rfl, Same.refl _, fun j hj => absurd hj (Nat.not_lt_zero _)⟩ (fun i σ H' hi p => ?_) (fun i x σ H2 H3 hi pp y => ?_) (fun σ H3 pp => ?_)
      · obtain ⟨_, _, _, _, s, _⟩ := p
        exact sqT_same hT s
      · obtain ⟨v2, v3, v4, rfl, s2, hok⟩ := pp
        obtain ⟨Tp, x1, y1, rfl, nT, rfl, hx1, hy1⟩ := y
        have hx1 := (Option.some.inj hx1).symm
        subst hx1
        rw [wv_len] at hi
        have hc : row[i]? = some row[i] := List.getElem?_eq_getElem hi
        have hy1 := hy1.symm.trans (wv_at hc)
        have hy1 := Option.some.inj hy1
        subst hy1
        have hgd : row.getD i 0 = row[i] := by rw [List.getD_eq_getElem?_getD, hc]; rfl
        have s3 : Same H (upd H2 Tp (.tup [.int (i : Int), .int row[i]])) := Same.trans s2 (Same.new nT)
        refine ⟨Tp, _, rfl, SqT.of upd_same, rfl, _, _, rfl, _, _, rfl, rfl, ?_⟩
        have hT3 := sqT_same hT s3
        generalize upd H2 Tp (.tup [.int (i : Int), .int row[i]]) = H4 at s3 hT3 ⊢
        -- is_single
        have t1 : ∀ Q' : VK, Q' (.bl (decide (row.getD i 0 ≠ 32) || (decide (0 < i) && (decide (i + 1 < row.length) && decide (row.getD (i - 1) 0 ≠ 32))))) H4 →
            tOrV (tOp rNe (tVar 3) (tC (.int 32))) (tAndV (tChain (rI0 fun i j => .bl (decide (i < j))) (rI0 fun i j => .bl (decide (i < j))) (tC (.int 0)) (tVar 2) (tOp (rI0 fun i j => .int (i - j)) (tCB (fun xs H Q => ∃ p ys, xs = [.ref p] ∧ (SqL K H p ys ∨ SqT K H p ys) ∧ Q (.int ys.length) H) (tCons (tVar 0) tNil)) (tC (.int 1))))
              (tOp rNe (tOp (rIxT K) (tVar 0) (tOp (rI0 fun i j => .int (i - j)) (tVar 2) (tC (.int 1)))) (tC (.int 32)))) [some (V.ref a), some (.int (p : Int)), some (.int (i : Int)), some (.int row[i]), v4] H4 Q' := by
          intro Q' q'
          refine ⟨_, rfl, rfl, _, rfl, ?_⟩
          rw [int_eq, ← decide_not]
          rw [hgd] at q'
          by_cases c0 : row[i] = 32
          · rw [decide_eq_false (fun z => z c0)]
            rw [decide_eq_false (fun z => z c0), Bool.false_or] at q'
            refine iteF ⟨_, rfl, _, _, rfl, rfl, _, rfl, ?_⟩
            by_cases c1 : 0 < i
            · rw [decide_eq_true (show (0 : Int) < (i : Int) by omega)]
              rw [decide_eq_true c1, Bool.true_and] at q'
              refine iteT ⟨_, rfl, a, _, rfl, .inr hT3, _, _, rfl, rfl, _, _, rfl, rfl, _, rfl, ?_⟩
              rw [wv_len]
              by_cases c2 : i + 1 < row.length
              · rw [decide_eq_true (show (i : Int) < (row.length : Int) - 1 by omega)]
                rw [decide_eq_true c2, Bool.true_and] at q'
                have hc1 : row[i - 1]? = some row[i - 1] := List.getElem?_eq_getElem (by omega)
                have hg1 : row.getD (i - 1) 0 = row[i - 1] := by rw [List.getD_eq_getElem?_getD, hc1]; rfl
                rw [hg1] at q'
                refine iteT ⟨_, rfl, _, rfl, _, _, rfl, rfl, a, _, _, .int row[i - 1], rfl, rfl, hT3, ?_, rfl, ?_⟩
                · rw [show ((i : Int) - 1) = ((i - 1 : Nat) : Int) by omega]
                  exact atI_nat (wv_at hc1)
                · rw [int_eq, ← decide_not]
                  exact q'
              · rw [decide_eq_false (show ¬ (i : Int) < (row.length : Int) - 1 by omega)]
                rw [decide_eq_false c2] at q'
                exact iteF q'
            · rw [decide_eq_false (show ¬ (0 : Int) < (i : Int) by omega)]
              rw [decide_eq_false c1] at q'
              exact iteF ⟨_, rfl, iteF q'⟩
          · rw [decide_eq_true c0]
            rw [decide_eq_true c0, Bool.true_or] at q'
            exact iteT q'
        refine t1 _ ?_
        have hbo : MR.byteOk row i = ((decide (32 ≤ row[i]) && decide (row[i] ≤ 126)) && (decide (row.getD i 0 ≠ 32) || (decide (0 < i) && (decide (i + 1 < row.length) && decide (row.getD (i - 1) 0 ≠ 32))))) := by
          unfold MR.byteOk
          rw [hgd]
        generalize (decide (row.getD i 0 ≠ 32) || (decide (0 < i) && (decide (i + 1 < row.length) && decide (row.getD (i - 1) 0 ≠ 32)))) = sg at hbo ⊢
        have t2 : ∀ Q' : VK, Q' (.bl (MR.byteOk row i)) H4 →
            tAndV (tChain (rI0 fun i j => .bl (decide (i ≤ j))) (rI0 fun i j => .bl (decide (i ≤ j))) (tC (.int 32)) (tVar 3) (tC (.int 126))) (tVar 4) [some (V.ref a), some (.int (p : Int)), some (.int (i : Int)), some (.int row[i]), some (.bl sg)] H4 Q' := by
          intro Q' q'
          rw [hbo] at q'
          refine ⟨_, rfl, _, _, rfl, rfl, _, rfl, ?_⟩
          cases c1 : decide (32 ≤ row[i]) with
          | false => rw [c1] at q'; exact iteF ⟨_, rfl, iteF q'⟩
          | true =>
            rw [c1] at q'
            refine iteT ⟨_, _, rfl, rfl, _, rfl, ?_⟩
            cases c2 : decide (row[i] ≤ 126) with
            | false => rw [c2] at q'; exact iteF q'
            | true => rw [c2] at q'; exact iteT ⟨_, rfl, q'⟩
        refine t2 _ ⟨_, rfl, _, rfl, _, _, rfl, rfl, _, 2, _, rfl, fun hb2 => ?_, fun hb2 => ?_⟩
        · refine ⟨_, _, _, rfl, s3, fun j hj => ?_⟩
          by_cases hji : j = i
          · rw [hji]; exact hb2
          · exact hok j (by omega)
        · have := qE i (by
            rw [hbad, List.find?_range_eq_some]
            exact ⟨by rw [hb2]; rfl, List.mem_range.mpr hi, fun j hj => by rw [hok j hj]; rfl⟩)
          rw [show ((p + i : Nat) : Int) = (p : Int) + (i : Int) by omega] at this
          exact this
      · obtain ⟨v2, v3, v4, rfl, s2, hok⟩ := pp
        rw [wv_len] at hok
        refine qO ?_ H3 s2
        rw [hbad, List.find?_eq_none]
        intro i hi
        rw [hok i (List.mem_range.mp hi)]
        decide
    · have hb : ¬ (0 : Int) < ((wv row).length : Int) := of_decide_eq_false hb
      rw [wv_len] at hb
      have hne : row = [] := List.eq_nil_of_length_eq_zero (by omega)
      have := qE 0 (by unfold MR.badAt; rw [if_pos hne])
      exact this
end
end RR
namespace RR
open PySem PySem.Spec PyProof.Rows L2
section
variable {P : Program} {w : World} {K : PySem.W.Frag} {mg : Str → Option Value} {base : Heap}
theorem rd_whm (T : Tx K mg) {σ : L2.St} {H : Hp} {Q : VK} {E : XK} {i : Nat} {a lw lp lt : Addr} {e : Nat} {told : List Int} {pws : List MR.PW} {k : Nat} (hs : σ[i]? = some (some (.ref a))) (hW : WordsAt T.cWords H a lw lp lt e told pws k) (q : Q (.bl (decide (k < pws.length))) H) :
    tMeth T.cWords "has_more" (spWHasMore T.cWords) [] E (tVar i) tNil σ H Q := by
  obtain ⟨dx, h1⟩ := hW.ob
  exact ⟨_, hs, a, dx, _, rfl, h1, wF_hm _ _ _ _ _, a, lw, lp, lt, e, told, pws, k, rfl, hW, q⟩
theorem rd_wword (T : Tx K mg) {σ : L2.St} {H : Hp} {Q : VK} {E : XK} {i : Nat} {a lw lp lt : Addr} {e : Nat} {told : List Int} {pws : List MR.PW} {k : Nat} (hs : σ[i]? = some (some (.ref a))) (hW : WordsAt T.cWords H a lw lp lt e told pws k) (qE : pws[k]? = none → Ref T.cRefused E [-6, 3, (e : Int)])
    (qO : ∀ x, pws[k]? = some x → ∀ (H' : Hp) (t : Addr), WordsAt T.cWords H' a lw lp lt e told pws (k + 1) → Off a H H' → WAt H' t x.1 → x.1.length ≤ 70000 → Q (.ref t) H') :
    tMeth T.cWords "word" (spWWord T.cWords T.cRefused) [] E (tVar i) tNil σ H Q := by
  obtain ⟨dx, h1⟩ := hW.ob
  exact ⟨_, hs, a, dx, _, rfl, h1, wF_word _ _ _ _ _, a, lw, lp, lt, e, told, pws, k, rfl, hW, qE, qO⟩
theorem rd_sees (T : Tx K mg) {σ : L2.St} {H : Hp} {Q : VK} {E : XK} {i : Nat} {a lw lp lt : Addr} {e : Nat} {told : List Int} {pws : List MR.PW} {k : Nat} {s : String} (hs : σ[i]? = some (some (.ref a))) (hW : WordsAt T.cWords H a lw lp lt e told pws k) (hz : (Str.ofString s).length ≤ 1000 ∧ spz (Str.ofString s) = MR.sp s)
    (q : ∀ H', Same H H' → Q (.bl (match pws[k]? with | some x => x.1 == MR.sp s | none => false)) H') :
    tMeth T.cWords "sees" (spSees T.cWords) [] E (tVar i) (tCons (tC (.str (Str.ofString s))) tNil) σ H Q := by
  obtain ⟨dx, h1⟩ := hW.ob
  exact ⟨_, hs, a, dx, _, rfl, h1, wF_sees _ _ _ _ _, a, lw, lp, lt, e, told, pws, k, Str.ofString s, rfl, hz.1, hW, by rw [hz.2]; exact q⟩
theorem rd_runners (T : Tx K mg) {σ : L2.St} {H : Hp} {Q : VK} {E : XK} {i j : Nat} {a lw lp lt r d : Addr} {e : Nat} {told : List Int} {pws : List MR.PW} {k : Nat} {sign many : Int} (hs : σ[i]? = some (some (.ref a))) (hj : σ[j]? = some (some (.ref r))) (hW : WordsAt T.cWords H a lw lp lt e told pws k) (htl : told.length ≤ 100 * k) (nra : r ≠ a) (hr : ∃ dr, H r = some (.ins T.cRace dr (rF many d))) (hm : many ≤ 100)
    (qN : pws[k]? = none → Ref T.cRefused E [-6, 3, (e : Int)])
    (qX : ∀ x, pws[k]? = some x → (∀ f, MR.runners sign many told x = .error f → Ref T.cRefused E [-6, (f.1 : Int), (f.2 : Int)]) ∧
      ∀ ns, MR.runners sign many told x = .ok ns → ∀ (H' : Hp) (lt' nl : Addr), WordsAt T.cWords H' a lw lp lt' e (told ++ ns) pws (k + 1) → (told ++ ns).length ≤ 100 * (k + 1) → Off a H H' → H lt' = none → H nl = none → Q (.ref nl) H') :
    tMeth T.cWords "runners" (spRunners T.cWords T.cRace T.cRefused) [] E (tVar i) (tCons (tC (.int sign)) (tCons (tVar j) tNil)) σ H Q := by
  obtain ⟨dx, h1⟩ := hW.ob
  exact ⟨_, hs, a, dx, _, rfl, h1, wF_runners _ _ _ _ _, _, hj, a, lw, lp, lt, r, d, e, told, pws, k, sign, many, rfl, hW, htl, nra, hr, hm, qN, qX⟩
theorem rd_wend (T : Tx K mg) {σ : L2.St} {H : Hp} {Q : VK} {E : XK} {i : Nat} {a lw lp lt : Addr} {e : Nat} {told : List Int} {pws : List MR.PW} {k : Nat} (hs : σ[i]? = some (some (.ref a))) (hW : WordsAt T.cWords H a lw lp lt e told pws k)
    (qE : ∀ f, MR.closed (pws.drop k) = .error f → Ref T.cRefused E [-6, (f.1 : Int), (f.2 : Int)]) (qO : MR.closed (pws.drop k) = .ok () → Q .non H) :
    tMeth T.cWords "end" (spWEnd T.cWords T.cRefused) [] E (tVar i) tNil σ H Q := by
  obtain ⟨dx, h1⟩ := hW.ob
  exact ⟨_, hs, a, dx, _, rfl, h1, wF_end _ _ _ _ _, a, lw, lp, lt, e, told, pws, k, rfl, hW, qE, qO⟩
def spReadCame (C CRc CR : Addr) : Sp := fun vs H Q E => ∃ (a lw lp lt r d : Addr) (e : Nat) (pws : List MR.PW) (k : Nat) (many : Int), vs = [.ref a, .ref r] ∧ WordsAt C H a lw lp lt e [] pws k ∧ r ≠ a ∧ (∃ dr, H r = some (.ins CRc dr (rF many d))) ∧ many ≤ 100 ∧
  (∀ f, MR.readCame e many (pws.drop k) = .error f → Ref CR E [-6, (f.1 : Int), (f.2 : Int)]) ∧
  (MR.readCame e many (pws.drop k) = .ok () → ∀ (H' : Hp) (o : Addr), Off a H H' → Q (.ref o) H')
theorem ok_read_came (T : Tx K mg) : FnOk P w K mg base (L2.CX P w) 7 T.f_read_came T.d_read_came ["words", "race"] (spReadCame T.cWords T.cRace T.cRefused) := by
  have GO : FnOk P w K mg base CX0 1 T.f_outcome_init T.d_outcome_init ["self", "state"] (spOutcomeInit T.cOutcome) := ok_outcome_init T
  have GW : FnOk P w K mg base (L2.CX P w) 5 T.f_words_word T.d_words_word ["self"] (spWWord T.cWords T.cRefused) := ok_wword T
  have GH : FnOk P w K mg base CX0 1 T.f_words_has_more T.d_words_has_more ["self"] (spWHasMore T.cWords) := ok_whas_more T
  have GS : FnOk P w K mg base CX0 2 T.f_words_sees T.d_words_sees ["self", "text"] (spSees T.cWords) := ok_sees T
  have GR : FnOk P w K mg base (L2.CX P w) 6 T.f_words_runners T.d_words_runners ["self", "sign", "race"] (spRunners T.cWords T.cRace T.cRefused) := ok_runners T
  have GE : FnOk P w K mg base (L2.CX P w) 5 T.f_words_end T.d_words_end ["self"] (spWEnd T.cWords T.cRefused) := ok_wend T
  refine T.read_came.me.F.okX sc_read_came (fun vs H Q E h => ?_) (fun cdv A outer s H vs Q E hr h => ⟨_,
    pss_cons (ps_set (i := 2) sc_read_came.nd rfl (Or.inl rfl) (pe_make T.mk_Outcome GO (hr.mono (by decide)) rfl T.g_cOutcome T.outcome_init.b .nil pass0 (by exact (pa_cons (pe_k rfl T.g_CAME) pa_nil))))
    (pss_cons (ps_expr (pe_bm PySem.F.plainAttrs_list PySem.F.slot_list_append PySem.F.type_list_append mt_append (pe_fld (pv 2) rfl) (pa_cons (pe_meth (pv 0) T.k_cWords T.m_words_runners GR hr T.words_runners.b .nil (psx (E := E) (takes_of rfl rfl rfl rfl)) (by exact (pa_cons (pe_k rfl T.g_EQUAL) (pa_cons (pv 1) pa_nil)))) pa_nil)))
    (pss_cons (ps_while (passes_of rfl) (PW.pt (pw_and (pt_val (pe_meth0 (pv 0) T.k_cWords T.m_words_has_more GH (hr.mono (by decide)) T.words_has_more.b .nil pass0)) (pw_and1 (pt_not (pt_val (pe_meth (pv 0) T.k_cWords T.m_words_sees GS (hr.mono (by decide)) T.words_sees.b .nil pass0 (by exact (pa_cons pe_str pa_nil))))))))
      (pss_one (ps_expr (pe_bm PySem.F.plainAttrs_list PySem.F.slot_list_append PySem.F.type_list_append mt_append (pe_fld (pv 2) rfl) (pa_cons (pe_meth (pv 0) T.k_cWords T.m_words_runners GR hr T.words_runners.b .nil (psx (E := E) (takes_of rfl rfl rfl rfl)) (by exact (pa_cons (pe_k rfl T.g_EQUAL) (pa_cons (pv 1) pa_nil)))) pa_nil)))))
    (pss_cons (ps_if (pt_val (pe_meth0 (pv 0) T.k_cWords T.m_words_has_more GH (hr.mono (by decide)) T.words_has_more.b .nil pass0))
      (pss_cons (ps_expr (pe_meth0 (pv 0) T.k_cWords T.m_words_word GW (hr.mono (by decide)) T.words_word.b .nil (psx (E := E) (takes_of rfl rfl rfl rfl))))
      (pss_one (ps_fld (pv 2) (pe_meth (pv 0) T.k_cWords T.m_words_runners GR hr T.words_runners.b .nil (psx (E := E) (takes_of rfl rfl rfl rfl)) (by exact (pa_cons (pe_k rfl T.g_COMMA) (pa_cons (pv 1) pa_nil)))) rfl))) pss_nil)
    (pss_cons (ps_expr (pe_meth0 (pv 0) T.k_cWords T.m_words_end GE (hr.mono (by decide)) T.words_end.b .nil (psx (E := E) (takes_of rfl rfl rfl rfl))))
    (pss_one (ps_ret (pv 2))))))), ?_⟩)
  · obtain ⟨a, lw, lp, lt, r, d, e, pws, k, many, rfl, _⟩ := h; rfl
  · obtain ⟨a, lw, lp, lt, r, d, e, pws, k, many, rfl, hW, nra, ⟨dr, hr0⟩, hm, qE, qO⟩ := h
    obtain ⟨dx, h1⟩ := hW.ob
    -- found = Outcome(CAME)
    intro o dxo no ndxo neo
    refine ⟨o, dxo, 1, rfl, upd_same, fun H1 g oo ho hg off1 ng => ⟨rfl, ?_⟩⟩
    have s01 : Same H H1 := Same.made no ndxo off1
    have ng0 := NdefX.upd_none (NdefX.upd_none ng)
    obtain ⟨dxo1, ho⟩ := ho
    have hW1 := hW.same s01
    have hr1 := s01 _ _ hr0
    have noa : o ≠ a := fun z => by rw [z, h1] at no; cases no
    have nga : g ≠ a := fun z => by rw [z, h1] at ng0; cases ng0
    -- found.groups.append(words.runners(EQUAL, race)), any time
    have more : ∀ {H2 : Hp} {D : Ends} {lt2 : Addr} {told : List Int} {k2 : Nat} {gs : List V}, WordsAt T.cWords H2 a lw lp lt2 e told pws k2 → told.length ≤ 100 * k2 → (∃ dr, H2 r = some (.ins T.cRace dr (rF many d))) → H2 o = some (.ins T.cOutcome dxo1 (oF 1 g oo)) → H2 g = some (.lst gs) → gs.length ≤ k2 →
        (g ≠ lt2 ∧ g ≠ lw ∧ g ≠ lp) → (pws[k2]? = none → Ref T.cRefused E [-6, 3, (e : Int)]) →
        (∀ x, pws[k2]? = some x → (∀ f, MR.runners 61 many told x = .error f → Ref T.cRefused E [-6, (f.1 : Int), (f.2 : Int)]) ∧
          ∀ ns, MR.runners 61 many told x = .ok ns → ∀ (H3 : Hp) (lt3 : Addr) (gs3 : List V), WordsAt T.cWords H3 a lw lp lt3 e (told ++ ns) pws (k2 + 1) → (told ++ ns).length ≤ 100 * (k2 + 1) → H3 o = some (.ins T.cOutcome dxo1 (oF 1 g oo)) → H3 g = some (.lst gs3) → gs3.length ≤ k2 + 1 → (g ≠ lt3 ∧ g ≠ lw ∧ g ≠ lp) →
            (∀ b u, H2 b = some u → b ≠ a → b ≠ g → H3 b = some u) → D.nx [some (.ref a), some (.ref r), some (.ref o)] H3) →
        tDrop (tBM K "list" rAppend (tFld K (tVar 2) "groups") (tCons (tMeth T.cWords "runners" (spRunners T.cWords T.cRace T.cRefused) [] E (tVar 0) (tCons (tC (.int 61)) (tCons (tVar 1) tNil))) tNil)) D [some (.ref a), some (.ref r), some (.ref o)] H2 := by
      intro H2 D lt2 told k2 gs hW2 htl hr2 ho2 hg2 hgl ngs qN qX
      refine ⟨_, rfl, o, _, dxo1, _, _, rfl, ho2, T.k_cOutcome, T.n_Outcome_groups, oF_groups _ _ _, .inl ⟨rfl, _, SqL.of hg2⟩, ?_⟩
      refine rd_runners T rfl rfl hW2 htl nra hr2 hm qN fun x hx => ⟨(qX x hx).1, fun ns hns H3 lt3 nl hW3 htl3 o3 nlt3 nnl => ?_⟩
      have hg3 := o3 _ _ hg2 nga
      have hk2 : k2 ≤ 70000 := Nat.le_trans hW2.sz.1 hW2.sz.2.1
      have ngt3 : g ≠ lt3 := fun z => by rw [z, nlt3] at hg2; cases hg2
      refine ⟨g, _, _, rfl, rfl, hg3, szl (by omega), (qX x hx).2 ns hns _ lt3 (gs ++ [V.ref nl]) (hW3.keep fun b u hb z => ?_) htl3 ?_ upd_same ?_ ⟨ngt3, ngs.2⟩ fun b u hb hba hbg => ?_⟩
      · rw [upd_ne]
        · exact hb
        · rcases z with rfl | rfl | rfl | rfl | ⟨xs, rfl⟩
          · exact Ne.symm nga
          · exact Ne.symm ngs.2.1
          · exact Ne.symm ngs.2.2
          · exact Ne.symm ngt3
          · exact ne_of hb hg3 (fun z => by cases z)
      · rw [upd_ne (ne_of (o3 _ _ ho2 noa) hg3 (fun z => by cases z))]
        exact o3 _ _ ho2 noa
      · rw [List.length_append]; show gs.length + 1 ≤ k2 + 1; omega
      · rw [upd_ne hbg]
        exact o3 _ _ hb hba
    have ngw : g ≠ lt ∧ g ≠ lw ∧ g ≠ lp := by
      obtain ⟨as, f1, _⟩ := hW.fw
      exact ⟨(fun z => by rw [z, hW.ft] at ng0; cases ng0), (fun z => by rw [z, f1] at ng0; cases ng0), (fun z => by rw [z, hW.fp] at ng0; cases ng0)⟩
    refine more (gs := []) hW1 (Nat.zero_le _) ⟨dr, hr1⟩ ho hg (Nat.zero_le _) ngw (fun hn => qE (3, e) (by rw [List.drop_eq_nil_of_le (List.getElem?_eq_none_iff.mp hn)]; rfl)) fun x hx => ?_
    have hdrop := drop_more hx
    have hcame : MR.readCame e many (pws.drop k) = match MR.runners 61 many [] x with | .error f => .error f | .ok ns => MR.groups e many ns (pws.drop (k + 1)) := by rw [hdrop]; rfl
    refine ⟨fun f hf => qE f (by rw [hcame, hf]), fun ns hns H2 lt2 gs2 hW2 htl2 ho2 hg2 hgl2 ngs2 fr2 => ?_⟩
    rw [hns] at hcame
    have hcame : MR.readCame e many (pws.drop k) = MR.groups e many ns (pws.drop (k + 1)) := hcame
    rw [hcame] at qE qO
    have off2 : Off a H H2 := fun b u hb hba => fr2 _ _ (s01 _ _ hb) hba (ne_of_none hb ng0)
    -- the groups
    refine ⟨fun m σ H' => ∃ (k' : Nat) (told : List Int) (lt' : Addr) (gs : List V), σ = [some (.ref a), some (.ref r), some (.ref o)] ∧ m = pws.length - k' ∧ WordsAt T.cWords H' a lw lp lt' e told pws k' ∧ told.length ≤ 100 * k' ∧ H' o = some (.ins T.cOutcome dxo1 (oF 1 g oo)) ∧ H' g = some (.lst gs) ∧ gs.length ≤ k' ∧ (g ≠ lt' ∧ g ≠ lw ∧ g ≠ lp) ∧ Off a H H' ∧
        MR.groups e many ns (pws.drop (k + 1)) = MR.groups e many told (pws.drop k'), ⟨_, k + 1, ns, lt2, gs2, rfl, rfl, hW2, htl2, ho2, hg2, hgl2, ngs2, off2, rfl⟩, ?_⟩
    rintro m σ H3 ⟨k', told, lt', gs, rfl, rfl, hW3, htl3, ho3, hg3, hgl3, ngs3, off3, heq⟩
    have hr3 : ∃ dr, H3 r = some (.ins T.cRace dr (rF many d)) := ⟨dr, off3 _ _ hr0 nra⟩
    rw [heq] at qE qO
    -- behind the loop, with an out
    refine rd_whm T rfl hW3 ⟨_, rfl, ?_⟩
    cases hx3 : pws[k']? with
    | none =>
      -- no more
      have hk3 := List.getElem?_eq_none_iff.mp hx3
      have hnil : pws.drop k' = [] := List.drop_eq_nil_of_le hk3
      rw [hnil] at qE qO
      rw [decide_eq_false (Nat.not_lt.mpr hk3)]
      refine iteF (iteF ?_)
      refine rd_whm T rfl hW3 ⟨_, rfl, ?_⟩
      rw [decide_eq_false (Nat.not_lt.mpr hk3)]
      refine iteF (rd_wend T rfl hW3 (fun f hf => ?_) fun _ => ⟨_, rfl, qO rfl H3 o off3⟩)
      rw [hnil] at hf
      cases hf
    | some x3 =>
      obtain ⟨hk3, _⟩ := List.getElem?_eq_some_iff.mp hx3
      have hdrop3 := drop_more hx3
      rw [decide_eq_true hk3]
      refine iteT (rd_sees T rfl hW3 ⟨by decide, by decide +kernel⟩ fun H4 s4 => ⟨_, rfl, ?_⟩)
      have hW4 := hW3.same s4
      have off4 := Off.trans off3 (Off.of s4)
      have hr4 : ∃ dr, H4 r = some (.ins T.cRace dr (rF many d)) := ⟨dr, off4 _ _ hr0 nra⟩
      have ho4 := s4 _ _ ho3
      have hg4 := s4 _ _ hg3
      rw [hx3]
      have hgr : MR.groups e many told (pws.drop k') = if x3.1 = MR.sp "out" then MR.outs e many told (pws.drop (k' + 1)) else match MR.runners 61 many told x3 with | .error f => .error f | .ok ns => MR.groups e many (told ++ ns) (pws.drop (k' + 1)) := by rw [hdrop3]; rfl
      cases hb : (x3.1 == MR.sp "out") with
      | true =>
        -- out
        rw [if_pos (eq_of_beq hb)] at hgr
        rw [hgr] at qE qO
        show if (!(x3.1 == MR.sp "out")) = true then _ else _
        rw [hb]
        refine iteF (rd_whm T rfl hW4 ⟨_, rfl, ?_⟩)
        rw [decide_eq_true hk3]
        refine iteT (rd_wword T rfl hW4 (fun hn => by rw [hx3] at hn; cases hn) fun x5 _ H5 t5 hW5 o5 _ _ => ?_)
        have off5 := Off.trans off4 o5
        have ho5 := o5 _ _ ho4 noa
        have hr5 : ∃ dr, H5 r = some (.ins T.cRace dr (rF many d)) := ⟨dr, off5 _ _ hr0 nra⟩
        refine rd_runners T rfl rfl hW5 (Nat.le_trans htl3 (by omega)) nra hr5 hm (fun hn => qE (3, e) (by rw [List.drop_eq_nil_of_le (List.getElem?_eq_none_iff.mp hn)]; rfl)) fun x6 hx6 => ?_
        have hdrop6 := drop_more hx6
        have hou : MR.outs e many told (pws.drop (k' + 1)) = match MR.runners 44 many told x6 with | .error f => .error f | .ok _ => MR.closed (pws.drop (k' + 1 + 1)) := by rw [hdrop6]; rfl
        refine ⟨fun f hf => qE f (by rw [hou, hf]), fun ns6 hns6 H6 lt6 nl hW6 htl6 o6 _ _ => ?_⟩
        rw [hns6] at hou
        have hou : MR.outs e many told (pws.drop (k' + 1)) = MR.closed (pws.drop (k' + 1 + 1)) := hou
        rw [hou] at qE qO
        have ho6 := o6 _ _ ho5 noa
        refine ⟨_, rfl, o, T.cOutcome, dxo1, _, rfl, ho6, T.k_cOutcome, T.n_Outcome_out, (by show 3 < 1000; decide), ?_⟩
        have hW7 : WordsAt T.cWords (upd H6 o (.ins T.cOutcome dxo1 (putF "out" (.ref nl) (oF 1 g oo)))) a lw lp lt6 e (told ++ ns6) pws (k' + 1 + 1) := by
          obtain ⟨as, f1, _⟩ := hW6.fw
          refine hW6.keep fun b u hb z => ?_
          rw [upd_ne]
          · exact hb
          · rcases z with rfl | rfl | rfl | rfl | ⟨xs, rfl⟩
            · exact Ne.symm noa
            · exact ne_of f1 ho6 (fun z => by cases z)
            · exact ne_of hW6.fp ho6 (fun z => by cases z)
            · exact ne_of hW6.ft ho6 (fun z => by cases z)
            · exact ne_of hb ho6 (fun z => by cases z)
        refine rd_wend T rfl hW7 qE fun hok => ⟨_, rfl, qO hok _ o fun b u hb hba => ?_⟩
        rw [upd_ne (ne_of_none hb no)]
        exact o6 _ _ (off5 _ _ hb hba) hba
      | false =>
        -- a group more
        rw [if_neg (fun z => by rw [z, beq_self_eq_true] at hb; cases hb)] at hgr
        rw [hgr] at qE qO
        show if (!(x3.1 == MR.sp "out")) = true then _ else _
        rw [hb]
        refine iteT ⟨fun σ' H' => ∃ m', m' < pws.length - k' ∧ ∃ (k' : Nat) (told : List Int) (lt' : Addr) (gs : List V), σ' = [some (.ref a), some (.ref r), some (.ref o)] ∧ m' = pws.length - k' ∧ WordsAt T.cWords H' a lw lp lt' e told pws k' ∧ told.length ≤ 100 * k' ∧ H' o = some (.ins T.cOutcome dxo1 (oF 1 g oo)) ∧ H' g = some (.lst gs) ∧ gs.length ≤ k' ∧ (g ≠ lt' ∧ g ≠ lw ∧ g ≠ lp) ∧ Off a H H' ∧
          MR.groups e many ns (pws.drop (k + 1)) = MR.groups e many told (pws.drop k'), fun _ _ q => q, ?_⟩
        refine more hW4 htl3 hr4 ho4 hg4 hgl3 ngs3 (fun hn => by rw [hx3] at hn; cases hn) fun x5 hx5 => ?_
        rw [hx3] at hx5
        have hx5 := Option.some.inj hx5
        subst hx5
        refine ⟨fun f hf => qE f (by rw [hf]), fun ns5 hns5 H5 lt5 gs5 hW5 htl5 ho5 hg5 hgl5 ngs5 fr5 => ?_⟩
        rw [hns5] at hgr
        refine ⟨pws.length - (k' + 1), by omega, k' + 1, told ++ ns5, lt5, gs5, rfl, rfl, hW5, htl5, ho5, hg5, hgl5, ngs5, fun b u hb hba => fr5 _ _ (off4 _ _ hb hba) hba (ne_of_none hb ng0), heq.trans hgr⟩
end
end RR
namespace RR
open PySem PySem.Spec PyProof.Rows L2
/-- at d: a dict of the numbers found -/
def FAt (H : Hp) (d : Addr) (fd : List Int) : Prop := ∃ kvs : List (Key × V), H d = some (.dK kvs) ∧ kvs.map Prod.fst = fd.map fun n => (Sum.inl n : Key)
theorem FAt.len {kvs : List (Key × V)} {fd : List Int} (h : kvs.map Prod.fst = fd.map fun n => (Sum.inl n : Key)) : kvs.length = fd.length := by
  have := congrArg List.length h
  rwa [List.length_map, List.length_map] at this
theorem FAt.put {kvs : List (Key × V)} {fd : List Int} {n : Int} {v : V} (h : kvs.map Prod.fst = fd.map fun n => (Sum.inl n : Key)) (hn : (fd.all fun b => decide (b < n)) = true) : putK kvs (Sum.inl n) v = kvs ++ [(Sum.inl n, v)] := by
  unfold putK
  have : (kvs.any fun kv => decide (kv.1 = Sum.inl n)) = false := by
    rw [List.any_eq_false]
    intro kv hkv z
    have z := of_decide_eq_true z
    have h1 : kv.1 ∈ fd.map fun n => (Sum.inl n : Key) := by rw [← h]; exact List.mem_map_of_mem hkv
    obtain ⟨b, hb, e⟩ := List.mem_map.mp h1
    have := of_decide_eq_true (List.all_eq_true.mp hn b hb)
    rw [z] at e
    have e := Sum.inl.inj e
    omega
  rw [this, if_neg Bool.false_ne_true]
section
variable {P : Program} {w : World} {K : PySem.W.Frag} {mg : Str → Option Value} {base : Heap}
theorem rd_wchoice (T : Tx K mg) {σ : L2.St} {H : Hp} {Q : VK} {E : XK} {i : Nat} {a lw lp lt : Addr} {e : Nat} {told : List Int} {pws : List MR.PW} {k : Nat} {zs : List Str} {ts : List W} {ta : TE} (hs : σ[i]? = some (some (.ref a))) (hW : WordsAt T.cWords H a lw lp lt e told pws k)
    (hta : ∀ Q' : VK, (∀ tp H1, Same H H1 → SqT K H1 tp (zs.map V.str) → Q' (.ref tp) H1) → ta σ H Q') (hz1 : zs.length ≤ 100) (hz2 : ∀ z ∈ zs, z.length ≤ 1000) (hts : zs.map spz = ts)
    (qE : ∀ f, MR.choiceR e ts (pws.drop k) = .error f → Ref T.cRefused E [-6, (f.1 : Int), (f.2 : Int)])
    (qO : ∀ i r, MR.choiceR e ts (pws.drop k) = .ok (i, r) → r = pws.drop (k + 1) → ∀ H' : Hp, WordsAt T.cWords H' a lw lp lt e told pws (k + 1) → Off a H H' → Q (.int (i : Int)) H') :
    tMeth T.cWords "choice" (spWChoice K T.cWords T.cRefused) [] E (tVar i) (tCons ta tNil) σ H Q := by
  obtain ⟨dx, h1⟩ := hW.ob
  subst hts
  exact ⟨_, hs, a, dx, _, rfl, h1, wF_choice _ _ _ _ _, hta _ fun tp H1 s1 hT => ⟨a, lw, lp, lt, tp, e, told, pws, k, zs, rfl, hT, hz1, hz2, hW.same s1, qE, fun i r e1 e2 H' hW' o' => qO i r e1 e2 H' hW' (Off.trans (Off.of s1) o')⟩⟩
def spReadLine (C CC CRc CR : Addr) : Sp := fun vs H Q E => ∃ (c lr lp dn d a lw lpp lt : Addr) (ra : List (Addr × Addr)) (M : MR.Card) (fd : List Int) (e : Nat) (pws : List MR.PW), vs = [.ref c, .ref d, .ref a] ∧ CardAt CC CRc H c lr lp dn ra M ∧ FAt H d fd ∧ fd.length ≤ 70000 ∧ WordsAt C H a lw lpp lt e [] pws 0 ∧ c ≠ a ∧ (∀ x ∈ ra, x.1 ≠ a) ∧
  (∀ f, MR.lineR M.races fd e pws = .error f → Ref CR E [-6, (f.1 : Int), (f.2 : Int)]) ∧
  (∀ fd', MR.lineR M.races fd e pws = .ok fd' → fd'.length = fd.length + 1 → ∀ H' : Hp, FAt H' d fd' → (∀ b o, H b = some o → b ≠ a → b ≠ d → H' b = some o) → Q .non H')
theorem ok_read_line (T : Tx K mg) : FnOk P w K mg base (L2.CX P w) 8 T.f_read_line T.d_read_line ["card", "found", "words"] (spReadLine T.cWords T.cCard T.cRace T.cRefused) := by
  have G : FnOk P w K mg base (L2.CX P w) 4 T.f_need_outcomes T.d_need_outcomes ["is_so", "kind", "place"] (spNeedO T.cRefused) := ok_need_outcomes T
  have GC : FnOk P w K mg base (L2.CX P w) 6 T.f_words_choice T.d_words_choice ["self", "texts"] (spWChoice K T.cWords T.cRefused) := ok_wchoice T
  have GW : FnOk P w K mg base (L2.CX P w) 5 T.f_words_word T.d_words_word ["self"] (spWWord T.cWords T.cRefused) := ok_wword T
  have GN : FnOk P w K mg base CX0 2 T.f_number_of T.d_number_of ["word"] spNumberOf := ok_number_of T
  have GPl : FnOk P w K mg base CX0 1 T.f_words_place T.d_words_place ["self"] (spWPlace T.cWords) := ok_wplace T
  have GE : FnOk P w K mg base (L2.CX P w) 5 T.f_words_end T.d_words_end ["self"] (spWEnd T.cWords T.cRefused) := ok_wend T
  have GO : FnOk P w K mg base CX0 1 T.f_outcome_init T.d_outcome_init ["self", "state"] (spOutcomeInit T.cOutcome) := ok_outcome_init T
  have GA : FnOk P w K mg base CX0 1 T.f_card_race_at T.d_card_race_at ["self", "number"] (spRaceAt T.cCard T.cRace) := ok_race_at T
  have GCa : FnOk P w K mg base (L2.CX P w) 7 T.f_read_came T.d_read_came ["words", "race"] (spReadCame T.cWords T.cRace T.cRefused) := ok_read_came T
  refine T.read_line.me.F.okX sc_read_line (fun vs H Q E h => ?_) (fun cdv A outer s H vs Q E hr h => ⟨_,
    pss_cons (ps_expr (pe_meth (pv 2) T.k_cWords T.m_words_choice GC (hr.mono (by decide)) T.words_choice.b .nil (psx (E := E) (takes_of rfl rfl rfl rfl)) (by exact (pa_cons (pe_tup (pa_cons pe_str pa_nil)) pa_nil))))
    (pss_cons (ps_set (i := 3) sc_read_line.nd rfl (Or.inr rfl) (pe_call GN (hr.mono (by decide)) rfl T.number_of.g T.number_of.me.F.kp T.number_of.me.b .nil pass0 (by exact (pa_cons (pe_meth0 (pv 2) T.k_cWords T.m_words_word GW (hr.mono (by decide)) T.words_word.b .nil (psx (E := E) (takes_of rfl rfl rfl rfl))) pa_nil))))
    (pss_cons (ps_expr (pe_call G (hr.mono (by decide)) rfl T.need_outcomes.g T.need_outcomes.me.F.kp T.need_outcomes.me.b .nil (psx (E := E) (takes_of rfl rfl rfl rfl)) (by exact (pa_cons (pe_and (pe_chain op_le op_le pe_int (pv 3) (pe_callB call_len_seq (by rfl) T.z_len PySem.boot_len (pa_cons (pe_fld (pv 0) rfl) pa_nil)))
      (pe_one (pe_callB (cr_all rfl) (by rfl) T.z_all (by decide +kernel) (pa_cons (pe_lock (pe_lc (own := [("before", 4)]) (g := gName 4) (tt := tYes) (te := tOp (rI0 fun i j => .bl (decide (i > j))) (tVar 3) (tVar 4)) rfl sc_read_line.nd (pi_keys (pv 1))
        (blkOk_by (own := [("before", 4)]) (N := ["card", "found", "words", "number", "before"]) (sc := defScope s_read_line) (by decide +kernel)) (fun _ _ _ _ _ => pg_name (i := 4) sc_read_line.nd rfl (Or.inl rfl)) (fun _ _ _ _ _ => pts_nil)
        (fun _ _ _ _ _ => pe_cmpR op_gt (pv 3) (pv 4) (nomark _)))) pa_nil)))) (pa_cons (pe_k rfl T.g_BAD_NUMBER) (pa_cons (pe_meth0 (pv 2) T.k_cWords T.m_words_place GPl (hr.mono (by decide)) T.words_place.b .nil pass0) pa_nil))))))
    (pss_one (ps_if (pt_cmpR op_eq (pe_meth (pv 2) T.k_cWords T.m_words_choice GC (hr.mono (by decide)) T.words_choice.b .nil (psx (E := E) (takes_of rfl rfl rfl rfl)) (by exact (pa_cons (pe_tup (pa_cons pe_str (pa_cons pe_str pa_nil))) pa_nil))) pe_int (nomark _))
      (pss_cons (ps_expr (pe_meth0 (pv 2) T.k_cWords T.m_words_end GE (hr.mono (by decide)) T.words_end.b .nil (psx (E := E) (takes_of rfl rfl rfl rfl))))
      (pss_one (ps_dput (hu_of hr) (pv 1) (pv 3) (pe_make T.mk_Outcome GO (hr.mono (by decide)) rfl T.g_cOutcome T.outcome_init.b .nil pass0 (by exact (pa_cons (pe_k rfl T.g_VOID) pa_nil))) rfl)))
      (pss_one (ps_dput (hu_of hr) (pv 1) (pv 3) (pe_call GCa hr rfl T.read_came.g T.read_came.me.F.kp T.read_came.me.b .nil (psx (E := E) (takes_of rfl rfl rfl rfl)) (by exact (pa_cons (pv 2) (pa_cons (pe_meth (pv 0) T.k_cCard T.m_card_race_at GA (hr.mono (by decide)) T.card_race_at.b .nil pass0 (by exact (pa_cons (pv 3) pa_nil))) pa_nil)))) rfl)))))), ?_⟩)
  · obtain ⟨c, lr, lp, dn, d, a, lw, lpp, lt, ra, M, fd, e, pws, rfl, _⟩ := h; rfl
  · obtain ⟨c, lr, lp, dn, d, a, lw, lpp, lt, ra, M, fd, e, pws, rfl, hC, hF, hfl, hW, nca, nra, qE, qO⟩ := h
    obtain ⟨da, ha⟩ := hW.ob
    have nda : d ≠ a := by obtain ⟨kvs, h1, _⟩ := hF; exact ne_of h1 ha (fun z => by cases z)
    unfold MR.lineR at qE qO
    -- words.choice(("race",))
    refine rd_wchoice (zs := ["race"]) (ts := [MR.sp "race"]) T rfl hW (fun Q' q' => ⟨by show 1 ≤ sizeLine; decide, fun p hp => q' p _ (Same.new hp) (SqT.of upd_same)⟩) (by decide) (by decide) (by decide +kernel) (fun f hf => qE f (by rw [List.drop_zero] at hf; rw [hf])) fun i1 r1 e1 er1 H1 hW1 o1 => ?_
    subst er1
    rw [List.drop_zero] at e1
    rw [e1] at qE
    simp only [e1] at qO
    have qE : ∀ f, (match MR.wordR e (pws.drop (0 + 1)) with
      | .error f => .error f
      | .ok y => if ((decide (1 ≤ MR.numberOf y.1.1) && decide (MR.numberOf y.1.1 ≤ (M.races.length : Int))) && fd.all fun b => decide (b < MR.numberOf y.1.1)) = true then
          match MR.choiceR e [MR.sp "void", MR.sp "came"] y.2 with
          | .error f => .error f
          | .ok z => match (if z.1 = 0 then MR.closed z.2 else MR.readCame e (MR.raceAt M.races (MR.numberOf y.1.1)).many z.2) with
            | .error f => .error f
            | .ok _ => .ok (fd ++ [MR.numberOf y.1.1])
        else .error (4, y.1.2) : Except MR.F (List Int)) = .error f → Ref T.cRefused E [-6, (f.1 : Int), (f.2 : Int)] := qE
    -- the number
    refine rd_wword T rfl hW1 (fun hn => qE (3, e) (by rw [List.drop_eq_nil_of_le (List.getElem?_eq_none_iff.mp hn)]; rfl)) fun x hx H2 t hW2 o2 ht hv => ?_
    have hdrop := drop_more hx
    have hwr : MR.wordR e (pws.drop (0 + 1)) = .ok (x, pws.drop (0 + 1 + 1)) := by rw [hdrop]; rfl
    rw [hwr] at qE
    simp only [hwr] at qO
    refine ⟨t, x.1, rfl, ht, hv, fun H3 s3 => ?_⟩
    have hW3 := hW2.same s3
    have o03 : Off a H H3 := Off.trans o1 (Off.trans o2 (Off.of s3))
    have hC3 := hC.off o03 ha nca nra
    obtain ⟨kvs, hd, hk⟩ := hF
    have hd3 := o03 _ _ hd nda
    have hkl := FAt.len hk
    obtain ⟨dc3, hc3⟩ := hC3.ob
    have hrl := Paired.len hC3.rs
    generalize hnn : MR.numberOf x.1 = n at qE qO ⊢
    -- the test
    have tst : ∀ Q' : VK, (∀ H', Same H3 H' → Q' (.bl ((decide (1 ≤ n) && decide (n ≤ (M.races.length : Int))) && fd.all fun b => decide (b < n))) H') →
        tAndV (tChain (rI0 fun i j => .bl (decide (i ≤ j))) (rI0 fun i j => .bl (decide (i ≤ j))) (tC (.int 1)) (tVar 3) (tCB (fun xs H Q => ∃ p ys, xs = [.ref p] ∧ (SqL K H p ys ∨ SqT K H p ys) ∧ Q (.int ys.length) H) (tCons (tFld K (tVar 0) "races") tNil)))
          (tCB (rAll K) (tCons (tLockE (tLc (iKeys (tVar 1)) (gName 4) tYes (tOp (rI0 fun i j => .bl (decide (i > j))) (tVar 3) (tVar 4)) [4])) tNil)) [some (V.ref c), some (.ref d), some (.ref a), some (.int n), none] H3 Q' := by
      intro Q' q'
      refine ⟨_, rfl, _, _, rfl, rfl, _, rfl, ?_⟩
      cases c1 : decide (1 ≤ n) with
      | false => rw [c1] at q'; exact iteF ⟨_, rfl, iteF (q' _ (Same.refl _))⟩
      | true =>
        rw [c1] at q'
        refine iteT ⟨_, rfl, c, _, dc3, _, _, rfl, hc3, T.k_cCard, T.n_Card_races, cF_races _ _ _, lr, _, rfl, .inl (SqL.of hC3.fr), _, _, rfl, rfl, ?_⟩
        rw [List.length_map, hrl]
        refine ⟨_, rfl, ?_⟩
        cases c2 : decide (n ≤ (M.races.length : Int)) with
        | false => rw [c2] at q'; exact iteF (q' _ (Same.refl _))
        | true =>
          rw [c2] at q'
          refine iteT ⟨d, _, hd3, trivial, fun od => ?_⟩
          have hf : (upd H3 d (.frz od (.dK kvs))) d = some (.frz od (.dK kvs)) := upd_same
          refine ⟨_, rfl, d, od, rfl, .inl ⟨_, hf, fun D hD => ?_⟩⟩
          refine lc_vals walk_keys hD (fun H' s' => s' _ _ hf) (by omega) ((fd.map fun b => decide (b < n)).map V.bl) (by rw [List.length_map, List.length_map, hkl]) (fun i x v H4 H5 QV hv2 s4 y hq => ?_) gName_mono (fun H4 s4 hl4 => ?_)
          · obtain ⟨rfl, k0, v0, hk0, rfl⟩ := y
            have hk1 : (kvs.map Prod.fst)[i]? = some k0 := by rw [List.getElem?_map, hk0]; rfl
            rw [hk, List.getElem?_map] at hk1
            obtain ⟨b, hb, rfl⟩ : ∃ b, fd[i]? = some b ∧ k0 = Sum.inl b := by
              cases e0 : fd[i]? with
              | none => rw [e0] at hk1; cases hk1
              | some b => rw [e0] at hk1; exact ⟨b, rfl, (Option.some.inj hk1).symm⟩
            rw [List.getElem?_map, List.getElem?_map, hb] at hv2
            have hv2 := Option.some.inj hv2
            subst hv2
            exact ⟨rfl, _, rfl, _, rfl, _, _, rfl, rfl, hq _ (Same.refl _)⟩
          · have hfd : H4 d = some (.frz od (.dK kvs)) := s4 _ _ hf
            have nDd : D ≠ d := fun z => by rw [z, hf] at hD; cases hD
            have sm : Same H3 (upd H4 d (.dK kvs)) := fun c o e => by
              by_cases hc : c = d
              · rw [hc] at e ⊢
                rw [upd_same, ← hd3]
                exact e
              · rw [upd_ne hc]
                exact s4 c o (by rw [upd_ne hc]; exact e)
            refine ⟨hfd, D, _, rfl, SqL.of (by rw [upd_ne nDd]; exact hl4), ?_⟩
            rw [all_id]
            exact q' _ sm
    refine tst _ fun H4 s4 => ?_
    have hW4 := hW3.same s4
    have o04 : Off a H H4 := Off.trans o03 (Off.of s4)
    have hC4 := hC3.same s4
    obtain ⟨dx4, h4⟩ := hW4.ob
    refine ⟨_, rfl, a, dx4, _, rfl, h4, wF_place _ _ _ _ _, a, lw, lpp, lt, e, [], pws, 0 + 1, x, rfl, hW4, hx, ?_⟩
    refine ⟨_, 4, (x.2 : Int), rfl, fun hb => ?_, fun hb => qE (4, x.2) (by
      show (if ((decide (1 ≤ MR.numberOf x.1) && decide (MR.numberOf x.1 ≤ (M.races.length : Int))) && fd.all fun b => decide (b < MR.numberOf x.1)) = true then _ else _) = _
      rw [hnn, hb]
      rfl)⟩
    have qE : ∀ f, (match MR.choiceR e [MR.sp "void", MR.sp "came"] (pws.drop (0 + 1 + 1)) with
          | .error f => .error f
          | .ok z => match (if z.1 = 0 then MR.closed z.2 else MR.readCame e (MR.raceAt M.races n).many z.2) with
            | .error f => .error f
            | .ok _ => .ok (fd ++ [n]) : Except MR.F (List Int)) = .error f → Ref T.cRefused E [-6, (f.1 : Int), (f.2 : Int)] := fun f hf => qE f (by
      show (if ((decide (1 ≤ MR.numberOf x.1) && decide (MR.numberOf x.1 ≤ (M.races.length : Int))) && fd.all fun b => decide (b < MR.numberOf x.1)) = true then _ else _) = _
      rw [hnn, if_pos hb]
      exact hf)
    have qO : ∀ fd', (match MR.choiceR e [MR.sp "void", MR.sp "came"] (pws.drop (0 + 1 + 1)) with
          | .error f => .error f
          | .ok z => match (if z.1 = 0 then MR.closed z.2 else MR.readCame e (MR.raceAt M.races n).many z.2) with
            | .error f => .error f
            | .ok _ => .ok (fd ++ [n]) : Except MR.F (List Int)) = .ok fd' → fd'.length = fd.length + 1 → ∀ H' : Hp, FAt H' d fd' → (∀ b o, H b = some o → b ≠ a → b ≠ d → H' b = some o) → Q .non H' := fun fd' hf => qO fd' (by
      rw [if_pos hb]
      exact hf)
    rw [Bool.and_eq_true, Bool.and_eq_true, decide_eq_true_eq, decide_eq_true_eq] at hb
    -- words.choice(("void", "came"))
    refine rd_wchoice (zs := ["void", "came"]) (ts := [MR.sp "void", MR.sp "came"]) T rfl hW4 (fun Q' q' => ⟨by show 2 ≤ sizeLine; decide, fun p hp => q' p _ (Same.new hp) (SqT.of upd_same)⟩) (by decide) (by decide) (by decide +kernel) (fun f hf => qE f (by rw [hf])) fun i5 r5 e5 er5 H5 hW5 o5 => ?_
    subst er5
    rw [e5] at qE
    simp only [e5] at qO
    have o05 : Off a H H5 := Off.trans o04 o5
    have hC5 := hC4.off o5 h4 nca nra
    have hd5 := o05 _ _ hd nda
    -- the new entry, whatever it is
    have put : ∀ {H6 : Hp} (v : V), (∀ b o, H b = some o → b ≠ a → H6 b = some o) → (MR.lineR M.races fd e pws = .ok (fd ++ [n]) → True) → DPut H6 d (.int n) v (upd H6 d (.dK (kvs ++ [(Sum.inl n, v)]))) ∧ FAt (upd H6 d (.dK (kvs ++ [(Sum.inl n, v)]))) d (fd ++ [n]) ∧ (∀ b o, H b = some o → b ≠ a → b ≠ d → (upd H6 d (.dK (kvs ++ [(Sum.inl n, v)]))) b = some o) := by
      intro H6 v o6 _
      have h6 := o6 _ _ hd nda
      refine ⟨?_, ⟨_, upd_same, by rw [List.map_append, List.map_append, hk]; rfl⟩, fun b o eb h1 h2 => by rw [upd_ne h2]; exact o6 _ _ eb h1⟩
      have := DPut.k (k := (Sum.inl n : Key)) (v := v) h6 (szl (by omega))
      rw [FAt.put hk hb.2] at this
      exact this
    refine ⟨rfl, _, rfl, ?_⟩
    rw [int_eq]
    by_cases h0 : i5 = 0
    · -- void
      rw [decide_eq_true (show (i5 : Int) = 0 by omega)]
      simp only [if_pos h0] at qE qO
      refine iteT (rd_wend T rfl hW5 (fun f hf => qE f (by rw [hf])) fun hok => ?_)
      intro o dxo no ndxo neo
      refine ⟨o, dxo, 2, rfl, upd_same, fun H6 g oo ho hg off1 ng => ⟨rfl, ?_⟩⟩
      have s56 : Same H5 H6 := Same.made no ndxo off1
      obtain ⟨h1, h2, h3⟩ := put (H6 := H6) (.ref o) (fun b u eb hba => s56 _ _ (o05 _ _ eb hba)) (fun _ => trivial)
      exact ⟨_, rfl, _, rfl, d, _, rfl, h1, qO (fd ++ [n]) (by rw [hok]) (by rw [List.length_append]; rfl) _ h2 h3⟩
    · -- came
      rw [decide_eq_false (show ¬ (i5 : Int) = 0 by omega)]
      simp only [if_neg h0] at qE qO
      obtain ⟨dc5, hc5⟩ := hC5.ob
      refine iteF ⟨_, rfl, _, rfl, c, dc5, _, rfl, hc5, cF_ra _ _ _, _, rfl, c, lr, lp, dn, ra, M, n, rfl, hC5, hb.1.1, hb.1.2, fun r rd hR hm hin => ?_⟩
      obtain ⟨dr, hr5⟩ := hR.ob
      refine ⟨a, lw, lpp, lt, r, rd, e, pws, 0 + 1 + 1 + 1, _, rfl, hW5, nra _ hin, ⟨dr, hr5⟩, hm.2, fun f hf => qE f (by rw [hf]), fun hok H6 o o6 => ?_⟩
      obtain ⟨h1, h2, h3⟩ := put (H6 := H6) (.ref o) (fun b u eb hba => o6 _ _ (o05 _ _ eb hba) hba) (fun _ => trivial)
      exact ⟨_, rfl, _, rfl, d, _, rfl, h1, qO (fd ++ [n]) (by rw [hok]) (by rw [List.length_append]; rfl) _ h2 h3⟩
end
end RR
namespace RR
open PySem PySem.Spec PyProof.Rows L2
theorem upTo_none : ∀ t : W, (∀ c ∈ t, c ≠ 10) → MR.upTo t = none
  | [], _ => rfl
  | c :: r, h => by
    show (if c = 10 then some ([], r) else (MR.upTo r).map fun x => (c :: x.1, x.2)) = none
    rw [if_neg (h c List.mem_cons_self), upTo_none r fun d hd => h d (List.mem_cons_of_mem _ hd)]
    rfl
theorem upTo_some : ∀ (n : Nat) (t : W), t[n]? = some 10 → (∀ j, j < n → t[j]? ≠ some 10) → MR.upTo t = some (t.take n, t.drop (n + 1))
  | _, [], h, _ => by simp at h
  | 0, c :: r, h, _ => by
    have h : c = 10 := Option.some.inj h
    show (if c = 10 then some ([], r) else (MR.upTo r).map fun x => (c :: x.1, x.2)) = _
    rw [if_pos h]
    rfl
  | n + 1, c :: r, h, hj => by
    have h : r[n]? = some 10 := by simpa using h
    have hc : c ≠ 10 := fun e => hj 0 (Nat.succ_pos _) (by rw [e]; rfl)
    show (if c = 10 then some ([], r) else (MR.upTo r).map fun x => (c :: x.1, x.2)) = _
    rw [if_neg hc, upTo_some n r h fun j hjn => by have := hj (j + 1) (Nat.succ_lt_succ hjn); simpa using this]
    rfl
section
variable {P : Program} {w : World} {K : PySem.W.Frag} {mg : Str → Option Value} {base : Heap}
def spReadResult (K : PySem.W.Frag) (CC CRc CR : Addr) : Sp := fun vs H Q E => ∃ (c lr lp dn x : Addr) (ra : List (Addr × Addr)) (M : MR.Card) (text : W), vs = [.ref c, .ref x] ∧ CardAt CC CRc H c lr lp dn ra M ∧ SqL K H x (wv text) ∧ text.length ≤ 66000 ∧
  (∀ f, MR.result M.races (text.length + 1) 0 [] text = .error f → Ref CR E [-6, (f.1 : Int), (f.2 : Int)]) ∧
  (MR.result M.races (text.length + 1) 0 [] text = .ok () → ∀ (H' : Hp) (d : Addr), Same H H' → Q (.ref d) H')
theorem ok_read_result (T : Tx K mg) : FnOk P w K mg base (L2.CX P w) 9 T.f_read_result T.d_read_result ["card", "text"] (spReadResult K T.cCard T.cRace T.cRefused) := by
  have G : FnOk P w K mg base (L2.CX P w) 4 T.f_need_outcomes T.d_need_outcomes ["is_so", "kind", "place"] (spNeedO T.cRefused) := ok_need_outcomes T
  have GB : FnOk P w K mg base (L2.CX P w) 5 T.f_ask_bytes T.d_ask_bytes ["row", "begin"] (spAskBytes T.cRefused) := ok_ask_bytes T
  have GI : FnOk P w K mg base CX0 2 T.f_words_init T.d_words_init ["self", "row", "begin"] (spWordsInit T.cWords) := ok_words_init T
  have GL : FnOk P w K mg base (L2.CX P w) 8 T.f_read_line T.d_read_line ["card", "found", "words"] (spReadLine T.cWords T.cCard T.cRace T.cRefused) := ok_read_line T
  refine T.read_result.me.F.okX sc_read_result (fun vs H Q E h => ?_) (fun cdv A outer s H vs Q E hr h => ⟨_,
    pss_cons (ps_set (i := 2) sc_read_result.nd rfl (Or.inl rfl) pe_dnewK)
    (pss_cons (ps_set (i := 3) sc_read_result.nd rfl (Or.inl rfl) pe_int)
    (pss_cons (ps_while (passes_of rfl) (pt_cmpR op_lt (pv 3) (pe_callB call_len_seq (by rfl) T.z_len PySem.boot_len (pa_cons (pv 1) pa_nil)) (nomark _))
      (pss_cons (ps_set (i := 4) sc_read_result.nd rfl (Or.inl rfl) (pv 3))
      (pss_cons (ps_while (passes_of rfl) (PW.pt (pw_and (pt_cmpR op_lt (pv 4) (pe_callB call_len_seq (by rfl) T.z_len PySem.boot_len (pa_cons (pv 1) pa_nil)) (nomark _)) (pw_and1 (pt_cmpR op_ne (pe_ix ix_list (pv 1) (pv 4) (fun _ _ => rfl)) (pe_k rfl T.g_NEWLINE) (nomark _)))))
        (pss_one (ps_aug (i := 4) sc_read_result.nd rfl (Or.inl rfl) pe_int ip_add)))
      (pss_cons (ps_expr (pe_call G (hr.mono (by decide)) rfl T.need_outcomes.g T.need_outcomes.me.F.kp T.need_outcomes.me.b .nil (psx (E := E) (takes_of rfl rfl rfl rfl)) (by exact (pa_cons (pe_cmpR op_lt (pv 4) (pe_callB call_len_seq (by rfl) T.z_len PySem.boot_len (pa_cons (pv 1) pa_nil)) (nomark _)) (pa_cons (pe_k rfl T.g_NOT_ENDED) (pa_cons (pe_callB call_len_seq (by rfl) T.z_len PySem.boot_len (pa_cons (pv 1) pa_nil)) pa_nil))))))
      (pss_cons (ps_set (i := 5) sc_read_result.nd rfl (Or.inl rfl) (pe_callTy call_tuple_of (by rfl) T.z_tuple (by decide +kernel) (pa_cons (pe_slice sl_list (pv 1) (po_some (pv 3)) (po_some (pv 4))) pa_nil)))
      (pss_cons (ps_expr (pe_call GB (hr.mono (by decide)) rfl T.ask_bytes.g T.ask_bytes.me.F.kp T.ask_bytes.me.b .nil (psx (E := E) (takes_of rfl rfl rfl rfl)) (by exact (pa_cons (pv 5) (pa_cons (pv 3) pa_nil)))))
      (pss_cons (ps_expr (pe_call GL hr rfl T.read_line.g T.read_line.me.F.kp T.read_line.me.b .nil (psx (E := E) (takes_of rfl rfl rfl rfl)) (by exact (pa_cons (pv 0) (pa_cons (pv 2) (pa_cons (pe_make T.mk_Words GI (hr.mono (by decide)) rfl T.g_cWords T.words_init.b .nil pass0 (by exact (pa_cons (pv 5) (pa_cons (pv 3) pa_nil)))) pa_nil))))))
      (pss_one (ps_set (i := 3) sc_read_result.nd rfl (Or.inl rfl) (pe_op op_add (pv 4) pe_int))))))))))
    (pss_one (ps_ret (pv 2))))), ?_⟩)
  · obtain ⟨c, lr, lp, dn, x, ra, M, text, rfl, _⟩ := h; rfl
  · obtain ⟨c, lr, lp, dn, x, ra, M, text, rfl, hC, hX, hl, qE, qO⟩ := h
    intro d hd
    refine ⟨fun m σ H' => ∃ (b fuel : Nat) (fd : List Int) (v4 v5 : Option V), σ = [some (.ref c), some (.ref x), some (.ref d), some (.int (b : Int)), v4, v5] ∧ m = text.length - b ∧ b ≤ text.length ∧ Same H H' ∧ FAt H' d fd ∧ fd.length ≤ b ∧ text.length - b < fuel ∧
      MR.result M.races (text.length + 1) 0 [] text = MR.result M.races fuel b fd (text.drop b), ⟨_, 0, text.length + 1, [], none, none, rfl, rfl, Nat.zero_le _, Same.new hd, ⟨[], upd_same, rfl⟩, Nat.le_refl _, by omega, by rw [List.drop_zero]⟩, ?_⟩
    rintro m σ H1 ⟨b, fuel, fd, v4, v5, rfl, rfl, hbl, s1, hF, hfl, hfuel, heq⟩
    have hX1 : SqL K H1 x (wv text) := Same.seq s1 hX
    refine ⟨_, rfl, _, rfl, x, _, rfl, .inl hX1, _, _, rfl, rfl, _, rfl, ?_⟩
    rw [wv_len]
    obtain ⟨fuel, rfl⟩ : ∃ f, fuel = f + 1 := ⟨fuel - 1, by omega⟩
    by_cases hb : b < text.length
    · -- a line
      rw [decide_eq_true (show (b : Int) < (text.length : Int) by omega)]
      have hne : text.drop b ≠ [] := fun z => by
        have := congrArg List.length z
        rw [List.length_drop] at this
        simp only [List.length_nil] at this
        omega
      have hres : MR.result M.races (fuel + 1) b fd (text.drop b) = match MR.upTo (text.drop b) with
          | none => .error (1, b + (text.drop b).length)
          | some (l, r) => match MR.badAt l with
            | some i => .error (2, b + i)
            | none => match MR.lineR M.races fd (b + l.length) (MR.placed b (MR.parted l 32)) with
              | .error f => .error f
              | .ok found' => MR.result M.races fuel (b + l.length + 1) found' r := by
        rw [MR.result, if_neg hne]
        first
          | done
          | rfl
      rw [heq, hres] at qE
      refine iteT ⟨fun σ' H' => ∃ m', m' < text.length - b ∧ ∃ (b fuel : Nat) (fd : List Int) (v4 v5 : Option V), σ' = [some (.ref c), some (.ref x), some (.ref d), some (.int (b : Int)), v4, v5] ∧ m' = text.length - b ∧ b ≤ text.length ∧ Same H H' ∧ FAt H' d fd ∧ fd.length ≤ b ∧ text.length - b < fuel ∧
        MR.result M.races (text.length + 1) 0 [] text = MR.result M.races fuel b fd (text.drop b), fun _ _ q => q, ?_⟩
      refine ⟨_, rfl, ?_⟩
      -- its end
      refine ⟨fun m σ H' => ∃ en : Nat, σ = [some (.ref c), some (.ref x), some (.ref d), some (.int (b : Int)), some (.int (en : Int)), v5] ∧ H' = H1 ∧ m = text.length - en ∧ b ≤ en ∧ en ≤ text.length ∧ ∀ j, b ≤ j → j < en → text[j]? ≠ some 10, ⟨_, b, rfl, rfl, rfl, Nat.le_refl _, hbl, fun j h1 h2 => by omega⟩, ?_⟩
      rintro m σ H2 ⟨en, rfl, rfl, rfl, hbe, hel, hno⟩
      refine ⟨_, rfl, _, rfl, x, _, rfl, .inl hX1, _, _, rfl, rfl, _, rfl, ?_⟩
      rw [wv_len]
      -- behind it
      have tail : en = text.length ∨ text[en]? = some 10 → ∀ {D : Ends}, (∀ σ' H', (∃ m', m' < text.length - b ∧ ∃ (b fuel : Nat) (fd : List Int) (v4 v5 : Option V), σ' = [some (.ref c), some (.ref x), some (.ref d), some (.int (b : Int)), v4, v5] ∧ m' = text.length - b ∧ b ≤ text.length ∧ Same H H' ∧ FAt H' d fd ∧ fd.length ≤ b ∧ text.length - b < fuel ∧
          MR.result M.races (text.length + 1) 0 [] text = MR.result M.races fuel b fd (text.drop b)) → D.nx σ' H') →
          tSeq (tDrop (tCall (spNeedO T.cRefused) [] E (tCons (tOp (rI0 fun i j => .bl (decide (i < j))) (tVar 4) (tCB (fun xs H Q => ∃ p ys, xs = [.ref p] ∧ (SqL K H p ys ∨ SqT K H p ys) ∧ Q (.int ys.length) H) (tCons (tVar 1) tNil))) (tCons (tC (.int 1)) (tCons (tCB (fun xs H Q => ∃ p ys, xs = [.ref p] ∧ (SqL K H p ys ∨ SqT K H p ys) ∧ Q (.int ys.length) H) (tCons (tVar 1) tNil)) tNil)))))
          (tSeq (tAsg (tCB (fun xs H Q => ∃ p ys, xs = [.ref p] ∧ ((SqL K H p ys ∧ ∀ l, H l = none → Q (.ref l) (upd H l (.tup ys))) ∨ (SqT K H p ys ∧ Q (.ref p) H))) (tCons (tSl (rSlL K) (tVar 1) (tPart (tVar 3)) (tPart (tVar 4))) tNil)) (gName 5))
          (tSeq (tDrop (tCall (spAskBytes T.cRefused) [] E (tCons (tVar 5) (tCons (tVar 3) tNil))))
          (tSeq (tDrop (tCall (spReadLine T.cWords T.cCard T.cRace T.cRefused) [] E (tCons (tVar 0) (tCons (tVar 2) (tCons (tMake T.cWords (spWordsInit T.cWords) [] E0 (tCons (tVar 5) (tCons (tVar 3) tNil))) tNil)))))
          (tAsg (tOp (rI0 fun i j => .int (i + j)) (tVar 4) (tC (.int 1))) (gName 3))))) D [some (.ref c), some (.ref x), some (.ref d), some (.int (b : Int)), some (.int (en : Int)), v5] H2 := by
        intro hend D hD
        refine ⟨_, rfl, _, rfl, x, _, rfl, .inl hX1, _, _, rfl, rfl, _, rfl, x, _, rfl, .inl hX1, ?_⟩
        rw [wv_len]
        refine ⟨_, 1, _, rfl, fun hbb => ?_, fun hbb => ?_⟩
        · have hen : en < text.length := by have : (en : Int) < (text.length : Int) := of_decide_eq_true hbb; omega
          have hten : text[en]? = some 10 := hend.resolve_left (by omega)
          -- the mirror's line
          have hup : MR.upTo (text.drop b) = some ((text.take en).drop b, text.drop (en + 1)) := by
            rw [upTo_some (en - b) (text.drop b) (by rw [List.getElem?_drop, show b + (en - b) = en by omega]; exact hten) (fun j hj => by rw [List.getElem?_drop]; exact hno _ (by omega) (by omega))]
            congr 1
            rw [List.drop_drop, show b + (en - b + 1) = en + 1 by omega, ← List.drop_take]
          have hll : ((text.take en).drop b).length = en - b := by rw [List.length_drop, List.length_take]; omega
          rw [hup] at hres qE
          have hres : MR.result M.races (fuel + 1) b fd (text.drop b) = match MR.badAt ((text.take en).drop b) with
            | some i => .error (2, b + i)
            | none => match MR.lineR M.races fd (b + ((text.take en).drop b).length) (MR.placed b (MR.parted ((text.take en).drop b) 32)) with
              | .error f => .error f
              | .ok found' => MR.result M.races fuel (b + ((text.take en).drop b).length + 1) found' (text.drop (en + 1)) := hres
          have qE : ∀ f, (match MR.badAt ((text.take en).drop b) with
            | some i => .error (2, b + i)
            | none => match MR.lineR M.races fd (b + ((text.take en).drop b).length) (MR.placed b (MR.parted ((text.take en).drop b) 32)) with
              | .error f => .error f
              | .ok found' => MR.result M.races fuel (b + ((text.take en).drop b).length + 1) found' (text.drop (en + 1)) : Except MR.F Unit) = .error f → Ref T.cRefused E [-6, (f.1 : Int), (f.2 : Int)] := qE
          -- row
          refine ⟨_, rfl, _, rfl, _, rfl, _, rfl, _, rfl, x, _, rfl, hX1, fun q1 hq1 => ⟨q1, _, rfl, .inl ⟨SqL.of upd_same, fun rw0 hrw => ?_⟩⟩⟩
          rw [cut_nat _ _ _ hbe (by rw [wv_len]; omega)] at hrw ⊢
          have ecut : ((wv text).take en).drop b = wv ((text.take en).drop b) := by
            unfold wv
            rw [List.map_drop, List.map_take]
          rw [ecut] at hrw ⊢
          have s2 : Same H2 (upd (upd H2 q1 (.lst (wv ((text.take en).drop b)))) rw0 (.tup (wv ((text.take en).drop b)))) := Same.trans (Same.new hq1) (Same.new hrw)
          have hrw3 : (upd (upd H2 q1 (.lst (wv ((text.take en).drop b)))) rw0 (.tup (wv ((text.take en).drop b)))) rw0 = some (.tup (wv ((text.take en).drop b))) := upd_same
          generalize (upd (upd H2 q1 (.lst (wv ((text.take en).drop b)))) rw0 (.tup (wv ((text.take en).drop b)))) = H3 at s2 hrw3 ⊢
          generalize hrow : (text.take en).drop b = row at hll hres qE hrw3 ⊢
          -- ask_bytes(row, begin)
          refine ⟨_, rfl, _, rfl, rw0, row, b, rfl, hrw3, by omega, fun i hi => ?_, fun hok H4 s4 => ?_⟩
          · rw [hi] at qE
            exact qE (2, b + i) rfl
          rw [hok] at qE hres
          have hres : MR.result M.races (fuel + 1) b fd (text.drop b) = match MR.lineR M.races fd (b + row.length) (MR.placed b (MR.parted row 32)) with
              | .error f => .error f
              | .ok found' => MR.result M.races fuel (b + row.length + 1) found' (text.drop (en + 1)) := hres
          have qE : ∀ f, (match MR.lineR M.races fd (b + row.length) (MR.placed b (MR.parted row 32)) with
              | .error f => .error f
              | .ok found' => MR.result M.races fuel (b + row.length + 1) found' (text.drop (en + 1)) : Except MR.F Unit) = .error f → Ref T.cRefused E [-6, (f.1 : Int), (f.2 : Int)] := qE
          have s24 := Same.trans s2 s4
          -- read_line(card, found, Words(row, begin))
          refine ⟨_, rfl, _, rfl, _, rfl, _, rfl, fun a dx na ndx ne => ?_⟩
          refine ⟨a, dx, rw0, row, b, rfl, upd_same, ?_, by omega, fun H5 lw lpp lt hW5 off5 => ⟨rfl, ?_⟩⟩
          · exact (Same.trans (Same.new ndx) (Same.new (by rw [upd_ne (Ne.symm ne)]; exact na))) _ _ (s4 _ _ hrw3)
          have s45 : Same H4 H5 := Same.made na ndx off5
          have s25 := Same.trans s24 s45
          have sall := Same.trans s1 s25
          have hC5 := hC.same sall
          have hF5 : FAt H5 d fd := by obtain ⟨kvs, h1, h2⟩ := hF; exact ⟨kvs, s25 _ _ h1, h2⟩
          have hC4 := hC.same (Same.trans s1 s24)
          obtain ⟨dc4, hc4⟩ := hC4.ob
          refine ⟨c, lr, lp, dn, d, a, lw, lpp, lt, ra, M, fd, b + row.length, _, rfl, hC5, hF5, by omega, hW5, ne_of_none hc4 na, fun y hy => ?_, fun f hf => qE f (by rw [hf]), fun fd' hok' hfdl H6 hF6 fr6 => ?_⟩
          · obtain ⟨⟨_, _, k1⟩, _⟩ := hC4.rs.kind y hy
            exact ne_of_none k1 na
          rw [hok'] at hres
          have hres : MR.result M.races (fuel + 1) b fd (text.drop b) = MR.result M.races fuel (b + row.length + 1) fd' (text.drop (en + 1)) := hres
          refine ⟨_, rfl, _, _, rfl, rfl, hD _ _ ⟨text.length - (en + 1), by omega, en + 1, fuel, fd', _, _, rfl, rfl, by omega, fun u o hu => ?_, hF6, by omega, by omega, ?_⟩⟩
          · have h4 := (Same.trans s1 s24) _ _ hu
            exact fr6 _ _ (sall _ _ hu) (ne_of_none h4 na) (ne_of_none hu hd)
          · rw [heq, hres, show b + row.length + 1 = en + 1 by omega]
        · have hen : en = text.length := by have : ¬ (en : Int) < (text.length : Int) := of_decide_eq_false hbb; omega
          have hup : MR.upTo (text.drop b) = none := upTo_none _ fun ch hch e => by
            obtain ⟨j, hj⟩ := List.mem_iff_getElem?.mp hch
            rw [List.getElem?_drop] at hj
            obtain ⟨hjl, _⟩ := List.getElem?_eq_some_iff.mp hj
            exact hno (b + j) (by omega) (by omega) (by rw [hj, e])
          rw [hup] at qE
          have := qE (1, b + (text.drop b).length) rfl
          rw [List.length_drop, show b + (text.length - b) = text.length by omega] at this
          exact this
      by_cases he : en < text.length
      · rw [decide_eq_true (show (en : Int) < (text.length : Int) by omega)]
        have hc : text[en]? = some text[en] := List.getElem?_eq_getElem he
        refine iteT ⟨_, rfl, _, rfl, x, _, _, .int text[en], rfl, rfl, hX1, atI_nat (wv_at hc), rfl, _, rfl, ?_⟩
        rw [int_eq, ← decide_not]
        by_cases hten : text[en] = 10
        · rw [decide_eq_false (fun z => z hten)]
          exact iteF (tail (.inr (by rw [hc, hten])) fun _ _ q => q)
        · rw [decide_eq_true hten]
          refine iteT ⟨fun σ' H' => ∃ m', m' < text.length - en ∧ ∃ en : Nat, σ' = [some (.ref c), some (.ref x), some (.ref d), some (.int (b : Int)), some (.int (en : Int)), v5] ∧ H' = H2 ∧ m' = text.length - en ∧ b ≤ en ∧ en ≤ text.length ∧ ∀ j, b ≤ j → j < en → text[j]? ≠ some 10, fun _ _ q => q, ?_⟩
          refine ⟨_, rfl, _, _, rfl, rfl, text.length - (en + 1), by omega, en + 1, rfl, rfl, rfl, by omega, by omega, fun j h1 h2 => ?_⟩
          by_cases hje : j = en
          · rw [hje, hc]
            exact fun z => hten (Option.some.inj z)
          · exact hno j h1 (by omega)
      · rw [decide_eq_false (show ¬ (en : Int) < (text.length : Int) by omega)]
        exact iteF (iteF (tail (.inl (by omega)) fun _ _ q => q))
    · -- all of it
      rw [decide_eq_false (show ¬ (b : Int) < (text.length : Int) by omega)]
      have hnil : text.drop b = [] := List.drop_eq_nil_of_le (by omega)
      rw [hnil] at heq
      have heq : MR.result M.races (text.length + 1) 0 [] text = .ok () := by rw [heq, MR.result, if_pos rfl]
      exact iteF ⟨_, rfl, qO heq H1 d s1⟩
end
end RR
namespace RR
open PySem PySem.Spec PyProof.Rows L2
section
variable {P : Program} {w : World} {K : PySem.W.Frag} {mg : Str → Option Value} {base : Heap}
def spReadBoth (K : PySem.W.Frag) (CR : Addr) : Sp := fun vs H Q E => ∃ (x y : Addr) (card res : W), vs = [.ref x, .ref y] ∧ SqL K H x (wv card) ∧ SqL K H y (wv res) ∧ card.length ≤ 66000 ∧ res.length ≤ 66000 ∧
  (MR.judge card res ≠ [0] → Ref CR E (MR.judge card res)) ∧ (MR.judge card res = [0] → ∀ (H' : Hp) (p : Addr), Same H H' → Q (.ref p) H')
theorem ok_read_both (T : Tx K mg) : FnOk P w K mg base (L2.CX P w) 10 T.f_read_both T.d_read_both ["card", "result"] (spReadBoth K T.cRefused) := by
  have G : FnOk P w K mg base (L2.CX P w) 3 T.f_ask T.d_ask ["is_so", "number"] (spAsk T.cRefused) := ok_ask T
  have GC : FnOk P w K mg base (L2.CX P w) 9 T.f_read_card T.d_read_card ["text"] (spReadCard K T.cCard T.cRace T.cRefused) := ok_read_card T
  have GR : FnOk P w K mg base (L2.CX P w) 9 T.f_read_result T.d_read_result ["card", "text"] (spReadResult K T.cCard T.cRace T.cRefused) := ok_read_result T
  refine T.read_both.me.F.okX sc_read_both (fun vs H Q E h => ?_) (fun cdv A outer s H vs Q E hr h => ⟨_,
    pss_cons (ps_expr (pe_call G (hr.mono (by decide)) rfl T.ask.g T.ask.me.F.kp T.ask.me.b .nil (psx (E := E) (takes_of rfl rfl rfl rfl)) (by exact (pa_cons (pe_and (pe_cmpR op_le (pe_callB call_len_seq (by rfl) T.z_len PySem.boot_len (pa_cons (pv 0) pa_nil)) (pe_k rfl T.g_LONGEST_TEXT) (nomark _)) (pe_one (pe_cmpR op_le (pe_callB call_len_seq (by rfl) T.z_len PySem.boot_len (pa_cons (pv 1) pa_nil)) (pe_k rfl T.g_LONGEST_TEXT) (nomark _)))) (pa_cons (pe_k rfl T.g_TOO_LONG) pa_nil)))))
    (pss_cons (ps_set (i := 2) sc_read_both.nd rfl (Or.inl rfl) (pe_call GC hr rfl T.read_card.g T.read_card.me.F.kp T.read_card.me.b .nil (psx (E := E) (takes_of rfl rfl rfl rfl)) (by exact (pa_cons (pv 0) pa_nil))))
    (pss_one (ps_ret (pe_tup (pa_cons (pv 2) (pa_cons (pe_call GR hr rfl T.read_result.g T.read_result.me.F.kp T.read_result.me.b .nil (psx (E := E) (takes_of rfl rfl rfl rfl)) (by exact (pa_cons (pv 2) (pa_cons (pv 1) pa_nil)))) pa_nil)))))), ?_⟩)
  · obtain ⟨x, y, card, res, rfl, _⟩ := h; rfl
  · obtain ⟨x, y, card, res, rfl, hx, hy, hcl, hrl, qE, qO⟩ := h
    have t1 : ∀ Q' : VK, Q' (.bl (decide (card.length ≤ 65536 ∧ res.length ≤ 65536))) H →
        tAndV (tOp (rI0 fun i j => .bl (decide (i ≤ j))) (tCB (fun xs H Q => ∃ p ys, xs = [.ref p] ∧ (SqL K H p ys ∨ SqT K H p ys) ∧ Q (.int ys.length) H) (tCons (tVar 0) tNil)) (tC (.int 65536)))
          (tOp (rI0 fun i j => .bl (decide (i ≤ j))) (tCB (fun xs H Q => ∃ p ys, xs = [.ref p] ∧ (SqL K H p ys ∨ SqT K H p ys) ∧ Q (.int ys.length) H) (tCons (tVar 1) tNil)) (tC (.int 65536))) [some (V.ref x), some (.ref y), none] H Q' := by
      intro Q' q'
      refine ⟨_, rfl, x, _, rfl, .inl hx, _, _, rfl, rfl, _, rfl, ?_⟩
      rw [wv_len]
      by_cases c1 : card.length ≤ 65536
      · rw [decide_eq_true (show (card.length : Int) ≤ 65536 by omega)]
        refine iteT ⟨_, rfl, y, _, rfl, .inl hy, _, _, rfl, rfl, ?_⟩
        rw [wv_len]
        have : decide ((res.length : Int) ≤ 65536) = decide (card.length ≤ 65536 ∧ res.length ≤ 65536) := by
          rw [decide_eq_decide]
          omega
        rw [← this] at q'
        exact q'
      · rw [decide_eq_false (show ¬ (card.length : Int) ≤ 65536 by omega)]
        rw [decide_eq_false (fun z => c1 z.1)] at q'
        exact iteF q'
    refine t1 _ ⟨_, -2, rfl, fun hb => ?_, fun hb => ?_⟩
    · have hb := of_decide_eq_true hb
      have hj : MR.judge card res = match MR.readCard card with
          | none => [-8]
          | some rs => match MR.result rs (res.length + 1) 0 [] res with
            | .error f => [-6, (f.1 : Int), (f.2 : Int)]
            | .ok _ => [0] := by
        unfold MR.judge
        rw [if_pos hb]
        first
          | done
          | rfl
      refine ⟨_, rfl, x, card, rfl, hx, hcl, fun hn => ?_, fun rs hrs H1 c lr lp dn ra M hM hM16 hC s1 => ?_⟩
      · rw [hn] at hj
        have hj : MR.judge card res = [-8] := hj
        rw [hj] at qE
        exact qE (by decide)
      · subst hM
        rw [hrs] at hj
        have hj : MR.judge card res = match MR.result M.races (res.length + 1) 0 [] res with
            | .error f => [-6, (f.1 : Int), (f.2 : Int)]
            | .ok _ => [0] := hj
        refine ⟨_, rfl, _, rfl, _, rfl, c, lr, lp, dn, y, ra, M, res, rfl, hC, Same.seq s1 hy, hrl, fun f hf => ?_, fun hok H2 d s2 => ?_⟩
        · rw [hf] at hj
          have hj : MR.judge card res = [-6, (f.1 : Int), (f.2 : Int)] := hj
          rw [hj] at qE
          exact qE (fun z => by cases z)
        · rw [hok] at hj
          exact ⟨by show 2 ≤ sizeLine; decide, fun p hp => qO hj _ p (Same.trans s1 (Same.trans s2 (Same.new hp)))⟩
    · have hb := of_decide_eq_false hb
      have hj : MR.judge card res = [-2] := by unfold MR.judge; rw [if_neg hb]
      rw [hj] at qE
      exact qE (by decide)
end
end RR
namespace RR
open PySem PySem.Spec PyProof.Rows L2 LamX NdefX
/-! ### the nested def, handed to another def that calls it -/
/-- what the cells held at the entry they hold later -/
theorem cells_later {cl : List (Str × Addr)} {fr : List Str} {ws : List (Option V)} {fs : List Addr} {h h' : Heap} {H H' : Hp} (C : CellsAt cl fr ws h H) (un : Un fs [] H H' h h') : CellsAt cl fr ws h' H' := by
  have kp : ∀ c, H c = none → ∀ v, h.IsCell c v → h'.IsCell c v := fun c n v ⟨o, ho, hd⟩ => by
    obtain ⟨sl, q⟩ := un.any ho n (by simp)
    exact ⟨_, q, hd⟩
  refine ⟨C.len, fun y c e => ?_, C.inj, fun i y e => ?_⟩
  · obtain ⟨n, v, z⟩ := C.all y c e
    refine ⟨?_, v, kp c n v z⟩
    obtain ⟨o, ho, _⟩ := z
    exact un.free c o ho n (by simp)
  · obtain ⟨c, hc, hv⟩ := C.has i y e
    refine ⟨c, hc, fun v ev => ?_⟩
    obtain ⟨u, r, z⟩ := hv v ev
    exact ⟨u, r, kp c (C.all y c hc).1 _ z⟩
theorem Fun.okC {P : Program} {w : World} {K : PySem.W.Frag} {mg : Str → Option Value} {base : Heap} {x qual : Str} {st : Stmt} {f c : Addr} {fd : FuncData} {N ps : List Str} {k : Nat} {sp : Sp} (F : Fun K x qual st f fd) (S : FnScope N ps (defScope st)) (len : ∀ vs H Q E, sp vs H Q E → vs.length = ps.length) (hc : fd.code = .ref c)
    (hbody : ∀ (A : Around) (outer : List Env) (s : Shared) (H : Hp) (vs : List V) (Q : VK) (E : XK), Room k (A.deeper (envOfC qual (defScope st) s.heap.objs.size f (.ref c))) → sp vs H Q E →
      ∃ t, PSs (cxOf CX0 P w K mg base N qual (defScope st) f (.ref c) A outer s H E).nox (defBody st) t ∧ t { nx := fun _ H' => Q .non H', rt := Q } (L2.start N vs) H) : FnOk P w K mg base CX0 (k + 1) f fd ps sp := by
  obtain ⟨oc, od, kV, doc, pm, an, cdv, ct, osl, rfl, lk, hcd⟩ := F.ex
  have e : cdv = .ref c := hc
  subst e
  refine fn_of lk hcd S len fun A outer s H vs Q E hr hsp => ?_
  obtain ⟨t, h, q⟩ := hbody A outer s H vs Q E hr hsp
  exact ⟨t, h.nox, q⟩
/-- what is wanted of a refusal where its list is answered -/
def EA (CR : Addr) (Q : VK) : XK := fun cls d H' => cls = .ref CR ∧ ∃ (dd l : Addr) (xs : List V), d = some dd ∧ H' dd = some (.xd [("told", .ref l)]) ∧ H' l = some (.lst xs) ∧ ∀ p, H' p = none → Q (.ref p) (upd H' p (.lst xs))
theorem pe_answered {X : Cx} {mk : Addr → NF} {cl : List (Str × Addr)} {fr : List Str} {js : List Nat} {i k : Nat} {x : Str} {sp : Addr → Addr → List (Option V) → Sp} {p p1 pos : Pos} (T : Tx X.K X.mg) (Fn : ∀ f c', NOk X.prog X.w X.K X.mg X.base (L2.CX X.prog X.w) k f (mk c') [] fr (sp f c')) (hcl : ∀ c', (mk c').cl = cl) (cp : X.Ok → Caps X cl fr js)
    (hr : Room (k + 1) X.A) (hg : Gl X "answered") (hN : X.N[i]? = some x) (hv : Vis X.env.scope x) (hd : (x == ("__debug__" : Str)) = false := by decide) (hcd : (x == ("__classdict__" : Str)) = false := by decide) :
    PE X (.Call (.Name "answered" p) [.Name x p1] [] pos) (fun σ H Q => ∃ f c', σ[i]? = some (some (.ref f)) ∧ H f = some (FnO f (mk c')) ∧ H (mk c').c = some (CodeO (mk c').c (mk c').qual) ∧ sp f c' (js.map (slotAt σ)) [] H Q (EA T.cRefused Q)) := by
  refine ⟨fun pins s σ H Q I h => ?_⟩
  obtain ⟨f, c', hs, hf, hc, hsp⟩ := h
  refine wpAny_Call_Name_kw (ld_glob I hg T.answered.g ?_ (by decide))
  refine PySem.W.callWith_K (h₀ := X.base) I.ok.mod.kin T.answered.me.F.kp (thn ((pa_cons (pe_var (pos := p1) hN hv hd hcd) pa_nil).run pos pins s σ H (fun vs H1 => vs = [.ref f] ∧ H1 = H) I ⟨.ref f, hs, rfl, rfl⟩) fun us s1 ⟨vs, H1, I1, r, ev, eH⟩ => ⟨I1.kIn, ?_⟩) (by rfl) (by rfl)
  subst ev
  rw [eH] at I1
  have C1 : CellsAt (mk c').cl fr (js.map (slotAt σ)) s1.heap H := by
    rw [hcl c']
    exact cells_of I1 (cp I1.ok)
  obtain ⟨oc, od, kV, doc, pm, an, cdv, ct, osl, efd, lk, hcdv⟩ := T.answered.me.F.ex
  have hlen : us.length = 1 := by rw [← r.length]; rfl
  have hbi := T.answered.me.b s1 us I1.kIn (by rw [List.append_nil, hlen]; rfl)
  rw [List.append_nil] at hbi
  rw [efd] at lk hbi
  have rc : codeAny (model X.prog X.w) X.A (.call (.ref T.f_answered) ⟨us, []⟩) (CR CX0 X.stack X.prog X.w H s1 Q E0) s1 := by
    refine run_ofS (N := ["deed", "refused"]) (ps := ["deed"]) (us := us) (vs := [.ref f]) lk hcdv sc_answered hr I1.env0 hbi r rfl fun hr' => ?_
    have act : ∀ (W : WX) (pn : List (Addr × Obj)) (xe : Value → Shared → Prop) (Ech : XK) (p2 p3 : Pos), Takes ((cxOf CX0 X.prog X.w X.K X.mg X.base ["deed", "refused"] "answered" (defScope s_answered) T.f_answered cdv X.A X.stack s1 H E0).nox.tr pn xe) W → (∀ cls d (σ' : L2.St) H', σ'.length = 2 → Ech cls d H' → W cls d σ' H') →
        PE ((cxOf CX0 X.prog X.w X.K X.mg X.base ["deed", "refused"] "answered" (defScope s_answered) T.f_answered cdv X.A X.stack s1 H E0).nox.tr pn xe) (.Call (.Name "deed" p2) [] [] p3)
          (fun σZ HZ QZ => σZ[0]? = some (some (.ref f)) ∧ HZ f = some (FnO f (mk c')) ∧ HZ (mk c').c = some (CodeO (mk c').c (mk c').qual) ∧ sp f c' (js.map (slotAt σ)) [] HZ QZ Ech) := by
      intro W pn xe Ech p2 p3 tk hW
      refine ⟨fun pinsZ sZ σZ HZ QZ IZ hZ => ?_⟩
      obtain ⟨h0, h1, h2, h3⟩ := hZ
      refine wpAny_Call_Name_kw (thn ((pv (X := (cxOf CX0 X.prog X.w X.K X.mg X.base ["deed", "refused"] "answered" (defScope s_answered) T.f_answered cdv X.A X.stack s1 H E0).nox.tr pn xe) 0 (pos := p2)).run pinsZ sZ σZ HZ (fun v H1 => v = .ref f ∧ H1 = HZ) IZ ⟨.ref f, h0, rfl, rfl⟩) fun u s2 ⟨v, H2, I2, r2, q2⟩ => ?_)
      obtain ⟨ev, eH⟩ := q2
      subst ev
      rw [eH] at I2
      obtain rfl : u = Value.ref f := r2
      refine PySem.W.callWith_F0 (first := []) (fnAt_of I2 h1) ?_
      have un : Un (frs X.stack) [] H HZ s1.heap s2.heap := I2.base
      refine wpAny_call (codeAny_mono ((Fn f c').run _ _ s2 HZ [] [] _ QZ Ech hr' I2.env0 h1 h2 (cells_later C1 un) .nil h3) fun rr s' hq => ?_)
      cases rr with
      | error e => exact tk e s' (XE.of_call I2 (fun cls d H' h => hW cls d σZ H' I2.len h) hq)
      | ok fl =>
        cases fl with
        | ret u => exact I2.after hq
        | next => exact False.elim hq
        | brk => exact False.elim hq
        | cont => exact False.elim hq
    have body : ∃ t, PSs (cxOf CX0 X.prog X.w X.K X.mg X.base ["deed", "refused"] "answered" (defScope s_answered) T.f_answered cdv X.A X.stack s1 H E0).nox (defBody s_answered) t ∧ t { nx := fun _ H' => Q .non H', rt := Q } (L2.start ["deed", "refused"] [.ref f]) H := by
      refine ⟨_, pss_one (ps_try_as (X := (cxOf CX0 X.prog X.w X.K X.mg X.base ["deed", "refused"] "answered" (defScope s_answered) T.f_answered cdv X.A X.stack s1 H E0).nox) (i := 1) (c := .ref T.cRefused)
        (ts := fun a cls d => tRet (tCB (fun xs H Q => ∃ p ys, xs = [.ref p] ∧ (SqL X.K H p ys ∨ SqT X.K H p ys) ∧ ∀ l, H l = none → Q (.ref l) (upd H l (.lst ys))) (tCons (tXf a cls d T.cRefused "told" (tVar 1)) tNil)))
        (tb := fun W D σZ HZ => ∃ Ech : XK, (∀ cls d (σ' : L2.St) H', σ'.length = 2 → Ech cls d H' → W cls d σ' H') ∧ σZ[0]? = some (some (.ref f)) ∧ HZ f = some (FnO f (mk c')) ∧ HZ (mk c').c = some (CodeO (mk c').c (mk c').qual) ∧ sp f c' (js.map (slotAt σ)) [] HZ D.rt Ech)
        rfl rfl sc_answered.nd rfl rfl ⟨rfl, by decide, .inl T.g_cRefused⟩ L2.takes0 (fun W pn xe tk _ => ?_)
        (fun a oe cls d pn hz hf => pss_one (ps_ret (pe_callTy (T := "list") call_list_of (by rfl) T.z_list (by decide +kernel) (pa_cons (pe_xf T.ref_xf T.n_Refused_told hz hf (pv 1)) pa_nil))))), ?_⟩
      · refine ⟨fun pins' s' σ' H' D I' h' => ?_⟩
        obtain ⟨Ech, hW, h1, h2, h3, h4⟩ := h'
        exact (pss_one (ps_ret (act W pn xe Ech _ _ tk hW))).run pins' s' σ' H' D I' ⟨h1, h2, h3, h4⟩
      · refine ⟨EA T.cRefused Q, fun cls d σ' H' hlen hEA => ?_, rfl, hf, hc, hsp⟩
        obtain ⟨rfl, dd, l, xs, rfl, h1, h2, h3⟩ := hEA
        refine ⟨true, T.ref_te, fun _ a ha => ?_, fun z => Bool.noConfusion z⟩
        exact ⟨_, List.getElem?_set_self (by omega), rfl, rfl, dd, _, .ref l, rfl, h1, lk_here, l, xs, rfl, .inl (SqL.of h2), fun p hp => h3 p hp⟩
    obtain ⟨t, ht, hq⟩ := body
    exact ⟨t, ht.nox, hq⟩
  refine wpAny_call (codeAny_mono rc fun rr s2 hq => ?_)
  cases rr with
  | error e => exact (show False from hq).elim
  | ok fl =>
    cases fl with
    | ret u => exact I1.after hq
    | next => exact False.elim hq
    | brk => exact False.elim hq
    | cont => exact False.elim hq
end RR
namespace RR
open PySem PySem.Spec PyProof.Rows L2 LamX NdefX
abbrev s_judged : Stmt := (defBody s_judge).getD 0 (.Pass ⟨0, 0, 0, 0⟩)
section
variable {P : Program} {w : World} {K : PySem.W.Frag} {mg : Str → Option Value} {base : Heap}
/-- the function judged, made by judge -/
def mkJ (cells : List (Str × Addr)) (c' : Addr) : NF := NF.of s_judged "judged" "judge.<locals>.judged" (cloFrom cells (C8.fnScope s_judged).names []) c'
theorem hnd_judged : ndefB (defScope s_judge) (C8.fnScope s_judged) ["card", "result"] = true := by decide +kernel
theorem qual_judged : ("judge.<locals>.judged" : Str) = (("judge" : Str) ++ Str.ofString ".<locals>.") ++ ("judged" : Str) := by decide +kernel
theorem nsc_judged : NScope ["card", "result"] [] ["card", "result"] (C8.fnScope s_judged) := nscope_by (by decide +kernel)
def spJudged (K : PySem.W.Frag) (CR : Addr) : List (Option V) → Sp := fun ws vs H Q E => ∃ (x y : Addr) (card res : W), vs = [] ∧ ws = [some (.ref x), some (.ref y)] ∧ SqL K H x (wv card) ∧ SqL K H y (wv res) ∧ card.length ≤ 66000 ∧ res.length ≤ 66000 ∧
  (MR.judge card res ≠ [0] → Ref CR E (MR.judge card res)) ∧ (MR.judge card res = [0] → ∀ (H' : Hp) (l : Addr), H' l = some (.lst [.int 0]) → Q (.ref l) H')
theorem ok_judged (T : Tx K mg) (cells : List (Str × Addr)) (f c' : Addr) : NOk P w K mg base (L2.CX P w) 11 f (mkJ cells c') [] ["card", "result"] (spJudged K T.cRefused) := by
  have GB : FnOk P w K mg base (L2.CX P w) 10 T.f_read_both T.d_read_both ["card", "result"] (spReadBoth K T.cRefused) := ok_read_both T
  refine nok_of (N := ["card", "result"]) nsc_judged (fun _ _ _ us hl => match us, hl with | [], _ => rfl) (fun ws vs H Q E h => ?_) (fun A outer s H vs ws Q E hr hf hc hl h => ⟨_,
    pss_cons (ps_expr (pe_call GB hr rfl T.read_both.g T.read_both.me.F.kp T.read_both.me.b .nil (psx (E := E) (takes_of rfl rfl rfl rfl)) (by exact (pa_cons (pv 0) (pa_cons (pv 1) pa_nil)))))
    (pss_one (ps_ret (pe_lst (pa_cons pe_int pa_nil)))), ?_⟩)
  · obtain ⟨x, y, card, res, rfl, _⟩ := h; rfl
  · obtain ⟨x, y, card, res, rfl, rfl, hx, hy, hcl, hrl, qE, qO⟩ := h
    exact ⟨_, rfl, _, rfl, x, y, card, res, rfl, hx, hy, hcl, hrl, qE, fun hj H1 p s1 => ⟨by show 1 ≤ sizeLine; decide, fun l hl => qO hj _ l upd_same⟩⟩
theorem sqL_extN {K : PySem.W.Frag} {H H' : Hp} {a : Addr} {xs : List V} (h : SqL K H a xs) (e : ExtN H H') : SqL K H' a xs := by
  rcases h with (h | ⟨z, h⟩) | h
  · exact .inl (.inl (e _ _ h (fun _ z => by cases z)))
  · exact .inl (.inr ⟨z, e _ _ h (fun _ z => by cases z)⟩)
  · exact .inr h
def spJudge (K : PySem.W.Frag) (Pt : Addr) : Sp := fun vs H Q _ => ∃ (x y : Addr) (card res : W), vs = [.ref x, .ref y] ∧ SqL K H x (wv card) ∧ SqL K H y (wv res) ∧ card.length ≤ 66000 ∧ res.length ≤ 66000 ∧ H Pt = some (.tbl #[]) ∧
  ∀ (H' : Hp) (l : Addr), H' l = some (.lst ((MR.judge card res).map V.int)) → Q (.ref l) H'
theorem ok_judge (T : Tx K mg) {c Pt : Addr} (TB : TabB base mg c Pt) (hc : T.d_judge.code = .ref c) : FnOk P w K mg base CX0 13 T.f_judge T.d_judge ["card", "result"] (spJudge K Pt) := by
  refine Fun.okC T.judge.me.F sc_judge (fun vs H Q E h => ?_) hc (fun A outer s H vs Q E hr h => ⟨_,
    pss_cons (ps_ndef (T := [(Pt, fun _ _ => "judge.<locals>.judged")]) (nm := fun _ _ => "judge.<locals>.judged") (i := 2) TB rfl (List.mem_singleton.mpr rfl) qual_judged (fun p hp _ => by rw [List.mem_singleton.mp hp]) (ndef_free hnd_judged) rfl rfl rfl sc_judge.nd rfl (Or.inl rfl) (Or.inl rfl))
    (pss_one (ps_ret (pe_answered (mk := mkJ (envOfC "judge" (defScope s_judge) s.heap.objs.size T.f_judge (.ref c)).cells) (fr := ["card", "result"]) (js := [0, 1]) (i := 2) (sp := fun _ _ => spJudged K T.cRefused) T (fun f c' => ok_judged T _ f c') (fun _ => rfl) (cl := cloFrom (envOfC "judge" (defScope s_judge) s.heap.objs.size T.f_judge (.ref c)).cells (C8.fnScope s_judged).names []) (fun ok => Caps.made (scope := C8.fnScope s_judged) ok (ndef_free hnd_judged) (ndef_fr hnd_judged) rfl) hr rfl rfl (Or.inl rfl)))), ?_⟩)
  · obtain ⟨x, y, card, res, rfl, _⟩ := h; rfl
  · obtain ⟨x, y, card, res, rfl, hx, hy, hcl, hrl, hP, q⟩ := h
    refine ⟨fun p hp => by rw [List.mem_singleton.mp hp]; exact TabN.nil hP, fun f c' H1 eN T1 f0 f1 c1 => ?_⟩
    refine ⟨f, c', rfl, f1, c1, x, y, card, res, rfl, rfl, sqL_extN hx eN, sqL_extN hy eN, hcl, hrl, fun _ => ?_, fun hj H2 l hl => ?_⟩
    · exact fun d l H2 h1 h2 => ⟨rfl, d, l, _, rfl, h1, h2, fun p hp => q _ p upd_same⟩
    · refine q H2 l ?_
      rw [hj]
      exact hl
end
end RR
namespace RR
open PySem PySem.Spec PyProof.Rows L2 LamX NdefX
open PySem.W (WData Codec OpenSpec Well WellAll ReadsW ReadsAllW)
/-- the call of a Spec row's def that makes a def: c its code object, Pt the table -/
theorem spec_callT {P : Program} {w : World} {K : PySem.W.Frag} {mg mb : Str → Option Value} {k : Nat} {fa c Pt : Addr} {fd : FuncData} {ps : List Str} {sp : Sp} {s₁ : Shared} {vals : List Value} {ds : List WData} {R : PySem.W.WRecords} {cl : Str → Option Addr} {d0 : WData}
    (KX : K.In s₁.heap) (hns : s₁.heap.Ns mainGlobals mg) (hb : s₁.heap.Ns builtinsNs mb) (hbb : ∀ x : Str, x ≠ "__name__" → mb x = bootBuiltins x) (hlim : s₁.heap.NoLimit) (hg : s₁.gens = #[])
    (hT : s₁.heap.get? Pt = some { cls := .none, data := .fields #[] }) (nT : K.lookup Pt = none) (C : PySem.W.CodeHd s₁.heap c Pt)
    (hbm : ∃ (bm : Addr) (ob : Obj), mg "__builtins__" = some (.ref bm) ∧ bm ≠ builtinsNs ∧ s₁.heap.get? bm = some ob ∧ ob.cls = .type "module" ∧ ob.dict = some builtinsNs ∧ ob.data = .plain)
    (hwl : WellAll w.params s₁.heap vals ds) (hpl : plWs ds = true) (hwt : ∀ d ∈ ds, d.weight ≤ 1048576) (hr : Room k callerA)
    (F : ∀ base : Heap, K.In base → base.Ns mainGlobals mg → TabB base mg c Pt → FnOk P w K mg base CX0 k fa fd ps sp) (hbind : ∀ us : List Value, us.length = ps.length → BindsTo s₁ fd ⟨us, []⟩ (ps.zip us)) (hlen : ds.length = ps.length)
    (hsp : ∀ (H0 H : Hp) (xs : List V), Same H0 H → H Pt = some (.tbl #[]) → DwAll K H0 xs ds → sp xs H (fun v H' => Dw K H' v d0) fun _ _ _ => False) :
    codeAny (model P w) callerA (.call (.ref fa) ⟨vals, []⟩) (fun r s' => ∃ u as, r = .ok (.ret u) ∧ ReadsW R cl s'.heap u d0 as ∧ OldK s₁.heap s'.heap ∧ s'.os = s₁.os ∧ AllBare s'.gens) s₁ := by
  obtain ⟨A, ho, ar⟩ := area_all ds vals hwl hpl hwt
  have hS := dw_all KX ar ds vals hwl hpl ho
  have hV := vals_toV ho
  have nP0 : argH K s₁.heap A Pt = none := by
    cases q : argH K s₁.heap A Pt with
    | none => rfl
    | some u =>
      obtain ⟨_, vs, _, _, ⟨e2, _⟩ | ⟨e2, _⟩⟩ := argH_is ar q
      · rw [hT] at e2
        have := congrArg Obj.data (Option.some.inj e2)
        cases this
      · rw [hT] at e2
        have := congrArg Obj.data (Option.some.inj e2)
        cases this
  have hP : (upd (argH K s₁.heap A) Pt (.tbl #[])) Pt = some (.tbl #[]) := upd_same
  have hsame : Same (argH K s₁.heap A) (upd (argH K s₁.heap A) Pt (.tbl #[])) := Same.new nP0
  have hok : HOk P w (upd (argH K s₁.heap A) Pt (.tbl #[])) s₁.heap := fun b u q => by
    by_cases hb : b = Pt
    · rw [hb, upd_same] at q
      have q := Option.some.inj q
      subst q
      rw [hb]
      exact hT
    · rw [upd_ne hb] at q
      obtain ⟨_, vs, h1, h2, ⟨e, rfl⟩ | ⟨e, rfl⟩⟩ := argH_is ar q
      · exact ⟨e, by rw [List.length_map]; exact h1, vs, _, vals_toV h2, e⟩
      · exact ⟨e, by rw [List.length_map]; exact h1, vs, vals_toV h2, _, e, rfl, _, rfl⟩
  have hO : ∀ b, b = Pt ∨ (upd (argH K s₁.heap A) Pt (.tbl #[])) b = none ∨ ∃ o u, (upd (argH K s₁.heap A) Pt (.tbl #[])) b = some (.frz o u) := fun b => by
    by_cases hb : b = Pt
    · exact .inl hb
    · rw [upd_ne hb]
      exact .inr (argH_only ar b)
  have hK : ∀ b u, (upd (argH K s₁.heap A) Pt (.tbl #[])) b = some u → K.lookup b = none := fun b u q => by
    by_cases hb : b = Pt
    · rw [hb]; exact nT
    · rw [upd_ne hb] at q
      exact (argH_is ar q).1
  have noS : ∀ {b : Addr} {o : Obj}, s₁.heap.get? b = some o → (∀ vs n, o.data ≠ .seq vs n) → o.data ≠ .fields #[] → (upd (argH K s₁.heap A) Pt (.tbl #[])) b = none := fun {b o} e n1 n2 => by
    by_cases hb : b = Pt
    · rw [hb, hT] at e
      have e := Option.some.inj e
      subst e
      exact absurd rfl n2
    · rw [upd_ne hb]
      cases q : argH K s₁.heap A b with
      | none => rfl
      | some u =>
        obtain ⟨_, vs, _, _, ⟨e2, _⟩ | ⟨e2, _⟩⟩ := argH_is ar q
        · rw [e2] at e
          have e := Option.some.inj e
          subst e
          exact absurd rfl (n1 _ _)
        · rw [e2] at e
          have e := Option.some.inj e
          subst e
          exact absurd rfl (n1 _ _)
  have noA : ∀ {b : Addr} {o : Obj} {es : Array DictEntry} {ep : Nat}, s₁.heap.get? b = some o → o.data = .dict es ep → (upd (argH K s₁.heap A) Pt (.tbl #[])) b = none := fun {b o es ep} e d => noS e (fun vs n z => by rw [d] at z; cases z) (fun z => by rw [d] at z; cases z)
  have hspH := hsp _ _ (vals.map toV) hsame hP hS
  generalize upd (argH K s₁.heap A) Pt (.tbl #[]) = H at hP hok hO hK noS noA hspH
  have base_of : ∀ {b : Addr} {o : Obj}, s₁.heap.get? b = some o → H b = none → (hidT s₁.heap H).get? b = some o := fun e n => hidT_get e n
  have nsK : ∀ {b : Addr} {m : Str → Option Value}, s₁.heap.Ns b m → (hidT s₁.heap H).Ns b m := fun {b m} ⟨o, es, ep, e, d, r⟩ => ⟨o, es, ep, base_of e (noA e d), d, r⟩
  have nK : ∀ b o, K.lookup b = some o → H b = none := fun b o e => by
    cases q : H b with
    | none => rfl
    | some u =>
      rw [hK b u q] at e
      cases e
  have hKb : K.In (hidT s₁.heap H) := fun b o e => base_of (KX b o e) (nK b o e)
  have hM : Mod K mg (hidT s₁.heap H) := ⟨hKb, nsK hns, ⟨mb, nsK hb, hbb⟩, let ⟨mc, h1, h2⟩ := hlim; ⟨mc, nsK h1, h2⟩⟩
  have e0 : Env0 P w K mg (hidT s₁.heap H) callerA [] s₁ H := ⟨rfl, hM, fun b o e => of_hidT e, Nat.le_of_eq (hidT_size _ _), trivial, fun b hb => absurd (show b ∈ ([] : List Addr) from hb) (by simp), hok, .of_eq hg⟩
  have TB : TabB (hidT s₁.heap H) mg c Pt := by
    refine ⟨?_, ?_, fun z => ?_⟩
    · obtain ⟨o, us, file, tf, flags, tg, inF, text, tt, e1, r1, r2, r3, r4, r5, r6, r7, r8, hne⟩ := C
      refine ⟨o, us, file, tf, flags, tg, inF, text, tt, base_of e1 (noS e1 (fun vs n z => ?_) fun z => ?_), r1, r2, r3, r4, r5, r6, r7, r8, hne⟩
      · rw [r2] at z
        cases z
      · rw [r2] at z
        cases z
        simp at r3
    · obtain ⟨bm, ob, b1, b2, b3, b4, b5, b6⟩ := hbm
      have nG : bm ≠ mainGlobals := fun q => by
        obtain ⟨o, es, ep, e, hd, _⟩ := hns
        rw [q, e] at b3
        cases b3
        rw [hd] at b6
        cases b6
      have nP : bm ≠ Pt := fun q => by
        rw [q, hT] at b3
        cases b3
        cases b6
      refine ⟨bm, ob, b1, b2, nG, nP, base_of b3 (noS b3 (fun vs n z => ?_) fun z => ?_), b4, b5, b6⟩
      · rw [b6] at z
        cases z
      · rw [b6] at z
        cases z
    · obtain ⟨o, es, ep, e, hd, _⟩ := hns
      rw [z, hT] at e
      cases e
      cases hd
  have hl : vals.length = ps.length := by rw [wellAll_len hwl]; exact hlen
  refine codeAny_mono ((F _ hKb (nsK hns) TB).run callerA [] s₁ H ⟨vals, []⟩ vals (vals.map toV) _ _ hr e0 (hbind vals hl) hV hspH) fun r s' x => ?_
  cases r with
  | error e => exact (show False from x).elim
  | ok fl =>
    cases fl with
    | next => exact False.elim x
    | brk => exact False.elim x
    | cont => exact False.elim x
    | ret u =>
      obtain ⟨v, H', os, bare, un, hok', r', q⟩ := x
      have kept : ∀ b o, b ≠ Pt → s₁.heap.get? b = some o → s'.heap.get? b = some o := fun b o nb e => by
        rcases hO b with z | z | ⟨ob, u3, z⟩
        · exact absurd z nb
        · exact un.keep b o e z (by intro z; exact absurd (show b ∈ ([] : List Addr) from z) (by simp)) (by simp)
        · have z2 := un.frzs b ob _ z
          obtain ⟨e1, _⟩ := hok b _ z
          obtain ⟨e2, _⟩ := hok' b _ z2
          rw [e] at e1
          cases e1
          exact e2
      obtain ⟨more, hmore⟩ := un.tbls Pt #[] hP
      have hgrown : s'.heap.get? Pt = some { cls := .none, data := .fields (#[] ++ more) } := hok' Pt _ hmore
      have KX' : K.In s'.heap := fun b o e => kept b o (fun z => by rw [z, nT] at e; cases e) (KX b o e)
      obtain ⟨as, hrd⟩ := Dw.reads (R := R) (cl := cl) hok' KX' d0 v u q r'
      refine ⟨u, as, rfl, hrd, ⟨fun b o e => ?_, fun b o e => ?_⟩, os, bare⟩
      · by_cases hb : b = Pt
        · rw [hb] at e ⊢
          rw [hT] at e
          cases e
          exact .inr (.inl ⟨(C.tab hT).isCodeTable, rfl, #[], more, rfl, hgrown⟩)
        · exact .inl (kept b o hb e)
      · by_cases hb : b = Pt
        · rw [hb]
          exact ⟨_, hgrown⟩
        · exact ⟨o, kept b o hb e⟩
/-- the end of the row -/
theorem fin_specT {r : OpenSpec} {k : Nat} {q : Program} {loose : List Str} {XP : (Str → Option Value) → Heap → Prop} {w : World} {s₀ s₁ : Shared} {mg mb : Str → Option Value} {K : PySem.W.Frag} {ps : List Str} {sp : Sp} {fa c Pt : Addr} {fd : FuncData} {args : List WData} {vals : List Value}
    (hwell : r.wellSaid = true) (hlen : r.args.length = ps.length) (hr : Room k callerA) (KX : K.In s₁.heap) (G : PySem.W.Ground q loose [] XP w s₀ mg mb s₁.heap) (hg : s₁.gens = #[]) (hT : PySem.W.CodeHd s₁.heap c Pt ∧ s₁.heap.get? Pt = some (PySem.W.tabObj #[])) (nT : K.lookup Pt = none)
    (hpre : r.pre args = true) (hlay : WData.layableAll args = true) (hwl : WellAll w.params s₁.heap vals args) (hbind : ∀ us : List Value, us.length = ps.length → BindsTo s₁ fd ⟨us, []⟩ (ps.zip us))
    (F : ∀ base : Heap, K.In base → base.Ns mainGlobals mg → TabB base mg c Pt → FnOk r.prog w K mg base CX0 k fa fd ps sp)
    (hsp : ∀ (H0 H : Hp) (xs : List V) (a : Codec.denoteAll r.args), Same H0 H → H Pt = some (.tbl #[]) → Codec.withinAll r.args a = true → Codec.app r.args r.asked a = true → DwAll K H0 xs (Codec.encAll r.args a) → sp xs H (fun v H' => Dw K H' v (r.ret.enc (Codec.app r.args r.f a))) fun _ _ _ => False) :
    wpAny (model r.prog w) callerA (PySem.call (.ref fa) vals) (fun v s' => PySem.W.GoodWG r.claim (classAt s₀.heap) (ExcName.means s₀.heap) args s₁ (.ok (.ret v)) s')
      (fun e s' => PySem.W.GoodWG r.claim (classAt s₀.heap) (ExcName.means s₀.heap) args s₁ (.error e) s') s₁ := by
  obtain ⟨a, e1, e2⟩ := PySem.W.os_pre_some hpre
  obtain ⟨e3, hwi⟩ := Codec.encAll_of_decAll r.args args a e1
  subst e3
  refine PySem.W.enter_call (codeAny_mono (spec_callT (R := []) (cl := classAt s₀.heap) (d0 := r.ret.enc (Codec.app r.args r.f a)) KX G.T.g G.T.b G.T.builtins G.T.nolimit hg hT.2 nT hT.1 G.T.bmain hwl (pl_encAll _ _) (layable_weight hlay) hr F hbind (by rw [encAll_len]; exact hlen)
    (fun H0 H xs h1 h2 hS => hsp H0 H xs a h1 h2 hwi e2 hS)) fun r' s' hq => ?_)
  obtain ⟨u, as', rfl, h1, h2, h3, h4⟩ := hq
  exact ⟨.inl ⟨u, _, as', rfl, fun _ => rfl, h1, (OpenSpec.post_iff hwell hwi _ _).mpr rfl, fun z => Bool.noConfusion (show false = true from z)⟩, h2, h3, h4⟩
/-- judge's code object -/
theorem code_of {K : PySem.W.Frag} {mg : Str → Option Value} {h : Heap} {o : Obj} {fd : FuncData} (T : Tx K mg) (KX : K.In h) (ho : h.get? T.f_judge = some o) (hd : o.data = .func fd) : T.d_judge.code = fd.code := by
  obtain ⟨oc, od, kV, doc, pm, an, cdv, ct, osl, efd, lk, _⟩ := T.judge.me.F.ex
  have e := KX _ _ lk
  rw [ho] at e
  have e := Option.some.inj e
  rw [e] at hd
  have hd : Data.func T.d_judge = Data.func fd := hd
  injection hd with hd
  rw [hd]
/-- the plain law, by the codecs -/
theorem law_S {K : PySem.W.Frag} {Pt : Addr} (H0 H : Hp) (xs : List V) (card res : List Int) (hs : Same H0 H) (hP : H Pt = some (.tbl #[])) (hw : Codec.withinAll [.list 0 66000 (.int 0 255), .list 0 66000 (.int 0 255)] (card, res, ()) = true)
    (hD : DwAll K H0 xs [.list (card.map WData.int), .list (res.map WData.int)]) : spJudge K Pt xs H (fun v H' => Dw K H' v (.list ((PyWqaqcn.judge card res).map WData.int))) fun _ _ _ => False := by
  have hw : (((decide (0 ≤ card.length) && decide (card.length ≤ 66000)) && card.all fun z => decide (0 ≤ z) && decide (z ≤ 255)) && (((decide (0 ≤ res.length) && decide (res.length ≤ 66000)) && res.all fun z => decide (0 ≤ z) && decide (z ≤ 255)) && true)) = true := hw
  simp only [Bool.and_eq_true, decide_eq_true_eq, List.all_eq_true] at hw
  obtain ⟨⟨⟨_, h1⟩, h2⟩, ⟨⟨_, h3⟩, h4⟩, _⟩ := hw
  cases hD with
  | cons d1 dr =>
    cases dr with
    | cons d2 dn =>
      cases dn
      cases d1 with
      | lst l1 a1 =>
        cases d2 with
        | lst l2 a2 =>
          have e1 := ints_dw _ _ a1
          have e2 := ints_dw _ _ a2
          subst e1 e2
          refine ⟨_, _, card, res, rfl, Same.seq hs l1, Same.seq hs l2, h1, h3, hP, fun H' l hl => ?_⟩
          rw [ML.judge_eq card res h2 h4]
          exact .lst (SqL.of hl) (dw_ints _)
end RR
open PySem PySem.W PyProof.Rows
set_option maxRecDepth 100000 in
set_option maxHeartbeats 0 in
theorem PySem.Challenge.cw_raceresults_s01_judge_holds : PySem.Challenge.rw_raceresults_s01_judge.Holds := by
  w_on; k_headS; (case hw => exact ⟨[.list [], .list []], by decide +kernel, by decide +kernel⟩)
  k_fillS
  intro w s₀ s₁ mg mb G0 Y fa o pm cd doc dV kV ho hd hcd hD hmg hg args vals as hpre hlay hrd hwl hlo
  have KX := kIn_of Y
  have T9 := G0.T
  kn_lay T9 hmg ho hd cd
  have G := G0.T.g
  refine' Nonempty.elim (RR.tx_mk KX G ?z_len ?z_range ?z_tuple ?z_all ?z_enumerate ?z_zip ?z_list ?z_ord ?g_NEWLINE ?g_BLANK ?g_LAST_SIGN ?g_LONGEST_TEXT ?g_LONGEST_NAME ?g_NO_CARD ?g_TOO_LONG ?g_FAULTY ?g_MOST_RACES ?g_MOST_POOLS ?g_MOST_COUPLES ?g_PLACE ?g_LEGS ?g_NOT_ENDED ?g_BAD_BYTE ?g_BAD_WORD ?g_BAD_NUMBER ?g_EQUAL ?g_COMMA ?g_CAME ?g_VOID ?g_KINDS ?l_KINDS ?g_LEAST_K ?l_LEAST_K ?g_MOST_K ?l_MOST_K ?g_NONES ?l_NONES ?g_cRefused ?n_Refused_told ?g_cRace ?pg_Race ?hd_Race ?po_Race ?sa_Race ?mk_Race ?kc_Race ?n_Race_many ?n_Race_heads_of ?g_cPool ?pg_Pool ?hd_Pool ?po_Pool ?sa_Pool ?mk_Pool ?kc_Pool ?n_Pool_kind ?n_Pool_many ?n_Pool_race ?g_cCard ?pg_Card ?hd_Card ?po_Card ?sa_Card ?mk_Card ?kc_Card ?n_Card_races ?n_Card_pools ?n_Card_names ?g_cLine ?pg_Line ?hd_Line ?po_Line ?sa_Line ?mk_Line ?kc_Line ?n_Line_words ?n_Line_at ?g_cOutcome ?pg_Outcome ?hd_Outcome ?po_Outcome ?sa_Outcome ?mk_Outcome ?kc_Outcome ?n_Outcome_state ?n_Outcome_groups ?n_Outcome_out ?g_cWords ?pg_Words ?hd_Words ?po_Words ?sa_Words ?mk_Words ?kc_Words ?n_Words_words ?n_Words_places ?n_Words_ending ?n_Words_at ?n_Words_told ?a_refused_init ?l_refused_init ?c_refused_init ?k_refused_init ?a_ask ?l_ask ?c_ask ?k_ask ?a_spelled ?l_spelled ?c_spelled ?k_spelled ?a_parted ?l_parted ?c_parted ?k_parted ?a_is_small ?l_is_small ?c_is_small ?k_is_small ?a_is_figure ?l_is_figure ?c_is_figure ?k_is_figure ?a_is_name ?l_is_name ?c_is_name ?k_is_name ?a_number_of ?l_number_of ?c_number_of ?k_number_of ?a_race_init ?i_race_init ?l_race_init ?c_race_init ?k_race_init ?a_race_all_interests ?i_race_all_interests ?l_race_all_interests ?c_race_all_interests ?k_race_all_interests ?a_race_couple ?i_race_couple ?l_race_couple ?c_race_couple ?k_race_couple ?a_pool_init ?i_pool_init ?l_pool_init ?c_pool_init ?k_pool_init ?a_pool_its_races ?i_pool_its_races ?l_pool_its_races ?c_pool_its_races ?k_pool_its_races ?a_card_init ?i_card_init ?l_card_init ?c_card_init ?k_card_init ?a_card_race_at ?i_card_race_at ?l_card_race_at ?c_card_race_at ?k_card_race_at ?a_line_init ?i_line_init ?l_line_init ?c_line_init ?k_line_init ?a_line_has_more ?i_line_has_more ?l_line_has_more ?c_line_has_more ?k_line_has_more ?a_line_word ?i_line_word ?l_line_word ?c_line_word ?k_line_word ?a_line_must ?i_line_must ?l_line_must ?c_line_must ?k_line_must ?a_line_number ?i_line_number ?l_line_number ?c_line_number ?k_line_number ?a_line_choice ?i_line_choice ?l_line_choice ?c_line_choice ?k_line_choice ?a_line_end ?i_line_end ?l_line_end ?c_line_end ?k_line_end ?a_need_cards ?l_need_cards ?c_need_cards ?k_need_cards ?a_read_race ?l_read_race ?c_read_race ?k_read_race ?a_read_pool ?l_read_pool ?c_read_pool ?k_read_pool ?a_read_terms ?l_read_terms ?c_read_terms ?k_read_terms ?a_read_day ?l_read_day ?c_read_day ?k_read_day ?a_read_card ?l_read_card ?c_read_card ?k_read_card ?a_outcome_init ?i_outcome_init ?l_outcome_init ?c_outcome_init ?k_outcome_init ?a_words_init ?i_words_init ?l_words_init ?c_words_init ?k_words_init ?a_words_has_more ?i_words_has_more ?l_words_has_more ?c_words_has_more ?k_words_has_more ?a_words_place ?i_words_place ?l_words_place ?c_words_place ?k_words_place ?a_words_word ?i_words_word ?l_words_word ?c_words_word ?k_words_word ?a_words_sees ?i_words_sees ?l_words_sees ?c_words_sees ?k_words_sees ?a_words_choice ?i_words_choice ?l_words_choice ?c_words_choice ?k_words_choice ?a_words_runners ?i_words_runners ?l_words_runners ?c_words_runners ?k_words_runners ?a_words_end ?i_words_end ?l_words_end ?c_words_end ?k_words_end ?a_need_outcomes ?l_need_outcomes ?c_need_outcomes ?k_need_outcomes ?a_ask_bytes ?l_ask_bytes ?c_ask_bytes ?k_ask_bytes ?a_read_came ?l_read_came ?c_read_came ?k_read_came ?a_read_line ?l_read_line ?c_read_line ?k_read_line ?a_read_result ?l_read_result ?c_read_result ?k_read_result ?a_answered ?l_answered ?c_answered ?k_answered ?a_read_both ?l_read_both ?c_read_both ?k_read_both ?a_judge ?l_judge ?c_judge ?k_judge ?x_l ?x_sa ?x_ga ?x_gg ?x_ex ?x_ty ?x_kc ?x_hd ?x_ic ?x_ss ?x_ti) (fun T => ?rest)
  (case z_len => k_is)
  (case z_range => k_is)
  (case z_tuple => k_is)
  (case z_all => k_is)
  (case z_enumerate => k_is)
  (case z_zip => k_is)
  (case z_list => k_is)
  (case z_ord => k_is)
  (case g_NEWLINE => k_is)
  (case g_BLANK => k_is)
  (case g_LAST_SIGN => k_is)
  (case g_LONGEST_TEXT => k_is)
  (case g_LONGEST_NAME => k_is)
  (case g_NO_CARD => k_is)
  (case g_TOO_LONG => k_is)
  (case g_FAULTY => k_is)
  (case g_MOST_RACES => k_is)
  (case g_MOST_POOLS => k_is)
  (case g_MOST_COUPLES => k_is)
  (case g_PLACE => k_is)
  (case g_LEGS => k_is)
  (case g_NOT_ENDED => k_is)
  (case g_BAD_BYTE => k_is)
  (case g_BAD_WORD => k_is)
  (case g_BAD_NUMBER => k_is)
  (case g_EQUAL => k_is)
  (case g_COMMA => k_is)
  (case g_CAME => k_is)
  (case g_VOID => k_is)
  (case g_KINDS => k_is)
  (case l_KINDS => k_is)
  (case g_LEAST_K => k_is)
  (case l_LEAST_K => k_is)
  (case g_MOST_K => k_is)
  (case l_MOST_K => k_is)
  (case g_NONES => k_is)
  (case l_NONES => k_is)
  (case g_cRefused => k_is)
  (case n_Refused_told => k_is)
  (case g_cRace => k_is)
  (case pg_Race => k_is)
  (case hd_Race => k_is)
  (case po_Race => k_is)
  (case sa_Race => k_is)
  (case mk_Race => k_is)
  (case kc_Race => k_is)
  (case n_Race_many => k_is)
  (case n_Race_heads_of => k_is)
  (case g_cPool => k_is)
  (case pg_Pool => k_is)
  (case hd_Pool => k_is)
  (case po_Pool => k_is)
  (case sa_Pool => k_is)
  (case mk_Pool => k_is)
  (case kc_Pool => k_is)
  (case n_Pool_kind => k_is)
  (case n_Pool_many => k_is)
  (case n_Pool_race => k_is)
  (case g_cCard => k_is)
  (case pg_Card => k_is)
  (case hd_Card => k_is)
  (case po_Card => k_is)
  (case sa_Card => k_is)
  (case mk_Card => k_is)
  (case kc_Card => k_is)
  (case n_Card_races => k_is)
  (case n_Card_pools => k_is)
  (case n_Card_names => k_is)
  (case g_cLine => k_is)
  (case pg_Line => k_is)
  (case hd_Line => k_is)
  (case po_Line => k_is)
  (case sa_Line => k_is)
  (case mk_Line => k_is)
  (case kc_Line => k_is)
  (case n_Line_words => k_is)
  (case n_Line_at => k_is)
  (case g_cOutcome => k_is)
  (case pg_Outcome => k_is)
  (case hd_Outcome => k_is)
  (case po_Outcome => k_is)
  (case sa_Outcome => k_is)
  (case mk_Outcome => k_is)
  (case kc_Outcome => k_is)
  (case n_Outcome_state => k_is)
  (case n_Outcome_groups => k_is)
  (case n_Outcome_out => k_is)
  (case g_cWords => k_is)
  (case pg_Words => k_is)
  (case hd_Words => k_is)
  (case po_Words => k_is)
  (case sa_Words => k_is)
  (case mk_Words => k_is)
  (case kc_Words => k_is)
  (case n_Words_words => k_is)
  (case n_Words_places => k_is)
  (case n_Words_ending => k_is)
  (case n_Words_at => k_is)
  (case n_Words_told => k_is)
  (case a_refused_init => k_is)
  (case l_refused_init => k_is)
  (case c_refused_init => k_is)
  (case k_refused_init => k_is)
  (case a_ask => k_is)
  (case l_ask => k_is)
  (case c_ask => k_is)
  (case k_ask => k_is)
  (case a_spelled => k_is)
  (case l_spelled => k_is)
  (case c_spelled => k_is)
  (case k_spelled => k_is)
  (case a_parted => k_is)
  (case l_parted => k_is)
  (case c_parted => k_is)
  (case k_parted => k_is)
  (case a_is_small => k_is)
  (case l_is_small => k_is)
  (case c_is_small => k_is)
  (case k_is_small => k_is)
  (case a_is_figure => k_is)
  (case l_is_figure => k_is)
  (case c_is_figure => k_is)
  (case k_is_figure => k_is)
  (case a_is_name => k_is)
  (case l_is_name => k_is)
  (case c_is_name => k_is)
  (case k_is_name => k_is)
  (case a_number_of => k_is)
  (case l_number_of => k_is)
  (case c_number_of => k_is)
  (case k_number_of => k_is)
  (case a_race_init => k_is)
  (case i_race_init => k_is)
  (case l_race_init => k_is)
  (case c_race_init => k_is)
  (case k_race_init => k_is)
  (case a_race_all_interests => k_is)
  (case i_race_all_interests => k_is)
  (case l_race_all_interests => k_is)
  (case c_race_all_interests => k_is)
  (case k_race_all_interests => k_is)
  (case a_race_couple => k_is)
  (case i_race_couple => k_is)
  (case l_race_couple => k_is)
  (case c_race_couple => k_is)
  (case k_race_couple => k_is)
  (case a_pool_init => k_is)
  (case i_pool_init => k_is)
  (case l_pool_init => k_is)
  (case c_pool_init => k_is)
  (case k_pool_init => k_is)
  (case a_pool_its_races => k_is)
  (case i_pool_its_races => k_is)
  (case l_pool_its_races => k_is)
  (case c_pool_its_races => k_is)
  (case k_pool_its_races => k_is)
  (case a_card_init => k_is)
  (case i_card_init => k_is)
  (case l_card_init => k_is)
  (case c_card_init => k_is)
  (case k_card_init => k_is)
  (case a_card_race_at => k_is)
  (case i_card_race_at => k_is)
  (case l_card_race_at => k_is)
  (case c_card_race_at => k_is)
  (case k_card_race_at => k_is)
  (case a_line_init => k_is)
  (case i_line_init => k_is)
  (case l_line_init => k_is)
  (case c_line_init => k_is)
  (case k_line_init => k_is)
  (case a_line_has_more => k_is)
  (case i_line_has_more => k_is)
  (case l_line_has_more => k_is)
  (case c_line_has_more => k_is)
  (case k_line_has_more => k_is)
  (case a_line_word => k_is)
  (case i_line_word => k_is)
  (case l_line_word => k_is)
  (case c_line_word => k_is)
  (case k_line_word => k_is)
  (case a_line_must => k_is)
  (case i_line_must => k_is)
  (case l_line_must => k_is)
  (case c_line_must => k_is)
  (case k_line_must => k_is)
  (case a_line_number => k_is)
  (case i_line_number => k_is)
  (case l_line_number => k_is)
  (case c_line_number => k_is)
  (case k_line_number => k_is)
  (case a_line_choice => k_is)
  (case i_line_choice => k_is)
  (case l_line_choice => k_is)
  (case c_line_choice => k_is)
  (case k_line_choice => k_is)
  (case a_line_end => k_is)
  (case i_line_end => k_is)
  (case l_line_end => k_is)
  (case c_line_end => k_is)
  (case k_line_end => k_is)
  (case a_need_cards => k_is)
  (case l_need_cards => k_is)
  (case c_need_cards => k_is)
  (case k_need_cards => k_is)
  (case a_read_race => k_is)
  (case l_read_race => k_is)
  (case c_read_race => k_is)
  (case k_read_race => k_is)
  (case a_read_pool => k_is)
  (case l_read_pool => k_is)
  (case c_read_pool => k_is)
  (case k_read_pool => k_is)
  (case a_read_terms => k_is)
  (case l_read_terms => k_is)
  (case c_read_terms => k_is)
  (case k_read_terms => k_is)
  (case a_read_day => k_is)
  (case l_read_day => k_is)
  (case c_read_day => k_is)
  (case k_read_day => k_is)
  (case a_read_card => k_is)
  (case l_read_card => k_is)
  (case c_read_card => k_is)
  (case k_read_card => k_is)
  (case a_outcome_init => k_is)
  (case i_outcome_init => k_is)
  (case l_outcome_init => k_is)
  (case c_outcome_init => k_is)
  (case k_outcome_init => k_is)
  (case a_words_init => k_is)
  (case i_words_init => k_is)
  (case l_words_init => k_is)
  (case c_words_init => k_is)
  (case k_words_init => k_is)
  (case a_words_has_more => k_is)
  (case i_words_has_more => k_is)
  (case l_words_has_more => k_is)
  (case c_words_has_more => k_is)
  (case k_words_has_more => k_is)
  (case a_words_place => k_is)
  (case i_words_place => k_is)
  (case l_words_place => k_is)
  (case c_words_place => k_is)
  (case k_words_place => k_is)
  (case a_words_word => k_is)
  (case i_words_word => k_is)
  (case l_words_word => k_is)
  (case c_words_word => k_is)
  (case k_words_word => k_is)
  (case a_words_sees => k_is)
  (case i_words_sees => k_is)
  (case l_words_sees => k_is)
  (case c_words_sees => k_is)
  (case k_words_sees => k_is)
  (case a_words_choice => k_is)
  (case i_words_choice => k_is)
  (case l_words_choice => k_is)
  (case c_words_choice => k_is)
  (case k_words_choice => k_is)
  (case a_words_runners => k_is)
  (case i_words_runners => k_is)
  (case l_words_runners => k_is)
  (case c_words_runners => k_is)
  (case k_words_runners => k_is)
  (case a_words_end => k_is)
  (case i_words_end => k_is)
  (case l_words_end => k_is)
  (case c_words_end => k_is)
  (case k_words_end => k_is)
  (case a_need_outcomes => k_is)
  (case l_need_outcomes => k_is)
  (case c_need_outcomes => k_is)
  (case k_need_outcomes => k_is)
  (case a_ask_bytes => k_is)
  (case l_ask_bytes => k_is)
  (case c_ask_bytes => k_is)
  (case k_ask_bytes => k_is)
  (case a_read_came => k_is)
  (case l_read_came => k_is)
  (case c_read_came => k_is)
  (case k_read_came => k_is)
  (case a_read_line => k_is)
  (case l_read_line => k_is)
  (case c_read_line => k_is)
  (case k_read_line => k_is)
  (case a_read_result => k_is)
  (case l_read_result => k_is)
  (case c_read_result => k_is)
  (case k_read_result => k_is)
  (case a_answered => k_is)
  (case l_answered => k_is)
  (case c_answered => k_is)
  (case k_answered => k_is)
  (case a_read_both => k_is)
  (case l_read_both => k_is)
  (case c_read_both => k_is)
  (case k_read_both => k_is)
  (case a_judge => k_is)
  (case l_judge => k_is)
  (case c_judge => k_is)
  (case k_judge => k_is)
  (case x_l => k_is)
  (case x_sa => k_is)
  (case x_ga => k_is)
  (case x_gg => k_is)
  (case x_ex => k_is)
  (case x_ty => k_is)
  (case x_kc => k_is)
  (case x_hd => k_is)
  (case x_ic => k_is)
  (case x_ss => first | rfl | k_is)
  (case x_ti => k_is)
  case rest =>
    have hf : fa = T.f_judge := Value.ref.inj (Option.some.inj (hmg.symm.trans T.judge.g))
    subst hf
    refine RR.fin_specT (r := PySem.Challenge.rw_raceresults_s01_judge) (k := 13) (ps := ["card", "result"]) (sp := RR.spJudge _ _) (fd := T.d_judge) (by decide +kernel) rfl ⟨rfl, by decide, by decide⟩ KX G0 hg (hT9 _ (List.mem_singleton.mpr rfl)) ?nT hpre hlay hwl (fun us hl => ?bi) (fun base hK hN TB => RR.ok_judge T TB (RR.code_of T KX ho hd)) (fun H0 H xs a h1 h2 h3 _ h5 => ?S)
    case nT => first | k_is | kernel_rfl | rfl
    case bi =>
      have := T.judge.me.b s₁ us KX (by rw [List.append_nil]; exact hl)
      rwa [List.append_nil] at this
    case S =>
      exact RR.law_S H0 H xs (show List Int × List Int × Unit from a).1 (show List Int × List Int × Unit from a).2.1 h1 h2 h3 h5
