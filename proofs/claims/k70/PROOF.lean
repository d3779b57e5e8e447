import PyProof.Rows.All
import Wide.All
import OpenK.AllK
import Wide.FinOn
import HandS.SetBool
import HandS.Dict
import HandS.List
import PyProof.TupleKey
import PyProof.DictRoadsH
import HandS.ForMost
import HandS.ForExc
import HandS.Star
import HandS.Slots
import HandS.SlotsOwn
import HandS.Property
import HandS.Style
import HandS.Flow
import HandS.Wide
import HandS.TupAny
import HandS.TupMul
import HandS.IsInst
import HandS.SortInts
import HandS.Strs
import HandS.Zip
import HandS.Walk
import HandS.Evl
import HandS.Defaults
import PySem.Challenge.RW_allbutts_k70_whole_two_years_for_all_but
import KE.GoesEnum
import KE.GoesMore
import HandS.SetFor
import KE.KDictZip
import PyProof.InstNe
import HandS.OwnEq
import HandS.Ends
import HandS.More
import HandS.Words
import HandS.WordsExc
import HandS.Head0
import HandS.Head1
import HandS.Head2
import HandS.HeadEnd
import HandS.HeadHook1
import HandS.HeadHook2
import KE.KStateDown
set_option Elab.async false
set_option maxRecDepth 10000
/-! The walk of a butt, strikes, the ring of a year: the long run is what the swings tell. Core Lean alone. -/
namespace Bu
/-! ### the walk -/
def clamp (b y : Int) : Int := max 0 (min b y)
def lvl (b : Int) : List Int → Int → Int
  | [], x => x
  | r :: rs, x => lvl b rs (clamp b (x + r))
def bgt (b : Int) : List Int → Int → Int
  | [], _ => 0
  | r :: rs, x => max 0 (-(x + r)) + bgt b rs (clamp b (x + r))
theorem clamp_range {b y : Int} (hb : 0 ≤ b) : 0 ≤ clamp b y ∧ clamp b y ≤ b := by unfold clamp; omega
theorem lvl_append (b : Int) : ∀ (p q : List Int) (x : Int), lvl b (p ++ q) x = lvl b q (lvl b p x)
  | [], _, _ => rfl
  | _ :: p, q, x => lvl_append b p q _
theorem bgt_append (b : Int) : ∀ (p q : List Int) (x : Int), bgt b (p ++ q) x = bgt b p x + bgt b q (lvl b p x)
  | [], q, x => by show _ = 0 + _; rw [Int.zero_add]; rfl
  | r :: p, q, x => by
    show max 0 (-(x + r)) + bgt b (p ++ q) (clamp b (x + r)) = max 0 (-(x + r)) + bgt b p (clamp b (x + r)) + bgt b q (lvl b p (clamp b (x + r)))
    rw [bgt_append b p q, Int.add_assoc]
theorem lvl_range {b : Int} (hb : 0 ≤ b) : ∀ (p : List Int) {x : Int}, 0 ≤ x → x ≤ b → 0 ≤ lvl b p x ∧ lvl b p x ≤ b
  | [], _, h1, h2 => ⟨h1, h2⟩
  | r :: p, x, _, _ => lvl_range hb p (clamp_range hb (y := x + r)).1 (clamp_range hb (y := x + r)).2
/-- a higher level buys no more, ends no lower, spills no less -/
theorem mono {b : Int} (hb : 0 ≤ b) : ∀ (p : List Int) {x y : Int}, x ≤ y → bgt b p y ≤ bgt b p x ∧ lvl b p x ≤ lvl b p y ∧ x + bgt b p x - lvl b p x ≤ y + bgt b p y - lvl b p y
  | [], x, y, h => by simp only [bgt, lvl]; omega
  | r :: p, x, y, h => by
    have h1 : clamp b (x + r) ≤ clamp b (y + r) := by unfold clamp; omega
    obtain ⟨a1, a2, a3⟩ := mono hb p h1
    simp only [bgt, lvl]
    unfold clamp at *
    omega
/-- at a level at which a year ends as it begins so much is bought -/
def Steady (b : Int) (rs : List Int) (c : Int) : Prop := ∃ x, 0 ≤ x ∧ x ≤ b ∧ lvl b rs x = x ∧ bgt b rs x = c
theorem steady_one {b : Int} (hb : 0 ≤ b) {rs : List Int} {x y : Int} (hx : lvl b rs x = x) (hy : lvl b rs y = y) : bgt b rs x = bgt b rs y := by
  rcases Int.le_total x y with h | h
  · obtain ⟨a1, a2, a3⟩ := mono hb rs h
    omega
  · obtain ⟨a1, a2, a3⟩ := mono hb rs h
    omega
theorem steady_rot {b : Int} (hb : 0 ≤ b) {p q : List Int} {c : Int} (h : Steady b (p ++ q) c) : Steady b (q ++ p) c := by
  obtain ⟨x, h1, h2, h3, h4⟩ := h
  have r := lvl_range hb p h1 h2
  rw [lvl_append] at h3
  rw [bgt_append] at h4
  refine ⟨lvl b p x, r.1, r.2, ?_, ?_⟩
  · rw [lvl_append, h3]
  · rw [bgt_append, h3, ← h4, Int.add_comm]
/-- p ends as q does, and buys d more -/
def Alike (b : Int) (p q : List Int) (d : Int) : Prop := ∀ x, 0 ≤ x → x ≤ b → lvl b p x = lvl b q x ∧ bgt b p x = bgt b q x + d
theorem Alike.steady {b : Int} {p q t : List Int} {c d : Int} (h : Alike b p q d) (s : Steady b (q ++ t) c) : Steady b (p ++ t) (c + d) := by
  obtain ⟨x, h1, h2, h3, h4⟩ := s
  obtain ⟨e1, e2⟩ := h x h1 h2
  rw [lvl_append] at h3
  rw [bgt_append] at h4
  refine ⟨x, h1, h2, ?_, ?_⟩
  · rw [lvl_append, e1, h3]
  · rw [bgt_append, e1, e2, ← h4]; omega
theorem Alike.refl {b : Int} {p : List Int} : Alike b p p 0 := fun x _ _ => ⟨rfl, by rw [Int.add_zero]⟩
theorem Alike.snoc {b : Int} {p q : List Int} (h : Alike b p q 0) (r : Int) : Alike b (p ++ [r]) (q ++ [r]) 0 := fun x h1 h2 => by
  obtain ⟨e1, e2⟩ := h x h1 h2
  rw [lvl_append, lvl_append, bgt_append, bgt_append, e1, e2]
  exact ⟨rfl, by omega⟩
theorem Alike.trans {b : Int} {p q t : List Int} (h : Alike b p q 0) (k : Alike b q t 0) : Alike b p t 0 := fun x h1 h2 => by
  obtain ⟨e1, e2⟩ := h x h1 h2
  obtain ⟨k1, k2⟩ := k x h1 h2
  exact ⟨e1.trans k1, by omega⟩
/-! ### two of one sign, a strike -/
def over (b s : Int) : Int := max 0 (s - b)
theorem join_pos {b a c : Int} (hb : 0 ≤ b) (ha : 0 < a) (hc : 0 < c) : Alike b [a, c] [a + c] 0 := fun x h1 h2 => by
  simp only [lvl, bgt]; unfold clamp; omega
theorem join_neg {b a c : Int} (hb : 0 ≤ b) (ha : a < 0) (hc : c < 0) : Alike b [a, c] [a + c] 0 := fun x h1 h2 => by
  simp only [lvl, bgt]; unfold clamp; omega
theorem strike_neg {b z s c : Int} (hb : 0 ≤ b) (hz : 0 < z) (hs : s < 0) (hc : 0 < c) (h1 : -s ≤ z) (h2 : -s ≤ c) : Alike b [z, s, c] [z + s + c] (over b (-s)) := fun x h1 h2 => by
  simp only [lvl, bgt]; unfold clamp over; omega
theorem strike_pos {b z s c : Int} (hb : 0 ≤ b) (hz : z < 0) (hs : 0 < s) (hc : c < 0) (h1 : s ≤ -z) (h2 : s ≤ -c) : Alike b [z, s, c] [z + s + c] (over b s) := fun x h1 h2 => by
  simp only [lvl, bgt]; unfold clamp over; omega
/-! ### signs by turns -/
def sg (σ : Bool) (x : Int) : Prop := (σ = true → 0 < x) ∧ (σ = false → x < 0)
def alt : Bool → List Int → Prop
  | _, [] => True
  | σ, x :: r => sg σ x ∧ alt (!σ) r
def flip (σ : Bool) (n : Nat) : Bool := if n % 2 = 0 then σ else !σ
theorem flip_succ (σ : Bool) (n : Nat) : flip (!σ) n = flip σ (n + 1) := by
  unfold flip
  by_cases h : n % 2 = 0
  · rw [if_pos h, if_neg (by omega)]
  · rw [if_neg h, if_pos (by omega), Bool.not_not]
theorem alt_append : ∀ (σ : Bool) (p q : List Int), alt σ (p ++ q) ↔ alt σ p ∧ alt (flip σ p.length) q
  | σ, [], q => by
    show alt σ q ↔ True ∧ alt (flip σ 0) q
    simp [flip]
  | σ, x :: p, q => by
    show (sg σ x ∧ alt (!σ) (p ++ q)) ↔ (sg σ x ∧ alt (!σ) p) ∧ alt (flip σ (p.length + 1)) q
    rw [alt_append (!σ) p q, flip_succ, and_assoc]
theorem flip_flip (σ : Bool) (m n : Nat) : flip (flip σ m) n = flip σ (m + n) := by
  unfold flip
  by_cases h : m % 2 = 0 <;> by_cases h2 : n % 2 = 0
  · rw [if_pos h, if_pos h2, if_pos (by omega)]
  · rw [if_pos h, if_neg h2, if_neg (by omega)]
  · rw [if_neg h, if_pos h2, if_neg (by omega)]
  · rw [if_neg h, if_neg h2, if_pos (by omega), Bool.not_not]
theorem flip_even (σ : Bool) {n : Nat} (h : n % 2 = 0) : flip σ n = σ := by unfold flip; rw [if_pos h]
theorem sg_not {σ : Bool} {x : Int} (h : sg σ x) (k : sg (!σ) x) : False := by
  cases σ with
  | true => have a := h.1 rfl; have b := k.2 rfl; omega
  | false => have a := h.2 rfl; have b := k.1 rfl; omega
/-- a ring: signs by turns, all the way round; or one run -/
def RingOk (l : List Int) : Prop := (∃ σ, alt σ l) ∧ (l.length % 2 = 0 ∧ 2 ≤ l.length ∨ l.length = 1)
theorem ring_rot {p q : List Int} (h : RingOk (p ++ q)) (h2 : 2 ≤ (p ++ q).length) : RingOk (q ++ p) := by
  obtain ⟨⟨σ, ha⟩, hl⟩ := h
  rw [alt_append] at ha
  rw [List.length_append] at hl h2
  refine ⟨⟨flip σ p.length, ?_⟩, ?_⟩
  · rw [alt_append, flip_flip]
    refine ⟨ha.2, ?_⟩
    rw [flip_even σ (by omega)]
    exact ha.1
  · rw [List.length_append]; omega
/-! ### the least size and its place -/
def ab (i : Int) : Int := if i < 0 then -i else i
def lmin : List Int → Int
  | [] => 0
  | x :: r => if r = [] then x else min x (lmin r)
theorem lmin_mem : ∀ {l : List Int}, l ≠ [] → lmin l ∈ l
  | [], h => absurd rfl h
  | x :: r, _ => by
    unfold lmin
    by_cases h : r = []
    · rw [if_pos h]; exact List.mem_cons_self
    · rw [if_neg h]
      rcases Int.le_total x (lmin r) with k | k
      · rw [show min x (lmin r) = x by omega]; exact List.mem_cons_self
      · rw [show min x (lmin r) = lmin r by omega]; exact List.mem_cons_of_mem _ (lmin_mem h)
theorem lmin_le : ∀ {l : List Int} {y : Int}, y ∈ l → lmin l ≤ y
  | [], _, h => by cases h
  | x :: r, y, h => by
    unfold lmin
    by_cases k : r = []
    · rw [if_pos k]
      rw [k] at h
      have e := List.mem_singleton.mp h
      omega
    · rw [if_neg k]
      rcases List.mem_cons.mp h with e | m
      · omega
      · have z := lmin_le m
        omega
theorem lmin_one {l : List Int} {m : Int} (h : m ∈ l) (k : ∀ y, y ∈ l → m ≤ y) : m = lmin l := by
  have a := k _ (lmin_mem (fun e => by rw [e] at h; cases h))
  have b := lmin_le h
  omega
def plc (l : List Int) : Nat := (l.map ab).idxOf (lmin (l.map ab))
theorem plc_lt {l : List Int} (h : l ≠ []) : plc l < l.length := by
  have m := lmin_mem (l := l.map ab) (fun e => h (List.map_eq_nil_iff.mp e))
  have k := List.idxOf_lt_length_iff.mpr m
  rw [List.length_map] at k
  exact k
theorem plc_at {l : List Int} (h : l ≠ []) : ab (l.getD (plc l) 0) = lmin (l.map ab) := by
  have m := lmin_mem (l := l.map ab) (fun e => h (List.map_eq_nil_iff.mp e))
  have k := List.getElem_idxOf (List.idxOf_lt_length_iff.mpr m)
  have hl := plc_lt h
  rw [List.getElem_map] at k
  rw [List.getD_eq_getElem?_getD, List.getElem?_eq_getElem hl]
  exact k
/-- round the ring, from the place of the least run -/
def turned (l : List Int) : List Int := l.drop (plc l) ++ l.take (plc l)
def strike (l : List Int) : List Int := ((turned l).getD ((turned l).length - 1) 0 + (turned l).getD 0 0 + (turned l).getD 1 0) :: ((turned l).drop 2).take ((turned l).length - 1 - 2)
def swF : Nat → List Int → List Int
  | 0, l => if l.length = 2 then [lmin (l.map ab)] else []
  | n + 1, l => if 2 < l.length then ab (l.getD (plc l) 0) :: swF n (strike l) else if l.length = 2 then [lmin (l.map ab)] else []
theorem turned_len (l : List Int) : (turned l).length = l.length := by
  unfold turned
  rw [List.length_append, List.length_drop, List.length_take]
  omega
theorem strike_len {l : List Int} (h : 2 < l.length) : (strike l).length = l.length - 2 := by
  unfold strike
  rw [List.length_cons, List.length_take, List.length_drop, turned_len]
  omega
/-- the pieces of the turned ring -/
theorem turned_parts {l : List Int} (h : 2 < l.length) : ∃ c mid z, turned l = (l.getD (plc l) 0) :: c :: mid ++ [z] ∧ strike l = (z + l.getD (plc l) 0 + c) :: mid := by
  have hne : l ≠ [] := fun e => by rw [e] at h; simp at h
  have hp := plc_lt hne
  have e1 : l.drop (plc l) = l.getD (plc l) 0 :: l.drop (plc l + 1) := by
    rw [List.drop_eq_getElem_cons hp, List.getD_eq_getElem?_getD, List.getElem?_eq_getElem hp]
    rfl
  have hl := turned_len l
  have e2 : turned l = l.getD (plc l) 0 :: (l.drop (plc l + 1) ++ l.take (plc l)) := by
    unfold turned
    rw [e1]
    rfl
  generalize hr : l.drop (plc l + 1) ++ l.take (plc l) = r at e2
  have hrl : r.length = l.length - 1 := by
    rw [e2] at hl
    simp only [List.length_cons] at hl
    omega
  cases r with
  | nil => simp at hrl; omega
  | cons c r2 =>
    have hr2 : r2 ≠ [] := fun e => by rw [e] at hrl; simp at hrl; omega
    have e3 : r2 = r2.dropLast ++ [r2.getLast hr2] := (List.dropLast_concat_getLast hr2).symm
    have l3 : r2.length = r2.dropLast.length + 1 := by
      rw [List.length_dropLast]
      have : 0 < r2.length := List.length_pos_iff.mpr hr2
      omega
    generalize hm : r2.dropLast = mid at e3 l3
    generalize hz : r2.getLast hr2 = z at e3
    refine ⟨c, mid, z, ?_, ?_⟩
    · rw [e2, e3]; rfl
    · unfold strike
      rw [e2, e3]
      have q1 : (l.getD (plc l) 0 :: c :: (mid ++ [z])).length - 1 = mid.length + 2 := by simp
      rw [q1]
      have q2 : (l.getD (plc l) 0 :: c :: (mid ++ [z])).getD (mid.length + 2) 0 = z := by
        simp [List.getD_eq_getElem?_getD]
      rw [q2]
      have q3 : ((l.getD (plc l) 0 :: c :: (mid ++ [z])).drop 2).take (mid.length + 2 - 2) = mid := by simp
      rw [q3]
      rfl
def wantsT (t : Int) : Int := max 0 (-t)
theorem steady_one_run {b r : Int} (hb : 0 ≤ b) : Steady b [r] (wantsT r) := by
  rcases Int.lt_or_le 0 r with h | h
  · refine ⟨b, hb, by omega, ?_, ?_⟩ <;> simp only [lvl, bgt, clamp, wantsT] <;> omega
  · refine ⟨0, by omega, hb, ?_, ?_⟩ <;> simp only [lvl, bgt, clamp, wantsT] <;> omega
theorem steady_two {b p q : Int} (hb : 0 ≤ b) (hp : 0 < p) (hq : q < 0) : Steady b [p, q] (wantsT (p + q) + over b (min p (-q))) := by
  by_cases h : -q ≤ p ∧ -q ≤ b
  · refine ⟨b + q, by omega, by omega, ?_, ?_⟩ <;> simp only [lvl, bgt, clamp, wantsT, over] <;> omega
  · refine ⟨0, by omega, hb, ?_, ?_⟩ <;> simp only [lvl, bgt, clamp, wantsT, over] <;> omega
theorem sum_rot (p q : List Int) : (p ++ q).sum = (q ++ p).sum := by
  rw [List.sum_append, List.sum_append, Int.add_comm]
theorem ring_steady {b : Int} (hb : 0 ≤ b) : ∀ (n : Nat) (l : List Int), RingOk l → l.length ≤ n + 2 → Steady b l (wantsT l.sum + ((swF n l).map (over b)).sum) := by
  have small : ∀ l : List Int, RingOk l → l.length ≤ 2 → Steady b l (wantsT l.sum + ((if l.length = 2 then [lmin (l.map ab)] else []).map (over b)).sum) := fun l hr hl => by
    obtain ⟨⟨σ, ha⟩, hn⟩ := hr
    match l, ha, hn, hl with
    | [], _, hn, _ => simp at hn
    | [r], _, _, _ =>
      have z := steady_one_run (b := b) (r := r) hb
      have e : wantsT [r].sum + ((if [r].length = 2 then [lmin ([r].map ab)] else []).map (over b)).sum = wantsT r := by
        rw [if_neg (by simp)]
        simp
      rw [e]
      exact z
    | [p, q], ha, _, _ =>
      obtain ⟨h1, h2, _⟩ := ha
      rw [if_pos (show [p, q].length = 2 from rfl)]
      simp only [List.map_cons, List.map_nil, List.sum_cons, List.sum_nil]
      have em : lmin [ab p, ab q] = min (ab p) (ab q) := by
        unfold lmin
        rw [if_neg (by simp)]
        unfold lmin
        rw [if_pos rfl]
      rw [em]
      cases σ with
      | true =>
        have a := h1.1 rfl
        have c := h2.2 rfl
        have z := steady_two hb a c
        rw [show min (ab p) (ab q) = min p (-q) by unfold ab; omega, show p + (q + 0) = p + q by omega, show over b (min p (-q)) + 0 = over b (min p (-q)) by omega]
        exact z
      | false =>
        have a := h1.2 rfl
        have c := h2.1 rfl
        have z := steady_rot (p := [q]) (q := [p]) hb (steady_two hb c a)
        rw [show min (ab p) (ab q) = min q (-p) by unfold ab; omega, show p + (q + 0) = q + p by omega, show over b (min q (-p)) + 0 = over b (min q (-p)) by omega]
        exact z
    | _ :: _ :: _ :: _, _, _, hl => simp at hl
  intro n
  induction n with
  | zero =>
    intro l hr hl
    exact small l hr hl
  | succ n ih =>
    intro l hr hl
    unfold swF
    by_cases h2 : 2 < l.length
    · rw [if_pos h2]
      obtain ⟨c, mid, z, e1, e2⟩ := turned_parts h2
      have hne : l ≠ [] := fun e => by rw [e] at h2; simp at h2
      have hmin : ∀ y ∈ turned l, ab (l.getD (plc l) 0) ≤ ab y := fun y hy => by
        rw [plc_at hne]
        refine lmin_le (List.mem_map.mpr ⟨y, ?_, rfl⟩)
        unfold turned at hy
        rcases List.mem_append.mp hy with m | m
        · exact List.mem_of_mem_drop m
        · exact List.mem_of_mem_take m
      have hrt : RingOk (turned l) := by
        unfold turned
        refine ring_rot ?_ ?_
        · rw [List.take_append_drop]; exact hr
        · rw [List.take_append_drop]; omega
      have hsum : (turned l).sum = l.sum := by
        unfold turned
        rw [sum_rot, List.take_append_drop]
      have htl := turned_len l
      generalize l.getD (plc l) 0 = s at e1 e2 hmin ⊢
      rw [e1] at hrt hsum hmin htl
      obtain ⟨⟨σ, ha⟩, hn⟩ := hrt
      have hlen : (s :: c :: mid ++ [z]).length = mid.length + 3 := by simp
      rw [hlen] at hn htl
      have ha' : sg σ s ∧ sg (!σ) c ∧ alt (!!σ) (mid ++ [z]) := ha
      obtain ⟨hs, hc, hm⟩ := ha'
      rw [Bool.not_not, alt_append] at hm
      obtain ⟨hm, hz, _⟩ := hm
      rw [show flip σ mid.length = !σ by unfold flip; rw [if_neg (by omega)]] at hz
      have m1 := hmin z (by simp)
      have m2 := hmin c (by simp)
      have key : Alike b [z, s, c] [z + s + c] (over b (ab s)) ∧ sg (!σ) (z + s + c) := by
        cases σ with
        | true =>
          have a1 := hs.1 rfl
          have a2 := hc.2 rfl
          have a3 := hz.2 rfl
          unfold ab at m1 m2 ⊢
          rw [if_neg (by omega), if_pos a3] at m1
          rw [if_neg (by omega), if_pos a2] at m2
          rw [if_neg (by omega)]
          exact ⟨strike_pos hb a3 a1 a2 m1 m2, fun e => Bool.noConfusion e, fun _ => by omega⟩
        | false =>
          have a1 := hs.2 rfl
          have a2 := hc.1 rfl
          have a3 := hz.1 rfl
          unfold ab at m1 m2 ⊢
          rw [if_pos a1, if_neg (by omega)] at m1
          rw [if_pos a1, if_neg (by omega)] at m2
          rw [if_pos a1]
          exact ⟨strike_neg hb a3 a1 a2 m1 m2, fun _ => by omega, fun e => Bool.noConfusion e⟩
      obtain ⟨hk, hsg⟩ := key
      have hr2 : RingOk (strike l) := by
        rw [e2]
        refine ⟨⟨!σ, hsg, ?_⟩, ?_⟩
        · rw [Bool.not_not]; exact hm
        · rw [List.length_cons]; omega
      have hl2 : (strike l).length ≤ n + 2 := by rw [strike_len h2]; omega
      have z1 := ih (strike l) hr2 hl2
      have es : (strike l).sum = l.sum := by
        rw [e2, ← hsum]
        simp only [List.sum_cons, List.sum_append, List.cons_append, List.sum_nil]
        omega
      rw [es] at z1
      rw [e2] at z1
      have z2 := hk.steady (t := mid) (q := [z + s + c]) z1
      have z4 := steady_rot (p := [z]) (q := s :: c :: mid) hb z2
      rw [← e2] at z4
      rw [show (s :: c :: mid) ++ [z] = turned l from e1.symm] at z4
      unfold turned at z4
      have z6 := steady_rot hb z4
      rw [List.take_append_drop] at z6
      simp only [List.map_cons, List.sum_cons]
      rw [show wantsT l.sum + (over b (ab s) + ((swF n (strike l)).map (over b)).sum) = wantsT l.sum + ((swF n (strike l)).map (over b)).sum + over b (ab s) by omega]
      exact z6
    · rw [if_neg h2]
      exact small l hr (by omega)
end Bu
set_option Elab.async false
set_option maxRecDepth 10000
/-! The ring of a year; its swings; the long run. -/
namespace Bu
def lastI (l : List Int) : Int := l.getD (l.length - 1) 0
def prevR (rs : List Int) (k : Nat) : Int := if k = 0 then lastI rs else rs.getD (k - 1) 0
def turnAt (rs : List Int) (k : Nat) : Bool := decide (0 < rs.getD k 0) != decide (0 < prevR rs k)
def turnsOf (rs : List Int) : List Nat := (List.range rs.length).filter (turnAt rs)
def joins (found : List Int) (run : Int) : Bool := decide (0 < found.length) && (decide (0 < run) == decide (0 < lastI found))
def mstep (found : List Int) (run : Int) : List Int := if joins found run = true then found.dropLast ++ [lastI found + run] else found ++ [run]
def around (rs : List Int) (t : Nat) : List Int := rs.drop t ++ rs.take t
def ringOf (rs : List Int) : List Int := match turnsOf rs with
  | [] => [rs.sum]
  | t :: _ => (around rs t).foldl mstep []
theorem lastI_snoc (p : List Int) (x : Int) : lastI (p ++ [x]) = x := by
  unfold lastI
  simp [List.getD_eq_getElem?_getD]
theorem snoc_of {l : List Int} (h : l ≠ []) : l = l.dropLast ++ [lastI l] := by
  have e := (List.dropLast_concat_getLast h).symm
  have e2 : lastI l = l.getLast h := by
    unfold lastI
    rw [List.getD_eq_getElem?_getD, ← List.getLast?_eq_getElem?, List.getLast?_eq_some_getLast h]
    rfl
  rw [e2]
  exact e
theorem Alike.ahead {b : Int} (hb : 0 ≤ b) {p q : List Int} {d : Int} (h : Alike b p q d) (t : List Int) : Alike b (t ++ p) (t ++ q) d := fun x h1 h2 => by
  have r := lvl_range hb t h1 h2
  obtain ⟨e1, e2⟩ := h _ r.1 r.2
  rw [lvl_append, lvl_append, bgt_append, bgt_append, e1, e2]
  exact ⟨rfl, by omega⟩
structure MI (σ : Bool) (found proc : List Int) : Prop where
  ne : found ≠ []
  al : alt σ found
  last : 0 < lastI found ↔ 0 < lastI proc
  like : ∀ b, 0 ≤ b → Alike b proc found 0
  sum : found.sum = proc.sum
theorem MI.step {σ : Bool} {found proc : List Int} (m : MI σ found proc) {run : Int} (hr : run ≠ 0) : MI σ (mstep found run) (proc ++ [run]) := by
  obtain ⟨ne, al, last, like, sum⟩ := m
  have e := snoc_of ne
  have hlen : 0 < found.length := List.length_pos_iff.mpr ne
  generalize hi : found.dropLast = ini at e
  generalize hl : lastI found = l at e last
  have al2 := al
  rw [e, alt_append] at al2
  obtain ⟨a1, a2, _⟩ := al2
  unfold mstep joins
  rw [hl, hi]
  have hd : decide (0 < found.length) = true := decide_eq_true hlen
  rw [hd, Bool.true_and]
  by_cases c : decide (0 < run) = decide (0 < l)
  · rw [if_pos (by rw [c]; exact beq_self_eq_true _)]
    have c2 : 0 < run ↔ 0 < l := decide_eq_decide.mp c
    have hsg : sg (flip σ ini.length) (l + run) := by
      refine ⟨fun q => ?_, fun q => ?_⟩
      · have z := a2.1 q
        have z2 := c2.mpr z
        omega
      · have z := a2.2 q
        have z2 : ¬ 0 < run := fun k => by have := c2.mp k; omega
        omega
    refine ⟨by simp, ?_, ?_, fun b hb => ?_, ?_⟩
    · rw [alt_append]
      exact ⟨a1, hsg, True.intro⟩
    · rw [lastI_snoc, lastI_snoc]
      rcases Int.lt_or_le 0 run with k | k
      · have := c2.mp k; omega
      · have : ¬ 0 < l := fun z => by have := c2.mpr z; omega
        omega
    · have q := (like b hb).snoc run
      rw [e] at q
      refine q.trans ?_
      rw [List.append_assoc]
      refine Alike.ahead hb ?_ ini
      show Alike b [l, run] [l + run] 0
      rcases Int.lt_or_le 0 run with k | k
      · exact join_pos hb (c2.mp k) k
      · have z : ¬ 0 < l := fun z => by have := c2.mpr z; omega
        have z2 : l ≠ 0 := fun z3 => by
          rw [z3] at a2
          cases hf : flip σ ini.length with
          | true => have := a2.1 hf; omega
          | false => have := a2.2 hf; omega
        exact join_neg hb (by omega) (by omega)
    · rw [List.sum_append, List.sum_append, ← sum, e]
      simp only [List.sum_append, List.sum_cons, List.sum_nil]
      omega
  · rw [if_neg (by intro q; exact c (eq_of_beq q))]
    have c2 : ¬ (0 < run ↔ 0 < l) := fun q => c (decide_eq_decide.mpr q)
    refine ⟨by simp, ?_, ?_, fun b hb => (like b hb).snoc run, ?_⟩
    · rw [alt_append]
      refine ⟨al, ?_, True.intro⟩
      have e3 : found.length = ini.length + 1 := by rw [e]; simp
      rw [e3, ← flip_succ]
      have e4 : flip (!σ) ini.length = !(flip σ ini.length) := by
        unfold flip
        by_cases k : ini.length % 2 = 0
        · rw [if_pos k, if_pos k]
        · rw [if_neg k, if_neg k]
      rw [e4]
      cases hf : flip σ ini.length with
      | true =>
        have z := a2.1 hf
        refine ⟨fun q => Bool.noConfusion q, fun _ => ?_⟩
        rcases Int.lt_or_le 0 run with k | k
        · exact absurd ⟨fun _ => z, fun _ => k⟩ c2
        · omega
      | false =>
        have z := a2.2 hf
        refine ⟨fun _ => ?_, fun q => Bool.noConfusion q⟩
        rcases Int.lt_or_le 0 run with k | k
        · exact k
        · exact absurd ⟨fun q => by omega, fun q => by omega⟩ c2
    · rw [lastI_snoc, lastI_snoc]
    · rw [List.sum_append, List.sum_append, sum]
theorem MI.fold {σ : Bool} : ∀ (more : List Int) {found proc : List Int}, MI σ found proc → (∀ r ∈ more, r ≠ 0) → MI σ (more.foldl mstep found) (proc ++ more)
  | [], found, proc, m, _ => by rw [List.append_nil]; exact m
  | r :: more, found, proc, m, h => by
    have z := MI.fold more (m.step (h r List.mem_cons_self)) fun x hx => h x (List.mem_cons_of_mem _ hx)
    rw [List.append_assoc] at z
    exact z
theorem mi_all {r : Int} {more : List Int} (h : ∀ x ∈ r :: more, x ≠ 0) : MI (decide (0 < r)) ((r :: more).foldl mstep []) (r :: more) := by
  have hr := h r List.mem_cons_self
  have e : mstep [] r = [r] := rfl
  show MI _ (more.foldl mstep (mstep [] r)) ([r] ++ more)
  rw [e]
  refine MI.fold more ⟨by simp, ⟨⟨fun q => of_decide_eq_true q, fun q => ?_⟩, True.intro⟩, Iff.rfl, fun b _ => Alike.refl, rfl⟩ fun x hx => h x (List.mem_cons_of_mem _ hx)
  have := of_decide_eq_false q
  omega
/-- a row without turns: all of one sign -/
theorem one_sign {rs : List Int} (h : turnsOf rs = []) : ∀ k, k < rs.length → decide (0 < rs.getD k 0) = decide (0 < rs.getD 0 0) := by
  have none : ∀ k, k < rs.length → turnAt rs k = false := fun k hk => by
    cases e : turnAt rs k with
    | false => rfl
    | true =>
      have m : k ∈ turnsOf rs := List.mem_filter.mpr ⟨List.mem_range.mpr hk, e⟩
      rw [h] at m
      cases m
  intro k
  induction k with
  | zero => intro _; rfl
  | succ k ih =>
    intro hk
    have a := none (k + 1) hk
    have b := ih (by omega)
    unfold turnAt prevR at a
    rw [if_neg (by omega), Nat.add_sub_cancel] at a
    rw [← b]
    exact bne_eq_false_iff_eq.mp a
theorem like_sum {b : Int} (hb : 0 ≤ b) : ∀ (r : Int) (rs : List Int), ((0 < r ∧ ∀ x ∈ rs, 0 < x) ∨ (r < 0 ∧ ∀ x ∈ rs, x < 0)) → Alike b (r :: rs) [(r :: rs).sum] 0
  | r, [], _ => by
    have e : ([r] : List Int).sum = r := by simp
    rw [e]
    exact Alike.refl
  | r, x :: rs, h => by
    have e : (r :: x :: rs).sum = ((r + x) :: rs).sum := by simp only [List.sum_cons]; omega
    rw [e]
    have hx := fun (z : ∀ y ∈ x :: rs, 0 < y) => z x List.mem_cons_self
    have j : Alike b [r, x] [r + x] 0 := by
      rcases h with ⟨h1, h2⟩ | ⟨h1, h2⟩
      · exact join_pos hb h1 (h2 x List.mem_cons_self)
      · exact join_neg hb h1 (h2 x List.mem_cons_self)
    have j2 : Alike b (r :: x :: rs) ((r + x) :: rs) 0 := fun y h1 h2 => by
      obtain ⟨e1, e2⟩ := j y h1 h2
      show lvl b ([r, x] ++ rs) y = lvl b ([r + x] ++ rs) y ∧ bgt b ([r, x] ++ rs) y = bgt b ([r + x] ++ rs) y + 0
      rw [lvl_append, lvl_append, bgt_append, bgt_append, e1, e2]
      exact ⟨rfl, by omega⟩
    refine j2.trans (like_sum hb (r + x) rs ?_)
    rcases h with ⟨h1, h2⟩ | ⟨h1, h2⟩
    · have := h2 x List.mem_cons_self
      exact .inl ⟨by omega, fun y hy => h2 y (List.mem_cons_of_mem _ hy)⟩
    · have := h2 x List.mem_cons_self
      exact .inr ⟨by omega, fun y hy => h2 y (List.mem_cons_of_mem _ hy)⟩
theorem turns_first {rs : List Int} {t : Nat} {ts : List Nat} (h : turnsOf rs = t :: ts) : t < rs.length ∧ turnAt rs t = true := by
  have m : t ∈ turnsOf rs := by rw [h]; exact List.mem_cons_self
  obtain ⟨a, b⟩ := List.mem_filter.mp m
  exact ⟨List.mem_range.mp a, b⟩
theorem around_mem {rs : List Int} {t : Nat} {x : Int} (h : x ∈ around rs t) : x ∈ rs := by
  unfold around at h
  rcases List.mem_append.mp h with m | m
  · exact List.mem_of_mem_drop m
  · exact List.mem_of_mem_take m
theorem around_last {rs : List Int} {t : Nat} (h : t < rs.length) : lastI (around rs t) = prevR rs t := by
  unfold around prevR
  by_cases k : t = 0
  · rw [if_pos k, k]
    simp
  · rw [if_neg k]
    have e : rs.take t = rs.take (t - 1) ++ [rs.getD (t - 1) 0] := by
      have q := List.take_append_getElem (l := rs) (i := t - 1) (by omega)
      rw [show t - 1 + 1 = t by omega] at q
      rw [List.getD_eq_getElem?_getD, List.getElem?_eq_getElem (show t - 1 < rs.length by omega)]
      exact q.symm
    rw [e, ← List.append_assoc, lastI_snoc]
theorem ringOf_ok {rs : List Int} (hne : rs ≠ []) (h0 : ∀ r ∈ rs, r ≠ 0) : RingOk (ringOf rs) ∧ (ringOf rs).sum = rs.sum ∧ ∀ b c, 0 ≤ b → Steady b (ringOf rs) c → Steady b rs c := by
  unfold ringOf
  cases ht : turnsOf rs with
  | nil =>
    match rs, hne, h0, ht with
    | r :: rs, _, h0, ht =>
      have os := one_sign ht
      have hh : (0 < r ∧ ∀ x ∈ rs, 0 < x) ∨ (r < 0 ∧ ∀ x ∈ rs, x < 0) := by
        have all : ∀ x ∈ rs, decide (0 < x) = decide (0 < r) := fun x hx => by
          obtain ⟨i, hi, e⟩ := List.getElem_of_mem hx
          have z := os (i + 1) (by simp; omega)
          have z1 : (r :: rs).getD (i + 1) 0 = x := by
            rw [List.getD_eq_getElem?_getD, List.getElem?_cons_succ, List.getElem?_eq_getElem hi, e]
            rfl
          rw [z1] at z
          exact z
        have hr := h0 r List.mem_cons_self
        rcases Int.lt_or_le 0 r with k | k
        · exact .inl ⟨k, fun x hx => by
            have z := all x hx
            rw [decide_eq_true k] at z
            exact of_decide_eq_true z⟩
        · refine .inr ⟨by omega, fun x hx => ?_⟩
          have z := all x hx
          rw [decide_eq_false (show ¬ 0 < r by omega)] at z
          have z2 := of_decide_eq_false z
          have z3 := h0 x (List.mem_cons_of_mem _ hx)
          omega
      refine ⟨⟨?_, .inr rfl⟩, by simp, fun b c hb hs => ?_⟩
      · have pos : ∀ l : List Int, (∀ x ∈ l, 0 < x) → 0 ≤ l.sum := fun l => by
          induction l with
          | nil => intro _; simp
          | cons a l ih =>
            intro h
            have := h a List.mem_cons_self
            have := ih fun x hx => h x (List.mem_cons_of_mem _ hx)
            simp only [List.sum_cons]; omega
        have neg : ∀ l : List Int, (∀ x ∈ l, x < 0) → l.sum ≤ 0 := fun l => by
          induction l with
          | nil => intro _; simp
          | cons a l ih =>
            intro h
            have := h a List.mem_cons_self
            have := ih fun x hx => h x (List.mem_cons_of_mem _ hx)
            simp only [List.sum_cons]; omega
        rcases hh with ⟨h1, h2⟩ | ⟨h1, h2⟩
        · refine ⟨true, ⟨fun _ => ?_, fun q => Bool.noConfusion q⟩, True.intro⟩
          have := pos rs h2
          simp only [List.sum_cons]; omega
        · refine ⟨false, ⟨fun q => Bool.noConfusion q, fun _ => ?_⟩, True.intro⟩
          have := neg rs h2
          simp only [List.sum_cons]; omega
      · have z := (like_sum hb r rs hh).steady (t := []) (c := c) (by rw [List.append_nil]; exact hs)
        rw [List.append_nil, Int.add_zero] at z
        exact z
  | cons t ts =>
    obtain ⟨hlt, hta⟩ := turns_first ht
    show RingOk ((around rs t).foldl mstep []) ∧ ((around rs t).foldl mstep []).sum = rs.sum ∧ ∀ b c, 0 ≤ b → Steady b ((around rs t).foldl mstep []) c → Steady b rs c
    have ha0 : ∀ x ∈ around rs t, x ≠ 0 := fun x hx => h0 x (around_mem hx)
    have hlast := around_last hlt
    have hhead : ∃ more, around rs t = rs.getD t 0 :: more := ⟨rs.drop (t + 1) ++ rs.take t, by
      unfold around
      rw [List.drop_eq_getElem_cons hlt, List.getD_eq_getElem?_getD, List.getElem?_eq_getElem hlt]
      rfl⟩
    obtain ⟨more, em⟩ := hhead
    have asum : (around rs t).sum = rs.sum := by
      unfold around
      rw [sum_rot, List.take_append_drop]
    rw [em] at ha0
    have M := mi_all ha0
    rw [← em] at M
    obtain ⟨ne, al, last, like, sum⟩ := M
    rw [hlast] at last
    generalize (around rs t).foldl mstep [] = found at ne al last like sum
    refine ⟨⟨⟨_, al⟩, .inl ?_⟩, sum.trans asum, fun b c hb hs => ?_⟩
    · have e := snoc_of ne
      have hl : found.length = found.dropLast.length + 1 := by
        have := List.length_pos_iff.mpr ne
        rw [List.length_dropLast]
        omega
      rw [e, alt_append] at al
      obtain ⟨_, a2, _⟩ := al
      unfold turnAt at hta
      have hne2 : decide (0 < rs.getD t 0) ≠ decide (0 < prevR rs t) := bne_iff_ne.mp hta
      have par : found.dropLast.length % 2 ≠ 0 := fun q => by
        rw [flip_even _ q] at a2
        apply hne2
        cases hd : decide (0 < rs.getD t 0) with
        | true => exact (decide_eq_true (last.mp (a2.1 hd))).symm
        | false =>
          have z := a2.2 hd
          exact (decide_eq_false fun k => by have := last.mpr k; omega).symm
      omega
    · have z := (like b hb).steady (t := []) (c := c) (by rw [List.append_nil]; exact hs)
      rw [List.append_nil, Int.add_zero] at z
      unfold around at z
      have z2 := steady_rot hb z
      rw [List.take_append_drop] at z2
      exact z2
/-! ### fuel -/
theorem swF_more : ∀ (n : Nat) (l : List Int), l.length ≤ n + 2 → swF (n + 1) l = swF n l
  | 0, l, h => by
    show (if 2 < l.length then _ else _) = _
    rw [if_neg (by omega)]
    rfl
  | n + 1, l, h => by
    show (if 2 < l.length then ab (l.getD (plc l) 0) :: swF (n + 1) (strike l) else _) = (if 2 < l.length then ab (l.getD (plc l) 0) :: swF n (strike l) else _)
    by_cases k : 2 < l.length
    · rw [if_pos k, if_pos k, swF_more n (strike l) (by rw [strike_len k]; omega)]
    · rw [if_neg k, if_neg k]
def swA (l : List Int) : List Int := swF l.length l
theorem swF_all (l : List Int) : ∀ (k : Nat), swF (l.length + k) l = swA l
  | 0 => rfl
  | k + 1 => by
    show swF (l.length + k + 1) l = swA l
    rw [swF_more (l.length + k) l (by omega), swF_all l k]
theorem swA_big {l : List Int} (h : 2 < l.length) : swA l = ab (l.getD (plc l) 0) :: swA (strike l) := by
  have e : swA l = swF ((l.length - 1) + 1) l := by
    unfold swA
    rw [show l.length - 1 + 1 = l.length by omega]
  rw [e]
  show (if 2 < l.length then _ else _) = _
  rw [if_pos h]
  have e2 := swF_all (strike l) 1
  rw [strike_len h, show l.length - 2 + 1 = l.length - 1 by omega] at e2
  rw [e2]
theorem swA_two {l : List Int} (h : l.length = 2) : swA l = [lmin (l.map ab)] := by
  unfold swA
  rw [h]
  show (if 2 < l.length then _ else if l.length = 2 then _ else _) = _
  rw [if_neg (by omega), if_pos h]
theorem swA_less {l : List Int} (h : l.length < 2) : swA l = [] := by
  unfold swA
  cases hl : l.length with
  | zero =>
    show (if l.length = 2 then _ else _) = _
    rw [if_neg (by omega)]
  | succ n =>
    show (if 2 < l.length then _ else if l.length = 2 then _ else _) = _
    rw [if_neg (by omega), if_neg (by omega)]
/-! ### in order -/
def ins (x : Int) : List Int → List Int
  | [] => [x]
  | y :: r => if x ≤ y then x :: y :: r else y :: ins x r
def isort : List Int → List Int
  | [] => []
  | x :: r => ins x (isort r)
theorem ins_perm (x : Int) : ∀ l : List Int, (ins x l).Perm (x :: l)
  | [] => List.Perm.refl _
  | y :: r => by
    unfold ins
    by_cases h : x ≤ y
    · rw [if_pos h]
    · rw [if_neg h]
      exact ((ins_perm x r).cons y).trans (List.Perm.swap x y r)
theorem isort_perm : ∀ l : List Int, (isort l).Perm l
  | [] => List.Perm.refl _
  | x :: r => (ins_perm x (isort r)).trans ((isort_perm r).cons x)
theorem ins_ord {x : Int} : ∀ {l : List Int}, l.Pairwise (· ≤ ·) → (ins x l).Pairwise (· ≤ ·)
  | [], _ => List.pairwise_singleton _ _
  | y :: r, h => by
    unfold ins
    by_cases k : x ≤ y
    · rw [if_pos k]
      refine List.pairwise_cons.mpr ⟨fun z hz => ?_, h⟩
      rcases List.mem_cons.mp hz with e | m
      · omega
      · have := (List.pairwise_cons.mp h).1 z m
        omega
    · rw [if_neg k]
      refine List.pairwise_cons.mpr ⟨fun z hz => ?_, ins_ord (List.pairwise_cons.mp h).2⟩
      rcases List.mem_cons.mp ((ins_perm x r).mem_iff.mp hz) with e | m
      · omega
      · exact (List.pairwise_cons.mp h).1 z m
theorem isort_ord : ∀ l : List Int, (isort l).Pairwise (· ≤ ·)
  | [] => List.Pairwise.nil
  | _ :: r => ins_ord (isort_ord r)
theorem sorted_one : ∀ {l k : List Int}, l.Perm k → l.Pairwise (· ≤ ·) → k.Pairwise (· ≤ ·) → l = k
  | [], k, p, _, _ => (List.nil_perm.mp p).symm
  | x :: l, [], p, _, _ => absurd (List.perm_nil.mp p) (by simp)
  | x :: l, y :: k, p, h1, h2 => by
    obtain ⟨a1, a2⟩ := List.pairwise_cons.mp h1
    obtain ⟨b1, b2⟩ := List.pairwise_cons.mp h2
    have e : x = y := by
      have m1 : x ∈ y :: k := p.mem_iff.mp List.mem_cons_self
      have m2 : y ∈ x :: l := p.mem_iff.mpr List.mem_cons_self
      rcases List.mem_cons.mp m1 with e | m
      · exact e
      · rcases List.mem_cons.mp m2 with e | m'
        · exact e.symm
        · have := b1 x m
          have := a1 y m'
          omega
    subst e
    rw [sorted_one ((List.perm_cons x).mp p) a2 b2]
theorem isort_one {l k : List Int} (p : k.Perm l) (h : k.Pairwise (· ≤ ·)) : k = isort l := sorted_one (p.trans (isort_perm l).symm) h (isort_ord l)
theorem perm_sum_map (f : Int → Int) {l k : List Int} (p : l.Perm k) : (l.map f).sum = (k.map f).sum := by
  induction p with
  | nil => rfl
  | cons x _ ih => simp only [List.map_cons, List.sum_cons, ih]
  | swap x y l => simp only [List.map_cons, List.sum_cons]; omega
  | trans _ _ h1 h2 => exact h1.trans h2
/-! ### a year -/
def swingsOf (rs : List Int) : List Int := (isort (swA (ringOf rs))).reverse
def wantsOf (rs : List Int) : Int := wantsT rs.sum
/-- what is bought by a heap -/
def buyH (w : Int) (sw : List Int) (b : Int) : Int := w + (sw.map (over b)).sum
def buy (rs : List Int) (b : Int) : Int := buyH (wantsOf rs) (swingsOf rs) b
theorem swings_perm (rs : List Int) : (swingsOf rs).Perm (swA (ringOf rs)) := (List.reverse_perm _).trans (isort_perm _)
theorem year_steady {rs : List Int} (hne : rs ≠ []) (h0 : ∀ r ∈ rs, r ≠ 0) {b : Int} (hb : 0 ≤ b) : Steady b rs (buy rs b) := by
  obtain ⟨h1, h2, h3⟩ := ringOf_ok hne h0
  have z := ring_steady hb (ringOf rs).length (ringOf rs) h1 (by omega)
  rw [h2] at z
  have z2 := h3 b _ hb z
  unfold buy buyH wantsOf
  rw [perm_sum_map (over b) (swings_perm rs)]
  exact z2
/-! ### from the empty butt on -/
def itr (b : Int) (rs : List Int) : Nat → Int
  | 0 => 0
  | n + 1 => lvl b rs (itr b rs n)
theorem itr_range {b : Int} (hb : 0 ≤ b) (rs : List Int) : ∀ n, 0 ≤ itr b rs n ∧ itr b rs n ≤ b
  | 0 => ⟨Int.le_refl _, hb⟩
  | n + 1 => lvl_range hb rs (itr_range hb rs n).1 (itr_range hb rs n).2
theorem itr_up {b : Int} (hb : 0 ≤ b) (rs : List Int) : ∀ n, itr b rs n ≤ itr b rs (n + 1)
  | 0 => (itr_range hb rs 1).1
  | n + 1 => (mono hb rs (itr_up hb rs n)).2.1
theorem itr_still {b : Int} (hb : 0 ≤ b) (rs : List Int) : ∀ n : Nat, lvl b rs (itr b rs n) = itr b rs n ∨ (n : Int) ≤ itr b rs n
  | 0 => .inr (Int.le_refl _)
  | n + 1 => by
    rcases itr_still hb rs n with h | h
    · left
      show lvl b rs (lvl b rs (itr b rs n)) = lvl b rs (itr b rs n)
      rw [h, h]
    · by_cases k : lvl b rs (itr b rs n) = itr b rs n
      · left
        show lvl b rs (lvl b rs (itr b rs n)) = lvl b rs (itr b rs n)
        rw [k, k]
      · right
        have u : itr b rs n ≤ lvl b rs (itr b rs n) := itr_up hb rs n
        show ((n + 1 : Nat) : Int) ≤ lvl b rs (itr b rs n)
        omega
theorem long_run {rs : List Int} (hne : rs ≠ []) (h0 : ∀ r ∈ rs, r ≠ 0) {b : Int} (hb : 0 ≤ b) {n : Nat} (hn : b < (n : Int)) : bgt b rs (itr b rs n) = buy rs b := by
  obtain ⟨x, _, _, h3, h4⟩ := year_steady hne h0 hb
  have hf : lvl b rs (itr b rs n) = itr b rs n := by
    rcases itr_still hb rs n with h | h
    · exact h
    · have := (itr_range hb rs n).2
      omega
  rw [steady_one hb hf h3, h4]
end Bu
set_option Elab.async false
set_option maxRecDepth 10000
/-! Heaps: sums against butts, bends, the greatest difference, spans. -/
namespace Bu
/-! ### sums and butts -/
structure Sw (s : List Int) : Prop where
  ord : s.Pairwise (fun x y => y ≤ x)
  pos : ∀ x ∈ s, 0 ≤ x
def sumK (w : Int) (s : List Int) (k : Nat) : Int := w + (s.take k).sum
theorem over_nn (b s : Int) : 0 ≤ over b s := by unfold over; omega
theorem overs_nn (b : Int) : ∀ s : List Int, 0 ≤ (s.map (over b)).sum
  | [] => Int.le_refl _
  | x :: r => by
    have := overs_nn b r
    have := over_nn b x
    simp only [List.map_cons, List.sum_cons]
    omega
theorem sum_le {b : Int} (hb : 0 ≤ b) : ∀ (t : List Int) (k : Nat), (t.take k).sum ≤ (t.map (over b)).sum + (k : Int) * b
  | [], k => by
    have := Int.mul_nonneg (show (0 : Int) ≤ (k : Int) by omega) hb
    simp
    omega
  | x :: r, 0 => by
    have := overs_nn b (x :: r)
    simp only [List.take_zero, List.sum_nil]
    omega
  | x :: r, k + 1 => by
    have ih := sum_le hb r k
    have e : ((k + 1 : Nat) : Int) * b = (k : Int) * b + b := by
      rw [Int.natCast_add, Int.add_mul]
      simp
    rw [e]
    simp only [List.take_succ_cons, List.map_cons, List.sum_cons]
    have : x ≤ over b x + b := by unfold over; omega
    omega
theorem overs_zero {b : Int} : ∀ {s : List Int}, (∀ x ∈ s, x ≤ b) → (s.map (over b)).sum = 0
  | [], _ => rfl
  | x :: r, h => by
    have := overs_zero fun y hy => h y (List.mem_cons_of_mem _ hy)
    have := h x List.mem_cons_self
    simp only [List.map_cons, List.sum_cons]
    unfold over at *
    omega
theorem sum_at {b : Int} : ∀ {s : List Int}, s.Pairwise (fun x y => y ≤ x) → ∃ k : Nat, (s.take k).sum = (s.map (over b)).sum + (k : Int) * b
  | [], _ => ⟨0, by simp⟩
  | x :: r, h => by
    obtain ⟨h1, h2⟩ := List.pairwise_cons.mp h
    by_cases hx : b < x
    · obtain ⟨k, hk⟩ := sum_at (b := b) h2
      refine ⟨k + 1, ?_⟩
      have e : ((k + 1 : Nat) : Int) * b = (k : Int) * b + b := by
        rw [Int.natCast_add, Int.add_mul]
        simp
      rw [e]
      simp only [List.take_succ_cons, List.map_cons, List.sum_cons]
      have : over b x = x - b := by unfold over; omega
      omega
    · refine ⟨0, ?_⟩
      rw [overs_zero (b := b) (s := x :: r)]
      · simp
      · intro y hy
        rcases List.mem_cons.mp hy with e | m
        · omega
        · have := h1 y m
          omega
theorem overs_all {c : Int} : ∀ {p : List Int}, (∀ x ∈ p, c ≤ x) → p.sum = (p.map (over c)).sum + (p.length : Int) * c
  | [], _ => by simp
  | x :: r, h => by
    have ih := overs_all fun y hy => h y (List.mem_cons_of_mem _ hy)
    have hx := h x List.mem_cons_self
    have e : ((r.length + 1 : Nat) : Int) * c = (r.length : Int) * c + c := by
      rw [Int.natCast_add, Int.add_mul]
      simp
    simp only [List.map_cons, List.sum_cons, List.length_cons]
    rw [e]
    have : over c x = x - c := by unfold over; omega
    omega
theorem butt_at {t : List Int} (h : Sw t) (k : Nat) : ∃ b : Int, 0 ≤ b ∧ (t.take k).sum = (t.map (over b)).sum + (k : Int) * b := by
  by_cases hk : k < t.length
  · have ht : t = t.take k ++ t.drop k := (List.take_append_drop k t).symm
    have hd : t.drop k = t[k] :: t.drop (k + 1) := List.drop_eq_getElem_cons hk
    have ho := h.ord
    rw [ht] at ho
    obtain ⟨o1, o2, o3⟩ := List.pairwise_append.mp ho
    rw [hd] at o2 o3
    refine ⟨t[k], h.pos _ (List.getElem_mem hk), ?_⟩
    have e1 := overs_all (c := t[k]) (p := t.take k) fun x hx => o3 x hx _ List.mem_cons_self
    have e2 : ((t.drop k).map (over t[k])).sum = 0 := overs_zero fun x hx => by
      rw [hd] at hx
      rcases List.mem_cons.mp hx with e | m
      · omega
      · exact (List.pairwise_cons.mp o2).1 x m
    have e3 : (t.map (over t[k])).sum = ((t.take k).map (over t[k])).sum + ((t.drop k).map (over t[k])).sum := by
      rw [← List.sum_append, ← List.map_append, List.take_append_drop]
    have e4 : (t.take k).length = k := by rw [List.length_take]; omega
    rw [e4] at e1
    omega
  · refine ⟨0, Int.le_refl _, ?_⟩
    rw [List.take_of_length_le (by omega)]
    have e1 := overs_all (c := 0) (p := t) h.pos
    rw [e1]
    simp
/-- sums no greater, each: never more bought -/
theorem dom_iff {w1 w2 : Int} {s t : List Int} (hs : Sw s) (ht : Sw t) : (∀ k, sumK w1 s k ≤ sumK w2 t k) ↔ ∀ b, 0 ≤ b → buyH w1 s b ≤ buyH w2 t b := by
  constructor
  · intro h b hb
    obtain ⟨k, hk⟩ := sum_at (b := b) hs.ord
    have a := h k
    have c := sum_le hb t k
    unfold sumK at a
    unfold buyH
    omega
  · intro h k
    obtain ⟨b, hb, hk⟩ := butt_at ht k
    have a := h b hb
    have c := sum_le hb s k
    unfold buyH at a
    unfold sumK
    omega
theorem sumK_far {w : Int} {s : List Int} {k : Nat} (h : s.length ≤ k) : sumK w s k = sumK w s s.length := by
  unfold sumK
  rw [List.take_of_length_le h, List.take_of_length_le (Nat.le_refl _)]
/-- the numbers of swings whose sum is greater than the other's -/
def moreAt (w1 : Int) (s : List Int) (w2 : Int) (t : List Int) : List Nat := (List.range (max s.length t.length + 1)).filter fun k => decide (sumK w2 t k < sumK w1 s k)
def within (w1 : Int) (s : List Int) (w2 : Int) (t : List Int) : Bool := (moreAt w1 s w2 t).isEmpty
theorem within_iff {w1 w2 : Int} {s t : List Int} : within w1 s w2 t = true ↔ ∀ k, sumK w1 s k ≤ sumK w2 t k := by
  unfold within moreAt
  rw [List.isEmpty_iff, List.filter_eq_nil_iff]
  constructor
  · intro h k
    have one : ∀ k, k ≤ max s.length t.length → sumK w1 s k ≤ sumK w2 t k := fun k hk => by
      have z := h k (List.mem_range.mpr (by omega))
      simp only [decide_eq_true_eq] at z
      omega
    by_cases hk : k ≤ max s.length t.length
    · exact one k hk
    · have z := one (max s.length t.length) (Nat.le_refl _)
      rw [sumK_far (s := s) (k := k) (by omega), sumK_far (s := t) (k := k) (by omega)]
      rw [sumK_far (s := s) (k := max s.length t.length) (by omega), sumK_far (s := t) (k := max s.length t.length) (by omega)] at z
      exact z
  · intro h k _
    have := h k
    simp only [decide_eq_true_eq]
    omega
theorem within_buy {w1 w2 : Int} {s t : List Int} (hs : Sw s) (ht : Sw t) : within w1 s w2 t = true ↔ ∀ b, 0 ≤ b → buyH w1 s b ≤ buyH w2 t b := within_iff.trans (dom_iff hs ht)
/-! ### bends -/
def uins (x : Int) : List Int → List Int
  | [] => [x]
  | y :: r => if x < y then x :: y :: r else if x = y then y :: r else y :: uins x r
def usort : List Int → List Int
  | [] => []
  | x :: r => uins x (usort r)
theorem mem_uins {x z : Int} : ∀ {l : List Int}, z ∈ uins x l ↔ z = x ∨ z ∈ l
  | [] => by simp [uins]
  | y :: r => by
    unfold uins
    by_cases h : x < y
    · rw [if_pos h]; simp
    · rw [if_neg h]
      by_cases k : x = y
      · rw [if_pos k, k]; simp
      · rw [if_neg k, List.mem_cons, mem_uins, List.mem_cons]
        constructor
        · rintro (a | a | a)
          · exact .inr (.inl a)
          · exact .inl a
          · exact .inr (.inr a)
        · rintro (a | a | a)
          · exact .inr (.inl a)
          · exact .inl a
          · exact .inr (.inr a)
theorem mem_usort {z : Int} : ∀ {l : List Int}, z ∈ usort l ↔ z ∈ l
  | [] => Iff.rfl
  | x :: r => by
    unfold usort
    rw [mem_uins, mem_usort, List.mem_cons]
theorem uins_up {x : Int} : ∀ {l : List Int}, l.Pairwise (· < ·) → (uins x l).Pairwise (· < ·)
  | [], _ => List.pairwise_singleton _ _
  | y :: r, h => by
    obtain ⟨h1, h2⟩ := List.pairwise_cons.mp h
    unfold uins
    by_cases k : x < y
    · rw [if_pos k]
      refine List.pairwise_cons.mpr ⟨fun z hz => ?_, h⟩
      rcases List.mem_cons.mp hz with e | m
      · omega
      · have := h1 z m
        omega
    · rw [if_neg k]
      by_cases k2 : x = y
      · rw [if_pos k2]; exact h
      · rw [if_neg k2]
        refine List.pairwise_cons.mpr ⟨fun z hz => ?_, uins_up h2⟩
        rcases mem_uins.mp hz with e | m
        · omega
        · exact h1 z m
theorem usort_up : ∀ l : List Int, (usort l).Pairwise (· < ·)
  | [] => List.Pairwise.nil
  | _ :: r => uins_up (usort_up r)
theorem up_one : ∀ {l k : List Int}, l.Pairwise (· < ·) → k.Pairwise (· < ·) → (∀ x, x ∈ l ↔ x ∈ k) → l = k
  | [], [], _, _, _ => rfl
  | [], y :: k, _, _, h => absurd ((h y).mpr List.mem_cons_self) (by simp)
  | x :: l, [], _, _, h => absurd ((h x).mp List.mem_cons_self) (by simp)
  | x :: l, y :: k, h1, h2, h => by
    obtain ⟨a1, a2⟩ := List.pairwise_cons.mp h1
    obtain ⟨b1, b2⟩ := List.pairwise_cons.mp h2
    have e : x = y := by
      rcases List.mem_cons.mp ((h x).mp List.mem_cons_self) with e | m
      · exact e
      · rcases List.mem_cons.mp ((h y).mpr List.mem_cons_self) with e | m'
        · exact e.symm
        · have := b1 x m
          have := a1 y m'
          omega
    subst e
    have e2 : l = k := up_one a2 b2 fun z => by
      constructor
      · intro m
        rcases List.mem_cons.mp ((h z).mp (List.mem_cons_of_mem _ m)) with e | m'
        · have := a1 z m
          omega
        · exact m'
      · intro m
        rcases List.mem_cons.mp ((h z).mpr (List.mem_cons_of_mem _ m)) with e | m'
        · have := b1 z m
          omega
        · exact m'
    rw [e2]
def bendsOf (s t : List Int) : List Int := usort (0 :: (s ++ t))
theorem bends_head {s t : List Int} (hs : ∀ x ∈ s, 0 ≤ x) (ht : ∀ x ∈ t, 0 ≤ x) : ∃ r, bendsOf s t = 0 :: r := by
  have up := usort_up (0 :: (s ++ t))
  have m0 : (0 : Int) ∈ bendsOf s t := mem_usort.mpr List.mem_cons_self
  have nn : ∀ x ∈ bendsOf s t, 0 ≤ x := fun x hx => by
    rcases List.mem_cons.mp (mem_usort.mp hx) with e | m
    · omega
    · rcases List.mem_append.mp m with m | m
      · exact hs x m
      · exact ht x m
  unfold bendsOf at *
  cases e : usort (0 :: (s ++ t)) with
  | nil => rw [e] at m0; cases m0
  | cons y r =>
    rw [e] at m0 up nn
    refine ⟨r, ?_⟩
    rcases List.mem_cons.mp m0 with k | m
    · rw [k]
    · have := (List.pairwise_cons.mp up).1 0 m
      have := nn y List.mem_cons_self
      omega
/-! ### straight between two bends -/
def Lin (g : Int → Int) (p q : Int) : Prop := ∃ m : Int, ∀ b, p ≤ b → b ≤ q → g b = g p + m * (b - p)
def PL (g : Int → Int) : List Int → Prop
  | [] => True
  | [p] => ∀ b, p ≤ b → g b = g p
  | p :: q :: r => p < q ∧ Lin g p q ∧ PL g (q :: r)
theorem overs_lin {p q : Int} : ∀ {s : List Int}, (∀ x ∈ s, x ≤ p ∨ q ≤ x) → ∃ m : Int, ∀ b, p ≤ b → b ≤ q → (s.map (over b)).sum = (s.map (over p)).sum + m * (b - p)
  | [], _ => ⟨0, fun b _ _ => by simp⟩
  | x :: r, h => by
    obtain ⟨m, hm⟩ := overs_lin fun y hy => h y (List.mem_cons_of_mem _ hy)
    rcases h x List.mem_cons_self with hx | hx
    · refine ⟨m, fun b h1 h2 => ?_⟩
      have z := hm b h1 h2
      simp only [List.map_cons, List.sum_cons]
      have e1 : over b x = 0 := by unfold over; omega
      have e2 : over p x = 0 := by unfold over; omega
      omega
    · refine ⟨m - 1, fun b h1 h2 => ?_⟩
      have z := hm b h1 h2
      simp only [List.map_cons, List.sum_cons]
      have e1 : over b x = x - b := by unfold over; omega
      have e2 : over p x = x - p := by unfold over; omega
      have e3 : (m - 1) * (b - p) = m * (b - p) - (b - p) := by rw [Int.sub_mul, Int.one_mul]
      omega
def gapH (w1 : Int) (s : List Int) (w2 : Int) (t : List Int) (b : Int) : Int := buyH w1 s b - buyH w2 t b
theorem gap_lin {w1 w2 p q : Int} {s t : List Int} (hs : ∀ x ∈ s, x ≤ p ∨ q ≤ x) (ht : ∀ x ∈ t, x ≤ p ∨ q ≤ x) : Lin (gapH w1 s w2 t) p q := by
  obtain ⟨m, hm⟩ := overs_lin hs
  obtain ⟨n, hn⟩ := overs_lin ht
  refine ⟨m - n, fun b h1 h2 => ?_⟩
  have a := hm b h1 h2
  have c := hn b h1 h2
  unfold gapH buyH
  have e : (m - n) * (b - p) = m * (b - p) - n * (b - p) := Int.sub_mul ..
  omega
theorem pl_of {w1 w2 : Int} {s t : List Int} : ∀ {bs : List Int}, bs.Pairwise (· < ·) → (∀ p r, bs = p :: r → ∀ x, x ∈ s ∨ x ∈ t → x ≤ p ∨ x ∈ bs) → PL (gapH w1 s w2 t) bs
  | [], _, _ => True.intro
  | [p], _, h => fun b hb => by
    have k : ∀ x, x ∈ s ∨ x ∈ t → x ≤ p := fun x hx => by
      rcases h p [] rfl x hx with a | a
      · exact a
      · have := List.mem_singleton.mp a
        omega
    unfold gapH buyH
    rw [overs_zero (b := b) (s := s) fun x hx => by have := k x (.inl hx); omega, overs_zero (b := p) (s := s) fun x hx => k x (.inl hx),
      overs_zero (b := b) (s := t) fun x hx => by have := k x (.inr hx); omega, overs_zero (b := p) (s := t) fun x hx => k x (.inr hx)]
  | p :: q :: r, up, h => by
    obtain ⟨u1, u2⟩ := List.pairwise_cons.mp up
    obtain ⟨v1, v2⟩ := List.pairwise_cons.mp u2
    have k : ∀ x, x ∈ s ∨ x ∈ t → x ≤ p ∨ q ≤ x := fun x hx => by
      rcases h p (q :: r) rfl x hx with a | a
      · exact .inl a
      · rcases List.mem_cons.mp a with e | m
        · exact .inl (by omega)
        · rcases List.mem_cons.mp m with e | m'
          · exact .inr (by omega)
          · have := v1 x m'
            exact .inr (by omega)
    refine ⟨u1 q List.mem_cons_self, gap_lin (fun x hx => k x (.inl hx)) (fun x hx => k x (.inr hx)), pl_of u2 fun p' r' e x hx => ?_⟩
    have e1 : q = p' := (List.cons.inj e).1
    subst e1
    rcases h p (q :: r) rfl x hx with a | a
    · have := u1 q List.mem_cons_self
      exact .inl (by omega)
    · rcases List.mem_cons.mp a with e | m
      · have := u1 q List.mem_cons_self
        exact .inl (by omega)
      · exact .inr m
theorem pl_bends (w1 : Int) (s : List Int) (w2 : Int) (t : List Int) : PL (gapH w1 s w2 t) (bendsOf s t) :=
  pl_of (usort_up _) fun _ _ _ x hx => .inr (mem_usort.mpr (List.mem_cons_of_mem _ (List.mem_append.mpr hx)))
/-! ### the greatest -/
def lmax : List Int → Int
  | [] => 0
  | x :: r => if r = [] then x else max x (lmax r)
theorem lmax_mem : ∀ {l : List Int}, l ≠ [] → lmax l ∈ l
  | [], h => absurd rfl h
  | x :: r, _ => by
    unfold lmax
    by_cases h : r = []
    · rw [if_pos h]; exact List.mem_cons_self
    · rw [if_neg h]
      rcases Int.le_total (lmax r) x with k | k
      · rw [show max x (lmax r) = x by omega]; exact List.mem_cons_self
      · rw [show max x (lmax r) = lmax r by omega]; exact List.mem_cons_of_mem _ (lmax_mem h)
theorem le_lmax : ∀ {l : List Int} {y : Int}, y ∈ l → y ≤ lmax l
  | [], _, h => by cases h
  | x :: r, y, h => by
    unfold lmax
    by_cases k : r = []
    · rw [if_pos k]
      rw [k] at h
      have e := List.mem_singleton.mp h
      omega
    · rw [if_neg k]
      rcases List.mem_cons.mp h with e | m
      · omega
      · have z := le_lmax m
        omega
theorem lmax_one {l : List Int} {m : Int} (h : m ∈ l) (k : ∀ y, y ∈ l → y ≤ m) : m = lmax l := by
  have a := k _ (lmax_mem (fun e => by rw [e] at h; cases h))
  have b := le_lmax h
  omega
theorem pl_top {g : Int → Int} : ∀ {p : Int} {r : List Int}, PL g (p :: r) → ∀ b, p ≤ b → ∃ x ∈ p :: r, g b ≤ g x
  | p, [], h, b, hb => ⟨p, List.mem_cons_self, by rw [h b hb]; exact Int.le_refl _⟩
  | p, q :: r, ⟨hpq, ⟨m, hm⟩, hr⟩, b, hb => by
    rcases Int.le_total b q with k | k
    · have e1 := hm b hb k
      have e2 := hm q (by omega) (Int.le_refl _)
      rcases Int.le_total 0 m with s | s
      · refine ⟨q, List.mem_cons_of_mem _ List.mem_cons_self, ?_⟩
        have := Int.mul_le_mul_of_nonneg_left (show b - p ≤ q - p by omega) s
        omega
      · refine ⟨p, List.mem_cons_self, ?_⟩
        have := Int.mul_nonneg (show 0 ≤ -m by omega) (show 0 ≤ b - p by omega)
        rw [Int.neg_mul] at this
        omega
    · obtain ⟨x, hx, h⟩ := pl_top hr b k
      exact ⟨x, List.mem_cons_of_mem _ hx, h⟩
/-- the first of the places where g is M, none above: just ahead of it g is less -/
theorem pl_first {g : Int → Int} {M : Int} : ∀ {p : Int} {r : List Int}, PL g (p :: r) → (∀ x ∈ p :: r, g x ≤ M) → ∀ x rest, (p :: r).filter (fun x => decide (g x = M)) = x :: rest → p < x → g (x - 1) < M
  | p, [], _, _, x, rest, e, hx => by
    by_cases k : g p = M
    · rw [List.filter_cons_of_pos (by simpa using k)] at e
      have := (List.cons.inj e).1
      omega
    · rw [List.filter_cons_of_neg (by simpa using k)] at e
      cases e
  | p, q :: r, ⟨hpq, ⟨m, hm⟩, hr⟩, hM, x, rest, e, hx => by
    by_cases k : g p = M
    · rw [List.filter_cons_of_pos (by simpa using k)] at e
      have := (List.cons.inj e).1
      omega
    · rw [List.filter_cons_of_neg (by simpa using k)] at e
      by_cases kq : g q = M
      · rw [List.filter_cons_of_pos (by simpa using kq)] at e
        have ex : q = x := (List.cons.inj e).1
        subst ex
        have e1 := hm (q - 1) (by omega) (by omega)
        have e2 := hm q (by omega) (Int.le_refl _)
        have e3 : m * (q - p) = m * (q - 1 - p) + m := by
          rw [show q - p = (q - 1 - p) + 1 by omega, Int.mul_add, Int.mul_one]
        have hp := hM p List.mem_cons_self
        have : 0 < m := by
          rcases Int.lt_or_le 0 m with s | s
          · exact s
          · have := Int.mul_nonneg (show 0 ≤ -m by omega) (show 0 ≤ q - p by omega)
            rw [Int.neg_mul] at this
            omega
        omega
      · have hx2 : q < x := by
          rw [List.filter_cons_of_neg (by simpa using kq)] at e
          have m1 : x ∈ r.filter (fun x => decide (g x = M)) := by rw [e]; exact List.mem_cons_self
          have m2 := (List.mem_filter.mp m1).1
          exact pl_lt hr x m2
        exact pl_first hr (fun y hy => hM y (List.mem_cons_of_mem _ hy)) x rest e hx2
where
  pl_lt {g : Int → Int} : ∀ {q : Int} {r : List Int}, PL g (q :: r) → ∀ x ∈ r, q < x
    | _, [], _, _, h => by cases h
    | q, y :: r, ⟨h1, _, h3⟩, x, hx => by
      rcases List.mem_cons.mp hx with e | m
      · omega
      · have := pl_lt h3 x m
        omega
def mostOf (w1 : Int) (s : List Int) (w2 : Int) (t : List Int) : Int := lmax ((bendsOf s t).map (gapH w1 s w2 t))
def spotsOf (w1 : Int) (s : List Int) (w2 : Int) (t : List Int) : List Int := (bendsOf s t).filter fun b => decide (gapH w1 s w2 t b = mostOf w1 s w2 t)
def spotOf (w1 : Int) (s : List Int) (w2 : Int) (t : List Int) : Int := (spotsOf w1 s w2 t).getD 0 0
section
variable {w1 w2 : Int} {s t : List Int}
theorem most_ge (hs : Sw s) (ht : Sw t) {b : Int} (hb : 0 ≤ b) : gapH w1 s w2 t b ≤ mostOf w1 s w2 t := by
  obtain ⟨r, e⟩ := bends_head hs.pos ht.pos
  have pl := pl_bends w1 s w2 t
  unfold mostOf
  rw [e] at pl ⊢
  obtain ⟨x, hx, h⟩ := pl_top pl b hb
  have := le_lmax (List.mem_map.mpr ⟨x, hx, rfl⟩ : gapH w1 s w2 t x ∈ (0 :: r).map (gapH w1 s w2 t))
  omega
theorem most_at (hs : Sw s) (ht : Sw t) : ∃ b, b ∈ bendsOf s t ∧ 0 ≤ b ∧ gapH w1 s w2 t b = mostOf w1 s w2 t := by
  obtain ⟨r, e⟩ := bends_head hs.pos ht.pos
  have m := lmax_mem (l := (bendsOf s t).map (gapH w1 s w2 t)) (by rw [e]; simp)
  obtain ⟨b, hb, h⟩ := List.mem_map.mp m
  refine ⟨b, hb, ?_, h⟩
  rcases List.mem_cons.mp (mem_usort.mp hb) with e | m
  · omega
  · rcases List.mem_append.mp m with m | m
    · exact hs.pos b m
    · exact ht.pos b m
theorem most_le_zero (hs : Sw s) (ht : Sw t) : mostOf w1 s w2 t ≤ 0 ↔ within w1 s w2 t = true := by
  rw [within_buy hs ht]
  constructor
  · intro h b hb
    have := most_ge (w1 := w1) (w2 := w2) hs ht hb
    unfold gapH at this
    omega
  · intro h
    obtain ⟨b, _, hb, e⟩ := most_at (w1 := w1) (w2 := w2) hs ht
    have := h b hb
    unfold gapH at e
    omega
theorem spots_cons (hs : Sw s) (ht : Sw t) : ∃ rest, spotsOf w1 s w2 t = spotOf w1 s w2 t :: rest := by
  obtain ⟨b, hb, _, e⟩ := most_at (w1 := w1) (w2 := w2) hs ht
  have m : b ∈ spotsOf w1 s w2 t := List.mem_filter.mpr ⟨hb, by simpa using e⟩
  unfold spotOf
  cases h : spotsOf w1 s w2 t with
  | nil => rw [h] at m; cases m
  | cons x r => exact ⟨r, rfl⟩
theorem spot_ok (hs : Sw s) (ht : Sw t) : 0 ≤ spotOf w1 s w2 t ∧ gapH w1 s w2 t (spotOf w1 s w2 t) = mostOf w1 s w2 t ∧ (0 < spotOf w1 s w2 t → gapH w1 s w2 t (spotOf w1 s w2 t - 1) < mostOf w1 s w2 t) ∧ spotOf w1 s w2 t ∈ bendsOf s t := by
  obtain ⟨rest, e⟩ := spots_cons (w1 := w1) (w2 := w2) hs ht
  have m : spotOf w1 s w2 t ∈ spotsOf w1 s w2 t := by rw [e]; exact List.mem_cons_self
  obtain ⟨m1, m2⟩ := List.mem_filter.mp m
  have m3 : gapH w1 s w2 t (spotOf w1 s w2 t) = mostOf w1 s w2 t := by simpa using m2
  refine ⟨?_, m3, fun h => ?_, m1⟩
  · rcases List.mem_cons.mp (mem_usort.mp m1) with e | m
    · omega
    · rcases List.mem_append.mp m with m | m
      · exact hs.pos _ m
      · exact ht.pos _ m
  · obtain ⟨r, eb⟩ := bends_head hs.pos ht.pos
    have pl := pl_bends w1 s w2 t
    rw [eb] at pl
    refine pl_first pl (fun x hx => le_lmax (List.mem_map.mpr ⟨x, by rw [eb]; exact hx, rfl⟩)) _ rest ?_ h
    unfold spotsOf at e
    rw [eb] at e
    exact e
end
end Bu
set_option Elab.async false
set_option maxRecDepth 10000
/-! Spans. -/
namespace Bu
def spanIn (here there first last : Int) : Option (Int × Int) :=
  if 0 < here then some (first, if 0 ≤ (there - here) / (last + 1 - first) then last else min last (first + (here - 1) / (-((there - here) / (last + 1 - first)))))
  else if (if 0 < (there - here) / (last + 1 - first) then first + (-here) / ((there - here) / (last + 1 - first)) + 1 else last + 1) ≤ last
    then some (if 0 < (there - here) / (last + 1 - first) then first + (-here) / ((there - here) / (last + 1 - first)) + 1 else last + 1, last) else none
theorem span_ok {g : Int → Int} {p q : Int} (hpq : p < q) (hl : Lin g p q) :
    (∀ lo hi, spanIn (g p) (g q) p (q - 1) = some (lo, hi) → p ≤ lo ∧ lo ≤ hi ∧ hi ≤ q - 1 ∧ ∀ b, p ≤ b → b ≤ q - 1 → (0 < g b ↔ lo ≤ b ∧ b ≤ hi)) ∧
    (spanIn (g p) (g q) p (q - 1) = none → ∀ b, p ≤ b → b ≤ q - 1 → ¬ 0 < g b) := by
  obtain ⟨m, hm⟩ := hl
  have es : (g q - g p) / (q - 1 + 1 - p) = m := by
    have e := hm q (by omega) (Int.le_refl _)
    rw [show g q - g p = m * (q - p) by omega, show q - 1 + 1 - p = q - p by omega]
    exact Int.mul_ediv_cancel _ (by omega)
  unfold spanIn
  rw [es]
  by_cases h : 0 < g p
  · rw [if_pos h]
    refine ⟨fun lo hi e => ?_, fun e => (by cases e)⟩
    have e1 := Option.some.inj e
    have elo : p = lo := congrArg Prod.fst e1
    have ehi : (if 0 ≤ m then q - 1 else min (q - 1) (p + (g p - 1) / (-m))) = hi := congrArg Prod.snd e1
    subst elo
    by_cases hm0 : 0 ≤ m
    · rw [if_pos hm0] at ehi
      subst ehi
      refine ⟨Int.le_refl _, by omega, Int.le_refl _, fun b h1 h2 => ⟨fun _ => ⟨h1, h2⟩, fun _ => ?_⟩⟩
      have := hm b h1 (by omega)
      have := Int.mul_nonneg hm0 (show 0 ≤ b - p by omega)
      omega
    · rw [if_neg hm0] at ehi
      subst ehi
      have hd : 0 < -m := by omega
      have q0 : 0 ≤ (g p - 1) / (-m) := Int.ediv_nonneg (by omega) (by omega)
      refine ⟨Int.le_refl _, by omega, by omega, fun b h1 h2 => ?_⟩
      have e := hm b h1 (by omega)
      have k := Int.le_ediv_iff_mul_le (a := b - p) (b := g p - 1) hd
      have e2 : (b - p) * (-m) = -(m * (b - p)) := by rw [Int.mul_neg, Int.mul_comm]
      rw [e2] at k
      constructor
      · intro z
        have := k.mpr (by omega)
        omega
      · rintro ⟨_, z⟩
        have := k.mp (by omega)
        omega
  · rw [if_neg h]
    by_cases hm0 : 0 < m
    · rw [if_pos hm0]
      have key : ∀ b, p ≤ b → b ≤ q - 1 → (0 < g b ↔ p + (-g p) / m + 1 ≤ b) := fun b h1 h2 => by
        have e := hm b h1 (by omega)
        have k := Int.ediv_lt_iff_lt_mul (a := -g p) (b := b - p) hm0
        have e2 : (b - p) * m = m * (b - p) := Int.mul_comm ..
        rw [e2] at k
        constructor
        · intro z
          have := k.mpr (by omega)
          omega
        · intro z
          have := k.mp (by omega)
          omega
      have q0 : 0 ≤ (-g p) / m := Int.ediv_nonneg (by omega) (by omega)
      by_cases hb : p + (-g p) / m + 1 ≤ q - 1
      · rw [if_pos hb]
        refine ⟨fun lo hi e => ?_, fun e => (by cases e)⟩
        have e1 := Option.some.inj e
        have elo : p + (-g p) / m + 1 = lo := congrArg Prod.fst e1
        have ehi : q - 1 = hi := congrArg Prod.snd e1
        subst elo ehi
        exact ⟨by omega, hb, Int.le_refl _, fun b h1 h2 => (key b h1 h2).trans ⟨fun z => ⟨z, h2⟩, fun z => z.1⟩⟩
      · rw [if_neg hb]
        refine ⟨fun lo hi e => (by cases e), fun _ b h1 h2 z => ?_⟩
        have := (key b h1 h2).mp z
        omega
    · rw [if_neg hm0, if_neg (by omega)]
      refine ⟨fun lo hi e => (by cases e), fun _ b h1 h2 z => ?_⟩
      have e := hm b h1 (by omega)
      have := Int.mul_nonneg (show 0 ≤ -m by omega) (show 0 ≤ b - p by omega)
      rw [Int.neg_mul] at this
      omega
abbrev Span := Int × Option Int
def In (sp : Span) (b : Int) : Prop := sp.1 ≤ b ∧ ∀ h, sp.2 = some h → b ≤ h
def piece (g : Int → Int) (p q : Int) : List Span := match spanIn (g p) (g q) p (q - 1) with
  | some (a, h) => [(a, some h)]
  | none => []
def rawS (g : Int → Int) : List Int → List Span
  | [] => []
  | [p] => if 0 < g p then [(p, none)] else []
  | p :: q :: r => piece g p q ++ rawS g (q :: r)
/-- one behind another, from e on, d - 1 free places between -/
def Asc (d : Int) : Int → List Span → Prop
  | _, [] => True
  | e, (a, none) :: r => e ≤ a ∧ r = []
  | e, (a, some h) :: r => e ≤ a ∧ a ≤ h ∧ Asc d (h + d) r
theorem Asc.down {d e e' : Int} : ∀ {L : List Span}, Asc d e L → e' ≤ e → Asc d e' L
  | [], _, _ => True.intro
  | (a, none) :: r, ⟨h1, h2⟩, h => ⟨by omega, h2⟩
  | (a, some k) :: r, ⟨h1, h2, h3⟩, h => ⟨by omega, h2, h3⟩
theorem raw_ok {g : Int → Int} {M : Int} : ∀ {p : Int} {r : List Int}, PL g (p :: r) → (∀ x ∈ p :: r, x ≤ M) →
    Asc 1 p (rawS g (p :: r)) ∧ (∀ b, p ≤ b → (0 < g b ↔ ∃ sp ∈ rawS g (p :: r), In sp b)) ∧ ∀ sp ∈ rawS g (p :: r), sp.1 ≤ M
  | p, [], h, hM => by
    show Asc 1 p (if 0 < g p then [(p, none)] else []) ∧ (∀ b, p ≤ b → (0 < g b ↔ ∃ sp ∈ (if 0 < g p then [(p, none)] else []), In sp b)) ∧ ∀ sp ∈ (if 0 < g p then [((p, none) : Span)] else []), sp.1 ≤ M
    by_cases k : 0 < g p
    · rw [if_pos k]
      refine ⟨⟨Int.le_refl _, rfl⟩, fun b hb => ⟨fun _ => ⟨_, List.mem_cons_self, hb, fun h e => by cases e⟩, fun _ => ?_⟩, fun sp hs => ?_⟩
      · have := h b hb
        omega
      · rw [List.mem_singleton.mp hs]
        exact hM p List.mem_cons_self
    · rw [if_neg k]
      refine ⟨True.intro, fun b hb => ⟨fun z => ?_, fun ⟨_, m, _⟩ => by cases m⟩, fun sp hs => by cases hs⟩
      have := h b hb
      omega
  | p, q :: r, ⟨hpq, hl, hr⟩, hM => by
    obtain ⟨ih1, ih2, ih3⟩ := raw_ok (M := M) hr fun x hx => hM x (List.mem_cons_of_mem _ hx)
    obtain ⟨s1, s2⟩ := span_ok hpq hl
    have hqM := hM q (List.mem_cons_of_mem _ List.mem_cons_self)
    have low : ∀ {L : List Span} {e : Int}, Asc 1 e L → ∀ sp ∈ L, e ≤ sp.1 := asc_low
    show Asc 1 p (piece g p q ++ rawS g (q :: r)) ∧ (∀ b, p ≤ b → (0 < g b ↔ ∃ sp ∈ piece g p q ++ rawS g (q :: r), In sp b)) ∧ ∀ sp ∈ piece g p q ++ rawS g (q :: r), sp.1 ≤ M
    unfold piece
    cases e : spanIn (g p) (g q) p (q - 1) with
    | none =>
      have z := s2 e
      simp only [List.nil_append]
      refine ⟨ih1.down (by omega), fun b hb => ?_, ih3⟩
      rcases Int.lt_or_le b q with k | k
      · refine ⟨fun y => absurd y (z b hb (by omega)), fun ⟨sp, m, h1, _⟩ => ?_⟩
        have := low ih1 sp m
        omega
      · exact ih2 b k
    | some lh =>
      obtain ⟨lo, hi⟩ := lh
      obtain ⟨z1, z2, z3, z4⟩ := s1 lo hi e
      simp only [List.cons_append, List.nil_append]
      refine ⟨⟨z1, z2, ih1.down (by omega)⟩, fun b hb => ?_, fun sp hs => ?_⟩
      · rcases Int.lt_or_le b q with k | k
        · constructor
          · intro y
            obtain ⟨y1, y2⟩ := (z4 b hb (by omega)).mp y
            exact ⟨_, List.mem_cons_self, y1, fun h e => by cases e; exact y2⟩
          · rintro ⟨sp, m, h1, h2⟩
            rcases List.mem_cons.mp m with e | m
            · subst e
              exact (z4 b hb (by omega)).mpr ⟨h1, h2 hi rfl⟩
            · have := low ih1 sp m
              omega
        · constructor
          · intro y
            obtain ⟨sp, m, h⟩ := (ih2 b k).mp y
            exact ⟨sp, List.mem_cons_of_mem _ m, h⟩
          · rintro ⟨sp, m, h1, h2⟩
            rcases List.mem_cons.mp m with e | m
            · subst e
              have := h2 hi rfl
              omega
            · exact (ih2 b k).mpr ⟨sp, m, h1, h2⟩
      · rcases List.mem_cons.mp hs with e | m
        · subst e
          show lo ≤ M
          omega
        · exact ih3 sp m
where
  asc_low {d : Int} (hd : 0 ≤ d := by omega) : ∀ {L : List Span} {e : Int}, Asc d e L → ∀ sp ∈ L, e ≤ sp.1
    | [], _, _, _, m => by cases m
    | (a, none) :: r, e, ⟨h1, h2⟩, sp, m => by
      rw [h2] at m
      rw [List.mem_singleton.mp m]
      exact h1
    | (a, some h) :: r, e, ⟨h1, h2, h3⟩, sp, m => by
      rcases List.mem_cons.mp m with k | k
      · rw [k]; exact h1
      · have := asc_low hd h3 sp k
        omega
/-! ### put together -/
def mergeS (found : List Span) (sp : Span) : List Span := match found.getLast? with
  | some (a, some h) => if h + 1 = sp.1 then found.dropLast ++ [(a, sp.2)] else found ++ [sp]
  | _ => found ++ [sp]
def mergeR : Span → List Span → List Span
  | cur, [] => [cur]
  | (a, some h), sp :: r => if h + 1 = sp.1 then mergeR (a, sp.2) r else (a, some h) :: mergeR sp r
  | (a, none), sp :: r => (a, none) :: mergeR sp r
theorem merge_fold : ∀ (raw found : List Span) (cur : Span), raw.foldl mergeS (found ++ [cur]) = found ++ mergeR cur raw
  | [], found, cur => by cases cur with | mk a h => cases h <;> rfl
  | sp :: r, found, (a, none) => by
    show r.foldl mergeS (mergeS (found ++ [(a, none)]) sp) = found ++ ((a, none) :: mergeR sp r)
    have e : mergeS (found ++ [(a, none)]) sp = (found ++ [(a, none)]) ++ [sp] := by
      unfold mergeS
      rw [List.getLast?_concat]
    rw [e, merge_fold r (found ++ [(a, none)]) sp]
    simp
  | sp :: r, found, (a, some h) => by
    show r.foldl mergeS (mergeS (found ++ [(a, some h)]) sp) = found ++ (if h + 1 = sp.1 then mergeR (a, sp.2) r else (a, some h) :: mergeR sp r)
    have e : mergeS (found ++ [(a, some h)]) sp = if h + 1 = sp.1 then found ++ [(a, sp.2)] else (found ++ [(a, some h)]) ++ [sp] := by
      unfold mergeS
      rw [List.getLast?_concat]
      simp only [List.dropLast_concat]
    rw [e]
    by_cases k : h + 1 = sp.1
    · rw [if_pos k, if_pos k]
      exact merge_fold r found (a, sp.2)
    · rw [if_neg k, if_neg k, merge_fold r (found ++ [(a, some h)]) sp]
      simp
theorem mergeR_ok {M : Int} : ∀ (raw : List Span) (a : Int) (o : Option Int) {e : Int}, e ≤ a → (∀ h, o = some h → a ≤ h ∧ Asc 1 (h + 1) raw) → (o = none → raw = []) → a ≤ M → (∀ sp ∈ raw, sp.1 ≤ M) →
    Asc 2 e (mergeR (a, o) raw) ∧ (∀ b, (∃ sp ∈ mergeR (a, o) raw, In sp b) ↔ In (a, o) b ∨ ∃ sp ∈ raw, In sp b) ∧ ∀ sp ∈ mergeR (a, o) raw, sp.1 ≤ M
  | [], a, o, e, he, h1, _, hM, _ => by
    have e1 : mergeR (a, o) [] = [(a, o)] := by cases o <;> rfl
    rw [e1]
    refine ⟨?_, fun b => ?_, fun sp hs => by rw [List.mem_singleton.mp hs]; exact hM⟩
    · cases o with
      | none => exact ⟨he, rfl⟩
      | some h => exact ⟨he, (h1 h rfl).1, True.intro⟩
    · constructor
      · rintro ⟨sp, m, h⟩
        rw [List.mem_singleton.mp m] at h
        exact .inl h
      · rintro (h | ⟨sp, m, _⟩)
        · exact ⟨_, List.mem_cons_self, h⟩
        · cases m
  | sp :: r, a, none, e, he, _, h2, hM, hr => absurd (h2 rfl) (by simp)
  | (a2, o2) :: r, a, some h, e, he, h1, h2, hM, hr => by
    obtain ⟨hah, hasc⟩ := h1 h rfl
    have h2' : o2 = none → r = [] := fun z => by
      subst z
      exact hasc.2
    have hle : h + 1 ≤ a2 := by cases o2 with
      | none => exact hasc.1
      | some k => exact hasc.1
    have h3 : ∀ k, o2 = some k → a2 ≤ k ∧ Asc 1 (k + 1) r := fun k z => by
      subst z
      exact hasc.2
    have hM2 := hr _ List.mem_cons_self
    have hr2 : ∀ sp ∈ r, sp.1 ≤ M := fun sp m => hr sp (List.mem_cons_of_mem _ m)
    show Asc 2 e (if h + 1 = a2 then mergeR (a, o2) r else (a, some h) :: mergeR (a2, o2) r) ∧ (∀ b, (∃ sp ∈ (if h + 1 = a2 then mergeR (a, o2) r else (a, some h) :: mergeR (a2, o2) r), In sp b) ↔ _) ∧ ∀ sp ∈ (if h + 1 = a2 then mergeR (a, o2) r else (a, some h) :: mergeR (a2, o2) r), sp.1 ≤ M
    by_cases k : h + 1 = a2
    · rw [if_pos k]
      obtain ⟨i1, i2, i3⟩ := mergeR_ok (M := M) r a o2 he (fun k z => ⟨by have := (h3 k z).1; omega, (h3 k z).2⟩) h2' hM hr2
      refine ⟨i1, fun b => (i2 b).trans ⟨?_, ?_⟩, i3⟩
      · rintro (⟨y1, y2⟩ | ⟨sp, m, y⟩)
        · rcases Int.lt_or_le h b with z | z
          · exact .inr ⟨_, List.mem_cons_self, by show a2 ≤ b; omega, y2⟩
          · exact .inl ⟨y1, fun h' e => by cases e; exact z⟩
        · exact .inr ⟨sp, List.mem_cons_of_mem _ m, y⟩
      · rintro (⟨y1, y2⟩ | ⟨sp, m, y⟩)
        · refine .inl ⟨y1, fun h' e => ?_⟩
          have := y2 h rfl
          have := (h3 h' e).1
          omega
        · rcases List.mem_cons.mp m with e | m
          · subst e
            have y1 : a2 ≤ b := y.1
            exact .inl ⟨by show a ≤ b; omega, y.2⟩
          · exact .inr ⟨sp, m, y⟩
    · rw [if_neg k]
      obtain ⟨i1, i2, i3⟩ := mergeR_ok (M := M) r a2 o2 (e := h + 2) (by omega) h3 h2' hM2 hr2
      refine ⟨⟨he, hah, i1⟩, fun b => ?_, fun sp hs => ?_⟩
      · constructor
        · rintro ⟨sp, m, y⟩
          rcases List.mem_cons.mp m with e | m
          · subst e
            exact .inl y
          · rcases (i2 b).mp ⟨sp, m, y⟩ with z | ⟨sp', m', z⟩
            · exact .inr ⟨_, List.mem_cons_self, z⟩
            · exact .inr ⟨sp', List.mem_cons_of_mem _ m', z⟩
        · rintro (y | ⟨sp, m, y⟩)
          · exact ⟨_, List.mem_cons_self, y⟩
          · have z : ∃ sp ∈ mergeR (a2, o2) r, In sp b := by
              rcases List.mem_cons.mp m with e | m
              · subst e
                exact (i2 b).mpr (.inl y)
              · exact (i2 b).mpr (.inr ⟨sp, m, y⟩)
            obtain ⟨sp', m', z⟩ := z
            exact ⟨sp', List.mem_cons_of_mem _ m', z⟩
      · rcases List.mem_cons.mp hs with e | m
        · subst e
          exact hM
        · exact i3 sp m
def spansOf (g : Int → Int) (butts : List Int) : List Span := (rawS g butts).foldl mergeS []
theorem spans_all {g : Int → Int} {M p : Int} {r : List Int} (h : PL g (p :: r)) (hM : ∀ x ∈ p :: r, x ≤ M) :
    Asc 2 p (spansOf g (p :: r)) ∧ (∀ b, p ≤ b → (0 < g b ↔ ∃ sp ∈ spansOf g (p :: r), In sp b)) ∧ ∀ sp ∈ spansOf g (p :: r), sp.1 ≤ M := by
  obtain ⟨a1, a2, a3⟩ := raw_ok h hM
  unfold spansOf
  cases e : rawS g (p :: r) with
  | nil =>
    rw [e] at a2
    exact ⟨True.intro, a2, fun sp m => by cases m⟩
  | cons sp raw =>
    rw [e] at a1 a2 a3
    obtain ⟨a, o⟩ := sp
    have ef : ((a, o) :: raw).foldl mergeS [] = mergeR (a, o) raw := by
      have z := merge_fold raw [] (a, o)
      exact z
    rw [ef]
    obtain ⟨i1, i2, i3⟩ := mergeR_ok (M := M) raw a o (e := p) (by cases o <;> exact a1.1) (fun h z => by subst z; exact a1.2) (fun z => by subst z; exact a1.2)
      (a3 _ List.mem_cons_self) fun sp m => a3 sp (List.mem_cons_of_mem _ m)
    refine ⟨i1, fun b hb => (a2 b hb).trans ?_, i3⟩
    rw [i2 b]
    constructor
    · rintro ⟨sp, m, y⟩
      rcases List.mem_cons.mp m with e | m
      · subst e
        exact .inl y
      · exact .inr ⟨sp, m, y⟩
    · rintro (y | ⟨sp, m, y⟩)
      · exact ⟨_, List.mem_cons_self, y⟩
      · exact ⟨sp, List.mem_cons_of_mem _ m, y⟩
theorem asc_in {e : Int} : ∀ {L : List Span} {b : Int}, Asc 2 e L → (∃ sp ∈ L, In sp b) → e ≤ b
  | [], _, _, ⟨_, m, _⟩ => by cases m
  | (a, none) :: r, b, ⟨h1, h2⟩, ⟨sp, m, y⟩ => by
    rw [h2] at m
    rw [List.mem_singleton.mp m] at y
    have := y.1
    have z : a ≤ b := this
    omega
  | (a, some h) :: r, b, ⟨h1, h2, h3⟩, ⟨sp, m, y⟩ => by
    rcases List.mem_cons.mp m with k | k
    · rw [k] at y
      have z : a ≤ b := y.1
      omega
    · have := asc_in h3 ⟨sp, k, y⟩
      omega
/-- ahead of a span and behind it there is none -/
theorem asc_gap : ∀ {L : List Span} {e : Int}, Asc 2 e L → ∀ a o, (a, o) ∈ L → e ≤ a ∧ (∀ h, o = some h → a ≤ h) ∧ ¬ (∃ sp ∈ L, In sp (a - 1)) ∧ ∀ h, o = some h → ¬ (∃ sp ∈ L, In sp (h + 1))
  | [], _, _, _, _, m => by cases m
  | (a', none) :: r, e, ⟨h1, h2⟩, a, o, m => by
    rw [h2] at m ⊢
    have em := List.mem_singleton.mp m
    cases em
    refine ⟨h1, fun h z => (by cases z), fun ⟨sp, m, y⟩ => ?_, fun h z => (by cases z)⟩
    rw [List.mem_singleton.mp m] at y
    have z : a' ≤ a' - 1 := y.1
    omega
  | (a', some h') :: r, e, ⟨h1, h2, h3⟩, a, o, m => by
    rcases List.mem_cons.mp m with k | k
    · cases k
      refine ⟨h1, fun h z => (by cases z; exact h2), fun ⟨sp, m, y⟩ => ?_, fun h z => ?_⟩
      · rcases List.mem_cons.mp m with k | k
        · rw [k] at y
          have z : a' ≤ a' - 1 := y.1
          omega
        · have := asc_in h3 ⟨sp, k, y⟩
          omega
      · cases z
        rintro ⟨sp, m, y⟩
        rcases List.mem_cons.mp m with k | k
        · rw [k] at y
          have := y.2 h' rfl
          omega
        · have := asc_in h3 ⟨sp, k, y⟩
          omega
    · obtain ⟨i1, i2, i3, i4⟩ := asc_gap h3 a o k
      refine ⟨by omega, i2, fun ⟨sp, m, y⟩ => ?_, fun h z => ?_⟩
      · rcases List.mem_cons.mp m with q | q
        · rw [q] at y
          have := y.2 h' rfl
          omega
        · exact i3 ⟨sp, q, y⟩
      · rintro ⟨sp, m, y⟩
        rcases List.mem_cons.mp m with q | q
        · rw [q] at y
          have := y.2 h' rfl
          have := i2 h z
          omega
        · exact i4 h z ⟨sp, q, y⟩
/-! ### the spans of two heaps -/
def spansH (w1 : Int) (s : List Int) (w2 : Int) (t : List Int) : List Span := spansOf (gapH w1 s w2 t) (bendsOf s t)
structure SpanOk (g : Int → Int) (M a : Int) (o : Option Int) : Prop where
  nn : 0 ≤ a
  top : a ≤ M
  here : 0 < g a
  ahead : 0 < a → ¬ 0 < g (a - 1)
  fin : ∀ h, o = some h → a ≤ h ∧ 0 < g h ∧ ¬ 0 < g (h + 1)
  far : o = none → ∀ b, a ≤ b → 0 < g b
theorem spans_right {w1 w2 : Int} {s t : List Int} {M : Int} (hs : Sw s) (ht : Sw t) (hM : 0 ≤ M) (hMs : ∀ x ∈ s, x ≤ M) (hMt : ∀ x ∈ t, x ≤ M) :
    (spansH w1 s w2 t = [] ↔ within w1 s w2 t = true) ∧ ∀ a o, (a, o) ∈ spansH w1 s w2 t → SpanOk (gapH w1 s w2 t) M a o := by
  obtain ⟨r, e⟩ := bends_head hs.pos ht.pos
  have pl := pl_bends w1 s w2 t
  have bM : ∀ x ∈ bendsOf s t, x ≤ M := fun x hx => by
    rcases List.mem_cons.mp (mem_usort.mp hx) with e | m
    · omega
    · rcases List.mem_append.mp m with m | m
      · exact hMs x m
      · exact hMt x m
  unfold spansH
  rw [e] at pl bM ⊢
  obtain ⟨h1, h2, h3⟩ := spans_all pl bM
  refine ⟨?_, fun a o m => ?_⟩
  · rw [within_buy hs ht]
    constructor
    · intro z b hb
      have k := h2 b hb
      rw [z] at k
      have : ¬ 0 < gapH w1 s w2 t b := fun y => by
        obtain ⟨_, m, _⟩ := k.mp y
        cases m
      unfold gapH at this
      omega
    · intro z
      cases e2 : spansOf (gapH w1 s w2 t) (0 :: r) with
      | nil => rfl
      | cons sp L =>
        obtain ⟨a, o⟩ := sp
        obtain ⟨g1, g2, _, _⟩ := asc_gap h1 a o (by rw [e2]; exact List.mem_cons_self)
        have k := (h2 a g1).mpr ⟨(a, o), by rw [e2]; exact List.mem_cons_self, Int.le_refl _, fun h z => g2 h z⟩
        have := z a g1
        unfold gapH at k
        omega
  · obtain ⟨g1, g2, g3, g4⟩ := asc_gap h1 a o m
    refine ⟨g1, h3 _ m, (h2 a g1).mpr ⟨_, m, Int.le_refl _, fun h z => g2 h z⟩, fun hp y => g3 ((h2 (a - 1) (by omega)).mp y), fun h z => ⟨g2 h z, ?_, fun y => g4 h z ((h2 (h + 1) (by have := g2 h z; omega)).mp y)⟩, fun z b hb => ?_⟩
    · have := g2 h z
      exact (h2 h (by omega)).mpr ⟨_, m, this, fun h' z' => by rw [z] at z'; cases z'; exact Int.le_refl _⟩
    · exact (h2 b (by omega)).mpr ⟨_, m, hb, fun h z' => by rw [z] at z'; cases z'⟩
/-- the spans by places -/
theorem rawS_ix (g : Int → Int) : ∀ butts : List Int, rawS g butts = ((List.range (butts.length - 1)).flatMap fun k => piece g (butts.getD k 0) (butts.getD (k + 1) 0)) ++ (if 0 < butts.length ∧ 0 < g (lastI butts) then [(lastI butts, none)] else [])
  | [] => by simp [rawS]
  | [p] => by
    show (if 0 < g p then [(p, none)] else []) = _
    have e : lastI [p] = p := rfl
    rw [e]
    simp
  | p :: q :: r => by
    show piece g p q ++ rawS g (q :: r) = _
    rw [rawS_ix g (q :: r)]
    have e1 : lastI (p :: q :: r) = lastI (q :: r) := by
      unfold lastI
      simp
    rw [e1]
    have e2 : (p :: q :: r).length - 1 = ((q :: r).length - 1) + 1 := by simp
    rw [e2, List.range_succ_eq_map, List.flatMap_cons, List.flatMap_map, List.append_assoc]
    simp
end Bu
set_option Elab.async false
set_option maxRecDepth 10000
/-! Years so many times as great, the other way about; bounds. -/
namespace Bu
def sc (c x : Int) : Int := c * x
theorem pos_sc {c x : Int} (hc : 0 < c) : 0 < sc c x ↔ 0 < x := by
  unfold sc
  constructor
  · intro h
    rcases Int.lt_or_le 0 x with k | k
    · exact k
    · have := Int.mul_nonneg (show 0 ≤ c by omega) (show 0 ≤ -x by omega)
      rw [Int.mul_neg] at this
      omega
  · intro h
    exact Int.mul_pos hc h
theorem neg_sc {c x : Int} (hc : c < 0) (hx : x ≠ 0) : 0 < sc c x ↔ ¬ 0 < x := by
  have e : sc c x = sc (-c) (-x) := by unfold sc; rw [Int.neg_mul_neg]
  rw [e, pos_sc (by omega)]
  omega
/-- two that are not 0: of one sign before and behind -/
theorem same_sc {c x y : Int} (hc : c ≠ 0) (hx : x ≠ 0) (hy : y ≠ 0) : (decide (0 < sc c x) == decide (0 < sc c y)) = (decide (0 < x) == decide (0 < y)) := by
  rcases Int.lt_or_le 0 c with k | k
  · rw [decide_eq_decide.mpr (pos_sc k), decide_eq_decide.mpr (pos_sc k)]
  · have e1 := neg_sc (c := c) (by omega) hx
    have e2 := neg_sc (c := c) (by omega) hy
    by_cases a : 0 < x <;> by_cases b : 0 < y <;> simp [a, b, e1, e2]
theorem getD_sc (c : Int) (l : List Int) (k : Nat) : (l.map (sc c)).getD k 0 = sc c (l.getD k 0) := by
  rw [List.getD_eq_getElem?_getD, List.getD_eq_getElem?_getD, List.getElem?_map]
  cases l[k]? with
  | none => unfold sc; simp
  | some x => rfl
theorem lastI_sc (c : Int) (l : List Int) : lastI (l.map (sc c)) = sc c (lastI l) := by
  unfold lastI
  rw [List.length_map, getD_sc]
theorem getD_mem {l : List Int} {k : Nat} (h : k < l.length) : l.getD k 0 ∈ l := by
  rw [List.getD_eq_getElem?_getD, List.getElem?_eq_getElem h]
  exact List.getElem_mem h
theorem prevR_sc (c : Int) (l : List Int) (k : Nat) : prevR (l.map (sc c)) k = sc c (prevR l k) := by
  unfold prevR
  by_cases h : k = 0
  · rw [if_pos h, if_pos h, lastI_sc]
  · rw [if_neg h, if_neg h, getD_sc]
theorem sum_sc (c : Int) : ∀ l : List Int, (l.map (sc c)).sum = sc c l.sum
  | [] => by unfold sc; simp
  | x :: r => by
    have := sum_sc c r
    simp only [List.map_cons, List.sum_cons, this]
    unfold sc
    rw [Int.mul_add]
theorem turns_sc {c : Int} (hc : c ≠ 0) {rs : List Int} (h0 : ∀ r ∈ rs, r ≠ 0) : turnsOf (rs.map (sc c)) = turnsOf rs := by
  unfold turnsOf
  rw [List.length_map]
  refine List.filter_congr fun k hk => ?_
  have hk := List.mem_range.mp hk
  unfold turnAt
  have a : rs.getD k 0 ≠ 0 := h0 _ (getD_mem hk)
  have b : prevR rs k ≠ 0 := by
    unfold prevR lastI
    by_cases q : k = 0
    · rw [if_pos q]; exact h0 _ (getD_mem (by omega))
    · rw [if_neg q]; exact h0 _ (getD_mem (by omega))
  rw [getD_sc, prevR_sc]
  have z := same_sc hc a b
  rw [bne, bne, z]
theorem mstep_sc {c : Int} (hc : c ≠ 0) {found : List Int} {run : Int} (h0 : ∀ x ∈ found, x ≠ 0) (hr : run ≠ 0) :
    mstep (found.map (sc c)) (sc c run) = (mstep found run).map (sc c) ∧ ∀ x ∈ mstep found run, x ≠ 0 := by
  have ej : joins (found.map (sc c)) (sc c run) = joins found run := by
    unfold joins
    rw [List.length_map, lastI_sc]
    cases found with
    | nil => rfl
    | cons y r =>
      have : lastI (y :: r) ≠ 0 := by
        unfold lastI
        exact h0 _ (getD_mem (by simp))
      rw [same_sc hc hr this]
  unfold mstep
  rw [ej]
  by_cases k : joins found run = true
  · rw [if_pos k, if_pos k, lastI_sc]
    refine ⟨?_, fun x hx => ?_⟩
    · rw [List.map_append, List.map_dropLast]
      simp only [List.map_cons, List.map_nil]
      have : sc c (lastI found) + sc c run = sc c (lastI found + run) := by unfold sc; rw [Int.mul_add]
      rw [this]
    · rcases List.mem_append.mp hx with m | m
      · exact h0 x (List.dropLast_subset found m)
      · rw [List.mem_singleton.mp m]
        unfold joins at k
        have k2 := Bool.and_eq_true_iff.mp k
        have k3 : 0 < run ↔ 0 < lastI found := decide_eq_decide.mp (eq_of_beq k2.2)
        have k4 : lastI found ≠ 0 := by
          unfold lastI
          have := of_decide_eq_true k2.1
          exact h0 _ (getD_mem (by omega))
        omega
  · rw [if_neg k, if_neg k]
    refine ⟨by rw [List.map_append]; rfl, fun x hx => ?_⟩
    rcases List.mem_append.mp hx with m | m
    · exact h0 x m
    · rw [List.mem_singleton.mp m]; exact hr
theorem fold_sc {c : Int} (hc : c ≠ 0) : ∀ (l : List Int) {found : List Int}, (∀ x ∈ found, x ≠ 0) → (∀ x ∈ l, x ≠ 0) → (l.map (sc c)).foldl mstep (found.map (sc c)) = (l.foldl mstep found).map (sc c)
  | [], _, _, _ => rfl
  | x :: r, found, h, hl => by
    obtain ⟨e, h2⟩ := mstep_sc hc h (hl x List.mem_cons_self)
    show (r.map (sc c)).foldl mstep (mstep (found.map (sc c)) (sc c x)) = _
    rw [e]
    exact fold_sc hc r h2 fun y hy => hl y (List.mem_cons_of_mem _ hy)
theorem ring_sc {c : Int} (hc : c ≠ 0) {rs : List Int} (h0 : ∀ r ∈ rs, r ≠ 0) : ringOf (rs.map (sc c)) = (ringOf rs).map (sc c) := by
  unfold ringOf
  rw [turns_sc hc h0]
  cases turnsOf rs with
  | nil =>
    show [(rs.map (sc c)).sum] = [rs.sum].map (sc c)
    rw [sum_sc]
    rfl
  | cons t ts =>
    show (around (rs.map (sc c)) t).foldl mstep [] = ((around rs t).foldl mstep []).map (sc c)
    have e : around (rs.map (sc c)) t = (around rs t).map (sc c) := by
      unfold around
      rw [List.map_append, List.map_drop, List.map_take]
    rw [e]
    exact fold_sc hc (around rs t) (found := []) (fun x h => by cases h) fun x hx => h0 x (around_mem hx)
theorem ab_sc (c x : Int) : ab (sc c x) = sc (ab c) (ab x) := by
  have key : ∀ y : Int, ab y = (y.natAbs : Int) := fun y => by unfold ab; omega
  unfold sc
  rw [key, key, key, Int.natAbs_mul]
  rfl
theorem abs_sc (c : Int) (l : List Int) : (l.map (sc c)).map ab = (l.map ab).map (sc (ab c)) := by
  rw [List.map_map, List.map_map]
  refine List.map_congr_left fun x _ => ?_
  exact ab_sc c x
theorem ab_pos {c : Int} (h : c ≠ 0) : 0 < ab c := by unfold ab; omega
theorem le_sc {c x y : Int} (hc : 0 < c) : sc c x ≤ sc c y ↔ x ≤ y := by
  unfold sc
  exact ⟨fun h => Int.le_of_mul_le_mul_left h hc, fun h => Int.mul_le_mul_of_nonneg_left h (by omega)⟩
theorem lmin_sc {c : Int} (hc : 0 < c) {l : List Int} (h : l ≠ []) : lmin (l.map (sc c)) = sc c (lmin l) := by
  refine (lmin_one (List.mem_map.mpr ⟨_, lmin_mem h, rfl⟩) fun y hy => ?_).symm
  obtain ⟨x, hx, e⟩ := List.mem_map.mp hy
  rw [← e]
  exact (le_sc hc).mpr (lmin_le hx)
theorem inj_sc {c x y : Int} (hc : 0 < c) (h : sc c x = sc c y) : x = y := by
  have a := (le_sc hc (x := x) (y := y)).mp (by omega)
  have b := (le_sc hc (x := y) (y := x)).mp (by omega)
  omega
theorem idx_sc {c : Int} (hc : 0 < c) (a : Int) : ∀ l : List Int, (l.map (sc c)).idxOf (sc c a) = l.idxOf a
  | [] => rfl
  | x :: r => by
    rw [List.map_cons, List.idxOf_cons, List.idxOf_cons, idx_sc hc a r]
    have e : (sc c x == sc c a) = (x == a) := by
      by_cases h : x = a
      · rw [h]; simp
      · have : sc c x ≠ sc c a := fun q => h (inj_sc hc q)
        rw [beq_eq_false_iff_ne.mpr h, beq_eq_false_iff_ne.mpr this]
    rw [e]
theorem plc_sc {c : Int} (hc : c ≠ 0) {l : List Int} (h : l ≠ []) : plc (l.map (sc c)) = plc l := by
  unfold plc
  rw [abs_sc, lmin_sc (ab_pos hc) (fun e => h (List.map_eq_nil_iff.mp e)), idx_sc (ab_pos hc)]
theorem turned_sc {c : Int} (hc : c ≠ 0) {l : List Int} (h : l ≠ []) : turned (l.map (sc c)) = (turned l).map (sc c) := by
  unfold turned
  rw [plc_sc hc h, List.map_append, List.map_drop, List.map_take]
theorem strike_sc {c : Int} (hc : c ≠ 0) {l : List Int} (h : l ≠ []) : strike (l.map (sc c)) = (strike l).map (sc c) := by
  unfold strike
  rw [turned_sc hc h, List.length_map, getD_sc, getD_sc, getD_sc, List.map_cons, List.map_take, List.map_drop]
  have e : ∀ a b d : Int, sc c a + sc c b + sc c d = sc c (a + b + d) := fun a b d => by unfold sc; rw [Int.mul_add, Int.mul_add]
  rw [e]
theorem swF_sc {c : Int} (hc : c ≠ 0) : ∀ (n : Nat) (l : List Int), swF n (l.map (sc c)) = (swF n l).map (sc (ab c))
  | n, l => by
    have two : (if (l.map (sc c)).length = 2 then [lmin ((l.map (sc c)).map ab)] else []) = (if l.length = 2 then [lmin (l.map ab)] else []).map (sc (ab c)) := by
      rw [List.length_map]
      by_cases h : l.length = 2
      · have hne : l ≠ [] := fun e => by rw [e] at h; simp at h
        rw [if_pos h, if_pos h, abs_sc, lmin_sc (ab_pos hc) (fun e => hne (List.map_eq_nil_iff.mp e))]
        rfl
      · rw [if_neg h, if_neg h]
        rfl
    match n with
    | 0 => exact two
    | n + 1 =>
      show (if 2 < (l.map (sc c)).length then ab ((l.map (sc c)).getD (plc (l.map (sc c))) 0) :: swF n (strike (l.map (sc c))) else (if (l.map (sc c)).length = 2 then [lmin ((l.map (sc c)).map ab)] else [])) = (if 2 < l.length then ab (l.getD (plc l) 0) :: swF n (strike l) else (if l.length = 2 then [lmin (l.map ab)] else [])).map (sc (ab c))
      rw [two]
      rw [List.length_map]
      by_cases h : 2 < l.length
      · have hne : l ≠ [] := fun e => by rw [e] at h; simp at h
        rw [if_pos h, if_pos h, plc_sc hc hne, getD_sc, ab_sc, strike_sc hc hne, swF_sc hc n (strike l)]
        rfl
      · rw [if_neg h, if_neg h]
theorem isort_sc {c : Int} (hc : 0 < c) (l : List Int) : isort (l.map (sc c)) = (isort l).map (sc c) := by
  refine (isort_one ((isort_perm l).map (sc c)) ?_).symm
  refine List.pairwise_map.mpr ((isort_ord l).imp fun h => (le_sc hc).mpr h)
theorem swings_sc {c : Int} (hc : c ≠ 0) {rs : List Int} (h0 : ∀ r ∈ rs, r ≠ 0) : swingsOf (rs.map (sc c)) = (swingsOf rs).map (sc (ab c)) := by
  unfold swingsOf swA
  rw [ring_sc hc h0, List.length_map, swF_sc hc, isort_sc (ab_pos hc), List.map_reverse]
theorem wants_sc {c : Int} (hc : 0 < c) (rs : List Int) : wantsOf (rs.map (sc c)) = sc c (wantsOf rs) := by
  unfold wantsOf wantsT
  rw [sum_sc]
  rcases Int.le_total 0 rs.sum with h | h
  · rw [show max 0 (-rs.sum) = 0 by omega]
    have : 0 ≤ sc c rs.sum := Int.mul_nonneg (by omega) h
    have e : sc c 0 = 0 := by unfold sc; simp
    omega
  · rw [show max 0 (-rs.sum) = -rs.sum by omega]
    have e : sc c (-rs.sum) = -(sc c rs.sum) := by unfold sc; rw [Int.mul_neg]
    have : 0 ≤ sc c (-rs.sum) := Int.mul_nonneg (by omega) (by omega)
    omega
theorem map_one (l : List Int) : l.map (sc 1) = l := by
  have e : sc 1 = id := by funext x; unfold sc; simp
  rw [e, List.map_id]
/-- the opposite year -/
theorem opp_eq (rs : List Int) : rs.map (fun r => -r) = rs.map (sc (-1)) := List.map_congr_left fun x _ => by unfold sc; omega
theorem swings_opp {rs : List Int} (h0 : ∀ r ∈ rs, r ≠ 0) : swingsOf (rs.map fun r => -r) = swingsOf rs := by
  rw [opp_eq, swings_sc (by decide) h0]
  have e : ab (-1) = 1 := by decide
  rw [e, map_one]
def spareOf (rs : List Int) : Int := max 0 rs.sum
theorem spare_opp (rs : List Int) : spareOf (rs.map fun r => -r) = wantsOf rs := by
  unfold spareOf wantsOf wantsT
  rw [opp_eq, sum_sc]
  unfold sc
  omega
/-! ### heaps so many times as great -/
section
variable {c : Int} (hc : 0 < c)
include hc
theorem over_sc (b x : Int) : over (sc c b) (sc c x) = sc c (over b x) := by
  unfold over
  have e : sc c x - sc c b = sc c (x - b) := by unfold sc; rw [Int.mul_sub]
  rw [e]
  rcases Int.le_total 0 (x - b) with h | h
  · have : 0 ≤ sc c (x - b) := Int.mul_nonneg (by omega) h
    rw [show max 0 (x - b) = x - b by omega]
    omega
  · have e2 : sc c (-(x - b)) = -(sc c (x - b)) := by unfold sc; rw [Int.mul_neg]
    have : 0 ≤ sc c (-(x - b)) := Int.mul_nonneg (by omega) (by omega)
    rw [show max 0 (x - b) = 0 by omega]
    have e3 : sc c 0 = 0 := by unfold sc; simp
    omega
theorem buyH_sc (w : Int) (s : List Int) (b : Int) : buyH (sc c w) (s.map (sc c)) (sc c b) = sc c (buyH w s b) := by
  unfold buyH
  have e : (s.map (sc c)).map (over (sc c b)) = (s.map (over b)).map (sc c) := by
    rw [List.map_map, List.map_map]
    exact List.map_congr_left fun x _ => over_sc hc b x
  rw [e, sum_sc]
  unfold sc
  rw [Int.mul_add]
theorem gap_sc (w1 : Int) (s : List Int) (w2 : Int) (t : List Int) (b : Int) : gapH (sc c w1) (s.map (sc c)) (sc c w2) (t.map (sc c)) (sc c b) = sc c (gapH w1 s w2 t b) := by
  unfold gapH
  rw [buyH_sc hc, buyH_sc hc]
  unfold sc
  rw [Int.mul_sub]
theorem bends_sc (s t : List Int) : bendsOf (s.map (sc c)) (t.map (sc c)) = (bendsOf s t).map (sc c) := by
  refine up_one (usort_up _) ?_ fun x => ?_
  · refine List.pairwise_map.mpr ((usort_up _).imp fun {a b} h => ?_)
    have := (le_sc hc (x := b) (y := a))
    omega
  · unfold bendsOf
    rw [mem_usort, List.mem_map]
    have e : sc c 0 = 0 := by unfold sc; simp
    constructor
    · intro h
      rcases List.mem_cons.mp h with k | m
      · exact ⟨0, mem_usort.mpr List.mem_cons_self, by rw [k, e]⟩
      · rw [← List.map_append] at m
        obtain ⟨y, hy, q⟩ := List.mem_map.mp m
        exact ⟨y, mem_usort.mpr (List.mem_cons_of_mem _ hy), q⟩
    · rintro ⟨y, hy, q⟩
      rcases List.mem_cons.mp (mem_usort.mp hy) with k | m
      · rw [← q, k, e]; exact List.mem_cons_self
      · rw [← List.map_append]
        exact List.mem_cons_of_mem _ (List.mem_map.mpr ⟨y, m, q⟩)
theorem gaps_sc (w1 : Int) (s : List Int) (w2 : Int) (t : List Int) : (bendsOf (s.map (sc c)) (t.map (sc c))).map (gapH (sc c w1) (s.map (sc c)) (sc c w2) (t.map (sc c))) = ((bendsOf s t).map (gapH w1 s w2 t)).map (sc c) := by
  rw [bends_sc hc, List.map_map, List.map_map]
  exact List.map_congr_left fun b _ => gap_sc hc w1 s w2 t b
theorem lmax_sc {l : List Int} (h : l ≠ []) : lmax (l.map (sc c)) = sc c (lmax l) := by
  refine (lmax_one (List.mem_map.mpr ⟨_, lmax_mem h, rfl⟩) fun y hy => ?_).symm
  obtain ⟨x, hx, e⟩ := List.mem_map.mp hy
  rw [← e]
  exact (le_sc hc).mpr (le_lmax hx)
theorem bends_ne (s t : List Int) : bendsOf s t ≠ [] := fun e => by
  have m : (0 : Int) ∈ bendsOf s t := mem_usort.mpr List.mem_cons_self
  rw [e] at m
  cases m
theorem most_sc (w1 : Int) (s : List Int) (w2 : Int) (t : List Int) : mostOf (sc c w1) (s.map (sc c)) (sc c w2) (t.map (sc c)) = sc c (mostOf w1 s w2 t) := by
  unfold mostOf
  rw [gaps_sc hc, lmax_sc hc fun e => bends_ne hc s t (List.map_eq_nil_iff.mp e)]
theorem spot_sc (w1 : Int) (s : List Int) (w2 : Int) (t : List Int) : spotOf (sc c w1) (s.map (sc c)) (sc c w2) (t.map (sc c)) = sc c (spotOf w1 s w2 t) := by
  unfold spotOf spotsOf
  rw [bends_sc hc, most_sc hc, List.filter_map, getD_sc]
  have e : (bendsOf s t).filter ((fun b => decide (gapH (sc c w1) (s.map (sc c)) (sc c w2) (t.map (sc c)) b = sc c (mostOf w1 s w2 t))) ∘ sc c) = (bendsOf s t).filter fun b => decide (gapH w1 s w2 t b = mostOf w1 s w2 t) := by
    refine List.filter_congr fun b _ => ?_
    show decide (gapH (sc c w1) (s.map (sc c)) (sc c w2) (t.map (sc c)) (sc c b) = sc c (mostOf w1 s w2 t)) = _
    rw [gap_sc hc]
    exact decide_eq_decide.mpr ⟨fun h => inj_sc hc h, fun h => by rw [h]⟩
  rw [e]
theorem within_sc (w1 : Int) (s : List Int) (w2 : Int) (t : List Int) : within (sc c w1) (s.map (sc c)) (sc c w2) (t.map (sc c)) = within w1 s w2 t := by
  unfold within moreAt
  rw [List.length_map, List.length_map]
  have e : ((List.range (max s.length t.length + 1)).filter fun k => decide (sumK (sc c w2) (t.map (sc c)) k < sumK (sc c w1) (s.map (sc c)) k)) = (List.range (max s.length t.length + 1)).filter fun k => decide (sumK w2 t k < sumK w1 s k) := by
    refine List.filter_congr fun k _ => ?_
    have q : ∀ (w : Int) (l : List Int), sumK (sc c w) (l.map (sc c)) k = sc c (sumK w l k) := fun w l => by
      unfold sumK
      rw [← List.map_take, sum_sc]
      unfold sc
      rw [Int.mul_add]
    rw [q, q]
    refine decide_eq_decide.mpr ?_
    have := (le_sc hc (x := sumK w1 s k) (y := sumK w2 t k))
    omega
  rw [e]
end
/-! ### bounds -/
def asum (l : List Int) : Int := (l.map ab).sum
theorem ab_nn (x : Int) : 0 ≤ ab x := by unfold ab; omega
theorem asum_nn : ∀ l : List Int, 0 ≤ asum l
  | [] => Int.le_refl _
  | x :: r => by
    have := asum_nn r
    have := ab_nn x
    unfold asum at *
    simp only [List.map_cons, List.sum_cons]
    omega
theorem asum_app (p q : List Int) : asum (p ++ q) = asum p + asum q := by
  unfold asum
  rw [List.map_append, List.sum_append]
theorem ab_le : ∀ {l : List Int} {x : Int}, x ∈ l → ab x ≤ asum l
  | [], _, h => by cases h
  | y :: r, x, h => by
    have := asum_nn r
    have := ab_nn y
    unfold asum at *
    simp only [List.map_cons, List.sum_cons]
    rcases List.mem_cons.mp h with e | m
    · subst e; omega
    · have := ab_le m
      unfold asum at this
      omega
theorem swF_nn : ∀ (n : Nat) (l : List Int), ∀ x ∈ swF n l, 0 ≤ x := by
  have two : ∀ (l : List Int) (x : Int), x ∈ (if l.length = 2 then [lmin (l.map ab)] else []) → 0 ≤ x := fun l x h => by
    by_cases k : l.length = 2
    · rw [if_pos k] at h
      rw [List.mem_singleton.mp h]
      have m := lmin_mem (l := l.map ab) (fun e => by have := List.map_eq_nil_iff.mp e; rw [this] at k; simp at k)
      obtain ⟨y, _, e⟩ := List.mem_map.mp m
      rw [← e]
      exact ab_nn y
    · rw [if_neg k] at h
      cases h
  intro n
  induction n with
  | zero => exact two
  | succ n ih =>
    intro l x h
    have h : x ∈ (if 2 < l.length then ab (l.getD (plc l) 0) :: swF n (strike l) else (if l.length = 2 then [lmin (l.map ab)] else [])) := h
    by_cases k : 2 < l.length
    · rw [if_pos k] at h
      rcases List.mem_cons.mp h with e | m
      · rw [e]; exact ab_nn _
      · exact ih _ x m
    · rw [if_neg k] at h
      exact two l x h
theorem sw_ok (rs : List Int) : Sw (swingsOf rs) := by
  refine ⟨?_, fun x hx => ?_⟩
  · unfold swingsOf
    rw [List.pairwise_reverse]
    exact isort_ord _
  · exact swF_nn _ _ x ((swings_perm rs).mem_iff.mp hx)
theorem swF_le : ∀ (n : Nat) (l : List Int), (∀ x ∈ swF n l, x ≤ asum l) ∧ (swF n l).length ≤ l.length := by
  have two : ∀ l : List Int, (∀ x ∈ (if l.length = 2 then [lmin (l.map ab)] else []), x ≤ asum l) ∧ (if l.length = 2 then [lmin (l.map ab)] else []).length ≤ l.length := fun l => by
    by_cases k : l.length = 2
    · rw [if_pos k]
      refine ⟨fun x h => ?_, by rw [k]; simp⟩
      rw [List.mem_singleton.mp h]
      have m := lmin_mem (l := l.map ab) (fun e => by have := List.map_eq_nil_iff.mp e; rw [this] at k; simp at k)
      obtain ⟨y, hy, e⟩ := List.mem_map.mp m
      rw [← e]
      exact ab_le hy
    · rw [if_neg k]
      exact ⟨fun x h => (by cases h), by simp⟩
  intro n
  induction n with
  | zero => exact two
  | succ n ih =>
    intro l
    show (∀ x ∈ (if 2 < l.length then ab (l.getD (plc l) 0) :: swF n (strike l) else (if l.length = 2 then [lmin (l.map ab)] else [])), x ≤ asum l) ∧ (if 2 < l.length then ab (l.getD (plc l) 0) :: swF n (strike l) else (if l.length = 2 then [lmin (l.map ab)] else [])).length ≤ l.length
    by_cases k : 2 < l.length
    · rw [if_pos k]
      obtain ⟨i1, i2⟩ := ih (strike l)
      have hne : l ≠ [] := fun e => by rw [e] at k; simp at k
      have at_ : asum (turned l) = asum l := by
        unfold turned
        rw [asum_app, Int.add_comm, ← asum_app, List.take_append_drop]
      obtain ⟨c, mid, z, e1, e2⟩ := turned_parts k
      have hs : asum (strike l) ≤ asum l := by
        rw [← at_, e1, e2]
        rw [asum_app]
        unfold asum
        simp only [List.map_cons, List.sum_cons, List.map_nil, List.sum_nil]
        unfold ab
        omega
      refine ⟨fun x h => ?_, ?_⟩
      · rcases List.mem_cons.mp h with e | m
        · rw [e]; exact ab_le (getD_mem (plc_lt hne))
        · have := i1 x m
          omega
      · rw [List.length_cons]
        rw [strike_len k] at i2
        omega
    · rw [if_neg k]
      exact two l
theorem mstep_le (found : List Int) (run : Int) : asum (mstep found run) ≤ asum found + ab run ∧ (mstep found run).length ≤ found.length + 1 := by
  unfold mstep
  by_cases k : joins found run = true
  · rw [if_pos k]
    have hne : found ≠ [] := fun e => by
      unfold joins at k
      rw [e] at k
      simp at k
    have e := snoc_of hne
    have a : asum found = asum found.dropLast + ab (lastI found) := by
      rw (occs := .pos [1]) [e]
      rw [asum_app]
      unfold asum
      simp
    rw [asum_app, a]
    refine ⟨?_, ?_⟩
    · unfold asum
      simp only [List.map_cons, List.map_nil, List.sum_cons, List.sum_nil]
      unfold ab
      omega
    · rw [List.length_append, List.length_dropLast]
      simp
  · rw [if_neg k, asum_app]
    refine ⟨?_, by simp⟩
    unfold asum
    simp
theorem fold_le : ∀ (l found : List Int), asum (l.foldl mstep found) ≤ asum found + asum l ∧ (l.foldl mstep found).length ≤ found.length + l.length
  | [], found => by
    refine ⟨?_, Nat.le_refl _⟩
    show asum found ≤ asum found + 0
    omega
  | x :: r, found => by
    obtain ⟨i1, i2⟩ := fold_le r (mstep found x)
    obtain ⟨j1, j2⟩ := mstep_le found x
    have e : asum (x :: r) = ab x + asum r := by unfold asum; simp
    rw [e]
    refine ⟨?_, ?_⟩
    · show asum (r.foldl mstep (mstep found x)) ≤ _
      omega
    · show (r.foldl mstep (mstep found x)).length ≤ _
      rw [List.length_cons]
      omega
theorem ab_sum : ∀ l : List Int, ab l.sum ≤ asum l
  | [] => by decide
  | x :: r => by
    have := ab_sum r
    unfold asum at *
    simp only [List.map_cons, List.sum_cons]
    unfold ab at *
    omega
theorem ring_le {rs : List Int} (hne : rs ≠ []) : asum (ringOf rs) ≤ asum rs ∧ (ringOf rs).length ≤ rs.length := by
  unfold ringOf
  cases turnsOf rs with
  | nil =>
    refine ⟨?_, ?_⟩
    · have := ab_sum rs
      show asum [rs.sum] ≤ asum rs
      have e : asum [rs.sum] = ab rs.sum := by unfold asum; simp
      omega
    · have := List.length_pos_iff.mpr hne
      show 1 ≤ rs.length
      omega
  | cons t ts =>
    obtain ⟨i1, i2⟩ := fold_le (around rs t) []
    show asum ((around rs t).foldl mstep []) ≤ asum rs ∧ ((around rs t).foldl mstep []).length ≤ rs.length
    have a : asum (around rs t) = asum rs := by
      unfold around
      rw [asum_app, Int.add_comm, ← asum_app, List.take_append_drop]
    have b : (around rs t).length = rs.length := by
      unfold around
      rw [List.length_append, List.length_drop, List.length_take]
      omega
    rw [a] at i1
    rw [b] at i2
    have e : asum [] = 0 := rfl
    rw [e] at i1
    simp only [List.length_nil] at i2
    exact ⟨by omega, by omega⟩
theorem swings_le {rs : List Int} (hne : rs ≠ []) : (∀ x ∈ swingsOf rs, x ≤ asum rs) ∧ (swingsOf rs).length ≤ rs.length := by
  obtain ⟨h1, h2⟩ := swF_le (ringOf rs).length (ringOf rs)
  obtain ⟨g1, g2⟩ := ring_le hne
  refine ⟨fun x hx => ?_, ?_⟩
  · have := h1 x ((swings_perm rs).mem_iff.mp hx)
    omega
  · rw [(swings_perm rs).length_eq]
    exact Nat.le_trans h2 g2
theorem wants_le (rs : List Int) : 0 ≤ wantsOf rs ∧ wantsOf rs ≤ asum rs := by
  have := ab_sum rs
  unfold wantsOf wantsT
  unfold ab at this
  have := asum_nn rs
  omega
theorem overs_le {b B : Int} (hb : 0 ≤ b) (hB : 0 ≤ B) : ∀ {s : List Int}, (∀ x ∈ s, x ≤ B) → (s.map (over b)).sum ≤ (s.length : Int) * B
  | [], _ => by simp
  | x :: r, h => by
    have := overs_le hb hB fun y hy => h y (List.mem_cons_of_mem _ hy)
    have := h x List.mem_cons_self
    have e : ((r.length + 1 : Nat) : Int) * B = (r.length : Int) * B + B := by
      rw [Int.natCast_add, Int.add_mul]
      simp
    simp only [List.map_cons, List.sum_cons, List.length_cons]
    rw [e]
    have : over b x ≤ B := by unfold over; omega
    omega
theorem buy_le {rs : List Int} (hne : rs ≠ []) {b : Int} (hb : 0 ≤ b) {n : Nat} (hn : rs.length ≤ n) : 0 ≤ buyH (wantsOf rs) (swingsOf rs) b ∧ buyH (wantsOf rs) (swingsOf rs) b ≤ ((n : Int) + 1) * asum rs := by
  obtain ⟨h1, h2⟩ := swings_le hne
  obtain ⟨w1, w2⟩ := wants_le rs
  have a := overs_le hb (asum_nn rs) h1
  have c := overs_nn b (swingsOf rs)
  have d := Int.mul_le_mul_of_nonneg_right (show ((swingsOf rs).length : Int) ≤ (n : Int) by omega) (asum_nn rs)
  unfold buyH
  rw [Int.add_mul, Int.one_mul]
  omega
end Bu
set_option Elab.async false
set_option linter.all false
set_option maxRecDepth 100000
set_option maxHeartbeats 4000000
/-! A dict whose keys are tuples of truth values, its values texts: made by a display, read. -/
namespace Dt
open PySem PySem.Spec PyProof.Rows L2
def hBT (ks : List Bool) : Int := reduceHash (Builtin.Tuple.tupleHashOf (ks.map PpSet.hB))
abbrev BKey := List Bool × Addr × Str
abbrev BEnt := List Bool × Addr × Value
/-- the dict at d: key by key a tuple of truth values, a text -/
def BD (kvs : List BKey) (h : Heap) (d : Addr) : Prop := ∃ (o : Obj) (es : Array DictEntry) (ep : Nat) (xs : List BEnt), h.get? d = some o ∧ o.ExactDict ∧ o.data = .dict es ep ∧ es.toList = xs.map (fun x => (⟨hBT x.1, .ref x.2.1, x.2.2⟩ : DictEntry)) ∧
  Paired (fun p q => p.1 = q.1 ∧ p.2.1 = q.2.1 ∧ ∃ t, q.2.2 = Value.str p.2.2 t) kvs xs ∧ (xs.map (·.1)).Nodup
def BDO (d : Addr) (kvs : List BKey) : HO := .ext fun h => BD kvs h d
theorem bd_ok {P : Program} {w : World} {H : Hp} {h : Heap} {d : Addr} {kvs : List BKey} (b : BD kvs h d) : ObjOk P w H h d (BDO d kvs) := by
  have b' := b
  obtain ⟨o, es, ep, xs, ho, rest⟩ := b'
  exact ⟨b, ⟨o, ho⟩, fun h1 h2 ⟨o, es, ep, xs, ho, rest⟩ k => ⟨o, es, ep, xs, k _ ho, rest⟩⟩
theorem items_bl {P : Program} {w : World} : ∀ {ks : List Bool} {us : List Value}, Vals (ks.map V.bl) us → ItemsAre (PpSet.boolK P w) ks us
  | [], _, .nil => .nil
  | k :: ks, _, .cons r t => by
    cases (show _ = Value.bool k from r)
    exact .cons (PpSet.boolK_is P w k) (items_bl t)
theorem bkey_of {P : Program} {w : World} {H : Hp} {h : Heap} {a : Addr} {ks : List Bool} (ok : HOk P w H h) (e : H a = some (.tup (ks.map V.bl))) : (tupleKind (PpSet.boolK P w)).is h ks a := by
  obtain ⟨_, its, r, o, h1, h2, n, h3⟩ := (show ObjOk P w H h a (.tup (ks.map V.bl)) from ok a _ e)
  exact ⟨o, its.toArray, n, h1, h2, h3, by simpa using items_bl r⟩
abbrev BK (H : Hp) (kvs : List BKey) : Prop := ∀ k ∈ kvs, H k.2.1 = some (.tup (k.1.map V.bl))
theorem paired_mem {α β : Type} {F : α → β → Prop} : ∀ {l : List α} {m : List β}, Paired F l m → ∀ x ∈ m, ∃ y ∈ l, F y x
  | _, _, .nil, x, h => by cases h
  | _, _, .cons (a := a) r t, x, h => by
    rcases List.mem_cons.mp h with e | m
    · rw [e]; exact ⟨_, List.mem_cons_self, r⟩
    · obtain ⟨y, hy, f⟩ := paired_mem t x m
      exact ⟨y, List.mem_cons_of_mem _ hy, f⟩
theorem bd_dict {P : Program} {w : World} {H : Hp} {h : Heap} {d : Addr} {kvs : List BKey} (ok : HOk P w H h) (b : BD kvs h d) (k : BK H kvs) : ∃ xs : List BEnt, h.DictOfH (tupleKind (PpSet.boolK P w)) d xs ∧ Paired (fun p q => p.1 = q.1 ∧ p.2.1 = q.2.1 ∧ ∃ t, q.2.2 = Value.str p.2.2 t) kvs xs := by
  obtain ⟨o, es, ep, xs, h1, h2, h3, h4, h5, h6⟩ := b
  refine ⟨xs, ⟨o, es, ep, h1, h2, h3, h4, fun x hx => ?_, h6⟩, h5⟩
  obtain ⟨y, hy, e1, e2, _⟩ := paired_mem h5 x hx
  rw [← e1, ← e2]
  exact bkey_of ok (k y hy)
section
variable {P : Program} {w : World} {A : Around} {E : Value → Shared → Prop}
theorem storeAllB {d : Addr} : ∀ (kvs acc : List BEnt) (s : Shared) (Q : PUnit → Shared → Prop), A.units < cLine → s.heap.DictOfH (tupleKind (PpSet.boolK P w)) d acc → (∀ k ∈ kvs, (tupleKind (PpSet.boolK P w)).is s.heap k.1 k.2.1) → ((acc ++ kvs).map (·.1)).Nodup → acc.length + kvs.length ≤ 100 →
    (∀ h' tk, h'.DictOfH (tupleKind (PpSet.boolK P w)) d (acc ++ kvs) → Heap.SameBut d s.heap h' → Q PUnit.unit { s with heap := h', toks := tk }) →
    wpAny (model P w) A (forIn (kvs.map fun k => (Value.ref k.2.1, k.2.2)) PUnit.unit fun (x : Value × Value) (_ : PUnit) => (do dictSet d x.1 x.2; pure (ForInStep.yield PUnit.unit) : Sem (ForInStep PUnit))) Q E s
  | [], acc, s, Q, _, hm, _, _, _, hQ => by
    rw [List.map_nil, List.forIn_nil]
    exact wpAny_pure (by simpa using hQ s.heap s.toks (by simpa using hm) (Heap.SameBut.refl _ _))
  | k :: kvs, acc, s, Q, hu, hm, hk, hn, hsz, hQ => by
    rw [List.map_cons, List.forIn_cons]
    have no : atKey acc k.1 = none := by
      unfold atKey
      rw [Option.map_eq_none_iff, List.find?_eq_none]
      intro x hx z
      have e : x.1 = k.1 := of_decide_eq_true z
      rw [List.map_append, List.map_cons] at hn
      have := (List.nodup_append.mp hn).2.2 x.1 (List.mem_map.mpr ⟨x, hx, rfl⟩) k.1 List.mem_cons_self
      exact this e
    have sl : sizeLine = 16777216 := sizeLine_eq
    refine wpAny_bind (wpAny_bind (wpAny_dictSet_heap (hsz := by omega) hu (hk k List.mem_cons_self) hm fun h₁ hm₁ hs₁ => wpAny_pure ?_))
    rw [storedH_new no] at hm₁
    obtain ⟨o, es, ep, g1, g2, g3, _⟩ := hm
    refine storeAllB kvs (acc ++ [k]) _ Q hu hm₁ (fun x hx => ?_) (by simpa using hn) (by rw [List.length_append]; simp at hsz ⊢; omega) fun h' tk hm' hs' => ?_
    · exact (tupleKind (PpSet.boolK P w)).keeps (hk x (List.mem_cons_of_mem _ hx)) g1 g3 hs₁
    · exact hQ h' tk (by simpa using hm') (hs₁.trans hs')
end
/-- {(x, y): t, ..}; the new dict stands empty while the pairs are made -/
def tBDict (trs : List (TE × TE)) : TE := fun σ H Q => ∀ p, H p = none → tPairs trs σ (upd H p (BDO p [])) fun ps H2 => H2 p = some (BDO p []) ∧ ∃ kvs : List BKey, ps = kvs.map (fun k => (V.ref k.2.1, V.str k.2.2)) ∧ BK H2 kvs ∧ (kvs.map (·.1)).Nodup ∧ kvs.length ≤ 15 ∧ Q (.ref p) (upd H2 p (BDO p kvs))
theorem carriesB : ∀ {kvs : List BKey} {ws : List (Value × Value)}, VV (kvs.map fun k => (V.ref k.2.1, V.str k.2.2)) ws → ∃ xs : List BEnt, ws = xs.map (fun x => (Value.ref x.2.1, x.2.2)) ∧ Paired (fun p q => p.1 = q.1 ∧ p.2.1 = q.2.1 ∧ ∃ t, q.2.2 = Value.str p.2.2 t) kvs xs
  | [], _, r => by rw [List.map_nil] at r; cases r; exact ⟨[], rfl, .nil⟩
  | k :: kvs, _, r => by
    rw [List.map_cons] at r
    cases r with
    | @cons a b as bs h t =>
      obtain ⟨xs, e, q⟩ := carriesB t
      obtain ⟨b1, b2⟩ := b
      obtain ⟨h1, t1, h2⟩ := h
      cases (show b1 = Value.ref k.2.1 from h1)
      exact ⟨(k.1, k.2.1, b2) :: xs, by rw [e]; rfl, .cons ⟨rfl, rfl, t1, h2⟩ q⟩
theorem paired_map {α β γ : Type} {F : α → β → Prop} (f : α → γ) (g : β → γ) : ∀ {l : List α} {m : List β}, Paired F l m → (∀ a b, F a b → f a = g b) → l.map f = m.map g
  | _, _, .nil, _ => rfl
  | _, _, .cons r t, h => by rw [List.map_cons, List.map_cons, h _ _ r, paired_map f g t h]
theorem pe_bdict {X : Cx} {pos : Pos} {keys : List (Option Expr)} {values : List Expr} {trs : List (TE × TE)} (hu : X.A.units < cLine) (h : PPs X pos keys values trs) (hall : keys.all (·.isSome) = true := by rfl) (hl : keys.length = values.length := by rfl) (h0 : keys ≠ [] := by exact fun z => nomatch z)
    (h15 : keys.length ≤ 15 := by decide) : PE X (.Dict keys values pos) (tBDict trs) := by
  refine ⟨fun pins s σ H Q I q => ?_⟩
  have hn := I.hok.fresh (Nat.le_refl s.heap.objs.size)
  have bd0 : BD [] (s.heap.push { cls := .type "dict", data := .dict #[] }) s.heap.objs.size := ⟨_, #[], 0, [], Heap.get?_push_size _ rfl, ⟨rfl, rfl, rfl⟩, rfl, rfl, .nil, List.nodup_nil⟩
  have I1 := I.laid (a := s.heap.objs.size) (o := BDO s.heap.objs.size []) (h' := s.heap.push { cls := .type "dict", data := .dict #[] }) (t' := s.toks) (fun _ _ q => Heap.get?_push_of_some _ q) (Nat.le_refl _) (bd_ok bd0)
  have hn15 := pairTrees_length keys values X.env pos hall hl
  rw [arm_eval_Dict, zip_pairTrees keys values X.env pos hall hl, dictDisplay_pairs _ (fun he => h0 (by rw [he] at hn15; exact List.length_eq_zero_iff.mp hn15.symm)) (by omega)]
  refine wpAny_bind (wpAny_standAt (wpAny_bind ?_))
  unfold subDict
  refine wpAny_bind (wpAny_alloc ?_)
  refine wpAny_bind (wpAny_holding ?_)
  rw [if_pos (by omega)]
  refine wpAny_bind (thn (h.run pins _ σ _ _ I1 (q _ hn)) fun ws s2 ⟨ps, H2, I2, rel, e, kvs, ep, bk, nd, lk, q2⟩ => ?_)
  subst ep
  obtain ⟨xs, rfl, r⟩ := carriesB rel
  refine wpAny_holding ?_
  have b0 : BD [] s2.heap s.heap.objs.size := (I2.hok _ _ e).1
  obtain ⟨xs0, dd0, r0⟩ := bd_dict (P := X.prog) (w := X.w) I2.hok b0 (fun k hk => by cases hk)
  cases r0
  have e1 : kvs.map (·.1) = xs.map (·.1) := paired_map _ _ r fun a b f => f.1
  refine wpAny_bind (storeAllB (P := X.prog) (w := X.w) xs [] s2 _ hu dd0 (fun x hx => ?_) ?_ ?_ fun h' tk dd hs => wpAny_pure (wpAny_pure ?_))
  · obtain ⟨y, hy, f1, f2, _⟩ := paired_mem r x hx
    rw [← f1, ← f2]
    exact bkey_of I2.hok (bk y hy)
  · rw [List.nil_append, ← e1]
    exact nd
  · have := Paired.length r
    rw [List.length_nil]
    omega
  · obtain ⟨o, es, ep, h1, h2, h3, h4, _, h6⟩ := dd
    rw [List.nil_append] at h4 h6
    refine wpAny_pure ⟨.ref s.heap.objs.size, _, ?_, rfl, q2⟩
    exact d_write I2 (by rw [e]; exact True.intro) hs ⟨o, h1⟩ (bd_ok ⟨o, es, ep, xs, h1, h2, h3, h4, r, h6⟩)
/-- d[k], there -/
def rBIx : R2 := fun x y H Q => ∃ (d T : Addr) (kvs : List BKey) (ks : List Bool) (v : BKey), x = .ref d ∧ y = .ref T ∧ H d = some (BDO d kvs) ∧ BK H kvs ∧ H T = some (.tup (ks.map V.bl)) ∧ kvs.find? (fun k => decide (k.1 = ks)) = some v ∧ Q (.str v.2.2) H
theorem find_pair {ks : List Bool} {v : BKey} : ∀ {kvs : List BKey} {xs : List BEnt}, Paired (fun p q => p.1 = q.1 ∧ p.2.1 = q.2.1 ∧ ∃ t, q.2.2 = Value.str p.2.2 t) kvs xs → kvs.find? (fun k => decide (k.1 = ks)) = some v → ∃ p t, atKey xs ks = some p ∧ p.2 = Value.str v.2.2 t
  | _, _, .nil, h => by cases h
  | k :: kvs, x :: xs, .cons r t, h => by
    obtain ⟨f1, f2, tk, f3⟩ := r
    rw [List.find?_cons] at h
    unfold atKey
    rw [List.find?_cons]
    by_cases z : k.1 = ks
    · rw [decide_eq_true z] at h
      rw [decide_eq_true (f1.symm.trans z)]
      have e : k = v := Option.some.inj h
      subst e
      exact ⟨x.2, tk, rfl, f3⟩
    · rw [decide_eq_false z] at h
      rw [decide_eq_false fun y => z (f1.trans y)]
      exact find_pair t h
theorem ix_b {X : Cx} (hu : X.A.units + 1 < cLine) : IxR X rBIx := by
  intro value slice pins s σ H x y v u Q I rx ry h hs
  obtain ⟨d, T, kvs, ks, w, rfl, rfl, hd, bk, hT, hf, q⟩ := h
  obtain rfl : v = Value.ref d := rx
  obtain rfl : u = Value.ref T := ry
  have b : BD kvs s.heap d := (I.hok _ _ hd).1
  obtain ⟨xs, dd, r⟩ := bd_dict (P := X.prog) (w := X.w) I.hok b bk
  obtain ⟨p, t, hp, e⟩ := find_pair r hf
  refine tail_any dd.typeIs slot_dict_getitem.lookup (wpAny_getItem_heap (tupleKind_room_in1 hu) (bkey_of I.hok hT) dd hp ?_) hs
  rw [e]
  exact ⟨.str w.2.2, H, I.tok _, ⟨t, rfl⟩, q⟩
end Dt
set_option Elab.async false
set_option linter.all false
set_option maxRecDepth 100000
set_option maxHeartbeats 4000000
/-! Data in place of heaps: what a value stands for, what an expression evaluates to, what a statement leads to. -/
namespace Dt
open PySem L2
open Evl (Ex)
abbrev Frag := PySem.W.Frag
/-- data: what values stand for; yr: a Year with these runs -/
inductive DV where
  | non | bl (b : Bool) | int (i : Int) | str (x : Str) | tup (ds : List DV) | lst (ds : List DV) | yr (rs : List Int) | hf (x dx : Addr) (rs : List Int) | adr (a : Addr) | wd | wt (D : Addr) (f : DV) (rows : List DV) | lf (ds : List DV)
abbrev dis (ns : List Int) : List DV := ns.map DV.int
/-- the words of two heaps side by side -/
def wordL : List (List Bool × Str) := [([true, true], "alike"), ([true, false], "less"), ([false, true], "more"), ([false, false], "apart")]
mutual
inductive Rep (K : Frag) (C : Addr) (H : Hp) : V → DV → Prop
  | non : Rep K C H .non .non
  | bl (b : Bool) : Rep K C H (.bl b) (.bl b)
  | int (i : Int) : Rep K C H (.int i) (.int i)
  | str (x : Str) : Rep K C H (.str x) (.str x)
  | tup {a : Addr} {vs : List V} {ds : List DV} (h : SqT K H a vs) (r : Reps K C H vs ds) : Rep K C H (.ref a) (.tup ds)
  | lst {a : Addr} {vs : List V} {ds : List DV} (h : H a = some (.lst vs)) (r : Reps K C H vs ds) : Rep K C H (.ref a) (.lst ds)
  | yr {a dx p q : Addr} {rs : List Int} (h : SlX.Slt H a C dx [some (.ref p), some (.ref q)]) (hp : SqT K H p (rs.map V.int)) (hq : SqT K H q ((Bu.swingsOf rs).map V.int)) (ne : rs ≠ [] ∧ (∀ r ∈ rs, r ≠ 0) ∧ rs.length ≤ 100) : Rep K C H (.ref a) (.yr rs)
  | hf {a dx p : Addr} {rs : List Int} (h : SlX.Slt H a C dx [some (.ref p)]) (hp : SqT K H p (rs.map V.int)) : Rep K C H (.ref a) (.hf a dx rs)
  | adr (a : Addr) : Rep K C H (.ref a) (.adr a)
  | wd {d : Addr} {kvs : List BKey} (h : H d = some (BDO d kvs)) (k : BK H kvs) (e : kvs.map (fun k => (k.1, k.2.2)) = wordL) : Rep K C H (.ref d) .wd
  | wt {D e dx r : Addr} {fv : V} {vs : List V} {f : DV} {rows : List DV} (h : H e = some (.ins D dx [("own_first", fv), ("own_rows", .ref r)])) (rf : Rep K C H fv f) (hr : H r = some (.lst vs)) (rr : Reps K C H vs rows) : Rep K C H (.ref e) (.wt D f rows)
  | lf {a : Addr} {vs : List V} {ds : List DV} (h : SqL K H a vs) (r : Reps K C H vs ds) : Rep K C H (.ref a) (.lf ds)
inductive Reps (K : Frag) (C : Addr) (H : Hp) : List V → List DV → Prop
  | nil : Reps K C H [] []
  | cons {v : V} {vs : List V} {d : DV} {ds : List DV} (h : Rep K C H v d) (r : Reps K C H vs ds) : Reps K C H (v :: vs) (d :: ds)
end
section
variable {K : Frag} {C : Addr} {H H' : Hp}
theorem slt_mono {a dx : Addr} {vs : List (Option V)} (e : Ex H H') (h : SlX.Slt H a C dx vs) : SlX.Slt H' a C dx vs := by
  rcases h with ⟨h1, h2⟩ | ⟨h1, h2⟩
  · exact .inl ⟨e _ _ h1, h2⟩
  · exact .inr ⟨e _ _ h1, e _ _ h2⟩
mutual
theorem Rep.mono (e : Ex H H') : ∀ {v : V} {d : DV}, Rep K C H v d → Rep K C H' v d
  | _, _, .non => .non
  | _, _, .bl b => .bl b
  | _, _, .int i => .int i
  | _, _, .str x => .str x
  | _, _, .tup h r => .tup (Evl.ex_t e h) (Reps.mono e r)
  | _, _, .lst h r => .lst (e _ _ h) (Reps.mono e r)
  | _, _, .yr h hp hq ne => .yr (slt_mono e h) (Evl.ex_t e hp) (Evl.ex_t e hq) ne
  | _, _, .hf h hp => .hf (slt_mono e h) (Evl.ex_t e hp)
  | _, _, .adr a => .adr a
  | _, _, .wd h k w => .wd (e _ _ h) (fun x hx => e _ _ (k x hx)) w
  | _, _, .wt h rf hr rr => .wt (e _ _ h) (Rep.mono e rf) (e _ _ hr) (Reps.mono e rr)
  | _, _, .lf h r => .lf (Evl.ex_l e h) (Reps.mono e r)
theorem Reps.mono (e : Ex H H') : ∀ {vs : List V} {ds : List DV}, Reps K C H vs ds → Reps K C H' vs ds
  | _, _, .nil => .nil
  | _, _, .cons h r => .cons (Rep.mono e h) (Reps.mono e r)
end
theorem Reps.len : ∀ {vs : List V} {ds : List DV}, Reps K C H vs ds → vs.length = ds.length
  | _, _, .nil => rfl
  | _, _, .cons _ r => congrArg Nat.succ r.len
theorem Reps.get : ∀ {vs : List V} {ds : List DV} {i : Nat} {d : DV}, Reps K C H vs ds → ds[i]? = some d → ∃ v, vs[i]? = some v ∧ Rep K C H v d
  | _, _, _, _, .nil, e => by simp at e
  | _, _, 0, _, .cons h _, e => by simp at e; subst e; exact ⟨_, rfl, h⟩
  | _, _, i + 1, _, .cons _ r, e => by
    obtain ⟨v, h1, h2⟩ := r.get (i := i) (by simpa using e)
    exact ⟨v, by simpa using h1, h2⟩
theorem Reps.got : ∀ {vs : List V} {ds : List DV} {i : Nat} {v : V}, Reps K C H vs ds → vs[i]? = some v → ∃ d, ds[i]? = some d ∧ Rep K C H v d
  | _, _, _, _, .nil, e => by simp at e
  | _, _, 0, _, .cons h _, e => by simp at e; subst e; exact ⟨_, rfl, h⟩
  | _, _, i + 1, _, .cons _ r, e => by
    obtain ⟨v, h1, h2⟩ := r.got (i := i) (by simpa using e)
    exact ⟨v, by simpa using h1, h2⟩
theorem Reps.app : ∀ {vs ws : List V} {ds es : List DV}, Reps K C H vs ds → Reps K C H ws es → Reps K C H (vs ++ ws) (ds ++ es)
  | _, _, _, _, .nil, s => s
  | _, _, _, _, .cons h r, s => .cons h (r.app s)
theorem Reps.take : ∀ {vs : List V} {ds : List DV} (n : Nat), Reps K C H vs ds → Reps K C H (vs.take n) (ds.take n)
  | _, _, 0, _ => .nil
  | _, _, _ + 1, .nil => .nil
  | _, _, n + 1, .cons h r => .cons h (r.take n)
theorem Reps.drop : ∀ {vs : List V} {ds : List DV} (n : Nat), Reps K C H vs ds → Reps K C H (vs.drop n) (ds.drop n)
  | _, _, 0, r => r
  | _, _, _ + 1, .nil => .nil
  | _, _, n + 1, .cons _ r => r.drop n
theorem Reps.rev {vs : List V} {ds : List DV} (r : Reps K C H vs ds) : Reps K C H vs.reverse ds.reverse := by
  induction vs generalizing ds with
  | nil => cases r; exact .nil
  | cons v vs ih =>
    cases r with
    | cons h r =>
      rw [List.reverse_cons, List.reverse_cons]
      exact (ih r).app (.cons h .nil)
theorem Reps.rep {vs : List V} {ds : List DV} (r : Reps K C H vs ds) : ∀ k : Nat, Reps K C H (List.replicate k vs).flatten (List.replicate k ds).flatten
  | 0 => .nil
  | k + 1 => by
    rw [List.replicate_succ, List.replicate_succ, List.flatten_cons, List.flatten_cons]
    exact r.app (r.rep k)
theorem Rep.int_eq {v : V} {i : Int} (r : Rep K C H v (.int i)) : v = .int i := by cases r; rfl
theorem Rep.bl_eq {v : V} {b : Bool} (r : Rep K C H v (.bl b)) : v = .bl b := by cases r; rfl
theorem Rep.non_eq {v : V} (r : Rep K C H v .non) : v = .non := by cases r; rfl
theorem Rep.str_eq {v : V} {x : Str} (r : Rep K C H v (.str x)) : v = .str x := by cases r; rfl
theorem Reps.ints_eq : ∀ {ns : List Int} {vs : List V}, Reps K C H vs (dis ns) → vs = ns.map V.int
  | [], _, .nil => rfl
  | n :: ns, _, .cons h r => by
    rw [h.int_eq, r.ints_eq]
    rfl
theorem Reps.bls_eq : ∀ {bs : List Bool} {vs : List V}, Reps K C H vs (bs.map DV.bl) → vs = bs.map V.bl
  | [], _, .nil => rfl
  | n :: ns, _, .cons h r => by
    rw [h.bl_eq, r.bls_eq]
    rfl
theorem Reps.of_ints (K : Frag) (C : Addr) (H : Hp) : ∀ ns : List Int, Reps K C H (ns.map V.int) (dis ns)
  | [] => .nil
  | n :: ns => .cons (.int n) (Reps.of_ints K C H ns)
/-- scalars -/
def isSc : V → Bool
  | .non => true
  | .bl _ => true
  | .int _ => true
  | .str _ => true
  | _ => false
def dv : V → DV
  | .bl b => .bl b
  | .int i => .int i
  | .str x => .str x
  | _ => .non
theorem rep_dv {v : V} (h : isSc v = true) : Rep K C H v (dv v) := by
  cases v with
  | non => exact .non
  | bl b => exact .bl b
  | int i => exact .int i
  | str x => exact .str x
  | byt _ => cases h
  | flt _ => cases h
  | ref _ => cases h
  | ty _ => cases h
end
/-! ### owned objects: told by O, kept out of the data -/
def msk (O : Addr → Bool) (H : Hp) : Hp := fun a => if O a = true then none else H a
def Good (O : Addr → Bool) (H : Hp) : Prop := ∀ a, O a = true → H a ≠ none
section
variable {K : Frag} {C : Addr} {O : Addr → Bool} {H H' : Hp} {v : V} {d : DV} {vs : List V} {ds : List DV}
theorem msk_sub : Ex (msk O H) H := fun a o h => by
  unfold msk at h
  by_cases k : O a = true
  · rw [if_pos k] at h; cases h
  · rw [if_neg k] at h; exact h
theorem msk_ex (e : Ex H H') : Ex (msk O H) (msk O H') := fun a o h => by
  unfold msk at h ⊢
  by_cases k : O a = true
  · rw [if_pos k] at h; cases h
  · rw [if_neg k] at h ⊢; exact e a o h
theorem msk_at {a : Addr} (h : O a = false) : msk O H a = H a := by
  unfold msk
  rw [if_neg (by rw [h]; decide)]
theorem Good.ex (g : Good O H) (e : Ex H H') : Good O H' := fun a h k => by
  cases q : H a with
  | none => exact g a h q
  | some o =>
    rw [e a o q] at k
    cases k
theorem Good.new (g : Good O H) {p : Addr} (h : H p = none) : O p = false := by
  cases q : O p with
  | false => rfl
  | true => exact absurd h (g p q)
theorem Rep.sub (r : Rep K C (msk O H) v d) : Rep K C H v d := r.mono msk_sub
theorem Reps.sub (r : Reps K C (msk O H) vs ds) : Reps K C H vs ds := r.mono msk_sub
theorem Rep.up (r : Rep K C (msk O H) v d) (e : Ex H H') : Rep K C (msk O H') v d := r.mono (msk_ex e)
theorem Reps.up (r : Reps K C (msk O H) vs ds) (e : Ex H H') : Reps K C (msk O H') vs ds := r.mono (msk_ex e)
theorem sqt_new (g : Good O H) {p : Addr} (h : H p = none) : SqT K (msk O (upd H p (.tup vs))) p vs := SqT.of (by rw [msk_at (g.new h)]; exact upd_same)
theorem lst_new (g : Good O H) {p : Addr} (h : H p = none) : msk O (upd H p (.lst vs)) p = some (.lst vs) := by rw [msk_at (g.new h)]; exact upd_same
theorem sql_of {a : Addr} (h : msk O H a = some (.lst vs)) : SqL K H a vs := SqL.of (msk_sub _ _ h)
theorem rep_newT (g : Good O H) {p : Addr} (h : H p = none) (r : Reps K C (msk O H) vs ds) : Rep K C (msk O (upd H p (.tup vs))) (.ref p) (.tup ds) := .tup (sqt_new g h) (r.up (Evl.Ex.new h))
theorem rep_newL (g : Good O H) {p : Addr} (h : H p = none) (r : Reps K C (msk O H) vs ds) : Rep K C (msk O (upd H p (.lst vs))) (.ref p) (.lst ds) :=   .lst (lst_new g h) (r.up (Evl.Ex.new h))
end
/-! ### environments -/
abbrev Den := List (Option DV)
structure EnvD (K : Frag) (C : Addr) (O : Addr → Bool) (H : Hp) (σ : L2.St) (δ : Den) : Prop where
  len : σ.length = δ.length
  at_ : ∀ (i : Nat) (d : DV), δ[i]? = some (some d) → ∃ v : V, σ[i]? = some (some v) ∧ Rep K C (msk O H) v d
section
variable {K : Frag} {C : Addr} {O : Addr → Bool} {H H' : Hp} {σ : L2.St} {δ : Den}
theorem EnvD.up (e : EnvD K C O H σ δ) (x : Ex H H') : EnvD K C O H' σ δ := ⟨e.len, fun i d h => by
  obtain ⟨v, h1, h2⟩ := e.at_ i d h
  exact ⟨v, h1, h2.up x⟩⟩
theorem EnvD.set (e : EnvD K C O H σ δ) {i : Nat} {v : V} {d : DV} (r : Rep K C (msk O H) v d) : EnvD K C O H (σ.set i (some v)) (δ.set i (some d)) := by
  refine ⟨by rw [List.length_set, List.length_set, e.len], fun j x h => ?_⟩
  by_cases hj : i = j
  · subst hj
    have hl : i < δ.length := by
      have := (List.getElem?_eq_some_iff.mp h).1
      rw [List.length_set] at this
      exact this
    rw [List.getElem?_set_self hl] at h
    have ex : d = x := Option.some.inj (Option.some.inj h)
    subst ex
    exact ⟨v, List.getElem?_set_self (by rw [e.len]; exact hl), r⟩
  · rw [List.getElem?_set_ne hj] at h ⊢
    exact e.at_ j x h
/-- a slot forgotten -/
theorem EnvD.hide (e : EnvD K C O H σ δ) {i : Nat} {o : Option V} : EnvD K C O H (σ.set i o) (δ.set i none) := by
  refine ⟨by rw [List.length_set, List.length_set, e.len], fun j x h => ?_⟩
  by_cases hj : i = j
  · subst hj
    have hl : i < δ.length := by
      have := (List.getElem?_eq_some_iff.mp h).1
      rw [List.length_set] at this
      exact this
    rw [List.getElem?_set_self hl] at h
    cases h
  · rw [List.getElem?_set_ne hj] at h ⊢
    exact e.at_ j x h
def wipeD (δ : Den) : List Nat → Den
  | [] => δ
  | v :: vs => (wipeD δ vs).set v none
theorem EnvD.wipe (e : EnvD K C O H σ δ) : ∀ vs : List Nat, EnvD K C O H (L2.wipe σ vs) (wipeD δ vs)
  | [] => e
  | v :: vs => (e.wipe vs).hide
end
/-! ### what evaluates to what -/
section
variable (K : Frag) (C : Addr)
def EvD (t : TE) (δ : Den) (d : DV) : Prop := ∀ (O : Addr → Bool) (σ : L2.St) (H : Hp) (Q : VK), Good O H → EnvD K C O H σ δ → (∀ v H', Ex H H' → Rep K C (msk O H') v d → Q v H') → t σ H Q
def EvA (t : TA) (δ : Den) (ds : List DV) : Prop := ∀ (O : Addr → Bool) (σ : L2.St) (H : Hp) (Q : List V → Hp → Prop), Good O H → EnvD K C O H σ δ → (∀ vs H', Ex H H' → Reps K C (msk O H') vs ds → Q vs H') → t σ H Q
def EvT (t : TT) (δ : Den) (b : Bool) : Prop := ∀ (O : Addr → Bool) (σ : L2.St) (H : Hp) (Q : Bool → Hp → Prop), Good O H → EnvD K C O H σ δ → (∀ H', Ex H H' → Q b H') → t σ H Q
def EvO (t : L2.TO) (δ : Den) (o : Option Int) : Prop := ∀ (O : Addr → Bool) (σ : L2.St) (H : Hp) (Q : Option Int → Hp → Prop), Good O H → EnvD K C O H σ δ → (∀ H', Ex H H' → Q o H') → t σ H Q
def R2D (r : R2) (d1 d2 d : DV) : Prop := ∀ (O : Addr → Bool) (H : Hp) (x y : V) (Q : VK), Good O H → Rep K C (msk O H) x d1 → Rep K C (msk O H) y d2 → (∀ v H', Ex H H' → Rep K C (msk O H') v d → Q v H') → r x y H Q
def R1D (r : V → Hp → VK → Prop) (d1 d : DV) : Prop := ∀ (O : Addr → Bool) (H : Hp) (x : V) (Q : VK), Good O H → Rep K C (msk O H) x d1 → (∀ v H', Ex H H' → Rep K C (msk O H') v d → Q v H') → r x H Q
def RCD (r : List V → Hp → VK → Prop) (ds : List DV) (d : DV) : Prop := ∀ (O : Addr → Bool) (H : Hp) (vs : List V) (Q : VK), Good O H → Reps K C (msk O H) vs ds → (∀ v H', Ex H H' → Rep K C (msk O H') v d → Q v H') → r vs H Q
def RMD (r : V → List V → Hp → VK → Prop) (d0 : DV) (ds : List DV) (d : DV) : Prop := ∀ (O : Addr → Bool) (H : Hp) (x : V) (vs : List V) (Q : VK), Good O H → Rep K C (msk O H) x d0 → Reps K C (msk O H) vs ds → (∀ v H', Ex H H' → Rep K C (msk O H') v d → Q v H') → r x vs H Q
end
section
variable {K : Frag} {C : Addr} {δ : Den} {d d1 d2 d3 : DV} {ta tb tc te : TE} {tt tu : TT} {ds es : List DV} {r : R2}
theorem EvD.is (h : EvD K C te δ d) (e : d = d1) : EvD K C te δ d1 := e ▸ h
theorem EvT.is {a b : Bool} (h : EvT K C tt δ a) (e : a = b) : EvT K C tt δ b := e ▸ h
theorem ev_var {i : Nat} (h : δ[i]? = some (some d)) : EvD K C (tVar i) δ d := fun O σ H Q _ e q => by
  obtain ⟨v, h1, h2⟩ := e.at_ i d h
  exact ⟨v, h1, q v H (Evl.Ex.refl H) h2⟩
theorem ev_c {v : V} (h : isSc v = true) : EvD K C (tC v) δ (dv v) := fun O σ H Q _ _ q => q v H (Evl.Ex.refl H) (rep_dv h)
theorem ev_int {i : Int} : EvD K C (tC (.int i)) δ (.int i) := ev_c (v := .int i) rfl
theorem ev_bl {b : Bool} : EvD K C (tC (.bl b)) δ (.bl b) := ev_c (v := .bl b) rfl
theorem ev_non : EvD K C (tC .non) δ .non := ev_c (v := .non) rfl
theorem ev_str {x : Str} : EvD K C (tC (.str x)) δ (.str x) := ev_c (v := .str x) rfl
theorem ev_op (ha : EvD K C ta δ d1) (hb : EvD K C tb δ d2) (hr : R2D K C r d1 d2 d) : EvD K C (tOp r ta tb) δ d := fun O σ H Q g e q =>
  ha O σ H _ g e fun x H1 e1 r1 => hb O σ H1 _ (g.ex e1) (e.up e1) fun y H2 e2 r2 => hr O H2 x y Q ((g.ex e1).ex e2) (r1.up e2) r2 fun v H3 e3 r3 => q v H3 ((e1.trans e2).trans e3) r3
theorem ev_un {u : V → Hp → VK → Prop} (ha : EvD K C ta δ d1) (hr : R1D K C u d1 d) : EvD K C (tUn u ta) δ d := fun O σ H Q g e q =>
  ha O σ H _ g e fun x H1 e1 r1 => hr O H1 x Q (g.ex e1) r1 fun v H3 e3 r3 => q v H3 (e1.trans e3) r3
theorem r2_I0 {g : Int → Int → V} {i j : Int} (h : isSc (g i j) = true) : R2D K C (rI0 g) (.int i) (.int j) (dv (g i j)) := fun O H x y Q _ r1 r2 q => ⟨i, j, r1.int_eq, r2.int_eq, q _ H (Evl.Ex.refl H) (rep_dv h)⟩
theorem r2_I {c : Int → Int → Prop} {g : Int → Int → V} {i j : Int} (hc : c i j) (h : isSc (g i j) = true) : R2D K C (rI c g) (.int i) (.int j) (dv (g i j)) := fun O H x y Q _ r1 r2 q => ⟨i, j, r1.int_eq, r2.int_eq, hc, q _ H (Evl.Ex.refl H) (rep_dv h)⟩
/-- two dis, an int of them: + and - -/
theorem ev_I0 {g : Int → Int → V} {i j : Int} (ha : EvD K C ta δ (.int i)) (hb : EvD K C tb δ (.int j)) (h : isSc (g i j) = true := by rfl) : EvD K C (tOp (rI0 g) ta tb) δ (dv (g i j)) := ev_op ha hb (r2_I0 h)
theorem ev_I {c : Int → Int → Prop} {g : Int → Int → V} {i j : Int} (ha : EvD K C ta δ (.int i)) (hb : EvD K C tb δ (.int j)) (hc : c i j) (h : isSc (g i j) = true := by rfl) : EvD K C (tOp (rI c g) ta tb) δ (dv (g i j)) := ev_op ha hb (r2_I hc h)
theorem ev_neg {i : Int} (ha : EvD K C ta δ (.int i)) : EvD K C (tUn (rU fun i => .int (-i)) ta) δ (.int (-i)) := ev_un ha fun O H x Q _ r1 q => ⟨i, r1.int_eq, q _ H (Evl.Ex.refl H) (.int _)⟩
theorem ev_eqI {i j : Int} (ha : EvD K C ta δ (.int i)) (hb : EvD K C tb δ (.int j)) : EvD K C (tOp rEq ta tb) δ (.bl (decide (i = j))) := ev_op ha hb fun O H x y Q _ r1 r2 q => by
  rw [r1.int_eq, r2.int_eq]
  refine ⟨rfl, ?_⟩
  rw [dec_int, Bool.beq_eq_decide_eq]
  exact q _ H (Evl.Ex.refl H) (.bl _)
theorem ev_neI {i j : Int} (ha : EvD K C ta δ (.int i)) (hb : EvD K C tb δ (.int j)) : EvD K C (tOp rNe ta tb) δ (.bl (!decide (i = j))) := ev_op ha hb fun O H x y Q _ r1 r2 q => by
  rw [r1.int_eq, r2.int_eq]
  refine ⟨rfl, ?_⟩
  rw [dec_int, Bool.beq_eq_decide_eq]
  exact q _ H (Evl.Ex.refl H) (.bl _)
theorem ev_eqB {i j : Bool} (ha : EvD K C ta δ (.bl i)) (hb : EvD K C tb δ (.bl j)) : EvD K C (tOp rEq ta tb) δ (.bl (i == j)) := ev_op ha hb fun O H x y Q _ r1 r2 q => by
  rw [r1.bl_eq, r2.bl_eq]
  refine ⟨rfl, ?_⟩
  rw [dec_bl]
  exact q _ H (Evl.Ex.refl H) (.bl _)
theorem ev_neB {i j : Bool} (ha : EvD K C ta δ (.bl i)) (hb : EvD K C tb δ (.bl j)) : EvD K C (tOp rNe ta tb) δ (.bl (i != j)) := ev_op ha hb fun O H x y Q _ r1 r2 q => by
  rw [r1.bl_eq, r2.bl_eq]
  refine ⟨rfl, ?_⟩
  rw [dec_bl]
  exact q _ H (Evl.Ex.refl H) (.bl _)
theorem ev_eqS {i j : Str} (ha : EvD K C ta δ (.str i)) (hb : EvD K C tb δ (.str j)) : EvD K C (tOp rEq ta tb) δ (.bl (i == j)) := ev_op ha hb fun O H x y Q _ r1 r2 q => by
  rw [r1.str_eq, r2.str_eq]
  refine ⟨rfl, ?_⟩
  rw [dec_str]
  exact q _ H (Evl.Ex.refl H) (.bl _)
/-- is None, is not None -/
def isNon : DV → Bool
  | .non => true
  | _ => false
theorem Rep.non_iff {H : Hp} {v : V} (r : Rep K C H v d) : decide (v = .non) = isNon d := by cases r <;> rfl
theorem ev_isN (ha : EvD K C ta δ d) : EvD K C (tIsN ta) δ (.bl (isNon d)) := fun O σ H Q g e q => ha O σ H _ g e fun x H1 e1 r1 => by
  show Q (.bl (decide (x = .non))) H1
  rw [r1.non_iff]
  exact q _ H1 e1 (.bl _)
theorem ev_notN (ha : EvD K C ta δ d) : EvD K C (tNotN ta) δ (.bl (!isNon d)) := fun O σ H Q g e q => ha O σ H _ g e fun x H1 e1 r1 => by
  show Q (.bl (!decide (x = .non))) H1
  rw [r1.non_iff]
  exact q _ H1 e1 (.bl _)
/-! tests -/
theorem et_test {b : Bool} (h : EvD K C te δ (.bl b)) : EvT K C (tTest te) δ b := fun O σ H Q g e q => h O σ H _ g e fun v H1 e1 r1 => ⟨b, r1.bl_eq, q H1 e1⟩
theorem et_B {b : Bool} (h : EvD K C te δ (.bl b)) : EvT K C (tB te) δ b := fun O σ H Q g e q => h O σ H _ g e fun v H1 e1 r1 => ⟨b, r1.bl_eq, q H1 e1⟩
theorem et_yes : EvT K C tYes δ true := fun O σ H Q g e q => q H (Evl.Ex.refl H)
theorem et_and {a b : Bool} (h1 : EvT K C tt δ a) (h2 : a = true → EvT K C tu δ b) : EvT K C (tAnd tt tu) δ (a && b) := fun O σ H Q g e q => h1 O σ H _ g e fun H1 e1 => by
  cases a with
  | true =>
    show tu σ H1 Q
    exact h2 rfl O σ H1 Q (g.ex e1) (e.up e1) fun H2 e2 => q H2 (e1.trans e2)
  | false =>
    show Q false H1
    exact q H1 e1
theorem et_or {a b : Bool} (h1 : EvT K C tt δ a) (h2 : a = false → EvT K C tu δ b) : EvT K C (tOr tt tu) δ (a || b) := fun O σ H Q g e q => h1 O σ H _ g e fun H1 e1 => by
  cases a with
  | true =>
    show Q true H1
    exact q H1 e1
  | false =>
    show tu σ H1 Q
    exact h2 rfl O σ H1 Q (g.ex e1) (e.up e1) fun H2 e2 => q H2 (e1.trans e2)
theorem et_not {a : Bool} (h1 : EvT K C tt δ a) : EvT K C (tNot tt) δ (!a) := fun O σ H Q g e q => h1 O σ H _ g e fun H1 e1 => q H1 e1
theorem ev_andV {a b : Bool} (h1 : EvD K C ta δ (.bl a)) (h2 : a = true → EvD K C tb δ (.bl b)) : EvD K C (tAndV ta tb) δ (.bl (a && b)) := fun O σ H Q g e q => h1 O σ H _ g e fun v H1 e1 r1 => ⟨a, r1.bl_eq, by
  cases a with
  | true =>
    show tb σ H1 Q
    exact h2 rfl O σ H1 Q (g.ex e1) (e.up e1) fun w H2 e2 r2 => q w H2 (e1.trans e2) r2
  | false =>
    show Q (.bl false) H1
    exact q _ H1 e1 (.bl _)⟩
theorem ev_orV {a b : Bool} (h1 : EvD K C ta δ (.bl a)) (h2 : a = false → EvD K C tb δ (.bl b)) : EvD K C (tOrV ta tb) δ (.bl (a || b)) := fun O σ H Q g e q => h1 O σ H _ g e fun v H1 e1 r1 => ⟨a, r1.bl_eq, by
  cases a with
  | true =>
    show Q (.bl true) H1
    exact q _ H1 e1 (.bl _)
  | false =>
    show tb σ H1 Q
    exact h2 rfl O σ H1 Q (g.ex e1) (e.up e1) fun w H2 e2 r2 => q w H2 (e1.trans e2) r2⟩
theorem ev_notV {a : Bool} (h1 : EvD K C ta δ (.bl a)) : EvD K C (tNotV ta) δ (.bl (!a)) := fun O σ H Q g e q => h1 O σ H _ g e fun v H1 e1 r1 => ⟨a, r1.bl_eq, q _ H1 e1 (.bl _)⟩
theorem ev_if {b : Bool} (h : EvT K C tt δ b) (h1 : b = true → EvD K C ta δ d) (h2 : b = false → EvD K C tb δ d) : EvD K C (tIf tt ta tb) δ d := fun O σ H Q g e q => h O σ H _ g e fun H1 e1 => by
  cases b with
  | true =>
    show ta σ H1 Q
    exact h1 rfl O σ H1 Q (g.ex e1) (e.up e1) fun w H2 e2 r2 => q w H2 (e1.trans e2) r2
  | false =>
    show tb σ H1 Q
    exact h2 rfl O σ H1 Q (g.ex e1) (e.up e1) fun w H2 e2 r2 => q w H2 (e1.trans e2) r2
/-- a < b < c, on dis -/
theorem et_chain {g g' : Int → Int → V} {i j k : Int} {a b : Bool} (ha : EvD K C ta δ (.int i)) (hb : EvD K C tb δ (.int j)) (hc : EvD K C tc δ (.int k)) (e1 : g i j = .bl a) (e2 : g' j k = .bl b) : EvT K C (tTest (tChain (rI0 g) (rI0 g') ta tb tc)) δ (a && b) := fun O σ H Q gd e q =>
  ha O σ H _ gd e fun x H1 f1 r1 => hb O σ H1 _ (gd.ex f1) (e.up f1) fun y H2 f2 r2 => by
    refine ⟨i, j, r1.int_eq, r2.int_eq, a, e1, ?_⟩
    cases a with
    | true =>
      refine iteT (hc O σ H2 _ ((gd.ex f1).ex f2) ((e.up f1).up f2) fun z H3 f3 r3 => ⟨j, k, r2.int_eq, r3.int_eq, ?_⟩)
      rw [e2]
      exact ⟨b, rfl, q H3 ((f1.trans f2).trans f3)⟩
    | false => exact iteF ⟨false, rfl, q H2 (f1.trans f2)⟩
/-! displays -/
theorem ea_nil : EvA K C tNil δ [] := fun O σ H Q g e q => q [] H (Evl.Ex.refl H) .nil
theorem ea_cons {tr : TA} (h : EvD K C ta δ d) (hr : EvA K C tr δ ds) : EvA K C (tCons ta tr) δ (d :: ds) := fun O σ H Q g e q =>
  h O σ H _ g e fun x H1 e1 r1 => hr O σ H1 _ (g.ex e1) (e.up e1) fun vs H2 e2 r2 => q (x :: vs) H2 (e1.trans e2) (.cons (r1.up e2) r2)
theorem ea_starL {tr : TA} (h : EvD K C ta δ (.lst es)) (hr : EvA K C tr δ ds) : EvA K C (StX.tStar K ta tr) δ (es ++ ds) := fun O σ H Q g e q =>
  h O σ H _ g e fun x H1 e1 r1 => by
    cases r1 with
    | lst hq hr1 => exact ⟨_, _, rfl, .inr (sql_of hq), hr O σ H1 _ (g.ex e1) (e.up e1) fun vs H2 e2 r2 => q _ H2 (e1.trans e2) ((hr1.up e2).app r2)⟩
theorem ea_starT {tr : TA} (h : EvD K C ta δ (.tup es)) (hr : EvA K C tr δ ds) : EvA K C (StX.tStar K ta tr) δ (es ++ ds) := fun O σ H Q g e q =>
  h O σ H _ g e fun x H1 e1 r1 => by
    cases r1 with
    | tup hq hr1 => exact ⟨_, _, rfl, .inl (Evl.ex_t msk_sub hq), hr O σ H1 _ (g.ex e1) (e.up e1) fun vs H2 e2 r2 => q _ H2 (e1.trans e2) ((hr1.up e2).app r2)⟩
theorem sz_ok {n : Nat} (h : n ≤ 1000) : n ≤ sizeLine := Nat.le_trans h (by decide)
theorem ev_tup {tr : TA} (h : EvA K C tr δ ds) (hl : ds.length ≤ 1000) : EvD K C (tTup tr) δ (.tup ds) := fun O σ H Q g e q =>
  h O σ H _ g e fun vs H1 e1 r1 => ⟨sz_ok (by rw [r1.len]; exact hl), fun p hp => q _ _ (e1.trans (Evl.Ex.new hp)) (rep_newT (g.ex e1) hp r1)⟩
theorem ev_lst {tr : TA} (h : EvA K C tr δ ds) (hl : ds.length ≤ 1000) : EvD K C (tLst tr) δ (.lst ds) := fun O σ H Q g e q =>
  h O σ H _ g e fun vs H1 e1 r1 => ⟨sz_ok (by rw [r1.len]; exact hl), fun p hp => q _ _ (e1.trans (Evl.Ex.new hp)) (rep_newL (g.ex e1) hp r1)⟩
/-! items, slices -/
theorem reps_at {H : Hp} {vs : List V} {i : Int} (r : Reps K C H vs ds) (h : atI ds i = some d) : ∃ v, atI vs i = some v ∧ Rep K C H v d := by
  unfold atI at h ⊢
  rw [r.len]
  cases e : ixN ds.length i with
  | none => rw [e] at h; cases h
  | some j =>
    rw [e] at h
    exact r.get h
theorem ev_ixT {i : Int} (ha : EvD K C ta δ (.tup ds)) (hb : EvD K C tb δ (.int i)) (h : atI ds i = some d) : EvD K C (tOp (rIxT K) ta tb) δ d := ev_op ha hb fun O H x y Q g r1 r2 q => by
  cases r1 with
  | tup hq hr =>
    obtain ⟨v, e, rv⟩ := reps_at hr h
    exact ⟨_, _, i, v, rfl, r2.int_eq, Evl.ex_t msk_sub hq, e, q v H (Evl.Ex.refl H) rv⟩
theorem ev_ixL {i : Int} (ha : EvD K C ta δ (.lst ds)) (hb : EvD K C tb δ (.int i)) (h : atI ds i = some d) : EvD K C (tOp (rIxL K) ta tb) δ d := ev_op ha hb fun O H x y Q g r1 r2 q => by
  cases r1 with
  | lst hq hr =>
    obtain ⟨v, e, rv⟩ := reps_at hr h
    exact ⟨_, _, i, v, rfl, r2.int_eq, sql_of hq, e, q v H (Evl.Ex.refl H) rv⟩
/-- list or tuple -/
def IsSeq (d : DV) (ds : List DV) : Prop := d = .lst ds ∨ d = .tup ds
theorem ev_ix {i : Int} (ha : EvD K C ta δ d1) (hs : IsSeq d1 ds) (hb : EvD K C tb δ (.int i)) (h : atI ds i = some d) : EvD K C (tOp (rIx K) ta tb) δ d := by
  rcases hs with hs | hs
  · subst hs
    exact fun O σ H Q g e q => ev_op (r := rIx K) ha hb (fun O H x y Q g r1 r2 q => by
      cases r1 with
      | lst hq hr =>
        obtain ⟨v, e, rv⟩ := reps_at hr h
        exact .inl ⟨_, _, i, v, rfl, r2.int_eq, sql_of hq, e, q v H (Evl.Ex.refl H) rv⟩) O σ H Q g e q
  · subst hs
    exact fun O σ H Q g e q => ev_op (r := rIx K) ha hb (fun O H x y Q g r1 r2 q => by
      cases r1 with
      | tup hq hr =>
        obtain ⟨v, e, rv⟩ := reps_at hr h
        exact .inr (.inl ⟨_, _, i, v, rfl, r2.int_eq, Evl.ex_t msk_sub hq, e, q v H (Evl.Ex.refl H) rv⟩)) O σ H Q g e q
theorem eo_none : EvO K C tNoPart δ none := fun O σ H Q g e q => q H (Evl.Ex.refl H)
theorem eo_some {i : Int} (h : EvD K C te δ (.int i)) : EvO K C (tPart te) δ (some i) := fun O σ H Q g e q => h O σ H _ g e fun v H1 e1 r1 => ⟨i, r1.int_eq, q H1 e1⟩
def cutD {α : Type} (xs : List α) (lo hi : Option Int) : List α := (xs.drop (HT.sIx xs.length 0 lo)).take (HT.sIx xs.length xs.length hi - HT.sIx xs.length 0 lo)
theorem cutD_map {α β : Type} (f : α → β) (xs : List α) (lo hi : Option Int) : cutD (xs.map f) lo hi = (cutD xs lo hi).map f := by
  unfold cutD
  rw [List.length_map, ← List.map_drop, ← List.map_take]
theorem Reps.cut {H : Hp} {vs : List V} (r : Reps K C H vs ds) (lo hi : Option Int) : Reps K C H (cutV vs lo hi) (cutD ds lo hi) := by
  unfold cutV cutD
  rw [r.len]
  exact (r.drop _).take _
theorem ev_slL {tl th : L2.TO} {lo hi : Option Int} (ha : EvD K C ta δ (.lst ds)) (hl : EvO K C tl δ lo) (hh : EvO K C th δ hi) : EvD K C (L2.tSl (rSlL K) ta tl th) δ (.lst (cutD ds lo hi)) := fun O σ H Q g e q =>
  ha O σ H _ g e fun x H1 e1 r1 => hl O σ H1 _ (g.ex e1) (e.up e1) fun H2 e2 => hh O σ H2 _ ((g.ex e1).ex e2) ((e.up e1).up e2) fun H3 e3 => by
    have r3 := r1.up (e2.trans e3)
    cases r3 with
    | lst hq hr => exact ⟨_, _, rfl, sql_of hq, fun p hp => q _ _ (((e1.trans e2).trans e3).trans (Evl.Ex.new hp)) (rep_newL (((g.ex e1).ex e2).ex e3) hp (hr.cut lo hi))⟩
theorem ev_slT {tl th : L2.TO} {lo hi : Option Int} (ha : EvD K C ta δ (.tup ds)) (hl : EvO K C tl δ lo) (hh : EvO K C th δ hi) : EvD K C (L2.tSl (rSlA K) ta tl th) δ (.tup (cutD ds lo hi)) := fun O σ H Q g e q =>
  ha O σ H _ g e fun x H1 e1 r1 => hl O σ H1 _ (g.ex e1) (e.up e1) fun H2 e2 => hh O σ H2 _ ((g.ex e1).ex e2) ((e.up e1).up e2) fun H3 e3 => by
    have r3 := r1.up (e2.trans e3)
    cases r3 with
    | tup hq hr =>
      refine ⟨_, _, rfl, Evl.ex_t msk_sub hq, fun hw => ?_, fun _ p hp => q _ _ (((e1.trans e2).trans e3).trans (Evl.Ex.new hp)) (rep_newT (((g.ex e1).ex e2).ex e3) hp (hr.cut lo hi))⟩
      refine q _ _ ((e1.trans e2).trans e3) (.tup hq ?_)
      have z : cutD ds lo hi = ds := by
        unfold cutD
        rw [← hr.len, hw.1, hw.2, List.drop_zero, Nat.sub_zero, hr.len, List.take_length]
      rw [z]
      exact hr
theorem ev_revL (ha : EvD K C ta δ (.lst ds)) : EvD K C (tRevL K ta) δ (.lst ds.reverse) := fun O σ H Q g e q =>
  ha O σ H _ g e fun x H1 e1 r1 => by
    cases r1 with
    | lst hq hr => exact ⟨_, _, rfl, sql_of hq, fun p hp => q _ _ (e1.trans (Evl.Ex.new hp)) (rep_newL (g.ex e1) hp hr.rev)⟩
end
end Dt
set_option Elab.async false
set_option linter.all false
set_option maxRecDepth 100000
set_option maxHeartbeats 4000000
/-! Built-ins, walks, comprehensions, statements, defs: over data. -/
namespace Dt
open PySem PySem.Spec PyProof.Rows L2
open Evl (Ex)
section
variable {K : Frag} {C : Addr} {δ : Den} {d d1 d2 d3 : DV} {ta tb tc te : TE} {tt tu : TT} {ds es xs : List DV} {r : R2}
/-! ### calls of built-ins -/
theorem ev_cb {t : TA} {c : List V → Hp → VK → Prop} (h : EvA K C t δ ds) (hr : RCD K C c ds d) : EvD K C (tCB c t) δ d := fun O σ H Q g e q =>
  h O σ H _ g e fun vs H1 e1 r1 => hr O H1 vs Q (g.ex e1) r1 fun v H2 e2 r2 => q v H2 (e1.trans e2) r2
theorem ev_cb1 {c : List V → Hp → VK → Prop} (h : EvD K C ta δ d1) (hr : RCD K C c [d1] d) : EvD K C (tCB c (tCons ta tNil)) δ d := ev_cb (ea_cons h ea_nil) hr
theorem ev_cb2 {c : List V → Hp → VK → Prop} (h : EvD K C ta δ d1) (h2 : EvD K C tb δ d2) (hr : RCD K C c [d1, d2] d) : EvD K C (tCB c (tCons ta (tCons tb tNil))) δ d := ev_cb (ea_cons h (ea_cons h2 ea_nil)) hr
theorem reps1 {H : Hp} {vs : List V} (r : Reps K C H vs [d]) : ∃ v, vs = [v] ∧ Rep K C H v d := by
  cases r with
  | cons h r => cases r; exact ⟨_, rfl, h⟩
theorem reps2 {H : Hp} {vs : List V} (r : Reps K C H vs [d1, d2]) : ∃ v w, vs = [v, w] ∧ Rep K C H v d1 ∧ Rep K C H w d2 := by
  cases r with
  | cons h r =>
    obtain ⟨w, e, h2⟩ := reps1 r
    rw [e]
    exact ⟨_, _, rfl, h, h2⟩
abbrev rLen (K : Frag) : List V → Hp → VK → Prop := fun xs H Q => ∃ p ys, xs = [.ref p] ∧ (SqL K H p ys ∨ SqT K H p ys) ∧ Q (.int ys.length) H
theorem rc_len (hs : IsSeq d ds) : RCD K C (rLen K) [d] (.int (ds.length : Int)) := fun O H vs Q g r q => by
  obtain ⟨v, rfl, h⟩ := reps1 r
  rcases hs with hs | hs
  · subst hs
    cases h with
    | lst hq hr => exact ⟨_, _, rfl, .inl (sql_of hq), by rw [hr.len]; exact q _ H (Evl.Ex.refl H) (.int _)⟩
  · subst hs
    cases h with
    | tup hq hr => exact ⟨_, _, rfl, .inr (Evl.ex_t msk_sub hq), by rw [hr.len]; exact q _ H (Evl.Ex.refl H) (.int _)⟩
theorem intsL {H : Hp} {v : V} {ns : List Int} {O : Addr → Bool} (h : Rep K C (msk O H) v (.lst (dis ns))) : ∃ a, v = .ref a ∧ SqL K H a (ns.map V.int) := by
  cases h with
  | lst hq hr =>
    have e := hr.ints_eq
    subst e
    exact ⟨_, rfl, sql_of hq⟩
theorem intsT {H : Hp} {v : V} {ns : List Int} {O : Addr → Bool} (h : Rep K C (msk O H) v (.tup (dis ns))) : ∃ a, v = .ref a ∧ SqT K H a (ns.map V.int) := by
  cases h with
  | tup hq hr =>
    have e := hr.ints_eq
    subst e
    exact ⟨_, rfl, Evl.ex_t msk_sub hq⟩
theorem blsL {H : Hp} {v : V} {bs : List Bool} {O : Addr → Bool} (h : Rep K C (msk O H) v (.lst (bs.map DV.bl))) : ∃ a, v = .ref a ∧ SqL K H a (bs.map V.bl) := by
  cases h with
  | lst hq hr =>
    have e := hr.bls_eq
    subst e
    exact ⟨_, rfl, sql_of hq⟩
theorem rc_sum {ns : List Int} : RCD K C (rSum K) [.lst (dis ns)] (.int ns.sum) := fun O H vs Q g r q => by
  obtain ⟨v, rfl, h⟩ := reps1 r
  obtain ⟨a, rfl, hq⟩ := intsL h
  exact ⟨a, ns, rfl, hq, q _ H (Evl.Ex.refl H) (.int _)⟩
theorem rc_max {ns : List Int} (hn : ns ≠ []) : RCD K C (rMax K) [.lst (dis ns)] (.int (Bu.lmax ns)) := fun O H vs Q g r q => by
  obtain ⟨v, rfl, h⟩ := reps1 r
  obtain ⟨a, rfl, hq⟩ := intsL h
  refine ⟨a, ns, rfl, hq, List.length_pos_iff.mpr hn, fun m h1 h2 => ?_⟩
  rw [Bu.lmax_one h1 h2]
  exact q _ H (Evl.Ex.refl H) (.int _)
theorem rc_min {ns : List Int} (hn : ns ≠ []) : RCD K C (rMin K) [.lst (dis ns)] (.int (Bu.lmin ns)) := fun O H vs Q g r q => by
  obtain ⟨v, rfl, h⟩ := reps1 r
  obtain ⟨a, rfl, hq⟩ := intsL h
  refine ⟨a, ns, rfl, hq, List.length_pos_iff.mpr hn, fun m h1 h2 => ?_⟩
  rw [Bu.lmin_one h1 h2]
  exact q _ H (Evl.Ex.refl H) (.int _)
theorem rc_any {bs : List Bool} : RCD K C (rAny K) [.lst (bs.map DV.bl)] (.bl (bs.any id)) := fun O H vs Q g r q => by
  obtain ⟨v, rfl, h⟩ := reps1 r
  obtain ⟨a, rfl, hq⟩ := blsL h
  exact ⟨a, bs, rfl, hq, q _ H (Evl.Ex.refl H) (.bl _)⟩
theorem rc_all {bs : List Bool} : RCD K C (rAll K) [.lst (bs.map DV.bl)] (.bl (bs.all id)) := fun O H vs Q g r q => by
  obtain ⟨v, rfl, h⟩ := reps1 r
  obtain ⟨a, rfl, hq⟩ := blsL h
  exact ⟨a, bs, rfl, hq, q _ H (Evl.Ex.refl H) (.bl _)⟩
abbrev rAbs : List V → Hp → VK → Prop := fun xs H Q => ∃ i, xs = [.int i] ∧ Q (.int (if i < 0 then -i else i)) H
theorem rc_abs {i : Int} : RCD K C rAbs [.int i] (.int (Bu.ab i)) := fun O H vs Q g r q => by
  obtain ⟨v, rfl, h⟩ := reps1 r
  rw [h.int_eq]
  exact ⟨i, rfl, q _ H (Evl.Ex.refl H) (.int _)⟩
abbrev rMax2 : List V → Hp → VK → Prop := fun xs H Q => ∃ i j, xs = [.int i, .int j] ∧ Q (.int (if j > i then j else i)) H
theorem rc_max2 {i j : Int} : RCD K C rMax2 [.int i, .int j] (.int (max i j)) := fun O H vs Q g r q => by
  obtain ⟨v, w, rfl, h, h2⟩ := reps2 r
  rw [h.int_eq, h2.int_eq]
  refine ⟨i, j, rfl, ?_⟩
  rw [show (if j > i then j else i) = max i j by omega]
  exact q _ H (Evl.Ex.refl H) (.int _)
abbrev rMin2 : List V → Hp → VK → Prop := fun xs H Q => ∃ i j, xs = [.int i, .int j] ∧ Q (.int (if j < i then j else i)) H
theorem rc_min2 {i j : Int} : RCD K C rMin2 [.int i, .int j] (.int (min i j)) := fun O H vs Q g r q => by
  obtain ⟨v, w, rfl, h, h2⟩ := reps2 r
  rw [h.int_eq, h2.int_eq]
  refine ⟨i, j, rfl, ?_⟩
  rw [show (if j < i then j else i) = min i j by omega]
  exact q _ H (Evl.Ex.refl H) (.int _)
abbrev rInt1 : List V → Hp → VK → Prop := fun xs H Q => (∃ i, xs = [.int i] ∧ Q (.int i) H) ∨ ∃ k, xs = [.bl k] ∧ Q (.int (if k then 1 else 0)) H
theorem rc_int {i : Int} : RCD K C rInt1 [.int i] (.int i) := fun O H vs Q g r q => by
  obtain ⟨v, rfl, h⟩ := reps1 r
  rw [h.int_eq]
  exact .inl ⟨i, rfl, q _ H (Evl.Ex.refl H) (.int _)⟩
theorem rc_intB {b : Bool} : RCD K C rInt1 [.bl b] (.int (if b then 1 else 0)) := fun O H vs Q g r q => by
  obtain ⟨v, rfl, h⟩ := reps1 r
  rw [h.bl_eq]
  exact .inr ⟨b, rfl, q _ H (Evl.Ex.refl H) (.int _)⟩
abbrev rListOf (K : Frag) : List V → Hp → VK → Prop := fun xs H Q => ∃ p ys, xs = [.ref p] ∧ (SqL K H p ys ∨ SqT K H p ys) ∧ ∀ l, H l = none → Q (.ref l) (upd H l (.lst ys))
theorem rc_list (hs : IsSeq d ds) : RCD K C (rListOf K) [d] (.lst ds) := fun O H vs Q g r q => by
  obtain ⟨v, rfl, h⟩ := reps1 r
  rcases hs with hs | hs
  · subst hs
    cases h with
    | lst hq hr => exact ⟨_, _, rfl, .inl (sql_of hq), fun l hl => q _ _ (Evl.Ex.new hl) (rep_newL g hl hr)⟩
  · subst hs
    cases h with
    | tup hq hr => exact ⟨_, _, rfl, .inr (Evl.ex_t msk_sub hq), fun l hl => q _ _ (Evl.Ex.new hl) (rep_newL g hl hr)⟩
abbrev rTupleOf (K : Frag) : List V → Hp → VK → Prop := fun xs H Q => ∃ p ys, xs = [.ref p] ∧ ((SqL K H p ys ∧ ∀ l, H l = none → Q (.ref l) (upd H l (.tup ys))) ∨ (SqT K H p ys ∧ Q (.ref p) H))
theorem rc_tuple (hs : IsSeq d ds) : RCD K C (rTupleOf K) [d] (.tup ds) := fun O H vs Q g r q => by
  obtain ⟨v, rfl, h⟩ := reps1 r
  rcases hs with hs | hs
  · subst hs
    cases h with
    | lst hq hr => exact ⟨_, _, rfl, .inl ⟨sql_of hq, fun l hl => q _ _ (Evl.Ex.new hl) (rep_newT g hl hr)⟩⟩
  · subst hs
    cases h with
    | tup hq hr => exact ⟨_, _, rfl, .inr ⟨Evl.ex_t msk_sub hq, q _ _ (Evl.Ex.refl H) (.tup hq hr)⟩⟩
theorem rc_sorted {ns : List Int} : RCD K C (rSortedI K) [.lst (dis ns)] (.lst (dis (Bu.isort ns))) := fun O H vs Q g r q => by
  obtain ⟨v, rfl, h⟩ := reps1 r
  obtain ⟨a, rfl, hq⟩ := intsL h
  refine ⟨a, ns, rfl, hq, fun ns' p h1 h2 hp => ?_⟩
  rw [Bu.isort_one h1 h2]
  exact q _ _ (Evl.Ex.new hp) (rep_newL g hp (.of_ints K C _ _))
/-! methods of lists -/
theorem ev_bm {T : String} {c : V → List V → Hp → VK → Prop} {t : TA} (h : EvD K C ta δ d1) (hT : ∀ O H v, Good O H → Rep K C (msk O H) v d1 → tyV K T v H) (ha : EvA K C t δ ds) (hr : RMD K C c d1 ds d) : EvD K C (tBM K T c ta t) δ d := fun O σ H Q g e q =>
  h O σ H _ g e fun v H1 e1 r1 => ⟨hT O H1 v (g.ex e1) r1, ha O σ H1 _ (g.ex e1) (e.up e1) fun vs H2 e2 r2 => hr O H2 v vs Q ((g.ex e1).ex e2) (r1.up e2) r2 fun w H3 e3 r3 => q w H3 ((e1.trans e2).trans e3) r3⟩
theorem ty_list {O : Addr → Bool} {H : Hp} {v : V} (r : Rep K C (msk O H) v (.lst ds)) : tyV K "list" v H := by
  cases r with
  | lst hq hr => exact .inl ⟨rfl, _, sql_of hq⟩
theorem flat_ints (ns : List Int) : (ns.map V.int).all flatV = true := by
  rw [List.all_map]
  exact List.all_eq_true.mpr fun _ _ => rfl
theorem eqV_int (i j : Int) : eqV (.int i) (.int j) = (i == j) := rfl
theorem ahead_idx {m y : Int} : ∀ {ns : List Int} {k : Nat}, k < ns.idxOf m → ns[k]? = some y → y ≠ m
  | [], _, h, _ => by simp at h
  | x :: r, k, h, e => by
    rw [List.idxOf_cons] at h
    by_cases hx : x = m
    · rw [beq_iff_eq.mpr hx] at h
      simp at h
    · rw [beq_eq_false_iff_ne.mpr hx] at h
      simp only [cond_false] at h
      match k with
      | 0 =>
        simp at e
        rw [← e]
        exact hx
      | k + 1 =>
        refine ahead_idx (ns := r) (k := k) (by omega) (by simpa using e)
theorem rm_index {ns : List Int} {m : Int} (hm : m ∈ ns) : RMD K C (rIndex K) (.lst (dis ns)) [.int m] (.int ((ns.idxOf m : Nat) : Int)) := fun O H x vs Q g r r2 q => by
  obtain ⟨v, rfl, h⟩ := reps1 r2
  obtain ⟨a, rfl, hq⟩ := intsL r
  rw [h.int_eq]
  have hl := List.idxOf_lt_length_iff.mpr hm
  refine ⟨a, ns.map V.int, .int m, ns.idxOf m, .int m, rfl, rfl, hq, rfl, flat_ints ns, ?_, ?_, fun k z hk hz => ?_, q _ H (Evl.Ex.refl H) (.int _)⟩
  · rw [List.getElem?_map, List.getElem?_eq_getElem hl, List.getElem_idxOf hl]
    rfl
  · rw [eqV_int]; exact beq_self_eq_true m
  · rw [List.getElem?_map] at hz
    cases e : ns[k]? with
    | none => rw [e] at hz; cases hz
    | some y =>
      rw [e] at hz
      have ez : V.int y = z := Option.some.inj hz
      rw [← ez, eqV_int]
      exact beq_eq_false_iff_ne.mpr (ahead_idx hk e)
theorem ev_index {ns : List Int} {m : Int} (h : EvD K C ta δ (.lst (dis ns))) (h2 : EvD K C tb δ (.int m)) (hm : m ∈ ns) : EvD K C (tBM K "list" (rIndex K) ta (tCons tb tNil)) δ (.int ((ns.idxOf m : Nat) : Int)) :=
  ev_bm h (fun _ _ _ _ r => ty_list r) (ea_cons h2 ea_nil) (rm_index hm)
/-! ### isinstance -/
def tyD : DV → String
  | .non => "NoneType"
  | .bl _ => "bool"
  | .int _ => "int"
  | .str _ => "str"
  | .tup _ => "tuple"
  | .lst _ => "list"
  | .yr _ => "object"
  | .hf _ _ _ => "object"
  | .adr _ => "object"
  | .wd => "object"
  | .wt _ _ _ => "object"
  | .lf _ => "object"
def plainD : DV → Bool
  | .yr _ => false
  | .hf _ _ _ => false
  | .adr _ => false
  | .wd => false
  | .wt _ _ _ => false
  | .lf _ => false
  | _ => true
theorem tyx_of {O : Addr → Bool} {H : Hp} {v : V} (r : Rep K C (msk O H) v d) (h : plainD d = true) : TyX K H v (.type (tyD d)) := by
  cases r with
  | non => exact .base .non
  | bl b => exact .base (.bl b)
  | int i => exact .base (.int i)
  | str x => exact .base (.str x)
  | tup hq hr =>
    rcases Evl.ex_t msk_sub hq with (h | ⟨o, h⟩) | ⟨o, its, n, h1, h2, _⟩
    · exact .base (.tup h)
    · exact .fTuple h
    · exact .kTuple h1 h2
  | lst hq hr =>
    exact .base (.lst (msk_sub _ _ hq))
  | yr => cases h
  | hf => cases h
  | adr => cases h
  | wd => cases h
  | wt => cases h
  | lf => cases h
/-- isinstance(x, T) -/
theorem ev_isi {T : String} {b : Bool} (h : EvD K C ta δ d) (hp : plainD d = true) (hk : kitB (tyD d) T = some b) : EvD K C (tCB (rIsi K) (tCons ta (tCons (tC (.ty T)) tNil))) δ (.bl b) := fun O σ H Q g e q =>
  h O σ H _ g e fun v H1 e1 r1 => ⟨v, .ty T, .type (tyD d), .type T, b, rfl, .ty T, tyx_of r1 hp, kit_ty hk, q _ H1 e1 (.bl _)⟩
/-- isinstance(x, (S, T)) -/
theorem ev_isi2 {S T : String} {b b2 : Bool} (h : EvD K C ta δ d) (hp : plainD d = true) (hk : kitB (tyD d) S = some b) (hk2 : kitB (tyD d) T = some b2) :
    EvD K C (tCB (rIsiT K) (tCons ta (tCons (tTup (tCons (tC (.ty S)) (tCons (tC (.ty T)) tNil))) tNil))) δ (.bl (b || b2)) := fun O σ H Q g e q =>
  h O σ H _ g e fun v H1 e1 r1 => ⟨(by show 2 ≤ sizeLine; decide), fun p hp1 => ⟨v, p, [.ty S, .ty T], .type (tyD d), [.type S, .type T], b || b2, rfl, upd_same, .cons (.ty S) (.cons (.ty T) .nil),
    tyx_of (r1.up (Evl.Ex.new hp1)) hp, kitAny_cons (kit_ty hk) (fun _ => kitAny_cons (kit_ty hk2) (fun e => by rw [e]; cases b <;> first | rfl | (exfalso; simp_all)) fun e => by rw [e]; cases b <;> rfl) (fun e => by rw [e]; rfl), q _ _ (e1.trans (Evl.Ex.new hp1)) (.bl _)⟩⟩
/-! ### == of plain data -/
mutual
def pd : DV → PyData
  | .non => .none
  | .bl b => .bool b
  | .int i => .int i
  | .str x => .str x
  | .tup ds => .tuple (pds ds)
  | .lst ds => .list (pds ds)
  | .yr _ => .none
  | .hf _ _ _ => .none
  | .adr _ => .none
  | .wd => .none
  | .wt _ _ _ => .none
  | .lf _ => .none
def pds : List DV → List PyData
  | [] => []
  | d :: ds => pd d :: pds ds
end
mutual
def noYr : DV → Bool
  | .yr _ => false
  | .hf _ _ _ => false
  | .adr _ => false
  | .wd => false
  | .wt _ _ _ => false
  | .lf _ => false
  | .tup ds => noYrs ds
  | .lst ds => noYrs ds
  | _ => true
def noYrs : List DV → Bool
  | [] => true
  | d :: ds => noYr d && noYrs ds
end
mutual
theorem dp_of {H : Hp} : ∀ {v : V} {d : DV}, Rep K C H v d → noYr d = true → Dp K H v (pd d)
  | _, _, .non, _ => by unfold pd; exact .non
  | _, _, .bl b, _ => by unfold pd; exact .bl b
  | _, _, .int i, _ => by unfold pd; exact .int i
  | _, _, .str x, _ => by unfold pd; exact .str x
  | _, _, .tup hq hr, h => by unfold pd; unfold noYr at h; exact .tup hq (dps_of hr h)
  | _, _, .lst hq hr, h => by unfold pd; unfold noYr at h; exact .lst (SqL.of hq) (dps_of hr h)
  | _, _, .yr _ _ _ _, h => by unfold noYr at h; cases h
  | _, _, .hf _ _, h => by unfold noYr at h; cases h
  | _, _, .adr _, h => by unfold noYr at h; cases h
  | _, _, .wd _ _ _, h => by unfold noYr at h; cases h
  | _, _, .wt _ _ _ _, h => by unfold noYr at h; cases h
  | _, _, .lf _ _, h => by unfold noYr at h; cases h
theorem dps_of {H : Hp} : ∀ {vs : List V} {ds : List DV}, Reps K C H vs ds → noYrs ds = true → DpAll K H vs (pds ds)
  | _, _, .nil, _ => by unfold pds; exact .nil
  | _, _, .cons h r, k => by
    unfold noYrs at k
    obtain ⟨k1, k2⟩ := Bool.and_eq_true_iff.mp k
    unfold pds
    exact .cons (dp_of h k1) (dps_of r k2)
end
theorem ev_eqD (ha : EvD K C ta δ d1) (hb : EvD K C tb δ d2) (n1 : noYr d1 = true) (n2 : noYr d2 = true) (s1 : SeqAt.shaped (pd d1) = true) (s2 : SeqAt.shaped (pd d2) = true) : EvD K C (tOp (rEqD K) ta tb) δ (.bl (PyData.eqv (pd d1) (pd d2))) := ev_op ha hb fun O H x y Q g r1 r2 q =>
  ⟨_, _, dp_of r1.sub n1, dp_of r2.sub n2, s1, s2, q _ H (Evl.Ex.refl H) (.bl _)⟩
theorem ev_neD (ha : EvD K C ta δ d1) (hb : EvD K C tb δ d2) (n1 : noYr d1 = true) (n2 : noYr d2 = true) (s1 : SeqAt.shaped (pd d1) = true) (s2 : SeqAt.shaped (pd d2) = true) : EvD K C (tOp (rNeD K) ta tb) δ (.bl (!PyData.eqv (pd d1) (pd d2))) := ev_op ha hb fun O H x y Q g r1 r2 q =>
  ⟨_, _, dp_of r1.sub n1, dp_of r2.sub n2, s1, s2, q _ H (Evl.Ex.refl H) (.bl _)⟩
/-! ### joins: lists, tuples -/
theorem ev_catL (ha : EvD K C ta δ (.lst ds)) (hb : EvD K C tb δ (.lst es)) (hz : ds.length + es.length ≤ 1000) : EvD K C (tOp rCat ta tb) δ (.lst (ds ++ es)) := ev_op ha hb fun O H x y Q g r1 r2 q => by
  cases r1 with
  | lst hq hr =>
    cases r2 with
    | lst hq2 hr2 => exact ⟨_, _, _, _, rfl, rfl, msk_sub _ _ hq, msk_sub _ _ hq2, sz_ok (by rw [hr.len, hr2.len]; exact hz), fun p hp => q _ _ (Evl.Ex.new hp) (rep_newL g hp (hr.app hr2))⟩
theorem ev_catT (ha : EvD K C ta δ (.tup ds)) (hb : EvD K C tb δ (.tup es)) (hz : ds.length + es.length ≤ 1000) : EvD K C (tOp (rCatA K) ta tb) δ (.tup (ds ++ es)) := ev_op ha hb fun O H x y Q g r1 r2 q => by
  cases r1 with
  | tup hq hr =>
    cases r2 with
    | tup hq2 hr2 =>
      refine ⟨_, _, _, _, rfl, rfl, Evl.ex_t msk_sub hq, Evl.ex_t msk_sub hq2, sz_ok (by rw [hr.len, hr2.len]; exact hz), fun h => ?_, fun _ h => ?_, fun _ _ p hp => q _ _ (Evl.Ex.new hp) (rep_newT g hp (hr.app hr2))⟩
      · refine q _ H (Evl.Ex.refl H) (.tup hq2 ?_)
        subst h
        cases hr
        exact hr2
      · refine q _ H (Evl.Ex.refl H) (.tup hq ?_)
        subst h
        cases hr2
        rw [List.append_nil]
        exact hr
/-! ### what is walked -/
end
section
variable (K : Frag) (C : Addr)
def ItD (wi : TI) (δ : Den) (xs : List DV) : Prop := ∀ (O : Addr → Bool) (σ : L2.St) (H : Hp) (R : It → Hp → Prop), Good O H → EnvD K C O H σ δ →
  (∀ (J : It) (H1 : Hp) (G : Hp → Prop) (Y : Nat → Hp → V → Hp → Prop), Ex H H1 → Walk J xs.length G Y → (∀ H', Ex H1 H' → G H') →
    (∀ (i : Nat) (H2 : Hp) (v : V) (H3 : Hp), i < xs.length → Ex H1 H2 → Y i H2 v H3 → Ex H2 H3 ∧ ∀ (O' : Addr → Bool), Good O' H2 → (∀ a, O' a = true → O a = true ∨ H1 a = none) → ∃ d, xs[i]? = some d ∧ Rep K C (msk O' H3) v d) → R J H1) → wi σ H R
end
section
variable {K : Frag} {C : Addr} {δ : Den} {d d1 d2 d3 : DV} {ta tb tc te : TE} {tt tu : TT} {ds es xs : List DV}
/-- what is known of data, where more is owned: new objects alone -/
theorem msk_more {O O' : Addr → Bool} {H1 H' : Hp} (e : Ex H1 H') (h : ∀ a, O' a = true → O a = true ∨ H1 a = none) : Ex (msk O H1) (msk O' H') := fun a o q => by
  unfold msk at q ⊢
  by_cases k : O a = true
  · rw [if_pos k] at q; cases q
  · rw [if_neg k] at q
    rw [if_neg (fun k2 => ?_)]
    · exact e a o q
    · rcases h a k2 with z | z
      · exact k z
      · rw [z] at q; cases q
theorem it_list (h : EvD K C te δ (.lst xs)) : ItD K C (iList K te) δ xs := fun O σ H R g e q => h O σ H _ g e fun v H1 e1 r1 => by
  cases r1 with
  | lst hq hr =>
    rename_i a vs
    refine ⟨_, rfl, ⟨_, sql_of hq⟩, ?_⟩
    have w := walk_list (K := K) (a := a) (xs := vs)
    rw [hr.len] at w
    refine q _ H1 _ _ e1 w (fun H' e' => Evl.ex_l e' (sql_of hq)) fun i H2 v H3 hi e2 y => ?_
    obtain ⟨e3, y⟩ := y
    subst e3
    refine ⟨Evl.Ex.refl _, fun O' _ ho => ?_⟩
    obtain ⟨d, hd, rd⟩ := hr.got y
    exact ⟨d, hd, rd.mono (msk_more e2 ho)⟩
theorem it_tup (h : EvD K C te δ (.tup xs)) : ItD K C (iTup K te) δ xs := fun O σ H R g e q => h O σ H _ g e fun v H1 e1 r1 => by
  cases r1 with
  | tup hq hr =>
    rename_i a vs
    refine ⟨_, rfl, ⟨_, Evl.ex_t msk_sub hq⟩, ?_⟩
    have w := walk_tup (K := K) (a := a) (xs := vs)
    rw [hr.len] at w
    refine q _ H1 _ _ e1 w (fun H' e' => Evl.ex_t e' (Evl.ex_t msk_sub hq)) fun i H2 v H3 hi e2 y => ?_
    obtain ⟨e3, y⟩ := y
    subst e3
    refine ⟨Evl.Ex.refl _, fun O' _ ho => ?_⟩
    obtain ⟨d, hd, rd⟩ := hr.got y
    exact ⟨d, hd, rd.mono (msk_more e2 ho)⟩
abbrev rangeD (n : Nat) : List DV := (List.range n).map fun (i : Nat) => DV.int (i : Int)
theorem it_range {n : Nat} (h : EvD K C ta δ (.int (n : Int))) (hn : n ≤ 100000) : ItD K C (iRng1 (tCons ta tNil)) δ (rangeD n) := fun O σ H R g e q => h O σ H _ g e fun v H1 e1 r1 => by
  refine ⟨(n : Int), by rw [r1.int_eq], by omega, by omega, ?_⟩
  have w : Walk (Itr 0 ((n : Int)).toNat) (rangeD n).length (fun _ => True) (YFn fun i => .int (0 + (i : Nat))) := by
    have w := walk_range (lo := 0) (n := ((n : Int)).toNat)
    rw [List.length_map, List.length_range]
    exact w
  refine q _ H1 _ _ e1 w (fun _ _ => True.intro) fun i H2 v H3 hi e2 y => ?_
  obtain ⟨e3, y⟩ := y
  subst e3
  refine ⟨Evl.Ex.refl _, fun O' _ ho => ⟨.int (i : Int), ?_, ?_⟩⟩
  · rw [List.length_map, List.length_range] at hi
    rw [List.getElem?_map, List.getElem?_range hi]
    rfl
  · rw [y]
    show Rep K C _ (V.int (0 + (i : Int))) _
    rw [Int.zero_add]
    exact .int _
abbrev enumD (xs : List DV) : List DV := xs.zipIdx.map fun p => DV.tup [.int (p.2 : Int), p.1]
theorem enumD_at {i : Nat} {d : DV} (h : xs[i]? = some d) : (enumD xs)[i]? = some (.tup [.int (i : Int), d]) := by
  rw [List.getElem?_map, List.getElem?_zipIdx, h]
  simp
theorem it_enum (h : EvD K C te δ (.lst xs)) : ItD K C (iEnum K (tCons te tNil)) δ (enumD xs) := fun O σ H R g e q => h O σ H _ g e fun v H1 e1 r1 => by
  cases r1 with
  | lst hq hr =>
    rename_i a vs
    refine ⟨_, _, rfl, sql_of hq, ?_⟩
    have w := walk_enum (K := K) (a := a) (xs := vs)
    rw [hr.len, show xs.length = (enumD xs).length by rw [List.length_map, List.length_zipIdx]] at w
    refine q _ H1 _ _ e1 w (fun H' e' => Evl.ex_l e' (sql_of hq)) fun i H2 v H3 hi e2 y => ?_
    obtain ⟨T, x, z, rfl, hT, rfl, hx, hz⟩ := y
    cases hx
    refine ⟨Evl.Ex.new hT, fun O' g' ho => ?_⟩
    obtain ⟨d, hd, rd⟩ := hr.got hz
    exact ⟨_, enumD_at hd, rep_newT g' hT (.cons (.int _) (.cons (rd.mono (msk_more e2 ho)) .nil))⟩
abbrev zipD (xs ys : List DV) : List DV := (xs.zip ys).map fun p => DV.tup [p.1, p.2]
theorem zipD_at {ys : List DV} {i : Nat} {d d' : DV} (h : xs[i]? = some d) (h' : ys[i]? = some d') : (zipD xs ys)[i]? = some (.tup [d, d']) := by
  rw [List.getElem?_map, (List.getElem?_zip_eq_some (z := (d, d'))).mpr ⟨h, h'⟩]
  rfl
theorem walk_zipT {a b : Addr} {us ws : List V} {n : Nat} (hn : n = min us.length ws.length) : Walk (RZ.ItzT K a b) n (fun H => SqT K H a us ∧ SqT K H b ws) (YPair (fun i => us[i]?) (fun i => ws[i]?)) := by
  subst hn
  refine ⟨fun i _ hi q => ?_, fun _ q => ⟨us, ws, q.1, q.2, by omega⟩, fun i H v H' _ q y => ?_⟩
  · have h1 : i < us.length := by omega
    have h2 : i < ws.length := by omega
    exact ⟨us, ws, us[i], ws[i], q.1, q.2, by simp [h1], by simp [h2]⟩
  · obtain ⟨T, x, z, h1, h2, h3, h4, h5⟩ := y
    exact ⟨T, x, z, h1, h2, h3, h4 us q.1, h5 ws q.2⟩
theorem it_zipL {ys : List DV} (h : EvD K C ta δ (.lst xs)) (h2 : EvD K C tb δ (.lst ys)) : ItD K C (RZ.iZipA K (tCons ta (tCons tb tNil))) δ (zipD xs ys) := fun O σ H R g e q =>
  h O σ H _ g e fun v H1 e1 r1 => h2 O σ H1 _ (g.ex e1) (e.up e1) fun w H2 f2 r2 => by
    cases r1 with
    | lst hq hr =>
      cases r2 with
      | lst hq2 hr2 =>
        have hqa := Evl.ex_l (K := K) f2 (sql_of hq)
        have hqb := sql_of (K := K) hq2
        refine ⟨_, _, _, _, rfl, .inl ⟨hqa, hqb, ?_⟩⟩
        refine q _ H2 _ _ (e1.trans f2) (walk_zip (K := K) (a := _) (b := _) (by rw [List.length_map, List.length_zip, hr.len, hr2.len])) (fun H' e' => ⟨Evl.ex_l e' hqa, Evl.ex_l e' hqb⟩) fun i H3 v H4 hi e3 y => ?_
        obtain ⟨T, x, z, rfl, hT, rfl, hx, hz⟩ := y
        refine ⟨Evl.Ex.new hT, fun O' g' ho => ?_⟩
        obtain ⟨d, hd, rd⟩ := hr.got hx
        obtain ⟨d', hd', rd'⟩ := hr2.got hz
        exact ⟨_, zipD_at hd hd', rep_newT g' hT (.cons ((rd.up f2).mono (msk_more e3 ho)) (.cons (rd'.mono (msk_more e3 ho)) .nil))⟩
theorem it_zipT {ys : List DV} (h : EvD K C ta δ (.tup xs)) (h2 : EvD K C tb δ (.tup ys)) : ItD K C (RZ.iZipA K (tCons ta (tCons tb tNil))) δ (zipD xs ys) := fun O σ H R g e q =>
  h O σ H _ g e fun v H1 e1 r1 => h2 O σ H1 _ (g.ex e1) (e.up e1) fun w H2 f2 r2 => by
    cases r1 with
    | tup hq hr =>
      cases r2 with
      | tup hq2 hr2 =>
        have hqa := Evl.ex_t f2 (Evl.ex_t msk_sub hq)
        have hqb := Evl.ex_t msk_sub hq2
        refine ⟨_, _, _, _, rfl, .inr ⟨hqa, hqb, ?_⟩⟩
        refine q _ H2 _ _ (e1.trans f2) (walk_zipT (K := K) (a := _) (b := _) (by rw [List.length_map, List.length_zip, hr.len, hr2.len])) (fun H' e' => ⟨Evl.ex_t e' hqa, Evl.ex_t e' hqb⟩) fun i H3 v H4 hi e3 y => ?_
        obtain ⟨T, x, z, rfl, hT, rfl, hx, hz⟩ := y
        refine ⟨Evl.Ex.new hT, fun O' g' ho => ?_⟩
        obtain ⟨d, hd, rd⟩ := hr.got hx
        obtain ⟨d', hd', rd'⟩ := hr2.got hz
        exact ⟨_, zipD_at hd hd', rep_newT g' hT (.cons ((rd.up f2).mono (msk_more e3 ho)) (.cons (rd'.mono (msk_more e3 ho)) .nil))⟩
/-! ### targets -/
theorem wipe_set {σ : L2.St} {i : Nat} {o : Option V} : ∀ {vs : List Nat}, i ∈ vs → L2.wipe (σ.set i o) vs = L2.wipe σ vs
  | [], h => by cases h
  | v :: vs, h => by
    show (L2.wipe (σ.set i o) vs).set v none = (L2.wipe σ vs).set v none
    by_cases k : i ∈ vs
    · rw [wipe_set k]
    · have e : i = v := by
        rcases List.mem_cons.mp h with e | m
        · exact e
        · exact absurd m k
      subst e
      have w : ∀ (ws : List Nat), i ∉ ws → L2.wipe (σ.set i o) ws = (L2.wipe σ ws).set i o := fun ws => by
        induction ws with
        | nil => intro _; rfl
        | cons x ws ih =>
          intro hx
          show (L2.wipe (σ.set i o) ws).set x none = ((L2.wipe σ ws).set x none).set i o
          rw [ih (fun z => hx (List.mem_cons_of_mem _ z)), List.set_comm _ _ (fun z => hx (by rw [z]; exact List.mem_cons_self))]
      rw [w vs k, List.set_set]
end
section
variable (K : Frag) (C : Addr)
def TgD (is : List Nat) (g : TG) (d : DV) (δ δ' : Den) : Prop := ∀ (O : Addr → Bool) (σ : L2.St) (H : Hp) (v : V) (Q : L2.St → Hp → Prop), EnvD K C O H σ δ → Rep K C (msk O H) v d →
  (∀ σ', EnvD K C O H σ' δ' → (∀ vs : List Nat, (∀ i, i ∈ is → i ∈ vs) → L2.wipe σ' vs = L2.wipe σ vs) → Q σ' H) → g v σ H Q
def TgsD (is : List Nat) (g : TGs) (ds : List DV) (δ δ' : Den) : Prop := ∀ (O : Addr → Bool) (σ : L2.St) (H : Hp) (vs : List V) (Q : L2.St → Hp → Prop), EnvD K C O H σ δ → Reps K C (msk O H) vs ds →
  (∀ σ', EnvD K C O H σ' δ' → (∀ ws : List Nat, (∀ i, i ∈ is → i ∈ ws) → L2.wipe σ' ws = L2.wipe σ ws) → Q σ' H) → g vs σ H Q
end
section
variable {K : Frag} {C : Addr} {δ δ1 δ2 δ' : Den} {d d1 d2 d3 : DV} {ta tb tc te : TE} {tt tu : TT} {ds es xs : List DV} {is js : List Nat} {g : TG}
theorem tg_name {i : Nat} : TgD K C [i] (gName i) d δ (δ.set i (some d)) := fun O σ H v Q e r q => q _ (e.set r) fun vs h => wipe_set (h i List.mem_cons_self)
theorem tgs_nil : TgsD K C [] gNil [] δ δ := fun O σ H vs Q e r q => by
  cases r
  exact ⟨rfl, q σ e fun _ _ => rfl⟩
theorem tgs_cons {u : TGs} (h : TgD K C is g d δ δ1) (k : TgsD K C js u ds δ1 δ2) : TgsD K C (is ++ js) (gCons g u) (d :: ds) δ δ2 := fun O σ H vs Q e r q => by
  cases r with
  | cons h1 r1 =>
    refine ⟨_, _, rfl, h O σ H _ _ e h1 fun σ1 e1 w1 => k O σ1 H _ Q e1 r1 fun σ2 e2 w2 => q σ2 e2 fun ws hw => ?_⟩
    rw [w2 ws (fun i hi => hw i (List.mem_append_right _ hi)), w1 ws (fun i hi => hw i (List.mem_append_left _ hi))]
theorem tg_tup {n : Nat} {u : TGs} (hn : ds.length = n) (h : TgsD K C is u ds δ δ') : TgD K C is (gTup K n u) (.tup ds) δ δ' := fun O σ H v Q e r q => by
  cases r with
  | tup hq hr => exact ⟨_, _, rfl, Evl.ex_t msk_sub hq, by rw [hr.len]; exact hn, h O σ H _ Q e hr q⟩
/-! ### comprehensions -/
theorem msk_less {O : Addr → Bool} {H : Hp} {p : Addr} : Evl.Ex (msk (fun a => O a || decide (a = p)) H) (msk O H) := fun a o h => by
  unfold msk at h ⊢
  by_cases k : (O a || decide (a = p)) = true
  · rw [if_pos k] at h; cases h
  · rw [if_neg k] at h
    rw [if_neg (fun z => k (by rw [z]; rfl))]
    exact h
/-- a new list -/
def EvN (K : Frag) (C : Addr) (t : TE) (δ : Den) (ds : List DV) : Prop := ∀ (O : Addr → Bool) (σ : L2.St) (H : Hp) (Q : VK), Good O H → EnvD K C O H σ δ →
  (∀ p vs H', Evl.Ex H H' → H p = none → H' p = some (.lst vs) → Reps K C (msk (fun a => O a || decide (a = p)) H') vs ds → Q (.ref p) H') → t σ H Q
theorem EvN.toD (h : EvN K C te δ ds) : EvD K C te δ (.lst ds) := fun O σ H Q g e q => h O σ H Q g e fun p vs H' x hn hp r => q (.ref p) H' x (.lst (by rw [msk_at (g.new hn)]; exact hp) (r.mono msk_less))
theorem ev_lstN {tr : TA} (h : EvA K C tr δ ds) (hl : ds.length ≤ 1000) : EvN K C (tLst tr) δ ds := fun O σ H Q g e q =>
  h O σ H _ g e fun vs H1 e1 r1 => ⟨sz_ok (by rw [r1.len]; exact hl), fun p hp => q p vs _ (e1.trans (Evl.Ex.new hp)) (Evl.fresh_back e1 hp) upd_same (r1.mono (msk_more (Evl.Ex.new hp) fun a z => by
    rcases Bool.or_eq_true_iff.mp z with z | z
    · exact .inl z
    · rw [of_decide_eq_true z]; exact .inr hp))⟩
theorem ev_listN {d : DV} (h : EvD K C ta δ d) (hs : IsSeq d ds) : EvN K C (tCB (rListOf K) (tCons ta tNil)) δ ds := fun O σ H Q g e q =>
  h O σ H _ g e fun v H1 e1 r1 => by
    have fin : ∀ (a : Addr) (vs : List V), v = .ref a → (SqL K H1 a vs ∨ SqT K H1 a vs) → Reps K C (msk O H1) vs ds → rListOf K [v] H1 Q := fun a vs ev hh hr => by
      subst ev
      exact ⟨a, vs, rfl, hh, fun p hp => q p vs _ (e1.trans (Evl.Ex.new hp)) (Evl.fresh_back e1 hp) upd_same (hr.mono (msk_more (Evl.Ex.new hp) fun a z => by
        rcases Bool.or_eq_true_iff.mp z with z | z
        · exact .inl z
        · rw [of_decide_eq_true z]; exact .inr hp))⟩
    rcases hs with hs | hs
    · subst hs
      cases r1 with
      | lst hq hr => exact fin _ _ rfl (.inl (sql_of hq)) hr
    · subst hs
      cases r1 with
      | tup hq hr => exact fin _ _ rfl (.inr (Evl.ex_t msk_sub hq)) hr

theorem ev_lcN {α β : Type} {as : List α} {a : α → DV} {b : β → DV} {wi : TI} {vs : List Nat} (f : α → β) (p : α → Bool) (hi : ItD K C wi δ (as.map a)) (hl : as.length ≤ 1000) (hs : ∀ i, i ∈ is → i ∈ vs)
    (hb : ∀ x, x ∈ as → ∃ δ2, TgD K C is g (a x) (wipeD δ vs) δ2 ∧ EvT K C tt δ2 (p x) ∧ (p x = true → EvD K C te δ2 (b (f x)))) : EvN K C (tLc wi g tt te vs) δ (((as.filter p).map f).map b) := fun O σ H Q gd e q =>
  hi O σ H _ gd e fun J H1 G Y e1 w hG hY D hD => by
    have ww : ∀ (σ' : L2.St) (us : List Nat), (∀ i, i ∈ us → i ∈ vs) → L2.wipe (L2.wipe σ' us) vs = L2.wipe σ' vs := fun σ' us => by
      induction us with
      | nil => intro _; rfl
      | cons u us ih =>
        intro h
        show L2.wipe ((L2.wipe σ' us).set u none) vs = _
        rw [wipe_set (h u List.mem_cons_self), ih fun i hi => h i (List.mem_cons_of_mem _ hi)]
    have gO' : ∀ {H' : Hp}, Ex H1 H' → H' D ≠ none → Good (fun a => O a || decide (a = D)) H' := fun {H'} ex hD' a ha => by
      rcases Bool.or_eq_true_iff.mp ha with z | z
      · exact ((gd.ex e1).ex ex) a z
      · rw [of_decide_eq_true z]; exact hD'
    have oD : ∀ a, (O a || decide (a = D)) = true → O a = true ∨ H1 a = none := fun a ha => by
      rcases Bool.or_eq_true_iff.mp ha with z | z
      · exact .inl z
      · rw [of_decide_eq_true z]; exact .inr hD
    have mD : ∀ (H' : Hp) (o : HO), Ex (msk (fun a => O a || decide (a = D)) H') (msk (fun a => O a || decide (a = D)) (upd H' D o)) := fun H' o a u h => by
      unfold msk at h ⊢
      by_cases k : (O a || decide (a = D)) = true
      · rw [if_pos k] at h; cases h
      · rw [if_neg k] at h ⊢
        have : a ≠ D := fun z => k (by rw [z]; simp)
        rw [upd_ne this]
        exact h
    refine lc_it (w := w) (fun i H' => Ex H1 H' ∧ ∃ acc, H' D = some (.lst acc) ∧ Reps K C (msk (fun a => O a || decide (a = D)) H') acc ((((as.take i).filter p).map f).map b)) ⟨Evl.Ex.new hD, [], upd_same, .nil⟩ (fun i H' _ pv => hG H' pv.1) ?_ ?_
    · rintro i x H2 H3 hlt ⟨ex, acc, hacc, racc⟩ y
      have gd2 := gO' ex (by rw [hacc]; exact fun z => by cases z)
      obtain ⟨e3, hd⟩ := hY i H2 x H3 hlt ex y
      obtain ⟨d', hxd', rd⟩ := hd _ gd2 oD
      rw [List.getElem?_map] at hxd'
      obtain ⟨d, hxd, ed⟩ := Option.map_eq_some_iff.mp hxd'
      subst ed
      have hmem : d ∈ as := List.mem_of_getElem? hxd
      obtain ⟨δ2, htg, htt, hte⟩ := hb d hmem
      have env3 : EnvD K C (fun a => O a || decide (a = D)) H3 σ δ := ⟨e.len, fun j d' hj => by
        obtain ⟨v, h1, h2⟩ := e.at_ j d' hj
        exact ⟨v, h1, (h2.up e1).mono (msk_more (ex.trans e3) oD)⟩⟩
      have tk : as.take (i + 1) = as.take i ++ [d] := by rw [List.take_add_one, hxd]; rfl
      refine htg _ (L2.wipe σ vs) H3 x _ (env3.wipe vs) rd fun σ2 env2 hw => ⟨?_, ?_⟩
      · exact (hw vs hs).trans (ww σ vs fun i h => h)
      · refine htt _ σ2 H3 _ (gd2.ex e3) env2 fun H4 e4 => ?_
        cases hp : p d with
        | true =>
          refine iteT (hte hp _ σ2 H4 _ ((gd2.ex e3).ex e4) (env2.up e4) fun v H5 e5 r5 => ?_)
          have eD : H5 D = some (.lst acc) := e5 _ _ (e4 _ _ (e3 _ _ hacc))
          refine ⟨acc, eD, ?_, Evl.Ex.mut (((ex.trans e3).trans e4).trans e5) hD, acc ++ [v], upd_same, ?_⟩
          · have l1 := racc.len
            rw [List.length_map, List.length_map] at l1
            have l2 := List.length_filter_le p (as.take i)
            rw [List.length_take] at l2
            refine Nat.lt_of_le_of_lt (m := 1000) (by omega) (by decide)
          · rw [tk, List.filter_append, List.map_append, List.map_append, List.filter_cons, if_pos hp]
            exact (((racc.up ((e3.trans e4).trans e5)).app (.cons r5 .nil))).mono (mD H5 _)
        | false =>
          refine iteF ⟨(ex.trans e3).trans e4, acc, e4 _ _ (e3 _ _ hacc), ?_⟩
          rw [tk, List.filter_append, List.filter_cons, if_neg (by rw [hp]; decide)]
          show Reps K C _ acc (((List.filter p (List.take i as) ++ []).map f).map b)
          rw [List.append_nil]
          exact racc.up (e3.trans e4)
    · rintro H2 ⟨ex, acc, hacc, racc⟩
      rw [List.length_map, List.take_length] at racc
      exact q D acc H2 (e1.trans ex) (Evl.fresh_back e1 hD) hacc racc
theorem ev_lcM {α β : Type} {as : List α} {a : α → DV} {b : β → DV} {wi : TI} {vs : List Nat} (f : α → β) (p : α → Bool) (hi : ItD K C wi δ (as.map a)) (hl : as.length ≤ 1000) (hs : ∀ i, i ∈ is → i ∈ vs)
    (hb : ∀ x, x ∈ as → ∃ δ2, TgD K C is g (a x) (wipeD δ vs) δ2 ∧ EvT K C tt δ2 (p x) ∧ (p x = true → EvD K C te δ2 (b (f x)))) : EvD K C (tLc wi g tt te vs) δ (.lst (((as.filter p).map f).map b)) := (ev_lcN f p hi hl hs hb).toD
/-- a comprehension with no test -/
theorem ev_lcY {α β : Type} {as : List α} {a : α → DV} {b : β → DV} {wi : TI} {vs : List Nat} (f : α → β) (hi : ItD K C wi δ (as.map a)) (hl : as.length ≤ 1000) (hs : ∀ i, i ∈ is → i ∈ vs)
    (hb : ∀ x, x ∈ as → ∃ δ2, TgD K C is g (a x) (wipeD δ vs) δ2 ∧ EvD K C te δ2 (b (f x))) : EvD K C (tLc wi g tYes te vs) δ (.lst ((as.map f).map b)) :=
  (ev_lcM f (fun _ => true) hi hl hs fun x hx => by
    obtain ⟨δ2, h1, h2⟩ := hb x hx
    exact ⟨δ2, h1, et_yes, fun _ => h2⟩).is (by rw [List.filter_eq_self.mpr fun _ _ => rfl])
end
/-! ### statements -/
section
variable (K : Frag) (C : Addr)
def StD (t : TS) (δ : Den) (N : Den → Prop) (R : DV → Prop) : Prop := ∀ (O : Addr → Bool) (σ : L2.St) (H : Hp) (D : Ends), Good O H → EnvD K C O H σ δ →
  (∀ δ' σ' H', N δ' → Ex H H' → EnvD K C O H' σ' δ' → D.nx σ' H') → (∀ d v H', R d → Ex H H' → Rep K C (msk O H') v d → D.rt v H') → t D σ H
end
section
variable {K : Frag} {C : Addr} {δ δ1 δ2 δ' : Den} {d d1 d2 d3 : DV} {ta tb tc te : TE} {tt tu : TT} {t u : TS} {ds es xs : List DV} {is js : List Nat} {g : TG} {N M : Den → Prop} {R : DV → Prop}
theorem st_seq (h : StD K C t δ M R) (k : ∀ δ', M δ' → StD K C u δ' N R) : StD K C (tSeq t u) δ N R := fun O σ H D gd e q1 q2 =>
  h O σ H { D with nx := u D } gd e (fun δ' σ' H' m x e' => k δ' m O σ' H' D (gd.ex x) e' (fun δ2 σ2 H2 n x2 => q1 δ2 σ2 H2 n (x.trans x2)) fun d v H2 r x2 => q2 d v H2 r (x.trans x2)) q2
theorem st_next (h : N δ) : StD K C tNext δ N R := fun O σ H D gd e q1 _ => q1 δ σ H h (Evl.Ex.refl H) e
theorem st_ret (h : EvD K C te δ d) (hr : R d) : StD K C (tRet te) δ N R := fun O σ H D gd e _ q2 => h O σ H _ gd e fun v H1 x r => q2 d v H1 hr x r
/-- return, where what is due is told -/
theorem st_retR (h : EvD K C te δ d) : StD K C (tRet te) δ N (fun r => r = d) := fun O σ H D gd e _ q2 => h O σ H _ gd e fun v H1 x r => q2 d v H1 rfl x r
theorem st_asg (h : EvD K C te δ d) (hg : TgD K C is g d δ δ') (n : N δ') : StD K C (tAsg te g) δ N R := fun O σ H D gd e q1 _ =>
  h O σ H _ gd e fun v H1 x r => hg O σ H1 v _ (e.up x) r fun σ' e' _ => q1 δ' σ' H1 n x e'
/-- x = e, then the rest -/
theorem st_let {i : Nat} (h : EvD K C te δ d) (k : StD K C u (δ.set i (some d)) N R) : StD K C (tSeq (tAsg te (gName i)) u) δ N R := st_seq (M := fun x => x = δ.set i (some d)) (st_asg h tg_name rfl) fun δ' e => by rw [e]; exact k
theorem st_let1 {i : Nat} (h : EvD K C te δ d) (k : N (δ.set i (some d))) : StD K C (tAsg te (gName i)) δ N R := st_asg h tg_name k
theorem st_letT (h : EvD K C te δ d) (hg : TgD K C is g d δ δ') (k : StD K C u δ' N R) : StD K C (tSeq (tAsg te g) u) δ N R := st_seq (M := fun x => x = δ') (st_asg h hg rfl) fun x e => by rw [e]; exact k
theorem st_if {b : Bool} (h : EvT K C tt δ b) (h1 : b = true → StD K C t δ N R) (h2 : b = false → StD K C u δ N R) : StD K C (tIfS tt t u) δ N R := fun O σ H D gd e q1 q2 =>
  h O σ H _ gd e fun H1 x => by
    cases b with
    | true => exact iteT (h1 rfl O σ H1 D (gd.ex x) (e.up x) (fun δ2 σ2 H2 n x2 => q1 δ2 σ2 H2 n (x.trans x2)) fun d v H2 r x2 => q2 d v H2 r (x.trans x2))
    | false => exact iteF (h2 rfl O σ H1 D (gd.ex x) (e.up x) (fun δ2 σ2 H2 n x2 => q1 δ2 σ2 H2 n (x.trans x2)) fun d v H2 r x2 => q2 d v H2 r (x.trans x2))
/-- if t: return .. (or what never comes back); then the rest -/
theorem st_when {b : Bool} {w : TS} (h : EvT K C tt δ b) (h1 : b = true → StD K C t δ (fun _ => False) R) (h2 : b = false → StD K C w δ N R) : StD K C (tSeq (tIfS tt t tNext) w) δ N R :=
  st_seq (M := fun x => b = false ∧ x = δ) (st_if h (fun hb O σ H D gd e _ q2 => h1 hb O σ H D gd e (fun _ _ _ n => n.elim) q2) fun hb => st_next ⟨hb, rfl⟩) fun δ' ⟨hb, e⟩ => by rw [e]; exact h2 hb
theorem st_cond {b : Bool} {w : TS} (h : EvT K C tt δ b) (h1 : b = true → StD K C t δ (fun x => x = δ1) R) (h2 : b = false → StD K C u δ (fun x => x = δ2) R) (k : StD K C w (if b = true then δ1 else δ2) N R) : StD K C (tSeq (tIfS tt t u) w) δ N R :=
  st_seq (M := fun x => x = if b = true then δ1 else δ2) (st_if h (fun hb O σ H D gd e q1 q2 => h1 hb O σ H D gd e (fun δ2 σ2 H2 n => q1 δ2 σ2 H2 (by rw [hb, n]; rfl)) q2) fun hb O σ H D gd e q1 q2 => h2 hb O σ H D gd e (fun δ2 σ2 H2 n => q1 δ2 σ2 H2 (by rw [hb, n]; rfl)) q2) fun δ' e => by rw [e]; exact k
theorem st_drop (h : EvD K C te δ d) (k : StD K C u δ N R) : StD K C (tSeq (tDrop te) u) δ N R := fun O σ H D gd e q1 q2 =>
  h O σ H _ gd e fun v H1 x _ => k O σ H1 D (gd.ex x) (e.up x) (fun δ2 σ2 H2 n x2 => q1 δ2 σ2 H2 n (x.trans x2)) fun d v H2 r x2 => q2 d v H2 r (x.trans x2)
theorem st_drop1 (h : EvD K C te δ d) (k : N δ) : StD K C (tDrop te) δ N R := fun O σ H D gd e q1 q2 => h O σ H _ gd e fun v H1 x _ => q1 δ σ H1 k x (e.up x)
theorem st_mono {N' : Den → Prop} {R' : DV → Prop} (h : StD K C t δ N R) (hn : ∀ δ', N δ' → N' δ') (hr : ∀ d, R d → R' d) : StD K C t δ N' R' := fun O σ H D gd e q1 q2 =>
  h O σ H D gd e (fun δ' σ' H' n => q1 δ' σ' H' (hn δ' n)) fun d v H' r => q2 d v H' (hr d r)
/-- a, b = x, y -/
theorem st_par1 {i j : Nat} (ha : EvA K C (tCons ta (tCons tb tNil)) δ [d1, d2]) (k : N ((δ.set i (some d1)).set j (some d2))) : StD K C (tPar i j (tCons ta (tCons tb tNil))) δ N R := fun O σ H D gd e q1 q2 =>
  ha O σ H (fun vs H1 => ∃ v w, vs = [v, w] ∧ D.nx ((σ.set i (some v)).set j (some w)) H1) gd e fun vs H1 x r => by
    obtain ⟨v, w, rfl, r1, r2⟩ := reps2 r
    exact ⟨v, w, rfl, q1 _ _ H1 k x (((e.up x).set r1).set r2)⟩
theorem st_par {i j : Nat} (ha : EvA K C (tCons ta (tCons tb tNil)) δ [d1, d2]) (k : StD K C u ((δ.set i (some d1)).set j (some d2)) N R) : StD K C (tSeq (tPar i j (tCons ta (tCons tb tNil))) u) δ N R :=
  st_seq (M := fun x => x = (δ.set i (some d1)).set j (some d2)) (st_par1 ha rfl) fun x e => by rw [e]; exact k
/-- a for: I by the turn -/
theorem st_for {wi : TI} (I : Nat → Den → Prop) (hi : ItD K C wi δ xs) (h0 : I 0 δ) (hs : ∀ (i : Nat) (d : DV) (δ1 : Den), xs[i]? = some d → I i δ1 → ∃ is δ2, TgD K C is g d δ1 δ2 ∧ StD K C t δ2 (I (i + 1)) R) (hd : ∀ δ1, I xs.length δ1 → N δ1) : StD K C (tFor wi g t) δ N R := fun O σ H D gd e q1 q2 =>
  hi O σ H _ gd e fun J H1 G Y e1 w hG hY => by
    refine for_it (w := w) (fun i σ' H' => Ex H1 H' ∧ ∃ δ1, I i δ1 ∧ EnvD K C O H' σ' δ1) ⟨Evl.Ex.refl _, δ, h0, e.up e1⟩ (fun i σ' H' _ pv => hG H' pv.1) ?_ ?_
    · rintro i x σ' H2 H3 hlt ⟨ex, δ1, hI, env⟩ y
      obtain ⟨e3, hd⟩ := hY i H2 x H3 hlt ex y
      obtain ⟨d, hxd, rd⟩ := hd O ((gd.ex e1).ex ex) fun a ha => .inl ha
      obtain ⟨is, δ2, htg, hst⟩ := hs i d δ1 hxd hI
      refine htg O σ' H3 x _ (env.up e3) rd fun σ2 env2 _ => ?_
      exact hst O σ2 H3 _ (((gd.ex e1).ex ex).ex e3) env2 (fun δ3 σ3 H4 n x2 env4 => ⟨(ex.trans e3).trans x2, δ3, n, env4⟩) fun d v H4 r x2 rr => q2 d v H4 r (((e1.trans ex).trans e3).trans x2) rr
    · rintro σ' H2 ⟨ex, δ1, hI, env⟩
      exact q1 δ1 σ' H2 (hd δ1 hI) (e1.trans ex) env
/-- a while: W by a measure -/
theorem st_while {c : TT} (W : Nat → Den → Prop) (m : Nat) (h0 : W m δ) (hs : ∀ (m : Nat) (δ1 : Den), W m δ1 → ∃ b, EvT K C c δ1 b ∧ (b = true → StD K C t δ1 (fun δ2 => ∃ m', m' < m ∧ W m' δ2) R) ∧ (b = false → N δ1)) : StD K C (tWhile c t) δ N R := fun O σ H D gd e q1 q2 => by
  refine ⟨fun m σ' H' => Ex H H' ∧ ∃ δ1, W m δ1 ∧ EnvD K C O H' σ' δ1, ⟨m, Evl.Ex.refl _, δ, h0, e⟩, ?_⟩
  rintro m σ' H1 ⟨ex, δ1, w, env⟩
  obtain ⟨b, hb, h1, h2⟩ := hs m δ1 w
  refine hb O σ' H1 _ (gd.ex ex) env fun H2 e2 => ?_
  cases b with
  | true =>
    refine iteT ⟨_, fun σ3 H3 n => n, h1 rfl O σ' H2 _ ((gd.ex ex).ex e2) (env.up e2) (fun δ2 σ2 H3 ⟨m', hm, w'⟩ x2 env3 => ⟨m', hm, (ex.trans e2).trans x2, δ2, w', env3⟩) fun d v H3 r x2 rr => q2 d v H3 r ((ex.trans e2).trans x2) rr⟩
  | false => exact iteF (q1 δ1 σ' H2 (h2 rfl) (ex.trans e2) (env.up e2))
end
/-! ### defs -/
def spD (K : Frag) (C : Addr) (F : List DV → DV → Prop) : Sp := fun vs H Q _ => ∃ (O : Addr → Bool) (ds : List DV) (d : DV), Good O H ∧ F ds d ∧ Reps K C (msk O H) vs ds ∧ ∀ v H', Ex H H' → Rep K C (msk O H') v d → Q v H'
/-- a call, by a positional promise -/
def tFn (sp : Sp) (t : TA) : TE := fun σ H Q => t σ H fun vs H1 => sp vs H1 Q E0
structure FnAt (P : Program) (w : World) (K : Frag) (mg : Str → Option Value) (base : Heap) (x : Str) (k : Nat) (sp : Sp) : Prop where
  ex : ∃ f, FnR P w K mg base CX0 k f sp ∧ mg x = some (.ref f) ∧ PySem.W.keepIn K (.ref f) = true
section
variable {X : Cx} {x : Str} {p pos : Pos} {e : Expr} {es : List Expr} {t : TA} {sp : Sp} {k j : Nat}
theorem pe_fn (h : FnAt X.prog X.w X.K X.mg X.base x j sp) (hr : Room k X.A) (hj : j ≤ k) (hg : Gl X x) (ha : PA X (e :: es) t) (hs : starEach (e :: es) X.env = (false, eval e X.env) :: starEach es X.env := by rfl) (hp : (backTo pos (starEach es X.env)).any (·.1) = false := by rfl)
    (hdb : (x == ("__debug__" : Str)) = false := by decide) : PE X (.Call (.Name x p) (e :: es) [] pos) (tFn sp t) := by
  obtain ⟨f, F, hm, hk⟩ := h.ex
  refine ⟨fun pins s σ H Q I h => ?_⟩
  refine wpAny_Call_Name_kw (ld_glob I hg hm ?_ hdb)
  refine PySem.W.callWith_K (h₀ := X.base) I.ok.mod.kin hk (thn (ha.run pos pins s σ H _ I h) fun us s1 ⟨vs, H1, I1, r, q⟩ => ⟨I1.kIn, ?_⟩) hs hp
  exact wpAny_call (run_fnR (F.mono hj) hr (pass0 (X := X)) I1 r q)
theorem pe_fn0 (h : FnAt X.prog X.w X.K X.mg X.base x j sp) (hr : Room k X.A) (hj : j ≤ k) (hg : Gl X x) (hdb : (x == ("__debug__" : Str)) = false := by decide) : PE X (.Call (.Name x p) [] [] pos) (tFn sp tNil) := by
  obtain ⟨f, F, hm, hk⟩ := h.ex
  refine ⟨fun pins s σ H Q I h => ?_⟩
  refine wpAny_Call_Name_kw (ld_glob I hg hm ?_ hdb)
  refine PySem.W.callWith_K0 I.kIn hk ?_
  exact wpAny_call (run_fnR (us := []) (vs := []) (F.mono hj) hr (pass0 (X := X)) I .nil h)
end
section
variable {K : Frag} {C : Addr} {δ : Den} {d : DV} {ds : List DV} {t : TA} {ta : TE}
theorem ev_fn {F : List DV → DV → Prop} (h : EvA K C t δ ds) (hf : F ds d) : EvD K C (tFn (spD K C F) t) δ d := fun O σ H Q gd e q =>
  h O σ H _ gd e fun vs H1 e1 r1 => ⟨O, ds, d, gd.ex e1, hf, r1, fun v H2 e2 r2 => q v H2 (e1.trans e2) r2⟩
end
def startD (N : List Str) (ds : List DV) : Den := ds.map some ++ List.replicate (N.length - ds.length) none
section
variable {P : Program} {w : World} {K : Frag} {mg : Str → Option Value} {base : Heap} {C : Addr} {x qual : Str} {st : Stmt} {f : Addr} {fd : FuncData} {N ps : List Str} {k : Nat}
theorem env_start {O : Addr → Bool} {H : Hp} {vs : List V} {ds : List DV} (r : Reps K C (msk O H) vs ds) : EnvD K C O H (L2.start N vs) (startD N ds) := by
  have hl := r.len
  refine ⟨?_, fun i d h => ?_⟩
  · unfold L2.start startD
    rw [List.length_append, List.length_append, List.length_map, List.length_map, List.length_replicate, List.length_replicate, hl]
  · unfold L2.start startD at *
    by_cases hi : i < ds.length
    · rw [List.getElem?_append_left (by rw [List.length_map]; exact hi), List.getElem?_map] at h
      rw [List.getElem?_append_left (by rw [List.length_map, hl]; exact hi), List.getElem?_map]
      cases e : ds[i]? with
      | none => rw [e] at h; cases h
      | some d' =>
        rw [e] at h
        have ed : d' = d := Option.some.inj (Option.some.inj h)
        subst ed
        obtain ⟨v, h1, h2⟩ := r.get e
        exact ⟨v, by rw [h1]; rfl, h2⟩
    · rw [List.getElem?_append_right (by rw [List.length_map]; omega), List.getElem?_replicate] at h
      split at h <;> cases h
abbrev FnP (K : Frag) (x qual : Str) (st : Stmt) (f : Addr) (fd : FuncData) : Prop := FunD K x qual (defArgs st) (defBody st) (defScope st) [] [] f fd
/-- THE RULE for a def over data -/
theorem fnr_of (F : FnP K x qual st f fd) (S : FnScope N ps (defScope st)) (hb : ∀ (kV doc pm : Value) (an : Option Addr) (cdv ct : Value) (us : List Value), us.length = ps.length → bindArgs (PySem.W.fnOf x qual (defArgs st) (defBody st) (defScope st) .none kV doc pm an cdv ct) ⟨us, []⟩ = pure (ps.zip us))
    (G : List DV → DV → Prop) (hlen : ∀ ds d, G ds d → ds.length = ps.length)
    (hbody : ∀ (cdv : Value) (A : Around) (outer : List PySem.Env) (s : Shared) (H : Hp) (E : XK), Room k (A.deeper (envOfC qual (defScope st) s.heap.objs.size f cdv)) →
      ∃ t, PSs (cxOf CX0 P w K mg base N qual (defScope st) f cdv A outer s H E).nox (defBody st) t ∧ ∀ ds d, G ds d → StD K C t (startD N ds) (fun _ => d = .non) (fun r => r = d)) : FnR P w K mg base CX0 (k + 1) f (spD K C G) := by
  have ok : FnOk P w K mg base CX0 (k + 1) f fd ps (spD K C G) := by
    refine F.ok S (fun vs H Q E h => ?_) (fun cdv A outer s H vs Q E hr h => ?_)
    · obtain ⟨O, ds, d, _, hG, r, _⟩ := h
      rw [r.len]
      exact hlen ds d hG
    · obtain ⟨O, ds, d, gd, hG, r, q⟩ := h
      obtain ⟨t, ht, hs⟩ := hbody cdv A outer s H E hr
      refine ⟨t, ht.nox, hs ds d hG O _ H _ gd (env_start r) (fun δ' σ' H' n x _ => ?_) fun d' v H' e x r' => ?_⟩
      · subst n
        exact q .non H' x .non
      · subst e
        exact q v H' x r'
  have z := FnOk.raw ok (F.bindsN hb) .nil
  exact z.imp fun vs H Q E h => by rw [List.append_nil]; exact h
theorem fnat_of (hm : mg x = some (.ref f)) (F : FnP K x qual st f fd) {sp : Sp} {j : Nat} (h : FnR P w K mg base CX0 j f sp) : FnAt P w K mg base x j sp := ⟨f, h, hm, F.kp⟩
end
end Dt
set_option Elab.async false
set_option linter.all false
set_option maxRecDepth 100000
/-! The text by places, names by slots, what the top has left. Printed by gen.py. -/
namespace Dt
open PySem PySem.Spec PyProof.Rows L2
def top (i : Nat) : Stmt := PySem.Challenge.pw_allbutts_k70_whole_two_years_for_all_but.main.body.getD i (.Pass ⟨0, 0, 0, 0⟩)
abbrev s_bought_by_heap : Stmt := top 5
abbrev s_first_sums : Stmt := top 6
abbrev s_both_sums : Stmt := top 7
abbrev s_heap_against : Stmt := top 8
abbrev s_heap_within : Stmt := top 9
abbrev s_heap_compare : Stmt := top 10
abbrev s_bends : Stmt := top 11
abbrev s_most_over : Stmt := top 12
abbrev s_bought : Stmt := top 14
abbrev s_spilled : Stmt := top 15
abbrev s_never_more : Stmt := top 17
abbrev s_gap : Stmt := top 18
abbrev s_span_in : Stmt := top 19
abbrev s_spans_against : Stmt := top 20
abbrev s_against : Stmt := top 21
abbrev s_is_butt : Stmt := top 22
abbrev s_is_against : Stmt := top 23
abbrev s_never_more_between : Stmt := top 24
abbrev s_most_more : Stmt := top 25
abbrev s_most_more_butt : Stmt := top 26
abbrev s_alike : Stmt := top 27
abbrev s_compare : Stmt := top 28
abbrev s_spill_heap : Stmt := top 29
abbrev s_never_spills_more : Stmt := top 30
abbrev s_is_turn : Stmt := top 48
abbrev s_ring_of : Stmt := top 49
abbrev s_swings_of : Stmt := top 50
abbrev s_opposite : Stmt := top 51
abbrev s_scaled : Stmt := top 52
abbrev s_check_place : Stmt := top 55
abbrev s_put_in : Stmt := top 56
abbrev s_passed : Stmt := top 57
abbrev s_all_put : Stmt := top 58
abbrev s_best_place : Stmt := top 59
abbrev s_best_for_all : Stmt := top 60
abbrev s_worst_for_all : Stmt := top 61
abbrev s_passes : Stmt := top 62
abbrev s_swings : Stmt := top 65
abbrev s__law_box : Stmt := top 67
abbrev s__law_take : Stmt := top 68
abbrev s__law_cells : Stmt := top 69
abbrev s__law_of : Stmt := top 70
abbrev s__law_same : Stmt := top 71
abbrev s__law_runs : Stmt := top 72
abbrev s__law_walk : Stmt := top 73
abbrev s__law_long : Stmt := top 74
abbrev s__law_two : Stmt := top 75
abbrev s__law_sums : Stmt := top 76
abbrev s__law_two_right : Stmt := top 77
abbrev s__law_three_right : Stmt := top 78
abbrev s__law_put_right : Stmt := top 79
abbrev s__law_watch_right : Stmt := top 80
abbrev s__law_by_hand_right : Stmt := top 81
abbrev s__law_right : Stmt := top 82
abbrev s_law : Stmt := top 83
abbrev s_Year___init__ : Stmt := inClass (top 47) 1
abbrev s_Year_runs : Stmt := inClass (top 47) 3
abbrev s_Year_rain : Stmt := inClass (top 47) 4
abbrev s_Year_draws : Stmt := inClass (top 47) 5
abbrev s_Year_wants : Stmt := inClass (top 47) 6
abbrev s_Year_spare : Stmt := inClass (top 47) 7
abbrev s_Year_swings : Stmt := inClass (top 47) 8
abbrev s_Year_heap : Stmt := inClass (top 47) 9
abbrev s_Year___len__ : Stmt := inClass (top 47) 11
abbrev s_Year___eq__ : Stmt := inClass (top 47) 14
abbrev s_Watch___init__ : Stmt := inClass (top 63) 0
abbrev s_Watch_here : Stmt := inClass (top 63) 1
abbrev s_Watch_one : Stmt := inClass (top 63) 2
abbrev s_Watch_other : Stmt := inClass (top 63) 3
abbrev s_Watch_leads : Stmt := inClass (top 63) 4
abbrev s_Watch_year_of : Stmt := inClass (top 63) 5
abbrev s_Watch_become : Stmt := inClass (top 63) 6
abbrev s_Watch_put : Stmt := inClass (top 63) 7
abbrev s_Watch_exchange : Stmt := inClass (top 63) 9
abbrev s_Watch_back : Stmt := inClass (top 63) 10
theorem sc_bought_by_heap : FnScope ["heap", "butt", "wants", "swings", "swing"] ["heap", "butt"] (defScope s_bought_by_heap) := ⟨rfl, rfl, rfl, by decide +kernel, rfl, by decide +kernel, by decide +kernel⟩
theorem sc_first_sums : FnScope ["heap", "many", "wants", "swings", "number"] ["heap", "many"] (defScope s_first_sums) := ⟨rfl, rfl, rfl, by decide +kernel, rfl, by decide +kernel, by decide +kernel⟩
theorem sc_both_sums : FnScope ["one", "other", "many"] ["one", "other"] (defScope s_both_sums) := ⟨rfl, rfl, rfl, by decide +kernel, rfl, by decide +kernel, by decide +kernel⟩
theorem sc_heap_against : FnScope ["one", "other", "found", "number", "mine", "its"] ["one", "other"] (defScope s_heap_against) := ⟨rfl, rfl, rfl, by decide +kernel, rfl, by decide +kernel, by decide +kernel⟩
theorem sc_heap_within : FnScope ["one", "other"] ["one", "other"] (defScope s_heap_within) := ⟨rfl, rfl, rfl, by decide +kernel, rfl, by decide +kernel, by decide +kernel⟩
theorem sc_heap_compare : FnScope ["one", "other"] ["one", "other"] (defScope s_heap_compare) := ⟨rfl, rfl, rfl, by decide +kernel, rfl, by decide +kernel, by decide +kernel⟩
theorem sc_bends : FnScope ["one", "other"] ["one", "other"] (defScope s_bends) := ⟨rfl, rfl, rfl, by decide +kernel, rfl, by decide +kernel, by decide +kernel⟩
theorem sc_most_over : FnScope ["one", "other", "butt"] ["one", "other"] (defScope s_most_over) := ⟨rfl, rfl, rfl, by decide +kernel, rfl, by decide +kernel, by decide +kernel⟩
theorem sc_bought : FnScope ["year", "butt"] ["year", "butt"] (defScope s_bought) := ⟨rfl, rfl, rfl, by decide +kernel, rfl, by decide +kernel, by decide +kernel⟩
theorem sc_spilled : FnScope ["year", "butt"] ["year", "butt"] (defScope s_spilled) := ⟨rfl, rfl, rfl, by decide +kernel, rfl, by decide +kernel, by decide +kernel⟩
theorem sc_never_more : FnScope ["one", "other"] ["one", "other"] (defScope s_never_more) := ⟨rfl, rfl, rfl, by decide +kernel, rfl, by decide +kernel, by decide +kernel⟩
theorem sc_gap : FnScope ["one", "other", "butt"] ["one", "other", "butt"] (defScope s_gap) := ⟨rfl, rfl, rfl, by decide +kernel, rfl, by decide +kernel, by decide +kernel⟩
theorem sc_span_in : FnScope ["here", "there", "first", "last", "slope", "begin"] ["here", "there", "first", "last"] (defScope s_span_in) := ⟨rfl, rfl, rfl, by decide +kernel, rfl, by decide +kernel, by decide +kernel⟩
theorem sc_spans_against : FnScope ["one", "other", "butts", "gaps", "spans", "found", "span", "butt", "k", "own"] ["one", "other"] (defScope s_spans_against) := ⟨rfl, rfl, rfl, by decide +kernel, rfl, by decide +kernel, by decide +kernel⟩
theorem sc_against : FnScope ["one", "other", "spans"] ["one", "other"] (defScope s_against) := ⟨rfl, rfl, rfl, by decide +kernel, rfl, by decide +kernel, by decide +kernel⟩
theorem sc_is_butt : FnScope ["thing"] ["thing"] (defScope s_is_butt) := ⟨rfl, rfl, rfl, by decide +kernel, rfl, by decide +kernel, by decide +kernel⟩
theorem sc_is_against : FnScope ["one", "other", "thing"] ["one", "other", "thing"] (defScope s_is_against) := ⟨rfl, rfl, rfl, by decide +kernel, rfl, by decide +kernel, by decide +kernel⟩
theorem sc_never_more_between : FnScope ["one", "other", "least", "most", "first", "last"] ["one", "other", "least", "most"] (defScope s_never_more_between) := ⟨rfl, rfl, rfl, by decide +kernel, rfl, by decide +kernel, by decide +kernel⟩
theorem sc_most_more : FnScope ["one", "other"] ["one", "other"] (defScope s_most_more) := ⟨rfl, rfl, rfl, by decide +kernel, rfl, by decide +kernel, by decide +kernel⟩
theorem sc_most_more_butt : FnScope ["one", "other", "most", "butt"] ["one", "other"] (defScope s_most_more_butt) := ⟨rfl, rfl, rfl, by decide +kernel, rfl, by decide +kernel, by decide +kernel⟩
theorem sc_alike : FnScope ["one", "other"] ["one", "other"] (defScope s_alike) := ⟨rfl, rfl, rfl, by decide +kernel, rfl, by decide +kernel, by decide +kernel⟩
theorem sc_compare : FnScope ["one", "other"] ["one", "other"] (defScope s_compare) := ⟨rfl, rfl, rfl, by decide +kernel, rfl, by decide +kernel, by decide +kernel⟩
theorem sc_spill_heap : FnScope ["year"] ["year"] (defScope s_spill_heap) := ⟨rfl, rfl, rfl, by decide +kernel, rfl, by decide +kernel, by decide +kernel⟩
theorem sc_never_spills_more : FnScope ["one", "other"] ["one", "other"] (defScope s_never_spills_more) := ⟨rfl, rfl, rfl, by decide +kernel, rfl, by decide +kernel, by decide +kernel⟩
theorem sc_is_turn : FnScope ["runs", "place"] ["runs", "place"] (defScope s_is_turn) := ⟨rfl, rfl, rfl, by decide +kernel, rfl, by decide +kernel, by decide +kernel⟩
theorem sc_ring_of : FnScope ["runs", "turns", "around", "found", "run", "place"] ["runs"] (defScope s_ring_of) := ⟨rfl, rfl, rfl, by decide +kernel, rfl, by decide +kernel, by decide +kernel⟩
theorem sc_swings_of : FnScope ["runs", "left", "found", "sizes", "place", "around", "run"] ["runs"] (defScope s_swings_of) := ⟨rfl, rfl, rfl, by decide +kernel, rfl, by decide +kernel, by decide +kernel⟩
theorem sc_opposite : FnScope ["year", "run"] ["year"] (defScope s_opposite) := ⟨rfl, rfl, rfl, by decide +kernel, rfl, by decide +kernel, by decide +kernel⟩
theorem sc_scaled : FnScope ["year", "number", "run"] ["year", "number"] (defScope s_scaled) := ⟨rfl, rfl, rfl, by decide +kernel, rfl, by decide +kernel, by decide +kernel⟩
theorem sc_check_place : FnScope ["year", "place"] ["year", "place"] (defScope s_check_place) := ⟨rfl, rfl, rfl, by decide +kernel, rfl, by decide +kernel, by decide +kernel⟩
theorem sc_put_in : FnScope ["year", "place", "run"] ["year", "place", "run"] (defScope s_put_in) := ⟨rfl, rfl, rfl, by decide +kernel, rfl, by decide +kernel, by decide +kernel⟩
theorem sc_passed : FnScope ["year", "place", "runs", "later"] ["year", "place"] (defScope s_passed) := ⟨rfl, rfl, rfl, by decide +kernel, rfl, by decide +kernel, by decide +kernel⟩
theorem sc_all_put : FnScope ["year", "run", "place"] ["year", "run"] (defScope s_all_put) := ⟨rfl, rfl, rfl, by decide +kernel, rfl, by decide +kernel, by decide +kernel⟩
theorem sc_best_place : FnScope ["year", "run", "butt", "numbers", "own"] ["year", "run", "butt"] (defScope s_best_place) := ⟨rfl, rfl, rfl, by decide +kernel, rfl, by decide +kernel, by decide +kernel⟩
theorem sc_best_for_all : FnScope ["year", "run", "some", "found", "place", "own", "other"] ["year", "run"] (defScope s_best_for_all) := ⟨rfl, rfl, rfl, by decide +kernel, rfl, by decide +kernel, by decide +kernel⟩
theorem sc_worst_for_all : FnScope ["year", "run", "some", "found", "place", "own", "other"] ["year", "run"] (defScope s_worst_for_all) := ⟨rfl, rfl, rfl, by decide +kernel, rfl, by decide +kernel, by decide +kernel⟩
theorem sc_passes : FnScope ["year", "butt", "now", "place"] ["year", "butt"] (defScope s_passes) := ⟨rfl, rfl, rfl, by decide +kernel, rfl, by decide +kernel, by decide +kernel⟩
theorem sc_swings : FnScope ["year"] ["year"] (defScope s_swings) := ⟨rfl, rfl, rfl, by decide +kernel, rfl, by decide +kernel, by decide +kernel⟩
theorem sc__law_box : FnScope ["_law_script", "_law_k", "_law_cell"] ["_law_script", "_law_k"] (defScope s__law_box) := ⟨rfl, rfl, rfl, by decide +kernel, rfl, by decide +kernel, by decide +kernel⟩
theorem sc__law_take : FnScope ["_law_box_here", "_law_size_so", "_law_drawn_so", "_law_once", "_law_far", "_law_again"] ["_law_box_here", "_law_size_so"] (defScope s__law_take) := ⟨rfl, rfl, rfl, by decide +kernel, rfl, by decide +kernel, by decide +kernel⟩
theorem sc__law_cells : FnScope ["_law_script", "_law_top_so", "_law_cells_so", "_law_k", "_law_cell", "_law_at_so"] ["_law_script", "_law_top_so"] (defScope s__law_cells) := ⟨rfl, rfl, rfl, by decide +kernel, rfl, by decide +kernel, by decide +kernel⟩
theorem sc__law_of : FnScope ["_law_box_here", "_law_goods_so"] ["_law_box_here", "_law_goods_so"] (defScope s__law_of) := ⟨rfl, rfl, rfl, by decide +kernel, rfl, by decide +kernel, by decide +kernel⟩
theorem sc__law_same : FnScope ["_law_got", "_law_due", "_law_alike_so", "_law_mine", "_law_its"] ["_law_got", "_law_due"] (defScope s__law_same) := ⟨rfl, rfl, rfl, by decide +kernel, rfl, by decide +kernel, by decide +kernel⟩
theorem sc__law_runs : FnScope ["_law_box_here", "_law_many_so", "_law_most_so", "_law_found", "_law_lean_so", "_law_turn", "_law_sign_so"] ["_law_box_here", "_law_many_so", "_law_most_so"] (defScope s__law_runs) := ⟨rfl, rfl, rfl, by decide +kernel, rfl, by decide +kernel, by decide +kernel⟩
theorem sc__law_walk : FnScope ["_law_runs_so", "_law_size_so", "_law_here_so", "_law_dear_so", "_law_lost_so", "_law_far"] ["_law_runs_so", "_law_size_so", "_law_here_so"] (defScope s__law_walk) := ⟨rfl, rfl, rfl, by decide +kernel, rfl, by decide +kernel, by decide +kernel⟩
theorem sc__law_long : FnScope ["_law_runs_so", "_law_size_so", "_law_here_so", "_law_told_so", "_law_turn", "_law_dear_so", "_law_lost_so"] ["_law_runs_so", "_law_size_so"] (defScope s__law_long) := ⟨rfl, rfl, rfl, by decide +kernel, rfl, by decide +kernel, by decide +kernel⟩
theorem sc__law_two : FnScope ["_law_box_here", "_law_most_so", "_law_mine", "_law_its", "_law_sort_so", "_law_k"] ["_law_box_here"] (defScope s__law_two) := ⟨rfl, rfl, rfl, by decide +kernel, rfl, by decide +kernel, by decide +kernel⟩
theorem sc__law_sums : FnScope ["_law_host", "_law_many_so", "_law_k"] ["_law_host", "_law_many_so"] (defScope s__law_sums) := ⟨rfl, rfl, rfl, by decide +kernel, rfl, by decide +kernel, by decide +kernel⟩
theorem sc__law_two_right : FnScope ["_law_host", "_law_mate", "_law_many_so", "_law_one_so", "_law_two_so", "_law_fine_so", "_law_told", "_law_spans_so", "_law_high", "_law_got", "_law_first_so", "_law_last_so", "_law_ends_so", "_law_spot", "_law_word", "_law_k", "_law_far"] ["_law_host", "_law_mate"] (defScope s__law_two_right) := ⟨rfl, rfl, rfl, by decide +kernel, rfl, by decide +kernel, by decide +kernel⟩
theorem sc__law_three_right : FnScope ["_law_host", "_law_mate", "_law_third_so", "_law_one_so", "_law_two_so", "_law_got", "_law_due"] ["_law_host", "_law_mate", "_law_third_so"] (defScope s__law_three_right) := ⟨rfl, rfl, rfl, by decide +kernel, rfl, by decide +kernel, by decide +kernel⟩
theorem sc__law_put_right : FnScope ["_law_host", "_law_run_so", "_law_size_so", "_law_some_so", "_law_low", "_law_high", "_law_told", "_law_now_so", "_law_k", "_law_own"] ["_law_host", "_law_run_so", "_law_size_so"] (defScope s__law_put_right) := ⟨rfl, rfl, rfl, by decide +kernel, rfl, by decide +kernel, by decide +kernel⟩
theorem sc__law_watch_right : FnScope ["_law_box_here", "_law_host", "_law_mate", "_law_eyes", "_law_rows_so", "_law_turn", "_law_side_so", "_law_run_so", "_law_own", "_law_spot", "_law_got", "_law_due", "_law_row_so"] ["_law_box_here", "_law_host", "_law_mate"] (defScope s__law_watch_right) := ⟨rfl, rfl, rfl, by decide +kernel, rfl, by decide +kernel, by decide +kernel⟩
theorem sc__law_by_hand_right : FnScope ["_law_great", "_law_rows_so", "_law_hosts_so", "_law_host", "_law_one_so", "_law_two_so", "_law_got", "_law_own", "_law_mate", "_law_far"] [] (defScope s__law_by_hand_right) := ⟨rfl, rfl, rfl, by decide +kernel, rfl, by decide +kernel, by decide +kernel⟩
theorem sc__law_right : FnScope ["_law_box_here", "_law_turn", "_law_mine", "_law_its", "_law_host", "_law_mate", "_law_third_so"] ["_law_box_here"] (defScope s__law_right) := ⟨rfl, rfl, rfl, by decide +kernel, rfl, by decide +kernel, by decide +kernel⟩
theorem sc_law : FnScope ["_law_script", "_law_cells_here", "_law_k"] ["_law_script"] (defScope s_law) := ⟨rfl, rfl, rfl, by decide +kernel, rfl, by decide +kernel, by decide +kernel⟩
theorem sc_Year___init__ : FnScope ["self", "runs", "place", "run"] ["self", "runs"] (defScope s_Year___init__) := ⟨rfl, rfl, rfl, by decide +kernel, rfl, by decide +kernel, by decide +kernel⟩
theorem sc_Year_runs : FnScope ["self"] ["self"] (defScope s_Year_runs) := ⟨rfl, rfl, rfl, by decide +kernel, rfl, by decide +kernel, by decide +kernel⟩
theorem sc_Year_rain : FnScope ["self", "run"] ["self"] (defScope s_Year_rain) := ⟨rfl, rfl, rfl, by decide +kernel, rfl, by decide +kernel, by decide +kernel⟩
theorem sc_Year_draws : FnScope ["self", "run"] ["self"] (defScope s_Year_draws) := ⟨rfl, rfl, rfl, by decide +kernel, rfl, by decide +kernel, by decide +kernel⟩
theorem sc_Year_wants : FnScope ["self"] ["self"] (defScope s_Year_wants) := ⟨rfl, rfl, rfl, by decide +kernel, rfl, by decide +kernel, by decide +kernel⟩
theorem sc_Year_spare : FnScope ["self"] ["self"] (defScope s_Year_spare) := ⟨rfl, rfl, rfl, by decide +kernel, rfl, by decide +kernel, by decide +kernel⟩
theorem sc_Year_swings : FnScope ["self"] ["self"] (defScope s_Year_swings) := ⟨rfl, rfl, rfl, by decide +kernel, rfl, by decide +kernel, by decide +kernel⟩
theorem sc_Year_heap : FnScope ["self"] ["self"] (defScope s_Year_heap) := ⟨rfl, rfl, rfl, by decide +kernel, rfl, by decide +kernel, by decide +kernel⟩
theorem sc_Year___len__ : FnScope ["self"] ["self"] (defScope s_Year___len__) := ⟨rfl, rfl, rfl, by decide +kernel, rfl, by decide +kernel, by decide +kernel⟩
theorem sc_Year___eq__ : FnScope ["self", "other"] ["self", "other"] (defScope s_Year___eq__) := ⟨rfl, rfl, rfl, by decide +kernel, rfl, by decide +kernel, by decide +kernel⟩
theorem sc_Watch___init__ : FnScope ["self", "one", "other"] ["self", "one", "other"] (defScope s_Watch___init__) := ⟨rfl, rfl, rfl, by decide +kernel, rfl, by decide +kernel, by decide +kernel⟩
theorem sc_Watch_here : FnScope ["self"] ["self"] (defScope s_Watch_here) := ⟨rfl, rfl, rfl, by decide +kernel, rfl, by decide +kernel, by decide +kernel⟩
theorem sc_Watch_one : FnScope ["self"] ["self"] (defScope s_Watch_one) := ⟨rfl, rfl, rfl, by decide +kernel, rfl, by decide +kernel, by decide +kernel⟩
theorem sc_Watch_other : FnScope ["self"] ["self"] (defScope s_Watch_other) := ⟨rfl, rfl, rfl, by decide +kernel, rfl, by decide +kernel, by decide +kernel⟩
theorem sc_Watch_leads : FnScope ["self", "row"] ["self"] (defScope s_Watch_leads) := ⟨rfl, rfl, rfl, by decide +kernel, rfl, by decide +kernel, by decide +kernel⟩
theorem sc_Watch_year_of : FnScope ["self", "side"] ["self", "side"] (defScope s_Watch_year_of) := ⟨rfl, rfl, rfl, by decide +kernel, rfl, by decide +kernel, by decide +kernel⟩
theorem sc_Watch_become : FnScope ["self", "side", "year", "one", "other"] ["self", "side", "year"] (defScope s_Watch_become) := ⟨rfl, rfl, rfl, by decide +kernel, rfl, by decide +kernel, by decide +kernel⟩
theorem sc_Watch_put : FnScope ["self", "side", "place", "run"] ["self", "side", "place", "run"] (defScope s_Watch_put) := ⟨rfl, rfl, rfl, by decide +kernel, rfl, by decide +kernel, by decide +kernel⟩
theorem sc_Watch_exchange : FnScope ["self", "side", "place"] ["self", "side", "place"] (defScope s_Watch_exchange) := ⟨rfl, rfl, rfl, by decide +kernel, rfl, by decide +kernel, by decide +kernel⟩
theorem sc_Watch_back : FnScope ["self"] ["self"] (defScope s_Watch_back) := ⟨rfl, rfl, rfl, by decide +kernel, rfl, by decide +kernel, by decide +kernel⟩
theorem bb_len : bootBuiltins "len" = some (.builtin "len") := by decide +kernel
theorem bb_sum : bootBuiltins "sum" = some (.builtin "sum") := by decide +kernel
theorem bb_max : bootBuiltins "max" = some (.builtin "max") := by decide +kernel
theorem bb_min : bootBuiltins "min" = some (.builtin "min") := by decide +kernel
theorem bb_any : bootBuiltins "any" = some (.builtin "any") := by decide +kernel
theorem bb_all : bootBuiltins "all" = some (.builtin "all") := by decide +kernel
theorem bb_abs : bootBuiltins "abs" = some (.builtin "abs") := by decide +kernel
theorem bb_int : bootBuiltins "int" = some (.type "int") := by decide +kernel
theorem bb_list : bootBuiltins "list" = some (.type "list") := by decide +kernel
theorem bb_tuple : bootBuiltins "tuple" = some (.type "tuple") := by decide +kernel
theorem bb_sorted : bootBuiltins "sorted" = some (.builtin "sorted") := by decide +kernel
theorem bb_set : bootBuiltins "set" = some (.type "set") := by decide +kernel
theorem bb_isinstance : bootBuiltins "isinstance" = some (.builtin "isinstance") := by decide +kernel
theorem bb_zip : bootBuiltins "zip" = some (.type "zip") := by decide +kernel
theorem bb_range : bootBuiltins "range" = some (.type "range") := by decide +kernel
theorem bb_enumerate : bootBuiltins "enumerate" = some (.type "enumerate") := by decide +kernel
theorem bb_bool : bootBuiltins "bool" = some (.type "bool") := by decide +kernel
theorem bb_str : bootBuiltins "str" = some (.type "str") := by decide +kernel
/-- a def of the text where it stands -/
def At (K : Frag) (mg : Str → Option Value) (x : Str) (st : Stmt) : Prop := ∃ (f : Addr) (fd : FuncData), FnP K x x st f fd ∧ mg x = some (.ref f)
/-- a property of the class at C: its getter a def of the text -/
def PrAt (K : Frag) (C : Addr) (f qual : Str) (st : Stmt) : Prop := ∃ (p g : Addr) (fd : FuncData), PySem.W.findIn K (.ref C) f = some (some (.ref p)) ∧ PySem.W.specialIn K (.ref p) "__get__" = some (some (.builtin "property.__get__")) ∧ PySem.W.takesIn K (.ref p) = some true ∧
  (∃ rest, PySem.W.recIn K p "property" = some (.ref g :: rest)) ∧ FnP K f qual st g fd
/-- a method of the class at C -/
def MeAt (K : Frag) (C : Addr) (m qual : Str) (st : Stmt) : Prop := ∃ (g : Addr) (fd : FuncData), Meth K C m g ∧ FnP K m qual st g fd
/-- what the walk asks of the top: C the class Year, D the class Watch -/
structure Loc (K : Frag) (mg : Str → Option Value) (C D : Addr) : Prop where
  l_bought_by_heap : At K mg "bought_by_heap" s_bought_by_heap
  l_first_sums : At K mg "first_sums" s_first_sums
  l_both_sums : At K mg "both_sums" s_both_sums
  l_heap_against : At K mg "heap_against" s_heap_against
  l_heap_within : At K mg "heap_within" s_heap_within
  l_heap_compare : At K mg "heap_compare" s_heap_compare
  l_bends : At K mg "bends" s_bends
  l_most_over : At K mg "most_over" s_most_over
  l_bought : At K mg "bought" s_bought
  l_spilled : At K mg "spilled" s_spilled
  l_never_more : At K mg "never_more" s_never_more
  l_gap : At K mg "gap" s_gap
  l_span_in : At K mg "span_in" s_span_in
  l_spans_against : At K mg "spans_against" s_spans_against
  l_against : At K mg "against" s_against
  l_is_butt : At K mg "is_butt" s_is_butt
  l_is_against : At K mg "is_against" s_is_against
  l_never_more_between : At K mg "never_more_between" s_never_more_between
  l_most_more : At K mg "most_more" s_most_more
  l_most_more_butt : At K mg "most_more_butt" s_most_more_butt
  l_alike : At K mg "alike" s_alike
  l_compare : At K mg "compare" s_compare
  l_spill_heap : At K mg "spill_heap" s_spill_heap
  l_never_spills_more : At K mg "never_spills_more" s_never_spills_more
  l_is_turn : At K mg "is_turn" s_is_turn
  l_ring_of : At K mg "ring_of" s_ring_of
  l_swings_of : At K mg "swings_of" s_swings_of
  l_opposite : At K mg "opposite" s_opposite
  l_scaled : At K mg "scaled" s_scaled
  l_check_place : At K mg "check_place" s_check_place
  l_put_in : At K mg "put_in" s_put_in
  l_passed : At K mg "passed" s_passed
  l_all_put : At K mg "all_put" s_all_put
  l_best_place : At K mg "best_place" s_best_place
  l_best_for_all : At K mg "best_for_all" s_best_for_all
  l_worst_for_all : At K mg "worst_for_all" s_worst_for_all
  l_passes : At K mg "passes" s_passes
  l_swings : At K mg "swings" s_swings
  l__law_box : At K mg "_law_box" s__law_box
  l__law_take : At K mg "_law_take" s__law_take
  l__law_cells : At K mg "_law_cells" s__law_cells
  l__law_of : At K mg "_law_of" s__law_of
  l__law_same : At K mg "_law_same" s__law_same
  l__law_runs : At K mg "_law_runs" s__law_runs
  l__law_walk : At K mg "_law_walk" s__law_walk
  l__law_long : At K mg "_law_long" s__law_long
  l__law_two : At K mg "_law_two" s__law_two
  l__law_sums : At K mg "_law_sums" s__law_sums
  l__law_two_right : At K mg "_law_two_right" s__law_two_right
  l__law_three_right : At K mg "_law_three_right" s__law_three_right
  l__law_put_right : At K mg "_law_put_right" s__law_put_right
  l__law_watch_right : At K mg "_law_watch_right" s__law_watch_right
  l__law_by_hand_right : At K mg "_law_by_hand_right" s__law_by_hand_right
  l__law_right : At K mg "_law_right" s__law_right
  l_law : At K mg "law" s_law
  b_len : mg "len" = none
  b_sum : mg "sum" = none
  b_max : mg "max" = none
  b_min : mg "min" = none
  b_any : mg "any" = none
  b_all : mg "all" = none
  b_abs : mg "abs" = none
  b_int : mg "int" = none
  b_list : mg "list" = none
  b_tuple : mg "tuple" = none
  b_sorted : mg "sorted" = none
  b_set : mg "set" = none
  b_isinstance : mg "isinstance" = none
  b_zip : mg "zip" = none
  b_range : mg "range" = none
  b_enumerate : mg "enumerate" = none
  b_bool : mg "bool" = none
  b_str : mg "str" = none
  c_PAIR : ∃ t, mg "PAIR" = some (.int 2 t)
  c_ONE : ∃ t, mg "ONE" = some (.str "one" t)
  mgY : mg "Year" = some (.ref C)
  ycls : SlX.SCls K C
  yisi : SlX.SIsi K C
  ykit : PySem.W.kitOne K (.ref C) (.ref C) = some true
  y_s0 : ∃ p, SlX.Slot1 K C "own_runs" p 0
  y_s1 : ∃ p, SlX.Slot1 K C "own_swings" p 1
  y_mk : ∃ (f : Addr) (fd : FuncData), Mk K C f ∧ FnP K "__init__" "Year.__init__" s_Year___init__ f fd
  y_runs : PrAt K C "runs" "Year.runs" s_Year_runs
  y_rain : PrAt K C "rain" "Year.rain" s_Year_rain
  y_draws : PrAt K C "draws" "Year.draws" s_Year_draws
  y_wants : PrAt K C "wants" "Year.wants" s_Year_wants
  y_spare : PrAt K C "spare" "Year.spare" s_Year_spare
  y_swings : PrAt K C "swings" "Year.swings" s_Year_swings
  y_heap : PrAt K C "heap" "Year.heap" s_Year_heap
  y_len : MeAt K C "__len__" "Year.__len__" s_Year___len__
  y_eq : MeAt K C "__eq__" "Year.__eq__" s_Year___eq__
  y_ne : PySem.W.findIn K (.ref C) "__ne__" = some (some (.builtin "object.__ne__"))
  y_nf : PySem.W.notFirst K C (.ref C) = true
  mgW : mg "Watch" = some (.ref D)
  wcls : Cls K D
  w_n1 : NoAttr K D "own_first"
  w_n2 : NoAttr K D "own_rows"
  w_mk : ∃ (f : Addr) (fd : FuncData), Mk K D f ∧ FnP K "__init__" "Watch.__init__" s_Watch___init__ f fd
  w_one : PrAt K D "one" "Watch.one" s_Watch_one
  w_other : PrAt K D "other" "Watch.other" s_Watch_other
  w_leads : PrAt K D "leads" "Watch.leads" s_Watch_leads
  w_here : MeAt K D "here" "Watch.here" s_Watch_here
  w_year_of : MeAt K D "year_of" "Watch.year_of" s_Watch_year_of
  w_become : MeAt K D "become" "Watch.become" s_Watch_become
  w_put : MeAt K D "put" "Watch.put" s_Watch_put
  w_exchange : MeAt K D "exchange" "Watch.exchange" s_Watch_exchange
  w_back : MeAt K D "back" "Watch.back" s_Watch_back
end Dt
set_option Elab.async false
set_option linter.all false
set_option maxRecDepth 100000
set_option maxHeartbeats 4000000
/-! Further rules of the machine: sum of a tuple, enumerate of a tuple. -/
namespace Dt
open PySem PySem.Spec PyProof.Rows L2
/-! ### sum of a tuple of ints -/
section
variable {prog : Program} {w : World} {A : Around} {E : Value → Shared → Prop} {s : Shared} {l : Addr} {xs : Array (Int × Tok)}
theorem sum_tupleG {Q : Value → Shared → Prop} (hh : A.handled = none) (hl : s.heap.IsTuple l (intItems xs))
    (h : ∀ h' tk t', (∀ b o, s.heap.get? b = some o → h'.get? b = some o) → Q (.int (preSum (numAt xs) xs.size) t') { s with heap := h', toks := tk }) :
    wpAny (model prog w) A (call (.builtin "sum") [.ref l]) Q E s := by
  have hlt : l < s.heap.objs.size := by obtain ⟨o, e, _⟩ := hl; exact Heap.lt_size e
  refine call_sum_walkG (wpAny_pyIter_tuple hl ?_)
  refine ⟨_, [_, l], [_], _, _, _, numAt xs, rfl, Walks.tuple (A := A.in1) hh _ l (Nat.ne_of_lt hlt) (intItems xs), ⟨⟨_, Heap.get?_push_size _ rfl, rfl, rfl⟩, hl.push _⟩, fun c hc => ?_, (fun _ _ => intItems_at), fun h' tk t' hk => ?_⟩
  · show c < (s.heap.push _).objs.size
    rw [Heap.size_push]
    rcases List.mem_cons.mp hc with rfl | hc
    · exact Nat.lt_succ_self _
    · rw [List.mem_singleton.mp hc]
      exact Nat.lt_succ_of_lt hlt
  · have := h h' tk t' (fun b o e => hk b o (fun z => by rw [List.mem_singleton.mp z] at e; exact absurd (Heap.lt_size e) (Nat.lt_irrefl _)) (Heap.get?_push_of_some _ e))
    simpa [intItems] using this
theorem sum_rawT {its : List Value} {ns : List Int} {Q : Value → Shared → Prop} (hh : A.handled = none) (hl : s.heap.IsTuple l its.toArray) (hi : IntsAre its ns)
    (h : ∀ h' tk t', (∀ b o, s.heap.get? b = some o → h'.get? b = some o) → Q (.int ns.sum t') { s with heap := h', toks := tk }) : wpAny (model prog w) A (call (.builtin "sum") [.ref l]) Q E s := by
  obtain ⟨xs, e⟩ := hi.allInts.items
  have hn : numsOf (intItems xs).toList = ns := by rw [← e]; exact hi.numsOf
  rw [nums_intItems] at hn
  rw [e] at hl
  refine sum_tupleG hh hl fun h' tk t' hk => ?_
  have := h h' tk t' hk
  rw [preSum_eq, List.take_of_length_le (by simp), hn]; exact this
end
def rSumT (K : Frag) : List V → Hp → VK → Prop := fun vs H Q => ∃ (a : Addr) (ns : List Int), vs = [V.ref a] ∧ SqT K H a (ns.map V.int) ∧ Q (.int ns.sum) H
theorem cr_sumT {X : Cx} (hc : X.calm = true) : CallR X (.builtin "sum") (rSumT X.K) := by
  intro pins s σ H vs us Q I r h
  obtain ⟨a, ns, rfl, hs, q⟩ := h
  obtain ⟨its, rv, hl, _⟩ := I.tuple hs
  rw [Vals.ref1 r]
  exact sum_rawT (I.ok.hd hc) hl rv.ints fun h' tk t' hk => ⟨.int _, H, I.kept hk, ⟨_, rfl⟩, q⟩
/-! ### enumerate of a tuple -/
theorem meets_enumerate_newT (l : Addr) (items : Array Value) (n : Nat) (dct : Option Addr) (sl : Array (Option Value)) :
    Meets (Builtin.«enumerate.__new__» ⟨[.type "enumerate", .ref l], []⟩) (fun _ R s => s.heap.get? l = some { cls := .type "tuple", dict := dct, data := .seq items n, slots := sl } ∧
      R (.ok (.ret (.ref (s.heap.push { cls := .type "tuple_iterator", data := .fields #[.ref l, .int 0 0] }).objs.size)))
        { s with heap := (s.heap.push { cls := .type "tuple_iterator", data := .fields #[.ref l, .int 0 0] }).push { cls := .type "enumerate", data := .fields #[.none, .bool false, .ref s.heap.objs.size, rawInt 0, .none, .none] } }) :=
  .of_wp fun prog w A R s h => by
    obtain ⟨hp, g, d, tk, os⟩ := s; obtain ⟨hl, h⟩ := h
    have hsub := sub_enumerate
    have hL : Heap.IsTuple (Shared.heap ⟨hp, g, d, tk, os⟩) l items := ⟨_, hl, rfl, n, rfl⟩
    wp_walk using AutoSeq1.wpAny_loadPart' hl
    refine wpAny_stack_any fun st => wpAny_pure ?_
    split
    · rename_i c _ _ _ _ _
      cases (c == Value.type "enumerate")
      · wp_walk using AutoSeq1.wpAny_loadPart' hl, wpAny_pyIter_tuple hL
        exact ⟨_, rfl, h⟩
      · wp_walk using AutoSeq1.wpAny_loadPart' hl, wpAny_pyIter_tuple hL
        exact ⟨_, rfl, h⟩
    · wp_walk using AutoSeq1.wpAny_loadPart' hl, wpAny_pyIter_tuple hL
      exact ⟨_, rfl, h⟩
theorem call_enumerate_tuple {prog : Program} {w : World} {A : Around} {E : Value → Shared → Prop} {s : Shared} {l : Addr} {items : Array Value} {Q : Value → Shared → Prop} (hL : s.heap.IsTuple l items)
    (h : ∀ h', IsEnum h' (s.heap.objs.size + 1) s.heap.objs.size 0 .none → h'.IsTupleIter s.heap.objs.size l 0 → h'.objs.size = s.heap.objs.size + 2 →
      (∀ b o, s.heap.get? b = some o → h'.get? b = some o) → Q (.ref (s.heap.objs.size + 1)) { s with heap := h' }) :
    wpAny (model prog w) A (call (.type "enumerate") [.ref l]) Q E s := by
  obtain ⟨⟨c, dct, dt, sl⟩, hl, hc, n, hd⟩ := hL
  replace hc : c = .type "tuple" := hc
  replace hd : dt = .seq items n := hd
  subst hc hd
  refine callType_new F.called_enumerate (by decide) (F.typeCall_enumerate_1 _) (F.newCall_enumerate_1 _) (fun obj => F.args_object_init_2 obj _) F.entry_enumerate_new
    (meets_enumerate_newT l items n dct sl) ⟨hl, ?_⟩
  have hz : (s.heap.push { cls := .type "tuple_iterator", data := .fields #[.ref l, .int 0 0] }).objs.size = s.heap.objs.size + 1 := Heap.size_push ..
  show _ ∧ _
  rw [hz]
  have he : IsEnum ((s.heap.push { cls := .type "tuple_iterator", data := .fields #[.ref l, .int 0 0] }).push
      { cls := .type "enumerate", data := .fields #[.none, .bool false, .ref s.heap.objs.size, rawInt 0, .none, .none] }) (s.heap.objs.size + 1) s.heap.objs.size 0 .none := by
    have := Heap.get?_push_size (s.heap.push { cls := .type "tuple_iterator", data := .fields #[.ref l, .int 0 0] })
      (o := { cls := .type "enumerate", data := .fields #[.none, .bool false, .ref s.heap.objs.size, rawInt 0, .none, .none] }) rfl
    rw [hz] at this; exact this
  refine ⟨⟨_, he, rfl⟩, h _ he ⟨_, Heap.get?_push_of_some _ (Heap.get?_push_size _ rfl), rfl, rfl⟩ (by rw [Heap.size_push, hz]) fun b o x => Heap.get?_push_of_some _ (Heap.get?_push_of_some _ x)⟩
def IteT (K : Frag) (a : Addr) : It :=
  ⟨fun i H => ∃ (xs : List V) (x : V), SqT K H a xs ∧ xs[i]? = some x, fun i H v H' => ∃ T x, v = .ref T ∧ H T = none ∧ H' = upd H T (.tup [.int (i : Nat), x]) ∧ ∀ xs, SqT K H a xs → xs[i]? = some x, fun i H => ∃ xs : List V, SqT K H a xs ∧ xs.length ≤ i⟩
theorem turn_enumT {P : Program} {w : World} {K : Frag} {elts : List Expr} {kk : Nat} {tpos : Pos} (a e it : Addr) :
    Turn P w K (.Tuple elts kk tpos) (IteT K a) [e, it] e (fun i h => (∃ old, IsEnum h e it ((i : Nat) : Int) old) ∧ h.IsTupleIter it a i ∧ e ≠ it ∧ e ≠ a ∧ a ≠ it) where
  mem := by simp
  obj := fun i h st b hb => by
    obtain ⟨⟨old, he⟩, ⟨o, ho, hc, hd⟩, _⟩ := st
    have e' : b = e ∨ b = it := by simpa using hb
    rcases e' with z | z
    · rw [z]; exact ⟨_, he, fun v q => nomatch q⟩
    · rw [z]; exact ⟨o, ho, fun v q => by rw [hd] at q; cases q⟩
  keep := fun i h h' st k => let ⟨⟨old, he⟩, hi, hne⟩ := st; ⟨⟨old, k e (by simp) _ he⟩, hi.at fun o q => k it (by simp) o q, hne⟩
  item := by
    intro X hP hw hK hc i pins s σ H E I hf st hg
    subst hP hw hK
    obtain ⟨⟨old, he⟩, hit, hne, hea, hai⟩ := st
    obtain ⟨xs, x, hq, hx⟩ := hg
    obtain ⟨its, rv, p, hz⟩ := I.tuple hq
    obtain ⟨u, hu, ru⟩ := rv.get hx
    have hel : e < s.heap.objs.size := Heap.lt_size he
    have hil : it < s.heap.objs.size := by obtain ⟨_, q, _⟩ := hit; exact Heap.lt_size q
    have hlt : i < its.toArray.size := by
      have := (List.getElem?_eq_some_iff.mp hu).1
      simpa using this
    refine wpAny_pyNext_enum_itemC (Draws.tuple (A := X.A.in1) (I.ok.hd hc) it a hai its.toArray) he ⟨hit, p⟩ hlt hne (by simp [hne, hea]) fun y h' tk hy ho hst hT hsz hk => ?_
    have ey : y = u := by
      have : its.toArray[i]? = some u := by simpa using hu
      rw [this] at hy
      exact (Option.some.inj hy).symm
    subst ey
    refine ⟨_, rfl, wpAny_letOwnedTupleGo_enum (s := { s with heap := h', toks := tk + 1 }) ho fun h'' he' sb => ?_⟩
    have hT2 : h''.get? s.heap.objs.size = some { cls := .type "tuple", data := .seq #[.int i tk, y] } := (sb.2 _ (Nat.ne_of_gt hel)).trans hT
    have new : ObjOk X.prog X.w (upd H s.heap.objs.size (.tup [.int (i : Nat), x])) h'' s.heap.objs.size (.tup [.int (i : Nat), x]) :=
      ⟨by show 2 ≤ sizeLine; decide, [.int i tk, y], .cons ⟨_, rfl⟩ (.cons ru .nil), ⟨_, hT2, rfl, _, rfl⟩⟩
    have I1 : Inv X pins σ (upd H s.heap.objs.size (.tup [.int (i : Nat), x])) { s with heap := h'', toks := tk + 1 } :=
      I.turnedNew (ch := [e, it]) (fun b ob hb q => (sb.2 b (fun z => hb (by simp [z]))).trans (hk b ob (fun z => hb (by simp [z])) (fun z => hb (by simp [z])) q)) hf (Nat.le_refl _) new
    refine ⟨.ref s.heap.objs.size, _, I1, rfl, ⟨_, x, rfl, I.hok.fresh (Nat.le_refl _), rfl, fun ys hy => by rw [I.tuple_inj hy hq]; exact hx⟩, ⟨⟨y, ?_⟩, hst.1.at fun o q => (sb.2 it (Ne.symm hne)).trans q, hne, hea, hai⟩, fun b hb => ?_⟩
    · have e1 : ((i + 1 : Nat) : Int) = (i : Int) + 1 := by omega
      rw [e1]; exact he'
    · have hb' : b < s.heap.objs.size := by
        have e' : b = e ∨ b = it := by simpa using hb
        rcases e' with z | z
        · rw [z]; exact hel
        · rw [z]; exact hil
      rw [upd_ne (Nat.ne_of_lt hb')]
      exact (hf b hb).1
  done := by
    intro X hP hw hK hc i pins s σ H E I hf st hg
    subst hP hw hK
    obtain ⟨⟨old, he⟩, hit, hne, hea, hai⟩ := st
    obtain ⟨xs, hq, hx⟩ := hg
    obtain ⟨its, rv, p, hz⟩ := I.tuple hq
    obtain ⟨f0, f1, f2, f3, f4, f5⟩ := hf it (by simp)
    have hl := rv.length
    exact enum_end (I.ok.hd hc) he hit p (by simp; omega) fun h' eb => ⟨rfl, I.turned (t' := s.toks) (fun b o hb q => eb b o hb q) f0 f1 f3 f4 f5⟩
  self := fun A i s Q E st h => let ⟨⟨_, he⟩, _⟩ := st; wpAny_pyIter_enum he h
where
  enum_end {prog : Program} {w : World} {A : Around} {E : Value → Shared → Prop} {s : Shared} {e it l : Addr} {i : Nat} {items : Array Value} {old : Value} {Q : Option Value → Shared → Prop} (hh : A.handled = none)
      (he : IsEnum s.heap e it i old) (hit : s.heap.IsTupleIter it l i) (hl : s.heap.IsTuple l items) (hx : items[i]? = none)
      (hQ : ∀ h', Heap.ExtBut it s.heap h' → Q none { s with heap := h' }) : wpAny (model prog w) A (pyNext (.ref e)) Q E s := by
    have D : Draws prog w A.in1 it [it, l] i (fun _ _ => True) (fun j h => j = i ∧ h.IsTupleIter it l i ∧ h.IsTuple l items) :=
      { live := fun _ _ st => let ⟨o, ho, _⟩ := st.2.1; ⟨o, ho⟩
        frame := fun _ _ _ st hk => ⟨st.1, st.2.1.at fun o e => hk it (by simp) o e, st.2.2.at fun o e => hk l (by simp) o e⟩
        item := fun j s Q E hj st hQ => by have := st.1; omega
        done := fun s Q E st hE => wpAny_nextOf_tuple_end hh st.2.1 st.2.2 hx hE }
    exact wpAny_pyNext_enum_endD D he ⟨rfl, hit, hl⟩ hQ
def iEnumT (K : Frag) (ta : TA) : TI := fun σ H R => ta σ H fun vs H1 => ∃ a xs, vs = [.ref a] ∧ SqT K H1 a xs ∧ R (IteT K a) H1
theorem pi_enumU {X : Cx} {e : Expr} {ta : TA} {p pos tpos : Pos} {elts : List Expr} {kk : Nat} (hg : Gl X "enumerate") (hm : X.mg "enumerate" = none) (ha : PA X [e] ta) (hs : starEach [e] X.env = [(false, eval e X.env)] := by rfl) :
    PI X (.Tuple elts kk tpos) (.Call (.Name "enumerate" p) [e] [] pos) (iEnumT X.K ta) := by
  refine ⟨fun pins s σ H R I h => ?_⟩
  refine Call_ (ld_blt I hg hm PyProof.Rows.boot_enumerate (PyProof.Rows.callWith_type1 (thn (ha.run pos pins s σ H _ I h) fun us s1 ⟨vs, H1, I1, r1, q1⟩ => ?_) hs rfl))
  obtain ⟨a, xs, ex, hq, q⟩ := q1
  subst ex
  cases r1 with
  | cons r rr =>
    cases rr
    cases r
    obtain ⟨its, rv, p', hz⟩ := I1.tuple hq
    have hal : a < s1.heap.objs.size := p'.lt
    refine call_enumerate_tuple p' fun h' he hit hsz hk => wpAny_pyIter_enum he ?_
    have I2 : Inv X pins σ H1 { s1 with heap := h' } := I1.kept (t' := s1.toks) hk
    refine ⟨s1.heap.objs.size + 1, [s1.heap.objs.size + 1, s1.heap.objs.size], _, _, H1, rfl, I2, turn_enumT a (s1.heap.objs.size + 1) s1.heap.objs.size, ⟨⟨.none, he⟩, hit, Nat.succ_ne_self _, Nat.ne_of_gt (Nat.lt_succ_of_lt hal), Nat.ne_of_lt hal⟩, fun b hb => ?_, q⟩
    have e' : b = s1.heap.objs.size + 1 ∨ b = s1.heap.objs.size := by simpa using hb
    have hle : s1.heap.objs.size ≤ b := by
      rcases e' with z | z
      · rw [z]; exact Nat.le_add_right _ _
      · rw [z]; exact Nat.le_refl _
    exact I1.fpOk hle (I1.hok.fresh hle)
theorem walk_enumT {K : Frag} {a : Addr} {xs : List V} : Walk (IteT K a) xs.length (fun H => SqT K H a xs) (YPair (fun i => some (.int (i : Nat))) (fun i => xs[i]?)) := by
  refine ⟨fun i _ hi q => ⟨xs, xs[i], q, by simp [hi]⟩, fun _ q => ⟨xs, q, Nat.le_refl _⟩, fun i H v H' _ q y => ?_⟩
  obtain ⟨T, x, h1, h2, h3, h4⟩ := y
  exact ⟨T, .int (i : Nat), x, h1, h2, h3, rfl, h4 xs q⟩
theorem it_enumT {K : Frag} {C : Addr} {δ : Den} {te : TE} {xs : List DV} (h : EvD K C te δ (.tup xs)) : ItD K C (iEnumT K (tCons te tNil)) δ (enumD xs) := fun O σ H R g e q => h O σ H _ g e fun v H1 e1 r1 => by
  cases r1 with
  | tup hq hr =>
    rename_i a vs
    refine ⟨_, _, rfl, Evl.ex_t msk_sub hq, ?_⟩
    have w := walk_enumT (K := K) (a := a) (xs := vs)
    rw [hr.len, show xs.length = (enumD xs).length by rw [List.length_map, List.length_zipIdx]] at w
    refine q _ H1 _ _ e1 w (fun H' e' => Evl.ex_t e' (Evl.ex_t msk_sub hq)) fun i H2 v H3 hi e2 y => ?_
    obtain ⟨T, x, z, rfl, hT, rfl, hx, hz⟩ := y
    cases hx
    refine ⟨Evl.Ex.new hT, fun O' g' ho => ?_⟩
    obtain ⟨d, hd, rd⟩ := hr.got hz
    exact ⟨_, enumD_at hd, rep_newT g' hT (.cons (.int _) (.cons (rd.mono (msk_more e2 ho)) .nil))⟩
end Dt
set_option Elab.async false
set_option linter.all false
set_option maxRecDepth 100000
set_option maxHeartbeats 4000000
/-! Rules that serve ints, lists and tuples alike; properties, len, calls of methods. -/
namespace Dt
open PySem PySem.Spec PyProof.Rows L2
open Evl (Ex)
section
variable {K : Frag} {C : Addr} {δ : Den} {d d1 d2 d3 : DV} {ta tb tc te : TE} {tt tu : TT} {ds es xs : List DV}
theorem r2_l {r r' : R2} (h : R2D K C r d1 d2 d) : R2D K C (fun x y H Q => r x y H Q ∨ r' x y H Q) d1 d2 d := fun O H x y Q g r1 r2 q => .inl (h O H x y Q g r1 r2 q)
theorem r2_r {r r' : R2} (h : R2D K C r' d1 d2 d) : R2D K C (fun x y H Q => r x y H Q ∨ r' x y H Q) d1 d2 d := fun O H x y Q g r1 r2 q => .inr (h O H x y Q g r1 r2 q)
abbrev rAddU (K : Frag) : R2 := fun x y H Q => rI0 (fun i j => .int (i + j)) x y H Q ∨ (fun x y H Q => rCat x y H Q ∨ rCatA K x y H Q) x y H Q
abbrev rMulU (K : Frag) : R2 := fun x y H Q => rI CMul (fun i j => .int (i * j)) x y H Q ∨ (fun x y H Q => rRep x y H Q ∨ rRepT K x y H Q) x y H Q
theorem r2_catL (hz : ds.length + es.length ≤ 1000) : R2D K C rCat (.lst ds) (.lst es) (.lst (ds ++ es)) := fun O H x y Q g r1 r2 q => by
  cases r1 with
  | lst hq hr =>
    cases r2 with
    | lst hq2 hr2 => exact ⟨_, _, _, _, rfl, rfl, msk_sub _ _ hq, msk_sub _ _ hq2, sz_ok (by rw [hr.len, hr2.len]; exact hz), fun p hp => q _ _ (Evl.Ex.new hp) (rep_newL g hp (hr.app hr2))⟩
theorem r2_catT (hz : ds.length + es.length ≤ 1000) : R2D K C (rCatA K) (.tup ds) (.tup es) (.tup (ds ++ es)) := fun O H x y Q g r1 r2 q => by
  cases r1 with
  | tup hq hr =>
    cases r2 with
    | tup hq2 hr2 =>
      refine ⟨_, _, _, _, rfl, rfl, Evl.ex_t msk_sub hq, Evl.ex_t msk_sub hq2, sz_ok (by rw [hr.len, hr2.len]; exact hz), fun h => ?_, fun _ h => ?_, fun _ _ p hp => q _ _ (Evl.Ex.new hp) (rep_newT g hp (hr.app hr2))⟩
      · refine q _ H (Evl.Ex.refl H) (.tup hq2 ?_)
        subst h
        cases hr
        exact hr2
      · refine q _ H (Evl.Ex.refl H) (.tup hq ?_)
        subst h
        cases hr2
        rw [List.append_nil]
        exact hr
theorem ev_addI {i j : Int} (ha : EvD K C ta δ (.int i)) (hb : EvD K C tb δ (.int j)) : EvD K C (tOp (rAddU K) ta tb) δ (.int (i + j)) := ev_op ha hb (r2_l (r2_I0 (g := fun i j => .int (i + j)) rfl))
theorem ev_addL (ha : EvD K C ta δ (.lst ds)) (hb : EvD K C tb δ (.lst es)) (hz : ds.length + es.length ≤ 1000) : EvD K C (tOp (rAddU K) ta tb) δ (.lst (ds ++ es)) := ev_op ha hb (r2_r (r2_l (r2_catL hz)))
theorem ev_addT (ha : EvD K C ta δ (.tup ds)) (hb : EvD K C tb δ (.tup es)) (hz : ds.length + es.length ≤ 1000) : EvD K C (tOp (rAddU K) ta tb) δ (.tup (ds ++ es)) := ev_op ha hb (r2_r (r2_r (r2_catT hz)))
theorem ev_subI {i j : Int} (ha : EvD K C ta δ (.int i)) (hb : EvD K C tb δ (.int j)) : EvD K C (tOp (rI0 fun i j => .int (i - j)) ta tb) δ (.int (i - j)) := ev_I0 (g := fun i j => .int (i - j)) ha hb
theorem ev_ltI {i j : Int} (ha : EvD K C ta δ (.int i)) (hb : EvD K C tb δ (.int j)) : EvD K C (tOp (rI0 fun i j => .bl (decide (i < j))) ta tb) δ (.bl (decide (i < j))) := ev_I0 (g := fun i j => .bl (decide (i < j))) ha hb
theorem ev_leI {i j : Int} (ha : EvD K C ta δ (.int i)) (hb : EvD K C tb δ (.int j)) : EvD K C (tOp (rI0 fun i j => .bl (decide (i ≤ j))) ta tb) δ (.bl (decide (i ≤ j))) := ev_I0 (g := fun i j => .bl (decide (i ≤ j))) ha hb
theorem ev_gtI {i j : Int} (ha : EvD K C ta δ (.int i)) (hb : EvD K C tb δ (.int j)) : EvD K C (tOp (rI0 fun i j => .bl (decide (j < i))) ta tb) δ (.bl (decide (j < i))) := ev_I0 (g := fun i j => .bl (decide (j < i))) ha hb
theorem ev_geI {i j : Int} (ha : EvD K C ta δ (.int i)) (hb : EvD K C tb δ (.int j)) : EvD K C (tOp (rI0 fun i j => .bl (decide (j ≤ i))) ta tb) δ (.bl (decide (j ≤ i))) := ev_I0 (g := fun i j => .bl (decide (j ≤ i))) ha hb
theorem ev_mulI {i j : Int} (ha : EvD K C ta δ (.int i)) (hb : EvD K C tb δ (.int j)) (hc : CMul i j) : EvD K C (tOp (rMulU K) ta tb) δ (.int (i * j)) := ev_op ha hb (r2_l (r2_I (g := fun i j => .int (i * j)) hc rfl))
theorem ev_modI {i j : Int} (ha : EvD K C ta δ (.int i)) (hb : EvD K C tb δ (.int j)) (hj : 0 < j) : EvD K C (tOp (rI (fun _ j => 0 < j) fun i j => .int (i % j)) ta tb) δ (.int (i % j)) := ev_I (g := fun i j => .int (i % j)) ha hb hj
theorem ev_divI {i j : Int} (ha : EvD K C ta δ (.int i)) (hb : EvD K C tb δ (.int j)) (hc : CDivW i j) : EvD K C (tOp (rI CDivW fun i j => .int (i / j)) ta tb) δ (.int (i / j)) := ev_I (g := fun i j => .int (i / j)) ha hb hc
theorem ev_powI {i j : Int} (ha : EvD K C ta δ (.int i)) (hb : EvD K C tb δ (.int j)) (hc : CPow i j) : EvD K C (tOp (rI CPow fun i j => .int (i ^ j.toNat)) ta tb) δ (.int (i ^ j.toNat)) := ev_I (g := fun i j => .int (i ^ j.toNat)) ha hb hc
theorem ev_repL {n : Nat} (ha : EvD K C ta δ (.lst ds)) (hb : EvD K C tb δ (.int (n : Int))) (hn : n ≤ 1000) (hz : ds.length * n ≤ 1000) : EvD K C (tOp (rMulU K) ta tb) δ (.lst (List.replicate n ds).flatten) := ev_op ha hb (r2_r (r2_l fun O H x y Q g r1 r2 q => by
  cases r1 with
  | lst hq hr =>
    refine ⟨_, (n : Int), _, rfl, r2.int_eq, msk_sub _ _ hq, by omega, by omega, sz_ok (by rw [hr.len]; exact hz), fun p hp => ?_⟩
    exact q _ _ (Evl.Ex.new hp) (rep_newL g hp (hr.rep n))))
theorem ev_repT {n : Nat} (ha : EvD K C ta δ (.tup ds)) (hb : EvD K C tb δ (.int (n : Int))) (hn : n ≤ 1000) (h2 : 2 ≤ n) (hd : ds ≠ []) (hl : ds.length ≤ 1000) : EvD K C (tOp (rMulU K) ta tb) δ (.tup (List.replicate n ds).flatten) := ev_op ha hb (r2_r (r2_r fun O H x y Q g r1 r2 q => by
  cases r1 with
  | tup hq hr =>
    refine ⟨_, (n : Int), _, rfl, r2.int_eq, Evl.ex_t msk_sub hq, fun e => ?_, by omega, by omega, by rw [hr.len]; exact hl, fun p hp => ?_⟩
    · subst e
      cases hr
      exact hd rfl
    · exact q _ _ (Evl.Ex.new hp) (rep_newT g hp (hr.rep n))))
/-! slices of either -/
abbrev rSlU (K : Frag) : V → Option Int → Option Int → Hp → VK → Prop := fun x lo hi H Q => rSlL K x lo hi H Q ∨ rSlA K x lo hi H Q
theorem ev_slUL {tl th : L2.TO} {lo hi : Option Int} (ha : EvD K C ta δ (.lst ds)) (hl : EvO K C tl δ lo) (hh : EvO K C th δ hi) : EvD K C (L2.tSl (rSlU K) ta tl th) δ (.lst (cutD ds lo hi)) := fun O σ H Q g e q =>
  ha O σ H _ g e fun x H1 e1 r1 => hl O σ H1 _ (g.ex e1) (e.up e1) fun H2 e2 => hh O σ H2 _ ((g.ex e1).ex e2) ((e.up e1).up e2) fun H3 e3 => by
    have r3 := r1.up (e2.trans e3)
    cases r3 with
    | lst hq hr => exact .inl ⟨_, _, rfl, sql_of hq, fun p hp => q _ _ (((e1.trans e2).trans e3).trans (Evl.Ex.new hp)) (rep_newL (((g.ex e1).ex e2).ex e3) hp (hr.cut lo hi))⟩
theorem ev_slUT {tl th : L2.TO} {lo hi : Option Int} (ha : EvD K C ta δ (.tup ds)) (hl : EvO K C tl δ lo) (hh : EvO K C th δ hi) : EvD K C (L2.tSl (rSlU K) ta tl th) δ (.tup (cutD ds lo hi)) := fun O σ H Q g e q =>
  ha O σ H _ g e fun x H1 e1 r1 => hl O σ H1 _ (g.ex e1) (e.up e1) fun H2 e2 => hh O σ H2 _ ((g.ex e1).ex e2) ((e.up e1).up e2) fun H3 e3 => by
    have r3 := r1.up (e2.trans e3)
    cases r3 with
    | tup hq hr =>
      refine .inr ⟨_, _, rfl, Evl.ex_t msk_sub hq, fun hw => ?_, fun _ p hp => q _ _ (((e1.trans e2).trans e3).trans (Evl.Ex.new hp)) (rep_newT (((g.ex e1).ex e2).ex e3) hp (hr.cut lo hi))⟩
      refine q _ _ ((e1.trans e2).trans e3) (.tup hq ?_)
      have z : cutD ds lo hi = ds := by
        unfold cutD
        rw [← hr.len, hw.1, hw.2, List.drop_zero, Nat.sub_zero, hr.len, List.take_length]
      rw [z]
      exact hr
theorem cut_to {α : Type} (xs : List α) (k : Nat) : cutD xs none (some (k : Int)) = xs.take k := by
  unfold cutD
  rw [HT.sIx_none, HT.sIx_nat, List.drop_zero, Nat.sub_zero]
  by_cases h : k ≤ xs.length
  · rw [Nat.min_eq_left h]
  · rw [Nat.min_eq_right (by omega), List.take_of_length_le (by omega), List.take_of_length_le (by omega)]
theorem cut_from {α : Type} (xs : List α) (k : Nat) : cutD xs (some (k : Int)) none = xs.drop k := by
  unfold cutD
  rw [HT.sIx_none, HT.sIx_nat]
  by_cases h : k ≤ xs.length
  · rw [Nat.min_eq_left h, List.take_of_length_le (by rw [List.length_drop]; omega)]
  · rw [Nat.min_eq_right (by omega), List.drop_eq_nil_of_le (Nat.le_refl _), List.drop_eq_nil_of_le (by omega)]
    simp
theorem cut_all {α : Type} (xs : List α) : cutD xs none none = xs := by
  unfold cutD
  rw [HT.sIx_none, HT.sIx_none, List.drop_zero, Nat.sub_zero, List.take_length]
/-! sums of either -/
abbrev rSumU (K : Frag) : List V → Hp → VK → Prop := fun xs H Q => rSum K xs H Q ∨ rSumT K xs H Q
theorem rc_sumL {ns : List Int} : RCD K C (rSumU K) [.lst (dis ns)] (.int ns.sum) := fun O H vs Q g r q => .inl (rc_sum O H vs Q g r q)
theorem rc_sumT {ns : List Int} : RCD K C (rSumU K) [.tup (dis ns)] (.int ns.sum) := fun O H vs Q g r q => by
  obtain ⟨v, rfl, h⟩ := reps1 r
  obtain ⟨a, rfl, hq⟩ := intsT h
  exact .inr ⟨a, ns, rfl, hq, q _ H (Evl.Ex.refl H) (.int _)⟩
end
theorem call_sumU {X : Cx} (hc : X.calm = true) : CallR X (.builtin "sum") (rSumU X.K) := (cr_sum hc).or (cr_sumT hc)
/-! ### properties of the slotted class at C -/
def PrR (P : Program) (w : World) (K : Frag) (mg : Str → Option Value) (base : Heap) (C : Addr) (f : Str) (k : Nat) (sp : Sp) : Prop := ∃ p g : Addr, PySem.W.findIn K (.ref C) f = some (some (.ref p)) ∧ PySem.W.specialIn K (.ref p) "__get__" = some (some (.builtin "property.__get__")) ∧
  PySem.W.takesIn K (.ref p) = some true ∧ (∃ rest, PySem.W.recIn K p "property" = some (.ref g :: rest)) ∧ FnR P w K mg base CX0 k g sp
theorem pe_pr {X : Cx} {e : Expr} {f : Str} {pos : Pos} {ta : TE} {C : Addr} {j k : Nat} {sp : Sp} (h : PrR X.prog X.w X.K X.mg X.base C f j sp) (c : SlX.SCls X.K C) (hr : Room k X.A) (hj : j + 1 ≤ k) (he : PE X e ta)
    (hb : attributeBase e f X.env (eval e X.env) = eval e X.env := by rfl) : PE X (.Attribute e f pos) (SlX.tPropSl C sp E0 ta) := by
  obtain ⟨p, g, h1, h2, h3, h4, F⟩ := h
  exact SlX.pe_propSl he c h1 h2 h3 h4 F (hr.mono hj) (fun _ _ _ _ z => z) hb
section
variable {K : Frag} {C : Addr} {δ : Den} {d : DV} {rs : List Int} {ta : TE}
theorem ev_pr {F : List DV → DV → Prop} (h : EvD K C ta δ (.yr rs)) (hf : F [.yr rs] d) : EvD K C (SlX.tPropSl C (spD K C F) E0 ta) δ d := fun O σ H Q gd e q =>
  h O σ H _ gd e fun v H1 e1 r1 => by
    cases r1 with
    | yr hs hp hq ne => exact ⟨_, _, _, rfl, slt_mono msk_sub hs, O, _, d, gd.ex e1, hf, .cons (.yr hs hp hq ne) .nil, fun v H2 e2 r2 => q v H2 (e1.trans e2) r2⟩
/-- self.own_runs, self.own_swings -/
theorem ev_runs {p : Addr} (h : EvD K C ta δ (.yr rs)) (c : SlX.SCls K C) (s : SlX.Slot1 K C "own_runs" p 0) : EvD K C (SlX.tSl K ta "own_runs") δ (.tup (dis rs)) := fun O σ H Q gd e q =>
  h O σ H _ gd e fun v H1 e1 r1 => by
    cases r1 with
    | yr hs hp hq ne => exact ⟨_, C, _, p, _, 0, _, rfl, slt_mono msk_sub hs, c, s, rfl, q _ H1 e1 (.tup hp (.of_ints K C _ rs))⟩
theorem ev_swings {p : Addr} (h : EvD K C ta δ (.yr rs)) (c : SlX.SCls K C) (s : SlX.Slot1 K C "own_swings" p 1) : EvD K C (SlX.tSl K ta "own_swings") δ (.tup (dis (Bu.swingsOf rs))) := fun O σ H Q gd e q =>
  h O σ H _ gd e fun v H1 e1 r1 => by
    cases r1 with
    | yr hs hp hq ne => exact ⟨_, C, _, p, _, 1, _, rfl, slt_mono msk_sub hs, c, s, rfl, q _ H1 e1 (.tup hq (.of_ints K C _ _))⟩
end
end Dt
set_option Elab.async false
set_option linter.all false
set_option maxRecDepth 100000
set_option maxHeartbeats 4000000
/-! len of a Year, of a list, of a tuple. -/
namespace Dt
open PySem PySem.Spec PyProof.Rows L2
open Evl (Ex)
theorem one_of {α : Type} {us : List α} (h : us.length = 1) : ∃ a, us = [a] := by
  match us, h with
  | [a], _ => exact ⟨a, rfl⟩
theorem two_of {α : Type} {us : List α} (h : us.length = 2) : ∃ a b, us = [a, b] := by
  match us, h with
  | [a, b], _ => exact ⟨a, b, rfl⟩
theorem three_of {α : Type} {us : List α} (h : us.length = 3) : ∃ a b c, us = [a, b, c] := by
  match us, h with
  | [a, b, c], _ => exact ⟨a, b, c, rfl⟩
theorem four_of {α : Type} {us : List α} (h : us.length = 4) : ∃ a b c d, us = [a, b, c, d] := by
  match us, h with
  | [a, b, c, d], _ => exact ⟨a, b, c, d, rfl⟩
section
variable {X : Cx} {CX : CXT} {C g : Addr} {n : Nat} {sp : Sp} {E : XK}
/-- len(x) of an instance with its own def -/
def rLenSl (C : Addr) (sp : Sp) (E : XK) : List V → Hp → VK → Prop := fun xs H Q => ∃ a dx vs, xs = [V.ref a] ∧ SlX.Slt H a C dx vs ∧ sp [.ref a] H (fun z H' => ∃ i : Int, z = .int i ∧ (0 ≤ i ∧ i < 2 ^ 63) ∧ Q z H') E
theorem call_lenSl (hs : PySem.W.findIn X.K (.ref C) "__len__" = some (some (.ref g))) (hf : PySem.W.isFn X.K (.ref g) = true) (F : FnR X.prog X.w X.K X.mg X.base CX n g sp) (hr : Room (n + 1) X.A) (hx : Passes CX X E) : CallR X (.builtin "len") (rLenSl C sp E) := by
  intro pins s σ H xs us Q I r h
  obtain ⟨a, dx, vs, rfl, hsl, q⟩ := h
  obtain ⟨u, rfl, ru⟩ := r.one
  cases (show u = Value.ref a from ru)
  obtain ⟨sl, od, _, J, _⟩ := SlX.slt_inst I hsl
  obtain ⟨m, hF⟩ := I.fr
  refine PySem.W.len_K hF I.ok.mod.kin J hs hf (wpAny_mono (wpAny_call (SlX.run_at (us := [.ref a]) (ws := [.ref a]) F hr.in1 I.env0.in1 hx I (.cons rfl .nil) q)) (fun w s' z => ?_) fun _ _ x => x)
  obtain ⟨z', H', I', rz, i, ei, hb, qz⟩ := z
  subst ei
  obtain ⟨t, e⟩ := (show ∃ t, w = Value.int i t from rz)
  cases e
  exact ⟨hb, .int i, H', I'.tok _, ⟨_, rfl⟩, qz⟩
end
section
variable {P : Program} {w : World} {K : Frag} {mg : Str → Option Value} {base : Heap} {C D : Addr}
abbrev FA (K : Frag) (C : Addr) (P : Program) (w : World) (mg : Str → Option Value) (base : Heap) (x : Str) (k : Nat) (F : List DV → DV → Prop) : Prop := FnAt P w K mg base x k (spD K C F)
def F_len : List DV → DV → Prop := fun ds d => ∃ rs : List Int, rs.length ≤ 100 ∧ ds = [.yr rs] ∧ d = .int (rs.length : Int)
theorem me_len (L : Loc K mg C D) : ∃ g, Meth K C "__len__" g ∧ FnR P w K mg base CX0 1 g (spD K C F_len) := by
  obtain ⟨g, fd, M, F⟩ := L.y_len
  refine ⟨g, M, fnr_of F sc_Year___len__ (fun _ _ _ _ _ _ us h => ?_) _ (fun ds d ⟨rs, _, e, _⟩ => by rw [e]; rfl) ?_⟩
  · obtain ⟨a, rfl⟩ := one_of h
    rfl
  intro cdv A outer s H E hr
  refine ⟨_, (pss_one (ps_ret (pe_callB call_len_seq (by rfl) L.b_len bb_len (pa_cons (SlX.pe_sl (pv 0)) pa_nil)))), ?_⟩
  rintro ds d ⟨rs, hn, rfl, rfl⟩
  refine st_retR (EvD.is (ev_cb1 (ev_runs (ev_var rfl) L.ycls L.y_s0.choose_spec) (rc_len (.inr rfl))) ?_)
  rw [List.length_map]
end
abbrev rLenU (K : Frag) (C : Addr) : List V → Hp → VK → Prop := fun xs H Q => rLen K xs H Q ∨ rLenSl C (spD K C F_len) E0 xs H Q
theorem call_lenU {X : Cx} {C D : Addr} {k : Nat} (L : Loc X.K X.mg C D) (hr : Room k X.A) (hk : 2 ≤ k) : CallR X (.builtin "len") (rLenU X.K C) := by
  obtain ⟨g, M, F⟩ := me_len (P := X.prog) (w := X.w) (base := X.base) L
  exact CallR.or call_len_seq (call_lenSl M.at_ M.fn F (hr.mono hk) pass0)
section
variable {K : Frag} {mg : Str → Option Value} {C D : Addr} {δ : Den} {d : DV} {ds : List DV} {rs : List Int} {ta : TE}
theorem ev_lenS (L : Loc K mg C D) (h : EvD K C ta δ d) (hs : IsSeq d ds) : EvD K C (tCB (rLenU K C) (tCons ta tNil)) δ (.int (ds.length : Int)) := ev_cb1 h fun O H vs Q g r q => .inl (rc_len hs O H vs Q g r q)
theorem ev_lenY (L : Loc K mg C D) (h : EvD K C ta δ (.yr rs)) : EvD K C (tCB (rLenU K C) (tCons ta tNil)) δ (.int (rs.length : Int)) := ev_cb1 h fun O H vs Q g r q => by
  obtain ⟨v, rfl, hv⟩ := reps1 r
  cases hv with
  | yr hs hp hq ne => 
    refine .inr ⟨_, _, _, rfl, slt_mono msk_sub hs, O, _, _, g, ⟨rs, ne.2.2, rfl, rfl⟩, .cons (.yr hs hp hq ne) .nil, fun v H2 e2 r2 => ?_⟩
    have e := r2.int_eq
    have hl := ne.2.2
    exact ⟨_, e, ⟨by omega, by omega⟩, q v H2 e2 r2⟩
end
end Dt
set_option Elab.async false
set_option linter.all false
set_option maxRecDepth 100000
set_option maxHeartbeats 4000000
/-! sorted(set(xs)) of a list of ints; list(zip(xs, ys)). -/
namespace Dt
open PySem PySem.Spec PyProof.Rows L2
open Evl (Ex)
section
variable {prog : Program} {w : World} {A : Around} {E : Value → Shared → Prop} {s : Shared}
set_option maxHeartbeats 8000000 in
theorem set_of_list {l : Addr} {its : Array Value} (ns : List Int) {Q : Value → Shared → Prop} (hh : A.handled = none) (hl : s.heap.IsList l its) (aInt : IntsAre its.toList ns) (hb : ns.length + 1 < scanBound)
    (h : ∀ (h' : Heap) (tk c : Nat), SetR w h' s.heap.objs.size (fun j => decide (j ∈ ns)) c → c ≤ ns.length → (∀ b o, s.heap.get? b = some o → h'.get? b = some o) → Q (.ref s.heap.objs.size) { s with heap := h', toks := tk }) :
    wpAny (model prog w) A (call (.type "set") [.ref l]) Q E s := by
  have nIt : its.size = ns.length := by
    have q := IntsAre.length aInt
    rw [Array.length_toList] at q
    exact q
  obtain ⟨c, tl, mrC⟩ := F.called_set.mro
  have mdC := F.called_set.made
  have sbC := F.called_set.sub
  refine wpAny_call (codeAny_of_tree ?_)
  show wpAny _ _ (callAny (.type "set") _) _ _ _
  refine wpAny_pure ⟨Code.quiet_builtin _ (by decide +kernel), codeAny_builtin F.entry_type_call ?_⟩
  rw [Around.under_plain (weight_type_call_type "set" [.ref l] []) rfl]
  have h1 := F.called_set.notType
  have h2 := F.called_set.canCreate
  have hct := F.typeCall_set_1 (.ref l)
  repeat (any_goals (first | assumption | wp_step))

  refine codeAny_mono (code_set_led1 (.ref l) (E := E) (Q₁ := fun obj s₁ => obj = .ref s.heap.objs.size ∧ s₁ = { s with heap := s.heap.push { cls := .type "set", dict := none, data := .set #[] 0 (.fresh 0 0 (!w.params.followText "set-order")) } }) ⟨rfl, rfl⟩) fun r s₁ hr => ?_
  cases r with
  | error e => exact hr
  | ok fl =>
    cases fl with
    | ret obj =>
      obtain ⟨rfl, rfl⟩ := hr
      have hS : (s.heap.push { cls := .type "set", dict := none, data := .set #[] 0 (.fresh 0 0 (!w.params.followText "set-order")) }).get? s.heap.objs.size = some { cls := .type "set", dict := none, data := .set #[] 0 (.fresh 0 0 (!w.params.followText "set-order")) } := Heap.get?_push_size _ rfl
      have hT : Shared.TypeIs { s with heap := s.heap.push { cls := .type "set", dict := none, data := .set #[] 0 (.fresh 0 0 (!w.params.followText "set-order")) } } (.ref s.heap.objs.size) "set" := ⟨_, hS, rfl⟩
      have hli := F.called_set.init.lookup
      have hbi := F.called_set.init.bind (.ref s.heap.objs.size)
      repeat (any_goals (first | assumption | wp_step))

      refine codeAny_mono (codeAny_call_builtin (R := wants (fun r s₂ => r = .none ∧ ∃ h' tk c, s₂ = { s with heap := h', toks := tk } ∧ SetR w h' s.heap.objs.size (fun j => decide (j ∈ ns)) c ∧ c ≤ ns.length ∧
          (∀ b o, s.heap.get? b = some o → h'.get? b = some o)) E) F.called_set.init.plain F.entry_set_init (check_set_init_1 hT ?_)) fun r₂ s₂ hr₂ => ?_
      · obtain ⟨ol, oL, cL, nl, dL⟩ := hl
        obtain ⟨ocls, odict, odata, oslots⟩ := ol
        simp only at cL dL
        subst cL; subst dL
        have oL' : (s.heap.push { cls := .type "set", dict := none, data := .set #[] 0 (.fresh 0 0 (!w.params.followText "set-order")) }).get? l = some { cls := .type "list", dict := odict, data := .seq its nl, slots := oslots } := Heap.get?_push_of_some _ oL
        have hsls := F.sub_list_set
        have hslf := F.sub_list_frozenset
        have hne : (Value.type "list" == Value.type "dict") = false := by decide
        have hl1 : (s.heap.push { cls := .type "set", dict := none, data := .set #[] 0 (.fresh 0 0 (!w.params.followText "set-order")) }).IsList l its := ⟨_, oL', rfl, nl, rfl⟩
        unfold Builtin.«set.__init__» noKeywords Builtin.Frozenset.updateFrom
        generalize hPI : pyIter = PI
        wp_walk
        subst hPI

        refine wpAny_pyIter_list hl1 ?_
        refine wpAny_bind (wpAny_runValue ?_)
        have ltS : l < s.heap.objs.size := Heap.lt_size oL
        have noH : A.in1.in1.in1.handled = none := by simp [hh]
        have hz1 : (s.heap.push { cls := .type "set", dict := none, data := .set #[] 0 (.fresh 0 0 (!w.params.followText "set-order")) }).objs.size = s.heap.objs.size + 1 := Heap.size_push ..
        have nI : l ≠ (s.heap.push { cls := .type "set", dict := none, data := .set #[] 0 (.fresh 0 0 (!w.params.followText "set-order")) }).objs.size := by
          rw [Heap.size_push]; exact Nat.ne_of_lt (Nat.lt_succ_of_lt ltS)
        have sNo : s.heap.objs.size ∉ [(s.heap.push { cls := .type "set", dict := none, data := .set #[] 0 (.fresh 0 0 (!w.params.followText "set-order")) }).objs.size, l] := by
          rw [Heap.size_push]; simp only [List.mem_cons, List.mem_singleton, List.not_mem_nil, or_false, not_or]
          exact ⟨Nat.ne_of_lt (Nat.lt_succ_self _), Nat.ne_of_gt ltS⟩
        have vIs : ∀ (i : Nat) (v : Value), its[i]? = some v → ∃ k t, ns[i]? = some k ∧ v = .int k t := fun i v hv => by
          have hi : i < ns.length := by rw [← nIt]; exact (Array.getElem?_eq_some_iff.mp hv).1
          obtain ⟨t, e⟩ := PyProof.Rows.IntsAre.int_at aInt i v (by rw [Array.getElem?_toList]; exact hv)
          refine ⟨ns[i], t, List.getElem?_eq_getElem hi, ?_⟩
          rw [e, List.getD_eq_getElem?_getD, List.getElem?_eq_getElem hi] <;> rfl
        refine set_update_ints ((Walks.list noH _ l nI its).toS) s.heap.objs.size
          sNo ns nIt hb vIs (its.size - 0) 0 _ (by omega) (Nat.zero_le _)
          ⟨⟨_, Heap.get?_push_size _ rfl, rfl, rfl⟩, (hl1.push _)⟩ ?hS0 ?hR
        case hS0 =>
          have hget : ((s.heap.push { cls := .type "set", dict := none, data := .set #[] 0 (.fresh 0 0 (!w.params.followText "set-order")) }).push { cls := .type "list_iterator", data := .fields #[.ref l, .int 0 0] }).get? s.heap.objs.size
              = some { cls := .type "set", dict := none, data := .set #[] 0 (.fresh 0 0 (!w.params.followText "set-order")) } := Heap.get?_push_of_some _ hS
          exact ⟨0, Nat.le_refl 0, setR_new_at hget⟩
        case hR =>
          intro s' c' hm hc' hS'
          obtain ⟨h', g2, d', tk', os'⟩ := s'
          have eg : g2 = s.gens := hm.gens
          have ed : d' = s.drawn := hm.drawn
          have eo : os' = s.os := hm.os
          subst eg; subst ed; subst eo
          show wpAny _ _ _ _ _ _
          refine wpAny_pure ?_
          show wpAny _ _ (ret Value.none) _ _ _
          rw [nIt] at hc'
          refine wpAny_pure ⟨rfl, h', tk', c', rfl, hS', hc', fun b o e => ?_⟩
          have hb0 : b < s.heap.objs.size := Heap.lt_size e
          have hb1 : b ≠ s.heap.objs.size := Nat.ne_of_lt hb0
          have hb2 : b ≠ (s.heap.push { cls := .type "set", dict := none, data := .set #[] 0 (.fresh 0 0 (!w.params.followText "set-order")) }).objs.size := by
            rw [Heap.size_push]; exact Nat.ne_of_lt (Nat.lt_succ_of_lt hb0)
          exact hm.heap b o (by simp only [List.mem_cons, List.mem_singleton, List.not_mem_nil, or_false, not_or]; exact ⟨hb1, hb2⟩) (Heap.get?_push_of_some _ (Heap.get?_push_of_some _ e))

      · cases r₂ with
        | error e => exact hr₂
        | ok fl₂ =>
          cases fl₂ with
          | ret r =>
            obtain ⟨rfl, h', tk, c', rfl, hS', hc', hk'⟩ := hr₂
            repeat (any_goals (first | assumption | wp_step))
            exact h _ _ _ hS' hc' hk'
          | _ => exact hr₂.elim
    | _ => exact hr.elim
end
/-- set(xs), xs a list of ints -/
def rSetL (K : Frag) (w : World) : List V → Hp → VK → Prop := fun xs H Q => ∃ (a : Addr) (ns : List Int), xs = [V.ref a] ∧ SqL K H a (ns.map V.int) ∧ ns.length ≤ 1000 ∧ ∀ (p : Addr) (c : Nat), H p = none → c ≤ ns.length → Q (.ref p) (upd H p (SetO w p (fun j => decide (j ∈ ns)) c))
theorem cr_setL {X : Cx} (hc : X.calm = true) : CallR X (.type "set") (rSetL X.K X.w) := by
  intro pins s σ H vs us Q I r h
  obtain ⟨a, ns, rfl, hs, hl, q⟩ := h
  obtain ⟨its, rv, pl, hz⟩ := I.list hs
  rw [Vals.ref1 r]
  refine set_of_list ns (I.ok.hd hc) pl.isList (by simpa using rv.ints) (by unfold scanBound; omega) fun h' tk c R hcn k => ?_
  have hn := I.hok.fresh (Nat.le_refl s.heap.objs.size)
  exact ⟨.ref s.heap.objs.size, _, I.laid (t' := tk) k (Nat.le_refl _) (setO_new R), rfl, q _ c hn hcn⟩
section
variable {K : Frag} {C : Addr} {w : World} {δ : Den} {te : TE} {ns : List Int}
theorem ev_sortSet (h : EvD K C te δ (.lst (dis ns))) (hl : ns.length < 64) : EvD K C (tCB (rSortedSet w) (tCons (tCB (rSetL K w) (tCons te tNil)) tNil)) δ (.lst (dis (Bu.usort ns))) := fun O σ H Q g e q =>
  h O σ H _ g e fun v H1 e1 r1 => by
    obtain ⟨a, rfl, hq⟩ := intsL r1
    refine ⟨a, ns, rfl, hq, by omega, fun p c hp hc => ?_⟩
    refine ⟨p, _, c, rfl, upd_same, by omega, fun ms p2 h1 h2 h3 hp2 => ?_⟩
    have e2 : Evl.Ex H (upd H1 p (SetO w p (fun j => decide (j ∈ ns)) c)) := e1.trans (Evl.Ex.new hp)
    have em : ms = Bu.usort ns := Bu.up_one h1 (Bu.usort_up ns) fun k => by rw [h2, Bu.mem_usort]; simp
    subst em
    exact q _ _ (e2.trans (Evl.Ex.new hp2)) (rep_newL (g.ex e2) hp2 (.of_ints K C _ _))
end
end Dt
set_option Elab.async false
set_option linter.all false
set_option maxRecDepth 100000
set_option maxHeartbeats 4000000
/-! list(zip(xs, ys)) of two lists: every pair a new tuple, the one before it being held by the list. -/
namespace Dt
open PySem PySem.Spec PyProof.Rows L2
open Evl (Ex)
theorem zip_nolen : typeLookup (.type "zip") "__len__" = pure none := by rw [typeLookup_type, builtinLookup_eq_fast]; kernel_rfl
theorem zip_nohint : typeLookup (.type "zip") "__length_hint__" = pure none := by rw [typeLookup_type, builtinLookup_eq_fast]; kernel_rfl
/-- the zip at z stands at turn i: fresh, or its last pair is out -/
def ZSt (z TI TO i1 i2 a b : Addr) (H : Hp) (h : Heap) (i : Nat) : Prop := TO < h.objs.size ∧ IsPair h TI (.ref i1) (.ref i2) ∧ h.IsListIter i1 a i ∧ h.IsListIter i2 b i ∧
  ((IsZip h z TI TO .none ∧ ∃ u v, IsPair h TO u v) ∨ ∃ (T : Addr) (f : Bool) (x y : V), IsZipHeld h z TI TO T f ∧ H T = some (.tup [x, y]))
/-- what has been gathered: pair by pair a new tuple -/
def Pairs (H0 H : Hp) (xs ys acc : List V) (i : Nat) : Prop := acc.length = i ∧ ∀ (j : Nat) (x y : V), j < i → xs[j]? = some x → ys[j]? = some y → ∃ T, acc[j]? = some (.ref T) ∧ H T = some (.tup [x, y]) ∧ H0 T = none
theorem Pairs.next {H0 H : Hp} {xs ys acc : List V} {i : Nat} {T q : Addr} {x y : V} {o : HO} (g : Pairs H0 H xs ys acc i) (hx : xs[i]? = some x) (hy : ys[i]? = some y) (hT : H T = none) (h0 : H0 T = none) (hq : ∃ o, H q = some (.lst o)) :
    Pairs H0 (upd (upd H T (.tup [x, y])) q o) xs ys (acc ++ [.ref T]) (i + 1) := by
  obtain ⟨hl, g⟩ := g
  obtain ⟨lo, hq⟩ := hq
  have nTq : T ≠ q := fun z => by rw [z, hq] at hT; cases hT
  refine ⟨by rw [List.length_append, hl]; rfl, fun j x' y' hj hx' hy' => ?_⟩
  by_cases k : j < i
  · obtain ⟨T', e1, e2, e3⟩ := g j x' y' k hx' hy'
    have n1 : T' ≠ q := fun z => by rw [z, hq] at e2; cases e2
    have n2 : T' ≠ T := fun z => by rw [z, hT] at e2; cases e2
    refine ⟨T', by rw [List.getElem?_append_left (by omega)]; exact e1, ?_, e3⟩
    rw [upd_ne n1, upd_ne n2]
    exact e2
  · have ej : j = i := by omega
    subst ej
    rw [hx] at hx'
    rw [hy] at hy'
    cases hx'
    cases hy'
    refine ⟨T, by rw [List.getElem?_append_right (by omega), hl, Nat.sub_self]; rfl, ?_, h0⟩
    rw [upd_ne nTq, upd_same]
section
variable {X : Cx} {pins : List (Addr × Obj)} {σ : L2.St} {a b z TI TO i1 i2 q : Addr} {xs ys : List V} {H0 : Hp} {A1 : Around} {Rs : Result → Shared → Prop}
theorem zip_push {f : Bool} {T0 : Addr} {H : Hp} {s : Shared} {h' : Heap} {T : Addr} {u u2 : Value} {x y : V} {acc : List V} {i : Nat} (D : ZipApart z TI TO i1 i2 a b) (I : Inv X pins σ H s)
    (hf : ∀ c ∈ [z, TI, TO, i1, i2], FpOk X pins H c) (hq : H q = some (.lst acc)) (hlen : acc.length < 4000)
    (hT : T = s.heap.objs.size) (hTO' : TO < h'.objs.size) (z' : IsZipHeld h' z TI TO T0 f) (hT0 : T0 = T ∨ ∃ x y, H T0 = some (.tup [x, y])) (hTI : IsPair h' TI (.ref i1) (.ref i2)) (h1' : h'.IsListIter i1 a (i + 1)) (h2' : h'.IsListIter i2 b (i + 1)) (hnew : IsPair h' T u u2) (ru : RelV x u) (ru2 : RelV y u2)
    (hk : ∀ c o, c ∉ [z, TI, TO, i1, i2] → s.heap.get? c = some o → h'.get? c = some o) (hlt : ∀ c ∈ [z, TI, TO, i1, i2], c < s.heap.objs.size)
    (go : ∀ s', Inv X pins σ (upd (upd H T (.tup [x, y])) q (.lst (acc ++ [.ref T]))) s' → ZSt z TI TO i1 i2 a b (upd (upd H T (.tup [x, y])) q (.lst (acc ++ [.ref T]))) s'.heap (i + 1) → (∀ c ∈ [z, TI, TO, i1, i2], FpOk X pins (upd (upd H T (.tup [x, y])) q (.lst (acc ++ [.ref T]))) c) →
      codeAny (model X.prog X.w) A1 (.builtin "list.extend.loop" ⟨[.ref q, .ref z, .none], []⟩) Rs s') :
    wpAny (model X.prog X.w) A1.in1 (updateSeq q (·.push (.ref T)) >>= fun _ => again (.builtin "list.extend.loop" ⟨[.ref q, .ref z, .none], []⟩))
      (fun fin s' => match fin with | .done f => Rs (.ok f) s' | .again c' => c'.quiet = true ∧ codeAny (model X.prog X.w) A1 c' Rs s') (fun e s' => Rs (.error e) s') { s with heap := h' } := by
  have fr : H T = none := by rw [hT]; exact I.hok.fresh (Nat.le_refl _)
  have nTq : T ≠ q := fun e => by rw [e, hq] at fr; cases fr
  have nfq : ∀ c ∈ [z, TI, TO, i1, i2], c ≠ q := fun c hc e => by
    have w := (hf c hc).1
    rw [e, hq] at w
    cases w
  have new : ObjOk X.prog X.w (upd H T (.tup [x, y])) h' T (.tup [x, y]) := ⟨by show 2 ≤ sizeLine; decide, [u, u2], .cons ru (.cons ru2 .nil), ⟨_, hnew, rfl, _, rfl⟩⟩
  have I1 : Inv X pins σ (upd H T (.tup [x, y])) { s with heap := h' } := I.turnedNew (t' := s.toks) (ch := [z, TI, TO, i1, i2]) hk hf (Nat.le_of_eq hT.symm) new
  have hq1 : upd H T (.tup [x, y]) q = some (.lst acc) := by rw [upd_ne (Ne.symm nTq)]; exact hq
  obtain ⟨hz0, its, n, rv, hl, e⟩ := I1.lstM hq1
  have e' : h'.get? q = some { cls := .type "list", data := .seq its.toArray n } := e
  have sb : sizeLine = 16777216 := sizeLine_eq
  refine wpAny_bind (wpAny_updateSeq (s := { s with heap := h' }) e' rfl (wpAny_pure ⟨plainId_quiet PySem.F.plain_extend_loop _, ?_⟩) (by rw [List.size_toArray]; omega) (by show (its.toArray.push _).size ≤ sizeLine + 1; rw [Array.size_push, List.size_toArray]; omega))
  have I2 := I1.lset (f := (·.push (.ref T))) (its' := its ++ [.ref T]) (ys := acc ++ [.ref T]) (t' := s.toks) hq1 e (by simp) (rv.append (.cons (show RelV (.ref T) (.ref T) from rfl) .nil)) (by rw [List.length_append, List.length_singleton]; omega)
  have oth : ∀ c o, c ≠ q → h'.get? c = some o → (h'.update q (Obj.mapSeq (·.push (.ref T)))).get? c = some o := fun c o hc ho => (Heap.get?_update_other _ _ (Ne.symm hc)).trans ho
  refine go _ I2 ⟨by rw [show (h'.update q (Obj.mapSeq (·.push (.ref T)))).objs.size = h'.objs.size from Heap.size_update ..]; exact hTO', oth _ _ (nfq TI (by simp)) hTI, h1'.at fun o ho => oth _ _ (nfq i1 (by simp)) ho, h2'.at fun o ho => oth _ _ (nfq i2 (by simp)) ho, .inr ?_⟩ fun c hc => ?_
  · rcases hT0 with k | ⟨x0, y0, k⟩
    · refine ⟨T0, f, x, y, oth _ _ (nfq z (by simp)) z', ?_⟩
      rw [k, upd_ne nTq, upd_same]
    · refine ⟨T0, f, x0, y0, oth _ _ (nfq z (by simp)) z', ?_⟩
      rw [upd_ne (fun w => by rw [w, hq] at k; cases k), upd_ne (fun w => by rw [w, fr] at k; cases k)]
      exact k
  · obtain ⟨f0, f1⟩ := hf c hc
    refine ⟨?_, f1⟩
    rw [upd_ne (nfq c hc), upd_ne (by rw [hT]; exact Nat.ne_of_lt (hlt c hc))]
    exact f0
theorem zip_loop (hd : X.A.handled = none) (hA : A1.handled = none) (D : ZipApart z TI TO i1 i2 a b) (hxs : SqL X.K H0 a xs) (hys : SqL X.K H0 b ys) (hq0 : H0 q = none) (hsz : min xs.length ys.length ≤ 1000)
    (hdone : ∀ acc H s', Inv X pins σ H s' → Evl.Ex H0 H → H q = some (.lst acc) → Pairs H0 H xs ys acc (min xs.length ys.length) → Rs (.ok (.ret .none)) s') :
    ∀ (m i : Nat) (acc : List V) (H : Hp) (s : Shared), m + i = min xs.length ys.length → Inv X pins σ H s → (∀ c ∈ [z, TI, TO, i1, i2], FpOk X pins H c) → ZSt z TI TO i1 i2 a b H s.heap i → H q = some (.lst acc) → Evl.Ex H0 H → Pairs H0 H xs ys acc i →
      codeAny (model X.prog X.w) A1 (.builtin "list.extend.loop" ⟨[.ref q, .ref z, .none], []⟩) Rs s := by
  intro m
  induction m with
  | zero =>
    intro i acc H s hi I hf st hq ex g
    refine codeAny_builtin PySem.F.entry_extend_loop ?_
    rw [Around.under_plainId PySem.F.plain_extend_loop _]
    show wpAny _ A1.in1 (pyNext (.ref z) >>= _) _ _ s
    obtain ⟨hTO, hTI, h1, h2, hz⟩ := st
    obtain ⟨its, rv, p, _⟩ := I.list (Evl.ex_l ex hxs)
    obtain ⟨its2, rv2, p2, _⟩ := I.list (Evl.ex_l ex hys)
    have l1 := rv.length
    have l2 := rv2.length
    have he : its.toArray[i]? = none ∨ its2.toArray[i]? = none := by
      rcases Nat.le_total xs.length ys.length with c | c
      · exact .inl (by simp; omega)
      · exact .inr (by simp; omega)
    have ei : i = min xs.length ys.length := by omega
    have fin : ∀ h', (∀ c o, c ∉ [z, TI, TO, i1, i2] → s.heap.get? c = some o → h'.get? c = some o) → Rs (.ok (.ret .none)) { s with heap := h' } := fun h' hk => by
      subst ei
      exact hdone acc H _ (I.turnedL (t' := s.toks) (ch := [z, TI, TO, i1, i2]) hk hf) ex hq g
    rcases hz with ⟨hz, u, v, hTO⟩ | ⟨T, f, x0, y0, hz, hT⟩
    · refine wpAny_bind (wpAny_pyNext_zip_end (A := A1.in1) hA D hz hTI hTO h1 h2 p.isList p2.isList he fun h' hk => wpAny_pure (fin h' fun c o hb w => hk c o (fun k => hb (by simp [k])) (fun k => hb (by simp [k])) (fun k => hb (by simp [k])) (fun k => hb (by simp [k])) w))
    · obtain ⟨_, _, _, ⟨oT, hoT, _⟩⟩ := I.hok _ _ hT
      refine wpAny_bind (wpAny_pyNext_zip_end_held (A := A1.in1) hA D hz hoT hTI h1 h2 p.isList p2.isList he fun h' hk => wpAny_pure (fin h' fun c o hb w => hk c o (fun k => hb (by simp [k])) (fun k => hb (by simp [k])) (fun k => hb (by simp [k])) w))
  | succ m ih =>
    intro i acc H s hi I hf st hq ex g
    refine codeAny_builtin PySem.F.entry_extend_loop ?_
    rw [Around.under_plainId PySem.F.plain_extend_loop _]
    show wpAny _ A1.in1 (pyNext (.ref z) >>= _) _ _ s
    obtain ⟨hTO, hTI, h1, h2, hz⟩ := st
    obtain ⟨its, rv, p, _⟩ := I.list (Evl.ex_l ex hxs)
    obtain ⟨its2, rv2, p2, _⟩ := I.list (Evl.ex_l ex hys)
    have hx : xs[i]? = some (xs[i]'(by omega)) := List.getElem?_eq_getElem _
    have hy : ys[i]? = some (ys[i]'(by omega)) := List.getElem?_eq_getElem _
    obtain ⟨u, hu, ru⟩ := rv.get hx
    obtain ⟨u2, hu2, ru2⟩ := rv2.get hy
    have fr : H s.heap.objs.size = none := I.hok.fresh (Nat.le_refl _)
    have fr0 : H0 s.heap.objs.size = none := by
      cases k : H0 s.heap.objs.size with
      | none => rfl
      | some o => rw [ex _ _ k] at fr; cases fr
    have gl := g.1
    have lt1 : i1 < s.heap.objs.size := let ⟨_, e1, _⟩ := h1; Heap.lt_size e1
    have lt2 : i2 < s.heap.objs.size := let ⟨_, e2, _⟩ := h2; Heap.lt_size e2
    have ltI : TI < s.heap.objs.size := Heap.lt_size hTI
    have go : ∀ s', Inv X pins σ (upd (upd H s.heap.objs.size (.tup [xs[i]'(by omega), ys[i]'(by omega)])) q (.lst (acc ++ [.ref s.heap.objs.size]))) s' → ZSt z TI TO i1 i2 a b (upd (upd H s.heap.objs.size (.tup [xs[i]'(by omega), ys[i]'(by omega)])) q (.lst (acc ++ [.ref s.heap.objs.size]))) s'.heap (i + 1) → (∀ c ∈ [z, TI, TO, i1, i2], FpOk X pins (upd (upd H s.heap.objs.size (.tup [xs[i]'(by omega), ys[i]'(by omega)])) q (.lst (acc ++ [.ref s.heap.objs.size]))) c) →
      codeAny (model X.prog X.w) A1 (.builtin "list.extend.loop" ⟨[.ref q, .ref z, .none], []⟩) Rs s' := fun s' J st' hf' =>
      ih (i + 1) _ _ s' (by omega) J hf' st' upd_same (Evl.Ex.mut (ex.trans (Evl.Ex.new fr)) hq0) (g.next hx hy fr fr0 ⟨acc, hq⟩)
    rcases hz with ⟨hz, u0, v0, hTO⟩ | ⟨T, f, x0, y0, hz, hT⟩
    · have ltz : z < s.heap.objs.size := Heap.lt_size hz
      have ltO : TO < s.heap.objs.size := Heap.lt_size hTO
      refine wpAny_bind (wpAny_pyNext_zip_item (A := A1.in1) D hz hTI hTO h1 h2 p.isList p2.isList (x := u) (y := u2) (by simpa using hu) (by simpa using hu2) fun h' z' TO' h1' h2' hT' hsz' hk => ?_)
      exact zip_push D I hf hq (by omega) rfl (by rw [hsz']; exact Nat.lt_succ_of_lt ltO) z' (.inl rfl) (hk _ _ D.TIz D.TITO D.TIi1 D.TIi2 hTI) h1' h2' hT' ru ru2
        (fun c o hb w => hk c o (fun k => hb (by simp [k])) (fun k => hb (by simp [k])) (fun k => hb (by simp [k])) (fun k => hb (by simp [k])) w)
        (fun c hc => by
          simp only [List.mem_cons, List.not_mem_nil, or_false] at hc
          rcases hc with k | k | k | k | k <;> (rw [k]; assumption)) go
    · have ltz : z < s.heap.objs.size := Heap.lt_size hz
      have ltO : TO < s.heap.objs.size := hTO
      obtain ⟨_, _, _, ⟨oT, hoT, _⟩⟩ := I.hok _ _ hT
      refine wpAny_bind (wpAny_pyNext_zip_item_held (A := A1.in1) D hz hoT hTI h1 h2 p.isList p2.isList (x := u) (y := u2) (by simpa using hu) (by simpa using hu2) fun h' z' h1' h2' hT' hsz' hk => ?_)
      exact zip_push D I hf hq (by omega) rfl (by rw [hsz']; exact Nat.lt_succ_of_lt ltO) z' (.inr ⟨x0, y0, hT⟩) (hk _ _ D.TIz D.TIi1 D.TIi2 hTI) h1' h2' hT' ru ru2
        (fun c o hb w => hk c o (fun k => hb (by simp [k])) (fun k => hb (by simp [k])) (fun k => hb (by simp [k])) w)
        (fun c hc => by
          simp only [List.mem_cons, List.not_mem_nil, or_false] at hc
          rcases hc with k | k | k | k | k <;> (rw [k]; assumption)) go
end
/-- list(zip(e, e2)) -/
def tListZip (K : Frag) (ta : TA) : TE := fun σ H Q => ta σ H fun vs H1 => ∃ (a b : Addr) (xs ys : List V), vs = [.ref a, .ref b] ∧ SqL K H1 a xs ∧ SqL K H1 b ys ∧ min xs.length ys.length ≤ 1000 ∧
  ∀ (q : Addr) (acc : List V) (H' : Hp), Evl.Ex H1 H' → H1 q = none → H' q = some (.lst acc) → Pairs H1 H' xs ys acc (min xs.length ys.length) → Q (.ref q) H'
theorem pe_listZip {X : Cx} {e e2 : Expr} {ta : TA} {p p2 pos pos2 : Pos} (hc : X.calm = true) (hg : Gl X "list") (hm : X.mg "list" = none) (hg2 : Gl X "zip") (hm2 : X.mg "zip" = none) (ha : PA X [e, e2] ta)
    (hs : starEach [e, e2] X.env = (false, eval e X.env) :: starEach [e2] X.env := by rfl) (hpl : (backTo pos2 (starEach [e2] X.env)).any (·.1) = false := by rfl)
    (hs1 : starEach [.Call (.Name "zip" p2) [e, e2] [] pos2] X.env = [(false, eval (.Call (.Name "zip" p2) [e, e2] [] pos2) X.env)] := by rfl) :
    PE X (.Call (.Name "list" p) [.Call (.Name "zip" p2) [e, e2] [] pos2] [] pos) (tListZip X.K ta) := by
  refine ⟨fun pins s σ H Q I h => ?_⟩
  refine Call_ (ld_blt I hg hm bb_list ?_)
  refine PyProof.Rows.callWith_type1 (PyProof.Rows.args_cons ?_ rfl) hs1 rfl
  refine Call_ (ld_blt I hg2 hm2 PyProof.Rows.boot_zip (PyProof.Rows.callWith_type1 (thn (ha.run pos2 pins s σ H _ I h) fun us s1 ⟨vs, H1, I1, r1, q1⟩ => ?_) hs hpl))
  obtain ⟨a, b, xs, ys, ex, hqx, hqy, hmin, hQ⟩ := q1
  subst ex
  obtain ⟨u, u', rfl, ra, rb⟩ := r1.two
  cases (show u = Value.ref a from ra)
  cases (show u' = Value.ref b from rb)
  obtain ⟨its, rv, pl, _⟩ := I1.list hqx
  obtain ⟨its2, rv2, pl2, _⟩ := I1.list hqy
  have la : a < s1.heap.objs.size := pl.lt
  have lb : b < s1.heap.objs.size := pl2.lt
  refine call_zip_2 pl.isList pl2.isList fun h' hz hTI hTO h1 h2 hsz hk => PyProof.Rows.args_nil ?_
  have D := PySem.W.ktu_apart s1.heap.objs.size a b la lb
  have I2 : Inv X pins σ H1 { s1 with heap := h' } := I1.kept (t' := s1.toks) hk
  have hf2 : ∀ c ∈ [s1.heap.objs.size + 4, s1.heap.objs.size + 2, s1.heap.objs.size + 3, s1.heap.objs.size, s1.heap.objs.size + 1], FpOk X pins H1 c ∧ c < h'.objs.size := fun c hcm => by
    have k : s1.heap.objs.size ≤ c ∧ c < s1.heap.objs.size + 5 := by
      simp only [List.mem_cons, List.not_mem_nil, or_false] at hcm
      rcases hcm with k | k | k | k | k <;> rw [k]
      · exact ⟨Nat.le_add_right _ _, Nat.add_lt_add_left (show 4 < 5 by decide) _⟩
      · exact ⟨Nat.le_add_right _ _, Nat.add_lt_add_left (show 2 < 5 by decide) _⟩
      · exact ⟨Nat.le_add_right _ _, Nat.add_lt_add_left (show 3 < 5 by decide) _⟩
      · exact ⟨Nat.le_refl _, Nat.add_lt_add_left (show 0 < 5 by decide) _⟩
      · exact ⟨Nat.le_add_right _ _, Nat.add_lt_add_left (show 1 < 5 by decide) _⟩
    exact ⟨I1.fpOk k.1 (I1.hok.fresh k.1), by rw [hsz]; exact k.2⟩
  generalize hzz : s1.heap.objs.size + 4 = z at *
  generalize hTT : s1.heap.objs.size + 2 = TI at *
  generalize hOO : s1.heap.objs.size + 3 = TO at *
  generalize h11 : s1.heap.objs.size + 1 = i2 at *
  generalize h00 : s1.heap.objs.size = i1 at *
  have hA : X.A.handled = none := I.ok.hd hc
  refine callType_codes (Q₁ := fun obj s₁ => obj = .ref h'.objs.size ∧ s₁ = { s1 with heap := h'.push { cls := .type "list", data := .seq #[] } }) PySem.F.called_list (PySem.F.typeCall_list_1 _) PySem.F.entry_list_init
    (code_list_new _ ⟨rfl, rfl⟩) fun obj s₁ hob => ?_
  obtain ⟨rfl, rfl⟩ := hob
  have hS : (h'.push { cls := .type "list", data := .seq #[] }).get? h'.objs.size = some { cls := .type "list", data := .seq #[] } := Heap.get?_push_size _ rfl
  refine ⟨⟨_, hS, rfl⟩, PySem.F.args_list_init_2 _ _, ?_⟩
  have fr : H1 h'.objs.size = none := I2.hok.fresh (Nat.le_refl _)
  have J1 : Inv X pins σ (upd H1 h'.objs.size (.lst [])) { s1 with heap := h'.push { cls := .type "list", data := .seq #[] } } := I2.lnew (its := []) (t' := s1.toks) .nil (Nat.zero_le _)
  show wpAny _ _ (do let old ← Builtin.List.listItems (.ref h'.objs.size); Builtin.List.listUpdate (.ref h'.objs.size) (fun _ => #[]); letGo old.toList.reverse; Builtin.List.listExtendWith (.ref h'.objs.size) (.ref z) .none) _ _ _
  refine wpAny_bind ?_
  unfold Builtin.List.listItems
  refine wpAny_bind (wpAny_seqItems hS rfl (wpAny_pure ?_))
  show wpAny _ _ (updateSeq h'.objs.size (fun _ => #[]) >>= fun _ => letGo (#[] : Array Value).toList.reverse >>= fun _ => Builtin.List.listExtendWith (.ref h'.objs.size) (.ref z) .none) _ _ _
  refine wpAny_bind (wpAny_updateSeq hS rfl ?_)
  have J2 := J1.lset (f := fun _ => #[]) (its := []) (its' := []) (ys := []) (t' := s1.toks) upd_same hS rfl .nil (Nat.zero_le _)
  rw [upd_upd] at J2
  refine wpAny_bind (wpAny_letGo ?_)
  have nz : h'.objs.size ≠ z := Nat.ne_of_gt (hf2 z (by simp)).2
  have keep : ∀ (g : Heap) (f : Obj → Obj), (∀ c o, h'.get? c = some o → g.get? c = some o) → ∀ c o, h'.get? c = some o → (g.update h'.objs.size f).get? c = some o := fun g f k c o e => (Heap.get?_update_other _ _ (Ne.symm (Nat.ne_of_lt (Heap.lt_size e)))).trans (k c o e)
  have k1 : ∀ c o, h'.get? c = some o → (h'.push { cls := .type "list", data := .seq #[] }).get? c = some o := fun c o e => Heap.get?_push_of_some _ e
  have k2 := keep _ (Obj.mapSeq (fun _ => (#[] : Array Value))) k1
  have zty : ∀ {s' : Shared}, (∀ c o, h'.get? c = some o → s'.heap.get? c = some o) → s'.TypeIs (.ref z) "zip" := fun k => ⟨_, k _ _ hz, rfl⟩
  unfold Builtin.List.listExtendWith
  refine wpAny_bind (wpAny_typeOf (zty k2) ?_)
  have e1 : Builtin.List.listSameRef (.ref h'.objs.size) (.ref z) = false := by simp [Builtin.List.listSameRef, nz]
  have e2' : (Value.type "zip" == Value.type "list") = false := by decide
  have e3 : (Value.type "zip" == Value.type "tuple") = false := by decide
  simp only [e1, e2', e3, Bool.or_false, Bool.false_eq_true, if_false]
  refine wpAny_bind (wpAny_pyIter_zip (k2 _ _ hz) ?_)
  refine wpAny_bind (wpAny_holding ?_)
  unfold Builtin.List.listLengthHint
  refine wpAny_bind (wpAny_specialOf (zty k2) zip_nolen ?_)
  show wpAny _ _ (specialOf (Value.ref z) (Str.ofString "__length_hint__") >>= _) _ _ _
  refine wpAny_bind (wpAny_specialOf (zty k2) zip_nohint ?_)
  refine wpAny_pure ?_
  show wpAny _ _ (rule "list.extend.makes-room" >>= fun _ => Builtin.List.listTouch (.ref h'.objs.size) >>= fun _ => again (.builtin "list.extend.loop" ⟨[.ref h'.objs.size, .ref z, .none], []⟩)) _ _ _
  refine wpAny_bind (wpAny_rule ?_)
  refine wpAny_bind ?_
  show wpAny _ _ (updateSeq h'.objs.size (·.push .none) >>= fun _ => updateSeq h'.objs.size (·.pop)) _ _ _
  obtain ⟨w0, its3, n3, r3, l3, e4⟩ := J2.lstM upd_same
  cases r3
  refine wpAny_bind (wpAny_updateSeq e4 rfl ?_)
  have J3 := J2.lset (f := (·.push Value.none)) (its' := [Value.none]) (ys := [.non]) (t' := s1.toks) upd_same e4 (by simp) (.cons rfl .nil) (by rw [List.length_singleton, sizeLine_eq]; decide)
  obtain ⟨w4, its4, n4, r4, l4, e5⟩ := J3.lstM upd_same
  obtain ⟨u4, rfl, ru4⟩ := r4.one
  refine wpAny_updateSeq e5 rfl ?_ (by show 1 ≤ sizeLine; rw [sizeLine_eq]; decide) (by show 0 ≤ sizeLine + 1; exact Nat.zero_le _)
  have J4 := J3.lset (f := (·.pop)) (its := [u4]) (its' := []) (ys := []) (t' := s1.toks) upd_same e5 (by rfl) .nil (Nat.zero_le _)
  rw [upd_upd, upd_upd] at J4
  have k3 := keep _ (Obj.mapSeq (·.pop)) (keep _ (Obj.mapSeq (·.push Value.none)) k2)
  refine wpAny_pure ⟨plainId_quiet PySem.F.plain_extend_loop _, ?_⟩
  refine zip_loop (X := X) (A1 := X.A.in1) (Rs := wants (fun r s₂ => r = .none ∧ EP X pins σ Q (.ref h'.objs.size) s₂) X.xe) (pins := pins) (σ := σ) (H0 := H1) (xs := xs) (ys := ys) hA hA D hqx hqy fr hmin (fun acc H' s' J hex hq hp => ⟨rfl, .ref h'.objs.size, H', J, rfl, hQ _ acc H' hex fr hq hp⟩) (min xs.length ys.length) 0 [] (upd H1 h'.objs.size (.lst [])) _ rfl J4 (fun c hcm => ?_) ?_ upd_same (Evl.Ex.new fr) ⟨rfl, fun j x y hj => absurd hj (Nat.not_lt_zero _)⟩
  · obtain ⟨f0, f1⟩ := (hf2 c hcm).1
    refine ⟨?_, f1⟩
    rw [upd_ne (Nat.ne_of_lt (hf2 c hcm).2)]
    exact f0
  · refine ⟨Heap.lt_size (k3 _ _ hTO), k3 _ _ hTI, h1.at fun o e => k3 _ _ e, h2.at fun o e => k3 _ _ e, .inl ⟨k3 _ _ hz, _, _, k3 _ _ hTO⟩⟩
section
variable {K : Frag} {C : Addr} {δ : Den} {ta tb : TE} {xs ys : List DV}
theorem reps_pairs {H0 H' : Hp} {O : Addr → Bool} (hO : Good O H0) (hx : Evl.Ex H0 H') : ∀ {vs ws acc : List V} {ds es : List DV}, Reps K C (msk O H') vs ds → Reps K C (msk O H') ws es → acc.length = min vs.length ws.length →
    (∀ (j : Nat) (x y : V), vs[j]? = some x → ws[j]? = some y → ∃ T, acc[j]? = some (.ref T) ∧ H' T = some (.tup [x, y]) ∧ H0 T = none) → Reps K C (msk O H') acc (zipD ds es)
  | [], _, acc, _, _, .nil, _, hl, _ => by
    have : acc = [] := List.eq_nil_of_length_eq_zero (by simpa using hl)
    rw [this]
    exact .nil
  | v :: vs, [], acc, _, _, .cons _ _, .nil, hl, _ => by
    have : acc = [] := List.eq_nil_of_length_eq_zero (by simpa using hl)
    rw [this]
    exact .nil
  | v :: vs, w :: ws, [], _, _, .cons _ _, .cons _ _, hl, _ => by simp at hl
  | v :: vs, w :: ws, a :: acc, _, _, .cons h r, .cons h2 r2, hl, g => by
    obtain ⟨T, e1, e2, e3⟩ := g 0 v w rfl rfl
    have ea : a = .ref T := by simpa using e1
    subst ea
    refine .cons (.tup (SqT.of ?_) (.cons h (.cons h2 .nil))) (reps_pairs hO hx r r2 (by simp at hl ⊢; omega) fun j x y hj hj2 => ?_)
    · rw [msk_at (hO.new e3)]
      exact e2
    · obtain ⟨T', f1, f2, f3⟩ := g (j + 1) x y (by simpa using hj) (by simpa using hj2)
      exact ⟨T', by simpa using f1, f2, f3⟩
theorem ev_listZip (h : EvD K C ta δ (.lst xs)) (h2 : EvD K C tb δ (.lst ys)) (hl : xs.length ≤ 1000) : EvD K C (tListZip K (tCons ta (tCons tb tNil))) δ (.lst (zipD xs ys)) := fun O σ H Q g e q =>
  h O σ H _ g e fun v H1 e1 r1 => h2 O σ H1 _ (g.ex e1) (e.up e1) fun w H2 f2 r2 => by
    have g2 := (g.ex e1).ex f2
    cases r1.up f2 with
    | lst hq hr =>
      cases r2 with
      | lst hq2 hr2 =>
        refine ⟨_, _, _, _, rfl, sql_of hq, sql_of hq2, by rw [hr.len]; omega, fun q' acc H' ex hn hq' hp => ?_⟩
        refine q _ _ ((e1.trans f2).trans ex) (.lst (by rw [msk_at (g2.new hn)]; exact hq') ?_)
        exact reps_pairs g2 ex (hr.up ex) (hr2.up ex) hp.1 fun j x y hj hj2 => hp.2 j x y (by
          have a1 := (List.getElem?_eq_some_iff.mp hj).1
          have a2 := (List.getElem?_eq_some_iff.mp hj2).1
          omega) hj hj2
end
end Dt
set_option Elab.async false
set_option linter.all false
set_option maxRecDepth 100000
set_option maxHeartbeats 4000000
/-! The rules with the fragment named: so that a reading made within a comprehension does not speak of its own context. -/
namespace Dt
open PySem PySem.Spec PyProof.Rows L2
section
variable {X : Cx} {K : Frag}
theorem k_sl (h : X.K = K) : SlR X (rSlU K) := by subst h; exact sl_list.or sl_tupA
theorem k_sum (h : X.K = K) (hc : X.calm = true) : CallR X (.builtin "sum") (rSumU K) := by subst h; exact call_sumU hc
theorem k_any (h : X.K = K) (hc : X.calm = true) : CallR X (.builtin "any") (rAny K) := by subst h; exact cr_any hc
theorem k_all (h : X.K = K) (hc : X.calm = true) : CallR X (.builtin "all") (rAll K) := by subst h; exact cr_all hc
theorem k_max (h : X.K = K) (hc : X.calm = true) : CallR X (.builtin "max") (rMax K) := by subst h; exact cr_max hc
theorem k_min (h : X.K = K) (hc : X.calm = true) : CallR X (.builtin "min") (rMin K) := by subst h; exact cr_min hc
theorem k_lenS (h : X.K = K) : CallR X (.builtin "len") (rLen K) := by subst h; exact call_len_seq
theorem k_len {C D : Addr} {k : Nat} (h : X.K = K) (L : Loc X.K X.mg C D) (hr : Room k X.A) (hk : 2 ≤ k) : CallR X (.builtin "len") (rLenU K C) := by subst h; exact call_lenU L hr hk
theorem k_list (h : X.K = K) : CallR X (.type "list") (rListOf K) := by subst h; exact call_list_of
theorem k_tuple (h : X.K = K) : CallR X (.type "tuple") (rTupleOf K) := by subst h; exact call_tuple_of
theorem k_sorted (h : X.K = K) : CallR X (.builtin "sorted") (rSortedI K) := by subst h; exact cr_sortedI
theorem k_isi (h : X.K = K) : CallR X (.builtin "isinstance") (rIsi K) := by subst h; exact call_isi
theorem k_isiT (h : X.K = K) : CallR X (.builtin "isinstance") (rIsiT K) := by subst h; exact call_isiT
theorem k_set {w : World} (h : X.K = K) (hw : X.w = w) (hc : X.calm = true) : CallR X (.type "set") (rSetL K w) := by subst h; subst hw; exact cr_setL hc
theorem k_sortedSet {w : World} (hw : X.w = w) (hc : X.calm = true) : CallR X (.builtin "sorted") (rSortedSet w) := by subst hw; exact cr_sortedSet hc
theorem k_add (h : X.K = K) : OpR X (binaryOp .Add) (rAddU K) := by subst h; exact op_add.or (op_cat.or op_catA)
theorem k_mul (h : X.K = K) : OpR X (binaryOp .Mult) (rMulU K) := by subst h; exact op_mul.or (op_rep.or op_repT)
theorem k_eqD (h : X.K = K) (hu : X.A.units + 64 < cLine) : OpR X (compareOp .Eq) (rEqD K) := by subst h; exact op_eqD hu
theorem k_neD (h : X.K = K) (hu : X.A.units + 64 < cLine) : OpR X (compareOp .NotEq) (rNeD K) := by subst h; exact op_neD hu
theorem k_ix (h : X.K = K) : IxR X (rIx K) := by subst h; exact ix_seq
theorem k_mindex (h : X.K = K) : MtR X "list.index" (rIndex K) := by subst h; exact mt_index
theorem k_rev {e : Expr} {te : TE} {k : Nat} {p1 p2 p3 pos : Pos} (h : X.K = K) (he : PE X e te) : PE X (.Subscript e (.Slice none none (some (.UnaryOp .USub (.Constant (.int 1) k p1) p2)) p3) pos) (tRevL K te) := by subst h; exact pe_revL he
theorem k_slot {e : Expr} {f : Str} {pos : Pos} {ta : TE} (h : X.K = K) (he : PE X e ta) (hb : attributeBase e f X.env (eval e X.env) = eval e X.env := by rfl) : PE X (.Attribute e f pos) (SlX.tSl K ta f) := by subst h; exact SlX.pe_sl he hb
theorem k_star {e : Expr} {es : List Expr} {te : TE} {t : TA} {p : Pos} (h : X.K = K) (he : PE X e te) (hr : PA X es t) (hs : starEach (.Starred e p :: es) X.env = (true, eval e X.env) :: starEach es X.env := by rfl) : PA X (.Starred e p :: es) (StX.tStar K te t) := by subst h; exact StX.pa_star he hr hs
theorem k_ilist {tg l : Expr} {tl : TE} (h : X.K = K) (hl : PE X l tl) : PI X tg l (iList K tl) := by subst h; exact pi_list hl
theorem k_itup {tg l : Expr} {tl : TE} (h : X.K = K) (hl : PE X l tl) : PI X tg l (iTup K tl) := by subst h; exact pi_tup hl
theorem k_ienum {e : Expr} {ta : TA} {p pos tpos : Pos} {elts : List Expr} {kk : Nat} (h : X.K = K) (hg : Gl X "enumerate") (hm : X.mg "enumerate" = none) (ha : PA X [e] ta) (hs : starEach [e] X.env = [(false, eval e X.env)] := by rfl) :
    PI X (.Tuple elts kk tpos) (.Call (.Name "enumerate" p) [e] [] pos) (iEnum K ta) := by subst h; exact pi_enum hg hm ha hs
theorem k_ienumT {e : Expr} {ta : TA} {p pos tpos : Pos} {elts : List Expr} {kk : Nat} (h : X.K = K) (hg : Gl X "enumerate") (hm : X.mg "enumerate" = none) (ha : PA X [e] ta) (hs : starEach [e] X.env = [(false, eval e X.env)] := by rfl) :
    PI X (.Tuple elts kk tpos) (.Call (.Name "enumerate" p) [e] [] pos) (iEnumT K ta) := by subst h; exact pi_enumU hg hm ha hs
theorem k_izip {e e2 : Expr} {ta : TA} {p pos tpos : Pos} {elts : List Expr} {kk : Nat} (h : X.K = K) (hg : Gl X "zip") (hm : X.mg "zip" = none) (ha : PA X [e, e2] ta)
    (hs : starEach [e, e2] X.env = (false, eval e X.env) :: starEach [e2] X.env := by rfl) (hpl : (backTo pos (starEach [e2] X.env)).any (·.1) = false := by rfl) :
    PI X (.Tuple elts kk tpos) (.Call (.Name "zip" p) [e, e2] [] pos) (RZ.iZipA K ta) := by subst h; exact RZ.pi_zipA hg hm ha hs hpl
theorem k_listZip {e e2 : Expr} {ta : TA} {p p2 pos pos2 : Pos} (h : X.K = K) (hc : X.calm = true) (hg : Gl X "list") (hm : X.mg "list" = none) (hg2 : Gl X "zip") (hm2 : X.mg "zip" = none) (ha : PA X [e, e2] ta)
    (hs : starEach [e, e2] X.env = (false, eval e X.env) :: starEach [e2] X.env := by rfl) (hpl : (backTo pos2 (starEach [e2] X.env)).any (·.1) = false := by rfl)
    (hs1 : starEach [.Call (.Name "zip" p2) [e, e2] [] pos2] X.env = [(false, eval (.Call (.Name "zip" p2) [e, e2] [] pos2) X.env)] := by rfl) :
    PE X (.Call (.Name "list" p) [.Call (.Name "zip" p2) [e, e2] [] pos2] [] pos) (tListZip K ta) := by subst h; exact pe_listZip hc hg hm hg2 hm2 ha hs hpl hs1
end
end Dt
set_option Elab.async false
set_option linter.all false
set_option maxRecDepth 100000
set_option maxHeartbeats 4000000
/-! What may change: W, of what is owned, O. -/
namespace Dt
open PySem PySem.Spec PyProof.Rows L2
open Evl (Ex)
abbrev AS := Addr → Bool
abbrev Res := AS → AS → Hp → Prop
/-- all but what may change stays -/
def Ch (W : AS) (H H' : Hp) : Prop := ∀ a o, H a = some o → W a = false → H' a = some o
theorem Ch.refl {W : AS} {H : Hp} : Ch W H H := fun _ _ h _ => h
theorem Ch.trans {W : AS} {H H1 H2 : Hp} (a : Ch W H H1) (b : Ch W H1 H2) : Ch W H H2 := fun x o h w => b x o (a x o h w) w
theorem Ch.of {W : AS} {H H' : Hp} (e : Evl.Ex H H') : Ch W H H' := fun a o h _ => e a o h
structure OkA (W O : AS) (H : Hp) : Prop where
  sub : ∀ a, W a = true → O a = true
  good : Good O H
theorem OkA.ex {W O : AS} {H H' : Hp} (k : OkA W O H) (e : Evl.Ex H H') : OkA W O H' := ⟨k.sub, k.good.ex e⟩
theorem Ch.msk {W O : AS} {H H' : Hp} (k : OkA W O H) (c : Ch W H H') : Evl.Ex (msk O H) (msk O H') := fun a o h => by
  unfold Dt.msk at h ⊢
  by_cases q : O a = true
  · rw [if_pos q] at h; cases h
  · rw [if_neg q] at h ⊢
    exact c a o h (Bool.eq_false_iff.mpr fun w => q (k.sub a w))
def Stab (P : Res) : Prop := ∀ (W O : AS) (H H' : Hp), OkA W O H → Evl.Ex H H' → P W O H → P W O H'
theorem EnvD.to {K : Frag} {C : Addr} {O O' : AS} {H H' : Hp} {σ : L2.St} {δ : Den} (e : EnvD K C O H σ δ) (x : Evl.Ex (msk O H) (msk O' H')) : EnvD K C O' H' σ δ := ⟨e.len, fun i d h => by
  obtain ⟨v, h1, h2⟩ := e.at_ i d h
  exact ⟨v, h1, h2.mono x⟩⟩
section
variable (K : Frag) (C : Addr)
def EvM (t : TE) (δ : Den) (P : Res) (R : DV → Res) : Prop := ∀ (W O : AS) (σ : L2.St) (H : Hp) (Q : VK), OkA W O H → EnvD K C O H σ δ → P W O H →
  (∀ d v H', R d W O H' → Ch W H H' → OkA W O H' → Rep K C (msk O H') v d → Q v H') → t σ H Q
def EaM (t : TA) (δ : Den) (P : Res) (R : List DV → Res) : Prop := ∀ (W O : AS) (σ : L2.St) (H : Hp) (Q : List V → Hp → Prop), OkA W O H → EnvD K C O H σ δ → P W O H →
  (∀ ds vs H', R ds W O H' → Ch W H H' → OkA W O H' → Reps K C (msk O H') vs ds → Q vs H') → t σ H Q
def EtM (t : TT) (δ : Den) (P : Res) (R : Bool → Res) : Prop := ∀ (W O : AS) (σ : L2.St) (H : Hp) (Q : Bool → Hp → Prop), OkA W O H → EnvD K C O H σ δ → P W O H →
  (∀ b H', R b W O H' → Ch W H H' → OkA W O H' → Q b H') → t σ H Q
def StM (t : TS) (δ : Den) (P : Res) (N : Den → Res) (R : DV → Res) : Prop := ∀ (W O : AS) (σ : L2.St) (H : Hp) (D : Ends), OkA W O H → EnvD K C O H σ δ → P W O H →
  (∀ δ' σ' H', N δ' W O H' → Ch W H H' → OkA W O H' → EnvD K C O H' σ' δ' → D.nx σ' H') → (∀ d v H', R d W O H' → Ch W H H' → OkA W O H' → Rep K C (msk O H') v d → D.rt v H') → t D σ H
end
section
variable {K : Frag} {C : Addr} {δ : Den} {d d1 d2 : DV} {ta tb te : TE} {tt : TT} {ds es : List DV} {P P' : Res} {R R' : DV → Res}
theorem em_pure (h : EvD K C te δ d) (hP : Stab P) : EvM K C te δ P (fun x W O H => x = d ∧ P W O H) := fun W O σ H Q ok e p q =>
  h O σ H _ ok.good e fun v H1 e1 r1 => q d v H1 ⟨rfl, hP W O H H1 ok e1 p⟩ (.of e1) (ok.ex e1) r1
theorem etm_pure {b : Bool} (h : EvT K C tt δ b) (hP : Stab P) : EtM K C tt δ P (fun x W O H => x = b ∧ P W O H) := fun W O σ H Q ok e p q =>
  h O σ H _ ok.good e fun H1 e1 => q b H1 ⟨rfl, hP W O H H1 ok e1 p⟩ (.of e1) (ok.ex e1)
theorem em_post (h : EvM K C te δ P R) (k : ∀ d W O H, R d W O H → R' d W O H) : EvM K C te δ P R' := fun W O σ H Q ok e p q => h W O σ H Q ok e p fun d v H1 r => q d v H1 (k _ _ _ _ r)
theorem em_pre (h : EvM K C te δ P R) (k : ∀ W O H, P' W O H → P W O H) : EvM K C te δ P' R := fun W O σ H Q ok e p q => h W O σ H Q ok e (k _ _ _ p) q
/-- x op y -/
theorem em_op {r : R2} {R1 : DV → Res} {R2' : DV → DV → Res} (ha : EvM K C ta δ P R1) (hb : ∀ x, EvM K C tb δ (R1 x) (R2' x)) (hr : ∀ x y W O H, R2' x y W O H → ∃ d, R2D K C r x y d ∧ ∀ H', OkA W O H → Evl.Ex H H' → R d W O H') : EvM K C (tOp r ta tb) δ P R := fun W O σ H Q ok e p q =>
  ha W O σ H _ ok e p fun x v H1 r1 c1 ok1 w1 => hb x W O σ H1 _ ok1 (e.to (c1.msk ok)) r1 fun y u H2 r2 c2 ok2 w2 => by
    obtain ⟨d, hd, k⟩ := hr x y W O H2 r2
    exact hd O H2 v u Q ok2.good (w1.mono (c2.msk ok1)) w2 fun z H3 e3 w3 => q d z H3 (k H3 ok2 e3) ((c1.trans c2).trans (.of e3)) (ok2.ex e3) w3
theorem eam_nil (hP : ∀ W O H, P W O H → True) : EaM K C tNil δ P (fun ds W O H => ds = [] ∧ P W O H) := fun W O σ H Q ok e p q => q [] [] H ⟨rfl, p⟩ .refl ok .nil
theorem eam_cons {tr : TA} {R1 : DV → Res} {R2' : DV → List DV → Res} (ha : EvM K C ta δ P R1) (hb : ∀ x, EaM K C tr δ (R1 x) (R2' x)) : EaM K C (tCons ta tr) δ P (fun ds W O H => ∃ x xs, ds = x :: xs ∧ R2' x xs W O H) := fun W O σ H Q ok e p q =>
  ha W O σ H _ ok e p fun x v H1 r1 c1 ok1 w1 => hb x W O σ H1 _ ok1 (e.to (c1.msk ok)) r1 fun xs vs H2 r2 c2 ok2 w2 => q (x :: xs) (v :: vs) H2 ⟨x, xs, rfl, r2⟩ (c1.trans c2) ok2 (.cons (w1.mono (c2.msk ok1)) w2)
theorem eam_pure {t : TA} (h : EvA K C t δ ds) (hP : Stab P) : EaM K C t δ P (fun x W O H => x = ds ∧ P W O H) := fun W O σ H Q ok e p q =>
  h O σ H _ ok.good e fun vs H1 e1 r1 => q ds vs H1 ⟨rfl, hP W O H H1 ok e1 p⟩ (.of e1) (ok.ex e1) r1
theorem eam_post {t : TA} {S S' : List DV → Res} (h : EaM K C t δ P S) (k : ∀ d W O H, S d W O H → S' d W O H) : EaM K C t δ P S' := fun W O σ H Q ok e p q => h W O σ H Q ok e p fun d v H1 r => q d v H1 (k _ _ _ _ r)
theorem em_tup {tr : TA} {S : List DV → Res} (h : EaM K C tr δ P S) (hl : ∀ ds W O H, S ds W O H → ds.length ≤ 1000) (hS : ∀ ds, Stab (S ds)) : EvM K C (tTup tr) δ P (fun d W O H => ∃ ds, d = .tup ds ∧ S ds W O H) := fun W O σ H Q ok e p q =>
  h W O σ H _ ok e p fun ds vs H1 r1 c1 ok1 w1 => ⟨sz_ok (by rw [w1.len]; exact hl _ _ _ _ r1), fun a ha => q (.tup ds) _ _ ⟨ds, rfl, hS ds W O _ _ ok1 (Evl.Ex.new ha) r1⟩ (c1.trans (.of (Evl.Ex.new ha))) (ok1.ex (Evl.Ex.new ha)) (rep_newT ok1.good ha w1)⟩
theorem em_if {S : Bool → Res} (h : EtM K C tt δ P S) (h1 : EvM K C ta δ (S true) R) (h2 : EvM K C tb δ (S false) R) : EvM K C (tIf tt ta tb) δ P R := fun W O σ H Q ok e p q =>
  h W O σ H _ ok e p fun b H1 s1 c1 ok1 => by
    cases b with
    | true =>
      show ta σ H1 Q
      exact h1 W O σ H1 Q ok1 (e.to (c1.msk ok)) s1 fun d v H2 r2 c2 ok2 w2 => q d v H2 r2 (c1.trans c2) ok2 w2
    | false =>
      show tb σ H1 Q
      exact h2 W O σ H1 Q ok1 (e.to (c1.msk ok)) s1 fun d v H2 r2 c2 ok2 w2 => q d v H2 r2 (c1.trans c2) ok2 w2
/-! ### calls that change -/
end
/-- a def by what it is given, what must hold, what holds behind it -/
def spM (K : Frag) (C : Addr) {α : Type} (arg : α → List DV) (P : α → Res) (R : α → DV → Res) : Sp := fun vs H Q _ => ∃ (a : α) (W O : AS), OkA W O H ∧ P a W O H ∧ Reps K C (msk O H) vs (arg a) ∧
  ∀ d v H', R a d W O H' → Ch W H H' → OkA W O H' → Rep K C (msk O H') v d → Q v H'
section
variable {K : Frag} {C : Addr} {δ δ1 δ2 : Den} {d d1 d2 : DV} {ta tb te : TE} {tt : TT} {t u : TS} {ds es xs : List DV} {P P' : Res} {R R' : DV → Res} {N N' M : Den → Res} {is : List Nat} {g : TG}
theorem em_fn {α : Type} {arg : α → List DV} {Pf : α → Res} {Rf : α → DV → Res} {tr : TA} {S : List DV → Res} (h : EaM K C tr δ P S) (hs : ∀ ds W O H, S ds W O H → ∃ a, ds = arg a ∧ Pf a W O H ∧ ∀ d H', Rf a d W O H' → Ch W H H' → OkA W O H' → R d W O H') : EvM K C (tFn (spM K C arg Pf Rf) tr) δ P R := fun W O σ H Q ok e p q =>
  h W O σ H _ ok e p fun ds vs H1 r1 c1 ok1 w1 => by
    obtain ⟨a, rfl, hp, hr⟩ := hs ds W O H1 r1
    exact ⟨a, W, O, ok1, hp, w1, fun d v H2 r2 c2 ok2 w2 => q d v H2 (hr d H2 r2 c2 ok2) (c1.trans c2) ok2 w2⟩
/-! ### statements -/
theorem seq_assoc {a b c : TS} : tSeq (tSeq a b) c = tSeq a (tSeq b c) := rfl
theorem sm_seq (h : StM K C t δ P M R) (k : ∀ δ', StM K C u δ' (M δ') N R) : StM K C (tSeq t u) δ P N R := fun W O σ H D ok e p q1 q2 =>
  h W O σ H { D with nx := u D } ok e p (fun δ' σ' H' m c ok' e' => k δ' W O σ' H' D ok' e' m (fun δ2 σ2 H2 n c2 => q1 δ2 σ2 H2 n (c.trans c2)) fun d v H2 r c2 => q2 d v H2 r (c.trans c2)) q2
theorem sm_asg (h : EvM K C te δ P R') (hg : ∀ d, ∃ is δ', TgD K C is g d δ δ' ∧ ∀ W O H, R' d W O H → N δ' W O H) : StM K C (tAsg te g) δ P N R := fun W O σ H D ok e p q1 _ =>
  h W O σ H _ ok e p fun d v H1 r1 c1 ok1 w1 => by
    obtain ⟨is, δ', hg1, hg2⟩ := hg d
    exact hg1 O σ H1 v _ (e.to (c1.msk ok)) w1 fun σ' e' _ => q1 δ' σ' H1 (hg2 W O H1 r1) c1 ok1 e'
/-- x = e, then the rest -/
theorem sm_let {i : Nat} (h : EvM K C te δ P R') (k : ∀ d, StM K C u (δ.set i (some d)) (R' d) N R) : StM K C (tSeq (tAsg te (gName i)) u) δ P N R := fun W O σ H D ok e p q1 q2 =>
  h W O σ H _ ok e p fun d v H1 r1 c1 ok1 w1 => k d W O _ H1 D ok1 ((e.to (c1.msk ok)).set w1) r1 (fun δ2 σ2 H2 n c2 => q1 δ2 σ2 H2 n (c1.trans c2)) fun d v H2 r c2 => q2 d v H2 r (c1.trans c2)
theorem sm_let1 {i : Nat} (h : EvM K C te δ P R') (k : ∀ d W O H, R' d W O H → N (δ.set i (some d)) W O H) : StM K C (tAsg te (gName i)) δ P N R := fun W O σ H D ok e p q1 q2 =>
  h W O σ H _ ok e p fun d v H1 r1 c1 ok1 w1 => q1 _ _ H1 (k d W O H1 r1) c1 ok1 ((e.to (c1.msk ok)).set w1)
theorem sm_letT (h : EvM K C te δ P R') (k : ∀ d, (∃ W O H, R' d W O H) → ∃ is δ', TgD K C is g d δ δ' ∧ StM K C u δ' (R' d) N R) : StM K C (tSeq (tAsg te g) u) δ P N R := fun W O σ H D ok e p q1 q2 =>
  h W O σ H _ ok e p fun d v H1 r1 c1 ok1 w1 => by
    obtain ⟨is, δ', hg, hu⟩ := k d ⟨W, O, H1, r1⟩
    exact hg O σ H1 v _ (e.to (c1.msk ok)) w1 fun σ' e' _ => hu W O σ' H1 D ok1 e' r1 (fun δ2 σ2 H2 n c2 => q1 δ2 σ2 H2 n (c1.trans c2)) fun d v H2 r c2 => q2 d v H2 r (c1.trans c2)
theorem sm_ret (h : EvM K C te δ P R) : StM K C (tRet te) δ P N R := fun W O σ H D ok e p _ q2 => h W O σ H _ ok e p fun d v H1 r c ok1 w => q2 d v H1 r c ok1 w
theorem sm_next (h : ∀ W O H, P W O H → N δ W O H) : StM K C tNext δ P N R := fun W O σ H D ok e p q1 _ => q1 δ σ H (h W O H p) .refl ok e
theorem sm_if {S : Bool → Res} (h : EtM K C tt δ P S) (h1 : StM K C t δ (S true) N R) (h2 : StM K C u δ (S false) N R) : StM K C (tIfS tt t u) δ P N R := fun W O σ H D ok e p q1 q2 =>
  h W O σ H _ ok e p fun b H1 s1 c1 ok1 => by
    cases b with
    | true => exact iteT (h1 W O σ H1 D ok1 (e.to (c1.msk ok)) s1 (fun δ2 σ2 H2 n c2 => q1 δ2 σ2 H2 n (c1.trans c2)) fun d v H2 r c2 => q2 d v H2 r (c1.trans c2))
    | false => exact iteF (h2 W O σ H1 D ok1 (e.to (c1.msk ok)) s1 (fun δ2 σ2 H2 n c2 => q1 δ2 σ2 H2 n (c1.trans c2)) fun d v H2 r c2 => q2 d v H2 r (c1.trans c2))
theorem sm_drop (h : EvM K C te δ P R') (k : ∀ d W O H, R' d W O H → N δ W O H) : StM K C (tDrop te) δ P N R := fun W O σ H D ok e p q1 _ =>
  h W O σ H _ ok e p fun d v H1 r1 c1 ok1 _ => q1 δ σ H1 (k d W O H1 r1) c1 ok1 (e.to (c1.msk ok))
theorem sm_pre (h : StM K C t δ P N R) (k : ∀ W O H, P' W O H → P W O H) : StM K C t δ P' N R := fun W O σ H D ok e p => h W O σ H D ok e (k _ _ _ p)
theorem sm_post (h : StM K C t δ P N R) (kn : ∀ δ' W O H, N δ' W O H → N' δ' W O H) (kr : ∀ d W O H, R d W O H → R' d W O H) : StM K C t δ P N' R' := fun W O σ H D ok e p q1 q2 => h W O σ H D ok e p (fun δ' σ' H' n => q1 δ' σ' H' (kn _ _ _ _ n)) fun d v H' r => q2 d v H' (kr _ _ _ _ r)
theorem sm_pure {N0 : Den → Prop} {R0 : DV → Prop} (h : StD K C t δ N0 R0) (hP : Stab P) : StM K C t δ P (fun δ' W O H => N0 δ' ∧ P W O H) (fun d W O H => R0 d ∧ P W O H) := fun W O σ H D ok e p q1 q2 =>
  h O σ H D ok.good e (fun δ' σ' H' n x e' => q1 δ' σ' H' ⟨n, hP W O H H' ok x p⟩ (.of x) (ok.ex x) e') fun d v H' r x w => q2 d v H' ⟨r, hP W O H H' ok x p⟩ (.of x) (ok.ex x) w
/-- what P holds of the world may be told ahead -/
theorem sm_told {A : Prop} (h : ∀ W O H, P W O H → A) (k : A → StM K C t δ P N R) : StM K C t δ P N R := fun W O σ H D ok e p => k (h W O H p) W O σ H D ok e p
theorem sm_ex {α : Type} {Pa : α → Res} (k : ∀ a, StM K C t δ (Pa a) N R) : StM K C t δ (fun W O H => ∃ a, Pa a W O H) N R := fun W O σ H D ok e p => by
  obtain ⟨a, pa⟩ := p
  exact k a W O σ H D ok e pa
end
theorem set_same {σ : L2.St} {i : Nat} {o : Option V} (h : σ[i]? = some o) : σ.set i o = σ := by
  refine List.ext_getElem? fun j => ?_
  by_cases k : i = j
  · subst k
    rw [List.getElem?_set_self (List.getElem?_eq_some_iff.mp h).1, h]
  · rw [List.getElem?_set_ne k]
/-! ### walks where things change -/
section
variable (K : Frag) (C : Addr)
def ItM (wi : TI) (δ : Den) (xs : List DV) : Prop := ∀ (W O : AS) (σ : L2.St) (H : Hp) (R : It → Hp → Prop), OkA W O H → EnvD K C O H σ δ →
  (∀ (J : It) (H1 : Hp) (G : Hp → Prop) (Y : Nat → Hp → V → Hp → Prop), Evl.Ex H H1 → Walk J xs.length G Y → (∀ H', Ch W H1 H' → OkA W O H' → G H') →
    (∀ (i : Nat) (H2 : Hp) (v : V) (H3 : Hp), i < xs.length → Ch W H1 H2 → OkA W O H2 → Y i H2 v H3 → Evl.Ex H2 H3 ∧ ∃ d, xs[i]? = some d ∧ Rep K C (msk O H3) v d) → R J H1) → wi σ H R
end
section
variable {K : Frag} {C : Addr} {δ : Den} {te ta : TE} {xs : List DV} {P : Res} {N : Den → Res} {R : DV → Res} {g : TG} {t : TS}
theorem itm_list (h : EvD K C te δ (.lst xs)) : ItM K C (iList K te) δ xs := fun W O σ H R ok e q => h O σ H _ ok.good e fun v H1 e1 r1 => by
  cases r1 with
  | lst hq hr =>
    rename_i a vs
    refine ⟨_, rfl, ⟨_, sql_of hq⟩, ?_⟩
    have w := walk_list (K := K) (a := a) (xs := vs)
    rw [hr.len] at w
    have ok1 := ok.ex e1
    refine q _ H1 _ _ e1 w (fun H' c _ => sql_of (O := O) (c.msk ok1 _ _ hq)) fun i H2 v H3 hi c _ y => ?_
    obtain ⟨e3, y⟩ := y
    subst e3
    refine ⟨Evl.Ex.refl _, ?_⟩
    obtain ⟨d, hd, rd⟩ := hr.got y
    exact ⟨d, hd, rd.mono (c.msk ok1)⟩
theorem itm_range {n : Nat} (h : EvD K C ta δ (.int (n : Int))) (hn : n ≤ 100000) : ItM K C (iRng1 (tCons ta tNil)) δ (rangeD n) := fun W O σ H R ok e q => h O σ H _ ok.good e fun v H1 e1 r1 => by
  refine ⟨(n : Int), by rw [r1.int_eq], by omega, by omega, ?_⟩
  have w : Walk (Itr 0 ((n : Int)).toNat) (rangeD n).length (fun _ => True) (YFn fun i => .int (0 + (i : Nat))) := by
    have w := walk_range (lo := 0) (n := ((n : Int)).toNat)
    rw [List.length_map, List.length_range]
    exact w
  refine q _ H1 _ _ e1 w (fun _ _ _ => True.intro) fun i H2 v H3 hi c _ y => ?_
  obtain ⟨e3, y⟩ := y
  subst e3
  refine ⟨Evl.Ex.refl _, .int (i : Int), ?_, ?_⟩
  · rw [List.length_map, List.length_range] at hi
    rw [List.getElem?_map, List.getElem?_range hi]
    rfl
  · rw [y]
    show Rep K C _ (V.int (0 + (i : Int))) _
    rw [Int.zero_add]
    exact .int _
theorem itm_enum (h : EvD K C te δ (.lst xs)) : ItM K C (iEnum K (tCons te tNil)) δ (enumD xs) := fun W O σ H R ok e q => h O σ H _ ok.good e fun v H1 e1 r1 => by
  cases r1 with
  | lst hq hr =>
    rename_i a vs
    refine ⟨_, _, rfl, sql_of hq, ?_⟩
    have w := walk_enum (K := K) (a := a) (xs := vs)
    rw [hr.len, show xs.length = (enumD xs).length by rw [List.length_map, List.length_zipIdx]] at w
    have ok1 := ok.ex e1
    refine q _ H1 _ _ e1 w (fun H' c _ => sql_of (O := O) (c.msk ok1 _ _ hq)) fun i H2 v H3 hi c ok2 y => ?_
    obtain ⟨T, x, z, rfl, hT, rfl, hx, hz⟩ := y
    cases hx
    refine ⟨Evl.Ex.new hT, ?_⟩
    obtain ⟨d, hd, rd⟩ := hr.got hz
    exact ⟨_, enumD_at hd, rep_newT ok2.good hT (.cons (.int _) (.cons (rd.mono (c.msk ok1)) .nil))⟩
/-- a for: I by the turn -/
theorem sm_for {wi : TI} (I : Nat → Den → Res) (hi : ItM K C wi δ xs) (hst : ∀ i δ1, Stab (I i δ1)) (h0 : ∀ W O H, P W O H → I 0 δ W O H) (hP : Stab P) (hs : ∀ (i : Nat) (d : DV) (δ1 : Den), xs[i]? = some d → (∃ W O H, I i δ1 W O H) → ∃ is δ2, TgD K C is g d δ1 δ2 ∧ StM K C t δ2 (I i δ1) (I (i + 1)) R)
    (hd : ∀ δ1 W O H, I xs.length δ1 W O H → N δ1 W O H) : StM K C (tFor wi g t) δ P N R := fun W O σ H D ok e p q1 q2 =>
  hi W O σ H _ ok e fun J H1 G Y e1 w hG hY => by
    have ok1 := ok.ex e1
    refine for_it (w := w) (fun i σ' H' => Ch W H1 H' ∧ OkA W O H' ∧ ∃ δ1, I i δ1 W O H' ∧ EnvD K C O H' σ' δ1) ⟨.refl, ok1, δ, h0 W O H1 (hP W O H H1 ok e1 p), e.up e1⟩ (fun i σ' H' _ pv => hG H' pv.1 pv.2.1) ?_ ?_
    · rintro i x σ' H2 H3 hlt ⟨c, ok2, δ1, hI, env⟩ y
      obtain ⟨e3, d, hxd, rd⟩ := hY i H2 x H3 hlt c ok2 y
      obtain ⟨is, δ2, htg, hst2⟩ := hs i d δ1 hxd ⟨W, O, H2, hI⟩
      refine htg O σ' H3 x _ (env.up e3) rd fun σ2 env2 _ => ?_
      exact hst2 W O σ2 H3 _ (ok2.ex e3) env2 (hst i δ1 W O H2 H3 ok2 e3 hI) (fun δ3 σ3 H4 n c4 ok4 env4 => ⟨(c.trans (.of e3)).trans c4, ok4, δ3, n, env4⟩) fun d v H4 r c4 ok4 rr => q2 d v H4 r (((Ch.of e1).trans (c.trans (.of e3))).trans c4) ok4 rr
    · rintro σ' H2 ⟨c, ok2, δ1, hI, env⟩
      exact q1 δ1 σ' H2 (hd δ1 W O H2 hI) ((Ch.of e1).trans c) ok2 env
end
/-! ### own lists -/
section
variable {K : Frag} {C : Addr} {δ : Den} {d : DV} {ta tb te : TE} {tt : TT} {t u : TS} {ds es xs : List DV} {R : DV → Prop} {N : Den → Prop}
/-- the list at p holds this; it may change -/
def own (K : Frag) (C : Addr) (p : Addr) (ds : List DV) : Res := fun W O H => W p = true ∧ ∃ vs, H p = some (.lst vs) ∧ Reps K C (msk O H) vs ds
theorem own_stab {p : Addr} : Stab (own K C p ds) := fun W O H H' ok e h => by
  obtain ⟨w, vs, h1, h2⟩ := h
  exact ⟨w, vs, e _ _ h1, h2.up e⟩
/-- x = a new list; t changes it; behind it, it is data -/
theorem st_own {i : Nat} (M : Den → List DV → Prop) (h : EvN K C te δ ds) (ht : ∀ p, StM K C t (δ.set i (some (.adr p))) (own K C p ds) (fun δ' W O H => ∃ ds', (M δ' ds' ∧ δ'[i]? = some (some (.adr p))) ∧ own K C p ds' W O H) (fun d _ _ _ => R d))
    (k : ∀ δ' ds', M δ' ds' → StD K C u (δ'.set i (some (.lst ds'))) N R) : StD K C (tSeq (tAsg te (gName i)) (tSeq t u)) δ N R := fun O σ H D gd e q1 q2 =>
  h O σ H _ gd e fun p vs H1 x1 hn hp r => by
    have op : O p = false := gd.new hn
    have ok : OkA (fun a => decide (a = p)) (fun a => O a || decide (a = p)) H1 := ⟨fun a z => by rw [z, Bool.or_true], fun a z => by
      rcases Bool.or_eq_true_iff.mp z with z | z
      · exact gd.ex x1 a z
      · rw [of_decide_eq_true z, hp]; exact fun y => nomatch y⟩
    have mm : Evl.Ex (msk O H) (msk (fun a => O a || decide (a = p)) H1) := msk_more x1 fun a z => by
      rcases Bool.or_eq_true_iff.mp z with z | z
      · exact .inl z
      · rw [of_decide_eq_true z]; exact .inr hn
    have back : ∀ {H2 : Hp}, Ch (fun a => decide (a = p)) H1 H2 → Evl.Ex H H2 := fun c a o z => c a o (x1 a o z) (decide_eq_false fun y => by rw [y, hn] at z; cases z)
    refine ht p (fun a => decide (a = p)) (fun a => O a || decide (a = p)) _ H1 { D with nx := u D } ok ((e.to mm).set (.adr p)) ⟨decide_eq_true rfl, vs, hp, r⟩ ?_ ?_
    · rintro δ' σ' H2 ⟨ds', ⟨hM, hi⟩, _, vs', hp', r'⟩ c ok2 e2
      have eH := back c
      have hs : σ' = σ'.set i (some (.ref p)) := by
        obtain ⟨v, h1, h2⟩ := e2.at_ i _ hi
        cases h2
        exact (set_same h1).symm
      have e3 : EnvD K C O H2 (σ'.set i (some (.ref p))) (δ'.set i (some (.lst ds'))) := (e2.to msk_less).set (.lst (by rw [msk_at op]; exact hp') (r'.mono msk_less))
      rw [hs]
      exact k δ' ds' hM O _ H2 D (gd.ex eH) e3 (fun δ3 σ3 H3 n x3 => q1 δ3 σ3 H3 n (eH.trans x3)) fun d v H3 rr x3 => q2 d v H3 rr (eH.trans x3)
    · rintro d v H2 rd c ok2 w
      exact q2 d v H2 rd (back c) (w.mono msk_less)
end
end Dt
set_option Elab.async false
set_option linter.all false
set_option maxRecDepth 100000
set_option maxHeartbeats 4000000
/-! Own lists: read, lengthened, stored into. -/
namespace Dt
open PySem PySem.Spec PyProof.Rows L2
open Evl (Ex)
/-- with p besides -/
abbrev plus (W : AS) (p : Addr) : AS := fun a => W a || decide (a = p)
section
variable {K : Frag} {C : Addr} {δ : Den} {d : DV} {ta tb te ti : TE} {tt : TT} {t u : TS} {ds es : List DV} {P P' P2 : Res} {R R' : DV → Res} {N N' : Den → Res} {i j : Nat} {p : Addr}
def scD : DV → Bool
  | .non => true
  | .bl _ => true
  | .int _ => true
  | .str _ => true
  | _ => false
theorem rep_sc {H H' : Hp} {v : V} (r : Rep K C H v d) (h : scD d = true) : Rep K C H' v d := by
  cases r with
  | non => exact .non
  | bl b => exact .bl b
  | int n => exact .int n
  | str x => exact .str x
  | tup => cases h
  | lst => cases h
  | yr => cases h
  | hf => cases h
  | adr => cases h
  | wd => cases h
  | wt => cases h
  | lf => cases h
theorem peek_msk {O : AS} {H : Hp} : Evl.Ex (msk O H) (msk (fun a => O a && !decide (a = p)) H) := fun a o h => by
  unfold msk at h ⊢
  by_cases k : O a = true
  · rw [if_pos k] at h; cases h
  · rw [if_neg k] at h
    rw [if_neg (fun z => k (Bool.and_eq_true_iff.mp z).1)]
    exact h
theorem peek_env {W O : AS} {H : Hp} {σ : L2.St} (e : EnvD K C O H σ δ) (hi : δ[i]? = some (some (.adr p))) (h : own K C p ds W O H) : EnvD K C (fun a => O a && !decide (a = p)) H σ (δ.set i (some (.lst ds))) := by
  obtain ⟨_, vs, hp, r⟩ := h
  obtain ⟨v, hv, rv⟩ := e.at_ i _ hi
  cases rv
  have z := (e.to (peek_msk (p := p))).set (i := i) (v := .ref p) (d := .lst ds) (.lst (by rw [msk_at (by simp)]; exact hp) (r.mono peek_msk))
  rw [set_same hv] at z
  exact z
theorem peek_good {W O : AS} {H : Hp} (ok : OkA W O H) : Good (fun a => O a && !decide (a = p)) H := fun a h => ok.good a (Bool.and_eq_true_iff.mp h).1
/-- what is read of an own list -/
theorem em_peek (hi : δ[i]? = some (some (.adr p))) (h : EvD K C te (δ.set i (some (.lst ds))) d) (sc : scD d = true) (hP : Stab P) (ho : ∀ W O H, P W O H → own K C p ds W O H) : EvM K C te δ P (fun x W O H => x = d ∧ P W O H) := fun W O σ H Q ok e p' q =>
  h _ σ H _ (peek_good ok) (peek_env e hi (ho _ _ _ p')) fun v H1 e1 r1 => q d v H1 ⟨rfl, hP W O H H1 ok e1 p'⟩ (.of e1) (ok.ex e1) (rep_sc r1 sc)
theorem etm_peek {b : Bool} (hi : δ[i]? = some (some (.adr p))) (h : EvT K C tt (δ.set i (some (.lst ds))) b) (hP : Stab P) (ho : ∀ W O H, P W O H → own K C p ds W O H) : EtM K C tt δ P (fun x W O H => x = b ∧ P W O H) := fun W O σ H Q ok e p' q =>
  h _ σ H _ (peek_good ok) (peek_env e hi (ho _ _ _ p')) fun H1 e1 => q b H1 ⟨rfl, hP W O H H1 ok e1 p'⟩ (.of e1) (ok.ex e1)
theorem ch_upd {W : AS} {H : Hp} {o : HO} (w : W p = true) : Ch W H (upd H p o) := fun a u h k => by
  rw [upd_ne (fun z => by rw [z, w] at k; cases k)]
  exact h
theorem ok_upd {W O : AS} {H : Hp} {o : HO} (k : OkA W O H) : OkA W O (upd H p o) := ⟨k.sub, fun a h => by
  by_cases z : a = p
  · rw [z, upd_same]; exact fun y => nomatch y
  · rw [upd_ne z]; exact k.good a h⟩
theorem own_upd {W O : AS} {H : Hp} {vs : List V} (ok : OkA W O H) (w : W p = true) (r : Reps K C (msk O H) vs ds) : own K C p ds W O (upd H p (.lst vs)) := ⟨w, vs, upd_same, r.mono ((ch_upd w).msk ok)⟩
/-- p.append(e) -/
theorem sm_append {F : DV → Res} (hi : δ[i]? = some (some (.adr p))) (ho : ∀ W O H, P W O H → own K C p ds W O H) (h : EvM K C ta δ P (fun x W O H => own K C p ds W O H ∧ F x W O H)) (hl : ds.length ≤ 1000) (hF : ∀ x W O H o, F x W O H → F x W O (upd H p o)) :
    StM K C (tDrop (tBM K "list" rAppend (tVar i) (tCons ta tNil))) δ P (fun δ' W O H => δ' = δ ∧ ∃ x, own K C p (ds ++ [x]) W O H ∧ F x W O H) R := fun W O σ H D ok e p' q1 _ => by
  obtain ⟨v, hv, rv⟩ := e.at_ i _ hi
  cases rv
  obtain ⟨w, vs, hp, hr⟩ := ho W O H p'
  refine ⟨.ref p, hv, .inl ⟨rfl, vs, SqL.of hp⟩, h W O σ H _ ok e p' fun x y H1 ⟨o1, f1⟩ c1 ok1 r1 => ?_⟩
  obtain ⟨w1, vs1, hp1, hr1⟩ := o1
  have sl : sizeLine = 16777216 := sizeLine_eq
  refine ⟨p, vs1, y, rfl, rfl, hp1, by rw [hr1.len]; omega, ?_⟩
  have c2 := c1.trans (ch_upd (H := H1) (o := .lst (vs1 ++ [y])) w)
  exact q1 δ σ _ ⟨rfl, x, own_upd ok1 w (hr1.app (.cons r1 .nil)), hF x W O H1 _ f1⟩ c2 (ok_upd ok1) (e.to (c2.msk ok))
theorem Reps.set {H : Hp} : ∀ {vs : List V} {ds : List DV} (j : Nat) {v : V} {d : DV}, Reps K C H vs ds → Rep K C H v d → Reps K C H (vs.set j v) (ds.set j d)
  | _, _, _, _, _, .nil, _ => .nil
  | _, _, 0, _, _, .cons _ r, h => .cons h r
  | _, _, j + 1, _, _, .cons h r, k => .cons h (Reps.set j r k)
/-- p[k] = e -/
theorem sm_set {F : DV → Res} {k : Int} (hi : δ[i]? = some (some (.adr p))) (h : EvM K C te δ P (fun x W O H => own K C p ds W O H ∧ F x W O H)) (hk : EvD K C ti δ (.int k)) (hS : ∀ x, Stab (F x)) (hj : ixN ds.length k = some j) (hF : ∀ x W O H o, F x W O H → F x W O (upd H p o)) :
    StM K C (tAsg te (gSub (tVar i) ti L2.rSetL)) δ P (fun δ' W O H => δ' = δ ∧ ∃ x, own K C p (ds.set j x) W O H ∧ F x W O H) R := fun W O σ H D ok e p' q1 _ =>
  h W O σ H _ ok e p' fun x y H1 ⟨o1, f1⟩ c1 ok1 r1 => by
    have e1 := e.to (c1.msk ok)
    obtain ⟨v, hv, rv⟩ := e1.at_ i _ hi
    cases rv
    refine ⟨.ref p, hv, hk O σ H1 _ ok1.good e1 fun z H2 x2 r2 => ?_⟩
    obtain ⟨w, vs, hp, hr⟩ := own_stab W O H1 H2 ok1 x2 o1
    have ok2 := ok1.ex x2
    refine ⟨p, vs, k, j, rfl, r2.int_eq, hp, by rw [hr.len]; exact hj, ?_⟩
    have c2 := (c1.trans (.of x2)).trans (ch_upd (H := H2) (o := .lst (vs.set j y)) w)
    exact q1 δ σ _ ⟨rfl, x, own_upd ok2 w (hr.set j (r1.up x2)), hF x W O H2 _ (hS x W O H1 H2 ok1 x2 f1)⟩ c2 (ok_upd ok2) (e.to (c2.msk ok))
/-! a new list of one's own -/
theorem own_in {W O : AS} {H H1 : Hp} {vs : List V} (ok : OkA W O H) (x : Evl.Ex H H1) (hn : H p = none) (hp : H1 p = some (.lst vs)) (r : Reps K C (msk (plus O p) H1) vs ds) :
    OkA (plus W p) (plus O p) H1 ∧ Evl.Ex (msk O H) (msk (plus O p) H1) ∧ own K C p ds (plus W p) (plus O p) H1 := by
  refine ⟨⟨fun a z => ?_, fun a z => ?_⟩, msk_more x fun a z => ?_, ?_⟩
  · rcases Bool.or_eq_true_iff.mp z with z | z
    · exact Bool.or_eq_true_iff.mpr (.inl (ok.sub a z))
    · exact Bool.or_eq_true_iff.mpr (.inr z)
  · rcases Bool.or_eq_true_iff.mp z with z | z
    · exact ok.good.ex x a z
    · rw [of_decide_eq_true z, hp]; exact fun y => nomatch y
  · rcases Bool.or_eq_true_iff.mp z with z | z
    · exact .inl z
    · rw [of_decide_eq_true z]; exact .inr hn
  · exact ⟨Bool.or_eq_true_iff.mpr (.inr (decide_eq_true rfl)), vs, hp, r⟩
theorem own_out {W O : AS} {H H1 H2 : Hp} (ok : OkA W O H) (x : Evl.Ex H H1) (hn : H p = none) (c : Ch (plus W p) H1 H2) (ok2 : OkA (plus W p) (plus O p) H2) : Ch W H H2 ∧ OkA W O H2 := by
  refine ⟨fun a o z w => c a o (x a o z) ?_, ok.sub, fun a z => ok2.good a (Bool.or_eq_true_iff.mpr (.inl z))⟩
  rw [show plus W p a = (W a || decide (a = p)) from rfl, w, Bool.false_or]
  exact decide_eq_false fun y => by rw [y, hn] at z; cases z
theorem own_env {W O : AS} {H H2 : Hp} {σ' : L2.St} {δ' : Den} {ds' : List DV} (ok : OkA W O H) (hn : H p = none) (e2 : EnvD K C (plus O p) H2 σ' δ') (hi : δ'[i]? = some (some (.adr p))) (o : own K C p ds' (plus W p) (plus O p) H2) : EnvD K C O H2 σ' (δ'.set i (some (.lst ds'))) := by
  obtain ⟨_, vs, hp, r⟩ := o
  obtain ⟨v, hv, rv⟩ := e2.at_ i _ hi
  cases rv
  have z := (e2.to msk_less).set (i := i) (v := .ref p) (d := .lst ds') (.lst (by rw [msk_at (ok.good.new hn)]; exact hp) (r.mono msk_less))
  rw [set_same hv] at z
  exact z
/-- x = a new list; t changes it; behind it, it is data -/
theorem sm_own {F F' : Addr → Res} (M : Den → List DV → Prop) (h : EvN K C te δ ds) (up : ∀ W O H H1 p, OkA W O H → P W O H → H p = none → Evl.Ex H H1 → F p (plus W p) (plus O p) H1)
    (ht : ∀ p, StM K C t (δ.set i (some (.adr p))) (fun W O H => own K C p ds W O H ∧ F p W O H) (fun δ' W O H => ∃ ds', (M δ' ds' ∧ δ'[i]? = some (some (.adr p))) ∧ own K C p ds' W O H ∧ F' p W O H) (fun _ _ _ _ => False))
    (down : ∀ W O H0 H p, P W O H0 → F' p (plus W p) (plus O p) H → P2 W O H) (k : ∀ δ' ds', M δ' ds' → StM K C u (δ'.set i (some (.lst ds'))) P2 N R) : StM K C (tSeq (tAsg te (gName i)) (tSeq t u)) δ P N R := fun W O σ H D ok e p0 q1 q2 =>
  h O σ H _ ok.good e fun p vs H1 x1 hn hp r => by
    obtain ⟨ok1, mm, o1⟩ := own_in ok x1 hn hp r
    refine ht p _ _ _ H1 { D with nx := u D } ok1 ((e.to mm).set (.adr p)) ⟨o1, up W O H H1 p ok p0 hn x1⟩ ?_ fun _ _ _ z => z.elim
    rintro δ' σ' H2 ⟨ds', ⟨hM, hi⟩, o2, f2⟩ c ok2 e2
    obtain ⟨c3, ok3⟩ := own_out ok x1 hn c ok2
    exact k δ' ds' hM W O σ' H2 D ok3 (own_env ok hn e2 hi o2) (down W O H H2 p p0 f2) (fun δ3 σ3 H3 n c4 => q1 δ3 σ3 H3 n (c3.trans c4)) fun d v H3 rr c4 => q2 d v H3 rr (c3.trans c4)
/-- x, y = a new list, e; t changes the list -/
theorem sm_ownP {F F' : Addr → Res} {F1 : Addr → DV → Res} (M : Den → List DV → Prop) (hij : i ≠ j) (h : EvN K C te δ ds) (up : ∀ W O H H1 p, OkA W O H → P W O H → H p = none → Evl.Ex H H1 → F p (plus W p) (plus O p) H1)
    (hb : ∀ p, EvM K C tb δ (fun W O H => own K C p ds W O H ∧ F p W O H) (fun x W O H => own K C p ds W O H ∧ F1 p x W O H))
    (ht : ∀ p x, StM K C t ((δ.set i (some (.adr p))).set j (some x)) (fun W O H => own K C p ds W O H ∧ F1 p x W O H) (fun δ' W O H => ∃ ds', (M δ' ds' ∧ δ'[i]? = some (some (.adr p))) ∧ own K C p ds' W O H ∧ F' p W O H) (fun _ _ _ _ => False))
    (down : ∀ W O H0 H p, P W O H0 → F' p (plus W p) (plus O p) H → P2 W O H) (k : ∀ δ' ds', M δ' ds' → StM K C u (δ'.set i (some (.lst ds'))) P2 N R) : StM K C (tSeq (tPar i j (tCons te (tCons tb tNil))) (tSeq t u)) δ P N R := fun W O σ H D ok e p0 q1 q2 =>
  h O σ H (fun v H1 => tCons tb tNil σ H1 fun vs H2 => ∃ a b, v :: vs = [a, b] ∧ tSeq t u D ((σ.set i (some a)).set j (some b)) H2) ok.good e fun p vs H1 x1 hn hp r => by
    obtain ⟨ok1, mm, o1⟩ := own_in ok x1 hn hp r
    refine hb p _ _ σ H1 _ ok1 (e.to mm) ⟨o1, up W O H H1 p ok p0 hn x1⟩ fun x y H2 fx cx okx wx => ?_
    refine ⟨_, _, rfl, ?_⟩
    refine ht p x _ _ _ H2 { D with nx := u D } okx ((((e.to mm).to (cx.msk ok1)).set (.adr p)).set wx) fx ?_ fun _ _ _ z => z.elim
    rintro δ' σ' H3 ⟨ds', ⟨hM, hi⟩, o2, f2⟩ c ok2 e2
    obtain ⟨c3, ok3⟩ := own_out ok x1 hn (cx.trans c) ok2
    exact k δ' ds' hM W O σ' H3 D ok3 (own_env ok hn e2 hi o2) (down W O H H3 p p0 f2) (fun δ3 σ3 H3 n c4 => q1 δ3 σ3 H3 n (c3.trans c4)) fun d v H3 rr c4 => q2 d v H3 rr (c3.trans c4)
/-- nothing may change: plain -/
theorem st_of {N0 : Den → Prop} {R0 : DV → Prop} (h : StM K C t δ (fun _ _ _ => True) (fun δ' _ _ _ => N0 δ') (fun d _ _ _ => R0 d)) : StD K C t δ N0 R0 := fun O σ H D gd e q1 q2 =>
  h (fun _ => false) O σ H D ⟨fun a z => (nomatch z), gd⟩ e True.intro (fun δ' σ' H' n c _ e' => q1 δ' σ' H' n (fun a o z => c a o z rfl) e') fun d v H' r c _ w => q2 d v H' r (fun a o z => c a o z rfl) w
end
end Dt
set_option Elab.async false
set_option linter.all false
set_option maxRecDepth 100000
set_option maxHeartbeats 4000000
/-! heaps: sums, bends, the most. -/
namespace Dt
open PySem PySem.Spec PyProof.Rows L2
open Evl (Ex)
/-- a promise told by an input, what must hold of it, the arguments, the answer -/
def mkF {α : Type} (pre : α → Prop) (arg : α → List DV) (res : α → DV) : List DV → DV → Prop := fun ds d => ∃ x, pre x ∧ ds = arg x ∧ d = res x
section
variable {K : Frag} {C : Addr} {δ : Den} {ta tb : TE} {ns : List Int} {k : Nat}
theorem ev_takT (h : EvD K C ta δ (.tup (dis ns))) (h2 : EvD K C tb δ (.int (k : Int))) : EvD K C (L2.tSl (rSlU K) ta tNoPart (tPart tb)) δ (.tup (dis (ns.take k))) := (ev_slUT h eo_none (eo_some h2)).is (by unfold dis; rw [cut_to, List.map_take])
theorem ev_takL (h : EvD K C ta δ (.lst (dis ns))) (h2 : EvD K C tb δ (.int (k : Int))) : EvD K C (L2.tSl (rSlU K) ta tNoPart (tPart tb)) δ (.lst (dis (ns.take k))) := (ev_slUL h eo_none (eo_some h2)).is (by unfold dis; rw [cut_to, List.map_take])
theorem ev_drpT (h : EvD K C ta δ (.tup (dis ns))) (h2 : EvD K C tb δ (.int (k : Int))) : EvD K C (L2.tSl (rSlU K) ta (tPart tb) tNoPart) δ (.tup (dis (ns.drop k))) := (ev_slUT h (eo_some h2) eo_none).is (by unfold dis; rw [cut_from, List.map_drop])
theorem ev_drpL (h : EvD K C ta δ (.lst (dis ns))) (h2 : EvD K C tb δ (.int (k : Int))) : EvD K C (L2.tSl (rSlU K) ta (tPart tb) tNoPart) δ (.lst (dis (ns.drop k))) := (ev_slUL h (eo_some h2) eo_none).is (by unfold dis; rw [cut_from, List.map_drop])
end
section
variable {P : Program} {w : World} {K : Frag} {mg : Str → Option Value} {base : Heap} {C D : Addr}
theorem ItD.is {K : Frag} {C : Addr} {δ : Den} {wi : TI} {xs ys : List DV} (h : ItD K C wi δ xs) (e : xs = ys) : ItD K C wi δ ys := e ▸ h
/-- heaps as data -/
abbrev Hpr := Int × List Int
abbrev hpD (h : Hpr) : DV := .tup [.int h.1, .tup (dis h.2)]
def F_bought_by_heap : List DV → DV → Prop := mkF (fun x : Hpr × Int => x.1.2.length ≤ 500) (fun x => [hpD x.1, .int x.2]) fun x => .int (Bu.buyH x.1.1 x.1.2 x.2)
theorem fn_bought_by_heap (L : Loc K mg C D) : FA K C P w mg base "bought_by_heap" 1 F_bought_by_heap := by
  obtain ⟨f, fd, F, hm⟩ := L.l_bought_by_heap
  refine fnat_of hm F (fnr_of F sc_bought_by_heap (fun _ _ _ _ _ _ us h => ?_) _ (fun ds d ⟨x, _, e, _⟩ => by rw [e]; rfl) ?_)
  · obtain ⟨a, b, rfl⟩ := two_of h
    rfl
  intro cdv A outer s H E hr
  refine ⟨_, (pss_cons (ps_asg (pv 0) (pg_tup rfl (pgs_cons (pg_name (i := 2) sc_bought_by_heap.nd rfl (Or.inl rfl)) (pgs_cons (pg_name (i := 3) sc_bought_by_heap.nd rfl (Or.inl rfl)) pgs_nil))))
    (pss_one (ps_ret (pe_op (k_add (K := K) rfl) (pv 2) (pe_callB (k_sum (K := K) rfl rfl) (by rfl) L.b_sum bb_sum (pa_cons (pe_lc (own := [("swing", 4)]) (g := (gName 4)) (tt := tYes) rfl sc_bought_by_heap.nd (k_itup (K := K) rfl (pv 3)) (blkOk_by (N := ["heap", "butt", "wants", "swings", "swing"]) (sc := defScope s_bought_by_heap) (by decide +kernel)) (fun _ _ _ _ _ => (pg_name (i := 4) sc_bought_by_heap.nd rfl (Or.inl rfl))) (fun _ _ _ _ _ => pts_nil) (fun _ _ _ _ _ => (pe_callB (call_max2 rfl) (by rfl) L.b_max bb_max (pa_cons pe_int (pa_cons (pe_op op_sub (pv 4) (pv 1)) pa_nil))))) pa_nil)))))), ?_⟩
  rintro ds d ⟨⟨h, b⟩, hl, rfl, rfl⟩
  refine st_letT (ev_var rfl) (tg_tup rfl (tgs_cons tg_name (tgs_cons tg_name tgs_nil))) ?_
  refine st_retR (EvD.is (ev_addI (ev_var rfl) (ev_cb1 (ev_lcY (b := DV.int) (fun x => max 0 (x - b)) (it_tup (ev_var rfl)) (Nat.le_trans hl (by decide)) (by decide) fun x _ => ⟨_, tg_name, (ev_cb2 ev_int (ev_subI (ev_var rfl) (ev_var rfl)) rc_max2)⟩) rc_sumL)) ?_)
  rfl
/-- the sums of a heap, up to m swings -/
def sumsOf (h : Hpr) (m : Nat) : List Int := (List.range (m + 1)).map fun k => Bu.sumK h.1 h.2 k
def F_first_sums : List DV → DV → Prop := mkF (fun x : Hpr × Nat => x.2 ≤ 500) (fun x => [hpD x.1, .int (x.2 : Int)]) fun x => .lst (dis (sumsOf x.1 x.2))
theorem fn_first_sums (L : Loc K mg C D) : FA K C P w mg base "first_sums" 1 F_first_sums := by
  obtain ⟨f, fd, F, hm⟩ := L.l_first_sums
  refine fnat_of hm F (fnr_of F sc_first_sums (fun _ _ _ _ _ _ us h => ?_) _ (fun ds d ⟨x, _, e, _⟩ => by rw [e]; rfl) ?_)
  · obtain ⟨a, b, rfl⟩ := two_of h
    rfl
  intro cdv A outer s H E hr
  refine ⟨_, (pss_cons (ps_asg (pv 0) (pg_tup rfl (pgs_cons (pg_name (i := 2) sc_first_sums.nd rfl (Or.inr rfl)) (pgs_cons (pg_name (i := 3) sc_first_sums.nd rfl (Or.inr rfl)) pgs_nil))))
    (pss_one (ps_ret (pe_lc (own := [("number", 4)]) (g := (gName 4)) (tt := tYes) rfl sc_first_sums.nd (pi_range1 (by rfl) L.b_range (pa_cons (pe_op (k_add (K := K) rfl) (pv 1) pe_int) pa_nil)) (blkOk_by (N := ["heap", "many", "wants", "swings", "number"]) (sc := defScope s_first_sums) (by decide +kernel)) (fun _ _ _ _ _ => (pg_name (i := 4) sc_first_sums.nd rfl (Or.inl rfl))) (fun _ _ _ _ _ => pts_nil) (fun _ _ _ _ _ => (pe_op (k_add (K := K) rfl) (pv 2) (pe_callB (k_sum (K := K) rfl rfl) (by rfl) L.b_sum bb_sum (pa_cons (pe_slice (k_sl (K := K) rfl) (pv 3) po_none (po_some (pv 4))) pa_nil)))))))), ?_⟩
  rintro ds d ⟨⟨h, m⟩, hl, rfl, rfl⟩
  refine st_letT (ev_var rfl) (tg_tup rfl (tgs_cons tg_name (tgs_cons tg_name tgs_nil))) ?_
  refine st_retR (EvD.is (ev_lcY (b := DV.int) (a := fun i : Nat => DV.int (i : Int)) (as := List.range (m + 1)) (fun k => Bu.sumK h.1 h.2 k) (it_range (n := m + 1) (EvD.is (ev_addI (ev_var rfl) ev_int) rfl) (by have : m ≤ 500 := hl; omega)) (by rw [List.length_range]; have : m ≤ 500 := hl; omega) (by decide) fun x _ => ⟨_, tg_name, (ev_addI (ev_var rfl) (ev_cb1 (ev_takT (ev_var rfl) (ev_var rfl)) rc_sumT))⟩) ?_)
  rfl
def pairD (p : Int × Int) : DV := .tup [.int p.1, .int p.2]
/-- the greater number of swings -/
abbrev manyOf (a b : Hpr) : Nat := max a.2.length b.2.length
def F_both_sums : List DV → DV → Prop := mkF (fun x : Hpr × Hpr => manyOf x.1 x.2 ≤ 500) (fun x => [hpD x.1, hpD x.2]) fun x => .lst (((List.range (manyOf x.1 x.2 + 1)).map fun k => (Bu.sumK x.1.1 x.1.2 k, Bu.sumK x.2.1 x.2.2 k)).map pairD)
theorem zip_sums (a b : Hpr) (m : Nat) : zipD (dis (sumsOf a m)) (dis (sumsOf b m)) = ((List.range (m + 1)).map fun k => (Bu.sumK a.1 a.2 k, Bu.sumK b.1 b.2 k)).map pairD := by
  unfold zipD dis sumsOf
  rw [List.map_map, List.map_map, List.zip_map', List.map_map, List.map_map]
  rfl
theorem max_cast (a b : Nat) : max (a : Int) (b : Int) = ((max a b : Nat) : Int) := by omega
theorem fn_both_sums (L : Loc K mg C D) : FA K C P w mg base "both_sums" 3 F_both_sums := by
  obtain ⟨f, fd, F, hm⟩ := L.l_both_sums
  refine fnat_of hm F (fnr_of F sc_both_sums (fun _ _ _ _ _ _ us h => ?_) _ (fun ds d ⟨x, _, e, _⟩ => by rw [e]; rfl) ?_)
  · obtain ⟨a, b, rfl⟩ := two_of h
    rfl
  intro cdv A outer s H E hr
  refine ⟨_, (pss_cons (ps_set (i := 2) sc_both_sums.nd rfl (Or.inl rfl) (pe_callB (call_max2 rfl) (by rfl) L.b_max bb_max (pa_cons (pe_callB (k_len (K := K) rfl L hr (by decide)) (by rfl) L.b_len bb_len (pa_cons (pe_ix (k_ix (K := K) rfl) (pv 0) pe_int (fun _ _ => rfl)) pa_nil)) (pa_cons (pe_callB (k_len (K := K) rfl L hr (by decide)) (by rfl) L.b_len bb_len (pa_cons (pe_ix (k_ix (K := K) rfl) (pv 1) pe_int (fun _ _ => rfl)) pa_nil)) pa_nil))))
    (pss_one (ps_ret (k_listZip (K := K) rfl rfl (by rfl) L.b_list (by rfl) L.b_zip (pa_cons (pe_fn (fn_first_sums L) hr (by decide) (by rfl) (pa_cons (pv 0) (pa_cons (pv 2) pa_nil))) (pa_cons (pe_fn (fn_first_sums L) hr (by decide) (by rfl) (pa_cons (pv 1) (pa_cons (pv 2) pa_nil))) pa_nil)))))), ?_⟩
  rintro ds d ⟨⟨a, b⟩, hl, rfl, rfl⟩
  have hl' : manyOf a b ≤ 500 := hl
  refine st_let (d := .int ((manyOf a b : Nat) : Int)) (EvD.is (ev_cb2 (ev_lenS L (ev_ix (ev_var rfl) (.inr rfl) ev_int (rfl)) (.inr rfl)) (ev_lenS L (ev_ix (ev_var rfl) (.inr rfl) ev_int (rfl)) (.inr rfl)) rc_max2) ?_) ?_
  · show DV.int (max (((a.2.map DV.int).length : Nat) : Int) (((b.2.map DV.int).length : Nat) : Int)) = _
    rw [List.length_map, List.length_map, max_cast]
  refine st_retR (EvD.is (ev_listZip (ev_fn (ea_cons (ev_var rfl) (ea_cons (ev_var rfl) ea_nil)) (⟨(a, manyOf a b), hl', rfl, rfl⟩)) (ev_fn (ea_cons (ev_var rfl) (ea_cons (ev_var rfl) ea_nil)) (⟨(b, manyOf a b), hl', rfl, rfl⟩)) ?_) ?_)
  · rw [List.length_map]
    unfold sumsOf
    rw [List.length_map, List.length_range]
    omega
  · show DV.lst (zipD (dis (sumsOf a (manyOf a b))) (dis (sumsOf b (manyOf a b)))) = _
    rw [zip_sums]
/-- the first of some numbers, or None -/
def optD : List Nat → DV
  | [] => .non
  | k :: _ => .int (k : Int)
def natD (k : Nat) : DV := .int (k : Int)
abbrev moreH (a b : Hpr) : List Nat := Bu.moreAt a.1 a.2 b.1 b.2
theorem enum_range {α : Type} (f : Nat → α) (g : α → DV) (n : Nat) : enumD (((List.range n).map f).map g) = (List.range n).map fun k : Nat => DV.tup [.int (k : Int), g (f k)] := by
  unfold enumD
  refine List.ext_getElem? fun i => ?_
  rw [List.getElem?_map, List.getElem?_zipIdx, List.getElem?_map, List.getElem?_map, List.getElem?_map]
  by_cases h : i < n
  · rw [List.getElem?_range h]
    simp
  · rw [List.getElem?_eq_none (by rw [List.length_range]; omega)]
    rfl
def F_heap_against : List DV → DV → Prop := mkF (fun x : Hpr × Hpr => manyOf x.1 x.2 ≤ 500) (fun x => [hpD x.1, hpD x.2]) fun x => optD (moreH x.1 x.2)
theorem fn_heap_against (L : Loc K mg C D) : FA K C P w mg base "heap_against" 4 F_heap_against := by
  obtain ⟨f, fd, F, hm⟩ := L.l_heap_against
  refine fnat_of hm F (fnr_of F sc_heap_against (fun _ _ _ _ _ _ us h => ?_) _ (fun ds d ⟨x, _, e, _⟩ => by rw [e]; rfl) ?_)
  · obtain ⟨a, b, rfl⟩ := two_of h
    rfl
  intro cdv A outer s H E hr
  refine ⟨_, (pss_cons (ps_setLc (i := 2) (own := [("number", 3), ("mine", 4), ("its", 5)]) (g := (gTup K 2 (gCons (gName 3) (gCons (gTup K 2 (gCons (gName 4) (gCons (gName 5) gNil))) gNil)))) rfl sc_heap_against.nd rfl rfl (sw_true rfl rfl rfl (by decide +kernel)) (k_ienum (K := K) rfl (by rfl) L.b_enumerate (pa_cons (pe_fn (fn_both_sums L) hr (by decide) (by rfl) (pa_cons (pv 0) (pa_cons (pv 1) pa_nil))) pa_nil)) (blkOk_by (N := ["one", "other", "found", "number", "mine", "its"]) (sc := defScope s_heap_against) (by decide +kernel)) (fun _ _ _ _ _ => (pg_tup rfl (pgs_cons (pg_name (i := 3) sc_heap_against.nd rfl (Or.inl rfl)) (pgs_cons (pg_tup rfl (pgs_cons (pg_name (i := 4) sc_heap_against.nd rfl (Or.inl rfl)) (pgs_cons (pg_name (i := 5) sc_heap_against.nd rfl (Or.inl rfl)) pgs_nil))) pgs_nil)))) (fun _ _ _ _ _ => (pts_one (pt_cmpR op_gt (pv 4) (pv 5) (nomark _)))) (fun _ _ _ _ _ => (pv 3)))
    (pss_one (ps_ret (pe_ifExp (pt_cmpR op_gt (pe_callB (k_len (K := K) rfl L hr (by decide)) (by rfl) L.b_len bb_len (pa_cons (pv 2) pa_nil)) pe_int (nomark _)) (pe_ix (k_ix (K := K) rfl) (pv 2) pe_int (fun _ _ => rfl)) pe_non)))), ?_⟩
  rintro ds d ⟨⟨a, b⟩, hl, rfl, rfl⟩
  have hl' : manyOf a b ≤ 500 := hl
  refine st_let (d := .lst ((moreH a b).map natD)) (EvD.is (ev_lcM (b := natD) (as := List.range (manyOf a b + 1)) (a := fun k : Nat => DV.tup [.int (k : Int), pairD (Bu.sumK a.1 a.2 k, Bu.sumK b.1 b.2 k)]) (fun k => k) (fun k => decide (Bu.sumK b.1 b.2 k < Bu.sumK a.1 a.2 k)) (ItD.is (it_enum (ev_fn (ea_cons (ev_var rfl) (ea_cons (ev_var rfl) ea_nil)) (⟨(a, b), hl', rfl, rfl⟩))) (enum_range _ _ _)) (by rw [List.length_range]; omega) (by decide) fun x _ => ⟨_, tg_tup rfl (tgs_cons tg_name (tgs_cons (tg_tup rfl (tgs_cons tg_name (tgs_cons tg_name tgs_nil))) tgs_nil)), (et_test (ev_gtI (ev_var rfl) (ev_var rfl))), fun _ => ev_var rfl⟩) ?_) ?_
  · show DV.lst ((((List.range (manyOf a b + 1)).filter _).map fun k => k).map natD) = _
    rw [List.map_id']
    rfl
  · show StD K C _ _ (fun _ => optD (moreH a b) = .non) (fun r => r = optD (moreH a b))
    generalize moreH a b = m
    cases m with
    | nil => exact st_retR (ev_if (et_test (ev_gtI (ev_lenS L (ev_var rfl) (.inl rfl)) ev_int)) (fun h => by simp at h) fun _ => ev_non)
    | cons k r => exact st_retR (ev_if (et_test (ev_gtI (ev_lenS L (ev_var rfl) (.inl rfl)) ev_int)) (fun _ => (ev_ix (ev_var rfl) (.inl rfl) ev_int (atI_nat (j := 0) rfl))) fun h => by simp at h)
theorem opt_none {l : List Nat} : isNon (optD l) = l.isEmpty := by cases l <;> rfl
def F_heap_within : List DV → DV → Prop := mkF (fun x : Hpr × Hpr => manyOf x.1 x.2 ≤ 500) (fun x => [hpD x.1, hpD x.2]) fun x => .bl (Bu.within x.1.1 x.1.2 x.2.1 x.2.2)
theorem fn_heap_within (L : Loc K mg C D) : FA K C P w mg base "heap_within" 5 F_heap_within := by
  obtain ⟨f, fd, F, hm⟩ := L.l_heap_within
  refine fnat_of hm F (fnr_of F sc_heap_within (fun _ _ _ _ _ _ us h => ?_) _ (fun ds d ⟨x, _, e, _⟩ => by rw [e]; rfl) ?_)
  · obtain ⟨a, b, rfl⟩ := two_of h
    rfl
  intro cdv A outer s H E hr
  refine ⟨_, (pss_one (ps_ret (pe_cmp (pc_isN (pe_fn (fn_heap_against L) hr (by decide) (by rfl) (pa_cons (pv 0) (pa_cons (pv 1) pa_nil))))))), ?_⟩
  rintro ds d ⟨⟨a, b⟩, hl, rfl, rfl⟩
  refine st_retR (EvD.is (ev_isN (ev_fn (ea_cons (ev_var rfl) (ea_cons (ev_var rfl) ea_nil)) (⟨(a, b), hl, rfl, rfl⟩))) ?_)
  show DV.bl (isNon (optD (moreH a b))) = _
  rw [opt_none]
  rfl
abbrev wi (a b : Hpr) : Bool := Bu.within a.1 a.2 b.1 b.2
def cmpS (x y : Bool) : PySem.Str := if x = true then (if y = true then "alike" else "less") else (if y = true then "more" else "apart")
def F_heap_compare : List DV → DV → Prop := mkF (fun x : Hpr × Hpr => manyOf x.1 x.2 ≤ 500) (fun x => [hpD x.1, hpD x.2]) fun x => .str (cmpS (wi x.1 x.2) (wi x.2 x.1))
theorem fn_heap_compare (L : Loc K mg C D) : FA K C P w mg base "heap_compare" 6 F_heap_compare := by
  obtain ⟨f, fd, F, hm⟩ := L.l_heap_compare
  refine fnat_of hm F (fnr_of F sc_heap_compare (fun _ _ _ _ _ _ us h => ?_) _ (fun ds d ⟨x, _, e, _⟩ => by rw [e]; rfl) ?_)
  · obtain ⟨a, b, rfl⟩ := two_of h
    rfl
  intro cdv A outer s H E hr
  refine ⟨_, (pss_cons (ps_if (pt_val (pe_fn (fn_heap_within L) hr (by decide) (by rfl) (pa_cons (pv 0) (pa_cons (pv 1) pa_nil)))) (pss_one (ps_ret (pe_ifExp (pt_val (pe_fn (fn_heap_within L) hr (by decide) (by rfl) (pa_cons (pv 1) (pa_cons (pv 0) pa_nil)))) pe_str pe_str))) pss_nil)
    (pss_one (ps_ret (pe_ifExp (pt_val (pe_fn (fn_heap_within L) hr (by decide) (by rfl) (pa_cons (pv 1) (pa_cons (pv 0) pa_nil)))) pe_str pe_str)))), ?_⟩
  rintro ds d ⟨⟨a, b⟩, hl, rfl, rfl⟩
  have hl2 : manyOf b a ≤ 500 := by
    have : manyOf a b ≤ 500 := hl
    unfold manyOf at *
    omega
  refine st_when (b := wi a b) (et_B (ev_fn (ea_cons (ev_var rfl) (ea_cons (ev_var rfl) ea_nil)) (⟨(a, b), hl, rfl, rfl⟩))) (fun h1 => ?_) fun h1 => ?_
  · refine st_retR (EvD.is (d := .str (if wi b a = true then "alike" else "less")) (ev_if (et_B (ev_fn (ea_cons (ev_var rfl) (ea_cons (ev_var rfl) ea_nil)) (⟨(b, a), hl2, rfl, rfl⟩))) (fun h => ev_str.is ?_) fun h => ev_str.is ?_) ?_)
    · have h' : wi b a = true := h
      rw [h']
      rfl
    · have h' : wi b a = false := h
      rw [h']
      rfl
    · show _ = DV.str (cmpS (wi a b) (wi b a))
      rw [h1]
      rfl
  · refine st_retR (EvD.is (d := .str (if wi b a = true then "more" else "apart")) (ev_if (et_B (ev_fn (ea_cons (ev_var rfl) (ea_cons (ev_var rfl) ea_nil)) (⟨(b, a), hl2, rfl, rfl⟩))) (fun h => ev_str.is ?_) fun h => ev_str.is ?_) ?_)
    · have h' : wi b a = true := h
      rw [h']
      rfl
    · have h' : wi b a = false := h
      rw [h']
      rfl
    · show _ = DV.str (cmpS (wi a b) (wi b a))
      rw [h1]
      rfl
abbrev beH (a b : Hpr) : List Int := Bu.bendsOf a.2 b.2
def F_bends : List DV → DV → Prop := mkF (fun x : Hpr × Hpr => x.1.2.length + x.2.2.length ≤ 60) (fun x => [hpD x.1, hpD x.2]) fun x => .lst (dis (beH x.1 x.2))
theorem fn_bends (L : Loc K mg C D) : FA K C P w mg base "bends" 1 F_bends := by
  obtain ⟨f, fd, F, hm⟩ := L.l_bends
  refine fnat_of hm F (fnr_of F sc_bends (fun _ _ _ _ _ _ us h => ?_) _ (fun ds d ⟨x, _, e, _⟩ => by rw [e]; rfl) ?_)
  · obtain ⟨a, b, rfl⟩ := two_of h
    rfl
  intro cdv A outer s H E hr
  refine ⟨_, (pss_one (ps_ret (pe_callB (k_sortedSet (w := w) rfl rfl) (by rfl) L.b_sorted bb_sorted (pa_cons (pe_callTy (k_set (K := K) (w := w) rfl rfl rfl) (by rfl) L.b_set bb_set (pa_cons (pe_lst (pa_cons pe_int (k_star (K := K) rfl (pe_ix (k_ix (K := K) rfl) (pv 0) pe_int (fun _ _ => rfl)) (k_star (K := K) rfl (pe_ix (k_ix (K := K) rfl) (pv 1) pe_int (fun _ _ => rfl)) pa_nil)))) pa_nil)) pa_nil)))), ?_⟩
  rintro ds d ⟨⟨a, b⟩, hl, rfl, rfl⟩
  have hl' : a.2.length + b.2.length ≤ 60 := hl
  refine st_retR (ev_sortSet (ns := 0 :: (a.2 ++ b.2)) (EvD.is (ev_lst (ea_cons ev_int (ea_starT (ev_ix (ev_var rfl) (.inr rfl) ev_int (rfl)) (ea_starT (ev_ix (ev_var rfl) (.inr rfl) ev_int (rfl)) ea_nil))) ?_) ?_) ?_)
  · simp
    omega
  · simp [dis]
  · simp
    omega
abbrev gapP (a b : Hpr) (x : Int) : Int := Bu.gapH a.1 a.2 b.1 b.2 x
abbrev moH (a b : Hpr) : Int := Bu.mostOf a.1 a.2 b.1 b.2
def F_most_over : List DV → DV → Prop := mkF (fun x : Hpr × Hpr => x.1.2.length + x.2.2.length ≤ 60) (fun x => [hpD x.1, hpD x.2]) fun x => .int (moH x.1 x.2)
theorem bends_len (a b : Hpr) : (beH a b).length ≤ a.2.length + b.2.length + 1 := by
  have z : ∀ l : List Int, (Bu.usort l).length ≤ l.length := fun l => by
    induction l with
    | nil => exact Nat.le_refl _
    | cons x r ih =>
      have u : ∀ (y : Int) (k : List Int), (Bu.uins y k).length ≤ k.length + 1 := fun y k => by
        induction k with
        | nil => exact Nat.le_refl _
        | cons v k ih =>
          unfold Bu.uins
          split
          · simp
          · split
            · simp
            · simp only [List.length_cons]
              omega
      have := u x (Bu.usort r)
      show (Bu.uins x (Bu.usort r)).length ≤ r.length + 1
      omega
  have := z (0 :: (a.2 ++ b.2))
  simp only [List.length_cons, List.length_append] at this
  exact this
theorem bends_ne (a b : Hpr) : beH a b ≠ [] := fun e => by
  have : (0 : Int) ∈ beH a b := Bu.mem_usort.mpr List.mem_cons_self
  rw [e] at this
  cases this
theorem fn_most_over (L : Loc K mg C D) : FA K C P w mg base "most_over" 2 F_most_over := by
  obtain ⟨f, fd, F, hm⟩ := L.l_most_over
  refine fnat_of hm F (fnr_of F sc_most_over (fun _ _ _ _ _ _ us h => ?_) _ (fun ds d ⟨x, _, e, _⟩ => by rw [e]; rfl) ?_)
  · obtain ⟨a, b, rfl⟩ := two_of h
    rfl
  intro cdv A outer s H E hr
  refine ⟨_, (pss_one (ps_ret (pe_callB (k_max (K := K) rfl rfl) (by rfl) L.b_max bb_max (pa_cons (pe_lc (own := [("butt", 2)]) (g := (gName 2)) (tt := tYes) rfl sc_most_over.nd (k_ilist (K := K) rfl (pe_fn (fn_bends L) hr (by decide) (by rfl) (pa_cons (pv 0) (pa_cons (pv 1) pa_nil)))) (blkOk_by (N := ["one", "other", "butt"]) (sc := defScope s_most_over) (by decide +kernel)) (fun _ _ _ _ _ => (pg_name (i := 2) sc_most_over.nd rfl (Or.inl rfl))) (fun _ _ _ _ _ => pts_nil) (fun _ _ _ _ _ => (pe_op op_sub (pe_fn (fn_bought_by_heap L) hr (by decide) (by rfl) (pa_cons (pv 0) (pa_cons (pv 2) pa_nil))) (pe_fn (fn_bought_by_heap L) hr (by decide) (by rfl) (pa_cons (pv 1) (pa_cons (pv 2) pa_nil)))))) pa_nil)))), ?_⟩
  rintro ds d ⟨⟨a, b⟩, hl, rfl, rfl⟩
  have hl' : a.2.length + b.2.length ≤ 60 := hl
  have bl := bends_len a b
  refine st_retR (EvD.is (ev_cb1 (ev_lcY (b := DV.int) (as := beH a b) (gapP a b) (it_list (ev_fn (ea_cons (ev_var rfl) (ea_cons (ev_var rfl) ea_nil)) (⟨(a, b), hl', rfl, rfl⟩))) (by omega) (by decide) fun x _ => ⟨_, tg_name, (ev_subI (ev_fn (ea_cons (ev_var rfl) (ea_cons (ev_var rfl) ea_nil)) (⟨(a, x), (by show a.2.length ≤ 500; omega), rfl, rfl⟩)) (ev_fn (ea_cons (ev_var rfl) (ea_cons (ev_var rfl) ea_nil)) (⟨(b, x), (by show b.2.length ≤ 500; omega), rfl, rfl⟩)))⟩) (rc_max (by simpa using bends_ne a b))) ?_)
  rfl
end
end Dt
set_option Elab.async false
set_option linter.all false
set_option maxRecDepth 100000
set_option maxHeartbeats 4000000
/-! years: turns, the ring, the swings. -/
namespace Dt
open PySem PySem.Spec PyProof.Rows L2
open Evl (Ex)
/-! list or tuple -/
def iSeq (K : Frag) (tl : TE) : TI := fun σ H R => iList K tl σ H R ∨ iTup K tl σ H R
theorem k_iseq {X : Cx} {K : Frag} {tg l : Expr} {tl : TE} (h : X.K = K) (hl : PE X l tl) : PI X tg l (iSeq K tl) := ⟨fun pins s σ H R I w => by
  rcases w with w | w
  · exact (k_ilist h hl).run pins s σ H R I w
  · exact (k_itup h hl).run pins s σ H R I w⟩
section
variable {K : Frag} {C : Addr} {δ : Den} {d : DV} {ta tb te : TE} {ns : List Int} {k : Nat} {xs ds : List DV}
theorem it_seq (h : EvD K C te δ d) (hs : IsSeq d xs) : ItD K C (iSeq K te) δ xs := fun O σ H R g e q => by
  rcases hs with hs | hs
  · subst hs
    exact .inl (it_list h O σ H R g e q)
  · subst hs
    exact .inr (it_tup h O σ H R g e q)
theorem ea_starS {tr : TA} (h : EvD K C ta δ d) (hs : IsSeq d xs) (hr : EvA K C tr δ ds) : EvA K C (StX.tStar K ta tr) δ (xs ++ ds) := by
  rcases hs with hs | hs
  · subst hs
    exact ea_starL h hr
  · subst hs
    exact ea_starT h hr
theorem ev_drpS (h : EvD K C ta δ d) (hs : IsSeq d (dis ns)) (h2 : EvD K C tb δ (.int (k : Int))) : ∃ d', IsSeq d' (dis (ns.drop k)) ∧ EvD K C (L2.tSl (rSlU K) ta (tPart tb) tNoPart) δ d' := by
  rcases hs with hs | hs
  · subst hs
    exact ⟨_, .inl rfl, ev_drpL h h2⟩
  · subst hs
    exact ⟨_, .inr rfl, ev_drpT h h2⟩
theorem ev_takS (h : EvD K C ta δ d) (hs : IsSeq d (dis ns)) (h2 : EvD K C tb δ (.int (k : Int))) : ∃ d', IsSeq d' (dis (ns.take k)) ∧ EvD K C (L2.tSl (rSlU K) ta tNoPart (tPart tb)) δ d' := by
  rcases hs with hs | hs
  · subst hs
    exact ⟨_, .inl rfl, ev_takL h h2⟩
  · subst hs
    exact ⟨_, .inr rfl, ev_takT h h2⟩
theorem at_int {l : List Int} {k : Nat} (h : k < l.length) : atI (dis l) (k : Int) = some (.int (l.getD k 0)) := atI_nat (by
  rw [List.getElem?_map, List.getD_eq_getElem?_getD, List.getElem?_eq_getElem h]
  rfl)
theorem at_end {l : List Int} (h : l ≠ []) : atI (dis l) (-1) = some (.int (Bu.lastI l)) := by
  conv => lhs; rw [Bu.snoc_of h]
  unfold dis
  rw [List.map_append]
  exact atI_last _ _
theorem cut_init {α : Type} (l : List α) : cutD l none (some (-1)) = l.dropLast := by
  unfold cutD
  rw [HT.sIx_none, List.drop_zero, Nat.sub_zero, List.dropLast_eq_take]
  congr 1
  unfold HT.sIx
  simp
  omega
theorem mid_of {α : Type} (x y z : α) (m : List α) : ((x :: y :: m) ++ [z]).dropLast.drop 2 = m := by
  rw [List.dropLast_concat]
  rfl
theorem cut_mid {α : Type} (l : List α) : cutD l (some 2) (some (-1)) = l.dropLast.drop 2 := by
  unfold cutD
  rw [List.dropLast_eq_take, List.drop_take]
  unfold HT.sIx
  by_cases h : 2 ≤ l.length
  · congr 1
    · simp
      omega
    · simp
  · have e : l.drop 2 = [] := List.drop_eq_nil_of_le (by omega)
    rw [e, List.take_nil]
    simp
    omega
end
section
variable {P : Program} {w : World} {K : Frag} {mg : Str → Option Value} {base : Heap} {C D : Addr}
def F_is_turn : List DV → DV → Prop := mkF (fun x : List Int × Nat => x.2 < x.1.length) (fun x => [.tup (dis x.1), .int (x.2 : Int)]) fun x => .bl (Bu.turnAt x.1 x.2)
theorem at_prev {rs : List Int} {k : Nat} (h : k < rs.length) : atI (dis rs) ((k : Int) - 1) = some (.int (Bu.prevR rs k)) := by
  unfold Bu.prevR
  cases k with
  | zero =>
    rw [if_pos rfl]
    exact at_end (fun e => by rw [e] at h; cases h)
  | succ k =>
    rw [if_neg (by omega), show ((k + 1 : Nat) : Int) - 1 = (k : Int) by omega]
    exact at_int (by omega)
theorem fn_is_turn (L : Loc K mg C D) : FA K C P w mg base "is_turn" 1 F_is_turn := by
  obtain ⟨f, fd, F, hm⟩ := L.l_is_turn
  refine fnat_of hm F (fnr_of F sc_is_turn (fun _ _ _ _ _ _ us h => ?_) _ (fun ds d ⟨x, _, e, _⟩ => by rw [e]; rfl) ?_)
  · obtain ⟨a, b, rfl⟩ := two_of h
    rfl
  intro cdv A outer s H E hr
  refine ⟨_, (pss_one (ps_ret (pe_cmpR op_ne (pe_cmpR op_gt (pe_ix (k_ix (K := K) rfl) (pv 0) (pv 1) (fun _ _ => rfl)) pe_int (nomark _)) (pe_cmpR op_gt (pe_ix (k_ix (K := K) rfl) (pv 0) (pe_op op_sub (pv 1) pe_int) (fun _ _ => rfl)) pe_int (nomark _)) (nomark _)))), ?_⟩
  rintro ds d ⟨⟨rs, k⟩, hl, rfl, rfl⟩
  refine st_retR (EvD.is (ev_neB (ev_gtI (ev_ix (ev_var rfl) (.inr rfl) (ev_var rfl) (at_int hl)) ev_int) (ev_gtI (ev_ix (ev_var rfl) (.inr rfl) (ev_subI (ev_var rfl) ev_int) (at_prev hl)) ev_int)) ?_)
  rfl
def F_ring_of : List DV → DV → Prop := mkF (fun rs : List Int => rs.length ≤ 100) (fun rs => [.tup (dis rs)]) fun rs => .tup (dis (Bu.ringOf rs))
theorem merge_len : ∀ (xs found : List Int), (xs.foldl Bu.mstep found).length ≤ found.length + xs.length
  | [], found => by simp
  | x :: xs, found => by
    have ih := merge_len xs (Bu.mstep found x)
    have e : (Bu.mstep found x).length ≤ found.length + 1 := by
      unfold Bu.mstep
      split
      · rw [List.length_append, List.length_dropLast, List.length_singleton]
        omega
      · rw [List.length_append]
        exact Nat.le_refl _
    rw [List.foldl_cons, List.length_cons]
    omega
theorem around_len {rs : List Int} {t : Nat} : (Bu.around rs t).length = rs.length := by
  unfold Bu.around
  rw [List.length_append, List.length_drop, List.length_take]
  omega
theorem ring_len (rs : List Int) : (Bu.ringOf rs).length ≤ rs.length + 1 := by
  unfold Bu.ringOf
  split
  · simp
  · have := merge_len (Bu.around rs ‹Nat›) []
    rw [around_len] at this
    simp at this
    omega
theorem fn_ring_of (L : Loc K mg C D) : FA K C P w mg base "ring_of" 3 F_ring_of := by
  obtain ⟨f, fd, F, hm⟩ := L.l_ring_of
  refine fnat_of hm F (fnr_of F sc_ring_of (fun _ _ _ _ _ _ us h => ?_) _ (fun ds d ⟨x, _, e, _⟩ => by rw [e]; rfl) ?_)
  · obtain ⟨a, rfl⟩ := one_of h
    rfl
  intro cdv A outer s H E hr
  refine ⟨_, (pss_cons (ps_setLc (i := 1) (own := [("place", 5)]) (g := (gName 5)) rfl sc_ring_of.nd rfl rfl (sw_true rfl rfl rfl (by decide +kernel)) (pi_range1 (by rfl) L.b_range (pa_cons (pe_callB (k_len (K := K) rfl L hr (by decide)) (by rfl) L.b_len bb_len (pa_cons (pv 0) pa_nil)) pa_nil)) (blkOk_by (N := ["runs", "turns", "around", "found", "run", "place"]) (sc := defScope s_ring_of) (by decide +kernel)) (fun _ _ _ _ _ => (pg_name (i := 5) sc_ring_of.nd rfl (Or.inl rfl))) (fun _ _ _ _ _ => (pts_one (pt_val (pe_fn (fn_is_turn L) hr (by decide) (by rfl) (pa_cons (pv 0) (pa_cons (pv 5) pa_nil)))))) (fun _ _ _ _ _ => (pv 5)))
    (pss_cons (ps_if (pt_cmpR op_eq (pe_callB (k_len (K := K) rfl L hr (by decide)) (by rfl) L.b_len bb_len (pa_cons (pv 1) pa_nil)) pe_int (nomark _)) (pss_one (ps_ret (pe_tup (pa_cons (pe_callB (k_sum (K := K) rfl rfl) (by rfl) L.b_sum bb_sum (pa_cons (pv 0) pa_nil)) pa_nil)))) pss_nil)
    (pss_cons (ps_set (i := 2) sc_ring_of.nd rfl (Or.inl rfl) (pe_lst (k_star (K := K) rfl (pe_slice (k_sl (K := K) rfl) (pv 0) (po_some (pe_ix (k_ix (K := K) rfl) (pv 1) pe_int (fun _ _ => rfl))) po_none) (k_star (K := K) rfl (pe_slice (k_sl (K := K) rfl) (pv 0) po_none (po_some (pe_ix (k_ix (K := K) rfl) (pv 1) pe_int (fun _ _ => rfl)))) pa_nil))))
    (pss_cons (ps_set (i := 3) sc_ring_of.nd rfl (Or.inl rfl) (pe_lst pa_nil))
    (pss_cons (ps_for PassesOwn.never rfl (k_ilist (K := K) rfl (pv 2)) (pg_name (i := 4) sc_ring_of.nd rfl (Or.inl rfl)) (pss_one (ps_if (PW.pt (pw_and (pt_cmpR op_gt (pe_callB (k_len (K := K) rfl L hr (by decide)) (by rfl) L.b_len bb_len (pa_cons (pv 3) pa_nil)) pe_int (nomark _)) (pw_and1 (pt_cmpR op_eq (pe_cmpR op_gt (pv 4) pe_int (nomark _)) (pe_cmpR op_gt (pe_ix (k_ix (K := K) rfl) (pv 3) (pe_un un_neg pe_int) (fun _ _ => rfl)) pe_int (nomark _)) (nomark _))))) (pss_one (ps_set (i := 3) sc_ring_of.nd rfl (Or.inl rfl) (pe_lst (k_star (K := K) rfl (pe_slice (k_sl (K := K) rfl) (pv 3) po_none (po_some (pe_un un_neg pe_int))) (pa_cons (pe_op (k_add (K := K) rfl) (pe_ix (k_ix (K := K) rfl) (pv 3) (pe_un un_neg pe_int) (fun _ _ => rfl)) (pv 4)) pa_nil))))) (pss_one (ps_set (i := 3) sc_ring_of.nd rfl (Or.inl rfl) (pe_lst (k_star (K := K) rfl (pv 3) (pa_cons (pv 4) pa_nil))))))))
    (pss_one (ps_ret (pe_callTy (k_tuple (K := K) rfl) (by rfl) L.b_tuple bb_tuple (pa_cons (pv 3) pa_nil))))))))), ?_⟩
  rintro ds d ⟨rs, hl, rfl, rfl⟩
  have hl' : rs.length ≤ 100 := hl
  refine st_let (d := .lst ((Bu.turnsOf rs).map natD)) (EvD.is (ev_lcM (b := natD) (as := List.range rs.length) (a := fun k : Nat => DV.int (k : Int)) (fun k => k) (Bu.turnAt rs) (it_range (n := rs.length) (EvD.is (ev_lenS L (ev_var rfl) (.inr rfl)) (by rw [List.length_map])) (by omega)) (by rw [List.length_range]; omega) (by decide)
    fun x hx => ⟨_, tg_name, (et_B (ev_fn (ea_cons (ev_var rfl) (ea_cons (ev_var rfl) ea_nil)) (⟨(rs, x), List.mem_range.mp hx, rfl, rfl⟩))), fun _ => ev_var rfl⟩) ?_) ?_
  · rw [List.map_id']
    rfl
  show StD K C _ _ (fun _ => DV.tup (dis (Bu.ringOf rs)) = .non) (fun r => r = .tup (dis (Bu.ringOf rs)))
  unfold Bu.ringOf
  cases ht : Bu.turnsOf rs with
  | nil =>
    refine st_when (b := true) (EvT.is (et_test (ev_eqI (ev_lenS L (ev_var rfl) (.inl rfl)) ev_int)) rfl) (fun _ => ?_) fun h => by cases h
    exact st_retR (ev_tup (ea_cons (ev_cb1 (ev_var rfl) rc_sumT) ea_nil) (Nat.le_of_ble_eq_true rfl))
  | cons t ts =>
    have tl := (Bu.turns_first ht).1
    refine st_when (b := false) (EvT.is (et_test (ev_eqI (ev_lenS L (ev_var rfl) (.inl rfl)) ev_int)) (by simp; omega)) (fun h => by cases h) fun _ => ?_
    have hat : atI ((t :: ts).map natD) 0 = some (.int (t : Int)) := atI_nat (j := 0) rfl
    refine st_let (d := .lst (dis (Bu.around rs t))) (EvD.is (ev_lst (ea_starT (ev_drpT (ev_var rfl) (ev_ix (ev_var rfl) (.inl rfl) ev_int (hat))) (ea_starT (ev_takT (ev_var rfl) (ev_ix (ev_var rfl) (.inl rfl) ev_int (hat))) ea_nil)) ?_) ?_) ?_
    · simp [dis]
      omega
    · unfold Bu.around dis
      rw [List.append_nil, List.map_append]
    refine st_let (d := .lst (dis [])) (EvD.is (ev_lst ea_nil (Nat.le_of_ble_eq_true rfl)) rfl) ?_
    refine st_seq (M := fun δ => ∃ o, δ = [some (.tup (dis rs)), some (.lst ((t :: ts).map natD)), some (.lst (dis (Bu.around rs t))), some (.lst (dis ((Bu.around rs t).foldl Bu.mstep []))), o, none]) (st_for (fun i δ => ∃ o, δ = [some (.tup (dis rs)), some (.lst ((t :: ts).map natD)), some (.lst (dis (Bu.around rs t))), some (.lst (dis (((Bu.around rs t).take i).foldl Bu.mstep []))), o, none]) (it_list (ev_var rfl)) ⟨none, rfl⟩ ?_ ?_) ?_
    · rintro i d δ1 hi ⟨o, rfl⟩
      rw [List.getElem?_map] at hi
      obtain ⟨run, hr, rfl⟩ := Option.map_eq_some_iff.mp hi
      have hil : i < (Bu.around rs t).length := (List.getElem?_eq_some_iff.mp hr).1
      have hn : (Bu.around rs t).take (i + 1) = (Bu.around rs t).take i ++ [run] := by rw [List.take_add_one, hr]; rfl
      have ml := merge_len ((Bu.around rs t).take i) []
      rw [List.length_take, around_len] at ml
      rw [hn]
      simp only [List.foldl_append, List.foldl_cons, List.foldl_nil]
      generalize hf : ((Bu.around rs t).take i).foldl Bu.mstep [] = f at *
      refine ⟨_, _, tg_name, ?_⟩
      refine st_if (b := Bu.joins f run) (EvT.is (et_and (et_test (ev_gtI (ev_lenS L (ev_var rfl) (.inl rfl)) ev_int)) fun h_ => (et_test (ev_eqB (ev_gtI (ev_var rfl) ev_int) (ev_gtI (ev_ix (ev_var rfl) (.inl rfl) (ev_neg ev_int) (at_end (fun e => by rw [e] at h_; cases h_))) ev_int)))) ?_) (fun h1 => ?_) fun h1 => ?_
      · unfold Bu.joins
        rw [List.length_map]
        congr 1
        simp
      · have hne : f ≠ [] := fun e => by rw [e] at h1; cases h1
        refine st_let1 (d := .lst (dis (f.dropLast ++ [Bu.lastI f + run]))) (EvD.is (ev_lst (ea_starL (ev_slUL (ev_var rfl) eo_none (eo_some (ev_neg ev_int))) (ea_cons (ev_addI (ev_ix (ev_var rfl) (.inl rfl) (ev_neg ev_int) (at_end hne)) (ev_var rfl)) ea_nil)) ?_) ?_) ⟨some (.int run), ?_⟩
        · rw [cut_init]
          simp [dis]
          simp at ml
          omega
        · rw [cut_init]
          unfold dis
          rw [List.map_append, List.map_dropLast]
          rfl
        · unfold Bu.mstep
          rw [if_pos h1]
          rfl
      · refine st_let1 (d := .lst (dis (f ++ [run]))) (EvD.is (ev_lst (ea_starL (ev_var rfl) (ea_cons (ev_var rfl) ea_nil)) ?_) ?_) ⟨some (.int run), ?_⟩
        · simp [dis]
          simp at ml
          omega
        · unfold dis
          rw [List.map_append]
          rfl
        · unfold Bu.mstep
          rw [if_neg (by rw [h1]; decide)]
          rfl
    · rintro δ1 ⟨o, rfl⟩
      refine ⟨o, ?_⟩
      rw [List.length_map, List.take_length]
    · rintro δ1 ⟨o, rfl⟩
      exact st_retR (ev_cb1 (ev_var rfl) (rc_tuple (.inl rfl)))
/-- the ring that is left, its parts -/
theorem ring_parts {l : List Int} (h : 2 < l.length) : ∃ c mid z, Bu.turned l = l.getD (Bu.plc l) 0 :: c :: mid ++ [z] ∧ Bu.strike l = (z + l.getD (Bu.plc l) 0 + c) :: mid := Bu.turned_parts h
def F_swings_of : List DV → DV → Prop := mkF (fun rs : List Int => rs.length ≤ 100) (fun rs => [.tup (dis rs)]) fun rs => .tup (dis (Bu.swingsOf rs))
theorem fn_swings_of (L : Loc K mg C D) : FA K C P w mg base "swings_of" 4 F_swings_of := by
  obtain ⟨f, fd, F, hm⟩ := L.l_swings_of
  refine fnat_of hm F (fnr_of F sc_swings_of (fun _ _ _ _ _ _ us h => ?_) _ (fun ds d ⟨x, _, e, _⟩ => by rw [e]; rfl) ?_)
  · obtain ⟨a, rfl⟩ := one_of h
    rfl
  intro cdv A outer s H E hr
  refine ⟨_, (pss_cons (ps_set (i := 1) sc_swings_of.nd rfl (Or.inl rfl) (pe_fn (fn_ring_of L) hr (by decide) (by rfl) (pa_cons (pv 0) pa_nil)))
    (pss_cons (ps_set (i := 2) sc_swings_of.nd rfl (Or.inl rfl) (pe_lst pa_nil))
    (pss_cons (ps_while PassesOwn.never (pt_cmpR op_gt (pe_callB (k_len (K := K) rfl L hr (by decide)) (by rfl) L.b_len bb_len (pa_cons (pv 1) pa_nil)) (pe_glob (v := .int 2) (by rfl) L.c_PAIR.choose_spec ⟨_, rfl⟩) (nomark _)) (pss_cons (ps_setLc (i := 3) (own := [("run", 6)]) (g := (gName 6)) (tt := tYes) rfl sc_swings_of.nd rfl rfl (sw_true rfl rfl rfl (by decide +kernel)) (k_iseq (K := K) rfl (pv 1)) (blkOk_by (N := ["runs", "left", "found", "sizes", "place", "around", "run"]) (sc := defScope s_swings_of) (by decide +kernel)) (fun _ _ _ _ _ => (pg_name (i := 6) sc_swings_of.nd rfl (Or.inl rfl))) (fun _ _ _ _ _ => pts_nil) (fun _ _ _ _ _ => (pe_callB call_abs (by rfl) L.b_abs bb_abs (pa_cons (pv 6) pa_nil))))
    (pss_cons (ps_set (i := 4) sc_swings_of.nd rfl (Or.inl rfl) (pe_bm PySem.F.plainAttrs_list PySem.F.slot_list_index PySem.F.type_list_index (k_mindex (K := K) rfl) (pv 3) (pa_cons (pe_callB (k_min (K := K) rfl rfl) (by rfl) L.b_min bb_min (pa_cons (pv 3) pa_nil)) pa_nil)))
    (pss_cons (ps_set (i := 2) sc_swings_of.nd rfl (Or.inl rfl) (pe_lst (k_star (K := K) rfl (pv 2) (pa_cons (pe_ix (k_ix (K := K) rfl) (pv 3) (pv 4) (fun _ _ => rfl)) pa_nil))))
    (pss_cons (ps_set (i := 5) sc_swings_of.nd rfl (Or.inl rfl) (pe_lst (k_star (K := K) rfl (pe_slice (k_sl (K := K) rfl) (pv 1) (po_some (pv 4)) po_none) (k_star (K := K) rfl (pe_slice (k_sl (K := K) rfl) (pv 1) po_none (po_some (pv 4))) pa_nil))))
    (pss_one (ps_set (i := 1) sc_swings_of.nd rfl (Or.inl rfl) (pe_lst (pa_cons (pe_op (k_add (K := K) rfl) (pe_op (k_add (K := K) rfl) (pe_ix (k_ix (K := K) rfl) (pv 5) (pe_un un_neg pe_int) (fun _ _ => rfl)) (pe_ix (k_ix (K := K) rfl) (pv 5) pe_int (fun _ _ => rfl))) (pe_ix (k_ix (K := K) rfl) (pv 5) pe_int (fun _ _ => rfl))) (k_star (K := K) rfl (pe_slice (k_sl (K := K) rfl) (pv 5) (po_some (pe_glob (v := .int 2) (by rfl) L.c_PAIR.choose_spec ⟨_, rfl⟩)) (po_some (pe_un un_neg pe_int))) pa_nil))))))))))
    (pss_cons (ps_if (pt_cmpR op_eq (pe_callB (k_len (K := K) rfl L hr (by decide)) (by rfl) L.b_len bb_len (pa_cons (pv 1) pa_nil)) (pe_glob (v := .int 2) (by rfl) L.c_PAIR.choose_spec ⟨_, rfl⟩) (nomark _)) (pss_one (ps_set (i := 2) sc_swings_of.nd rfl (Or.inl rfl) (pe_lst (k_star (K := K) rfl (pv 2) (pa_cons (pe_callB (k_min (K := K) rfl rfl) (by rfl) L.b_min bb_min (pa_cons (pe_lc (own := [("run", 6)]) (g := (gName 6)) (tt := tYes) rfl sc_swings_of.nd (k_iseq (K := K) rfl (pv 1)) (blkOk_by (N := ["runs", "left", "found", "sizes", "place", "around", "run"]) (sc := defScope s_swings_of) (by decide +kernel)) (fun _ _ _ _ _ => (pg_name (i := 6) sc_swings_of.nd rfl (Or.inl rfl))) (fun _ _ _ _ _ => pts_nil) (fun _ _ _ _ _ => (pe_callB call_abs (by rfl) L.b_abs bb_abs (pa_cons (pv 6) pa_nil)))) pa_nil)) pa_nil))))) pss_nil)
    (pss_one (ps_ret (pe_callTy (k_tuple (K := K) rfl) (by rfl) L.b_tuple bb_tuple (pa_cons (k_rev (K := K) rfl (pe_callB (k_sorted (K := K) rfl) (by rfl) L.b_sorted bb_sorted (pa_cons (pv 2) pa_nil))) pa_nil)))))))), ?_⟩
  rintro ds d ⟨rs, hl, rfl, rfl⟩
  have hl' : rs.length ≤ 100 := hl
  have rl := ring_len rs
  show StD K C _ _ (fun _ => DV.tup (dis (Bu.swingsOf rs)) = .non) (fun r => r = .tup (dis (Bu.swingsOf rs)))
  unfold Bu.swingsOf
  refine st_let (d := .tup (dis (Bu.ringOf rs))) (ev_fn (ea_cons (ev_var rfl) ea_nil) (⟨rs, hl', rfl, rfl⟩)) ?_
  generalize Bu.ringOf rs = l0 at *
  refine st_let (d := .lst (dis [])) (EvD.is (ev_lst ea_nil (Nat.le_of_ble_eq_true rfl)) rfl) ?_
  refine st_seq (M := fun δ => ∃ lft l pre a b c, IsSeq lft (dis l) ∧ l.length ≤ 2 ∧ pre ++ Bu.swA l = Bu.swA l0 ∧ pre.length + l.length ≤ 101 ∧ δ = [some (.tup (dis rs)), some lft, some (.lst (dis pre)), a, b, c, none]) ?_ ?_
  · refine st_while (fun m δ => ∃ lft l pre a b c, IsSeq lft (dis l) ∧ l.length = m ∧ pre ++ Bu.swA l = Bu.swA l0 ∧ pre.length + l.length ≤ 101 ∧ δ = [some (.tup (dis rs)), some lft, some (.lst (dis pre)), a, b, c, none]) l0.length ⟨_, l0, [], none, none, none, .inr rfl, rfl, rfl, by simp; omega, rfl⟩ ?_
    rintro m δ1 ⟨lft, l, pre, a, b, c, hs, hm, hsw, hz, rfl⟩
    refine ⟨decide (2 < l.length), EvT.is (et_test (ev_gtI (ev_lenS L (ev_var rfl) hs) ev_int)) (by rw [List.length_map]; congr 1; simp; omega), fun hb => ?_, fun hb => ?_⟩
    · have h2 : 2 < l.length := of_decide_eq_true hb
      have hne : l ≠ [] := fun e => by rw [e] at h2; cases h2
      have hp := Bu.plc_lt hne
      refine st_let (d := .lst (dis (l.map Bu.ab))) (EvD.is (ev_lcY (b := DV.int) (as := l) Bu.ab (it_seq (ev_var rfl) hs) (by omega) (by decide) fun x _ => ⟨_, tg_name, (ev_cb1 (ev_var rfl) rc_abs)⟩) rfl) ?_
      refine st_let (d := .int ((Bu.plc l : Nat) : Int)) ((ev_index (ev_var rfl) (ev_cb1 (ev_var rfl) (rc_min (by simpa using hne))) (Bu.lmin_mem (by simpa using hne)))) ?_
      refine st_let (d := .lst (dis (pre ++ [Bu.ab (l.getD (Bu.plc l) 0)]))) (EvD.is (ev_lst (ea_starL (ev_var rfl) (ea_cons (ev_ix (ev_var rfl) (.inl rfl) (ev_var rfl) (at_int (by rw [List.length_map]; exact hp))) ea_nil)) ?_) ?_) ?_
      · simp [dis]
        omega
      · have e : (l.map Bu.ab).getD (Bu.plc l) 0 = Bu.ab (l.getD (Bu.plc l) 0) := by
          rw [List.getD_eq_getElem?_getD, List.getD_eq_getElem?_getD, List.getElem?_map, List.getElem?_eq_getElem hp]
          rfl
        rw [e]
        unfold dis
        rw [List.map_append]
        rfl
      obtain ⟨c0, mid, z, e1, e2⟩ := ring_parts h2
      have tl : (Bu.turned l).length = l.length := Bu.turned_len l
      obtain ⟨d1, s1, v1⟩ := ev_drpS (K := K) (C := C) (δ := [some (.tup (dis rs)), some lft, some (.lst (dis (pre ++ [Bu.ab (l.getD (Bu.plc l) 0)]))), some (.lst (dis (l.map Bu.ab))), some (.int ((Bu.plc l : Nat) : Int)), c, none]) (ta := tVar 1) (tb := tVar 4) (ev_var rfl) hs (k := Bu.plc l) (ev_var rfl)
      obtain ⟨d2, s2, v2⟩ := ev_takS (K := K) (C := C) (δ := [some (.tup (dis rs)), some lft, some (.lst (dis (pre ++ [Bu.ab (l.getD (Bu.plc l) 0)]))), some (.lst (dis (l.map Bu.ab))), some (.int ((Bu.plc l : Nat) : Int)), c, none]) (ta := tVar 1) (tb := tVar 4) (ev_var rfl) hs (k := Bu.plc l) (ev_var rfl)
      refine st_let (d := .lst (dis (Bu.turned l))) (EvD.is (ev_lst (ea_starS v1 s1 (ea_starS v2 s2 ea_nil)) ?_) ?_) ?_
      · simp [dis]
        omega
      · unfold Bu.turned dis
        rw [List.append_nil, List.map_append]
      refine st_let1 (d := .lst (dis (Bu.strike l))) (EvD.is (ev_lst (ea_cons (ev_addI (ev_addI (ev_ix (ev_var rfl) (.inl rfl) (ev_neg ev_int) ((by rw [e1]; unfold dis; rw [List.map_append]; exact atI_last _ _ : atI (dis (Bu.turned l)) (-1) = some (.int z)))) (ev_ix (ev_var rfl) (.inl rfl) ev_int ((by rw [e1]; exact atI_nat (j := 0) rfl : atI (dis (Bu.turned l)) 0 = some (.int (l.getD (Bu.plc l) 0)))))) (ev_ix (ev_var rfl) (.inl rfl) ev_int ((by rw [e1]; exact atI_nat (j := 1) rfl : atI (dis (Bu.turned l)) 1 = some (.int c0))))) (ea_starL (ev_slUL (ev_var rfl) (eo_some ev_int) (eo_some (ev_neg ev_int))) ea_nil)) ?_) ?_) ?_
      · rw [cut_mid, e1]
        have := congrArg List.length e1
        simp at this
        simp [dis]
        omega
      · have k : (dis (l.getD (Bu.plc l) 0 :: c0 :: mid ++ [z])).dropLast.drop 2 = dis mid := by
          unfold dis
          rw [List.map_append]
          exact mid_of _ _ _ _
        rw [cut_mid, e1, k, e2, List.append_nil]
        rfl
      · refine ⟨(Bu.strike l).length, ?_, .lst (dis (Bu.strike l)), Bu.strike l, pre ++ [Bu.ab (l.getD (Bu.plc l) 0)], _, _, _, .inl rfl, rfl, ?_, ?_, rfl⟩
        · rw [Bu.strike_len h2]
          omega
        · rw [← hsw, Bu.swA_big h2, List.append_assoc]
          rfl
        · rw [Bu.strike_len h2, List.length_append, List.length_singleton]
          omega
    · exact ⟨lft, l, pre, a, b, c, hs, by have := of_decide_eq_false hb; omega, hsw, hz, rfl⟩
  · rintro δ1 ⟨lft, l, pre, a, b, c, hs, hm, hsw, hz, rfl⟩
    refine st_cond (b := decide (l.length = 2)) (EvT.is (et_test (ev_eqI (ev_lenS L (ev_var rfl) hs) ev_int)) (by rw [List.length_map]; congr 1; simp; omega)) (fun hb => ?_) (fun hb => st_next rfl) (δ1 := [some (.tup (dis rs)), some lft, some (.lst (dis (pre ++ [Bu.lmin (l.map Bu.ab)]))), a, b, c, none]) ?_
    · have h2 : l.length = 2 := of_decide_eq_true hb
      have hne : l ≠ [] := fun e => by rw [e] at h2; cases h2
      refine st_let1 (EvD.is (ev_lst (ea_starL (ev_var rfl) (ea_cons (ev_cb1 (ev_lcY (b := DV.int) (as := l) Bu.ab (it_seq (ev_var rfl) hs) (by omega) (by decide) fun x _ => ⟨_, tg_name, (ev_cb1 (ev_var rfl) rc_abs)⟩) (rc_min (by simpa using hne))) ea_nil)) ?_) ?_) rfl
      · simp [dis]
        omega
      · unfold dis
        rw [List.map_append]
        rfl
    · have fin : ∀ (f : List Int) (δ : Den), f = Bu.swA l0 → δ[2]? = some (some (.lst (dis f))) → EvD K C (tCB (rTupleOf K) (tCons (tRevL K (tCB (rSortedI K) (tCons (tVar 2) tNil))) tNil)) δ (.tup (dis (Bu.isort (Bu.swA l0)).reverse)) := fun f δ e h => by
        subst e
        refine EvD.is (ev_cb1 (ev_revL (ev_cb1 (ev_var h) rc_sorted)) (rc_tuple (.inl rfl))) ?_
        unfold dis
        rw [List.map_reverse]
      cases hb : decide (l.length = 2) with
      | true =>
        have h2 : l.length = 2 := of_decide_eq_true hb
        rw [if_pos rfl]
        exact st_retR (fin _ _ (by rw [← hsw, Bu.swA_two h2]) rfl)
      | false =>
        have h2 : l.length ≠ 2 := of_decide_eq_false hb
        rw [if_neg (by decide)]
        exact st_retR (fin pre _ (by rw [← hsw, Bu.swA_less (by omega), List.append_nil]) rfl)
end
end Dt
set_option Elab.async false
set_option linter.all false
set_option maxRecDepth 100000
set_option maxHeartbeats 4000000
/-! A year is made; its properties. -/
namespace Dt
open PySem PySem.Spec PyProof.Rows L2
open Evl (Ex)
abbrev YrOk (rs : List Int) : Prop := rs ≠ [] ∧ (∀ r ∈ rs, r ≠ 0) ∧ rs.length ≤ 100
section
variable {P : Program} {w : World} {K : Frag} {mg : Str → Option Value} {base : Heap} {C D : Addr} {x qual : Str} {st : Stmt} {f : Addr} {fd : FuncData} {N ps : List Str} {k : Nat}
/-- the rule for a def by any promise -/
theorem fnr_raw {sp : Sp} (F : FnP K x qual st f fd) (S : FnScope N ps (defScope st)) (hb : ∀ (kV doc pm : Value) (an : Option Addr) (cdv ct : Value) (us : List Value), us.length = ps.length → bindArgs (PySem.W.fnOf x qual (defArgs st) (defBody st) (defScope st) .none kV doc pm an cdv ct) ⟨us, []⟩ = pure (ps.zip us))
    (hlen : ∀ vs H Q E, sp vs H Q E → vs.length = ps.length)
    (hbody : ∀ (cdv : Value) (A : Around) (outer : List PySem.Env) (s : Shared) (H : Hp) (E : XK), Room k (A.deeper (envOfC qual (defScope st) s.heap.objs.size f cdv)) →
      ∃ t, PSs (cxOf CX0 P w K mg base N qual (defScope st) f cdv A outer s H E).nox (defBody st) t ∧ ∀ (vs : List V) (Q : VK), sp vs H Q E → t { nx := fun _ H' => Q .non H', rt := Q } (L2.start N vs) H) : FnR P w K mg base CX0 (k + 1) f sp := by
  have ok : FnOk P w K mg base CX0 (k + 1) f fd ps sp := by
    refine F.ok S hlen (fun cdv A outer s H vs Q E hr h => ?_)
    obtain ⟨t, ht, hs⟩ := hbody cdv A outer s H E hr
    exact ⟨t, ht.nox, hs vs Q h⟩
  have z := FnOk.raw ok (F.bindsN hb) .nil
  exact z.imp fun vs H Q E h => by rw [List.append_nil]; exact h
end
section
variable {K : Frag} {C : Addr}
/-- Year.__init__ by its promise: at x stands a new instance -/
def spYear (K : Frag) (C : Addr) : Sp := fun vs H Q _ => ∃ (O : Addr → Bool) (B : Hp) (x dx : Addr) (v : V) (d : DV) (rs : List Int), vs = [.ref x, v] ∧ B x = none ∧ B dx = none ∧ dx ≠ x ∧ H = upd (upd B dx (.own x)) x (.ins C dx []) ∧
  Good O B ∧ Rep K C (msk O B) v d ∧ IsSeq d (dis rs) ∧ YrOk rs ∧ ∀ H', Evl.Ex B H' → Rep K C (msk O H') (.ref x) (.yr rs) → Q .non H'
/-- a tuple is no instance: a store leaves it -/
theorem sqt_slot {H : Hp} {p x dx : Addr} {xs : List V} {vs : List (Option V)} (h : SqT K H p xs) (hx : ∀ xs, ¬ Rd H x (.tup xs)) (hd : ∀ xs, ¬ Rd H dx (.tup xs)) : SqT K (SlX.slH H x C dx vs) p xs := by
  rcases h with h | h
  · refine .inl ?_
    have n1 : p ≠ x := fun z => hx xs (z ▸ h)
    have n2 : p ≠ dx := fun z => hd xs (z ▸ h)
    unfold Rd at *
    rw [SlX.slH_ne n1 n2]
    exact h
  · exact .inr h
theorem msk_slH {O : Addr → Bool} {H : Hp} {x dx : Addr} {vs : List (Option V)} (ox : O x = false) (od : O dx = false) : msk O (SlX.slH H x C dx vs) = SlX.slH (msk O H) x C dx vs := by
  funext a
  unfold SlX.slH
  by_cases h : a = x
  · rw [h, msk_at ox, upd_same, upd_same]
  · by_cases h2 : a = dx
    · rw [h2, msk_at od]
      by_cases h3 : dx = x
      · exact absurd (h2.trans h3) h
      · rw [upd_ne h3, upd_same, upd_ne h3, upd_same]
    · rw [upd_ne h, upd_ne h2]
      unfold msk
      rw [upd_ne h, upd_ne h2]
theorem intsTm {H : Hp} {v : V} {ns : List Int} {O : Addr → Bool} (h : Rep K C (msk O H) v (.tup (dis ns))) : ∃ a, v = .ref a ∧ SqT K (msk O H) a (ns.map V.int) := by
  cases h with
  | tup hq hr =>
    have e := hr.ints_eq
    subst e
    exact ⟨_, rfl, hq⟩
theorem rd_not {H : Hp} {a : Addr} {o : HO} (h : H a = some o) (n1 : ∀ xs : List V, o ≠ HO.tup xs) (n2 : ∀ b u, o ≠ HO.frz b u) (xs : List V) : ¬ Rd H a (.tup xs) := fun z => by
  rcases z with z | ⟨b, z⟩
  · rw [h] at z
    exact n1 xs (Option.some.inj z)
  · rw [h] at z
    exact n2 _ _ (Option.some.inj z)
theorem slo_tup {a C dx : Addr} {vs : List (Option V)} : (∀ xs : List V, SlX.SlO a C dx vs ≠ HO.tup xs) ∧ (∀ b u, SlX.SlO a C dx vs ≠ HO.frz b u) := ⟨(by intro xs z; unfold SlX.SlO at z; cases z), (by intro b u z; unfold SlX.SlO at z; cases z)⟩
/-- a store changes what is owned alone -/
theorem ex_slot {B H : Hp} {x dx : Addr} {vs : List (Option V)} (e : Evl.Ex B H) (h1 : B x = none) (h2 : B dx = none) : Evl.Ex B (SlX.slH H x C dx vs) := fun a o q => by
  rw [SlX.slH_ne (fun z => by rw [z, h1] at q; cases q) fun z => by rw [z, h2] at q; cases q]
  exact e a o q
end
section
variable {K : Frag} {C : Addr} {δ : Den} {rs : List Int} {ta : TE}
theorem ev_half {p x dx : Addr} (h : EvD K C ta δ (.hf x dx rs)) (c : SlX.SCls K C) (s : SlX.Slot1 K C "own_runs" p 0) : EvD K C (SlX.tSl K ta "own_runs") δ (.tup (dis rs)) := fun O σ H Q gd e q =>
  h O σ H _ gd e fun v H1 e1 r1 => by
    cases r1 with
    | hf hs hp => exact ⟨_, C, _, p, _, 0, _, rfl, slt_mono msk_sub hs, c, s, rfl, q _ H1 e1 (.tup hp (.of_ints K C _ rs))⟩
end
section
variable {P : Program} {w : World} {K : Frag} {mg : Str → Option Value} {base : Heap} {C D : Addr}
theorem mk_year (L : Loc K mg C D) : ∃ f, Mk K C f ∧ FnR P w K mg base CX0 5 f (spYear K C) := by
  obtain ⟨f, fd, M, F⟩ := L.y_mk
  obtain ⟨p0, s0⟩ := L.y_s0
  obtain ⟨p1, s1⟩ := L.y_s1
  refine ⟨f, M, fnr_raw F sc_Year___init__ (fun _ _ _ _ _ _ us h => ?_) (fun vs H Q E h => ?_) ?_⟩
  · obtain ⟨a, b, rfl⟩ := two_of h
    rfl
  · obtain ⟨_, _, _, _, _, _, _, e, _⟩ := h
    rw [e]
    rfl
  intro cdv A outer s H E hr
  refine ⟨_, (pss_cons (SlX.ps_sl (pv 0) (pe_callTy (k_tuple (K := K) rfl) (by rfl) L.b_tuple bb_tuple (pa_cons (pv 1) pa_nil)))
    (pss_cons (ps_for PassesOwn.never rfl (k_ienumT (K := K) rfl (by rfl) L.b_enumerate (pa_cons (k_slot (K := K) rfl (pv 0)) pa_nil)) (pg_tup rfl (pgs_cons (pg_name (i := 2) sc_Year___init__.nd rfl (Or.inl rfl)) (pgs_cons (pg_name (i := 3) sc_Year___init__.nd rfl (Or.inl rfl)) pgs_nil))) (pss_one (ps_if (pt_cmpR op_eq (pv 3) pe_int (nomark _)) (pss_one ps_never) pss_nil)))
    (pss_one (SlX.ps_sl (pv 0) (pe_fn (fn_swings_of L) hr (by decide) (by rfl) (pa_cons (k_slot (K := K) rfl (pv 0)) pa_nil)))))), ?_⟩
  rintro vs Q ⟨O, B, x, dx, v, d, rs, rfl, bx, bd, ne, rfl, gd, rv, hsq, ok, q⟩
  have eB : Evl.Ex B (upd (upd B dx (.own x)) x (.ins C dx [])) := (Evl.Ex.new bd).trans (Evl.Ex.new (by rw [upd_ne (Ne.symm ne)]; exact bx))
  have g0 := gd.ex eB
  have env0 : EnvD K C O (upd (upd B dx (.own x)) x (.ins C dx [])) (L2.start ["self", "runs", "place", "run"] [.ref x, v]) [none, some d, none, none] := ⟨rfl, fun i d' h => by
    match i, h with
    | 1, h =>
      cases h
      exact ⟨v, rfl, rv.up eB⟩
    | 0, h => cases h
    | 2, h => cases h
    | 3, h => cases h⟩
  refine (ev_cb1 (ev_var (i := 1) rfl) (rc_tuple hsq) : EvD K C _ [none, some d, none, none] (.tup (dis rs))) O _ _ _ g0 env0 fun y H1 e1 r1 => ?_
  have e1' := eB.trans e1
  have i1 : H1 x = some (.ins C dx []) := e1 _ _ upd_same
  have i2 : H1 dx = some (.own x) := e1 _ _ (by rw [upd_ne ne, upd_same])
  refine ⟨_, rfl, x, C, dx, p0, [], 0, rfl, .inl ⟨i1, rfl⟩, L.ycls, s0, ?_⟩
  obtain ⟨p, rfl, hp⟩ := intsTm r1
  have ox : O x = false := gd.new bx
  have od : O dx = false := gd.new bd
  have e2 : Evl.Ex B (SlX.slH H1 x C dx (SlX.putS 0 (.ref p) [])) := ex_slot e1' bx bd
  have g2 : Good O (SlX.slH H1 x C dx (SlX.putS 0 (.ref p) [])) := gd.ex e2
  have hp2 : SqT K (msk O (SlX.slH H1 x C dx (SlX.putS 0 (.ref p) []))) p (rs.map V.int) := by
    rw [msk_slH ox od]
    exact sqt_slot hp (rd_not (by rw [msk_at ox]; exact i1) (by intro _ z; cases z) (by intro _ _ z; cases z)) (rd_not (by rw [msk_at od]; exact i2) (by intro _ z; cases z) (by intro _ _ z; cases z))
  have sl2 : SlX.Slt (msk O (SlX.slH H1 x C dx (SlX.putS 0 (.ref p) []))) x C dx [some (.ref p)] := by
    rw [msk_slH ox od]
    exact SlX.slH_slt ne
  have hfor : StD K C (tFor (iEnumT K (tCons (SlX.tSl K (tVar 0) "own_runs") tNil)) (gTup K 2 (gCons (gName 2) (gCons (gName 3) gNil))) (tIfS (tTest (tOp rEq (tVar 3) (tC (.int 0)))) tNever tNext)) [some (.hf x dx rs), none, none, none] (fun δ => ∃ a b, δ = [some (.hf x dx rs), none, a, b]) (fun _ => False) := by
    refine st_for (fun i δ => ∃ a b, δ = [some (.hf x dx rs), none, a, b]) (it_enumT (ev_half (ev_var rfl) L.ycls s0)) ⟨none, none, rfl⟩ ?_ fun δ1 h => h
    rintro i d1 δ1 hi ⟨a, b, rfl⟩
    rw [List.getElem?_map, List.getElem?_zipIdx, List.getElem?_map] at hi
    cases hr1 : rs[i]? with
    | none => rw [hr1] at hi; cases hi
    | some r =>
      rw [hr1] at hi
      cases hi
      have r0 : r ≠ 0 := ok.2.1 r (List.mem_of_getElem? hr1)
      refine ⟨_, _, tg_tup rfl (tgs_cons tg_name (tgs_cons tg_name tgs_nil)), ?_⟩
      exact st_if (b := false) (EvT.is (et_test (ev_eqI (ev_var rfl) ev_int)) (decide_eq_false r0)) (fun h => by cases h) fun _ => st_next ⟨_, _, rfl⟩
  have env2 : EnvD K C O (SlX.slH H1 x C dx (SlX.putS 0 (.ref p) [])) (L2.start ["self", "runs", "place", "run"] [.ref x, v]) [some (.hf x dx rs), none, none, none] := ⟨rfl, fun i d' h => by
    match i, h with
    | 0, h =>
      cases h
      exact ⟨.ref x, rfl, .hf sl2 hp2⟩
    | 1, h => cases h
    | 2, h => cases h
    | 3, h => cases h⟩
  refine hfor O _ _ _ g2 env2 ?_ fun _ _ _ h => h.elim
  rintro δ3 σ3 H3 ⟨a, b, rfl⟩ x3 env3
  have e3 := e2.trans x3
  refine (ev_fn (ea_cons (ev_half (ev_var (i := 0) rfl) L.ycls s0) ea_nil) ⟨rs, ok.2.2, rfl, rfl⟩ : EvD K C (tFn (spD K C F_swings_of) _) [some (.hf x dx rs), none, a, b] _) O σ3 H3 _ (g2.ex x3) env3 fun y H4 e4 r4 => ?_
  obtain ⟨q', rfl, hq4⟩ := intsTm r4
  have e34 := e3.trans e4
  have env4 := env3.up e4
  obtain ⟨v0, hv0, rv0⟩ := env4.at_ 0 _ rfl
  refine ⟨v0, hv0, ?_⟩
  cases rv0 with
  | hf hs4 hp4 =>
    rename_i p'
    refine ⟨x, C, dx, p1, [some (.ref p')], 1, rfl, slt_mono msk_sub hs4, L.ycls, s1, ?_⟩
    have e5 : Evl.Ex B (SlX.slH H4 x C dx (SlX.putS 1 (.ref q') [some (.ref p')])) := ex_slot e34 bx bd
    have w4 : H4 x = some (SlX.SlO x C dx [some (.ref p')]) ∧ H4 dx = some (.xd []) := by
      rcases slt_mono msk_sub hs4 with ⟨_, z⟩ | z
      · cases z
      · exact z
    have tx : ∀ xs, ¬ Rd (msk O H4) x (.tup xs) := rd_not (by rw [msk_at ox]; exact w4.1) slo_tup.1 slo_tup.2
    have td : ∀ xs, ¬ Rd (msk O H4) dx (.tup xs) := rd_not (by rw [msk_at od]; exact w4.2) (by intro _ z; cases z) (by intro _ _ z; cases z)
    refine q _ e5 (.yr (dx := dx) (p := p') (q := q') ?_ ?_ ?_ ok)
    · rw [msk_slH ox od]
      exact SlX.slH_slt ne
    · rw [msk_slH ox od]
      exact sqt_slot hp4 tx td
    · rw [msk_slH ox od]
      exact sqt_slot hq4 tx td
end
/-- Year(e) -/
theorem k_year {X : Cx} {K : Frag} {C D : Addr} {k : Nat} {e : Expr} {es : List Expr} {t : TA} {p pos : Pos} (h : X.K = K) (L : Loc X.K X.mg C D) (hr : Room k X.A) (hk : 6 ≤ k) (hg : Gl X "Year") (ha : PA X (e :: es) t)
    (he : starEach (e :: es) X.env = (false, eval e X.env) :: starEach es X.env := by rfl) (hpl : (backTo pos (starEach es X.env)).any (·.1) = false := by rfl) : PE X (.Call (.Name "Year" p) (e :: es) [] pos) (StX.tMakeR C (spYear K C) E0 t) := by
  subst h
  obtain ⟨f, M, F⟩ := mk_year (P := X.prog) (w := X.w) (base := X.base) L
  exact StX.pe_makeR M F (hr.mono hk) hg L.mgY pass0 ha (by decide) he hpl
theorem ev_year {K : Frag} {C : Addr} {δ : Den} {ta : TE} {d : DV} {rs : List Int} (h : EvD K C ta δ d) (hs : IsSeq d (dis rs)) (ok : YrOk rs) : EvD K C (StX.tMakeR C (spYear K C) E0 (tCons ta tNil)) δ (.yr rs) := fun O σ H Q gd e q =>
  h O σ H _ gd e fun v H1 e1 r1 x dx hx hd ne => ⟨O, H1, x, dx, v, d, rs, rfl, hx, hd, ne, rfl, gd.ex e1, r1, hs, ok, fun H2 e2 r2 => ⟨rfl, q _ H2 (e1.trans e2) r2⟩⟩
end Dt
set_option Elab.async false
set_option linter.all false
set_option maxRecDepth 100000
set_option maxHeartbeats 4000000
/-! A year's properties; what it buys; the changes of a year. -/
namespace Dt
open PySem PySem.Spec PyProof.Rows L2
open Evl (Ex)
section
variable {P : Program} {w : World} {K : Frag} {mg : Str → Option Value} {base : Heap} {C D : Addr}
/-- the heap of a year -/
abbrev hpOf (rs : List Int) : Hpr := (Bu.wantsOf rs, Bu.swingsOf rs)
def rainOf (rs : List Int) : Int := (rs.filter fun r => decide (0 < r)).sum
def drawOf (rs : List Int) : Int := ((rs.filter fun r => decide (r < 0)).map fun r => -r).sum
theorem rain_draws : ∀ {rs : List Int}, rainOf rs - drawOf rs = rs.sum
  | [] => rfl
  | r :: rs => by
    have ih := rain_draws (rs := rs)
    unfold rainOf drawOf at *
    rw [List.filter_cons, List.filter_cons, List.sum_cons]
    by_cases h1 : 0 < r
    · rw [if_pos (by simpa using h1), if_neg (by simp; omega), List.sum_cons]
      omega
    · by_cases h2 : r < 0
      · rw [if_neg (by simp; omega), if_pos (by simpa using h2), List.map_cons, List.sum_cons]
        omega
      · rw [if_neg (by simp; omega), if_neg (by simp; omega)]
        omega
abbrev mkY (res : List Int → DV) : List DV → DV → Prop := mkF YrOk (fun rs => [.yr rs]) res
def F_Year_runs : List DV → DV → Prop := mkY fun rs => .tup (dis rs)
def F_Year_swings : List DV → DV → Prop := mkY fun rs => .tup (dis (Bu.swingsOf rs))
def F_Year_rain : List DV → DV → Prop := mkY fun rs => .int (rainOf rs)
def F_Year_draws : List DV → DV → Prop := mkY fun rs => .int (drawOf rs)
def F_Year_wants : List DV → DV → Prop := mkY fun rs => .int (Bu.wantsOf rs)
def F_Year_spare : List DV → DV → Prop := mkY fun rs => .int (Bu.spareOf rs)
def F_Year_heap : List DV → DV → Prop := mkY fun rs => hpD (hpOf rs)
section
variable {δ : Den} {ta : TE} {rs : List Int} {d : DV}
theorem ev_prY {F : List DV → DV → Prop} (h : EvD K C ta δ (.yr rs)) (hf : YrOk rs → F [.yr rs] d) : EvD K C (SlX.tPropSl C (spD K C F) E0 ta) δ d := fun O σ H Q gd e q =>
  h O σ H _ gd e fun v H1 e1 r1 => by
    cases r1 with
    | yr hs hp hq ne => exact ⟨_, _, _, rfl, slt_mono msk_sub hs, O, _, d, gd.ex e1, hf ne, .cons (.yr hs hp hq ne) .nil, fun v H2 e2 r2 => q v H2 (e1.trans e2) r2⟩
theorem ev_p_runs (h : EvD K C ta δ (.yr rs)) : EvD K C (SlX.tPropSl C (spD K C F_Year_runs) E0 ta) δ (.tup (dis rs)) := ev_prY h fun ok => ⟨rs, ok, rfl, rfl⟩
theorem ev_p_swings (h : EvD K C ta δ (.yr rs)) : EvD K C (SlX.tPropSl C (spD K C F_Year_swings) E0 ta) δ (.tup (dis (Bu.swingsOf rs))) := ev_prY h fun ok => ⟨rs, ok, rfl, rfl⟩
theorem ev_p_rain (h : EvD K C ta δ (.yr rs)) : EvD K C (SlX.tPropSl C (spD K C F_Year_rain) E0 ta) δ (.int (rainOf rs)) := ev_prY h fun ok => ⟨rs, ok, rfl, rfl⟩
theorem ev_p_draws (h : EvD K C ta δ (.yr rs)) : EvD K C (SlX.tPropSl C (spD K C F_Year_draws) E0 ta) δ (.int (drawOf rs)) := ev_prY h fun ok => ⟨rs, ok, rfl, rfl⟩
theorem ev_p_wants (h : EvD K C ta δ (.yr rs)) : EvD K C (SlX.tPropSl C (spD K C F_Year_wants) E0 ta) δ (.int (Bu.wantsOf rs)) := ev_prY h fun ok => ⟨rs, ok, rfl, rfl⟩
theorem ev_p_spare (h : EvD K C ta δ (.yr rs)) : EvD K C (SlX.tPropSl C (spD K C F_Year_spare) E0 ta) δ (.int (Bu.spareOf rs)) := ev_prY h fun ok => ⟨rs, ok, rfl, rfl⟩
theorem ev_p_heap (h : EvD K C ta δ (.yr rs)) : EvD K C (SlX.tPropSl C (spD K C F_Year_heap) E0 ta) δ (hpD (hpOf rs)) := ev_prY h fun ok => ⟨rs, ok, rfl, rfl⟩
/-- what is known of a year that lies in a slot: its runs are such -/
theorem ev_okY {te : TE} (h : EvD K C ta δ (.yr rs)) (k : YrOk rs → EvD K C te δ d) (hte : ∀ (O : Addr → Bool) (σ : L2.St) (H : Hp) (Q : VK), EnvD K C O H σ δ → YrOk rs) : EvD K C te δ d := fun O σ H Q gd e q => k (hte O σ H Q e) O σ H Q gd e q
end
theorem pr_runs (L : Loc K mg C D) : PrR P w K mg base C "runs" 1 (spD K C F_Year_runs) := by
  obtain ⟨p, f, fd, h1, h2, h3, h4, F⟩ := L.y_runs
  refine ⟨p, f, h1, h2, h3, h4, fnr_of F sc_Year_runs (fun _ _ _ _ _ _ us h => ?_) _ (fun ds d ⟨x, _, e, _⟩ => by rw [e]; rfl) ?_⟩
  · obtain ⟨a, rfl⟩ := one_of h
    rfl
  intro cdv A outer s H E hr
  refine ⟨_, (pss_one (ps_ret (k_slot (K := K) rfl (pv 0)))), ?_⟩
  rintro ds d ⟨rs, ok, rfl, rfl⟩
  exact st_retR (ev_runs (ev_var rfl) L.ycls L.y_s0.choose_spec)
theorem pr_swings (L : Loc K mg C D) : PrR P w K mg base C "swings" 1 (spD K C F_Year_swings) := by
  obtain ⟨p, f, fd, h1, h2, h3, h4, F⟩ := L.y_swings
  refine ⟨p, f, h1, h2, h3, h4, fnr_of F sc_Year_swings (fun _ _ _ _ _ _ us h => ?_) _ (fun ds d ⟨x, _, e, _⟩ => by rw [e]; rfl) ?_⟩
  · obtain ⟨a, rfl⟩ := one_of h
    rfl
  intro cdv A outer s H E hr
  refine ⟨_, (pss_one (ps_ret (k_slot (K := K) rfl (pv 0)))), ?_⟩
  rintro ds d ⟨rs, ok, rfl, rfl⟩
  exact st_retR (ev_swings (ev_var rfl) L.ycls L.y_s1.choose_spec)
theorem pr_rain (L : Loc K mg C D) : PrR P w K mg base C "rain" 1 (spD K C F_Year_rain) := by
  obtain ⟨p, f, fd, h1, h2, h3, h4, F⟩ := L.y_rain
  refine ⟨p, f, h1, h2, h3, h4, fnr_of F sc_Year_rain (fun _ _ _ _ _ _ us h => ?_) _ (fun ds d ⟨x, _, e, _⟩ => by rw [e]; rfl) ?_⟩
  · obtain ⟨a, rfl⟩ := one_of h
    rfl
  intro cdv A outer s H E hr
  refine ⟨_, (pss_one (ps_ret (pe_callB (k_sum (K := K) rfl rfl) (by rfl) L.b_sum bb_sum (pa_cons (pe_lc (own := [("run", 1)]) (g := (gName 1)) rfl sc_Year_rain.nd (k_itup (K := K) rfl (k_slot (K := K) rfl (pv 0))) (blkOk_by (N := ["self", "run"]) (sc := defScope s_Year_rain) (by decide +kernel)) (fun _ _ _ _ _ => (pg_name (i := 1) sc_Year_rain.nd rfl (Or.inl rfl))) (fun _ _ _ _ _ => (pts_one (pt_cmpR op_gt (pv 1) pe_int (nomark _)))) (fun _ _ _ _ _ => (pv 1))) pa_nil)))), ?_⟩
  rintro ds d ⟨rs, ok, rfl, rfl⟩
  have hl : rs.length ≤ 100 := ok.2.2
  refine st_retR (EvD.is (ev_cb1 (ev_lcM (b := DV.int) (as := rs) (fun x => x) (fun r => decide (0 < r)) (it_tup (ev_runs (ev_var rfl) L.ycls L.y_s0.choose_spec)) (by omega) (by decide) fun x _ => ⟨_, tg_name, (et_test (ev_gtI (ev_var rfl) ev_int)), fun _ => (ev_var rfl)⟩) rc_sumL) ?_)
  rw [List.map_id']
  rfl
theorem pr_draws (L : Loc K mg C D) : PrR P w K mg base C "draws" 1 (spD K C F_Year_draws) := by
  obtain ⟨p, f, fd, h1, h2, h3, h4, F⟩ := L.y_draws
  refine ⟨p, f, h1, h2, h3, h4, fnr_of F sc_Year_draws (fun _ _ _ _ _ _ us h => ?_) _ (fun ds d ⟨x, _, e, _⟩ => by rw [e]; rfl) ?_⟩
  · obtain ⟨a, rfl⟩ := one_of h
    rfl
  intro cdv A outer s H E hr
  refine ⟨_, (pss_one (ps_ret (pe_callB (k_sum (K := K) rfl rfl) (by rfl) L.b_sum bb_sum (pa_cons (pe_lc (own := [("run", 1)]) (g := (gName 1)) rfl sc_Year_draws.nd (k_itup (K := K) rfl (k_slot (K := K) rfl (pv 0))) (blkOk_by (N := ["self", "run"]) (sc := defScope s_Year_draws) (by decide +kernel)) (fun _ _ _ _ _ => (pg_name (i := 1) sc_Year_draws.nd rfl (Or.inl rfl))) (fun _ _ _ _ _ => (pts_one (pt_cmpR op_lt (pv 1) pe_int (nomark _)))) (fun _ _ _ _ _ => (pe_un un_neg (pv 1)))) pa_nil)))), ?_⟩
  rintro ds d ⟨rs, ok, rfl, rfl⟩
  have hl : rs.length ≤ 100 := ok.2.2
  exact st_retR (ev_cb1 (ev_lcM (b := DV.int) (as := rs) (fun x => -x) (fun r => decide (r < 0)) (it_tup (ev_runs (ev_var rfl) L.ycls L.y_s0.choose_spec)) (by omega) (by decide) fun x _ => ⟨_, tg_name, (et_test (ev_ltI (ev_var rfl) ev_int)), fun _ => (ev_neg (ev_var rfl))⟩) rc_sumL)
theorem pr_wants (L : Loc K mg C D) : PrR P w K mg base C "wants" 3 (spD K C F_Year_wants) := by
  obtain ⟨p, f, fd, h1, h2, h3, h4, F⟩ := L.y_wants
  refine ⟨p, f, h1, h2, h3, h4, fnr_of F sc_Year_wants (fun _ _ _ _ _ _ us h => ?_) _ (fun ds d ⟨x, _, e, _⟩ => by rw [e]; rfl) ?_⟩
  · obtain ⟨a, rfl⟩ := one_of h
    rfl
  intro cdv A outer s H E hr
  refine ⟨_, (pss_one (ps_ret (pe_callB (call_max2 rfl) (by rfl) L.b_max bb_max (pa_cons pe_int (pa_cons (pe_op op_sub (pe_pr (pr_draws L) L.ycls hr (by decide) (pv 0)) (pe_pr (pr_rain L) L.ycls hr (by decide) (pv 0))) pa_nil))))), ?_⟩
  rintro ds d ⟨rs, ok, rfl, rfl⟩
  refine st_retR (EvD.is (ev_cb2 ev_int (ev_subI (ev_p_draws (ev_var rfl)) (ev_p_rain (ev_var rfl))) rc_max2) ?_)
  have := rain_draws (rs := rs)
  show DV.int (max 0 (drawOf rs - rainOf rs)) = DV.int (max 0 (-rs.sum))
  congr 1
  omega
theorem pr_spare (L : Loc K mg C D) : PrR P w K mg base C "spare" 3 (spD K C F_Year_spare) := by
  obtain ⟨p, f, fd, h1, h2, h3, h4, F⟩ := L.y_spare
  refine ⟨p, f, h1, h2, h3, h4, fnr_of F sc_Year_spare (fun _ _ _ _ _ _ us h => ?_) _ (fun ds d ⟨x, _, e, _⟩ => by rw [e]; rfl) ?_⟩
  · obtain ⟨a, rfl⟩ := one_of h
    rfl
  intro cdv A outer s H E hr
  refine ⟨_, (pss_one (ps_ret (pe_callB (call_max2 rfl) (by rfl) L.b_max bb_max (pa_cons pe_int (pa_cons (pe_op op_sub (pe_pr (pr_rain L) L.ycls hr (by decide) (pv 0)) (pe_pr (pr_draws L) L.ycls hr (by decide) (pv 0))) pa_nil))))), ?_⟩
  rintro ds d ⟨rs, ok, rfl, rfl⟩
  refine st_retR (EvD.is (ev_cb2 ev_int (ev_subI (ev_p_rain (ev_var rfl)) (ev_p_draws (ev_var rfl))) rc_max2) ?_)
  have := rain_draws (rs := rs)
  show DV.int (max 0 (rainOf rs - drawOf rs)) = DV.int (max 0 rs.sum)
  congr 1
  omega
theorem pr_heap (L : Loc K mg C D) : PrR P w K mg base C "heap" 5 (spD K C F_Year_heap) := by
  obtain ⟨p, f, fd, h1, h2, h3, h4, F⟩ := L.y_heap
  refine ⟨p, f, h1, h2, h3, h4, fnr_of F sc_Year_heap (fun _ _ _ _ _ _ us h => ?_) _ (fun ds d ⟨x, _, e, _⟩ => by rw [e]; rfl) ?_⟩
  · obtain ⟨a, rfl⟩ := one_of h
    rfl
  intro cdv A outer s H E hr
  refine ⟨_, (pss_one (ps_ret (pe_tup (pa_cons (pe_pr (pr_wants L) L.ycls hr (by decide) (pv 0)) (pa_cons (pe_pr (pr_swings L) L.ycls hr (by decide) (pv 0)) pa_nil))))), ?_⟩
  rintro ds d ⟨rs, ok, rfl, rfl⟩
  exact st_retR (ev_tup (ea_cons (ev_p_wants (ev_var rfl)) (ea_cons (ev_p_swings (ev_var rfl)) ea_nil)) (Nat.le_of_ble_eq_true rfl))
/-! longrun -/
theorem swings_len {rs : List Int} (ok : YrOk rs) : (Bu.swingsOf rs).length ≤ rs.length := (Bu.swings_le ok.1).2
def F_bought : List DV → DV → Prop := mkF (fun x : List Int × Int => YrOk x.1) (fun x => [.yr x.1, .int x.2]) fun x => .int (Bu.buy x.1 x.2)
theorem fn_bought (L : Loc K mg C D) : FA K C P w mg base "bought" 7 F_bought := by
  obtain ⟨f, fd, F, hm⟩ := L.l_bought
  refine fnat_of hm F (fnr_of F sc_bought (fun _ _ _ _ _ _ us h => ?_) _ (fun ds d ⟨x, _, e, _⟩ => by rw [e]; rfl) ?_)
  · obtain ⟨a, b, rfl⟩ := two_of h
    rfl
  intro cdv A outer s H E hr
  refine ⟨_, (pss_one (ps_ret (pe_fn (fn_bought_by_heap L) hr (by decide) (by rfl) (pa_cons (pe_pr (pr_heap L) L.ycls hr (by decide) (pv 0)) (pa_cons (pv 1) pa_nil))))), ?_⟩
  rintro ds d ⟨⟨rs, b⟩, ok, rfl, rfl⟩
  exact st_retR (ev_fn (ea_cons (ev_p_heap (ev_var rfl)) (ea_cons (ev_var rfl) ea_nil)) (⟨(hpOf rs, b), Nat.le_trans (swings_len ok) (Nat.le_trans ok.2.2 (by decide)), rfl, rfl⟩))
def F_spilled : List DV → DV → Prop := mkF (fun x : List Int × Int => YrOk x.1) (fun x => [.yr x.1, .int x.2]) fun x => .int (Bu.buyH (Bu.spareOf x.1) (Bu.swingsOf x.1) x.2)
theorem fn_spilled (L : Loc K mg C D) : FA K C P w mg base "spilled" 7 F_spilled := by
  obtain ⟨f, fd, F, hm⟩ := L.l_spilled
  refine fnat_of hm F (fnr_of F sc_spilled (fun _ _ _ _ _ _ us h => ?_) _ (fun ds d ⟨x, _, e, _⟩ => by rw [e]; rfl) ?_)
  · obtain ⟨a, b, rfl⟩ := two_of h
    rfl
  intro cdv A outer s H E hr
  refine ⟨_, (pss_one (ps_ret (pe_fn (fn_bought_by_heap L) hr (by decide) (by rfl) (pa_cons (pe_tup (pa_cons (pe_pr (pr_spare L) L.ycls hr (by decide) (pv 0)) (pa_cons (pe_pr (pr_swings L) L.ycls hr (by decide) (pv 0)) pa_nil))) (pa_cons (pv 1) pa_nil))))), ?_⟩
  rintro ds d ⟨⟨rs, b⟩, ok, rfl, rfl⟩
  exact st_retR (ev_fn (ea_cons (ev_tup (ea_cons (ev_p_spare (ev_var rfl)) (ea_cons (ev_p_swings (ev_var rfl)) ea_nil)) (Nat.le_of_ble_eq_true rfl)) (ea_cons (ev_var rfl) ea_nil)) (⟨((Bu.spareOf rs, Bu.swingsOf rs), b), Nat.le_trans (swings_len ok) (Nat.le_trans ok.2.2 (by decide)), rfl, rfl⟩))
end
end Dt
set_option Elab.async false
set_option linter.all false
set_option maxRecDepth 100000
set_option maxHeartbeats 4000000
/-! lead: two years side by side. -/
namespace Dt
open PySem PySem.Spec PyProof.Rows L2
open Evl (Ex)
/-- two years, not too long | nor too great -/
abbrev YY (x : List Int × List Int) : Prop := YrOk x.1 ∧ YrOk x.2 ∧ x.1.length + x.2.length ≤ 60
abbrev Big (rs : List Int) : Prop := Bu.asum rs ≤ 2 ^ 120
abbrev YZ (x : List Int × List Int) : Prop := YY x ∧ Big x.1 ∧ Big x.2
theorem YY.many {x : List Int × List Int} (h : YY x) : manyOf (hpOf x.1) (hpOf x.2) ≤ 500 := by
  have a := swings_len h.1
  have b := swings_len h.2.1
  have c := h.2.2
  show max (Bu.swingsOf x.1).length (Bu.swingsOf x.2).length ≤ 500
  omega
theorem YY.both {x : List Int × List Int} (h : YY x) : (hpOf x.1).2.length + (hpOf x.2).2.length ≤ 60 := by
  have a := swings_len h.1
  have b := swings_len h.2.1
  have c := h.2.2
  show (Bu.swingsOf x.1).length + (Bu.swingsOf x.2).length ≤ 60
  omega
theorem YY.swap {a b : List Int} (h : YY (a, b)) : YY (b, a) := ⟨h.2.1, h.1, by have := h.2.2; show b.length + a.length ≤ 60; have : a.length + b.length ≤ 60 := h.2.2; omega⟩
section
variable {P : Program} {w : World} {K : Frag} {mg : Str → Option Value} {base : Heap} {C D : Addr}
abbrev mk2 (pre : List Int × List Int → Prop) (res : List Int × List Int → DV) : List DV → DV → Prop := mkF pre (fun x => [.yr x.1, .yr x.2]) res
def F_never_more : List DV → DV → Prop := mk2 YY fun x => .bl (wi (hpOf x.1) (hpOf x.2))
theorem fn_never_more (L : Loc K mg C D) : FA K C P w mg base "never_more" 8 F_never_more := by
  obtain ⟨f, fd, F, hm⟩ := L.l_never_more
  refine fnat_of hm F (fnr_of F sc_never_more (fun _ _ _ _ _ _ us h => ?_) _ (fun ds d ⟨x, _, e, _⟩ => by rw [e]; rfl) ?_)
  · obtain ⟨a, b, rfl⟩ := two_of h
    rfl
  intro cdv A outer s H E hr
  refine ⟨_, (pss_one (ps_ret (pe_fn (fn_heap_within L) hr (by decide) (by rfl) (pa_cons (pe_pr (pr_heap L) L.ycls hr (by decide) (pv 0)) (pa_cons (pe_pr (pr_heap L) L.ycls hr (by decide) (pv 1)) pa_nil))))), ?_⟩
  rintro ds d ⟨x, ok, rfl, rfl⟩
  exact st_retR (ev_fn (ea_cons (ev_p_heap (ev_var rfl)) (ea_cons (ev_p_heap (ev_var rfl)) ea_nil)) (⟨(hpOf x.1, hpOf x.2), ok.many, rfl, rfl⟩))
def F_gap : List DV → DV → Prop := mkF (fun x : List Int × List Int × Int => YrOk x.1 ∧ YrOk x.2.1) (fun x => [.yr x.1, .yr x.2.1, .int x.2.2]) fun x => .int (gapP (hpOf x.1) (hpOf x.2.1) x.2.2)
theorem fn_gap (L : Loc K mg C D) : FA K C P w mg base "gap" 8 F_gap := by
  obtain ⟨f, fd, F, hm⟩ := L.l_gap
  refine fnat_of hm F (fnr_of F sc_gap (fun _ _ _ _ _ _ us h => ?_) _ (fun ds d ⟨x, _, e, _⟩ => by rw [e]; rfl) ?_)
  · obtain ⟨a, b, c, rfl⟩ := three_of h
    rfl
  intro cdv A outer s H E hr
  refine ⟨_, (pss_one (ps_ret (pe_op op_sub (pe_fn (fn_bought L) hr (by decide) (by rfl) (pa_cons (pv 0) (pa_cons (pv 2) pa_nil))) (pe_fn (fn_bought L) hr (by decide) (by rfl) (pa_cons (pv 1) (pa_cons (pv 2) pa_nil)))))), ?_⟩
  rintro ds d ⟨x, ok, rfl, rfl⟩
  exact st_retR (ev_subI (ev_fn (ea_cons (ev_var rfl) (ea_cons (ev_var rfl) ea_nil)) (⟨(x.1, x.2.2), ok.1, rfl, rfl⟩)) (ev_fn (ea_cons (ev_var rfl) (ea_cons (ev_var rfl) ea_nil)) (⟨(x.2.1, x.2.2), ok.2, rfl, rfl⟩)))
def sOptD : Option (Int × Int) → DV
  | none => .non
  | some p => .tup [.int p.1, .int p.2]
abbrev Mid (i : Int) : Prop := -(2 ^ 140) ≤ i ∧ i ≤ 2 ^ 140
def F_span_in : List DV → DV → Prop := mkF (fun x : Int × Int × Int × Int => (Mid x.1 ∧ Mid x.2.1 ∧ Mid x.2.2.1 ∧ Mid x.2.2.2) ∧ x.2.2.1 ≤ x.2.2.2) (fun x => [.int x.1, .int x.2.1, .int x.2.2.1, .int x.2.2.2]) fun x => sOptD (Bu.spanIn x.1 x.2.1 x.2.2.1 x.2.2.2)
theorem div_wide {i j : Int} (h : 0 < j) (k : j ≤ 2 ^ 150) : CDivW i j := wide_div (b := 151) h (by omega) (by decide) (by decide)
theorem div_small {n d : Int} (h : 0 < d) : (0 ≤ n / d → n / d ≤ n) ∧ (n / d < 0 → n ≤ n / d) := by
  have e := Int.emod_add_mul_ediv n d
  have m1 := Int.emod_nonneg n (show d ≠ 0 by omega)
  have m2 := Int.emod_lt_of_pos n h
  generalize n / d = q at *
  constructor
  · intro hq
    have k := Int.mul_le_mul_of_nonneg_right (show (1 : Int) ≤ d by omega) hq
    omega
  · intro hq
    have k := Int.mul_le_mul_of_nonpos_right (show (1 : Int) ≤ d by omega) (show q + 1 ≤ 0 by omega)
    rw [Int.mul_add] at k
    omega
theorem slope_mid {x y p q : Int} (hx : Mid x) (hy : Mid y) (h : p ≤ q) : -(2 ^ 145) ≤ (y - x) / (q + 1 - p) ∧ (y - x) / (q + 1 - p) ≤ 2 ^ 145 := by
  have hd : (0 : Int) < q + 1 - p := by omega
  obtain ⟨a1, a2⟩ := hx
  obtain ⟨b1, b2⟩ := hy
  obtain ⟨c1, c2⟩ := div_small (n := y - x) hd
  generalize (y - x) / (q + 1 - p) = m at *
  by_cases k : 0 ≤ m
  · have := c1 k
    omega
  · have := c2 (by omega)
    omega
theorem fn_span_in (L : Loc K mg C D) : FA K C P w mg base "span_in" 1 F_span_in := by
  obtain ⟨f, fd, F, hm⟩ := L.l_span_in
  refine fnat_of hm F (fnr_of F sc_span_in (fun _ _ _ _ _ _ us h => ?_) _ (fun ds d ⟨x, _, e, _⟩ => by rw [e]; rfl) ?_)
  · obtain ⟨a, b, c, d, rfl⟩ := four_of h
    rfl
  intro cdv A outer s H E hr
  refine ⟨_, (pss_cons (ps_set (i := 4) sc_span_in.nd rfl (Or.inl rfl) (pe_op op_fdivW (pe_op op_sub (pv 1) (pv 0)) (pe_op op_sub (pe_op (k_add (K := K) rfl) (pv 3) pe_int) (pv 2))))
    (pss_cons (ps_if (pt_cmpR op_gt (pv 0) pe_int (nomark _)) (pss_one (ps_ret (pe_tup (pa_cons (pv 2) (pa_cons (pe_ifExp (pt_cmpR op_ge (pv 4) pe_int (nomark _)) (pv 3) (pe_callB (call_min2 rfl) (by rfl) L.b_min bb_min (pa_cons (pv 3) (pa_cons (pe_op (k_add (K := K) rfl) (pv 2) (pe_op op_fdivW (pe_op op_sub (pv 0) pe_int) (pe_un un_neg (pv 4)))) pa_nil)))) pa_nil))))) pss_nil)
    (pss_cons (ps_set (i := 5) sc_span_in.nd rfl (Or.inl rfl) (pe_ifExp (pt_cmpR op_gt (pv 4) pe_int (nomark _)) (pe_op (k_add (K := K) rfl) (pe_op (k_add (K := K) rfl) (pv 2) (pe_op op_fdivW (pe_un un_neg (pv 0)) (pv 4))) pe_int) (pe_op (k_add (K := K) rfl) (pv 3) pe_int)))
    (pss_one (ps_ret (pe_ifExp (pt_cmpR op_le (pv 5) (pv 3) (nomark _)) (pe_tup (pa_cons (pv 5) (pa_cons (pv 3) pa_nil))) pe_non)))))), ?_⟩
  rintro ds d ⟨⟨x, y, p, q⟩, ⟨⟨hx, hy, hp, hq⟩, hpq⟩, rfl, rfl⟩
  replace hx : Mid x := hx
  replace hy : Mid y := hy
  replace hp : Mid p := hp
  replace hq : Mid q := hq
  replace hpq : p ≤ q := hpq
  show StD K C _ _ (fun _ => sOptD (Bu.spanIn x y p q) = .non) (fun r => r = sOptD (Bu.spanIn x y p q))
  obtain ⟨l1, l2⟩ := slope_mid hx hy hpq
  obtain ⟨p1, p2⟩ := hp
  obtain ⟨q1, q2⟩ := hq
  refine st_let (d := .int ((y - x) / (q + 1 - p))) (ev_divI (ev_subI (ev_var rfl) (ev_var rfl)) (ev_subI (ev_addI (ev_var rfl) ev_int) (ev_var rfl)) (div_wide (by omega) (by omega))) ?_
  unfold Bu.spanIn
  generalize (y - x) / (q + 1 - p) = m at *
  refine st_when (b := decide (0 < x)) (et_test (ev_gtI (ev_var rfl) ev_int)) (fun h => ?_) fun h => ?_
  · have h' : 0 < x := of_decide_eq_true h
    rw [if_pos h']
    refine st_retR (EvD.is (ev_tup (ea_cons (ev_var rfl) (ea_cons (ev_if (d := .int (if 0 ≤ m then q else min q (p + (x - 1) / -m))) (et_test (ev_geI (ev_var rfl) ev_int)) (fun h2 => EvD.is (ev_var rfl) ?_) fun h2 => EvD.is (ev_cb2 (ev_var rfl) (ev_addI (ev_var rfl) (ev_divI (ev_subI (ev_var rfl) ev_int) (ev_neg (ev_var rfl)) (div_wide (by have := of_decide_eq_false h2; omega) (by omega)))) rc_min2) ?_) ea_nil)) (Nat.le_of_ble_eq_true rfl)) ?_)
    · rw [if_pos (of_decide_eq_true h2)]
    · rw [if_neg (of_decide_eq_false h2)]
    · rfl
  · have h' : ¬ 0 < x := of_decide_eq_false h
    rw [if_neg h']
    refine st_let (d := .int (if 0 < m then p + -x / m + 1 else q + 1)) (ev_if (et_test (ev_gtI (ev_var rfl) ev_int)) (fun h2 => EvD.is (ev_addI (ev_addI (ev_var rfl) (ev_divI (ev_neg (ev_var rfl)) (ev_var rfl) (div_wide (of_decide_eq_true h2) (by omega)))) ev_int) ?_) fun h2 => EvD.is (ev_addI (ev_var rfl) ev_int) ?_) ?_
    · rw [if_pos (of_decide_eq_true h2)]
    · rw [if_neg (of_decide_eq_false h2)]
    generalize (if 0 < m then p + -x / m + 1 else q + 1) = b
    refine st_retR (ev_if (et_test (ev_leI (ev_var rfl) (ev_var rfl))) (fun h2 => EvD.is (ev_tup (ea_cons (ev_var rfl) (ea_cons (ev_var rfl) ea_nil)) (Nat.le_of_ble_eq_true rfl)) ?_) fun h2 => EvD.is ev_non ?_)
    · rw [if_pos (of_decide_eq_true h2)]
      rfl
    · rw [if_neg (of_decide_eq_false h2)]
      rfl
end
end Dt
set_option Elab.async false
set_option linter.all false
set_option maxRecDepth 100000
set_option maxHeartbeats 4000000
/-! spans_against. -/
namespace Dt
open PySem PySem.Spec PyProof.Rows L2
open Evl (Ex)
open Bu (Span)
def endD : Option Int → DV
  | none => .non
  | some h => .int h
def spnD (s : Span) : DV := .tup [.int s.1, endD s.2]
/-- every span but the last has its end -/
theorem fin_piece {g : Int → Int} {p q : Int} : ∀ s ∈ Bu.piece g p q, s.2 ≠ none := fun s h => by
  unfold Bu.piece at h
  cases e : Bu.spanIn (g p) (g q) p (q - 1) with
  | none => rw [e] at h; cases h
  | some x =>
    rw [e] at h
    cases x
    rw [List.mem_singleton.mp h]
    exact fun z => nomatch z
theorem fin_raw {g : Int → Int} : ∀ bs : List Int, ∀ s ∈ (Bu.rawS g bs).dropLast, s.2 ≠ none
  | [], s, h => by cases h
  | [p], s, h => by
    unfold Bu.rawS at h
    split at h <;> cases h
  | p :: q :: r, s, h => by
    have ih := fin_raw (g := g) (q :: r)
    rw [show Bu.rawS g (p :: q :: r) = Bu.piece g p q ++ Bu.rawS g (q :: r) from rfl] at h
    cases e : Bu.rawS g (q :: r) with
    | nil =>
      rw [e, List.append_nil] at h
      exact fin_piece s (List.dropLast_subset _ h)
    | cons a l =>
      rw [List.dropLast_append_of_ne_nil (by rw [e]; exact fun z => nomatch z)] at h
      rcases List.mem_append.mp h with m | m
      · exact fin_piece s m
      · exact ih s m
theorem fin_merge {f : List Span} {s : Span} (hf : ∀ x ∈ f, x.2 ≠ none) (hs : s.2 ≠ none) : ∀ x ∈ Bu.mergeS f s, x.2 ≠ none := fun x h => by
  unfold Bu.mergeS at h
  split at h
  · split at h
    · rcases List.mem_append.mp h with m | m
      · exact hf x (List.dropLast_subset _ m)
      · rw [List.mem_singleton.mp m]
        exact hs
    · rcases List.mem_append.mp h with m | m
      · exact hf x m
      · rw [List.mem_singleton.mp m]
        exact hs
  · rcases List.mem_append.mp h with m | m
    · exact hf x m
    · rw [List.mem_singleton.mp m]
      exact hs
theorem fin_fold : ∀ (l f : List Span), (∀ x ∈ f, x.2 ≠ none) → (∀ x ∈ l, x.2 ≠ none) → ∀ x ∈ l.foldl Bu.mergeS f, x.2 ≠ none
  | [], _, hf, _ => hf
  | s :: l, f, hf, hl => fin_fold l (Bu.mergeS f s) (fin_merge hf (hl s List.mem_cons_self)) fun x h => hl x (List.mem_cons_of_mem _ h)
theorem merge_grow {f : List Span} {s : Span} : (Bu.mergeS f s).length ≤ f.length + 1 := by
  unfold Bu.mergeS
  split
  · split
    · rw [List.length_append, List.length_dropLast, List.length_singleton]
      omega
    · rw [List.length_append]
      exact Nat.le_refl _
  · rw [List.length_append]
    exact Nat.le_refl _
theorem fold_grow : ∀ (l f : List Span), (l.foldl Bu.mergeS f).length ≤ f.length + l.length
  | [], f => by simp
  | s :: l, f => by
    have a := fold_grow l (Bu.mergeS f s)
    have b := merge_grow (f := f) (s := s)
    rw [List.foldl_cons, List.length_cons]
    omega
/-- the spans that are, of those asked -/
theorem some_spans (f : Nat → Option (Int × Int)) : ∀ l : List Nat, (l.map fun k => sOptD (f k)).filter (fun d => !isNon d) = (l.flatMap fun k => match f k with | some (a, h) => [(a, some h)] | none => []).map spnD
  | [] => rfl
  | k :: l => by
    have ih := some_spans f l
    rw [List.map_cons, List.flatMap_cons, List.map_append, List.filter_cons]
    cases e : f k with
    | none =>
      rw [if_neg (by decide)]
      exact ih
    | some x =>
      rw [if_pos (show (!isNon (sOptD (some x))) = true from rfl), ih]
      rfl
def rawD (g : Int → Int) (bs : List Int) : List DV := ((List.range (bs.length - 1)).map fun k => sOptD (Bu.spanIn (g (bs.getD k 0)) (g (bs.getD (k + 1) 0)) (bs.getD k 0) (bs.getD (k + 1) 0 - 1))) ++ (if 0 < g (Bu.lastI bs) then [spnD (Bu.lastI bs, none)] else [])
theorem rawD_ok {g : Int → Int} {bs : List Int} (h : bs ≠ []) : (rawD g bs).filter (fun d => !isNon d) = (Bu.rawS g bs).map spnD := by
  unfold rawD
  rw [Bu.rawS_ix, List.filter_append, List.map_append, some_spans]
  congr 1
  have hl : 0 < bs.length := List.length_pos_iff.mpr h
  by_cases k : 0 < g (Bu.lastI bs)
  · rw [if_pos k, if_pos ⟨hl, k⟩]
    rfl
  · rw [if_neg k, if_neg (fun z => k z.2)]
    rfl
/-! numbers that stay small enough -/
theorem gap_mid {a b : List Int} (h : YZ (a, b)) {x : Int} (hx : 0 ≤ x) : Mid (gapP (hpOf a) (hpOf b) x) := by
  obtain ⟨⟨oa, ob, hl⟩, ba, bb⟩ := h
  have la : a.length ≤ 100 := oa.2.2
  have lb : b.length ≤ 100 := ob.2.2
  replace ba : Bu.asum a ≤ 2 ^ 120 := ba
  replace bb : Bu.asum b ≤ 2 ^ 120 := bb
  obtain ⟨a1, a2⟩ := Bu.buy_le (rs := a) oa.1 hx la
  obtain ⟨b1, b2⟩ := Bu.buy_le (rs := b) ob.1 hx lb
  show Mid (Bu.buyH (Bu.wantsOf a) (Bu.swingsOf a) x - Bu.buyH (Bu.wantsOf b) (Bu.swingsOf b) x)
  generalize Bu.buyH (Bu.wantsOf a) (Bu.swingsOf a) x = u at *
  generalize Bu.buyH (Bu.wantsOf b) (Bu.swingsOf b) x = v at *
  have e : (((100 : Nat) : Int) + 1) = 101 := rfl
  rw [e] at a2 b2
  constructor <;> omega
theorem bends_mid {a b : List Int} (h : YZ (a, b)) : ∀ x ∈ beH (hpOf a) (hpOf b), 0 ≤ x ∧ x ≤ 2 ^ 120 := fun x hx => by
  obtain ⟨⟨oa, ob, hl⟩, ba, bb⟩ := h
  replace ba : Bu.asum a ≤ 2 ^ 120 := ba
  replace bb : Bu.asum b ≤ 2 ^ 120 := bb
  rcases List.mem_cons.mp (Bu.mem_usort.mp hx) with e | m
  · omega
  · rcases List.mem_append.mp m with m | m
    · exact ⟨(Bu.sw_ok a).pos x m, Int.le_trans ((Bu.swings_le oa.1).1 x m) ba⟩
    · exact ⟨(Bu.sw_ok b).pos x m, Int.le_trans ((Bu.swings_le ob.1).1 x m) bb⟩
theorem sorted_step {l : List Int} (h : l.Pairwise (· < ·)) {k : Nat} (hk : k + 1 < l.length) : l.getD k 0 < l.getD (k + 1) 0 := by
  rw [List.getD_eq_getElem?_getD, List.getD_eq_getElem?_getD, List.getElem?_eq_getElem hk, List.getElem?_eq_getElem (by omega)]
  exact List.pairwise_iff_getElem.mp h k (k + 1) (by omega) hk (Nat.lt_succ_self k)
theorem getD_mem {l : List Int} {k : Nat} (hk : k < l.length) : l.getD k 0 ∈ l := by
  rw [List.getD_eq_getElem?_getD, List.getElem?_eq_getElem hk]
  exact List.getElem_mem hk
theorem getD_map (g : Int → Int) {l : List Int} {k : Nat} (hk : k < l.length) : (l.map g).getD k 0 = g (l.getD k 0) := by
  rw [List.getD_eq_getElem?_getD, List.getD_eq_getElem?_getD, List.getElem?_map, List.getElem?_eq_getElem hk]
  rfl
theorem lastI_map (g : Int → Int) {l : List Int} (h : l ≠ []) : Bu.lastI (l.map g) = g (Bu.lastI l) := by
  have hk : l.length - 1 < l.length := by
    have := List.length_pos_iff.mpr h
    omega
  unfold Bu.lastI
  rw [List.length_map]
  exact getD_map g hk
theorem last_spn {f : List Span} {s : Span} (h : f.getLast? = some s) : atI (f.map spnD) (-1) = some (spnD s) := by
  cases f with
  | nil => cases h
  | cons x r =>
    have ne : x :: r ≠ [] := fun z => nomatch z
    have e : x :: r = (x :: r).dropLast ++ [s] := by
      rw [List.getLast?_eq_some_getLast ne] at h
      rw [← Option.some.inj h]
      exact (List.dropLast_concat_getLast ne).symm
    rw [e, List.map_append]
    exact atI_last _ _
theorem set_last {α : Type} (l : List α) (x : α) (h : l ≠ []) : l.set (l.length - 1) x = l.dropLast ++ [x] := by
  have e := (List.dropLast_concat_getLast h).symm
  conv => lhs; rw [e]
  rw [List.set_append_right _ _ (by simp)]
  simp
theorem ix_last {n : Nat} (h : 0 < n) : ixN n (-1) = some (n - 1) := by
  unfold ixN
  rw [if_neg (by omega), if_pos (by omega)]
  congr 1
  omega
theorem em_pair {K : Frag} {C : Addr} {δ : Den} {ta tb : TE} {P : Res} {x y : DV} (h1 : EvM K C ta δ P (fun d W O H => d = x ∧ P W O H)) (h2 : EvM K C tb δ P (fun d W O H => d = y ∧ P W O H)) (hP : Stab P) : EvM K C (tTup (tCons ta (tCons tb tNil))) δ P (fun d W O H => d = .tup [x, y] ∧ P W O H) := by
  have h := em_tup (eam_cons (R1 := fun d W O H => d = x ∧ P W O H) (R2' := fun a ds W O H => ds = [y] ∧ a = x ∧ P W O H) h1 fun a => eam_post (eam_cons (R1 := fun d W O H => d = y ∧ a = x ∧ P W O H) (R2' := fun b ds W O H => ds = [] ∧ b = y ∧ a = x ∧ P W O H) (fun W O σ H Q ok e p q => h2 W O σ H Q ok e p.2 fun d v H1 r => q d v H1 ⟨r.1, p.1, r.2⟩) fun b => eam_nil (fun _ _ _ _ => True.intro)) fun d W O H r => by
    obtain ⟨z, zs, e, e1, e2, e3, e4⟩ := r
    rw [e, e1, e2]
    exact ⟨rfl, e3, e4⟩) (fun ds W O H r => by
      obtain ⟨z, zs, e, e1, _⟩ := r
      rw [e, e1]
      exact (by decide : 2 ≤ 1000)) (fun ds W O H H' ok e r => by
      obtain ⟨z, zs, e0, e1, e2, p⟩ := r
      exact ⟨z, zs, e0, e1, e2, hP W O H H' ok e p⟩)
  exact em_post h fun d W O H r => by
    obtain ⟨ds, e, z, zs, e1, e2, e3, p⟩ := r
    rw [e, e1, e2, e3]
    exact ⟨rfl, p⟩
abbrev spansP (x : List Int × List Int) : List Span := Bu.spansH (hpOf x.1).1 (hpOf x.1).2 (hpOf x.2).1 (hpOf x.2).2
section
variable {P : Program} {w : World} {K : Frag} {mg : Str → Option Value} {base : Heap} {C D : Addr}
def F_spans_against : List DV → DV → Prop := mk2 YZ fun x => .tup ((spansP x).map spnD)
theorem fn_spans_against (L : Loc K mg C D) : FA K C P w mg base "spans_against" 9 F_spans_against := by
  obtain ⟨f, fd, F, hm⟩ := L.l_spans_against
  refine fnat_of hm F (fnr_of F sc_spans_against (fun _ _ _ _ _ _ us h => ?_) _ (fun ds d ⟨x, _, e, _⟩ => by rw [e]; rfl) ?_)
  · obtain ⟨a, b, rfl⟩ := two_of h
    rfl
  intro cdv A outer s H E hr
  refine ⟨_, (pss_cons (ps_set (i := 2) sc_spans_against.nd rfl (Or.inr rfl) (pe_fn (fn_bends L) hr (by decide) (by rfl) (pa_cons (pe_pr (pr_heap L) L.ycls hr (by decide) (pv 0)) (pa_cons (pe_pr (pr_heap L) L.ycls hr (by decide) (pv 1)) pa_nil))))
    (pss_cons (ps_set (i := 3) sc_spans_against.nd rfl (Or.inr rfl) (pe_lc (own := [("butt", 7)]) (g := (gName 7)) (tt := tYes) rfl sc_spans_against.nd (k_ilist (K := K) rfl (pv 2)) (blkOk_by (N := ["one", "other", "butts", "gaps", "spans", "found", "span", "butt", "k", "own"]) (sc := defScope s_spans_against) (by decide +kernel)) (fun _ _ _ _ _ => (pg_name (i := 7) sc_spans_against.nd rfl (Or.inl rfl))) (fun _ _ _ _ _ => pts_nil) (fun _ _ _ _ _ => (pe_fn (fn_gap L) hr (by decide) (by rfl) (pa_cons (pv 0) (pa_cons (pv 1) (pa_cons (pv 7) pa_nil)))))))
    (pss_cons (ps_setLc (i := 4) (own := [("k", 8)]) (g := (gName 8)) (tt := tYes) rfl sc_spans_against.nd rfl rfl (sw_true rfl rfl rfl (by decide +kernel)) (pi_range1 (by rfl) L.b_range (pa_cons (pe_op op_sub (pe_callB (k_len (K := K) rfl L hr (by decide)) (by rfl) L.b_len bb_len (pa_cons (pv 2) pa_nil)) pe_int) pa_nil)) (blkOk_by (N := ["one", "other", "butts", "gaps", "spans", "found", "span", "butt", "k", "own"]) (sc := defScope s_spans_against) (by decide +kernel)) (fun _ _ _ _ _ => (pg_name (i := 8) sc_spans_against.nd rfl (Or.inl rfl))) (fun _ _ _ _ _ => pts_nil) (fun _ _ _ _ _ => (pe_fn (fn_span_in L) hr (by decide) (by rfl) (pa_cons (pe_ix (k_ix (K := K) rfl) (pv 3) (pv 8) (fun _ _ => rfl)) (pa_cons (pe_ix (k_ix (K := K) rfl) (pv 3) (pe_op (k_add (K := K) rfl) (pv 8) pe_int) (fun _ _ => rfl)) (pa_cons (pe_ix (k_ix (K := K) rfl) (pv 2) (pv 8) (fun _ _ => rfl)) (pa_cons (pe_op op_sub (pe_ix (k_ix (K := K) rfl) (pv 2) (pe_op (k_add (K := K) rfl) (pv 8) pe_int) (fun _ _ => rfl)) pe_int) pa_nil)))))))
    (pss_cons (ps_if (pt_cmpR op_gt (pe_ix (k_ix (K := K) rfl) (pv 3) (pe_un un_neg pe_int) (fun _ _ => rfl)) pe_int (nomark _)) (pss_one (ps_expr (pe_bm PySem.F.plainAttrs_list PySem.F.slot_list_append PySem.F.type_list_append mt_append (pv 4) (pa_cons (pe_tup (pa_cons (pe_ix (k_ix (K := K) rfl) (pv 2) (pe_un un_neg pe_int) (fun _ _ => rfl)) (pa_cons pe_non pa_nil))) pa_nil)))) pss_nil)
    (pss_cons (ps_set (i := 5) sc_spans_against.nd rfl (Or.inl rfl) (pe_lst pa_nil))
    (pss_cons (ps_for PassesOwn.never rfl (k_ilist (K := K) rfl (pe_lc (own := [("own", 9)]) (g := (gName 9)) rfl sc_spans_against.nd (k_ilist (K := K) rfl (pv 4)) (blkOk_by (N := ["one", "other", "butts", "gaps", "spans", "found", "span", "butt", "k", "own"]) (sc := defScope s_spans_against) (by decide +kernel)) (fun _ _ _ _ _ => (pg_name (i := 9) sc_spans_against.nd rfl (Or.inl rfl))) (fun _ _ _ _ _ => (pts_one (pt_cmp (pc_notN (pv 9))))) (fun _ _ _ _ _ => (pv 9)))) (pg_name (i := 6) sc_spans_against.nd rfl (Or.inl rfl)) (pss_one (ps_if (PW.pt (pw_and (pt_cmpR op_gt (pe_callB (k_len (K := K) rfl L hr (by decide)) (by rfl) L.b_len bb_len (pa_cons (pv 5) pa_nil)) pe_int (nomark _)) (pw_and1 (pt_cmpR op_eq (pe_op (k_add (K := K) rfl) (pe_ix (k_ix (K := K) rfl) (pe_ix (k_ix (K := K) rfl) (pv 5) (pe_un un_neg pe_int) (fun _ _ => rfl)) pe_int (fun _ _ => rfl)) pe_int) (pe_ix (k_ix (K := K) rfl) (pv 6) pe_int (fun _ _ => rfl)) (nomark _))))) (pss_one (ps_asg (pe_tup (pa_cons (pe_ix (k_ix (K := K) rfl) (pe_ix (k_ix (K := K) rfl) (pv 5) (pe_un un_neg pe_int) (fun _ _ => rfl)) pe_int (fun _ _ => rfl)) (pa_cons (pe_ix (k_ix (K := K) rfl) (pv 6) pe_int (fun _ _ => rfl)) pa_nil))) (pg_sub (pv 5) (pe_un un_neg pe_int) set_list))) (pss_one (ps_expr (pe_bm PySem.F.plainAttrs_list PySem.F.slot_list_append PySem.F.type_list_append mt_append (pv 5) (pa_cons (pv 6) pa_nil)))))))
    (pss_one (ps_ret (pe_callTy (k_tuple (K := K) rfl) (by rfl) L.b_tuple bb_tuple (pa_cons (pv 5) pa_nil)))))))))), ?_⟩
  rintro ds d ⟨⟨a, b⟩, ok, rfl, rfl⟩
  have ok' : YZ (a, b) := ok
  show StD K C _ _ (fun _ => DV.tup ((spansP (a, b)).map spnD) = .non) (fun r => r = .tup ((spansP (a, b)).map spnD))
  have gm := fun {x : Int} => gap_mid ok' (x := x)
  have bm := bends_mid ok'
  have bne := bends_ne (hpOf a) (hpOf b)
  have bl := bends_len (hpOf a) (hpOf b)
  have both := ok'.1.both
  replace both : (hpOf a).2.length + (hpOf b).2.length ≤ 60 := both
  refine st_let (d := .lst (dis (beH (hpOf a) (hpOf b)))) (ev_fn (ea_cons (ev_p_heap (ev_var rfl)) (ea_cons (ev_p_heap (ev_var rfl)) ea_nil)) (⟨(hpOf a, hpOf b), both, rfl, rfl⟩)) ?_
  have up : (beH (hpOf a) (hpOf b)).Pairwise (· < ·) := Bu.usort_up _
  have eS : spansP (a, b) = (Bu.rawS (gapP (hpOf a) (hpOf b)) (beH (hpOf a) (hpOf b))).foldl Bu.mergeS [] := rfl
  rw [eS]
  have gi : ∀ x : Int, EvD K C _ _ _ := fun x => ((ev_fn (ea_cons (ev_var rfl) (ea_cons (ev_var rfl) (ea_cons (ev_var rfl) ea_nil))) (⟨(a, b, x), ⟨ok'.1.1, ok'.1.2.1⟩, rfl, rfl⟩)) : EvD K C (tFn (spD K C F_gap) (tCons (tVar 0) (tCons (tVar 1) (tCons (tVar 7) tNil)))) [some (.yr a), some (.yr b), some (.lst (dis (beH (hpOf a) (hpOf b)))), none, none, none, none, some (.int x), none, none] (.int (gapP (hpOf a) (hpOf b) x)))
  refine st_let (d := .lst (dis ((beH (hpOf a) (hpOf b)).map (gapP (hpOf a) (hpOf b))))) (EvD.is (ev_lcY (b := DV.int) (as := beH (hpOf a) (hpOf b)) (gapP (hpOf a) (hpOf b)) (it_list (ev_var rfl)) (by omega) (by decide) fun x _ => ⟨_, tg_name, gi x⟩) rfl) ?_
  clear gi
  generalize gapP (hpOf a) (hpOf b) = g at *
  generalize beH (hpOf a) (hpOf b) = bs at *
  have bpos : 0 < bs.length := List.length_pos_iff.mpr bne
  -- the spans asked
  refine st_own (ds := (List.range (bs.length - 1)).map fun k => sOptD (Bu.spanIn (g (bs.getD k 0)) (g (bs.getD (k + 1) 0)) (bs.getD k 0) (bs.getD (k + 1) 0 - 1))) (fun δ' ds' => (∃ p, δ' = [some (.yr a), some (.yr b), some (.lst (dis bs)), some (.lst (dis (bs.map g))), some (.adr p), none, none, none, none, none]) ∧ ds' = rawD g bs) ?_ (fun p => ?_) ?_
  · have h := ev_lcN (K := K) (C := C) (g := gName 8) (is := [8]) (vs := [8]) (te := tFn (spD K C F_span_in) (tCons (tOp (rIx K) (tVar 3) (tVar 8)) (tCons (tOp (rIx K) (tVar 3) (tOp (rAddU K) (tVar 8) (tC (.int 1)))) (tCons (tOp (rIx K) (tVar 2) (tVar 8)) (tCons (tOp (rI0 fun i j => .int (i - j)) (tOp (rIx K) (tVar 2) (tOp (rAddU K) (tVar 8) (tC (.int 1)))) (tC (.int 1))) tNil))))) (δ := [some (.yr a), some (.yr b), some (.lst (dis bs)), some (.lst (dis (bs.map g))), none, none, none, none, none, none]) (as := List.range (bs.length - 1)) (a := fun k : Nat => DV.int (k : Int)) (b := sOptD) (fun k => Bu.spanIn (g (bs.getD k 0)) (g (bs.getD (k + 1) 0)) (bs.getD k 0) (bs.getD (k + 1) 0 - 1)) (fun _ => true) (it_range (n := bs.length - 1) (ta := tOp (rI0 fun i j => .int (i - j)) (tCB (rLenU K C) (tCons (tVar 2) tNil)) (tC (.int 1))) (EvD.is (ev_subI (ev_lenS L (ev_var rfl) (.inl rfl)) ev_int) (by rw [List.length_map]; congr 1; omega)) (by omega)) (by rw [List.length_range]; omega) (by decide)
      fun k hk => ⟨_, tg_name, et_yes, fun _ => by
        have hk' : k < bs.length - 1 := List.mem_range.mp hk
        have k1 : k + 1 < bs.length := by omega
        have k0 : k < bs.length := by omega
        have st := sorted_step up k1
        obtain ⟨m1, m2⟩ := bm _ (getD_mem k0)
        obtain ⟨n1, n2⟩ := bm _ (getD_mem k1)
        have e1 := at_int (l := bs.map g) (k := k) (by rw [List.length_map]; exact k0)
        have e2 := at_int (l := bs.map g) (k := k + 1) (by rw [List.length_map]; exact k1)
        rw [getD_map g k0] at e1
        rw [getD_map g k1] at e2
        exact (ev_fn (ea_cons (ev_ix (ev_var rfl) (.inl rfl) (ev_var rfl) (e1)) (ea_cons (ev_ix (ev_var rfl) (.inl rfl) (ev_addI (ev_var rfl) ev_int) (e2)) (ea_cons (ev_ix (ev_var rfl) (.inl rfl) (ev_var rfl) (at_int k0)) (ea_cons (ev_subI (ev_ix (ev_var rfl) (.inl rfl) (ev_addI (ev_var rfl) ev_int) (at_int k1)) ev_int) ea_nil)))) (⟨(g (bs.getD k 0), g (bs.getD (k + 1) 0), bs.getD k 0, bs.getD (k + 1) 0 - 1), ⟨⟨gm m1, gm n1, ⟨by show -(2 ^ 140) ≤ bs.getD k 0; omega, by show bs.getD k 0 ≤ 2 ^ 140; omega⟩, ⟨by show -(2 ^ 140) ≤ bs.getD (k + 1) 0 - 1; omega, by show bs.getD (k + 1) 0 - 1 ≤ 2 ^ 140; omega⟩⟩, by show bs.getD k 0 ≤ bs.getD (k + 1) 0 - 1; omega⟩, rfl, rfl⟩))⟩
    rw [List.filter_eq_self.mpr fun _ _ => rfl, List.map_map] at h
    exact h
  · refine sm_if (etm_pure (et_test (ev_gtI (ev_ix (ev_var rfl) (.inl rfl) (ev_neg ev_int) (at_end (by simpa using bne))) ev_int)) own_stab) ?_ ?_
    · refine sm_told (A := 0 < g (Bu.lastI bs)) (fun W O H h => by have z := of_decide_eq_true h.1.symm; rw [lastI_map g bne] at z; exact z) fun hg => ?_
      refine sm_pre (P := own K C p _) ?_ fun W O H h => h.2
      refine sm_post (sm_append (F := fun x _ _ _ => x = spnD (Bu.lastI bs, none)) rfl (fun _ _ _ h => h) (em_post (em_pure (ev_tup (ea_cons (ev_ix (ev_var rfl) (.inl rfl) (ev_neg ev_int) (at_end bne)) (ea_cons ev_non ea_nil)) (Nat.le_of_ble_eq_true rfl)) own_stab) fun d W O H h => ⟨h.2, h.1⟩) (by rw [List.length_map, List.length_range]; omega) fun _ _ _ _ _ h => h) (fun δ' W O H h => ?_) fun d W O H h => h
      obtain ⟨rfl, x, ho, rfl⟩ := h
      refine ⟨rawD g bs, ⟨⟨⟨p, rfl⟩, rfl⟩, rfl⟩, ?_⟩
      unfold rawD
      rw [if_pos hg]
      exact ho
    · refine sm_told (A := ¬ 0 < g (Bu.lastI bs)) (fun W O H h => by have z := of_decide_eq_false h.1.symm; rw [lastI_map g bne] at z; exact z) fun hg => ?_
      refine sm_next fun W O H h => ⟨rawD g bs, ⟨⟨⟨p, rfl⟩, rfl⟩, rfl⟩, ?_⟩
      unfold rawD
      rw [if_neg hg, List.append_nil]
      exact h.2
  · rintro δ' ds' ⟨⟨p0, rfl⟩, rfl⟩
    have rl : (rawD g bs).length ≤ 100 := by
      unfold rawD
      rw [List.length_append, List.length_map, List.length_range]
      split <;> simp <;> omega
    have rl2 : (Bu.rawS g bs).length ≤ 100 := by
      have e := congrArg List.length (rawD_ok (g := g) bne)
      rw [List.length_map] at e
      rw [← e]
      exact Nat.le_trans (List.length_filter_le _ _) rl
    refine st_own (ds := []) (fun δ' ds' => (∃ p o, δ' = [some (.yr a), some (.yr b), some (.lst (dis bs)), some (.lst (dis (bs.map g))), some (.lst (rawD g bs)), some (.adr p), o, none, none, none]) ∧ ds' = ((Bu.rawS g bs).foldl Bu.mergeS []).map spnD) (ev_lstN ea_nil (by decide)) (fun p => ?_) ?_
    · refine sm_for (fun i δ W O H => (∃ o, δ = [some (.yr a), some (.yr b), some (.lst (dis bs)), some (.lst (dis (bs.map g))), some (.lst (rawD g bs)), some (.adr p), o, none, none, none]) ∧ own K C p ((((Bu.rawS g bs).take i).foldl Bu.mergeS []).map spnD) W O H)
        (xs := (Bu.rawS g bs).map spnD) (itm_list (EvD.is (ev_lcM (as := rawD g bs) (a := fun d => d) (b := fun d => d) (fun d => d) (fun d => !isNon d) (ItD.is (it_list (ev_var rfl)) (List.map_id' _).symm) (by omega) (by decide) fun x _ => ⟨_, tg_name, (et_B (ev_notN (ev_var rfl))), fun _ => ev_var rfl⟩) (by rw [List.map_id', List.map_id', rawD_ok bne]))) ?_ (fun W O H h => ⟨⟨none, rfl⟩, h⟩) own_stab ?_ ?_
      · rintro i δ1 W O H H' ok1 e1 ⟨h1, h2⟩
        exact ⟨h1, own_stab W O H H' ok1 e1 h2⟩
      · rintro i d δ1 hi ⟨_, _, _, ⟨o, rfl⟩, _⟩
        rw [List.getElem?_map] at hi
        obtain ⟨s, hs, rfl⟩ := Option.map_eq_some_iff.mp hi
        have hil : i < (Bu.rawS g bs).length := (List.getElem?_eq_some_iff.mp hs).1
        have hn : (Bu.rawS g bs).take (i + 1) = (Bu.rawS g bs).take i ++ [s] := by rw [List.take_add_one, hs]; rfl
        have fin : ∀ x ∈ ((Bu.rawS g bs).take i).foldl Bu.mergeS [], x.2 ≠ none := fin_fold _ [] (fun x h => by cases h) fun x h => fin_raw (g := g) bs x (by
          rw [List.dropLast_eq_take]
          have e : (Bu.rawS g bs).take i = ((Bu.rawS g bs).take ((Bu.rawS g bs).length - 1)).take i := by
            rw [List.take_take]
            congr 1
            omega
          rw [e] at h
          exact List.mem_of_mem_take h)
        have fl := fold_grow ((Bu.rawS g bs).take i) []
        rw [List.length_take] at fl
        simp at fl
        refine ⟨_, _, tg_name, ?_⟩
        rw [hn]
        simp only [List.foldl_append, List.foldl_cons, List.foldl_nil]
        generalize ((Bu.rawS g bs).take i).foldl Bu.mergeS [] = f at *
        refine sm_pre (P := own K C p (f.map spnD)) ?_ fun W O H h => h.2
        have app : StM K C (tDrop (tBM K "list" rAppend (tVar 5) (tCons (tVar 6) tNil))) [some (.yr a), some (.yr b), some (.lst (dis bs)), some (.lst (dis (bs.map g))), some (.lst (rawD g bs)), some (.adr p), some (spnD s), none, none, none] (own K C p (f.map spnD)) (fun δ' W O H => δ' = [some (.yr a), some (.yr b), some (.lst (dis bs)), some (.lst (dis (bs.map g))), some (.lst (rawD g bs)), some (.adr p), some (spnD s), none, none, none] ∧ own K C p ((f ++ [s]).map spnD) W O H) (fun _ _ _ _ => False) := by
          refine sm_post (sm_append (F := fun x _ _ _ => x = spnD s) rfl (fun _ _ _ h => h) (em_post (em_pure (ev_var rfl) own_stab) fun d W O H h => ⟨h.2, h.1⟩) (by rw [List.length_map]; omega) fun _ _ _ _ _ h => h) (fun δ' W O H h => ?_) fun d W O H h => h
          obtain ⟨h1, x, ho, rfl⟩ := h
          refine ⟨h1, ?_⟩
          rw [List.map_append]
          exact ho
        cases hg : f.getLast? with
        | none =>
          have f0 : f = [] := List.getLast?_eq_none_iff.mp hg
          refine sm_if (etm_peek (i := 5) (b := false) rfl (EvT.is (et_and (b := false) (et_test (ev_gtI (ev_lenS L (ds := f.map spnD) (ev_var rfl) (.inl rfl)) ev_int)) fun h => by rw [f0] at h; simp at h) (Bool.and_false _)) own_stab fun _ _ _ h => h) (sm_told (A := False) (fun W O H h => by cases h.1) fun h => h.elim) (sm_pre ?_ fun W O H h => h.2)
          refine sm_post app (fun δ' W O H h => ⟨⟨_, h.1⟩, ?_⟩) fun _ _ _ _ h => h.elim
          have e : Bu.mergeS f s = f ++ [s] := by
            unfold Bu.mergeS
            rw [hg]
          rw [e]
          exact h.2
        | some s0 =>
          obtain ⟨a0, o0⟩ := s0
          have fne : f ≠ [] := fun z => by rw [z] at hg; cases hg
          have mem : (a0, o0) ∈ f := by
            rw [List.getLast?_eq_some_getLast fne] at hg
            rw [← Option.some.inj hg]
            exact List.getLast_mem fne
          cases o0 with
          | none => exact absurd rfl (fin _ mem)
          | some h0 =>
            have hat := last_spn hg
            refine sm_if (etm_peek (i := 5) (b := decide (h0 + 1 = s.1)) rfl (EvT.is (et_and (et_test (ev_gtI (ev_lenS L (ev_var rfl) (.inl rfl)) ev_int)) fun h_ => (et_test (ev_eqI (ev_addI (ev_ix (ev_ix (ev_var rfl) (.inl rfl) (ev_neg ev_int) (hat)) (.inr rfl) ev_int ((atI_nat (j := 1) rfl : atI [DV.int a0, endD (some h0)] 1 = some (.int h0)))) ev_int) (ev_ix (ev_var rfl) (.inr rfl) ev_int ((atI_nat (j := 0) rfl : atI [DV.int s.1, endD s.2] 0 = some (.int s.1))))))) (by
              have : 0 < f.length := List.length_pos_iff.mpr fne
              rw [List.length_map, show decide ((0 : Int) < ((f.length : Nat) : Int)) = true from decide_eq_true (by omega), Bool.true_and])) own_stab fun _ _ _ h => h) ?_ ?_
            · refine sm_told (A := h0 + 1 = s.1) (fun W O H h => of_decide_eq_true h.1.symm) fun he => sm_pre ?_ fun W O H h => h.2
              refine sm_post (sm_set (F := fun x _ _ _ => x = spnD (a0, s.2)) (k := -1) (j := f.length - 1) rfl (em_post (em_pair (em_peek (i := 5) (d := .int a0) rfl (ev_ix (ev_ix (ev_var rfl) (.inl rfl) (ev_neg ev_int) (hat)) (.inr rfl) ev_int (atI_nat (j := 0) rfl)) rfl own_stab fun _ _ _ h => h) (em_pure (d := endD s.2) (ev_ix (ev_var rfl) (.inr rfl) ev_int (atI_nat (j := 1) rfl)) own_stab) own_stab) fun d W O H h => ⟨h.2, h.1⟩) (EvD.is (ev_neg ev_int) rfl) (fun _ _ _ _ _ _ _ h => h) (by rw [List.length_map]; exact ix_last (List.length_pos_iff.mpr fne)) fun _ _ _ _ _ h => h) (fun δ' W O H h => ?_) fun _ _ _ _ h => h
              obtain ⟨h1, x, ho, rfl⟩ := h
              refine ⟨⟨_, h1⟩, ?_⟩
              have e : Bu.mergeS f s = f.dropLast ++ [(a0, s.2)] := by
                unfold Bu.mergeS
                rw [hg]
                simp only [if_pos he]
              rw [e]
              have e2 := set_last (f.map spnD) (spnD (a0, s.2)) (by simpa using fne)
              rw [List.length_map] at e2
              rw [e2, ← List.map_dropLast] at ho
              rw [List.map_append]
              exact ho
            · refine sm_told (A := ¬ h0 + 1 = s.1) (fun W O H h => of_decide_eq_false h.1.symm) fun he => sm_pre ?_ fun W O H h => h.2
              refine sm_post app (fun δ' W O H h => ⟨⟨_, h.1⟩, ?_⟩) fun _ _ _ _ h => h.elim
              have e : Bu.mergeS f s = f ++ [s] := by
                unfold Bu.mergeS
                rw [hg]
                simp only [if_neg he]
              rw [e]
              exact h.2
      · rintro δ1 W O H ⟨⟨o, rfl⟩, h⟩
        rw [List.length_map, List.take_length] at h
        exact ⟨_, ⟨⟨⟨p, o, rfl⟩, rfl⟩, rfl⟩, h⟩
    · rintro δ' ds' ⟨⟨p1, o, rfl⟩, rfl⟩
      exact st_retR (ev_cb1 (ev_var rfl) (rc_tuple (.inl rfl)))
end
end Dt
set_option Elab.async false
set_option linter.all false
set_option maxRecDepth 100000
set_option maxHeartbeats 4000000
/-! lead, the rest. -/
namespace Dt
open PySem PySem.Spec PyProof.Rows L2
open Evl (Ex)
open Bu (Span)
theorem units_of {k : Nat} {A : Around} (hr : Room k A) : A.units + 64 < cLine := by
  have := hr.un
  omega
/-! what == may be asked of -/
def okD : Nat → DV → Bool
  | _, .non => true
  | _, .bl _ => true
  | _, .int _ => true
  | n + 1, .tup ds => ds.all (okD n)
  | n + 1, .lst ds => ds.all (okD n)
  | _, _ => false
theorem ok_all {n : Nat} (ih : ∀ d, okD n d = true → (pd d).canLay0 = true ∧ (pd d).depth ≤ n ∧ noYr d = true) : ∀ ds : List DV, ds.all (okD n) = true → PyData.canLayAll0 (pds ds) = true ∧ PyData.depthAll (pds ds) ≤ n ∧ noYrs ds = true
  | [], _ => by
    unfold pds noYrs
    exact ⟨by simp [PyData.canLayAll0], by simp [PyData.depthAll], rfl⟩
  | d :: ds, h => by
    rw [List.all_cons, Bool.and_eq_true] at h
    obtain ⟨a1, a2, a3⟩ := ih d h.1
    obtain ⟨b1, b2, b3⟩ := ok_all ih ds h.2
    unfold pds noYrs
    refine ⟨by simp [PyData.canLayAll0, a1, b1], ?_, by rw [a3, b3]; rfl⟩
    simp only [PyData.depthAll]
    omega
theorem ok_data : ∀ (n : Nat) (d : DV), okD n d = true → (pd d).canLay0 = true ∧ (pd d).depth ≤ n ∧ noYr d = true := fun n => by
  induction n with
  | zero =>
    intro d h
    cases d with
    | non => exact ⟨by simp [pd, PyData.canLay0], by simp [pd, PyData.depth], by simp [noYr]⟩
    | bl b => exact ⟨by simp [pd, PyData.canLay0], by simp [pd, PyData.depth], by simp [noYr]⟩
    | int b => exact ⟨by simp [pd, PyData.canLay0], by simp [pd, PyData.depth], by simp [noYr]⟩
    | tup => exact absurd h (by simp [okD])
    | lst => exact absurd h (by simp [okD])
    | str => exact absurd h (by simp [okD])
    | yr => exact absurd h (by simp [okD])
    | hf => exact absurd h (by simp [okD])
    | adr => exact absurd h (by simp [okD])
    | wd => exact absurd h (by simp [okD])
    | wt => exact absurd h (by simp [okD])
    | lf => exact absurd h (by simp [okD])
  | succ n ih =>
    intro d h
    cases d with
    | non => exact ⟨by simp [pd, PyData.canLay0], by simp [pd, PyData.depth], by simp [noYr]⟩
    | bl b => exact ⟨by simp [pd, PyData.canLay0], by simp [pd, PyData.depth], by simp [noYr]⟩
    | int b => exact ⟨by simp [pd, PyData.canLay0], by simp [pd, PyData.depth], by simp [noYr]⟩
    | tup ds =>
      obtain ⟨h1, h2, h3⟩ := ok_all ih ds h
      exact ⟨by simpa [pd, PyData.canLay0] using h1, by simpa [pd, PyData.depth] using h2, by simpa [noYr] using h3⟩
    | lst ds =>
      obtain ⟨h1, h2, h3⟩ := ok_all ih ds h
      exact ⟨by simpa [pd, PyData.canLay0] using h1, by simpa [pd, PyData.depth] using h2, by simpa [noYr] using h3⟩
    | str => exact absurd h (by simp [okD])
    | yr => exact absurd h (by simp [okD])
    | hf => exact absurd h (by simp [okD])
    | adr => exact absurd h (by simp [okD])
    | wd => exact absurd h (by simp [okD])
    | wt => exact absurd h (by simp [okD])
    | lf => exact absurd h (by simp [okD])
theorem ok_shape {n : Nat} {d : DV} (h : okD n d = true) (hn : n ≤ 64) : SeqAt.shaped (pd d) = true := by
  obtain ⟨h1, h2, _⟩ := ok_data n d h
  show ((pd d).canLay0 && decide ((pd d).depth ≤ 64)) = true
  rw [Bool.and_eq_true]
  exact ⟨h1, decide_eq_true (by omega)⟩
theorem ok_dis (n : Nat) (l : List Int) : (dis l).all (okD n) = true := by
  rw [List.all_map]
  refine List.all_eq_true.mpr fun x _ => ?_
  cases n <;> rfl
section
variable {K : Frag} {C : Addr} {δ : Den} {d1 d2 : DV} {ta tb : TE}
theorem ev_eqO {n m : Nat} (ha : EvD K C ta δ d1) (hb : EvD K C tb δ d2) (h1 : okD n d1 = true) (h2 : okD m d2 = true) (hn : n ≤ 64) (hm : m ≤ 64) : EvD K C (tOp (rEqD K) ta tb) δ (.bl (PyData.eqv (pd d1) (pd d2))) := ev_eqD ha hb (ok_data n d1 h1).2.2 (ok_data m d2 h2).2.2 (ok_shape h1 hn) (ok_shape h2 hm)
theorem ev_neO {n m : Nat} (ha : EvD K C ta δ d1) (hb : EvD K C tb δ d2) (h1 : okD n d1 = true) (h2 : okD m d2 = true) (hn : n ≤ 64) (hm : m ≤ 64) : EvD K C (tOp (rNeD K) ta tb) δ (.bl (!PyData.eqv (pd d1) (pd d2))) := ev_neD ha hb (ok_data n d1 h1).2.2 (ok_data m d2 h2).2.2 (ok_shape h1 hn) (ok_shape h2 hm)
end
theorem eqv_all_refl {l : List PyData} (ih : ∀ d ∈ l, PyData.eqv d d = true) : PyData.eqvAll l l = true := by
  induction l with
  | nil => simp [PyData.eqvAll]
  | cons x r k => simp [PyData.eqvAll, ih x List.mem_cons_self, k fun d h => ih d (List.mem_cons_of_mem _ h)]
theorem eqv_dis : ∀ l : List Int, PyData.eqvAll (pds (dis l)) (pds (dis l)) = true
  | [] => by simp [dis, pds, PyData.eqvAll]
  | x :: l => by
    have ih := eqv_dis l
    show PyData.eqvAll (pds (.int x :: dis l)) (pds (.int x :: dis l)) = true
    simp [pds, pd, PyData.eqvAll, PyData.eqv, ih]
theorem ok_hp (a : Int × List Int) : okD 2 (.tup [.int a.1, .tup (dis a.2)]) = true := by
  show ((true) && ((dis a.2).all (okD 0) && true)) = true
  rw [ok_dis]
  rfl
section
variable {P : Program} {w : World} {K : Frag} {mg : Str → Option Value} {base : Heap} {C D : Addr}
def agD : List Span → DV
  | [] => .non
  | s :: _ => .int s.1
def F_against : List DV → DV → Prop := mk2 YZ fun x => agD (spansP x)
theorem fn_against (L : Loc K mg C D) : FA K C P w mg base "against" 10 F_against := by
  obtain ⟨f, fd, F, hm⟩ := L.l_against
  refine fnat_of hm F (fnr_of F sc_against (fun _ _ _ _ _ _ us h => ?_) _ (fun ds d ⟨x, _, e, _⟩ => by rw [e]; rfl) ?_)
  · obtain ⟨a, b, rfl⟩ := two_of h
    rfl
  intro cdv A outer s H E hr
  refine ⟨_, (pss_cons (ps_set (i := 2) sc_against.nd rfl (Or.inl rfl) (pe_fn (fn_spans_against L) hr (by decide) (by rfl) (pa_cons (pv 0) (pa_cons (pv 1) pa_nil))))
    (pss_one (ps_ret (pe_ifExp (pt_cmpR op_gt (pe_callB (k_len (K := K) rfl L hr (by decide)) (by rfl) L.b_len bb_len (pa_cons (pv 2) pa_nil)) pe_int (nomark _)) (pe_ix (k_ix (K := K) rfl) (pe_ix (k_ix (K := K) rfl) (pv 2) pe_int (fun _ _ => rfl)) pe_int (fun _ _ => rfl)) pe_non)))), ?_⟩
  rintro ds d ⟨x, ok, rfl, rfl⟩
  show StD K C _ _ (fun _ => agD (spansP x) = .non) (fun r => r = agD (spansP x))
  refine st_let (ev_fn (ea_cons (ev_var rfl) (ea_cons (ev_var rfl) ea_nil)) (⟨x, ok, rfl, rfl⟩)) ?_
  show StD K C _ (List.set _ _ (some (.tup ((spansP x).map spnD)))) _ _
  generalize spansP x = l
  cases l with
  | nil => exact st_retR (ev_if (et_test (ev_gtI (ev_lenS L (ev_var rfl) (.inr rfl)) ev_int)) (fun h => by simp at h) fun _ => ev_non)
  | cons s r => exact st_retR (ev_if (et_test (ev_gtI (ev_lenS L (ev_var rfl) (.inr rfl)) ev_int)) (fun _ => (ev_ix (ev_ix (ev_var rfl) (.inr rfl) ev_int ((atI_nat (j := 0) rfl : atI ((s :: r).map spnD) 0 = some (spnD s)))) (.inr rfl) ev_int ((atI_nat (j := 0) rfl : atI [DV.int s.1, endD s.2] 0 = some (.int s.1))))) fun h => by simp at h)
def F_is_butt : List DV → DV → Prop := mkF (fun _ : Int => True) (fun x => [.int x]) fun x => .bl (decide (0 ≤ x))
theorem fn_is_butt (L : Loc K mg C D) : FA K C P w mg base "is_butt" 1 F_is_butt := by
  obtain ⟨f, fd, F, hm⟩ := L.l_is_butt
  refine fnat_of hm F (fnr_of F sc_is_butt (fun _ _ _ _ _ _ us h => ?_) _ (fun ds d ⟨x, _, e, _⟩ => by rw [e]; rfl) ?_)
  · obtain ⟨a, rfl⟩ := one_of h
    rfl
  intro cdv A outer s H E hr
  refine ⟨_, (pss_one (ps_ret (pe_and (pe_callB (k_isi (K := K) rfl) (by rfl) L.b_isinstance bb_isinstance (pa_cons (pv 0) (pa_cons (pe_bltn (v := .ty "int") (by rfl) L.b_int bb_int rfl) pa_nil))) (pe_and (pe_not (pe_callB (k_isi (K := K) rfl) (by rfl) L.b_isinstance bb_isinstance (pa_cons (pv 0) (pa_cons (pe_bltn (v := .ty "bool") (by rfl) L.b_bool bb_bool rfl) pa_nil)))) (pe_one (pe_cmpR op_ge (pv 0) pe_int (nomark _))))))), ?_⟩
  rintro ds d ⟨x, ok, rfl, rfl⟩
  refine st_retR (EvD.is (ev_andV (ev_isi (ev_var rfl) rfl rfl) fun h_ => (ev_andV (ev_notV (ev_isi (ev_var rfl) rfl rfl)) fun h_ => (ev_geI (ev_var rfl) ev_int))) ?_)
  rfl
def F_is_against : List DV → DV → Prop := mkF (fun x : (List Int × List Int) × Int => YY x.1) (fun x => [.yr x.1.1, .yr x.1.2, .int x.2]) fun x => .bl (decide (0 ≤ x.2) && decide (0 < gapP (hpOf x.1.1) (hpOf x.1.2) x.2))
theorem fn_is_against (L : Loc K mg C D) : FA K C P w mg base "is_against" 9 F_is_against := by
  obtain ⟨f, fd, F, hm⟩ := L.l_is_against
  refine fnat_of hm F (fnr_of F sc_is_against (fun _ _ _ _ _ _ us h => ?_) _ (fun ds d ⟨x, _, e, _⟩ => by rw [e]; rfl) ?_)
  · obtain ⟨a, b, c, rfl⟩ := three_of h
    rfl
  intro cdv A outer s H E hr
  refine ⟨_, (pss_one (ps_ret (pe_and (pe_fn (fn_is_butt L) hr (by decide) (by rfl) (pa_cons (pv 2) pa_nil)) (pe_one (pe_cmpR op_gt (pe_fn (fn_gap L) hr (by decide) (by rfl) (pa_cons (pv 0) (pa_cons (pv 1) (pa_cons (pv 2) pa_nil)))) pe_int (nomark _)))))), ?_⟩
  rintro ds d ⟨⟨⟨a, b⟩, x⟩, ok, rfl, rfl⟩
  exact st_retR (ev_andV (ev_fn (ea_cons (ev_var rfl) ea_nil) (⟨x, True.intro, rfl, rfl⟩)) fun h_ => (ev_gtI (ev_fn (ea_cons (ev_var rfl) (ea_cons (ev_var rfl) (ea_cons (ev_var rfl) ea_nil))) (⟨(a, b, x), ⟨ok.1, ok.2.1⟩, rfl, rfl⟩)) ev_int))
/-- x lies in the span -/
def inSp (x : Int) (s : Span) : Bool := decide (s.1 ≤ x) && (match s.2 with | none => true | some h => decide (x ≤ h))
def F_never_more_between : List DV → DV → Prop := mkF (fun x : (List Int × List Int) × Int => YZ x.1) (fun x => [.yr x.1.1, .yr x.1.2, .int x.2, .int x.2]) fun x => .bl (!((spansP x.1).any (inSp x.2)))
theorem fn_never_more_between (L : Loc K mg C D) : FA K C P w mg base "never_more_between" 10 F_never_more_between := by
  obtain ⟨f, fd, F, hm⟩ := L.l_never_more_between
  refine fnat_of hm F (fnr_of F sc_never_more_between (fun _ _ _ _ _ _ us h => ?_) _ (fun ds d ⟨x, _, e, _⟩ => by rw [e]; rfl) ?_)
  · obtain ⟨a, b, c, d, rfl⟩ := four_of h
    rfl
  intro cdv A outer s H E hr
  refine ⟨_, (pss_cons (ps_for PassesOwn.never rfl (k_itup (K := K) rfl (pe_fn (fn_spans_against L) hr (by decide) (by rfl) (pa_cons (pv 0) (pa_cons (pv 1) pa_nil)))) (pg_tup rfl (pgs_cons (pg_name (i := 4) sc_never_more_between.nd rfl (Or.inl rfl)) (pgs_cons (pg_name (i := 5) sc_never_more_between.nd rfl (Or.inl rfl)) pgs_nil))) (pss_one (ps_if (PW.pt (pw_and (pt_cmpR op_le (pv 4) (pv 3) (nomark _)) (pw_and1 (PW.pt (pw_or (pt_cmp (pc_isN (pv 5))) (pw_or1 (pt_cmpR op_le (pv 2) (pv 5) (nomark _)))))))) (pss_one (ps_ret (pe_cmpR op_gt (pv 2) (pv 3) (nomark _)))) pss_nil)))
    (pss_one (ps_ret pe_bl))), ?_⟩
  rintro ds d ⟨⟨⟨a, b⟩, x⟩, ok, rfl, rfl⟩
  show StD K C _ _ (fun _ => DV.bl (!((spansP (a, b)).any (inSp x))) = .non) (fun r => r = .bl (!((spansP (a, b)).any (inSp x))))
  refine st_seq (M := fun δ => (spansP (a, b)).any (inSp x) = false) (st_for (xs := (spansP (a, b)).map spnD) (fun i δ => ((spansP (a, b)).take i).any (inSp x) = false ∧ ∃ o1 o2, δ = [some (.yr a), some (.yr b), some (.int x), some (.int x), o1, o2]) (it_tup (ev_fn (ea_cons (ev_var rfl) (ea_cons (ev_var rfl) ea_nil)) (⟨(a, b), ok, rfl, rfl⟩))) ⟨by rw [List.take_zero]; rfl, none, none, rfl⟩ ?_ fun δ h => by rw [List.length_map, List.take_length] at h; exact h.1) fun δ h => ?_
  · rintro i d δ1 hi ⟨hno, o1, o2, rfl⟩
    rw [List.getElem?_map] at hi
    obtain ⟨s, hs, rfl⟩ := Option.map_eq_some_iff.mp hi
    have hn : (spansP (a, b)).take (i + 1) = (spansP (a, b)).take i ++ [s] := by rw [List.take_add_one, hs]; rfl
    refine ⟨_, _, tg_tup rfl (tgs_cons tg_name (tgs_cons tg_name tgs_nil)), ?_⟩
    refine st_if (b := inSp x s) ?_ (fun hb => ?_) fun hb => st_next ⟨?_, _, _, rfl⟩
    · obtain ⟨s1, s2⟩ := s
      cases s2 with
      | none => exact EvT.is (et_and (et_test (ev_leI (ev_var rfl) (ev_var rfl))) (b := true) fun _ => et_or (a := true) (b := true) (EvT.is (et_B (ev_isN (ev_var rfl))) rfl) fun h => by cases h) (by unfold inSp; rfl)
      | some h => exact EvT.is (et_and (et_test (ev_leI (ev_var rfl) (ev_var rfl))) fun h_ => (et_or (et_B (ev_isN (ev_var rfl))) fun h_ => (et_test (ev_leI (ev_var rfl) (ev_var rfl))))) rfl
    · refine st_ret (EvD.is (ev_gtI (ev_var rfl) (ev_var rfl)) (d1 := .bl false) ?_) ?_
      · exact congrArg DV.bl (decide_eq_false (Int.lt_irrefl x))
      · have : (spansP (a, b)).any (inSp x) = true := List.any_eq_true.mpr ⟨s, List.mem_of_getElem? hs, hb⟩
        rw [this]
        rfl
    · rw [hn, List.any_append, hno, List.any_cons, hb]
      rfl
  · rw [h]
    exact st_retR ev_bl
def F_most_more : List DV → DV → Prop := mk2 YY fun x => .int (moH (hpOf x.1) (hpOf x.2))
theorem fn_most_more (L : Loc K mg C D) : FA K C P w mg base "most_more" 7 F_most_more := by
  obtain ⟨f, fd, F, hm⟩ := L.l_most_more
  refine fnat_of hm F (fnr_of F sc_most_more (fun _ _ _ _ _ _ us h => ?_) _ (fun ds d ⟨x, _, e, _⟩ => by rw [e]; rfl) ?_)
  · obtain ⟨a, b, rfl⟩ := two_of h
    rfl
  intro cdv A outer s H E hr
  refine ⟨_, (pss_one (ps_ret (pe_fn (fn_most_over L) hr (by decide) (by rfl) (pa_cons (pe_pr (pr_heap L) L.ycls hr (by decide) (pv 0)) (pa_cons (pe_pr (pr_heap L) L.ycls hr (by decide) (pv 1)) pa_nil))))), ?_⟩
  rintro ds d ⟨x, ok, rfl, rfl⟩
  exact st_retR (ev_fn (ea_cons (ev_p_heap (ev_var rfl)) (ea_cons (ev_p_heap (ev_var rfl)) ea_nil)) (⟨(hpOf x.1, hpOf x.2), ok.both, rfl, rfl⟩))
abbrev spH (a b : Hpr) : Int := Bu.spotOf a.1 a.2 b.1 b.2
def F_most_more_butt : List DV → DV → Prop := mk2 YY fun x => .int (spH (hpOf x.1) (hpOf x.2))
theorem fn_most_more_butt (L : Loc K mg C D) : FA K C P w mg base "most_more_butt" 9 F_most_more_butt := by
  obtain ⟨f, fd, F, hm⟩ := L.l_most_more_butt
  refine fnat_of hm F (fnr_of F sc_most_more_butt (fun _ _ _ _ _ _ us h => ?_) _ (fun ds d ⟨x, _, e, _⟩ => by rw [e]; rfl) ?_)
  · obtain ⟨a, b, rfl⟩ := two_of h
    rfl
  intro cdv A outer s H E hr
  refine ⟨_, (pss_cons (ps_set (i := 2) sc_most_more_butt.nd rfl (Or.inr rfl) (pe_fn (fn_most_more L) hr (by decide) (by rfl) (pa_cons (pv 0) (pa_cons (pv 1) pa_nil))))
    (pss_one (ps_ret (pe_ix (k_ix (K := K) rfl) (pe_lc (own := [("butt", 3)]) (g := (gName 3)) rfl sc_most_more_butt.nd (k_ilist (K := K) rfl (pe_fn (fn_bends L) hr (by decide) (by rfl) (pa_cons (pe_pr (pr_heap L) L.ycls hr (by decide) (pv 0)) (pa_cons (pe_pr (pr_heap L) L.ycls hr (by decide) (pv 1)) pa_nil)))) (blkOk_by (N := ["one", "other", "most", "butt"]) (sc := defScope s_most_more_butt) (by decide +kernel)) (fun _ _ _ _ _ => (pg_name (i := 3) sc_most_more_butt.nd rfl (Or.inl rfl))) (fun _ _ _ _ _ => (pts_one (pt_cmpR op_eq (pe_fn (fn_gap L) hr (by decide) (by rfl) (pa_cons (pv 0) (pa_cons (pv 1) (pa_cons (pv 3) pa_nil)))) (pv 2) (nomark _)))) (fun _ _ _ _ _ => (pv 3))) pe_int (fun _ _ => rfl))))), ?_⟩
  rintro ds d ⟨⟨a, b⟩, ok, rfl, rfl⟩
  have ok' : YY (a, b) := ok
  have bl := bends_len (hpOf a) (hpOf b)
  have both := ok'.both
  replace both : (hpOf a).2.length + (hpOf b).2.length ≤ 60 := both
  obtain ⟨rest, hc⟩ := Bu.spots_cons (w1 := Bu.wantsOf a) (w2 := Bu.wantsOf b) (Bu.sw_ok a) (Bu.sw_ok b)
  refine st_let (ev_fn (ea_cons (ev_var rfl) (ea_cons (ev_var rfl) ea_nil)) (⟨(a, b), ok', rfl, rfl⟩)) ?_
  refine st_retR (ev_ix (ds := dis (Bu.spotsOf (Bu.wantsOf a) (Bu.swingsOf a) (Bu.wantsOf b) (Bu.swingsOf b))) (EvD.is (ev_lcM (b := DV.int) (as := beH (hpOf a) (hpOf b)) (fun x => x) (fun x => decide (gapP (hpOf a) (hpOf b) x = moH (hpOf a) (hpOf b))) (it_list (ev_fn (ea_cons (ev_p_heap (ev_var rfl)) (ea_cons (ev_p_heap (ev_var rfl)) ea_nil)) (⟨(hpOf a, hpOf b), both, rfl, rfl⟩))) (by omega) (by decide) fun x _ => ⟨_, tg_name, (et_test (ev_eqI (ev_fn (ea_cons (ev_var rfl) (ea_cons (ev_var rfl) (ea_cons (ev_var rfl) ea_nil))) (⟨(a, b, x), ⟨ok'.1, ok'.2.1⟩, rfl, rfl⟩)) (ev_var rfl))), fun _ => ev_var rfl⟩) (by rw [List.map_id']; rfl)) (.inl rfl) ev_int ?_)
  rw [hc]
  exact atI_nat (j := 0) rfl
/-- == of two heaps, as Python has it -/
def eqH (a b : Hpr) : Bool := PyData.eqv (pd (hpD a)) (pd (hpD b))
def F_alike : List DV → DV → Prop := mk2 YY fun x => .bl (eqH (hpOf x.1) (hpOf x.2))
theorem fn_alike (L : Loc K mg C D) : FA K C P w mg base "alike" 7 F_alike := by
  obtain ⟨f, fd, F, hm⟩ := L.l_alike
  refine fnat_of hm F (fnr_of F sc_alike (fun _ _ _ _ _ _ us h => ?_) _ (fun ds d ⟨x, _, e, _⟩ => by rw [e]; rfl) ?_)
  · obtain ⟨a, b, rfl⟩ := two_of h
    rfl
  intro cdv A outer s H E hr
  refine ⟨_, (pss_one (ps_ret (pe_cmpR (k_eqD (K := K) rfl (units_of hr)) (pe_pr (pr_heap L) L.ycls hr (by decide) (pv 0)) (pe_pr (pr_heap L) L.ycls hr (by decide) (pv 1)) (nomark _)))), ?_⟩
  rintro ds d ⟨x, ok, rfl, rfl⟩
  exact st_retR (ev_eqO (ev_p_heap (ev_var rfl)) (ev_p_heap (ev_var rfl)) (ok_hp _) (ok_hp _) (by decide) (by decide))
def F_compare : List DV → DV → Prop := mk2 YY fun x => .str (cmpS (wi (hpOf x.1) (hpOf x.2)) (wi (hpOf x.2) (hpOf x.1)))
theorem fn_compare (L : Loc K mg C D) : FA K C P w mg base "compare" 7 F_compare := by
  obtain ⟨f, fd, F, hm⟩ := L.l_compare
  refine fnat_of hm F (fnr_of F sc_compare (fun _ _ _ _ _ _ us h => ?_) _ (fun ds d ⟨x, _, e, _⟩ => by rw [e]; rfl) ?_)
  · obtain ⟨a, b, rfl⟩ := two_of h
    rfl
  intro cdv A outer s H E hr
  refine ⟨_, (pss_one (ps_ret (pe_fn (fn_heap_compare L) hr (by decide) (by rfl) (pa_cons (pe_pr (pr_heap L) L.ycls hr (by decide) (pv 0)) (pa_cons (pe_pr (pr_heap L) L.ycls hr (by decide) (pv 1)) pa_nil))))), ?_⟩
  rintro ds d ⟨x, ok, rfl, rfl⟩
  exact st_retR (ev_fn (ea_cons (ev_p_heap (ev_var rfl)) (ea_cons (ev_p_heap (ev_var rfl)) ea_nil)) (⟨(hpOf x.1, hpOf x.2), ok.many, rfl, rfl⟩))
abbrev spillOf (rs : List Int) : Hpr := (Bu.spareOf rs, Bu.swingsOf rs)
def F_spill_heap : List DV → DV → Prop := mkY fun rs => hpD (spillOf rs)
theorem fn_spill_heap (L : Loc K mg C D) : FA K C P w mg base "spill_heap" 5 F_spill_heap := by
  obtain ⟨f, fd, F, hm⟩ := L.l_spill_heap
  refine fnat_of hm F (fnr_of F sc_spill_heap (fun _ _ _ _ _ _ us h => ?_) _ (fun ds d ⟨x, _, e, _⟩ => by rw [e]; rfl) ?_)
  · obtain ⟨a, rfl⟩ := one_of h
    rfl
  intro cdv A outer s H E hr
  refine ⟨_, (pss_one (ps_ret (pe_tup (pa_cons (pe_pr (pr_spare L) L.ycls hr (by decide) (pv 0)) (pa_cons (pe_pr (pr_swings L) L.ycls hr (by decide) (pv 0)) pa_nil))))), ?_⟩
  rintro ds d ⟨rs, ok, rfl, rfl⟩
  exact st_retR (ev_tup (ea_cons (ev_p_spare (ev_var rfl)) (ea_cons (ev_p_swings (ev_var rfl)) ea_nil)) (Nat.le_of_ble_eq_true rfl))
def F_never_spills_more : List DV → DV → Prop := mk2 YY fun x => .bl (wi (spillOf x.1) (spillOf x.2))
theorem fn_never_spills_more (L : Loc K mg C D) : FA K C P w mg base "never_spills_more" 6 F_never_spills_more := by
  obtain ⟨f, fd, F, hm⟩ := L.l_never_spills_more
  refine fnat_of hm F (fnr_of F sc_never_spills_more (fun _ _ _ _ _ _ us h => ?_) _ (fun ds d ⟨x, _, e, _⟩ => by rw [e]; rfl) ?_)
  · obtain ⟨a, b, rfl⟩ := two_of h
    rfl
  intro cdv A outer s H E hr
  refine ⟨_, (pss_one (ps_ret (pe_fn (fn_heap_within L) hr (by decide) (by rfl) (pa_cons (pe_fn (fn_spill_heap L) hr (by decide) (by rfl) (pa_cons (pv 0) pa_nil)) (pa_cons (pe_fn (fn_spill_heap L) hr (by decide) (by rfl) (pa_cons (pv 1) pa_nil)) pa_nil))))), ?_⟩
  rintro ds d ⟨x, ok, rfl, rfl⟩
  exact st_retR (ev_fn (ea_cons (ev_fn (ea_cons (ev_var rfl) ea_nil) (⟨x.1, ok.1, rfl, rfl⟩)) (ea_cons (ev_fn (ea_cons (ev_var rfl) ea_nil) (⟨x.2, ok.2.1, rfl, rfl⟩)) ea_nil)) (⟨(spillOf x.1, spillOf x.2), ok.many, rfl, rfl⟩))
end
end Dt
set_option Elab.async false
set_option linter.all false
set_option maxRecDepth 100000
set_option maxHeartbeats 4000000
/-! The changes of a year. -/
namespace Dt
open PySem PySem.Spec PyProof.Rows L2
open Evl (Ex)
/-- a tuple's two items, stored at two places of an own list -/
theorem sm_set2 {K : Frag} {C : Addr} {δ : Den} {te ta tb : TE} {P : Res} {R : DV → Res} {ds : List DV} {p : Addr} {i j1 j2 : Nat} {k1 k2 : Int} {x y : DV} (hi : δ[i]? = some (some (.adr p))) (h : EvM K C te δ P (fun d W O H => d = .tup [x, y] ∧ own K C p ds W O H)) (ha : EvD K C ta δ (.int k1)) (hb : EvD K C tb δ (.int k2))
    (hj1 : ixN ds.length k1 = some j1) (hj2 : ixN ds.length k2 = some j2) : StM K C (tAsg te (gTup K 2 (gCons (gSub (tVar i) ta L2.rSetL) (gCons (gSub (tVar i) tb L2.rSetL) gNil)))) δ P (fun δ' W O H => δ' = δ ∧ own K C p ((ds.set j1 x).set j2 y) W O H) R := fun W O σ H D ok e p' q1 _ =>
  h W O σ H _ ok e p' fun d v H1 ⟨ed, o1⟩ c1 ok1 r1 => by
    subst ed
    cases r1 with
    | tup hq hr =>
      rename_i T us
      obtain ⟨u, v, rfl, ru, rv⟩ := reps2 hr
      refine ⟨T, _, rfl, Evl.ex_t msk_sub hq, rfl, u, [v], rfl, ?_⟩
      have e1 := e.to (c1.msk ok)
      obtain ⟨v0, hv, rv0⟩ := e1.at_ i _ hi
      cases rv0
      refine ⟨.ref p, hv, ha O σ H1 _ ok1.good e1 fun z H2 x2 r2 => ?_⟩
      obtain ⟨w, vs, hp, hr2⟩ := own_stab W O H1 H2 ok1 x2 o1
      have ok2 := ok1.ex x2
      refine ⟨p, vs, k1, j1, rfl, r2.int_eq, hp, by rw [hr2.len]; exact hj1, ?_⟩
      have c2 := (c1.trans (.of x2)).trans (ch_upd (H := H2) (o := .lst (vs.set j1 u)) w)
      have ok3 : OkA W O (upd H2 p (.lst (vs.set j1 u))) := ok_upd ok2
      have o3 : own K C p (ds.set j1 x) W O (upd H2 p (.lst (vs.set j1 u))) := own_upd ok2 w (hr2.set j1 (ru.up x2))
      have rv3 : Rep K C (msk O (upd H2 p (.lst (vs.set j1 u)))) v y := (rv.up x2).mono ((ch_upd w).msk ok2)
      have e3 := e.to (c2.msk ok)
      refine ⟨v, [], rfl, .ref p, hv, hb O σ _ _ ok3.good e3 fun z4 H4 x4 r4 => ?_⟩
      obtain ⟨w4, vs4, hp4, hr4⟩ := own_stab W O _ H4 ok3 x4 o3
      have ok4 := ok3.ex x4
      refine ⟨p, vs4, k2, j2, rfl, r4.int_eq, hp4, by rw [hr4.len, List.length_set]; exact hj2, rfl, ?_⟩
      have c5 := (c2.trans (.of x4)).trans (ch_upd (H := H4) (o := .lst (vs4.set j2 v)) w)
      exact q1 δ σ _ ⟨rfl, own_upd ok4 w (hr4.set j2 (rv3.up x4))⟩ c5 (ok_upd ok4) (e.to (c5.msk ok))
def putR (rs : List Int) (k : Nat) (r : Int) : List Int := rs.take k ++ r :: rs.drop k
def passR (rs : List Int) (k : Nat) : List Int := (rs.set k (rs.getD ((k + 1) % rs.length) 0)).set ((k + 1) % rs.length) (rs.getD k 0)
theorem put_len {rs : List Int} {k : Nat} {r : Int} : (putR rs k r).length = rs.length + 1 := by
  unfold putR
  rw [List.length_append, List.length_cons, List.length_take, List.length_drop]
  omega
theorem put_mem {rs : List Int} {k : Nat} {r x : Int} (h : x ∈ putR rs k r) : x = r ∨ x ∈ rs := by
  unfold putR at h
  rcases List.mem_append.mp h with m | m
  · exact .inr (List.mem_of_mem_take m)
  · rcases List.mem_cons.mp m with e | m
    · exact .inl e
    · exact .inr (List.mem_of_mem_drop m)
theorem put_ok {rs : List Int} {k : Nat} {r : Int} (h : ∀ x ∈ rs, x ≠ 0) (hr : r ≠ 0) (hl : rs.length < 100) : YrOk (putR rs k r) := by
  refine ⟨fun e => ?_, fun x hx => ?_, by rw [put_len]; omega⟩
  · have := congrArg List.length e
    rw [put_len] at this
    cases this
  · rcases put_mem hx with e | m
    · rw [e]; exact hr
    · exact h x m
theorem pass_len {rs : List Int} {k : Nat} : (passR rs k).length = rs.length := by
  unfold passR
  rw [List.length_set, List.length_set]
theorem pass_mem {rs : List Int} {k : Nat} (hk : k < rs.length) {x : Int} (h : x ∈ passR rs k) : x ∈ rs := by
  have hm : (k + 1) % rs.length < rs.length := Nat.mod_lt _ (by omega)
  unfold passR at h
  rcases List.mem_or_eq_of_mem_set h with m | e
  · rcases List.mem_or_eq_of_mem_set m with m | e
    · exact m
    · rw [e]; exact getD_mem hm
  · rw [e]; exact getD_mem hk
theorem pass_ok {rs : List Int} {k : Nat} (ok : YrOk rs) (hk : k < rs.length) : YrOk (passR rs k) := ⟨fun e => by
  have := congrArg List.length e
  rw [pass_len] at this
  exact absurd (List.eq_nil_of_length_eq_zero this) ok.1, fun x hx => ok.2.1 x (pass_mem hk hx), by rw [pass_len]; exact ok.2.2⟩
theorem map_ok {rs : List Int} {f : Int → Int} (ok : YrOk rs) (hf : ∀ x, x ≠ 0 → f x ≠ 0) : YrOk (rs.map f) := ⟨fun e => ok.1 (List.map_eq_nil_iff.mp e), fun x hx => by
  obtain ⟨y, hy, rfl⟩ := List.mem_map.mp hx
  exact hf y (ok.2.1 y hy), by rw [List.length_map]; exact ok.2.2⟩
section
variable {P : Program} {w : World} {K : Frag} {mg : Str → Option Value} {base : Heap} {C D : Addr}
def oppR (rs : List Int) : List Int := rs.map fun r => -r
def scaR (c : Int) (rs : List Int) : List Int := rs.map fun r => r * c
def F_opposite : List DV → DV → Prop := mkY fun rs => .yr (oppR rs)
theorem fn_opposite (L : Loc K mg C D) : FA K C P w mg base "opposite" 7 F_opposite := by
  obtain ⟨f, fd, F, hm⟩ := L.l_opposite
  refine fnat_of hm F (fnr_of F sc_opposite (fun _ _ _ _ _ _ us h => ?_) _ (fun ds d ⟨x, _, e, _⟩ => by rw [e]; rfl) ?_)
  · obtain ⟨a, rfl⟩ := one_of h
    rfl
  intro cdv A outer s H E hr
  refine ⟨_, (pss_one (ps_ret (k_year (K := K) rfl L hr (by decide) (by rfl) (pa_cons (pe_lc (own := [("run", 1)]) (g := (gName 1)) (tt := tYes) rfl sc_opposite.nd (k_itup (K := K) rfl (pe_pr (pr_runs L) L.ycls hr (by decide) (pv 0))) (blkOk_by (N := ["year", "run"]) (sc := defScope s_opposite) (by decide +kernel)) (fun _ _ _ _ _ => (pg_name (i := 1) sc_opposite.nd rfl (Or.inl rfl))) (fun _ _ _ _ _ => pts_nil) (fun _ _ _ _ _ => (pe_un un_neg (pv 1)))) pa_nil)))), ?_⟩
  rintro ds d ⟨rs, ok, rfl, rfl⟩
  have hl : rs.length ≤ 100 := ok.2.2
  exact st_retR (ev_year (ev_lcY (b := DV.int) (as := rs) (fun r => -r) (it_tup (ev_p_runs (ev_var rfl))) (by omega) (by decide) fun x _ => ⟨_, tg_name, (ev_neg (ev_var rfl))⟩) (.inl rfl) (map_ok ok fun x h => by omega))
def F_scaled : List DV → DV → Prop := mkF (fun x : List Int × Int => YrOk x.1 ∧ (∀ r ∈ x.1, -(2 ^ 64) < r ∧ r < 2 ^ 64) ∧ x.2 ≠ 0) (fun x => [.yr x.1, .int x.2]) fun x => .yr (scaR x.2 x.1)
theorem fn_scaled (L : Loc K mg C D) : FA K C P w mg base "scaled" 7 F_scaled := by
  obtain ⟨f, fd, F, hm⟩ := L.l_scaled
  refine fnat_of hm F (fnr_of F sc_scaled (fun _ _ _ _ _ _ us h => ?_) _ (fun ds d ⟨x, _, e, _⟩ => by rw [e]; rfl) ?_)
  · obtain ⟨a, b, rfl⟩ := two_of h
    rfl
  intro cdv A outer s H E hr
  refine ⟨_, (pss_one (ps_ret (k_year (K := K) rfl L hr (by decide) (by rfl) (pa_cons (pe_lc (own := [("run", 2)]) (g := (gName 2)) (tt := tYes) rfl sc_scaled.nd (k_itup (K := K) rfl (pe_pr (pr_runs L) L.ycls hr (by decide) (pv 0))) (blkOk_by (N := ["year", "number", "run"]) (sc := defScope s_scaled) (by decide +kernel)) (fun _ _ _ _ _ => (pg_name (i := 2) sc_scaled.nd rfl (Or.inl rfl))) (fun _ _ _ _ _ => pts_nil) (fun _ _ _ _ _ => (pe_op (k_mul (K := K) rfl) (pv 2) (pv 1)))) pa_nil)))), ?_⟩
  rintro ds d ⟨⟨rs, c⟩, ⟨ok, hs, hc⟩, rfl, rfl⟩
  have hl : rs.length ≤ 100 := ok.2.2
  exact st_retR (ev_year (ev_lcY (b := DV.int) (as := rs) (fun r => r * c) (it_tup (ev_p_runs (ev_var rfl))) (by omega) (by decide) fun x hx => ⟨_, tg_name, (ev_mulI (ev_var rfl) (ev_var rfl) (.inl (hs x hx)))⟩) (.inl rfl) (map_ok ok fun x h => Int.mul_ne_zero h hc))
def F_check_place : List DV → DV → Prop := mkF (fun x : List Int × Nat => x.2 < x.1.length) (fun x => [.yr x.1, .int (x.2 : Int)]) fun _ => .non
theorem fn_check_place (L : Loc K mg C D) : FA K C P w mg base "check_place" 3 F_check_place := by
  obtain ⟨f, fd, F, hm⟩ := L.l_check_place
  refine fnat_of hm F (fnr_of F sc_check_place (fun _ _ _ _ _ _ us h => ?_) _ (fun ds d ⟨x, _, e, _⟩ => by rw [e]; rfl) ?_)
  · obtain ⟨a, b, rfl⟩ := two_of h
    rfl
  intro cdv A outer s H E hr
  refine ⟨_, (pss_one (ps_if (pt_not (pt_chain op_le op_lt pe_int (pv 1) (pe_callB (k_len (K := K) rfl L hr (by decide)) (by rfl) L.b_len bb_len (pa_cons (pv 0) pa_nil)))) (pss_one ps_never) pss_nil)), ?_⟩
  rintro ds d ⟨⟨rs, k⟩, hk, rfl, rfl⟩
  replace hk : k < rs.length := hk
  exact st_if (b := false) (EvT.is (et_not (et_chain ev_int (ev_var rfl) (ev_lenY L (ev_var rfl)) rfl rfl)) (by
    rw [show decide ((0 : Int) ≤ (k : Int)) = true from decide_eq_true (by omega), show decide ((k : Int) < (rs.length : Int)) = true from decide_eq_true (by omega)]
    rfl)) (fun h => by cases h) fun _ => st_next rfl
def F_put_in : List DV → DV → Prop := mkF (fun x : List Int × Nat × Int => YrOk x.1 ∧ x.1.length < 100 ∧ x.2.1 ≤ x.1.length ∧ x.2.2 ≠ 0) (fun x => [.yr x.1, .int (x.2.1 : Int), .int x.2.2]) fun x => .yr (putR x.1 x.2.1 x.2.2)
theorem fn_put_in (L : Loc K mg C D) : FA K C P w mg base "put_in" 7 F_put_in := by
  obtain ⟨f, fd, F, hm⟩ := L.l_put_in
  refine fnat_of hm F (fnr_of F sc_put_in (fun _ _ _ _ _ _ us h => ?_) _ (fun ds d ⟨x, _, e, _⟩ => by rw [e]; rfl) ?_)
  · obtain ⟨a, b, c, rfl⟩ := three_of h
    rfl
  intro cdv A outer s H E hr
  refine ⟨_, (pss_cons (ps_if (pt_not (pt_chain op_le op_le pe_int (pv 1) (pe_callB (k_len (K := K) rfl L hr (by decide)) (by rfl) L.b_len bb_len (pa_cons (pv 0) pa_nil)))) (pss_one ps_never) pss_nil)
    (pss_one (ps_ret (k_year (K := K) rfl L hr (by decide) (by rfl) (pa_cons (pe_lst (k_star (K := K) rfl (pe_slice (k_sl (K := K) rfl) (pe_pr (pr_runs L) L.ycls hr (by decide) (pv 0)) po_none (po_some (pv 1))) (pa_cons (pv 2) (k_star (K := K) rfl (pe_slice (k_sl (K := K) rfl) (pe_pr (pr_runs L) L.ycls hr (by decide) (pv 0)) (po_some (pv 1)) po_none) pa_nil)))) pa_nil))))), ?_⟩
  rintro ds d ⟨⟨rs, k, r⟩, ⟨ok, hl, hk, hr⟩, rfl, rfl⟩
  replace hk : k ≤ rs.length := hk
  replace hl : rs.length < 100 := hl
  refine st_when (b := false) (EvT.is (et_not (et_chain ev_int (ev_var rfl) (ev_lenY L (ev_var rfl)) rfl rfl)) (by
    rw [show decide ((0 : Int) ≤ (k : Int)) = true from decide_eq_true (by omega), show decide ((k : Int) ≤ (rs.length : Int)) = true from decide_eq_true (by omega)]
    rfl)) (fun h => by cases h) fun _ => ?_
  refine st_retR (ev_year (rs := putR rs k r) (EvD.is (ev_lst (ea_starT (ev_takT (ev_p_runs (ev_var rfl)) (ev_var rfl)) (ea_cons (ev_var rfl) (ea_starT (ev_drpT (ev_p_runs (ev_var rfl)) (ev_var rfl)) ea_nil))) ?_) ?_) (.inl rfl) (put_ok ok.2.1 hr hl))
  · simp [dis]
    omega
  · unfold putR dis
    rw [List.append_nil, List.map_append]
    rfl
def F_passed : List DV → DV → Prop := mkF (fun x : List Int × Nat => YrOk x.1 ∧ x.2 < x.1.length) (fun x => [.yr x.1, .int (x.2 : Int)]) fun x => .yr (passR x.1 x.2)
theorem fn_passed (L : Loc K mg C D) : FA K C P w mg base "passed" 8 F_passed := by
  obtain ⟨f, fd, F, hm⟩ := L.l_passed
  refine fnat_of hm F (fnr_of F sc_passed (fun _ _ _ _ _ _ us h => ?_) _ (fun ds d ⟨x, _, e, _⟩ => by rw [e]; rfl) ?_)
  · obtain ⟨a, b, rfl⟩ := two_of h
    rfl
  intro cdv A outer s H E hr
  refine ⟨_, (pss_cons (ps_expr (pe_fn (fn_check_place L) hr (by decide) (by rfl) (pa_cons (pv 0) (pa_cons (pv 1) pa_nil))))
    (pss_cons (ps_par (i := 2) (j := 3) rfl sc_passed.nd rfl rfl (by decide) rfl rfl (pa_cons (pe_callTy (k_list (K := K) rfl) (by rfl) L.b_list bb_list (pa_cons (pe_pr (pr_runs L) L.ycls hr (by decide) (pv 0)) pa_nil)) (pa_cons (pe_op op_mod (pe_op (k_add (K := K) rfl) (pv 1) pe_int) (pe_callB (k_len (K := K) rfl L hr (by decide)) (by rfl) L.b_len bb_len (pa_cons (pv 0) pa_nil))) pa_nil)) (by rfl))
    (pss_cons (ps_asg (pe_tup (pa_cons (pe_ix (k_ix (K := K) rfl) (pv 2) (pv 3) (fun _ _ => rfl)) (pa_cons (pe_ix (k_ix (K := K) rfl) (pv 2) (pv 1) (fun _ _ => rfl)) pa_nil))) (pg_tup rfl (pgs_cons (pg_sub (pv 2) (pv 1) set_list) (pgs_cons (pg_sub (pv 2) (pv 3) set_list) pgs_nil))))
    (pss_one (ps_ret (k_year (K := K) rfl L hr (by decide) (by rfl) (pa_cons (pv 2) pa_nil))))))), ?_⟩
  rintro ds d ⟨⟨rs, k⟩, ⟨ok, hk⟩, rfl, rfl⟩
  replace hk : k < rs.length := hk
  have hm : (k + 1) % rs.length < rs.length := Nat.mod_lt _ (by omega)
  show StD K C _ _ (fun _ => DV.yr (passR rs k) = .non) (fun r => r = .yr (passR rs k))
  refine st_drop (ev_fn (ea_cons (ev_var rfl) (ea_cons (ev_var rfl) ea_nil)) (⟨(rs, k), hk, rfl, rfl⟩)) ?_
  refine st_of (sm_ownP (ds := dis rs) (P2 := fun _ _ _ => True) (F := fun _ _ _ _ => True) (F' := fun _ _ _ _ => True) (F1 := fun _ x _ _ _ => x = .int (((k + 1) % rs.length : Nat) : Int)) (fun δ' ds' => (∃ p, δ' = [some (.yr rs), some (.int (k : Int)), some (.adr p), some (.int (((k + 1) % rs.length : Nat) : Int))]) ∧ ds' = dis (passR rs k)) (by decide) (ev_listN (ev_p_runs (ev_var rfl)) (.inr rfl)) (fun _ _ _ _ _ _ _ _ _ => True.intro) (fun p => ?_) (fun p x => ?_) (fun _ _ _ _ _ _ _ => True.intro) ?_)
  · exact em_post (em_pure (d := .int (((k + 1) % rs.length : Nat) : Int)) (EvD.is (ev_modI (ev_addI (ev_var rfl) ev_int) (ev_lenY L (ev_var rfl)) (Int.natCast_pos.mpr (Nat.lt_of_le_of_lt (Nat.zero_le _) hk))) (by rw [show ((k : Int) + 1) = ((k + 1 : Nat) : Int) from rfl, ← Int.natCast_emod])) fun W O H H' ok e h => ⟨own_stab W O H H' ok e h.1, h.2⟩) fun d W O H h => ⟨h.2.1, h.1⟩
  · refine sm_told (A := x = .int (((k + 1) % rs.length : Nat) : Int)) (fun W O H h => h.2) fun hx => ?_
    subst hx
    refine sm_pre (P := own K C p (dis rs)) ?_ fun W O H h => h.1
    refine sm_post (sm_set2 (x := .int (rs.getD ((k + 1) % rs.length) 0)) (y := .int (rs.getD k 0)) rfl (em_pair (em_peek (i := 2) rfl (ev_ix (ev_var rfl) (.inl rfl) (ev_var rfl) (at_int hm)) rfl own_stab fun _ _ _ h => h) (em_peek (i := 2) rfl (ev_ix (ev_var rfl) (.inl rfl) (ev_var rfl) (at_int hk)) rfl own_stab fun _ _ _ h => h) own_stab) (ev_var rfl) (ev_var rfl) (by rw [List.length_map]; exact Evl.ixN_nat hk) (by rw [List.length_map]; exact Evl.ixN_nat hm)) (fun δ' W O H h => ?_) fun _ _ _ _ h => h
    obtain ⟨rfl, h⟩ := h
    refine ⟨dis (passR rs k), ⟨⟨⟨p, rfl⟩, rfl⟩, rfl⟩, ?_, True.intro⟩
    unfold passR dis
    rw [List.map_set, List.map_set]
    exact h
  · rintro δ' ds' ⟨⟨p, rfl⟩, rfl⟩
    exact sm_post (sm_pure (st_retR (ev_year (ev_var rfl) (.inl rfl) (pass_ok ok hk))) fun _ _ _ _ _ _ _ => True.intro) (fun _ _ _ _ h => h.1) fun _ _ _ _ h => h.1
end
end Dt
set_option Elab.async false
set_option linter.all false
set_option maxRecDepth 100000
set_option maxHeartbeats 4000000
/-! Where a run is put, what is passed. -/
namespace Dt
open PySem PySem.Spec PyProof.Rows L2
open Evl (Ex)
section
variable {P : Program} {w : World} {K : Frag} {mg : Str → Option Value} {base : Heap} {C D : Addr}
abbrev PutOk (x : List Int × Int) : Prop := YrOk x.1 ∧ x.1.length ≤ 28 ∧ x.2 ≠ 0
def putsOf (rs : List Int) (r : Int) : List (List Int) := (List.range (rs.length + 1)).map fun k => putR rs k r
theorem puts_mem {rs : List Int} {r : Int} {y : List Int} (h : y ∈ putsOf rs r) : ∃ k, k < rs.length + 1 ∧ y = putR rs k r := by
  obtain ⟨k, hk, e⟩ := List.mem_map.mp h
  exact ⟨k, List.mem_range.mp hk, e.symm⟩
theorem puts_ok {rs : List Int} {r : Int} (ok : PutOk (rs, r)) {y : List Int} (h : y ∈ putsOf rs r) : YrOk y ∧ y.length ≤ 29 := by
  obtain ⟨k, hk, rfl⟩ := puts_mem h
  have h2 : rs.length ≤ 28 := ok.2.1
  exact ⟨put_ok ok.1.2.1 ok.2.2 (by omega), by rw [put_len]; omega⟩
theorem puts_yy {rs : List Int} {r : Int} (ok : PutOk (rs, r)) {y z : List Int} (h : y ∈ putsOf rs r) (k : z ∈ putsOf rs r) : YY (y, z) := by
  obtain ⟨a1, a2⟩ := puts_ok ok h
  obtain ⟨b1, b2⟩ := puts_ok ok k
  exact ⟨a1, b1, by show y.length + z.length ≤ 60; omega⟩
theorem puts_len {rs : List Int} {r : Int} : (putsOf rs r).length = rs.length + 1 := by
  unfold putsOf
  rw [List.length_map, List.length_range]
def F_all_put : List DV → DV → Prop := mkF PutOk (fun x => [.yr x.1, .int x.2]) fun x => .lst ((putsOf x.1 x.2).map DV.yr)
theorem fn_all_put (L : Loc K mg C D) : FA K C P w mg base "all_put" 8 F_all_put := by
  obtain ⟨f, fd, F, hm⟩ := L.l_all_put
  refine fnat_of hm F (fnr_of F sc_all_put (fun _ _ _ _ _ _ us h => ?_) _ (fun ds d ⟨x, _, e, _⟩ => by rw [e]; rfl) ?_)
  · obtain ⟨a, b, rfl⟩ := two_of h
    rfl
  intro cdv A outer s H E hr
  refine ⟨_, (pss_one (ps_ret (pe_lc (own := [("place", 2)]) (g := (gName 2)) (tt := tYes) rfl sc_all_put.nd (pi_range1 (by rfl) L.b_range (pa_cons (pe_op (k_add (K := K) rfl) (pe_callB (k_len (K := K) rfl L hr (by decide)) (by rfl) L.b_len bb_len (pa_cons (pv 0) pa_nil)) pe_int) pa_nil)) (blkOk_by (N := ["year", "run", "place"]) (sc := defScope s_all_put) (by decide +kernel)) (fun _ _ _ _ _ => (pg_name (i := 2) sc_all_put.nd rfl (Or.inl rfl))) (fun _ _ _ _ _ => pts_nil) (fun _ _ _ _ _ => (pe_fn (fn_put_in L) hr (by decide) (by rfl) (pa_cons (pv 0) (pa_cons (pv 2) (pa_cons (pv 1) pa_nil)))))))), ?_⟩
  rintro ds d ⟨⟨rs, r⟩, ok, rfl, rfl⟩
  have hl : rs.length ≤ 28 := ok.2.1
  exact st_retR (ev_lcY (b := DV.yr) (as := List.range (rs.length + 1)) (a := fun k : Nat => DV.int (k : Int)) (fun k => putR rs k r) (it_range (n := rs.length + 1) (EvD.is (ev_addI (ev_lenY L (ev_var rfl)) ev_int) rfl) (by omega)) (by rw [List.length_range]; omega) (by decide) fun k hk => ⟨_, tg_name, (ev_fn (ea_cons (ev_var rfl) (ea_cons (ev_var rfl) (ea_cons (ev_var rfl) ea_nil))) (⟨(rs, k, r), ⟨ok.1, by show rs.length < 100; omega, by have := List.mem_range.mp hk; show k ≤ rs.length; omega, ok.2.2⟩, rfl, rfl⟩))⟩)
/-- what each place buys -/
def buysOf (rs : List Int) (r b : Int) : List Int := (putsOf rs r).map fun y => Bu.buy y b
theorem buys_ne {rs : List Int} {r b : Int} : buysOf rs r b ≠ [] := fun e => by
  have := congrArg List.length e
  unfold buysOf at this
  rw [List.length_map, puts_len] at this
  cases this
def F_best_place : List DV → DV → Prop := mkF (fun x : (List Int × Int) × Int => PutOk x.1) (fun x => [.yr x.1.1, .int x.1.2, .int x.2]) fun x => .int (((buysOf x.1.1 x.1.2 x.2).idxOf (Bu.lmin (buysOf x.1.1 x.1.2 x.2)) : Nat) : Int)
theorem fn_best_place (L : Loc K mg C D) : FA K C P w mg base "best_place" 9 F_best_place := by
  obtain ⟨f, fd, F, hm⟩ := L.l_best_place
  refine fnat_of hm F (fnr_of F sc_best_place (fun _ _ _ _ _ _ us h => ?_) _ (fun ds d ⟨x, _, e, _⟩ => by rw [e]; rfl) ?_)
  · obtain ⟨a, b, c, rfl⟩ := three_of h
    rfl
  intro cdv A outer s H E hr
  refine ⟨_, (pss_cons (ps_setLc (i := 3) (own := [("own", 4)]) (g := (gName 4)) (tt := tYes) rfl sc_best_place.nd rfl rfl (sw_true rfl rfl rfl (by decide +kernel)) (k_ilist (K := K) rfl (pe_fn (fn_all_put L) hr (by decide) (by rfl) (pa_cons (pv 0) (pa_cons (pv 1) pa_nil)))) (blkOk_by (N := ["year", "run", "butt", "numbers", "own"]) (sc := defScope s_best_place) (by decide +kernel)) (fun _ _ _ _ _ => (pg_name (i := 4) sc_best_place.nd rfl (Or.inl rfl))) (fun _ _ _ _ _ => pts_nil) (fun _ _ _ _ _ => (pe_fn (fn_bought L) hr (by decide) (by rfl) (pa_cons (pv 4) (pa_cons (pv 2) pa_nil)))))
    (pss_one (ps_ret (pe_bm PySem.F.plainAttrs_list PySem.F.slot_list_index PySem.F.type_list_index (k_mindex (K := K) rfl) (pv 3) (pa_cons (pe_callB (k_min (K := K) rfl rfl) (by rfl) L.b_min bb_min (pa_cons (pv 3) pa_nil)) pa_nil))))), ?_⟩
  rintro ds d ⟨⟨⟨rs, r⟩, b⟩, ok, rfl, rfl⟩
  have ok' : PutOk (rs, r) := ok
  have hl : rs.length ≤ 28 := ok'.2.1
  refine st_let (d := .lst (dis (buysOf rs r b))) (ev_lcY (b := DV.int) (as := putsOf rs r) (fun y => Bu.buy y b) (it_list (ev_fn (ea_cons (ev_var rfl) (ea_cons (ev_var rfl) ea_nil)) (⟨(rs, r), ok', rfl, rfl⟩))) (by rw [puts_len]; omega) (by decide) fun y hy => ⟨_, tg_name, (ev_fn (ea_cons (ev_var rfl) (ea_cons (ev_var rfl) ea_nil)) (⟨(y, b), (puts_ok ok' hy).1, rfl, rfl⟩))⟩) ?_
  exact st_retR (ev_index (ev_var rfl) (ev_cb1 (ev_var rfl) (rc_min (buys_ne))) (Bu.lmin_mem buys_ne))
/-- the places from which no other is better | worse -/
def bestL (rs : List Int) (r : Int) : List Nat := (List.range (rs.length + 1)).filter fun k => (putsOf rs r).all fun z => wi (hpOf (putR rs k r)) (hpOf z)
def worstL (rs : List Int) (r : Int) : List Nat := (List.range (rs.length + 1)).filter fun k => (putsOf rs r).all fun z => wi (hpOf z) (hpOf (putR rs k r))
theorem all_bl {α : Type} (p : α → Bool) : ∀ l : List α, ((l.map p).all id) = l.all p := fun l => by rw [List.all_map]; rfl
def F_best_for_all : List DV → DV → Prop := mkF PutOk (fun x => [.yr x.1, .int x.2]) fun x => optD (bestL x.1 x.2)
def F_worst_for_all : List DV → DV → Prop := mkF PutOk (fun x => [.yr x.1, .int x.2]) fun x => optD (worstL x.1 x.2)
abbrev cs_best_for_all : Scope := { kind := .function, names := [(".0", .local), ("place", .local), ("own", .cell), ("all", .globalImplicit), ("some", .cell)], isGenerator := false, isCoroutine := false }
abbrev cs_worst_for_all : Scope := { kind := .function, names := [(".0", .local), ("place", .local), ("own", .cell), ("all", .globalImplicit), ("some", .cell)], isGenerator := false, isCoroutine := false }
theorem enum_puts (rs : List Int) (r : Int) : enumD ((putsOf rs r).map DV.yr) = (List.range (rs.length + 1)).map fun k : Nat => DV.tup [.int (k : Int), .yr (putR rs k r)] := enum_range (fun k => putR rs k r) DV.yr (rs.length + 1)
theorem fn_best_for_all (L : Loc K mg C D) : FA K C P w mg base "best_for_all" 9 F_best_for_all := by
  obtain ⟨f, fd, F, hm⟩ := L.l_best_for_all
  refine fnat_of hm F (fnr_of F sc_best_for_all (fun _ _ _ _ _ _ us h => ?_) _ (fun ds d ⟨x, _, e, _⟩ => by rw [e]; rfl) ?_)
  · obtain ⟨a, b, rfl⟩ := two_of h
    rfl
  intro cdv A outer s H E hr
  refine ⟨_, (pss_cons (ps_set (i := 2) sc_best_for_all.nd rfl (Or.inr rfl) (pe_fn (fn_all_put L) hr (by decide) (by rfl) (pa_cons (pv 0) (pa_cons (pv 1) pa_nil))))
    (pss_cons (ps_setLc (i := 3) (own := [("place", 4), ("own", 5)]) (g := (gTup K 2 (gCons (gName 4) (gCons (gName 5) gNil)))) rfl sc_best_for_all.nd rfl rfl (sw_true rfl rfl rfl (by decide +kernel)) (k_ienum (K := K) rfl (by rfl) L.b_enumerate (pa_cons (pv 2) pa_nil)) (blkOk_by (N := ["year", "run", "some", "found", "place", "own", "other"]) (sc := defScope s_best_for_all) (by decide +kernel)) (fun _ _ _ _ _ => (pg_tup rfl (pgs_cons (pg_name (i := 4) sc_best_for_all.nd rfl (Or.inl rfl)) (pgs_cons (pg_name (i := 5) sc_best_for_all.nd rfl (Or.inr rfl)) pgs_nil)))) (fun _ _ _ _ _ => (pts_one (pt_val (pe_callB (k_all (K := K) rfl rfl) (by rfl) L.b_all bb_all (pa_cons (pe_lc (own := [("other", 6)]) (g := (gName 6)) (tt := tYes) rfl sc_best_for_all.nd (k_ilist (K := K) rfl (pv 2)) (blkOk_by (N := ["year", "run", "some", "found", "place", "own", "other"]) (sc := cs_best_for_all) (by decide +kernel)) (fun _ _ _ _ _ => (pg_name (i := 6) sc_best_for_all.nd rfl (Or.inl rfl))) (fun _ _ _ _ _ => pts_nil) (fun _ _ _ _ _ => (pe_fn (fn_never_more L) hr (by decide) (by rfl) (pa_cons (pv 5) (pa_cons (pv 6) pa_nil))))) pa_nil))))) (fun _ _ _ _ _ => (pv 4)))
    (pss_one (ps_ret (pe_ifExp (pt_cmpR op_gt (pe_callB (k_len (K := K) rfl L hr (by decide)) (by rfl) L.b_len bb_len (pa_cons (pv 3) pa_nil)) pe_int (nomark _)) (pe_ix (k_ix (K := K) rfl) (pv 3) pe_int (fun _ _ => rfl)) pe_non))))), ?_⟩
  rintro ds d ⟨⟨rs, r⟩, ok, rfl, rfl⟩
  have ok' : PutOk (rs, r) := ok
  have hl : rs.length ≤ 28 := ok'.2.1
  show StD K C _ _ (fun _ => optD (bestL rs r) = .non) (fun x => x = optD (bestL rs r))
  refine st_let (d := .lst ((putsOf rs r).map DV.yr)) (ev_fn (ea_cons (ev_var rfl) (ea_cons (ev_var rfl) ea_nil)) (⟨(rs, r), ok', rfl, rfl⟩)) ?_
  refine st_let (d := .lst ((bestL rs r).map natD)) (EvD.is (ev_lcM (b := natD) (as := List.range (rs.length + 1)) (a := fun k : Nat => DV.tup [.int (k : Int), .yr (putR rs k r)]) (fun k => k) (fun k => (putsOf rs r).all fun z => wi (hpOf (putR rs k r)) (hpOf z)) (ItD.is (it_enum (ev_var rfl)) (enum_puts rs r)) (by rw [List.length_range]; omega) (by decide) fun k hk => ⟨_, tg_tup rfl (tgs_cons tg_name (tgs_cons tg_name tgs_nil)),
    EvT.is (et_B (ev_cb1 (EvD.is (ev_lcY (b := DV.bl) (as := putsOf rs r) (fun z => wi (hpOf (putR rs k r)) (hpOf z)) (it_list (ev_var rfl)) (by rw [puts_len]; omega) (by decide) fun z hz => ⟨_, tg_name, (ev_fn (ea_cons (ev_var rfl) (ea_cons (ev_var rfl) ea_nil)) (⟨(putR rs k r, z), puts_yy ok' (List.mem_map.mpr ⟨k, hk, rfl⟩) hz, rfl, rfl⟩))⟩) rfl) rc_all)) (all_bl _ _), fun _ => ev_var rfl⟩) ?_) ?_
  · rw [List.map_id']
    rfl
  generalize bestL rs r = m
  cases m with
  | nil => exact st_retR (ev_if (et_test (ev_gtI (ev_lenS L (ev_var rfl) (.inl rfl)) ev_int)) (fun h => by simp at h) fun _ => ev_non)
  | cons k r => exact st_retR (ev_if (et_test (ev_gtI (ev_lenS L (ev_var rfl) (.inl rfl)) ev_int)) (fun _ => (ev_ix (ev_var rfl) (.inl rfl) ev_int (atI_nat (j := 0) rfl))) fun h => by simp at h)
theorem fn_worst_for_all (L : Loc K mg C D) : FA K C P w mg base "worst_for_all" 9 F_worst_for_all := by
  obtain ⟨f, fd, F, hm⟩ := L.l_worst_for_all
  refine fnat_of hm F (fnr_of F sc_worst_for_all (fun _ _ _ _ _ _ us h => ?_) _ (fun ds d ⟨x, _, e, _⟩ => by rw [e]; rfl) ?_)
  · obtain ⟨a, b, rfl⟩ := two_of h
    rfl
  intro cdv A outer s H E hr
  refine ⟨_, (pss_cons (ps_set (i := 2) sc_worst_for_all.nd rfl (Or.inr rfl) (pe_fn (fn_all_put L) hr (by decide) (by rfl) (pa_cons (pv 0) (pa_cons (pv 1) pa_nil))))
    (pss_cons (ps_setLc (i := 3) (own := [("place", 4), ("own", 5)]) (g := (gTup K 2 (gCons (gName 4) (gCons (gName 5) gNil)))) rfl sc_worst_for_all.nd rfl rfl (sw_true rfl rfl rfl (by decide +kernel)) (k_ienum (K := K) rfl (by rfl) L.b_enumerate (pa_cons (pv 2) pa_nil)) (blkOk_by (N := ["year", "run", "some", "found", "place", "own", "other"]) (sc := defScope s_worst_for_all) (by decide +kernel)) (fun _ _ _ _ _ => (pg_tup rfl (pgs_cons (pg_name (i := 4) sc_worst_for_all.nd rfl (Or.inl rfl)) (pgs_cons (pg_name (i := 5) sc_worst_for_all.nd rfl (Or.inr rfl)) pgs_nil)))) (fun _ _ _ _ _ => (pts_one (pt_val (pe_callB (k_all (K := K) rfl rfl) (by rfl) L.b_all bb_all (pa_cons (pe_lc (own := [("other", 6)]) (g := (gName 6)) (tt := tYes) rfl sc_worst_for_all.nd (k_ilist (K := K) rfl (pv 2)) (blkOk_by (N := ["year", "run", "some", "found", "place", "own", "other"]) (sc := cs_worst_for_all) (by decide +kernel)) (fun _ _ _ _ _ => (pg_name (i := 6) sc_worst_for_all.nd rfl (Or.inl rfl))) (fun _ _ _ _ _ => pts_nil) (fun _ _ _ _ _ => (pe_fn (fn_never_more L) hr (by decide) (by rfl) (pa_cons (pv 6) (pa_cons (pv 5) pa_nil))))) pa_nil))))) (fun _ _ _ _ _ => (pv 4)))
    (pss_one (ps_ret (pe_ifExp (pt_cmpR op_gt (pe_callB (k_len (K := K) rfl L hr (by decide)) (by rfl) L.b_len bb_len (pa_cons (pv 3) pa_nil)) pe_int (nomark _)) (pe_ix (k_ix (K := K) rfl) (pv 3) pe_int (fun _ _ => rfl)) pe_non))))), ?_⟩
  rintro ds d ⟨⟨rs, r⟩, ok, rfl, rfl⟩
  have ok' : PutOk (rs, r) := ok
  have hl : rs.length ≤ 28 := ok'.2.1
  show StD K C _ _ (fun _ => optD (worstL rs r) = .non) (fun x => x = optD (worstL rs r))
  refine st_let (d := .lst ((putsOf rs r).map DV.yr)) (ev_fn (ea_cons (ev_var rfl) (ea_cons (ev_var rfl) ea_nil)) (⟨(rs, r), ok', rfl, rfl⟩)) ?_
  refine st_let (d := .lst ((worstL rs r).map natD)) (EvD.is (ev_lcM (b := natD) (as := List.range (rs.length + 1)) (a := fun k : Nat => DV.tup [.int (k : Int), .yr (putR rs k r)]) (fun k => k) (fun k => (putsOf rs r).all fun z => wi (hpOf z) (hpOf (putR rs k r))) (ItD.is (it_enum (ev_var rfl)) (enum_puts rs r)) (by rw [List.length_range]; omega) (by decide) fun k hk => ⟨_, tg_tup rfl (tgs_cons tg_name (tgs_cons tg_name tgs_nil)),
    EvT.is (et_B (ev_cb1 (EvD.is (ev_lcY (b := DV.bl) (as := putsOf rs r) (fun z => wi (hpOf z) (hpOf (putR rs k r))) (it_list (ev_var rfl)) (by rw [puts_len]; omega) (by decide) fun z hz => ⟨_, tg_name, (ev_fn (ea_cons (ev_var rfl) (ea_cons (ev_var rfl) ea_nil)) (⟨(z, putR rs k r), puts_yy ok' hz (List.mem_map.mpr ⟨k, hk, rfl⟩), rfl, rfl⟩))⟩) rfl) rc_all)) (all_bl _ _), fun _ => ev_var rfl⟩) ?_) ?_
  · rw [List.map_id']
    rfl
  generalize worstL rs r = m
  cases m with
  | nil => exact st_retR (ev_if (et_test (ev_gtI (ev_lenS L (ev_var rfl) (.inl rfl)) ev_int)) (fun h => by simp at h) fun _ => ev_non)
  | cons k r => exact st_retR (ev_if (et_test (ev_gtI (ev_lenS L (ev_var rfl) (.inl rfl)) ev_int)) (fun _ => (ev_ix (ev_var rfl) (.inl rfl) ev_int (atI_nat (j := 0) rfl))) fun h => by simp at h)
def passL (rs : List Int) (b : Int) : List Nat := (List.range rs.length).filter fun k => decide (Bu.buy (passR rs k) b < Bu.buy rs b)
def F_passes : List DV → DV → Prop := mkF (fun x : List Int × Int => YrOk x.1) (fun x => [.yr x.1, .int x.2]) fun x => .lst ((passL x.1 x.2).map natD)
theorem fn_passes (L : Loc K mg C D) : FA K C P w mg base "passes" 9 F_passes := by
  obtain ⟨f, fd, F, hm⟩ := L.l_passes
  refine fnat_of hm F (fnr_of F sc_passes (fun _ _ _ _ _ _ us h => ?_) _ (fun ds d ⟨x, _, e, _⟩ => by rw [e]; rfl) ?_)
  · obtain ⟨a, b, rfl⟩ := two_of h
    rfl
  intro cdv A outer s H E hr
  refine ⟨_, (pss_cons (ps_set (i := 2) sc_passes.nd rfl (Or.inr rfl) (pe_fn (fn_bought L) hr (by decide) (by rfl) (pa_cons (pv 0) (pa_cons (pv 1) pa_nil))))
    (pss_one (ps_ret (pe_lc (own := [("place", 3)]) (g := (gName 3)) rfl sc_passes.nd (pi_range1 (by rfl) L.b_range (pa_cons (pe_callB (k_len (K := K) rfl L hr (by decide)) (by rfl) L.b_len bb_len (pa_cons (pv 0) pa_nil)) pa_nil)) (blkOk_by (N := ["year", "butt", "now", "place"]) (sc := defScope s_passes) (by decide +kernel)) (fun _ _ _ _ _ => (pg_name (i := 3) sc_passes.nd rfl (Or.inl rfl))) (fun _ _ _ _ _ => (pts_one (pt_cmpR op_lt (pe_fn (fn_bought L) hr (by decide) (by rfl) (pa_cons (pe_fn (fn_passed L) hr (by decide) (by rfl) (pa_cons (pv 0) (pa_cons (pv 3) pa_nil))) (pa_cons (pv 1) pa_nil))) (pv 2) (nomark _)))) (fun _ _ _ _ _ => (pv 3)))))), ?_⟩
  rintro ds d ⟨⟨rs, b⟩, ok, rfl, rfl⟩
  have hl : rs.length ≤ 100 := ok.2.2
  refine st_let (d := .int (Bu.buy rs b)) (ev_fn (ea_cons (ev_var rfl) (ea_cons (ev_var rfl) ea_nil)) (⟨(rs, b), ok, rfl, rfl⟩)) ?_
  refine st_retR (EvD.is (ev_lcM (b := natD) (as := List.range rs.length) (a := fun k : Nat => DV.int (k : Int)) (fun k => k) (fun k => decide (Bu.buy (passR rs k) b < Bu.buy rs b)) (it_range (n := rs.length) (ev_lenY L (ev_var rfl)) (by omega)) (by rw [List.length_range]; omega) (by decide) fun k hk => ⟨_, tg_name, (et_test (ev_ltI (ev_fn (ea_cons (ev_fn (ea_cons (ev_var rfl) (ea_cons (ev_var rfl) ea_nil)) (⟨(rs, k), ⟨ok, List.mem_range.mp hk⟩, rfl, rfl⟩)) (ea_cons (ev_var rfl) ea_nil)) (⟨(passR rs k, b), pass_ok ok (List.mem_range.mp hk), rfl, rfl⟩)) (ev_var rfl))), fun _ => ev_var rfl⟩) ?_)
  rw [List.map_id']
  rfl
def F_swings : List DV → DV → Prop := mkY fun rs => .tup (dis (Bu.swingsOf rs))
theorem fn_swings (L : Loc K mg C D) : FA K C P w mg base "swings" 5 F_swings := by
  obtain ⟨f, fd, F, hm⟩ := L.l_swings
  refine fnat_of hm F (fnr_of F sc_swings (fun _ _ _ _ _ _ us h => ?_) _ (fun ds d ⟨x, _, e, _⟩ => by rw [e]; rfl) ?_)
  · obtain ⟨a, rfl⟩ := one_of h
    rfl
  intro cdv A outer s H E hr
  refine ⟨_, (pss_one (ps_ret (pe_fn (fn_swings_of L) hr (by decide) (by rfl) (pa_cons (pe_pr (pr_runs L) L.ycls hr (by decide) (pv 0)) pa_nil)))), ?_⟩
  rintro ds d ⟨rs, ok, rfl, rfl⟩
  exact st_retR (ev_fn (ea_cons (ev_p_runs (ev_var rfl)) ea_nil) (⟨rs, ok.2.2, rfl, rfl⟩))
end
end Dt
set_option Elab.async false
set_option linter.all false
set_option maxRecDepth 100000
set_option maxHeartbeats 4000000
/-! The law's own reckoning: sums, the walk through a year, many years, sameness. -/
namespace Dt
open PySem PySem.Spec PyProof.Rows L2
open Evl (Ex)
def lostR (b : Int) : List Int → Int → Int
  | [], _ => 0
  | r :: rs, x => max 0 (x + r - b) + lostR b rs (Bu.clamp b (x + r))
theorem lost_append (b : Int) : ∀ (p q : List Int) (x : Int), lostR b (p ++ q) x = lostR b p x + lostR b q (Bu.lvl b p x)
  | [], q, x => by
    show lostR b q x = 0 + lostR b q x
    omega
  | r :: p, q, x => by
    have ih := lost_append b p q (Bu.clamp b (x + r))
    show max 0 (x + r - b) + lostR b (p ++ q) (Bu.clamp b (x + r)) = max 0 (x + r - b) + lostR b p (Bu.clamp b (x + r)) + lostR b q (Bu.lvl b p (Bu.clamp b (x + r)))
    omega
section
variable {P : Program} {w : World} {K : Frag} {mg : Str → Option Value} {base : Heap} {C D : Addr}
def F__law_sums : List DV → DV → Prop := mkF (fun x : List Int × Nat => YrOk x.1 ∧ x.2 ≤ 500) (fun x => [.yr x.1, .int (x.2 : Int)]) fun x => .lst (dis (sumsOf (hpOf x.1) x.2))
theorem fn__law_sums (L : Loc K mg C D) : FA K C P w mg base "_law_sums" 6 F__law_sums := by
  obtain ⟨f, fd, F, hm⟩ := L.l__law_sums
  refine fnat_of hm F (fnr_of F sc__law_sums (fun _ _ _ _ _ _ us h => ?_) _ (fun ds d ⟨x, _, e, _⟩ => by rw [e]; rfl) ?_)
  · obtain ⟨a, b, rfl⟩ := two_of h
    rfl
  intro cdv A outer s H E hr
  refine ⟨_, (pss_one (ps_ret (pe_lc (own := [("_law_k", 2)]) (g := (gName 2)) (tt := tYes) rfl sc__law_sums.nd (pi_range1 (by rfl) L.b_range (pa_cons (pe_op (k_add (K := K) rfl) (pv 1) pe_int) pa_nil)) (blkOk_by (N := ["_law_host", "_law_many_so", "_law_k"]) (sc := defScope s__law_sums) (by decide +kernel)) (fun _ _ _ _ _ => (pg_name (i := 2) sc__law_sums.nd rfl (Or.inl rfl))) (fun _ _ _ _ _ => pts_nil) (fun _ _ _ _ _ => (pe_op (k_add (K := K) rfl) (pe_pr (pr_wants L) L.ycls hr (by decide) (pv 0)) (pe_callB (k_sum (K := K) rfl rfl) (by rfl) L.b_sum bb_sum (pa_cons (pe_slice (k_sl (K := K) rfl) (pe_fn (fn_swings L) hr (by decide) (by rfl) (pa_cons (pv 0) pa_nil)) po_none (po_some (pv 2))) pa_nil))))))), ?_⟩
  rintro ds d ⟨⟨rs, m⟩, ⟨ok, hm⟩, rfl, rfl⟩
  replace hm : m ≤ 500 := hm
  exact st_retR (ev_lcY (b := DV.int) (as := List.range (m + 1)) (a := fun k : Nat => DV.int (k : Int)) (fun k => Bu.sumK (Bu.wantsOf rs) (Bu.swingsOf rs) k) (it_range (n := m + 1) (EvD.is (ev_addI (ev_var rfl) ev_int) rfl) (by omega)) (by rw [List.length_range]; omega) (by decide) fun k _ => ⟨_, tg_name, (ev_addI (ev_p_wants (ev_var rfl)) (ev_cb1 (ev_takT (ev_fn (ea_cons (ev_var rfl) ea_nil) (⟨rs, ok, rfl, rfl⟩)) (ev_var rfl)) rc_sumT))⟩)
abbrev walkD (b : Int) (rs : List Int) (x : Int) : DV := .tup [.int (Bu.lvl b rs x), .int (Bu.bgt b rs x), .int (lostR b rs x)]
def F__law_walk : List DV → DV → Prop := mkF (fun x : List Int × Int × Int => 0 ≤ x.2.1) (fun x => [.tup (dis x.1), .int x.2.1, .int x.2.2]) fun x => walkD x.2.1 x.1 x.2.2
theorem fn__law_walk (L : Loc K mg C D) : FA K C P w mg base "_law_walk" 1 F__law_walk := by
  obtain ⟨f, fd, F, hm⟩ := L.l__law_walk
  refine fnat_of hm F (fnr_of F sc__law_walk (fun _ _ _ _ _ _ us h => ?_) _ (fun ds d ⟨x, _, e, _⟩ => by rw [e]; rfl) ?_)
  · obtain ⟨a, b, c, rfl⟩ := three_of h
    rfl
  intro cdv A outer s H E hr
  refine ⟨_, (pss_cons (ps_asg (pe_tup (pa_cons pe_int (pa_cons pe_int pa_nil))) (pg_tup rfl (pgs_cons (pg_name (i := 3) sc__law_walk.nd rfl (Or.inl rfl)) (pgs_cons (pg_name (i := 4) sc__law_walk.nd rfl (Or.inl rfl)) pgs_nil))))
    (pss_cons (ps_for PassesOwn.never rfl (k_itup (K := K) rfl (pv 0)) (pg_name (i := 5) sc__law_walk.nd rfl (Or.inl rfl)) (pss_cons (ps_set (i := 2) sc__law_walk.nd rfl (Or.inl rfl) (pe_op (k_add (K := K) rfl) (pv 2) (pv 5)))
    (pss_cons (ps_if (pt_cmpR op_lt (pv 2) pe_int (nomark _)) (pss_one (ps_par (i := 3) (j := 2) rfl sc__law_walk.nd rfl rfl (by decide) rfl rfl (pa_cons (pe_op op_sub (pv 3) (pv 2)) (pa_cons pe_int pa_nil)) (by rfl))) pss_nil)
    (pss_one (ps_if (pt_cmpR op_gt (pv 2) (pv 1) (nomark _)) (pss_one (ps_par (i := 4) (j := 2) rfl sc__law_walk.nd rfl rfl (by decide) rfl rfl (pa_cons (pe_op op_sub (pe_op (k_add (K := K) rfl) (pv 4) (pv 2)) (pv 1)) (pa_cons (pv 1) pa_nil)) (by rfl))) pss_nil)))))
    (pss_one (ps_ret (pe_tup (pa_cons (pv 2) (pa_cons (pv 3) (pa_cons (pv 4) pa_nil)))))))), ?_⟩
  rintro ds d ⟨⟨rs, b, x⟩, hb, rfl, rfl⟩
  replace hb : 0 ≤ b := hb
  show StD K C _ _ (fun _ => walkD b rs x = .non) (fun r => r = walkD b rs x)
  refine st_letT (ev_tup (ea_cons ev_int (ea_cons ev_int ea_nil)) (Nat.le_of_ble_eq_true rfl)) (tg_tup rfl (tgs_cons tg_name (tgs_cons tg_name tgs_nil))) ?_
  refine st_seq (M := fun δ => ∃ o, δ = [some (.tup (dis rs)), some (.int b), some (.int (Bu.lvl b rs x)), some (.int (Bu.bgt b rs x)), some (.int (lostR b rs x)), o]) (st_for (fun i δ => ∃ o, δ = [some (.tup (dis rs)), some (.int b), some (.int (Bu.lvl b (rs.take i) x)), some (.int (Bu.bgt b (rs.take i) x)), some (.int (lostR b (rs.take i) x)), o]) (it_tup (ev_var rfl)) ⟨none, rfl⟩ ?_ ?_) ?_
  · rintro i d δ1 hi ⟨o, rfl⟩
    rw [List.getElem?_map] at hi
    obtain ⟨r, hr, rfl⟩ := Option.map_eq_some_iff.mp hi
    have hn : rs.take (i + 1) = rs.take i ++ [r] := by rw [List.take_add_one, hr]; rfl
    rw [hn, Bu.lvl_append, Bu.bgt_append, lost_append]
    generalize Bu.lvl b (rs.take i) x = h
    generalize Bu.bgt b (rs.take i) x = u
    generalize lostR b (rs.take i) x = v
    have e1 : Bu.lvl b [r] h = Bu.clamp b (h + r) := rfl
    have e2 : Bu.bgt b [r] h = max 0 (-(h + r)) + 0 := rfl
    have e3 : lostR b [r] h = max 0 (h + r - b) + 0 := rfl
    rw [e1, e2, e3]
    refine ⟨_, _, tg_name, ?_⟩
    refine st_let (ev_addI (ev_var rfl) (ev_var rfl)) ?_
    refine st_cond (b := decide (h + r < 0)) (et_test (ev_ltI (ev_var rfl) ev_int)) (δ1 := [some (.tup (dis rs)), some (.int b), some (.int 0), some (.int (u - (h + r))), some (.int v), some (.int r)]) (fun _ => st_par1 (ea_cons (ev_subI (ev_var rfl) (ev_var rfl)) (ea_cons ev_int ea_nil)) rfl) (fun _ => st_next rfl) ?_
    by_cases k : h + r < 0
    · rw [decide_eq_true k, if_pos rfl]
      refine st_if (b := false) (EvT.is (et_test (ev_gtI (ev_var rfl) (ev_var rfl))) (decide_eq_false (by omega))) (fun z => by cases z) fun _ => st_next ⟨some (.int r), ?_⟩
      have c1 : Bu.clamp b (h + r) = 0 := by unfold Bu.clamp; omega
      rw [c1, show u + (max 0 (-(h + r)) + 0) = u - (h + r) by omega, show v + (max 0 (h + r - b) + 0) = v by omega]
    · rw [decide_eq_false k, if_neg (by decide)]
      refine st_if (b := decide (b < h + r)) (et_test (ev_gtI (ev_var rfl) (ev_var rfl))) (fun z => ?_) fun z => ?_
      · have z' := of_decide_eq_true z
        refine st_par1 (ea_cons (ev_subI (ev_addI (ev_var rfl) (ev_var rfl)) (ev_var rfl)) (ea_cons (ev_var rfl) ea_nil)) ⟨some (.int r), ?_⟩
        have c1 : Bu.clamp b (h + r) = b := by unfold Bu.clamp; omega
        rw [c1, show u + (max 0 (-(h + r)) + 0) = u by omega, show v + (max 0 (h + r - b) + 0) = v + (h + r) - b by omega]
        rfl
      · have z' := of_decide_eq_false z
        refine st_next ⟨some (.int r), ?_⟩
        have c1 : Bu.clamp b (h + r) = h + r := by unfold Bu.clamp; omega
        rw [c1, show u + (max 0 (-(h + r)) + 0) = u by omega, show v + (max 0 (h + r - b) + 0) = v by omega]
        rfl
  · rintro δ1 ⟨o, rfl⟩
    rw [List.length_map, List.take_length]
    exact ⟨o, rfl⟩
  · rintro δ1 ⟨o, rfl⟩
    exact st_retR (ev_tup (ea_cons (ev_var rfl) (ea_cons (ev_var rfl) (ea_cons (ev_var rfl) ea_nil))) (Nat.le_of_ble_eq_true rfl))
abbrev longD (b : Nat) (rs : List Int) : DV := .tup [.int (Bu.buy rs (b : Int)), .int (lostR (b : Int) rs (Bu.itr (b : Int) rs (b + 2)))]
def F__law_long : List DV → DV → Prop := mkF (fun x : List Int × Nat => YrOk x.1 ∧ x.2 ≤ 1000) (fun x => [.tup (dis x.1), .int (x.2 : Int)]) fun x => longD x.2 x.1
theorem fn__law_long (L : Loc K mg C D) : FA K C P w mg base "_law_long" 2 F__law_long := by
  obtain ⟨f, fd, F, hm⟩ := L.l__law_long
  refine fnat_of hm F (fnr_of F sc__law_long (fun _ _ _ _ _ _ us h => ?_) _ (fun ds d ⟨x, _, e, _⟩ => by rw [e]; rfl) ?_)
  · obtain ⟨a, b, rfl⟩ := two_of h
    rfl
  intro cdv A outer s H E hr
  refine ⟨_, (pss_cons (ps_asg (pe_tup (pa_cons pe_int (pa_cons (pe_tup (pa_cons pe_int (pa_cons pe_int pa_nil))) pa_nil))) (pg_tup rfl (pgs_cons (pg_name (i := 2) sc__law_long.nd rfl (Or.inl rfl)) (pgs_cons (pg_name (i := 3) sc__law_long.nd rfl (Or.inl rfl)) pgs_nil))))
    (pss_cons (ps_for PassesOwn.never rfl (pi_range1 (by rfl) L.b_range (pa_cons (pe_op (k_add (K := K) rfl) (pv 1) pe_int) pa_nil)) (pg_name (i := 4) sc__law_long.nd rfl (Or.inl rfl)) (pss_cons (ps_asg (pe_fn (fn__law_walk L) hr (by decide) (by rfl) (pa_cons (pv 0) (pa_cons (pv 1) (pa_cons (pv 2) pa_nil)))) (pg_tup rfl (pgs_cons (pg_name (i := 2) sc__law_long.nd rfl (Or.inl rfl)) (pgs_cons (pg_name (i := 5) sc__law_long.nd rfl (Or.inl rfl)) (pgs_cons (pg_name (i := 6) sc__law_long.nd rfl (Or.inl rfl)) pgs_nil)))))
    (pss_one (ps_set (i := 3) sc__law_long.nd rfl (Or.inl rfl) (pe_tup (pa_cons (pv 5) (pa_cons (pv 6) pa_nil)))))))
    (pss_one (ps_ret (pv 3))))), ?_⟩
  rintro ds d ⟨⟨rs, b⟩, ⟨ok, hb⟩, rfl, rfl⟩
  replace hb : b ≤ 1000 := hb
  show StD K C _ _ (fun _ => longD b rs = .non) (fun r => r = longD b rs)
  refine st_letT (ev_tup (ea_cons ev_int (ea_cons (ev_tup (ea_cons ev_int (ea_cons ev_int ea_nil)) (Nat.le_of_ble_eq_true rfl)) ea_nil)) (Nat.le_of_ble_eq_true rfl)) (tg_tup rfl (tgs_cons tg_name (tgs_cons tg_name tgs_nil))) ?_
  refine st_seq (M := fun δ => ∃ o1 o2 o3, δ = [some (.tup (dis rs)), some (.int (b : Int)), some (.int (Bu.itr (b : Int) rs (b + 3))), some (longD b rs), o1, o2, o3]) (st_for (fun i δ => ∃ t o1 o2 o3, δ = [some (.tup (dis rs)), some (.int (b : Int)), some (.int (Bu.itr (b : Int) rs i)), some t, o1, o2, o3] ∧ ∀ j, i = j + 1 → t = .tup [.int (Bu.bgt (b : Int) rs (Bu.itr (b : Int) rs j)), .int (lostR (b : Int) rs (Bu.itr (b : Int) rs j))]) (it_range (n := b + 3) (EvD.is (ev_addI (ev_var rfl) ev_int) rfl) (by omega)) ⟨_, none, none, none, rfl, fun j h => by omega⟩ ?_ ?_) ?_
  · rintro i d δ1 hi ⟨t, o1, o2, o3, rfl, _⟩
    refine ⟨_, _, tg_name, ?_⟩
    refine st_letT (ev_fn (ea_cons (ev_var rfl) (ea_cons (ev_var rfl) (ea_cons (ev_var rfl) ea_nil))) (⟨(rs, (b : Int), Bu.itr (b : Int) rs i), Int.natCast_nonneg b, rfl, rfl⟩)) (tg_tup rfl (tgs_cons tg_name (tgs_cons tg_name (tgs_cons tg_name tgs_nil)))) ?_
    refine st_let1 (ev_tup (ea_cons (ev_var rfl) (ea_cons (ev_var rfl) ea_nil)) (Nat.le_of_ble_eq_true rfl)) ⟨_, _, _, _, rfl, fun j h => ?_⟩
    have e : i = j := by omega
    rw [e]
  · rintro δ1 ⟨t, o1, o2, o3, rfl, ht⟩
    rw [List.length_map, List.length_range] at ht
    refine ⟨o1, o2, o3, ?_⟩
    rw [List.length_map, List.length_range, ht (b + 2) rfl, Bu.long_run ok.1 ok.2.1 (Int.natCast_nonneg b) (by omega)]
  · rintro δ1 ⟨o1, o2, o3, rfl⟩
    exact st_retR (ev_var rfl)
end
end Dt
set_option Elab.async false
set_option linter.all false
set_option maxRecDepth 100000
set_option maxHeartbeats 4000000
/-! _law_same of a thing and its like. -/
namespace Dt
open PySem PySem.Spec PyProof.Rows L2
open Evl (Ex)
section
variable {K : Frag} {C : Addr} {δ : Den} {d d1 d2 d3 : DV} {ta tb tc : TE} {u : TS} {N : Den → Prop} {R : DV → Prop} {i j l : Nat}
theorem reps3 {H : Hp} {vs : List V} (r : Reps K C H vs [d1, d2, d3]) : ∃ u v w, vs = [u, v, w] ∧ Rep K C H u d1 ∧ Rep K C H v d2 ∧ Rep K C H w d3 := by
  cases r with
  | cons h r =>
    obtain ⟨v, w, e, h2, h3⟩ := reps2 r
    rw [e]
    exact ⟨_, _, _, rfl, h, h2, h3⟩
theorem st_par3 {t : TA} (ha : EvA K C t δ [d1, d2, d3]) (k : StD K C u (((δ.set i (some d1)).set j (some d2)).set l (some d3)) N R) : StD K C (tSeq (tPar3 i j l t) u) δ N R := fun O σ H D gd e q1 q2 =>
  ha O σ H (fun vs H1 => ∃ u' v w, vs = [u', v, w] ∧ u D (((σ.set i (some u')).set j (some v)).set l (some w)) H1) gd e fun vs H1 x r => by
    obtain ⟨a, b, c, rfl, r1, r2, r3⟩ := reps3 r
    exact ⟨a, b, c, rfl, k O _ H1 D (gd.ex x) ((((e.up x).set r1).set r2).set r3) (fun δ2 σ2 H2 n x2 => q1 δ2 σ2 H2 n (x.trans x2)) fun d v H2 r x2 => q2 d v H2 r (x.trans x2)⟩
theorem ev_eqX (ha : EvD K C ta δ d) (hb : EvD K C tb δ d) (sc : scD d = true) : EvD K C (tOp rEq ta tb) δ (.bl true) := ev_op ha hb fun O H x y Q _ r1 r2 q => by
  cases r1 with
  | non => cases r2; exact ⟨rfl, by rw [decide_eq_true rfl]; exact q _ H (Evl.Ex.refl H) (.bl _)⟩
  | bl b => cases r2; exact ⟨rfl, by rw [decide_eq_true rfl]; exact q _ H (Evl.Ex.refl H) (.bl _)⟩
  | int n => cases r2; exact ⟨rfl, by rw [decide_eq_true rfl]; exact q _ H (Evl.Ex.refl H) (.bl _)⟩
  | str x => cases r2; exact ⟨rfl, by rw [decide_eq_true rfl]; exact q _ H (Evl.Ex.refl H) (.bl _)⟩
  | tup => cases sc
  | lst => cases sc
  | yr => cases sc
  | hf => cases sc
  | adr => cases sc
  | wd => cases sc
  | wt => cases sc
  | lf => cases sc
end
def okS : Nat → DV → Bool
  | _, .non => true
  | _, .bl _ => true
  | _, .int _ => true
  | _, .str _ => true
  | n + 1, .tup ds => decide (ds.length ≤ 100) && ds.all (okS n)
  | n + 1, .lst ds => decide (ds.length ≤ 100) && ds.all (okS n)
  | _, _ => false
def F_same : Nat → List DV → DV → Prop
  | 0 => fun _ _ => False
  | n + 1 => mkF (fun x : DV => okS n x = true) (fun x => [x, x]) fun _ => .bl true
theorem zip_self (ds : List DV) : zipD ds ds = ds.map fun d => .tup [d, d] := by
  unfold zipD
  induction ds with
  | nil => rfl
  | cons d ds ih => rw [List.zip_cons_cons, List.map_cons, ih]; rfl
section
variable {P : Program} {w : World} {K : Frag} {mg : Str → Option Value} {base : Heap} {C D : Addr}
theorem fn_same (L : Loc K mg C D) : ∀ n, FA K C P w mg base "_law_same" n (F_same n)
  | 0 => by
    obtain ⟨f, fd, F, hm⟩ := L.l__law_same
    refine fnat_of hm F ?_
    intro A outer s H us vs Q E hr e0 r h
    obtain ⟨_, _, _, _, h, _⟩ := h
    exact h.elim
  | n + 1 => by
    have IH := fn_same L n
    obtain ⟨f, fd, F, hm⟩ := L.l__law_same
    refine fnat_of hm F (fnr_of F sc__law_same (fun _ _ _ _ _ _ us h => ?_) _ (fun ds d ⟨x, _, e, _⟩ => by rw [e]; rfl) ?_)
    · obtain ⟨a, b, rfl⟩ := two_of h
      rfl
    intro cdv A outer s H E hr
    refine ⟨_, (pss_cons (ps_if (pt_val (pe_callB (k_isiT (K := K) rfl) (by rfl) L.b_isinstance bb_isinstance (pa_cons (pv 1) (pa_cons (pe_tup (pa_cons (pe_bltn (v := .ty "list") (by rfl) L.b_list bb_list rfl) (pa_cons (pe_bltn (v := .ty "tuple") (by rfl) L.b_tuple bb_tuple rfl) pa_nil))) pa_nil)))) (pss_cons (ps_if (pt_cmpR op_ne (pe_callB (k_isi (K := K) rfl) (by rfl) L.b_isinstance bb_isinstance (pa_cons (pv 0) (pa_cons (pe_bltn (v := .ty "list") (by rfl) L.b_list bb_list rfl) pa_nil))) (pe_callB (k_isi (K := K) rfl) (by rfl) L.b_isinstance bb_isinstance (pa_cons (pv 1) (pa_cons (pe_bltn (v := .ty "list") (by rfl) L.b_list bb_list rfl) pa_nil))) (nomark _)) (pss_one (ps_ret pe_bl)) pss_nil)
    (pss_cons (ps_if (pt_cmpR op_ne (pe_callB (k_isi (K := K) rfl) (by rfl) L.b_isinstance bb_isinstance (pa_cons (pv 0) (pa_cons (pe_bltn (v := .ty "tuple") (by rfl) L.b_tuple bb_tuple rfl) pa_nil))) (pe_callB (k_isi (K := K) rfl) (by rfl) L.b_isinstance bb_isinstance (pa_cons (pv 1) (pa_cons (pe_bltn (v := .ty "tuple") (by rfl) L.b_tuple bb_tuple rfl) pa_nil))) (nomark _)) (pss_one (ps_ret pe_bl)) pss_nil)
    (pss_one (ps_ret (pe_and (pe_cmpR op_eq (pe_callB (k_lenS (K := K) rfl) (by rfl) L.b_len bb_len (pa_cons (pv 0) pa_nil)) (pe_callB (k_lenS (K := K) rfl) (by rfl) L.b_len bb_len (pa_cons (pv 1) pa_nil)) (nomark _)) (pe_one (pe_callB (k_all (K := K) rfl rfl) (by rfl) L.b_all bb_all (pa_cons (pe_lc (own := [("_law_mine", 3), ("_law_its", 4)]) (g := (gTup K 2 (gCons (gName 3) (gCons (gName 4) gNil)))) (tt := tYes) rfl sc__law_same.nd (k_izip (K := K) rfl (by rfl) L.b_zip (pa_cons (pv 0) (pa_cons (pv 1) pa_nil))) (blkOk_by (N := ["_law_got", "_law_due", "_law_alike_so", "_law_mine", "_law_its"]) (sc := defScope s__law_same) (by decide +kernel)) (fun _ _ _ _ _ => (pg_tup rfl (pgs_cons (pg_name (i := 3) sc__law_same.nd rfl (Or.inl rfl)) (pgs_cons (pg_name (i := 4) sc__law_same.nd rfl (Or.inl rfl)) pgs_nil)))) (fun _ _ _ _ _ => pts_nil) (fun _ _ _ _ _ => (pe_fn IH hr (Nat.le_refl _) (by rfl) (pa_cons (pv 3) (pa_cons (pv 4) pa_nil))))) pa_nil)))))))) pss_nil)
    (pss_cons (ps_if (PW.pt (pw_or (pt_cmp (pc_isN (pv 1))) (pw_or1 (pt_val (pe_callB (k_isiT (K := K) rfl) (by rfl) L.b_isinstance bb_isinstance (pa_cons (pv 1) (pa_cons (pe_tup (pa_cons (pe_bltn (v := .ty "bool") (by rfl) L.b_bool bb_bool rfl) (pa_cons (pe_bltn (v := .ty "str") (by rfl) L.b_str bb_str rfl) pa_nil))) pa_nil))))))) (pss_cons (ps_set (i := 2) sc__law_same.nd rfl (Or.inl rfl) (pe_and (pe_cmpR op_eq (pe_callB (k_isi (K := K) rfl) (by rfl) L.b_isinstance bb_isinstance (pa_cons (pv 0) (pa_cons (pe_bltn (v := .ty "bool") (by rfl) L.b_bool bb_bool rfl) pa_nil))) (pe_callB (k_isi (K := K) rfl) (by rfl) L.b_isinstance bb_isinstance (pa_cons (pv 1) (pa_cons (pe_bltn (v := .ty "bool") (by rfl) L.b_bool bb_bool rfl) pa_nil))) (nomark _)) (pe_one (pe_cmpR op_eq (pe_cmp (pc_isN (pv 0))) (pe_cmp (pc_isN (pv 1))) (nomark _)))))
    (pss_one (ps_ret (pe_and (pv 2) (pe_one (pe_cmpR op_eq (pv 0) (pv 1) (nomark _))))))) pss_nil)
    (pss_one (ps_ret (pe_and (pe_callB (k_isi (K := K) rfl) (by rfl) L.b_isinstance bb_isinstance (pa_cons (pv 0) (pa_cons (pe_bltn (v := .ty "int") (by rfl) L.b_int bb_int rfl) pa_nil))) (pe_and (pe_not (pe_callB (k_isi (K := K) rfl) (by rfl) L.b_isinstance bb_isinstance (pa_cons (pv 0) (pa_cons (pe_bltn (v := .ty "bool") (by rfl) L.b_bool bb_bool rfl) pa_nil)))) (pe_one (pe_cmpR op_eq (pv 0) (pv 1) (nomark _))))))))), ?_⟩
    rintro ds d ⟨x, hx, rfl, rfl⟩
    replace hx : okS n x = true := hx
    cases x with
    | non =>
      refine st_when (b := false) (EvT.is (et_B (ev_isi2 (ev_var rfl) rfl rfl rfl)) rfl) (fun h => by cases h) fun _ => ?_
      refine st_when (b := true) (et_or (a := true) (b := true) (EvT.is (et_B (ev_isN (ev_var rfl))) rfl) fun h => by cases h) (fun _ => ?_) fun h => by cases h
      refine st_let (d := .bl true) (EvD.is (ev_andV (ev_eqB (ev_isi (ev_var rfl) rfl rfl) (ev_isi (ev_var rfl) rfl rfl)) fun h_ => (ev_eqB (ev_isN (ev_var rfl)) (ev_isN (ev_var rfl)))) rfl) ?_
      exact st_retR (EvD.is (ev_andV (ev_var rfl) fun _ => ev_eqX (ev_var rfl) (ev_var rfl) rfl) rfl)
    | bl b =>
      refine st_when (b := false) (EvT.is (et_B (ev_isi2 (ev_var rfl) rfl rfl rfl)) rfl) (fun h => by cases h) fun _ => ?_
      refine st_when (b := true) (et_or (a := false) (b := true) (EvT.is (et_B (ev_isN (ev_var rfl))) rfl) fun _ => EvT.is (et_B (ev_isi2 (ev_var rfl) rfl rfl rfl)) rfl) (fun _ => ?_) fun h => by cases h
      refine st_let (d := .bl true) (EvD.is (ev_andV (ev_eqB (ev_isi (ev_var rfl) rfl rfl) (ev_isi (ev_var rfl) rfl rfl)) fun h_ => (ev_eqB (ev_isN (ev_var rfl)) (ev_isN (ev_var rfl)))) rfl) ?_
      exact st_retR (EvD.is (ev_andV (ev_var rfl) fun _ => ev_eqX (ev_var rfl) (ev_var rfl) rfl) rfl)
    | str t =>
      refine st_when (b := false) (EvT.is (et_B (ev_isi2 (ev_var rfl) rfl rfl rfl)) rfl) (fun h => by cases h) fun _ => ?_
      refine st_when (b := true) (et_or (a := false) (b := true) (EvT.is (et_B (ev_isN (ev_var rfl))) rfl) fun _ => EvT.is (et_B (ev_isi2 (ev_var rfl) rfl rfl rfl)) rfl) (fun _ => ?_) fun h => by cases h
      refine st_let (d := .bl true) (EvD.is (ev_andV (ev_eqB (ev_isi (ev_var rfl) rfl rfl) (ev_isi (ev_var rfl) rfl rfl)) fun h_ => (ev_eqB (ev_isN (ev_var rfl)) (ev_isN (ev_var rfl)))) rfl) ?_
      exact st_retR (EvD.is (ev_andV (ev_var rfl) fun _ => ev_eqX (ev_var rfl) (ev_var rfl) rfl) rfl)
    | int i =>
      refine st_when (b := false) (EvT.is (et_B (ev_isi2 (ev_var rfl) rfl rfl rfl)) rfl) (fun h => by cases h) fun _ => ?_
      refine st_when (b := false) (et_or (a := false) (b := false) (EvT.is (et_B (ev_isN (ev_var rfl))) rfl) fun _ => EvT.is (et_B (ev_isi2 (ev_var rfl) rfl rfl rfl)) rfl) (fun h => by cases h) fun _ => ?_
      exact st_retR (EvD.is (ev_andV (ev_isi (ev_var rfl) rfl rfl) fun _ => ev_andV (ev_notV (ev_isi (ev_var rfl) rfl rfl)) fun _ => ev_eqX (ev_var rfl) (ev_var rfl) rfl) rfl)
    | tup es =>
      cases n with
      | zero => exact nomatch hx
      | succ m =>
        have hx2 : decide (es.length ≤ 100) = true ∧ es.all (okS m) = true := Bool.and_eq_true_iff.mp hx
        have hl : es.length ≤ 100 := of_decide_eq_true hx2.1
        refine st_when (b := true) (EvT.is (et_B (ev_isi2 (ev_var rfl) rfl rfl rfl)) rfl) (fun _ => ?_) fun h => by cases h
        refine st_when (b := false) (EvT.is (et_test (ev_neB (ev_isi (ev_var rfl) rfl rfl) (ev_isi (ev_var rfl) rfl rfl))) rfl) (fun h => by cases h) fun _ => ?_
        refine st_when (b := false) (EvT.is (et_test (ev_neB (ev_isi (ev_var rfl) rfl rfl) (ev_isi (ev_var rfl) rfl rfl))) rfl) (fun h => by cases h) fun _ => ?_
        refine st_retR (EvD.is (ev_andV (ev_eqI (ev_cb1 (ev_var rfl) (rc_len (.inr rfl))) (ev_cb1 (ev_var rfl) (rc_len (.inr rfl)))) fun _ => ev_cb1 (ev_lcY (b := DV.bl) (as := es) (a := fun d => DV.tup [d, d]) (fun _ => true) (ItD.is (it_zipT (ev_var rfl) (ev_var rfl)) (zip_self es)) (by omega) (by decide) fun d hd => ⟨_, tg_tup rfl (tgs_cons tg_name (tgs_cons tg_name tgs_nil)), (ev_fn (ea_cons (ev_var rfl) (ea_cons (ev_var rfl) ea_nil)) (⟨d, List.all_eq_true.mp hx2.2 d hd, rfl, rfl⟩))⟩) rc_all) ?_)
        rw [decide_eq_true rfl, Bool.true_and, all_bl]
        congr 1
        exact List.all_eq_true.mpr fun _ _ => rfl
    | lst es =>
      cases n with
      | zero => exact nomatch hx
      | succ m =>
        have hx2 : decide (es.length ≤ 100) = true ∧ es.all (okS m) = true := Bool.and_eq_true_iff.mp hx
        have hl : es.length ≤ 100 := of_decide_eq_true hx2.1
        refine st_when (b := true) (EvT.is (et_B (ev_isi2 (ev_var rfl) rfl rfl rfl)) rfl) (fun _ => ?_) fun h => by cases h
        refine st_when (b := false) (EvT.is (et_test (ev_neB (ev_isi (ev_var rfl) rfl rfl) (ev_isi (ev_var rfl) rfl rfl))) rfl) (fun h => by cases h) fun _ => ?_
        refine st_when (b := false) (EvT.is (et_test (ev_neB (ev_isi (ev_var rfl) rfl rfl) (ev_isi (ev_var rfl) rfl rfl))) rfl) (fun h => by cases h) fun _ => ?_
        refine st_retR (EvD.is (ev_andV (ev_eqI (ev_cb1 (ev_var rfl) (rc_len (.inl rfl))) (ev_cb1 (ev_var rfl) (rc_len (.inl rfl)))) fun _ => ev_cb1 (ev_lcY (b := DV.bl) (as := es) (a := fun d => DV.tup [d, d]) (fun _ => true) (ItD.is (it_zipL (ev_var rfl) (ev_var rfl)) (zip_self es)) (by omega) (by decide) fun d hd => ⟨_, tg_tup rfl (tgs_cons tg_name (tgs_cons tg_name tgs_nil)), (ev_fn (ea_cons (ev_var rfl) (ea_cons (ev_var rfl) ea_nil)) (⟨d, List.all_eq_true.mp hx2.2 d hd, rfl, rfl⟩))⟩) rc_all) ?_)
        rw [decide_eq_true rfl, Bool.true_and, all_bl]
        congr 1
        exact List.all_eq_true.mpr fun _ _ => rfl
    | yr => exact absurd hx (by cases n <;> exact fun z => nomatch z)
    | hf => exact absurd hx (by cases n <;> exact fun z => nomatch z)
    | adr => exact absurd hx (by cases n <;> exact fun z => nomatch z)
    | wd => exact absurd hx (by cases n <;> exact fun z => nomatch z)
    | wt => exact absurd hx (by cases n <;> exact fun z => nomatch z)
    | lf => exact absurd hx (by cases n <;> exact fun z => nomatch z)
end
end Dt
set_option Elab.async false
set_option linter.all false
set_option maxRecDepth 100000
set_option maxHeartbeats 4000000
/-! The words of two heaps; what the law asks of two years. -/
namespace Dt
open PySem PySem.Spec PyProof.Rows L2
open Evl (Ex)
open Bu (Span)
/-- d[k], k any tuple of truth values -/
def rWd (K : Frag) : R2 := fun x y H Q => ∃ (d T : Addr) (kvs : List BKey) (ks : List Bool) (v : BKey), x = .ref d ∧ y = .ref T ∧ H d = some (BDO d kvs) ∧ BK H kvs ∧ SqT K H T (ks.map V.bl) ∧ kvs.find? (fun k => decide (k.1 = ks)) = some v ∧ Q (.str v.2.2) H
theorem ix_w {X : Cx} {K : Frag} (h : X.K = K) (hu : X.A.units + 64 < cLine) : IxR X (rWd K) := by
  subst h
  intro value slice pins s σ H x y v u Q I rx ry h hs
  obtain ⟨d, T, kvs, ks, w, rfl, rfl, hd, bk, hT, hf, q⟩ := h
  obtain rfl : v = Value.ref d := rx
  obtain rfl : u = Value.ref T := ry
  have b : BD kvs s.heap d := (I.hok _ _ hd).1
  obtain ⟨xs, dd, r⟩ := bd_dict (P := X.prog) (w := X.w) I.hok b bk
  obtain ⟨p, t, hp, e⟩ := find_pair r hf
  obtain ⟨its, rv, tp, _⟩ := I.tuple hT
  have key : (tupleKind (PpSet.boolK X.prog X.w)).is s.heap ks T := by
    obtain ⟨o, ho, hc, n, hdt⟩ := (show s.heap.IsTuple T its.toArray from tp)
    exact ⟨o, its.toArray, n, ho, hc, hdt, by simpa using items_bl rv⟩
  refine tail_any dd.typeIs slot_dict_getitem.lookup (wpAny_getItem_heap (tupleKind_room_in1 (by omega)) key dd hp ?_) hs
  rw [e]
  exact ⟨.str w.2.2, H, I.tok _, ⟨t, rfl⟩, q⟩
section
variable {K : Frag} {C : Addr} {δ : Den} {d : DV} {ta tb : TE}
theorem ev_word {x y : Bool} (ha : EvD K C ta δ .wd) (hb : EvD K C tb δ (.tup [.bl x, .bl y])) : EvD K C (tOp (rWd K) ta tb) δ (.str (cmpS x y)) := ev_op ha hb fun O H u v Q g r1 r2 q => by
  cases r1.sub with
  | wd hd bk e =>
    rename_i d kvs
    cases r2 with
    | tup hq hr =>
      rename_i T us
      have eu := Reps.bls_eq (bs := [x, y]) hr
      subst eu
      have hf : ∃ w, kvs.find? (fun k => decide (k.1 = [x, y])) = some w ∧ w.2.2 = cmpS x y := by
        have hl : kvs.length = 4 := by
          have z := congrArg List.length e
          rw [List.length_map] at z
          exact z
        obtain ⟨k1, k2, k3, k4, rfl⟩ := four_of hl
        unfold wordL at e
        simp only [List.map_cons, List.map_nil, List.cons.injEq, Prod.mk.injEq, and_true] at e
        obtain ⟨⟨a1, b1⟩, ⟨a2, b2⟩, ⟨a3, b3⟩, a4, b4⟩ := e
        cases x <;> cases y <;> simp [List.find?_cons, a1, a2, a3, a4, b1, b2, b3, b4, cmpS]
      obtain ⟨w, hw, ew⟩ := hf
      exact ⟨d, T, kvs, [x, y], w, rfl, rfl, hd, bk, Evl.ex_t msk_sub hq, hw, by rw [ew]; exact q _ H (Evl.Ex.refl H) (.str _)⟩
abbrev tKey (x y : Bool) : TE := tTup (tCons (tC (.bl x)) (tCons (tC (.bl y)) tNil))
theorem pair_step {x y : Bool} {t : Str} {r : List (TE × TE)} {σ : L2.St} {H : Hp} {Q : List (V × V) → Hp → Prop} (h : ∀ T, H T = none → tPairs r σ (upd H T (.tup [.bl x, .bl y])) fun ps H3 => Q ((.ref T, .str t) :: ps) H3) : tPairs ((tKey x y, tC (.str t)) :: r) σ H Q := ⟨(by show 2 ≤ sizeLine; decide), fun T hT => h T hT⟩
theorem ev_words : EvD K C (tBDict [(tKey true true, tC (.str "alike")), (tKey true false, tC (.str "less")), (tKey false true, tC (.str "more")), (tKey false false, tC (.str "apart"))]) δ .wd := fun O σ H Q g e q p hp => by
  refine pair_step fun T1 h1 => pair_step fun T2 h2 => pair_step fun T3 h3 => pair_step fun T4 h4 => ?_
  have n1 : T1 ≠ p := fun z => by rw [z, upd_same] at h1; cases h1
  have n2 : T2 ≠ T1 := fun z => by rw [z, upd_same] at h2; cases h2
  have n2p : T2 ≠ p := fun z => by rw [z, upd_ne (Ne.symm n1), upd_same] at h2; cases h2
  have n32 : T3 ≠ T2 := fun z => by rw [z, upd_same] at h3; cases h3
  have n31 : T3 ≠ T1 := fun z => by rw [z, upd_ne (Ne.symm n2), upd_same] at h3; cases h3
  have n3p : T3 ≠ p := fun z => by rw [z, upd_ne (Ne.symm n2p), upd_ne (Ne.symm n1), upd_same] at h3; cases h3
  have n43 : T4 ≠ T3 := fun z => by rw [z, upd_same] at h4; cases h4
  have n42 : T4 ≠ T2 := fun z => by rw [z, upd_ne (Ne.symm n32), upd_same] at h4; cases h4
  have n41 : T4 ≠ T1 := fun z => by rw [z, upd_ne (Ne.symm n31), upd_ne (Ne.symm n2), upd_same] at h4; cases h4
  have n4p : T4 ≠ p := fun z => by rw [z, upd_ne (Ne.symm n3p), upd_ne (Ne.symm n2p), upd_ne (Ne.symm n1), upd_same] at h4; cases h4
  have z1 : H T1 = none := by rw [upd_ne n1] at h1; exact h1
  have z2 : H T2 = none := by rw [upd_ne n2, upd_ne n2p] at h2; exact h2
  have z3 : H T3 = none := by rw [upd_ne n32, upd_ne n31, upd_ne n3p] at h3; exact h3
  have z4 : H T4 = none := by rw [upd_ne n43, upd_ne n42, upd_ne n41, upd_ne n4p] at h4; exact h4
  refine ⟨by rw [upd_ne (Ne.symm n4p), upd_ne (Ne.symm n3p), upd_ne (Ne.symm n2p), upd_ne (Ne.symm n1), upd_same], [([true, true], T1, "alike"), ([true, false], T2, "less"), ([false, true], T3, "more"), ([false, false], T4, "apart")], rfl, fun k hk => ?_, (by show ([[true, true], [true, false], [false, true], [false, false]] : List (List Bool)).Nodup; decide), (by show 4 ≤ 15; decide), ?_⟩
  · simp only [List.mem_cons, List.not_mem_nil, or_false] at hk
    rcases hk with rfl | rfl | rfl | rfl
    · show upd _ _ _ T1 = _
      rw [upd_ne (Ne.symm n41), upd_ne (Ne.symm n31), upd_ne (Ne.symm n2), upd_same]
      rfl
    · show upd _ _ _ T2 = _
      rw [upd_ne (Ne.symm n42), upd_ne (Ne.symm n32), upd_same]
      rfl
    · show upd _ _ _ T3 = _
      rw [upd_ne (Ne.symm n43), upd_same]
      rfl
    · show upd _ _ _ T4 = _
      rw [upd_same]
      rfl
  · have ex : Evl.Ex H (upd (upd (upd (upd (upd (upd H p (BDO p [])) T1 (.tup [.bl true, .bl true])) T2 (.tup [.bl true, .bl false])) T3 (.tup [.bl false, .bl true])) T4 (.tup [.bl false, .bl false])) p (BDO p [([true, true], T1, "alike"), ([true, false], T2, "less"), ([false, true], T3, "more"), ([false, false], T4, "apart")])) :=
      (((((Evl.Ex.refl H).mut hp).mut z1).mut z2).mut z3 |>.mut z4).mut hp
    have op : O p = false := g.new hp
    refine q _ _ ex (.wd (kvs := [([true, true], T1, "alike"), ([true, false], T2, "less"), ([false, true], T3, "more"), ([false, false], T4, "apart")]) (by rw [msk_at op, upd_same]) (fun k hk => ?_) rfl)
    simp only [List.mem_cons, List.not_mem_nil, or_false] at hk
    rcases hk with rfl | rfl | rfl | rfl
    · show msk O _ T1 = _
      rw [msk_at (g.new z1), upd_ne n1, upd_ne (Ne.symm n41), upd_ne (Ne.symm n31), upd_ne (Ne.symm n2), upd_same]
      rfl
    · show msk O _ T2 = _
      rw [msk_at (g.new z2), upd_ne n2p, upd_ne (Ne.symm n42), upd_ne (Ne.symm n32), upd_same]
      rfl
    · show msk O _ T3 = _
      rw [msk_at (g.new z3), upd_ne n3p, upd_ne (Ne.symm n43), upd_same]
      rfl
    · show msk O _ T4 = _
      rw [msk_at (g.new z4), upd_ne n4p, upd_same]
      rfl
end
end Dt
set_option Elab.async false
set_option linter.all false
set_option maxRecDepth 100000
set_option maxHeartbeats 8000000
/-! What the law asks of two years. -/
namespace Dt
open PySem PySem.Spec PyProof.Rows L2
open Evl (Ex)
open Bu (Span)
abbrev Top (rs : List Int) : Prop := ∀ x ∈ Bu.swingsOf rs, x ≤ 10 ^ 30
abbrev TwoOk (x : List Int × List Int) : Prop := YZ x ∧ Top x.1 ∧ Top x.2
theorem sums_all (a b : Hpr) : ((List.range (manyOf a b + 1)).map fun k => decide (Bu.sumK a.1 a.2 k ≤ Bu.sumK b.1 b.2 k)).all id = wi a b := by
  rw [List.all_map]
  show _ = ((List.range (max a.2.length b.2.length + 1)).filter fun k => decide (Bu.sumK b.1 b.2 k < Bu.sumK a.1 a.2 k)).isEmpty
  rw [Bool.eq_iff_iff, List.isEmpty_iff, List.filter_eq_nil_iff, List.all_eq_true]
  constructor
  · intro h k hk
    have := of_decide_eq_true (h k hk)
    simp only [decide_eq_true_eq]
    omega
  · intro h k hk
    have := h k hk
    simp only [decide_eq_true_eq] at this
    exact decide_eq_true (by omega)
theorem opp_hp {rs : List Int} (h : ∀ r ∈ rs, r ≠ 0) : spillOf (oppR rs) = hpOf rs := by
  unfold spillOf oppR hpOf
  rw [Bu.spare_opp, Bu.swings_opp h]
theorem opp_ok {rs : List Int} (ok : YrOk rs) : YrOk (oppR rs) := map_ok ok fun x h => by omega
theorem ok_spans (l : List Span) : okD 2 (.tup (l.map spnD)) = true := by
  show (l.map spnD).all (okD 1) = true
  rw [List.all_map]
  refine List.all_eq_true.mpr fun s _ => ?_
  obtain ⟨x, o⟩ := s
  cases o <;> rfl
theorem eqv_nil (l : List Span) : PyData.eqv (pd (.tup (l.map spnD))) (pd (.tup [])) = l.isEmpty := by
  cases l with
  | nil => simp [pd, pds, PyData.eqv, PyData.eqvAll]
  | cons s r => simp [pd, pds, PyData.eqv, PyData.eqvAll]
theorem ag_non (l : List Span) : isNon (agD l) = l.isEmpty := by cases l <;> rfl
section
variable {P : Program} {w : World} {K : Frag} {mg : Str → Option Value} {base : Heap} {C D : Addr}
theorem fn__law_same (L : Loc K mg C D) : FA K C P w mg base "_law_same" 4 (F_same 4) := fn_same L 4
def F__law_two_right : List DV → DV → Prop := mk2 TwoOk fun _ => .bl true
theorem fn__law_two_right (L : Loc K mg C D) : FA K C P w mg base "_law_two_right" 13 F__law_two_right := by
  obtain ⟨f, fd, F, hm⟩ := L.l__law_two_right
  refine fnat_of hm F (fnr_of F sc__law_two_right (fun _ _ _ _ _ _ us h => ?_) _ (fun ds d ⟨x, _, e, _⟩ => by rw [e]; rfl) ?_)
  · obtain ⟨a, b, rfl⟩ := two_of h
    rfl
  intro cdv A outer s H E hr
  refine ⟨_, (pss_cons (ps_set (i := 2) sc__law_two_right.nd rfl (Or.inl rfl) (pe_callB (call_max2 rfl) (by rfl) L.b_max bb_max (pa_cons (pe_callB (k_len (K := K) rfl L hr (by decide)) (by rfl) L.b_len bb_len (pa_cons (pe_fn (fn_swings L) hr (by decide) (by rfl) (pa_cons (pv 0) pa_nil)) pa_nil)) (pa_cons (pe_callB (k_len (K := K) rfl L hr (by decide)) (by rfl) L.b_len bb_len (pa_cons (pe_fn (fn_swings L) hr (by decide) (by rfl) (pa_cons (pv 1) pa_nil)) pa_nil)) pa_nil))))
    (pss_cons (ps_asg (pe_tup (pa_cons (pe_fn (fn__law_sums L) hr (by decide) (by rfl) (pa_cons (pv 0) (pa_cons (pv 2) pa_nil))) (pa_cons (pe_fn (fn__law_sums L) hr (by decide) (by rfl) (pa_cons (pv 1) (pa_cons (pv 2) pa_nil))) pa_nil))) (pg_tup rfl (pgs_cons (pg_name (i := 3) sc__law_two_right.nd rfl (Or.inr rfl)) (pgs_cons (pg_name (i := 4) sc__law_two_right.nd rfl (Or.inr rfl)) pgs_nil))))
    (pss_cons (ps_set (i := 5) sc__law_two_right.nd rfl (Or.inl rfl) (pe_callB (k_all (K := K) rfl rfl) (by rfl) L.b_all bb_all (pa_cons (pe_lc (own := [("_law_k", 15)]) (g := (gName 15)) (tt := tYes) rfl sc__law_two_right.nd (pi_range1 (by rfl) L.b_range (pa_cons (pe_op (k_add (K := K) rfl) (pv 2) pe_int) pa_nil)) (blkOk_by (N := ["_law_host", "_law_mate", "_law_many_so", "_law_one_so", "_law_two_so", "_law_fine_so", "_law_told", "_law_spans_so", "_law_high", "_law_got", "_law_first_so", "_law_last_so", "_law_ends_so", "_law_spot", "_law_word", "_law_k", "_law_far"]) (sc := defScope s__law_two_right) (by decide +kernel)) (fun _ _ _ _ _ => (pg_name (i := 15) sc__law_two_right.nd rfl (Or.inl rfl))) (fun _ _ _ _ _ => pts_nil) (fun _ _ _ _ _ => (pe_cmpR op_le (pe_ix (k_ix (K := K) rfl) (pv 3) (pv 15) (fun _ _ => rfl)) (pe_ix (k_ix (K := K) rfl) (pv 4) (pv 15) (fun _ _ => rfl)) (nomark _)))) pa_nil)))
    (pss_cons (ps_par3 (i := 6) (j := 7) (l := 8) rfl sc__law_two_right.nd rfl rfl rfl (by decide) (by decide) (by decide) rfl rfl rfl (pa_cons (pe_fn (fn_against L) hr (by decide) (by rfl) (pa_cons (pv 0) (pa_cons (pv 1) pa_nil))) (pa_cons (pe_fn (fn_spans_against L) hr (by decide) (by rfl) (pa_cons (pv 0) (pa_cons (pv 1) pa_nil))) (pa_cons (pe_fn (fn_most_more L) hr (by decide) (by rfl) (pa_cons (pv 0) (pa_cons (pv 1) pa_nil))) pa_nil))) (by rfl))
    (pss_cons (ps_set (i := 9) sc__law_two_right.nd rfl (Or.inl rfl) (pe_lst (pa_cons (pe_fn (fn_never_more L) hr (by decide) (by rfl) (pa_cons (pv 0) (pa_cons (pv 1) pa_nil))) (pa_cons (pe_cmp (pc_isN (pv 6))) (pa_cons (pe_cmpR (k_eqD (K := K) rfl (units_of hr)) (pv 7) (pe_tup pa_nil) (nomark _)) (pa_cons (pe_cmpR op_le (pv 8) pe_int (nomark _)) pa_nil))))))
    (pss_cons (ps_if (pt_not (pt_val (pe_fn (fn__law_same L) hr (by decide) (by rfl) (pa_cons (pv 9) (pa_cons (pe_op (k_mul (K := K) rfl) (pe_lst (pa_cons (pv 5) pa_nil)) pe_int) pa_nil))))) (pss_one (ps_ret pe_bl)) pss_nil)
    (pss_cons (ps_if (PW.pt (pw_and (pt_cmp (pc_notN (pv 6))) (pw_and1 (pt_not (pt_val (pe_fn (fn_is_against L) hr (by decide) (by rfl) (pa_cons (pv 0) (pa_cons (pv 1) (pa_cons (pv 6) pa_nil))))))))) (pss_one (ps_ret pe_bl)) pss_nil)
    (pss_cons (ps_if (PW.pt (pw_and (pt_cmp (pc_notN (pv 6))) (pw_and1 (pt_cmpR op_le (pe_fn (fn_bought L) hr (by decide) (by rfl) (pa_cons (pv 0) (pa_cons (pv 6) pa_nil))) (pe_fn (fn_bought L) hr (by decide) (by rfl) (pa_cons (pv 1) (pa_cons (pv 6) pa_nil))) (nomark _))))) (pss_one (ps_ret pe_bl)) pss_nil)
    (pss_cons (ps_if (PW.pt (pw_and (pt_cmp (pc_notN (pv 6))) (pw_and (pt_cmpR op_lt (pv 6) pe_int (nomark _)) (pw_and1 (pt_cmpR op_le (pe_ix (k_ix (K := K) rfl) (pe_fn (fn__law_long L) hr (by decide) (by rfl) (pa_cons (pe_pr (pr_runs L) L.ycls hr (by decide) (pv 0)) (pa_cons (pv 6) pa_nil))) pe_int (fun _ _ => rfl)) (pe_ix (k_ix (K := K) rfl) (pe_fn (fn__law_long L) hr (by decide) (by rfl) (pa_cons (pe_pr (pr_runs L) L.ycls hr (by decide) (pv 1)) (pa_cons (pv 6) pa_nil))) pe_int (fun _ _ => rfl)) (nomark _)))))) (pss_one (ps_ret pe_bl)) pss_nil)
    (pss_cons (ps_for PassesOwn.never rfl (k_itup (K := K) rfl (pv 7)) (pg_tup rfl (pgs_cons (pg_name (i := 10) sc__law_two_right.nd rfl (Or.inl rfl)) (pgs_cons (pg_name (i := 11) sc__law_two_right.nd rfl (Or.inl rfl)) pgs_nil))) (pss_cons (ps_set (i := 12) sc__law_two_right.nd rfl (Or.inl rfl) (pe_lst (pa_cons (pv 10) (pa_cons (pe_ifExp (pt_cmp (pc_isN (pv 11))) (pe_op op_pow pe_int pe_int) (pv 11)) pa_nil))))
    (pss_cons (ps_if (pt_not (pt_val (pe_callB (k_all (K := K) rfl rfl) (by rfl) L.b_all bb_all (pa_cons (pe_lc (own := [("_law_far", 16)]) (g := (gName 16)) (tt := tYes) rfl sc__law_two_right.nd (k_ilist (K := K) rfl (pv 12)) (blkOk_by (N := ["_law_host", "_law_mate", "_law_many_so", "_law_one_so", "_law_two_so", "_law_fine_so", "_law_told", "_law_spans_so", "_law_high", "_law_got", "_law_first_so", "_law_last_so", "_law_ends_so", "_law_spot", "_law_word", "_law_k", "_law_far"]) (sc := defScope s__law_two_right) (by decide +kernel)) (fun _ _ _ _ _ => (pg_name (i := 16) sc__law_two_right.nd rfl (Or.inl rfl))) (fun _ _ _ _ _ => pts_nil) (fun _ _ _ _ _ => (pe_fn (fn_is_against L) hr (by decide) (by rfl) (pa_cons (pv 0) (pa_cons (pv 1) (pa_cons (pv 16) pa_nil)))))) pa_nil)))) (pss_one (ps_ret pe_bl)) pss_nil)
    (pss_cons (ps_if (pt_val (pe_callB (k_any (K := K) rfl rfl) (by rfl) L.b_any bb_any (pa_cons (pe_lc (own := [("_law_far", 16)]) (g := (gName 16)) (tt := tYes) rfl sc__law_two_right.nd (k_ilist (K := K) rfl (pv 12)) (blkOk_by (N := ["_law_host", "_law_mate", "_law_many_so", "_law_one_so", "_law_two_so", "_law_fine_so", "_law_told", "_law_spans_so", "_law_high", "_law_got", "_law_first_so", "_law_last_so", "_law_ends_so", "_law_spot", "_law_word", "_law_k", "_law_far"]) (sc := defScope s__law_two_right) (by decide +kernel)) (fun _ _ _ _ _ => (pg_name (i := 16) sc__law_two_right.nd rfl (Or.inl rfl))) (fun _ _ _ _ _ => pts_nil) (fun _ _ _ _ _ => (pe_fn (fn_never_more_between L) hr (by decide) (by rfl) (pa_cons (pv 0) (pa_cons (pv 1) (pa_cons (pv 16) (pa_cons (pv 16) pa_nil))))))) pa_nil))) (pss_one (ps_ret pe_bl)) pss_nil)
    (pss_cons (ps_if (PW.pt (pw_and (pt_cmpR op_gt (pv 10) pe_int (nomark _)) (pw_and1 (pt_val (pe_fn (fn_is_against L) hr (by decide) (by rfl) (pa_cons (pv 0) (pa_cons (pv 1) (pa_cons (pe_op op_sub (pv 10) pe_int) pa_nil)))))))) (pss_one (ps_ret pe_bl)) pss_nil)
    (pss_one (ps_if (PW.pt (pw_and (pt_cmp (pc_notN (pv 11))) (pw_and1 (pt_val (pe_fn (fn_is_against L) hr (by decide) (by rfl) (pa_cons (pv 0) (pa_cons (pv 1) (pa_cons (pe_op (k_add (K := K) rfl) (pv 11) pe_int) pa_nil)))))))) (pss_one (ps_ret pe_bl)) pss_nil)))))))
    (pss_cons (ps_set (i := 13) sc__law_two_right.nd rfl (Or.inl rfl) (pe_fn (fn_most_more_butt L) hr (by decide) (by rfl) (pa_cons (pv 0) (pa_cons (pv 1) pa_nil))))
    (pss_cons (ps_if (pt_cmpR op_ne (pe_op op_sub (pe_fn (fn_bought L) hr (by decide) (by rfl) (pa_cons (pv 0) (pa_cons (pv 13) pa_nil))) (pe_fn (fn_bought L) hr (by decide) (by rfl) (pa_cons (pv 1) (pa_cons (pv 13) pa_nil)))) (pv 8) (nomark _)) (pss_one (ps_ret pe_bl)) pss_nil)
    (pss_cons (ps_if (PW.pt (pw_and (pt_cmpR op_gt (pv 13) pe_int (nomark _)) (pw_and1 (pt_cmpR op_ge (pe_op op_sub (pe_fn (fn_bought L) hr (by decide) (by rfl) (pa_cons (pv 0) (pa_cons (pe_op op_sub (pv 13) pe_int) pa_nil))) (pe_fn (fn_bought L) hr (by decide) (by rfl) (pa_cons (pv 1) (pa_cons (pe_op op_sub (pv 13) pe_int) pa_nil)))) (pv 8) (nomark _))))) (pss_one (ps_ret pe_bl)) pss_nil)
    (pss_cons (ps_set (i := 14) sc__law_two_right.nd rfl (Or.inl rfl) (pe_bdict (Nat.lt_of_le_of_lt (Nat.le_add_right _ 64) (units_of hr)) (pps_cons (pe_tup (pa_cons pe_bl (pa_cons pe_bl pa_nil))) pe_str (pps_cons (pe_tup (pa_cons pe_bl (pa_cons pe_bl pa_nil))) pe_str (pps_cons (pe_tup (pa_cons pe_bl (pa_cons pe_bl pa_nil))) pe_str (pps_cons (pe_tup (pa_cons pe_bl (pa_cons pe_bl pa_nil))) pe_str pps_nil))))))
    (pss_cons (ps_set (i := 9) sc__law_two_right.nd rfl (Or.inl rfl) (pe_lst (pa_cons (pe_fn (fn_compare L) hr (by decide) (by rfl) (pa_cons (pv 0) (pa_cons (pv 1) pa_nil))) (pa_cons (pe_fn (fn_alike L) hr (by decide) (by rfl) (pa_cons (pv 0) (pa_cons (pv 1) pa_nil))) (pa_cons (pe_fn (fn_never_spills_more L) hr (by decide) (by rfl) (pa_cons (pe_fn (fn_opposite L) hr (by decide) (by rfl) (pa_cons (pv 0) pa_nil)) (pa_cons (pe_fn (fn_opposite L) hr (by decide) (by rfl) (pa_cons (pv 1) pa_nil)) pa_nil))) pa_nil)))))
    (pss_one (ps_ret (pe_fn (fn__law_same L) hr (by decide) (by rfl) (pa_cons (pv 9) (pa_cons (pe_lst (pa_cons (pe_ix (ix_w (K := K) rfl (units_of hr)) (pv 14) (pe_tup (pa_cons (pv 5) (pa_cons (pe_fn (fn_never_more L) hr (by decide) (by rfl) (pa_cons (pv 1) (pa_cons (pv 0) pa_nil))) pa_nil))) (fun _ _ => rfl)) (pa_cons (pe_cmpR (k_eqD (K := K) rfl (units_of hr)) (pe_pr (pr_heap L) L.ycls hr (by decide) (pv 0)) (pe_pr (pr_heap L) L.ycls hr (by decide) (pv 1)) (nomark _)) (pa_cons (pv 5) pa_nil)))) pa_nil)))))))))))))))))))), ?_⟩
  rintro ds d ⟨⟨a, b⟩, ok, rfl, rfl⟩
  obtain ⟨yz, ta, tb⟩ := ok
  replace yz : YZ (a, b) := yz
  replace ta : Top a := ta
  replace tb : Top b := tb
  have yy : YY (a, b) := yz.1
  have oa : YrOk a := yy.1
  have ob : YrOk b := yy.2.1
  have hl : a.length + b.length ≤ 60 := yy.2.2
  obtain ⟨sE, sOk⟩ := Bu.spans_right (w1 := Bu.wantsOf a) (w2 := Bu.wantsOf b) (M := 10 ^ 30) (Bu.sw_ok a) (Bu.sw_ok b) (by decide) ta tb
  have mE := Bu.most_le_zero (w1 := Bu.wantsOf a) (w2 := Bu.wantsOf b) (Bu.sw_ok a) (Bu.sw_ok b)
  obtain ⟨p1, p2, p3, _⟩ := Bu.spot_ok (w1 := Bu.wantsOf a) (w2 := Bu.wantsOf b) (Bu.sw_ok a) (Bu.sw_ok b)
  replace sE : spansP (a, b) = [] ↔ wi (hpOf a) (hpOf b) = true := sE
  replace sOk : ∀ x o, (x, o) ∈ spansP (a, b) → Bu.SpanOk (gapP (hpOf a) (hpOf b)) (10 ^ 30) x o := sOk
  replace mE : moH (hpOf a) (hpOf b) ≤ 0 ↔ wi (hpOf a) (hpOf b) = true := mE
  replace p1 : 0 ≤ spH (hpOf a) (hpOf b) := p1
  replace p2 : gapP (hpOf a) (hpOf b) (spH (hpOf a) (hpOf b)) = moH (hpOf a) (hpOf b) := p2
  replace p3 : 0 < spH (hpOf a) (hpOf b) → gapP (hpOf a) (hpOf b) (spH (hpOf a) (hpOf b) - 1) < moH (hpOf a) (hpOf b) := p3
  have gE : ∀ x, gapP (hpOf a) (hpOf b) x = Bu.buy a x - Bu.buy b x := fun x => rfl
  have eS : (spansP (a, b)).isEmpty = wi (hpOf a) (hpOf b) := by rw [Bool.eq_iff_iff, List.isEmpty_iff]; exact sE
  have eM : decide (moH (hpOf a) (hpOf b) ≤ 0) = wi (hpOf a) (hpOf b) := by rw [Bool.eq_iff_iff, decide_eq_true_eq]; exact mE
  show StD K C _ _ (fun _ => DV.bl true = .non) (fun r => r = .bl true)
  refine st_let (d := .int ((manyOf (hpOf a) (hpOf b) : Nat) : Int)) (EvD.is (ev_cb2 (ev_lenS L (ev_fn (ea_cons (ev_var rfl) ea_nil) (⟨a, oa, rfl, rfl⟩)) (.inr rfl)) (ev_lenS L (ev_fn (ea_cons (ev_var rfl) ea_nil) (⟨b, ob, rfl, rfl⟩)) (.inr rfl)) rc_max2) (by rw [List.length_map, List.length_map, max_cast])) ?_
  have many : manyOf (hpOf a) (hpOf b) ≤ 500 := yy.many
  refine st_letT (EvD.is (ev_tup (ea_cons (ev_fn (ea_cons (ev_var rfl) (ea_cons (ev_var rfl) ea_nil)) (⟨(a, manyOf (hpOf a) (hpOf b)), ⟨oa, many⟩, rfl, rfl⟩)) (ea_cons (ev_fn (ea_cons (ev_var rfl) (ea_cons (ev_var rfl) ea_nil)) (⟨(b, manyOf (hpOf a) (hpOf b)), ⟨ob, many⟩, rfl, rfl⟩)) ea_nil)) (Nat.le_of_ble_eq_true rfl)) rfl) (d := .tup [.lst (dis (sumsOf (hpOf a) (manyOf (hpOf a) (hpOf b)))), .lst (dis (sumsOf (hpOf b) (manyOf (hpOf a) (hpOf b))))]) (tg_tup rfl (tgs_cons tg_name (tgs_cons tg_name tgs_nil))) ?_
  have at_sum : ∀ (h : Hpr) (k : Nat), k ∈ List.range (manyOf (hpOf a) (hpOf b) + 1) → atI (dis (sumsOf h (manyOf (hpOf a) (hpOf b)))) (k : Int) = some (.int (Bu.sumK h.1 h.2 k)) := fun h k hk => atI_nat (by
    unfold sumsOf dis
    rw [List.map_map, List.getElem?_map, List.getElem?_range (List.mem_range.mp hk)]
    rfl)
  refine st_let (d := .bl (wi (hpOf a) (hpOf b))) (EvD.is (ev_cb1 (ev_lcY (b := DV.bl) (as := List.range (manyOf (hpOf a) (hpOf b) + 1)) (a := fun k : Nat => DV.int (k : Int)) (fun k => decide (Bu.sumK (hpOf a).1 (hpOf a).2 k ≤ Bu.sumK (hpOf b).1 (hpOf b).2 k)) (it_range (n := manyOf (hpOf a) (hpOf b) + 1) (EvD.is (ev_addI (ev_var rfl) ev_int) rfl) (by omega)) (by rw [List.length_range]; omega) (by decide) fun k hk => ⟨_, tg_name, (ev_leI (ev_ix (ev_var rfl) (.inl rfl) (ev_var rfl) (at_sum (hpOf a) k hk)) (ev_ix (ev_var rfl) (.inl rfl) (ev_var rfl) (at_sum (hpOf b) k hk)))⟩) rc_all) (by rw [sums_all])) ?_
  refine st_par3 (d1 := agD (spansP (a, b))) (d2 := .tup ((spansP (a, b)).map spnD)) (d3 := .int (moH (hpOf a) (hpOf b))) (ea_cons (ev_fn (ea_cons (ev_var rfl) (ea_cons (ev_var rfl) ea_nil)) (⟨(a, b), yz, rfl, rfl⟩)) (ea_cons (ev_fn (ea_cons (ev_var rfl) (ea_cons (ev_var rfl) ea_nil)) (⟨(a, b), yz, rfl, rfl⟩)) (ea_cons (ev_fn (ea_cons (ev_var rfl) (ea_cons (ev_var rfl) ea_nil)) (⟨(a, b), yy, rfl, rfl⟩)) ea_nil))) ?_
  refine st_let (d := .lst [.bl (wi (hpOf a) (hpOf b)), .bl (wi (hpOf a) (hpOf b)), .bl (wi (hpOf a) (hpOf b)), .bl (wi (hpOf a) (hpOf b))]) (ev_lst (ea_cons (ev_fn (ea_cons (ev_var rfl) (ea_cons (ev_var rfl) ea_nil)) (⟨(a, b), yy, rfl, rfl⟩)) (ea_cons (EvD.is (ev_isN (ev_var rfl)) (by rw [ag_non, eS])) (ea_cons (EvD.is (ev_eqO (n := 2) (m := 1) (ev_var rfl) (ev_tup ea_nil (by decide)) (ok_spans _) rfl (by decide) (by decide)) (by rw [eqv_nil, eS])) (ea_cons (EvD.is (ev_leI (ev_var rfl) ev_int) (by rw [eM])) ea_nil)))) (Nat.le_of_ble_eq_true rfl)) ?_
  refine st_when (b := false) (EvT.is (et_not (et_B (ev_fn (ea_cons (ev_var rfl) (ea_cons (EvD.is (ev_repL (n := 4) (ds := [.bl (wi (hpOf a) (hpOf b))]) (ev_lst (ea_cons (ev_var rfl) ea_nil) (Nat.le_of_ble_eq_true rfl)) ev_int (by decide) (Nat.le_of_ble_eq_true rfl)) rfl) ea_nil)) ⟨_, by rfl, rfl, rfl⟩))) rfl) (fun h => by cases h) fun _ => ?_
  -- what is told
  refine st_when (b := false) ?_ (fun h => by cases h) fun _ => ?_
  · cases hsp : spansP (a, b) with
    | nil => exact et_and (a := false) (b := false) (EvT.is (et_B (ev_notN (ev_var rfl))) rfl) fun h => by cases h
    | cons s r =>
      have so := sOk s.1 s.2 (by rw [hsp]; exact List.mem_cons_self)
      exact EvT.is (et_and (a := true) (EvT.is (et_B (ev_notN (ev_var rfl))) rfl) fun _ => et_not (et_B (ev_fn (ea_cons (ev_var rfl) (ea_cons (ev_var rfl) (ea_cons (d := .int s.1) (ev_var rfl) ea_nil))) ⟨((a, b), s.1), yy, rfl, rfl⟩))) (by rw [decide_eq_true so.nn, decide_eq_true so.here]; rfl)
  refine st_when (b := false) ?_ (fun h => by cases h) fun _ => ?_
  · cases hsp : spansP (a, b) with
    | nil => exact et_and (a := false) (b := false) (EvT.is (et_B (ev_notN (ev_var rfl))) rfl) fun h => by cases h
    | cons s r =>
      have so := sOk s.1 s.2 (by rw [hsp]; exact List.mem_cons_self)
      have hg := so.here
      rw [gE] at hg
      exact EvT.is (et_and (a := true) (EvT.is (et_B (ev_notN (ev_var rfl))) rfl) fun _ => et_test (ev_leI (ev_fn (ea_cons (ev_var rfl) (ea_cons (d := .int s.1) (ev_var rfl) ea_nil)) ⟨(a, s.1), oa, rfl, rfl⟩) (ev_fn (ea_cons (ev_var rfl) (ea_cons (d := .int s.1) (ev_var rfl) ea_nil)) ⟨(b, s.1), ob, rfl, rfl⟩))) (by rw [show decide (Bu.buy a s.1 ≤ Bu.buy b s.1) = false from decide_eq_false (by omega)]; rfl)
  refine st_when (b := false) ?_ (fun h => by cases h) fun _ => ?_
  · cases hsp : spansP (a, b) with
    | nil => exact et_and (a := false) (b := false) (EvT.is (et_B (ev_notN (ev_var rfl))) rfl) fun h => by cases h
    | cons s r =>
      have so := sOk s.1 s.2 (by rw [hsp]; exact List.mem_cons_self)
      have hg := so.here
      have hn := so.nn
      rw [gE] at hg
      obtain ⟨x, o⟩ := s
      obtain ⟨n, rfl⟩ := Int.eq_ofNat_of_zero_le hn
      replace hg : 0 < Bu.buy a (n : Int) - Bu.buy b (n : Int) := hg
      refine EvT.is (et_and (a := true) (EvT.is (et_B (ev_notN (ev_var rfl))) rfl) fun _ => et_and (b := false) (et_test (ev_ltI (i := (n : Int)) (ev_var rfl) ev_int)) fun h => ?_) (by rw [Bool.and_false]; rfl)
      have hn : (n : Int) < 90 := of_decide_eq_true h
      exact EvT.is (et_test (ev_leI (ev_ix (ev_fn (ea_cons (ev_p_runs (ev_var rfl)) (ea_cons (d := .int (n : Int)) (ev_var rfl) ea_nil)) ⟨(a, n), ⟨oa, by show n ≤ 1000; omega⟩, rfl, rfl⟩) (.inr rfl) ev_int (atI_nat (j := 0) rfl : atI [DV.int (Bu.buy a (n : Int)), DV.int (lostR (n : Int) a (Bu.itr (n : Int) a (n + 2)))] 0 = some (.int (Bu.buy a (n : Int))))) (ev_ix (ev_fn (ea_cons (ev_p_runs (ev_var rfl)) (ea_cons (d := .int (n : Int)) (ev_var rfl) ea_nil)) ⟨(b, n), ⟨ob, by show n ≤ 1000; omega⟩, rfl, rfl⟩) (.inr rfl) ev_int (atI_nat (j := 0) rfl : atI [DV.int (Bu.buy b (n : Int)), DV.int (lostR (n : Int) b (Bu.itr (n : Int) b (n + 2)))] 0 = some (.int (Bu.buy b (n : Int))))))) (decide_eq_false (by omega))
  -- the spans
  generalize hW : wi (hpOf a) (hpOf b) = W at *
  refine st_seq (M := fun δ => ∃ o1 o2 o3, δ = [some (.yr a), some (.yr b), some (.int ((manyOf (hpOf a) (hpOf b) : Nat) : Int)), some (.lst (dis (sumsOf (hpOf a) (manyOf (hpOf a) (hpOf b))))), some (.lst (dis (sumsOf (hpOf b) (manyOf (hpOf a) (hpOf b))))), some (.bl W), some (agD (spansP (a, b))), some (.tup ((spansP (a, b)).map spnD)), some (.int (moH (hpOf a) (hpOf b))), some (.lst [.bl W, .bl W, .bl W, .bl W]), o1, o2, o3, none, none, none, none])
    (st_for (xs := (spansP (a, b)).map spnD) (fun i δ => ∃ o1 o2 o3, δ = [some (.yr a), some (.yr b), some (.int ((manyOf (hpOf a) (hpOf b) : Nat) : Int)), some (.lst (dis (sumsOf (hpOf a) (manyOf (hpOf a) (hpOf b))))), some (.lst (dis (sumsOf (hpOf b) (manyOf (hpOf a) (hpOf b))))), some (.bl W), some (agD (spansP (a, b))), some (.tup ((spansP (a, b)).map spnD)), some (.int (moH (hpOf a) (hpOf b))), some (.lst [.bl W, .bl W, .bl W, .bl W]), o1, o2, o3, none, none, none, none]) (it_tup (ev_var rfl)) ⟨_, _, _, rfl⟩ ?_ fun δ1 h => h) ?_
  · rintro i d δ1 hi ⟨o1, o2, o3, rfl⟩
    rw [List.getElem?_map] at hi
    obtain ⟨s, hs, rfl⟩ := Option.map_eq_some_iff.mp hi
    have mem : s ∈ spansP (a, b) := List.mem_of_getElem? hs
    obtain ⟨x, o⟩ := s
    have so := sOk x o mem
    -- the end that is asked
    obtain ⟨e, he, hend, hin⟩ : ∃ e : Int, (e = match o with | none => 10 ^ 30 | some h => h) ∧ (0 ≤ e ∧ 0 < gapP (hpOf a) (hpOf b) e) ∧ inSp e (x, o) = true := by
      cases o with
      | none => exact ⟨10 ^ 30, rfl, ⟨by decide, so.far rfl _ so.top⟩, by show (decide (x ≤ 10 ^ 30) && true) = true; rw [decide_eq_true so.top]; rfl⟩
      | some h =>
        obtain ⟨f1, f2, _⟩ := so.fin h rfl
        exact ⟨h, rfl, ⟨Int.le_trans so.nn f1, f2⟩, by show (decide (x ≤ h) && decide (h ≤ h)) = true; rw [decide_eq_true f1, decide_eq_true (Int.le_refl h)]; rfl⟩
    have xin : inSp x (x, o) = true := by
      cases o with
      | none => show (decide (x ≤ x) && true) = true; rw [decide_eq_true (Int.le_refl x)]; rfl
      | some h => show (decide (x ≤ x) && decide (x ≤ h)) = true; rw [decide_eq_true (Int.le_refl x), decide_eq_true (so.fin h rfl).1]; rfl
    have good : ∀ y ∈ [x, e], (decide (0 ≤ y) && decide (0 < gapP (hpOf a) (hpOf b) y)) = true ∧ (spansP (a, b)).any (inSp y) = true := fun y hy => by
      simp only [List.mem_cons, List.not_mem_nil, or_false] at hy
      rcases hy with rfl | rfl
      · exact ⟨by rw [decide_eq_true so.nn, decide_eq_true so.here]; rfl, List.any_eq_true.mpr ⟨_, mem, xin⟩⟩
      · exact ⟨by rw [decide_eq_true hend.1, decide_eq_true hend.2]; rfl, List.any_eq_true.mpr ⟨_, mem, hin⟩⟩
    refine ⟨_, _, tg_tup rfl (tgs_cons tg_name (tgs_cons tg_name tgs_nil)), ?_⟩
    refine st_let (d := .lst (dis [x, e])) ?_ ?_
    · rw [he]
      cases o with
      | none => exact ev_lst (ea_cons (ev_var rfl) (ea_cons (ev_if (d := .int (10 ^ 30)) (EvT.is (et_B (ev_isN (ev_var rfl))) rfl) (b := true) (fun _ => (ev_powI ev_int ev_int ((⟨by decide, by decide, by decide⟩ : CPow 10 30)))) fun h => by cases h) ea_nil)) (Nat.le_of_ble_eq_true rfl)
      | some h => exact ev_lst (ea_cons (ev_var rfl) (ea_cons (ev_if (d := .int h) (EvT.is (et_B (ev_isN (ev_var rfl))) rfl) (b := false) (fun h => by cases h) fun _ => ev_var rfl) ea_nil)) (Nat.le_of_ble_eq_true rfl)
    refine st_when (b := false) (EvT.is (et_not (et_B (ev_cb1 (ev_lcY (b := DV.bl) (as := [x, e]) (fun y => decide (0 ≤ y) && decide (0 < gapP (hpOf a) (hpOf b) y)) (it_list (ev_var rfl)) (by simp) (by decide) fun y _ => ⟨_, tg_name, (ev_fn (ea_cons (ev_var rfl) (ea_cons (ev_var rfl) (ea_cons (ev_var rfl) ea_nil))) (⟨((a, b), y), yy, rfl, rfl⟩))⟩) rc_all))) ?_) (fun h => by cases h) fun _ => ?_
    · rw [all_bl, List.all_eq_true.mpr fun y hy => (good y hy).1]
      rfl
    refine st_when (b := false) (EvT.is (et_B (ev_cb1 (ev_lcY (b := DV.bl) (as := [x, e]) (fun y => !((spansP (a, b)).any (inSp y))) (it_list (ev_var rfl)) (by simp) (by decide) fun y _ => ⟨_, tg_name, (ev_fn (ea_cons (ev_var rfl) (ea_cons (ev_var rfl) (ea_cons (ev_var rfl) (ea_cons (ev_var rfl) ea_nil)))) (⟨((a, b), y), yz, rfl, rfl⟩))⟩) rc_any)) ?_) (fun h => by cases h) fun _ => ?_
    · rw [List.any_map]
      refine List.any_eq_false.mpr fun y hy => ?_
      rw [Function.comp, (good y hy).2]
      decide
    refine st_when (b := false) (EvT.is (et_and (et_test (ev_gtI (ev_var rfl) ev_int)) fun h_ => (et_B (ev_fn (ea_cons (ev_var rfl) (ea_cons (ev_var rfl) (ea_cons (ev_subI (ev_var rfl) ev_int) ea_nil))) (⟨((a, b), x - 1), yy, rfl, rfl⟩)))) ?_) (fun h => by cases h) fun _ => ?_
    · by_cases k : 0 < x
      · rw [decide_eq_false (so.ahead k), Bool.and_false, Bool.and_false]
      · rw [decide_eq_false k, Bool.false_and]
    cases o with
    | none => exact st_if (b := false) (et_and (a := false) (b := false) (EvT.is (et_B (ev_notN (ev_var rfl))) rfl) fun h => by cases h) (fun h => by cases h) fun _ => st_next ⟨_, _, _, rfl⟩
    | some h =>
      refine st_if (b := false) (EvT.is (et_and (a := true) (EvT.is (et_B (ev_notN (ev_var rfl))) rfl) fun _ => et_B (ev_fn (ea_cons (ev_var rfl) (ea_cons (ev_var rfl) (ea_cons (ev_addI (i := h) (ev_var rfl) ev_int) ea_nil))) ⟨((a, b), h + 1), yy, rfl, rfl⟩)) ?_) (fun h => by cases h) fun _ => st_next ⟨_, _, _, rfl⟩
      rw [decide_eq_false (so.fin h rfl).2.2, Bool.and_false, Bool.and_false]
  · rintro δ1 ⟨o1, o2, o3, rfl⟩
    refine st_let (d := .int (spH (hpOf a) (hpOf b))) (ev_fn (ea_cons (ev_var rfl) (ea_cons (ev_var rfl) ea_nil)) (⟨(a, b), yy, rfl, rfl⟩)) ?_
    refine st_when (b := false) (EvT.is (et_test (ev_neI (ev_subI (ev_fn (ea_cons (ev_var rfl) (ea_cons (ev_var rfl) ea_nil)) (⟨(a, spH (hpOf a) (hpOf b)), oa, rfl, rfl⟩)) (ev_fn (ea_cons (ev_var rfl) (ea_cons (ev_var rfl) ea_nil)) (⟨(b, spH (hpOf a) (hpOf b)), ob, rfl, rfl⟩))) (ev_var rfl))) (by rw [← gE, p2, decide_eq_true rfl]; rfl)) (fun h => by cases h) fun _ => ?_
    refine st_when (b := false) (EvT.is (et_and (et_test (ev_gtI (ev_var rfl) ev_int)) fun h_ => (et_test (ev_geI (ev_subI (ev_fn (ea_cons (ev_var rfl) (ea_cons (ev_subI (ev_var rfl) ev_int) ea_nil)) (⟨(a, spH (hpOf a) (hpOf b) - 1), oa, rfl, rfl⟩)) (ev_fn (ea_cons (ev_var rfl) (ea_cons (ev_subI (ev_var rfl) ev_int) ea_nil)) (⟨(b, spH (hpOf a) (hpOf b) - 1), ob, rfl, rfl⟩))) (ev_var rfl)))) ?_) (fun h => by cases h) fun _ => ?_
    · rw [← gE]
      by_cases k : 0 < spH (hpOf a) (hpOf b)
      · have := p3 k
        rw [show decide (moH (hpOf a) (hpOf b) ≤ gapP (hpOf a) (hpOf b) (spH (hpOf a) (hpOf b) - 1)) = false from decide_eq_false (by omega), Bool.and_false]
      · rw [decide_eq_false k, Bool.false_and]
    refine st_let (d := .wd) ev_words ?_
    refine st_let (d := .lst [.str (cmpS W (wi (hpOf b) (hpOf a))), .bl (eqH (hpOf a) (hpOf b)), .bl W]) (ev_lst (ea_cons (EvD.is (ev_fn (ea_cons (ev_var rfl) (ea_cons (ev_var rfl) ea_nil)) (⟨(a, b), yy, rfl, rfl⟩)) (by show DV.str (cmpS (wi (hpOf a) (hpOf b)) (wi (hpOf b) (hpOf a))) = _; rw [hW])) (ea_cons (ev_fn (ea_cons (ev_var rfl) (ea_cons (ev_var rfl) ea_nil)) (⟨(a, b), yy, rfl, rfl⟩)) (ea_cons (EvD.is (ev_fn (ea_cons (ev_fn (ea_cons (ev_var rfl) ea_nil) (⟨a, oa, rfl, rfl⟩)) (ea_cons (ev_fn (ea_cons (ev_var rfl) ea_nil) (⟨b, ob, rfl, rfl⟩)) ea_nil)) (⟨(oppR a, oppR b), ⟨opp_ok oa, opp_ok ob, by unfold oppR; rw [List.length_map, List.length_map]; exact hl⟩, rfl, rfl⟩)) (by show DV.bl (wi (spillOf (oppR a)) (spillOf (oppR b))) = _; rw [opp_hp oa.2.1, opp_hp ob.2.1, hW])) ea_nil))) (Nat.le_of_ble_eq_true rfl)) ?_
    exact st_retR (ev_fn (ea_cons (ev_var rfl) (ea_cons (ev_lst (ea_cons (ev_word (ev_var rfl) (ev_tup (ea_cons (ev_var rfl) (ea_cons (ev_fn (ea_cons (ev_var rfl) (ea_cons (ev_var rfl) ea_nil)) (⟨(b, a), yy.swap, rfl, rfl⟩)) ea_nil)) (Nat.le_of_ble_eq_true rfl))) (ea_cons (ev_eqO (ev_p_heap (ev_var rfl)) (ev_p_heap (ev_var rfl)) (ok_hp _) (ok_hp _) (by decide) (by decide)) (ea_cons (ev_var rfl) ea_nil))) (Nat.le_of_ble_eq_true rfl)) ea_nil)) ⟨_, by rfl, rfl, rfl⟩)
end
end Dt
set_option Elab.async false
set_option linter.all false
set_option maxRecDepth 100000
set_option maxHeartbeats 8000000
/-! What the law asks of three years, of a run put in. -/
namespace Dt
open PySem PySem.Spec PyProof.Rows L2
open Evl (Ex)
abbrev Tiny (rs : List Int) : Prop := Bu.asum rs ≤ 1000000
theorem wi_trans {a b c : Hpr} (h1 : wi a b = true) (h2 : wi b c = true) : wi a c = true := Bu.within_iff.mpr fun k => Int.le_trans (Bu.within_iff.mp h1 k) (Bu.within_iff.mp h2 k)
theorem mo_tri (a b c : List Int) : moH (hpOf a) (hpOf c) ≤ moH (hpOf a) (hpOf b) + moH (hpOf b) (hpOf c) := by
  obtain ⟨x, _, hx, e⟩ := Bu.most_at (w1 := Bu.wantsOf a) (w2 := Bu.wantsOf c) (Bu.sw_ok a) (Bu.sw_ok c)
  have g1 := Bu.most_ge (w1 := Bu.wantsOf a) (w2 := Bu.wantsOf b) (Bu.sw_ok a) (Bu.sw_ok b) hx
  have g2 := Bu.most_ge (w1 := Bu.wantsOf b) (w2 := Bu.wantsOf c) (Bu.sw_ok b) (Bu.sw_ok c) hx
  show Bu.mostOf (Bu.wantsOf a) (Bu.swingsOf a) (Bu.wantsOf c) (Bu.swingsOf c) ≤ Bu.mostOf (Bu.wantsOf a) (Bu.swingsOf a) (Bu.wantsOf b) (Bu.swingsOf b) + Bu.mostOf (Bu.wantsOf b) (Bu.swingsOf b) (Bu.wantsOf c) (Bu.swingsOf c)
  unfold Bu.gapH at *
  omega
theorem sca_eq (c : Int) (rs : List Int) : scaR c rs = rs.map (Bu.sc c) := List.map_congr_left fun x _ => Int.mul_comm x c
theorem sca_hp {c : Int} (hc : 0 < c) {rs : List Int} (h0 : ∀ r ∈ rs, r ≠ 0) : hpOf (scaR c rs) = (Bu.sc c (Bu.wantsOf rs), (Bu.swingsOf rs).map (Bu.sc c)) := by
  have e : Bu.ab c = c := by unfold Bu.ab; omega
  unfold hpOf
  rw [sca_eq, Bu.wants_sc hc, Bu.swings_sc (by omega) h0, e]
section
variable {c : Int} {a b : List Int}
theorem sca_wi (hc : 0 < c) (ha : ∀ r ∈ a, r ≠ 0) (hb : ∀ r ∈ b, r ≠ 0) : wi (hpOf (scaR c a)) (hpOf (scaR c b)) = wi (hpOf a) (hpOf b) := by
  rw [sca_hp hc ha, sca_hp hc hb]
  exact Bu.within_sc hc _ _ _ _
theorem sca_mo (hc : 0 < c) (ha : ∀ r ∈ a, r ≠ 0) (hb : ∀ r ∈ b, r ≠ 0) : moH (hpOf (scaR c a)) (hpOf (scaR c b)) = moH (hpOf a) (hpOf b) * c := by
  rw [sca_hp hc ha, sca_hp hc hb, Int.mul_comm]
  exact Bu.most_sc hc _ _ _ _
theorem sca_sp (hc : 0 < c) (ha : ∀ r ∈ a, r ≠ 0) (hb : ∀ r ∈ b, r ≠ 0) : spH (hpOf (scaR c a)) (hpOf (scaR c b)) = spH (hpOf a) (hpOf b) * c := by
  rw [sca_hp hc ha, sca_hp hc hb, Int.mul_comm]
  exact Bu.spot_sc hc _ _ _ _
theorem tiny_mo (oa : YrOk a) (ob : YrOk b) (ta : Tiny a) (tb : Tiny b) : -(2 ^ 64) < moH (hpOf a) (hpOf b) ∧ moH (hpOf a) (hpOf b) < 2 ^ 64 := by
  obtain ⟨x, _, hx, e⟩ := Bu.most_at (w1 := Bu.wantsOf a) (w2 := Bu.wantsOf b) (Bu.sw_ok a) (Bu.sw_ok b)
  obtain ⟨a1, a2⟩ := Bu.buy_le (rs := a) oa.1 hx oa.2.2
  obtain ⟨b1, b2⟩ := Bu.buy_le (rs := b) ob.1 hx ob.2.2
  show -(2 ^ 64) < Bu.mostOf (Bu.wantsOf a) (Bu.swingsOf a) (Bu.wantsOf b) (Bu.swingsOf b) ∧ Bu.mostOf (Bu.wantsOf a) (Bu.swingsOf a) (Bu.wantsOf b) (Bu.swingsOf b) < 2 ^ 64
  unfold Bu.gapH at e
  replace ta : Bu.asum a ≤ 1000000 := ta
  replace tb : Bu.asum b ≤ 1000000 := tb
  have e1 : (((100 : Nat) : Int) + 1) = 101 := rfl
  rw [e1] at a2 b2
  omega
theorem tiny_sp (oa : YrOk a) (ob : YrOk b) (ta : Tiny a) (tb : Tiny b) : -(2 ^ 64) < spH (hpOf a) (hpOf b) ∧ spH (hpOf a) (hpOf b) < 2 ^ 64 := by
  obtain ⟨p1, _, _, p4⟩ := Bu.spot_ok (w1 := Bu.wantsOf a) (w2 := Bu.wantsOf b) (Bu.sw_ok a) (Bu.sw_ok b)
  show -(2 ^ 64) < Bu.spotOf (Bu.wantsOf a) (Bu.swingsOf a) (Bu.wantsOf b) (Bu.swingsOf b) ∧ Bu.spotOf (Bu.wantsOf a) (Bu.swingsOf a) (Bu.wantsOf b) (Bu.swingsOf b) < 2 ^ 64
  replace ta : Bu.asum a ≤ 1000000 := ta
  replace tb : Bu.asum b ≤ 1000000 := tb
  rcases List.mem_cons.mp (Bu.mem_usort.mp p4) with e | m
  · omega
  · rcases List.mem_append.mp m with m | m
    · have := (Bu.swings_le oa.1).1 _ m
      omega
    · have := (Bu.swings_le ob.1).1 _ m
      omega
theorem tiny_run (ta : Tiny a) : ∀ r ∈ a, -(2 ^ 64) < r ∧ r < 2 ^ 64 := fun r hr => by
  have := Bu.ab_le hr
  replace ta : Bu.asum a ≤ 1000000 := ta
  unfold Bu.ab at this
  omega
theorem sca_ok (hc : c ≠ 0) (oa : YrOk a) : YrOk (scaR c a) := map_ok oa fun x h => Int.mul_ne_zero h hc
end
section
variable {P : Program} {w : World} {K : Frag} {mg : Str → Option Value} {base : Heap} {C D : Addr}
abbrev ThreeOk (x : List Int × List Int × List Int) : Prop := YY (x.1, x.2.1) ∧ YY (x.2.1, x.2.2) ∧ YY (x.1, x.2.2) ∧ Tiny x.1 ∧ Tiny x.2.1
def F__law_three_right : List DV → DV → Prop := mkF ThreeOk (fun x => [.yr x.1, .yr x.2.1, .yr x.2.2]) fun _ => .bl true
theorem fn__law_three_right (L : Loc K mg C D) : FA K C P w mg base "_law_three_right" 11 F__law_three_right := by
  obtain ⟨f, fd, F, hm⟩ := L.l__law_three_right
  refine fnat_of hm F (fnr_of F sc__law_three_right (fun _ _ _ _ _ _ us h => ?_) _ (fun ds d ⟨x, _, e, _⟩ => by rw [e]; rfl) ?_)
  · obtain ⟨a, b, c, rfl⟩ := three_of h
    rfl
  intro cdv A outer s H E hr
  refine ⟨_, (pss_cons (ps_if (PW.pt (pw_and (pt_val (pe_fn (fn_never_more L) hr (by decide) (by rfl) (pa_cons (pv 0) (pa_cons (pv 1) pa_nil)))) (pw_and (pt_val (pe_fn (fn_never_more L) hr (by decide) (by rfl) (pa_cons (pv 1) (pa_cons (pv 2) pa_nil)))) (pw_and1 (pt_not (pt_val (pe_fn (fn_never_more L) hr (by decide) (by rfl) (pa_cons (pv 0) (pa_cons (pv 2) pa_nil))))))))) (pss_one (ps_ret pe_bl)) pss_nil)
    (pss_cons (ps_if (pt_cmpR op_gt (pe_fn (fn_most_more L) hr (by decide) (by rfl) (pa_cons (pv 0) (pa_cons (pv 2) pa_nil))) (pe_op (k_add (K := K) rfl) (pe_fn (fn_most_more L) hr (by decide) (by rfl) (pa_cons (pv 0) (pa_cons (pv 1) pa_nil))) (pe_fn (fn_most_more L) hr (by decide) (by rfl) (pa_cons (pv 1) (pa_cons (pv 2) pa_nil)))) (nomark _)) (pss_one (ps_ret pe_bl)) pss_nil)
    (pss_cons (ps_par (i := 3) (j := 4) rfl sc__law_three_right.nd rfl rfl (by decide) rfl rfl (pa_cons (pe_fn (fn_scaled L) hr (by decide) (by rfl) (pa_cons (pv 0) (pa_cons (pe_op op_pow pe_int pe_int) pa_nil))) (pa_cons (pe_fn (fn_scaled L) hr (by decide) (by rfl) (pa_cons (pv 1) (pa_cons (pe_op op_pow pe_int pe_int) pa_nil))) pa_nil)) (by rfl))
    (pss_cons (ps_set (i := 5) sc__law_three_right.nd rfl (Or.inl rfl) (pe_lst (pa_cons (pe_fn (fn_compare L) hr (by decide) (by rfl) (pa_cons (pv 3) (pa_cons (pv 4) pa_nil))) (pa_cons (pe_fn (fn_most_more L) hr (by decide) (by rfl) (pa_cons (pv 3) (pa_cons (pv 4) pa_nil))) (pa_cons (pe_fn (fn_most_more_butt L) hr (by decide) (by rfl) (pa_cons (pv 3) (pa_cons (pv 4) pa_nil))) pa_nil)))))
    (pss_cons (ps_set (i := 6) sc__law_three_right.nd rfl (Or.inl rfl) (pe_lst (pa_cons (pe_fn (fn_compare L) hr (by decide) (by rfl) (pa_cons (pv 0) (pa_cons (pv 1) pa_nil))) (pa_cons (pe_op (k_mul (K := K) rfl) (pe_fn (fn_most_more L) hr (by decide) (by rfl) (pa_cons (pv 0) (pa_cons (pv 1) pa_nil))) (pe_op op_pow pe_int pe_int)) pa_nil))))
    (pss_one (ps_ret (pe_fn (fn__law_same L) hr (by decide) (by rfl) (pa_cons (pv 5) (pa_cons (pe_op (k_add (K := K) rfl) (pv 6) (pe_lst (pa_cons (pe_op (k_mul (K := K) rfl) (pe_fn (fn_most_more_butt L) hr (by decide) (by rfl) (pa_cons (pv 0) (pa_cons (pv 1) pa_nil))) (pe_op op_pow pe_int pe_int)) pa_nil))) pa_nil)))))))))), ?_⟩
  rintro ds d ⟨⟨a, b, c⟩, ok, rfl, rfl⟩
  obtain ⟨ab, bc, ac, ta, tb⟩ := ok
  replace ab : YY (a, b) := ab
  replace bc : YY (b, c) := bc
  replace ac : YY (a, c) := ac
  replace ta : Tiny a := ta
  replace tb : Tiny b := tb
  have oa : YrOk a := ab.1
  have ob : YrOk b := ab.2.1
  have hl : a.length + b.length ≤ 60 := ab.2.2
  have hc : (0 : Int) < 10 ^ 27 := by decide
  show StD K C _ _ (fun _ => DV.bl true = .non) (fun r => r = .bl true)
  refine st_when (b := false) (EvT.is (et_and (et_B (ev_fn (ea_cons (ev_var rfl) (ea_cons (ev_var rfl) ea_nil)) (⟨(a, b), ab, rfl, rfl⟩))) fun h_ => (et_and (et_B (ev_fn (ea_cons (ev_var rfl) (ea_cons (ev_var rfl) ea_nil)) (⟨(b, c), bc, rfl, rfl⟩))) fun h_ => (et_not (et_B (ev_fn (ea_cons (ev_var rfl) (ea_cons (ev_var rfl) ea_nil)) (⟨(a, c), ac, rfl, rfl⟩)))))) ?_) (fun h => by cases h) fun _ => ?_
  · cases h1 : wi (hpOf a) (hpOf b) with
    | false => rfl
    | true =>
      cases h2 : wi (hpOf b) (hpOf c) with
      | false => rfl
      | true => rw [wi_trans h1 h2]; rfl
  refine st_when (b := false) (EvT.is (et_test (ev_gtI (ev_fn (ea_cons (ev_var rfl) (ea_cons (ev_var rfl) ea_nil)) (⟨(a, c), ac, rfl, rfl⟩)) (ev_addI (ev_fn (ea_cons (ev_var rfl) (ea_cons (ev_var rfl) ea_nil)) (⟨(a, b), ab, rfl, rfl⟩)) (ev_fn (ea_cons (ev_var rfl) (ea_cons (ev_var rfl) ea_nil)) (⟨(b, c), bc, rfl, rfl⟩))))) (decide_eq_false (by have := mo_tri a b c; show ¬ moH (hpOf a) (hpOf b) + moH (hpOf b) (hpOf c) < moH (hpOf a) (hpOf c); omega))) (fun h => by cases h) fun _ => ?_
  refine st_par (d1 := .yr (scaR (10 ^ 27) a)) (d2 := .yr (scaR (10 ^ 27) b)) (ea_cons (ev_fn (ea_cons (ev_var rfl) (ea_cons (ev_powI ev_int ev_int ((⟨by decide, by decide, by decide⟩ : CPow 10 27))) ea_nil)) (⟨(a, 10 ^ 27), ⟨oa, tiny_run ta, show (10 ^ 27 : Int) ≠ 0 by decide⟩, rfl, rfl⟩)) (ea_cons (ev_fn (ea_cons (ev_var rfl) (ea_cons (ev_powI ev_int ev_int ((⟨by decide, by decide, by decide⟩ : CPow 10 27))) ea_nil)) (⟨(b, 10 ^ 27), ⟨ob, tiny_run tb, show (10 ^ 27 : Int) ≠ 0 by decide⟩, rfl, rfl⟩)) ea_nil)) ?_
  have sy : YY (scaR (10 ^ 27) a, scaR (10 ^ 27) b) := ⟨sca_ok (by decide) oa, sca_ok (by decide) ob, by unfold scaR; show (List.map _ a).length + (List.map _ b).length ≤ 60; rw [List.length_map, List.length_map]; exact hl⟩
  refine st_let (d := .lst [.str (cmpS (wi (hpOf a) (hpOf b)) (wi (hpOf b) (hpOf a))), .int (moH (hpOf a) (hpOf b) * 10 ^ 27), .int (spH (hpOf a) (hpOf b) * 10 ^ 27)]) (ev_lst (ea_cons (EvD.is (ev_fn (ea_cons (ev_var rfl) (ea_cons (ev_var rfl) ea_nil)) (⟨(scaR (10 ^ 27) a, scaR (10 ^ 27) b), sy, rfl, rfl⟩)) (by show DV.str (cmpS (wi (hpOf (scaR (10 ^ 27) a)) (hpOf (scaR (10 ^ 27) b))) (wi (hpOf (scaR (10 ^ 27) b)) (hpOf (scaR (10 ^ 27) a)))) = _; rw [sca_wi hc oa.2.1 ob.2.1, sca_wi hc ob.2.1 oa.2.1])) (ea_cons (EvD.is (ev_fn (ea_cons (ev_var rfl) (ea_cons (ev_var rfl) ea_nil)) (⟨(scaR (10 ^ 27) a, scaR (10 ^ 27) b), sy, rfl, rfl⟩)) (by show DV.int (moH (hpOf (scaR (10 ^ 27) a)) (hpOf (scaR (10 ^ 27) b))) = _; rw [sca_mo hc oa.2.1 ob.2.1])) (ea_cons (EvD.is (ev_fn (ea_cons (ev_var rfl) (ea_cons (ev_var rfl) ea_nil)) (⟨(scaR (10 ^ 27) a, scaR (10 ^ 27) b), sy, rfl, rfl⟩)) (by show DV.int (spH (hpOf (scaR (10 ^ 27) a)) (hpOf (scaR (10 ^ 27) b))) = _; rw [sca_sp hc oa.2.1 ob.2.1])) ea_nil))) (Nat.le_of_ble_eq_true rfl)) ?_
  refine st_let (d := .lst [.str (cmpS (wi (hpOf a) (hpOf b)) (wi (hpOf b) (hpOf a))), .int (moH (hpOf a) (hpOf b) * 10 ^ 27)]) (ev_lst (ea_cons (ev_fn (ea_cons (ev_var rfl) (ea_cons (ev_var rfl) ea_nil)) (⟨(a, b), ab, rfl, rfl⟩)) (ea_cons (ev_mulI (ev_fn (ea_cons (ev_var rfl) (ea_cons (ev_var rfl) ea_nil)) (⟨(a, b), ab, rfl, rfl⟩)) (ev_powI ev_int ev_int ((⟨by decide, by decide, by decide⟩ : CPow 10 27))) (.inl (tiny_mo oa ob ta tb))) ea_nil)) (Nat.le_of_ble_eq_true rfl)) ?_
  exact st_retR (ev_fn (ea_cons (ev_var rfl) (ea_cons (ev_addL (es := [.int (spH (hpOf a) (hpOf b) * 10 ^ 27)]) (ev_var rfl) (ev_lst (ea_cons (ev_mulI (ev_fn (ea_cons (ev_var rfl) (ea_cons (ev_var rfl) ea_nil)) (⟨(a, b), ab, rfl, rfl⟩)) (ev_powI ev_int ev_int ((⟨by decide, by decide, by decide⟩ : CPow 10 27))) (.inl (tiny_sp oa ob ta tb))) ea_nil) (Nat.le_of_ble_eq_true rfl)) (Nat.le_of_ble_eq_true rfl)) ea_nil)) ⟨_, by rfl, rfl, rfl⟩)
end
end Dt
set_option Elab.async false
set_option linter.all false
set_option maxRecDepth 100000
set_option maxHeartbeats 8000000
/-! What the law asks of a run put in, of passes. -/
namespace Dt
open PySem PySem.Spec PyProof.Rows L2
open Evl (Ex)
theorem eqv_dis2 (l : List Int) : PyData.eqv (pd (.lst (dis l))) (pd (.lst (dis l))) = true := by
  have := eqv_dis l
  simp only [pd, PyData.eqv]
  exact this
theorem nat_dis (l : List Nat) : l.map natD = dis (l.map fun k : Nat => (k : Int)) := by
  unfold dis
  rw [List.map_map]
  rfl
section
variable {rs : List Int} {r b : Int} {k : Nat}
theorem best_mem {l : List Nat} (h : bestL rs r = k :: l) : k < rs.length + 1 ∧ ∀ z ∈ putsOf rs r, wi (hpOf (putR rs k r)) (hpOf z) = true := by
  have m : k ∈ bestL rs r := by rw [h]; exact List.mem_cons_self
  obtain ⟨m1, m2⟩ := List.mem_filter.mp m
  exact ⟨List.mem_range.mp m1, fun z hz => List.all_eq_true.mp m2 z hz⟩
theorem worst_mem {l : List Nat} (h : worstL rs r = k :: l) : k < rs.length + 1 ∧ ∀ z ∈ putsOf rs r, wi (hpOf z) (hpOf (putR rs k r)) = true := by
  have m : k ∈ worstL rs r := by rw [h]; exact List.mem_cons_self
  obtain ⟨m1, m2⟩ := List.mem_filter.mp m
  exact ⟨List.mem_range.mp m1, fun z hz => List.all_eq_true.mp m2 z hz⟩
theorem wi_mo {x y : List Int} (h : wi (hpOf x) (hpOf y) = true) : ¬ 0 < moH (hpOf x) (hpOf y) := by
  have := (Bu.most_le_zero (w1 := Bu.wantsOf x) (w2 := Bu.wantsOf y) (Bu.sw_ok x) (Bu.sw_ok y)).mpr h
  show ¬ 0 < Bu.mostOf (Bu.wantsOf x) (Bu.swingsOf x) (Bu.wantsOf y) (Bu.swingsOf y)
  omega
theorem wi_buy {x y : List Int} (h : wi (hpOf x) (hpOf y) = true) (hb : 0 ≤ b) : Bu.buy x b ≤ Bu.buy y b := (Bu.within_buy (w1 := Bu.wantsOf x) (w2 := Bu.wantsOf y) (Bu.sw_ok x) (Bu.sw_ok y)).mp h b hb
theorem put_in_mem (h : k < rs.length + 1) : putR rs k r ∈ putsOf rs r := List.mem_map.mpr ⟨k, List.mem_range.mpr h, rfl⟩
theorem at_put (h : k < rs.length + 1) : atI ((putsOf rs r).map DV.yr) (k : Int) = some (.yr (putR rs k r)) := atI_nat (by
  unfold putsOf
  rw [List.map_map, List.getElem?_map, List.getElem?_range h]
  rfl)
theorem at_buy (h : k < rs.length + 1) : atI (dis (buysOf rs r b)) (k : Int) = some (.int (Bu.buy (putR rs k r) b)) := atI_nat (by
  unfold buysOf putsOf dis
  rw [List.map_map, List.map_map, List.getElem?_map, List.getElem?_range h]
  rfl)
end
section
variable {P : Program} {w : World} {K : Frag} {mg : Str → Option Value} {base : Heap} {C D : Addr}
def F__law_put_right : List DV → DV → Prop := mkF (fun x : (List Int × Int) × Int => PutOk x.1 ∧ 0 ≤ x.2) (fun x => [.yr x.1.1, .int x.1.2, .int x.2]) fun _ => .bl true
theorem fn__law_put_right (L : Loc K mg C D) : FA K C P w mg base "_law_put_right" 11 F__law_put_right := by
  obtain ⟨f, fd, F, hm⟩ := L.l__law_put_right
  refine fnat_of hm F (fnr_of F sc__law_put_right (fun _ _ _ _ _ _ us h => ?_) _ (fun ds d ⟨x, _, e, _⟩ => by rw [e]; rfl) ?_)
  · obtain ⟨a, b, c, rfl⟩ := three_of h
    rfl
  intro cdv A outer s H E hr
  refine ⟨_, (pss_cons (ps_set (i := 3) sc__law_put_right.nd rfl (Or.inr rfl) (pe_lc (own := [("_law_k", 8)]) (g := (gName 8)) (tt := tYes) rfl sc__law_put_right.nd (pi_range1 (by rfl) L.b_range (pa_cons (pe_op (k_add (K := K) rfl) (pe_callB (k_len (K := K) rfl L hr (by decide)) (by rfl) L.b_len bb_len (pa_cons (pv 0) pa_nil)) pe_int) pa_nil)) (blkOk_by (N := ["_law_host", "_law_run_so", "_law_size_so", "_law_some_so", "_law_low", "_law_high", "_law_told", "_law_now_so", "_law_k", "_law_own"]) (sc := defScope s__law_put_right) (by decide +kernel)) (fun _ _ _ _ _ => (pg_name (i := 8) sc__law_put_right.nd rfl (Or.inl rfl))) (fun _ _ _ _ _ => pts_nil) (fun _ _ _ _ _ => (pe_fn (fn_put_in L) hr (by decide) (by rfl) (pa_cons (pv 0) (pa_cons (pv 8) (pa_cons (pv 1) pa_nil)))))))
    (pss_cons (ps_asg (pe_tup (pa_cons (pe_fn (fn_best_for_all L) hr (by decide) (by rfl) (pa_cons (pv 0) (pa_cons (pv 1) pa_nil))) (pa_cons (pe_fn (fn_worst_for_all L) hr (by decide) (by rfl) (pa_cons (pv 0) (pa_cons (pv 1) pa_nil))) pa_nil))) (pg_tup rfl (pgs_cons (pg_name (i := 4) sc__law_put_right.nd rfl (Or.inr rfl)) (pgs_cons (pg_name (i := 5) sc__law_put_right.nd rfl (Or.inr rfl)) pgs_nil))))
    (pss_cons (ps_if (PW.pt (pw_and (pt_cmp (pc_notN (pv 4))) (pw_and1 (pt_cmpR (k_neD (K := K) rfl (units_of hr)) (pe_lc (own := [("_law_own", 9)]) (g := (gName 9)) rfl sc__law_put_right.nd (k_ilist (K := K) rfl (pv 3)) (blkOk_by (N := ["_law_host", "_law_run_so", "_law_size_so", "_law_some_so", "_law_low", "_law_high", "_law_told", "_law_now_so", "_law_k", "_law_own"]) (sc := defScope s__law_put_right) (by decide +kernel)) (fun _ _ _ _ _ => (pg_name (i := 9) sc__law_put_right.nd rfl (Or.inl rfl))) (fun _ _ _ _ _ => (pts_one (pt_cmpR op_gt (pe_fn (fn_most_more L) hr (by decide) (by rfl) (pa_cons (pe_ix (k_ix (K := K) rfl) (pv 3) (pv 4) (fun _ _ => rfl)) (pa_cons (pv 9) pa_nil))) pe_int (nomark _)))) (fun _ _ _ _ _ => (pv 9))) (pe_lst pa_nil) (nomark _))))) (pss_one (ps_ret pe_bl)) pss_nil)
    (pss_cons (ps_if (PW.pt (pw_and (pt_cmp (pc_notN (pv 5))) (pw_and1 (pt_cmpR (k_neD (K := K) rfl (units_of hr)) (pe_lc (own := [("_law_own", 9)]) (g := (gName 9)) rfl sc__law_put_right.nd (k_ilist (K := K) rfl (pv 3)) (blkOk_by (N := ["_law_host", "_law_run_so", "_law_size_so", "_law_some_so", "_law_low", "_law_high", "_law_told", "_law_now_so", "_law_k", "_law_own"]) (sc := defScope s__law_put_right) (by decide +kernel)) (fun _ _ _ _ _ => (pg_name (i := 9) sc__law_put_right.nd rfl (Or.inl rfl))) (fun _ _ _ _ _ => (pts_one (pt_cmpR op_gt (pe_fn (fn_most_more L) hr (by decide) (by rfl) (pa_cons (pv 9) (pa_cons (pe_ix (k_ix (K := K) rfl) (pv 3) (pv 5) (fun _ _ => rfl)) pa_nil))) pe_int (nomark _)))) (fun _ _ _ _ _ => (pv 9))) (pe_lst pa_nil) (nomark _))))) (pss_one (ps_ret pe_bl)) pss_nil)
    (pss_cons (ps_setLc (i := 6) (own := [("_law_own", 9)]) (g := (gName 9)) (tt := tYes) rfl sc__law_put_right.nd rfl rfl (sw_true rfl rfl rfl (by decide +kernel)) (k_ilist (K := K) rfl (pv 3)) (blkOk_by (N := ["_law_host", "_law_run_so", "_law_size_so", "_law_some_so", "_law_low", "_law_high", "_law_told", "_law_now_so", "_law_k", "_law_own"]) (sc := defScope s__law_put_right) (by decide +kernel)) (fun _ _ _ _ _ => (pg_name (i := 9) sc__law_put_right.nd rfl (Or.inl rfl))) (fun _ _ _ _ _ => pts_nil) (fun _ _ _ _ _ => (pe_fn (fn_bought L) hr (by decide) (by rfl) (pa_cons (pv 9) (pa_cons (pv 2) pa_nil)))))
    (pss_cons (ps_if (pt_cmpR op_ne (pe_fn (fn_best_place L) hr (by decide) (by rfl) (pa_cons (pv 0) (pa_cons (pv 1) (pa_cons (pv 2) pa_nil)))) (pe_bm PySem.F.plainAttrs_list PySem.F.slot_list_index PySem.F.type_list_index (k_mindex (K := K) rfl) (pv 6) (pa_cons (pe_callB (k_min (K := K) rfl rfl) (by rfl) L.b_min bb_min (pa_cons (pv 6) pa_nil)) pa_nil)) (nomark _)) (pss_one (ps_ret pe_bl)) pss_nil)
    (pss_cons (ps_if (PW.pt (pw_and (pt_cmp (pc_notN (pv 4))) (pw_and1 (pt_cmpR op_ne (pe_ix (k_ix (K := K) rfl) (pv 6) (pv 4) (fun _ _ => rfl)) (pe_callB (k_min (K := K) rfl rfl) (by rfl) L.b_min bb_min (pa_cons (pv 6) pa_nil)) (nomark _))))) (pss_one (ps_ret pe_bl)) pss_nil)
    (pss_cons (ps_asg (pe_tup (pa_cons (pe_fn (fn_bought L) hr (by decide) (by rfl) (pa_cons (pv 0) (pa_cons (pv 2) pa_nil))) (pa_cons (pe_fn (fn_passes L) hr (by decide) (by rfl) (pa_cons (pv 0) (pa_cons (pv 2) pa_nil))) pa_nil))) (pg_tup rfl (pgs_cons (pg_name (i := 7) sc__law_put_right.nd rfl (Or.inr rfl)) (pgs_cons (pg_name (i := 6) sc__law_put_right.nd rfl (Or.inl rfl)) pgs_nil))))
    (pss_one (ps_ret (pe_cmpR (k_eqD (K := K) rfl (units_of hr)) (pv 6) (pe_lc (own := [("_law_k", 8)]) (g := (gName 8)) rfl sc__law_put_right.nd (pi_range1 (by rfl) L.b_range (pa_cons (pe_callB (k_len (K := K) rfl L hr (by decide)) (by rfl) L.b_len bb_len (pa_cons (pv 0) pa_nil)) pa_nil)) (blkOk_by (N := ["_law_host", "_law_run_so", "_law_size_so", "_law_some_so", "_law_low", "_law_high", "_law_told", "_law_now_so", "_law_k", "_law_own"]) (sc := defScope s__law_put_right) (by decide +kernel)) (fun _ _ _ _ _ => (pg_name (i := 8) sc__law_put_right.nd rfl (Or.inl rfl))) (fun _ _ _ _ _ => (pts_one (pt_cmpR op_lt (pe_fn (fn_bought L) hr (by decide) (by rfl) (pa_cons (pe_fn (fn_passed L) hr (by decide) (by rfl) (pa_cons (pv 0) (pa_cons (pv 8) pa_nil))) (pa_cons (pv 2) pa_nil))) (pv 7) (nomark _)))) (fun _ _ _ _ _ => (pv 8))) (nomark _)))))))))))), ?_⟩
  rintro ds d ⟨⟨⟨rs, r⟩, b⟩, ⟨ok, hb⟩, rfl, rfl⟩
  replace ok : PutOk (rs, r) := ok
  replace hb : 0 ≤ b := hb
  have orr : YrOk rs := ok.1
  have hl : rs.length ≤ 28 := ok.2.1
  have hr0 : r ≠ 0 := ok.2.2
  have pl := puts_len (rs := rs) (r := r)
  show StD K C _ _ (fun _ => DV.bl true = .non) (fun r => r = .bl true)
  refine st_let (d := .lst ((putsOf rs r).map DV.yr)) (ev_lcY (b := DV.yr) (as := List.range (rs.length + 1)) (a := fun k : Nat => DV.int (k : Int)) (fun k => putR rs k r) (it_range (n := rs.length + 1) (EvD.is (ev_addI (ev_lenY L (ev_var rfl)) ev_int) rfl) (by omega)) (by rw [List.length_range]; omega) (by decide) fun k hk => ⟨_, tg_name, (ev_fn (ea_cons (ev_var rfl) (ea_cons (ev_var rfl) (ea_cons (ev_var rfl) ea_nil))) (⟨(rs, k, r), ⟨orr, by show rs.length < 100; omega, by have := List.mem_range.mp hk; show k ≤ rs.length; omega, hr0⟩, rfl, rfl⟩))⟩) ?_
  refine st_letT (d := .tup [optD (bestL rs r), optD (worstL rs r)]) (ev_tup (ea_cons (ev_fn (ea_cons (ev_var rfl) (ea_cons (ev_var rfl) ea_nil)) (⟨(rs, r), ok, rfl, rfl⟩)) (ea_cons (ev_fn (ea_cons (ev_var rfl) (ea_cons (ev_var rfl) ea_nil)) (⟨(rs, r), ok, rfl, rfl⟩)) ea_nil)) (Nat.le_of_ble_eq_true rfl)) (tg_tup rfl (tgs_cons tg_name (tgs_cons tg_name tgs_nil))) ?_
  refine st_when (b := false) ?_ (fun h => by cases h) fun _ => ?_
  · cases hlow : bestL rs r with
    | nil => exact et_and (a := false) (b := false) (EvT.is (et_B (ev_notN (ev_var rfl))) rfl) fun h => by cases h
    | cons k l =>
      obtain ⟨k1, k2⟩ := best_mem hlow
      refine EvT.is (et_and (a := true) (EvT.is (et_B (ev_notN (ev_var rfl))) rfl) fun _ => et_test (ev_neO (n := 1) (m := 1) (d1 := .lst []) (EvD.is (ev_lcM (b := DV.yr) (as := putsOf rs r) (fun z => z) (fun z => decide (0 < moH (hpOf (putR rs k r)) (hpOf z))) (it_list (ev_var rfl)) (by omega) (by decide) fun z hz => ⟨_, tg_name, et_test (ev_gtI (ev_fn (ea_cons (ev_ix (ev_var rfl) (.inl rfl) (d := .yr (putR rs k r)) (i := (k : Int)) (ev_var rfl) (at_put k1)) (ea_cons (ev_var rfl) ea_nil)) ⟨(putR rs k r, z), puts_yy ok (put_in_mem k1) hz, rfl, rfl⟩) ev_int), fun _ => ev_var rfl⟩) ?_) (ev_lst ea_nil (by decide)) rfl rfl (by decide) (by decide))) (by simp [pd, pds, PyData.eqv, PyData.eqvAll])
      rw [List.filter_eq_nil_iff.mpr fun z hz => by rw [decide_eq_false (wi_mo (k2 z hz))]; decide]
      rfl
  refine st_when (b := false) ?_ (fun h => by cases h) fun _ => ?_
  · cases hlow : worstL rs r with
    | nil => exact et_and (a := false) (b := false) (EvT.is (et_B (ev_notN (ev_var rfl))) rfl) fun h => by cases h
    | cons k l =>
      obtain ⟨k1, k2⟩ := worst_mem hlow
      refine EvT.is (et_and (a := true) (EvT.is (et_B (ev_notN (ev_var rfl))) rfl) fun _ => et_test (ev_neO (n := 1) (m := 1) (d1 := .lst []) (EvD.is (ev_lcM (b := DV.yr) (as := putsOf rs r) (fun z => z) (fun z => decide (0 < moH (hpOf z) (hpOf (putR rs k r)))) (it_list (ev_var rfl)) (by omega) (by decide) fun z hz => ⟨_, tg_name, et_test (ev_gtI (ev_fn (ea_cons (ev_var rfl) (ea_cons (ev_ix (ev_var rfl) (.inl rfl) (d := .yr (putR rs k r)) (i := (k : Int)) (ev_var rfl) (at_put k1)) ea_nil)) ⟨(z, putR rs k r), puts_yy ok hz (put_in_mem k1), rfl, rfl⟩) ev_int), fun _ => ev_var rfl⟩) ?_) (ev_lst ea_nil (by decide)) rfl rfl (by decide) (by decide))) (by simp [pd, pds, PyData.eqv, PyData.eqvAll])
      rw [List.filter_eq_nil_iff.mpr fun z hz => by rw [decide_eq_false (wi_mo (k2 z hz))]; decide]
      rfl
  refine st_let (d := .lst (dis (buysOf rs r b))) (ev_lcY (b := DV.int) (as := putsOf rs r) (fun z => Bu.buy z b) (it_list (ev_var rfl)) (by omega) (by decide) fun z hz => ⟨_, tg_name, (ev_fn (ea_cons (ev_var rfl) (ea_cons (ev_var rfl) ea_nil)) (⟨(z, b), (puts_ok ok hz).1, rfl, rfl⟩))⟩) ?_
  refine st_when (b := false) (EvT.is (et_test (ev_neI (ev_fn (ea_cons (ev_var rfl) (ea_cons (ev_var rfl) (ea_cons (ev_var rfl) ea_nil))) (⟨((rs, r), b), ok, rfl, rfl⟩)) (ev_index (ev_var rfl) (ev_cb1 (ev_var rfl) (rc_min (buys_ne))) (Bu.lmin_mem buys_ne)))) (by rw [decide_eq_true rfl]; rfl)) (fun h => by cases h) fun _ => ?_
  refine st_when (b := false) ?_ (fun h => by cases h) fun _ => ?_
  · cases hlow : bestL rs r with
    | nil => exact et_and (a := false) (b := false) (EvT.is (et_B (ev_notN (ev_var rfl))) rfl) fun h => by cases h
    | cons k l =>
      obtain ⟨k1, k2⟩ := best_mem hlow
      have e : Bu.buy (putR rs k r) b = Bu.lmin (buysOf rs r b) := Bu.lmin_one (List.mem_map.mpr ⟨_, put_in_mem k1, rfl⟩) fun y hy => by
        obtain ⟨z, hz, rfl⟩ := List.mem_map.mp hy
        exact wi_buy (k2 z hz) hb
      exact EvT.is (et_and (a := true) (EvT.is (et_B (ev_notN (ev_var rfl))) rfl) fun _ => et_test (ev_neI (ev_ix (ev_var rfl) (.inl rfl) (i := (k : Int)) (ev_var rfl) (at_buy (b := b) k1)) (ev_cb1 (ev_var rfl) (rc_min buys_ne)))) (by rw [decide_eq_true e]; rfl)
  refine st_letT (d := .tup [.int (Bu.buy rs b), .lst ((passL rs b).map natD)]) (ev_tup (ea_cons (ev_fn (ea_cons (ev_var rfl) (ea_cons (ev_var rfl) ea_nil)) (⟨(rs, b), orr, rfl, rfl⟩)) (ea_cons (ev_fn (ea_cons (ev_var rfl) (ea_cons (ev_var rfl) ea_nil)) (⟨(rs, b), orr, rfl, rfl⟩)) ea_nil)) (Nat.le_of_ble_eq_true rfl)) (tg_tup rfl (tgs_cons tg_name (tgs_cons tg_name tgs_nil))) ?_
  have okn : okD 1 (.lst ((passL rs b).map natD)) = true := by
    rw [nat_dis]
    exact ok_dis 0 _
  refine st_retR (EvD.is (ev_eqO (n := 1) (m := 1) (d2 := .lst ((passL rs b).map natD)) (ev_var rfl) (EvD.is (ev_lcM (b := natD) (as := List.range rs.length) (a := fun k : Nat => DV.int (k : Int)) (fun k => k) (fun k => decide (Bu.buy (passR rs k) b < Bu.buy rs b)) (it_range (n := rs.length) (ev_lenY L (ev_var rfl)) (by omega)) (by rw [List.length_range]; omega) (by decide) fun k hk => ⟨_, tg_name, (et_test (ev_ltI (ev_fn (ea_cons (ev_fn (ea_cons (ev_var rfl) (ea_cons (ev_var rfl) ea_nil)) (⟨(rs, k), ⟨orr, List.mem_range.mp hk⟩, rfl, rfl⟩)) (ea_cons (ev_var rfl) ea_nil)) (⟨(passR rs k, b), pass_ok orr (List.mem_range.mp hk), rfl, rfl⟩)) (ev_var rfl))), fun _ => ev_var rfl⟩) (by rw [List.map_id']; rfl)) okn okn (by decide) (by decide)) ?_)
  rw [nat_dis, eqv_dis2]
end
end Dt
set_option Elab.async false
set_option linter.all false
set_option maxRecDepth 100000
set_option maxHeartbeats 8000000
/-! The law's years by hand. -/
namespace Dt
open PySem PySem.Spec PyProof.Rows L2
open Evl (Ex)
/-- a small year -/
abbrev Sm (rs : List Int) : Prop := YrOk rs ∧ rs.length ≤ 20 ∧ Tiny rs
theorem sm_yy {a b : List Int} (ha : Sm a) (hb : Sm b) : YY (a, b) := ⟨ha.1, hb.1, by have := ha.2.1; have := hb.2.1; show a.length + b.length ≤ 60; omega⟩
theorem sm_top {a : List Int} (ha : Sm a) : Top a := fun x hx => by
  have := (Bu.swings_le ha.1.1).1 x hx
  have h : Bu.asum a ≤ 1000000 := ha.2.2
  have e : (1000000 : Int) ≤ 10 ^ 30 := by decide
  omega
theorem sm_big {a : List Int} (ha : Sm a) : Big a := by
  have h : Bu.asum a ≤ 1000000 := ha.2.2
  show Bu.asum a ≤ 2 ^ 120
  omega
theorem sm_two {a b : List Int} (ha : Sm a) (hb : Sm b) : TwoOk (a, b) := ⟨⟨sm_yy ha hb, sm_big ha, sm_big hb⟩, sm_top ha, sm_top hb⟩
theorem sm_three {a b c : List Int} (ha : Sm a) (hb : Sm b) (hc : Sm c) : ThreeOk (a, b, c) := ⟨sm_yy ha hb, sm_yy hb hc, sm_yy ha hc, ha.2.2, hb.2.2⟩
theorem sm_put {a : List Int} (ha : Sm a) {r : Int} (hr : r ≠ 0) : PutOk (a, r) := ⟨ha.1, by have := ha.2.1; show a.length ≤ 28; omega, hr⟩
def rows6 : List (List Int) := [[3, -1, 2, -4], [2, -3, 3, -2], [1, -3], [2, 5], [-7], [9, -9, 2, -2, 2, -2]]
def rows8 : List (List Int) := rows6 ++ [[7, -7, 6, -6], [5, -3, 3, -3]]
def rowD (l : List Int) : DV := .tup (dis l)
theorem rows_sm : ∀ l ∈ rows8, Sm l := by decide +kernel
def greatR : List Int := [10 ^ 30, -10 ^ 30]
def halfR : List Int := [5 * 10 ^ 29, -5 * 10 ^ 29, 5 * 10 ^ 29, -5 * 10 ^ 29]
theorem great_ok : TwoOk (greatR, halfR) ∧ TwoOk (halfR, greatR) := by decide +kernel
theorem great_mo : moH (hpOf greatR) (hpOf halfR) = 5 * 10 ^ 29 := by decide +kernel
theorem great_sp : spansP (greatR, halfR) = [(1, some (10 ^ 30 - 1))] := by decide +kernel
theorem great_buy : Bu.buy greatR 1 = 10 ^ 30 - 1 := by decide +kernel
theorem half_spill : Bu.buyH (Bu.spareOf halfR) (Bu.swingsOf halfR) 1 = 10 ^ 30 - 2 := by decide +kernel
theorem all_yes {α : Type} (l : List α) : ((l.map fun _ => true).all id) = true := by
  rw [List.all_map]
  exact List.all_eq_true.mpr fun _ _ => rfl
section
variable {P : Program} {w : World} {K : Frag} {mg : Str → Option Value} {base : Heap} {C D : Addr}
def F__law_by_hand_right : List DV → DV → Prop := mkF (fun _ : Unit => True) (fun _ => []) fun _ => .bl true
theorem fn__law_by_hand_right (L : Loc K mg C D) : FA K C P w mg base "_law_by_hand_right" 14 F__law_by_hand_right := by
  obtain ⟨f, fd, F, hm⟩ := L.l__law_by_hand_right
  refine fnat_of hm F (fnr_of F sc__law_by_hand_right (fun _ _ _ _ _ _ us h => ?_) _ (fun ds d ⟨x, _, e, _⟩ => by rw [e]; rfl) ?_)
  · rw [List.eq_nil_of_length_eq_zero h]
    rfl
  intro cdv A outer s H E hr
  refine ⟨_, (pss_cons (ps_set (i := 0) sc__law_by_hand_right.nd rfl (Or.inl rfl) (pe_op op_pow pe_int pe_int))
    (pss_cons (ps_set (i := 1) sc__law_by_hand_right.nd rfl (Or.inl rfl) (pe_lst (pa_cons (pe_tup (pa_cons pe_int (pa_cons (pe_un un_neg pe_int) (pa_cons pe_int (pa_cons (pe_un un_neg pe_int) pa_nil))))) (pa_cons (pe_tup (pa_cons pe_int (pa_cons (pe_un un_neg pe_int) (pa_cons pe_int (pa_cons (pe_un un_neg pe_int) pa_nil))))) (pa_cons (pe_tup (pa_cons pe_int (pa_cons (pe_un un_neg pe_int) pa_nil))) (pa_cons (pe_tup (pa_cons pe_int (pa_cons pe_int pa_nil))) (pa_cons (pe_tup (pa_cons (pe_un un_neg pe_int) pa_nil)) (pa_cons (pe_tup (pa_cons pe_int (pa_cons (pe_un un_neg pe_int) (pa_cons pe_int (pa_cons (pe_un un_neg pe_int) (pa_cons pe_int (pa_cons (pe_un un_neg pe_int) pa_nil))))))) pa_nil))))))))
    (pss_cons (ps_set (i := 1) sc__law_by_hand_right.nd rfl (Or.inl rfl) (pe_op (k_add (K := K) rfl) (pv 1) (pe_lst (pa_cons (pe_tup (pa_cons pe_int (pa_cons (pe_un un_neg pe_int) (pa_cons pe_int (pa_cons (pe_un un_neg pe_int) pa_nil))))) (pa_cons (pe_tup (pa_cons pe_int (pa_cons (pe_un un_neg pe_int) (pa_cons pe_int (pa_cons (pe_un un_neg pe_int) pa_nil))))) pa_nil)))))
    (pss_cons (ps_set (i := 2) sc__law_by_hand_right.nd rfl (Or.inr rfl) (pe_lc (own := [("_law_own", 7)]) (g := (gName 7)) (tt := tYes) rfl sc__law_by_hand_right.nd (k_ilist (K := K) rfl (pv 1)) (blkOk_by (N := ["_law_great", "_law_rows_so", "_law_hosts_so", "_law_host", "_law_one_so", "_law_two_so", "_law_got", "_law_own", "_law_mate", "_law_far"]) (sc := defScope s__law_by_hand_right) (by decide +kernel)) (fun _ _ _ _ _ => (pg_name (i := 7) sc__law_by_hand_right.nd rfl (Or.inl rfl))) (fun _ _ _ _ _ => pts_nil) (fun _ _ _ _ _ => (k_year (K := K) rfl L hr (by decide) (by rfl) (pa_cons (pv 7) pa_nil)))))
    (pss_cons (ps_for PassesOwn.never rfl (k_ilist (K := K) rfl (pv 2)) (pg_name (i := 3) sc__law_by_hand_right.nd rfl (Or.inr rfl)) (pss_cons (ps_if (pt_not (pt_val (pe_callB (k_all (K := K) rfl rfl) (by rfl) L.b_all bb_all (pa_cons (pe_lc (own := [("_law_mate", 8)]) (g := (gName 8)) (tt := tYes) rfl sc__law_by_hand_right.nd (k_ilist (K := K) rfl (pv 2)) (blkOk_by (N := ["_law_great", "_law_rows_so", "_law_hosts_so", "_law_host", "_law_one_so", "_law_two_so", "_law_got", "_law_own", "_law_mate", "_law_far"]) (sc := defScope s__law_by_hand_right) (by decide +kernel)) (fun _ _ _ _ _ => (pg_name (i := 8) sc__law_by_hand_right.nd rfl (Or.inl rfl))) (fun _ _ _ _ _ => pts_nil) (fun _ _ _ _ _ => (pe_fn (fn__law_two_right L) hr (by decide) (by rfl) (pa_cons (pv 3) (pa_cons (pv 8) pa_nil))))) pa_nil)))) (pss_one (ps_ret pe_bl)) pss_nil)
    (pss_cons (ps_if (pt_not (pt_val (pe_callB (k_all (K := K) rfl rfl) (by rfl) L.b_all bb_all (pa_cons (pe_lc (own := [("_law_mate", 8)]) (g := (gName 8)) (tt := tYes) rfl sc__law_by_hand_right.nd (k_ilist (K := K) rfl (pv 2)) (blkOk_by (N := ["_law_great", "_law_rows_so", "_law_hosts_so", "_law_host", "_law_one_so", "_law_two_so", "_law_got", "_law_own", "_law_mate", "_law_far"]) (sc := defScope s__law_by_hand_right) (by decide +kernel)) (fun _ _ _ _ _ => (pg_name (i := 8) sc__law_by_hand_right.nd rfl (Or.inl rfl))) (fun _ _ _ _ _ => pts_nil) (fun _ _ _ _ _ => (pe_fn (fn__law_three_right L) hr (by decide) (by rfl) (pa_cons (pv 3) (pa_cons (pv 8) (pa_cons (pe_ix (k_ix (K := K) rfl) (pv 2) pe_int (fun _ _ => rfl)) pa_nil)))))) pa_nil)))) (pss_one (ps_ret pe_bl)) pss_nil)
    (pss_one (ps_if (pt_not (pt_val (pe_callB (k_all (K := K) rfl rfl) (by rfl) L.b_all bb_all (pa_cons (pe_lc (own := [("_law_far", 9)]) (g := (gName 9)) (tt := tYes) rfl sc__law_by_hand_right.nd (k_itup (K := K) rfl (pe_tup (pa_cons pe_int (pa_cons (pe_un un_neg pe_int) (pa_cons pe_int pa_nil))))) (blkOk_by (N := ["_law_great", "_law_rows_so", "_law_hosts_so", "_law_host", "_law_one_so", "_law_two_so", "_law_got", "_law_own", "_law_mate", "_law_far"]) (sc := defScope s__law_by_hand_right) (by decide +kernel)) (fun _ _ _ _ _ => (pg_name (i := 9) sc__law_by_hand_right.nd rfl (Or.inl rfl))) (fun _ _ _ _ _ => pts_nil) (fun _ _ _ _ _ => (pe_fn (fn__law_put_right L) hr (by decide) (by rfl) (pa_cons (pv 3) (pa_cons (pv 9) (pa_cons pe_int pa_nil)))))) pa_nil)))) (pss_one (ps_ret pe_bl)) pss_nil)))))
    (pss_cons (ps_par (i := 4) (j := 5) rfl sc__law_by_hand_right.nd rfl rfl (by decide) rfl rfl (pa_cons (k_year (K := K) rfl L hr (by decide) (by rfl) (pa_cons (pe_tup (pa_cons (pv 0) (pa_cons (pe_un un_neg (pv 0)) pa_nil))) pa_nil)) (pa_cons (k_year (K := K) rfl L hr (by decide) (by rfl) (pa_cons (pe_op (k_mul (K := K) rfl) (pe_tup (pa_cons (pe_op (k_mul (K := K) rfl) pe_int (pe_op op_pow pe_int pe_int)) (pa_cons (pe_op (k_mul (K := K) rfl) (pe_un un_neg pe_int) (pe_op op_pow pe_int pe_int)) pa_nil))) pe_int) pa_nil)) pa_nil)) (by rfl))
    (pss_cons (ps_if (PW.pt (pw_or (pt_not (pt_val (pe_fn (fn__law_two_right L) hr (by decide) (by rfl) (pa_cons (pv 4) (pa_cons (pv 5) pa_nil))))) (pw_or1 (pt_not (pt_val (pe_fn (fn__law_two_right L) hr (by decide) (by rfl) (pa_cons (pv 5) (pa_cons (pv 4) pa_nil)))))))) (pss_one (ps_ret pe_bl)) pss_nil)
    (pss_cons (ps_set (i := 6) sc__law_by_hand_right.nd rfl (Or.inl rfl) (pe_lst (pa_cons (pe_fn (fn_most_more L) hr (by decide) (by rfl) (pa_cons (pv 4) (pa_cons (pv 5) pa_nil))) (pa_cons (pe_fn (fn_spans_against L) hr (by decide) (by rfl) (pa_cons (pv 4) (pa_cons (pv 5) pa_nil))) (pa_cons (pe_fn (fn_bought L) hr (by decide) (by rfl) (pa_cons (pv 4) (pa_cons pe_int pa_nil))) pa_nil)))))
    (pss_cons (ps_set (i := 6) sc__law_by_hand_right.nd rfl (Or.inl rfl) (pe_op (k_add (K := K) rfl) (pv 6) (pe_lst (pa_cons (pe_fn (fn_spilled L) hr (by decide) (by rfl) (pa_cons (pv 5) (pa_cons pe_int pa_nil))) pa_nil))))
    (pss_one (ps_ret (pe_fn (fn__law_same L) hr (by decide) (by rfl) (pa_cons (pv 6) (pa_cons (pe_lst (pa_cons (pe_op (k_mul (K := K) rfl) pe_int (pe_op op_pow pe_int pe_int)) (pa_cons (pe_tup (pa_cons (pe_tup (pa_cons pe_int (pa_cons (pe_op op_sub (pv 0) pe_int) pa_nil))) pa_nil)) (pa_cons (pe_op op_sub (pv 0) pe_int) (pa_cons (pe_op op_sub (pv 0) pe_int) pa_nil))))) pa_nil)))))))))))))), ?_⟩
  rintro ds d ⟨u, _, rfl, rfl⟩
  show StD K C _ _ (fun _ => DV.bl true = .non) (fun r => r = .bl true)
  refine st_let (d := .int (10 ^ 30)) (ev_powI ev_int ev_int ((⟨by decide, by decide, by decide⟩ : CPow 10 30))) ?_
  refine st_let (d := .lst (rows6.map rowD)) (ev_lst (ea_cons (ev_tup (ea_cons ev_int (ea_cons (ev_neg ev_int) (ea_cons ev_int (ea_cons (ev_neg ev_int) ea_nil)))) (Nat.le_of_ble_eq_true rfl)) (ea_cons (ev_tup (ea_cons ev_int (ea_cons (ev_neg ev_int) (ea_cons ev_int (ea_cons (ev_neg ev_int) ea_nil)))) (Nat.le_of_ble_eq_true rfl)) (ea_cons (ev_tup (ea_cons ev_int (ea_cons (ev_neg ev_int) ea_nil)) (Nat.le_of_ble_eq_true rfl)) (ea_cons (ev_tup (ea_cons ev_int (ea_cons ev_int ea_nil)) (Nat.le_of_ble_eq_true rfl)) (ea_cons (ev_tup (ea_cons (ev_neg ev_int) ea_nil) (Nat.le_of_ble_eq_true rfl)) (ea_cons (ev_tup (ea_cons ev_int (ea_cons (ev_neg ev_int) (ea_cons ev_int (ea_cons (ev_neg ev_int) (ea_cons ev_int (ea_cons (ev_neg ev_int) ea_nil)))))) (Nat.le_of_ble_eq_true rfl)) ea_nil)))))) (Nat.le_of_ble_eq_true rfl)) ?_
  refine st_let (d := .lst (rows8.map rowD)) (EvD.is (ev_addL (ds := rows6.map rowD) (es := [rowD [7, -7, 6, -6], rowD [5, -3, 3, -3]]) (ev_var rfl) (ev_lst (ea_cons (ev_tup (ea_cons ev_int (ea_cons (ev_neg ev_int) (ea_cons ev_int (ea_cons (ev_neg ev_int) ea_nil)))) (Nat.le_of_ble_eq_true rfl)) (ea_cons (ev_tup (ea_cons ev_int (ea_cons (ev_neg ev_int) (ea_cons ev_int (ea_cons (ev_neg ev_int) ea_nil)))) (Nat.le_of_ble_eq_true rfl)) ea_nil)) (Nat.le_of_ble_eq_true rfl)) (by decide)) rfl) ?_
  refine st_let (d := .lst (rows8.map DV.yr)) (EvD.is (ev_lcY (b := DV.yr) (as := rows8) (a := rowD) (fun l => l) (it_list (ev_var rfl)) (by decide) (by decide) fun l hl => ⟨_, tg_name, ev_year (ev_var rfl) (.inr rfl) (rows_sm l hl).1⟩) (by rw [List.map_id'])) ?_
  refine st_seq (M := fun δ => ∃ o, δ = [some (.int (10 ^ 30)), some (.lst (rows8.map rowD)), some (.lst (rows8.map DV.yr)), o, none, none, none, none, none, none]) (st_for (xs := rows8.map DV.yr) (fun i δ => ∃ o, δ = [some (.int (10 ^ 30)), some (.lst (rows8.map rowD)), some (.lst (rows8.map DV.yr)), o, none, none, none, none, none, none]) (it_list (ev_var rfl)) ⟨none, rfl⟩ ?_ fun _ h => h) ?_
  · rintro i d δ1 hi ⟨o, rfl⟩
    rw [List.getElem?_map] at hi
    obtain ⟨a, ha, rfl⟩ := Option.map_eq_some_iff.mp hi
    have sa := rows_sm a (List.mem_of_getElem? ha)
    have s5 : Sm [9, -9, 2, -2, 2, -2] := rows_sm _ (by decide)
    refine ⟨_, _, tg_name, ?_⟩
    refine st_when (b := false) (EvT.is (et_not (et_B (ev_cb1 (ev_lcY (b := DV.bl) (as := rows8) (a := DV.yr) (fun _ => true) (it_list (ev_var rfl)) (by decide) (by decide) fun m hm => ⟨_, tg_name, (ev_fn (ea_cons (ev_var rfl) (ea_cons (ev_var rfl) ea_nil)) (⟨(a, m), sm_two sa (rows_sm m hm), rfl, rfl⟩))⟩) rc_all))) (by rw [all_yes]; rfl)) (fun h => by cases h) fun _ => ?_
    refine st_when (b := false) (EvT.is (et_not (et_B (ev_cb1 (ev_lcY (b := DV.bl) (as := rows8) (a := DV.yr) (fun _ => true) (it_list (ev_var rfl)) (by decide) (by decide) fun m hm => ⟨_, tg_name, (ev_fn (ea_cons (ev_var rfl) (ea_cons (ev_var rfl) (ea_cons (ev_ix (ev_var rfl) (.inl rfl) ev_int ((atI_nat (j := 5) rfl : atI (rows8.map DV.yr) 5 = some (.yr [9, -9, 2, -2, 2, -2])))) ea_nil))) (⟨(a, m, [9, -9, 2, -2, 2, -2]), sm_three sa (rows_sm m hm) s5, rfl, rfl⟩))⟩) rc_all))) (by rw [all_yes]; rfl)) (fun h => by cases h) fun _ => ?_
    refine st_if (b := false) (EvT.is (et_not (et_B (ev_cb1 (ev_lcY (b := DV.bl) (as := [1, -2, 5]) (a := DV.int) (fun _ => true) (it_tup (ev_tup (ea_cons ev_int (ea_cons (ev_neg ev_int) (ea_cons ev_int ea_nil))) (Nat.le_of_ble_eq_true rfl))) (by decide) (by decide) fun m hm => ⟨_, tg_name, (ev_fn (ea_cons (ev_var rfl) (ea_cons (ev_var rfl) (ea_cons ev_int ea_nil))) (⟨((a, m), 2), ⟨sm_put sa (by simp at hm; omega), by show (0 : Int) ≤ 2; decide⟩, rfl, rfl⟩))⟩) rc_all))) (by rw [all_yes]; rfl)) (fun h => by cases h) fun _ => st_next ⟨_, rfl⟩
  · rintro δ1 ⟨o, rfl⟩
    refine st_par (d1 := .yr greatR) (d2 := .yr halfR) (ea_cons (ev_year (rs := greatR) (ev_tup (ea_cons (ev_var rfl) (ea_cons (ev_neg (ev_var rfl)) ea_nil)) (Nat.le_of_ble_eq_true rfl)) (.inr rfl) great_ok.1.1.1.1) (ea_cons (ev_year (rs := halfR) (EvD.is (ev_repT (n := 2) (ds := [.int (5 * 10 ^ 29), .int (-5 * 10 ^ 29)]) (ev_tup (ea_cons (ev_mulI ev_int (ev_powI ev_int ev_int ((⟨by decide, by decide, by decide⟩ : CPow 10 29))) (.inl (by decide))) (ea_cons (ev_mulI (ev_neg ev_int) (ev_powI ev_int ev_int ((⟨by decide, by decide, by decide⟩ : CPow 10 29))) (.inl (by decide))) ea_nil)) (Nat.le_of_ble_eq_true rfl)) ev_int (by decide) (by decide) (fun z => nomatch z) (Nat.le_of_ble_eq_true rfl)) rfl) (.inr rfl) great_ok.2.1.1.1) ea_nil)) ?_
    refine st_when (b := false) (EvT.is (et_or (a := false) (b := false) (EvT.is (et_not (et_B (ev_fn (ea_cons (ev_var rfl) (ea_cons (ev_var rfl) ea_nil)) ⟨(greatR, halfR), great_ok.1, rfl, rfl⟩))) rfl) fun _ => EvT.is (et_not (et_B (ev_fn (ea_cons (ev_var rfl) (ea_cons (ev_var rfl) ea_nil)) ⟨(halfR, greatR), great_ok.2, rfl, rfl⟩))) rfl) rfl) (fun h => by cases h) fun _ => ?_
    refine st_let (d := .lst [.int (5 * 10 ^ 29), .tup [.tup [.int 1, .int (10 ^ 30 - 1)]], .int (10 ^ 30 - 1)]) (ev_lst (ea_cons (EvD.is (ev_fn (ea_cons (ev_var rfl) (ea_cons (ev_var rfl) ea_nil)) (⟨(greatR, halfR), great_ok.1.1.1, rfl, rfl⟩)) (congrArg DV.int great_mo)) (ea_cons (EvD.is (ev_fn (ea_cons (ev_var rfl) (ea_cons (ev_var rfl) ea_nil)) (⟨(greatR, halfR), great_ok.1.1, rfl, rfl⟩)) (by show DV.tup ((spansP (greatR, halfR)).map spnD) = _; rw [great_sp]; rfl)) (ea_cons (EvD.is (ev_fn (ea_cons (ev_var rfl) (ea_cons ev_int ea_nil)) (⟨(greatR, 1), great_ok.1.1.1.1, rfl, rfl⟩)) (congrArg DV.int great_buy)) ea_nil))) (Nat.le_of_ble_eq_true rfl)) ?_
    refine st_let (d := .lst [.int (5 * 10 ^ 29), .tup [.tup [.int 1, .int (10 ^ 30 - 1)]], .int (10 ^ 30 - 1), .int (10 ^ 30 - 2)]) (ev_addL (ds := [.int (5 * 10 ^ 29), .tup [.tup [.int 1, .int (10 ^ 30 - 1)]], .int (10 ^ 30 - 1)]) (es := [.int (10 ^ 30 - 2)]) (ev_var rfl) (ev_lst (ea_cons (EvD.is (ev_fn (ea_cons (ev_var rfl) (ea_cons ev_int ea_nil)) (⟨(halfR, 1), great_ok.2.1.1.1, rfl, rfl⟩)) (congrArg DV.int half_spill)) ea_nil) (Nat.le_of_ble_eq_true rfl)) (Nat.le_of_ble_eq_true rfl)) ?_
    exact st_retR (ev_fn (ea_cons (ev_var rfl) (ea_cons (ev_lst (ea_cons (ev_mulI ev_int (ev_powI ev_int ev_int ((⟨by decide, by decide, by decide⟩ : CPow 10 29))) (.inl (by decide))) (ea_cons (ev_tup (ea_cons (ev_tup (ea_cons ev_int (ea_cons (ev_subI (ev_var rfl) ev_int) ea_nil)) (Nat.le_of_ble_eq_true rfl)) ea_nil) (Nat.le_of_ble_eq_true rfl)) (ea_cons (ev_subI (ev_var rfl) ev_int) (ea_cons (ev_subI (ev_var rfl) ev_int) ea_nil)))) (Nat.le_of_ble_eq_true rfl)) ea_nil)) ⟨.lst [.int (5 * 10 ^ 29), .tup [.tup [.int 1, .int (10 ^ 30 - 1)]], .int (10 ^ 30 - 1), .int (10 ^ 30 - 2)], by rfl, rfl, rfl⟩)
end
end Dt
set_option Elab.async false
set_option linter.all false
set_option maxRecDepth 100000
set_option maxHeartbeats 8000000
/-! Draws from a box of three numbers. -/
namespace Dt
open PySem PySem.Spec PyProof.Rows L2
open Evl (Ex)
section
variable {P : Program} {w : World} {K : Frag} {mg : Str → Option Value} {base : Heap} {C : Addr} {x qual : Str} {st : Stmt} {f : Addr} {fd : FuncData} {N ps : List Str} {k : Nat} {α : Type} {arg : α → List DV} {Pf : α → Res} {Rf : α → DV → Res}
theorem fnr_mut (F : FnP K x qual st f fd) (S : FnScope N ps (defScope st)) (hb : ∀ (kV doc pm : Value) (an : Option Addr) (cdv ct : Value) (us : List Value), us.length = ps.length → bindArgs (PySem.W.fnOf x qual (defArgs st) (defBody st) (defScope st) .none kV doc pm an cdv ct) ⟨us, []⟩ = pure (ps.zip us))
    (hlen : ∀ a, (arg a).length = ps.length)
    (hbody : ∀ (cdv : Value) (A : Around) (outer : List PySem.Env) (s : Shared) (H : Hp) (E : XK), Room k (A.deeper (envOfC qual (defScope st) s.heap.objs.size f cdv)) →
      ∃ t, PSs (cxOf CX0 P w K mg base N qual (defScope st) f cdv A outer s H E).nox (defBody st) t ∧ ∀ a, StM K C t (startD N (arg a)) (Pf a) (fun _ W O H => Rf a .non W O H) (Rf a)) : FnR P w K mg base CX0 (k + 1) f (spM K C arg Pf Rf) :=
  fnr_raw F S hb (fun vs H Q E h => by
    obtain ⟨a, W, O, _, _, r, _⟩ := h
    rw [r.len]
    exact hlen a) fun cdv A outer s H E hr => by
    obtain ⟨t, ht, hs⟩ := hbody cdv A outer s H E hr
    refine ⟨t, ht, fun vs Q h => ?_⟩
    obtain ⟨a, W, O, ok, p, r, q⟩ := h
    exact hs a W O _ H _ ok (env_start r) p (fun δ' σ' H' n c ok' _ => q .non .non H' n c ok' .non) fun d v H' rr c ok' w' => q d v H' rr c ok' w'
end
section
variable {K : Frag} {C : Addr} {δ : Den} {d d1 d2 : DV} {ta tb te ti : TE} {tt : TT} {t u : TS} {ds : List DV} {P P' : Res} {R : DV → Res} {N : Den → Res} {i j : Nat} {p : Addr} {b : Bool}
theorem sm_when (h : EtM K C tt δ P (fun x W O H => x = b ∧ P' W O H)) (h1 : b = true → StM K C t δ P' (fun _ _ _ _ => False) R) (h2 : b = false → StM K C u δ P' N R) : StM K C (tSeq (tIfS tt t tNext) u) δ P N R :=
  sm_seq (M := fun δ' W O H => δ' = δ ∧ b = false ∧ P' W O H) (sm_if h (sm_told (A := b = true) (fun W O H z => z.1.symm) fun hb => sm_post (sm_pre (h1 hb) fun W O H z => z.2) (fun _ _ _ _ z => z.elim) fun _ _ _ _ z => z) (sm_told (A := b = false) (fun W O H z => z.1.symm) fun hb => sm_next fun W O H z => ⟨rfl, hb, z.2⟩)) fun δ' => sm_told (A := δ' = δ ∧ b = false) (fun W O H z => ⟨z.1, z.2.1⟩) fun ⟨e, hb⟩ => by
    subst e
    exact sm_pre (h2 hb) fun W O H z => z.2.2
theorem sm_letE (h : EvM K C te δ P (fun x W O H => x = d ∧ P' W O H)) (k : StM K C u (δ.set i (some d)) P' N R) : StM K C (tSeq (tAsg te (gName i)) u) δ P N R := sm_let h fun x => sm_told (A := x = d) (fun W O H z => z.1) fun e => by
  subst e
  exact sm_pre k fun W O H z => z.2
theorem sm_setE {k : Int} (hi : δ[i]? = some (some (.adr p))) (h : EvM K C te δ P (fun x W O H => x = d ∧ own K C p ds W O H)) (hk : EvD K C ti δ (.int k)) (hj : ixN ds.length k = some j) (kk : StM K C u δ (own K C p (ds.set j d)) N R) : StM K C (tSeq (tAsg te (gSub (tVar i) ti L2.rSetL)) u) δ P N R :=
  sm_seq (sm_set (F := fun x _ _ _ => x = d) hi (em_post h fun x W O H z => ⟨z.2, z.1⟩) hk (fun _ _ _ _ _ _ _ z => z) hj fun _ _ _ _ _ z => z) fun δ' => sm_told (A := δ' = δ) (fun W O H z => z.1) fun e => by
    subst e
    refine sm_pre kk fun W O H z => ?_
    obtain ⟨_, x, o, rfl⟩ := z
    exact o
/-- x, y = .. -/
theorem sm_par {S : List DV → Res} {ts : TA} (h : EaM K C ts δ P S) (hS : ∀ ds W O H, S ds W O H → ∃ x y, ds = [x, y]) (k : ∀ x y, StM K C u ((δ.set i (some x)).set j (some y)) (S [x, y]) N R) : StM K C (tSeq (tPar i j ts) u) δ P N R := fun W O σ H D ok e p q1 q2 =>
  h W O σ H (fun vs H1 => ∃ a b, vs = [a, b] ∧ u D ((σ.set i (some a)).set j (some b)) H1) ok e p fun ds vs H1 s1 c1 ok1 r1 => by
    obtain ⟨x, y, rfl⟩ := hS ds W O H1 s1
    obtain ⟨a, b, rfl, ra, rb⟩ := reps2 r1
    exact ⟨a, b, rfl, k x y W O _ H1 D ok1 (((e.to (c1.msk ok)).set ra).set rb) s1 (fun δ2 σ2 H2 n c2 => q1 δ2 σ2 H2 n (c1.trans c2)) fun d v H2 r c2 => q2 d v H2 r (c1.trans c2)⟩
end
/-- the box at b: three numbers, the last from 0 to n -/
def boxR (b : Addr) (n : Nat) : Res := fun W _ H => W b = true ∧ ∃ t : Int × Int × Int, (0 ≤ t.2.2 ∧ t.2.2 ≤ (n : Int)) ∧ H b = some (.lst [.int t.1, .int t.2.1, .int t.2.2])
theorem box_stab {b : Addr} {n : Nat} : Stab (boxR b n) := fun W O H H' ok e h => by
  obtain ⟨w, t, ht, hb⟩ := h
  exact ⟨w, t, ht, e _ _ hb⟩
theorem box_more {b : Addr} {n m : Nat} {W O : AS} {H : Hp} (h : boxR b n W O H) (hm : n ≤ m) : boxR b m W O H := by
  obtain ⟨w, t, ht, hb⟩ := h
  exact ⟨w, t, ⟨ht.1, by omega⟩, hb⟩
theorem box_own {K : Frag} {C : Addr} {b : Addr} {x y z : Int} {W O : AS} {H : Hp} (w : W b = true) (h : H b = some (.lst [.int x, .int y, .int z])) : own K C b (dis [x, y, z]) W O H := ⟨w, _, h, .of_ints K C _ [x, y, z]⟩
theorem own_box {K : Frag} {C : Addr} {b : Addr} {x y z : Int} {n : Nat} {W O : AS} {H : Hp} (h : own K C b (dis [x, y, z]) W O H) (hz : 0 ≤ z ∧ z ≤ (n : Int)) : boxR b n W O H := by
  obtain ⟨w, vs, hb, r⟩ := h
  have e := r.ints_eq (ns := [x, y, z])
  subst e
  exact ⟨w, (x, y, z), hz, hb⟩
section
variable {P : Program} {w : World} {K : Frag} {mg : Str → Option Value} {base : Heap} {C D : Addr}
abbrev TakeA := Addr × Nat × Nat
def sp_take (K : Frag) (C : Addr) : Sp := spM K C (fun a : TakeA => [.adr a.1, .int (a.2.1 : Int)]) (fun a W O H => (0 < a.2.1 ∧ a.2.1 ≤ 100000 ∧ a.2.2 ≤ 100000) ∧ boxR a.1 a.2.2 W O H) (fun a d W O H => ∃ r : Nat, (d = .int (r : Int) ∧ r < a.2.1) ∧ boxR a.1 (a.2.2 + 1) W O H)
theorem mod_nat {x : Int} {n : Nat} (h : 0 < n) : ∃ r : Nat, DV.int (x % (n : Int)) = .int (r : Int) ∧ r < n := by
  have h1 := Int.emod_nonneg x (show (n : Int) ≠ 0 by omega)
  have h2 := Int.emod_lt_of_pos x (show (0 : Int) < n by omega)
  obtain ⟨r, hr⟩ := Int.eq_ofNat_of_zero_le h1
  exact ⟨r, by rw [hr], by omega⟩
theorem fn__law_take (L : Loc K mg C D) : FnAt P w K mg base "_law_take" 1 (sp_take K C) := by
  obtain ⟨f, fd, F, hm⟩ := L.l__law_take
  refine fnat_of hm F (fnr_mut F sc__law_take (fun _ _ _ _ _ _ us h => ?_) (fun _ => rfl) ?_)
  · obtain ⟨a, b, rfl⟩ := two_of h
    rfl
  intro cdv A outer s H E hr
  refine ⟨_, (pss_cons (ps_if (pt_cmpR op_gt (pe_ix (k_ix (K := K) rfl) (pv 0) pe_int (fun _ _ => rfl)) pe_int (nomark _)) (pss_cons (ps_set (i := 2) sc__law_take.nd rfl (Or.inl rfl) (pe_op op_mod (pe_callTy call_int1 (by rfl) L.b_int bb_int (pa_cons (pe_ix (k_ix (K := K) rfl) (pv 0) pe_int (fun _ _ => rfl)) pa_nil)) (pv 1)))
    (pss_cons (ps_asg (pe_op op_fdivW (pe_ix (k_ix (K := K) rfl) (pv 0) pe_int (fun _ _ => rfl)) (pv 1)) (pg_sub (pv 0) pe_int set_list))
    (pss_one (ps_ret (pv 2))))) pss_nil)
    (pss_cons (ps_asg (pe_op (k_add (K := K) rfl) (pe_ix (k_ix (K := K) rfl) (pv 0) pe_int (fun _ _ => rfl)) pe_int) (pg_sub (pv 0) pe_int set_list))
    (pss_cons (ps_set (i := 3) sc__law_take.nd rfl (Or.inl rfl) (pe_op op_mod (pe_callTy call_int1 (by rfl) L.b_int bb_int (pa_cons (pe_op (k_mul (K := K) rfl) (pe_op (k_add (K := K) rfl) (pe_ix (k_ix (K := K) rfl) (pv 0) pe_int (fun _ _ => rfl)) (pe_op (k_mul (K := K) rfl) pe_int (pe_ix (k_ix (K := K) rfl) (pv 0) pe_int (fun _ _ => rfl)))) (pe_op (k_add (K := K) rfl) pe_int (pe_ix (k_ix (K := K) rfl) (pv 0) pe_int (fun _ _ => rfl)))) pa_nil)) pe_int))
    (pss_cons (ps_set (i := 4) sc__law_take.nd rfl (Or.inl rfl) (pe_op (k_add (K := K) rfl) (pe_op op_mod (pe_callTy call_int1 (by rfl) L.b_int bb_int (pa_cons (pv 3) pa_nil)) pe_int) pe_int))
    (pss_cons (ps_set (i := 5) sc__law_take.nd rfl (Or.inl rfl) (pe_op op_mod (pe_callTy call_int1 (by rfl) L.b_int bb_int (pa_cons (pe_op (k_mul (K := K) rfl) (pe_op (k_add (K := K) rfl) (pe_op (k_add (K := K) rfl) (pv 3) (pe_ix (k_ix (K := K) rfl) (pv 0) pe_int (fun _ _ => rfl))) (pe_op op_fdivW (pe_ix (k_ix (K := K) rfl) (pv 0) pe_int (fun _ _ => rfl)) pe_int)) (pv 4)) pa_nil)) pe_int))
    (pss_one (ps_ret (pe_op op_mod (pe_callTy call_int1 (by rfl) L.b_int bb_int (pa_cons (pe_op op_fdivW (pe_op op_mod (pe_callTy call_int1 (by rfl) L.b_int bb_int (pa_cons (pe_op (k_add (K := K) rfl) (pe_op (k_mul (K := K) rfl) (pv 5) pe_int) (pv 3)) pa_nil)) pe_int) pe_int) pa_nil)) (pv 1))))))))), ?_⟩
  rintro ⟨b, m, n⟩
  refine sm_told (A := 0 < m ∧ m ≤ 100000 ∧ n ≤ 100000) (fun W O H h => h.1) fun ⟨m0, m1, n1⟩ => ?_
  refine sm_pre (P := fun W O H => ∃ t : Int × Int × Int, (0 ≤ t.2.2 ∧ t.2.2 ≤ (n : Int)) ∧ own K C b (dis [t.1, t.2.1, t.2.2]) W O H) ?_ fun W O H h => by
    obtain ⟨_, w, t, ht, hb⟩ := h
    exact ⟨t, ht, box_own w hb⟩
  refine sm_ex fun ⟨x, y, z⟩ => sm_told (A := 0 ≤ z ∧ z ≤ (n : Int)) (fun W O H h => h.1) fun hz => sm_pre (P := own K C b (dis [x, y, z])) ?_ fun W O H h => h.2
  have oo : ∀ (l : List DV) (W O : AS) (H : Hp), own K C b l W O H → own K C b l W O H := fun _ _ _ _ h => h
  have a0 : ∀ p q r : Int, atI (dis [p, q, r]) 0 = some (.int p) := fun p q r => atI_nat (j := 0) rfl
  have a1 : ∀ p q r : Int, atI (dis [p, q, r]) 1 = some (.int q) := fun p q r => atI_nat (j := 1) rfl
  have a2 : ∀ p q r : Int, atI (dis [p, q, r]) 2 = some (.int r) := fun p q r => atI_nat (j := 2) rfl
  refine sm_when (b := decide (0 < x)) (etm_peek (i := 0) (p := b) (ds := dis [x, y, z]) rfl (et_test (ev_gtI (ev_ix (ev_var rfl) (.inl rfl) ev_int (a0 x y z)) ev_int)) own_stab (oo _)) (fun _ => ?_) fun _ => ?_
  · refine sm_letE (em_peek (i := 0) (p := b) (ds := dis [x, y, z]) rfl (ev_modI (ev_cb1 (ev_ix (ev_var rfl) (.inl rfl) ev_int (a0 x y z)) rc_int) (ev_var rfl) (Int.natCast_pos.mpr m0)) rfl own_stab (oo _)) ?_
    refine sm_setE (p := b) (ds := dis [x, y, z]) (j := 0) rfl (em_peek (i := 0) (p := b) (ds := dis [x, y, z]) rfl (ev_divI (ev_ix (ev_var rfl) (.inl rfl) ev_int (a0 x y z)) (ev_var rfl) (div_wide (Int.natCast_pos.mpr m0) (by show (m : Int) ≤ 2 ^ 150; omega))) rfl own_stab (oo _)) ev_int rfl ?_
    refine sm_ret (em_post (em_pure (ev_var rfl) own_stab) fun d W O H h => ?_)
    obtain ⟨rfl, h⟩ := h
    obtain ⟨r, e, hr⟩ := mod_nat (x := x) m0
    exact ⟨r, ⟨e, hr⟩, own_box (x := x / (m : Int)) (y := y) (z := z) h ⟨hz.1, by show z ≤ ((n + 1 : Nat) : Int); omega⟩⟩
  · refine sm_setE (p := b) (ds := dis [x, y, z]) (j := 2) rfl (em_peek (i := 0) (p := b) (ds := dis [x, y, z]) rfl (ev_addI (ev_ix (ev_var rfl) (.inl rfl) ev_int (a2 x y z)) ev_int) rfl own_stab (oo _)) ev_int rfl ?_
    show StM K C _ _ (own K C b (dis [x, y, z + 1])) _ _
    refine sm_letE (em_peek (i := 0) (p := b) (ds := dis [x, y, z + 1]) rfl (ev_modI (ev_cb1 (ev_mulI (ev_addI (ev_ix (ev_var rfl) (.inl rfl) ev_int (a1 x y (z + 1))) (ev_mulI ev_int (ev_ix (ev_var rfl) (.inl rfl) ev_int (a2 x y (z + 1))) (.inl ⟨by decide, by decide⟩))) (ev_addI ev_int (ev_ix (ev_var rfl) (.inl rfl) ev_int (a2 x y (z + 1)))) (.inr ⟨by omega, by omega⟩)) rc_int) ev_int (by decide)) rfl own_stab (oo _)) ?_
    generalize hon : (y + 48271 * (z + 1)) * (39373 + (z + 1)) % 2147483647 = once
    refine sm_letE (em_pure (ev_addI (ev_modI (ev_cb1 (ev_var rfl) rc_int) ev_int (by decide)) ev_int) own_stab) ?_
    have f1 := Int.emod_nonneg once (show (40009 : Int) ≠ 0 by decide)
    have f2 := Int.emod_lt_of_pos once (show (0 : Int) < 40009 by decide)
    generalize hfar : once % 40009 + 7 = far at *
    refine sm_letE (em_peek (i := 0) (p := b) (ds := dis [x, y, z + 1]) rfl (ev_modI (ev_cb1 (ev_mulI (ev_addI (ev_addI (ev_var rfl) (ev_ix (ev_var rfl) (.inl rfl) ev_int (a2 x y (z + 1)))) (ev_divI (ev_ix (ev_var rfl) (.inl rfl) ev_int (a1 x y (z + 1))) ev_int (div_wide (by decide) (by decide)))) (ev_var rfl) (.inr ⟨by omega, by omega⟩)) rc_int) ev_int (by decide)) rfl own_stab (oo _)) ?_
    generalize (once + (z + 1) + y / 1000003) * far % 2147483629 = again
    refine sm_ret (em_post (em_pure (ev_modI (ev_cb1 (ev_divI (ev_modI (ev_cb1 (ev_addI (ev_mulI (ev_var rfl) ev_int (.inr ⟨by decide, by decide⟩)) (ev_var rfl)) rc_int) ev_int (by decide)) ev_int (div_wide (by decide) (by decide))) rc_int) (ev_var rfl) (Int.natCast_pos.mpr m0)) own_stab) fun d W O H h => ?_)
    obtain ⟨rfl, h⟩ := h
    obtain ⟨r, e, hr⟩ := mod_nat (x := (again * 48271 + once) % 2147483587 / 64) m0
    exact ⟨r, ⟨e, hr⟩, own_box (x := x) (y := y) (z := z + 1) h ⟨by omega, by show z + 1 ≤ ((n + 1 : Nat) : Int); omega⟩⟩
end
end Dt
set_option Elab.async false
set_option linter.all false
set_option maxRecDepth 100000
set_option maxHeartbeats 8000000
/-! Runs that are drawn. -/
namespace Dt
open PySem PySem.Spec PyProof.Rows L2
open Evl (Ex)
abbrev only (b : Addr) : AS := fun a => decide (a = b)
section
variable {K : Frag} {C : Addr} {δ : Den} {d d1 d2 : DV} {ta tb te ti : TE} {tt : TT} {t u : TS} {ts : TA} {ds : List DV} {P P' : Res} {R : DV → Res} {N : Den → Res} {g : TG} {i j : Nat} {p b : Addr}
/-- what stays when the box alone changes -/
def Off (b : Addr) (F : Res) : Prop := ∀ (W O : AS) (H H' : Hp), OkA (only b) O H → Ch (only b) H H' → F W O H → F W O H'
theorem off_own {p : Addr} {ds : List DV} : Off b (fun W O H => b ≠ p ∧ own K C p ds W O H) := fun W O H H' ok c h => by
  obtain ⟨ne, w, vs, hp, r⟩ := h
  exact ⟨ne, w, vs, c _ _ hp (decide_eq_false (Ne.symm ne)), r.mono (c.msk ok)⟩
theorem off_true : Off b (fun _ _ _ => True) := fun _ _ _ _ _ _ _ => True.intro
/-- a call that changes the box alone -/
theorem em_box {α : Type} {arg : α → List DV} {Pf : α → Res} {Rf : α → DV → Res} {F : Res} {S : List DV → Res} {Rr : DV → Res} (h : EaM K C ts δ P (fun ds W O H => S ds W O H ∧ F W O H)) (hF : Off b F)
    (hs : ∀ ds W O H, S ds W O H → W b = true ∧ ∃ a, ds = arg a ∧ Pf a (only b) O H ∧ ∀ d H', Rf a d (only b) O H' → W b = true → Rr d W O H') : EvM K C (tFn (spM K C arg Pf Rf) ts) δ P (fun d W O H => Rr d W O H ∧ F W O H) := fun W O σ H Q ok e p q =>
  h W O σ H _ ok e p fun ds vs H1 ⟨s1, f1⟩ c1 ok1 r1 => by
    obtain ⟨wb, a, rfl, hp, hr⟩ := hs ds W O H1 s1
    have okb : OkA (only b) O H1 := ⟨fun x z => ok1.sub x (by rw [of_decide_eq_true z]; exact wb), ok1.good⟩
    refine ⟨a, only b, O, okb, hp, r1, fun d v H2 r2 c2 ok2 w2 => ?_⟩
    have c3 : Ch W H1 H2 := fun x o z k => c2 x o z (decide_eq_false fun y => by rw [y, wb] at k; cases k)
    exact q d v H2 ⟨hr d H2 r2 wb, hF W O H1 H2 okb c2 f1⟩ (c1.trans c3) ⟨ok1.sub, ok2.good⟩ w2
theorem box_W {n : Nat} {W O W' O' : AS} {H : Hp} (h : boxR b n W O H) (w : W' b = true) : boxR b n W' O' H := ⟨w, h.2⟩
theorem em_take {m n : Nat} {F : Res} (h : EaM K C ts δ P (fun ds W O H => (ds = [.adr b, .int (m : Int)] ∧ boxR b n W O H) ∧ F W O H)) (hm : 0 < m ∧ m ≤ 100000) (hn : n ≤ 100000) (hF : Off b F) :
    EvM K C (tFn (sp_take K C) ts) δ P (fun d W O H => (∃ r : Nat, (d = .int (r : Int) ∧ r < m) ∧ boxR b (n + 1) W O H) ∧ F W O H) :=
  em_box h hF fun ds W O H s => ⟨s.2.1, (b, m, n), s.1, ⟨⟨hm.1, hm.2, hn⟩, box_W s.2 (decide_eq_true rfl)⟩, fun d H' r w => by
    obtain ⟨k, hk, hb⟩ := r
    exact ⟨k, hk, box_W hb w⟩⟩
theorem etm_test {S : Bool → Res} (h : EvM K C te δ P (fun d W O H => ∃ b, d = .bl b ∧ S b W O H)) : EtM K C (tTest te) δ P S := fun W O σ H Q ok e p q => h W O σ H _ ok e p fun d v H1 ⟨b, e1, s⟩ c1 ok1 r1 => by
  subst e1
  exact ⟨b, r1.bl_eq, q b H1 s c1 ok1⟩
theorem r2_eqI {i j : Int} : R2D K C rEq (.int i) (.int j) (.bl (decide (i = j))) := fun O H x y Q _ r1 r2 q => by
  rw [r1.int_eq, r2.int_eq]
  refine ⟨rfl, ?_⟩
  rw [dec_int, Bool.beq_eq_decide_eq]
  exact q _ H (Evl.Ex.refl H) (.bl _)
theorem r2_addI {i j : Int} : R2D K C (rAddU K) (.int i) (.int j) (.int (i + j)) := r2_l (r2_I0 (g := fun i j => .int (i + j)) rfl)
theorem r2_mulI {i j : Int} (hc : CMul i j) : R2D K C (rMulU K) (.int i) (.int j) (.int (i * j)) := r2_l (r2_I (g := fun i j => .int (i * j)) hc rfl)
/-- for x in range(e), where e changes things -/
theorem sm_forR (I : Nat → Nat → Den → Res) (h : EvM K C ta δ P (fun d W O H => ∃ m : Nat, (d = .int (m : Int) ∧ m ≤ 1000) ∧ I m 0 δ W O H)) (hst : ∀ m i δ1, Stab (I m i δ1))
    (hs : ∀ m i δ1, i < m → (∃ W O H, I m i δ1 W O H) → ∃ is δ2, TgD K C is g (.int (i : Int)) δ1 δ2 ∧ StM K C t δ2 (I m i δ1) (I m (i + 1)) R) (hd : ∀ m δ1 W O H, I m m δ1 W O H → N δ1 W O H) : StM K C (tFor (iRng1 (tCons ta tNil)) g t) δ P N R := fun W O σ H D ok e p q1 q2 =>
  h W O σ H _ ok e p fun d v H1 ⟨m, ⟨ed, hm⟩, i0⟩ c1 ok1 r1 => by
    subst ed
    refine ⟨(m : Int), by rw [r1.int_eq], by omega, by omega, ?_⟩
    have w := walk_range (lo := 0) (n := ((m : Int)).toNat)
    have em : ((m : Int) - 0).toNat = m := by omega
    have e1 := e.to (c1.msk ok)
    refine for_it (w := w) (fun i σ' H' => Ch W H1 H' ∧ OkA W O H' ∧ ∃ δ1, I m i δ1 W O H' ∧ EnvD K C O H' σ' δ1) ⟨.refl, ok1, δ, i0, e1⟩ (fun i σ' H' _ pv => True.intro) ?_ ?_
    · rintro i x σ' H2 H3 hlt ⟨c, ok2, δ1, hI, env⟩ y
      obtain ⟨e3, ex⟩ := y
      subst e3
      have ei : i < m := by
        have : ((m : Int)).toNat = m := by omega
        omega
      obtain ⟨is, δ2, htg, hst2⟩ := hs m i δ1 ei ⟨W, O, _, hI⟩
      have rx : Rep K C (msk O H3) x (.int (i : Int)) := by
        rw [ex]
        show Rep K C _ (V.int (0 + (i : Int))) _
        rw [Int.zero_add]
        exact .int _
      refine htg O σ' H3 x _ env rx fun σ2 env2 _ => ?_
      exact hst2 W O σ2 H3 _ ok2 env2 hI (fun δ3 σ3 H4 n c4 ok4 env4 => ⟨c.trans c4, ok4, δ3, n, env4⟩) fun d v H4 r c4 ok4 rr => q2 d v H4 r ((c1.trans c).trans c4) ok4 rr
    · rintro σ' H2 ⟨c, ok2, δ1, hI, env⟩
      have : ((m : Int)).toNat = m := by omega
      rw [this] at hI
      exact q1 δ1 σ' H2 (hd m δ1 W O H2 hI) (c1.trans c) ok2 env
end
section
variable {P : Program} {w : World} {K : Frag} {mg : Str → Option Value} {base : Heap} {C D : Addr}
abbrev OfA := Addr × List DV × Nat
def sp_of (K : Frag) (C : Addr) : Sp := spM K C (fun a : OfA => [.adr a.1, .lst a.2.1]) (fun a W O H => (a.2.1 ≠ [] ∧ a.2.1.length ≤ 1000 ∧ a.2.2 ≤ 100000) ∧ boxR a.1 a.2.2 W O H) (fun a d W O H => d ∈ a.2.1 ∧ boxR a.1 (a.2.2 + 1) W O H)
theorem fn__law_of (L : Loc K mg C D) : FnAt P w K mg base "_law_of" 3 (sp_of K C) := by
  obtain ⟨f, fd, F, hm⟩ := L.l__law_of
  refine fnat_of hm F (fnr_mut F sc__law_of (fun _ _ _ _ _ _ us h => ?_) (fun _ => rfl) ?_)
  · obtain ⟨a, b, rfl⟩ := two_of h
    rfl
  intro cdv A outer s H E hr
  refine ⟨_, (pss_one (ps_ret (pe_ix (k_ix (K := K) rfl) (pv 1) (pe_fn (fn__law_take L) hr (by decide) (by rfl) (pa_cons (pv 0) (pa_cons (pe_callB (k_len (K := K) rfl L hr (by decide)) (by rfl) L.b_len bb_len (pa_cons (pv 1) pa_nil)) pa_nil))) (fun _ _ => rfl)))), ?_⟩
  rintro ⟨b, ds, n⟩
  refine sm_told (A := ds ≠ [] ∧ ds.length ≤ 1000 ∧ n ≤ 100000) (fun W O H h => h.1) fun ⟨ne, hl, hn⟩ => sm_pre (P := boxR b n) ?_ fun W O H h => h.2
  have hp : 0 < ds.length := List.length_pos_iff.mpr ne
  refine sm_ret (em_op (R1 := fun x W O H => x = .lst ds ∧ boxR b n W O H) (R2' := fun x y W O H => x = .lst ds ∧ ∃ r : Nat, (y = .int (r : Int) ∧ r < ds.length) ∧ boxR b (n + 1) W O H) (em_pure (ev_var rfl) box_stab) (fun x => ?_) ?_)
  · refine em_post (em_take (b := b) (m := ds.length) (n := n) (F := fun _ _ _ => x = .lst ds) (eam_post (eam_pure (ds := [.adr b, .int (ds.length : Int)]) (ea_cons (ev_var rfl) (ea_cons (ev_lenS L (ev_var rfl) (.inl rfl)) ea_nil)) (fun W O H H' ok e h => ⟨h.1, box_stab W O H H' ok e h.2⟩)) fun ds W O H h => ⟨⟨h.1, h.2.2⟩, h.2.1⟩) ⟨hp, by omega⟩ hn (fun _ _ _ _ _ _ h => h)) fun d W O H h => ⟨h.2, h.1⟩
  · rintro x y W O H ⟨rfl, r, ⟨rfl, hr⟩, hb⟩
    refine ⟨ds[r], fun O H u v Q g r1 r2 q => ?_, fun H' ok e => ⟨List.getElem_mem hr, box_stab W O H H' ok e hb⟩⟩
    cases r1 with
    | lst hq hrr =>
      obtain ⟨z, hz, rz⟩ := hrr.get (List.getElem?_eq_getElem hr)
      exact .inl ⟨_, _, (r : Int), z, rfl, r2.int_eq, sql_of hq, atI_nat hz, q z H (Evl.Ex.refl H) rz⟩
abbrev RunsOk (many most : Nat) (rs : List Int) : Prop := rs ≠ [] ∧ rs.length ≤ many ∧ ∀ r ∈ rs, r ≠ 0 ∧ -(most : Int) ≤ r ∧ r ≤ (most : Int)
abbrev RunA := Addr × Nat × Nat × Nat
def sp_runs (K : Frag) (C : Addr) : Sp := spM K C (fun a : RunA => [.adr a.1, .int (a.2.1 : Int), .int (a.2.2.1 : Int)]) (fun a W O H => (0 < a.2.1 ∧ a.2.1 ≤ 8 ∧ 0 < a.2.2.1 ∧ a.2.2.1 ≤ 6 ∧ a.2.2.2 ≤ 10000) ∧ boxR a.1 a.2.2.2 W O H) (fun a d W O H => ∃ rs, (d = .tup (dis rs) ∧ RunsOk a.2.1 a.2.2.1 rs) ∧ boxR a.1 (a.2.2.2 + 20) W O H)
theorem fn__law_runs (L : Loc K mg C D) : FnAt P w K mg base "_law_runs" 2 (sp_runs K C) := by
  obtain ⟨f, fd, F, hm⟩ := L.l__law_runs
  refine fnat_of hm F (fnr_mut F sc__law_runs (fun _ _ _ _ _ _ us h => ?_) (fun _ => rfl) ?_)
  · obtain ⟨a, b, c, rfl⟩ := three_of h
    rfl
  intro cdv A outer s H E hr
  refine ⟨_, (pss_cons (ps_par (i := 3) (j := 4) rfl sc__law_runs.nd rfl rfl (by decide) rfl rfl (pa_cons (pe_lst pa_nil) (pa_cons (pe_fn (fn__law_take L) hr (by decide) (by rfl) (pa_cons (pv 0) (pa_cons pe_int pa_nil))) pa_nil)) (by rfl))
    (pss_cons (ps_for PassesOwn.never rfl (pi_range1 (by rfl) L.b_range (pa_cons (pe_op (k_add (K := K) rfl) pe_int (pe_fn (fn__law_take L) hr (by decide) (by rfl) (pa_cons (pv 0) (pa_cons (pv 1) pa_nil)))) pa_nil)) (pg_name (i := 5) sc__law_runs.nd rfl (Or.inl rfl)) (pss_cons (ps_set (i := 6) sc__law_runs.nd rfl (Or.inl rfl) (pe_ifExp (pt_cmpR op_eq (pe_fn (fn__law_take L) hr (by decide) (by rfl) (pa_cons (pv 0) (pa_cons (pe_ifExp (pt_cmpR op_eq (pv 4) pe_int (nomark _)) pe_int pe_int) pa_nil))) pe_int (nomark _)) (pe_un un_neg pe_int) pe_int))
    (pss_one (ps_expr (pe_bm PySem.F.plainAttrs_list PySem.F.slot_list_append PySem.F.type_list_append mt_append (pv 3) (pa_cons (pe_op (k_mul (K := K) rfl) (pv 6) (pe_op (k_add (K := K) rfl) pe_int (pe_fn (fn__law_take L) hr (by decide) (by rfl) (pa_cons (pv 0) (pa_cons (pv 2) pa_nil))))) pa_nil))))))
    (pss_one (ps_ret (pe_callTy (k_tuple (K := K) rfl) (by rfl) L.b_tuple bb_tuple (pa_cons (pv 3) pa_nil)))))), ?_⟩
  rintro ⟨b, m, q, n⟩
  refine sm_told (A := 0 < m ∧ m ≤ 8 ∧ 0 < q ∧ q ≤ 6 ∧ n ≤ 10000) (fun W O H h => h.1) fun ⟨m0, m1, q0, q1, n1⟩ => sm_pre (P := boxR b n) ?_ fun W O H h => h.2
  refine sm_ownP (ds := []) (P2 := boxR b (n + 20)) (F := fun p W O H => b ≠ p ∧ boxR b n W O H) (F' := fun _ W O H => boxR b (n + 20) W O H) (F1 := fun p x W O H => b ≠ p ∧ ∃ r : Nat, x = .int (r : Int) ∧ boxR b (n + 1) W O H)
    (fun δ' ds' => (∃ p o1 o2 o3, δ' = [some (.adr b), some (.int (m : Int)), some (.int (q : Int)), some (.adr p), o1, o2, o3]) ∧ ∃ rs, ds' = dis rs ∧ RunsOk m q rs) (by decide) (ev_lstN ea_nil (by decide)) ?_ (fun p => ?_) (fun p x => ?_) ?_ ?_
  · intro W O H H1 p ok h hn x
    obtain ⟨w, t, ht, hb⟩ := h
    exact ⟨(fun z => by rw [← z, hb] at hn; cases hn), Bool.or_eq_true_iff.mpr (.inl w), t, ht, x _ _ hb⟩
  · refine em_post (em_take (b := b) (m := 4) (n := n) (F := fun W O H => b ≠ p ∧ own K C p [] W O H) (eam_post (eam_pure (ds := [.adr b, .int 4]) (ea_cons (ev_var rfl) (ea_cons ev_int ea_nil)) (fun W O H H' ok e h => ⟨own_stab W O H H' ok e h.1, h.2.1, box_stab W O H H' ok e h.2.2⟩)) fun ds W O H h => ⟨⟨h.1, h.2.2.2⟩, h.2.2.1, h.2.1⟩) (by decide) (by omega) off_own) fun d W O H h => ?_
    obtain ⟨⟨r, ⟨e, _⟩, hb⟩, ne, o⟩ := h
    exact ⟨o, ne, r, e, hb⟩
  · refine sm_told (A := b ≠ p ∧ ∃ r : Nat, x = .int (r : Int)) (fun W O H h => ⟨h.2.1, by obtain ⟨_, _, r, e, _⟩ := h; exact ⟨r, e⟩⟩) fun ⟨ne, r, hx⟩ => ?_
    subst hx
    refine sm_pre (P := fun W O H => own K C p [] W O H ∧ boxR b (n + 1) W O H) ?_ fun W O H h => ⟨h.1, by obtain ⟨_, _, _, _, hb⟩ := h; exact hb⟩
    refine sm_post (sm_forR (fun z i δ W O H => ((0 < z ∧ z ≤ m) ∧ ∃ o2 o3, δ = [some (.adr b), some (.int (m : Int)), some (.int (q : Int)), some (.adr p), some (.int (r : Int)), o2, o3]) ∧ (∃ rs : List Int, (rs.length = i ∧ ∀ y ∈ rs, y ≠ 0 ∧ -(q : Int) ≤ y ∧ y ≤ (q : Int)) ∧ own K C p (dis rs) W O H) ∧ boxR b (n + 2 + 2 * i) W O H) ?_ ?_ ?_ (N := fun δ' W O H => ∃ ds', (((∃ p o1 o2 o3, δ' = [some (.adr b), some (.int (m : Int)), some (.int (q : Int)), some (.adr p), o1, o2, o3]) ∧ ∃ rs, ds' = dis rs ∧ RunsOk m q rs) ∧ δ'[3]? = some (some (.adr p))) ∧ own K C p ds' W O H ∧ boxR b (n + 20) W O H) ?_) (fun _ _ _ _ h => h) (fun _ _ _ _ h => h)
    · refine em_op (R1 := fun x W O H => x = .int 1 ∧ own K C p [] W O H ∧ boxR b (n + 1) W O H) (R2' := fun x y W O H => x = .int 1 ∧ (∃ k : Nat, (y = .int (k : Int) ∧ k < m) ∧ boxR b (n + 1 + 1) W O H) ∧ b ≠ p ∧ own K C p [] W O H) (em_pure ev_int (fun W O H H' ok e h => ⟨own_stab W O H H' ok e h.1, box_stab W O H H' ok e h.2⟩)) (fun x => ?_) ?_
      · refine em_post (em_take (b := b) (m := m) (n := n + 1) (F := fun W O H => x = .int 1 ∧ b ≠ p ∧ own K C p [] W O H) (eam_post (eam_pure (ds := [.adr b, .int (m : Int)]) (ea_cons (ev_var rfl) (ea_cons (ev_var rfl) ea_nil)) (fun W O H H' ok e h => ⟨h.1, own_stab W O H H' ok e h.2.1, box_stab W O H H' ok e h.2.2⟩)) fun ds W O H h => ⟨⟨h.1, h.2.2.2⟩, h.2.1, ne, h.2.2.1⟩) ⟨m0, by omega⟩ (by omega) (fun W O H H' ok c h => ⟨h.1, off_own W O H H' ok c h.2⟩)) fun d W O H h => ⟨h.2.1, h.1, h.2.2⟩
      · rintro x y W O H ⟨rfl, ⟨k, ⟨rfl, hk⟩, hb⟩, _, o⟩
        exact ⟨_, r2_addI, fun H' ok e => ⟨k + 1, ⟨by congr 1; omega, by omega⟩, ⟨⟨by omega, by omega⟩, none, none, rfl⟩, ⟨[], ⟨rfl, fun y h => by cases h⟩, own_stab W O H H' ok e o⟩, box_stab W O H H' ok e hb⟩⟩
    · rintro z i δ1 W O H H' ok e ⟨h1, ⟨rs, h2, h3⟩, h4⟩
      exact ⟨h1, ⟨rs, h2, own_stab W O H H' ok e h3⟩, box_stab W O H H' ok e h4⟩
    · rintro z i δ1 hi ⟨_, _, _, ⟨⟨hz, o2, o3, rfl⟩, _⟩⟩
      refine ⟨_, _, tg_name, ?_⟩
      refine sm_pre (P := fun W O H => ∃ rs : List Int, (rs.length = i ∧ ∀ y ∈ rs, y ≠ 0 ∧ -(q : Int) ≤ y ∧ y ≤ (q : Int)) ∧ own K C p (dis rs) W O H ∧ boxR b (n + 2 + 2 * i) W O H) ?_ fun W O H h => by
        obtain ⟨_, ⟨rs, h1, h2⟩, h3⟩ := h
        exact ⟨rs, h1, h2, h3⟩
      refine sm_ex fun rs => sm_told (A := rs.length = i ∧ ∀ y ∈ rs, y ≠ 0 ∧ -(q : Int) ≤ y ∧ y ≤ (q : Int)) (fun W O H h => h.1) fun ⟨hlen, hrs⟩ => ?_
      refine sm_pre (P := fun W O H => own K C p (dis rs) W O H ∧ boxR b (n + 2 + 2 * i) W O H) ?_ fun W O H h => h.2
      have st0 : ∀ k, Stab (fun W O H => own K C p (dis rs) W O H ∧ boxR b k W O H) := fun k W O H H' ok e h => ⟨own_stab W O H H' ok e h.1, box_stab W O H H' ok e h.2⟩
      -- the sign
      refine sm_let (R' := fun d W O H => (d = .int (-1) ∨ d = .int 1) ∧ own K C p (dis rs) W O H ∧ boxR b (n + 2 + 2 * i + 1) W O H) (em_if (S := fun _ W O H => own K C p (dis rs) W O H ∧ boxR b (n + 2 + 2 * i + 1) W O H) (etm_test (em_op (R1 := fun x W O H => (∃ k : Nat, (x = .int (k : Int) ∧ k < (if r = 0 then 4 else 2)) ∧ boxR b (n + 2 + 2 * i + 1) W O H) ∧ b ≠ p ∧ own K C p (dis rs) W O H) (R2' := fun x y W O H => (∃ k : Nat, x = .int (k : Int)) ∧ y = .int 0 ∧ own K C p (dis rs) W O H ∧ boxR b (n + 2 + 2 * i + 1) W O H) ?_ (fun x => ?_) ?_)) (em_post (em_pure (d := .int (-1)) (ev_neg ev_int) (st0 _)) fun d W O H h => ⟨.inl h.1, h.2⟩) (em_post (em_pure (d := .int 1) ev_int (st0 _)) fun d W O H h => ⟨.inr h.1, h.2⟩)) fun d => ?_
      · refine em_take (b := b) (F := fun W O H => b ≠ p ∧ own K C p (dis rs) W O H) (eam_post (eam_pure (ds := [.adr b, .int (((if r = 0 then 4 else 2 : Nat)) : Int)]) (ea_cons (ev_var rfl) (ea_cons (ev_if (b := decide ((r : Int) = 0)) (et_test (ev_eqI (ev_var rfl) ev_int)) (fun h => EvD.is ev_int (by rw [if_pos (by have := of_decide_eq_true h; omega)]; rfl)) fun h => EvD.is ev_int (by rw [if_neg (by have := of_decide_eq_false h; omega)]; rfl)) ea_nil)) (st0 _)) fun ds W O H h => ⟨⟨h.1, h.2.2⟩, ne, h.2.1⟩) (by split <;> decide) (by omega) off_own
      · exact em_post (em_pure (d := .int 0) ev_int (fun W O H H' ok e h => ⟨by obtain ⟨k, h1, h2⟩ := h.1; exact ⟨k, h1, box_stab W O H H' ok e h2⟩, h.2.1, own_stab W O H H' ok e h.2.2⟩)) fun d W O H h => by
          obtain ⟨e, ⟨k, ⟨e1, _⟩, hb⟩, _, o⟩ := h
          exact ⟨⟨k, e1⟩, e, o, hb⟩
      · rintro x y W O H ⟨⟨k, rfl⟩, rfl, h⟩
        exact ⟨_, r2_eqI, fun H' ok e => ⟨_, rfl, st0 _ W O H H' ok e h⟩⟩
      -- the run
      · refine sm_told (A := d = .int (-1) ∨ d = .int 1) (fun W O H h => h.1) fun hd => ?_
        obtain ⟨sg, hsg, rfl⟩ : ∃ sg : Int, (sg = -1 ∨ sg = 1) ∧ d = .int sg := by
          rcases hd with rfl | rfl
          · exact ⟨-1, .inl rfl, rfl⟩
          · exact ⟨1, .inr rfl, rfl⟩
        refine sm_pre (P := fun W O H => own K C p (dis rs) W O H ∧ boxR b (n + 2 + 2 * i + 1) W O H) ?_ fun W O H h => h.2
        have hl : rs.length ≤ 8 := by omega
        refine sm_post (sm_append (p := p) (ds := dis rs) (F := fun x W O H => ((∃ k : Nat, x = .int (sg * (1 + (k : Int))) ∧ k < q) ∧ b ≠ p) ∧ boxR b (n + 2 + 2 * i + 2) W O H) rfl (fun W O H h => h.1) (em_op (R1 := fun x W O H => x = .int sg ∧ own K C p (dis rs) W O H ∧ boxR b (n + 2 + 2 * i + 1) W O H) (R2' := fun x y W O H => x = .int sg ∧ (∃ k : Nat, y = .int (1 + (k : Int)) ∧ k < q) ∧ own K C p (dis rs) W O H ∧ boxR b (n + 2 + 2 * i + 2) W O H) (em_pure (ev_var rfl) (st0 _)) (fun x => em_op (R1 := fun y W O H => y = .int 1 ∧ x = .int sg ∧ own K C p (dis rs) W O H ∧ boxR b (n + 2 + 2 * i + 1) W O H) (R2' := fun y z W O H => y = .int 1 ∧ x = .int sg ∧ (∃ k : Nat, (z = .int (k : Int) ∧ k < q) ∧ boxR b (n + 2 + 2 * i + 1 + 1) W O H) ∧ own K C p (dis rs) W O H) (em_pure ev_int (fun W O H H' ok e h => ⟨h.1, st0 _ W O H H' ok e h.2⟩)) (fun y => ?_) ?_) ?_) (by rw [List.length_map]; omega) ?_) ?_ fun _ _ _ _ h => h
        · refine em_post (em_take (b := b) (m := q) (F := fun W O H => (y = .int 1 ∧ x = .int sg) ∧ b ≠ p ∧ own K C p (dis rs) W O H) (eam_post (eam_pure (ds := [.adr b, .int (q : Int)]) (ea_cons (ev_var rfl) (ea_cons (ev_var rfl) ea_nil)) (fun W O H H' ok e h => ⟨h.1, h.2.1, st0 _ W O H H' ok e h.2.2⟩)) fun ds W O H h => ⟨⟨h.1, h.2.2.2.2⟩, ⟨h.2.1, h.2.2.1⟩, ne, h.2.2.2.1⟩) ⟨q0, by omega⟩ (by omega) (fun W O H H' ok c h => ⟨h.1, off_own W O H H' ok c h.2⟩)) fun d W O H h => ⟨h.2.1.1, h.2.1.2, h.1, h.2.2.2⟩
        · rintro y z W O H ⟨rfl, e1, ⟨k, ⟨rfl, hk⟩, hb⟩, o⟩
          exact ⟨_, r2_addI, fun H' ok e => ⟨e1, ⟨k, rfl, hk⟩, own_stab W O H H' ok e o, box_stab W O H H' ok e hb⟩⟩
        · rintro x y W O H ⟨rfl, ⟨k, rfl, hk⟩, o, hb⟩
          exact ⟨_, r2_mulI (.inl (by omega)), fun H' ok e => ⟨own_stab W O H H' ok e o, ⟨⟨k, rfl, hk⟩, ne⟩, box_stab W O H H' ok e hb⟩⟩
        · rintro x W O H o ⟨⟨h1, h2⟩, w, t, ht, hb⟩
          exact ⟨⟨h1, h2⟩, w, t, ht, by rw [upd_ne h2]; exact hb⟩
        · rintro δ' W O H ⟨rfl, x, o, ⟨⟨k, rfl, hk⟩, _⟩, hb⟩
          refine ⟨⟨hz, _, _, rfl⟩, ⟨rs ++ [sg * (1 + (k : Int))], ⟨by rw [List.length_append, hlen]; rfl, fun y hy => ?_⟩, ?_⟩, box_more hb (by omega)⟩
          · rcases List.mem_append.mp hy with m | m
            · exact hrs y m
            · rw [List.mem_singleton.mp m]
              rcases hsg with rfl | rfl <;> refine ⟨by omega, by omega, by omega⟩
          · unfold dis at *
            rw [List.map_append]
            exact o
    · rintro z δ1 W O H ⟨⟨hz, o2, o3, rfl⟩, ⟨rs, ⟨hlen, hrs⟩, h3⟩, h4⟩
      refine ⟨dis rs, ⟨⟨⟨p, _, _, _, rfl⟩, rs, rfl, fun e => ?_, by omega, hrs⟩, rfl⟩, h3, box_more h4 (by omega)⟩
      rw [e] at hlen
      simp at hlen
      omega
  · intro W O H0 H p h h'
    exact box_W h' h.1
  · rintro δ' ds' ⟨⟨p, o1, o2, o3, rfl⟩, rs, rfl, hrs⟩
    exact sm_ret (em_post (em_pure (ev_cb1 (ev_var rfl) (rc_tuple (.inl rfl))) box_stab) fun d W O H h => ⟨rs, ⟨h.1, hrs⟩, h.2⟩)
end
end Dt
set_option Elab.async false
set_option linter.all false
set_option maxRecDepth 100000
set_option maxHeartbeats 8000000
/-! Two years that are drawn. -/
namespace Dt
open PySem PySem.Spec PyProof.Rows L2
open Evl (Ex)
theorem runs_more {m q : Nat} {rs : List Int} (h : RunsOk m q rs) (hm : m ≤ 8) (hq : q ≤ 6) : RunsOk 8 6 rs := ⟨h.1, by have := h.2.1; omega, fun r hr => by
  obtain ⟨a, b, c⟩ := h.2.2 r hr
  exact ⟨a, by omega, by omega⟩⟩
theorem runs_mix {rs l : List Int} (h : RunsOk 8 6 rs) (hl : l.length ≤ 8) (hn : l ≠ []) (hm : ∀ y ∈ l, y ∈ rs ∨ (0 < y ∧ y ≤ 6)) : RunsOk 8 6 l := ⟨hn, hl, fun r hr => by
  rcases hm r hr with m | m
  · exact h.2.2 r m
  · exact ⟨by omega, by omega, by omega⟩⟩
theorem runs_sm {rs : List Int} (h : RunsOk 8 6 rs) : Sm rs := by
  obtain ⟨h1, h2, h3⟩ := h
  refine ⟨⟨h1, fun r hr => (h3 r hr).1, by omega⟩, by omega, ?_⟩
  have z : ∀ l : List Int, (∀ r ∈ l, r ≠ 0 ∧ -((6 : Nat) : Int) ≤ r ∧ r ≤ ((6 : Nat) : Int)) → Bu.asum l ≤ 6 * (l.length : Int) := fun l => by
    induction l with
    | nil => intro _; exact Int.le_refl _
    | cons x l ih =>
      intro h
      have a := ih fun r hr => h r (List.mem_cons_of_mem _ hr)
      have b := h x List.mem_cons_self
      show Bu.ab x + Bu.asum l ≤ 6 * ((l.length + 1 : Nat) : Int)
      unfold Bu.ab
      split <;> omega
  have := z rs h3
  show Bu.asum rs ≤ 1000000
  omega
section
variable {K : Frag} {C : Addr} {ds es : List DV}
theorem r2_addT (hz : ds.length + es.length ≤ 1000) : R2D K C (rAddU K) (.tup ds) (.tup es) (.tup (ds ++ es)) := r2_r (r2_r (r2_catT hz))
end
section
variable {P : Program} {w : World} {K : Frag} {mg : Str → Option Value} {base : Heap} {C D : Addr}
abbrev twoD (x y : List Int) : DV := .tup [.tup (dis x), .tup (dis y)]
def sp_two (K : Frag) (C : Addr) : Sp := spM K C (fun a : Addr × Nat => [.adr a.1]) (fun a W O H => a.2 ≤ 5000 ∧ boxR a.1 a.2 W O H) (fun a d W O H => (∃ x y, d = twoD x y ∧ RunsOk 8 6 x ∧ RunsOk 8 6 y) ∧ boxR a.1 (a.2 + 60) W O H)
theorem fn__law_two (L : Loc K mg C D) : FnAt P w K mg base "_law_two" 4 (sp_two K C) := by
  obtain ⟨f, fd, F, hm⟩ := L.l__law_two
  refine fnat_of hm F (fnr_mut F sc__law_two (fun _ _ _ _ _ _ us h => ?_) (fun _ => rfl) ?_)
  · obtain ⟨a, rfl⟩ := one_of h
    rfl
  intro cdv A outer s H E hr
  refine ⟨_, (pss_cons (ps_set (i := 1) sc__law_two.nd rfl (Or.inl rfl) (pe_fn (fn__law_of L) hr (by decide) (by rfl) (pa_cons (pv 0) (pa_cons (pe_lst (pa_cons pe_int (pa_cons pe_int (pa_cons pe_int (pa_cons pe_int pa_nil))))) pa_nil))))
    (pss_cons (ps_par (i := 2) (j := 3) rfl sc__law_two.nd rfl rfl (by decide) rfl rfl (pa_cons (pe_fn (fn__law_runs L) hr (by decide) (by rfl) (pa_cons (pv 0) (pa_cons pe_int (pa_cons (pv 1) pa_nil)))) (pa_cons (pe_fn (fn__law_runs L) hr (by decide) (by rfl) (pa_cons (pv 0) (pa_cons pe_int (pa_cons (pv 1) pa_nil)))) pa_nil)) (by rfl))
    (pss_cons (ps_par (i := 4) (j := 5) rfl sc__law_two.nd rfl rfl (by decide) rfl rfl (pa_cons (pe_fn (fn__law_take L) hr (by decide) (by rfl) (pa_cons (pv 0) (pa_cons pe_int pa_nil))) (pa_cons (pe_fn (fn__law_take L) hr (by decide) (by rfl) (pa_cons (pv 0) (pa_cons (pe_callB (k_len (K := K) rfl L hr (by decide)) (by rfl) L.b_len bb_len (pa_cons (pv 2) pa_nil)) pa_nil))) pa_nil)) (by rfl))
    (pss_cons (ps_if (pt_cmpR op_eq (pv 4) pe_int (nomark _)) (pss_one (ps_set (i := 3) sc__law_two.nd rfl (Or.inl rfl) (pe_op (k_add (K := K) rfl) (pe_slice (k_sl (K := K) rfl) (pv 2) (po_some (pv 5)) po_none) (pe_slice (k_sl (K := K) rfl) (pv 2) po_none (po_some (pv 5)))))) pss_nil)
    (pss_cons (ps_if (pt_cmpR op_eq (pv 4) pe_int (nomark _)) (pss_one (ps_set (i := 3) sc__law_two.nd rfl (Or.inl rfl) (pe_op (k_add (K := K) rfl) (pe_op (k_add (K := K) rfl) (pe_slice (k_sl (K := K) rfl) (pv 2) po_none (po_some (pv 5))) (pe_tup (pa_cons (pe_op (k_add (K := K) rfl) pe_int (pe_fn (fn__law_take L) hr (by decide) (by rfl) (pa_cons (pv 0) (pa_cons (pv 1) pa_nil)))) pa_nil))) (pe_slice (k_sl (K := K) rfl) (pv 2) (po_some (pv 5)) po_none)))) pss_nil)
    (pss_cons (ps_if (PW.pt (pw_and (pt_cmpR op_eq (pv 4) pe_int (nomark _)) (pw_and1 (pt_cmpR op_gt (pe_callB (k_len (K := K) rfl L hr (by decide)) (by rfl) L.b_len bb_len (pa_cons (pv 2) pa_nil)) pe_int (nomark _))))) (pss_one (ps_set (i := 3) sc__law_two.nd rfl (Or.inl rfl) (pe_op (k_add (K := K) rfl) (pe_slice (k_sl (K := K) rfl) (pv 2) po_none (po_some (pv 5))) (pe_slice (k_sl (K := K) rfl) (pv 2) (po_some (pe_op (k_add (K := K) rfl) (pv 5) pe_int)) po_none)))) pss_nil)
    (pss_one (ps_ret (pe_tup (pa_cons (pv 2) (pa_cons (pv 3) pa_nil))))))))))), ?_⟩
  rintro ⟨b, n⟩
  refine sm_told (A := n ≤ 5000) (fun W O H h => h.1) fun hn => sm_pre (P := boxR b n) ?_ fun W O H h => h.2
  refine sm_let (R' := fun d W O H => d ∈ dis [1, 2, 4, 6] ∧ boxR b (n + 1) W O H) (em_post (em_box (b := b) (F := fun _ _ _ => True) (S := fun ds W O H => ds = [.adr b, .lst (dis [1, 2, 4, 6])] ∧ boxR b n W O H) (Rr := fun d W O H => d ∈ dis [1, 2, 4, 6] ∧ boxR b (n + 1) W O H) (eam_post (eam_pure (ds := [.adr b, .lst (dis [1, 2, 4, 6])]) (ea_cons (ev_var rfl) (ea_cons (ev_lst (ea_cons ev_int (ea_cons ev_int (ea_cons ev_int (ea_cons ev_int ea_nil)))) (Nat.le_of_ble_eq_true rfl)) ea_nil)) box_stab) fun ds W O H h => ⟨h, True.intro⟩) off_true fun ds W O H h => ⟨h.2.1, (b, dis [1, 2, 4, 6], n), h.1, ⟨⟨(fun z => nomatch z), (by show 4 ≤ 1000; decide), by show n ≤ 100000; omega⟩, box_W h.2 (decide_eq_true rfl)⟩, fun d H' r w => ⟨r.1, box_W r.2 w⟩⟩) fun d W O H h => h.1) fun d => ?_
  refine sm_told (A := d ∈ dis [1, 2, 4, 6]) (fun W O H h => h.1) fun hd => ?_
  obtain ⟨q, rfl, q0, q6⟩ : ∃ q : Nat, d = .int (q : Int) ∧ 0 < q ∧ q ≤ 6 := by
    simp only [dis, List.map_cons, List.map_nil, List.mem_cons, List.not_mem_nil, or_false] at hd
    rcases hd with rfl | rfl | rfl | rfl
    · exact ⟨1, rfl, by decide, by decide⟩
    · exact ⟨2, rfl, by decide, by decide⟩
    · exact ⟨4, rfl, by decide, by decide⟩
    · exact ⟨6, rfl, by decide, by decide⟩
  refine sm_pre (P := boxR b (n + 1)) ?_ fun W O H h => h.2
  have run : ∀ (k : Nat) (F : Res) (δ : Den), k ≤ 9000 → Off b F → Stab F → δ[0]? = some (some (.adr b)) → δ[1]? = some (some (.int (q : Int))) → EvM K C (tFn (sp_runs K C) (tCons (tVar 0) (tCons (tC (.int 7)) (tCons (tVar 1) tNil)))) δ (fun W O H => boxR b k W O H ∧ F W O H) (fun d W O H => (∃ rs, (d = .tup (dis rs) ∧ RunsOk 7 q rs) ∧ boxR b (k + 20) W O H) ∧ F W O H) := fun k F δ hk hF hst e0 e1 => em_box (b := b) (S := fun ds W O H => ds = [.adr b, .int 7, .int (q : Int)] ∧ boxR b k W O H) (Rr := fun d W O H => ∃ rs, (d = .tup (dis rs) ∧ RunsOk 7 q rs) ∧ boxR b (k + 20) W O H) (eam_post (eam_pure (ds := [.adr b, .int 7, .int (q : Int)]) (ea_cons (ev_var e0) (ea_cons ev_int (ea_cons (ev_var e1) ea_nil))) (fun W O H H' ok e h => ⟨box_stab W O H H' ok e h.1, hst W O H H' ok e h.2⟩)) fun ds W O H h => ⟨⟨h.1, h.2.1⟩, h.2.2⟩) hF fun ds W O H h => ⟨h.2.1, (b, 7, q, k), h.1, ⟨⟨(by show 0 < 7; decide), (by show 7 ≤ 8; decide), q0, q6, (by show k ≤ 10000; omega)⟩, box_W h.2 (decide_eq_true rfl)⟩, fun d H' r w => by
    obtain ⟨rs, h1, h2⟩ := r
    exact ⟨rs, h1, box_W h2 w⟩⟩
  refine sm_par (S := fun ds W O H => (∃ x y, ds = [.tup (dis x), .tup (dis y)] ∧ (RunsOk 8 6 x ∧ x.length ≤ 7) ∧ RunsOk 8 6 y) ∧ boxR b (n + 41) W O H) (eam_post (eam_cons (R1 := fun d W O H => (∃ rs, (d = .tup (dis rs) ∧ RunsOk 7 q rs) ∧ boxR b (n + 1 + 20) W O H) ∧ True) (R2' := fun x ds W O H => ∃ y, ds = [y] ∧ (∃ rs, (y = .tup (dis rs) ∧ RunsOk 7 q rs) ∧ boxR b (n + 1 + 20 + 20) W O H) ∧ ∃ rs, x = .tup (dis rs) ∧ RunsOk 7 q rs) (em_pre (run (n + 1) (fun _ _ _ => True) _ (by omega) off_true (fun _ _ _ _ _ _ _ => True.intro) rfl rfl) fun W O H h => ⟨h, True.intro⟩) fun x => eam_post (eam_cons (R2' := fun y ds W O H => ds = [] ∧ (∃ rs, (y = .tup (dis rs) ∧ RunsOk 7 q rs) ∧ boxR b (n + 1 + 20 + 20) W O H) ∧ ∃ rs, x = .tup (dis rs) ∧ RunsOk 7 q rs) (em_pre (run (n + 1 + 20) (fun _ _ _ => ∃ rs, x = .tup (dis rs) ∧ RunsOk 7 q rs) _ (by omega) (fun _ _ _ _ _ _ h => h) (fun _ _ _ _ _ _ h => h) rfl rfl) fun W O H h => by
      obtain ⟨⟨rs, h1, h2⟩, _⟩ := h
      exact ⟨h2, rs, h1⟩) fun y => eam_nil fun _ _ _ _ => True.intro) fun ds W O H h => by
      obtain ⟨y, ys, rfl, rfl, h⟩ := h
      exact ⟨y, rfl, h⟩) fun ds W O H h => by
      obtain ⟨x, xs, rfl, y, rfl, ⟨r2, ⟨rfl, h2⟩, hb⟩, r1, rfl, h1⟩ := h
      exact ⟨⟨r1, r2, rfl, ⟨runs_more h1 (by decide) q6, h1.2.1⟩, runs_more h2 (by decide) q6⟩, hb⟩) (fun ds W O H h => by
      obtain ⟨⟨x, y, e, _⟩, _⟩ := h
      exact ⟨_, _, e⟩) fun dx dy => ?_
  refine sm_told (A := ∃ x y, [dx, dy] = [DV.tup (dis x), DV.tup (dis y)] ∧ (RunsOk 8 6 x ∧ x.length ≤ 7) ∧ RunsOk 8 6 y) (fun W O H h => h.1) fun ⟨x, y, exy, ⟨hx, x7⟩, hy⟩ => ?_
  obtain ⟨rfl, rfl⟩ : dx = .tup (dis x) ∧ dy = .tup (dis y) := by
    injection exy with e1 e2
    injection e2 with e2 _
    exact ⟨e1, e2⟩
  refine sm_pre (P := boxR b (n + 41)) ?_ fun W O H h => h.2
  have xl : 0 < x.length := List.length_pos_iff.mpr hx.1
  have x8 := hx.2.1
  refine sm_par (S := fun ds W O H => (∃ s k : Nat, ds = [.int (s : Int), .int (k : Int)] ∧ k < x.length) ∧ boxR b (n + 43) W O H) (eam_post (eam_cons (R1 := fun d W O H => (∃ r : Nat, (d = .int (r : Int) ∧ r < 5) ∧ boxR b (n + 41 + 1) W O H) ∧ True) (R2' := fun s ds W O H => ∃ k, ds = [k] ∧ (∃ r : Nat, (k = .int (r : Int) ∧ r < x.length) ∧ boxR b (n + 42 + 1) W O H) ∧ ∃ r : Nat, s = .int (r : Int)) (em_take (b := b) (m := 5) (eam_post (eam_pure (ds := [.adr b, .int 5]) (ea_cons (ev_var rfl) (ea_cons ev_int ea_nil)) box_stab) fun ds W O H h => ⟨h, True.intro⟩) (by decide) (by omega) off_true) fun s => eam_post (eam_cons (R2' := fun k ds W O H => ds = [] ∧ (∃ r : Nat, (k = .int (r : Int) ∧ r < x.length) ∧ boxR b (n + 42 + 1) W O H) ∧ ∃ r : Nat, s = .int (r : Int)) (em_take (b := b) (m := x.length) (n := n + 42) (F := fun _ _ _ => ∃ r : Nat, s = .int (r : Int)) (eam_post (eam_pure (ds := [.adr b, .int (x.length : Int)]) (ea_cons (ev_var rfl) (ea_cons (EvD.is (ev_lenS L (ev_var rfl) (.inr rfl)) (by rw [List.length_map])) ea_nil)) (fun W O H H' ok e h => by
      obtain ⟨⟨r, h1, h2⟩, _⟩ := h
      exact ⟨⟨r, h1, box_stab W O H H' ok e h2⟩, True.intro⟩)) fun ds W O H h => by
      obtain ⟨e, ⟨r, h1, h2⟩, _⟩ := h
      exact ⟨⟨e, h2⟩, r, h1.1⟩) ⟨xl, by omega⟩ (by omega) (fun _ _ _ _ _ _ h => h)) fun k => eam_nil fun _ _ _ _ => True.intro) fun ds W O H h => by
      obtain ⟨k, ks, rfl, rfl, h⟩ := h
      exact ⟨k, rfl, h⟩) fun ds W O H h => by
      obtain ⟨s, ss, rfl, k, rfl, ⟨r2, ⟨rfl, h2⟩, hb⟩, r1, rfl⟩ := h
      exact ⟨⟨r1, r2, rfl, h2⟩, hb⟩) (fun ds W O H h => by
      obtain ⟨⟨s, k, e, _⟩, _⟩ := h
      exact ⟨_, _, e⟩) fun dx dy => ?_
  refine sm_told (A := ∃ s k : Nat, [dx, dy] = [DV.int (s : Int), DV.int (k : Int)] ∧ k < x.length) (fun W O H h => h.1) fun ⟨s, k, exy, hk⟩ => ?_
  obtain ⟨rfl, rfl⟩ : dx = .int (s : Int) ∧ dy = .int (k : Int) := by
    injection exy with e1 e2
    injection e2 with e2 _
    exact ⟨e1, e2⟩
  refine sm_pre (P := boxR b (n + 43)) ?_ fun W O H h => h.2
  -- the three ways
  have dlen : (dis (x.drop k)).length + (dis (x.take k)).length ≤ 1000 := by simp [dis]; omega
  refine sm_seq (M := fun δ' W O H => (∃ z, δ' = [some (.adr b), some (.int (q : Int)), some (.tup (dis x)), some (.tup (dis z)), some (.int (s : Int)), some (.int (k : Int))] ∧ RunsOk 8 6 z) ∧ boxR b (n + 43) W O H) (sm_if (etm_pure (et_test (ev_eqI (ev_var rfl) ev_int)) box_stab) (sm_let1 (em_pure (d := .tup (dis (x.drop k ++ x.take k))) (EvD.is (ev_addT (ev_drpT (ev_var rfl) (ev_var rfl)) (ev_takT (ev_var rfl) (ev_var rfl)) dlen) (by unfold dis; rw [List.map_append])) (fun W O H H' ok e h => ⟨h.1, box_stab W O H H' ok e h.2⟩)) fun d W O H h => ?_) (sm_next fun W O H h => ⟨⟨y, rfl, hy⟩, h.2⟩)) fun δ' => ?_
  · obtain ⟨rfl, _, hb⟩ := h
    refine ⟨⟨_, rfl, runs_mix hx (by rw [List.length_append, List.length_drop, List.length_take]; omega) (fun e => ?_) fun y hy => ?_⟩, hb⟩
    · have := congrArg List.length e
      rw [List.length_append, List.length_drop, List.length_take, List.length_nil] at this
      omega
    · rcases List.mem_append.mp hy with m | m
      · exact .inl (List.mem_of_mem_drop m)
      · exact .inl (List.mem_of_mem_take m)
  refine sm_told (A := ∃ z, δ' = [some (.adr b), some (.int (q : Int)), some (.tup (dis x)), some (.tup (dis z)), some (.int (s : Int)), some (.int (k : Int))] ∧ RunsOk 8 6 z) (fun W O H h => h.1) fun ⟨z, ez, hz⟩ => ?_
  subst ez
  refine sm_pre (P := boxR b (n + 43)) ?_ fun W O H h => h.2
  refine sm_seq (M := fun δ' W O H => (∃ z, δ' = [some (.adr b), some (.int (q : Int)), some (.tup (dis x)), some (.tup (dis z)), some (.int (s : Int)), some (.int (k : Int))] ∧ RunsOk 8 6 z) ∧ boxR b (n + 44) W O H) (sm_if (etm_pure (et_test (ev_eqI (ev_var rfl) ev_int)) box_stab) (sm_let1 (R' := fun d W O H => (∃ z, d = .tup (dis z) ∧ RunsOk 8 6 z) ∧ boxR b (n + 44) W O H) (em_pre ?_ fun W O H h => h.2) fun d W O H h => ?_) (sm_next fun W O H h => ⟨⟨z, rfl, hz⟩, box_more h.2 (by omega)⟩)) fun δ' => ?_
  · refine em_op (R1 := fun v W O H => (∃ r : Nat, v = .tup (dis (x.take k ++ [1 + (r : Int)])) ∧ r < q) ∧ boxR b (n + 44) W O H) (R2' := fun v u W O H => ((∃ r : Nat, v = .tup (dis (x.take k ++ [1 + (r : Int)])) ∧ r < q) ∧ u = .tup (dis (x.drop k))) ∧ boxR b (n + 44) W O H) (em_op (R1 := fun v W O H => v = .tup (dis (x.take k)) ∧ boxR b (n + 43) W O H) (R2' := fun v u W O H => (v = .tup (dis (x.take k)) ∧ ∃ r : Nat, u = .tup [.int (1 + (r : Int))] ∧ r < q) ∧ boxR b (n + 44) W O H) (em_pure (ev_takT (ev_var rfl) (ev_var rfl)) box_stab) (fun v => ?_) ?_) (fun v => em_post (em_pure (ev_drpT (ev_var rfl) (ev_var rfl)) (fun W O H H' ok e h => ⟨h.1, box_stab W O H H' ok e h.2⟩)) fun d W O H h => ⟨⟨h.2.1, h.1⟩, h.2.2⟩) ?_
    · refine em_post (em_tup (S := fun ds W O H => (∃ r : Nat, ds = [.int (1 + (r : Int))] ∧ r < q) ∧ boxR b (n + 44) W O H ∧ v = .tup (dis (x.take k))) (eam_post (eam_cons (R2' := fun u ds W O H => ds = [] ∧ (∃ r : Nat, u = .int (1 + (r : Int)) ∧ r < q) ∧ boxR b (n + 44) W O H ∧ v = .tup (dis (x.take k))) (em_op (R1 := fun y W O H => y = .int 1 ∧ v = .tup (dis (x.take k)) ∧ boxR b (n + 43) W O H) (R2' := fun y z W O H => (∃ r : Nat, (z = .int (r : Int) ∧ r < q) ∧ boxR b (n + 43 + 1) W O H) ∧ y = .int 1 ∧ v = .tup (dis (x.take k))) (em_pure ev_int (fun W O H H' ok e h => ⟨h.1, box_stab W O H H' ok e h.2⟩)) (fun y => em_take (b := b) (m := q) (n := n + 43) (F := fun _ _ _ => y = .int 1 ∧ v = .tup (dis (x.take k))) (eam_post (eam_pure (ds := [.adr b, .int (q : Int)]) (ea_cons (ev_var rfl) (ea_cons (ev_var rfl) ea_nil)) (fun W O H H' ok e h => ⟨h.1, h.2.1, box_stab W O H H' ok e h.2.2⟩)) fun ds W O H h => ⟨⟨h.1, h.2.2.2⟩, h.2.1, h.2.2.1⟩) ⟨q0, by omega⟩ (by omega) (fun _ _ _ _ _ _ h => h)) ?_) fun u => eam_nil fun _ _ _ _ => True.intro) fun ds W O H h => by
        obtain ⟨u, us, rfl, rfl, ⟨r, rfl, hr⟩, hb, hv⟩ := h
        exact ⟨⟨r, rfl, hr⟩, hb, hv⟩) (fun ds W O H h => by
        obtain ⟨⟨r, rfl, _⟩, _⟩ := h
        exact (by decide : 1 ≤ 1000)) (fun ds W O H H' ok e h => ⟨h.1, box_stab W O H H' ok e h.2.1, h.2.2⟩)) fun d W O H h => by
        obtain ⟨ds, rfl, ⟨r, rfl, hr⟩, hb, hv⟩ := h
        exact ⟨⟨hv, r, rfl, hr⟩, hb⟩
      rintro y z W O H ⟨⟨r, ⟨rfl, hr⟩, hb⟩, rfl, hv⟩
      exact ⟨_, r2_addI, fun H' ok e => ⟨⟨r, rfl, hr⟩, box_stab W O H H' ok e hb, hv⟩⟩
    · rintro v u W O H ⟨⟨rfl, r, rfl, hr⟩, hb⟩
      refine ⟨.tup (dis (x.take k ++ [1 + (r : Int)])), ?_, fun H' ok e => ⟨⟨r, rfl, hr⟩, box_stab W O H H' ok e hb⟩⟩
      have z := r2_addT (K := K) (C := C) (ds := dis (x.take k)) (es := [.int (1 + (r : Int))]) (by simp [dis]; omega)
      have e2 : dis (x.take k ++ [1 + (r : Int)]) = dis (x.take k) ++ [DV.int (1 + (r : Int))] := by unfold dis; rw [List.map_append]; rfl
      rw [e2]
      exact z
    · rintro v u W O H ⟨⟨⟨r, rfl, hr⟩, rfl⟩, hb⟩
      refine ⟨.tup (dis (x.take k ++ [1 + (r : Int)] ++ x.drop k)), ?_, fun H' ok e => ⟨⟨_, rfl, runs_mix hx ?_ ?_ fun y hy => ?_⟩, box_stab W O H H' ok e hb⟩⟩
      · have z := r2_addT (K := K) (C := C) (ds := dis (x.take k ++ [1 + (r : Int)])) (es := dis (x.drop k)) (by simp [dis]; omega)
        have e2 : dis (x.take k ++ [1 + (r : Int)] ++ x.drop k) = dis (x.take k ++ [1 + (r : Int)]) ++ dis (x.drop k) := by unfold dis; rw [List.map_append]
        rw [e2]
        exact z
      · simp
        omega
      · simp
      · rcases List.mem_append.mp hy with m | m
        · rcases List.mem_append.mp m with m | m
          · exact .inl (List.mem_of_mem_take m)
          · rw [List.mem_singleton.mp m]
            exact .inr ⟨by omega, by omega⟩
        · exact .inl (List.mem_of_mem_drop m)
  · obtain ⟨⟨z', rfl, hz'⟩, hb⟩ := h
    exact ⟨⟨z', rfl, hz'⟩, hb⟩
  refine sm_told (A := ∃ z, δ' = [some (.adr b), some (.int (q : Int)), some (.tup (dis x)), some (.tup (dis z)), some (.int (s : Int)), some (.int (k : Int))] ∧ RunsOk 8 6 z) (fun W O H h => h.1) fun ⟨z2, ez, hz2⟩ => ?_
  subst ez
  refine sm_pre (P := boxR b (n + 44)) ?_ fun W O H h => h.2
  refine sm_seq (M := fun δ' W O H => (∃ z, δ' = [some (.adr b), some (.int (q : Int)), some (.tup (dis x)), some (.tup (dis z)), some (.int (s : Int)), some (.int (k : Int))] ∧ RunsOk 8 6 z) ∧ boxR b (n + 44) W O H) (sm_if (etm_pure (et_and (et_test (ev_eqI (ev_var rfl) ev_int)) fun h_ => (et_test (ev_gtI (ev_lenS L (ev_var rfl) (.inr rfl)) ev_int))) box_stab) (sm_told (A := 2 < x.length) (fun W O H h => by
      have e := h.1
      rw [List.length_map] at e
      have := of_decide_eq_true (Bool.and_eq_true_iff.mp e.symm).2
      omega) fun h2 => sm_let1 (em_pure (d := .tup (dis (x.take k ++ x.drop (k + 1)))) (EvD.is (ev_addT (es := dis (x.drop (k + 1))) (ev_takT (ev_var rfl) (ev_var rfl)) (ev_drpT (k := k + 1) (ev_var rfl) (EvD.is (ev_addI (ev_var rfl) ev_int) rfl)) (by simp [dis]; omega)) (by unfold dis; rw [List.map_append])) (fun W O H H' ok e h => ⟨h.1, box_stab W O H H' ok e h.2⟩)) fun d W O H h => ?_) (sm_next fun W O H h => ⟨⟨z2, rfl, hz2⟩, h.2⟩)) fun δ' => ?_
  · obtain ⟨rfl, _, hb⟩ := h
    refine ⟨⟨_, rfl, runs_mix hx (by rw [List.length_append, List.length_drop, List.length_take]; omega) (fun e => ?_) fun y hy => ?_⟩, hb⟩
    · have := congrArg List.length e
      rw [List.length_append, List.length_drop, List.length_take, List.length_nil] at this
      omega
    · rcases List.mem_append.mp hy with m | m
      · exact .inl (List.mem_of_mem_take m)
      · exact .inl (List.mem_of_mem_drop m)
  refine sm_told (A := ∃ z, δ' = [some (.adr b), some (.int (q : Int)), some (.tup (dis x)), some (.tup (dis z)), some (.int (s : Int)), some (.int (k : Int))] ∧ RunsOk 8 6 z) (fun W O H h => h.1) fun ⟨z3, ez, hz3⟩ => ?_
  subst ez
  refine sm_pre (P := boxR b (n + 44)) ?_ fun W O H h => h.2
  exact sm_ret (em_post (em_pure (ev_tup (ea_cons (ev_var rfl) (ea_cons (ev_var rfl) ea_nil)) (Nat.le_of_ble_eq_true rfl)) box_stab) fun d W O H h => ⟨⟨x, z3, h.1, hx, hz3⟩, box_more h.2 (by omega)⟩)
end
end Dt
set_option Elab.async false
set_option linter.all false
set_option maxRecDepth 100000
set_option maxHeartbeats 8000000
/-! The cells of a script, a box from a cell. -/
namespace Dt
open PySem PySem.Spec PyProof.Rows L2
open Evl (Ex)
theorem k_orT {X : Cx} {K : Frag} {a b : Expr} {rest : List Expr} {pos : Pos} {ta tb : TE} (h : X.K = K) (ha : PE X a ta) (hb : PE X (.BoolOp .Or (b :: rest) pos) tb) : PE X (.BoolOp .Or (a :: b :: rest) pos) (tOrT K ta tb) := by subst h; exact pe_orT ha hb
theorem ev_orN {K : Frag} {C : Addr} {δ : Den} {ta tb : TE} {ds es : List DV} (ha : EvN K C ta δ ds) (hb : ds = [] → EvN K C tb δ es) : EvN K C (tOrT K ta tb) δ (if ds = [] then es else ds) := fun O σ H Q g e q =>
  ha O σ H _ g e fun p vs H1 x1 hn hp r => by
    refine ⟨!vs.isEmpty, .inl ⟨vs, SqL.of hp, rfl⟩, ?_⟩
    cases vs with
    | nil =>
      cases r
      show tb σ H1 Q
      refine hb rfl O σ H1 Q (g.ex x1) (e.up x1) fun p2 vs2 H2 x2 hn2 hp2 r2 => q p2 vs2 H2 (x1.trans x2) (Evl.fresh_back x1 hn2) hp2 ?_
      rw [if_pos rfl]
      exact r2
    | cons v vs =>
      cases r with
      | cons h r =>
        show Q _ H1
        refine q p _ H1 x1 hn hp ?_
        rw [if_neg (fun z => nomatch z)]
        exact .cons h r
theorem evn_fin {K : Frag} {C : Addr} {te : TE} {δ : Den} {σ : L2.St} {H : Hp} {O : AS} {Q : VK} (h : ∃ x y : Int, EvN K C te δ [.int x, .int y, .int 0]) (g : Good O H) (e : EnvD K C O H σ δ)
    (q : ∀ (x y : Int) p vs H', Evl.Ex H H' → H p = none → H' p = some (.lst vs) → Reps K C (msk (fun a => O a || decide (a = p)) H') vs [.int x, .int y, .int 0] → Q (.ref p) H') : te σ H Q := by
  obtain ⟨x, y, h⟩ := h
  exact h O σ H Q g e (q x y)
section
variable {K : Frag} {C : Addr} {δ : Den} {ds : List DV} {ns : List Int} {k : Nat} {ta tb : TE}
/-- slices of the script, a list that stays as it is -/
theorem ev_slUF {tl th : L2.TO} {lo hi : Option Int} (ha : EvD K C ta δ (.lf ds)) (hl : EvO K C tl δ lo) (hh : EvO K C th δ hi) : EvD K C (L2.tSl (rSlU K) ta tl th) δ (.lst (cutD ds lo hi)) := fun O σ H Q g e q =>
  ha O σ H _ g e fun x H1 e1 r1 => hl O σ H1 _ (g.ex e1) (e.up e1) fun H2 e2 => hh O σ H2 _ ((g.ex e1).ex e2) ((e.up e1).up e2) fun H3 e3 => by
    have r3 := r1.up (e2.trans e3)
    cases r3 with
    | lf hq hr => exact .inl ⟨_, _, rfl, Evl.ex_l msk_sub hq, fun p hp => q _ _ (((e1.trans e2).trans e3).trans (Evl.Ex.new hp)) (rep_newL (((g.ex e1).ex e2).ex e3) hp (hr.cut lo hi))⟩
theorem ev_takF (h : EvD K C ta δ (.lf (dis ns))) (h2 : EvD K C tb δ (.int (k : Int))) : EvD K C (L2.tSl (rSlU K) ta tNoPart (tPart tb)) δ (.lst (dis (ns.take k))) := (ev_slUF h eo_none (eo_some h2)).is (by unfold dis; rw [cut_to, List.map_take])
end
section
variable {P : Program} {w : World} {K : Frag} {mg : Str → Option Value} {base : Heap} {C D : Addr}
def sp_box (K : Frag) (C : Addr) : Sp := fun vs H Q _ => ∃ (O : AS) (cs : List Int) (k : Nat), Good O H ∧ Reps K C (msk O H) vs [.lst (dis cs), .int (k : Int)] ∧ k < cs.length ∧
  ∀ (p : Addr) (H' : Hp) (x y : Int), Evl.Ex H H' → H p = none → H' p = some (.lst [.int x, .int y, .int 0]) → Q (.ref p) H'
theorem fn__law_box (L : Loc K mg C D) : FnAt P w K mg base "_law_box" 3 (sp_box K C) := by
  obtain ⟨f, fd, F, hm⟩ := L.l__law_box
  refine fnat_of hm F (fnr_raw F sc__law_box (fun _ _ _ _ _ _ us h => ?_) (fun vs H Q E h => ?_) ?_)
  · obtain ⟨a, b, rfl⟩ := two_of h
    rfl
  · obtain ⟨_, _, _, _, r, _⟩ := h
    rw [r.len]
    rfl
  intro cdv A outer s H E hr
  refine ⟨_, (pss_cons (ps_set (i := 2) sc__law_box.nd rfl (Or.inl rfl) (pe_ifExp (pt_cmpR op_lt (pv 1) (pe_callB (k_len (K := K) rfl L hr (by decide)) (by rfl) L.b_len bb_len (pa_cons (pv 0) pa_nil)) (nomark _)) (pe_ix (k_ix (K := K) rfl) (pv 0) (pv 1) (fun _ _ => rfl)) pe_int))
    (pss_one (ps_ret (pe_lst (pa_cons (pe_op (k_mul (K := K) rfl) (pe_callB call_abs (by rfl) L.b_abs bb_abs (pa_cons (pv 2) pa_nil)) (pe_callTy call_int1 (by rfl) L.b_int bb_int (pa_cons (pe_cmpR op_ge (pe_callB call_abs (by rfl) L.b_abs bb_abs (pa_cons (pv 2) pa_nil)) (pe_op op_pow pe_int pe_int) (nomark _)) pa_nil))) (pa_cons (pe_op (k_add (K := K) rfl) (pe_op (k_add (K := K) rfl) (pe_op op_mod (pe_callTy call_int1 (by rfl) L.b_int bb_int (pa_cons (pv 2) pa_nil)) pe_int) (pe_op (k_mul (K := K) rfl) pe_int (pv 1))) pe_int) (pa_cons pe_int pa_nil))))))), ?_⟩
  rintro vs Q ⟨O, cs, k, gd, r, hk, q⟩
  have e := env_start (N := ["_law_script", "_law_k", "_law_cell"]) r
  have hc : atI (dis cs) (k : Int) = some (.int (cs.getD k 0)) := at_int hk
  generalize cs.getD k 0 = c at hc
  have h1 := ev_if (K := K) (C := C) (δ := startD ["_law_script", "_law_k", "_law_cell"] [.lst (dis cs), .int (k : Int)]) (tt := tTest (tOp (rI0 fun i j => .bl (decide (i < j))) (tVar 1) (tCB (rLenU K C) (tCons (tVar 0) tNil)))) (ta := tOp (rIx K) (tVar 0) (tVar 1)) (tb := tC (.int 0)) (b := true) (EvT.is (et_test (ev_ltI (ev_var rfl) (ev_lenS L (ev_var rfl) (.inl rfl)))) (by rw [List.length_map]; exact decide_eq_true (by omega))) (fun _ => (ev_ix (ev_var rfl) (.inl rfl) (ev_var rfl) (hc))) fun h => by cases h
  refine h1 O _ H _ gd e fun v H1 x1 r1 => ?_
  have e1 := (e.up x1).set (i := 2) r1
  have g1 := gd.ex x1
  dsimp only [gName, tRet]
  refine evn_fin (δ := [some (.lst (dis cs)), some (.int (k : Int)), some (.int c)]) (K := K) (C := C) ⟨_, _, ev_lstN (ea_cons (ev_mulI (ev_cb1 (ev_var rfl) rc_abs) (ev_cb1 (ev_geI (ev_cb1 (ev_var rfl) rc_abs) (ev_powI ev_int ev_int ((⟨by decide, by decide, by decide⟩ : CPow 10 18)))) rc_intB) (.inr (by split <;> exact ⟨by decide, by decide⟩))) (ea_cons (ev_addI (ev_addI (ev_modI (ev_cb1 (ev_var rfl) rc_int) ev_int ((show (0 : Int) < 2305843009213693951 by decide))) (ev_mulI ev_int (ev_var rfl) (.inl ⟨(show (-2 ^ 64 : Int) < 39373 by decide), (show (39373 : Int) < 2 ^ 64 by decide)⟩))) ev_int) (ea_cons (ev_int (i := 0)) ea_nil))) (Nat.le_of_ble_eq_true rfl)⟩ g1 e1 fun x y p us H2 x2 hn hp rr => ?_
  have eu := Reps.ints_eq (ns := [x, y, 0]) rr
  subst eu
  exact q p H2 x y (x1.trans x2) (Evl.fresh_back x1 hn) hp
def sp_cells (K : Frag) (C : Addr) : Sp := spM K C (fun ns : List Int => [.lf (dis ns), .int 3]) (fun ns _ _ _ => ns.length ≤ 63) (fun _ d _ _ _ => ∃ cs : List Int, d = .lst (dis cs) ∧ cs ≠ [] ∧ cs.length ≤ 3)
theorem fn__law_cells (L : Loc K mg C D) : FnAt P w K mg base "_law_cells" 1 (sp_cells K C) := by
  obtain ⟨f, fd, F, hm⟩ := L.l__law_cells
  refine fnat_of hm F (fnr_mut F sc__law_cells (fun _ _ _ _ _ _ us h => ?_) (fun _ => rfl) ?_)
  · obtain ⟨a, b, rfl⟩ := two_of h
    rfl
  intro cdv A outer s H E hr
  refine ⟨_, (pss_cons (ps_set (i := 2) sc__law_cells.nd rfl (Or.inl rfl) (k_orT (K := K) rfl (pe_callTy (k_list (K := K) rfl) (by rfl) L.b_list bb_list (pa_cons (pe_slice (k_sl (K := K) rfl) (pv 0) po_none (po_some (pv 1))) pa_nil)) (pe_one (pe_lst (pa_cons pe_int pa_nil)))))
    (pss_cons (ps_for PassesOwn.never rfl (k_ienum (K := K) rfl (by rfl) L.b_enumerate (pa_cons (pe_slice (k_sl (K := K) rfl) (pv 0) (po_some (pv 1)) (po_some pe_int)) pa_nil)) (pg_tup rfl (pgs_cons (pg_name (i := 3) sc__law_cells.nd rfl (Or.inl rfl)) (pgs_cons (pg_name (i := 4) sc__law_cells.nd rfl (Or.inl rfl)) pgs_nil))) (pss_cons (ps_set (i := 5) sc__law_cells.nd rfl (Or.inl rfl) (pe_op op_mod (pe_callTy call_int1 (by rfl) L.b_int bb_int (pa_cons (pv 3) pa_nil)) (pv 1)))
    (pss_one (ps_asg (pe_op (k_add (K := K) rfl) (pe_ix (k_ix (K := K) rfl) (pv 2) (pv 5) (fun _ _ => rfl)) (pe_op (k_mul (K := K) rfl) (pv 4) (pe_op (k_add (K := K) rfl) (pv 3) pe_int))) (pg_sub (pv 2) (pv 5) set_list)))))
    (pss_one (ps_ret (pv 2))))), ?_⟩
  intro ns
  refine sm_told (A := ns.length ≤ 63) (fun W O H h => h) fun hn => ?_
  refine sm_pre (P := fun _ _ _ => True) ?_ fun W O H h => True.intro
  have hcut : cutD (dis ns) (some 3) (some 63) = dis (ns.drop 3) := by
    unfold cutD
    rw [show HT.sIx (dis ns).length 0 (some 3) = min 3 ns.length from by rw [← List.length_map (f := DV.int)]; exact HT.sIx_nat _ 0 3, show HT.sIx (dis ns).length (dis ns).length (some 63) = min 63 ns.length from by rw [← List.length_map (f := DV.int)]; exact HT.sIx_nat _ _ 63]
    unfold dis
    rw [← List.map_drop, ← List.map_take]
    congr 1
    by_cases h : 3 ≤ ns.length
    · rw [Nat.min_eq_left h, List.take_of_length_le (by rw [List.length_drop]; omega)]
    · rw [List.drop_eq_nil_of_le (by omega), List.drop_eq_nil_of_le (by omega)]
      simp
  refine sm_own (ds := if dis (ns.take 3) = [] then [.int 0] else dis (ns.take 3)) (F := fun _ _ _ _ => True) (F' := fun _ _ _ _ => True) (P2 := fun _ _ _ => True) (fun δ' ds' => (∃ p o1 o2 o3, δ' = [some (.lf (dis ns)), some (.int 3), some (.adr p), o1, o2, o3]) ∧ ∃ cs : List Int, ds' = dis cs ∧ cs ≠ [] ∧ cs.length ≤ 3) (ev_orN (ev_listN (ev_takF (k := 3) (ev_var rfl) (ev_var rfl)) (.inl rfl)) fun _ => ev_lstN (ea_cons ev_int ea_nil) (by decide)) (fun _ _ _ _ _ _ _ _ _ => True.intro) (fun p => ?_) (fun _ _ _ _ _ _ _ => True.intro) ?_
  · obtain ⟨cs0, ecs, cne, cl, c3⟩ : ∃ cs : List Int, (if dis (ns.take 3) = [] then [DV.int 0] else dis (ns.take 3)) = dis cs ∧ cs ≠ [] ∧ cs.length ≤ 3 ∧ (3 < ns.length → cs.length = 3) := by
      by_cases h : ns = []
      · subst h
        exact ⟨[0], rfl, (fun z => nomatch z), by decide, fun h => absurd h (by decide)⟩
      · have hp := List.length_pos_iff.mpr h
        refine ⟨ns.take 3, if_neg fun z => ?_, fun z => ?_, by rw [List.length_take]; omega, fun h3 => by rw [List.length_take]; omega⟩
        · have := congrArg List.length z
          simp [dis] at this
          exact h this
        · have := congrArg List.length z
          simp at this
          exact h this
    rw [ecs]
    refine sm_post (sm_for (fun i δ W O H => (∃ o1 o2 o3, δ = [some (.lf (dis ns)), some (.int 3), some (.adr p), o1, o2, o3]) ∧ ∃ cs : List Int, (cs ≠ [] ∧ cs.length ≤ 3 ∧ (3 < ns.length → cs.length = 3)) ∧ own K C p (dis cs) W O H) (xs := enumD (dis (ns.drop 3))) (itm_enum (EvD.is (ev_slUF (ev_var rfl) (eo_some (ev_var rfl)) (eo_some ev_int)) (by rw [← hcut]))) ?_ (fun W O H h => ⟨⟨none, none, none, rfl⟩, cs0, ⟨cne, cl, c3⟩, h.1⟩) (fun W O H H' ok e h => ⟨own_stab W O H H' ok e h.1, True.intro⟩) ?_ (N := fun δ' W O H => ∃ ds', (((∃ p o1 o2 o3, δ' = [some (.lf (dis ns)), some (.int 3), some (.adr p), o1, o2, o3]) ∧ ∃ cs : List Int, ds' = dis cs ∧ cs ≠ [] ∧ cs.length ≤ 3) ∧ δ'[2]? = some (some (.adr p))) ∧ own K C p ds' W O H ∧ True) ?_) (fun _ _ _ _ h => h) fun _ _ _ _ h => h
    · rintro i δ1 W O H H' ok e ⟨h1, cs, h2, h3⟩
      exact ⟨h1, cs, h2, own_stab W O H H' ok e h3⟩
    · rintro i d δ1 hi ⟨_, _, _, ⟨o1, o2, o3, rfl⟩, _⟩
      rw [List.getElem?_map, List.getElem?_zipIdx, List.getElem?_map] at hi
      cases hx : (ns.drop 3)[i]? with
      | none => rw [hx] at hi; cases hi
      | some x =>
        rw [hx] at hi
        cases hi
        have hi3 := (List.getElem?_eq_some_iff.mp hx).1
        rw [List.length_drop] at hi3
        refine ⟨_, _, tg_tup rfl (tgs_cons tg_name (tgs_cons tg_name tgs_nil)), ?_⟩
        refine sm_pre (P := fun W O H => ∃ cs : List Int, (cs ≠ [] ∧ cs.length ≤ 3 ∧ (3 < ns.length → cs.length = 3)) ∧ own K C p (dis cs) W O H) ?_ fun W O H h => h.2
        refine sm_ex fun cs => sm_told (A := cs ≠ [] ∧ cs.length ≤ 3 ∧ (3 < ns.length → cs.length = 3)) (fun W O H h => h.1) fun ⟨k1, k2, k3⟩ => sm_pre (P := own K C p (dis cs)) ?_ fun W O H h => h.2
        have cl3 := k3 (by omega)
        have hm3 : i % 3 < cs.length := by omega
        refine sm_letE (em_pure (d := .int ((i % 3 : Nat) : Int)) (EvD.is (ev_modI (ev_cb1 (ev_var rfl) rc_int) (ev_var rfl) (by decide)) (by show DV.int (((0 + i : Nat) : Int) % 3) = _; rw [Nat.zero_add]; rfl)) own_stab) ?_
        refine sm_post (sm_set (p := p) (ds := dis cs) (j := i % 3) (F := fun v _ _ _ => ∃ z : Int, v = .int z) rfl (em_post (em_peek (i := 2) (p := p) (ds := dis cs) rfl (ev_addI (ev_ix (ev_var rfl) (.inl rfl) (ev_var rfl) (at_int hm3)) (ev_mulI (ev_var rfl) (ev_addI (ev_var rfl) ev_int) (.inr (by show -(2 ^ 64) < ((0 + i : Nat) : Int) + 2 ∧ ((0 + i : Nat) : Int) + 2 < 2 ^ 64; omega)))) rfl own_stab fun _ _ _ h => h) fun d W O H h => ⟨h.2, _, h.1⟩) (ev_var rfl) (fun _ _ _ _ _ _ _ h => h) (by rw [List.length_map]; exact Evl.ixN_nat hm3) fun _ _ _ _ _ h => h) (fun δ' W O H h => ?_) fun _ _ _ _ h => h
        obtain ⟨rfl, v, ho, z, rfl⟩ := h
        refine ⟨⟨_, _, _, rfl⟩, cs.set (i % 3) z, ⟨fun e => ?_, by rw [List.length_set]; exact k2, fun h => by rw [List.length_set]; exact k3 h⟩, ?_⟩
        · have := congrArg List.length e
          rw [List.length_set] at this
          exact k1 (List.eq_nil_of_length_eq_zero this)
        · unfold dis at *
          rw [List.map_set]
          exact ho
    · rintro δ1 W O H ⟨⟨o1, o2, o3, rfl⟩, cs, ⟨h1, h2, _⟩, h3⟩
      exact ⟨dis cs, ⟨⟨⟨p, o1, o2, o3, rfl⟩, cs, rfl, h1, h2⟩, rfl⟩, h3, True.intro⟩
  · rintro δ' ds' ⟨⟨p, o1, o2, o3, rfl⟩, cs, rfl, h1, h2⟩
    exact sm_ret (em_post (em_pure (ev_var rfl) fun _ _ _ _ _ _ _ => True.intro) fun d W O H h => ⟨cs, h.1, h1, h2⟩)
end
end Dt
set_option Elab.async false
set_option linter.all false
set_option maxRecDepth 100000
set_option maxHeartbeats 8000000
/-! Plain instances: a target that is an attribute, a property, a method without arguments. -/
namespace Dt
open PySem PySem.Spec PyProof.Rows L2
def gFld (K : Frag) (to : TE) (f : Str) : TG := fun v σ H Q => to σ H fun x H1 => ∃ a C dx fs, x = .ref a ∧ H1 a = some (.ins C dx fs) ∧ Cls K C ∧ NoAttr K C f ∧ fs.length < 1000 ∧ Q σ (upd H1 a (.ins C dx (putF f v fs)))
def tPropR (C : Addr) (sp : Sp) (E : XK) (ta : TE) : TE := fun σ H Q => ta σ H fun x H1 => ∃ a dx fs, x = .ref a ∧ H1 a = some (.ins C dx fs) ∧ sp [.ref a] H1 Q E
section
variable {X : Cx} {o e : Expr} {f m : Str} {pos apos : Pos} {to ta : TE} {C g : Addr} {n : Nat} {CX : CXT} {sp : Sp} {E : XK}
theorem pg_fld (ho : PE X o to)
    (ha : ∀ v, assign (.Attribute o f pos) X.env v = (do
      let ov ← holding [v] (eval o X.env)
      standAt pos.atName
      holding [v, ov] (setAttr ov f v)
      release [v, ov] []) := by intro _; rfl) : PG X (.Attribute o f pos) (gFld X.K to f) := by
  refine ⟨fun pins s σ H v u Q I r h => ?_⟩
  rw [ha]
  refine wpAny_bind (wpAny_holding (thn (ho.run pins s σ H _ I h) fun ov s1 ⟨x, H1, I1, r1, a, C, dx, fs, ex, ea, c, nn, l, q⟩ => ?_))
  subst ex
  obtain rfl : ov = Value.ref a := r1
  exact wpAny_bind (wpAny_standAt (wpAny_bind (wpAny_holding (setattr_ok I1 ea c nn l r fun s3 I3 => wpAny_release ⟨σ, _, I3, q⟩))))
theorem getprop_inR {pins : List (Addr × Obj)} {σ : L2.St} {H : Hp} {s : Shared} {Q : VK} {b : Bool} {E' : Value → Shared → Prop} {a dx p : Addr} {fs : List (Str × V)} (I : Inv X pins σ H s) (ea : H a = some (.ins C dx fs)) (c : Cls X.K C)
    (at_ : PySem.W.findIn X.K (.ref C) f = some (some (.ref p))) (get : PySem.W.specialIn X.K (.ref p) "__get__" = some (some (.builtin "property.__get__"))) (tk : PySem.W.takesIn X.K (.ref p) = some true)
    (rc : ∃ rest, PySem.W.recIn X.K p "property" = some (.ref g :: rest)) (F : FnR X.prog X.w X.K X.mg X.base CX n g sp) (hr : Room (n + 1) X.A)
    (hx : ∀ (H : Hp) (s : Shared) (e : Value) (s' : Shared), CX X.stack H s E e s' → False) (q : sp [.ref a] H Q E) : wpAny (model X.prog X.w) X.A (getAttr (.ref a) f b) (EP X pins σ Q) E' s := by
  obtain ⟨mA, O, _, _, _, _⟩ := ins_get I.hok ea
  obtain ⟨od, J, _⟩ := O.look
  obtain ⟨rest, hrec⟩ := rc
  have I1 := I.tok (s.toks + 1)
  have hc : (PySem.W.clsIn X.K C).isSome = true := by
    obtain ⟨cd, hc, _⟩ := PySem.W.any_some c.hd
    rw [hc]
    rfl
  refine PySem.W.get_bind I.kIn J (PySem.W.plainGet_of (c.get f)).1 (PySem.W.findObj_data hc at_ get tk) (PySem.W.plainGet_of (c.get f)).2 (wpAny_call (PySem.W.prop_get (s := { s with toks := s.toks + 1 }) I.kIn hrec ?_))
  refine codeAny_mono (F X.A.in1 X.stack { s with toks := s.toks + 1 } H [.ref a] [.ref a] Q E hr.in1 I1.env0.in1 (.cons rfl .nil) q) fun r s' hq => ?_
  cases r with
  | error e => exact (hx _ _ _ _ hq).elim
  | ok fl =>
    cases fl with
    | ret u =>
      obtain ⟨v, H', I2, rv, q⟩ := I1.after hq
      exact wpAny_of_eq (PySem.W.handedOut_of (handed_of rv)) ⟨v, H', I2, rv, q⟩
    | next => exact False.elim hq
    | brk => exact False.elim hq
    | cont => exact False.elim hq
theorem pe_propR {p : Addr} (he : PE X e ta) (c : Cls X.K C)
    (at_ : PySem.W.findIn X.K (.ref C) f = some (some (.ref p))) (get : PySem.W.specialIn X.K (.ref p) "__get__" = some (some (.builtin "property.__get__"))) (tk : PySem.W.takesIn X.K (.ref p) = some true)
    (rc : ∃ rest, PySem.W.recIn X.K p "property" = some (.ref g :: rest)) (F : FnR X.prog X.w X.K X.mg X.base CX n g sp) (hr : Room (n + 1) X.A)
    (hx : ∀ (H : Hp) (s : Shared) (e : Value) (s' : Shared), CX X.stack H s E e s' → False)
    (hb : attributeBase e f X.env (eval e X.env) = eval e X.env := by rfl) : PE X (.Attribute e f pos) (tPropR C sp E ta) := by
  refine ⟨fun pins s σ H Q I h => ?_⟩
  refine attr_of hb (thn (he.run pins s σ H _ I h) fun u s1 ⟨x, H1, I1, rx, a, dx, fs, ex, ea, q⟩ => ?_)
  subst ex
  obtain rfl : u = Value.ref a := rx
  exact getprop_inR I1 ea c at_ get tk rc F hr hx q
theorem pe_meth0R {k : Nat} {pl : Sem Bool} (he : PE X o ta) (c : Cls X.K C) (hm : Meth X.K C m g) (F : FnR X.prog X.w X.K X.mg X.base CX k g sp) (hr : Room k X.A) (hx : Passes CX X E)
    (ht : eval (.Call (.Attribute o m apos) [] [] pos) X.env = (do
      let ov ← eval o X.env
      standAt apos.atName
      let (f, first) ← holding [ov] (getMethod ov m pl)
      callWith pos f first (backTo pos (starEach [] X.env)) (backToKw pos (keywordEach [] X.env))) := by rfl) :
    PE X (.Call (.Attribute o m apos) [] [] pos) (tMethR C m sp E ta tNil) := by
  refine ⟨fun pins s σ H Q I h => ?_⟩
  refine PySem.W.methodCall_KW (pl := pl) (thn (he.run pins s σ H _ I h) fun u s1 ⟨x, H1, I1, rx, a, dx, fs, ex, ea, l, q⟩ => ?_) ht
  subst ex
  obtain rfl : u = Value.ref a := rx
  refine getmeth_ok I1 ea c hm l ?_
  exact PySem.W.callWith_K0 (first := [.ref a]) I1.kIn hm.kp (wpAny_call (run_fnR (us := [.ref a]) (vs := [.ref a]) F hr hx I1 (.cons rfl .nil) q))
end
end Dt
set_option Elab.async false
set_option linter.all false
set_option maxRecDepth 100000
set_option maxHeartbeats 8000000
/-! The watch: its two fields, its properties, its methods. -/
namespace Dt
open PySem PySem.Spec PyProof.Rows L2
def PrW (P : Program) (w : World) (K : Frag) (mg : Str → Option Value) (base : Heap) (C : Addr) (f : Str) (k : Nat) (sp : Sp) : Prop := ∃ p g : Addr, PySem.W.findIn K (.ref C) f = some (some (.ref p)) ∧ PySem.W.specialIn K (.ref p) "__get__" = some (some (.builtin "property.__get__")) ∧
  PySem.W.takesIn K (.ref p) = some true ∧ (∃ rest, PySem.W.recIn K p "property" = some (.ref g :: rest)) ∧ FnR P w K mg base CX0 k g sp
def MeW (P : Program) (w : World) (K : Frag) (mg : Str → Option Value) (base : Heap) (C : Addr) (m : Str) (k : Nat) (sp : Sp) : Prop := ∃ g : Addr, Meth K C m g ∧ FnR P w K mg base CX0 k g sp
theorem pe_prW {X : Cx} {e : Expr} {f : Str} {pos : Pos} {ta : TE} {C : Addr} {j k : Nat} {sp : Sp} (h : PrW X.prog X.w X.K X.mg X.base C f j sp) (c : Cls X.K C) (hr : Room k X.A) (hj : j + 1 ≤ k) (he : PE X e ta)
    (hb : attributeBase e f X.env (eval e X.env) = eval e X.env := by rfl) : PE X (.Attribute e f pos) (tPropR C sp E0 ta) := by
  obtain ⟨p, g, h1, h2, h3, h4, F⟩ := h
  exact pe_propR he c h1 h2 h3 h4 F (hr.mono hj) (fun _ _ _ _ z => z) hb
theorem pe_meW {X : Cx} {o e : Expr} {es : List Expr} {m : Str} {apos pos : Pos} {ta : TE} {t : TA} {C : Addr} {j k : Nat} {sp : Sp} {pl : Sem Bool} (h : MeW X.prog X.w X.K X.mg X.base C m j sp) (c : Cls X.K C) (hr : Room k X.A) (hj : j ≤ k) (he : PE X o ta) (ha : PA X (e :: es) t)
    (hst : starEach (e :: es) X.env = (false, eval e X.env) :: starEach es X.env := by rfl) (hpl : (backTo pos (starEach es X.env)).any (·.1) = false := by rfl)
    (ht : eval (.Call (.Attribute o m apos) (e :: es) [] pos) X.env = (do
      let ov ← eval o X.env
      standAt apos.atName
      let (f, first) ← holding [ov] (getMethod ov m pl)
      callWith pos f first (backTo pos (starEach (e :: es) X.env)) (backToKw pos (keywordEach [] X.env))) := by rfl) : PE X (.Call (.Attribute o m apos) (e :: es) [] pos) (tMethR C m sp E0 ta t) := by
  obtain ⟨g, hm, F⟩ := h
  exact pe_methR he c hm F (hr.mono hj) pass0 ha hst hpl ht
theorem pe_meW0 {X : Cx} {o : Expr} {m : Str} {apos pos : Pos} {ta : TE} {C : Addr} {j k : Nat} {sp : Sp} {pl : Sem Bool} (h : MeW X.prog X.w X.K X.mg X.base C m j sp) (c : Cls X.K C) (hr : Room k X.A) (hj : j ≤ k) (he : PE X o ta)
    (ht : eval (.Call (.Attribute o m apos) [] [] pos) X.env = (do
      let ov ← eval o X.env
      standAt apos.atName
      let (f, first) ← holding [ov] (getMethod ov m pl)
      callWith pos f first (backTo pos (starEach [] X.env)) (backToKw pos (keywordEach [] X.env))) := by rfl) : PE X (.Call (.Attribute o m apos) [] [] pos) (tMethR C m sp E0 ta tNil) := by
  obtain ⟨g, hm, F⟩ := h
  exact pe_meth0R he c hm F (hr.mono hj) pass0 ht
theorem k_fld {X : Cx} {K : Frag} {e : Expr} {f : Str} {pos : Pos} {ta : TE} (h : X.K = K) (he : PE X e ta) (hb : attributeBase e f X.env (eval e X.env) = eval e X.env := by rfl) : PE X (.Attribute e f pos) (tFld K ta f) := by subst h; exact pe_fld he hb
section
variable {K : Frag} {C D : Addr} {δ : Den} {d f : DV} {rows : List DV} {ta : TE}
theorem ev_first (h : EvD K C ta δ (.wt D f rows)) (c : Cls K D) (n : NoAttr K D "own_first") : EvD K C (tFld K ta "own_first") δ f := fun O σ H Q gd e q =>
  h O σ H _ gd e fun v H1 e1 r1 => by
    cases r1 with
    | wt hi rf hr rr => exact ⟨_, D, _, _, _, rfl, msk_sub _ _ hi, c, n, rfl, q _ H1 e1 rf⟩
theorem ev_rows (h : EvD K C ta δ (.wt D f rows)) (c : Cls K D) (n : NoAttr K D "own_rows") : EvD K C (tFld K ta "own_rows") δ (.lst rows) := fun O σ H Q gd e q =>
  h O σ H _ gd e fun v H1 e1 r1 => by
    cases r1 with
    | wt hi rf hr rr => exact ⟨_, D, _, _, _, rfl, msk_sub _ _ hi, c, n, rfl, q _ H1 e1 (.lst hr rr)⟩
theorem ev_prW {F : List DV → DV → Prop} (h : EvD K C ta δ (.wt D f rows)) (hf : F [.wt D f rows] d) : EvD K C (tPropR D (spD K C F) E0 ta) δ d := fun O σ H Q gd e q =>
  h O σ H _ gd e fun v H1 e1 r1 => by
    cases r1 with
    | wt hi rf hr rr => exact ⟨_, _, _, rfl, msk_sub _ _ hi, O, _, d, gd.ex e1, hf, .cons (.wt hi rf hr rr) .nil, fun v H2 e2 r2 => q v H2 (e1.trans e2) r2⟩
theorem ev_meW0 {m : Str} {F : List DV → DV → Prop} (h : EvD K C ta δ (.wt D f rows)) (hl : ("own_first" : Str) ≠ m) (hl2 : ("own_rows" : Str) ≠ m) (hf : F [.wt D f rows] d) : EvD K C (tMethR D m (spD K C F) E0 ta tNil) δ d := fun O σ H Q gd e q =>
  h O σ H _ gd e fun v H1 e1 r1 => by
    cases r1 with
    | wt hi rf hr rr => exact ⟨_, _, _, rfl, msk_sub _ _ hi, by rw [List.lookup_cons, List.lookup_cons, beq_false_of_ne (Ne.symm hl), beq_false_of_ne (Ne.symm hl2)]; rfl, O, _, d, gd.ex e1, hf, .cons (.wt hi rf hr rr) .nil, fun v H2 e2 r2 => q v H2 (e1.trans e2) r2⟩
end
end Dt
set_option Elab.async false
set_option linter.all false
set_option maxRecDepth 100000
set_option maxHeartbeats 8000000
/-! The watch's readings: here, one, other, leads, year_of. -/
namespace Dt
open PySem PySem.Spec PyProof.Rows L2
section
variable {P : Program} {w : World} {K : Frag} {mg : Str → Option Value} {base : Heap} {C D : Addr}
/-- a row of a watch -/
abbrev rowW (x : List Int × List Int × Int) : DV := .tup [.yr x.1, .yr x.2.1, .int x.2.2]
def W_here (D : Addr) : List DV → DV → Prop := fun ds d => ∃ f rows, ds = [.wt D f rows] ∧ rows.length ≤ 50 ∧ d = rows.getLastD f
def W_at (D : Addr) (i : Nat) : List DV → DV → Prop := fun ds d => ∃ f rows es, ds = [.wt D f rows] ∧ rows.length ≤ 50 ∧ rows.getLastD f = .tup es ∧ es[i]? = some d
theorem mw_here (L : Loc K mg C D) : MeW P w K mg base D "here" 3 (spD K C (W_here D)) := by
  obtain ⟨f, fd, hm, F⟩ := L.w_here
  refine ⟨f, hm, fnr_of F sc_Watch_here (fun _ _ _ _ _ _ us h => ?_) _ (fun ds d ⟨_, _, e, _⟩ => by rw [e]; rfl) ?_⟩
  · obtain ⟨a, rfl⟩ := one_of h
    rfl
  intro cdv A outer s H E hr
  refine ⟨_, (pss_one (ps_ret (pe_ifExp (pt_cmpR op_gt (pe_callB (k_len (K := K) rfl L hr (by decide)) (by rfl) L.b_len bb_len (pa_cons (k_fld (K := K) rfl (pv 0)) pa_nil)) pe_int (nomark _)) (pe_ix (k_ix (K := K) rfl) (k_fld (K := K) rfl (pv 0)) (pe_un un_neg pe_int) (fun _ _ => rfl)) (k_fld (K := K) rfl (pv 0))))), ?_⟩
  rintro ds d ⟨f, rows, rfl, hl, rfl⟩
  refine st_retR (ev_if (b := decide (0 < rows.length)) (EvT.is (et_test (ev_gtI (ev_lenS L (ev_rows (ev_var rfl) L.wcls L.w_n2) (.inl rfl)) ev_int)) (by simp)) (fun hb => ?_) fun hb => ?_)
  · have hb := of_decide_eq_true hb
    have hne : rows ≠ [] := fun z => by rw [z] at hb; exact absurd hb (by decide)
    obtain ⟨l, x, rfl⟩ : ∃ l x, rows = l ++ [x] := ⟨_, _, (List.dropLast_concat_getLast hne).symm⟩
    refine ev_ix (ev_rows (ev_var rfl) L.wcls L.w_n2) (.inl rfl) (ev_neg ev_int) ?_
    rw [List.getLastD_concat]
    exact atI_last _ _
  · have hb := of_decide_eq_false hb
    have : rows = [] := List.eq_nil_of_length_eq_zero (by omega)
    subst this
    exact (ev_first (ev_var rfl) L.wcls L.w_n1)
theorem pw_one (L : Loc K mg C D) : PrW P w K mg base D "one" 4 (spD K C (W_at D 0)) := by
  obtain ⟨p, f, fd, h1, h2, h3, h4, F⟩ := L.w_one
  refine ⟨p, f, h1, h2, h3, h4, fnr_of F sc_Watch_one (fun _ _ _ _ _ _ us h => ?_) _ (fun ds d ⟨_, _, _, e, _⟩ => by rw [e]; rfl) ?_⟩
  · obtain ⟨a, rfl⟩ := one_of h
    rfl
  intro cdv A outer s H E hr
  refine ⟨_, (pss_one (ps_ret (pe_ix (k_ix (K := K) rfl) (pe_meW0 (mw_here L) L.wcls hr (by decide) (pv 0)) pe_int (fun _ _ => rfl)))), ?_⟩
  rintro ds d ⟨f, rows, es, rfl, hl, he, hx⟩
  refine st_retR (ev_ix (ev_meW0 (ev_var rfl) (by decide) (by decide) ⟨f, rows, rfl, hl, he.symm⟩) (.inr rfl) ev_int (atI_nat hx))
theorem pw_other (L : Loc K mg C D) : PrW P w K mg base D "other" 4 (spD K C (W_at D 1)) := by
  obtain ⟨p, f, fd, h1, h2, h3, h4, F⟩ := L.w_other
  refine ⟨p, f, h1, h2, h3, h4, fnr_of F sc_Watch_other (fun _ _ _ _ _ _ us h => ?_) _ (fun ds d ⟨_, _, _, e, _⟩ => by rw [e]; rfl) ?_⟩
  · obtain ⟨a, rfl⟩ := one_of h
    rfl
  intro cdv A outer s H E hr
  refine ⟨_, (pss_one (ps_ret (pe_ix (k_ix (K := K) rfl) (pe_meW0 (mw_here L) L.wcls hr (by decide) (pv 0)) pe_int (fun _ _ => rfl)))), ?_⟩
  rintro ds d ⟨f, rows, es, rfl, hl, he, hx⟩
  refine st_retR (ev_ix (ev_meW0 (ev_var rfl) (by decide) (by decide) ⟨f, rows, rfl, hl, he.symm⟩) (.inr rfl) ev_int (atI_nat hx))
def W_leads (D : Addr) : List DV → DV → Prop := fun ds d => ∃ (x : List Int × List Int × Int) (xs : List (List Int × List Int × Int)), ds = [.wt D (rowW x) (xs.map rowW)] ∧ xs.length ≤ 50 ∧ d = .tup (dis ((x :: xs).map (·.2.2)))
def W_year (D : Addr) : List DV → DV → Prop := fun ds d => ∃ f rows es s, ds = [.wt D f rows, .str s] ∧ rows.length ≤ 50 ∧ rows.getLastD f = .tup es ∧ es[if s = "one" then 0 else 1]? = some d
theorem pw_leads (L : Loc K mg C D) : PrW P w K mg base D "leads" 1 (spD K C (W_leads D)) := by
  obtain ⟨p, f, fd, h1, h2, h3, h4, F⟩ := L.w_leads
  refine ⟨p, f, h1, h2, h3, h4, fnr_of F sc_Watch_leads (fun _ _ _ _ _ _ us h => ?_) _ (fun ds d ⟨_, _, e, _⟩ => by rw [e]; rfl) ?_⟩
  · obtain ⟨a, rfl⟩ := one_of h
    rfl
  intro cdv A outer s H E hr
  refine ⟨_, (pss_one (ps_ret (pe_callTy (k_tuple (K := K) rfl) (by rfl) L.b_tuple bb_tuple (pa_cons (pe_lc (own := [("row", 1)]) (g := (gName 1)) (tt := tYes) rfl sc_Watch_leads.nd (k_ilist (K := K) rfl (pe_lst (pa_cons (k_fld (K := K) rfl (pv 0)) (k_star (K := K) rfl (k_fld (K := K) rfl (pv 0)) pa_nil)))) (blkOk_by (N := ["self", "row"]) (sc := defScope s_Watch_leads) (by decide +kernel)) (fun _ _ _ _ _ => (pg_name (i := 1) sc_Watch_leads.nd rfl (Or.inl rfl))) (fun _ _ _ _ _ => pts_nil) (fun _ _ _ _ _ => (pe_ix (k_ix (K := K) rfl) (pv 1) pe_int (fun _ _ => rfl)))) pa_nil)))), ?_⟩
  rintro ds d ⟨x, xs, rfl, hl, rfl⟩
  have hw : rowW x :: (xs.map rowW ++ []) = (x :: xs).map rowW := by rw [List.append_nil]; rfl
  refine st_retR (EvD.is (ev_cb1 (ev_lcM (as := x :: xs) (b := DV.int) (fun y => y.2.2) (fun _ => true) (it_list (EvD.is (ev_lst (ea_cons (ev_first (ev_var rfl) L.wcls L.w_n1) (ea_starL (ev_rows (ev_var rfl) L.wcls L.w_n2) ea_nil)) (by simp; omega)) (by rw [hw]))) (by simp; omega) (by decide) fun y _ => ⟨_, tg_name, et_yes, fun _ => ev_ix (ev_var rfl) (.inr rfl) ev_int (atI_nat rfl)⟩) (rc_tuple (.inl rfl))) ?_)
  simp [dis]
  rw [List.filter_eq_self.mpr (fun _ _ => rfl)]
theorem mw_year_of (L : Loc K mg C D) : MeW P w K mg base D "year_of" 6 (spD K C (W_year D)) := by
  obtain ⟨f, fd, hm, F⟩ := L.w_year_of
  refine ⟨f, hm, fnr_of F sc_Watch_year_of (fun _ _ _ _ _ _ us h => ?_) _ (fun ds d ⟨_, _, _, _, e, _⟩ => by rw [e]; rfl) ?_⟩
  · obtain ⟨a, b, rfl⟩ := two_of h
    rfl
  intro cdv A outer s H E hr
  refine ⟨_, (pss_one (ps_ret (pe_ifExp (pt_cmpR op_eq (pv 1) (pe_glob (v := .str "one") (by rfl) L.c_ONE.choose_spec ⟨_, rfl⟩) (nomark _)) (pe_prW (pw_one L) L.wcls hr (by decide) (pv 0)) (pe_prW (pw_other L) L.wcls hr (by decide) (pv 0))))), ?_⟩
  rintro ds d ⟨f, rows, es, s, rfl, hl, he, hx⟩
  refine st_retR (ev_if (b := decide (s = "one")) (et_test (ev_eqS (ev_var rfl) ev_str)) (fun hb => ?_) fun hb => ?_)
  · rw [if_pos (of_decide_eq_true hb)] at hx
    exact ev_prW (ev_var rfl) ⟨f, rows, es, rfl, hl, he, hx⟩
  · rw [if_neg (of_decide_eq_false hb)] at hx
    exact ev_prW (ev_var rfl) ⟨f, rows, es, rfl, hl, he, hx⟩
end
end Dt
set_option Elab.async false
set_option linter.all false
set_option maxRecDepth 100000
set_option maxHeartbeats 8000000
/-! A watch is made. -/
namespace Dt
open PySem PySem.Spec PyProof.Rows L2
section
variable {P : Program} {w : World} {K : Frag} {mg : Str → Option Value} {base : Heap} {C D : Addr}
theorem asg_row {ta : TE} {g : TG} {R : Ends} {σ : L2.St} {H : Hp} (h : ta σ H fun fv H1 => ([] : List V).length ≤ sizeLine ∧ ∀ p, H1 p = none → ([fv, .ref p] : List V).length ≤ sizeLine ∧ ∀ t, upd H1 p (.lst []) t = none → g (.ref t) σ (upd (upd H1 p (.lst [])) t (.tup [fv, .ref p])) R.nx) :
    tAsg (tTup (tCons ta (tCons (tLst tNil) tNil))) g R σ H := h
abbrev moD (a b : List Int) : Int := moH (hpOf a) (hpOf b)
def spWatch (K : Frag) (C D : Addr) : Sp := fun vs H Q _ => ∃ (O : AS) (B : Hp) (x dx : Addr) (v1 v2 : V) (a b : List Int), vs = [.ref x, v1, v2] ∧ B x = none ∧ B dx = none ∧ dx ≠ x ∧ H = upd (upd B dx (.own x)) x (.ins D dx []) ∧
  Good O B ∧ Reps K C (msk O B) [v1, v2] [.yr a, .yr b] ∧ YY (a, b) ∧
  ∀ H' fv r, Evl.Ex B H' → H' x = some (.ins D dx [("own_first", fv), ("own_rows", .ref r)]) → B r = none → x ≠ r → H' r = some (.lst []) → Rep K C (msk (fun c => (O c || decide (c = x)) || decide (c = r)) H') fv (rowW (a, b, moD a b)) → Q .non H'
theorem mk_watch (L : Loc K mg C D) : ∃ f, Mk K D f ∧ FnR P w K mg base CX0 9 f (spWatch K C D) := by
  obtain ⟨f, fd, M, F⟩ := L.w_mk
  refine ⟨f, M, fnr_raw F sc_Watch___init__ (fun _ _ _ _ _ _ us h => ?_) (fun vs H Q E h => ?_) ?_⟩
  · obtain ⟨a, b, c, rfl⟩ := three_of h
    rfl
  · obtain ⟨_, _, _, _, _, _, _, _, e, _⟩ := h
    rw [e]
    rfl
  intro cdv A outer s H E hr
  refine ⟨_, (pss_one (ps_asg (pe_tup (pa_cons (pe_tup (pa_cons (pv 1) (pa_cons (pv 2) (pa_cons (pe_fn (fn_most_more L) hr (by decide) (by rfl) (pa_cons (pv 1) (pa_cons (pv 2) pa_nil))) pa_nil)))) (pa_cons (pe_lst pa_nil) pa_nil))) (pg_tup rfl (pgs_cons (pg_fld (pv 0)) (pgs_cons (pg_fld (pv 0)) pgs_nil))))), ?_⟩
  rintro vs Q ⟨O, B, x, dx, v1, v2, a, b, rfl, hx, hd, ne, rfl, gd, r, yy, q⟩
  have ox := gd.new hx
  have xB : Evl.Ex B (upd (upd B dx (.own x)) x (.ins D dx [])) := (Evl.Ex.new hd).trans (Evl.Ex.new (by rw [upd_ne (Ne.symm ne)]; exact hx))
  have hxx : upd (upd B dx (.own x)) x (.ins D dx []) x = some (.ins D dx []) := upd_same
  generalize upd (upd B dx (.own x)) x (.ins D dx []) = H at xB hxx
  have g1 : Good (fun c => O c || decide (c = x)) H := fun c hc z => by
    rcases Bool.or_eq_true_iff.mp hc with h | h
    · exact gd.ex xB c h z
    · rw [of_decide_eq_true h, hxx] at z
      cases z
  have r1 : Reps K C (msk (fun c => O c || decide (c = x)) H) [v1, v2] [.yr a, .yr b] := r.mono (msk_more xB fun c h => by
    rcases Bool.or_eq_true_iff.mp h with h | h
    · exact .inl h
    · rw [of_decide_eq_true h]; exact .inr hx)
  have e := env_start (N := ["self", "one", "other"]) (Reps.cons (Rep.adr x) r1)
  have e1 : EvD K C (tTup (tCons (tVar 1) (tCons (tVar 2) (tCons (tFn (spD K C F_most_more) (tCons (tVar 1) (tCons (tVar 2) tNil))) tNil)))) (startD ["self", "one", "other"] [.adr x, .yr a, .yr b]) (rowW (a, b, moD a b)) :=
    ev_tup (ea_cons (ev_var rfl) (ea_cons (ev_var rfl) (ea_cons (ev_fn (d := .int (moD a b)) (ea_cons (ev_var rfl) (ea_cons (ev_var rfl) ea_nil)) ⟨(a, b), yy, rfl, rfl⟩) ea_nil))) (Nat.le_of_ble_eq_true rfl)
  refine asg_row ?_
  refine e1 _ _ H _ g1 e fun fv H1 x1 rf => ?_
  refine ⟨sz_ok (by decide), fun p hp => ⟨sz_ok (Nat.le_of_ble_eq_true rfl), fun t ht => ?_⟩⟩
  have nxp : x ≠ p := fun z => by rw [← z, x1 _ _ hxx] at hp; cases hp
  have nxt : x ≠ t := fun z => by
    rw [← z, upd_ne nxp, x1 _ _ hxx] at ht; cases ht
  have npt : p ≠ t := fun z => by
    rw [← z, upd_same] at ht; cases ht
  have h3 : upd (upd H1 p (.lst [])) t (.tup [fv, .ref p]) x = some (.ins D dx []) := by
    rw [upd_ne nxt, upd_ne nxp]; exact x1 _ _ hxx
  have x3 : Evl.Ex H1 (upd (upd H1 p (.lst [])) t (.tup [fv, .ref p])) := (Evl.Ex.new hp).trans (Evl.Ex.new ht)
  refine ⟨t, [fv, .ref p], rfl, SqT.of upd_same, rfl, fv, [.ref p], rfl, _, rfl, x, D, dx, [], rfl, h3, L.wcls, L.w_n1, by decide, .ref p, [], rfl, _, rfl, x, D, dx, _, rfl, upd_same, L.wcls, L.w_n2, (show 1 < 1000 by decide), rfl, ?_⟩
  have h5 : ∀ c o, c ≠ x → H1 c = some o → upd (upd (upd (upd H1 p (.lst [])) t (.tup [fv, .ref p])) x (.ins D dx (putF "own_first" fv []))) x (.ins D dx (putF "own_rows" (.ref p) (putF "own_first" fv []))) c = some o := fun c o hc h => by
    rw [upd_ne hc, upd_ne hc]
    exact x3 _ _ h
  refine q _ fv p (fun c o h => h5 c o (fun z => by rw [z, hx] at h; cases h) (x1 _ _ (xB _ _ h))) upd_same (Evl.fresh_back xB (Evl.fresh_back x1 hp)) nxp ?_ ?_
  · rw [upd_ne (Ne.symm nxp), upd_ne (Ne.symm nxp), upd_ne npt]
    exact upd_same
  · refine rf.mono fun c o h => ?_
    have hc : (O c || decide (c = x)) = false := by
      cases z : (O c || decide (c = x)) with
      | false => rfl
      | true => unfold msk at h; rw [if_pos z] at h; cases h
    have hp2 : c ≠ p := fun z => by
      rw [msk_at hc, z, hp] at h
      cases h
    have hc2 : ((O c || decide (c = x)) || decide (c = p)) = false := by rw [hc, decide_eq_false hp2]; rfl
    rw [msk_at hc] at h
    refine (msk_at (O := fun c => (O c || decide (c = x)) || decide (c = p)) hc2).trans (h5 c o (fun z => by rw [z] at hc; simp at hc) h)
end
end Dt
set_option Elab.async false
set_option linter.all false
set_option maxRecDepth 100000
set_option maxHeartbeats 8000000
/-! A watch while its rows are own. -/
namespace Dt
open PySem PySem.Spec PyProof.Rows L2
open Evl (Ex)
/-- all but lists stays -/
def ExT (H H' : Hp) : Prop := ∀ a o, H a = some o → (∀ vs, o ≠ .lst vs) → H' a = some o
theorem ext_t {K : Frag} {H H' : Hp} {a : Addr} {vs : List V} (e : ExT H H') (h : SqT K H a vs) : SqT K H' a vs := by
  rcases h with h | h
  · rcases h with h | ⟨o, h⟩
    · exact .inl (.inl (e _ _ h fun _ z => nomatch z))
    · exact .inl (.inr ⟨o, e _ _ h fun _ z => nomatch z⟩)
  · exact .inr h
theorem ext_s {H H' : Hp} {a C dx : Addr} {vs : List (Option V)} (e : ExT H H') (h : SlX.Slt H a C dx vs) : SlX.Slt H' a C dx vs := by
  rcases h with ⟨h1, h2⟩ | ⟨h1, h2⟩
  · exact .inl ⟨e _ _ h1 (fun _ z => nomatch z), h2⟩
  · refine .inr ⟨e _ _ h1 fun _ z => ?_, e _ _ h2 fun _ z => nomatch z⟩
    unfold SlX.SlO at z
    cases z
mutual
def noL : DV → Bool
  | .lst _ => false
  | .wd => false
  | .wt _ _ _ => false
  | .lf _ => false
  | .tup ds => noLs ds
  | _ => true
def noLs : List DV → Bool
  | [] => true
  | d :: ds => noL d && noLs ds
end
section
variable {K : Frag} {C : Addr} {H H' : Hp}
mutual
theorem Rep.back (e : ExT H H') : ∀ {v : V} {d : DV}, Rep K C H v d → noL d = true → Rep K C H' v d
  | _, _, .non, _ => .non
  | _, _, .bl b, _ => .bl b
  | _, _, .int i, _ => .int i
  | _, _, .str x, _ => .str x
  | _, _, .tup h r, n => .tup (ext_t e h) (Reps.back e r (by unfold noL at n; exact n))
  | _, _, .lst _ _, n => by unfold noL at n; cases n
  | _, _, .yr h hp hq ne, _ => .yr (ext_s e h) (ext_t e hp) (ext_t e hq) ne
  | _, _, .hf h hp, _ => .hf (ext_s e h) (ext_t e hp)
  | _, _, .adr a, _ => .adr a
  | _, _, .wd _ _ _, n => by unfold noL at n; cases n
  | _, _, .wt _ _ _ _, n => by unfold noL at n; cases n
  | _, _, .lf _ _, n => by unfold noL at n; cases n
theorem Reps.back (e : ExT H H') : ∀ {vs : List V} {ds : List DV}, Reps K C H vs ds → noLs ds = true → Reps K C H' vs ds
  | _, _, .nil, _ => .nil
  | _, _, .cons h r, n => by
    unfold noLs at n
    obtain ⟨n1, n2⟩ := Bool.and_eq_true_iff.mp n
    exact .cons (Rep.back e h n1) (Reps.back e r n2)
end
end
/-- a watch at e, its rows the own list at r -/
def wat (K : Frag) (C D : Addr) (e r : Addr) (f : DV) (rows : List DV) : Res := fun W O H => W r = true ∧ O e = false ∧ ∃ dx fv vs, H e = some (.ins D dx [("own_first", fv), ("own_rows", .ref r)]) ∧ H r = some (.lst vs) ∧ Rep K C (msk O H) fv f ∧ Reps K C (msk O H) vs rows
section
variable {K : Frag} {C D e r : Addr} {f d : DV} {rows ds : List DV} {δ : Den} {i : Nat} {te : TE} {P : Res}
theorem wat_stab : Stab (wat K C D e r f rows) := fun W O H H' ok x h => by
  obtain ⟨w, oe, dx, fv, vs, h1, h2, h3, h4⟩ := h
  exact ⟨w, oe, dx, fv, vs, x _ _ h1, x _ _ h2, h3.mono (msk_ex x), h4.up x⟩
theorem wat_env {W O : AS} {H : Hp} {σ : L2.St} (e' : EnvD K C O H σ δ) (hi : δ[i]? = some (some (.adr e))) (h : wat K C D e r f rows W O H) : EnvD K C (fun a => O a && !decide (a = r)) H σ (δ.set i (some (.wt D f rows))) := by
  obtain ⟨w, oe, dx, fv, vs, h1, h2, h3, h4⟩ := h
  obtain ⟨v, hv, rv⟩ := e'.at_ i _ hi
  cases rv
  have z := (e'.to (peek_msk (p := r))).set (i := i) (v := .ref e) (d := .wt D f rows) (.wt (dx := dx) (fv := fv) (r := r) (vs := vs) (by rw [msk_at (by rw [oe]; rfl)]; exact h1) (h3.mono peek_msk) (by rw [msk_at (by simp)]; exact h2) (h4.mono peek_msk))
  rw [set_same hv] at z
  exact z
theorem peek_back {O : AS} {H : Hp} {vs : List V} {v : V} (h : H r = some (.lst vs)) (q : Rep K C (msk (fun a => O a && !decide (a = r)) H) v d) (n : noL d = true) : Rep K C (msk O H) v d := q.back (fun a o g k => by
  unfold msk at g ⊢
  by_cases z : a = r
  · subst z
    rw [if_neg (by simp)] at g
    rw [h] at g
    cases g
    exact absurd rfl (k vs)
  · simpa [z] using g) n
/-- what is read of a watch -/
theorem em_peekW (hi : δ[i]? = some (some (.adr e))) (h : EvD K C te (δ.set i (some (.wt D f rows))) d) (n : noL d = true) (hP : Stab P) (ho : ∀ W O H, P W O H → wat K C D e r f rows W O H) : EvM K C te δ P (fun x W O H => x = d ∧ P W O H) := fun W O σ H Q ok e' p' q =>
  h _ σ H _ (peek_good ok) (wat_env e' hi (ho _ _ _ p')) fun v H1 e1 r1 => by
    obtain ⟨w, oe, dx, fv, vs, h1, h2, h3, h4⟩ := ho _ _ _ (hP W O H H1 ok e1 p')
    exact q d v H1 ⟨rfl, hP W O H H1 ok e1 p'⟩ (.of e1) (ok.ex e1) (peek_back h2 r1 n)
end
end Dt
set_option Elab.async false
set_option linter.all false
set_option maxRecDepth 100000
set_option maxHeartbeats 8000000
/-! The watch's turns. -/
namespace Dt
open PySem PySem.Spec PyProof.Rows L2
open Evl (Ex)
section
variable {K : Frag} {C D e r : Addr} {f d : DV} {rows ds : List DV} {δ : Den} {i : Nat} {te ta : TE} {P : Res} {R : DV → Res} {N : Den → Res} {u : TS}
theorem wat_upd {W O : AS} {H : Hp} {vs : List V} (ok : OkA W O H) (h : wat K C D e r f rows W O H) (rr : Reps K C (msk O H) vs ds) : wat K C D e r f ds W O (upd H r (.lst vs)) := by
  obtain ⟨w, oe, dx, fv, vs0, h1, h2, h3, h4⟩ := h
  have ne : e ≠ r := fun z => by rw [z, ok.sub r w] at oe; cases oe
  exact ⟨w, oe, dx, fv, vs, by rw [upd_ne ne]; exact h1, upd_same, h3.mono ((ch_upd w).msk ok), rr.mono ((ch_upd w).msk ok)⟩
/-- self.own_rows.append(e) -/
theorem sm_appendW (hi : δ[i]? = some (some (.adr e))) (ho : ∀ W O H, P W O H → wat K C D e r f rows W O H) (c : Cls K D) (n : NoAttr K D "own_rows") (h : EvM K C ta δ P (fun x W O H => x = d ∧ wat K C D e r f rows W O H)) (hl : rows.length ≤ 1000)
    (k : StM K C u δ (wat K C D e r f (rows ++ [d])) N R) :
    StM K C (tSeq (tDrop (tBM K "list" rAppend (tFld K (tVar i) "own_rows") (tCons ta tNil))) u) δ P N R := sm_seq (M := fun δ' W O H => δ' = δ ∧ wat K C D e r f (rows ++ [d]) W O H) (fun W O σ H D' ok e' p' q1 _ => by
  obtain ⟨v, hv, rv⟩ := e'.at_ i _ hi
  cases rv
  obtain ⟨w, oe, dx, fv, vs, h1, h2, h3, h4⟩ := ho W O H p'
  refine ⟨.ref e, hv, e, D, dx, _, .ref r, rfl, h1, c, n, rfl, .inl ⟨rfl, vs, SqL.of h2⟩, h W O σ H _ ok e' p' fun x y H1 ⟨hx, o1⟩ c1 ok1 r1 => ?_⟩
  subst hx
  have o2 := o1
  obtain ⟨w1, oe1, dx1, fv1, vs1, a1, a2, a3, a4⟩ := o1
  have sl : sizeLine = 16777216 := sizeLine_eq
  refine ⟨r, vs1, y, rfl, rfl, a2, by rw [a4.len]; omega, ?_⟩
  have c2 := c1.trans (ch_upd (H := H1) (o := .lst (vs1 ++ [y])) w)
  exact q1 δ σ _ ⟨rfl, wat_upd ok1 o2 (a4.app (.cons r1 .nil))⟩ c2 (ok_upd ok1) (e'.to (c2.msk ok))) fun δ' => sm_told (A := δ' = δ) (fun _ _ _ z => z.1) fun z => by
    subst z
    exact sm_pre k fun _ _ _ z => z.2
end
section
variable {P : Program} {w : World} {K : Frag} {mg : Str → Option Value} {base : Heap} {C D : Addr}
abbrev Row := List Int × List Int × Int
abbrev mkRow (a b : List Int) : Row := (a, b, moD a b)
/-- the row behind a turn -/
def turnW (l : Row) (s : Str) (y : List Int) : Row := if s = "one" then mkRow y l.2.1 else mkRow l.1 y
structure Turn where
  e : Addr
  r : Addr
  x : Row
  xs : List Row
  s : Str
  y : List Int
abbrev Turn.last (t : Turn) : Row := t.xs.getLastD t.x
def sp_become (K : Frag) (C D : Addr) : Sp := spM K C (fun t : Turn => [.adr t.e, .str t.s, .yr t.y]) (fun t W O H => wat K C D t.e t.r (rowW t.x) (t.xs.map rowW) W O H ∧ YY ((turnW t.last t.s t.y).1, (turnW t.last t.s t.y).2.1) ∧ t.xs.length ≤ 40)
  (fun t d W O H => d = .int (turnW t.last t.s t.y).2.2 ∧ wat K C D t.e t.r (rowW t.x) ((t.xs ++ [turnW t.last t.s t.y]).map rowW) W O H)
theorem lastW (x : Row) (xs : List Row) : (xs.map rowW).getLastD (rowW x) = rowW (xs.getLastD x) := by
  rcases List.eq_nil_or_concat xs with h | ⟨l, b, h⟩
  · subst h; rfl
  · subst h; simp
theorem mw_become (L : Loc K mg C D) : MeW P w K mg base D "become" 9 (sp_become K C D) := by
  obtain ⟨f, fd, hm, F⟩ := L.w_become
  refine ⟨f, hm, fnr_mut F sc_Watch_become (fun _ _ _ _ _ _ us h => ?_) (fun _ => rfl) ?_⟩
  · obtain ⟨a, b, c, rfl⟩ := three_of h
    rfl
  intro cdv A outer s H E hr
  refine ⟨_, (pss_cons (ps_asg (pe_ifExp (pt_cmpR op_eq (pv 1) (pe_glob (v := .str "one") (by rfl) L.c_ONE.choose_spec ⟨_, rfl⟩) (nomark _)) (pe_tup (pa_cons (pv 2) (pa_cons (pe_prW (pw_other L) L.wcls hr (by decide) (pv 0)) pa_nil))) (pe_tup (pa_cons (pe_prW (pw_one L) L.wcls hr (by decide) (pv 0)) (pa_cons (pv 2) pa_nil)))) (pg_tup rfl (pgs_cons (pg_name (i := 3) sc_Watch_become.nd rfl (Or.inl rfl)) (pgs_cons (pg_name (i := 4) sc_Watch_become.nd rfl (Or.inl rfl)) pgs_nil))))
    (pss_cons (ps_expr (pe_bm PySem.F.plainAttrs_list PySem.F.slot_list_append PySem.F.type_list_append mt_append (k_fld (K := K) rfl (pv 0)) (pa_cons (pe_tup (pa_cons (pv 3) (pa_cons (pv 4) (pa_cons (pe_fn (fn_most_more L) hr (by decide) (by rfl) (pa_cons (pv 3) (pa_cons (pv 4) pa_nil))) pa_nil)))) pa_nil)))
    (pss_one (ps_ret (pe_ix (k_ix (K := K) rfl) (pe_meW0 (mw_here L) L.wcls hr (by decide) (pv 0)) pe_int (fun _ _ => rfl)))))), ?_⟩
  intro t
  refine sm_told (A := YY ((turnW t.last t.s t.y).1, (turnW t.last t.s t.y).2.1) ∧ t.xs.length ≤ 40) (fun W O H h => h.2) fun ⟨yy, hl⟩ => ?_
  have hl2 : (t.xs.map rowW).length ≤ 50 := by rw [List.length_map]; omega
  refine sm_pre (P := wat K C D t.e t.r (rowW t.x) (t.xs.map rowW)) ?_ fun W O H h => h.1
  refine sm_letT (R' := fun d W O H => d = .tup [.yr (turnW t.last t.s t.y).1, .yr (turnW t.last t.s t.y).2.1] ∧ wat K C D t.e t.r (rowW t.x) (t.xs.map rowW) W O H) (em_peekW (i := 0) rfl (ev_if (b := decide (t.s = "one")) (et_test (ev_eqS (ev_var rfl) ev_str)) (fun hb => ?_) fun hb => ?_) rfl wat_stab fun _ _ _ h => h) fun d ⟨_, _, _, hd, _⟩ => ?_
  · have hb := of_decide_eq_true hb
    unfold turnW
    rw [if_pos hb]
    exact ev_tup (ea_cons (ev_var rfl) (ea_cons (ev_prW (ev_var rfl) ⟨_, _, _, rfl, hl2, lastW _ _, rfl⟩) ea_nil)) (Nat.le_of_ble_eq_true rfl)
  · have hb := of_decide_eq_false hb
    unfold turnW
    rw [if_neg hb]
    exact ev_tup (ea_cons (ev_prW (ev_var rfl) ⟨_, _, _, rfl, hl2, lastW _ _, rfl⟩) (ea_cons (ev_var rfl) ea_nil)) (Nat.le_of_ble_eq_true rfl)
  subst hd
  refine ⟨_, _, tg_tup rfl (tgs_cons tg_name (tgs_cons tg_name tgs_nil)), ?_⟩
  refine sm_pre (P := wat K C D t.e t.r (rowW t.x) (t.xs.map rowW)) ?_ fun W O H h => h.2
  have hw : ∀ z : Row, t.xs.map rowW ++ [rowW z] = (t.xs ++ [z]).map rowW := fun z => by rw [List.map_append]; rfl
  have hm2 : (turnW t.last t.s t.y).2.2 = moD (turnW t.last t.s t.y).1 (turnW t.last t.s t.y).2.1 := by
    unfold turnW
    split <;> rfl
  refine sm_appendW (i := 0) (d := rowW (turnW t.last t.s t.y)) rfl (fun _ _ _ h => h) L.wcls L.w_n2 (em_pure (ev_tup (ea_cons (ev_var rfl) (ea_cons (ev_var rfl) (ea_cons (ev_fn (ea_cons (ev_var rfl) (ea_cons (ev_var rfl) ea_nil)) ⟨(_, _), yy, rfl, by rw [hm2]⟩) ea_nil))) (Nat.le_of_ble_eq_true rfl)) wat_stab) (by rw [List.length_map]; omega) ?_
  rw [hw]
  refine sm_ret (em_peekW (i := 0) rfl (ev_ix (ev_meW0 (ev_var rfl) (by decide) (by decide) ⟨_, _, rfl, (by rw [List.length_map, List.length_append]; simp; omega), rfl⟩) (.inr (by rw [lastW, List.getLastD_concat])) ev_int (atI_nat rfl)) rfl wat_stab fun _ _ _ h => h)
end
end Dt
set_option Elab.async false
set_option linter.all false
set_option maxRecDepth 100000
set_option maxHeartbeats 8000000
/-! The watch's other turns. -/
namespace Dt
open PySem PySem.Spec PyProof.Rows L2
open Evl (Ex)
theorem lk_none {m : Str} {fv rv : V} (h1 : ("own_first" : Str) ≠ m) (h2 : ("own_rows" : Str) ≠ m) : ([("own_first", fv), ("own_rows", rv)] : List (Str × V)).lookup m = none := by
  rw [List.lookup_cons, List.lookup_cons, beq_false_of_ne (Ne.symm h1), beq_false_of_ne (Ne.symm h2)]; rfl
section
variable {K : Frag} {C D e r : Addr} {f d : DV} {rows ds : List DV} {δ : Den} {i : Nat} {te ta : TE} {P : Res} {R : DV → Res} {t : TA} {m : Str}
theorem ev_meW {F : List DV → DV → Prop} (h : EvD K C ta δ (.wt D f rows)) (hl : ("own_first" : Str) ≠ m) (hl2 : ("own_rows" : Str) ≠ m) (ha : EvA K C t δ ds) (hf : F (.wt D f rows :: ds) d) : EvD K C (tMethR D m (spD K C F) E0 ta t) δ d := fun O σ H Q gd e q =>
  h O σ H _ gd e fun v H1 e1 r1 => by
    have r0 := r1
    cases r1 with
    | wt hi rf hr rr => exact ⟨_, _, _, rfl, msk_sub _ _ hi, lk_none hl hl2, ha O σ H1 _ (gd.ex e1) (e.up e1) fun ws H2 e2 r2 => ⟨O, _, d, (gd.ex e1).ex e2, hf, .cons (r0.mono (msk_ex e2)) r2, fun v H3 e3 r3 => q v H3 ((e1.trans e2).trans e3) r3⟩⟩
/-- a turn of an own watch -/
theorem em_meW {α : Type} {arg : α → List DV} {Pf : α → Res} {Rf : α → DV → Res} {S : List DV → Res} (hi : δ[i]? = some (some (.adr e))) (hl : ("own_first" : Str) ≠ m) (hl2 : ("own_rows" : Str) ≠ m) (ho : ∀ W O H, P W O H → wat K C D e r f rows W O H) (h : EaM K C t δ P S)
    (hs : ∀ ds W O H, S ds W O H → ∃ a, .adr e :: ds = arg a ∧ Pf a W O H ∧ ∀ d H', Rf a d W O H' → Ch W H H' → OkA W O H' → R d W O H') : EvM K C (tMethR D m (spM K C arg Pf Rf) E0 (tVar i) t) δ P R := fun W O σ H Q ok e' p' q => by
  obtain ⟨v, hv, rv⟩ := e'.at_ i _ hi
  cases rv
  obtain ⟨w, oe, dx, fv, vs, h1, h2, h3, h4⟩ := ho W O H p'
  refine ⟨.ref e, hv, e, dx, _, rfl, h1, lk_none hl hl2, h W O σ H _ ok e' p' fun ds vs H1 r1 c1 ok1 w1 => ?_⟩
  obtain ⟨a, ea, hp, hr⟩ := hs ds W O H1 r1
  exact ⟨a, W, O, ok1, hp, by rw [← ea]; exact .cons (.adr e) w1, fun d v H2 r2 c2 ok2 w2 => q d v H2 (hr d H2 r2 c2 ok2) (c1.trans c2) ok2 w2⟩
end
section
variable {P : Program} {w : World} {K : Frag} {mg : Str → Option Value} {base : Heap} {C D : Addr}
def ownW (l : Row) (s : Str) : List Int := if s = "one" then l.1 else l.2.1
structure Put where
  e : Addr
  r : Addr
  x : Row
  xs : List Row
  s : Str
  k : Nat
  n : Int
abbrev Put.last (t : Put) : Row := t.xs.getLastD t.x
abbrev Put.own (t : Put) : List Int := ownW t.last t.s
/-- a turn to the year y -/
def turnR (K : Frag) (C D : Addr) (t : Put) (y : List Int) (d : DV) : Res := fun W O H => d = .int (turnW t.last t.s y).2.2 ∧ wat K C D t.e t.r (rowW t.x) ((t.xs ++ [turnW t.last t.s y]).map rowW) W O H
def turnP (K : Frag) (C D : Addr) (t : Put) (y : List Int) : Res := fun W O H => wat K C D t.e t.r (rowW t.x) (t.xs.map rowW) W O H ∧ YY ((turnW t.last t.s y).1, (turnW t.last t.s y).2.1) ∧ t.xs.length ≤ 40
def sp_put (K : Frag) (C D : Addr) : Sp := spM K C (fun t : Put => [.adr t.e, .str t.s, .int (t.k : Int), .int t.n]) (fun t W O H => turnP K C D t (putR t.own t.k t.n) W O H ∧ YrOk t.own ∧ t.own.length < 100 ∧ t.k ≤ t.own.length ∧ t.n ≠ 0) (fun t => turnR K C D t (putR t.own t.k t.n))
def sp_exch (K : Frag) (C D : Addr) : Sp := spM K C (fun t : Put => [.adr t.e, .str t.s, .int (t.k : Int)]) (fun t W O H => turnP K C D t (passR t.own t.k) W O H ∧ YrOk t.own ∧ t.k < t.own.length) (fun t => turnR K C D t (passR t.own t.k))
theorem own_at (l : Row) (s : Str) : ([.yr l.1, .yr l.2.1, .int l.2.2] : List DV)[if s = "one" then 0 else 1]? = some (.yr (ownW l s)) := by
  unfold ownW
  by_cases h : s = "one"
  · rw [if_pos h, if_pos h]; rfl
  · rw [if_neg h, if_neg h]; rfl
theorem mw_put (L : Loc K mg C D) : MeW P w K mg base D "put" 10 (sp_put K C D) := by
  obtain ⟨f, fd, hm, F⟩ := L.w_put
  refine ⟨f, hm, fnr_mut F sc_Watch_put (fun _ _ _ _ _ _ us h => ?_) (fun _ => rfl) ?_⟩
  · obtain ⟨a, b, c, g, rfl⟩ := four_of h
    rfl
  intro cdv A outer s H E hr
  refine ⟨_, (pss_one (ps_ret (pe_meW (mw_become L) L.wcls hr (by decide) (pv 0) (pa_cons (pv 1) (pa_cons (pe_fn (fn_put_in L) hr (by decide) (by rfl) (pa_cons (pe_meW (mw_year_of L) L.wcls hr (by decide) (pv 0) (pa_cons (pv 1) pa_nil)) (pa_cons (pv 2) (pa_cons (pv 3) pa_nil)))) pa_nil))))), ?_⟩
  intro t
  refine sm_told (A := (YY ((turnW t.last t.s (putR t.own t.k t.n)).1, (turnW t.last t.s (putR t.own t.k t.n)).2.1) ∧ t.xs.length ≤ 40) ∧ YrOk t.own ∧ t.own.length < 100 ∧ t.k ≤ t.own.length ∧ t.n ≠ 0) (fun W O H h => ⟨h.1.2, h.2⟩) fun ⟨⟨yy, hl⟩, hp⟩ => ?_
  have hl2 : (t.xs.map rowW).length ≤ 50 := by rw [List.length_map]; omega
  refine sm_pre (P := wat K C D t.e t.r (rowW t.x) (t.xs.map rowW)) ?_ fun W O H h => h.1.1
  refine sm_ret (em_meW (i := 0) rfl (by decide) (by decide) (fun _ _ _ h => h) (eam_cons (em_pure (ev_var rfl) wat_stab) fun x1 => eam_cons (R1 := fun x2 W O H => (x1 = .str t.s ∧ x2 = .yr (putR t.own t.k t.n)) ∧ wat K C D t.e t.r (rowW t.x) (t.xs.map rowW) W O H) (em_post (em_peekW (i := 0) rfl (ev_fn (ea_cons (ev_meW (ev_var rfl) (by decide) (by decide) (ea_cons (ev_var rfl) ea_nil) ⟨_, _, _, _, rfl, hl2, lastW _ _, own_at _ _⟩) (ea_cons (ev_var rfl) (ea_cons (ev_var rfl) ea_nil))) ⟨(t.own, t.k, t.n), hp, rfl, rfl⟩) rfl (P := fun W O H => x1 = .str t.s ∧ wat K C D t.e t.r (rowW t.x) (t.xs.map rowW) W O H) (fun W O H H' ok x h => ⟨h.1, wat_stab W O H H' ok x h.2⟩) fun _ _ _ h => h.2) fun d W O H h => ⟨⟨h.2.1, h.1⟩, h.2.2⟩) fun x2 => eam_nil fun _ _ _ _ => True.intro) fun ds W O H h => ?_)
  obtain ⟨x1, xs, rfl, x2, ys, rfl, rfl, ⟨rfl, rfl⟩, hw⟩ := h
  exact ⟨⟨t.e, t.r, t.x, t.xs, t.s, putR t.own t.k t.n⟩, rfl, ⟨hw, yy, hl⟩, fun d H' h _ _ => h⟩
theorem mw_exchange (L : Loc K mg C D) : MeW P w K mg base D "exchange" 10 (sp_exch K C D) := by
  obtain ⟨f, fd, hm, F⟩ := L.w_exchange
  refine ⟨f, hm, fnr_mut F sc_Watch_exchange (fun _ _ _ _ _ _ us h => ?_) (fun _ => rfl) ?_⟩
  · obtain ⟨a, b, c, rfl⟩ := three_of h
    rfl
  intro cdv A outer s H E hr
  refine ⟨_, (pss_one (ps_ret (pe_meW (mw_become L) L.wcls hr (by decide) (pv 0) (pa_cons (pv 1) (pa_cons (pe_fn (fn_passed L) hr (by decide) (by rfl) (pa_cons (pe_meW (mw_year_of L) L.wcls hr (by decide) (pv 0) (pa_cons (pv 1) pa_nil)) (pa_cons (pv 2) pa_nil))) pa_nil))))), ?_⟩
  intro t
  refine sm_told (A := (YY ((turnW t.last t.s (passR t.own t.k)).1, (turnW t.last t.s (passR t.own t.k)).2.1) ∧ t.xs.length ≤ 40) ∧ YrOk t.own ∧ t.k < t.own.length) (fun W O H h => ⟨h.1.2, h.2⟩) fun ⟨⟨yy, hl⟩, hp⟩ => ?_
  have hl2 : (t.xs.map rowW).length ≤ 50 := by rw [List.length_map]; omega
  refine sm_pre (P := wat K C D t.e t.r (rowW t.x) (t.xs.map rowW)) ?_ fun W O H h => h.1.1
  refine sm_ret (em_meW (i := 0) rfl (by decide) (by decide) (fun _ _ _ h => h) (eam_cons (em_pure (ev_var rfl) wat_stab) fun x1 => eam_cons (R1 := fun x2 W O H => (x1 = .str t.s ∧ x2 = .yr (passR t.own t.k)) ∧ wat K C D t.e t.r (rowW t.x) (t.xs.map rowW) W O H) (em_post (em_peekW (i := 0) rfl (ev_fn (ea_cons (ev_meW (ev_var rfl) (by decide) (by decide) (ea_cons (ev_var rfl) ea_nil) ⟨_, _, _, _, rfl, hl2, lastW _ _, own_at _ _⟩) (ea_cons (ev_var rfl) ea_nil)) ⟨(t.own, t.k), hp, rfl, rfl⟩) rfl (P := fun W O H => x1 = .str t.s ∧ wat K C D t.e t.r (rowW t.x) (t.xs.map rowW) W O H) (fun W O H H' ok x h => ⟨h.1, wat_stab W O H H' ok x h.2⟩) fun _ _ _ h => h.2) fun d W O H h => ⟨⟨h.2.1, h.1⟩, h.2.2⟩) fun x2 => eam_nil fun _ _ _ _ => True.intro) fun ds W O H h => ?_)
  obtain ⟨x1, xs, rfl, x2, ys, rfl, rfl, ⟨rfl, rfl⟩, hw⟩ := h
  exact ⟨⟨t.e, t.r, t.x, t.xs, t.s, passR t.own t.k⟩, rfl, ⟨hw, yy, hl⟩, fun d H' h _ _ => h⟩
end
end Dt
set_option Elab.async false
set_option linter.all false
set_option maxRecDepth 100000
set_option maxHeartbeats 8000000
/-! A turn taken back. -/
namespace Dt
open PySem PySem.Spec PyProof.Rows L2
open Evl (Ex)
theorem Reps.split {K : Frag} {C : Addr} {H : Hp} : ∀ {ds es : List DV} {vs : List V}, Reps K C H vs (ds ++ es) → ∃ us ws, vs = us ++ ws ∧ Reps K C H us ds ∧ Reps K C H ws es
  | [], _, vs, h => ⟨[], vs, rfl, .nil, h⟩
  | d :: ds, es, _, h => by
    cases h with
    | cons h r =>
      obtain ⟨us, ws, rfl, r1, r2⟩ := Reps.split r
      exact ⟨_ :: us, ws, rfl, .cons h r1, r2⟩
section
variable {K : Frag} {C D e r : Addr} {f d : DV} {rows ds : List DV} {δ : Den} {i : Nat} {P : Res} {R : DV → Res}
theorem sm_popW (hi : δ[i]? = some (some (.adr e))) (ho : ∀ W O H, P W O H → wat K C D e r f (rows ++ [d]) W O H) (c : Cls K D) (n : NoAttr K D "own_rows") : StM K C (tDrop (tBM K "list" rPop (tFld K (tVar i) "own_rows") tNil)) δ P (fun _ W O H => wat K C D e r f rows W O H) R := fun W O σ H D' ok e' p' q1 _ => by
  obtain ⟨v, hv, rv⟩ := e'.at_ i _ hi
  cases rv
  have o2 := ho W O H p'
  obtain ⟨w, oe, dx, fv, vs, h1, h2, h3, h4⟩ := ho W O H p'
  obtain ⟨us, ws, e1, r1, r2⟩ := h4.split
  cases r2 with
  | @cons y _ _ _ ry rn =>
    cases rn
    subst e1
    refine ⟨.ref e, hv, e, D, dx, _, .ref r, rfl, h1, c, n, rfl, .inl ⟨rfl, _, SqL.of h2⟩, r, _, _, rfl, rfl, h2, by simp; rfl, ?_⟩
    have c2 : Ch W H (upd H r (.lst (us ++ [y]).dropLast)) := ch_upd w
    exact q1 δ σ _ (wat_upd ok o2 (by rw [List.dropLast_concat]; exact r1)) c2 (ok_upd ok) (e'.to (c2.msk ok))
theorem etm_testW {b : Bool} {tt : TT} (hi : δ[i]? = some (some (.adr e))) (h : EvT K C tt (δ.set i (some (.wt D f rows))) b) (hP : Stab P) (ho : ∀ W O H, P W O H → wat K C D e r f rows W O H) : EtM K C tt δ P (fun x W O H => x = b ∧ P W O H) := fun W O σ H Q ok e' p' q =>
  h _ σ H _ (peek_good ok) (wat_env e' hi (ho _ _ _ p')) fun H1 e1 => q b H1 ⟨rfl, hP W O H H1 ok e1 p'⟩ (.of e1) (ok.ex e1)
end
section
variable {P : Program} {w : World} {K : Frag} {mg : Str → Option Value} {base : Heap} {C D : Addr}
structure Back where
  e : Addr
  r : Addr
  x : Row
  xs : List Row
  y : Row
def sp_back (K : Frag) (C D : Addr) : Sp := spM K C (fun t : Back => [.adr t.e]) (fun t W O H => wat K C D t.e t.r (rowW t.x) ((t.xs ++ [t.y]).map rowW) W O H ∧ t.xs.length ≤ 40) (fun t d W O H => d = .non ∧ wat K C D t.e t.r (rowW t.x) (t.xs.map rowW) W O H)
theorem mw_back (L : Loc K mg C D) : MeW P w K mg base D "back" 6 (sp_back K C D) := by
  obtain ⟨f, fd, hm, F⟩ := L.w_back
  refine ⟨f, hm, fnr_mut F sc_Watch_back (fun _ _ _ _ _ _ us h => ?_) (fun _ => rfl) ?_⟩
  · obtain ⟨a, rfl⟩ := one_of h
    rfl
  intro cdv A outer s H E hr
  refine ⟨_, (pss_cons (ps_if (pt_cmpR op_eq (pe_callB (k_len (K := K) rfl L hr (by decide)) (by rfl) L.b_len bb_len (pa_cons (k_fld (K := K) rfl (pv 0)) pa_nil)) pe_int (nomark _)) (pss_one ps_never) pss_nil)
    (pss_one (ps_expr (pe_bm0 PySem.F.plainAttrs_list PySem.F.slot_list_pop PySem.F.type_list_pop mt_pop (k_fld (K := K) rfl (pv 0)))))), ?_⟩
  intro t
  refine sm_told (A := t.xs.length ≤ 40) (fun W O H h => h.2) fun hl => ?_
  refine sm_pre (P := wat K C D t.e t.r (rowW t.x) (t.xs.map rowW ++ [rowW t.y])) ?_ fun W O H h => by
    have z := h.1
    rw [List.map_append] at z
    exact z
  refine sm_seq (M := fun δ' W O H => δ' = startD ["self"] [.adr t.e] ∧ wat K C D t.e t.r (rowW t.x) (t.xs.map rowW ++ [rowW t.y]) W O H) (sm_if (etm_testW (i := 0) (b := false) rfl (EvT.is (et_test (ev_eqI (ev_lenS L (ev_rows (ev_var rfl) L.wcls L.w_n2) (.inl rfl)) ev_int)) (by simp; omega)) wat_stab fun _ _ _ h => h) (sm_told (A := False) (fun W O H h => nomatch h.1) fun z => z.elim) (sm_pre (P := wat K C D t.e t.r (rowW t.x) (t.xs.map rowW ++ [rowW t.y])) (sm_next fun _ _ _ h => ⟨rfl, h⟩) fun W O H h => h.2)) fun δ' => sm_told (A := δ' = startD ["self"] [.adr t.e]) (fun _ _ _ h => h.1) fun z => ?_
  subst z
  refine sm_post (sm_popW (i := 0) rfl (fun W O H h => h.2) L.wcls L.w_n2) (fun δ' W O H h => ⟨rfl, h⟩) fun d W O H h => h
end
end Dt
set_option Elab.async false
set_option linter.all false
set_option maxRecDepth 100000
set_option maxHeartbeats 8000000
/-! Watch(one, other). -/
namespace Dt
open PySem PySem.Spec PyProof.Rows L2
open Evl (Ex)
theorem k_watch {X : Cx} {K : Frag} {C D : Addr} {k : Nat} {e : Expr} {es : List Expr} {t : TA} {p pos : Pos} (h : X.K = K) (L : Loc X.K X.mg C D) (hr : Room k X.A) (hk : 10 ≤ k) (hg : Gl X "Watch") (ha : PA X (e :: es) t)
    (he : starEach (e :: es) X.env = (false, eval e X.env) :: starEach es X.env := by rfl) (hpl : (backTo pos (starEach es X.env)).any (·.1) = false := by rfl) : PE X (.Call (.Name "Watch" p) (e :: es) [] pos) (StX.tMakeR D (spWatch K C D) E0 t) := by
  subst h
  obtain ⟨f, M, F⟩ := mk_watch (P := X.prog) (w := X.w) (base := X.base) L
  exact StX.pe_makeR M F (hr.mono hk) hg L.mgW pass0 ha (by decide) he hpl
section
variable {K : Frag} {C D e r : Addr} {δ : Den} {a b : List Int} {t : TA}
/-- a new watch -/
def EvW (K : Frag) (C D : Addr) (t : TE) (δ : Den) (f : DV) : Prop := ∀ (W O : AS) (σ : L2.St) (H : Hp) (Q : VK), OkA W O H → EnvD K C O H σ δ →
  (∀ e r H', Ex H H' → H e = none → H r = none → e ≠ r → OkA (plus W r) (plus O r) H' → Ex (msk O H) (msk (plus O r) H') → wat K C D e r f [] (plus W r) (plus O r) H' → Q (.ref e) H') → t σ H Q
theorem ev_watch (h : EvA K C t δ [.yr a, .yr b]) (yy : YY (a, b)) : EvW K C D (StX.tMakeR D (spWatch K C D) E0 t) δ (rowW (mkRow a b)) := fun W O σ H Q ok e q =>
  h O σ H _ ok.good e fun vs H1 x1 r1 x dx hx hd ne => by
    cases r1 with
    | cons ra r2 =>
      cases r2 with
      | cons rb r3 =>
        cases r3
        refine ⟨O, H1, x, dx, _, _, a, b, rfl, hx, hd, ne, rfl, ok.good.ex x1, .cons ra (.cons rb .nil), yy, fun H' fv r x2 hi hr nxr hl rf => ⟨rfl, ?_⟩⟩
        have xx := x1.trans x2
        have fx := Evl.fresh_back x1 hx
        have fr := Evl.fresh_back x1 hr
        have mm : Ex (msk O H) (msk (plus O r) H') := msk_more xx fun c z => by
          rcases Bool.or_eq_true_iff.mp z with z | z
          · exact .inl z
          · rw [of_decide_eq_true z]; exact .inr fr
        have hm : Ex (msk (fun c => (O c || decide (c = x)) || decide (c = r)) H') (msk (plus O r) H') := fun c o g => by
          unfold msk at g ⊢
          by_cases z : (O c || decide (c = x)) || decide (c = r)
          · rw [if_pos z] at g; cases g
          · rw [if_neg z] at g
            have z1 : ¬ (plus O r c = true) := fun y => z (by
              rcases Bool.or_eq_true_iff.mp y with y | y
              · rw [y]; rfl
              · rw [y]; simp)
            rw [if_neg z1]
            exact g
        refine q x r H' xx fx fr nxr ⟨fun c z => ?_, fun c z k => ?_⟩ mm ⟨by simp, ?_, dx, fv, [], hi, hl, rf.mono hm, .nil⟩
        · rcases Bool.or_eq_true_iff.mp z with z | z
          · exact Bool.or_eq_true_iff.mpr (.inl (ok.sub c z))
          · exact Bool.or_eq_true_iff.mpr (.inr z)
        · rcases Bool.or_eq_true_iff.mp z with z | z
          · exact ok.good.ex xx c z k
          · rw [of_decide_eq_true z, hl] at k; cases k
        · show (O x || decide (x = r)) = false
          rw [ok.good.new fx, decide_eq_false nxr]
          rfl
end
end Dt
set_option Elab.async false
set_option linter.all false
set_option maxRecDepth 100000
set_option maxHeartbeats 8000000
/-! != of two Years: object.__ne__ asks the own __eq__. -/
namespace Dt
open PySem PySem.Spec PyProof PyProof.Rows
section
variable {prog : Program} {w : World} {A : Around} {E : Value → Shared → Prop} {s : Shared} {K : PySem.W.Frag} {x C f : Addr} {ox : Obj} {od : Option Obj} {y : Value}
theorem ne_entry (X : K.In s.heap) (I : PySem.W.InstAt s.heap x ox C od) (hs : PySem.W.findIn K (.ref C) "__eq__" = some (some (.ref f))) (hf : PySem.W.isFn K (.ref f) = true) (hu : A.units < cLine) {Q : Fin → Shared → Prop}
    (hcall : wpAny (model prog w) A (call (.ref f) [.ref x, y]) (fun v s' => ∃ b, v = .bool b ∧ Q (.done (.ret (.bool (!b)))) s') E s) : wpAny (model prog w) A (Builtin.«object.__ne__» ⟨[.ref x, y], []⟩) Q E s := by
  unfold Builtin.«object.__ne__»
  repeat (first
    | with_reducible refine wpAny_cRoomFor hu ?_
    | (refine wpAny_bind (m := callSpecialIfBound? (.ref x) (Str.ofString "__eq__") [y])
        (PySem.W.ifBound_K X I hs hf (wpAny_mono hcall (fun r s' hr => by
          obtain ⟨b, rfl, hq⟩ := hr
          repeat (first | exact hq | exact wpAny_pure hq | exact wpAny_truthy_bool hq | (refine wpAny_bind (m := truthy (.bool _)) (wpAny_truthy_bool ?_)) | wp_step)) fun _ _ e => e)))
    | wp_step)
theorem ne_call (X : K.In s.heap) (I : PySem.W.InstAt s.heap x ox C od) (hm : PySem.W.mroIn K C (.type "object") = some true) (hs : PySem.W.findIn K (.ref C) "__eq__" = some (some (.ref f))) (hf : PySem.W.isFn K (.ref f) = true) (hu : A.units + 1 < cLine) {Q : Value → Shared → Prop}
    (hcall : wpAny (model prog w) A.in1 (call (.ref f) [.ref x, y]) (fun v s' => ∃ b, v = .bool b ∧ Q (.bool (!b)) s') E s) : wpAny (model prog w) A (call (.builtin "object.__ne__") [.ref x, y]) Q E s :=
  wpAny_call (codeAny_call_builtin F.cmp_object.ne.plain F.cmpEntry_ne (PySem.W.check_slot F.cmpKind_ne F.cmpSplit_ne (I.type.andThen (PySem.W.looks_mroIn X hm)) (F.cmpArgs_ne _ _) (ne_entry (A := A.in1) X I hs hf hu hcall)))
theorem ne_bound {M : Model} {args : List Value} {Q : Option Value → Shared → Prop} (X : K.In s.heap) (I : PySem.W.InstAt s.heap x ox C od) (hs : PySem.W.findIn K (.ref C) "__ne__" = some (some (.builtin "object.__ne__")))
    (h : wpAny M A (call (.builtin "object.__ne__") (.ref x :: args)) (fun v => Q (some v)) E s) : wpAny M A (callSpecialIfBound? (.ref x) "__ne__" args) Q E s := by
  simp only [callSpecialIfBound?, bindSpecialIfBound?]
  refine wpAny_holding (wpAny_bind (wpAny_bind (wpAny_bind (I.type.here ((PySem.W.looks_findIn X hs).here ?_)))))
  refine wpAny_bind (wpAny_askSetting (wpAny_ite ?_))
  have fin : wpAny M A (call (.builtin "object.__ne__") ([.ref x] ++ args) >>= fun v => pure (some v)) Q E s := wpAny_bind (wpAny_mono h (fun v s' h' => wpAny_pure h') fun _ _ h' => h')
  split
  · exact wpAny_bind (wpAny_of_eq (F.cmp_object.ne.bind _) (wpAny_pure (by exact fin)))
  · exact wpAny_tryCatch (wpAny_bind (wpAny_of_eq (F.cmp_object.ne.bind _) (wpAny_pure (by exact fin))))
theorem ne_rich {b : Addr} {ob : Obj} {odb : Option Obj} (X : K.In s.heap) (I : PySem.W.InstAt s.heap x ox C od) (J : PySem.W.InstAt s.heap b ob C odb) (hm : PySem.W.mroIn K C (.type "object") = some true) (he : PySem.W.findIn K (.ref C) "__eq__" = some (some (.ref f))) (hf : PySem.W.isFn K (.ref f) = true)
    (hn : PySem.W.findIn K (.ref C) "__ne__" = some (some (.builtin "object.__ne__"))) (hu : A.units + 1 < cLine) {Q : Value → Shared → Prop}
    (h : wpAny (model prog w) A.in1 (call (.ref f) [.ref x, .ref b]) (fun v s' => ∃ k, v = .bool k ∧ Q (.bool (!k)) s') E s) : wpAny (model prog w) A (richCompare .NotEq (.ref x) (.ref b)) Q E s := by
  have one : wpAny (model prog w) A (tryCompare (.ref x) "__ne__" (.ref b)) (fun r s' => ∃ v, r = some v ∧ Q v s') E s := by
    unfold tryCompare
    refine wpAny_bind (ne_bound X I hn (ne_call X I hm he hf hu (wpAny_mono h (fun v s' z => ?_) fun _ _ e => e)))
    obtain ⟨k, e, q⟩ := z
    exact ⟨k, e, wpAny_pure ⟨_, rfl, q⟩⟩
  unfold richCompare
  simp only [cmpInfo_NotEq, oneThing_ref]
  refine wpAny_holding (wpAny_bind (wpAny_cRoomFor (Nat.lt_of_succ_lt hu) ?_))
  refine wpAny_bind (I.type.here (wpAny_bind (J.type.here ?_)))
  rw [show (Value.ref C != Value.ref C) = false from by simp]
  simp only [Bool.false_eq_true, if_false]
  refine wpAny_bind (wpAny_pure ?_)
  simp only [Bool.false_eq_true, if_false]
  refine wpAny_bind (wpAny_mono one (fun r s' z => ?_) fun _ _ e => e)
  obtain ⟨v, rfl, hq⟩ := z
  exact wpAny_pure hq
end
end Dt
set_option Elab.async false
set_option linter.all false
set_option maxRecDepth 100000
set_option maxHeartbeats 8000000
/-! != of two Years, as an operator. -/
namespace SlX
open PySem PySem.Spec PyProof.Rows L2
def rNeOwn (C : Addr) (sp : Sp) (E : XK) : R2 := fun x y H Q => ∃ a dx vs b dy ws, x = .ref a ∧ y = .ref b ∧ Slt H a C dx vs ∧ Slt H b C dy ws ∧ sp [x, y] H (fun z H' => ∃ k, z = .bl k ∧ Q (.bl (!k)) H') E
theorem op_neOwn {X : Cx} {CX : CXT} {n : Nat} {C g : Addr} {sp : Sp} {E : XK} (hm : PySem.W.mroIn X.K C (.type "object") = some true) (he : PySem.W.findIn X.K (.ref C) "__eq__" = some (some (.ref g))) (hf : PySem.W.isFn X.K (.ref g) = true)
    (hn : PySem.W.findIn X.K (.ref C) "__ne__" = some (some (.builtin "object.__ne__"))) (F : FnR X.prog X.w X.K X.mg X.base CX n g sp) (hr : Room (n + 1) X.A) (hx : Passes CX X E) : OpR X (compareOp .NotEq) (rNeOwn C sp E) := by
  intro pins s σ H x y v u Q I rx ry h
  obtain ⟨a, dx, vs, b, dy, ws, rfl, rfl, ha, hb, q⟩ := h
  cases (show v = Value.ref a from rx)
  cases (show u = Value.ref b from ry)
  obtain ⟨sl, od, _, J, _⟩ := slt_inst I ha
  obtain ⟨sl', od', _, J', _⟩ := slt_inst I hb
  have hr1 : Room n X.A.in1 := Room.in1 hr
  show wpAny _ _ (richCompare .NotEq (.ref a) (.ref b)) _ _ _
  refine Dt.ne_rich I.kIn J J' hm he hf hn hr1.units0 (wpAny_mono (wpAny_call (run_at (us := [.ref a, .ref b]) (ws := [.ref a, .ref b]) F hr1 I.env0.in1 hx I (.cons rfl (.cons rfl .nil)) q)) (fun w s' z => ?_) fun _ _ e => e)
  obtain ⟨z', H', I', rz, k, ek, qz⟩ := z
  subst ek
  exact ⟨k, rz, .bl (!k), H', I', rfl, qz⟩
end SlX
set_option Elab.async false
set_option linter.all false
set_option maxRecDepth 100000
set_option maxHeartbeats 8000000
/-! Year.__eq__ walked; != of lists with Years among their items, all equal. -/
namespace Dt
open PySem PySem.Spec PyProof.Rows L2
open Evl (Ex)
theorem k_isiSl {X : Cx} {K : Frag} (u : Value) (h : X.K = K) : CallR X (.builtin "isinstance") (SlX.rIsiSl K u) := by subst h; exact SlX.call_isiSl u
section
variable {K : Frag} {mg : Str → Option Value} {C D : Addr} {δ : Den} {rs : List Int} {ta : TE}
theorem ev_isiY (L : Loc K mg C D) (h : EvD K C ta δ (.yr rs)) : EvD K C (tCB (SlX.rIsiSl K (.ref C)) (tCons ta (tCons (tC (.ref C)) tNil))) δ (.bl true) := fun O σ H Q gd e q =>
  h O σ H _ gd e fun v H1 e1 r1 => by
    cases r1 with
    | yr hs hp hq ne => exact ⟨_, C, _, _, .ref C, true, rfl, rfl, (fun w h => h), slt_mono msk_sub hs, L.ycls, L.yisi, L.ykit, q _ H1 e1 (.bl _)⟩
end
section
variable {P : Program} {w : World} {K : Frag} {mg : Str → Option Value} {base : Heap} {C D : Addr}
def F_Year_eq : List DV → DV → Prop := mkF (fun rs : List Int => YrOk rs) (fun rs => [.yr rs, .yr rs]) fun _ => .bl true
theorem me_eq (L : Loc K mg C D) : ∃ g, Meth K C "__eq__" g ∧ FnR P w K mg base CX0 3 g (spD K C F_Year_eq) := by
  obtain ⟨g, fd, M, F⟩ := L.y_eq
  refine ⟨g, M, fnr_of F sc_Year___eq__ (fun _ _ _ _ _ _ us h => ?_) _ (fun ds d ⟨x, _, e, _⟩ => by rw [e]; rfl) ?_⟩
  · obtain ⟨a, b, rfl⟩ := two_of h
    rfl
  intro cdv A outer s H E hr
  refine ⟨_, (pss_one (ps_ret (pe_and (pe_callB (k_isiSl (K := K) (.ref C) rfl) (by rfl) L.b_isinstance bb_isinstance (pa_cons (pv 1) (pa_cons (pe_glob (v := .ref C) (by rfl) L.mgY rfl) pa_nil))) (pe_one (pe_cmpR (k_eqD (K := K) rfl (units_of hr)) (k_slot (K := K) rfl (pv 0)) (pe_pr (pr_runs L) L.ycls hr (by decide) (pv 1)) (nomark _)))))), ?_⟩
  rintro ds d ⟨rs, ok, rfl, rfl⟩
  refine st_retR (EvD.is (ev_andV (ev_isiY L (ev_var rfl)) fun _ => ev_eqO (n := 1) (m := 1) (ev_runs (ev_var rfl) L.ycls L.y_s0.choose_spec) (ev_p_runs (ev_var rfl)) (ok_dis 0 rs) (ok_dis 0 rs) (by decide) (by decide)) ?_)
  show DV.bl (true && PyData.eqv (pd (.tup (dis rs))) (pd (.tup (dis rs)))) = .bl true
  have := eqv_dis rs
  simp only [pd, PyData.eqv, this, Bool.true_and]
end
/-! ### below a list -/
/-- equal items: the same year, the same ints -/
def DIt (K : Frag) (C : Addr) : Eqv := fun x y H => (∃ rs, Rep K C H x (.yr rs) ∧ Rep K C H y (.yr rs)) ∨ ∃ ns : List Int, Rep K C H x (.tup (dis ns)) ∧ Rep K C H y (.tup (dis ns))
theorem mon_it {K : Frag} {C : Addr} : Mon (DIt K C) := fun x y H H' e d => by
  rcases d with ⟨rs, a, b⟩ | ⟨ns, a, b⟩
  · exact .inl ⟨rs, a.mono e, b.mono e⟩
  · exact .inr ⟨ns, a.mono e, b.mono e⟩
theorem msk_none {H : Hp} : msk (fun _ => false) H = H := by
  funext a
  unfold msk
  rw [if_neg (fun z => nomatch z)]
theorem rcG_yr {X : Cx} {C D : Addr} (L : Loc X.K X.mg C D) : RcG X 3 (fun x y H => ∃ rs, Rep X.K C H x (.yr rs) ∧ Rep X.K C H y (.yr rs)) := by
  intro A pins s σ H x y u v sb I rx ry d
  obtain ⟨rs, r1, r2⟩ := d
  obtain ⟨g, M, F⟩ := me_eq (P := X.prog) (w := X.w) (base := X.base) L
  have ok : YrOk rs := by
    cases r1 with
    | yr hs hp hq ne => exact ne
  have q0 : spD X.K C F_Year_eq [x, y] H (fun z H' => z = .bl true ∧ Ext H H') E0 := ⟨fun _ => false, _, _, (fun a z => nomatch z), ⟨rs, ok, rfl, rfl⟩, by rw [msk_none]; exact .cons r1 (.cons r2 .nil), fun v H' e r => ⟨r.bl_eq, e⟩⟩
  cases r1 with
  | yr h1 hp1 hq1 ne1 =>
    cases r2 with
    | yr h2 hp2 hq2 ne2 =>
      cases rx
      cases ry
      obtain ⟨sl, od, _, J, _⟩ := SlX.slt_inst I h1
      obtain ⟨sl', od', _, J', _⟩ := SlX.slt_inst I h2
      obtain ⟨m, hF⟩ := I.fr
      refine PySem.W.cmp_K (op := .Eq) (tb := .ref C) sb.room.units0 hF I.ok.mod.kin J J'.type L.y_nf M.at_ M.fn ?_
      have e0 : Env0 X.prog X.w X.K X.mg X.base A X.stack s H := by
        have e := I.env0
        exact ⟨by rw [sb.fr]; exact e.frames, e.mod, e.bs, e.bsz, e.funs, e.frf, e.hok, e.bare⟩
      refine wpAny_mono (wpAny_call (SlX.run_at (us := [.ref _, .ref _]) (ws := [.ref _, .ref _]) F sb.room e0 pass0 I (.cons rfl (.cons rfl .nil)) q0)) (fun w s' z => ?_) fun _ _ x => x
      obtain ⟨z', H', I', rz, ez, ex⟩ := z
      subst ez
      cases (show w = Value.bool true from rz)
      exact ⟨rfl, H', I', ex⟩
theorem eqG_it {X : Cx} {C D : Addr} (L : Loc X.K X.mg C D) : EqG X 3 (DIt X.K C) :=
  EqG.or ((rcG_yr L).eqG fun x y H d => by
    obtain ⟨rs, r1, r2⟩ := d
    cases r1 with
    | yr _ _ _ _ =>
      cases r2 with
      | yr _ _ _ _ => exact ⟨_, _, rfl, rfl⟩) (EqG.mono (EqG.imp (eqG_tup mon_flat eqG_flat) fun x y H d => by
    obtain ⟨ns, r1, r2⟩ := d
    cases r1 with
    | tup h1 k1 =>
      cases r2 with
      | tup h2 k2 =>
        have e1 := k1.ints_eq
        have e2 := k2.ints_eq
        subst e1
        subst e2
        refine ⟨_, _, _, _, rfl, rfl, h1, h2, rfl, fun i x y hx hy => ?_⟩
        rw [hx] at hy
        cases hy
        rw [List.getElem?_map] at hx
        obtain ⟨n, _, en⟩ := Option.map_eq_some_iff.mp hx
        subst en
        exact ⟨rfl, rfl, by rw [eqV_int]; exact beq_self_eq_true n⟩) (by decide))
end Dt
/-! ### != of two lists, item by item equal -/
namespace GQ
open PySem PySem.SeqAt
open AutoSeq1 (wpAny_loadPart')
open MeetsSeq MeetsSeq2 MeetsSeq3 SeqRoads2
section
variable {prog : Program} {w : World} {A : Around} {R : Result → Shared → Prop}
theorem ne_loopH (l b : Addr) (N : Nat) (I : Nat → Shared → Prop) (hl : ListI prog w A (fun e s' => R (.error e) s') l b N I) (fin : ∀ s, I N s → R (.ok (.ret (.bool false))) s) (k : Nat) :
    ∀ i : Nat, N - i = k → i ≤ N → ∀ s, I i s → wpAny (model prog w) A.in1 (Builtin.«list.__eq__.loop» ⟨[.ref l, .ref b, rawInt i, rawInt 3], []⟩) (FinOf prog w A R) (fun e s' => R (.error e) s') s := by
  induction k with
  | zero =>
    intro i hk hi s h
    obtain ⟨us, vs, n, n2, hl1, hb1, hs1, hs2, _⟩ := hl _ _ h
    have hi' : i = N := by omega
    have hR : R (.ok (.ret (.bool false))) s := fin s (hi' ▸ h)
    obtain ⟨hp, g, d, tk, os⟩ := s
    wp_walk using wpAny_loadPart' hl1, wpAny_loadPart' hb1
    have z1 : us[((i : Nat) : Int).toNat]? = none := by simp; omega
    have z2 : vs[((i : Nat) : Int).toNat]? = none := by simp; omega
    rw [z1, z2]
    wp_walk using wpAny_loadPart' hl1, wpAny_loadPart' hb1
    show R (.ok (.ret (.bool (us.size != vs.size)))) _
    rw [hs1, hs2]
    simpa using hR
  | succ k ih =>
    intro i hk hi s h
    obtain ⟨us, vs, n, n2, hl1, hb1, hs1, hs2, turn⟩ := hl _ _ h
    have hlt : i < us.size := by omega
    have hlt2 : i < vs.size := by omega
    have ht := turn hlt hlt2
    obtain ⟨hp, g, d, tk, os⟩ := s
    wp_walk using wpAny_loadPart' hl1, wpAny_loadPart' hb1
    have z1 : us[((i : Nat) : Int).toNat]? = some us[i] := by simp [hlt]
    have z2 : vs[((i : Nat) : Int).toNat]? = some vs[i] := by simp [hlt2]
    have hc : ((i : Int) + 1) = ((i + 1 : Nat) : Int) := by omega
    rw [z1, z2]
    refine wpAny_bind (wpAny_mono ht (fun r s2 h2 => ?_) fun _ _ x => x)
    obtain ⟨hr, h2⟩ := h2
    subst hr
    have hrec := ih (i + 1) (by omega) (by omega) s2 h2
    obtain ⟨hp2, g2, d2, tk2, os2⟩ := s2
    wp_walk
    rw [hc]
    exact ⟨plainId_quiet plain_eq_loop _, codeAny_builtin entry_eq_loop (by rw [Around.under_plainId plain_eq_loop _]; exact hrec)⟩
theorem list_neH (l b : Addr) (N : Nat) (I : Nat → Shared → Prop) (hl : ListI prog w A (fun e s' => R (.error e) s') l b N I) (fin : ∀ s, I N s → R (.ok (.ret (.bool false))) s) {s : Shared} (h : I 0 s) :
    wpAny (model prog w) A.in1 (Builtin.«list.__ne__» ⟨[.ref l, .ref b], []⟩) (FinOf prog w A R) (fun e s' => R (.error e) s') s := by
  obtain ⟨us, vs, n, n2, hl1, hb1, hs1, hs2, _⟩ := hl _ _ h
  have hrec := ne_loopH (A := A) (R := R) l b N I hl fin _ 0 rfl (Nat.zero_le _) s h
  obtain ⟨hp, g, d, tk, os⟩ := s
  have f3 := AutoSeq1.sub_list_list
  have hne : ¬ (us.size != vs.size) = true := by simp [hs1, hs2]
  wp_walk using wpAny_loadPart' hl1, wpAny_loadPart' hb1
  exact ⟨plainId_quiet plain_eq_loop _, codeAny_builtin entry_eq_loop (by rw [Around.under_plainId plain_eq_loop _]; exact hrec)⟩
end
section
variable {prog : Program} {w : World} {A : Around} {E : Value → Shared → Prop} {s : Shared}
theorem rc_listH {l b : Addr} {N : Nat} {Q : Value → Shared → Prop} (hu : A.units < cLine) (I : Nat → Shared → Prop) (hl : ListI prog w A E l b N I) (fin : ∀ s, I N s → Q (.bool false) s) (h : I 0 s) : wpAny (model prog w) A (richCompare .NotEq (.ref l) (.ref b)) Q E s := by
  obtain ⟨us, vs, n, n2, hl1, hb1, _, _, _⟩ := hl _ _ h
  refine wpAny_richCompare_same_room (op := .NotEq) ⟨_, hl1, rfl⟩ ⟨_, hb1, rfl⟩ F.slot_list_ne (call_here F.slot_list_ne ⟨_, hl1, rfl⟩ F.entry_list_ne (F.args_list_ne_2 _ _) ?_) hu
  exact list_neH (R := wants (fun v s' => v ≠ .notImplemented ∧ Q v s') E) l b N I hl (fun s' q => ⟨(fun x => nomatch x), fin s' q⟩) h
end
end GQ
namespace Dt
open PySem PySem.Spec PyProof.Rows L2
open Evl (Ex)
/-- x != y: two lists, equal item by item -/
def rNeG (D : Eqv) : R2 := fun x y H Q => DList D x y H ∧ ∀ H', Ext H H' → Q (.bl false) H'
theorem op_neG {X : Cx} {n : Nat} {D : Eqv} (hD : Mon D) (h : EqG X n D) (hr : Room (n + 1) X.A) : OpR X (compareOp .NotEq) (rNeG D) := by
  intro pins s σ H x y v u Q I rx ry hq
  obtain ⟨d, q⟩ := hq
  show wpAny (model X.prog X.w) X.A (richCompare .NotEq v u) (EP X pins σ Q) X.xe s
  obtain ⟨a, b, xs, ys, rfl, rfl, ha, hb, p⟩ := d
  cases rx
  cases ry
  have sb : Sub X (n + 1) X.A := ⟨hr, rfl⟩
  refine GQ.rc_listH (N := xs.length) sb.room.units0 (fun _ s' => LoopI X pins σ H s') (fun i s' q => ?_) (fun s' z => ?_) ⟨H, I, Ext.rfl'⟩
  · obtain ⟨H1, I1, e1⟩ := id q
    obtain ⟨z, its, k, r, e⟩ := I1.hok a _ (e1 _ _ ha)
    obtain ⟨z2, its2, k2, r2, e2⟩ := I1.hok b _ (e1 _ _ hb)
    refine ⟨its.toArray, its2.toArray, k, k2, e, e2, by rw [List.size_toArray, ← r.length], by rw [List.size_toArray, ← r2.length, ← p.1], fun h1 h2 => ?_⟩
    exact turnG hD h sb p r r2 i h1 h2 s' q
  · obtain ⟨H', I', e⟩ := z
    exact ⟨.bl false, H', I', rfl, q H' e⟩
theorem k_neG {X : Cx} {K : Frag} {C D : Addr} {n : Nat} (h : X.K = K) (L : Loc X.K X.mg C D) (hr : Room n X.A) (hn : 4 ≤ n) : OpR X (compareOp .NotEq) (rNeG (DIt K C)) := by
  subst h
  exact op_neG mon_it (eqG_it L) (hr.mono hn)
/-- x != y of two years -/
theorem k_neY {X : Cx} {K : Frag} {C D : Addr} {n : Nat} (h : X.K = K) (L : Loc X.K X.mg C D) (hr : Room n X.A) (hn : 4 ≤ n) : OpR X (compareOp .NotEq) (SlX.rNeOwn C (spD K C F_Year_eq) E0) := by
  subst h
  obtain ⟨g, M, F⟩ := me_eq (P := X.prog) (w := X.w) (base := X.base) L
  exact SlX.op_neOwn L.yisi.cm M.at_ M.fn L.y_ne F (hr.mono hn) pass0
section
variable {K : Frag} {C : Addr} {δ : Den} {ds : List DV} {rs : List Int} {ta tb : TE}
def itOk : DV → Prop := fun d => (∃ rs, d = .yr rs) ∨ ∃ ns : List Int, d = .tup (dis ns)
theorem prs_it {H : Hp} : ∀ {ds : List DV} {xs ys : List V}, (∀ d ∈ ds, itOk d) → Reps K C H xs ds → Reps K C H ys ds → Prs (DIt K C) xs ys H
  | _, _, _, _, .nil, .nil => Prs.nil
  | _, _, _, h, .cons a r, .cons b r2 => Prs.cons (by
      rcases h _ List.mem_cons_self with ⟨rs, e⟩ | ⟨ns, e⟩
      · subst e; exact .inl ⟨rs, a, b⟩
      · subst e; exact .inr ⟨ns, a, b⟩) (prs_it (fun d m => h d (List.mem_cons_of_mem _ m)) r r2)
theorem ev_neL (ha : EvD K C ta δ (.lst ds)) (hb : EvD K C tb δ (.lst ds)) (hi : ∀ d ∈ ds, itOk d) : EvD K C (tOp (rNeG (DIt K C)) ta tb) δ (.bl false) := ev_op ha hb fun O H x y Q g r1 r2 q => by
  cases r1 with
  | lst hq hr =>
    cases r2 with
    | lst hq2 hr2 => exact ⟨⟨_, _, _, _, rfl, rfl, msk_sub _ _ hq, msk_sub _ _ hq2, prs_it hi hr.sub hr2.sub⟩, fun H' e => q _ H' e (.bl _)⟩
theorem r2_neY : R2D K C (SlX.rNeOwn C (spD K C F_Year_eq) E0) (.yr rs) (.yr rs) (.bl false) := fun O H x y Q g r1 r2 q => by
  have q1 := r1
  have q2 := r2
  cases r1 with
  | yr h1 hp1 hq1 ne1 =>
    cases r2 with
    | yr h2 hp2 hq2 ne2 => exact ⟨_, _, _, _, _, _, rfl, rfl, slt_mono msk_sub h1, slt_mono msk_sub h2, O, _, _, g, ⟨rs, ne1, rfl, rfl⟩, .cons q1 (.cons q2 .nil), fun v H' e r => ⟨true, r.bl_eq, q _ H' e (.bl _)⟩⟩
end
end Dt
set_option Elab.async false
set_option linter.all false
set_option maxRecDepth 100000
set_option maxHeartbeats 8000000
/-! A watch, a list of rows, a box: three owned at once. -/
namespace Dt
open PySem PySem.Spec PyProof.Rows L2
open Evl (Ex)
section
variable {K : Frag} {C D e r p b : Addr} {f d : DV} {rows ds es : List DV} {δ : Den} {i j : Nat} {te ta tb : TE} {P : Res} {R : DV → Res} {t ts : TA} {m : Str} {tt : TT}
theorem wat_W {W O W' : AS} {H : Hp} (h : wat K C D e r f rows W O H) (w : W' r = true) : wat K C D e r f rows W' O H := ⟨w, h.2⟩
theorem off_wat : Off b (fun W O H => b ≠ r ∧ wat K C D e r f rows W O H) := fun W O H H' ok c h => by
  obtain ⟨ne, w, oe, dx, fv, vs, h1, h2, h3, h4⟩ := h
  have nb : e ≠ b := fun z => by rw [z, ok.sub b (decide_eq_true rfl)] at oe; cases oe
  exact ⟨ne, w, oe, dx, fv, vs, c _ _ h1 (decide_eq_false nb), c _ _ h2 (decide_eq_false (Ne.symm ne)), h3.mono (c.msk ok), h4.mono (c.msk ok)⟩
theorem off_box {n : Nat} : Off r (fun W O H => r ≠ b ∧ boxR b n W O H) := fun W O H H' ok c h => by
  obtain ⟨ne, w, t, ht, hb⟩ := h
  exact ⟨ne, w, t, ht, c _ _ hb (decide_eq_false (Ne.symm ne))⟩
theorem off_and {F G : Res} (hF : Off b F) (hG : Off b G) : Off b (fun W O H => F W O H ∧ G W O H) := fun W O H H' ok c h => ⟨hF W O H H' ok c h.1, hG W O H H' ok c h.2⟩
theorem off_A {A : Prop} : Off b (fun _ _ _ => A) := fun _ _ _ _ _ _ h => h
theorem off_O {q : Addr} {F : AS → Prop} : Off b (fun _ O _ => F O) := fun _ _ _ _ _ _ h => h
/-- a turn of a watch that changes its rows alone -/
theorem em_meO {α : Type} {arg : α → List DV} {Pf : α → Res} {Rf : α → DV → Res} {F : Res} {S : List DV → Res} {Rr : DV → Res} (hi : δ[i]? = some (some (.adr e))) (hl : ("own_first" : Str) ≠ m) (hl2 : ("own_rows" : Str) ≠ m) (ho : ∀ W O H, P W O H → wat K C D e r f rows W O H) (h : EaM K C ts δ P (fun ds W O H => S ds W O H ∧ F W O H)) (hF : Off r F)
    (hs : ∀ ds W O H, S ds W O H → W r = true ∧ ∃ a, .adr e :: ds = arg a ∧ Pf a (only r) O H ∧ ∀ d H', Rf a d (only r) O H' → W r = true → Rr d W O H') : EvM K C (tMethR D m (spM K C arg Pf Rf) E0 (tVar i) ts) δ P (fun d W O H => Rr d W O H ∧ F W O H) := fun W O σ H Q ok e' p' q => by
  obtain ⟨v, hv, rv⟩ := e'.at_ i _ hi
  cases rv
  obtain ⟨w, oe, dx, fv, vs, h1, h2, h3, h4⟩ := ho W O H p'
  refine ⟨.ref e, hv, e, dx, _, rfl, h1, lk_none hl hl2, h W O σ H _ ok e' p' fun ds vs H1 ⟨s1, f1⟩ c1 ok1 w1 => ?_⟩
  obtain ⟨wb, a, ea, hp, hr⟩ := hs ds W O H1 s1
  have okb : OkA (only r) O H1 := ⟨fun x z => ok1.sub x (by rw [of_decide_eq_true z]; exact wb), ok1.good⟩
  refine ⟨a, only r, O, okb, hp, by rw [← ea]; exact .cons (.adr e) w1, fun d v H2 r2 c2 ok2 w2 => ?_⟩
  have c3 : Ch W H1 H2 := fun x o z k => c2 x o z (decide_eq_false fun y => by rw [y, wb] at k; cases k)
  exact q d v H2 ⟨hr d H2 r2 wb, hF W O H1 H2 okb c2 f1⟩ (c1.trans c3) ⟨ok1.sub, ok2.good⟩ w2
theorem eam_pre {P' : Res} {S : List DV → Res} (h : EaM K C t δ P S) (k : ∀ W O H, P' W O H → P W O H) : EaM K C t δ P' S := fun W O σ H Q ok e p q => h W O σ H Q ok e (k _ _ _ p) q
theorem etm_pre {P' : Res} {S : Bool → Res} (h : EtM K C tt δ P S) (k : ∀ W O H, P' W O H → P W O H) : EtM K C tt δ P' S := fun W O σ H Q ok e p q => h W O σ H Q ok e (k _ _ _ p) q
/-- items read of a watch -/
theorem eam_peekW (hi : δ[i]? = some (some (.adr e))) (h : EvA K C t (δ.set i (some (.wt D f rows))) ds) (n : noLs ds = true) (hP : Stab P) (ho : ∀ W O H, P W O H → wat K C D e r f rows W O H) : EaM K C t δ P (fun x W O H => x = ds ∧ P W O H) := fun W O σ H Q ok e' p' q =>
  h _ σ H _ (peek_good ok) (wat_env e' hi (ho _ _ _ p')) fun v H1 e1 r1 => by
    obtain ⟨w, oe, dx, fv, vs, h1, h2, h3, h4⟩ := ho _ _ _ (hP W O H H1 ok e1 p')
    refine q ds v H1 ⟨rfl, hP W O H H1 ok e1 p'⟩ (.of e1) (ok.ex e1) (r1.back (fun a o g k => ?_) n)
    unfold msk at g ⊢
    by_cases z : a = r
    · subst z
      rw [if_neg (by simp)] at g
      rw [h2] at g
      cases g
      exact absurd rfl (k vs)
    · simpa [z] using g
/-- what is read of an own list, no list itself -/
theorem em_peekN (hi : δ[i]? = some (some (.adr p))) (h : EvD K C te (δ.set i (some (.lst ds))) d) (n : noL d = true) (hP : Stab P) (ho : ∀ W O H, P W O H → own K C p ds W O H) : EvM K C te δ P (fun x W O H => x = d ∧ P W O H) := fun W O σ H Q ok e p' q =>
  h _ σ H _ (peek_good ok) (peek_env e hi (ho _ _ _ p')) fun v H1 e1 r1 => by
    obtain ⟨_, vs, hp, _⟩ := ho _ _ _ (hP W O H H1 ok e1 p')
    exact q d v H1 ⟨rfl, hP W O H H1 ok e1 p'⟩ (.of e1) (ok.ex e1) (peek_back hp r1 n)
theorem em_lst {tr : TA} {S : List DV → Res} (h : EaM K C tr δ P S) (hl : ∀ ds W O H, S ds W O H → ds.length ≤ 1000) (hS : ∀ ds, Stab (S ds)) : EvM K C (tLst tr) δ P (fun d W O H => ∃ ds, d = .lst ds ∧ S ds W O H) := fun W O σ H Q ok e p q =>
  h W O σ H _ ok e p fun ds vs H1 r1 c1 ok1 w1 => ⟨sz_ok (by rw [w1.len]; exact hl _ _ _ _ r1), fun a ha => q (.lst ds) _ _ ⟨ds, rfl, hS ds W O _ _ ok1 (Evl.Ex.new ha) r1⟩ (c1.trans (.of (Evl.Ex.new ha))) (ok1.ex (Evl.Ex.new ha)) (rep_newL ok1.good ha w1)⟩
theorem r2_neO {n k : Nat} {d1 d2 : DV} (h1 : okD n d1 = true) (h2 : okD k d2 = true) (hn : n ≤ 64) (hk : k ≤ 64) : R2D K C (rNeD K) d1 d2 (.bl (!PyData.eqv (pd d1) (pd d2))) := fun O H x y Q g r1 r2 q =>
  ⟨_, _, dp_of r1.sub (ok_data n d1 h1).2.2, dp_of r2.sub (ok_data k d2 h2).2.2, ok_shape h1 hn, ok_shape h2 hk, q _ H (Evl.Ex.refl H) (.bl _)⟩
/-! the three -/
/-- a watch at e with its rows at r, the list of rows at p, the box at b -/
def eyeR (K : Frag) (C D : Addr) (e r p b : Addr) (x : Row) (xs : List Row) (rows : List DV) (n : Nat) : Res := fun W O H => (O p = true ∧ p ≠ r ∧ p ≠ b ∧ r ≠ b) ∧ own K C p rows W O H ∧ wat K C D e r (rowW x) (xs.map rowW) W O H ∧ boxR b n W O H
variable {x : Row} {xs : List Row} {n : Nat}
theorem eye_stab : Stab (eyeR K C D e r p b x xs rows n) := fun W O H H' ok z h => ⟨h.1, own_stab W O H H' ok z h.2.1, wat_stab W O H H' ok z h.2.2.1, box_stab W O H H' ok z h.2.2.2⟩
/-- what stays when the box changes -/
abbrev eyeB (K : Frag) (C D : Addr) (e r p b : Addr) (x : Row) (xs : List Row) (rows : List DV) : Res := fun W O H => (O p = true ∧ p ≠ r) ∧ (b ≠ p ∧ own K C p rows W O H) ∧ (b ≠ r ∧ wat K C D e r (rowW x) (xs.map rowW) W O H)
theorem eyeB_off : Off b (eyeB K C D e r p b x xs rows) := fun W O H H' ok c h => ⟨h.1, off_own W O H H' ok c h.2.1, off_wat W O H H' ok c h.2.2⟩
theorem eye_B {W O : AS} {H : Hp} (h : eyeR K C D e r p b x xs rows n W O H) : eyeB K C D e r p b x xs rows W O H := ⟨⟨h.1.1, h.1.2.1⟩, ⟨Ne.symm h.1.2.2.1, h.2.1⟩, Ne.symm h.1.2.2.2, h.2.2.1⟩
theorem eye_of {W O : AS} {H : Hp} (h : eyeB K C D e r p b x xs rows W O H) (hb : boxR b n W O H) : eyeR K C D e r p b x xs rows n W O H := ⟨⟨h.1.1, h.1.2, Ne.symm h.2.1.1, Ne.symm h.2.2.1⟩, h.2.1.2, h.2.2.2, hb⟩
/-- what stays when the watch's rows change -/
abbrev eyeW (K : Frag) (C : Addr) (r p b : Addr) (rows : List DV) (n : Nat) : Res := fun W O H => (O p = true ∧ p ≠ b) ∧ (r ≠ p ∧ own K C p rows W O H) ∧ (r ≠ b ∧ boxR b n W O H)
theorem eyeW_off : Off r (eyeW K C r p b rows n) := fun W O H H' ok c h => ⟨h.1, off_own W O H H' ok c h.2.1, off_box W O H H' ok c h.2.2⟩
theorem eye_W {W O : AS} {H : Hp} (h : eyeR K C D e r p b x xs rows n W O H) : eyeW K C r p b rows n W O H := ⟨⟨h.1.1, h.1.2.2.1⟩, ⟨Ne.symm h.1.2.1, h.2.1⟩, h.1.2.2.2, h.2.2.2⟩
theorem eye_ofW {W O : AS} {H : Hp} (h : eyeW K C r p b rows n W O H) (hw : wat K C D e r (rowW x) (xs.map rowW) W O H) : eyeR K C D e r p b x xs rows n W O H := ⟨⟨h.1.1, Ne.symm h.2.1.1, h.1.2, h.2.2.1⟩, h.2.1.2, hw, h.2.2.2⟩
/-- what stays when the list of rows is lengthened -/
theorem eye_updP {W O : AS} {H : Hp} {o : HO} (hO : O p = true) (hr : p ≠ r) (hb : p ≠ b) (hw : wat K C D e r f rows W O H) (hx : boxR b n W O H) : wat K C D e r f rows W O (upd H p o) ∧ boxR b n W O (upd H p o) := by
  obtain ⟨w, oe, dx, fv, vs, h1, h2, h3, h4⟩ := hw
  obtain ⟨wb, t, ht, hb2⟩ := hx
  have ne : e ≠ p := fun z => by rw [z, hO] at oe; cases oe
  have mm : Ex (msk O H) (msk O (upd H p o)) := fun a u h => by
    unfold msk at h ⊢
    by_cases k : O a = true
    · rw [if_pos k] at h; cases h
    · rw [if_neg k] at h ⊢
      rw [upd_ne (fun z => k (by rw [z]; exact hO))]
      exact h
  exact ⟨⟨w, oe, dx, fv, vs, by rw [upd_ne ne]; exact h1, by rw [upd_ne (Ne.symm hr)]; exact h2, h3.mono mm, h4.mono mm⟩, wb, t, ht, by rw [upd_ne (Ne.symm hb)]; exact hb2⟩
/-- a draw beside the watch -/
theorem em_drawE {F : Res} {q : Nat} (h : EaM K C ts δ P (fun ds W O H => ds = [.adr b, .int (q : Int)] ∧ eyeR K C D e r p b x xs rows n W O H ∧ F W O H)) (hF : Off b F) (hm : 0 < q ∧ q ≤ 100000) (hn : n ≤ 100000) :
    EvM K C (tFn (sp_take K C) ts) δ P (fun d W O H => (∃ k : Nat, d = .int (k : Int) ∧ k < q) ∧ eyeR K C D e r p b x xs rows (n + 1) W O H ∧ F W O H) :=
  em_post (em_take (b := b) (m := q) (n := n) (F := fun W O H => eyeB K C D e r p b x xs rows W O H ∧ F W O H) (eam_post h fun ds W O H s => ⟨⟨s.1, s.2.1.2.2.2⟩, eye_B s.2.1, s.2.2⟩) hm hn (off_and eyeB_off hF)) fun d W O H s => by
    obtain ⟨⟨k, hk, hb⟩, h1, h2⟩ := s
    exact ⟨⟨k, hk⟩, eye_of h1 hb, h2⟩
theorem em_ofE {F : Res} (h : EaM K C ts δ P (fun zs W O H => zs = [.adr b, .lst ds] ∧ eyeR K C D e r p b x xs rows n W O H ∧ F W O H)) (hF : Off b F) (hd : ds ≠ [] ∧ ds.length ≤ 1000) (hn : n ≤ 100000) :
    EvM K C (tFn (sp_of K C) ts) δ P (fun d W O H => d ∈ ds ∧ eyeR K C D e r p b x xs rows (n + 1) W O H ∧ F W O H) :=
  em_post (em_box (b := b) (F := fun W O H => eyeB K C D e r p b x xs rows W O H ∧ F W O H) (S := fun zs W O H => zs = [.adr b, .lst ds] ∧ boxR b n W O H) (Rr := fun d W O H => d ∈ ds ∧ boxR b (n + 1) W O H) (eam_post h fun zs W O H s => ⟨⟨s.1, s.2.1.2.2.2⟩, eye_B s.2.1, s.2.2⟩) (off_and eyeB_off hF) fun zs W O H s => ⟨s.2.1, (b, ds, n), s.1, ⟨⟨hd.1, hd.2, hn⟩, box_W s.2 (decide_eq_true rfl)⟩, fun d H' q w => ⟨q.1, box_W q.2 w⟩⟩) fun d W O H s => ⟨s.1.1, eye_of s.2.1 s.1.2, s.2.2⟩
/-- a new watch and a new list: t changes them, then the list is data -/
theorem sm_eyes {u : TS} {tu : TS} {M : Den → List Row → List DV → Nat → Prop} {R : DV → Prop} {k : Nat} (hij : i ≠ j) (h : EvW K C D ta δ (rowW x))
    (ht : ∀ e r p, StM K C tu ((δ.set i (some (.adr e))).set j (some (.adr p))) (eyeR K C D e r p b x [] [] n) (fun δ' W O H => ∃ xs rows k, (M δ' xs rows k ∧ δ'[i]? = some (some (.adr e)) ∧ δ'[j]? = some (some (.adr p))) ∧ eyeR K C D e r p b x xs rows k W O H) (fun _ _ _ _ => False))
    (hu : ∀ e r δ' xs rows k', M δ' xs rows k' → δ'[i]? = some (some (.adr e)) → StM K C u (δ'.set j (some (.lst rows))) (fun W O H => r ≠ b ∧ wat K C D e r (rowW x) (xs.map rowW) W O H ∧ boxR b k' W O H) (fun _ _ _ _ => False) (fun d W O H => (R d ∧ scD d = true) ∧ boxR b k W O H)) :
    StM K C (tSeq (tPar i j (tCons ta (tCons (tLst tNil) tNil))) (tSeq tu u)) δ (boxR b n) (fun _ _ _ _ => False) (fun d W O H => R d ∧ boxR b k W O H) := fun W O σ H D' ok e0 p0 q1 q2 => by
  have wb := p0.1
  refine h W O σ H (fun v H1 => (tCons (tLst tNil) tNil) σ H1 fun ws H2 => ∃ a c, v :: ws = [a, c] ∧ tSeq tu u D' ((σ.set i (some a)).set j (some c)) H2) ok e0 fun e r H1 x1 he hr ner ok1 m1 w1 => ?_
  refine ⟨sz_ok (by decide), fun p hp => ⟨.ref e, .ref p, rfl, ?_⟩⟩
  have nb : r ≠ b := fun z => by
    obtain ⟨_, t, _, hb⟩ := p0
    rw [z, hb] at hr; cases hr
  have nr : p ≠ r := fun z => by
    obtain ⟨_, _, _, _, vs, _, h2, _⟩ := w1
    rw [z, h2] at hp; cases hp
  have npb : p ≠ b := fun z => by
    obtain ⟨_, t, _, hb⟩ := p0
    rw [z, x1 _ _ hb] at hp; cases hp
  have npe : e ≠ p := fun z => by
    obtain ⟨_, _, _, _, vs, h1, _, _⟩ := w1
    rw [← z, h1] at hp; cases hp
  obtain ⟨ok2, m2, o2⟩ := own_in (K := K) (C := C) (ds := []) (vs := []) ok1 (Evl.Ex.new (o := .lst []) hp) hp upd_same .nil
  have w2 : wat K C D e r (rowW x) [] (plus (plus W r) p) (plus (plus O r) p) (upd H1 p (.lst [])) := by
    obtain ⟨w, oe, dx, fv, vs, h1, h2, h3, h4⟩ := w1
    exact ⟨Bool.or_eq_true_iff.mpr (.inl w), by show (plus O r e || decide (e = p)) = false; rw [oe, decide_eq_false npe]; rfl, dx, fv, vs, by rw [upd_ne npe]; exact h1, by rw [upd_ne (Ne.symm nr)]; exact h2, h3.mono m2, h4.mono m2⟩
  have b2 : boxR b n (plus (plus W r) p) (plus (plus O r) p) (upd H1 p (.lst [])) := by
    obtain ⟨w, t, h1, h2⟩ := p0
    exact ⟨Bool.or_eq_true_iff.mpr (.inl (Bool.or_eq_true_iff.mpr (.inl w))), t, h1, by rw [upd_ne (Ne.symm npb)]; exact x1 _ _ h2⟩
  have e2 := ((e0.to (m1.trans m2)).set (i := i) (v := .ref e) (d := .adr e) (.adr e)).set (i := j) (v := .ref p) (d := .adr p) (.adr p)
  refine ht e r p _ _ _ _ { D' with nx := u D' } ok2 e2 ⟨⟨by simp, nr, npb, nb⟩, o2, w2, b2⟩ ?_ fun _ _ _ z => z.elim
  rintro δ' σ' H3 ⟨xs, rows, k', ⟨hM, hi, hj⟩, _, o3, w3, b3⟩ c3 ok3 e3
  obtain ⟨c4, ok4⟩ := own_out ok1 (Evl.Ex.new (o := .lst []) hp) hp c3 ok3
  have e4 := own_env (ds' := rows) ok1 hp e3 hj o3
  have w4 : wat K C D e r (rowW x) (xs.map rowW) (plus W r) (plus O r) H3 := by
    obtain ⟨w, oe, dx, fv, vs, h1, h2, h3, h4⟩ := w3
    refine ⟨by simp, ?_, dx, fv, vs, h1, h2, h3.mono msk_less, h4.mono msk_less⟩
    have z : (plus O r e || decide (e = p)) = false := oe
    exact (Bool.or_eq_false_iff.mp z).1
  have b4 : boxR b k' (plus W r) (plus O r) H3 := by
    obtain ⟨w, t, h1, h2⟩ := b3
    exact ⟨Bool.or_eq_true_iff.mpr (.inl wb), t, h1, h2⟩
  refine hu e r δ' xs rows k' hM hi _ _ σ' H3 D' ok4 e4 ⟨nb, w4, b4⟩ (fun _ _ _ z => z.elim) fun d v H4 ⟨⟨rd, sc⟩, bx⟩ c5 ok5 w5 => ?_
  obtain ⟨c6, ok6⟩ := own_out ok x1 hr (c4.trans c5) ok5
  exact q2 d v H4 ⟨rd, by
    obtain ⟨_, t, h1, h2⟩ := bx
    exact ⟨wb, t, h1, h2⟩⟩ c6 ok6 (rep_sc w5 sc)
end
end Dt
set_option Elab.async false
set_option linter.all false
set_option maxRecDepth 100000
set_option maxHeartbeats 8000000
/-! What the law asks of a Watch. -/
namespace Dt
open PySem PySem.Spec PyProof.Rows L2
open Evl (Ex)
abbrev leadL (x : Row) (xs : List Row) : List Int := (x :: xs).map (·.2.2)
abbrev lastR (x : Row) (xs : List Row) : Row := xs.getLastD x
/-- what is kept of a watch ahead of a turn -/
def nowD (x : Row) (xs : List Row) : List DV := [.yr (lastR x xs).1, .yr (lastR x xs).2.1, .tup (dis (leadL x xs))]
def rowsTo (x : Row) (xs : List Row) : List DV := (List.range xs.length).map fun j => DV.lst (nowD x (xs.take j))
theorem rowsTo_add (x : Row) (xs : List Row) (z : Row) : rowsTo x (xs ++ [z]) = rowsTo x xs ++ [.lst (nowD x xs)] := by
  unfold rowsTo
  rw [List.length_append, List.length_singleton, List.range_succ, List.map_append]
  congr 1
  · refine List.map_congr_left fun j hj => ?_
    have := List.mem_range.mp hj
    rw [List.take_append_of_le_length (by omega)]
  · rw [List.map_singleton, List.take_append_of_le_length (Nat.le_refl _), List.take_length]
theorem rowsTo_len (x : Row) (xs : List Row) : (rowsTo x xs).length = xs.length := by unfold rowsTo; rw [List.length_map, List.length_range]
theorem noLs_dis : ∀ l : List Int, noLs (dis l) = true
  | [] => by unfold dis noLs; rfl
  | n :: l => by
    have ih := noLs_dis l
    show noLs (.int n :: dis l) = true
    unfold noLs noL
    exact ih
theorem noL_ints (l : List Int) : noL (.tup (dis l)) = true := by
  unfold noL
  exact noLs_dis l
theorem noL_now (x : Row) (xs : List Row) : noLs (nowD x xs) = true := by
  have z := noL_ints (leadL x xs)
  unfold nowD noLs noLs noLs noLs
  rw [z]
  rfl
theorem last_add (x : Row) (xs : List Row) (z : Row) : lastR x (xs ++ [z]) = z := by simp [lastR]
theorem lead_add (x : Row) (xs : List Row) (z : Row) : dis (leadL x (xs ++ [z])) = dis (leadL x xs) ++ [.int z.2.2] := by
  unfold dis leadL
  rw [← List.cons_append, List.map_append, List.map_append]
  rfl
def okRow (n : Nat) (l : Row) : Prop := (YrOk l.1 ∧ l.1.length ≤ n) ∧ YrOk l.2.1 ∧ l.2.1.length ≤ n
theorem own_ok {n : Nat} {l : Row} (h : okRow n l) (s : Str) : YrOk (ownW l s) ∧ (ownW l s).length ≤ n := by
  unfold ownW
  split
  · exact h.1
  · exact h.2
theorem turn_ok {n : Nat} {l : Row} {y : List Int} (h : okRow n l) (hy : YrOk y) (hl : y.length ≤ n + 1) (s : Str) : okRow (n + 1) (turnW l s y) := by
  unfold turnW
  split
  · exact ⟨⟨hy, hl⟩, h.2.1, by have := h.2.2; show l.2.1.length ≤ n + 1; omega⟩
  · exact ⟨⟨h.1.1, by have := h.1.2; show l.1.length ≤ n + 1; omega⟩, hy, hl⟩
theorem row_yy {n : Nat} {l : Row} (h : okRow n l) (hn : n ≤ 30) : YY (l.1, l.2.1) := ⟨h.1.1, h.2.1, by have := h.1.2; have := h.2.2; show l.1.length + l.2.1.length ≤ 60; omega⟩
theorem own_turn (l : Row) (s : Str) (y : List Int) : ownW (turnW l s y) s = y := by
  unfold ownW turnW
  by_cases h : s = "one"
  · rw [if_pos h, if_pos h]
  · rw [if_neg h, if_neg h]
theorem turn_lead (l : Row) (s : Str) (y : List Int) : (turnW l s y).2.2 = moD (turnW l s y).1 (turnW l s y).2.1 := by
  unfold turnW
  split <;> rfl
/-- the year of a turn -/
def turnY (i : Nat) (own : List Int) (k : Nat) (z : Int) : List Int := if i < 2 then putR own k z else passR own k
theorem turnY_ok {n i k : Nat} {own : List Int} {z : Int} (h : YrOk own) (hl : own.length ≤ n) (hn : n ≤ 50) (hk : k < own.length) (hz : z ≠ 0) : YrOk (turnY i own k z) ∧ (turnY i own k z).length ≤ n + 1 := by
  unfold turnY
  split
  · exact ⟨put_ok h.2.1 hz (by omega), by rw [put_len]; omega⟩
  · exact ⟨pass_ok h hk, by rw [pass_len]; omega⟩
section
variable {K : Frag} {C D : Addr} {δ : Den} {te : TE} {P : Res} {R : DV → Res} {A : Prop}
theorem em_told (h : ∀ W O H, P W O H → A) (k : A → EvM K C te δ P R) : EvM K C te δ P R := fun W O σ H Q ok e p => k (h W O H p) W O σ H Q ok e p
variable {x : Row} {xs : List Row} {s : Str}
theorem ev_one {ta : TE} (h : EvD K C ta δ (.wt D (rowW x) (xs.map rowW))) (hl : xs.length ≤ 50) : EvD K C (tPropR D (spD K C (W_at D 0)) E0 ta) δ (.yr (lastR x xs).1) := ev_prW h ⟨_, _, _, rfl, by rw [List.length_map]; exact hl, lastW _ _, rfl⟩
theorem ev_other {ta : TE} (h : EvD K C ta δ (.wt D (rowW x) (xs.map rowW))) (hl : xs.length ≤ 50) : EvD K C (tPropR D (spD K C (W_at D 1)) E0 ta) δ (.yr (lastR x xs).2.1) := ev_prW h ⟨_, _, _, rfl, by rw [List.length_map]; exact hl, lastW _ _, rfl⟩
theorem ev_leads {ta : TE} (h : EvD K C ta δ (.wt D (rowW x) (xs.map rowW))) (hl : xs.length ≤ 50) : EvD K C (tPropR D (spD K C (W_leads D)) E0 ta) δ (.tup (dis (leadL x xs))) := ev_prW h ⟨x, xs, rfl, hl, rfl⟩
theorem ev_side (h : δ[3]? = some (some (.wt D (rowW x) (xs.map rowW)))) (h6 : δ[6]? = some (some (.str s))) (hl : xs.length ≤ 50) : EvD K C (tIf (tTest (tOp rEq (tVar 6) (tC (.str "one")))) (tPropR D (spD K C (W_at D 0)) E0 (tVar 3)) (tPropR D (spD K C (W_at D 1)) E0 (tVar 3))) δ (.yr (ownW (lastR x xs) s)) :=
  ev_if (b := decide (s = "one")) (EvT.is (et_test (ev_eqS (ev_var h6) ev_str)) (by rw [Bool.beq_eq_decide_eq])) (fun hb => by
    unfold ownW
    rw [if_pos (of_decide_eq_true hb)]
    exact ev_one (ev_var h) hl) fun hb => by
    unfold ownW
    rw [if_neg (of_decide_eq_false hb)]
    exact ev_other (ev_var h) hl
end
section
variable {P : Program} {w : World} {K : Frag} {mg : Str → Option Value} {base : Heap} {C D : Addr}
abbrev EyeA := Addr × List Int × List Int × Nat
def sp_eye (K : Frag) (C : Addr) : Sp := spM K C (fun a : EyeA => [.adr a.1, .yr a.2.1, .yr a.2.2.1]) (fun a W O H => (okRow 8 (mkRow a.2.1 a.2.2.1) ∧ a.2.2.2 ≤ 50000) ∧ boxR a.1 a.2.2.2 W O H) (fun a d W O H => d = .bl true ∧ boxR a.1 (a.2.2.2 + 12) W O H)
theorem fn__law_watch_right (L : Loc K mg C D) : FnAt P w K mg base "_law_watch_right" 12 (sp_eye K C) := by
  obtain ⟨f, fd, F, hm⟩ := L.l__law_watch_right
  refine fnat_of hm F (fnr_mut F sc__law_watch_right (fun _ _ _ _ _ _ us h => ?_) (fun _ => rfl) ?_)
  · obtain ⟨a, b, c, rfl⟩ := three_of h
    rfl
  intro cdv A outer s H E hr
  refine ⟨_, (pss_cons (ps_par (i := 3) (j := 4) rfl sc__law_watch_right.nd rfl rfl (by decide) rfl rfl (pa_cons (k_watch (K := K) rfl L hr (by decide) (by rfl) (pa_cons (pv 1) (pa_cons (pv 2) pa_nil))) (pa_cons (pe_lst pa_nil) pa_nil)) (by rfl))
    (pss_cons (ps_for PassesOwn.never rfl (pi_range1 (by rfl) L.b_range (pa_cons pe_int pa_nil)) (pg_name (i := 5) sc__law_watch_right.nd rfl (Or.inl rfl)) (pss_cons (ps_expr (pe_bm PySem.F.plainAttrs_list PySem.F.slot_list_append PySem.F.type_list_append mt_append (pv 4) (pa_cons (pe_lst (pa_cons (pe_prW (pw_one L) L.wcls hr (by decide) (pv 3)) (pa_cons (pe_prW (pw_other L) L.wcls hr (by decide) (pv 3)) (pa_cons (pe_prW (pw_leads L) L.wcls hr (by decide) (pv 3)) pa_nil)))) pa_nil)))
    (pss_cons (ps_par (i := 6) (j := 7) rfl sc__law_watch_right.nd rfl rfl (by decide) rfl rfl (pa_cons (pe_fn (fn__law_of L) hr (by decide) (by rfl) (pa_cons (pv 0) (pa_cons (pe_lst (pa_cons pe_str (pa_cons pe_str pa_nil))) pa_nil))) (pa_cons (pe_fn (fn__law_of L) hr (by decide) (by rfl) (pa_cons (pv 0) (pa_cons (pe_lst (pa_cons pe_int (pa_cons (pe_un un_neg pe_int) (pa_cons pe_int (pa_cons (pe_un un_neg pe_int) pa_nil))))) pa_nil))) pa_nil)) (by rfl))
    (pss_cons (ps_set (i := 8) sc__law_watch_right.nd rfl (Or.inl rfl) (pe_ifExp (pt_cmpR op_eq (pv 6) pe_str (nomark _)) (pe_prW (pw_one L) L.wcls hr (by decide) (pv 3)) (pe_prW (pw_other L) L.wcls hr (by decide) (pv 3))))
    (pss_cons (ps_set (i := 9) sc__law_watch_right.nd rfl (Or.inl rfl) (pe_fn (fn__law_take L) hr (by decide) (by rfl) (pa_cons (pv 0) (pa_cons (pe_callB (k_len (K := K) rfl L hr (by decide)) (by rfl) L.b_len bb_len (pa_cons (pv 8) pa_nil)) pa_nil))))
    (pss_cons (ps_set (i := 10) sc__law_watch_right.nd rfl (Or.inl rfl) (pe_ifExp (pt_cmpR op_lt (pv 5) pe_int (nomark _)) (pe_meW (mw_put L) L.wcls hr (by decide) (pv 3) (pa_cons (pv 6) (pa_cons (pv 9) (pa_cons (pv 7) pa_nil)))) (pe_meW (mw_exchange L) L.wcls hr (by decide) (pv 3) (pa_cons (pv 6) (pa_cons (pv 9) pa_nil)))))
    (pss_cons (ps_set (i := 11) sc__law_watch_right.nd rfl (Or.inl rfl) (pe_ifExp (pt_cmpR op_lt (pv 5) pe_int (nomark _)) (pe_fn (fn_put_in L) hr (by decide) (by rfl) (pa_cons (pv 8) (pa_cons (pv 9) (pa_cons (pv 7) pa_nil)))) (pe_fn (fn_passed L) hr (by decide) (by rfl) (pa_cons (pv 8) (pa_cons (pv 9) pa_nil)))))
    (pss_cons (ps_if (PW.pt (pw_or (pt_cmpR (k_neY (K := K) rfl L hr (by decide)) (pe_ifExp (pt_cmpR op_eq (pv 6) pe_str (nomark _)) (pe_prW (pw_one L) L.wcls hr (by decide) (pv 3)) (pe_prW (pw_other L) L.wcls hr (by decide) (pv 3))) (pv 11) (nomark _)) (pw_or1 (pt_cmpR op_ne (pv 10) (pe_fn (fn_most_more L) hr (by decide) (by rfl) (pa_cons (pe_prW (pw_one L) L.wcls hr (by decide) (pv 3)) (pa_cons (pe_prW (pw_other L) L.wcls hr (by decide) (pv 3)) pa_nil))) (nomark _))))) (pss_one (ps_ret pe_bl)) pss_nil)
    (pss_one (ps_if (pt_cmpR (k_neD (K := K) rfl (units_of hr)) (pe_prW (pw_leads L) L.wcls hr (by decide) (pv 3)) (pe_op (k_add (K := K) rfl) (pe_ix (k_ix (K := K) rfl) (pe_ix (k_ix (K := K) rfl) (pv 4) (pe_un un_neg pe_int) (fun _ _ => rfl)) pe_int (fun _ _ => rfl)) (pe_tup (pa_cons (pv 10) pa_nil))) (nomark _)) (pss_one (ps_ret pe_bl)) pss_nil))))))))))
    (pss_cons (ps_for PassesOwn.never rfl (k_ilist (K := K) rfl (k_rev (K := K) rfl (pv 4))) (pg_name (i := 12) sc__law_watch_right.nd rfl (Or.inl rfl)) (pss_cons (ps_expr (pe_meW0 (mw_back L) L.wcls hr (by decide) (pv 3)))
    (pss_one (ps_if (pt_cmpR (k_neG (K := K) rfl L hr (by decide)) (pe_lst (pa_cons (pe_prW (pw_one L) L.wcls hr (by decide) (pv 3)) (pa_cons (pe_prW (pw_other L) L.wcls hr (by decide) (pv 3)) (pa_cons (pe_prW (pw_leads L) L.wcls hr (by decide) (pv 3)) pa_nil)))) (pv 12) (nomark _)) (pss_one (ps_ret pe_bl)) pss_nil))))
    (pss_one (ps_ret pe_bl))))), ?_⟩
  rintro ⟨b, h, m, n⟩
  refine sm_told (A := okRow 8 (mkRow h m) ∧ n ≤ 50000) (fun W O H h => h.1) fun ⟨okx, hn⟩ => sm_pre (P := boxR b n) ?_ fun W O H h => h.2
  generalize hx : mkRow h m = x at okx
  refine sm_post (sm_eyes (i := 3) (j := 4) (D := D) (x := x) (R := fun d => d = .bl true) (k := n + 12) (M := fun δ' xs rows k => (∃ e p o5 o6 o7 o8 o9 o10 o11 o12, δ' = [some (.adr b), some (.yr h), some (.yr m), some (.adr e), some (.adr p), o5, o6, o7, o8, o9, o10, o11, o12]) ∧ rows = rowsTo x xs ∧ xs.length = 4 ∧ k = n + 12) (by decide) (by rw [← hx]; exact ev_watch (ea_cons (ev_var rfl) (ea_cons (ev_var rfl) ea_nil)) (by rw [← hx] at okx; exact row_yy okx (by decide))) (fun e r p => ?_) fun e r δ' xs rows k hM hi => ?_) (fun _ _ _ _ z => z.elim) fun d W O H h => ⟨h.1, h.2⟩
  · refine sm_for (fun i δ W O H => (∃ o5 o6 o7 o8 o9 o10 o11 o12, δ = [some (.adr b), some (.yr h), some (.yr m), some (.adr e), some (.adr p), o5, o6, o7, o8, o9, o10, o11, o12]) ∧ ∃ xs : List Row, (xs.length = i ∧ okRow (8 + i) (lastR x xs)) ∧ eyeR K C D e r p b x xs (rowsTo x xs) (n + 3 * i) W O H) (xs := rangeD 4) (itm_range (n := 4) (EvD.is ev_int rfl) (by decide)) ?_ (fun W O H h => ⟨⟨_, _, _, _, _, _, _, _, rfl⟩, [], ⟨rfl, okx⟩, h⟩) eye_stab ?_ ?_
    · rintro i δ1 W O H H' ok z ⟨h1, xs, h2, h3⟩
      exact ⟨h1, xs, h2, eye_stab W O H H' ok z h3⟩
    · rintro i d δ1 hd ⟨_, _, _, ⟨o5, o6, o7, o8, o9, o10, o11, o12, rfl⟩, _⟩
      rw [List.getElem?_map] at hd
      obtain ⟨i', hi', rfl⟩ := Option.map_eq_some_iff.mp hd
      have hi4 : i < 4 ∧ i' = i := by
        obtain ⟨hl, e⟩ := List.getElem?_eq_some_iff.mp hi'
        rw [List.length_range] at hl
        rw [List.getElem_range] at e
        exact ⟨hl, e.symm⟩
      obtain ⟨hi4, rfl⟩ := hi4
      refine ⟨_, _, tg_name, ?_⟩
      refine sm_pre (P := fun W O H => ∃ xs : List Row, (xs.length = i' ∧ okRow (8 + i') (lastR x xs)) ∧ eyeR K C D e r p b x xs (rowsTo x xs) (n + 3 * i') W O H) ?_ fun W O H h => h.2
      refine sm_ex fun xs => sm_told (A := xs.length = i' ∧ okRow (8 + i') (lastR x xs)) (fun W O H h => h.1) fun ⟨hlen, okl⟩ => sm_pre (P := eyeR K C D e r p b x xs (rowsTo x xs) (n + 3 * i')) ?_ fun W O H h => h.2
      have h50 : xs.length ≤ 50 := by omega
      have ho : ∀ rows k W O H, eyeR K C D e r p b x xs rows k W O H → wat K C D e r (rowW x) (xs.map rowW) W O H := fun _ _ _ _ _ h => h.2.2.1
      -- a row more
      refine sm_seq (M := fun δ' W O H => δ' = [some (.adr b), some (.yr h), some (.yr m), some (.adr e), some (.adr p), some (.int (i' : Int)), o6, o7, o8, o9, o10, o11, o12] ∧ eyeR K C D e r p b x xs (rowsTo x xs ++ [.lst (nowD x xs)]) (n + 3 * i') W O H) (sm_post (sm_append (i := 4) (p := p) (ds := rowsTo x xs) (F := fun v W O H => v = .lst (nowD x xs) ∧ (O p = true ∧ p ≠ r ∧ p ≠ b ∧ r ≠ b) ∧ wat K C D e r (rowW x) (xs.map rowW) W O H ∧ boxR b (n + 3 * i') W O H) rfl (fun W O H h => h.2.1) (em_post (em_lst (S := fun ds W O H => ds = nowD x xs ∧ eyeR K C D e r p b x xs (rowsTo x xs) (n + 3 * i') W O H) (eam_peekW (i := 3) rfl (ea_cons (ev_one (ev_var rfl) h50) (ea_cons (ev_other (ev_var rfl) h50) (ea_cons (ev_leads (ev_var rfl) h50) ea_nil))) ?_ eye_stab (ho _ _)) (fun ds W O H h => by rw [h.1]; exact (by decide : 3 ≤ 1000)) (fun ds W O H H' ok z h => ⟨h.1, eye_stab W O H H' ok z h.2⟩)) fun d W O H h => ?_) (by rw [rowsTo_len]; omega) ?_) (fun δ' W O H h => ?_) fun _ _ _ _ z => z) fun δ' => sm_told (A := δ' = [some (.adr b), some (.yr h), some (.yr m), some (.adr e), some (.adr p), some (.int (i' : Int)), o6, o7, o8, o9, o10, o11, o12]) (fun W O H h => h.1) fun ez => ?_
      · exact noL_now x xs
      · obtain ⟨ds, rfl, rfl, hh⟩ := h
        exact ⟨hh.2.1, rfl, hh.1, hh.2.2⟩
      · rintro v W O H o ⟨h1, ⟨h2, h3, h4, h5⟩, h6, h7⟩
        exact ⟨h1, ⟨h2, h3, h4, h5⟩, eye_updP h2 h3 h4 h6 h7⟩
      · obtain ⟨rfl, v, h1, rfl, h2, h3⟩ := h
        exact ⟨rfl, h2, h1, h3⟩
      subst ez
      refine sm_pre (P := eyeR K C D e r p b x xs (rowsTo x xs ++ [.lst (nowD x xs)]) (n + 3 * i')) ?_ fun W O H h => h.2
      generalize hro : rowsTo x xs ++ [.lst (nowD x xs)] = rows
      -- side, run
      refine sm_par (S := fun ds W O H => (∃ (sd : Str) (z : Int), ds = [.str sd, .int z] ∧ z ≠ 0) ∧ eyeR K C D e r p b x xs rows (n + 3 * i' + 2) W O H) (eam_post (eam_cons (R1 := fun d W O H => d ∈ [DV.str "one", DV.str "other"] ∧ eyeR K C D e r p b x xs rows (n + 3 * i' + 1) W O H ∧ True) (R2' := fun u ds W O H => ∃ v, ds = [v] ∧ v ∈ dis [1, -2, 5, -6] ∧ eyeR K C D e r p b x xs rows (n + 3 * i' + 1 + 1) W O H ∧ u ∈ [DV.str "one", DV.str "other"]) (em_ofE (F := fun _ _ _ => True) (eam_post (eam_pure (ds := [.adr b, .lst [DV.str "one", DV.str "other"]]) (ea_cons (ev_var rfl) (ea_cons (ev_lst (ea_cons ev_str (ea_cons ev_str ea_nil)) (Nat.le_of_ble_eq_true rfl)) ea_nil)) eye_stab) fun ds W O H h => ⟨h.1, h.2, True.intro⟩) off_A ⟨(fun z => nomatch z), by show 2 ≤ 1000; decide⟩ (by omega)) fun u => eam_post (eam_cons (R2' := fun v ds W O H => ds = [] ∧ v ∈ dis [1, -2, 5, -6] ∧ eyeR K C D e r p b x xs rows (n + 3 * i' + 1 + 1) W O H ∧ u ∈ [DV.str "one", DV.str "other"]) (em_ofE (F := fun _ _ _ => u ∈ [DV.str "one", DV.str "other"]) (eam_post (eam_pure (ds := [.adr b, .lst (dis [1, -2, 5, -6])]) (ea_cons (ev_var rfl) (ea_cons (ev_lst (ea_cons ev_int (ea_cons (ev_neg ev_int) (ea_cons ev_int (ea_cons (ev_neg ev_int) ea_nil)))) (Nat.le_of_ble_eq_true rfl)) ea_nil)) (fun W O H H' ok z h => ⟨h.1, eye_stab W O H H' ok z h.2.1, h.2.2⟩)) fun ds W O H h => ⟨h.1, h.2.2.1, h.2.1⟩) off_A ⟨(fun z => nomatch z), by show 4 ≤ 1000; decide⟩ (by omega)) fun v => eam_nil fun _ _ _ _ => True.intro) fun ds W O H h => by
        obtain ⟨v, vs, rfl, rfl, h⟩ := h
        exact ⟨v, rfl, h⟩) fun ds W O H h => by
        obtain ⟨u, us, rfl, v, rfl, hv, he, hu⟩ := h
        refine ⟨?_, he⟩
        have hz : ∃ z : Int, v = .int z ∧ z ≠ 0 := by
          simp only [dis, List.map_cons, List.map_nil, List.mem_cons, List.not_mem_nil, or_false] at hv
          rcases hv with rfl | rfl | rfl | rfl <;> exact ⟨_, rfl, by decide⟩
        obtain ⟨z, rfl, hz⟩ := hz
        simp only [List.mem_cons, List.not_mem_nil, or_false] at hu
        rcases hu with rfl | rfl <;> exact ⟨_, z, rfl, hz⟩) (fun ds W O H h => by
        obtain ⟨⟨sd, z, e, _⟩, _⟩ := h
        exact ⟨_, _, e⟩) fun dx dy => ?_
      refine sm_told (A := ∃ (sd : Str) (z : Int), [dx, dy] = [DV.str sd, DV.int z] ∧ z ≠ 0) (fun W O H h => h.1) fun ⟨sd, z, exy, hz⟩ => ?_
      obtain ⟨rfl, rfl⟩ : dx = .str sd ∧ dy = .int z := by
        injection exy with e1 e2
        injection e2 with e2 _
        exact ⟨e1, e2⟩
      refine sm_pre (P := eyeR K C D e r p b x xs rows (n + 3 * i' + 2)) ?_ fun W O H h => h.2
      obtain ⟨oko, lno⟩ := own_ok okl sd
      -- the year of that side
      refine sm_letE (em_peekW (i := 3) rfl (ev_side rfl rfl h50) rfl eye_stab (ho _ _)) ?_
      generalize how : ownW (lastR x xs) sd = own at oko lno
      have own0 : 0 < own.length := List.length_pos_iff.mpr oko.1
      -- a place
      refine sm_let (R' := fun d W O H => (∃ k : Nat, d = .int (k : Int) ∧ k < own.length) ∧ eyeR K C D e r p b x xs rows (n + 3 * i' + 2 + 1) W O H ∧ True) (em_drawE (F := fun _ _ _ => True) (eam_post (eam_pure (ds := [.adr b, .int (own.length : Int)]) (ea_cons (ev_var rfl) (ea_cons (ev_lenY L (ev_var rfl)) ea_nil)) eye_stab) fun ds W O H h => ⟨h.1, h.2, True.intro⟩) off_A ⟨own0, by omega⟩ (by omega)) fun d => ?_
      refine sm_told (A := ∃ k : Nat, d = .int (k : Int) ∧ k < own.length) (fun W O H h => h.1) fun ⟨k, hd, hk⟩ => ?_
      subst hd
      refine sm_pre (P := eyeR K C D e r p b x xs rows (n + 3 * (i' + 1))) ?_ fun W O H h => h.2.1
      obtain ⟨oky, lny⟩ := turnY_ok (i := i') (z := z) oko lno (by omega) hk hz
      have okt := turn_ok okl oky lny sd
      have yyt := row_yy okt (by omega)
      generalize hyy : turnY i' own k z = y at oky lny okt yyt
      generalize hzz : turnW (lastR x xs) sd y = zr at okt yyt
      have hzl : zr.2.2 = moD zr.1 zr.2.1 := by rw [← hzz]; exact turn_lead _ _ _
      have hzo : ownW zr sd = y := by rw [← hzz]; exact own_turn _ _ _
      have hl40 : xs.length ≤ 40 := by omega
      -- the turn
      refine sm_letE (d := .int zr.2.2) (P' := eyeR K C D e r p b x (xs ++ [zr]) rows (n + 3 * (i' + 1))) (em_if (S := fun bb W O H => bb = decide (i' < 2) ∧ eyeR K C D e r p b x xs rows (n + 3 * (i' + 1)) W O H) (etm_pure (b := decide (i' < 2)) (EvT.is (et_test (ev_ltI (ev_var rfl) ev_int)) (by rw [decide_eq_decide]; omega)) eye_stab) ?_ ?_) ?_
      · refine em_told (A := i' < 2) (fun W O H h => of_decide_eq_true h.1.symm) fun h2 => ?_
        have ey : putR own k z = y := by rw [← hyy]; unfold turnY; rw [if_pos h2]
        refine em_post (em_meO (i := 3) (S := fun ds W O H => ds = [.str sd, .int (k : Int), .int z] ∧ wat K C D e r (rowW x) (xs.map rowW) W O H) (F := eyeW K C r p b rows (n + 3 * (i' + 1))) (Rr := fun d W O H => d = .int zr.2.2 ∧ wat K C D e r (rowW x) ((xs ++ [zr]).map rowW) W O H) rfl (by decide) (by decide) (fun W O H h => h.2.2.2.1) (eam_post (eam_pure (P := eyeR K C D e r p b x xs rows (n + 3 * (i' + 1))) (ds := [.str sd, .int (k : Int), .int z]) (ea_cons (ev_var rfl) (ea_cons (ev_var rfl) (ea_cons (ev_var rfl) ea_nil))) eye_stab |> fun q => eam_pre q fun W O H h => h.2) fun ds W O H h => ⟨⟨h.1, h.2.2.2.1⟩, eye_W h.2⟩) eyeW_off fun ds W O H s => ⟨s.2.1, ⟨e, r, x, xs, sd, k, z⟩, by rw [s.1], ⟨⟨wat_W s.2 (decide_eq_true rfl), ?_, hl40⟩, ?_, ?_, ?_, hz⟩, fun d H' q w => ?_⟩) fun d W O H h => ⟨h.1.1, eye_ofW h.2 h.1.2⟩
        · show YY ((turnW (lastR x xs) sd (putR (ownW (lastR x xs) sd) k z)).1, (turnW (lastR x xs) sd (putR (ownW (lastR x xs) sd) k z)).2.1)
          rw [how, ey, hzz]
          exact yyt
        · show YrOk (ownW (lastR x xs) sd)
          rw [how]
          exact oko
        · show (ownW (lastR x xs) sd).length < 100
          rw [how]
          omega
        · show k ≤ (ownW (lastR x xs) sd).length
          rw [how]
          omega
        · have q1 : d = .int (turnW (lastR x xs) sd (putR (ownW (lastR x xs) sd) k z)).2.2 ∧ wat K C D e r (rowW x) ((xs ++ [turnW (lastR x xs) sd (putR (ownW (lastR x xs) sd) k z)]).map rowW) (only r) O H' := q
          rw [how, ey, hzz] at q1
          exact ⟨q1.1, wat_W q1.2 w⟩
      · refine em_told (A := ¬ i' < 2) (fun W O H h => of_decide_eq_false h.1.symm) fun h2 => ?_
        have ey : passR own k = y := by rw [← hyy]; unfold turnY; rw [if_neg h2]
        refine em_post (em_meO (i := 3) (S := fun ds W O H => ds = [.str sd, .int (k : Int)] ∧ wat K C D e r (rowW x) (xs.map rowW) W O H) (F := eyeW K C r p b rows (n + 3 * (i' + 1))) (Rr := fun d W O H => d = .int zr.2.2 ∧ wat K C D e r (rowW x) ((xs ++ [zr]).map rowW) W O H) rfl (by decide) (by decide) (fun W O H h => h.2.2.2.1) (eam_post (eam_pure (P := eyeR K C D e r p b x xs rows (n + 3 * (i' + 1))) (ds := [.str sd, .int (k : Int)]) (ea_cons (ev_var rfl) (ea_cons (ev_var rfl) ea_nil)) eye_stab |> fun q => eam_pre q fun W O H h => h.2) fun ds W O H h => ⟨⟨h.1, h.2.2.2.1⟩, eye_W h.2⟩) eyeW_off fun ds W O H s => ⟨s.2.1, ⟨e, r, x, xs, sd, k, 0⟩, by rw [s.1], ⟨⟨wat_W s.2 (decide_eq_true rfl), ?_, hl40⟩, ?_, ?_⟩, fun d H' q w => ?_⟩) fun d W O H h => ⟨h.1.1, eye_ofW h.2 h.1.2⟩
        · show YY ((turnW (lastR x xs) sd (passR (ownW (lastR x xs) sd) k)).1, (turnW (lastR x xs) sd (passR (ownW (lastR x xs) sd) k)).2.1)
          rw [how, ey, hzz]
          exact yyt
        · show YrOk (ownW (lastR x xs) sd)
          rw [how]
          exact oko
        · show k < (ownW (lastR x xs) sd).length
          rw [how]
          exact hk
        · have q1 : d = .int (turnW (lastR x xs) sd (passR (ownW (lastR x xs) sd) k)).2.2 ∧ wat K C D e r (rowW x) ((xs ++ [turnW (lastR x xs) sd (passR (ownW (lastR x xs) sd) k)]).map rowW) (only r) O H' := q
          rw [how, ey, hzz] at q1
          exact ⟨q1.1, wat_W q1.2 w⟩
      have h50a : (xs ++ [zr]).length ≤ 50 := by rw [List.length_append]; show xs.length + 1 ≤ 50; omega
      have ela : lastR x (xs ++ [zr]) = zr := last_add _ _ _
      -- what is due
      refine sm_letE (em_pure (d := .yr y) (ev_if (b := decide (i' < 2)) (EvT.is (et_test (ev_ltI (ev_var rfl) ev_int)) (by rw [decide_eq_decide]; omega)) (fun hb => ?_) fun hb => ?_) eye_stab) ?_
      · have ey : putR own k z = y := by rw [← hyy]; unfold turnY; rw [if_pos (of_decide_eq_true hb)]
        exact (ev_fn (ea_cons (ev_var rfl) (ea_cons (ev_var rfl) (ea_cons (ev_var rfl) ea_nil))) (⟨(own, k, z), ⟨oko, (by show own.length < 100; omega), (by show k ≤ own.length; omega), hz⟩, rfl, (congrArg DV.yr ey).symm⟩))
      · have ey : passR own k = y := by rw [← hyy]; unfold turnY; rw [if_neg (of_decide_eq_false hb)]
        exact (ev_fn (ea_cons (ev_var rfl) (ea_cons (ev_var rfl) ea_nil)) (⟨(own, k), ⟨oko, hk⟩, rfl, (congrArg DV.yr ey).symm⟩))
      -- checked
      refine sm_when (b := false) (P' := eyeR K C D e r p b x (xs ++ [zr]) rows (n + 3 * (i' + 1))) (etm_testW (i := 3) rfl (et_or (a := false) (b := false) (et_test (ev_op (d1 := .yr y) (d2 := .yr y) (EvD.is (ev_side (s := sd) rfl rfl h50a) (by rw [ela, hzo])) (ev_var rfl) r2_neY)) fun _ => EvT.is (et_test (ev_neI (ev_var rfl) (ev_fn (d := .int zr.2.2) (ea_cons (ev_one (ev_var rfl) h50a) (ea_cons (ev_other (ev_var rfl) h50a) ea_nil)) ⟨((lastR x (xs ++ [zr])).1, (lastR x (xs ++ [zr])).2.1), by rw [ela]; exact yyt, rfl, by rw [ela, hzl]⟩))) (by rw [decide_eq_true rfl]; rfl)) eye_stab fun W O H h => h.2.2.1) (fun z => nomatch z) fun _ => ?_
      refine sm_if (S := fun bb W O H => bb = false ∧ eyeR K C D e r p b x (xs ++ [zr]) rows (n + 3 * (i' + 1)) W O H) (etm_test (em_op (R1 := fun v W O H => v = .tup (dis (leadL x (xs ++ [zr]))) ∧ eyeR K C D e r p b x (xs ++ [zr]) rows (n + 3 * (i' + 1)) W O H) (R2' := fun v u W O H => (v = .tup (dis (leadL x (xs ++ [zr]))) ∧ u = .tup (dis (leadL x (xs ++ [zr])))) ∧ eyeR K C D e r p b x (xs ++ [zr]) rows (n + 3 * (i' + 1)) W O H) (em_peekW (i := 3) rfl (ev_leads (ev_var rfl) h50a) (noL_ints _) eye_stab fun W O H h => h.2.2.1) (fun v => em_op (R1 := fun u W O H => (u = .tup (dis (leadL x xs)) ∧ v = .tup (dis (leadL x (xs ++ [zr])))) ∧ eyeR K C D e r p b x (xs ++ [zr]) rows (n + 3 * (i' + 1)) W O H) (R2' := fun u u2 W O H => ((u = .tup (dis (leadL x xs)) ∧ v = .tup (dis (leadL x (xs ++ [zr])))) ∧ u2 = .tup [.int zr.2.2]) ∧ eyeR K C D e r p b x (xs ++ [zr]) rows (n + 3 * (i' + 1)) W O H) (em_post (em_peekN (i := 4) (p := p) (ds := rows) (d := .tup (dis (leadL x xs))) rfl ?_ (noL_ints _) ?_ ?_) ?_) (fun u => em_post (em_pure (d := .tup [.int zr.2.2]) (ev_tup (ea_cons (ev_var rfl) ea_nil) (Nat.le_of_ble_eq_true rfl)) (fun W O H H' ok z h => ⟨h.1, eye_stab W O H H' ok z h.2⟩)) fun d W O H h => ⟨⟨h.2.1, h.1⟩, h.2.2⟩) ?_) ?_)) (sm_told (A := False) (fun W O H h => nomatch h.1) fun z => z.elim) (sm_next fun W O H h => ?_)
      · refine ev_ix (ds := nowD x xs) (ev_ix (ev_var rfl) (.inl rfl) (ev_neg ev_int) ?_) (.inl rfl) ev_int (atI_nat rfl)
        rw [← hro]
        exact atI_last _ _
      · exact fun W O H H' ok z h => ⟨h.1, eye_stab W O H H' ok z h.2⟩
      · exact fun W O H h => h.2.2.1
      · exact fun d W O H h => ⟨⟨h.1, h.2.1⟩, h.2.2⟩
      · rintro u u2 W O H ⟨⟨⟨rfl, hv⟩, rfl⟩, he⟩
        refine ⟨.tup (dis (leadL x (xs ++ [zr]))), ?_, fun H' ok z => ⟨⟨hv, rfl⟩, eye_stab W O H H' ok z he⟩⟩
        rw [lead_add]
        exact r2_addT (by simp [dis]; omega)
      · rintro v u W O H ⟨⟨rfl, rfl⟩, he⟩
        refine ⟨.bl false, ?_, fun H' ok z => ⟨false, rfl, rfl, eye_stab W O H H' ok z he⟩⟩
        have q := r2_neO (K := K) (C := C) (n := 1) (k := 1) (d1 := .tup (dis (leadL x (xs ++ [zr])))) (d2 := .tup (dis (leadL x (xs ++ [zr])))) (ok_dis 0 _) (ok_dis 0 _) (by decide) (by decide)
        have e := eqv_dis (leadL x (xs ++ [zr]))
        simp only [pd, PyData.eqv, e, Bool.not_true] at q
        exact q
      · refine ⟨⟨_, _, _, _, _, _, _, _, rfl⟩, xs ++ [zr], ⟨by rw [List.length_append, hlen]; rfl, by rw [ela]; exact okt⟩, ?_⟩
        rw [rowsTo_add, hro]
        exact h.2
    · rintro δ1 W O H ⟨⟨o5, o6, o7, o8, o9, o10, o11, o12, rfl⟩, xs, ⟨hlen, _⟩, he⟩
      exact ⟨xs, _, _, ⟨⟨⟨_, _, _, _, _, _, _, _, _, _, rfl⟩, rfl, hlen, rfl⟩, rfl, rfl⟩, he⟩
  · obtain ⟨⟨e', p, o5, o6, o7, o8, o9, o10, o11, o12, rfl⟩, rfl, hlen, rfl⟩ := hM
    cases hi
    have stI : ∀ j, Stab (fun W O H => r ≠ b ∧ wat K C D e r (rowW x) ((xs.take (4 - j)).map rowW) W O H ∧ boxR b (n + 12) W O H) := fun j W O H H' ok z h => ⟨h.1, wat_stab W O H H' ok z h.2.1, box_stab W O H H' ok z h.2.2⟩
    refine sm_seq (M := fun δ' W O H => (∃ o5 o6 o7 o8 o9 o10 o11 o12, δ' = [some (.adr b), some (.yr h), some (.yr m), some (.adr e), some (.lst (rowsTo x xs)), o5, o6, o7, o8, o9, o10, o11, o12]) ∧ boxR b (n + 12) W O H) (sm_post (sm_for (fun j δ W O H => (∃ o5 o6 o7 o8 o9 o10 o11 o12, δ = [some (.adr b), some (.yr h), some (.yr m), some (.adr e), some (.lst (rowsTo x xs)), o5, o6, o7, o8, o9, o10, o11, o12]) ∧ r ≠ b ∧ wat K C D e r (rowW x) ((xs.take (4 - j)).map rowW) W O H ∧ boxR b (n + 12) W O H) (xs := (rowsTo x xs).reverse) (itm_list (ev_revL (ev_var rfl))) (fun j δ1 W O H H' ok z h => ⟨h.1, stI j W O H H' ok z h.2⟩) (fun W O H h => ⟨⟨_, _, _, _, _, _, _, _, rfl⟩, by rw [List.take_of_length_le (by omega)]; exact h⟩) (fun W O H H' ok z h => ⟨h.1, wat_stab W O H H' ok z h.2.1, box_stab W O H H' ok z h.2.2⟩) ?_ ?_) (fun _ _ _ _ z => z) fun d W O H h => h) fun δ' => sm_told (A := ∃ o5 o6 o7 o8 o9 o10 o11 o12, δ' = [some (.adr b), some (.yr h), some (.yr m), some (.adr e), some (.lst (rowsTo x xs)), o5, o6, o7, o8, o9, o10, o11, o12]) (fun W O H h => h.1) fun ⟨o5, o6, o7, o8, o9, o10, o11, o12, ez⟩ => sm_pre (P := boxR b (n + 12)) ?_ fun W O H h => h.2
    · rintro j d δ1 hd ⟨_, _, _, ⟨o5, o6, o7, o8, o9, o10, o11, o12, rfl⟩, _⟩
      have hj : j < 4 := by
        have := (List.getElem?_eq_some_iff.mp hd).1
        rw [List.length_reverse, rowsTo_len] at this
        omega
      rw [List.getElem?_reverse (by rw [rowsTo_len]; omega), rowsTo_len, hlen] at hd
      obtain rfl : d = .lst (nowD x (xs.take (3 - j))) := by
        unfold rowsTo at hd
        rw [List.getElem?_map, List.getElem?_range (by omega)] at hd
        have e3 : 4 - 1 - j = 3 - j := by omega
        rw [e3] at hd
        exact (Option.some.inj hd).symm
      obtain ⟨zr, hz⟩ : ∃ zr, xs.take (4 - j) = xs.take (3 - j) ++ [zr] := by
        have e4 : 4 - j = (3 - j) + 1 := by omega
        rw [e4, List.take_add_one, List.getElem?_eq_getElem (by omega)]
        exact ⟨_, rfl⟩
      refine ⟨_, _, tg_name, ?_⟩
      rw [hz]
      have hl3 : (xs.take (3 - j)).length ≤ 40 := by rw [List.length_take]; omega
      have eqs : xs.take (4 - (j + 1)) = xs.take (3 - j) := by congr 1; omega
      generalize xs.take (3 - j) = ys at hl3 eqs
      refine sm_seq (M := fun δ' W O H => δ' = [some (.adr b), some (.yr h), some (.yr m), some (.adr e), some (.lst (rowsTo x xs)), o5, o6, o7, o8, o9, o10, o11, some (.lst (nowD x ys))] ∧ (wat K C D e r (rowW x) (ys.map rowW) W O H ∧ r ≠ b ∧ boxR b (n + 12) W O H)) (sm_drop (em_meO (i := 3) (S := fun ds W O H => ds = [] ∧ wat K C D e r (rowW x) ((ys ++ [zr]).map rowW) W O H) (F := fun W O H => r ≠ b ∧ boxR b (n + 12) W O H) (Rr := fun d W O H => wat K C D e r (rowW x) (ys.map rowW) W O H) rfl (by decide) (by decide) (fun W O H h => h.2.2.1) (eam_post (eam_nil fun _ _ _ _ => True.intro) fun ds W O H h => ⟨⟨h.1, h.2.2.2.1⟩, h.2.2.1, h.2.2.2.2⟩) off_box fun ds W O H s => ⟨s.2.1, ⟨e, r, x, ys, zr⟩, by rw [s.1], ⟨wat_W s.2 (decide_eq_true rfl), hl3⟩, fun d H' q w => wat_W q.2 w⟩) fun d W O H h => ⟨rfl, h.1, h.2⟩) fun δ' => sm_told (A := δ' = [some (.adr b), some (.yr h), some (.yr m), some (.adr e), some (.lst (rowsTo x xs)), o5, o6, o7, o8, o9, o10, o11, some (.lst (nowD x ys))]) (fun W O H h => h.1) fun ez => ?_
      subst ez
      have h50 : ys.length ≤ 50 := by omega
      refine sm_if (S := fun bb W O H => bb = false ∧ (wat K C D e r (rowW x) (ys.map rowW) W O H ∧ r ≠ b ∧ boxR b (n + 12) W O H)) (etm_testW (i := 3) (P := fun W O H => wat K C D e r (rowW x) (ys.map rowW) W O H ∧ r ≠ b ∧ boxR b (n + 12) W O H) rfl (et_test (ev_neL (EvD.is (ev_lst (ea_cons (ev_one (ev_var rfl) h50) (ea_cons (ev_other (ev_var rfl) h50) (ea_cons (ev_leads (ev_var rfl) h50) ea_nil))) (Nat.le_of_ble_eq_true rfl)) rfl) (ev_var rfl) ?_)) (fun W O H H' ok z h => ⟨wat_stab W O H H' ok z h.1, h.2.1, box_stab W O H H' ok z h.2.2⟩) (fun W O H h => h.1) |> fun q => etm_pre q fun W O H h => h.2) (sm_told (A := False) (fun W O H h => nomatch h.1) fun z => z.elim) (sm_next fun W O H h => ⟨⟨_, _, _, _, _, _, _, _, rfl⟩, h.2.2.1, by rw [eqs]; exact h.2.1, h.2.2.2⟩)
      intro d hd
      simp only [nowD, List.mem_cons, List.not_mem_nil, or_false] at hd
      rcases hd with rfl | rfl | rfl
      · exact .inl ⟨_, rfl⟩
      · exact .inl ⟨_, rfl⟩
      · exact .inr ⟨_, rfl⟩
    · rintro δ1 W O H ⟨h1, h2⟩
      exact ⟨h1, h2.2.2⟩
    · subst ez
      exact sm_ret (em_post (em_pure ev_bl box_stab) fun d W O H h => ⟨⟨h.1, by rw [h.1]; rfl⟩, h.2⟩)
end
end Dt
set_option Elab.async false
set_option linter.all false
set_option maxRecDepth 100000
set_option maxHeartbeats 8000000
/-! The law of one box; the law. -/
namespace Dt
open PySem PySem.Spec PyProof.Rows L2
open Evl (Ex)
section
variable {K : Frag} {C : Addr} {δ : Den} {d : DV} {ta te : TE} {tt : TT} {t u : TS} {tr : TA} {ds : List DV} {P P' : Res} {R : DV → Res} {N : Den → Res} {A : List Int → Prop} {i j l : Nat}
theorem em_year (h : EvM K C ta δ P (fun d W O H => (∃ rs, d = .tup (dis rs) ∧ YrOk rs ∧ A rs) ∧ P' W O H)) (hP : Stab P') : EvM K C (StX.tMakeR C (spYear K C) E0 (tCons ta tNil)) δ P (fun d W O H => (∃ rs, d = .yr rs ∧ A rs) ∧ P' W O H) := fun W O σ H Q ok e p q =>
  h W O σ H _ ok e p fun d v H1 ⟨⟨rs, ed, okr, a⟩, p1⟩ c1 ok1 r1 x dx hx hd ne => by
    subst ed
    exact ⟨O, H1, x, dx, v, _, rs, rfl, hx, hd, ne, rfl, ok1.good, r1, .inr rfl, okr, fun H2 e2 r2 => ⟨rfl, q _ _ H2 ⟨⟨rs, rfl, a⟩, hP W O H1 H2 ok1 e2 p1⟩ (c1.trans (.of e2)) (ok1.ex e2) r2⟩⟩
/-- x, y, z = .. -/
theorem sm_par3 {S : List DV → Res} {ts : TA} (h : EaM K C ts δ P S) (hS : ∀ ds W O H, S ds W O H → ∃ x y z, ds = [x, y, z]) (k : ∀ x y z, StM K C u (((δ.set i (some x)).set j (some y)).set l (some z)) (S [x, y, z]) N R) : StM K C (tSeq (tPar3 i j l ts) u) δ P N R := fun W O σ H D ok e p q1 q2 =>
  h W O σ H (fun vs H1 => ∃ a b c, vs = [a, b, c] ∧ u D (((σ.set i (some a)).set j (some b)).set l (some c)) H1) ok e p fun ds vs H1 s1 c1 ok1 r1 => by
    obtain ⟨x, y, z, rfl⟩ := hS ds W O H1 s1
    obtain ⟨a, b, c, rfl, ra, rb, rc⟩ := reps3 r1
    exact ⟨a, b, c, rfl, k x y z W O _ H1 D ok1 ((((e.to (c1.msk ok)).set ra).set rb).set rc) s1 (fun δ2 σ2 H2 n c2 => q1 δ2 σ2 H2 n (c1.trans c2)) fun d v H2 r c2 => q2 d v H2 r (c1.trans c2)⟩
theorem em_fnD {F : List DV → DV → Prop} {S : List DV → Res} (h : EaM K C tr δ P S) (hs : ∀ ds W O H, S ds W O H → ∃ d, F ds d ∧ ∀ H', OkA W O H → Ex H H' → R d W O H') : EvM K C (tFn (spD K C F) tr) δ P R := fun W O σ H Q ok e p q =>
  h W O σ H _ ok e p fun ds vs H1 s1 c1 ok1 r1 => by
    obtain ⟨d, hf, hr⟩ := hs ds W O H1 s1
    exact ⟨O, ds, d, ok1.good, hf, r1, fun v H2 e2 r2 => q d v H2 (hr H2 ok1 e2) (c1.trans (.of e2)) (ok1.ex e2) r2⟩
theorem etm_B {S : Bool → Res} (h : EvM K C te δ P (fun d W O H => ∃ b, d = .bl b ∧ S b W O H)) : EtM K C (tB te) δ P S := fun W O σ H Q ok e p q => h W O σ H _ ok e p fun d v H1 ⟨b, e1, s⟩ c1 ok1 r1 => by
  subst e1
  exact ⟨b, r1.bl_eq, q b H1 s c1 ok1⟩
theorem etm_not {S : Bool → Res} (h : EtM K C tt δ P (fun b => S (!b))) : EtM K C (tNot tt) δ P S := fun W O σ H Q ok e p q => h W O σ H _ ok e p fun b H1 s c1 ok1 => q (!b) H1 s c1 ok1
end
section
variable {P : Program} {w : World} {K : Frag} {mg : Str → Option Value} {base : Heap} {C D : Addr}
def sp_right (K : Frag) (C : Addr) : Sp := spM K C (fun a : Addr × Nat => [.adr a.1]) (fun a W O H => a.2 ≤ 10 ∧ boxR a.1 a.2 W O H) (fun a d W O H => d = .bl true ∧ boxR a.1 (a.2 + 300) W O H)
theorem fn__law_right (L : Loc K mg C D) : FnAt P w K mg base "_law_right" 15 (sp_right K C) := by
  obtain ⟨f, fd, F, hm⟩ := L.l__law_right
  refine fnat_of hm F (fnr_mut F sc__law_right (fun _ _ _ _ _ _ us h => ?_) (fun _ => rfl) ?_)
  · obtain ⟨a, rfl⟩ := one_of h
    rfl
  intro cdv A outer s H E hr
  refine ⟨_, (pss_cons (ps_for PassesOwn.never rfl (pi_range1 (by rfl) L.b_range (pa_cons pe_int pa_nil)) (pg_name (i := 1) sc__law_right.nd rfl (Or.inl rfl)) (pss_cons (ps_asg (pe_fn (fn__law_two L) hr (by decide) (by rfl) (pa_cons (pv 0) pa_nil)) (pg_tup rfl (pgs_cons (pg_name (i := 2) sc__law_right.nd rfl (Or.inl rfl)) (pgs_cons (pg_name (i := 3) sc__law_right.nd rfl (Or.inl rfl)) pgs_nil))))
    (pss_cons (ps_par3 (i := 4) (j := 5) (l := 6) rfl sc__law_right.nd rfl rfl rfl (by decide) (by decide) (by decide) rfl rfl rfl (pa_cons (k_year (K := K) rfl L hr (by decide) (by rfl) (pa_cons (pv 2) pa_nil)) (pa_cons (k_year (K := K) rfl L hr (by decide) (by rfl) (pa_cons (pv 3) pa_nil)) (pa_cons (k_year (K := K) rfl L hr (by decide) (by rfl) (pa_cons (pe_fn (fn__law_runs L) hr (by decide) (by rfl) (pa_cons (pv 0) (pa_cons pe_int (pa_cons pe_int pa_nil)))) pa_nil)) pa_nil))) (by rfl))
    (pss_cons (ps_if (PW.pt (pw_or (pt_not (pt_val (pe_fn (fn__law_two_right L) hr (by decide) (by rfl) (pa_cons (pv 4) (pa_cons (pv 5) pa_nil))))) (pw_or1 (pt_not (pt_val (pe_fn (fn__law_two_right L) hr (by decide) (by rfl) (pa_cons (pv 5) (pa_cons (pv 4) pa_nil)))))))) (pss_one (ps_ret pe_bl)) pss_nil)
    (pss_cons (ps_if (pt_not (pt_val (pe_fn (fn__law_two_right L) hr (by decide) (by rfl) (pa_cons (pv 4) (pa_cons (pv 6) pa_nil))))) (pss_one (ps_ret pe_bl)) pss_nil)
    (pss_cons (ps_if (PW.pt (pw_or (pt_not (pt_val (pe_fn (fn__law_three_right L) hr (by decide) (by rfl) (pa_cons (pv 4) (pa_cons (pv 5) (pa_cons (pv 6) pa_nil)))))) (pw_or1 (pt_not (pt_val (pe_fn (fn__law_three_right L) hr (by decide) (by rfl) (pa_cons (pv 6) (pa_cons (pv 4) (pa_cons (pv 5) pa_nil))))))))) (pss_one (ps_ret pe_bl)) pss_nil)
    (pss_cons (ps_if (pt_not (pt_val (pe_fn (fn__law_put_right L) hr (by decide) (by rfl) (pa_cons (pv 4) (pa_cons (pe_fn (fn__law_of L) hr (by decide) (by rfl) (pa_cons (pv 0) (pa_cons (pe_lst (pa_cons pe_int (pa_cons (pe_un un_neg pe_int) (pa_cons pe_int (pa_cons (pe_un un_neg pe_int) pa_nil))))) pa_nil))) (pa_cons (pe_fn (fn__law_take L) hr (by decide) (by rfl) (pa_cons (pv 0) (pa_cons pe_int pa_nil))) pa_nil)))))) (pss_one (ps_ret pe_bl)) pss_nil)
    (pss_one (ps_if (pt_not (pt_val (pe_fn (fn__law_watch_right L) hr (by decide) (by rfl) (pa_cons (pv 0) (pa_cons (pv 4) (pa_cons (pv 5) pa_nil)))))) (pss_one (ps_ret pe_bl)) pss_nil)))))))))
    (pss_one (ps_ret pe_bl))), ?_⟩
  rintro ⟨b, n⟩
  refine sm_told (A := n ≤ 10) (fun W O H h => h.1) fun hn => sm_pre (P := boxR b n) ?_ fun W O H h => h.2
  refine sm_seq (M := fun δ' W O H => boxR b (n + 300) W O H) (sm_post (sm_for (fun i δ W O H => (∃ o1 o2 o3 o4 o5 o6, δ = [some (.adr b), o1, o2, o3, o4, o5, o6]) ∧ boxR b (n + 100 * i) W O H) (xs := rangeD 3) (itm_range (n := 3) (EvD.is ev_int rfl) (by decide)) (fun i δ1 W O H H' ok z h => ⟨h.1, box_stab W O H H' ok z h.2⟩) (fun W O H h => ⟨⟨_, _, _, _, _, _, rfl⟩, h⟩) box_stab ?_ fun δ1 W O H h => h.2) (fun _ _ _ _ z => z) fun _ _ _ _ z => z) fun δ' => ?_
  · rintro i d δ1 hd ⟨_, _, _, ⟨o1, o2, o3, o4, o5, o6, rfl⟩, _⟩
    rw [List.getElem?_map] at hd
    obtain ⟨i', hi', rfl⟩ := Option.map_eq_some_iff.mp hd
    have hi3 : i < 3 := by
      have := (List.getElem?_eq_some_iff.mp hi').1
      rw [List.length_range] at this
      exact this
    refine ⟨_, _, tg_name, ?_⟩
    refine sm_pre (P := boxR b (n + 100 * i)) ?_ fun W O H h => h.2
    generalize hq : n + 100 * i = q
    have hq2 : n + 100 * (i + 1) = q + 100 := by omega
    rw [hq2]
    have hq3 : q ≤ 400 := by omega
    -- two years' runs
    refine sm_letT (R' := fun d W O H => ((∃ x y, d = twoD x y ∧ RunsOk 8 6 x ∧ RunsOk 8 6 y) ∧ boxR b (q + 60) W O H) ∧ True) (em_box (b := b) (F := fun _ _ _ => True) (S := fun ds W O H => ds = [.adr b] ∧ boxR b q W O H) (Rr := fun d W O H => (∃ x y, d = twoD x y ∧ RunsOk 8 6 x ∧ RunsOk 8 6 y) ∧ boxR b (q + 60) W O H) (eam_post (eam_pure (ds := [.adr b]) (ea_cons (ev_var rfl) ea_nil) box_stab) fun ds W O H h => ⟨h, True.intro⟩) off_true fun ds W O H h => ⟨h.2.1, (b, q), h.1, ⟨(by show q ≤ 5000; omega), box_W h.2 (decide_eq_true rfl)⟩, fun d H' r w => ⟨r.1, box_W r.2 w⟩⟩) fun d ⟨_, _, _, ⟨⟨x, y, ed, hx, hy⟩, _⟩, _⟩ => ?_
    subst ed
    refine ⟨_, _, tg_tup rfl (tgs_cons tg_name (tgs_cons tg_name tgs_nil)), ?_⟩
    refine sm_pre (P := boxR b (q + 60)) ?_ fun W O H h => h.1.2
    have sx := runs_sm hx
    have sy := runs_sm hy
    -- three years
    refine sm_par3 (S := fun ds W O H => (∃ z, ds = [.yr x, .yr y, .yr z] ∧ RunsOk 8 6 z) ∧ boxR b (q + 80) W O H) (eam_post (eam_cons (R1 := fun d W O H => d = .yr x ∧ boxR b (q + 60) W O H) (R2' := fun u ds W O H => ∃ v vs, ds = v :: vs ∧ (u = .yr x ∧ v = .yr y) ∧ (∃ z, vs = [.yr z] ∧ RunsOk 8 6 z) ∧ boxR b (q + 80) W O H) (em_pure (ev_year (ev_var rfl) (.inr rfl) sx.1) box_stab) fun u => eam_cons (R1 := fun v W O H => (u = .yr x ∧ v = .yr y) ∧ boxR b (q + 60) W O H) (R2' := fun v vs W O H => (u = .yr x ∧ v = .yr y) ∧ (∃ z, vs = [.yr z] ∧ RunsOk 8 6 z) ∧ boxR b (q + 80) W O H) (em_post (em_pure (ev_year (ev_var rfl) (.inr rfl) sy.1) (fun W O H H' ok z h => ⟨h.1, box_stab W O H H' ok z h.2⟩)) fun d W O H h => ⟨⟨h.2.1, h.1⟩, h.2.2⟩) fun v => eam_post (eam_cons (R1 := fun d W O H => (∃ rs, d = .yr rs ∧ RunsOk 8 6 rs) ∧ (u = .yr x ∧ v = .yr y) ∧ boxR b (q + 80) W O H) (R2' := fun z ds W O H => ds = [] ∧ (∃ rs, z = .yr rs ∧ RunsOk 8 6 rs) ∧ (u = .yr x ∧ v = .yr y) ∧ boxR b (q + 80) W O H) (em_year (em_post (em_box (b := b) (F := fun _ _ _ => u = .yr x ∧ v = .yr y) (S := fun ds W O H => ds = [.adr b, .int 7, .int 6] ∧ boxR b (q + 60) W O H) (Rr := fun d W O H => ∃ rs, (d = .tup (dis rs) ∧ RunsOk 7 6 rs) ∧ boxR b (q + 60 + 20) W O H) (eam_post (eam_pure (ds := [.adr b, .int 7, .int 6]) (ea_cons (ev_var rfl) (ea_cons ev_int (ea_cons ev_int ea_nil))) (fun W O H H' ok z h => ⟨h.1, box_stab W O H H' ok z h.2⟩)) fun ds W O H h => ⟨⟨h.1, h.2.2⟩, h.2.1⟩) (fun _ _ _ _ _ _ h => h) fun ds W O H h => ⟨h.2.1, (b, 7, 6, q + 60), h.1, ⟨⟨(by show 0 < 7; decide), (by show 7 ≤ 8; decide), (by show 0 < 6; decide), (by show 6 ≤ 6; decide), (by show q + 60 ≤ 10000; omega)⟩, box_W h.2 (decide_eq_true rfl)⟩, fun d H' r w => by
      obtain ⟨rs, h1, h2⟩ := r
      exact ⟨rs, h1, box_W h2 w⟩⟩) fun d W O H h => by
      obtain ⟨⟨rs, ⟨e1, h1⟩, h2⟩, h3⟩ := h
      have h1' := runs_more h1 (by decide) (by decide)
      exact ⟨⟨rs, e1, (runs_sm h1').1, h1'⟩, h3, h2⟩) (fun W O H H' ok z h => ⟨h.1, box_stab W O H H' ok z h.2⟩)) fun z => eam_nil fun _ _ _ _ => True.intro) fun ds W O H h => by
      obtain ⟨z, zs, rfl, rfl, ⟨rs, rfl, h1⟩, h2, h3⟩ := h
      exact ⟨h2, ⟨rs, rfl, h1⟩, h3⟩) fun ds W O H h => by
      obtain ⟨u, us, rfl, v, vs, rfl, ⟨rfl, rfl⟩, ⟨z, rfl, h1⟩, h2⟩ := h
      exact ⟨⟨z, rfl, h1⟩, h2⟩) (fun ds W O H h => by
      obtain ⟨⟨z, e, _⟩, _⟩ := h
      exact ⟨_, _, _, e⟩) fun d1 d2 d3 => ?_
    refine sm_told (A := ∃ z, [d1, d2, d3] = [.yr x, .yr y, .yr z] ∧ RunsOk 8 6 z) (fun W O H h => h.1) fun ⟨z, exyz, hz⟩ => ?_
    obtain ⟨rfl, rfl, rfl⟩ : d1 = .yr x ∧ d2 = .yr y ∧ d3 = .yr z := by
      injection exyz with e1 e2
      injection e2 with e2 e3
      injection e3 with e3 _
      exact ⟨e1, e2, e3⟩
    have sz := runs_sm hz
    refine sm_pre (P := boxR b (q + 80)) ?_ fun W O H h => h.2
    refine sm_when (b := false) (etm_pure (et_or (a := false) (b := false) (EvT.is (et_not (et_B (ev_fn (d := .bl true) (ea_cons (ev_var rfl) (ea_cons (ev_var rfl) ea_nil)) ⟨(x, y), sm_two sx sy, rfl, rfl⟩))) rfl) fun _ => EvT.is (et_not (et_B (ev_fn (d := .bl true) (ea_cons (ev_var rfl) (ea_cons (ev_var rfl) ea_nil)) ⟨(y, x), sm_two sy sx, rfl, rfl⟩))) rfl) box_stab) (fun z => nomatch z) fun _ => ?_
    refine sm_when (b := false) (etm_pure (EvT.is (et_not (et_B (ev_fn (d := .bl true) (ea_cons (ev_var rfl) (ea_cons (ev_var rfl) ea_nil)) ⟨(x, z), sm_two sx sz, rfl, rfl⟩))) rfl) box_stab) (fun z => nomatch z) fun _ => ?_
    refine sm_when (b := false) (etm_pure (et_or (a := false) (b := false) (EvT.is (et_not (et_B (ev_fn (d := .bl true) (ea_cons (ev_var rfl) (ea_cons (ev_var rfl) (ea_cons (ev_var rfl) ea_nil))) ⟨(x, y, z), sm_three sx sy sz, rfl, rfl⟩))) rfl) fun _ => EvT.is (et_not (et_B (ev_fn (d := .bl true) (ea_cons (ev_var rfl) (ea_cons (ev_var rfl) (ea_cons (ev_var rfl) ea_nil))) ⟨(z, x, y), sm_three sz sx sy, rfl, rfl⟩))) rfl) box_stab) (fun z => nomatch z) fun _ => ?_
    -- a run put in
    refine sm_when (b := false) (P' := boxR b (q + 82)) (etm_not (etm_B (em_fnD (S := fun ds W O H => (∃ (r : Int) (k : Nat), ds = [.yr x, .int r, .int (k : Int)] ∧ r ≠ 0) ∧ boxR b (q + 82) W O H) ?_ ?_))) (fun z => nomatch z) fun _ => ?_
    · refine eam_post (eam_cons (R1 := fun d W O H => d = .yr x ∧ boxR b (q + 80) W O H) (R2' := fun u ds W O H => ∃ v vs, ds = v :: vs ∧ u = .yr x ∧ (∃ r : Int, v = .int r ∧ r ≠ 0) ∧ (∃ k : Nat, vs = [.int (k : Int)]) ∧ boxR b (q + 82) W O H) (em_pure (ev_var rfl) box_stab) fun u => eam_cons (R1 := fun v W O H => (v ∈ dis [1, -1, 4, -5] ∧ boxR b (q + 80 + 1) W O H) ∧ u = .yr x) (R2' := fun v vs W O H => u = .yr x ∧ (∃ r : Int, v = .int r ∧ r ≠ 0) ∧ (∃ k : Nat, vs = [.int (k : Int)]) ∧ boxR b (q + 82) W O H) (em_box (b := b) (F := fun _ _ _ => u = .yr x) (S := fun ds W O H => ds = [.adr b, .lst (dis [1, -1, 4, -5])] ∧ boxR b (q + 80) W O H) (Rr := fun d W O H => d ∈ dis [1, -1, 4, -5] ∧ boxR b (q + 80 + 1) W O H) (eam_post (eam_pure (ds := [.adr b, .lst (dis [1, -1, 4, -5])]) (ea_cons (ev_var rfl) (ea_cons (ev_lst (ea_cons ev_int (ea_cons (ev_neg ev_int) (ea_cons ev_int (ea_cons (ev_neg ev_int) ea_nil)))) (Nat.le_of_ble_eq_true rfl)) ea_nil)) (fun W O H H' ok z h => ⟨h.1, box_stab W O H H' ok z h.2⟩)) fun ds W O H h => ⟨⟨h.1, h.2.2⟩, h.2.1⟩) (fun _ _ _ _ _ _ h => h) fun ds W O H h => ⟨h.2.1, (b, dis [1, -1, 4, -5], q + 80), h.1, ⟨⟨(fun z => nomatch z), (by show 4 ≤ 1000; decide), by show q + 80 ≤ 100000; omega⟩, box_W h.2 (decide_eq_true rfl)⟩, fun d H' r w => ⟨r.1, box_W r.2 w⟩⟩) fun v => eam_post (eam_cons (R1 := fun k W O H => (∃ r : Nat, (k = .int (r : Int) ∧ r < 9) ∧ boxR b (q + 81 + 1) W O H) ∧ u = .yr x ∧ ∃ r : Int, v = .int r ∧ r ≠ 0) (R2' := fun k vs W O H => vs = [] ∧ (∃ r : Nat, (k = .int (r : Int) ∧ r < 9) ∧ boxR b (q + 81 + 1) W O H) ∧ u = .yr x ∧ ∃ r : Int, v = .int r ∧ r ≠ 0) (em_take (b := b) (m := 9) (n := q + 81) (F := fun _ _ _ => u = .yr x ∧ ∃ r : Int, v = .int r ∧ r ≠ 0) (eam_post (eam_pure (ds := [.adr b, .int 9]) (ea_cons (ev_var rfl) (ea_cons ev_int ea_nil)) (fun W O H H' ok z h => ⟨⟨h.1.1, box_stab W O H H' ok z h.1.2⟩, h.2⟩)) fun ds W O H h => ?_) (by decide) (by omega) (fun _ _ _ _ _ _ h => h)) fun k => eam_nil fun _ _ _ _ => True.intro) fun vs W O H h => ?_) fun ds W O H h => ?_
      · obtain ⟨rfl, ⟨hv, hb⟩, hu⟩ := h
        refine ⟨⟨rfl, hb⟩, hu, ?_⟩
        simp only [dis, List.map_cons, List.map_nil, List.mem_cons, List.not_mem_nil, or_false] at hv
        rcases hv with rfl | rfl | rfl | rfl <;> exact ⟨_, rfl, by decide⟩
      · obtain ⟨k, ks, rfl, rfl, ⟨r, ⟨rfl, _⟩, hb⟩, hu, hv⟩ := h
        exact ⟨hu, hv, ⟨r, rfl⟩, hb⟩
      · obtain ⟨u, us, rfl, v, vs, rfl, rfl, ⟨r, rfl, hr0⟩, ⟨k, rfl⟩, hb⟩ := h
        exact ⟨⟨r, k, rfl, hr0⟩, hb⟩
    · rintro ds W O H ⟨⟨r, k, rfl, hr0⟩, hb⟩
      exact ⟨.bl true, ⟨((x, r), (k : Int)), ⟨sm_put sx hr0, Int.natCast_nonneg k⟩, rfl, rfl⟩, fun H' ok e => ⟨true, rfl, rfl, box_stab W O H H' ok e hb⟩⟩
    -- the watch
    refine sm_if (S := fun bb W O H => bb = false ∧ boxR b (q + 94) W O H) (etm_not (etm_B (em_post (em_box (b := b) (F := fun _ _ _ => True) (S := fun ds W O H => ds = [.adr b, .yr x, .yr y] ∧ boxR b (q + 82) W O H) (Rr := fun d W O H => d = .bl true ∧ boxR b (q + 94) W O H) (eam_post (eam_pure (ds := [.adr b, .yr x, .yr y]) (ea_cons (ev_var rfl) (ea_cons (ev_var rfl) (ea_cons (ev_var rfl) ea_nil))) box_stab) fun ds W O H h => ⟨h, True.intro⟩) off_true fun ds W O H h => ⟨h.2.1, (b, x, y, q + 82), h.1, ⟨⟨⟨⟨sx.1, hx.2.1⟩, sy.1, hy.2.1⟩, (by show q + 82 ≤ 50000; omega)⟩, box_W h.2 (decide_eq_true rfl)⟩, fun d H' r w => ⟨r.1, box_W r.2 w⟩⟩) fun d W O H h => ⟨true, h.1.1, rfl, h.1.2⟩))) (sm_told (A := False) (fun W O H h => nomatch h.1) fun z => z.elim) (sm_next fun W O H h => ⟨⟨_, _, _, _, _, _, rfl⟩, box_more h.2 (by omega)⟩)
  · exact sm_ret (em_post (em_pure ev_bl box_stab) fun d W O H h => h)
theorem ev_rightB {δ : Den} {t : TA} {cs : List Int} {k : Nat} (h : EvA K C t δ [.lst (dis cs), .int (k : Int)]) (hk : k < cs.length) : EvD K C (tFn (sp_right K C) (tCons (tFn (sp_box K C) t) tNil)) δ (.bl true) := fun O σ H Q gd e q =>
  h O σ H _ gd e fun vs H1 e1 r1 => ⟨O, cs, k, gd.ex e1, r1, hk, fun p H2 x y x2 hn hp => by
    have e2 := e1.trans x2
    have hn0 := Evl.fresh_back e1 hn
    refine ⟨(p, 0), only p, plus O p, ⟨fun a z => Bool.or_eq_true_iff.mpr (.inr z), fun a z => ?_⟩, ⟨(by show 0 ≤ 10; decide), decide_eq_true rfl, (x, y, 0), ⟨Int.le_refl _, Int.le_refl _⟩, hp⟩, .cons (.adr p) .nil, fun d v H3 r c ok3 w => ?_⟩
    · rcases Bool.or_eq_true_iff.mp z with z | z
      · exact (gd.ex e2) a z
      · rw [of_decide_eq_true z, hp]; exact fun y => nomatch y
    · obtain ⟨rfl, _⟩ := r
      rw [w.bl_eq]
      exact q _ H3 (fun a o z => c a o (e2 a o z) (decide_eq_false fun y => by rw [y, hn0] at z; cases z)) (.bl _)⟩
theorem fnok_of {x qual : Str} {st : Stmt} {f : Addr} {fd : FuncData} {N ps : List Str} {k : Nat} (F : FnP K x qual st f fd) (S : FnScope N ps (defScope st)) (G : List DV → DV → Prop) (hlen : ∀ ds d, G ds d → ds.length = ps.length)
    (hbody : ∀ (cdv : Value) (A : Around) (outer : List PySem.Env) (s : Shared) (H : Hp) (E : XK), Room k (A.deeper (envOfC qual (defScope st) s.heap.objs.size f cdv)) →
      ∃ t, PSs (cxOf CX0 P w K mg base N qual (defScope st) f cdv A outer s H E).nox (defBody st) t ∧ ∀ ds d, G ds d → StD K C t (startD N ds) (fun _ => d = .non) (fun r => r = d)) : FnOk P w K mg base CX0 (k + 1) f fd ps (spD K C G) := by
  refine F.ok S (fun vs H Q E h => ?_) fun cdv A outer s H vs Q E hr h => ?_
  · obtain ⟨O, ds, d, _, hG, r, _⟩ := h
    rw [r.len]
    exact hlen ds d hG
  · obtain ⟨O, ds, d, gd, hG, r, q⟩ := h
    obtain ⟨t, ht, hs⟩ := hbody cdv A outer s H E hr
    refine ⟨t, ht.nox, hs ds d hG O _ H _ gd (env_start r) (fun δ' σ' H' n x _ => ?_) fun d' v H' e x r' => ?_⟩
    · subst n
      exact q .non H' x .non
    · subst e
      exact q v H' x r'
def F_law : List DV → DV → Prop := mkF (fun ns : List Int => ns.length ≤ 63) (fun ns => [.lf (dis ns)]) fun _ => .bl true
theorem ok_law {f : Addr} {fd : FuncData} (L : Loc K mg C D) (F : FnP K "law" "law" s_law f fd) : FnOk P w K mg base CX0 17 f fd ["_law_script"] (spD K C F_law) := by
  refine fnok_of F sc_law _ (fun ds d ⟨x, _, e, _⟩ => by rw [e]; rfl) ?_
  intro cdv A outer s H E hr
  refine ⟨_, (pss_cons (ps_if (pt_not (pt_val (pe_fn0 (fn__law_by_hand_right L) hr (by decide) (by rfl)))) (pss_one (ps_ret pe_bl)) pss_nil)
    (pss_cons (ps_set (i := 1) sc_law.nd rfl (Or.inr rfl) (pe_fn (fn__law_cells L) hr (by decide) (by rfl) (pa_cons (pv 0) (pa_cons pe_int pa_nil))))
    (pss_one (ps_ret (pe_callB (k_all (K := K) rfl rfl) (by rfl) L.b_all bb_all (pa_cons (pe_lc (own := [("_law_k", 2)]) (g := (gName 2)) (tt := tYes) rfl sc_law.nd (pi_range1 (by rfl) L.b_range (pa_cons (pe_callB (k_len (K := K) rfl L hr (by decide)) (by rfl) L.b_len bb_len (pa_cons (pv 1) pa_nil)) pa_nil)) (blkOk_by (N := ["_law_script", "_law_cells_here", "_law_k"]) (sc := defScope s_law) (by decide +kernel)) (fun _ _ _ _ _ => (pg_name (i := 2) sc_law.nd rfl (Or.inl rfl))) (fun _ _ _ _ _ => pts_nil) (fun _ _ _ _ _ => (pe_fn (fn__law_right L) hr (by decide) (by rfl) (pa_cons (pe_fn (fn__law_box L) hr (by decide) (by rfl) (pa_cons (pv 1) (pa_cons (pv 2) pa_nil))) pa_nil)))) pa_nil)))))), ?_⟩
  rintro ds d ⟨ns, hn, rfl, rfl⟩
  show StD K C _ _ (fun _ => DV.bl true = .non) (fun r => r = .bl true)
  replace hn : ns.length ≤ 63 := hn
  refine st_of ?_
  refine sm_when (b := false) (P' := fun _ _ _ => True) (etm_pure (EvT.is (et_not (et_B (ev_fn (d := .bl true) ea_nil ⟨(), True.intro, rfl, rfl⟩))) rfl) (fun _ _ _ _ _ _ _ => True.intro)) (fun z => nomatch z) fun _ => ?_
  refine sm_let (R' := fun d _ _ _ => ∃ cs : List Int, d = .lst (dis cs) ∧ cs ≠ [] ∧ cs.length ≤ 3) (em_fn (S := fun ds _ _ _ => ds = [.lf (dis ns), .int 3]) (eam_post (eam_pure (ds := [.lf (dis ns), .int 3]) (ea_cons (ev_var rfl) (ea_cons ev_int ea_nil)) (fun _ _ _ _ _ _ _ => True.intro)) fun ds W O H h => h.1) fun ds W O H h => ⟨ns, h, hn, fun d H' q _ _ => q⟩) fun d => ?_
  refine sm_told (A := ∃ cs : List Int, d = .lst (dis cs) ∧ cs ≠ [] ∧ cs.length ≤ 3) (fun W O H h => h) fun ⟨cs, ed, hne, hl⟩ => ?_
  subst ed
  refine sm_pre (P := fun _ _ _ => True) ?_ fun _ _ _ _ => True.intro
  refine sm_ret (em_post (em_pure (d := .bl true) (EvD.is (ev_cb1 (ev_lcY (b := DV.bl) (as := List.range cs.length) (a := fun k : Nat => DV.int (k : Int)) (fun _ => true) (it_range (n := cs.length) (EvD.is (ev_lenS L (ev_var rfl) (.inl rfl)) (by rw [List.length_map])) (by omega)) (by rw [List.length_range]; omega) (by decide) fun k hk => ⟨_, tg_name, ev_rightB (ea_cons (ev_var rfl) (ea_cons (ev_var rfl) ea_nil)) (List.mem_range.mp hk)⟩) rc_all) (by rw [all_yes])) (fun _ _ _ _ _ _ _ => True.intro)) fun d W O H h => h.1)
end
end Dt
set_option Elab.async false
set_option linter.all false
set_option maxRecDepth 100000
set_option maxHeartbeats 0
/-! The head: what the top has left, looked at once. Printed by gen.py. -/
namespace Dt
open PySem PySem.Spec PyProof.Rows L2
/-- a def: where it stands, its name, its qualified name, its text -/
structure PD where
  ad : Frag → Addr
  name : Str
  qual : Str
  st : Stmt
def gA (x : Str) (K : Frag) : Addr := He.ga K x
def mA (c m : Str) (K : Frag) : Addr := He.ma K (He.ga K c) m
/-- the getter of the property at p -/
def getA (K : Frag) (p : Addr) : Addr := match PySem.W.recIn K p "property" with
  | some (.ref g :: _) => g
  | _ => 0
def pA (c f : Str) (K : Frag) : Addr := getA K (mA c f K)
def loose0 : List Str := ["_wall", "__name__", "DIGITS", "number_in", "__name__", "bought_by_heap", "first_sums", "both_sums", "heap_against", "heap_within", "heap_compare", "bends", "most_over", "__name__", "bought", "spilled", "__name__", "never_more", "gap", "span_in", "spans_against", "against", "is_butt", "is_against", "never_more_between"]
def loose1 : List Str := ["most_more", "most_more_butt", "alike", "compare", "spill_heap", "never_spills_more", "__name__", "ButtError", "BadRun", "BadText", "NoPlace", "NothingDone", "__name__", "BLANK", "SIGNS", "run_text", "runs_text", "run_in", "runs_from", "__name__", "MOST_RUNS", "PAIR", "Year", "is_turn", "ring_of"]
def loose2 : List Str := ["swings_of", "opposite", "scaled", "__name__", "ONE", "check_place", "put_in", "passed", "all_put", "best_place", "best_for_all", "worst_for_all", "passes", "Watch", "__name__", "swings", "__name__", "_law_box", "_law_take", "_law_cells", "_law_of", "_law_same", "_law_runs", "_law_walk", "_law_long"]
def loose3 : List Str := ["_law_two", "_law_sums", "_law_two_right", "_law_three_right", "_law_put_right", "_law_watch_right", "_law_by_hand_right", "_law_right"]
def loose : List Str := loose0 ++ loose1 ++ loose2 ++ loose3
def allDefs0 : List PD := [⟨gA "bought_by_heap", "bought_by_heap", "bought_by_heap", s_bought_by_heap⟩, ⟨gA "first_sums", "first_sums", "first_sums", s_first_sums⟩, ⟨gA "both_sums", "both_sums", "both_sums", s_both_sums⟩, ⟨gA "heap_against", "heap_against", "heap_against", s_heap_against⟩, ⟨gA "heap_within", "heap_within", "heap_within", s_heap_within⟩, ⟨gA "heap_compare", "heap_compare", "heap_compare", s_heap_compare⟩, ⟨gA "bends", "bends", "bends", s_bends⟩, ⟨gA "most_over", "most_over", "most_over", s_most_over⟩, ⟨gA "bought", "bought", "bought", s_bought⟩, ⟨gA "spilled", "spilled", "spilled", s_spilled⟩, ⟨gA "never_more", "never_more", "never_more", s_never_more⟩, ⟨gA "gap", "gap", "gap", s_gap⟩, ⟨gA "span_in", "span_in", "span_in", s_span_in⟩, ⟨gA "spans_against", "spans_against", "spans_against", s_spans_against⟩, ⟨gA "against", "against", "against", s_against⟩, ⟨gA "is_butt", "is_butt", "is_butt", s_is_butt⟩, ⟨gA "is_against", "is_against", "is_against", s_is_against⟩, ⟨gA "never_more_between", "never_more_between", "never_more_between", s_never_more_between⟩, ⟨gA "most_more", "most_more", "most_more", s_most_more⟩, ⟨gA "most_more_butt", "most_more_butt", "most_more_butt", s_most_more_butt⟩, ⟨gA "alike", "alike", "alike", s_alike⟩, ⟨gA "compare", "compare", "compare", s_compare⟩, ⟨gA "spill_heap", "spill_heap", "spill_heap", s_spill_heap⟩, ⟨gA "never_spills_more", "never_spills_more", "never_spills_more", s_never_spills_more⟩, ⟨gA "is_turn", "is_turn", "is_turn", s_is_turn⟩]
def allDefs1 : List PD := [⟨gA "ring_of", "ring_of", "ring_of", s_ring_of⟩, ⟨gA "swings_of", "swings_of", "swings_of", s_swings_of⟩, ⟨gA "opposite", "opposite", "opposite", s_opposite⟩, ⟨gA "scaled", "scaled", "scaled", s_scaled⟩, ⟨gA "check_place", "check_place", "check_place", s_check_place⟩, ⟨gA "put_in", "put_in", "put_in", s_put_in⟩, ⟨gA "passed", "passed", "passed", s_passed⟩, ⟨gA "all_put", "all_put", "all_put", s_all_put⟩, ⟨gA "best_place", "best_place", "best_place", s_best_place⟩, ⟨gA "best_for_all", "best_for_all", "best_for_all", s_best_for_all⟩, ⟨gA "worst_for_all", "worst_for_all", "worst_for_all", s_worst_for_all⟩, ⟨gA "passes", "passes", "passes", s_passes⟩, ⟨gA "swings", "swings", "swings", s_swings⟩, ⟨gA "_law_box", "_law_box", "_law_box", s__law_box⟩, ⟨gA "_law_take", "_law_take", "_law_take", s__law_take⟩, ⟨gA "_law_cells", "_law_cells", "_law_cells", s__law_cells⟩, ⟨gA "_law_of", "_law_of", "_law_of", s__law_of⟩, ⟨gA "_law_same", "_law_same", "_law_same", s__law_same⟩, ⟨gA "_law_runs", "_law_runs", "_law_runs", s__law_runs⟩, ⟨gA "_law_walk", "_law_walk", "_law_walk", s__law_walk⟩, ⟨gA "_law_long", "_law_long", "_law_long", s__law_long⟩, ⟨gA "_law_two", "_law_two", "_law_two", s__law_two⟩, ⟨gA "_law_sums", "_law_sums", "_law_sums", s__law_sums⟩, ⟨gA "_law_two_right", "_law_two_right", "_law_two_right", s__law_two_right⟩, ⟨gA "_law_three_right", "_law_three_right", "_law_three_right", s__law_three_right⟩]
def allDefs2 : List PD := [⟨gA "_law_put_right", "_law_put_right", "_law_put_right", s__law_put_right⟩, ⟨gA "_law_watch_right", "_law_watch_right", "_law_watch_right", s__law_watch_right⟩, ⟨gA "_law_by_hand_right", "_law_by_hand_right", "_law_by_hand_right", s__law_by_hand_right⟩, ⟨gA "_law_right", "_law_right", "_law_right", s__law_right⟩, ⟨gA "law", "law", "law", s_law⟩, ⟨mA "Year" "__init__", "__init__", "Year.__init__", s_Year___init__⟩, ⟨pA "Year" "runs", "runs", "Year.runs", s_Year_runs⟩, ⟨pA "Year" "rain", "rain", "Year.rain", s_Year_rain⟩, ⟨pA "Year" "draws", "draws", "Year.draws", s_Year_draws⟩, ⟨pA "Year" "wants", "wants", "Year.wants", s_Year_wants⟩, ⟨pA "Year" "spare", "spare", "Year.spare", s_Year_spare⟩, ⟨pA "Year" "swings", "swings", "Year.swings", s_Year_swings⟩, ⟨pA "Year" "heap", "heap", "Year.heap", s_Year_heap⟩, ⟨mA "Year" "__len__", "__len__", "Year.__len__", s_Year___len__⟩, ⟨mA "Year" "__eq__", "__eq__", "Year.__eq__", s_Year___eq__⟩, ⟨mA "Watch" "__init__", "__init__", "Watch.__init__", s_Watch___init__⟩, ⟨mA "Watch" "here", "here", "Watch.here", s_Watch_here⟩, ⟨pA "Watch" "one", "one", "Watch.one", s_Watch_one⟩, ⟨pA "Watch" "other", "other", "Watch.other", s_Watch_other⟩, ⟨pA "Watch" "leads", "leads", "Watch.leads", s_Watch_leads⟩, ⟨mA "Watch" "year_of", "year_of", "Watch.year_of", s_Watch_year_of⟩, ⟨mA "Watch" "become", "become", "Watch.become", s_Watch_become⟩, ⟨mA "Watch" "put", "put", "Watch.put", s_Watch_put⟩, ⟨mA "Watch" "exchange", "exchange", "Watch.exchange", s_Watch_exchange⟩, ⟨mA "Watch" "back", "back", "Watch.back", s_Watch_back⟩]
def allDefs : List PD := allDefs0 ++ allDefs1 ++ allDefs2
def glos0 : List Str := ["bought_by_heap", "first_sums", "both_sums", "heap_against", "heap_within", "heap_compare", "bends", "most_over", "bought", "spilled", "never_more", "gap", "span_in", "spans_against", "against", "is_butt", "is_against", "never_more_between", "most_more", "most_more_butt", "alike", "compare", "spill_heap", "never_spills_more", "is_turn"]
def glos1 : List Str := ["ring_of", "swings_of", "opposite", "scaled", "check_place", "put_in", "passed", "all_put", "best_place", "best_for_all", "worst_for_all", "passes", "swings", "_law_box", "_law_take", "_law_cells", "_law_of", "_law_same", "_law_runs", "_law_walk", "_law_long", "_law_two", "_law_sums", "_law_two_right", "_law_three_right"]
def glos2 : List Str := ["_law_put_right", "_law_watch_right", "_law_by_hand_right", "_law_right", "law", "Year", "Watch"]
def glos : List Str := glos0 ++ glos1 ++ glos2
def frees0 : List Str := ["len", "sum", "max", "min", "any", "all", "abs", "int", "list", "tuple", "sorted", "set", "isinstance", "zip", "range", "enumerate", "bool", "str"]
def frees : List Str := frees0
/-! looking -/
def tell (K : Frag) (d : PD) : He.FnW := match K.lookup (d.ad K) with
  | some ⟨_, _, .func fd, _⟩ => some (fd.name, fd.qualname, fd.params, fd.body, fd.scope, fd.globals, fd.closure, fd.builtins)
  | _ => none
def PD.due (d : PD) : He.FnW := some (d.name, d.qual, defArgs d.st, .stmts (defBody d.st), defScope d.st, mainGlobals, [], builtinsNs)
def PD.fine (K : Frag) (d : PD) : Bool := PySem.W.keepIn K (.ref (d.ad K)) && (match K.lookup (d.ad K) with
  | some ⟨_, _, .func fd, _⟩ => PySem.W.codeIn K fd.code d.qual && (He.dflB K fd.defaults [] && He.kwdB K fd.kwdefaults [])
  | _ => false)
theorem PD.fnP {K : Frag} {d : PD} (e : tell K d = d.due) (c : d.fine K = true) : ∃ fd, FnP K d.name d.qual d.st (d.ad K) fd := by
  obtain ⟨kp, c2⟩ := He.ba c
  unfold tell at e
  cases q : K.lookup (d.ad K) with
  | none => rw [q] at c2; cases c2
  | some o =>
    obtain ⟨oc, od, dt, osl⟩ := o
    rw [q] at c2 e
    cases dt with
    | func fd =>
      obtain ⟨a1, a2, a3, a4, a5, a6, a7, a8, a9, b1, b2, b3, b4, b5, b6⟩ := fd
      have e2 : (some (a1, a2, a3, a4, a5, a6, a7, b6) : He.FnW) = some (d.name, d.qual, defArgs d.st, .stmts (defBody d.st), defScope d.st, mainGlobals, [], builtinsNs) := e
      simp only [Option.some.injEq, Prod.mk.injEq] at e2
      obtain ⟨i1, i2, i3, i4, i5, i6, i7, i8⟩ := e2
      subst i1 i2 i3 i4 i5 i6 i7 i8
      obtain ⟨k1, k2⟩ := He.ba (show (PySem.W.codeIn K b4 d.qual && (He.dflB K a8 [] && He.kwdB K a9 [])) = true from c2)
      obtain ⟨k3, k4⟩ := He.ba k2
      exact ⟨_, ⟨oc, od, a8, a9, b1, b2, b3, b4, b5, osl, rfl, q, k1, He.dflB_ok k3, He.kwdB_ok k4⟩, kp⟩
    | _ => cases c2
def slB (c f : Str) (i : Nat) (K : Frag) : Bool := He.eqO (PySem.W.findIn K (.ref (gA c K)) f) (some (some (.ref (mA c f K)))) && (He.eqO (PySem.W.specialIn K (.ref (mA c f K)) "__get__") (some (some (.builtin "member_descriptor.__get__"))) && (decide (PySem.W.takesIn K (.ref (mA c f K)) = some true) && (decide (PySem.W.typeIn K (.ref (mA c f K)) = some (.type "member_descriptor")) && decide (PySem.W.slotIn K (mA c f K) (gA c K) = some i))))
theorem slB_ok {c f : Str} {i : Nat} {K : Frag} (h : slB c f i K = true) (hi : i < 1000) : ∃ p, SlX.Slot1 K (gA c K) f p i := by
  obtain ⟨h1, h⟩ := He.ba h
  obtain ⟨h2, h⟩ := He.ba h
  obtain ⟨h3, h⟩ := He.ba h
  obtain ⟨h4, h5⟩ := He.ba h
  exact ⟨_, He.eqO_ok h1, He.eqO_ok h2, of_decide_eq_true h3, of_decide_eq_true h4, of_decide_eq_true h5, hi⟩
def prB (K : Frag) (z : Str × Str) : Bool := He.eqO (PySem.W.findIn K (.ref (gA z.1 K)) z.2) (some (some (.ref (mA z.1 z.2 K)))) && (He.eqO (PySem.W.specialIn K (.ref (mA z.1 z.2 K)) "__get__") (some (some (.builtin "property.__get__"))) && (decide (PySem.W.takesIn K (.ref (mA z.1 z.2 K)) = some true) && (match PySem.W.recIn K (mA z.1 z.2 K) "property" with
  | some (.ref _ :: _) => true
  | _ => false)))
theorem getA_ok {K : Frag} {p : Addr} (h : (match PySem.W.recIn K p "property" with
  | some (.ref _ :: _) => true
  | _ => false) = true) : ∃ rest, PySem.W.recIn K p "property" = some (.ref (getA K p) :: rest) := by
  unfold getA
  cases q : PySem.W.recIn K p "property" with
  | none => rw [q] at h; cases h
  | some l =>
    rw [q] at h
    cases l with
    | nil => cases h
    | cons v l =>
      cases v with
      | ref g => exact ⟨l, rfl⟩
      | _ => cases h
def props : List (Str × Str) := [("Year", "runs"), ("Year", "rain"), ("Year", "draws"), ("Year", "wants"), ("Year", "spare"), ("Year", "swings"), ("Year", "heap"), ("Watch", "one"), ("Watch", "other"), ("Watch", "leads")]
def meths : List Str := ["here", "year_of", "become", "put", "exchange", "back"]
def sclB (c : Str) (K : Frag) : Bool := PySem.W.plainGet K (gA c K) Str.empty && (PySem.W.isClsIn K (gA c K) && (PySem.W.plainOver K (gA c K) && He.eqO (PySem.W.findIn K (.ref (gA c K)) "__setattr__") (some (some (.builtin "object.__setattr__")))))
def sisB (c : Str) (K : Frag) : Bool := He.eqO (PySem.W.findIn K (.ref (gA c K)) "__class__") (some (some (.builtin "object.__class__"))) && (He.eqO (PySem.W.specialIn K (.builtin "object.__class__") "__get__") (some (some (.builtin "getset_descriptor.__get__"))) && (decide (PySem.W.takesIn K (.builtin "object.__class__") = some true) && decide (PySem.W.mroIn K (gA c K) (.type "object") = some true)))
def yearB (K : Frag) : Bool := sclB "Year" K && (sisB "Year" K && (decide (PySem.W.kitOne K (.ref (gA "Year" K)) (.ref (gA "Year" K)) = some true) && (slB "Year" "own_runs" 0 K && (slB "Year" "own_swings" 1 K && ((He.Fa.mkr "Year").ok K && ((He.Fa.meth "Year" "__len__").ok K && ((He.Fa.meth "Year" "__eq__").ok K && (He.eqO (PySem.W.findIn K (.ref (gA "Year" K)) "__ne__") (some (some (.builtin "object.__ne__"))) && PySem.W.notFirst K (gA "Year" K) (.ref (gA "Year" K))))))))))
def watchB (K : Frag) : Bool := (He.Fa.cls "Watch").ok K && ((He.Fa.noat "Watch" "own_first").ok K && ((He.Fa.noat "Watch" "own_rows").ok K && (He.Fa.mkr "Watch").ok K))
def lookB (K : Frag) : Bool := (glos.all fun x => (He.Fa.glo x).ok K) && ((frees.all fun x => (He.Fa.free x).ok K) && ((He.Fa.int "PAIR" 2).ok K && ((He.Fa.str "ONE" "one").ok K && (yearB K && (watchB K && (props.all (prB K) && (meths.all (fun m => (He.Fa.meth "Watch" m).ok K) && allDefs.all (PD.fine K))))))))
abbrev AlP : Type := Bool × List He.FnW
def obsP (K : Frag) : AlP := (lookB K, allDefs.map (tell K))
def valP : AlP := (true, allDefs.map PD.due)
def SaysP (K : Frag) : Prop := obsP K = valP
/-! where is looked -/
def codes (g : Addr → Option Obj) (as : List Addr) : List Addr := as.flatMap fun a => match g a with
  | some ⟨_, _, .func fd, _⟩ => He.refV fd.code
  | _ => []
def spaces (g : Addr → Option Obj) (as : List Addr) : List Addr := as.flatMap fun a => match g a with
  | some ⟨_, _, .cls cd, _⟩ => [cd.ns]
  | _ => []
def inside (g : Addr → Option Obj) (as : List Addr) : List Addr := as.flatMap fun a => match g a with
  | some ⟨_, _, .dict es _, _⟩ => es.toList.flatMap fun e => He.refV e.val
  | some ⟨_, _, .fields vs, _⟩ => vs.toList.flatMap He.refV
  | _ => []
def asP (g : Addr → Option Obj) : List Addr :=
  let a1 := inside g [mainGlobals]
  let a2 := spaces g a1
  let a3 := inside g a2
  let a4 := inside g (a3.filter fun a => match g a with
    | some ⟨_, _, .fields _, _⟩ => true
    | _ => false)
  mainGlobals :: (a1 ++ (a2 ++ (a3 ++ (a4 ++ (codes g a1 ++ (codes g a3 ++ codes g a4))))))
def obsPG (g : Addr → Option Obj) : AlP := obsP (He.frG g (asP g))
def hookP : PySem.W.Hook where
  α := AlP
  obs := fun s => obsPG s.heap.get?
  val := fun _ => valP
  says := fun _ h => ∃ K : Frag, K.In h ∧ SaysP K
  of := fun _ _ e => ⟨_, He.frG_in, e⟩
  keeps := fun _ _ _ ⟨K, hK, c⟩ k => ⟨K, PySem.W.Frag.In.keeps hK k, c⟩
def obP (s : PySem.W.SharedT) : AlP := obsPG (HandSHeadRun.getT s)
theorem obP_eq (s : PySem.W.SharedT) : obP s = hookP.obs s.abs := by
  have e : HandSHeadRun.getT s = s.abs.heap.get? := funext (HandSHeadRun.getT_eq s)
  show obsPG (HandSHeadRun.getT s) = obsPG s.abs.heap.get?
  rw [e]
/-! what is seen -/
section
variable {K : Frag} {h : Heap} {mg : Str → Option Value}
theorem SaysP.look (c : SaysP K) : lookB K = true := congrArg (fun z : AlP => z.1) c
theorem SaysP.parts (c : SaysP K) : (glos.all fun x => (He.Fa.glo x).ok K) = true ∧ (frees.all fun x => (He.Fa.free x).ok K) = true ∧ (He.Fa.int "PAIR" 2).ok K = true ∧ (He.Fa.str "ONE" "one").ok K = true ∧ yearB K = true ∧ watchB K = true ∧ props.all (prB K) = true ∧ (meths.all fun m => (He.Fa.meth "Watch" m).ok K) = true ∧ allDefs.all (PD.fine K) = true := by
  obtain ⟨h1, q⟩ := He.ba c.look
  obtain ⟨h2, q⟩ := He.ba q
  obtain ⟨h3, q⟩ := He.ba q
  obtain ⟨h4, q⟩ := He.ba q
  obtain ⟨h5, q⟩ := He.ba q
  obtain ⟨h6, q⟩ := He.ba q
  obtain ⟨h7, q⟩ := He.ba q
  obtain ⟨h8, h9⟩ := He.ba q
  exact ⟨h1, h2, h3, h4, h5, h6, h7, h8, h9⟩
theorem SaysP.fnP (c : SaysP K) (i : Nat) {d : PD} (hi : allDefs[i]? = some d) : ∃ fd, FnP K d.name d.qual d.st (d.ad K) fd := by
  have e : allDefs.map (tell K) = allDefs.map PD.due := congrArg (fun z : AlP => z.2) c
  have e2 : (allDefs.map (tell K))[i]? = (allDefs.map PD.due)[i]? := by rw [e]
  rw [List.getElem?_map, List.getElem?_map, hi] at e2
  exact PD.fnP (Option.some.inj e2) (List.all_eq_true.mp c.parts.2.2.2.2.2.2.2.2 d (List.mem_of_getElem? hi))
theorem SaysP.glo (c : SaysP K) (X : K.In h) (G : h.Ns mainGlobals mg) (i : Nat) {x : Str} (hi : glos[i]? = some x) : mg x = some (.ref (gA x K)) := He.glo_ok X G (List.all_eq_true.mp c.parts.1 x (List.mem_of_getElem? hi))
theorem SaysP.free (c : SaysP K) (X : K.In h) (G : h.Ns mainGlobals mg) (i : Nat) {x : Str} (hi : frees[i]? = some x) : mg x = none := He.free_ok X G (List.all_eq_true.mp c.parts.2.1 x (List.mem_of_getElem? hi))
theorem SaysP.at_ (c : SaysP K) (X : K.In h) (G : h.Ns mainGlobals mg) (i j : Nat) {x : Str} {st : Stmt} (hi : allDefs[i]? = some ⟨gA x, x, x, st⟩) (hj : glos[j]? = some x) : At K mg x st := by
  obtain ⟨fd, F⟩ := c.fnP i hi
  exact ⟨_, fd, F, c.glo X G j hj⟩
theorem SaysP.pair (c : SaysP K) : (He.Fa.int "PAIR" 2).ok K = true := c.parts.2.2.1
theorem SaysP.one (c : SaysP K) : (He.Fa.str "ONE" "one").ok K = true := c.parts.2.2.2.1
theorem SaysP.year (c : SaysP K) : SlX.SCls K (gA "Year" K) ∧ SlX.SIsi K (gA "Year" K) ∧ PySem.W.kitOne K (.ref (gA "Year" K)) (.ref (gA "Year" K)) = some true ∧ (∃ p, SlX.Slot1 K (gA "Year" K) "own_runs" p 0) ∧ (∃ p, SlX.Slot1 K (gA "Year" K) "own_swings" p 1) ∧
    Mk K (gA "Year" K) (mA "Year" "__init__" K) ∧ Meth K (gA "Year" K) "__len__" (mA "Year" "__len__" K) ∧ Meth K (gA "Year" K) "__eq__" (mA "Year" "__eq__" K) ∧ PySem.W.findIn K (.ref (gA "Year" K)) "__ne__" = some (some (.builtin "object.__ne__")) ∧ PySem.W.notFirst K (gA "Year" K) (.ref (gA "Year" K)) = true := by
  obtain ⟨a1, q⟩ := He.ba c.parts.2.2.2.2.1
  obtain ⟨a2, q⟩ := He.ba q
  obtain ⟨a3, q⟩ := He.ba q
  obtain ⟨a4, q⟩ := He.ba q
  obtain ⟨a5, q⟩ := He.ba q
  obtain ⟨a6, q⟩ := He.ba q
  obtain ⟨a7, q⟩ := He.ba q
  obtain ⟨a8, q⟩ := He.ba q
  obtain ⟨a9, a10⟩ := He.ba q
  obtain ⟨b1, q⟩ := He.ba a1
  obtain ⟨b2, q⟩ := He.ba q
  obtain ⟨b3, b4⟩ := He.ba q
  obtain ⟨d1, q⟩ := He.ba a2
  obtain ⟨d2, q⟩ := He.ba q
  obtain ⟨d3, d4⟩ := He.ba q
  exact ⟨⟨b1, b2, b3, He.eqO_ok b4⟩, ⟨He.eqO_ok d1, He.eqO_ok d2, of_decide_eq_true d3, of_decide_eq_true d4⟩, of_decide_eq_true a3, slB_ok a4 (by decide), slB_ok a5 (by decide), He.mkr_ok a6, He.meth_ok a7, He.meth_ok a8, He.eqO_ok a9, a10⟩
theorem SaysP.watch (c : SaysP K) : Cls K (gA "Watch" K) ∧ NoAttr K (gA "Watch" K) "own_first" ∧ NoAttr K (gA "Watch" K) "own_rows" ∧ Mk K (gA "Watch" K) (mA "Watch" "__init__" K) := by
  obtain ⟨a1, q⟩ := He.ba c.parts.2.2.2.2.2.1
  obtain ⟨a2, q⟩ := He.ba q
  obtain ⟨a3, a4⟩ := He.ba q
  exact ⟨He.cls_ok a1, He.noat_ok a2, He.noat_ok a3, He.mkr_ok a4⟩
theorem SaysP.mk {C : Addr} {x m q : Str} {st : Stmt} (c : SaysP K) (M : Mk K C (mA x m K)) (i : Nat) (hi : allDefs[i]? = some ⟨mA x m, m, q, st⟩) : ∃ (f : Addr) (fd : FuncData), Mk K C f ∧ FnP K m q st f fd := by
  obtain ⟨fd, F⟩ := c.fnP i hi
  exact ⟨_, fd, M, F⟩
theorem SaysP.me {C : Addr} {x m q : Str} {st : Stmt} (c : SaysP K) (M : Meth K C m (mA x m K)) (i : Nat) (hi : allDefs[i]? = some ⟨mA x m, m, q, st⟩) : MeAt K C m q st := by
  obtain ⟨fd, F⟩ := c.fnP i hi
  exact ⟨_, fd, M, F⟩
theorem SaysP.meth (c : SaysP K) (x m : Str) (i : Nat) (hi : meths[i]? = some m) (hx : x = "Watch" := by rfl) : Meth K (gA x K) m (mA x m K) := by
  subst hx
  exact He.meth_ok (List.all_eq_true.mp c.parts.2.2.2.2.2.2.2.1 m (List.mem_of_getElem? hi))
theorem SaysP.prop (c : SaysP K) (x f : Str) (i : Nat) (hi : props[i]? = some (x, f)) : prB K (x, f) = true := List.all_eq_true.mp c.parts.2.2.2.2.2.2.1 _ (List.mem_of_getElem? hi)
theorem SaysP.pr {x f q : Str} {st : Stmt} (c : SaysP K) (M : prB K (x, f) = true) (i : Nat) (hi : allDefs[i]? = some ⟨pA x f, f, q, st⟩) : PrAt K (gA x K) f q st := by
  obtain ⟨fd, F⟩ := c.fnP i hi
  obtain ⟨a1, r⟩ := He.ba M
  obtain ⟨a2, r⟩ := He.ba r
  obtain ⟨a3, a4⟩ := He.ba r
  exact ⟨mA x f K, _, fd, He.eqO_ok a1, He.eqO_ok a2, of_decide_eq_true a3, getA_ok a4, F⟩
end
theorem loc_of {K : Frag} {h : Heap} {mg : Str → Option Value} (X : K.In h) (G : h.Ns mainGlobals mg) (c : SaysP K) : Loc K mg (gA "Year" K) (gA "Watch" K) where
  l_bought_by_heap := c.at_ X G 0 0 rfl rfl
  l_first_sums := c.at_ X G 1 1 rfl rfl
  l_both_sums := c.at_ X G 2 2 rfl rfl
  l_heap_against := c.at_ X G 3 3 rfl rfl
  l_heap_within := c.at_ X G 4 4 rfl rfl
  l_heap_compare := c.at_ X G 5 5 rfl rfl
  l_bends := c.at_ X G 6 6 rfl rfl
  l_most_over := c.at_ X G 7 7 rfl rfl
  l_bought := c.at_ X G 8 8 rfl rfl
  l_spilled := c.at_ X G 9 9 rfl rfl
  l_never_more := c.at_ X G 10 10 rfl rfl
  l_gap := c.at_ X G 11 11 rfl rfl
  l_span_in := c.at_ X G 12 12 rfl rfl
  l_spans_against := c.at_ X G 13 13 rfl rfl
  l_against := c.at_ X G 14 14 rfl rfl
  l_is_butt := c.at_ X G 15 15 rfl rfl
  l_is_against := c.at_ X G 16 16 rfl rfl
  l_never_more_between := c.at_ X G 17 17 rfl rfl
  l_most_more := c.at_ X G 18 18 rfl rfl
  l_most_more_butt := c.at_ X G 19 19 rfl rfl
  l_alike := c.at_ X G 20 20 rfl rfl
  l_compare := c.at_ X G 21 21 rfl rfl
  l_spill_heap := c.at_ X G 22 22 rfl rfl
  l_never_spills_more := c.at_ X G 23 23 rfl rfl
  l_is_turn := c.at_ X G 24 24 rfl rfl
  l_ring_of := c.at_ X G 25 25 rfl rfl
  l_swings_of := c.at_ X G 26 26 rfl rfl
  l_opposite := c.at_ X G 27 27 rfl rfl
  l_scaled := c.at_ X G 28 28 rfl rfl
  l_check_place := c.at_ X G 29 29 rfl rfl
  l_put_in := c.at_ X G 30 30 rfl rfl
  l_passed := c.at_ X G 31 31 rfl rfl
  l_all_put := c.at_ X G 32 32 rfl rfl
  l_best_place := c.at_ X G 33 33 rfl rfl
  l_best_for_all := c.at_ X G 34 34 rfl rfl
  l_worst_for_all := c.at_ X G 35 35 rfl rfl
  l_passes := c.at_ X G 36 36 rfl rfl
  l_swings := c.at_ X G 37 37 rfl rfl
  l__law_box := c.at_ X G 38 38 rfl rfl
  l__law_take := c.at_ X G 39 39 rfl rfl
  l__law_cells := c.at_ X G 40 40 rfl rfl
  l__law_of := c.at_ X G 41 41 rfl rfl
  l__law_same := c.at_ X G 42 42 rfl rfl
  l__law_runs := c.at_ X G 43 43 rfl rfl
  l__law_walk := c.at_ X G 44 44 rfl rfl
  l__law_long := c.at_ X G 45 45 rfl rfl
  l__law_two := c.at_ X G 46 46 rfl rfl
  l__law_sums := c.at_ X G 47 47 rfl rfl
  l__law_two_right := c.at_ X G 48 48 rfl rfl
  l__law_three_right := c.at_ X G 49 49 rfl rfl
  l__law_put_right := c.at_ X G 50 50 rfl rfl
  l__law_watch_right := c.at_ X G 51 51 rfl rfl
  l__law_by_hand_right := c.at_ X G 52 52 rfl rfl
  l__law_right := c.at_ X G 53 53 rfl rfl
  l_law := c.at_ X G 54 54 rfl rfl
  b_len := c.free X G 0 rfl
  b_sum := c.free X G 1 rfl
  b_max := c.free X G 2 rfl
  b_min := c.free X G 3 rfl
  b_any := c.free X G 4 rfl
  b_all := c.free X G 5 rfl
  b_abs := c.free X G 6 rfl
  b_int := c.free X G 7 rfl
  b_list := c.free X G 8 rfl
  b_tuple := c.free X G 9 rfl
  b_sorted := c.free X G 10 rfl
  b_set := c.free X G 11 rfl
  b_isinstance := c.free X G 12 rfl
  b_zip := c.free X G 13 rfl
  b_range := c.free X G 14 rfl
  b_enumerate := c.free X G 15 rfl
  b_bool := c.free X G 16 rfl
  b_str := c.free X G 17 rfl
  c_PAIR := He.int_ok X G c.pair
  c_ONE := He.str_ok X G c.one
  mgY := c.glo X G 55 rfl
  ycls := c.year.1
  yisi := c.year.2.1
  ykit := c.year.2.2.1
  y_s0 := c.year.2.2.2.1
  y_s1 := c.year.2.2.2.2.1
  y_mk := c.mk (c.year.2.2.2.2.2.1) 55 rfl
  y_runs := c.pr (c.prop "Year" "runs" 0 rfl) 56 rfl
  y_rain := c.pr (c.prop "Year" "rain" 1 rfl) 57 rfl
  y_draws := c.pr (c.prop "Year" "draws" 2 rfl) 58 rfl
  y_wants := c.pr (c.prop "Year" "wants" 3 rfl) 59 rfl
  y_spare := c.pr (c.prop "Year" "spare" 4 rfl) 60 rfl
  y_swings := c.pr (c.prop "Year" "swings" 5 rfl) 61 rfl
  y_heap := c.pr (c.prop "Year" "heap" 6 rfl) 62 rfl
  y_len := c.me (c.year.2.2.2.2.2.2.1) 63 rfl
  y_eq := c.me (c.year.2.2.2.2.2.2.2.1) 64 rfl
  y_ne := c.year.2.2.2.2.2.2.2.2.1
  y_nf := c.year.2.2.2.2.2.2.2.2.2
  mgW := c.glo X G 56 rfl
  wcls := c.watch.1
  w_n1 := c.watch.2.1
  w_n2 := c.watch.2.2.1
  w_mk := c.mk c.watch.2.2.2 65 rfl
  w_one := c.pr (c.prop "Watch" "one" 7 rfl) 67 rfl
  w_other := c.pr (c.prop "Watch" "other" 8 rfl) 68 rfl
  w_leads := c.pr (c.prop "Watch" "leads" 9 rfl) 69 rfl
  w_here := c.me (c.meth "Watch" "here" 0 rfl) 66 rfl
  w_year_of := c.me (c.meth "Watch" "year_of" 1 rfl) 70 rfl
  w_become := c.me (c.meth "Watch" "become" 2 rfl) 71 rfl
  w_put := c.me (c.meth "Watch" "put" 3 rfl) 72 rfl
  w_exchange := c.me (c.meth "Watch" "exchange" 4 rfl) 73 rfl
  w_back := c.me (c.meth "Watch" "back" 5 rfl) 74 rfl
/-! the run -/
abbrev rowP : PySem.W.OpenRow := PySem.W.OpenLaw.row PySem.Challenge.rw_allbutts_k70_whole_two_years_for_all_but
theorem runP (w : World) : HandSHeadRun.RunEq rowP (PySem.W.view rowP.prog [83]) hookP obP 5400 loose w := by
  intro os
  kernel_rfl
theorem facts {P : Program} {w : World} {K : Frag} {h : Heap} {mg : Str → Option Value} {f : Addr} (X : K.In h) (G : h.Ns mainGlobals mg) (hfa : mg ("law" : Str) = some (.ref f)) (c : SaysP K) :
    ∃ fd : FuncData, (∀ (s : Shared) (v : Value), BindsTo s fd ⟨[v], []⟩ [("_law_script", v)]) ∧ ∀ base : Heap, K.In base → base.Ns mainGlobals mg → FnOk P w K mg base CX0 17 f fd ["_law_script"] (spD K (gA "Year" K) F_law) := by
  have L := loc_of X G c
  obtain ⟨f', fd, F, hm⟩ := L.l_law
  have e := hfa.symm.trans hm
  cases e
  have b := FunD.bindsA (ps := ["_law_script"]) F fun _ _ _ _ _ _ us hl => match us, hl with | [_], _ => rfl
  exact ⟨fd, fun s v => b s [v] rfl, fun base _ _ => ok_law L F⟩
theorem sp_law {K : Frag} {C : Addr} {H : Hp} {a : Addr} {ns : List Int} (hl : ns.length ≤ 63) (hS : SqL K H a (ns.map V.int)) : spD K C F_law [.ref a] H (fun v _ => v = .bl true) fun _ _ _ => False :=
  ⟨fun _ => false, _, _, (fun a z => nomatch z), ⟨ns, hl, rfl, rfl⟩, .cons (by rw [msk_none]; exact .lf hS (.of_ints K C H ns)) .nil, fun v H' _ r => r.bl_eq⟩
end Dt
open PySem PySem.W PySem.Calls PyProof.Rows
theorem PySem.Challenge.cw_allbutts_k70_whole_two_years_for_all_but_holds : PySem.Challenge.rw_allbutts_k70_whole_two_years_for_all_but.Holds := by
  w_on; o_law
  refine HandSHeadRun.head_any (r := Dt.rowP) (q := view Dt.rowP.prog [83]) (H := Dt.hookP) (ob := Dt.obP) (M := 5400) (loose := Dt.loose) (d := HandSHeadRun.topDef Dt.rowP.prog 83) (kwd := []) Dt.obP_eq
    (by kernel_rfl) (fun s => by kernel_rfl) Dt.runP (by kernel_rfl) (by kernel_rfl) (by kernel_rfl) (by rfl) (by first | assumption | decide +kernel) (by decide +kernel) ⟨rfl, rfl, rfl, rfl, rfl, by decide +kernel⟩ ?hw ?hc
  case hw => w_witness2
  case hc =>
    refine L2.walk_ofE (l := PySem.Challenge.rw_allbutts_k70_whole_two_years_for_all_but) (n := 63) (k := 17) (x := "_law_script") (CX := L2.CX0) rfl (by decide) (by kernel_rfl) ⟨rfl, by decide, by decide⟩ ?F (fun _ _ _ _ z => z)
    intro w mg fa h Y G hmg0
    obtain ⟨K, KX, c⟩ := Y
    have hmg : mg ("law" : PySem.Str) = some (.ref fa) := by
      have e : (HandSHeadRun.topDef Dt.rowP.prog 83).name = ("law" : PySem.Str) := by kernel_rfl
      rw [← e]
      exact hmg0
    obtain ⟨fd, hb, hF⟩ := Dt.facts (P := (PySem.Challenge.rw_allbutts_k70_whole_two_years_for_all_but).prog) (w := w) KX G hmg c
    exact ⟨K, fd, Dt.spD K (Dt.gA "Year" K) Dt.F_law, KX, hb, fun H a ns hl _ hS => Dt.sp_law hl hS, hF⟩
