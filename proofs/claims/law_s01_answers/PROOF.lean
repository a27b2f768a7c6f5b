import PyProof.Rows.All
import Wide.All
import OpenK.AllK
import Wide.FinOn
import Open.SpecLaws
import KE.OsGo
import HandS.ForSpec
import HandS.Text
import PySem.Challenge.RW_lanelight_s01_answers
set_option Elab.async false
set_option maxRecDepth 100000
set_option maxHeartbeats 2000000
/-! The plain law: what the program computes, over plain numbers and lists, and that it is what the specification tells. -/
namespace LL
open Km264

/-! ### numbers of four bytes -/
theorem le_succ (i n : Nat) : le (i + 1) n = le i n ++ [n / 256 ^ i % 256] := by
  unfold le
  rw [List.range_succ, List.map_append]
  rfl
theorem le_zero (n : Nat) : le 0 n = [] := rfl
theorem le_length (i n : Nat) : (le i n).length = i := by
  unfold le
  simp
theorem le4 (n : Nat) : le 4 n = [n % 256, n / 256 % 256, n / 65536 % 256, n / 16777216 % 256] := by
  simp [le, List.range, List.range.loop]
theorem div_pow (i n : Nat) : n / 256 ^ i / 256 = n / 256 ^ (i + 1) := by
  rw [Nat.pow_succ, Nat.div_div_eq_div_mul]
theorem at_zero (l : Bytes) (k : Nat) : at_ l k 0 = 0 := by
  simp [at_]
theorem at_succ {l : Bytes} {k i x : Nat} (h : l[k]? = some x) : at_ l k (i + 1) = at_ l (k + 1) i * 256 + x := by
  obtain ⟨hk, e⟩ := List.getElem?_eq_some_iff.mp h
  unfold at_
  rw [List.drop_eq_getElem_cons hk, List.take_succ_cons, List.foldr_cons, e]
  omega
theorem at_one {l : Bytes} {k x : Nat} (h : l[k]? = some x) : at_ l k 1 = x := by
  rw [at_succ h, at_zero]
  omega

/-! ### the check -/
theorem crcBit_lt {c : Nat} (h : c < 2 ^ 32) : crcBit c < 2 ^ 32 := by
  unfold crcBit
  split
  · exact Nat.xor_lt_two_pow (by omega) (by omega)
  · omega
theorem crcBits_lt : ∀ (l : List Nat) (c : Nat), c < 2 ^ 32 → l.foldl (fun x _ => crcBit x) c < 2 ^ 32
  | [], _, h => h
  | _ :: r, c, h => by
    rw [List.foldl_cons]
    exact crcBits_lt r _ (crcBit_lt h)
theorem crcByte_lt {c b : Nat} (h : c < 2 ^ 32) (hb : b < 2 ^ 32) : crcByte c b < 2 ^ 32 := crcBits_lt _ _ (Nat.xor_lt_two_pow h hb)
theorem crcFold_lt : ∀ (l : Bytes) (c : Nat), c < 2 ^ 32 → (∀ b ∈ l, b < 256) → l.foldl crcByte c < 2 ^ 32
  | [], _, h, _ => h
  | b :: r, c, h, hl => by
    rw [List.foldl_cons]
    exact crcFold_lt r _ (crcByte_lt h (Nat.lt_trans (hl b (List.mem_cons_self ..)) (by decide))) fun x hx => hl x (List.mem_cons_of_mem _ hx)
theorem crc_lt {l : Bytes} (hl : ∀ b ∈ l, b < 256) : crc l < 2 ^ 32 := Nat.xor_lt_two_pow (crcFold_lt l _ (by decide) hl) (by decide)
def bits (c b i : Nat) : Nat := (List.range i).foldl (fun x _ => crcBit x) (c ^^^ b)
theorem bits_zero (c b : Nat) : bits c b 0 = c ^^^ b := rfl
theorem bits_succ (c b i : Nat) : bits c b (i + 1) = crcBit (bits c b i) := by
  unfold bits
  rw [List.range_succ, List.foldl_append]
  rfl
theorem bits_eight (c b : Nat) : bits c b 8 = crcByte c b := rfl
def upTo (l : Bytes) (i : Nat) : Nat := (l.take i).foldl crcByte 0xFFFFFFFF
theorem upTo_zero (l : Bytes) : upTo l 0 = 0xFFFFFFFF := by
  simp [upTo]
theorem take_more {α : Type} {l : List α} {i : Nat} {x : α} (h : l[i]? = some x) : l.take (i + 1) = l.take i ++ [x] := by
  rw [List.take_add_one, h]
  rfl
theorem upTo_succ {l : Bytes} {i x : Nat} (h : l[i]? = some x) : upTo l (i + 1) = crcByte (upTo l i) x := by
  unfold upTo
  rw [take_more h, List.foldl_append]
  rfl
theorem upTo_all (l : Bytes) : upTo l l.length ^^^ 0xFFFFFFFF = crc l := by
  unfold upTo crc
  rw [List.take_length]

/-! ### whether a message is right -/
def rightP (me : Nat) (l : Bytes) : Bool :=
  decide (l.length = 16) && (decide (l.getD 0 0 = 1) || decide (l.getD 0 0 = 2)) && decide ((l.getD 1 0 : Int) = 1 - (me : Int)) && (decide (l.getD 2 0 = 0) && decide (l.getD 3 0 = 0)) &&
    (!decide (l.getD 0 0 = 2) || decide (at_ l 8 4 = 0)) && !decide (at_ l 4 4 = 0) && decide (at_ l 12 4 = crc (l.take 12))
theorem le4_of {a b c d : Nat} (ha : a < 256) (hb : b < 256) (hc : c < 256) (hd : d < 256) : le 4 (a + 256 * (b + 256 * (c + 256 * (d + 256 * 0)))) = [a, b, c, d] := by
  rw [le4]
  have h1 : (a + 256 * (b + 256 * (c + 256 * (d + 256 * 0)))) % 256 = a := by omega
  have h2 : (a + 256 * (b + 256 * (c + 256 * (d + 256 * 0)))) / 256 % 256 = b := by omega
  have h3 : (a + 256 * (b + 256 * (c + 256 * (d + 256 * 0)))) / 65536 % 256 = c := by omega
  have h4 : (a + 256 * (b + 256 * (c + 256 * (d + 256 * 0)))) / 16777216 % 256 = d := by omega
  rw [h1, h2, h3, h4]
theorem le4_iff {a b c d n : Nat} (ha : a < 256) (hb : b < 256) (hc : c < 256) (hd : d < 256) (hn : n < 2 ^ 32) : [a, b, c, d] = le 4 n ↔ a + 256 * (b + 256 * (c + 256 * (d + 256 * 0))) = n := by
  constructor
  · intro h
    rw [le4] at h
    injection h with h1 h
    injection h with h2 h
    injection h with h3 h
    injection h with h4 h
    omega
  · intro h
    rw [← h, le4_of ha hb hc hd]
theorem list16 {α : Type} : ∀ {l : List α}, l.length = 16 → ∃ a b c d e f g h i j k m n o p q, l = [a, b, c, d, e, f, g, h, i, j, k, m, n, o, p, q]
  | [a, b, c, d, e, f, g, h, i, j, k, m, n, o, p, q], _ => ⟨a, b, c, d, e, f, g, h, i, j, k, m, n, o, p, q, rfl⟩
theorem right_is {me : Nat} {l : Bytes} (hme : me ≤ 1) (hl : ∀ b ∈ l, b < 256) :
    rightOf me l l.length = if rightP me l = true then some ⟨l.getD 0 0, l.getD 1 0, at_ l 4 4, at_ l 8 4⟩ else none := by
  unfold rightOf
  by_cases h16 : l.length = 16
  · rw [if_neg (fun z => z h16)]
    obtain ⟨a, b, c, d, e, f, g, h, i, j, k, m, n, o, p, q, rfl⟩ := list16 h16
    have hq : ∀ x ∈ [a, b, c, d, e, f, g, h, i, j, k, m, n, o, p, q], x < 256 := hl
    simp only [List.mem_cons, List.not_mem_nil, or_false, forall_eq_or_imp, forall_eq] at hq
    obtain ⟨ha, hb, hc, hd, he, hf, hg, hh, hi, hj, hk, hm, hn, ho, hp, hq⟩ := hq
    have a0 : at_ [a, b, c, d, e, f, g, h, i, j, k, m, n, o, p, q] 0 1 = a := by simp [at_]
    have a1 : at_ [a, b, c, d, e, f, g, h, i, j, k, m, n, o, p, q] 1 1 = b := by simp [at_]
    have a4 : at_ [a, b, c, d, e, f, g, h, i, j, k, m, n, o, p, q] 4 4 = e + 256 * (f + 256 * (g + 256 * (h + 256 * 0))) := rfl
    have a8 : at_ [a, b, c, d, e, f, g, h, i, j, k, m, n, o, p, q] 8 4 = i + 256 * (j + 256 * (k + 256 * (m + 256 * 0))) := rfl
    have a12 : at_ [a, b, c, d, e, f, g, h, i, j, k, m, n, o, p, q] 12 4 = n + 256 * (o + 256 * (p + 256 * (q + 256 * 0))) := rfl
    have hT : ([a, b, c, d, e, f, g, h, i, j, k, m, n, o, p, q] : Bytes).take 12 = [a, b, c, d, e, f, g, h, i, j, k, m] := rfl
    have hH : Msg.half ⟨a, b, e + 256 * (f + 256 * (g + 256 * (h + 256 * 0))), i + 256 * (j + 256 * (k + 256 * (m + 256 * 0)))⟩ = [a, b, 0, 0, e, f, g, h, i, j, k, m] := by
      unfold Msg.half
      rw [le4_of he hf hg hh, le4_of hi hj hk hm]
      rfl
    have hC : ([a, b, c, d, e, f, g, h, i, j, k, m, n, o, p, q] : Bytes) = Msg.bytes ⟨a, b, e + 256 * (f + 256 * (g + 256 * (h + 256 * 0))), i + 256 * (j + 256 * (k + 256 * (m + 256 * 0)))⟩ ↔
        (c = 0 ∧ d = 0) ∧ n + 256 * (o + 256 * (p + 256 * (q + 256 * 0))) = crc [a, b, c, d, e, f, g, h, i, j, k, m] := by
      unfold Msg.bytes
      rw [hH]
      constructor
      · intro z
        have z1 : ([a, b, c, d, e, f, g, h, i, j, k, m] : Bytes) ++ [n, o, p, q] = [a, b, 0, 0, e, f, g, h, i, j, k, m] ++ le 4 (crc [a, b, 0, 0, e, f, g, h, i, j, k, m]) := z
        obtain ⟨z2, z3⟩ := List.append_inj z1 rfl
        injection z2 with _ z2
        injection z2 with _ z2
        injection z2 with e1 z2
        injection z2 with e2 z2
        subst e1 e2
        exact ⟨⟨rfl, rfl⟩, (le4_iff hn ho hp hq (crc_lt fun x hx => hl x (List.mem_append_left [n, o, p, q] hx))).mp z3⟩
      · rintro ⟨⟨rfl, rfl⟩, z⟩
        have z3 := (le4_iff hn ho hp hq (crc_lt fun x hx => hl x (List.mem_append_left [n, o, p, q] hx))).mpr z
        rw [← z3]
        rfl
    have hP : parse [a, b, c, d, e, f, g, h, i, j, k, m, n, o, p, q] = if (c = 0 ∧ d = 0) ∧ n + 256 * (o + 256 * (p + 256 * (q + 256 * 0))) = crc [a, b, c, d, e, f, g, h, i, j, k, m] then
        some ⟨a, b, e + 256 * (f + 256 * (g + 256 * (h + 256 * 0))), i + 256 * (j + 256 * (k + 256 * (m + 256 * 0)))⟩ else none := by
      unfold parse
      dsimp only
      rw [a0, a1, a4, a8]
      by_cases z : (c = 0 ∧ d = 0) ∧ n + 256 * (o + 256 * (p + 256 * (q + 256 * 0))) = crc [a, b, c, d, e, f, g, h, i, j, k, m]
      · rw [if_pos z, if_pos ⟨rfl, hC.mpr z⟩]
      · rw [if_neg z, if_neg fun y => z (hC.mp y.2)]
    rw [hP]
    unfold rightP
    rw [a4, a8, a12, hT]
    show _ = if ((((((decide (16 = 16) && (decide (a = 1) || decide (a = 2))) && decide ((b : Int) = 1 - (me : Int))) && (decide (c = 0) && decide (d = 0))) && _) && _) && _) = true then some (Msg.mk a b _ _) else none
    generalize crc [a, b, c, d, e, f, g, h, i, j, k, m] = X
    generalize e + 256 * (f + 256 * (g + 256 * (h + 256 * 0))) = T
    generalize i + 256 * (j + 256 * (k + 256 * (m + 256 * 0))) = N
    generalize n + 256 * (o + 256 * (p + 256 * (q + 256 * 0))) = Y
    by_cases z : (c = 0 ∧ d = 0) ∧ Y = X
    · rw [if_pos z]
      dsimp only
      obtain ⟨⟨z1, z2⟩, z3⟩ := z
      by_cases y : (a = 1 ∨ a = 2 ∧ N = 0) ∧ b ≤ 1 ∧ b ≠ me ∧ T ≠ 0
      · rw [if_pos y, if_pos]
        obtain ⟨y1, y2, y3, y4⟩ := y
        have hb1 : (b : Int) = 1 - (me : Int) := by omega
        rcases y1 with y1 | ⟨y1, y5⟩ <;> simp [*]
      · rw [if_neg y, if_neg]
        intro w
        apply y
        simp only [Bool.and_eq_true, Bool.or_eq_true, decide_eq_true_eq, Bool.not_eq_true', decide_eq_false_iff_not] at w
        obtain ⟨⟨⟨⟨⟨⟨_, w1⟩, w2⟩, w3⟩, w4⟩, w5⟩, w6⟩ := w
        refine ⟨?_, by omega, by omega, w5⟩
        have w7 : ¬ a = 2 ∨ N = 0 := w4
        clear w4
        omega
    · rw [if_neg z, if_neg]
      intro w
      apply z
      simp only [Bool.and_eq_true, Bool.or_eq_true, decide_eq_true_eq, Bool.not_eq_true', decide_eq_false_iff_not] at w
      exact ⟨w.1.1.1.2, w.2⟩
  · rw [if_pos h16, if_neg]
    intro z
    unfold rightP at z
    rw [decide_eq_false h16] at z
    simp at z
end LL

/-! The mirror of the class End, and that it does what the specification's End does. -/
namespace LL
open Km264

structure M where
  me : Nat
  turn : Nat
  ins : Nat
  outs : Nat
  stand : Nat
  had : Bool
  green : Nat
  other : Nat
  ticks : Nat
/-- what a call gives: the end behind it, the number, the things told -/
abbrev R := M × Int × List (List Int)
def M.fresh (me : Nat) : M := ⟨me, 0, 0, 0, if me = 0 then 1 else 0, true, 0, 0, 0⟩
def M.take (m : M) : M := { m with stand := 1, green := 0, other := 0 }
def M.waitOrTake (m : M) (c : Nat) : M × List (List Int) := if c ≤ m.outs then (m.take, [[2, 1]]) else ({ m with stand := 2, other := c }, [])
def M.turnGreen (m : M) : R := if m.stand = 1 then (if m.green = 1 then (m, -16, []) else ({ m with green := 1 }, 0, [[1, 1]])) else (m, -11, [])
def M.turnRed (m : M) : R := if m.green = 0 then (m, -11, []) else ({ m with green := 0 }, 0, [[1, 0]])
def M.oneIn (m : M) : R := if m.green = 0 then ({ m with ins := m.ins + 1 }, -13, [[2, 2]]) else ({ m with ins := m.ins + 1 }, 0, [])
def M.oneOut (m : M) : R := if m.stand = 2 ∧ m.other ≤ m.outs + 1 then (({ m with outs := m.outs + 1 } : M).take, 0, [[2, 1]]) else ({ m with outs := m.outs + 1 }, 0, [])
def M.given (m : M) : List Int := 0 :: Km264Neutral.nums (Msg.bytes ⟨1, m.me, m.turn, m.ins⟩)
def M.gave (m : M) : M := { m with turn := m.turn + 1, stand := 0, had := false }
def M.give (m : M) : R := if m.stand = 1 then (if m.green = 1 then (m, -16, []) else (m.gave, 0, [m.gave.given])) else (m, -11, [])
def M.hearOne (m : M) (t c : Nat) : M × List (List Int) := if m.stand = 0 ∧ t = m.turn + 1 then ({ m with turn := t } : M).waitOrTake c else (m, [])
def M.hearTwo (m : M) (t : Nat) : List (List Int) := if m.stand ≠ 0 ∧ t = m.turn then [0 :: Km264Neutral.nums (Msg.bytes ⟨2, m.me, t, 0⟩)] else []
def M.hearGiven (m : M) (t c : Nat) : M × List (List Int) := ((m.hearOne t c).1, (m.hearOne t c).2 ++ (m.hearOne t c).1.hearTwo t)
def M.hearHad (m : M) (t : Nat) : M := if m.stand = 0 ∧ t = m.turn then { m with had := true } else m
def M.hear (m : M) (l : Bytes) : R := if l.getD 0 0 = 1 then ((m.hearGiven (at_ l 4 4) (at_ l 8 4)).1, 0, (m.hearGiven (at_ l 4 4) (at_ l 8 4)).2) else (m.hearHad (at_ l 4 4), 0, [])
def M.heard (l : Bytes) (m : M) : R := if rightP m.me l = true then m.hear l else (m, -71, [])
def M.ticked (m : M) : M := { m with ticks := m.ticks + 1 }
def M.tick (m : M) : R := if (m.ticks + 1) % 10 = 0 ∧ m.stand = 0 ∧ m.had = false then (m.ticked, 0, [m.ticked.given]) else (m.ticked, 0, [])
def M.state (m : M) : List Nat := [m.turn, m.ins, m.outs, m.stand, m.green, m.other]
def M.plain (p : Int) (m : M) : R := if p = 1 then m.turnGreen else if p = 2 then m.turnRed else if p = 3 then m.oneIn else if p = 4 then m.oneOut else if p = 5 then m.give else m.tick

/-! ### the numbers of an answer -/
def said (v : Int) (out : List Int) (ts : List (List Int)) : List Int := v :: (out ++ ((ts.length : Int) :: ts.flatten))
def pk (a : List Int) : List Int := (a.length : Int) :: a

/-! ### the mirror and the specification's end -/
def standOf : Right_ → Nat
  | .has _ => 1
  | .gave _ => 0
  | .waits _ => 2
def greenOf : Right_ → Nat
  | .has true => 1
  | _ => 0
def otherOf : Right_ → Nat
  | .waits c => c
  | _ => 0
structure Rel (m : M) (e : End) : Prop where
  me : m.me = e.me
  le : e.me ≤ 1
  turn : m.turn = e.turn
  ins : m.ins = e.ins
  outs : m.outs = e.outs
  stand : m.stand = standOf e.right
  green : m.green = greenOf e.right
  other : m.other = otherOf e.right
  had : ∀ b, e.right = .gave b → m.had = b
  ticks : m.ticks % 10 = e.ticks
theorem rel_fresh {me : Nat} (h : me ≤ 1) : Rel (M.fresh me) (end0 me) := by
  rcases Nat.le_one_iff_eq_zero_or_eq_one.mp h with rfl | rfl
  · exact ⟨rfl, by decide, rfl, rfl, rfl, rfl, rfl, rfl, (by intro b h; cases h), rfl⟩
  · exact ⟨rfl, by decide, rfl, rfl, rfl, rfl, rfl, rfl, (by intro b h; cases h; rfl), rfl⟩
/-- the mirror's result r is the specification's y -/
structure Agrees (r : R) (y : End × List Told × Ans) : Prop where
  rel : Rel r.1 y.1
  told : Km264Neutral.told y.2 = said r.2.1 [] r.2.2
theorem told_num (ts : List Told) (v : Int) : Km264Neutral.told (ts, .num v) = said v [] (ts.map Km264Neutral.shown) := by
  unfold Km264Neutral.told said
  dsimp only
  rw [List.length_map, List.flatMap_def]
  rfl
section
variable {m : M} {e : End}
theorem agrees_mk {r : R} {f : End} {ts : List Told} {v : Int} (h : Rel r.1 f) (hv : r.2.1 = v) (ht : r.2.2 = ts.map Km264Neutral.shown) : Agrees r (f, ts, .num v) :=
  ⟨h, by rw [told_num, hv, ht]⟩
theorem does_green (h : Rel m e) : Agrees m.turnGreen (e.does .green) := by
  obtain ⟨me, turn, ins, outs, stand, had, green, other, ticks⟩ := m
  obtain ⟨eme, eturn, eins, eouts, right, eticks⟩ := e
  obtain ⟨h1, h2, h3, h4, h5, h6, h7, h8, h9, h10⟩ := h
  dsimp only at h1 h2 h3 h4 h5 h6 h7 h8 h9 h10
  subst h1 h3 h4 h5 h6 h7 h8
  cases right with
  | has g => cases g <;> exact agrees_mk ⟨rfl, h2, rfl, rfl, rfl, rfl, rfl, rfl, (by intro b h; cases h), h10⟩ rfl rfl
  | gave b => exact agrees_mk ⟨rfl, h2, rfl, rfl, rfl, rfl, rfl, rfl, h9, h10⟩ rfl rfl
  | waits c => exact agrees_mk ⟨rfl, h2, rfl, rfl, rfl, rfl, rfl, rfl, h9, h10⟩ rfl rfl
theorem does_red (h : Rel m e) : Agrees m.turnRed (e.does .red) := by
  obtain ⟨me, turn, ins, outs, stand, had, green, other, ticks⟩ := m
  obtain ⟨eme, eturn, eins, eouts, right, eticks⟩ := e
  obtain ⟨h1, h2, h3, h4, h5, h6, h7, h8, h9, h10⟩ := h
  dsimp only at h1 h2 h3 h4 h5 h6 h7 h8 h9 h10
  subst h1 h3 h4 h5 h6 h7 h8
  cases right with
  | has g => cases g <;> exact agrees_mk ⟨rfl, h2, rfl, rfl, rfl, rfl, rfl, rfl, (by intro b h; cases h), h10⟩ rfl rfl
  | gave b => exact agrees_mk ⟨rfl, h2, rfl, rfl, rfl, rfl, rfl, rfl, h9, h10⟩ rfl rfl
  | waits c => exact agrees_mk ⟨rfl, h2, rfl, rfl, rfl, rfl, rfl, rfl, h9, h10⟩ rfl rfl
theorem does_in (h : Rel m e) : Agrees m.oneIn (e.does .in_) := by
  obtain ⟨me, turn, ins, outs, stand, had, green, other, ticks⟩ := m
  obtain ⟨eme, eturn, eins, eouts, right, eticks⟩ := e
  obtain ⟨h1, h2, h3, h4, h5, h6, h7, h8, h9, h10⟩ := h
  dsimp only at h1 h2 h3 h4 h5 h6 h7 h8 h9 h10
  subst h1 h3 h4 h5 h6 h7 h8
  cases right with
  | has g => cases g <;> exact agrees_mk ⟨rfl, h2, rfl, rfl, rfl, rfl, rfl, rfl, (by intro b h; cases h), h10⟩ rfl rfl
  | gave b => exact agrees_mk ⟨rfl, h2, rfl, rfl, rfl, rfl, rfl, rfl, h9, h10⟩ rfl rfl
  | waits c => exact agrees_mk ⟨rfl, h2, rfl, rfl, rfl, rfl, rfl, rfl, h9, h10⟩ rfl rfl
theorem does_out (h : Rel m e) : Agrees m.oneOut (e.does .out) := by
  obtain ⟨me, turn, ins, outs, stand, had, green, other, ticks⟩ := m
  obtain ⟨eme, eturn, eins, eouts, right, eticks⟩ := e
  obtain ⟨h1, h2, h3, h4, h5, h6, h7, h8, h9, h10⟩ := h
  dsimp only at h1 h2 h3 h4 h5 h6 h7 h8 h9 h10
  subst h1 h3 h4 h5 h6 h7 h8
  cases right with
  | has g => cases g <;> exact agrees_mk ⟨rfl, h2, rfl, rfl, rfl, rfl, rfl, rfl, (by intro b h; cases h), h10⟩ rfl rfl
  | gave b => exact agrees_mk ⟨rfl, h2, rfl, rfl, rfl, rfl, rfl, rfl, h9, h10⟩ rfl rfl
  | waits c =>
    by_cases z : c ≤ outs + 1
    · have e1 : End.does ⟨me, turn, ins, outs, .waits c, eticks⟩ .out = (⟨me, turn, ins, outs + 1, .has false, eticks⟩, [.tells 1], .num 0) := by
        unfold End.does End.settles
        dsimp only
        rw [if_pos z]
      have e2 : M.oneOut ⟨me, turn, ins, outs, standOf (.waits c), had, greenOf (.waits c), otherOf (.waits c), ticks⟩ = (⟨me, turn, ins, outs + 1, 1, had, 0, 0, ticks⟩, 0, [[2, 1]]) := by
        unfold M.oneOut
        rw [if_pos ⟨rfl, z⟩]
        rfl
      rw [e1, e2]
      exact agrees_mk ⟨rfl, h2, rfl, rfl, rfl, rfl, rfl, rfl, (by intro b h; cases h), h10⟩ rfl rfl
    · have e1 : End.does ⟨me, turn, ins, outs, .waits c, eticks⟩ .out = (⟨me, turn, ins, outs + 1, .waits c, eticks⟩, [], .num 0) := by
        unfold End.does End.settles
        dsimp only
        rw [if_neg z]
      have e2 : M.oneOut ⟨me, turn, ins, outs, standOf (.waits c), had, greenOf (.waits c), otherOf (.waits c), ticks⟩ = (⟨me, turn, ins, outs + 1, 2, had, 0, c, ticks⟩, 0, []) := by
        unfold M.oneOut
        rw [if_neg fun y => z y.2]
        rfl
      rw [e1, e2]
      exact agrees_mk ⟨rfl, h2, rfl, rfl, rfl, rfl, rfl, rfl, (by intro b h; cases h), h10⟩ rfl rfl
theorem does_give (h : Rel m e) : Agrees m.give (e.does .give) := by
  obtain ⟨me, turn, ins, outs, stand, had, green, other, ticks⟩ := m
  obtain ⟨eme, eturn, eins, eouts, right, eticks⟩ := e
  obtain ⟨h1, h2, h3, h4, h5, h6, h7, h8, h9, h10⟩ := h
  dsimp only at h1 h2 h3 h4 h5 h6 h7 h8 h9 h10
  subst h1 h3 h4 h5 h6 h7 h8
  cases right with
  | has g =>
    cases g with
    | false => exact agrees_mk ⟨rfl, h2, rfl, rfl, rfl, rfl, rfl, rfl, (by intro b h; cases h; rfl), h10⟩ rfl rfl
    | true => exact agrees_mk ⟨rfl, h2, rfl, rfl, rfl, rfl, rfl, rfl, (by intro b h; cases h), h10⟩ rfl rfl
  | gave b => exact agrees_mk ⟨rfl, h2, rfl, rfl, rfl, rfl, rfl, rfl, h9, h10⟩ rfl rfl
  | waits c => exact agrees_mk ⟨rfl, h2, rfl, rfl, rfl, rfl, rfl, rfl, h9, h10⟩ rfl rfl
theorem does_tick (h : Rel m e) : Agrees m.tick (e.does .tick) := by
  obtain ⟨me, turn, ins, outs, stand, had, green, other, ticks⟩ := m
  obtain ⟨eme, eturn, eins, eouts, right, eticks⟩ := e
  obtain ⟨h1, h2, h3, h4, h5, h6, h7, h8, h9, h10⟩ := h
  dsimp only at h1 h2 h3 h4 h5 h6 h7 h8 h9 h10
  subst h1 h3 h4 h5 h6 h7 h8
  have ht : (ticks + 1) % 10 = (eticks + 1) % 10 := by omega
  have hf : ∀ q : Right_, (∀ b, q = .gave b → had = b) → Rel ⟨me, turn, ins, outs, standOf q, had, greenOf q, otherOf q, ticks + 1⟩ ⟨me, turn, ins, outs, q, (eticks + 1) % 10⟩ := fun q hq =>
    ⟨rfl, h2, rfl, rfl, rfl, rfl, rfl, rfl, hq, ht⟩
  unfold End.does M.tick M.ticked
  dsimp only
  rw [ht]
  by_cases z : (eticks + 1) % 10 = 0 ∧ right = .gave false
  · obtain ⟨z1, rfl⟩ := z
    have hh : had = false := h9 _ rfl
    subst hh
    rw [if_pos (show (eticks + 1) % 10 = 0 ∧ Right_.gave false = .gave false from ⟨z1, rfl⟩), if_pos (show (eticks + 1) % 10 = 0 ∧ standOf (.gave false) = 0 ∧ false = false from ⟨z1, rfl, rfl⟩)]
    exact agrees_mk (hf _ h9) rfl rfl
  · rw [if_neg z, if_neg]
    · exact agrees_mk (hf _ h9) rfl rfl
    · rintro ⟨y1, y2, y3⟩
      apply z
      refine ⟨y1, ?_⟩
      cases right with
      | has g => cases y2
      | gave b =>
        have := h9 b rfl
        rw [← this, y3]
      | waits c => cases y2
theorem state_is (h : Rel m e) : (e.does .state).1 = e ∧ Km264Neutral.told (e.does .state).2 = said 0 (m.state.map fun (x : Nat) => (x : Int)) [] := by
  obtain ⟨me, turn, ins, outs, stand, had, green, other, ticks⟩ := m
  obtain ⟨eme, eturn, eins, eouts, right, eticks⟩ := e
  obtain ⟨h1, h2, h3, h4, h5, h6, h7, h8, h9, h10⟩ := h
  dsimp only at h1 h2 h3 h4 h5 h6 h7 h8 h9 h10
  subst h1 h3 h4 h5 h6 h7 h8
  refine ⟨rfl, ?_⟩
  cases right with
  | has g => cases g <;> rfl
  | gave b => rfl
  | waits c => rfl
/-- a 1 is heard -/
theorem does_one (h : Rel m e) {g : Msg} (hk : g.kind = 1) {l : Bytes} (hr : rightOf e.me l l.length = some g) :
    Agrees ((m.hearGiven g.turn g.count).1, 0, (m.hearGiven g.turn g.count).2) (e.does (.heard l l.length)) := by
  unfold End.does
  dsimp only
  rw [hr]
  dsimp only
  rw [if_pos hk]
  obtain ⟨kind, of_, t, c⟩ := g
  dsimp only
  have first : ∃ f ts, (if e.gaveIt = true ∧ t = e.turn + 1 then ({ e with turn := t, right := .waits c } : End).settles else (e, [])) = (f, ts) ∧ Rel (m.hearOne t c).1 f ∧ (m.hearOne t c).2 = ts.map Km264Neutral.shown := by
    obtain ⟨me, turn, ins, outs, stand, had, green, other, ticks⟩ := m
    obtain ⟨eme, eturn, eins, eouts, right, eticks⟩ := e
    obtain ⟨h1, h2, h3, h4, h5, h6, h7, h8, h9, h10⟩ := h
    dsimp only at h1 h2 h3 h4 h5 h6 h7 h8 h9 h10
    subst h1 h3 h4 h5 h6 h7 h8
    unfold M.hearOne
    dsimp only
    cases right with
    | has g =>
      rw [if_neg (by rintro ⟨y, _⟩; cases y), if_neg (by rintro ⟨y, _⟩; cases y)]
      exact ⟨_, _, rfl, ⟨rfl, h2, rfl, rfl, rfl, rfl, rfl, rfl, h9, h10⟩, rfl⟩
    | waits d =>
      rw [if_neg (by rintro ⟨y, _⟩; cases y), if_neg (by rintro ⟨y, _⟩; cases y)]
      exact ⟨_, _, rfl, ⟨rfl, h2, rfl, rfl, rfl, rfl, rfl, rfl, h9, h10⟩, rfl⟩
    | gave b =>
      by_cases z : t = turn + 1
      · rw [if_pos ⟨rfl, z⟩, if_pos ⟨rfl, z⟩]
        unfold End.settles M.waitOrTake
        dsimp only
        by_cases y : c ≤ outs
        · rw [if_pos y, if_pos y]
          exact ⟨_, _, rfl, ⟨rfl, h2, rfl, rfl, rfl, rfl, rfl, rfl, (by intro b h; cases h), h10⟩, rfl⟩
        · rw [if_neg y, if_neg y]
          exact ⟨_, _, rfl, ⟨rfl, h2, rfl, rfl, rfl, rfl, rfl, rfl, (by intro b h; cases h), h10⟩, rfl⟩
      · rw [if_neg fun y => z y.2, if_neg fun y => z y.2]
        exact ⟨_, _, rfl, ⟨rfl, h2, rfl, rfl, rfl, rfl, rfl, rfl, h9, h10⟩, rfl⟩
  obtain ⟨f, ts, e1, r1, t1⟩ := first
  rw [e1]
  dsimp only
  unfold M.hearGiven
  refine agrees_mk r1 rfl ?_
  dsimp only
  rw [t1, List.map_append]
  refine congrArg _ ?_
  unfold M.hearTwo
  have hg : (m.hearOne t c).1.stand ≠ 0 ↔ f.gaveIt = false := by
    rw [r1.stand]
    unfold End.gaveIt
    cases f.right with
    | has g => exact ⟨fun _ => rfl, fun _ z => by cases z⟩
    | gave g => exact ⟨fun z => absurd rfl z, fun z => by cases z⟩
    | waits g => exact ⟨fun _ => rfl, fun _ z => by cases z⟩
  by_cases y : f.gaveIt = false ∧ t = f.turn
  · rw [if_pos y, if_pos ⟨hg.mpr y.1, by rw [r1.turn]; exact y.2⟩, r1.me]
    rfl
  · rw [if_neg y, if_neg fun z => y ⟨hg.mp z.1, by rw [← r1.turn]; exact z.2⟩]
    rfl
theorem does_two (h : Rel m e) {g : Msg} (hk : ¬ g.kind = 1) {l : Bytes} (hr : rightOf e.me l l.length = some g) :
    Agrees (m.hearHad g.turn, 0, []) (e.does (.heard l l.length)) := by
  unfold End.does
  dsimp only
  rw [hr]
  dsimp only
  rw [if_neg hk]
  refine agrees_mk ?_ rfl rfl
  generalize g.turn = t
  obtain ⟨me, turn, ins, outs, stand, had, green, other, ticks⟩ := m
  obtain ⟨eme, eturn, eins, eouts, right, eticks⟩ := e
  obtain ⟨h1, h2, h3, h4, h5, h6, h7, h8, h9, h10⟩ := h
  dsimp only at h1 h2 h3 h4 h5 h6 h7 h8 h9 h10
  subst h1 h3 h4 h5 h6 h7 h8
  unfold M.hearHad
  dsimp only
  cases right with
  | has g =>
    rw [if_neg (by rintro ⟨y, _⟩; cases y), if_neg (by rintro ⟨y, _⟩; cases y)]
    exact ⟨rfl, h2, rfl, rfl, rfl, rfl, rfl, rfl, h9, h10⟩
  | waits d =>
    rw [if_neg (by rintro ⟨y, _⟩; cases y), if_neg (by rintro ⟨y, _⟩; cases y)]
    exact ⟨rfl, h2, rfl, rfl, rfl, rfl, rfl, rfl, h9, h10⟩
  | gave b =>
    by_cases z : t = turn
    · rw [if_pos ⟨rfl, z⟩, if_pos ⟨rfl, z⟩]
      exact ⟨rfl, h2, rfl, rfl, rfl, rfl, rfl, rfl, (by intro b h; cases h; rfl), h10⟩
    · rw [if_neg fun y => z y.2, if_neg fun y => z y.2]
      exact ⟨rfl, h2, rfl, rfl, rfl, rfl, rfl, rfl, h9, h10⟩
theorem does_heard (h : Rel m e) {l : Bytes} (hl : ∀ b ∈ l, b < 256) : Agrees (m.heard l) (e.does (.heard l l.length)) := by
  have hr := right_is (me := e.me) h.le hl
  unfold M.heard
  rw [h.me]
  by_cases z : rightP e.me l = true
  · rw [if_pos z] at hr ⊢
    unfold M.hear
    by_cases y : l.getD 0 0 = 1
    · rw [if_pos y]
      exact does_one h y hr
    · rw [if_neg y]
      exact does_two h y hr
  · rw [if_neg z] at hr ⊢
    unfold End.does
    dsimp only
    rw [hr]
    exact agrees_mk h rfl rfl
end
/-! ### how long an answer is -/
theorem bytes_length (g : Msg) : g.bytes.length = 16 := by
  unfold Msg.bytes Msg.half
  simp [le_length]
theorem nums_length (l : List Nat) : (Km264Neutral.nums l).length = l.length := by
  unfold Km264Neutral.nums
  rw [List.length_map]
theorem said_length (v : Int) (out : List Int) (ts : List (List Int)) : (said v out ts).length = out.length + ts.flatten.length + 2 := by
  unfold said
  simp
  omega
def Short (ts : List (List Int)) : Prop := ts.length ≤ 2 ∧ ∀ t ∈ ts, t.length ≤ 17
theorem Short.nil : Short [] := ⟨by decide, fun t h => by cases h⟩
theorem Short.one {t : List Int} (h : t.length ≤ 17) : Short [t] := ⟨by show 1 ≤ 2; decide, fun x hx => by rw [List.mem_singleton] at hx; rw [hx]; exact h⟩
theorem given_length (m : M) : m.given.length ≤ 17 := by
  unfold M.given
  rw [List.length_cons, nums_length, bytes_length]
  decide
theorem flat_le : ∀ (ts : List (List Int)), (∀ t ∈ ts, t.length ≤ 17) → ts.flatten.length ≤ 17 * ts.length
  | [], _ => by simp
  | t :: r, h => by
    have ih := flat_le r fun x hx => h x (List.mem_cons_of_mem _ hx)
    have h1 := h t (List.mem_cons_self ..)
    rw [List.flatten_cons, List.length_append, List.length_cons]
    omega
theorem Short.flat {ts : List (List Int)} (h : Short ts) : ts.flatten.length ≤ 34 := by
  have := flat_le ts h.2
  have := h.1
  omega
theorem short_green (m : M) : Short m.turnGreen.2.2 := by
  unfold M.turnGreen
  split
  · split
    · exact Short.nil
    · exact Short.one (by decide)
  · exact Short.nil
theorem short_red (m : M) : Short m.turnRed.2.2 := by
  unfold M.turnRed
  split
  · exact Short.nil
  · exact Short.one (by decide)
theorem short_in (m : M) : Short m.oneIn.2.2 := by
  unfold M.oneIn
  split
  · exact Short.one (by decide)
  · exact Short.nil
theorem short_out (m : M) : Short m.oneOut.2.2 := by
  unfold M.oneOut
  split
  · exact Short.one (by decide)
  · exact Short.nil
theorem short_give (m : M) : Short m.give.2.2 := by
  unfold M.give
  split
  · split
    · exact Short.nil
    · exact Short.one (given_length _)
  · exact Short.nil
theorem short_tick (m : M) : Short m.tick.2.2 := by
  unfold M.tick
  split
  · exact Short.one (given_length _)
  · exact Short.nil
theorem short_plain (p : Int) (m : M) : Short (m.plain p).2.2 := by
  unfold M.plain
  split
  · exact short_green m
  split
  · exact short_red m
  split
  · exact short_in m
  split
  · exact short_out m
  split
  · exact short_give m
  · exact short_tick m
theorem short_one (m : M) (t c : Nat) : (m.hearOne t c).2.length ≤ 1 ∧ ∀ x ∈ (m.hearOne t c).2, x.length ≤ 17 := by
  unfold M.hearOne
  split
  · unfold M.waitOrTake
    split
    · exact ⟨by show 1 ≤ 1; decide, fun x hx => by rw [List.mem_singleton] at hx; rw [hx]; decide⟩
    · exact ⟨by show 0 ≤ 1; decide, fun x hx => by cases hx⟩
  · exact ⟨by show 0 ≤ 1; decide, fun x hx => by cases hx⟩
theorem short_two (m : M) (t : Nat) : (m.hearTwo t).length ≤ 1 ∧ ∀ x ∈ m.hearTwo t, x.length ≤ 17 := by
  unfold M.hearTwo
  split
  · refine ⟨by show 1 ≤ 1; decide, fun x hx => ?_⟩
    rw [List.mem_singleton] at hx
    rw [hx, List.length_cons, nums_length, bytes_length]
    decide
  · exact ⟨by show 0 ≤ 1; decide, fun x hx => by cases hx⟩
theorem short_given (m : M) (t c : Nat) : Short (m.hearGiven t c).2 := by
  have h1 := short_one m t c
  have h2 := short_two (m.hearOne t c).1 t
  unfold M.hearGiven
  refine ⟨?_, fun x hx => ?_⟩
  · dsimp only
    rw [List.length_append]
    omega
  · rcases List.mem_append.mp hx with q | q
    · exact h1.2 x q
    · exact h2.2 x q
theorem short_heard (l : Bytes) (m : M) : Short (m.heard l).2.2 := by
  unfold M.heard
  split
  · unfold M.hear
    split
    · exact short_given _ _ _
    · exact Short.nil
  · exact Short.nil
end LL

/-! One turn of the loop over the calls: what the list tells there, and what is due. -/
namespace LL
open Km264

theorem whole_id (c : List (List Int)) : PyKm264.whole c = c := by
  unfold PyKm264.whole
  split <;> rfl
theorem map_whole (cs : List (List (List Int))) : cs.map PyKm264.whole = cs := by
  have e : PyKm264.whole = id := funext whole_id
  rw [e, List.map_id]
theorem calls_plain {f : Nat} {p : Int} {r : List Int} {cs : List (List (List Int))} (hs : PyKm264.shape p = some (0, 0)) (h : PyFlat.calls PyKm264.shape f (p :: r) = some cs) :
    ∃ g cs', cs = [[p]] :: cs' ∧ PyFlat.calls PyKm264.shape g r = some cs' := by
  cases f with
  | zero => cases h
  | succ g =>
    unfold PyFlat.calls at h
    have e : PyFlat.call PyKm264.shape (p :: r) = some ([[p]], r) := by
      unfold PyFlat.call
      dsimp only
      rw [hs]
      rfl
    rw [e] at h
    dsimp only at h
    cases q : PyFlat.calls PyKm264.shape g r with
    | none =>
      rw [q] at h
      cases h
    | some cs' =>
      rw [q] at h
      exact ⟨g, cs', (Option.some.inj h).symm, q⟩
theorem calls_start {f : Nat} {r : List Int} {cs : List (List (List Int))} (h : PyFlat.calls PyKm264.shape f (0 :: r) = some cs) :
    ∃ x r' g cs', r = x :: r' ∧ cs = [[0, x]] :: cs' ∧ PyFlat.calls PyKm264.shape g r' = some cs' := by
  cases f with
  | zero => cases h
  | succ g =>
    unfold PyFlat.calls at h
    cases r with
    | nil =>
      have e : PyFlat.call PyKm264.shape [0] = none := rfl
      rw [e] at h
      cases h
    | cons x r' =>
      have e : PyFlat.call PyKm264.shape (0 :: x :: r') = some ([[0, x]], r') := by
        unfold PyFlat.call
        dsimp only
        have e0 : PyKm264.shape 0 = some (1, 0) := rfl
        rw [e0]
        dsimp only
        rw [if_neg (by rw [List.length_cons]; omega)]
        rfl
      rw [e] at h
      dsimp only at h
      cases q : PyFlat.calls PyKm264.shape g r' with
      | none =>
        rw [q] at h
        cases h
      | some cs' =>
        rw [q] at h
        exact ⟨x, r', g, cs', rfl, (Option.some.inj h).symm, q⟩
theorem calls_heard {f : Nat} {r : List Int} {cs : List (List (List Int))} (h : PyFlat.calls PyKm264.shape f (6 :: r) = some cs) :
    ∃ n r' g cs', r = n :: r' ∧ 0 ≤ n ∧ n.toNat ≤ r'.length ∧ cs = [[6], r'.take n.toNat] :: cs' ∧ PyFlat.calls PyKm264.shape g (r'.drop n.toNat) = some cs' := by
  cases f with
  | zero => cases h
  | succ g =>
    unfold PyFlat.calls at h
    cases r with
    | nil =>
      have e : PyFlat.call PyKm264.shape [6] = none := rfl
      rw [e] at h
      cases h
    | cons n r' =>
      by_cases hn : 0 ≤ n ∧ n.toNat ≤ r'.length
      · have e1 : PyFlat.rows 1 (n :: r') = some ([r'.take n.toNat], r'.drop n.toNat) := by
          unfold PyFlat.rows PyFlat.row
          dsimp only
          rw [if_pos hn]
          rfl
        have e : PyFlat.call PyKm264.shape (6 :: n :: r') = some ([[6], r'.take n.toNat], r'.drop n.toNat) := by
          unfold PyFlat.call
          dsimp only
          have e0 : PyKm264.shape 6 = some (0, 1) := rfl
          rw [e0]
          dsimp only
          rw [if_neg (by omega), List.drop_zero, e1]
          rfl
        rw [e] at h
        dsimp only at h
        cases q : PyFlat.calls PyKm264.shape g (r'.drop n.toNat) with
        | none =>
          rw [q] at h
          cases h
        | some cs' =>
          rw [q] at h
          exact ⟨n, r', g, cs', rfl, hn.1, hn.2, (Option.some.inj h).symm, q⟩
      · have e1 : PyFlat.rows 1 (n :: r') = none := by
          unfold PyFlat.rows PyFlat.row
          dsimp only
          rw [if_neg hn]
        have e : PyFlat.call PyKm264.shape (6 :: n :: r') = none := by
          unfold PyFlat.call
          dsimp only
          have e0 : PyKm264.shape 6 = some (0, 1) := rfl
          rw [e0]
          dsimp only
          rw [if_neg (by omega), List.drop_zero, e1]
        rw [e] at h
        cases h
theorem shape_cases {p : Int} (h : PyKm264.shape p ≠ none) : p = 0 ∨ p = 6 ∨ p = 8 ∨ PyKm264.shape p = some (0, 0) ∧ (p = 1 ∨ p = 2 ∨ p = 3 ∨ p = 4 ∨ p = 5 ∨ p = 7) := by
  by_cases h0 : p = 0
  · exact .inl h0
  by_cases h6 : p = 6
  · exact .inr (.inl h6)
  by_cases h8 : p = 8
  · exact .inr (.inr (.inl h8))
  refine .inr (.inr (.inr ?_))
  by_cases h1 : p = 1
  · subst h1; exact ⟨rfl, by omega⟩
  by_cases h2 : p = 2
  · subst h2; exact ⟨rfl, by omega⟩
  by_cases h3 : p = 3
  · subst h3; exact ⟨rfl, by omega⟩
  by_cases h4 : p = 4
  · subst h4; exact ⟨rfl, by omega⟩
  by_cases h5 : p = 5
  · subst h5; exact ⟨rfl, by omega⟩
  by_cases h7 : p = 7
  · subst h7; exact ⟨rfl, by omega⟩
  exfalso
  apply h
  unfold PyKm264.shape
  rw [if_neg h0, if_neg h1, if_neg h2, if_neg h3, if_neg h4, if_neg h5, if_neg h6, if_neg h7, if_neg h8]
theorem calls_shape {f : Nat} {p : Int} {r : List Int} {cs : List (List (List Int))} (h : PyFlat.calls PyKm264.shape f (p :: r) = some cs) : PyKm264.shape p ≠ none := by
  intro z
  cases f with
  | zero => cases h
  | succ g =>
    unfold PyFlat.calls at h
    have e : PyFlat.call PyKm264.shape (p :: r) = none := by
      unfold PyFlat.call
      dsimp only
      rw [z]
    rw [e] at h
    cases h

/-! ### what holds between two turns -/
structure Due (ns : List Int) (k : Nat) (s : Km264Neutral.S) (done : List Int) : Prop where
  eq : ∃ f cs, PyFlat.calls PyKm264.shape f (ns.drop k) = some cs ∧ Km264Neutral.may s cs = true ∧ cs.all Km264Neutral.asked1 = true ∧
    done ++ PyFlat.told (PyFlat.played Km264Neutral.step s cs) = PyKm264.answers ns
  len : done.length ≤ 40 * k
  le : k ≤ ns.length
theorem due_start {ns : List Int} (h : PyKm264.answers_asked ns = true) : Due ns 0 none [] := by
  unfold PyKm264.answers_asked at h
  cases q : PyFlat.calls PyKm264.shape ns.length ns with
  | none =>
    rw [q] at h
    cases h
  | some raw =>
    rw [q] at h
    simp only [Bool.and_eq_true] at h
    obtain ⟨⟨⟨⟨_, _⟩, _⟩, h1⟩, _⟩ := h
    rw [map_whole] at h1
    unfold Km264Neutral.asked at h1
    simp only [Bool.and_eq_true] at h1
    obtain ⟨_, _, h2, h3⟩ := h1
    refine ⟨⟨ns.length, raw, q, h3, h2, ?_⟩, Nat.le_refl _, Nat.zero_le _⟩
    unfold PyKm264.answers PyKm264.calls
    rw [q]
    dsimp only
    rw [map_whole]
    rfl
theorem due_end {ns : List Int} {k : Nat} {s : Km264Neutral.S} {done : List Int} (h : Due ns k s done) (hk : ns.length ≤ k) : done = PyKm264.answers ns := by
  obtain ⟨f, cs, h1, h2, h3, h4⟩ := h.eq
  rw [List.drop_eq_nil_of_le hk] at h1
  have e : cs = [] := by
    unfold PyFlat.calls at h1
    exact (Option.some.inj h1).symm
  subst e
  rw [← h4]
  simp [PyFlat.told, PyFlat.played]
theorem told_cons (a : List Int) (l : List (List Int)) : PyFlat.told (a :: l) = pk a ++ PyFlat.told l := by
  unfold PyFlat.told pk
  rw [List.flatMap_cons]
theorem due_next {ns : List Int} {k k' : Nat} {s s' : Km264Neutral.S} {done a : List Int} {c : List (List Int)} {f : Nat} {cs : List (List (List Int))}
    (h1 : PyFlat.calls PyKm264.shape f (ns.drop k') = some cs) (h2 : Km264Neutral.may s (c :: cs) = true) (h3 : (c :: cs).all Km264Neutral.asked1 = true)
    (h4 : done ++ PyFlat.told (PyFlat.played Km264Neutral.step s (c :: cs)) = PyKm264.answers ns) (hs : Km264Neutral.step s c = (s', a)) (hl : done.length ≤ 40 * k) (ha : a.length ≤ 39) (hk : k < k') (hn : k' ≤ ns.length) : Due ns k' s' (done ++ pk a) := by
  unfold Km264Neutral.may at h2
  rw [hs, Bool.and_eq_true] at h2
  rw [List.all_cons, Bool.and_eq_true] at h3
  refine ⟨⟨f, cs, h1, h2.2, h3.2, ?_⟩, ?_, hn⟩
  · rw [← h4]
    have e : PyFlat.played Km264Neutral.step s (c :: cs) = (Km264Neutral.step s c).2 :: PyFlat.played Km264Neutral.step (Km264Neutral.step s c).1 cs := rfl
    rw [e, hs, told_cons, List.append_assoc]
  · rw [List.length_append]
    unfold pk
    rw [List.length_cons]
    omega
theorem drop_at {ns : List Int} {k : Nat} {p : Int} (h : ns[k]? = some p) : ns.drop k = p :: ns.drop (k + 1) := by
  obtain ⟨hk, e⟩ := List.getElem?_eq_some_iff.mp h
  rw [List.drop_eq_getElem_cons hk, e]
theorem of_drop {ns : List Int} {k : Nat} {x : Int} {r : List Int} (h : ns.drop k = x :: r) : ns[k]? = some x ∧ r = ns.drop (k + 1) := by
  have hk : k < ns.length := by
    rcases Nat.lt_or_ge k ns.length with z | z
    · exact z
    · rw [List.drop_eq_nil_of_le z] at h
      cases h
  rw [List.drop_eq_getElem_cons hk] at h
  injection h with h1 h2
  exact ⟨by rw [List.getElem?_eq_getElem hk, h1], h2.symm⟩
/-- what the program's end and the specification's have to do with each other; ahead of the first start nothing -/
def RelS (m : M) : Km264Neutral.S → Prop
  | none => True
  | some e => Rel m e
structure Now (ns : List Int) (k : Nat) (m : M) (done : List Int) : Prop where
  ex : ∃ s, RelS m s ∧ Due ns k s done
theorem now_start {ns : List Int} (h : PyKm264.answers_asked ns = true) : Now ns 0 (M.fresh 0) [] := ⟨none, trivial, due_start h⟩
theorem now_end {ns : List Int} {k : Nat} {m : M} {done : List Int} (h : Now ns k m done) (hk : ns.length ≤ k) : done = PyKm264.answers ns := by
  obtain ⟨s, _, h⟩ := h.ex
  exact due_end h hk
theorem now_len {ns : List Int} {k : Nat} {m : M} {done : List Int} (h : Now ns k m done) : done.length ≤ 40 * k ∧ k ≤ ns.length := by
  obtain ⟨s, _, h⟩ := h.ex
  exact ⟨h.len, h.le⟩
theorem may_some {s : Km264Neutral.S} {c : List (List Int)} {cs : List (List (List Int))} {x : Call} (h : Km264Neutral.may s (c :: cs) = true) (hc : Km264Neutral.callOf c = some x) (hx : Km264Neutral.isStart x = false) :
    ∃ e, s = some e ∧ Km264Neutral.step s c = (some (e.does x).1, Km264Neutral.told (e.does x).2) := by
  cases s with
  | none =>
    exfalso
    unfold Km264Neutral.may Km264Neutral.step at h
    rw [hc] at h
    dsimp only at h
    rw [hx] at h
    simp at h
  | some e =>
    refine ⟨e, rfl, ?_⟩
    unfold Km264Neutral.step
    rw [hc]
theorem turn_plain {ns : List Int} {k : Nat} {m : M} {done : List Int} {p : Int} (h : Now ns k m done) (hp : ns[k]? = some p) (h0 : p ≠ 0) (h6 : p ≠ 6) (h8 : p ≠ 8) :
    Now ns (k + 1) (m.plain p).1 (done ++ pk (said (m.plain p).2.1 [] (m.plain p).2.2)) := by
  obtain ⟨s, hR, D⟩ := h.ex
  obtain ⟨f, cs, h1, h2, h3, h4⟩ := D.eq
  obtain ⟨hl, _⟩ := now_len h
  have hk := (List.getElem?_eq_some_iff.mp hp).1
  rw [drop_at hp] at h1
  rcases shape_cases (calls_shape h1) with z | z | z | ⟨hsh, z⟩
  · exact absurd z h0
  · exact absurd z h6
  · exact absurd z h8
  obtain ⟨g, cs', rfl, h1'⟩ := calls_plain hsh h1
  have key : ∃ x, Km264Neutral.callOf [[p]] = some x ∧ Km264Neutral.isStart x = false ∧ ∀ e, Rel m e → Agrees (m.plain p) (e.does x) := by
    rcases z with rfl | rfl | rfl | rfl | rfl | rfl
    · exact ⟨.green, rfl, rfl, fun e r => does_green r⟩
    · exact ⟨.red, rfl, rfl, fun e r => does_red r⟩
    · exact ⟨.in_, rfl, rfl, fun e r => does_in r⟩
    · exact ⟨.out, rfl, rfl, fun e r => does_out r⟩
    · exact ⟨.give, rfl, rfl, fun e r => does_give r⟩
    · exact ⟨.tick, rfl, rfl, fun e r => does_tick r⟩
  obtain ⟨x, hc, hx, ag⟩ := key
  obtain ⟨e, rfl, hs⟩ := may_some h2 hc hx
  have A := ag e hR
  refine ⟨some (e.does x).1, A.rel, ?_⟩
  rw [← A.told]
  refine due_next h1' h2 h3 h4 hs hl ?_ (Nat.lt_succ_self _) hk
  rw [A.told, said_length]
  have := (short_plain p m).flat
  rw [List.length_nil]
  omega
theorem turn_state {ns : List Int} {k : Nat} {m : M} {done : List Int} (h : Now ns k m done) (hp : ns[k]? = some 8) :
    Now ns (k + 1) m (done ++ pk (said 0 (m.state.map fun (x : Nat) => (x : Int)) [])) := by
  obtain ⟨s, hR, D⟩ := h.ex
  obtain ⟨f, cs, h1, h2, h3, h4⟩ := D.eq
  obtain ⟨hl, _⟩ := now_len h
  have hk := (List.getElem?_eq_some_iff.mp hp).1
  rw [drop_at hp] at h1
  obtain ⟨g, cs', rfl, h1'⟩ := calls_plain rfl h1
  obtain ⟨e, rfl, hs⟩ := may_some h2 (x := .state) rfl rfl
  have A := state_is (m := m) (e := e) hR
  refine ⟨some e, hR, ?_⟩
  rw [← A.2]
  rw [A.1] at hs
  refine due_next h1' h2 h3 h4 hs hl ?_ (Nat.lt_succ_self _) hk
  rw [A.2, said_length]
  show 6 + 0 + 2 ≤ 39
  decide
theorem nums_nats {r : List Int} (h : ∀ z ∈ r, 0 ≤ z) : Km264Neutral.nums (Km264Neutral.nats r) = r := by
  unfold Km264Neutral.nums Km264Neutral.nats
  rw [List.map_map]
  refine (List.map_congr_left fun z hz => ?_).trans (List.map_id r)
  show ((z.toNat : Nat) : Int) = z
  exact Int.toNat_of_nonneg (h z hz)
theorem nats_length (r : List Int) : (Km264Neutral.nats r).length = r.length := by
  unfold Km264Neutral.nats
  rw [List.length_map]
theorem turn_heard {ns : List Int} {k : Nat} {m : M} {done : List Int} (h : Now ns k m done) (hp : ns[k]? = some 6) :
    ∃ (n : Nat) (l : Bytes), ns[k + 1]? = some (n : Int) ∧ k + 2 + n ≤ ns.length ∧ (ns.drop (k + 2)).take n = Km264Neutral.nums l ∧ (∀ b ∈ l, b < 256) ∧
      Now ns (k + 2 + n) (m.heard l).1 (done ++ pk (said (m.heard l).2.1 [] (m.heard l).2.2)) := by
  obtain ⟨s, hR, D⟩ := h.ex
  obtain ⟨f, cs, h1, h2, h3, h4⟩ := D.eq
  obtain ⟨hl, _⟩ := now_len h
  rw [drop_at hp] at h1
  obtain ⟨n, r', g, cs', hr, hn, hn2, rfl, h1'⟩ := calls_heard h1
  obtain ⟨hp1, hr'⟩ := of_drop hr
  subst hr'
  obtain ⟨j, rfl⟩ := Int.eq_ofNat_of_zero_le hn
  rw [Int.toNat_natCast] at hn2 h1' h2 h3 h4
  have hk1 := (List.getElem?_eq_some_iff.mp hp1).1
  rw [List.length_drop] at hn2
  have hb : ∀ z ∈ (ns.drop (k + 1 + 1)).take j, 0 ≤ z ∧ z < 256 := by
    rw [List.all_cons, Bool.and_eq_true] at h3
    have h5 : ((ns.drop (k + 1 + 1)).take j).all (fun (z : Int) => Km264Neutral.natural z 8) = true := h3.1
    intro z hz
    have h6 := List.all_eq_true.mp h5 z hz
    unfold Km264Neutral.natural at h6
    rw [Bool.and_eq_true, decide_eq_true_eq, decide_eq_true_eq] at h6
    exact ⟨h6.1, h6.2⟩
  obtain ⟨e, rfl, hs⟩ := may_some h2 (x := .heard (Km264Neutral.nats ((ns.drop (k + 1 + 1)).take j)) ((ns.drop (k + 1 + 1)).take j).length) rfl rfl
  have hl2 : ∀ b ∈ Km264Neutral.nats ((ns.drop (k + 1 + 1)).take j), b < 256 := by
    intro b hb'
    unfold Km264Neutral.nats at hb'
    obtain ⟨z, hz, rfl⟩ := List.mem_map.mp hb'
    have := hb z hz
    omega
  rw [← nats_length] at hs
  have A := does_heard (m := m) (e := e) hR hl2
  refine ⟨j, Km264Neutral.nats ((ns.drop (k + 1 + 1)).take j), hp1, by omega, (nums_nats fun z hz => (hb z hz).1).symm, hl2, ⟨some _, A.rel, ?_⟩⟩
  rw [← A.told]
  rw [List.drop_drop] at h1'
  refine due_next (k := k) (c := [[6], (ns.drop (k + 1 + 1)).take j]) h1' h2 h3 h4 hs hl ?_ (by omega) (by omega)
  rw [A.told, said_length]
  have := (short_heard (Km264Neutral.nats ((ns.drop (k + 1 + 1)).take j)) m).flat
  rw [List.length_nil]
  omega
theorem step_none {j : Nat} (h : (end0 0).does (.start j) = (end0 0, [], .num (-22))) : Km264Neutral.step none [[0, (j : Int)]] = (none, said (-22) [] []) := by
  have e : Km264Neutral.step none [[0, (j : Int)]] = (if (Km264Neutral.told ((end0 0).does (.start j)).2).headD 0 < 0 then none else some ((end0 0).does (.start j)).1, Km264Neutral.told ((end0 0).does (.start j)).2) := rfl
  rw [e, h]
  rfl
theorem step_none0 {j : Nat} (h : (end0 0).does (.start j) = (end0 j, [.light 0], .num 0)) : Km264Neutral.step none [[0, (j : Int)]] = (some (end0 j), said 0 [] [[1, 0]]) := by
  have e : Km264Neutral.step none [[0, (j : Int)]] = (if (Km264Neutral.told ((end0 0).does (.start j)).2).headD 0 < 0 then none else some ((end0 0).does (.start j)).1, Km264Neutral.told ((end0 0).does (.start j)).2) := rfl
  rw [e, h]
  rfl
theorem step_some {j : Nat} {a f : End} {ts : List Told} {v : Int} (h : a.does (.start j) = (f, ts, .num v)) : Km264Neutral.step (some a) [[0, (j : Int)]] = (some f, Km264Neutral.told (ts, .num v)) := by
  have e : Km264Neutral.step (some a) [[0, (j : Int)]] = (some (a.does (.start j)).1, Km264Neutral.told (a.does (.start j)).2) := rfl
  rw [e, h]
theorem turn_start {ns : List Int} {k : Nat} {m : M} {done : List Int} (h : Now ns k m done) (hp : ns[k]? = some 0) :
    ∃ x : Nat, ns[k + 1]? = some (x : Int) ∧ (1 < x → Now ns (k + 2) m (done ++ pk (said (-22) [] []))) ∧ (x ≤ 1 → Now ns (k + 2) (M.fresh x) (done ++ pk (said 0 [] [[1, 0]]))) := by
  obtain ⟨s, hR, D⟩ := h.ex
  obtain ⟨f, cs, h1, h2, h3, h4⟩ := D.eq
  obtain ⟨hl, _⟩ := now_len h
  rw [drop_at hp] at h1
  obtain ⟨x, r', g, cs', hr, rfl, h1'⟩ := calls_start h1
  obtain ⟨hp1, hr'⟩ := of_drop hr
  subst hr'
  have hk1 := (List.getElem?_eq_some_iff.mp hp1).1
  have hx : 0 ≤ x := by
    rw [List.all_cons, Bool.and_eq_true] at h3
    have h5 : Km264Neutral.natural x 32 = true := h3.1
    unfold Km264Neutral.natural at h5
    rw [Bool.and_eq_true, decide_eq_true_eq] at h5
    exact h5.1
  obtain ⟨j, rfl⟩ := Int.eq_ofNat_of_zero_le hx
  have hc : Km264Neutral.callOf [[0, (j : Int)]] = some (.start j) := rfl
  refine ⟨j, hp1, fun z => ⟨s, hR, ?_⟩, fun z => ⟨some (end0 j), rel_fresh z, ?_⟩⟩
  · have hd : ∀ a : End, a.does (.start j) = (a, [], .num (-22)) := fun a => if_pos z
    have hs : Km264Neutral.step s [[0, (j : Int)]] = (s, said (-22) [] []) := by
      cases s with
      | none => exact step_none (hd _)
      | some e => exact step_some (hd _)
    exact due_next h1' h2 h3 h4 hs hl (by decide) (by omega) (by omega)
  · have z' : ¬ 1 < j := by omega
    have hd : ∀ a : End, a.does (.start j) = (end0 j, [.light 0], .num 0) := fun a => if_neg z'
    have hs : Km264Neutral.step s [[0, (j : Int)]] = (some (end0 j), said 0 [] [[1, 0]]) := by
      cases s with
      | none => exact step_none0 (hd _)
      | some e => exact step_some (hd _)
    exact due_next h1' h2 h3 h4 hs hl (by decide) (by omega) (by omega)
end LL

namespace LL
open PySem PySem.Spec PyProof.Rows L2

/-! ### the text by places -/
def top (i : Nat) : Stmt := PySem.Challenge.pw_lanelight_s01_answers.main.body.getD i (.Pass ⟨0, 0, 0, 0⟩)

/-! ### rows of numbers -/
def nl (l : List Nat) : List V := l.map fun (x : Nat) => V.int (x : Int)
def il (l : List Int) : List V := l.map V.int
theorem nl_get {l : List Nat} {i x : Nat} (h : l[i]? = some x) : (nl l)[i]? = some (V.int (x : Int)) := by
  unfold nl
  rw [List.getElem?_map, h]
  rfl
theorem nl_of {l : List Nat} {i : Nat} {v : V} (h : (nl l)[i]? = some v) : ∃ x, l[i]? = some x ∧ v = V.int (x : Int) := by
  unfold nl at h
  rw [List.getElem?_map] at h
  cases e : l[i]? with
  | none =>
    rw [e] at h
    cases h
  | some x =>
    rw [e] at h
    exact ⟨x, rfl, (Option.some.inj h).symm⟩
theorem nl_length (l : List Nat) : (nl l).length = l.length := by
  unfold nl
  rw [List.length_map]
theorem nl_append (a b : List Nat) : nl (a ++ b) = nl a ++ nl b := by
  unfold nl
  rw [List.map_append]
theorem nl_take (a : List Nat) (n : Nat) : nl (a.take n) = (nl a).take n := by
  unfold nl
  rw [List.map_take]
theorem il_length (l : List Int) : (il l).length = l.length := by
  unfold il
  rw [List.length_map]
theorem il_append (a b : List Int) : il (a ++ b) = il a ++ il b := by
  unfold il
  rw [List.map_append]
theorem il_nums (l : List Nat) : il (Km264Neutral.nums l) = nl l := by
  unfold il nl Km264Neutral.nums
  rw [List.map_map]
  rfl
theorem il_get {l : List Int} {i : Nat} {x : Int} (h : l[i]? = some x) : (il l)[i]? = some (V.int x) := by
  unfold il
  rw [List.getElem?_map, h]
  rfl

/-! ### what the top has written: constants, defs, methods -/
structure GI (mg : Str → Option Value) (x : Str) (i : Int) : Prop where
  ex : ∃ t, mg x = some (.int i t)
theorem pe_gi {X : Cx} {x : Str} {i : Int} {pos : Pos} (h : GI X.mg x i) (hg : Gl X x := by rfl) (hd : (x == ("__debug__" : Str)) = false := by decide) : PE X (.Name x pos) (tC (.int i)) := by
  obtain ⟨t, e⟩ := h.ex
  exact pe_glob hg e ⟨t, rfl⟩ hd
section
variable (P : Program) (w : World) (K : PySem.W.Frag) (mg : Str → Option Value) (base : Heap)
structure Fn (k : Nat) (x : Str) (ps : List Str) (sp : Sp) : Prop where
  ex : ∃ f fd, mg x = some (.ref f) ∧ PySem.W.keepIn K (.ref f) = true ∧ Binds K fd ps [] ∧ FnOk P w K mg base CX0 k f fd ps sp
structure Md (C : Addr) (k : Nat) (x : Str) (ps : List Str) (sp : Sp) : Prop where
  ex : ∃ f fd, Meth K C x f ∧ Binds K fd ps [] ∧ FnOk P w K mg base CX0 k f fd ps sp
structure Ctor (C : Addr) (k : Nat) (x : Str) (ps : List Str) (sp : Sp) : Prop where
  ex : ∃ f fd, mg x = some (.ref C) ∧ Mk K C f ∧ Binds K fd ps [] ∧ FnOk P w K mg base CX0 k f fd ps sp
end
section
variable {X : Cx} {C : Addr} {k : Nat} {x : Str} {ps : List Str} {sp : Sp} {p pos apos : Pos} {o e : Expr} {es : List Expr} {t : TA} {ta : TE}
theorem pe_fn (F : Fn X.prog X.w X.K X.mg X.base k x ps sp) (hr : Room k X.A) (ha : PA X (e :: es) t) (hg : Gl X x := by rfl) (hdb : (x == ("__debug__" : Str)) = false := by decide)
    (he : starEach (e :: es) X.env = (false, eval e X.env) :: starEach es X.env := by rfl) (hpl : (backTo pos (starEach es X.env)).any (·.1) = false := by rfl) : PE X (.Call (.Name x p) (e :: es) [] pos) (tCall sp [] E0 t) := by
  obtain ⟨f, fd, h1, h2, h3, h4⟩ := F.ex
  exact pe_call h4 hr hg h1 h2 h3 .nil pass0 ha hdb he hpl
theorem pe_ctor (F : Ctor X.prog X.w X.K X.mg X.base C k x ps sp) (hr : Room (k + 1) X.A) (ha : PA X (e :: es) t) (hg : Gl X x := by rfl) (hdb : (x == ("__debug__" : Str)) = false := by decide)
    (he : starEach (e :: es) X.env = (false, eval e X.env) :: starEach es X.env := by rfl) (hpl : (backTo pos (starEach es X.env)).any (·.1) = false := by rfl) : PE X (.Call (.Name x p) (e :: es) [] pos) (tMake C sp [] E0 t) := by
  obtain ⟨f, fd, h1, h2, h3, h4⟩ := F.ex
  exact pe_make h2 h4 hr hg h1 h3 .nil pass0 ha hdb he hpl
theorem pe_md {pl : Sem Bool} (ho : PE X o ta) (c : Cls X.K C) (F : Md X.prog X.w X.K X.mg X.base C k x ps sp) (hr : Room k X.A) (ha : PA X (e :: es) t)
    (hst : starEach (e :: es) X.env = (false, eval e X.env) :: starEach es X.env := by rfl) (hpl : (backTo pos (starEach es X.env)).any (·.1) = false := by rfl)
    (ht : eval (.Call (.Attribute o x apos) (e :: es) [] pos) X.env = (do
      let ov ← eval o X.env
      standAt apos.atName
      let (f, first) ← holding [ov] (getMethod ov x pl)
      callWith pos f first (backTo pos (starEach (e :: es) X.env)) (backToKw pos (keywordEach [] X.env))) := by rfl) :
    PE X (.Call (.Attribute o x apos) (e :: es) [] pos) (tMeth C x sp [] E0 ta t) := by
  obtain ⟨f, fd, h1, h2, h3⟩ := F.ex
  exact pe_meth ho c h1 h3 hr h2 .nil pass0 ha hst hpl ht
theorem pe_md0 {pl : Sem Bool} (ho : PE X o ta) (c : Cls X.K C) (F : Md X.prog X.w X.K X.mg X.base C k x ps sp) (hr : Room k X.A)
    (ht : eval (.Call (.Attribute o x apos) [] [] pos) X.env = (do
      let ov ← eval o X.env
      standAt apos.atName
      let (f, first) ← holding [ov] (getMethod ov x pl)
      callWith pos f first (backTo pos (starEach [] X.env)) (backToKw pos (keywordEach [] X.env))) := by rfl) :
    PE X (.Call (.Attribute o x apos) [] [] pos) (tMeth C x sp [] E0 ta tNil) := by
  obtain ⟨f, fd, h1, h2, h3⟩ := F.ex
  exact pe_meth0 ho c h1 h3 hr h2 .nil pass0 ht
end
/-! ### tests whose answer is known -/
theorem if_true_of {c : Bool} {A B : Prop} (hc : c = true) (h : A) : if c = true then A else B := by
  rw [if_pos hc]
  exact h
theorem if_false_of {c : Bool} {A B : Prop} (hc : c = false) (h : B) : if c = true then A else B := by
  rw [hc, if_neg Bool.false_ne_true]
  exact h
theorem eq_nat (a b : Nat) : decide (V.int (a : Int) = V.int (b : Int)) = decide (a = b) := by
  by_cases h : a = b
  · subst h
    rw [decide_eq_true rfl, decide_eq_true rfl]
  · rw [decide_eq_false h, decide_eq_false]
    intro z
    injection z with z
    omega
theorem eq_int (a b : Int) : decide (V.int a = V.int b) = decide (a = b) := by
  by_cases h : a = b
  · subst h
    rw [decide_eq_true rfl, decide_eq_true rfl]
  · rw [decide_eq_false h, decide_eq_false]
    intro z
    injection z with z
    exact h z
theorem eq_yes {a b : Int} (h : a = b) : decide (V.int a = V.int b) = true := by
  rw [eq_int]
  exact decide_eq_true h
theorem eq_no {a b : Int} (h : ¬ a = b) : decide (V.int a = V.int b) = false := by
  rw [eq_int]
  exact decide_eq_false h
theorem ne_yes {a b : Int} (h : ¬ a = b) : (!decide (V.int a = V.int b)) = true := by
  rw [eq_no h]
  rfl
theorem ne_no {a b : Int} (h : a = b) : (!decide (V.int a = V.int b)) = false := by
  rw [eq_yes h]
  rfl
/-! ### heaps -/
theorem same_upd {H : Hp} {p : Addr} {o : HO} (h : H p = none) : Same H (upd H p o) := fun b u q => by
  rw [upd_ne (ne_of_none q h)]
  exact q
theorem same_updS {H H' : Hp} {p : Addr} {o : HO} (s : Same H H') (h : H p = none) : Same H (L2.upd H' p o) := fun b u q => by
  rw [upd_ne (ne_of_none q h)]
  exact s b u q
/-- what the program's text leaves to its defs -/
structure Txt (K : PySem.W.Frag) (mg : Str → Option Value) (C : Addr) : Prop where
  cl : Cls K C
  nMe : NoAttr K C "me"
  nTurn : NoAttr K C "turn"
  nIns : NoAttr K C "drove_in"
  nOuts : NoAttr K C "came_out"
  nStand : NoAttr K C "stand"
  nHad : NoAttr K C "was_had"
  nGreen : NoAttr K C "green"
  nOther : NoAttr K C "other_in"
  nTicks : NoAttr K C "ticks"
  gSTART : GI mg "START" 0
  gGREEN : GI mg "GREEN" 1
  gRED : GI mg "RED" 2
  gIN : GI mg "IN" 3
  gOUT : GI mg "OUT" 4
  gGIVE : GI mg "GIVE" 5
  gHEARD : GI mg "HEARD" 6
  gSTATE : GI mg "STATE" 8
  gWIDE : GI mg "WIDE" 4
  gPOLY : GI mg "POLYNOMIAL" 2197175160
  gONES : GI mg "ONES" 4294967295
  gLONG : GI mg "LONG" 16
  gCHECKED : GI mg "CHECKED" 12
  gGIVEN : GI mg "GIVEN" 1
  gHAD : GI mg "HAD" 2
  gSEND : GI mg "SEND" 0
  gLIGHT : GI mg "LIGHT" 1
  gTELLS : GI mg "TELLS" 2
  gHASIT : GI mg "HAS_IT_NOW" 1
  gDROVE : GI mg "DROVE_IN_AT_RED" 2
  gGAVE : GI mg "GAVE" 0
  gHAS : GI mg "HAS" 1
  gWAITS : GI mg "WAITS" 2
  gEVERY : GI mg "EVERY" 10
  len : mg "len" = none
  range : mg "range" = none
  list : mg "list" = none
end LL

namespace LL
open PySem PySem.Spec PyProof.Rows L2

/-! ### promises -/
def spFourBytes : Sp := fun vs H Q _ => ∃ n : Nat, vs = [.int (n : Int)] ∧ ∀ H' p, Same H H' → H p = none → H' p = some (.lst (nl (Km264.le 4 n))) → Q (.ref p) H'
def spFourAt : Sp := fun vs H Q _ => ∃ (r : Addr) (l : List Nat) (k : Nat), vs = [.ref r, .int (k : Int)] ∧ H r = some (.lst (nl l)) ∧ k + 4 ≤ l.length ∧ Q (.int (Km264.at_ l k 4 : Nat)) H
def spWithoutBit : Sp := fun vs H Q _ => ∃ n : Nat, vs = [.int (n : Int)] ∧ Q (.int (Km264.crcBit n : Nat)) H
def spWithByte : Sp := fun vs H Q _ => ∃ c b : Nat, vs = [.int (c : Int), .int (b : Int)] ∧ Q (.int (Km264.crcByte c b : Nat)) H
def spCheckOf : Sp := fun vs H Q _ => ∃ (r : Addr) (l : List Nat), vs = [.ref r] ∧ H r = some (.lst (nl l)) ∧ Q (.int (Km264.crc l : Nat)) H
abbrev sFourBytes : Stmt := top 14
abbrev sFourAt : Stmt := top 15
abbrev sWithoutBit : Stmt := top 19
abbrev sWithByte : Stmt := top 20
abbrev sCheckOf : Stmt := top 21
section
variable {P : Program} {w : World} {K : PySem.W.Frag} {mg : Str → Option Value} {base : Heap} {C : Addr} {f : Addr} {fd : FuncData}
theorem scFourBytes : FnScope ["number", "found", "rest", "place"] ["number"] (defScope sFourBytes) := ⟨rfl, rfl, rfl, by decide +kernel, rfl, by decide +kernel, by decide +kernel⟩
theorem ok_four_bytes (F : Fun K "four_bytes" "four_bytes" sFourBytes f fd) (T : Txt K mg C) : FnOk P w K mg base CX0 1 f fd ["number"] spFourBytes := by
  refine F.ok scFourBytes (fun vs H Q E h => ?_) (fun cdv A outer s H vs Q E hr h => ?_)
  · obtain ⟨n, rfl, _⟩ := h
    rfl
  obtain ⟨n, rfl, k⟩ := h
  refine ⟨_, pss_cons (ps_set (i := 1) scFourBytes.nd rfl (Or.inl rfl) (pe_lst pa_nil))
    (pss_cons (ps_set (i := 2) scFourBytes.nd rfl (Or.inl rfl) (pv 0))
    (pss_cons (ps_for PassesOwn.never rfl (pi_range1 rfl T.range (pa_cons (pe_gi T.gWIDE) pa_nil)) (pg_name (i := 3) scFourBytes.nd rfl (Or.inl rfl))
      (pss_cons (ps_expr (pe_bm PySem.F.plainAttrs_list PySem.F.slot_list_append PySem.F.type_list_append mt_append (pv 1) (pa_cons (pe_op op_mod (pv 2) pe_int) pa_nil)))
      (pss_one (ps_set (i := 2) scFourBytes.nd rfl (Or.inl rfl) (pe_op op_fdiv (pv 2) pe_int)))))
    (pss_one (ps_ret (pv 1))))), ?_⟩
  refine ⟨Nat.zero_le _, fun p hp => ?_⟩
  refine ⟨_, rfl, ?_⟩
  refine ⟨4, rfl, by decide, by decide, for_range (lo := 0) (n := 4) (fun i σ H' => ∃ v : Option V, σ = [some (.int (n : Int)), some (.ref p), some (.int ((n / 256 ^ i : Nat) : Int)), v] ∧ Same H H' ∧ H' p = some (.lst (nl (Km264.le i n))))
    ⟨none, by rw [Nat.pow_zero, Nat.div_one]; rfl, same_upd hp, upd_same⟩ ?_ ?_⟩
  · rintro i σ H' hi ⟨v, rfl, s1, h1⟩
    refine ⟨_, rfl, .inl ⟨rfl, _, SqL.of h1⟩, _, rfl, _, _, rfl, rfl, (by show (0 : Int) < 256; decide), p, _, _, rfl, rfl, h1, ?_, ?_⟩
    · rw [nl_length, le_length]
      exact Nat.lt_trans hi (by decide)
    refine ⟨_, rfl, _, _, rfl, rfl, ⟨by decide, by decide⟩, ?_⟩
    refine ⟨some (.int (0 + (i : Int))), ?_, same_updS s1 hp, ?_⟩
    · rw [← div_pow, Int.natCast_ediv]
      rfl
    · rw [upd_same, le_succ, nl_append]
      refine congrArg (fun z => some (HO.lst (nl (Km264.le i n) ++ [V.int z]))) ?_
      exact (Int.natCast_emod _ _).symm
  · rintro σ H' ⟨v, rfl, s1, h1⟩
    exact ⟨_, rfl, k _ _ s1 hp h1⟩
theorem scFourAt : FnScope ["row", "at", "found", "place"] ["row", "at"] (defScope sFourAt) := ⟨rfl, rfl, rfl, by decide +kernel, rfl, by decide +kernel, by decide +kernel⟩
theorem ok_four_at (F : Fun K "four_at" "four_at" sFourAt f fd) (T : Txt K mg C) : FnOk P w K mg base CX0 1 f fd ["row", "at"] spFourAt := by
  refine F.ok scFourAt (fun vs H Q E h => ?_) (fun cdv A outer s H vs Q E hr h => ?_)
  · obtain ⟨r, l, n, rfl, _⟩ := h
    rfl
  obtain ⟨r, l, n, rfl, h1, hn, k⟩ := h
  refine ⟨_, pss_cons (ps_set (i := 2) scFourAt.nd rfl (Or.inl rfl) pe_int)
    (pss_cons (ps_for PassesOwn.never rfl (pi_range1 rfl T.range (pa_cons (pe_gi T.gWIDE) pa_nil)) (pg_name (i := 3) scFourAt.nd rfl (Or.inl rfl))
      (pss_one (ps_set (i := 2) scFourAt.nd rfl (Or.inl rfl) (pe_op op_add (pe_op op_mul (pv 2) pe_int)
        (pe_ix ix_list (pv 0) (pe_op op_sub (pe_op op_sub (pe_op op_add (pv 1) (pe_gi T.gWIDE)) pe_int) (pv 3)) (fun _ _ => rfl))))))
    (pss_one (ps_ret (pv 2)))), ?_⟩
  refine ⟨4, rfl, by decide, by decide, for_range (lo := 0) (n := 4) (fun i σ H' => ∃ v : Option V, σ = [some (.ref r), some (.int (n : Int)), some (.int ((Km264.at_ l (n + 4 - i) i : Nat) : Int)), v] ∧ H' = H)
    ⟨none, by rw [at_zero]; rfl, rfl⟩ ?_ ?_⟩
  · rintro i σ H' hi ⟨v, rfl, rfl⟩
    have hj : n + 3 - i < l.length := by omega
    have hx := List.getElem?_eq_getElem hj
    refine ⟨_, rfl, _, _, rfl, rfl, .inr ⟨by decide, by decide⟩, _, rfl, _, rfl, _, _, rfl, rfl, _, _, rfl, rfl, _, rfl, _, _, rfl, rfl, r, _, _, _, rfl, rfl, SqL.of h1, at_of (j := n + 3 - i) (by omega) (nl_get hx), _, _, rfl, rfl, ?_⟩
    refine ⟨some (.int (0 + (i : Int))), ?_, rfl⟩
    have e1 : n + 4 - (i + 1) = n + 3 - i := by omega
    have e2 : n + 3 - i + 1 = n + 4 - i := by omega
    rw [e1, at_succ hx, e2]
    rfl
  · rintro σ H' ⟨v, rfl, rfl⟩
    exact ⟨_, rfl, k⟩
theorem scWithoutBit : FnScope ["rest"] ["rest"] (defScope sWithoutBit) := ⟨rfl, rfl, rfl, by decide +kernel, rfl, by decide +kernel, by decide +kernel⟩
theorem and_one (n : Nat) : Builtin.bitAnd (n : Int) 1 = ((n % 2 : Nat) : Int) := by
  rw [bitAnd_m1]
  rfl
theorem xor_nat (a b : Nat) : Builtin.bitXor (a : Int) (b : Int) = ((a ^^^ b : Nat) : Int) := by
  rw [Bits.bitXor_pp (by omega) (by omega), Int.toNat_natCast, Int.toNat_natCast]
theorem shr_nat (n : Nat) : (n : Int) / 2 ^ (1 : Int).toNat = ((n / 2 : Nat) : Int) := by
  rfl
theorem ok_without_bit (F : Fun K "without_bit" "without_bit" sWithoutBit f fd) (T : Txt K mg C) : FnOk P w K mg base CX0 1 f fd ["rest"] spWithoutBit := by
  refine F.ok scWithoutBit (fun vs H Q E h => ?_) (fun cdv A outer s H vs Q E hr h => ?_)
  · obtain ⟨n, rfl, _⟩ := h
    rfl
  obtain ⟨n, rfl, k⟩ := h
  refine ⟨_, pss_cons (ps_if (pt_cmpR op_eq (pe_op op_and (pv 0) pe_int) pe_int (nomark _)) (pss_one (ps_ret (pe_op op_xor (pe_op op_shr (pv 0) pe_int) (pe_gi T.gPOLY)))) pss_nil)
    (pss_one (ps_ret (pe_op op_shr (pv 0) pe_int))), ?_⟩
  refine ⟨_, rfl, _, _, rfl, rfl, rfl, _, rfl, ?_⟩
  unfold Km264.crcBit at k
  by_cases z : n % 2 = 1
  · refine if_true_of (eq_yes (by rw [and_one, z]; rfl)) ?_
    rw [if_pos z] at k
    refine ⟨_, rfl, _, _, rfl, rfl, (by show (0 : Int) ≤ 1; decide), _, _, rfl, rfl, ?_⟩
    have e := xor_nat (n / 2) 2197175160
    rw [← e] at k
    exact k
  · refine if_false_of (eq_no (by rw [and_one]; omega)) ?_
    rw [if_neg z] at k
    refine ⟨_, rfl, _, _, rfl, rfl, (by show (0 : Int) ≤ 1; decide), ?_⟩
    exact k
theorem scWithByte : FnScope ["rest", "byte", "turn"] ["rest", "byte"] (defScope sWithByte) := ⟨rfl, rfl, rfl, by decide +kernel, rfl, by decide +kernel, by decide +kernel⟩
theorem ok_with_byte (F : Fun K "with_byte" "with_byte" sWithByte f fd) (T : Txt K mg C) (F1 : Fn P w K mg base 1 "without_bit" ["rest"] spWithoutBit) : FnOk P w K mg base CX0 2 f fd ["rest", "byte"] spWithByte := by
  refine F.ok scWithByte (fun vs H Q E h => ?_) (fun cdv A outer s H vs Q E hr h => ?_)
  · obtain ⟨c, b, rfl, _⟩ := h
    rfl
  obtain ⟨c, b, rfl, k⟩ := h
  refine ⟨_, pss_cons (ps_set (i := 0) scWithByte.nd rfl (Or.inl rfl) (pe_op op_xor (pv 0) (pv 1)))
    (pss_cons (ps_for PassesOwn.never rfl (pi_range1 rfl T.range (pa_cons pe_int pa_nil)) (pg_name (i := 2) scWithByte.nd rfl (Or.inl rfl))
      (pss_one (ps_set (i := 0) scWithByte.nd rfl (Or.inl rfl) (pe_fn F1 hr (pa_cons (pv 0) pa_nil)))))
    (pss_one (ps_ret (pv 0)))), ?_⟩
  refine ⟨_, rfl, _, rfl, _, _, rfl, rfl, ?_⟩
  refine ⟨8, rfl, by decide, by decide, for_range (lo := 0) (n := 8) (fun i σ H' => ∃ v : Option V, σ = [some (.int ((bits c b i : Nat) : Int)), some (.int (b : Int)), v] ∧ H' = H)
    ⟨none, by rw [bits_zero, ← xor_nat]; rfl, rfl⟩ ?_ ?_⟩
  · rintro i σ H' hi ⟨v, rfl, rfl⟩
    refine ⟨_, rfl, _, rfl, ?_⟩
    refine ⟨some (.int (0 + (i : Int))), ?_, rfl⟩
    rw [bits_succ]
    rfl
  · rintro σ H' ⟨v, rfl, rfl⟩
    exact ⟨_, rfl, k⟩
theorem scCheckOf : FnScope ["row", "rest", "byte"] ["row"] (defScope sCheckOf) := ⟨rfl, rfl, rfl, by decide +kernel, rfl, by decide +kernel, by decide +kernel⟩
theorem ok_check_of (F : Fun K "check_of" "check_of" sCheckOf f fd) (T : Txt K mg C) (F1 : Fn P w K mg base 2 "with_byte" ["rest", "byte"] spWithByte) : FnOk P w K mg base CX0 3 f fd ["row"] spCheckOf := by
  refine F.ok scCheckOf (fun vs H Q E h => ?_) (fun cdv A outer s H vs Q E hr h => ?_)
  · obtain ⟨r, l, rfl, _⟩ := h
    rfl
  obtain ⟨r, l, rfl, h1, k⟩ := h
  refine ⟨_, pss_cons (ps_set (i := 1) scCheckOf.nd rfl (Or.inl rfl) (pe_gi T.gONES))
    (pss_cons (ps_for PassesOwn.never rfl (pi_list (pv 0)) (pg_name (i := 2) scCheckOf.nd rfl (Or.inl rfl))
      (pss_one (ps_set (i := 1) scCheckOf.nd rfl (Or.inl rfl) (pe_fn F1 hr (pa_cons (pv 1) (pa_cons (pv 2) pa_nil))))))
    (pss_one (ps_ret (pe_op op_xor (pv 1) (pe_gi T.gONES))))), ?_⟩
  refine ⟨_, rfl, r, rfl, ⟨_, SqL.of h1⟩, for_list (K := K) (a := r) (xs := nl l) (fun i σ H' => ∃ v : Option V, σ = [some (.ref r), some (.int ((upTo l i : Nat) : Int)), v] ∧ H' = H)
    ⟨none, by rw [upTo_zero]; rfl, rfl⟩ (fun i σ H' _ ⟨_, _, e⟩ => by rw [e]; exact SqL.of h1) ?_ ?_⟩
  · rintro i y σ H' hi ⟨v, rfl, rfl⟩
    obtain ⟨x, hx, rfl⟩ := nl_of hi
    refine ⟨_, rfl, _, rfl, _, _, rfl, ?_⟩
    refine ⟨some (.int (x : Int)), ?_, rfl⟩
    rw [upTo_succ hx]
    rfl
  · rintro σ H' ⟨v, rfl, rfl⟩
    rw [nl_length]
    refine ⟨_, rfl, _, _, rfl, rfl, ?_⟩
    have e := xor_nat (upTo l l.length) 4294967295
    have e2 : Builtin.bitXor ((upTo l l.length : Nat) : Int) 4294967295 = ((Km264.crc l : Nat) : Int) := by
      rw [← upTo_all]
      exact e
    rw [← e2] at k
    exact k
end
end LL

namespace LL
open PySem PySem.Spec PyProof.Rows L2

/-! ### promises -/
def spMessage : Sp := fun vs H Q _ => ∃ k o t c : Nat, vs = [.int (k : Int), .int (o : Int), .int (t : Int), .int (c : Int)] ∧
  ∀ H' p, Same H H' → H p = none → H' p = some (.lst (nl (Km264.Msg.bytes ⟨k, o, t, c⟩))) → Q (.ref p) H'
/-- of sixteen bytes a value, the heap as it was -/
def spRow (g : List Nat → V) : Sp := fun vs H Q _ => ∃ (r : Addr) (l : List Nat), vs = [.ref r] ∧ H r = some (.lst (nl l)) ∧ l.length = 16 ∧ Q (g l) H
/-- of sixteen bytes a value, all that stood as it was -/
def spRowS (g : List Nat → V) : Sp := fun vs H Q _ => ∃ (r : Addr) (l : List Nat), vs = [.ref r] ∧ H r = some (.lst (nl l)) ∧ l.length = 16 ∧ ∀ H', Same H H' → Q (g l) H'
def gKind (l : List Nat) : V := .int ((l.getD 0 0 : Nat) : Int)
def gTurn (l : List Nat) : V := .int ((Km264.at_ l 4 4 : Nat) : Int)
def gCount (l : List Nat) : V := .int ((Km264.at_ l 8 4 : Nat) : Int)
def gChecked (l : List Nat) : V := .bl (decide (Km264.at_ l 12 4 = Km264.crc (l.take 12)))
def gNoughts (l : List Nat) : V := .bl ((decide (l.getD 2 0 = 0) && decide (l.getD 3 0 = 0)) && (!decide (l.getD 0 0 = 2) || decide (Km264.at_ l 8 4 = 0)))
def spIsRight : Sp := fun vs H Q _ => ∃ (r : Addr) (l : List Nat) (me : Nat), vs = [.ref r, .int (me : Int)] ∧ H r = some (.lst (nl l)) ∧ ∀ H', Same H H' → Q (.bl (rightP me l)) H'
abbrev sMessage : Stmt := top 27
abbrev sKindOf : Stmt := top 28
abbrev sTurnOf : Stmt := top 29
abbrev sCountOf : Stmt := top 30
abbrev sIsChecked : Stmt := top 31
abbrev sHasNoughts : Stmt := top 32
abbrev sIsRight : Stmt := top 33
theorem getD_some {l : List Nat} {i : Nat} (h : i < l.length) : l[i]? = some (l.getD i 0) := by
  rw [List.getD_eq_getElem?_getD, List.getElem?_eq_getElem h]
  rfl
section
variable {P : Program} {w : World} {K : PySem.W.Frag} {mg : Str → Option Value} {base : Heap} {C : Addr} {f : Addr} {fd : FuncData}
theorem scMessage : FnScope ["kind", "of", "turn", "count", "row"] ["kind", "of", "turn", "count"] (defScope sMessage) := ⟨rfl, rfl, rfl, by decide +kernel, rfl, by decide +kernel, by decide +kernel⟩
theorem ok_message (F : Fun K "message" "message" sMessage f fd) (_T : Txt K mg C) (FB : Fn P w K mg base 1 "four_bytes" ["number"] spFourBytes) (CO : Fn P w K mg base 3 "check_of" ["row"] spCheckOf) :
    FnOk P w K mg base CX0 4 f fd ["kind", "of", "turn", "count"] spMessage := by
  refine F.ok scMessage (fun vs H Q E h => ?_) (fun cdv A outer s H vs Q E hr h => ?_)
  · obtain ⟨k, o, t, c, rfl, _⟩ := h
    rfl
  obtain ⟨k, o, t, c, rfl, done⟩ := h
  have hr1 := hr.mono (show 1 ≤ 3 by decide)
  refine ⟨_, pss_cons (ps_set (i := 4) scMessage.nd rfl (Or.inl rfl) (pe_op op_cat (pe_op op_cat (pe_lst (pa_cons (pv 0) (pa_cons (pv 1) (pa_cons pe_int (pa_cons pe_int pa_nil)))))
      (pe_fn FB hr1 (pa_cons (pv 2) pa_nil))) (pe_fn FB hr1 (pa_cons (pv 3) pa_nil))))
    (pss_one (ps_ret (pe_op op_cat (pv 4) (pe_fn FB hr1 (pa_cons (pe_fn CO hr (pa_cons (pv 4) pa_nil)) pa_nil))))), ?_⟩
  refine ⟨_, rfl, _, rfl, (by show 4 ≤ sizeLine; decide), fun p1 n1 => ?_⟩
  have s1 : Same H _ := same_upd (o := .lst [.int (k : Int), .int (o : Int), .int 0, .int 0]) n1
  refine ⟨_, rfl, t, rfl, fun H2 p2 s2 n2 h2 => ?_⟩
  refine ⟨p1, p2, _, _, rfl, rfl, s2 _ _ upd_same, h2, ?_, fun p3 n3 => ?_⟩
  · rw [nl_length, le_length]
    show 4 + 4 ≤ sizeLine
    decide
  have s3 : Same H _ := (s1.trans s2).trans (same_upd (o := .lst ([.int (k : Int), .int (o : Int), .int 0, .int 0] ++ nl (Km264.le 4 t))) n3)
  refine ⟨_, rfl, c, rfl, fun H4 p4 s4 n4 h4 => ?_⟩
  refine ⟨p3, p4, _, _, rfl, rfl, s4 _ _ upd_same, h4, ?_, fun p5 n5 => ?_⟩
  · rw [List.length_append, nl_length, nl_length, le_length, le_length]
    show 4 + 4 + 4 ≤ sizeLine
    decide
  have e5 : ([.int (k : Int), .int (o : Int), .int 0, .int 0] ++ nl (Km264.le 4 t)) ++ nl (Km264.le 4 c) = nl (Km264.Msg.half ⟨k, o, t, c⟩) := by
    unfold Km264.Msg.half
    rw [nl_append, nl_append]
    rfl
  have s5 : Same H _ := (s3.trans s4).trans (same_upd (o := .lst (nl (Km264.Msg.half ⟨k, o, t, c⟩))) n5)
  rw [e5]
  refine ⟨_, rfl, _, rfl, p5, _, rfl, upd_same, _, rfl, fun H6 p6 s6 n6 h6 => ?_⟩
  refine ⟨p5, p6, _, _, rfl, rfl, s6 _ _ upd_same, h6, ?_, fun p7 n7 => ?_⟩
  · rw [nl_length, nl_length, le_length]
    unfold Km264.Msg.half
    rw [List.length_append, List.length_append, le_length, le_length]
    show 4 + 4 + 4 + 4 ≤ sizeLine
    decide
  have s7 := s5.trans s6
  refine done _ p7 (s7.trans (same_upd n7)) (s7.free n7) ?_
  rw [upd_same]
  unfold Km264.Msg.bytes
  rw [nl_append]
theorem scKindOf : FnScope ["row"] ["row"] (defScope sKindOf) := ⟨rfl, rfl, rfl, by decide +kernel, rfl, by decide +kernel, by decide +kernel⟩
theorem ok_kind_of (F : Fun K "kind_of" "kind_of" sKindOf f fd) : FnOk P w K mg base CX0 1 f fd ["row"] (spRow gKind) := by
  refine F.ok scKindOf (fun vs H Q E h => ?_) (fun cdv A outer s H vs Q E hr h => ?_)
  · obtain ⟨r, l, rfl, _⟩ := h
    rfl
  obtain ⟨r, l, rfl, h1, h16, k⟩ := h
  refine ⟨_, pss_one (ps_ret (pe_ix ix_list (pv 0) pe_int (fun _ _ => rfl))), ?_⟩
  exact ⟨_, rfl, r, _, _, _, rfl, rfl, SqL.of h1, at_of (j := 0) rfl (nl_get (getD_some (by omega))), k⟩
theorem scTurnOf : FnScope ["row"] ["row"] (defScope sTurnOf) := ⟨rfl, rfl, rfl, by decide +kernel, rfl, by decide +kernel, by decide +kernel⟩
theorem ok_turn_of (F : Fun K "turn_of" "turn_of" sTurnOf f fd) (FA : Fn P w K mg base 1 "four_at" ["row", "at"] spFourAt) : FnOk P w K mg base CX0 2 f fd ["row"] (spRow gTurn) := by
  refine F.ok scTurnOf (fun vs H Q E h => ?_) (fun cdv A outer s H vs Q E hr h => ?_)
  · obtain ⟨r, l, rfl, _⟩ := h
    rfl
  obtain ⟨r, l, rfl, h1, h16, k⟩ := h
  refine ⟨_, pss_one (ps_ret (pe_fn FA hr (pa_cons (pv 0) (pa_cons pe_int pa_nil)))), ?_⟩
  exact ⟨_, rfl, r, l, 4, rfl, h1, by omega, k⟩
theorem scCountOf : FnScope ["row"] ["row"] (defScope sCountOf) := ⟨rfl, rfl, rfl, by decide +kernel, rfl, by decide +kernel, by decide +kernel⟩
theorem ok_count_of (F : Fun K "count_of" "count_of" sCountOf f fd) (FA : Fn P w K mg base 1 "four_at" ["row", "at"] spFourAt) : FnOk P w K mg base CX0 2 f fd ["row"] (spRow gCount) := by
  refine F.ok scCountOf (fun vs H Q E h => ?_) (fun cdv A outer s H vs Q E hr h => ?_)
  · obtain ⟨r, l, rfl, _⟩ := h
    rfl
  obtain ⟨r, l, rfl, h1, h16, k⟩ := h
  refine ⟨_, pss_one (ps_ret (pe_fn FA hr (pa_cons (pv 0) (pa_cons pe_int pa_nil)))), ?_⟩
  exact ⟨_, rfl, r, l, 8, rfl, h1, by omega, k⟩
theorem scIsChecked : FnScope ["row"] ["row"] (defScope sIsChecked) := ⟨rfl, rfl, rfl, by decide +kernel, rfl, by decide +kernel, by decide +kernel⟩
theorem cut_take {l : List Nat} (n : Nat) : cutV (nl l) none (some (n : Int)) = nl (l.take n) := by
  unfold cutV
  rw [HT.sIx_none, HT.sIx_nat, List.drop_zero, Nat.sub_zero, nl_take]
  by_cases h : n ≤ (nl l).length
  · rw [Nat.min_eq_left h]
  · have h' : (nl l).length ≤ n := by omega
    rw [Nat.min_eq_right h', List.take_length, List.take_of_length_le h']
theorem ok_is_checked (F : Fun K "is_checked" "is_checked" sIsChecked f fd) (T : Txt K mg C) (FA : Fn P w K mg base 1 "four_at" ["row", "at"] spFourAt) (CO : Fn P w K mg base 3 "check_of" ["row"] spCheckOf) :
    FnOk P w K mg base CX0 4 f fd ["row"] (spRowS gChecked) := by
  refine F.ok scIsChecked (fun vs H Q E h => ?_) (fun cdv A outer s H vs Q E hr h => ?_)
  · obtain ⟨r, l, rfl, _⟩ := h
    rfl
  obtain ⟨r, l, rfl, h1, h16, k⟩ := h
  have hr1 := hr.mono (show 1 ≤ 3 by decide)
  refine ⟨_, pss_one (ps_ret (pe_cmpR op_eq (pe_fn FA hr1 (pa_cons (pv 0) (pa_cons (pe_gi T.gCHECKED) pa_nil)))
    (pe_fn CO hr (pa_cons (pe_slice sl_list (pv 0) po_none (po_some (pe_gi T.gCHECKED))) pa_nil)) (nomark _))), ?_⟩
  refine ⟨_, rfl, r, l, 12, rfl, h1, by omega, _, rfl, 12, rfl, r, _, rfl, SqL.of h1, fun p hp => ?_⟩
  refine ⟨p, l.take 12, rfl, ?_, rfl, ?_⟩
  · rw [upd_same]
    exact congrArg (fun z => some (HO.lst z)) (cut_take 12)
  · rw [eq_nat]
    exact k _ (same_upd hp)
theorem scHasNoughts : FnScope ["row"] ["row"] (defScope sHasNoughts) := ⟨rfl, rfl, rfl, by decide +kernel, rfl, by decide +kernel, by decide +kernel⟩
theorem ok_has_noughts (F : Fun K "has_noughts" "has_noughts" sHasNoughts f fd) (T : Txt K mg C) (CT : Fn P w K mg base 2 "count_of" ["row"] (spRow gCount)) :
    FnOk P w K mg base CX0 3 f fd ["row"] (spRow gNoughts) := by
  refine F.ok scHasNoughts (fun vs H Q E h => ?_) (fun cdv A outer s H vs Q E hr h => ?_)
  · obtain ⟨r, l, rfl, _⟩ := h
    rfl
  obtain ⟨r, l, rfl, h1, h16, k⟩ := h
  refine ⟨_, pss_cons (ps_if (PW.pt (pw_or (pt_cmpR op_ne (pe_ix ix_list (pv 0) pe_int (fun _ _ => rfl)) pe_int (nomark _)) (pw_or1 (pt_cmpR op_ne (pe_ix ix_list (pv 0) pe_int (fun _ _ => rfl)) pe_int (nomark _)))))
      (pss_one (ps_ret pe_bl)) pss_nil)
    (pss_one (ps_ret (pe_or (pe_cmpR op_ne (pe_ix ix_list (pv 0) pe_int (fun _ _ => rfl)) (pe_gi T.gHAD) (nomark _)) (pe_one (pe_cmpR op_eq (pe_fn CT hr (pa_cons (pv 0) pa_nil)) pe_int (nomark _)))))), ?_⟩
  unfold gNoughts at k
  refine ⟨_, rfl, r, _, _, _, rfl, rfl, SqL.of h1, at_of (j := 2) rfl (nl_get (getD_some (by omega))), rfl, _, rfl, ?_⟩
  by_cases z2 : l.getD 2 0 = 0
  · refine if_false_of (ne_no (by omega)) ?_
    refine ⟨_, rfl, r, _, _, _, rfl, rfl, SqL.of h1, at_of (j := 3) rfl (nl_get (getD_some (by omega))), rfl, _, rfl, ?_⟩
    rw [decide_eq_true z2] at k
    by_cases z3 : l.getD 3 0 = 0
    · refine if_false_of (ne_no (by omega)) ?_
      rw [decide_eq_true z3] at k
      refine ⟨_, rfl, r, _, _, _, rfl, rfl, SqL.of h1, at_of (j := 0) rfl (nl_get (getD_some (by omega))), rfl, _, rfl, ?_⟩
      by_cases z0 : l.getD 0 0 = 2
      · refine if_false_of (ne_no (by omega)) ?_
        rw [decide_eq_true z0] at k
        refine ⟨_, rfl, r, l, rfl, h1, h16, rfl, ?_⟩
        have e := eq_nat (Km264.at_ l 8 4) 0
        rw [← e] at k
        exact k
      · refine if_true_of (ne_yes (by omega)) ?_
        rw [decide_eq_false z0] at k
        exact k
    · refine if_true_of (ne_yes (by omega)) ?_
      rw [decide_eq_false z3] at k
      exact k
  · refine if_true_of (ne_yes (by omega)) ?_
    rw [decide_eq_false z2] at k
    exact k
theorem scIsRight : FnScope ["row", "me"] ["row", "me"] (defScope sIsRight) := ⟨rfl, rfl, rfl, by decide +kernel, rfl, by decide +kernel, by decide +kernel⟩
theorem ok_is_right (F : Fun K "is_right" "is_right" sIsRight f fd) (T : Txt K mg C) (HN : Fn P w K mg base 3 "has_noughts" ["row"] (spRow gNoughts)) (TO : Fn P w K mg base 2 "turn_of" ["row"] (spRow gTurn))
    (IC : Fn P w K mg base 4 "is_checked" ["row"] (spRowS gChecked)) : FnOk P w K mg base CX0 5 f fd ["row", "me"] spIsRight := by
  refine F.ok scIsRight (fun vs H Q E h => ?_) (fun cdv A outer s H vs Q E hr h => ?_)
  · obtain ⟨r, l, me, rfl, _⟩ := h
    rfl
  obtain ⟨r, l, me, rfl, h1, k⟩ := h
  have hr2 := hr.mono (show 2 ≤ 4 by decide)
  have hr3 := hr.mono (show 3 ≤ 4 by decide)
  refine ⟨_, pss_cons (ps_if (pt_cmpR op_ne (pe_callB call_len_seq (by rfl) T.len PySem.boot_len (pa_cons (pv 0) pa_nil)) (pe_gi T.gLONG) (nomark _)) (pss_one (ps_ret pe_bl)) pss_nil)
    (pss_cons (ps_if (PW.pt (pw_and (pt_cmpR op_ne (pe_ix ix_list (pv 0) pe_int (fun _ _ => rfl)) (pe_gi T.gGIVEN) (nomark _)) (pw_and1 (pt_cmpR op_ne (pe_ix ix_list (pv 0) pe_int (fun _ _ => rfl)) (pe_gi T.gHAD) (nomark _)))))
      (pss_one (ps_ret pe_bl)) pss_nil)
    (pss_cons (ps_if (pt_cmpR op_ne (pe_ix ix_list (pv 0) pe_int (fun _ _ => rfl)) (pe_op op_sub pe_int (pv 1)) (nomark _)) (pss_one (ps_ret pe_bl)) pss_nil)
    (pss_one (ps_ret (pe_and (pe_fn HN hr3 (pa_cons (pv 0) pa_nil)) (pe_and (pe_cmpR op_ne (pe_fn TO hr2 (pa_cons (pv 0) pa_nil)) pe_int (nomark _)) (pe_one (pe_fn IC hr (pa_cons (pv 0) pa_nil))))))))), ?_⟩
  refine ⟨_, rfl, r, _, rfl, .inl (SqL.of h1), rfl, _, rfl, ?_⟩
  rw [nl_length]
  unfold rightP at k
  by_cases z : l.length = 16
  · refine if_false_of (ne_no (by omega)) ?_
    rw [decide_eq_true z] at k
    refine ⟨_, rfl, r, _, _, _, rfl, rfl, SqL.of h1, at_of (j := 0) rfl (nl_get (getD_some (by omega))), rfl, _, rfl, ?_⟩
    have tail : (decide (l.getD 0 0 = 1) || decide (l.getD 0 0 = 2)) = true → tSeq (tIfS (tTest (tOp rNe (tOp (rIxL K) (tVar 0) (tC (.int 1))) (tOp (rI0 fun i j => .int (i - j)) (tC (.int 1)) (tVar 1)))) (tRet (tC (.bl false))) tNext)
        (tRet (tAndV (tCall (spRow gNoughts) [] E0 (tCons (tVar 0) tNil)) (tAndV (tOp rNe (tCall (spRow gTurn) [] E0 (tCons (tVar 0) tNil)) (tC (.int 0))) (tCall (spRowS gChecked) [] E0 (tCons (tVar 0) tNil)))))
        { nx := fun _ H' => Q .non H', rt := Q } (L2.start ["row", "me"] [.ref r, .int (me : Int)]) H := by
      intro hk
      rw [hk] at k
      refine ⟨_, rfl, r, _, _, _, rfl, rfl, SqL.of h1, at_of (j := 1) rfl (nl_get (getD_some (by omega))), _, rfl, _, _, rfl, rfl, rfl, _, rfl, ?_⟩
      by_cases z1 : ((l.getD 1 0 : Nat) : Int) = 1 - (me : Int)
      · refine if_false_of (ne_no z1) ?_
        rw [decide_eq_true z1] at k
        refine ⟨_, rfl, r, l, rfl, h1, z, _, rfl, ?_⟩
        cases q : ((decide (l.getD 2 0 = 0) && decide (l.getD 3 0 = 0)) && (!decide (l.getD 0 0 = 2) || decide (Km264.at_ l 8 4 = 0))) with
        | false =>
          refine iteF ?_
          have e : ∀ a b c d : Bool, (a && b) = false → (((((true && true && true) && a) && b) && c) && d) = false := by decide
          rw [e _ _ _ _ q] at k
          exact k _ (Same.refl _)
        | true =>
          refine iteT ?_
          refine ⟨_, rfl, r, l, rfl, h1, z, rfl, _, rfl, ?_⟩
          have e : ∀ a b c d : Bool, (a && b) = true → (((((true && true && true) && a) && b) && c) && d) = (c && d) := by decide
          rw [e _ _ _ _ q] at k
          by_cases zt : Km264.at_ l 4 4 = 0
          · refine if_false_of (ne_no (by omega)) ?_
            rw [decide_eq_true zt] at k
            exact k _ (Same.refl _)
          · refine if_true_of (ne_yes (by omega)) ?_
            rw [decide_eq_false zt] at k
            refine ⟨_, rfl, r, l, rfl, h1, z, fun H' s' => k _ s'⟩
      · refine if_true_of (ne_yes z1) ?_
        rw [decide_eq_false z1] at k
        exact k _ (Same.refl _)
    by_cases z1 : l.getD 0 0 = 1
    · refine if_false_of (ne_no (by omega)) ?_
      exact iteF (tail (by rw [decide_eq_true z1]; rfl))
    · refine if_true_of (ne_yes (by omega)) ?_
      refine ⟨_, rfl, r, _, _, _, rfl, rfl, SqL.of h1, at_of (j := 0) rfl (nl_get (getD_some (by omega))), rfl, _, rfl, ?_⟩
      by_cases z2 : l.getD 0 0 = 2
      · refine if_false_of (ne_no (by omega)) ?_
        exact tail (by rw [decide_eq_true z2, Bool.or_true])
      · refine if_true_of (ne_yes (by omega)) ?_
        rw [decide_eq_false z1, decide_eq_false z2] at k
        exact k _ (Same.refl _)
  · refine if_true_of (ne_yes (by omega)) ?_
    rw [decide_eq_false z] at k
    exact k _ (Same.refl _)
end
end LL

namespace LL
open PySem PySem.Spec PyProof.Rows L2

/-! ### things told, as they lie in the heap -/
def Rows (H : Hp) : List Addr → List (List Int) → Prop
  | [], [] => True
  | r :: rs, x :: xs => H r = some (.lst (il x)) ∧ Rows H rs xs
  | [], _ :: _ => False
  | _ :: _, [] => False
theorem Rows.get {H : Hp} : ∀ {rs : List Addr} {ts : List (List Int)} {i : Nat} {r : Addr}, Rows H rs ts → rs[i]? = some r → ∃ x, ts[i]? = some x ∧ H r = some (.lst (il x))
  | [], _, _, _, _, e => by simp at e
  | _ :: _, [], _, _, h, _ => h.elim
  | a :: rs, x :: ts, 0, r, h, e => by
    have e' : a = r := Option.some.inj e
    subst e'
    exact ⟨x, rfl, h.1⟩
  | a :: rs, x :: ts, i + 1, r, h, e => Rows.get (i := i) h.2 e
theorem Rows.mono {H H' : Hp} (s : Same H H') : ∀ {rs : List Addr} {ts : List (List Int)}, Rows H rs ts → Rows H' rs ts
  | [], [], _ => trivial
  | [], _ :: _, h => h.elim
  | _ :: _, [], h => h.elim
  | _ :: _, _ :: _, h => ⟨s _ _ h.1, Rows.mono s h.2⟩
theorem Rows.length {H : Hp} : ∀ {rs : List Addr} {ts : List (List Int)}, Rows H rs ts → rs.length = ts.length
  | [], [], _ => rfl
  | [], _ :: _, h => h.elim
  | _ :: _, [], h => h.elim
  | _ :: _, _ :: _, h => congrArg (· + 1) (Rows.length h.2)
theorem Rows.append {H : Hp} {r : Addr} {x : List Int} (hx : H r = some (.lst (il x))) : ∀ {rs : List Addr} {ts : List (List Int)}, Rows H rs ts → Rows H (rs ++ [r]) (ts ++ [x])
  | [], [], _ => ⟨hx, trivial⟩
  | [], _ :: _, h => h.elim
  | _ :: _, [], h => h.elim
  | _ :: _, _ :: _, h => ⟨h.1, Rows.append hx h.2⟩
def Things (H : Hp) (t : Addr) (ts : List (List Int)) : Prop := ∃ rs : List Addr, H t = some (.lst (rs.map V.ref)) ∧ Rows H rs ts
theorem Things.mono {H H' : Hp} {t : Addr} {ts : List (List Int)} (s : Same H H') (h : Things H t ts) : Things H' t ts := by
  obtain ⟨rs, h1, h2⟩ := h
  exact ⟨rs, s _ _ h1, h2.mono s⟩
theorem Things.nil {H : Hp} {t : Addr} (h : H t = some (.lst [])) : Things H t [] := ⟨[], h, trivial⟩
theorem Things.one {H : Hp} {t r : Addr} {x : List Int} (h : H t = some (.lst [.ref r])) (hx : H r = some (.lst (il x))) : Things H t [x] := ⟨[r], h, hx, trivial⟩

/-! ### promises -/
def spSent : Sp := fun vs H Q _ => ∃ (r : Addr) (l : List Nat), vs = [.ref r] ∧ H r = some (.lst (nl l)) ∧ l.length ≤ 1000 ∧
  ∀ H' p, Same H H' → H p = none → H' p = some (.lst (il (0 :: Km264Neutral.nums l))) → Q (.ref p) H'
def spPair (z : Int) : Sp := fun vs H Q _ => ∃ g : Int, vs = [.int g] ∧ ∀ H' p, Same H H' → H p = none → H' p = some (.lst (il [z, g])) → Q (.ref p) H'
def spAnswered : Sp := fun vs H Q _ => ∃ (v : Int) (o t : Addr) (out : List Int) (ts : List (List Int)), vs = [.int v, .ref o, .ref t] ∧ H o = some (.lst (il out)) ∧ Things H t ts ∧ out.length ≤ 1000 ∧ ts.flatten.length ≤ 1000 ∧
  ∀ H' p, Same H H' → H p = none → H' p = some (.lst (il (pk (said v out ts)))) → Q (.ref p) H'
abbrev sSent : Stmt := top 40
abbrev sLit : Stmt := top 41
abbrev sTells : Stmt := top 42
abbrev sAnswered : Stmt := top 43
section
variable {P : Program} {w : World} {K : PySem.W.Frag} {mg : Str → Option Value} {base : Heap} {C : Addr} {f : Addr} {fd : FuncData}
theorem scSent : FnScope ["row"] ["row"] (defScope sSent) := ⟨rfl, rfl, rfl, by decide +kernel, rfl, by decide +kernel, by decide +kernel⟩
theorem ok_sent (F : Fun K "sent" "sent" sSent f fd) (T : Txt K mg C) : FnOk P w K mg base CX0 1 f fd ["row"] spSent := by
  refine F.ok scSent (fun vs H Q E h => ?_) (fun cdv A outer s H vs Q E hr h => ?_)
  · obtain ⟨r, l, rfl, _⟩ := h
    rfl
  obtain ⟨r, l, rfl, h1, hl, k⟩ := h
  refine ⟨_, pss_one (ps_ret (pe_op op_cat (pe_lst (pa_cons (pe_gi T.gSEND) pa_nil)) (pe_callTy call_list_of (by rfl) T.list (by decide +kernel) (pa_cons (pv 0) pa_nil)))), ?_⟩
  refine ⟨(by show 1 ≤ sizeLine; decide), fun p1 n1 => ?_⟩
  have s1 : Same H _ := same_upd (o := .lst [.int 0]) n1
  refine ⟨_, rfl, r, _, rfl, .inl (SqL.of (s1 _ _ h1)), fun p2 n2 => ?_⟩
  have s2 : Same H _ := s1.trans (same_upd (o := .lst (nl l)) n2)
  refine ⟨p1, p2, _, _, rfl, rfl, same_upd n2 _ _ upd_same, upd_same, ?_, fun p3 n3 => ?_⟩
  · rw [nl_length]
    exact Nat.le_trans (Nat.add_le_add_left hl 1) (by decide)
  · refine k _ p3 (s2.trans (same_upd n3)) (s2.free n3) ?_
    rw [upd_same]
    have e : il (0 :: Km264Neutral.nums l) = V.int 0 :: nl l := by
      rw [← il_nums]
      rfl
    rw [e]
    rfl
theorem scLit : FnScope ["green"] ["green"] (defScope sLit) := ⟨rfl, rfl, rfl, by decide +kernel, rfl, by decide +kernel, by decide +kernel⟩
theorem ok_lit (F : Fun K "lit" "lit" sLit f fd) (T : Txt K mg C) : FnOk P w K mg base CX0 1 f fd ["green"] (spPair 1) := by
  refine F.ok scLit (fun vs H Q E h => ?_) (fun cdv A outer s H vs Q E hr h => ?_)
  · obtain ⟨g, rfl, _⟩ := h
    rfl
  obtain ⟨g, rfl, k⟩ := h
  refine ⟨_, pss_one (ps_ret (pe_lst (pa_cons (pe_gi T.gLIGHT) (pa_cons (pv 0) pa_nil)))), ?_⟩
  exact ⟨_, rfl, (by show 2 ≤ sizeLine; decide), fun p hp => k _ p (same_upd hp) hp upd_same⟩
theorem scTells : FnScope ["what"] ["what"] (defScope sTells) := ⟨rfl, rfl, rfl, by decide +kernel, rfl, by decide +kernel, by decide +kernel⟩
theorem ok_tells (F : Fun K "tells" "tells" sTells f fd) (T : Txt K mg C) : FnOk P w K mg base CX0 1 f fd ["what"] (spPair 2) := by
  refine F.ok scTells (fun vs H Q E h => ?_) (fun cdv A outer s H vs Q E hr h => ?_)
  · obtain ⟨g, rfl, _⟩ := h
    rfl
  obtain ⟨g, rfl, k⟩ := h
  refine ⟨_, pss_one (ps_ret (pe_lst (pa_cons (pe_gi T.gTELLS) (pa_cons (pv 0) pa_nil)))), ?_⟩
  exact ⟨_, rfl, (by show 2 ≤ sizeLine; decide), fun p hp => k _ p (same_upd hp) hp upd_same⟩
theorem scAnswered : FnScope ["number", "out", "told", "row", "thing"] ["number", "out", "told"] (defScope sAnswered) := ⟨rfl, rfl, rfl, by decide +kernel, rfl, by decide +kernel, by decide +kernel⟩
theorem flat_take {ts : List (List Int)} {i : Nat} {x : List Int} (h : ts[i]? = some x) : (ts.take (i + 1)).flatten = (ts.take i).flatten ++ x := by
  rw [take_more h, List.flatten_append]
  simp
theorem flat_take_le : ∀ (ts : List (List Int)) (i : Nat), (ts.take i).flatten.length ≤ ts.flatten.length
  | [], i => by simp
  | t :: ts, 0 => by simp
  | t :: ts, i + 1 => by
    have ih := flat_take_le ts i
    rw [List.take_succ_cons, List.flatten_cons, List.flatten_cons, List.length_append, List.length_append]
    omega
theorem ok_answered (F : Fun K "answered" "answered" sAnswered f fd) (T : Txt K mg C) : FnOk P w K mg base CX0 1 f fd ["number", "out", "told"] spAnswered := by
  refine F.ok scAnswered (fun vs H Q E h => ?_) (fun cdv A outer s H vs Q E hr h => ?_)
  · obtain ⟨v, o, t, out, ts, rfl, _⟩ := h
    rfl
  obtain ⟨v, o, t, out, ts, rfl, ho, ⟨rs, ht, hrs⟩, l1, l2, k⟩ := h
  refine ⟨_, pss_cons (ps_set (i := 3) scAnswered.nd rfl (Or.inl rfl) (pe_op op_cat (pe_op op_cat (pe_lst (pa_cons (pv 0) pa_nil)) (pe_callTy call_list_of (by rfl) T.list (by decide +kernel) (pa_cons (pv 1) pa_nil)))
      (pe_lst (pa_cons (pe_callB call_len_seq (by rfl) T.len PySem.boot_len (pa_cons (pv 2) pa_nil)) pa_nil))))
    (pss_cons (ps_for PassesOwn.never rfl (pi_list (pv 2)) (pg_name (i := 4) scAnswered.nd rfl (Or.inl rfl))
      (pss_one (ps_expr (pe_bm PySem.F.plainAttrs_list PySem.F.slot_list_extend PySem.F.type_list_extend mt_extend (pv 3) (pa_cons (pv 4) pa_nil)))))
    (pss_one (ps_ret (pe_op op_cat (pe_lst (pa_cons (pe_callB call_len_seq (by rfl) T.len PySem.boot_len (pa_cons (pv 3) pa_nil)) pa_nil)) (pv 3))))), ?_⟩
  refine ⟨_, rfl, (by show 1 ≤ sizeLine; decide), fun p1 n1 => ?_⟩
  have s1 : Same H _ := same_upd (o := .lst [.int v]) n1
  refine ⟨_, rfl, o, _, rfl, .inl (SqL.of (s1 _ _ ho)), fun p2 n2 => ?_⟩
  have s2 : Same H _ := s1.trans (same_upd (o := .lst (il out)) n2)
  refine ⟨p1, p2, _, _, rfl, rfl, same_upd n2 _ _ upd_same, upd_same, ?_, fun p3 n3 => ?_⟩
  · rw [il_length]
    exact Nat.le_trans (Nat.add_le_add_left l1 1) (by decide)
  have s3 : Same H _ := s2.trans (same_upd (o := .lst ([.int v] ++ il out)) n3)
  refine ⟨_, rfl, t, _, rfl, .inl (SqL.of (s3 _ _ ht)), (by show 1 ≤ sizeLine; decide), fun p4 n4 => ?_⟩
  have s4 : Same H _ := s3.trans (same_upd (o := .lst [.int ((rs.map V.ref).length : Nat)]) n4)
  refine ⟨p3, p4, _, _, rfl, rfl, same_upd n4 _ _ upd_same, upd_same, ?_, fun p n5 => ?_⟩
  · rw [List.length_append, il_length]
    show 1 + out.length + 1 ≤ sizeLine
    have : (1002 : Nat) ≤ sizeLine := by decide
    omega
  have np := s4.free n5
  have e5 : ([.int v] ++ il out) ++ [.int ((rs.map V.ref).length : Nat)] = il ((v :: out ++ [(ts.length : Int)]) ++ (ts.take 0).flatten) := by
    rw [List.length_map, hrs.length, List.take_zero, List.flatten_nil, List.append_nil, il_append]
    rfl
  have s5 : Same H _ := s4.trans (same_upd (o := .lst (([.int v] ++ il out) ++ [.int ((rs.map V.ref).length : Nat)])) n5)
  have hb : ∀ i, ((v :: out ++ [(ts.length : Int)]) ++ (ts.take i).flatten).length ≤ 2002 := fun i => by
    have := flat_take_le ts i
    simp only [List.length_append, List.length_cons, List.length_nil]
    omega
  refine ⟨_, rfl, t, rfl, ⟨_, SqL.of (s5 _ _ ht)⟩, for_list (K := K) (a := t) (xs := rs.map V.ref) (fun i σ H' => ∃ z : Option V, σ = [some (.int v), some (.ref o), some (.ref t), some (.ref p), z] ∧ Same H H' ∧
      H' p = some (.lst (il ((v :: out ++ [(ts.length : Int)]) ++ (ts.take i).flatten))))
    ⟨none, rfl, s5, by rw [← e5]; exact upd_same⟩ (fun i σ H' _ ⟨_, _, s6, _⟩ => SqL.of (s6 _ _ ht)) ?_ ?_⟩
  · rintro i y σ H' hi ⟨z, rfl, s6, h6⟩
    obtain ⟨r, hri, rfl⟩ : ∃ r, rs[i]? = some r ∧ y = V.ref r := by
      rw [List.getElem?_map] at hi
      cases e : rs[i]? with
      | none =>
        rw [e] at hi
        cases hi
      | some r =>
        rw [e] at hi
        exact ⟨r, rfl, (Option.some.inj hi).symm⟩
    obtain ⟨x, hx, hxr⟩ := hrs.get hri
    have hn := hb (i + 1)
    rw [flat_take hx, ← List.append_assoc, List.length_append] at hn
    refine ⟨_, rfl, .inl ⟨rfl, _, SqL.of h6⟩, _, rfl, p, r, _, _, rfl, rfl, h6, s6 _ _ hxr, ?_, ?_⟩
    · rw [il_length, il_length]
      exact Nat.le_trans hn (by decide)
    · refine ⟨some (.ref r), rfl, same_updS s6 np, ?_⟩
      rw [upd_same, flat_take hx, ← List.append_assoc, il_append (_ ++ _) x]
  · rintro σ H' ⟨z, rfl, s6, h6⟩
    have hl := hb ts.length
    rw [List.length_map, hrs.length, List.take_length] at h6
    rw [List.take_length] at hl
    have e6 : (v :: out ++ [(ts.length : Int)]) ++ ts.flatten = said v out ts := by
      unfold said
      simp
    rw [e6] at h6 hl
    refine ⟨_, rfl, p, _, rfl, .inl (SqL.of h6), (by show 1 ≤ sizeLine; decide), fun p7 n7 => ?_⟩
    refine ⟨_, rfl, p7, p, _, _, rfl, rfl, upd_same, same_upd n7 _ _ h6, ?_, fun p8 n8 => ?_⟩
    · rw [il_length]
      exact Nat.le_trans (Nat.add_le_add_left hl 1) (by decide)
    · have s7 : Same H _ := s6.trans (same_upd (o := .lst [.int ((il (said v out ts)).length : Nat)]) n7)
      refine k _ p8 (s7.trans (same_upd n8)) (s7.free n8) ?_
      rw [upd_same, il_length]
      rfl
end
end LL

namespace LL
open PySem PySem.Spec PyProof.Rows L2

/-! ### promises -/
def spLengthAt (K : PySem.W.Frag) : Sp := fun vs H Q _ => ∃ (c : Addr) (ns : List Int) (k : Nat) (p n : Int), vs = [.ref c, .int (k : Int)] ∧ SqL K H c (il ns) ∧ ns[k]? = some p ∧ (p = 6 → ns[k + 1]? = some n) ∧
  Q (.int (if p = 0 then 2 else if p = 6 then 2 + n else 1)) H
def spWhoAt (K : PySem.W.Frag) : Sp := fun vs H Q _ => ∃ (c : Addr) (ns : List Int) (k : Nat) (n : Int), vs = [.ref c, .int (k : Int)] ∧ SqL K H c (il ns) ∧ ns[k + 1]? = some n ∧ Q (.int n) H
def spHeardAt (K : PySem.W.Frag) : Sp := fun vs H Q _ => ∃ (c : Addr) (ns : List Int) (k n : Nat), vs = [.ref c, .int (k : Int)] ∧ SqL K H c (il ns) ∧ ns[k + 1]? = some (n : Int) ∧ k + 2 + n ≤ ns.length ∧
  ∀ H' p, Same H H' → H p = none → H' p = some (.lst (il ((ns.drop (k + 2)).take n))) → Q (.ref p) H'
abbrev sLengthAt : Stmt := top 9
abbrev sWhoAt : Stmt := top 10
abbrev sHeardAt : Stmt := top 11
section
variable {P : Program} {w : World} {K : PySem.W.Frag} {mg : Str → Option Value} {base : Heap} {C : Addr} {f : Addr} {fd : FuncData}
theorem at_k {ns : List Int} {k : Nat} {p : Int} (h : ns[k]? = some p) : atI (il ns) (k : Int) = some (V.int p) := atI_nat (il_get h)
theorem at_k1 {ns : List Int} {k : Nat} {p : Int} (h : ns[k + 1]? = some p) : atI (il ns) ((k : Int) + 1) = some (V.int p) := at_of (j := k + 1) rfl (il_get h)
theorem scLengthAt : FnScope ["calls", "at"] ["calls", "at"] (defScope sLengthAt) := ⟨rfl, rfl, rfl, by decide +kernel, rfl, by decide +kernel, by decide +kernel⟩
theorem ok_length_at (F : Fun K "length_at" "length_at" sLengthAt f fd) (T : Txt K mg C) : FnOk P w K mg base CX0 1 f fd ["calls", "at"] (spLengthAt K) := by
  refine F.ok scLengthAt (fun vs H Q E h => ?_) (fun cdv A outer s H vs Q E hr h => ?_)
  · obtain ⟨c, ns, k, p, n, rfl, _⟩ := h
    rfl
  obtain ⟨c, ns, k, p, n, rfl, hS, hp, hn, q⟩ := h
  refine ⟨_, pss_cons (ps_if (pt_cmpR op_eq (pe_ix ix_list (pv 0) (pv 1) (fun _ _ => rfl)) (pe_gi T.gSTART) (nomark _)) (pss_one (ps_ret pe_int)) pss_nil)
    (pss_cons (ps_if (pt_cmpR op_eq (pe_ix ix_list (pv 0) (pv 1) (fun _ _ => rfl)) (pe_gi T.gHEARD) (nomark _))
      (pss_one (ps_ret (pe_op op_add pe_int (pe_ix ix_list (pv 0) (pe_op op_add (pv 1) pe_int) (fun _ _ => rfl))))) pss_nil)
    (pss_one (ps_ret pe_int))), ?_⟩
  refine ⟨_, rfl, _, rfl, c, _, _, _, rfl, rfl, hS, at_k hp, rfl, _, rfl, ?_⟩
  by_cases z : p = 0
  · refine if_true_of (eq_yes z) ?_
    rw [if_pos z] at q
    exact q
  · refine if_false_of (eq_no z) ?_
    rw [if_neg z] at q
    refine ⟨_, rfl, _, rfl, c, _, _, _, rfl, rfl, hS, at_k hp, rfl, _, rfl, ?_⟩
    by_cases y : p = 6
    · refine if_true_of (eq_yes y) ?_
      rw [if_pos y] at q
      exact ⟨_, rfl, _, rfl, _, _, rfl, rfl, c, _, _, _, rfl, rfl, hS, at_k1 (hn y), _, _, rfl, rfl, q⟩
    · refine if_false_of (eq_no y) ?_
      rw [if_neg y] at q
      exact q
theorem scWhoAt : FnScope ["calls", "at"] ["calls", "at"] (defScope sWhoAt) := ⟨rfl, rfl, rfl, by decide +kernel, rfl, by decide +kernel, by decide +kernel⟩
theorem ok_who_at (F : Fun K "who_at" "who_at" sWhoAt f fd) : FnOk P w K mg base CX0 1 f fd ["calls", "at"] (spWhoAt K) := by
  refine F.ok scWhoAt (fun vs H Q E h => ?_) (fun cdv A outer s H vs Q E hr h => ?_)
  · obtain ⟨c, ns, k, n, rfl, _⟩ := h
    rfl
  obtain ⟨c, ns, k, n, rfl, hS, hn, q⟩ := h
  refine ⟨_, pss_one (ps_ret (pe_ix ix_list (pv 0) (pe_op op_add (pv 1) pe_int) (fun _ _ => rfl))), ?_⟩
  exact ⟨_, rfl, _, rfl, _, _, rfl, rfl, c, _, _, _, rfl, rfl, hS, at_k1 hn, q⟩
theorem scHeardAt : FnScope ["calls", "at"] ["calls", "at"] (defScope sHeardAt) := ⟨rfl, rfl, rfl, by decide +kernel, rfl, by decide +kernel, by decide +kernel⟩
theorem cut_mid {ns : List Int} {a n : Nat} (h : a + n ≤ ns.length) : cutV (il ns) (some (a : Int)) (some ((a + n : Nat) : Int)) = il ((ns.drop a).take n) := by
  unfold cutV
  rw [HT.sIx_nat, HT.sIx_nat, il_length, Nat.min_eq_left h, Nat.min_eq_left (show a ≤ ns.length by omega)]
  have e : a + n - a = n := by omega
  rw [e]
  unfold il
  rw [List.map_take, List.map_drop]
theorem ok_heard_at (F : Fun K "heard_at" "heard_at" sHeardAt f fd) : FnOk P w K mg base CX0 1 f fd ["calls", "at"] (spHeardAt K) := by
  refine F.ok scHeardAt (fun vs H Q E h => ?_) (fun cdv A outer s H vs Q E hr h => ?_)
  · obtain ⟨c, ns, k, n, rfl, _⟩ := h
    rfl
  obtain ⟨c, ns, k, n, rfl, hS, hn, hl, q⟩ := h
  refine ⟨_, pss_one (ps_ret (pe_slice sl_list (pv 0) (po_some (pe_op op_add (pv 1) pe_int))
    (po_some (pe_op op_add (pe_op op_add (pv 1) pe_int) (pe_ix ix_list (pv 0) (pe_op op_add (pv 1) pe_int) (fun _ _ => rfl)))))), ?_⟩
  refine ⟨_, rfl, _, rfl, _, _, rfl, rfl, _, rfl, _, rfl, _, _, rfl, rfl, _, rfl, _, rfl, _, _, rfl, rfl, c, _, _, _, rfl, rfl, hS, at_k1 hn, _, _, rfl, rfl, _, rfl, c, _, rfl, hS, fun p hp => ?_⟩
  refine q _ p (same_upd hp) hp ?_
  rw [upd_same]
  exact congrArg (fun z => some (HO.lst z)) (cut_mid (a := k + 2) hl)
end
end LL

namespace LL
open PySem PySem.Spec PyProof.Rows L2

/-! ### the attributes -/
theorem lk_here {k : Str} {v : V} {r : List (Str × V)} : List.lookup k ((k, v) :: r) = some v := by
  have e : (k == k) = true := beq_self_eq_true k
  simp only [List.lookup, e]
theorem lk_past {k g : Str} {v : V} {r : List (Str × V)} (h : (k == g) = false) : List.lookup k ((g, v) :: r) = List.lookup k r := by
  simp only [List.lookup, h]
theorem put_here {f : Str} {v x : V} {r : List (Str × V)} : putF f v ((f, x) :: r) = (f, v) :: r := if_pos rfl
theorem put_past {f g : Str} {v x : V} {r : List (Str × V)} (h : ¬ g = f) : putF f v ((g, x) :: r) = (g, x) :: putF f v r := if_neg h
theorem put_new {f : Str} {v : V} : ∀ {fs : List (Str × V)} (ks : List Str), fs.map (·.1) = ks → ks.all (fun k => !decide (k = f)) = true → putF f v fs = fs ++ [(f, v)]
  | [], _, _, _ => rfl
  | (g, x) :: r, [], e, _ => by cases e
  | (g, x) :: r, k :: ks, e, h => by
    injection e with e1 e2
    rw [List.all_cons, Bool.and_eq_true, Bool.not_eq_true', decide_eq_false_iff_not] at h
    have e1' : g = k := e1
    subst e1'
    rw [put_past h.1, put_new ks e2 h.2]
    rfl
theorem lk_none {x : Str} : ∀ {fs : List (Str × V)} (ks : List Str), fs.map (·.1) = ks → ks.all (fun k => !(x == k)) = true → fs.lookup x = none
  | [], _, _, _ => rfl
  | (g, y) :: r, [], e, _ => by cases e
  | (g, y) :: r, k :: ks, e, h => by
    injection e with e1 e2
    rw [List.all_cons, Bool.and_eq_true, Bool.not_eq_true'] at h
    have e1' : g = k := e1
    subst e1'
    rw [lk_past h.1]
    exact lk_none ks e2 h.2
def eN : List Str := ["me", "turn", "drove_in", "came_out", "stand", "was_had", "green", "other_in", "ticks"]
def eF (m : M) : List (Str × V) := [("me", .int (m.me : Int)), ("turn", .int (m.turn : Int)), ("drove_in", .int (m.ins : Int)), ("came_out", .int (m.outs : Int)), ("stand", .int (m.stand : Int)), ("was_had", .bl m.had), ("green", .int (m.green : Int)), ("other_in", .int (m.other : Int)), ("ticks", .int (m.ticks : Int))]
theorem eF_names (m : M) : (eF m).map (·.1) = eN := rfl
theorem f_me (m : M) : (eF m).lookup ("me" : Str) = some (.int (m.me : Int)) := lk_here
theorem f_turn (m : M) : (eF m).lookup ("turn" : Str) = some (.int (m.turn : Int)) := (lk_past (by decide +kernel)).trans lk_here
theorem f_ins (m : M) : (eF m).lookup ("drove_in" : Str) = some (.int (m.ins : Int)) := (lk_past (by decide +kernel)).trans ((lk_past (by decide +kernel)).trans lk_here)
theorem f_outs (m : M) : (eF m).lookup ("came_out" : Str) = some (.int (m.outs : Int)) := (lk_past (by decide +kernel)).trans ((lk_past (by decide +kernel)).trans ((lk_past (by decide +kernel)).trans lk_here))
theorem f_stand (m : M) : (eF m).lookup ("stand" : Str) = some (.int (m.stand : Int)) := (lk_past (by decide +kernel)).trans ((lk_past (by decide +kernel)).trans ((lk_past (by decide +kernel)).trans ((lk_past (by decide +kernel)).trans lk_here)))
theorem f_had (m : M) : (eF m).lookup ("was_had" : Str) = some (.bl m.had) := (lk_past (by decide +kernel)).trans ((lk_past (by decide +kernel)).trans ((lk_past (by decide +kernel)).trans ((lk_past (by decide +kernel)).trans ((lk_past (by decide +kernel)).trans lk_here))))
theorem f_green (m : M) : (eF m).lookup ("green" : Str) = some (.int (m.green : Int)) := (lk_past (by decide +kernel)).trans ((lk_past (by decide +kernel)).trans ((lk_past (by decide +kernel)).trans ((lk_past (by decide +kernel)).trans ((lk_past (by decide +kernel)).trans ((lk_past (by decide +kernel)).trans lk_here)))))
theorem f_other (m : M) : (eF m).lookup ("other_in" : Str) = some (.int (m.other : Int)) := (lk_past (by decide +kernel)).trans ((lk_past (by decide +kernel)).trans ((lk_past (by decide +kernel)).trans ((lk_past (by decide +kernel)).trans ((lk_past (by decide +kernel)).trans ((lk_past (by decide +kernel)).trans ((lk_past (by decide +kernel)).trans lk_here))))))
theorem f_ticks (m : M) : (eF m).lookup ("ticks" : Str) = some (.int (m.ticks : Int)) := (lk_past (by decide +kernel)).trans ((lk_past (by decide +kernel)).trans ((lk_past (by decide +kernel)).trans ((lk_past (by decide +kernel)).trans ((lk_past (by decide +kernel)).trans ((lk_past (by decide +kernel)).trans ((lk_past (by decide +kernel)).trans ((lk_past (by decide +kernel)).trans lk_here)))))))
theorem w_me (m : M) (y : Nat) : putF "me" (.int (y : Int)) (eF m) = eF { m with me := y } := put_here
theorem w_turn (m : M) (y : Nat) : putF "turn" (.int (y : Int)) (eF m) = eF { m with turn := y } := (put_past (by decide +kernel)).trans (congrArg _ (put_here))
theorem w_ins (m : M) (y : Nat) : putF "drove_in" (.int (y : Int)) (eF m) = eF { m with ins := y } := (put_past (by decide +kernel)).trans (congrArg _ ((put_past (by decide +kernel)).trans (congrArg _ (put_here))))
theorem w_outs (m : M) (y : Nat) : putF "came_out" (.int (y : Int)) (eF m) = eF { m with outs := y } := (put_past (by decide +kernel)).trans (congrArg _ ((put_past (by decide +kernel)).trans (congrArg _ ((put_past (by decide +kernel)).trans (congrArg _ (put_here))))))
theorem w_stand (m : M) (y : Nat) : putF "stand" (.int (y : Int)) (eF m) = eF { m with stand := y } := (put_past (by decide +kernel)).trans (congrArg _ ((put_past (by decide +kernel)).trans (congrArg _ ((put_past (by decide +kernel)).trans (congrArg _ ((put_past (by decide +kernel)).trans (congrArg _ (put_here))))))))
theorem w_had (m : M) (y : Bool) : putF "was_had" (.bl y) (eF m) = eF { m with had := y } := (put_past (by decide +kernel)).trans (congrArg _ ((put_past (by decide +kernel)).trans (congrArg _ ((put_past (by decide +kernel)).trans (congrArg _ ((put_past (by decide +kernel)).trans (congrArg _ ((put_past (by decide +kernel)).trans (congrArg _ (put_here))))))))))
theorem w_green (m : M) (y : Nat) : putF "green" (.int (y : Int)) (eF m) = eF { m with green := y } := (put_past (by decide +kernel)).trans (congrArg _ ((put_past (by decide +kernel)).trans (congrArg _ ((put_past (by decide +kernel)).trans (congrArg _ ((put_past (by decide +kernel)).trans (congrArg _ ((put_past (by decide +kernel)).trans (congrArg _ ((put_past (by decide +kernel)).trans (congrArg _ (put_here))))))))))))
theorem w_other (m : M) (y : Nat) : putF "other_in" (.int (y : Int)) (eF m) = eF { m with other := y } := (put_past (by decide +kernel)).trans (congrArg _ ((put_past (by decide +kernel)).trans (congrArg _ ((put_past (by decide +kernel)).trans (congrArg _ ((put_past (by decide +kernel)).trans (congrArg _ ((put_past (by decide +kernel)).trans (congrArg _ ((put_past (by decide +kernel)).trans (congrArg _ ((put_past (by decide +kernel)).trans (congrArg _ (put_here))))))))))))))
theorem w_ticks (m : M) (y : Nat) : putF "ticks" (.int (y : Int)) (eF m) = eF { m with ticks := y } := (put_past (by decide +kernel)).trans (congrArg _ ((put_past (by decide +kernel)).trans (congrArg _ ((put_past (by decide +kernel)).trans (congrArg _ ((put_past (by decide +kernel)).trans (congrArg _ ((put_past (by decide +kernel)).trans (congrArg _ ((put_past (by decide +kernel)).trans (congrArg _ ((put_past (by decide +kernel)).trans (congrArg _ ((put_past (by decide +kernel)).trans (congrArg _ (put_here))))))))))))))))
/-- a method's name is none of the attributes -/
theorem eF_no (m : M) {x : Str} (h : eN.all (fun k => !(x == k)) = true) : (eF m).lookup x = none := lk_none eN (eF_names m) h
def EndAt (C : Addr) (H : Hp) (a : Addr) (m : M) : Prop := ∃ dx, H a = some (.ins C dx (eF m))
/-- all but a stands as it stood -/
def Kept (a : Addr) (H H' : Hp) : Prop := ∀ b o, H b = some o → b ≠ a → H' b = some o
theorem Kept.refl (a : Addr) (H : Hp) : Kept a H H := fun _ _ h _ => h
theorem Kept.trans {a : Addr} {H H1 H2 : Hp} (x : Kept a H H1) (y : Kept a H1 H2) : Kept a H H2 := fun b o h n => y b o (x b o h n) n
theorem Kept.same {a : Addr} {H H1 H2 : Hp} (x : Kept a H H1) (y : Same H1 H2) : Kept a H H2 := fun b o h n => y b o (x b o h n)
theorem Kept.of {a : Addr} {H H1 : Hp} (y : Same H H1) : Kept a H H1 := fun b o h _ => y b o h
theorem Kept.upd {a : Addr} {H H1 : Hp} {o : HO} (x : Kept a H H1) : Kept a H (L2.upd H1 a o) := fun b u h n => by
  rw [upd_ne n]
  exact x b u h n
theorem Kept.free {a q : Addr} {H H' : Hp} {o : HO} (x : Kept a H H') (h : H' q = none) (ha : H' a = some o) : H q = none := by
  cases e : H q with
  | none => rfl
  | some u =>
    have n : q ≠ a := fun z => by
      subst z
      rw [h] at ha
      cases ha
    rw [x q u e n] at h
    cases h
theorem EndAt.same {C : Addr} {H H' : Hp} {a : Addr} {m : M} (s : Same H H') (h : EndAt C H a m) : EndAt C H' a m := by
  obtain ⟨dx, h⟩ := h
  exact ⟨dx, s _ _ h⟩
theorem Things.kept {C : Addr} {H H' : Hp} {a dx : Addr} {fs : List (Str × V)} {t : Addr} {ts : List (List Int)} (ha : H a = some (.ins C dx fs)) (s : Kept a H H') (h : Things H t ts) : Things H' t ts := by
  have ne : ∀ {b xs}, H b = some (.lst xs) → b ≠ a := fun hb => ne_of hb ha (by intro z; cases z)
  obtain ⟨rs, h1, h2⟩ := h
  refine ⟨rs, s _ _ h1 (ne h1), ?_⟩
  clear h1
  induction rs generalizing ts with
  | nil => cases ts with
    | nil => trivial
    | cons _ _ => exact h2.elim
  | cons r rs ih => cases ts with
    | nil => exact h2.elim
    | cons x ts => exact ⟨s _ _ h2.1 (ne h2.1), ih h2.2⟩
end LL

namespace LL
open PySem PySem.Spec PyProof.Rows L2

theorem eF_small (m : M) : (eF m).length < 1000 := by
  show 9 < 1000
  decide
theorem st {H : Hp} {a C dx : Addr} {f : Str} {v : V} {fs fs' : List (Str × V)} (e : putF f v fs = fs') : upd H a (.ins C dx (putF f v fs)) a = some (.ins C dx fs') :=
  upd_same.trans (congrArg (fun q => some (HO.ins C dx q)) e)

/-! ### promises -/
def Gives (C a : Addr) (H : Hp) (Q : VK) (r : R) : Prop := ∀ H' p q, H' p = some (.tup [.int r.2.1, .ref q]) → Things H' q r.2.2 → EndAt C H' a r.1 → Kept a H H' → Q (.ref p) H'
/-- a list of things, new -/
def GivesL (C a : Addr) (H : Hp) (Q : VK) (r : M × List (List Int)) : Prop := ∀ H' q, H q = none → Things H' q r.2 → EndAt C H' a r.1 → Kept a H H' → Q (.ref q) H'
def spInit (C : Addr) : Sp := fun vs H Q _ => ∃ (p dx : Addr) (me : Nat), vs = [.ref p, .int (me : Int)] ∧ H p = some (.ins C dx []) ∧ ∀ H' : Hp, EndAt C H' p (M.fresh me) → Kept p H H' → Q .non H'
def spR (C : Addr) (g : M → R) : Sp := fun vs H Q _ => ∃ (a : Addr) (m : M), vs = [.ref a] ∧ EndAt C H a m ∧ Gives C a H Q (g m)
def spTake (C : Addr) : Sp := fun vs H Q _ => ∃ (a : Addr) (m : M), vs = [.ref a] ∧ EndAt C H a m ∧ GivesL C a H Q (m.take, [[2, 1]])
def spWait (C : Addr) : Sp := fun vs H Q _ => ∃ (a : Addr) (m : M) (c : Nat), vs = [.ref a, .int (c : Int)] ∧ EndAt C H a m ∧ GivesL C a H Q (m.waitOrTake c)
def spHearGiven (C : Addr) : Sp := fun vs H Q _ => ∃ (a : Addr) (m : M) (t c : Nat), vs = [.ref a, .int (t : Int), .int (c : Int)] ∧ EndAt C H a m ∧ GivesL C a H Q (m.hearGiven t c)
def spHearHad (C : Addr) : Sp := fun vs H Q _ => ∃ (a : Addr) (m : M) (t : Nat), vs = [.ref a, .int (t : Int)] ∧ EndAt C H a m ∧ ∀ H', EndAt C H' a (m.hearHad t) → Kept a H H' → Q .non H'
def spHear (C : Addr) : Sp := fun vs H Q _ => ∃ (a r : Addr) (m : M) (l : List Nat), vs = [.ref a, .ref r] ∧ EndAt C H a m ∧ H r = some (.lst (nl l)) ∧ l.length = 16 ∧ Gives C a H Q (m.hear l)
def spGivenNow (C : Addr) : Sp := fun vs H Q _ => ∃ (a : Addr) (m : M), vs = [.ref a] ∧ EndAt C H a m ∧ ∀ H' p, Same H H' → H p = none → H' p = some (.lst (il m.given)) → Q (.ref p) H'
def spState (C : Addr) : Sp := fun vs H Q _ => ∃ (a : Addr) (m : M), vs = [.ref a] ∧ EndAt C H a m ∧ ∀ H' p, Same H H' → H p = none → H' p = some (.lst (nl m.state)) → Q (.ref p) H'
section
variable {C a dx : Addr} {H H1 : Hp} {Q : VK} {m1 : M} {v : Int} {p q r : Addr}
theorem closeT {ts : List (List Int)} (g : Gives C a H Q (m1, v, ts)) (h1 : H1 a = some (.ins C dx (eF m1))) (kp : Kept a H H1) (ht : Things H1 q ts) (np : H1 p = none) : Q (.ref p) (upd H1 p (.tup [.int v, .ref q])) :=
  g _ p q upd_same (ht.mono (same_upd np)) ⟨dx, same_upd np _ _ h1⟩ (kp.same (same_upd np))
theorem close0 (g : Gives C a H Q (m1, v, [])) (h1 : H1 a = some (.ins C dx (eF m1))) (kp : Kept a H H1) (nq : H1 q = none) (np : upd H1 q (.lst []) p = none) :
    Q (.ref p) (upd (upd H1 q (.lst [])) p (.tup [.int v, .ref q])) :=
  closeT g (same_upd nq _ _ h1) (kp.same (same_upd nq)) (Things.nil upd_same) np
theorem close1 {x : List Int} (g : Gives C a H Q (m1, v, [x])) (h1 : H1 a = some (.ins C dx (eF m1))) (kp : Kept a H H1) (hr : H1 r = some (.lst (il x))) (nq : H1 q = none) (np : upd H1 q (.lst [.ref r]) p = none) :
    Q (.ref p) (upd (upd H1 q (.lst [.ref r])) p (.tup [.int v, .ref q])) :=
  closeT g (same_upd nq _ _ h1) (kp.same (same_upd nq)) (Things.one upd_same (same_upd nq _ _ hr)) np
end
abbrev sInit : Stmt := inClass (top 49) 0
abbrev sTake : Stmt := inClass (top 49) 1
abbrev sWait : Stmt := inClass (top 49) 2
abbrev sGreen : Stmt := inClass (top 49) 3
abbrev sRed : Stmt := inClass (top 49) 4
abbrev sIn : Stmt := inClass (top 49) 5
abbrev sOut : Stmt := inClass (top 49) 6
abbrev sGivenNow : Stmt := inClass (top 49) 7
abbrev sGive : Stmt := inClass (top 49) 8
abbrev sHearGiven : Stmt := inClass (top 49) 9
abbrev sHearHad : Stmt := inClass (top 49) 10
abbrev sHear : Stmt := inClass (top 49) 11
abbrev sTick : Stmt := inClass (top 49) 12
abbrev sState : Stmt := inClass (top 49) 13
section
variable {P : Program} {w : World} {K : PySem.W.Frag} {mg : Str → Option Value} {base : Heap} {C : Addr} {f : Addr} {fd : FuncData}
/-! ### __init__ -/
theorem scInit : FnScope ["self", "me"] ["self", "me"] (defScope sInit) := ⟨rfl, rfl, rfl, by decide +kernel, rfl, by decide +kernel, by decide +kernel⟩
def i1 (me : Nat) : List (Str × V) := [("me", .int (me : Int))]
def i2 (me : Nat) : List (Str × V) := i1 me ++ ([("turn", .int 0)] : List (Str × V))
def i3 (me : Nat) : List (Str × V) := i2 me ++ ([("drove_in", .int 0)] : List (Str × V))
def i4 (me : Nat) : List (Str × V) := i3 me ++ ([("came_out", .int 0)] : List (Str × V))
def i5 (me s : Nat) : List (Str × V) := i4 me ++ ([("stand", .int (s : Int))] : List (Str × V))
def i6 (me s : Nat) : List (Str × V) := i5 me s ++ ([("was_had", .bl true)] : List (Str × V))
def i7 (me s : Nat) : List (Str × V) := i6 me s ++ ([("green", .int 0)] : List (Str × V))
def i8 (me s : Nat) : List (Str × V) := i7 me s ++ ([("other_in", .int 0)] : List (Str × V))
theorem put1 (me : Nat) : putF "me" (.int (me : Int)) [] = i1 me := rfl
theorem put2 (me : Nat) : putF "turn" (.int 0) (i1 me) = i2 me := put_new ["me"] rfl (by decide +kernel)
theorem put3 (me : Nat) : putF "drove_in" (.int 0) (i2 me) = i3 me := put_new ["me", "turn"] rfl (by decide +kernel)
theorem put4 (me : Nat) : putF "came_out" (.int 0) (i3 me) = i4 me := put_new ["me", "turn", "drove_in"] rfl (by decide +kernel)
theorem put5 (me s : Nat) : putF "stand" (.int (s : Int)) (i4 me) = i5 me s := put_new ["me", "turn", "drove_in", "came_out"] rfl (by decide +kernel)
theorem put5b (me s t : Nat) : putF "stand" (.int (t : Int)) (i5 me s) = i5 me t :=
  (put_past (by decide +kernel)).trans (congrArg _ ((put_past (by decide +kernel)).trans (congrArg _ ((put_past (by decide +kernel)).trans (congrArg _ ((put_past (by decide +kernel)).trans (congrArg _ put_here)))))))
theorem put6 (me s : Nat) : putF "was_had" (.bl true) (i5 me s) = i6 me s := put_new ["me", "turn", "drove_in", "came_out", "stand"] rfl (by decide +kernel)
theorem put7 (me s : Nat) : putF "green" (.int 0) (i6 me s) = i7 me s := put_new ["me", "turn", "drove_in", "came_out", "stand", "was_had"] rfl (by decide +kernel)
theorem put8 (me s : Nat) : putF "other_in" (.int 0) (i7 me s) = i8 me s := put_new ["me", "turn", "drove_in", "came_out", "stand", "was_had", "green"] rfl (by decide +kernel)
theorem put9 (me s : Nat) : putF "ticks" (.int 0) (i8 me s) = eF ⟨me, 0, 0, 0, s, true, 0, 0, 0⟩ := put_new ["me", "turn", "drove_in", "came_out", "stand", "was_had", "green", "other_in"] rfl (by decide +kernel)
/-- the part behind the if -/
theorem init_tail (T : Txt K mg C) {H H5 : Hp} {Q : VK} {p dx : Addr} {me s : Nat} (h5 : H5 p = some (.ins C dx (i5 me s))) (k5 : Kept p H H5)
    (k : ∀ H' : Hp, EndAt C H' p ⟨me, 0, 0, 0, s, true, 0, 0, 0⟩ → Kept p H H' → Q .non H') :
    tSeq (sFld K (tVar 0) (tC (.bl true)) "was_had") (tSeq (sFld K (tVar 0) (tC (.int 0)) "green") (tSeq (sFld K (tVar 0) (tC (.int 0)) "other_in") (sFld K (tVar 0) (tC (.int 0)) "ticks")))
      { nx := fun _ H' => Q .non H', rt := Q } (L2.start ["self", "me"] [.ref p, .int (me : Int)]) H5 := by
  refine ⟨_, rfl, p, C, dx, _, rfl, h5, T.cl, T.nHad, (by show 5 < 1000; decide), ?_⟩
  refine ⟨_, rfl, p, C, dx, _, rfl, st (put6 me s), T.cl, T.nGreen, (by show 6 < 1000; decide), ?_⟩
  refine ⟨_, rfl, p, C, dx, _, rfl, st (put7 me s), T.cl, T.nOther, (by show 7 < 1000; decide), ?_⟩
  refine ⟨_, rfl, p, C, dx, _, rfl, st (put8 me s), T.cl, T.nTicks, (by show 8 < 1000; decide), ?_⟩
  exact k _ ⟨dx, st (put9 me s)⟩ k5.upd.upd.upd.upd
theorem ok_init (F : Fun K "__init__" "End.__init__" sInit f fd) (T : Txt K mg C) : FnOk P w K mg base CX0 1 f fd ["self", "me"] (spInit C) := by
  refine F.ok scInit (fun vs H Q E h => ?_) (fun cdv A outer s H vs Q E hr h => ?_)
  · obtain ⟨p, dx, me, rfl, _⟩ := h
    rfl
  obtain ⟨p, dx, me, rfl, hp, k⟩ := h
  refine ⟨_, pss_cons (ps_fld (pv 0) (pv 1) rfl) (pss_cons (ps_fld (pv 0) pe_int rfl) (pss_cons (ps_fld (pv 0) pe_int rfl) (pss_cons (ps_fld (pv 0) pe_int rfl) (pss_cons (ps_fld (pv 0) (pe_gi T.gGAVE) rfl)
    (pss_cons (ps_if (pt_cmpR op_eq (pv 1) pe_int (nomark _)) (pss_one (ps_fld (pv 0) (pe_gi T.gHAS) rfl)) pss_nil)
    (pss_cons (ps_fld (pv 0) pe_bl rfl) (pss_cons (ps_fld (pv 0) pe_int rfl) (pss_cons (ps_fld (pv 0) pe_int rfl) (pss_one (ps_fld (pv 0) pe_int rfl)))))))))), ?_⟩
  refine ⟨_, rfl, _, rfl, p, C, dx, _, rfl, hp, T.cl, T.nMe, (by show 0 < 1000; decide), ?_⟩
  refine ⟨_, rfl, p, C, dx, _, rfl, st (put1 me), T.cl, T.nTurn, (by show 1 < 1000; decide), ?_⟩
  refine ⟨_, rfl, p, C, dx, _, rfl, st (put2 me), T.cl, T.nIns, (by show 2 < 1000; decide), ?_⟩
  refine ⟨_, rfl, p, C, dx, _, rfl, st (put3 me), T.cl, T.nOuts, (by show 3 < 1000; decide), ?_⟩
  refine ⟨_, rfl, p, C, dx, _, rfl, st (put4 me), T.cl, T.nStand, (by show 4 < 1000; decide), ?_⟩
  have kp := (((((Kept.refl p H).upd (o := .ins C dx (putF "me" (.int (me : Int)) []))).upd (o := .ins C dx (putF "turn" (.int 0) (i1 me)))).upd (o := .ins C dx (putF "drove_in" (.int 0) (i2 me)))).upd (o := .ins C dx (putF "came_out" (.int 0) (i3 me)))).upd (o := .ins C dx (putF "stand" (.int 0) (i4 me)))
  refine ⟨_, rfl, rfl, _, rfl, ?_⟩
  by_cases z : me = 0
  · refine if_true_of (eq_yes (by omega)) ?_
    refine ⟨_, rfl, p, C, dx, _, rfl, st (put5 me 0), T.cl, T.nStand, (by show 5 < 1000; decide), ?_⟩
    refine init_tail T (st (put5b me 0 1)) kp.upd fun H' e kk => k H' ?_ kk
    unfold M.fresh
    rw [if_pos z]
    exact e
  · refine if_false_of (eq_no (by omega)) ?_
    refine init_tail T (st (put5 me 0)) kp fun H' e kk => k H' ?_ kk
    unfold M.fresh
    rw [if_neg z]
    exact e
/-! ### take_right, wait_or_take -/
theorem scTake : FnScope ["self"] ["self"] (defScope sTake) := ⟨rfl, rfl, rfl, by decide +kernel, rfl, by decide +kernel, by decide +kernel⟩
theorem ok_take (F : Fun K "take_right" "End.take_right" sTake f fd) (T : Txt K mg C) (TL : Fn P w K mg base 1 "tells" ["what"] (spPair 2)) : FnOk P w K mg base CX0 2 f fd ["self"] (spTake C) := by
  refine F.ok scTake (fun vs H Q E h => ?_) (fun cdv A outer s H vs Q E hr h => ?_)
  · obtain ⟨a, m, rfl, _⟩ := h
    rfl
  obtain ⟨a, m, rfl, ⟨dx, h1⟩, k⟩ := h
  refine ⟨_, pss_cons (ps_fld (pv 0) (pe_gi T.gHAS) rfl) (pss_cons (ps_fld (pv 0) pe_int rfl) (pss_cons (ps_fld (pv 0) pe_int rfl)
    (pss_one (ps_ret (pe_lst (pa_cons (pe_fn TL hr (pa_cons (pe_gi T.gHASIT) pa_nil)) pa_nil)))))), ?_⟩
  refine ⟨_, rfl, a, C, dx, _, rfl, h1, T.cl, T.nStand, eF_small _, ?_⟩
  refine ⟨_, rfl, a, C, dx, _, rfl, st (w_stand m 1), T.cl, T.nGreen, eF_small _, ?_⟩
  refine ⟨_, rfl, a, C, dx, _, rfl, st (w_green _ 0), T.cl, T.nOther, eF_small _, ?_⟩
  refine ⟨1, rfl, fun H5 r s5 n5 h5 => ⟨(by show 1 ≤ sizeLine; decide), fun q nq => ?_⟩⟩
  have e5 : H5 a = some (.ins C dx (eF m.take)) := s5 _ _ (st (w_other _ 0))
  have kp : Kept a H H5 := Kept.same (((Kept.refl a H).upd).upd).upd s5
  exact k _ q (kp.free nq e5) (Things.one upd_same (same_upd nq _ _ h5)) ⟨dx, same_upd nq _ _ e5⟩ (kp.same (same_upd nq))
theorem scWait : FnScope ["self", "count"] ["self", "count"] (defScope sWait) := ⟨rfl, rfl, rfl, by decide +kernel, rfl, by decide +kernel, by decide +kernel⟩
theorem ok_wait (F : Fun K "wait_or_take" "End.wait_or_take" sWait f fd) (T : Txt K mg C) (TR : Md P w K mg base C 2 "take_right" ["self"] (spTake C)) : FnOk P w K mg base CX0 3 f fd ["self", "count"] (spWait C) := by
  refine F.ok scWait (fun vs H Q E h => ?_) (fun cdv A outer s H vs Q E hr h => ?_)
  · obtain ⟨a, m, c, rfl, _⟩ := h
    rfl
  obtain ⟨a, m, c, rfl, ⟨dx, h1⟩, k⟩ := h
  refine ⟨_, pss_cons (ps_if (pt_cmpR op_ge (pe_fld (pv 0) rfl) (pv 1) (nomark _)) (pss_one (ps_ret (pe_md0 (pv 0) T.cl TR hr))) pss_nil)
    (pss_cons (ps_fld (pv 0) (pe_gi T.gWAITS) rfl) (pss_cons (ps_fld (pv 0) (pv 1) rfl) (pss_one (ps_ret (pe_lst pa_nil))))), ?_⟩
  refine ⟨_, rfl, a, C, dx, _, _, rfl, h1, T.cl, T.nOuts, f_outs _, _, rfl, _, _, rfl, rfl, _, rfl, ?_⟩
  unfold M.waitOrTake at k
  by_cases z : c ≤ m.outs
  · rw [if_pos z] at k
    refine if_true_of (decide_eq_true (by omega)) ?_
    exact ⟨_, rfl, a, dx, _, rfl, h1, eF_no m (by decide +kernel), a, m, rfl, ⟨dx, h1⟩, k⟩
  · rw [if_neg z] at k
    refine if_false_of (decide_eq_false (by omega)) ?_
    refine ⟨_, rfl, a, C, dx, _, rfl, h1, T.cl, T.nStand, eF_small _, ?_⟩
    refine ⟨_, rfl, _, rfl, a, C, dx, _, rfl, st (w_stand m 2), T.cl, T.nOther, eF_small _, ?_⟩
    refine ⟨Nat.zero_le _, fun q nq => ?_⟩
    have e5 := st (H := upd H a (.ins C dx (putF "stand" (.int 2) (eF m)))) (a := a) (C := C) (dx := dx) (w_other { m with stand := 2 } c)
    have kp : Kept a H _ := ((Kept.refl a H).upd (o := .ins C dx (putF "stand" (.int 2) (eF m)))).upd (o := .ins C dx (putF "other_in" (.int (c : Int)) (eF { m with stand := 2 })))
    exact k _ q (kp.free nq e5) (Things.nil upd_same) ⟨dx, same_upd nq _ _ e5⟩ (kp.same (same_upd nq))
/-! ### the light -/
theorem scGreen : FnScope ["self"] ["self"] (defScope sGreen) := ⟨rfl, rfl, rfl, by decide +kernel, rfl, by decide +kernel, by decide +kernel⟩
theorem ok_green (F : Fun K "turn_green" "End.turn_green" sGreen f fd) (T : Txt K mg C) (LT : Fn P w K mg base 1 "lit" ["green"] (spPair 1)) : FnOk P w K mg base CX0 2 f fd ["self"] (spR C M.turnGreen) := by
  refine F.ok scGreen (fun vs H Q E h => ?_) (fun cdv A outer s H vs Q E hr h => ?_)
  · obtain ⟨a, m, rfl, _⟩ := h
    rfl
  obtain ⟨a, m, rfl, ⟨dx, h1⟩, k⟩ := h
  refine ⟨_, pss_cons (ps_if (pt_cmpR op_ne (pe_fld (pv 0) rfl) (pe_gi T.gHAS) (nomark _)) (pss_one (ps_ret (pe_tup (pa_cons (pe_un un_neg pe_int) (pa_cons (pe_lst pa_nil) pa_nil))))) pss_nil)
    (pss_cons (ps_if (pt_cmpR op_eq (pe_fld (pv 0) rfl) pe_int (nomark _)) (pss_one (ps_ret (pe_tup (pa_cons (pe_un un_neg pe_int) (pa_cons (pe_lst pa_nil) pa_nil))))) pss_nil)
    (pss_cons (ps_fld (pv 0) pe_int rfl)
    (pss_one (ps_ret (pe_tup (pa_cons pe_int (pa_cons (pe_lst (pa_cons (pe_fn LT hr (pa_cons pe_int pa_nil)) pa_nil)) pa_nil))))))), ?_⟩
  refine ⟨_, rfl, a, C, dx, _, _, rfl, h1, T.cl, T.nStand, f_stand _, rfl, _, rfl, ?_⟩
  unfold M.turnGreen at k
  by_cases z : m.stand = 1
  · rw [if_pos z] at k
    refine if_false_of (ne_no (by omega)) ?_
    refine ⟨_, rfl, a, C, dx, _, _, rfl, h1, T.cl, T.nGreen, f_green _, rfl, _, rfl, ?_⟩
    by_cases y : m.green = 1
    · rw [if_pos y] at k
      refine if_true_of (eq_yes (by omega)) ?_
      exact ⟨_, rfl, Nat.zero_le _, fun q nq => ⟨(by show 2 ≤ sizeLine; decide), fun p np => close0 k h1 (Kept.refl a H) nq np⟩⟩
    · rw [if_neg y] at k
      refine if_false_of (eq_no (by omega)) ?_
      refine ⟨_, rfl, a, C, dx, _, rfl, h1, T.cl, T.nGreen, eF_small _, ?_⟩
      refine ⟨1, rfl, fun H5 r s5 n5 h5 => ⟨(by show 1 ≤ sizeLine; decide), fun q nq => ⟨(by show 2 ≤ sizeLine; decide), fun p np => ?_⟩⟩⟩
      exact close1 k (s5 _ _ (st (w_green m 1))) (Kept.same (Kept.upd (Kept.refl a H)) s5) h5 nq np
  · rw [if_neg z] at k
    refine if_true_of (ne_yes (by omega)) ?_
    exact ⟨_, rfl, Nat.zero_le _, fun q nq => ⟨(by show 2 ≤ sizeLine; decide), fun p np => close0 k h1 (Kept.refl a H) nq np⟩⟩
theorem scRed : FnScope ["self"] ["self"] (defScope sRed) := ⟨rfl, rfl, rfl, by decide +kernel, rfl, by decide +kernel, by decide +kernel⟩
theorem ok_red (F : Fun K "turn_red" "End.turn_red" sRed f fd) (T : Txt K mg C) (LT : Fn P w K mg base 1 "lit" ["green"] (spPair 1)) : FnOk P w K mg base CX0 2 f fd ["self"] (spR C M.turnRed) := by
  refine F.ok scRed (fun vs H Q E h => ?_) (fun cdv A outer s H vs Q E hr h => ?_)
  · obtain ⟨a, m, rfl, _⟩ := h
    rfl
  obtain ⟨a, m, rfl, ⟨dx, h1⟩, k⟩ := h
  refine ⟨_, pss_cons (ps_if (pt_cmpR op_eq (pe_fld (pv 0) rfl) pe_int (nomark _)) (pss_one (ps_ret (pe_tup (pa_cons (pe_un un_neg pe_int) (pa_cons (pe_lst pa_nil) pa_nil))))) pss_nil)
    (pss_cons (ps_fld (pv 0) pe_int rfl)
    (pss_one (ps_ret (pe_tup (pa_cons pe_int (pa_cons (pe_lst (pa_cons (pe_fn LT hr (pa_cons pe_int pa_nil)) pa_nil)) pa_nil)))))), ?_⟩
  refine ⟨_, rfl, a, C, dx, _, _, rfl, h1, T.cl, T.nGreen, f_green _, rfl, _, rfl, ?_⟩
  unfold M.turnRed at k
  by_cases y : m.green = 0
  · rw [if_pos y] at k
    refine if_true_of (eq_yes (by omega)) ?_
    exact ⟨_, rfl, Nat.zero_le _, fun q nq => ⟨(by show 2 ≤ sizeLine; decide), fun p np => close0 k h1 (Kept.refl a H) nq np⟩⟩
  · rw [if_neg y] at k
    refine if_false_of (eq_no (by omega)) ?_
    refine ⟨_, rfl, a, C, dx, _, rfl, h1, T.cl, T.nGreen, eF_small _, ?_⟩
    refine ⟨0, rfl, fun H5 r s5 n5 h5 => ⟨(by show 1 ≤ sizeLine; decide), fun q nq => ⟨(by show 2 ≤ sizeLine; decide), fun p np => ?_⟩⟩⟩
    exact close1 k (s5 _ _ (st (w_green m 0))) (Kept.same (Kept.upd (Kept.refl a H)) s5) h5 nq np
/-! ### who drives in, who comes out -/
theorem scIn : FnScope ["self"] ["self"] (defScope sIn) := ⟨rfl, rfl, rfl, by decide +kernel, rfl, by decide +kernel, by decide +kernel⟩
theorem ok_in (F : Fun K "one_in" "End.one_in" sIn f fd) (T : Txt K mg C) (TL : Fn P w K mg base 1 "tells" ["what"] (spPair 2)) : FnOk P w K mg base CX0 2 f fd ["self"] (spR C M.oneIn) := by
  refine F.ok scIn (fun vs H Q E h => ?_) (fun cdv A outer s H vs Q E hr h => ?_)
  · obtain ⟨a, m, rfl, _⟩ := h
    rfl
  obtain ⟨a, m, rfl, ⟨dx, h1⟩, k⟩ := h
  refine ⟨_, pss_cons (ps_fld (pv 0) (pe_op op_add (pe_fld (pv 0) rfl) pe_int) rfl)
    (pss_cons (ps_if (pt_cmpR op_eq (pe_fld (pv 0) rfl) pe_int (nomark _)) (pss_one (ps_ret (pe_tup (pa_cons (pe_un un_neg pe_int) (pa_cons (pe_lst (pa_cons (pe_fn TL hr (pa_cons (pe_gi T.gDROVE) pa_nil)) pa_nil)) pa_nil))))) pss_nil)
    (pss_one (ps_ret (pe_tup (pa_cons pe_int (pa_cons (pe_lst pa_nil) pa_nil)))))), ?_⟩
  refine ⟨_, rfl, a, C, dx, _, _, rfl, h1, T.cl, T.nIns, f_ins _, _, _, rfl, rfl, _, rfl, a, C, dx, _, rfl, h1, T.cl, T.nIns, eF_small _, ?_⟩
  refine ⟨_, rfl, a, C, dx, _, _, rfl, st (w_ins m (m.ins + 1)), T.cl, T.nGreen, f_green _, rfl, _, rfl, ?_⟩
  unfold M.oneIn at k
  by_cases y : m.green = 0
  · rw [if_pos y] at k
    refine if_true_of (eq_yes (by show (m.green : Int) = 0; omega)) ?_
    refine ⟨_, rfl, 2, rfl, fun H5 r s5 n5 h5 => ⟨(by show 1 ≤ sizeLine; decide), fun q nq => ⟨(by show 2 ≤ sizeLine; decide), fun p np => ?_⟩⟩⟩
    exact close1 k (s5 _ _ (st (w_ins m (m.ins + 1)))) (Kept.same (Kept.upd (Kept.refl a H)) s5) h5 nq np
  · rw [if_neg y] at k
    refine if_false_of (eq_no (by show ¬ (m.green : Int) = 0; omega)) ?_
    exact ⟨Nat.zero_le _, fun q nq => ⟨(by show 2 ≤ sizeLine; decide), fun p np => close0 k (st (w_ins m (m.ins + 1))) (Kept.upd (Kept.refl a H)) nq np⟩⟩
theorem scOut : FnScope ["self"] ["self"] (defScope sOut) := ⟨rfl, rfl, rfl, by decide +kernel, rfl, by decide +kernel, by decide +kernel⟩
theorem ok_out (F : Fun K "one_out" "End.one_out" sOut f fd) (T : Txt K mg C) (TR : Md P w K mg base C 2 "take_right" ["self"] (spTake C)) : FnOk P w K mg base CX0 3 f fd ["self"] (spR C M.oneOut) := by
  refine F.ok scOut (fun vs H Q E h => ?_) (fun cdv A outer s H vs Q E hr h => ?_)
  · obtain ⟨a, m, rfl, _⟩ := h
    rfl
  obtain ⟨a, m, rfl, ⟨dx, h1⟩, k⟩ := h
  refine ⟨_, pss_cons (ps_fld (pv 0) (pe_op op_add (pe_fld (pv 0) rfl) pe_int) rfl)
    (pss_cons (ps_if (PW.pt (pw_and (pt_cmpR op_eq (pe_fld (pv 0) rfl) (pe_gi T.gWAITS) (nomark _)) (pw_and1 (pt_cmpR op_ge (pe_fld (pv 0) rfl) (pe_fld (pv 0) rfl) (nomark _)))))
      (pss_one (ps_ret (pe_tup (pa_cons pe_int (pa_cons (pe_md0 (pv 0) T.cl TR hr) pa_nil))))) pss_nil)
    (pss_one (ps_ret (pe_tup (pa_cons pe_int (pa_cons (pe_lst pa_nil) pa_nil)))))), ?_⟩
  refine ⟨_, rfl, a, C, dx, _, _, rfl, h1, T.cl, T.nOuts, f_outs _, _, _, rfl, rfl, _, rfl, a, C, dx, _, rfl, h1, T.cl, T.nOuts, eF_small _, ?_⟩
  have h2 := st (H := H) (a := a) (C := C) (dx := dx) (w_outs m (m.outs + 1))
  have kp : Kept a H _ := (Kept.refl a H).upd (o := .ins C dx (putF "came_out" (.int ((m.outs + 1 : Nat) : Int)) (eF m)))
  refine ⟨_, rfl, a, C, dx, _, _, rfl, h2, T.cl, T.nStand, f_stand _, rfl, _, rfl, ?_⟩
  unfold M.oneOut at k
  by_cases z : m.stand = 2
  · refine if_true_of (eq_yes (by show (m.stand : Int) = 2; omega)) ?_
    refine ⟨_, rfl, a, C, dx, _, _, rfl, h2, T.cl, T.nOuts, f_outs _, _, rfl, a, C, dx, _, _, rfl, h2, T.cl, T.nOther, f_other _, _, _, rfl, rfl, _, rfl, ?_⟩
    by_cases y : m.other ≤ m.outs + 1
    · rw [if_pos ⟨z, y⟩] at k
      refine if_true_of (decide_eq_true (by show (m.other : Int) ≤ ((m.outs + 1 : Nat) : Int); omega)) ?_
      refine ⟨_, rfl, a, dx, _, rfl, h2, eF_no _ (by decide +kernel), a, _, rfl, ⟨dx, h2⟩, fun H' q nq ht ⟨dy, e'⟩ kk => ⟨(by show 2 ≤ sizeLine; decide), fun p np => ?_⟩⟩
      exact closeT k e' (kp.trans kk) ht np
    · rw [if_neg fun x => y x.2] at k
      refine if_false_of (decide_eq_false (by show ¬ (m.other : Int) ≤ ((m.outs + 1 : Nat) : Int); omega)) ?_
      exact ⟨Nat.zero_le _, fun q nq => ⟨(by show 2 ≤ sizeLine; decide), fun p np => close0 k h2 kp nq np⟩⟩
  · rw [if_neg fun x => z x.1] at k
    refine if_false_of (eq_no (by show ¬ (m.stand : Int) = 2; omega)) ?_
    refine iteF ?_
    exact ⟨Nat.zero_le _, fun q nq => ⟨(by show 2 ≤ sizeLine; decide), fun p np => close0 k h2 kp nq np⟩⟩
/-! ### the right is given -/
theorem scGivenNow : FnScope ["self"] ["self"] (defScope sGivenNow) := ⟨rfl, rfl, rfl, by decide +kernel, rfl, by decide +kernel, by decide +kernel⟩
theorem ok_given_now (F : Fun K "given_now" "End.given_now" sGivenNow f fd) (T : Txt K mg C) (SE : Fn P w K mg base 1 "sent" ["row"] spSent) (MS : Fn P w K mg base 4 "message" ["kind", "of", "turn", "count"] spMessage) :
    FnOk P w K mg base CX0 5 f fd ["self"] (spGivenNow C) := by
  refine F.ok scGivenNow (fun vs H Q E h => ?_) (fun cdv A outer s H vs Q E hr h => ?_)
  · obtain ⟨a, m, rfl, _⟩ := h
    rfl
  obtain ⟨a, m, rfl, ⟨dx, h1⟩, k⟩ := h
  refine ⟨_, pss_one (ps_ret (pe_fn SE (hr.mono (by decide)) (pa_cons (pe_fn MS hr (pa_cons (pe_gi T.gGIVEN) (pa_cons (pe_fld (pv 0) rfl) (pa_cons (pe_fld (pv 0) rfl) (pa_cons (pe_fld (pv 0) rfl) pa_nil))))) pa_nil))), ?_⟩
  refine ⟨_, rfl, a, C, dx, _, _, rfl, h1, T.cl, T.nMe, f_me _, _, rfl, a, C, dx, _, _, rfl, h1, T.cl, T.nTurn, f_turn _, _, rfl, a, C, dx, _, _, rfl, h1, T.cl, T.nIns, f_ins _, 1, m.me, m.turn, m.ins, rfl, fun H2 r s2 n2 h2 => ?_⟩
  refine ⟨r, _, rfl, h2, ?_, fun H3 p s3 n3 h3 => ?_⟩
  · rw [bytes_length]
    decide
  · exact k _ p (s2.trans s3) (s2.free n3) h3
theorem scGive : FnScope ["self"] ["self"] (defScope sGive) := ⟨rfl, rfl, rfl, by decide +kernel, rfl, by decide +kernel, by decide +kernel⟩
theorem ok_give (F : Fun K "give" "End.give" sGive f fd) (T : Txt K mg C) (GN : Md P w K mg base C 5 "given_now" ["self"] (spGivenNow C)) : FnOk P w K mg base CX0 6 f fd ["self"] (spR C M.give) := by
  refine F.ok scGive (fun vs H Q E h => ?_) (fun cdv A outer s H vs Q E hr h => ?_)
  · obtain ⟨a, m, rfl, _⟩ := h
    rfl
  obtain ⟨a, m, rfl, ⟨dx, h1⟩, k⟩ := h
  refine ⟨_, pss_cons (ps_if (pt_cmpR op_ne (pe_fld (pv 0) rfl) (pe_gi T.gHAS) (nomark _)) (pss_one (ps_ret (pe_tup (pa_cons (pe_un un_neg pe_int) (pa_cons (pe_lst pa_nil) pa_nil))))) pss_nil)
    (pss_cons (ps_if (pt_cmpR op_eq (pe_fld (pv 0) rfl) pe_int (nomark _)) (pss_one (ps_ret (pe_tup (pa_cons (pe_un un_neg pe_int) (pa_cons (pe_lst pa_nil) pa_nil))))) pss_nil)
    (pss_cons (ps_fld (pv 0) (pe_op op_add (pe_fld (pv 0) rfl) pe_int) rfl)
    (pss_cons (ps_fld (pv 0) (pe_gi T.gGAVE) rfl)
    (pss_cons (ps_fld (pv 0) pe_bl rfl)
    (pss_one (ps_ret (pe_tup (pa_cons pe_int (pa_cons (pe_lst (pa_cons (pe_md0 (pv 0) T.cl GN hr) pa_nil)) pa_nil))))))))), ?_⟩
  refine ⟨_, rfl, a, C, dx, _, _, rfl, h1, T.cl, T.nStand, f_stand _, rfl, _, rfl, ?_⟩
  unfold M.give at k
  by_cases z : m.stand = 1
  · rw [if_pos z] at k
    refine if_false_of (ne_no (by omega)) ?_
    refine ⟨_, rfl, a, C, dx, _, _, rfl, h1, T.cl, T.nGreen, f_green _, rfl, _, rfl, ?_⟩
    by_cases y : m.green = 1
    · rw [if_pos y] at k
      refine if_true_of (eq_yes (by omega)) ?_
      exact ⟨_, rfl, Nat.zero_le _, fun q nq => ⟨(by show 2 ≤ sizeLine; decide), fun p np => close0 k h1 (Kept.refl a H) nq np⟩⟩
    · rw [if_neg y] at k
      refine if_false_of (eq_no (by omega)) ?_
      refine ⟨_, rfl, a, C, dx, _, _, rfl, h1, T.cl, T.nTurn, f_turn _, _, _, rfl, rfl, _, rfl, a, C, dx, _, rfl, h1, T.cl, T.nTurn, eF_small _, ?_⟩
      refine ⟨_, rfl, a, C, dx, _, rfl, st (w_turn m (m.turn + 1)), T.cl, T.nStand, eF_small _, ?_⟩
      refine ⟨_, rfl, a, C, dx, _, rfl, st (w_stand _ 0), T.cl, T.nHad, eF_small _, ?_⟩
      have h4 := st (H := upd (upd H a (.ins C dx (putF "turn" (.int ((m.turn + 1 : Nat) : Int)) (eF m)))) a (.ins C dx (putF "stand" (.int ((0 : Nat) : Int)) (eF { m with turn := m.turn + 1 })))) (a := a) (C := C) (dx := dx) (w_had { m with turn := m.turn + 1, stand := 0 } false)
      refine ⟨_, rfl, a, dx, _, rfl, h4, eF_no _ (by decide +kernel), a, _, rfl, ⟨dx, h4⟩, fun H5 r s5 n5 h5 => ⟨(by show 1 ≤ sizeLine; decide), fun q nq => ⟨(by show 2 ≤ sizeLine; decide), fun p np => ?_⟩⟩⟩
      exact close1 k (s5 _ _ h4) (Kept.same (((Kept.refl a H).upd).upd).upd s5) h5 nq np
  · rw [if_neg z] at k
    refine if_true_of (ne_yes (by omega)) ?_
    exact ⟨_, rfl, Nat.zero_le _, fun q nq => ⟨(by show 2 ≤ sizeLine; decide), fun p np => close0 k h1 (Kept.refl a H) nq np⟩⟩
end
end LL

namespace LL
open PySem PySem.Spec PyProof.Rows L2

section
variable {P : Program} {w : World} {K : PySem.W.Frag} {mg : Str → Option Value} {base : Heap} {C : Addr} {f : Addr} {fd : FuncData}
/-! ### hear_given -/
theorem scHearGiven : FnScope ["self", "turn", "count", "told"] ["self", "turn", "count"] (defScope sHearGiven) := ⟨rfl, rfl, rfl, by decide +kernel, rfl, by decide +kernel, by decide +kernel⟩
theorem ne_row {H : Hp} {q r : Addr} {rs : List Addr} {x : List Int} (hq : H q = some (.lst (rs.map V.ref))) (hr : H r = some (.lst (il x))) (hx : x ≠ []) : r ≠ q := by
  refine ne_of hr hq fun z => ?_
  cases x with
  | nil => exact hx rfl
  | cons y ys =>
    cases rs with
    | nil => cases z
    | cons b bs => cases z
theorem Rows.upd {H : Hp} {q : Addr} {rs0 : List Addr} {o : HO} (hq : H q = some (.lst (rs0.map V.ref))) : ∀ {rs : List Addr} {ts : List (List Int)}, Rows H rs ts → (∀ x ∈ ts, x ≠ []) → Rows (L2.upd H q o) rs ts
  | [], [], _, _ => trivial
  | [], _ :: _, h, _ => h.elim
  | _ :: _, [], h, _ => h.elim
  | r :: rs, x :: ts, h, hx => by
    refine ⟨?_, Rows.upd hq h.2 fun y hy => hx y (List.mem_cons_of_mem _ hy)⟩
    rw [upd_ne (ne_row hq h.1 (hx x (List.mem_cons_self ..)))]
    exact h.1
/-- one thing more -/
theorem Things.push {H : Hp} {q r : Addr} {rs : List Addr} {ts : List (List Int)} {x : List Int} (hq : H q = some (.lst (rs.map V.ref))) (hr : Rows H rs ts) (ne : ∀ y ∈ ts, y ≠ []) (hx : H r = some (.lst (il x))) (nx : x ≠ []) :
    Things (L2.upd H q (.lst (rs.map V.ref ++ [.ref r]))) q (ts ++ [x]) := by
  refine ⟨rs ++ [r], ?_, Rows.append ?_ (Rows.upd hq hr ne)⟩
  · rw [upd_same, List.map_append]
    rfl
  · rw [upd_ne (ne_row hq hx nx)]
    exact hx
theorem one_ne (m : M) (t c : Nat) : ∀ x ∈ (m.hearOne t c).2, x ≠ [] := by
  unfold M.hearOne
  split
  · unfold M.waitOrTake
    split
    · intro x hx
      rw [List.mem_singleton] at hx
      rw [hx]
      exact fun z => by cases z
    · intro x hx
      cases hx
  · intro x hx
    cases hx
theorem rows_small {H : Hp} {rs : List Addr} {ts : List (List Int)} (h : Rows H rs ts) (hl : ts.length ≤ 1) : (rs.map V.ref).length < sizeLine := by
  rw [List.length_map, h.length]
  exact Nat.lt_of_le_of_lt hl (by decide)
theorem hear_tail (T : Txt K mg C) {H H1 : Hp} {Q : VK} {a dx q : Addr} {m1 : M} {t c : Nat} {ts : List (List Int)} (h1 : H1 a = some (.ins C dx (eF m1))) (kp : Kept a H H1) (nq : H q = none) (hT : Things H1 q ts) (ne : ∀ y ∈ ts, y ≠ []) (hl : ts.length ≤ 1)
    (k : GivesL C a H Q (m1, ts ++ m1.hearTwo t)) :
    tSeq (tIfS (tAnd (tTest (tOp rNe (tFld K (tVar 0) "stand") (tC (.int 0)))) (tTest (tOp rEq (tVar 1) (tFld K (tVar 0) "turn"))))
      (tDrop (tBM K "list" rAppend (tVar 3) (tCons (tCall spSent [] E0 (tCons (tCall spMessage [] E0 (tCons (tC (.int 2)) (tCons (tFld K (tVar 0) "me") (tCons (tVar 1) (tCons (tC (.int 0)) tNil))))) tNil)) tNil))) tNext) (tRet (tVar 3))
      { nx := fun _ H' => Q .non H', rt := Q } [some (.ref a), some (.int (t : Int)), some (.int (c : Int)), some (.ref q)] H1 := by
  refine ⟨_, rfl, a, C, dx, _, _, rfl, h1, T.cl, T.nStand, f_stand _, rfl, _, rfl, ?_⟩
  unfold M.hearTwo at k
  by_cases z : m1.stand = 0
  · rw [if_neg (fun x => x.1 z), List.append_nil] at k
    refine if_false_of (ne_no (by omega)) ?_
    refine iteF ?_
    exact ⟨_, rfl, k _ q nq hT ⟨dx, h1⟩ kp⟩
  · refine if_true_of (ne_yes (by omega)) ?_
    refine ⟨_, rfl, _, rfl, a, C, dx, _, _, rfl, h1, T.cl, T.nTurn, f_turn _, rfl, _, rfl, ?_⟩
    by_cases y : t = m1.turn
    · rw [if_pos ⟨z, y⟩] at k
      refine if_true_of (eq_yes (by omega)) ?_
      obtain ⟨rs, hq, hr⟩ := hT
      refine ⟨_, rfl, .inl ⟨rfl, _, SqL.of hq⟩, ?_⟩
      refine ⟨_, rfl, a, C, dx, _, _, rfl, h1, T.cl, T.nMe, f_me _, _, rfl, 2, m1.me, t, 0, rfl, fun H2 r s2 n2 h2 => ?_⟩
      refine ⟨r, _, rfl, h2, (by rw [bytes_length]; decide), fun H3 p s3 n3 h3 => ?_⟩
      have s4 := s2.trans s3
      refine ⟨q, _, _, rfl, rfl, s4 _ _ hq, rows_small hr hl, ?_⟩
      have na : a ≠ q := fun e => by
        rw [e, hq] at h1
        cases h1
      refine ⟨_, rfl, k _ q nq (Things.push (s4 _ _ hq) (hr.mono s4) ne h3 (fun e => by cases e)) ⟨dx, ?_⟩ ?_⟩
      · rw [upd_ne na]
        exact s4 _ _ h1
      · intro b o hb hn
        have nb : b ≠ q := fun e => by
          rw [e, nq] at hb
          cases hb
        rw [upd_ne nb]
        exact s4 _ _ (kp b o hb hn)
    · rw [if_neg (fun x => y x.2), List.append_nil] at k
      refine if_false_of (eq_no (by omega)) ?_
      exact ⟨_, rfl, k _ q nq hT ⟨dx, h1⟩ kp⟩
theorem ok_hear_given (F : Fun K "hear_given" "End.hear_given" sHearGiven f fd) (T : Txt K mg C) (WT : Md P w K mg base C 3 "wait_or_take" ["self", "count"] (spWait C)) (SE : Fn P w K mg base 1 "sent" ["row"] spSent)
    (MS : Fn P w K mg base 4 "message" ["kind", "of", "turn", "count"] spMessage) : FnOk P w K mg base CX0 5 f fd ["self", "turn", "count"] (spHearGiven C) := by
  refine F.ok scHearGiven (fun vs H Q E h => ?_) (fun cdv A outer s H vs Q E hr h => ?_)
  · obtain ⟨a, m, t, c, rfl, _⟩ := h
    rfl
  obtain ⟨a, m, t, c, rfl, ⟨dx, h1⟩, k⟩ := h
  have hr1 := hr.mono (show 1 ≤ 4 by decide)
  have hr3 := hr.mono (show 3 ≤ 4 by decide)
  refine ⟨_, pss_cons (ps_set (i := 3) scHearGiven.nd rfl (Or.inl rfl) (pe_lst pa_nil))
    (pss_cons (ps_if (PW.pt (pw_and (pt_cmpR op_eq (pe_fld (pv 0) rfl) (pe_gi T.gGAVE) (nomark _)) (pw_and1 (pt_cmpR op_eq (pv 1) (pe_op op_add (pe_fld (pv 0) rfl) pe_int) (nomark _)))))
      (pss_cons (ps_fld (pv 0) (pv 1) rfl) (pss_one (ps_set (i := 3) scHearGiven.nd rfl (Or.inl rfl) (pe_md (pv 0) T.cl WT hr3 (pa_cons (pv 2) pa_nil))))) pss_nil)
    (pss_cons (ps_if (PW.pt (pw_and (pt_cmpR op_ne (pe_fld (pv 0) rfl) (pe_gi T.gGAVE) (nomark _)) (pw_and1 (pt_cmpR op_eq (pv 1) (pe_fld (pv 0) rfl) (nomark _)))))
      (pss_one (ps_expr (pe_bm PySem.F.plainAttrs_list PySem.F.slot_list_append PySem.F.type_list_append mt_append (pv 3)
        (pa_cons (pe_fn SE hr1 (pa_cons (pe_fn MS hr (pa_cons (pe_gi T.gHAD) (pa_cons (pe_fld (pv 0) rfl) (pa_cons (pv 1) (pa_cons pe_int pa_nil))))) pa_nil)) pa_nil)))) pss_nil)
    (pss_one (ps_ret (pv 3))))), ?_⟩
  refine ⟨Nat.zero_le _, fun q0 n0 => ?_⟩
  have s0 : Same H _ := same_upd (o := .lst []) n0
  have h2 := s0 _ _ h1
  have one : m.hearOne t c = if m.stand = 0 ∧ t = m.turn + 1 then ({ m with turn := t } : M).waitOrTake c else (m, []) := rfl
  have ne := one_ne m t c
  have sh := (short_one m t c).1
  unfold M.hearGiven at k
  refine ⟨_, rfl, a, C, dx, _, _, rfl, h2, T.cl, T.nStand, f_stand _, rfl, _, rfl, ?_⟩
  by_cases z : m.stand = 0
  · refine if_true_of (eq_yes (by omega)) ?_
    refine ⟨_, rfl, _, rfl, a, C, dx, _, _, rfl, h2, T.cl, T.nTurn, f_turn _, _, _, rfl, rfl, rfl, _, rfl, ?_⟩
    by_cases y : t = m.turn + 1
    · rw [if_pos ⟨z, y⟩] at one
      rw [one] at k ne sh
      refine if_true_of (eq_yes (by omega)) ?_
      refine ⟨_, rfl, _, rfl, a, C, dx, _, rfl, h2, T.cl, T.nTurn, eF_small _, ?_⟩
      have h3 := st (H := upd H q0 (.lst [])) (a := a) (C := C) (dx := dx) (w_turn m t)
      have kp : Kept a H _ := (Kept.of s0).upd (a := a) (o := .ins C dx (putF "turn" (.int (t : Int)) (eF m)))
      refine ⟨_, rfl, a, dx, _, rfl, h3, eF_no _ (by decide +kernel), _, rfl, a, _, c, rfl, ⟨dx, h3⟩, fun H' q nq ht ⟨dy, e'⟩ kk => ?_⟩
      exact hear_tail T e' (kp.trans kk) (kp.free nq h3) ht ne sh k
    · rw [if_neg fun x => y x.2] at one
      rw [one] at k ne sh
      refine if_false_of (eq_no (by omega)) ?_
      exact hear_tail T h2 (Kept.of s0) n0 (Things.nil upd_same) ne sh k
  · rw [if_neg fun x => z x.1] at one
    rw [one] at k ne sh
    refine if_false_of (eq_no (by omega)) ?_
    refine iteF ?_
    exact hear_tail T h2 (Kept.of s0) n0 (Things.nil upd_same) ne sh k
/-! ### hear_had, hear -/
theorem scHearHad : FnScope ["self", "turn"] ["self", "turn"] (defScope sHearHad) := ⟨rfl, rfl, rfl, by decide +kernel, rfl, by decide +kernel, by decide +kernel⟩
theorem ok_hear_had (F : Fun K "hear_had" "End.hear_had" sHearHad f fd) (T : Txt K mg C) : FnOk P w K mg base CX0 1 f fd ["self", "turn"] (spHearHad C) := by
  refine F.ok scHearHad (fun vs H Q E h => ?_) (fun cdv A outer s H vs Q E hr h => ?_)
  · obtain ⟨a, m, t, rfl, _⟩ := h
    rfl
  obtain ⟨a, m, t, rfl, ⟨dx, h1⟩, k⟩ := h
  refine ⟨_, pss_one (ps_if (PW.pt (pw_and (pt_cmpR op_eq (pe_fld (pv 0) rfl) (pe_gi T.gGAVE) (nomark _)) (pw_and1 (pt_cmpR op_eq (pv 1) (pe_fld (pv 0) rfl) (nomark _))))) (pss_one (ps_fld (pv 0) pe_bl rfl)) pss_nil), ?_⟩
  refine ⟨_, rfl, a, C, dx, _, _, rfl, h1, T.cl, T.nStand, f_stand _, rfl, _, rfl, ?_⟩
  unfold M.hearHad at k
  by_cases z : m.stand = 0
  · refine if_true_of (eq_yes (by omega)) ?_
    refine ⟨_, rfl, _, rfl, a, C, dx, _, _, rfl, h1, T.cl, T.nTurn, f_turn _, rfl, _, rfl, ?_⟩
    by_cases y : t = m.turn
    · rw [if_pos ⟨z, y⟩] at k
      refine if_true_of (eq_yes (by omega)) ?_
      refine ⟨_, rfl, a, C, dx, _, rfl, h1, T.cl, T.nHad, eF_small _, ?_⟩
      exact k _ ⟨dx, st (w_had m true)⟩ (Kept.upd (Kept.refl a H))
    · rw [if_neg fun x => y x.2] at k
      refine if_false_of (eq_no (by omega)) ?_
      exact k _ ⟨dx, h1⟩ (Kept.refl a H)
  · rw [if_neg fun x => z x.1] at k
    refine if_false_of (eq_no (by omega)) ?_
    refine iteF ?_
    exact k _ ⟨dx, h1⟩ (Kept.refl a H)
theorem scHear : FnScope ["self", "row"] ["self", "row"] (defScope sHear) := ⟨rfl, rfl, rfl, by decide +kernel, rfl, by decide +kernel, by decide +kernel⟩
theorem ok_hear (F : Fun K "hear" "End.hear" sHear f fd) (T : Txt K mg C) (KO : Fn P w K mg base 1 "kind_of" ["row"] (spRow gKind)) (TO : Fn P w K mg base 2 "turn_of" ["row"] (spRow gTurn)) (CT : Fn P w K mg base 2 "count_of" ["row"] (spRow gCount))
    (HG : Md P w K mg base C 5 "hear_given" ["self", "turn", "count"] (spHearGiven C)) (HH : Md P w K mg base C 1 "hear_had" ["self", "turn"] (spHearHad C)) : FnOk P w K mg base CX0 6 f fd ["self", "row"] (spHear C) := by
  refine F.ok scHear (fun vs H Q E h => ?_) (fun cdv A outer s H vs Q E hr h => ?_)
  · obtain ⟨a, r, m, l, rfl, _⟩ := h
    rfl
  obtain ⟨a, r, m, l, rfl, ⟨dx, h1⟩, hl, h16, k⟩ := h
  have hr1 := hr.mono (show 1 ≤ 5 by decide)
  have hr2 := hr.mono (show 2 ≤ 5 by decide)
  refine ⟨_, pss_cons (ps_if (pt_cmpR op_eq (pe_fn KO hr1 (pa_cons (pv 1) pa_nil)) (pe_gi T.gGIVEN) (nomark _))
      (pss_one (ps_ret (pe_tup (pa_cons pe_int (pa_cons (pe_md (pv 0) T.cl HG hr (pa_cons (pe_fn TO hr2 (pa_cons (pv 1) pa_nil)) (pa_cons (pe_fn CT hr2 (pa_cons (pv 1) pa_nil)) pa_nil))) pa_nil))))) pss_nil)
    (pss_cons (ps_expr (pe_md (pv 0) T.cl HH hr1 (pa_cons (pe_fn TO hr2 (pa_cons (pv 1) pa_nil)) pa_nil)))
    (pss_one (ps_ret (pe_tup (pa_cons pe_int (pa_cons (pe_lst pa_nil) pa_nil)))))), ?_⟩
  refine ⟨_, rfl, r, l, rfl, hl, h16, rfl, _, rfl, ?_⟩
  unfold M.hear at k
  by_cases z : l.getD 0 0 = 1
  · rw [if_pos z] at k
    refine if_true_of (eq_yes (by omega)) ?_
    refine ⟨_, rfl, a, dx, _, rfl, h1, eF_no m (by decide +kernel), _, rfl, r, l, rfl, hl, h16, _, rfl, r, l, rfl, hl, h16, a, m, _, _, rfl, ⟨dx, h1⟩, fun H' q nq ht ⟨dy, e'⟩ kk => ⟨(by show 2 ≤ sizeLine; decide), fun p np => ?_⟩⟩
    exact closeT k e' kk ht np
  · rw [if_neg z] at k
    refine if_false_of (eq_no (by omega)) ?_
    refine ⟨_, rfl, a, dx, _, rfl, h1, eF_no m (by decide +kernel), _, rfl, r, l, rfl, hl, h16, a, m, _, rfl, ⟨dx, h1⟩, fun H' ⟨dy, e'⟩ kk => ?_⟩
    exact ⟨Nat.zero_le _, fun q nq => ⟨(by show 2 ≤ sizeLine; decide), fun p np => close0 k e' kk nq np⟩⟩
/-! ### tick, state -/
theorem scTick : FnScope ["self"] ["self"] (defScope sTick) := ⟨rfl, rfl, rfl, by decide +kernel, rfl, by decide +kernel, by decide +kernel⟩
theorem ok_tick (F : Fun K "tick" "End.tick" sTick f fd) (T : Txt K mg C) (GN : Md P w K mg base C 5 "given_now" ["self"] (spGivenNow C)) : FnOk P w K mg base CX0 6 f fd ["self"] (spR C M.tick) := by
  refine F.ok scTick (fun vs H Q E h => ?_) (fun cdv A outer s H vs Q E hr h => ?_)
  · obtain ⟨a, m, rfl, _⟩ := h
    rfl
  obtain ⟨a, m, rfl, ⟨dx, h1⟩, k⟩ := h
  refine ⟨_, pss_cons (ps_fld (pv 0) (pe_op op_add (pe_fld (pv 0) rfl) pe_int) rfl)
    (pss_cons (ps_if (PW.pt (pw_and (pt_cmpR op_eq (pe_op op_mod (pe_fld (pv 0) rfl) (pe_gi T.gEVERY)) pe_int (nomark _)) (pw_and (pt_cmpR op_eq (pe_fld (pv 0) rfl) (pe_gi T.gGAVE) (nomark _)) (pw_and1 (pt_not (pt_val (pe_fld (pv 0) rfl)))))))
      (pss_one (ps_ret (pe_tup (pa_cons pe_int (pa_cons (pe_lst (pa_cons (pe_md0 (pv 0) T.cl GN hr) pa_nil)) pa_nil))))) pss_nil)
    (pss_one (ps_ret (pe_tup (pa_cons pe_int (pa_cons (pe_lst pa_nil) pa_nil)))))), ?_⟩
  refine ⟨_, rfl, a, C, dx, _, _, rfl, h1, T.cl, T.nTicks, f_ticks _, _, _, rfl, rfl, _, rfl, a, C, dx, _, rfl, h1, T.cl, T.nTicks, eF_small _, ?_⟩
  have h2 : _ = some (HO.ins C dx (eF m.ticked)) := st (H := H) (a := a) (C := C) (dx := dx) (w_ticks m (m.ticks + 1))
  have kp : Kept a H _ := (Kept.refl a H).upd (o := .ins C dx (putF "ticks" (.int ((m.ticks + 1 : Nat) : Int)) (eF m)))
  refine ⟨_, rfl, a, C, dx, _, _, rfl, h2, T.cl, T.nTicks, f_ticks _, _, _, rfl, rfl, (by show (0 : Int) < 10; decide), rfl, _, rfl, ?_⟩
  unfold M.tick at k
  by_cases z : (m.ticks + 1) % 10 = 0
  · refine if_true_of (eq_yes (by show ((m.ticks + 1 : Nat) : Int) % 10 = 0; omega)) ?_
    refine ⟨_, rfl, a, C, dx, _, _, rfl, h2, T.cl, T.nStand, f_stand _, rfl, _, rfl, ?_⟩
    by_cases y : m.stand = 0
    · refine if_true_of (eq_yes (by show (m.stand : Int) = 0; omega)) ?_
      refine ⟨_, rfl, a, C, dx, _, _, rfl, h2, T.cl, T.nHad, f_had _, _, rfl, ?_⟩
      cases x : m.had with
      | true =>
        rw [if_neg (fun q => by rw [x] at q; cases q.2.2)] at k
        have e : (!m.ticked.had) = false := by
          show (!m.had) = false
          rw [x]
          rfl
        refine if_false_of e ?_
        exact ⟨Nat.zero_le _, fun q nq => ⟨(by show 2 ≤ sizeLine; decide), fun p np => close0 k h2 kp nq np⟩⟩
      | false =>
        rw [if_pos ⟨z, y, x⟩] at k
        have e : (!m.ticked.had) = true := by
          show (!m.had) = true
          rw [x]
          rfl
        refine if_true_of e ?_
        refine ⟨_, rfl, a, dx, _, rfl, h2, eF_no _ (by decide +kernel), a, _, rfl, ⟨dx, h2⟩, fun H5 r s5 n5 h5 => ⟨(by show 1 ≤ sizeLine; decide), fun q nq => ⟨(by show 2 ≤ sizeLine; decide), fun p np => ?_⟩⟩⟩
        exact close1 k (s5 _ _ h2) (kp.same s5) h5 nq np
    · rw [if_neg (fun q => y q.2.1)] at k
      refine if_false_of (eq_no (by show ¬ (m.stand : Int) = 0; omega)) ?_
      refine iteF ?_
      exact ⟨Nat.zero_le _, fun q nq => ⟨(by show 2 ≤ sizeLine; decide), fun p np => close0 k h2 kp nq np⟩⟩
  · rw [if_neg (fun q => z q.1)] at k
    refine if_false_of (eq_no (by show ¬ ((m.ticks + 1 : Nat) : Int) % 10 = 0; omega)) ?_
    refine iteF ?_
    exact ⟨Nat.zero_le _, fun q nq => ⟨(by show 2 ≤ sizeLine; decide), fun p np => close0 k h2 kp nq np⟩⟩
theorem scState : FnScope ["self"] ["self"] (defScope sState) := ⟨rfl, rfl, rfl, by decide +kernel, rfl, by decide +kernel, by decide +kernel⟩
theorem ok_state (F : Fun K "state" "End.state" sState f fd) (T : Txt K mg C) : FnOk P w K mg base CX0 1 f fd ["self"] (spState C) := by
  refine F.ok scState (fun vs H Q E h => ?_) (fun cdv A outer s H vs Q E hr h => ?_)
  · obtain ⟨a, m, rfl, _⟩ := h
    rfl
  obtain ⟨a, m, rfl, ⟨dx, h1⟩, k⟩ := h
  refine ⟨_, pss_one (ps_ret (pe_lst (pa_cons (pe_fld (pv 0) rfl) (pa_cons (pe_fld (pv 0) rfl) (pa_cons (pe_fld (pv 0) rfl) (pa_cons (pe_fld (pv 0) rfl) (pa_cons (pe_fld (pv 0) rfl) (pa_cons (pe_fld (pv 0) rfl) pa_nil)))))))), ?_⟩
  refine ⟨_, rfl, a, C, dx, _, _, rfl, h1, T.cl, T.nTurn, f_turn _, _, rfl, a, C, dx, _, _, rfl, h1, T.cl, T.nIns, f_ins _, _, rfl, a, C, dx, _, _, rfl, h1, T.cl, T.nOuts, f_outs _, _, rfl, a, C, dx, _, _, rfl, h1, T.cl, T.nStand, f_stand _, _, rfl, a, C, dx, _, _, rfl, h1, T.cl, T.nGreen, f_green _, _, rfl, a, C, dx, _, _, rfl, h1, T.cl, T.nOther, f_other _, (by show 6 ≤ sizeLine; decide), fun p np => ?_⟩
  exact k _ p (same_upd np) np upd_same
end
end LL

namespace LL
open PySem PySem.Spec PyProof.Rows L2

/-! ### promises -/
def GivesA (C a : Addr) (H : Hp) (Q : VK) (m1 : M) (out : List Int) : Prop := ∀ H' p, H p = none → H' p = some (.lst (il out)) → EndAt C H' a m1 → Kept a H H' → Q (.ref p) H'
def spPlain (C : Addr) : Sp := fun vs H Q _ => ∃ (a : Addr) (m : M) (n : Int), vs = [.ref a, .int n] ∧ EndAt C H a m ∧ Gives C a H Q (m.plain n)
def spHeardCall (C : Addr) : Sp := fun vs H Q _ => ∃ (a r : Addr) (m : M) (l : List Nat), vs = [.ref a, .ref r] ∧ EndAt C H a m ∧ H r = some (.lst (nl l)) ∧ Gives C a H Q (m.heard l)
def spToldBy (C : Addr) (K : PySem.W.Frag) : Sp := fun vs H Q _ => ∃ (a c : Addr) (m : M) (ns : List Int) (k : Nat) (p : Int), vs = [.ref a, .ref c, .int (k : Int)] ∧ EndAt C H a m ∧ SqL K H c (il ns) ∧ ns[k]? = some p ∧
  (p = 8 → GivesA C a H Q m (pk (said 0 (m.state.map fun (x : Nat) => (x : Int)) []))) ∧
  (p = 6 → ∃ (n : Nat) (l : List Nat), ns[k + 1]? = some (n : Int) ∧ k + 2 + n ≤ ns.length ∧ (ns.drop (k + 2)).take n = Km264Neutral.nums l ∧ GivesA C a H Q (m.heard l).1 (pk (said (m.heard l).2.1 [] (m.heard l).2.2))) ∧
  (p ≠ 8 → p ≠ 6 → GivesA C a H Q (m.plain p).1 (pk (said (m.plain p).2.1 [] (m.plain p).2.2)))
def spAns (K : PySem.W.Frag) : Sp := fun vs H Q _ => ∃ (c : Addr) (ns : List Int), vs = [.ref c] ∧ SqL K H c (il ns) ∧ PyKm264.answers_asked ns = true ∧ ns.length ≤ 30000 ∧
  ∀ (H' : Hp) (p : Addr), H' p = some (.lst (il (PyKm264.answers ns))) → Q (.ref p) H'
abbrev sPlain : Stmt := top 51
abbrev sHeardCall : Stmt := top 52
abbrev sToldBy : Stmt := top 53
abbrev sAns : Stmt := top 54
theorem Gives.same {C a : Addr} {H H' : Hp} {Q : VK} {r : R} (g : Gives C a H Q r) (s : Same H H') : Gives C a H' Q r := fun H2 p q h1 h2 h3 h4 => g H2 p q h1 h2 h3 ((Kept.of s).trans h4)
section
variable {P : Program} {w : World} {K : PySem.W.Frag} {mg : Str → Option Value} {base : Heap} {C : Addr} {f : Addr} {fd : FuncData}
theorem scPlain : FnScope ["end", "number"] ["end", "number"] (defScope sPlain) := ⟨rfl, rfl, rfl, by decide +kernel, rfl, by decide +kernel, by decide +kernel⟩
theorem ok_plain (F : Fun K "plain_call" "plain_call" sPlain f fd) (T : Txt K mg C) (m1 : Md P w K mg base C 2 "turn_green" ["self"] (spR C M.turnGreen)) (m2 : Md P w K mg base C 2 "turn_red" ["self"] (spR C M.turnRed))
    (m3 : Md P w K mg base C 2 "one_in" ["self"] (spR C M.oneIn)) (m4 : Md P w K mg base C 3 "one_out" ["self"] (spR C M.oneOut)) (m5 : Md P w K mg base C 6 "give" ["self"] (spR C M.give)) (m6 : Md P w K mg base C 6 "tick" ["self"] (spR C M.tick)) :
    FnOk P w K mg base CX0 7 f fd ["end", "number"] (spPlain C) := by
  refine F.ok scPlain (fun vs H Q E h => ?_) (fun cdv A outer s H vs Q E hr h => ?_)
  · obtain ⟨a, m, n, rfl, _⟩ := h
    rfl
  obtain ⟨a, m, n, rfl, ⟨dx, h1⟩, k⟩ := h
  have hr2 := hr.mono (show 2 ≤ 6 by decide)
  have hr3 := hr.mono (show 3 ≤ 6 by decide)
  refine ⟨_, pss_cons (ps_if (pt_cmpR op_eq (pv 1) (pe_gi T.gGREEN) (nomark _)) (pss_one (ps_ret (pe_md0 (pv 0) T.cl m1 hr2))) pss_nil)
    (pss_cons (ps_if (pt_cmpR op_eq (pv 1) (pe_gi T.gRED) (nomark _)) (pss_one (ps_ret (pe_md0 (pv 0) T.cl m2 hr2))) pss_nil)
    (pss_cons (ps_if (pt_cmpR op_eq (pv 1) (pe_gi T.gIN) (nomark _)) (pss_one (ps_ret (pe_md0 (pv 0) T.cl m3 hr2))) pss_nil)
    (pss_cons (ps_if (pt_cmpR op_eq (pv 1) (pe_gi T.gOUT) (nomark _)) (pss_one (ps_ret (pe_md0 (pv 0) T.cl m4 hr3))) pss_nil)
    (pss_cons (ps_if (pt_cmpR op_eq (pv 1) (pe_gi T.gGIVE) (nomark _)) (pss_one (ps_ret (pe_md0 (pv 0) T.cl m5 hr))) pss_nil)
    (pss_one (ps_ret (pe_md0 (pv 0) T.cl m6 hr))))))), ?_⟩
  unfold M.plain at k
  refine ⟨_, rfl, rfl, _, rfl, ?_⟩
  by_cases z1 : n = 1
  · rw [if_pos z1] at k
    refine if_true_of (eq_yes z1) ?_
    exact ⟨_, rfl, a, dx, _, rfl, h1, eF_no m (by decide +kernel), a, m, rfl, ⟨dx, h1⟩, k⟩
  rw [if_neg z1] at k
  refine if_false_of (eq_no z1) ?_
  refine ⟨_, rfl, rfl, _, rfl, ?_⟩
  by_cases z2 : n = 2
  · rw [if_pos z2] at k
    refine if_true_of (eq_yes z2) ?_
    exact ⟨_, rfl, a, dx, _, rfl, h1, eF_no m (by decide +kernel), a, m, rfl, ⟨dx, h1⟩, k⟩
  rw [if_neg z2] at k
  refine if_false_of (eq_no z2) ?_
  refine ⟨_, rfl, rfl, _, rfl, ?_⟩
  by_cases z3 : n = 3
  · rw [if_pos z3] at k
    refine if_true_of (eq_yes z3) ?_
    exact ⟨_, rfl, a, dx, _, rfl, h1, eF_no m (by decide +kernel), a, m, rfl, ⟨dx, h1⟩, k⟩
  rw [if_neg z3] at k
  refine if_false_of (eq_no z3) ?_
  refine ⟨_, rfl, rfl, _, rfl, ?_⟩
  by_cases z4 : n = 4
  · rw [if_pos z4] at k
    refine if_true_of (eq_yes z4) ?_
    exact ⟨_, rfl, a, dx, _, rfl, h1, eF_no m (by decide +kernel), a, m, rfl, ⟨dx, h1⟩, k⟩
  rw [if_neg z4] at k
  refine if_false_of (eq_no z4) ?_
  refine ⟨_, rfl, rfl, _, rfl, ?_⟩
  by_cases z5 : n = 5
  · rw [if_pos z5] at k
    refine if_true_of (eq_yes z5) ?_
    exact ⟨_, rfl, a, dx, _, rfl, h1, eF_no m (by decide +kernel), a, m, rfl, ⟨dx, h1⟩, k⟩
  rw [if_neg z5] at k
  refine if_false_of (eq_no z5) ?_
  exact ⟨_, rfl, a, dx, _, rfl, h1, eF_no m (by decide +kernel), a, m, rfl, ⟨dx, h1⟩, k⟩
theorem scHeardCall : FnScope ["end", "row"] ["end", "row"] (defScope sHeardCall) := ⟨rfl, rfl, rfl, by decide +kernel, rfl, by decide +kernel, by decide +kernel⟩
theorem right_len {me : Nat} {l : List Nat} (h : rightP me l = true) : l.length = 16 := by
  by_cases z : l.length = 16
  · exact z
  · unfold rightP at h
    rw [decide_eq_false z] at h
    simp at h
theorem ok_heard_call (F : Fun K "heard_call" "heard_call" sHeardCall f fd) (T : Txt K mg C) (IR : Fn P w K mg base 5 "is_right" ["row", "me"] spIsRight) (HE : Md P w K mg base C 6 "hear" ["self", "row"] (spHear C)) :
    FnOk P w K mg base CX0 7 f fd ["end", "row"] (spHeardCall C) := by
  refine F.ok scHeardCall (fun vs H Q E h => ?_) (fun cdv A outer s H vs Q E hr h => ?_)
  · obtain ⟨a, r, m, l, rfl, _⟩ := h
    rfl
  obtain ⟨a, r, m, l, rfl, ⟨dx, h1⟩, hl, k⟩ := h
  refine ⟨_, pss_cons (ps_if (pt_not (pt_val (pe_fn IR (hr.mono (by decide)) (pa_cons (pv 1) (pa_cons (pe_fld (pv 0) rfl) pa_nil))))) (pss_one (ps_ret (pe_tup (pa_cons (pe_un un_neg pe_int) (pa_cons (pe_lst pa_nil) pa_nil))))) pss_nil)
    (pss_one (ps_ret (pe_md (pv 0) T.cl HE hr (pa_cons (pv 1) pa_nil)))), ?_⟩
  refine ⟨_, rfl, _, rfl, a, C, dx, _, _, rfl, h1, T.cl, T.nMe, f_me _, r, l, m.me, rfl, hl, fun H2 s2 => ⟨_, rfl, ?_⟩⟩
  unfold M.heard at k
  have h2 := s2 _ _ h1
  cases z : rightP m.me l with
  | false =>
    rw [if_neg (by rw [z]; exact Bool.false_ne_true)] at k
    refine iteT ?_
    exact ⟨_, rfl, Nat.zero_le _, fun q nq => ⟨(by show 2 ≤ sizeLine; decide), fun p np => close0 k h2 (Kept.of s2) nq np⟩⟩
  | true =>
    rw [if_pos z] at k
    refine iteF ?_
    exact ⟨_, rfl, a, dx, _, rfl, h2, eF_no m (by decide +kernel), _, rfl, a, r, m, l, rfl, ⟨dx, h2⟩, s2 _ _ hl, right_len z, k.same s2⟩
theorem scToldBy : FnScope ["end", "calls", "at", "number", "told"] ["end", "calls", "at"] (defScope sToldBy) := ⟨rfl, rfl, rfl, by decide +kernel, rfl, by decide +kernel, by decide +kernel⟩
theorem told_tail {H H1 : Hp} {Q : VK} {a c q dx : Addr} {k : Nat} {v : Int} {m1 : M} {ts : List (List Int)} (h1 : H1 a = some (.ins C dx (eF m1))) (kp : Kept a H H1) (hT : Things H1 q ts) (hs : Short ts) (g : GivesA C a H Q m1 (pk (said v [] ts))) :
    tRet (tCall spAnswered [] E0 (tCons (tVar 3) (tCons (tLst tNil) (tCons (tVar 4) tNil)))) { nx := fun _ H' => Q .non H', rt := Q } [some (.ref a), some (.ref c), some (.int (k : Int)), some (.int v), some (.ref q)] H1 := by
  refine ⟨_, rfl, Nat.zero_le _, fun o no => ⟨_, rfl, v, o, q, [], ts, rfl, upd_same, hT.mono (same_upd no), Nat.zero_le _, Nat.le_trans hs.flat (by decide), fun H3 p s3 n3 h3 => ?_⟩⟩
  have s4 : Same H1 H3 := (same_upd no).trans s3
  have n4 : H1 p = none := (same_upd no).free n3
  exact g _ p (kp.free n4 h1) h3 ⟨dx, s4 _ _ h1⟩ (kp.same s4)
theorem ok_told_by (F : Fun K "told_by" "told_by" sToldBy f fd) (T : Txt K mg C) (AN : Fn P w K mg base 1 "answered" ["number", "out", "told"] spAnswered) (SM : Md P w K mg base C 1 "state" ["self"] (spState C))
    (HC : Fn P w K mg base 7 "heard_call" ["end", "row"] (spHeardCall C)) (HA : Fn P w K mg base 1 "heard_at" ["calls", "at"] (spHeardAt K)) (PC : Fn P w K mg base 7 "plain_call" ["end", "number"] (spPlain C)) :
    FnOk P w K mg base CX0 8 f fd ["end", "calls", "at"] (spToldBy C K) := by
  refine F.ok scToldBy (fun vs H Q E h => ?_) (fun cdv A outer s H vs Q E hr h => ?_)
  · obtain ⟨a, c, m, ns, k, p, rfl, _⟩ := h
    rfl
  obtain ⟨a, c, m, ns, k, p, rfl, ⟨dx, h1⟩, hS, hp, k8, k6, k0⟩ := h
  have hr1 := hr.mono (show 1 ≤ 7 by decide)
  refine ⟨_, pss_cons (ps_if (pt_cmpR op_eq (pe_ix ix_list (pv 1) (pv 2) (fun _ _ => rfl)) (pe_gi T.gSTATE) (nomark _)) (pss_one (ps_ret (pe_fn AN hr1 (pa_cons pe_int (pa_cons (pe_md0 (pv 0) T.cl SM hr1) (pa_cons (pe_lst pa_nil) pa_nil)))))) pss_nil)
    (pss_cons (ps_if (pt_cmpR op_eq (pe_ix ix_list (pv 1) (pv 2) (fun _ _ => rfl)) (pe_gi T.gHEARD) (nomark _))
      (pss_one (ps_asg (pe_fn HC hr (pa_cons (pv 0) (pa_cons (pe_fn HA hr1 (pa_cons (pv 1) (pa_cons (pv 2) pa_nil))) pa_nil)))
        (pg_tup rfl (pgs_cons (pg_name (i := 3) scToldBy.nd rfl (Or.inl rfl)) (pgs_cons (pg_name (i := 4) scToldBy.nd rfl (Or.inl rfl)) pgs_nil)))))
      (pss_one (ps_asg (pe_fn PC hr (pa_cons (pv 0) (pa_cons (pe_ix ix_list (pv 1) (pv 2) (fun _ _ => rfl)) pa_nil)))
        (pg_tup rfl (pgs_cons (pg_name (i := 3) scToldBy.nd rfl (Or.inl rfl)) (pgs_cons (pg_name (i := 4) scToldBy.nd rfl (Or.inl rfl)) pgs_nil))))))
    (pss_one (ps_ret (pe_fn AN hr1 (pa_cons (pv 3) (pa_cons (pe_lst pa_nil) (pa_cons (pv 4) pa_nil))))))), ?_⟩
  refine ⟨_, rfl, _, rfl, c, _, _, _, rfl, rfl, hS, at_k hp, rfl, _, rfl, ?_⟩
  by_cases z8 : p = 8
  · refine if_true_of (eq_yes z8) ?_
    refine ⟨_, rfl, a, dx, _, rfl, h1, eF_no m (by decide +kernel), a, m, rfl, ⟨dx, h1⟩, fun H2 o s2 n2 h2 => ⟨Nat.zero_le _, fun t nt => ?_⟩⟩
    have s3 : Same H _ := s2.trans (same_upd (o := .lst []) nt)
    refine ⟨0, o, t, (m.state.map fun (x : Nat) => (x : Int)), [], rfl, ?_, Things.nil upd_same, (by show 6 ≤ 1000; decide), Nat.zero_le _, fun H4 q s4 n4 h4 => ?_⟩
    · refine (same_upd nt _ _ h2).trans ?_
      exact congrArg (fun z => some (HO.lst z)) (il_nums m.state).symm
    · exact k8 z8 _ q (s3.free n4) h4 ⟨dx, s4 _ _ (s3 _ _ h1)⟩ (Kept.of (s3.trans s4))
  · refine if_false_of (eq_no z8) ?_
    refine ⟨_, rfl, _, rfl, c, _, _, _, rfl, rfl, hS, at_k hp, rfl, _, rfl, ?_⟩
    by_cases z6 : p = 6
    · refine if_true_of (eq_yes z6) ?_
      obtain ⟨n, l, hn, hle, hl, g⟩ := k6 z6
      refine ⟨_, rfl, _, rfl, _, rfl, c, ns, k, n, rfl, hS, hn, hle, fun H2 r s2 n2 h2 => ?_⟩
      rw [hl, il_nums] at h2
      refine ⟨a, r, m, l, rfl, ⟨dx, s2 _ _ h1⟩, h2, fun H3 t q ht hT ⟨dy, e3⟩ kk => ?_⟩
      refine ⟨t, _, rfl, SqT.of ht, rfl, _, _, rfl, _, _, rfl, rfl, ?_⟩
      exact told_tail e3 ((Kept.of s2).trans kk) hT (short_heard l m) g
    · refine if_false_of (eq_no z6) ?_
      refine ⟨_, rfl, _, rfl, _, rfl, c, _, _, _, rfl, rfl, hS, at_k hp, a, m, p, rfl, ⟨dx, h1⟩, fun H3 t q ht hT ⟨dy, e3⟩ kk => ?_⟩
      refine ⟨t, _, rfl, SqT.of ht, rfl, _, _, rfl, _, _, rfl, rfl, ?_⟩
      exact told_tail e3 kk hT (short_plain p m) (k0 z8 z6)
/-! ### answers -/
theorem scAns : FnScope ["calls", "end", "found", "at"] ["calls"] (defScope sAns) := ⟨rfl, rfl, rfl, by decide +kernel, rfl, by decide +kernel, by decide +kernel⟩
/-- found.extend(q), then at = at + length_at(calls, at) -/
theorem ext_tail {H H2 : Hp} {D : Ends} {c a f q : Addr} {ns done out : List Int} {k : Nat} {p n : Int} (hS : SqL K H c (il ns)) (s2 : Same H H2) (nf : H f = none) (hf : H2 f = some (.lst (il done))) (hq : H2 q = some (.lst (il out)))
    (hl : done.length + out.length ≤ sizeLine) (hp : ns[k]? = some p) (hn : p = 6 → ns[k + 1]? = some n)
    (fin : ∀ H3, Same H H3 → H3 f = some (.lst (il (done ++ out))) → Kept f H2 H3 → D.nx [some (.ref c), some (.ref a), some (.ref f), some (.int ((k : Int) + (if p = 0 then 2 else if p = 6 then 2 + n else 1)))] H3) :
    rExtend (.ref f) [.ref q] H2 (fun _ H3 => tAsg (tOp (rI0 fun i j => .int (i + j)) (tVar 3) (tCall (spLengthAt K) [] E0 (tCons (tVar 0) (tCons (tVar 3) tNil)))) (gName 3) D [some (.ref c), some (.ref a), some (.ref f), some (.int (k : Int))] H3) := by
  have s3 : Same H (upd H2 f (.lst (il done ++ il out))) := same_updS s2 nf
  refine ⟨f, q, _, _, rfl, rfl, hf, hq, ?_, ?_⟩
  · rw [il_length, il_length]
    exact hl
  refine ⟨_, rfl, _, rfl, _, rfl, c, ns, k, p, n, rfl, s3.seq hS, hp, hn, _, _, rfl, rfl, ?_⟩
  refine fin _ s3 ?_ (Kept.upd (Kept.refl f H2))
  rw [upd_same, il_append]
theorem ok_ans (F : Fun K "answers" "answers" sAns f fd) (T : Txt K mg C) (CE : Ctor P w K mg base C 1 "End" ["self", "me"] (spInit C)) (TB : Fn P w K mg base 8 "told_by" ["end", "calls", "at"] (spToldBy C K))
    (WA : Fn P w K mg base 1 "who_at" ["calls", "at"] (spWhoAt K)) (LA : Fn P w K mg base 1 "length_at" ["calls", "at"] (spLengthAt K)) (AN : Fn P w K mg base 1 "answered" ["number", "out", "told"] spAnswered)
    (LT : Fn P w K mg base 1 "lit" ["green"] (spPair 1)) : FnOk P w K mg base CX0 9 f fd ["calls"] (spAns K) := by
  refine F.ok scAns (fun vs H Q E h => ?_) (fun cdv A outer s H vs Q E hr h => ?_)
  · obtain ⟨c, ns, rfl, _⟩ := h
    rfl
  obtain ⟨c, ns, rfl, hS, hask, hlen, done_⟩ := h
  have hr1 := hr.mono (show 1 ≤ 8 by decide)
  have hr2 := hr.mono (show 2 ≤ 8 by decide)
  refine ⟨_, pss_cons (ps_set (i := 1) scAns.nd rfl (Or.inl rfl) (pe_ctor CE hr2 (pa_cons pe_int pa_nil)))
    (pss_cons (ps_set (i := 2) scAns.nd rfl (Or.inl rfl) (pe_lst pa_nil))
    (pss_cons (ps_set (i := 3) scAns.nd rfl (Or.inl rfl) pe_int)
    (pss_cons (ps_while PassesOwn.never (pt_cmpR op_lt (pv 3) (pe_callB call_len_seq (by rfl) T.len PySem.boot_len (pa_cons (pv 0) pa_nil)) (nomark _))
      (pss_cons (ps_if (pt_cmpR op_ne (pe_ix ix_list (pv 0) (pv 3) (fun _ _ => rfl)) (pe_gi T.gSTART) (nomark _))
        (pss_one (ps_expr (pe_bm PySem.F.plainAttrs_list PySem.F.slot_list_extend PySem.F.type_list_extend mt_extend (pv 2) (pa_cons (pe_fn TB hr (pa_cons (pv 1) (pa_cons (pv 0) (pa_cons (pv 3) pa_nil)))) pa_nil))))
        (pss_one (ps_if (pt_cmpR op_gt (pe_fn WA hr1 (pa_cons (pv 0) (pa_cons (pv 3) pa_nil))) pe_int (nomark _))
          (pss_one (ps_expr (pe_bm PySem.F.plainAttrs_list PySem.F.slot_list_extend PySem.F.type_list_extend mt_extend (pv 2) (pa_cons (pe_fn AN hr1 (pa_cons (pe_un un_neg pe_int) (pa_cons (pe_lst pa_nil) (pa_cons (pe_lst pa_nil) pa_nil)))) pa_nil))))
          (pss_cons (ps_set (i := 1) scAns.nd rfl (Or.inl rfl) (pe_ctor CE hr2 (pa_cons (pe_fn WA hr1 (pa_cons (pv 0) (pa_cons (pv 3) pa_nil))) pa_nil)))
          (pss_one (ps_expr (pe_bm PySem.F.plainAttrs_list PySem.F.slot_list_extend PySem.F.type_list_extend mt_extend (pv 2)
            (pa_cons (pe_fn AN hr1 (pa_cons pe_int (pa_cons (pe_lst pa_nil) (pa_cons (pe_lst (pa_cons (pe_fn LT hr1 (pa_cons pe_int pa_nil)) pa_nil)) pa_nil)))) pa_nil))))))))
      (pss_one (ps_set (i := 3) scAns.nd rfl (Or.inl rfl) (pe_op op_add (pv 3) (pe_fn LA hr1 (pa_cons (pv 0) (pa_cons (pv 3) pa_nil))))))))
    (pss_one (ps_ret (pv 2)))))), ?_⟩
  -- end = End(0)
  intro x dx nx nd ne
  refine ⟨x, dx, 0, rfl, upd_same, fun H1 e1 kp1 => ⟨rfl, ?_⟩⟩
  have s1 : Same H H1 := Same.made nx nd kp1
  -- found = []
  refine ⟨Nat.zero_le _, fun g ng => ?_⟩
  have s2 : Same H _ := s1.trans (same_upd (o := .lst []) ng)
  -- the loop
  refine ⟨fun i σ H' => ∃ (k : Nat) (m : M) (done : List Int) (a g : Addr), i = ns.length - k ∧ σ = [some (.ref c), some (.ref a), some (.ref g), some (.int (k : Int))] ∧ Now ns k m done ∧ EndAt C H' a m ∧ H' g = some (.lst (il done)) ∧ Same H H' ∧ H a = none ∧ H g = none,
    ⟨_, 0, M.fresh 0, [], x, g, rfl, rfl, now_start hask, e1.same (same_upd ng), upd_same, s2, nx, s1.free ng⟩, ?_⟩
  rintro i σ H' ⟨k, m, done, a, g, rfl, rfl, hN, ⟨dx, ha⟩, hg, sH, na, ngg⟩
  have hS' := sH.seq hS
  refine ⟨_, rfl, _, rfl, c, _, rfl, .inl hS', _, _, rfl, rfl, _, rfl, ?_⟩
  rw [il_length]
  obtain ⟨hl1, hl2⟩ := now_len hN
  by_cases z : k < ns.length
  · refine if_true_of (decide_eq_true (by omega)) ?_
    refine ⟨fun σ' H' => ∃ i', i' < ns.length - k ∧ ∃ (k : Nat) (m : M) (done : List Int) (a g : Addr), i' = ns.length - k ∧ σ' = [some (.ref c), some (.ref a), some (.ref g), some (.int (k : Int))] ∧ Now ns k m done ∧ EndAt C H' a m ∧ H' g = some (.lst (il done)) ∧ Same H H' ∧ H a = none ∧ H g = none,
      fun σ' H' h => h, ?_⟩
    have hp := List.getElem?_eq_getElem z
    generalize ns[k] = p at hp
    -- behind a turn
    have fin : ∀ {k0 : Nat} (_ : k0 = k) {a' : Addr} {m' : M} {out : List Int} {H2 : Hp} {k' : Nat} {n : Int}, Now ns k' m' (done ++ out) → k < k' → ((k0 : Int) + (if p = 0 then 2 else if p = 6 then 2 + n else 1)) = (k' : Int) → EndAt C H2 a' m' → H2 g = some (.lst (il done)) → H a' = none →
        ∀ H3, Same H H3 → H3 g = some (.lst (il (done ++ out))) → Kept g H2 H3 → ∃ i', i' < ns.length - k ∧ ∃ (k : Nat) (m : M) (done : List Int) (a g' : Addr), i' = ns.length - k ∧
          [some (V.ref c), some (V.ref a'), some (V.ref g), some (V.int ((k0 : Int) + (if p = 0 then 2 else if p = 6 then 2 + n else 1)))] = [some (.ref c), some (.ref a), some (.ref g'), some (.int (k : Int))] ∧ Now ns k m done ∧ EndAt C H3 a m ∧ H3 g' = some (.lst (il done)) ∧ Same H H3 ∧ H a = none ∧ H g' = none := by
      intro k0 _ a' m' out H2 k' n hN' hk' ek ⟨dy, e2⟩ hg2 na' H3 s3 hg3 kk
      have hle := (now_len hN').2
      refine ⟨ns.length - k', by omega, k', m', done ++ out, a', g, rfl, ?_, hN', ⟨dy, kk _ _ e2 (ne_of e2 hg2 (by intro z; cases z))⟩, hg3, s3, na', ngg⟩
      rw [ek]
    have big : ∀ {k' : Nat} {m' : M} {out : List Int}, Now ns k' m' (done ++ out) → done.length + out.length ≤ sizeLine := by
      intro k' m' out hN'
      have h3 := now_len hN'
      rw [List.length_append] at h3
      have h4 : (1200000 : Nat) ≤ sizeLine := by decide
      omega
    refine ⟨_, rfl, _, rfl, c, _, _, _, rfl, rfl, hS', at_k hp, rfl, _, rfl, ?_⟩
    by_cases z0 : p = 0
    · refine if_false_of (ne_no z0) ?_
      have hp0 : ns[k]? = some 0 := by rw [hp, z0]
      obtain ⟨me, hme, big1, small1⟩ := turn_start hN hp0
      refine ⟨_, rfl, _, rfl, c, ns, k, _, rfl, hS', hme, _, _, rfl, rfl, _, rfl, ?_⟩
      have ek : ∀ n : Int, ((k : Int) + (if p = 0 then 2 else if p = 6 then 2 + n else 1)) = ((k + 2 : Nat) : Int) := fun n => by
        rw [if_pos z0]
        rfl
      by_cases z1 : 1 < me
      · refine if_true_of (decide_eq_true (by omega)) ?_
        refine ⟨_, rfl, .inl ⟨rfl, _, SqL.of hg⟩, _, rfl, Nat.zero_le _, fun o no => ⟨Nat.zero_le _, fun t nt => ?_⟩⟩
        have s3 : Same H' _ := (same_upd (o := .lst []) no).trans (same_upd (o := .lst []) nt)
        refine ⟨-22, o, t, [], [], rfl, same_upd nt _ _ upd_same, Things.nil upd_same, Nat.zero_le _, Nat.zero_le _, fun H4 q s4 n4 h4 => ?_⟩
        have s5 := s3.trans s4
        exact ext_tail (n := 0) hS (sH.trans s5) ngg (s5 _ _ hg) h4 (big (big1 z1)) hp (fun y => by omega) (fin rfl (big1 z1) (by omega) (ek 0) ⟨dx, s5 _ _ ha⟩ (s5 _ _ hg) na)
      · refine if_false_of (decide_eq_false (by omega)) ?_
        refine ⟨_, rfl, _, rfl, c, ns, k, _, rfl, hS', hme, ?_⟩
        intro y dy ny ndy ney
        refine ⟨y, dy, me, rfl, upd_same, fun H2 e2 kp2 => ⟨rfl, ?_⟩⟩
        have s2 : Same H' H2 := Same.made ny ndy kp2
        refine ⟨_, rfl, .inl ⟨rfl, _, SqL.of (s2 _ _ hg)⟩, Nat.zero_le _, fun o no => ?_⟩
        refine ⟨0, rfl, fun H3 r s3 n3 h3 => ⟨(by show 1 ≤ sizeLine; decide), fun t nt => ?_⟩⟩
        have s4 : Same H2 _ := ((same_upd (o := .lst []) no).trans s3).trans (same_upd (o := .lst [.ref r]) nt)
        refine ⟨0, o, t, [], [[1, 0]], rfl, same_upd nt _ _ (s3 _ _ upd_same), Things.one upd_same (same_upd nt _ _ h3), Nat.zero_le _, (by show 2 ≤ 1000; decide), fun H5 q s5 n5 h5 => ?_⟩
        have s6 := s4.trans s5
        have hh := small1 (by omega)
        exact ext_tail (n := 0) hS ((sH.trans s2).trans s6) ngg (s6 _ _ (s2 _ _ hg)) h5 (big hh) hp (fun y => by omega) (fin rfl hh (by omega) (ek 0) (e2.same s6) (s6 _ _ (s2 _ _ hg)) (sH.free ny))
    · refine if_true_of (ne_yes z0) ?_
      refine ⟨_, rfl, .inl ⟨rfl, _, SqL.of hg⟩, _, rfl, _, rfl, _, rfl, a, c, m, ns, k, p, rfl, ⟨dx, ha⟩, hS', hp, fun z8 => ?_, fun z6 => ?_, fun z8 z6 => ?_⟩
      · have hp8 : ns[k]? = some 8 := by rw [hp, z8]
        have hh := turn_state hN hp8
        intro H2 q nq hq e2 kk
        have hg2 := kk _ _ hg (ne_of hg ha (by intro z; cases z))
        have s2 : Same H H2 := fun b o hb => kk b o (sH b o hb) (ne_of_none hb na)
        exact ext_tail (n := 0) hS s2 ngg hg2 hq (big hh) hp (fun y => by omega) (fin rfl hh (by omega) (by rw [if_neg z0, if_neg (by omega)]; rfl) e2 hg2 na)
      · have hp6 : ns[k]? = some 6 := by rw [hp, z6]
        obtain ⟨n, l, hn, hle, hl, hb, hh⟩ := turn_heard hN hp6
        refine ⟨n, l, hn, hle, hl, ?_⟩
        intro H2 q nq hq e2 kk
        have hg2 := kk _ _ hg (ne_of hg ha (by intro z; cases z))
        have s2 : Same H H2 := fun b o hb => kk b o (sH b o hb) (ne_of_none hb na)
        exact ext_tail (n := (n : Int)) hS s2 ngg hg2 hq (big hh) hp (fun _ => hn) (fin rfl hh (by omega) (by rw [if_neg z0, if_pos z6]; omega) e2 hg2 na)
      · have hh := turn_plain hN hp z0 z6 z8
        intro H2 q nq hq e2 kk
        have hg2 := kk _ _ hg (ne_of hg ha (by intro z; cases z))
        have s2 : Same H H2 := fun b o hb => kk b o (sH b o hb) (ne_of_none hb na)
        exact ext_tail (n := 0) hS s2 ngg hg2 hq (big hh) hp (fun y => absurd y z6) (fin rfl hh (by omega) (by rw [if_neg z0, if_neg z6]; rfl) e2 hg2 na)
  · refine if_false_of (decide_eq_false (by omega)) ?_
    rw [now_end hN (by omega)] at hg
    exact ⟨_, rfl, done_ _ g hg⟩
end
end LL

namespace LL
open PySem PySem.Spec PyProof.Rows L2
/-! ### The end: what the top has written, every address a letter; then each def's promise from those of the defs that it calls -/
theorem all_mk {P : Program} {w : World} {K : PySem.W.Frag} {h : Heap} {mg : Str → Option Value} {fa C f0 f1 f2 f3 f4 f5 f6 f7 f8 f9 f10 f11 f12 f13 f14 f15 f16 f17 f18 f19 f20 f21 f22 f23 f24 f25 f26 f27 f28 f29 f30 f31 f32 f33 f34 f35 f36 : Addr} (X : K.In h) (G : h.Ns mainGlobals mg) (hfa : mg "answers" = some (.ref fa))
    {od0 an0 od1 an1 od2 an2 od3 an3 od4 an4 od5 an5 od6 an6 od7 an7 od8 an8 od9 an9 od10 an10 od11 an11 od12 an12 od13 an13 od14 an14 od15 an15 od16 an16 od17 an17 od18 an18 od19 an19 od20 an20 od21 an21 od22 an22 od23 an23 od24 an24 od25 an25 od26 an26 od27 an27 od28 an28 od29 an29 od30 an30 od31 an31 od32 an32 od33 an33 od34 an34 od35 an35 od36 an36 : Option Addr}
    {sl0 sl1 sl2 sl3 sl4 sl5 sl6 sl7 sl8 sl9 sl10 sl11 sl12 sl13 sl14 sl15 sl16 sl17 sl18 sl19 sl20 sl21 sl22 sl23 sl24 sl25 sl26 sl27 sl28 sl29 sl30 sl31 sl32 sl33 sl34 sl35 sl36 : Array (Option Value)}
    {oc0 kV0 dc0 pm0 cd0 ct0 oc1 kV1 dc1 pm1 cd1 ct1 oc2 kV2 dc2 pm2 cd2 ct2 oc3 kV3 dc3 pm3 cd3 ct3 oc4 kV4 dc4 pm4 cd4 ct4 oc5 kV5 dc5 pm5 cd5 ct5 oc6 kV6 dc6 pm6 cd6 ct6 oc7 kV7 dc7 pm7 cd7 ct7 oc8 kV8 dc8 pm8 cd8 ct8 oc9 kV9 dc9 pm9 cd9 ct9 oc10 kV10 dc10 pm10 cd10 ct10 oc11 kV11 dc11 pm11 cd11 ct11 oc12 kV12 dc12 pm12 cd12 ct12 oc13 kV13 dc13 pm13 cd13 ct13 oc14 kV14 dc14 pm14 cd14 ct14 oc15 kV15 dc15 pm15 cd15 ct15 oc16 kV16 dc16 pm16 cd16 ct16 oc17 kV17 dc17 pm17 cd17 ct17 oc18 kV18 dc18 pm18 cd18 ct18 oc19 kV19 dc19 pm19 cd19 ct19 oc20 kV20 dc20 pm20 cd20 ct20 oc21 kV21 dc21 pm21 cd21 ct21 oc22 kV22 dc22 pm22 cd22 ct22 oc23 kV23 dc23 pm23 cd23 ct23 oc24 kV24 dc24 pm24 cd24 ct24 oc25 kV25 dc25 pm25 cd25 ct25 oc26 kV26 dc26 pm26 cd26 ct26 oc27 kV27 dc27 pm27 cd27 ct27 oc28 kV28 dc28 pm28 cd28 ct28 oc29 kV29 dc29 pm29 cd29 ct29 oc30 kV30 dc30 pm30 cd30 ct30 oc31 kV31 dc31 pm31 cd31 ct31 oc32 kV32 dc32 pm32 cd32 ct32 oc33 kV33 dc33 pm33 cd33 ct33 oc34 kV34 dc34 pm34 cd34 ct34 oc35 kV35 dc35 pm35 cd35 ct35 oc36 kV36 dc36 pm36 cd36 ct36 : Value}
    {t0 t1 t2 t3 t4 t5 t6 t7 t8 t9 t10 t11 t12 t13 t14 t15 t16 t17 t18 t19 t20 t21 t22 t23 : Tok}
    (aC : PySem.W.nsIn K mainGlobals "End" = some (some (.ref C)))
    (a0 : PySem.W.nsIn K mainGlobals "length_at" = some (some (.ref f0))) (l0 : K.lookup f0 = some ⟨oc0, od0, .func (PySem.W.fnOf "length_at" "length_at" (defArgs sLengthAt) (defBody sLengthAt) (defScope sLengthAt) .none kV0 dc0 pm0 an0 cd0 ct0), sl0⟩) (c0 : PySem.W.codeIn K cd0 "length_at" = true) (k0 : PySem.W.keepIn K (.ref f0) = true)
    (a1 : PySem.W.nsIn K mainGlobals "who_at" = some (some (.ref f1))) (l1 : K.lookup f1 = some ⟨oc1, od1, .func (PySem.W.fnOf "who_at" "who_at" (defArgs sWhoAt) (defBody sWhoAt) (defScope sWhoAt) .none kV1 dc1 pm1 an1 cd1 ct1), sl1⟩) (c1 : PySem.W.codeIn K cd1 "who_at" = true) (k1 : PySem.W.keepIn K (.ref f1) = true)
    (a2 : PySem.W.nsIn K mainGlobals "heard_at" = some (some (.ref f2))) (l2 : K.lookup f2 = some ⟨oc2, od2, .func (PySem.W.fnOf "heard_at" "heard_at" (defArgs sHeardAt) (defBody sHeardAt) (defScope sHeardAt) .none kV2 dc2 pm2 an2 cd2 ct2), sl2⟩) (c2 : PySem.W.codeIn K cd2 "heard_at" = true) (k2 : PySem.W.keepIn K (.ref f2) = true)
    (a3 : PySem.W.nsIn K mainGlobals "four_bytes" = some (some (.ref f3))) (l3 : K.lookup f3 = some ⟨oc3, od3, .func (PySem.W.fnOf "four_bytes" "four_bytes" (defArgs sFourBytes) (defBody sFourBytes) (defScope sFourBytes) .none kV3 dc3 pm3 an3 cd3 ct3), sl3⟩) (c3 : PySem.W.codeIn K cd3 "four_bytes" = true) (k3 : PySem.W.keepIn K (.ref f3) = true)
    (a4 : PySem.W.nsIn K mainGlobals "four_at" = some (some (.ref f4))) (l4 : K.lookup f4 = some ⟨oc4, od4, .func (PySem.W.fnOf "four_at" "four_at" (defArgs sFourAt) (defBody sFourAt) (defScope sFourAt) .none kV4 dc4 pm4 an4 cd4 ct4), sl4⟩) (c4 : PySem.W.codeIn K cd4 "four_at" = true) (k4 : PySem.W.keepIn K (.ref f4) = true)
    (a5 : PySem.W.nsIn K mainGlobals "without_bit" = some (some (.ref f5))) (l5 : K.lookup f5 = some ⟨oc5, od5, .func (PySem.W.fnOf "without_bit" "without_bit" (defArgs sWithoutBit) (defBody sWithoutBit) (defScope sWithoutBit) .none kV5 dc5 pm5 an5 cd5 ct5), sl5⟩) (c5 : PySem.W.codeIn K cd5 "without_bit" = true) (k5 : PySem.W.keepIn K (.ref f5) = true)
    (a6 : PySem.W.nsIn K mainGlobals "with_byte" = some (some (.ref f6))) (l6 : K.lookup f6 = some ⟨oc6, od6, .func (PySem.W.fnOf "with_byte" "with_byte" (defArgs sWithByte) (defBody sWithByte) (defScope sWithByte) .none kV6 dc6 pm6 an6 cd6 ct6), sl6⟩) (c6 : PySem.W.codeIn K cd6 "with_byte" = true) (k6 : PySem.W.keepIn K (.ref f6) = true)
    (a7 : PySem.W.nsIn K mainGlobals "check_of" = some (some (.ref f7))) (l7 : K.lookup f7 = some ⟨oc7, od7, .func (PySem.W.fnOf "check_of" "check_of" (defArgs sCheckOf) (defBody sCheckOf) (defScope sCheckOf) .none kV7 dc7 pm7 an7 cd7 ct7), sl7⟩) (c7 : PySem.W.codeIn K cd7 "check_of" = true) (k7 : PySem.W.keepIn K (.ref f7) = true)
    (a8 : PySem.W.nsIn K mainGlobals "message" = some (some (.ref f8))) (l8 : K.lookup f8 = some ⟨oc8, od8, .func (PySem.W.fnOf "message" "message" (defArgs sMessage) (defBody sMessage) (defScope sMessage) .none kV8 dc8 pm8 an8 cd8 ct8), sl8⟩) (c8 : PySem.W.codeIn K cd8 "message" = true) (k8 : PySem.W.keepIn K (.ref f8) = true)
    (a9 : PySem.W.nsIn K mainGlobals "kind_of" = some (some (.ref f9))) (l9 : K.lookup f9 = some ⟨oc9, od9, .func (PySem.W.fnOf "kind_of" "kind_of" (defArgs sKindOf) (defBody sKindOf) (defScope sKindOf) .none kV9 dc9 pm9 an9 cd9 ct9), sl9⟩) (c9 : PySem.W.codeIn K cd9 "kind_of" = true) (k9 : PySem.W.keepIn K (.ref f9) = true)
    (a10 : PySem.W.nsIn K mainGlobals "turn_of" = some (some (.ref f10))) (l10 : K.lookup f10 = some ⟨oc10, od10, .func (PySem.W.fnOf "turn_of" "turn_of" (defArgs sTurnOf) (defBody sTurnOf) (defScope sTurnOf) .none kV10 dc10 pm10 an10 cd10 ct10), sl10⟩) (c10 : PySem.W.codeIn K cd10 "turn_of" = true) (k10 : PySem.W.keepIn K (.ref f10) = true)
    (a11 : PySem.W.nsIn K mainGlobals "count_of" = some (some (.ref f11))) (l11 : K.lookup f11 = some ⟨oc11, od11, .func (PySem.W.fnOf "count_of" "count_of" (defArgs sCountOf) (defBody sCountOf) (defScope sCountOf) .none kV11 dc11 pm11 an11 cd11 ct11), sl11⟩) (c11 : PySem.W.codeIn K cd11 "count_of" = true) (k11 : PySem.W.keepIn K (.ref f11) = true)
    (a12 : PySem.W.nsIn K mainGlobals "is_checked" = some (some (.ref f12))) (l12 : K.lookup f12 = some ⟨oc12, od12, .func (PySem.W.fnOf "is_checked" "is_checked" (defArgs sIsChecked) (defBody sIsChecked) (defScope sIsChecked) .none kV12 dc12 pm12 an12 cd12 ct12), sl12⟩) (c12 : PySem.W.codeIn K cd12 "is_checked" = true) (k12 : PySem.W.keepIn K (.ref f12) = true)
    (a13 : PySem.W.nsIn K mainGlobals "has_noughts" = some (some (.ref f13))) (l13 : K.lookup f13 = some ⟨oc13, od13, .func (PySem.W.fnOf "has_noughts" "has_noughts" (defArgs sHasNoughts) (defBody sHasNoughts) (defScope sHasNoughts) .none kV13 dc13 pm13 an13 cd13 ct13), sl13⟩) (c13 : PySem.W.codeIn K cd13 "has_noughts" = true) (k13 : PySem.W.keepIn K (.ref f13) = true)
    (a14 : PySem.W.nsIn K mainGlobals "is_right" = some (some (.ref f14))) (l14 : K.lookup f14 = some ⟨oc14, od14, .func (PySem.W.fnOf "is_right" "is_right" (defArgs sIsRight) (defBody sIsRight) (defScope sIsRight) .none kV14 dc14 pm14 an14 cd14 ct14), sl14⟩) (c14 : PySem.W.codeIn K cd14 "is_right" = true) (k14 : PySem.W.keepIn K (.ref f14) = true)
    (a15 : PySem.W.nsIn K mainGlobals "sent" = some (some (.ref f15))) (l15 : K.lookup f15 = some ⟨oc15, od15, .func (PySem.W.fnOf "sent" "sent" (defArgs sSent) (defBody sSent) (defScope sSent) .none kV15 dc15 pm15 an15 cd15 ct15), sl15⟩) (c15 : PySem.W.codeIn K cd15 "sent" = true) (k15 : PySem.W.keepIn K (.ref f15) = true)
    (a16 : PySem.W.nsIn K mainGlobals "lit" = some (some (.ref f16))) (l16 : K.lookup f16 = some ⟨oc16, od16, .func (PySem.W.fnOf "lit" "lit" (defArgs sLit) (defBody sLit) (defScope sLit) .none kV16 dc16 pm16 an16 cd16 ct16), sl16⟩) (c16 : PySem.W.codeIn K cd16 "lit" = true) (k16 : PySem.W.keepIn K (.ref f16) = true)
    (a17 : PySem.W.nsIn K mainGlobals "tells" = some (some (.ref f17))) (l17 : K.lookup f17 = some ⟨oc17, od17, .func (PySem.W.fnOf "tells" "tells" (defArgs sTells) (defBody sTells) (defScope sTells) .none kV17 dc17 pm17 an17 cd17 ct17), sl17⟩) (c17 : PySem.W.codeIn K cd17 "tells" = true) (k17 : PySem.W.keepIn K (.ref f17) = true)
    (a18 : PySem.W.nsIn K mainGlobals "answered" = some (some (.ref f18))) (l18 : K.lookup f18 = some ⟨oc18, od18, .func (PySem.W.fnOf "answered" "answered" (defArgs sAnswered) (defBody sAnswered) (defScope sAnswered) .none kV18 dc18 pm18 an18 cd18 ct18), sl18⟩) (c18 : PySem.W.codeIn K cd18 "answered" = true) (k18 : PySem.W.keepIn K (.ref f18) = true)
    (a19 : PySem.W.findIn K (.ref C) "__init__" = some (some (.ref f19))) (i19 : PySem.W.isFn K (.ref f19) = true) (l19 : K.lookup f19 = some ⟨oc19, od19, .func (PySem.W.fnOf "__init__" "End.__init__" (defArgs sInit) (defBody sInit) (defScope sInit) .none kV19 dc19 pm19 an19 cd19 ct19), sl19⟩) (c19 : PySem.W.codeIn K cd19 "End.__init__" = true) (k19 : PySem.W.keepIn K (.ref f19) = true)
    (a20 : PySem.W.findIn K (.ref C) "take_right" = some (some (.ref f20))) (i20 : PySem.W.isFn K (.ref f20) = true) (l20 : K.lookup f20 = some ⟨oc20, od20, .func (PySem.W.fnOf "take_right" "End.take_right" (defArgs sTake) (defBody sTake) (defScope sTake) .none kV20 dc20 pm20 an20 cd20 ct20), sl20⟩) (c20 : PySem.W.codeIn K cd20 "End.take_right" = true) (k20 : PySem.W.keepIn K (.ref f20) = true)
    (a21 : PySem.W.findIn K (.ref C) "wait_or_take" = some (some (.ref f21))) (i21 : PySem.W.isFn K (.ref f21) = true) (l21 : K.lookup f21 = some ⟨oc21, od21, .func (PySem.W.fnOf "wait_or_take" "End.wait_or_take" (defArgs sWait) (defBody sWait) (defScope sWait) .none kV21 dc21 pm21 an21 cd21 ct21), sl21⟩) (c21 : PySem.W.codeIn K cd21 "End.wait_or_take" = true) (k21 : PySem.W.keepIn K (.ref f21) = true)
    (a22 : PySem.W.findIn K (.ref C) "turn_green" = some (some (.ref f22))) (i22 : PySem.W.isFn K (.ref f22) = true) (l22 : K.lookup f22 = some ⟨oc22, od22, .func (PySem.W.fnOf "turn_green" "End.turn_green" (defArgs sGreen) (defBody sGreen) (defScope sGreen) .none kV22 dc22 pm22 an22 cd22 ct22), sl22⟩) (c22 : PySem.W.codeIn K cd22 "End.turn_green" = true) (k22 : PySem.W.keepIn K (.ref f22) = true)
    (a23 : PySem.W.findIn K (.ref C) "turn_red" = some (some (.ref f23))) (i23 : PySem.W.isFn K (.ref f23) = true) (l23 : K.lookup f23 = some ⟨oc23, od23, .func (PySem.W.fnOf "turn_red" "End.turn_red" (defArgs sRed) (defBody sRed) (defScope sRed) .none kV23 dc23 pm23 an23 cd23 ct23), sl23⟩) (c23 : PySem.W.codeIn K cd23 "End.turn_red" = true) (k23 : PySem.W.keepIn K (.ref f23) = true)
    (a24 : PySem.W.findIn K (.ref C) "one_in" = some (some (.ref f24))) (i24 : PySem.W.isFn K (.ref f24) = true) (l24 : K.lookup f24 = some ⟨oc24, od24, .func (PySem.W.fnOf "one_in" "End.one_in" (defArgs sIn) (defBody sIn) (defScope sIn) .none kV24 dc24 pm24 an24 cd24 ct24), sl24⟩) (c24 : PySem.W.codeIn K cd24 "End.one_in" = true) (k24 : PySem.W.keepIn K (.ref f24) = true)
    (a25 : PySem.W.findIn K (.ref C) "one_out" = some (some (.ref f25))) (i25 : PySem.W.isFn K (.ref f25) = true) (l25 : K.lookup f25 = some ⟨oc25, od25, .func (PySem.W.fnOf "one_out" "End.one_out" (defArgs sOut) (defBody sOut) (defScope sOut) .none kV25 dc25 pm25 an25 cd25 ct25), sl25⟩) (c25 : PySem.W.codeIn K cd25 "End.one_out" = true) (k25 : PySem.W.keepIn K (.ref f25) = true)
    (a26 : PySem.W.findIn K (.ref C) "given_now" = some (some (.ref f26))) (i26 : PySem.W.isFn K (.ref f26) = true) (l26 : K.lookup f26 = some ⟨oc26, od26, .func (PySem.W.fnOf "given_now" "End.given_now" (defArgs sGivenNow) (defBody sGivenNow) (defScope sGivenNow) .none kV26 dc26 pm26 an26 cd26 ct26), sl26⟩) (c26 : PySem.W.codeIn K cd26 "End.given_now" = true) (k26 : PySem.W.keepIn K (.ref f26) = true)
    (a27 : PySem.W.findIn K (.ref C) "give" = some (some (.ref f27))) (i27 : PySem.W.isFn K (.ref f27) = true) (l27 : K.lookup f27 = some ⟨oc27, od27, .func (PySem.W.fnOf "give" "End.give" (defArgs sGive) (defBody sGive) (defScope sGive) .none kV27 dc27 pm27 an27 cd27 ct27), sl27⟩) (c27 : PySem.W.codeIn K cd27 "End.give" = true) (k27 : PySem.W.keepIn K (.ref f27) = true)
    (a28 : PySem.W.findIn K (.ref C) "hear_given" = some (some (.ref f28))) (i28 : PySem.W.isFn K (.ref f28) = true) (l28 : K.lookup f28 = some ⟨oc28, od28, .func (PySem.W.fnOf "hear_given" "End.hear_given" (defArgs sHearGiven) (defBody sHearGiven) (defScope sHearGiven) .none kV28 dc28 pm28 an28 cd28 ct28), sl28⟩) (c28 : PySem.W.codeIn K cd28 "End.hear_given" = true) (k28 : PySem.W.keepIn K (.ref f28) = true)
    (a29 : PySem.W.findIn K (.ref C) "hear_had" = some (some (.ref f29))) (i29 : PySem.W.isFn K (.ref f29) = true) (l29 : K.lookup f29 = some ⟨oc29, od29, .func (PySem.W.fnOf "hear_had" "End.hear_had" (defArgs sHearHad) (defBody sHearHad) (defScope sHearHad) .none kV29 dc29 pm29 an29 cd29 ct29), sl29⟩) (c29 : PySem.W.codeIn K cd29 "End.hear_had" = true) (k29 : PySem.W.keepIn K (.ref f29) = true)
    (a30 : PySem.W.findIn K (.ref C) "hear" = some (some (.ref f30))) (i30 : PySem.W.isFn K (.ref f30) = true) (l30 : K.lookup f30 = some ⟨oc30, od30, .func (PySem.W.fnOf "hear" "End.hear" (defArgs sHear) (defBody sHear) (defScope sHear) .none kV30 dc30 pm30 an30 cd30 ct30), sl30⟩) (c30 : PySem.W.codeIn K cd30 "End.hear" = true) (k30 : PySem.W.keepIn K (.ref f30) = true)
    (a31 : PySem.W.findIn K (.ref C) "tick" = some (some (.ref f31))) (i31 : PySem.W.isFn K (.ref f31) = true) (l31 : K.lookup f31 = some ⟨oc31, od31, .func (PySem.W.fnOf "tick" "End.tick" (defArgs sTick) (defBody sTick) (defScope sTick) .none kV31 dc31 pm31 an31 cd31 ct31), sl31⟩) (c31 : PySem.W.codeIn K cd31 "End.tick" = true) (k31 : PySem.W.keepIn K (.ref f31) = true)
    (a32 : PySem.W.findIn K (.ref C) "state" = some (some (.ref f32))) (i32 : PySem.W.isFn K (.ref f32) = true) (l32 : K.lookup f32 = some ⟨oc32, od32, .func (PySem.W.fnOf "state" "End.state" (defArgs sState) (defBody sState) (defScope sState) .none kV32 dc32 pm32 an32 cd32 ct32), sl32⟩) (c32 : PySem.W.codeIn K cd32 "End.state" = true) (k32 : PySem.W.keepIn K (.ref f32) = true)
    (a33 : PySem.W.nsIn K mainGlobals "plain_call" = some (some (.ref f33))) (l33 : K.lookup f33 = some ⟨oc33, od33, .func (PySem.W.fnOf "plain_call" "plain_call" (defArgs sPlain) (defBody sPlain) (defScope sPlain) .none kV33 dc33 pm33 an33 cd33 ct33), sl33⟩) (c33 : PySem.W.codeIn K cd33 "plain_call" = true) (k33 : PySem.W.keepIn K (.ref f33) = true)
    (a34 : PySem.W.nsIn K mainGlobals "heard_call" = some (some (.ref f34))) (l34 : K.lookup f34 = some ⟨oc34, od34, .func (PySem.W.fnOf "heard_call" "heard_call" (defArgs sHeardCall) (defBody sHeardCall) (defScope sHeardCall) .none kV34 dc34 pm34 an34 cd34 ct34), sl34⟩) (c34 : PySem.W.codeIn K cd34 "heard_call" = true) (k34 : PySem.W.keepIn K (.ref f34) = true)
    (a35 : PySem.W.nsIn K mainGlobals "told_by" = some (some (.ref f35))) (l35 : K.lookup f35 = some ⟨oc35, od35, .func (PySem.W.fnOf "told_by" "told_by" (defArgs sToldBy) (defBody sToldBy) (defScope sToldBy) .none kV35 dc35 pm35 an35 cd35 ct35), sl35⟩) (c35 : PySem.W.codeIn K cd35 "told_by" = true) (k35 : PySem.W.keepIn K (.ref f35) = true)
    (a36 : PySem.W.nsIn K mainGlobals "answers" = some (some (.ref f36))) (l36 : K.lookup f36 = some ⟨oc36, od36, .func (PySem.W.fnOf "answers" "answers" (defArgs sAns) (defBody sAns) (defScope sAns) .none kV36 dc36 pm36 an36 cd36 ct36), sl36⟩) (c36 : PySem.W.codeIn K cd36 "answers" = true) (k36 : PySem.W.keepIn K (.ref f36) = true)
    (pg : PySem.W.plainGet K C Str.empty = true) (hd : PySem.W.hasDictIn K C = true) (po : PySem.W.plainOver K C = true) (sa : PySem.W.findIn K (.ref C) "__setattr__" = some (some (.builtin "object.__setattr__"))) (mk : PySem.W.makesIn K C = true) (kc : PySem.W.keepIn K (.ref C) = true)
    (n0 : PySem.W.findIn K (.ref C) "me" = some none)
    (n1 : PySem.W.findIn K (.ref C) "turn" = some none)
    (n2 : PySem.W.findIn K (.ref C) "drove_in" = some none)
    (n3 : PySem.W.findIn K (.ref C) "came_out" = some none)
    (n4 : PySem.W.findIn K (.ref C) "stand" = some none)
    (n5 : PySem.W.findIn K (.ref C) "was_had" = some none)
    (n6 : PySem.W.findIn K (.ref C) "green" = some none)
    (n7 : PySem.W.findIn K (.ref C) "other_in" = some none)
    (n8 : PySem.W.findIn K (.ref C) "ticks" = some none)
    (g0 : PySem.W.nsIn K mainGlobals "START" = some (some (.int 0 t0)))
    (g1 : PySem.W.nsIn K mainGlobals "GREEN" = some (some (.int 1 t1)))
    (g2 : PySem.W.nsIn K mainGlobals "RED" = some (some (.int 2 t2)))
    (g3 : PySem.W.nsIn K mainGlobals "IN" = some (some (.int 3 t3)))
    (g4 : PySem.W.nsIn K mainGlobals "OUT" = some (some (.int 4 t4)))
    (g5 : PySem.W.nsIn K mainGlobals "GIVE" = some (some (.int 5 t5)))
    (g6 : PySem.W.nsIn K mainGlobals "HEARD" = some (some (.int 6 t6)))
    (g7 : PySem.W.nsIn K mainGlobals "STATE" = some (some (.int 8 t7)))
    (g8 : PySem.W.nsIn K mainGlobals "WIDE" = some (some (.int 4 t8)))
    (g9 : PySem.W.nsIn K mainGlobals "POLYNOMIAL" = some (some (.int 2197175160 t9)))
    (g10 : PySem.W.nsIn K mainGlobals "ONES" = some (some (.int 4294967295 t10)))
    (g11 : PySem.W.nsIn K mainGlobals "LONG" = some (some (.int 16 t11)))
    (g12 : PySem.W.nsIn K mainGlobals "CHECKED" = some (some (.int 12 t12)))
    (g13 : PySem.W.nsIn K mainGlobals "GIVEN" = some (some (.int 1 t13)))
    (g14 : PySem.W.nsIn K mainGlobals "HAD" = some (some (.int 2 t14)))
    (g15 : PySem.W.nsIn K mainGlobals "SEND" = some (some (.int 0 t15)))
    (g16 : PySem.W.nsIn K mainGlobals "LIGHT" = some (some (.int 1 t16)))
    (g17 : PySem.W.nsIn K mainGlobals "TELLS" = some (some (.int 2 t17)))
    (g18 : PySem.W.nsIn K mainGlobals "HAS_IT_NOW" = some (some (.int 1 t18)))
    (g19 : PySem.W.nsIn K mainGlobals "DROVE_IN_AT_RED" = some (some (.int 2 t19)))
    (g20 : PySem.W.nsIn K mainGlobals "GAVE" = some (some (.int 0 t20)))
    (g21 : PySem.W.nsIn K mainGlobals "HAS" = some (some (.int 1 t21)))
    (g22 : PySem.W.nsIn K mainGlobals "WAITS" = some (some (.int 2 t22)))
    (g23 : PySem.W.nsIn K mainGlobals "EVERY" = some (some (.int 10 t23)))
    (z0 : PySem.W.nsIn K mainGlobals "len" = some none)
    (z1 : PySem.W.nsIn K mainGlobals "range" = some none)
    (z2 : PySem.W.nsIn K mainGlobals "list" = some none) :
    ∃ fd : FuncData, (∀ (s : Shared) (us : List Value), us.length = (["calls"] : List Str).length → BindsTo s fd ⟨us, []⟩ ((["calls"] : List Str).zip us)) ∧ ∀ base : Heap, K.In base → base.Ns mainGlobals mg → FnOk P w K mg base CX0 9 fa fd ["calls"] (spAns K) := by
  have e := hfa.symm.trans (PySem.W.mg_of X G a36)
  cases e
  have T : Txt K mg C := ⟨⟨pg, hd, po, sa⟩, n0, n1, n2, n3, n4, n5, n6, n7, n8, ⟨_, PySem.W.mg_of X G g0⟩, ⟨_, PySem.W.mg_of X G g1⟩, ⟨_, PySem.W.mg_of X G g2⟩, ⟨_, PySem.W.mg_of X G g3⟩, ⟨_, PySem.W.mg_of X G g4⟩, ⟨_, PySem.W.mg_of X G g5⟩, ⟨_, PySem.W.mg_of X G g6⟩, ⟨_, PySem.W.mg_of X G g7⟩, ⟨_, PySem.W.mg_of X G g8⟩, ⟨_, PySem.W.mg_of X G g9⟩, ⟨_, PySem.W.mg_of X G g10⟩, ⟨_, PySem.W.mg_of X G g11⟩, ⟨_, PySem.W.mg_of X G g12⟩, ⟨_, PySem.W.mg_of X G g13⟩, ⟨_, PySem.W.mg_of X G g14⟩, ⟨_, PySem.W.mg_of X G g15⟩, ⟨_, PySem.W.mg_of X G g16⟩, ⟨_, PySem.W.mg_of X G g17⟩, ⟨_, PySem.W.mg_of X G g18⟩, ⟨_, PySem.W.mg_of X G g19⟩, ⟨_, PySem.W.mg_of X G g20⟩, ⟨_, PySem.W.mg_of X G g21⟩, ⟨_, PySem.W.mg_of X G g22⟩, ⟨_, PySem.W.mg_of X G g23⟩, PySem.W.mg_none_of X G z0, PySem.W.mg_none_of X G z1, PySem.W.mg_none_of X G z2⟩
  have F0 := fun_mk (st := sLengthAt) l0 c0 k0
  have b0 := F0.binds (ps := ["calls", "at"]) fun _ _ _ _ _ _ us hl => match us, hl with | [_, _], _ => rfl
  have F1 := fun_mk (st := sWhoAt) l1 c1 k1
  have b1 := F1.binds (ps := ["calls", "at"]) fun _ _ _ _ _ _ us hl => match us, hl with | [_, _], _ => rfl
  have F2 := fun_mk (st := sHeardAt) l2 c2 k2
  have b2 := F2.binds (ps := ["calls", "at"]) fun _ _ _ _ _ _ us hl => match us, hl with | [_, _], _ => rfl
  have F3 := fun_mk (st := sFourBytes) l3 c3 k3
  have b3 := F3.binds (ps := ["number"]) fun _ _ _ _ _ _ us hl => match us, hl with | [_], _ => rfl
  have F4 := fun_mk (st := sFourAt) l4 c4 k4
  have b4 := F4.binds (ps := ["row", "at"]) fun _ _ _ _ _ _ us hl => match us, hl with | [_, _], _ => rfl
  have F5 := fun_mk (st := sWithoutBit) l5 c5 k5
  have b5 := F5.binds (ps := ["rest"]) fun _ _ _ _ _ _ us hl => match us, hl with | [_], _ => rfl
  have F6 := fun_mk (st := sWithByte) l6 c6 k6
  have b6 := F6.binds (ps := ["rest", "byte"]) fun _ _ _ _ _ _ us hl => match us, hl with | [_, _], _ => rfl
  have F7 := fun_mk (st := sCheckOf) l7 c7 k7
  have b7 := F7.binds (ps := ["row"]) fun _ _ _ _ _ _ us hl => match us, hl with | [_], _ => rfl
  have F8 := fun_mk (st := sMessage) l8 c8 k8
  have b8 := F8.binds (ps := ["kind", "of", "turn", "count"]) fun _ _ _ _ _ _ us hl => match us, hl with | [_, _, _, _], _ => rfl
  have F9 := fun_mk (st := sKindOf) l9 c9 k9
  have b9 := F9.binds (ps := ["row"]) fun _ _ _ _ _ _ us hl => match us, hl with | [_], _ => rfl
  have F10 := fun_mk (st := sTurnOf) l10 c10 k10
  have b10 := F10.binds (ps := ["row"]) fun _ _ _ _ _ _ us hl => match us, hl with | [_], _ => rfl
  have F11 := fun_mk (st := sCountOf) l11 c11 k11
  have b11 := F11.binds (ps := ["row"]) fun _ _ _ _ _ _ us hl => match us, hl with | [_], _ => rfl
  have F12 := fun_mk (st := sIsChecked) l12 c12 k12
  have b12 := F12.binds (ps := ["row"]) fun _ _ _ _ _ _ us hl => match us, hl with | [_], _ => rfl
  have F13 := fun_mk (st := sHasNoughts) l13 c13 k13
  have b13 := F13.binds (ps := ["row"]) fun _ _ _ _ _ _ us hl => match us, hl with | [_], _ => rfl
  have F14 := fun_mk (st := sIsRight) l14 c14 k14
  have b14 := F14.binds (ps := ["row", "me"]) fun _ _ _ _ _ _ us hl => match us, hl with | [_, _], _ => rfl
  have F15 := fun_mk (st := sSent) l15 c15 k15
  have b15 := F15.binds (ps := ["row"]) fun _ _ _ _ _ _ us hl => match us, hl with | [_], _ => rfl
  have F16 := fun_mk (st := sLit) l16 c16 k16
  have b16 := F16.binds (ps := ["green"]) fun _ _ _ _ _ _ us hl => match us, hl with | [_], _ => rfl
  have F17 := fun_mk (st := sTells) l17 c17 k17
  have b17 := F17.binds (ps := ["what"]) fun _ _ _ _ _ _ us hl => match us, hl with | [_], _ => rfl
  have F18 := fun_mk (st := sAnswered) l18 c18 k18
  have b18 := F18.binds (ps := ["number", "out", "told"]) fun _ _ _ _ _ _ us hl => match us, hl with | [_, _, _], _ => rfl
  have F19 := fun_mk (st := sInit) l19 c19 k19
  have b19 := F19.binds (ps := ["self", "me"]) fun _ _ _ _ _ _ us hl => match us, hl with | [_, _], _ => rfl
  have F20 := fun_mk (st := sTake) l20 c20 k20
  have b20 := F20.binds (ps := ["self"]) fun _ _ _ _ _ _ us hl => match us, hl with | [_], _ => rfl
  have F21 := fun_mk (st := sWait) l21 c21 k21
  have b21 := F21.binds (ps := ["self", "count"]) fun _ _ _ _ _ _ us hl => match us, hl with | [_, _], _ => rfl
  have F22 := fun_mk (st := sGreen) l22 c22 k22
  have b22 := F22.binds (ps := ["self"]) fun _ _ _ _ _ _ us hl => match us, hl with | [_], _ => rfl
  have F23 := fun_mk (st := sRed) l23 c23 k23
  have b23 := F23.binds (ps := ["self"]) fun _ _ _ _ _ _ us hl => match us, hl with | [_], _ => rfl
  have F24 := fun_mk (st := sIn) l24 c24 k24
  have b24 := F24.binds (ps := ["self"]) fun _ _ _ _ _ _ us hl => match us, hl with | [_], _ => rfl
  have F25 := fun_mk (st := sOut) l25 c25 k25
  have b25 := F25.binds (ps := ["self"]) fun _ _ _ _ _ _ us hl => match us, hl with | [_], _ => rfl
  have F26 := fun_mk (st := sGivenNow) l26 c26 k26
  have b26 := F26.binds (ps := ["self"]) fun _ _ _ _ _ _ us hl => match us, hl with | [_], _ => rfl
  have F27 := fun_mk (st := sGive) l27 c27 k27
  have b27 := F27.binds (ps := ["self"]) fun _ _ _ _ _ _ us hl => match us, hl with | [_], _ => rfl
  have F28 := fun_mk (st := sHearGiven) l28 c28 k28
  have b28 := F28.binds (ps := ["self", "turn", "count"]) fun _ _ _ _ _ _ us hl => match us, hl with | [_, _, _], _ => rfl
  have F29 := fun_mk (st := sHearHad) l29 c29 k29
  have b29 := F29.binds (ps := ["self", "turn"]) fun _ _ _ _ _ _ us hl => match us, hl with | [_, _], _ => rfl
  have F30 := fun_mk (st := sHear) l30 c30 k30
  have b30 := F30.binds (ps := ["self", "row"]) fun _ _ _ _ _ _ us hl => match us, hl with | [_, _], _ => rfl
  have F31 := fun_mk (st := sTick) l31 c31 k31
  have b31 := F31.binds (ps := ["self"]) fun _ _ _ _ _ _ us hl => match us, hl with | [_], _ => rfl
  have F32 := fun_mk (st := sState) l32 c32 k32
  have b32 := F32.binds (ps := ["self"]) fun _ _ _ _ _ _ us hl => match us, hl with | [_], _ => rfl
  have F33 := fun_mk (st := sPlain) l33 c33 k33
  have b33 := F33.binds (ps := ["end", "number"]) fun _ _ _ _ _ _ us hl => match us, hl with | [_, _], _ => rfl
  have F34 := fun_mk (st := sHeardCall) l34 c34 k34
  have b34 := F34.binds (ps := ["end", "row"]) fun _ _ _ _ _ _ us hl => match us, hl with | [_, _], _ => rfl
  have F35 := fun_mk (st := sToldBy) l35 c35 k35
  have b35 := F35.binds (ps := ["end", "calls", "at"]) fun _ _ _ _ _ _ us hl => match us, hl with | [_, _, _], _ => rfl
  have F36 := fun_mk (st := sAns) l36 c36 k36
  refine ⟨PySem.W.fnOf "answers" "answers" (defArgs sAns) (defBody sAns) (defScope sAns) .none kV36 dc36 pm36 an36 cd36 ct36, fun s us hu => match us, hu with | [_], _ => .of_eq rfl, fun base _ _ => ?_⟩
  have N0 : Fn P w K mg base 1 "length_at" ["calls", "at"] (spLengthAt K) := ⟨_, _, PySem.W.mg_of X G a0, k0, b0, ok_length_at F0 T⟩
  have N1 : Fn P w K mg base 1 "who_at" ["calls", "at"] (spWhoAt K) := ⟨_, _, PySem.W.mg_of X G a1, k1, b1, ok_who_at F1⟩
  have N2 : Fn P w K mg base 1 "heard_at" ["calls", "at"] (spHeardAt K) := ⟨_, _, PySem.W.mg_of X G a2, k2, b2, ok_heard_at F2⟩
  have N3 : Fn P w K mg base 1 "four_bytes" ["number"] spFourBytes := ⟨_, _, PySem.W.mg_of X G a3, k3, b3, ok_four_bytes F3 T⟩
  have N4 : Fn P w K mg base 1 "four_at" ["row", "at"] spFourAt := ⟨_, _, PySem.W.mg_of X G a4, k4, b4, ok_four_at F4 T⟩
  have N5 : Fn P w K mg base 1 "without_bit" ["rest"] spWithoutBit := ⟨_, _, PySem.W.mg_of X G a5, k5, b5, ok_without_bit F5 T⟩
  have N6 : Fn P w K mg base 2 "with_byte" ["rest", "byte"] spWithByte := ⟨_, _, PySem.W.mg_of X G a6, k6, b6, ok_with_byte F6 T N5⟩
  have N7 : Fn P w K mg base 3 "check_of" ["row"] spCheckOf := ⟨_, _, PySem.W.mg_of X G a7, k7, b7, ok_check_of F7 T N6⟩
  have N8 : Fn P w K mg base 4 "message" ["kind", "of", "turn", "count"] spMessage := ⟨_, _, PySem.W.mg_of X G a8, k8, b8, ok_message F8 T N3 N7⟩
  have N9 : Fn P w K mg base 1 "kind_of" ["row"] (spRow gKind) := ⟨_, _, PySem.W.mg_of X G a9, k9, b9, ok_kind_of F9⟩
  have N10 : Fn P w K mg base 2 "turn_of" ["row"] (spRow gTurn) := ⟨_, _, PySem.W.mg_of X G a10, k10, b10, ok_turn_of F10 N4⟩
  have N11 : Fn P w K mg base 2 "count_of" ["row"] (spRow gCount) := ⟨_, _, PySem.W.mg_of X G a11, k11, b11, ok_count_of F11 N4⟩
  have N12 : Fn P w K mg base 4 "is_checked" ["row"] (spRowS gChecked) := ⟨_, _, PySem.W.mg_of X G a12, k12, b12, ok_is_checked F12 T N4 N7⟩
  have N13 : Fn P w K mg base 3 "has_noughts" ["row"] (spRow gNoughts) := ⟨_, _, PySem.W.mg_of X G a13, k13, b13, ok_has_noughts F13 T N11⟩
  have N14 : Fn P w K mg base 5 "is_right" ["row", "me"] spIsRight := ⟨_, _, PySem.W.mg_of X G a14, k14, b14, ok_is_right F14 T N13 N10 N12⟩
  have N15 : Fn P w K mg base 1 "sent" ["row"] spSent := ⟨_, _, PySem.W.mg_of X G a15, k15, b15, ok_sent F15 T⟩
  have N16 : Fn P w K mg base 1 "lit" ["green"] (spPair 1) := ⟨_, _, PySem.W.mg_of X G a16, k16, b16, ok_lit F16 T⟩
  have N17 : Fn P w K mg base 1 "tells" ["what"] (spPair 2) := ⟨_, _, PySem.W.mg_of X G a17, k17, b17, ok_tells F17 T⟩
  have N18 : Fn P w K mg base 1 "answered" ["number", "out", "told"] spAnswered := ⟨_, _, PySem.W.mg_of X G a18, k18, b18, ok_answered F18 T⟩
  have N19 : Ctor P w K mg base C 1 "End" ["self", "me"] (spInit C) := ⟨_, _, PySem.W.mg_of X G aC, ⟨mk, a19, i19, kc⟩, b19, ok_init F19 T⟩
  have N20 : Md P w K mg base C 2 "take_right" ["self"] (spTake C) := ⟨_, _, ⟨a20, i20, k20⟩, b20, ok_take F20 T N17⟩
  have N21 : Md P w K mg base C 3 "wait_or_take" ["self", "count"] (spWait C) := ⟨_, _, ⟨a21, i21, k21⟩, b21, ok_wait F21 T N20⟩
  have N22 : Md P w K mg base C 2 "turn_green" ["self"] (spR C M.turnGreen) := ⟨_, _, ⟨a22, i22, k22⟩, b22, ok_green F22 T N16⟩
  have N23 : Md P w K mg base C 2 "turn_red" ["self"] (spR C M.turnRed) := ⟨_, _, ⟨a23, i23, k23⟩, b23, ok_red F23 T N16⟩
  have N24 : Md P w K mg base C 2 "one_in" ["self"] (spR C M.oneIn) := ⟨_, _, ⟨a24, i24, k24⟩, b24, ok_in F24 T N17⟩
  have N25 : Md P w K mg base C 3 "one_out" ["self"] (spR C M.oneOut) := ⟨_, _, ⟨a25, i25, k25⟩, b25, ok_out F25 T N20⟩
  have N26 : Md P w K mg base C 5 "given_now" ["self"] (spGivenNow C) := ⟨_, _, ⟨a26, i26, k26⟩, b26, ok_given_now F26 T N15 N8⟩
  have N27 : Md P w K mg base C 6 "give" ["self"] (spR C M.give) := ⟨_, _, ⟨a27, i27, k27⟩, b27, ok_give F27 T N26⟩
  have N28 : Md P w K mg base C 5 "hear_given" ["self", "turn", "count"] (spHearGiven C) := ⟨_, _, ⟨a28, i28, k28⟩, b28, ok_hear_given F28 T N21 N15 N8⟩
  have N29 : Md P w K mg base C 1 "hear_had" ["self", "turn"] (spHearHad C) := ⟨_, _, ⟨a29, i29, k29⟩, b29, ok_hear_had F29 T⟩
  have N30 : Md P w K mg base C 6 "hear" ["self", "row"] (spHear C) := ⟨_, _, ⟨a30, i30, k30⟩, b30, ok_hear F30 T N9 N10 N11 N28 N29⟩
  have N31 : Md P w K mg base C 6 "tick" ["self"] (spR C M.tick) := ⟨_, _, ⟨a31, i31, k31⟩, b31, ok_tick F31 T N26⟩
  have N32 : Md P w K mg base C 1 "state" ["self"] (spState C) := ⟨_, _, ⟨a32, i32, k32⟩, b32, ok_state F32 T⟩
  have N33 : Fn P w K mg base 7 "plain_call" ["end", "number"] (spPlain C) := ⟨_, _, PySem.W.mg_of X G a33, k33, b33, ok_plain F33 T N22 N23 N24 N25 N27 N31⟩
  have N34 : Fn P w K mg base 7 "heard_call" ["end", "row"] (spHeardCall C) := ⟨_, _, PySem.W.mg_of X G a34, k34, b34, ok_heard_call F34 T N14 N30⟩
  have N35 : Fn P w K mg base 8 "told_by" ["end", "calls", "at"] (spToldBy C K) := ⟨_, _, PySem.W.mg_of X G a35, k35, b35, ok_told_by F35 T N18 N32 N34 N2 N33⟩
  exact ok_ans F36 T N19 N35 N1 N0 N18 N16
end LL

open PySem PySem.W PyProof.Rows
set_option maxRecDepth 100000 in
set_option maxHeartbeats 0 in
theorem PySem.Challenge.cw_lanelight_s01_answers_holds : PySem.Challenge.rw_lanelight_s01_answers.Holds := by
  w_on; k_headS; (case hw => exact ⟨[.list [.int 0, .int 0]], by decide +kernel, by decide +kernel⟩)
  k_fillS
  refine L2.walk_specK (r := PySem.Challenge.rw_lanelight_s01_answers) (k := 9) (CX := L2.CX0) (ps := ["calls"]) (sp := LL.spAns) (by decide +kernel) rfl rfl ⟨rfl, by decide, by decide⟩ (fun w h Y => PySem.W.kIn_of Y) ?F ?S (fun _ _ _ _ z => z)
  case F =>
    intro w mg fa h Y KX G hmg
    refine' LL.all_mk KX G hmg ?ll_aC ?ll_a0 ?ll_l0 ?ll_c0 ?ll_k0 ?ll_a1 ?ll_l1 ?ll_c1 ?ll_k1 ?ll_a2 ?ll_l2 ?ll_c2 ?ll_k2 ?ll_a3 ?ll_l3 ?ll_c3 ?ll_k3 ?ll_a4 ?ll_l4 ?ll_c4 ?ll_k4 ?ll_a5 ?ll_l5 ?ll_c5 ?ll_k5 ?ll_a6 ?ll_l6 ?ll_c6 ?ll_k6 ?ll_a7 ?ll_l7 ?ll_c7 ?ll_k7 ?ll_a8 ?ll_l8 ?ll_c8 ?ll_k8 ?ll_a9 ?ll_l9 ?ll_c9 ?ll_k9 ?ll_a10 ?ll_l10 ?ll_c10 ?ll_k10 ?ll_a11 ?ll_l11 ?ll_c11 ?ll_k11 ?ll_a12 ?ll_l12 ?ll_c12 ?ll_k12 ?ll_a13 ?ll_l13 ?ll_c13 ?ll_k13 ?ll_a14 ?ll_l14 ?ll_c14 ?ll_k14 ?ll_a15 ?ll_l15 ?ll_c15 ?ll_k15 ?ll_a16 ?ll_l16 ?ll_c16 ?ll_k16 ?ll_a17 ?ll_l17 ?ll_c17 ?ll_k17 ?ll_a18 ?ll_l18 ?ll_c18 ?ll_k18 ?ll_a19 ?ll_i19 ?ll_l19 ?ll_c19 ?ll_k19 ?ll_a20 ?ll_i20 ?ll_l20 ?ll_c20 ?ll_k20 ?ll_a21 ?ll_i21 ?ll_l21 ?ll_c21 ?ll_k21 ?ll_a22 ?ll_i22 ?ll_l22 ?ll_c22 ?ll_k22 ?ll_a23 ?ll_i23 ?ll_l23 ?ll_c23 ?ll_k23 ?ll_a24 ?ll_i24 ?ll_l24 ?ll_c24 ?ll_k24 ?ll_a25 ?ll_i25 ?ll_l25 ?ll_c25 ?ll_k25 ?ll_a26 ?ll_i26 ?ll_l26 ?ll_c26 ?ll_k26 ?ll_a27 ?ll_i27 ?ll_l27 ?ll_c27 ?ll_k27 ?ll_a28 ?ll_i28 ?ll_l28 ?ll_c28 ?ll_k28 ?ll_a29 ?ll_i29 ?ll_l29 ?ll_c29 ?ll_k29 ?ll_a30 ?ll_i30 ?ll_l30 ?ll_c30 ?ll_k30 ?ll_a31 ?ll_i31 ?ll_l31 ?ll_c31 ?ll_k31 ?ll_a32 ?ll_i32 ?ll_l32 ?ll_c32 ?ll_k32 ?ll_a33 ?ll_l33 ?ll_c33 ?ll_k33 ?ll_a34 ?ll_l34 ?ll_c34 ?ll_k34 ?ll_a35 ?ll_l35 ?ll_c35 ?ll_k35 ?ll_a36 ?ll_l36 ?ll_c36 ?ll_k36 ?ll_pg ?ll_hd ?ll_po ?ll_sa ?ll_mk ?ll_kc ?ll_n0 ?ll_n1 ?ll_n2 ?ll_n3 ?ll_n4 ?ll_n5 ?ll_n6 ?ll_n7 ?ll_n8 ?ll_g0 ?ll_g1 ?ll_g2 ?ll_g3 ?ll_g4 ?ll_g5 ?ll_g6 ?ll_g7 ?ll_g8 ?ll_g9 ?ll_g10 ?ll_g11 ?ll_g12 ?ll_g13 ?ll_g14 ?ll_g15 ?ll_g16 ?ll_g17 ?ll_g18 ?ll_g19 ?ll_g20 ?ll_g21 ?ll_g22 ?ll_g23 ?ll_z0 ?ll_z1 ?ll_z2
    (case ll_aC => k_is)
    (case ll_a0 => k_is)
    (case ll_l0 => k_is)
    (case ll_c0 => k_is)
    (case ll_k0 => k_is)
    (case ll_a1 => k_is)
    (case ll_l1 => k_is)
    (case ll_c1 => k_is)
    (case ll_k1 => k_is)
    (case ll_a2 => k_is)
    (case ll_l2 => k_is)
    (case ll_c2 => k_is)
    (case ll_k2 => k_is)
    (case ll_a3 => k_is)
    (case ll_l3 => k_is)
    (case ll_c3 => k_is)
    (case ll_k3 => k_is)
    (case ll_a4 => k_is)
    (case ll_l4 => k_is)
    (case ll_c4 => k_is)
    (case ll_k4 => k_is)
    (case ll_a5 => k_is)
    (case ll_l5 => k_is)
    (case ll_c5 => k_is)
    (case ll_k5 => k_is)
    (case ll_a6 => k_is)
    (case ll_l6 => k_is)
    (case ll_c6 => k_is)
    (case ll_k6 => k_is)
    (case ll_a7 => k_is)
    (case ll_l7 => k_is)
    (case ll_c7 => k_is)
    (case ll_k7 => k_is)
    (case ll_a8 => k_is)
    (case ll_l8 => k_is)
    (case ll_c8 => k_is)
    (case ll_k8 => k_is)
    (case ll_a9 => k_is)
    (case ll_l9 => k_is)
    (case ll_c9 => k_is)
    (case ll_k9 => k_is)
    (case ll_a10 => k_is)
    (case ll_l10 => k_is)
    (case ll_c10 => k_is)
    (case ll_k10 => k_is)
    (case ll_a11 => k_is)
    (case ll_l11 => k_is)
    (case ll_c11 => k_is)
    (case ll_k11 => k_is)
    (case ll_a12 => k_is)
    (case ll_l12 => k_is)
    (case ll_c12 => k_is)
    (case ll_k12 => k_is)
    (case ll_a13 => k_is)
    (case ll_l13 => k_is)
    (case ll_c13 => k_is)
    (case ll_k13 => k_is)
    (case ll_a14 => k_is)
    (case ll_l14 => k_is)
    (case ll_c14 => k_is)
    (case ll_k14 => k_is)
    (case ll_a15 => k_is)
    (case ll_l15 => k_is)
    (case ll_c15 => k_is)
    (case ll_k15 => k_is)
    (case ll_a16 => k_is)
    (case ll_l16 => k_is)
    (case ll_c16 => k_is)
    (case ll_k16 => k_is)
    (case ll_a17 => k_is)
    (case ll_l17 => k_is)
    (case ll_c17 => k_is)
    (case ll_k17 => k_is)
    (case ll_a18 => k_is)
    (case ll_l18 => k_is)
    (case ll_c18 => k_is)
    (case ll_k18 => k_is)
    (case ll_a19 => k_is)
    (case ll_i19 => k_is)
    (case ll_l19 => k_is)
    (case ll_c19 => k_is)
    (case ll_k19 => k_is)
    (case ll_a20 => k_is)
    (case ll_i20 => k_is)
    (case ll_l20 => k_is)
    (case ll_c20 => k_is)
    (case ll_k20 => k_is)
    (case ll_a21 => k_is)
    (case ll_i21 => k_is)
    (case ll_l21 => k_is)
    (case ll_c21 => k_is)
    (case ll_k21 => k_is)
    (case ll_a22 => k_is)
    (case ll_i22 => k_is)
    (case ll_l22 => k_is)
    (case ll_c22 => k_is)
    (case ll_k22 => k_is)
    (case ll_a23 => k_is)
    (case ll_i23 => k_is)
    (case ll_l23 => k_is)
    (case ll_c23 => k_is)
    (case ll_k23 => k_is)
    (case ll_a24 => k_is)
    (case ll_i24 => k_is)
    (case ll_l24 => k_is)
    (case ll_c24 => k_is)
    (case ll_k24 => k_is)
    (case ll_a25 => k_is)
    (case ll_i25 => k_is)
    (case ll_l25 => k_is)
    (case ll_c25 => k_is)
    (case ll_k25 => k_is)
    (case ll_a26 => k_is)
    (case ll_i26 => k_is)
    (case ll_l26 => k_is)
    (case ll_c26 => k_is)
    (case ll_k26 => k_is)
    (case ll_a27 => k_is)
    (case ll_i27 => k_is)
    (case ll_l27 => k_is)
    (case ll_c27 => k_is)
    (case ll_k27 => k_is)
    (case ll_a28 => k_is)
    (case ll_i28 => k_is)
    (case ll_l28 => k_is)
    (case ll_c28 => k_is)
    (case ll_k28 => k_is)
    (case ll_a29 => k_is)
    (case ll_i29 => k_is)
    (case ll_l29 => k_is)
    (case ll_c29 => k_is)
    (case ll_k29 => k_is)
    (case ll_a30 => k_is)
    (case ll_i30 => k_is)
    (case ll_l30 => k_is)
    (case ll_c30 => k_is)
    (case ll_k30 => k_is)
    (case ll_a31 => k_is)
    (case ll_i31 => k_is)
    (case ll_l31 => k_is)
    (case ll_c31 => k_is)
    (case ll_k31 => k_is)
    (case ll_a32 => k_is)
    (case ll_i32 => k_is)
    (case ll_l32 => k_is)
    (case ll_c32 => k_is)
    (case ll_k32 => k_is)
    (case ll_a33 => k_is)
    (case ll_l33 => k_is)
    (case ll_c33 => k_is)
    (case ll_k33 => k_is)
    (case ll_a34 => k_is)
    (case ll_l34 => k_is)
    (case ll_c34 => k_is)
    (case ll_k34 => k_is)
    (case ll_a35 => k_is)
    (case ll_l35 => k_is)
    (case ll_c35 => k_is)
    (case ll_k35 => k_is)
    (case ll_a36 => k_is)
    (case ll_l36 => k_is)
    (case ll_c36 => k_is)
    (case ll_k36 => k_is)
    (case ll_pg => k_is)
    (case ll_hd => k_is)
    (case ll_po => k_is)
    (case ll_sa => k_is)
    (case ll_mk => k_is)
    (case ll_kc => k_is)
    (case ll_n0 => k_is)
    (case ll_n1 => k_is)
    (case ll_n2 => k_is)
    (case ll_n3 => k_is)
    (case ll_n4 => k_is)
    (case ll_n5 => k_is)
    (case ll_n6 => k_is)
    (case ll_n7 => k_is)
    (case ll_n8 => k_is)
    (case ll_g0 => k_is)
    (case ll_g1 => k_is)
    (case ll_g2 => k_is)
    (case ll_g3 => k_is)
    (case ll_g4 => k_is)
    (case ll_g5 => k_is)
    (case ll_g6 => k_is)
    (case ll_g7 => k_is)
    (case ll_g8 => k_is)
    (case ll_g9 => k_is)
    (case ll_g10 => k_is)
    (case ll_g11 => k_is)
    (case ll_g12 => k_is)
    (case ll_g13 => k_is)
    (case ll_g14 => k_is)
    (case ll_g15 => k_is)
    (case ll_g16 => k_is)
    (case ll_g17 => k_is)
    (case ll_g18 => k_is)
    (case ll_g19 => k_is)
    (case ll_g20 => k_is)
    (case ll_g21 => k_is)
    (case ll_g22 => k_is)
    (case ll_g23 => k_is)
    (case ll_z0 => k_is)
    (case ll_z1 => k_is)
    (case ll_z2 => k_is)
  case S =>
    intro K H xs a hO hwi hask hx
    cases hx with
    | cons h1 h2 =>
      cases h2
      cases h1 with
      | lst hs ha =>
        have e := L2.ints_dw a.1 _ ha
        subst e
        have q : ((Codec.inLen 0 30000 a.1 && a.1.all (Codec.inInt 0 4294967295)) && true) = true := hwi
        rw [Bool.and_eq_true, Bool.and_eq_true] at q
        exact ⟨_, a.1, rfl, hs, hask, (Codec.inNat_iff.mp q.1.1).2, fun H' p hp => .lst (L2.SqL.of hp) (L2.dw_ints _)⟩
#print axioms PySem.Challenge.cw_lanelight_s01_answers_holds


