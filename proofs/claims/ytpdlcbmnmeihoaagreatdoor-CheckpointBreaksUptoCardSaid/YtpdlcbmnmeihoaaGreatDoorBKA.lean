/-  CRC-32C, plainly: one byte changed, another sum. -/
import Derived.Test.YtpdlcbmnmeihoaaGreatDoorBFW
import Derived.Test.YtpdlcbmnmeihoaaGreatDoorBJd
import Derived.Test.YtpdlcbmnmeihoaaGreatDoorBR0
import Derived.Test.YtpdlcbmnmeihoaaGreatDoorBQA
import Derived.Laws.Bits64
import Derived.Laws.BitsAllLaws
import Derived.Test.YtpdlcbmnmeihoaaGreatDoorBGB
set_option maxRecDepth 100000
set_option linter.unusedVariables false
set_option linter.unusedSimpArgs false
set_option linter.unnecessarySimpa false
namespace Go.Proofs.YtpdlcbmnmeihoaaGreatDoor.Ev
open Go An
/-- one bit of the sum -/
def stp (r : Nat) : Nat := if r % 2 = 1 then (r / 2) ^^^ 2197175160 else r / 2
theorem stp_lt {r : Nat} (h : r < 4294967296) : stp r < 4294967296 := by
  unfold stp
  split
  · exact Nat.xor_lt_two_pow (n := 32) (by omega) (by omega)
  · omega
theorem stp_high {r : Nat} (h : r < 4294967296) : (stp r).testBit 31 = decide (r % 2 = 1) := by
  have h1 : (r / 2).testBit 31 = false := Nat.testBit_lt_two_pow (by omega)
  unfold stp
  by_cases h2 : r % 2 = 1
  · rw [if_pos h2, Nat.testBit_xor, h1, decide_eq_true h2]; decide
  · rw [if_neg h2, h1, decide_eq_false h2]
theorem stp_inj {r r' : Nat} (h : r < 4294967296) (h' : r' < 4294967296) (e : stp r = stp r') : r = r' := by
  have e1 := stp_high h
  rw [e, stp_high h'] at e1
  have e2 : (r' % 2 = 1) ↔ (r % 2 = 1) := by
    by_cases a : r' % 2 = 1 <;> by_cases b : r % 2 = 1 <;> simp [a, b] at e1 ⊢
  have e3 : r / 2 = r' / 2 := by
    unfold stp at e
    by_cases a : r % 2 = 1
    · rw [if_pos a, if_pos (e2.2 a)] at e
      have := congrArg (· ^^^ 2197175160) e
      simpa [Nat.xor_assoc] using this
    · rw [if_neg a, if_neg (fun x => a (e2.1 x))] at e; exact e
  omega
def stps : Nat → Nat → Nat
  | 0, r => r
  | k + 1, r => stps k (stp r)
theorem stps_lt : ∀ (k : Nat) {r : Nat}, r < 4294967296 → stps k r < 4294967296
  | 0, _, h => h
  | k + 1, _, h => stps_lt k (stp_lt h)
theorem stps_inj : ∀ (k : Nat) {r r' : Nat}, r < 4294967296 → r' < 4294967296 → stps k r = stps k r' → r = r'
  | 0, _, _, _, _, e => e
  | k + 1, _, _, h, h', e => stp_inj h h' (stps_inj k (stp_lt h) (stp_lt h') e)
/-- the sum's register behind some bytes -/
def crcR : Nat → List Nat → Nat
  | r, [] => r
  | r, c :: l => crcR (stps 8 (r ^^^ c)) l
theorem byte_lt {r c : Nat} (h : r < 4294967296) (hc : c < 256) : r ^^^ c < 4294967296 := Nat.xor_lt_two_pow (n := 32) (by omega) (by omega)
theorem xor_left_inj {a b c : Nat} (h : a ^^^ c = b ^^^ c) : a = b := by
  have := congrArg (· ^^^ c) h
  simpa [Nat.xor_assoc] using this
theorem crcR_lt : ∀ (l : List Nat) {r : Nat}, r < 4294967296 → (∀ c ∈ l, c < 256) → crcR r l < 4294967296
  | [], _, h, _ => h
  | c :: l, _, h, hl => crcR_lt l (stps_lt 8 (byte_lt h (hl c (by simp)))) (fun x hx => hl x (by simp [hx]))
theorem crcR_inj : ∀ (l : List Nat) {r r' : Nat}, r < 4294967296 → r' < 4294967296 → (∀ c ∈ l, c < 256) → crcR r l = crcR r' l → r = r'
  | [], _, _, _, _, _, e => e
  | c :: l, r, r', h, h', hl, e => by
    have hc := hl c (by simp)
    have := crcR_inj l (stps_lt 8 (byte_lt h hc)) (stps_lt 8 (byte_lt h' hc)) (fun x hx => hl x (by simp [hx])) e
    exact xor_left_inj (stps_inj 8 (byte_lt h hc) (byte_lt h' hc) this)
theorem crcR_app : ∀ (a b : List Nat) (r : Nat), crcR r (a ++ b) = crcR (crcR r a) b
  | [], _, _ => rfl
  | c :: a, b, r => crcR_app a b _
/-- one byte changed: another sum -/
theorem crcR_break {a b : List Nat} {x y : Nat} (ha : ∀ c ∈ a, c < 256) (hb : ∀ c ∈ b, c < 256) (hx : x < 256) (hy : y < 256) {r : Nat} (hr : r < 4294967296) (hne : x ≠ y) : crcR r (a ++ x :: b) ≠ crcR r (a ++ y :: b) := by
  intro e
  rw [crcR_app, crcR_app] at e
  have h1 := crcR_lt a hr ha
  have e1 := crcR_inj b (stps_lt 8 (byte_lt h1 hx)) (stps_lt 8 (byte_lt h1 hy)) hb e
  have e2 := stps_inj 8 (byte_lt h1 hx) (byte_lt h1 hy) e1
  rw [Nat.xor_comm, Nat.xor_comm _ y] at e2
  exact hne (xor_left_inj e2)
end Go.Proofs.YtpdlcbmnmeihoaaGreatDoor.Ev
namespace Go.Proofs.YtpdlcbmnmeihoaaGreatDoor.Ev
open Go An
def bitN (b : Bool) : Int := if b then 1 else 0
/-- the bytes of numbers -/
def bs (l : List Int) : List Int := l.flatMap eB
/-- a list, as it is written -/
def lsN (l : List Int) : List Int := (l.length : Int) :: l
def okN (l : List Int) : Prop := ∀ x ∈ l, -9223372036854775808 ≤ x ∧ x ≤ 9223372036854775807
def cnt {α : Type} (l : List α) (f : α → List Int) : List Int := [(l.length : Int)] ++ l.flatMap f
def clN (c : api_Claim) : List Int := [c.Proc, c.Units, c.Prio, c.Seq, bitN c.Preempt]
def evN (e : api_Event) : List Int := [e.Time, e.Prio, e.From, e.Seq, e.Site, e.Kind, e.A, e.B] ++ lsN e.Args
def prN (p : api_Proc) : List Int := [p.Id, p.Routine, p.Pc] ++ (lsN p.Slots ++ [p.Status, p.Born, p.Left])
def rsN (r : api_Resource) : List Int := [r.Units, bitN r.Down] ++ (cnt r.Holders clN ++ (cnt r.Queue clN ++ [r.Next]))
def rdN (y : api_Ready) : List Int := [y.Proc, y.Item]
def soN (v : api_Store) : List Int := [v.Room, v.Policy] ++ (lsN v.Items ++ ([(v.Putters.length : Int)] ++ (v.Putters.flatMap rdN ++ (lsN v.Getters ++ [v.In, v.Out]))))
def riN (y : api_Rider) : List Int := [y.Proc, y.Entry, y.Exit]
def beN (b : api_Belt) : List Int := [b.Length, b.Step, (b.Riders.length : Int)] ++ (b.Riders.flatMap riN ++ [b.Last])
def srN (y : api_Stream) : List Int := [w64 (Int.fdiv y.Key (2 ^ 32)), w64 (IntKind.wrap .u64 (((BitVec.ofInt 64 y.Key &&& BitVec.ofInt 64 4294967295).toNat : Int))), y.Pos, bitN y.Anti]
def taN (t : api_Tally) : List Int := [t.N, t.Sum, t.Squares, t.Min, t.Max]
def leN (l : api_Level) : List Int := [l.Value, l.Since, l.Begin, l.Area, l.Min, l.Max]
def dyN (s : api_State) : List Int := cnt s.Agenda evN ++ cnt s.Procs prN
def obN (s : api_State) : List Int := cnt s.Resources rsN ++ (cnt s.Stores soN ++ (cnt s.Belts beN ++ cnt s.Queues lsN))
def saN (s : api_State) : List Int := cnt s.Streams srN ++ (cnt s.Tallies taN ++ (cnt s.Levels leN ++ (lsN s.Counts ++ (lsN s.Created ++ (lsN s.Ended ++ [s.Dropped])))))
def stN (s : api_State) : List Int := [s.Site, s.Now, s.Seq] ++ (dyN s ++ ([s.NextProc] ++ (lsN s.Vars ++ (obN s ++ saN s))))
def woN (w : api_World) : List Int := cnt w.Sites stN
theorem bs_app (a b : List Int) : bs (a ++ b) = bs a ++ bs b := by unfold bs; rw [List.flatMap_append]
theorem bs_cons (x : Int) (l : List Int) : bs (x :: l) = eB x ++ bs l := rfl
theorem zB_bs (l : List Int) : zB l l.length = bs (lsN l) := by
  unfold zB
  rw [List.take_length]; rfl
theorem bs_len : ∀ l : List Int, (bs l).length ≤ 10 * l.length
  | [] => by simp [bs]
  | x :: l => by
    rw [bs_cons, List.length_append, List.length_cons]
    have := bs_len l
    have := (eB_len x).2
    omega
theorem okN_app {a b : List Int} : okN (a ++ b) ↔ okN a ∧ okN b := by
  unfold okN
  simp only [List.mem_append]
  exact ⟨fun h => ⟨fun x hx => h x (.inl hx), fun x hx => h x (.inr hx)⟩, fun h x hx => hx.elim (h.1 x) (h.2 x)⟩
theorem okN_cons {x : Int} {l : List Int} : okN (x :: l) ↔ (-9223372036854775808 ≤ x ∧ x ≤ 9223372036854775807) ∧ okN l := by
  unfold okN
  simp only [List.mem_cons, forall_eq_or_imp]
theorem okN_nil : okN [] := fun x hx => by cases hx
/-- there is room for these numbers behind these bytes -/
def fits (b l : List Int) : Prop := okN l ∧ b.length + 10 * l.length ≤ 1099511627776
theorem fits_app {b l k : List Int} (h : fits b (l ++ k)) : fits b l ∧ fits (b ++ bs l) k := by
  obtain ⟨h1, h2⟩ := h
  obtain ⟨h3, h4⟩ := okN_app.1 h1
  have := bs_len l
  rw [List.length_append] at h2
  refine ⟨⟨h3, by omega⟩, h4, ?_⟩
  rw [List.length_append]
  omega
theorem drop_getD {α : Type} [Inhabited α] {a k : List α} {x : α} {i : Nat} (h : a.drop i = x :: k) : a.getD i default = x ∧ a.drop (i + 1) = k ∧ x ∈ a := by
  have h1 : a[i]? = some x := by
    have := congrArg (fun l => l[0]?) h
    simpa [List.getElem?_drop] using this
  refine ⟨by rw [List.getD, h1]; rfl, ?_, List.mem_of_getElem? h1⟩
  rw [← List.drop_drop, h]; rfl
/-- a loop that writes -/
theorem wr_loop {T : Type} [Inhabited T] {f : T → List Int} {lq : List T → Nat → List Int → Option (Nat × (Int × List Int))} {a : List T} (h0 : ∀ i b, lq [] i b = some (0, ((i : Int), b)))
    (hs : ∀ x k i b, a.getD i default = x → x ∈ a → fits b (f x) → lq (x :: k) i b = lq k (i + 1) (b ++ bs (f x))) : ∀ k i b, a.drop i = k → fits b (k.flatMap f) → lq k i b = some (0, (((i + k.length : Nat) : Int), b ++ bs (k.flatMap f)))
  | [], i, b, _, _ => by rw [h0]; simp [bs]
  | x :: k, i, b, hd, hf => by
    obtain ⟨e1, e2, e3⟩ := drop_getD hd
    rw [List.flatMap_cons] at hf ⊢
    obtain ⟨h1, h2⟩ := fits_app hf
    rw [hs x k i b e1 e3 h1, wr_loop h0 hs k (i + 1) _ e2 h2, bs_app, List.append_assoc, List.length_cons, show i + 1 + k.length = i + (k.length + 1) by omega]
theorem flat1 (l : List Int) : l.flatMap (fun x => [x]) = l := by induction l with | nil => rfl | cons x l ih => rw [List.flatMap_cons, ih]; rfl
end Go.Proofs.YtpdlcbmnmeihoaaGreatDoor.Ev
namespace Go.Proofs.YtpdlcbmnmeihoaaGreatDoor.Ev
open Go An
theorem ok_PutInt (L : Nat) {b : List Int} {n : Int} (h : fits b [n]) : F_codec_PutInt L b n = some (b ++ bs [n]) := by
  obtain ⟨h1, h2⟩ := h
  have h3 := (okN_cons.1 h1).1
  have := (eB_len n).2
  simp only [List.length_singleton] at h2
  simp only [T_codec_PutInt, F_codec_PutInt, aN, aB, F_codec_encoded, F_codec_joined, if_pos h3, Option.bind_some, if_pos (show b.length + (eB n).length ≤ 1099511627776 by omega)]
  simp [bs]
theorem ok_ints {L : Nat} (hL : maxLen < L) {b l : List Int} (hm : l.length ≤ maxLen) (h : fits b l) : F_checkpoint_writer_ints L ⟨b⟩ l = some ((), ⟨b ++ bs l⟩) := by
  have h1 := wr_loop (f := fun x => [x]) (lq := lq_checkpoint_writer_ints_1 L l) (a := l) (fun i b => rfl) (fun x k i b _ _ hf => by rw [lq_checkpoint_writer_ints_1, ok_PutInt L hf]; rfl) l 0 b rfl (by rw [flat1]; exact h)
  rw [flat1] at h1
  simp only [T_checkpoint_writer_ints, rx_checkpoint_writer_ints_1, F_checkpoint_writer_ints, rx_checkpoint_writer_ints_1, aN, aB, lq0_checkpoint_writer_ints_1 L l L hm (by omega), h1, Option.bind_some, selo]
theorem ok_list {L : Nat} {b l : List Int} (h : fits b (lsN l)) : F_checkpoint_writer_list L ⟨b⟩ l = some ((), ⟨b ++ bs (lsN l)⟩) := by
  obtain ⟨h1, h2⟩ := h
  have h3 := (okN_cons.1 h1).2
  have e : (lsN l).length = l.length + 1 := rfl
  simp only [T_checkpoint_writer_list, F_checkpoint_writer_list, aN, aB, F_codec_PutInts, if_pos (show b.length + 10 * (l.length + 1) ≤ 1099511627776 ∧ ∀ x ∈ l, -9223372036854775808 ≤ x ∧ x ≤ 9223372036854775807 from ⟨by omega, h3⟩), Option.bind_some, zB_bs]
theorem ok_bit (L : Nat) (b : Bool) : F_checkpoint_bit L b = some (bitN b) := by cases b <;> rfl
theorem ok_claims {L : Nat} (hL : maxLen < L) {b : List Int} {l : List api_Claim} (hm : l.length ≤ maxLen) (h : fits b (cnt l clN)) : F_checkpoint_writer_claims L ⟨b⟩ l = some ((), ⟨b ++ bs (cnt l clN)⟩) := by
  obtain ⟨h1, h2⟩ := fits_app h
  have h3 := wr_loop (f := clN) (lq := lq_checkpoint_writer_claims_1 L l) (a := l) (fun i b => rfl) (fun x k i b _ _ hf => by
    rw [lq_checkpoint_writer_claims_1, ok_bit]
    simp only [Option.bind_some]
    unfold clN at hf ⊢
    rw [ok_ints hL (by simp [maxLen_eq]) hf]; rfl) l 0 _ rfl h2
  simp only [T_checkpoint_writer_claims, wx_checkpoint_writer_claims_1, rx_checkpoint_writer_claims_1, F_checkpoint_writer_claims, wx_checkpoint_writer_claims_1, rx_checkpoint_writer_claims_1, aN, aB, ok_ints hL (by simp [maxLen_eq]) h1, lq0_checkpoint_writer_claims_1 L l L hm (by omega), h3, Option.bind_some, selo, cnt, bs_app, List.append_assoc]
end Go.Proofs.YtpdlcbmnmeihoaaGreatDoor.Ev
namespace Go.Proofs.YtpdlcbmnmeihoaaGreatDoor.Ev
open Go An
section
variable {L : Nat} (hL : maxLen < L) (s : api_State) (ok : Ok_api_State s)
include hL ok
theorem p_ev (b : List Int) (h : fits b (s.Agenda.flatMap evN)) : lp_checkpoint_writer_state_1 L s L 0 b = some (0, (((0 + s.Agenda.length : Nat) : Int), b ++ bs (s.Agenda.flatMap evN))) := by
  rw [lq0_checkpoint_writer_state_1 L s L (by obtain ⟨_, _, _, h, _⟩ := ok; exact h.1) (by obtain ⟨_, _, _, h, _⟩ := ok; have := h.1; omega)]
  refine wr_loop (fun i b => rfl) (fun x k i b _ _ hf => ?_) s.Agenda 0 b rfl h
  obtain ⟨h1, h2⟩ := fits_app hf
  rw [lq_checkpoint_writer_state_1, ok_ints hL (by simp [maxLen_eq]) h1]
  simp only [Option.bind_some, ok_list h2]
  simp only [evN, bs_app, List.append_assoc]
theorem p_pr (b : List Int) (h : fits b (s.Procs.flatMap prN)) : lp_checkpoint_writer_state_2 L s L 0 b = some (0, (((0 + s.Procs.length : Nat) : Int), b ++ bs (s.Procs.flatMap prN))) := by
  rw [lq0_checkpoint_writer_state_2 L s L (by obtain ⟨_, _, _, _, h, _⟩ := ok; exact h.1) (by obtain ⟨_, _, _, _, h, _⟩ := ok; have := h.1; omega)]
  refine wr_loop (fun i b => rfl) (fun x k i b _ _ hf => ?_) s.Procs 0 b rfl h
  obtain ⟨h1, h2⟩ := fits_app hf
  obtain ⟨h2, h3⟩ := fits_app h2
  rw [lq_checkpoint_writer_state_2, ok_ints hL (by simp [maxLen_eq]) h1]
  simp only [Option.bind_some, ok_list h2]
  rw [ok_ints hL (by simp [maxLen_eq]) h3]
  simp only [Option.bind_some, prN, bs_app, List.append_assoc]
theorem p_rs (b : List Int) (h : fits b (s.Resources.flatMap rsN)) : lp_checkpoint_writer_state_3 L s L 0 b = some (0, (((0 + s.Resources.length : Nat) : Int), b ++ bs (s.Resources.flatMap rsN))) := by
  obtain ⟨_, _, _, _, _, _, _, ⟨q1, q2⟩, _⟩ := ok
  rw [lq0_checkpoint_writer_state_3 L s L q1 (by omega)]
  refine wr_loop (fun i b => rfl) (fun x k i b _ hx hf => ?_) s.Resources 0 b rfl h
  obtain ⟨_, _, k1, k2, _⟩ := q2 x hx
  obtain ⟨h1, h2⟩ := fits_app hf
  obtain ⟨h2, h3⟩ := fits_app h2
  obtain ⟨h3, h4⟩ := fits_app h3
  rw [lq_checkpoint_writer_state_3, ok_bit]
  simp only [Option.bind_some]
  rw [ok_ints hL (by simp [maxLen_eq]) h1]
  simp only [Option.bind_some, ok_claims hL k1.1 h2, ok_claims hL k2.1 h3]
  rw [ok_ints hL (by simp [maxLen_eq]) h4]
  simp only [Option.bind_some, rsN, bs_app, List.append_assoc]
theorem p_so (b : List Int) (h : fits b (s.Stores.flatMap soN)) : lp_checkpoint_writer_state_4 L s L 0 b = some (0, (((0 + s.Stores.length : Nat) : Int), b ++ bs (s.Stores.flatMap soN))) := by
  obtain ⟨_, _, _, _, _, _, _, _, ⟨q1, q2⟩, _⟩ := ok
  rw [lq0_checkpoint_writer_state_4 L s L q1 (by omega)]
  refine wr_loop (fun i b => rfl) (fun x k i b hg hx hf => ?_) s.Stores 0 b rfl h
  obtain ⟨_, _, _, k1, _⟩ := q2 x hx
  obtain ⟨h1, h2⟩ := fits_app hf
  obtain ⟨h2, h3⟩ := fits_app h2
  obtain ⟨h3, h4⟩ := fits_app h3
  obtain ⟨h4, h5⟩ := fits_app h4
  obtain ⟨h5, h6⟩ := fits_app h5
  have hp := wr_loop (f := rdN) (lq := lq_checkpoint_writer_state_5 L s (i : Int)) (a := x.Putters) (fun i b => rfl) (fun y k i b _ _ hf => by
    unfold rdN at hf ⊢
    rw [lq_checkpoint_writer_state_5, ok_ints hL (by simp [maxLen_eq]) hf]; rfl) x.Putters 0 _ rfl h4
  have h0 := lq0_checkpoint_writer_state_5 L s (i : Int) L (by rw [Int.toNat_natCast, hg]; exact k1.1) (by rw [Int.toNat_natCast, hg]; have := k1.1; omega)
  rw [Int.toNat_natCast, hg] at h0
  rw [lq_checkpoint_writer_state_4, ok_ints hL (by simp [maxLen_eq]) h1]
  simp only [Option.bind_some, ok_list h2]
  rw [ok_ints hL (by simp [maxLen_eq]) h3]
  simp only [Option.bind_some, h0, hp, selo, ok_list h5]
  rw [ok_ints hL (by simp [maxLen_eq]) h6]
  simp only [Option.bind_some, soN, bs_app, List.append_assoc]
theorem p_be (b : List Int) (h : fits b (s.Belts.flatMap beN)) : lp_checkpoint_writer_state_6 L s L 0 b = some (0, (((0 + s.Belts.length : Nat) : Int), b ++ bs (s.Belts.flatMap beN))) := by
  obtain ⟨_, _, _, _, _, _, _, _, _, ⟨q1, q2⟩, _⟩ := ok
  rw [lq0_checkpoint_writer_state_6 L s L q1 (by omega)]
  refine wr_loop (fun i b => rfl) (fun x k i b hg hx hf => ?_) s.Belts 0 b rfl h
  obtain ⟨_, _, k1, _⟩ := q2 x hx
  obtain ⟨h1, h2⟩ := fits_app hf
  obtain ⟨h2, h3⟩ := fits_app h2
  have hp := wr_loop (f := riN) (lq := lq_checkpoint_writer_state_7 L s (i : Int)) (a := x.Riders) (fun i b => rfl) (fun y k i b _ _ hf => by
    unfold riN at hf ⊢
    rw [lq_checkpoint_writer_state_7, ok_ints hL (by simp [maxLen_eq]) hf]; rfl) x.Riders 0 _ rfl h2
  have h0 := lq0_checkpoint_writer_state_7 L s (i : Int) L (by rw [Int.toNat_natCast, hg]; exact k1.1) (by rw [Int.toNat_natCast, hg]; have := k1.1; omega)
  rw [Int.toNat_natCast, hg] at h0
  rw [lq_checkpoint_writer_state_6, ok_ints hL (by simp [maxLen_eq]) h1]
  simp only [Option.bind_some, h0, hp, selo]
  rw [ok_ints hL (by simp [maxLen_eq]) h3]
  simp only [Option.bind_some, beN, bs_app, List.append_assoc]
theorem p_qu (b : List Int) (h : fits b (s.Queues.flatMap lsN)) : lp_checkpoint_writer_state_8 L s L 0 b = some (0, (((0 + s.Queues.length : Nat) : Int), b ++ bs (s.Queues.flatMap lsN))) := by
  obtain ⟨_, _, _, _, _, _, _, _, _, _, ⟨q1, q2⟩, _⟩ := ok
  rw [lq0_checkpoint_writer_state_8 L s L q1 (by omega)]
  refine wr_loop (fun i b => rfl) (fun x k i b hg hx hf => ?_) s.Queues 0 b rfl h
  rw [lq_checkpoint_writer_state_8, ok_list hf]; rfl
theorem p_sr (b : List Int) (h : fits b (s.Streams.flatMap srN)) : lp_checkpoint_writer_state_9 L s L 0 b = some (0, (((0 + s.Streams.length : Nat) : Int), b ++ bs (s.Streams.flatMap srN))) := by
  obtain ⟨_, _, _, _, _, _, _, _, _, _, _, ⟨q1, q2⟩, _⟩ := ok
  rw [lq0_checkpoint_writer_state_9 L s L q1 (by omega)]
  refine wr_loop (fun i b => rfl) (fun x k i b hg hx hf => ?_) s.Streams 0 b rfl h
  rw [lq_checkpoint_writer_state_9, ok_bit]
  simp only [Option.bind_some]
  unfold srN at hf ⊢
  rw [ok_ints hL (by simp [maxLen_eq]) hf]; rfl
theorem p_ta (b : List Int) (h : fits b (s.Tallies.flatMap taN)) : lp_checkpoint_writer_state_10 L s L 0 b = some (0, (((0 + s.Tallies.length : Nat) : Int), b ++ bs (s.Tallies.flatMap taN))) := by
  obtain ⟨_, _, _, _, _, _, _, _, _, _, _, _, ⟨q1, q2⟩, _⟩ := ok
  rw [lq0_checkpoint_writer_state_10 L s L q1 (by omega)]
  refine wr_loop (fun i b => rfl) (fun x k i b hg hx hf => ?_) s.Tallies 0 b rfl h
  unfold taN at hf ⊢
  rw [lq_checkpoint_writer_state_10, ok_ints hL (by simp [maxLen_eq]) hf]; rfl
theorem p_le (b : List Int) (h : fits b (s.Levels.flatMap leN)) : lp_checkpoint_writer_state_11 L s L 0 b = some (0, (((0 + s.Levels.length : Nat) : Int), b ++ bs (s.Levels.flatMap leN))) := by
  obtain ⟨_, _, _, _, _, _, _, _, _, _, _, _, _, ⟨q1, q2⟩, _⟩ := ok
  rw [lq0_checkpoint_writer_state_11 L s L q1 (by omega)]
  refine wr_loop (fun i b => rfl) (fun x k i b hg hx hf => ?_) s.Levels 0 b rfl h
  unfold leN at hf ⊢
  rw [lq_checkpoint_writer_state_11, ok_ints hL (by simp [maxLen_eq]) hf]; rfl
omit hL ok in
theorem stN_flat : stN s = [s.Site, s.Now, s.Seq, (s.Agenda.length : Int)] ++ (s.Agenda.flatMap evN ++ ([(s.Procs.length : Int)] ++ (s.Procs.flatMap prN ++ ([s.NextProc] ++ (lsN s.Vars ++ ([(s.Resources.length : Int)] ++ (s.Resources.flatMap rsN ++ ([(s.Stores.length : Int)] ++ (s.Stores.flatMap soN ++ ([(s.Belts.length : Int)] ++ (s.Belts.flatMap beN ++ ([(s.Queues.length : Int)] ++ (s.Queues.flatMap lsN ++ ([(s.Streams.length : Int)] ++ (s.Streams.flatMap srN ++ ([(s.Tallies.length : Int)] ++ (s.Tallies.flatMap taN ++ ([(s.Levels.length : Int)] ++ (s.Levels.flatMap leN ++ (lsN s.Counts ++ (lsN s.Created ++ (lsN s.Ended ++ ([s.Dropped]))))))))))))))))))))))) := by
  simp only [stN, dyN, obN, saN, cnt, List.append_assoc, List.cons_append, List.nil_append]
theorem ok_state (b : List Int) (h : fits b (stN s)) : F_checkpoint_writer_state L ⟨b⟩ s = some ((), ⟨b ++ bs (stN s)⟩) := by
  rw [stN_flat] at h ⊢
  obtain ⟨h0, h⟩ := fits_app h
  obtain ⟨h1, h⟩ := fits_app h
  obtain ⟨h2, h⟩ := fits_app h
  obtain ⟨h3, h⟩ := fits_app h
  obtain ⟨h4, h⟩ := fits_app h
  obtain ⟨h5, h⟩ := fits_app h
  obtain ⟨h6, h⟩ := fits_app h
  obtain ⟨h7, h⟩ := fits_app h
  obtain ⟨h8, h⟩ := fits_app h
  obtain ⟨h9, h⟩ := fits_app h
  obtain ⟨h10, h⟩ := fits_app h
  obtain ⟨h11, h⟩ := fits_app h
  obtain ⟨h12, h⟩ := fits_app h
  obtain ⟨h13, h⟩ := fits_app h
  obtain ⟨h14, h⟩ := fits_app h
  obtain ⟨h15, h⟩ := fits_app h
  obtain ⟨h16, h⟩ := fits_app h
  obtain ⟨h17, h⟩ := fits_app h
  obtain ⟨h18, h⟩ := fits_app h
  obtain ⟨h19, h⟩ := fits_app h
  obtain ⟨h20, h⟩ := fits_app h
  obtain ⟨h21, h⟩ := fits_app h
  obtain ⟨h22, h⟩ := fits_app h
  have h23 := h
  simp only [T_checkpoint_writer_state, wx_checkpoint_writer_state_1, rx_checkpoint_writer_state_1, wx_checkpoint_writer_state_2, rx_checkpoint_writer_state_2, wx_checkpoint_writer_state_3, rx_checkpoint_writer_state_3, wx_checkpoint_writer_state_5, rx_checkpoint_writer_state_5, wx_checkpoint_writer_state_7, rx_checkpoint_writer_state_7, wx_checkpoint_writer_state_8, rx_checkpoint_writer_state_8, wx_checkpoint_writer_state_9, rx_checkpoint_writer_state_9, wx_checkpoint_writer_state_10, rx_checkpoint_writer_state_10, wx_checkpoint_writer_state_11, rx_checkpoint_writer_state_11, F_checkpoint_writer_state, wx_checkpoint_writer_state_1, rx_checkpoint_writer_state_1, wx_checkpoint_writer_state_2, rx_checkpoint_writer_state_2, wx_checkpoint_writer_state_3, rx_checkpoint_writer_state_3, wx_checkpoint_writer_state_5, rx_checkpoint_writer_state_5, wx_checkpoint_writer_state_7, rx_checkpoint_writer_state_7, wx_checkpoint_writer_state_8, rx_checkpoint_writer_state_8, wx_checkpoint_writer_state_9, rx_checkpoint_writer_state_9, wx_checkpoint_writer_state_10, rx_checkpoint_writer_state_10, wx_checkpoint_writer_state_11, rx_checkpoint_writer_state_11, aN, aB, Option.bind_some, selo, ok_ints hL (by simp [maxLen_eq]) h0, p_ev hL s ok _ h1, ok_ints hL (by simp [maxLen_eq]) h2, p_pr hL s ok _ h3, ok_ints hL (by simp [maxLen_eq]) h4, ok_list h5, ok_ints hL (by simp [maxLen_eq]) h6, p_rs hL s ok _ h7, ok_ints hL (by simp [maxLen_eq]) h8, p_so hL s ok _ h9, ok_ints hL (by simp [maxLen_eq]) h10, p_be hL s ok _ h11, ok_ints hL (by simp [maxLen_eq]) h12, p_qu hL s ok _ h13, ok_ints hL (by simp [maxLen_eq]) h14, p_sr hL s ok _ h15, ok_ints hL (by simp [maxLen_eq]) h16, p_ta hL s ok _ h17, ok_ints hL (by simp [maxLen_eq]) h18, p_le hL s ok _ h19, ok_list h20, ok_list h21, ok_list h22, ok_ints hL (by simp [maxLen_eq]) h23]
  simp only [bs_app, List.append_assoc]
end
theorem ok_body {L : Nat} (hL : maxLen < L) (w : api_World) (ok : Ok_api_World w) (h : fits [] (woN w)) : F_checkpoint_body L w = some (bs (woN w)) := by
  obtain ⟨q1, q2⟩ := ok
  obtain ⟨h0, h1⟩ := fits_app h
  have e := wr_loop (f := stN) (lq := lq_checkpoint_body_1 L w) (a := w.Sites) (fun i b => rfl) (fun x k i b _ hx hf => by rw [lq_checkpoint_body_1, ok_state hL x (q2 x hx) b hf]; rfl) w.Sites 0 _ rfl h1
  simp only [T_checkpoint_body, wx_checkpoint_body_1, rx_checkpoint_body_1, F_checkpoint_body, wx_checkpoint_body_1, rx_checkpoint_body_1, aN, aB, Option.bind_some, selo, ok_ints hL (by simp [maxLen_eq]) h0, lq0_checkpoint_body_1 L w L q1 (by omega), e]
  simp only [woN, cnt, bs_app, List.append_assoc, List.nil_append]
end Go.Proofs.YtpdlcbmnmeihoaaGreatDoor.Ev
namespace Go.Proofs.YtpdlcbmnmeihoaaGreatDoor.Ev
open Go An
section
variable {L : Nat} (hL : maxLen < L) (s : api_State) (ok : Ok_api_State s)
include hL ok
end
end Go.Proofs.YtpdlcbmnmeihoaaGreatDoor.Ev
namespace Go.Proofs.YtpdlcbmnmeihoaaGreatDoor.Ev
open Go An
def bytesOK (l : List Int) : Prop := ∀ x ∈ l, 0 ≤ x ∧ x < 256
theorem encV_byte : ∀ (k u : Nat), u < 2 * 128 ^ k → bytesOK (encV k u)
  | 0, u, h => fun x hx => by
    simp only [encV, List.mem_singleton] at hx
    subst hx; omega
  | k + 1, u, h => fun x hx => by
    unfold encV at hx
    split at hx
    · simp only [List.mem_singleton] at hx; subst hx; omega
    · rcases List.mem_cons.1 hx with rfl | hx
      · omega
      · have hk : 2 * 128 ^ (k + 1) = 128 * (2 * 128 ^ k) := by rw [Nat.pow_succ]; omega
        rw [hk] at h
        exact encV_byte k (u / 128) (Nat.div_lt_of_lt_mul h) x hx
theorem bs_byte : ∀ {l : List Int}, okN l → bytesOK (bs l)
  | [], _ => fun x hx => by cases hx
  | n :: l, h => fun x hx => by
    obtain ⟨⟨h1, h2⟩, h3⟩ := okN_cons.1 h
    rw [bs_cons] at hx
    rcases List.mem_append.1 hx with hx | hx
    · refine encV_byte 9 _ ?_ x hx
      split <;> omega
    · exact bs_byte h3 x hx
theorem xor32 (a b : Nat) (ha : a < 4294967296) (hb : b < 4294967296) : IntKind.wrap .u32 (((BitVec.ofInt 32 (a : Int) ^^^ BitVec.ofInt 32 (b : Int)).toNat : Nat) : Int) = ((a ^^^ b : Nat) : Int) := by
  have := Nat.xor_lt_two_pow (n := 32) (show a < 2 ^ 32 by omega) (show b < 2 ^ 32 by omega)
  rw [BitVec.ofInt_natCast, BitVec.ofInt_natCast, BitVec.toNat_xor, BitVec.toNat_ofNat, BitVec.toNat_ofNat, Nat.mod_eq_of_lt (by omega), Nat.mod_eq_of_lt (by omega), IntKind.wrap_u32']
  omega
theorem and32 (a : Nat) (ha : a < 4294967296) : IntKind.wrap .u32 (((BitVec.ofInt 32 (a : Int) &&& BitVec.ofInt 32 1).toNat : Nat) : Int) = ((a % 2 : Nat) : Int) := by
  rw [show (1 : Int) = ((1 : Nat) : Int) from rfl, BitVec.ofInt_natCast, BitVec.ofInt_natCast, BitVec.toNat_and, BitVec.toNat_ofNat, BitVec.toNat_ofNat, Nat.mod_eq_of_lt (by omega), Nat.mod_eq_of_lt (by omega), IntKind.wrap_u32', Nat.and_one_is_mod]
  omega
theorem fdiv2 (a : Nat) : Int.fdiv (a : Int) (2 ^ 1) = ((a / 2 : Nat) : Int) := by
  rw [Int.fdiv_eq_ediv_of_nonneg _ (by decide)]; omega
theorem sum_bits (L : Nat) (a0 : List Int) (i : Int) : ∀ (m n r : Nat) (k : Int), 0 ≤ k → k + m = 8 → m < n → r < 4294967296 → lp_codec_Sum_2 L a0 i n (r : Int) k = some (0, (((stps m r : Nat) : Int), 8))
  | _, 0, _, _, _, _, h, _ => by omega
  | 0, n + 1, r, k, _, hk, _, _ => by
    have : ¬ k < 8 := by omega
    simp only [lp_codec_Sum_2, lb_codec_Sum_2, aN, aB, decide_eq_false this, cond_false, stps]
    rw [show k = 8 by omega]
  | m + 1, n + 1, r, k, h0, hk, hn, hr => by
    have h8 : k < 8 := by omega
    have e1 : w64 (k + 1) = k + 1 := w64_id (by omega) (by omega)
    have ih := sum_bits L a0 i m n (stp r) (k + 1) (by omega) (by omega) (by omega) (stp_lt hr)
    simp only [lp_codec_Sum_2, lb_codec_Sum_2, aN, aB, decide_eq_true h8, cond_true, e1, and32 r hr, fdiv2, stps]
    by_cases ho : r % 2 = 1
    · have e2 : (((r % 2 : Nat) : Int) == 1) = true := by rw [ho]; rfl
      have e3 := xor32 (r / 2) 2197175160 (by omega) (by decide)
      rw [show ((2197175160 : Nat) : Int) = 2197175160 from rfl] at e3
      rw [e2, cond_true, e3, ← ih]
      unfold stp
      rw [if_pos ho]
    · have e2 : (((r % 2 : Nat) : Int) == 1) = false := by rw [show r % 2 = 0 by omega]; rfl
      rw [e2, cond_false, ← ih]
      unfold stp
      rw [if_neg ho]
/-- bytes as numbers -/
def natB (l : List Int) : List Nat := l.map Int.toNat
theorem natB_lt {l : List Int} (h : bytesOK l) : ∀ c ∈ natB l, c < 256 := fun c hc => by
  obtain ⟨x, hx, rfl⟩ := List.mem_map.1 hc
  have := h x hx
  omega
/-- the sum -/
def crcV (l : List Int) : Nat := crcR 4294967295 (natB l) ^^^ 4294967295
theorem crcV_lt {l : List Int} (h : bytesOK l) : crcV l < 4294967296 := Nat.xor_lt_two_pow (n := 32) (crcR_lt _ (by decide) (natB_lt h)) (by decide)
theorem sum_list (L : Nat) (a0 : List Int) (hL : 8 < L) : ∀ (k : List Int) (i r : Nat), bytesOK k → r < 4294967296 → lq_codec_Sum_1 L a0 k i (r : Int) = some (0, (((crcR r (natB k) : Nat) : Int), ((i + k.length : Nat) : Int)))
  | [], i, r, _, _ => rfl
  | x :: k, i, r, hb, hr => by
    obtain ⟨h1, h2⟩ := hb x (by simp)
    obtain ⟨c, rfl⟩ := Int.eq_ofNat_of_zero_le h1
    have hc : c < 256 := by omega
    have e0 : IntKind.wrap .u32 ((c : Nat) : Int) = (c : Int) := by rw [IntKind.wrap_u32']; omega
    have e1 := xor32 r c hr (by omega)
    have hx := byte_lt hr hc
    rw [lq_codec_Sum_1, e0, e1, sum_bits L a0 _ 8 L _ 0 (by omega) (by omega) hL hx]
    simp only [Option.bind_some, selo]
    rw [sum_list L a0 hL k (i + 1) _ (fun y hy => hb y (by simp [hy])) (stps_lt 8 hx), show i + 1 + k.length = i + ((c : Int) :: k).length by simp; omega]
    rfl
theorem sum_end {a : Nat} (ha : a < 4294967296) : w64 (IntKind.wrap .u32 (((BitVec.ofInt 32 (a : Int) ^^^ BitVec.ofInt 32 4294967295).toNat : Nat) : Int)) = ((a ^^^ 4294967295 : Nat) : Int) := by
  have := Nat.xor_lt_two_pow (n := 32) (show a < 2 ^ 32 by omega) (show 4294967295 < 2 ^ 32 by omega)
  have e := xor32 a 4294967295 ha (by decide)
  rw [show ((4294967295 : Nat) : Int) = 4294967295 from rfl] at e
  rw [e, w64_id (by omega) (by omega)]
theorem ok_Sum {L : Nat} (hL : maxLen < L) {l : List Int} (hl : l.length ≤ maxLen) (h : bytesOK l) : F_codec_Sum L l = some ((crcV l : Nat) : Int) := by
  have h8 : 8 < L := by have : 8 ≤ maxLen := by simp [maxLen_eq]
                        omega
  have hc : crcR 4294967295 (natB l) < 4294967296 := crcR_lt _ (by decide) (natB_lt h)
  have e := sum_list L l h8 l 0 4294967295 h (by decide)
  rw [show ((4294967295 : Nat) : Int) = 4294967295 from rfl] at e
  simp only [T_codec_Sum, rx_codec_Sum_2, F_codec_Sum, rx_codec_Sum_2, aN, aB, lq0_codec_Sum_1 L l L hl (by omega), e, Option.bind_some, selo, sum_end hc]
  rfl
/-- the bytes of a sum -/
def tail4 (c : Nat) : List Int := [((c % 256 : Nat) : Int), ((c / 256 % 256 : Nat) : Int), ((c / 65536 % 256 : Nat) : Int), ((c / 16777216 % 256 : Nat) : Int)]
theorem tail_eq {c : Nat} (h : c < 4294967296) : [IntKind.wrap .u8 (c : Int), IntKind.wrap .u8 (Int.fdiv (c : Int) (2 ^ 8)), IntKind.wrap .u8 (Int.fdiv (c : Int) (2 ^ 16)), IntKind.wrap .u8 (Int.fdiv (c : Int) (2 ^ 24))] = tail4 c := by
  rw [Int.fdiv_eq_ediv_of_nonneg _ (by decide), Int.fdiv_eq_ediv_of_nonneg _ (by decide), Int.fdiv_eq_ediv_of_nonneg _ (by decide), IntKind.wrap_u8', IntKind.wrap_u8', IntKind.wrap_u8', IntKind.wrap_u8']
  unfold tail4
  congr 1
end Go.Proofs.YtpdlcbmnmeihoaaGreatDoor.Ev
namespace Go.Proofs.YtpdlcbmnmeihoaaGreatDoor.Ev
open Go An
theorem okN_flat {α : Type} {f : α → List Int} : ∀ {l : List α}, (∀ x ∈ l, okN (f x)) → okN (l.flatMap f)
  | [], _ => okN_nil
  | x :: l, h => by
    rw [List.flatMap_cons]
    exact okN_app.2 ⟨h x (by simp), okN_flat fun y hy => h y (by simp [hy])⟩
theorem len_ok {α : Type} {l : List α} (h : l.length ≤ maxLen) : -9223372036854775808 ≤ (l.length : Int) ∧ (l.length : Int) ≤ 9223372036854775807 := by
  simp only [maxLen_eq] at h; omega
theorem okN_ls {l : List Int} (h : l.length ≤ maxLen ∧ ∀ x ∈ l, okI .i64 x) : okN (lsN l) := okN_cons.2 ⟨len_ok h.1, fun x hx => okI_i64 (h.2 x hx)⟩
theorem okN_cnt {α : Type} {l : List α} {f : α → List Int} (h : l.length ≤ maxLen) (hf : ∀ x ∈ l, okN (f x)) : okN (cnt l f) := okN_app.2 ⟨okN_cons.2 ⟨len_ok h, okN_nil⟩, okN_flat hf⟩
theorem bit_ok (b : Bool) : -9223372036854775808 ≤ bitN b ∧ bitN b ≤ 9223372036854775807 := by cases b <;> decide
theorem w64_ok (n : Int) : -9223372036854775808 ≤ w64 n ∧ w64 n ≤ 9223372036854775807 := by
  have : w64 n = (n + 9223372036854775808) % 18446744073709551616 - 9223372036854775808 := IntKind.wrap_i64 n
  omega
theorem ok_cl {c : api_Claim} (h : Ok_api_Claim c) : okN (clN c) := by
  obtain ⟨h1, h2, h3, h4, _⟩ := h
  simp only [clN, okN_cons]
  exact ⟨okI_i64 h1, okI_i64 h2, okI_i64 h3, okI_i64 h4, bit_ok _, okN_nil⟩
theorem ok_ev {e : api_Event} (h : Ok_api_Event e) : okN (evN e) := by
  obtain ⟨h1, h2, h3, h4, h5, h6, h7, h8, h9⟩ := h
  simp only [evN, okN_app, okN_cons]
  exact ⟨⟨okI_i64 h1, okI_i64 h2, okI_i64 h3, okI_i64 h4, okI_i64 h5, okI_i64 h6, okI_i64 h7, okI_i64 h8, okN_nil⟩, okN_ls h9⟩
theorem ok_pr {p : api_Proc} (h : Ok_api_Proc p) : okN (prN p) := by
  obtain ⟨h1, h2, h3, h4, h5, h6, h7⟩ := h
  simp only [prN, okN_app, okN_cons]
  exact ⟨⟨okI_i64 h1, okI_i64 h2, okI_i64 h3, okN_nil⟩, okN_ls h4, okI_i64 h5, okI_i64 h6, okI_i64 h7, okN_nil⟩
theorem ok_rs {r : api_Resource} (h : Ok_api_Resource r) : okN (rsN r) := by
  obtain ⟨h1, _, h3, h4, h5⟩ := h
  simp only [rsN, okN_app, okN_cons]
  exact ⟨⟨okI_i64 h1, bit_ok _, okN_nil⟩, okN_cnt h3.1 fun x hx => ok_cl (h3.2 x hx), okN_cnt h4.1 fun x hx => ok_cl (h4.2 x hx), okI_i64 h5, okN_nil⟩
theorem ok_so {v : api_Store} (h : Ok_api_Store v) : okN (soN v) := by
  obtain ⟨h1, h2, h3, h4, h5, h6, h7⟩ := h
  simp only [soN, okN_app, okN_cons]
  exact ⟨⟨okI_i64 h1, okI_i64 h2, okN_nil⟩, okN_ls h3, ⟨len_ok h4.1, okN_nil⟩, okN_flat fun x hx => (by
    obtain ⟨k1, k2⟩ := h4.2 x hx
    simp only [rdN, okN_cons]
    exact ⟨okI_i64 k1, okI_i64 k2, okN_nil⟩), okN_ls h5, okI_i64 h6, okI_i64 h7, okN_nil⟩
theorem ok_be {b : api_Belt} (h : Ok_api_Belt b) : okN (beN b) := by
  obtain ⟨h1, h2, h3, h4⟩ := h
  simp only [beN, okN_app, okN_cons]
  exact ⟨⟨okI_i64 h1, okI_i64 h2, len_ok h3.1, okN_nil⟩, okN_flat fun x hx => (by
    obtain ⟨k1, k2, k3⟩ := h3.2 x hx
    simp only [riN, okN_cons]
    exact ⟨okI_i64 k1, okI_i64 k2, okI_i64 k3, okN_nil⟩), okI_i64 h4, okN_nil⟩
theorem ok_st {s : api_State} (h : Ok_api_State s) : okN (stN s) := by
  obtain ⟨h1, h2, h3, h4, h5, h6, h7, h8, h9, h10, h11, h12, h13, h14, h15, h16, h17, h18⟩ := h
  simp only [stN, dyN, obN, saN, okN_app, okN_cons]
  exact ⟨⟨okI_i64 h1, okI_i64 h2, okI_i64 h3, okN_nil⟩, ⟨okN_cnt h4.1 fun x hx => ok_ev (h4.2 x hx), okN_cnt h5.1 fun x hx => ok_pr (h5.2 x hx)⟩, ⟨okI_i64 h6, okN_nil⟩, okN_ls h7,
    ⟨okN_cnt h8.1 fun x hx => ok_rs (h8.2 x hx), okN_cnt h9.1 fun x hx => ok_so (h9.2 x hx), okN_cnt h10.1 fun x hx => ok_be (h10.2 x hx), okN_cnt h11.1 fun x hx => okN_ls (h11.2 x hx)⟩,
    okN_cnt h12.1 fun x hx => (by
      obtain ⟨_, k2, _⟩ := h12.2 x hx
      simp only [srN, okN_cons]
      exact ⟨w64_ok _, w64_ok _, okI_i64 k2, bit_ok _, okN_nil⟩),
    okN_cnt h13.1 fun x hx => (by
      obtain ⟨k1, k2, k3, k4, k5⟩ := h13.2 x hx
      simp only [taN, okN_cons]
      exact ⟨okI_i64 k1, okI_i64 k2, okI_i64 k3, okI_i64 k4, okI_i64 k5, okN_nil⟩),
    okN_cnt h14.1 fun x hx => (by
      obtain ⟨k1, k2, k3, k4, k5, k6⟩ := h14.2 x hx
      simp only [leN, okN_cons]
      exact ⟨okI_i64 k1, okI_i64 k2, okI_i64 k3, okI_i64 k4, okI_i64 k5, okI_i64 k6, okN_nil⟩),
    okN_ls h15, okN_ls h16, okN_ls h17, okI_i64 h18, okN_nil⟩
theorem ok_wo {w : api_World} (h : Ok_api_World w) : okN (woN w) := okN_cnt h.1 fun x hx => ok_st (h.2 x hx)
theorem flat_len {α : Type} {f : α → List Int} {g : α → Nat} (h : ∀ x, (f x).length ≤ g x) : ∀ l : List α, (l.flatMap f).length ≤ sumL g l
  | [] => by simp [sumL]
  | x :: l => by
    rw [List.flatMap_cons, List.length_append, sumL]
    have := h x
    have := flat_len h l
    omega
theorem cnt_len {α : Type} {f : α → List Int} {g : α → Nat} (h : ∀ x, (f x).length ≤ g x) (l : List α) : (cnt l f).length ≤ sumL g l + 1 := by
  have := flat_len h l
  simp only [cnt, List.length_append, List.length_singleton]
  omega
theorem one_len (l : List Int) : (lsN l).length ≤ sumL (fun (z : Int) => 1) l + 1 := by
  have := sumL_len (g := fun (z : Int) => 1) (l := l) (fun _ => Nat.le_refl 1)
  simp only [lsN, List.length_cons]
  omega
theorem st_len (s : api_State) : (stN s).length ≤ bk_api_State s := by
  have e1 := cnt_len (f := evN) (g := bk_api_Event) (fun e => by
    have := one_len e.Args
    simp only [evN, bk_api_Event, List.length_append, List.length_cons, List.length_nil]; omega) s.Agenda
  have e2 := cnt_len (f := prN) (g := bk_api_Proc) (fun p => by
    have := one_len p.Slots
    simp only [prN, bk_api_Proc, List.length_append, List.length_cons, List.length_nil]; omega) s.Procs
  have c1 : ∀ l : List api_Claim, (cnt l clN).length ≤ sumL bk_api_Claim l + 1 := cnt_len fun c => by
    simp only [clN, bk_api_Claim, List.length_cons, List.length_nil]; omega
  have e3 := cnt_len (f := rsN) (g := bk_api_Resource) (fun r => by
    have := c1 r.Holders
    have := c1 r.Queue
    simp only [rsN, bk_api_Resource, List.length_append, List.length_cons, List.length_nil]; omega) s.Resources
  have e4 := cnt_len (f := soN) (g := bk_api_Store) (fun v => by
    have := one_len v.Items
    have := one_len v.Getters
    have := flat_len (f := rdN) (g := bk_api_Ready) (fun y => by simp only [rdN, bk_api_Ready, List.length_cons, List.length_nil]; omega) v.Putters
    simp only [soN, bk_api_Store, List.length_append, List.length_cons, List.length_nil]; omega) s.Stores
  have e5 := cnt_len (f := beN) (g := bk_api_Belt) (fun v => by
    have := flat_len (f := riN) (g := bk_api_Rider) (fun y => by simp only [riN, bk_api_Rider, List.length_cons, List.length_nil]; omega) v.Riders
    simp only [beN, bk_api_Belt, List.length_append, List.length_cons, List.length_nil]; omega) s.Belts
  have e6 := cnt_len (f := lsN) (g := fun (z : List Int) => (sumL (fun (z : Int) => 1) z + 1)) (fun l => one_len l) s.Queues
  have e7 := cnt_len (f := srN) (g := bk_api_Stream) (fun v => by simp only [srN, bk_api_Stream, List.length_cons, List.length_nil]; omega) s.Streams
  have e8 := cnt_len (f := taN) (g := bk_api_Tally) (fun v => by simp only [taN, bk_api_Tally, List.length_cons, List.length_nil]; omega) s.Tallies
  have e9 := cnt_len (f := leN) (g := bk_api_Level) (fun v => by simp only [leN, bk_api_Level, List.length_cons, List.length_nil]; omega) s.Levels
  have f1 := one_len s.Vars
  have f2 := one_len s.Counts
  have f3 := one_len s.Created
  have f4 := one_len s.Ended
  simp only [stN, dyN, obN, saN, bk_api_State, List.length_append, List.length_cons, List.length_nil]
  omega
theorem wo_len (w : api_World) : (woN w).length ≤ bk_api_World w := by
  have := cnt_len st_len w.Sites
  simp only [woN, bk_api_World]
  omega
/-- a world within the bulk is written -/
theorem wo_fits {w : api_World} (h : Ok_api_World w) (hb : bk_api_World w ≤ 1048576) : fits [] (woN w) := ⟨ok_wo h, by
  have := wo_len w
  simp only [List.length_nil]; omega⟩
theorem sm1 (L : Nat) (a : api_State) : ∀ (k : List api_Resource) (i : Nat) (v : Bool), ∃ o, lq_R30_Small_1 L a k i v = some o ∧ (o.1 = 0 ∨ o.1 = 1)
  | [], i, v => ⟨_, rfl, .inr rfl⟩
  | x :: k, i, v => by
    rw [lq_R30_Small_1]
    cases decide (w64 ((x.Holders.length : Int) + (x.Queue.length : Int)) > 60) with
    | true => exact ⟨_, rfl, .inl rfl⟩
    | false => exact sm1 L a k (i + 1) v
theorem sm2 (L : Nat) (a : api_State) : ∀ (k : List api_Store) (i : Nat) (v : Bool), ∃ o, lq_R30_Small_2 L a k i v = some o ∧ (o.1 = 0 ∨ o.1 = 1)
  | [], i, v => ⟨_, rfl, .inr rfl⟩
  | x :: k, i, v => by
    rw [lq_R30_Small_2]
    cases decide (w64 (w64 ((x.Items.length : Int) + (x.Putters.length : Int)) + (x.Getters.length : Int)) > 100) with
    | true => exact ⟨_, rfl, .inl rfl⟩
    | false => exact sm2 L a k (i + 1) v
theorem sm3 (L : Nat) (a : api_State) : ∀ (k : List api_Belt) (i : Nat) (v : Bool), ∃ o, lq_R30_Small_3 L a k i v = some o ∧ (o.1 = 0 ∨ o.1 = 1)
  | [], i, v => ⟨_, rfl, .inr rfl⟩
  | x :: k, i, v => by
    rw [lq_R30_Small_3]
    cases decide ((x.Riders.length : Int) > 60) with
    | true => exact ⟨_, rfl, .inl rfl⟩
    | false => exact sm3 L a k (i + 1) v
theorem sm4 (L : Nat) (a : api_State) : ∀ (k : List (List Int)) (i : Nat) (v : Bool), ∃ o, lq_R30_Small_4 L a k i v = some o ∧ (o.1 = 0 ∨ o.1 = 1)
  | [], i, v => ⟨_, rfl, .inr rfl⟩
  | x :: k, i, v => by
    rw [lq_R30_Small_4]
    cases decide ((x.length : Int) > 60) with
    | true => exact ⟨_, rfl, .inl rfl⟩
    | false => exact sm4 L a k (i + 1) v
theorem ok_Small {L : Nat} (hL : maxLen < L) {s : api_State} (h : Ok_api_State s) : ∃ t, F_R30_Small L s = some t := by
  obtain ⟨_, _, _, _, _, _, _, ⟨h8, _⟩, ⟨h9, _⟩, ⟨h10, _⟩, ⟨h11, _⟩, _⟩ := h
  simp only [T_R30_Small, wx_R30_Small_1, rx_R30_Small_1, wx_R30_Small_2, rx_R30_Small_2, wx_R30_Small_3, rx_R30_Small_3, wx_R30_Small_4, rx_R30_Small_4, F_R30_Small, wx_R30_Small_1, rx_R30_Small_1, wx_R30_Small_2, rx_R30_Small_2, wx_R30_Small_3, rx_R30_Small_3, wx_R30_Small_4, rx_R30_Small_4, aN, aB]
  generalize (bif _ then true else _ : Bool) = c
  cases c with
  | true => exact ⟨_, rfl⟩
  | false =>
    obtain ⟨o1, e1, q1⟩ := sm1 L s s.Resources 0 false
    rw [cond_false, lq0_R30_Small_1 L s L h8 (by omega), e1, Option.bind_some]
    rcases q1 with q1 | q1 <;> rw [q1] <;> simp only [selo]
    · exact ⟨_, rfl⟩
    obtain ⟨o2, e2, q2⟩ := sm2 L s s.Stores 0 o1.2.1
    rw [lq0_R30_Small_2 L s L h9 (by omega), e2, Option.bind_some]
    rcases q2 with q2 | q2 <;> rw [q2] <;> simp only [selo]
    · exact ⟨_, rfl⟩
    obtain ⟨o3, e3, q3⟩ := sm3 L s s.Belts 0 o2.2.1
    rw [lq0_R30_Small_3 L s L h10 (by omega), e3, Option.bind_some]
    rcases q3 with q3 | q3 <;> rw [q3] <;> simp only [selo]
    · exact ⟨_, rfl⟩
    obtain ⟨o4, e4, q4⟩ := sm4 L s s.Queues 0 o3.2.1
    rw [lq0_R30_Small_4 L s L h11 (by omega), e4, Option.bind_some]
    rcases q4 with q4 | q4 <;> rw [q4] <;> simp only [selo]
    · exact ⟨_, rfl⟩
    exact ⟨_, rfl⟩
end Go.Proofs.YtpdlcbmnmeihoaaGreatDoor.Ev
namespace Go.Proofs.YtpdlcbmnmeihoaaGreatDoor.Ev
open Go An
/-- bytes with their sum -/
def sealB (l : List Int) : List Int := l ++ tail4 (crcV l)
theorem ok_Save {L : Nat} (hL : maxLen < L) {w : api_World} (h : Ok_api_World w) (hf : fits [] (woN w)) : F_checkpoint_Save L w = some (if w.Sites.length ≤ 16 then (sealB (bs (woN w)), 0) else ([], 2)) := by
  have hl := bs_len (woN w)
  have h1 := hf.2
  have hm : 1099511627800 ≤ maxLen := by simp only [maxLen_eq]; omega
  have hb := bs_byte hf.1
  have hc := crcV_lt hb
  simp only [List.length_nil] at h1
  have e1 : IntKind.wrap .u32 ((crcV (bs (woN w)) : Nat) : Int) = ((crcV (bs (woN w)) : Nat) : Int) := by rw [IntKind.wrap_u32']; omega
  simp only [T_checkpoint_Save, F_checkpoint_Save, aN, aB]
  by_cases hs : w.Sites.length ≤ 16
  · rw [if_pos hs, decide_eq_false (show ¬ ((w.Sites.length : Int) > 16) by omega), cond_false]
    rw [show (⟨w.Sites⟩ : api_World) = w from rfl, ok_body hL w h hf]
    simp only [Option.bind_some, ok_Sum hL (show (bs (woN w)).length ≤ maxLen by omega) hb, e1, tail_eq hc]
    rw [if_pos (show ((bs (woN w)).length + (tail4 (crcV (bs (woN w)))).length) * 1 ≤ 140737488355328 by simp only [tail4, List.length_cons, List.length_nil]; omega), if_pos (show (bs (woN w)).length + (tail4 (crcV (bs (woN w)))).length ≤ maxLen by simp only [tail4, List.length_cons, List.length_nil]; omega)]
    rfl
  · rw [if_neg hs, decide_eq_true (show ((w.Sites.length : Int) > 16) by omega), cond_true]
end Go.Proofs.YtpdlcbmnmeihoaaGreatDoor.Ev
namespace Go.Proofs.YtpdlcbmnmeihoaaGreatDoor.Ev
open Go An
theorem nodes_loop (rec : api_Expr → Int → Option Int) (L : Nat) (e : api_Expr) (m : Int) (h : ∀ (x : api_Expr) (v : Int), 0 ≤ v → v ≤ m → ∃ r, rec x v = some r ∧ -1 ≤ r ∧ r < v) :
    ∀ (n : Nat) (v i : Int), -1 ≤ v → v ≤ m → v + 2 ≤ n → 0 ≤ i → i + v ≤ 10000 → ∃ o, lp_R30_nodes_1 rec L e n v i = some (0, o) ∧ -1 ≤ o.1 ∧ o.1 ≤ v
  | 0, v, i, h1, _, h3, _, _ => by omega
  | n + 1, v, i, h1, h2, h3, h4, h5 => by
    simp only [lp_R30_nodes_1, lb_R30_nodes_1, aN, aB]
    by_cases c1 : i < (e.Kids.length : Int)
    · rw [decide_eq_true c1, cond_true]
      by_cases c2 : v ≥ 0
      · rw [decide_eq_true c2, cond_true, if_pos h4, if_pos c1]
        obtain ⟨r, e1, r1, r2⟩ := h (api_Expr.cp (e.Kids.getD (Int.toNat i) default)) v c2 h2
        rw [e1, Option.bind_some, w64_id (by omega) (by omega)]
        obtain ⟨o, e2, o1, o2⟩ := nodes_loop rec L e m h n r (i + 1) r1 (by omega) (by omega) (by omega) (by omega)
        exact ⟨o, e2, o1, by omega⟩
      · rw [decide_eq_false c2, cond_false]
        exact ⟨_, rfl, h1, Int.le_refl _⟩
    · rw [decide_eq_false c1, cond_false, cond_false]
      exact ⟨_, rfl, h1, Int.le_refl _⟩
theorem nodes_tot : ∀ (f : Nat) (e : api_Expr) (a : Int), 0 ≤ a → a + 1 ≤ f → a ≤ 1000 → ∃ r, F_R30_nodes (f + 1) e a = some r ∧ -1 ≤ r ∧ r < a
  | 0, e, a, h0, h1, h2 => by omega
  | f + 1, e, a, h0, h1, h2 => by
    obtain ⟨o, e1, o1, o2⟩ := nodes_loop (F_R30_nodes (f + 1)) (f + 1) e (a - 1) (fun x v hv hm => nodes_tot f x v hv (by omega) (by omega)) (f + 1) (a - 1) 0 (by omega) (by omega) (by omega) (by omega) (by omega)
    refine ⟨o.1, ?_, o1, by omega⟩
    rw [F_R30_nodes]
    simp only [B_R30_nodes, T_R30_nodes, rx_R30_nodes_1, aN, aB, w64_id (show -9223372036854775808 ≤ a - 1 by omega) (show a - 1 ≤ 9223372036854775807 by omega), e1, Option.bind_some, selo]
theorem ok_nodes {L : Nat} (hL : maxLen < L) (e : api_Expr) : ∃ r, F_R30_nodes L e 60 = some r := by
  have hm : 100 ≤ maxLen := by simp only [maxLen_eq]; omega
  obtain ⟨f, rfl⟩ : ∃ f, L = f + 1 := ⟨L - 1, by omega⟩
  obtain ⟨r, h, _⟩ := nodes_tot f e 60 (by omega) (by omega) (by omega)
  exact ⟨r, h⟩
theorem light_in {L : Nat} (hL : maxLen < L) (v1 : Int) (a : api_Code) (len : Nat)
    (hlen : ([(api_Expr.cp ((a.Instrs.getD (Int.toNat v1) default).E)), (api_Expr.cp ((a.Instrs.getD (Int.toNat v1) default).F))] ++ (a.Instrs.getD (Int.toNat v1) default).Args).length = len) :
    ∀ (n : Nat) (i : Int) (v : Bool), 0 ≤ i → i ≤ len → (12 < len ∨ (len : Int) + 1 ≤ n + i) → 1 ≤ n → ∃ o, lp_R30_light_2 L v1 a n v i = some o ∧ (o.1 = 0 ∨ o.1 = 1)
  | 0, i, v, _, _, _, h => by omega
  | n + 1, i, v, h0, h1, h2, _ => by
    simp only [lp_R30_light_2, lb_R30_light_2, aN, aB, hlen]
    by_cases c1 : i < (len : Int)
    · rw [decide_eq_true c1, cond_true]
      by_cases c2 : (len : Int) > 12
      · rw [decide_eq_true c2, cond_true]
        exact ⟨_, rfl, .inl rfl⟩
      · rw [decide_eq_false c2, cond_false, if_pos h0, if_pos c1]
        obtain ⟨r, e1⟩ := ok_nodes hL (api_Expr.cp (([(api_Expr.cp ((a.Instrs.getD (Int.toNat v1) default).E)), (api_Expr.cp ((a.Instrs.getD (Int.toNat v1) default).F))] ++ (a.Instrs.getD (Int.toNat v1) default).Args).getD (Int.toNat i) default))
        rw [e1]
        simp only [Option.bind_some]
        cases decide (r < 0) with
        | true => exact ⟨_, rfl, .inl rfl⟩
        | false =>
          rw [cond_false, w64_id (by omega) (by omega)]
          exact light_in hL v1 a len hlen n (i + 1) v (by omega) (by omega) (.inr (by omega)) (by omega)
    · rw [decide_eq_false c1, cond_false]
      exact ⟨_, rfl, .inr rfl⟩
/-- few arguments everywhere -/
def gdC (c : api_Code) : Prop := c.Instrs.length ≤ maxLen ∧ ∀ x ∈ c.Instrs, x.Args.length ≤ 1048576
theorem light_out {L : Nat} (hL : maxLen < L) (a : api_Code) : ∀ (k : List api_Instr) (i : Nat) (v : Bool), (∀ x ∈ k, x.Args.length ≤ 1048576) → ∃ o, lq_R30_light_1 L a k i v = some o ∧ (o.1 = 0 ∨ o.1 = 1)
  | [], i, v, _ => ⟨_, rfl, .inr rfl⟩
  | x :: k, i, v, h => by
    have hx := h x (by simp)
    have hm : 1048580 ≤ maxLen := by simp only [maxLen_eq]; omega
    rw [lq_R30_light_1, if_pos (show ([x.E, x.F].length + x.Args.length) * 56 ≤ 140737488355328 by simp only [List.length_cons, List.length_nil]; omega), if_pos (show [x.E, x.F].length + x.Args.length ≤ maxLen by simp only [List.length_cons, List.length_nil]; omega)]
    obtain ⟨o, e, q⟩ := light_in hL (i : Int) a _ rfl L 0 v (by omega) (by omega) (by
      by_cases c : 12 < ([(api_Expr.cp ((a.Instrs.getD (Int.toNat (i : Int)) default).E)), (api_Expr.cp ((a.Instrs.getD (Int.toNat (i : Int)) default).F))] ++ (a.Instrs.getD (Int.toNat (i : Int)) default).Args).length
      · exact .inl c
      · exact .inr (by omega)) (by omega)
    rw [e, Option.bind_some]
    rcases q with q | q <;> rw [q] <;> simp only [selo]
    · exact ⟨_, rfl, .inl rfl⟩
    · exact light_out hL a k (i + 1) _ fun y hy => h y (by simp [hy])
theorem ok_light {L : Nat} (hL : maxLen < L) {a : api_Code} (h : gdC a) : ∃ t, F_R30_light L a = some t := by
  obtain ⟨o, e, q⟩ := light_out hL a a.Instrs 0 false h.2
  simp only [T_R30_light, rx_R30_light_2, F_R30_light, aN, aB, lq0_R30_light_1 L a L h.1 (by have := h.1; omega), e, Option.bind_some]
  rcases q with q | q <;> rw [q] <;> simp only [selo]
  · exact ⟨_, rfl⟩
  · exact ⟨_, rfl⟩
theorem sc2 {L : Nat} (hL : maxLen < L) (v1 : Int) (a : api_Program) : ∀ (k : List api_Code) (i : Nat) (v : Bool), i + k.length ≤ ((a.Sites.getD (Int.toNat v1) default).Routines).length → (∀ c ∈ k, gdC c) → ∃ o, lq_R30_SmallCode_2 L v1 a k i v = some o ∧ (o.1 = 0 ∨ o.1 = 1)
  | [], i, v, _, _ => ⟨_, rfl, .inr rfl⟩
  | x :: k, i, v, h, hg => by
    have h1 : (i : Int) < ((((a.Sites.getD (Int.toNat v1) default).Routines).length : Nat) : Int) := by simp only [List.length_cons] at h; omega
    obtain ⟨r, er⟩ := ok_light hL (hg x (by simp))
    rw [lq_R30_SmallCode_2]
    cases decide ((x.Instrs.length : Int) > 80) with
    | true => exact ⟨_, rfl, .inl rfl⟩
    | false =>
      rw [cond_false, if_pos (show (0 : Int) ≤ (i : Int) by omega), if_pos h1, er]
      simp only [Option.bind_some]
      cases r with
      | true => exact sc2 hL v1 a k (i + 1) v (by simp only [List.length_cons] at h; omega) fun c hc => hg c (by simp [hc])
      | false => exact ⟨_, rfl, .inl rfl⟩
def gdP (p : api_Program) : Prop := p.Sites.length ≤ maxLen ∧ ∀ s ∈ p.Sites, s.Routines.length ≤ maxLen ∧ ∀ c ∈ s.Routines, gdC c
theorem sc1 {L : Nat} (hL : maxLen < L) (a : api_Program) (hg : gdP a) : ∀ (k : List api_SiteCode) (i : Nat) (v : Bool), a.Sites.drop i = k → ∃ o, lq_R30_SmallCode_1 L a k i v = some o ∧ (o.1 = 0 ∨ o.1 = 1)
  | [], i, v, _ => ⟨_, rfl, .inr rfl⟩
  | x :: k, i, v, hd => by
    obtain ⟨e1, e2, e3⟩ := drop_getD hd
    rw [← toN i] at e1
    have hx := hg.2 x e3
    rw [lq_R30_SmallCode_1]
    dsimp only
    generalize (bif _ then true else decide ((x.Decl.Laws.length : Int) > 6)) = c
    cases c with
    | true => exact ⟨_, rfl, .inl rfl⟩
    | false =>
      obtain ⟨o, eo, q⟩ := sc2 hL (i : Int) a x.Routines 0 v (by rw [e1]; omega) hx.2
      rw [cond_false, lq0_R30_SmallCode_2 L (i : Int) a L (by rw [e1]; exact hx.1) (by rw [e1]; omega), e1, eo, Option.bind_some]
      rcases q with q | q <;> rw [q] <;> simp only [selo]
      · exact ⟨_, rfl, .inl rfl⟩
      · exact sc1 hL a hg k (i + 1) _ e2
theorem ok_SmallCode {L : Nat} (hL : maxLen < L) {a : api_Program} (h : gdP a) : ∃ t, F_R30_SmallCode L a = some t := by
  obtain ⟨o, e, q⟩ := sc1 hL a h a.Sites 0 false rfl
  simp only [T_R30_SmallCode, wx_R30_SmallCode_2, rx_R30_SmallCode_2, F_R30_SmallCode, aN, aB]
  generalize (bif _ then true else decide ((a.Links.length : Int) > 12)) = c
  cases c with
  | true => exact ⟨_, rfl⟩
  | false =>
    rw [cond_false, lq0_R30_SmallCode_1 L a L h.1 (by have := h.1; omega), e, Option.bind_some]
    rcases q with q | q <;> rw [q] <;> simp only [selo]
    · exact ⟨_, rfl⟩
    · exact ⟨_, rfl⟩
theorem rs1 {L : Nat} (hL : maxLen < L) {w : api_World} (h : Ok_api_World w) : ∀ (n : Nat) (i : Int) (v : Bool), 0 ≤ i → i ≤ 5 → 6 ≤ n + i → ∃ o, lp_R32_Small_1 L w n v i = some o ∧ ((o.1 = 0 ∧ o.2.1 = false) ∨ o.1 = 1)
  | 0, i, v, h0, h5, hn => by omega
  | n + 1, i, v, h0, h5, hn => by
    simp only [lp_R32_Small_1, lb_R32_Small_1, aN, aB]
    by_cases c1 : i < (w.Sites.length : Int)
    · rw [decide_eq_true c1, cond_true]
      by_cases c2 : i < 5
      · rw [decide_eq_true c2, cond_true, if_pos h0, if_pos c1]
        have hi : i.toNat < w.Sites.length := by omega
        obtain ⟨t, et⟩ := ok_Small hL (h.2 (w.Sites.getD (Int.toNat i) default) (by rw [getD_eq _ _ hi]; exact List.getElem_mem _))
        rw [et, Option.bind_some]
        cases t with
        | false => exact ⟨_, rfl, .inl ⟨rfl, rfl⟩⟩
        | true =>
          rw [show (!true) = false from rfl, cond_false, w64_id (by omega) (by omega)]
          exact rs1 hL h n (i + 1) v (by omega) (by omega) (by omega)
      · rw [decide_eq_false c2, cond_false]
        exact ⟨_, rfl, .inr rfl⟩
    · rw [decide_eq_false c1, cond_false, cond_false]
      exact ⟨_, rfl, .inr rfl⟩
theorem ok_few {L : Nat} (hL : maxLen < L) {a : api_Program} (h : gdP a) {w : api_World} (hw : Ok_api_World w) : ∃ t, F_L45_few L a w = some t ∧ (t = true → w.Sites.length ≤ 4) := by
  obtain ⟨t, et⟩ := ok_SmallCode hL h
  have hm : 100 ≤ maxLen := by simp only [maxLen_eq]; omega
  obtain ⟨o, eo, q⟩ := rs1 hL hw L 0 false (by omega) (by omega) (by omega)
  have es : ∃ u, F_R32_Small L w = some u ∧ (u = true → w.Sites.length ≤ 4) := by
    simp only [T_R32_Small, rx_R32_Small_1, F_R32_Small, aN, aB, eo, Option.bind_some]
    rcases q with ⟨q, q1⟩ | q <;> rw [q] <;> simp only [selo]
    · exact ⟨_, rfl, fun hu => by rw [q1] at hu; cases hu⟩
    · exact ⟨_, rfl, fun hu => by have := of_decide_eq_true hu; omega⟩
  obtain ⟨u, eu, hu⟩ := es
  simp only [T_L45_few, F_L45_few, aN, aB, show (⟨a.Name, a.Sites, a.Links⟩ : api_Program) = a from rfl, show (⟨w.Sites⟩ : api_World) = w from rfl, et, eu, Option.bind_some]
  cases t with
  | true => exact ⟨u, rfl, hu⟩
  | false => exact ⟨false, rfl, fun h => by cases h⟩
theorem gd_of {p : api_Program} (h : Ok_api_Program p) (hb : bk_api_Program p ≤ 1048576) : gdP p := by
  refine ⟨h.2.1.1, fun s hs => ?_⟩
  have h1 := sumL_mem (g := bk_api_SiteCode) hs
  have b1 : bk_api_SiteCode s ≤ 1048576 := by unfold bk_api_Program at hb; omega
  have ks := h.2.1.2 s hs
  refine ⟨ks.2.1, fun c hc => ?_⟩
  have h2 := sumL_mem (g := bk_api_Code) hc
  have b2 : bk_api_Code c ≤ 1048576 := by unfold bk_api_SiteCode at b1; omega
  have kc := ks.2.2 c hc
  refine ⟨kc.2.2.2.1, fun x hx => ?_⟩
  have h3 := sumL_mem (g := bk_api_Instr) hx
  have b3 : bk_api_Instr x ≤ 1048576 := by unfold bk_api_Code at b2; omega
  have h4 := sumL_len (g := bk_api_Expr) (l := x.Args) (fun y => by rw [bk_api_Expr_eq]; omega)
  unfold bk_api_Instr at b3
  omega
end Go.Proofs.YtpdlcbmnmeihoaaGreatDoor.Ev
namespace Go.Proofs.YtpdlcbmnmeihoaaGreatDoor.Ev
open Go An
theorem tail4_inj {c d : Nat} (hc : c < 4294967296) (hd : d < 4294967296) (h : tail4 c = tail4 d) : c = d := by
  simp only [tail4, List.cons.injEq] at h
  omega
theorem tail4_byte (c : Nat) : bytesOK (tail4 c) := fun x hx => by
  simp only [tail4, List.mem_cons, List.not_mem_nil, or_false] at hx
  omega
theorem seal_byte {l : List Int} (h : bytesOK l) : bytesOK (sealB l) := fun x hx => by
  rcases List.mem_append.1 hx with hx | hx
  · exact h x hx
  · exact tail4_byte _ x hx
theorem seal_len (l : List Int) : (sealB l).length = l.length + 4 := by simp [sealB, tail4]
theorem set_byte {l : List Int} {x : Int} {k : Nat} (h : bytesOK l) (hx : 0 ≤ x ∧ x < 256) : bytesOK (l.set k x) := fun y hy => by
  rcases List.mem_or_eq_of_mem_set hy with hy | rfl
  · exact h y hy
  · exact hx
theorem crcV_break {l : List Int} {x : Int} {k : Nat} (h : bytesOK l) (hx : 0 ≤ x ∧ x < 256) (hk : k < l.length) (hne : x ≠ l[k]) : crcV (l.set k x) ≠ crcV l := by
  intro e
  have e1 := xor_left_inj e
  have hy := h l[k] (List.getElem_mem hk)
  have s1 := List.set_eq_take_append_cons_drop (l := l) (i := k) (a := x)
  have s2 := List.set_eq_take_append_cons_drop (l := l) (i := k) (a := l[k])
  rw [List.set_getElem_self] at s2
  rw [if_pos hk] at s1 s2
  have t1 : natB (l.set k x) = natB (l.take k) ++ x.toNat :: natB (l.drop (k + 1)) := by rw [s1]; simp [natB]
  have t2 : natB l = natB (l.take k) ++ (l[k]).toNat :: natB (l.drop (k + 1)) := by
    exact (congrArg natB s2).trans (by simp only [natB, List.map_append, List.map_cons])
  rw [t1, t2] at e1
  exact crcR_break (natB_lt fun z hz => h z (List.mem_of_mem_take hz)) (natB_lt fun z hz => h z (List.mem_of_mem_drop hz)) (show x.toNat < 256 by omega) (show (l[k]).toNat < 256 by omega) (r := 4294967295) (by decide) (show x.toNat ≠ (l[k]).toNat by omega) e1
/-- one byte changed: not sealed any more -/
theorem seal_break {l c : List Int} {x : Int} {k : Nat} (h : bytesOK l) (hx : 0 ≤ x ∧ x < 256) (hk : k < (sealB l).length) (hne : x ≠ (sealB l)[k]) (hc : c = (sealB l).set k x) : c.take (c.length - 4) ++ tail4 (crcV (c.take (c.length - 4))) ≠ c := by
  subst hc
  rw [List.length_set, seal_len, show l.length + 4 - 4 = l.length by omega]
  have hb := set_byte (k := k) h hx
  by_cases c1 : k < l.length
  · have e1 : (sealB l).set k x = l.set k x ++ tail4 (crcV l) := by unfold sealB; rw [List.set_append_left _ _ c1]
    rw [e1, List.take_left' (by rw [List.length_set])]
    intro e
    have e2 := tail4_inj (crcV_lt hb) (crcV_lt h) (List.append_cancel_left e)
    refine crcV_break h hx c1 ?_ e2
    intro e3
    apply hne
    rw [e3]
    simp only [sealB, List.getElem_append_left c1]
  · have e1 : (sealB l).set k x = l ++ (tail4 (crcV l)).set (k - l.length) x := by unfold sealB; rw [List.set_append_right _ _ (by omega)]
    rw [e1, List.take_left' rfl]
    intro e
    have e2 := List.append_cancel_left e
    have hj : k - l.length < (tail4 (crcV l)).length := by rw [seal_len] at hk; simp only [tail4, List.length_cons, List.length_nil]; omega
    apply hne
    have e3 : (tail4 (crcV l))[k - l.length]'hj = x := by
      have := congrArg (fun z => z[k - l.length]?) e2
      simp only [List.getElem?_set_self hj, List.getElem?_eq_getElem hj] at this
      exact Option.some.inj this
    rw [← e3]
    simp only [sealB]
    rw [List.getElem_append_right (by omega)]
theorem xor8 (a b : Nat) (ha : a < 256) (hb : b < 256) : IntKind.wrap .u8 (((BitVec.ofInt 8 (a : Int) ^^^ BitVec.ofInt 8 (b : Int)).toNat : Nat) : Int) = ((a ^^^ b : Nat) : Int) := by
  have := Nat.xor_lt_two_pow (n := 8) (show a < 2 ^ 8 by omega) (show b < 2 ^ 8 by omega)
  rw [BitVec.ofInt_natCast, BitVec.ofInt_natCast, BitVec.toNat_xor, BitVec.toNat_ofNat, BitVec.toNat_ofNat, Nat.mod_eq_of_lt (by omega), Nat.mod_eq_of_lt (by omega), IntKind.wrap_u8']
  omega
theorem xor_other {a b : Int} (ha : 0 ≤ a ∧ a < 256) (hb : 0 ≤ b ∧ b < 256) (hn : b ≠ 0) : (0 ≤ IntKind.wrap .u8 (((BitVec.ofInt 8 a ^^^ BitVec.ofInt 8 b).toNat : Nat) : Int) ∧ IntKind.wrap .u8 (((BitVec.ofInt 8 a ^^^ BitVec.ofInt 8 b).toNat : Nat) : Int) < 256) ∧ IntKind.wrap .u8 (((BitVec.ofInt 8 a ^^^ BitVec.ofInt 8 b).toNat : Nat) : Int) ≠ a := by
  obtain ⟨n, rfl⟩ := Int.eq_ofNat_of_zero_le ha.1
  obtain ⟨m, rfl⟩ := Int.eq_ofNat_of_zero_le hb.1
  rw [xor8 n m (by omega) (by omega)]
  have := Nat.xor_lt_two_pow (n := 8) (show n < 2 ^ 8 by omega) (show m < 2 ^ 8 by omega)
  refine ⟨by omega, fun e => ?_⟩
  have e1 : n ^^^ m = n := by omega
  have := congrArg (n ^^^ ·) e1
  simp only [← Nat.xor_assoc, Nat.xor_self, Nat.zero_xor] at this
  omega
theorem str_ne {a b : List Int} (ha : bytesOK a) (hb : bytesOK b) (h : a ≠ b) : ((strOfNums a).toList == (strOfNums b).toList) = false := by
  rw [toList_data, toList_data, strOfNums_data, strOfNums_data]
  refine beq_eq_false_iff_ne.2 fun e => h ?_
  have : ∀ (a b : List Int), bytesOK a → bytesOK b → (a.map fun n => UInt8.ofNat n.toNat) = (b.map fun n => UInt8.ofNat n.toNat) → a = b := by
    intro a
    induction a with
    | nil => intro b _ _ e; cases b with | nil => rfl | cons y b => simp at e
    | cons x a ih =>
      intro b ha hb e
      cases b with
      | nil => simp at e
      | cons y b =>
        simp only [List.map_cons, List.cons.injEq] at e
        have hx := ha x (by simp)
        have hy := hb y (by simp)
        have e1 := congrArg UInt8.toNat e.1
        simp only [UInt8.toNat_ofNat'] at e1
        rw [ih b (fun z hz => ha z (by simp [hz])) (fun z hz => hb z (by simp [hz])) e.2, show x = y by omega]
  exact this a b ha hb e
/-- a broken checkpoint is refused for its sum -/
theorem ok_broken {L : Nat} (hL : maxLen < L) (p : api_Program) {c : List Int} (h4 : 4 ≤ c.length) (hm : c.length ≤ 1099511627776) (hb : bytesOK c) (hn : c.take (c.length - 4) ++ tail4 (crcV (c.take (c.length - 4))) ≠ c) : F_checkpoint_Load L p c = some (⟨[]⟩, 14) := by
  have hmm : 1099511627800 ≤ maxLen := by simp only [maxLen_eq]; omega
  have e1 : w64 ((c.length : Int) - 4) = ((c.length - 4 : Nat) : Int) := by rw [w64_id (by omega) (by omega)]; omega
  have hl : (c.take (c.length - 4)).length = c.length - 4 := by rw [List.length_take]; omega
  have hb' : bytesOK (c.take (c.length - 4)) := fun z hz => hb z (List.mem_of_mem_take hz)
  have hc := crcV_lt hb'
  have e2 : IntKind.wrap .u32 ((crcV (c.take (c.length - 4)) : Nat) : Int) = ((crcV (c.take (c.length - 4)) : Nat) : Int) := by rw [IntKind.wrap_u32']; omega
  have hb2 : bytesOK (c.take (c.length - 4) ++ tail4 (crcV (c.take (c.length - 4)))) := fun z hz => by
    rcases List.mem_append.1 hz with hz | hz
    · exact hb' z hz
    · exact tail4_byte _ z hz
  have ht : (c.take (c.length - 4)).take (c.length - 4) = c.take (c.length - 4) := by rw [List.take_take, Nat.min_self]
  simp only [T_checkpoint_Load, wx_checkpoint_Load_1, F_checkpoint_Load, aN, aB, e1, toN, List.drop_zero, hl, ht]
  rw [decide_eq_false (show ¬ ((c.length : Int) < 4) by omega), cond_false]
  rw [if_pos (show (0 : Int) ≤ 0 by omega), if_pos (show (0 : Int) ≤ ((c.length - 4 : Nat) : Int) by omega), if_pos (show ((c.length - 4 : Nat) : Int) ≤ (c.length : Int) by omega), if_pos (show (c.length : Int) ≤ (c.length : Int) by omega)]
  rw [if_pos (show (0 : Int) ≤ 0 by omega), if_pos (show (0 : Int) ≤ ((c.length - 4 : Nat) : Int) by omega), if_pos (show ((c.length - 4 : Nat) : Int) ≤ ((c.length - 4 : Nat) : Int) by omega), if_pos (show ((c.length - 4 : Nat) : Int) ≤ ((c.length - 4 : Nat) : Int) by omega), if_pos (show ((c.length - 4 : Nat) : Int) ≤ ((c.length - 4 : Nat) : Int) by omega)]
  rw [ok_Sum hL (by omega) hb']
  simp only [Option.bind_some, e2, tail_eq hc]
  rw [if_pos (show (c.length - 4 + (tail4 (crcV (c.take (c.length - 4)))).length) * 1 ≤ 140737488355328 by simp only [tail4, List.length_cons, List.length_nil]; omega), if_pos (show c.length - 4 + (tail4 (crcV (c.take (c.length - 4)))).length ≤ maxLen by simp only [tail4, List.length_cons, List.length_nil]; omega)]
  simp only [T_bytes_Equal, F_bytes_Equal, aN, str_ne hb2 hb hn, Option.bind_some, Bool.not_false, cond_true]
theorem okI_u8 {x : Int} (h : okI .u8 x) : 0 ≤ x ∧ x < 256 := by
  unfold okI Lit.wf at h
  simp only [Bool.and_eq_true, decide_eq_true_eq] at h
  have e1 : IntKind.u8.min = 0 := by decide +kernel
  have e2 : IntKind.u8.max = 255 := by decide +kernel
  rw [e1, e2] at h
  omega
theorem law_CheckpointBreaks (p : api_Program) (w : api_World) (f : Arr3_Int) (hp : Ok_api_Program p) (hw : Ok_api_World w) (hf : Ok_Arr3_Int f) (hb : bk_api_Program p + bk_api_World w + bk_Arr3_Int f ≤ 1048576) : ∃ L, F_L45_CheckpointBreaks L p w f = some true := by
  refine ⟨maxLen + 1, ?_⟩
  have hL : maxLen < maxLen + 1 := by omega
  generalize maxLen + 1 = L at hL ⊢
  have ff := wo_fits hw (show bk_api_World w ≤ 1048576 by omega)
  have hmm : 1099511627800 ≤ maxLen := by simp only [maxLen_eq]; omega
  obtain ⟨t, et, ht⟩ := ok_few hL (gd_of hp (by omega)) hw
  obtain ⟨f0, f1, f2⟩ := hf
  have f0 := okI_u8 f0
  have f1 := okI_u8 f1
  have f2 := okI_u8 f2
  simp only [T_L45_CheckpointBreaks, F_L45_CheckpointBreaks, aN, aB, show (⟨p.Name, p.Sites, p.Links⟩ : api_Program) = p from rfl, show (⟨w.Sites⟩ : api_World) = w from rfl, et, Option.bind_some]
  cases t with
  | false => rfl
  | true =>
    have h4 := ht rfl
    by_cases c0 : f.a2 = 0
    · rw [show (f.a2 == 0) = true by rw [c0]; rfl]; rfl
    · have e0 : (f.a2 == 0) = false := beq_eq_false_iff_ne.2 c0
      have hby := bs_byte ff.1
      have hln := bs_len (woN w)
      have hl1 := ff.2
      simp only [List.length_nil] at hl1
      have hpos : 1 ≤ (bs (woN w)).length := by
        unfold woN cnt
        rw [List.singleton_append, bs_cons, List.length_append]
        have : 1 ≤ (eB (w.Sites.length : Int)).length := (eB_len _).1
        omega
      have hsl := seal_len (bs (woN w))
      have hsb := seal_byte hby
      rw [e0, ok_Save hL hw ff, if_pos (show w.Sites.length ≤ 16 by omega)]
      simp only [Bool.not_true, cond_false, Option.bind_some]
      generalize hS : sealB (bs (woN w)) = q at hsl hsb
      rw [show ((0 : Int) != 0) = false from rfl, cond_false, decide_eq_false (show ¬ ((q.length : Int) < 5) by omega), cond_false]
      rw [show Nat.beq q.length 0 = false by cases h : Nat.beq q.length 0 with | false => rfl | true => have := Nat.eq_of_beq_eq_true h; omega, cond_false, if_pos (show q.length * 1 ≤ 140737488355328 by omega), if_pos (show q.length ≤ maxLen by omega), decide_eq_false (show ¬ ((q.length : Int) = 0) by omega), Bool.not_false, cond_true]
      have ei : w64 (w64 (256 * w64 f.a0) + w64 f.a1) = 256 * f.a0 + f.a1 := by
        rw [w64_id (n := f.a0) (by omega) (by omega), w64_id (n := f.a1) (by omega) (by omega), w64_id (n := 256 * f.a0) (by omega) (by omega), w64_id (by omega) (by omega)]
      rw [ei]
      obtain ⟨k, hk, hk2⟩ : ∃ k : Nat, Int.tmod (256 * f.a0 + f.a1) (q.length : Int) = (k : Int) ∧ k < q.length := by
        have g1 : 0 ≤ 256 * f.a0 + f.a1 := by omega
        rw [Int.tmod_eq_emod_of_nonneg g1]
        have g2 := Int.emod_nonneg (256 * f.a0 + f.a1) (show (q.length : Int) ≠ 0 by omega)
        have g3 := Int.emod_lt_of_pos (256 * f.a0 + f.a1) (show (0 : Int) < (q.length : Int) by omega)
        exact ⟨(((256 * f.a0 + f.a1) % (q.length : Int))).toNat, by omega, by omega⟩
      rw [hk, toN, if_pos (show (0 : Int) ≤ (k : Int) by omega), if_pos (show (k : Int) < (q.length : Int) by omega), getD_eq _ _ hk2]
      obtain ⟨x1, x2⟩ := xor_other (hsb _ (List.getElem_mem hk2)) f2 c0
      generalize hX : IntKind.wrap .u8 (((BitVec.ofInt 8 q[k] ^^^ BitVec.ofInt 8 f.a2).toNat : Nat) : Int) = x at x1 x2 ⊢
      have hset := seal_break (c := q.set k x) hby x1 (by rw [hS]; exact hk2) (by simp only [hS]; exact x2) (by rw [hS])
      rw [if_pos (show (0 : Int) ≤ (k : Int) by omega), if_pos (show (k : Int) < (q.length : Int) by omega), ok_broken hL p (by rw [List.length_set]; omega) (by rw [List.length_set]; omega) (set_byte hsb x1) hset]
      rfl
end Go.Proofs.YtpdlcbmnmeihoaaGreatDoor.Ev
