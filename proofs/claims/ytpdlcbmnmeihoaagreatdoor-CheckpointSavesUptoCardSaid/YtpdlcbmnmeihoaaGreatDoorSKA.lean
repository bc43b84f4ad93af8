/-  CRC-32C, plainly: one byte changed, another sum. -/
import Derived.Test.YtpdlcbmnmeihoaaGreatDoorSFW
import Derived.Test.YtpdlcbmnmeihoaaGreatDoorSJd
import Derived.Test.YtpdlcbmnmeihoaaGreatDoorSR0
import Derived.Test.YtpdlcbmnmeihoaaGreatDoorSQA
import Derived.Laws.Bits64
import Derived.Laws.BitsAllLaws
set_option maxRecDepth 100000
set_option linter.unusedVariables false
set_option linter.unusedSimpArgs false
set_option linter.unnecessarySimpa false
namespace Go.Proofs.YtpdlcbmnmeihoaaGreatDoor.Ev
open Go An
/-- one bit of the sum -/
def stp (r : Nat) : Nat := if r % 2 = 1 then (r / 2) ^^^ 2197175160 else r / 2
theorem stp_lt {r : Nat} (h : r < 4294967296) : stp r < 4294967296 := by
  unfold stp
  split
  · exact Nat.xor_lt_two_pow (n := 32) (by omega) (by omega)
  · omega
def stps : Nat → Nat → Nat
  | 0, r => r
  | k + 1, r => stps k (stp r)
theorem stps_lt : ∀ (k : Nat) {r : Nat}, r < 4294967296 → stps k r < 4294967296
  | 0, _, h => h
  | k + 1, _, h => stps_lt k (stp_lt h)
/-- the sum's register behind some bytes -/
def crcR : Nat → List Nat → Nat
  | r, [] => r
  | r, c :: l => crcR (stps 8 (r ^^^ c)) l
theorem byte_lt {r c : Nat} (h : r < 4294967296) (hc : c < 256) : r ^^^ c < 4294967296 := Nat.xor_lt_two_pow (n := 32) (by omega) (by omega)
theorem crcR_lt : ∀ (l : List Nat) {r : Nat}, r < 4294967296 → (∀ c ∈ l, c < 256) → crcR r l < 4294967296
  | [], _, h, _ => h
  | c :: l, _, h, hl => crcR_lt l (stps_lt 8 (byte_lt h (hl c (by simp)))) (fun x hx => hl x (by simp [hx]))
end Go.Proofs.YtpdlcbmnmeihoaaGreatDoor.Ev
namespace Go.Proofs.YtpdlcbmnmeihoaaGreatDoor.Ev
open Go An
def bitN (b : Bool) : Int := if b then 1 else 0
/-- the bytes of numbers -/
def bs (l : List Int) : List Int := l.flatMap eB
/-- a list, as it is written -/
def lsN (l : List Int) : List Int := (l.length : Int) :: l
def okN (l : List Int) : Prop := ∀ x ∈ l, -9223372036854775808 ≤ x ∧ x ≤ 9223372036854775807
def cnt {α : Type} (l : List α) (f : α → List Int) : List Int := [(l.length : Int)] ++ l.flatMap f
def clN (c : api_Claim) : List Int := [c.Proc, c.Units, c.Prio, c.Seq, bitN c.Preempt]
def evN (e : api_Event) : List Int := [e.Time, e.Prio, e.From, e.Seq, e.Site, e.Kind, e.A, e.B] ++ lsN e.Args
def prN (p : api_Proc) : List Int := [p.Id, p.Routine, p.Pc] ++ (lsN p.Slots ++ [p.Status, p.Born, p.Left])
def rsN (r : api_Resource) : List Int := [r.Units, bitN r.Down] ++ (cnt r.Holders clN ++ (cnt r.Queue clN ++ [r.Next]))
def rdN (y : api_Ready) : List Int := [y.Proc, y.Item]
def soN (v : api_Store) : List Int := [v.Room, v.Policy] ++ (lsN v.Items ++ ([(v.Putters.length : Int)] ++ (v.Putters.flatMap rdN ++ (lsN v.Getters ++ [v.In, v.Out]))))
def riN (y : api_Rider) : List Int := [y.Proc, y.Entry, y.Exit]
def beN (b : api_Belt) : List Int := [b.Length, b.Step, (b.Riders.length : Int)] ++ (b.Riders.flatMap riN ++ [b.Last])
def srN (y : api_Stream) : List Int := [w64 (Int.fdiv y.Key (2 ^ 32)), w64 (IntKind.wrap .u64 (((BitVec.ofInt 64 y.Key &&& BitVec.ofInt 64 4294967295).toNat : Int))), y.Pos, bitN y.Anti]
def taN (t : api_Tally) : List Int := [t.N, t.Sum, t.Squares, t.Min, t.Max]
def leN (l : api_Level) : List Int := [l.Value, l.Since, l.Begin, l.Area, l.Min, l.Max]
def dyN (s : api_State) : List Int := cnt s.Agenda evN ++ cnt s.Procs prN
def obN (s : api_State) : List Int := cnt s.Resources rsN ++ (cnt s.Stores soN ++ (cnt s.Belts beN ++ cnt s.Queues lsN))
def saN (s : api_State) : List Int := cnt s.Streams srN ++ (cnt s.Tallies taN ++ (cnt s.Levels leN ++ (lsN s.Counts ++ (lsN s.Created ++ (lsN s.Ended ++ [s.Dropped])))))
def stN (s : api_State) : List Int := [s.Site, s.Now, s.Seq] ++ (dyN s ++ ([s.NextProc] ++ (lsN s.Vars ++ (obN s ++ saN s))))
def woN (w : api_World) : List Int := cnt w.Sites stN
theorem bs_app (a b : List Int) : bs (a ++ b) = bs a ++ bs b := by unfold bs; rw [List.flatMap_append]
theorem bs_cons (x : Int) (l : List Int) : bs (x :: l) = eB x ++ bs l := rfl
theorem zB_bs (l : List Int) : zB l l.length = bs (lsN l) := by
  unfold zB
  rw [List.take_length]; rfl
theorem bs_len : ∀ l : List Int, (bs l).length ≤ 10 * l.length
  | [] => by simp [bs]
  | x :: l => by
    rw [bs_cons, List.length_append, List.length_cons]
    have := bs_len l
    have := (eB_len x).2
    omega
theorem okN_app {a b : List Int} : okN (a ++ b) ↔ okN a ∧ okN b := by
  unfold okN
  simp only [List.mem_append]
  exact ⟨fun h => ⟨fun x hx => h x (.inl hx), fun x hx => h x (.inr hx)⟩, fun h x hx => hx.elim (h.1 x) (h.2 x)⟩
theorem okN_cons {x : Int} {l : List Int} : okN (x :: l) ↔ (-9223372036854775808 ≤ x ∧ x ≤ 9223372036854775807) ∧ okN l := by
  unfold okN
  simp only [List.mem_cons, forall_eq_or_imp]
theorem okN_nil : okN [] := fun x hx => by cases hx
/-- there is room for these numbers behind these bytes -/
def fits (b l : List Int) : Prop := okN l ∧ b.length + 10 * l.length ≤ 1099511627776
theorem fits_app {b l k : List Int} (h : fits b (l ++ k)) : fits b l ∧ fits (b ++ bs l) k := by
  obtain ⟨h1, h2⟩ := h
  obtain ⟨h3, h4⟩ := okN_app.1 h1
  have := bs_len l
  rw [List.length_append] at h2
  refine ⟨⟨h3, by omega⟩, h4, ?_⟩
  rw [List.length_append]
  omega
theorem drop_getD {α : Type} [Inhabited α] {a k : List α} {x : α} {i : Nat} (h : a.drop i = x :: k) : a.getD i default = x ∧ a.drop (i + 1) = k ∧ x ∈ a := by
  have h1 : a[i]? = some x := by
    have := congrArg (fun l => l[0]?) h
    simpa [List.getElem?_drop] using this
  refine ⟨by rw [List.getD, h1]; rfl, ?_, List.mem_of_getElem? h1⟩
  rw [← List.drop_drop, h]; rfl
/-- a loop that writes -/
theorem wr_loop {T : Type} [Inhabited T] {f : T → List Int} {lq : List T → Nat → List Int → Option (Nat × (Int × List Int))} {a : List T} (h0 : ∀ i b, lq [] i b = some (0, ((i : Int), b)))
    (hs : ∀ x k i b, a.getD i default = x → x ∈ a → fits b (f x) → lq (x :: k) i b = lq k (i + 1) (b ++ bs (f x))) : ∀ k i b, a.drop i = k → fits b (k.flatMap f) → lq k i b = some (0, (((i + k.length : Nat) : Int), b ++ bs (k.flatMap f)))
  | [], i, b, _, _ => by rw [h0]; simp [bs]
  | x :: k, i, b, hd, hf => by
    obtain ⟨e1, e2, e3⟩ := drop_getD hd
    rw [List.flatMap_cons] at hf ⊢
    obtain ⟨h1, h2⟩ := fits_app hf
    rw [hs x k i b e1 e3 h1, wr_loop h0 hs k (i + 1) _ e2 h2, bs_app, List.append_assoc, List.length_cons, show i + 1 + k.length = i + (k.length + 1) by omega]
/-- .. and its reference -/
theorem wr_loopR {T : Type} [Inhabited T] {f : T → List Int} {lq : List T → Nat → List Int → Option (Nat × (List Int × Int))} {a : List T} (h0 : ∀ i b, lq [] i b = some (0, (b, (i : Int))))
    (hs : ∀ x k i b, a.getD i default = x → x ∈ a → fits b (f x) → lq (x :: k) i b = lq k (i + 1) (b ++ bs (f x))) : ∀ k i b, a.drop i = k → fits b (k.flatMap f) → lq k i b = some (0, (b ++ bs (k.flatMap f), ((i + k.length : Nat) : Int)))
  | [], i, b, _, _ => by rw [h0]; simp [bs]
  | x :: k, i, b, hd, hf => by
    obtain ⟨e1, e2, e3⟩ := drop_getD hd
    rw [List.flatMap_cons] at hf ⊢
    obtain ⟨h1, h2⟩ := fits_app hf
    rw [hs x k i b e1 e3 h1, wr_loopR h0 hs k (i + 1) _ e2 h2, bs_app, List.append_assoc, List.length_cons, show i + 1 + k.length = i + (k.length + 1) by omega]
theorem flat1 (l : List Int) : l.flatMap (fun x => [x]) = l := by induction l with | nil => rfl | cons x l ih => rw [List.flatMap_cons, ih]; rfl
end Go.Proofs.YtpdlcbmnmeihoaaGreatDoor.Ev
namespace Go.Proofs.YtpdlcbmnmeihoaaGreatDoor.Ev
open Go An
theorem ok_PutInt (L : Nat) {b : List Int} {n : Int} (h : fits b [n]) : F_codec_PutInt L b n = some (b ++ bs [n]) := by
  obtain ⟨h1, h2⟩ := h
  have h3 := (okN_cons.1 h1).1
  have := (eB_len n).2
  simp only [List.length_singleton] at h2
  simp only [T_codec_PutInt, F_codec_PutInt, aN, aB, F_codec_encoded, F_codec_joined, if_pos h3, Option.bind_some, if_pos (show b.length + (eB n).length ≤ 1099511627776 by omega)]
  simp [bs]
theorem ok_ints {L : Nat} (hL : maxLen < L) {b l : List Int} (hm : l.length ≤ maxLen) (h : fits b l) : F_checkpoint_writer_ints L ⟨b⟩ l = some ((), ⟨b ++ bs l⟩) := by
  have h1 := wr_loop (f := fun x => [x]) (lq := lq_checkpoint_writer_ints_1 L l) (a := l) (fun i b => rfl) (fun x k i b _ _ hf => by rw [lq_checkpoint_writer_ints_1, ok_PutInt L hf]; rfl) l 0 b rfl (by rw [flat1]; exact h)
  rw [flat1] at h1
  simp only [T_checkpoint_writer_ints, rx_checkpoint_writer_ints_1, F_checkpoint_writer_ints, rx_checkpoint_writer_ints_1, aN, aB, lq0_checkpoint_writer_ints_1 L l L hm (by omega), h1, Option.bind_some, selo]
theorem ok_list {L : Nat} {b l : List Int} (h : fits b (lsN l)) : F_checkpoint_writer_list L ⟨b⟩ l = some ((), ⟨b ++ bs (lsN l)⟩) := by
  obtain ⟨h1, h2⟩ := h
  have h3 := (okN_cons.1 h1).2
  have e : (lsN l).length = l.length + 1 := rfl
  simp only [T_checkpoint_writer_list, F_checkpoint_writer_list, aN, aB, F_codec_PutInts, if_pos (show b.length + 10 * (l.length + 1) ≤ 1099511627776 ∧ ∀ x ∈ l, -9223372036854775808 ≤ x ∧ x ≤ 9223372036854775807 from ⟨by omega, h3⟩), Option.bind_some, zB_bs]
theorem ok_bit (L : Nat) (b : Bool) : F_checkpoint_bit L b = some (bitN b) := by cases b <;> rfl
theorem ok_claims {L : Nat} (hL : maxLen < L) {b : List Int} {l : List api_Claim} (hm : l.length ≤ maxLen) (h : fits b (cnt l clN)) : F_checkpoint_writer_claims L ⟨b⟩ l = some ((), ⟨b ++ bs (cnt l clN)⟩) := by
  obtain ⟨h1, h2⟩ := fits_app h
  have h3 := wr_loop (f := clN) (lq := lq_checkpoint_writer_claims_1 L l) (a := l) (fun i b => rfl) (fun x k i b _ _ hf => by
    rw [lq_checkpoint_writer_claims_1, ok_bit]
    simp only [Option.bind_some]
    unfold clN at hf ⊢
    rw [ok_ints hL (by simp [maxLen_eq]) hf]; rfl) l 0 _ rfl h2
  simp only [T_checkpoint_writer_claims, wx_checkpoint_writer_claims_1, rx_checkpoint_writer_claims_1, F_checkpoint_writer_claims, wx_checkpoint_writer_claims_1, rx_checkpoint_writer_claims_1, aN, aB, ok_ints hL (by simp [maxLen_eq]) h1, lq0_checkpoint_writer_claims_1 L l L hm (by omega), h3, Option.bind_some, selo, cnt, bs_app, List.append_assoc]
end Go.Proofs.YtpdlcbmnmeihoaaGreatDoor.Ev
namespace Go.Proofs.YtpdlcbmnmeihoaaGreatDoor.Ev
open Go An
section
variable {L : Nat} (hL : maxLen < L) (s : api_State) (ok : Ok_api_State s)
include hL ok
theorem p_ev (b : List Int) (h : fits b (s.Agenda.flatMap evN)) : lp_checkpoint_writer_state_1 L s L 0 b = some (0, (((0 + s.Agenda.length : Nat) : Int), b ++ bs (s.Agenda.flatMap evN))) := by
  rw [lq0_checkpoint_writer_state_1 L s L (by obtain ⟨_, _, _, h, _⟩ := ok; exact h.1) (by obtain ⟨_, _, _, h, _⟩ := ok; have := h.1; omega)]
  refine wr_loop (fun i b => rfl) (fun x k i b _ _ hf => ?_) s.Agenda 0 b rfl h
  obtain ⟨h1, h2⟩ := fits_app hf
  rw [lq_checkpoint_writer_state_1, ok_ints hL (by simp [maxLen_eq]) h1]
  simp only [Option.bind_some, ok_list h2]
  simp only [evN, bs_app, List.append_assoc]
theorem p_pr (b : List Int) (h : fits b (s.Procs.flatMap prN)) : lp_checkpoint_writer_state_2 L s L 0 b = some (0, (((0 + s.Procs.length : Nat) : Int), b ++ bs (s.Procs.flatMap prN))) := by
  rw [lq0_checkpoint_writer_state_2 L s L (by obtain ⟨_, _, _, _, h, _⟩ := ok; exact h.1) (by obtain ⟨_, _, _, _, h, _⟩ := ok; have := h.1; omega)]
  refine wr_loop (fun i b => rfl) (fun x k i b _ _ hf => ?_) s.Procs 0 b rfl h
  obtain ⟨h1, h2⟩ := fits_app hf
  obtain ⟨h2, h3⟩ := fits_app h2
  rw [lq_checkpoint_writer_state_2, ok_ints hL (by simp [maxLen_eq]) h1]
  simp only [Option.bind_some, ok_list h2]
  rw [ok_ints hL (by simp [maxLen_eq]) h3]
  simp only [Option.bind_some, prN, bs_app, List.append_assoc]
theorem p_rs (b : List Int) (h : fits b (s.Resources.flatMap rsN)) : lp_checkpoint_writer_state_3 L s L 0 b = some (0, (((0 + s.Resources.length : Nat) : Int), b ++ bs (s.Resources.flatMap rsN))) := by
  obtain ⟨_, _, _, _, _, _, _, ⟨q1, q2⟩, _⟩ := ok
  rw [lq0_checkpoint_writer_state_3 L s L q1 (by omega)]
  refine wr_loop (fun i b => rfl) (fun x k i b _ hx hf => ?_) s.Resources 0 b rfl h
  obtain ⟨_, _, k1, k2, _⟩ := q2 x hx
  obtain ⟨h1, h2⟩ := fits_app hf
  obtain ⟨h2, h3⟩ := fits_app h2
  obtain ⟨h3, h4⟩ := fits_app h3
  rw [lq_checkpoint_writer_state_3, ok_bit]
  simp only [Option.bind_some]
  rw [ok_ints hL (by simp [maxLen_eq]) h1]
  simp only [Option.bind_some, ok_claims hL k1.1 h2, ok_claims hL k2.1 h3]
  rw [ok_ints hL (by simp [maxLen_eq]) h4]
  simp only [Option.bind_some, rsN, bs_app, List.append_assoc]
theorem p_so (b : List Int) (h : fits b (s.Stores.flatMap soN)) : lp_checkpoint_writer_state_4 L s L 0 b = some (0, (((0 + s.Stores.length : Nat) : Int), b ++ bs (s.Stores.flatMap soN))) := by
  obtain ⟨_, _, _, _, _, _, _, _, ⟨q1, q2⟩, _⟩ := ok
  rw [lq0_checkpoint_writer_state_4 L s L q1 (by omega)]
  refine wr_loop (fun i b => rfl) (fun x k i b hg hx hf => ?_) s.Stores 0 b rfl h
  obtain ⟨_, _, _, k1, _⟩ := q2 x hx
  obtain ⟨h1, h2⟩ := fits_app hf
  obtain ⟨h2, h3⟩ := fits_app h2
  obtain ⟨h3, h4⟩ := fits_app h3
  obtain ⟨h4, h5⟩ := fits_app h4
  obtain ⟨h5, h6⟩ := fits_app h5
  have hp := wr_loop (f := rdN) (lq := lq_checkpoint_writer_state_5 L s (i : Int)) (a := x.Putters) (fun i b => rfl) (fun y k i b _ _ hf => by
    unfold rdN at hf ⊢
    rw [lq_checkpoint_writer_state_5, ok_ints hL (by simp [maxLen_eq]) hf]; rfl) x.Putters 0 _ rfl h4
  have h0 := lq0_checkpoint_writer_state_5 L s (i : Int) L (by rw [Int.toNat_natCast, hg]; exact k1.1) (by rw [Int.toNat_natCast, hg]; have := k1.1; omega)
  rw [Int.toNat_natCast, hg] at h0
  rw [lq_checkpoint_writer_state_4, ok_ints hL (by simp [maxLen_eq]) h1]
  simp only [Option.bind_some, ok_list h2]
  rw [ok_ints hL (by simp [maxLen_eq]) h3]
  simp only [Option.bind_some, h0, hp, selo, ok_list h5]
  rw [ok_ints hL (by simp [maxLen_eq]) h6]
  simp only [Option.bind_some, soN, bs_app, List.append_assoc]
theorem p_be (b : List Int) (h : fits b (s.Belts.flatMap beN)) : lp_checkpoint_writer_state_6 L s L 0 b = some (0, (((0 + s.Belts.length : Nat) : Int), b ++ bs (s.Belts.flatMap beN))) := by
  obtain ⟨_, _, _, _, _, _, _, _, _, ⟨q1, q2⟩, _⟩ := ok
  rw [lq0_checkpoint_writer_state_6 L s L q1 (by omega)]
  refine wr_loop (fun i b => rfl) (fun x k i b hg hx hf => ?_) s.Belts 0 b rfl h
  obtain ⟨_, _, k1, _⟩ := q2 x hx
  obtain ⟨h1, h2⟩ := fits_app hf
  obtain ⟨h2, h3⟩ := fits_app h2
  have hp := wr_loop (f := riN) (lq := lq_checkpoint_writer_state_7 L s (i : Int)) (a := x.Riders) (fun i b => rfl) (fun y k i b _ _ hf => by
    unfold riN at hf ⊢
    rw [lq_checkpoint_writer_state_7, ok_ints hL (by simp [maxLen_eq]) hf]; rfl) x.Riders 0 _ rfl h2
  have h0 := lq0_checkpoint_writer_state_7 L s (i : Int) L (by rw [Int.toNat_natCast, hg]; exact k1.1) (by rw [Int.toNat_natCast, hg]; have := k1.1; omega)
  rw [Int.toNat_natCast, hg] at h0
  rw [lq_checkpoint_writer_state_6, ok_ints hL (by simp [maxLen_eq]) h1]
  simp only [Option.bind_some, h0, hp, selo]
  rw [ok_ints hL (by simp [maxLen_eq]) h3]
  simp only [Option.bind_some, beN, bs_app, List.append_assoc]
theorem p_qu (b : List Int) (h : fits b (s.Queues.flatMap lsN)) : lp_checkpoint_writer_state_8 L s L 0 b = some (0, (((0 + s.Queues.length : Nat) : Int), b ++ bs (s.Queues.flatMap lsN))) := by
  obtain ⟨_, _, _, _, _, _, _, _, _, _, ⟨q1, q2⟩, _⟩ := ok
  rw [lq0_checkpoint_writer_state_8 L s L q1 (by omega)]
  refine wr_loop (fun i b => rfl) (fun x k i b hg hx hf => ?_) s.Queues 0 b rfl h
  rw [lq_checkpoint_writer_state_8, ok_list hf]; rfl
theorem p_sr (b : List Int) (h : fits b (s.Streams.flatMap srN)) : lp_checkpoint_writer_state_9 L s L 0 b = some (0, (((0 + s.Streams.length : Nat) : Int), b ++ bs (s.Streams.flatMap srN))) := by
  obtain ⟨_, _, _, _, _, _, _, _, _, _, _, ⟨q1, q2⟩, _⟩ := ok
  rw [lq0_checkpoint_writer_state_9 L s L q1 (by omega)]
  refine wr_loop (fun i b => rfl) (fun x k i b hg hx hf => ?_) s.Streams 0 b rfl h
  rw [lq_checkpoint_writer_state_9, ok_bit]
  simp only [Option.bind_some]
  unfold srN at hf ⊢
  rw [ok_ints hL (by simp [maxLen_eq]) hf]; rfl
theorem p_ta (b : List Int) (h : fits b (s.Tallies.flatMap taN)) : lp_checkpoint_writer_state_10 L s L 0 b = some (0, (((0 + s.Tallies.length : Nat) : Int), b ++ bs (s.Tallies.flatMap taN))) := by
  obtain ⟨_, _, _, _, _, _, _, _, _, _, _, _, ⟨q1, q2⟩, _⟩ := ok
  rw [lq0_checkpoint_writer_state_10 L s L q1 (by omega)]
  refine wr_loop (fun i b => rfl) (fun x k i b hg hx hf => ?_) s.Tallies 0 b rfl h
  unfold taN at hf ⊢
  rw [lq_checkpoint_writer_state_10, ok_ints hL (by simp [maxLen_eq]) hf]; rfl
theorem p_le (b : List Int) (h : fits b (s.Levels.flatMap leN)) : lp_checkpoint_writer_state_11 L s L 0 b = some (0, (((0 + s.Levels.length : Nat) : Int), b ++ bs (s.Levels.flatMap leN))) := by
  obtain ⟨_, _, _, _, _, _, _, _, _, _, _, _, _, ⟨q1, q2⟩, _⟩ := ok
  rw [lq0_checkpoint_writer_state_11 L s L q1 (by omega)]
  refine wr_loop (fun i b => rfl) (fun x k i b hg hx hf => ?_) s.Levels 0 b rfl h
  unfold leN at hf ⊢
  rw [lq_checkpoint_writer_state_11, ok_ints hL (by simp [maxLen_eq]) hf]; rfl
omit hL ok in
theorem stN_flat : stN s = [s.Site, s.Now, s.Seq, (s.Agenda.length : Int)] ++ (s.Agenda.flatMap evN ++ ([(s.Procs.length : Int)] ++ (s.Procs.flatMap prN ++ ([s.NextProc] ++ (lsN s.Vars ++ ([(s.Resources.length : Int)] ++ (s.Resources.flatMap rsN ++ ([(s.Stores.length : Int)] ++ (s.Stores.flatMap soN ++ ([(s.Belts.length : Int)] ++ (s.Belts.flatMap beN ++ ([(s.Queues.length : Int)] ++ (s.Queues.flatMap lsN ++ ([(s.Streams.length : Int)] ++ (s.Streams.flatMap srN ++ ([(s.Tallies.length : Int)] ++ (s.Tallies.flatMap taN ++ ([(s.Levels.length : Int)] ++ (s.Levels.flatMap leN ++ (lsN s.Counts ++ (lsN s.Created ++ (lsN s.Ended ++ ([s.Dropped]))))))))))))))))))))))) := by
  simp only [stN, dyN, obN, saN, cnt, List.append_assoc, List.cons_append, List.nil_append]
theorem ok_state (b : List Int) (h : fits b (stN s)) : F_checkpoint_writer_state L ⟨b⟩ s = some ((), ⟨b ++ bs (stN s)⟩) := by
  rw [stN_flat] at h ⊢
  obtain ⟨h0, h⟩ := fits_app h
  obtain ⟨h1, h⟩ := fits_app h
  obtain ⟨h2, h⟩ := fits_app h
  obtain ⟨h3, h⟩ := fits_app h
  obtain ⟨h4, h⟩ := fits_app h
  obtain ⟨h5, h⟩ := fits_app h
  obtain ⟨h6, h⟩ := fits_app h
  obtain ⟨h7, h⟩ := fits_app h
  obtain ⟨h8, h⟩ := fits_app h
  obtain ⟨h9, h⟩ := fits_app h
  obtain ⟨h10, h⟩ := fits_app h
  obtain ⟨h11, h⟩ := fits_app h
  obtain ⟨h12, h⟩ := fits_app h
  obtain ⟨h13, h⟩ := fits_app h
  obtain ⟨h14, h⟩ := fits_app h
  obtain ⟨h15, h⟩ := fits_app h
  obtain ⟨h16, h⟩ := fits_app h
  obtain ⟨h17, h⟩ := fits_app h
  obtain ⟨h18, h⟩ := fits_app h
  obtain ⟨h19, h⟩ := fits_app h
  obtain ⟨h20, h⟩ := fits_app h
  obtain ⟨h21, h⟩ := fits_app h
  obtain ⟨h22, h⟩ := fits_app h
  have h23 := h
  simp only [T_checkpoint_writer_state, wx_checkpoint_writer_state_1, rx_checkpoint_writer_state_1, wx_checkpoint_writer_state_2, rx_checkpoint_writer_state_2, wx_checkpoint_writer_state_3, rx_checkpoint_writer_state_3, wx_checkpoint_writer_state_5, rx_checkpoint_writer_state_5, wx_checkpoint_writer_state_7, rx_checkpoint_writer_state_7, wx_checkpoint_writer_state_8, rx_checkpoint_writer_state_8, wx_checkpoint_writer_state_9, rx_checkpoint_writer_state_9, wx_checkpoint_writer_state_10, rx_checkpoint_writer_state_10, wx_checkpoint_writer_state_11, rx_checkpoint_writer_state_11, F_checkpoint_writer_state, wx_checkpoint_writer_state_1, rx_checkpoint_writer_state_1, wx_checkpoint_writer_state_2, rx_checkpoint_writer_state_2, wx_checkpoint_writer_state_3, rx_checkpoint_writer_state_3, wx_checkpoint_writer_state_5, rx_checkpoint_writer_state_5, wx_checkpoint_writer_state_7, rx_checkpoint_writer_state_7, wx_checkpoint_writer_state_8, rx_checkpoint_writer_state_8, wx_checkpoint_writer_state_9, rx_checkpoint_writer_state_9, wx_checkpoint_writer_state_10, rx_checkpoint_writer_state_10, wx_checkpoint_writer_state_11, rx_checkpoint_writer_state_11, aN, aB, Option.bind_some, selo, ok_ints hL (by simp [maxLen_eq]) h0, p_ev hL s ok _ h1, ok_ints hL (by simp [maxLen_eq]) h2, p_pr hL s ok _ h3, ok_ints hL (by simp [maxLen_eq]) h4, ok_list h5, ok_ints hL (by simp [maxLen_eq]) h6, p_rs hL s ok _ h7, ok_ints hL (by simp [maxLen_eq]) h8, p_so hL s ok _ h9, ok_ints hL (by simp [maxLen_eq]) h10, p_be hL s ok _ h11, ok_ints hL (by simp [maxLen_eq]) h12, p_qu hL s ok _ h13, ok_ints hL (by simp [maxLen_eq]) h14, p_sr hL s ok _ h15, ok_ints hL (by simp [maxLen_eq]) h16, p_ta hL s ok _ h17, ok_ints hL (by simp [maxLen_eq]) h18, p_le hL s ok _ h19, ok_list h20, ok_list h21, ok_list h22, ok_ints hL (by simp [maxLen_eq]) h23]
  simp only [bs_app, List.append_assoc]
end
theorem ok_body {L : Nat} (hL : maxLen < L) (w : api_World) (ok : Ok_api_World w) (h : fits [] (woN w)) : F_checkpoint_body L w = some (bs (woN w)) := by
  obtain ⟨q1, q2⟩ := ok
  obtain ⟨h0, h1⟩ := fits_app h
  have e := wr_loop (f := stN) (lq := lq_checkpoint_body_1 L w) (a := w.Sites) (fun i b => rfl) (fun x k i b _ hx hf => by rw [lq_checkpoint_body_1, ok_state hL x (q2 x hx) b hf]; rfl) w.Sites 0 _ rfl h1
  simp only [T_checkpoint_body, wx_checkpoint_body_1, rx_checkpoint_body_1, F_checkpoint_body, wx_checkpoint_body_1, rx_checkpoint_body_1, aN, aB, Option.bind_some, selo, ok_ints hL (by simp [maxLen_eq]) h0, lq0_checkpoint_body_1 L w L q1 (by omega), e]
  simp only [woN, cnt, bs_app, List.append_assoc, List.nil_append]
end Go.Proofs.YtpdlcbmnmeihoaaGreatDoor.Ev
namespace Go.Proofs.YtpdlcbmnmeihoaaGreatDoor.Ev
open Go An
theorem ok_number (L : Nat) {n : Int} (h1 : -9223372036854775808 ≤ n) (h2 : n ≤ 9223372036854775807) :
    F_R06_number L n = some (((if n < 0 then (2 * (-(n + 1)) + 1).toNat else (2 * n).toNat : Nat) : Int)) := by
  simp only [T_R06_number, F_R06_number, aN, aB]
  by_cases h : n < 0
  · rw [if_pos h]
    simp only [h, decide_true, cond_true]
    rw [w64_id (n := n + 1) (by omega) (by omega), w64_id (by omega) (by omega), IntKind.wrap_u64, IntKind.wrap_u64, IntKind.wrap_u64]
    congr 1
    omega
  · rw [if_neg h]
    simp only [h, decide_false, cond_false]
    rw [IntKind.wrap_u64, IntKind.wrap_u64]
    congr 1
    omega
theorem put_loop (L : Nat) : ∀ (k n u : Nat) (v : List Int), u < 2 * 128 ^ k → u < 18446744073709551616 → k < n → v.length + k ≤ 1099511627776 →
    ∃ (v' : List Int) (u' : Nat), lp_R06_PutInt_1 L n v (u : Int) = some (0, (v', (u' : Int))) ∧ u' < 128 ∧ v' ++ [(u' : Int)] = v ++ encV k u ∧ v'.length ≤ v.length + k
  | k, 0, _, _, _, _, h, _ => by omega
  | 0, n + 1, u, v, hu, _, _, hv => by
    refine ⟨v, u, ?_, by omega, rfl, by omega⟩
    have : ¬ ((u : Int) ≥ 128) := by omega
    simp only [lp_R06_PutInt_1, lb_R06_PutInt_1, aN, aB, decide_eq_false this, cond_false]
  | k + 1, n + 1, u, v, hu, h64, hn, hv => by
    by_cases h : u < 128
    · refine ⟨v, u, ?_, h, ?_, by omega⟩
      · have : ¬ ((u : Int) ≥ 128) := by omega
        simp only [lp_R06_PutInt_1, lb_R06_PutInt_1, aN, aB, decide_eq_false this, cond_false]
      · rw [encV, if_pos h]
    · have hk : 2 * 128 ^ (k + 1) = 128 * (2 * 128 ^ k) := by rw [Nat.pow_succ]; omega
      have hd : u / 128 < 2 * 128 ^ k := by rw [hk] at hu; exact Nat.div_lt_of_lt_mul hu
      have e1 : IntKind.wrap .u8 (IntKind.wrap .u8 (Int.tmod (u : Int) 128) + 128) = ((u % 128 + 128 : Nat) : Int) := by
        rw [IntKind.wrap_u8', IntKind.wrap_u8', show Int.tmod (u : Int) 128 = ((u % 128 : Nat) : Int) from rfl]
        omega
      have e2 : IntKind.wrap .u64 (Int.tdiv (u : Int) 128) = ((u / 128 : Nat) : Int) := by
        rw [IntKind.wrap_u64, show Int.tdiv (u : Int) 128 = ((u / 128 : Nat) : Int) from rfl]
        omega
      obtain ⟨v', u', q1, q2, q3, q4⟩ := put_loop L k n (u / 128) (v ++ [((u % 128 + 128 : Nat) : Int)]) hd (by omega) (by omega) (by rw [List.length_append, List.length_singleton]; omega)
      refine ⟨v', u', ?_, q2, ?_, ?_⟩
      · have : (u : Int) ≥ 128 := by omega
        have g1 : (v.length + 1) * 1 ≤ 140737488355328 := by omega
        have g2 : v.length + 1 ≤ maxLen := by simp only [maxLen_eq]; omega
        simp only [lp_R06_PutInt_1, lb_R06_PutInt_1, aN, aB, decide_eq_true this, cond_true, e1, e2, List.length_singleton, if_pos g1, if_pos g2]
        exact q1
      · rw [q3, encV, if_neg h, List.append_assoc]; rfl
      · rw [List.length_append, List.length_singleton] at q4; omega
theorem ok_rPutInt {L : Nat} (hL : maxLen < L) {b : List Int} {n : Int} (h : fits b [n]) : F_R06_PutInt L b n = some (b ++ bs [n]) := by
  obtain ⟨h1, h2⟩ := h
  obtain ⟨h3, h4⟩ := (okN_cons.1 h1).1
  simp only [List.length_singleton] at h2
  have hm : maxLen = 4611686018427387904 ∨ 1099511627786 ≤ maxLen := by right; simp only [maxLen_eq]; omega
  have g0 : 1099511627786 ≤ maxLen := by simp only [maxLen_eq]; omega
  generalize hu : (if n < 0 then (2 * (-(n + 1)) + 1).toNat else (2 * n).toNat : Nat) = u
  have hu2 : u < 18446744073709551616 := by rw [← hu]; split <;> omega
  obtain ⟨v', u', q1, q2, q3, q4⟩ := put_loop L 9 L u b (by omega) hu2 (by omega) (by omega)
  have g1 : (0 + b.length) * 1 ≤ 140737488355328 := by omega
  have g2 : 0 + b.length ≤ maxLen := by omega
  have g3 : (v'.length + 1) * 1 ≤ 140737488355328 := by omega
  have g4 : v'.length + 1 ≤ maxLen := by omega
  have e1 : IntKind.wrap .u8 (u' : Int) = (u' : Int) := by rw [IntKind.wrap_u8']; omega
  have e2 : b ++ bs [n] = b ++ encV 9 u := by rw [← hu]; simp [bs, eB]
  simp only [T_R06_PutInt, wx_R06_PutInt_1, rx_R06_PutInt_1, F_R06_PutInt, wx_R06_PutInt_1, rx_R06_PutInt_1, aN, aB, if_pos g1, if_pos g2, ok_number L h3 h4, hu, Option.bind_some, q1, selo, List.length_singleton, if_pos g3, if_pos g4, e1, q3, e2]
theorem ok_rints {L : Nat} (hL : maxLen < L) {b l : List Int} (hm : l.length ≤ maxLen) (h : fits b l) : F_R45_ints L b l = some (b ++ bs l) := by
  have h1 := wr_loopR (f := fun x => [x]) (lq := lq_R45_ints_1 L l) (a := l) (fun i b => rfl) (fun x k i b _ _ hf => by rw [lq_R45_ints_1, ok_rPutInt hL hf]; rfl) l 0 b rfl (by rw [flat1]; exact h)
  rw [flat1] at h1
  simp only [T_R45_ints, rx_R45_ints_1, F_R45_ints, rx_R45_ints_1, aN, aB, lq0_R45_ints_1 L l L hm (by omega), h1, Option.bind_some, selo]
theorem ok_rlist {L : Nat} (hL : maxLen < L) {b l : List Int} (hm : l.length ≤ maxLen) (h : fits b (lsN l)) : F_R06_PutInts L b l = some (b ++ bs (lsN l)) := by
  obtain ⟨h0, h⟩ := fits_app (l := [(l.length : Int)]) (k := l) h
  have h1 := wr_loopR (f := fun x => [x]) (lq := lq_R06_PutInts_1 L l) (a := l) (fun i b => rfl) (fun x k i b _ _ hf => by rw [lq_R06_PutInts_1, ok_rPutInt hL hf]; rfl) l 0 _ rfl (by rw [flat1]; exact h)
  rw [flat1] at h1
  simp only [T_R06_PutInts, wx_R06_PutInts_1, rx_R06_PutInts_1, F_R06_PutInts, wx_R06_PutInts_1, rx_R06_PutInts_1, aN, aB, ok_rPutInt hL h0, lq0_R06_PutInts_1 L l L hm (by omega), h1, Option.bind_some, selo, List.append_assoc, ← bs_app]
  rfl
theorem ok_rbit (L : Nat) (b : Bool) : F_R45_bit L b = some (bitN b) := by cases b <;> rfl
theorem ok_rclaims {L : Nat} (hL : maxLen < L) {b : List Int} {l : List api_Claim} (hm : l.length ≤ maxLen) (h : fits b (cnt l clN)) : F_R45_claims L b l = some (b ++ bs (cnt l clN)) := by
  obtain ⟨h1, h2⟩ := fits_app h
  have h3 := wr_loopR (f := clN) (lq := lq_R45_claims_1 L l) (a := l) (fun i b => rfl) (fun x k i b _ _ hf => by
    rw [lq_R45_claims_1, ok_rbit]
    simp only [Option.bind_some]
    unfold clN at hf ⊢
    rw [ok_rints hL (by simp [maxLen_eq]) hf]; rfl) l 0 _ rfl h2
  simp only [T_R45_claims, wx_R45_claims_1, rx_R45_claims_1, F_R45_claims, wx_R45_claims_1, rx_R45_claims_1, aN, aB, ok_rPutInt hL h1, lq0_R45_claims_1 L l L hm (by omega), h3, Option.bind_some, selo, cnt, bs_app, List.append_assoc]
section
variable {L : Nat} (hL : maxLen < L) (s : api_State) (ok : Ok_api_State s)
include hL ok
theorem r_ev (b : List Int) (h : fits b (s.Agenda.flatMap evN)) : lp_R45_dynamic_1 L s L b 0 = some (0, (b ++ bs (s.Agenda.flatMap evN), ((0 + s.Agenda.length : Nat) : Int))) := by
  obtain ⟨_, _, _, ⟨q1, q2⟩, _⟩ := ok
  rw [lq0_R45_dynamic_1 L s L q1 (by omega)]
  refine wr_loopR (fun i b => rfl) (fun x k i b _ hx hf => ?_) s.Agenda 0 b rfl h
  obtain ⟨_, _, _, _, _, _, _, _, k1⟩ := q2 x hx
  obtain ⟨h1, h2⟩ := fits_app hf
  rw [lq_R45_dynamic_1, ok_rints hL (by simp [maxLen_eq]) h1]
  simp only [Option.bind_some, ok_rlist hL k1.1 h2, evN, bs_app, List.append_assoc]
theorem r_pr (b : List Int) (h : fits b (s.Procs.flatMap prN)) : lp_R45_dynamic_2 L s L b 0 = some (0, (b ++ bs (s.Procs.flatMap prN), ((0 + s.Procs.length : Nat) : Int))) := by
  obtain ⟨_, _, _, _, ⟨q1, q2⟩, _⟩ := ok
  rw [lq0_R45_dynamic_2 L s L q1 (by omega)]
  refine wr_loopR (fun i b => rfl) (fun x k i b _ hx hf => ?_) s.Procs 0 b rfl h
  obtain ⟨_, _, _, k1, _⟩ := q2 x hx
  obtain ⟨h1, h2⟩ := fits_app hf
  obtain ⟨h2, h3⟩ := fits_app h2
  rw [lq_R45_dynamic_2, ok_rints hL (by simp [maxLen_eq]) h1]
  simp only [Option.bind_some, ok_rlist hL k1.1 h2]
  rw [ok_rints hL (by simp [maxLen_eq]) h3]
  simp only [Option.bind_some, prN, bs_app, List.append_assoc]
theorem r_dy (b : List Int) (h : fits b (dyN s)) : F_R45_dynamic L b s = some (b ++ bs (dyN s)) := by
  obtain ⟨h1, h⟩ := fits_app h
  obtain ⟨h0, h1⟩ := fits_app h1
  have e : b ++ bs (cnt s.Agenda evN) = b ++ bs [(s.Agenda.length : Int)] ++ bs (s.Agenda.flatMap evN) := by rw [cnt, bs_app, List.append_assoc]
  rw [e] at h
  obtain ⟨h2, h3⟩ := fits_app h
  simp only [T_R45_dynamic, wx_R45_dynamic_1, rx_R45_dynamic_1, wx_R45_dynamic_2, rx_R45_dynamic_2, F_R45_dynamic, wx_R45_dynamic_1, rx_R45_dynamic_1, wx_R45_dynamic_2, rx_R45_dynamic_2, aN, aB, Option.bind_some, selo, ok_rPutInt hL h0, r_ev hL s ok _ h1, ok_rPutInt hL h2, r_pr hL s ok _ h3]
  simp only [dyN, cnt, bs_app, List.append_assoc]
theorem r_rs (b : List Int) (h : fits b (s.Resources.flatMap rsN)) : lp_R45_objects_1 L s L b 0 = some (0, (b ++ bs (s.Resources.flatMap rsN), ((0 + s.Resources.length : Nat) : Int))) := by
  obtain ⟨_, _, _, _, _, _, _, ⟨q1, q2⟩, _⟩ := ok
  rw [lq0_R45_objects_1 L s L q1 (by omega)]
  refine wr_loopR (fun i b => rfl) (fun x k i b _ hx hf => ?_) s.Resources 0 b rfl h
  obtain ⟨_, _, k1, k2, _⟩ := q2 x hx
  obtain ⟨h1, h2⟩ := fits_app hf
  obtain ⟨h2, h3⟩ := fits_app h2
  obtain ⟨h3, h4⟩ := fits_app h3
  rw [lq_R45_objects_1, ok_rbit]
  simp only [Option.bind_some]
  rw [ok_rints hL (by simp [maxLen_eq]) h1]
  simp only [Option.bind_some, ok_rclaims hL k1.1 h2, ok_rclaims hL k2.1 h3]
  rw [ok_rPutInt hL h4]
  simp only [Option.bind_some, rsN, bs_app, List.append_assoc]
theorem r_so (b : List Int) (h : fits b (s.Stores.flatMap soN)) : lp_R45_objects_2 L s L b 0 = some (0, (b ++ bs (s.Stores.flatMap soN), ((0 + s.Stores.length : Nat) : Int))) := by
  obtain ⟨_, _, _, _, _, _, _, _, ⟨q1, q2⟩, _⟩ := ok
  rw [lq0_R45_objects_2 L s L q1 (by omega)]
  refine wr_loopR (fun i b => rfl) (fun x k i b hg hx hf => ?_) s.Stores 0 b rfl h
  obtain ⟨_, _, k0, k1, k2, _⟩ := q2 x hx
  obtain ⟨h1, h2⟩ := fits_app hf
  obtain ⟨h2, h3⟩ := fits_app h2
  obtain ⟨h3, h4⟩ := fits_app h3
  obtain ⟨h4, h5⟩ := fits_app h4
  obtain ⟨h5, h6⟩ := fits_app h5
  have hp := wr_loopR (f := rdN) (lq := lq_R45_objects_3 L (i : Int) s) (a := x.Putters) (fun i b => rfl) (fun y k i b _ _ hf => by
    unfold rdN at hf ⊢
    rw [lq_R45_objects_3, ok_rints hL (by simp [maxLen_eq]) hf]; rfl) x.Putters 0 _ rfl h4
  have h0 := lq0_R45_objects_3 L (i : Int) s L (by rw [Int.toNat_natCast, hg]; exact k1.1) (by rw [Int.toNat_natCast, hg]; have := k1.1; omega)
  rw [Int.toNat_natCast, hg] at h0
  rw [lq_R45_objects_2, ok_rints hL (by simp [maxLen_eq]) h1]
  simp only [Option.bind_some, ok_rlist hL k0.1 h2]
  rw [ok_rPutInt hL h3]
  simp only [Option.bind_some, h0, hp, selo, ok_rlist hL k2.1 h5]
  rw [ok_rints hL (by simp [maxLen_eq]) h6]
  simp only [Option.bind_some, soN, bs_app, List.append_assoc]
theorem r_be (b : List Int) (h : fits b (s.Belts.flatMap beN)) : lp_R45_objects_4 L s L b 0 = some (0, (b ++ bs (s.Belts.flatMap beN), ((0 + s.Belts.length : Nat) : Int))) := by
  obtain ⟨_, _, _, _, _, _, _, _, _, ⟨q1, q2⟩, _⟩ := ok
  rw [lq0_R45_objects_4 L s L q1 (by omega)]
  refine wr_loopR (fun i b => rfl) (fun x k i b hg hx hf => ?_) s.Belts 0 b rfl h
  obtain ⟨_, _, k1, _⟩ := q2 x hx
  obtain ⟨h1, h2⟩ := fits_app hf
  obtain ⟨h2, h3⟩ := fits_app h2
  have hp := wr_loopR (f := riN) (lq := lq_R45_objects_5 L (i : Int) s) (a := x.Riders) (fun i b => rfl) (fun y k i b _ _ hf => by
    unfold riN at hf ⊢
    rw [lq_R45_objects_5, ok_rints hL (by simp [maxLen_eq]) hf]; rfl) x.Riders 0 _ rfl h2
  have h0 := lq0_R45_objects_5 L (i : Int) s L (by rw [Int.toNat_natCast, hg]; exact k1.1) (by rw [Int.toNat_natCast, hg]; have := k1.1; omega)
  rw [Int.toNat_natCast, hg] at h0
  rw [lq_R45_objects_4, ok_rints hL (by simp [maxLen_eq]) h1]
  simp only [Option.bind_some, h0, hp, selo]
  rw [ok_rPutInt hL h3]
  simp only [Option.bind_some, beN, bs_app, List.append_assoc]
theorem r_qu (b : List Int) (h : fits b (s.Queues.flatMap lsN)) : lp_R45_objects_6 L s L b 0 = some (0, (b ++ bs (s.Queues.flatMap lsN), ((0 + s.Queues.length : Nat) : Int))) := by
  obtain ⟨_, _, _, _, _, _, _, _, _, _, ⟨q1, q2⟩, _⟩ := ok
  rw [lq0_R45_objects_6 L s L q1 (by omega)]
  refine wr_loopR (fun i b => rfl) (fun x k i b hg hx hf => ?_) s.Queues 0 b rfl h
  rw [lq_R45_objects_6, ok_rlist hL (q2 x hx).1 hf]; rfl
theorem r_ob (b : List Int) (h : fits b (obN s)) : F_R45_objects L b s = some (b ++ bs (obN s)) := by
  have e : obN s = [(s.Resources.length : Int)] ++ (s.Resources.flatMap rsN ++ ([(s.Stores.length : Int)] ++ (s.Stores.flatMap soN ++ ([(s.Belts.length : Int)] ++ (s.Belts.flatMap beN ++ ([(s.Queues.length : Int)] ++ s.Queues.flatMap lsN)))))) := by
    simp only [obN, cnt, List.append_assoc]
  rw [e] at h ⊢
  obtain ⟨h0, h⟩ := fits_app h
  obtain ⟨h1, h⟩ := fits_app h
  obtain ⟨h2, h⟩ := fits_app h
  obtain ⟨h3, h⟩ := fits_app h
  obtain ⟨h4, h⟩ := fits_app h
  obtain ⟨h5, h⟩ := fits_app h
  obtain ⟨h6, h7⟩ := fits_app h
  simp only [T_R45_objects, wx_R45_objects_1, rx_R45_objects_1, wx_R45_objects_3, rx_R45_objects_3, wx_R45_objects_5, rx_R45_objects_5, wx_R45_objects_6, rx_R45_objects_6, F_R45_objects, wx_R45_objects_1, rx_R45_objects_1, wx_R45_objects_3, rx_R45_objects_3, wx_R45_objects_5, rx_R45_objects_5, wx_R45_objects_6, rx_R45_objects_6, aN, aB, Option.bind_some, selo, ok_rPutInt hL h0, r_rs hL s ok _ h1, ok_rPutInt hL h2, r_so hL s ok _ h3, ok_rPutInt hL h4, r_be hL s ok _ h5, ok_rPutInt hL h6, r_qu hL s ok _ h7]
  simp only [bs_app, List.append_assoc]
theorem r_sr (b : List Int) (h : fits b (s.Streams.flatMap srN)) : lp_R45_statistics_1 L s L b 0 = some (0, (b ++ bs (s.Streams.flatMap srN), ((0 + s.Streams.length : Nat) : Int))) := by
  obtain ⟨_, _, _, _, _, _, _, _, _, _, _, ⟨q1, q2⟩, _⟩ := ok
  rw [lq0_R45_statistics_1 L s L q1 (by omega)]
  refine wr_loopR (fun i b => rfl) (fun x k i b hg hx hf => ?_) s.Streams 0 b rfl h
  rw [lq_R45_statistics_1, ok_rbit]
  simp only [Option.bind_some]
  unfold srN at hf ⊢
  rw [ok_rints hL (by simp [maxLen_eq]) hf]; rfl
theorem r_ta (b : List Int) (h : fits b (s.Tallies.flatMap taN)) : lp_R45_statistics_2 L s L b 0 = some (0, (b ++ bs (s.Tallies.flatMap taN), ((0 + s.Tallies.length : Nat) : Int))) := by
  obtain ⟨_, _, _, _, _, _, _, _, _, _, _, _, ⟨q1, q2⟩, _⟩ := ok
  rw [lq0_R45_statistics_2 L s L q1 (by omega)]
  refine wr_loopR (fun i b => rfl) (fun x k i b hg hx hf => ?_) s.Tallies 0 b rfl h
  unfold taN at hf ⊢
  rw [lq_R45_statistics_2, ok_rints hL (by simp [maxLen_eq]) hf]; rfl
theorem r_le (b : List Int) (h : fits b (s.Levels.flatMap leN)) : lp_R45_statistics_3 L s L b 0 = some (0, (b ++ bs (s.Levels.flatMap leN), ((0 + s.Levels.length : Nat) : Int))) := by
  obtain ⟨_, _, _, _, _, _, _, _, _, _, _, _, _, ⟨q1, q2⟩, _⟩ := ok
  rw [lq0_R45_statistics_3 L s L q1 (by omega)]
  refine wr_loopR (fun i b => rfl) (fun x k i b hg hx hf => ?_) s.Levels 0 b rfl h
  unfold leN at hf ⊢
  rw [lq_R45_statistics_3, ok_rints hL (by simp [maxLen_eq]) hf]; rfl
theorem r_sa (b : List Int) (h : fits b (saN s)) : F_R45_statistics L b s = some (b ++ bs (saN s)) := by
  have e : saN s = [(s.Streams.length : Int)] ++ (s.Streams.flatMap srN ++ ([(s.Tallies.length : Int)] ++ (s.Tallies.flatMap taN ++ ([(s.Levels.length : Int)] ++ (s.Levels.flatMap leN ++ (lsN s.Counts ++ (lsN s.Created ++ (lsN s.Ended ++ [s.Dropped])))))))) := by
    simp only [saN, cnt, List.append_assoc]
  rw [e] at h ⊢
  have ok2 := ok
  obtain ⟨_, _, _, _, _, _, _, _, _, _, _, _, _, _, k1, k2, k3, _⟩ := ok2
  obtain ⟨h0, h⟩ := fits_app h
  obtain ⟨h1, h⟩ := fits_app h
  obtain ⟨h2, h⟩ := fits_app h
  obtain ⟨h3, h⟩ := fits_app h
  obtain ⟨h4, h⟩ := fits_app h
  obtain ⟨h5, h⟩ := fits_app h
  obtain ⟨h6, h⟩ := fits_app h
  obtain ⟨h7, h⟩ := fits_app h
  obtain ⟨h8, h9⟩ := fits_app h
  simp only [T_R45_statistics, wx_R45_statistics_1, rx_R45_statistics_1, wx_R45_statistics_2, rx_R45_statistics_2, wx_R45_statistics_3, rx_R45_statistics_3, F_R45_statistics, wx_R45_statistics_1, rx_R45_statistics_1, wx_R45_statistics_2, rx_R45_statistics_2, wx_R45_statistics_3, rx_R45_statistics_3, aN, aB, Option.bind_some, selo, ok_rPutInt hL h0, r_sr hL s ok _ h1, ok_rPutInt hL h2, r_ta hL s ok _ h3, ok_rPutInt hL h4, r_le hL s ok _ h5, ok_rlist hL k1.1 h6, ok_rlist hL k2.1 h7, ok_rlist hL k3.1 h8, ok_rPutInt hL h9]
  simp only [bs_app, List.append_assoc]
end
theorem ok_rBody {L : Nat} (hL : maxLen < L) (w : api_World) (ok : Ok_api_World w) (h : fits [] (woN w)) : F_R45_Body L w = some (bs (woN w)) := by
  obtain ⟨q1, q2⟩ := ok
  obtain ⟨h0, h1⟩ := fits_app h
  have e := wr_loopR (f := stN) (lq := lq_R45_Body_1 L w) (a := w.Sites) (fun i b => rfl) (fun x k i b _ hx hf => by
    have okx := q2 x hx
    obtain ⟨_, _, _, _, _, _, k1, _⟩ := q2 x hx
    obtain ⟨h1, h2⟩ := fits_app hf
    obtain ⟨h2, h3⟩ := fits_app h2
    obtain ⟨h3, h4⟩ := fits_app h3
    obtain ⟨h4, h5⟩ := fits_app h4
    obtain ⟨h5, h6⟩ := fits_app h5
    rw [lq_R45_Body_1, ok_rints hL (by simp [maxLen_eq]) h1]
    simp only [Option.bind_some, r_dy hL x okx _ h2]
    rw [ok_rPutInt hL h3]
    simp only [Option.bind_some, ok_rlist hL k1.1 h4, r_ob hL x okx _ h5, r_sa hL x okx _ h6]
    simp only [stN, bs_app, List.append_assoc]) w.Sites 0 _ rfl h1
  simp only [T_R45_Body, wx_R45_Body_1, rx_R45_Body_1, F_R45_Body, wx_R45_Body_1, rx_R45_Body_1, aN, aB, Option.bind_some, selo, ok_rPutInt hL h0, lq0_R45_Body_1 L w L q1 (by omega), e]
  simp only [woN, cnt, bs_app, List.append_assoc, List.nil_append]
end Go.Proofs.YtpdlcbmnmeihoaaGreatDoor.Ev
namespace Go.Proofs.YtpdlcbmnmeihoaaGreatDoor.Ev
open Go An
def bytesOK (l : List Int) : Prop := ∀ x ∈ l, 0 ≤ x ∧ x < 256
theorem encV_byte : ∀ (k u : Nat), u < 2 * 128 ^ k → bytesOK (encV k u)
  | 0, u, h => fun x hx => by
    simp only [encV, List.mem_singleton] at hx
    subst hx; omega
  | k + 1, u, h => fun x hx => by
    unfold encV at hx
    split at hx
    · simp only [List.mem_singleton] at hx; subst hx; omega
    · rcases List.mem_cons.1 hx with rfl | hx
      · omega
      · have hk : 2 * 128 ^ (k + 1) = 128 * (2 * 128 ^ k) := by rw [Nat.pow_succ]; omega
        rw [hk] at h
        exact encV_byte k (u / 128) (Nat.div_lt_of_lt_mul h) x hx
theorem bs_byte : ∀ {l : List Int}, okN l → bytesOK (bs l)
  | [], _ => fun x hx => by cases hx
  | n :: l, h => fun x hx => by
    obtain ⟨⟨h1, h2⟩, h3⟩ := okN_cons.1 h
    rw [bs_cons] at hx
    rcases List.mem_append.1 hx with hx | hx
    · refine encV_byte 9 _ ?_ x hx
      split <;> omega
    · exact bs_byte h3 x hx
theorem xor32 (a b : Nat) (ha : a < 4294967296) (hb : b < 4294967296) : IntKind.wrap .u32 (((BitVec.ofInt 32 (a : Int) ^^^ BitVec.ofInt 32 (b : Int)).toNat : Nat) : Int) = ((a ^^^ b : Nat) : Int) := by
  have := Nat.xor_lt_two_pow (n := 32) (show a < 2 ^ 32 by omega) (show b < 2 ^ 32 by omega)
  rw [BitVec.ofInt_natCast, BitVec.ofInt_natCast, BitVec.toNat_xor, BitVec.toNat_ofNat, BitVec.toNat_ofNat, Nat.mod_eq_of_lt (by omega), Nat.mod_eq_of_lt (by omega), IntKind.wrap_u32']
  omega
theorem and32 (a : Nat) (ha : a < 4294967296) : IntKind.wrap .u32 (((BitVec.ofInt 32 (a : Int) &&& BitVec.ofInt 32 1).toNat : Nat) : Int) = ((a % 2 : Nat) : Int) := by
  rw [show (1 : Int) = ((1 : Nat) : Int) from rfl, BitVec.ofInt_natCast, BitVec.ofInt_natCast, BitVec.toNat_and, BitVec.toNat_ofNat, BitVec.toNat_ofNat, Nat.mod_eq_of_lt (by omega), Nat.mod_eq_of_lt (by omega), IntKind.wrap_u32', Nat.and_one_is_mod]
  omega
theorem fdiv2 (a : Nat) : Int.fdiv (a : Int) (2 ^ 1) = ((a / 2 : Nat) : Int) := by
  rw [Int.fdiv_eq_ediv_of_nonneg _ (by decide)]; omega
theorem sum_bits (L : Nat) (a0 : List Int) (i : Int) : ∀ (m n r : Nat) (k : Int), 0 ≤ k → k + m = 8 → m < n → r < 4294967296 → lp_codec_Sum_2 L a0 i n (r : Int) k = some (0, (((stps m r : Nat) : Int), 8))
  | _, 0, _, _, _, _, h, _ => by omega
  | 0, n + 1, r, k, _, hk, _, _ => by
    have : ¬ k < 8 := by omega
    simp only [lp_codec_Sum_2, lb_codec_Sum_2, aN, aB, decide_eq_false this, cond_false, stps]
    rw [show k = 8 by omega]
  | m + 1, n + 1, r, k, h0, hk, hn, hr => by
    have h8 : k < 8 := by omega
    have e1 : w64 (k + 1) = k + 1 := w64_id (by omega) (by omega)
    have ih := sum_bits L a0 i m n (stp r) (k + 1) (by omega) (by omega) (by omega) (stp_lt hr)
    simp only [lp_codec_Sum_2, lb_codec_Sum_2, aN, aB, decide_eq_true h8, cond_true, e1, and32 r hr, fdiv2, stps]
    by_cases ho : r % 2 = 1
    · have e2 : (((r % 2 : Nat) : Int) == 1) = true := by rw [ho]; rfl
      have e3 := xor32 (r / 2) 2197175160 (by omega) (by decide)
      rw [show ((2197175160 : Nat) : Int) = 2197175160 from rfl] at e3
      rw [e2, cond_true, e3, ← ih]
      unfold stp
      rw [if_pos ho]
    · have e2 : (((r % 2 : Nat) : Int) == 1) = false := by rw [show r % 2 = 0 by omega]; rfl
      rw [e2, cond_false, ← ih]
      unfold stp
      rw [if_neg ho]
theorem rsum_bits (L : Nat) (a0 : List Int) (i : Int) : ∀ (m n r : Nat) (k : Int), 0 ≤ k → k + m = 8 → m < n → r < 4294967296 → lp_R06_Sum_2 L a0 i n (r : Int) k = some (0, (((stps m r : Nat) : Int), 8))
  | _, 0, _, _, _, _, h, _ => by omega
  | 0, n + 1, r, k, _, hk, _, _ => by
    have : ¬ k < 8 := by omega
    simp only [lp_R06_Sum_2, lb_R06_Sum_2, aN, aB, decide_eq_false this, cond_false, stps]
    rw [show k = 8 by omega]
  | m + 1, n + 1, r, k, h0, hk, hn, hr => by
    have h8 : k < 8 := by omega
    have e1 : w64 (k + 1) = k + 1 := w64_id (by omega) (by omega)
    have ih := rsum_bits L a0 i m n (stp r) (k + 1) (by omega) (by omega) (by omega) (stp_lt hr)
    have e4 : Int.tmod (r : Int) 2 = ((r % 2 : Nat) : Int) := rfl
    have e5 : IntKind.wrap .u32 (Int.tdiv (r : Int) 2) = ((r / 2 : Nat) : Int) := by
      rw [IntKind.wrap_u32', show Int.tdiv (r : Int) 2 = ((r / 2 : Nat) : Int) from rfl]; omega
    simp only [lp_R06_Sum_2, lb_R06_Sum_2, aN, aB, decide_eq_true h8, cond_true, e1, e4, e5, stps]
    by_cases ho : r % 2 = 1
    · have e2 : (((r % 2 : Nat) : Int) == 1) = true := by rw [ho]; rfl
      have e3 := xor32 (r / 2) 2197175160 (by omega) (by decide)
      rw [show ((2197175160 : Nat) : Int) = 2197175160 from rfl] at e3
      rw [e2, cond_true, e3, ← ih]
      unfold stp
      rw [if_pos ho]
    · have e2 : (((r % 2 : Nat) : Int) == 1) = false := by rw [show r % 2 = 0 by omega]; rfl
      rw [e2, cond_false, ← ih]
      unfold stp
      rw [if_neg ho]
/-- bytes as numbers -/
def natB (l : List Int) : List Nat := l.map Int.toNat
theorem natB_lt {l : List Int} (h : bytesOK l) : ∀ c ∈ natB l, c < 256 := fun c hc => by
  obtain ⟨x, hx, rfl⟩ := List.mem_map.1 hc
  have := h x hx
  omega
/-- the sum -/
def crcV (l : List Int) : Nat := crcR 4294967295 (natB l) ^^^ 4294967295
theorem crcV_lt {l : List Int} (h : bytesOK l) : crcV l < 4294967296 := Nat.xor_lt_two_pow (n := 32) (crcR_lt _ (by decide) (natB_lt h)) (by decide)
theorem sum_list (L : Nat) (a0 : List Int) (hL : 8 < L) : ∀ (k : List Int) (i r : Nat), bytesOK k → r < 4294967296 → lq_codec_Sum_1 L a0 k i (r : Int) = some (0, (((crcR r (natB k) : Nat) : Int), ((i + k.length : Nat) : Int)))
  | [], i, r, _, _ => rfl
  | x :: k, i, r, hb, hr => by
    obtain ⟨h1, h2⟩ := hb x (by simp)
    obtain ⟨c, rfl⟩ := Int.eq_ofNat_of_zero_le h1
    have hc : c < 256 := by omega
    have e0 : IntKind.wrap .u32 ((c : Nat) : Int) = (c : Int) := by rw [IntKind.wrap_u32']; omega
    have e1 := xor32 r c hr (by omega)
    have hx := byte_lt hr hc
    rw [lq_codec_Sum_1, e0, e1, sum_bits L a0 _ 8 L _ 0 (by omega) (by omega) hL hx]
    simp only [Option.bind_some, selo]
    rw [sum_list L a0 hL k (i + 1) _ (fun y hy => hb y (by simp [hy])) (stps_lt 8 hx), show i + 1 + k.length = i + ((c : Int) :: k).length by simp; omega]
    rfl
theorem rsum_list (L : Nat) (a0 : List Int) (hL : 8 < L) : ∀ (k : List Int) (i r : Nat), bytesOK k → r < 4294967296 → lq_R06_Sum_1 L a0 k i (r : Int) = some (0, (((crcR r (natB k) : Nat) : Int), ((i + k.length : Nat) : Int)))
  | [], i, r, _, _ => rfl
  | x :: k, i, r, hb, hr => by
    obtain ⟨h1, h2⟩ := hb x (by simp)
    obtain ⟨c, rfl⟩ := Int.eq_ofNat_of_zero_le h1
    have hc : c < 256 := by omega
    have e0 : IntKind.wrap .u32 ((c : Nat) : Int) = (c : Int) := by rw [IntKind.wrap_u32']; omega
    have e1 := xor32 r c hr (by omega)
    have hx := byte_lt hr hc
    rw [lq_R06_Sum_1, e0, e1, rsum_bits L a0 _ 8 L _ 0 (by omega) (by omega) hL hx]
    simp only [Option.bind_some, selo]
    rw [rsum_list L a0 hL k (i + 1) _ (fun y hy => hb y (by simp [hy])) (stps_lt 8 hx), show i + 1 + k.length = i + ((c : Int) :: k).length by simp; omega]
    rfl
theorem sum_end {a : Nat} (ha : a < 4294967296) : w64 (IntKind.wrap .u32 (((BitVec.ofInt 32 (a : Int) ^^^ BitVec.ofInt 32 4294967295).toNat : Nat) : Int)) = ((a ^^^ 4294967295 : Nat) : Int) := by
  have := Nat.xor_lt_two_pow (n := 32) (show a < 2 ^ 32 by omega) (show 4294967295 < 2 ^ 32 by omega)
  have e := xor32 a 4294967295 ha (by decide)
  rw [show ((4294967295 : Nat) : Int) = 4294967295 from rfl] at e
  rw [e, w64_id (by omega) (by omega)]
theorem ok_Sum {L : Nat} (hL : maxLen < L) {l : List Int} (hl : l.length ≤ maxLen) (h : bytesOK l) : F_codec_Sum L l = some ((crcV l : Nat) : Int) := by
  have h8 : 8 < L := by have : 8 ≤ maxLen := by simp [maxLen_eq]
                        omega
  have hc : crcR 4294967295 (natB l) < 4294967296 := crcR_lt _ (by decide) (natB_lt h)
  have e := sum_list L l h8 l 0 4294967295 h (by decide)
  rw [show ((4294967295 : Nat) : Int) = 4294967295 from rfl] at e
  simp only [T_codec_Sum, rx_codec_Sum_2, F_codec_Sum, rx_codec_Sum_2, aN, aB, lq0_codec_Sum_1 L l L hl (by omega), e, Option.bind_some, selo, sum_end hc]
  rfl
theorem ok_rSum {L : Nat} (hL : maxLen < L) {l : List Int} (hl : l.length ≤ maxLen) (h : bytesOK l) : F_R06_Sum L l = some ((crcV l : Nat) : Int) := by
  have h8 : 8 < L := by have : 8 ≤ maxLen := by simp [maxLen_eq]
                        omega
  have hc : crcR 4294967295 (natB l) < 4294967296 := crcR_lt _ (by decide) (natB_lt h)
  have e := rsum_list L l h8 l 0 4294967295 h (by decide)
  rw [show ((4294967295 : Nat) : Int) = 4294967295 from rfl] at e
  simp only [T_R06_Sum, rx_R06_Sum_2, F_R06_Sum, rx_R06_Sum_2, aN, aB, lq0_R06_Sum_1 L l L hl (by omega), e, Option.bind_some, selo, sum_end hc]
  rfl
/-- the bytes of a sum -/
def tail4 (c : Nat) : List Int := [((c % 256 : Nat) : Int), ((c / 256 % 256 : Nat) : Int), ((c / 65536 % 256 : Nat) : Int), ((c / 16777216 % 256 : Nat) : Int)]
theorem tail_eq {c : Nat} (h : c < 4294967296) : [IntKind.wrap .u8 (c : Int), IntKind.wrap .u8 (Int.fdiv (c : Int) (2 ^ 8)), IntKind.wrap .u8 (Int.fdiv (c : Int) (2 ^ 16)), IntKind.wrap .u8 (Int.fdiv (c : Int) (2 ^ 24))] = tail4 c := by
  rw [Int.fdiv_eq_ediv_of_nonneg _ (by decide), Int.fdiv_eq_ediv_of_nonneg _ (by decide), Int.fdiv_eq_ediv_of_nonneg _ (by decide), IntKind.wrap_u8', IntKind.wrap_u8', IntKind.wrap_u8', IntKind.wrap_u8']
  unfold tail4
  congr 1
end Go.Proofs.YtpdlcbmnmeihoaaGreatDoor.Ev
namespace Go.Proofs.YtpdlcbmnmeihoaaGreatDoor.Ev
open Go An
theorem okN_flat {α : Type} {f : α → List Int} : ∀ {l : List α}, (∀ x ∈ l, okN (f x)) → okN (l.flatMap f)
  | [], _ => okN_nil
  | x :: l, h => by
    rw [List.flatMap_cons]
    exact okN_app.2 ⟨h x (by simp), okN_flat fun y hy => h y (by simp [hy])⟩
theorem len_ok {α : Type} {l : List α} (h : l.length ≤ maxLen) : -9223372036854775808 ≤ (l.length : Int) ∧ (l.length : Int) ≤ 9223372036854775807 := by
  simp only [maxLen_eq] at h; omega
theorem okN_ls {l : List Int} (h : l.length ≤ maxLen ∧ ∀ x ∈ l, okI .i64 x) : okN (lsN l) := okN_cons.2 ⟨len_ok h.1, fun x hx => okI_i64 (h.2 x hx)⟩
theorem okN_cnt {α : Type} {l : List α} {f : α → List Int} (h : l.length ≤ maxLen) (hf : ∀ x ∈ l, okN (f x)) : okN (cnt l f) := okN_app.2 ⟨okN_cons.2 ⟨len_ok h, okN_nil⟩, okN_flat hf⟩
theorem bit_ok (b : Bool) : -9223372036854775808 ≤ bitN b ∧ bitN b ≤ 9223372036854775807 := by cases b <;> decide
theorem w64_ok (n : Int) : -9223372036854775808 ≤ w64 n ∧ w64 n ≤ 9223372036854775807 := by
  have : w64 n = (n + 9223372036854775808) % 18446744073709551616 - 9223372036854775808 := IntKind.wrap_i64 n
  omega
theorem ok_cl {c : api_Claim} (h : Ok_api_Claim c) : okN (clN c) := by
  obtain ⟨h1, h2, h3, h4, _⟩ := h
  simp only [clN, okN_cons]
  exact ⟨okI_i64 h1, okI_i64 h2, okI_i64 h3, okI_i64 h4, bit_ok _, okN_nil⟩
theorem ok_ev {e : api_Event} (h : Ok_api_Event e) : okN (evN e) := by
  obtain ⟨h1, h2, h3, h4, h5, h6, h7, h8, h9⟩ := h
  simp only [evN, okN_app, okN_cons]
  exact ⟨⟨okI_i64 h1, okI_i64 h2, okI_i64 h3, okI_i64 h4, okI_i64 h5, okI_i64 h6, okI_i64 h7, okI_i64 h8, okN_nil⟩, okN_ls h9⟩
theorem ok_pr {p : api_Proc} (h : Ok_api_Proc p) : okN (prN p) := by
  obtain ⟨h1, h2, h3, h4, h5, h6, h7⟩ := h
  simp only [prN, okN_app, okN_cons]
  exact ⟨⟨okI_i64 h1, okI_i64 h2, okI_i64 h3, okN_nil⟩, okN_ls h4, okI_i64 h5, okI_i64 h6, okI_i64 h7, okN_nil⟩
theorem ok_rs {r : api_Resource} (h : Ok_api_Resource r) : okN (rsN r) := by
  obtain ⟨h1, _, h3, h4, h5⟩ := h
  simp only [rsN, okN_app, okN_cons]
  exact ⟨⟨okI_i64 h1, bit_ok _, okN_nil⟩, okN_cnt h3.1 fun x hx => ok_cl (h3.2 x hx), okN_cnt h4.1 fun x hx => ok_cl (h4.2 x hx), okI_i64 h5, okN_nil⟩
theorem ok_so {v : api_Store} (h : Ok_api_Store v) : okN (soN v) := by
  obtain ⟨h1, h2, h3, h4, h5, h6, h7⟩ := h
  simp only [soN, okN_app, okN_cons]
  exact ⟨⟨okI_i64 h1, okI_i64 h2, okN_nil⟩, okN_ls h3, ⟨len_ok h4.1, okN_nil⟩, okN_flat fun x hx => (by
    obtain ⟨k1, k2⟩ := h4.2 x hx
    simp only [rdN, okN_cons]
    exact ⟨okI_i64 k1, okI_i64 k2, okN_nil⟩), okN_ls h5, okI_i64 h6, okI_i64 h7, okN_nil⟩
theorem ok_be {b : api_Belt} (h : Ok_api_Belt b) : okN (beN b) := by
  obtain ⟨h1, h2, h3, h4⟩ := h
  simp only [beN, okN_app, okN_cons]
  exact ⟨⟨okI_i64 h1, okI_i64 h2, len_ok h3.1, okN_nil⟩, okN_flat fun x hx => (by
    obtain ⟨k1, k2, k3⟩ := h3.2 x hx
    simp only [riN, okN_cons]
    exact ⟨okI_i64 k1, okI_i64 k2, okI_i64 k3, okN_nil⟩), okI_i64 h4, okN_nil⟩
theorem ok_st {s : api_State} (h : Ok_api_State s) : okN (stN s) := by
  obtain ⟨h1, h2, h3, h4, h5, h6, h7, h8, h9, h10, h11, h12, h13, h14, h15, h16, h17, h18⟩ := h
  simp only [stN, dyN, obN, saN, okN_app, okN_cons]
  exact ⟨⟨okI_i64 h1, okI_i64 h2, okI_i64 h3, okN_nil⟩, ⟨okN_cnt h4.1 fun x hx => ok_ev (h4.2 x hx), okN_cnt h5.1 fun x hx => ok_pr (h5.2 x hx)⟩, ⟨okI_i64 h6, okN_nil⟩, okN_ls h7,
    ⟨okN_cnt h8.1 fun x hx => ok_rs (h8.2 x hx), okN_cnt h9.1 fun x hx => ok_so (h9.2 x hx), okN_cnt h10.1 fun x hx => ok_be (h10.2 x hx), okN_cnt h11.1 fun x hx => okN_ls (h11.2 x hx)⟩,
    okN_cnt h12.1 fun x hx => (by
      obtain ⟨_, k2, _⟩ := h12.2 x hx
      simp only [srN, okN_cons]
      exact ⟨w64_ok _, w64_ok _, okI_i64 k2, bit_ok _, okN_nil⟩),
    okN_cnt h13.1 fun x hx => (by
      obtain ⟨k1, k2, k3, k4, k5⟩ := h13.2 x hx
      simp only [taN, okN_cons]
      exact ⟨okI_i64 k1, okI_i64 k2, okI_i64 k3, okI_i64 k4, okI_i64 k5, okN_nil⟩),
    okN_cnt h14.1 fun x hx => (by
      obtain ⟨k1, k2, k3, k4, k5, k6⟩ := h14.2 x hx
      simp only [leN, okN_cons]
      exact ⟨okI_i64 k1, okI_i64 k2, okI_i64 k3, okI_i64 k4, okI_i64 k5, okI_i64 k6, okN_nil⟩),
    okN_ls h15, okN_ls h16, okN_ls h17, okI_i64 h18, okN_nil⟩
theorem ok_wo {w : api_World} (h : Ok_api_World w) : okN (woN w) := okN_cnt h.1 fun x hx => ok_st (h.2 x hx)
theorem flat_len {α : Type} {f : α → List Int} {g : α → Nat} (h : ∀ x, (f x).length ≤ g x) : ∀ l : List α, (l.flatMap f).length ≤ sumL g l
  | [] => by simp [sumL]
  | x :: l => by
    rw [List.flatMap_cons, List.length_append, sumL]
    have := h x
    have := flat_len h l
    omega
theorem cnt_len {α : Type} {f : α → List Int} {g : α → Nat} (h : ∀ x, (f x).length ≤ g x) (l : List α) : (cnt l f).length ≤ sumL g l + 1 := by
  have := flat_len h l
  simp only [cnt, List.length_append, List.length_singleton]
  omega
theorem one_len (l : List Int) : (lsN l).length ≤ sumL (fun (z : Int) => 1) l + 1 := by
  have := sumL_len (g := fun (z : Int) => 1) (l := l) (fun _ => Nat.le_refl 1)
  simp only [lsN, List.length_cons]
  omega
theorem st_len (s : api_State) : (stN s).length ≤ bk_api_State s := by
  have e1 := cnt_len (f := evN) (g := bk_api_Event) (fun e => by
    have := one_len e.Args
    simp only [evN, bk_api_Event, List.length_append, List.length_cons, List.length_nil]; omega) s.Agenda
  have e2 := cnt_len (f := prN) (g := bk_api_Proc) (fun p => by
    have := one_len p.Slots
    simp only [prN, bk_api_Proc, List.length_append, List.length_cons, List.length_nil]; omega) s.Procs
  have c1 : ∀ l : List api_Claim, (cnt l clN).length ≤ sumL bk_api_Claim l + 1 := cnt_len fun c => by
    simp only [clN, bk_api_Claim, List.length_cons, List.length_nil]; omega
  have e3 := cnt_len (f := rsN) (g := bk_api_Resource) (fun r => by
    have := c1 r.Holders
    have := c1 r.Queue
    simp only [rsN, bk_api_Resource, List.length_append, List.length_cons, List.length_nil]; omega) s.Resources
  have e4 := cnt_len (f := soN) (g := bk_api_Store) (fun v => by
    have := one_len v.Items
    have := one_len v.Getters
    have := flat_len (f := rdN) (g := bk_api_Ready) (fun y => by simp only [rdN, bk_api_Ready, List.length_cons, List.length_nil]; omega) v.Putters
    simp only [soN, bk_api_Store, List.length_append, List.length_cons, List.length_nil]; omega) s.Stores
  have e5 := cnt_len (f := beN) (g := bk_api_Belt) (fun v => by
    have := flat_len (f := riN) (g := bk_api_Rider) (fun y => by simp only [riN, bk_api_Rider, List.length_cons, List.length_nil]; omega) v.Riders
    simp only [beN, bk_api_Belt, List.length_append, List.length_cons, List.length_nil]; omega) s.Belts
  have e6 := cnt_len (f := lsN) (g := fun (z : List Int) => (sumL (fun (z : Int) => 1) z + 1)) (fun l => one_len l) s.Queues
  have e7 := cnt_len (f := srN) (g := bk_api_Stream) (fun v => by simp only [srN, bk_api_Stream, List.length_cons, List.length_nil]; omega) s.Streams
  have e8 := cnt_len (f := taN) (g := bk_api_Tally) (fun v => by simp only [taN, bk_api_Tally, List.length_cons, List.length_nil]; omega) s.Tallies
  have e9 := cnt_len (f := leN) (g := bk_api_Level) (fun v => by simp only [leN, bk_api_Level, List.length_cons, List.length_nil]; omega) s.Levels
  have f1 := one_len s.Vars
  have f2 := one_len s.Counts
  have f3 := one_len s.Created
  have f4 := one_len s.Ended
  simp only [stN, dyN, obN, saN, bk_api_State, List.length_append, List.length_cons, List.length_nil]
  omega
theorem wo_len (w : api_World) : (woN w).length ≤ bk_api_World w := by
  have := cnt_len st_len w.Sites
  simp only [woN, bk_api_World]
  omega
/-- a world within the bulk is written -/
theorem wo_fits {w : api_World} (h : Ok_api_World w) (hb : bk_api_World w ≤ 1048576) : fits [] (woN w) := ⟨ok_wo h, by
  have := wo_len w
  simp only [List.length_nil]; omega⟩
theorem sm1 (L : Nat) (a : api_State) : ∀ (k : List api_Resource) (i : Nat) (v : Bool), ∃ o, lq_R30_Small_1 L a k i v = some o ∧ (o.1 = 0 ∨ o.1 = 1)
  | [], i, v => ⟨_, rfl, .inr rfl⟩
  | x :: k, i, v => by
    rw [lq_R30_Small_1]
    cases decide (w64 ((x.Holders.length : Int) + (x.Queue.length : Int)) > 60) with
    | true => exact ⟨_, rfl, .inl rfl⟩
    | false => exact sm1 L a k (i + 1) v
theorem sm2 (L : Nat) (a : api_State) : ∀ (k : List api_Store) (i : Nat) (v : Bool), ∃ o, lq_R30_Small_2 L a k i v = some o ∧ (o.1 = 0 ∨ o.1 = 1)
  | [], i, v => ⟨_, rfl, .inr rfl⟩
  | x :: k, i, v => by
    rw [lq_R30_Small_2]
    cases decide (w64 (w64 ((x.Items.length : Int) + (x.Putters.length : Int)) + (x.Getters.length : Int)) > 100) with
    | true => exact ⟨_, rfl, .inl rfl⟩
    | false => exact sm2 L a k (i + 1) v
theorem sm3 (L : Nat) (a : api_State) : ∀ (k : List api_Belt) (i : Nat) (v : Bool), ∃ o, lq_R30_Small_3 L a k i v = some o ∧ (o.1 = 0 ∨ o.1 = 1)
  | [], i, v => ⟨_, rfl, .inr rfl⟩
  | x :: k, i, v => by
    rw [lq_R30_Small_3]
    cases decide ((x.Riders.length : Int) > 60) with
    | true => exact ⟨_, rfl, .inl rfl⟩
    | false => exact sm3 L a k (i + 1) v
theorem sm4 (L : Nat) (a : api_State) : ∀ (k : List (List Int)) (i : Nat) (v : Bool), ∃ o, lq_R30_Small_4 L a k i v = some o ∧ (o.1 = 0 ∨ o.1 = 1)
  | [], i, v => ⟨_, rfl, .inr rfl⟩
  | x :: k, i, v => by
    rw [lq_R30_Small_4]
    cases decide ((x.length : Int) > 60) with
    | true => exact ⟨_, rfl, .inl rfl⟩
    | false => exact sm4 L a k (i + 1) v
theorem ok_Small {L : Nat} (hL : maxLen < L) {s : api_State} (h : Ok_api_State s) : ∃ t, F_R30_Small L s = some t := by
  obtain ⟨_, _, _, _, _, _, _, ⟨h8, _⟩, ⟨h9, _⟩, ⟨h10, _⟩, ⟨h11, _⟩, _⟩ := h
  simp only [T_R30_Small, wx_R30_Small_1, rx_R30_Small_1, wx_R30_Small_2, rx_R30_Small_2, wx_R30_Small_3, rx_R30_Small_3, wx_R30_Small_4, rx_R30_Small_4, F_R30_Small, wx_R30_Small_1, rx_R30_Small_1, wx_R30_Small_2, rx_R30_Small_2, wx_R30_Small_3, rx_R30_Small_3, wx_R30_Small_4, rx_R30_Small_4, aN, aB]
  generalize (bif _ then true else _ : Bool) = c
  cases c with
  | true => exact ⟨_, rfl⟩
  | false =>
    obtain ⟨o1, e1, q1⟩ := sm1 L s s.Resources 0 false
    rw [cond_false, lq0_R30_Small_1 L s L h8 (by omega), e1, Option.bind_some]
    rcases q1 with q1 | q1 <;> rw [q1] <;> simp only [selo]
    · exact ⟨_, rfl⟩
    obtain ⟨o2, e2, q2⟩ := sm2 L s s.Stores 0 o1.2.1
    rw [lq0_R30_Small_2 L s L h9 (by omega), e2, Option.bind_some]
    rcases q2 with q2 | q2 <;> rw [q2] <;> simp only [selo]
    · exact ⟨_, rfl⟩
    obtain ⟨o3, e3, q3⟩ := sm3 L s s.Belts 0 o2.2.1
    rw [lq0_R30_Small_3 L s L h10 (by omega), e3, Option.bind_some]
    rcases q3 with q3 | q3 <;> rw [q3] <;> simp only [selo]
    · exact ⟨_, rfl⟩
    obtain ⟨o4, e4, q4⟩ := sm4 L s s.Queues 0 o3.2.1
    rw [lq0_R30_Small_4 L s L h11 (by omega), e4, Option.bind_some]
    rcases q4 with q4 | q4 <;> rw [q4] <;> simp only [selo]
    · exact ⟨_, rfl⟩
    exact ⟨_, rfl⟩
end Go.Proofs.YtpdlcbmnmeihoaaGreatDoor.Ev
namespace Go.Proofs.YtpdlcbmnmeihoaaGreatDoor.Ev
open Go An
/-- bytes with their sum -/
def sealB (l : List Int) : List Int := l ++ tail4 (crcV l)
theorem ok_Save {L : Nat} (hL : maxLen < L) {w : api_World} (h : Ok_api_World w) (hf : fits [] (woN w)) : F_checkpoint_Save L w = some (if w.Sites.length ≤ 16 then (sealB (bs (woN w)), 0) else ([], 2)) := by
  have hl := bs_len (woN w)
  have h1 := hf.2
  have hm : 1099511627800 ≤ maxLen := by simp only [maxLen_eq]; omega
  have hb := bs_byte hf.1
  have hc := crcV_lt hb
  simp only [List.length_nil] at h1
  have e1 : IntKind.wrap .u32 ((crcV (bs (woN w)) : Nat) : Int) = ((crcV (bs (woN w)) : Nat) : Int) := by rw [IntKind.wrap_u32']; omega
  simp only [T_checkpoint_Save, F_checkpoint_Save, aN, aB]
  by_cases hs : w.Sites.length ≤ 16
  · rw [if_pos hs, decide_eq_false (show ¬ ((w.Sites.length : Int) > 16) by omega), cond_false]
    rw [show (⟨w.Sites⟩ : api_World) = w from rfl, ok_body hL w h hf]
    simp only [Option.bind_some, ok_Sum hL (show (bs (woN w)).length ≤ maxLen by omega) hb, e1, tail_eq hc]
    rw [if_pos (show ((bs (woN w)).length + (tail4 (crcV (bs (woN w)))).length) * 1 ≤ 140737488355328 by simp only [tail4, List.length_cons, List.length_nil]; omega), if_pos (show (bs (woN w)).length + (tail4 (crcV (bs (woN w)))).length ≤ maxLen by simp only [tail4, List.length_cons, List.length_nil]; omega)]
    rfl
  · rw [if_neg hs, decide_eq_true (show ((w.Sites.length : Int) > 16) by omega), cond_true]
theorem ok_rSave {L : Nat} (hL : maxLen < L) {w : api_World} (h : Ok_api_World w) (hf : fits [] (woN w)) : F_R45_Save L w = some (if w.Sites.length ≤ 16 then (sealB (bs (woN w)), 0) else ([], 2)) := by
  have hl := bs_len (woN w)
  have h1 := hf.2
  have hm : 1099511627800 ≤ maxLen := by simp only [maxLen_eq]; omega
  have hb := bs_byte hf.1
  have hc := crcV_lt hb
  simp only [List.length_nil] at h1
  simp only [T_R45_Save, F_R45_Save, aN, aB]
  by_cases hs : w.Sites.length ≤ 16
  · rw [if_pos hs, decide_eq_false (show ¬ ((w.Sites.length : Int) > 16) by omega), cond_false]
    rw [show (⟨w.Sites⟩ : api_World) = w from rfl, ok_rBody hL w h hf]
    simp only [T_R45_Sealed, F_R45_Sealed, aN, aB, Option.bind_some, ok_rSum hL (show (bs (woN w)).length ≤ maxLen by omega) hb, tail_eq hc]
    rw [if_pos (show (0 + (bs (woN w)).length) * 1 ≤ 140737488355328 by omega), if_pos (show 0 + (bs (woN w)).length ≤ maxLen by omega), if_pos (show ((bs (woN w)).length + (tail4 (crcV (bs (woN w)))).length) * 1 ≤ 140737488355328 by simp only [tail4, List.length_cons, List.length_nil]; omega), if_pos (show (bs (woN w)).length + (tail4 (crcV (bs (woN w)))).length ≤ maxLen by simp only [tail4, List.length_cons, List.length_nil]; omega)]
    rfl
  · rw [if_neg hs, decide_eq_true (show ((w.Sites.length : Int) > 16) by omega), cond_true]
theorem ok_Digest {L : Nat} (hL : maxLen < L) {w : api_World} (h : Ok_api_World w) (hf : fits [] (woN w)) : F_checkpoint_Digest L w = some (if w.Sites.length ≤ 16 then ((crcV (bs (woN w)) : Nat) : Int) else 0) := by
  have hl := bs_len (woN w)
  have h1 := hf.2
  have hm : 1099511627800 ≤ maxLen := by simp only [maxLen_eq]; omega
  simp only [List.length_nil] at h1
  simp only [T_checkpoint_Digest, F_checkpoint_Digest, aN, aB]
  by_cases hs : w.Sites.length ≤ 16
  · rw [if_pos hs, decide_eq_false (show ¬ ((w.Sites.length : Int) > 16) by omega), cond_false]
    rw [show (⟨w.Sites⟩ : api_World) = w from rfl, ok_body hL w h hf]
    simp only [Option.bind_some, ok_Sum hL (show (bs (woN w)).length ≤ maxLen by omega) (bs_byte hf.1)]
  · rw [if_neg hs, decide_eq_true (show ((w.Sites.length : Int) > 16) by omega), cond_true]
theorem ok_rDigest {L : Nat} (hL : maxLen < L) {w : api_World} (h : Ok_api_World w) (hf : fits [] (woN w)) : F_R45_Digest L w = some (if w.Sites.length ≤ 16 then ((crcV (bs (woN w)) : Nat) : Int) else 0) := by
  have hl := bs_len (woN w)
  have h1 := hf.2
  have hm : 1099511627800 ≤ maxLen := by simp only [maxLen_eq]; omega
  simp only [List.length_nil] at h1
  simp only [T_R45_Digest, F_R45_Digest, aN, aB]
  by_cases hs : w.Sites.length ≤ 16
  · rw [if_pos hs, decide_eq_false (show ¬ ((w.Sites.length : Int) > 16) by omega), cond_false]
    rw [show (⟨w.Sites⟩ : api_World) = w from rfl, ok_rBody hL w h hf]
    simp only [Option.bind_some, ok_rSum hL (show (bs (woN w)).length ≤ maxLen by omega) (bs_byte hf.1)]
  · rw [if_neg hs, decide_eq_true (show ((w.Sites.length : Int) > 16) by omega), cond_true]
theorem sv_loop {L : Nat} (hL : maxLen < L) (a : api_World) : ∀ (k : List api_State) (i : Nat) (v : Bool), (∀ x ∈ k, Ok_api_State x) → ∃ o, lq_L45_CheckpointSaves_1 L a k i v = some o ∧ ((o.1 = 0 ∧ o.2.1 = true) ∨ o.1 = 1)
  | [], i, v, _ => ⟨_, rfl, .inr rfl⟩
  | x :: k, i, v, h => by
    obtain ⟨t, e⟩ := ok_Small hL (h x (by simp))
    rw [lq_L45_CheckpointSaves_1, e]
    cases t with
    | true => exact sv_loop hL a k (i + 1) v fun y hy => h y (by simp [hy])
    | false => exact ⟨_, rfl, .inl ⟨rfl, rfl⟩⟩
theorem law_CheckpointSaves (w : api_World) (h : Ok_api_World w) (hb : bk_api_World w ≤ 1048576) : ∃ L, F_L45_CheckpointSaves L w = some true := by
  refine ⟨maxLen + 1, ?_⟩
  have hL : maxLen < maxLen + 1 := by omega
  generalize maxLen + 1 = L at hL ⊢
  have hf := wo_fits h hb
  simp only [T_L45_CheckpointSaves, wx_L45_CheckpointSaves_1, rx_L45_CheckpointSaves_1, F_L45_CheckpointSaves, wx_L45_CheckpointSaves_1, rx_L45_CheckpointSaves_1, aN, aB]
  cases decide ((w.Sites.length : Int) > 20) with
  | true => rfl
  | false =>
    obtain ⟨o, e, q⟩ := sv_loop hL w w.Sites 0 false h.2
    rw [cond_false, lq0_L45_CheckpointSaves_1 L w L h.1 (by have := h.1; omega), e, Option.bind_some]
    rcases q with ⟨q1, q2⟩ | q1
    · rw [q1]; simp only [selo, q2]
    · rw [q1]
      simp only [selo, show (⟨w.Sites⟩ : api_World) = w from rfl, ok_Save hL h hf, ok_rSave hL h hf, ok_Digest hL h hf, ok_rDigest hL h hf, Option.bind_some, beq_self_eq_true, cond_true]
      rfl
end Go.Proofs.YtpdlcbmnmeihoaaGreatDoor.Ev
