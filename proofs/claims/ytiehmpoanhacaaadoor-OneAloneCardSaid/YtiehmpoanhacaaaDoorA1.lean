/-
  A thread that is alone, with the sequencer of one producer: the law over the chains.
-/
import Derived.Test.YtiehmpoanhacaaaDoorS1
set_option maxRecDepth 100000
set_option linter.unusedVariables false
set_option linter.unusedSimpArgs false
set_option maxHeartbeats 1000000
namespace Go.Proofs.YtiehmpoanhacaaaDoor
open Go Go.Proofs.SakAm
attribute [local congr] obind_c condK_c ifD_c

/-- What the law's frame has as it goes round. -/
structure A1 (xs : Value) (ci b s : Nat) (most pos i n : Int) (a : Fr) : Prop where
  h1 : a 1 = xs
  h5 : a 5 = ptr ci
  h8 : a 8 = ptr b
  h10 : a 10 = ptr s
  h11 : a 11 = .int .i64 most
  h12 : a 12 = .int .u64 pos
  h13 : a 13 = .int .i64 i
  h14 : a 14 = .int .i64 n

/-- The same, before the round's number is there. -/
structure A0 (xs : Value) (ci b s : Nat) (most pos i : Int) (a : Fr) : Prop where
  h1 : a 1 = xs
  h5 : a 5 = ptr ci
  h8 : a 8 = ptr b
  h10 : a 10 = ptr s
  h11 : a 11 = .int .i64 most
  h12 : a 12 = .int .u64 pos
  h13 : a 13 = .int .i64 i
theorem A1.a0 {xs : Value} {ci b s : Nat} {most pos i n : Int} {a : Fr} (A : A1 xs ci b s most pos i n a) : A0 xs ci b s most pos i a := ⟨A.h1, A.h5, A.h8, A.h10, A.h11, A.h12, A.h13⟩

section
variable {K : Kept} {L : List Asrt} {s b lg ci : Nat} {cv : Cf} {ev xs : Value} {l : Ly} {r : Nat} {most pos i n : Int}

/-- What stays as it is. -/
structure E1 (K : Kept) (cv : Cf) (ev : Value) (l : Ly) (r : Nat) (most : Int) : Prop where
  g : GoodL l r
  r3 : r ≤ 3
  rd : RdSl K ev 1 (rng r).length (ints (rng r))
  cap : cv.cap = l.cap
  prod : cv.prod = 1
  var : l.var = 1
  up : alen cv.up = some (.int .i64 r)
  m0 : (r : Int) + 8 ≤ most
  m1 : most ≤ 1000

theorem rng_len (r : Nat) : (rng r).length = r := by simp [rng]
theorem rng_at {r : Nat} {j : Int} (h0 : 0 ≤ j) (h1 : j < r) : at_ (rng r) j = j := by
  have : j.toNat < r := by omega
  simp [at_, rng, List.getD, this]
  omega

theorem E1.kinds {l : Ly} {r : Nat} (e : E1 K cv ev l r most) : l.cursor = r ∧ l.slots = r + 1 ∧ (∀ c : Int, 0 ≤ c → c < l.slots → l.kind c = 1) := by
  have hg := e.g.eq
  have hv : l.cf.var = 1 := e.var
  unfold mkLy at hg
  rw [if_pos hv] at hg
  have e1 := congrArg Ly.slots hg; have e2 := congrArg Ly.cells hg; have e3 := congrArg Ly.next hg; have e4 := congrArg Ly.cursor hg
  simp only at e1 e2 e3 e4
  have hc := e.g.slots
  refine ⟨e4, e1, fun c h0 h1 => ?_⟩
  unfold Ly.kind
  rw [if_pos (by omega), if_neg (by omega), if_neg (by omega)]

def reg (n pos : Int) : Rg := ⟨0, n, 0, 0, 0, 0, pos, 0, 0, 0⟩

/-- The gates are at a position. -/
def AtAll (S : Sq) (r : Nat) (pos : Int) : Prop := S.bd.has.length = r + 1 ∧ ∀ c : Int, 0 ≤ c → c < r → at_ S.bd.has c = pos

def sc1 (l : Ly) (r : Nat) : Sc := ⟨.u64, l.cap, rng r, l.cursor, l.marks⟩

theorem exit1 {H H1 : Heap} {fi : Nat} {ft : TypeId} {f : Rg} {S : Sq} {st : Int} (e1 : C F.seqone_Seq_Claim_u64 [ptr s, .int .i64 0, ptr fi] H = some (.bool true, H1)) (hst : st ≤ most) (hf : f.fr = pos)
    (own : Own K H1 (Sy1_u64 s b lg cv ev l S fi ft [] f [] L)) :
    ∃ (gi : Nat) (H' : Heap), (∀ a, A1 xs ci b s most pos i n a → a 15 = ptr fi → a 16 = .int .i64 st → ∃ a', A1 xs ci b s most pos i n a' ∧ a' 17 = ptr gi ∧ a' 16 = .int .i64 1 ∧ R F.sakialaw19_OneAlone.f F.sakialaw19_OneAlone.b1 a H = R F.sakialaw19_OneAlone.f F.sakialaw19_OneAlone.b2 a' H') ∧
        Own K H' (Sy1_u64 s b lg cv ev l S gi T.api_Frame_u64 [] (reg n pos) [] L) := by
  have f6 := rg_ld (own.up 3) (m := 6) (v := .int .u64 f.fr) rfl
  rw [hf] at f6
  obtain ⟨gi, H2, e2, own2⟩ := mkbox_own own T.api_Frame_u64 (.agg (Rg.cells .u64 (reg n pos)).toArray) (Rg.cells .u64 (reg n pos)) (by simp) (by simp [Rg.cells])
  -- [g, One, Bo, Log, Rg f]
  have own3 : Own K H2 (Sy1_u64 s b lg cv ev l S gi T.api_Frame_u64 [] (reg n pos) [] L) := ((own2.up 4).tl).dn 3
  refine ⟨gi, H2, fun a A h15 h16 => ?_, own3⟩
  rw [F.sakialaw19_OneAlone.e1, A.h10, A.h11, A.h12, A.h14, h15, h16]
  simp only [Rg.cells, reg] at e2
  simp only [ptr, List.length_nil, Nat.zero_add] at *
  simp -implicitDefEqProofs [-ld1_ptr, hst, e1, show ¬ most < st from by omega, f6, fillL, splice, e2]
  refine ⟨_, ⟨?_, ?_, ?_, ?_, ?_, ?_, ?_, ?_⟩, ?_, ?_, rfl⟩ <;> simp [put, A.h1, A.h5, A.h8, A.h10, A.h11, A.h12, A.h13, A.h14, ptr]

/-- Claims, as a scan goes on. -/
theorem alone1_scan (e : E1 K cv ev l r most) (hn0 : 1 ≤ n) (hn1 : n ≤ l.cap) (hp : InR .u64 pos) {fi : Nat} {ft : TypeId} :
    ∀ (m j : Nat), j + m + 1 = r → ∀ (st : Int) (H : Heap) (S : Sq) (f : Rg) (N : Nat), 1 ≤ st → st + m ≤ most → SqB .u64 S N → N + 2 * m + 2 ≤ 900000 → AtAll S r pos → S.next = pos →
      f.pc = 1 → f.i = j → f.fr = pos → f.n = n → InR .u64 f.mn → (0 < j → f.mn = pos) → Own K H (Sy1_u64 s b lg cv ev l S fi ft [] f [] L) →
      ∃ (gi : Nat) (H' : Heap) (S' : Sq), SqB .u64 S' (N + 2 * m + 2) ∧ S'.bd.has = S.bd.has ∧ S'.next = wadd .u64 pos n ∧
        (∀ a, A1 xs ci b s most pos i n a → a 15 = ptr fi → a 16 = .int .i64 st → ∃ a', A1 xs ci b s most pos i n a' ∧ a' 17 = ptr gi ∧ a' 16 = .int .i64 1 ∧ R F.sakialaw19_OneAlone.f F.sakialaw19_OneAlone.b1 a H = R F.sakialaw19_OneAlone.f F.sakialaw19_OneAlone.b2 a' H') ∧
        Own K H' (Sy1_u64 s b lg cv ev l S' gi T.api_Frame_u64 [] (reg n pos) [] L) := by
  have hk := e.kinds
  have hs := e.g.slots
  have hu : one l.up = true := e.g.c.up
  have r3 := e.r3
  intro m
  induction m with
  | zero =>
    intro j hj st H S f N hst hmost hB hN hat hnx hpc hi hfr hfn hm hmn own
    have hv : at_ S.bd.has (at_ (rng r) f.i) = pos := by rw [hi, rng_at (by omega) (by omega)]; exact hat.2 _ (by omega) (by omega)
    have hcl := claim1_u64 own e.rd hu (hB.sq (by omega)) 0 (by rw [hfr]; exact hp) hm (by rw [rng_len]; omega) (by rw [rng_len]; omega) (fun _ => by rw [hi, rng_len]; omega)
      (fun c hc => by
        obtain ⟨x, hx, rfl⟩ := List.mem_map.1 hc
        have := List.mem_range.1 hx
        exact ⟨by omega, by rw [hat.1]; omega, hk.2.2 _ (by omega) (by omega)⟩) (sc1 l r) ⟨rfl, by simp only [sc1, e.cap], rfl⟩ ⟨by omega, by rw [e.prod]; omega, by rw [hfn]; omega, by rw [hfn, e.cap]; omega⟩
    have hsc : scanP .u64 S.bd 0 (rng r) f = (S.bd.look 0 1 (at_ (rng r) f.i), { f with mn := pos, i := 0 }, true) := by
      unfold scanP
      rw [rng_len, if_neg (by omega)]
      simp only [hv]
      rw [if_neg (by omega)]
      by_cases p : f.i = 0 ∨ wdiff .u64 pos f.mn < 0
      · rw [if_pos p]
      · rw [if_neg p]
        have : f.mn = pos := hmn (by omega)
        rw [← this]
    have hoc : oneClaim (sc1 l r) S 0 f = oneGrant (sc1 l r) { S with bd := S.bd.look 0 1 (at_ (rng r) f.i), least := [pos] } 0 { f with mn := pos, i := 0 } := by
      unfold oneClaim oneScan
      rw [if_pos hpc]
      simp only [sc1, hsc, if_true]
      rw [hfr, hfn, if_pos (fits_self64 l.cap pos n hp (by omega) hn1 (by omega))]
    obtain ⟨H1, e1, own1⟩ := hcl
    rw [hoc] at e1 own1
    obtain ⟨gi, H2, run, own2⟩ := exit1 (i := i) (n := n) (pos := pos) (xs := xs) (ci := ci) (most := most) (st := st) (f := { f with mn := pos, i := 0, pc := 0 }) e1 (by omega) hfr own1
    refine ⟨gi, H2, _, ?_, ?_, ?_, run, own2⟩
    · have h1 := hB.log; have h2 := hB.ev
      exact ⟨hB.ok, inR_wrap64 _, fun x hx => by simp [oneGrant, Sq.take, Sq.grant] at hx; rw [hx]; exact hp, by simp [oneGrant, Sq.take, Sq.grant, Bd.look, Bd.note]; omega, by simp [oneGrant, Sq.take, Sq.grant]; omega⟩
    · rfl
    · simp only [oneGrant, Sq.take, Sq.grant, sc1, hnx, hfn]
  | succ m ih =>
    intro j hj st H S f N hst hmost hB hN hat hnx hpc hi hfr hfn hm hmn own
    have hv : at_ S.bd.has (at_ (rng r) f.i) = pos := by rw [hi, rng_at (by omega) (by omega)]; exact hat.2 _ (by omega) (by omega)
    have hcl := claim1_u64 own e.rd hu (hB.sq (by omega)) 0 (by rw [hfr]; exact hp) hm (by rw [rng_len]; omega) (by rw [rng_len]; omega) (fun _ => by rw [hi, rng_len]; omega)
      (fun c hc => by
        obtain ⟨x, hx, rfl⟩ := List.mem_map.1 hc
        have := List.mem_range.1 hx
        exact ⟨by omega, by rw [hat.1]; omega, hk.2.2 _ (by omega) (by omega)⟩) (sc1 l r) ⟨rfl, by simp only [sc1, e.cap], rfl⟩ ⟨by omega, by rw [e.prod]; omega, by rw [hfn]; omega, by rw [hfn, e.cap]; omega⟩
    have hsc : scanP .u64 S.bd 0 (rng r) f = (S.bd.look 0 1 (at_ (rng r) f.i), { f with mn := pos, i := f.i + 1 }, false) := by
      unfold scanP
      rw [rng_len, if_neg (by omega)]
      simp only [hv]
      rw [if_pos (by omega)]
      by_cases p : f.i = 0 ∨ wdiff .u64 pos f.mn < 0
      · rw [if_pos p]
      · rw [if_neg p]
        have : f.mn = pos := hmn (by omega)
        rw [← this]
    have hoc : oneClaim (sc1 l r) S 0 f = ({ S with bd := S.bd.look 0 1 (at_ (rng r) f.i) }, { f with mn := pos, i := f.i + 1 }, false) := by
      unfold oneClaim oneScan
      rw [if_pos hpc]
      simp only [sc1, hsc]
      rfl
    obtain ⟨H1, e1, own1⟩ := hcl
    rw [hoc] at e1 own1
    have hB1 : SqB .u64 ({ S with bd := S.bd.look 0 1 (at_ (rng r) f.i) } : Sq) (N + 1) := ⟨hB.ok, hB.next, hB.least, by have := hB.log; simp [Bd.look, Bd.note]; omega, by have := hB.ev; simp; omega⟩
    obtain ⟨gi, H2, S', k1, k2, k3, run, own2⟩ := ih (j + 1) (by omega) (st + 1) H1 { S with bd := S.bd.look 0 1 (at_ (rng r) f.i) } { f with mn := pos, i := f.i + 1 } (N + 1) (by omega) (by omega) hB1 (by omega) hat hnx hpc (by simp only [hi]; omega) hfr hfn hp (fun _ => rfl) own1
    refine ⟨gi, H2, S', k1.up (by omega), k2, k3, fun a A h15 h16 => ?_, own2⟩
    have hs1 : IntKind.wrap .i64 (st + 1) = st + 1 := wi _ (by have := e.m1; omega) (by have := e.m1; omega)
    rw [F.sakialaw19_OneAlone.e1, A.h10, A.h11, h15, h16]
    simp only [ptr, List.length_nil] at *
    simp -implicitDefEqProofs [show st ≤ most from by omega, e1, hs1]
    refine run _ ⟨?_, ?_, ?_, ?_, ?_, ?_, ?_, ?_⟩ ?_ ?_ <;> simp [put, A.h1, A.h5, A.h8, A.h10, A.h11, A.h12, A.h13, A.h14, h15, ptr]

/-- A claim, from the beginning. -/
theorem alone1_claim (e : E1 K cv ev l r most) (hn0 : 1 ≤ n) (hn1 : n ≤ l.cap) (hp : InR .u64 pos) {fi : Nat} {ft : TypeId} {H : Heap} {S : Sq} {N : Nat} (hB : SqB .u64 S N) (hN : N ≤ 800000) (hat : AtAll S r pos) (hnx : S.next = pos)
    (own : Own K H (Sy1_u64 s b lg cv ev l S fi ft [] (reg n 0) [] L)) :
    ∃ (gi : Nat) (H' : Heap) (S' : Sq), SqB .u64 S' (N + 20) ∧ S'.bd.has = S.bd.has ∧ S'.next = wadd .u64 pos n ∧
        (∀ a, A1 xs ci b s most pos i n a → a 15 = ptr fi → a 16 = .int .i64 1 → ∃ a', A1 xs ci b s most pos i n a' ∧ a' 17 = ptr gi ∧ a' 16 = .int .i64 1 ∧ R F.sakialaw19_OneAlone.f F.sakialaw19_OneAlone.b1 a H = R F.sakialaw19_OneAlone.f F.sakialaw19_OneAlone.b2 a' H') ∧
        Own K H' (Sy1_u64 s b lg cv ev l S' gi T.api_Frame_u64 [] (reg n pos) [] L) := by
  have hk := e.kinds
  have hs := e.g.slots
  have hu : one l.up = true := e.g.c.up
  have r3 := e.r3
  have r0 := e.g.r0
  have hm0 := e.m0
  have hl := hB.log
  have hv := hB.ev
  have z0 : InR .u64 0 := by rw [inR64]; omega
  obtain ⟨H1, e1, own1⟩ := claim1_u64 own e.rd hu (hB.sq (by omega)) 0 z0 z0 (by rw [rng_len]; omega) (by rw [rng_len]; omega) (fun h => by simp [reg] at h)
      (fun c hc => by
        obtain ⟨x, hx, rfl⟩ := List.mem_map.1 hc
        have := List.mem_range.1 hx
        exact ⟨by omega, by rw [hat.1]; omega, hk.2.2 _ (by omega) (by omega)⟩) (sc1 l r) ⟨rfl, by simp only [sc1, e.cap], rfl⟩ ⟨by omega, by rw [e.prod]; omega, hn0, by rw [e.cap]; exact hn1⟩
  by_cases p : fitsP .u64 l.cap pos n (at_ S.least 0) = true
  · have hoc : oneClaim (sc1 l r) S 0 (reg n 0) = oneGrant (sc1 l r) S 0 (reg n pos) := by
      unfold oneClaim
      rw [if_neg (by simp [reg])]
      simp only [sc1, reg, p, if_true, hnx]
    rw [hoc] at e1 own1
    obtain ⟨gi, H2, run, own2⟩ := exit1 (i := i) (n := n) (pos := pos) (xs := xs) (ci := ci) (most := most) (st := 1) (f := reg n pos) e1 (by omega) rfl own1
    refine ⟨gi, H2, (oneGrant (sc1 l r) S 0 (reg n pos)).1, ⟨hB.ok, inR_wrap64 _, hB.least, ?_, ?_⟩, rfl, by simp only [oneGrant, Sq.take, Sq.grant, sc1, hnx, reg], run, own2⟩
    · simp [oneGrant, Sq.take, Sq.grant]; omega
    · simp [oneGrant, Sq.take, Sq.grant]; omega
  · have hoc : oneClaim (sc1 l r) S 0 (reg n 0) = oneScan (sc1 l r) S 0 { reg n pos with pc := 1 } := by
      unfold oneClaim
      rw [if_neg (by simp [reg])]
      simp only [sc1, reg, hnx]
      rw [if_neg p]
    have hv0 : at_ S.bd.has (at_ (rng r) 0) = pos := by rw [rng_at (by omega) (by omega)]; exact hat.2 _ (by omega) (by omega)
    by_cases h1 : r = 1
    · have hsc : scanP .u64 S.bd 0 (rng r) { reg n pos with pc := 1 } = (S.bd.look 0 1 (at_ (rng r) 0), { reg n pos with pc := 1, mn := pos, i := 0 }, true) :=
        scanP_last (k := .u64) (f := { reg n pos with pc := 1 }) (by simp [reg]) (by simp only [reg, rng_len]; omega) hv0 (if_pos (.inl rfl))
      have hos : oneScan (sc1 l r) S 0 { reg n pos with pc := 1 } = oneGrant (sc1 l r) { S with bd := S.bd.look 0 1 (at_ (rng r) 0), least := [pos] } 0 { reg n pos with pc := 1, mn := pos } := by
        unfold oneScan
        simp only [sc1, hsc, if_true]
        rw [if_pos (show fitsP .u64 l.cap (reg n pos).fr (reg n pos).n pos = true from fits_self64 l.cap pos n hp (by omega) hn1 (by omega))]
        rfl
      rw [hoc, hos] at e1 own1
      obtain ⟨gi, H2, run, own2⟩ := exit1 (i := i) (n := n) (pos := pos) (xs := xs) (ci := ci) (most := most) (st := 1) (f := { reg n pos with mn := pos }) e1 (by omega) rfl own1
      refine ⟨gi, H2, (oneGrant (sc1 l r) { S with bd := S.bd.look 0 1 (at_ (rng r) 0), least := [pos] } 0 { reg n pos with pc := 1, mn := pos }).1, ⟨hB.ok, inR_wrap64 _, fun x hx => ?_, ?_, ?_⟩, rfl, by simp only [oneGrant, Sq.take, Sq.grant, sc1, hnx, reg], run, own2⟩
      · simp [oneGrant, Sq.take, Sq.grant] at hx; rw [hx]; exact hp
      · simp [oneGrant, Sq.take, Sq.grant, Bd.look, Bd.note]; omega
      · simp [oneGrant, Sq.take, Sq.grant]; omega
    · have hsc : scanP .u64 S.bd 0 (rng r) { reg n pos with pc := 1 } = (S.bd.look 0 1 (at_ (rng r) 0), { reg n pos with pc := 1, mn := pos, i := 1 }, false) :=
        scanP_more (k := .u64) (f := { reg n pos with pc := 1 }) (by simp [reg]) (by simp only [reg, rng_len]; omega) hv0 (if_pos (.inl rfl))
      have hos : oneScan (sc1 l r) S 0 { reg n pos with pc := 1 } = ({ S with bd := S.bd.look 0 1 (at_ (rng r) 0) }, { reg n pos with pc := 1, mn := pos, i := 1 }, false) := by
        unfold oneScan
        simp only [sc1, hsc]
        rfl
      rw [hoc, hos] at e1 own1
      have hB1 : SqB .u64 ({ S with bd := S.bd.look 0 1 (at_ (rng r) 0) } : Sq) (N + 1) := ⟨hB.ok, hB.next, hB.least, by simp [Bd.look, Bd.note]; omega, by simp; omega⟩
      obtain ⟨gi, H2, S', k1, k2, k3, run, own2⟩ := alone1_scan (i := i) (xs := xs) (ci := ci) e hn0 hn1 hp (r - 2) 1 (by omega) 2 H1 { S with bd := S.bd.look 0 1 (at_ (rng r) 0) } { reg n pos with pc := 1, mn := pos, i := 1 } (N + 1) (by omega) (by omega) hB1 (by omega) hat hnx rfl rfl rfl rfl hp (fun _ => rfl) own1
      refine ⟨gi, H2, S', k1.up (by omega), k2, k3, fun a A h15 h16 => ?_, own2⟩
      have hs1 : IntKind.wrap .i64 2 = 2 := rfl
      rw [F.sakialaw19_OneAlone.e1, A.h10, A.h11, h15, h16]
      simp only [ptr, List.length_nil] at *
      simp -implicitDefEqProofs [show (1 : Int) ≤ most from by omega, e1, hs1]
      refine run _ ⟨?_, ?_, ?_, ?_, ?_, ?_, ?_, ?_⟩ ?_ ?_ <;> simp [put, A.h1, A.h5, A.h8, A.h10, A.h11, A.h12, A.h13, A.h14, h15, ptr, hs1]

def regv (pos : Int) : Rg := ⟨0, 0, 0, 0, 0, 0, 0, 0, pos, 0⟩

/-- What was claimed is published. -/
theorem alone1_pub (e : E1 K cv ev l r most) (hn0 : 1 ≤ n) (hn1 : n ≤ l.cap) (hp : InR .u64 pos) {gi : Nat} {ft : TypeId} {H : Heap} {S : Sq} {N : Nat} (hB : SqB .u64 S N) (hN : N ≤ 800000) (hlen : S.bd.has.length = r + 1)
    (own : Own K H (Sy1_u64 s b lg cv ev l S gi ft [] (reg n pos) [] L)) :
    ∃ (hi : Nat) (H' : Heap) (S' : Sq), SqB .u64 S' (N + 1) ∧ S'.bd.has = put_ S.bd.has r (wadd .u64 pos n) ∧ S'.next = S.next ∧
        (∀ a, A1 xs ci b s most pos i n a → a 17 = ptr gi → a 16 = .int .i64 1 → ∃ a', A1 xs ci b s most pos i n a' ∧ a' 18 = ptr hi ∧ a' 16 = .int .i64 1 ∧ a' 19 = .int .i64 1 ∧ R F.sakialaw19_OneAlone.f F.sakialaw19_OneAlone.b2 a H = R F.sakialaw19_OneAlone.f F.sakialaw19_OneAlone.b3 a' H') ∧
        Own K H' (Sy1_u64 s b lg cv ev l S' hi T.api_Frame_u64 [] (regv pos) [] L) := by
  have hk := e.kinds
  have hs := e.g.slots
  have hu : one l.up = true := e.g.c.up
  have hm0 := e.m0
  have hl := hB.log
  have hv := hB.ev
  obtain ⟨H1, e1, own1⟩ := pub1_u64 own hu (hB.sq (by omega)) 0 hp ⟨by omega, by omega, hk.2.2 _ (by omega) (by omega)⟩ (sc1 l r) ⟨rfl, rfl⟩ ⟨by omega, by rw [e.prod]; omega, hn0, by rw [e.cap]; exact hn1⟩
  obtain ⟨hi, H2, e2, own2⟩ := mkbox_own own1 T.api_Frame_u64 (.agg (Rg.cells .u64 (regv pos)).toArray) (Rg.cells .u64 (regv pos)) (by simp) (by simp [Rg.cells])
  have own3 : Own K H2 (Sy1_u64 s b lg cv ev l (onePub (sc1 l r) S 0 (reg n pos)).1 hi T.api_Frame_u64 [] (regv pos) [] L) := ((own2.up 4).tl).dn 3
  refine ⟨hi, H2, (onePub (sc1 l r) S 0 (reg n pos)).1, ⟨hB.ok.lay _ _ _ (inR_wrap64 _), hB.next, hB.least, ?_, ?_⟩, ?_, rfl, fun a A h17 h16 => ?_, own3⟩
  · simp [onePub, Bd.lay, Bd.note]; omega
  · simp [onePub]; omega
  · simp only [onePub, Bd.lay, sc1, reg, hk.1]
  · rw [F.sakialaw19_OneAlone.e2, A.h10, A.h11, A.h12, h17, h16]
    simp only [Rg.cells, regv] at e2
    simp only [ptr, List.length_nil] at *
    simp -implicitDefEqProofs [show (1 : Int) ≤ most from by omega, e1, fillL, splice, e2]
    refine ⟨_, ⟨?_, ?_, ?_, ?_, ?_, ?_, ?_, ?_⟩, ?_, ?_, ?_, rfl⟩ <;> simp [put, A.h1, A.h5, A.h8, A.h10, A.h11, A.h12, A.h13, A.h14, ptr, h16]

/-- It is found. -/
theorem alone1_tip (e : E1 K cv ev l r most) (hp : InR .u64 pos) {hi : Nat} {ft : TypeId} {H : Heap} {S : Sq} {N : Nat} (hB : SqB .u64 S N) (hN : N ≤ 800000) (hlen : S.bd.has.length = r + 1) (hcur : at_ S.bd.has r = wadd .u64 pos n) {c : Cf} (hc : c.prod = 1)
    (own : Own K H (Sy1_u64 s b lg cv ev l S hi ft [] (regv pos) [] (BoxA ci T.api_Conf c.list :: L))) :
    ∃ (H' : Heap) (S' : Sq), SqB .u64 S' (N + 1) ∧ S'.bd.has = S.bd.has ∧ S'.next = S.next ∧
        (∀ a, A1 xs ci b s most pos i n a → a 18 = ptr hi → a 16 = .int .i64 1 → a 19 = .int .i64 1 → ∃ a', A1 xs ci b s most (wadd .u64 pos n) i n a' ∧ a' 20 = .int .i64 0 ∧ R F.sakialaw19_OneAlone.f F.sakialaw19_OneAlone.b3 a H = R F.sakialaw19_OneAlone.f F.sakialaw19_OneAlone.b4 a' H') ∧
        Own K H' (OneA .u64 T.seqone_Seq_u64 s b lg cv ev l.cursor S'.next (at_ S'.least 0) :: Bo_u64 b l S'.bd :: LogA lg S'.ev :: BoxA ci T.api_Conf c.list :: L) := by
  have hk := e.kinds
  have hs := e.g.slots
  have hu : one l.up = true := e.g.c.up
  have hm0 := e.m0
  have hl := hB.log
  have hv := hB.ev
  have c3 := box_ld (m := 3) (v := .int .i64 c.prod) (own.up 4) rfl
  rw [hc] at c3
  obtain ⟨H1, e1, own1⟩ := tip1_u64 own hu (hB.sq (by omega)) 1 ⟨by omega, by omega, hk.2.2 _ (by omega) (by omega)⟩ (sc1 l r) rfl
  have f8 := rg_ld (own1.up 3) (m := 8) (v := .int .u64 (at_ S.bd.has l.cursor)) rfl
  rw [hk.1, hcur] at f8
  refine ⟨H1, (oneTip (sc1 l r) S 1 (regv pos)).1, ⟨hB.ok, hB.next, hB.least, ?_, ?_⟩, rfl, rfl, fun a A h18 h16 h19 => ?_, (own1.up 3).tl⟩
  · simp [oneTip, Bd.look, Bd.note]; omega
  · simp [oneTip]; omega
  · rw [F.sakialaw19_OneAlone.e3, A.h5, A.h10, A.h11, A.h12, A.h14, h18, h16, h19]
    simp only [ptr, List.length_nil, Nat.zero_add] at *
    simp -implicitDefEqProofs [-ld1_ptr, show (1 : Int) ≤ most from by omega, c3, e1, add_u64, show ¬ most < 1 from by omega, f8]
    refine ⟨_, ⟨?_, ?_, ?_, ?_, ?_, ?_, ?_, ?_⟩, ?_, rfl⟩ <;> simp [put, A.h1, A.h5, A.h8, A.h10, A.h11, A.h12, A.h13, A.h14, ptr]

/-- The gates go on. -/
theorem alone1_gates (e : E1 K cv ev l r most) (hp : InR .u64 pos) {c : Cf} (hc : c.prod = 1) (hcu : alen c.up = some (.int .i64 r)) (hi0 : 0 ≤ i ∧ i < 1000) :
    ∀ (m j : Nat), j + m = r → ∀ (H : Heap) (S : Sq) (N : Nat), SqB .u64 S N → N + m ≤ 800000 → S.bd.has.length = r + 1 → (∀ c : Int, 0 ≤ c → c < j → at_ S.bd.has c = pos) →
      Own K H (OneA .u64 T.seqone_Seq_u64 s b lg cv ev l.cursor S.next (at_ S.least 0) :: Bo_u64 b l S.bd :: LogA lg S.ev :: BoxA ci T.api_Conf c.list :: L) →
      ∃ (H' : Heap) (S' : Sq), SqB .u64 S' (N + m) ∧ AtAll S' r pos ∧ S'.next = S.next ∧
        (∀ a, A1 xs ci b s most pos i n a → a 20 = .int .i64 j → ∃ a', A1 xs ci b s most pos (i + 1) n a' ∧ R F.sakialaw19_OneAlone.f F.sakialaw19_OneAlone.b4 a H = R F.sakialaw19_OneAlone.f F.sakialaw19_OneAlone.b0 a' H') ∧
        Own K H' (OneA .u64 T.seqone_Seq_u64 s b lg cv ev l.cursor S'.next (at_ S'.least 0) :: Bo_u64 b l S'.bd :: LogA lg S'.ev :: BoxA ci T.api_Conf c.list :: L) := by
  have hk := e.kinds
  have hs := e.g.slots
  have hu : one l.up = true := e.g.c.up
  have r3 := e.r3
  intro m
  induction m with
  | zero =>
    intro j hj H S N hB hN hlen hat own
    have c5 := box_ld (m := 5) (v := c.up) (own.up 3) rfl
    refine ⟨H, S, hB, ⟨hlen, fun c h0 h1 => hat c h0 (by omega)⟩, rfl, fun a A h20 => ?_, own⟩
    rw [F.sakialaw19_OneAlone.e4, A.h5, A.h13, h20]
    have hs1 : IntKind.wrap .i64 (i + 1) = i + 1 := wi _ (by omega) (by omega)
    simp only [ptr] at *
    simp -implicitDefEqProofs [-ld1_ptr, c5, hcu, show ¬ ((j : Int) < r) from by omega, hs1]
    refine ⟨_, ⟨?_, ?_, ?_, ?_, ?_, ?_, ?_, ?_⟩, rfl⟩ <;> simp [put, A.h1, A.h5, A.h8, A.h10, A.h11, A.h12, A.h13, A.h14, ptr, hs1]
  | succ m ih =>
    intro j hj H S N hB hN hlen hat own
    have c3 := box_ld (m := 3) (v := .int .i64 c.prod) (own.up 3) rfl
    rw [hc] at c3
    have c5 := box_ld (m := 5) (v := c.up) (own.up 3) rfl
    have hl := hB.log
    have hv := hB.ev
    have hs2 : IntKind.wrap .i64 (1 + (j : Int)) = 1 + j := wi _ (by omega) (by omega)
    have hs1 : IntKind.wrap .i64 ((j : Int) + 1) = ((j + 1 : Nat) : Int) := by rw [wi _ (by omega) (by omega)]; omega
    obtain ⟨H1, e1, own1⟩ := store_u64 (own.up 1) hu hB.ok (1 + j) j pos (hk.2.2 _ (by omega) (by omega)) (by omega) (by omega) hp (by omega)
    have hB1 : SqB .u64 ({ S with bd := S.bd.lay (1 + j) 2 j pos } : Sq) (N + 1) := ⟨hB.ok.lay _ _ _ hp, hB.next, hB.least, by simp [Bd.lay, Bd.note]; omega, by simp; omega⟩
    obtain ⟨H2, S', k1, k2, k3, run, own2⟩ := ih (j + 1) (by omega) H1 { S with bd := S.bd.lay (1 + j) 2 j pos } (N + 1) hB1 (by omega) (by simp [Bd.lay, hlen]) (fun c h0 h1 => by
      by_cases q : c = j
      · subst q; exact at_put_self (by omega) (by omega)
      · rw [show at_ (S.bd.lay (1 + j) 2 j pos).has c = at_ S.bd.has c from at_put_other (by omega) h0 (by omega)]
        exact hat c h0 (by omega)) (own1.up 1)
    refine ⟨H2, S', k1.up (by omega), k2, k3, fun a A h20 => ?_, own2⟩
    rw [F.sakialaw19_OneAlone.e4, A.h5, A.h8, A.h12, h20]
    simp only [ptr] at *
    simp -implicitDefEqProofs [-ld1_ptr, c5, hcu, show ((j : Int) < r) from by omega, c3, hs2, e1, hs1]
    refine run _ ⟨?_, ?_, ?_, ?_, ?_, ?_, ?_, ?_⟩ ?_ <;> simp [put, A.h1, A.h5, A.h8, A.h10, A.h11, A.h12, A.h13, A.h14, ptr]

theorem live19 (H : Heap) : C F.sakialaw19_live [] H = some (.bool true, H) := rfl

/-- All claims, one behind the other. -/
theorem alone1_all (e : E1 K cv ev l r most) {c : Cf} (hc : c.prod = 1) (hcap : c.cap = l.cap) (hcu : alen c.up = some (.int .i64 r)) {zs : List Int} (rx : RdSl K xs 1 zs.length (zs.map fun z => Value.int .u8 z)) (hz : ∀ z, z ∈ zs → 0 ≤ z ∧ z < 256) (hzl : zs.length ≤ 60) :
    ∀ (m i : Nat), i + m = zs.length → ∀ (H : Heap) (S : Sq) (pos : Int), InR .u64 pos → SqB .u64 S (100 * i) → AtAll S r pos → S.next = pos →
      Own K H (OneA .u64 T.seqone_Seq_u64 s b lg cv ev l.cursor S.next (at_ S.least 0) :: Bo_u64 b l S.bd :: LogA lg S.ev :: BoxA ci T.api_Conf c.list :: L) →
      ∃ H', ∀ a, A0 xs ci b s most pos i a → R F.sakialaw19_OneAlone.f F.sakialaw19_OneAlone.b0 a H = some (.bool true, H') := by
  have hk := e.kinds
  have hs := e.g.slots
  intro m
  induction m with
  | zero =>
    intro i hi H S pos hp hB hat hnx own
    refine ⟨H, fun a A => ?_⟩
    rw [F.sakialaw19_OneAlone.e0, A.h1, A.h13]
    simp -implicitDefEqProofs [rx.alen, show ¬ ((i : Int) < zs.length) from by omega, live19]
  | succ m ih =>
    intro i hi H S pos hp hB hat hnx own
    have hil : i < zs.length := by omega
    have hzi := hz _ (List.getElem_mem hil)
    generalize hz0 : zs[i] = z at hzi
    have g1 := rx.sadd (k := .i64) (x := (i : Int)) (by omega) (by omega)
    have g2 := rx.ld1 own (j := i) hil (by omega)
    rw [Nat.mul_one, List.getElem?_map, List.getElem?_eq_getElem hil, hz0] at g2
    simp only [Int.toNat_natCast, Option.map_some] at g1 g2
    have c2 := box_ld (m := 2) (v := .int .i64 c.cap) (own.up 3) rfl
    have q1 : IntKind.wrap .i64 z = z := wi _ (by omega) (by omega)
    have q0 : 0 ≤ z % c.cap := Int.emod_nonneg _ (by omega)
    have q0' : z % c.cap < c.cap := Int.emod_lt_of_pos _ (by omega)
    have q2 : z.tmod c.cap = z % c.cap := Int.tmod_eq_emod_of_nonneg hzi.1
    have q3 : IntKind.wrap .i64 (1 + z % c.cap) = 1 + z % c.cap := wi _ (by omega) (by omega)
    obtain ⟨fi, H1, e1, own1⟩ := mkbox_own own T.api_Frame_u64 (.agg (Rg.cells .u64 (reg (1 + z % c.cap) 0)).toArray) (Rg.cells .u64 (reg (1 + z % c.cap) 0)) (by simp) (by simp [Rg.cells])
    have own2 : Own K H1 (Sy1_u64 s b lg cv ev l S fi T.api_Frame_u64 [] (reg (1 + z % c.cap) 0) [] (BoxA ci T.api_Conf c.list :: L)) := own1.dn 3
    obtain ⟨gi, H2, S2, B2, h2, x2, run2, own3⟩ := alone1_claim (n := 1 + z % c.cap) (i := (i : Int)) (xs := xs) (ci := ci) e (by omega) (by omega) hp hB (by omega) hat hnx own2
    obtain ⟨hi', H3, S3, B3, h3, x3, run3, own4⟩ := alone1_pub (n := 1 + z % c.cap) (i := (i : Int)) (xs := xs) (ci := ci) e (by omega) (by omega) hp B2 (by omega) (by rw [h2]; exact hat.1) own3
    have l3 : S3.bd.has.length = r + 1 := by rw [h3, put_length, h2]; exact hat.1
    obtain ⟨H4, S4, B4, h4, x4, run4, own5⟩ := alone1_tip (n := 1 + z % c.cap) (i := (i : Int)) (xs := xs) (ci := ci) e hp B3 (by omega) l3 (by rw [h3]; exact at_put_self (by omega) (by rw [h2, hat.1]; omega)) hc own4
    obtain ⟨H5, S5, B5, h5, x5, run5, own6⟩ := alone1_gates (n := 1 + z % c.cap) (i := (i : Int)) (xs := xs) (ci := ci) (pos := wadd .u64 pos (1 + z % c.cap)) e (inR_wrap64 _) hc hcu (by omega) r 0 (by omega) H4 S4 _ B4 (by have := e.r3; omega) (by rw [h4]; exact l3) (fun c h0 h1 => by omega) own5
    obtain ⟨H', run⟩ := ih (i + 1) (by omega) H5 S5 (wadd .u64 pos (1 + z % c.cap)) (inR_wrap64 _) (B5.up (by have := e.r3; omega)) h5 (by rw [x5, x4, x3, x2]) own6
    have fin : ∀ a, A1 xs ci b s most pos (i : Int) (1 + z % c.cap) a → a 15 = ptr fi → a 16 = .int .i64 1 → R F.sakialaw19_OneAlone.f F.sakialaw19_OneAlone.b1 a H1 = some (.bool true, H') := by
      intro a A h15 h16
      obtain ⟨a2, A2, p17, p16, r2⟩ := run2 a A h15 h16
      obtain ⟨a3, A3, p18, p16', p19, r3⟩ := run3 a2 A2 p17 p16
      obtain ⟨a4, A4, p20, r4⟩ := run4 a3 A3 p18 p16' p19
      obtain ⟨a5, A5, r5⟩ := run5 a4 A4 p20
      rw [r2, r3, r4, r5]
      exact run a5 (by exact_mod_cast A5.a0)
    refine ⟨H', fun a A => ?_⟩
    rw [F.sakialaw19_OneAlone.e0, A.h1, A.h5, A.h13]
    simp only [Rg.cells, reg] at e1
    simp only [ptr] at *
    simp -implicitDefEqProofs [-ld1_ptr, rx.alen, show ((i : Int) < zs.length) from by omega, g1, g2, q1, c2, abin_rem (show c.cap ≠ 0 by omega), q2, q3, fillL, splice, e1]
    refine fin _ ⟨?_, ?_, ?_, ?_, ?_, ?_, ?_, ?_⟩ ?_ ?_ <;> simp [put, A.h1, A.h5, A.h8, A.h10, A.h11, A.h12, A.h13]
end
end Go.Proofs.YtiehmpoanhacaaaDoor
