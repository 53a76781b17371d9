/-
  A graph whose lists are all empty: its check, its copy, its ends.
-/
import Derived.Test.YtiehmpoanhacaaaDoorCf
set_option maxRecDepth 100000
set_option linter.unusedVariables false
set_option linter.unusedSimpArgs false
set_option maxHeartbeats 1000000
namespace Go.Proofs.YtiehmpoanhacaaaDoor
open Go Go.Proofs.SakAm
attribute [local congr] obind_c condK_c ifD_c

section
variable {K : Kept} {H : Heap} {L : List Asrt} {uv v : Value} {r : Nat}

theorem names_nil (h : RdSl K v 1 0 []) (n : Int) : C F.graph_names [v, .int .i64 n] H = some (.bool true, H) := by
  rw [F.graph_names.e]
  simp only [h.alen, Option.bind_some]
  rw [F.graph_names.e0]
  simp [put]

theorem above_nil (own : Own K H L) {up : List (List Int)} (hu : UpIs K uv up) {c : Nat} (hc : up[c]? = some []) : ∃ H', C F.graph_above [uv, .int .i64 c] H = some (.int .u64 0, H') ∧ Own K H' L := by
  obtain ⟨i1, H1, e1, own1⟩ := mkbox_own own T.sl_sl_int uv [uv] hu.cellsOf (by simp [hu.one])
  obtain ⟨i2, H2, e2, own2⟩ := mkbox_own own1 T.group_Group (.int .u64 0) [.int .u64 0] rfl rfl
  obtain ⟨i3, H3, e3, own3⟩ := mkbox_own own2 T.func_int .nilFunc [.nilFunc] rfl rfl
  obtain ⟨H4, e4, own4⟩ := st1_own own3 0 (Value.func (Fn.func F.graph_above_1) (List.toArray []) (List.toArray [.pointer (some ⟨i1, 0, some 0⟩), .pointer (some ⟨i2, 0, some 0⟩), .pointer (some ⟨i3, 0, some 0⟩)])) (by simp) rfl
  have own4' := own4.up 2
  have r1 := own4'.rd
  have r2 := (own4.up 1).rd
  have r3 := own4.rd
  obtain ⟨w, g1, g2, g3⟩ := hu.get own4 hc
  refine ⟨H4, ?_, own4.tl.tl.tl⟩
  have run : C F.graph_above_1 [.int .i64 c, .pointer (some ⟨i1, 0, some 0⟩), .pointer (some ⟨i2, 0, some 0⟩), .pointer (some ⟨i3, 0, some 0⟩)] H4 = some (.tuple #[], H4) := by
    rw [F.graph_above_1.e]
    simp [r1, g1, g2, g3.alen]
    rw [F.graph_above_1.e0]
    simp [put]
  rw [F.graph_above.e]
  simp only [List.set, List.set_cons_zero] at r3
  simp [e1, e2, e3, e4, r2, r3, target, run]

theorem has_zero (c : Nat) (hc : c < 64) : C F.group_Group_Has [.int .u64 0, .int .i64 c] H = some (.bool false, H) := by
  rw [F.group_Group_Has.e]
  have h1 : (c : Int) < 64 := by omega
  simp [F.group_in.e, h1, abin_shr, wrap64, IntKind.bits]

theorem loop0 (own : Own K H L) {up : List (List Int)} (hu : UpIs K uv up) (he : ∀ l, l ∈ up → l = []) (hr : up.length ≤ 6) :
    ∀ (n i : Nat), i + n = up.length → ∀ (a : Fr), a 16 = .int .i64 i → a 15 = .int .i64 up.length → a 14 = uv → a 0 = uv →
      ∃ a' : Fr, R F.graph_Check.f F.graph_Check.b0 a H = R F.graph_Check.f F.graph_Check.b1 a' H ∧ a' 28 = .int .i64 0 ∧ a' 27 = .int .i64 up.length ∧ a' 0 = uv
  | 0, i, hi, a, h16, h15, h14, h0 => by
    rw [F.graph_Check.e0, h16, h15, h0]
    simp only [abin_lss, Option.bind_some, condK_bool, show decide ((i : Int) < (up.length : Int)) = false from by simp; omega, Bool.false_eq_true, if_false, hu.alen]
    exact ⟨_, rfl, by simp [put], by simp [put], by simp [put, h0]⟩
  | n + 1, i, hi, a, h16, h15, h14, h0 => by
    rw [F.graph_Check.e0, h16, h15, h14, h0]
    have hlt : i < up.length := by omega
    have hg : up[i]? = some [] := by rw [List.getElem?_eq_getElem hlt]; exact congrArg some (he _ (List.getElem_mem hlt))
    obtain ⟨w, g1, g2, g3⟩ := hu.get own hg
    have hs : IntKind.wrap .i64 ((i : Int) + 1) = ((i + 1 : Nat) : Int) := by rw [wi _ (by omega) (by omega)]; omega
    simp only [abin_lss, Option.bind_some, condK_bool, show decide ((i : Int) < (up.length : Int)) = true from by simp; omega, if_true, g1, g2, hu.alen, names_nil g3, aun_not, Bool.not_true, Bool.false_eq_true, if_false, abin_add, hs]
    exact loop0 own hu he hr n (i + 1) (by omega) _ (by simp [put]) (by simp [put, h15]) (by simp [put, h14]) (by simp [put, h0])

theorem loop1 {up : List (List Int)} (hu : UpIs K uv up) (he : ∀ l, l ∈ up → l = []) (hr : up.length ≤ 6) :
    ∀ (n i : Nat), i + n = up.length → ∀ (H : Heap) (own : Own K H L) (a : Fr), a 28 = .int .i64 i → a 27 = .int .i64 up.length → a 0 = uv →
      ∃ H', R F.graph_Check.f F.graph_Check.b1 a H = some (.int .i64 0, H') ∧ Own K H' L
  | 0, i, hi, H, own, a, h28, h27, h0 => by
    rw [F.graph_Check.e1, h28, h27]
    simp only [abin_lss, Option.bind_some, condK_bool, show decide ((i : Int) < (up.length : Int)) = false from by simp; omega, Bool.false_eq_true, if_false]
    exact ⟨_, rfl, own⟩
  | n + 1, i, hi, H, own, a, h28, h27, h0 => by
    rw [F.graph_Check.e1, h28, h27, h0]
    have hlt : i < up.length := by omega
    have hg : up[i]? = some [] := by rw [List.getElem?_eq_getElem hlt]; exact congrArg some (he _ (List.getElem_mem hlt))
    obtain ⟨H1, e1, own1⟩ := above_nil own hu hg
    have hs : IntKind.wrap .i64 ((i : Int) + 1) = ((i + 1 : Nat) : Int) := by rw [wi _ (by omega) (by omega)]; omega
    simp only [abin_lss, Option.bind_some, condK_bool, show decide ((i : Int) < (up.length : Int)) = true from by simp; omega, if_true, e1, has_zero i (by omega), Bool.false_eq_true, if_false, abin_add, hs]
    exact loop1 hu he hr n (i + 1) (by omega) H1 own1 _ (by simp [put]) (by simp [put, h27]) (by simp [put, h0])

theorem gok_nil {up : List (List Int)} (hu : UpIs K uv up) (he : ∀ l, l ∈ up → l = []) (h1 : 1 ≤ up.length) (hr : up.length ≤ 6) : GOk K uv := by
  intro K' H L le own
  have hu := hu.mono le
  rw [F.graph_Check.e]
  simp [hu.alen, show ¬ ((up.length : Int) < 1) from by omega, show ¬ ((6 : Int) < up.length) from by omega]
  obtain ⟨a', e, k1, k2, k3⟩ := loop0 own hu he hr up.length 0 (by omega) (put (put (put (put (put (put (put (put (put (put (put (put (fr0 [uv]) 2 (Value.int IntKind.i64 0)) 6 uv) 7 (Value.int IntKind.i64 up.length)) 8 (Value.bool false)) 9 (Value.bool false)) 10 uv) 11 (Value.int IntKind.i64 up.length)) 12 (Value.bool false)) 13 (Value.bool false)) 14 uv) 15 (Value.int IntKind.i64 up.length)) 16 (Value.int IntKind.i64 0)) (by simp [put]) (by simp [put]) (by simp [put]) (by simp [put, fr0])
  rw [e]
  exact loop1 hu he hr up.length 0 (by omega) H own a' (by simpa using k1) k2 k3

theorem copy_loop {up : List (List Int)} (hn : up.length ≤ 1000) (hl : ∀ l, l ∈ up → l.length ≤ 1000) :
    ∀ (n i : Nat), i + n = up.length → ∀ (K : Kept) (H : Heap) (o : Hd) (hs : List Value), UpIs K uv up → Own K H (SlA o T.sl_int 1 hs :: L) → o.n = i → All2 (fun h l => RdSl K h 1 l.length (ints l)) hs (up.take i) →
      ∀ a : Fr, a 8 = .int .i64 i → a 7 = .int .i64 up.length → a 6 = uv → a 3 = o.val →
        ∃ v H' K', K.le K' ∧ R F.graph_Copy.f F.graph_Copy.b0 a H = some (v, H') ∧ Own K' H' L ∧ UpIs K' v up
  | 0, i, hi, K, H, o, hs, hu, own, ho, hall, a, h8, h7, h6, h3 => by
    rw [F.graph_Copy.e0, h8, h7, h3]
    simp only [abin_lss, Option.bind_some, condK_bool, show decide ((i : Int) < (up.length : Int)) = false from by simp; omega, Bool.false_eq_true, if_false]
    obtain ⟨K', le, own', rd⟩ := own.freezeSl
    refine ⟨_, _, K', le, rfl, own', hs, ?_, ?_⟩
    · rw [ho, show i = up.length from by omega] at rd; exact rd
    · rw [show i = up.length from by omega, List.take_length] at hall; exact hall.imp fun _ _ k => k.mono le
  | n + 1, i, hi, K, H, o, hs, hu, own, ho, hall, a, h8, h7, h6, h3 => by
    rw [F.graph_Copy.e0, h8, h7, h6, h3]
    have hlt : i < up.length := by omega
    have hg : up[i]? = some up[i] := List.getElem?_eq_getElem hlt
    have hll := hl _ (List.getElem_mem hlt)
    generalize hx : up[i] = l at hg hll
    obtain ⟨w, g1, g2, g3⟩ := hu.get own hg
    have hs1 : IntKind.wrap .i64 ((i : Int) + 1) = ((i + 1 : Nat) : Int) := by rw [wi _ (by omega) (by omega)]; omega
    obtain ⟨j, H1, e1, own1⟩ := mkrow_own own T.int 0 [] rfl
    have own1' := own1.toSl (z := 1) (n := 0) rfl
    have step : ∃ (h' : Hd) (H2 : Heap), aappend H1 T.int 1 8 (.slice (some ⟨j, 0, some 0⟩) 0 1) w = some (h'.val, H2) ∧ h'.n = l.length ∧ Own K H2 (SlA h' T.int 1 (ints l) :: SlA o T.sl_int 1 hs :: L) := by
      by_cases h0 : l.length = 0
      · have hl0 : l = [] := List.eq_nil_of_length_eq_zero h0
        subst hl0
        exact ⟨.blk j 0 0, H1, append_none (.blk j 0 0) H1 (g3.row own1) g3.slen (by simp [Hd.n]) (by simp [Hd.n]), rfl, own1'⟩
      · obtain ⟨h', H2, k1, k2, k3⟩ := append_own (bytes := 8) own1' (g3.row own1) g3.slen (by simp [ints]) (by omega) (by simp [Hd.n]; omega) (by simp [Hd.n]; omega)
        exact ⟨h', H2, k1, by simpa [Hd.n] using k2, by simpa using k3⟩
    obtain ⟨h', H2, e2, hn2, own2⟩ := step
    obtain ⟨K2, le2, own3, rd2⟩ := own2.freezeSl
    rw [hn2] at rd2
    obtain ⟨j2, H3, e3, own4⟩ := mkrow_own own3 T.sl_int 1 [h'.val] (by simp)
    have own5 := own4.up 1
    obtain ⟨o', H4, e4, ho4, own6⟩ := append_own (bytes := 24) (m := 1) own5 (rowOf_row own4 (n := 1) (z := 1) rfl) rfl rfl (by omega) (by omega) (by omega)
    have own7 := (own6.up 1).tl
    have hall2 : All2 (fun h l => RdSl K2 h 1 l.length (ints l)) (hs ++ [h'.val]) (up.take (i + 1)) := by
      rw [List.take_add_one, hg]
      exact (hall.imp fun _ _ k => k.mono le2).append (.cons rd2 .nil)
    obtain ⟨v, H', K', leF, eF, ownF, upF⟩ := copy_loop hn hl n (i + 1) (by omega) K2 H4 o' (hs ++ [h'.val]) (hu.mono le2) own7 (by omega) hall2
      (put (put (put (put (put (put (put (put (put (put (put (put (put a 9 (.bool true)) 10 (sptr 1 uv i)) 11 w) 5 w) 12 o.val) 13 (.slice (some ⟨j, 0, some 0⟩) 0 1)) 14 w) 15 h'.val) 16 (.slice (some ⟨j2, 0, some 0⟩) 1 1)) 17 o'.val) 3 o'.val) 18 (.int .i64 ((i + 1 : Nat) : Int))) 8 (.int .i64 ((i + 1 : Nat) : Int)))
      (by simp [put]) (by simp [put, h7]) (by simp [put, h6]) (by simp [put])
    refine ⟨v, H', K', le2.trans leF, ?_, ownF, upF⟩
    simp only [abin_lss, Option.bind_some, condK_bool, show decide ((i : Int) < (up.length : Int)) = true from by simp; omega, if_true, g1, g2, reps, fillL, e1, e2, List.append_nil, splice, Hd.cellsOf_val, List.length_cons, List.length_nil, Nat.zero_add, Nat.le_refl, and_self, List.take_zero, List.nil_append, List.drop_succ_cons, List.drop_nil, List.drop_zero, e3, e4, abin_add, hs1]
    exact eF

theorem copy_ok (own : Own K H L) {up : List (List Int)} (hu : UpIs K uv up) (hn : up.length ≤ 1000) (hl : ∀ l, l ∈ up → l.length ≤ 1000) :
    ∃ v H' K', K.le K' ∧ C F.graph_Copy [uv] H = some (v, H') ∧ Own K' H' L ∧ UpIs K' v up := by
  obtain ⟨v, H', K', k1, k2, k3⟩ := copy_loop hn hl up.length 0 (by omega) K H .nil [] hu (slnil own T.sl_int 1) rfl (by simpa using .nil)
    (put (put (put (put (put (fr0 [uv]) 2 (Value.slice none 0 0)) 3 (Value.slice none 0 0)) 6 uv) 7 (Value.int .i64 up.length)) 8 (Value.int IntKind.i64 0)) (by simp [put]) (by simp [put]) (by simp [put]) (by simp [put, Hd.val])
  refine ⟨v, H', K', k1, ?_, k3⟩
  rw [F.graph_Copy.e]
  simp only [hu.alen, Option.bind_some]
  exact k2
end
end Go.Proofs.YtiehmpoanhacaaaDoor
