/- CircCancelled, part 5: the canonical machine and the runs of the program's functions on it. No conditions. -/
import Derived.Test.YtpbamjaldnhamaaDoorCcP4
namespace Go.Canon
open Go Go.Proofs
set_option linter.unusedVariables false
set_option linter.unusedSimpArgs false
def kf45 : KFunc := ⟨1, 52, [.cell 2 (some 3), .tmp 3], .seq (.reg [⟨some 1, .box (.t 0), none⟩, ⟨some 2, .new [.int .i64 0, .int .i64 0, .slice none 0 0], none⟩, ⟨some 3, .mv (.c (.int .i64 0)), none⟩] []) (.seq (.reg [⟨some 9, .ld (.t 1) (some 3), none⟩, ⟨some 10, .call (.c (.func (.func 57) #[] #[])) [.t 9], none⟩, ⟨some 8, .mv (.t 10), none⟩, ⟨some 11, .ext (.t 8) 0, none⟩, ⟨some 12, .ext (.t 8) 1, none⟩, ⟨some 4, .mv (.t 11), none⟩, ⟨some 5, .mv (.t 12), none⟩] []) (.seq (.seq (.reg [⟨some 13, .mv (.t 5), none⟩, ⟨some 14, .bin .neq (.t 13) (.c (.int .i64 0)), none⟩] []) (.cond (.t 14) (.seq (.reg [⟨some 15, .mk [.int .i64 0, .int .i64 0, .slice none 0 0] [], none⟩, ⟨some 16, .mv (.t 5), none⟩, ⟨none, .st (.t 2) (.t 15) 3, none⟩, ⟨some 3, .mv (.t 16), none⟩] []) .ret) .skip)) (.seq (.seq (.reg [⟨some 17, .mv (.t 4), none⟩, ⟨some 18, .not (.t 17), none⟩] []) (.cond (.t 18) (.seq (.reg [⟨some 19, .mk [.int .i64 0, .int .i64 0, .slice none 0 0] [], none⟩, ⟨none, .st (.t 2) (.t 19) 3, none⟩, ⟨some 3, .mv (.c (.int .i64 7)), none⟩] []) .ret) .skip)) (.seq (.reg [⟨some 20, .fa (.t 1) 0, none⟩, ⟨some 21, .ld (.t 20) none, none⟩, ⟨some 22, .fa (.t 1) 1, none⟩, ⟨some 23, .ld (.t 22) none, none⟩, ⟨some 24, .fa (.t 1) 2, none⟩, ⟨some 25, .ld (.t 24) none, none⟩, ⟨some 26, .mkS [.slice none 0 0] 1 [(0, 1, .t 25)], none⟩, ⟨some 27, .call (.c (.func (.func 58) #[] #[])) [.t 26], none⟩, ⟨some 28, .mk [.int .i64 0, .int .i64 0, .slice none 0 0] [(0, 1, .t 21), (1, 1, .t 23), (2, 1, .t 27)], none⟩, ⟨some 6, .new [.int .i64 0, .int .i64 0, .slice none 0 0], none⟩, ⟨none, .st (.t 6) (.t 28) 3, none⟩] [(1, 7), (3, 7)]) (.seq (.reg [⟨some 29, .fa (.t 6) 2, none⟩, ⟨some 30, .ld (.t 29) none, none⟩, ⟨some 31, .call (.c (.func (.func 59) #[] #[])) [.t 30], none⟩] []) (.seq (.seq (.reg [⟨some 32, .fa (.t 6) 2, none⟩, ⟨some 33, .ld (.t 32) none, none⟩, ⟨some 34, .len (.t 33), none⟩, ⟨some 35, .mv (.c (.int .i64 0)), none⟩] []) (.block 0 (.loop (.seq (.reg [⟨some 36, .bin .lss (.t 35) (.t 34), none⟩] []) (.seq (.cond (.t 36) .skip (.exit 0)) (.seq (.block 1 (.seq (.reg [⟨some 37, .mv (.t 35), none⟩, ⟨some 7, .mv (.t 37), none⟩] []) (.reg [⟨some 38, .fa (.t 6) 2, none⟩, ⟨some 39, .ld (.t 38) none, none⟩, ⟨some 40, .mv (.t 7), none⟩, ⟨some 41, .fa (.t 6) 2, none⟩, ⟨some 42, .ld (.t 41) none, none⟩, ⟨some 43, .mv (.t 7), none⟩, ⟨some 44, .iaS (.t 42) (.t 43) 4, none⟩, ⟨some 45, .fa (.t 44) 0, none⟩, ⟨some 46, .ld (.t 45) none, none⟩, ⟨some 47, .call (.c (.func (.func 60) #[] #[])) [.t 46], none⟩, ⟨some 48, .iaS (.t 39) (.t 40) 4, none⟩, ⟨some 49, .fa (.t 48) 0, none⟩, ⟨none, .st (.t 49) (.t 47) 1, none⟩] [(1, 9)]))) (.reg [⟨some 50, .bin .add (.t 35) (.c (.int .i64 1)), none⟩, ⟨some 35, .mv (.t 50), none⟩] []))))))) (.seq (.reg [⟨some 51, .ld (.t 6) (some 3), none⟩, ⟨none, .st (.t 2) (.t 51) 3, none⟩, ⟨some 3, .mv (.c (.int .i64 0)), none⟩] []) .ret)))))))⟩
theorem k45 : tab Tryd.prog 22 = some kf45 := by kernel_rfl
theorem Cells.inS {S : Nat → Prop} {h : Heap} {sz n : Nat} {p : Pl} {cells : List Value} (H : Cells S h sz p n cells) : ∀ a, p.1 = some a → S a.block := by
  intro a ha
  obtain ⟨_, _, ⟨h3, _⟩ | ⟨b, o, cs, wr, gr, e1, e2, _⟩⟩ := H
  · rw [h3] at ha; cases ha
  · rw [e1] at ha; injection ha with ha; subst ha; exact e2
/-- A list that a call has made, written where it lies. -/
theorem RI.of {A X W : Heap} {n : Nat} {p : Pl} {gs : List G} (hz : GatesZ n X p gs) (hn : A.length = n) (hw : ∀ (j : Nat) (cs : List Value) (wr : Bool) (gr : Option Nat), X[j]? = some (CO.row cs wr gr) → wr = true) :
    ∃ pz, RI (A ++ (X ++ W)) (segB n X.length) p gs.length (A ++ (X ++ W)) gs pz ∧ Wires (fun b => segB n X.length b ∧ offP p b) (A ++ (X ++ W)) gs pz ∧ ∀ i j (h1 : i < pz.length) (h2 : j < pz.length), i ≠ j → dis pz[i] pz[j] := by
  obtain ⟨pz, h1, h2, h3, h4⟩ := hz.opn
  have k2 := (h2 A hn).app (L := W)
  rw [List.append_assoc] at k2
  refine ⟨pz, ⟨rfl, fun _ _ => rfl, ?_, rfl, h1, k2⟩, fun i g1 g2 => ?_, h4⟩
  · intro a ha
    obtain ⟨_, _, ⟨e3, _⟩ | ⟨b, o, cs, wr, gr, e1, e2, e3, _⟩⟩ := k2
    · rw [e3] at ha; cases ha
    · rw [e1] at ha
      injection ha with ha
      subst ha
      have s1 := e2.1
      have s2 := e2.2
      have e4 := e3
      rw [List.getElem?_append_right (by omega), pre_get (by omega)] at e4
      have := hw _ _ _ _ e4
      subst this
      exact ⟨cs, gr, e3⟩
  · have := (h3 i g1 g2 A hn).app (L := W)
    rwa [List.append_assoc] at this
theorem flat_kind {gs : List G} {ps : List Pl} (e : ps.length = gs.length) {i : Nat} (hi : i < gs.length) (z : Int) : (flat gs ps).take (i * 4) ++ [.int .i64 z] ++ (flat gs ps).drop (i * 4 + 1) = flat (gs.set i ⟨z, gs[i].ws, gs[i].b, gs[i].f⟩) ps := by
  have hi2 : i < ps.length := by omega
  have h1 := flat_set e hi ⟨z, gs[i].ws, gs[i].b, gs[i].f⟩ ps[i]
  rw [List.set_getElem_self] at h1
  rw [← h1]
  have h2 := flat_at gs ps e i hi hi2
  have h3 : (flat gs ps).drop (i * 4) = gcells gs[i] ps[i] ++ (flat gs ps).drop (i * 4 + 4) := by
    rw [← h2, ← List.drop_drop, List.take_append_drop]
  rw [← List.drop_drop, h3, List.append_assoc, List.append_assoc]
  rfl
theorem map_step {α : Type} {r l : List α} {f : α → α} {k : Nat} (hk : k < l.length) (hr : k < r.length) (e : l = (r.take k).map f ++ r.drop k) : l.set k (f l[k]) = (r.take (k + 1)).map f ++ r.drop (k + 1) := by
  have hA : ((r.take k).map f).length = k := by rw [List.length_map, List.length_take]; omega
  have hd := List.drop_eq_getElem_cons hr
  rw [hd] at e
  have hlk : l[k] = r[k] := by
    simp only [e]
    rw [List.getElem_append_right (by omega)]
    simp only [hA, Nat.sub_self, List.getElem_cons_zero]
  rw [hlk, List.take_succ_eq_append_getElem hr, List.map_append, List.append_assoc, e, List.set_append_right _ _ (by omega), hA, Nat.sub_self]
  rfl
theorem pinverse_ret (H : Heap) (c : C) (p : Pl) {S : Nat → Prop} (hv : Gates S H p c.gs) (hl : c.gs.length < 4294967296) : ∃ X p', Ret (tab Tryd.prog) 22 [cv c p] H (.tuple #[cv (inverseM c) p', .int .i64 (inverseE c)]) (H ++ X) ∧ GatesZ H.length X p' (inverseM c).gs := by
  have key := Ret_grow (T := tab Tryd.prog) (f := 22) (args := [cv c p]) (h := H) (fun u X => ∃ p' : Pl, u = .tuple #[cv (inverseM c) p', .int .i64 (inverseE c)] ∧ GatesZ H.length X p' (inverseM c).gs) k45 rfl ?_
  · obtain ⟨u, X, hr, p', rfl, f1⟩ := key
    exact ⟨X, p', hr, f1⟩
  refine AX_seq (AX_E (E_boxA rfl (E_new (E_mv (v := .int .i64 (0)) rfl (E_nil (AX_seq (AX_E (E_ldON (k := 0) rfl rfl (E_callV rfl (pplain_ret _ c _ hv.app (by omega)) (E_mv (v := .tuple _) rfl (E_ext (v := .bool _) rfl rfl (E_bs (fun c11 => ?_) (fun c11 => ?_)))))))))))))
  · refine E_ext (v := .int .i64 (checkM c)) rfl rfl (E_mv (v := .bool _) rfl (E_mv (v := .int .i64 (checkM c)) rfl (E_nil (AX_seq (AX_seq (AX_E (E_mv (v := .int .i64 (checkM c)) rfl (E_neqS rfl rfl (fun c14 => ?_) (fun c14 => ?_)))))))))
    · refine E_nil (AX_condT rfl (AX_seq (AX_E (E_mk (cs := [.int .i64 (0), .int .i64 (0), .slice none 0 0]) rfl (E_mv (v := .int .i64 (checkM c)) rfl (E_stO (k := 1) rfl rfl (v := .agg _) rfl rfl rfl rfl (E_mv (v := .int .i64 (checkM c)) rfl (E_nil (AX_ret ?_)))))))))
      -- r1
      have eE : inverseE c = checkM c := by unfold inverseE; (repeat' split) <;> first | omega | contradiction | (simp_all; done)
      have eM : inverseM c = ⟨0, 0, []⟩ := if_neg (by omega)
      refine ⟨_, (res2 (res_cellN (k := 1) rfl rfl) (res_tmp rfl)), by simp, [], forget_nil rfl (List.prefix_append _ _), (none, 0), ?_, ?_⟩
      · show Value.tuple #[.agg #[.int .i64 (0), .int .i64 (0), .slice none 0 0], .int .i64 (checkM c)] = _; rw [eM, eE]; rfl
      · rw [eM]; exact fun A hA => GatesP.nil
    · refine E_nil (AX_condF rfl (AX_skip (AX_seq (AX_seq (AX_E (E_mv (v := .bool _) rfl (E_notV rfl rfl (E_nil (AX_condF rfl (AX_skip (AX_seq (AX_E (E_fa rfl (E_ldO (k := 0) (v := .int .i64 (c.w)) rfl rfl (E_fa rfl (E_ldO (k := 0) (v := .int .i64 (c.b)) rfl rfl (E_fa rfl (E_ldO (k := 0) (v := .slice _ _ _) rfl rfl (E_mkS (cs := [.slice (p).1 (c.gs).length (p).2]) rfl ?_)))))))))))))))))))
      obtain ⟨X1, x1, hr1, f1⟩ := behind1_ret (H) ([CO.row [.int .i64 (c.w), .int .i64 (c.b), .slice (p).1 (c.gs).length (p).2] true none, CO.row [.int .i64 (0), .int .i64 (0), .slice none 0 0] true none, CO.row [.slice (p).1 (c.gs).length (p).2] true none]) 2 (p) (c.gs) rfl hv.app (by omega) (fun g hg => by have := ((CR.of (by simpa using c14)).gr hg).len; omega)
      refine E_callX (X := X1) rfl (hr1) (E_mk (cs := [.int .i64 (c.w), .int .i64 (c.b), .slice (x1).1 (c.gs).length (x1).2]) rfl (E_new (E_stO (k := 0) rfl rfl (v := .agg _) rfl rfl rfl rfl (E_nil (AX_seq (AX_E (E_fa rfl (E_ldO (k := 0) (v := .slice _ _ _) rfl rfl ?_))))))))
      have hc0 : checkM c = 0 := by simpa using c14
      have hr := CR.of hc0
      have hn := hr.n0
      obtain ⟨KB, hKB⟩ : ∃ K : Heap, K = (H ++ ([CO.row [.int .i64 (c.w), .int .i64 (c.b), .slice (p).1 (c.gs).length (p).2] true none, CO.row [.int .i64 (0), .int .i64 (0), .slice none 0 0] true none, CO.row [.slice (p).1 (c.gs).length (p).2] true none] ++ X1)) ++ [CO.row [.int .i64 (c.w), .int .i64 (c.b), .slice (x1).1 (c.gs).length (x1).2] true none] := ⟨_, rfl⟩
      have eKB : KB = (H ++ [CO.row [.int .i64 (c.w), .int .i64 (c.b), .slice (p).1 (c.gs).length (p).2] true none, CO.row [.int .i64 (0), .int .i64 (0), .slice none 0 0] true none, CO.row [.slice (p).1 (c.gs).length (p).2] true none]) ++ (X1 ++ [CO.row [.int .i64 (c.w), .int .i64 (c.b), .slice (x1).1 (c.gs).length (x1).2] true none]) := by rw [hKB]; first | (simp only [List.append_assoc, List.append_nil, List.nil_append, List.cons_append, List.set_cons_zero, List.set_cons_succ]; done) | (simp only [List.append_assoc, List.append_nil, List.nil_append, List.cons_append, List.set_cons_zero, List.set_cons_succ]; rfl)
      obtain ⟨pz, RB, WB, dB⟩ := RI.of (A := H ++ [CO.row [.int .i64 (c.w), .int .i64 (c.b), .slice (p).1 (c.gs).length (p).2] true none, CO.row [.int .i64 (0), .int .i64 (0), .slice none 0 0] true none, CO.row [.slice (p).1 (c.gs).length (p).2] true none]) (X := X1) (W := [CO.row [.int .i64 (c.w), .int .i64 (c.b), .slice (x1).1 (c.gs).length (x1).2] true none]) f1 rfl hr1.wr
      rw [← eKB] at RB WB
      let KO : Nat := (H ++ ([CO.row [.int .i64 (c.w), .int .i64 (c.b), .slice (p).1 (c.gs).length (p).2] true none, CO.row [.int .i64 (0), .int .i64 (0), .slice none 0 0] true none, CO.row [.slice (p).1 (c.gs).length (p).2] true none] ++ X1)).length + 0
      let nX : Nat := (H ++ [CO.row [.int .i64 (c.w), .int .i64 (c.b), .slice (p).1 (c.gs).length (p).2] true none, CO.row [.int .i64 (0), .int .i64 (0), .slice none 0 0] true none, CO.row [.slice (p).1 (c.gs).length (p).2] true none]).length
      have hnX : nX = H.length + 3 := by simp [nX]
      have hKO : KO = nX + X1.length := by simp [KO, nX]; omega
      have kO : KB[KO]? = some (crow c x1 c.gs.length) := by rw [hKB]; show ((H ++ ([CO.row [.int .i64 (c.w), .int .i64 (c.b), .slice (p).1 (c.gs).length (p).2] true none, CO.row [.int .i64 (0), .int .i64 (0), .slice none 0 0] true none, CO.row [.slice (p).1 (c.gs).length (p).2] true none] ++ X1)) ++ [CO.row [.int .i64 (c.w), .int .i64 (c.b), .slice (x1).1 (c.gs).length (x1).2] true none])[(H ++ ([CO.row [.int .i64 (c.w), .int .i64 (c.b), .slice (p).1 (c.gs).length (p).2] true none, CO.row [.int .i64 (0), .int .i64 (0), .slice none 0 0] true none, CO.row [.slice (p).1 (c.gs).length (p).2] true none] ++ X1)).length + 0]? = _; rw [own_get]; rfl
      have kR : KB[H.length + 1]? = some (CO.row [.int .i64 0, .int .i64 0, .slice none 0 0] true none) := by rw [eKB, List.append_assoc, own_get]; rfl
      have kH : ∀ b, b < H.length → KB[b]? = H[b]? := fun b hb => by rw [eKB, List.append_assoc, pre_get hb]
      have kL : KB.length = KO + 1 := by rw [hKB, List.length_append]; rfl
      obtain ⟨KV, hrv, RV⟩ := reverse_ret KB x1 c.gs pz RB (by omega)
      rw [hKB] at hrv
      have hx1 := RB.cells.inS
      have off1 : ∀ x, (x < nX ∨ nX + X1.length ≤ x) → offP x1 x := fun x hx a ha => by have := hx1 a ha; have h1 := this.1; have h2 := this.2; omega
      have fO : rowGet KV ⟨KO, 0, none⟩ 3 = some [.int .i64 c.w, .int .i64 c.b, .slice x1.1 c.gs.length x1.2] := rowGet_all ((RV.keep KO (off1 _ (by omega))).trans kO) rfl
      have fR : rowGet KV ⟨H.length + 1, 0, none⟩ 3 = some [.int .i64 0, .int .i64 0, .slice none 0 0] := rowGet_all ((RV.keep _ (off1 _ (by omega))).trans kR) rfl
      refine E_callR rfl rfl (hrv) (.inl rfl) (E_nilR (E_nil (AX_seq (AX_seq (AX_E (E_fa rfl (E_ldB (v := .slice _ _ _) rfl (rowGet_c (j := 2) fO rfl) (E_len (n := (c.gs).length) rfl (E_mv (v := .int .i64 (0)) rfl (E_nil (AX_block ?_)))))))))))
      refine AX_loopF (γ := Nat × List G) (fun x => [(2, .pointer (some ⟨H.length + 1, 0, none⟩)), (6, .pointer (some ⟨KO, 0, none⟩)), (34, .int .i64 (((c.gs).length : Int))), (35, .int .i64 ((x.1 : Int)))]) (fun x h_ m_ => (m_ = [] ∧ RI KB (segB (H ++ [CO.row [.int .i64 (c.w), .int .i64 (c.b), .slice (p).1 (c.gs).length (p).2] true none, CO.row [.int .i64 (0), .int .i64 (0), .slice none 0 0] true none, CO.row [.slice (p).1 (c.gs).length (p).2] true none]).length X1.length) x1 c.gs.length h_ x.2 pz.reverse) ∧ (x.1 ≤ c.gs.length ∧ x.2 = (c.gs.reverse.take x.1).map invG ++ c.gs.reverse.drop x.1)) (fun x => c.gs.length - x.1) (0, c.gs.reverse) ⟨rfl, rfl, rfl, rfl, trivial⟩ ⟨?_, ?_⟩ ?_
      · exact ⟨rfl, by rw [List.append_nil]; exact RV⟩
      · dsimp only
        exact ⟨by omega, by simp⟩
      rintro ⟨k, g1⟩ fr0 KH0 mk0 ⟨hI0, inv0⟩ Kk0 hN0 hR0 hE0
      try dsimp only at hI0 inv0
      obtain ⟨rfl, R⟩ := hI0
      obtain ⟨hk, hg1⟩ := inv0
      have a1 := R.e1
      have a2 := R.e2
      have a3 : c.gs.reverse.length = c.gs.length := by simp
      have fO : rowGet KH0 ⟨KO, 0, none⟩ 3 = some [.int .i64 c.w, .int .i64 c.b, .slice x1.1 c.gs.length x1.2] := rowGet_all ((R.keep KO (off1 _ (by omega))).trans kO) rfl
      have nR := (R.keep (H.length + 1) (off1 _ (by omega))).trans kR
      have fR : rowGet KH0 ⟨H.length + 1, 0, none⟩ 3 = some [.int .i64 0, .int .i64 0, .slice none 0 0] := rowGet_all nR rfl
      refine AX_nil ?_
      refine AX_seq (AX_E (E_lssS rfl rfl (fun c36 => ?_) (fun c36 => ?_)))
      · refine E_nil (AX_seq (AX_condT rfl (AX_skip (AX_seq (AX_block (AX_seq (AX_E ?_)))))))
        obtain ⟨b, o, hp, _, hb⟩ := R.cells.some' (by omega)
        obtain ⟨cs, gr, hrow⟩ := R.row _ hp
        have h1 : k < g1.length := by omega
        have h3 : k < pz.reverse.length := by omega
        have fk := R.cells.at4 a1 (by omega) hp h1 h3
        have fk1 : rowGet KH0 ⟨b, o + k * 4, none⟩ 1 = some [.int .i64 g1[k].k] := rowGet_c (j := 0) fk rfl
        obtain ⟨w1, R2⟩ := R.wr (l := [.int .i64 (oppM g1[k].k)]) (j := k * 4) (gs' := g1.set k (invG g1[k])) (ps' := pz.reverse) hp hrow (by simp; omega) (by omega) (by rw [List.length_set]; exact a1) a2 (flat_kind (by omega) h1 _)
        refine E_mv (v := .int _ _) rfl (E_mv (v := .int .i64 ((k : Int))) rfl (E_nil (AX_E (E_fa rfl (E_ldB (v := .slice _ _ _) rfl (rowGet_c (j := 2) fO rfl) (E_mv (v := .int .i64 ((k : Int))) rfl (E_fa rfl (E_ldB (v := .slice _ _ _) rfl (rowGet_c (j := 2) fO rfl) (E_mv (v := .int .i64 ((k : Int))) rfl (E_iaS (congrArg (fun a => Value.slice a c.gs.length x1.2) hp) rfl (by omega) (by omega) (E_fa rfl (E_ldB (v := .int .i64 (g1[k].k)) rfl fk1 (E_callV rfl (undone_ret _ _) (E_iaS (congrArg (fun a => Value.slice a c.gs.length x1.2) hp) rfl (by omega) (by omega) (E_fa rfl (E_stX (l := [.int .i64 (oppM g1[k].k)]) (v := .int _ _) rfl rfl rfl rfl ((congrArg (fun h : Heap => h[b]?) (List.append_nil _)).trans hrow) (by simpa using w1) rfl rfl fun K2 hK2 => ?_))))))))))))))))
        rw [List.append_nil] at hK2
        refine E_nil (AX_E (E_addI rfl rfl (by first | omega | (simp; done) | (simp; omega)) (by first | omega | (simp; done) | (simp; omega)) (E_mv (v := .int .i64 (((k : Int) + 1))) rfl (E_nil ?_))))
        refine hN0 (k + 1, g1.set k (invG g1[k])) _ _ _ ⟨by first | rfl | (congr 1; omega), by first | rfl | (congr 1; omega), by first | rfl | (congr 1; omega), by first | rfl | (congr 1; omega), trivial⟩ ⟨?_, ?_⟩ ?_
        -- n2
        all_goals clear hN0 hR0 hE0
        · refine ⟨rfl, ?_⟩
          rw [List.append_nil, hK2]
          exact R2
        · dsimp only
          exact ⟨by omega, map_step h1 (by omega) hg1⟩
        · dsimp only
          omega
      · refine E_nil (AX_seq (AX_condF rfl (AX_exit (hE0 _ _ _ _ (AX_seq (AX_E (E_ldBN rfl fO (E_stX (v := .agg _) rfl rfl rfl rfl ((congrArg (fun h : Heap => h[H.length + 1]?) (List.append_nil _)).trans nR) (by simp) rfl rfl fun U9 hK9' => ?_))))))))
        refine E_mv (v := .int .i64 (0)) rfl (E_nil (AX_ret ?_))
        have eE : inverseE c = 0 := by unfold inverseE; rw [if_neg (by omega), if_pos (by simpa [hc0] using c11)]
        have eM : inverseM c = ⟨c.w, c.b, c.gs.reverse.map invG⟩ := if_pos eE
        have eg : g1 = c.gs.reverse.map invG := by rw [hg1, show k = c.gs.length by omega, List.take_of_length_le (by omega), List.drop_of_length_le (by omega), List.append_nil]
        have h9 : U9 ++ [] = KH0.set (H.length + 1) (crow c x1 c.gs.length) := by rw [List.append_nil, hK9', List.append_nil]; rfl
        rw [h9]
        have n9 : ∀ x, x ≠ H.length + 1 → (KH0.set (H.length + 1) (crow c x1 c.gs.length))[x]? = KH0[x]? := fun x hx => by rw [List.getElem?_set_ne (Ne.symm hx)]
        have hln := R.len
        have hR9 : (KH0.set (H.length + 1) (crow c x1 c.gs.length))[H.length + 1]? = some (crow c x1 c.gs.length) := by rw [List.getElem?_set_self (by omega)]
        refine ⟨_, res2 (resOf_at rfl (rowGet_all hR9 rfl)) (res_tmp rfl), by simp, ?_⟩
        have hz9 : GatesP (fun b => H.length ≤ b) (KH0.set (H.length + 1) (crow c x1 c.gs.length)) x1 (c.gs.reverse.map invG) := by
          have hR := R.cells
          rw [eg] at hR
          refine ⟨pz.reverse, by simpa using a2, ?_, fun i g1 g2 => ?_, fun i j g1 g2 hij => ?_⟩
          · have := hR.congr (S' := fun b => H.length ≤ b) (h' := KH0.set (H.length + 1) (crow c x1 c.gs.length)) (fun b hb => by have := hb.1; omega) (fun b hb _ => n9 b (by have := hb.1; omega))
            simpa using this
          · have hi : c.gs.length - 1 - i < c.gs.length := by simp at g1; omega
            have hi2 : c.gs.length - 1 - i < pz.length := by have := RB.e2; omega
            have := (WB _ hi hi2).congr (S' := fun b => H.length ≤ b ∧ offP x1 b) (h' := KH0.set (H.length + 1) (crow c x1 c.gs.length)) (fun b hb => ⟨by have := hb.1.1; omega, hb.2⟩) (fun b hb _ => by rw [n9 b (by have := hb.1.1; omega), R.keep b hb.2])
            have e5 : pz.reverse[i] = pz[c.gs.length - 1 - i] := by rw [List.getElem_reverse]; congr 1; rw [RB.e2]
            have e6 : ((c.gs.reverse.map invG)[i]).ws = (c.gs[c.gs.length - 1 - i]).ws := by rw [List.getElem_map, List.getElem_reverse]; rfl
            rw [e5, e6]
            exact this
          · rw [List.getElem_reverse, List.getElem_reverse]
            simp only [List.length_reverse] at g1 g2
            exact dB _ _ _ _ (by omega)
        obtain ⟨X, h1, h2⟩ := leafK (h := H) (u := .tuple #[cv ⟨c.w, c.b, c.gs.reverse.map invG⟩ x1, .int .i64 0]) (by rw [List.length_set]; omega) (fun b hb => by rw [n9 b (by omega), R.keep b (off1 b (by omega)), kH b hb]) hz9 cvt_flat
        have eu : (Value.tuple #[cv ⟨c.w, c.b, c.gs.reverse.map invG⟩ x1, .int .i64 0]) = .tuple #[.agg #[.int .i64 c.w, .int .i64 c.b, .slice x1.1 c.gs.length x1.2], .int .i64 0] := by simp
        rw [eu] at h1
        exact ⟨X, h1, x1, by rw [eM, eE, eu]; rfl, by rw [eM]; exact h2⟩
  · refine E_ext (v := .int .i64 (checkM c)) rfl rfl (E_mv (v := .bool _) rfl (E_mv (v := .int .i64 (checkM c)) rfl (E_nil (AX_seq (AX_seq (AX_E (E_mv (v := .int .i64 (checkM c)) rfl (E_neqS rfl rfl (fun c14 => ?_) (fun c14 => ?_)))))))))
    · refine E_nil (AX_condT rfl (AX_seq (AX_E (E_mk (cs := [.int .i64 (0), .int .i64 (0), .slice none 0 0]) rfl (E_mv (v := .int .i64 (checkM c)) rfl (E_stO (k := 1) rfl rfl (v := .agg _) rfl rfl rfl rfl (E_mv (v := .int .i64 (checkM c)) rfl (E_nil (AX_ret ?_)))))))))
      -- r3
      have eE : inverseE c = checkM c := by unfold inverseE; (repeat' split) <;> first | omega | contradiction | (simp_all; done)
      have eM : inverseM c = ⟨0, 0, []⟩ := if_neg (by omega)
      refine ⟨_, (res2 (res_cellN (k := 1) rfl rfl) (res_tmp rfl)), by simp, [], forget_nil rfl (List.prefix_append _ _), (none, 0), ?_, ?_⟩
      · show Value.tuple #[.agg #[.int .i64 (0), .int .i64 (0), .slice none 0 0], .int .i64 (checkM c)] = _; rw [eM, eE]; rfl
      · rw [eM]; exact fun A hA => GatesP.nil
    · refine E_nil (AX_condF rfl (AX_skip (AX_seq (AX_seq (AX_E (E_mv (v := .bool _) rfl (E_notV rfl rfl (E_nil (AX_condT rfl (AX_seq (AX_E (E_mk (cs := [.int .i64 (0), .int .i64 (0), .slice none 0 0]) rfl (E_stO (k := 1) rfl rfl (v := .agg _) rfl rfl rfl rfl (E_mv (v := .int .i64 (7)) rfl (E_nil (AX_ret ?_))))))))))))))))
      -- r4
      have eE : inverseE c = 7 := by unfold inverseE; (repeat' split) <;> first | omega | contradiction | (simp_all; done)
      have eM : inverseM c = ⟨0, 0, []⟩ := if_neg (by omega)
      refine ⟨_, (res2 (res_cellN (k := 1) rfl rfl) (res_tmp rfl)), by simp, [], forget_nil rfl (List.prefix_append _ _), (none, 0), ?_, ?_⟩
      · show Value.tuple #[.agg #[.int .i64 (0), .int .i64 (0), .slice none 0 0], .int .i64 (7)] = _; rw [eM, eE]; rfl
      · rw [eM]; exact fun A hA => GatesP.nil
end Go.Canon
namespace Go.Canon
open Go Go.Proofs
set_option linter.unusedVariables false
set_option linter.unusedSimpArgs false
end Go.Canon
namespace Go.Canon
open Go Go.Proofs
set_option linter.unusedVariables false
set_option linter.unusedSimpArgs false
end Go.Canon
namespace Go.Canon
open Go Go.Proofs
set_option linter.unusedVariables false
set_option linter.unusedSimpArgs false
def kf7 : KFunc := ⟨0, 170, [.tmp 0], .seq (.reg [⟨some 0, .mv (.c (.bool false)), none⟩] []) (.seq (.reg [⟨some 16, .mkS [.int .i64 0] 1 [(0, 1, .c (.int .i64 0))], none⟩, ⟨some 17, .call (.c (.func (.func 54) #[] #[])) [.c (.int .i64 4), .t 16], none⟩, ⟨some 18, .mkS [.int .i64 0, .int .i64 0] 2 [(0, 1, .c (.int .i64 0)), (1, 1, .c (.int .i64 1))], none⟩, ⟨some 19, .call (.c (.func (.func 54) #[] #[])) [.c (.int .i64 9), .t 18], none⟩, ⟨some 20, .mkS [.int .i64 0] 1 [(0, 1, .c (.int .i64 1))], none⟩, ⟨some 21, .call (.c (.func (.func 54) #[] #[])) [.c (.int .i64 7), .t 20], none⟩, ⟨some 22, .mkS [.int .i64 0] 1 [(0, 1, .c (.int .i64 0))], none⟩, ⟨some 23, .call (.c (.func (.func 54) #[] #[])) [.c (.int .i64 1), .t 22], none⟩, ⟨some 24, .mkS [.int .i64 0, .slice none 0 0, .int .i64 0, .int .i64 0, .int .i64 0, .slice none 0 0, .int .i64 0, .int .i64 0, .int .i64 0, .slice none 0 0, .int .i64 0, .int .i64 0, .int .i64 0, .slice none 0 0, .int .i64 0, .int .i64 0] 4 [(0, 4, .t 17), (4, 4, .t 19), (8, 4, .t 21), (12, 4, .t 23)], none⟩, ⟨some 25, .mk [.int .i64 0, .int .i64 0, .slice none 0 0] [(0, 1, .c (.int .i64 2)), (1, 1, .c (.int .i64 1)), (2, 1, .t 24)], none⟩, ⟨some 1, .new [.int .i64 0, .int .i64 0, .slice none 0 0], none⟩, ⟨none, .st (.t 1) (.t 25) 3, none⟩] []) (.seq (.reg [⟨some 27, .ld (.t 1) (some 3), none⟩, ⟨some 28, .call (.c (.func (.func 11) #[] #[])) [.t 27], none⟩, ⟨some 26, .mv (.t 28), none⟩, ⟨some 29, .ext (.t 26) 0, none⟩, ⟨some 30, .ext (.t 26) 1, none⟩, ⟨some 2, .mv (.t 29), none⟩, ⟨some 3, .mv (.t 30), none⟩] []) (.seq (.reg [⟨some 32, .ld (.t 1) (some 3), none⟩, ⟨some 33, .call (.c (.func (.func 12) #[] #[])) [.t 32], none⟩, ⟨some 31, .mv (.t 33), none⟩, ⟨some 34, .ext (.t 31) 0, none⟩, ⟨some 35, .ext (.t 31) 1, none⟩, ⟨some 4, .mv (.t 34), none⟩, ⟨some 5, .mv (.t 35), none⟩] []) (.seq (.reg [⟨some 37, .mkS [.int .i64 0] 1 [(0, 1, .c (.int .i64 0))], none⟩, ⟨some 38, .call (.c (.func (.func 54) #[] #[])) [.c (.int .i64 7), .t 37], none⟩, ⟨some 39, .mkS [.int .i64 0, .int .i64 0] 2 [(0, 1, .c (.int .i64 0)), (1, 1, .c (.int .i64 1))], none⟩, ⟨some 40, .call (.c (.func (.func 54) #[] #[])) [.c (.int .i64 9), .t 39], none⟩, ⟨some 41, .mkS [.int .i64 0, .slice none 0 0, .int .i64 0, .int .i64 0, .int .i64 0, .slice none 0 0, .int .i64 0, .int .i64 0] 2 [(0, 4, .t 38), (4, 4, .t 40)], none⟩, ⟨some 42, .mk [.int .i64 0, .int .i64 0, .slice none 0 0] [(0, 1, .c (.int .i64 2)), (2, 1, .t 41)], none⟩, ⟨some 43, .call (.c (.func (.func 28) #[] #[])) [.t 42, .c (.int .i64 0), .c (.int .i64 1)], none⟩, ⟨some 36, .mv (.t 43), none⟩, ⟨some 44, .ext (.t 36) 0, none⟩, ⟨some 45, .ext (.t 36) 1, none⟩, ⟨some 6, .mv (.t 44), none⟩, ⟨some 7, .mv (.t 45), none⟩] []) (.seq (.reg [⟨some 47, .mkS [.int .i64 0] 1 [(0, 1, .c (.int .i64 1))], none⟩, ⟨some 48, .call (.c (.func (.func 54) #[] #[])) [.c (.int .i64 7), .t 47], none⟩, ⟨some 49, .mkS [.int .i64 0, .int .i64 0] 2 [(0, 1, .c (.int .i64 0)), (1, 1, .c (.int .i64 1))], none⟩, ⟨some 50, .call (.c (.func (.func 54) #[] #[])) [.c (.int .i64 9), .t 49], none⟩, ⟨some 51, .mkS [.int .i64 0, .slice none 0 0, .int .i64 0, .int .i64 0, .int .i64 0, .slice none 0 0, .int .i64 0, .int .i64 0] 2 [(0, 4, .t 48), (4, 4, .t 50)], none⟩, ⟨some 52, .mk [.int .i64 0, .int .i64 0, .slice none 0 0] [(0, 1, .c (.int .i64 2)), (2, 1, .t 51)], none⟩, ⟨some 53, .call (.c (.func (.func 28) #[] #[])) [.t 52, .c (.int .i64 0), .c (.int .i64 1)], none⟩, ⟨some 46, .mv (.t 53), none⟩, ⟨some 54, .ext (.t 46) 0, none⟩, ⟨some 55, .ext (.t 46) 1, none⟩, ⟨some 8, .mv (.t 54), none⟩, ⟨some 9, .mv (.t 55), none⟩] []) (.seq (.reg [⟨some 57, .mkS [.int .i64 0, .int .i64 0] 2 [(0, 1, .c (.int .i64 0)), (1, 1, .c (.int .i64 1))], none⟩, ⟨some 58, .call (.c (.func (.func 54) #[] #[])) [.c (.int .i64 9), .t 57], none⟩, ⟨some 59, .mkS [.int .i64 0] 1 [(0, 1, .c (.int .i64 0))], none⟩, ⟨some 60, .call (.c (.func (.func 54) #[] #[])) [.c (.int .i64 7), .t 59], none⟩, ⟨some 61, .mkS [.int .i64 0] 1 [(0, 1, .c (.int .i64 0))], none⟩, ⟨some 62, .call (.c (.func (.func 54) #[] #[])) [.c (.int .i64 4), .t 61], none⟩, ⟨some 63, .mkS [.int .i64 0, .slice none 0 0, .int .i64 0, .int .i64 0, .int .i64 0, .slice none 0 0, .int .i64 0, .int .i64 0, .int .i64 0, .slice none 0 0, .int .i64 0, .int .i64 0] 3 [(0, 4, .t 58), (4, 4, .t 60), (8, 4, .t 62)], none⟩, ⟨some 64, .mk [.int .i64 0, .int .i64 0, .slice none 0 0] [(0, 1, .c (.int .i64 2)), (2, 1, .t 63)], none⟩, ⟨some 65, .call (.c (.func (.func 26) #[] #[])) [.t 64], none⟩, ⟨some 56, .mv (.t 65), none⟩, ⟨some 66, .ext (.t 56) 0, none⟩, ⟨some 67, .ext (.t 56) 1, none⟩, ⟨some 10, .new [.int .i64 0, .int .i64 0, .slice none 0 0], none⟩, ⟨none, .st (.t 10) (.t 66) 3, none⟩, ⟨some 11, .mv (.t 67), none⟩] []) (.seq (.reg [⟨some 69, .mkS [.int .i64 0, .int .i64 0] 2 [(0, 1, .c (.int .i64 0)), (1, 1, .c (.int .i64 1))], none⟩, ⟨some 70, .call (.c (.func (.func 54) #[] #[])) [.c (.int .i64 9), .t 69], none⟩, ⟨some 71, .mkS [.int .i64 0] 1 [(0, 1, .c (.int .i64 0))], none⟩, ⟨some 72, .call (.c (.func (.func 54) #[] #[])) [.c (.int .i64 7), .t 71], none⟩, ⟨some 73, .mkS [.int .i64 0, .int .i64 0] 2 [(0, 1, .c (.int .i64 0)), (1, 1, .c (.int .i64 1))], none⟩, ⟨some 74, .call (.c (.func (.func 54) #[] #[])) [.c (.int .i64 9), .t 73], none⟩, ⟨some 75, .mkS [.int .i64 0, .slice none 0 0, .int .i64 0, .int .i64 0, .int .i64 0, .slice none 0 0, .int .i64 0, .int .i64 0, .int .i64 0, .slice none 0 0, .int .i64 0, .int .i64 0] 3 [(0, 4, .t 70), (4, 4, .t 72), (8, 4, .t 74)], none⟩, ⟨some 76, .mk [.int .i64 0, .int .i64 0, .slice none 0 0] [(0, 1, .c (.int .i64 2)), (2, 1, .t 75)], none⟩, ⟨some 77, .call (.c (.func (.func 25) #[] #[])) [.t 76], none⟩, ⟨some 68, .mv (.t 77), none⟩, ⟨some 78, .ext (.t 68) 0, none⟩, ⟨some 79, .ext (.t 68) 1, none⟩, ⟨some 12, .new [.int .i64 0, .int .i64 0, .slice none 0 0], none⟩, ⟨none, .st (.t 12) (.t 78) 3, none⟩, ⟨some 13, .mv (.t 79), none⟩] []) (.seq (.reg [⟨some 81, .mkS [.int .i64 0] 1 [(0, 1, .c (.int .i64 0))], none⟩, ⟨some 82, .call (.c (.func (.func 54) #[] #[])) [.c (.int .i64 5), .t 81], none⟩, ⟨some 83, .mkS [.int .i64 0] 1 [(0, 1, .c (.int .i64 1))], none⟩, ⟨some 84, .call (.c (.func (.func 54) #[] #[])) [.c (.int .i64 7), .t 83], none⟩, ⟨some 85, .mkS [.int .i64 0, .slice none 0 0, .int .i64 0, .int .i64 0, .int .i64 0, .slice none 0 0, .int .i64 0, .int .i64 0] 2 [(0, 4, .t 82), (4, 4, .t 84)], none⟩, ⟨some 86, .mk [.int .i64 0, .int .i64 0, .slice none 0 0] [(0, 1, .c (.int .i64 2)), (2, 1, .t 85)], none⟩, ⟨some 87, .call (.c (.func (.func 22) #[] #[])) [.t 86], none⟩, ⟨some 80, .mv (.t 87), none⟩, ⟨some 88, .ext (.t 80) 0, none⟩, ⟨some 89, .ext (.t 80) 1, none⟩, ⟨some 14, .new [.int .i64 0, .int .i64 0, .slice none 0 0], none⟩, ⟨none, .st (.t 14) (.t 88) 3, none⟩, ⟨some 15, .mv (.t 89), none⟩] []) (.seq (.reg [⟨some 90, .mv (.t 3), none⟩, ⟨some 91, .bin .eql (.t 90) (.c (.int .i64 0)), none⟩, ⟨some 92, .mv (.t 91), none⟩, ⟨some 93, .mv (.t 5), some (92, true)⟩, ⟨some 94, .bin .eql (.t 93) (.c (.int .i64 0)), some (92, true)⟩, ⟨some 95, .pick (.t 92) (.t 94) (.c (.bool false)), none⟩, ⟨some 96, .mv (.t 95), none⟩, ⟨some 97, .mv (.t 7), some (96, true)⟩, ⟨some 98, .bin .eql (.t 97) (.c (.int .i64 0)), some (96, true)⟩, ⟨some 99, .pick (.t 96) (.t 98) (.c (.bool false)), none⟩, ⟨some 100, .mv (.t 99), none⟩, ⟨some 101, .mv (.t 9), some (100, true)⟩, ⟨some 102, .bin .eql (.t 101) (.c (.int .i64 0)), some (100, true)⟩, ⟨some 103, .pick (.t 100) (.t 102) (.c (.bool false)), none⟩, ⟨some 104, .mv (.t 103), none⟩, ⟨some 105, .mv (.t 11), some (104, true)⟩, ⟨some 106, .bin .eql (.t 105) (.c (.int .i64 0)), some (104, true)⟩, ⟨some 107, .pick (.t 104) (.t 106) (.c (.bool false)), none⟩, ⟨some 108, .mv (.t 107), none⟩, ⟨some 109, .mv (.t 13), some (108, true)⟩, ⟨some 110, .bin .eql (.t 109) (.c (.int .i64 0)), some (108, true)⟩, ⟨some 111, .pick (.t 108) (.t 110) (.c (.bool false)), none⟩, ⟨some 112, .mv (.t 111), none⟩, ⟨some 113, .mv (.t 15), some (112, true)⟩, ⟨some 114, .bin .eql (.t 113) (.c (.int .i64 0)), some (112, true)⟩, ⟨some 115, .pick (.t 112) (.t 114) (.c (.bool false)), none⟩, ⟨some 116, .mv (.t 115), none⟩, ⟨some 117, .mv (.t 2), some (116, true)⟩, ⟨some 118, .mkS [.int .i64 0, .int .i64 0, .int .i64 0, .int .i64 0] 4 [(0, 1, .c (.int .i64 0)), (1, 1, .c (.int .i64 1)), (2, 1, .c (.int .i64 2)), (3, 1, .c (.int .i64 2))], some (116, true)⟩, ⟨some 119, .call (.c (.func (.func 40) #[] #[])) [.t 117, .t 118], some (116, true)⟩, ⟨some 120, .pick (.t 116) (.t 119) (.c (.bool false)), none⟩, ⟨some 121, .mv (.t 120), none⟩, ⟨some 122, .mv (.t 4), some (121, true)⟩, ⟨some 123, .bin .eql (.t 122) (.c (.int .i64 3)), some (121, true)⟩, ⟨some 124, .pick (.t 121) (.t 123) (.c (.bool false)), none⟩, ⟨some 125, .mv (.t 124), none⟩, ⟨some 126, .mv (.t 6), some (125, true)⟩, ⟨some 127, .pick (.t 125) (.t 126) (.c (.bool false)), none⟩, ⟨some 128, .mv (.t 127), none⟩, ⟨some 129, .mv (.t 8), some (128, true)⟩, ⟨some 130, .not (.t 129), some (128, true)⟩, ⟨some 131, .pick (.t 128) (.t 130) (.c (.bool false)), none⟩, ⟨some 132, .mv (.t 131), none⟩, ⟨some 133, .ld (.t 10) (some 3), some (132, true)⟩, ⟨some 134, .mkS [.int .i64 0] 1 [(0, 1, .c (.int .i64 0))], some (132, true)⟩, ⟨some 135, .call (.c (.func (.func 54) #[] #[])) [.c (.int .i64 7), .t 134], some (132, true)⟩, ⟨some 136, .mkS [.int .i64 0, .int .i64 0] 2 [(0, 1, .c (.int .i64 0)), (1, 1, .c (.int .i64 1))], some (132, true)⟩, ⟨some 137, .call (.c (.func (.func 54) #[] #[])) [.c (.int .i64 9), .t 136], some (132, true)⟩, ⟨some 138, .mkS [.int .i64 0] 1 [(0, 1, .c (.int .i64 0))], some (132, true)⟩, ⟨some 139, .call (.c (.func (.func 54) #[] #[])) [.c (.int .i64 4), .t 138], some (132, true)⟩, ⟨some 140, .mkS [.int .i64 0, .slice none 0 0, .int .i64 0, .int .i64 0, .int .i64 0, .slice none 0 0, .int .i64 0, .int .i64 0, .int .i64 0, .slice none 0 0, .int .i64 0, .int .i64 0] 3 [(0, 4, .t 135), (4, 4, .t 137), (8, 4, .t 139)], some (132, true)⟩, ⟨some 141, .mk [.int .i64 0, .int .i64 0, .slice none 0 0] [(0, 1, .c (.int .i64 2)), (2, 1, .t 140)], some (132, true)⟩, ⟨some 142, .call (.c (.func (.func 24) #[] #[])) [.t 133, .t 141], some (132, true)⟩, ⟨some 143, .pick (.t 132) (.t 142) (.c (.bool false)), none⟩, ⟨some 144, .mv (.t 143), none⟩, ⟨some 145, .ld (.t 12) (some 3), some (144, true)⟩, ⟨some 146, .mkS [.int .i64 0] 1 [(0, 1, .c (.int .i64 0))], some (144, true)⟩, ⟨some 147, .call (.c (.func (.func 54) #[] #[])) [.c (.int .i64 7), .t 146], some (144, true)⟩, ⟨some 148, .mkS [.int .i64 0, .slice none 0 0, .int .i64 0, .int .i64 0] 1 [(0, 4, .t 147)], some (144, true)⟩, ⟨some 149, .mk [.int .i64 0, .int .i64 0, .slice none 0 0] [(0, 1, .c (.int .i64 2)), (2, 1, .t 148)], some (144, true)⟩, ⟨some 150, .call (.c (.func (.func 24) #[] #[])) [.t 145, .t 149], some (144, true)⟩, ⟨some 151, .pick (.t 144) (.t 150) (.c (.bool false)), none⟩, ⟨some 152, .mv (.t 151), none⟩, ⟨some 153, .ld (.t 14) (some 3), some (152, true)⟩, ⟨some 154, .mkS [.int .i64 0] 1 [(0, 1, .c (.int .i64 1))], some (152, true)⟩, ⟨some 155, .call (.c (.func (.func 54) #[] #[])) [.c (.int .i64 8), .t 154], some (152, true)⟩, ⟨some 156, .mkS [.int .i64 0] 1 [(0, 1, .c (.int .i64 0))], some (152, true)⟩, ⟨some 157, .call (.c (.func (.func 54) #[] #[])) [.c (.int .i64 6), .t 156], some (152, true)⟩, ⟨some 158, .mkS [.int .i64 0, .slice none 0 0, .int .i64 0, .int .i64 0, .int .i64 0, .slice none 0 0, .int .i64 0, .int .i64 0] 2 [(0, 4, .t 155), (4, 4, .t 157)], some (152, true)⟩, ⟨some 159, .mk [.int .i64 0, .int .i64 0, .slice none 0 0] [(0, 1, .c (.int .i64 2)), (2, 1, .t 158)], some (152, true)⟩, ⟨some 160, .call (.c (.func (.func 24) #[] #[])) [.t 153, .t 159], some (152, true)⟩, ⟨some 161, .pick (.t 152) (.t 160) (.c (.bool false)), none⟩, ⟨some 162, .mv (.t 161), none⟩, ⟨some 163, .call (.c (.func (.func 55) #[] #[])) [.c (.int .i64 12)], some (162, true)⟩, ⟨some 164, .bin .eql (.t 163) (.c (.int .i64 3)), some (162, true)⟩, ⟨some 165, .pick (.t 162) (.t 164) (.c (.bool false)), none⟩, ⟨some 166, .mv (.t 165), none⟩, ⟨some 167, .call (.c (.func (.func 55) #[] #[])) [.c (.int .i64 0)], some (166, true)⟩, ⟨some 168, .bin .eql (.t 167) (.c (.int .i64 0)), some (166, true)⟩, ⟨some 169, .pick (.t 166) (.t 168) (.c (.bool false)), none⟩, ⟨some 0, .mv (.t 169), none⟩] [(43, 45), (43, 47), (43, 49), (55, 57), (63, 65), (63, 67)]) .ret)))))))))⟩
theorem k7 : tab Tryd.prog 19 = some kf7 := by kernel_rfl
theorem gates_row {K : Heap} {a n : Nat} {gs : List G} {ps : List Pl} (hrow : K[a]? = some (.row (flat gs ps) true none)) (hn : n = gs.length) (e : ps.length = gs.length) (hw : ∀ i (h1 : i < gs.length) (h2 : i < ps.length), Ints allB K ps[i] gs[i].ws) : Gates allB K (some ⟨a, 0, none⟩, n) gs := by
  subst hn
  refine ⟨ps, e, ⟨flat_len _ _ e, Nat.le_refl _, .inr ⟨a, 0, _, true, none, rfl, trivial, hrow, .inl rfl, .inr ⟨by rw [flat_len _ _ e]; omega, ?_⟩⟩⟩, hw⟩
  rw [List.drop_zero, ← flat_len _ _ e, List.take_length]
theorem wires_cons {K : Heap} {g : G} {p : Pl} {gs : List G} {ps : List Pl} (h : Ints allB K p g.ws) (H : ∀ i (h1 : i < gs.length) (h2 : i < ps.length), Ints allB K ps[i] gs[i].ws) : ∀ i (h1 : i < (g :: gs).length) (h2 : i < (p :: ps).length), Ints allB K (p :: ps)[i] (g :: gs)[i].ws
  | 0, _, _ => h
  | i + 1, h1, h2 => H i (by simpa using h1) (by simpa using h2)
theorem wires_nil {K : Heap} : ∀ i (h1 : i < ([] : List G).length) (h2 : i < ([] : List Pl).length), Ints allB K ([] : List Pl)[i] ([] : List G)[i].ws := fun i h1 => by simp at h1
theorem Gates.lift {S : Nat → Prop} {K K' L : Heap} {p : Pl} {l : List G} (H : Gates S K p l) (e : K' = K ++ L) : Gates S K' p l := by rw [e]; exact H.app
theorem Ints.lift {S : Nat → Prop} {K K' L : Heap} {p : Pl} {l : List Int} (H : Ints S K p l) (e : K' = K ++ L) : Ints S K' p l := by rw [e]; exact H.app
theorem rowGet_lift {K K' L : Heap} {a : Addr} {n : Nat} {l : List Value} (e : K' = K ++ L) (H : rowGet K a n = some l) : rowGet K' a n = some l := by rw [e]; exact rowGet_base H
theorem rowGet_eq {K K' : Heap} {a : Addr} {n : Nat} {l : List Value} (e : K' = K) (H : rowGet K a n = some l) : rowGet K' a n = some l := by rw [e]; exact H
theorem g_ret (H : Heap) (k : Int) (p : Pl) (n : Nat) : ∃ X, Ret (tab Tryd.prog) 54 [.int .i64 k, .slice p.1 n p.2] H (.agg #[.int .i64 k, .slice p.1 n p.2, .int .i64 0, .int .i64 0]) (H ++ X) := by
  have key := Ret_grow (T := tab Tryd.prog) (f := 54) (args := [.int .i64 k, .slice p.1 n p.2]) (h := H) (fun u X => u = .agg #[.int .i64 k, .slice p.1 n p.2, .int .i64 0, .int .i64 0]) k51 rfl ?_
  · obtain ⟨u, X, hr, rfl⟩ := key
    exact ⟨X, hr⟩
  refine AX_seq (AX_E (E_new (E_nil (AX_seq (AX_E (E_mv (v := .int .i64 (k)) rfl (E_mv (v := .slice _ _ _) rfl (E_mk (cs := [.int .i64 (k), .slice p.1 n p.2, .int .i64 (0), .int .i64 (0)]) rfl (E_stO (k := 0) rfl rfl (v := .agg _) rfl rfl rfl rfl (E_nil (AX_ret ?_)))))))))))
  obtain ⟨X, hX⟩ := forget_any (h := H) (u := .agg #[.int .i64 k, .slice p.1 n p.2, .int .i64 0, .int .i64 0]) (List.prefix_append H [CO.row [.int .i64 (k), .slice p.1 n p.2, .int .i64 (0), .int .i64 (0)] true none])
  exact ⟨_, res1 (res_cellN (k := 0) rfl rfl), by simp, X, hX, rfl⟩
def aw1 : C := ⟨2, 1, [⟨4, [0], 0, 0⟩, ⟨9, [0, 1], 0, 0⟩, ⟨7, [1], 0, 0⟩, ⟨1, [0], 0, 0⟩]⟩
def aw2 : C := ⟨2, 0, [⟨7, [0], 0, 0⟩, ⟨9, [0, 1], 0, 0⟩]⟩
def aw3 : C := ⟨2, 0, [⟨7, [1], 0, 0⟩, ⟨9, [0, 1], 0, 0⟩]⟩
def aw4 : C := ⟨2, 0, [⟨9, [0, 1], 0, 0⟩, ⟨7, [0], 0, 0⟩, ⟨4, [0], 0, 0⟩]⟩
def aw5 : C := ⟨2, 0, [⟨9, [0, 1], 0, 0⟩, ⟨7, [0], 0, 0⟩, ⟨9, [0, 1], 0, 0⟩]⟩
def aw6 : C := ⟨2, 0, [⟨5, [0], 0, 0⟩, ⟨7, [1], 0, 0⟩]⟩
def aw4t : C := ⟨2, 0, [⟨7, [0], 0, 0⟩, ⟨9, [0, 1], 0, 0⟩, ⟨4, [0], 0, 0⟩]⟩
def aw5t : C := ⟨2, 0, [⟨7, [0], 0, 0⟩]⟩
def aw6t : C := ⟨2, 0, [⟨8, [1], 0, 0⟩, ⟨6, [0], 0, 0⟩]⟩
theorem aw_1 : checkM aw1 = 0 ∧ layersR aw1 = [0, 1, 2, 2] ∧ depthR aw1 = 3 := by decide +kernel
theorem aw_2 : twoE aw2 0 1 = 0 ∧ commM (twoG aw2 0 1 0) (twoG aw2 0 1 1) := by decide +kernel
theorem aw_3 : twoE aw3 0 1 = 0 ∧ ¬ commM (twoG aw3 0 1 0) (twoG aw3 0 1 1) := by decide +kernel
theorem aw_4 : checkM aw4 = 0 ∧ tidyR aw4 = aw4t := by decide +kernel
theorem aw_5 : checkM aw5 = 0 ∧ cancelR aw5 = aw5t := by decide +kernel
theorem aw_6 : inverseE aw6 = 0 ∧ inverseM aw6 = aw6t := by decide +kernel
theorem aw_l : aw1.gs.length < 100 ∧ aw2.gs.length < 100 ∧ aw3.gs.length < 100 ∧ aw4.gs.length < 100 ∧ aw5.gs.length < 100 ∧ aw6.gs.length < 100 := by decide
theorem aw_n : lens (tidyR aw4).gs ∧ lens (cancelR aw5).gs ∧ lens (inverseM aw6).gs := by
  rw [aw_4.2, aw_5.2, aw_6.2]
  unfold lens
  decide +kernel
theorem awake_ret (H : Heap) : Ret (tab Tryd.prog) 19 [] H (.bool true) H := by
  obtain ⟨l1, l2, l3, l4, l5, l6⟩ := aw_l
  refine Ret_own k7 rfl ?_
  refine AX_seq (AX_E (E_mv (v := .bool _) rfl (E_nil (AX_seq (AX_E (E_mkS (cs := [.int .i64 (0)]) rfl ?_))))))
  obtain ⟨X1, hr1⟩ := g_ret (H ++ [CO.row [.int .i64 (0)] true none]) (4) ((some ⟨(H).length + 0, 0, none⟩, 1) : Pl) 1
  have hi1 : Ints allB (H ++ ([CO.row [.int .i64 (0)] true none] ++ X1)) ((some ⟨(H).length + 0, 0, none⟩, 1) : Pl) [0] := Ints.grow (ints_own (k := 0) rfl)
  obtain ⟨K2, hK2⟩ : ∃ K : Heap, K = H ++ ([CO.row [.int .i64 (0)] true none] ++ X1) := ⟨_, rfl⟩
  have pK2 : H <+: K2 := by rw [hK2]; exact List.prefix_append _ _
  have fk3 : Ints allB K2 (((some ⟨(H).length + 0, 0, none⟩, 1) : Pl)) ([0]) := by rw [hK2]; exact hi1
  refine E_callX (X := X1) rfl (hr1) (E_hp (h' := K2 ++ []) (congrArg (fun x : Heap => x ++ []) hK2.symm) (E_mkS (cs := [.int .i64 (0), .int .i64 (1)]) rfl ?_))
  obtain ⟨X4, hr4⟩ := g_ret (K2 ++ [CO.row [.int .i64 (0), .int .i64 (1)] true none]) (9) ((some ⟨(K2).length + 0, 0, none⟩, 2) : Pl) 2
  have hi4 : Ints allB (K2 ++ ([CO.row [.int .i64 (0), .int .i64 (1)] true none] ++ X4)) ((some ⟨(K2).length + 0, 0, none⟩, 2) : Pl) [0, 1] := Ints.grow (ints_own (k := 0) rfl)
  obtain ⟨K5, hK5⟩ : ∃ K : Heap, K = K2 ++ ([CO.row [.int .i64 (0), .int .i64 (1)] true none] ++ X4) := ⟨_, rfl⟩
  have pK5 : H <+: K5 := by rw [hK5]; exact (pK2).trans (List.prefix_append _ _)
  have fk6 : Ints allB K5 (((some ⟨(K2).length + 0, 0, none⟩, 2) : Pl)) ([0, 1]) := by rw [hK5]; exact hi4
  refine E_callX (X := X4) rfl (hr4) (E_hp (h' := K5 ++ []) (congrArg (fun x : Heap => x ++ []) hK5.symm) (E_mkS (cs := [.int .i64 (1)]) rfl ?_))
  obtain ⟨X7, hr7⟩ := g_ret (K5 ++ [CO.row [.int .i64 (1)] true none]) (7) ((some ⟨(K5).length + 0, 0, none⟩, 1) : Pl) 1
  have hi7 : Ints allB (K5 ++ ([CO.row [.int .i64 (1)] true none] ++ X7)) ((some ⟨(K5).length + 0, 0, none⟩, 1) : Pl) [1] := Ints.grow (ints_own (k := 0) rfl)
  obtain ⟨K8, hK8⟩ : ∃ K : Heap, K = K5 ++ ([CO.row [.int .i64 (1)] true none] ++ X7) := ⟨_, rfl⟩
  have pK8 : H <+: K8 := by rw [hK8]; exact (pK5).trans (List.prefix_append _ _)
  have fk9 : Ints allB K8 (((some ⟨(K5).length + 0, 0, none⟩, 1) : Pl)) ([1]) := by rw [hK8]; exact hi7
  refine E_callX (X := X7) rfl (hr7) (E_hp (h' := K8 ++ []) (congrArg (fun x : Heap => x ++ []) hK8.symm) (E_mkS (cs := [.int .i64 (0)]) rfl ?_))
  obtain ⟨X10, hr10⟩ := g_ret (K8 ++ [CO.row [.int .i64 (0)] true none]) (1) ((some ⟨(K8).length + 0, 0, none⟩, 1) : Pl) 1
  have hi10 : Ints allB (K8 ++ ([CO.row [.int .i64 (0)] true none] ++ X10)) ((some ⟨(K8).length + 0, 0, none⟩, 1) : Pl) [0] := Ints.grow (ints_own (k := 0) rfl)
  obtain ⟨K11, hK11⟩ : ∃ K : Heap, K = K8 ++ ([CO.row [.int .i64 (0)] true none] ++ X10) := ⟨_, rfl⟩
  have pK11 : H <+: K11 := by rw [hK11]; exact (pK8).trans (List.prefix_append _ _)
  have fk12 : Ints allB K11 (((some ⟨(K8).length + 0, 0, none⟩, 1) : Pl)) ([0]) := by rw [hK11]; exact hi10
  refine E_callX (X := X10) rfl (hr10) (E_hp (h' := K11 ++ []) (congrArg (fun x : Heap => x ++ []) hK11.symm) ?_)
  obtain ⟨K14, hK14⟩ : ∃ K : Heap, K = K11 ++ ([CO.row [.int .i64 (4), .slice (((some ⟨(H).length + 0, 0, none⟩, 1) : Pl)).1 ([0]).length (((some ⟨(H).length + 0, 0, none⟩, 1) : Pl)).2, .int .i64 (0), .int .i64 (0), .int .i64 (9), .slice (((some ⟨(K2).length + 0, 0, none⟩, 2) : Pl)).1 ([0, 1]).length (((some ⟨(K2).length + 0, 0, none⟩, 2) : Pl)).2, .int .i64 (0), .int .i64 (0), .int .i64 (7), .slice (((some ⟨(K5).length + 0, 0, none⟩, 1) : Pl)).1 ([1]).length (((some ⟨(K5).length + 0, 0, none⟩, 1) : Pl)).2, .int .i64 (0), .int .i64 (0), .int .i64 (1), .slice (((some ⟨(K8).length + 0, 0, none⟩, 1) : Pl)).1 ([0]).length (((some ⟨(K8).length + 0, 0, none⟩, 1) : Pl)).2, .int .i64 (0), .int .i64 (0)] true none] ++ []) := ⟨_, rfl⟩
  have pK14 : H <+: K14 := by rw [hK14]; exact (pK11).trans (List.prefix_append _ _)
  have hG13 : Gates allB K14 ((some ⟨(K11).length + 0, 0, none⟩, 4) : Pl) [⟨4, [0], 0, 0⟩, ⟨9, [0, 1], 0, 0⟩, ⟨7, [1], 0, 0⟩, ⟨1, [0], 0, 0⟩] := gates_row (ps := [((some ⟨(H).length + 0, 0, none⟩, 1) : Pl), ((some ⟨(K2).length + 0, 0, none⟩, 2) : Pl), ((some ⟨(K5).length + 0, 0, none⟩, 1) : Pl), ((some ⟨(K8).length + 0, 0, none⟩, 1) : Pl)]) (by rw [hK14, List.append_nil]; exact own_get _ _ _) rfl rfl (wires_cons ((((fk3.lift hK5).lift hK8).lift hK11).lift hK14) (wires_cons (((fk6.lift hK8).lift hK11).lift hK14) (wires_cons ((fk9.lift hK11).lift hK14) (wires_cons (fk12.lift hK14) wires_nil))))
  refine E_mkS (cs := [.int .i64 (4), .slice (((some ⟨(H).length + 0, 0, none⟩, 1) : Pl)).1 ([0]).length (((some ⟨(H).length + 0, 0, none⟩, 1) : Pl)).2, .int .i64 (0), .int .i64 (0), .int .i64 (9), .slice (((some ⟨(K2).length + 0, 0, none⟩, 2) : Pl)).1 ([0, 1]).length (((some ⟨(K2).length + 0, 0, none⟩, 2) : Pl)).2, .int .i64 (0), .int .i64 (0), .int .i64 (7), .slice (((some ⟨(K5).length + 0, 0, none⟩, 1) : Pl)).1 ([1]).length (((some ⟨(K5).length + 0, 0, none⟩, 1) : Pl)).2, .int .i64 (0), .int .i64 (0), .int .i64 (1), .slice (((some ⟨(K8).length + 0, 0, none⟩, 1) : Pl)).1 ([0]).length (((some ⟨(K8).length + 0, 0, none⟩, 1) : Pl)).2, .int .i64 (0), .int .i64 (0)]) rfl (E_hp (h' := K14 ++ []) (((List.append_nil _).symm.trans (congrArg (fun x : Heap => (K11 ++ x) ++ []) (List.append_nil _).symm)).trans (congrArg (fun x : Heap => x ++ []) hK14.symm)) (E_mk (cs := [.int .i64 (aw1.w), .int .i64 (aw1.b), .slice (((some ⟨(K11).length + 0, 0, none⟩, 4) : Pl)).1 (aw1.gs).length (((some ⟨(K11).length + 0, 0, none⟩, 4) : Pl)).2]) rfl (E_new (E_stO (k := 0) rfl rfl (v := .agg _) rfl rfl rfl rfl (E_nil (AX_seq (AX_E (E_ldON (k := 0) rfl rfl ?_))))))))
  obtain ⟨X15, q15, hr15, f15⟩ := players_ret (K14 ++ [CO.row [.int .i64 (aw1.w), .int .i64 (aw1.b), .slice (((some ⟨(K11).length + 0, 0, none⟩, 4) : Pl)).1 (aw1.gs).length (((some ⟨(K11).length + 0, 0, none⟩, 4) : Pl)).2] true none]) aw1 _ hG13.app (by omega)
  obtain ⟨K16, hK16⟩ : ∃ K : Heap, K = K14 ++ ([CO.row [.int .i64 (aw1.w), .int .i64 (aw1.b), .slice (((some ⟨(K11).length + 0, 0, none⟩, 4) : Pl)).1 (aw1.gs).length (((some ⟨(K11).length + 0, 0, none⟩, 4) : Pl)).2] true none] ++ X15) := ⟨_, rfl⟩
  have pK16 : H <+: K16 := by rw [hK16]; exact (pK14).trans (List.prefix_append _ _)
  have fk17 : Ints allB K16 (q15) ((layersR aw1)) := by rw [hK16]; exact (f15.at rfl)
  refine E_callX (X := X15) rfl (hr15) (E_hp (h' := K16 ++ []) (congrArg (fun x : Heap => x ++ []) hK16.symm) (E_mv (v := .tuple _) rfl (E_ext (v := .slice _ _ _) rfl rfl (E_ext (v := .int .i64 ((checkM aw1))) rfl rfl (E_mv (v := .slice _ _ _) rfl (E_mv (v := .int .i64 ((checkM aw1))) rfl (E_nil (AX_seq (AX_E (E_ldBN (cs := [.int .i64 (aw1.w), .int .i64 (aw1.b), .slice (((some ⟨(K11).length + 0, 0, none⟩, 4) : Pl)).1 (aw1.gs).length (((some ⟨(K11).length + 0, 0, none⟩, 4) : Pl)).2]) rfl (rowGet_eq hK16 (rowGet_own (k := 0) rfl)) (E_callV rfl (pdepth_ret _ aw1 _ (hG13.lift hK16).app (by omega)) (E_mv (v := .tuple _) rfl (E_ext (v := .int .i64 ((depthR aw1))) rfl rfl (E_ext (v := .int .i64 ((checkM aw1))) rfl rfl (E_mv (v := .int .i64 ((depthR aw1))) rfl (E_mv (v := .int .i64 ((checkM aw1))) rfl (E_nil (AX_seq (AX_E (E_mkS (cs := [.int .i64 (0)]) rfl ?_))))))))))))))))))))
  obtain ⟨X18, hr18⟩ := g_ret (K16 ++ [CO.row [.int .i64 (0)] true none]) (7) ((some ⟨(K16).length + 0, 0, none⟩, 1) : Pl) 1
  have hi18 : Ints allB (K16 ++ ([CO.row [.int .i64 (0)] true none] ++ X18)) ((some ⟨(K16).length + 0, 0, none⟩, 1) : Pl) [0] := Ints.grow (ints_own (k := 0) rfl)
  obtain ⟨K19, hK19⟩ : ∃ K : Heap, K = K16 ++ ([CO.row [.int .i64 (0)] true none] ++ X18) := ⟨_, rfl⟩
  have pK19 : H <+: K19 := by rw [hK19]; exact (pK16).trans (List.prefix_append _ _)
  have fk20 : Ints allB K19 (((some ⟨(K16).length + 0, 0, none⟩, 1) : Pl)) ([0]) := by rw [hK19]; exact hi18
  refine E_callX (X := X18) rfl (hr18) (E_hp (h' := K19 ++ []) (congrArg (fun x : Heap => x ++ []) hK19.symm) (E_mkS (cs := [.int .i64 (0), .int .i64 (1)]) rfl ?_))
  obtain ⟨X21, hr21⟩ := g_ret (K19 ++ [CO.row [.int .i64 (0), .int .i64 (1)] true none]) (9) ((some ⟨(K19).length + 0, 0, none⟩, 2) : Pl) 2
  have hi21 : Ints allB (K19 ++ ([CO.row [.int .i64 (0), .int .i64 (1)] true none] ++ X21)) ((some ⟨(K19).length + 0, 0, none⟩, 2) : Pl) [0, 1] := Ints.grow (ints_own (k := 0) rfl)
  obtain ⟨K22, hK22⟩ : ∃ K : Heap, K = K19 ++ ([CO.row [.int .i64 (0), .int .i64 (1)] true none] ++ X21) := ⟨_, rfl⟩
  have pK22 : H <+: K22 := by rw [hK22]; exact (pK19).trans (List.prefix_append _ _)
  have fk23 : Ints allB K22 (((some ⟨(K19).length + 0, 0, none⟩, 2) : Pl)) ([0, 1]) := by rw [hK22]; exact hi21
  refine E_callX (X := X21) rfl (hr21) (E_hp (h' := K22 ++ []) (congrArg (fun x : Heap => x ++ []) hK22.symm) ?_)
  obtain ⟨K25, hK25⟩ : ∃ K : Heap, K = K22 ++ ([CO.row [.int .i64 (7), .slice (((some ⟨(K16).length + 0, 0, none⟩, 1) : Pl)).1 ([0]).length (((some ⟨(K16).length + 0, 0, none⟩, 1) : Pl)).2, .int .i64 (0), .int .i64 (0), .int .i64 (9), .slice (((some ⟨(K19).length + 0, 0, none⟩, 2) : Pl)).1 ([0, 1]).length (((some ⟨(K19).length + 0, 0, none⟩, 2) : Pl)).2, .int .i64 (0), .int .i64 (0)] true none] ++ []) := ⟨_, rfl⟩
  have pK25 : H <+: K25 := by rw [hK25]; exact (pK22).trans (List.prefix_append _ _)
  have hG24 : Gates allB K25 ((some ⟨(K22).length + 0, 0, none⟩, 2) : Pl) [⟨7, [0], 0, 0⟩, ⟨9, [0, 1], 0, 0⟩] := gates_row (ps := [((some ⟨(K16).length + 0, 0, none⟩, 1) : Pl), ((some ⟨(K19).length + 0, 0, none⟩, 2) : Pl)]) (by rw [hK25, List.append_nil]; exact own_get _ _ _) rfl rfl (wires_cons ((fk20.lift hK22).lift hK25) (wires_cons (fk23.lift hK25) wires_nil))
  refine E_mkS (cs := [.int .i64 (7), .slice (((some ⟨(K16).length + 0, 0, none⟩, 1) : Pl)).1 ([0]).length (((some ⟨(K16).length + 0, 0, none⟩, 1) : Pl)).2, .int .i64 (0), .int .i64 (0), .int .i64 (9), .slice (((some ⟨(K19).length + 0, 0, none⟩, 2) : Pl)).1 ([0, 1]).length (((some ⟨(K19).length + 0, 0, none⟩, 2) : Pl)).2, .int .i64 (0), .int .i64 (0)]) rfl (E_hp (h' := K25 ++ []) (((List.append_nil _).symm.trans (congrArg (fun x : Heap => (K22 ++ x) ++ []) (List.append_nil _).symm)).trans (congrArg (fun x : Heap => x ++ []) hK25.symm)) (E_mk (cs := [.int .i64 (aw2.w), .int .i64 (aw2.b), .slice (((some ⟨(K22).length + 0, 0, none⟩, 2) : Pl)).1 (aw2.gs).length (((some ⟨(K22).length + 0, 0, none⟩, 2) : Pl)).2]) rfl (E_callV rfl (pCommute_ret _ aw2 _ (0) (1) hG24.app (by first | omega | (simp; done) | (simp; omega))) (E_mv (v := .tuple _) rfl (E_ext (v := .bool _) rfl rfl (E_bs (fun c44 => ?_) (fun c44 => ?_)))))))
  · refine E_ext (v := .int .i64 (twoE aw2 (0) (1))) rfl rfl (E_mv (v := .bool _) rfl (E_mv (v := .int .i64 (twoE aw2 (0) (1))) rfl (E_nil (AX_seq (AX_E (E_mkS (cs := [.int .i64 (1)]) rfl ?_))))))
    obtain ⟨X26, hr26⟩ := g_ret (K25 ++ [CO.row [.int .i64 (1)] true none]) (7) ((some ⟨(K25).length + 0, 0, none⟩, 1) : Pl) 1
    have hi26 : Ints allB (K25 ++ ([CO.row [.int .i64 (1)] true none] ++ X26)) ((some ⟨(K25).length + 0, 0, none⟩, 1) : Pl) [1] := Ints.grow (ints_own (k := 0) rfl)
    obtain ⟨K27, hK27⟩ : ∃ K : Heap, K = K25 ++ ([CO.row [.int .i64 (1)] true none] ++ X26) := ⟨_, rfl⟩
    have pK27 : H <+: K27 := by rw [hK27]; exact (pK25).trans (List.prefix_append _ _)
    have fk28 : Ints allB K27 (((some ⟨(K25).length + 0, 0, none⟩, 1) : Pl)) ([1]) := by rw [hK27]; exact hi26
    refine E_callX (X := X26) rfl (hr26) (E_hp (h' := K27 ++ []) (congrArg (fun x : Heap => x ++ []) hK27.symm) (E_mkS (cs := [.int .i64 (0), .int .i64 (1)]) rfl ?_))
    obtain ⟨X29, hr29⟩ := g_ret (K27 ++ [CO.row [.int .i64 (0), .int .i64 (1)] true none]) (9) ((some ⟨(K27).length + 0, 0, none⟩, 2) : Pl) 2
    have hi29 : Ints allB (K27 ++ ([CO.row [.int .i64 (0), .int .i64 (1)] true none] ++ X29)) ((some ⟨(K27).length + 0, 0, none⟩, 2) : Pl) [0, 1] := Ints.grow (ints_own (k := 0) rfl)
    obtain ⟨K30, hK30⟩ : ∃ K : Heap, K = K27 ++ ([CO.row [.int .i64 (0), .int .i64 (1)] true none] ++ X29) := ⟨_, rfl⟩
    have pK30 : H <+: K30 := by rw [hK30]; exact (pK27).trans (List.prefix_append _ _)
    have fk31 : Ints allB K30 (((some ⟨(K27).length + 0, 0, none⟩, 2) : Pl)) ([0, 1]) := by rw [hK30]; exact hi29
    refine E_callX (X := X29) rfl (hr29) (E_hp (h' := K30 ++ []) (congrArg (fun x : Heap => x ++ []) hK30.symm) ?_)
    obtain ⟨K33, hK33⟩ : ∃ K : Heap, K = K30 ++ ([CO.row [.int .i64 (7), .slice (((some ⟨(K25).length + 0, 0, none⟩, 1) : Pl)).1 ([1]).length (((some ⟨(K25).length + 0, 0, none⟩, 1) : Pl)).2, .int .i64 (0), .int .i64 (0), .int .i64 (9), .slice (((some ⟨(K27).length + 0, 0, none⟩, 2) : Pl)).1 ([0, 1]).length (((some ⟨(K27).length + 0, 0, none⟩, 2) : Pl)).2, .int .i64 (0), .int .i64 (0)] true none] ++ []) := ⟨_, rfl⟩
    have pK33 : H <+: K33 := by rw [hK33]; exact (pK30).trans (List.prefix_append _ _)
    have hG32 : Gates allB K33 ((some ⟨(K30).length + 0, 0, none⟩, 2) : Pl) [⟨7, [1], 0, 0⟩, ⟨9, [0, 1], 0, 0⟩] := gates_row (ps := [((some ⟨(K25).length + 0, 0, none⟩, 1) : Pl), ((some ⟨(K27).length + 0, 0, none⟩, 2) : Pl)]) (by rw [hK33, List.append_nil]; exact own_get _ _ _) rfl rfl (wires_cons ((fk28.lift hK30).lift hK33) (wires_cons (fk31.lift hK33) wires_nil))
    refine E_mkS (cs := [.int .i64 (7), .slice (((some ⟨(K25).length + 0, 0, none⟩, 1) : Pl)).1 ([1]).length (((some ⟨(K25).length + 0, 0, none⟩, 1) : Pl)).2, .int .i64 (0), .int .i64 (0), .int .i64 (9), .slice (((some ⟨(K27).length + 0, 0, none⟩, 2) : Pl)).1 ([0, 1]).length (((some ⟨(K27).length + 0, 0, none⟩, 2) : Pl)).2, .int .i64 (0), .int .i64 (0)]) rfl (E_hp (h' := K33 ++ []) (((List.append_nil _).symm.trans (congrArg (fun x : Heap => (K30 ++ x) ++ []) (List.append_nil _).symm)).trans (congrArg (fun x : Heap => x ++ []) hK33.symm)) (E_mk (cs := [.int .i64 (aw3.w), .int .i64 (aw3.b), .slice (((some ⟨(K30).length + 0, 0, none⟩, 2) : Pl)).1 (aw3.gs).length (((some ⟨(K30).length + 0, 0, none⟩, 2) : Pl)).2]) rfl (E_callV rfl (pCommute_ret _ aw3 _ (0) (1) hG32.app (by first | omega | (simp; done) | (simp; omega))) (E_mv (v := .tuple _) rfl (E_ext (v := .bool _) rfl rfl (E_bs (fun c54 => ?_) (fun c54 => ?_)))))))
    · rw [if_pos aw_3.1, decide_eq_false aw_3.2] at c54; cases c54
    · refine E_ext (v := .int .i64 (twoE aw3 (0) (1))) rfl rfl (E_mv (v := .bool _) rfl (E_mv (v := .int .i64 (twoE aw3 (0) (1))) rfl (E_nil (AX_seq (AX_E (E_mkS (cs := [.int .i64 (0), .int .i64 (1)]) rfl ?_))))))
      obtain ⟨X34, hr34⟩ := g_ret (K33 ++ [CO.row [.int .i64 (0), .int .i64 (1)] true none]) (9) ((some ⟨(K33).length + 0, 0, none⟩, 2) : Pl) 2
      have hi34 : Ints allB (K33 ++ ([CO.row [.int .i64 (0), .int .i64 (1)] true none] ++ X34)) ((some ⟨(K33).length + 0, 0, none⟩, 2) : Pl) [0, 1] := Ints.grow (ints_own (k := 0) rfl)
      obtain ⟨K35, hK35⟩ : ∃ K : Heap, K = K33 ++ ([CO.row [.int .i64 (0), .int .i64 (1)] true none] ++ X34) := ⟨_, rfl⟩
      have pK35 : H <+: K35 := by rw [hK35]; exact (pK33).trans (List.prefix_append _ _)
      have fk36 : Ints allB K35 (((some ⟨(K33).length + 0, 0, none⟩, 2) : Pl)) ([0, 1]) := by rw [hK35]; exact hi34
      refine E_callX (X := X34) rfl (hr34) (E_hp (h' := K35 ++ []) (congrArg (fun x : Heap => x ++ []) hK35.symm) (E_mkS (cs := [.int .i64 (0)]) rfl ?_))
      obtain ⟨X37, hr37⟩ := g_ret (K35 ++ [CO.row [.int .i64 (0)] true none]) (7) ((some ⟨(K35).length + 0, 0, none⟩, 1) : Pl) 1
      have hi37 : Ints allB (K35 ++ ([CO.row [.int .i64 (0)] true none] ++ X37)) ((some ⟨(K35).length + 0, 0, none⟩, 1) : Pl) [0] := Ints.grow (ints_own (k := 0) rfl)
      obtain ⟨K38, hK38⟩ : ∃ K : Heap, K = K35 ++ ([CO.row [.int .i64 (0)] true none] ++ X37) := ⟨_, rfl⟩
      have pK38 : H <+: K38 := by rw [hK38]; exact (pK35).trans (List.prefix_append _ _)
      have fk39 : Ints allB K38 (((some ⟨(K35).length + 0, 0, none⟩, 1) : Pl)) ([0]) := by rw [hK38]; exact hi37
      refine E_callX (X := X37) rfl (hr37) (E_hp (h' := K38 ++ []) (congrArg (fun x : Heap => x ++ []) hK38.symm) (E_mkS (cs := [.int .i64 (0)]) rfl ?_))
      obtain ⟨X40, hr40⟩ := g_ret (K38 ++ [CO.row [.int .i64 (0)] true none]) (4) ((some ⟨(K38).length + 0, 0, none⟩, 1) : Pl) 1
      have hi40 : Ints allB (K38 ++ ([CO.row [.int .i64 (0)] true none] ++ X40)) ((some ⟨(K38).length + 0, 0, none⟩, 1) : Pl) [0] := Ints.grow (ints_own (k := 0) rfl)
      obtain ⟨K41, hK41⟩ : ∃ K : Heap, K = K38 ++ ([CO.row [.int .i64 (0)] true none] ++ X40) := ⟨_, rfl⟩
      have pK41 : H <+: K41 := by rw [hK41]; exact (pK38).trans (List.prefix_append _ _)
      have fk42 : Ints allB K41 (((some ⟨(K38).length + 0, 0, none⟩, 1) : Pl)) ([0]) := by rw [hK41]; exact hi40
      refine E_callX (X := X40) rfl (hr40) (E_hp (h' := K41 ++ []) (congrArg (fun x : Heap => x ++ []) hK41.symm) ?_)
      obtain ⟨K44, hK44⟩ : ∃ K : Heap, K = K41 ++ ([CO.row [.int .i64 (9), .slice (((some ⟨(K33).length + 0, 0, none⟩, 2) : Pl)).1 ([0, 1]).length (((some ⟨(K33).length + 0, 0, none⟩, 2) : Pl)).2, .int .i64 (0), .int .i64 (0), .int .i64 (7), .slice (((some ⟨(K35).length + 0, 0, none⟩, 1) : Pl)).1 ([0]).length (((some ⟨(K35).length + 0, 0, none⟩, 1) : Pl)).2, .int .i64 (0), .int .i64 (0), .int .i64 (4), .slice (((some ⟨(K38).length + 0, 0, none⟩, 1) : Pl)).1 ([0]).length (((some ⟨(K38).length + 0, 0, none⟩, 1) : Pl)).2, .int .i64 (0), .int .i64 (0)] true none] ++ []) := ⟨_, rfl⟩
      have pK44 : H <+: K44 := by rw [hK44]; exact (pK41).trans (List.prefix_append _ _)
      have hG43 : Gates allB K44 ((some ⟨(K41).length + 0, 0, none⟩, 3) : Pl) [⟨9, [0, 1], 0, 0⟩, ⟨7, [0], 0, 0⟩, ⟨4, [0], 0, 0⟩] := gates_row (ps := [((some ⟨(K33).length + 0, 0, none⟩, 2) : Pl), ((some ⟨(K35).length + 0, 0, none⟩, 1) : Pl), ((some ⟨(K38).length + 0, 0, none⟩, 1) : Pl)]) (by rw [hK44, List.append_nil]; exact own_get _ _ _) rfl rfl (wires_cons (((fk36.lift hK38).lift hK41).lift hK44) (wires_cons ((fk39.lift hK41).lift hK44) (wires_cons (fk42.lift hK44) wires_nil)))
      refine E_mkS (cs := [.int .i64 (9), .slice (((some ⟨(K33).length + 0, 0, none⟩, 2) : Pl)).1 ([0, 1]).length (((some ⟨(K33).length + 0, 0, none⟩, 2) : Pl)).2, .int .i64 (0), .int .i64 (0), .int .i64 (7), .slice (((some ⟨(K35).length + 0, 0, none⟩, 1) : Pl)).1 ([0]).length (((some ⟨(K35).length + 0, 0, none⟩, 1) : Pl)).2, .int .i64 (0), .int .i64 (0), .int .i64 (4), .slice (((some ⟨(K38).length + 0, 0, none⟩, 1) : Pl)).1 ([0]).length (((some ⟨(K38).length + 0, 0, none⟩, 1) : Pl)).2, .int .i64 (0), .int .i64 (0)]) rfl (E_hp (h' := K44 ++ []) (((List.append_nil _).symm.trans (congrArg (fun x : Heap => (K41 ++ x) ++ []) (List.append_nil _).symm)).trans (congrArg (fun x : Heap => x ++ []) hK44.symm)) (E_mk (cs := [.int .i64 (aw4.w), .int .i64 (aw4.b), .slice (((some ⟨(K41).length + 0, 0, none⟩, 3) : Pl)).1 (aw4.gs).length (((some ⟨(K41).length + 0, 0, none⟩, 3) : Pl)).2]) rfl ?_))
      obtain ⟨X45, q45, hr45, f45⟩ := ptidy_ret (K44 ++ []) aw4 _ hG43.app (by omega)
      obtain ⟨K46, hK46⟩ : ∃ K : Heap, K = K44 ++ ([] ++ X45) := ⟨_, rfl⟩
      have pK46 : H <+: K46 := by rw [hK46]; exact (pK44).trans (List.prefix_append _ _)
      have fk47 : Gates allB K46 (q45) ((tidyR aw4).gs) := by rw [hK46]; exact (f45.at rfl)
      refine E_callX (X := X45) rfl (hr45) (E_hp (h' := K46 ++ []) (congrArg (fun x : Heap => x ++ []) hK46.symm) (E_mv (v := .tuple _) rfl (E_ext (v := .agg _) rfl rfl (E_ext (v := .int .i64 ((checkM aw4))) rfl rfl (E_new (E_stO (k := 0) rfl rfl (v := .agg _) rfl rfl rfl rfl (E_mv (v := .int .i64 ((checkM aw4))) rfl (E_nil (AX_seq (AX_E (E_mkS (cs := [.int .i64 (0), .int .i64 (1)]) rfl ?_)))))))))))
      obtain ⟨X48, hr48⟩ := g_ret (K46 ++ [CO.row [.int .i64 ((tidyR aw4).w), .int .i64 ((tidyR aw4).b), .slice (q45).1 ((tidyR aw4).gs).length (q45).2] true none, CO.row [.int .i64 (0), .int .i64 (1)] true none]) (9) ((some ⟨(K46).length + 1, 0, none⟩, 2) : Pl) 2
      have hi48 : Ints allB (K46 ++ ([CO.row [.int .i64 ((tidyR aw4).w), .int .i64 ((tidyR aw4).b), .slice (q45).1 ((tidyR aw4).gs).length (q45).2] true none, CO.row [.int .i64 (0), .int .i64 (1)] true none] ++ X48)) ((some ⟨(K46).length + 1, 0, none⟩, 2) : Pl) [0, 1] := Ints.grow (ints_own (k := 1) rfl)
      obtain ⟨K49, hK49⟩ : ∃ K : Heap, K = K46 ++ ([CO.row [.int .i64 ((tidyR aw4).w), .int .i64 ((tidyR aw4).b), .slice (q45).1 ((tidyR aw4).gs).length (q45).2] true none, CO.row [.int .i64 (0), .int .i64 (1)] true none] ++ X48) := ⟨_, rfl⟩
      have pK49 : H <+: K49 := by rw [hK49]; exact (pK46).trans (List.prefix_append _ _)
      have fk50 : Ints allB K49 (((some ⟨(K46).length + 1, 0, none⟩, 2) : Pl)) ([0, 1]) := by rw [hK49]; exact hi48
      refine E_callX (X := X48) rfl (hr48) (E_hp (h' := K49 ++ []) (congrArg (fun x : Heap => x ++ []) hK49.symm) (E_mkS (cs := [.int .i64 (0)]) rfl ?_))
      obtain ⟨X51, hr51⟩ := g_ret (K49 ++ [CO.row [.int .i64 (0)] true none]) (7) ((some ⟨(K49).length + 0, 0, none⟩, 1) : Pl) 1
      have hi51 : Ints allB (K49 ++ ([CO.row [.int .i64 (0)] true none] ++ X51)) ((some ⟨(K49).length + 0, 0, none⟩, 1) : Pl) [0] := Ints.grow (ints_own (k := 0) rfl)
      obtain ⟨K52, hK52⟩ : ∃ K : Heap, K = K49 ++ ([CO.row [.int .i64 (0)] true none] ++ X51) := ⟨_, rfl⟩
      have pK52 : H <+: K52 := by rw [hK52]; exact (pK49).trans (List.prefix_append _ _)
      have fk53 : Ints allB K52 (((some ⟨(K49).length + 0, 0, none⟩, 1) : Pl)) ([0]) := by rw [hK52]; exact hi51
      refine E_callX (X := X51) rfl (hr51) (E_hp (h' := K52 ++ []) (congrArg (fun x : Heap => x ++ []) hK52.symm) (E_mkS (cs := [.int .i64 (0), .int .i64 (1)]) rfl ?_))
      obtain ⟨X54, hr54⟩ := g_ret (K52 ++ [CO.row [.int .i64 (0), .int .i64 (1)] true none]) (9) ((some ⟨(K52).length + 0, 0, none⟩, 2) : Pl) 2
      have hi54 : Ints allB (K52 ++ ([CO.row [.int .i64 (0), .int .i64 (1)] true none] ++ X54)) ((some ⟨(K52).length + 0, 0, none⟩, 2) : Pl) [0, 1] := Ints.grow (ints_own (k := 0) rfl)
      obtain ⟨K55, hK55⟩ : ∃ K : Heap, K = K52 ++ ([CO.row [.int .i64 (0), .int .i64 (1)] true none] ++ X54) := ⟨_, rfl⟩
      have pK55 : H <+: K55 := by rw [hK55]; exact (pK52).trans (List.prefix_append _ _)
      have fk56 : Ints allB K55 (((some ⟨(K52).length + 0, 0, none⟩, 2) : Pl)) ([0, 1]) := by rw [hK55]; exact hi54
      refine E_callX (X := X54) rfl (hr54) (E_hp (h' := K55 ++ []) (congrArg (fun x : Heap => x ++ []) hK55.symm) ?_)
      obtain ⟨K58, hK58⟩ : ∃ K : Heap, K = K55 ++ ([CO.row [.int .i64 (9), .slice (((some ⟨(K46).length + 1, 0, none⟩, 2) : Pl)).1 ([0, 1]).length (((some ⟨(K46).length + 1, 0, none⟩, 2) : Pl)).2, .int .i64 (0), .int .i64 (0), .int .i64 (7), .slice (((some ⟨(K49).length + 0, 0, none⟩, 1) : Pl)).1 ([0]).length (((some ⟨(K49).length + 0, 0, none⟩, 1) : Pl)).2, .int .i64 (0), .int .i64 (0), .int .i64 (9), .slice (((some ⟨(K52).length + 0, 0, none⟩, 2) : Pl)).1 ([0, 1]).length (((some ⟨(K52).length + 0, 0, none⟩, 2) : Pl)).2, .int .i64 (0), .int .i64 (0)] true none] ++ []) := ⟨_, rfl⟩
      have pK58 : H <+: K58 := by rw [hK58]; exact (pK55).trans (List.prefix_append _ _)
      have hG57 : Gates allB K58 ((some ⟨(K55).length + 0, 0, none⟩, 3) : Pl) [⟨9, [0, 1], 0, 0⟩, ⟨7, [0], 0, 0⟩, ⟨9, [0, 1], 0, 0⟩] := gates_row (ps := [((some ⟨(K46).length + 1, 0, none⟩, 2) : Pl), ((some ⟨(K49).length + 0, 0, none⟩, 1) : Pl), ((some ⟨(K52).length + 0, 0, none⟩, 2) : Pl)]) (by rw [hK58, List.append_nil]; exact own_get _ _ _) rfl rfl (wires_cons (((fk50.lift hK52).lift hK55).lift hK58) (wires_cons ((fk53.lift hK55).lift hK58) (wires_cons (fk56.lift hK58) wires_nil)))
      refine E_mkS (cs := [.int .i64 (9), .slice (((some ⟨(K46).length + 1, 0, none⟩, 2) : Pl)).1 ([0, 1]).length (((some ⟨(K46).length + 1, 0, none⟩, 2) : Pl)).2, .int .i64 (0), .int .i64 (0), .int .i64 (7), .slice (((some ⟨(K49).length + 0, 0, none⟩, 1) : Pl)).1 ([0]).length (((some ⟨(K49).length + 0, 0, none⟩, 1) : Pl)).2, .int .i64 (0), .int .i64 (0), .int .i64 (9), .slice (((some ⟨(K52).length + 0, 0, none⟩, 2) : Pl)).1 ([0, 1]).length (((some ⟨(K52).length + 0, 0, none⟩, 2) : Pl)).2, .int .i64 (0), .int .i64 (0)]) rfl (E_hp (h' := K58 ++ []) (((List.append_nil _).symm.trans (congrArg (fun x : Heap => (K55 ++ x) ++ []) (List.append_nil _).symm)).trans (congrArg (fun x : Heap => x ++ []) hK58.symm)) (E_mk (cs := [.int .i64 (aw5.w), .int .i64 (aw5.b), .slice (((some ⟨(K55).length + 0, 0, none⟩, 3) : Pl)).1 (aw5.gs).length (((some ⟨(K55).length + 0, 0, none⟩, 3) : Pl)).2]) rfl ?_))
      obtain ⟨X59, q59, hr59, f59⟩ := pcancel_ret (K58 ++ []) aw5 _ hG57.app (by omega)
      obtain ⟨K60, hK60⟩ : ∃ K : Heap, K = K58 ++ ([] ++ X59) := ⟨_, rfl⟩
      have pK60 : H <+: K60 := by rw [hK60]; exact (pK58).trans (List.prefix_append _ _)
      have fk61 : Gates allB K60 (q59) ((cancelR aw5).gs) := by rw [hK60]; exact (f59.at rfl)
      refine E_callX (X := X59) rfl (hr59) (E_hp (h' := K60 ++ []) (congrArg (fun x : Heap => x ++ []) hK60.symm) (E_mv (v := .tuple _) rfl (E_ext (v := .agg _) rfl rfl (E_ext (v := .int .i64 ((checkM aw5))) rfl rfl (E_new (E_stO (k := 0) rfl rfl (v := .agg _) rfl rfl rfl rfl (E_mv (v := .int .i64 ((checkM aw5))) rfl (E_nil (AX_seq (AX_E (E_mkS (cs := [.int .i64 (0)]) rfl ?_)))))))))))
      obtain ⟨X62, hr62⟩ := g_ret (K60 ++ [CO.row [.int .i64 ((cancelR aw5).w), .int .i64 ((cancelR aw5).b), .slice (q59).1 ((cancelR aw5).gs).length (q59).2] true none, CO.row [.int .i64 (0)] true none]) (5) ((some ⟨(K60).length + 1, 0, none⟩, 1) : Pl) 1
      have hi62 : Ints allB (K60 ++ ([CO.row [.int .i64 ((cancelR aw5).w), .int .i64 ((cancelR aw5).b), .slice (q59).1 ((cancelR aw5).gs).length (q59).2] true none, CO.row [.int .i64 (0)] true none] ++ X62)) ((some ⟨(K60).length + 1, 0, none⟩, 1) : Pl) [0] := Ints.grow (ints_own (k := 1) rfl)
      obtain ⟨K63, hK63⟩ : ∃ K : Heap, K = K60 ++ ([CO.row [.int .i64 ((cancelR aw5).w), .int .i64 ((cancelR aw5).b), .slice (q59).1 ((cancelR aw5).gs).length (q59).2] true none, CO.row [.int .i64 (0)] true none] ++ X62) := ⟨_, rfl⟩
      have pK63 : H <+: K63 := by rw [hK63]; exact (pK60).trans (List.prefix_append _ _)
      have fk64 : Ints allB K63 (((some ⟨(K60).length + 1, 0, none⟩, 1) : Pl)) ([0]) := by rw [hK63]; exact hi62
      refine E_callX (X := X62) rfl (hr62) (E_hp (h' := K63 ++ []) (congrArg (fun x : Heap => x ++ []) hK63.symm) (E_mkS (cs := [.int .i64 (1)]) rfl ?_))
      obtain ⟨X65, hr65⟩ := g_ret (K63 ++ [CO.row [.int .i64 (1)] true none]) (7) ((some ⟨(K63).length + 0, 0, none⟩, 1) : Pl) 1
      have hi65 : Ints allB (K63 ++ ([CO.row [.int .i64 (1)] true none] ++ X65)) ((some ⟨(K63).length + 0, 0, none⟩, 1) : Pl) [1] := Ints.grow (ints_own (k := 0) rfl)
      obtain ⟨K66, hK66⟩ : ∃ K : Heap, K = K63 ++ ([CO.row [.int .i64 (1)] true none] ++ X65) := ⟨_, rfl⟩
      have pK66 : H <+: K66 := by rw [hK66]; exact (pK63).trans (List.prefix_append _ _)
      have fk67 : Ints allB K66 (((some ⟨(K63).length + 0, 0, none⟩, 1) : Pl)) ([1]) := by rw [hK66]; exact hi65
      refine E_callX (X := X65) rfl (hr65) (E_hp (h' := K66 ++ []) (congrArg (fun x : Heap => x ++ []) hK66.symm) ?_)
      obtain ⟨K69, hK69⟩ : ∃ K : Heap, K = K66 ++ ([CO.row [.int .i64 (5), .slice (((some ⟨(K60).length + 1, 0, none⟩, 1) : Pl)).1 ([0]).length (((some ⟨(K60).length + 1, 0, none⟩, 1) : Pl)).2, .int .i64 (0), .int .i64 (0), .int .i64 (7), .slice (((some ⟨(K63).length + 0, 0, none⟩, 1) : Pl)).1 ([1]).length (((some ⟨(K63).length + 0, 0, none⟩, 1) : Pl)).2, .int .i64 (0), .int .i64 (0)] true none] ++ []) := ⟨_, rfl⟩
      have pK69 : H <+: K69 := by rw [hK69]; exact (pK66).trans (List.prefix_append _ _)
      have hG68 : Gates allB K69 ((some ⟨(K66).length + 0, 0, none⟩, 2) : Pl) [⟨5, [0], 0, 0⟩, ⟨7, [1], 0, 0⟩] := gates_row (ps := [((some ⟨(K60).length + 1, 0, none⟩, 1) : Pl), ((some ⟨(K63).length + 0, 0, none⟩, 1) : Pl)]) (by rw [hK69, List.append_nil]; exact own_get _ _ _) rfl rfl (wires_cons ((fk64.lift hK66).lift hK69) (wires_cons (fk67.lift hK69) wires_nil))
      refine E_mkS (cs := [.int .i64 (5), .slice (((some ⟨(K60).length + 1, 0, none⟩, 1) : Pl)).1 ([0]).length (((some ⟨(K60).length + 1, 0, none⟩, 1) : Pl)).2, .int .i64 (0), .int .i64 (0), .int .i64 (7), .slice (((some ⟨(K63).length + 0, 0, none⟩, 1) : Pl)).1 ([1]).length (((some ⟨(K63).length + 0, 0, none⟩, 1) : Pl)).2, .int .i64 (0), .int .i64 (0)]) rfl (E_hp (h' := K69 ++ []) (((List.append_nil _).symm.trans (congrArg (fun x : Heap => (K66 ++ x) ++ []) (List.append_nil _).symm)).trans (congrArg (fun x : Heap => x ++ []) hK69.symm)) (E_mk (cs := [.int .i64 (aw6.w), .int .i64 (aw6.b), .slice (((some ⟨(K66).length + 0, 0, none⟩, 2) : Pl)).1 (aw6.gs).length (((some ⟨(K66).length + 0, 0, none⟩, 2) : Pl)).2]) rfl ?_))
      obtain ⟨X70, q70, hr70, f70⟩ := pinverse_ret (K69 ++ []) aw6 _ hG68.app (by omega)
      obtain ⟨K71, hK71⟩ : ∃ K : Heap, K = K69 ++ ([] ++ X70) := ⟨_, rfl⟩
      have pK71 : H <+: K71 := by rw [hK71]; exact (pK69).trans (List.prefix_append _ _)
      have fk72 : Gates allB K71 (q70) ((inverseM aw6).gs) := by rw [hK71]; exact (f70.at rfl)
      refine E_callX (X := X70) rfl (hr70) (E_hp (h' := K71 ++ []) (congrArg (fun x : Heap => x ++ []) hK71.symm) (E_mv (v := .tuple _) rfl (E_ext (v := .agg _) rfl rfl (E_ext (v := .int .i64 ((inverseE aw6))) rfl rfl (E_new (E_stO (k := 0) rfl rfl (v := .agg _) rfl rfl rfl rfl (E_mv (v := .int .i64 ((inverseE aw6))) rfl (E_nil (AX_seq (AX_E (E_mv (v := .int .i64 ((checkM aw1))) rfl (E_eqlS rfl rfl (fun c91 => ?_) (fun c91 => ?_)))))))))))))
      · refine E_mv (v := .bool _) rfl (E_on rfl (E_mv (v := .int .i64 ((checkM aw1))) rfl (E_on rfl (E_eqlS rfl rfl (fun c94 => ?_) (fun c94 => ?_)))))
        · refine E_pickT rfl (v := .bool _) rfl (E_mv (v := .bool _) rfl (E_on rfl (E_mv (v := .int .i64 (twoE aw2 (0) (1))) rfl (E_on rfl (E_eqlS rfl rfl (fun c98 => ?_) (fun c98 => ?_))))))
          · refine E_pickT rfl (v := .bool _) rfl (E_mv (v := .bool _) rfl (E_on rfl (E_mv (v := .int .i64 (twoE aw3 (0) (1))) rfl (E_on rfl (E_eqlS rfl rfl (fun c102 => ?_) (fun c102 => ?_))))))
            · refine E_pickT rfl (v := .bool _) rfl (E_mv (v := .bool _) rfl (E_on rfl (E_mv (v := .int .i64 ((checkM aw4))) rfl (E_on rfl (E_eqlS rfl rfl (fun c106 => ?_) (fun c106 => ?_))))))
              · refine E_pickT rfl (v := .bool _) rfl (E_mv (v := .bool _) rfl (E_on rfl (E_mv (v := .int .i64 ((checkM aw5))) rfl (E_on rfl (E_eqlS rfl rfl (fun c110 => ?_) (fun c110 => ?_))))))
                · refine E_pickT rfl (v := .bool _) rfl (E_mv (v := .bool _) rfl (E_on rfl (E_mv (v := .int .i64 ((inverseE aw6))) rfl (E_on rfl (E_eqlS rfl rfl (fun c114 => ?_) (fun c114 => ?_))))))
                  · refine E_pickT rfl (v := .bool _) rfl (E_mv (v := .bool _) rfl (E_on rfl (E_mv (v := .slice _ _ _) rfl (E_on rfl ?_))))
                    obtain ⟨K74, hK74⟩ : ∃ K : Heap, K = K71 ++ ([CO.row [.int .i64 ((inverseM aw6).w), .int .i64 ((inverseM aw6).b), .slice (q70).1 ((inverseM aw6).gs).length (q70).2] true none, CO.row [.int .i64 (0), .int .i64 (1), .int .i64 (2), .int .i64 (2)] true none] ++ []) := ⟨_, rfl⟩
                    have pK74 : H <+: K74 := by rw [hK74]; exact (pK71).trans (List.prefix_append _ _)
                    have hG73 : Ints allB K74 ((some ⟨(K71).length + 1, 0, none⟩, 4) : Pl) [0, 1, 2, 2] := by rw [hK74, List.append_nil]; exact ints_own (k := 1) rfl
                    refine E_mkS (cs := [.int .i64 (0), .int .i64 (1), .int .i64 (2), .int .i64 (2)]) rfl (E_hp (h' := K74 ++ []) (((List.append_nil _).symm.trans (congrArg (fun x : Heap => (K71 ++ x) ++ []) (List.append_nil _).symm)).trans (congrArg (fun x : Heap => x ++ []) hK74.symm)) (E_on rfl (E_callP rfl (equal_ret _ _ _ _ _ (((((((((((((((((((((fk17.lift hK19).lift hK22).lift hK25).lift hK27).lift hK30).lift hK33).lift hK35).lift hK38).lift hK41).lift hK44).lift hK46).lift hK49).lift hK52).lift hK55).lift hK58).lift hK60).lift hK63).lift hK66).lift hK69).lift hK71).lift hK74).app hG73.app (by rw [aw_1.2.1]; decide)) (fun c119 => ?_) (fun c119 => ?_))))
                    · refine E_pickT rfl (v := .bool _) rfl (E_mv (v := .bool _) rfl (E_on rfl (E_mv (v := .int .i64 ((depthR aw1))) rfl (E_on rfl (E_eqlS rfl rfl (fun c123 => ?_) (fun c123 => ?_))))))
                      · refine E_pickT rfl (v := .bool _) rfl (E_mv (v := .bool _) rfl (E_on rfl (E_mv (v := .bool _) rfl (E_pickT rfl (v := .bool _) rfl (E_mv (v := .bool _) rfl (E_on rfl (E_mv (v := .bool _) rfl (E_on rfl (E_notV rfl rfl (E_pickT rfl (v := .bool _) rfl (E_mv (v := .bool _) rfl (E_on rfl (E_ldBN (cs := [.int .i64 ((tidyR aw4).w), .int .i64 ((tidyR aw4).b), .slice (q45).1 ((tidyR aw4).gs).length (q45).2]) rfl (rowGet_lift hK74 (rowGet_lift hK71 (rowGet_lift hK69 (rowGet_lift hK66 (rowGet_lift hK63 (rowGet_lift hK60 (rowGet_lift hK58 (rowGet_lift hK55 (rowGet_lift hK52 (rowGet_eq hK49 (rowGet_own (k := 0) rfl))))))))))) (E_on rfl (E_mkS (cs := [.int .i64 (0)]) rfl (E_on rfl ?_))))))))))))))))
                        obtain ⟨X75, hr75⟩ := g_ret (K74 ++ [CO.row [.int .i64 (0)] true none]) (7) ((some ⟨(K74).length + 0, 0, none⟩, 1) : Pl) 1
                        have hi75 : Ints allB (K74 ++ ([CO.row [.int .i64 (0)] true none] ++ X75)) ((some ⟨(K74).length + 0, 0, none⟩, 1) : Pl) [0] := Ints.grow (ints_own (k := 0) rfl)
                        obtain ⟨K76, hK76⟩ : ∃ K : Heap, K = K74 ++ ([CO.row [.int .i64 (0)] true none] ++ X75) := ⟨_, rfl⟩
                        have pK76 : H <+: K76 := by rw [hK76]; exact (pK74).trans (List.prefix_append _ _)
                        have fk77 : Ints allB K76 (((some ⟨(K74).length + 0, 0, none⟩, 1) : Pl)) ([0]) := by rw [hK76]; exact hi75
                        refine E_callX (X := X75) rfl (hr75) (E_hp (h' := K76 ++ []) (congrArg (fun x : Heap => x ++ []) hK76.symm) (E_on rfl (E_mkS (cs := [.int .i64 (0), .int .i64 (1)]) rfl (E_on rfl ?_))))
                        obtain ⟨X78, hr78⟩ := g_ret (K76 ++ [CO.row [.int .i64 (0), .int .i64 (1)] true none]) (9) ((some ⟨(K76).length + 0, 0, none⟩, 2) : Pl) 2
                        have hi78 : Ints allB (K76 ++ ([CO.row [.int .i64 (0), .int .i64 (1)] true none] ++ X78)) ((some ⟨(K76).length + 0, 0, none⟩, 2) : Pl) [0, 1] := Ints.grow (ints_own (k := 0) rfl)
                        obtain ⟨K79, hK79⟩ : ∃ K : Heap, K = K76 ++ ([CO.row [.int .i64 (0), .int .i64 (1)] true none] ++ X78) := ⟨_, rfl⟩
                        have pK79 : H <+: K79 := by rw [hK79]; exact (pK76).trans (List.prefix_append _ _)
                        have fk80 : Ints allB K79 (((some ⟨(K76).length + 0, 0, none⟩, 2) : Pl)) ([0, 1]) := by rw [hK79]; exact hi78
                        refine E_callX (X := X78) rfl (hr78) (E_hp (h' := K79 ++ []) (congrArg (fun x : Heap => x ++ []) hK79.symm) (E_on rfl (E_mkS (cs := [.int .i64 (0)]) rfl (E_on rfl ?_))))
                        obtain ⟨X81, hr81⟩ := g_ret (K79 ++ [CO.row [.int .i64 (0)] true none]) (4) ((some ⟨(K79).length + 0, 0, none⟩, 1) : Pl) 1
                        have hi81 : Ints allB (K79 ++ ([CO.row [.int .i64 (0)] true none] ++ X81)) ((some ⟨(K79).length + 0, 0, none⟩, 1) : Pl) [0] := Ints.grow (ints_own (k := 0) rfl)
                        obtain ⟨K82, hK82⟩ : ∃ K : Heap, K = K79 ++ ([CO.row [.int .i64 (0)] true none] ++ X81) := ⟨_, rfl⟩
                        have pK82 : H <+: K82 := by rw [hK82]; exact (pK79).trans (List.prefix_append _ _)
                        have fk83 : Ints allB K82 (((some ⟨(K79).length + 0, 0, none⟩, 1) : Pl)) ([0]) := by rw [hK82]; exact hi81
                        refine E_callX (X := X81) rfl (hr81) (E_hp (h' := K82 ++ []) (congrArg (fun x : Heap => x ++ []) hK82.symm) (E_on rfl ?_))
                        obtain ⟨K85, hK85⟩ : ∃ K : Heap, K = K82 ++ ([CO.row [.int .i64 (7), .slice (((some ⟨(K74).length + 0, 0, none⟩, 1) : Pl)).1 ([0]).length (((some ⟨(K74).length + 0, 0, none⟩, 1) : Pl)).2, .int .i64 (0), .int .i64 (0), .int .i64 (9), .slice (((some ⟨(K76).length + 0, 0, none⟩, 2) : Pl)).1 ([0, 1]).length (((some ⟨(K76).length + 0, 0, none⟩, 2) : Pl)).2, .int .i64 (0), .int .i64 (0), .int .i64 (4), .slice (((some ⟨(K79).length + 0, 0, none⟩, 1) : Pl)).1 ([0]).length (((some ⟨(K79).length + 0, 0, none⟩, 1) : Pl)).2, .int .i64 (0), .int .i64 (0)] true none] ++ []) := ⟨_, rfl⟩
                        have pK85 : H <+: K85 := by rw [hK85]; exact (pK82).trans (List.prefix_append _ _)
                        have hG84 : Gates allB K85 ((some ⟨(K82).length + 0, 0, none⟩, 3) : Pl) [⟨7, [0], 0, 0⟩, ⟨9, [0, 1], 0, 0⟩, ⟨4, [0], 0, 0⟩] := gates_row (ps := [((some ⟨(K74).length + 0, 0, none⟩, 1) : Pl), ((some ⟨(K76).length + 0, 0, none⟩, 2) : Pl), ((some ⟨(K79).length + 0, 0, none⟩, 1) : Pl)]) (by rw [hK85, List.append_nil]; exact own_get _ _ _) rfl rfl (wires_cons (((fk77.lift hK79).lift hK82).lift hK85) (wires_cons ((fk80.lift hK82).lift hK85) (wires_cons (fk83.lift hK85) wires_nil)))
                        refine E_mkS (cs := [.int .i64 (7), .slice (((some ⟨(K74).length + 0, 0, none⟩, 1) : Pl)).1 ([0]).length (((some ⟨(K74).length + 0, 0, none⟩, 1) : Pl)).2, .int .i64 (0), .int .i64 (0), .int .i64 (9), .slice (((some ⟨(K76).length + 0, 0, none⟩, 2) : Pl)).1 ([0, 1]).length (((some ⟨(K76).length + 0, 0, none⟩, 2) : Pl)).2, .int .i64 (0), .int .i64 (0), .int .i64 (4), .slice (((some ⟨(K79).length + 0, 0, none⟩, 1) : Pl)).1 ([0]).length (((some ⟨(K79).length + 0, 0, none⟩, 1) : Pl)).2, .int .i64 (0), .int .i64 (0)]) rfl (E_hp (h' := K85 ++ []) (((List.append_nil _).symm.trans (congrArg (fun x : Heap => (K82 ++ x) ++ []) (List.append_nil _).symm)).trans (congrArg (fun x : Heap => x ++ []) hK85.symm)) (E_on rfl (E_mk (cs := [.int .i64 (aw4t.w), .int .i64 (aw4t.b), .slice (((some ⟨(K82).length + 0, 0, none⟩, 3) : Pl)).1 (aw4t.gs).length (((some ⟨(K82).length + 0, 0, none⟩, 3) : Pl)).2]) rfl (E_on rfl (E_callP rfl (kcsame_ret _ (tidyR aw4) aw4t _ _ ((((((((((((((fk47.lift hK49).lift hK52).lift hK55).lift hK58).lift hK60).lift hK63).lift hK66).lift hK69).lift hK71).lift hK74).lift hK76).lift hK79).lift hK82).lift hK85).app hG84.app aw_n.1) (fun c142 => ?_) (fun c142 => ?_))))))
                        · refine E_pickT rfl (v := .bool _) rfl (E_mv (v := .bool _) rfl (E_on rfl (E_ldBN (cs := [.int .i64 ((cancelR aw5).w), .int .i64 ((cancelR aw5).b), .slice (q59).1 ((cancelR aw5).gs).length (q59).2]) rfl (rowGet_lift hK85 (rowGet_lift hK82 (rowGet_lift hK79 (rowGet_lift hK76 (rowGet_lift hK74 (rowGet_lift hK71 (rowGet_lift hK69 (rowGet_lift hK66 (rowGet_eq hK63 (rowGet_own (k := 0) rfl)))))))))) (E_on rfl (E_mkS (cs := [.int .i64 (0)]) rfl (E_on rfl ?_))))))
                          obtain ⟨X86, hr86⟩ := g_ret (K85 ++ [CO.row [.int .i64 (0)] true none]) (7) ((some ⟨(K85).length + 0, 0, none⟩, 1) : Pl) 1
                          have hi86 : Ints allB (K85 ++ ([CO.row [.int .i64 (0)] true none] ++ X86)) ((some ⟨(K85).length + 0, 0, none⟩, 1) : Pl) [0] := Ints.grow (ints_own (k := 0) rfl)
                          obtain ⟨K87, hK87⟩ : ∃ K : Heap, K = K85 ++ ([CO.row [.int .i64 (0)] true none] ++ X86) := ⟨_, rfl⟩
                          have pK87 : H <+: K87 := by rw [hK87]; exact (pK85).trans (List.prefix_append _ _)
                          have fk88 : Ints allB K87 (((some ⟨(K85).length + 0, 0, none⟩, 1) : Pl)) ([0]) := by rw [hK87]; exact hi86
                          refine E_callX (X := X86) rfl (hr86) (E_hp (h' := K87 ++ []) (congrArg (fun x : Heap => x ++ []) hK87.symm) (E_on rfl ?_))
                          obtain ⟨K90, hK90⟩ : ∃ K : Heap, K = K87 ++ ([CO.row [.int .i64 (7), .slice (((some ⟨(K85).length + 0, 0, none⟩, 1) : Pl)).1 ([0]).length (((some ⟨(K85).length + 0, 0, none⟩, 1) : Pl)).2, .int .i64 (0), .int .i64 (0)] true none] ++ []) := ⟨_, rfl⟩
                          have pK90 : H <+: K90 := by rw [hK90]; exact (pK87).trans (List.prefix_append _ _)
                          have hG89 : Gates allB K90 ((some ⟨(K87).length + 0, 0, none⟩, 1) : Pl) [⟨7, [0], 0, 0⟩] := gates_row (ps := [((some ⟨(K85).length + 0, 0, none⟩, 1) : Pl)]) (by rw [hK90, List.append_nil]; exact own_get _ _ _) rfl rfl (wires_cons (fk88.lift hK90) wires_nil)
                          refine E_mkS (cs := [.int .i64 (7), .slice (((some ⟨(K85).length + 0, 0, none⟩, 1) : Pl)).1 ([0]).length (((some ⟨(K85).length + 0, 0, none⟩, 1) : Pl)).2, .int .i64 (0), .int .i64 (0)]) rfl (E_hp (h' := K90 ++ []) (((List.append_nil _).symm.trans (congrArg (fun x : Heap => (K87 ++ x) ++ []) (List.append_nil _).symm)).trans (congrArg (fun x : Heap => x ++ []) hK90.symm)) (E_on rfl (E_mk (cs := [.int .i64 (aw5t.w), .int .i64 (aw5t.b), .slice (((some ⟨(K87).length + 0, 0, none⟩, 1) : Pl)).1 (aw5t.gs).length (((some ⟨(K87).length + 0, 0, none⟩, 1) : Pl)).2]) rfl (E_on rfl (E_callP rfl (kcsame_ret _ (cancelR aw5) aw5t _ _ (((((((((((fk61.lift hK63).lift hK66).lift hK69).lift hK71).lift hK74).lift hK76).lift hK79).lift hK82).lift hK85).lift hK87).lift hK90).app hG89.app aw_n.2.1) (fun c150 => ?_) (fun c150 => ?_))))))
                          · refine E_pickT rfl (v := .bool _) rfl (E_mv (v := .bool _) rfl (E_on rfl (E_ldBN (cs := [.int .i64 ((inverseM aw6).w), .int .i64 ((inverseM aw6).b), .slice (q70).1 ((inverseM aw6).gs).length (q70).2]) rfl (rowGet_lift hK90 (rowGet_lift hK87 (rowGet_lift hK85 (rowGet_lift hK82 (rowGet_lift hK79 (rowGet_lift hK76 (rowGet_eq hK74 (rowGet_own (k := 0) rfl)))))))) (E_on rfl (E_mkS (cs := [.int .i64 (1)]) rfl (E_on rfl ?_))))))
                            obtain ⟨X91, hr91⟩ := g_ret (K90 ++ [CO.row [.int .i64 (1)] true none]) (8) ((some ⟨(K90).length + 0, 0, none⟩, 1) : Pl) 1
                            have hi91 : Ints allB (K90 ++ ([CO.row [.int .i64 (1)] true none] ++ X91)) ((some ⟨(K90).length + 0, 0, none⟩, 1) : Pl) [1] := Ints.grow (ints_own (k := 0) rfl)
                            obtain ⟨K92, hK92⟩ : ∃ K : Heap, K = K90 ++ ([CO.row [.int .i64 (1)] true none] ++ X91) := ⟨_, rfl⟩
                            have pK92 : H <+: K92 := by rw [hK92]; exact (pK90).trans (List.prefix_append _ _)
                            have fk93 : Ints allB K92 (((some ⟨(K90).length + 0, 0, none⟩, 1) : Pl)) ([1]) := by rw [hK92]; exact hi91
                            refine E_callX (X := X91) rfl (hr91) (E_hp (h' := K92 ++ []) (congrArg (fun x : Heap => x ++ []) hK92.symm) (E_on rfl (E_mkS (cs := [.int .i64 (0)]) rfl (E_on rfl ?_))))
                            obtain ⟨X94, hr94⟩ := g_ret (K92 ++ [CO.row [.int .i64 (0)] true none]) (6) ((some ⟨(K92).length + 0, 0, none⟩, 1) : Pl) 1
                            have hi94 : Ints allB (K92 ++ ([CO.row [.int .i64 (0)] true none] ++ X94)) ((some ⟨(K92).length + 0, 0, none⟩, 1) : Pl) [0] := Ints.grow (ints_own (k := 0) rfl)
                            obtain ⟨K95, hK95⟩ : ∃ K : Heap, K = K92 ++ ([CO.row [.int .i64 (0)] true none] ++ X94) := ⟨_, rfl⟩
                            have pK95 : H <+: K95 := by rw [hK95]; exact (pK92).trans (List.prefix_append _ _)
                            have fk96 : Ints allB K95 (((some ⟨(K92).length + 0, 0, none⟩, 1) : Pl)) ([0]) := by rw [hK95]; exact hi94
                            refine E_callX (X := X94) rfl (hr94) (E_hp (h' := K95 ++ []) (congrArg (fun x : Heap => x ++ []) hK95.symm) (E_on rfl ?_))
                            obtain ⟨K98, hK98⟩ : ∃ K : Heap, K = K95 ++ ([CO.row [.int .i64 (8), .slice (((some ⟨(K90).length + 0, 0, none⟩, 1) : Pl)).1 ([1]).length (((some ⟨(K90).length + 0, 0, none⟩, 1) : Pl)).2, .int .i64 (0), .int .i64 (0), .int .i64 (6), .slice (((some ⟨(K92).length + 0, 0, none⟩, 1) : Pl)).1 ([0]).length (((some ⟨(K92).length + 0, 0, none⟩, 1) : Pl)).2, .int .i64 (0), .int .i64 (0)] true none] ++ []) := ⟨_, rfl⟩
                            have pK98 : H <+: K98 := by rw [hK98]; exact (pK95).trans (List.prefix_append _ _)
                            have hG97 : Gates allB K98 ((some ⟨(K95).length + 0, 0, none⟩, 2) : Pl) [⟨8, [1], 0, 0⟩, ⟨6, [0], 0, 0⟩] := gates_row (ps := [((some ⟨(K90).length + 0, 0, none⟩, 1) : Pl), ((some ⟨(K92).length + 0, 0, none⟩, 1) : Pl)]) (by rw [hK98, List.append_nil]; exact own_get _ _ _) rfl rfl (wires_cons ((fk93.lift hK95).lift hK98) (wires_cons (fk96.lift hK98) wires_nil))
                            refine E_mkS (cs := [.int .i64 (8), .slice (((some ⟨(K90).length + 0, 0, none⟩, 1) : Pl)).1 ([1]).length (((some ⟨(K90).length + 0, 0, none⟩, 1) : Pl)).2, .int .i64 (0), .int .i64 (0), .int .i64 (6), .slice (((some ⟨(K92).length + 0, 0, none⟩, 1) : Pl)).1 ([0]).length (((some ⟨(K92).length + 0, 0, none⟩, 1) : Pl)).2, .int .i64 (0), .int .i64 (0)]) rfl (E_hp (h' := K98 ++ []) (((List.append_nil _).symm.trans (congrArg (fun x : Heap => (K95 ++ x) ++ []) (List.append_nil _).symm)).trans (congrArg (fun x : Heap => x ++ []) hK98.symm)) (E_on rfl (E_mk (cs := [.int .i64 (aw6t.w), .int .i64 (aw6t.b), .slice (((some ⟨(K95).length + 0, 0, none⟩, 2) : Pl)).1 (aw6t.gs).length (((some ⟨(K95).length + 0, 0, none⟩, 2) : Pl)).2]) rfl (E_on rfl (E_callP rfl (kcsame_ret _ (inverseM aw6) aw6t _ _ ((((((((((fk72.lift hK74).lift hK76).lift hK79).lift hK82).lift hK85).lift hK87).lift hK90).lift hK92).lift hK95).lift hK98).app hG97.app aw_n.2.2) (fun c160 => ?_) (fun c160 => ?_))))))
                            · refine E_pickT rfl (v := .bool _) rfl (E_mv (v := .bool _) rfl (E_on rfl (E_callV rfl (parity_ret _ _) (E_on rfl (E_eqlS rfl rfl (fun c164 => ?_) (fun c164 => ?_))))))
                              · refine E_pickT rfl (v := .bool _) rfl (E_mv (v := .bool _) rfl (E_on rfl (E_callV rfl (parity_ret _ _) (E_on rfl (E_eqlV rfl rfl (E_pickT rfl (v := .bool _) rfl (E_mv (v := .bool _) rfl (E_nil (AX_ret ?_)))))))))
                                refine ⟨_, rfl, by simp, ?_, forget_flat rfl ((pK98).trans (List.prefix_append _ _))⟩
                                refine congrArg (Value.bool) ?_
                                rfl
                              · exact (c164 (by decide)).elim
                            · exact (c160 aw_6.2).elim
                          · exact (c150 aw_5.2).elim
                        · exact (c142 aw_4.2).elim
                      · exact (c123 aw_1.2.2).elim
                    · exact (c119 aw_1.2.1).elim
                  · exact (c114 aw_6.1).elim
                · exact (c110 aw_5.1).elim
              · exact (c106 aw_4.1).elim
            · exact (c102 aw_3.1).elim
          · exact (c98 aw_2.1).elim
        · exact (c94 aw_1.1).elim
      · exact (c91 aw_1.1).elim
  · rw [if_pos aw_2.1, decide_eq_true aw_2.2] at c44; cases c44
end Go.Canon
namespace Go.Canon
open Go Go.Proofs
set_option linter.unusedVariables false
set_option linter.unusedSimpArgs false
theorem GatesZ.atS {h L X K : Heap} {p : Pl} {l : List G} {lo : Nat} (H : GatesZ (h ++ L).length X p l) (hlo : lo = (h ++ L).length) (hK : K = h ++ (L ++ X)) : GatesP (fun b => lo ≤ b ∧ b < K.length) K p l := by
  subst hlo hK
  have := H (h ++ L) rfl
  rw [List.append_assoc] at this
  refine this.congr (fun b hb => ⟨hb.1, ?_⟩) fun _ _ _ => rfl
  have := hb.2
  simp only [List.length_append] at this ⊢
  omega
theorem GatesP.lift {S : Nat → Prop} {K K' L : Heap} {p : Pl} {l : List G} (H : GatesP S K p l) (e : K' = K ++ L) : GatesP S K' p l := by rw [e]; exact H.app
theorem getq {K K' L : Heap} {b : Nat} {o : CO} (e : K' = K ++ L) (h : K[b]? = some o) : K'[b]? = some o := by
  rw [e, pre_get (List.getElem?_eq_some_iff.1 h).1]; exact h
theorem get_own {K B L : Heap} {k : Nat} {o : CO} (e : K = B ++ L) (h : L[k]? = some o) : K[B.length + k]? = some o := by rw [e, own_get]; exact h
/-- The objects outside S are what they were. -/
structure Kp (S : Nat → Prop) (K K' : Heap) : Prop where
  len : K.length ≤ K'.length
  keep : ∀ b, b < K.length → ¬ S b → K'[b]? = K[b]?
theorem Kp.set {K : Heap} {a : Nat} {o : CO} : Kp (fun b => b = a) K (K.set a o) := ⟨by simp, fun b _ hb => List.getElem?_set_ne (fun e => hb e.symm)⟩
theorem Kp.row {S : Nat → Prop} {K K' : Heap} (k : Kp S K K') {b : Nat} {o : CO} (h : K[b]? = some o) (hb : ¬ S b) : K'[b]? = some o := by rw [k.keep b (List.getElem?_eq_some_iff.1 h).1 hb]; exact h
theorem Kp.gp {S T : Nat → Prop} {K K' : Heap} (k : Kp S K K') {p : Pl} {l : List G} (h : GatesP T K p l) (hT : ∀ b, T b → True ∧ ¬ S b) : GatesP T K' p l := h.congr (fun _ x => x) fun b hb hl => k.keep b hl (hT b hb).2
theorem Kp.ga {S T : Nat → Prop} {K K' : Heap} (k : Kp S K K') {p : Pl} {l : List G} (h : Gates T K p l) (hT : ∀ b, T b → True ∧ ¬ S b) : Gates T K' p l := h.congr (fun _ x => x) fun b hb hl => k.keep b hl (hT b hb).2
theorem Kp.ii {S T : Nat → Prop} {K K' : Heap} (k : Kp S K K') {p : Pl} {l : List Int} (h : Ints T K p l) (hT : ∀ b, T b → True ∧ ¬ S b) : Ints T K' p l := Cells.congr h (fun _ x => x) fun b hb hl => k.keep b hl (hT b hb).2
end Go.Canon
namespace Go.Canon
open Go Go.Proofs
set_option linter.unusedVariables false
set_option linter.unusedSimpArgs false
def kf280 : KFunc := ⟨1, 104, [.tmp 2], .seq (.reg [⟨some 2, .mv (.c (.int .u32 0)), none⟩] []) (.seq (.reg [⟨some 4, .mv (.t 0), none⟩, ⟨some 5, .nilc (.t 4), none⟩, ⟨some 6, .fa (.t 5) 2, none⟩, ⟨some 7, .ld (.t 6) none, none⟩, ⟨some 8, .mv (.t 0), none⟩, ⟨some 9, .nilc (.t 8), none⟩, ⟨some 10, .fa (.t 9) 2, none⟩, ⟨some 11, .ld (.t 10) none, none⟩, ⟨some 12, .bin .shl (.t 11) (.c (.int .u64 13)), none⟩, ⟨some 13, .bin .xor (.t 7) (.t 12), none⟩, ⟨some 14, .nilc (.t 4), none⟩, ⟨some 15, .fa (.t 14) 2, none⟩, ⟨none, .st (.t 15) (.t 13) 1, none⟩] []) (.seq (.reg [⟨some 16, .mv (.t 0), none⟩, ⟨some 17, .nilc (.t 16), none⟩, ⟨some 18, .fa (.t 17) 2, none⟩, ⟨some 19, .ld (.t 18) none, none⟩, ⟨some 20, .mv (.t 0), none⟩, ⟨some 21, .nilc (.t 20), none⟩, ⟨some 22, .fa (.t 21) 2, none⟩, ⟨some 23, .ld (.t 22) none, none⟩, ⟨some 24, .bin .shr (.t 23) (.c (.int .u64 17)), none⟩, ⟨some 25, .bin .xor (.t 19) (.t 24), none⟩, ⟨some 26, .nilc (.t 16), none⟩, ⟨some 27, .fa (.t 26) 2, none⟩, ⟨none, .st (.t 27) (.t 25) 1, none⟩] []) (.seq (.reg [⟨some 28, .mv (.t 0), none⟩, ⟨some 29, .nilc (.t 28), none⟩, ⟨some 30, .fa (.t 29) 2, none⟩, ⟨some 31, .ld (.t 30) none, none⟩, ⟨some 32, .mv (.t 0), none⟩, ⟨some 33, .nilc (.t 32), none⟩, ⟨some 34, .fa (.t 33) 2, none⟩, ⟨some 35, .ld (.t 34) none, none⟩, ⟨some 36, .bin .shl (.t 35) (.c (.int .u64 5)), none⟩, ⟨some 37, .bin .xor (.t 31) (.t 36), none⟩, ⟨some 38, .nilc (.t 28), none⟩, ⟨some 39, .fa (.t 38) 2, none⟩, ⟨none, .st (.t 39) (.t 37) 1, none⟩] []) (.seq (.reg [⟨some 40, .mv (.t 0), none⟩, ⟨some 41, .nilc (.t 40), none⟩, ⟨some 42, .fa (.t 41) 2, none⟩, ⟨some 43, .ld (.t 42) none, none⟩, ⟨some 44, .bin .shr (.t 43) (.c (.int .u64 3)), none⟩, ⟨some 3, .mv (.t 44), none⟩] []) (.seq (.seq (.reg [⟨some 45, .mv (.t 0), none⟩, ⟨some 46, .nilc (.t 45), none⟩, ⟨some 47, .fa (.t 46) 0, none⟩, ⟨some 48, .ld (.t 47) none, none⟩, ⟨some 49, .len (.t 48), none⟩, ⟨some 50, .bin .gtr (.t 49) (.c (.int .i64 0)), none⟩] []) (.cond (.t 50) (.seq (.reg [⟨some 51, .mv (.t 3), none⟩, ⟨some 52, .mv (.t 0), none⟩, ⟨some 53, .nilc (.t 52), none⟩, ⟨some 54, .fa (.t 53) 0, none⟩, ⟨some 55, .ld (.t 54) none, none⟩, ⟨some 56, .mv (.t 0), none⟩, ⟨some 57, .nilc (.t 56), none⟩, ⟨some 58, .fa (.t 57) 1, none⟩, ⟨some 59, .ld (.t 58) none, none⟩, ⟨some 60, .mv (.t 0), none⟩, ⟨some 61, .nilc (.t 60), none⟩, ⟨some 62, .fa (.t 61) 0, none⟩, ⟨some 63, .ld (.t 62) none, none⟩, ⟨some 64, .len (.t 63), none⟩, ⟨some 65, .bin .rem (.t 59) (.t 64), none⟩, ⟨some 66, .iaS (.t 55) (.t 65) 1, none⟩, ⟨some 67, .ld (.t 66) none, none⟩, ⟨some 68, .cv .u32 (.t 67), none⟩, ⟨some 69, .bin .mul (.c (.int .u32 40503)) (.t 68), none⟩, ⟨some 70, .bin .add (.t 51) (.t 69), none⟩, ⟨some 3, .mv (.t 70), none⟩] []) (.seq (.reg [⟨some 71, .mv (.t 0), none⟩, ⟨some 72, .nilc (.t 71), none⟩, ⟨some 73, .fa (.t 72) 2, none⟩, ⟨some 74, .ld (.t 73) none, none⟩, ⟨some 75, .mv (.t 0), none⟩, ⟨some 76, .nilc (.t 75), none⟩, ⟨some 77, .fa (.t 76) 0, none⟩, ⟨some 78, .ld (.t 77) none, none⟩, ⟨some 79, .mv (.t 0), none⟩, ⟨some 80, .nilc (.t 79), none⟩, ⟨some 81, .fa (.t 80) 1, none⟩, ⟨some 82, .ld (.t 81) none, none⟩, ⟨some 83, .mv (.t 0), none⟩, ⟨some 84, .nilc (.t 83), none⟩, ⟨some 85, .fa (.t 84) 0, none⟩, ⟨some 86, .ld (.t 85) none, none⟩, ⟨some 87, .len (.t 86), none⟩, ⟨some 88, .bin .rem (.t 82) (.t 87), none⟩, ⟨some 89, .iaS (.t 78) (.t 88) 1, none⟩, ⟨some 90, .ld (.t 89) none, none⟩, ⟨some 91, .cv .u32 (.t 90), none⟩, ⟨some 92, .bin .add (.t 91) (.c (.int .u32 1)), none⟩, ⟨some 93, .bin .add (.t 74) (.t 92), none⟩, ⟨some 94, .nilc (.t 71), none⟩, ⟨some 95, .fa (.t 94) 2, none⟩, ⟨none, .st (.t 95) (.t 93) 1, none⟩] []) (.reg [⟨some 96, .mv (.t 0), none⟩, ⟨some 97, .nilc (.t 96), none⟩, ⟨some 98, .fa (.t 97) 1, none⟩, ⟨some 99, .ld (.t 98) none, none⟩, ⟨some 100, .bin .add (.t 99) (.c (.int .i64 1)), none⟩, ⟨some 101, .nilc (.t 96), none⟩, ⟨some 102, .fa (.t 101) 1, none⟩, ⟨none, .st (.t 102) (.t 100) 1, none⟩] []))) .skip)) (.seq (.reg [⟨some 103, .mv (.t 3), none⟩, ⟨some 2, .mv (.t 103), none⟩] []) .ret))))))⟩
theorem k280 : tab Tryd.prog 80 = some kf280 := by kernel_rfl
def kf256 : KFunc := ⟨2, 13, [.tmp 4], .seq (.reg [⟨some 4, .mv (.c (.int .i64 0)), none⟩] []) (.seq (.seq (.reg [⟨some 5, .mv (.t 1), none⟩, ⟨some 6, .bin .leq (.t 5) (.c (.int .i64 0)), none⟩] []) (.cond (.t 6) (.seq (.reg [⟨some 4, .mv (.c (.int .i64 0)), none⟩] []) .ret) .skip)) (.seq (.reg [⟨some 7, .mv (.t 0), none⟩, ⟨some 8, .call (.c (.func (.func 80) #[] #[])) [.t 7], none⟩, ⟨some 9, .bin .shr (.t 8) (.c (.int .u64 4)), none⟩, ⟨some 10, .cv .i64 (.t 9), none⟩, ⟨some 11, .mv (.t 1), none⟩, ⟨some 12, .bin .rem (.t 10) (.t 11), none⟩, ⟨some 4, .mv (.t 12), none⟩] []) .ret))⟩
theorem k256 : tab Tryd.prog 56 = some kf256 := by kernel_rfl
def kf220 : KFunc := ⟨3, 15, [.tmp 6], .seq (.reg [⟨some 6, .mv (.c (.int .i64 0)), none⟩] []) (.seq (.reg [⟨some 7, .mv (.t 1), none⟩, ⟨some 8, .mv (.t 0), none⟩, ⟨some 9, .mv (.t 2), none⟩, ⟨some 10, .mv (.t 1), none⟩, ⟨some 11, .bin .sub (.t 9) (.t 10), none⟩, ⟨some 12, .bin .add (.t 11) (.c (.int .i64 1)), none⟩, ⟨some 13, .call (.c (.func (.func 56) #[] #[])) [.t 8, .t 12], none⟩, ⟨some 14, .bin .add (.t 7) (.t 13), none⟩, ⟨some 6, .mv (.t 14), none⟩] []) .ret)⟩
theorem k220 : tab Tryd.prog 20 = some kf220 := by kernel_rfl
def kf277 : KFunc := ⟨2, 9, [.tmp 4], .seq (.reg [⟨some 4, .mv (.c (.bool false)), none⟩] []) (.seq (.reg [⟨some 5, .mv (.t 0), none⟩, ⟨some 6, .mv (.t 1), none⟩, ⟨some 7, .call (.c (.func (.func 56) #[] #[])) [.t 5, .t 6], none⟩, ⟨some 8, .bin .eql (.t 7) (.c (.int .i64 0)), none⟩, ⟨some 4, .mv (.t 8), none⟩] []) .ret)⟩
theorem k277 : tab Tryd.prog 77 = some kf277 := by kernel_rfl
/-- A number of 32 bits. -/
def U32 (z : Int) : Prop := 0 ≤ z ∧ z < 4294967296
theorem wrap32 (n : Int) : U32 (IntKind.u32.wrap n) := by
  have h : IntKind.u32.wrap n = n % 4294967296 := by simp [IntKind.wrap, IntKind.bits, IntKind.signed]
  rw [h]; unfold U32; omega
def Un (op : BinOp) (k : IntKind) (b : Int) (k0 : IntKind) (a : Int) : Prop := ∃ z, kbin op (.int k0 a) (.int k b) = some (.int .u32 z) ∧ U32 z
theorem u_xor {a b : Int} : Un .xor .u32 b .u32 a := ⟨_, rfl, wrap32 _⟩
theorem u_add {a b : Int} : Un .add .u32 b .u32 a := ⟨_, rfl, wrap32 _⟩
theorem u_mul {a b : Int} : Un .mul .u32 b .u32 a := ⟨_, rfl, wrap32 _⟩
theorem u_shl {a b : Int} (hb : 0 ≤ b) : Un .shl .u64 b .u32 a := ⟨_, by simp only [kbin]; rw [if_neg (by omega)], wrap32 _⟩
theorem u_shr {a b : Int} (hb : 0 ≤ b) (ha : U32 a) : Un .shr .u64 b .u32 a := ⟨_, by simp only [kbin]; rw [if_neg (by omega)], by
  have hp : (0 : Int) < 2 ^ (min b.toNat (IntKind.u32.bits)) := Int.pow_pos (by decide)
  have h1 : a.fdiv (2 ^ (min b.toNat (IntKind.u32.bits))) = a / (2 ^ (min b.toNat (IntKind.u32.bits))) := Int.fdiv_eq_ediv_of_nonneg _ (by omega)
  rw [h1]
  exact ⟨Int.ediv_nonneg ha.1 (by omega), by have := Int.ediv_le_self (2 ^ (min b.toNat (IntKind.u32.bits))) ha.1; have := ha.2; omega⟩⟩
section
variable {B : Nat → Prop} {T : Nat → Option KFunc} {fi : FI} {prs : List (Nat × Nat)} {i : Nat} {d : Option Nat} {r : List KOper} {fr : Nat → Value} {h : Heap} {m : List Nat} {K : (Nat → Value) → Heap → List Nat → Prop}
theorem E_u {op : BinOp} {x y : KO} {a b : Int} {k k0 : IntKind} (hx : x.ev fr = .int k0 a) (hy : y.ev fr = .int k b) (hu : Un op k b k0 a) (H : ∀ z, U32 z → AE B T fi prs (i + 1) r (put fr d (.int .u32 z)) h m K) : AE B T fi prs i (⟨d, .bin op x y, none⟩ :: r) fr h m K := by
  obtain ⟨z, hz, h2⟩ := hu
  exact E_no (by simp [kop, hx, hy, hz]) (H z h2)
theorem E_ucv {x : KO} {a : Int} {k0 : IntKind} (hx : x.ev fr = .int k0 a) (H : ∀ z, U32 z → AE B T fi prs (i + 1) r (put fr d (.int .u32 z)) h m K) : AE B T fi prs i (⟨d, .cv .u32 x, none⟩ :: r) fr h m K :=
  E_no (by simp [kop, hx]) (H _ (wrap32 a))
theorem E_u64 {x : KO} {a : Int} (hx : x.ev fr = .int .u32 a) (ha : U32 a) (H : AE B T fi prs (i + 1) r (put fr d (.int .i64 a)) h m K) : AE B T fi prs i (⟨d, .cv .i64 x, none⟩ :: r) fr h m K :=
  E_no (by simp only [kop, hx]; rw [wrap_in (by have := ha.1; omega) (by have := ha.2; omega)]) H
theorem E_rem {x y : KO} {a b : Int} (hx : x.ev fr = .int .i64 a) (hy : y.ev fr = .int .i64 b) (ha : 0 ≤ a) (hb : 0 < b) (H : ∀ z : Nat, (z : Int) < b → AE B T fi prs (i + 1) r (put fr d (.int .i64 (z : Int))) h m K) : AE B T fi prs i (⟨d, .bin .rem x y, none⟩ :: r) fr h m K := by
  have h1 : a.tmod b = a % b := Int.tmod_eq_emod_of_nonneg ha
  have h2 := Int.emod_nonneg a (show b ≠ 0 by omega)
  have h3 := Int.emod_lt_of_pos a hb
  refine E_no (v := .int .i64 (a.tmod b)) (by simp [kop, hx, hy, kbin, kint]; omega) ?_
  have := H (a % b).toNat (by omega)
  rw [h1]
  rwa [Int.toNat_of_nonneg h2] at this
end
/-- The bytes of a store. -/
def SB (N : Nat) (h : Heap) (s : Nat) (p : Pl) (bs : List Int) : Prop := ∀ j, j < bs.length → ∃ b o v, p.1 = some ⟨b, o, none⟩ ∧ b ≠ s ∧ b < N ∧ rowGet h ⟨b, o + j, none⟩ 1 = some [.int .u8 v]
abbrev stRow (p : Pl) (bs : List Int) (nx st : Int) : CO := .row [.slice p.1 bs.length p.2, .int .i64 nx, .int .u32 st] true none
/-- A store, of which so many numbers at most were taken. -/
def Sto (N : Nat) (h : Heap) (s k : Nat) : Prop := s < N ∧ N ≤ h.length ∧ ∃ p bs nx st, h[s]? = some (stRow p bs nx st) ∧ SB N h s p bs ∧ 0 ≤ nx ∧ nx ≤ k ∧ U32 st ∧ bs.length ≤ 300
theorem E_iaU {B : Nat → Prop} {T : Nat → Option KFunc} {fi : FI} {prs : List (Nat × Nat)} {i : Nat} {d : Option Nat} {r : List KOper} {fr : Nat → Value} {h hh : Heap} {m : List Nat} {K : (Nat → Value) → Heap → List Nat → Prop} {x y : KO} {N s n : Nat} {p : Pl} {bs : List Int} {k : IntKind} (hx : x.ev fr = .slice p.1 bs.length p.2) (hy : y.ev fr = .int k (n : Int)) (hS : SB N hh s p bs) (hn : n < bs.length)
    (H : ∀ b o v, rowGet hh ⟨b, o + n, none⟩ 1 = some [.int .u8 v] → AE B T fi prs (i + 1) r (put fr d (.pointer (some ⟨b, o + n, none⟩))) h m K) : AE B T fi prs i (⟨d, .iaS x y 1, none⟩ :: r) fr h m K := by
  obtain ⟨b, o, v, h1, _, _, h4⟩ := hS n hn
  rw [h1] at hx
  exact E_iaS hx hy (by omega) (by omega) (by simpa using H b o v h4)
theorem rowGet_ne {h h' : Heap} {a : Addr} {n : Nat} (e : h'[a.block]? = h[a.block]?) : rowGet h' a n = rowGet h a n := by unfold rowGet; rw [e]
theorem SB.kp {N : Nat} {h h' : Heap} {s : Nat} {p : Pl} {bs : List Int} {S : Nat → Prop} (k : Kp S h h') (hN : N ≤ h.length) (hS : ∀ b, b ≠ s → b < N → ¬ S b) (H : SB N h s p bs) : SB N h' s p bs := by
  intro j hj
  obtain ⟨b, o, v, h1, h2, h3, h4⟩ := H j hj
  exact ⟨b, o, v, h1, h2, h3, by rw [rowGet_ne (k.keep b (by omega) (hS b h2 h3))]; exact h4⟩
theorem Sto.kp {N : Nat} {h h' : Heap} {s k : Nat} {S : Nat → Prop} (H : Sto N h s k) (q : Kp S h h') (hS : ∀ b, b < N → ¬ S b) : Sto N h' s k := by
  obtain ⟨h1, h2, p, bs, nx, st, h3, h4, h5⟩ := H
  exact ⟨h1, Nat.le_trans h2 q.len, p, bs, nx, st, q.row h3 (hS s h1), h4.kp q h2 (fun b _ hb => hS b hb), h5⟩
theorem Kp.app {S : Nat → Prop} {h L : Heap} : Kp S h (h ++ L) := ⟨by simp, fun b hb _ => pre_get hb⟩
theorem Kp.trans {S S' S'' : Nat → Prop} {h h' h'' : Heap} (a : Kp S h h') (b : Kp S' h' h'') (e1 : ∀ b, b < h.length → S b → S'' b) (e2 : ∀ b, b < h.length → S' b → S'' b) : Kp S'' h h'' :=
  ⟨Nat.le_trans a.len b.len, fun c hc hs => (b.keep c (Nat.lt_of_lt_of_le hc a.len) (fun q => hs (e2 c hc q))).trans (a.keep c hc (fun q => hs (e1 c hc q)))⟩
theorem forget_len {h u : Heap} {v : Value} (hl : u.length = h.length) : forget h v u = u := by
  unfold forget
  split
  · rename_i hh
    exact hh.2.eq_of_length hl.symm
  · rfl
theorem stStep {H u u' : Heap} {s : Nat} {p : Pl} {bs : List Int} {nx st nx' st' : Int} (kq : Kp (fun b => b = s) H u) (hl : u.length = H.length) (hs : u[s]? = some (stRow p bs nx st)) (e : u' = u.set s (stRow p bs nx' st')) :
    Kp (fun b => b = s) H u' ∧ u'.length = H.length ∧ u'[s]? = some (stRow p bs nx' st') ∧ rowGet u' ⟨s, 0, none⟩ 3 = some [.slice p.1 bs.length p.2, .int .i64 nx', .int .u32 st'] := by
  have hlt := (List.getElem?_eq_some_iff.1 hs).1
  have h3 : u'[s]? = some (stRow p bs nx' st') := by rw [e, List.getElem?_set_self hlt]
  exact ⟨by rw [e]; exact kq.trans Kp.set (fun _ _ x => x) (fun _ _ x => x), by rw [e]; simpa using hl, h3, rowGet_all h3 rfl⟩
theorem draw_ret (N : Nat) (H : Heap) (s k : Nat) (hs : Sto N H s k) (hk : k < 4611686018427387904) : ∃ z u, Ret (tab Tryd.prog) 80 [.pointer (some ⟨s, 0, none⟩)] H (.int .u32 z) u ∧ U32 z ∧ Sto N u s (k + 1) ∧ Kp (fun b => b = s) H u ∧ u.length = H.length := by
  have key : ACall (tab Tryd.prog) 80 [.pointer (some ⟨s, 0, none⟩)] H fun v u => ∃ z, v = .int .u32 z ∧ U32 z ∧ Sto N u s (k + 1) ∧ Kp (fun b => b = s) H u ∧ u.length = H.length := by
    obtain ⟨hsN, hNH, pb, bs, nx, st, hrow, hSB, hnx, hnk, hst, hbl⟩ := hs
    have kH : Kp (fun b => b = s) H H := ⟨Nat.le_refl _, fun _ _ _ => rfl⟩
    have lH : H.length = H.length := rfl
    have fH : rowGet H ⟨s, 0, none⟩ 3 = some [.slice pb.1 bs.length pb.2, .int .i64 nx, .int .u32 st] := rowGet_all hrow rfl
    have rH := hrow
    refine ACall_ownR k280 rfl ?_
    refine AX_seq (AX_E (E_mv (v := .int _ _) rfl (E_nil (AX_seq (AX_E (E_mv (v := .pointer _) rfl (E_nilc rfl (E_fa rfl (E_ldB (v := .int _ _) rfl (rowGet_c (j := 2) fH rfl) (E_mv (v := .pointer _) rfl (E_nilc rfl (E_fa rfl (E_ldB (v := .int _ _) rfl (rowGet_c (j := 2) fH rfl) (E_u rfl rfl (u_shl (by decide)) fun z12 hz12 => (E_u rfl rfl u_xor fun z13 hz13 => (E_nilc rfl (E_fa rfl (E_stX (b := s) (o := 0 + 2) (l := [.int .u32 z13]) (v := .int .u32 z13) rfl rfl rfl rfl ((congrArg (fun h : Heap => h[s]?) (List.append_nil _)).trans rH) (by simp) rfl rfl fun U15 eU15 => ?_))))))))))))))))))
    obtain ⟨kU15, lU15, rU15, fU15⟩ := stStep (u := H) (u' := U15) (nx' := nx) (st' := z13) kH lH rH (by rw [eU15, List.append_nil]; rfl)
    refine E_nil (AX_seq (AX_E (E_mv (v := .pointer _) rfl (E_nilc rfl (E_fa rfl (E_ldB (v := .int _ _) rfl (rowGet_c (j := 2) fU15 rfl) (E_mv (v := .pointer _) rfl (E_nilc rfl (E_fa rfl (E_ldB (v := .int _ _) rfl (rowGet_c (j := 2) fU15 rfl) (E_u rfl rfl (u_shr (by decide) hz13) fun z24 hz24 => (E_u rfl rfl u_xor fun z25 hz25 => (E_nilc rfl (E_fa rfl (E_stX (b := s) (o := 0 + 2) (l := [.int .u32 z25]) (v := .int .u32 z25) rfl rfl rfl rfl ((congrArg (fun h : Heap => h[s]?) (List.append_nil _)).trans rU15) (by simp) rfl rfl fun U27 eU27 => ?_)))))))))))))))
    obtain ⟨kU27, lU27, rU27, fU27⟩ := stStep (u := U15) (u' := U27) (nx' := nx) (st' := z25) kU15 lU15 rU15 (by rw [eU27, List.append_nil]; rfl)
    refine E_nil (AX_seq (AX_E (E_mv (v := .pointer _) rfl (E_nilc rfl (E_fa rfl (E_ldB (v := .int _ _) rfl (rowGet_c (j := 2) fU27 rfl) (E_mv (v := .pointer _) rfl (E_nilc rfl (E_fa rfl (E_ldB (v := .int _ _) rfl (rowGet_c (j := 2) fU27 rfl) (E_u rfl rfl (u_shl (by decide)) fun z36 hz36 => (E_u rfl rfl u_xor fun z37 hz37 => (E_nilc rfl (E_fa rfl (E_stX (b := s) (o := 0 + 2) (l := [.int .u32 z37]) (v := .int .u32 z37) rfl rfl rfl rfl ((congrArg (fun h : Heap => h[s]?) (List.append_nil _)).trans rU27) (by simp) rfl rfl fun U39 eU39 => ?_)))))))))))))))
    obtain ⟨kU39, lU39, rU39, fU39⟩ := stStep (u := U27) (u' := U39) (nx' := nx) (st' := z37) kU27 lU27 rU27 (by rw [eU39, List.append_nil]; rfl)
    refine E_nil (AX_seq (AX_E (E_mv (v := .pointer _) rfl (E_nilc rfl (E_fa rfl (E_ldB (v := .int _ _) rfl (rowGet_c (j := 2) fU39 rfl) (E_u rfl rfl (u_shr (by decide) hz37) fun z44 hz44 => (E_mv (v := .int _ _) rfl (E_nil (AX_seq (AX_seq (AX_E (E_mv (v := .pointer _) rfl (E_nilc rfl (E_fa rfl (E_ldB (v := .slice _ _ _) rfl (rowGet_c (j := 0) fU39 rfl) (E_len (n := (bs).length) rfl (E_gtrS rfl rfl (fun c50 => ?_) (fun c50 => ?_)))))))))))))))))))
    · refine E_nil (AX_condT rfl (AX_seq (AX_E (E_mv (v := .int _ _) rfl (E_mv (v := .pointer _) rfl (E_nilc rfl (E_fa rfl (E_ldB (v := .slice _ _ _) rfl (rowGet_c (j := 0) fU39 rfl) (E_mv (v := .pointer _) rfl (E_nilc rfl (E_fa rfl (E_ldB (v := .int .i64 (nx)) rfl (rowGet_c (j := 1) fU39 rfl) (E_mv (v := .pointer _) rfl (E_nilc rfl (E_fa rfl (E_ldB (v := .slice _ _ _) rfl (rowGet_c (j := 0) fU39 rfl) (E_len (n := (bs).length) rfl (E_rem rfl rfl (by omega) (by omega) fun n65 hn65 => (E_iaU rfl rfl (hSB.kp kU39 hNH (fun b hb _ hs => hb hs)) (by omega) fun b66 o66 v66 w66 => (E_ldB (v := .int _ _) rfl w66 (E_ucv rfl fun z68 hz68 => (E_u rfl rfl u_mul fun z69 hz69 => (E_u rfl rfl u_add fun z70 hz70 => (E_mv (v := .int _ _) rfl (E_nil (AX_seq (AX_E (E_mv (v := .pointer _) rfl (E_nilc rfl (E_fa rfl (E_ldB (v := .int _ _) rfl (rowGet_c (j := 2) fU39 rfl) (E_mv (v := .pointer _) rfl (E_nilc rfl (E_fa rfl (E_ldB (v := .slice _ _ _) rfl (rowGet_c (j := 0) fU39 rfl) (E_mv (v := .pointer _) rfl (E_nilc rfl (E_fa rfl (E_ldB (v := .int .i64 (nx)) rfl (rowGet_c (j := 1) fU39 rfl) (E_mv (v := .pointer _) rfl (E_nilc rfl (E_fa rfl (E_ldB (v := .slice _ _ _) rfl (rowGet_c (j := 0) fU39 rfl) (E_len (n := (bs).length) rfl (E_rem rfl rfl (by omega) (by omega) fun n88 hn88 => (E_iaU rfl rfl (hSB.kp kU39 hNH (fun b hb _ hs => hb hs)) (by omega) fun b89 o89 v89 w89 => (E_ldB (v := .int _ _) rfl w89 (E_ucv rfl fun z91 hz91 => (E_u rfl rfl u_add fun z92 hz92 => (E_u rfl rfl u_add fun z93 hz93 => (E_nilc rfl (E_fa rfl (E_stX (b := s) (o := 0 + 2) (l := [.int .u32 z93]) (v := .int .u32 z93) rfl rfl rfl rfl ((congrArg (fun h : Heap => h[s]?) (List.append_nil _)).trans rU39) (by simp) rfl rfl fun U95 eU95 => ?_)))))))))))))))))))))))))))))))))))))))))))))))))))))
      obtain ⟨kU95, lU95, rU95, fU95⟩ := stStep (u := U39) (u' := U95) (nx' := nx) (st' := z93) kU39 lU39 rU39 (by rw [eU95, List.append_nil]; rfl)
      refine E_nil (AX_E (E_mv (v := .pointer _) rfl (E_nilc rfl (E_fa rfl (E_ldB (v := .int .i64 (nx)) rfl (rowGet_c (j := 1) fU95 rfl) (E_addI rfl rfl (by first | omega | (simp; done) | (simp; omega)) (by first | omega | (simp; done) | (simp; omega)) (E_nilc rfl (E_fa rfl (E_stX (b := s) (o := 0 + 1) (l := [.int .i64 ((nx + 1))]) (v := .int .i64 ((nx + 1))) rfl rfl rfl rfl ((congrArg (fun h : Heap => h[s]?) (List.append_nil _)).trans rU95) (by simp) rfl rfl fun U102 eU102 => ?_)))))))))
      obtain ⟨kU102, lU102, rU102, fU102⟩ := stStep (u := U95) (u' := U102) (nx' := (nx + 1)) (st' := z93) kU95 lU95 rU95 (by rw [eU102, List.append_nil]; rfl)
      refine E_nil (AX_seq (AX_E (E_mv (v := .int _ _) rfl (E_mv (v := .int _ _) rfl (E_nil (AX_ret ?_))))))
      refine ⟨_, rfl, by simp, ?_⟩
      simp only [List.foldl_nil, List.append_nil]
      rw [forget_len lU102]
      refine ⟨z70, rfl, hz70, ?_⟩
      exact ⟨⟨hsN, by omega, pb, bs, _, _, rU102, hSB.kp kU102 hNH (fun b hb _ hs => hb hs), by omega, by omega, by assumption, hbl⟩, kU102, lU102⟩
    · refine E_nil (AX_condF rfl (AX_skip (AX_seq (AX_E (E_mv (v := .int _ _) rfl (E_mv (v := .int _ _) rfl (E_nil (AX_ret ?_))))))))
      refine ⟨_, rfl, by simp, ?_⟩
      simp only [List.foldl_nil, List.append_nil]
      rw [forget_len lU39]
      refine ⟨z44, rfl, hz44, ?_⟩
      exact ⟨⟨hsN, by omega, pb, bs, _, _, rU39, hSB.kp kU39 hNH (fun b hb _ hs => hb hs), by omega, by omega, by assumption, hbl⟩, kU39, lU39⟩
  obtain ⟨n, v, u, hr, z, rfl, h1⟩ := key
  exact ⟨z, u, ⟨n, hr⟩, h1⟩
end Go.Canon
namespace Go.Canon
open Go Go.Proofs
set_option linter.unusedVariables false
set_option linter.unusedSimpArgs false
section
variable {B : Nat → Prop} {T : Nat → Option KFunc} {fi : FI} {prs : List (Nat × Nat)} {i : Nat} {d : Option Nat} {r : List KOper} {fr : Nat → Value} {h u : Heap} {m : List Nat} {K : (Nat → Value) → Heap → List Nat → Prop}
/-- A call that changes objects. -/
theorem E_callU {f : KO} {xs : List KO} {g : Nat} {args : List Value} {v : Value} (hk : kop (.call f xs) fr (h ++ []) = some (.call g args)) (hr : Ret T g args h v u) (hpr : prs.any (fun p => p.1 = i ∨ p.2 = i) = false) (H : AE noB T fi prs (i + 1) r (put fr d v) (u ++ []) m K) : AE noB T fi prs i (⟨d, .call f xs, none⟩ :: r) fr (h ++ []) m K := by
  rw [List.append_nil] at hk ⊢
  exact E_callR rfl hk hr (.inl hpr) (by simpa using H)
end
theorem less_ret (N : Nat) (H : Heap) (s k : Nat) (n : Int) (hs : Sto N H s k) (hk : k < 4611686018427387904) (hn : 0 < n) : ∃ (r : Nat) (u : Heap), Ret (tab Tryd.prog) 56 [.pointer (some ⟨s, 0, none⟩), .int .i64 n] H (.int .i64 (r : Int)) u ∧ (r : Int) < n ∧ Sto N u s (k + 1) ∧ Kp (fun b => b = s) H u ∧ u.length = H.length := by
  have key : ACall (tab Tryd.prog) 56 [.pointer (some ⟨s, 0, none⟩), .int .i64 n] H fun v u => ∃ r : Nat, v = .int .i64 (r : Int) ∧ (r : Int) < n ∧ Sto N u s (k + 1) ∧ Kp (fun b => b = s) H u ∧ u.length = H.length := by
    have kqH : Kp (fun b => b = s) H H := ⟨Nat.le_refl _, fun _ _ _ => rfl⟩
    have lqH : H.length = H.length := rfl
    refine ACall_ownR k256 rfl ?_
    refine AX_seq (AX_E (E_mv (v := .int .i64 (0)) rfl (E_nil (AX_seq (AX_seq (AX_E (E_mv (v := .int .i64 (n)) rfl (E_leqS rfl rfl (fun c6 => ?_) (fun c6 => ?_)))))))))
    · omega
    · refine E_nil (AX_condF rfl (AX_skip (AX_seq (AX_E (E_mv (v := .pointer (some ⟨s, 0, none⟩)) rfl ?_)))))
      obtain ⟨r8, U8, hr8, hb8, soU8, kpU8, luU8⟩ := draw_ret N H s k hs hk
      have kqU8 : Kp (fun b => b = s) H U8 := kqH.trans kpU8 (fun _ _ x => x) (fun _ _ x => x)
      have lqU8 : U8.length = H.length := luU8.trans lqH
      refine E_callU rfl hr8 rfl (E_u rfl rfl (u_shr (by decide) hb8) fun z9 hz9 => (E_u64 rfl hz9 (E_mv (v := .int .i64 (n)) rfl (E_rem rfl rfl hz9.1 hn fun n12 hn12 => (E_mv (v := .int .i64 ((n12 : Int))) rfl (E_nil (AX_ret ?_)))))))
      refine ⟨_, rfl, by simp, ?_⟩
      simp only [List.foldl_nil, List.append_nil]
      rw [forget_len lqU8]
      exact ⟨n12, rfl, hn12, soU8, kqU8, lqU8⟩
  obtain ⟨q, v, u, hr, z, rfl, h1⟩ := key
  exact ⟨z, u, ⟨q, hr⟩, h1⟩
theorem seldom_ret (N : Nat) (H : Heap) (s k : Nat) (n : Int) (hs : Sto N H s k) (hk : k < 4611686018427387904) (hn : 0 < n) : ∃ (r : Bool) (u : Heap), Ret (tab Tryd.prog) 77 [.pointer (some ⟨s, 0, none⟩), .int .i64 n] H (.bool r) u ∧ True ∧ Sto N u s (k + 1) ∧ Kp (fun b => b = s) H u ∧ u.length = H.length := by
  have key : ACall (tab Tryd.prog) 77 [.pointer (some ⟨s, 0, none⟩), .int .i64 n] H fun v u => ∃ r : Bool, v = .bool r ∧ True ∧ Sto N u s (k + 1) ∧ Kp (fun b => b = s) H u ∧ u.length = H.length := by
    have kqH : Kp (fun b => b = s) H H := ⟨Nat.le_refl _, fun _ _ _ => rfl⟩
    have lqH : H.length = H.length := rfl
    refine ACall_ownR k277 rfl ?_
    refine AX_seq (AX_E (E_mv (v := .bool _) rfl (E_nil (AX_seq (AX_E (E_mv (v := .pointer (some ⟨s, 0, none⟩)) rfl (E_mv (v := .int .i64 (n)) rfl ?_)))))))
    obtain ⟨r7, U7, hr7, hb7, soU7, kpU7, luU7⟩ := less_ret N H s k n hs hk hn
    have kqU7 : Kp (fun b => b = s) H U7 := kqH.trans kpU7 (fun _ _ x => x) (fun _ _ x => x)
    have lqU7 : U7.length = H.length := luU7.trans lqH
    refine E_callU rfl hr7 rfl (E_eqlV rfl rfl (E_mv (v := .bool _) rfl (E_nil (AX_ret ?_))))
    refine ⟨_, rfl, by simp, ?_⟩
    simp only [List.foldl_nil, List.append_nil]
    rw [forget_len lqU7]
    exact ⟨decide ((r7 : Int) = 0), rfl, trivial, soU7, kqU7, lqU7⟩
  obtain ⟨q, v, u, hr, z, rfl, h1⟩ := key
  exact ⟨z, u, ⟨q, hr⟩, h1⟩
theorem from_ret (N : Nat) (H : Heap) (s k : Nat) (lo hi : Int) (hs : Sto N H s k) (hk : k < 4611686018427387904) (h0 : 0 ≤ lo) (h1 : lo ≤ hi) (h2 : hi < 4611686018427387904) : ∃ (r : Nat) (u : Heap), Ret (tab Tryd.prog) 20 [.pointer (some ⟨s, 0, none⟩), .int .i64 lo, .int .i64 hi] H (.int .i64 (r : Int)) u ∧ (lo ≤ (r : Int) ∧ (r : Int) ≤ hi) ∧ Sto N u s (k + 1) ∧ Kp (fun b => b = s) H u ∧ u.length = H.length := by
  have key : ACall (tab Tryd.prog) 20 [.pointer (some ⟨s, 0, none⟩), .int .i64 lo, .int .i64 hi] H fun v u => ∃ r : Nat, v = .int .i64 (r : Int) ∧ (lo ≤ (r : Int) ∧ (r : Int) ≤ hi) ∧ Sto N u s (k + 1) ∧ Kp (fun b => b = s) H u ∧ u.length = H.length := by
    have kqH : Kp (fun b => b = s) H H := ⟨Nat.le_refl _, fun _ _ _ => rfl⟩
    have lqH : H.length = H.length := rfl
    refine ACall_ownR k220 rfl ?_
    refine AX_seq (AX_E (E_mv (v := .int .i64 (0)) rfl (E_nil (AX_seq (AX_E (E_mv (v := .int .i64 (lo)) rfl (E_mv (v := .pointer (some ⟨s, 0, none⟩)) rfl (E_mv (v := .int .i64 (hi)) rfl (E_mv (v := .int .i64 (lo)) rfl (E_subI rfl rfl (by first | omega | (simp; done) | (simp; omega)) (by first | omega | (simp; done) | (simp; omega)) (E_addI rfl rfl (by first | omega | (simp; done) | (simp; omega)) (by first | omega | (simp; done) | (simp; omega)) ?_)))))))))))
    obtain ⟨r13, U13, hr13, hb13, soU13, kpU13, luU13⟩ := less_ret N H s k (hi - lo + 1) hs hk (by omega)
    have kqU13 : Kp (fun b => b = s) H U13 := kqH.trans kpU13 (fun _ _ x => x) (fun _ _ x => x)
    have lqU13 : U13.length = H.length := luU13.trans lqH
    refine E_callU rfl hr13 rfl (E_addI rfl rfl (by first | omega | (simp; done) | (simp; omega)) (by first | omega | (simp; done) | (simp; omega)) (E_mv (v := .int .i64 ((lo + (r13 : Int)))) rfl (E_nil (AX_ret ?_))))
    refine ⟨_, rfl, by simp, ?_⟩
    simp only [List.foldl_nil, List.append_nil]
    rw [forget_len lqU13]
    exact ⟨(lo + r13).toNat, congrArg (Value.int .i64) (show lo + (r13 : Int) = _ by omega), ⟨by omega, by omega⟩, soU13, kqU13, lqU13⟩
  obtain ⟨q, v, u, hr, z, rfl, h1⟩ := key
  exact ⟨z, u, ⟨q, hr⟩, h1⟩
end Go.Canon
namespace Go.Canon
open Go Go.Proofs
set_option linter.unusedVariables false
set_option linter.unusedSimpArgs false
def kf242 : KFunc := ⟨2, 21, [.tmp 4], .seq (.reg [⟨some 4, .mv (.c (.slice none 0 0)), none⟩] []) (.seq (.reg [⟨some 5, .mv (.c (.slice none 0 0)), none⟩] []) (.seq (.seq (.reg [⟨some 7, .mv (.t 1), none⟩, ⟨some 8, .mv (.c (.int .i64 0)), none⟩] []) (.block 0 (.loop (.seq (.reg [⟨some 9, .bin .lss (.t 8) (.t 7), none⟩] []) (.seq (.cond (.t 9) .skip (.exit 0)) (.seq (.block 1 (.seq (.reg [⟨some 10, .mv (.t 8), none⟩, ⟨some 6, .mv (.t 10), none⟩] []) (.reg [⟨some 11, .mv (.t 5), none⟩, ⟨some 12, .mv (.t 0), none⟩, ⟨some 13, .mv (.t 6), none⟩, ⟨some 14, .bin .add (.t 13) (.c (.int .i64 1)), none⟩, ⟨some 15, .call (.c (.func (.func 56) #[] #[])) [.t 12, .t 14], none⟩, ⟨some 16, .mv (.t 6), none⟩, ⟨some 17, .mkS [.int .i64 0] 1 [(0, 1, .t 16)], none⟩, ⟨some 18, .call (.c (.func (.func 75) #[] #[])) [.t 11, .t 15, .t 17], none⟩, ⟨some 5, .mv (.t 18), none⟩] []))) (.reg [⟨some 19, .bin .add (.t 8) (.c (.int .i64 1)), none⟩, ⟨some 8, .mv (.t 19), none⟩] []))))))) (.seq (.reg [⟨some 20, .mv (.t 5), none⟩, ⟨some 4, .mv (.t 20), none⟩] []) .ret)))⟩
theorem k242 : tab Tryd.prog 42 = some kf242 := by kernel_rfl
theorem k275 : tab Tryd.prog 75 = some insK := by kernel_rfl
section
variable {B : Nat → Prop} {T : Nat → Option KFunc} {fi : FI} {prs : List (Nat × Nat)} {i : Nat} {d : Option Nat} {r : List KOper} {fr : Nat → Value} {h u L : Heap} {m : List Nat} {K : (Nat → Value) → Heap → List Nat → Prop}
theorem E_callUL {f : KO} {xs : List KO} {g : Nat} {args : List Value} {v : Value} (hk : kop (.call f xs) fr (h ++ L) = some (.call g args)) (hr : Ret T g args (h ++ L) v u) (hpr : prs.any (fun p => p.1 = i ∨ p.2 = i) = false) (H : AE noB T fi prs (i + 1) r (put fr d v) (u ++ []) m K) : AE noB T fi prs i (⟨d, .call f xs, none⟩ :: r) fr (h ++ L) m K :=
  E_callR rfl hk hr (.inl hpr) (by simpa using H)
theorem ins_ret {f : Nat} {args : List Value} {v : Value} {e : Eff} (hT : T f = some insK) (hi : isIns insK.body = true) (hk : kins args h = some (v, e)) : Ret T f args h v (e.on h) :=
  ⟨1, by unfold kcall; simp only [hT, hi, if_true, show kinsB insK.body args h = kins args h from rfl, hk]⟩
end
/-- A list of whole numbers in a row that Insert has made; none at the start. -/
def Own1 (h : Heap) (lo : Nat) (p : Pl) (l : List Int) : Prop := (l = [] ∧ p = (none, 0)) ∨ ∃ b, p = (some ⟨b, 0, none⟩, l.length) ∧ lo ≤ b ∧ h[b]? = some (.row (l.map (.int .i64 ·)) true (some 1))
theorem Own1.kp {h h' : Heap} {lo : Nat} {p : Pl} {l : List Int} {S : Nat → Prop} (H : Own1 h lo p l) (k : Kp S h h') (hS : ∀ b, lo ≤ b → ¬ S b) : Own1 h' lo p l := by
  rcases H with H | ⟨b, e, hb, hr⟩
  · exact .inl H
  · exact .inr ⟨b, e, hb, k.row hr (hS b hb)⟩
theorem Own1.ints {h : Heap} {lo : Nat} {p : Pl} {l : List Int} (H : Own1 h lo p l) : Ints (fun b => lo ≤ b) h p l := by
  rcases H with ⟨rfl, rfl⟩ | ⟨b, rfl, hb, hr⟩
  · exact Ints.nil
  · exact ⟨by simp, Nat.le_refl _, .inr ⟨b, 0, _, true, _, rfl, hb, hr, by simp; right; rw [List.take_of_length_le (by simp)]⟩⟩
theorem all64 {l : List Int} : (l.map (Value.int .i64 ·)).all isI64 = true := by rw [List.all_map]; exact List.all_eq_true.2 fun _ _ => rfl
theorem ins1 {U : Heap} {lo : Nat} {p : Pl} {l : List Int} {x : Int} {q : Nat} (H : Own1 U lo p l) (hlo : lo ≤ U.length) (hq : q ≤ l.length) (hl : l.length < 1000) :
    ∃ (p' : Pl) (u : Heap), Ret (tab Tryd.prog) 75 [.slice p.1 l.length p.2, .int .i64 (q : Int), .slice (some ⟨U.length + 0, 0, none⟩) 1 1] (U ++ [CO.row [.int .i64 x] true none]) (.slice p'.1 (l.take q ++ x :: l.drop q).length p'.2) u ∧ Own1 u lo p' (l.take q ++ x :: l.drop q) ∧ Kp (fun b => lo ≤ b) U u ∧ U.length ≤ u.length := by
  have hlen : (l.take q ++ x :: l.drop q).length = l.length + 1 := by simp; omega
  have hmap : ((l.map (Value.int .i64 ·)).take q ++ [Value.int .i64 x] ++ (l.map (Value.int .i64 ·)).drop q) = (l.take q ++ x :: l.drop q).map (Value.int .i64 ·) := by simp
  have hnew : firstC (U ++ [CO.row [.int .i64 x] true none]) 1 1 (.slice (some ⟨U.length + 0, 0, none⟩) 1 1) = some [.int .i64 x] := by simp [firstC, rowGet]
  have hrx : (U ++ [CO.row [.int .i64 x] true none])[U.length + 0]? = some (CO.row [.int .i64 x] true none) := by simp
  have hLn : (U ++ [CO.row [.int .i64 x] true none]).length = U.length + 1 := by simp
  rcases H with ⟨rfl, rfl⟩ | ⟨b, rfl, hb, hr⟩
  · refine ⟨(some ⟨U.length + 1, 0, none⟩, 1), U ++ [CO.row [.int .i64 x] true none] ++ [.row [.int .i64 x] true (some 1)], ?_, .inr ⟨U.length + 1, by simp, by omega, by simp⟩, ?_, by simp⟩
    · obtain rfl : q = 0 := by simpa using hq
      refine ins_ret (v := .slice (some ⟨U.length + 1, 0, none⟩) 1 1) (e := .new (.row [.int .i64 x] true (some 1))) k275 rfl ?_
      show kins [.slice none 0 0, .int .i64 ((0 : Nat) : Int), .slice (some ⟨U.length + 0, 0, none⟩) 1 1] _ = _
      unfold kins
      try dsimp only
      rw [if_pos ⟨rfl, by omega, by omega, by omega, by simp [roomB]⟩, hnew, show firstC (U ++ [CO.row [.int .i64 x] true none]) 1 0 (.slice none 0 0) = some [] from rfl]
      try dsimp only
      rw [if_pos ⟨rfl, rfl⟩, hLn]
      rfl
    · rw [List.append_assoc]; exact Kp.app
  · have hbl := (List.getElem?_eq_some_iff.1 hr).1
    have hr' : (U ++ [CO.row [.int .i64 x] true none])[b]? = some (CO.row (l.map (Value.int .i64 ·)) true (some 1)) := by rw [pre_get hbl]; exact hr
    have hold : firstC (U ++ [CO.row [.int .i64 x] true none]) 1 l.length (.slice (some ⟨b, 0, none⟩) l.length l.length) = some (l.map (Value.int .i64 ·)) := by
      simp only [firstC, Nat.mul_one]
      split
      · rename_i h0; rw [List.length_eq_zero_iff.1 h0]; rfl
      · simp [rowGet, hr']
        rw [List.take_of_length_le (by simp)]
    refine ⟨(some ⟨U.length + 1, 0, none⟩, l.length + 1), (U ++ [CO.row [.int .i64 x] true none]).set b .gone ++ [.row ((l.take q ++ x :: l.drop q).map (Value.int .i64 ·)) true (some 1)], ?_, .inr ⟨U.length + 1, by rw [hlen], by omega, ?_⟩, ?_, by simp; omega⟩
    · have := ins_ret (T := tab Tryd.prog) (f := 75) (args := [.slice (some ⟨b, 0, none⟩) l.length l.length, .int .i64 (q : Int), .slice (some ⟨U.length + 0, 0, none⟩) 1 1]) (h := U ++ [CO.row [.int .i64 x] true none]) (v := .slice (some ⟨U.length + 1, 0, none⟩) (l.length + 1) (l.length + 1)) (e := .kill b (.row ((l.take q ++ x :: l.drop q).map (Value.int .i64 ·)) true (some 1))) k275 rfl ?_
      · rw [hlen]; exact this
      · unfold kins
        try dsimp only
        rw [if_pos ⟨rfl, by omega, by omega, by omega, by simp only [roomB]; omega⟩, hold, hnew]
        try dsimp only
        rw [if_pos ⟨all64, rfl⟩, hr', hrx]
        try dsimp only
        rw [hLn, show (q : Int).toNat = q from rfl, hmap]
        rfl
    · rw [List.getElem?_append_right (by simp)]; simp
    · refine ⟨by simp; omega, fun c hc hs => ?_⟩
      have hcb : b ≠ c := fun e => hs (e ▸ hb)
      rw [pre_get (by simp; omega), List.getElem?_set_ne hcb, pre_get hc]
theorem nodup_ins {l : List Int} {x : Int} {q : Nat} (hd : l.Nodup) (hx : x ∉ l) : (l.take q ++ x :: l.drop q).Nodup := by
  have h1 : (l.take q ++ x :: l.drop q).Perm (x :: l) := by
    have := (List.perm_middle (a := x) (l₁ := l.take q) (l₂ := l.drop q))
    rwa [List.take_append_drop] at this
  exact h1.nodup_iff.2 (List.nodup_cons.2 ⟨hx, hd⟩)
theorem perm_ins {l : List Int} {i q : Nat} (h : l.Perm ((List.range i).map fun j : Nat => (j : Int))) : (l.take q ++ (i : Int) :: l.drop q).Perm ((List.range (i + 1)).map fun j : Nat => (j : Int)) := by
  have h1 : (l.take q ++ (i : Int) :: l.drop q).Perm ((i : Int) :: l) := by
    have := (List.perm_middle (a := (i : Int)) (l₁ := l.take q) (l₂ := l.drop q))
    rwa [List.take_append_drop] at this
  rw [List.range_succ, List.map_append]
  exact h1.trans ((h.cons (i : Int)).trans (List.perm_append_singleton _ _).symm)
theorem sorder_retP (N : Nat) (H : Heap) (s k : Nat) (n : Int) (hs : Sto N H s k) (hk : k < 4611686018427387000) (hn : 0 < n) (hn2 : n < 900) : ∃ (l : List Int) (p : Pl) (u : Heap), Ret (tab Tryd.prog) 42 [.pointer (some ⟨s, 0, none⟩), .int .i64 n] H (.slice p.1 l.length p.2) u ∧ (l.length = n.toNat ∧ (∀ x ∈ l, 0 ≤ x ∧ x < n) ∧ l.Nodup ∧ l.Perm ((List.range n.toNat).map fun i : Nat => (i : Int))) ∧ Own1 u H.length p l ∧ Sto N u s (k + n.toNat) ∧ Kp (fun b => b = s) H u := by
  have key : ACall (tab Tryd.prog) 42 [.pointer (some ⟨s, 0, none⟩), .int .i64 n] H fun v u => ∃ (l : List Int) (p : Pl), v = .slice p.1 l.length p.2 ∧ (l.length = n.toNat ∧ (∀ x ∈ l, 0 ≤ x ∧ x < n) ∧ l.Nodup ∧ l.Perm ((List.range n.toNat).map fun i : Nat => (i : Int))) ∧ Own1 u H.length p l ∧ Sto N u s (k + n.toNat) ∧ Kp (fun b => b = s) H u := by
    refine ACall_ownR k242 rfl ?_
    refine AX_seq (AX_E (E_mv (v := .slice _ _ _) rfl (E_nil (AX_seq (AX_E (E_mv (v := .slice _ _ _) rfl (E_nil (AX_seq (AX_seq (AX_E (E_mv (v := .int .i64 (n)) rfl (E_mv (v := .int .i64 (0)) rfl (E_nil (AX_block ?_))))))))))))))
    refine AX_loopF (γ := Nat × List Int × Pl) (fun x => [(0, .pointer (some ⟨s, 0, none⟩)), (5, .slice (x.2.2).1 (x.2.1).length (x.2.2).2), (7, .int .i64 (n)), (8, .int .i64 ((x.1 : Int)))]) (fun x h_ m_ => (m_ = [] ∧ Kp (fun b => b = s) H h_ ∧ Sto N h_ s (k + x.1) ∧ Own1 h_ H.length x.2.2 x.2.1) ∧ (x.2.1).length = x.1 ∧ (x.1 : Int) ≤ n ∧ (∀ y ∈ (x.2.1), 0 ≤ y ∧ y < (x.1 : Int)) ∧ (x.2.1).Nodup ∧ (x.2.1).Perm ((List.range x.1).map fun j : Nat => (j : Int))) (fun x => n.toNat - x.1) (0, [], (none, 0)) ⟨rfl, rfl, rfl, rfl, trivial⟩ ⟨?_, ?_⟩ ?_
    · exact ⟨rfl, ⟨by simp, fun _ _ _ => by rw [List.append_nil]⟩, by rw [List.append_nil]; exact hs, .inl ⟨rfl, rfl⟩⟩
    · exact ⟨rfl, by omega, fun _ h => by simp at h, List.nodup_nil, List.Perm.refl _⟩
    rintro ⟨i, l, p⟩ fr0 KH0 mk0 ⟨hI0, inv0⟩ Kk0 hN0 hR0 hE0
    try dsimp only at hI0 inv0
    obtain ⟨rfl, kq0, so0, ow0⟩ := hI0
    obtain ⟨hl0, hi0, hm0, hd0, hp0⟩ := inv0
    have kqKH0 := kq0
    refine AX_nil ?_
    refine AX_seq (AX_E (E_lssS rfl rfl (fun c9 => ?_) (fun c9 => ?_)))
    · refine E_nil (AX_seq (AX_condT rfl (AX_skip (AX_seq (AX_block (AX_seq (AX_E (E_mv (v := .int .i64 ((i : Int))) rfl (E_mv (v := .int .i64 ((i : Int))) rfl (E_nil (AX_E (E_mv (v := .slice _ _ _) rfl (E_mv (v := .pointer (some ⟨s, 0, none⟩)) rfl (E_mv (v := .int .i64 ((i : Int))) rfl (E_addI rfl rfl (by first | omega | (simp; done) | (simp; omega)) (by first | omega | (simp; done) | (simp; omega)) ?_)))))))))))))))
      obtain ⟨r15, U15, hr15, hb15, soU15, kpU15, luU15⟩ := less_ret N KH0 s (k + i) ((i : Int) + 1) so0 (by omega) (by omega)
      have kqU15 : Kp (fun b => b = s) H U15 := kqKH0.trans kpU15 (fun _ _ x => x) (fun _ _ x => x)
      refine E_callU rfl hr15 rfl (E_mv (v := .int .i64 ((i : Int))) rfl (E_mkS (cs := [.int .i64 ((i : Int))]) rfl ?_))
      have lu15 : H.length ≤ U15.length := kqU15.len
      obtain ⟨p18, U18, hr18, ow18, kp18, lp18⟩ := ins1 (x := (i : Int)) (q := r15) (ow0.kp kpU15 (fun b hb e => by have := hs.1; have := hs.2.1; omega)) lu15 (by omega) (by omega)
      refine E_callUL rfl hr18 rfl (E_mv (v := .slice _ _ _) rfl (E_nil (AX_E (E_addI rfl rfl (by first | omega | (simp; done) | (simp; omega)) (by first | omega | (simp; done) | (simp; omega)) (E_mv (v := .int .i64 (((i : Int) + 1))) rfl (E_nil ?_))))))
      refine hN0 (i + 1, l.take r15 ++ (i : Int) :: l.drop r15, p18) _ _ _ ⟨by first | rfl | (congr 1; omega), by rfl, by first | rfl | (congr 1; omega), by rfl, trivial⟩ ⟨?_, ?_⟩ ?_
      all_goals clear hN0 hR0 hE0
      · refine ⟨rfl, ?_, ?_, ?_⟩
        · rw [List.append_nil]; exact kqU15.trans kp18 (fun _ _ x => x) (fun b hb x => by omega)
        · rw [List.append_nil, show k + (i + 1) = k + i + 1 by omega]; exact soU15.kp kp18 (fun b hb => by have := hs.2.1; omega)
        · rw [List.append_nil]; exact ow18
      · refine ⟨by simp; omega, by omega, fun x hx => ?_, ?_, perm_ins hp0⟩
        · rw [List.mem_append, List.mem_cons] at hx
          rcases hx with hx | rfl | hx
          · have := hm0 x (List.mem_of_mem_take hx); omega
          · omega
          · have := hm0 x (List.mem_of_mem_drop hx); omega
        · exact nodup_ins hd0 (fun h => by have := hm0 _ h; omega)
      · (first | omega | (simp; omega))
    · refine E_nil (AX_seq (AX_condF rfl (AX_exit (hE0 _ _ _ _ (AX_seq (AX_E (E_mv (v := .slice _ _ _) rfl (E_mv (v := .slice _ _ _) rfl (E_nil (AX_ret ?_))))))))))
      refine ⟨_, rfl, by simp, ?_⟩
      simp only [List.foldl_nil, List.append_nil]
      have hln : l.length = n.toNat := by omega
      obtain ⟨b, eb, hb, hrb⟩ := ow0.resolve_left (fun hh => by rw [hh.1] at hln; simp only [List.length_nil] at hln; omega)
      rw [forget_more (by show flat2 (.slice p.1 l.length p.2) = false; rw [eb]; rfl)]
      exact ⟨l, p, rfl, ⟨hln, fun x hx => by have := hm0 x hx; omega, hd0, by rw [← hln, hl0]; exact hp0⟩, ow0, by rw [← hln, hl0]; exact so0, kq0⟩
  obtain ⟨q, v, u, hr, l, p, rfl, h1⟩ := key
  exact ⟨l, p, u, ⟨q, hr⟩, h1⟩
theorem sorder_ret (N : Nat) (H : Heap) (s k : Nat) (n : Int) (hs : Sto N H s k) (hk : k < 4611686018427387000) (hn : 0 < n) (hn2 : n < 900) : ∃ (l : List Int) (p : Pl) (u : Heap), Ret (tab Tryd.prog) 42 [.pointer (some ⟨s, 0, none⟩), .int .i64 n] H (.slice p.1 l.length p.2) u ∧ (l.length = n.toNat ∧ (∀ x ∈ l, 0 ≤ x ∧ x < n) ∧ l.Nodup) ∧ Own1 u H.length p l ∧ Sto N u s (k + n.toNat) ∧ Kp (fun b => b = s) H u := by
  obtain ⟨l, p, u, hr, ⟨a, b, c, _⟩, h⟩ := sorder_retP N H s k n hs hk hn hn2
  exact ⟨l, p, u, hr, ⟨a, b, c⟩, h⟩
end Go.Canon
namespace Go.Canon
open Go Go.Proofs
set_option linter.unusedVariables false
set_option linter.unusedSimpArgs false
def kf272 : KFunc := ⟨1, 24, [.tmp 2], .seq (.reg [⟨some 2, .mv (.c (.int .i64 0)), none⟩] []) (.seq (.block 0 (.seq (.seq (.reg [⟨some 4, .mv (.t 0), none⟩, ⟨some 5, .bin .geq (.t 4) (.c (.int .i64 1)), none⟩, ⟨some 6, .mv (.t 5), none⟩, ⟨some 7, .mv (.t 0), some (6, true)⟩, ⟨some 8, .bin .leq (.t 7) (.c (.int .i64 8)), some (6, true)⟩, ⟨some 9, .pick (.t 6) (.t 8) (.c (.bool false)), none⟩, ⟨some 3, .mv (.t 9), none⟩] []) (.cond (.t 3) .skip (.seq (.reg [⟨some 10, .mv (.t 0), none⟩, ⟨some 11, .bin .eql (.t 10) (.c (.int .i64 13)), none⟩, ⟨some 3, .mv (.t 11), none⟩] []) (.cond (.t 3) .skip (.reg [⟨some 12, .mv (.t 0), none⟩, ⟨some 13, .bin .eql (.t 12) (.c (.int .i64 14)), none⟩, ⟨some 3, .mv (.t 13), none⟩] []))))) (.cond (.t 3) (.seq (.reg [⟨some 2, .mv (.c (.int .i64 1)), none⟩] []) .ret) (.seq (.reg [⟨some 15, .mv (.t 0), none⟩, ⟨some 16, .bin .geq (.t 15) (.c (.int .i64 9)), none⟩, ⟨some 17, .mv (.t 16), none⟩, ⟨some 18, .mv (.t 0), some (17, true)⟩, ⟨some 19, .bin .leq (.t 18) (.c (.int .i64 11)), some (17, true)⟩, ⟨some 20, .pick (.t 17) (.t 19) (.c (.bool false)), none⟩, ⟨some 14, .mv (.t 20), none⟩] []) (.cond (.t 14) (.seq (.reg [⟨some 2, .mv (.c (.int .i64 2)), none⟩] []) .ret) (.seq (.reg [⟨some 22, .mv (.t 0), none⟩, ⟨some 23, .bin .eql (.t 22) (.c (.int .i64 12)), none⟩, ⟨some 21, .mv (.t 23), none⟩] []) (.cond (.t 21) (.seq (.reg [⟨some 2, .mv (.c (.int .i64 3)), none⟩] []) .ret) .skip))))))) (.seq (.reg [⟨some 2, .mv (.c (.int .i64 0)), none⟩] []) .ret))⟩
theorem k272 : tab Tryd.prog 72 = some kf272 := by kernel_rfl
def kf234 : KFunc := ⟨3, 30, [.cell 6 (some 4)], .seq (.reg [⟨some 6, .new [.int .i64 0, .slice none 0 0, .int .i64 0, .int .i64 0], none⟩] []) (.seq (.reg [⟨some 8, .mv (.t 2), none⟩, ⟨some 9, .mv (.t 0), none⟩, ⟨some 10, .mv (.t 2), none⟩, ⟨some 11, .len (.t 10), none⟩, ⟨some 12, .call (.c (.func (.func 56) #[] #[])) [.t 9, .t 11], none⟩, ⟨some 13, .iaS (.t 8) (.t 12) 1, none⟩, ⟨some 14, .ld (.t 13) none, none⟩, ⟨some 7, .mv (.t 14), none⟩] []) (.seq (.seq (.reg [⟨some 15, .mv (.t 7), none⟩, ⟨some 16, .call (.c (.func (.func 72) #[] #[])) [.t 15], none⟩, ⟨some 17, .mv (.t 1), none⟩, ⟨some 18, .bin .gtr (.t 16) (.t 17), none⟩] []) (.cond (.t 18) (.reg [⟨some 19, .mv (.t 2), none⟩, ⟨some 20, .iaS (.t 19) (.c (.int .i64 0)) 1, none⟩, ⟨some 21, .ld (.t 20) none, none⟩, ⟨some 7, .mv (.t 21), none⟩] []) .skip)) (.seq (.reg [⟨some 22, .mv (.t 7), none⟩, ⟨some 23, .mv (.t 0), none⟩, ⟨some 24, .mv (.t 1), none⟩, ⟨some 25, .call (.c (.func (.func 42) #[] #[])) [.t 23, .t 24], none⟩, ⟨some 26, .mv (.t 7), none⟩, ⟨some 27, .call (.c (.func (.func 72) #[] #[])) [.t 26], none⟩, ⟨some 28, .slS (.t 25) none (some (.t 27)) none 1, none⟩, ⟨some 29, .mk [.int .i64 0, .slice none 0 0, .int .i64 0, .int .i64 0] [(0, 1, .t 22), (1, 1, .t 28)], none⟩, ⟨none, .st (.t 6) (.t 29) 4, none⟩] []) .ret)))⟩
theorem k234 : tab Tryd.prog 34 = some kf234 := by kernel_rfl
theorem karity_ret (H : Heap) (n : Int) : Ret (tab Tryd.prog) 72 [.int .i64 n] H (.int .i64 (arityM n)) H := by
  refine Ret_own k272 rfl ?_
  refine AX_seq (AX_E (E_mv (v := .int .i64 (0)) rfl (E_nil (AX_seq (AX_block (AX_seq (AX_seq (AX_E (E_mv (v := .int .i64 (n)) rfl (E_geqS rfl rfl (fun c5 => ?_) (fun c5 => ?_)))))))))))
  · refine E_mv (v := .bool _) rfl (E_on rfl (E_mv (v := .int .i64 (n)) rfl (E_on rfl (E_leqS rfl rfl (fun c8 => ?_) (fun c8 => ?_)))))
    · refine E_pickT rfl (v := .bool _) rfl (E_mv (v := .bool _) rfl (E_nil (AX_condT rfl (AX_skip (AX_condT rfl (AX_seq (AX_E (E_mv (v := .int .i64 (1)) rfl (E_nil (AX_ret ?_))))))))))
      refine ⟨_, rfl, by simp, ?_, forget_flat rfl (List.prefix_append _ _)⟩
      refine congrArg (Value.int _) ?_
      unfold arityM
      (repeat' split) <;> omega
    · refine E_pickT rfl (v := .bool _) rfl (E_mv (v := .bool _) rfl (E_nil (AX_condF rfl (AX_seq (AX_E (E_mv (v := .int .i64 (n)) rfl (E_eqlS rfl rfl (fun c11 => ?_) (fun c11 => ?_))))))))
      · refine E_mv (v := .bool _) rfl (E_nil (AX_condT rfl (AX_skip (AX_condT rfl (AX_seq (AX_E (E_mv (v := .int .i64 (1)) rfl (E_nil (AX_ret ?_)))))))))
        refine ⟨_, rfl, by simp, ?_, forget_flat rfl (List.prefix_append _ _)⟩
        refine congrArg (Value.int _) ?_
        unfold arityM
        (repeat' split) <;> omega
      · refine E_mv (v := .bool _) rfl (E_nil (AX_condF rfl (AX_E (E_mv (v := .int .i64 (n)) rfl (E_eqlS rfl rfl (fun c13 => ?_) (fun c13 => ?_))))))
        · refine E_mv (v := .bool _) rfl (E_nil (AX_condT rfl (AX_seq (AX_E (E_mv (v := .int .i64 (1)) rfl (E_nil (AX_ret ?_)))))))
          refine ⟨_, rfl, by simp, ?_, forget_flat rfl (List.prefix_append _ _)⟩
          refine congrArg (Value.int _) ?_
          unfold arityM
          (repeat' split) <;> omega
        · refine E_mv (v := .bool _) rfl (E_nil (AX_condF rfl (AX_seq (AX_E (E_mv (v := .int .i64 (n)) rfl (E_geqS rfl rfl (fun c16 => ?_) (fun c16 => ?_)))))))
          · refine E_mv (v := .bool _) rfl (E_on rfl (E_mv (v := .int .i64 (n)) rfl (E_on rfl (E_leqS rfl rfl (fun c19 => ?_) (fun c19 => ?_)))))
            · refine E_pickT rfl (v := .bool _) rfl (E_mv (v := .bool _) rfl (E_nil (AX_condT rfl (AX_seq (AX_E (E_mv (v := .int .i64 (2)) rfl (E_nil (AX_ret ?_))))))))
              refine ⟨_, rfl, by simp, ?_, forget_flat rfl (List.prefix_append _ _)⟩
              refine congrArg (Value.int _) ?_
              unfold arityM
              (repeat' split) <;> omega
            · refine E_pickT rfl (v := .bool _) rfl (E_mv (v := .bool _) rfl (E_nil (AX_condF rfl (AX_seq (AX_E (E_mv (v := .int .i64 (n)) rfl (E_eqlS rfl rfl (fun c23 => ?_) (fun c23 => ?_))))))))
              · refine E_mv (v := .bool _) rfl (E_nil (AX_condT rfl (AX_seq (AX_E (E_mv (v := .int .i64 (3)) rfl (E_nil (AX_ret ?_)))))))
                refine ⟨_, rfl, by simp, ?_, forget_flat rfl (List.prefix_append _ _)⟩
                refine congrArg (Value.int _) ?_
                unfold arityM
                (repeat' split) <;> omega
              · refine E_mv (v := .bool _) rfl (E_nil (AX_condF rfl (AX_skip (AX_seq (AX_E (E_mv (v := .int .i64 (0)) rfl (E_nil (AX_ret ?_))))))))
                refine ⟨_, rfl, by simp, ?_, forget_flat rfl (List.prefix_append _ _)⟩
                refine congrArg (Value.int _) ?_
                unfold arityM
                (repeat' split) <;> omega
          · refine E_mv (v := .bool _) rfl (E_notT rfl (E_notT rfl (E_pickF rfl (v := .bool _) rfl (E_mv (v := .bool _) rfl (E_nil (AX_condF rfl (AX_seq (AX_E (E_mv (v := .int .i64 (n)) rfl (E_eqlS rfl rfl (fun c23 => ?_) (fun c23 => ?_)))))))))))
            · refine E_mv (v := .bool _) rfl (E_nil (AX_condT rfl (AX_seq (AX_E (E_mv (v := .int .i64 (3)) rfl (E_nil (AX_ret ?_)))))))
              refine ⟨_, rfl, by simp, ?_, forget_flat rfl (List.prefix_append _ _)⟩
              refine congrArg (Value.int _) ?_
              unfold arityM
              (repeat' split) <;> omega
            · refine E_mv (v := .bool _) rfl (E_nil (AX_condF rfl (AX_skip (AX_seq (AX_E (E_mv (v := .int .i64 (0)) rfl (E_nil (AX_ret ?_))))))))
              refine ⟨_, rfl, by simp, ?_, forget_flat rfl (List.prefix_append _ _)⟩
              refine congrArg (Value.int _) ?_
              unfold arityM
              (repeat' split) <;> omega
  · refine E_mv (v := .bool _) rfl (E_notT rfl (E_notT rfl (E_pickF rfl (v := .bool _) rfl (E_mv (v := .bool _) rfl (E_nil (AX_condF rfl (AX_seq (AX_E (E_mv (v := .int .i64 (n)) rfl (E_eqlS rfl rfl (fun c11 => ?_) (fun c11 => ?_)))))))))))
    · refine E_mv (v := .bool _) rfl (E_nil (AX_condT rfl (AX_skip (AX_condT rfl (AX_seq (AX_E (E_mv (v := .int .i64 (1)) rfl (E_nil (AX_ret ?_)))))))))
      refine ⟨_, rfl, by simp, ?_, forget_flat rfl (List.prefix_append _ _)⟩
      refine congrArg (Value.int _) ?_
      unfold arityM
      (repeat' split) <;> omega
    · refine E_mv (v := .bool _) rfl (E_nil (AX_condF rfl (AX_E (E_mv (v := .int .i64 (n)) rfl (E_eqlS rfl rfl (fun c13 => ?_) (fun c13 => ?_))))))
      · refine E_mv (v := .bool _) rfl (E_nil (AX_condT rfl (AX_seq (AX_E (E_mv (v := .int .i64 (1)) rfl (E_nil (AX_ret ?_)))))))
        refine ⟨_, rfl, by simp, ?_, forget_flat rfl (List.prefix_append _ _)⟩
        refine congrArg (Value.int _) ?_
        unfold arityM
        (repeat' split) <;> omega
      · refine E_mv (v := .bool _) rfl (E_nil (AX_condF rfl (AX_seq (AX_E (E_mv (v := .int .i64 (n)) rfl (E_geqS rfl rfl (fun c16 => ?_) (fun c16 => ?_)))))))
        · refine E_mv (v := .bool _) rfl (E_on rfl (E_mv (v := .int .i64 (n)) rfl (E_on rfl (E_leqS rfl rfl (fun c19 => ?_) (fun c19 => ?_)))))
          · refine E_pickT rfl (v := .bool _) rfl (E_mv (v := .bool _) rfl (E_nil (AX_condT rfl (AX_seq (AX_E (E_mv (v := .int .i64 (2)) rfl (E_nil (AX_ret ?_))))))))
            refine ⟨_, rfl, by simp, ?_, forget_flat rfl (List.prefix_append _ _)⟩
            refine congrArg (Value.int _) ?_
            unfold arityM
            (repeat' split) <;> omega
          · refine E_pickT rfl (v := .bool _) rfl (E_mv (v := .bool _) rfl (E_nil (AX_condF rfl (AX_seq (AX_E (E_mv (v := .int .i64 (n)) rfl (E_eqlS rfl rfl (fun c23 => ?_) (fun c23 => ?_))))))))
            · refine E_mv (v := .bool _) rfl (E_nil (AX_condT rfl (AX_seq (AX_E (E_mv (v := .int .i64 (3)) rfl (E_nil (AX_ret ?_)))))))
              refine ⟨_, rfl, by simp, ?_, forget_flat rfl (List.prefix_append _ _)⟩
              refine congrArg (Value.int _) ?_
              unfold arityM
              (repeat' split) <;> omega
            · refine E_mv (v := .bool _) rfl (E_nil (AX_condF rfl (AX_skip (AX_seq (AX_E (E_mv (v := .int .i64 (0)) rfl (E_nil (AX_ret ?_))))))))
              refine ⟨_, rfl, by simp, ?_, forget_flat rfl (List.prefix_append _ _)⟩
              refine congrArg (Value.int _) ?_
              unfold arityM
              (repeat' split) <;> omega
        · refine E_mv (v := .bool _) rfl (E_notT rfl (E_notT rfl (E_pickF rfl (v := .bool _) rfl (E_mv (v := .bool _) rfl (E_nil (AX_condF rfl (AX_seq (AX_E (E_mv (v := .int .i64 (n)) rfl (E_eqlS rfl rfl (fun c23 => ?_) (fun c23 => ?_)))))))))))
          · refine E_mv (v := .bool _) rfl (E_nil (AX_condT rfl (AX_seq (AX_E (E_mv (v := .int .i64 (3)) rfl (E_nil (AX_ret ?_)))))))
            refine ⟨_, rfl, by simp, ?_, forget_flat rfl (List.prefix_append _ _)⟩
            refine congrArg (Value.int _) ?_
            unfold arityM
            (repeat' split) <;> omega
          · refine E_mv (v := .bool _) rfl (E_nil (AX_condF rfl (AX_skip (AX_seq (AX_E (E_mv (v := .int .i64 (0)) rfl (E_nil (AX_ret ?_))))))))
            refine ⟨_, rfl, by simp, ?_, forget_flat rfl (List.prefix_append _ _)⟩
            refine congrArg (Value.int _) ?_
            unfold arityM
            (repeat' split) <;> omega
theorem ar_pos {k : Int} (h : 1 ≤ k ∧ k ≤ 12) : 1 ≤ arityM k := by
  unfold arityM
  (repeat' split) <;> omega
theorem cg0 {k w : Int} {l : List Int} (h : 1 ≤ arityM k ∧ arityM k ≤ w) (hl : l.length = w.toNat ∧ (∀ x ∈ l, 0 ≤ x ∧ x < w) ∧ l.Nodup) (hk : 1 ≤ k ∧ k ≤ 12) : cgM ⟨k, l.take (arityM k).toNat, 0, 0⟩ w 0 = 0 := by
  unfold cgM
  rw [if_neg (by show ¬ arityM k = 0; omega), if_neg (by first | (simp; done) | (simp; omega)), if_neg (by rintro ⟨x, hx, h⟩; have := hl.2.1 x (List.mem_of_mem_take hx); omega), if_neg (by simp; exact hl.2.2.sublist (List.take_sublist _ _)), if_neg (by first | (simp; done) | (simp; omega)), if_neg (by first | (simp; done) | (simp; omega))]
theorem res_x {U : Heap} {fr : Nat → Value} {t b n : Nat} {cs : List Value} {gr : Option Nat} {wr : Bool} (e : fr t = .pointer (some ⟨b, 0, none⟩)) (hr : U[b]? = some (.row cs wr gr)) (hn : cs.length = n) : resultsK U fr [.cell t (some n)] = some (.agg cs.toArray) := by
  have : rowGet U ⟨b, 0, none⟩ n = some cs := by simp [rowGet, hr, ← hn]
  simp [resultsK, resOf, e, this]
theorem sgate_ret (N : Nat) (H : Heap) (s k : Nat) (w : Int) (pk : Pl) (kl : List Int) (hs : Sto N H s k) (hk : k < 4611686018427380000) (hw : 1 ≤ w ∧ w ≤ 12) (hkl : Ints (fun b => b < N ∧ b ≠ s) H pk kl) (hne : 0 < kl.length ∧ kl.length < 100) (hkk : ∀ x ∈ kl, 1 ≤ x ∧ x ≤ 12) (h1 : arityM (kl[0]'hne.1) = 1) :
    ∃ (g : G) (q : Pl) (u : Heap), Ret (tab Tryd.prog) 34 [.pointer (some ⟨s, 0, none⟩), .int .i64 w, .slice pk.1 kl.length pk.2] H (gv g q) u ∧ (cgM g w 0 = 0 ∧ g.k ∈ kl ∧ g.b = 0 ∧ g.f = 0) ∧ Ints (fun b => H.length ≤ b) u q g.ws ∧ Sto N u s (k + 1 + w.toNat) ∧ Kp (fun b => b = s) H u := by
  have key : ACall (tab Tryd.prog) 34 [.pointer (some ⟨s, 0, none⟩), .int .i64 w, .slice pk.1 kl.length pk.2] H fun v u => ∃ (g : G) (q : Pl), v = gv g q ∧ (cgM g w 0 = 0 ∧ g.k ∈ kl ∧ g.b = 0 ∧ g.f = 0) ∧ Ints (fun b => H.length ≤ b) u q g.ws ∧ Sto N u s (k + 1 + w.toNat) ∧ Kp (fun b => b = s) H u := by
    have kqH : Kp (fun b => b = s) H H := ⟨Nat.le_refl _, fun _ _ _ => rfl⟩
    have soH := hs
    have hsN := hs.1
    have hNH := hs.2.1
    have hl0 := hne.1
    refine ACall_ownR k234 rfl ?_
    refine AX_seq (AX_E (E_new (E_nil (AX_seq (AX_E (E_mv (v := .slice _ _ _) rfl (E_mv (v := .pointer (some ⟨s, 0, none⟩)) rfl (E_mv (v := .slice _ _ _) rfl (E_len (n := (kl).length) rfl ?_)))))))))
    obtain ⟨K1, hK1⟩ : ∃ K : Heap, K = H ++ ([CO.row [.int .i64 (0), .slice none 0 0, .int .i64 (0), .int .i64 (0)] true none] ++ []) := ⟨_, rfl⟩
    have lK1 : H.length + 1 ≤ K1.length := by rw [hK1]; simp only [List.length_append, List.length_cons, List.length_nil]; omega
    have pK1 : H <+: K1 := by rw [hK1]; exact List.prefix_append _ _
    have soK1 : Sto N K1 s (k) := soH.kp (S := fun _ => False) (by rw [hK1]; exact Kp.app) (fun b _ h => h)
    have kqK1 : Kp (fun b => b = s) H K1 := kqH.trans (S' := fun _ => False) (by rw [hK1]; exact Kp.app) (fun _ _ x => x) (fun _ _ x => x.elim)
    obtain ⟨r12, U12, hr12, hb12, soU12, kpU12, luU12⟩ := less_ret N K1 s k (kl.length : Int) soK1 (by omega) (by omega)
    have kqU12 : Kp (fun b => b = s) H U12 := kqK1.trans kpU12 (fun _ _ x => x) (fun _ _ x => x)
    have leU12 : K1.length ≤ U12.length := kpU12.len
    have lhU12 : H.length ≤ U12.length := kqU12.len
    have fk2 : Ints (fun b => (b < N ∧ b ≠ s)) U12 (pk) (kl) := kpU12.ii (hkl.lift hK1) (fun b hb => ⟨trivial, fun e => by have h : (b < N ∧ b ≠ s) := hb; have e1 : (b = s) := e; omega⟩)
    have rw3 : U12[(H).length + 0]? = some (CO.row [.int .i64 (0), .slice none 0 0, .int .i64 (0), .int .i64 (0)] true none) := kpU12.row (get_own hK1 (k := 0) rfl) (by show ¬ ((H).length + 0 = s); omega)
    refine E_hp (h' := K1 ++ []) (((List.append_nil _).symm.trans (congrArg (fun x : Heap => (H ++ x) ++ []) (List.append_nil _).symm)).trans (congrArg (fun x : Heap => x ++ []) hK1.symm)) (E_callU rfl hr12 rfl (have ix4 : r12 < (kl).length := (by omega); E_iaIb (j := r12) rfl fk2 rfl rfl rfl ix4 fun b4 o4 w4 => (E_ldB (v := .int .i64 (kl[r12]'ix4)) rfl w4 (E_mv (v := .int .i64 (kl[r12]'ix4)) rfl (E_nil ?_)))))
    refine AX_cut (X := Int) (fun kd => [(0, .pointer (some ⟨s, 0, none⟩)), (1, .int .i64 (w)), (6, .pointer (some ⟨(H).length + 0, 0, none⟩)), (7, .int .i64 (kd))]) (fun kd h_ m_ => h_ = U12 ++ [] ∧ m_ = [] ∧ kd ∈ kl ∧ 1 ≤ arityM kd ∧ arityM kd ≤ w) ?_ ?_
    · intro Kc18 hNc18 hRc18 hEc18
      refine AX_seq (AX_E (E_mv (v := .int .i64 (kl[r12]'ix4)) rfl (E_callV rfl (karity_ret _ _) (E_mv (v := .int .i64 (w)) rfl (E_gtrS rfl rfl (fun c18 => ?_) (fun c18 => ?_))))))
      · refine E_nil (AX_condT rfl (AX_E (E_mv (v := .slice _ _ _) rfl (have ix5 : 0 < (kl).length := (by first | omega | (simp; done) | (simp; omega)); E_iaIb (j := 0) rfl fk2 rfl rfl rfl ix5 fun b5 o5 w5 => (E_ldB (v := .int .i64 (kl[0]'ix5)) rfl w5 (E_mv (v := .int .i64 (kl[0]'ix5)) rfl (E_nil ?_)))))))
        refine hNc18 (_) _ _ _ ⟨by first | rfl | (congr 1; omega), by first | rfl | (congr 1; omega), by first | rfl | (congr 1; omega), by first | rfl | (congr 1; omega), trivial⟩ ⟨rfl, rfl, ?_⟩
        -- u1
        clear hNc18 hRc18 hEc18
        first | exact ⟨List.getElem_mem _, by rw [h1]; omega, by rw [h1]; omega⟩ | exact ⟨List.getElem_mem _, ar_pos (hkk _ (List.getElem_mem _)), by omega⟩
      · refine E_nil (AX_condF rfl (AX_skip ?_))
        refine hNc18 (_) _ _ _ ⟨by first | rfl | (congr 1; omega), by first | rfl | (congr 1; omega), by first | rfl | (congr 1; omega), by first | rfl | (congr 1; omega), trivial⟩ ⟨rfl, rfl, ?_⟩
        -- u2
        clear hNc18 hRc18 hEc18
        first | exact ⟨List.getElem_mem _, by rw [h1]; omega, by rw [h1]; omega⟩ | exact ⟨List.getElem_mem _, ar_pos (hkk _ (List.getElem_mem _)), by omega⟩
    rintro kd frc18 hc18 mc18 ⟨rfl, rfl, invc18⟩
    refine AX_seq (AX_E (E_mv (v := .int .i64 (kd)) rfl (E_mv (v := .pointer (some ⟨s, 0, none⟩)) rfl (E_mv (v := .int .i64 (w)) rfl ?_))))
    obtain ⟨l25, p25, U25, hr25, hb25, ow25, soU25, kpU25⟩ := sorder_ret N U12 s _ w soU12 (by omega) (by omega) (by omega)
    have kqU25 : Kp (fun b => b = s) H U25 := kqU12.trans kpU25 (fun _ _ x => x) (fun _ _ x => x)
    have leU25 : U12.length ≤ U25.length := kpU25.len
    have lhU25 : H.length ≤ U25.length := kqU25.len
    have rw6 : U25[(H).length + 0]? = some (CO.row [.int .i64 (0), .slice none 0 0, .int .i64 (0), .int .i64 (0)] true none) := kpU25.row rw3 (by show ¬ ((H).length + 0 = s); omega)
    refine E_callU rfl hr25 rfl (E_mv (v := .int .i64 (kd)) rfl (E_callV rfl (karity_ret _ _) (E_slHiIb (j := ((arityM (kd))).toNat) rfl (ow25.ints) rfl rfl (by omega) (by obtain ⟨_, _, _⟩ := invc18; omega) fun f7 => (E_mk (cs := [.int .i64 (kd), .slice (p25).1 ((l25.take ((arityM (kd))).toNat)).length (p25).2, .int .i64 (0), .int .i64 (0)]) rfl (E_stX (l := [.int .i64 (kd), .slice (p25).1 ((l25.take ((arityM (kd))).toNat)).length (p25).2, .int .i64 (0), .int .i64 (0)]) (v := .agg _) rfl rfl rfl rfl ((congrArg (fun h : Heap => h[(H).length + 0]?) (List.append_nil _)).trans (rw6)) (by simp) rfl rfl fun V8 hV8 => ?_)))))
    have eV8 : V8 = U25.set ((H).length + 0) (CO.row [.int .i64 (kd), .slice (p25).1 ((l25.take ((arityM (kd))).toNat)).length (p25).2, .int .i64 (0), .int .i64 (0)] true none) := by rw [hV8, List.append_nil]; rfl
    have kpV8 : Kp (fun b => b = (H).length + 0) U25 V8 := by rw [eV8]; exact Kp.set
    have kqV8 : Kp (fun b => b = s) H V8 := kqU25.trans kpV8 (fun _ _ x => x) (fun b hb x => by omega)
    have soV8 : Sto N V8 s (((k + 1) + w.toNat)) := soU25.kp kpV8 (fun b hb x => by omega)
    have leV8 : V8.length = U25.length := by rw [eV8]; exact List.length_set
    have ltV8 : (H).length + 0 < U25.length := (List.getElem?_eq_some_iff.1 (rw6)).1
    have rw9 : V8[(H).length + 0]? = some (CO.row [.int .i64 (kd), .slice (p25).1 ((l25.take ((arityM (kd))).toNat)).length (p25).2, .int .i64 (0), .int .i64 (0)] true none) := by rw [eV8, List.getElem?_set_self ltV8]
    have fk10 : Ints (fun b => (U12.length ≤ b)) V8 (p25) (l25) := kpV8.ii (ow25.ints) (fun b hb => ⟨trivial, fun e => by have h : (U12.length ≤ b) := hb; have e1 : (b = (H).length + 0) := e; omega⟩)
    refine E_nil (AX_ret ?_)
    simp only [List.append_nil, List.foldl_nil]
    obtain ⟨hkm, ha1, ha2⟩ := invc18
    obtain ⟨b, eb, hb, hrb⟩ := ow25.resolve_left (fun hh => by have := hb25.1; rw [hh.1] at this; simp only [List.length_nil] at this; omega)
    have ow := ow25.kp kpV8 (fun b hb e => by omega)
    refine ⟨_, res_x rfl rw9 rfl, by simp, ?_⟩
    rw [forget_more (by rw [eb]; rfl)]
    have hj : (arityM kd).toNat ≤ l25.length := by rw [hb25.1]; omega
    have hi := ow.ints.take hj
    exact ⟨⟨kd, l25.take (arityM kd).toNat, 0, 0⟩, p25, rfl, ⟨cg0 ⟨ha1, ha2⟩ hb25 (hkk _ hkm), hkm, rfl, rfl⟩, Cells.congr hi (fun b hb => by have : U12.length ≤ b := hb; omega) (fun _ _ _ => rfl), soV8, kqV8⟩
  obtain ⟨n, v, u, hr, g, q, rfl, h⟩ := key
  exact ⟨g, q, u, ⟨n, hr⟩, h⟩
end Go.Canon
namespace Go.Canon
open Go Go.Proofs
set_option linter.unusedVariables false
set_option linter.unusedSimpArgs false
section
variable {B : Nat → Prop} {T : Nat → Option KFunc} {fi : FI} {prs : List (Nat × Nat)} {i : Nat} {d : Option Nat} {r : List KOper} {fr : Nat → Value} {h u L : Heap} {m : List Nat} {K : (Nat → Value) → Heap → List Nat → Prop}
/-- A call that changes objects of B, in open pairs with what comes before it alone. -/
theorem E_callP' {o : KOper} {h h' : Heap} {f : Nat} {args : List Value} {v : Value} (hB : ∃ b, B b) (hpr : ∀ p ∈ prs, p.1 ≠ i) (hq : ∀ b, b < h.length → ¬ B b → h'[b]? = h[b]?) (hw : wantedK o.guard fr = true) (hk : kop o.op fr h = some (.call f args)) (hr : Ret T f args h v h')
    (H : AE B T fi prs (i + 1) r (put fr o.dst v) h' m K) : AE B T fi prs i (o :: r) fr h m K := by
  refine ⟨fun log hl => ?_⟩
  by_cases hpp : prs.any (fun p => p.1 = i ∨ p.2 = i) = true
  · refine AOps_callD hw hk hpp (hr.call ⟨fun e' he' hq' => ?_, H.go _ ?_⟩)
    · obtain ⟨f1, f2⟩ := hl e' he' ⟨i, Nat.le_refl _, hq'⟩
      refine ⟨clean_pre f1, ?_⟩
      obtain ⟨b0, hb0⟩ := hB
      unfold clean
      rw [if_neg (by simp [(f2 b0 hb0).1])]
      intro c hc hcl
      exact hq c hcl fun hb => (f2 c hb).2 hc
    · intro e' he'
      rcases List.mem_cons.1 he' with rfl | he'
      · rintro ⟨k, _, hk⟩; exact (hpr _ hk rfl).elim
      · exact fine_next hl e' he'
  · exact AOps_call (by simpa using hpp) hw hk (hr.call (H.go log (fine_next hl)))
theorem E_callUP {f : KO} {xs : List KO} {g s : Nat} {args : List Value} {v : Value} (hpr : ∀ p ∈ prs, p.1 ≠ i) (hk : kop (.call f xs) fr (h ++ []) = some (.call g args)) (hr : Ret T g args h v u) (hq : Kp (fun b => b = s) h u) (H : AE (fun b => b = s) T fi prs (i + 1) r (put fr d v) (u ++ []) m K) : AE (fun b => b = s) T fi prs i (⟨d, .call f xs, none⟩ :: r) fr (h ++ []) m K := by
  rw [List.append_nil] at hk ⊢
  exact E_callP' ⟨s, rfl⟩ hpr hq.keep rfl hk hr (by simpa using H)
theorem E_ldX {x : KO} {a : Addr} {v : Value} {s : Nat} (hx : x.ev fr = .pointer (some a)) (hg : rowGet h a 1 = some [v]) (ha : a.block ≠ s) (H : AE (fun b => b = s) T fi prs (i + 1) r (put fr d v) (h ++ L) m K) : AE (fun b => b = s) T fi prs i (⟨d, .ld x none, none⟩ :: r) fr (h ++ L) m K :=
  E_ld1 hx (rowGet_base hg) H (.inl fun b hb e => ha (e.symm.trans hb))
end
/-- A list of gates that is being made, in rows of its own, each gate with wires of its own. -/
def OwnG (h : Heap) (lo : Nat) (p : Pl) (gs : List G) : Prop := ∃ ps : List Pl, ps.length = gs.length ∧ Grown 4 0 h p gs.length (flat gs ps) ∧ (∀ a, p.1 = some a → lo ≤ a.block) ∧ ∀ i (h1 : i < gs.length) (h2 : i < ps.length), Ints (fun c => lo ≤ c ∧ offP p c) h ps[i] gs[i].ws
theorem OwnG.nil {h : Heap} {lo : Nat} : OwnG h lo (none, 0) [] := ⟨[], rfl, Grown.nil, fun a h => by simp at h, fun i h1 => by simp at h1⟩
theorem OwnG.kp {h h' : Heap} {lo : Nat} {p : Pl} {gs : List G} {S : Nat → Prop} (H : OwnG h lo p gs) (k : Kp S h h') (hS : ∀ b, lo ≤ b → ¬ S b) : OwnG h' lo p gs := by
  obtain ⟨ps, e, hg, hp, hi⟩ := H
  refine ⟨ps, e, ?_, hp, fun i h1 h2 => Cells.congr (hi i h1 h2) (fun _ x => x) fun b hb hl => k.keep b hl (hS b hb.1)⟩
  obtain ⟨h1, h2 | ⟨j, gr, e1, e2, e3⟩⟩ := hg
  · exact ⟨h1, .inl h2⟩
  · exact ⟨h1, .inr ⟨j, gr, e1, k.row e2 (hS j (by have := hp _ (congrArg Prod.fst e1); simpa using this)), e3⟩⟩
theorem OwnG.gates {h : Heap} {lo : Nat} {p : Pl} {gs : List G} (H : OwnG h lo p gs) : Gates (fun b => lo ≤ b) h p gs := by
  obtain ⟨ps, e, hg, hp, hi⟩ := H
  refine ⟨ps, e, ?_, fun i h1 h2 => Cells.congr (hi i h1 h2) (fun b hb => hb.1) (fun _ _ _ => rfl)⟩
  obtain ⟨h1, ⟨rfl, h2⟩ | ⟨j, gr, rfl, e2, e3⟩⟩ := hg
  · exact ⟨h1, by simp [h2], .inl ⟨rfl, rfl⟩⟩
  · refine ⟨h1, Nat.le_refl _, .inr ⟨j, 0, _, true, gr, by simp, by have := hp _ rfl; simpa using this, e2, ?_, ?_⟩⟩
    · exact e3
    · right; simp [← h1]
/-- One more. -/
theorem OwnG.add {h h' : Heap} {lo M : Nat} {p q : Pl} {gs : List G} {g : G} (hlo : lo ≤ h.length) (H : OwnG h lo p gs) (hq : Ints (fun c => M ≤ c) h q g.ws) (hM : ∀ a, p.1 = some a → a.block < M) (hM0 : lo ≤ M) (ps : List Pl) (e : ps.length = gs.length) (hi : ∀ i (h1 : i < gs.length) (h2 : i < ps.length), Ints (fun c => lo ≤ c ∧ offP p c) h ps[i] gs[i].ws)
    (hg : Grown 4 0 h' (some ⟨h.length, 0, none⟩, gs.length + 1) (gs.length + 1) (flat gs ps ++ gcells g q)) (hk : ∀ i, i < h.length → offP p i → h'[i]? = h[i]?) : OwnG h' lo (some ⟨h.length, 0, none⟩, (gs ++ [g]).length) (gs ++ [g]) := by
  have off : ∀ c, c < h.length → offP (some (⟨h.length, 0, none⟩ : Addr), (gs ++ [g]).length) c := fun c hc a ha => by
    simp at ha; subst ha; simp; omega
  refine ⟨ps ++ [q], by simp [e], ?_, fun a ha => by simp at ha; subst ha; exact hlo, fun i h1 h2 => ?_⟩
  · rw [flat_append _ _ _ _ e]
    simpa [flat] using hg
  · by_cases hl : i < gs.length
    · rw [List.getElem_append_left (by omega), List.getElem_append_left hl]
      exact Cells.congr (Cells.lt (hi i hl (by omega))) (fun b hb => ⟨hb.1.1, off b hb.2⟩) fun b hb hb2 => hk b hb2 hb.1.2
    · obtain rfl : i = gs.length := by simp at h1; omega
      have e1 : (ps ++ [q])[gs.length]'h2 = q := by rw [List.getElem_append_right (by omega)]; simp [e]
      have e2 : (gs ++ [g])[gs.length]'h1 = g := by simp
      rw [e1, e2]
      exact Cells.congr (Cells.lt hq) (fun b hb => ⟨by have := hb.1; omega, off b hb.2⟩) fun b hb hb2 => hk b hb2 fun a ha => by have := hM a ha; have := hb.1; omega
end Go.Canon
namespace Go.Canon
open Go Go.Proofs
set_option linter.unusedVariables false
set_option linter.unusedSimpArgs false
def kf221 : KFunc := ⟨4, 29, [.cell 8 (some 3)], .seq (.reg [⟨some 8, .new [.int .i64 0, .int .i64 0, .slice none 0 0], none⟩] []) (.seq (.reg [⟨some 10, .mv (.t 1), none⟩, ⟨some 11, .mk [.int .i64 0, .int .i64 0, .slice none 0 0] [(0, 1, .t 10)], none⟩, ⟨some 9, .new [.int .i64 0, .int .i64 0, .slice none 0 0], none⟩, ⟨none, .st (.t 9) (.t 11) 3, none⟩] []) (.seq (.seq (.reg [⟨some 12, .mv (.t 0), none⟩, ⟨some 13, .mv (.t 2), none⟩, ⟨some 14, .bin .add (.t 13) (.c (.int .i64 1)), none⟩, ⟨some 15, .call (.c (.func (.func 56) #[] #[])) [.t 12, .t 14], none⟩, ⟨some 16, .mv (.c (.int .i64 0)), none⟩] []) (.block 0 (.loop (.seq (.reg [⟨some 17, .bin .lss (.t 16) (.t 15), none⟩] []) (.seq (.cond (.t 17) .skip (.exit 0)) (.seq (.block 1 (.reg [⟨some 18, .fa (.t 9) 2, none⟩, ⟨some 19, .ld (.t 18) none, none⟩, ⟨some 20, .mv (.t 0), none⟩, ⟨some 21, .mv (.t 1), none⟩, ⟨some 22, .mv (.t 3), none⟩, ⟨some 23, .call (.c (.func (.func 34) #[] #[])) [.t 20, .t 21, .t 22], none⟩, ⟨some 24, .mkS [.int .i64 0, .slice none 0 0, .int .i64 0, .int .i64 0] 1 [(0, 4, .t 23)], none⟩, ⟨some 25, .app (.t 19) (.t 24) 4 48, none⟩, ⟨some 26, .fa (.t 9) 2, none⟩, ⟨none, .st (.t 26) (.t 25) 1, none⟩] [(1, 5)])) (.reg [⟨some 27, .bin .add (.t 16) (.c (.int .i64 1)), none⟩, ⟨some 16, .mv (.t 27), none⟩] []))))))) (.seq (.reg [⟨some 28, .ld (.t 9) (some 3), none⟩, ⟨none, .st (.t 8) (.t 28) 3, none⟩] []) .ret)))⟩
theorem k221 : tab Tryd.prog 21 = some kf221 := by kernel_rfl
theorem Sto.pre {N : Nat} {h u : Heap} {s k : Nat} (H : Sto N u s k) (hp : h <+: u) (hN : N ≤ h.length) : Sto N h s k := by
  obtain ⟨t, rfl⟩ := hp
  obtain ⟨h1, h2, p, bs, nx, st, h3, h4, h5⟩ := H
  refine ⟨h1, hN, p, bs, nx, st, by rwa [pre_get (by omega)] at h3, fun j hj => ?_, h5⟩
  obtain ⟨b, o, v, e1, e2, e3, e4⟩ := h4 j hj
  exact ⟨b, o, v, e1, e2, e3, by rwa [rowGet_ne (show (h ++ t)[b]? = h[b]? from pre_get (by omega))] at e4⟩
theorem Sto.mono {N : Nat} {h : Heap} {s k k' : Nat} (H : Sto N h s k) (hk : k ≤ k') : Sto N h s k' := by
  obtain ⟨h1, h2, p, bs, nx, st, h3, h4, h5, h6, h7⟩ := H
  exact ⟨h1, h2, p, bs, nx, st, h3, h4, h5, by omega, h7⟩
theorem checkM_of {w b : Int} {gs : List G} (hw : 1 ≤ w ∧ w ≤ 12) (hb : 0 ≤ b ∧ b ≤ 8) (hn : gs.length ≤ 120) (hg : ∀ g ∈ gs, cgM g w b = 0) : checkM ⟨w, b, gs⟩ = 0 := by
  unfold checkM
  rw [if_neg (by show ¬ ((w < 1 ∨ 12 < w) ∨ (b < 0 ∨ 8 < b)); omega), if_neg (by show ¬ 120 < gs.length; omega)]
  show firstErr w b gs = 0
  induction gs with
  | nil => rfl
  | cons g gs ih =>
    unfold firstErr
    rw [if_neg (by simpa using hg g List.mem_cons_self)]
    exact ih (by simp at hn; omega) fun x hx => hg x (List.mem_cons_of_mem _ hx)
theorem ownG_lt {h : Heap} {lo : Nat} {p : Pl} {gs : List G} (H : OwnG h lo p gs) : ∀ a, p.1 = some a → a.block < h.length := by
  obtain ⟨ps, e, ⟨_, ⟨rfl, _⟩ | ⟨j, gr, rfl, e2, _⟩⟩, _, _⟩ := H
  · intro a ha; simp at ha
  · intro a ha; simp at ha; subst ha; exact (List.getElem?_eq_some_iff.1 e2).1
theorem ownG_flat {h : Heap} {lo : Nat} {p : Pl} {gs : List G} {w b : Int} (H : OwnG h lo p gs) (hf : flat2 (.agg #[.int .i64 w, .int .i64 b, .slice p.1 gs.length p.2]) = true) : gs = [] ∧ p = (none, 0) := by
  obtain ⟨ps, e, ⟨_, ⟨rfl, h0⟩ | ⟨j, gr, rfl, e2, _⟩⟩, _, _⟩ := H
  · exact ⟨List.length_eq_zero_iff.1 h0, rfl⟩
  · exact absurd hf (by simp [flat2, flat1, flat0])
theorem scirc_ret (N : Nat) (H : Heap) (s k : Nat) (w mo : Int) (pk : Pl) (kl : List Int) (hs : Sto N H s k) (hk : k < 4611686018427370000) (hw : 1 ≤ w ∧ w ≤ 12) (hmo : 0 ≤ mo ∧ mo ≤ 120) (hkl : Ints (fun b => b < N ∧ b ≠ s) H pk kl) (hne : 0 < kl.length ∧ kl.length < 100) (hkk : ∀ x ∈ kl, 1 ≤ x ∧ x ≤ 12) (h1 : arityM (kl[0]'hne.1) = 1) :
    ∃ (gs : List G) (q : Pl) (u : Heap), Ret (tab Tryd.prog) 21 [.pointer (some ⟨s, 0, none⟩), .int .i64 w, .int .i64 mo, .slice pk.1 kl.length pk.2] H (cv ⟨w, 0, gs⟩ q) u ∧ ((gs.length : Int) ≤ mo ∧ ∀ g ∈ gs, cgM g w 0 = 0 ∧ g.k ∈ kl ∧ g.b = 0 ∧ g.f = 0) ∧ Gates (fun b => H.length ≤ b) u q gs ∧ Sto N u s (k + 3000) ∧ Kp (fun b => b = s) H u := by
  have key : ACall (tab Tryd.prog) 21 [.pointer (some ⟨s, 0, none⟩), .int .i64 w, .int .i64 mo, .slice pk.1 kl.length pk.2] H fun v u => ∃ (gs : List G) (q : Pl), v = cv ⟨w, 0, gs⟩ q ∧ ((gs.length : Int) ≤ mo ∧ ∀ g ∈ gs, cgM g w 0 = 0 ∧ g.k ∈ kl ∧ g.b = 0 ∧ g.f = 0) ∧ Gates (fun b => H.length ≤ b) u q gs ∧ Sto N u s (k + 3000) ∧ Kp (fun b => b = s) H u := by
    have kqH : Kp (fun b => b = s) H H := ⟨Nat.le_refl _, fun _ _ _ => rfl⟩
    have soH := hs
    have hsN := hs.1
    have hNH := hs.2.1
    refine ACall_ownR k221 rfl ?_
    refine AX_seq (AX_E (E_new (E_nil (AX_seq (AX_E (E_mv (v := .int .i64 (w)) rfl (E_mk (cs := [.int .i64 (w), .int .i64 (0), .slice none 0 0]) rfl (E_new (E_stO (k := 1) rfl rfl (v := .agg _) rfl rfl rfl rfl (E_nil (AX_seq (AX_seq (AX_E (E_mv (v := .pointer (some ⟨s, 0, none⟩)) rfl (E_mv (v := .int .i64 (mo)) rfl (E_addI rfl rfl (by first | omega | (simp; done) | (simp; omega)) (by first | omega | (simp; done) | (simp; omega)) ?_))))))))))))))))
    obtain ⟨K1, hK1⟩ : ∃ K : Heap, K = H ++ ([CO.row [.int .i64 (0), .int .i64 (0), .slice none 0 0] true none, CO.row [.int .i64 (w), .int .i64 (0), .slice none 0 0] true none] ++ []) := ⟨_, rfl⟩
    have lK1 : H.length + 2 ≤ K1.length := by rw [hK1]; simp only [List.length_append, List.length_cons, List.length_nil]; omega
    have pK1 : H <+: K1 := by rw [hK1]; exact List.prefix_append _ _
    have soK1 : Sto N K1 s (k) := soH.kp (S := fun _ => False) (by rw [hK1]; exact Kp.app) (fun b _ h => h)
    have kqK1 : Kp (fun b => b = s) H K1 := kqH.trans (S' := fun _ => False) (by rw [hK1]; exact Kp.app) (fun _ _ x => x) (fun _ _ x => x.elim)
    obtain ⟨r15, U15, hr15, hb15, soU15, kpU15, luU15⟩ := less_ret N K1 s k (mo + 1) soK1 (by omega) (by omega)
    have kqU15 : Kp (fun b => b = s) H U15 := kqK1.trans kpU15 (fun _ _ x => x) (fun _ _ x => x)
    have leU15 : K1.length ≤ U15.length := kpU15.len
    have lhU15 : H.length ≤ U15.length := kqU15.len
    have fk2 : Ints (fun b => (b < N ∧ b ≠ s)) U15 (pk) (kl) := kpU15.ii (hkl.lift hK1) (fun b hb => ⟨trivial, fun e => by have h : (b < N ∧ b ≠ s) := hb; have e1 : (b = s) := e; omega⟩)
    have rw3 : U15[(H).length + 0]? = some (CO.row [.int .i64 (0), .int .i64 (0), .slice none 0 0] true none) := kpU15.row (get_own hK1 (k := 0) rfl) (by show ¬ ((H).length + 0 = s); omega)
    have rw4 : U15[(H).length + 1]? = some (CO.row [.int .i64 (w), .int .i64 (0), .slice none 0 0] true none) := kpU15.row (get_own hK1 (k := 1) rfl) (by show ¬ ((H).length + 1 = s); omega)
    refine E_hp (h' := K1 ++ []) (((List.append_nil _).symm.trans (congrArg (fun x : Heap => (H ++ x) ++ []) (List.append_nil _).symm)).trans (congrArg (fun x : Heap => x ++ []) hK1.symm)) (E_callU rfl hr15 rfl (E_mv (v := .int .i64 (0)) rfl (E_nil (AX_block ?_))))
    refine AX_loopF (γ := Nat × List G × Pl) (fun x => [(0, .pointer (some ⟨s, 0, none⟩)), (1, .int .i64 (w)), (3, .slice (pk).1 (kl).length (pk).2), (8, .pointer (some ⟨H.length + 0, 0, none⟩)), (9, .pointer (some ⟨H.length + 1, 0, none⟩)), (15, .int .i64 ((r15 : Int))), (16, .int .i64 ((x.1 : Int)))]) (fun x h_ m_ => (m_ = [] ∧ Kp (fun b => b = s) H h_ ∧ Sto N h_ s (k + 1 + 20 * x.1) ∧ OwnG h_ (H.length + 2) x.2.2 x.2.1 ∧ h_[H.length + 0]? = some (CO.row [.int .i64 (0), .int .i64 (0), .slice none 0 0] true none) ∧ h_[H.length + 1]? = some (CO.row [.int .i64 (w), .int .i64 (0), .slice (x.2.2).1 (x.2.1).length (x.2.2).2] true none)) ∧ (x.2.1).length = x.1 ∧ x.1 ≤ r15 ∧ ∀ g ∈ (x.2.1), cgM g w 0 = 0 ∧ g.k ∈ kl ∧ g.b = 0 ∧ g.f = 0) (fun x => r15 - x.1) (0, [], (none, 0)) ⟨rfl, rfl, rfl, rfl, rfl, rfl, rfl, trivial⟩ ⟨?_, ?_⟩ ?_
    · rw [List.append_nil]
      exact ⟨rfl, kqU15, soU15, OwnG.nil, rw3, rw4⟩
    · exact ⟨rfl, by omega, fun g h => by simp at h⟩
    rintro ⟨i, gs, p⟩ fr0 KH0 mk0 ⟨hI0, inv0⟩ Kk0 hN0 hR0 hE0
    try dsimp only at hI0 inv0
    obtain ⟨rfl, kq0, so0, og0, rz0, rw0⟩ := hI0
    obtain ⟨hl0, hi0, hg0⟩ := inv0
    have kqKH0 := kq0
    have soKH0 := so0
    have lH0 := kq0.len
    have fkl0 : Ints (fun b => b < N ∧ b ≠ s) KH0 pk kl := kq0.ii hkl (fun b hb => ⟨trivial, hb.2⟩)
    have lz0 := (List.getElem?_eq_some_iff.1 rw0).1
    refine AX_nil ?_
    refine AX_seq (AX_E (E_lssS rfl rfl (fun c17 => ?_) (fun c17 => ?_)))
    · refine E_nil (AX_seq (AX_condT rfl (AX_skip (AX_seq (AX_block (AX_EB (fun b => b = s) (E_fa rfl (E_ldX (v := .slice _ _ _) rfl (rowGet_c (j := 2) (rowGet_all rw0 rfl) rfl) (by show ¬ H.length + 1 = s; omega) (E_mv (v := .pointer (some ⟨s, 0, none⟩)) rfl (E_mv (v := .int .i64 (w)) rfl (E_mv (v := .slice _ _ _) rfl ?_)))))))))))
      obtain ⟨g23, q23, U23, hr23, hb23, ii23, soU23, kp23⟩ := sgate_ret N KH0 s (k + 1 + 20 * i) w pk kl so0 (by omega) hw fkl0 hne hkk h1
      have kqU23 : Kp (fun b => b = s) H U23 := kq0.trans kp23 (fun _ _ x => x) (fun _ _ x => x)
      have l23 := kp23.len
      refine E_callUP (by decide) rfl hr23 kp23 (E_mkS (cs := [.int .i64 (g23.k), .slice (q23).1 (g23.ws).length (q23).2, .int .i64 (g23.b), .int .i64 (g23.f)]) rfl ?_)
      obtain ⟨U3, hK3⟩ : ∃ K : Heap, K = U23 ++ [CO.row [.int .i64 (g23.k), .slice (q23).1 (g23.ws).length (q23).2, .int .i64 (g23.b), .int .i64 (g23.f)] true none] := ⟨_, rfl⟩
      have l3 : U3.length = U23.length + 1 := by rw [hK3]; simp
      have k3 : Kp (fun _ => False) U23 U3 := by rw [hK3]; exact Kp.app
      have og3 : OwnG U3 (H.length + 2) p gs := (og0.kp kp23 (fun b hb e => by omega)).kp k3 (fun _ _ x => x)
      obtain ⟨ps, ep, gg3, pp3, ii3⟩ := og3
      have iq3 : Ints (fun c => KH0.length ≤ c) U3 q23 g23.ws := k3.ii ii23 (fun _ _ => ⟨trivial, fun x => x⟩)
      refine E_hp (h' := U3) hK3.symm (E_appK (k := gs.length) (kx := 1) (p := p) (new := gcells g23 q23) gg3 rfl rfl (by rw [hK3]; show (if 1 * 4 = 0 then some [] else rowGet _ ⟨_, _, none⟩ (1 * 4)) = _; exact rowGet_own (k := 0) rfl) (by decide) (by simp only [roomB]; omega) rfl rfl rfl fun U4 hl4 hg4 hk4 => ?_)
      have og4 : OwnG U4 (H.length + 2) (some ⟨U3.length, 0, none⟩, (gs ++ [g23]).length) (gs ++ [g23]) := OwnG.add (M := KH0.length) (by omega) ⟨ps, ep, gg3, pp3, ii3⟩ iq3 (ownG_lt og0) (by omega) ps ep ii3 hg4 hk4
      have k4 : ∀ b, b < U3.length → b < H.length + 2 → U4[b]? = U3[b]? := fun b hb hb2 => hk4 b hb fun a ha e => by have := pp3 a ha; omega
      have rz4 := (k4 (H.length + 0) (by omega) (by omega)).trans (k3.row (kp23.row rz0 (by show ¬ H.length + 0 = s; omega)) (fun x => x))
      have rw4 := (k4 (H.length + 1) (by omega) (by omega)).trans (k3.row (kp23.row rw0 (by show ¬ H.length + 1 = s; omega)) (fun x => x))
      have kp4 : Kp (fun b => H.length + 2 ≤ b) U23 U4 := ⟨by omega, fun b hb hn => (k4 b (by omega) (by omega)).trans (k3.keep b hb (fun x => x))⟩
      refine E_fa rfl (E_stX (b := H.length + 1) (o := 0 + 2) (l := [.slice (some ⟨U3.length, 0, none⟩) (gs.length + 1) (gs.length + 1)]) (v := .slice _ _ _) rfl rfl rfl rfl ((congrArg (fun h : Heap => h[H.length + 1]?) (List.append_nil _)).trans rw4) (by simp) rfl rfl fun V eV => ?_)
      have eV2 : V = U4.set (H.length + 1) (CO.row [.int .i64 (w), .int .i64 (0), .slice (((some ⟨U3.length, 0, none⟩, (gs ++ [g23]).length) : Pl)).1 (gs ++ [g23]).length (((some ⟨U3.length, 0, none⟩, (gs ++ [g23]).length) : Pl)).2] true none) := by rw [eV, List.append_nil]; simp
      have kpV : Kp (fun b => b = H.length + 1) U4 V := by rw [eV2]; exact Kp.set
      have kqV : Kp (fun b => b = s) H V := (kqU23.trans (kp4.trans (S'' := fun b => H.length ≤ b) kpV (fun b _ (x : _ ≤ _) => by omega) (fun b _ (x : _ = _) => by omega)) (fun _ _ x => x) (fun b hb (x : _ ≤ _) => by omega))
      have soV : Sto N V s (k + 1 + 20 * (i + 1)) := ((soU23.kp kp4 (fun b hb (x : _ ≤ _) => by omega)).kp kpV (fun b hb (x : _ = _) => by omega)).mono (by omega)
      have ogV := og4.kp kpV (fun b hb (x : _ = _) => by omega)
      have rzV := kpV.row rz4 (by show ¬ H.length + 0 = H.length + 1; omega)
      have rwV : V[H.length + 1]? = some (CO.row [.int .i64 (w), .int .i64 (0), .slice (((some ⟨U3.length, 0, none⟩, (gs ++ [g23]).length) : Pl)).1 (gs ++ [g23]).length (((some ⟨U3.length, 0, none⟩, (gs ++ [g23]).length) : Pl)).2] true none) := by rw [eV2, List.getElem?_set_self (List.getElem?_eq_some_iff.1 rw4).1]
      refine E_nil (AX_E (E_addI rfl rfl (by first | omega | (simp; done) | (simp; omega)) (by first | omega | (simp; done) | (simp; omega)) (E_mv (v := .int .i64 (((i : Int) + 1))) rfl (E_nil ?_))))
      refine hN0 (i + 1, gs ++ [g23], (some ⟨U3.length, 0, none⟩, (gs ++ [g23]).length)) _ _ _ ⟨by first | rfl | (congr 1; omega), by first | rfl | (congr 1; omega), by first | rfl | (congr 1; omega), by rfl, by rfl, by first | rfl | (congr 1; omega), by rfl, trivial⟩ ⟨?_, ?_⟩ ?_
      all_goals clear hN0 hR0 hE0
      · rw [List.append_nil]
        exact ⟨rfl, kqV, soV, ogV, rzV, rwV⟩
      · refine ⟨by simp; omega, by omega, fun x hx => ?_⟩
        rcases List.mem_append.1 hx with hx | hx
        · exact hg0 x hx
        · simp at hx; subst hx; exact hb23
      · (first | omega | (simp; omega))
    · refine E_nil (AX_seq (AX_condF rfl (AX_exit (hE0 _ _ _ _ (AX_seq (AX_E (E_ldBN rfl (rowGet_all rw0 rfl) (E_stX (l := [.int .i64 (w), .int .i64 (0), .slice (p).1 (gs).length (p).2]) (v := .agg _) rfl rfl rfl rfl ((congrArg (fun h : Heap => h[H.length + 0]?) (List.append_nil _)).trans (rz0)) (by simp) rfl rfl fun V5 hV5 => ?_))))))))
      have eV5 : V5 = KH0.set (H.length + 0) (CO.row [.int .i64 (w), .int .i64 (0), .slice (p).1 (gs).length (p).2] true none) := by rw [hV5, List.append_nil]; rfl
      have kpV5 : Kp (fun b => b = H.length + 0) KH0 V5 := by rw [eV5]; exact Kp.set
      have kqV5 : Kp (fun b => b = s) H V5 := kqKH0.trans kpV5 (fun _ _ x => x) (fun b hb x => by omega)
      have soV5 : Sto N V5 s ((k + 1 + 20 * i)) := soKH0.kp kpV5 (fun b hb x => by omega)
      have leV5 : V5.length = KH0.length := by rw [eV5]; exact List.length_set
      have ltV5 : H.length + 0 < KH0.length := (List.getElem?_eq_some_iff.1 (rz0)).1
      have fk6 : Ints (fun b => (b < N ∧ b ≠ s)) V5 (pk) (kl) := kpV5.ii fkl0 (fun b hb => ⟨trivial, fun e => by have h : (b < N ∧ b ≠ s) := hb; have e1 : (b = H.length + 0) := e; omega⟩)
      have rw7 : V5[H.length + 0]? = some (CO.row [.int .i64 (w), .int .i64 (0), .slice (p).1 (gs).length (p).2] true none) := by rw [eV5, List.getElem?_set_self ltV5]
      have rw8 : V5[H.length + 1]? = some (CO.row [.int .i64 (w), .int .i64 (0), .slice (p).1 (gs).length (p).2] true none) := kpV5.row rw0 (by show ¬ (H.length + 1 = H.length + 0); omega)
      refine E_nil (AX_ret ?_)
      simp only [List.append_nil, List.foldl_nil]
      refine ⟨_, res_x rfl rw7 rfl, by simp, ?_⟩
      have ogE := og0.kp kpV5 (fun b hb (x : _ = _) => by omega)
      refine ⟨gs, p, rfl, ⟨by omega, hg0⟩, ?_⟩
      unfold forget
      split
      · rename_i hf
        have hn : gs = [] ∧ p = (none, 0) := ownG_flat og0 hf.1
        rw [hn.1, hn.2]
        exact ⟨Gates.nil, (soV5.pre hf.2 hNH).mono (by omega), kqH⟩
      · refine ⟨?_, soV5.mono (by omega), kqV5⟩
        obtain ⟨ps, e, a, b⟩ := ogE.gates
        exact ⟨ps, e, Cells.congr a (fun b hb => by have : H.length + 2 ≤ b := hb; omega) (fun _ _ _ => rfl), fun i h1 h2 => Cells.congr (b i h1 h2) (fun b hb => by have : H.length + 2 ≤ b := hb; omega) (fun _ _ _ => rfl)⟩
  obtain ⟨n, v, u, hr, g, q, rfl, h⟩ := key
  exact ⟨g, q, u, ⟨n, hr⟩, h⟩
end Go.Canon
