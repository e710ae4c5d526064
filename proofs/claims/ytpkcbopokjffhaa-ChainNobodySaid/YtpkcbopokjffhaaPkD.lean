/-
  Our own texts, one behind the other: GkHD.
-/
import Derived.Test.YtpkcbopokjffhaaPkC
section
namespace Go.Gk.Chn
open Go Go.Gk Go.Gk.Dev Go.Gk.Cch Go.Gk.Pgr Go.Gk.Node
attribute [local irreducible] gwp gws xwp
def Nob (d : PHeap) (v : Value) : Prop := v = .pointer none ∨ ∃ b, v = .pointer (some ⟨b, 0, none⟩) ∧ DC d b 0 (.pointer none)
def NNoneOk (P : Program) (f : FuncId) : Prop := ∀ {d : PHeap} {v : Value}, Nob d v → GPure P f [v] d (.bool true)
theorem nnone_ok {P : Program} {f : FuncId} (hd : dec P f = some g_pager_Pager_none) : NNoneOk P f := by
  intro d v h
  refine GCall_of hd (Nat.le_of_ble_eq_true rfl) ?_
  rcases h with rfl | ⟨b, rfl, hb⟩
  · show gwp P _ _ _ _ _
    (apply w_sq; apply w_reg; apply w_mvb; rfl; apply w_done0; apply w_sq; apply w_reg; apply w_mvp; rfl; apply w_eqpN; rfl; rfl; apply w_mvb; rfl; apply w_gF; rfl; apply w_gF; rfl; apply w_gF; rfl; apply w_gF; rfl; apply w_gF; rfl; apply w_pickTb; rfl; rfl; apply w_mvb; rfl; apply w_done0; apply w_ret)
    (apply finPb; rfl)
    rfl
  · show gwp P _ _ _ _ _
    (apply w_sq; apply w_reg; apply w_mvb; rfl; apply w_done0; apply w_sq; apply w_reg; apply w_mvp; rfl; apply w_eqpS; rfl; rfl; apply w_mvb; rfl; apply w_gT; rfl; apply w_mvp; rfl; apply w_gT; rfl; apply w_nilc; rfl; apply w_gT; rfl; apply w_fld; rfl; apply w_gT; rfl; apply w_ld; rfl; exact hc_d (by assumption); apply w_gT; rfl; apply w_eqpN; rfl; rfl; apply w_pickFb; rfl; rfl; apply w_mvb; rfl; apply w_done0; apply w_ret)
    (apply finPb; rfl)
    rfl
def NTakeOk (P : Program) (f : FuncId) : Prop := ∀ {d : PHeap} {v : Value}, Nob d v → GPure P f [v] d (.tuple #[.int .i64 0, .int .i64 1])
def NGetOk (P : Program) (f : FuncId) : Prop := ∀ {d : PHeap} {v : Value} {k : Int}, Nob d v → GPure P f [v, .int .i64 k] d (.tuple #[.slice none 0 0, .int .i64 1])
theorem ntake_ok {P : Program} {f f1 f2 : FuncId} (hd : dec P f = some (g_pager_Pager_Take f1 f2)) (h1 : NNoneOk P f1) : NTakeOk P f := by
  intro d v h
  refine GCall_of hd (Nat.le_of_ble_eq_true rfl) ?_
  show gwp P _ _ _ _ _
  (apply w_sq; apply w_reg; apply w_mvi; rfl; apply w_mvi; rfl; apply w_done0; apply w_sq; apply w_sq; apply w_reg; apply w_mv)
  refine w_pure rfl (h1 h) ?_
  (apply w_done0; apply w_ifT; rfl; apply w_sq; apply w_reg; apply w_mvi; rfl; apply w_mvi; rfl; apply w_done0; apply w_ret)
  apply finPv2 <;> rfl
theorem nget_ok {P : Program} {f f1 f2 f3 f4 f5 : FuncId} (hd : dec P f = some (g_pager_Pager_Get f1 f2 f3 f4 f5)) (h1 : NNoneOk P f1) : NGetOk P f := by
  intro d v k h
  refine GCall_of hd (Nat.le_of_ble_eq_true rfl) ?_
  show gwp P _ _ _ _ _
  (apply w_sq; apply w_reg; apply w_mvs; rfl; apply w_mvi; rfl; apply w_done0; apply w_sq; apply w_sq; apply w_reg; apply w_mv)
  refine w_pure rfl (h1 h) ?_
  (apply w_done0; apply w_ifT; rfl; apply w_sq; apply w_reg; apply w_mvs; rfl; apply w_mvi; rfl; apply w_done0; apply w_ret)
  apply finPv2 <;> rfl
def NTakenOk (P : Program) (f : FuncId) : Prop := ∀ {d : PHeap} {v : Value} {n : Nat}, Nob d v → 1 ≤ n → n ≤ 8192 → GPure P f [v, .int .i64 n] d (.tuple #[.slice none 0 0, .int .i64 1])
def NTkClOk (P : Program) (f : FuncId) : Prop := ∃ f3, dec P f = some (g_chain_taken_1 f3)
theorem ntkcl_ok {P : Program} {f f3 : FuncId} (hd : dec P f = some (g_chain_taken_1 f3)) : NTkClOk P f := ⟨f3, hd⟩
set_option maxRecDepth 4000 in
set_option maxHeartbeats 1000000 in
theorem ntaken_ok {P : Program} {f f1 f2 : FuncId} (hd : decD false P f = some (g_chain_taken f1 f2)) (h0 : NTkClOk P f1) (h1 : NTakeOk P f2) : NTakenOk P f := by
  obtain ⟨f3, hv⟩ := h0
  intro d pv n hp hn1 hn
  refine GCallN_of hd hv rfl (Nat.le_of_ble_eq_true rfl) (Nat.le_of_ble_eq_true rfl) ?_
  show gwp P _ _ _ _ _
  (apply w_reg)
  refine w_box rfl (fun b2 T2 => ?_)
  refine w_alo (fun b4 T4 => ?_)
  refine w_alo (fun b5 T5 => ?_)
  obtain ⟨pp, rfl⟩ : ∃ pp, pv = .pointer pp := by rcases hp with rfl | ⟨b, rfl, -⟩ <;> exact ⟨_, rfl⟩
  refine w_doneE ⟨d, bx b5 T5 [.int .i64 0] :: bx b4 T4 [.slice none 0 0] :: bx b2 T2 [.pointer pp] :: [], Vs.refl _ _, ?_⟩
  show gwp P _ _ _ _ _
  (apply w_sq; apply w_sq; apply w_reg; apply w_mvi; rfl; apply w_mvi; rfl; apply w_done0; apply w_block)
  refine w_loopS (α := Unit) (fun x => [(2, .pointer (some ⟨b2, 0, none⟩)), (4, .pointer (some ⟨b4, 0, none⟩)), (5, .pointer (some ⟨b5, 0, none⟩)), (9, .int .i64 n), (10, .int .i64 0)])
    (fun x d' L' => d = d' ∧ L' = bx b5 T5 [.int .i64 0] :: bx b4 T4 [.slice none 0 0] :: bx b2 T2 [.pointer pp] :: []) (fun x => 0) () ⟨rfl, rfl, rfl, rfl, rfl, trivial⟩ ⟨rfl, rfl⟩ ?_
  rintro - ρ d' L' ⟨rfl, rfl⟩
  have h0n : (0 : Int) < n := by omega
  (apply w_sq; apply w_reg; apply w_lss; rfl; rfl; apply w_done0; apply w_sq; refine w_ifdT rfl (by omega) ?_; apply w_skip; apply w_sq; apply w_block; apply w_sq; apply w_reg; apply w_ld; rfl; exact hc_i 2 rfl rfl)
  refine w_pure rfl (h1 hp) ?_
  (apply w_mvu; rfl; apply w_ext; rfl; rfl; apply w_ext; rfl; rfl; apply w_mvi; rfl; apply w_mvi; rfl; apply w_done0; apply w_sq; apply w_sq; apply w_reg; apply w_mvi; rfl; apply w_neq; rfl; rfl; apply w_done0; refine w_ifdT rfl (by omega) ?_; apply w_sq; apply w_reg; apply w_ld; rfl; exact hc_i 1 rfl rfl; apply w_mvi; rfl)
  refine w_stE 1 [.slice none 0 0] rfl rfl rfl rfl (Nat.le_refl _) rfl rfl ?_
  refine w_stE 0 [.int .i64 1] rfl rfl rfl rfl (Nat.le_refl _) rfl rfl ?_
  (apply w_done0; apply w_ret; apply w_sq; apply w_reg; apply w_ld; rfl; exact hc_i 0 rfl rfl; apply w_neq; rfl; rfl; apply w_done0; refine w_ifdT rfl (by omega) ?_; apply w_sq; apply w_sq; apply w_reg; apply w_ld; rfl; exact hc_i 1 rfl rfl; apply w_len; rfl; apply w_mvi; rfl; apply w_done0; apply w_block)
  show gwp P _ _ _ _ _
  skip
  refine w_loopS (α := Unit) (fun x => [(1, .pointer (some ⟨b4, 0, none⟩)), (7, .slice none 0 0), (8, .int .i64 0), (9, .int .i64 0)])
    (fun x d' L' => d = d' ∧ L' = bx b5 T5 [.int .i64 1] :: bx b4 T4 [.slice none 0 0] :: bx b2 T2 [.pointer pp] :: []) (fun x => 0) () ⟨rfl, rfl, rfl, rfl, trivial⟩ ⟨rfl, rfl⟩ ?_
  rintro - ρ d' L' ⟨rfl, rfl⟩
  (apply w_sq; apply w_reg; apply w_lss; rfl; rfl; apply w_done0; apply w_sq; refine w_ifdF rfl (by omega) ?_; apply w_exit; apply w_reg)
  refine w_stE 1 [.slice none 0 0] rfl rfl rfl rfl (Nat.le_refl _) rfl rfl ?_
  (apply w_done0)
  exact finV [.slice none 0 0, .int .i64 1] ⟨⟨_, _, rfl, hc_i 1 rfl rfl⟩, ⟨_, _, rfl, hc_i 0 rfl rfl⟩, trivial⟩ (d' := d) (L' := []) (Vs.drop (List.nil_sublist _)) ⟨rfl, rfl, rfl⟩
def NPutOk (P : Program) (f : FuncId) : Prop := ∀ {d : PHeap} {v bv : Value} {b : List UInt8}, Nob d v → RBytes d bv b → b.length ≤ 16384 → GPure P f [v, bv] d (.tuple #[.int .i64 0, .int .i64 1])
theorem nput_ok {P : Program} {f f1 f2 f3 : FuncId} (hd : dec P f = some (g_chain_Put f1 f2 f3)) (h1 : PagesOk P f1) (h2 : NTakenOk P f2) : NPutOk P f := by
  intro d pv bv b hp hb hbl
  obtain ⟨pp, rfl⟩ : ∃ pp, pv = .pointer pp := by rcases hp with rfl | ⟨b, rfl, -⟩ <;> exact ⟨_, rfl⟩
  obtain ⟨ba, bc, rfl⟩ := RSl.val hb
  refine GCall_of hd (Nat.le_of_ble_eq_true rfl) ?_
  have hpo : 1 ≤ pagesN b.length := by unfold pagesN; omega
  have hpn : pagesN b.length ≤ 8192 := by unfold pagesN; omega
  show gwp P _ _ _ _ _
  (apply w_sq; apply w_reg; apply w_mvi; rfl; apply w_mvi; rfl; apply w_done0; apply w_sq; apply w_sq; apply w_reg; apply w_mvs; rfl; apply w_len; rfl; apply w_gtr; rfl; rfl; apply w_done0; refine w_ifdF rfl (by omega) ?_; apply w_skip; apply w_sq; apply w_reg; apply w_mvp; rfl; apply w_mvs; rfl; apply w_len; rfl)
  refine w_pure rfl (h1 (n := b.length) (by omega)) ?_
  skip
  refine w_pure rfl (h2 (n := pagesN b.length) hp hpo hpn) ?_
  (apply w_mvu; rfl; apply w_ext; rfl; rfl; apply w_ext; rfl; rfl; apply w_mvs; rfl; apply w_mvi; rfl; apply w_done0; apply w_sq; apply w_sq; apply w_reg; apply w_mvi; rfl; apply w_neq; rfl; rfl; apply w_done0; refine w_ifdT rfl (by omega) ?_; apply w_sq; apply w_reg; apply w_mvi; rfl; apply w_mvi; rfl; apply w_mvi; rfl; apply w_done0; apply w_ret)
  apply finPv2 <;> rfl
theorem npages1_ok {P : Program} {f f1 f2 : FuncId} (hd : decx true false P f = some (g_chain_pages_1 f1 f2)) (h1 : PagesOk P f1) (h2 : NGetOk P f2) {pv : Value} {bz bq bh l n : Nat} {Th : TypeId} {h : Int} {rc : Loop} (Jf : Loop → PHeap → List PHeap → Prop) {d : PHeap} {E : List PHeap}
    (hp : Nob d pv) (hz : DC d bz 0 (.int .i64 n)) (hq : DC d bq 0 pv) (hn : n ≤ 16384)
    (hdead : GYield P l [.int .i64 (-1), .slice none 0 0] d (sg l (.loop rc) :: E) (fun u d' L' => u = .bool false ∧ ∃ rc' E', L' = sg l (.loop rc') :: E' ∧ Jf rc' d' E')) :
    GCall P f [.func (.yield l) #[] #[], .pointer (some ⟨bz, 0, none⟩), .pointer (some ⟨bq, 0, none⟩), .pointer (some ⟨bh, 0, none⟩)] d (bx bh Th [.int .i64 h] :: (sg l (.loop rc) :: E))
      (Ret fun u d' L' => ∃ E' rc', L' = sg l (.loop rc') :: E' ∧ Jf rc' d' E') := by
  obtain ⟨pp, rfl⟩ : ∃ pp, pv = .pointer pp := by rcases hp with rfl | ⟨b, rfl, -⟩ <;> exact ⟨_, rfl⟩
  have hpo : 1 ≤ pagesN n := by unfold pagesN; omega
  have hpn : pagesN n ≤ 8192 := by unfold pagesN; omega
  refine GCallX_of hd (Nat.le_of_ble_eq_true rfl) ?_
  show xwp P _ _ _ _ _
  (apply x_sq; apply x_g; apply w_reg; apply w_ld; rfl; exact hc_d (by assumption))
  refine w_pure rfl (h1 (n := n) (by omega)) ?_
  (apply w_mvi; rfl; apply w_done0; apply x_block)
  refine x_loopS (α := Unit) (fun x => [(0, .func (.yield l) #[] #[]), (2, .pointer (some ⟨bq, 0, none⟩)), (3, .pointer (some ⟨bh, 0, none⟩)), (8, .int .i64 (pagesN n)), (9, .int .i64 0)])
    (fun x d' L' => d = d' ∧ L' = bx bh Th [.int .i64 h] :: (sg l (.loop rc) :: E)) (fun x => 0) () ⟨rfl, rfl, rfl, rfl, rfl, trivial⟩ ⟨rfl, rfl⟩ ?_
  rintro - ρ d' L' ⟨rfl, rfl⟩
  have h0n : (0 : Int) < pagesN n := by omega
  (apply x_sq; apply x_g; apply w_reg; apply w_lss; rfl; rfl; apply w_done0; apply x_sq; apply x_g; refine w_ifdT rfl (by omega) ?_; apply w_skip; apply x_sq; apply x_block; apply x_sq; apply x_g; apply w_reg; apply w_ld; rfl; exact hc_d (by assumption); apply w_ld; rfl; exact hc_i 0 rfl rfl)
  refine w_vs d ((sg l (.loop rc) :: E) ++ [bx bh Th [.int .i64 h]]) (Vs.perm (List.perm_append_comm (l₁ := [bx bh Th [.int .i64 h]]))) ?_
  refine w_pure rfl (h2 (k := h) hp) ?_
  (apply w_mvu; rfl; apply w_ext; rfl; rfl; apply w_ext; rfl; rfl; apply w_mvs; rfl; apply w_mvi; rfl; apply w_done0; apply x_sq; apply x_sq; apply x_g; apply w_reg; apply w_mvi; rfl; apply w_neq; rfl; rfl; apply w_done0; apply x_ifT; rfl; apply x_sq; apply x_yl; apply w_mvf; rfl; apply w_mvi; rfl; apply w_neg; rfl; omega; omega; apply w_done0)
  refine x_yield _ _ rfl rfl rfl hdead (fun u d8 L8 hl8 hr8 => ?_)
  obtain ⟨rfl, rc8, E8, rfl, hJ8⟩ := hr8
  (apply w_done0; apply x_g; apply w_ret)
  exact finV [] trivial (d' := d8) (L' := sg l (.loop rc8) :: E8) (Vs.drop (List.sublist_append_left _ _)) ⟨E8, rc8, rfl, hJ8⟩
def NCPagesOk (P : Program) (f : FuncId) : Prop := ∃ f1 f2 f3, decx true false P f = some (g_chain_pages f1) ∧ decx true false P f1 = some (g_chain_pages_1 f2 f3) ∧ PagesOk P f2 ∧ NGetOk P f3
def NP1Ok (P : Program) (f : FuncId) : Prop := ∃ f2 f3, decx true false P f = some (g_chain_pages_1 f2 f3) ∧ PagesOk P f2 ∧ NGetOk P f3
theorem np1_ok {P : Program} {f f2 f3 : FuncId} (hd : decx true false P f = some (g_chain_pages_1 f2 f3)) (h1 : PagesOk P f2) (h2 : NGetOk P f3) : NP1Ok P f := ⟨f2, f3, hd, h1, h2⟩
theorem npages_fn {P : Program} {f f1 : FuncId} (hd : decx true false P f = some (g_chain_pages f1)) {d : PHeap} {pp : Option Addr} {h n : Int} : GCall P f [.pointer pp, .int .i64 h, .int .i64 n] d [] (Ret fun r d' L' => ∃ bz bq bh Th, r = .func (.func f1) #[] #[.pointer (some ⟨bz, 0, none⟩), .pointer (some ⟨bq, 0, none⟩), .pointer (some ⟨bh, 0, none⟩)] ∧
    DC d' bz 0 (.int .i64 n) ∧ DC d' bq 0 (.pointer pp) ∧ L' = [bx bh Th [.int .i64 h]]) := by
  refine GCallX_of hd (Nat.le_of_ble_eq_true rfl) ?_
  show xwp P _ _ _ _ _
  (apply x_g; apply w_sq; apply w_reg)
  refine w_box rfl (fun bq Tq => ?_)
  refine w_box rfl (fun bh Th => ?_)
  refine w_box rfl (fun bz Tz => ?_)
  (apply w_mv; apply w_done0; apply w_sq; apply w_reg; apply w_mkf; apply w_mvf; rfl; apply w_done0; apply w_ret)
  exact finV [.func (.func f1) #[] #[.pointer (some ⟨bz, 0, none⟩), .pointer (some ⟨bq, 0, none⟩), .pointer (some ⟨bh, 0, none⟩)]] ⟨rfl, trivial⟩ (d' := join (join d (bx bz Tz [.int .i64 n])) (bx bq Tq [.pointer pp])) (L' := [bx bh Th [.int .i64 h]])
    ((Vs.perm (List.Perm.cons _ (List.Perm.swap _ _ _))).trans (Vs.freeze.trans Vs.freeze)) ⟨bz, bq, bh, Th, rfl, (Le.dcs ((Le.join_right _ _).trans (Le.join_left _ _))).at (i := 0) rfl, (Le.dcs (Le.join_right _ _)).at (i := 0) rfl, rfl⟩
theorem ncpages_ok {P : Program} {f f1 : FuncId} (hd : decx true false P f = some (g_chain_pages f1)) (h : NP1Ok P f1) : NCPagesOk P f := let ⟨f2, f3, h1, h2, h3⟩ := h; ⟨f1, f2, f3, hd, h1, h2, h3⟩
theorem Nob.mono {d d' : PHeap} {v : Value} (h : Nob d v) (hl : Le d d') : Nob d' v := h.imp id fun ⟨b, e, hb⟩ => ⟨b, e, hb.mono hl⟩
def NReadOk (P : Program) (f : FuncId) : Prop := ∀ {d : PHeap} {v : Value} {k : Int} {n : Nat}, Nob d v → n ≤ 16384 →
  GCall P f [v, .int .i64 k, .int .i64 n] d [] (Ret fun r d' L' => r = .tuple #[.slice none 0 0, .slice none 0 0, .int .i64 1] ∧ L' = [])
def NRF (rc : Loop) (b6 b7 b8 : Nat) (T6 T7 T8 : TypeId) (rc' : Loop) (_ : PHeap) (E : List PHeap) : Prop :=
  rc' = { rc with state := .done, pending := some .ret } ∧ ∃ x y R, E = x :: y :: bx b8 T8 [.int .i64 1] :: bx b7 T7 [.slice none 0 0] :: bx b6 T6 [.slice none 0 0] :: R
set_option maxRecDepth 4000 in
set_option maxHeartbeats 2000000 in
theorem nread_ok {P : Program} {f f1 f2 : FuncId} (hd : decx false false P f = some (g_chain_read f1 f2)) (h1 : NCPagesOk P f1) (h2 : PagesOk P f2) : NReadOk P f := by
  obtain ⟨f3, f4, f5, g1, g2, g3, g4⟩ := h1
  intro d pv k n hp hn
  obtain ⟨pp, rfl⟩ : ∃ pp, pv = .pointer pp := by rcases hp with rfl | ⟨b, rfl, -⟩ <;> exact ⟨_, rfl⟩
  refine GCallX_of hd (Nat.le_of_ble_eq_true rfl) ?_
  show xwp P _ _ _ _ _
  (apply x_sq; apply x_g; apply w_reg)
  refine w_box rfl (fun b5 T5 => ?_)
  refine w_alo (fun b6 T6 => ?_)
  refine w_alo (fun b7 T7 => ?_)
  refine w_alo (fun b8 T8 => ?_)
  refine w_doneE ⟨d, bx b8 T8 [.int .i64 0] :: bx b7 T7 [.slice none 0 0] :: bx b6 T6 [.slice none 0 0] :: bx b5 T5 [.int .i64 n] :: [], Vs.refl _ _, ?_⟩
  (apply x_sq; apply x_g; apply w_sq; apply w_reg; apply w_ld; rfl; exact hc_i 3 rfl rfl; apply w_lss; rfl; rfl; apply w_mvb; rfl; refine w_gdF rfl (by omega) ?_; apply w_gT; rfl; apply w_ld; rfl; exact hc_i 3 rfl rfl; apply w_gT; rfl; apply w_gtr; rfl; rfl; apply w_pickFb; rfl; rfl; apply w_done0; refine w_ifdF rfl (by omega) ?_; apply w_skip; apply x_sq; apply x_g; apply w_reg; apply w_alo; intro _ _; apply w_done0; apply x_sq; apply x_g; apply w_reg; apply w_alo; intro _ _; apply w_done0; apply x_sq; apply x_sq; apply x_g; apply w_reg; apply w_mvp; rfl; apply w_mvi; rfl; apply w_ld; rfl; exact hc_i 5 rfl rfl)
  rename_i b9 T9 b10 T10
  refine w_callA (A := []) (B := [bx b10 T10 [.slice none 0 0], bx b9 T9 [.slice none 0 0], bx b8 T8 [.int .i64 0], bx b7 T7 [.slice none 0 0], bx b6 T6 [.slice none 0 0], bx b5 T5 [.int .i64 n]]) rfl rfl (npages_fn g1 (h := k) (n := n)) (fun u d1 L1 hl1 ⟨bz, bq, bh, Th, e1, hz, hq, e2⟩ => ?_)
  subst e1; subst e2
  (apply w_done0; apply x_block)
  refine x_rf rfl (fun l rc hrec hst hpd => ?_)
  refine GCall.reorder (L1 := bx bh Th [.int .i64 k] :: (sg l (.loop rc) :: [bx b10 T10 [.slice none 0 0], bx b9 T9 [.slice none 0 0], bx b8 T8 [.int .i64 0], bx b7 T7 [.slice none 0 0], bx b6 T6 [.slice none 0 0], bx b5 T5 [.int .i64 n]])) ?_ (GCall.monoR
    (npages1_ok g2 g3 g4 (rc := rc) (l := l) (NRF rc b6 b7 b8 T6 T7 T8) (hp.mono hl1) hz hq hn ?_) ?_)
  · exact List.Perm.swap _ _ _
  · refine gyield_of hrec hst rfl ?_
    (apply w_sq; apply w_reg; apply w_mvi; rfl; apply w_done0; apply w_reg; apply w_mvs; rfl; apply w_done0; apply w_block; apply w_sq; apply w_sq; apply w_reg; apply w_mvs; rfl; apply w_eqsN; rfl; rfl; apply w_done0; apply w_ifT; rfl; apply w_sq; apply w_reg; apply w_mvi; rfl; apply w_neg; rfl; omega; omega)
    refine w_stE 4 [.slice none 0 0] rfl rfl rfl rfl (Nat.le_refl _) rfl rfl ?_
    refine w_stE 3 [.slice none 0 0] rfl rfl rfl rfl (Nat.le_refl _) rfl rfl ?_
    refine w_stE 2 [.int .i64 1] rfl rfl rfl rfl (Nat.le_refl _) rfl rfl ?_
    (apply w_done0; apply w_ret)
    exact ⟨rfl, _, _, rfl, rfl, _, _, _, rfl⟩
  · rintro u d3 L3 hl3 ⟨E', rc', rfl, rfl, x, y, R, rfl⟩
    refine ⟨d3, _, Vs.refl _ _, _, _, rfl, ?_⟩
    refine ⟨(by intro q; cases q), ?_⟩
    exact finV [.slice none 0 0, .slice none 0 0, .int .i64 1] ⟨⟨_, _, rfl, hc_i 4 rfl rfl⟩, ⟨_, _, rfl, hc_i 3 rfl rfl⟩, ⟨_, _, rfl, hc_i 2 rfl rfl⟩, trivial⟩ (d' := d3) (L' := []) (Vs.drop (List.nil_sublist _)) ⟨rfl, rfl⟩
def NCGetOk (P : Program) (f : FuncId) : Prop := ∀ {d : PHeap} {v : Value} {k : Int} {n : Nat}, Nob d v → n ≤ 16384 →
  GCall P f [v, .int .i64 k, .int .i64 n] d [] (Ret fun r d' L' => r = .tuple #[.slice none 0 0, .int .i64 1] ∧ L' = [])
def NCDropOk (P : Program) (f : FuncId) : Prop := ∀ {d : PHeap} {v : Value} {k : Int} {n : Nat}, Nob d v → n ≤ 16384 →
  GCall P f [v, .int .i64 k, .int .i64 n] d [] (Ret fun r d' L' => r = .int .i64 1 ∧ L' = [])
theorem ncget_ok {P : Program} {f f1 : FuncId} (hd : dec P f = some (g_chain_Get f1)) (h1 : NReadOk P f1) : NCGetOk P f := by
  intro d pv k n hp hn
  refine GCall_of hd (Nat.le_of_ble_eq_true rfl) ?_
  show gwp P _ _ _ _ _
  (apply w_sq; apply w_reg; apply w_mvs; rfl; apply w_mvi; rfl; apply w_done0; apply w_sq; apply w_reg; apply w_mv; apply w_mvi; rfl; apply w_mvi; rfl)
  refine w_callO (h1 (k := k) (n := n) hp hn) rfl (fun u d2 L2 hl2 ⟨e1, e2⟩ => ?_)
  subst e1; subst e2
  (apply w_mvu; rfl; apply w_ext; rfl; rfl; apply w_ext; rfl; rfl; apply w_ext; rfl; rfl; apply w_mvs; rfl; apply w_mvs; rfl; apply w_mvi; rfl; apply w_done0; apply w_sq; apply w_reg; apply w_mvs; rfl; apply w_mvi; rfl; apply w_mvs; rfl; apply w_mvi; rfl; apply w_done0; apply w_ret)
  exact fin2 rfl rfl (List.Sublist.refl _) ⟨rfl, rfl⟩
def NCListOk (P : Program) (f : FuncId) : Prop := NCGetOk P f
theorem nclist_ok {P : Program} {f f1 : FuncId} (hd : dec P f = some (g_chain_List f1)) (h1 : NReadOk P f1) : NCListOk P f := by
  intro d pv k n hp hn
  refine GCall_of hd (Nat.le_of_ble_eq_true rfl) ?_
  show gwp P _ _ _ _ _
  (apply w_sq; apply w_reg; apply w_mvs; rfl; apply w_mvi; rfl; apply w_done0; apply w_sq; apply w_reg; apply w_mv; apply w_mvi; rfl; apply w_mvi; rfl)
  refine w_callO (h1 (k := k) (n := n) hp hn) rfl (fun u d2 L2 hl2 ⟨e1, e2⟩ => ?_)
  subst e1; subst e2
  (apply w_mvu; rfl; apply w_ext; rfl; rfl; apply w_ext; rfl; rfl; apply w_ext; rfl; rfl; apply w_mvs; rfl; apply w_mvs; rfl; apply w_mvi; rfl; apply w_done0; apply w_sq; apply w_reg; apply w_mvs; rfl; apply w_mvi; rfl; apply w_mvs; rfl; apply w_mvi; rfl; apply w_done0; apply w_ret)
  exact fin2 rfl rfl (List.Sublist.refl _) ⟨rfl, rfl⟩
theorem ncdrop_ok {P : Program} {f f1 f2 : FuncId} (hd : dec P f = some (g_chain_Drop f1 f2)) (h1 : NReadOk P f1) : NCDropOk P f := by
  intro d pv k n hp hn
  refine GCall_of hd (Nat.le_of_ble_eq_true rfl) ?_
  show gwp P _ _ _ _ _
  (apply w_sq; apply w_reg; apply w_mvi; rfl; apply w_done0; apply w_sq; apply w_reg; apply w_mv; apply w_mvi; rfl; apply w_mvi; rfl)
  refine w_callO (h1 (k := k) (n := n) hp hn) rfl (fun u d2 L2 hl2 ⟨e1, e2⟩ => ?_)
  subst e1; subst e2
  (apply w_mvu; rfl; apply w_ext; rfl; rfl; apply w_ext; rfl; rfl; apply w_ext; rfl; rfl; apply w_mvs; rfl; apply w_mvs; rfl; apply w_mvi; rfl; apply w_done0; apply w_sq; apply w_sq; apply w_reg; apply w_mvi; rfl; apply w_neq; rfl; rfl; apply w_done0; refine w_ifdT rfl (by omega) ?_; apply w_sq; apply w_reg; apply w_mvi; rfl; apply w_mvi; rfl; apply w_done0; apply w_ret)
  exact fin1 rfl (List.Sublist.refl _) ⟨rfl, rfl⟩
def g_thimblelaw21_ChainNobody (f_chain_Put f_chain_Get f_chain_List f_chain_Drop : Nat) : GFun :=
 ⟨86, [(.tmp 6)],
 (.seq
 (.reg false (.op false ⟨(some 6), none, (.mv (.const (.bool false)))⟩ .done))
 (.seq (.seq
 (.reg false (.op false ⟨(some 15), none, (.mv (.tmp 0))⟩
  (.op false ⟨(some 16), none, (.len (.tmp 15))⟩
  (.op false ⟨(some 17), none, (.bin .gtr (.tmp 16) (.const (.int .i64 16384)))⟩
  (.op false ⟨(some 18), none, (.mv (.tmp 17))⟩
  (.op false ⟨(some 19), (some (18, false)), (.mv (.tmp 2))⟩
  (.op false ⟨(some 20), (some (18, false)), (.bin .lss (.tmp 19) (.const (.int .i64 0)))⟩
  (.op false ⟨(some 21), none, (.pick (.tmp 18) (.const (.bool true)) (.tmp 20))⟩
  (.op false ⟨(some 22), none, (.mv (.tmp 21))⟩
  (.op false ⟨(some 23), (some (22, false)), (.mv (.tmp 2))⟩
  (.op false ⟨(some 24), (some (22, false)), (.bin .gtr (.tmp 23) (.const (.int .i64 16384)))⟩
  (.op false ⟨(some 25), none, (.pick (.tmp 22) (.const (.bool true)) (.tmp 24))⟩ .done)))))))))))) (.cond (.tmp 25)
 (.seq
 (.reg false (.op false ⟨(some 6), none, (.mv (.const (.bool true)))⟩ .done)) .ret) .skip))
 (.seq (.seq
 (.reg false (.op false ⟨(some 26), none, (.bld [(0, 1), (1, 1), (2, 1), (3, 1), (4, 1), (5, 1), (6, 1)] [(.pointer none), (.pointer none), (.int .i64 0), (.slice none 0 0), (.map none), (.int .i64 0), (.int .i64 0)] [])⟩
  (.op false ⟨(some 27), none, (.box (.tmp 26))⟩
  (.op false ⟨(some 28), none, (.bsl 2 1 [(.pointer none)] [(0, (.const (.pointer none))), (1, (.tmp 27))])⟩
  (.op false ⟨(some 29), none, (.len (.tmp 28))⟩
  (.op false ⟨(some 30), none, (.mv (.const (.int .i64 0)))⟩ .done)))))) (.block 0 (.loop
 (.seq
 (.reg false (.op false ⟨(some 31), none, (.bin .lss (.tmp 30) (.tmp 29))⟩ .done))
 (.seq (.cond (.tmp 31) .skip (.exit 0))
 (.seq (.block 1
 (.seq
 (.reg false (.op false ⟨(some 32), none, (.idx 1 (.tmp 28) (.tmp 30))⟩
  (.op false ⟨(some 33), none, (.ld none (.tmp 32))⟩
  (.op false ⟨(some 8), none, (.mv (.tmp 33))⟩ .done))))
 (.seq
 (.reg false (.op false ⟨(some 35), none, (.mv (.tmp 8))⟩
  (.op false ⟨(some 36), none, (.mv (.tmp 0))⟩
  (.op false ⟨(some 37), none, (.call f_chain_Put [(.tmp 35), (.tmp 36)])⟩
  (.op false ⟨(some 34), none, (.mv (.tmp 37))⟩
  (.op false ⟨(some 38), none, (.ext (.tmp 34) 0)⟩
  (.op false ⟨(some 39), none, (.ext (.tmp 34) 1)⟩
  (.op false ⟨(some 9), none, (.mv (.tmp 38))⟩
  (.op false ⟨(some 10), none, (.mv (.tmp 39))⟩ .done)))))))))
 (.seq
 (.reg false (.op false ⟨(some 41), none, (.mv (.tmp 8))⟩
  (.op false ⟨(some 42), none, (.mv (.tmp 1))⟩
  (.op false ⟨(some 43), none, (.mv (.tmp 2))⟩
  (.op false ⟨(some 44), none, (.call f_chain_Get [(.tmp 41), (.tmp 42), (.tmp 43)])⟩
  (.op false ⟨(some 40), none, (.mv (.tmp 44))⟩
  (.op false ⟨(some 45), none, (.ext (.tmp 40) 0)⟩
  (.op false ⟨(some 46), none, (.ext (.tmp 40) 1)⟩
  (.op false ⟨(some 11), none, (.mv (.tmp 45))⟩
  (.op false ⟨(some 12), none, (.mv (.tmp 46))⟩ .done))))))))))
 (.seq
 (.reg false (.op false ⟨(some 48), none, (.mv (.tmp 8))⟩
  (.op false ⟨(some 49), none, (.mv (.tmp 1))⟩
  (.op false ⟨(some 50), none, (.mv (.tmp 2))⟩
  (.op false ⟨(some 51), none, (.call f_chain_List [(.tmp 48), (.tmp 49), (.tmp 50)])⟩
  (.op false ⟨(some 47), none, (.mv (.tmp 51))⟩
  (.op false ⟨(some 52), none, (.ext (.tmp 47) 0)⟩
  (.op false ⟨(some 53), none, (.ext (.tmp 47) 1)⟩
  (.op false ⟨(some 13), none, (.mv (.tmp 52))⟩
  (.op false ⟨(some 14), none, (.mv (.tmp 53))⟩ .done))))))))))
 (.seq
 (.reg false (.op false ⟨(some 54), none, (.mv (.tmp 9))⟩
  (.op false ⟨(some 55), none, (.bin .neq (.tmp 54) (.const (.int .i64 0)))⟩
  (.op false ⟨(some 56), none, (.mv (.tmp 55))⟩
  (.op false ⟨(some 57), (some (56, false)), (.mv (.tmp 11))⟩
  (.op false ⟨(some 58), (some (56, false)), (.len (.tmp 57))⟩
  (.op false ⟨(some 59), (some (56, false)), (.bin .neq (.tmp 58) (.const (.int .i64 0)))⟩
  (.op false ⟨(some 60), none, (.pick (.tmp 56) (.const (.bool true)) (.tmp 59))⟩
  (.op false ⟨(some 61), none, (.mv (.tmp 60))⟩
  (.op false ⟨(some 62), (some (61, false)), (.mv (.tmp 13))⟩
  (.op false ⟨(some 63), (some (61, false)), (.len (.tmp 62))⟩
  (.op false ⟨(some 64), (some (61, false)), (.bin .neq (.tmp 63) (.const (.int .i64 0)))⟩
  (.op false ⟨(some 65), none, (.pick (.tmp 61) (.const (.bool true)) (.tmp 64))⟩
  (.op false ⟨(some 66), none, (.mv (.tmp 65))⟩
  (.op false ⟨(some 67), (some (66, false)), (.mv (.tmp 10))⟩
  (.op false ⟨(some 68), (some (66, false)), (.bin .neq (.tmp 67) (.const (.int .i64 1)))⟩
  (.op false ⟨(some 69), none, (.pick (.tmp 66) (.const (.bool true)) (.tmp 68))⟩
  (.op false ⟨(some 70), none, (.mv (.tmp 69))⟩
  (.op false ⟨(some 71), (some (70, false)), (.mv (.tmp 12))⟩
  (.op false ⟨(some 72), (some (70, false)), (.bin .neq (.tmp 71) (.const (.int .i64 1)))⟩
  (.op false ⟨(some 73), none, (.pick (.tmp 70) (.const (.bool true)) (.tmp 72))⟩
  (.op false ⟨(some 74), none, (.mv (.tmp 73))⟩
  (.op false ⟨(some 75), (some (74, false)), (.mv (.tmp 14))⟩
  (.op false ⟨(some 76), (some (74, false)), (.bin .neq (.tmp 75) (.const (.int .i64 1)))⟩
  (.op false ⟨(some 77), none, (.pick (.tmp 74) (.const (.bool true)) (.tmp 76))⟩
  (.op false ⟨(some 78), none, (.mv (.tmp 77))⟩
  (.op false ⟨(some 79), (some (78, false)), (.mv (.tmp 8))⟩
  (.op false ⟨(some 80), (some (78, false)), (.mv (.tmp 1))⟩
  (.op false ⟨(some 81), (some (78, false)), (.mv (.tmp 2))⟩
  (.op false ⟨(some 82), (some (78, false)), (.call f_chain_Drop [(.tmp 79), (.tmp 80), (.tmp 81)])⟩
  (.op false ⟨(some 83), (some (78, false)), (.bin .neq (.tmp 82) (.const (.int .i64 1)))⟩
  (.op false ⟨(some 84), none, (.pick (.tmp 78) (.const (.bool true)) (.tmp 83))⟩ .done)))))))))))))))))))))))))))))))) (.cond (.tmp 84)
 (.seq
 (.reg false (.op false ⟨(some 6), none, (.mv (.const (.bool false)))⟩ .done)) .ret) .skip)))))))
 (.reg false (.op false ⟨(some 85), none, (.bin .add (.tmp 30) (.const (.int .i64 1)))⟩
  (.op false ⟨(some 30), none, (.mv (.tmp 85))⟩ .done)))))))))
 (.seq
 (.reg false (.op false ⟨(some 6), none, (.mv (.const (.bool true)))⟩ .done)) .ret))))⟩

set_option maxRecDepth 4000 in
theorem chainNobody {P : Program} {f f1 f2 f3 f4 : FuncId} (hd : dec P f = some (g_thimblelaw21_ChainNobody f1 f2 f3 f4)) (h1 : NPutOk P f1) (h2 : NCGetOk P f2) (h3 : NCListOk P f3) (h4 : NCDropOk P f4)
    {d : PHeap} {bv : Value} {b : List UInt8} {hx sx : Int} (hb : RBytes d bv b) : GCall P f [bv, .int .i64 hx, .int .i64 sx] d [] (Ret fun r _ _ => r = .bool true) := by
  obtain ⟨ba, bc, rfl⟩ := RSl.val hb
  refine GCall_of hd (Nat.le_of_ble_eq_true rfl) ?_
  show gwp P _ _ _ _ _
  by_cases q1 : 16384 < b.length
  · (apply w_sq; apply w_reg; apply w_mvb; rfl; apply w_done0; apply w_sq; apply w_sq; apply w_reg; apply w_mvs; rfl; apply w_len; rfl; apply w_gtr; rfl; rfl; apply w_mvb; rfl; refine w_gdT rfl (by omega) ?_; apply w_gF; rfl; apply w_gF; rfl; apply w_pickTb; rfl; rfl; apply w_mvb; rfl; apply w_gF; rfl; apply w_gF; rfl; apply w_pickTb; rfl; rfl; apply w_done0; apply w_ifT; rfl; apply w_sq; apply w_reg; apply w_mvb; rfl; apply w_done0; apply w_ret)
    exact fin1n rfl rfl
  by_cases q2 : sx < 0
  · (apply w_sq; apply w_reg; apply w_mvb; rfl; apply w_done0; apply w_sq; apply w_sq; apply w_reg; apply w_mvs; rfl; apply w_len; rfl; apply w_gtr; rfl; rfl; apply w_mvb; rfl; refine w_gdF rfl (by omega) ?_; apply w_gT; rfl; apply w_mvi; rfl; apply w_gT; rfl; apply w_lss; rfl; rfl; apply w_pickFb; rfl; rfl; apply w_mvb; rfl; refine w_gdT rfl (by omega) ?_; apply w_gF; rfl; apply w_gF; rfl; apply w_pickTb; rfl; rfl; apply w_done0; apply w_ifT; rfl; apply w_sq; apply w_reg; apply w_mvb; rfl; apply w_done0; apply w_ret)
    exact fin1n rfl rfl
  by_cases q3 : 16384 < sx
  · (apply w_sq; apply w_reg; apply w_mvb; rfl; apply w_done0; apply w_sq; apply w_sq; apply w_reg; apply w_mvs; rfl; apply w_len; rfl; apply w_gtr; rfl; rfl; apply w_mvb; rfl; refine w_gdF rfl (by omega) ?_; apply w_gT; rfl; apply w_mvi; rfl; apply w_gT; rfl; apply w_lss; rfl; rfl; apply w_pickFb; rfl; rfl; apply w_mvb; rfl; refine w_gdF rfl (by omega) ?_; apply w_gT; rfl; apply w_mvi; rfl; apply w_gT; rfl; apply w_gtr; rfl; rfl; apply w_pickFb; rfl; rfl; apply w_done0; refine w_ifdT rfl (by omega) ?_; apply w_sq; apply w_reg; apply w_mvb; rfl; apply w_done0; apply w_ret)
    exact fin1n rfl rfl
  obtain ⟨n, rfl⟩ : ∃ n : Nat, sx = n := ⟨sx.toNat, by omega⟩
  (apply w_sq; apply w_reg; apply w_mvb; rfl; apply w_done0; apply w_sq; apply w_sq; apply w_reg; apply w_mvs; rfl; apply w_len; rfl; apply w_gtr; rfl; rfl; apply w_mvb; rfl; refine w_gdF rfl (by omega) ?_; apply w_gT; rfl; apply w_mvi; rfl; apply w_gT; rfl; apply w_lss; rfl; rfl; apply w_pickFb; rfl; rfl; apply w_mvb; rfl; refine w_gdF rfl (by omega) ?_; apply w_gT; rfl; apply w_mvi; rfl; apply w_gT; rfl; apply w_gtr; rfl; rfl; apply w_pickFb; rfl; rfl; apply w_done0; refine w_ifdF rfl (by omega) ?_; apply w_skip; apply w_sq; apply w_sq; apply w_reg; apply w_bld; rfl; apply w_boxa; rfl; intro _ _)
  rename_i b1 T1
  refine w_frz (fun d0 hl1 hb1 => ?_)
  replace hb1 := dcs_bx hb1
  refine w_bsl (cs := [.pointer none, .pointer (some ⟨b1, 0, none⟩)]) (by omega) rfl (fun b2 T2 => ?_)
  (apply w_len; rfl; apply w_mvi; rfl; apply w_done0; apply w_block)
  refine w_loopS (α := Nat) (fun i => [(0, .slice ba b.length bc), (1, .int .i64 hx), (2, .int .i64 n), (28, .slice (some ⟨b2, 0, none⟩) 2 2), (29, .int .i64 2), (30, .int .i64 i)])
    (fun i d' L' => Le d0 d' ∧ i ≤ 2 ∧ L' = [bx b2 T2 [.pointer none, .pointer (some ⟨b1, 0, none⟩)]]) (fun i => 2 - i) 0 ⟨rfl, rfl, rfl, rfl, rfl, rfl, trivial⟩ ⟨Le.refl _, by omega, rfl⟩ ?_
  rintro i ρ d1 L' ⟨hle, hi, rfl⟩
  have hb1' : RBytes d1 (.slice ba b.length bc) b := RSl.mono (R := RByte) mono_byte hb (hl1.trans hle)
  have hdc := (hb1.at (i := 0) rfl).mono hle
  obtain rfl | rfl | rfl : i = 0 ∨ i = 1 ∨ i = 2 := by omega
  · have hN : Nob d1 (.pointer none) := .inl rfl
    (apply w_sq; apply w_reg; apply w_lss; rfl; rfl; apply w_done0; apply w_sq; refine w_ifdT rfl (by omega) ?_; apply w_skip; apply w_sq; apply w_block; apply w_sq; apply w_reg; refine w_idxN _ rfl rfl rfl (by omega) ?_; apply w_ld; rfl; exact hc_i 0 rfl rfl; apply w_mvp; rfl; apply w_done0; apply w_sq; apply w_reg; apply w_mvp; rfl; apply w_mvs; rfl)
    refine w_pure rfl (h1 hN hb1' (by omega)) ?_
    (apply w_mvu; rfl; apply w_ext; rfl; rfl; apply w_ext; rfl; rfl; apply w_mvi; rfl; apply w_mvi; rfl; apply w_done0; apply w_sq; apply w_reg; apply w_mvp; rfl; apply w_mvi; rfl; apply w_mvi; rfl)
    refine w_callA (A := []) (B := [bx b2 T2 [.pointer none, .pointer (some ⟨b1, 0, none⟩)]]) rfl rfl (h2 (k := hx) (n := n) hN (by omega)) (fun u d2 L2 hl2 ⟨e1, e2⟩ => ?_)
    subst e1; subst e2
    rw [List.nil_append]
    (apply w_mvu; rfl; apply w_ext; rfl; rfl; apply w_ext; rfl; rfl; apply w_mvs; rfl; apply w_mvi; rfl; apply w_done0; apply w_sq; apply w_reg; apply w_mvp; rfl; apply w_mvi; rfl; apply w_mvi; rfl)
    refine w_callA (A := []) (B := [bx b2 T2 [.pointer none, .pointer (some ⟨b1, 0, none⟩)]]) rfl rfl (h3 (k := hx) (n := n) (hN.mono hl2) (by omega)) (fun u d3 L3 hl3 ⟨e1, e2⟩ => ?_)
    subst e1; subst e2
    rw [List.nil_append]
    (apply w_mvu; rfl; apply w_ext; rfl; rfl; apply w_ext; rfl; rfl; apply w_mvs; rfl; apply w_mvi; rfl; apply w_done0; apply w_sq; apply w_reg; apply w_mvi; rfl; apply w_neq; rfl; rfl; apply w_mvb; rfl; refine w_gdF rfl (by omega) ?_; apply w_gT; rfl; apply w_mvs; rfl; apply w_gT; rfl; apply w_len; rfl; apply w_gT; rfl; apply w_neq; rfl; rfl; apply w_pickFb; rfl; rfl; apply w_mvb; rfl; refine w_gdF rfl (by omega) ?_; apply w_gT; rfl; apply w_mvs; rfl; apply w_gT; rfl; apply w_len; rfl; apply w_gT; rfl; apply w_neq; rfl; rfl; apply w_pickFb; rfl; rfl; apply w_mvb; rfl; refine w_gdF rfl (by omega) ?_; apply w_gT; rfl; apply w_mvi; rfl; apply w_gT; rfl; apply w_neq; rfl; rfl; apply w_pickFb; rfl; rfl; apply w_mvb; rfl; refine w_gdF rfl (by omega) ?_; apply w_gT; rfl; apply w_mvi; rfl; apply w_gT; rfl; apply w_neq; rfl; rfl; apply w_pickFb; rfl; rfl; apply w_mvb; rfl; refine w_gdF rfl (by omega) ?_; apply w_gT; rfl; apply w_mvi; rfl; apply w_gT; rfl; apply w_neq; rfl; rfl; apply w_pickFb; rfl; rfl; apply w_mvb; rfl; refine w_gdF rfl (by omega) ?_; apply w_gT; rfl; apply w_mvp; rfl; apply w_gT; rfl; apply w_mvi; rfl; apply w_gT; rfl; apply w_mvi; rfl; apply w_gT; rfl)
    refine w_callA (A := []) (B := [bx b2 T2 [.pointer none, .pointer (some ⟨b1, 0, none⟩)]]) rfl rfl (h4 (k := hx) (n := n) ((hN.mono hl2).mono hl3) (by omega)) (fun u d4 L4 hl4 ⟨e1, e2⟩ => ?_)
    subst e1; subst e2
    rw [List.nil_append]
    (apply w_gT; rfl; apply w_neq; rfl; rfl; apply w_pickFb; rfl; rfl; apply w_done0; refine w_ifdF rfl (by omega) ?_; apply w_skip; apply w_reg; apply w_add; rfl; rfl; omega; omega; apply w_mvi; rfl; apply w_done0)
    exact ⟨1, by omega, ⟨rfl, rfl, rfl, rfl, rfl, rfl, trivial⟩, ((hle.trans hl2).trans hl3).trans hl4, by omega, rfl⟩
  · have hN : Nob d1 (.pointer (some ⟨b1, 0, none⟩)) := .inr ⟨b1, rfl, hdc⟩
    (apply w_sq; apply w_reg; apply w_lss; rfl; rfl; apply w_done0; apply w_sq; refine w_ifdT rfl (by omega) ?_; apply w_skip; apply w_sq; apply w_block; apply w_sq; apply w_reg; refine w_idxN _ rfl rfl rfl (by omega) ?_; apply w_ld; rfl; exact hc_i 0 rfl rfl; apply w_mvp; rfl; apply w_done0; apply w_sq; apply w_reg; apply w_mvp; rfl; apply w_mvs; rfl)
    refine w_pure rfl (h1 hN hb1' (by omega)) ?_
    (apply w_mvu; rfl; apply w_ext; rfl; rfl; apply w_ext; rfl; rfl; apply w_mvi; rfl; apply w_mvi; rfl; apply w_done0; apply w_sq; apply w_reg; apply w_mvp; rfl; apply w_mvi; rfl; apply w_mvi; rfl)
    refine w_callA (A := []) (B := [bx b2 T2 [.pointer none, .pointer (some ⟨b1, 0, none⟩)]]) rfl rfl (h2 (k := hx) (n := n) hN (by omega)) (fun u d2 L2 hl2 ⟨e1, e2⟩ => ?_)
    subst e1; subst e2
    rw [List.nil_append]
    (apply w_mvu; rfl; apply w_ext; rfl; rfl; apply w_ext; rfl; rfl; apply w_mvs; rfl; apply w_mvi; rfl; apply w_done0; apply w_sq; apply w_reg; apply w_mvp; rfl; apply w_mvi; rfl; apply w_mvi; rfl)
    refine w_callA (A := []) (B := [bx b2 T2 [.pointer none, .pointer (some ⟨b1, 0, none⟩)]]) rfl rfl (h3 (k := hx) (n := n) (hN.mono hl2) (by omega)) (fun u d3 L3 hl3 ⟨e1, e2⟩ => ?_)
    subst e1; subst e2
    rw [List.nil_append]
    (apply w_mvu; rfl; apply w_ext; rfl; rfl; apply w_ext; rfl; rfl; apply w_mvs; rfl; apply w_mvi; rfl; apply w_done0; apply w_sq; apply w_reg; apply w_mvi; rfl; apply w_neq; rfl; rfl; apply w_mvb; rfl; refine w_gdF rfl (by omega) ?_; apply w_gT; rfl; apply w_mvs; rfl; apply w_gT; rfl; apply w_len; rfl; apply w_gT; rfl; apply w_neq; rfl; rfl; apply w_pickFb; rfl; rfl; apply w_mvb; rfl; refine w_gdF rfl (by omega) ?_; apply w_gT; rfl; apply w_mvs; rfl; apply w_gT; rfl; apply w_len; rfl; apply w_gT; rfl; apply w_neq; rfl; rfl; apply w_pickFb; rfl; rfl; apply w_mvb; rfl; refine w_gdF rfl (by omega) ?_; apply w_gT; rfl; apply w_mvi; rfl; apply w_gT; rfl; apply w_neq; rfl; rfl; apply w_pickFb; rfl; rfl; apply w_mvb; rfl; refine w_gdF rfl (by omega) ?_; apply w_gT; rfl; apply w_mvi; rfl; apply w_gT; rfl; apply w_neq; rfl; rfl; apply w_pickFb; rfl; rfl; apply w_mvb; rfl; refine w_gdF rfl (by omega) ?_; apply w_gT; rfl; apply w_mvi; rfl; apply w_gT; rfl; apply w_neq; rfl; rfl; apply w_pickFb; rfl; rfl; apply w_mvb; rfl; refine w_gdF rfl (by omega) ?_; apply w_gT; rfl; apply w_mvp; rfl; apply w_gT; rfl; apply w_mvi; rfl; apply w_gT; rfl; apply w_mvi; rfl; apply w_gT; rfl)
    refine w_callA (A := []) (B := [bx b2 T2 [.pointer none, .pointer (some ⟨b1, 0, none⟩)]]) rfl rfl (h4 (k := hx) (n := n) ((hN.mono hl2).mono hl3) (by omega)) (fun u d4 L4 hl4 ⟨e1, e2⟩ => ?_)
    subst e1; subst e2
    rw [List.nil_append]
    (apply w_gT; rfl; apply w_neq; rfl; rfl; apply w_pickFb; rfl; rfl; apply w_done0; refine w_ifdF rfl (by omega) ?_; apply w_skip; apply w_reg; apply w_add; rfl; rfl; omega; omega; apply w_mvi; rfl; apply w_done0)
    exact ⟨2, by omega, ⟨rfl, rfl, rfl, rfl, rfl, rfl, trivial⟩, ((hle.trans hl2).trans hl3).trans hl4, by omega, rfl⟩
  · (apply w_sq; apply w_reg; apply w_lss; rfl; rfl; apply w_done0; apply w_sq; refine w_ifdF rfl (by omega) ?_; apply w_exit; apply w_sq; apply w_reg; apply w_mvb; rfl; apply w_done0; apply w_ret)
    exact fin1n rfl rfl
end Go.Gk.Chn
end
