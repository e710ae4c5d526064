/-
  Nodes: what is written of one; the chapter's examples.
-/
import Derived.Test.YtjbpdhljjhpeeaaGkNode6
namespace Go.Gk.Node
open Go Go.Gk
attribute [local irreducible] gwp gws

def BytesOk (P : Program) (f : FuncId) : Prop := ∀ {d : PHeap} {cs : List Value} {n : NodeD}, RNode d cs n → sizeD n ≤ 1000000000000 →
  GCall P f [.agg cs.toArray] d [] (Ret fun r d' L' => d' = d ∧ ((rightB n = true ∧ ∃ v h, r = .tuple #[v, .int .i64 0] ∧ L' = [h] ∧ FRow 256 v (pageD n) h) ∨ (rightB n = false ∧ r = .tuple #[.slice none 0 0, .int .i64 200] ∧ L' = [])))
def g_node_Bytes (f_node_Right f_node_page : Nat) : GFun :=
 ⟨9, [(.tmp 2), (.tmp 3)],
 (.seq
 (.reg false (.op false ⟨(some 1), none, (.box (.tmp 0))⟩
  (.op false ⟨(some 2), none, (.mv (.const (.slice none 0 0)))⟩
  (.op false ⟨(some 3), none, (.mv (.const (.int .i64 0)))⟩ .done))))
 (.seq (.seq
 (.reg false (.op false ⟨(some 4), none, (.ld (some 4) (.tmp 1))⟩
  (.op false ⟨(some 5), none, (.call f_node_Right [(.tmp 4)])⟩
  (.op false ⟨(some 6), none, (.un .not (.tmp 5))⟩ .done)))) (.cond (.tmp 6)
 (.seq
 (.reg false (.op false ⟨(some 2), none, (.mv (.const (.slice none 0 0)))⟩
  (.op false ⟨(some 3), none, (.mv (.const (.int .i64 200)))⟩ .done))) .ret) .skip))
 (.seq
 (.reg false (.op false ⟨(some 7), none, (.ld (some 4) (.tmp 1))⟩
  (.op false ⟨(some 8), none, (.call f_node_page [(.tmp 7)])⟩
  (.op false ⟨(some 2), none, (.mv (.tmp 8))⟩
  (.op false ⟨(some 3), none, (.mv (.const (.int .i64 0)))⟩ .done))))) .ret)))⟩

theorem bytes_ok {P : Program} {f f1 f2 : FuncId} (hd : dec P f = some (g_node_Bytes f1 f2)) (h1 : RightOk P f1) (h2 : PageOk P f2) : BytesOk P f := by
  intro d cs n hn hb
  refine GCall_of hd (Nat.le_of_ble_eq_true rfl) ?_
  have hn' := hn
  obtain ⟨kv, vv, iv, rfl, hk, hv, hiv⟩ : ∃ kv vv iv, cs = [.bool n.leaf, kv, vv, iv] ∧ RBss d kv n.keys ∧ RBss d vv n.vals ∧ RInts d iv n.kids := hn
  show gwp P _ _ _ _ _
  (apply w_sq; apply w_reg; apply w_boxa; rfl; intro _ _; apply w_mvs; rfl; apply w_mvi; rfl; apply w_done0; apply w_sq; apply w_sq; apply w_reg; apply w_ldb 0; rfl; rfl; rfl)
  refine w_pure rfl (h1 hn' hb) ?_
  cases hr : rightB n with
  | false =>
    (apply w_not; rfl; apply w_done0; apply w_ifT; rfl; apply w_sq; apply w_reg; apply w_mvs; rfl; apply w_mvi; rfl; apply w_done0; apply w_ret)
    exact fin2n rfl rfl ⟨rfl, .inr ⟨rfl, rfl, rfl⟩⟩
  | true =>
    have hr' := hr
    simp only [rightB, Bool.and_eq_true, decide_eq_true_eq] at hr'
    (apply w_not; rfl; apply w_done0; apply w_ifF; rfl; apply w_skip; apply w_sq; apply w_reg; apply w_ldb 0; rfl; rfl; rfl)
    refine w_call0 rfl (h2 hn' hr'.1 hr'.2) (fun r d' L' _ ⟨hdd, h, hL, hrow⟩ => ?_)
    subst hdd; subst hL
    (apply w_mv; apply w_mvi; rfl; apply w_done0; apply w_ret)
    exact fin2 (L' := [h]) rfl rfl (by simp) ⟨rfl, .inl ⟨rfl, _, h, rfl, rfl, hrow⟩⟩
end Go.Gk.Node
