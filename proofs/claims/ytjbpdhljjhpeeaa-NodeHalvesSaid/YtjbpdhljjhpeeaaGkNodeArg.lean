/-
  A node as an argument.
-/
import Derived.Test.YtjbpdhljjhpeeaaGk11
import Derived.Test.YtjbpdhljjhpeeaaGkNode1
namespace Go.Gk.Node
open Go Go.Gk
theorem rd_node {H : Type} {enc : TypeId × Value → H} {P : Program} {W : World} {t tb tl tk t8 ti tn : TypeId} {fs : Array Field} (ht : P.underlying t = some (.struct fs)) (h4 : P.cellsOf t = 4)
    (f0 : (fs[0]?).map (fun f => (f.offset, f.type)) = some (0, tb)) (f1 : (fs[1]?).map (fun f => (f.offset, f.type)) = some (1, tl)) (f2 : (fs[2]?).map (fun f => (f.offset, f.type)) = some (2, tl))
    (f3 : (fs[3]?).map (fun f => (f.offset, f.type)) = some (3, ti)) (cb : P.cellsOf tb = 1) (cl : P.cellsOf tl = 1) (ck : P.cellsOf tk = 1) (c8 : P.cellsOf t8 = 1) (ci : P.cellsOf ti = 1) (cn : P.cellsOf tn = 1)
    (ub : P.underlying tb = some .bool) (ul : P.underlying tl = some (.slice tk)) (uk : P.underlying tk = some (.slice t8)) (u8 : P.underlying t8 = some (.int .u8)) (ui : P.underlying ti = some (.slice tn)) (un : P.underlying tn = some (.int .i64))
    (bk : 1 ≤ P.bytesOf tk) (b8 : 1 ≤ P.bytesOf t8) (bn : 1 ≤ P.bytesOf tn) : Rd enc P W t RNode := by
  intro held fuel cs x h hw
  obtain ⟨hl, hfs⟩ := rd_fields ht h hw
  have hbs : Rd enc P W tk RBs := rd_slice uk c8 (by omega) b8 (rd_byte u8)
  have hbss : Rd enc P W tl (fun d cs xs => ∃ v, cs = [v] ∧ RSl 1 RBs d v xs) := rd_slice ul ck (by omega) bk hbs
  obtain ⟨lf, e0⟩ := hfs 0 0 tb 1 f0 cb (rd_bool ub)
  obtain ⟨ks, kv, e1, hk⟩ := hfs 1 1 tl 1 f1 cl hbss
  obtain ⟨vs, vv, e2, hv⟩ := hfs 2 2 tl 1 f2 cl hbss
  obtain ⟨is, iv, e3, hi⟩ := hfs 3 3 ti 1 f3 ci (rd_slice ui cn (by omega) bn (rd_int un))
  obtain ⟨a0, a1, a2, a3, rfl⟩ := list4 (hl.trans h4)
  simp only [List.drop, List.take, List.cons.injEq, and_true] at e0 e1 e2 e3
  subst e0; subst e1; subst e2; subst e3
  exact ⟨⟨lf, ks, vs, is⟩, _, _, _, rfl, hk, hv, hi⟩
end Go.Gk.Node
