/-
  Our own texts, one behind the other: GkXArg.
-/
import Derived.Test.YteekdjalpmjdhaaGreatPlG
set_option linter.defProp false
set_option linter.unusedVariables false
set_option linter.unusedSimpArgs false
section
namespace Go.Gk.Tre
open Go Go.Gk Go.Gk.Node
def Abl{l:List Value}(h:l.length=2):∃a b,l=[a,b]:=by
 match l,h with
 |[a,b],_=>exact⟨a,b,Z⟩
def AbD{H:Type}{enc:TypeId×Value→H}{P:Program}{W:World}{t tb ts:TypeId}{fs:Array Field}(ht:P.underlying t=some (.struct fs))(h2:P.cellsOf t=2)
  (f0:(fs[0]?).map (fun f=>(f.offset,f.type))=some (0,ts)) (f1:(fs[1]?).map (fun f=>(f.offset,f.type))=some (1,ts))
  (cb:P.cellsOf tb=1) (cs:P.cellsOf ts=1) (ub:P.underlying tb=some (.int .u8)) (us:P.underlying ts=some (.slice tb)) (bb:1≤P.bytesOf tb):Rd enc P W t RBp:=by
 intro held fuel cs x h hw
 obtain⟨hl,hfs⟩:=W2 ht h hw
 obtain⟨y,v,e1,hv⟩:=hfs 0 0 ts 1 f0 (by assumption) (M8 us cb (by omega) bb (SY ub))
 obtain⟨z,u,e2,hu⟩:=hfs 1 1 ts 1 f1 (by assumption) (M8 us cb (by omega) bb (SY ub))
 obtain⟨a1,a2,rfl⟩:=Abl (hl.trans h2)
 simp only[List.drop,List.take] at e1 e2
 simp only[List.cons.injEq,and_true] at e1 e2
 subst e1;subst e2
 exact⟨⟨y,z⟩,_,_,Z,hv,hu⟩
end Go.Gk.Tre
end
