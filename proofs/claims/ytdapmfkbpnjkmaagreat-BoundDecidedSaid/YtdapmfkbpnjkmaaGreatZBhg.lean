
import Derived.Test.YtdapmfkbpnjkmaaGreatZBhf
set_option linter.all false
namespace Go.Sx
open Go
def d2i (r:Rep):Prop:=∀e∈r.options,OkE e
section
variable {P:Program} {t:TypeId}
theorem b3N {tb tk:TypeId} (hf:a1o P t=some [(tk,0,1),(tb,1,1)]) (hc:P.cellsOf t=2) (hk:a3i P tk (List Evt) (fun l=>∀x∈l,OkE x)) (hb:a3i P tb Bool (fun _=>True)):a3i P t Rep d2i:=by
 intro H enc w base spare held fuel cs x h;obtain⟨hl,hall⟩:=a2W hf h;rw[hc]at hl
 obtain⟨a0,r0_,rfl,l0_⟩:=a0M hl;obtain⟨a1,r1_,rfl,l1_⟩:=a0M l0_;obtain rfl:=a5U l1_;obtain⟨n0,y0,h0⟩:=hall (tk,0,1) (by simp);obtain⟨x0,e0,g0⟩:=hk enc w base spare held n0 _ y0 h0;obtain⟨v0,e0,r0⟩:=e0
 have e0:[a0]=[v0]:=e0
 cases e0
 obtain⟨n1,y1,h1⟩:=hall (tb,1,1) (by simp);obtain⟨x1,e1,g1⟩:=hb enc w base spare held n1 _ y1 h1
 have e1:[a1]=[.bool x1]:=e1
 cases e1
 exact⟨⟨x0,x1⟩,⟨_,rfl,r0⟩,g0⟩
theorem c6s {n:Int} (h:(Lit.int .u8 n).wf=true):∃a:Nat,n=(a:Int)∧a<256:=by
 have h2:0≤n∧n≤255:=by
  simp only[Lit.wf,Bool.and_eq_true,decide_eq_true_eq]at h
  simpa[IntKind.min,IntKind.max,IntKind.signed,IntKind.bits]using h
 exact⟨n.toNat,by omega,by omega⟩
end
end Go.Sx
