/- Parts of the walks. Conditions: as stated with each. -/
import Derived.Test.YtdpgblncijojiaaGreatDoorPk25
namespace Go.Proofs.YtdpgblncijojiaaGreatDoor
open Go.RowKit Tryz
set_option linter.all false
variable{g:Gr}{n x:Nat}


def zgx:List Bool->Nat
 |[]=>0
 |b::l=>zgx l+if b=true then 1 else 0
def Dw:∀{l:zcM},(∀b∈l,b=true)->zgx l=l.length
 |[],_=>rfl
 |b::l,h=>by
  have:=Dw (l:=l) fun b z=>h b (lV _ z)
  simp only[zgx,lU,this,h b (lW ..),jf]
def zaU(h:x<n):(List.range n).getD x 0=x:=by simp[List.getD,h]
def zb8(n:Nat)(d:List (List Nat)):List Bool:=sS n (List.range n) d
def G1.el(h:g.G1):∀e∈g.es,e.i.length<=12/\e.o.length<=12:=fun e z=>by have:=h.fit e z;unfold Ed.mE at this;simp only[bC,cK]at this;obtain⟨D,_,hi,E⟩:=this;have:=uf D;omega
def G1.count(h:g.G1):zgx (zb8 g.w (fy g))=g.w:=by
 rw[Dw,show(zb8 g.w (fy g)).length=g.w from Bn ..];intro b E;obtain⟨r,z⟩:=e_.1 E;have D:r<g.w:=by have:=(bA.1 z).1;rw[show(zb8 g.w (fy g)).length=g.w from Bn ..]at this;exact this
 unfold zb8 at z;rw[wh _ _ D]at z;cases z
 obtain⟨l,F,H⟩:=(tm g r).2 (h.on r D);unfold qz;rw[lT];refine⟨l,F,?_⟩;rw[lT];exact⟨r,H,by rw[zaU D];simp⟩
end Go.Proofs.YtdpgblncijojiaaGreatDoor
