/- lemmas -/
import Derived.Test.YtjlkjopcjcbooaaGreatDoorMdMA
set_option linter.all false
noncomputable section
variable {ρ:Type}
set_option maxRecDepth 100000
namespace Go.Proofs.ZzM
open Go Go.Am
def wR:(oh ρ).Ok (jv ρ):=⟨by kernel_rfl,fun p v kn a=>by kernel_rfl⟩
def Bz (x:c8) (k:ag->so ρ) :
    Kl (jv ρ) 160 [aj] [af] x k=tC x k:=by kernel_rfl
def Bw:(sj ρ).Ok (Bx ρ):=⟨by kernel_rfl,fun p v kn a=>by kernel_rfl⟩
def yU:(((ū (š ρ).P 40).elim [] (Õ 0)).filter fun y=>Nat.beq y.1 0).length=1:=by kernel_rfl
def BN:N0 (sG (ū (š ρ).P 40) 0)=true:=by kernel_rfl
def BM (p:rF) (v a:rT):(à ű [.str,tI,tI,tI,tI,tI,tI] [tI,tI,ac,aa,ae,ab,aa,tI,tI,tI,ac,aa,ae,ab,aa] p a).t=(à ű [.str,tI,tI,tI,tI,tI,tI] [tI,tI,ac,aa,ae,ab,aa,tI,tI,tI,ac,aa,ae,ab,aa] p v).t:=by kernel_rfl
def BJ (p:rF) (v:rT) (z:Val ax):(à sF [.str,tI,tI,tI,tI,tI,tI] [tI,tI,ac,aa,ae,ab,aa,tI] p z).t=(à ű [.str,tI,tI,tI,tI,tI,tI] [tI,tI,ac,aa,ae,ab,aa,tI,tI,tI,ac,aa,ae,ab,aa] p v).t:=by kernel_rfl
def BK (p:rF) (v:rT):(à ű [.str,tI,tI,tI,tI,tI,tI] [tI,tI,ac,aa,ae,ab,aa,tI,tI,tI,ac,aa,ae,ab,aa] p v).t.all (st3 18)=true:=by kernel_rfl
def yW (p:rF) (v:rT) (y:ByteArray) (kn:rF->rT->so ρ) (f:rF->Val ax->so ρ):HM (š ρ) (Ō (š ρ) (10-0 / 2)) 40 [] 18 0 (sG (ū (š ρ).P 40) 0) (à ű [.str,tI,tI,tI,tI,tI,tI] [tI,tI,ac,aa,ae,ab,aa,tI,tI,tI,ac,aa,ae,ab,aa] p v) (.str y) (lX.back kn f)=iJ p.2.1 p.2.2.1 p.2.2.2.1 p.2.2.2.2.1 p.2.2.2.2.2.1 p.2.2.2.2.2.2 v.1 v.2.1 v.2.2.1 v.2.2.2.1 v.2.2.2.2.1 v.2.2.2.2.2.1 v.2.2.2.2.2.2.1 v.2.2.2.2.2.2.2.1 v.2.2.2.2.2.2.2.2.1 v.2.2.2.2.2.2.2.2.2.1 v.2.2.2.2.2.2.2.2.2.2.1 v.2.2.2.2.2.2.2.2.2.2.2.1 v.2.2.2.2.2.2.2.2.2.2.2.2.1 v.2.2.2.2.2.2.2.2.2.2.2.2.2.1 v.2.2.2.2.2.2.2.2.2.2.2.2.2.2 y (fun n u1 m l k j i h u8 g e d c b a=>kn p (n,u1,m,l,k,j,i,h,u8,g,e,d,c,b,a)) (f p):=by kernel_rfl
def yV (p:rF) (v:rT) (y:ByteArray) (kn:rF->rT->so ρ) (f:rF->Val ax->so ρ):iJ p.2.1 p.2.2.1 p.2.2.2.1 p.2.2.2.2.1 p.2.2.2.2.2.1 p.2.2.2.2.2.2 v.1 v.2.1 v.2.2.1 v.2.2.2.1 v.2.2.2.2.1 v.2.2.2.2.2.1 v.2.2.2.2.2.2.1 v.2.2.2.2.2.2.2.1 v.2.2.2.2.2.2.2.2.1 v.2.2.2.2.2.2.2.2.2.1 v.2.2.2.2.2.2.2.2.2.2.1 v.2.2.2.2.2.2.2.2.2.2.2.1 v.2.2.2.2.2.2.2.2.2.2.2.2.1 v.2.2.2.2.2.2.2.2.2.2.2.2.2.1 v.2.2.2.2.2.2.2.2.2.2.2.2.2.2 y (fun n u1 m l k j i h u8 g e d c b a=>kn p (n,u1,m,l,k,j,i,h,u8,g,e,d,c,b,a)) (f p)=Â (Ĭ p.2.1 p.2.2.1 p.2.2.2.1 p.2.2.2.2.1 p.2.2.2.2.2.1 p.2.2.2.2.2.2 v y) (Wn (kn p) (f p)):=by
  unfold Ĭ iJ
  simp only[Um,WI,WH,Ul,Uj,Uk,nat_ck,Ui,Wn]
def Gm (x:Val .str) (k:kN->so ρ) :
    Kl (š ρ) 40 [.str] [Ã,tI] x k=BP x k:=by kernel_rfl
def wO:(oe ρ).Ok (ju ρ):=⟨by kernel_rfl,fun p v kn a=>by kernel_rfl⟩
def Bn (x:c8) (k:ag->so ρ) :
    Kl (ju ρ) 43 [aj] [af] x k=Bo x k:=by kernel_rfl
def Bu:(sg ρ).Ok (np ρ):=⟨by kernel_rfl,fun p v kn a=>by kernel_rfl⟩
def Gb (x:Val .str) (k:(Val (.pair ĩ tI))->so ρ) :
    Kl (np ρ) 10 [.str] [ĩ,tI] x k=vr x k:=by kernel_rfl
def tp:(kW ρ).Ok (pd ρ):=⟨by kernel_rfl,fun p v kn a=>by kernel_rfl⟩
def ru:(km ρ).Ok (ob ρ):=⟨by kernel_rfl,fun p v kn a=>by kernel_rfl⟩
def AU:(rW ρ).Ok (kj ρ):=⟨by kernel_rfl,fun p v kn a=>by kernel_rfl⟩
def AR:(rV ρ).Ok (kj ρ):=⟨by kernel_rfl,fun p v kn a=>by kernel_rfl⟩
def AQ:(rU ρ).Ok (kj ρ):=⟨by kernel_rfl,fun p v kn a=>by kernel_rfl⟩
def AP:(rS ρ).Ok (kj ρ):=⟨by kernel_rfl,fun p v kn a=>by kernel_rfl⟩
def tv:(lh ρ).Ok (pH ρ):=⟨by kernel_rfl,fun p v kn a=>by kernel_rfl⟩
def tc (x:Val (.pair ĩ .str)) (k:Bool->so ρ) :
    Kl (mh ρ) 3 [ĩ,.str] [.bool] x k=ke x.1 x.2 k:=by kernel_rfl
end Go.Proofs.ZzM
end
