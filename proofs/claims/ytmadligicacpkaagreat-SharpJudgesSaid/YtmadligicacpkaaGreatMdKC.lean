/- lemmas -/
import Derived.Test.YtmadligicacpkaaGreatMdMA
set_option linter.all false
set_option linter.unusedSectionVars false
set_option linter.unusedVariables false
set_option linter.unusedSimpArgs false
noncomputable section
variable {ρ:Type}
set_option maxRecDepth 100000
namespace Go.Proofs.ZzM
open Go Go.Am
def RH (x:Val Í) (k:Bool→Option ρ) :
    ĉ (Kg ρ) 30 (Ă [Í] x) (fun h v=>Ã (Ć [.bool] h v) k)=Ig x k:=by kernel_rfl
def RG:(EC ρ).Ok (If ρ):=⟨by kernel_rfl,fun p v kn kx=>by kernel_rfl⟩
def ZW (x:Val Ä) (k:Bool→Option ρ) :
    ĉ (If ρ) 10 (Ă [Ä] x) (fun h v=>Ã (Ć [.bool] h v) k)=VZ x k:=by kernel_rfl
def kQ:(gQ ρ).Ok (ŧ ρ):=⟨by kernel_rfl,fun p v kn kx=>by kernel_rfl⟩
def mc (x:Val aX) (k:Int→Option ρ) :
    ĉ (ŧ ρ) 136 (Ă [aa,Â] x) (fun h v=>Ã (Ć [tI] h v) k)=ź x.1 x.2 k:=by kernel_rfl
def XL (x:Val aD) (k:Val Â→Option ρ) :
    ĉ (Qo ρ) 67 (Ă [Ä,Â] x) (fun h v=>Ã (Ć [tI,tI] h v) k)=Qp x.1 x.2 k:=by kernel_rfl
def Pc (x:Val aR) (k:Int→Option ρ) :
    ĉ (Fh ρ) 50 (Ă [ax,Â] x) (fun h v=>Ã (Ć [tI] h v) k)=Db x.1 x.2 k:=by kernel_rfl
def F1:(td ρ).Ok (κ ρ):=⟨by kernel_rfl,fun p v kn kx=>by kernel_rfl⟩
def F0:(ta ρ).Ok (κ ρ):=⟨by kernel_rfl,fun p v kn kx=>by kernel_rfl⟩
def FY:(s7 ρ).Ok (κ ρ):=⟨by kernel_rfl,fun p v kn kx=>by kernel_rfl⟩
def FZ:(s9 ρ).Ok (κ ρ):=⟨by kernel_rfl,fun p v kn kx=>by kernel_rfl⟩
def FX:(sZ ρ).Ok (κ ρ):=⟨by kernel_rfl,fun p v kn kx=>by kernel_rfl⟩
def Mn (x:Val (.pair Ì ak)) (k:(Val (.pair ae .bool))→Option ρ) :
    ĉ (κ ρ) 117 (Ă [Ì,ak] x) (fun h v=>Ã (Ć [ae,.bool] h v) k)=yy x.1 x.2 k:=by kernel_rfl
def aaD (x:Val (.pair Ì tI)) (k:Bool→Option ρ) :
    ĉ (Ur ρ) 139 (Ă [Ì,tI] x) (fun h v=>Ã (Ć [.bool] h v) k)=W8 x.1 x.2 k:=by kernel_rfl
def PL:(BW ρ).Ok (Dp ρ):=⟨by kernel_rfl,fun p v kn kx=>by kernel_rfl⟩
def Xd (x:Val Ì) (k:Val Â→Option ρ) :
    ĉ (Dp ρ) 138 (Ă [Ì] x) (fun h v=>Ã (Ć [tI,tI] h v) k)=PM x k:=by kernel_rfl
def PC:(BK ρ).Ok (Dn ρ):=⟨by kernel_rfl,fun p v kn kx=>by kernel_rfl⟩
def Xb (x:Val aU) (k:Int→Option ρ) :
    ĉ (Dn ρ) 112 (Ă [Ì,ae] x) (fun h v=>Ã (Ć [tI] h v) k)=PD x.1 x.2 k:=by kernel_rfl
def Mu:(yH ρ).Ok (jf ρ):=⟨by kernel_rfl,fun p v kn kx=>by kernel_rfl⟩
def Ms:(yF ρ).Ok (jf ρ):=⟨by kernel_rfl,fun p v kn kx=>by kernel_rfl⟩
def Mr:(yD ρ).Ok (jf ρ):=⟨by kernel_rfl,fun p v kn kx=>by kernel_rfl⟩
def Mp:(yA ρ).Ok (jf ρ):=⟨by kernel_rfl,fun p v kn kx=>by kernel_rfl⟩
def Mq:(yC ρ).Ok (jf ρ):=⟨by kernel_rfl,fun p v kn kx=>by kernel_rfl⟩
def SY (x:Val (.pair Ì (.pair ak tI))) (k:(Val ae)→Option ρ) :
    ĉ (jf ρ) 120 (Ă [Ì,ak,tI] x) (fun h v=>Ã (Ć [ae] h v) k)=I9 x.1 x.2.1 x.2.2 k:=by kernel_rfl
def Xf (x:Val aY) (k:Val Â→Option ρ) :
    ĉ (PR ρ) 114 (Ă [Ì,tI,tI] x) (fun h v=>Ã (Ć [tI,tI] h v) k)=PS x.1 x.2.1 x.2.2 k:=by kernel_rfl
def Fg (x:Val aR) (k:Int→Option ρ) :
    ĉ (wp ρ) 51 (Ă [ax,tI,tI] x) (fun h v=>Ã (Ć [tI] h v) k)=rE x.1 x.2.1 x.2.2 k:=by kernel_rfl
def Ff (x:Val aR) (k:Int→Option ρ) :
    ĉ (wo ρ) 64 (Ă [ax,Â] x) (fun h v=>Ã (Ć [tI] h v) k)=rD x.1 x.2 k:=by kernel_rfl
def yf (x:Val aR) (k:Int→Option ρ) :
    ĉ (pp ρ) 65 (Ă [ax,Â] x) (fun h v=>Ã (Ć [tI] h v) k)=mh x.1 x.2 k:=by kernel_rfl
def ye (x:Val aR) (k:Val Â→Option ρ) :
    ĉ (kh ρ) 48 (Ă [ax,Â] x) (fun h v=>Ã (Ć [Â] h v) k)=mg x.1 x.2 k:=by kernel_rfl
def Mz (x:Val (.pair aT aE)) (k:Int→Option ρ) :
    ĉ (Cb ρ) 198 (Ă [aT,ae,tI] x) (fun h v=>Ã (Ć [tI] h v) k)=yP x.1 x.2.1 x.2.2 k:=by kernel_rfl
def AM (x:Val (.pair aq ae)) (k:Val Â→Option ρ) :
    ĉ (qY ρ) 263 (Ă [aq,ae] x) (fun h v=>Ã (Ć [Â] h v) k)=nH x.1 x.2 k:=by kernel_rfl
def PT:(B6 ρ).Ok (Dq ρ):=⟨by kernel_rfl,fun p v kn kx=>by kernel_rfl⟩
def Xg (x:Val aa) (k:Int→Option ρ) :
    ĉ (Dq ρ) 266 (Ă [aa] x) (fun h v=>Ã (Ć [tI] h v) k)=PU x k:=by kernel_rfl
def PV (x:Val Â) (k:Val Ł→Option ρ) :
    ĉ (Gd ρ) 294 (Ă [tI,tI] x) (fun h v=>Ã (Ć [Â,tI] h v) k)=Dr x.1 x.2 k:=by kernel_rfl
def adv (x:Val ä) (k:Val Ł→Option ρ) :
    ĉ (aaQ ρ) 283 (Ă [Â,Â] x) (fun h v=>Ã (Ć [Â,tI] h v) k)=adw x.1 x.2 k:=by kernel_rfl
def Ji (x:Val ä) (k:Val Â→Option ρ) :
    ĉ (yN ρ) 264 (Ă [Â,Â] x) (fun h v=>Ã (Ć [Â] h v) k)=vd x.1 x.2 k:=by kernel_rfl
def adt (x:Val ä) (k:Int→Option ρ) :
    ĉ (aaO ρ) 300 (Ă [Â,Â] x) (fun h v=>Ã (Ć [tI] h v) k)=adu x.1 x.2 k:=by kernel_rfl
def Gh (x:Val ä) (k:Bool→Option ρ) :
    ĉ (wL ρ) 295 (Ă [ä] x) (fun h v=>Ã (Ć [.bool] h v) k)=rR x k:=by kernel_rfl
def adx (x:Val ä) (k:Val Ł→Option ρ) :
    ĉ (aaS ρ) 298 (Ă [Â,Â] x) (fun h v=>Ã (Ć [Â,tI] h v) k)=ady x.1 x.2 k:=by kernel_rfl
def Xl (x:Val (.pair ä Â)) (k:Val sg→Option ρ) :
    ĉ (Ds ρ) 284 (Ă [ä,Â] x) (fun h v=>Ã (Ć [ä,tI] h v) k)=P3 x.1 x.2 k:=by kernel_rfl
def Jh (x:Val ä) (k:Val ä→Option ρ) :
    ĉ (yM ρ) 265 (Ă [Â,Â] x) (fun h v=>Ã (Ć [ä] h v) k)=vc x.1 x.2 k:=by kernel_rfl
def Tn (x:Val aB) (k:Val ä→Option ρ) :
    ĉ (K7 ρ) 238 (Ă [Ä,Í] x) (fun h v=>Ã (Ć [ä] h v) k)=Jl x.1 x.2 k:=by kernel_rfl
def XC (x:Val aB) (k:Val Â→Option ρ) :
    ĉ (Ql ρ) 239 (Ă [Ä,Í] x) (fun h v=>Ã (Ć [Â] h v) k)=Qm x.1 x.2 k:=by kernel_rfl
def Xj (x:Val Â) (k:Int→Option ρ) :
    ĉ (PY ρ) 267 (Ă [tI,tI] x) (fun h v=>Ã (Ć [tI] h v) k)=Gf x.1 x.2 k:=by kernel_rfl
def aaU (x:Val Â) (k:Val Â→Option ρ) :
    ĉ (UA ρ) 240 (Ă [Â] x) (fun h v=>Ã (Ć [tI,tI] h v) k)=Xn x k:=by kernel_rfl
def Xm (x:Val Â) (k:Val Â→Option ρ) :
    ĉ (P5 ρ) 241 (Ă [Â] x) (fun h v=>Ã (Ć [tI,tI] h v) k)=P6 x k:=by kernel_rfl
def aaX (x:Val aB) (k:Val Â→Option ρ) :
    ĉ (UB ρ) 203 (Ă [Ä,Í] x) (fun h v=>Ã (Ć [Â] h v) k)=Xr x.1 x.2 k:=by kernel_rfl
def Th:(Gx ρ).Ok (zT ρ):=⟨by kernel_rfl,fun p v kn kx=>by kernel_rfl⟩
def Tg:(Gv ρ).Ok (zT ρ):=⟨by kernel_rfl,fun p v kn kx=>by kernel_rfl⟩
def aa0 (x:Val (.pair Ä (.pair Ñ Â))) (k:Int→Option ρ) :
    ĉ (zT ρ) 235 (Ă [Ä,Ñ,tI,tI] x) (fun h v=>Ã (Ć [tI] h v) k)=Xu x.1 x.2.1 x.2.2.1 x.2.2.2 k:=by kernel_rfl
def Te:(Gr ρ).Ok (tk ρ):=⟨by kernel_rfl,fun p v kn kx=>by kernel_rfl⟩
def Tf:(Gt ρ).Ok (tk ρ):=⟨by kernel_rfl,fun p v kn kx=>by kernel_rfl⟩
def Td:(Gp ρ).Ok (tk ρ):=⟨by kernel_rfl,fun p v kn kx=>by kernel_rfl⟩
def aaZ (x:Val Ä) (k:(Val aT)→Option ρ) :
    ĉ (tk ρ) 137 (Ă [Ä] x) (fun h v=>Ã (Ć [aT] h v) k)=Xt x k:=by kernel_rfl
def Tt (x:Val Ä) (k:(Val (.pair Ì (.pair aa tI)))→Option ρ) :
    ĉ (Lb ρ) 68 (Ă [Ä] x) (fun h v=>Ã (Ć [Ì,aa,tI] h v) k)=Jp x k:=by kernel_rfl
def Tv:(GO ρ).Ok (Jq ρ):=⟨by kernel_rfl,fun p v kn kx=>by kernel_rfl⟩
def aa8 (x:Val aD) (k:(Val aI)→Option ρ) :
    ĉ (Jq ρ) 110 (Ă [Ä,Â] x) (fun h v=>Ã (Ć [Ä,tI] h v) k)=XK x.1 x.2 k:=by kernel_rfl
def F5 (x:Val Ì) (k:(Val aV)→Option ρ) :
    ĉ (wI ρ) 111 (Ă [Ì] x) (fun h v=>Ã (Ć [.bool,tI] h v) k)=rO x k:=by kernel_rfl
def FT:(sW ρ).Ok (rJ ρ):=⟨by kernel_rfl,fun p v kn kx=>by kernel_rfl⟩
def Mk (x:Val aD) (k:Val Ł→Option ρ) :
    ĉ (rJ ρ) 12 (Ă [Ä,Â] x) (fun h v=>Ã (Ć [Â,tI] h v) k)=yr x.1 x.2 k:=by kernel_rfl
def I3:(wD ρ).Ok (uS ρ):=⟨by kernel_rfl,fun p v kn kx=>by kernel_rfl⟩
def Px (x:Val (.pair Ä ä)) (k:Val Ł→Option ρ) :
    ĉ (uS ρ) 14 (Ă [Ä,Â,Â] x) (fun h v=>Ã (Ć [Â,tI] h v) k)=Dl x.1 x.2.1 x.2.2 k:=by kernel_rfl
def Pa (x:Val ä) (k:Int→Option ρ) :
    ĉ (Fc ρ) 57 (Ă [Â,Â] x) (fun h v=>Ã (Ć [tI] h v) k)=C7 x.1 x.2 k:=by kernel_rfl
def Pq:(BI ρ).Ok (Dj ρ):=⟨by kernel_rfl,fun p v kn kx=>by kernel_rfl⟩
def W4 (x:Val (.pair Ä ä)) (k:Val Â→Option ρ) :
    ĉ (Dj ρ) 21 (Ă [Ä,Â,Â] x) (fun h v=>Ã (Ć [tI,tI] h v) k)=Pr x.1 x.2.1 x.2.2 k:=by kernel_rfl
def adp:(Ux ρ).Ok (I8 ρ):=⟨by kernel_rfl,fun p v kn kx=>by kernel_rfl⟩
def adn:(Uu ρ).Ok (I8 ρ):=⟨by kernel_rfl,fun p v kn kx=>by kernel_rfl⟩
def adm:(Us ρ).Ok (I8 ρ):=⟨by kernel_rfl,fun p v kn kx=>by kernel_rfl⟩
def ado:(Uw ρ).Ok (I8 ρ):=⟨by kernel_rfl,fun p v kn kx=>by kernel_rfl⟩
def aiS (x:Val aY) (k:(Val am)→Option ρ) :
    ĉ (I8 ρ) 122 (Ă [Ì,tI,tI] x) (fun h v=>Ã (Ć [am] h v) k)=PA x.1 x.2.1 x.2.2 k:=by kernel_rfl
def PP:(B4 ρ).Ok (pz ρ):=⟨by kernel_rfl,fun p v kn kx=>by kernel_rfl⟩
def PN:(BX ρ).Ok (pz ρ):=⟨by kernel_rfl,fun p v kn kx=>by kernel_rfl⟩
def PO:(B0 ρ).Ok (pz ρ):=⟨by kernel_rfl,fun p v kn kx=>by kernel_rfl⟩
def Xe (x:Val aY) (k:(Val aE)→Option ρ) :
    ĉ (pz ρ) 61 (Ă [Ì,tI,tI] x) (fun h v=>Ã (Ć [ae,tI] h v) k)=PQ x.1 x.2.1 x.2.2 k:=by kernel_rfl
def I2 (x:Val (.pair ax (.pair aS (.ptr .bool)))) (k:(Val ae)→Option ρ) :
    ĉ (yw ρ) 60 (Ă [ax,aS,(.ptr .bool)] x) (fun h v=>Ã (Ć [ae] h v) k)=uR x.1 x.2.1 x.2.2 k:=by kernel_rfl
def IH:(wn ρ).Ok (uF ρ):=⟨by kernel_rfl,fun p v kn kx=>by kernel_rfl⟩
def Pb (x:Val (.pair Ä ae)) (k:(Val aa)→Option ρ) :
    ĉ (uF ρ) 63 (Ă [Ä,ae] x) (fun h v=>Ã (Ć [aa] h v) k)=Da x.1 x.2 k:=by kernel_rfl
def I1:(wB ρ).Ok (lq ρ):=⟨by kernel_rfl,fun p v kn kx=>by kernel_rfl⟩
def I0:(wz ρ).Ok (lq ρ):=⟨by kernel_rfl,fun p v kn kx=>by kernel_rfl⟩
def Pw (x:Val (.pair Ä (.pair Â .bool))) (k:(Val (.pair υ tI))→Option ρ) :
    ĉ (lq ρ) 24 (Ă [Ä,Â,.bool] x) (fun h v=>Ã (Ć [υ,tI] h v) k)=Dk x.1 x.2.1 x.2.2 k:=by kernel_rfl
def I7:(wG ρ).Ok (uU ρ):=⟨by kernel_rfl,fun p v kn kx=>by kernel_rfl⟩
def Pz (x:Val aU) (k:Int→Option ρ) :
    ĉ (uU ρ) 140 (Ă [Ì,ae] x) (fun h v=>Ã (Ć [tI] h v) k)=Dm x.1 x.2 k:=by kernel_rfl
def SW:(FW ρ).Ok (I4 ρ):=⟨by kernel_rfl,fun p v kn kx=>by kernel_rfl⟩
def aaC (x:Val (.pair Ì ay)) (k:(Val (.pair tI (.pair tI .bool)))→Option ρ) :
    ĉ (I4 ρ) 141 (Ă [Ì,tI,ae] x) (fun h v=>Ã (Ć [tI,tI,.bool] h v) k)=W7 x.1 x.2.1 x.2.2 k:=by kernel_rfl
def F9 (x:Val (.pair Ì (.pair tI ay))) (k:Val Â→Option ρ) :
    ĉ (wK ρ) 69 (Ă [Ì,tI,tI,ae] x) (fun h v=>Ã (Ć [tI,tI] h v) k)=rQ x.1 x.2.1 x.2.2.1 x.2.2.2 k:=by kernel_rfl
def IZ (x:Val υ) (k:Int→Option ρ) :
    ĉ (yu ρ) 25 (Ă [υ] x) (fun h v=>Ã (Ć [tI] h v) k)=uQ x k:=by kernel_rfl
def Ts:(GK ρ).Ok (Jo ρ):=⟨by kernel_rfl,fun p v kn kx=>by kernel_rfl⟩
def aa6 (x:Val aB) (k:(Val aI)→Option ρ) :
    ĉ (Jo ρ) 147 (Ă [Ä,Í] x) (fun h v=>Ã (Ć [Ä,tI] h v) k)=XH x.1 x.2 k:=by kernel_rfl
def Xq (x:Val (.pair Ä (.pair Í Â))) (k:Val Ł→Option ρ) :
    ĉ (P9 ρ) 200 (Ă [Ä,Í,Â] x) (fun h v=>Ã (Ć [Â,tI] h v) k)=Qa x.1 x.2.1 x.2.2 k:=by kernel_rfl
def Qn (x:Val aB) (k:Val Ł→Option ρ) :
    ĉ (GN ρ) 146 (Ă [Ä,Í] x) (fun h v=>Ã (Ć [Â,tI] h v) k)=DB x.1 x.2 k:=by kernel_rfl
def Xp (x:Val aI) (k:(Val (.pair Í tI))→Option ρ) :
    ĉ (P7 ρ) 202 (Ă [Ä,tI] x) (fun h v=>Ã (Ć [Í,tI] h v) k)=P8 x.1 x.2 k:=by kernel_rfl
def aa7 (x:Val aI) (k:Val Ł→Option ρ) :
    ĉ (UC ρ) 148 (Ă [Ä,tI] x) (fun h v=>Ã (Ć [Â,tI] h v) k)=XJ x.1 x.2 k:=by kernel_rfl
def Tw (x:Val bc) (k:(Val (.pair ae aE))→Option ρ) :
    ĉ (Le ρ) 149 (Ă [ae,ae] x) (fun h v=>Ã (Ć [ae,ae,tI] h v) k)=Jr x.1 x.2 k:=by kernel_rfl
def Me (x:Val (.pair ae (.pair ax (.ptr Í)))) (k:Int→Option ρ) :
    ĉ (BB ρ) 150 (Ă [ae,ax,(.ptr Í)] x) (fun h v=>Ã (Ć [tI] h v) k)=yk x.1 x.2.1 x.2.2 k:=by kernel_rfl
def Md (x:Val (.pair tI (.pair tI (.pair ax (.pair (.ptr tI) (.pair aS (.ptr tI))))))) (k:Val ÿ→Option ρ) :
    ĉ (BA ρ) 151 (Ă [tI,tI,ax,(.ptr tI),aS,(.ptr tI)] x) (fun h v=>Ã (Ć [ÿ] h v) k)=yj x.1 x.2.1 x.2.2.1 x.2.2.2.1 x.2.2.2.2.1 x.2.2.2.2.2 k:=by kernel_rfl
def Mc:(yh ρ).Ok (qI ρ):=⟨by kernel_rfl,fun p v kn kx=>by kernel_rfl⟩
def SI (x:Val (.pair ax aW)) (k:(Val (.pair ŵ tI))→Option ρ) :
    ĉ (qI ρ) 76 (Ă [ax,Â,Í] x) (fun h v=>Ã (Ć [ŵ,tI] h v) k)=IK x.1 x.2.1 x.2.2 k:=by kernel_rfl
def IL (x:Val ÿ) (k:(Val ae)→Option ρ) :
    ĉ (yl ρ) 82 (Ă [ÿ] x) (fun h v=>Ã (Ć [ae] h v) k)=uI x k:=by kernel_rfl
end Go.Proofs.ZzM
end
