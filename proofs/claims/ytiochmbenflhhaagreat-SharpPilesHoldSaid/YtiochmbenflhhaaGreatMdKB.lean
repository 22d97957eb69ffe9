/- lemmas -/
import Derived.Test.YtiochmbenflhhaaGreatMdMA
set_option linter.all false
set_option linter.unusedSectionVars false
set_option linter.unusedVariables false
set_option linter.unusedSimpArgs false
noncomputable section
variable {ρ:Type}
set_option maxRecDepth 100000
namespace Go.Proofs.ZzM
open Go Go.Am
def NA (x:Val Î) (k:Bool→Option ρ) :
    ĵ (HC ρ) 33 (ĥ [Î] x) (fun h v=>Â (Ĭ [.bool] h v) k)=FT x k:=by kernel_rfl
def Nz:(CM ρ).Ok (FS ρ):=⟨by kernel_rfl,fun p v kn kx=>by kernel_rfl⟩
def Uj (x:Val Ä) (k:Bool→Option ρ) :
    ĵ (FS ρ) 7 (ĥ [Ä] x) (fun h v=>Â (Ĭ [.bool] h v) k)=QV x k:=by kernel_rfl
def kr:(ο ρ).Ok (ŝ ρ):=⟨by kernel_rfl,fun p v kn kx=>by kernel_rfl⟩
def lF (x:Val aY) (k:Int→Option ρ) :
    ĵ (ŝ ρ) 119 (ĥ [aa,Ã] x) (fun h v=>Â (Ĭ [tI] h v) k)=ű x.1 x.2 k:=by kernel_rfl
def RY (x:Val aO) (k:Val Ã→Option ρ) :
    ĵ (Ma ρ) 53 (ĥ [Ä,Ã] x) (fun h v=>Â (Ĭ [tI,tI] h v) k)=Mb x.1 x.2 k:=by kernel_rfl
def KU (x:Val aT) (k:Int→Option ρ) :
    ĵ (C5 ρ) 50 (ĥ [ak,Ã] x) (fun h v=>Â (Ĭ [tI] h v) k)=Bt x.1 x.2 k:=by kernel_rfl
def UA (x:Val (.pair Ð tI)) (k:Bool→Option ρ) :
    ĵ (Pm ρ) 173 (ĥ [Ð,tI] x) (fun h v=>Â (Ĭ [.bool] h v) k)=Ri x.1 x.2 k:=by kernel_rfl
def Lt:(Ab ρ).Ok (BF ρ):=⟨by kernel_rfl,fun p v kn kx=>by kernel_rfl⟩
def Rq (x:Val Ð) (k:Val Ã→Option ρ) :
    ĵ (BF ρ) 146 (ĥ [Ð] x) (fun h v=>Â (Ĭ [tI,tI] h v) k)=Lu x k:=by kernel_rfl
def DP:(sH ρ).Ok (δ ρ):=⟨by kernel_rfl,fun p v kn kx=>by kernel_rfl⟩
def DN:(sF ρ).Ok (δ ρ):=⟨by kernel_rfl,fun p v kn kx=>by kernel_rfl⟩
def DL:(sr ρ).Ok (δ ρ):=⟨by kernel_rfl,fun p v kn kx=>by kernel_rfl⟩
def DM:(sv ρ).Ok (δ ρ):=⟨by kernel_rfl,fun p v kn kx=>by kernel_rfl⟩
def DK:(sq ρ).Ok (δ ρ):=⟨by kernel_rfl,fun p v kn kx=>by kernel_rfl⟩
def Ja (x:Val (.pair Ð ao)) (k:(Val bg)→Option ρ) :
    ĵ (δ ρ) 147 (ĥ [Ð,ao] x) (fun h v=>Â (Ĭ [ab,.bool] h v) k)=xa x.1 x.2 k:=by kernel_rfl
def Lj:(zR ρ).Ok (BD ρ):=⟨by kernel_rfl,fun p v kn kx=>by kernel_rfl⟩
def Rl (x:Val aW) (k:Int→Option ρ) :
    ĵ (BD ρ) 184 (ĥ [Ð,ab] x) (fun h v=>Â (Ĭ [tI] h v) k)=Ll x.1 x.2 k:=by kernel_rfl
def Jg:(xl ρ).Ok (iW ρ):=⟨by kernel_rfl,fun p v kn kx=>by kernel_rfl⟩
def Jf:(xi ρ).Ok (iW ρ):=⟨by kernel_rfl,fun p v kn kx=>by kernel_rfl⟩
def Je:(xg ρ).Ok (iW ρ):=⟨by kernel_rfl,fun p v kn kx=>by kernel_rfl⟩
def Jc:(xc ρ).Ok (iW ρ):=⟨by kernel_rfl,fun p v kn kx=>by kernel_rfl⟩
def Jd:(xe ρ).Ok (iW ρ):=⟨by kernel_rfl,fun p v kn kx=>by kernel_rfl⟩
def N3 (x:Val (.pair Ð (.pair ao tI))) (k:(Val ab)→Option ρ) :
    ĵ (iW ρ) 185 (ĥ [Ð,ao,tI] x) (fun h v=>Â (Ĭ [ab] h v) k)=Gk x.1 x.2.1 x.2.2 k:=by kernel_rfl
def Rs (x:Val aZ) (k:Val Ã→Option ρ) :
    ĵ (Lz ρ) 118 (ĥ [Ð,tI,tI] x) (fun h v=>Â (Ĭ [tI,tI] h v) k)=LA x.1 x.2.1 x.2.2 k:=by kernel_rfl
def C4 (x:Val aT) (k:Int→Option ρ) :
    ĵ (vn ρ) 52 (ĥ [ak,tI,tI] x) (fun h v=>Â (Ĭ [tI] h v) k)=qQ x.1 x.2.1 x.2.2 k:=by kernel_rfl
def C3 (x:Val aT) (k:Int→Option ρ) :
    ĵ (vm ρ) 96 (ĥ [ak,Ã] x) (fun h v=>Â (Ĭ [tI] h v) k)=qP x.1 x.2 k:=by kernel_rfl
def wF (x:Val aT) (k:Int→Option ρ) :
    ĵ (oK ρ) 97 (ĥ [ak,Ã] x) (fun h v=>Â (Ĭ [tI] h v) k)=lL x.1 x.2 k:=by kernel_rfl
def wE (x:Val aT) (k:Val Ã→Option ρ) :
    ĵ (jK ρ) 42 (ĥ [ak,Ã] x) (fun h v=>Â (Ĭ [Ã] h v) k)=lK x.1 x.2 k:=by kernel_rfl
def OB:(EI ρ).Ok (GD ρ):=⟨by kernel_rfl,fun p v kn kx=>by kernel_rfl⟩
def U6 (x:Val aO) (k:(Val aS)→Option ρ) :
    ĵ (GD ρ) 54 (ĥ [Ä,Ã] x) (fun h v=>Â (Ĭ [Ä,tI] h v) k)=RX x.1 x.2 k:=by kernel_rfl
def Jk (x:Val (.pair aF aG)) (k:Int→Option ρ) :
    ĵ (Ap ρ) 205 (ĥ [aF,ab,tI] x) (fun h v=>Â (Ĭ [tI] h v) k)=xu x.1 x.2.1 x.2.2 k:=by kernel_rfl
def Ol:(Eo ρ).Ok (yn ρ):=⟨by kernel_rfl,fun p v kn kx=>by kernel_rfl⟩
def Oj:(Em ρ).Ok (yn ρ):=⟨by kernel_rfl,fun p v kn kx=>by kernel_rfl⟩
def UY (x:Val (.pair Ä (.pair Ï Ã))) (k:Int→Option ρ) :
    ĵ (yn ρ) 207 (ĥ [Ä,Ï,tI,tI] x) (fun h v=>Â (Ĭ [tI] h v) k)=RH x.1 x.2.1 x.2.2.1 x.2.2.2 k:=by kernel_rfl
def ze (x:Val (.pair au ab)) (k:Val Ã→Option ρ) :
    ĵ (qp ρ) 258 (ĥ [au,ab] x) (fun h v=>Â (Ĭ [Ã] h v) k)=mY x.1 x.2 k:=by kernel_rfl
def LB:(Ai ρ).Ok (BG ρ):=⟨by kernel_rfl,fun p v kn kx=>by kernel_rfl⟩
def Rt (x:Val aa) (k:Int→Option ρ) :
    ĵ (BG ρ) 261 (ĥ [aa] x) (fun h v=>Â (Ĭ [tI] h v) k)=LC x k:=by kernel_rfl
def LD (x:Val Ã) (k:Val jn→Option ρ) :
    ĵ (D5 ρ) 285 (ĥ [tI,tI] x) (fun h v=>Â (Ĭ [Ã,tI] h v) k)=BH x.1 x.2 k:=by kernel_rfl
def Xk (x:Val ü) (k:Val jn→Option ρ) :
    ĵ (UO ρ) 275 (ĥ [Ã,Ã] x) (fun h v=>Â (Ĭ [Ã,tI] h v) k)=Xl x.1 x.2 k:=by kernel_rfl
def Gu (x:Val ü) (k:Val Ã→Option ρ) :
    ĵ (xq ρ) 259 (ĥ [Ã,Ã] x) (fun h v=>Â (Ĭ [Ã] h v) k)=uf x.1 x.2 k:=by kernel_rfl
def Xi (x:Val ü) (k:Int→Option ρ) :
    ĵ (UM ρ) 291 (ĥ [Ã,Ã] x) (fun h v=>Â (Ĭ [tI] h v) k)=Xj x.1 x.2 k:=by kernel_rfl
def D8 (x:Val ü) (k:Bool→Option ρ) :
    ĵ (vF ρ) 286 (ĥ [ü] x) (fun h v=>Â (Ĭ [.bool] h v) k)=re x k:=by kernel_rfl
def Xm (x:Val ü) (k:Val jn→Option ρ) :
    ĵ (UQ ρ) 289 (ĥ [Ã,Ã] x) (fun h v=>Â (Ĭ [Ã,tI] h v) k)=Xn x.1 x.2 k:=by kernel_rfl
def Ry (x:Val (.pair ü Ã)) (k:Val aa8→Option ρ) :
    ĵ (BI ρ) 276 (ĥ [ü,Ã] x) (fun h v=>Â (Ĭ [ü,tI] h v) k)=LN x.1 x.2 k:=by kernel_rfl
def Gt (x:Val ü) (k:Val ü→Option ρ) :
    ĵ (xp ρ) 260 (ĥ [Ã,Ã] x) (fun h v=>Â (Ĭ [ü] h v) k)=ue x.1 x.2 k:=by kernel_rfl
def Ou (x:Val aL) (k:Val ü→Option ρ) :
    ĵ (Ib ρ) 243 (ĥ [Ä,Î] x) (fun h v=>Â (Ĭ [ü] h v) k)=Gy x.1 x.2 k:=by kernel_rfl
def RP (x:Val aL) (k:Val Ã→Option ρ) :
    ĵ (L7 ρ) 244 (ĥ [Ä,Î] x) (fun h v=>Â (Ĭ [Ã] h v) k)=L8 x.1 x.2 k:=by kernel_rfl
def Rw (x:Val Ã) (k:Int→Option ρ) :
    ĵ (LH ρ) 262 (ĥ [tI,tI] x) (fun h v=>Â (Ĭ [tI] h v) k)=LI x.1 x.2 k:=by kernel_rfl
def Rz (x:Val Ã) (k:Val Ã→Option ρ) :
    ĵ (LP ρ) 245 (ĥ [Ã] x) (fun h v=>Â (Ĭ [tI,tI] h v) k)=LQ x k:=by kernel_rfl
def US (x:Val Ã) (k:Val Ã→Option ρ) :
    ĵ (Pw ρ) 246 (ĥ [Ã] x) (fun h v=>Â (Ĭ [tI,tI] h v) k)=RA x k:=by kernel_rfl
def UV (x:Val aL) (k:Val Ã→Option ρ) :
    ĵ (Px ρ) 208 (ĥ [Ä,Î] x) (fun h v=>Â (Ĭ [Ã] h v) k)=RE x.1 x.2 k:=by kernel_rfl
def Oh:(Ei ρ).Ok (sL ρ):=⟨by kernel_rfl,fun p v kn kx=>by kernel_rfl⟩
def Oi:(Ek ρ).Ok (sL ρ):=⟨by kernel_rfl,fun p v kn kx=>by kernel_rfl⟩
def Og:(Eg ρ).Ok (sL ρ):=⟨by kernel_rfl,fun p v kn kx=>by kernel_rfl⟩
def UX (x:Val Ä) (k:(Val aF)→Option ρ) :
    ĵ (sL ρ) 74 (ĥ [Ä] x) (fun h v=>Â (Ĭ [aF] h v) k)=RG x k:=by kernel_rfl
def Oz (x:Val Ä) (k:(Val (.pair Ð (.pair aa tI)))→Option ρ) :
    ĵ (Ig ρ) 77 (ĥ [Ä] x) (fun h v=>Â (Ĭ [Ð,aa,tI] h v) k)=GC x k:=by kernel_rfl
def DX (x:Val Ð) (k:(Val aI)→Option ρ) :
    ĵ (vC ρ) 108 (ĥ [Ð] x) (fun h v=>Â (Ĭ [.bool,tI] h v) k)=qY x k:=by kernel_rfl
def DG:(sk ρ).Ok (qT ρ):=⟨by kernel_rfl,fun p v kn kx=>by kernel_rfl⟩
def I3 (x:Val aO) (k:Val jn→Option ρ) :
    ĵ (qT ρ) 9 (ĥ [Ä,Ã] x) (fun h v=>Â (Ĭ [Ã,tI] h v) k)=wQ x.1 x.2 k:=by kernel_rfl
def OC (x:Val bc) (k:(Val (.pair ab aG))→Option ρ) :
    ĵ (Ik ρ) 114 (ĥ [ab,ab] x) (fun h v=>Â (Ĭ [ab,ab,tI] h v) k)=GF x.1 x.2 k:=by kernel_rfl
def Uk (x:Val aG) (k:Bool→Option ρ) :
    ĵ (Pl ρ) 44 (ĥ [ab,tI] x) (fun h v=>Â (Ĭ [.bool] h v) k)=QX x.1 x.2 k:=by kernel_rfl
def Q1 (x:Val tI) (k:Bool→Option ρ) :
    ĵ (KZ ρ) 45 (ĥ [tI] x) (fun h v=>Â (Ĭ [.bool] h v) k)=K3 x k:=by kernel_rfl
def KV:(zE ρ).Ok (Bu ρ):=⟨by kernel_rfl,fun p v kn kx=>by kernel_rfl⟩
def QZ (x:Val (.pair tI ar)) (k:(Val aa)→Option ρ) :
    ĵ (Bu ρ) 46 (ĥ [tI,ar] x) (fun h v=>Â (Ĭ [aa] h v) k)=KW x.1 x.2 k:=by kernel_rfl
def NX:(DD ρ).Ok (yj ρ):=⟨by kernel_rfl,fun p v kn kx=>by kernel_rfl⟩
def NW:(DB ρ).Ok (yj ρ):=⟨by kernel_rfl,fun p v kn kx=>by kernel_rfl⟩
def Uw (x:Val (.pair Ä az)) (k:Val jn→Option ρ) :
    ĵ (yj ρ) 10 (ĥ [Ä,tI,ab] x) (fun h v=>Â (Ĭ [Ã,tI] h v) k)=Rb x.1 x.2.1 x.2.2 k:=by kernel_rfl
def Gf:(vy ρ).Ok (tU ρ):=⟨by kernel_rfl,fun p v kn kx=>by kernel_rfl⟩
def Lf (x:Val (.pair Ä ü)) (k:Val jn→Option ρ) :
    ĵ (tU ρ) 12 (ĥ [Ä,Ã,Ã] x) (fun h v=>Â (Ĭ [Ã,tI] h v) k)=BB x.1 x.2.1 x.2.2 k:=by kernel_rfl
def Xd:(Ps ρ).Ok (Gj ρ):=⟨by kernel_rfl,fun p v kn kx=>by kernel_rfl⟩
def Xb:(Pp ρ).Ok (Gj ρ):=⟨by kernel_rfl,fun p v kn kx=>by kernel_rfl⟩
def Xa:(Pn ρ).Ok (Gj ρ):=⟨by kernel_rfl,fun p v kn kx=>by kernel_rfl⟩
def Xc:(Pr ρ).Ok (Gj ρ):=⟨by kernel_rfl,fun p v kn kx=>by kernel_rfl⟩
def ab6 (x:Val aZ) (k:(Val ar)→Option ρ) :
    ĵ (Gj ρ) 148 (ĥ [Ð,tI,tI] x) (fun h v=>Â (Ĭ [ar] h v) k)=Li x.1 x.2.1 x.2.2 k:=by kernel_rfl
def Lr:(Aa ρ).Ok (jM ρ):=⟨by kernel_rfl,fun p v kn kx=>by kernel_rfl⟩
def Lm:(zS ρ).Ok (jM ρ):=⟨by kernel_rfl,fun p v kn kx=>by kernel_rfl⟩
def Ln:(zU ρ).Ok (jM ρ):=⟨by kernel_rfl,fun p v kn kx=>by kernel_rfl⟩
def Lp:(zW ρ).Ok (jM ρ):=⟨by kernel_rfl,fun p v kn kx=>by kernel_rfl⟩
def Lq:(zY ρ).Ok (jM ρ):=⟨by kernel_rfl,fun p v kn kx=>by kernel_rfl⟩
def Rp (x:Val Ð) (k:(Val aG)→Option ρ) :
    ĵ (jM ρ) 78 (ĥ [Ð] x) (fun h v=>Â (Ĭ [ab,tI] h v) k)=Ls x k:=by kernel_rfl
def FW:(vc ρ).Ok (tG ρ):=⟨by kernel_rfl,fun p v kn kx=>by kernel_rfl⟩
def KT (x:Val (.pair Ä ab)) (k:(Val aa)→Option ρ) :
    ĵ (tG ρ) 80 (ĥ [Ä,ab] x) (fun h v=>Â (Ĭ [aa] h v) k)=A5 x.1 x.2 k:=by kernel_rfl
def Rf (x:Val Ä) (k:(Val (.pair ι tI))→Option ρ) :
    ĵ (Lc ρ) 24 (ĥ [Ä] x) (fun h v=>Â (Ĭ [ι,tI] h v) k)=Ld x k:=by kernel_rfl
def IU (x:Unit) (k:Val Ä→Option ρ) :
    ĵ (zC ρ) 34 (ĥ [] x) (fun h v=>Â (Ĭ [Ä] h v) k)=wy k:=by kernel_rfl
def KS (x:Val ü) (k:Int→Option ρ) :
    ĵ (CQ ρ) 93 (ĥ [Ã,Ã] x) (fun h v=>Â (Ĭ [tI] h v) k)=A4 x.1 x.2 k:=by kernel_rfl
def K9:(zN ρ).Ok (Bz ρ):=⟨by kernel_rfl,fun p v kn kx=>by kernel_rfl⟩
def Rc (x:Val (.pair Ä ü)) (k:Val Ã→Option ρ) :
    ĵ (Bz ρ) 35 (ĥ [Ä,Ã,Ã] x) (fun h v=>Â (Ĭ [tI,tI] h v) k)=La x.1 x.2.1 x.2.2 k:=by kernel_rfl
def Lx:(Ag ρ).Ok (oR ρ):=⟨by kernel_rfl,fun p v kn kx=>by kernel_rfl⟩
def Lv:(Ac ρ).Ok (oR ρ):=⟨by kernel_rfl,fun p v kn kx=>by kernel_rfl⟩
def Lw:(Ae ρ).Ok (oR ρ):=⟨by kernel_rfl,fun p v kn kx=>by kernel_rfl⟩
def Rr (x:Val aZ) (k:(Val aG)→Option ρ) :
    ĵ (oR ρ) 95 (ĥ [Ð,tI,tI] x) (fun h v=>Â (Ĭ [ab,tI] h v) k)=Ly x.1 x.2.1 x.2.2 k:=by kernel_rfl
def Ge (x:Val (.pair ak (.pair aV (.ptr .bool)))) (k:(Val ab)→Option ρ) :
    ĵ (w8 ρ) 94 (ĥ [ak,aV,(.ptr .bool)] x) (fun h v=>Â (Ĭ [ab] h v) k)=tT x.1 x.2.1 x.2.2 k:=by kernel_rfl
def Gd:(vw ρ).Ok (kF ρ):=⟨by kernel_rfl,fun p v kn kx=>by kernel_rfl⟩
def Gc:(vu ρ).Ok (kF ρ):=⟨by kernel_rfl,fun p v kn kx=>by kernel_rfl⟩
def Le (x:Val (.pair Ä (.pair Ã .bool))) (k:(Val (.pair ι tI))→Option ρ) :
    ĵ (kF ρ) 36 (ĥ [Ä,Ã,.bool] x) (fun h v=>Â (Ĭ [ι,tI] h v) k)=BA x.1 x.2.1 x.2.2 k:=by kernel_rfl
def Oy:(EF ρ).Ok (GB ρ):=⟨by kernel_rfl,fun p v kn kx=>by kernel_rfl⟩
def U4 (x:Val aL) (k:(Val aS)→Option ρ) :
    ĵ (GB ρ) 167 (ĥ [Ä,Î] x) (fun h v=>Â (Ĭ [Ä,tI] h v) k)=RU x.1 x.2 k:=by kernel_rfl
def RD (x:Val (.pair Ä (.pair Î Ã))) (k:Val jn→Option ρ) :
    ĵ (LU ρ) 215 (ĥ [Ä,Î,Ã] x) (fun h v=>Â (Ĭ [Ã,tI] h v) k)=LV x.1 x.2.1 x.2.2 k:=by kernel_rfl
def L9 (x:Val aL) (k:Val jn→Option ρ) :
    ĵ (EH ρ) 166 (ĥ [Ä,Î] x) (fun h v=>Â (Ĭ [Ã,tI] h v) k)=BS x.1 x.2 k:=by kernel_rfl
def RC (x:Val aS) (k:(Val (.pair Î tI))→Option ρ) :
    ĵ (LR ρ) 217 (ĥ [Ä,tI] x) (fun h v=>Â (Ĭ [Î,tI] h v) k)=LS x.1 x.2 k:=by kernel_rfl
def U5 (x:Val aS) (k:Val jn→Option ρ) :
    ĵ (Py ρ) 168 (ĥ [Ä,tI] x) (fun h v=>Â (Ĭ [Ã,tI] h v) k)=RW x.1 x.2 k:=by kernel_rfl
def IZ (x:Val (.pair ab (.pair ak (.ptr Î)))) (k:Int→Option ρ) :
    ĵ (zH ρ) 169 (ĥ [ab,ak,(.ptr Î)] x) (fun h v=>Â (Ĭ [tI] h v) k)=wK x.1 x.2.1 x.2.2 k:=by kernel_rfl
end Go.Proofs.ZzM
end
