/- lemmas -/
import Derived.Test.YtiochmbenflhhaaGreatMdMA
set_option linter.all false
set_option linter.unusedSectionVars false
set_option linter.unusedVariables false
set_option linter.unusedSimpArgs false
noncomputable section
variable {ρ:Type}
set_option maxRecDepth 100000
namespace Go.Proofs.ZzM
open Go Go.Am
def NV (x:Val (.pair tI (.pair tI (.pair ak (.pair (.ptr tI) (.pair aX (.ptr tI))))))) (k:Val ć→Option ρ) :
    Ĉ (Du ρ) 170 (Ā [tI,tI,ak,(.ptr tI),aX,(.ptr tI)] x) (fun h v=>Ã (ą [ć] h v) k)=Ah x.1 x.2.1 x.2.2.1 x.2.2.2.1 x.2.2.2.2.1 x.2.2.2.2.2 k:=by kernel_rfl
def NT:(Af ρ).Ok (sK ρ):=⟨by kernel_rfl,fun p v kn kx=>by kernel_rfl⟩
def US (x:Val (.pair ak ba)) (k:(Val (.pair ż tI))→Option ρ) :
    Ĉ (sK ρ) 98 (Ā [ak,Â,Ì] x) (fun h v=>Ã (ą [ż,tI] h v) k)=KE x.1 x.2.1 x.2.2 k:=by kernel_rfl
def KH (x:Val ć) (k:(Val ab)→Option ρ) :
    Ĉ (Aj ρ) 101 (Ā [ć] x) (fun h v=>Ã (ą [ab] h v) k)=wG x k:=by kernel_rfl
def UU (x:Val (.pair ć tI)) (k:Int→Option ρ) :
    Ĉ (MA ρ) 172 (Ā [ć,tI] x) (fun h v=>Ã (ą [tI] h v) k)=KK x.1 x.2 k:=by kernel_rfl
def G2 (x:Val (.pair ż tI)) (k:Val Â→Option ρ) :
    Ĉ (xS ρ) 105 (Ā [ż,tI] x) (fun h v=>Ã (ą [Â] h v) k)=tB x.1 x.2 k:=by kernel_rfl
def Cz:(qG ρ).Ok (kO ρ):=⟨by kernel_rfl,fun p v kn kx=>by kernel_rfl⟩
def CA:(qI ρ).Ok (kO ρ):=⟨by kernel_rfl,fun p v kn kx=>by kernel_rfl⟩
def G4 (x:Val (.pair ż ab)) (k:(Val ab)→Option ρ) :
    Ĉ (kO ρ) 106 (Ā [ż,ab] x) (fun h v=>Ã (ą [ab] h v) k)=tC x.1 x.2 k:=by kernel_rfl
def Ab:(pf ρ).Ok (nm ρ):=⟨by kernel_rfl,fun p v kn kx=>by kernel_rfl⟩
def ES (x:Val ż) (k:Int→Option ρ) :
    Ĉ (nm ρ) 99 (Ā [ż] x) (fun h v=>Ã (ą [tI] h v) k)=qF x k:=by kernel_rfl
def Q3:(Dw ρ).Ok (Fv ρ):=⟨by kernel_rfl,fun p v kn kx=>by kernel_rfl⟩
def ZL (x:Val (.pair Ä ba)) (k:Val Â→Option ρ) :
    Ĉ (Fv ρ) 37 (Ā [Ä,Â,Ì] x) (fun h v=>Ã (ą [tI,tI] h v) k)=Q4 x.1 x.2.1 x.2.2 k:=by kernel_rfl
def KQ (x:Val tI) (k:Int→Option ρ) :
    Ĉ (Ao ρ) 102 (Ā [tI] x) (fun h v=>Ã (ą [tI] h v) k)=wK x k:=by kernel_rfl
def KJ (x:Val (.pair ć tI)) (k:(Val ab)→Option ρ) :
    Ĉ (Ak ρ) 103 (Ā [ć,tI] x) (fun h v=>Ã (ą [ab] h v) k)=wH x.1 x.2 k:=by kernel_rfl
def HN:(((pm (ĕ ρ).P 41).elim [] (í 0)).filter fun y=>Nat.beq y.1 0).length=1:=by kernel_rfl
def HO (p:Val az) (v:Val aI) (kn:Val az→Val aI→Option ρ) (kx:(i:Nat)→Val az→Val (tyL (Ω.zs i))→Option ρ) :
    goC (ĕ ρ) (kr (ĕ ρ) (10-2 / 2)) 41 [1,3] 5 0 (IR (pm (ĕ ρ).P 41) 0) (jA Ω.head Ω.cs Ω.vs p v) (XM Ω kn kx)=(oR ρ).bF p v (kn p) (fun i=>kx i p):=by kernel_rfl
def KO:(oR ρ).Ok (ĕ ρ):=⟨HN,HO⟩
def HL:(((pm (ĕ ρ).P 115).elim [] (í 0)).filter fun y=>Nat.beq y.1 0).length=1:=by kernel_rfl
def HM (p:Val ar) (v:Val tI) (kn:Val ar→Val tI→Option ρ) (kx:(i:Nat)→Val ar→Val (tyL (Χ.zs i))→Option ρ) :
    goC (ĕ ρ) (kr (ĕ ρ) (10-4 / 2)) 115 [18,4,1,2] 12 0 (IR (pm (ĕ ρ).P 115) 0) (jA Χ.head Χ.cs Χ.vs p v) (XM Χ kn kx)=(oQ ρ).bF p v (kn p) (fun i=>kx i p):=by kernel_rfl
def KN:(oQ ρ).Ok (ĕ ρ):=⟨HL,HM⟩
def Q5 (x:Val (.pair Ä (.pair Â ba))) (k:(Val aP)→Option ρ) :
    Ĉ (wJ ρ) 38 (Ā [Ä,Â,Â,Ì] x) (fun h v=>Ã (ą [.bool,tI] h v) k)=Fw x.1 x.2.1 x.2.2.1 x.2.2.2 k:=by kernel_rfl
def K5:(yk ρ).Ok (wQ ρ):=⟨by kernel_rfl,fun p v kn kx=>by kernel_rfl⟩
def Rh (x:Val bm) (k:Int→Option ρ) :
    Ĉ (wQ ρ) 155 (Ā [Î,ab] x) (fun h v=>Ã (ą [tI] h v) k)=FA x.1 x.2 k:=by kernel_rfl
def U6:(HX ρ).Ok (K3 ρ):=⟨by kernel_rfl,fun p v kn kx=>by kernel_rfl⟩
def ad3 (x:Val (.pair Î au)) (k:(Val (.pair tI (.pair tI .bool)))→Option ρ) :
    Ĉ (K3 ρ) 156 (Ā [Î,tI,ab] x) (fun h v=>Ã (ą [tI,tI,.bool] h v) k)=ZV x.1 x.2.1 x.2.2 k:=by kernel_rfl
def Ic (x:Val bm) (k:Int→Option ρ) :
    Ĉ (ym ρ) 81 (Ā [Î,ab] x) (fun h v=>Ã (ą [tI] h v) k)=tQ x.1 x.2 k:=by kernel_rfl
def HW (x:Val iv) (k:Int→Option ρ) :
    Ĉ (yd ρ) 25 (Ā [iv] x) (fun h v=>Ã (ą [tI] h v) k)=tK x k:=by kernel_rfl
def If (x:Val (.pair Î (.pair tI au))) (k:Val Â→Option ρ) :
    Ĉ (yn ρ) 107 (Ā [Î,tI,tI,ab] x) (fun h v=>Ã (ą [tI,tI] h v) k)=tR x.1 x.2.1 x.2.2.1 x.2.2.2 k:=by kernel_rfl
def KU (x:Val iv) (k:Int→Option ρ) :
    Ĉ (AB ρ) 40 (Ā [iv] x) (fun h v=>Ã (ą [tI] h v) k)=wM x k:=by kernel_rfl
def kX:(Μ ρ).Ok (Ő ρ):=⟨by kernel_rfl,fun p v kn kx=>by kernel_rfl⟩
def lR (x:Val (.pair ae Ï)) (k:Int→Option ρ) :
    Ĉ (Ő ρ) 233 (Ā [ae,Ï] x) (fun h v=>Ã (ą [tI] h v) k)=ű x.1 x.2 k:=by kernel_rfl
def kB (x:Val (.pair ae Ï)) (k:Bool→Option ρ) :
    Ĉ (Ξ ρ) 190 (Ā [ae,Ï] x) (fun h v=>Ã (ą [.bool] h v) k)=Ō x.1 x.2 k:=by kernel_rfl
def nc:(iS ρ).Ok (Α ρ):=⟨by kernel_rfl,fun p v kn kx=>by kernel_rfl⟩
def oM (x:Val bc) (k:Int→Option ρ) :
    Ĉ (Α ρ) 235 (Ā [aa,Â] x) (fun h v=>Ã (ą [tI] h v) k)=υ x.1 x.2 k:=by kernel_rfl
def mI (x:Val bc) (k:Bool→Option ρ) :
    Ĉ (iT ρ) 193 (Ā [aa,Â] x) (fun h v=>Ã (ą [.bool] h v) k)=Ŷ x.1 x.2 k:=by kernel_rfl
def lP:(iA ρ).Ok (Ű ρ):=⟨by kernel_rfl,fun p v kn kx=>by kernel_rfl⟩
def ni (x:Val (.pair af Ŏ)) (k:Int→Option ρ) :
    Ĉ (Ű ρ) 237 (Ā [af,Ŏ] x) (fun h v=>Ã (ą [tI] h v) k)=Γ x.1 x.2 k:=by kernel_rfl
def lK (x:Val (.pair af Ŏ)) (k:Bool→Option ρ) :
    Ĉ (iB ρ) 196 (Ā [af,Ŏ] x) (fun h v=>Ã (ą [.bool] h v) k)=ŝ x.1 x.2 k:=by kernel_rfl
def UQ:(HH ρ).Ok (Φ ρ):=⟨by kernel_rfl,fun p v kn kx=>by kernel_rfl⟩
def UN:(HB ρ).Ok (Φ ρ):=⟨by kernel_rfl,fun p v kn kx=>by kernel_rfl⟩
def UM:(Hz ρ).Ok (Φ ρ):=⟨by kernel_rfl,fun p v kn kx=>by kernel_rfl⟩
def UO:(HD ρ).Ok (Φ ρ):=⟨by kernel_rfl,fun p v kn kx=>by kernel_rfl⟩
def UP:(HF ρ).Ok (Φ ρ):=⟨by kernel_rfl,fun p v kn kx=>by kernel_rfl⟩
def UL:(Hx ρ).Ok (Φ ρ):=⟨by kernel_rfl,fun p v kn kx=>by kernel_rfl⟩
def UK:(Hv ρ).Ok (Φ ρ):=⟨by kernel_rfl,fun p v kn kx=>by kernel_rfl⟩
def UJ:(Ht ρ).Ok (Φ ρ):=⟨by kernel_rfl,fun p v kn kx=>by kernel_rfl⟩
def UI:(Hr ρ).Ok (Φ ρ):=⟨by kernel_rfl,fun p v kn kx=>by kernel_rfl⟩
def UH:(Hp ρ).Ok (Φ ρ):=⟨by kernel_rfl,fun p v kn kx=>by kernel_rfl⟩
def adN (x:Val (.pair Ä Ä)) (k:Bool→Option ρ) :
    Ĉ (Φ ρ) 55 (Ā [Ä,Ä] x) (fun h v=>Ã (ą [.bool] h v) k)=Zx x.1 x.2 k:=by kernel_rfl
def UZ (x:Val (.pair Ä iv)) (k:(Val aP)→Option ρ) :
    Ĉ (MF ρ) 39 (Ā [Ä,iv] x) (fun h v=>Ã (ą [.bool,tI] h v) k)=KM x.1 x.2 k:=by kernel_rfl
def PV (x:Unit) (k:Bool→Option ρ) :
    Ĉ (GF ρ) 8 (Ā [] x) (fun h v=>Ã (ą [.bool] h v) k)=Es k:=by kernel_rfl
def Fq:(sI ρ).Ok (á ρ):=⟨by kernel_rfl,fun p v kn kx=>by kernel_rfl⟩
def E9:(sH ρ).Ok (á ρ):=⟨by kernel_rfl,fun p v kn kx=>by kernel_rfl⟩
def E5:(sF ρ).Ok (á ρ):=⟨by kernel_rfl,fun p v kn kx=>by kernel_rfl⟩
def E4:(sw ρ).Ok (á ρ):=⟨by kernel_rfl,fun p v kn kx=>by kernel_rfl⟩
def EY:(su ρ).Ok (á ρ):=⟨by kernel_rfl,fun p v kn kx=>by kernel_rfl⟩
def EX:(sr ρ).Ok (á ρ):=⟨by kernel_rfl,fun p v kn kx=>by kernel_rfl⟩
def EV:(sn ρ).Ok (á ρ):=⟨by kernel_rfl,fun p v kn kx=>by kernel_rfl⟩
def EW:(sq ρ).Ok (á ρ):=⟨by kernel_rfl,fun p v kn kx=>by kernel_rfl⟩
def EZ:(sv ρ).Ok (á ρ):=⟨by kernel_rfl,fun p v kn kx=>by kernel_rfl⟩
def CO:(qV ρ).Ok (á ρ):=⟨by kernel_rfl,fun p v kn kx=>by kernel_rfl⟩
def CM:(qT ρ).Ok (á ρ):=⟨by kernel_rfl,fun p v kn kx=>by kernel_rfl⟩
def CN:(qU ρ).Ok (á ρ):=⟨by kernel_rfl,fun p v kn kx=>by kernel_rfl⟩
def E6:(sG ρ).Ok (á ρ):=⟨by kernel_rfl,fun p v kn kx=>by kernel_rfl⟩
def CL:(qS ρ).Ok (á ρ):=⟨by kernel_rfl,fun p v kn kx=>by kernel_rfl⟩
def CH:(qQ ρ).Ok (á ρ):=⟨by kernel_rfl,fun p v kn kx=>by kernel_rfl⟩
def CG:(qP ρ).Ok (á ρ):=⟨by kernel_rfl,fun p v kn kx=>by kernel_rfl⟩
def CE:(qN ρ).Ok (á ρ):=⟨by kernel_rfl,fun p v kn kx=>by kernel_rfl⟩
def CF:(qO ρ).Ok (á ρ):=⟨by kernel_rfl,fun p v kn kx=>by kernel_rfl⟩
def CJ:(qR ρ).Ok (á ρ):=⟨by kernel_rfl,fun p v kn kx=>by kernel_rfl⟩
def CD:(qM ρ).Ok (á ρ):=⟨by kernel_rfl,fun p v kn kx=>by kernel_rfl⟩
def CB:(qK ρ).Ok (á ρ):=⟨by kernel_rfl,fun p v kn kx=>by kernel_rfl⟩
def CC:(qL ρ).Ok (á ρ):=⟨by kernel_rfl,fun p v kn kx=>by kernel_rfl⟩
def KB (x:Val (.pair ak aE)) (k:Int→Option ρ) :
    Ĉ (á ρ) 51 (Ā [ak,ab,ab] x) (fun h v=>Ã (ą [tI] h v) k)=Hj x.1 x.2.1 x.2.2 k:=by kernel_rfl
def N6:(Az ρ).Ok (lz ρ):=⟨by kernel_rfl,fun p v kn kx=>by kernel_rfl⟩
def N5:(Ax ρ).Ok (lz ρ):=⟨by kernel_rfl,fun p v kn kx=>by kernel_rfl⟩
def N4:(Au ρ).Ok (lz ρ):=⟨by kernel_rfl,fun p v kn kx=>by kernel_rfl⟩
def N3:(Ar ρ).Ok (lz ρ):=⟨by kernel_rfl,fun p v kn kx=>by kernel_rfl⟩
def U3 (x:Val (.pair Ä bg)) (k:Val ĵ→Option ρ) :
    Ĉ (lz ρ) 11 (Ā [Ä,tI,ab,ab] x) (fun h v=>Ã (ą [Â,tI] h v) k)=KR x.1 x.2.1 x.2.2.1 x.2.2.2 k:=by kernel_rfl
def PX:(De ρ).Ok (Ew ρ):=⟨by kernel_rfl,fun p v kn kx=>by kernel_rfl⟩
def Yy (x:Val ab) (k:Bool→Option ρ) :
    Ĉ (Ew ρ) 66 (Ā [ab] x) (fun h v=>Ã (ą [.bool] h v) k)=PY x k:=by kernel_rfl
def ac6 (x:Val tI) (k:Bool→Option ρ) :
    Ĉ (WE ρ) 68 (Ā [tI] x) (fun h v=>Ã (ą [.bool] h v) k)=Yz x k:=by kernel_rfl
def Cv:(qB ρ).Ok (oN ρ):=⟨by kernel_rfl,fun p v kn kx=>by kernel_rfl⟩
def GJ (x:Val au) (k:(Val bh)→Option ρ) :
    Ĉ (oN ρ) 16 (Ā [tI,ab] x) (fun h v=>Ã (ą [aa,.bool] h v) k)=tv x.1 x.2 k:=by kernel_rfl
def Uv:(GX ρ).Ok (Ks ρ):=⟨by kernel_rfl,fun p v kn kx=>by kernel_rfl⟩
def adt (x:Val aK) (k:Bool→Option ρ) :
    Ĉ (Ks ρ) 69 (Ā [ab,tI] x) (fun h v=>Ã (ą [.bool] h v) k)=Zf x.1 x.2 k:=by kernel_rfl
def yF:(od ρ).Ok (ι ρ):=⟨by kernel_rfl,fun p v kn kx=>by kernel_rfl⟩
def yE:(oc ρ).Ok (ι ρ):=⟨by kernel_rfl,fun p v kn kx=>by kernel_rfl⟩
def yD:(ob ρ).Ok (ι ρ):=⟨by kernel_rfl,fun p v kn kx=>by kernel_rfl⟩
def Cy (x:Val bg) (k:(Val bh)→Option ρ) :
    Ĉ (ι ρ) 17 (Ā [tI,ab,ab] x) (fun h v=>Ã (ą [aa,.bool] h v) k)=oO x.1 x.2.1 x.2.2 k:=by kernel_rfl
def Nt (x:Val è) (k:Bool→Option ρ) :
    Ĉ (Dh ρ) 56 (Ā [Â,tI,tI] x) (fun h v=>Ã (ą [.bool] h v) k)=zy x.1 x.2.1 x.2.2 k:=by kernel_rfl
def agE (x:Val ć) (k:Bool→Option ρ) :
    Ĉ (adm ρ) 132 (Ā [tI,tI,tI] x) (fun h v=>Ã (ą [.bool] h v) k)=agF x.1 x.2.1 x.2.2 k:=by kernel_rfl
def adr (x:Val tI) (k:Bool→Option ρ) :
    Ĉ (WG ρ) 62 (Ā [tI] x) (fun h v=>Ã (ą [.bool] h v) k)=Zb x k:=by kernel_rfl
def UB:(GZ ρ).Ok (Kv ρ):=⟨by kernel_rfl,fun p v kn kx=>by kernel_rfl⟩
def adE (x:Val Â) (k:Int→Option ρ) :
    Ĉ (Kv ρ) 197 (Ā [tI,tI] x) (fun h v=>Ã (ą [tI] h v) k)=Zq x.1 x.2 k:=by kernel_rfl
def adJ (x:Val tI) (k:Int→Option ρ) :
    Ĉ (WM ρ) 198 (Ā [tI] x) (fun h v=>Ã (ą [tI] h v) k)=Zv x k:=by kernel_rfl
def Uy (x:Val Â) (k:Bool→Option ρ) :
    Ĉ (Mx ρ) 131 (Ā [Â] x) (fun h v=>Ã (ą [.bool] h v) k)=Kt x k:=by kernel_rfl
def T5 (x:Val Ï) (k:Bool→Option ρ) :
    Ĉ (Mu ρ) 57 (Ā [Ï] x) (fun h v=>Ã (ą [.bool] h v) k)=Kh x k:=by kernel_rfl
def Qw:(Dr ρ).Ok (EP ρ):=⟨by kernel_rfl,fun p v kn kx=>by kernel_rfl⟩
def Y9 (x:Val aM) (k:Int→Option ρ) :
    Ĉ (EP ρ) 134 (Ā [Ä,tI] x) (fun h v=>Ã (ą [tI] h v) k)=Qx x.1 x.2 k:=by kernel_rfl
def Ue (x:Val aJ) (k:Int→Option ρ) :
    Ĉ (Mv ρ) 63 (Ā [Ä,tI,tI] x) (fun h v=>Ã (ą [tI] h v) k)=Kk x.1 x.2.1 x.2.2 k:=by kernel_rfl
def P1:(Dg ρ).Ok (EE ρ):=⟨by kernel_rfl,fun p v kn kx=>by kernel_rfl⟩
def YD (x:Val Ä) (k:Int→Option ρ) :
    Ĉ (EE ρ) 58 (Ā [Ä] x) (fun h v=>Ã (ą [tI] h v) k)=P2 x k:=by kernel_rfl
def Nv:(zB ρ).Ok (oe ρ):=⟨by kernel_rfl,fun p v kn kx=>by kernel_rfl⟩
def Nu:(zA ρ).Ok (oe ρ):=⟨by kernel_rfl,fun p v kn kx=>by kernel_rfl⟩
def Nw:(zC ρ).Ok (oe ρ):=⟨by kernel_rfl,fun p v kn kx=>by kernel_rfl⟩
def T1 (x:Val Ä) (k:Int→Option ρ) :
    Ĉ (oe ρ) 59 (Ā [Ä] x) (fun h v=>Ã (ą [tI] h v) k)=Kf x k:=by kernel_rfl
def Qg:(Dl ρ).Ok (EK ρ):=⟨by kernel_rfl,fun p v kn kx=>by kernel_rfl⟩
def YV (x:Val ab) (k:Bool→Option ρ) :
    Ĉ (EK ρ) 133 (Ā [ab] x) (fun h v=>Ã (ą [.bool] h v) k)=Qh x k:=by kernel_rfl
def TZ (x:Val Ì) (k:Bool→Option ρ) :
    Ĉ (Mr ρ) 60 (Ā [Ì] x) (fun h v=>Ã (ą [.bool] h v) k)=Ke x k:=by kernel_rfl
def Qp:(Dp ρ).Ok (EM ρ):=⟨by kernel_rfl,fun p v kn kx=>by kernel_rfl⟩
def Y2 (x:Val aJ) (k:(Val bi)→Option ρ) :
    Ĉ (EM ρ) 135 (Ā [Ä,tI,tI] x) (fun h v=>Ã (ą [Ŏ,.bool] h v) k)=Qq x.1 x.2.1 x.2.2 k:=by kernel_rfl
def Um:(GV ρ).Ok (Kn ρ):=⟨by kernel_rfl,fun p v kn kx=>by kernel_rfl⟩
def ado (x:Val aK) (k:Bool→Option ρ) :
    Ĉ (Kn ρ) 199 (Ā [ab,tI] x) (fun h v=>Ã (ą [.bool] h v) k)=Y7 x.1 x.2 k:=by kernel_rfl
def Qr:(Dq ρ).Ok (EN ρ):=⟨by kernel_rfl,fun p v kn kx=>by kernel_rfl⟩
def Y4 (x:Val aE) (k:(Val ab)→Option ρ) :
    Ĉ (EN ρ) 136 (Ā [ab,ab] x) (fun h v=>Ã (ą [ab] h v) k)=Qs x.1 x.2 k:=by kernel_rfl
def EH:(sf ρ).Ok (jM ρ):=⟨by kernel_rfl,fun p v kn kx=>by kernel_rfl⟩
def EG:(se ρ).Ok (jM ρ):=⟨by kernel_rfl,fun p v kn kx=>by kernel_rfl⟩
def EF:(sd ρ).Ok (jM ρ):=⟨by kernel_rfl,fun p v kn kx=>by kernel_rfl⟩
def Kj (x:Val aH) (k:Int→Option ρ) :
    Ĉ (jM ρ) 61 (Ā [Ä,Ì] x) (fun h v=>Ã (ą [tI] h v) k)=ww x.1 x.2 k:=by kernel_rfl
def ada (x:Val aE) (k:Int→Option ρ) :
    Ĉ (WF ρ) 139 (Ā [ab,ab] x) (fun h v=>Ã (ą [tI] h v) k)=YF x.1 x.2 k:=by kernel_rfl
def P8:(Dj ρ).Ok (wx ρ):=⟨by kernel_rfl,fun p v kn kx=>by kernel_rfl⟩
def P7:(Di ρ).Ok (wx ρ):=⟨by kernel_rfl,fun p v kn kx=>by kernel_rfl⟩
def YK (x:Val (.pair Ä (.pair Ï tI))) (k:Bool→Option ρ) :
    Ĉ (wx ρ) 137 (Ā [Ä,Ï,tI] x) (fun h v=>Ã (ą [.bool] h v) k)=P9 x.1 x.2.1 x.2.2 k:=by kernel_rfl
def ND:(zL ρ).Ok (iU ρ):=⟨by kernel_rfl,fun p v kn kx=>by kernel_rfl⟩
def NC:(zK ρ).Ok (iU ρ):=⟨by kernel_rfl,fun p v kn kx=>by kernel_rfl⟩
def NB:(zJ ρ).Ok (iU ρ):=⟨by kernel_rfl,fun p v kn kx=>by kernel_rfl⟩
def Ny:(zD ρ).Ok (iU ρ):=⟨by kernel_rfl,fun p v kn kx=>by kernel_rfl⟩
def Nz:(zF ρ).Ok (iU ρ):=⟨by kernel_rfl,fun p v kn kx=>by kernel_rfl⟩
def NA:(zH ρ).Ok (iU ρ):=⟨by kernel_rfl,fun p v kn kx=>by kernel_rfl⟩
def Uh (x:Val Ä) (k:(Val aa)→Option ρ) :
    Ĉ (iU ρ) 64 (Ā [Ä] x) (fun h v=>Ã (ą [aa] h v) k)=Kl x k:=by kernel_rfl
def NE:(zM ρ).Ok (zN ρ):=⟨by kernel_rfl,fun p v kn kx=>by kernel_rfl⟩
def Ul (x:Val aJ) (k:Int→Option ρ) :
    Ĉ (zN ρ) 85 (Ā [Ä,Â] x) (fun h v=>Ã (ą [tI] h v) k)=Km x.1 x.2 k:=by kernel_rfl
def Qa:(Dk ρ).Ok (EI ρ):=⟨by kernel_rfl,fun p v kn kx=>by kernel_rfl⟩
def YM (x:Val aJ) (k:Bool→Option ρ) :
    Ĉ (EI ρ) 200 (Ā [Ä,tI,tI] x) (fun h v=>Ã (ą [.bool] h v) k)=Qb x.1 x.2.1 x.2.2 k:=by kernel_rfl
def Ql:(Dm ρ).Ok (EL ρ):=⟨by kernel_rfl,fun p v kn kx=>by kernel_rfl⟩
def YY (x:Val (.pair Ä ć)) (k:Int→Option ρ) :
    Ĉ (EL ρ) 138 (Ā [Ä,tI,tI,tI] x) (fun h v=>Ã (ą [tI] h v) k)=Qm x.1 x.2.1 x.2.2.1 x.2.2.2 k:=by kernel_rfl
def QI (x:Val Â) (k:Val ĵ→Option ρ) :
    Ĉ (GY ρ) 274 (Ā [tI,tI] x) (fun h v=>Ã (ą [ĵ] h v) k)=EQ x.1 x.2 k:=by kernel_rfl
def adH (x:Val è) (k:Val ĵ→Option ρ) :
    Ĉ (WL ρ) 254 (Ā [Â,Â] x) (fun h v=>Ã (ą [ĵ] h v) k)=Zu x.1 x.2 k:=by kernel_rfl
def adA (x:Val Â) (k:Val Â→Option ρ) :
    Ĉ (WJ ρ) 255 (Ā [Â] x) (fun h v=>Ã (ą [Â] h v) k)=Zn x k:=by kernel_rfl
def ady (x:Val è) (k:Val ĵ→Option ρ) :
    Ĉ (WH ρ) 238 (Ā [Â,Â] x) (fun h v=>Ã (ą [ĵ] h v) k)=Zl x.1 x.2 k:=by kernel_rfl
end Go.Proofs.ZzM
end
