/- lemmas -/
import Derived.Test.YtiochmbenflhhaaGreatMdMA
set_option linter.all false
set_option linter.unusedSectionVars false
set_option linter.unusedVariables false
set_option linter.unusedSimpArgs false
noncomputable section
variable {ρ:Type}
set_option maxRecDepth 100000
namespace Go.Proofs.ZzM
open Go Go.Am
def Ot (x:Val ü) (k:Bool→Option ρ) :
    ĵ (Ia ρ) 109 (ĥ [Ã,tI,tI] x) (fun h v=>Â (Ĭ [.bool] h v) k)=Gx x.1 x.2.1 x.2.2 k:=by kernel_rfl
def Ob (x:Val ğ) (k:Bool→Option ρ) :
    ĵ (H5 ρ) 144 (ĥ [tI,tI,tI] x) (fun h v=>Â (Ĭ [.bool] h v) k)=Gq x.1 x.2.1 x.2.2 k:=by kernel_rfl
def RM (x:Val tI) (k:Bool→Option ρ) :
    ĵ (L5 ρ) 176 (ĥ [tI] x) (fun h v=>Â (Ĭ [.bool] h v) k)=L6 x k:=by kernel_rfl
def UJ (x:Val tI) (k:Int→Option ρ) :
    ĵ (Pv ρ) 249 (ĥ [tI] x) (fun h v=>Â (Ĭ [(.int .u64)] h v) k)=Ru x k:=by kernel_rfl
def Rv:(HX ρ).Ok (LG ρ):=⟨by kernel_rfl,fun p v kn kx=>by kernel_rfl⟩
def Xg (x:Val bf) (k:Int→Option ρ) :
    ĵ (LG ρ) 250 (ĥ [(.int .u64),(.int .u64)] x) (fun h v=>Â (Ĭ [(.int .u64)] h v) k)=Xh x.1 x.2 k:=by kernel_rfl
def Rx (x:Val Ã) (k:Bool→Option ρ) :
    ĵ (LK ρ) 218 (ĥ [Ã] x) (fun h v=>Â (Ĭ [.bool] h v) k)=LL x k:=by kernel_rfl
def L4 (x:Val Ï) (k:Bool→Option ρ) :
    ĵ (Et ρ) 174 (ĥ [Ï] x) (fun h v=>Â (Ĭ [.bool] h v) k)=BM x k:=by kernel_rfl
def xy:(nj ρ).Ok (lR ρ):=⟨by kernel_rfl,fun p v kn kx=>by kernel_rfl⟩
def BP (x:Val Ä) (k:Int→Option ρ) :
    ĵ (lR ρ) 110 (ĥ [Ä] x) (fun h v=>Â (Ĭ [tI] h v) k)=oT x k:=by kernel_rfl
def Gr:(vG ρ).Ok (ud ρ):=⟨by kernel_rfl,fun p v kn kx=>by kernel_rfl⟩
def LW (x:Val Ä) (k:(Val au)→Option ρ) :
    ĵ (ud ρ) 111 (ĥ [Ä] x) (fun h v=>Â (Ĭ [au] h v) k)=BJ x k:=by kernel_rfl
def tD:(ld ρ).Ok (jH ρ):=⟨by kernel_rfl,fun p v kn kx=>by kernel_rfl⟩
def wz (x:Val aG) (k:Int→Option ρ) :
    ĵ (jH ρ) 116 (ĥ [ab,tI] x) (fun h v=>Â (Ĭ [tI] h v) k)=lC x.1 x.2 k:=by kernel_rfl
def rK (x:Val aG) (k:Bool→Option ρ) :
    ĵ (lf ρ) 49 (ĥ [ab,tI] x) (fun h v=>Â (Ĭ [.bool] h v) k)=jl x.1 x.2 k:=by kernel_rfl
def Ow:(Ez ρ).Ok (yp ρ):=⟨by kernel_rfl,fun p v kn kx=>by kernel_rfl⟩
def Ov:(Ex ρ).Ok (yp ρ):=⟨by kernel_rfl,fun p v kn kx=>by kernel_rfl⟩
def U2 (x:Val (.pair Ä Ï)) (k:(Val ab)→Option ρ) :
    ĵ (yp ρ) 181 (ĥ [Ä,Ï] x) (fun h v=>Â (Ĭ [ab] h v) k)=RS x.1 x.2 k:=by kernel_rfl
def LY:(Ak ρ).Ok (ug ρ):=⟨by kernel_rfl,fun p v kn kx=>by kernel_rfl⟩
def LZ:(Ao ρ).Ok (ug ρ):=⟨by kernel_rfl,fun p v kn kx=>by kernel_rfl⟩
def RF (x:Val Ä) (k:(Val aa)→Option ρ) :
    ĵ (ug ρ) 113 (ĥ [Ä] x) (fun h v=>Â (Ĭ [aa] h v) k)=L1 x k:=by kernel_rfl
def Ec (x:Val (.pair au Ã)) (k:Int→Option ρ) :
    ĵ (vH ρ) 177 (ĥ [au,tI,tI] x) (fun h v=>Â (Ĭ [tI] h v) k)=rf x.1 x.2.1 x.2.2 k:=by kernel_rfl
def LX (x:Val (.pair tI (.pair tI (.ptr au)))) (k:Int→Option ρ) :
    ĵ (Ed ρ) 175 (ĥ [tI,tI,(.ptr au)] x) (fun h v=>Â (Ĭ [tI] h v) k)=BL x.1 x.2.1 x.2.2 k:=by kernel_rfl
def BO:(qw ρ).Ok (kG ρ):=⟨by kernel_rfl,fun p v kn kx=>by kernel_rfl⟩
def BN:(qv ρ).Ok (kG ρ):=⟨by kernel_rfl,fun p v kn kx=>by kernel_rfl⟩
def Gz (x:Val bh) (k:Int→Option ρ) :
    ĵ (kG ρ) 179 (ĥ [Ä,au,tI] x) (fun h v=>Â (Ĭ [tI] h v) k)=uA x.1 x.2.1 x.2.2 k:=by kernel_rfl
def rM:(ky ρ).Ok (gI ρ):=⟨by kernel_rfl,fun p v kn kx=>by kernel_rfl⟩
def rL:(kw ρ).Ok (gI ρ):=⟨by kernel_rfl,fun p v kn kx=>by kernel_rfl⟩
def vQ (x:Val ar) (k:(Val ab)→Option ρ) :
    ĵ (gI ρ) 100 (ĥ [ar] x) (fun h v=>Â (Ĭ [ab] h v) k)=iM x k:=by kernel_rfl
def Jl:(xv ρ).Ok (xw ρ):=⟨by kernel_rfl,fun p v kn kx=>by kernel_rfl⟩
def Oo (x:Val ab) (k:Bool→Option ρ) :
    ĵ (xw ρ) 182 (ĥ [ab] x) (fun h v=>Â (Ĭ [.bool] h v) k)=Gw x k:=by kernel_rfl
def On:(Es ρ).Ok (yo ρ):=⟨by kernel_rfl,fun p v kn kx=>by kernel_rfl⟩
def Om:(Er ρ).Ok (yo ρ):=⟨by kernel_rfl,fun p v kn kx=>by kernel_rfl⟩
def UZ (x:Val bc) (k:(Val ab)→Option ρ) :
    ĵ (yo ρ) 183 (ĥ [ab,ab] x) (fun h v=>Â (Ĭ [ab] h v) k)=RK x.1 x.2 k:=by kernel_rfl
def Ox:(ED ρ).Ok (GA ρ):=⟨by kernel_rfl,fun p v kn kx=>by kernel_rfl⟩
def U3 (x:Val aO) (k:(Val (.pair Ł .bool))→Option ρ) :
    ĵ (GA ρ) 222 (ĥ [Ä,tI,tI] x) (fun h v=>Â (Ĭ [Ł,.bool] h v) k)=RT x.1 x.2.1 x.2.2 k:=by kernel_rfl
def vV:(mG ρ).Ok (Ś ρ):=⟨by kernel_rfl,fun p v kn kx=>by kernel_rfl⟩
def vT:(mC ρ).Ok (Ś ρ):=⟨by kernel_rfl,fun p v kn kx=>by kernel_rfl⟩
def vU:(mE ρ).Ok (Ś ρ):=⟨by kernel_rfl,fun p v kn kx=>by kernel_rfl⟩
def vS:(mA ρ).Ok (Ś ρ):=⟨by kernel_rfl,fun p v kn kx=>by kernel_rfl⟩
def zi (x:Val bh) (k:Int→Option ρ) :
    ĵ (Ś ρ) 180 (ĥ [Ä,au,tI] x) (fun h v=>Â (Ĭ [tI] h v) k)=mZ x.1 x.2.1 x.2.2 k:=by kernel_rfl
def Q7:(HI ρ).Ok (ų ρ):=⟨by kernel_rfl,fun p v kn kx=>by kernel_rfl⟩
def Q8:(HJ ρ).Ok (ų ρ):=⟨by kernel_rfl,fun p v kn kx=>by kernel_rfl⟩
def Q6:(HH ρ).Ok (ų ρ):=⟨by kernel_rfl,fun p v kn kx=>by kernel_rfl⟩
def Q5:(qd ρ).Ok (ų ρ):=⟨by kernel_rfl,fun p v kn kx=>by kernel_rfl⟩
def Q4:(pZ ρ).Ok (ų ρ):=⟨by kernel_rfl,fun p v kn kx=>by kernel_rfl⟩
def Q3:(pY ρ).Ok (ų ρ):=⟨by kernel_rfl,fun p v kn kx=>by kernel_rfl⟩
def W5 (x:Val (.pair Ä (.pair aa aa))) (kA:Val aU→Val ah→Option ρ):goC (ų ρ) (jx (ų ρ) 10) 79 [] 0 0 (preC 7 Ĝ) {t:=ĥ [Ä,aa,aa] x++List.replicate 127 .any,h:=[]} (matK sd 0 iE lO kA)=Dv x.1 x.2.1 x.2.2 kA:=by kernel_rfl
def Z3 (p:Val aU) (v:Val ah) (x:Val Ï) (kk:Val aU→Val (.pair tI (.pair tI (.pair ae (.pair aa (.pair af (.pair ac (.pair aa (.pair tI (.pair tI (.pair ae (.pair aa (.pair af (.pair ac (.pair aa (.pair tI (.pair tI (.pair ae (.pair aa (.pair af (.pair ac (.pair aa (.pair ao (.pair ao (.pair ae ay))))))))))))))))))))))))→Option ρ):goC (ė ρ) (jx (ė ρ) 10) 79 [] 9 4 (rfA (rfC 7 Ĝ)) {t:=upd (iP sd iE lO p v).t 60 (.agg (flat Ï x)),h:=(iP sd iE lO p v).h} (matK K5 9 iE yh kk)=kk p (Bw v x):=by kernel_rfl
def Z2 (p:Val aU) (v:Val ah) (x:Val Ï) (kk:Val aU→Val ah→Option ρ):goC (ė ρ) (jx (ė ρ) 10) 79 [] 9 4 (rfB (rfC 7 Ĝ)) (iP K5 iE yh p (Bw v x)) (matK sd 9 iE lO kk)=ç (è ((List.length (tO v))+(List.length [x]))) (kk p (ě v (tO v++[x]))):=by kernel_rfl
def Uo (p:Val aU) (v:Val ah) (k:Val aj→Option ρ):goC (ė ρ) (jx (ė ρ) 10) 79 [] 0 0 (postC 7 Ĝ) (iP sd iE lO p v) (matR oO 0 jc k)=mw p v (fun y=>k (j4 y)):=by kernel_rfl
def W4 (y:Val Ä):oh Tryz.prog Tryz.f79 (iP oO [] jc () (j4 y))=some (enc Ä y):=by kernel_rfl
def Z1:rfC 7 Ĝ=Code.block 4 (Code.rangeFunc (.tmp 59) #[60] (rfA (rfC 7 Ĝ)) (rfB (rfC 7 Ĝ))):=by kernel_rfl
def Du:Qh 7 Ĝ=true:=by kernel_rfl
def pX:Tryz.f79.body=some Ĝ:=by kernel_rfl
def NU:(qd ρ).Ok (ė ρ):=⟨by kernel_rfl,fun p v kn kx=>by kernel_rfl⟩
def NT:(pZ ρ).Ok (ė ρ):=⟨by kernel_rfl,fun p v kn kx=>by kernel_rfl⟩
def NS:(pY ρ).Ok (ė ρ):=⟨by kernel_rfl,fun p v kn kx=>by kernel_rfl⟩
end Go.Proofs.ZzM
end
