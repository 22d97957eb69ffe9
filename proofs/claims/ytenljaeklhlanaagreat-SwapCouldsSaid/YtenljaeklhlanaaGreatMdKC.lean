/- lemmas -/
import Derived.Test.YtenljaeklhlanaaGreatMdMA
set_option linter.all false
noncomputable section
variable {ρ:Type}
set_option maxRecDepth 100000
namespace Go.Proofs.ZzM
open Go Go.Am
def vE:(mG ρ).Ok (kM ρ):=⟨by kernel_rfl,fun p v b a=>by kernel_rfl⟩
def vD:(mF ρ).Ok (kM ρ):=⟨by kernel_rfl,fun p v b a=>by kernel_rfl⟩
def Es {al:b5} {a:an->BY (b5)}:(((ğ (ą al a ρ).P 206).elim [] (â 0)).filter fun y=>Nat.beq y.1 2).length=1:=by kernel_rfl
def FU {al:b5} {a:an->BY (b5)}:Um (ng (ğ (ą al a ρ).P 206) 2)=true:=by kernel_rfl
def FS (p:Val ba) (v a:b5):(ú iD [ab,tI,tI,ab,tI] [ah] p a).t=(ú iD [ab,tI,tI,ab,tI] [ah] p v).t:=by kernel_rfl
def FT (p:Val ba) (v:b5):(ú iD [ab,tI,tI,ab,tI] [ah] p v).t.all (st3 4)=true:=by kernel_rfl
def Et {al:b5} {a:an->BY (b5)} (p:Val ba) (v:b5) (y:an) (b:Val ba->b5->BY ρ):Cz (ą al a ρ) (Ū (ą al a ρ) (10-0 / 2)) 206 [] 4 2 (ng (ğ (ą al a ρ).P 206) 2) (ú iD [ab,tI,tI,ab,tI] [ah] p v) (enc ab y) ((kd al a ρ).back b)=(kd al a ρ).bF p v y (b p):=by kernel_rfl
def FV {al:b5} {a:an->BY (b5)} (b:lB Tryz.prog ⟨206,ab,ab,a⟩):(kd al a ρ).Ok (ą al a ρ):=⟨Es,b,FS,FT,Et⟩
def Eu {al:b5} {a:an->BY (b5)}:(((ğ (ą al a ρ).P 206).elim [] (â 0)).filter fun y=>Nat.beq y.1 0).length=1:=by kernel_rfl
def Ew {al:b5} {a:an->BY (b5)} (p:Val bh) (v:px) (c:Val bh->px->BY ρ) (b:(i:Nat)->Val bh->Val (tyL (ų.zs i))->BY ρ) :
    goC (ą al a ρ) (Ū (ą al a ρ) (10-0 / 2)) 206 [] 2 0 (rK (ğ (ą al a ρ).P 206) 0) (ú ų.head ų.cs ų.vs p v) (D3 ų c b)=(nw al a ρ).bF p v (c p) (fun i=>b i p):=by kernel_rfl
def FW {al:b5} {a:an->BY (b5)}:(nw al a ρ).Ok (ą al a ρ):=⟨Eu,Ew⟩
def KQ {al:b5} {a:an->BY (b5)} (b:an) (F:an->BY (CK an)):wt (ą al a _) (Ū (ą al a _) 10) [] 206 Bx (iy ⟨206,ab,ab,F⟩ b) (Pn ⟨206,ab,ab,F⟩)=zB al a b some:=by kernel_rfl
def zF {al:a7} {a:c9->BY (a7)}:(((ğ (ð al a ρ).P 168).elim [] (â 0)).filter fun y=>Nat.beq y.1 2).length=1:=by kernel_rfl
def Ce {al:a7} {a:c9->BY (a7)}:Um (ng (ğ (ð al a ρ).P 168) 2)=true:=by kernel_rfl
def Cc (p:Val bn) (v a:a7):(ú Ÿ [ab,aj,ab] [ak] p a).t=(ú Ÿ [ab,aj,ab] [ak] p v).t:=by kernel_rfl
def Cd (p:Val bn) (v:a7):(ú Ÿ [ab,aj,ab] [ak] p v).t.all (st3 4)=true:=by kernel_rfl
def zG {al:a7} {a:c9->BY (a7)} (p:Val bn) (v:a7) (y:b5) (b:Val bn->a7->BY ρ):Cz (ð al a ρ) (Ū (ð al a ρ) (10-0 / 2)) 168 [] 4 2 (ng (ğ (ð al a ρ).P 168) 2) (ú Ÿ [ab,aj,ab] [ak] p v) (enc ah y) ((i7 al a ρ).back b)=(i7 al a ρ).bF p v y (b p):=by kernel_rfl
def Cf {al:a7} {a:c9->BY (a7)} (b:lB Tryz.prog ⟨168,aj,ah,a⟩):(i7 al a ρ).Ok (ð al a ρ):=⟨zF,b,Cc,Cd,zG⟩
def zH {al:a7} {a:c9->BY (a7)}:(((ğ (ð al a ρ).P 168).elim [] (â 0)).filter fun y=>Nat.beq y.1 0).length=1:=by kernel_rfl
def Ci {al:a7} {a:c9->BY (a7)}:Um (ng (ğ (ð al a ρ).P 168) 0)=true:=by kernel_rfl
def Cg (p:c9) (v a:a7):(ú Ź [aj] [ak] p a).t=(ú Ź [aj] [ak] p v).t:=by kernel_rfl
def Ch (p:c9) (v:a7):(ú Ź [aj] [ak] p v).t.all (st3 3)=true:=by kernel_rfl
def zI {al:a7} {a:c9->BY (a7)} (p:c9) (v:a7) (y:an) (b:c9->a7->BY ρ):Cz (ð al a ρ) (Ū (ð al a ρ) (10-0 / 2)) 168 [] 3 0 (ng (ğ (ð al a ρ).P 168) 0) (ú Ź [aj] [ak] p v) (enc ab y) ((i8 al a ρ).back b)=(i8 al a ρ).bF p v y (b p):=by kernel_rfl
def Cj {al:a7} {a:c9->BY (a7)} (b:lB Tryz.prog Po):(i8 al a ρ).Ok (ð al a ρ):=⟨zH,b,Cg,Ch,zI⟩
def F9 {al:a7} {a:c9->BY (a7)} (b:c9) (F:c9->BY (CK b5)):wt (ð al a _) (Ū (ð al a _) 10) [] 168 Bx (iy ⟨168,aj,ah,F⟩ b) (Pn ⟨168,aj,ah,F⟩)=uC al a b some:=by kernel_rfl
def rt {al:an} {a:an->BY (an)}:(((ğ (Ď al a ρ).P 229).elim [] (â 0)).filter fun y=>Nat.beq y.1 0).length=1:=by kernel_rfl
def ru {al:an} {a:an->BY (an)} (p:Val bh) (v:ge) (c:Val bh->ge->BY ρ) (b:(i:Nat)->Val bh->Val (tyL (ě.zs i))->BY ρ) :
    goC (Ď al a ρ) (Ū (Ď al a ρ) (10-0 / 2)) 229 [] 2 0 (rK (ğ (Ď al a ρ).P 229) 0) (ú ě.head ě.cs ě.vs p v) (D3 ě c b)=(π al a ρ).bF p v (c p) (fun i=>b i p):=by kernel_rfl
def sw {al:an} {a:an->BY (an)}:(π al a ρ).Ok (Ď al a ρ):=⟨rt,ru⟩
def vB {al:an} {a:an->BY (an)} (b:an) (F:an->BY (CK Int)):wt (Ď al a _) (Ū (Ď al a _) 10) [] 229 Bx (iy ⟨229,ab,tI,F⟩ b) (Pn ⟨229,ab,tI,F⟩)=kL al a b some:=by kernel_rfl
def Vo:(Kq ρ).Ok (YO ρ):=⟨by kernel_rfl,fun p v b a=>by kernel_rfl⟩
def Pe (x:pi) (k:Bool->BY ρ) :
    RZ (Hl ρ) 195 [Ù] [.bool] x k=EQ x k:=by kernel_rfl
def AE:(pD ρ).Ok (vP ρ):=⟨by kernel_rfl,fun p v b a=>by kernel_rfl⟩
def Js:(yw ρ).Ok (G0 ρ):=⟨by kernel_rfl,fun p v b a=>by kernel_rfl⟩
def wT:(nf ρ).Ok (rz ρ):=⟨by kernel_rfl,fun p v b a=>by kernel_rfl⟩
def RG:(Hn ρ).Ok (Jv ρ):=⟨by kernel_rfl,fun p v b a=>by kernel_rfl⟩
def RF:(Hm ρ).Ok (Jv ρ):=⟨by kernel_rfl,fun p v b a=>by kernel_rfl⟩
def Pb:(DK ρ).Ok (EP ρ):=⟨by kernel_rfl,fun p v b a=>by kernel_rfl⟩
def Pc:(DM ρ).Ok (EP ρ):=⟨by kernel_rfl,fun p v b a=>by kernel_rfl⟩
def ES:(t7 ρ).Ok (mM ρ):=⟨by kernel_rfl,fun p v b a=>by kernel_rfl⟩
def ER:(tZ ρ).Ok (mM ρ):=⟨by kernel_rfl,fun p v b a=>by kernel_rfl⟩
def Jw (x:Val bq) (k:Int->BY ρ) :
    RZ (mM ρ) 200 [Ë,ar,tI] [tI] x k=xx x.1 x.2.1 x.2.2 k:=by kernel_rfl
def LC:(AD ρ).Ok (Ku ρ):=⟨by kernel_rfl,fun p v b a=>by kernel_rfl⟩
def RE:(Hj ρ).Ok (Ju ρ):=⟨by kernel_rfl,fun p v b a=>by kernel_rfl⟩
def RD:(Hg ρ).Ok (Ju ρ):=⟨by kernel_rfl,fun p v b a=>by kernel_rfl⟩
def RH:(Hs ρ).Ok (Tw ρ):=⟨by kernel_rfl,fun p v b a=>by kernel_rfl⟩
def yG:(oZ ρ).Ok (ť ρ):=⟨by kernel_rfl,fun p v b a=>by kernel_rfl⟩
def yE:(oV ρ).Ok (ť ρ):=⟨by kernel_rfl,fun p v b a=>by kernel_rfl⟩
def yF:(oX ρ).Ok (ť ρ):=⟨by kernel_rfl,fun p v b a=>by kernel_rfl⟩
def yD:(oT ρ).Ok (ť ρ):=⟨by kernel_rfl,fun p v b a=>by kernel_rfl⟩
def Cp (x:Val bq) (k:Int->BY ρ) :
    RZ (ť ρ) 201 [Ë,ar,tI] [tI] x k=pu x.1 x.2.1 x.2.2 k:=by kernel_rfl
end Go.Proofs.ZzM
end
