/- lemmas -/
import Derived.Test.YtenljaeklhlanaaGreatAmC
import Derived.Test.YtenljaeklhlanaaGreatAmE
import Derived.KernelRfl
import Derived.Test.YtenljaeklhlanaaGreatMdTA
import Derived.Test.YtenljaeklhlanaaGreatProg
set_option linter.all false
noncomputable section
set_option maxRecDepth 100000
namespace Go.Proofs.ZzM
open Go Go.Am
def JK:Nat->Bool
  |103=>true
  |131=>true
  |165=>true
  |247=>true
  |248=>true
  |249=>true
  |_=>false
def TY:Nat->Bool
  |133=>true
  |_=>false
def wj:Nat->Bool
  |242=>true
  |_=>false
def am8:Nat->Bool
  |2=>true
  |48=>true
  |49=>true
  |53=>true
  |54=>true
  |55=>true
  |56=>true
  |59=>true
  |60=>true
  |61=>true
  |72=>true
  |73=>true
  |92=>true
  |93=>true
  |98=>true
  |99=>true
  |100=>true
  |101=>true
  |102=>true
  |104=>true
  |108=>true
  |109=>true
  |110=>true
  |111=>true
  |112=>true
  |126=>true
  |127=>true
  |134=>true
  |149=>true
  |150=>true
  |155=>true
  |157=>true
  |158=>true
  |159=>true
  |161=>true
  |162=>true
  |164=>true
  |166=>true
  |167=>true
  |169=>true
  |175=>true
  |176=>true
  |178=>true
  |179=>true
  |181=>true
  |182=>true
  |184=>true
  |185=>true
  |186=>true
  |193=>true
  |194=>true
  |199=>true
  |205=>true
  |211=>true
  |213=>true
  |214=>true
  |215=>true
  |216=>true
  |217=>true
  |218=>true
  |220=>true
  |221=>true
  |225=>true
  |228=>true
  |230=>true
  |237=>true
  |238=>true
  |239=>true
  |240=>true
  |241=>true
  |243=>true
  |244=>true
  |245=>true
  |250=>true
  |251=>true
  |253=>true
  |254=>true
  |259=>true
  |266=>true
  |267=>true
  |268=>true
  |277=>true
  |278=>true
  |281=>true
  |282=>true
  |285=>true
  |286=>true
  |_=>false
def isFz:Nat->Bool
  |52=>true
  |_=>false
def am9:Nat->Nat->Bool
  |71,2=>true
  |71,3=>true
  |108,25=>true
  |194,0=>true
  |_,_=>false
def ahZ:CK Nat->Nat->Bool
  |_,_=>false
abbrev Sq {ρ:Type} (E:Env ρ) (f:Nat) (ts rs:CK Ty) (x:Val (tyL ts)) (k:Val (tyL rs)->BY ρ):BY ρ:=topK E f (abo ts x) (fun h v=>Ã (amR rs h v) k)
abbrev Ls (p:Nat) (c v:CK Ty) (h:Tpl) (e:CK (Exit×Tpl×CK Ty)):Å:=⟨p,c,v,h,e,false⟩
def Ù {ρ:Type} (pt:CK (Nat×þ)) (tab:CK (ô ρ)):Env ρ :=
  {P:=Tryz.prog,eat:=am9,clone:=JK,sort:=TY,compact:=wj,inl:=am8,fz:=isFz,stop:=ahZ,pure:=abk pt,loops:=kE tab}
def acK {ρ:Type} (pt:CK (Nat×þ)) (tab:CK (ô ρ)) (xt:CK (Nat×ad4)):Env ρ:={Ù pt tab with ext:=extT xt}
def mkEnvJ {ρ:Type} (pt:CK (Nat×þ)) (tab:CK (ô ρ)) (js:CK JEnt):Env ρ :=
  {P:=Tryz.prog,eat:=am9,clone:=JK,sort:=TY,compact:=wj,inl:=am8,fz:=isFz,stop:=ahZ,pure:=abk pt,loops:=kE tab,joins:=VS js}
def mkEnvU {ρ:Type} (pt:CK (Nat×þ)) (tab:CK (ô ρ)) (us:CK alL):Env ρ :=
  {P:=Tryz.prog,eat:=am9,clone:=JK,sort:=TY,compact:=wj,inl:=am8,fz:=isFz,stop:=ahZ,pure:=abk pt,loops:=adc (Ù pt tab) us}
abbrev br:jo:=.cells [.con ab]
abbrev bt:jo:=.cells [.con tI,.con tI,.con ae,.con aa,.con af,.con ac,.con aa]
abbrev bu:jo:=.cells [.con tI,.con tI,.con tI,.con tI,.con tI,.con tI,.con tI,.con tI]
abbrev bv:jo:=.cells [.con tI,.con tI,.con tI,.con tI]
abbrev bw:jo:=.cells [.con tI]
abbrev bz:jo:=.cells [.con tI,.con tI,.con ab,.con ab,.con tI,.con tI,.con tI,.con tI]
abbrev bB:jo:=.cells [.con tI,.con tI,.con ae,.con aa,.con af,.con ac,.con aa,.con aj]
abbrev bC:jo:=.cells [.con tI,.con ab]
abbrev bD:jo:=.cells [.omp 3]
abbrev bE:jo:=.cells [.var tI,.var tI,.var ae,.var aa,.var af,.var ac,.var aa,.var aj]
abbrev bG:jo:=.cells [.con tI,.con tI,.nils,.nils,.nils,.nils,.nils]
abbrev bH:jo:=.cells [.con tI,.con tI,.own 3,.own 4,.nils,.nils,.nils]
abbrev bI:jo:=.cells [.con tI,.con tI,.own 3,.own 4,.own 5,.nils,.nils]
abbrev bJ:jo:=.cells [.con tI,.con tI,.own 3,.own 4,.own 5,.own 6,.nils]
abbrev bK:jo:=.cells [.con tI,.con tI,.own 2,.own 3,.own 4,.own 5,.own 6]
abbrev bL:jo:=.cells [.con tI,.con tI]
abbrev bM:jo:=.cells [.con tI,.con tI,.con ae,.con aa,.con af,.con ac,.con aa,.con aa,.con tI,.own 3,.own 4]
abbrev bN:jo:=.cells [.con tI,.con tI,.con ae,.con aa,.con af,.con ac,.con aa,.con aa,.con tI,.own 2,.own 3]
abbrev bO:jo:=.cells [.con tI,.con am]
abbrev bP:jo:=.cells [.own 6]
abbrev bQ:jo:=.cells [.fn 49 [(1,0)]]
abbrev bR:jo:=.cells [.con tI,.con tI,.nils,.nils,.nils,.nils,.nils,.nils]
abbrev bS:jo:=.cells [.fn 99 [(1,0)]]
abbrev bT:jo:=.cells [.fn 56 [(0,0),(1,0)]]
abbrev bU:jo:=.cells [.fn 56 [(3,0),(0,0)]]
abbrev bV:jo:=.cells [.con aj]
abbrev bW:jo:=.cells [.own 4]
abbrev bX:jo:=.cells [.con tI,.con tI,.own 9,.own 10,.own 11,.con ac,.own 12]
abbrev bY:jo:=.cells [.con tI,.con tI,.con tI]
abbrev bZ:jo:=.cells [.var tI,.var tI,.var tI,.var tI]
abbrev b7:jo:=.cells [.nils,.nils]
abbrev b8:jo:=.cells [.own 3,.own 4]
abbrev b9:jo:=.cells [.con tI,.con tI,.con ae,.own 3,.nils,.nils,.nils]
abbrev ca:jo:=.cells [.con tI,.con tI,.con ae,.own 3,.own 4,.nils,.nils]
abbrev cd:jo:=.cells [.con tI,.con tI,.con ae,.own 3,.own 4,.own 5,.nils]
abbrev ce:jo:=.cells [.con tI,.con tI,.con ae,.own 3,.own 4,.own 5,.own 6]
abbrev cf:CK jo:=[.rowv tI]
abbrev cg:CK jo:=[bt,bv]
abbrev ci:CK jo:=[bt,bz,.rowc tI]
abbrev cj:CK jo:=[bt,bC]
abbrev cm:CK jo:=[bt,bC,bD,.mapc tI tI]
abbrev cn:CK jo:=[.rowv ah,bB]
abbrev cp:CK jo:=[.rowc ah,bB]
abbrev cq:CK jo:=[.rowv ah,bE]
abbrev cr:CK jo:=[bG,bt,bI,.rowc Ú,.rowc Ç,.rowv ς]
abbrev cu:CK jo:=[bG,bt,bJ,.rowc Ú,.rowc Ç,.rowc ς,.rowv Ö]
abbrev cw:CK jo:=[bG,bK,.rowc Ú,.rowc Ç,.rowc ς,.rowc Ö,.rowv Ç]
abbrev cz:CK jo:=[bt,bN,.rowv Ĥ,.rowv Ç]
abbrev cA:CK jo:=[bO,.rowc tI,bO,bP,.rowv .bool,.rowc tI,.rowv tI]
abbrev cB:CK jo:=[bO,.rowv tI,bO,bP,.rowv .bool,.rowc tI,.rowv tI]
abbrev cD:CK jo:=[bO,.rowv tI,bO,bP,.rowv .bool,.rowv tI,.rowv tI]
abbrev cE:CK jo:=[bB,bw,bB,bQ,bR,.rowc Ö]
abbrev cF:CK jo:=[bB,br,bR,bB,bS,bR,.rowc Ö]
abbrev cG:CK jo:=[bB,.rowv tI]
abbrev cH:CK jo:=[br,bU,.rowc tI,bB]
abbrev cI:CK jo:=[br,bU,.rowv tI,bB]
abbrev cJ:CK jo:=[bt,bL,bG,bt,bG,.dead,bX,bG,.rowv Ö,.rowc Ú,.rowc Ç,.rowc ς,.rowc Ç]
abbrev cM:CK jo:=[bO,.rowv tI]
abbrev cN:CK jo:=[.rowc ab,bO,.dead,.dead,.rowv tI]
abbrev cO:CK jo:=[bO,.rowc ah,bY,bO,.rowv tI]
abbrev cP:CK jo:=[bt,.rowv tI]
abbrev cQ:CK jo:=[bt,.rowc tI,.rowv Ç]
abbrev cR:CK jo:=[bt,b7,b8,.rowv Ĥ,.rowv Ç]
abbrev cS:CK jo:=[bB,.rowc ah,.rowv ah]
abbrev cT:CK jo:=[bB,bG,cd,.rowc Ç,.rowc ς,.rowv Ö]
abbrev cV:CK jo:=[bB,bG,ce,.rowc Ç,.rowc ς,.rowc Ö,.rowv Ç]
def jJ:þ:=⟨[ah],[ab],fun(x:b5)=>Ī x⟩
def mP:Å:=Ls 0 [ah,ah,tI] [tI,tI] ⟨36,.con ah::aN 2 (.var tI::aN 5 [.con ah,.con tI,.var tI]),[]⟩ [(.exit 0,⟨36,.con ah::aN 2 (.var tI::aN 5 [.con ah,.con tI]),[]⟩,[tI])]
def mO (ρ:Type):ô ρ:=⟨[],52,0,mP,fun(p:Val (tyL mP.cs)) (v:bl) a b=>Τ p.2.1 p.2.2 v.1 v.2 (fun c d=>a (c,d)) (b 0)⟩
def xc:Å:=Ls 0 [ah,tI] [tI,ab] ⟨36,aN 6 (.own 0::aN 18 [.con ah,.con tI,.var tI]),cf⟩ [(.exit 2,⟨36,aN 6 (.own 0::aN 18 [.con ah,.con tI]),cf⟩,[ab])]
def mN (ρ:Type):ô ρ:=⟨[],52,2,xc,fun(p:rm) (v:f4) a b=>Ģ p.1 p.2 v.1 v.2 (fun c d=>a (c,d)) (b 0)⟩
def lh (ρ:Type):Env ρ:=Ù [] [mO ρ,mN ρ]
def PB:amt:=⟨206,ab,ab,Bx⟩
def iG:Tpl:=⟨37,.any::.box 1 0::.box 2 0::.any::.box 3 0::aN 6 [.con ab,.con tI,.con tI],[.acc ab,.cells [.con ab],.cells [.yld],.cells [.con tI]]⟩
def kr (al:b5) (rec:an->BY (b5)) (ρ:Type):IZ ρ:=⟨[],206,2,4,[ab,tI,tI,ab,tI],[ah],iG,⟨206,ab,ab,rec⟩,fun(p:Val bc) (v:b5) y a=>rh al rec p.2.2.2.2 v y (fun b=>a b)⟩
def Ű:Å:=Ls 2 [ab,tI,ab] [tI,ah] ⟨37,.any::.box 1 0::.box 2 0::aN 8 [.con ab,.con tI,.var tI],[.acc ab,br,.cells [.yld]]⟩ [(.exit 0,⟨37,.any::.box 1 0::.box 2 0::aN 8 [.con ab,.con tI],[.acc ab,br,.cells [.yld]]⟩,[ah])]
def nH (al:b5) (rec:an->BY (b5)) (ρ:Type):ô ρ:=⟨[],206,0,Ű,fun(p:Val bh) (v:px) a b=>ri al rec p.1 p.2.1 p.2.2 v.1 v.2 (fun c d=>a (c,d)) (b 0)⟩
def zB (al:b5) (rec:an->BY (b5)) (ρ:Type):CK (IZ ρ):=[kr al rec ρ]
def yr (al:b5) (rec:an->BY (b5)) (ρ:Type):CK (ô ρ):=[nH al rec ρ]
def ą (al:b5) (rec:an->BY (b5)) (ρ:Type):Env ρ:={Ù [(52,jJ)] (yr al rec ρ) with ranges:=Ξ (zB al rec ρ),yld:=some ⟨ab,al⟩}
def rV:amt:=⟨168,aj,ah,nV⟩
def ŵ:Tpl:=⟨27,.any::.box 1 0::.box 2 0::.box 3 0::aN 11 [.con ab],[.acc ah,.cells [.con aj],.cells [.yld],.cells [.con ab]]⟩
def je (al:a7) (rec:c9->BY (a7)) (ρ:Type):IZ ρ:=⟨[],168,2,4,[ab,aj,ab],[ak],ŵ,⟨168,aj,ah,rec⟩,fun(p:Val bm) (v:a7) y a=>nM al rec p.2.2 v y (fun b=>a b)⟩
def Ŷ:Tpl:=⟨27,[.any,.box 1 0,.box 2 0],[.acc ah,.cells [.con aj],.cells [.yld]]⟩
def jf (al:a7) (rec:c9->BY (a7)) (ρ:Type):IZ ρ:=⟨[],168,0,3,[aj],[ak],Ŷ,PB,fun(p:c9) (v:a7) y a=>nN al rec p v y (fun b=>a b)⟩
def vr (al:a7) (rec:c9->BY (a7)) (ρ:Type):CK (IZ ρ):=[je al rec ρ,jf al rec ρ]
def ti (al:a7) (rec:c9->BY (a7)) (ρ:Type):CK (ô ρ):=[]
def í (al:a7) (rec:c9->BY (a7)) (ρ:Type):Env ρ:={Ù [] (ti al rec ρ) with ranges:=Ξ (vr al rec ρ),yld:=some ⟨ah,al⟩}
def HS:amt:=⟨229,ab,tI,Bw⟩
def ę:Å:=Ls 2 [ab,tI,ab] [tI,ab] ⟨16,.yld::aN 4 [.con ab,.con tI,.var tI],[.acc tI,br]⟩ [(.exit 0,⟨16,.yld::aN 4 [.con ab,.con tI],[.acc tI,br]⟩,[ab])]
def κ (al:an) (rec:an->BY (an)) (ρ:Type):ô ρ:=⟨[],229,0,ę,fun(p:Val bh) (v:f4) a b=>jg al rec p.1 p.2.1 v.1 v.2 (fun c d=>a (c,d)) (b 0)⟩
def vJ (al:an) (rec:an->BY (an)) (ρ:Type):CK (ô ρ):=[κ al rec ρ]
def Ď (al:an) (rec:an->BY (an)) (ρ:Type):Env ρ:={Ù [] (vJ al rec ρ) with yld:=some ⟨tI,al⟩}
def vg:þ:=⟨[Ç,tI,tI],[.bool],fun(x:ly)=>Λ x.1 x.2.1 x.2.2⟩
def Zi (ρ:Type):Env ρ:=Ù [] []
def l6:þ:=⟨[tI,tI,tI],[.bool],fun(x:rx)=>ğ x.1 x.2.1 x.2.2⟩
def Zf (ρ:Type):Env ρ:=Ù [] []
def zh:þ:=⟨[tI],[.bool],fun(x:Int)=>m8 x⟩
def aa5 (ρ:Type):Env ρ:=Ù [(163,l6)] []
def UU:þ:=⟨[tI],[(.int .u64)],fun(x:Int)=>uA x⟩
def aeS (ρ:Type):Env ρ:=Ù [] []
def aaI:þ:=⟨[(.int .u64),(.int .u64)],[(.int .u64)],fun(x:nn)=>P1 x.1 x.2⟩
def Za:Å:=Ls 0 [] [(.int .u64),(.int .u64)] ⟨12,[.var (.int .u64),.var (.int .u64)],[]⟩ [(.exit 0,⟨12,[.var (.int .u64)],[]⟩,[(.int .u64)])]
def Kz (ρ:Type):ô ρ:=⟨[],265,0,Za,fun(p:Unit) (v:nn) a b=>Bs v.1 v.2 (fun c d=>a (c,d)) (b 0)⟩
def Zb (ρ:Type):Env ρ:=Ù [] [Kz ρ]
def FS:þ:=⟨[Ç],[.bool],fun(x:bl)=>wA x⟩
def aa3 (ρ:Type):Env ρ:=Ù [(264,UU),(265,aaI)] []
def Nj:þ:=⟨[Ú],[.bool],fun(x:pi)=>yb x⟩
def HF (ρ:Type):Env ρ:=Ù [(152,vg),(163,l6),(197,zh),(236,FS)] []
def zi:þ:=⟨[Ë],[tI],fun(x:b6)=>ż x⟩
def pM:Å:=Ls 0 [ae,tI,tI,tI,ae,aa,af,ac,aa] [tI] ⟨31,.any::.box 0 0::aN 4 [.con ae,.con tI,.var tI],[bt]⟩ [(.ret,⟨31,[.any,.box 0 0,.var tI,.any,.any,.any,.con ae,.con tI],[bt]⟩,[tI]),(.exit 0,⟨31,.any::.box 0 0::aN 4 [.con ae,.con tI],[bt]⟩,[])]
def pL (ρ:Type):ô ρ:=⟨[],153,0,pM,fun(p:Val (tyL pM.cs)) (v:Int) b a=>jL p.1 p.2.1 p.2.2.2.2.1 v (fun c=>b c) (a 0) (a 1)⟩
def vY (ρ:Type):Env ρ:=Ù [(195,Nj)] [pL ρ]
def wT:þ:=⟨[Ë],[ar],fun(x:b6)=>Ň x⟩
def LH:Å:=Ls 0 [ae,tI] [tI,ar] ⟨20,aN 3 (.omp 0::aN 4 [.con ae,.con tI,.var tI]),[.mapv tI Ú]⟩ [(.exit 0,⟨20,aN 3 (.omp 0::aN 4 [.con ae,.con tI]),[.mapv tI Ú]⟩,[ar])]
def yz (ρ:Type):ô ρ:=⟨[],154,0,LH,fun(p:Val (.pair ae tI)) (v:Val (.pair tI ar)) a b=>ou p.1 p.2 v.1 v.2 (fun c d=>a (c,d)) (b 0)⟩
def Hm (ρ:Type):Env ρ:=Ù [] [yz ρ]
def nD:þ:=⟨[ab,tI],[tI],fun(x:lA)=>iP x.1 x.2⟩
def yF:Å:=Ls 0 [ab,tI,tI] [tI] ⟨19,.con ab::.con tI::aN 5 [.con tI,.var tI],[]⟩ [(.ret,⟨19,[.con ab,.con tI,.any,.any,.var tI,.any,.any,.con tI],[]⟩,[tI]),(.exit 0,⟨19,.con ab::.con tI::aN 5 [.con tI],[]⟩,[])]
def nu (ρ:Type):ô ρ:=⟨[],107,0,yF,fun(p:Val (.pair ab Ç)) (v:Int) b a=>ψ p.1 p.2.1 p.2.2 v (fun c=>b c) (a 0) (a 1)⟩
def rE (ρ:Type):Env ρ:=Ù [] [nu ρ]
def Ŧ:þ:=⟨[ab,tI],[.bool],fun(x:lA)=>æ x.1 x.2⟩
def yG (ρ:Type):Env ρ:=Ù [(107,nD)] []
def UV:þ:=⟨[Ë,Ú],[ab],fun(x:Val (.pair Ë Ú))=>qu x.1 x.2⟩
def VK:Å:=Ls 0 [ac,tI,tI,tI,ae,aa,af,ac,aa,tI,tI,tI,tI,tI,tI,tI,tI] [tI,ab] ⟨59,aN 2 (.box 0 0::.box 1 0::.any::.own 2::aN 8 [.con ac,.con tI,.var tI]),[bt,bu,.rowv tI]⟩ [(.exit 0,⟨59,aN 2 (.box 0 0::.box 1 0::.any::.own 2::aN 8 [.con ac,.con tI]),[bt,bu,.rowv tI]⟩,[ab])]
def HH (ρ:Type):ô ρ:=⟨[],202,0,VK,fun(p:Val (.pair ac aq)) (v:f4) a b=>xB p.1 p.2.1 p.2.2.2.2.2.2.2.2.2.1 v.1 v.2 (fun c d=>a (c,d)) (b 0)⟩
def VJ:Å:=Ls 0 [aa,tI,tI,tI,tI,tI,tI,tI,tI,tI] [tI,ab] ⟨59,aN 3 (.box 0 0::.any::.own 1::aN 32 [.con aa,.con tI,.var tI]),[bu,.rowv tI]⟩ [(.exit 2,⟨59,aN 3 (.box 0 0::.any::.own 1::aN 32 [.con aa,.con tI]),[bu,.rowv tI]⟩,[ab])]
def HG (ρ:Type):ô ρ:=⟨[],202,2,VJ,fun(p:Val aX) (v:f4) a b=>xA p.1 p.2.1 p.2.2.1 v.1 v.2 (fun c d=>a (c,d)) (b 0)⟩
def JF (ρ:Type):Env ρ:=Ù [(51,Ŧ)] [HH ρ,HG ρ]
def FV:þ:=⟨[Ë],[aa],fun(x:b6)=>sg x⟩
def DW:Å:=Ls 0 [ae,tI,tI,ab,tI,tI,tI,ae,aa,af,ac,aa,tI,tI,tI,tI,tI,tI,tI,tI] [tI,aa] ⟨33,.any::.box 0 0::.any::.own 1::.any::.box 2 0::aN 3 (.con ae::.con tI::.con tI::aN 5 [.con ab,.con tI,.var tI]),[bt,.rowv Ç,bu]⟩ [(.exit 2,⟨33,.any::.box 0 0::.any::.own 1::.any::.box 2 0::aN 3 (.con ae::.con tI::.con tI::aN 5 [.con ab,.con tI]),[bt,.rowv Ç,bu]⟩,[aa])]
def DU (ρ:Type):ô ρ:=⟨[],156,2,DW,fun(p:Val (tyL DW.cs)) (v:nm) a b=>ug p.2.2.2.1 p.2.2.2.2.1 p.2.2.2.2.2.2.2.2.2.2.2.2.1 v.1 v.2 (fun c d=>a (c,d)) (b 0)⟩
def DY:Å:=Ls 0 [ae,tI,tI,tI,ae,aa,af,ac,aa] [tI,aa] ⟨33,.any::.box 0 0::.any::.own 1::aN 5 [.con ae,.con tI,.var tI],[bt,.rowv Ç]⟩ [(.exit 0,⟨33,.any::.box 0 0::.any::.own 1::aN 5 [.con ae,.con tI],[bt,.rowv Ç]⟩,[aa])]
def DX (ρ:Type):ô ρ:=⟨[],156,0,DY,fun(p:Val (tyL DY.cs)) (v:nm) a b=>let A:=p.2.2.2.2;uh p.1 p.2.1 p.2.2.1 p.2.2.2.1 A.1 A.2.1 A.2.2.1 A.2.2.2.1 A.2.2.2.2 v.1 v.2 (fun c d=>a (c,d)) (b 0)⟩
def EW (ρ:Type):Env ρ:=Ù [(202,UV)] [DU ρ,DX ρ]
def og:þ:=⟨[ar,tI,tI],[tI],fun(x:Val (.pair ar Ç))=>jF x.1 x.2.1 x.2.2⟩
def LJ (ρ:Type):Env ρ:=Ù [] []
def aaK:þ:=⟨[tI,tI,(.ptr ar)],[tI],fun(x:Val (.pair tI (.pair tI (.ptr ar))))=>ň x.1 x.2.1 x.2.2⟩
def VH (ρ:Type):Env ρ:=Ù [(197,zh),(198,og)] []
def UW:þ:=⟨[Ë,ar,tI],[tI],fun(x:Val bp)=>ε x.1 x.2.1 x.2.2⟩
def HJ:Å:=Ls 2 [af,tI,tI,tI,ae,aa,af,ac,aa,tI,tI,tI,tI] [tI] ⟨19,.con af::.fn 237 [(1,0)]::aN 5 [.con tI,.var tI],cg⟩ [(.ret,⟨19,[.con af,.fn 237 [(1,0)],.any,.any,.var tI,.any,.any,.con tI],cg⟩,[tI]),(.exit 0,⟨19,.con af::.fn 237 [(1,0)]::aN 5 [.con tI],cg⟩,[])]
def uk (ρ:Type):ô ρ:=⟨[9,5,1,2],244,0,HJ,fun(p:Val (.pair af aH)) (v:Int) b a=>let A:=p.2.2.2.2.2.2.2.2.2;lR p.1 p.2.1 A.1 A.2.1 A.2.2.1 v (fun c=>b c) (a 0) (a 1)⟩
def HI:Å:=Ls 2 [aa,tI,tI,tI,ae,aa,af,ac,aa,tI,tI,tI,tI] [tI] ⟨19,.con aa::.fn 238 [(1,0)]::aN 5 [.con tI,.var tI],cg⟩ [(.ret,⟨19,[.con aa,.fn 238 [(1,0)],.any,.any,.var tI,.any,.any,.con tI],cg⟩,[tI]),(.exit 0,⟨19,.con aa::.fn 238 [(1,0)]::aN 5 [.con tI],cg⟩,[])]
def uj (ρ:Type):ô ρ:=⟨[9,10,1,2],266,0,HI,fun(p:Val (.pair aa aH)) (v:Int) b a=>let A:=p.2.2.2.2.2.2.2.2.2;Κ p.1 p.2.1 A.1 A.2.1 A.2.2.1 v (fun c=>b c) (a 0) (a 1)⟩
def mU (ρ:Type):Env ρ:=Ù [(152,vg),(163,l6),(198,og)] [uk ρ,uj ρ]
def Je:þ:=⟨[ab],[.bool],fun(x:an)=>nY x⟩
def Pp:Å:=Ls 0 [ab,ab,tI] [tI] ⟨32,.con ab::aN 4 [.con ab,.con tI,.var tI],[]⟩ [(.ret,⟨32,[.con ab,.any,.var .bool,.any,.any,.con ab,.con tI],[]⟩,[.bool]),(.exit 0,⟨32,.con ab::aN 4 [.con ab,.con tI],[]⟩,[])]
def AE (ρ:Type):ô ρ:=⟨[],105,0,Pp,fun(p:Val (.pair ab aD)) (v:Int) b a=>qm p.1 p.2.1 p.2.2 v (fun c=>b c) (a 0) (a 1)⟩
def KD (ρ:Type):Env ρ:=Ù [(163,l6)] [AE ρ]
def FW:þ:=⟨[ab,ab],[ab],fun(x:ni)=>δ x.1 x.2⟩
def HE:Å:=Ls 2 [tI,ab,ab] [tI] ⟨19,.own 1::.fn 166 [(0,0)]::aN 5 [.con tI,.var tI],[br,.rowc tI]⟩ [(.ret,⟨19,[.own 1,.fn 166 [(0,0)],.any,.any,.var tI,.any,.any,.con tI],[br,.rowc tI]⟩,[tI]),(.exit 0,⟨19,.own 1::.fn 166 [(0,0)]::aN 5 [.con tI],[br,.rowc tI]⟩,[])]
def HD (ρ:Type):ô ρ:=⟨[1,3,1,2],205,0,HE,fun(p:Val (tyL HE.cs)) (v:Int) b a=>xz p.1 p.2.1 p.2.2 v (fun c=>b c) (a 0) (a 1)⟩
def VI:Å:=Ls 2 [ab] [tI,tI,ab] ⟨42,[.own 1,.fn 166 [(0,0)],.any,.any,.any,.var tI,.var tI],[br,.rowv tI]⟩ [(.exit 0,⟨42,[.own 1,.fn 166 [(0,0)],.any,.any,.any,.var tI],[br,.rowv tI]⟩,[tI,ab])]
def HC (ρ:Type):ô ρ:=⟨[1,3],164,0,VI,fun(p:an) (v:Val bf) a b=>lX p v.1 v.2.1 v.2.2 (fun c d e=>a (c,d,e)) (b 0)⟩
def JE (ρ:Type):Env ρ:=Ù [(51,Ŧ)] [HD ρ,HC ρ]
def UX:þ:=⟨[Ë,tI,tI],[ς,.bool],fun(x:Val ba)=>yc x.1 x.2.1 x.2.2⟩
def HL:Å:=Ls 4 [af,tI,tI,tI,ae,aa,af,ac,aa,tI,tI,tI,tI,tI,tI] [tI] ⟨19,.con af::.fn 245 [(1,0),(2,0)]::aN 5 [.con tI,.var tI],[bt,bw,bw,bv]⟩ [(.ret,⟨19,[.con af,.fn 245 [(1,0),(2,0)],.any,.any,.var tI,.any,.any,.con tI],[bt,bw,bw,bv]⟩,[tI]),(.exit 0,⟨19,.con af::.fn 245 [(1,0),(2,0)]::aN 5 [.con tI],[bt,bw,bw,bv]⟩,[])]
def HK (ρ:Type):ô ρ:=⟨[1,3],244,0,HL,fun(p:Val (tyL HL.cs)) (v:Int) b a=>xD p.1 p.2.1 p.2.2.2.2.2.2.2.2.2.1 p.2.2.2.2.2.2.2.2.2.2.1 v (fun c=>b c) (a 0) (a 1)⟩
def TP (ρ:Type):Env ρ:=Ù [(163,l6)] [HK ρ]
def KT:þ:=⟨[Ë,ar,tI],[tI],fun(x:Val bp)=>ō x.1 x.2.1 x.2.2⟩
def pj:Å:=Ls 2 [ac,tI,tI,tI,ae,aa,af,ac,aa,tI,tI,ab,ab,tI,tI,tI,tI] [tI] ⟨19,.con ac::.fn 241 [(1,0)]::aN 5 [.con tI,.var tI],[bt,bz]⟩ [(.ret,⟨19,[.con ac,.fn 241 [(1,0)],.any,.any,.var tI,.any,.any,.con tI],[bt,bz]⟩,[tI]),(.exit 0,⟨19,.con ac::.fn 241 [(1,0)]::aN 5 [.con tI],[bt,bz]⟩,[])]
def ph (ρ:Type):ô ρ:=⟨[4,5,1,2],109,0,pj,fun(p:Val (tyL pj.cs)) (v:Int) b a=>jj p.1 p.2.1 p.2.2.2.2.2.2.2.2.2.1 v (fun c=>b c) (a 0) (a 1)⟩
def pd:Å:=Ls 0 [ar,ab,tI,tI,tI,ab,tI,tI,tI,ae,aa,af,ac,aa,tI,tI,ab,ab,tI,tI,tI,tI,ab] [tI] ⟨140,.any::.con ar::.any::.box 0 0::aN 3 (.box 1 0::.con ab::.any::.con tI::aN 65 [.own 2,.con tI,.con tI,.any,.any,.any,.con ab,.con tI,.var tI]),ci⟩ [(.ret,⟨140,.any::.con ar::.any::.box 0 0::aN 2 (.var tI::.box 1 0::.con ab::.any::.con tI::aN 65 [.own 2,.con tI,.con tI,.any,.any,.any,.con ab,.con tI]),ci⟩,[tI]),(.exit 2,⟨140,.any::.con ar::.any::.box 0 0::aN 3 (.box 1 0::.con ab::.any::.con tI::aN 65 [.own 2,.con tI,.con tI,.any,.any,.any,.con ab,.con tI]),ci⟩,[])]
def pb (ρ:Type):ô ρ:=⟨[],201,2,pd,fun(p:Val (tyL pd.cs)) (v:Int) b a=>let A:=p.2.2.2.2.2;ji p.1 p.2.2.1 A.1 A.2.1 A.2.2.2.2.2.2.2.2.2.2.1 v (fun c=>b c) (a 0) (a 1)⟩
def pf:Å:=Ls 0 [ar,ab,tI,tI,tI,ae,aa,af,ac,aa,tI,tI,ab,ab,tI,tI,tI,tI,ab] [tI] ⟨140,.any::.con ar::.any::.box 0 0::aN 3 (.box 1 0::.con ab::aN 67 [.own 2,.con tI,.var tI]),ci⟩ [(.ret,⟨140,.any::.con ar::.any::.box 0 0::aN 2 (.var tI::.box 1 0::.con ab::aN 67 [.own 2,.con tI]),ci⟩,[tI]),(.exit 0,⟨140,.any::.con ar::.any::.box 0 0::aN 3 (.box 1 0::.con ab::aN 67 [.own 2,.con tI]),ci⟩,[])]
def pe (ρ:Type):ô ρ:=⟨[],201,0,pf,fun(p:Val (tyL pf.cs)) (v:Int) b a=>Ŗ p.1 p.2.1 p.2.2.1 p.2.2.2.2.2.2.2.2.2.2.2.1 p.2.2.2.2.2.2.2.2.2.2.2.2.2.2.2.2.2.2 v (fun c=>b c) (a 0) (a 1)⟩
def o9:Å:=Ls 0 [ab,tI,tI,tI,ae,aa,af,ac,aa,tI,tI,ab,ab,tI,tI,tI,tI] [tI] ⟨140,aN 3 (.box 0 0::aN 3 (.box 1 0::aN 90 [.con ab,.con tI,.var tI])),[bt,bz]⟩ [(.ret,⟨140,aN 3 (.box 0 0::aN 2 (.var tI::.box 1 0::aN 90 [.con ab,.con tI])),[bt,bz]⟩,[tI]),(.exit 4,⟨140,aN 3 (.box 0 0::aN 3 (.box 1 0::aN 90 [.con ab,.con tI])),[bt,bz]⟩,[])]
def o8 (ρ:Type):ô ρ:=⟨[],201,4,o9,fun(p:Val (tyL o9.cs)) (v:Int) b a=>let A:=p.2.2.2.2;ŕ p.1 p.2.1 p.2.2.1 p.2.2.2.1 A.1 A.2.1 A.2.2.1 A.2.2.2.1 A.2.2.2.2.1 A.2.2.2.2.2.2.1 v (fun c=>b c) (a 0) (a 1)⟩
def š (ρ:Type):Env ρ:=Ù [(52,jJ),(105,Je),(106,FW),(152,vg),(163,l6),(197,zh),(198,og),(204,UX)] [ph ρ,pb ρ,pe ρ,o8 ρ]
def vk:þ:=⟨[Ë],[tI],fun(x:b6)=>ζ x⟩
def XD:þ:=⟨[ab],[bo],fun(x:an)=>Ia x⟩
def SG:þ:=⟨[Â],[.bool],fun(x:a8)=>BB x⟩
def zq:Å:=Ls 0 [tI,tI,ae,aa,af,ac,aa,aj,tI,tI,ae,aa,af,ac,aa] [tI] ⟨90,[.any,.box 0 0,.any,.box 1 0,.var tI],[bB,bt]⟩ [(.ret,⟨90,[.any,.box 0 0,.var .bool,.box 1 0],[bB,bt]⟩,[.bool]),(.exit 0,⟨90,[.any,.box 0 0,.any,.box 1 0],[bB,bt]⟩,[])]
def zp (ρ:Type):ô ρ:=⟨[],6,0,zq,fun(p:Val (tyL zq.cs)) (v:Int) b a=>pR p.2.2.2.2.2.2.2.2.2.2.2.2.2.1 v (fun c=>b c) (a 0) (a 1)⟩
def zo:Å:=Ls 0 [tI,tI,ae,aa,af,ac,aa,aj,tI,tI,ae,aa,af,ac,aa] [tI] ⟨90,[.any,.box 0 0,.any,.box 1 0,.any,.var tI],[bB,bt]⟩ [(.ret,⟨90,[.any,.box 0 0,.var .bool,.box 1 0],[bB,bt]⟩,[.bool]),(.exit 2,⟨90,[.any,.box 0 0,.any,.box 1 0],[bB,bt]⟩,[])]
def zn (ρ:Type):ô ρ:=⟨[],6,2,zo,fun(p:Val (tyL zo.cs)) (v:Int) b a=>mF p.2.2.2.2.2.2.2.1 v (fun c=>b c) (a 0) (a 1)⟩
def zr (ρ:Type):Env ρ:=Ù [] [zp ρ,zn ρ]
def X5:þ:=⟨[Ë,tI,ab],[tI],fun(x:Val (.pair Ë ė))=>Iy x.1 x.2.1 x.2.2⟩
def D0:Å:=Ls 1 [ab,tI,tI,tI,ae,aa,af,ac,aa] [tI] ⟨19,.con ab::.fn 243 []::aN 5 [.con tI,.var tI],[bt]⟩ [(.ret,⟨19,[.con ab,.fn 243 [],.any,.any,.var tI,.any,.any,.con tI],[bt]⟩,[tI]),(.exit 0,⟨19,.con ab::.fn 243 []::aN 5 [.con tI],[bt]⟩,[])]
def DZ (ρ:Type):ô ρ:=⟨[4,1,1,2],205,0,D0,fun(p:Val (tyL D0.cs)) (v:Int) b a=>un p.1 p.2.1 v (fun c=>b c) (a 0) (a 1)⟩
def Ps (ρ:Type):Env ρ:=Ù [(96,vk),(154,wT),(197,zh)] [DZ ρ]
def acF:þ:=⟨[Ë,tI,tI],[.bool,tI],fun(x:Val ba)=>BU x.1 x.2.1 x.2.2⟩
def aeV (ρ:Type):Env ρ:=Ù [(203,X5),(204,UX)] []
def XF:þ:=⟨[Ë,aj,tI],[tI],fun(x:Val (.pair Ë (.pair aj tI)))=>Ic x.1 x.2.1 x.2.2⟩
def C1:Å:=Ls 0 [aj,tI,tI,tI,ae,aa,af,ac,aa,tI,ab] [tI] ⟨104,[.any,.con aj,.con tI,.box 0 0,.any,.any,.any,.box 1 0,.var tI],cj⟩ [(.ret,⟨104,[.any,.con aj,.con tI,.box 0 0,.any,.any,.var tI,.box 1 0],cj⟩,[tI]),(.exit 0,⟨104,[.any,.con aj,.con tI,.box 0 0,.any,.any,.any,.box 1 0],cj⟩,[])]
def C0 (ρ:Type):ô ρ:=⟨[],97,0,C1,fun(p:Val (tyL C1.cs)) (v:Int) b a=>oF p.2.2.2.2.2.2.2.2.2.2 v (fun c=>b c) (a 0) (a 1)⟩
def CZ:Å:=Ls 0 [aj,tI,ae,tI,tI,tI,ae,aa,af,ac,aa,tI,ab] [tI,bi] ⟨104,.any::.con aj::.con tI::.box 0 0::aN 3 (.box 1 0::.any::.box 2 0::aN 50 [.con ae,.con tI,.var tI]),[bt,bC,bD,.mapv tI tI]⟩ [(.exit 2,⟨104,.any::.con aj::.con tI::.box 0 0::aN 3 (.box 1 0::.any::.box 2 0::aN 50 [.con ae,.con tI]),[bt,bC,bD,.mapv tI tI]⟩,[bi])]
def CY (ρ:Type):ô ρ:=⟨[],97,2,CZ,fun(p:Val (tyL CZ.cs)) (v:Val (.pair tI bi)) a b=>oE p.2.2.1 p.2.2.2.1 v.1 v.2 (fun c d=>a (c,d)) (b 0)⟩
def QW:Å:=Ls 4 [ab,tI,tI,tI,ae,aa,af,ac,aa,tI,ab,bi] [tI] ⟨19,.con ab::.fn 157 [(2,0)]::aN 5 [.con tI,.var tI],cm⟩ [(.ret,⟨19,[.con ab,.fn 157 [(2,0)],.any,.any,.var tI,.any,.any,.con tI],cm⟩,[tI]),(.exit 0,⟨19,.con ab::.fn 157 [(2,0)]::aN 5 [.con tI],cm⟩,[])]
def CX (ρ:Type):ô ρ:=⟨[18,3,1,2],205,0,QW,fun(p:Val aJ) (v:Int) b a=>oD p.1 p.2.1 p.2.2.2.2.2.2.2.2.2.2.2 v (fun c=>b c) (a 0) (a 1)⟩
def QV:Å:=Ls 4 [ab,tI,tI,tI,ae,aa,af,ac,aa,tI,ab,bi] [tI] ⟨19,.con ab::.fn 158 [(1,0),(2,0)]::aN 5 [.con tI,.var tI],cm⟩ [(.ret,⟨19,[.con ab,.fn 158 [(1,0),(2,0)],.any,.any,.var tI,.any,.any,.con tI],cm⟩,[tI]),(.exit 0,⟨19,.con ab::.fn 158 [(1,0),(2,0)]::aN 5 [.con tI],cm⟩,[])]
def CW (ρ:Type):ô ρ:=⟨[20,3,1,2],205,0,QV,fun(p:Val aJ) (v:Int) b a=>md p.1 p.2.1 p.2.2.2.2.2.2.2.2.2.1 p.2.2.2.2.2.2.2.2.2.2.2 v (fun c=>b c) (a 0) (a 1)⟩
def QU:Å:=Ls 4 [ab,tI,tI,tI,ae,aa,af,ac,aa,tI,ab,bi] [tI] ⟨19,.con ab::.fn 159 [(0,0),(1,0)]::aN 5 [.con tI,.var tI],cm⟩ [(.ret,⟨19,[.con ab,.fn 159 [(0,0),(1,0)],.any,.any,.var tI,.any,.any,.con tI],cm⟩,[tI]),(.exit 0,⟨19,.con ab::.fn 159 [(0,0),(1,0)]::aN 5 [.con tI],cm⟩,[])]
def CV (ρ:Type):ô ρ:=⟨[24,3,1,2],205,0,QU,fun(p:Val aJ) (v:Int) b a=>let A:=p.2.2.2.2;ŋ p.1 p.2.1 p.2.2.1 p.2.2.2.1 A.1 A.2.1 A.2.2.1 A.2.2.2.1 A.2.2.2.2.1 A.2.2.2.2.2.1 v (fun c=>b c) (a 0) (a 1)⟩
def lW (ρ:Type):Env ρ:=Ù [(160,acF)] [C0 ρ,CY ρ,CX ρ,CW ρ,CV ρ]
def jq:þ:=⟨[Â],[tI],fun(x:a8)=>Ω x⟩
def Q8:Å:=Ls 0 [aj,tI,tI,tI,tI,tI,ae,aa,af,ac,aa,aj] [tI,tI] ⟨50,.any::.box 0 0::aN 2 (.var tI::aN 15 (.con aj::.con tI::.con tI::aN 15 [.con tI,.var tI])),[bB]⟩ [(.exit 2,⟨50,.any::.box 0 0::aN 2 (.var tI::aN 15 (.con aj::.con tI::.con tI::aN 15 [.con tI])),[bB]⟩,[tI])]
def C3 (ρ:Type):ô ρ:=⟨[],44,2,Q8,fun(p:Val (.pair aj bn)) (v:bl) a b=>oG p.2.2.2.1 v.1 v.2 (fun c d=>a (c,d)) (b 0)⟩
def Q9:Å:=Ls 0 [aj,tI,tI,tI,ae,aa,af,ac,aa,aj] [tI,tI] ⟨50,.any::.box 0 0::aN 2 (.var tI::aN 15 [.con aj,.con tI,.var tI]),[bB]⟩ [(.ret,⟨50,.any::.box 0 0::.var tI::aN 17 [.con aj,.con tI],[bB]⟩,[tI]),(.exit 0,⟨50,.any::.box 0 0::aN 2 (.var tI::aN 15 [.con aj,.con tI]),[bB]⟩,[tI])]
def C4 (ρ:Type):ô ρ:=⟨[],44,0,Q9,fun(p:Val (.pair aj aF)) (v:bl) b a=>let A:=p.2.2.2.2;tv p.1 p.2.1 p.2.2.1 p.2.2.2.1 A.1 A.2.1 A.2.2.1 A.2.2.2.1 A.2.2.2.2.1 A.2.2.2.2.2 v.1 v.2 (fun c d=>b (c,d)) (a 0) (a 1)⟩
def EG (ρ:Type):Env ρ:=Ù [(96,vk),(97,XF)] [C3 ρ,C4 ρ]
def ze:þ:=⟨[tI],[.bool],fun(x:Int)=>mZ x⟩
def JB (ρ:Type):Env ρ:=Ù [] []
def nE:þ:=⟨[tI,tI],[tI],fun(x:bl)=>iQ x.1 x.2⟩
def EV (ρ:Type):Env ρ:=Ù [(171,ze)] []
def SH:þ:=⟨[Â,ah],[tI],fun(x:v6)=>Ļ x.1 x.2⟩
def zw:Å:=Ls 0 [tI,ah,tI,tI,ab,tI,tI,tI,ae,aa,af,ac,aa,aj] [tI,tI] ⟨40,aN 2 (.box 0 0::aN 2 (.var tI::.con tI::aN 3 (.con ah::.con tI::.con tI::aN 4 [.con ab,.con tI,.var tI]))),[bB]⟩ [(.exit 2,⟨40,aN 2 (.box 0 0::aN 2 (.var tI::.con tI::aN 3 (.con ah::.con tI::.con tI::aN 4 [.con ab,.con tI]))),[bB]⟩,[tI])]
def zu (ρ:Type):ô ρ:=⟨[],115,2,zw,fun(p:Val (tyL zw.cs)) (v:bl) a b=>let A:=p.2.2.2.2;pS p.1 A.1 A.2.1 A.2.2.2.2.2.2.2.2.2 v.1 v.2 (fun c d=>a (c,d)) (b 0)⟩
def Nz:Å:=Ls 0 [ah,tI,tI,tI,ae,aa,af,ac,aa,aj] [tI,tI] ⟨40,aN 2 (.box 0 0::aN 2 (.var tI::aN 4 [.con ah,.con tI,.var tI])),[bB]⟩ [(.exit 0,⟨40,aN 2 (.box 0 0::aN 2 (.var tI::aN 4 [.con ah,.con tI])),[bB]⟩,[tI])]
def zx (ρ:Type):ô ρ:=⟨[],115,0,Nz,fun(p:rn) (v:bl) a b=>pT p.1 p.2.1 p.2.2.2.2.2.2.2.2.2 v.1 v.2 (fun c d=>a (c,d)) (b 0)⟩
def zy (ρ:Type):Env ρ:=Ù [] [zu ρ,zx ρ]
def Jd:þ:=⟨[ah,ah,ay],[tI],fun(x:Val (.pair ah (.pair ah ay)))=>kI x.1 x.2.1 x.2.2⟩
def Yq (ρ:Type):Env ρ:=Ù [(114,nE),(115,SH)] []
def Ć:afV:=⟨ah,[tI,tI],113,Â,fun(xs:a7) (x:bl) (m:a8)=>ê xs x.1 x.2 m⟩
def mK:Å:=Ls 2 [tI,tI,tI,tI,tI,ae,aa,af,ac,aa,aj] [tI,ak] ⟨53,.own 0::.con tI::.con tI::.fn 113 [(1,0)]::aN 4 [.con tI,.var tI],cn⟩ [(.exit 2,⟨53,.own 0::.con tI::.con tI::.fn 113 [(1,0)]::aN 4 [.con tI],cn⟩,[ak])]
def Ο (ρ:Type):ô ρ:=⟨[],207,2,mK,fun(p:Val bn) (v:io) a b=>let A:=p.2.2.2.2;let B:=A.2.2.2.2;ë p.1 p.2.2.2.1 A.1 A.2.1 A.2.2.1 A.2.2.2.1 B.1 B.2.1 B.2.2 v.1 v.2 (fun c d=>a (c,d)) (b 0)⟩
def mL:Å:=Ls 2 [tI,tI,tI,tI,ae,aa,af,ac,aa,aj] [tI,ak] ⟨53,.own 0::.con tI::.con tI::.fn 113 [(1,0)]::aN 4 [.var tI],cn⟩ [(.exit 0,⟨53,[.own 0,.con tI,.con tI,.fn 113 [(1,0)]],cn⟩,[ak])]
def Ρ (ρ:Type):ô ρ:=⟨[],207,0,mL,fun(p:Val (.pair tI aF)) (v:io) a b=>let A:=p.2.2.2.2;Đ p.1 p.2.1 p.2.2.1 p.2.2.2.1 A.1 A.2.1 A.2.2.1 A.2.2.2.1 A.2.2.2.2.1 A.2.2.2.2.2 v.1 v.2 (fun c d=>a (c,d)) (b 0)⟩
def ý (ρ:Type):Env ρ:={Ù [(113,Jd)] [Ο ρ,Ρ ρ] with hint:=V4 [(22,113)]}
def ķ:afV:=⟨ah,[tI,tI,tI],113,Â,fun(xs:a7) (x:rx) (m:a8)=>Ľ xs x.1 x.2.1 x.2.2 m⟩
def sE:Å:=Ls 2 [tI,tI,tI,tI,tI,ae,aa,af,ac,aa,aj] [tI,ak] ⟨38,.own 0::.con tI::.con tI::.con tI::aN 6 [.var tI],cn⟩ [(.exit 0,⟨38,[.own 0,.con tI,.con tI,.con tI],cn⟩,[ak])]
def kT (ρ:Type):ô ρ:=⟨[4,7],267,0,sE,fun(p:Val bn) (v:io) a b=>ď p.1 p.2.1 p.2.2.1 v.1 v.2 (fun c d=>a (c,d)) (b 0)⟩
def sw:Å:=Ls 2 [tI,tI,tI,tI,tI,ae,aa,af,ac,aa,aj] [tI,ak] ⟨38,.own 0::.con tI::.con tI::.con tI::aN 6 [.var tI],cn⟩ [(.exit 0,⟨38,[.own 0,.con tI,.con tI,.con tI],cn⟩,[ak])]
def kS (ρ:Type):ô ρ:=⟨[6,11],267,0,sw,fun(p:Val bn) (v:io) a b=>iN p.1 p.2.1 p.2.2.1 v.1 v.2 (fun c d=>a (c,d)) (b 0)⟩
def sF:Å:=Ls 2 [tI,tI,tI,ae,aa,af,ac,aa,aj] [tI,tI,ak] ⟨58,.own 0::.any::.con tI::.any::.fn 113 [(1,0)]::aN 5 [.var tI,.var tI],cn⟩ [(.exit 0,⟨58,.own 0::.any::.con tI::.any::.fn 113 [(1,0)]::aN 5 [.var tI],cn⟩,[tI,ak])]
def kX (ρ:Type):ô ρ:=⟨[],246,0,sF,fun(p:AN) (v:xl) a b=>Ĺ p.1 v.1 v.2.1 v.2.2 (fun c d e=>a (c,d,e)) (b 0)⟩
def sv:Å:=Ls 2 [tI,tI,tI,tI,tI,ae,aa,af,ac,aa,aj] [tI,ak] ⟨38,.own 0::.con tI::.con tI::.con tI::aN 6 [.var tI],cn⟩ [(.exit 0,⟨38,[.own 0,.con tI,.con tI,.con tI],cn⟩,[ak])]
def kR (ρ:Type):ô ρ:=⟨[8,7],267,0,sv,fun(p:Val bn) (v:io) a b=>iM p.1 p.2.1 p.2.2.1 v.1 v.2 (fun c d=>a (c,d)) (b 0)⟩
def Ą (ρ:Type):Env ρ:=Ù [] [kT ρ,kS ρ,kX ρ,kR ρ]
def mA:afV:=⟨ah,[tI,tI,tI],113,Â,fun(xs:a7) (x:rx) (m:a8)=>Ė xs x.1 x.2.1 x.2.2 m⟩
def ċ:Å:=Ls 2 [tI,ak,tI,tI,ae,aa,af,ac,aa,aj] [tI,tI] ⟨220,.own 0::.con tI::aN 2 (.fn 113 [(1,0)]::aN 5 [.var tI,.var tI]),cp⟩ [(.exit 0,⟨220,.own 0::.con tI::aN 2 (.fn 113 [(1,0)]::aN 5 [.var tI]),cp⟩,[tI])]
def Ŭ (rec:a7->Int->Int->Int->a8->BY (a7×a8)) (ρ:Type):ô ρ:=⟨[],208,0,ċ,fun(p:v8) (v:bl) a b=>Ā rec p.1 p.2.1 p.2.2.1 p.2.2.2.1 p.2.2.2.2.1 p.2.2.2.2.2.1 p.2.2.2.2.2.2.1 p.2.2.2.2.2.2.2.1 p.2.2.2.2.2.2.2.2.1 p.2.2.2.2.2.2.2.2.2 v.1 v.2 (fun c d=>a (c,d)) (b 0)⟩
def Ċ:Å:=Ls 2 [tI,tI,tI,ae,aa,af,ac,aa,aj] [tI,ak] ⟨220,.own 0::aN 9 [.con tI,.any,.any,.var tI],cn⟩ [(.exit 2,⟨220,.own 0::aN 9 [.con tI],cn⟩,[ak])]
def ū (rec:a7->Int->Int->Int->a8->BY (a7×a8)) (ρ:Type):ô ρ:=⟨[],208,2,Ċ,fun(p:AN) (v:io) a b=>ó rec p.1 v.1 v.2 (fun c d=>a (c,d)) (b 0)⟩
def ĉ:Å:=Ls 2 [tI,ak,tI,tI,ae,aa,af,ac,aa,aj] [tI,tI] ⟨220,.own 0::.any::.con tI::.any::.fn 113 [(1,0)]::aN 9 [.var tI,.var tI],cp⟩ [(.exit 4,⟨220,.own 0::.any::.con tI::.any::.fn 113 [(1,0)]::aN 9 [.var tI],cp⟩,[tI])]
def Ū (rec:a7->Int->Int->Int->a8->BY (a7×a8)) (ρ:Type):ô ρ:=⟨[],208,4,ĉ,fun(p:v8) (v:bl) a b=>ÿ rec p.1 p.2.1 p.2.2.1 p.2.2.2.1 p.2.2.2.2.1 p.2.2.2.2.2.1 p.2.2.2.2.2.2.1 p.2.2.2.2.2.2.2.1 p.2.2.2.2.2.2.2.2.1 p.2.2.2.2.2.2.2.2.2 v.1 v.2 (fun c d=>a (c,d)) (b 0)⟩
def Ĉ:Å:=Ls 2 [tI,tI,tI,ae,aa,af,ac,aa,aj] [tI,ak] ⟨220,.own 0::aN 13 [.con tI,.any,.any,.var tI],cn⟩ [(.exit 6,⟨220,.own 0::aN 13 [.con tI],cn⟩,[ak])]
def ũ (rec:a7->Int->Int->Int->a8->BY (a7×a8)) (ρ:Type):ô ρ:=⟨[],208,6,Ĉ,fun(p:AN) (v:io) a b=>ò rec p.1 v.1 v.2 (fun c d=>a (c,d)) (b 0)⟩
def ć:Å:=Ls 2 [tI,tI,tI,tI,tI,tI,ak,tI,tI,ae,aa,af,ac,aa,aj] [tI,tI] ⟨220,.own 0::.con tI::.con tI::.con tI::.fn 113 [(1,0)]::aN 13 [.con tI,.con tI,.var tI,.var tI,.con tI],cp⟩ [(.exit 8,⟨220,.own 0::.con tI::.con tI::.con tI::.fn 113 [(1,0)]::aN 13 [.con tI,.con tI,.var tI,.any,.con tI],cp⟩,[tI])]
def Ũ (rec:a7->Int->Int->Int->a8->BY (a7×a8)) (ρ:Type):ô ρ:=⟨[],208,8,ć,fun(p:Val aW) (v:bl) a b=>å rec p.2.2.2.2.2.1 p.2.2.2.2.2.2.1 p.2.2.2.2.2.2.2.1 p.2.2.2.2.2.2.2.2.1 p.2.2.2.2.2.2.2.2.2.1 p.2.2.2.2.2.2.2.2.2.2.1 p.2.2.2.2.2.2.2.2.2.2.2.1 p.2.2.2.2.2.2.2.2.2.2.2.2.1 p.2.2.2.2.2.2.2.2.2.2.2.2.2.1 p.2.2.2.2.2.2.2.2.2.2.2.2.2.2 v.1 v.2 (fun c d=>a (c,d)) (b 0)⟩
def sn (rec:a7->Int->Int->Int->a8->BY (a7×a8)):CK (Nat×þ):=[(113,Jd)]
def sm (rec:a7->Int->Int->Int->a8->BY (a7×a8)):CK (Nat×ad4):=[(208,.row ⟨ah,[tI,tI,tI],113,Â,fun(xs:a7) (x:rx) (m:a8)=>rec xs x.1 x.2.1 x.2.2 m⟩),(246,.row ķ)]
def jQ (rec:a7->Int->Int->Int->a8->BY (a7×a8)) (ρ:Type):CK (ô ρ):=[Ŭ rec ρ,ū rec ρ,Ū rec ρ,ũ rec ρ,Ũ rec ρ]
def É (rec:a7->Int->Int->Int->a8->BY (a7×a8)) (ρ:Type):Env ρ:={acK (sn rec) (jQ rec ρ) (sm rec) with hint:=V4 [(40,113),(92,113),(158,113)]}
def ġ:afV:=⟨ah,[tI],113,Â,fun(xs:a7) (x:Int) (m:a8)=>ļ xs x m⟩
def su:Å:=Ls 2 [tI,tI] [tI,tI,ak,tI,tI,ae,aa,af,ac,aa,aj] ⟨63,[.own 0,.con tI,.fn 113 [(1,0)],.any,.any,.any,.con tI,.var tI,.var tI],cq⟩ [(.exit 0,⟨63,[.own 0,.con tI,.fn 113 [(1,0)],.any,.any,.any,.con tI,.var tI],cq⟩,[tI,ak,tI,tI,ae,aa,af,ac,aa,aj])]
def kQ (ρ:Type):ô ρ:=⟨[],170,0,su,fun(p:bl) (v:x9) a b=>iL p.1 p.2 v.1 v.2.1 v.2.2.1 v.2.2.2.1 v.2.2.2.2.1 v.2.2.2.2.2.1 v.2.2.2.2.2.2.1 v.2.2.2.2.2.2.2.1 v.2.2.2.2.2.2.2.2.1 v.2.2.2.2.2.2.2.2.2.1 v.2.2.2.2.2.2.2.2.2.2 (fun c d e f g h i j k l m=>a (c,d,e,f,g,h,i,j,k,l,m)) (b 0)⟩
def sq:Å:=Ls 2 [tI,tI] [tI,tI,ak,tI,tI,ae,aa,af,ac,aa,aj] ⟨63,[.own 0,.con tI,.fn 113 [(1,0)],.any,.any,.any,.con tI,.var tI,.var tI],cq⟩ [(.exit 4,⟨63,[.own 0,.con tI,.fn 113 [(1,0)],.any,.any,.any,.con tI,.var tI],cq⟩,[tI,ak,tI,tI,ae,aa,af,ac,aa,aj])]
def kO (ρ:Type):ô ρ:=⟨[],170,4,sq,fun(p:bl) (v:x9) a b=>iJ p.1 p.2 v.1 v.2.1 v.2.2.1 v.2.2.2.1 v.2.2.2.2.1 v.2.2.2.2.2.1 v.2.2.2.2.2.2.1 v.2.2.2.2.2.2.2.1 v.2.2.2.2.2.2.2.2.1 v.2.2.2.2.2.2.2.2.2.1 v.2.2.2.2.2.2.2.2.2.2 (fun c d e f g h i j k l m=>a (c,d,e,f,g,h,i,j,k,l,m)) (b 0)⟩
def sr:Å:=Ls 2 [tI] [tI,ak,tI,tI,ae,aa,af,ac,aa,aj] ⟨63,[.own 0,.con tI,.fn 113 [(1,0)],.any,.any,.any,.var tI],cq⟩ [(.exit 2,⟨63,[.own 0,.con tI,.fn 113 [(1,0)]],cq⟩,[ak,tI,tI,ae,aa,af,ac,aa,aj])]
def kP (ρ:Type):ô ρ:=⟨[],170,2,sr,fun(p:Int) (v:v8) a b=>iK p v.1 v.2.1 v.2.2.1 v.2.2.2.1 v.2.2.2.2.1 v.2.2.2.2.2.1 v.2.2.2.2.2.2.1 v.2.2.2.2.2.2.2.1 v.2.2.2.2.2.2.2.2.1 v.2.2.2.2.2.2.2.2.2 (fun c d e f g h i j k l=>a (c,d,e,f,g,h,i,j,k,l)) (b 0)⟩
def vI:CK (Nat×ad4):=[(207,.row Ć),(208,.row mA)]
def ĕ (ρ:Type):Env ρ:=acK [] [kQ ρ,kO ρ,kP ρ] vI
def Bk:þ:=⟨[Â],[ak],fun(x:a8)=>uw x⟩
def mG:Tpl:=⟨13,[.any,.any,.box 2 0],[.cells [.con tI,.con tI,.con ae,.con aa,.con af,.con ac,.con aa,.con aj],.dead,.cells [.own 3],.rowv ah]⟩
def pU (ρ:Type):IZ ρ:=⟨[1,3,1,1],167,0,3,[tI,tI,ae,aa,af,ac,aa,aj],[ak],mG,rV,fun(p:rd) (v:a7) y a=>Es v y (fun b=>a b)⟩
def NA (ρ:Type):CK (IZ ρ):=[pU ρ]
def aaQ:CK (Nat×ad4):=[(170,.row ġ)]
def kq (ρ:Type):Env ρ:={acK [] [] aaQ with ranges:=Ξ (NA ρ)}
def M9:þ:=⟨[Â,ah,tI,tI],[tI],fun(x:ry)=>uQ x.1 x.2.1 x.2.2.1 x.2.2.2⟩
def Yn:Å:=Ls 0 [ah,tI,tI,tI,ae,aa,af,ac,aa,aj] [tI,tI] ⟨47,.any::.con ah::.var tI::.con tI::.box 0 0::aN 4 [.var tI],[bB]⟩ [(.exit 0,⟨47,[.any,.con ah,.var tI,.con tI,.box 0 0],[bB]⟩,[tI])]
def Ko (ρ:Type):ô ρ:=⟨[],69,0,Yn,fun(p:rn) (v:bl) a b=>Bl p.1 p.2.1 p.2.2.2.2.2.2.2.2.2 v.1 v.2 (fun c d=>a (c,d)) (b 0)⟩
def Yo (ρ:Type):Env ρ:=Ù [(107,nD)] [Ko ρ]
def zb:þ:=⟨[ab,tI,ay,aK],[ab],fun(x:Val (.pair ab (.pair tI (.pair ay aK))))=>j8 x.1 x.2.1 x.2.2.1 x.2.2.2⟩
def pJ:Å:=Ls 0 [tI,ay,aK,ab,tI] [tI,ab] ⟨28,[.any,.con tI,.con ay,.con aK,.any,.any,.any,.own 0,.any,.any,.con ab,.con tI,.var tI],cf⟩ [(.exit 0,⟨28,[.any,.con tI,.con ay,.con aK,.any,.any,.any,.own 0,.any,.any,.con ab,.con tI],cf⟩,[ab])]
def pI (ρ:Type):ô ρ:=⟨[],132,0,pJ,fun(p:Val (tyL pJ.cs)) (v:f4) a b=>jK p.1 p.2.1 p.2.2.1 p.2.2.2.1 p.2.2.2.2 v.1 v.2 (fun c d=>a (c,d)) (b 0)⟩
def vq (ρ:Type):Env ρ:=Ù [(69,M9)] [pI ρ]
def my:þ:=⟨[Â,ah],[Ë],fun(x:v6)=>jm x.1 x.2⟩
def tc:Å:=Ls 0 [ay,aK,ay,aK,aa,tI,tI,tI,tI,tI,ae,aa,af,ac,aa,tI,tI,ae] [tI,aa] ⟨123,aN 2 (.con ay::.con aK::.box 0 0::.box 1 0::.box 2 0::.fnd 132 [Â,ah]::aN 18 [.con aa,.con tI,.var tI]),[bG,bt,bH,.rowc Ú,.rowv Ç]⟩ [(.exit 0,⟨123,aN 2 (.con ay::.con aK::.box 0 0::.box 1 0::.box 2 0::.fnd 132 [Â,ah]::aN 18 [.con aa,.con tI]),[bG,bt,bH,.rowc Ú,.rowv Ç]⟩,[aa])]
def ta (ρ:Type):ô ρ:=⟨[],71,0,tc,fun(p:Val (tyL tc.cs)) (v:nm) a b=>lM p.1 p.2.1 p.2.2.2.2.1 p.2.2.2.2.2.1 v.1 v.2 (fun c d=>a (c,d)) (b 0)⟩
def s9:Å:=Ls 0 [ay,aK,ay,aK,af,tI,tI,tI,tI,tI,ae,aa,af,ac,aa,tI,tI,ae,aa] [tI,af] ⟨123,aN 2 (.con ay::.con aK::.box 0 0::.box 1 0::.box 2 0::.fnd 132 [Â,ah]::aN 41 [.con af,.con tI,.var tI]),cr⟩ [(.exit 2,⟨123,aN 2 (.con ay::.con aK::.box 0 0::.box 1 0::.box 2 0::.fnd 132 [Â,ah]::aN 41 [.con af,.con tI]),cr⟩,[af])]
def s8 (ρ:Type):ô ρ:=⟨[],71,2,s9,fun(p:Val (tyL s9.cs)) (v:y5) a b=>lL p.1 p.2.1 p.2.2.2.2.1 p.2.2.2.2.2.1 v.1 v.2 (fun c d=>a (c,d)) (b 0)⟩
def s7:Å:=Ls 0 [ay,aK,ay,aK,ac,tI,tI,tI,tI,tI,ae,aa,af,ac,aa,tI,tI,ae,aa,af] [tI,ac] ⟨123,aN 2 (.con ay::.con aK::.box 0 0::.box 1 0::.box 2 0::.fnd 132 [Â,ah]::aN 64 [.con ac,.con tI,.var tI]),cu⟩ [(.exit 4,⟨123,aN 2 (.con ay::.con aK::.box 0 0::.box 1 0::.box 2 0::.fnd 132 [Â,ah]::aN 64 [.con ac,.con tI]),cu⟩,[ac])]
def sZ (ρ:Type):ô ρ:=⟨[],71,4,s7,fun(p:Val (tyL s7.cs)) (v:BE) a b=>lK p.2.2.1 p.2.2.2.1 p.2.2.2.2.1 p.2.2.2.2.2.1 v.1 v.2 (fun c d=>a (c,d)) (b 0)⟩
def sY:Å:=Ls 0 [ay,aK,aa,tI,tI,tI,tI,tI,ae,aa,af,ac] [tI,aa] ⟨123,aN 2 (.con ay::.con aK::.box 0 0::.any::.box 1 0::aN 93 [.con aa,.con tI,.var tI]),cw⟩ [(.exit 6,⟨123,aN 2 (.con ay::.con aK::.box 0 0::.any::.box 1 0::aN 93 [.con aa,.con tI]),cw⟩,[aa])]
def sX (ρ:Type):ô ρ:=⟨[],71,6,sY,fun(p:Val (tyL sY.cs)) (v:nm) a b=>lJ p.1 p.2.1 p.2.2.1 p.2.2.2.1 v.1 v.2 (fun c d=>a (c,d)) (b 0)⟩
def Ŵ (ρ:Type):Env ρ:={Ù [(69,M9),(132,zb)] [ta ρ,s8 ρ,sZ ρ,sX ρ] with hint:=V4 [(78,132),(84,132)]}
def Ų:þ:=⟨[aa,Ç],[tI],fun(x:Val (.pair aa Ç))=>ú x.1 x.2⟩
def nq:Å:=Ls 0 [aa,tI,tI,tI] [tI] ⟨19,[.con aa,.any,.any,.box 0 0,.any,.any,.any,.con tI,.var tI],[bL]⟩ [(.ret,⟨19,[.con aa,.any,.any,.box 0 0,.var tI,.any,.any,.con tI],[bL]⟩,[tI]),(.exit 0,⟨19,[.con aa,.any,.any,.box 0 0,.any,.any,.any,.con tI],[bL]⟩,[])]
def υ (ρ:Type):ô ρ:=⟨[],174,0,nq,fun(p:Val (.pair aa Ĥ)) (v:Int) b a=>ĩ p.1 p.2.1 p.2.2.1 p.2.2.2 v (fun c=>b c) (a 0) (a 1)⟩
def jt (ρ:Type):Env ρ:=Ù [] [υ ρ]
def Km:þ:=⟨[(.ptr Ea),ab,tI],[tI],fun(x:Val (.pair (.ptr Ea) aD))=>mh x.1 x.2.1 x.2.2⟩
def RL (ρ:Type):Env ρ:=Ù [(174,Ų)] []
def acD:þ:=⟨[Ë,Ú,tI,tI],[tI],fun(x:Val (.pair Ë (.pair Ú Ç)))=>BT x.1 x.2.1 x.2.2.1 x.2.2.2⟩
def HB:Å:=Ls 0 [tI,tI,af,tI,tI,tI,ae,aa,af,ac,aa,tI,tI,tI,tI,tI,tI,tI,tI] [tI,tI] ⟨88,aN 2 (.con tI::.con tI::.box 0 0::.box 1 0::aN 3 (.var tI::aN 7 [.con af,.con tI,.var tI])),[bt,bu]⟩ [(.exit 0,⟨88,aN 2 (.con tI::.con tI::.box 0 0::.box 1 0::aN 3 (.var tI::aN 7 [.con af,.con tI])),[bt,bu]⟩,[tI])]
def HA (ρ:Type):ô ρ:=⟨[],226,0,HB,fun(p:Val (tyL HB.cs)) (v:bl) a b=>xy p.1 p.2.1 p.2.2.1 p.2.2.2.1 p.2.2.2.2.2.2.2.2.2.2.2.1 v.1 v.2 (fun c d=>a (c,d)) (b 0)⟩
def Hz:Å:=Ls 0 [tI,tI,tI,aa,tI,tI,tI,tI,tI,tI,tI,tI,tI] [tI,ab] ⟨88,aN 2 (.con tI::.con tI::.any::.box 0 0::aN 3 (.con tI::aN 3 (.own 1::aN 39 [.con aa,.con tI,.var tI]))),[bu,.rowv tI]⟩ [(.exit 2,⟨88,aN 2 (.con tI::.con tI::.any::.box 0 0::aN 3 (.con tI::aN 3 (.own 1::aN 39 [.con aa,.con tI]))),[bu,.rowv tI]⟩,[ab])]
def Hy (ρ:Type):ô ρ:=⟨[],226,2,Hz,fun(p:Val (tyL Hz.cs)) (v:f4) a b=>xx p.1 p.2.1 p.2.2.2.1 p.2.2.2.2.1 p.2.2.2.2.2.1 v.1 v.2 (fun c d=>a (c,d)) (b 0)⟩
def JD (ρ:Type):Env ρ:=Ù [(163,l6)] [HA ρ,Hy ρ]
def yp:þ:=⟨[ar,ab],[Ç],fun(x:Val (.pair ar ab))=>jy x.1 x.2⟩
def Hn (ρ:Type):Env ρ:=Ù [] []
def vf:þ:=⟨[aa],[tI],fun(x:bx)=>lE x⟩
def RK:Å:=Ls 0 [aa,tI] [tI] ⟨15,aN 5 [.con aa,.con tI,.var tI],[]⟩ [(.ret,⟨15,[.any,.any,.var tI,.any,.any,.con aa,.con tI],[]⟩,[tI]),(.exit 0,⟨15,aN 5 [.con aa,.con tI],[]⟩,[])]
def DR (ρ:Type):ô ρ:=⟨[],272,0,RK,fun(p:Val (.pair aa tI)) (v:Int) b a=>ue p.1 p.2 v (fun c=>b c) (a 0) (a 1)⟩
def Pe (ρ:Type):Env ρ:=Ù [(236,FS)] [DR ρ]
def Ej:þ:=⟨[tI,tI],[Ç,tI],fun(x:bl)=>sf x.1 x.2⟩
def VE (ρ:Type):Env ρ:=Ù [(264,UU),(265,aaI)] []
def agQ:þ:=⟨[Ç,Ç],[Ç,tI],fun(x:ly)=>Wi x.1 x.2⟩
def ahx (ρ:Type):Env ρ:=Ù [(272,vf),(279,Ej)] []
def FU:þ:=⟨[Ç,Ç],[Ç],fun(x:ly)=>ya x.1 x.2⟩
def Pl (ρ:Type):Env ρ:=Ù [(275,agQ)] []
def aaJ:þ:=⟨[Ç,Ç],[tI],fun(x:ly)=>P2 x.1 x.2⟩
def ahv (ρ:Type):Env ρ:=Ù [] []
def CQ:þ:=⟨[ĝ],[.bool],fun(x:ly)=>uR x⟩
def LG (ρ:Type):Env ρ:=Ù [(272,vf),(284,aaJ)] []
def agR:þ:=⟨[Ç,Ç],[Ç,tI],fun(x:ly)=>P4 x.1 x.2⟩
def ahz (ρ:Type):Env ρ:=Ù [(272,vf),(279,Ej)] []
def X0:þ:=⟨[ĝ,Ç],[ĝ,tI],fun(x:Val (.pair ĝ Ç))=>P3 x.1 x.2⟩
def KB:CK (Nat×þ):=[(236,FS),(280,CQ),(283,agR),(284,aaJ)]
def xr (ρ:Type):CK (ô ρ):=[]
def KA:CK alL:=[⟨[3,2],281,0,4⟩]
def Zd (ρ:Type):Env ρ:=Ù KB (xr ρ)
def EU (ρ:Type):Env ρ:=mkEnvU KB (xr ρ) KA
def FT:þ:=⟨[Ç,Ç],[ĝ],fun(x:ly)=>qt x.1 x.2⟩
def Pk (ρ:Type):Env ρ:=Ù [(276,X0)] []
def SZ:þ:=⟨[Ë,Ö],[ĝ],fun(x:Val aZ)=>wB x.1 x.2⟩
def Zj (ρ:Type):Env ρ:=Ù [(106,FW),(154,wT),(269,yp),(270,FU),(271,FT)] []
def X4:þ:=⟨[Ë,Ö],[Ç],fun(x:Val aZ)=>AR x.1 x.2⟩
def aa6 (ρ:Type):Env ρ:=Ù [] []
def Ni:þ:=⟨[tI,tI],[tI],fun(x:bl)=>wz x.1 x.2⟩
def aa2 (ρ:Type):Env ρ:=Ù [] []
def X3:þ:=⟨[Ç],[tI,tI],fun(x:bl)=>Ix x⟩
def aa4 (ρ:Type):Env ρ:=Ù [(272,vf),(273,Ni)] []
def acA:þ:=⟨[Ç],[tI,tI],fun(x:bl)=>Mr x⟩
def aeT (ρ:Type):Env ρ:=Ù [(272,vf),(273,Ni)] []
def acB:þ:=⟨[Ë,Ö],[Ç],fun(x:Val aZ)=>BS x.1 x.2⟩
def aeU (ρ:Type):Env ρ:=Ù [(255,SZ),(256,X4),(257,X3),(258,acA)] []
def acC:þ:=⟨[Ë],[(.ptr Ea)],fun(x:b6)=>Ms x⟩
def Hv:Å:=Ls 2 [tI,ab,tI,ae,tI,tI,tI,tI,ae,aa,af,ac,aa,tI,tI,ae,aa,af,ac,aa,aa,tI,tI,tI,tI,tI,tI,tI,tI,tI] [tI,am,aa] ⟨144,.box 1 0::.any::.con tI::.box 2 0::.con ab::.con tI::.var tI::aN 24 [.con ae,.con tI,.con tI],[bt,bM,bu,.rowv Ĥ,.rowv Ç]⟩ [(.exit 2,⟨144,.box 1 0::.any::.con tI::.box 2 0::.con ab::.con tI::aN 25 [.con ae,.con tI,.con tI],[bt,bM,bu,.rowv Ĥ,.rowv Ç]⟩,[am,aa])]
def Hu (ρ:Type):ô ρ:=⟨[2,1],181,2,Hv,fun(p:Val (tyL Hv.cs)) (v:wk) a b=>let A:=p.2.2.2.2.2.2.2.2.2.2.2.2.2;let B:=A.2.2.2.2;let C:=B.2.2.2.2.2;let D:=C.2.2.2.2;xv p.1 p.2.1 p.2.2.1 A.1 A.2.1 A.2.2.1 A.2.2.2.1 B.1 B.2.1 B.2.2.1 C.1 C.2.1 C.2.2.1 C.2.2.2.1 D.1 D.2.1 D.2.2.1 D.2.2.2 v.1 v.2.1 v.2.2 (fun c d e=>a (c,d,e)) (b 0)⟩
def Hx:Å:=Ls 2 [ae,tI,tI,tI,ae,aa,af,ac,aa,tI,tI,ae,aa,af,ac,aa,aa,tI] [tI,am,aa] ⟨144,.box 1 0::aN 30 [.con ae,.con tI,.var tI],cz⟩ [(.exit 0,⟨144,.box 1 0::aN 30 [.con ae,.con tI],cz⟩,[am,aa])]
def Hw (ρ:Type):ô ρ:=⟨[2,1],181,0,Hx,fun(p:Val (tyL Hx.cs)) (v:wk) a b=>let A:=p.2.2.2.2.2.2.2.2.2;let B:=A.2.2.2.2;xw p.1 p.2.1 A.1 A.2.1 A.2.2.1 A.2.2.2.1 B.1 B.2.1 B.2.2.1 B.2.2.2.1 B.2.2.2.2 v.1 v.2.1 v.2.2 (fun c d e=>a (c,d,e)) (b 0)⟩
def Ht:Å:=Ls 2 [ac,tI,tI,tI,ae,aa,af,ac,aa,tI,tI,ae,aa,af,ac,aa,aa,tI] [tI,am,aa] ⟨144,.box 1 0::aN 107 [.con ac,.con tI,.var tI],cz⟩ [(.exit 4,⟨144,.box 1 0::aN 107 [.con ac,.con tI],cz⟩,[am,aa])]
def Hs (ρ:Type):ô ρ:=⟨[2,1],181,4,Ht,fun(p:Val (tyL Ht.cs)) (v:wk) a b=>let A:=p.2.2.2.2.2.2.2.2.2;let B:=A.2.2.2.2;xu p.1 p.2.1 A.1 A.2.1 A.2.2.1 A.2.2.2.1 B.1 B.2.1 B.2.2.1 B.2.2.2.1 B.2.2.2.2 v.1 v.2.1 v.2.2 (fun c d e=>a (c,d,e)) (b 0)⟩
def Bt (ρ:Type):Env ρ:=Ù [(106,FW),(156,FV),(202,UV),(224,Km),(226,acD),(227,acB)] [Hu ρ,Hw ρ,Hs ρ]
def vh:þ:=⟨[Ë],[Õ,aa,tI],fun(x:b6)=>jG x⟩
def Zm (ρ:Type):Env ρ:=Ù [(96,vk),(136,acC)] []
def UT:þ:=⟨[Õ,tI],[.bool],fun(x:Val (.pair Õ tI))=>BQ x.1 x.2⟩
def aeQ (ρ:Type):Env ρ:=Ù [] []
def zd:þ:=⟨[Õ],[tI,tI],fun(x:im)=>se x⟩
def RI:Å:=Ls 0 [am,tI,tI,am] [tI] ⟨57,.any::.box 0 0::aN 17 [.con am,.con tI,.var tI],[bO]⟩ [(.ret,⟨57,.any::.box 0 0::.var tI::.var tI::aN 15 [.con am,.con tI],[bO]⟩,[tI,tI]),(.exit 0,⟨57,.any::.box 0 0::aN 17 [.con am,.con tI],[bO]⟩,[])]
def DP (ρ:Type):ô ρ:=⟨[],89,0,RI,fun(p:Val (.pair am aR)) (v:Int) b a=>ud p.1 p.2.1 p.2.2.1 p.2.2.2 v (fun c=>b c) (a 0) (a 1)⟩
def Pc (ρ:Type):Env ρ:=Ù [(148,UT)] [DP ρ]
def sO:þ:=⟨[Õ,au],[ab,.bool],fun(x:Val (.pair Õ au))=>mg x.1 x.2⟩
def vW:Å:=Ls 2 [au,am,tI,tI,am,ab,tI,am,ax,ab] [tI,tI] ⟨140,.any::.con au::.own 1::.box 2 0::aN 3 (.box 3 0::.own 4::.own 5::.var tI::aN 14 [.con am,.con tI,.var tI]),[bO,.rowc tI,bO,.cells [.nils],.rowc .bool,.rowc tI]⟩ [(.exit 0,⟨140,.any::.con au::.own 1::.box 2 0::aN 3 (.box 3 0::.own 4::.own 5::.var tI::aN 14 [.con am,.con tI]),[bO,.rowc tI,bO,.cells [.nils],.rowc .bool,.rowc tI]⟩,[tI])]
def vV (ρ:Type):ô ρ:=⟨[2,3],149,0,vW,fun(p:Val (tyL vW.cs)) (v:bl) a b=>iO p.2.1 p.2.2.1 v.1 v.2 (fun c d=>a (c,d)) (b 0)⟩
def vU:Å:=Ls 2 [au,tI,tI,tI,am,ab,tI,am,ab] [tI,ax,ab] ⟨140,.any::.con au::.own 1::.box 2 0::aN 3 (.box 3 0::.own 4::.own 5::.con tI::aN 27 [.con tI,.var tI]),cA⟩ [(.exit 2,⟨140,.any::.con au::.own 1::.box 2 0::aN 3 (.box 3 0::.own 4::.own 5::.con tI::aN 27 [.con tI]),cA⟩,[ax,ab])]
def vT (ρ:Type):ô ρ:=⟨[2,3],149,2,vU,fun(p:Val (tyL vU.cs)) (v:y6) a b=>ŝ p.2.2.1 p.2.2.2.2.2.1 v.1 v.2.1 v.2.2 (fun c d e=>a (c,d,e)) (b 0)⟩
def vR:Å:=Ls 2 [au,tI,tI,am,tI,tI,am,tI,am,ab] [tI,ab,ax,ab] ⟨140,.any::.con au::.own 1::.box 2 0::aN 3 (.box 3 0::.own 4::.own 5::.con tI::aN 3 (.con tI::aN 62 [.con am,.con tI,.var tI])),cB⟩ [(.ret,⟨140,.any::.con au::.own 1::.box 2 0::aN 2 (.var .bool::.box 3 0::.own 4::.own 5::.con tI::aN 3 (.con tI::aN 62 [.con am,.con tI])),cB⟩,[.bool,ab,ax,ab]),(.exit 6,⟨140,.any::.con au::.own 1::.box 2 0::aN 3 (.box 3 0::.own 4::.own 5::.con tI::aN 3 (.con tI::aN 62 [.con am,.con tI])),cB⟩,[ab,ax,ab])]
def vQ (ρ:Type):ô ρ:=⟨[2,3],149,6,vR,fun(p:Val (tyL vR.cs)) (v:nj) b a=>jX p.1 p.2.1 p.2.2.1 p.2.2.2.1 p.2.2.2.2.1 v.1 v.2.1 v.2.2.1 v.2.2.2 (fun c d e f=>b (c,d,e,f)) (a 0) (a 1)⟩
def Jy:Å:=Ls 2 [au,tI,tI,am,tI,am] [ab,ax,ab,ab] ⟨140,[.any,.con au,.own 1,.box 2 0,.any,.any,.any,.box 3 0,.own 4,.own 5,.con tI],cD⟩ [(.ret,⟨140,[.any,.con au,.own 1,.box 2 0,.any,.any,.var .bool,.box 3 0,.own 4,.own 5,.con tI],cD⟩,[.bool,ab,ax,ab,ab])]
def vS (ρ:Type):ô ρ:=⟨[2,3],149,4,Jy,fun(p:Val (.pair au bq)) (v:Val aV) a b=>ĭ p.1 p.2.1 p.2.2.2.2.1 p.2.2.2.2.2 v.1 v.2.1 v.2.2.1 v.2.2.2 (fun c d e f=>a (c,d,e,f)) (b 0)⟩
def Jw:Å:=Ls 0 [tI,tI] [tI,ab] ⟨34,aN 6 (.own 0::.con tI::aN 13 [.con tI,.var tI]),cf⟩ [(.exit 0,⟨34,aN 6 (.own 0::.con tI::aN 13 [.con tI]),cf⟩,[ab])]
def vP (ρ:Type):ô ρ:=⟨[],90,0,Jw,fun(p:bl) (v:f4) a b=>jW p.1 p.2 v.1 v.2 (fun c d=>a (c,d)) (b 0)⟩
def ξ (ρ:Type):Env ρ:=Ù [] [vV ρ,vT ρ,vQ ρ,vS ρ,vP ρ]
def CO:þ:=⟨[Õ],[.bool,tI],fun(x:im)=>ow x⟩
def LD (ρ:Type):Env ρ:=Ù [(89,zd),(90,sO)] []
def sN:þ:=⟨[Â,ah],[.bool],fun(x:v6)=>Χ x.1 x.2⟩
def Q4 (ρ:Type):Env ρ:=Ù [(71,my),(80,vh),(116,CO)] []
def mz:þ:=⟨[Â],[ah,.bool],fun(x:a8)=>û x⟩
def Gr:Å:=Ls 1 [ak,tI,tI,tI,ae,aa,af,ac,aa,aj] [tI] ⟨21,.any::.fn 98 [(0,0)]::aN 7 [.con ak,.con tI,.var tI],[bB]⟩ [(.ret,⟨21,[.any,.fn 98 [(0,0)],.any,.any,.var ah,.var .bool,.any,.any,.any,.con ak,.con tI],[bB]⟩,[ah,.bool]),(.exit 0,⟨21,.any::.fn 98 [(0,0)]::aN 7 [.con ak,.con tI],[bB]⟩,[])]
def tg (ρ:Type):ô ρ:=⟨[1,3],59,0,Gr,fun(p:Val (.pair ak aF)) (v:Int) b a=>let A:=p.2.2.2.2;lN p.1 p.2.1 p.2.2.1 p.2.2.2.1 A.1 A.2.1 A.2.2.1 A.2.2.2.1 A.2.2.2.2.1 A.2.2.2.2.2 v (fun c=>b c) (a 0) (a 1)⟩
def zF (ρ:Type):Env ρ:=Ù [(55,Bk),(57,sN)] [tg ρ]
def FI:þ:=⟨[Â,tI,tI],[tI],fun(x:Val (.pair Â Ç))=>wq x.1 x.2.1 x.2.2⟩
def CT:Å:=Ls 2 [ae,tI,tI,tI,ae,aa,af,ac,aa,aj,tI] [tI] ⟨19,.con ae::.fn 101 [(1,0)]::aN 5 [.con tI,.var tI],[bB,bw]⟩ [(.ret,⟨19,[.con ae,.fn 101 [(1,0)],.any,.any,.var tI,.any,.any,.con tI],[bB,bw]⟩,[tI]),(.exit 0,⟨19,.con ae::.fn 101 [(1,0)]::aN 5 [.con tI],[bB,bw]⟩,[])]
def CS (ρ:Type):ô ρ:=⟨[3,4,1,2],162,0,CT,fun(p:Val (tyL CT.cs)) (v:Int) b a=>td p.1 p.2.1 p.2.2.2.2.2.2.2.2.2.2 v (fun c=>b c) (a 0) (a 1)⟩
def NE (ρ:Type):Env ρ:=Ù [] [CS ρ]
def S0:þ:=⟨[ab,ab],[ab,ab,tI],fun(x:ni)=>qM x.1 x.2⟩
def Zo (ρ:Type):Env ρ:=Ù [(105,Je),(106,FW)] []
def wS:þ:=⟨[Â,tI],[.bool,tI],fun(x:Val (.pair Â tI))=>mY x.1 x.2⟩
def tq:Å:=Ls 6 [tI,tI,tI,ae,aa,af,ac,aa,aj,tI,tI,tI,ae,aa,af,ac,aa,aj,tI,tI,ac] [tI] ⟨19,.own 5::.fn 104 [(3,0)]::aN 5 [.con tI,.var tI],cE⟩ [(.ret,⟨19,[.own 5,.fn 104 [(3,0)],.any,.any,.var tI,.any,.any,.con tI],cE⟩,[tI]),(.exit 0,⟨19,.own 5::.fn 104 [(3,0)]::aN 5 [.con tI],cE⟩,[])]
def tp (ρ:Type):ô ρ:=⟨[7,2,1,5,1,2],109,0,tq,fun(p:Val (tyL tq.cs)) (v:Int) b a=>lO p.1 p.2.2.2.2.2.2.2.2.2.1 p.2.2.2.2.2.2.2.2.2.2.2.2.2.2.2.2.2.2.2.2 v (fun c=>b c) (a 0) (a 1)⟩
def tk:Å:=Ls 6 [tI,tI,ae,aa,af,ac,aa,aj,tI,tI,tI,ae,aa,af,ac,aa,aj,tI,tI] [tI,tI,ac] ⟨42,[.own 5,.fn 104 [(3,0)],.any,.any,.any,.var tI,.var tI],[bB,bw,bB,bQ,bR,.rowv Ö]⟩ [(.exit 0,⟨42,[.own 5,.fn 104 [(3,0)],.any,.any,.any,.var tI],[bB,bw,bB,bQ,bR,.rowv Ö]⟩,[tI,ac])]
def tj (ρ:Type):ô ρ:=⟨[7,2,1,5],102,0,tk,fun(p:Val (tyL tk.cs)) (v:y8) a b=>Δ p.2.2.2.2.2.2.2.2.1 v.1 v.2.1 v.2.2 (fun c d e=>a (c,d,e)) (b 0)⟩
def mI (ρ:Type):Env ρ:=Ù [(44,jq),(45,mz),(47,FI),(50,S0),(51,Ŧ)] [tp ρ,tj ρ]
def L5:þ:=⟨[Â,ab],[Â],fun(x:Val bj)=>xP x.1 x.2⟩
def Gl:Å:=Ls 7 [tI,tI,tI,ae,aa,af,ac,aa,aj,ab,tI,tI,tI,tI,ae,aa,af,ac,aa,aj,tI,tI,ac] [tI] ⟨19,.own 6::.fn 104 [(4,0)]::aN 5 [.con tI,.var tI],cF⟩ [(.ret,⟨19,[.own 6,.fn 104 [(4,0)],.any,.any,.var tI,.any,.any,.con tI],cF⟩,[tI]),(.exit 0,⟨19,.own 6::.fn 104 [(4,0)]::aN 5 [.con tI],cF⟩,[])]
def Gj (ρ:Type):ô ρ:=⟨[1,2,1,5,1,2],109,0,Gl,fun(p:Val (tyL Gl.cs)) (v:Int) b a=>wW p.1 p.2.2.2.2.2.2.2.2.2.1 p.2.2.2.2.2.2.2.2.2.2.2.2.2.2.2.2.2.2.2.2.2.2 v (fun c=>b c) (a 0) (a 1)⟩
def Gi:Å:=Ls 7 [tI,tI,ae,aa,af,ac,aa,aj,ab,tI,tI,tI,tI,ae,aa,af,ac,aa,aj,tI,tI] [tI,tI,ac] ⟨42,[.own 6,.fn 104 [(4,0)],.any,.any,.any,.var tI,.var tI],[bB,br,bR,bB,bS,bR,.rowv Ö]⟩ [(.exit 0,⟨42,[.own 6,.fn 104 [(4,0)],.any,.any,.any,.var tI],[bB,br,bR,bB,bS,bR,.rowv Ö]⟩,[tI,ac])]
def Gg (ρ:Type):ô ρ:=⟨[1,2,1,5],102,0,Gi,fun(p:Val (tyL Gi.cs)) (v:y8) a b=>nI p.2.2.2.2.2.2.2.2.1 v.1 v.2.1 v.2.2 (fun c d e=>a (c,d,e)) (b 0)⟩
def Bm (ρ:Type):Env ρ:=Ù [(51,Ŧ)] [Gj ρ,Gg ρ]
def UN:þ:=⟨[Â],[ab,tI],fun(x:a8)=>Ii x⟩
def Vm:Å:=Ls 0 [ac,tI,tI,tI,ae,aa,af,ac,aa,aj] [tI,ab] ⟨66,.any::.box 0 0::aN 5 (.own 1::aN 19 [.con ac,.con tI,.var tI]),cG⟩ [(.exit 0,⟨66,.any::.box 0 0::aN 5 (.own 1::aN 19 [.con ac,.con tI]),cG⟩,[ab])]
def GF (ρ:Type):ô ρ:=⟨[],10,0,Vm,fun(p:Val (.pair ac aF)) (v:f4) a b=>wZ p.1 p.2.1 v.1 v.2 (fun c d=>a (c,d)) (b 0)⟩
def Vl:Å:=Ls 0 [tI,tI,ae,aa,af,ac,aa,aj] [ab,tI] ⟨66,.any::.box 0 0::aN 5 [.var ab,.any,.any,.var tI],[bB]⟩ [(.exit 2,⟨66,.any::.box 0 0::aN 5 [.var ab],[bB]⟩,[ab])]
def GD (ρ:Type):ô ρ:=⟨[],10,2,Vl,fun(p:rd) (v:lA) a b=>let A:=p.2.2.2.2;rj p.1 p.2.1 p.2.2.1 p.2.2.2.1 A.1 A.2.1 A.2.2.1 A.2.2.2 v.1 v.2 (fun c d=>a (c,d)) (b 0)⟩
def Jn (ρ:Type):Env ρ:=Ù [(44,jq),(45,mz),(46,L5),(52,jJ)] [GF ρ,GD ρ]
def SJ:þ:=⟨[ab,tI],[ab],fun(x:lA)=>jD x.1 x.2⟩
def NV:Å:=Ls 0 [tI,ab,tI] [tI,ab] ⟨26,[.any,.con tI,.any,.any,.any,.own 0,.any,.any,.con ab,.con tI,.var tI],cf⟩ [(.exit 0,⟨26,[.any,.con tI,.any,.any,.any,.own 0,.any,.any,.con ab,.con tI],cf⟩,[ab])]
def zK (ρ:Type):ô ρ:=⟨[],58,0,NV,fun(p:Val (.pair tI aD)) (v:f4) a b=>pW p.1 p.2.1 p.2.2 v.1 v.2 (fun c d=>a (c,d)) (b 0)⟩
def Ks (ρ:Type):Env ρ:=Ù [] [zK ρ]
def zc:þ:=⟨[Â,ab],[ab,tI],fun(x:Val bj)=>po x.1 x.2⟩
def vF:Å:=Ls 3 [ac,tI,tI,tI,ae,aa,af,ac,aa,aj,ab,tI] [tI] ⟨19,.con ac::.fn 54 [(2,0)]::aN 5 [.con tI,.var tI],[bB,br,bw]⟩ [(.ret,⟨19,[.con ac,.fn 54 [(2,0)],.any,.any,.var tI,.any,.any,.con tI],[bB,br,bw]⟩,[tI]),(.exit 0,⟨19,.con ac::.fn 54 [(2,0)]::aN 5 [.con tI],[bB,br,bw]⟩,[])]
def vE (ρ:Type):ô ρ:=⟨[9,4,1,2],109,0,vF,fun(p:Val (tyL vF.cs)) (v:Int) b a=>mJ p.1 p.2.1 p.2.2.2.2.2.2.2.2.2.2.2 v (fun c=>b c) (a 0) (a 1)⟩
def vH:Å:=Ls 0 [ab,tI,tI,tI,ae,aa,af,ac,aa,aj,ab] [tI] ⟨135,aN 2 (.box 0 0::.box 1 0::aN 28 [.con ab,.con tI,.var tI]),[bB,br]⟩ [(.ret,⟨135,aN 2 (.box 0 0::.box 1 0::.nils::.var tI::aN 26 [.con ab,.con tI]),[bB,br]⟩,[tI]),(.exit 0,⟨135,aN 2 (.box 0 0::.box 1 0::aN 28 [.con ab,.con tI]),[bB,br]⟩,[])]
def vG (ρ:Type):ô ρ:=⟨[],11,0,vH,fun(p:Val (tyL vH.cs)) (v:Int) b a=>iI p.1 p.2.1 p.2.2.2.2.2.2.2.1 v (fun c=>b c) (a 0) (a 1)⟩
def Jm:Å:=Ls 0 [tI,tI,ae,aa,af,ac,aa,aj,ab] [tI] ⟨135,aN 2 (.box 0 0::.box 1 0::aN 5 [.var tI]),[bB,br]⟩ [(.ret,⟨135,[.any,.any,.box 0 0,.box 1 0,.nils,.var tI],[bB,br]⟩,[tI]),(.exit 2,⟨135,[.any,.any,.box 0 0,.box 1 0],[bB,br]⟩,[])]
def vD (ρ:Type):ô ρ:=⟨[],11,2,Jm,fun(p:Val aQ) (v:Int) b a=>jP p.2.2.2.2.2.2.2.2 v (fun c=>b c) (a 0) (a 1)⟩
def vC:Å:=Ls 4 [ak,tI,tI,tI,ae,aa,af,ac,aa,aj,ab,tI] [tI] ⟨21,.any::.fn 60 [(3,0),(2,0)]::aN 7 [.con ak,.con tI,.var tI],[bB,br,bw,bT]⟩ [(.ret,⟨21,[.any,.fn 60 [(3,0),(2,0)],.any,.any,.var ah,.var .bool,.any,.any,.any,.con ak,.con tI],[bB,br,bw,bT]⟩,[ah,.bool]),(.exit 0,⟨21,.any::.fn 60 [(3,0),(2,0)]::aN 7 [.con ak,.con tI],[bB,br,bw,bT]⟩,[])]
def vB (ρ:Type):ô ρ:=⟨[21,2],59,0,vC,fun(p:Val (tyL vC.cs)) (v:Int) b a=>let A:=p.2.2.2.2;let B:=A.2.2.2.2;jO p.1 p.2.1 p.2.2.1 p.2.2.2.1 A.1 A.2.1 A.2.2.1 A.2.2.2.1 B.1 B.2.1 B.2.2.1 B.2.2.2 v (fun c=>b c) (a 0) (a 1)⟩
def vy:Å:=Ls 4 [ab,ab,ab,tI,ab,ab,tI,tI,ae,aa,af,ac,aa,aj] [tI] ⟨36,.con ab::.con ab::aN 7 [.con ab,.con tI,.var tI],cH⟩ [(.ret,⟨36,.con ab::.con ab::aN 2 (.var tI::aN 4 [.con ab,.con tI]),cH⟩,[tI]),(.exit 0,⟨36,.con ab::.con ab::aN 7 [.con ab,.con tI],cH⟩,[])]
def vx (ρ:Type):ô ρ:=⟨[29,14],61,0,vy,fun(p:Val (tyL vy.cs)) (v:Int) b a=>ŷ p.2.1 p.2.2.1 p.2.2.2.1 v (fun c=>b c) (a 0) (a 1)⟩
def vw:Å:=Ls 0 [ak,ab,tI,tI,ab,tI,tI,tI,ab,ab,tI,tI,ae,aa,af,ac,aa,aj] [tI] ⟨135,aN 3 (.box 0 0::aN 6 (.con ak::.any::.box 1 0::.own 2::aN 2 (.con ab::.con tI::.con tI::.con ab::aN 57 (.con tI::.con tI::aN 23 [.own 2,.con tI,.var tI])))),cH⟩ [(.exit 5,⟨135,aN 3 (.box 0 0::aN 6 (.con ak::.any::.box 1 0::.own 2::aN 2 (.con ab::.con tI::.con tI::.con ab::aN 57 (.con tI::.con tI::aN 23 [.own 2,.con tI])))),cH⟩,[]),(.exit 6,⟨135,aN 3 (.box 0 0::aN 6 (.con ak::.any::.box 1 0::.own 2::aN 2 (.con ab::.con tI::.con tI::.con ab::aN 57 (.con tI::.con tI::aN 23 [.own 2,.con tI])))),cH⟩,[])]
def vv (ρ:Type):ô ρ:=⟨[],11,6,vw,fun(p:Val (tyL vw.cs)) (v:Int) b a=>Ŝ p.2.2.2.1 p.2.2.2.2.2.2.2.1 p.2.2.2.2.2.2.2.2.2.1 v (fun c=>b c) (a 0) (a 1)⟩
def vu:Å:=Ls 0 [ak,ab,tI,tI,ab,tI,tI,ak,tI,ab,tI,tI,ae,aa,af,ac,aa,aj] [tI,ab] ⟨135,aN 3 (.box 0 0::aN 6 (.con ak::.any::.box 1 0::.own 2::aN 2 (.con ab::.con tI::.con tI::.con ab::aN 57 (.con tI::.con tI::aN 34 [.con ak,.con tI,.var tI])))),cI⟩ [(.exit 5,⟨135,aN 3 (.box 0 0::aN 6 (.con ak::.any::.box 1 0::.own 2::aN 2 (.con ab::.con tI::.con tI::.con ab::aN 57 (.con tI::.con tI::aN 34 [.con ak,.con tI])))),cI⟩,[ab]),(.exit 8,⟨135,aN 3 (.box 0 0::aN 6 (.con ak::.any::.box 1 0::.own 2::aN 2 (.con ab::.con tI::.con tI::.con ab::aN 57 (.con tI::.con tI::aN 34 [.con ak,.con tI])))),cI⟩,[ab])]
def vt (ρ:Type):ô ρ:=⟨[],11,8,vu,fun(p:Val (tyL vu.cs)) (v:f4) b a=>let A:=p.2.2.2.2.2.2.2;let B:=A.2.2.2.2;let C:=B.2.2.2.2;ś p.2.2.2.1 A.1 A.2.1 A.2.2.1 A.2.2.2.1 B.1 B.2.1 B.2.2.1 B.2.2.2.1 C.1 C.2.1 C.2.2 v.1 v.2 (fun c d=>b (c,d)) (a 0) (a 1)⟩
def vA:Å:=Ls 0 [ak,tI,ab,tI,tI,ae,aa,af,ac,aa,aj] [ab,tI,tI,ab] ⟨135,aN 3 (.box 0 0::aN 6 (.con ak::.any::.box 1 0::.own 2::aN 2 (.var ab::.var tI::aN 59 [.con tI,.var tI]))),cI⟩ [(.exit 4,⟨135,aN 3 (.box 0 0::aN 6 (.con ak::.any::.box 1 0::.own 2::aN 3 (.var tI::aN 59 [.con tI]))),cI⟩,[tI,ab])]
def vz (ρ:Type):ô ρ:=⟨[],11,4,vA,fun(p:Val (tyL vA.cs)) (v:Val (.pair ab bf)) a b=>let A:=p.2.2.2.2;let B:=A.2.2.2.2;Ÿ p.1 p.2.1 p.2.2.1 p.2.2.2.1 A.1 A.2.1 A.2.2.1 A.2.2.2.1 B.1 B.2.1 B.2.2 v.1 v.2.1 v.2.2.1 v.2.2.2 (fun c d e f=>a (c,d,e,f)) (b 0)⟩
def ń (ρ:Type):Env ρ:=Ù [(44,jq),(46,L5),(55,Bk),(57,sN),(58,SJ),(114,nE)] [vE ρ,vG ρ,vD ρ,vB ρ,vx ρ,vv ρ,vt ρ,vz ρ]
def pQ:þ:=⟨[ab,ab],[.bool],fun(x:ni)=>Ĩ x.1 x.2⟩
def G7:Å:=Ls 0 [ab,ab] [tI] ⟨26,[.con ab,.con ab,.any,.any,.any,.var tI],[]⟩ [(.ret,⟨26,[.con ab,.con ab,.any,.any,.var .bool],[]⟩,[.bool]),(.exit 0,⟨26,[.con ab,.con ab],[]⟩,[])]
def tS (ρ:Type):ô ρ:=⟨[],17,0,G7,fun(p:ni) (v:Int) b a=>lQ p.1 p.2 v (fun c=>b c) (a 0) (a 1)⟩
def zZ (ρ:Type):Env ρ:=Ù [] [tS ρ]
def UM:þ:=⟨[Â],[ak],fun(x:a8)=>Ie x⟩
def mH:Tpl:=⟨13,[.any,.any,.box 3 0],[.cells [.con tI,.con tI,.con ae,.con aa,.con af,.con ac,.con aa,.con aj],.cells [.con tI,.con tI,.con ae,.con aa,.con af,.con ac,.con aa,.con aj],.dead,.cells [.own 4],.rowv ah]⟩
def pV (ρ:Type):IZ ρ:=⟨[1,1,1,3,1,1],167,0,4,[tI,tI,ae,aa,af,ac,aa,aj,tI,tI,ae,aa,af,ac,aa,aj],[ak],mH,rV,fun(p:Val aE) (v:a7) y a=>EC v y (fun b=>a b)⟩
def Gq:Å:=Ls 5 [tI,tI,tI,ae,aa,af,ac,aa,aj,tI,tI,ae,aa,af,ac,aa,aj,aj,ak] [tI] ⟨19,.own 4::.fn 127 [(0,0)]::aN 5 [.con tI,.var tI],[bB,bB,bV,bW,.rowc ah]⟩ [(.ret,⟨19,[.own 4,.fn 127 [(0,0)],.any,.any,.var tI,.any,.any,.con tI],[bB,bB,bV,bW,.rowc ah]⟩,[tI]),(.exit 0,⟨19,.own 4::.fn 127 [(0,0)]::aN 5 [.con tI],[bB,bB,bV,bW,.rowc ah]⟩,[])]
def Gp (ρ:Type):ô ρ:=⟨[1,3,1,2],134,0,Gq,fun(p:Val (tyL Gq.cs)) (v:Int) b a=>let A:=p.2.2.2.2;wX p.1 p.2.1 p.2.2.1 p.2.2.2.1 A.1 A.2.1 A.2.2.1 A.2.2.2.1 A.2.2.2.2.1 A.2.2.2.2.2.2.2.2.2.2.2.2.2.2 v (fun c=>b c) (a 0) (a 1)⟩
def Gn:Å:=Ls 5 [tI,tI,ae,aa,af,ac,aa,aj,tI,tI,ae,aa,af,ac,aa,aj,aj] [tI,tI,ak] ⟨42,[.own 4,.fn 127 [(0,0)],.any,.any,.any,.var tI,.var tI],[bB,bB,bV,bW,.rowv ah]⟩ [(.exit 0,⟨42,[.own 4,.fn 127 [(0,0)],.any,.any,.any,.var tI],[bB,bB,bV,bW,.rowv ah]⟩,[tI,ak])]
def Gm (ρ:Type):ô ρ:=⟨[1,3],126,0,Gn,fun(p:Val (tyL Gn.cs)) (v:xl) a b=>let A:=p.2.2.2.2;nJ p.1 p.2.1 p.2.2.1 p.2.2.2.1 A.1 A.2.1 A.2.2.1 A.2.2.2.1 v.1 v.2.1 v.2.2 (fun c d e=>a (c,d,e)) (b 0)⟩
def NS (ρ:Type):CK (IZ ρ):=[pV ρ]
def aaR:CK (Nat×ad4):=[(170,.row ġ)]
def iH (ρ:Type):Env ρ:={acK [(57,sN)] [Gp ρ,Gm ρ] aaR with ranges:=Ξ (NS ρ)}
def X6:þ:=⟨[Ë,Ç],[tI,tI],fun(x:Val ba)=>sh x.1 x.2⟩
def aa7 (ρ:Type):Env ρ:=Ù [(96,vk),(156,FV),(174,Ų)] []
def acE:þ:=⟨[Ë,Ç],[Ë,tI],fun(x:Val ba)=>Mu x.1 x.2⟩
def HN:Å:=Ls 6 [tI,tI,tI,ae,aa,af,ac,aa,tI,tI,tI,tI,tI,tI,ae,aa,af,ac,aa,tI,tI,tI,tI,ac,tI,tI,ae,aa,af,aa] [tI,ac] ⟨50,.any::.box 6 0::.box 7 0::.own 8::aN 21 [.own 8,.con tI,.var tI],cJ⟩ [(.exit 0,⟨50,.any::.box 6 0::.box 7 0::.own 8::aN 21 [.own 8,.con tI],cJ⟩,[ac])]
def HM (ρ:Type):ô ρ:=⟨[1,2,4,1],211,0,HN,fun(p:Val (tyL HN.cs)) (v:BE) a b=>xE p.1 v.1 v.2 (fun c d=>a (c,d)) (b 0)⟩
def TR (ρ:Type):Env ρ:=Ù [(96,vk)] [HM ρ]
def XX:þ:=⟨[Õ,ab],[tI],fun(x:Val (.pair Õ ab))=>Iw x.1 x.2⟩
def RE:Å:=Ls 0 [ab,tI,tI,am] [tI] ⟨37,aN 2 (.box 0 0::aN 16 [.con ab,.con tI,.var tI]),[bO]⟩ [(.ret,⟨37,aN 2 (.box 0 0::.any::.var tI::aN 14 [.con ab,.con tI]),[bO]⟩,[tI]),(.exit 0,⟨37,aN 2 (.box 0 0::aN 16 [.con ab,.con tI]),[bO]⟩,[])]
def DB (ρ:Type):ô ρ:=⟨[],177,0,RE,fun(p:Val (.pair ab aR)) (v:Int) b a=>tY p.1 p.2.1 p.2.2.1 p.2.2.2 v (fun c=>b c) (a 0) (a 1)⟩
def O2 (ρ:Type):Env ρ:=Ù [(89,zd),(90,sO),(148,UT)] [DB ρ]
def SY:þ:=⟨[Õ,au,tI],[ab],fun(x:Val (.pair Õ (.pair au tI)))=>wx x.1 x.2.1 x.2.2⟩
def AB:Å:=Ls 0 [au,tI,tI,tI,am] [tI,ab] ⟨29,.any::.con au::.con tI::.box 0 0::aN 3 (.own 1::aN 5 [.con tI,.var tI]),cM⟩ [(.exit 0,⟨29,.any::.con au::.con tI::.box 0 0::aN 3 (.own 1::aN 5 [.con tI]),cM⟩,[ab])]
def AA (ρ:Type):ô ρ:=⟨[],212,0,AB,fun(p:Val (tyL AB.cs)) (v:f4) a b=>ql p.2.2.1 v.1 v.2 (fun c d=>a (c,d)) (b 0)⟩
def Az:Å:=Ls 2 [au,am,tI,tI,am,ab,tI,am,ax,ab] [tI,tI] ⟨140,.any::.con au::.own 1::.box 2 0::aN 3 (.box 3 0::.own 4::.own 5::.var tI::aN 14 [.con am,.con tI,.var tI]),[bO,.rowc tI,bO,.cells [.nils],.rowc .bool,.rowc tI]⟩ [(.exit 0,⟨140,.any::.con au::.own 1::.box 2 0::aN 3 (.box 3 0::.own 4::.own 5::.var tI::aN 14 [.con am,.con tI]),[bO,.rowc tI,bO,.cells [.nils],.rowc .bool,.rowc tI]⟩,[tI])]
def Ay (ρ:Type):ô ρ:=⟨[8,3],149,0,Az,fun(p:Val (tyL Az.cs)) (v:bl) a b=>xq p.2.1 p.2.2.1 v.1 v.2 (fun c d=>a (c,d)) (b 0)⟩
def Ax:Å:=Ls 2 [au,tI,tI,tI,am,ab,tI,am,ab] [tI,ax,ab] ⟨140,.any::.con au::.own 1::.box 2 0::aN 3 (.box 3 0::.own 4::.own 5::.con tI::aN 27 [.con tI,.var tI]),cA⟩ [(.exit 2,⟨140,.any::.con au::.own 1::.box 2 0::aN 3 (.box 3 0::.own 4::.own 5::.con tI::aN 27 [.con tI]),cA⟩,[ax,ab])]
def Aw (ρ:Type):ô ρ:=⟨[8,3],149,2,Ax,fun(p:Val (tyL Ax.cs)) (v:y6) a b=>xp p.2.2.1 p.2.2.2.2.2.1 v.1 v.2.1 v.2.2 (fun c d e=>a (c,d,e)) (b 0)⟩
def As:Å:=Ls 2 [au,tI,tI,am,tI,tI,am,tI,am,ab] [tI,ab,ax,ab] ⟨140,.any::.con au::.own 1::.box 2 0::aN 3 (.box 3 0::.own 4::.own 5::.con tI::aN 3 (.con tI::aN 62 [.con am,.con tI,.var tI])),cB⟩ [(.ret,⟨140,.any::.con au::.own 1::.box 2 0::aN 2 (.var .bool::.box 3 0::.own 4::.own 5::.con tI::aN 3 (.con tI::aN 62 [.con am,.con tI])),cB⟩,[.bool,ab,ax,ab]),(.exit 6,⟨140,.any::.con au::.own 1::.box 2 0::aN 3 (.box 3 0::.own 4::.own 5::.con tI::aN 3 (.con tI::aN 62 [.con am,.con tI])),cB⟩,[ab,ax,ab])]
def Ar (ρ:Type):ô ρ:=⟨[8,3],149,6,As,fun(p:Val (tyL As.cs)) (v:nj) b a=>Hl p.1 p.2.1 p.2.2.1 p.2.2.2.1 p.2.2.2.2.1 v.1 v.2.1 v.2.2.1 v.2.2.2 (fun c d e f=>b (c,d,e,f)) (a 0) (a 1)⟩
def O0:Å:=Ls 2 [au,tI,tI,am,tI,am] [ab,ax,ab,ab] ⟨140,[.any,.con au,.own 1,.box 2 0,.any,.any,.any,.box 3 0,.own 4,.own 5,.con tI],cD⟩ [(.ret,⟨140,[.any,.con au,.own 1,.box 2 0,.any,.any,.var .bool,.box 3 0,.own 4,.own 5,.con tI],cD⟩,[.bool,ab,ax,ab,ab])]
def Au (ρ:Type):ô ρ:=⟨[8,3],149,4,O0,fun(p:Val (.pair au bq)) (v:Val aV) a b=>xo p.1 p.2.1 p.2.2.2.2.1 p.2.2.2.2.2 v.1 v.2.1 v.2.2.1 v.2.2.2 (fun c d e f=>a (c,d,e,f)) (b 0)⟩
def jY (ρ:Type):Env ρ:=Ù [] [AA ρ,Ay ρ,Aw ρ,Ar ρ,Au ρ]
def XY:þ:=⟨[Õ],[aa,tI],fun(x:im)=>wy x⟩
def RG:Å:=Ls 1 [ab,tI,tI,am,tI,am] [tI,ab] ⟨28,.any::.box 1 0::aN 2 (.con ab::.own 2::aN 7 [.con tI,.var tI]),[bO,bO,.rowv tI]⟩ [(.exit 0,⟨28,.any::.box 1 0::aN 2 (.con ab::.own 2::aN 7 [.con tI]),[bO,bO,.rowv tI]⟩,[ab])]
def DD (ρ:Type):ô ρ:=⟨[4,1],178,0,RG,fun(p:Val (.pair ab bq)) (v:f4) a b=>t7 p.2.1 p.2.2.2.2.1 p.2.2.2.2.2 v.1 v.2 (fun c d=>a (c,d)) (b 0)⟩
def RF:Å:=Ls 0 [ab,tI,ab] [tI,aa] ⟨39,aN 5 (.con ab::.own 0::.own 1::aN 12 [.con tI,.var tI]),[.rowc tI,.rowv Ç]⟩ [(.exit 0,⟨39,aN 5 (.con ab::.own 0::.own 1::aN 12 [.con tI]),[.rowc tI,.rowv Ç]⟩,[aa])]
def DC (ρ:Type):ô ρ:=⟨[],130,0,RF,fun(p:Val bh) (v:nm) a b=>tZ p.1 p.2.1 p.2.2 v.1 v.2 (fun c d=>a (c,d)) (b 0)⟩
def ET (ρ:Type):Env ρ:=Ù [(177,XX),(212,SY)] [DD ρ,DC ρ]
def SI:þ:=⟨[Ë,Ç],[Ç,tI],fun(x:Val ba)=>BC x.1 x.2⟩
def Ys (ρ:Type):Env ρ:=Ù [(80,vh),(128,X6),(129,acE),(130,XY)] []
def SK:þ:=⟨[Â,tI,tI],[am,tI],fun(x:Val (.pair Â Ç))=>BD x.1 x.2.1 x.2.2⟩
def zP:Å:=Ls 0 [tI,tI,ak,tI,tI,tI,ae,aa,af,ac,aa,aj] [tI,aY] ⟨113,.any::.con tI::.con tI::.box 0 0::aN 7 (.omp 1::aN 30 [.con ak,.con tI,.var tI]),[bB,.mapv tI Ç]⟩ [(.ret,⟨113,.any::.con tI::.con tI::.box 0 0::aN 2 (.nils::.var tI::aN 3 (.omp 1::aN 30 [.con ak,.con tI])),[bB,.mapv tI Ç]⟩,[tI,aY]),(.exit 0,⟨113,.any::.con tI::.con tI::.box 0 0::aN 7 (.omp 1::aN 30 [.con ak,.con tI]),[bB,.mapv tI Ç]⟩,[aY])]
def zO (ρ:Type):ô ρ:=⟨[],22,0,zP,fun(p:Val (tyL zP.cs)) (v:Val (.pair tI aY)) b a=>let A:=p.2.2.2.2;let B:=A.2.2.2.2;pY p.1 p.2.1 p.2.2.1 p.2.2.2.1 A.1 A.2.1 A.2.2.1 A.2.2.2.1 B.1 B.2.1 B.2.2.1 B.2.2.2 v.1 v.2 (fun c d=>b (c,d)) (a 0) (a 1)⟩
def zN:Å:=Ls 0 [ae,tI,aY] [tI,am] ⟨113,aN 11 (.omp 0::aN 7 (.own 1::aN 70 [.con ae,.con tI,.var tI])),[.mapc tI Ç,.rowv Ĥ]⟩ [(.exit 2,⟨113,aN 11 (.omp 0::aN 7 (.own 1::aN 70 [.con ae,.con tI])),[.mapc tI Ç,.rowv Ĥ]⟩,[am])]
def zM (ρ:Type):ô ρ:=⟨[],22,2,zN,fun(p:Val (tyL zN.cs)) (v:im) a b=>pX p.1 p.2.1 p.2.2 v.1 v.2 (fun c d=>a (c,d)) (b 0)⟩
def zQ (ρ:Type):Env ρ:=Ù [(44,jq),(47,FI),(68,UM),(69,M9),(70,SI),(71,my)] [zO ρ,zM ρ]
def XW:þ:=⟨[Õ,tI,tI],[ah],fun(x:Val (.pair Õ Ç))=>Iv x.1 x.2.1 x.2.2⟩
def TK:Å:=Ls 0 [tI,tI,tI,tI,am] [tI,ab] ⟨45,.any::.con tI::.con tI::.box 0 0::aN 3 (.own 1::aN 7 [.con tI,.var tI]),cM⟩ [(.exit 0,⟨45,.any::.con tI::.con tI::.box 0 0::aN 3 (.own 1::aN 7 [.con tI]),cM⟩,[ab])]
def TJ (ρ:Type):ô ρ:=⟨[],91,0,TK,fun(p:Val (tyL TK.cs)) (v:f4) a b=>Br p.2.2.1 v.1 v.2 (fun c d=>a (c,d)) (b 0)⟩
def TH:Å:=Ls 4 [ab,tI,ah,tI,am] [tI,ab] ⟨53,.con ab::.box 1 0::aN 2 (.own 4::aN 7 [.con tI,.var tI]),cN⟩ [(.exit 0,⟨53,.con ab::.box 1 0::aN 2 (.own 4::aN 7 [.con tI]),cN⟩,[ab])]
def TG (ρ:Type):ô ρ:=⟨[12,8],150,0,TH,fun(p:Val (tyL TH.cs)) (v:f4) a b=>VD p.2.1 v.1 v.2 (fun c d=>a (c,d)) (b 0)⟩
def TF:Å:=Ls 4 [ab,am,tI,ah,tI,am] [tI,ab] ⟨53,.con ab::aN 3 (.own 4::aN 16 [.con am,.con tI,.var tI]),cN⟩ [(.exit 2,⟨53,.con ab::aN 3 (.own 4::aN 16 [.con am,.con tI]),cN⟩,[ab])]
def TE (ρ:Type):ô ρ:=⟨[12,8],150,2,TF,fun(p:Val (tyL TF.cs)) (v:f4) a b=>Hk p.1 p.2.1 p.2.2.1 v.1 v.2 (fun c d=>a (c,d)) (b 0)⟩
def aeR:Å:=Ls 0 [tI,tI,am] [tI,ah] ⟨45,aN 9 (.own 0::.fn 150 [(1,0)]::aN 18 [.con tI,.var tI]),[.rowv ab,bO]⟩ [(.exit 2,⟨45,aN 9 (.own 0::.fn 150 [(1,0)]::aN 18 [.con tI]),[.rowv ab,bO]⟩,[ah])]
def TI (ρ:Type):ô ρ:=⟨[],91,2,aeR,fun(p:Val aR) (v:px) a b=>Mb p.1 p.2.1 p.2.2 v.1 v.2 (fun c d=>a (c,d)) (b 0)⟩
def OZ (ρ:Type):Env ρ:=Ù [] [TJ ρ,TG ρ,TE ρ,TI ρ]
def XZ:þ:=⟨[Õ],[ab,tI],fun(x:im)=>pq x⟩
def RH:Å:=Ls 0 [tI,tI,am] [tI,ak] ⟨93,.any::.box 0 0::aN 6 (.own 1::aN 24 [.con tI,.var tI]),[bO,.rowv ah]⟩ [(.exit 0,⟨93,.any::.box 0 0::aN 6 (.own 1::aN 24 [.con tI]),[bO,.rowv ah]⟩,[ak])]
def DN (ρ:Type):ô ρ:=⟨[],35,0,RH,fun(p:Val aR) (v:io) a b=>oZ p.1 p.2.1 p.2.2 v.1 v.2 (fun c d=>a (c,d)) (b 0)⟩
def DG:Å:=Ls 3 [tI,ah,am,tI,tI,am,ak,tI,tI,tI,tI,am] [tI,tI,tI,ab] ⟨73,.any::.var tI::.con tI::.con ah::.fn 92 []::.box 3 0::aN 5 (.own 4::.var tI::aN 7 [.con am,.con tI,.var tI]),cO⟩ [(.exit 2,⟨73,.any::.var tI::.con tI::.con ah::.fn 92 []::.box 3 0::aN 5 (.own 4::.var tI::aN 7 [.con am,.con tI]),cO⟩,[tI,tI,ab])]
def DF (ρ:Type):ô ρ:=⟨[22,10],93,2,DG,fun(p:Val (tyL DG.cs)) (v:y9) a b=>Ky p.1 p.2.1 p.2.2.1 p.2.2.2.1 v.1 v.2.1 v.2.2.1 v.2.2.2 (fun c d e f=>a (c,d,e,f)) (b 0)⟩
def DI:Å:=Ls 3 [ah,tI,am,ak,tI,tI,tI,tI,am] [tI,tI,tI,ab] ⟨73,.any::.var tI::.var tI::.con ah::.fn 92 []::.box 3 0::aN 5 [.own 4,.var tI],cO⟩ [(.exit 0,⟨73,aN 3 (.con ah::.fn 92 []::.box 3 0::aN 5 [.own 4]),cO⟩,[ab])]
def DH (ρ:Type):ô ρ:=⟨[22,10],93,0,DI,fun(p:Val (tyL DI.cs)) (v:y9) a b=>AC p.1 p.2.2.2.2.2.2.2.2 v.1 v.2.1 v.2.2.1 v.2.2.2 (fun c d e f=>a (c,d,e,f)) (b 0)⟩
def DK:Å:=Ls 0 [tI,am,tI,tI,am,ak] [tI] ⟨93,.any::.box 0 0::aN 6 (.own 1::.any::.fn 92 []::.con tI::aN 37 [.con am,.con tI,.var tI]),[bO,.rowc ah]⟩ [(.exit 2,⟨93,.any::.box 0 0::aN 6 (.own 1::.any::.fn 92 []::.con tI::aN 37 [.con am,.con tI]),[bO,.rowc ah]⟩,[]),(.ret,⟨93,.any::.box 0 0::.own 2::.var tI::aN 4 (.own 1::.any::.fn 92 []::.con tI::aN 37 [.con am,.con tI]),[bO,.rowc ah,.rowv tI]⟩,[tI,ab]),(.exit 4,⟨93,.any::.box 0 0::aN 6 (.own 1::.any::.fn 92 []::.con tI::aN 37 [.con am,.con tI]),[bO,.rowc ah]⟩,[])]
def DJ (ρ:Type):ô ρ:=⟨[],35,4,DK,fun(p:Val (tyL DK.cs)) (v:Int) b a=>oY p.1 p.2.1 p.2.2.1 p.2.2.2.1 p.2.2.2.2.1 p.2.2.2.2.2 v (fun c=>b c) (a 0) (a 1) (a 2)⟩
def DM:Å:=Ls 0 [tI,am,ak] [tI] ⟨93,.any::.box 0 0::aN 6 [.own 1,.any,.fn 92 [],.var tI],[bO,.rowc ah]⟩ [(.exit 2,⟨93,.any::.box 0 0::aN 6 [.own 1,.any,.fn 92 []],[bO,.rowc ah]⟩,[]),(.ret,⟨93,.any::.box 0 0::.own 2::.var tI::aN 4 [.own 1,.any,.fn 92 []],[bO,.rowc ah,.rowv tI]⟩,[tI,ab])]
def DL (ρ:Type):ô ρ:=⟨[],35,2,DM,fun(p:Val (tyL DM.cs)) (v:Int) b a=>t8 p.1 p.2.1 p.2.2 v (fun c=>b c) (a 0) (a 1)⟩
def nQ (ρ:Type):Env ρ:=Ù [(89,zd),(90,sO),(91,XW)] [DN ρ,DF ρ,DH ρ,DJ ρ,DL ρ]
def XH:þ:=⟨[Â],[ah,tI],fun(x:a8)=>Ig x⟩
def Q5:Å:=Ls 0 [ak,tI,tI,tI,ae,aa,af,ac,aa,aj] [tI,ah] ⟨46,.any::.box 0 0::aN 3 (.own 1::aN 13 [.con ak,.con tI,.var tI]),[bB,.rowv ab]⟩ [(.ret,⟨46,.any::.box 0 0::.nils::.var tI::.any::.own 1::aN 13 [.con ak,.con tI],[bB,.rowv ab]⟩,[tI,ah]),(.exit 0,⟨46,.any::.box 0 0::aN 3 (.own 1::aN 13 [.con ak,.con tI]),[bB,.rowv ab]⟩,[ah])]
def C2 (ρ:Type):ô ρ:=⟨[],28,0,Q5,fun(p:Val (.pair ak aF)) (v:px) b a=>let A:=p.2.2.2.2;tr p.1 p.2.1 p.2.2.1 p.2.2.2.1 A.1 A.2.1 A.2.2.1 A.2.2.2.1 A.2.2.2.2.1 A.2.2.2.2.2 v.1 v.2 (fun c d=>b (c,d)) (a 0) (a 1)⟩
def NX (ρ:Type):Env ρ:=Ù [(35,XZ),(44,jq),(55,Bk),(71,my),(80,vh)] [C2 ρ]
def Nh:þ:=⟨[Õ,ab],[tI],fun(x:Val (.pair Õ ab))=>xZ x.1 x.2⟩
def Lx:Å:=Ls 1 [ab,tI,tI,am] [tI] ⟨19,.con ab::.fn 182 [(0,0)]::aN 5 [.con tI,.var tI],[bO]⟩ [(.ret,⟨19,[.con ab,.fn 182 [(0,0)],.any,.any,.var tI,.any,.any,.con tI],[bO]⟩,[tI]),(.exit 0,⟨19,.con ab::.fn 182 [(0,0)]::aN 5 [.con tI],[bO]⟩,[])]
def yy (ρ:Type):ô ρ:=⟨[3,2,1,2],205,0,Lx,fun(p:Val (.pair ab aR)) (v:Int) b a=>ot p.1 p.2.1 p.2.2.2 v (fun c=>b c) (a 0) (a 1)⟩
def Hj (ρ:Type):Env ρ:=Ù [] [yy ρ]
def acz:þ:=⟨[Õ,tI,ab],[tI,tI,.bool],fun(x:Val (.pair Õ ė))=>Mq x.1 x.2.1 x.2.2⟩
def VC:Å:=Ls 0 [ab,tI,tI,am] [tI,tI,tI] ⟨37,.any::.var tI::.any::.box 0 0::aN 5 [.var tI,.any,.any,.any,.con ab,.con tI,.var tI],[bO]⟩ [(.ret,⟨37,aN 3 (.box 0 0::aN 2 (.var tI::.var tI::.var .bool::aN 4 [.con ab,.con tI])),[bO]⟩,[tI,tI,.bool]),(.exit 0,⟨37,.any::.var tI::.any::.box 0 0::aN 5 [.var tI,.any,.any,.any,.con ab,.con tI],[bO]⟩,[tI,tI])]
def Hb (ρ:Type):ô ρ:=⟨[],138,0,VC,fun(p:Val (.pair ab aR)) (v:rx) b a=>xn p.1 p.2.1 p.2.2.2 v.1 v.2.1 v.2.2 (fun c d e=>b (c,d,e)) (a 0) (a 1)⟩
def TD (ρ:Type):Env ρ:=Ù [] [Hb ρ]
def CP:þ:=⟨[Õ,ab],[tI],fun(x:Val (.pair Õ ab))=>ox x.1 x.2⟩
def LF (ρ:Type):Env ρ:=Ù [(89,zd),(137,Nh),(138,acz)] []
def CM:þ:=⟨[Â,ah],[tI],fun(x:v6)=>lD x.1 x.2⟩
def rl:Å:=Ls 0 [ah,ak,tI,tI,tI,ae,aa,af,ac,aa,aj] [tI] ⟨47,.any::.con ah::.box 0 0::aN 21 [.con ak,.con tI,.var tI],[bB]⟩ [(.ret,⟨47,.any::.con ah::.box 0 0::.any::.var tI::aN 19 [.con ak,.con tI],[bB]⟩,[tI]),(.exit 0,⟨47,.any::.con ah::.box 0 0::aN 21 [.con ak,.con tI],[bB]⟩,[])]
def rk (ρ:Type):ô ρ:=⟨[],29,0,rl,fun(p:Val (tyL rl.cs)) (v:Int) b a=>let A:=p.2.2.2.2;let B:=A.2.2.2.2;ks p.1 p.2.1 p.2.2.1 p.2.2.2.1 A.1 A.2.1 A.2.2.1 A.2.2.2.1 B.1 B.2.1 B.2.2 v (fun c=>b c) (a 0) (a 1)⟩
def yu (ρ:Type):Env ρ:=Ù [(44,jq),(55,Bk),(71,my),(80,vh),(81,CP)] [rk ρ]
def acs:þ:=⟨[Â],[ak,tI],fun(x:a8)=>Mm x⟩
def aeI (ρ:Type):Env ρ:=Ù [(44,jq),(55,Bk)] []
def Kk:þ:=⟨[ac],[Â],fun(x:c7)=>ů x⟩
def QM (ρ:Type):Env ρ:=Ù [] []
def agN:þ:=⟨[Â],[ak,tI],fun(x:a8)=>We x⟩
def ahm (ρ:Type):Env ρ:=Ù [(44,jq),(68,UM)] []
def XI:þ:=⟨[Â],[ah,tI],fun(x:a8)=>Ih x⟩
def aaT (ρ:Type):Env ρ:=Ù [(44,jq),(45,mz)] []
def XE:þ:=⟨[Â,ah],[.bool],fun(x:v6)=>Ib x.1 x.2⟩
def lq:Tpl:=⟨13,[.any,.any,.box 2 0],[.cells [.con tI,.con tI,.con ae,.con aa,.con af,.con ac,.con aa,.con aj],.dead,.cells [.own 3],.rowv tI]⟩
def oj (ρ:Type):IZ ρ:=⟨[7,8,1,1,1,1],259,0,3,[tI,tI,ae,aa,af,ac,aa,aj],[ab],lq,HS,fun(p:rd) (v:an) y a=>zE v y (fun b=>a b)⟩
def QT:Å:=Ls 0 [ah,tI,tI,tI,ae,aa,af,ac,aa,aj] [tI] ⟨42,aN 2 (.box 0 0::aN 11 [.con ah,.con tI,.var tI]),[bB]⟩ [(.ret,⟨42,aN 2 (.box 0 0::.any::.var .bool::aN 9 [.con ah,.con tI]),[bB]⟩,[.bool]),(.exit 0,⟨42,aN 2 (.box 0 0::aN 11 [.con ah,.con tI]),[bB]⟩,[])]
def CU (ρ:Type):ô ρ:=⟨[],139,0,QT,fun(p:rn) (v:Int) b a=>tf p.1 p.2.1 p.2.2.2.2.2.2.2.2.2 v (fun c=>b c) (a 0) (a 1)⟩
def Kq (ρ:Type):CK (IZ ρ):=[oj ρ]
def ι (ρ:Type):Env ρ:={Ù [(183,XD)] [CU ρ] with ranges:=Ξ (Kq ρ)}
def XG:þ:=⟨[Â,ah],[tI],fun(x:v6)=>If x.1 x.2⟩
def aaS (ρ:Type):Env ρ:=Ù [(44,jq),(139,XE)] []
def agM:þ:=⟨[Â,ah,tI,tI],[tI,tI],fun(x:ry)=>Wd x.1 x.2.1 x.2.2.1 x.2.2.2⟩
def ahk (ρ:Type):Env ρ:=Ù [(47,FI),(69,M9),(82,XG)] []
def Kl:þ:=⟨[ah,ah],[.bool],fun(x:Val (.pair ah ah))=>uz x.1 x.2⟩
def Jt:Å:=Ls 0 [ah,ah] [tI] ⟨29,[.con ah,.con ah,.any,.any,.any,.var tI],[]⟩ [(.ret,⟨29,[.con ah,.con ah,.any,.any,.var .bool],[]⟩,[.bool]),(.exit 0,⟨29,[.con ah,.con ah],[]⟩,[])]
def vO (ρ:Type):ô ρ:=⟨[],43,0,Jt,fun(p:Val (.pair ah ah)) (v:Int) b a=>mQ p.1 p.2 v (fun c=>b c) (a 0) (a 1)⟩
def Dj (ρ:Type):Env ρ:=Ù [(17,pQ)] [vO ρ]
def M8:þ:=⟨[],[.bool],fun(_:Unit)=>j7⟩
def F9 (ρ:Type):Env ρ:=Ù [(9,wS),(10,UN),(11,zc),(17,pQ),(22,SK),(28,XH),(29,CM),(38,acs),(39,Kk),(40,agN),(41,XI),(42,agM),(43,Kl)] []
def FJ:þ:=⟨[Â,ab],[.bool,tI],fun(x:Val bj)=>qp x.1 x.2⟩
def NY (ρ:Type):Env ρ:=Ù [(44,jq),(45,mz),(46,L5)] []
def Eh:þ:=⟨[tI,tI,tI],[.bool],fun(x:rx)=>lm x.1 x.2.1 x.2.2⟩
def ahq (ρ:Type):Env ρ:=Ù [] []
def FR:þ:=⟨[tI],[.bool],fun(x:Int)=>xX x⟩
def aeK (ρ:Type):Env ρ:=Ù [(76,Eh)] []
def acu:þ:=⟨[ab,tI],[.bool],fun(x:lA)=>Mo x.1 x.2⟩
def Vy:Å:=Ls 0 [ab,tI] [tI] ⟨18,[.con ab,.con tI,.any,.any,.any,.var tI],[]⟩ [(.ret,⟨18,[.con ab,.con tI,.any,.any,.var .bool],[]⟩,[.bool]),(.exit 0,⟨18,[.con ab,.con tI],[]⟩,[])]
def G9 (ρ:Type):ô ρ:=⟨[],125,0,Vy,fun(p:lA) (v:Int) b a=>xj p.1 p.2 v (fun c=>b c) (a 0) (a 1)⟩
def Tw (ρ:Type):Env ρ:=Ù [] [G9 ρ]
def FQ:þ:=⟨[ab,ab],[ab],fun(x:ni)=>jx x.1 x.2⟩
def Rx:Å:=Ls 0 [ab,ab] [tI,ab] ⟨28,[.con ab,.con ab,.any,.any,.any,.own 0,.var tI],cf⟩ [(.exit 0,⟨28,[.con ab,.con ab,.any,.any,.any,.own 0],cf⟩,[ab])]
def Dz (ρ:Type):ô ρ:=⟨[],66,0,Rx,fun(p:ni) (v:f4) a b=>tW p.1 p.2 v.1 v.2 (fun c d=>a (c,d)) (b 0)⟩
def OM (ρ:Type):Env ρ:=Ù [(125,acu)] [Dz ρ]
def L6:þ:=⟨[ab,ab],[tI],fun(x:ni)=>qr x.1 x.2⟩
def aeJ (ρ:Type):Env ρ:=Ù [(66,FQ)] []
def XN:þ:=⟨[Ë,Ú,tI],[.bool],fun(x:Val (.pair Ë (.pair Ú tI)))=>Im x.1 x.2.1 x.2.2⟩
def Rq:Å:=Ls 0 [tI,tI,tI,ae,aa,af,ac,aa,tI,tI,tI,tI,tI,tI,tI,tI] [tI] ⟨76,[.any,.any,.con tI,.box 0 0,.box 1 0,.any,.any,.var tI],[bt,bu]⟩ [(.ret,⟨76,[.any,.any,.con tI,.box 0 0,.box 1 0,.any,.var .bool],[bt,bu]⟩,[.bool]),(.exit 0,⟨76,[.any,.any,.con tI,.box 0 0,.box 1 0],[bt,bu]⟩,[])]
def Dp (ρ:Type):ô ρ:=⟨[],143,0,Rq,fun(p:Val aq) (v:Int) b a=>tQ p.1 p.2.2.2.2.2.2.1 p.2.2.2.2.2.2.2.2.1 v (fun c=>b c) (a 0) (a 1)⟩
def Rp:Å:=Ls 0 [tI,tI,tI,ae,aa,af,ac,aa,tI,tI,tI,tI,tI,tI,tI,tI] [tI] ⟨76,aN 2 (.con tI::.box 0 0::.box 1 0::aN 4 [.var tI]),[bt,bu]⟩ [(.ret,⟨76,[.any,.any,.con tI,.box 0 0,.box 1 0,.any,.var .bool],[bt,bu]⟩,[.bool]),(.exit 2,⟨76,[.any,.any,.con tI,.box 0 0,.box 1 0],[bt,bu]⟩,[])]
def Dn (ρ:Type):ô ρ:=⟨[],143,2,Rp,fun(p:Val aq) (v:Int) b a=>oV p.1 p.2.2.2.2.2.2.2.1 p.2.2.2.2.2.2.2.2.1 v (fun c=>b c) (a 0) (a 1)⟩
def EQ (ρ:Type):Env ρ:=Ù [(146,L6)] [Dp ρ,Dn ρ]
def vd:þ:=⟨[Ë],[aa],fun(x:b6)=>kK x⟩
def OE:Å:=Ls 0 [tI,tI,ae,aa,af,ac,aa] [tI,ab] ⟨114,[.any,.box 0 0,.any,.own 1,.var tI],cP⟩ [(.exit 0,⟨114,[.any,.box 0 0,.any,.own 1],cP⟩,[ab])]
def Ai (ρ:Type):ô ρ:=⟨[],85,0,OE,fun(p:Val ao) (v:f4) a b=>qg p.2.2.1 v.1 v.2 (fun c d=>a (c,d)) (b 0)⟩
def OD:Å:=Ls 0 [tI,tI,ae,aa,af,ac,aa] [tI,ab] ⟨114,[.any,.box 0 0,.any,.own 1,.any,.var tI],cP⟩ [(.exit 2,⟨114,[.any,.box 0 0,.any,.own 1],cP⟩,[ab])]
def Ah (ρ:Type):ô ρ:=⟨[],85,2,OD,fun(p:Val ao) (v:f4) a b=>qf p.2.2.2.2.2.1 v.1 v.2 (fun c d=>a (c,d)) (b 0)⟩
def OC:Å:=Ls 0 [tI,tI,ae,aa,af,ac,aa] [tI,ab] ⟨114,[.any,.box 0 0,.any,.own 1,.any,.any,.var tI],cP⟩ [(.exit 4,⟨114,[.any,.box 0 0,.any,.own 1],cP⟩,[ab])]
def Ag (ρ:Type):ô ρ:=⟨[],85,4,OC,fun(p:Val ao) (v:f4) a b=>qe p.2.2.2.2.2.2 v.1 v.2 (fun c d=>a (c,d)) (b 0)⟩
def Ab:Å:=Ls 0 [tI,tI,tI,tI,ae,aa,af,ac,aa,ab,aa] [tI,tI] ⟨114,[.any,.box 0 0,.any,.own 1,.any,.any,.any,.own 2,.con tI,.con tI,.var tI,.var tI],[bt,.rowc tI,.rowc Ç]⟩ [(.exit 10,⟨114,[.any,.box 0 0,.any,.own 1,.any,.any,.any,.own 2,.con tI,.con tI,.var tI],[bt,.rowc tI,.rowc Ç]⟩,[tI])]
def Aa (ρ:Type):ô ρ:=⟨[],85,10,Ab,fun(p:Val (tyL Ab.cs)) (v:bl) a b=>mS p.2.1 p.2.2.2.2.2.2.2.2.2.1 v.1 v.2 (fun c d=>a (c,d)) (b 0)⟩
def Ad:Å:=Ls 0 [tI,tI,tI,ae,aa,af,ac,aa,ab] [tI,aa] ⟨114,[.any,.box 0 0,.any,.own 1,.any,.any,.any,.own 2,.con tI,.var tI],cQ⟩ [(.exit 8,⟨114,[.any,.box 0 0,.any,.own 1,.any,.any,.any,.own 2,.con tI],cQ⟩,[aa])]
def Ac (ρ:Type):ô ρ:=⟨[],85,8,Ad,fun(p:Val (tyL Ad.cs)) (v:nm) a b=>let A:=p.2.2.2.2;mT p.1 p.2.1 p.2.2.1 p.2.2.2.1 A.1 A.2.1 A.2.2.1 A.2.2.2.1 A.2.2.2.2 v.1 v.2 (fun c d=>a (c,d)) (b 0)⟩
def Af:Å:=Ls 0 [tI,tI,ae,aa,af,ac,aa,ab] [tI,aa] ⟨114,[.any,.box 0 0,.any,.own 1,.any,.any,.any,.own 2,.var tI],cQ⟩ [(.exit 6,⟨114,[.any,.box 0 0,.any,.own 1,.any,.any,.any,.own 2],cQ⟩,[aa])]
def Ae (ρ:Type):ô ρ:=⟨[],85,6,Af,fun(p:Val (tyL Af.cs)) (v:nm) a b=>let A:=p.2.2.2.2;qd p.1 p.2.1 p.2.2.1 p.2.2.2.1 A.1 A.2.1 A.2.2.1 A.2.2.2 v.1 v.2 (fun c d=>a (c,d)) (b 0)⟩
def jV (ρ:Type):Env ρ:=Ù [(143,XN)] [Ai ρ,Ah ρ,Ag ρ,Aa ρ,Ac ρ,Ae ρ]
def SQ:þ:=⟨[Ë,Ç],[tI],fun(x:Val ba)=>kL x.1 x.2⟩
def OO:Å:=Ls 0 [aa,tI,tI] [tI] ⟨23,[.any,.any,.any,.box 0 0,.any,.con aa,.var tI],[bL]⟩ [(.ret,⟨23,[.any,.any,.any,.box 0 0,.var tI,.con aa],[bL]⟩,[tI]),(.exit 0,⟨23,[.any,.any,.any,.box 0 0,.any,.con aa],[bL]⟩,[])]
def Aj (ρ:Type):ô ρ:=⟨[],78,0,OO,fun(p:Val (.pair aa Ç)) (v:Int) b a=>qi p.1 p.2.1 p.2.2 v (fun c=>b c) (a 0) (a 1)⟩
def Kx (ρ:Type):Env ρ:=Ù [(85,vd)] [Aj ρ]
def qV:þ:=⟨[Ë,tI],[tI],fun(x:An)=>ke x.1 x.2⟩
def Rz:Å:=Ls 0 [tI,tI,tI,ae,aa,af,ac,aa] [tI] ⟨22,[.any,.con tI,.box 0 0,.any,.any,.var tI],[bt]⟩ [(.ret,⟨22,[.any,.con tI,.box 0 0,.any,.var tI],[bt]⟩,[tI]),(.exit 0,⟨22,[.any,.con tI,.box 0 0],[bt]⟩,[])]
def DA (ρ:Type):ô ρ:=⟨[],15,0,Rz,fun(p:Val (.pair tI ao)) (v:Int) b a=>tX p.1 p.2.2.2.1 v (fun c=>b c) (a 0) (a 1)⟩
def OS (ρ:Type):Env ρ:=Ù [] [DA ρ]
def FP:þ:=⟨[Ë,tI,tI],[ς,.bool],fun(x:Val ba)=>kd x.1 x.2.1 x.2.2⟩
def Dy:Å:=Ls 0 [tI,tI,tI,tI,ae,aa,af,ac,aa] [tI,tI,tI,tI,tI] ⟨42,[.any,.con tI,.con tI,.box 0 0,.any,.any,.box 1 0,.any,.var tI],[bt,bZ]⟩ [(.ret,⟨42,[.any,.con tI,.con tI,.box 0 0,.any,.any,.box 1 0,.var .bool],[bt,bZ]⟩,[.bool,tI,tI,tI,tI]),(.exit 0,⟨42,[.any,.con tI,.con tI,.box 0 0,.any,.any,.box 1 0],[bt,bZ]⟩,[tI,tI,tI,tI])]
def Dx (ρ:Type):ô ρ:=⟨[],64,0,Dy,fun(p:Val (tyL Dy.cs)) (v:Val bo) b a=>tV p.1 p.2.1 p.2.2.2.2.2.2.1 v.1 v.2.1 v.2.2.1 v.2.2.2.1 v.2.2.2.2 (fun c d e f g=>b (c,d,e,f,g)) (a 0) (a 1)⟩
def OJ (ρ:Type):Env ρ:=Ù [] [Dx ρ]
def XO:þ:=⟨[Ë,tI,tI],[.bool],fun(x:Val ba)=>Io x.1 x.2.1 x.2.2⟩
def Dr:Å:=Ls 0 [tI,tI,tI,tI,ae,aa,af,ac,aa] [tI] ⟨33,[.any,.con tI,.con tI,.box 0 0,.any,.any,.any,.var tI],[bt]⟩ [(.ret,⟨33,[.any,.con tI,.con tI,.box 0 0,.any,.any,.var .bool],[bt]⟩,[.bool]),(.exit 0,⟨33,[.any,.con tI,.con tI,.box 0 0],[bt]⟩,[])]
def Dq (ρ:Type):ô ρ:=⟨[],188,0,Dr,fun(p:Val (tyL Dr.cs)) (v:Int) b a=>tR p.1 p.2.1 p.2.2.2.2.2.1 v (fun c=>b c) (a 0) (a 1)⟩
def Ow (ρ:Type):Env ρ:=Ù [] [Dq ρ]
def XS:þ:=⟨[Ë,tI,tI,tI],[tI],fun(x:Val (.pair Ë Ĥ))=>ww x.1 x.2.1 x.2.2.1 x.2.2.2⟩
def Dw:Å:=Ls 0 [tI,tI,tI,tI,tI,ae,aa,af,ac,aa] [tI,tI] ⟨48,.any::.con tI::.any::.con tI::.box 0 0::aN 4 [.con tI,.var tI,.var tI],[bt]⟩ [(.exit 0,⟨48,.any::.con tI::.any::.con tI::.box 0 0::aN 4 [.con tI,.var tI],[bt]⟩,[tI])]
def Dv (ρ:Type):ô ρ:=⟨[],144,0,Dw,fun(p:Val (tyL Dw.cs)) (v:bl) a b=>let A:=p.2.2.2.2;tU p.1 p.2.1 p.2.2.1 p.2.2.2.1 A.1 A.2.1 A.2.2.1 A.2.2.2.1 A.2.2.2.2.1 A.2.2.2.2.2 v.1 v.2 (fun c d=>a (c,d)) (b 0)⟩
def OH (ρ:Type):Env ρ:=Ù [(15,qV),(64,FP),(188,XO)] [Dv ρ]
def UR:þ:=⟨[tI,tI],[tI],fun(x:bl)=>BO x.1 x.2⟩
def VB:Å:=Ls 0 [] [tI,tI] ⟨14,[.var tI,.var tI],[]⟩ [(.exit 0,⟨14,[.var tI],[]⟩,[tI])]
def Ha (ρ:Type):ô ρ:=⟨[],209,0,VB,fun(p:Unit) (v:bl) a b=>xm v.1 v.2 (fun c d=>a (c,d)) (b 0)⟩
def TB (ρ:Type):Env ρ:=Ù [] [Ha ρ]
def US:þ:=⟨[tI],[tI],fun(x:Int)=>Iu x⟩
def aeP (ρ:Type):Env ρ:=Ù [] []
def Ei:þ:=⟨[tI,tI],[ml],fun(x:bl)=>sd x.1 x.2⟩
def VA (ρ:Type):Env ρ:=Ù [(209,UR),(210,US)] []
def acy:þ:=⟨[Ç,Ç],[ml],fun(x:ly)=>Wh x.1 x.2⟩
def aeO (ρ:Type):Env ρ:=Ù [(274,Ei)] []
def acw:þ:=⟨[Ç],[Ç],fun(x:bl)=>Wg x⟩
def aeM (ρ:Type):Env ρ:=Ù [] []
def acv:þ:=⟨[Ç,Ç],[ml],fun(x:ly)=>Mp x.1 x.2⟩
def aeL (ρ:Type):Env ρ:=Ù [(260,acy),(261,acw)] []
def SO:þ:=⟨[Ë,tI],[Ç],fun(x:An)=>wt x.1 x.2⟩
def YK (ρ:Type):Env ρ:=Ù [(15,qV)] []
def XU:þ:=⟨[ml,ml],[Fv],fun(x:Val (.pair ml ml))=>Iq x.1 x.2⟩
def aaW (ρ:Type):Env ρ:=Ù [] []
def acx:þ:=⟨[Ç,Ç],[ml],fun(x:ly)=>xY x.1 x.2⟩
def aeN (ρ:Type):Env ρ:=Ù [(274,Ei)] []
def SW:þ:=⟨[ĝ,Ç],[Fv],fun(x:Val (.pair ĝ Ç))=>BN x.1 x.2⟩
def Y0 (ρ:Type):Env ρ:=Ù [(262,XU),(263,acx)] []
def Ng:þ:=⟨[Ë,Ö],[ĝ],fun(x:Val aZ)=>xW x.1 x.2⟩
def Vz (ρ:Type):Env ρ:=Ù [(146,L6),(231,acv),(232,SO),(233,SW)] []
def SS:þ:=⟨[Ë,Ö],[Ç],fun(x:Val aZ)=>BK x.1 x.2⟩
def YW (ρ:Type):Env ρ:=Ù [] []
def agP:þ:=⟨[tI,tI],[tI],fun(x:bl)=>abm x.1 x.2⟩
def ahs (ρ:Type):Env ρ:=Ù [] []
def XV:þ:=⟨[Ç],[tI],fun(x:bl)=>Ir x⟩
def aaX (ρ:Type):Env ρ:=Ù [(234,agP)] []
def XT:þ:=⟨[tI,tI],[tI],fun(x:bl)=>P0 x.1 x.2⟩
def aaV (ρ:Type):Env ρ:=Ù [] []
def SX:þ:=⟨[Ç],[tI],fun(x:bl)=>BP x⟩
def Y3 (ρ:Type):Env ρ:=Ù [(235,XT)] []
def XP:þ:=⟨[Ë,Ö],[Ç],fun(x:Val aZ)=>wu x.1 x.2⟩
def aaU (ρ:Type):Env ρ:=Ù [(189,Ng),(190,SS),(191,XV),(192,SX)] []
def UQ:þ:=⟨[Ë],[CE],fun(x:b6)=>xU x⟩
def Vv:Å:=Ls 0 [aa,tI,tI,tI,ae,aa,af,ac,aa,tI,tI,tI,tI,tI,tI,tI,tI] [tI,am,aa] ⟨182,[.any,.box 0 0,.box 1 0,.box 2 0,.con aa,.con tI,.box 3 0,.var tI],[bt,b7,.cells [.own 4,.own 5],bu,.rowv Ĥ,.rowv Ç]⟩ [(.exit 2,⟨182,[.any,.box 0 0,.box 1 0,.box 2 0,.con aa,.con tI,.box 3 0],[bt,b7,.cells [.own 4,.own 5],bu,.rowv Ĥ,.rowv Ç]⟩,[am,aa])]
def G5 (ρ:Type):ô ρ:=⟨[],94,2,Vv,fun(p:Val (.pair aa aq)) (v:wk) a b=>let A:=p.2.2.2.2;let B:=A.2.2.2.2;rP p.1 p.2.1 p.2.2.1 p.2.2.2.1 A.1 A.2.1 A.2.2.1 A.2.2.2.1 B.1 B.2.1 B.2.2.1 B.2.2.2.1 B.2.2.2.2.1 B.2.2.2.2.2.1 v.1 v.2.1 v.2.2 (fun c d e=>a (c,d,e)) (b 0)⟩
def Vw:Å:=Ls 0 [aa,tI,tI,ae,aa,af,ac,aa] [tI,am,aa] ⟨182,[.any,.box 0 0,.box 1 0,.box 2 0,.con aa,.var tI],cR⟩ [(.exit 0,⟨182,[.any,.box 0 0,.box 1 0,.box 2 0,.con aa],cR⟩,[am,aa])]
def G6 (ρ:Type):ô ρ:=⟨[],94,0,Vw,fun(p:Val (.pair aa ao)) (v:wk) a b=>let A:=p.2.2.2.2;xi p.1 p.2.1 p.2.2.1 p.2.2.2.1 A.1 A.2.1 A.2.2.1 A.2.2.2 v.1 v.2.1 v.2.2 (fun c d e=>a (c,d,e)) (b 0)⟩
def Vu:Å:=Ls 0 [tI,tI,ae,aa,af,ac,aa] [tI,am,aa] ⟨182,.any::.box 0 0::.box 1 0::.box 2 0::aN 5 [.var tI],cR⟩ [(.exit 4,⟨182,[.any,.box 0 0,.box 1 0,.box 2 0],cR⟩,[am,aa])]
def G4 (ρ:Type):ô ρ:=⟨[],94,4,Vu,fun(p:Val ao) (v:wk) a b=>let A:=p.2.2.2.2;xh p.1 p.2.1 p.2.2.1 p.2.2.2.1 A.1 A.2.1 A.2.2 v.1 v.2.1 v.2.2 (fun c d e=>a (c,d,e)) (b 0)⟩
def Bq (ρ:Type):Env ρ:=Ù [(78,SQ),(85,vd),(144,XS),(146,L6),(151,XP)] [G5 ρ,G6 ρ,G4 ρ]
def oB:þ:=⟨[Ç,tI,tI],[.bool],fun(x:ly)=>ka x.1 x.2.1 x.2.2⟩
def Ro (ρ:Type):Env ρ:=Ù [] []
def SV:þ:=⟨[Ç],[.bool],fun(x:bl)=>BM x⟩
def YZ (ρ:Type):Env ρ:=Ù [(209,UR),(210,US)] []
def SP:þ:=⟨[Ú],[.bool],fun(x:pi)=>BJ x⟩
def YL (ρ:Type):Env ρ:=Ù [(25,FR),(76,Eh),(117,oB),(172,SV)] []
def qG:þ:=⟨[Ë,tI,tI],[tI],fun(x:Val ba)=>jE x.1 x.2.1 x.2.2⟩
def YO (ρ:Type):Env ρ:=Ù [(15,qV)] []
def XM:þ:=⟨[Ë],[tI],fun(x:b6)=>Il x⟩
def Rn:Å:=Ls 0 [tI,tI,ae,aa,af,ac,aa] [tI] ⟨37,[.any,.box 0 0,.any,.var tI],[bt]⟩ [(.ret,⟨37,[.any,.box 0 0,.var tI],[bt]⟩,[tI]),(.exit 0,⟨37,[.any,.box 0 0],[bt]⟩,[])]
def Dm (ρ:Type):ô ρ:=⟨[],119,0,Rn,fun(p:Val ao) (v:Int) b a=>let A:=p.2.2.2.2;tK p.1 p.2.1 p.2.2.1 p.2.2.2.1 A.1 A.2.1 A.2.2 v (fun c=>b c) (a 0) (a 1)⟩
def Om (ρ:Type):Env ρ:=Ù [(25,FR),(123,qG)] [Dm ρ]
def SN:þ:=⟨[Ë],[tI],fun(x:b6)=>BI x⟩
def Oo:Å:=Ls 0 [tI,tI,tI,ae,aa,af,ac,aa,tI,tI,tI,tI] [tI] ⟨111,[.any,.box 0 0,.any,.con tI,.box 1 0,.any,.var tI],cg⟩ [(.ret,⟨111,[.any,.box 0 0,.var tI,.con tI,.box 1 0],cg⟩,[tI]),(.exit 2,⟨111,[.any,.box 0 0,.any,.con tI,.box 1 0],cg⟩,[])]
def zX (ρ:Type):ô ρ:=⟨[],120,2,Oo,fun(p:Val aH) (v:Int) b a=>let A:=p.2.2.2.2.2;p8 p.1 A.1 A.2.2.2.1 A.2.2.2.2.1 A.2.2.2.2.2.1 v (fun c=>b c) (a 0) (a 1)⟩
def On:Å:=Ls 0 [tI,tI,tI,ae,aa,af,ac,aa,tI,tI,tI,tI] [tI] ⟨111,[.any,.box 0 0,.any,.con tI,.box 1 0,.any,.any,.var tI],cg⟩ [(.ret,⟨111,[.any,.box 0 0,.var tI,.con tI,.box 1 0],cg⟩,[tI]),(.exit 4,⟨111,[.any,.box 0 0,.any,.con tI,.box 1 0],cg⟩,[])]
def zW (ρ:Type):ô ρ:=⟨[],120,4,On,fun(p:Val aH) (v:Int) b a=>let A:=p.2.2.2.2;let B:=A.2.2.2.2;mR A.1 B.1 B.2.1 B.2.2.1 v (fun c=>b c) (a 0) (a 1)⟩
def Oq:Å:=Ls 0 [tI,tI,ae,aa,af,ac,aa] [tI] ⟨111,[.any,.box 0 0,.any,.var tI],[bt]⟩ [(.ret,⟨111,[.any,.box 0 0,.var tI],[bt]⟩,[tI]),(.exit 0,⟨111,[.any,.box 0 0],[bt]⟩,[])]
def zY (ρ:Type):ô ρ:=⟨[],120,0,Oq,fun(p:Val ao) (v:Int) b a=>let A:=p.2.2.2.2;p9 p.1 p.2.1 p.2.2.1 p.2.2.2.1 A.1 A.2.1 A.2.2 v (fun c=>b c) (a 0) (a 1)⟩
def tM (ρ:Type):Env ρ:=Ù [(76,Eh),(117,oB),(123,qG)] [zX ρ,zW ρ,zY ρ]
def XQ:þ:=⟨[ab],[.bool],fun(x:an)=>AQ x⟩
def Ru:Å:=Ls 0 [ab] [tI] ⟨35,[.con ab,.any,.any,.var tI],[]⟩ [(.ret,⟨35,[.con ab,.any,.var .bool],[]⟩,[.bool]),(.exit 0,⟨35,[.con ab],[]⟩,[])]
def Ds (ρ:Type):ô ρ:=⟨[],173,0,Ru,fun(p:an) (v:Int) b a=>tT p v (fun c=>b c) (a 0) (a 1)⟩
def Oz (ρ:Type):Env ρ:=Ù [(76,Eh)] [Ds ρ]
def SM:þ:=⟨[Ö],[.bool],fun(x:i4)=>BH x⟩
def YJ (ρ:Type):Env ρ:=Ù [(25,FR),(76,Eh),(117,oB),(173,XQ)] []
def FO:þ:=⟨[Ë,Ö],[tI],fun(x:Val aZ)=>kJ x.1 x.2⟩
def G3:Å:=Ls 0 [tI,tI,ae,aa,af,ac,aa,tI,tI,ab,ab,tI,tI,tI,tI,ab] [tI] ⟨90,[.any,.any,.box 0 0,.box 1 0,.any,.own 2,.var tI],ci⟩ [(.ret,⟨90,[.any,.any,.box 0 0,.box 1 0,.var tI,.own 2],ci⟩,[tI]),(.exit 0,⟨90,[.any,.any,.box 0 0,.box 1 0,.any,.own 2],ci⟩,[])]
def tP (ρ:Type):ô ρ:=⟨[],122,0,G3,fun(p:Val aw) (v:Int) b a=>let A:=p.2.2.2.2;lP p.1 p.2.1 p.2.2.1 p.2.2.2.1 A.1 A.2.1 A.2.2.1 A.2.2.2.2.2.2.2.2.2.2.2 v (fun c=>b c) (a 0) (a 1)⟩
def G0:Å:=Ls 0 [tI,tI,ae,aa,af,ac,aa,tI,tI,ab,ab,tI,tI,tI,tI,ab] [tI] ⟨90,[.any,.any,.box 0 0,.box 1 0,.any,.own 2,.any,.var tI],ci⟩ [(.ret,⟨90,[.any,.any,.box 0 0,.box 1 0,.var tI,.own 2],ci⟩,[tI]),(.exit 2,⟨90,[.any,.any,.box 0 0,.box 1 0,.any,.own 2],ci⟩,[])]
def tO (ρ:Type):ô ρ:=⟨[],122,2,G0,fun(p:Val aw) (v:Int) b a=>let A:=p.2.2.2.2;jv p.1 p.2.1 p.2.2.1 p.2.2.2.1 A.1 A.2.1 A.2.2.1 A.2.2.2.2.1 A.2.2.2.2.2.2.2.2.2.2.2 v (fun c=>b c) (a 0) (a 1)⟩
def GZ:Å:=Ls 0 [tI,tI,ae,aa,af,ac,aa,tI,tI,ab,ab,tI,tI,tI,tI,ab] [tI] ⟨90,[.any,.any,.box 0 0,.box 1 0,.any,.own 2,.any,.any,.var tI],ci⟩ [(.ret,⟨90,[.any,.any,.box 0 0,.box 1 0,.var tI,.own 2],ci⟩,[tI]),(.exit 4,⟨90,[.any,.any,.box 0 0,.box 1 0,.any,.own 2],ci⟩,[])]
def tN (ρ:Type):ô ρ:=⟨[],122,4,GZ,fun(p:Val aw) (v:Int) b a=>let A:=p.2.2.2.2;Ι p.1 p.2.1 p.2.2.1 p.2.2.2.1 A.1 A.2.1 A.2.2.1 A.2.2.2.2.1 A.2.2.2.2.2.2.2.2.2.2.2 v (fun c=>b c) (a 0) (a 1)⟩
def jU (ρ:Type):Env ρ:=Ù [(15,qV),(64,FP),(66,FQ),(123,qG)] [tP ρ,tO ρ,tN ρ]
def SU:þ:=⟨[Ë],[tI],fun(x:b6)=>BL x⟩
def OW:Å:=Ls 0 [tI,tI,ae,aa,af,ac,aa] [tI] ⟨170,[.any,.box 0 0,.any,.var tI],[bt]⟩ [(.ret,⟨170,[.any,.box 0 0,.var tI],[bt]⟩,[tI]),(.exit 0,⟨170,[.any,.box 0 0],[bt]⟩,[])]
def Ap (ρ:Type):ô ρ:=⟨[],62,0,OW,fun(p:Val ao) (v:Int) b a=>qk p.2.2.1 v (fun c=>b c) (a 0) (a 1)⟩
def OU:Å:=Ls 0 [tI,tI,tI,ae,aa,af,ac,aa] [tI] ⟨170,.any::.box 0 0::aN 4 [.con tI,.any,.var tI],[bt]⟩ [(.ret,⟨170,[.any,.box 0 0,.var tI,.any,.any,.any,.con tI],[bt]⟩,[tI]),(.exit 4,⟨170,.any::.box 0 0::aN 4 [.con tI],[bt]⟩,[])]
def Al (ρ:Type):ô ρ:=⟨[],62,4,OU,fun(p:Val (.pair tI ao)) (v:Int) b a=>qj p.1 p.2.2.2.2.2.2.1 v (fun c=>b c) (a 0) (a 1)⟩
def OV:Å:=Ls 0 [tI,tI,ae,aa,af,ac,aa] [tI] ⟨170,.any::.box 0 0::aN 4 [.var tI],[bt]⟩ [(.ret,⟨170,[.any,.box 0 0,.var tI],[bt]⟩,[tI]),(.exit 2,⟨170,[.any,.box 0 0],[bt]⟩,[])]
def Ao (ρ:Type):ô ρ:=⟨[],62,2,OV,fun(p:Val ao) (v:Int) b a=>let A:=p.2.2.2.2;kD p.1 p.2.1 p.2.2.1 p.2.2.2.1 A.1 A.2.1 A.2.2 v (fun c=>b c) (a 0) (a 1)⟩
def OT:Å:=Ls 0 [tI,tI,ae,aa,af,ac,aa] [tI] ⟨170,.any::.box 0 0::aN 7 [.var tI],[bt]⟩ [(.ret,⟨170,[.any,.box 0 0,.var tI],[bt]⟩,[tI]),(.exit 6,⟨170,[.any,.box 0 0],[bt]⟩,[])]
def Ak (ρ:Type):ô ρ:=⟨[],62,6,OT,fun(p:Val ao) (v:Int) b a=>let A:=p.2.2.2.2;kB p.1 p.2.1 p.2.2.1 p.2.2.2.1 A.1 A.2.1 A.2.2 v (fun c=>b c) (a 0) (a 1)⟩
def me (ρ:Type):Env ρ:=Ù [(25,FR),(85,vd),(94,UQ),(117,oB),(118,SP),(119,XM),(120,SN),(121,SM),(122,FO),(123,qG)] [Ap ρ,Al ρ,Ao ρ,Ak ρ]
def act:þ:=⟨[Ë,ė],[tI],fun(x:Val (.pair Ë ė))=>Mn x.1 x.2⟩
def Vp:Å:=Ls 0 [tI,tI,ae,aa,af,ac,aa,tI,ab] [tI] ⟨70,[.any,.any,.box 0 0,.box 1 0,.any,.var tI],cj⟩ [(.ret,⟨70,[.any,.any,.box 0 0,.box 1 0,.var tI],cj⟩,[tI]),(.exit 0,⟨70,[.any,.any,.box 0 0,.box 1 0],cj⟩,[])]
def GO (ρ:Type):ô ρ:=⟨[],63,0,Vp,fun(p:Val aG) (v:Int) b a=>xd p.2.2.2.2.2.2.2.2 v (fun c=>b c) (a 0) (a 1)⟩
def Vo:Å:=Ls 0 [tI,tI,ae,aa,af,ac,aa,tI,ab] [tI] ⟨70,[.any,.any,.box 0 0,.box 1 0,.any,.any,.var tI],cj⟩ [(.ret,⟨70,[.any,.any,.box 0 0,.box 1 0,.var tI],cj⟩,[tI]),(.exit 2,⟨70,[.any,.any,.box 0 0,.box 1 0],cj⟩,[])]
def GN (ρ:Type):ô ρ:=⟨[],63,2,Vo,fun(p:Val aG) (v:Int) b a=>let A:=p.2.2.2.2;EJ p.1 p.2.1 p.2.2.1 p.2.2.2.1 A.1 A.2.1 A.2.2.1 A.2.2.2.2 v (fun c=>b c) (a 0) (a 1)⟩
def Vn:Å:=Ls 0 [tI,tI,ae,aa,af,ac,aa,tI,ab] [tI] ⟨70,[.any,.any,.box 0 0,.box 1 0,.any,.any,.any,.var tI],cj⟩ [(.ret,⟨70,[.any,.any,.box 0 0,.box 1 0,.var tI],cj⟩,[tI]),(.exit 4,⟨70,[.any,.any,.box 0 0,.box 1 0],cj⟩,[])]
def GM (ρ:Type):ô ρ:=⟨[],63,4,Vn,fun(p:Val aG) (v:Int) b a=>let A:=p.2.2.2.2;EI p.1 p.2.1 p.2.2.1 p.2.2.2.1 A.1 A.2.1 A.2.2.1 A.2.2.2.1 A.2.2.2.2 v (fun c=>b c) (a 0) (a 1)⟩
def Bn (ρ:Type):Env ρ:=Ù [(15,qV),(76,Eh),(123,qG)] [GO ρ,GN ρ,GM ρ]
def SL:þ:=⟨[Â],[tI],fun(x:a8)=>BG x⟩
def zT:Å:=Ls 0 [tI,tI,tI,ae,aa,af,ac,aa,aj,tI,ab] [tI,tI] ⟨99,[.any,.box 0 0,.any,.any,.var tI,.con tI,.box 1 0,.var tI],[bB,bC]⟩ [(.ret,⟨99,[.any,.box 0 0,.var tI,.any,.any,.con tI,.box 1 0],[bB,bC]⟩,[tI]),(.exit 2,⟨99,[.any,.box 0 0,.any,.any,.var tI,.con tI,.box 1 0],[bB,bC]⟩,[tI])]
def zS (ρ:Type):ô ρ:=⟨[],12,2,zT,fun(p:Val (tyL zT.cs)) (v:bl) b a=>let A:=p.2.2.2.2;jh p.2.1 p.2.2.1 p.2.2.2.1 A.1 A.2.1 A.2.2.1 A.2.2.2.1 A.2.2.2.2.2.1 A.2.2.2.2.2.2 v.1 v.2 (fun c d=>b (c,d)) (a 0) (a 1)⟩
def Oj:Å:=Ls 0 [tI,tI,ae,aa,af,ac,aa,aj] [tI,tI] ⟨99,[.any,.box 0 0,.any,.any,.var tI,.var tI],[bB]⟩ [(.ret,⟨99,[.any,.box 0 0,.var tI],[bB]⟩,[tI]),(.exit 0,⟨99,[.any,.box 0 0,.any,.any,.var tI],[bB]⟩,[tI])]
def zU (ρ:Type):ô ρ:=⟨[],12,0,Oj,fun(p:rd) (v:bl) b a=>let A:=p.2.2.2.2;pZ p.1 p.2.1 p.2.2.1 p.2.2.2.1 A.1 A.2.1 A.2.2.1 A.2.2.2 v.1 v.2 (fun c d=>b (c,d)) (a 0) (a 1)⟩
def zV (ρ:Type):Env ρ:=Ù [(62,SU),(63,act),(64,FP)] [zS ρ,zU ρ]
def Nb:þ:=⟨[ab],[ah],fun(x:an)=>Fc x⟩
def Ε:Å:=Ls 0 [ab,tI,ah] [tI,ah] ⟨51,[.con ab,.any,.any,.own 0,.con tI,.any,.con ah,.var tI],[.rowv ab]⟩ [(.exit 2,⟨51,[.con ab,.any,.any,.own 0,.con tI,.any,.con ah],[.rowv ab]⟩,[ah])]
def pD (rec:an->BY b5) (ρ:Type):ô ρ:=⟨[],87,2,Ε,fun(p:xa) (v:px) a b=>lr rec p.1 p.2.1 p.2.2 v.1 v.2 (fun c d=>a (c,d)) (b 0)⟩
def Ζ:Å:=Ls 0 [ab] [tI,ah] ⟨51,[.con ab,.any,.any,.own 0,.var tI],[.rowv ab]⟩ [(.exit 0,⟨51,[.con ab,.any,.any,.own 0],[.rowv ab]⟩,[ah])]
def pE (rec:an->BY b5) (ρ:Type):ô ρ:=⟨[],87,0,Ζ,fun(p:an) (v:px) a b=>om rec p v.1 v.2 (fun c d=>a (c,d)) (b 0)⟩
def Ra (rec:an->BY b5):CK (Nat×þ):=[(87,⟨[ab],[ah],fun(x:an)=>rec x⟩)]
def zR (rec:an->BY b5) (ρ:Type):CK (ô ρ):=[pD rec ρ,pE rec ρ]
def Ĵ (rec:an->BY b5) (ρ:Type):Env ρ:=Ù (Ra rec) (zR rec ρ)
def Nc:þ:=⟨[Â,ah],[tI],fun(x:v6)=>xS x.1 x.2⟩
def La:Å:=Ls 0 [ah,tI,tI,tI,ae,aa,af,ac,aa,aj] [tI,tI] ⟨43,[.any,.con ah,.box 0 0,.any,.any,.var tI,.con tI,.var tI],[bB]⟩ [(.exit 2,⟨43,[.any,.con ah,.box 0 0,.any,.any,.var tI,.con tI],[bB]⟩,[tI])]
def yw (ρ:Type):ô ρ:=⟨[],88,2,La,fun(p:rn) (v:bl) a b=>oo p.1 p.2.1 p.2.2.2.2.2.2.2.2.2 v.1 v.2 (fun c d=>a (c,d)) (b 0)⟩
def Lb:Å:=Ls 0 [ah,tI,tI,ae,aa,af,ac,aa,aj] [tI,tI] ⟨43,[.any,.con ah,.box 0 0,.any,.any,.var tI,.var tI],[bB]⟩ [(.exit 0,⟨43,[.any,.con ah,.box 0 0,.any,.any,.var tI],[bB]⟩,[tI])]
def yx (ρ:Type):ô ρ:=⟨[],88,0,Lb,fun(p:Val (.pair ah ai)) (v:bl) a b=>oq p.1 p.2.2.2.2.2.2.2.2 v.1 v.2 (fun c d=>a (c,d)) (b 0)⟩
def xf (ρ:Type):Env ρ:=Ù [] [yw ρ,yx ρ]
def XK:þ:=⟨[Â],[ak],fun(x:a8)=>Ij x⟩
def De:Å:=Ls 0 [tI,ah,tI,tI,tI,ae,aa,af,ac,aa,aj,ak] [tI,ak] ⟨82,[.any,.box 0 0,.any,.own 1,.con tI,.con ah,.own 2,.con tI,.var tI],cS⟩ [(.exit 4,⟨82,[.any,.box 0 0,.any,.own 1,.con tI,.con ah,.own 2,.con tI],cS⟩,[ak])]
def Dc (ρ:Type):ô ρ:=⟨[],34,4,De,fun(p:Val (tyL De.cs)) (v:io) a b=>oT p.2.1 p.2.2.1 p.2.2.2.2.2.2.2.2.2.2.2 v.1 v.2 (fun c d=>a (c,d)) (b 0)⟩
def Dg:Å:=Ls 0 [tI,ah,tI,tI,ae,aa,af,ac,aa,aj,ak] [tI,ak] ⟨82,[.any,.box 0 0,.any,.own 1,.con tI,.con ah,.own 2,.var tI],cS⟩ [(.exit 2,⟨82,[.any,.box 0 0,.any,.own 1,.con tI,.con ah,.own 2],cS⟩,[ak])]
def Df (ρ:Type):ô ρ:=⟨[],34,2,Dg,fun(p:Val (tyL Dg.cs)) (v:io) a b=>oU p.2.1 p.2.2.2.2.2.2.2.2.2.2 v.1 v.2 (fun c d=>a (c,d)) (b 0)⟩
def Ri:Å:=Ls 0 [tI,tI,ae,aa,af,ac,aa,aj] [tI,ak] ⟨82,[.any,.box 0 0,.any,.own 1,.var tI],[bB,.rowv ah]⟩ [(.exit 0,⟨82,[.any,.box 0 0,.any,.own 1],[bB,.rowv ah]⟩,[ak])]
def Dh (ρ:Type):ô ρ:=⟨[],34,0,Ri,fun(p:rd) (v:io) a b=>tC p.2.2.2.2.2.2.2 v.1 v.2 (fun c d=>a (c,d)) (b 0)⟩
def Rg:Å:=Ls 0 [tI,tI,tI,ae,aa,af,ac,aa,aj,ak] [tI,ak] ⟨82,.any::.box 0 0::.any::.own 1::aN 5 [.own 2,.con tI,.var tI],cS⟩ [(.exit 8,⟨82,.any::.box 0 0::.any::.own 1::aN 5 [.own 2,.con tI],cS⟩,[ak])]
def Da (ρ:Type):ô ρ:=⟨[],34,8,Rg,fun(p:Val (.pair tI aI)) (v:io) a b=>let A:=p.2.2.2.2;oS p.1 p.2.1 p.2.2.1 p.2.2.2.1 A.1 A.2.1 A.2.2.1 A.2.2.2.1 A.2.2.2.2.1 A.2.2.2.2.2 v.1 v.2 (fun c d=>a (c,d)) (b 0)⟩
def Rh:Å:=Ls 0 [tI,tI,ae,aa,af,ac,aa,aj,ak] [tI,ak] ⟨82,.any::.box 0 0::.any::.own 1::aN 5 [.own 2,.var tI],cS⟩ [(.exit 6,⟨82,.any::.box 0 0::.any::.own 1::aN 5 [.own 2],cS⟩,[ak])]
def Db (ρ:Type):ô ρ:=⟨[],34,6,Rh,fun(p:Val aI) (v:io) a b=>let A:=p.2.2.2.2;tB p.1 p.2.1 p.2.2.1 p.2.2.2.1 A.1 A.2.1 A.2.2.1 A.2.2.2.1 A.2.2.2.2 v.1 v.2 (fun c d=>a (c,d)) (b 0)⟩
def nP (ρ:Type):Env ρ:=Ù [(87,Nb),(88,Nc)] [Dc ρ,Df ρ,Dh ρ,Da ρ,Db ρ]
def Nf:þ:=⟨[Ë],[Õ],fun(x:b6)=>xV x⟩
def Vx (ρ:Type):Env ρ:=Ù [(85,vd),(94,UQ)] []
def Nd:þ:=⟨[ab,tI],[tI],fun(x:lA)=>xT x.1 x.2⟩
def YG:Å:=Ls 0 [ab,tI] [tI] ⟨19,[.con ab,.con tI,.any,.any,.any,.var tI],[]⟩ [(.ret,⟨19,[.con ab,.con tI,.any,.any,.var tI],[]⟩,[tI]),(.exit 0,⟨19,[.con ab,.con tI],[]⟩,[])]
def Kv (ρ:Type):ô ρ:=⟨[],20,0,YG,fun(p:lA) (v:Int) b a=>Bp p.1 p.2 v (fun c=>b c) (a 0) (a 1)⟩
def YH (ρ:Type):Env ρ:=Ù [] [Kv ρ]
def UO:þ:=⟨[Â,ah,tI,tI],[tI],fun(x:ry)=>xR x.1 x.2.1 x.2.2.1 x.2.2.2⟩
def Vq:Å:=Ls 0 [ah,tI,tI,tI,ae,aa,af,ac,aa,aj] [tI,tI] ⟨45,.any::.con ah::.var tI::.con tI::.box 0 0::aN 4 [.var tI],[bB]⟩ [(.exit 0,⟨45,[.any,.con ah,.var tI,.con tI,.box 0 0],[bB]⟩,[tI])]
def GP (ρ:Type):ô ρ:=⟨[],75,0,Vq,fun(p:rn) (v:bl) a b=>xe p.1 p.2.1 p.2.2.2.2.2.2.2.2.2 v.1 v.2 (fun c d=>a (c,d)) (b 0)⟩
def Tl (ρ:Type):Env ρ:=Ù [(20,Nd)] [GP ρ]
def XJ:þ:=⟨[Â,ah,ab,tI],[ab],fun(x:Val (.pair Â (.pair ah aD)))=>AP x.1 x.2.1 x.2.2.1 x.2.2.2⟩
def C7:Å:=Ls 0 [ah,ab,tI,tI,tI,tI,tI,ae,aa,af,ac,aa,aj,ab] [tI] ⟨57,.any::.con ah::.con ab::.con tI::.box 0 0::aN 4 [.own 1,.con tI,.con tI,.var tI],[bB,.rowc tI]⟩ [(.exit 2,⟨57,.any::.con ah::.con ab::.con tI::.box 0 0::aN 4 [.own 1,.con tI,.con tI,.var tI],[bB,.rowc tI]⟩,[tI])]
def C6 (ρ:Type):ô ρ:=⟨[],95,2,C7,fun(p:Val (tyL C7.cs)) (v:Int) a b=>oR p.2.2.2.2.1 p.2.2.2.2.2.2.2.2.2.2.2.2.2 v (fun c=>a c) (b 0)⟩
def C9:Å:=Ls 0 [ah,ab,tI,tI,tI,ae,aa,af,ac,aa,aj] [tI,ab] ⟨57,.any::.con ah::.con ab::.con tI::.box 0 0::aN 4 [.own 1,.var tI],cG⟩ [(.exit 0,⟨57,.any::.con ah::.con ab::.con tI::.box 0 0::aN 4 [.own 1],cG⟩,[ab])]
def C8 (ρ:Type):ô ρ:=⟨[],95,0,C9,fun(p:Val (tyL C9.cs)) (v:f4) a b=>let A:=p.2.2.2.2;let B:=A.2.2.2.2;tz p.1 p.2.1 p.2.2.1 p.2.2.2.1 A.1 A.2.1 A.2.2.1 A.2.2.2.1 B.1 B.2.1 B.2.2 v.1 v.2 (fun c d=>a (c,d)) (b 0)⟩
def EH (ρ:Type):Env ρ:=Ù [(75,UO)] [C6 ρ,C8 ρ]
def CN:þ:=⟨[Â,ah],[Ë],fun(x:v6)=>ov x.1 x.2⟩
def rN:Å:=Ls 0 [ah,tI,tI,ae,aa,af,ac,aa,aj,tI,tI,tI,tI,ae] [tI,aa] ⟨156,[.any,.con ah,.box 0 0,.any,.box 1 0,.box 2 0,.var tI],[bB,bG,b9,.rowv Ç]⟩ [(.exit 0,⟨156,[.any,.con ah,.box 0 0,.any,.box 1 0,.box 2 0],[bB,bG,b9,.rowv Ç]⟩,[aa])]
def rM (ρ:Type):ô ρ:=⟨[],37,0,rN,fun(p:Val (tyL rN.cs)) (v:nm) a b=>let A:=p.2.2.2.2;kz p.1 p.2.1 p.2.2.1 p.2.2.2.1 A.1 A.2.1 A.2.2.1 A.2.2.2.1 A.2.2.2.2.1 v.1 v.2 (fun c d=>a (c,d)) (b 0)⟩
def rL:Å:=Ls 0 [ah,tI,tI,ae,aa,af,ac,aa,aj,tI,tI,tI,tI,ae,aa] [tI,af] ⟨156,[.any,.con ah,.box 0 0,.any,.box 1 0,.box 2 0,.any,.any,.var tI],[bB,bG,ca,.rowc Ç,.rowv ς]⟩ [(.exit 2,⟨156,[.any,.con ah,.box 0 0,.any,.box 1 0,.box 2 0],[bB,bG,ca,.rowc Ç,.rowv ς]⟩,[af])]
def rK (ρ:Type):ô ρ:=⟨[],37,2,rL,fun(p:Val (tyL rL.cs)) (v:y5) a b=>let A:=p.2.2.2.2;ky p.1 p.2.1 p.2.2.1 p.2.2.2.1 A.1 A.2.1 A.2.2.1 A.2.2.2.1 A.2.2.2.2.1 v.1 v.2 (fun c d=>a (c,d)) (b 0)⟩
def rJ:Å:=Ls 0 [ah,tI,tI,ae,aa,af,ac,aa,aj,tI,tI,tI,tI,ae,aa,af] [tI,ac] ⟨156,.any::.con ah::.box 0 0::.any::.box 1 0::.box 2 0::aN 4 [.var tI],cT⟩ [(.exit 4,⟨156,[.any,.con ah,.box 0 0,.any,.box 1 0,.box 2 0],cT⟩,[ac])]
def rI (ρ:Type):ô ρ:=⟨[],37,4,rJ,fun(p:Val (tyL rJ.cs)) (v:BE) a b=>let A:=p.2.2.2.2;kv p.1 p.2.1 p.2.2.1 p.2.2.2.1 A.1 A.2.1 A.2.2.1 A.2.2.2.1 A.2.2.2.2.1 v.1 v.2 (fun c d=>a (c,d)) (b 0)⟩
def rH:Å:=Ls 0 [ah,tI,tI,ae,aa,af,ac,aa,aj,tI,tI,tI,tI,ae,aa,af,ac] [tI,aa] ⟨156,.any::.con ah::.box 0 0::.any::.box 1 0::.box 2 0::aN 6 [.var tI],cV⟩ [(.exit 6,⟨156,[.any,.con ah,.box 0 0,.any,.box 1 0,.box 2 0],cV⟩,[aa])]
def rG (ρ:Type):ô ρ:=⟨[],37,6,rH,fun(p:Val (tyL rH.cs)) (v:nm) a b=>let A:=p.2.2.2.2;ku p.1 p.2.1 p.2.2.1 p.2.2.2.1 A.1 A.2.1 A.2.2.1 A.2.2.2.1 A.2.2.2.2.1 v.1 v.2 (fun c d=>a (c,d)) (b 0)⟩
def Η (ρ:Type):Env ρ:=Ù [(75,UO),(95,XJ)] [rM ρ,rK ρ,rI ρ,rG ρ]
def XR:þ:=⟨[Õ],[.bool],fun(x:im)=>Ip x⟩
def Rv:Å:=Ls 0 [tI,tI,am] [.bool,tI,ab] ⟨60,[.any,.box 0 0,.any,.own 1,.var .bool,.con tI,.var tI],cM⟩ [(.exit 2,⟨60,[.any,.box 0 0,.any,.own 1,.var .bool,.con tI],cM⟩,[.bool,ab])]
def Dt (ρ:Type):ô ρ:=⟨[],124,2,Rv,fun(p:Val aR) (v:r8) a b=>oW p.2.2 v.1 v.2.1 v.2.2 (fun c d e=>a (c,d,e)) (b 0)⟩
def Rw:Å:=Ls 0 [tI,am] [.bool,tI,ab] ⟨60,[.any,.box 0 0,.any,.own 1,.var .bool,.var tI],cM⟩ [(.exit 0,⟨60,[.any,.box 0 0,.any,.own 1,.var .bool],cM⟩,[.bool,ab])]
def Du (ρ:Type):ô ρ:=⟨[],124,0,Rw,fun(p:im) (v:r8) a b=>oX p.1 p.2 v.1 v.2.1 v.2.2 (fun c d e=>a (c,d,e)) (b 0)⟩
def ES (ρ:Type):Env ρ:=Ù [] [Dt ρ,Du ρ]
def FN:þ:=⟨[Â,ah],[.bool],fun(x:v6)=>qq x.1 x.2⟩
def Og (ρ:Type):Env ρ:=Ù [(36,Nf),(37,CN),(124,XR)] []
def FK:þ:=⟨[Â],[.bool],fun(x:a8)=>j9 x⟩
def Rj:Å:=Ls 0 [ak,tI,tI,ae,aa,af,ac,aa,aj] [tI] ⟨21,[.any,.box 0 0,.any,.con ak,.var tI],[bB]⟩ [(.ret,⟨21,[.any,.box 0 0,.var .bool,.con ak],[bB]⟩,[.bool]),(.exit 0,⟨21,[.any,.box 0 0,.any,.con ak],[bB]⟩,[])]
def Di (ρ:Type):ô ρ:=⟨[],13,0,Rj,fun(p:Val (.pair ak ai)) (v:Int) b a=>let A:=p.2.2.2.2;tD p.1 p.2.1 p.2.2.1 p.2.2.2.1 A.1 A.2.1 A.2.2.1 A.2.2.2.1 A.2.2.2.2 v (fun c=>b c) (a 0) (a 1)⟩
def Oc (ρ:Type):Env ρ:=Ù [(34,XK),(65,FN)] [Di ρ]
def FM:þ:=⟨[Â,ab],[Â],fun(x:Val bj)=>pp x.1 x.2⟩
def Rk:Å:=Ls 0 [ab,tI,tI,ae,aa,af,ac,aa,aj,tI,tI] [tI,ac] ⟨38,[.any,.con ab,.box 0 0,.any,.box 1 0,.own 2,.var tI],[bB,bR,.rowv Ö]⟩ [(.exit 0,⟨38,[.any,.con ab,.box 0 0,.any,.box 1 0,.own 2],[bB,bR,.rowv Ö]⟩,[ac])]
def Dk (ρ:Type):ô ρ:=⟨[],14,0,Rk,fun(p:Val (.pair ab aO)) (v:BE) a b=>tG p.1 p.2.2.2.2.2.2.1 v.1 v.2 (fun c d=>a (c,d)) (b 0)⟩
def Oe (ρ:Type):Env ρ:=Ù [(20,Nd)] [Dk ρ]
def agO:þ:=⟨[Â,tI],[ab],fun(x:Val (.pair Â tI))=>Wf x.1 x.2⟩
def YD:Å:=Ls 0 [tI,tI,tI,ae,aa,af,ac,aa,aj] [tI,ab] ⟨46,[.any,.con tI,.box 0 0,.any,.any,.own 1,.var tI],cG⟩ [(.exit 0,⟨46,[.any,.con tI,.box 0 0,.any,.any,.own 1],cG⟩,[ab])]
def Ku (ρ:Type):ô ρ:=⟨[],16,0,YD,fun(p:AN) (v:f4) a b=>Bo p.1 p.2.2.2.2.2.2.1 v.1 v.2 (fun c d=>a (c,d)) (b 0)⟩
def YE (ρ:Type):Env ρ:=Ù [(20,Nd),(66,FQ)] [Ku ρ]
def UP:þ:=⟨[Â],[ab],fun(x:a8)=>BF x⟩
def Vs:Å:=Ls 0 [tI,tI,ae,aa,af,ac,aa,aj] [tI,ab] ⟨24,[.any,.box 0 0,.any,.own 1,.var tI],cG⟩ [(.exit 0,⟨24,[.any,.box 0 0,.any,.own 1],cG⟩,[ab])]
def GW (ρ:Type):ô ρ:=⟨[],19,0,Vs,fun(p:rd) (v:f4) a b=>EM p.2.2.2.2.2.1 v.1 v.2 (fun c d=>a (c,d)) (b 0)⟩
def Tm (ρ:Type):Env ρ:=Ù [] [GW ρ]
def XL:þ:=⟨[Â],[ab],fun(x:a8)=>Ik x⟩
def Rm:Å:=Ls 0 [tI,tI,ae,aa,af,ac,aa,aj] [ab,tI] ⟨34,[.any,.box 0 0,.any,.var ab,.var tI],[bB]⟩ [(.exit 0,⟨34,[.any,.box 0 0,.any,.var ab],[bB]⟩,[ab])]
def Dl (ρ:Type):ô ρ:=⟨[],18,0,Rm,fun(p:rd) (v:lA) a b=>let A:=p.2.2.2.2;tJ p.1 p.2.1 p.2.2.1 p.2.2.2.1 A.1 A.2.1 A.2.2.1 A.2.2.2 v.1 v.2 (fun c d=>a (c,d)) (b 0)⟩
def Oi (ρ:Type):Env ρ:=Ù [(13,FK),(14,FM),(19,UP)] [Dl ρ]
def Na:þ:=⟨[ab,tI],[ab],fun(x:lA)=>xQ x.1 x.2⟩
def K9:Å:=Ls 0 [ab,tI] [tI,ab] ⟨31,[.con ab,.con tI,.any,.any,.any,.own 0,.var tI],cf⟩ [(.exit 0,⟨31,[.con ab,.con tI,.any,.any,.any,.own 0],cf⟩,[ab])]
def yv (ρ:Type):ô ρ:=⟨[],67,0,K9,fun(p:lA) (v:f4) a b=>ol p.1 p.2 v.1 v.2 (fun c d=>a (c,d)) (b 0)⟩
def GG (ρ:Type):Env ρ:=Ù [] [yv ρ]
def FL:þ:=⟨[Â,ab],[ab],fun(x:Val bj)=>Ů x.1 x.2⟩
def GR:Å:=Ls 0 [ab,tI,tI,tI,ae,aa,af,ac,aa,aj] [tI] ⟨39,[.any,.con ab,.box 0 0,.any,.any,.con tI,.var tI],[bB]⟩ [(.ret,⟨39,[.any,.con ab,.box 0 0,.any,.var ab,.con tI],[bB]⟩,[ab]),(.exit 2,⟨39,[.any,.con ab,.box 0 0,.any,.any,.con tI],[bB]⟩,[])]
def tE (ρ:Type):ô ρ:=⟨[],21,2,GR,fun(p:Val (.pair ab aF)) (v:Int) b a=>let A:=p.2.2.2.2;Θ p.1 p.2.1 p.2.2.1 p.2.2.2.1 A.1 A.2.1 A.2.2.1 A.2.2.2.1 A.2.2.2.2.1 A.2.2.2.2.2 v (fun c=>b c) (a 0) (a 1)⟩
def GS:Å:=Ls 0 [ab,tI,tI,ae,aa,af,ac,aa,aj] [tI] ⟨39,[.any,.con ab,.box 0 0,.any,.any,.var tI],[bB]⟩ [(.ret,⟨39,[.any,.con ab,.box 0 0,.any,.var ab],[bB]⟩,[ab]),(.exit 0,⟨39,[.any,.con ab,.box 0 0],[bB]⟩,[])]
def tF (ρ:Type):ô ρ:=⟨[],21,0,GS,fun(p:Val (.pair ab ai)) (v:Int) b a=>let A:=p.2.2.2.2;ju p.1 p.2.1 p.2.2.1 p.2.2.2.1 A.1 A.2.1 A.2.2.1 A.2.2.2.1 A.2.2.2.2 v (fun c=>b c) (a 0) (a 1)⟩
def rO (ρ:Type):Env ρ:=Ù [(13,FK),(14,FM),(67,Na)] [tE ρ,tF ρ]
def oe:þ:=⟨[Â,ab,tI],[.bool],fun(x:Val (.pair Â aD))=>uP x.1 x.2.1 x.2.2⟩
def rg:Å:=Ls 0 [ab,ab,tI,.bool,ab,tI,tI,ae,aa,af,ac,aa,aj] [tI,tI] ⟨217,.any::.con ab::.any::.box 0 0::aN 9 [.con ab,.con tI,.any,.con .bool,.var tI,.con ab,.var tI],[bB]⟩ [(.exit 0,⟨217,.any::.con ab::.any::.box 0 0::aN 9 [.con ab,.con tI,.any,.con .bool,.var tI,.con ab],[bB]⟩,[tI])]
def rc (ρ:Type):ô ρ:=⟨[],3,0,rg,fun(p:Val (tyL rg.cs)) (v:bl) a b=>Ŕ p.1 p.2.2.2.2.1 v.1 v.2 (fun c d=>a (c,d)) (b 0)⟩
def qZ:Å:=Ls 0 [ab,ab,tI,.bool,tI,tI,ae,aa,af,ac,aa,aj] [tI,tI] ⟨217,.any::.con ab::.any::.box 0 0::aN 9 [.con ab,.con tI,.any,.con .bool,.var tI,.any,.any,.var tI],[bB]⟩ [(.exit 2,⟨217,.any::.con ab::.any::.box 0 0::aN 9 [.con ab,.con tI,.any,.con .bool,.var tI],[bB]⟩,[tI])]
def qY (ρ:Type):ô ρ:=⟨[],3,2,qZ,fun(p:Val (tyL qZ.cs)) (v:bl) a b=>ĸ p.1 v.1 v.2 (fun c d=>a (c,d)) (b 0)⟩
def vp:CK JEnt:=[⟨[],3,19,0,⟨217,.any::.var ab::.any::.box 0 0::aN 7 [.var ab,.var tI,.var ab,.var tI,.any,.var .bool],[.cells [.var tI,.var tI,.var ae,.var aa,.var af,.var ac,.var aa,.var aj]]⟩,[ab,ab,tI,ab,tI,.bool,tI,tI,ae,aa,af,ac,aa,aj]⟩,⟨[],3,24,0,⟨217,.any::.var ab::.any::.box 0 0::aN 9 [.var ab,.var tI,.any,.var .bool],[.cells [.var tI,.var tI,.var ae,.var aa,.var af,.var ac,.var aa,.var aj]]⟩,[ab,ab,tI,.bool,tI,tI,ae,aa,af,ac,aa,aj]⟩,⟨[],3,27,0,⟨217,.any::.var ab::.any::.box 0 0::aN 9 [.var ab,.var tI,.any,.var .bool,.var tI],[.cells [.var tI,.var tI,.var ae,.var aa,.var af,.var ac,.var aa,.var aj]]⟩,[ab,ab,tI,.bool,tI,tI,tI,ae,aa,af,ac,aa,aj]⟩,⟨[],3,40,0,⟨217,.any::.var ab::.any::.box 0 0::aN 9 [.var ab,.var tI,.any,.any,.var tI],[.cells [.var tI,.var tI,.var ae,.var aa,.var af,.var ac,.var aa,.var aj]]⟩,[ab,ab,tI,tI,tI,tI,ae,aa,af,ac,aa,aj]⟩]
def jr (ρ:Type):Env ρ:=mkEnvJ [(6,SG),(7,M8),(8,FJ),(9,wS),(10,UN),(11,zc),(12,SL),(13,FK),(14,FM),(15,qV),(16,agO),(17,pQ),(18,XL),(19,UP),(20,Nd),(21,FL)] [rc ρ,qY ρ] vp
end Go.Proofs.ZzM
end
