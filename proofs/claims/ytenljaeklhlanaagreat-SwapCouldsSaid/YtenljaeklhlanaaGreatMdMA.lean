/- lemmas -/
import Derived.Test.YtenljaeklhlanaaGreatAmC
import Derived.Test.YtenljaeklhlanaaGreatAmE
import Derived.KernelRfl
import Derived.Test.YtenljaeklhlanaaGreatMdTA
import Derived.Test.YtenljaeklhlanaaGreatProg
set_option linter.all false
noncomputable section
set_option maxRecDepth 100000
namespace Go.Proofs.ZzM
open Go Go.Am
def JB:Nat->Bool
  |103=>true
  |131=>true
  |165=>true
  |247=>true
  |248=>true
  |249=>true
  |_=>false
def TH:Nat->Bool
  |133=>true
  |_=>false
def vV:Nat->Bool
  |242=>true
  |_=>false
def amI:Nat->Bool
  |2=>true
  |48=>true
  |49=>true
  |53=>true
  |54=>true
  |55=>true
  |56=>true
  |59=>true
  |60=>true
  |61=>true
  |72=>true
  |73=>true
  |92=>true
  |93=>true
  |98=>true
  |99=>true
  |100=>true
  |101=>true
  |102=>true
  |104=>true
  |108=>true
  |109=>true
  |110=>true
  |111=>true
  |112=>true
  |126=>true
  |127=>true
  |134=>true
  |149=>true
  |150=>true
  |155=>true
  |157=>true
  |158=>true
  |159=>true
  |161=>true
  |162=>true
  |164=>true
  |166=>true
  |167=>true
  |169=>true
  |175=>true
  |176=>true
  |178=>true
  |179=>true
  |181=>true
  |182=>true
  |184=>true
  |185=>true
  |186=>true
  |193=>true
  |194=>true
  |199=>true
  |205=>true
  |211=>true
  |213=>true
  |214=>true
  |215=>true
  |216=>true
  |217=>true
  |218=>true
  |220=>true
  |221=>true
  |225=>true
  |228=>true
  |230=>true
  |237=>true
  |238=>true
  |239=>true
  |240=>true
  |241=>true
  |243=>true
  |244=>true
  |245=>true
  |250=>true
  |251=>true
  |253=>true
  |254=>true
  |259=>true
  |266=>true
  |267=>true
  |268=>true
  |277=>true
  |278=>true
  |281=>true
  |282=>true
  |285=>true
  |286=>true
  |_=>false
def isFz:Nat->Bool
  |52=>true
  |_=>false
def amJ:Nat->Nat->Bool
  |71,2=>true
  |71,3=>true
  |108,25=>true
  |194,0=>true
  |_,_=>false
def ahI:CK Nat->Nat->Bool
  |_,_=>false
abbrev RZ {ρ:Type} (E:Env ρ) (f:Nat) (ts rs:CK Ty) (x:Val (tyL ts)) (k:Val (tyL rs)->BY ρ):BY ρ:=topK E f (aba ts x) (fun h v=>Ä (ams rs h v) k)
abbrev Ls (p:Nat) (c v:CK Ty) (h:Tpl) (e:CK (Exit×Tpl×CK Ty)):Å:=⟨p,c,v,h,e,false⟩
def Ø {ρ:Type} (pt:CK (Nat×ý)) (tab:CK (ö ρ)):Env ρ :=
  {P:=Tryz.prog,eat:=amJ,clone:=JB,sort:=TH,compact:=vV,inl:=amI,fz:=isFz,stop:=ahI,pure:=aa6 pt,loops:=kq tab}
def acC {ρ:Type} (pt:CK (Nat×ý)) (tab:CK (ö ρ)) (xt:CK (Nat×adR)):Env ρ:={Ø pt tab with ext:=extT xt}
def mkEnvJ {ρ:Type} (pt:CK (Nat×ý)) (tab:CK (ö ρ)) (js:CK JEnt):Env ρ :=
  {P:=Tryz.prog,eat:=amJ,clone:=JB,sort:=TH,compact:=vV,inl:=amI,fz:=isFz,stop:=ahI,pure:=aa6 pt,loops:=kq tab,joins:=VA js}
def mkEnvU {ρ:Type} (pt:CK (Nat×ý)) (tab:CK (ö ρ)) (us:CK alj):Env ρ :=
  {P:=Tryz.prog,eat:=amJ,clone:=JB,sort:=TH,compact:=vV,inl:=amI,fz:=isFz,stop:=ahI,pure:=aa6 pt,loops:=ac5 (Ø pt tab) us}
abbrev bt:jh:=.cells [.con ab]
abbrev bu:jh:=.cells [.con tI,.con tI,.con ae,.con aa,.con af,.con ac,.con aa]
abbrev bv:jh:=.cells [.con tI,.con tI,.con tI,.con tI,.con tI,.con tI,.con tI,.con tI]
abbrev bw:jh:=.cells [.con tI,.con tI,.con tI,.con tI]
abbrev bz:jh:=.cells [.con tI]
abbrev bB:jh:=.cells [.con tI,.con tI,.con ab,.con ab,.con tI,.con tI,.con tI,.con tI]
abbrev bC:jh:=.cells [.con tI,.con tI,.con ae,.con aa,.con af,.con ac,.con aa,.con aj]
abbrev bD:jh:=.cells [.con tI,.con ab]
abbrev bE:jh:=.cells [.omp 3]
abbrev bG:jh:=.cells [.var tI,.var tI,.var ae,.var aa,.var af,.var ac,.var aa,.var aj]
abbrev bH:jh:=.cells [.con tI,.con tI,.nils,.nils,.nils,.nils,.nils]
abbrev bI:jh:=.cells [.con tI,.con tI,.own 3,.own 4,.nils,.nils,.nils]
abbrev bJ:jh:=.cells [.con tI,.con tI,.own 3,.own 4,.own 5,.nils,.nils]
abbrev bK:jh:=.cells [.con tI,.con tI,.own 3,.own 4,.own 5,.own 6,.nils]
abbrev bL:jh:=.cells [.con tI,.con tI,.own 2,.own 3,.own 4,.own 5,.own 6]
abbrev bM:jh:=.cells [.con tI,.con tI]
abbrev bN:jh:=.cells [.con tI,.con tI,.con ae,.con aa,.con af,.con ac,.con aa,.con aa,.con tI,.own 3,.own 4]
abbrev bO:jh:=.cells [.con tI,.con tI,.con ae,.con aa,.con af,.con ac,.con aa,.con aa,.con tI,.own 2,.own 3]
abbrev bP:jh:=.cells [.con tI,.con am]
abbrev bQ:jh:=.cells [.own 6]
abbrev bR:jh:=.cells [.fn 49 [(1,0)]]
abbrev bS:jh:=.cells [.con tI,.con tI,.nils,.nils,.nils,.nils,.nils,.nils]
abbrev bT:jh:=.cells [.fn 99 [(1,0)]]
abbrev bU:jh:=.cells [.fn 56 [(0,0),(1,0)]]
abbrev bV:jh:=.cells [.fn 56 [(3,0),(0,0)]]
abbrev bW:jh:=.cells [.con aj]
abbrev bX:jh:=.cells [.own 4]
abbrev bY:jh:=.cells [.con tI,.con tI,.own 9,.own 10,.own 11,.con ac,.own 12]
abbrev bZ:jh:=.cells [.con tI,.con tI,.con tI]
abbrev b7:jh:=.cells [.var tI,.var tI,.var tI,.var tI]
abbrev b8:jh:=.cells [.nils,.nils]
abbrev b9:jh:=.cells [.own 3,.own 4]
abbrev ca:jh:=.cells [.con tI,.con tI,.con ae,.own 3,.nils,.nils,.nils]
abbrev cd:jh:=.cells [.con tI,.con tI,.con ae,.own 3,.own 4,.nils,.nils]
abbrev ce:jh:=.cells [.con tI,.con tI,.con ae,.own 3,.own 4,.own 5,.nils]
abbrev cf:jh:=.cells [.con tI,.con tI,.con ae,.own 3,.own 4,.own 5,.own 6]
abbrev cg:CK jh:=[.rowv tI]
abbrev ci:CK jh:=[bu,bw]
abbrev cj:CK jh:=[bu,bB,.rowc tI]
abbrev cm:CK jh:=[bu,bD]
abbrev cn:CK jh:=[bu,bD,bE,.mapc tI tI]
abbrev cp:CK jh:=[.rowv ah,bC]
abbrev cq:CK jh:=[.rowc ah,bC]
abbrev cr:CK jh:=[.rowv ah,bG]
abbrev cu:CK jh:=[bH,bu,bJ,.rowc Ù,.rowc Ç,.rowv χ]
abbrev cw:CK jh:=[bH,bu,bK,.rowc Ù,.rowc Ç,.rowc χ,.rowv Ú]
abbrev cz:CK jh:=[bH,bL,.rowc Ù,.rowc Ç,.rowc χ,.rowc Ú,.rowv Ç]
abbrev cA:CK jh:=[bu,bO,.rowv ę,.rowv Ç]
abbrev cB:CK jh:=[bP,.rowc tI,bP,bQ,.rowv .bool,.rowc tI,.rowv tI]
abbrev cD:CK jh:=[bP,.rowv tI,bP,bQ,.rowv .bool,.rowc tI,.rowv tI]
abbrev cE:CK jh:=[bP,.rowv tI,bP,bQ,.rowv .bool,.rowv tI,.rowv tI]
abbrev cF:CK jh:=[bC,bz,bC,bR,bS,.rowc Ú]
abbrev cG:CK jh:=[bC,bt,bS,bC,bT,bS,.rowc Ú]
abbrev cH:CK jh:=[bC,.rowv tI]
abbrev cI:CK jh:=[bt,bV,.rowc tI,bC]
abbrev cJ:CK jh:=[bt,bV,.rowv tI,bC]
abbrev cM:CK jh:=[bu,bM,bH,bu,bH,.dead,bY,bH,.rowv Ú,.rowc Ù,.rowc Ç,.rowc χ,.rowc Ç]
abbrev cN:CK jh:=[bP,.rowv tI]
abbrev cO:CK jh:=[.rowc ab,bP,.dead,.dead,.rowv tI]
abbrev cP:CK jh:=[bP,.rowc ah,bZ,bP,.rowv tI]
abbrev cQ:CK jh:=[bu,.rowv tI]
abbrev cR:CK jh:=[bu,.rowc tI,.rowv Ç]
abbrev cS:CK jh:=[bu,b8,b9,.rowv ę,.rowv Ç]
abbrev cT:CK jh:=[bC,.rowc ah,.rowv ah]
abbrev cV:CK jh:=[bC,bH,ce,.rowc Ç,.rowc χ,.rowv Ú]
abbrev cW:CK jh:=[bC,bH,cf,.rowc Ç,.rowc χ,.rowc Ú,.rowv Ç]
def jA:ý:=⟨[ah],[ab],fun(x:b5)=>Ī x⟩
def mH:Å:=Ls 0 [ah,ah,tI] [tI,tI] ⟨36,.con ah::aN 2 (.var tI::aN 5 [.con ah,.con tI,.var tI]),[]⟩ [(.exit 0,⟨36,.con ah::aN 2 (.var tI::aN 5 [.con ah,.con tI]),[]⟩,[tI])]
def mG (ρ:Type):ö ρ:=⟨[],52,0,mH,fun(p:Val (tyL mH.cs)) (v:bx) a b=>Φ p.2.1 p.2.2 v.1 v.2 (fun c d=>a (c,d)) (b 0)⟩
def wU:Å:=Ls 0 [ah,tI] [tI,ab] ⟨36,aN 6 (.own 0::aN 18 [.con ah,.con tI,.var tI]),cg⟩ [(.exit 2,⟨36,aN 6 (.own 0::aN 18 [.con ah,.con tI]),cg⟩,[ab])]
def mF (ρ:Type):ö ρ:=⟨[],52,2,wU,fun(p:rm) (v:ge) a b=>Ĥ p.1 p.2 v.1 v.2 (fun c d=>a (c,d)) (b 0)⟩
def kM (ρ:Type):Env ρ:=Ø [] [mG ρ,mF ρ]
def Po:al5:=⟨206,ab,ab,Bw⟩
def iD:Tpl:=⟨37,.any::.box 1 0::.box 2 0::.any::.box 3 0::aN 6 [.con ab,.con tI,.con tI],[.acc ab,.cells [.con ab],.cells [.yld],.cells [.con tI]]⟩
def kd (al:b5) (rec:an->BY (b5)) (ρ:Type):IC ρ:=⟨[],206,2,4,[ab,tI,tI,ab,tI],[ah],iD,⟨206,ab,ab,rec⟩,fun(p:Val ba) (v:b5) y a=>qX al rec p.2.2.2.2 v y (fun b=>a b)⟩
def ų:Å:=Ls 2 [ab,tI,ab] [tI,ah] ⟨37,.any::.box 1 0::.box 2 0::aN 8 [.con ab,.con tI,.var tI],[.acc ab,bt,.cells [.yld]]⟩ [(.exit 0,⟨37,.any::.box 1 0::.box 2 0::aN 8 [.con ab,.con tI],[.acc ab,bt,.cells [.yld]]⟩,[ah])]
def nw (al:b5) (rec:an->BY (b5)) (ρ:Type):ö ρ:=⟨[],206,0,ų,fun(p:Val bh) (v:px) a b=>qY al rec p.1 p.2.1 p.2.2 v.1 v.2 (fun c d=>a (c,d)) (b 0)⟩
def zA (al:b5) (rec:an->BY (b5)) (ρ:Type):CK (IC ρ):=[kd al rec ρ]
def yj (al:b5) (rec:an->BY (b5)) (ρ:Type):CK (ö ρ):=[nw al rec ρ]
def ą (al:b5) (rec:an->BY (b5)) (ρ:Type):Env ρ:={Ø [(52,jA)] (yj al rec ρ) with ranges:=Ρ (zA al rec ρ),yld:=some ⟨ab,al⟩}
def rO:al5:=⟨168,aj,ah,nM⟩
def Ÿ:Tpl:=⟨27,.any::.box 1 0::.box 2 0::.box 3 0::aN 11 [.con ab],[.acc ah,.cells [.con aj],.cells [.yld],.cells [.con ab]]⟩
def i7 (al:a7) (rec:c9->BY (a7)) (ρ:Type):IC ρ:=⟨[],168,2,4,[ab,aj,ab],[ak],Ÿ,⟨168,aj,ah,rec⟩,fun(p:Val bn) (v:a7) y a=>nA al rec p.2.2 v y (fun b=>a b)⟩
def Ź:Tpl:=⟨27,[.any,.box 1 0,.box 2 0],[.acc ah,.cells [.con aj],.cells [.yld]]⟩
def i8 (al:a7) (rec:c9->BY (a7)) (ρ:Type):IC ρ:=⟨[],168,0,3,[aj],[ak],Ź,Po,fun(p:c9) (v:a7) y a=>nB al rec p v y (fun b=>a b)⟩
def vf (al:a7) (rec:c9->BY (a7)) (ρ:Type):CK (IC ρ):=[i7 al rec ρ,i8 al rec ρ]
def td (al:a7) (rec:c9->BY (a7)) (ρ:Type):CK (ö ρ):=[]
def ð (al:a7) (rec:c9->BY (a7)) (ρ:Type):Env ρ:={Ø [] (td al rec ρ) with ranges:=Ρ (vf al rec ρ),yld:=some ⟨ah,al⟩}
def Hy:al5:=⟨229,ab,tI,Bv⟩
def ě:Å:=Ls 2 [ab,tI,ab] [tI,ab] ⟨16,.yld::aN 4 [.con ab,.con tI,.var tI],[.acc tI,bt]⟩ [(.exit 0,⟨16,.yld::aN 4 [.con ab,.con tI],[.acc tI,bt]⟩,[ab])]
def π (al:an) (rec:an->BY (an)) (ρ:Type):ö ρ:=⟨[],229,0,ě,fun(p:Val bh) (v:ge) a b=>i9 al rec p.1 p.2.1 v.1 v.2 (fun c d=>a (c,d)) (b 0)⟩
def vA (al:an) (rec:an->BY (an)) (ρ:Type):CK (ö ρ):=[π al rec ρ]
def Ď (al:an) (rec:an->BY (an)) (ρ:Type):Env ρ:={Ø [] (vA al rec ρ) with yld:=some ⟨tI,al⟩}
def uU:ý:=⟨[Ç,tI,tI],[.bool],fun(x:ly)=>Ξ x.1 x.2.1 x.2.2⟩
def YV (ρ:Type):Env ρ:=Ø [] []
def lW:ý:=⟨[tI,tI,tI],[.bool],fun(x:ry)=>ġ x.1 x.2.1 x.2.2⟩
def YS (ρ:Type):Env ρ:=Ø [] []
def zd:ý:=⟨[tI],[.bool],fun(x:Int)=>mQ x⟩
def aaM (ρ:Type):Env ρ:=Ø [(163,lW)] []
def UD:ý:=⟨[tI],[(.int .u64)],fun(x:Int)=>uq x⟩
def aeC (ρ:Type):Env ρ:=Ø [] []
def aao:ý:=⟨[(.int .u64),(.int .u64)],[(.int .u64)],fun(x:nn)=>PO x.1 x.2⟩
def YN:Å:=Ls 0 [] [(.int .u64),(.int .u64)] ⟨12,[.var (.int .u64),.var (.int .u64)],[]⟩ [(.exit 0,⟨12,[.var (.int .u64)],[]⟩,[(.int .u64)])]
def Kq (ρ:Type):ö ρ:=⟨[],265,0,YN,fun(p:Unit) (v:nn) a b=>Bs v.1 v.2 (fun c d=>a (c,d)) (b 0)⟩
def YO (ρ:Type):Env ρ:=Ø [] [Kq ρ]
def FD:ý:=⟨[Ç],[.bool],fun(x:bx)=>wp x⟩
def aaK (ρ:Type):Env ρ:=Ø [(264,UD),(265,aao)] []
def M9:ý:=⟨[Ù],[.bool],fun(x:pi)=>xS x⟩
def Hl (ρ:Type):Env ρ:=Ø [(152,uU),(163,lW),(197,zd),(236,FD)] []
def ze:ý:=⟨[Ë],[tI],fun(x:b6)=>Β x⟩
def pE:Å:=Ls 0 [ae,tI,tI,tI,ae,aa,af,ac,aa] [tI] ⟨31,.any::.box 0 0::aN 4 [.con ae,.con tI,.var tI],[bu]⟩ [(.ret,⟨31,[.any,.box 0 0,.var tI,.any,.any,.any,.con ae,.con tI],[bu]⟩,[tI]),(.exit 0,⟨31,.any::.box 0 0::aN 4 [.con ae,.con tI],[bu]⟩,[])]
def pD (ρ:Type):ö ρ:=⟨[],153,0,pE,fun(p:Val (tyL pE.cs)) (v:Int) b a=>jC p.1 p.2.1 p.2.2.2.2.1 v (fun c=>b c) (a 0) (a 1)⟩
def vP (ρ:Type):Env ρ:=Ø [(195,M9)] [pD ρ]
def wK:ý:=⟨[Ë],[ar],fun(x:b6)=>Ň x⟩
def LA:Å:=Ls 0 [ae,tI] [tI,ar] ⟨20,aN 3 (.omp 0::aN 4 [.con ae,.con tI,.var tI]),[.mapv tI Ù]⟩ [(.exit 0,⟨20,aN 3 (.omp 0::aN 4 [.con ae,.con tI]),[.mapv tI Ù]⟩,[ar])]
def yw (ρ:Type):ö ρ:=⟨[],154,0,LA,fun(p:Val (.pair ae tI)) (v:Val (.pair tI ar)) a b=>oh p.1 p.2 v.1 v.2 (fun c d=>a (c,d)) (b 0)⟩
def G0 (ρ:Type):Env ρ:=Ø [] [yw ρ]
def nr:ý:=⟨[ab,tI],[tI],fun(x:nj)=>iN x.1 x.2⟩
def yB:Å:=Ls 0 [ab,tI,tI] [tI] ⟨19,.con ab::.con tI::aN 5 [.con tI,.var tI],[]⟩ [(.ret,⟨19,[.con ab,.con tI,.any,.any,.var tI,.any,.any,.con tI],[]⟩,[tI]),(.exit 0,⟨19,.con ab::.con tI::aN 5 [.con tI],[]⟩,[])]
def nf (ρ:Type):ö ρ:=⟨[],107,0,yB,fun(p:Val (.pair ab Ç)) (v:Int) b a=>ix p.1 p.2.1 p.2.2 v (fun c=>b c) (a 0) (a 1)⟩
def rz (ρ:Type):Env ρ:=Ø [] [nf ρ]
def ũ:ý:=⟨[ab,tI],[.bool],fun(x:nj)=>è x.1 x.2⟩
def yC (ρ:Type):Env ρ:=Ø [(107,nr)] []
def UE:ý:=⟨[Ë,Ù],[ab],fun(x:Val (.pair Ë Ù))=>qr x.1 x.2⟩
def Vt:Å:=Ls 0 [ac,tI,tI,tI,ae,aa,af,ac,aa,tI,tI,tI,tI,tI,tI,tI,tI] [tI,ab] ⟨59,aN 2 (.box 0 0::.box 1 0::.any::.own 2::aN 8 [.con ac,.con tI,.var tI]),[bu,bv,.rowv tI]⟩ [(.exit 0,⟨59,aN 2 (.box 0 0::.box 1 0::.any::.own 2::aN 8 [.con ac,.con tI]),[bu,bv,.rowv tI]⟩,[ab])]
def Hn (ρ:Type):ö ρ:=⟨[],202,0,Vt,fun(p:Val (.pair ac aq)) (v:ge) a b=>xw p.1 p.2.1 p.2.2.2.2.2.2.2.2.2.1 v.1 v.2 (fun c d=>a (c,d)) (b 0)⟩
def Vs:Å:=Ls 0 [aa,tI,tI,tI,tI,tI,tI,tI,tI,tI] [tI,ab] ⟨59,aN 3 (.box 0 0::.any::.own 1::aN 32 [.con aa,.con tI,.var tI]),[bv,.rowv tI]⟩ [(.exit 2,⟨59,aN 3 (.box 0 0::.any::.own 1::aN 32 [.con aa,.con tI]),[bv,.rowv tI]⟩,[ab])]
def Hm (ρ:Type):ö ρ:=⟨[],202,2,Vs,fun(p:Val bj) (v:ge) a b=>xv p.1 p.2.1 p.2.2.1 v.1 v.2 (fun c d=>a (c,d)) (b 0)⟩
def Jv (ρ:Type):Env ρ:=Ø [(51,ũ)] [Hn ρ,Hm ρ]
def FG:ý:=⟨[Ë],[aa],fun(x:b6)=>se x⟩
def DL:Å:=Ls 0 [ae,tI,tI,ab,tI,tI,tI,ae,aa,af,ac,aa,tI,tI,tI,tI,tI,tI,tI,tI] [tI,aa] ⟨33,.any::.box 0 0::.any::.own 1::.any::.box 2 0::aN 3 (.con ae::.con tI::.con tI::aN 5 [.con ab,.con tI,.var tI]),[bu,.rowv Ç,bv]⟩ [(.exit 2,⟨33,.any::.box 0 0::.any::.own 1::.any::.box 2 0::aN 3 (.con ae::.con tI::.con tI::aN 5 [.con ab,.con tI]),[bu,.rowv Ç,bv]⟩,[aa])]
def DK (ρ:Type):ö ρ:=⟨[],156,2,DL,fun(p:Val (tyL DL.cs)) (v:nm) a b=>tX p.2.2.2.1 p.2.2.2.2.1 p.2.2.2.2.2.2.2.2.2.2.2.2.1 v.1 v.2 (fun c d=>a (c,d)) (b 0)⟩
def DN:Å:=Ls 0 [ae,tI,tI,tI,ae,aa,af,ac,aa] [tI,aa] ⟨33,.any::.box 0 0::.any::.own 1::aN 5 [.con ae,.con tI,.var tI],[bu,.rowv Ç]⟩ [(.exit 0,⟨33,.any::.box 0 0::.any::.own 1::aN 5 [.con ae,.con tI],[bu,.rowv Ç]⟩,[aa])]
def DM (ρ:Type):ö ρ:=⟨[],156,0,DN,fun(p:Val (tyL DN.cs)) (v:nm) a b=>let A:=p.2.2.2.2;tY p.1 p.2.1 p.2.2.1 p.2.2.2.1 A.1 A.2.1 A.2.2.1 A.2.2.2.1 A.2.2.2.2 v.1 v.2 (fun c d=>a (c,d)) (b 0)⟩
def EP (ρ:Type):Env ρ:=Ø [(202,UE)] [DK ρ,DM ρ]
def nX:ý:=⟨[ar,tI,tI],[tI],fun(x:Val (.pair ar Ç))=>jw x.1 x.2.1 x.2.2⟩
def LB (ρ:Type):Env ρ:=Ø [] []
def aaq:ý:=⟨[tI,tI,(.ptr ar)],[tI],fun(x:Val (.pair tI (.pair tI (.ptr ar))))=>ň x.1 x.2.1 x.2.2⟩
def Vq (ρ:Type):Env ρ:=Ø [(197,zd),(198,nX)] []
def UF:ý:=⟨[Ë,ar,tI],[tI],fun(x:Val bq)=>ι x.1 x.2.1 x.2.2⟩
def Hr:Å:=Ls 2 [af,tI,tI,tI,ae,aa,af,ac,aa,tI,tI,tI,tI] [tI] ⟨19,.con af::.fn 237 [(1,0)]::aN 5 [.con tI,.var tI],ci⟩ [(.ret,⟨19,[.con af,.fn 237 [(1,0)],.any,.any,.var tI,.any,.any,.con tI],ci⟩,[tI]),(.exit 0,⟨19,.con af::.fn 237 [(1,0)]::aN 5 [.con tI],ci⟩,[])]
def t7 (ρ:Type):ö ρ:=⟨[9,5,1,2],244,0,Hr,fun(p:Val (.pair af aH)) (v:Int) b a=>let A:=p.2.2.2.2.2.2.2.2.2;lM p.1 p.2.1 A.1 A.2.1 A.2.2.1 v (fun c=>b c) (a 0) (a 1)⟩
def Ho:Å:=Ls 2 [aa,tI,tI,tI,ae,aa,af,ac,aa,tI,tI,tI,tI] [tI] ⟨19,.con aa::.fn 238 [(1,0)]::aN 5 [.con tI,.var tI],ci⟩ [(.ret,⟨19,[.con aa,.fn 238 [(1,0)],.any,.any,.var tI,.any,.any,.con tI],ci⟩,[tI]),(.exit 0,⟨19,.con aa::.fn 238 [(1,0)]::aN 5 [.con tI],ci⟩,[])]
def tZ (ρ:Type):ö ρ:=⟨[9,10,1,2],266,0,Ho,fun(p:Val (.pair aa aH)) (v:Int) b a=>let A:=p.2.2.2.2.2.2.2.2.2;Ν p.1 p.2.1 A.1 A.2.1 A.2.2.1 v (fun c=>b c) (a 0) (a 1)⟩
def mM (ρ:Type):Env ρ:=Ø [(152,uU),(163,lW),(198,nX)] [t7 ρ,tZ ρ]
def I0:ý:=⟨[ab],[.bool],fun(x:an)=>nQ x⟩
def Pd:Å:=Ls 0 [ab,ab,tI] [tI] ⟨32,.con ab::aN 4 [.con ab,.con tI,.var tI],[]⟩ [(.ret,⟨32,[.con ab,.any,.var .bool,.any,.any,.con ab,.con tI],[]⟩,[.bool]),(.exit 0,⟨32,.con ab::aN 4 [.con ab,.con tI],[]⟩,[])]
def AD (ρ:Type):ö ρ:=⟨[],105,0,Pd,fun(p:Val (.pair ab aE)) (v:Int) b a=>qg p.1 p.2.1 p.2.2 v (fun c=>b c) (a 0) (a 1)⟩
def Ku (ρ:Type):Env ρ:=Ø [(163,lW)] [AD ρ]
def FH:ý:=⟨[ab,ab],[ab],fun(x:l7)=>θ x.1 x.2⟩
def Hk:Å:=Ls 2 [tI,ab,ab] [tI] ⟨19,.own 1::.fn 166 [(0,0)]::aN 5 [.con tI,.var tI],[bt,.rowc tI]⟩ [(.ret,⟨19,[.own 1,.fn 166 [(0,0)],.any,.any,.var tI,.any,.any,.con tI],[bt,.rowc tI]⟩,[tI]),(.exit 0,⟨19,.own 1::.fn 166 [(0,0)]::aN 5 [.con tI],[bt,.rowc tI]⟩,[])]
def Hj (ρ:Type):ö ρ:=⟨[1,3,1,2],205,0,Hk,fun(p:Val (tyL Hk.cs)) (v:Int) b a=>xu p.1 p.2.1 p.2.2 v (fun c=>b c) (a 0) (a 1)⟩
def Vr:Å:=Ls 2 [ab] [tI,tI,ab] ⟨42,[.own 1,.fn 166 [(0,0)],.any,.any,.any,.var tI,.var tI],[bt,.rowv tI]⟩ [(.exit 0,⟨42,[.own 1,.fn 166 [(0,0)],.any,.any,.any,.var tI],[bt,.rowv tI]⟩,[tI,ab])]
def Hg (ρ:Type):ö ρ:=⟨[1,3],164,0,Vr,fun(p:an) (v:Val bc) a b=>lS p v.1 v.2.1 v.2.2 (fun c d e=>a (c,d,e)) (b 0)⟩
def Ju (ρ:Type):Env ρ:=Ø [(51,ũ)] [Hj ρ,Hg ρ]
def UG:ý:=⟨[Ë,tI,tI],[χ,.bool],fun(x:AS)=>xT x.1 x.2.1 x.2.2⟩
def Ht:Å:=Ls 4 [af,tI,tI,tI,ae,aa,af,ac,aa,tI,tI,tI,tI,tI,tI] [tI] ⟨19,.con af::.fn 245 [(1,0),(2,0)]::aN 5 [.con tI,.var tI],[bu,bz,bz,bw]⟩ [(.ret,⟨19,[.con af,.fn 245 [(1,0),(2,0)],.any,.any,.var tI,.any,.any,.con tI],[bu,bz,bz,bw]⟩,[tI]),(.exit 0,⟨19,.con af::.fn 245 [(1,0),(2,0)]::aN 5 [.con tI],[bu,bz,bz,bw]⟩,[])]
def Hs (ρ:Type):ö ρ:=⟨[1,3],244,0,Ht,fun(p:Val (tyL Ht.cs)) (v:Int) b a=>xy p.1 p.2.1 p.2.2.2.2.2.2.2.2.2.1 p.2.2.2.2.2.2.2.2.2.2.1 v (fun c=>b c) (a 0) (a 1)⟩
def Tw (ρ:Type):Env ρ:=Ø [(163,lW)] [Hs ρ]
def KK:ý:=⟨[Ë,ar,tI],[tI],fun(x:Val bq)=>Ŏ x.1 x.2.1 x.2.2⟩
def o8:Å:=Ls 2 [ac,tI,tI,tI,ae,aa,af,ac,aa,tI,tI,ab,ab,tI,tI,tI,tI] [tI] ⟨19,.con ac::.fn 241 [(1,0)]::aN 5 [.con tI,.var tI],[bu,bB]⟩ [(.ret,⟨19,[.con ac,.fn 241 [(1,0)],.any,.any,.var tI,.any,.any,.con tI],[bu,bB]⟩,[tI]),(.exit 0,⟨19,.con ac::.fn 241 [(1,0)]::aN 5 [.con tI],[bu,bB]⟩,[])]
def oZ (ρ:Type):ö ρ:=⟨[4,5,1,2],109,0,o8,fun(p:Val (tyL o8.cs)) (v:Int) b a=>jc p.1 p.2.1 p.2.2.2.2.2.2.2.2.2.1 v (fun c=>b c) (a 0) (a 1)⟩
def oW:Å:=Ls 0 [ar,ab,tI,tI,tI,ab,tI,tI,tI,ae,aa,af,ac,aa,tI,tI,ab,ab,tI,tI,tI,tI,ab] [tI] ⟨140,.any::.con ar::.any::.box 0 0::aN 3 (.box 1 0::.con ab::.any::.con tI::aN 65 [.own 2,.con tI,.con tI,.any,.any,.any,.con ab,.con tI,.var tI]),cj⟩ [(.ret,⟨140,.any::.con ar::.any::.box 0 0::aN 2 (.var tI::.box 1 0::.con ab::.any::.con tI::aN 65 [.own 2,.con tI,.con tI,.any,.any,.any,.con ab,.con tI]),cj⟩,[tI]),(.exit 2,⟨140,.any::.con ar::.any::.box 0 0::aN 3 (.box 1 0::.con ab::.any::.con tI::aN 65 [.own 2,.con tI,.con tI,.any,.any,.any,.con ab,.con tI]),cj⟩,[])]
def oV (ρ:Type):ö ρ:=⟨[],201,2,oW,fun(p:Val (tyL oW.cs)) (v:Int) b a=>let A:=p.2.2.2.2.2;jb p.1 p.2.2.1 A.1 A.2.1 A.2.2.2.2.2.2.2.2.2.2.1 v (fun c=>b c) (a 0) (a 1)⟩
def oY:Å:=Ls 0 [ar,ab,tI,tI,tI,ae,aa,af,ac,aa,tI,tI,ab,ab,tI,tI,tI,tI,ab] [tI] ⟨140,.any::.con ar::.any::.box 0 0::aN 3 (.box 1 0::.con ab::aN 67 [.own 2,.con tI,.var tI]),cj⟩ [(.ret,⟨140,.any::.con ar::.any::.box 0 0::aN 2 (.var tI::.box 1 0::.con ab::aN 67 [.own 2,.con tI]),cj⟩,[tI]),(.exit 0,⟨140,.any::.con ar::.any::.box 0 0::aN 3 (.box 1 0::.con ab::aN 67 [.own 2,.con tI]),cj⟩,[])]
def oX (ρ:Type):ö ρ:=⟨[],201,0,oY,fun(p:Val (tyL oY.cs)) (v:Int) b a=>ř p.1 p.2.1 p.2.2.1 p.2.2.2.2.2.2.2.2.2.2.2.1 p.2.2.2.2.2.2.2.2.2.2.2.2.2.2.2.2.2.2 v (fun c=>b c) (a 0) (a 1)⟩
def oU:Å:=Ls 0 [ab,tI,tI,tI,ae,aa,af,ac,aa,tI,tI,ab,ab,tI,tI,tI,tI] [tI] ⟨140,aN 3 (.box 0 0::aN 3 (.box 1 0::aN 90 [.con ab,.con tI,.var tI])),[bu,bB]⟩ [(.ret,⟨140,aN 3 (.box 0 0::aN 2 (.var tI::.box 1 0::aN 90 [.con ab,.con tI])),[bu,bB]⟩,[tI]),(.exit 4,⟨140,aN 3 (.box 0 0::aN 3 (.box 1 0::aN 90 [.con ab,.con tI])),[bu,bB]⟩,[])]
def oT (ρ:Type):ö ρ:=⟨[],201,4,oU,fun(p:Val (tyL oU.cs)) (v:Int) b a=>let A:=p.2.2.2.2;Ř p.1 p.2.1 p.2.2.1 p.2.2.2.1 A.1 A.2.1 A.2.2.1 A.2.2.2.1 A.2.2.2.2.1 A.2.2.2.2.2.2.1 v (fun c=>b c) (a 0) (a 1)⟩
def ť (ρ:Type):Env ρ:=Ø [(52,jA),(105,I0),(106,FH),(152,uU),(163,lW),(197,zd),(198,nX),(204,UG)] [oZ ρ,oV ρ,oX ρ,oT ρ]
def uW:ý:=⟨[Ë],[tI],fun(x:b6)=>κ x⟩
def Xj:ý:=⟨[ab],[aQ],fun(x:an)=>HN x⟩
def Sl:ý:=⟨[Â],[.bool],fun(x:a8)=>Bz x⟩
def zo:Å:=Ls 0 [tI,tI,ae,aa,af,ac,aa,aj,tI,tI,ae,aa,af,ac,aa] [tI] ⟨90,[.any,.box 0 0,.any,.box 1 0,.var tI],[bC,bu]⟩ [(.ret,⟨90,[.any,.box 0 0,.var .bool,.box 1 0],[bC,bu]⟩,[.bool]),(.exit 0,⟨90,[.any,.box 0 0,.any,.box 1 0],[bC,bu]⟩,[])]
def zn (ρ:Type):ö ρ:=⟨[],6,0,zo,fun(p:Val (tyL zo.cs)) (v:Int) b a=>pL p.2.2.2.2.2.2.2.2.2.2.2.2.2.1 v (fun c=>b c) (a 0) (a 1)⟩
def zm:Å:=Ls 0 [tI,tI,ae,aa,af,ac,aa,aj,tI,tI,ae,aa,af,ac,aa] [tI] ⟨90,[.any,.box 0 0,.any,.box 1 0,.any,.var tI],[bC,bu]⟩ [(.ret,⟨90,[.any,.box 0 0,.var .bool,.box 1 0],[bC,bu]⟩,[.bool]),(.exit 2,⟨90,[.any,.box 0 0,.any,.box 1 0],[bC,bu]⟩,[])]
def zl (ρ:Type):ö ρ:=⟨[],6,2,zm,fun(p:Val (tyL zm.cs)) (v:Int) b a=>mw p.2.2.2.2.2.2.2.1 v (fun c=>b c) (a 0) (a 1)⟩
def zp (ρ:Type):Env ρ:=Ø [] [zn ρ,zl ρ]
def XK:ý:=⟨[Ë,tI,ab],[tI],fun(x:Val (.pair Ë ĝ))=>Ic x.1 x.2.1 x.2.2⟩
def DQ:Å:=Ls 1 [ab,tI,tI,tI,ae,aa,af,ac,aa] [tI] ⟨19,.con ab::.fn 243 []::aN 5 [.con tI,.var tI],[bu]⟩ [(.ret,⟨19,[.con ab,.fn 243 [],.any,.any,.var tI,.any,.any,.con tI],[bu]⟩,[tI]),(.exit 0,⟨19,.con ab::.fn 243 []::aN 5 [.con tI],[bu]⟩,[])]
def DP (ρ:Type):ö ρ:=⟨[4,1,1,2],205,0,DQ,fun(p:Val (tyL DQ.cs)) (v:Int) b a=>t8 p.1 p.2.1 v (fun c=>b c) (a 0) (a 1)⟩
def Pg (ρ:Type):Env ρ:=Ø [(96,uW),(154,wK),(197,zd)] [DP ρ]
def acx:ý:=⟨[Ë,tI,tI],[.bool,tI],fun(x:AS)=>BQ x.1 x.2.1 x.2.2⟩
def aeF (ρ:Type):Env ρ:=Ø [(203,XK),(204,UG)] []
def Xl:ý:=⟨[Ë,aj,tI],[tI],fun(x:Val (.pair Ë (.pair aj tI)))=>HP x.1 x.2.1 x.2.2⟩
def CS:Å:=Ls 0 [aj,tI,tI,tI,ae,aa,af,ac,aa,tI,ab] [tI] ⟨104,[.any,.con aj,.con tI,.box 0 0,.any,.any,.any,.box 1 0,.var tI],cm⟩ [(.ret,⟨104,[.any,.con aj,.con tI,.box 0 0,.any,.any,.var tI,.box 1 0],cm⟩,[tI]),(.exit 0,⟨104,[.any,.con aj,.con tI,.box 0 0,.any,.any,.any,.box 1 0],cm⟩,[])]
def CQ (ρ:Type):ö ρ:=⟨[],97,0,CS,fun(p:Val (tyL CS.cs)) (v:Int) b a=>ox p.2.2.2.2.2.2.2.2.2.2 v (fun c=>b c) (a 0) (a 1)⟩
def CP:Å:=Ls 0 [aj,tI,ae,tI,tI,tI,ae,aa,af,ac,aa,tI,ab] [tI,bi] ⟨104,.any::.con aj::.con tI::.box 0 0::aN 3 (.box 1 0::.any::.box 2 0::aN 50 [.con ae,.con tI,.var tI]),[bu,bD,bE,.mapv tI tI]⟩ [(.exit 2,⟨104,.any::.con aj::.con tI::.box 0 0::aN 3 (.box 1 0::.any::.box 2 0::aN 50 [.con ae,.con tI]),[bu,bD,bE,.mapv tI tI]⟩,[bi])]
def CO (ρ:Type):ö ρ:=⟨[],97,2,CP,fun(p:Val (tyL CP.cs)) (v:Val (.pair tI bi)) a b=>ow p.2.2.1 p.2.2.2.1 v.1 v.2 (fun c d=>a (c,d)) (b 0)⟩
def QJ:Å:=Ls 4 [ab,tI,tI,tI,ae,aa,af,ac,aa,tI,ab,bi] [tI] ⟨19,.con ab::.fn 157 [(2,0)]::aN 5 [.con tI,.var tI],cn⟩ [(.ret,⟨19,[.con ab,.fn 157 [(2,0)],.any,.any,.var tI,.any,.any,.con tI],cn⟩,[tI]),(.exit 0,⟨19,.con ab::.fn 157 [(2,0)]::aN 5 [.con tI],cn⟩,[])]
def CN (ρ:Type):ö ρ:=⟨[18,3,1,2],205,0,QJ,fun(p:Val aK) (v:Int) b a=>ov p.1 p.2.1 p.2.2.2.2.2.2.2.2.2.2.2 v (fun c=>b c) (a 0) (a 1)⟩
def QI:Å:=Ls 4 [ab,tI,tI,tI,ae,aa,af,ac,aa,tI,ab,bi] [tI] ⟨19,.con ab::.fn 158 [(1,0),(2,0)]::aN 5 [.con tI,.var tI],cn⟩ [(.ret,⟨19,[.con ab,.fn 158 [(1,0),(2,0)],.any,.any,.var tI,.any,.any,.con tI],cn⟩,[tI]),(.exit 0,⟨19,.con ab::.fn 158 [(1,0),(2,0)]::aN 5 [.con tI],cn⟩,[])]
def CM (ρ:Type):ö ρ:=⟨[20,3,1,2],205,0,QI,fun(p:Val aK) (v:Int) b a=>l6 p.1 p.2.1 p.2.2.2.2.2.2.2.2.2.1 p.2.2.2.2.2.2.2.2.2.2.2 v (fun c=>b c) (a 0) (a 1)⟩
def QH:Å:=Ls 4 [ab,tI,tI,tI,ae,aa,af,ac,aa,tI,ab,bi] [tI] ⟨19,.con ab::.fn 159 [(0,0),(1,0)]::aN 5 [.con tI,.var tI],cn⟩ [(.ret,⟨19,[.con ab,.fn 159 [(0,0),(1,0)],.any,.any,.var tI,.any,.any,.con tI],cn⟩,[tI]),(.exit 0,⟨19,.con ab::.fn 159 [(0,0),(1,0)]::aN 5 [.con tI],cn⟩,[])]
def CL (ρ:Type):ö ρ:=⟨[24,3,1,2],205,0,QH,fun(p:Val aK) (v:Int) b a=>let A:=p.2.2.2.2;Ō p.1 p.2.1 p.2.2.1 p.2.2.2.1 A.1 A.2.1 A.2.2.1 A.2.2.2.1 A.2.2.2.2.1 A.2.2.2.2.2.1 v (fun c=>b c) (a 0) (a 1)⟩
def lR (ρ:Type):Env ρ:=Ø [(160,acx)] [CQ ρ,CO ρ,CN ρ,CM ρ,CL ρ]
def jj:ý:=⟨[Â],[tI],fun(x:a8)=>ζ x⟩
def QW:Å:=Ls 0 [aj,tI,tI,tI,tI,tI,ae,aa,af,ac,aa,aj] [tI,tI] ⟨50,.any::.box 0 0::aN 2 (.var tI::aN 15 (.con aj::.con tI::.con tI::aN 15 [.con tI,.var tI])),[bC]⟩ [(.exit 2,⟨50,.any::.box 0 0::aN 2 (.var tI::aN 15 (.con aj::.con tI::.con tI::aN 15 [.con tI])),[bC]⟩,[tI])]
def CU (ρ:Type):ö ρ:=⟨[],44,2,QW,fun(p:Val (.pair aj bo)) (v:bx) a b=>oy p.2.2.2.1 v.1 v.2 (fun c d=>a (c,d)) (b 0)⟩
def QX:Å:=Ls 0 [aj,tI,tI,tI,ae,aa,af,ac,aa,aj] [tI,tI] ⟨50,.any::.box 0 0::aN 2 (.var tI::aN 15 [.con aj,.con tI,.var tI]),[bC]⟩ [(.ret,⟨50,.any::.box 0 0::.var tI::aN 17 [.con aj,.con tI],[bC]⟩,[tI]),(.exit 0,⟨50,.any::.box 0 0::aN 2 (.var tI::aN 15 [.con aj,.con tI]),[bC]⟩,[tI])]
def CV (ρ:Type):ö ρ:=⟨[],44,0,QX,fun(p:Val (.pair aj aG)) (v:bx) b a=>let A:=p.2.2.2.2;tp p.1 p.2.1 p.2.2.1 p.2.2.2.1 A.1 A.2.1 A.2.2.1 A.2.2.2.1 A.2.2.2.2.1 A.2.2.2.2.2 v.1 v.2 (fun c d=>b (c,d)) (a 0) (a 1)⟩
def EB (ρ:Type):Env ρ:=Ø [(96,uW),(97,Xl)] [CU ρ,CV ρ]
def zc:ý:=⟨[tI],[.bool],fun(x:Int)=>mP x⟩
def Jr (ρ:Type):Env ρ:=Ø [] []
def nt:ý:=⟨[tI,tI],[tI],fun(x:bx)=>iP x.1 x.2⟩
def EO (ρ:Type):Env ρ:=Ø [(171,zc)] []
def Sn:ý:=⟨[Â,ah],[tI],fun(x:v8)=>Ĺ x.1 x.2⟩
def zu:Å:=Ls 0 [tI,ah,tI,tI,ab,tI,tI,tI,ae,aa,af,ac,aa,aj] [tI,tI] ⟨40,aN 2 (.box 0 0::aN 2 (.var tI::.con tI::aN 3 (.con ah::.con tI::.con tI::aN 4 [.con ab,.con tI,.var tI]))),[bC]⟩ [(.exit 2,⟨40,aN 2 (.box 0 0::aN 2 (.var tI::.con tI::aN 3 (.con ah::.con tI::.con tI::aN 4 [.con ab,.con tI]))),[bC]⟩,[tI])]
def zr (ρ:Type):ö ρ:=⟨[],115,2,zu,fun(p:Val (tyL zu.cs)) (v:bx) a b=>let A:=p.2.2.2.2;pM p.1 A.1 A.2.1 A.2.2.2.2.2.2.2.2.2 v.1 v.2 (fun c d=>a (c,d)) (b 0)⟩
def Nr:Å:=Ls 0 [ah,tI,tI,tI,ae,aa,af,ac,aa,aj] [tI,tI] ⟨40,aN 2 (.box 0 0::aN 2 (.var tI::aN 4 [.con ah,.con tI,.var tI])),[bC]⟩ [(.exit 0,⟨40,aN 2 (.box 0 0::aN 2 (.var tI::aN 4 [.con ah,.con tI])),[bC]⟩,[tI])]
def zw (ρ:Type):ö ρ:=⟨[],115,0,Nr,fun(p:rn) (v:bx) a b=>pN p.1 p.2.1 p.2.2.2.2.2.2.2.2.2 v.1 v.2 (fun c d=>a (c,d)) (b 0)⟩
def zx (ρ:Type):Env ρ:=Ø [] [zr ρ,zw ρ]
def IX:ý:=⟨[ah,ah,ay],[tI],fun(x:Val (.pair ah (.pair ah ay)))=>ks x.1 x.2.1 x.2.2⟩
def X8 (ρ:Type):Env ρ:=Ø [(114,nt),(115,Sn)] []
def Ć:afH:=⟨ah,[tI,tI],113,Â,fun(xs:a7) (x:bx) (m:a8)=>ì xs x.1 x.2 m⟩
def mC:Å:=Ls 2 [tI,tI,tI,tI,tI,ae,aa,af,ac,aa,aj] [tI,ak] ⟨53,.own 0::.con tI::.con tI::.fn 113 [(1,0)]::aN 4 [.con tI,.var tI],cp⟩ [(.exit 2,⟨53,.own 0::.con tI::.con tI::.fn 113 [(1,0)]::aN 4 [.con tI],cp⟩,[ak])]
def Τ (ρ:Type):ö ρ:=⟨[],207,2,mC,fun(p:Val bo) (v:io) a b=>let A:=p.2.2.2.2;let B:=A.2.2.2.2;í p.1 p.2.2.2.1 A.1 A.2.1 A.2.2.1 A.2.2.2.1 B.1 B.2.1 B.2.2 v.1 v.2 (fun c d=>a (c,d)) (b 0)⟩
def mD:Å:=Ls 2 [tI,tI,tI,tI,ae,aa,af,ac,aa,aj] [tI,ak] ⟨53,.own 0::.con tI::.con tI::.fn 113 [(1,0)]::aN 4 [.var tI],cp⟩ [(.exit 0,⟨53,[.own 0,.con tI,.con tI,.fn 113 [(1,0)]],cp⟩,[ak])]
def Υ (ρ:Type):ö ρ:=⟨[],207,0,mD,fun(p:Val (.pair tI aG)) (v:io) a b=>let A:=p.2.2.2.2;Đ p.1 p.2.1 p.2.2.1 p.2.2.2.1 A.1 A.2.1 A.2.2.1 A.2.2.2.1 A.2.2.2.2.1 A.2.2.2.2.2 v.1 v.2 (fun c d=>a (c,d)) (b 0)⟩
def ü (ρ:Type):Env ρ:={Ø [(113,IX)] [Τ ρ,Υ ρ] with hint:=VH [(22,113)]}
def Ķ:afH:=⟨ah,[tI,tI,tI],113,Â,fun(xs:a7) (x:ry) (m:a8)=>Ļ xs x.1 x.2.1 x.2.2 m⟩
def su:Å:=Ls 2 [tI,tI,tI,tI,tI,ae,aa,af,ac,aa,aj] [tI,ak] ⟨38,.own 0::.con tI::.con tI::.con tI::aN 6 [.var tI],cp⟩ [(.exit 0,⟨38,[.own 0,.con tI,.con tI,.con tI],cp⟩,[ak])]
def kF (ρ:Type):ö ρ:=⟨[4,7],267,0,su,fun(p:Val bo) (v:io) a b=>ď p.1 p.2.1 p.2.2.1 v.1 v.2 (fun c d=>a (c,d)) (b 0)⟩
def sr:Å:=Ls 2 [tI,tI,tI,tI,tI,ae,aa,af,ac,aa,aj] [tI,ak] ⟨38,.own 0::.con tI::.con tI::.con tI::aN 6 [.var tI],cp⟩ [(.exit 0,⟨38,[.own 0,.con tI,.con tI,.con tI],cp⟩,[ak])]
def kE (ρ:Type):ö ρ:=⟨[6,11],267,0,sr,fun(p:Val bo) (v:io) a b=>iK p.1 p.2.1 p.2.2.1 v.1 v.2 (fun c d=>a (c,d)) (b 0)⟩
def sv:Å:=Ls 2 [tI,tI,tI,ae,aa,af,ac,aa,aj] [tI,tI,ak] ⟨58,.own 0::.any::.con tI::.any::.fn 113 [(1,0)]::aN 5 [.var tI,.var tI],cp⟩ [(.exit 0,⟨58,.own 0::.any::.con tI::.any::.fn 113 [(1,0)]::aN 5 [.var tI],cp⟩,[tI,ak])]
def kG (ρ:Type):ö ρ:=⟨[],246,0,sv,fun(p:Val aG) (v:y5) a b=>ķ p.1 v.1 v.2.1 v.2.2 (fun c d e=>a (c,d,e)) (b 0)⟩
def sq:Å:=Ls 2 [tI,tI,tI,tI,tI,ae,aa,af,ac,aa,aj] [tI,ak] ⟨38,.own 0::.con tI::.con tI::.con tI::aN 6 [.var tI],cp⟩ [(.exit 0,⟨38,[.own 0,.con tI,.con tI,.con tI],cp⟩,[ak])]
def kD (ρ:Type):ö ρ:=⟨[8,7],267,0,sq,fun(p:Val bo) (v:io) a b=>iJ p.1 p.2.1 p.2.2.1 v.1 v.2 (fun c d=>a (c,d)) (b 0)⟩
def Ă (ρ:Type):Env ρ:=Ø [] [kF ρ,kE ρ,kG ρ,kD ρ]
def mo:afH:=⟨ah,[tI,tI,tI],113,Â,fun(xs:a7) (x:ry) (m:a8)=>Ę xs x.1 x.2.1 x.2.2 m⟩
def ċ:Å:=Ls 2 [tI,ak,tI,tI,ae,aa,af,ac,aa,aj] [tI,tI] ⟨220,.own 0::.con tI::aN 2 (.fn 113 [(1,0)]::aN 5 [.var tI,.var tI]),cq⟩ [(.exit 0,⟨220,.own 0::.con tI::aN 2 (.fn 113 [(1,0)]::aN 5 [.var tI]),cq⟩,[tI])]
def Ű (rec:a7->Int->Int->Int->a8->BY (a7×a8)) (ρ:Type):ö ρ:=⟨[],208,0,ċ,fun(p:wk) (v:bx) a b=>ÿ rec p.1 p.2.1 p.2.2.1 p.2.2.2.1 p.2.2.2.2.1 p.2.2.2.2.2.1 p.2.2.2.2.2.2.1 p.2.2.2.2.2.2.2.1 p.2.2.2.2.2.2.2.2.1 p.2.2.2.2.2.2.2.2.2 v.1 v.2 (fun c d=>a (c,d)) (b 0)⟩
def Ċ:Å:=Ls 2 [tI,tI,tI,ae,aa,af,ac,aa,aj] [tI,ak] ⟨220,.own 0::aN 9 [.con tI,.any,.any,.var tI],cp⟩ [(.exit 2,⟨220,.own 0::aN 9 [.con tI],cp⟩,[ak])]
def ů (rec:a7->Int->Int->Int->a8->BY (a7×a8)) (ρ:Type):ö ρ:=⟨[],208,2,Ċ,fun(p:Val aG) (v:io) a b=>ô rec p.1 v.1 v.2 (fun c d=>a (c,d)) (b 0)⟩
def ĉ:Å:=Ls 2 [tI,ak,tI,tI,ae,aa,af,ac,aa,aj] [tI,tI] ⟨220,.own 0::.any::.con tI::.any::.fn 113 [(1,0)]::aN 9 [.var tI,.var tI],cq⟩ [(.exit 4,⟨220,.own 0::.any::.con tI::.any::.fn 113 [(1,0)]::aN 9 [.var tI],cq⟩,[tI])]
def Ů (rec:a7->Int->Int->Int->a8->BY (a7×a8)) (ρ:Type):ö ρ:=⟨[],208,4,ĉ,fun(p:wk) (v:bx) a b=>þ rec p.1 p.2.1 p.2.2.1 p.2.2.2.1 p.2.2.2.2.1 p.2.2.2.2.2.1 p.2.2.2.2.2.2.1 p.2.2.2.2.2.2.2.1 p.2.2.2.2.2.2.2.2.1 p.2.2.2.2.2.2.2.2.2 v.1 v.2 (fun c d=>a (c,d)) (b 0)⟩
def Ĉ:Å:=Ls 2 [tI,tI,tI,ae,aa,af,ac,aa,aj] [tI,ak] ⟨220,.own 0::aN 13 [.con tI,.any,.any,.var tI],cp⟩ [(.exit 6,⟨220,.own 0::aN 13 [.con tI],cp⟩,[ak])]
def ŭ (rec:a7->Int->Int->Int->a8->BY (a7×a8)) (ρ:Type):ö ρ:=⟨[],208,6,Ĉ,fun(p:Val aG) (v:io) a b=>ó rec p.1 v.1 v.2 (fun c d=>a (c,d)) (b 0)⟩
def ć:Å:=Ls 2 [tI,tI,tI,tI,tI,tI,ak,tI,tI,ae,aa,af,ac,aa,aj] [tI,tI] ⟨220,.own 0::.con tI::.con tI::.con tI::.fn 113 [(1,0)]::aN 13 [.con tI,.con tI,.var tI,.var tI,.con tI],cq⟩ [(.exit 8,⟨220,.own 0::.con tI::.con tI::.con tI::.fn 113 [(1,0)]::aN 13 [.con tI,.con tI,.var tI,.any,.con tI],cq⟩,[tI])]
def Ŭ (rec:a7->Int->Int->Int->a8->BY (a7×a8)) (ρ:Type):ö ρ:=⟨[],208,8,ć,fun(p:Val aW) (v:bx) a b=>å rec p.2.2.2.2.2.1 p.2.2.2.2.2.2.1 p.2.2.2.2.2.2.2.1 p.2.2.2.2.2.2.2.2.1 p.2.2.2.2.2.2.2.2.2.1 p.2.2.2.2.2.2.2.2.2.2.1 p.2.2.2.2.2.2.2.2.2.2.2.1 p.2.2.2.2.2.2.2.2.2.2.2.2.1 p.2.2.2.2.2.2.2.2.2.2.2.2.2.1 p.2.2.2.2.2.2.2.2.2.2.2.2.2.2 v.1 v.2 (fun c d=>a (c,d)) (b 0)⟩
def sk (rec:a7->Int->Int->Int->a8->BY (a7×a8)):CK (Nat×ý):=[(113,IX)]
def sj (rec:a7->Int->Int->Int->a8->BY (a7×a8)):CK (Nat×adR):=[(208,.row ⟨ah,[tI,tI,tI],113,Â,fun(xs:a7) (x:ry) (m:a8)=>rec xs x.1 x.2.1 x.2.2 m⟩),(246,.row Ķ)]
def jH (rec:a7->Int->Int->Int->a8->BY (a7×a8)) (ρ:Type):CK (ö ρ):=[Ű rec ρ,ů rec ρ,Ů rec ρ,ŭ rec ρ,Ŭ rec ρ]
def É (rec:a7->Int->Int->Int->a8->BY (a7×a8)) (ρ:Type):Env ρ:={acC (sk rec) (jH rec ρ) (sj rec) with hint:=VH [(40,113),(92,113),(158,113)]}
def ģ:afH:=⟨ah,[tI],113,Â,fun(xs:a7) (x:Int) (m:a8)=>ĺ xs x m⟩
def sn:Å:=Ls 2 [tI,tI] [tI,tI,ak,tI,tI,ae,aa,af,ac,aa,aj] ⟨63,[.own 0,.con tI,.fn 113 [(1,0)],.any,.any,.any,.con tI,.var tI,.var tI],cr⟩ [(.exit 0,⟨63,[.own 0,.con tI,.fn 113 [(1,0)],.any,.any,.any,.con tI,.var tI],cr⟩,[tI,ak,tI,tI,ae,aa,af,ac,aa,aj])]
def kB (ρ:Type):ö ρ:=⟨[],170,0,sn,fun(p:bx) (v:rx) a b=>iI p.1 p.2 v.1 v.2.1 v.2.2.1 v.2.2.2.1 v.2.2.2.2.1 v.2.2.2.2.2.1 v.2.2.2.2.2.2.1 v.2.2.2.2.2.2.2.1 v.2.2.2.2.2.2.2.2.1 v.2.2.2.2.2.2.2.2.2.1 v.2.2.2.2.2.2.2.2.2.2 (fun c d e f g h i j k l m=>a (c,d,e,f,g,h,i,j,k,l,m)) (b 0)⟩
def sl:Å:=Ls 2 [tI,tI] [tI,tI,ak,tI,tI,ae,aa,af,ac,aa,aj] ⟨63,[.own 0,.con tI,.fn 113 [(1,0)],.any,.any,.any,.con tI,.var tI,.var tI],cr⟩ [(.exit 4,⟨63,[.own 0,.con tI,.fn 113 [(1,0)],.any,.any,.any,.con tI,.var tI],cr⟩,[tI,ak,tI,tI,ae,aa,af,ac,aa,aj])]
def ky (ρ:Type):ö ρ:=⟨[],170,4,sl,fun(p:bx) (v:rx) a b=>iG p.1 p.2 v.1 v.2.1 v.2.2.1 v.2.2.2.1 v.2.2.2.2.1 v.2.2.2.2.2.1 v.2.2.2.2.2.2.1 v.2.2.2.2.2.2.2.1 v.2.2.2.2.2.2.2.2.1 v.2.2.2.2.2.2.2.2.2.1 v.2.2.2.2.2.2.2.2.2.2 (fun c d e f g h i j k l m=>a (c,d,e,f,g,h,i,j,k,l,m)) (b 0)⟩
def sm:Å:=Ls 2 [tI] [tI,ak,tI,tI,ae,aa,af,ac,aa,aj] ⟨63,[.own 0,.con tI,.fn 113 [(1,0)],.any,.any,.any,.var tI],cr⟩ [(.exit 2,⟨63,[.own 0,.con tI,.fn 113 [(1,0)]],cr⟩,[ak,tI,tI,ae,aa,af,ac,aa,aj])]
def kz (ρ:Type):ö ρ:=⟨[],170,2,sm,fun(p:Int) (v:wk) a b=>iH p v.1 v.2.1 v.2.2.1 v.2.2.2.1 v.2.2.2.2.1 v.2.2.2.2.2.1 v.2.2.2.2.2.2.1 v.2.2.2.2.2.2.2.1 v.2.2.2.2.2.2.2.2.1 v.2.2.2.2.2.2.2.2.2 (fun c d e f g h i j k l=>a (c,d,e,f,g,h,i,j,k,l)) (b 0)⟩
def vz:CK (Nat×adR):=[(207,.row Ć),(208,.row mo)]
def ė (ρ:Type):Env ρ:=acC [] [kB ρ,ky ρ,kz ρ] vz
def Bj:ý:=⟨[Â],[ak],fun(x:a8)=>uj x⟩
def my:Tpl:=⟨13,[.any,.any,.box 2 0],[.cells [.con tI,.con tI,.con ae,.con aa,.con af,.con ac,.con aa,.con aj],.dead,.cells [.own 3],.rowv ah]⟩
def pO (ρ:Type):IC ρ:=⟨[1,3,1,1],167,0,3,[tI,tI,ae,aa,af,ac,aa,aj],[ak],my,rO,fun(p:u5) (v:a7) y a=>Em v y (fun b=>a b)⟩
def Ns (ρ:Type):CK (IC ρ):=[pO ρ]
def aaw:CK (Nat×adR):=[(170,.row ģ)]
def ka (ρ:Type):Env ρ:={acC [] [] aaw with ranges:=Ρ (Ns ρ)}
def IW:ý:=⟨[Â,ah,tI,tI],[tI],fun(x:r8)=>rW x.1 x.2.1 x.2.2.1 x.2.2.2⟩
def X5:Å:=Ls 0 [ah,tI,tI,tI,ae,aa,af,ac,aa,aj] [tI,tI] ⟨47,.any::.con ah::.var tI::.con tI::.box 0 0::aN 4 [.var tI],[bC]⟩ [(.exit 0,⟨47,[.any,.con ah,.var tI,.con tI,.box 0 0],[bC]⟩,[tI])]
def Kg (ρ:Type):ö ρ:=⟨[],69,0,X5,fun(p:rn) (v:bx) a b=>Bm p.1 p.2.1 p.2.2.2.2.2.2.2.2.2 v.1 v.2 (fun c d=>a (c,d)) (b 0)⟩
def X6 (ρ:Type):Env ρ:=Ø [(107,nr)] [Kg ρ]
def za:ý:=⟨[ab,tI,ay,aL],[ab],fun(x:Val (.pair ab (.pair tI (.pair ay aL))))=>jT x.1 x.2.1 x.2.2.1 x.2.2.2⟩
def pB:Å:=Ls 0 [tI,ay,aL,ab,tI] [tI,ab] ⟨28,[.any,.con tI,.con ay,.con aL,.any,.any,.any,.own 0,.any,.any,.con ab,.con tI,.var tI],cg⟩ [(.exit 0,⟨28,[.any,.con tI,.con ay,.con aL,.any,.any,.any,.own 0,.any,.any,.con ab,.con tI],cg⟩,[ab])]
def pA (ρ:Type):ö ρ:=⟨[],132,0,pB,fun(p:Val (tyL pB.cs)) (v:ge) a b=>jB p.1 p.2.1 p.2.2.1 p.2.2.2.1 p.2.2.2.2 v.1 v.2 (fun c d=>a (c,d)) (b 0)⟩
def vd (ρ:Type):Env ρ:=Ø [(69,IW)] [pA ρ]
def mn:ý:=⟨[Â,ah],[Ë],fun(x:v8)=>jf x.1 x.2⟩
def s8:Å:=Ls 0 [ay,aL,ay,aL,aa,tI,tI,tI,tI,tI,ae,aa,af,ac,aa,tI,tI,ae] [tI,aa] ⟨123,aN 2 (.con ay::.con aL::.box 0 0::.box 1 0::.box 2 0::.fnd 132 [Â,ah]::aN 18 [.con aa,.con tI,.var tI]),[bH,bu,bI,.rowc Ù,.rowv Ç]⟩ [(.exit 0,⟨123,aN 2 (.con ay::.con aL::.box 0 0::.box 1 0::.box 2 0::.fnd 132 [Â,ah]::aN 18 [.con aa,.con tI]),[bH,bu,bI,.rowc Ù,.rowv Ç]⟩,[aa])]
def s7 (ρ:Type):ö ρ:=⟨[],71,0,s8,fun(p:Val (tyL s8.cs)) (v:nm) a b=>lG p.1 p.2.1 p.2.2.2.2.1 p.2.2.2.2.2.1 v.1 v.2 (fun c d=>a (c,d)) (b 0)⟩
def sZ:Å:=Ls 0 [ay,aL,ay,aL,af,tI,tI,tI,tI,tI,ae,aa,af,ac,aa,tI,tI,ae,aa] [tI,af] ⟨123,aN 2 (.con ay::.con aL::.box 0 0::.box 1 0::.box 2 0::.fnd 132 [Â,ah]::aN 41 [.con af,.con tI,.var tI]),cu⟩ [(.exit 2,⟨123,aN 2 (.con ay::.con aL::.box 0 0::.box 1 0::.box 2 0::.fnd 132 [Â,ah]::aN 41 [.con af,.con tI]),cu⟩,[af])]
def sY (ρ:Type):ö ρ:=⟨[],71,2,sZ,fun(p:Val (tyL sZ.cs)) (v:y6) a b=>lF p.1 p.2.1 p.2.2.2.2.1 p.2.2.2.2.2.1 v.1 v.2 (fun c d=>a (c,d)) (b 0)⟩
def sX:Å:=Ls 0 [ay,aL,ay,aL,ac,tI,tI,tI,tI,tI,ae,aa,af,ac,aa,tI,tI,ae,aa,af] [tI,ac] ⟨123,aN 2 (.con ay::.con aL::.box 0 0::.box 1 0::.box 2 0::.fnd 132 [Â,ah]::aN 64 [.con ac,.con tI,.var tI]),cw⟩ [(.exit 4,⟨123,aN 2 (.con ay::.con aL::.box 0 0::.box 1 0::.box 2 0::.fnd 132 [Â,ah]::aN 64 [.con ac,.con tI]),cw⟩,[ac])]
def sW (ρ:Type):ö ρ:=⟨[],71,4,sX,fun(p:Val (tyL sX.cs)) (v:Val aZ) a b=>lE p.2.2.1 p.2.2.2.1 p.2.2.2.2.1 p.2.2.2.2.2.1 v.1 v.2 (fun c d=>a (c,d)) (b 0)⟩
def sS:Å:=Ls 0 [ay,aL,aa,tI,tI,tI,tI,tI,ae,aa,af,ac] [tI,aa] ⟨123,aN 2 (.con ay::.con aL::.box 0 0::.any::.box 1 0::aN 93 [.con aa,.con tI,.var tI]),cz⟩ [(.exit 6,⟨123,aN 2 (.con ay::.con aL::.box 0 0::.any::.box 1 0::aN 93 [.con aa,.con tI]),cz⟩,[aa])]
def sR (ρ:Type):ö ρ:=⟨[],71,6,sS,fun(p:Val (tyL sS.cs)) (v:nm) a b=>lD p.1 p.2.1 p.2.2.1 p.2.2.2.1 v.1 v.2 (fun c d=>a (c,d)) (b 0)⟩
def ŷ (ρ:Type):Env ρ:={Ø [(69,IW),(132,za)] [s7 ρ,sY ρ,sW ρ,sR ρ] with hint:=VH [(78,132),(84,132)]}
def ŵ:ý:=⟨[aa,Ç],[tI],fun(x:Val (.pair aa Ç))=>û x.1 x.2⟩
def m8:Å:=Ls 0 [aa,tI,tI,tI] [tI] ⟨19,[.con aa,.any,.any,.box 0 0,.any,.any,.any,.con tI,.var tI],[bM]⟩ [(.ret,⟨19,[.con aa,.any,.any,.box 0 0,.var tI,.any,.any,.con tI],[bM]⟩,[tI]),(.exit 0,⟨19,[.con aa,.any,.any,.box 0 0,.any,.any,.any,.con tI],[bM]⟩,[])]
def ψ (ρ:Type):ö ρ:=⟨[],174,0,m8,fun(p:Val (.pair aa ę)) (v:Int) b a=>ĩ p.1 p.2.1 p.2.2.1 p.2.2.2 v (fun c=>b c) (a 0) (a 1)⟩
def jk (ρ:Type):Env ρ:=Ø [] [ψ ρ]
def Kd:ý:=⟨[(.ptr D2),ab,tI],[tI],fun(x:Val (.pair (.ptr D2) aE))=>md x.1 x.2.1 x.2.2⟩
def Rx (ρ:Type):Env ρ:=Ø [(174,ŵ)] []
def acv:ý:=⟨[Ë,Ù,tI,tI],[tI],fun(x:Val (.pair Ë (.pair Ù Ç)))=>BP x.1 x.2.1 x.2.2.1 x.2.2.2⟩
def Hf:Å:=Ls 0 [tI,tI,af,tI,tI,tI,ae,aa,af,ac,aa,tI,tI,tI,tI,tI,tI,tI,tI] [tI,tI] ⟨88,aN 2 (.con tI::.con tI::.box 0 0::.box 1 0::aN 3 (.var tI::aN 7 [.con af,.con tI,.var tI])),[bu,bv]⟩ [(.exit 0,⟨88,aN 2 (.con tI::.con tI::.box 0 0::.box 1 0::aN 3 (.var tI::aN 7 [.con af,.con tI])),[bu,bv]⟩,[tI])]
def He (ρ:Type):ö ρ:=⟨[],226,0,Hf,fun(p:Val (tyL Hf.cs)) (v:bx) a b=>xr p.1 p.2.1 p.2.2.1 p.2.2.2.1 p.2.2.2.2.2.2.2.2.2.2.2.1 v.1 v.2 (fun c d=>a (c,d)) (b 0)⟩
def Hd:Å:=Ls 0 [tI,tI,tI,aa,tI,tI,tI,tI,tI,tI,tI,tI,tI] [tI,ab] ⟨88,aN 2 (.con tI::.con tI::.any::.box 0 0::aN 3 (.con tI::aN 3 (.own 1::aN 39 [.con aa,.con tI,.var tI]))),[bv,.rowv tI]⟩ [(.exit 2,⟨88,aN 2 (.con tI::.con tI::.any::.box 0 0::aN 3 (.con tI::aN 3 (.own 1::aN 39 [.con aa,.con tI]))),[bv,.rowv tI]⟩,[ab])]
def Hc (ρ:Type):ö ρ:=⟨[],226,2,Hd,fun(p:Val (tyL Hd.cs)) (v:ge) a b=>xq p.1 p.2.1 p.2.2.2.1 p.2.2.2.2.1 p.2.2.2.2.2.1 v.1 v.2 (fun c d=>a (c,d)) (b 0)⟩
def Jt (ρ:Type):Env ρ:=Ø [(163,lW)] [He ρ,Hc ρ]
def yh:ý:=⟨[ar,ab],[Ç],fun(x:Val (.pair ar ab))=>jn x.1 x.2⟩
def G3 (ρ:Type):Env ρ:=Ø [] []
def uT:ý:=⟨[aa],[tI],fun(x:bl)=>lr x⟩
def Rw:Å:=Ls 0 [aa,tI] [tI] ⟨15,aN 5 [.con aa,.con tI,.var tI],[]⟩ [(.ret,⟨15,[.any,.any,.var tI,.any,.any,.con aa,.con tI],[]⟩,[tI]),(.exit 0,⟨15,aN 5 [.con aa,.con tI],[]⟩,[])]
def DH (ρ:Type):ö ρ:=⟨[],272,0,Rw,fun(p:Val (.pair aa tI)) (v:Int) b a=>tW p.1 p.2 v (fun c=>b c) (a 0) (a 1)⟩
def O3 (ρ:Type):Env ρ:=Ø [(236,FD)] [DH ρ]
def Ed:ý:=⟨[tI,tI],[Ç,tI],fun(x:bx)=>sd x.1 x.2⟩
def Vn (ρ:Type):Env ρ:=Ø [(264,UD),(265,aao)] []
def agz:ý:=⟨[Ç,Ç],[Ç,tI],fun(x:ly)=>VV x.1 x.2⟩
def ahg (ρ:Type):Env ρ:=Ø [(272,uT),(279,Ed)] []
def FF:ý:=⟨[Ç,Ç],[Ç],fun(x:ly)=>xR x.1 x.2⟩
def O9 (ρ:Type):Env ρ:=Ø [(275,agz)] []
def aap:ý:=⟨[Ç,Ç],[tI],fun(x:ly)=>PP x.1 x.2⟩
def ahe (ρ:Type):Env ρ:=Ø [] []
def CF:ý:=⟨[Ġ],[.bool],fun(x:ly)=>uJ x⟩
def Lz (ρ:Type):Env ρ:=Ø [(272,uT),(284,aap)] []
def agA:ý:=⟨[Ç,Ç],[Ç,tI],fun(x:ly)=>PR x.1 x.2⟩
def ahi (ρ:Type):Env ρ:=Ø [(272,uT),(279,Ed)] []
def XH:ý:=⟨[Ġ,Ç],[Ġ,tI],fun(x:Val (.pair Ġ Ç))=>PQ x.1 x.2⟩
def Ks:CK (Nat×ý):=[(236,FD),(280,CF),(283,agA),(284,aap)]
def xm (ρ:Type):CK (ö ρ):=[]
def Kr:CK alj:=[⟨[3,2],281,0,4⟩]
def YQ (ρ:Type):Env ρ:=Ø Ks (xm ρ)
def EN (ρ:Type):Env ρ:=mkEnvU Ks (xm ρ) Kr
def FE:ý:=⟨[Ç,Ç],[Ġ],fun(x:ly)=>qq x.1 x.2⟩
def O8 (ρ:Type):Env ρ:=Ø [(276,XH)] []
def SF:ý:=⟨[Ë,Ú],[Ġ],fun(x:Val aY)=>wq x.1 x.2⟩
def YW (ρ:Type):Env ρ:=Ø [(106,FH),(154,wK),(269,yh),(270,FF),(271,FE)] []
def XJ:ý:=⟨[Ë,Ú],[Ç],fun(x:Val aY)=>AR x.1 x.2⟩
def aaN (ρ:Type):Env ρ:=Ø [] []
def M8:ý:=⟨[tI,tI],[tI],fun(x:bx)=>wo x.1 x.2⟩
def aaJ (ρ:Type):Env ρ:=Ø [] []
def XI:ý:=⟨[Ç],[tI,tI],fun(x:bx)=>Ib x⟩
def aaL (ρ:Type):Env ρ:=Ø [(272,uT),(273,M8)] []
def acs:ý:=⟨[Ç],[tI,tI],fun(x:bx)=>Mj x⟩
def aeD (ρ:Type):Env ρ:=Ø [(272,uT),(273,M8)] []
def act:ý:=⟨[Ë,Ú],[Ç],fun(x:Val aY)=>BO x.1 x.2⟩
def aeE (ρ:Type):Env ρ:=Ø [(255,SF),(256,XJ),(257,XI),(258,acs)] []
def acu:ý:=⟨[Ë],[(.ptr D2)],fun(x:b6)=>Mk x⟩
def G9:Å:=Ls 2 [tI,ab,tI,ae,tI,tI,tI,tI,ae,aa,af,ac,aa,tI,tI,ae,aa,af,ac,aa,aa,tI,tI,tI,tI,tI,tI,tI,tI,tI] [tI,am,aa] ⟨144,.box 1 0::.any::.con tI::.box 2 0::.con ab::.con tI::.var tI::aN 24 [.con ae,.con tI,.con tI],[bu,bN,bv,.rowv ę,.rowv Ç]⟩ [(.exit 2,⟨144,.box 1 0::.any::.con tI::.box 2 0::.con ab::.con tI::aN 25 [.con ae,.con tI,.con tI],[bu,bN,bv,.rowv ę,.rowv Ç]⟩,[am,aa])]
def G8 (ρ:Type):ö ρ:=⟨[2,1],181,2,G9,fun(p:Val (tyL G9.cs)) (v:wl) a b=>let A:=p.2.2.2.2.2.2.2.2.2.2.2.2.2;let B:=A.2.2.2.2;let C:=B.2.2.2.2.2;let D:=C.2.2.2.2;xo p.1 p.2.1 p.2.2.1 A.1 A.2.1 A.2.2.1 A.2.2.2.1 B.1 B.2.1 B.2.2.1 C.1 C.2.1 C.2.2.1 C.2.2.2.1 D.1 D.2.1 D.2.2.1 D.2.2.2 v.1 v.2.1 v.2.2 (fun c d e=>a (c,d,e)) (b 0)⟩
def Hb:Å:=Ls 2 [ae,tI,tI,tI,ae,aa,af,ac,aa,tI,tI,ae,aa,af,ac,aa,aa,tI] [tI,am,aa] ⟨144,.box 1 0::aN 30 [.con ae,.con tI,.var tI],cA⟩ [(.exit 0,⟨144,.box 1 0::aN 30 [.con ae,.con tI],cA⟩,[am,aa])]
def Ha (ρ:Type):ö ρ:=⟨[2,1],181,0,Hb,fun(p:Val (tyL Hb.cs)) (v:wl) a b=>let A:=p.2.2.2.2.2.2.2.2.2;let B:=A.2.2.2.2;xp p.1 p.2.1 A.1 A.2.1 A.2.2.1 A.2.2.2.1 B.1 B.2.1 B.2.2.1 B.2.2.2.1 B.2.2.2.2 v.1 v.2.1 v.2.2 (fun c d e=>a (c,d,e)) (b 0)⟩
def G7:Å:=Ls 2 [ac,tI,tI,tI,ae,aa,af,ac,aa,tI,tI,ae,aa,af,ac,aa,aa,tI] [tI,am,aa] ⟨144,.box 1 0::aN 107 [.con ac,.con tI,.var tI],cA⟩ [(.exit 4,⟨144,.box 1 0::aN 107 [.con ac,.con tI],cA⟩,[am,aa])]
def G6 (ρ:Type):ö ρ:=⟨[2,1],181,4,G7,fun(p:Val (tyL G7.cs)) (v:wl) a b=>let A:=p.2.2.2.2.2.2.2.2.2;let B:=A.2.2.2.2;xn p.1 p.2.1 A.1 A.2.1 A.2.2.1 A.2.2.2.1 B.1 B.2.1 B.2.2.1 B.2.2.2.1 B.2.2.2.2 v.1 v.2.1 v.2.2 (fun c d e=>a (c,d,e)) (b 0)⟩
def Bt (ρ:Type):Env ρ:=Ø [(106,FH),(156,FG),(202,UE),(224,Kd),(226,acv),(227,act)] [G8 ρ,Ha ρ,G6 ρ]
def uV:ý:=⟨[Ë],[Ô,aa,tI],fun(x:b6)=>jx x⟩
def YZ (ρ:Type):Env ρ:=Ø [(96,uW),(136,acu)] []
def UC:ý:=⟨[Ô,tI],[.bool],fun(x:Val (.pair Ô tI))=>BN x.1 x.2⟩
def aeA (ρ:Type):Env ρ:=Ø [] []
def zb:ý:=⟨[Ô],[tI,tI],fun(x:im)=>sc x⟩
def Rv:Å:=Ls 0 [am,tI,tI,am] [tI] ⟨57,.any::.box 0 0::aN 17 [.con am,.con tI,.var tI],[bP]⟩ [(.ret,⟨57,.any::.box 0 0::.var tI::.var tI::aN 15 [.con am,.con tI],[bP]⟩,[tI,tI]),(.exit 0,⟨57,.any::.box 0 0::aN 17 [.con am,.con tI],[bP]⟩,[])]
def DF (ρ:Type):ö ρ:=⟨[],89,0,Rv,fun(p:Val (.pair am aO)) (v:Int) b a=>tV p.1 p.2.1 p.2.2.1 p.2.2.2 v (fun c=>b c) (a 0) (a 1)⟩
def O1 (ρ:Type):Env ρ:=Ø [(148,UC)] [DF ρ]
def sL:ý:=⟨[Ô,au],[ab,.bool],fun(x:Val (.pair Ô au))=>mc x.1 x.2⟩
def vN:Å:=Ls 2 [au,am,tI,tI,am,ab,tI,am,ax,ab] [tI,tI] ⟨140,.any::.con au::.own 1::.box 2 0::aN 3 (.box 3 0::.own 4::.own 5::.var tI::aN 14 [.con am,.con tI,.var tI]),[bP,.rowc tI,bP,.cells [.nils],.rowc .bool,.rowc tI]⟩ [(.exit 0,⟨140,.any::.con au::.own 1::.box 2 0::aN 3 (.box 3 0::.own 4::.own 5::.var tI::aN 14 [.con am,.con tI]),[bP,.rowc tI,bP,.cells [.nils],.rowc .bool,.rowc tI]⟩,[tI])]
def vM (ρ:Type):ö ρ:=⟨[2,3],149,0,vN,fun(p:Val (tyL vN.cs)) (v:bx) a b=>iL p.2.1 p.2.2.1 v.1 v.2 (fun c d=>a (c,d)) (b 0)⟩
def vL:Å:=Ls 2 [au,tI,tI,tI,am,ab,tI,am,ab] [tI,ax,ab] ⟨140,.any::.con au::.own 1::.box 2 0::aN 3 (.box 3 0::.own 4::.own 5::.con tI::aN 27 [.con tI,.var tI]),cB⟩ [(.exit 2,⟨140,.any::.con au::.own 1::.box 2 0::aN 3 (.box 3 0::.own 4::.own 5::.con tI::aN 27 [.con tI]),cB⟩,[ax,ab])]
def vK (ρ:Type):ö ρ:=⟨[2,3],149,2,vL,fun(p:Val (tyL vL.cs)) (v:y8) a b=>Š p.2.2.1 p.2.2.2.2.2.1 v.1 v.2.1 v.2.2 (fun c d e=>a (c,d,e)) (b 0)⟩
def vI:Å:=Ls 2 [au,tI,tI,am,tI,tI,am,tI,am,ab] [tI,ab,ax,ab] ⟨140,.any::.con au::.own 1::.box 2 0::aN 3 (.box 3 0::.own 4::.own 5::.con tI::aN 3 (.con tI::aN 62 [.con am,.con tI,.var tI])),cD⟩ [(.ret,⟨140,.any::.con au::.own 1::.box 2 0::aN 2 (.var .bool::.box 3 0::.own 4::.own 5::.con tI::aN 3 (.con tI::aN 62 [.con am,.con tI])),cD⟩,[.bool,ab,ax,ab]),(.exit 6,⟨140,.any::.con au::.own 1::.box 2 0::aN 3 (.box 3 0::.own 4::.own 5::.con tI::aN 3 (.con tI::aN 62 [.con am,.con tI])),cD⟩,[ab,ax,ab])]
def vH (ρ:Type):ö ρ:=⟨[2,3],149,6,vI,fun(p:Val (tyL vI.cs)) (v:ni) b a=>jO p.1 p.2.1 p.2.2.1 p.2.2.2.1 p.2.2.2.2.1 v.1 v.2.1 v.2.2.1 v.2.2.2 (fun c d e f=>b (c,d,e,f)) (a 0) (a 1)⟩
def Jo:Å:=Ls 2 [au,tI,tI,am,tI,am] [ab,ax,ab,ab] ⟨140,[.any,.con au,.own 1,.box 2 0,.any,.any,.any,.box 3 0,.own 4,.own 5,.con tI],cE⟩ [(.ret,⟨140,[.any,.con au,.own 1,.box 2 0,.any,.any,.var .bool,.box 3 0,.own 4,.own 5,.con tI],cE⟩,[.bool,ab,ax,ab,ab])]
def vJ (ρ:Type):ö ρ:=⟨[2,3],149,4,Jo,fun(p:Val (.pair au br)) (v:Val aV) a b=>ĭ p.1 p.2.1 p.2.2.2.2.1 p.2.2.2.2.2 v.1 v.2.1 v.2.2.1 v.2.2.2 (fun c d e f=>a (c,d,e,f)) (b 0)⟩
def Jn:Å:=Ls 0 [tI,tI] [tI,ab] ⟨34,aN 6 (.own 0::.con tI::aN 13 [.con tI,.var tI]),cg⟩ [(.exit 0,⟨34,aN 6 (.own 0::.con tI::aN 13 [.con tI]),cg⟩,[ab])]
def vG (ρ:Type):ö ρ:=⟨[],90,0,Jn,fun(p:bx) (v:ge) a b=>jN p.1 p.2 v.1 v.2 (fun c d=>a (c,d)) (b 0)⟩
def ς (ρ:Type):Env ρ:=Ø [] [vM ρ,vK ρ,vH ρ,vJ ρ,vG ρ]
def CD:ý:=⟨[Ô],[.bool,tI],fun(x:im)=>oj x⟩
def Lx (ρ:Type):Env ρ:=Ø [(89,zb),(90,sL)] []
def sK:ý:=⟨[Â,ah],[.bool],fun(x:v8)=>ε x.1 x.2⟩
def QQ (ρ:Type):Env ρ:=Ø [(71,mn),(80,uV),(116,CD)] []
def pJ:ý:=⟨[Â],[ah,.bool],fun(x:a8)=>ă x⟩
def F7:Å:=Ls 1 [ak,tI,tI,tI,ae,aa,af,ac,aa,aj] [tI] ⟨21,.any::.fn 98 [(0,0)]::aN 7 [.con ak,.con tI,.var tI],[bC]⟩ [(.ret,⟨21,[.any,.fn 98 [(0,0)],.any,.any,.var ah,.var .bool,.any,.any,.any,.con ak,.con tI],[bC]⟩,[ah,.bool]),(.exit 0,⟨21,.any::.fn 98 [(0,0)]::aN 7 [.con ak,.con tI],[bC]⟩,[])]
def tc (ρ:Type):ö ρ:=⟨[1,3],59,0,F7,fun(p:Val (.pair ak aG)) (v:Int) b a=>let A:=p.2.2.2.2;lH p.1 p.2.1 p.2.2.1 p.2.2.2.1 A.1 A.2.1 A.2.2.1 A.2.2.2.1 A.2.2.2.2.1 A.2.2.2.2.2 v (fun c=>b c) (a 0) (a 1)⟩
def zE (ρ:Type):Env ρ:=Ø [(55,Bj),(57,sK)] [tc ρ]
def Fx:ý:=⟨[Â,tI,tI],[tI],fun(x:Val bp)=>wd x.1 x.2.1 x.2.2⟩
def CI:Å:=Ls 2 [ae,tI,tI,tI,ae,aa,af,ac,aa,aj,tI] [tI] ⟨19,.con ae::.fn 101 [(1,0)]::aN 5 [.con tI,.var tI],[bC,bz]⟩ [(.ret,⟨19,[.con ae,.fn 101 [(1,0)],.any,.any,.var tI,.any,.any,.con tI],[bC,bz]⟩,[tI]),(.exit 0,⟨19,.con ae::.fn 101 [(1,0)]::aN 5 [.con tI],[bC,bz]⟩,[])]
def CH (ρ:Type):ö ρ:=⟨[3,4,1,2],162,0,CI,fun(p:Val (tyL CI.cs)) (v:Int) b a=>s9 p.1 p.2.1 p.2.2.2.2.2.2.2.2.2.2 v (fun c=>b c) (a 0) (a 1)⟩
def Nw (ρ:Type):Env ρ:=Ø [] [CH ρ]
def SG:ý:=⟨[ab,ab],[ab,ab,tI],fun(x:l7)=>qJ x.1 x.2⟩
def Y3 (ρ:Type):Env ρ:=Ø [(105,I0),(106,FH)] []
def Fy:ý:=⟨[Â,tI],[.bool,tI],fun(x:Val (.pair Â tI))=>ql x.1 x.2⟩
def tj:Å:=Ls 6 [tI,tI,tI,ae,aa,af,ac,aa,aj,tI,tI,tI,ae,aa,af,ac,aa,aj,tI,tI,ac] [tI] ⟨19,.own 5::.fn 104 [(3,0)]::aN 5 [.con tI,.var tI],cF⟩ [(.ret,⟨19,[.own 5,.fn 104 [(3,0)],.any,.any,.var tI,.any,.any,.con tI],cF⟩,[tI]),(.exit 0,⟨19,.own 5::.fn 104 [(3,0)]::aN 5 [.con tI],cF⟩,[])]
def ti (ρ:Type):ö ρ:=⟨[7,2,1,5,1,2],109,0,tj,fun(p:Val (tyL tj.cs)) (v:Int) b a=>lJ p.1 p.2.2.2.2.2.2.2.2.2.1 p.2.2.2.2.2.2.2.2.2.2.2.2.2.2.2.2.2.2.2.2 v (fun c=>b c) (a 0) (a 1)⟩
def tg:Å:=Ls 6 [tI,tI,ae,aa,af,ac,aa,aj,tI,tI,tI,ae,aa,af,ac,aa,aj,tI,tI] [tI,tI,ac] ⟨42,[.own 5,.fn 104 [(3,0)],.any,.any,.any,.var tI,.var tI],[bC,bz,bC,bR,bS,.rowv Ú]⟩ [(.exit 0,⟨42,[.own 5,.fn 104 [(3,0)],.any,.any,.any,.var tI],[bC,bz,bC,bR,bS,.rowv Ú]⟩,[tI,ac])]
def tf (ρ:Type):ö ρ:=⟨[7,2,1,5],102,0,tg,fun(p:Val (tyL tg.cs)) (v:y9) a b=>Θ p.2.2.2.2.2.2.2.2.1 v.1 v.2.1 v.2.2 (fun c d e=>a (c,d,e)) (b 0)⟩
def mA (ρ:Type):Env ρ:=Ø [(44,jj),(45,pJ),(47,Fx),(50,SG),(51,ũ)] [ti ρ,tf ρ]
def Ux:ý:=⟨[Â,ab],[Â],fun(x:x9)=>BA x.1 x.2⟩
def F0:Å:=Ls 7 [tI,tI,tI,ae,aa,af,ac,aa,aj,ab,tI,tI,tI,tI,ae,aa,af,ac,aa,aj,tI,tI,ac] [tI] ⟨19,.own 6::.fn 104 [(4,0)]::aN 5 [.con tI,.var tI],cG⟩ [(.ret,⟨19,[.own 6,.fn 104 [(4,0)],.any,.any,.var tI,.any,.any,.con tI],cG⟩,[tI]),(.exit 0,⟨19,.own 6::.fn 104 [(4,0)]::aN 5 [.con tI],cG⟩,[])]
def FZ (ρ:Type):ö ρ:=⟨[1,2,1,5,1,2],109,0,F0,fun(p:Val (tyL F0.cs)) (v:Int) b a=>wN p.1 p.2.2.2.2.2.2.2.2.2.1 p.2.2.2.2.2.2.2.2.2.2.2.2.2.2.2.2.2.2.2.2.2.2 v (fun c=>b c) (a 0) (a 1)⟩
def FY:Å:=Ls 7 [tI,tI,ae,aa,af,ac,aa,aj,ab,tI,tI,tI,tI,ae,aa,af,ac,aa,aj,tI,tI] [tI,tI,ac] ⟨42,[.own 6,.fn 104 [(4,0)],.any,.any,.any,.var tI,.var tI],[bC,bt,bS,bC,bT,bS,.rowv Ú]⟩ [(.exit 0,⟨42,[.own 6,.fn 104 [(4,0)],.any,.any,.any,.var tI],[bC,bt,bS,bC,bT,bS,.rowv Ú]⟩,[tI,ac])]
def FX (ρ:Type):ö ρ:=⟨[1,2,1,5],102,0,FY,fun(p:Val (tyL FY.cs)) (v:y9) a b=>ny p.2.2.2.2.2.2.2.2.1 v.1 v.2.1 v.2.2 (fun c d e=>a (c,d,e)) (b 0)⟩
def Bn (ρ:Type):Env ρ:=Ø [(51,ũ)] [FZ ρ,FX ρ]
def ack:ý:=⟨[Â],[ab,tI],fun(x:a8)=>Md x⟩
def U5:Å:=Ls 0 [ac,tI,tI,tI,ae,aa,af,ac,aa,aj] [tI,ab] ⟨66,.any::.box 0 0::aN 5 (.own 1::aN 19 [.con ac,.con tI,.var tI]),cH⟩ [(.exit 0,⟨66,.any::.box 0 0::aN 5 (.own 1::aN 19 [.con ac,.con tI]),cH⟩,[ab])]
def Gq (ρ:Type):ö ρ:=⟨[],10,0,U5,fun(p:Val (.pair ac aG)) (v:ge) a b=>wS p.1 p.2.1 v.1 v.2 (fun c d=>a (c,d)) (b 0)⟩
def U4:Å:=Ls 0 [tI,tI,ae,aa,af,ac,aa,aj] [ab,tI] ⟨66,.any::.box 0 0::aN 5 [.var ab,.any,.any,.var tI],[bC]⟩ [(.exit 2,⟨66,.any::.box 0 0::aN 5 [.var ab],[bC]⟩,[ab])]
def Gp (ρ:Type):ö ρ:=⟨[],10,2,U4,fun(p:u5) (v:nj) a b=>let A:=p.2.2.2.2;qZ p.1 p.2.1 p.2.2.1 p.2.2.2.1 A.1 A.2.1 A.2.2.1 A.2.2.2 v.1 v.2 (fun c d=>a (c,d)) (b 0)⟩
def Ja (ρ:Type):Env ρ:=Ø [(44,jj),(45,pJ),(46,Ux),(52,jA)] [Gq ρ,Gp ρ]
def Sr:ý:=⟨[ab,tI],[ab],fun(x:nj)=>ju x.1 x.2⟩
def NM:Å:=Ls 0 [tI,ab,tI] [tI,ab] ⟨26,[.any,.con tI,.any,.any,.any,.own 0,.any,.any,.con ab,.con tI,.var tI],cg⟩ [(.exit 0,⟨26,[.any,.con tI,.any,.any,.any,.own 0,.any,.any,.con ab,.con tI],cg⟩,[ab])]
def zJ (ρ:Type):ö ρ:=⟨[],58,0,NM,fun(p:Val (.pair tI aE)) (v:ge) a b=>pQ p.1 p.2.1 p.2.2 v.1 v.2 (fun c d=>a (c,d)) (b 0)⟩
def Kj (ρ:Type):Env ρ:=Ø [] [zJ ρ]
def Kb:ý:=⟨[Â,ab],[ab,tI],fun(x:x9)=>uk x.1 x.2⟩
def vw:Å:=Ls 3 [ac,tI,tI,tI,ae,aa,af,ac,aa,aj,ab,tI] [tI] ⟨19,.con ac::.fn 54 [(2,0)]::aN 5 [.con tI,.var tI],[bC,bt,bz]⟩ [(.ret,⟨19,[.con ac,.fn 54 [(2,0)],.any,.any,.var tI,.any,.any,.con tI],[bC,bt,bz]⟩,[tI]),(.exit 0,⟨19,.con ac::.fn 54 [(2,0)]::aN 5 [.con tI],[bC,bt,bz]⟩,[])]
def vv (ρ:Type):ö ρ:=⟨[9,4,1,2],109,0,vw,fun(p:Val (tyL vw.cs)) (v:Int) b a=>mB p.1 p.2.1 p.2.2.2.2.2.2.2.2.2.2.2 v (fun c=>b c) (a 0) (a 1)⟩
def vy:Å:=Ls 0 [ab,tI,tI,tI,ae,aa,af,ac,aa,aj,ab] [tI] ⟨135,aN 2 (.box 0 0::.box 1 0::aN 28 [.con ab,.con tI,.var tI]),[bC,bt]⟩ [(.ret,⟨135,aN 2 (.box 0 0::.box 1 0::.nils::.var tI::aN 26 [.con ab,.con tI]),[bC,bt]⟩,[tI]),(.exit 0,⟨135,aN 2 (.box 0 0::.box 1 0::aN 28 [.con ab,.con tI]),[bC,bt]⟩,[])]
def vx (ρ:Type):ö ρ:=⟨[],11,0,vy,fun(p:Val (tyL vy.cs)) (v:Int) b a=>iF p.1 p.2.1 p.2.2.2.2.2.2.2.1 v (fun c=>b c) (a 0) (a 1)⟩
def I9:Å:=Ls 0 [tI,tI,ae,aa,af,ac,aa,aj,ab] [tI] ⟨135,aN 2 (.box 0 0::.box 1 0::aN 5 [.var tI]),[bC,bt]⟩ [(.ret,⟨135,[.any,.any,.box 0 0,.box 1 0,.nils,.var tI],[bC,bt]⟩,[tI]),(.exit 2,⟨135,[.any,.any,.box 0 0,.box 1 0],[bC,bt]⟩,[])]
def vu (ρ:Type):ö ρ:=⟨[],11,2,I9,fun(p:Val aI) (v:Int) b a=>jG p.2.2.2.2.2.2.2.2 v (fun c=>b c) (a 0) (a 1)⟩
def vt:Å:=Ls 4 [ak,tI,tI,tI,ae,aa,af,ac,aa,aj,ab,tI] [tI] ⟨21,.any::.fn 60 [(3,0),(2,0)]::aN 7 [.con ak,.con tI,.var tI],[bC,bt,bz,bU]⟩ [(.ret,⟨21,[.any,.fn 60 [(3,0),(2,0)],.any,.any,.var ah,.var .bool,.any,.any,.any,.con ak,.con tI],[bC,bt,bz,bU]⟩,[ah,.bool]),(.exit 0,⟨21,.any::.fn 60 [(3,0),(2,0)]::aN 7 [.con ak,.con tI],[bC,bt,bz,bU]⟩,[])]
def vr (ρ:Type):ö ρ:=⟨[21,2],59,0,vt,fun(p:Val (tyL vt.cs)) (v:Int) b a=>let A:=p.2.2.2.2;let B:=A.2.2.2.2;jF p.1 p.2.1 p.2.2.1 p.2.2.2.1 A.1 A.2.1 A.2.2.1 A.2.2.2.1 B.1 B.2.1 B.2.2.1 B.2.2.2 v (fun c=>b c) (a 0) (a 1)⟩
def vn:Å:=Ls 4 [ab,ab,ab,tI,ab,ab,tI,tI,ae,aa,af,ac,aa,aj] [tI] ⟨36,.con ab::.con ab::aN 7 [.con ab,.con tI,.var tI],cI⟩ [(.ret,⟨36,.con ab::.con ab::aN 2 (.var tI::aN 4 [.con ab,.con tI]),cI⟩,[tI]),(.exit 0,⟨36,.con ab::.con ab::aN 7 [.con ab,.con tI],cI⟩,[])]
def vm (ρ:Type):ö ρ:=⟨[29,14],61,0,vn,fun(p:Val (tyL vn.cs)) (v:Int) b a=>ź p.2.1 p.2.2.1 p.2.2.2.1 v (fun c=>b c) (a 0) (a 1)⟩
def vl:Å:=Ls 0 [ak,ab,tI,tI,ab,tI,tI,tI,ab,ab,tI,tI,ae,aa,af,ac,aa,aj] [tI] ⟨135,aN 3 (.box 0 0::aN 6 (.con ak::.any::.box 1 0::.own 2::aN 2 (.con ab::.con tI::.con tI::.con ab::aN 57 (.con tI::.con tI::aN 23 [.own 2,.con tI,.var tI])))),cI⟩ [(.exit 5,⟨135,aN 3 (.box 0 0::aN 6 (.con ak::.any::.box 1 0::.own 2::aN 2 (.con ab::.con tI::.con tI::.con ab::aN 57 (.con tI::.con tI::aN 23 [.own 2,.con tI])))),cI⟩,[]),(.exit 6,⟨135,aN 3 (.box 0 0::aN 6 (.con ak::.any::.box 1 0::.own 2::aN 2 (.con ab::.con tI::.con tI::.con ab::aN 57 (.con tI::.con tI::aN 23 [.own 2,.con tI])))),cI⟩,[])]
def vk (ρ:Type):ö ρ:=⟨[],11,6,vl,fun(p:Val (tyL vl.cs)) (v:Int) b a=>ş p.2.2.2.1 p.2.2.2.2.2.2.2.1 p.2.2.2.2.2.2.2.2.2.1 v (fun c=>b c) (a 0) (a 1)⟩
def vh:Å:=Ls 0 [ak,ab,tI,tI,ab,tI,tI,ak,tI,ab,tI,tI,ae,aa,af,ac,aa,aj] [tI,ab] ⟨135,aN 3 (.box 0 0::aN 6 (.con ak::.any::.box 1 0::.own 2::aN 2 (.con ab::.con tI::.con tI::.con ab::aN 57 (.con tI::.con tI::aN 34 [.con ak,.con tI,.var tI])))),cJ⟩ [(.exit 5,⟨135,aN 3 (.box 0 0::aN 6 (.con ak::.any::.box 1 0::.own 2::aN 2 (.con ab::.con tI::.con tI::.con ab::aN 57 (.con tI::.con tI::aN 34 [.con ak,.con tI])))),cJ⟩,[ab]),(.exit 8,⟨135,aN 3 (.box 0 0::aN 6 (.con ak::.any::.box 1 0::.own 2::aN 2 (.con ab::.con tI::.con tI::.con ab::aN 57 (.con tI::.con tI::aN 34 [.con ak,.con tI])))),cJ⟩,[ab])]
def vg (ρ:Type):ö ρ:=⟨[],11,8,vh,fun(p:Val (tyL vh.cs)) (v:ge) b a=>let A:=p.2.2.2.2.2.2.2;let B:=A.2.2.2.2;let C:=B.2.2.2.2;Ş p.2.2.2.1 A.1 A.2.1 A.2.2.1 A.2.2.2.1 B.1 B.2.1 B.2.2.1 B.2.2.2.1 C.1 C.2.1 C.2.2 v.1 v.2 (fun c d=>b (c,d)) (a 0) (a 1)⟩
def vq:Å:=Ls 0 [ak,tI,ab,tI,tI,ae,aa,af,ac,aa,aj] [ab,tI,tI,ab] ⟨135,aN 3 (.box 0 0::aN 6 (.con ak::.any::.box 1 0::.own 2::aN 2 (.var ab::.var tI::aN 59 [.con tI,.var tI]))),cJ⟩ [(.exit 4,⟨135,aN 3 (.box 0 0::aN 6 (.con ak::.any::.box 1 0::.own 2::aN 3 (.var tI::aN 59 [.con tI]))),cJ⟩,[tI,ab])]
def vp (ρ:Type):ö ρ:=⟨[],11,4,vq,fun(p:Val (tyL vq.cs)) (v:Val (.pair ab bc)) a b=>let A:=p.2.2.2.2;let B:=A.2.2.2.2;Ż p.1 p.2.1 p.2.2.1 p.2.2.2.1 A.1 A.2.1 A.2.2.1 A.2.2.2.1 B.1 B.2.1 B.2.2 v.1 v.2.1 v.2.2.1 v.2.2.2 (fun c d e f=>a (c,d,e,f)) (b 0)⟩
def Ń (ρ:Type):Env ρ:=Ø [(44,jj),(46,Ux),(55,Bj),(57,sK),(58,Sr),(114,nt)] [vv ρ,vx ρ,vu ρ,vr ρ,vm ρ,vk ρ,vg ρ,vp ρ]
def pK:ý:=⟨[ab,ab],[.bool],fun(x:l7)=>η x.1 x.2⟩
def GK:Å:=Ls 0 [ab,ab] [tI] ⟨26,[.con ab,.con ab,.any,.any,.any,.var tI],[]⟩ [(.ret,⟨26,[.con ab,.con ab,.any,.any,.var .bool],[]⟩,[.bool]),(.exit 0,⟨26,[.con ab,.con ab],[]⟩,[])]
def tK (ρ:Type):ö ρ:=⟨[],17,0,GK,fun(p:l7) (v:Int) b a=>lL p.1 p.2 v (fun c=>b c) (a 0) (a 1)⟩
def zY (ρ:Type):Env ρ:=Ø [] [tK ρ]
def LV:ý:=⟨[Â],[ak],fun(x:a8)=>BC x⟩
def mz:Tpl:=⟨13,[.any,.any,.box 3 0],[.cells [.con tI,.con tI,.con ae,.con aa,.con af,.con ac,.con aa,.con aj],.cells [.con tI,.con tI,.con ae,.con aa,.con af,.con ac,.con aa,.con aj],.dead,.cells [.own 4],.rowv ah]⟩
def pP (ρ:Type):IC ρ:=⟨[1,1,1,3,1,1],167,0,4,[tI,tI,ae,aa,af,ac,aa,aj,tI,tI,ae,aa,af,ac,aa,aj],[ak],mz,rO,fun(p:Val aD) (v:a7) y a=>Ex v y (fun b=>a b)⟩
def F6:Å:=Ls 5 [tI,tI,tI,ae,aa,af,ac,aa,aj,tI,tI,ae,aa,af,ac,aa,aj,aj,ak] [tI] ⟨19,.own 4::.fn 127 [(0,0)]::aN 5 [.con tI,.var tI],[bC,bC,bW,bX,.rowc ah]⟩ [(.ret,⟨19,[.own 4,.fn 127 [(0,0)],.any,.any,.var tI,.any,.any,.con tI],[bC,bC,bW,bX,.rowc ah]⟩,[tI]),(.exit 0,⟨19,.own 4::.fn 127 [(0,0)]::aN 5 [.con tI],[bC,bC,bW,bX,.rowc ah]⟩,[])]
def F5 (ρ:Type):ö ρ:=⟨[1,3,1,2],134,0,F6,fun(p:Val (tyL F6.cs)) (v:Int) b a=>let A:=p.2.2.2.2;wO p.1 p.2.1 p.2.2.1 p.2.2.2.1 A.1 A.2.1 A.2.2.1 A.2.2.2.1 A.2.2.2.2.1 A.2.2.2.2.2.2.2.2.2.2.2.2.2.2 v (fun c=>b c) (a 0) (a 1)⟩
def F4:Å:=Ls 5 [tI,tI,ae,aa,af,ac,aa,aj,tI,tI,ae,aa,af,ac,aa,aj,aj] [tI,tI,ak] ⟨42,[.own 4,.fn 127 [(0,0)],.any,.any,.any,.var tI,.var tI],[bC,bC,bW,bX,.rowv ah]⟩ [(.exit 0,⟨42,[.own 4,.fn 127 [(0,0)],.any,.any,.any,.var tI],[bC,bC,bW,bX,.rowv ah]⟩,[tI,ak])]
def F3 (ρ:Type):ö ρ:=⟨[1,3],126,0,F4,fun(p:Val (tyL F4.cs)) (v:y5) a b=>let A:=p.2.2.2.2;nz p.1 p.2.1 p.2.2.1 p.2.2.2.1 A.1 A.2.1 A.2.2.1 A.2.2.2.1 v.1 v.2.1 v.2.2 (fun c d e=>a (c,d,e)) (b 0)⟩
def NJ (ρ:Type):CK (IC ρ):=[pP ρ]
def aax:CK (Nat×adR):=[(170,.row ģ)]
def iE (ρ:Type):Env ρ:={acC [(57,sK)] [F5 ρ,F3 ρ] aax with ranges:=Ρ (NJ ρ)}
def XL:ý:=⟨[Ë,Ç],[tI,tI],fun(x:AS)=>sf x.1 x.2⟩
def aaO (ρ:Type):Env ρ:=Ø [(96,uW),(156,FG),(174,ŵ)] []
def acw:ý:=⟨[Ë,Ç],[Ë,tI],fun(x:AS)=>Ml x.1 x.2⟩
def Hv:Å:=Ls 6 [tI,tI,tI,ae,aa,af,ac,aa,tI,tI,tI,tI,tI,tI,ae,aa,af,ac,aa,tI,tI,tI,tI,ac,tI,tI,ae,aa,af,aa] [tI,ac] ⟨50,.any::.box 6 0::.box 7 0::.own 8::aN 21 [.own 8,.con tI,.var tI],cM⟩ [(.exit 0,⟨50,.any::.box 6 0::.box 7 0::.own 8::aN 21 [.own 8,.con tI],cM⟩,[ac])]
def Hu (ρ:Type):ö ρ:=⟨[1,2,4,1],211,0,Hv,fun(p:Val (tyL Hv.cs)) (v:Val aZ) a b=>xz p.1 v.1 v.2 (fun c d=>a (c,d)) (b 0)⟩
def Tz (ρ:Type):Env ρ:=Ø [(96,uW)] [Hu ρ]
def XE:ý:=⟨[Ô,ab],[tI],fun(x:Val (.pair Ô ab))=>Ia x.1 x.2⟩
def Rr:Å:=Ls 0 [ab,tI,tI,am] [tI] ⟨37,aN 2 (.box 0 0::aN 16 [.con ab,.con tI,.var tI]),[bP]⟩ [(.ret,⟨37,aN 2 (.box 0 0::.any::.var tI::aN 14 [.con ab,.con tI]),[bP]⟩,[tI]),(.exit 0,⟨37,aN 2 (.box 0 0::aN 16 [.con ab,.con tI]),[bP]⟩,[])]
def Ds (ρ:Type):ö ρ:=⟨[],177,0,Rr,fun(p:Val (.pair ab aO)) (v:Int) b a=>tR p.1 p.2.1 p.2.2.1 p.2.2.2 v (fun c=>b c) (a 0) (a 1)⟩
def OQ (ρ:Type):Env ρ:=Ø [(89,zb),(90,sL),(148,UC)] [Ds ρ]
def SE:ý:=⟨[Ô,au,tI],[ab],fun(x:Val (.pair Ô (.pair au tI)))=>wm x.1 x.2.1 x.2.2⟩
def AA:Å:=Ls 0 [au,tI,tI,tI,am] [tI,ab] ⟨29,.any::.con au::.con tI::.box 0 0::aN 3 (.own 1::aN 5 [.con tI,.var tI]),cN⟩ [(.exit 0,⟨29,.any::.con au::.con tI::.box 0 0::aN 3 (.own 1::aN 5 [.con tI]),cN⟩,[ab])]
def Az (ρ:Type):ö ρ:=⟨[],212,0,AA,fun(p:Val (tyL AA.cs)) (v:ge) a b=>qf p.2.2.1 v.1 v.2 (fun c d=>a (c,d)) (b 0)⟩
def Ay:Å:=Ls 2 [au,am,tI,tI,am,ab,tI,am,ax,ab] [tI,tI] ⟨140,.any::.con au::.own 1::.box 2 0::aN 3 (.box 3 0::.own 4::.own 5::.var tI::aN 14 [.con am,.con tI,.var tI]),[bP,.rowc tI,bP,.cells [.nils],.rowc .bool,.rowc tI]⟩ [(.exit 0,⟨140,.any::.con au::.own 1::.box 2 0::aN 3 (.box 3 0::.own 4::.own 5::.var tI::aN 14 [.con am,.con tI]),[bP,.rowc tI,bP,.cells [.nils],.rowc .bool,.rowc tI]⟩,[tI])]
def Ax (ρ:Type):ö ρ:=⟨[8,3],149,0,Ay,fun(p:Val (tyL Ay.cs)) (v:bx) a b=>xj p.2.1 p.2.2.1 v.1 v.2 (fun c d=>a (c,d)) (b 0)⟩
def Aw:Å:=Ls 2 [au,tI,tI,tI,am,ab,tI,am,ab] [tI,ax,ab] ⟨140,.any::.con au::.own 1::.box 2 0::aN 3 (.box 3 0::.own 4::.own 5::.con tI::aN 27 [.con tI,.var tI]),cB⟩ [(.exit 2,⟨140,.any::.con au::.own 1::.box 2 0::aN 3 (.box 3 0::.own 4::.own 5::.con tI::aN 27 [.con tI]),cB⟩,[ax,ab])]
def Au (ρ:Type):ö ρ:=⟨[8,3],149,2,Aw,fun(p:Val (tyL Aw.cs)) (v:y8) a b=>xi p.2.2.1 p.2.2.2.2.2.1 v.1 v.2.1 v.2.2 (fun c d e=>a (c,d,e)) (b 0)⟩
def Ar:Å:=Ls 2 [au,tI,tI,am,tI,tI,am,tI,am,ab] [tI,ab,ax,ab] ⟨140,.any::.con au::.own 1::.box 2 0::aN 3 (.box 3 0::.own 4::.own 5::.con tI::aN 3 (.con tI::aN 62 [.con am,.con tI,.var tI])),cD⟩ [(.ret,⟨140,.any::.con au::.own 1::.box 2 0::aN 2 (.var .bool::.box 3 0::.own 4::.own 5::.con tI::aN 3 (.con tI::aN 62 [.con am,.con tI])),cD⟩,[.bool,ab,ax,ab]),(.exit 6,⟨140,.any::.con au::.own 1::.box 2 0::aN 3 (.box 3 0::.own 4::.own 5::.con tI::aN 3 (.con tI::aN 62 [.con am,.con tI])),cD⟩,[ab,ax,ab])]
def Aq (ρ:Type):ö ρ:=⟨[8,3],149,6,Ar,fun(p:Val (tyL Ar.cs)) (v:ni) b a=>GZ p.1 p.2.1 p.2.2.1 p.2.2.2.1 p.2.2.2.2.1 v.1 v.2.1 v.2.2.1 v.2.2.2 (fun c d e f=>b (c,d,e,f)) (a 0) (a 1)⟩
def OO:Å:=Ls 2 [au,tI,tI,am,tI,am] [ab,ax,ab,ab] ⟨140,[.any,.con au,.own 1,.box 2 0,.any,.any,.any,.box 3 0,.own 4,.own 5,.con tI],cE⟩ [(.ret,⟨140,[.any,.con au,.own 1,.box 2 0,.any,.any,.var .bool,.box 3 0,.own 4,.own 5,.con tI],cE⟩,[.bool,ab,ax,ab,ab])]
def As (ρ:Type):ö ρ:=⟨[8,3],149,4,OO,fun(p:Val (.pair au br)) (v:Val aV) a b=>xh p.1 p.2.1 p.2.2.2.2.1 p.2.2.2.2.2 v.1 v.2.1 v.2.2.1 v.2.2.2 (fun c d e f=>a (c,d,e,f)) (b 0)⟩
def jP (ρ:Type):Env ρ:=Ø [] [Az ρ,Ax ρ,Au ρ,Aq ρ,As ρ]
def XF:ý:=⟨[Ô],[aa,tI],fun(x:im)=>wn x⟩
def Rt:Å:=Ls 1 [ab,tI,tI,am,tI,am] [tI,ab] ⟨28,.any::.box 1 0::aN 2 (.con ab::.own 2::aN 7 [.con tI,.var tI]),[bP,bP,.rowv tI]⟩ [(.exit 0,⟨28,.any::.box 1 0::aN 2 (.con ab::.own 2::aN 7 [.con tI]),[bP,bP,.rowv tI]⟩,[ab])]
def Du (ρ:Type):ö ρ:=⟨[4,1],178,0,Rt,fun(p:Val (.pair ab br)) (v:ge) a b=>tT p.2.1 p.2.2.2.2.1 p.2.2.2.2.2 v.1 v.2 (fun c d=>a (c,d)) (b 0)⟩
def Rs:Å:=Ls 0 [ab,tI,ab] [tI,aa] ⟨39,aN 5 (.con ab::.own 0::.own 1::aN 12 [.con tI,.var tI]),[.rowc tI,.rowv Ç]⟩ [(.exit 0,⟨39,aN 5 (.con ab::.own 0::.own 1::aN 12 [.con tI]),[.rowc tI,.rowv Ç]⟩,[aa])]
def Dt (ρ:Type):ö ρ:=⟨[],130,0,Rs,fun(p:Val bh) (v:nm) a b=>tS p.1 p.2.1 p.2.2 v.1 v.2 (fun c d=>a (c,d)) (b 0)⟩
def EM (ρ:Type):Env ρ:=Ø [(177,XE),(212,SE)] [Du ρ,Dt ρ]
def Sq:ý:=⟨[Ë,Ç],[Ç,tI],fun(x:AS)=>BB x.1 x.2⟩
def Ya (ρ:Type):Env ρ:=Ø [(80,uV),(128,XL),(129,acw),(130,XF)] []
def IY:ý:=⟨[Â,tI,tI],[am,tI],fun(x:Val bp)=>we x.1 x.2.1 x.2.2⟩
def zO:Å:=Ls 0 [tI,tI,ak,tI,tI,tI,ae,aa,af,ac,aa,aj] [tI,aX] ⟨113,.any::.con tI::.con tI::.box 0 0::aN 7 (.omp 1::aN 30 [.con ak,.con tI,.var tI]),[bC,.mapv tI Ç]⟩ [(.ret,⟨113,.any::.con tI::.con tI::.box 0 0::aN 2 (.nils::.var tI::aN 3 (.omp 1::aN 30 [.con ak,.con tI])),[bC,.mapv tI Ç]⟩,[tI,aX]),(.exit 0,⟨113,.any::.con tI::.con tI::.box 0 0::aN 7 (.omp 1::aN 30 [.con ak,.con tI]),[bC,.mapv tI Ç]⟩,[aX])]
def zN (ρ:Type):ö ρ:=⟨[],22,0,zO,fun(p:Val (tyL zO.cs)) (v:Val (.pair tI aX)) b a=>let A:=p.2.2.2.2;let B:=A.2.2.2.2;pS p.1 p.2.1 p.2.2.1 p.2.2.2.1 A.1 A.2.1 A.2.2.1 A.2.2.2.1 B.1 B.2.1 B.2.2.1 B.2.2.2 v.1 v.2 (fun c d=>b (c,d)) (a 0) (a 1)⟩
def zM:Å:=Ls 0 [ae,tI,aX] [tI,am] ⟨113,aN 11 (.omp 0::aN 7 (.own 1::aN 70 [.con ae,.con tI,.var tI])),[.mapc tI Ç,.rowv ę]⟩ [(.exit 2,⟨113,aN 11 (.omp 0::aN 7 (.own 1::aN 70 [.con ae,.con tI])),[.mapc tI Ç,.rowv ę]⟩,[am])]
def zL (ρ:Type):ö ρ:=⟨[],22,2,zM,fun(p:Val (tyL zM.cs)) (v:im) a b=>pR p.1 p.2.1 p.2.2 v.1 v.2 (fun c d=>a (c,d)) (b 0)⟩
def zP (ρ:Type):Env ρ:=Ø [(44,jj),(47,Fx),(68,LV),(69,IW),(70,Sq),(71,mn)] [zN ρ,zL ρ]
def XD:ý:=⟨[Ô,tI,tI],[ah],fun(x:Val (.pair Ô Ç))=>H9 x.1 x.2.1 x.2.2⟩
def Tr:Å:=Ls 0 [tI,tI,tI,tI,am] [tI,ab] ⟨45,.any::.con tI::.con tI::.box 0 0::aN 3 (.own 1::aN 7 [.con tI,.var tI]),cN⟩ [(.exit 0,⟨45,.any::.con tI::.con tI::.box 0 0::aN 3 (.own 1::aN 7 [.con tI]),cN⟩,[ab])]
def Tq (ρ:Type):ö ρ:=⟨[],91,0,Tr,fun(p:Val (tyL Tr.cs)) (v:ge) a b=>Br p.2.2.1 v.1 v.2 (fun c d=>a (c,d)) (b 0)⟩
def Tn:Å:=Ls 4 [ab,tI,ah,tI,am] [tI,ab] ⟨53,.con ab::.box 1 0::aN 2 (.own 4::aN 7 [.con tI,.var tI]),cO⟩ [(.exit 0,⟨53,.con ab::.box 1 0::aN 2 (.own 4::aN 7 [.con tI]),cO⟩,[ab])]
def Tm (ρ:Type):ö ρ:=⟨[12,8],150,0,Tn,fun(p:Val (tyL Tn.cs)) (v:ge) a b=>Vm p.2.1 v.1 v.2 (fun c d=>a (c,d)) (b 0)⟩
def Tl:Å:=Ls 4 [ab,am,tI,ah,tI,am] [tI,ab] ⟨53,.con ab::aN 3 (.own 4::aN 16 [.con am,.con tI,.var tI]),cO⟩ [(.exit 2,⟨53,.con ab::aN 3 (.own 4::aN 16 [.con am,.con tI]),cO⟩,[ab])]
def Tk (ρ:Type):ö ρ:=⟨[12,8],150,2,Tl,fun(p:Val (tyL Tl.cs)) (v:ge) a b=>GY p.1 p.2.1 p.2.2.1 v.1 v.2 (fun c d=>a (c,d)) (b 0)⟩
def aeB:Å:=Ls 0 [tI,tI,am] [tI,ah] ⟨45,aN 9 (.own 0::.fn 150 [(1,0)]::aN 18 [.con tI,.var tI]),[.rowv ab,bP]⟩ [(.exit 2,⟨45,aN 9 (.own 0::.fn 150 [(1,0)]::aN 18 [.con tI]),[.rowv ab,bP]⟩,[ah])]
def Tp (ρ:Type):ö ρ:=⟨[],91,2,aeB,fun(p:Val aO) (v:px) a b=>L2 p.1 p.2.1 p.2.2 v.1 v.2 (fun c d=>a (c,d)) (b 0)⟩
def OM (ρ:Type):Env ρ:=Ø [] [Tq ρ,Tm ρ,Tk ρ,Tp ρ]
def XG:ý:=⟨[Ô],[ab,tI],fun(x:im)=>pe x⟩
def Ru:Å:=Ls 0 [tI,tI,am] [tI,ak] ⟨93,.any::.box 0 0::aN 6 (.own 1::aN 24 [.con tI,.var tI]),[bP,.rowv ah]⟩ [(.exit 0,⟨93,.any::.box 0 0::aN 6 (.own 1::aN 24 [.con tI]),[bP,.rowv ah]⟩,[ak])]
def DE (ρ:Type):ö ρ:=⟨[],35,0,Ru,fun(p:Val aO) (v:io) a b=>oS p.1 p.2.1 p.2.2 v.1 v.2 (fun c d=>a (c,d)) (b 0)⟩
def Dx:Å:=Ls 3 [tI,ah,am,tI,tI,am,ak,tI,tI,tI,tI,am] [tI,tI,tI,ab] ⟨73,.any::.var tI::.con tI::.con ah::.fn 92 []::.box 3 0::aN 5 (.own 4::.var tI::aN 7 [.con am,.con tI,.var tI]),cP⟩ [(.exit 2,⟨73,.any::.var tI::.con tI::.con ah::.fn 92 []::.box 3 0::aN 5 (.own 4::.var tI::aN 7 [.con am,.con tI]),cP⟩,[tI,tI,ab])]
def Dw (ρ:Type):ö ρ:=⟨[22,10],93,2,Dx,fun(p:Val (tyL Dx.cs)) (v:An) a b=>Ko p.1 p.2.1 p.2.2.1 p.2.2.2.1 v.1 v.2.1 v.2.2.1 v.2.2.2 (fun c d e f=>a (c,d,e,f)) (b 0)⟩
def Dz:Å:=Ls 3 [ah,tI,am,ak,tI,tI,tI,tI,am] [tI,tI,tI,ab] ⟨73,.any::.var tI::.var tI::.con ah::.fn 92 []::.box 3 0::aN 5 [.own 4,.var tI],cP⟩ [(.exit 0,⟨73,aN 3 (.con ah::.fn 92 []::.box 3 0::aN 5 [.own 4]),cP⟩,[ab])]
def Dy (ρ:Type):ö ρ:=⟨[22,10],93,0,Dz,fun(p:Val (tyL Dz.cs)) (v:An) a b=>AB p.1 p.2.2.2.2.2.2.2.2 v.1 v.2.1 v.2.2.1 v.2.2.2 (fun c d e f=>a (c,d,e,f)) (b 0)⟩
def DB:Å:=Ls 0 [tI,am,tI,tI,am,ak] [tI] ⟨93,.any::.box 0 0::aN 6 (.own 1::.any::.fn 92 []::.con tI::aN 37 [.con am,.con tI,.var tI]),[bP,.rowc ah]⟩ [(.exit 2,⟨93,.any::.box 0 0::aN 6 (.own 1::.any::.fn 92 []::.con tI::aN 37 [.con am,.con tI]),[bP,.rowc ah]⟩,[]),(.ret,⟨93,.any::.box 0 0::.own 2::.var tI::aN 4 (.own 1::.any::.fn 92 []::.con tI::aN 37 [.con am,.con tI]),[bP,.rowc ah,.rowv tI]⟩,[tI,ab]),(.exit 4,⟨93,.any::.box 0 0::aN 6 (.own 1::.any::.fn 92 []::.con tI::aN 37 [.con am,.con tI]),[bP,.rowc ah]⟩,[])]
def DA (ρ:Type):ö ρ:=⟨[],35,4,DB,fun(p:Val (tyL DB.cs)) (v:Int) b a=>oR p.1 p.2.1 p.2.2.1 p.2.2.2.1 p.2.2.2.2.1 p.2.2.2.2.2 v (fun c=>b c) (a 0) (a 1) (a 2)⟩
def DD:Å:=Ls 0 [tI,am,ak] [tI] ⟨93,.any::.box 0 0::aN 6 [.own 1,.any,.fn 92 [],.var tI],[bP,.rowc ah]⟩ [(.exit 2,⟨93,.any::.box 0 0::aN 6 [.own 1,.any,.fn 92 []],[bP,.rowc ah]⟩,[]),(.ret,⟨93,.any::.box 0 0::.own 2::.var tI::aN 4 [.own 1,.any,.fn 92 []],[bP,.rowc ah,.rowv tI]⟩,[tI,ab])]
def DC (ρ:Type):ö ρ:=⟨[],35,2,DD,fun(p:Val (tyL DD.cs)) (v:Int) b a=>tU p.1 p.2.1 p.2.2 v (fun c=>b c) (a 0) (a 1)⟩
def nF (ρ:Type):Env ρ:=Ø [(89,zb),(90,sL),(91,XD)] [DE ρ,Dw ρ,Dy ρ,DA ρ,DC ρ]
def Xn:ý:=⟨[Â],[ah,tI],fun(x:a8)=>HS x⟩
def QT:Å:=Ls 0 [ak,tI,tI,tI,ae,aa,af,ac,aa,aj] [tI,ah] ⟨46,.any::.box 0 0::aN 3 (.own 1::aN 13 [.con ak,.con tI,.var tI]),[bC,.rowv ab]⟩ [(.ret,⟨46,.any::.box 0 0::.nils::.var tI::.any::.own 1::aN 13 [.con ak,.con tI],[bC,.rowv ab]⟩,[tI,ah]),(.exit 0,⟨46,.any::.box 0 0::aN 3 (.own 1::aN 13 [.con ak,.con tI]),[bC,.rowv ab]⟩,[ah])]
def CT (ρ:Type):ö ρ:=⟨[],28,0,QT,fun(p:Val (.pair ak aG)) (v:px) b a=>let A:=p.2.2.2.2;tk p.1 p.2.1 p.2.2.1 p.2.2.2.1 A.1 A.2.1 A.2.2.1 A.2.2.2.1 A.2.2.2.2.1 A.2.2.2.2.2 v.1 v.2 (fun c d=>b (c,d)) (a 0) (a 1)⟩
def NP (ρ:Type):Env ρ:=Ø [(35,XG),(44,jj),(55,Bj),(71,mn),(80,uV)] [CT ρ]
def M7:ý:=⟨[Ô,ab],[tI],fun(x:Val (.pair Ô ab))=>xQ x.1 x.2⟩
def Lq:Å:=Ls 1 [ab,tI,tI,am] [tI] ⟨19,.con ab::.fn 182 [(0,0)]::aN 5 [.con tI,.var tI],[bP]⟩ [(.ret,⟨19,[.con ab,.fn 182 [(0,0)],.any,.any,.var tI,.any,.any,.con tI],[bP]⟩,[tI]),(.exit 0,⟨19,.con ab::.fn 182 [(0,0)]::aN 5 [.con tI],[bP]⟩,[])]
def yv (ρ:Type):ö ρ:=⟨[3,2,1,2],205,0,Lq,fun(p:Val (.pair ab aO)) (v:Int) b a=>og p.1 p.2.1 p.2.2.2 v (fun c=>b c) (a 0) (a 1)⟩
def GW (ρ:Type):Env ρ:=Ø [] [yv ρ]
def acr:ý:=⟨[Ô,tI,ab],[tI,tI,.bool],fun(x:Val (.pair Ô ĝ))=>Mi x.1 x.2.1 x.2.2⟩
def Vl:Å:=Ls 0 [ab,tI,tI,am] [tI,tI,tI] ⟨37,.any::.var tI::.any::.box 0 0::aN 5 [.var tI,.any,.any,.any,.con ab,.con tI,.var tI],[bP]⟩ [(.ret,⟨37,aN 3 (.box 0 0::aN 2 (.var tI::.var tI::.var .bool::aN 4 [.con ab,.con tI])),[bP]⟩,[tI,tI,.bool]),(.exit 0,⟨37,.any::.var tI::.any::.box 0 0::aN 5 [.var tI,.any,.any,.any,.con ab,.con tI],[bP]⟩,[tI,tI])]
def GP (ρ:Type):ö ρ:=⟨[],138,0,Vl,fun(p:Val (.pair ab aO)) (v:ry) b a=>xg p.1 p.2.1 p.2.2.2 v.1 v.2.1 v.2.2 (fun c d e=>b (c,d,e)) (a 0) (a 1)⟩
def Tj (ρ:Type):Env ρ:=Ø [] [GP ρ]
def CE:ý:=⟨[Ô,ab],[tI],fun(x:Val (.pair Ô ab))=>ol x.1 x.2⟩
def Ly (ρ:Type):Env ρ:=Ø [(89,zb),(137,M7),(138,acr)] []
def CC:ý:=⟨[Â,ah],[tI],fun(x:v8)=>lm x.1 x.2⟩
def rg:Å:=Ls 0 [ah,ak,tI,tI,tI,ae,aa,af,ac,aa,aj] [tI] ⟨47,.any::.con ah::.box 0 0::aN 21 [.con ak,.con tI,.var tI],[bC]⟩ [(.ret,⟨47,.any::.con ah::.box 0 0::.any::.var tI::aN 19 [.con ak,.con tI],[bC]⟩,[tI]),(.exit 0,⟨47,.any::.con ah::.box 0 0::aN 21 [.con ak,.con tI],[bC]⟩,[])]
def rc (ρ:Type):ö ρ:=⟨[],29,0,rg,fun(p:Val (tyL rg.cs)) (v:Int) b a=>let A:=p.2.2.2.2;let B:=A.2.2.2.2;ke p.1 p.2.1 p.2.2.1 p.2.2.2.1 A.1 A.2.1 A.2.2.1 A.2.2.2.1 B.1 B.2.1 B.2.2 v (fun c=>b c) (a 0) (a 1)⟩
def yk (ρ:Type):Env ρ:=Ø [(44,jj),(55,Bj),(71,mn),(80,uV),(81,CE)] [rc ρ]
def aci:ý:=⟨[Â],[ak,tI],fun(x:a8)=>Mb x⟩
def aes (ρ:Type):Env ρ:=Ø [(44,jj),(55,Bj)] []
def Ka:ý:=⟨[ac],[Â],fun(x:c7)=>Ų x⟩
def Qz (ρ:Type):Env ρ:=Ø [] []
def agw:ý:=⟨[Â],[ak,tI],fun(x:a8)=>VQ x⟩
def ag6 (ρ:Type):Env ρ:=Ø [(44,jj),(68,LV)] []
def Xo:ý:=⟨[Â],[ah,tI],fun(x:a8)=>HT x⟩
def aaz (ρ:Type):Env ρ:=Ø [(44,jj),(45,pJ)] []
def Xk:ý:=⟨[Â,ah],[.bool],fun(x:v8)=>HO x.1 x.2⟩
def kS:Tpl:=⟨13,[.any,.any,.box 2 0],[.cells [.con tI,.con tI,.con ae,.con aa,.con af,.con ac,.con aa,.con aj],.dead,.cells [.own 3],.rowv tI]⟩
def oa (ρ:Type):IC ρ:=⟨[7,8,1,1,1,1],259,0,3,[tI,tI,ae,aa,af,ac,aa,aj],[ab],kS,Hy,fun(p:u5) (v:an) y a=>zD v y (fun b=>a b)⟩
def QG:Å:=Ls 0 [ah,tI,tI,tI,ae,aa,af,ac,aa,aj] [tI] ⟨42,aN 2 (.box 0 0::aN 11 [.con ah,.con tI,.var tI]),[bC]⟩ [(.ret,⟨42,aN 2 (.box 0 0::.any::.var .bool::aN 9 [.con ah,.con tI]),[bC]⟩,[.bool]),(.exit 0,⟨42,aN 2 (.box 0 0::aN 11 [.con ah,.con tI]),[bC]⟩,[])]
def CJ (ρ:Type):ö ρ:=⟨[],139,0,QG,fun(p:rn) (v:Int) b a=>ta p.1 p.2.1 p.2.2.2.2.2.2.2.2.2 v (fun c=>b c) (a 0) (a 1)⟩
def Kh (ρ:Type):CK (IC ρ):=[oa ρ]
def ο (ρ:Type):Env ρ:={Ø [(183,Xj)] [CJ ρ] with ranges:=Ρ (Kh ρ)}
def Xm:ý:=⟨[Â,ah],[tI],fun(x:v8)=>HQ x.1 x.2⟩
def aay (ρ:Type):Env ρ:=Ø [(44,jj),(139,Xk)] []
def agv:ý:=⟨[Â,ah,tI,tI],[tI,tI],fun(x:r8)=>VP x.1 x.2.1 x.2.2.1 x.2.2.2⟩
def ag4 (ρ:Type):Env ρ:=Ø [(47,Fx),(69,IW),(82,Xm)] []
def Kc:ý:=⟨[ah,ah],[.bool],fun(x:Val (.pair ah ah))=>un x.1 x.2⟩
def Jf:Å:=Ls 0 [ah,ah] [tI] ⟨29,[.con ah,.con ah,.any,.any,.any,.var tI],[]⟩ [(.ret,⟨29,[.con ah,.con ah,.any,.any,.var .bool],[]⟩,[.bool]),(.exit 0,⟨29,[.con ah,.con ah],[]⟩,[])]
def vF (ρ:Type):ö ρ:=⟨[],43,0,Jf,fun(p:Val (.pair ah ah)) (v:Int) b a=>mI p.1 p.2 v (fun c=>b c) (a 0) (a 1)⟩
def Db (ρ:Type):Env ρ:=Ø [(17,pK)] [vF ρ]
def MW:ý:=⟨[],[.bool],fun(_:Unit)=>jS⟩
def FR (ρ:Type):Env ρ:=Ø [(9,Fy),(10,ack),(11,Kb),(17,pK),(22,IY),(28,Xn),(29,CC),(38,aci),(39,Ka),(40,agw),(41,Xo),(42,agv),(43,Kc)] []
def Eb:ý:=⟨[tI,tI,tI],[.bool],fun(x:ry)=>kO x.1 x.2.1 x.2.2⟩
def ag9 (ρ:Type):Env ρ:=Ø [] []
def Bl:ý:=⟨[tI],[.bool],fun(x:Int)=>qp x⟩
def aeu (ρ:Type):Env ρ:=Ø [(76,Eb)] []
def acm:ý:=⟨[ab,tI],[.bool],fun(x:nj)=>Mg x.1 x.2⟩
def Vh:Å:=Ls 0 [ab,tI] [tI] ⟨18,[.con ab,.con tI,.any,.any,.any,.var tI],[]⟩ [(.ret,⟨18,[.con ab,.con tI,.any,.any,.var .bool],[]⟩,[.bool]),(.exit 0,⟨18,[.con ab,.con tI],[]⟩,[])]
def GN (ρ:Type):ö ρ:=⟨[],125,0,Vh,fun(p:nj) (v:Int) b a=>xe p.1 p.2 v (fun c=>b c) (a 0) (a 1)⟩
def Td (ρ:Type):Env ρ:=Ø [] [GN ρ]
def M4:ý:=⟨[ab,ab],[ab],fun(x:l7)=>lq x.1 x.2⟩
def Rk:Å:=Ls 0 [ab,ab] [tI,ab] ⟨28,[.con ab,.con ab,.any,.any,.any,.own 0,.var tI],cg⟩ [(.exit 0,⟨28,[.con ab,.con ab,.any,.any,.any,.own 0],cg⟩,[ab])]
def Dq (ρ:Type):ö ρ:=⟨[],66,0,Rk,fun(p:l7) (v:ge) a b=>tP p.1 p.2 v.1 v.2 (fun c d=>a (c,d)) (b 0)⟩
def Oy (ρ:Type):Env ρ:=Ø [(125,acm)] [Dq ρ]
def LW:ý:=⟨[ab,ab],[tI],fun(x:l7)=>qo x.1 x.2⟩
def aet (ρ:Type):Env ρ:=Ø [(66,M4)] []
def Xt:ý:=⟨[Ë,Ù,tI],[.bool],fun(x:Val (.pair Ë (.pair Ù tI)))=>HY x.1 x.2.1 x.2.2⟩
def Rc:Å:=Ls 0 [tI,tI,tI,ae,aa,af,ac,aa,tI,tI,tI,tI,tI,tI,tI,tI] [tI] ⟨76,[.any,.any,.con tI,.box 0 0,.box 1 0,.any,.any,.var tI],[bu,bv]⟩ [(.ret,⟨76,[.any,.any,.con tI,.box 0 0,.box 1 0,.any,.var .bool],[bu,bv]⟩,[.bool]),(.exit 0,⟨76,[.any,.any,.con tI,.box 0 0,.box 1 0],[bu,bv]⟩,[])]
def Df (ρ:Type):ö ρ:=⟨[],143,0,Rc,fun(p:Val aq) (v:Int) b a=>tG p.1 p.2.2.2.2.2.2.1 p.2.2.2.2.2.2.2.2.1 v (fun c=>b c) (a 0) (a 1)⟩
def Rb:Å:=Ls 0 [tI,tI,tI,ae,aa,af,ac,aa,tI,tI,tI,tI,tI,tI,tI,tI] [tI] ⟨76,aN 2 (.con tI::.box 0 0::.box 1 0::aN 4 [.var tI]),[bu,bv]⟩ [(.ret,⟨76,[.any,.any,.con tI,.box 0 0,.box 1 0,.any,.var .bool],[bu,bv]⟩,[.bool]),(.exit 2,⟨76,[.any,.any,.con tI,.box 0 0,.box 1 0],[bu,bv]⟩,[])]
def De (ρ:Type):ö ρ:=⟨[],143,2,Rb,fun(p:Val aq) (v:Int) b a=>oO p.1 p.2.2.2.2.2.2.2.1 p.2.2.2.2.2.2.2.2.1 v (fun c=>b c) (a 0) (a 1)⟩
def EJ (ρ:Type):Env ρ:=Ø [(146,LW)] [Df ρ,De ρ]
def uS:ý:=⟨[Ë],[aa],fun(x:b6)=>kv x⟩
def Oq:Å:=Ls 0 [tI,tI,ae,aa,af,ac,aa] [tI,ab] ⟨114,[.any,.box 0 0,.any,.own 1,.var tI],cQ⟩ [(.exit 0,⟨114,[.any,.box 0 0,.any,.own 1],cQ⟩,[ab])]
def Ah (ρ:Type):ö ρ:=⟨[],85,0,Oq,fun(p:Val ao) (v:ge) a b=>pZ p.2.2.1 v.1 v.2 (fun c d=>a (c,d)) (b 0)⟩
def Oo:Å:=Ls 0 [tI,tI,ae,aa,af,ac,aa] [tI,ab] ⟨114,[.any,.box 0 0,.any,.own 1,.any,.var tI],cQ⟩ [(.exit 2,⟨114,[.any,.box 0 0,.any,.own 1],cQ⟩,[ab])]
def Ag (ρ:Type):ö ρ:=⟨[],85,2,Oo,fun(p:Val ao) (v:ge) a b=>pY p.2.2.2.2.2.1 v.1 v.2 (fun c d=>a (c,d)) (b 0)⟩
def On:Å:=Ls 0 [tI,tI,ae,aa,af,ac,aa] [tI,ab] ⟨114,[.any,.box 0 0,.any,.own 1,.any,.any,.var tI],cQ⟩ [(.exit 4,⟨114,[.any,.box 0 0,.any,.own 1],cQ⟩,[ab])]
def Af (ρ:Type):ö ρ:=⟨[],85,4,On,fun(p:Val ao) (v:ge) a b=>pX p.2.2.2.2.2.2 v.1 v.2 (fun c d=>a (c,d)) (b 0)⟩
def Aa:Å:=Ls 0 [tI,tI,tI,tI,ae,aa,af,ac,aa,ab,aa] [tI,tI] ⟨114,[.any,.box 0 0,.any,.own 1,.any,.any,.any,.own 2,.con tI,.con tI,.var tI,.var tI],[bu,.rowc tI,.rowc Ç]⟩ [(.exit 10,⟨114,[.any,.box 0 0,.any,.own 1,.any,.any,.any,.own 2,.con tI,.con tI,.var tI],[bu,.rowc tI,.rowc Ç]⟩,[tI])]
def zZ (ρ:Type):ö ρ:=⟨[],85,10,Aa,fun(p:Val (tyL Aa.cs)) (v:bx) a b=>mK p.2.1 p.2.2.2.2.2.2.2.2.2.1 v.1 v.2 (fun c d=>a (c,d)) (b 0)⟩
def Ac:Å:=Ls 0 [tI,tI,tI,ae,aa,af,ac,aa,ab] [tI,aa] ⟨114,[.any,.box 0 0,.any,.own 1,.any,.any,.any,.own 2,.con tI,.var tI],cR⟩ [(.exit 8,⟨114,[.any,.box 0 0,.any,.own 1,.any,.any,.any,.own 2,.con tI],cR⟩,[aa])]
def Ab (ρ:Type):ö ρ:=⟨[],85,8,Ac,fun(p:Val (tyL Ac.cs)) (v:nm) a b=>let A:=p.2.2.2.2;mL p.1 p.2.1 p.2.2.1 p.2.2.2.1 A.1 A.2.1 A.2.2.1 A.2.2.2.1 A.2.2.2.2 v.1 v.2 (fun c d=>a (c,d)) (b 0)⟩
def Ae:Å:=Ls 0 [tI,tI,ae,aa,af,ac,aa,ab] [tI,aa] ⟨114,[.any,.box 0 0,.any,.own 1,.any,.any,.any,.own 2,.var tI],cR⟩ [(.exit 6,⟨114,[.any,.box 0 0,.any,.own 1,.any,.any,.any,.own 2],cR⟩,[aa])]
def Ad (ρ:Type):ö ρ:=⟨[],85,6,Ae,fun(p:Val (tyL Ae.cs)) (v:nm) a b=>let A:=p.2.2.2.2;pW p.1 p.2.1 p.2.2.1 p.2.2.2.1 A.1 A.2.1 A.2.2.1 A.2.2.2 v.1 v.2 (fun c d=>a (c,d)) (b 0)⟩
def jM (ρ:Type):Env ρ:=Ø [(143,Xt)] [Ah ρ,Ag ρ,Af ρ,zZ ρ,Ab ρ,Ad ρ]
def Bk:ý:=⟨[Ë,Ç],[tI],fun(x:AS)=>iO x.1 x.2⟩
def Oz:Å:=Ls 0 [aa,tI,tI] [tI] ⟨23,[.any,.any,.any,.box 0 0,.any,.con aa,.var tI],[bM]⟩ [(.ret,⟨23,[.any,.any,.any,.box 0 0,.var tI,.con aa],[bM]⟩,[tI]),(.exit 0,⟨23,[.any,.any,.any,.box 0 0,.any,.con aa],[bM]⟩,[])]
def Ai (ρ:Type):ö ρ:=⟨[],78,0,Oz,fun(p:Val (.pair aa Ç)) (v:Int) b a=>p8 p.1 p.2.1 p.2.2 v (fun c=>b c) (a 0) (a 1)⟩
def Kn (ρ:Type):Env ρ:=Ø [(85,uS)] [Ai ρ]
def qT:ý:=⟨[Ë,tI],[tI],fun(x:Val bm)=>jm x.1 x.2⟩
def Rm:Å:=Ls 0 [tI,tI,tI,ae,aa,af,ac,aa] [tI] ⟨22,[.any,.con tI,.box 0 0,.any,.any,.var tI],[bu]⟩ [(.ret,⟨22,[.any,.con tI,.box 0 0,.any,.var tI],[bu]⟩,[tI]),(.exit 0,⟨22,[.any,.con tI,.box 0 0],[bu]⟩,[])]
def Dr (ρ:Type):ö ρ:=⟨[],15,0,Rm,fun(p:Val (.pair tI ao)) (v:Int) b a=>tQ p.1 p.2.2.2.1 v (fun c=>b c) (a 0) (a 1)⟩
def OC (ρ:Type):Env ρ:=Ø [] [Dr ρ]
def FC:ý:=⟨[Ë,tI,tI],[χ,.bool],fun(x:AS)=>jV x.1 x.2.1 x.2.2⟩
def Dp:Å:=Ls 0 [tI,tI,tI,tI,ae,aa,af,ac,aa] [tI,tI,tI,tI,tI] ⟨42,[.any,.con tI,.con tI,.box 0 0,.any,.any,.box 1 0,.any,.var tI],[bu,b7]⟩ [(.ret,⟨42,[.any,.con tI,.con tI,.box 0 0,.any,.any,.box 1 0,.var .bool],[bu,b7]⟩,[.bool,tI,tI,tI,tI]),(.exit 0,⟨42,[.any,.con tI,.con tI,.box 0 0,.any,.any,.box 1 0],[bu,b7]⟩,[tI,tI,tI,tI])]
def Dn (ρ:Type):ö ρ:=⟨[],64,0,Dp,fun(p:Val (tyL Dp.cs)) (v:Val aQ) b a=>tO p.1 p.2.1 p.2.2.2.2.2.2.1 v.1 v.2.1 v.2.2.1 v.2.2.2.1 v.2.2.2.2 (fun c d e f g=>b (c,d,e,f,g)) (a 0) (a 1)⟩
def Ow (ρ:Type):Env ρ:=Ø [] [Dn ρ]
def Xu:ý:=⟨[Ë,tI,tI],[.bool],fun(x:AS)=>HZ x.1 x.2.1 x.2.2⟩
def Dh:Å:=Ls 0 [tI,tI,tI,tI,ae,aa,af,ac,aa] [tI] ⟨33,[.any,.con tI,.con tI,.box 0 0,.any,.any,.any,.var tI],[bu]⟩ [(.ret,⟨33,[.any,.con tI,.con tI,.box 0 0,.any,.any,.var .bool],[bu]⟩,[.bool]),(.exit 0,⟨33,[.any,.con tI,.con tI,.box 0 0],[bu]⟩,[])]
def Dg (ρ:Type):ö ρ:=⟨[],188,0,Dh,fun(p:Val (tyL Dh.cs)) (v:Int) b a=>tJ p.1 p.2.1 p.2.2.2.2.2.1 v (fun c=>b c) (a 0) (a 1)⟩
def Og (ρ:Type):Env ρ:=Ø [] [Dg ρ]
def Xy:ý:=⟨[Ë,tI,tI,tI],[tI],fun(x:Val (.pair Ë ę))=>wj x.1 x.2.1 x.2.2.1 x.2.2.2⟩
def Dm:Å:=Ls 0 [tI,tI,tI,tI,tI,ae,aa,af,ac,aa] [tI,tI] ⟨48,.any::.con tI::.any::.con tI::.box 0 0::aN 4 [.con tI,.var tI,.var tI],[bu]⟩ [(.exit 0,⟨48,.any::.con tI::.any::.con tI::.box 0 0::aN 4 [.con tI,.var tI],[bu]⟩,[tI])]
def Dl (ρ:Type):ö ρ:=⟨[],144,0,Dm,fun(p:Val (tyL Dm.cs)) (v:bx) a b=>let A:=p.2.2.2.2;tN p.1 p.2.1 p.2.2.1 p.2.2.2.1 A.1 A.2.1 A.2.2.1 A.2.2.2.1 A.2.2.2.2.1 A.2.2.2.2.2 v.1 v.2 (fun c d=>a (c,d)) (b 0)⟩
def Ou (ρ:Type):Env ρ:=Ø [(15,qT),(64,FC),(188,Xu)] [Dl ρ]
def UA:ý:=⟨[tI,tI],[tI],fun(x:bx)=>BL x.1 x.2⟩
def Vk:Å:=Ls 0 [] [tI,tI] ⟨14,[.var tI,.var tI],[]⟩ [(.exit 0,⟨14,[.var tI],[]⟩,[tI])]
def GO (ρ:Type):ö ρ:=⟨[],209,0,Vk,fun(p:Unit) (v:bx) a b=>xf v.1 v.2 (fun c d=>a (c,d)) (b 0)⟩
def Th (ρ:Type):Env ρ:=Ø [] [GO ρ]
def UB:ý:=⟨[tI],[tI],fun(x:Int)=>H8 x⟩
def aez (ρ:Type):Env ρ:=Ø [] []
def Ec:ý:=⟨[tI,tI],[mf],fun(x:bx)=>sa x.1 x.2⟩
def Vj (ρ:Type):Env ρ:=Ø [(209,UA),(210,UB)] []
def acq:ý:=⟨[Ç,Ç],[mf],fun(x:ly)=>VU x.1 x.2⟩
def aey (ρ:Type):Env ρ:=Ø [(274,Ec)] []
def aco:ý:=⟨[Ç],[Ç],fun(x:bx)=>VT x⟩
def aew (ρ:Type):Env ρ:=Ø [] []
def acn:ý:=⟨[Ç,Ç],[mf],fun(x:ly)=>Mh x.1 x.2⟩
def aev (ρ:Type):Env ρ:=Ø [(260,acq),(261,aco)] []
def Sw:ý:=⟨[Ë,tI],[Ç],fun(x:Val bm)=>wg x.1 x.2⟩
def Yo (ρ:Type):Env ρ:=Ø [(15,qT)] []
def XB:ý:=⟨[mf,mf],[Fl],fun(x:Val (.pair mf mf))=>H6 x.1 x.2⟩
def aaD (ρ:Type):Env ρ:=Ø [] []
def acp:ý:=⟨[Ç,Ç],[mf],fun(x:ly)=>xP x.1 x.2⟩
def aex (ρ:Type):Env ρ:=Ø [(274,Ec)] []
def SB:ý:=⟨[Ġ,Ç],[Fl],fun(x:Val (.pair Ġ Ç))=>BK x.1 x.2⟩
def YF (ρ:Type):Env ρ:=Ø [(262,XB),(263,acp)] []
def M5:ý:=⟨[Ë,Ú],[Ġ],fun(x:Val aY)=>xO x.1 x.2⟩
def Vi (ρ:Type):Env ρ:=Ø [(146,LW),(231,acn),(232,Sw),(233,SB)] []
def Sy:ý:=⟨[Ë,Ú],[Ç],fun(x:Val aY)=>BI x.1 x.2⟩
def YB (ρ:Type):Env ρ:=Ø [] []
def agy:ý:=⟨[tI,tI],[tI],fun(x:bx)=>aa8 x.1 x.2⟩
def ahb (ρ:Type):Env ρ:=Ø [] []
def XC:ý:=⟨[Ç],[tI],fun(x:bx)=>H7 x⟩
def aaE (ρ:Type):Env ρ:=Ø [(234,agy)] []
def XA:ý:=⟨[tI,tI],[tI],fun(x:bx)=>PN x.1 x.2⟩
def aaC (ρ:Type):Env ρ:=Ø [] []
def SD:ý:=⟨[Ç],[tI],fun(x:bx)=>BM x⟩
def YG (ρ:Type):Env ρ:=Ø [(235,XA)] []
def Xv:ý:=⟨[Ë,Ú],[Ç],fun(x:Val aY)=>wi x.1 x.2⟩
def aaA (ρ:Type):Env ρ:=Ø [(189,M5),(190,Sy),(191,XC),(192,SD)] []
def Uz:ý:=⟨[Ë],[Cw],fun(x:b6)=>xN x⟩
def Ve:Å:=Ls 0 [aa,tI,tI,tI,ae,aa,af,ac,aa,tI,tI,tI,tI,tI,tI,tI,tI] [tI,am,aa] ⟨182,[.any,.box 0 0,.box 1 0,.box 2 0,.con aa,.con tI,.box 3 0,.var tI],[bu,b8,.cells [.own 4,.own 5],bv,.rowv ę,.rowv Ç]⟩ [(.exit 2,⟨182,[.any,.box 0 0,.box 1 0,.box 2 0,.con aa,.con tI,.box 3 0],[bu,b8,.cells [.own 4,.own 5],bv,.rowv ę,.rowv Ç]⟩,[am,aa])]
def GI (ρ:Type):ö ρ:=⟨[],94,2,Ve,fun(p:Val (.pair aa aq)) (v:wl) a b=>let A:=p.2.2.2.2;let B:=A.2.2.2.2;rJ p.1 p.2.1 p.2.2.1 p.2.2.2.1 A.1 A.2.1 A.2.2.1 A.2.2.2.1 B.1 B.2.1 B.2.2.1 B.2.2.2.1 B.2.2.2.2.1 B.2.2.2.2.2.1 v.1 v.2.1 v.2.2 (fun c d e=>a (c,d,e)) (b 0)⟩
def Vf:Å:=Ls 0 [aa,tI,tI,ae,aa,af,ac,aa] [tI,am,aa] ⟨182,[.any,.box 0 0,.box 1 0,.box 2 0,.con aa,.var tI],cS⟩ [(.exit 0,⟨182,[.any,.box 0 0,.box 1 0,.box 2 0,.con aa],cS⟩,[am,aa])]
def GJ (ρ:Type):ö ρ:=⟨[],94,0,Vf,fun(p:Val (.pair aa ao)) (v:wl) a b=>let A:=p.2.2.2.2;xd p.1 p.2.1 p.2.2.1 p.2.2.2.1 A.1 A.2.1 A.2.2.1 A.2.2.2 v.1 v.2.1 v.2.2 (fun c d e=>a (c,d,e)) (b 0)⟩
def Vd:Å:=Ls 0 [tI,tI,ae,aa,af,ac,aa] [tI,am,aa] ⟨182,.any::.box 0 0::.box 1 0::.box 2 0::aN 5 [.var tI],cS⟩ [(.exit 4,⟨182,[.any,.box 0 0,.box 1 0,.box 2 0],cS⟩,[am,aa])]
def GH (ρ:Type):ö ρ:=⟨[],94,4,Vd,fun(p:Val ao) (v:wl) a b=>let A:=p.2.2.2.2;xc p.1 p.2.1 p.2.2.1 p.2.2.2.1 A.1 A.2.1 A.2.2 v.1 v.2.1 v.2.2 (fun c d e=>a (c,d,e)) (b 0)⟩
def Bq (ρ:Type):Env ρ:=Ø [(78,Bk),(85,uS),(144,Xy),(146,LW),(151,Xv)] [GI ρ,GJ ρ,GH ρ]
def ot:ý:=⟨[Ç,tI,tI],[.bool],fun(x:ly)=>jU x.1 x.2.1 x.2.2⟩
def Ra (ρ:Type):Env ρ:=Ø [] []
def Sz:ý:=⟨[Ç],[.bool],fun(x:bx)=>BJ x⟩
def YE (ρ:Type):Env ρ:=Ø [(209,UA),(210,UB)] []
def Sx:ý:=⟨[Ù],[.bool],fun(x:pi)=>BH x⟩
def Yp (ρ:Type):Env ρ:=Ø [(25,Bl),(76,Eb),(117,ot),(172,Sz)] []
def qD:ý:=⟨[Ë,tI,tI],[tI],fun(x:AS)=>jv x.1 x.2.1 x.2.2⟩
def Ys (ρ:Type):Env ρ:=Ø [(15,qT)] []
def Xs:ý:=⟨[Ë],[tI],fun(x:b6)=>HX x⟩
def Q9:Å:=Ls 0 [tI,tI,ae,aa,af,ac,aa] [tI] ⟨37,[.any,.box 0 0,.any,.var tI],[bu]⟩ [(.ret,⟨37,[.any,.box 0 0,.var tI],[bu]⟩,[tI]),(.exit 0,⟨37,[.any,.box 0 0],[bu]⟩,[])]
def Dc (ρ:Type):ö ρ:=⟨[],119,0,Q9,fun(p:Val ao) (v:Int) b a=>let A:=p.2.2.2.2;tB p.1 p.2.1 p.2.2.1 p.2.2.2.1 A.1 A.2.1 A.2.2 v (fun c=>b c) (a 0) (a 1)⟩
def N8 (ρ:Type):Env ρ:=Ø [(25,Bl),(123,qD)] [Dc ρ]
def Sv:ý:=⟨[Ë],[tI],fun(x:b6)=>BG x⟩
def Oa:Å:=Ls 0 [tI,tI,tI,ae,aa,af,ac,aa,tI,tI,tI,tI] [tI] ⟨111,[.any,.box 0 0,.any,.con tI,.box 1 0,.any,.var tI],ci⟩ [(.ret,⟨111,[.any,.box 0 0,.var tI,.con tI,.box 1 0],ci⟩,[tI]),(.exit 2,⟨111,[.any,.box 0 0,.any,.con tI,.box 1 0],ci⟩,[])]
def zW (ρ:Type):ö ρ:=⟨[],120,2,Oa,fun(p:Val aH) (v:Int) b a=>let A:=p.2.2.2.2.2;pU p.1 A.1 A.2.2.2.1 A.2.2.2.2.1 A.2.2.2.2.2.1 v (fun c=>b c) (a 0) (a 1)⟩
def N9:Å:=Ls 0 [tI,tI,tI,ae,aa,af,ac,aa,tI,tI,tI,tI] [tI] ⟨111,[.any,.box 0 0,.any,.con tI,.box 1 0,.any,.any,.var tI],ci⟩ [(.ret,⟨111,[.any,.box 0 0,.var tI,.con tI,.box 1 0],ci⟩,[tI]),(.exit 4,⟨111,[.any,.box 0 0,.any,.con tI,.box 1 0],ci⟩,[])]
def zV (ρ:Type):ö ρ:=⟨[],120,4,N9,fun(p:Val aH) (v:Int) b a=>let A:=p.2.2.2.2;let B:=A.2.2.2.2;mJ A.1 B.1 B.2.1 B.2.2.1 v (fun c=>b c) (a 0) (a 1)⟩
def Ob:Å:=Ls 0 [tI,tI,ae,aa,af,ac,aa] [tI] ⟨111,[.any,.box 0 0,.any,.var tI],[bu]⟩ [(.ret,⟨111,[.any,.box 0 0,.var tI],[bu]⟩,[tI]),(.exit 0,⟨111,[.any,.box 0 0],[bu]⟩,[])]
def zX (ρ:Type):ö ρ:=⟨[],120,0,Ob,fun(p:Val ao) (v:Int) b a=>let A:=p.2.2.2.2;pV p.1 p.2.1 p.2.2.1 p.2.2.2.1 A.1 A.2.1 A.2.2 v (fun c=>b c) (a 0) (a 1)⟩
def tC (ρ:Type):Env ρ:=Ø [(76,Eb),(117,ot),(123,qD)] [zW ρ,zV ρ,zX ρ]
def Xw:ý:=⟨[ab],[.bool],fun(x:an)=>AQ x⟩
def Rh:Å:=Ls 0 [ab] [tI] ⟨35,[.con ab,.any,.any,.var tI],[]⟩ [(.ret,⟨35,[.con ab,.any,.var .bool],[]⟩,[.bool]),(.exit 0,⟨35,[.con ab],[]⟩,[])]
def Di (ρ:Type):ö ρ:=⟨[],173,0,Rh,fun(p:an) (v:Int) b a=>tM p v (fun c=>b c) (a 0) (a 1)⟩
def Oj (ρ:Type):Env ρ:=Ø [(76,Eb)] [Di ρ]
def Su:ý:=⟨[Ú],[.bool],fun(x:i4)=>BF x⟩
def Yn (ρ:Type):Env ρ:=Ø [(25,Bl),(76,Eb),(117,ot),(173,Xw)] []
def FB:ý:=⟨[Ë,Ú],[tI],fun(x:Val aY)=>ku x.1 x.2⟩
def GG:Å:=Ls 0 [tI,tI,ae,aa,af,ac,aa,tI,tI,ab,ab,tI,tI,tI,tI,ab] [tI] ⟨90,[.any,.any,.box 0 0,.box 1 0,.any,.own 2,.var tI],cj⟩ [(.ret,⟨90,[.any,.any,.box 0 0,.box 1 0,.var tI,.own 2],cj⟩,[tI]),(.exit 0,⟨90,[.any,.any,.box 0 0,.box 1 0,.any,.own 2],cj⟩,[])]
def tF (ρ:Type):ö ρ:=⟨[],122,0,GG,fun(p:Val aw) (v:Int) b a=>let A:=p.2.2.2.2;lK p.1 p.2.1 p.2.2.1 p.2.2.2.1 A.1 A.2.1 A.2.2.1 A.2.2.2.2.2.2.2.2.2.2.2 v (fun c=>b c) (a 0) (a 1)⟩
def GF:Å:=Ls 0 [tI,tI,ae,aa,af,ac,aa,tI,tI,ab,ab,tI,tI,tI,tI,ab] [tI] ⟨90,[.any,.any,.box 0 0,.box 1 0,.any,.own 2,.any,.var tI],cj⟩ [(.ret,⟨90,[.any,.any,.box 0 0,.box 1 0,.var tI,.own 2],cj⟩,[tI]),(.exit 2,⟨90,[.any,.any,.box 0 0,.box 1 0,.any,.own 2],cj⟩,[])]
def tE (ρ:Type):ö ρ:=⟨[],122,2,GF,fun(p:Val aw) (v:Int) b a=>let A:=p.2.2.2.2;jl p.1 p.2.1 p.2.2.1 p.2.2.2.1 A.1 A.2.1 A.2.2.1 A.2.2.2.2.1 A.2.2.2.2.2.2.2.2.2.2.2 v (fun c=>b c) (a 0) (a 1)⟩
def GD:Å:=Ls 0 [tI,tI,ae,aa,af,ac,aa,tI,tI,ab,ab,tI,tI,tI,tI,ab] [tI] ⟨90,[.any,.any,.box 0 0,.box 1 0,.any,.own 2,.any,.any,.var tI],cj⟩ [(.ret,⟨90,[.any,.any,.box 0 0,.box 1 0,.var tI,.own 2],cj⟩,[tI]),(.exit 4,⟨90,[.any,.any,.box 0 0,.box 1 0,.any,.own 2],cj⟩,[])]
def tD (ρ:Type):ö ρ:=⟨[],122,4,GD,fun(p:Val aw) (v:Int) b a=>let A:=p.2.2.2.2;Μ p.1 p.2.1 p.2.2.1 p.2.2.2.1 A.1 A.2.1 A.2.2.1 A.2.2.2.2.1 A.2.2.2.2.2.2.2.2.2.2.2 v (fun c=>b c) (a 0) (a 1)⟩
def jL (ρ:Type):Env ρ:=Ø [(15,qT),(64,FC),(66,M4),(123,qD)] [tF ρ,tE ρ,tD ρ]
def IZ:ý:=⟨[Ë],[tI],fun(x:b6)=>nP x⟩
def OH:Å:=Ls 0 [tI,tI,ae,aa,af,ac,aa] [tI] ⟨170,[.any,.box 0 0,.any,.var tI],[bu]⟩ [(.ret,⟨170,[.any,.box 0 0,.var tI],[bu]⟩,[tI]),(.exit 0,⟨170,[.any,.box 0 0],[bu]⟩,[])]
def Ao (ρ:Type):ö ρ:=⟨[],62,0,OH,fun(p:Val ao) (v:Int) b a=>qd p.2.2.1 v (fun c=>b c) (a 0) (a 1)⟩
def OE:Å:=Ls 0 [tI,tI,tI,ae,aa,af,ac,aa] [tI] ⟨170,.any::.box 0 0::aN 4 [.con tI,.any,.var tI],[bu]⟩ [(.ret,⟨170,[.any,.box 0 0,.var tI,.any,.any,.any,.con tI],[bu]⟩,[tI]),(.exit 4,⟨170,.any::.box 0 0::aN 4 [.con tI],[bu]⟩,[])]
def Ak (ρ:Type):ö ρ:=⟨[],62,4,OE,fun(p:Val (.pair tI ao)) (v:Int) b a=>p9 p.1 p.2.2.2.2.2.2.1 v (fun c=>b c) (a 0) (a 1)⟩
def OG:Å:=Ls 0 [tI,tI,ae,aa,af,ac,aa] [tI] ⟨170,.any::.box 0 0::aN 4 [.var tI],[bu]⟩ [(.ret,⟨170,[.any,.box 0 0,.var tI],[bu]⟩,[tI]),(.exit 2,⟨170,[.any,.box 0 0],[bu]⟩,[])]
def Al (ρ:Type):ö ρ:=⟨[],62,2,OG,fun(p:Val ao) (v:Int) b a=>let A:=p.2.2.2.2;kp p.1 p.2.1 p.2.2.1 p.2.2.2.1 A.1 A.2.1 A.2.2 v (fun c=>b c) (a 0) (a 1)⟩
def OD:Å:=Ls 0 [tI,tI,ae,aa,af,ac,aa] [tI] ⟨170,.any::.box 0 0::aN 7 [.var tI],[bu]⟩ [(.ret,⟨170,[.any,.box 0 0,.var tI],[bu]⟩,[tI]),(.exit 6,⟨170,[.any,.box 0 0],[bu]⟩,[])]
def Aj (ρ:Type):ö ρ:=⟨[],62,6,OD,fun(p:Val ao) (v:Int) b a=>let A:=p.2.2.2.2;km p.1 p.2.1 p.2.2.1 p.2.2.2.1 A.1 A.2.1 A.2.2 v (fun c=>b c) (a 0) (a 1)⟩
def l8 (ρ:Type):Env ρ:=Ø [(25,Bl),(85,uS),(94,Uz),(117,ot),(118,Sx),(119,Xs),(120,Sv),(121,Su),(122,FB),(123,qD)] [Ao ρ,Ak ρ,Al ρ,Aj ρ]
def acl:ý:=⟨[Ë,ĝ],[tI],fun(x:Val (.pair Ë ĝ))=>Me x.1 x.2⟩
def U8:Å:=Ls 0 [tI,tI,ae,aa,af,ac,aa,tI,ab] [tI] ⟨70,[.any,.any,.box 0 0,.box 1 0,.any,.var tI],cm⟩ [(.ret,⟨70,[.any,.any,.box 0 0,.box 1 0,.var tI],cm⟩,[tI]),(.exit 0,⟨70,[.any,.any,.box 0 0,.box 1 0],cm⟩,[])]
def Gx (ρ:Type):ö ρ:=⟨[],63,0,U8,fun(p:Val aF) (v:Int) b a=>wV p.2.2.2.2.2.2.2.2 v (fun c=>b c) (a 0) (a 1)⟩
def U7:Å:=Ls 0 [tI,tI,ae,aa,af,ac,aa,tI,ab] [tI] ⟨70,[.any,.any,.box 0 0,.box 1 0,.any,.any,.var tI],cm⟩ [(.ret,⟨70,[.any,.any,.box 0 0,.box 1 0,.var tI],cm⟩,[tI]),(.exit 2,⟨70,[.any,.any,.box 0 0,.box 1 0],cm⟩,[])]
def Gw (ρ:Type):ö ρ:=⟨[],63,2,U7,fun(p:Val aF) (v:Int) b a=>let A:=p.2.2.2.2;EE p.1 p.2.1 p.2.2.1 p.2.2.2.1 A.1 A.2.1 A.2.2.1 A.2.2.2.2 v (fun c=>b c) (a 0) (a 1)⟩
def U6:Å:=Ls 0 [tI,tI,ae,aa,af,ac,aa,tI,ab] [tI] ⟨70,[.any,.any,.box 0 0,.box 1 0,.any,.any,.any,.var tI],cm⟩ [(.ret,⟨70,[.any,.any,.box 0 0,.box 1 0,.var tI],cm⟩,[tI]),(.exit 4,⟨70,[.any,.any,.box 0 0,.box 1 0],cm⟩,[])]
def Gv (ρ:Type):ö ρ:=⟨[],63,4,U6,fun(p:Val aF) (v:Int) b a=>let A:=p.2.2.2.2;ED p.1 p.2.1 p.2.2.1 p.2.2.2.1 A.1 A.2.1 A.2.2.1 A.2.2.2.1 A.2.2.2.2 v (fun c=>b c) (a 0) (a 1)⟩
def Bo (ρ:Type):Env ρ:=Ø [(15,qT),(76,Eb),(123,qD)] [Gx ρ,Gw ρ,Gv ρ]
def Ss:ý:=⟨[Â],[tI],fun(x:a8)=>BD x⟩
def zS:Å:=Ls 0 [tI,tI,tI,ae,aa,af,ac,aa,aj,tI,ab] [tI,tI] ⟨99,[.any,.box 0 0,.any,.any,.var tI,.con tI,.box 1 0,.var tI],[bC,bD]⟩ [(.ret,⟨99,[.any,.box 0 0,.var tI,.any,.any,.con tI,.box 1 0],[bC,bD]⟩,[tI]),(.exit 2,⟨99,[.any,.box 0 0,.any,.any,.var tI,.con tI,.box 1 0],[bC,bD]⟩,[tI])]
def zR (ρ:Type):ö ρ:=⟨[],12,2,zS,fun(p:Val (tyL zS.cs)) (v:bx) b a=>let A:=p.2.2.2.2;ja p.2.1 p.2.2.1 p.2.2.2.1 A.1 A.2.1 A.2.2.1 A.2.2.2.1 A.2.2.2.2.2.1 A.2.2.2.2.2.2 v.1 v.2 (fun c d=>b (c,d)) (a 0) (a 1)⟩
def N6:Å:=Ls 0 [tI,tI,ae,aa,af,ac,aa,aj] [tI,tI] ⟨99,[.any,.box 0 0,.any,.any,.var tI,.var tI],[bC]⟩ [(.ret,⟨99,[.any,.box 0 0,.var tI],[bC]⟩,[tI]),(.exit 0,⟨99,[.any,.box 0 0,.any,.any,.var tI],[bC]⟩,[tI])]
def zT (ρ:Type):ö ρ:=⟨[],12,0,N6,fun(p:u5) (v:bx) b a=>let A:=p.2.2.2.2;pT p.1 p.2.1 p.2.2.1 p.2.2.2.1 A.1 A.2.1 A.2.2.1 A.2.2.2 v.1 v.2 (fun c d=>b (c,d)) (a 0) (a 1)⟩
def zU (ρ:Type):Env ρ:=Ø [(62,IZ),(63,acl),(64,FC)] [zR ρ,zT ρ]
def acj:ý:=⟨[Â],[ab,tI],fun(x:a8)=>Mc x⟩
def Gb:Å:=Ls 3 [ak,tI,tI,tI,ae,aa,af,ac,aa,aj,ab,tI,tI,tI,tI,tI,tI,tI,tI] [tI] ⟨19,.con ak::.fn 73 [(0,0),(2,0)]::aN 5 [.con tI,.var tI],[bC,.rowc tI,bv]⟩ [(.ret,⟨19,[.con ak,.fn 73 [(0,0),(2,0)],.any,.any,.var tI,.any,.any,.con tI],[bC,.rowc tI,bv]⟩,[tI]),(.exit 0,⟨19,.con ak::.fn 73 [(0,0),(2,0)]::aN 5 [.con tI],[bC,.rowc tI,bv]⟩,[])]
def Ga (ρ:Type):ö ρ:=⟨[11,2,1,2],134,0,Gb,fun(p:Val (tyL Gb.cs)) (v:Int) b a=>let A:=p.2.2.2.2;let B:=A.2.2.2.2;wQ p.1 p.2.1 p.2.2.1 p.2.2.2.1 A.1 A.2.1 A.2.2.1 A.2.2.2.1 B.1 B.2.1 B.2.2.2.1 v (fun c=>b c) (a 0) (a 1)⟩
def Gd:Å:=Ls 0 [ak,ae,tI,tI,tI,ae,aa,af,ac,aa,aj] [tI,ab] ⟨38,.any::.box 0 0::aN 3 (.con ak::.own 1::aN 14 [.con ae,.con tI,.var tI]),cH⟩ [(.exit 0,⟨38,.any::.box 0 0::aN 3 (.con ak::.own 1::aN 14 [.con ae,.con tI]),cH⟩,[ab])]
def Gc (ρ:Type):ö ρ:=⟨[],23,0,Gd,fun(p:Val (tyL Gd.cs)) (v:ge) a b=>let A:=p.2.2.2.2;let B:=A.2.2.2.2;wR p.1 p.2.1 p.2.2.1 p.2.2.2.1 A.1 A.2.1 A.2.2.1 A.2.2.2.1 B.1 B.2.1 B.2.2 v.1 v.2 (fun c d=>a (c,d)) (b 0)⟩
def I8 (ρ:Type):Env ρ:=Ø [(44,jj),(68,LV),(69,IW)] [Ga ρ,Gc ρ]
def MX:ý:=⟨[ab],[ah],fun(x:an)=>E4 x⟩
def Ι:Å:=Ls 0 [ab,tI,ah] [tI,ah] ⟨51,[.con ab,.any,.any,.own 0,.con tI,.any,.con ah,.var tI],[.rowv ab]⟩ [(.exit 2,⟨51,[.con ab,.any,.any,.own 0,.con tI,.any,.con ah],[.rowv ab]⟩,[ah])]
def pq (rec:an->BY b5) (ρ:Type):ö ρ:=⟨[],87,2,Ι,fun(p:xl) (v:px) a b=>kT rec p.1 p.2.1 p.2.2 v.1 v.2 (fun c d=>a (c,d)) (b 0)⟩
def Κ:Å:=Ls 0 [ab] [tI,ah] ⟨51,[.con ab,.any,.any,.own 0,.var tI],[.rowv ab]⟩ [(.exit 0,⟨51,[.con ab,.any,.any,.own 0],[.rowv ab]⟩,[ah])]
def pr (rec:an->BY b5) (ρ:Type):ö ρ:=⟨[],87,0,Κ,fun(p:an) (v:px) a b=>ob rec p v.1 v.2 (fun c d=>a (c,d)) (b 0)⟩
def QY (rec:an->BY b5):CK (Nat×ý):=[(87,⟨[ab],[ah],fun(x:an)=>rec x⟩)]
def zQ (rec:an->BY b5) (ρ:Type):CK (ö ρ):=[pq rec ρ,pr rec ρ]
def Į (rec:an->BY b5) (ρ:Type):Env ρ:=Ø (QY rec) (zQ rec ρ)
def MY:ý:=⟨[Â,ah],[tI],fun(x:v8)=>xL x.1 x.2⟩
def KX:Å:=Ls 0 [ah,tI,tI,tI,ae,aa,af,ac,aa,aj] [tI,tI] ⟨43,[.any,.con ah,.box 0 0,.any,.any,.var tI,.con tI,.var tI],[bC]⟩ [(.exit 2,⟨43,[.any,.con ah,.box 0 0,.any,.any,.var tI,.con tI],[bC]⟩,[tI])]
def yl (ρ:Type):ö ρ:=⟨[],88,2,KX,fun(p:rn) (v:bx) a b=>oc p.1 p.2.1 p.2.2.2.2.2.2.2.2.2 v.1 v.2 (fun c d=>a (c,d)) (b 0)⟩
def KY:Å:=Ls 0 [ah,tI,tI,ae,aa,af,ac,aa,aj] [tI,tI] ⟨43,[.any,.con ah,.box 0 0,.any,.any,.var tI,.var tI],[bC]⟩ [(.exit 0,⟨43,[.any,.con ah,.box 0 0,.any,.any,.var tI],[bC]⟩,[tI])]
def ym (ρ:Type):ö ρ:=⟨[],88,0,KY,fun(p:Val (.pair ah ai)) (v:bx) a b=>od p.1 p.2.2.2.2.2.2.2.2 v.1 v.2 (fun c d=>a (c,d)) (b 0)⟩
def wX (ρ:Type):Env ρ:=Ø [] [yl ρ,ym ρ]
def Xq:ý:=⟨[Â],[ak],fun(x:a8)=>HU x⟩
def C4:Å:=Ls 0 [tI,ah,tI,tI,tI,ae,aa,af,ac,aa,aj,ak] [tI,ak] ⟨82,[.any,.box 0 0,.any,.own 1,.con tI,.con ah,.own 2,.con tI,.var tI],cT⟩ [(.exit 4,⟨82,[.any,.box 0 0,.any,.own 1,.con tI,.con ah,.own 2,.con tI],cT⟩,[ak])]
def C3 (ρ:Type):ö ρ:=⟨[],34,4,C4,fun(p:Val (tyL C4.cs)) (v:io) a b=>oL p.2.1 p.2.2.1 p.2.2.2.2.2.2.2.2.2.2.2 v.1 v.2 (fun c d=>a (c,d)) (b 0)⟩
def C6:Å:=Ls 0 [tI,ah,tI,tI,ae,aa,af,ac,aa,aj,ak] [tI,ak] ⟨82,[.any,.box 0 0,.any,.own 1,.con tI,.con ah,.own 2,.var tI],cT⟩ [(.exit 2,⟨82,[.any,.box 0 0,.any,.own 1,.con tI,.con ah,.own 2],cT⟩,[ak])]
def C5 (ρ:Type):ö ρ:=⟨[],34,2,C6,fun(p:Val (tyL C6.cs)) (v:io) a b=>oM p.2.1 p.2.2.2.2.2.2.2.2.2.2 v.1 v.2 (fun c d=>a (c,d)) (b 0)⟩
def Q6:Å:=Ls 0 [tI,tI,ae,aa,af,ac,aa,aj] [tI,ak] ⟨82,[.any,.box 0 0,.any,.own 1,.var tI],[bC,.rowv ah]⟩ [(.exit 0,⟨82,[.any,.box 0 0,.any,.own 1],[bC,.rowv ah]⟩,[ak])]
def C7 (ρ:Type):ö ρ:=⟨[],34,0,Q6,fun(p:u5) (v:io) a b=>tx p.2.2.2.2.2.2.2 v.1 v.2 (fun c d=>a (c,d)) (b 0)⟩
def Q4:Å:=Ls 0 [tI,tI,tI,ae,aa,af,ac,aa,aj,ak] [tI,ak] ⟨82,.any::.box 0 0::.any::.own 1::aN 5 [.own 2,.con tI,.var tI],cT⟩ [(.exit 8,⟨82,.any::.box 0 0::.any::.own 1::aN 5 [.own 2,.con tI],cT⟩,[ak])]
def C1 (ρ:Type):ö ρ:=⟨[],34,8,Q4,fun(p:Val (.pair tI aJ)) (v:io) a b=>let A:=p.2.2.2.2;oK p.1 p.2.1 p.2.2.1 p.2.2.2.1 A.1 A.2.1 A.2.2.1 A.2.2.2.1 A.2.2.2.2.1 A.2.2.2.2.2 v.1 v.2 (fun c d=>a (c,d)) (b 0)⟩
def Q5:Å:=Ls 0 [tI,tI,ae,aa,af,ac,aa,aj,ak] [tI,ak] ⟨82,.any::.box 0 0::.any::.own 1::aN 5 [.own 2,.var tI],cT⟩ [(.exit 6,⟨82,.any::.box 0 0::.any::.own 1::aN 5 [.own 2],cT⟩,[ak])]
def C2 (ρ:Type):ö ρ:=⟨[],34,6,Q5,fun(p:Val aJ) (v:io) a b=>let A:=p.2.2.2.2;tv p.1 p.2.1 p.2.2.1 p.2.2.2.1 A.1 A.2.1 A.2.2.1 A.2.2.2.1 A.2.2.2.2 v.1 v.2 (fun c d=>a (c,d)) (b 0)⟩
def nE (ρ:Type):Env ρ:=Ø [(87,MX),(88,MY)] [C3 ρ,C5 ρ,C7 ρ,C1 ρ,C2 ρ]
def Ea:ý:=⟨[Ë],[Ô],fun(x:b6)=>rY x⟩
def Vg (ρ:Type):Env ρ:=Ø [(85,uS),(94,Uz)] []
def agx:ý:=⟨[ab,tI],[tI],fun(x:nj)=>VS x.1 x.2⟩
def Yk:Å:=Ls 0 [ab,tI] [tI] ⟨19,[.con ab,.con tI,.any,.any,.any,.var tI],[]⟩ [(.ret,⟨19,[.con ab,.con tI,.any,.any,.var tI],[]⟩,[tI]),(.exit 0,⟨19,[.con ab,.con tI],[]⟩,[])]
def Kl (ρ:Type):ö ρ:=⟨[],20,0,Yk,fun(p:nj) (v:Int) b a=>Bp p.1 p.2 v (fun c=>b c) (a 0) (a 1)⟩
def Yl (ρ:Type):Env ρ:=Ø [] [Kl ρ]
def Fz:ý:=⟨[Â,ah,tI,tI],[tI],fun(x:r8)=>qm x.1 x.2.1 x.2.2.1 x.2.2.2⟩
def U9:Å:=Ls 0 [ah,tI,tI,tI,ae,aa,af,ac,aa,aj] [tI,tI] ⟨45,.any::.con ah::.var tI::.con tI::.box 0 0::aN 4 [.var tI],[bC]⟩ [(.exit 0,⟨45,[.any,.con ah,.var tI,.con tI,.box 0 0],[bC]⟩,[tI])]
def Gy (ρ:Type):ö ρ:=⟨[],75,0,U9,fun(p:rn) (v:bx) a b=>wW p.1 p.2.1 p.2.2.2.2.2.2.2.2.2 v.1 v.2 (fun c d=>a (c,d)) (b 0)⟩
def SY (ρ:Type):Env ρ:=Ø [(20,agx)] [Gy ρ]
def Xp:ý:=⟨[Â,ah,ab,tI],[ab],fun(x:Val (.pair Â (.pair ah aE)))=>AP x.1 x.2.1 x.2.2.1 x.2.2.2⟩
def CY:Å:=Ls 0 [ah,ab,tI,tI,tI,tI,tI,ae,aa,af,ac,aa,aj,ab] [tI] ⟨57,.any::.con ah::.con ab::.con tI::.box 0 0::aN 4 [.own 1,.con tI,.con tI,.var tI],[bC,.rowc tI]⟩ [(.exit 2,⟨57,.any::.con ah::.con ab::.con tI::.box 0 0::aN 4 [.own 1,.con tI,.con tI,.var tI],[bC,.rowc tI]⟩,[tI])]
def CX (ρ:Type):ö ρ:=⟨[],95,2,CY,fun(p:Val (tyL CY.cs)) (v:Int) a b=>oJ p.2.2.2.2.1 p.2.2.2.2.2.2.2.2.2.2.2.2.2 v (fun c=>a c) (b 0)⟩
def C0:Å:=Ls 0 [ah,ab,tI,tI,tI,ae,aa,af,ac,aa,aj] [tI,ab] ⟨57,.any::.con ah::.con ab::.con tI::.box 0 0::aN 4 [.own 1,.var tI],cH⟩ [(.exit 0,⟨57,.any::.con ah::.con ab::.con tI::.box 0 0::aN 4 [.own 1],cH⟩,[ab])]
def CZ (ρ:Type):ö ρ:=⟨[],95,0,C0,fun(p:Val (tyL C0.cs)) (v:ge) a b=>let A:=p.2.2.2.2;let B:=A.2.2.2.2;tr p.1 p.2.1 p.2.2.1 p.2.2.2.1 A.1 A.2.1 A.2.2.1 A.2.2.2.1 B.1 B.2.1 B.2.2 v.1 v.2 (fun c d=>a (c,d)) (b 0)⟩
def EC (ρ:Type):Env ρ:=Ø [(75,Fz)] [CX ρ,CZ ρ]
def uA:ý:=⟨[Â,ah],[Ë],fun(x:v8)=>ln x.1 x.2⟩
def rI:Å:=Ls 0 [ah,tI,tI,ae,aa,af,ac,aa,aj,tI,tI,tI,tI,ae] [tI,aa] ⟨156,[.any,.con ah,.box 0 0,.any,.box 1 0,.box 2 0,.var tI],[bC,bH,ca,.rowv Ç]⟩ [(.exit 0,⟨156,[.any,.con ah,.box 0 0,.any,.box 1 0,.box 2 0],[bC,bH,ca,.rowv Ç]⟩,[aa])]
def rH (ρ:Type):ö ρ:=⟨[],37,0,rI,fun(p:Val (tyL rI.cs)) (v:nm) a b=>let A:=p.2.2.2.2;kj p.1 p.2.1 p.2.2.1 p.2.2.2.1 A.1 A.2.1 A.2.2.1 A.2.2.2.1 A.2.2.2.2.1 v.1 v.2 (fun c d=>a (c,d)) (b 0)⟩
def rG:Å:=Ls 0 [ah,tI,tI,ae,aa,af,ac,aa,aj,tI,tI,tI,tI,ae,aa] [tI,af] ⟨156,[.any,.con ah,.box 0 0,.any,.box 1 0,.box 2 0,.any,.any,.var tI],[bC,bH,cd,.rowc Ç,.rowv χ]⟩ [(.exit 2,⟨156,[.any,.con ah,.box 0 0,.any,.box 1 0,.box 2 0],[bC,bH,cd,.rowc Ç,.rowv χ]⟩,[af])]
def rE (ρ:Type):ö ρ:=⟨[],37,2,rG,fun(p:Val (tyL rG.cs)) (v:y6) a b=>let A:=p.2.2.2.2;ki p.1 p.2.1 p.2.2.1 p.2.2.2.1 A.1 A.2.1 A.2.2.1 A.2.2.2.1 A.2.2.2.2.1 v.1 v.2 (fun c d=>a (c,d)) (b 0)⟩
def rD:Å:=Ls 0 [ah,tI,tI,ae,aa,af,ac,aa,aj,tI,tI,tI,tI,ae,aa,af] [tI,ac] ⟨156,.any::.con ah::.box 0 0::.any::.box 1 0::.box 2 0::aN 4 [.var tI],cV⟩ [(.exit 4,⟨156,[.any,.con ah,.box 0 0,.any,.box 1 0,.box 2 0],cV⟩,[ac])]
def rC (ρ:Type):ö ρ:=⟨[],37,4,rD,fun(p:Val (tyL rD.cs)) (v:Val aZ) a b=>let A:=p.2.2.2.2;kh p.1 p.2.1 p.2.2.1 p.2.2.2.1 A.1 A.2.1 A.2.2.1 A.2.2.2.1 A.2.2.2.2.1 v.1 v.2 (fun c d=>a (c,d)) (b 0)⟩
def rB:Å:=Ls 0 [ah,tI,tI,ae,aa,af,ac,aa,aj,tI,tI,tI,tI,ae,aa,af,ac] [tI,aa] ⟨156,.any::.con ah::.box 0 0::.any::.box 1 0::.box 2 0::aN 6 [.var tI],cW⟩ [(.exit 6,⟨156,[.any,.con ah,.box 0 0,.any,.box 1 0,.box 2 0],cW⟩,[aa])]
def rA (ρ:Type):ö ρ:=⟨[],37,6,rB,fun(p:Val (tyL rB.cs)) (v:nm) a b=>let A:=p.2.2.2.2;kg p.1 p.2.1 p.2.2.1 p.2.2.2.1 A.1 A.2.1 A.2.2.1 A.2.2.2.1 A.2.2.2.2.1 v.1 v.2 (fun c d=>a (c,d)) (b 0)⟩
def Λ (ρ:Type):Env ρ:=Ø [(75,Fz),(95,Xp)] [rH ρ,rE ρ,rC ρ,rA ρ]
def Xx:ý:=⟨[Ô],[.bool],fun(x:im)=>H4 x⟩
def Ri:Å:=Ls 0 [tI,tI,am] [.bool,tI,ab] ⟨60,[.any,.box 0 0,.any,.own 1,.var .bool,.con tI,.var tI],cN⟩ [(.exit 2,⟨60,[.any,.box 0 0,.any,.own 1,.var .bool,.con tI],cN⟩,[.bool,ab])]
def Dj (ρ:Type):ö ρ:=⟨[],124,2,Ri,fun(p:Val aO) (v:Val bf) a b=>oP p.2.2 v.1 v.2.1 v.2.2 (fun c d e=>a (c,d,e)) (b 0)⟩
def Rj:Å:=Ls 0 [tI,am] [.bool,tI,ab] ⟨60,[.any,.box 0 0,.any,.own 1,.var .bool,.var tI],cN⟩ [(.exit 0,⟨60,[.any,.box 0 0,.any,.own 1,.var .bool],cN⟩,[.bool,ab])]
def Dk (ρ:Type):ö ρ:=⟨[],124,0,Rj,fun(p:im) (v:Val bf) a b=>oQ p.1 p.2 v.1 v.2.1 v.2.2 (fun c d e=>a (c,d,e)) (b 0)⟩
def EL (ρ:Type):Env ρ:=Ø [] [Dj ρ,Dk ρ]
def FA:ý:=⟨[Â,ah],[.bool],fun(x:v8)=>qn x.1 x.2⟩
def N4 (ρ:Type):Env ρ:=Ø [(36,Ea),(37,uA),(124,Xx)] []
def Uy:ý:=⟨[Â],[ak],fun(x:a8)=>HW x⟩
def Vc:Å:=Ls 0 [ak,tI,tI,ae,aa,af,ac,aa,aj] [tI,ak] ⟨30,[.any,.box 0 0,.any,.con ak,.own 1,.var tI],[bC,.rowv ah]⟩ [(.exit 0,⟨30,[.any,.box 0 0,.any,.con ak,.own 1],[bC,.rowv ah]⟩,[ak])]
def GC (ρ:Type):ö ρ:=⟨[],74,0,Vc,fun(p:Val (.pair ak ai)) (v:io) a b=>let A:=p.2.2.2.2;wZ p.1 p.2.1 p.2.2.1 p.2.2.2.1 A.1 A.2.1 A.2.2.1 A.2.2.2.1 A.2.2.2.2 v.1 v.2 (fun c d=>a (c,d)) (b 0)⟩
def S0 (ρ:Type):Env ρ:=Ø [(34,Xq),(65,FA)] [GC ρ]
def Xr:ý:=⟨[Â],[ab,.bool],fun(x:a8)=>HV x⟩
def C9:Å:=Ls 0 [ak,tI,tI,tI,tI,ae,aa,af,ac,aa,aj,ab] [.bool,tI] ⟨59,[.any,.box 0 0,.any,.any,.con ak,.own 1,.con tI,.con tI,.var .bool,.var tI],[bC,.rowc tI]⟩ [(.exit 2,⟨59,[.any,.box 0 0,.any,.any,.con ak,.own 1,.con tI,.con tI,.var .bool],[bC,.rowc tI]⟩,[.bool])]
def C8 (ρ:Type):ö ρ:=⟨[],24,2,C9,fun(p:Val (tyL C9.cs)) (v:Val bg) a b=>let A:=p.2.2.2.2;let B:=A.2.2.2.2;oN p.1 p.2.2.1 p.2.2.2.1 A.1 A.2.1 A.2.2.1 A.2.2.2.1 B.1 B.2.1 B.2.2.1 v.1 v.2 (fun c d=>a (c,d)) (b 0)⟩
def Q7:Å:=Ls 0 [ak,tI,tI,ae,aa,af,ac,aa,aj] [tI,ab] ⟨59,[.any,.box 0 0,.any,.any,.con ak,.own 1,.var tI],cH⟩ [(.exit 0,⟨59,[.any,.box 0 0,.any,.any,.con ak,.own 1],cH⟩,[ab])]
def Da (ρ:Type):ö ρ:=⟨[],24,0,Q7,fun(p:Val (.pair ak ai)) (v:ge) a b=>let A:=p.2.2.2.2;tz p.1 p.2.1 p.2.2.1 p.2.2.2.1 A.1 A.2.1 A.2.2.1 A.2.2.2.1 A.2.2.2.2 v.1 v.2 (fun c d=>a (c,d)) (b 0)⟩
def EF (ρ:Type):Env ρ:=Ø [(74,Uy),(75,Fz)] [C8 ρ,Da ρ]
def Xz:ý:=⟨[Ë,Ç],[Ë,tI],fun(x:AS)=>H5 x.1 x.2⟩
def aaB (ρ:Type):Env ρ:=Ø [(62,IZ)] []
def MZ:ý:=⟨[Ë,Ç],[Ë,tI],fun(x:AS)=>xM x.1 x.2⟩
def Va (ρ:Type):Env ρ:=Ø [(78,Bk),(135,Xz)] []
def M6:ý:=⟨[Ô,tI],[ab],fun(x:Val (.pair Ô tI))=>rZ x.1 x.2⟩
def Lm:Å:=Ls 0 [tI,tI,am] [tI,ab] ⟨82,[.any,.con tI,.box 0 0,.any,.any,.own 1,.var tI],cN⟩ [(.exit 0,⟨82,[.any,.con tI,.box 0 0,.any,.any,.own 1],cN⟩,[ab])]
def yu (ρ:Type):ö ρ:=⟨[],79,0,Lm,fun(p:Val aO) (v:ge) a b=>oe p.2.1 v.1 v.2 (fun c d=>a (c,d)) (b 0)⟩
def Lj:Å:=Ls 0 [tI,tI,am] [.bool,tI,ab] ⟨82,[.any,.any,.box 0 0,.any,.any,.own 1,.any,.var .bool,.con tI,.var tI],cN⟩ [(.exit 4,⟨82,[.any,.any,.box 0 0,.any,.any,.own 1,.any,.var .bool,.con tI],cN⟩,[.bool,ab])]
def yq (ρ:Type):ö ρ:=⟨[],79,4,Lj,fun(p:Val aO) (v:Val bf) a b=>kZ p.2.2 v.1 v.2.1 v.2.2 (fun c d e=>a (c,d,e)) (b 0)⟩
def Ll:Å:=Ls 0 [tI,am] [.bool,tI,ab] ⟨82,[.any,.any,.box 0 0,.any,.any,.own 1,.any,.var .bool,.var tI],cN⟩ [(.exit 2,⟨82,[.any,.any,.box 0 0,.any,.any,.own 1],cN⟩,[ab])]
def yr (ρ:Type):ö ρ:=⟨[],79,2,Ll,fun(p:im) (v:Val bf) a b=>la p.1 p.2 v.1 v.2.1 v.2.2 (fun c d e=>a (c,d,e)) (b 0)⟩
def qe (ρ:Type):Env ρ:=Ø [] [yu ρ,yq ρ,yr ρ]
def M3:ý:=⟨[Â,tI,tI],[am,tI],fun(x:Val bp)=>rX x.1 x.2.1 x.2.2⟩
def yo:Å:=Ls 0 [tI,tI,ak,tI,tI,tI,tI,ae,aa,af,ac,aa,aj,am,tI,tI,tI] [tI] ⟨143,.any::.con tI::.con tI::.box 0 0::aN 4 (.con ak::.own 1::.con tI::.con tI::aN 4 [.box 2 0,.var tI]),[bC,.rowc ę,bZ]⟩ [(.exit 2,⟨143,.any::.con tI::.con tI::.box 0 0::aN 4 (.con ak::.own 1::.con tI::.con tI::aN 4 [.box 2 0,.var tI]),[bC,.rowc ę,bZ]⟩,[tI])]
def yn (ρ:Type):ö ρ:=⟨[],26,2,yo,fun(p:Val (tyL yo.cs)) (v:Int) a b=>kX p.2.2.2.2.1 p.2.2.2.2.2.2.2.2.2.2.2.2.2.1 v (fun c=>a c) (b 0)⟩
def KZ:Å:=Ls 0 [tI,tI,ak,tI,tI,ae,aa,af,ac,aa,aj] [tI,am] ⟨143,.any::.con tI::.con tI::.box 0 0::aN 4 [.con ak,.own 1,.var tI],[bC,.rowv ę]⟩ [(.ret,⟨143,[.any,.con tI,.con tI,.box 0 0,.any,.any,.nils,.var tI,.con ak,.own 1],[bC,.rowv ę]⟩,[tI,am]),(.exit 0,⟨143,.any::.con tI::.con tI::.box 0 0::aN 4 [.con ak,.own 1],[bC,.rowv ę]⟩,[am])]
def yp (ρ:Type):ö ρ:=⟨[],26,0,KZ,fun(p:rx) (v:im) b a=>let A:=p.2.2.2.2;let B:=A.2.2.2.2;kY p.1 p.2.1 p.2.2.1 p.2.2.2.1 A.1 A.2.1 A.2.2.1 A.2.2.2.1 B.1 B.2.1 B.2.2 v.1 v.2 (fun c d=>b (c,d)) (a 0) (a 1)⟩
def wY (ρ:Type):Env ρ:=Ø [(36,Ea),(37,uA),(74,Uy),(75,Fz),(77,MZ),(78,Bk),(79,M6)] [yn ρ,yp ρ]
def ml:ý:=⟨[Â,tI,tI],[.bool],fun(x:Val bp)=>rV x.1 x.2.1 x.2.2⟩
def Cb:Å:=Ls 0 [am,am] [tI] ⟨141,aN 7 (.con am::aN 6 [.con am,.any,.var tI]),[]⟩ [(.ret,⟨141,aN 6 (.var .bool::.con am::aN 6 [.con am]),[]⟩,[.bool]),(.exit 0,⟨141,aN 7 (.con am::aN 6 [.con am]),[]⟩,[])]
def pz (ρ:Type):ö ρ:=⟨[],4,0,Cb,fun(p:Val (.pair am am)) (v:Int) b a=>Ť p.1 p.2 v (fun c=>b c) (a 0) (a 1)⟩
def sQ:CK JEnt:=[⟨[],4,12,0,⟨141,[.any,.var tI,.var tI,.box 0 0,.any,.any,.any,.var am,.var tI],[.cells [.var tI,.var tI,.var ae,.var aa,.var af,.var ac,.var aa,.var aj]]⟩,[tI,tI,am,tI,tI,tI,ae,aa,af,ac,aa,aj]⟩]
def j9 (ρ:Type):Env ρ:=mkEnvJ [(6,Sl),(7,MW),(12,Ss),(15,qT),(17,pK),(22,IY),(23,acj),(24,Xr),(25,Bl),(26,M3)] [pz ρ] sQ
end Go.Proofs.ZzM
end
