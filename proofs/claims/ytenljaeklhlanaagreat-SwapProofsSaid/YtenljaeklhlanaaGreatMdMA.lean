/- lemmas -/
import Derived.Test.YtenljaeklhlanaaGreatAmC
import Derived.Test.YtenljaeklhlanaaGreatAmE
import Derived.KernelRfl
import Derived.Test.YtenljaeklhlanaaGreatMdTA
import Derived.Test.YtenljaeklhlanaaGreatProg
set_option linter.all false
noncomputable section
set_option maxRecDepth 100000
namespace Go.Proofs.ZzM
open Go Go.Am
def J0:Nat->Bool
  |103=>true
  |131=>true
  |165=>true
  |247=>true
  |248=>true
  |249=>true
  |_=>false
def UA:Nat->Bool
  |133=>true
  |_=>false
def wJ:Nat->Bool
  |242=>true
  |_=>false
def anM:Nat->Bool
  |2=>true
  |48=>true
  |49=>true
  |53=>true
  |54=>true
  |55=>true
  |56=>true
  |59=>true
  |60=>true
  |61=>true
  |72=>true
  |73=>true
  |92=>true
  |93=>true
  |98=>true
  |99=>true
  |100=>true
  |101=>true
  |102=>true
  |104=>true
  |108=>true
  |109=>true
  |110=>true
  |111=>true
  |112=>true
  |126=>true
  |127=>true
  |134=>true
  |149=>true
  |150=>true
  |155=>true
  |157=>true
  |158=>true
  |159=>true
  |161=>true
  |162=>true
  |164=>true
  |166=>true
  |167=>true
  |169=>true
  |175=>true
  |176=>true
  |178=>true
  |179=>true
  |181=>true
  |182=>true
  |184=>true
  |185=>true
  |186=>true
  |193=>true
  |194=>true
  |199=>true
  |205=>true
  |211=>true
  |213=>true
  |214=>true
  |215=>true
  |216=>true
  |217=>true
  |218=>true
  |220=>true
  |221=>true
  |225=>true
  |228=>true
  |230=>true
  |237=>true
  |238=>true
  |239=>true
  |240=>true
  |241=>true
  |243=>true
  |244=>true
  |245=>true
  |250=>true
  |251=>true
  |253=>true
  |254=>true
  |259=>true
  |266=>true
  |267=>true
  |268=>true
  |277=>true
  |278=>true
  |281=>true
  |282=>true
  |285=>true
  |286=>true
  |_=>false
def isFz:Nat->Bool
  |52=>true
  |_=>false
def anN:Nat->Nat->Bool
  |71,2=>true
  |71,3=>true
  |108,25=>true
  |194,0=>true
  |_,_=>false
def aiP:CK Nat->Nat->Bool
  |_,_=>false
abbrev S8 {ρ:Type} (E:Env ρ) (f:Nat) (ts rs:CK Ty) (x:Val (tyL ts)) (k:Val (tyL rs)->BY ρ):BY ρ:=topK E f (aca ts x) (fun h v=>Å (anv rs h v) k)
abbrev Ls (p:Nat) (c v:CK Ty) (h:Tpl) (e:CK (Exit×Tpl×CK Ty)):Æ:=⟨p,c,v,h,e,false⟩
def Ø {ρ:Type} (pt:CK (Nat×ú)) (tab:CK (õ ρ)):Env ρ :=
  {P:=Tryz.prog,eat:=anN,clone:=J0,sort:=UA,compact:=wJ,inl:=anM,fz:=isFz,stop:=aiP,pure:=ab6 pt,loops:=kO tab}
def adz {ρ:Type} (pt:CK (Nat×ú)) (tab:CK (õ ρ)) (xt:CK (Nat×aeQ)):Env ρ:={Ø pt tab with ext:=extT xt}
def mkEnvJ {ρ:Type} (pt:CK (Nat×ú)) (tab:CK (õ ρ)) (js:CK JEnt):Env ρ :=
  {P:=Tryz.prog,eat:=anN,clone:=J0,sort:=UA,compact:=wJ,inl:=anM,fz:=isFz,stop:=aiP,pure:=ab6 pt,loops:=kO tab,joins:=WI js}
def mkEnvU {ρ:Type} (pt:CK (Nat×ú)) (tab:CK (õ ρ)) (us:CK amo):Env ρ :=
  {P:=Tryz.prog,eat:=anN,clone:=J0,sort:=UA,compact:=wJ,inl:=anM,fz:=isFz,stop:=aiP,pure:=ab6 pt,loops:=ad3 (Ø pt tab) us}
abbrev br:jB:=.cells [.con ab]
abbrev bt:jB:=.cells [.con tI,.con tI,.con ae,.con aa,.con af,.con ac,.con aa]
abbrev bu:jB:=.cells [.con tI,.con tI,.con tI,.con tI,.con tI,.con tI,.con tI,.con tI]
abbrev bv:jB:=.cells [.con tI,.con tI,.con tI,.con tI]
abbrev bw:jB:=.cells [.con tI]
abbrev bz:jB:=.cells [.con tI,.con tI,.con ab,.con ab,.con tI,.con tI,.con tI,.con tI]
abbrev bB:jB:=.cells [.con tI,.con tI,.con ae,.con aa,.con af,.con ac,.con aa,.con aj]
abbrev bC:jB:=.cells [.con tI,.con ab]
abbrev bD:jB:=.cells [.omp 3]
abbrev bE:jB:=.cells [.var tI,.var tI,.var ae,.var aa,.var af,.var ac,.var aa,.var aj]
abbrev bG:jB:=.cells [.con tI,.con tI,.nils,.nils,.nils,.nils,.nils]
abbrev bH:jB:=.cells [.con tI,.con tI,.own 3,.own 4,.nils,.nils,.nils]
abbrev bI:jB:=.cells [.con tI,.con tI,.own 3,.own 4,.own 5,.nils,.nils]
abbrev bJ:jB:=.cells [.con tI,.con tI,.own 3,.own 4,.own 5,.own 6,.nils]
abbrev bK:jB:=.cells [.con tI,.con tI,.own 2,.own 3,.own 4,.own 5,.own 6]
abbrev bL:jB:=.cells [.con tI,.con tI]
abbrev bM:jB:=.cells [.con tI,.con tI,.con ae,.con aa,.con af,.con ac,.con aa,.con aa,.con tI,.own 3,.own 4]
abbrev bN:jB:=.cells [.con tI,.con tI,.con ae,.con aa,.con af,.con ac,.con aa,.con aa,.con tI,.own 2,.own 3]
abbrev bO:jB:=.cells [.con tI,.con am]
abbrev bP:jB:=.cells [.own 6]
abbrev bQ:jB:=.cells [.fn 49 [(1,0)]]
abbrev bR:jB:=.cells [.con tI,.con tI,.nils,.nils,.nils,.nils,.nils,.nils]
abbrev bS:jB:=.cells [.fn 99 [(1,0)]]
abbrev bT:jB:=.cells [.fn 56 [(0,0),(1,0)]]
abbrev bU:jB:=.cells [.fn 56 [(3,0),(0,0)]]
abbrev bV:jB:=.cells [.con aj]
abbrev bW:jB:=.cells [.own 4]
abbrev bX:jB:=.cells [.con tI,.con tI,.own 9,.own 10,.own 11,.con ac,.own 12]
abbrev bY:jB:=.cells [.con tI,.con tI,.con tI]
abbrev bZ:jB:=.cells [.var tI,.var tI,.var tI,.var tI]
abbrev b7:jB:=.cells [.nils,.nils]
abbrev b8:jB:=.cells [.own 3,.own 4]
abbrev b9:jB:=.cells [.con tI,.con tI,.con ae,.own 3,.nils,.nils,.nils]
abbrev ca:jB:=.cells [.con tI,.con tI,.con ae,.own 3,.own 4,.nils,.nils]
abbrev cd:jB:=.cells [.con tI,.con tI,.con ae,.own 3,.own 4,.own 5,.nils]
abbrev ce:jB:=.cells [.con tI,.con tI,.con ae,.own 3,.own 4,.own 5,.own 6]
abbrev cf:CK jB:=[.rowv tI]
abbrev cg:CK jB:=[bt,bv]
abbrev ci:CK jB:=[bt,bz,.rowc tI]
abbrev cj:CK jB:=[bt,bC]
abbrev cm:CK jB:=[bt,bC,bD,.mapc tI tI]
abbrev cn:CK jB:=[.rowv ah,bB]
abbrev cp:CK jB:=[.rowc ah,bB]
abbrev cq:CK jB:=[.rowv ah,bE]
abbrev cr:CK jB:=[bG,bt,bI,.rowc Ú,.rowc Ç,.rowv π]
abbrev cu:CK jB:=[bG,bt,bJ,.rowc Ú,.rowc Ç,.rowc π,.rowv Ö]
abbrev cw:CK jB:=[bG,bK,.rowc Ú,.rowc Ç,.rowc π,.rowc Ö,.rowv Ç]
abbrev cz:CK jB:=[bt,bN,.rowv ģ,.rowv Ç]
abbrev cA:CK jB:=[bO,.rowc tI,bO,bP,.rowv .bool,.rowc tI,.rowv tI]
abbrev cB:CK jB:=[bO,.rowv tI,bO,bP,.rowv .bool,.rowc tI,.rowv tI]
abbrev cD:CK jB:=[bO,.rowv tI,bO,bP,.rowv .bool,.rowv tI,.rowv tI]
abbrev cE:CK jB:=[bB,bw,bB,bQ,bR,.rowc Ö]
abbrev cF:CK jB:=[bB,br,bR,bB,bS,bR,.rowc Ö]
abbrev cG:CK jB:=[br,bU,.rowc tI,bB]
abbrev cH:CK jB:=[br,bU,.rowv tI,bB]
abbrev cI:CK jB:=[bt,bL,bG,bt,bG,.dead,bX,bG,.rowv Ö,.rowc Ú,.rowc Ç,.rowc π,.rowc Ç]
abbrev cJ:CK jB:=[bO,.rowv tI]
abbrev cM:CK jB:=[.rowc ab,bO,.dead,.dead,.rowv tI]
abbrev cN:CK jB:=[bO,.rowc ah,bY,bO,.rowv tI]
abbrev cO:CK jB:=[bt,.rowv tI]
abbrev cP:CK jB:=[bt,.rowc tI,.rowv Ç]
abbrev cQ:CK jB:=[bt,b7,b8,.rowv ģ,.rowv Ç]
abbrev cR:CK jB:=[bB,.rowc ah,.rowv ah]
abbrev cS:CK jB:=[bB,bG,cd,.rowc Ç,.rowc π,.rowv Ö]
abbrev cT:CK jB:=[bB,bG,ce,.rowc Ç,.rowc π,.rowc Ö,.rowv Ç]
def jN:ú:=⟨[ah],[ab],fun(x:b5)=>Ĭ x⟩
def mX:Æ:=Ls 0 [ah,ah,tI] [tI,tI] ⟨36,.con ah::aN 2 (.var tI::aN 5 [.con ah,.con tI,.var tI]),[]⟩ [(.exit 0,⟨36,.con ah::aN 2 (.var tI::aN 5 [.con ah,.con tI]),[]⟩,[tI])]
def mW (ρ:Type):õ ρ:=⟨[],52,0,mX,fun(p:Val (tyL mX.cs)) (v:bx) a b=>Τ p.2.1 p.2.2 v.1 v.2 (fun c d=>a (c,d)) (b 0)⟩
def xL:Æ:=Ls 0 [ah,tI] [tI,ab] ⟨36,aN 6 (.own 0::aN 18 [.con ah,.con tI,.var tI]),cf⟩ [(.exit 2,⟨36,aN 6 (.own 0::aN 18 [.con ah,.con tI]),cf⟩,[ab])]
def mV (ρ:Type):õ ρ:=⟨[],52,2,xL,fun(p:py) (v:f4) a b=>Ħ p.1 p.2 v.1 v.2 (fun c d=>a (c,d)) (b 0)⟩
def lF (ρ:Type):Env ρ:=Ø [] [mW ρ,mV ρ]
def Qb:am5:=⟨206,ab,ab,Cj⟩
def iH:Tpl:=⟨37,.any::.box 1 0::.box 2 0::.any::.box 3 0::aN 6 [.con ab,.con tI,.con tI],[.acc ab,.cells [.con ab],.cells [.yld],.cells [.con tI]]⟩
def kD (al:b5) (rec:an->BY (b5)) (ρ:Type):Ja ρ:=⟨[],206,2,4,[ab,tI,tI,ab,tI],[ah],iH,⟨206,ab,ab,rec⟩,fun(p:Val bf) (v:b5) y a=>rJ al rec p.2.2.2.2 v y (fun b=>a b)⟩
def ű:Æ:=Ls 2 [ab,tI,ab] [tI,ah] ⟨37,.any::.box 1 0::.box 2 0::aN 8 [.con ab,.con tI,.var tI],[.acc ab,br,.cells [.yld]]⟩ [(.exit 0,⟨37,.any::.box 1 0::.box 2 0::aN 8 [.con ab,.con tI],[.acc ab,br,.cells [.yld]]⟩,[ah])]
def nZ (al:b5) (rec:an->BY (b5)) (ρ:Type):õ ρ:=⟨[],206,0,ű,fun(p:Val bi) (v:pi) a b=>rK al rec p.1 p.2.1 p.2.2 v.1 v.2 (fun c d=>a (c,d)) (b 0)⟩
def Ah (al:b5) (rec:an->BY (b5)) (ρ:Type):CK (Ja ρ):=[kD al rec ρ]
def yU (al:b5) (rec:an->BY (b5)) (ρ:Type):CK (õ ρ):=[nZ al rec ρ]
def ć (al:b5) (rec:an->BY (b5)) (ρ:Type):Env ρ:={Ø [(52,jN)] (yU al rec ρ) with ranges:=Ν (Ah al rec ρ),yld:=some ⟨ab,al⟩}
def su:am5:=⟨168,aj,ah,om⟩
def ŵ:Tpl:=⟨27,.any::.box 1 0::.box 2 0::.box 3 0::aN 11 [.con ab],[.acc ah,.cells [.con aj],.cells [.yld],.cells [.con ab]]⟩
def ji (al:a7) (rec:c9->BY (a7)) (ρ:Type):Ja ρ:=⟨[],168,2,4,[ab,aj,ab],[ak],ŵ,⟨168,aj,ah,rec⟩,fun(p:Val bm) (v:a7) y a=>oc al rec p.2.2 v y (fun b=>a b)⟩
def Ŷ:Tpl:=⟨27,[.any,.box 1 0,.box 2 0],[.acc ah,.cells [.con aj],.cells [.yld]]⟩
def jj (al:a7) (rec:c9->BY (a7)) (ρ:Type):Ja ρ:=⟨[],168,0,3,[aj],[ak],Ŷ,Qb,fun(p:c9) (v:a7) y a=>od al rec p v y (fun b=>a b)⟩
def vO (al:a7) (rec:c9->BY (a7)) (ρ:Type):CK (Ja ρ):=[ji al rec ρ,jj al rec ρ]
def tQ (al:a7) (rec:c9->BY (a7)) (ρ:Type):CK (õ ρ):=[]
def ì (al:a7) (rec:c9->BY (a7)) (ρ:Type):Env ρ:={Ø [] (tQ al rec ρ) with ranges:=Ν (vO al rec ρ),yld:=some ⟨ah,al⟩}
def Ii:am5:=⟨229,ab,tI,Ci⟩
def Ĝ:Æ:=Ls 2 [ab,tI,ab] [tI,ab] ⟨16,.yld::aN 4 [.con ab,.con tI,.var tI],[.acc tI,br]⟩ [(.exit 0,⟨16,.yld::aN 4 [.con ab,.con tI],[.acc tI,br]⟩,[ab])]
def θ (al:an) (rec:an->BY (an)) (ρ:Type):õ ρ:=⟨[],229,0,Ĝ,fun(p:Val bi) (v:f4) a b=>jk al rec p.1 p.2.1 v.1 v.2 (fun c d=>a (c,d)) (b 0)⟩
def wm (al:an) (rec:an->BY (an)) (ρ:Type):CK (õ ρ):=[θ al rec ρ]
def đ (al:an) (rec:an->BY (an)) (ρ:Type):Env ρ:={Ø [] (wm al rec ρ) with yld:=some ⟨tI,al⟩}
def vG:ú:=⟨[Ç,tI,tI],[.bool],fun(x:kw)=>Κ x.1 x.2.1 x.2.2⟩
def ZU (ρ:Type):Env ρ:=Ø [] []
def kv:ú:=⟨[tI,tI,tI],[.bool],fun(x:qs)=>ĝ x.1 x.2.1 x.2.2⟩
def ZR (ρ:Type):Env ρ:=Ø [] []
def zN:ú:=⟨[tI],[.bool],fun(x:Int)=>np x⟩
def abQ (ρ:Type):Env ρ:=Ø [(163,kv)] []
def VA:ú:=⟨[tI],[(.int .u64)],fun(x:Int)=>uV x⟩
def afE (ρ:Type):Env ρ:=Ø [] []
def abr:ú:=⟨[(.int .u64),(.int .u64)],[(.int .u64)],fun(x:nm)=>QA x.1 x.2⟩
def ZL:Æ:=Ls 0 [] [(.int .u64),(.int .u64)] ⟨12,[.var (.int .u64),.var (.int .u64)],[]⟩ [(.exit 0,⟨12,[.var (.int .u64)],[]⟩,[(.int .u64)])]
def KY (ρ:Type):õ ρ:=⟨[],265,0,ZL,fun(p:Unit) (v:nm) a b=>Ce v.1 v.2 (fun c d=>a (c,d)) (b 0)⟩
def ZM (ρ:Type):Env ρ:=Ø [] [KY ρ]
def Gj:ú:=⟨[Ç],[.bool],fun(x:bx)=>wZ x⟩
def abO (ρ:Type):Env ρ:=Ø [(264,VA),(265,abr)] []
def NR:ú:=⟨[Ú],[.bool],fun(x:pc)=>yE x⟩
def H5 (ρ:Type):Env ρ:=Ø [(152,vG),(163,kv),(197,zN),(236,Gj)] []
def zO:ú:=⟨[Ê],[tI],fun(x:b6)=>Ż x⟩
def qi:Æ:=Ls 0 [ae,tI,tI,tI,ae,aa,af,ac,aa] [tI] ⟨31,.any::.box 0 0::aN 4 [.con ae,.con tI,.var tI],[bt]⟩ [(.ret,⟨31,[.any,.box 0 0,.var tI,.any,.any,.any,.con ae,.con tI],[bt]⟩,[tI]),(.exit 0,⟨31,.any::.box 0 0::aN 4 [.con ae,.con tI],[bt]⟩,[])]
def qg (ρ:Type):õ ρ:=⟨[],153,0,qi,fun(p:Val (tyL qi.cs)) (v:Int) b a=>jP p.1 p.2.1 p.2.2.2.2.1 v (fun c=>b c) (a 0) (a 1)⟩
def wF (ρ:Type):Env ρ:=Ø [(195,NR)] [qg ρ]
def xB:ú:=⟨[Ê],[ar],fun(x:b6)=>Ņ x⟩
def Mc:Æ:=Ls 0 [ae,tI] [tI,ar] ⟨20,aN 3 (.omp 0::aN 4 [.con ae,.con tI,.var tI]),[.mapv tI Ú]⟩ [(.exit 0,⟨20,aN 3 (.omp 0::aN 4 [.con ae,.con tI]),[.mapv tI Ú]⟩,[ar])]
def zb (ρ:Type):õ ρ:=⟨[],154,0,Mc,fun(p:Val (.pair ae tI)) (v:Val (.pair tI ar)) a b=>oL p.1 p.2 v.1 v.2 (fun c d=>a (c,d)) (b 0)⟩
def HJ (ρ:Type):Env ρ:=Ø [] [zb ρ]
def nV:ú:=⟨[ab,tI],[tI],fun(x:px)=>iT x.1 x.2⟩
def zj:Æ:=Ls 0 [ab,tI,tI] [tI] ⟨19,.con ab::.con tI::aN 5 [.con tI,.var tI],[]⟩ [(.ret,⟨19,[.con ab,.con tI,.any,.any,.var tI,.any,.any,.con tI],[]⟩,[tI]),(.exit 0,⟨19,.con ab::.con tI::aN 5 [.con tI],[]⟩,[])]
def nI (ρ:Type):õ ρ:=⟨[],107,0,zj,fun(p:Val (.pair ab Ç)) (v:Int) b a=>ψ p.1 p.2.1 p.2.2 v (fun c=>b c) (a 0) (a 1)⟩
def rZ (ρ:Type):Env ρ:=Ø [] [nI ρ]
def Ŧ:ú:=⟨[ab,tI],[.bool],fun(x:px)=>ç x.1 x.2⟩
def zk (ρ:Type):Env ρ:=Ø [(107,nV)] []
def VC:ú:=⟨[Ê,Ú],[ab],fun(x:Val (.pair Ê Ú))=>qQ x.1 x.2⟩
def Wy:Æ:=Ls 0 [ac,tI,tI,tI,ae,aa,af,ac,aa,tI,tI,tI,tI,tI,tI,tI,tI] [tI,ab] ⟨59,aN 2 (.box 0 0::.box 1 0::.any::.own 2::aN 8 [.con ac,.con tI,.var tI]),[bt,bu,.rowv tI]⟩ [(.exit 0,⟨59,aN 2 (.box 0 0::.box 1 0::.any::.own 2::aN 8 [.con ac,.con tI]),[bt,bu,.rowv tI]⟩,[ab])]
def H7 (ρ:Type):õ ρ:=⟨[],202,0,Wy,fun(p:Val (.pair ac aq)) (v:f4) a b=>yj p.1 p.2.1 p.2.2.2.2.2.2.2.2.2.1 v.1 v.2 (fun c d=>a (c,d)) (b 0)⟩
def Wx:Æ:=Ls 0 [aa,tI,tI,tI,tI,tI,tI,tI,tI,tI] [tI,ab] ⟨59,aN 3 (.box 0 0::.any::.own 1::aN 32 [.con aa,.con tI,.var tI]),[bu,.rowv tI]⟩ [(.exit 2,⟨59,aN 3 (.box 0 0::.any::.own 1::aN 32 [.con aa,.con tI]),[bu,.rowv tI]⟩,[ab])]
def H6 (ρ:Type):õ ρ:=⟨[],202,2,Wx,fun(p:Val aW) (v:f4) a b=>yi p.1 p.2.1 p.2.2.1 v.1 v.2 (fun c d=>a (c,d)) (b 0)⟩
def JV (ρ:Type):Env ρ:=Ø [(51,Ŧ)] [H7 ρ,H6 ρ]
def Gn:ú:=⟨[Ê],[aa],fun(x:b6)=>sN x⟩
def Eu:Æ:=Ls 0 [ae,tI,tI,ab,tI,tI,tI,ae,aa,af,ac,aa,tI,tI,tI,tI,tI,tI,tI,tI] [tI,aa] ⟨33,.any::.box 0 0::.any::.own 1::.any::.box 2 0::aN 3 (.con ae::.con tI::.con tI::aN 5 [.con ab,.con tI,.var tI]),[bt,.rowv Ç,bu]⟩ [(.exit 2,⟨33,.any::.box 0 0::.any::.own 1::.any::.box 2 0::aN 3 (.con ae::.con tI::.con tI::aN 5 [.con ab,.con tI]),[bt,.rowv Ç,bu]⟩,[aa])]
def Et (ρ:Type):õ ρ:=⟨[],156,2,Eu,fun(p:Val (tyL Eu.cs)) (v:nj) a b=>uI p.2.2.2.1 p.2.2.2.2.1 p.2.2.2.2.2.2.2.2.2.2.2.2.1 v.1 v.2 (fun c d=>a (c,d)) (b 0)⟩
def Ex:Æ:=Ls 0 [ae,tI,tI,tI,ae,aa,af,ac,aa] [tI,aa] ⟨33,.any::.box 0 0::.any::.own 1::aN 5 [.con ae,.con tI,.var tI],[bt,.rowv Ç]⟩ [(.exit 0,⟨33,.any::.box 0 0::.any::.own 1::aN 5 [.con ae,.con tI],[bt,.rowv Ç]⟩,[aa])]
def Ew (ρ:Type):õ ρ:=⟨[],156,0,Ex,fun(p:Val (tyL Ex.cs)) (v:nj) a b=>let A:=p.2.2.2.2;uJ p.1 p.2.1 p.2.2.1 p.2.2.2.1 A.1 A.2.1 A.2.2.1 A.2.2.2.1 A.2.2.2.2 v.1 v.2 (fun c d=>a (c,d)) (b 0)⟩
def Fz (ρ:Type):Env ρ:=Ø [(202,VC)] [Et ρ,Ew ρ]
def oB:ú:=⟨[ar,tI,tI],[tI],fun(x:Val (.pair ar Ç))=>jI x.1 x.2.1 x.2.2⟩
def Md (ρ:Type):Env ρ:=Ø [] []
def abu:ú:=⟨[tI,tI,(.ptr ar)],[tI],fun(x:Val (.pair tI (.pair tI (.ptr ar))))=>ņ x.1 x.2.1 x.2.2⟩
def Wv (ρ:Type):Env ρ:=Ø [(197,zN),(198,oB)] []
def VD:ú:=⟨[Ê,ar,tI],[tI],fun(x:Val bp)=>ε x.1 x.2.1 x.2.2⟩
def H9:Æ:=Ls 2 [af,tI,tI,tI,ae,aa,af,ac,aa,tI,tI,tI,tI] [tI] ⟨19,.con af::.fn 237 [(1,0)]::aN 5 [.con tI,.var tI],cg⟩ [(.ret,⟨19,[.con af,.fn 237 [(1,0)],.any,.any,.var tI,.any,.any,.con tI],cg⟩,[tI]),(.exit 0,⟨19,.con af::.fn 237 [(1,0)]::aN 5 [.con tI],cg⟩,[])]
def uL (ρ:Type):õ ρ:=⟨[9,5,1,2],244,0,H9,fun(p:Val (.pair af aH)) (v:Int) b a=>let A:=p.2.2.2.2.2.2.2.2.2;l8 p.1 p.2.1 A.1 A.2.1 A.2.2.1 v (fun c=>b c) (a 0) (a 1)⟩
def H8:Æ:=Ls 2 [aa,tI,tI,tI,ae,aa,af,ac,aa,tI,tI,tI,tI] [tI] ⟨19,.con aa::.fn 238 [(1,0)]::aN 5 [.con tI,.var tI],cg⟩ [(.ret,⟨19,[.con aa,.fn 238 [(1,0)],.any,.any,.var tI,.any,.any,.con tI],cg⟩,[tI]),(.exit 0,⟨19,.con aa::.fn 238 [(1,0)]::aN 5 [.con tI],cg⟩,[])]
def uK (ρ:Type):õ ρ:=⟨[9,10,1,2],266,0,H8,fun(p:Val (.pair aa aH)) (v:Int) b a=>let A:=p.2.2.2.2.2.2.2.2.2;Ι p.1 p.2.1 A.1 A.2.1 A.2.2.1 v (fun c=>b c) (a 0) (a 1)⟩
def nc (ρ:Type):Env ρ:=Ø [(152,vG),(163,kv),(198,oB)] [uL ρ,uK ρ]
def Js:ú:=⟨[ab],[.bool],fun(x:an)=>ow x⟩
def P0:Æ:=Ls 0 [ab,ab,tI] [tI] ⟨32,.con ab::aN 4 [.con ab,.con tI,.var tI],[]⟩ [(.ret,⟨32,[.con ab,.any,.var .bool,.any,.any,.con ab,.con tI],[]⟩,[.bool]),(.exit 0,⟨32,.con ab::aN 4 [.con ab,.con tI],[]⟩,[])]
def Bk (ρ:Type):õ ρ:=⟨[],105,0,P0,fun(p:Val (.pair ab aE)) (v:Int) b a=>qK p.1 p.2.1 p.2.2 v (fun c=>b c) (a 0) (a 1)⟩
def K5 (ρ:Type):Env ρ:=Ø [(163,kv)] [Bk ρ]
def Gp:ú:=⟨[ab,ab],[ab],fun(x:lA)=>δ x.1 x.2⟩
def H4:Æ:=Ls 2 [tI,ab,ab] [tI] ⟨19,.own 1::.fn 166 [(0,0)]::aN 5 [.con tI,.var tI],[br,.rowc tI]⟩ [(.ret,⟨19,[.own 1,.fn 166 [(0,0)],.any,.any,.var tI,.any,.any,.con tI],[br,.rowc tI]⟩,[tI]),(.exit 0,⟨19,.own 1::.fn 166 [(0,0)]::aN 5 [.con tI],[br,.rowc tI]⟩,[])]
def HZ (ρ:Type):õ ρ:=⟨[1,3,1,2],205,0,H4,fun(p:Val (tyL H4.cs)) (v:Int) b a=>yh p.1 p.2.1 p.2.2 v (fun c=>b c) (a 0) (a 1)⟩
def Ww:Æ:=Ls 2 [ab] [tI,tI,ab] ⟨42,[.own 1,.fn 166 [(0,0)],.any,.any,.any,.var tI,.var tI],[br,.rowv tI]⟩ [(.exit 0,⟨42,[.own 1,.fn 166 [(0,0)],.any,.any,.any,.var tI],[br,.rowv tI]⟩,[tI,ab])]
def HY (ρ:Type):õ ρ:=⟨[1,3],164,0,Ww,fun(p:an) (v:Val bg) a b=>mg p v.1 v.2.1 v.2.2 (fun c d e=>a (c,d,e)) (b 0)⟩
def JU (ρ:Type):Env ρ:=Ø [(51,Ŧ)] [HZ ρ,HY ρ]
def VE:ú:=⟨[Ê,tI,tI],[π,.bool],fun(x:Val ba)=>yF x.1 x.2.1 x.2.2⟩
def Ib:Æ:=Ls 4 [af,tI,tI,tI,ae,aa,af,ac,aa,tI,tI,tI,tI,tI,tI] [tI] ⟨19,.con af::.fn 245 [(1,0),(2,0)]::aN 5 [.con tI,.var tI],[bt,bw,bw,bv]⟩ [(.ret,⟨19,[.con af,.fn 245 [(1,0),(2,0)],.any,.any,.var tI,.any,.any,.con tI],[bt,bw,bw,bv]⟩,[tI]),(.exit 0,⟨19,.con af::.fn 245 [(1,0),(2,0)]::aN 5 [.con tI],[bt,bw,bw,bv]⟩,[])]
def Ia (ρ:Type):õ ρ:=⟨[1,3],244,0,Ib,fun(p:Val (tyL Ib.cs)) (v:Int) b a=>yl p.1 p.2.1 p.2.2.2.2.2.2.2.2.2.1 p.2.2.2.2.2.2.2.2.2.2.1 v (fun c=>b c) (a 0) (a 1)⟩
def Ur (ρ:Type):Env ρ:=Ø [(163,kv)] [Ia ρ]
def Ll:ú:=⟨[Ê,ar,tI],[tI],fun(x:Val bp)=>Ō x.1 x.2.1 x.2.2⟩
def pH:Æ:=Ls 2 [ac,tI,tI,tI,ae,aa,af,ac,aa,tI,tI,ab,ab,tI,tI,tI,tI] [tI] ⟨19,.con ac::.fn 241 [(1,0)]::aN 5 [.con tI,.var tI],[bt,bz]⟩ [(.ret,⟨19,[.con ac,.fn 241 [(1,0)],.any,.any,.var tI,.any,.any,.con tI],[bt,bz]⟩,[tI]),(.exit 0,⟨19,.con ac::.fn 241 [(1,0)]::aN 5 [.con tI],[bt,bz]⟩,[])]
def pG (ρ:Type):õ ρ:=⟨[4,5,1,2],109,0,pH,fun(p:Val (tyL pH.cs)) (v:Int) b a=>jn p.1 p.2.1 p.2.2.2.2.2.2.2.2.2.1 v (fun c=>b c) (a 0) (a 1)⟩
def pD:Æ:=Ls 0 [ar,ab,tI,tI,tI,ab,tI,tI,tI,ae,aa,af,ac,aa,tI,tI,ab,ab,tI,tI,tI,tI,ab] [tI] ⟨140,.any::.con ar::.any::.box 0 0::aN 3 (.box 1 0::.con ab::.any::.con tI::aN 65 [.own 2,.con tI,.con tI,.any,.any,.any,.con ab,.con tI,.var tI]),ci⟩ [(.ret,⟨140,.any::.con ar::.any::.box 0 0::aN 2 (.var tI::.box 1 0::.con ab::.any::.con tI::aN 65 [.own 2,.con tI,.con tI,.any,.any,.any,.con ab,.con tI]),ci⟩,[tI]),(.exit 2,⟨140,.any::.con ar::.any::.box 0 0::aN 3 (.box 1 0::.con ab::.any::.con tI::aN 65 [.own 2,.con tI,.con tI,.any,.any,.any,.con ab,.con tI]),ci⟩,[])]
def pC (ρ:Type):õ ρ:=⟨[],201,2,pD,fun(p:Val (tyL pD.cs)) (v:Int) b a=>let A:=p.2.2.2.2.2;jm p.1 p.2.2.1 A.1 A.2.1 A.2.2.2.2.2.2.2.2.2.2.1 v (fun c=>b c) (a 0) (a 1)⟩
def pF:Æ:=Ls 0 [ar,ab,tI,tI,tI,ae,aa,af,ac,aa,tI,tI,ab,ab,tI,tI,tI,tI,ab] [tI] ⟨140,.any::.con ar::.any::.box 0 0::aN 3 (.box 1 0::.con ab::aN 67 [.own 2,.con tI,.var tI]),ci⟩ [(.ret,⟨140,.any::.con ar::.any::.box 0 0::aN 2 (.var tI::.box 1 0::.con ab::aN 67 [.own 2,.con tI]),ci⟩,[tI]),(.exit 0,⟨140,.any::.con ar::.any::.box 0 0::aN 3 (.box 1 0::.con ab::aN 67 [.own 2,.con tI]),ci⟩,[])]
def pE (ρ:Type):õ ρ:=⟨[],201,0,pF,fun(p:Val (tyL pF.cs)) (v:Int) b a=>œ p.1 p.2.1 p.2.2.1 p.2.2.2.2.2.2.2.2.2.2.2.1 p.2.2.2.2.2.2.2.2.2.2.2.2.2.2.2.2.2.2 v (fun c=>b c) (a 0) (a 1)⟩
def pB:Æ:=Ls 0 [ab,tI,tI,tI,ae,aa,af,ac,aa,tI,tI,ab,ab,tI,tI,tI,tI] [tI] ⟨140,aN 3 (.box 0 0::aN 3 (.box 1 0::aN 90 [.con ab,.con tI,.var tI])),[bt,bz]⟩ [(.ret,⟨140,aN 3 (.box 0 0::aN 2 (.var tI::.box 1 0::aN 90 [.con ab,.con tI])),[bt,bz]⟩,[tI]),(.exit 4,⟨140,aN 3 (.box 0 0::aN 3 (.box 1 0::aN 90 [.con ab,.con tI])),[bt,bz]⟩,[])]
def pA (ρ:Type):õ ρ:=⟨[],201,4,pB,fun(p:Val (tyL pB.cs)) (v:Int) b a=>let A:=p.2.2.2.2;Œ p.1 p.2.1 p.2.2.1 p.2.2.2.1 A.1 A.2.1 A.2.2.1 A.2.2.2.1 A.2.2.2.2.1 A.2.2.2.2.2.2.1 v (fun c=>b c) (a 0) (a 1)⟩
def Ť (ρ:Type):Env ρ:=Ø [(52,jN),(105,Js),(106,Gp),(152,vG),(163,kv),(197,zN),(198,oB),(204,VE)] [pG ρ,pC ρ,pE ρ,pA ρ]
def rE:ú:=⟨[Ê],[tI],fun(x:b6)=>ż x⟩
def Yl:ú:=⟨[ab],[bo],fun(x:an)=>IA x⟩
def Tl:ú:=⟨[Â],[.bool],fun(x:a8)=>Cn x⟩
def zX:Æ:=Ls 0 [tI,tI,ae,aa,af,ac,aa,aj,tI,tI,ae,aa,af,ac,aa] [tI] ⟨90,[.any,.box 0 0,.any,.box 1 0,.var tI],[bB,bt]⟩ [(.ret,⟨90,[.any,.box 0 0,.var .bool,.box 1 0],[bB,bt]⟩,[.bool]),(.exit 0,⟨90,[.any,.box 0 0,.any,.box 1 0],[bB,bt]⟩,[])]
def zW (ρ:Type):õ ρ:=⟨[],6,0,zX,fun(p:Val (tyL zX.cs)) (v:Int) b a=>qo p.2.2.2.2.2.2.2.2.2.2.2.2.2.1 v (fun c=>b c) (a 0) (a 1)⟩
def zV:Æ:=Ls 0 [tI,tI,ae,aa,af,ac,aa,aj,tI,tI,ae,aa,af,ac,aa] [tI] ⟨90,[.any,.box 0 0,.any,.box 1 0,.any,.var tI],[bB,bt]⟩ [(.ret,⟨90,[.any,.box 0 0,.var .bool,.box 1 0],[bB,bt]⟩,[.bool]),(.exit 2,⟨90,[.any,.box 0 0,.any,.box 1 0],[bB,bt]⟩,[])]
def zU (ρ:Type):õ ρ:=⟨[],6,2,zV,fun(p:Val (tyL zV.cs)) (v:Int) b a=>mN p.2.2.2.2.2.2.2.1 v (fun c=>b c) (a 0) (a 1)⟩
def zY (ρ:Type):Env ρ:=Ø [] [zW ρ,zU ρ]
def YG:ú:=⟨[Ê,tI,ab],[tI],fun(x:Val (.pair Ê Ģ))=>IU x.1 x.2.1 x.2.2⟩
def EA:Æ:=Ls 1 [ab,tI,tI,tI,ae,aa,af,ac,aa] [tI] ⟨19,.con ab::.fn 243 []::aN 5 [.con tI,.var tI],[bt]⟩ [(.ret,⟨19,[.con ab,.fn 243 [],.any,.any,.var tI,.any,.any,.con tI],[bt]⟩,[tI]),(.exit 0,⟨19,.con ab::.fn 243 []::aN 5 [.con tI],[bt]⟩,[])]
def Ez (ρ:Type):õ ρ:=⟨[4,1,1,2],205,0,EA,fun(p:Val (tyL EA.cs)) (v:Int) b a=>uM p.1 p.2.1 v (fun c=>b c) (a 0) (a 1)⟩
def P3 (ρ:Type):Env ρ:=Ø [(96,rE),(154,xB),(197,zN)] [Ez ρ]
def adu:ú:=⟨[Ê,tI,tI],[.bool,tI],fun(x:Val ba)=>CC x.1 x.2.1 x.2.2⟩
def afI (ρ:Type):Env ρ:=Ø [(203,YG),(204,VE)] []
def Yn:ú:=⟨[Ê,aj,tI],[tI],fun(x:Val (.pair Ê (.pair aj tI)))=>IC x.1 x.2.1 x.2.2⟩
def Dy:Æ:=Ls 0 [aj,tI,tI,tI,ae,aa,af,ac,aa,tI,ab] [tI] ⟨104,[.any,.con aj,.con tI,.box 0 0,.any,.any,.any,.box 1 0,.var tI],cj⟩ [(.ret,⟨104,[.any,.con aj,.con tI,.box 0 0,.any,.any,.var tI,.box 1 0],cj⟩,[tI]),(.exit 0,⟨104,[.any,.con aj,.con tI,.box 0 0,.any,.any,.any,.box 1 0],cj⟩,[])]
def Dx (ρ:Type):õ ρ:=⟨[],97,0,Dy,fun(p:Val (tyL Dy.cs)) (v:Int) b a=>oZ p.2.2.2.2.2.2.2.2.2.2 v (fun c=>b c) (a 0) (a 1)⟩
def Dw:Æ:=Ls 0 [aj,tI,ae,tI,tI,tI,ae,aa,af,ac,aa,tI,ab] [tI,bj] ⟨104,.any::.con aj::.con tI::.box 0 0::aN 3 (.box 1 0::.any::.box 2 0::aN 50 [.con ae,.con tI,.var tI]),[bt,bC,bD,.mapv tI tI]⟩ [(.exit 2,⟨104,.any::.con aj::.con tI::.box 0 0::aN 3 (.box 1 0::.any::.box 2 0::aN 50 [.con ae,.con tI]),[bt,bC,bD,.mapv tI tI]⟩,[bj])]
def Dv (ρ:Type):õ ρ:=⟨[],97,2,Dw,fun(p:Val (tyL Dw.cs)) (v:Val (.pair tI bj)) a b=>oY p.2.2.1 p.2.2.2.1 v.1 v.2 (fun c d=>a (c,d)) (b 0)⟩
def Rw:Æ:=Ls 4 [ab,tI,tI,tI,ae,aa,af,ac,aa,tI,ab,bj] [tI] ⟨19,.con ab::.fn 157 [(2,0)]::aN 5 [.con tI,.var tI],cm⟩ [(.ret,⟨19,[.con ab,.fn 157 [(2,0)],.any,.any,.var tI,.any,.any,.con tI],cm⟩,[tI]),(.exit 0,⟨19,.con ab::.fn 157 [(2,0)]::aN 5 [.con tI],cm⟩,[])]
def Du (ρ:Type):õ ρ:=⟨[18,3,1,2],205,0,Rw,fun(p:Val aJ) (v:Int) b a=>oX p.1 p.2.1 p.2.2.2.2.2.2.2.2.2.2.2 v (fun c=>b c) (a 0) (a 1)⟩
def Rv:Æ:=Ls 4 [ab,tI,tI,tI,ae,aa,af,ac,aa,tI,ab,bj] [tI] ⟨19,.con ab::.fn 158 [(1,0),(2,0)]::aN 5 [.con tI,.var tI],cm⟩ [(.ret,⟨19,[.con ab,.fn 158 [(1,0),(2,0)],.any,.any,.var tI,.any,.any,.con tI],cm⟩,[tI]),(.exit 0,⟨19,.con ab::.fn 158 [(1,0),(2,0)]::aN 5 [.con tI],cm⟩,[])]
def Dt (ρ:Type):õ ρ:=⟨[20,3,1,2],205,0,Rv,fun(p:Val aJ) (v:Int) b a=>mo p.1 p.2.1 p.2.2.2.2.2.2.2.2.2.1 p.2.2.2.2.2.2.2.2.2.2.2 v (fun c=>b c) (a 0) (a 1)⟩
def Ru:Æ:=Ls 4 [ab,tI,tI,tI,ae,aa,af,ac,aa,tI,ab,bj] [tI] ⟨19,.con ab::.fn 159 [(0,0),(1,0)]::aN 5 [.con tI,.var tI],cm⟩ [(.ret,⟨19,[.con ab,.fn 159 [(0,0),(1,0)],.any,.any,.var tI,.any,.any,.con tI],cm⟩,[tI]),(.exit 0,⟨19,.con ab::.fn 159 [(0,0),(1,0)]::aN 5 [.con tI],cm⟩,[])]
def Ds (ρ:Type):õ ρ:=⟨[24,3,1,2],205,0,Ru,fun(p:Val aJ) (v:Int) b a=>let A:=p.2.2.2.2;Ŋ p.1 p.2.1 p.2.2.1 p.2.2.2.1 A.1 A.2.1 A.2.2.1 A.2.2.2.1 A.2.2.2.2.1 A.2.2.2.2.2.1 v (fun c=>b c) (a 0) (a 1)⟩
def mf (ρ:Type):Env ρ:=Ø [(160,adu)] [Dx ρ,Dv ρ,Du ρ,Dt ρ,Ds ρ]
def jS:ú:=⟨[Â],[tI],fun(x:a8)=>iS x⟩
def RH:Æ:=Ls 0 [aj,tI,tI,tI,tI,tI,ae,aa,af,ac,aa,aj] [tI,tI] ⟨50,.any::.box 0 0::aN 2 (.var tI::aN 15 (.con aj::.con tI::.con tI::aN 15 [.con tI,.var tI])),[bB]⟩ [(.exit 2,⟨50,.any::.box 0 0::aN 2 (.var tI::aN 15 (.con aj::.con tI::.con tI::aN 15 [.con tI])),[bB]⟩,[tI])]
def DA (ρ:Type):õ ρ:=⟨[],44,2,RH,fun(p:Val (.pair aj bn)) (v:bx) a b=>o8 p.2.2.2.1 v.1 v.2 (fun c d=>a (c,d)) (b 0)⟩
def RI:Æ:=Ls 0 [aj,tI,tI,tI,ae,aa,af,ac,aa,aj] [tI,tI] ⟨50,.any::.box 0 0::aN 2 (.var tI::aN 15 [.con aj,.con tI,.var tI]),[bB]⟩ [(.ret,⟨50,.any::.box 0 0::.var tI::aN 17 [.con aj,.con tI],[bB]⟩,[tI]),(.exit 0,⟨50,.any::.box 0 0::aN 2 (.var tI::aN 15 [.con aj,.con tI]),[bB]⟩,[tI])]
def DB (ρ:Type):õ ρ:=⟨[],44,0,RI,fun(p:Val (.pair aj aF)) (v:bx) b a=>let A:=p.2.2.2.2;tW p.1 p.2.1 p.2.2.1 p.2.2.2.1 A.1 A.2.1 A.2.2.1 A.2.2.2.1 A.2.2.2.2.1 A.2.2.2.2.2 v.1 v.2 (fun c d=>b (c,d)) (a 0) (a 1)⟩
def Fh (ρ:Type):Env ρ:=Ø [(96,rE),(97,Yn)] [DA ρ,DB ρ]
def zM:ú:=⟨[tI],[.bool],fun(x:Int)=>nl x⟩
def JR (ρ:Type):Env ρ:=Ø [] []
def nX:ú:=⟨[tI,tI],[tI],fun(x:bx)=>iV x.1 x.2⟩
def Fy (ρ:Type):Env ρ:=Ø [(171,zM)] []
def Tn:ú:=⟨[Â,ah],[tI],fun(x:rn)=>ĺ x.1 x.2⟩
def Ac:Æ:=Ls 0 [tI,ah,tI,tI,ab,tI,tI,tI,ae,aa,af,ac,aa,aj] [tI,tI] ⟨40,aN 2 (.box 0 0::aN 2 (.var tI::.con tI::aN 3 (.con ah::.con tI::.con tI::aN 4 [.con ab,.con tI,.var tI]))),[bB]⟩ [(.exit 2,⟨40,aN 2 (.box 0 0::aN 2 (.var tI::.con tI::aN 3 (.con ah::.con tI::.con tI::aN 4 [.con ab,.con tI]))),[bB]⟩,[tI])]
def Ab (ρ:Type):õ ρ:=⟨[],115,2,Ac,fun(p:Val (tyL Ac.cs)) (v:bx) a b=>let A:=p.2.2.2.2;qq p.1 A.1 A.2.1 A.2.2.2.2.2.2.2.2.2 v.1 v.2 (fun c d=>a (c,d)) (b 0)⟩
def N7:Æ:=Ls 0 [ah,tI,tI,tI,ae,aa,af,ac,aa,aj] [tI,tI] ⟨40,aN 2 (.box 0 0::aN 2 (.var tI::aN 4 [.con ah,.con tI,.var tI])),[bB]⟩ [(.exit 0,⟨40,aN 2 (.box 0 0::aN 2 (.var tI::aN 4 [.con ah,.con tI])),[bB]⟩,[tI])]
def Ad (ρ:Type):õ ρ:=⟨[],115,0,N7,fun(p:l7) (v:bx) a b=>qr p.1 p.2.1 p.2.2.2.2.2.2.2.2.2 v.1 v.2 (fun c d=>a (c,d)) (b 0)⟩
def Ae (ρ:Type):Env ρ:=Ø [] [Ab ρ,Ad ρ]
def Jo:ú:=⟨[ah,ah,ay],[tI],fun(x:Val (.pair ah (.pair ah ay)))=>kS x.1 x.2.1 x.2.2⟩
def Y5 (ρ:Type):Env ρ:=Ø [(114,nX),(115,Tn)] []
def ĉ:agO:=⟨ah,[tI,tI],113,Â,fun(xs:a7) (x:bx) (m:a8)=>ê xs x.1 x.2 m⟩
def mS:Æ:=Ls 2 [tI,tI,tI,tI,tI,ae,aa,af,ac,aa,aj] [tI,ak] ⟨53,.own 0::.con tI::.con tI::.fn 113 [(1,0)]::aN 4 [.con tI,.var tI],cn⟩ [(.exit 2,⟨53,.own 0::.con tI::.con tI::.fn 113 [(1,0)]::aN 4 [.con tI],cn⟩,[ak])]
def Ο (ρ:Type):õ ρ:=⟨[],207,2,mS,fun(p:Val bn) (v:im) a b=>let A:=p.2.2.2.2;let B:=A.2.2.2.2;ë p.1 p.2.2.2.1 A.1 A.2.1 A.2.2.1 A.2.2.2.1 B.1 B.2.1 B.2.2 v.1 v.2 (fun c d=>a (c,d)) (b 0)⟩
def mT:Æ:=Ls 2 [tI,tI,tI,tI,ae,aa,af,ac,aa,aj] [tI,ak] ⟨53,.own 0::.con tI::.con tI::.fn 113 [(1,0)]::aN 4 [.var tI],cn⟩ [(.exit 0,⟨53,[.own 0,.con tI,.con tI,.fn 113 [(1,0)]],cn⟩,[ak])]
def Ρ (ρ:Type):õ ρ:=⟨[],207,0,mT,fun(p:Val (.pair tI aF)) (v:im) a b=>let A:=p.2.2.2.2;ē p.1 p.2.1 p.2.2.1 p.2.2.2.1 A.1 A.2.1 A.2.2.1 A.2.2.2.1 A.2.2.2.2.1 A.2.2.2.2.2 v.1 v.2 (fun c d=>a (c,d)) (b 0)⟩
def þ (ρ:Type):Env ρ:={Ø [(113,Jo)] [Ο ρ,Ρ ρ] with hint:=WR [(22,113)]}
def ķ:agO:=⟨ah,[tI,tI,tI],113,Â,fun(xs:a7) (x:qs) (m:a8)=>ļ xs x.1 x.2.1 x.2.2 m⟩
def ta:Æ:=Ls 2 [tI,tI,tI,tI,tI,ae,aa,af,ac,aa,aj] [tI,ak] ⟨38,.own 0::.con tI::.con tI::.con tI::aN 6 [.var tI],cn⟩ [(.exit 0,⟨38,[.own 0,.con tI,.con tI,.con tI],cn⟩,[ak])]
def lm (ρ:Type):õ ρ:=⟨[4,7],267,0,ta,fun(p:Val bn) (v:im) a b=>Ē p.1 p.2.1 p.2.2.1 v.1 v.2 (fun c d=>a (c,d)) (b 0)⟩
def s9:Æ:=Ls 2 [tI,tI,tI,tI,tI,ae,aa,af,ac,aa,aj] [tI,ak] ⟨38,.own 0::.con tI::.con tI::.con tI::aN 6 [.var tI],cn⟩ [(.exit 0,⟨38,[.own 0,.con tI,.con tI,.con tI],cn⟩,[ak])]
def lh (ρ:Type):õ ρ:=⟨[6,11],267,0,s9,fun(p:Val bn) (v:im) a b=>iO p.1 p.2.1 p.2.2.1 v.1 v.2 (fun c d=>a (c,d)) (b 0)⟩
def tc:Æ:=Ls 2 [tI,tI,tI,ae,aa,af,ac,aa,aj] [tI,tI,ak] ⟨58,.own 0::.any::.con tI::.any::.fn 113 [(1,0)]::aN 5 [.var tI,.var tI],cn⟩ [(.exit 0,⟨58,.own 0::.any::.con tI::.any::.fn 113 [(1,0)]::aN 5 [.var tI],cn⟩,[tI,ak])]
def ln (ρ:Type):õ ρ:=⟨[],246,0,tc,fun(p:Val aF) (v:x9) a b=>ĸ p.1 v.1 v.2.1 v.2.2 (fun c d e=>a (c,d,e)) (b 0)⟩
def s8:Æ:=Ls 2 [tI,tI,tI,tI,tI,ae,aa,af,ac,aa,aj] [tI,ak] ⟨38,.own 0::.con tI::.con tI::.con tI::aN 6 [.var tI],cn⟩ [(.exit 0,⟨38,[.own 0,.con tI,.con tI,.con tI],cn⟩,[ak])]
def lg (ρ:Type):õ ρ:=⟨[8,7],267,0,s8,fun(p:Val bn) (v:im) a b=>iN p.1 p.2.1 p.2.2.1 v.1 v.2 (fun c d=>a (c,d)) (b 0)⟩
def ą (ρ:Type):Env ρ:=Ø [] [lm ρ,lh ρ,ln ρ,lg ρ]
def mI:agO:=⟨ah,[tI,tI,tI],113,Â,fun(xs:a7) (x:qs) (m:a8)=>Ě xs x.1 x.2.1 x.2.2 m⟩
def Ď:Æ:=Ls 2 [tI,ak,tI,tI,ae,aa,af,ac,aa,aj] [tI,tI] ⟨220,.own 0::.con tI::aN 2 (.fn 113 [(1,0)]::aN 5 [.var tI,.var tI]),cp⟩ [(.exit 0,⟨220,.own 0::.con tI::aN 2 (.fn 113 [(1,0)]::aN 5 [.var tI]),cp⟩,[tI])]
def Ŭ (rec:a7->Int->Int->Int->a8->BY (a7×a8)) (ρ:Type):õ ρ:=⟨[],208,0,Ď,fun(p:v6) (v:bx) a b=>Ā rec p.1 p.2.1 p.2.2.1 p.2.2.2.1 p.2.2.2.2.1 p.2.2.2.2.2.1 p.2.2.2.2.2.2.1 p.2.2.2.2.2.2.2.1 p.2.2.2.2.2.2.2.2.1 p.2.2.2.2.2.2.2.2.2 v.1 v.2 (fun c d=>a (c,d)) (b 0)⟩
def č:Æ:=Ls 2 [tI,tI,tI,ae,aa,af,ac,aa,aj] [tI,ak] ⟨220,.own 0::aN 9 [.con tI,.any,.any,.var tI],cn⟩ [(.exit 2,⟨220,.own 0::aN 9 [.con tI],cn⟩,[ak])]
def ū (rec:a7->Int->Int->Int->a8->BY (a7×a8)) (ρ:Type):õ ρ:=⟨[],208,2,č,fun(p:Val aF) (v:im) a b=>ô rec p.1 v.1 v.2 (fun c d=>a (c,d)) (b 0)⟩
def Č:Æ:=Ls 2 [tI,ak,tI,tI,ae,aa,af,ac,aa,aj] [tI,tI] ⟨220,.own 0::.any::.con tI::.any::.fn 113 [(1,0)]::aN 9 [.var tI,.var tI],cp⟩ [(.exit 4,⟨220,.own 0::.any::.con tI::.any::.fn 113 [(1,0)]::aN 9 [.var tI],cp⟩,[tI])]
def Ū (rec:a7->Int->Int->Int->a8->BY (a7×a8)) (ρ:Type):õ ρ:=⟨[],208,4,Č,fun(p:v6) (v:bx) a b=>ÿ rec p.1 p.2.1 p.2.2.1 p.2.2.2.1 p.2.2.2.2.1 p.2.2.2.2.2.1 p.2.2.2.2.2.2.1 p.2.2.2.2.2.2.2.1 p.2.2.2.2.2.2.2.2.1 p.2.2.2.2.2.2.2.2.2 v.1 v.2 (fun c d=>a (c,d)) (b 0)⟩
def ċ:Æ:=Ls 2 [tI,tI,tI,ae,aa,af,ac,aa,aj] [tI,ak] ⟨220,.own 0::aN 13 [.con tI,.any,.any,.var tI],cn⟩ [(.exit 6,⟨220,.own 0::aN 13 [.con tI],cn⟩,[ak])]
def ũ (rec:a7->Int->Int->Int->a8->BY (a7×a8)) (ρ:Type):õ ρ:=⟨[],208,6,ċ,fun(p:Val aF) (v:im) a b=>ó rec p.1 v.1 v.2 (fun c d=>a (c,d)) (b 0)⟩
def Ċ:Æ:=Ls 2 [tI,tI,tI,tI,tI,tI,ak,tI,tI,ae,aa,af,ac,aa,aj] [tI,tI] ⟨220,.own 0::.con tI::.con tI::.con tI::.fn 113 [(1,0)]::aN 13 [.con tI,.con tI,.var tI,.var tI,.con tI],cp⟩ [(.exit 8,⟨220,.own 0::.con tI::.con tI::.con tI::.fn 113 [(1,0)]::aN 13 [.con tI,.con tI,.var tI,.any,.con tI],cp⟩,[tI])]
def Ũ (rec:a7->Int->Int->Int->a8->BY (a7×a8)) (ρ:Type):õ ρ:=⟨[],208,8,Ċ,fun(p:Val aV) (v:bx) a b=>ã rec p.2.2.2.2.2.1 p.2.2.2.2.2.2.1 p.2.2.2.2.2.2.2.1 p.2.2.2.2.2.2.2.2.1 p.2.2.2.2.2.2.2.2.2.1 p.2.2.2.2.2.2.2.2.2.2.1 p.2.2.2.2.2.2.2.2.2.2.2.1 p.2.2.2.2.2.2.2.2.2.2.2.2.1 p.2.2.2.2.2.2.2.2.2.2.2.2.2.1 p.2.2.2.2.2.2.2.2.2.2.2.2.2.2 v.1 v.2 (fun c d=>a (c,d)) (b 0)⟩
def sX (rec:a7->Int->Int->Int->a8->BY (a7×a8)):CK (Nat×ú):=[(113,Jo)]
def sW (rec:a7->Int->Int->Int->a8->BY (a7×a8)):CK (Nat×aeQ):=[(208,.row ⟨ah,[tI,tI,tI],113,Â,fun(xs:a7) (x:qs) (m:a8)=>rec xs x.1 x.2.1 x.2.2 m⟩),(246,.row ķ)]
def jW (rec:a7->Int->Int->Int->a8->BY (a7×a8)) (ρ:Type):CK (õ ρ):=[Ŭ rec ρ,ū rec ρ,Ū rec ρ,ũ rec ρ,Ũ rec ρ]
def É (rec:a7->Int->Int->Int->a8->BY (a7×a8)) (ρ:Type):Env ρ:={adz (sX rec) (jW rec ρ) (sW rec) with hint:=WR [(40,113),(92,113),(158,113)]}
def ĥ:agO:=⟨ah,[tI],113,Â,fun(xs:a7) (x:Int) (m:a8)=>Ļ xs x m⟩
def s7:Æ:=Ls 2 [tI,tI] [tI,tI,ak,tI,tI,ae,aa,af,ac,aa,aj] ⟨63,[.own 0,.con tI,.fn 113 [(1,0)],.any,.any,.any,.con tI,.var tI,.var tI],cq⟩ [(.exit 0,⟨63,[.own 0,.con tI,.fn 113 [(1,0)],.any,.any,.any,.con tI,.var tI],cq⟩,[tI,ak,tI,tI,ae,aa,af,ac,aa,aj])]
def lf (ρ:Type):õ ρ:=⟨[],170,0,s7,fun(p:bx) (v:y5) a b=>iM p.1 p.2 v.1 v.2.1 v.2.2.1 v.2.2.2.1 v.2.2.2.2.1 v.2.2.2.2.2.1 v.2.2.2.2.2.2.1 v.2.2.2.2.2.2.2.1 v.2.2.2.2.2.2.2.2.1 v.2.2.2.2.2.2.2.2.2.1 v.2.2.2.2.2.2.2.2.2.2 (fun c d e f g h i j k l m=>a (c,d,e,f,g,h,i,j,k,l,m)) (b 0)⟩
def sY:Æ:=Ls 2 [tI,tI] [tI,tI,ak,tI,tI,ae,aa,af,ac,aa,aj] ⟨63,[.own 0,.con tI,.fn 113 [(1,0)],.any,.any,.any,.con tI,.var tI,.var tI],cq⟩ [(.exit 4,⟨63,[.own 0,.con tI,.fn 113 [(1,0)],.any,.any,.any,.con tI,.var tI],cq⟩,[tI,ak,tI,tI,ae,aa,af,ac,aa,aj])]
def kZ (ρ:Type):õ ρ:=⟨[],170,4,sY,fun(p:bx) (v:y5) a b=>iK p.1 p.2 v.1 v.2.1 v.2.2.1 v.2.2.2.1 v.2.2.2.2.1 v.2.2.2.2.2.1 v.2.2.2.2.2.2.1 v.2.2.2.2.2.2.2.1 v.2.2.2.2.2.2.2.2.1 v.2.2.2.2.2.2.2.2.2.1 v.2.2.2.2.2.2.2.2.2.2 (fun c d e f g h i j k l m=>a (c,d,e,f,g,h,i,j,k,l,m)) (b 0)⟩
def sZ:Æ:=Ls 2 [tI] [tI,ak,tI,tI,ae,aa,af,ac,aa,aj] ⟨63,[.own 0,.con tI,.fn 113 [(1,0)],.any,.any,.any,.var tI],cq⟩ [(.exit 2,⟨63,[.own 0,.con tI,.fn 113 [(1,0)]],cq⟩,[ak,tI,tI,ae,aa,af,ac,aa,aj])]
def la (ρ:Type):õ ρ:=⟨[],170,2,sZ,fun(p:Int) (v:v6) a b=>iL p v.1 v.2.1 v.2.2.1 v.2.2.2.1 v.2.2.2.2.1 v.2.2.2.2.2.1 v.2.2.2.2.2.2.1 v.2.2.2.2.2.2.2.1 v.2.2.2.2.2.2.2.2.1 v.2.2.2.2.2.2.2.2.2 (fun c d e f g h i j k l=>a (c,d,e,f,g,h,i,j,k,l)) (b 0)⟩
def wj:CK (Nat×aeQ):=[(207,.row ĉ),(208,.row mI)]
def ę (ρ:Type):Env ρ:=adz [] [lf ρ,kZ ρ,la ρ] wj
def B7:ú:=⟨[Â],[ak],fun(x:a8)=>uR x⟩
def mO:Tpl:=⟨13,[.any,.any,.box 2 0],[.cells [.con tI,.con tI,.con ae,.con aa,.con af,.con ac,.con aa,.con aj],.dead,.cells [.own 3],.rowv ah]⟩
def qt (ρ:Type):Ja ρ:=⟨[1,3,1,1],167,0,3,[tI,tI,ae,aa,af,ac,aa,aj],[ak],mO,su,fun(p:th) (v:a7) y a=>EX v y (fun b=>a b)⟩
def N8 (ρ:Type):CK (Ja ρ):=[qt ρ]
def abB:CK (Nat×aeQ):=[(170,.row ĥ)]
def kB (ρ:Type):Env ρ:={adz [] [] abB with ranges:=Ν (N8 ρ)}
def NB:ú:=⟨[Â,ah,tI,tI],[tI],fun(x:rx)=>vr x.1 x.2.1 x.2.2.1 x.2.2.2⟩
def Y0:Æ:=Ls 0 [ah,tI,tI,tI,ae,aa,af,ac,aa,aj] [tI,tI] ⟨47,.any::.con ah::.var tI::.con tI::.box 0 0::aN 4 [.var tI],[bB]⟩ [(.exit 0,⟨47,[.any,.con ah,.var tI,.con tI,.box 0 0],[bB]⟩,[tI])]
def KN (ρ:Type):õ ρ:=⟨[],69,0,Y0,fun(p:l7) (v:bx) a b=>B8 p.1 p.2.1 p.2.2.2.2.2.2.2.2.2 v.1 v.2 (fun c d=>a (c,d)) (b 0)⟩
def Y3 (ρ:Type):Env ρ:=Ø [(107,nV)] [KN ρ]
def zL:ú:=⟨[ab,tI,ay,aK],[ab],fun(x:Val (.pair ab (.pair tI (.pair ay aK))))=>kg x.1 x.2.1 x.2.2.1 x.2.2.2⟩
def qe:Æ:=Ls 0 [tI,ay,aK,ab,tI] [tI,ab] ⟨28,[.any,.con tI,.con ay,.con aK,.any,.any,.any,.own 0,.any,.any,.con ab,.con tI,.var tI],cf⟩ [(.exit 0,⟨28,[.any,.con tI,.con ay,.con aK,.any,.any,.any,.own 0,.any,.any,.con ab,.con tI],cf⟩,[ab])]
def qd (ρ:Type):õ ρ:=⟨[],132,0,qe,fun(p:Val (tyL qe.cs)) (v:f4) a b=>jO p.1 p.2.1 p.2.2.1 p.2.2.2.1 p.2.2.2.2 v.1 v.2 (fun c d=>a (c,d)) (b 0)⟩
def vN (ρ:Type):Env ρ:=Ø [(69,NB)] [qd ρ]
def ku:ú:=⟨[Â,ah],[Ê],fun(x:rn)=>Φ x.1 x.2⟩
def tM:Æ:=Ls 0 [ay,aK,ay,aK,aa,tI,tI,tI,tI,tI,ae,aa,af,ac,aa,tI,tI,ae] [tI,aa] ⟨123,aN 2 (.con ay::.con aK::.box 0 0::.box 1 0::.box 2 0::.fnd 132 [Â,ah]::aN 18 [.con aa,.con tI,.var tI]),[bG,bt,bH,.rowc Ú,.rowv Ç]⟩ [(.exit 0,⟨123,aN 2 (.con ay::.con aK::.box 0 0::.box 1 0::.box 2 0::.fnd 132 [Â,ah]::aN 18 [.con aa,.con tI]),[bG,bt,bH,.rowc Ú,.rowv Ç]⟩,[aa])]
def tK (ρ:Type):õ ρ:=⟨[],71,0,tM,fun(p:Val (tyL tM.cs)) (v:nj) a b=>lX p.1 p.2.1 p.2.2.2.2.1 p.2.2.2.2.2.1 v.1 v.2 (fun c d=>a (c,d)) (b 0)⟩
def tJ:Æ:=Ls 0 [ay,aK,ay,aK,af,tI,tI,tI,tI,tI,ae,aa,af,ac,aa,tI,tI,ae,aa] [tI,af] ⟨123,aN 2 (.con ay::.con aK::.box 0 0::.box 1 0::.box 2 0::.fnd 132 [Â,ah]::aN 41 [.con af,.con tI,.var tI]),cr⟩ [(.exit 2,⟨123,aN 2 (.con ay::.con aK::.box 0 0::.box 1 0::.box 2 0::.fnd 132 [Â,ah]::aN 41 [.con af,.con tI]),cr⟩,[af])]
def tG (ρ:Type):õ ρ:=⟨[],71,2,tJ,fun(p:Val (tyL tJ.cs)) (v:y6) a b=>lW p.1 p.2.1 p.2.2.2.2.1 p.2.2.2.2.2.1 v.1 v.2 (fun c d=>a (c,d)) (b 0)⟩
def tF:Æ:=Ls 0 [ay,aK,ay,aK,ac,tI,tI,tI,tI,tI,ae,aa,af,ac,aa,tI,tI,ae,aa,af] [tI,ac] ⟨123,aN 2 (.con ay::.con aK::.box 0 0::.box 1 0::.box 2 0::.fnd 132 [Â,ah]::aN 64 [.con ac,.con tI,.var tI]),cu⟩ [(.exit 4,⟨123,aN 2 (.con ay::.con aK::.box 0 0::.box 1 0::.box 2 0::.fnd 132 [Â,ah]::aN 64 [.con ac,.con tI]),cu⟩,[ac])]
def tE (ρ:Type):õ ρ:=⟨[],71,4,tF,fun(p:Val (tyL tF.cs)) (v:Val bc) a b=>lV p.2.2.1 p.2.2.2.1 p.2.2.2.2.1 p.2.2.2.2.2.1 v.1 v.2 (fun c d=>a (c,d)) (b 0)⟩
def tD:Æ:=Ls 0 [ay,aK,aa,tI,tI,tI,tI,tI,ae,aa,af,ac] [tI,aa] ⟨123,aN 2 (.con ay::.con aK::.box 0 0::.any::.box 1 0::aN 93 [.con aa,.con tI,.var tI]),cw⟩ [(.exit 6,⟨123,aN 2 (.con ay::.con aK::.box 0 0::.any::.box 1 0::aN 93 [.con aa,.con tI]),cw⟩,[aa])]
def tC (ρ:Type):õ ρ:=⟨[],71,6,tD,fun(p:Val (tyL tD.cs)) (v:nj) a b=>lU p.1 p.2.1 p.2.2.1 p.2.2.2.1 v.1 v.2 (fun c d=>a (c,d)) (b 0)⟩
def Ŵ (ρ:Type):Env ρ:={Ø [(69,NB),(132,zL)] [tK ρ,tG ρ,tE ρ,tC ρ] with hint:=WR [(78,132),(84,132)]}
def ų:ú:=⟨[aa,Ç],[tI],fun(x:Val (.pair aa Ç))=>ü x.1 x.2⟩
def nE:Æ:=Ls 0 [aa,tI,tI,tI] [tI] ⟨19,[.con aa,.any,.any,.box 0 0,.any,.any,.any,.con tI,.var tI],[bL]⟩ [(.ret,⟨19,[.con aa,.any,.any,.box 0 0,.var tI,.any,.any,.con tI],[bL]⟩,[tI]),(.exit 0,⟨19,[.con aa,.any,.any,.box 0 0,.any,.any,.any,.con tI],[bL]⟩,[])]
def ς (ρ:Type):õ ρ:=⟨[],174,0,nE,fun(p:Val (.pair aa ģ)) (v:Int) b a=>ī p.1 p.2.1 p.2.2.1 p.2.2.2 v (fun c=>b c) (a 0) (a 1)⟩
def jw (ρ:Type):Env ρ:=Ø [] [ς ρ]
def KK:ú:=⟨[aR,ab,tI],[tI],fun(x:Val (.pair aR aE))=>mw x.1 x.2.1 x.2.2⟩
def Sz (ρ:Type):Env ρ:=Ø [(174,ų)] []
def adr:ú:=⟨[Ê,Ú,tI,tI],[tI],fun(x:Val (.pair Ê (.pair Ú Ç)))=>CB x.1 x.2.1 x.2.2.1 x.2.2.2⟩
def HX:Æ:=Ls 0 [tI,tI,af,tI,tI,tI,ae,aa,af,ac,aa,tI,tI,tI,tI,tI,tI,tI,tI] [tI,tI] ⟨88,aN 2 (.con tI::.con tI::.box 0 0::.box 1 0::aN 3 (.var tI::aN 7 [.con af,.con tI,.var tI])),[bt,bu]⟩ [(.exit 0,⟨88,aN 2 (.con tI::.con tI::.box 0 0::.box 1 0::aN 3 (.var tI::aN 7 [.con af,.con tI])),[bt,bu]⟩,[tI])]
def HW (ρ:Type):õ ρ:=⟨[],226,0,HX,fun(p:Val (tyL HX.cs)) (v:bx) a b=>yf p.1 p.2.1 p.2.2.1 p.2.2.2.1 p.2.2.2.2.2.2.2.2.2.2.2.1 v.1 v.2 (fun c d=>a (c,d)) (b 0)⟩
def HV:Æ:=Ls 0 [tI,tI,tI,aa,tI,tI,tI,tI,tI,tI,tI,tI,tI] [tI,ab] ⟨88,aN 2 (.con tI::.con tI::.any::.box 0 0::aN 3 (.con tI::aN 3 (.own 1::aN 39 [.con aa,.con tI,.var tI]))),[bu,.rowv tI]⟩ [(.exit 2,⟨88,aN 2 (.con tI::.con tI::.any::.box 0 0::aN 3 (.con tI::aN 3 (.own 1::aN 39 [.con aa,.con tI]))),[bu,.rowv tI]⟩,[ab])]
def HU (ρ:Type):õ ρ:=⟨[],226,2,HV,fun(p:Val (tyL HV.cs)) (v:f4) a b=>ye p.1 p.2.1 p.2.2.2.1 p.2.2.2.2.1 p.2.2.2.2.2.1 v.1 v.2 (fun c d=>a (c,d)) (b 0)⟩
def JT (ρ:Type):Env ρ:=Ø [(163,kv)] [HW ρ,HU ρ]
def yS:ú:=⟨[ar,ab],[Ç],fun(x:Val (.pair ar ab))=>jy x.1 x.2⟩
def HK (ρ:Type):Env ρ:=Ø [] []
def vE:ú:=⟨[aa],[tI],fun(x:bl)=>lP x⟩
def Sy:Æ:=Ls 0 [aa,tI] [tI] ⟨15,aN 5 [.con aa,.con tI,.var tI],[]⟩ [(.ret,⟨15,[.any,.any,.var tI,.any,.any,.con aa,.con tI],[]⟩,[tI]),(.exit 0,⟨15,aN 5 [.con aa,.con tI],[]⟩,[])]
def Ep (ρ:Type):õ ρ:=⟨[],272,0,Sy,fun(p:Val (.pair aa tI)) (v:Int) b a=>uH p.1 p.2 v (fun c=>b c) (a 0) (a 1)⟩
def PQ (ρ:Type):Env ρ:=Ø [(236,Gj)] [Ep ρ]
def EO:ú:=⟨[tI,tI],[Ç,tI],fun(x:bx)=>sM x.1 x.2⟩
def Ws (ρ:Type):Env ρ:=Ø [(264,VA),(265,abr)] []
def ahF:ú:=⟨[Ç,Ç],[Ç,tI],fun(x:kw)=>W9 x.1 x.2⟩
def ail (ρ:Type):Env ρ:=Ø [(272,vE),(279,EO)] []
def Gm:ú:=⟨[Ç,Ç],[Ç],fun(x:kw)=>yD x.1 x.2⟩
def PW (ρ:Type):Env ρ:=Ø [(275,ahF)] []
def abt:ú:=⟨[Ç,Ç],[tI],fun(x:kw)=>QB x.1 x.2⟩
def aij (ρ:Type):Env ρ:=Ø [] []
def Dm:ú:=⟨[ġ],[.bool],fun(x:kw)=>vt x⟩
def Mb (ρ:Type):Env ρ:=Ø [(272,vE),(284,abt)] []
def ahG:ú:=⟨[Ç,Ç],[Ç,tI],fun(x:kw)=>QD x.1 x.2⟩
def ain (ρ:Type):Env ρ:=Ø [(272,vE),(279,EO)] []
def YD:ú:=⟨[ġ,Ç],[ġ,tI],fun(x:Val (.pair ġ Ç))=>QC x.1 x.2⟩
def K3:CK (Nat×ú):=[(236,Gj),(280,Dm),(283,ahG),(284,abt)]
def xZ (ρ:Type):CK (õ ρ):=[]
def KZ:CK amo:=[⟨[3,2],281,0,4⟩]
def ZO (ρ:Type):Env ρ:=Ø K3 (xZ ρ)
def Fx (ρ:Type):Env ρ:=mkEnvU K3 (xZ ρ) KZ
def Gl:ú:=⟨[Ç,Ç],[ġ],fun(x:kw)=>qP x.1 x.2⟩
def PV (ρ:Type):Env ρ:=Ø [(276,YD)] []
def TF:ú:=⟨[Ê,Ö],[ġ],fun(x:Val aZ)=>xb x.1 x.2⟩
def ZV (ρ:Type):Env ρ:=Ø [(106,Gp),(154,xB),(269,yS),(270,Gm),(271,Gl)] []
def YF:ú:=⟨[Ê,Ö],[Ç],fun(x:Val aZ)=>BB x.1 x.2⟩
def abR (ρ:Type):Env ρ:=Ø [] []
def NQ:ú:=⟨[tI,tI],[tI],fun(x:bx)=>wY x.1 x.2⟩
def abN (ρ:Type):Env ρ:=Ø [] []
def YE:ú:=⟨[Ç],[tI,tI],fun(x:bx)=>IQ x⟩
def abP (ρ:Type):Env ρ:=Ø [(272,vE),(273,NQ)] []
def adp:ú:=⟨[Ç],[tI,tI],fun(x:bx)=>MT x⟩
def afF (ρ:Type):Env ρ:=Ø [(272,vE),(273,NQ)] []
def adq:ú:=⟨[Ê,Ö],[Ç],fun(x:Val aZ)=>CA x.1 x.2⟩
def afG (ρ:Type):Env ρ:=Ø [(255,TF),(256,YF),(257,YE),(258,adp)] []
def VB:ú:=⟨[Ê],[aR],fun(x:b6)=>IR x⟩
def HQ:Æ:=Ls 2 [tI,ab,tI,ae,tI,tI,tI,tI,ae,aa,af,ac,aa,tI,tI,ae,aa,af,ac,aa,aa,tI,tI,tI,tI,tI,tI,tI,tI,tI] [tI,am,aa] ⟨144,.box 1 0::.any::.con tI::.box 2 0::.con ab::.con tI::.var tI::aN 24 [.con ae,.con tI,.con tI],[bt,bM,bu,.rowv ģ,.rowv Ç]⟩ [(.exit 2,⟨144,.box 1 0::.any::.con tI::.box 2 0::.con ab::.con tI::aN 25 [.con ae,.con tI,.con tI],[bt,bM,bu,.rowv ģ,.rowv Ç]⟩,[am,aa])]
def HP (ρ:Type):õ ρ:=⟨[2,1],181,2,HQ,fun(p:Val (tyL HQ.cs)) (v:wk) a b=>let A:=p.2.2.2.2.2.2.2.2.2.2.2.2.2;let B:=A.2.2.2.2;let C:=B.2.2.2.2.2;let D:=C.2.2.2.2;yc p.1 p.2.1 p.2.2.1 A.1 A.2.1 A.2.2.1 A.2.2.2.1 B.1 B.2.1 B.2.2.1 C.1 C.2.1 C.2.2.1 C.2.2.2.1 D.1 D.2.1 D.2.2.1 D.2.2.2 v.1 v.2.1 v.2.2 (fun c d e=>a (c,d,e)) (b 0)⟩
def HT:Æ:=Ls 2 [ae,tI,tI,tI,ae,aa,af,ac,aa,tI,tI,ae,aa,af,ac,aa,aa,tI] [tI,am,aa] ⟨144,.box 1 0::aN 30 [.con ae,.con tI,.var tI],cz⟩ [(.exit 0,⟨144,.box 1 0::aN 30 [.con ae,.con tI],cz⟩,[am,aa])]
def HS (ρ:Type):õ ρ:=⟨[2,1],181,0,HT,fun(p:Val (tyL HT.cs)) (v:wk) a b=>let A:=p.2.2.2.2.2.2.2.2.2;let B:=A.2.2.2.2;yd p.1 p.2.1 A.1 A.2.1 A.2.2.1 A.2.2.2.1 B.1 B.2.1 B.2.2.1 B.2.2.2.1 B.2.2.2.2 v.1 v.2.1 v.2.2 (fun c d e=>a (c,d,e)) (b 0)⟩
def HO:Æ:=Ls 2 [ac,tI,tI,tI,ae,aa,af,ac,aa,tI,tI,ae,aa,af,ac,aa,aa,tI] [tI,am,aa] ⟨144,.box 1 0::aN 107 [.con ac,.con tI,.var tI],cz⟩ [(.exit 4,⟨144,.box 1 0::aN 107 [.con ac,.con tI],cz⟩,[am,aa])]
def HN (ρ:Type):õ ρ:=⟨[2,1],181,4,HO,fun(p:Val (tyL HO.cs)) (v:wk) a b=>let A:=p.2.2.2.2.2.2.2.2.2;let B:=A.2.2.2.2;yb p.1 p.2.1 A.1 A.2.1 A.2.2.1 A.2.2.2.1 B.1 B.2.1 B.2.2.1 B.2.2.2.1 B.2.2.2.2 v.1 v.2.1 v.2.2 (fun c d e=>a (c,d,e)) (b 0)⟩
def Cf (ρ:Type):Env ρ:=Ø [(106,Gp),(156,Gn),(202,VC),(224,KK),(226,adr),(227,adq)] [HP ρ,HS ρ,HN ρ]
def vH:ú:=⟨[Ê],[Ó,aa,tI],fun(x:b6)=>jJ x⟩
def ZY (ρ:Type):Env ρ:=Ø [(96,rE),(136,VB)] []
def Vz:ú:=⟨[Ó,tI],[.bool],fun(x:Val (.pair Ó tI))=>Cz x.1 x.2⟩
def afC (ρ:Type):Env ρ:=Ø [] []
def vD:ú:=⟨[Ó],[tI,tI],fun(x:ge)=>pL x⟩
def Sx:Æ:=Ls 0 [am,tI,tI,am] [tI] ⟨57,.any::.box 0 0::aN 17 [.con am,.con tI,.var tI],[bO]⟩ [(.ret,⟨57,.any::.box 0 0::.var tI::.var tI::aN 15 [.con am,.con tI],[bO]⟩,[tI,tI]),(.exit 0,⟨57,.any::.box 0 0::aN 17 [.con am,.con tI],[bO]⟩,[])]
def En (ρ:Type):õ ρ:=⟨[],89,0,Sx,fun(p:Val (.pair am aP)) (v:Int) b a=>uG p.1 p.2.1 p.2.2.1 p.2.2.2 v (fun c=>b c) (a 0) (a 1)⟩
def PO (ρ:Type):Env ρ:=Ø [(148,Vz)] [En ρ]
def tp:ú:=⟨[Ó,au],[ab,.bool],fun(x:Val (.pair Ó au))=>mu x.1 x.2⟩
def wC:Æ:=Ls 2 [au,am,tI,tI,am,ab,tI,am,ax,ab] [tI,tI] ⟨140,.any::.con au::.own 1::.box 2 0::aN 3 (.box 3 0::.own 4::.own 5::.var tI::aN 14 [.con am,.con tI,.var tI]),[bO,.rowc tI,bO,.cells [.nils],.rowc .bool,.rowc tI]⟩ [(.exit 0,⟨140,.any::.con au::.own 1::.box 2 0::aN 3 (.box 3 0::.own 4::.own 5::.var tI::aN 14 [.con am,.con tI]),[bO,.rowc tI,bO,.cells [.nils],.rowc .bool,.rowc tI]⟩,[tI])]
def wB (ρ:Type):õ ρ:=⟨[2,3],149,0,wC,fun(p:Val (tyL wC.cs)) (v:bx) a b=>iP p.2.1 p.2.2.1 v.1 v.2 (fun c d=>a (c,d)) (b 0)⟩
def wA:Æ:=Ls 2 [au,tI,tI,tI,am,ab,tI,am,ab] [tI,ax,ab] ⟨140,.any::.con au::.own 1::.box 2 0::aN 3 (.box 3 0::.own 4::.own 5::.con tI::aN 27 [.con tI,.var tI]),cA⟩ [(.exit 2,⟨140,.any::.con au::.own 1::.box 2 0::aN 3 (.box 3 0::.own 4::.own 5::.con tI::aN 27 [.con tI]),cA⟩,[ax,ab])]
def wz (ρ:Type):õ ρ:=⟨[2,3],149,2,wA,fun(p:Val (tyL wA.cs)) (v:y8) a b=>ş p.2.2.1 p.2.2.2.2.2.1 v.1 v.2.1 v.2.2 (fun c d e=>a (c,d,e)) (b 0)⟩
def wx:Æ:=Ls 2 [au,tI,tI,am,tI,tI,am,tI,am,ab] [tI,ab,ax,ab] ⟨140,.any::.con au::.own 1::.box 2 0::aN 3 (.box 3 0::.own 4::.own 5::.con tI::aN 3 (.con tI::aN 62 [.con am,.con tI,.var tI])),cB⟩ [(.ret,⟨140,.any::.con au::.own 1::.box 2 0::aN 2 (.var .bool::.box 3 0::.own 4::.own 5::.con tI::aN 3 (.con tI::aN 62 [.con am,.con tI])),cB⟩,[.bool,ab,ax,ab]),(.exit 6,⟨140,.any::.con au::.own 1::.box 2 0::aN 3 (.box 3 0::.own 4::.own 5::.con tI::aN 3 (.con tI::aN 62 [.con am,.con tI])),cB⟩,[ab,ax,ab])]
def ww (ρ:Type):õ ρ:=⟨[2,3],149,6,wx,fun(p:Val (tyL wx.cs)) (v:ni) b a=>j9 p.1 p.2.1 p.2.2.1 p.2.2.2.1 p.2.2.2.2.1 v.1 v.2.1 v.2.2.1 v.2.2.2 (fun c d e f=>b (c,d,e,f)) (a 0) (a 1)⟩
def JN:Æ:=Ls 2 [au,tI,tI,am,tI,am] [ab,ax,ab,ab] ⟨140,[.any,.con au,.own 1,.box 2 0,.any,.any,.any,.box 3 0,.own 4,.own 5,.con tI],cD⟩ [(.ret,⟨140,[.any,.con au,.own 1,.box 2 0,.any,.any,.var .bool,.box 3 0,.own 4,.own 5,.con tI],cD⟩,[.bool,ab,ax,ab,ab])]
def wy (ρ:Type):õ ρ:=⟨[2,3],149,4,JN,fun(p:Val (.pair au bq)) (v:Val aU) a b=>ĭ p.1 p.2.1 p.2.2.2.2.1 p.2.2.2.2.2 v.1 v.2.1 v.2.2.1 v.2.2.2 (fun c d e f=>a (c,d,e,f)) (b 0)⟩
def JM:Æ:=Ls 0 [tI,tI] [tI,ab] ⟨34,aN 6 (.own 0::.con tI::aN 13 [.con tI,.var tI]),cf⟩ [(.exit 0,⟨34,aN 6 (.own 0::.con tI::aN 13 [.con tI]),cf⟩,[ab])]
def wu (ρ:Type):õ ρ:=⟨[],90,0,JM,fun(p:bx) (v:f4) a b=>j8 p.1 p.2 v.1 v.2 (fun c d=>a (c,d)) (b 0)⟩
def ι (ρ:Type):Env ρ:=Ø [] [wB ρ,wz ρ,ww ρ,wy ρ,wu ρ]
def Dk:ú:=⟨[Ó],[.bool,tI],fun(x:ge)=>oN x⟩
def L9 (ρ:Type):Env ρ:=Ø [(89,vD),(90,tp)] []
def tk:ú:=⟨[Â,ah],[.bool],fun(x:rn)=>Χ x.1 x.2⟩
def RD (ρ:Type):Env ρ:=Ø [(71,ku),(80,vH),(116,Dk)] []
def qm:ú:=⟨[Â],[ah,.bool],fun(x:a8)=>Ć x⟩
def GP:Æ:=Ls 1 [ak,tI,tI,tI,ae,aa,af,ac,aa,aj] [tI] ⟨21,.any::.fn 98 [(0,0)]::aN 7 [.con ak,.con tI,.var tI],[bB]⟩ [(.ret,⟨21,[.any,.fn 98 [(0,0)],.any,.any,.var ah,.var .bool,.any,.any,.any,.con ak,.con tI],[bB]⟩,[ah,.bool]),(.exit 0,⟨21,.any::.fn 98 [(0,0)]::aN 7 [.con ak,.con tI],[bB]⟩,[])]
def tP (ρ:Type):õ ρ:=⟨[1,3],59,0,GP,fun(p:Val (.pair ak aF)) (v:Int) b a=>let A:=p.2.2.2.2;lY p.1 p.2.1 p.2.2.1 p.2.2.2.1 A.1 A.2.1 A.2.2.1 A.2.2.2.1 A.2.2.2.2.1 A.2.2.2.2.2 v (fun c=>b c) (a 0) (a 1)⟩
def Ak (ρ:Type):Env ρ:=Ø [(55,B7),(57,tk)] [tP ρ]
def Ga:ú:=⟨[Â,tI,tI],[tI],fun(x:Val (.pair Â Ç))=>wO x.1 x.2.1 x.2.2⟩
def Dq:Æ:=Ls 2 [ae,tI,tI,tI,ae,aa,af,ac,aa,aj,tI] [tI] ⟨19,.con ae::.fn 101 [(1,0)]::aN 5 [.con tI,.var tI],[bB,bw]⟩ [(.ret,⟨19,[.con ae,.fn 101 [(1,0)],.any,.any,.var tI,.any,.any,.con tI],[bB,bw]⟩,[tI]),(.exit 0,⟨19,.con ae::.fn 101 [(1,0)]::aN 5 [.con tI],[bB,bw]⟩,[])]
def Dp (ρ:Type):õ ρ:=⟨[3,4,1,2],162,0,Dq,fun(p:Val (tyL Dq.cs)) (v:Int) b a=>tN p.1 p.2.1 p.2.2.2.2.2.2.2.2.2.2 v (fun c=>b c) (a 0) (a 1)⟩
def Oc (ρ:Type):Env ρ:=Ø [] [Dp ρ]
def TG:ú:=⟨[ab,ab],[ab,ab,tI],fun(x:lA)=>ro x.1 x.2⟩
def Z0 (ρ:Type):Env ρ:=Ø [(105,Js),(106,Gp)] []
def Gb:ú:=⟨[Â,tI],[.bool,tI],fun(x:Val (.pair Â tI))=>qN x.1 x.2⟩
def tU:Æ:=Ls 6 [tI,tI,tI,ae,aa,af,ac,aa,aj,tI,tI,tI,ae,aa,af,ac,aa,aj,tI,tI,ac] [tI] ⟨19,.own 5::.fn 104 [(3,0)]::aN 5 [.con tI,.var tI],cE⟩ [(.ret,⟨19,[.own 5,.fn 104 [(3,0)],.any,.any,.var tI,.any,.any,.con tI],cE⟩,[tI]),(.exit 0,⟨19,.own 5::.fn 104 [(3,0)]::aN 5 [.con tI],cE⟩,[])]
def tT (ρ:Type):õ ρ:=⟨[7,2,1,5,1,2],109,0,tU,fun(p:Val (tyL tU.cs)) (v:Int) b a=>lZ p.1 p.2.2.2.2.2.2.2.2.2.1 p.2.2.2.2.2.2.2.2.2.2.2.2.2.2.2.2.2.2.2.2 v (fun c=>b c) (a 0) (a 1)⟩
def tS:Æ:=Ls 6 [tI,tI,ae,aa,af,ac,aa,aj,tI,tI,tI,ae,aa,af,ac,aa,aj,tI,tI] [tI,tI,ac] ⟨42,[.own 5,.fn 104 [(3,0)],.any,.any,.any,.var tI,.var tI],[bB,bw,bB,bQ,bR,.rowv Ö]⟩ [(.exit 0,⟨42,[.own 5,.fn 104 [(3,0)],.any,.any,.any,.var tI],[bB,bw,bB,bQ,bR,.rowv Ö]⟩,[tI,ac])]
def tR (ρ:Type):õ ρ:=⟨[7,2,1,5],102,0,tS,fun(p:Val (tyL tS.cs)) (v:y9) a b=>Δ p.2.2.2.2.2.2.2.2.1 v.1 v.2.1 v.2.2 (fun c d e=>a (c,d,e)) (b 0)⟩
def mQ (ρ:Type):Env ρ:=Ø [(44,jS),(45,qm),(47,Ga),(50,TG),(51,Ŧ)] [tT ρ,tR ρ]
def Vt:ú:=⟨[Â,ab],[Â],fun(x:xl)=>Co x.1 x.2⟩
def GJ:Æ:=Ls 7 [tI,tI,tI,ae,aa,af,ac,aa,aj,ab,tI,tI,tI,tI,ae,aa,af,ac,aa,aj,tI,tI,ac] [tI] ⟨19,.own 6::.fn 104 [(4,0)]::aN 5 [.con tI,.var tI],cF⟩ [(.ret,⟨19,[.own 6,.fn 104 [(4,0)],.any,.any,.var tI,.any,.any,.con tI],cF⟩,[tI]),(.exit 0,⟨19,.own 6::.fn 104 [(4,0)]::aN 5 [.con tI],cF⟩,[])]
def GI (ρ:Type):õ ρ:=⟨[1,2,1,5,1,2],109,0,GJ,fun(p:Val (tyL GJ.cs)) (v:Int) b a=>xF p.1 p.2.2.2.2.2.2.2.2.2.1 p.2.2.2.2.2.2.2.2.2.2.2.2.2.2.2.2.2.2.2.2.2.2 v (fun c=>b c) (a 0) (a 1)⟩
def GH:Æ:=Ls 7 [tI,tI,ae,aa,af,ac,aa,aj,ab,tI,tI,tI,tI,ae,aa,af,ac,aa,aj,tI,tI] [tI,tI,ac] ⟨42,[.own 6,.fn 104 [(4,0)],.any,.any,.any,.var tI,.var tI],[bB,br,bR,bB,bS,bR,.rowv Ö]⟩ [(.exit 0,⟨42,[.own 6,.fn 104 [(4,0)],.any,.any,.any,.var tI],[bB,br,bR,bB,bS,bR,.rowv Ö]⟩,[tI,ac])]
def GG (ρ:Type):õ ρ:=⟨[1,2,1,5],102,0,GH,fun(p:Val (tyL GH.cs)) (v:y9) a b=>oa p.2.2.2.2.2.2.2.2.1 v.1 v.2.1 v.2.2 (fun c d e=>a (c,d,e)) (b 0)⟩
def B9 (ρ:Type):Env ρ:=Ø [(51,Ŧ)] [GI ρ,GG ρ]
def adg:ú:=⟨[Â],[ab,tI],fun(x:a8)=>MN x⟩
def V6:Æ:=Ls 0 [ac,tI,tI,tI,ae,aa,af,ac,aa,aj] [tI,ab] ⟨66,.any::.box 0 0::aN 5 (.own 1::aN 19 [.con ac,.con tI,.var tI]),[bB,.rowv tI]⟩ [(.exit 0,⟨66,.any::.box 0 0::aN 5 (.own 1::aN 19 [.con ac,.con tI]),[bB,.rowv tI]⟩,[ab])]
def G5 (ρ:Type):õ ρ:=⟨[],10,0,V6,fun(p:Val (.pair ac aF)) (v:f4) a b=>xI p.1 p.2.1 v.1 v.2 (fun c d=>a (c,d)) (b 0)⟩
def V5:Æ:=Ls 0 [tI,tI,ae,aa,af,ac,aa,aj] [ab,tI] ⟨66,.any::.box 0 0::aN 5 [.var ab,.any,.any,.var tI],[bB]⟩ [(.exit 2,⟨66,.any::.box 0 0::aN 5 [.var ab],[bB]⟩,[ab])]
def G4 (ρ:Type):õ ρ:=⟨[],10,2,V5,fun(p:th) (v:px) a b=>let A:=p.2.2.2.2;rL p.1 p.2.1 p.2.2.1 p.2.2.2.1 A.1 A.2.1 A.2.2.1 A.2.2.2 v.1 v.2 (fun c d=>a (c,d)) (b 0)⟩
def JC (ρ:Type):Env ρ:=Ø [(44,jS),(45,qm),(46,Vt),(52,jN)] [G5 ρ,G4 ρ]
def Tq:ú:=⟨[ab,tI],[ab],fun(x:px)=>jE x.1 x.2⟩
def Ox:Æ:=Ls 0 [tI,ab,tI] [tI,ab] ⟨26,[.any,.con tI,.any,.any,.any,.own 0,.any,.any,.con ab,.con tI,.var tI],cf⟩ [(.exit 0,⟨26,[.any,.con tI,.any,.any,.any,.own 0,.any,.any,.con ab,.con tI],cf⟩,[ab])]
def Ar (ρ:Type):õ ρ:=⟨[],58,0,Ox,fun(p:Val (.pair tI aE)) (v:f4) a b=>qv p.1 p.2.1 p.2.2 v.1 v.2 (fun c d=>a (c,d)) (b 0)⟩
def KQ (ρ:Type):Env ρ:=Ø [] [Ar ρ]
def KH:ú:=⟨[Â,ab],[ab,tI],fun(x:xl)=>uS x.1 x.2⟩
def we:Æ:=Ls 3 [ac,tI,tI,tI,ae,aa,af,ac,aa,aj,ab,tI] [tI] ⟨19,.con ac::.fn 54 [(2,0)]::aN 5 [.con tI,.var tI],[bB,br,bw]⟩ [(.ret,⟨19,[.con ac,.fn 54 [(2,0)],.any,.any,.var tI,.any,.any,.con tI],[bB,br,bw]⟩,[tI]),(.exit 0,⟨19,.con ac::.fn 54 [(2,0)]::aN 5 [.con tI],[bB,br,bw]⟩,[])]
def wd (ρ:Type):õ ρ:=⟨[9,4,1,2],109,0,we,fun(p:Val (tyL we.cs)) (v:Int) b a=>mR p.1 p.2.1 p.2.2.2.2.2.2.2.2.2.2.2 v (fun c=>b c) (a 0) (a 1)⟩
def wi:Æ:=Ls 0 [ab,tI,tI,tI,ae,aa,af,ac,aa,aj,ab] [tI] ⟨135,aN 2 (.box 0 0::.box 1 0::aN 28 [.con ab,.con tI,.var tI]),[bB,br]⟩ [(.ret,⟨135,aN 2 (.box 0 0::.box 1 0::.nils::.var tI::aN 26 [.con ab,.con tI]),[bB,br]⟩,[tI]),(.exit 0,⟨135,aN 2 (.box 0 0::.box 1 0::aN 28 [.con ab,.con tI]),[bB,br]⟩,[])]
def wg (ρ:Type):õ ρ:=⟨[],11,0,wi,fun(p:Val (tyL wi.cs)) (v:Int) b a=>iJ p.1 p.2.1 p.2.2.2.2.2.2.2.1 v (fun c=>b c) (a 0) (a 1)⟩
def JB:Æ:=Ls 0 [tI,tI,ae,aa,af,ac,aa,aj,ab] [tI] ⟨135,aN 2 (.box 0 0::.box 1 0::aN 5 [.var tI]),[bB,br]⟩ [(.ret,⟨135,[.any,.any,.box 0 0,.box 1 0,.nils,.var tI],[bB,br]⟩,[tI]),(.exit 2,⟨135,[.any,.any,.box 0 0,.box 1 0],[bB,br]⟩,[])]
def vZ (ρ:Type):õ ρ:=⟨[],11,2,JB,fun(p:Val aQ) (v:Int) b a=>jV p.2.2.2.2.2.2.2.2 v (fun c=>b c) (a 0) (a 1)⟩
def vY:Æ:=Ls 4 [ak,tI,tI,tI,ae,aa,af,ac,aa,aj,ab,tI] [tI] ⟨21,.any::.fn 60 [(3,0),(2,0)]::aN 7 [.con ak,.con tI,.var tI],[bB,br,bw,bT]⟩ [(.ret,⟨21,[.any,.fn 60 [(3,0),(2,0)],.any,.any,.var ah,.var .bool,.any,.any,.any,.con ak,.con tI],[bB,br,bw,bT]⟩,[ah,.bool]),(.exit 0,⟨21,.any::.fn 60 [(3,0),(2,0)]::aN 7 [.con ak,.con tI],[bB,br,bw,bT]⟩,[])]
def vX (ρ:Type):õ ρ:=⟨[21,2],59,0,vY,fun(p:Val (tyL vY.cs)) (v:Int) b a=>let A:=p.2.2.2.2;let B:=A.2.2.2.2;jU p.1 p.2.1 p.2.2.1 p.2.2.2.1 A.1 A.2.1 A.2.2.1 A.2.2.2.1 B.1 B.2.1 B.2.2.1 B.2.2.2 v (fun c=>b c) (a 0) (a 1)⟩
def vU:Æ:=Ls 4 [ab,ab,ab,tI,ab,ab,tI,tI,ae,aa,af,ac,aa,aj] [tI] ⟨36,.con ab::.con ab::aN 7 [.con ab,.con tI,.var tI],cG⟩ [(.ret,⟨36,.con ab::.con ab::aN 2 (.var tI::aN 4 [.con ab,.con tI]),cG⟩,[tI]),(.exit 0,⟨36,.con ab::.con ab::aN 7 [.con ab,.con tI],cG⟩,[])]
def vT (ρ:Type):õ ρ:=⟨[29,14],61,0,vU,fun(p:Val (tyL vU.cs)) (v:Int) b a=>ŷ p.2.1 p.2.2.1 p.2.2.2.1 v (fun c=>b c) (a 0) (a 1)⟩
def vS:Æ:=Ls 0 [ak,ab,tI,tI,ab,tI,tI,tI,ab,ab,tI,tI,ae,aa,af,ac,aa,aj] [tI] ⟨135,aN 3 (.box 0 0::aN 6 (.con ak::.any::.box 1 0::.own 2::aN 2 (.con ab::.con tI::.con tI::.con ab::aN 57 (.con tI::.con tI::aN 23 [.own 2,.con tI,.var tI])))),cG⟩ [(.exit 5,⟨135,aN 3 (.box 0 0::aN 6 (.con ak::.any::.box 1 0::.own 2::aN 2 (.con ab::.con tI::.con tI::.con ab::aN 57 (.con tI::.con tI::aN 23 [.own 2,.con tI])))),cG⟩,[]),(.exit 6,⟨135,aN 3 (.box 0 0::aN 6 (.con ak::.any::.box 1 0::.own 2::aN 2 (.con ab::.con tI::.con tI::.con ab::aN 57 (.con tI::.con tI::aN 23 [.own 2,.con tI])))),cG⟩,[])]
def vR (ρ:Type):õ ρ:=⟨[],11,6,vS,fun(p:Val (tyL vS.cs)) (v:Int) b a=>Ş p.2.2.2.1 p.2.2.2.2.2.2.2.1 p.2.2.2.2.2.2.2.2.2.1 v (fun c=>b c) (a 0) (a 1)⟩
def vQ:Æ:=Ls 0 [ak,ab,tI,tI,ab,tI,tI,ak,tI,ab,tI,tI,ae,aa,af,ac,aa,aj] [tI,ab] ⟨135,aN 3 (.box 0 0::aN 6 (.con ak::.any::.box 1 0::.own 2::aN 2 (.con ab::.con tI::.con tI::.con ab::aN 57 (.con tI::.con tI::aN 34 [.con ak,.con tI,.var tI])))),cH⟩ [(.exit 5,⟨135,aN 3 (.box 0 0::aN 6 (.con ak::.any::.box 1 0::.own 2::aN 2 (.con ab::.con tI::.con tI::.con ab::aN 57 (.con tI::.con tI::aN 34 [.con ak,.con tI])))),cH⟩,[ab]),(.exit 8,⟨135,aN 3 (.box 0 0::aN 6 (.con ak::.any::.box 1 0::.own 2::aN 2 (.con ab::.con tI::.con tI::.con ab::aN 57 (.con tI::.con tI::aN 34 [.con ak,.con tI])))),cH⟩,[ab])]
def vP (ρ:Type):õ ρ:=⟨[],11,8,vQ,fun(p:Val (tyL vQ.cs)) (v:f4) b a=>let A:=p.2.2.2.2.2.2.2;let B:=A.2.2.2.2;let C:=B.2.2.2.2;ŝ p.2.2.2.1 A.1 A.2.1 A.2.2.1 A.2.2.2.1 B.1 B.2.1 B.2.2.1 B.2.2.2.1 C.1 C.2.1 C.2.2 v.1 v.2 (fun c d=>b (c,d)) (a 0) (a 1)⟩
def vW:Æ:=Ls 0 [ak,tI,ab,tI,tI,ae,aa,af,ac,aa,aj] [ab,tI,tI,ab] ⟨135,aN 3 (.box 0 0::aN 6 (.con ak::.any::.box 1 0::.own 2::aN 2 (.var ab::.var tI::aN 59 [.con tI,.var tI]))),cH⟩ [(.exit 4,⟨135,aN 3 (.box 0 0::aN 6 (.con ak::.any::.box 1 0::.own 2::aN 3 (.var tI::aN 59 [.con tI]))),cH⟩,[tI,ab])]
def vV (ρ:Type):õ ρ:=⟨[],11,4,vW,fun(p:Val (tyL vW.cs)) (v:Val (.pair ab bg)) a b=>let A:=p.2.2.2.2;let B:=A.2.2.2.2;Ÿ p.1 p.2.1 p.2.2.1 p.2.2.2.1 A.1 A.2.1 A.2.2.1 A.2.2.2.1 B.1 B.2.1 B.2.2 v.1 v.2.1 v.2.2.1 v.2.2.2 (fun c d e f=>a (c,d,e,f)) (b 0)⟩
def ł (ρ:Type):Env ρ:=Ø [(44,jS),(46,Vt),(55,B7),(57,tk),(58,Tq),(114,nX)] [wd ρ,wg ρ,vZ ρ,vX ρ,vT ρ,vR ρ,vP ρ,vV ρ]
def qn:ú:=⟨[ab,ab],[.bool],fun(x:lA)=>Ω x.1 x.2⟩
def Ht:Æ:=Ls 0 [ab,ab] [tI] ⟨26,[.con ab,.con ab,.any,.any,.any,.var tI],[]⟩ [(.ret,⟨26,[.con ab,.con ab,.any,.any,.var .bool],[]⟩,[.bool]),(.exit 0,⟨26,[.con ab,.con ab],[]⟩,[])]
def uq (ρ:Type):õ ρ:=⟨[],17,0,Ht,fun(p:lA) (v:Int) b a=>l6 p.1 p.2 v (fun c=>b c) (a 0) (a 1)⟩
def AO (ρ:Type):Env ρ:=Ø [] [uq ρ]
def Vu:ú:=⟨[Â],[ak],fun(x:a8)=>IE x⟩
def mP:Tpl:=⟨13,[.any,.any,.box 3 0],[.cells [.con tI,.con tI,.con ae,.con aa,.con af,.con ac,.con aa,.con aj],.cells [.con tI,.con tI,.con ae,.con aa,.con af,.con ac,.con aa,.con aj],.dead,.cells [.own 4],.rowv ah]⟩
def qu (ρ:Type):Ja ρ:=⟨[1,1,1,3,1,1],167,0,4,[tI,tI,ae,aa,af,ac,aa,aj,tI,tI,ae,aa,af,ac,aa,aj],[ak],mP,su,fun(p:Val aD) (v:a7) y a=>Fc v y (fun b=>a b)⟩
def GO:Æ:=Ls 5 [tI,tI,tI,ae,aa,af,ac,aa,aj,tI,tI,ae,aa,af,ac,aa,aj,aj,ak] [tI] ⟨19,.own 4::.fn 127 [(0,0)]::aN 5 [.con tI,.var tI],[bB,bB,bV,bW,.rowc ah]⟩ [(.ret,⟨19,[.own 4,.fn 127 [(0,0)],.any,.any,.var tI,.any,.any,.con tI],[bB,bB,bV,bW,.rowc ah]⟩,[tI]),(.exit 0,⟨19,.own 4::.fn 127 [(0,0)]::aN 5 [.con tI],[bB,bB,bV,bW,.rowc ah]⟩,[])]
def GN (ρ:Type):õ ρ:=⟨[1,3,1,2],134,0,GO,fun(p:Val (tyL GO.cs)) (v:Int) b a=>let A:=p.2.2.2.2;xG p.1 p.2.1 p.2.2.1 p.2.2.2.1 A.1 A.2.1 A.2.2.1 A.2.2.2.1 A.2.2.2.2.1 A.2.2.2.2.2.2.2.2.2.2.2.2.2.2 v (fun c=>b c) (a 0) (a 1)⟩
def GM:Æ:=Ls 5 [tI,tI,ae,aa,af,ac,aa,aj,tI,tI,ae,aa,af,ac,aa,aj,aj] [tI,tI,ak] ⟨42,[.own 4,.fn 127 [(0,0)],.any,.any,.any,.var tI,.var tI],[bB,bB,bV,bW,.rowv ah]⟩ [(.exit 0,⟨42,[.own 4,.fn 127 [(0,0)],.any,.any,.any,.var tI],[bB,bB,bV,bW,.rowv ah]⟩,[tI,ak])]
def GK (ρ:Type):õ ρ:=⟨[1,3],126,0,GM,fun(p:Val (tyL GM.cs)) (v:x9) a b=>let A:=p.2.2.2.2;ob p.1 p.2.1 p.2.2.1 p.2.2.2.1 A.1 A.2.1 A.2.2.1 A.2.2.2.1 v.1 v.2.1 v.2.2 (fun c d e=>a (c,d,e)) (b 0)⟩
def Ou (ρ:Type):CK (Ja ρ):=[qu ρ]
def abC:CK (Nat×aeQ):=[(170,.row ĥ)]
def iI (ρ:Type):Env ρ:={adz [(57,tk)] [GN ρ,GK ρ] abC with ranges:=Ν (Ou ρ)}
def YH:ú:=⟨[Ê,Ç],[tI,tI],fun(x:Val ba)=>sO x.1 x.2⟩
def abS (ρ:Type):Env ρ:=Ø [(96,rE),(156,Gn),(174,ų)] []
def ads:ú:=⟨[Ê,Ç],[Ê,tI],fun(x:Val ba)=>MU x.1 x.2⟩
def Ie:Æ:=Ls 6 [tI,tI,tI,ae,aa,af,ac,aa,tI,tI,tI,tI,tI,tI,ae,aa,af,ac,aa,tI,tI,tI,tI,ac,tI,tI,ae,aa,af,aa] [tI,ac] ⟨50,.any::.box 6 0::.box 7 0::.own 8::aN 21 [.own 8,.con tI,.var tI],cI⟩ [(.exit 0,⟨50,.any::.box 6 0::.box 7 0::.own 8::aN 21 [.own 8,.con tI],cI⟩,[ac])]
def Ic (ρ:Type):õ ρ:=⟨[1,2,4,1],211,0,Ie,fun(p:Val (tyL Ie.cs)) (v:Val bc) a b=>ym p.1 v.1 v.2 (fun c d=>a (c,d)) (b 0)⟩
def Ut (ρ:Type):Env ρ:=Ø [(96,rE)] [Ic ρ]
def YB:ú:=⟨[Ó,ab],[tI],fun(x:rm)=>IP x.1 x.2⟩
def Sq:Æ:=Ls 0 [ab,tI,tI,am] [tI] ⟨37,aN 2 (.box 0 0::aN 16 [.con ab,.con tI,.var tI]),[bO]⟩ [(.ret,⟨37,aN 2 (.box 0 0::.any::.var tI::aN 14 [.con ab,.con tI]),[bO]⟩,[tI]),(.exit 0,⟨37,aN 2 (.box 0 0::aN 16 [.con ab,.con tI]),[bO]⟩,[])]
def Ea (ρ:Type):õ ρ:=⟨[],177,0,Sq,fun(p:An) (v:Int) b a=>uC p.1 p.2.1 p.2.2.1 p.2.2.2 v (fun c=>b c) (a 0) (a 1)⟩
def PE (ρ:Type):Env ρ:=Ø [(89,vD),(90,tp),(148,Vz)] [Ea ρ]
def TE:ú:=⟨[Ó,au,tI],[ab],fun(x:Val (.pair Ó (.pair au tI)))=>wW x.1 x.2.1 x.2.2⟩
def Bh:Æ:=Ls 0 [au,tI,tI,tI,am] [tI,ab] ⟨29,.any::.con au::.con tI::.box 0 0::aN 3 (.own 1::aN 5 [.con tI,.var tI]),cJ⟩ [(.exit 0,⟨29,.any::.con au::.con tI::.box 0 0::aN 3 (.own 1::aN 5 [.con tI]),cJ⟩,[ab])]
def Bg (ρ:Type):õ ρ:=⟨[],212,0,Bh,fun(p:Val (tyL Bh.cs)) (v:f4) a b=>qJ p.2.2.1 v.1 v.2 (fun c d=>a (c,d)) (b 0)⟩
def Bf:Æ:=Ls 2 [au,am,tI,tI,am,ab,tI,am,ax,ab] [tI,tI] ⟨140,.any::.con au::.own 1::.box 2 0::aN 3 (.box 3 0::.own 4::.own 5::.var tI::aN 14 [.con am,.con tI,.var tI]),[bO,.rowc tI,bO,.cells [.nils],.rowc .bool,.rowc tI]⟩ [(.exit 0,⟨140,.any::.con au::.own 1::.box 2 0::aN 3 (.box 3 0::.own 4::.own 5::.var tI::aN 14 [.con am,.con tI]),[bO,.rowc tI,bO,.cells [.nils],.rowc .bool,.rowc tI]⟩,[tI])]
def Be (ρ:Type):õ ρ:=⟨[8,3],149,0,Bf,fun(p:Val (tyL Bf.cs)) (v:bx) a b=>xX p.2.1 p.2.2.1 v.1 v.2 (fun c d=>a (c,d)) (b 0)⟩
def Bc:Æ:=Ls 2 [au,tI,tI,tI,am,ab,tI,am,ab] [tI,ax,ab] ⟨140,.any::.con au::.own 1::.box 2 0::aN 3 (.box 3 0::.own 4::.own 5::.con tI::aN 27 [.con tI,.var tI]),cA⟩ [(.exit 2,⟨140,.any::.con au::.own 1::.box 2 0::aN 3 (.box 3 0::.own 4::.own 5::.con tI::aN 27 [.con tI]),cA⟩,[ax,ab])]
def Bb (ρ:Type):õ ρ:=⟨[8,3],149,2,Bc,fun(p:Val (tyL Bc.cs)) (v:y8) a b=>xW p.2.2.1 p.2.2.2.2.2.1 v.1 v.2.1 v.2.2 (fun c d e=>a (c,d,e)) (b 0)⟩
def A9:Æ:=Ls 2 [au,tI,tI,am,tI,tI,am,tI,am,ab] [tI,ab,ax,ab] ⟨140,.any::.con au::.own 1::.box 2 0::aN 3 (.box 3 0::.own 4::.own 5::.con tI::aN 3 (.con tI::aN 62 [.con am,.con tI,.var tI])),cB⟩ [(.ret,⟨140,.any::.con au::.own 1::.box 2 0::aN 2 (.var .bool::.box 3 0::.own 4::.own 5::.con tI::aN 3 (.con tI::aN 62 [.con am,.con tI])),cB⟩,[.bool,ab,ax,ab]),(.exit 6,⟨140,.any::.con au::.own 1::.box 2 0::aN 3 (.box 3 0::.own 4::.own 5::.con tI::aN 3 (.con tI::aN 62 [.con am,.con tI])),cB⟩,[ab,ax,ab])]
def A8 (ρ:Type):õ ρ:=⟨[8,3],149,6,A9,fun(p:Val (tyL A9.cs)) (v:ni) b a=>HF p.1 p.2.1 p.2.2.1 p.2.2.2.1 p.2.2.2.2.1 v.1 v.2.1 v.2.2.1 v.2.2.2 (fun c d e f=>b (c,d,e,f)) (a 0) (a 1)⟩
def PC:Æ:=Ls 2 [au,tI,tI,am,tI,am] [ab,ax,ab,ab] ⟨140,[.any,.con au,.own 1,.box 2 0,.any,.any,.any,.box 3 0,.own 4,.own 5,.con tI],cD⟩ [(.ret,⟨140,[.any,.con au,.own 1,.box 2 0,.any,.any,.var .bool,.box 3 0,.own 4,.own 5,.con tI],cD⟩,[.bool,ab,ax,ab,ab])]
def Ba (ρ:Type):õ ρ:=⟨[8,3],149,4,PC,fun(p:Val (.pair au bq)) (v:Val aU) a b=>xV p.1 p.2.1 p.2.2.2.2.1 p.2.2.2.2.2 v.1 v.2.1 v.2.2.1 v.2.2.2 (fun c d e f=>a (c,d,e,f)) (b 0)⟩
def ka (ρ:Type):Env ρ:=Ø [] [Bg ρ,Be ρ,Bb ρ,A8 ρ,Ba ρ]
def YC:ú:=⟨[Ó],[aa,tI],fun(x:ge)=>wX x⟩
def Ss:Æ:=Ls 1 [ab,tI,tI,am,tI,am] [tI,ab] ⟨28,.any::.box 1 0::aN 2 (.con ab::.own 2::aN 7 [.con tI,.var tI]),[bO,bO,.rowv tI]⟩ [(.exit 0,⟨28,.any::.box 1 0::aN 2 (.con ab::.own 2::aN 7 [.con tI]),[bO,bO,.rowv tI]⟩,[ab])]
def Ec (ρ:Type):õ ρ:=⟨[4,1],178,0,Ss,fun(p:Val (.pair ab bq)) (v:f4) a b=>uE p.2.1 p.2.2.2.2.1 p.2.2.2.2.2 v.1 v.2 (fun c d=>a (c,d)) (b 0)⟩
def Sr:Æ:=Ls 0 [ab,tI,ab] [tI,aa] ⟨39,aN 5 (.con ab::.own 0::.own 1::aN 12 [.con tI,.var tI]),[.rowc tI,.rowv Ç]⟩ [(.exit 0,⟨39,aN 5 (.con ab::.own 0::.own 1::aN 12 [.con tI]),[.rowc tI,.rowv Ç]⟩,[aa])]
def Eb (ρ:Type):õ ρ:=⟨[],130,0,Sr,fun(p:Val bi) (v:nj) a b=>uD p.1 p.2.1 p.2.2 v.1 v.2 (fun c d=>a (c,d)) (b 0)⟩
def Fw (ρ:Type):Env ρ:=Ø [(177,YB),(212,TE)] [Ec ρ,Eb ρ]
def Tp:ú:=⟨[Ê,Ç],[Ç,tI],fun(x:Val ba)=>Cp x.1 x.2⟩
def Y7 (ρ:Type):Env ρ:=Ø [(80,vH),(128,YH),(129,ads),(130,YC)] []
def Tr:ú:=⟨[Â,tI,tI],[am,tI],fun(x:Val (.pair Â Ç))=>Cq x.1 x.2.1 x.2.2⟩
def Ay:Æ:=Ls 0 [tI,tI,ak,tI,tI,tI,ae,aa,af,ac,aa,aj] [tI,aY] ⟨113,.any::.con tI::.con tI::.box 0 0::aN 7 (.omp 1::aN 30 [.con ak,.con tI,.var tI]),[bB,.mapv tI Ç]⟩ [(.ret,⟨113,.any::.con tI::.con tI::.box 0 0::aN 2 (.nils::.var tI::aN 3 (.omp 1::aN 30 [.con ak,.con tI])),[bB,.mapv tI Ç]⟩,[tI,aY]),(.exit 0,⟨113,.any::.con tI::.con tI::.box 0 0::aN 7 (.omp 1::aN 30 [.con ak,.con tI]),[bB,.mapv tI Ç]⟩,[aY])]
def Ax (ρ:Type):õ ρ:=⟨[],22,0,Ay,fun(p:Val (tyL Ay.cs)) (v:Val (.pair tI aY)) b a=>let A:=p.2.2.2.2;let B:=A.2.2.2.2;qx p.1 p.2.1 p.2.2.1 p.2.2.2.1 A.1 A.2.1 A.2.2.1 A.2.2.2.1 B.1 B.2.1 B.2.2.1 B.2.2.2 v.1 v.2 (fun c d=>b (c,d)) (a 0) (a 1)⟩
def Aw:Æ:=Ls 0 [ae,tI,aY] [tI,am] ⟨113,aN 11 (.omp 0::aN 7 (.own 1::aN 70 [.con ae,.con tI,.var tI])),[.mapc tI Ç,.rowv ģ]⟩ [(.exit 2,⟨113,aN 11 (.omp 0::aN 7 (.own 1::aN 70 [.con ae,.con tI])),[.mapc tI Ç,.rowv ģ]⟩,[am])]
def Au (ρ:Type):õ ρ:=⟨[],22,2,Aw,fun(p:Val (tyL Aw.cs)) (v:ge) a b=>qw p.1 p.2.1 p.2.2 v.1 v.2 (fun c d=>a (c,d)) (b 0)⟩
def Az (ρ:Type):Env ρ:=Ø [(44,jS),(47,Ga),(68,Vu),(69,NB),(70,Tp),(71,ku)] [Ax ρ,Au ρ]
def YA:ú:=⟨[Ó,tI,tI],[ah],fun(x:Val (.pair Ó Ç))=>IM x.1 x.2.1 x.2.2⟩
def Um:Æ:=Ls 0 [tI,tI,tI,tI,am] [tI,ab] ⟨45,.any::.con tI::.con tI::.box 0 0::aN 3 (.own 1::aN 7 [.con tI,.var tI]),cJ⟩ [(.exit 0,⟨45,.any::.con tI::.con tI::.box 0 0::aN 3 (.own 1::aN 7 [.con tI]),cJ⟩,[ab])]
def Ul (ρ:Type):õ ρ:=⟨[],91,0,Um,fun(p:Val (tyL Um.cs)) (v:f4) a b=>Cd p.2.2.1 v.1 v.2 (fun c d=>a (c,d)) (b 0)⟩
def Uj:Æ:=Ls 4 [ab,tI,ah,tI,am] [tI,ab] ⟨53,.con ab::.box 1 0::aN 2 (.own 4::aN 7 [.con tI,.var tI]),cM⟩ [(.exit 0,⟨53,.con ab::.box 1 0::aN 2 (.own 4::aN 7 [.con tI]),cM⟩,[ab])]
def Ui (ρ:Type):õ ρ:=⟨[12,8],150,0,Uj,fun(p:Val (tyL Uj.cs)) (v:f4) a b=>Wq p.2.1 v.1 v.2 (fun c d=>a (c,d)) (b 0)⟩
def Uh:Æ:=Ls 4 [ab,am,tI,ah,tI,am] [tI,ab] ⟨53,.con ab::aN 3 (.own 4::aN 16 [.con am,.con tI,.var tI]),cM⟩ [(.exit 2,⟨53,.con ab::aN 3 (.own 4::aN 16 [.con am,.con tI]),cM⟩,[ab])]
def Ug (ρ:Type):õ ρ:=⟨[12,8],150,2,Uh,fun(p:Val (tyL Uh.cs)) (v:f4) a b=>HE p.1 p.2.1 p.2.2.1 v.1 v.2 (fun c d=>a (c,d)) (b 0)⟩
def afD:Æ:=Ls 0 [tI,tI,am] [tI,ah] ⟨45,aN 9 (.own 0::.fn 150 [(1,0)]::aN 18 [.con tI,.var tI]),[.rowv ab,bO]⟩ [(.exit 2,⟨45,aN 9 (.own 0::.fn 150 [(1,0)]::aN 18 [.con tI]),[.rowv ab,bO]⟩,[ah])]
def Uk (ρ:Type):õ ρ:=⟨[],91,2,afD,fun(p:Val aP) (v:pi) a b=>MD p.1 p.2.1 p.2.2 v.1 v.2 (fun c d=>a (c,d)) (b 0)⟩
def PB (ρ:Type):Env ρ:=Ø [] [Ul ρ,Ui ρ,Ug ρ,Uk ρ]
def NP:ú:=⟨[Ó],[ab,tI],fun(x:ge)=>nk x⟩
def Sw:Æ:=Ls 0 [tI,tI,am] [tI,ak] ⟨93,.any::.box 0 0::aN 6 (.own 1::aN 24 [.con tI,.var tI]),[bO,.rowv ah]⟩ [(.exit 0,⟨93,.any::.box 0 0::aN 6 (.own 1::aN 24 [.con tI]),[bO,.rowv ah]⟩,[ak])]
def Em (ρ:Type):õ ρ:=⟨[],35,0,Sw,fun(p:Val aP) (v:im) a b=>pz p.1 p.2.1 p.2.2 v.1 v.2 (fun c d=>a (c,d)) (b 0)⟩
def Ef:Æ:=Ls 3 [tI,ah,am,tI,tI,am,ak,tI,tI,tI,tI,am] [tI,tI,tI,ab] ⟨73,.any::.var tI::.con tI::.con ah::.fn 92 []::.box 3 0::aN 5 (.own 4::.var tI::aN 7 [.con am,.con tI,.var tI]),cN⟩ [(.exit 2,⟨73,.any::.var tI::.con tI::.con ah::.fn 92 []::.box 3 0::aN 5 (.own 4::.var tI::aN 7 [.con am,.con tI]),cN⟩,[tI,tI,ab])]
def Ee (ρ:Type):õ ρ:=⟨[22,10],93,2,Ef,fun(p:Val (tyL Ef.cs)) (v:At) a b=>KX p.1 p.2.1 p.2.2.1 p.2.2.2.1 v.1 v.2.1 v.2.2.1 v.2.2.2 (fun c d e f=>a (c,d,e,f)) (b 0)⟩
def Eh:Æ:=Ls 3 [ah,tI,am,ak,tI,tI,tI,tI,am] [tI,tI,tI,ab] ⟨73,.any::.var tI::.var tI::.con ah::.fn 92 []::.box 3 0::aN 5 [.own 4,.var tI],cN⟩ [(.exit 0,⟨73,aN 3 (.con ah::.fn 92 []::.box 3 0::aN 5 [.own 4]),cN⟩,[ab])]
def Eg (ρ:Type):õ ρ:=⟨[22,10],93,0,Eh,fun(p:Val (tyL Eh.cs)) (v:At) a b=>Bi p.1 p.2.2.2.2.2.2.2.2 v.1 v.2.1 v.2.2.1 v.2.2.2 (fun c d e f=>a (c,d,e,f)) (b 0)⟩
def Ej:Æ:=Ls 0 [tI,am,tI,tI,am,ak] [tI] ⟨93,.any::.box 0 0::aN 6 (.own 1::.any::.fn 92 []::.con tI::aN 37 [.con am,.con tI,.var tI]),[bO,.rowc ah]⟩ [(.exit 2,⟨93,.any::.box 0 0::aN 6 (.own 1::.any::.fn 92 []::.con tI::aN 37 [.con am,.con tI]),[bO,.rowc ah]⟩,[]),(.ret,⟨93,.any::.box 0 0::.own 2::.var tI::aN 4 (.own 1::.any::.fn 92 []::.con tI::aN 37 [.con am,.con tI]),[bO,.rowc ah,.rowv tI]⟩,[tI,ab]),(.exit 4,⟨93,.any::.box 0 0::aN 6 (.own 1::.any::.fn 92 []::.con tI::aN 37 [.con am,.con tI]),[bO,.rowc ah]⟩,[])]
def Ei (ρ:Type):õ ρ:=⟨[],35,4,Ej,fun(p:Val (tyL Ej.cs)) (v:Int) b a=>pw p.1 p.2.1 p.2.2.1 p.2.2.2.1 p.2.2.2.2.1 p.2.2.2.2.2 v (fun c=>b c) (a 0) (a 1) (a 2)⟩
def El:Æ:=Ls 0 [tI,am,ak] [tI] ⟨93,.any::.box 0 0::aN 6 [.own 1,.any,.fn 92 [],.var tI],[bO,.rowc ah]⟩ [(.exit 2,⟨93,.any::.box 0 0::aN 6 [.own 1,.any,.fn 92 []],[bO,.rowc ah]⟩,[]),(.ret,⟨93,.any::.box 0 0::.own 2::.var tI::aN 4 [.own 1,.any,.fn 92 []],[bO,.rowc ah,.rowv tI]⟩,[tI,ab])]
def Ek (ρ:Type):õ ρ:=⟨[],35,2,El,fun(p:Val (tyL El.cs)) (v:Int) b a=>uF p.1 p.2.1 p.2.2 v (fun c=>b c) (a 0) (a 1)⟩
def oi (ρ:Type):Env ρ:=Ø [(89,vD),(90,tp),(91,YA)] [Em ρ,Ee ρ,Eg ρ,Ei ρ,Ek ρ]
def ND:ú:=⟨[Â],[ah,tI],fun(x:a8)=>Bw x⟩
def RE:Æ:=Ls 0 [ak,tI,tI,tI,ae,aa,af,ac,aa,aj] [tI,ah] ⟨46,.any::.box 0 0::aN 3 (.own 1::aN 13 [.con ak,.con tI,.var tI]),[bB,.rowv ab]⟩ [(.ret,⟨46,.any::.box 0 0::.nils::.var tI::.any::.own 1::aN 13 [.con ak,.con tI],[bB,.rowv ab]⟩,[tI,ah]),(.exit 0,⟨46,.any::.box 0 0::aN 3 (.own 1::aN 13 [.con ak,.con tI]),[bB,.rowv ab]⟩,[ah])]
def Dz (ρ:Type):õ ρ:=⟨[],28,0,RE,fun(p:Val (.pair ak aF)) (v:pi) b a=>let A:=p.2.2.2.2;tV p.1 p.2.1 p.2.2.1 p.2.2.2.1 A.1 A.2.1 A.2.2.1 A.2.2.2.1 A.2.2.2.2.1 A.2.2.2.2.2 v.1 v.2 (fun c d=>b (c,d)) (a 0) (a 1)⟩
def Oz (ρ:Type):Env ρ:=Ø [(35,NP),(44,jS),(55,B7),(71,ku),(80,vH)] [Dz ρ]
def NN:ú:=⟨[Ó,ab],[tI],fun(x:rm)=>yC x.1 x.2⟩
def L3:Æ:=Ls 1 [ab,tI,tI,am] [tI] ⟨19,.con ab::.fn 182 [(0,0)]::aN 5 [.con tI,.var tI],[bO]⟩ [(.ret,⟨19,[.con ab,.fn 182 [(0,0)],.any,.any,.var tI,.any,.any,.con tI],[bO]⟩,[tI]),(.exit 0,⟨19,.con ab::.fn 182 [(0,0)]::aN 5 [.con tI],[bO]⟩,[])]
def za (ρ:Type):õ ρ:=⟨[3,2,1,2],205,0,L3,fun(p:An) (v:Int) b a=>oK p.1 p.2.1 p.2.2.2 v (fun c=>b c) (a 0) (a 1)⟩
def HD (ρ:Type):Env ρ:=Ø [] [za ρ]
def adn:ú:=⟨[Ó,tI,ab],[tI,tI,.bool],fun(x:Val (.pair Ó Ģ))=>MR x.1 x.2.1 x.2.2⟩
def Wp:Æ:=Ls 0 [ab,tI,tI,am] [tI,tI,tI] ⟨37,.any::.var tI::.any::.box 0 0::aN 5 [.var tI,.any,.any,.any,.con ab,.con tI,.var tI],[bO]⟩ [(.ret,⟨37,aN 3 (.box 0 0::aN 2 (.var tI::.var tI::.var .bool::aN 4 [.con ab,.con tI])),[bO]⟩,[tI,tI,.bool]),(.exit 0,⟨37,.any::.var tI::.any::.box 0 0::aN 5 [.var tI,.any,.any,.any,.con ab,.con tI],[bO]⟩,[tI,tI])]
def Hx (ρ:Type):õ ρ:=⟨[],138,0,Wp,fun(p:An) (v:qs) b a=>xU p.1 p.2.1 p.2.2.2 v.1 v.2.1 v.2.2 (fun c d e=>b (c,d,e)) (a 0) (a 1)⟩
def Uf (ρ:Type):Env ρ:=Ø [] [Hx ρ]
def Dl:ú:=⟨[Ó,ab],[tI],fun(x:rm)=>oO x.1 x.2⟩
def Ma (ρ:Type):Env ρ:=Ø [(89,vD),(137,NN),(138,adn)] []
def vd:ú:=⟨[Â,ah],[tI],fun(x:rn)=>jF x.1 x.2⟩
def rN:Æ:=Ls 0 [ah,ak,tI,tI,tI,ae,aa,af,ac,aa,aj] [tI] ⟨47,.any::.con ah::.box 0 0::aN 21 [.con ak,.con tI,.var tI],[bB]⟩ [(.ret,⟨47,.any::.con ah::.box 0 0::.any::.var tI::aN 19 [.con ak,.con tI],[bB]⟩,[tI]),(.exit 0,⟨47,.any::.con ah::.box 0 0::aN 21 [.con ak,.con tI],[bB]⟩,[])]
def rM (ρ:Type):õ ρ:=⟨[],29,0,rN,fun(p:Val (tyL rN.cs)) (v:Int) b a=>let A:=p.2.2.2.2;let B:=A.2.2.2.2;kE p.1 p.2.1 p.2.2.1 p.2.2.2.1 A.1 A.2.1 A.2.2.1 A.2.2.2.1 B.1 B.2.1 B.2.2 v (fun c=>b c) (a 0) (a 1)⟩
def yV (ρ:Type):Env ρ:=Ø [(44,jS),(55,B7),(71,ku),(80,vH),(81,Dl)] [rM ρ]
def adf:ú:=⟨[Â],[ak,tI],fun(x:a8)=>MM x⟩
def afu (ρ:Type):Env ρ:=Ø [(44,jS),(55,B7)] []
def KE:ú:=⟨[ac],[Â],fun(x:c7)=>Ű x⟩
def Rm (ρ:Type):Env ρ:=Ø [] []
def ahD:ú:=⟨[Â],[ak,tI],fun(x:a8)=>W6 x⟩
def aib (ρ:Type):Env ρ:=Ø [(44,jS),(68,Vu)] []
def Yo:ú:=⟨[Â],[ah,tI],fun(x:a8)=>IF x⟩
def abE (ρ:Type):Env ρ:=Ø [(44,jS),(45,qm)] []
def Ym:ú:=⟨[Â,ah],[.bool],fun(x:rn)=>IB x.1 x.2⟩
def lK:Tpl:=⟨13,[.any,.any,.box 2 0],[.cells [.con tI,.con tI,.con ae,.con aa,.con af,.con ac,.con aa,.con aj],.dead,.cells [.own 3],.rowv tI]⟩
def oE (ρ:Type):Ja ρ:=⟨[7,8,1,1,1,1],259,0,3,[tI,tI,ae,aa,af,ac,aa,aj],[ab],lK,Ii,fun(p:th) (v:an) y a=>Aj v y (fun b=>a b)⟩
def Rt:Æ:=Ls 0 [ah,tI,tI,tI,ae,aa,af,ac,aa,aj] [tI] ⟨42,aN 2 (.box 0 0::aN 11 [.con ah,.con tI,.var tI]),[bB]⟩ [(.ret,⟨42,aN 2 (.box 0 0::.any::.var .bool::aN 9 [.con ah,.con tI]),[bB]⟩,[.bool]),(.exit 0,⟨42,aN 2 (.box 0 0::aN 11 [.con ah,.con tI]),[bB]⟩,[])]
def Dr (ρ:Type):õ ρ:=⟨[],139,0,Rt,fun(p:l7) (v:Int) b a=>tO p.1 p.2.1 p.2.2.2.2.2.2.2.2.2 v (fun c=>b c) (a 0) (a 1)⟩
def KO (ρ:Type):CK (Ja ρ):=[oE ρ]
def η (ρ:Type):Env ρ:={Ø [(183,Yl)] [Dr ρ] with ranges:=Ν (KO ρ)}
def NC:ú:=⟨[Â,ah],[tI],fun(x:rn)=>Bv x.1 x.2⟩
def abD (ρ:Type):Env ρ:=Ø [(44,jS),(139,Ym)] []
def ahC:ú:=⟨[Â,ah,tI,tI],[tI,tI],fun(x:rx)=>W5 x.1 x.2.1 x.2.2.1 x.2.2.2⟩
def ah9 (ρ:Type):Env ρ:=Ø [(47,Ga),(69,NB),(82,NC)] []
def KJ:ú:=⟨[ah,ah],[.bool],fun(x:Val (.pair ah ah))=>uU x.1 x.2⟩
def JH:Æ:=Ls 0 [ah,ah] [tI] ⟨29,[.con ah,.con ah,.any,.any,.any,.var tI],[]⟩ [(.ret,⟨29,[.con ah,.con ah,.any,.any,.var .bool],[]⟩,[.bool]),(.exit 0,⟨29,[.con ah,.con ah],[]⟩,[])]
def wt (ρ:Type):õ ρ:=⟨[],43,0,JH,fun(p:Val (.pair ah ah)) (v:Int) b a=>mY p.1 p.2 v (fun c=>b c) (a 0) (a 1)⟩
def DQ (ρ:Type):Env ρ:=Ø [(17,qn)] [wt ρ]
def NA:ú:=⟨[],[.bool],fun(_:Unit)=>ξ⟩
def Gz (ρ:Type):Env ρ:=Ø [(9,Gb),(10,adg),(11,KH),(17,qn),(22,Tr),(28,ND),(29,vd),(38,adf),(39,KE),(40,ahD),(41,Yo),(42,ahC),(43,KJ)] []
def xA:ú:=⟨[tI,tI,tI],[.bool],fun(x:qs)=>jM x.1 x.2.1 x.2.2⟩
def aie (ρ:Type):Env ρ:=Ø [] []
def Gi:ú:=⟨[tI],[.bool],fun(x:Int)=>yA x⟩
def afw (ρ:Type):Env ρ:=Ø [(76,xA)] []
def adi:ú:=⟨[ab,tI],[.bool],fun(x:px)=>MP x.1 x.2⟩
def Wj:Æ:=Ls 0 [ab,tI] [tI] ⟨18,[.con ab,.con tI,.any,.any,.any,.var tI],[]⟩ [(.ret,⟨18,[.con ab,.con tI,.any,.any,.var .bool],[]⟩,[.bool]),(.exit 0,⟨18,[.con ab,.con tI],[]⟩,[])]
def Hv (ρ:Type):õ ρ:=⟨[],125,0,Wj,fun(p:px) (v:Int) b a=>xS p.1 p.2 v (fun c=>b c) (a 0) (a 1)⟩
def T9 (ρ:Type):Env ρ:=Ø [] [Hv ρ]
def NL:ú:=⟨[ab,ab],[ab],fun(x:lA)=>lO x.1 x.2⟩
def Sf:Æ:=Ls 0 [ab,ab] [tI,ab] ⟨28,[.con ab,.con ab,.any,.any,.any,.own 0,.var tI],cf⟩ [(.exit 0,⟨28,[.con ab,.con ab,.any,.any,.any,.own 0],cf⟩,[ab])]
def D5 (ρ:Type):õ ρ:=⟨[],66,0,Sf,fun(p:lA) (v:f4) a b=>uw p.1 p.2 v.1 v.2 (fun c d=>a (c,d)) (b 0)⟩
def Pn (ρ:Type):Env ρ:=Ø [(125,adi)] [D5 ρ]
def Ge:ú:=⟨[ab,ab],[tI],fun(x:lA)=>ng x.1 x.2⟩
def afv (ρ:Type):Env ρ:=Ø [(66,NL)] []
def Ys:ú:=⟨[Ê,Ú,tI],[.bool],fun(x:Val (.pair Ê (.pair Ú tI)))=>IH x.1 x.2.1 x.2.2⟩
def RY:Æ:=Ls 0 [tI,tI,tI,ae,aa,af,ac,aa,tI,tI,tI,tI,tI,tI,tI,tI] [tI] ⟨76,[.any,.any,.con tI,.box 0 0,.box 1 0,.any,.any,.var tI],[bt,bu]⟩ [(.ret,⟨76,[.any,.any,.con tI,.box 0 0,.box 1 0,.any,.var .bool],[bt,bu]⟩,[.bool]),(.exit 0,⟨76,[.any,.any,.con tI,.box 0 0,.box 1 0],[bt,bu]⟩,[])]
def DT (ρ:Type):õ ρ:=⟨[],143,0,RY,fun(p:Val aq) (v:Int) b a=>uk p.1 p.2.2.2.2.2.2.1 p.2.2.2.2.2.2.2.2.1 v (fun c=>b c) (a 0) (a 1)⟩
def RX:Æ:=Ls 0 [tI,tI,tI,ae,aa,af,ac,aa,tI,tI,tI,tI,tI,tI,tI,tI] [tI] ⟨76,aN 2 (.con tI::.box 0 0::.box 1 0::aN 4 [.var tI]),[bt,bu]⟩ [(.ret,⟨76,[.any,.any,.con tI,.box 0 0,.box 1 0,.any,.var .bool],[bt,bu]⟩,[.bool]),(.exit 2,⟨76,[.any,.any,.con tI,.box 0 0,.box 1 0],[bt,bu]⟩,[])]
def DS (ρ:Type):õ ρ:=⟨[],143,2,RX,fun(p:Val aq) (v:Int) b a=>pr p.1 p.2.2.2.2.2.2.2.1 p.2.2.2.2.2.2.2.2.1 v (fun c=>b c) (a 0) (a 1)⟩
def Fs (ρ:Type):Env ρ:=Ø [(146,Ge)] [DT ρ,DS ρ]
def nW:ú:=⟨[Ê],[aa],fun(x:b6)=>iU x⟩
def Pg:Æ:=Ls 0 [tI,tI,ae,aa,af,ac,aa] [tI,ab] ⟨114,[.any,.box 0 0,.any,.own 1,.var tI],cO⟩ [(.exit 0,⟨114,[.any,.box 0 0,.any,.own 1],cO⟩,[ab])]
def A0 (ρ:Type):õ ρ:=⟨[],85,0,Pg,fun(p:Val ao) (v:f4) a b=>qF p.2.2.1 v.1 v.2 (fun c d=>a (c,d)) (b 0)⟩
def Pf:Æ:=Ls 0 [tI,tI,ae,aa,af,ac,aa] [tI,ab] ⟨114,[.any,.box 0 0,.any,.own 1,.any,.var tI],cO⟩ [(.exit 2,⟨114,[.any,.box 0 0,.any,.own 1],cO⟩,[ab])]
def AZ (ρ:Type):õ ρ:=⟨[],85,2,Pf,fun(p:Val ao) (v:f4) a b=>qE p.2.2.2.2.2.1 v.1 v.2 (fun c d=>a (c,d)) (b 0)⟩
def Pe:Æ:=Ls 0 [tI,tI,ae,aa,af,ac,aa] [tI,ab] ⟨114,[.any,.box 0 0,.any,.own 1,.any,.any,.var tI],cO⟩ [(.exit 4,⟨114,[.any,.box 0 0,.any,.own 1],cO⟩,[ab])]
def AY (ρ:Type):õ ρ:=⟨[],85,4,Pe,fun(p:Val ao) (v:f4) a b=>qD p.2.2.2.2.2.2 v.1 v.2 (fun c d=>a (c,d)) (b 0)⟩
def AQ:Æ:=Ls 0 [tI,tI,tI,tI,ae,aa,af,ac,aa,ab,aa] [tI,tI] ⟨114,[.any,.box 0 0,.any,.own 1,.any,.any,.any,.own 2,.con tI,.con tI,.var tI,.var tI],[bt,.rowc tI,.rowc Ç]⟩ [(.exit 10,⟨114,[.any,.box 0 0,.any,.own 1,.any,.any,.any,.own 2,.con tI,.con tI,.var tI],[bt,.rowc tI,.rowc Ç]⟩,[tI])]
def AP (ρ:Type):õ ρ:=⟨[],85,10,AQ,fun(p:Val (tyL AQ.cs)) (v:bx) a b=>m8 p.2.1 p.2.2.2.2.2.2.2.2.2.1 v.1 v.2 (fun c d=>a (c,d)) (b 0)⟩
def AU:Æ:=Ls 0 [tI,tI,tI,ae,aa,af,ac,aa,ab] [tI,aa] ⟨114,[.any,.box 0 0,.any,.own 1,.any,.any,.any,.own 2,.con tI,.var tI],cP⟩ [(.exit 8,⟨114,[.any,.box 0 0,.any,.own 1,.any,.any,.any,.own 2,.con tI],cP⟩,[aa])]
def AR (ρ:Type):õ ρ:=⟨[],85,8,AU,fun(p:Val (tyL AU.cs)) (v:nj) a b=>let A:=p.2.2.2.2;m9 p.1 p.2.1 p.2.2.1 p.2.2.2.1 A.1 A.2.1 A.2.2.1 A.2.2.2.1 A.2.2.2.2 v.1 v.2 (fun c d=>a (c,d)) (b 0)⟩
def AX:Æ:=Ls 0 [tI,tI,ae,aa,af,ac,aa,ab] [tI,aa] ⟨114,[.any,.box 0 0,.any,.own 1,.any,.any,.any,.own 2,.var tI],cP⟩ [(.exit 6,⟨114,[.any,.box 0 0,.any,.own 1,.any,.any,.any,.own 2],cP⟩,[aa])]
def AW (ρ:Type):õ ρ:=⟨[],85,6,AX,fun(p:Val (tyL AX.cs)) (v:nj) a b=>let A:=p.2.2.2.2;qC p.1 p.2.1 p.2.2.1 p.2.2.2.1 A.1 A.2.1 A.2.2.1 A.2.2.2 v.1 v.2 (fun c d=>a (c,d)) (b 0)⟩
def j7 (ρ:Type):Env ρ:=Ø [(143,Ys)] [A0 ρ,AZ ρ,AY ρ,AP ρ,AR ρ,AW ρ]
def Jp:ú:=⟨[Ê,Ç],[tI],fun(x:Val ba)=>jH x.1 x.2⟩
def Po:Æ:=Ls 0 [aa,tI,tI] [tI] ⟨23,[.any,.any,.any,.box 0 0,.any,.con aa,.var tI],[bL]⟩ [(.ret,⟨23,[.any,.any,.any,.box 0 0,.var tI,.con aa],[bL]⟩,[tI]),(.exit 0,⟨23,[.any,.any,.any,.box 0 0,.any,.con aa],[bL]⟩,[])]
def A2 (ρ:Type):õ ρ:=⟨[],78,0,Po,fun(p:Val (.pair aa Ç)) (v:Int) b a=>qG p.1 p.2.1 p.2.2 v (fun c=>b c) (a 0) (a 1)⟩
def KW (ρ:Type):Env ρ:=Ø [(85,nW)] [A2 ρ]
def rD:ú:=⟨[Ê,tI],[tI],fun(x:AN)=>kj x.1 x.2⟩
def Si:Æ:=Ls 0 [tI,tI,tI,ae,aa,af,ac,aa] [tI] ⟨22,[.any,.con tI,.box 0 0,.any,.any,.var tI],[bt]⟩ [(.ret,⟨22,[.any,.con tI,.box 0 0,.any,.var tI],[bt]⟩,[tI]),(.exit 0,⟨22,[.any,.con tI,.box 0 0],[bt]⟩,[])]
def D9 (ρ:Type):õ ρ:=⟨[],15,0,Si,fun(p:Val (.pair tI ao)) (v:Int) b a=>uB p.1 p.2.2.2.1 v (fun c=>b c) (a 0) (a 1)⟩
def Pu (ρ:Type):Env ρ:=Ø [] [D9 ρ]
def Gg:ú:=⟨[Ê,tI,tI],[π,.bool],fun(x:Val ba)=>ki x.1 x.2.1 x.2.2⟩
def D4:Æ:=Ls 0 [tI,tI,tI,tI,ae,aa,af,ac,aa] [tI,tI,tI,tI,tI] ⟨42,[.any,.con tI,.con tI,.box 0 0,.any,.any,.box 1 0,.any,.var tI],[bt,bZ]⟩ [(.ret,⟨42,[.any,.con tI,.con tI,.box 0 0,.any,.any,.box 1 0,.var .bool],[bt,bZ]⟩,[.bool,tI,tI,tI,tI]),(.exit 0,⟨42,[.any,.con tI,.con tI,.box 0 0,.any,.any,.box 1 0],[bt,bZ]⟩,[tI,tI,tI,tI])]
def D3 (ρ:Type):õ ρ:=⟨[],64,0,D4,fun(p:Val (tyL D4.cs)) (v:Val bo) b a=>uu p.1 p.2.1 p.2.2.2.2.2.2.1 v.1 v.2.1 v.2.2.1 v.2.2.2.1 v.2.2.2.2 (fun c d e f g=>b (c,d,e,f,g)) (a 0) (a 1)⟩
def Pl (ρ:Type):Env ρ:=Ø [] [D3 ρ]
def Yt:ú:=⟨[Ê,tI,tI],[.bool],fun(x:Val ba)=>II x.1 x.2.1 x.2.2⟩
def DW:Æ:=Ls 0 [tI,tI,tI,tI,ae,aa,af,ac,aa] [tI] ⟨33,[.any,.con tI,.con tI,.box 0 0,.any,.any,.any,.var tI],[bt]⟩ [(.ret,⟨33,[.any,.con tI,.con tI,.box 0 0,.any,.any,.var .bool],[bt]⟩,[.bool]),(.exit 0,⟨33,[.any,.con tI,.con tI,.box 0 0],[bt]⟩,[])]
def DU (ρ:Type):õ ρ:=⟨[],188,0,DW,fun(p:Val (tyL DW.cs)) (v:Int) b a=>un p.1 p.2.1 p.2.2.2.2.2.1 v (fun c=>b c) (a 0) (a 1)⟩
def O8 (ρ:Type):Env ρ:=Ø [] [DU ρ]
def NK:ú:=⟨[Ê,tI,tI,tI],[tI],fun(x:Val (.pair Ê ģ))=>nh x.1 x.2.1 x.2.2.1 x.2.2.2⟩
def D2:Æ:=Ls 0 [tI,tI,tI,tI,tI,ae,aa,af,ac,aa] [tI,tI] ⟨48,.any::.con tI::.any::.con tI::.box 0 0::aN 4 [.con tI,.var tI,.var tI],[bt]⟩ [(.exit 0,⟨48,.any::.con tI::.any::.con tI::.box 0 0::aN 4 [.con tI,.var tI],[bt]⟩,[tI])]
def D0 (ρ:Type):õ ρ:=⟨[],144,0,D2,fun(p:Val (tyL D2.cs)) (v:bx) a b=>let A:=p.2.2.2.2;ut p.1 p.2.1 p.2.2.1 p.2.2.2.1 A.1 A.2.1 A.2.2.1 A.2.2.2.1 A.2.2.2.2.1 A.2.2.2.2.2 v.1 v.2 (fun c d=>a (c,d)) (b 0)⟩
def Pj (ρ:Type):Env ρ:=Ø [(15,rD),(64,Gg),(188,Yt)] [D0 ρ]
def Vx:ú:=⟨[tI,tI],[tI],fun(x:bx)=>Cy x.1 x.2⟩
def Wo:Æ:=Ls 0 [] [tI,tI] ⟨14,[.var tI,.var tI],[]⟩ [(.exit 0,⟨14,[.var tI],[]⟩,[tI])]
def Hw (ρ:Type):õ ρ:=⟨[],209,0,Wo,fun(p:Unit) (v:bx) a b=>xT v.1 v.2 (fun c d=>a (c,d)) (b 0)⟩
def Ud (ρ:Type):Env ρ:=Ø [] [Hw ρ]
def Vy:ú:=⟨[tI],[tI],fun(x:Int)=>IL x⟩
def afB (ρ:Type):Env ρ:=Ø [] []
def EN:ú:=⟨[tI,tI],[mA],fun(x:bx)=>sL x.1 x.2⟩
def Wn (ρ:Type):Env ρ:=Ø [(209,Vx),(210,Vy)] []
def adm:ú:=⟨[Ç,Ç],[mA],fun(x:kw)=>W8 x.1 x.2⟩
def afA (ρ:Type):Env ρ:=Ø [(274,EN)] []
def adk:ú:=⟨[Ç],[Ç],fun(x:bx)=>W7 x⟩
def afy (ρ:Type):Env ρ:=Ø [] []
def adj:ú:=⟨[Ç,Ç],[mA],fun(x:kw)=>MQ x.1 x.2⟩
def afx (ρ:Type):Env ρ:=Ø [(260,adm),(261,adk)] []
def Tx:ú:=⟨[Ê,tI],[Ç],fun(x:AN)=>wR x.1 x.2⟩
def Zl (ρ:Type):Env ρ:=Ø [(15,rD)] []
def Yz:ú:=⟨[mA,mA],[FW],fun(x:Val (.pair mA mA))=>IK x.1 x.2⟩
def abH (ρ:Type):Env ρ:=Ø [] []
def adl:ú:=⟨[Ç,Ç],[mA],fun(x:kw)=>yB x.1 x.2⟩
def afz (ρ:Type):Env ρ:=Ø [(274,EN)] []
def TD:ú:=⟨[ġ,Ç],[FW],fun(x:Val (.pair ġ Ç))=>Cx x.1 x.2⟩
def ZD (ρ:Type):Env ρ:=Ø [(262,Yz),(263,adl)] []
def EM:ú:=⟨[Ê,Ö],[ġ],fun(x:Val aZ)=>sK x.1 x.2⟩
def Wm (ρ:Type):Env ρ:=Ø [(146,Ge),(231,adj),(232,Tx),(233,TD)] []
def Jq:ú:=⟨[Ê,Ö],[Ç],fun(x:Val aZ)=>wU x.1 x.2⟩
def Zz (ρ:Type):Env ρ:=Ø [] []
def ahE:ú:=⟨[tI,tI],[tI],fun(x:bx)=>ab8 x.1 x.2⟩
def aig (ρ:Type):Env ρ:=Ø [] []
def NM:ú:=⟨[Ç],[tI],fun(x:bx)=>BA x⟩
def abI (ρ:Type):Env ρ:=Ø [(234,ahE)] []
def Yy:ú:=⟨[tI,tI],[tI],fun(x:bx)=>Qz x.1 x.2⟩
def abG (ρ:Type):Env ρ:=Ø [] []
def Jr:ú:=⟨[Ç],[tI],fun(x:bx)=>wV x⟩
def ZE (ρ:Type):Env ρ:=Ø [(235,Yy)] []
def Yu:ú:=⟨[Ê,Ö],[Ç],fun(x:Val aZ)=>wS x.1 x.2⟩
def abF (ρ:Type):Env ρ:=Ø [(189,EM),(190,Jq),(191,NM),(192,Jr)] []
def Vw:ú:=⟨[Ê],[De],fun(x:b6)=>yz x⟩
def Wg:Æ:=Ls 0 [aa,tI,tI,tI,ae,aa,af,ac,aa,tI,tI,tI,tI,tI,tI,tI,tI] [tI,am,aa] ⟨182,[.any,.box 0 0,.box 1 0,.box 2 0,.con aa,.con tI,.box 3 0,.var tI],[bt,b7,.cells [.own 4,.own 5],bu,.rowv ģ,.rowv Ç]⟩ [(.exit 2,⟨182,[.any,.box 0 0,.box 1 0,.box 2 0,.con aa,.con tI,.box 3 0],[bt,b7,.cells [.own 4,.own 5],bu,.rowv ģ,.rowv Ç]⟩,[am,aa])]
def Hr (ρ:Type):õ ρ:=⟨[],94,2,Wg,fun(p:Val (.pair aa aq)) (v:wk) a b=>let A:=p.2.2.2.2;let B:=A.2.2.2.2;sj p.1 p.2.1 p.2.2.1 p.2.2.2.1 A.1 A.2.1 A.2.2.1 A.2.2.2.1 B.1 B.2.1 B.2.2.1 B.2.2.2.1 B.2.2.2.2.1 B.2.2.2.2.2.1 v.1 v.2.1 v.2.2 (fun c d e=>a (c,d,e)) (b 0)⟩
def Wh:Æ:=Ls 0 [aa,tI,tI,ae,aa,af,ac,aa] [tI,am,aa] ⟨182,[.any,.box 0 0,.box 1 0,.box 2 0,.con aa,.var tI],cQ⟩ [(.exit 0,⟨182,[.any,.box 0 0,.box 1 0,.box 2 0,.con aa],cQ⟩,[am,aa])]
def Hs (ρ:Type):õ ρ:=⟨[],94,0,Wh,fun(p:Val (.pair aa ao)) (v:wk) a b=>let A:=p.2.2.2.2;xR p.1 p.2.1 p.2.2.1 p.2.2.2.1 A.1 A.2.1 A.2.2.1 A.2.2.2 v.1 v.2.1 v.2.2 (fun c d e=>a (c,d,e)) (b 0)⟩
def Wf:Æ:=Ls 0 [tI,tI,ae,aa,af,ac,aa] [tI,am,aa] ⟨182,.any::.box 0 0::.box 1 0::.box 2 0::aN 5 [.var tI],cQ⟩ [(.exit 4,⟨182,[.any,.box 0 0,.box 1 0,.box 2 0],cQ⟩,[am,aa])]
def Ho (ρ:Type):õ ρ:=⟨[],94,4,Wf,fun(p:Val ao) (v:wk) a b=>let A:=p.2.2.2.2;xQ p.1 p.2.1 p.2.2.1 p.2.2.2.1 A.1 A.2.1 A.2.2 v.1 v.2.1 v.2.2 (fun c d e=>a (c,d,e)) (b 0)⟩
def Cc (ρ:Type):Env ρ:=Ø [(78,Jp),(85,nW),(144,NK),(146,Ge),(151,Yu)] [Hr ρ,Hs ρ,Ho ρ]
def oV:ú:=⟨[Ç,tI,tI],[.bool],fun(x:kw)=>kh x.1 x.2.1 x.2.2⟩
def RW (ρ:Type):Env ρ:=Ø [] []
def TC:ú:=⟨[Ç],[.bool],fun(x:bx)=>Cw x⟩
def ZC (ρ:Type):Env ρ:=Ø [(209,Vx),(210,Vy)] []
def Tz:ú:=⟨[Ú],[.bool],fun(x:pc)=>Cu x⟩
def Zm (ρ:Type):Env ρ:=Ø [(25,Gi),(76,xA),(117,oV),(172,TC)] []
def rg:ú:=⟨[Ê,tI,tI],[tI],fun(x:Val ba)=>jG x.1 x.2.1 x.2.2⟩
def Zp (ρ:Type):Env ρ:=Ø [(15,rD)] []
def Yr:ú:=⟨[Ê],[tI],fun(x:b6)=>IG x⟩
def RV:Æ:=Ls 0 [tI,tI,ae,aa,af,ac,aa] [tI] ⟨37,[.any,.box 0 0,.any,.var tI],[bt]⟩ [(.ret,⟨37,[.any,.box 0 0,.var tI],[bt]⟩,[tI]),(.exit 0,⟨37,[.any,.box 0 0],[bt]⟩,[])]
def DR (ρ:Type):õ ρ:=⟨[],119,0,RV,fun(p:Val ao) (v:Int) b a=>let A:=p.2.2.2.2;ud p.1 p.2.1 p.2.2.1 p.2.2.2.1 A.1 A.2.1 A.2.2 v (fun c=>b c) (a 0) (a 1)⟩
def O0 (ρ:Type):Env ρ:=Ø [(25,Gi),(123,rg)] [DR ρ]
def Tw:ú:=⟨[Ê],[tI],fun(x:b6)=>Ct x⟩
def O2:Æ:=Ls 0 [tI,tI,tI,ae,aa,af,ac,aa,tI,tI,tI,tI] [tI] ⟨111,[.any,.box 0 0,.any,.con tI,.box 1 0,.any,.var tI],cg⟩ [(.ret,⟨111,[.any,.box 0 0,.var tI,.con tI,.box 1 0],cg⟩,[tI]),(.exit 2,⟨111,[.any,.box 0 0,.any,.con tI,.box 1 0],cg⟩,[])]
def AK (ρ:Type):õ ρ:=⟨[],120,2,O2,fun(p:Val aH) (v:Int) b a=>let A:=p.2.2.2.2.2;qA p.1 A.1 A.2.2.2.1 A.2.2.2.2.1 A.2.2.2.2.2.1 v (fun c=>b c) (a 0) (a 1)⟩
def O1:Æ:=Ls 0 [tI,tI,tI,ae,aa,af,ac,aa,tI,tI,tI,tI] [tI] ⟨111,[.any,.box 0 0,.any,.con tI,.box 1 0,.any,.any,.var tI],cg⟩ [(.ret,⟨111,[.any,.box 0 0,.var tI,.con tI,.box 1 0],cg⟩,[tI]),(.exit 4,⟨111,[.any,.box 0 0,.any,.con tI,.box 1 0],cg⟩,[])]
def AJ (ρ:Type):õ ρ:=⟨[],120,4,O1,fun(p:Val aH) (v:Int) b a=>let A:=p.2.2.2.2;let B:=A.2.2.2.2;mZ A.1 B.1 B.2.1 B.2.2.1 v (fun c=>b c) (a 0) (a 1)⟩
def O3:Æ:=Ls 0 [tI,tI,ae,aa,af,ac,aa] [tI] ⟨111,[.any,.box 0 0,.any,.var tI],[bt]⟩ [(.ret,⟨111,[.any,.box 0 0,.var tI],[bt]⟩,[tI]),(.exit 0,⟨111,[.any,.box 0 0],[bt]⟩,[])]
def AM (ρ:Type):õ ρ:=⟨[],120,0,O3,fun(p:Val ao) (v:Int) b a=>let A:=p.2.2.2.2;qB p.1 p.2.1 p.2.2.1 p.2.2.2.1 A.1 A.2.1 A.2.2 v (fun c=>b c) (a 0) (a 1)⟩
def ue (ρ:Type):Env ρ:=Ø [(76,xA),(117,oV),(123,rg)] [AK ρ,AJ ρ,AM ρ]
def Yv:ú:=⟨[ab],[.bool],fun(x:an)=>Bz x⟩
def Sb:Æ:=Ls 0 [ab] [tI] ⟨35,[.con ab,.any,.any,.var tI],[]⟩ [(.ret,⟨35,[.con ab,.any,.var .bool],[]⟩,[.bool]),(.exit 0,⟨35,[.con ab],[]⟩,[])]
def DX (ρ:Type):õ ρ:=⟨[],173,0,Sb,fun(p:an) (v:Int) b a=>ur p v (fun c=>b c) (a 0) (a 1)⟩
def Pb (ρ:Type):Env ρ:=Ø [(76,xA)] [DX ρ]
def Tv:ú:=⟨[Ö],[.bool],fun(x:io)=>Cs x⟩
def Zk (ρ:Type):Env ρ:=Ø [(25,Gi),(76,xA),(117,oV),(173,Yv)] []
def Gf:ú:=⟨[Ê,Ö],[tI],fun(x:Val aZ)=>kT x.1 x.2⟩
def Hn:Æ:=Ls 0 [tI,tI,ae,aa,af,ac,aa,tI,tI,ab,ab,tI,tI,tI,tI,ab] [tI] ⟨90,[.any,.any,.box 0 0,.box 1 0,.any,.own 2,.var tI],ci⟩ [(.ret,⟨90,[.any,.any,.box 0 0,.box 1 0,.var tI,.own 2],ci⟩,[tI]),(.exit 0,⟨90,[.any,.any,.box 0 0,.box 1 0,.any,.own 2],ci⟩,[])]
def uj (ρ:Type):õ ρ:=⟨[],122,0,Hn,fun(p:Val aw) (v:Int) b a=>let A:=p.2.2.2.2;l5 p.1 p.2.1 p.2.2.1 p.2.2.2.1 A.1 A.2.1 A.2.2.1 A.2.2.2.2.2.2.2.2.2.2.2 v (fun c=>b c) (a 0) (a 1)⟩
def Hm:Æ:=Ls 0 [tI,tI,ae,aa,af,ac,aa,tI,tI,ab,ab,tI,tI,tI,tI,ab] [tI] ⟨90,[.any,.any,.box 0 0,.box 1 0,.any,.own 2,.any,.var tI],ci⟩ [(.ret,⟨90,[.any,.any,.box 0 0,.box 1 0,.var tI,.own 2],ci⟩,[tI]),(.exit 2,⟨90,[.any,.any,.box 0 0,.box 1 0,.any,.own 2],ci⟩,[])]
def uh (ρ:Type):õ ρ:=⟨[],122,2,Hm,fun(p:Val aw) (v:Int) b a=>let A:=p.2.2.2.2;jx p.1 p.2.1 p.2.2.1 p.2.2.2.1 A.1 A.2.1 A.2.2.1 A.2.2.2.2.1 A.2.2.2.2.2.2.2.2.2.2.2 v (fun c=>b c) (a 0) (a 1)⟩
def Hl:Æ:=Ls 0 [tI,tI,ae,aa,af,ac,aa,tI,tI,ab,ab,tI,tI,tI,tI,ab] [tI] ⟨90,[.any,.any,.box 0 0,.box 1 0,.any,.own 2,.any,.any,.var tI],ci⟩ [(.ret,⟨90,[.any,.any,.box 0 0,.box 1 0,.var tI,.own 2],ci⟩,[tI]),(.exit 4,⟨90,[.any,.any,.box 0 0,.box 1 0,.any,.own 2],ci⟩,[])]
def ug (ρ:Type):õ ρ:=⟨[],122,4,Hl,fun(p:Val aw) (v:Int) b a=>let A:=p.2.2.2.2;Θ p.1 p.2.1 p.2.2.1 p.2.2.2.1 A.1 A.2.1 A.2.2.1 A.2.2.2.2.1 A.2.2.2.2.2.2.2.2.2.2.2 v (fun c=>b c) (a 0) (a 1)⟩
def j6 (ρ:Type):Env ρ:=Ø [(15,rD),(64,Gg),(66,NL),(123,rg)] [uj ρ,uh ρ,ug ρ]
def TB:ú:=⟨[Ê],[tI],fun(x:b6)=>Cv x⟩
def Py:Æ:=Ls 0 [tI,tI,ae,aa,af,ac,aa] [tI] ⟨170,[.any,.box 0 0,.any,.var tI],[bt]⟩ [(.ret,⟨170,[.any,.box 0 0,.var tI],[bt]⟩,[tI]),(.exit 0,⟨170,[.any,.box 0 0],[bt]⟩,[])]
def A6 (ρ:Type):õ ρ:=⟨[],62,0,Py,fun(p:Val ao) (v:Int) b a=>qI p.2.2.1 v (fun c=>b c) (a 0) (a 1)⟩
def Pw:Æ:=Ls 0 [tI,tI,tI,ae,aa,af,ac,aa] [tI] ⟨170,.any::.box 0 0::aN 4 [.con tI,.any,.var tI],[bt]⟩ [(.ret,⟨170,[.any,.box 0 0,.var tI,.any,.any,.any,.con tI],[bt]⟩,[tI]),(.exit 4,⟨170,.any::.box 0 0::aN 4 [.con tI],[bt]⟩,[])]
def A4 (ρ:Type):õ ρ:=⟨[],62,4,Pw,fun(p:Val (.pair tI ao)) (v:Int) b a=>qH p.1 p.2.2.2.2.2.2.1 v (fun c=>b c) (a 0) (a 1)⟩
def Px:Æ:=Ls 0 [tI,tI,ae,aa,af,ac,aa] [tI] ⟨170,.any::.box 0 0::aN 4 [.var tI],[bt]⟩ [(.ret,⟨170,[.any,.box 0 0,.var tI],[bt]⟩,[tI]),(.exit 2,⟨170,[.any,.box 0 0],[bt]⟩,[])]
def A5 (ρ:Type):õ ρ:=⟨[],62,2,Px,fun(p:Val ao) (v:Int) b a=>let A:=p.2.2.2.2;kM p.1 p.2.1 p.2.2.1 p.2.2.2.1 A.1 A.2.1 A.2.2 v (fun c=>b c) (a 0) (a 1)⟩
def Pv:Æ:=Ls 0 [tI,tI,ae,aa,af,ac,aa] [tI] ⟨170,.any::.box 0 0::aN 7 [.var tI],[bt]⟩ [(.ret,⟨170,[.any,.box 0 0,.var tI],[bt]⟩,[tI]),(.exit 6,⟨170,[.any,.box 0 0],[bt]⟩,[])]
def A3 (ρ:Type):õ ρ:=⟨[],62,6,Pv,fun(p:Val ao) (v:Int) b a=>let A:=p.2.2.2.2;kL p.1 p.2.1 p.2.2.1 p.2.2.2.1 A.1 A.2.1 A.2.2 v (fun c=>b c) (a 0) (a 1)⟩
def mq (ρ:Type):Env ρ:=Ø [(25,Gi),(85,nW),(94,Vw),(117,oV),(118,Tz),(119,Yr),(120,Tw),(121,Tv),(122,Gf),(123,rg)] [A6 ρ,A4 ρ,A5 ρ,A3 ρ]
def adh:ú:=⟨[Ê,Ģ],[tI],fun(x:Val (.pair Ê Ģ))=>MO x.1 x.2⟩
def V9:Æ:=Ls 0 [tI,tI,ae,aa,af,ac,aa,tI,ab] [tI] ⟨70,[.any,.any,.box 0 0,.box 1 0,.any,.var tI],cj⟩ [(.ret,⟨70,[.any,.any,.box 0 0,.box 1 0,.var tI],cj⟩,[tI]),(.exit 0,⟨70,[.any,.any,.box 0 0,.box 1 0],cj⟩,[])]
def Hc (ρ:Type):õ ρ:=⟨[],63,0,V9,fun(p:Val aG) (v:Int) b a=>xM p.2.2.2.2.2.2.2.2 v (fun c=>b c) (a 0) (a 1)⟩
def V8:Æ:=Ls 0 [tI,tI,ae,aa,af,ac,aa,tI,ab] [tI] ⟨70,[.any,.any,.box 0 0,.box 1 0,.any,.any,.var tI],cj⟩ [(.ret,⟨70,[.any,.any,.box 0 0,.box 1 0,.var tI],cj⟩,[tI]),(.exit 2,⟨70,[.any,.any,.box 0 0,.box 1 0],cj⟩,[])]
def Hb (ρ:Type):õ ρ:=⟨[],63,2,V8,fun(p:Val aG) (v:Int) b a=>let A:=p.2.2.2.2;Fm p.1 p.2.1 p.2.2.1 p.2.2.2.1 A.1 A.2.1 A.2.2.1 A.2.2.2.2 v (fun c=>b c) (a 0) (a 1)⟩
def V7:Æ:=Ls 0 [tI,tI,ae,aa,af,ac,aa,tI,ab] [tI] ⟨70,[.any,.any,.box 0 0,.box 1 0,.any,.any,.any,.var tI],cj⟩ [(.ret,⟨70,[.any,.any,.box 0 0,.box 1 0,.var tI],cj⟩,[tI]),(.exit 4,⟨70,[.any,.any,.box 0 0,.box 1 0],cj⟩,[])]
def Ha (ρ:Type):õ ρ:=⟨[],63,4,V7,fun(p:Val aG) (v:Int) b a=>let A:=p.2.2.2.2;Fl p.1 p.2.1 p.2.2.1 p.2.2.2.1 A.1 A.2.1 A.2.2.1 A.2.2.2.1 A.2.2.2.2 v (fun c=>b c) (a 0) (a 1)⟩
def Ca (ρ:Type):Env ρ:=Ø [(15,rD),(76,xA),(123,rg)] [Hc ρ,Hb ρ,Ha ρ]
def Tu:ú:=⟨[Â],[tI],fun(x:a8)=>Cr x⟩
def AG:Æ:=Ls 0 [tI,tI,tI,ae,aa,af,ac,aa,aj,tI,ab] [tI,tI] ⟨99,[.any,.box 0 0,.any,.any,.var tI,.con tI,.box 1 0,.var tI],[bB,bC]⟩ [(.ret,⟨99,[.any,.box 0 0,.var tI,.any,.any,.con tI,.box 1 0],[bB,bC]⟩,[tI]),(.exit 2,⟨99,[.any,.box 0 0,.any,.any,.var tI,.con tI,.box 1 0],[bB,bC]⟩,[tI])]
def AF (ρ:Type):õ ρ:=⟨[],12,2,AG,fun(p:Val (tyL AG.cs)) (v:bx) b a=>let A:=p.2.2.2.2;jl p.2.1 p.2.2.1 p.2.2.2.1 A.1 A.2.1 A.2.2.1 A.2.2.2.1 A.2.2.2.2.2.1 A.2.2.2.2.2.2 v.1 v.2 (fun c d=>b (c,d)) (a 0) (a 1)⟩
def OY:Æ:=Ls 0 [tI,tI,ae,aa,af,ac,aa,aj] [tI,tI] ⟨99,[.any,.box 0 0,.any,.any,.var tI,.var tI],[bB]⟩ [(.ret,⟨99,[.any,.box 0 0,.var tI],[bB]⟩,[tI]),(.exit 0,⟨99,[.any,.box 0 0,.any,.any,.var tI],[bB]⟩,[tI])]
def AH (ρ:Type):õ ρ:=⟨[],12,0,OY,fun(p:th) (v:bx) b a=>let A:=p.2.2.2.2;qz p.1 p.2.1 p.2.2.1 p.2.2.2.1 A.1 A.2.1 A.2.2.1 A.2.2.2 v.1 v.2 (fun c d=>b (c,d)) (a 0) (a 1)⟩
def AI (ρ:Type):Env ρ:=Ø [(62,TB),(63,adh),(64,Gg)] [AF ρ,AH ρ]
def NE:ú:=⟨[ab],[ah],fun(x:an)=>FJ x⟩
def Ε:Æ:=Ls 0 [ab,tI,ah] [tI,ah] ⟨51,[.con ab,.any,.any,.own 0,.con tI,.any,.con ah,.var tI],[.rowv ab]⟩ [(.exit 2,⟨51,[.con ab,.any,.any,.own 0,.con tI,.any,.con ah],[.rowv ab]⟩,[ah])]
def pV (rec:an->BY b5) (ρ:Type):õ ρ:=⟨[],87,2,Ε,fun(p:xa) (v:pi) a b=>lL rec p.1 p.2.1 p.2.2 v.1 v.2 (fun c d=>a (c,d)) (b 0)⟩
def Ζ:Æ:=Ls 0 [ab] [tI,ah] ⟨51,[.con ab,.any,.any,.own 0,.var tI],[.rowv ab]⟩ [(.exit 0,⟨51,[.con ab,.any,.any,.own 0],[.rowv ab]⟩,[ah])]
def pW (rec:an->BY b5) (ρ:Type):õ ρ:=⟨[],87,0,Ζ,fun(p:an) (v:pi) a b=>oF rec p v.1 v.2 (fun c d=>a (c,d)) (b 0)⟩
def RL (rec:an->BY b5):CK (Nat×ú):=[(87,⟨[ab],[ah],fun(x:an)=>rec x⟩)]
def AA (rec:an->BY b5) (ρ:Type):CK (õ ρ):=[pV rec ρ,pW rec ρ]
def į (rec:an->BY b5) (ρ:Type):Env ρ:=Ø (RL rec) (AA rec ρ)
def NF:ú:=⟨[Â,ah],[tI],fun(x:rn)=>yw x.1 x.2⟩
def LC:Æ:=Ls 0 [ah,tI,tI,tI,ae,aa,af,ac,aa,aj] [tI,tI] ⟨43,[.any,.con ah,.box 0 0,.any,.any,.var tI,.con tI,.var tI],[bB]⟩ [(.exit 2,⟨43,[.any,.con ah,.box 0 0,.any,.any,.var tI,.con tI],[bB]⟩,[tI])]
def yW (ρ:Type):õ ρ:=⟨[],88,2,LC,fun(p:l7) (v:bx) a b=>oG p.1 p.2.1 p.2.2.2.2.2.2.2.2.2 v.1 v.2 (fun c d=>a (c,d)) (b 0)⟩
def LD:Æ:=Ls 0 [ah,tI,tI,ae,aa,af,ac,aa,aj] [tI,tI] ⟨43,[.any,.con ah,.box 0 0,.any,.any,.var tI,.var tI],[bB]⟩ [(.exit 0,⟨43,[.any,.con ah,.box 0 0,.any,.any,.var tI],[bB]⟩,[tI])]
def yX (ρ:Type):õ ρ:=⟨[],88,0,LD,fun(p:Val (.pair ah ai)) (v:bx) a b=>oH p.1 p.2.2.2.2.2.2.2.2 v.1 v.2 (fun c d=>a (c,d)) (b 0)⟩
def xO (ρ:Type):Env ρ:=Ø [] [yW ρ,yX ρ]
def Gc:ú:=⟨[Â],[ak],fun(x:a8)=>sJ x⟩
def DK:Æ:=Ls 0 [tI,ah,tI,tI,tI,ae,aa,af,ac,aa,aj,ak] [tI,ak] ⟨82,[.any,.box 0 0,.any,.own 1,.con tI,.con ah,.own 2,.con tI,.var tI],cR⟩ [(.exit 4,⟨82,[.any,.box 0 0,.any,.own 1,.con tI,.con ah,.own 2,.con tI],cR⟩,[ak])]
def DJ (ρ:Type):õ ρ:=⟨[],34,4,DK,fun(p:Val (tyL DK.cs)) (v:im) a b=>pp p.2.1 p.2.2.1 p.2.2.2.2.2.2.2.2.2.2.2 v.1 v.2 (fun c d=>a (c,d)) (b 0)⟩
def DM:Æ:=Ls 0 [tI,ah,tI,tI,ae,aa,af,ac,aa,aj,ak] [tI,ak] ⟨82,[.any,.box 0 0,.any,.own 1,.con tI,.con ah,.own 2,.var tI],cR⟩ [(.exit 2,⟨82,[.any,.box 0 0,.any,.own 1,.con tI,.con ah,.own 2],cR⟩,[ak])]
def DL (ρ:Type):õ ρ:=⟨[],34,2,DM,fun(p:Val (tyL DM.cs)) (v:im) a b=>pq p.2.1 p.2.2.2.2.2.2.2.2.2.2 v.1 v.2 (fun c d=>a (c,d)) (b 0)⟩
def RT:Æ:=Ls 0 [tI,tI,ae,aa,af,ac,aa,aj] [tI,ak] ⟨82,[.any,.box 0 0,.any,.own 1,.var tI],[bB,.rowv ah]⟩ [(.exit 0,⟨82,[.any,.box 0 0,.any,.own 1],[bB,.rowv ah]⟩,[ak])]
def DN (ρ:Type):õ ρ:=⟨[],34,0,RT,fun(p:th) (v:im) a b=>t7 p.2.2.2.2.2.2.2 v.1 v.2 (fun c d=>a (c,d)) (b 0)⟩
def RQ:Æ:=Ls 0 [tI,tI,tI,ae,aa,af,ac,aa,aj,ak] [tI,ak] ⟨82,.any::.box 0 0::.any::.own 1::aN 5 [.own 2,.con tI,.var tI],cR⟩ [(.exit 8,⟨82,.any::.box 0 0::.any::.own 1::aN 5 [.own 2,.con tI],cR⟩,[ak])]
def DH (ρ:Type):õ ρ:=⟨[],34,8,RQ,fun(p:Val (.pair tI aI)) (v:im) a b=>let A:=p.2.2.2.2;po p.1 p.2.1 p.2.2.1 p.2.2.2.1 A.1 A.2.1 A.2.2.1 A.2.2.2.1 A.2.2.2.2.1 A.2.2.2.2.2 v.1 v.2 (fun c d=>a (c,d)) (b 0)⟩
def RS:Æ:=Ls 0 [tI,tI,ae,aa,af,ac,aa,aj,ak] [tI,ak] ⟨82,.any::.box 0 0::.any::.own 1::aN 5 [.own 2,.var tI],cR⟩ [(.exit 6,⟨82,.any::.box 0 0::.any::.own 1::aN 5 [.own 2],cR⟩,[ak])]
def DI (ρ:Type):õ ρ:=⟨[],34,6,RS,fun(p:Val aI) (v:im) a b=>let A:=p.2.2.2.2;tZ p.1 p.2.1 p.2.2.1 p.2.2.2.1 A.1 A.2.1 A.2.2.1 A.2.2.2.1 A.2.2.2.2 v.1 v.2 (fun c d=>a (c,d)) (b 0)⟩
def og (ρ:Type):Env ρ:=Ø [(87,NE),(88,NF)] [DJ ρ,DL ρ,DN ρ,DH ρ,DI ρ]
def xz:ú:=⟨[Ê],[Ó],fun(x:b6)=>ov x⟩
def Wi (ρ:Type):Env ρ:=Ø [(85,nW),(94,Vw)] []
def abq:ú:=⟨[ab,tI],[tI],fun(x:px)=>J7 x.1 x.2⟩
def Zh:Æ:=Ls 0 [ab,tI] [tI] ⟨19,[.con ab,.con tI,.any,.any,.any,.var tI],[]⟩ [(.ret,⟨19,[.con ab,.con tI,.any,.any,.var tI],[]⟩,[tI]),(.exit 0,⟨19,[.con ab,.con tI],[]⟩,[])]
def KU (ρ:Type):õ ρ:=⟨[],20,0,Zh,fun(p:px) (v:Int) b a=>Cb p.1 p.2 v (fun c=>b c) (a 0) (a 1)⟩
def Zi (ρ:Type):Env ρ:=Ø [] [KU ρ]
def Vv:ú:=⟨[Â,ah,tI,tI],[tI],fun(x:rx)=>yv x.1 x.2.1 x.2.2.1 x.2.2.2⟩
def Wa:Æ:=Ls 0 [ah,tI,tI,tI,ae,aa,af,ac,aa,aj] [tI,tI] ⟨45,.any::.con ah::.var tI::.con tI::.box 0 0::aN 4 [.var tI],[bB]⟩ [(.exit 0,⟨45,[.any,.con ah,.var tI,.con tI,.box 0 0],[bB]⟩,[tI])]
def Hd (ρ:Type):õ ρ:=⟨[],75,0,Wa,fun(p:l7) (v:bx) a b=>xN p.1 p.2.1 p.2.2.2.2.2.2.2.2.2 v.1 v.2 (fun c d=>a (c,d)) (b 0)⟩
def TX (ρ:Type):Env ρ:=Ø [(20,abq)] [Hd ρ]
def Yp:ú:=⟨[Â,ah,ab,tI],[ab],fun(x:Val (.pair Â (.pair ah aE)))=>Bx x.1 x.2.1 x.2.2.1 x.2.2.2⟩
def DE:Æ:=Ls 0 [ah,ab,tI,tI,tI,tI,tI,ae,aa,af,ac,aa,aj,ab] [tI] ⟨57,.any::.con ah::.con ab::.con tI::.box 0 0::aN 4 [.own 1,.con tI,.con tI,.var tI],[bB,.rowc tI]⟩ [(.exit 2,⟨57,.any::.con ah::.con ab::.con tI::.box 0 0::aN 4 [.own 1,.con tI,.con tI,.var tI],[bB,.rowc tI]⟩,[tI])]
def DD (ρ:Type):õ ρ:=⟨[],95,2,DE,fun(p:Val (tyL DE.cs)) (v:Int) a b=>pn p.2.2.2.2.1 p.2.2.2.2.2.2.2.2.2.2.2.2.2 v (fun c=>a c) (b 0)⟩
def DG:Æ:=Ls 0 [ah,ab,tI,tI,tI,ae,aa,af,ac,aa,aj] [tI,ab] ⟨57,.any::.con ah::.con ab::.con tI::.box 0 0::aN 4 [.own 1,.var tI],[bB,.rowv tI]⟩ [(.exit 0,⟨57,.any::.con ah::.con ab::.con tI::.box 0 0::aN 4 [.own 1],[bB,.rowv tI]⟩,[ab])]
def DF (ρ:Type):õ ρ:=⟨[],95,0,DG,fun(p:Val (tyL DG.cs)) (v:f4) a b=>let A:=p.2.2.2.2;let B:=A.2.2.2.2;tY p.1 p.2.1 p.2.2.1 p.2.2.2.1 A.1 A.2.1 A.2.2.1 A.2.2.2.1 B.1 B.2.1 B.2.2 v.1 v.2 (fun c d=>a (c,d)) (b 0)⟩
def Fk (ρ:Type):Env ρ:=Ø [(75,Vv)] [DD ρ,DF ρ]
def lH:ú:=⟨[Â,ah],[Ê],fun(x:rn)=>ο x.1 x.2⟩
def si:Æ:=Ls 0 [ah,tI,tI,ae,aa,af,ac,aa,aj,tI,tI,tI,tI,ae] [tI,aa] ⟨156,[.any,.con ah,.box 0 0,.any,.box 1 0,.box 2 0,.var tI],[bB,bG,b9,.rowv Ç]⟩ [(.exit 0,⟨156,[.any,.con ah,.box 0 0,.any,.box 1 0,.box 2 0],[bB,bG,b9,.rowv Ç]⟩,[aa])]
def sh (ρ:Type):õ ρ:=⟨[],37,0,si,fun(p:Val (tyL si.cs)) (v:nj) a b=>let A:=p.2.2.2.2;kI p.1 p.2.1 p.2.2.1 p.2.2.2.1 A.1 A.2.1 A.2.2.1 A.2.2.2.1 A.2.2.2.2.1 v.1 v.2 (fun c d=>a (c,d)) (b 0)⟩
def sg:Æ:=Ls 0 [ah,tI,tI,ae,aa,af,ac,aa,aj,tI,tI,tI,tI,ae,aa] [tI,af] ⟨156,[.any,.con ah,.box 0 0,.any,.box 1 0,.box 2 0,.any,.any,.var tI],[bB,bG,ca,.rowc Ç,.rowv π]⟩ [(.exit 2,⟨156,[.any,.con ah,.box 0 0,.any,.box 1 0,.box 2 0],[bB,bG,ca,.rowc Ç,.rowv π]⟩,[af])]
def sf (ρ:Type):õ ρ:=⟨[],37,2,sg,fun(p:Val (tyL sg.cs)) (v:y6) a b=>let A:=p.2.2.2.2;kH p.1 p.2.1 p.2.2.1 p.2.2.2.1 A.1 A.2.1 A.2.2.1 A.2.2.2.1 A.2.2.2.2.1 v.1 v.2 (fun c d=>a (c,d)) (b 0)⟩
def se:Æ:=Ls 0 [ah,tI,tI,ae,aa,af,ac,aa,aj,tI,tI,tI,tI,ae,aa,af] [tI,ac] ⟨156,.any::.con ah::.box 0 0::.any::.box 1 0::.box 2 0::aN 4 [.var tI],cS⟩ [(.exit 4,⟨156,[.any,.con ah,.box 0 0,.any,.box 1 0,.box 2 0],cS⟩,[ac])]
def sd (ρ:Type):õ ρ:=⟨[],37,4,se,fun(p:Val (tyL se.cs)) (v:Val bc) a b=>let A:=p.2.2.2.2;kG p.1 p.2.1 p.2.2.1 p.2.2.2.1 A.1 A.2.1 A.2.2.1 A.2.2.2.1 A.2.2.2.2.1 v.1 v.2 (fun c d=>a (c,d)) (b 0)⟩
def sc:Æ:=Ls 0 [ah,tI,tI,ae,aa,af,ac,aa,aj,tI,tI,tI,tI,ae,aa,af,ac] [tI,aa] ⟨156,.any::.con ah::.box 0 0::.any::.box 1 0::.box 2 0::aN 6 [.var tI],cT⟩ [(.exit 6,⟨156,[.any,.con ah,.box 0 0,.any,.box 1 0,.box 2 0],cT⟩,[aa])]
def sa (ρ:Type):õ ρ:=⟨[],37,6,sc,fun(p:Val (tyL sc.cs)) (v:nj) a b=>let A:=p.2.2.2.2;kF p.1 p.2.1 p.2.2.1 p.2.2.2.1 A.1 A.2.1 A.2.2.1 A.2.2.2.1 A.2.2.2.2.1 v.1 v.2 (fun c d=>a (c,d)) (b 0)⟩
def Η (ρ:Type):Env ρ:=Ø [(75,Vv),(95,Yp)] [sh ρ,sf ρ,sd ρ,sa ρ]
def Yw:ú:=⟨[Ó],[.bool],fun(x:ge)=>IJ x⟩
def Sc:Æ:=Ls 0 [tI,tI,am] [.bool,tI,ab] ⟨60,[.any,.box 0 0,.any,.own 1,.var .bool,.con tI,.var tI],cJ⟩ [(.exit 2,⟨60,[.any,.box 0 0,.any,.own 1,.var .bool,.con tI],cJ⟩,[.bool,ab])]
def DY (ρ:Type):õ ρ:=⟨[],124,2,Sc,fun(p:Val aP) (v:ry) a b=>pu p.2.2 v.1 v.2.1 v.2.2 (fun c d e=>a (c,d,e)) (b 0)⟩
def Sd:Æ:=Ls 0 [tI,am] [.bool,tI,ab] ⟨60,[.any,.box 0 0,.any,.own 1,.var .bool,.var tI],cJ⟩ [(.exit 0,⟨60,[.any,.box 0 0,.any,.own 1,.var .bool],cJ⟩,[.bool,ab])]
def DZ (ρ:Type):õ ρ:=⟨[],124,0,Sd,fun(p:ge) (v:ry) a b=>pv p.1 p.2 v.1 v.2.1 v.2.2 (fun c d e=>a (c,d,e)) (b 0)⟩
def Fu (ρ:Type):Env ρ:=Ø [] [DY ρ,DZ ρ]
def Gd:ú:=⟨[Â,ah],[.bool],fun(x:rn)=>qO x.1 x.2⟩
def OW (ρ:Type):Env ρ:=Ø [(36,xz),(37,lH),(124,Yw)] []
def Yq:ú:=⟨[Â],[.bool],fun(x:a8)=>By x⟩
def RU:Æ:=Ls 0 [ak,tI,tI,ae,aa,af,ac,aa,aj] [tI] ⟨21,[.any,.box 0 0,.any,.con ak,.var tI],[bB]⟩ [(.ret,⟨21,[.any,.box 0 0,.var .bool,.con ak],[bB]⟩,[.bool]),(.exit 0,⟨21,[.any,.box 0 0,.any,.con ak],[bB]⟩,[])]
def DP (ρ:Type):õ ρ:=⟨[],13,0,RU,fun(p:Val (.pair ak ai)) (v:Int) b a=>let A:=p.2.2.2.2;t8 p.1 p.2.1 p.2.2.1 p.2.2.2.1 A.1 A.2.1 A.2.2.1 A.2.2.2.1 A.2.2.2.2 v (fun c=>b c) (a 0) (a 1)⟩
def OP (ρ:Type):Env ρ:=Ø [(34,Gc),(65,Gd)] [DP ρ]
def Tm:ú:=⟨[ah,tI],[.bool],fun(x:py)=>wN x.1 x.2⟩
def N6:Æ:=Ls 0 [ah] [tI] ⟨22,.con ah::aN 4 [.var tI],[]⟩ [(.ret,⟨22,[.con ah,.any,.any,.any,.var .bool],[]⟩,[.bool]),(.exit 0,⟨22,[.con ah],[]⟩,[])]
def zZ (ρ:Type):õ ρ:=⟨[],27,0,N6,fun(p:b5) (v:Int) b a=>qp p v (fun c=>b c) (a 0) (a 1)⟩
def KM (ρ:Type):Env ρ:=Ø [] [zZ ρ]
def vF:ú:=⟨[aR,ab],[tI],fun(x:Val (.pair aR ab))=>kX x.1 x.2⟩
def zl:Æ:=Ls 0 [ab,tI] [tI] ⟨19,.con ab::.fn 186 []::aN 5 [.con tI,.var tI],[]⟩ [(.ret,⟨19,[.con ab,.fn 186 [],.any,.any,.var tI,.any,.any,.con tI],[]⟩,[tI]),(.exit 0,⟨19,.con ab::.fn 186 []::aN 5 [.con tI],[]⟩,[])]
def nJ (ρ:Type):õ ρ:=⟨[1,10,1,2],205,0,zl,fun(p:px) (v:Int) b a=>ω p.1 p.2 v (fun c=>b c) (a 0) (a 1)⟩
def sk (ρ:Type):Env ρ:=Ø [(163,kv)] [nJ ρ]
def ado:ú:=⟨[Ó,ab],[.bool,tI],fun(x:rm)=>MS x.1 x.2⟩
def Wr:Æ:=Ls 1 [ab,tI,tI,am] [tI] ⟨19,.con ab::.fn 230 []::aN 5 [.con tI,.var tI],[bO]⟩ [(.ret,⟨19,[.con ab,.fn 230 [],.any,.any,.var tI,.any,.any,.con tI],[bO]⟩,[tI]),(.exit 0,⟨19,.con ab::.fn 230 []::aN 5 [.con tI],[bO]⟩,[])]
def HI (ρ:Type):õ ρ:=⟨[4,7,1,2],205,0,Wr,fun(p:An) (v:Int) b a=>xY p.1 p.2.1 v (fun c=>b c) (a 0) (a 1)⟩
def HH:Æ:=Ls 0 [ab,am,tI] [tI] ⟨53,.any::.con ab::aN 26 [.con am,.con tI,.var tI],[]⟩ [(.ret,⟨53,.any::.con ab::aN 2 (.var .bool::.var tI::aN 22 [.con am,.con tI]),[]⟩,[.bool,tI]),(.exit 0,⟨53,.any::.con ab::aN 26 [.con am,.con tI],[]⟩,[])]
def HG (ρ:Type):õ ρ:=⟨[],187,0,HH,fun(p:Val (tyL HH.cs)) (v:Int) b a=>oh p.1 p.2.1 p.2.2 v (fun c=>b c) (a 0) (a 1)⟩
def JQ (ρ:Type):Env ρ:=Ø [(89,vD)] [HI ρ,HG ρ]
def Dn:ú:=⟨[aR,ab],[.bool],fun(x:Val (.pair aR ab))=>oP x.1 x.2⟩
def Me (ρ:Type):Env ρ:=Ø [(187,ado)] []
def adt:ú:=⟨[Ê,ab],[.bool,tI],fun(x:Val (.pair Ê ab))=>MV x.1 x.2⟩
def afH (ρ:Type):Env ρ:=Ø [(96,rE),(136,VB),(140,vF),(141,Dn)] []
def KI:ú:=⟨[Â,ah,ab],[tI],fun(x:Val (.pair Â (.pair ah ab)))=>uT x.1 x.2.1 x.2.2⟩
def RK (ρ:Type):Env ρ:=Ø [(71,ku),(82,NC),(83,adt)] []
def NH:ú:=⟨[Ó,tI,ab],[tI,tI,.bool],fun(x:Val (.pair Ó Ģ))=>yx x.1 x.2.1 x.2.2⟩
def LJ:Æ:=Ls 0 [ab,tI,am] [tI,tI,tI] ⟨67,.any::.var tI::.con ab::.box 0 0::aN 5 [.var tI,.var tI],[bO]⟩ [(.ret,⟨67,[.any,.any,.con ab,.box 0 0,.any,.any,.var tI,.var tI,.var .bool],[bO]⟩,[tI,tI,.bool]),(.exit 0,⟨67,.any::.var tI::.con ab::.box 0 0::aN 5 [.var tI],[bO]⟩,[tI,tI])]
def y0 (ρ:Type):õ ρ:=⟨[],142,0,LJ,fun(p:Val (.pair ab Ó)) (v:qs) b a=>oJ p.1 p.2.2 v.1 v.2.1 v.2.2 (fun c d e=>b (c,d,e)) (a 0) (a 1)⟩
def Hj (ρ:Type):Env ρ:=Ø [] [y0 ρ]
def NI:ú:=⟨[Ó,ab],[.bool],fun(x:rm)=>yy x.1 x.2⟩
def Wc (ρ:Type):Env ρ:=Ø [(142,NH)] []
def NG:ú:=⟨[Â,ah],[.bool],fun(x:rn)=>ou x.1 x.2⟩
def yZ:Æ:=Ls 0 [ah,ak,tI,tI,ae,aa,af,ac,aa,aj] [tI] ⟨35,[.any,.con ah,.box 0 0,.any,.any,.con ak,.var tI],[bB]⟩ [(.ret,⟨35,[.any,.con ah,.box 0 0,.any,.var .bool,.con ak],[bB]⟩,[.bool]),(.exit 0,⟨35,[.any,.con ah,.box 0 0,.any,.any,.con ak],[bB]⟩,[])]
def yY (ρ:Type):õ ρ:=⟨[],31,0,yZ,fun(p:Val (tyL yZ.cs)) (v:Int) b a=>let A:=p.2.2.2.2;oI p.1 p.2.1 p.2.2.1 p.2.2.2.1 A.1 A.2.1 A.2.2.1 A.2.2.2.1 A.2.2.2.2.1 A.2.2.2.2.2 v (fun c=>b c) (a 0) (a 1)⟩
def Hg (ρ:Type):Env ρ:=Ø [(34,Gc),(36,xz),(37,lH),(84,NI)] [yY ρ]
def Tt:ú:=⟨[Â,ah],[.bool],fun(x:rn)=>wQ x.1 x.2⟩
def OT:Æ:=Ls 0 [ah,tI,tI,tI,ae,aa,af,ac,aa,aj] [tI] ⟨72,[.any,.con ah,.box 0 0,.any,.any,.con tI,.var tI],[bB]⟩ [(.ret,⟨72,[.any,.con ah,.box 0 0,.any,.var .bool,.con tI],[bB]⟩,[.bool]),(.exit 2,⟨72,[.any,.con ah,.box 0 0,.any,.any,.con tI],[bB]⟩,[])]
def AC (ρ:Type):õ ρ:=⟨[],32,2,OT,fun(p:l7) (v:Int) b a=>kJ p.1 p.2.1 p.2.2.2.2.2.2.2.2.2 v (fun c=>b c) (a 0) (a 1)⟩
def OU:Æ:=Ls 0 [ah,tI,tI,ae,aa,af,ac,aa,aj] [tI] ⟨72,[.any,.con ah,.box 0 0,.any,.any,.var tI],[bB]⟩ [(.ret,⟨72,[.any,.con ah,.box 0 0,.any,.var .bool],[bB]⟩,[.bool]),(.exit 0,⟨72,[.any,.con ah,.box 0 0],[bB]⟩,[])]
def AD (ρ:Type):õ ρ:=⟨[],32,0,OU,fun(p:Val (.pair ah ai)) (v:Int) b a=>kK p.1 p.2.2.2.2.2.2.2.2 v (fun c=>b c) (a 0) (a 1)⟩
def AE (ρ:Type):Env ρ:=Ø [(20,abq)] [AC ρ,AD ρ]
def NJ:ú:=⟨[Ê,ab,tI,tI],[tI],fun(x:Val (.pair Ê (.pair ab Ç)))=>jr x.1 x.2.1 x.2.2.1 x.2.2.2⟩
def We (ρ:Type):Env ρ:=Ø [(78,Jp)] []
def TA:ú:=⟨[Ê,Ö,tI],[Ç],fun(x:Val (.pair Ê (.pair Ö tI)))=>rl x.1 x.2.1 x.2.2⟩
def Zq (ρ:Type):Env ρ:=Ø [(189,EM),(190,Jq),(191,NM),(192,Jr)] []
def Yx:ú:=⟨[Ê,ab],[.bool],fun(x:Val (.pair Ê ab))=>wT x.1 x.2⟩
def D8:Æ:=Ls 0 [ab,aa,tI,tI,ae,aa,af,ac,aa] [tI] ⟨138,[.any,.con ab,.box 0 0,.any,.any,.con aa,.var tI],[bt]⟩ [(.ret,⟨138,[.any,.con ab,.box 0 0,.any,.var .bool,.con aa],[bt]⟩,[.bool]),(.exit 0,⟨138,[.any,.con ab,.box 0 0,.any,.any,.con aa],[bt]⟩,[])]
def D7 (ρ:Type):õ ρ:=⟨[],86,0,D8,fun(p:Val (tyL D8.cs)) (v:Int) b a=>let A:=p.2.2.2.2;uA p.1 p.2.1 p.2.2.1 p.2.2.2.1 A.1 A.2.1 A.2.2.1 A.2.2.2.1 A.2.2.2.2 v (fun c=>b c) (a 0) (a 1)⟩
def Sh:Æ:=Ls 0 [ab,tI,tI,ae,aa,af,ac,aa] [tI] ⟨138,.any::.con ab::.box 0 0::aN 6 [.var tI],[bt]⟩ [(.ret,⟨138,[.any,.con ab,.box 0 0,.any,.var .bool],[bt]⟩,[.bool]),(.exit 2,⟨138,[.any,.con ab,.box 0 0],[bt]⟩,[])]
def D6 (ρ:Type):õ ρ:=⟨[],86,2,Sh,fun(p:Val (.pair ab ao)) (v:Int) b a=>let A:=p.2.2.2.2;uz p.1 p.2.1 p.2.2.1 p.2.2.2.1 A.1 A.2.1 A.2.2.1 A.2.2.2 v (fun c=>b c) (a 0) (a 1)⟩
def Fv (ρ:Type):Env ρ:=Ø [(15,rD),(76,xA),(85,nW),(144,NK),(145,NJ),(146,Ge),(147,TA)] [D7 ρ,D6 ρ]
def Ts:ú:=⟨[Â,ah,ab],[.bool],fun(x:Val (.pair Â (.pair ah ab)))=>wP x.1 x.2.1 x.2.2⟩
def OQ:Æ:=Ls 0 [ab,tI,tI,ae,aa,af,ac,aa] [tI] ⟨35,aN 2 (.con ab::aN 4 [.box 0 0,.var tI]),[bt]⟩ [(.ret,⟨35,[.any,.any,.con ab,.any,.any,.any,.var .bool,.box 0 0],[bt]⟩,[.bool]),(.exit 0,⟨35,aN 2 (.con ab::aN 4 [.box 0 0]),[bt]⟩,[])]
def AB (ρ:Type):õ ρ:=⟨[],33,0,OQ,fun(p:Val (.pair ab ao)) (v:Int) b a=>qy p.1 v (fun c=>b c) (a 0) (a 1)⟩
def KS (ρ:Type):Env ρ:=Ø [(37,lH),(76,xA),(85,nW),(86,Yx)] [AB ρ]
def mH:ú:=⟨[Â,ah,ah,ab],[.bool],fun(x:Val (.pair Â (.pair ah (.pair ah ab))))=>sI x.1 x.2.1 x.2.2.1 x.2.2.2⟩
def p9:Æ:=Ls 0 [ah,ak,tI,tI,ae,aa,af,ac,aa,aj] [tI] ⟨166,aN 4 (.box 0 0::aN 4 (.con ah::aN 6 [.con ak,.var tI])),[bB]⟩ [(.ret,⟨166,aN 4 (.box 0 0::aN 3 (.var .bool::.con ah::aN 6 [.con ak])),[bB]⟩,[.bool]),(.exit 0,⟨166,aN 4 (.box 0 0::aN 4 (.con ah::aN 6 [.con ak])),[bB]⟩,[])]
def p8 (ρ:Type):õ ρ:=⟨[],5,0,p9,fun(p:Val (tyL p9.cs)) (v:Int) b a=>let A:=p.2.2.2.2;Ξ p.1 p.2.1 p.2.2.1 p.2.2.2.1 A.1 A.2.1 A.2.2.1 A.2.2.2.1 A.2.2.2.2.1 A.2.2.2.2.2 v (fun c=>b c) (a 0) (a 1)⟩
def tB:CK JEnt:=[⟨[],5,13,0,⟨166,.any::.any::.var ah::.var ab::.box 0 0::aN 4 [.var ah,.var tI,.any,.var tI],[.cells [.var tI,.var tI,.var ae,.var aa,.var af,.var ac,.var aa,.var aj]]⟩,[ah,ab,ah,tI,tI,tI,tI,ae,aa,af,ac,aa,aj]⟩,⟨[],5,19,0,⟨166,aN 4 (.box 0 0::aN 4 [.var ah,.var tI]),[.cells [.var tI,.var tI,.var ae,.var aa,.var af,.var ac,.var aa,.var aj]]⟩,[ah,tI,tI,tI,ae,aa,af,ac,aa,aj]⟩]
def kz (ρ:Type):Env ρ:=mkEnvJ [(6,Tl),(7,NA),(12,Tu),(13,Yq),(17,qn),(27,Tm),(28,ND),(29,vd),(30,KI),(31,NG),(32,Tt),(33,Ts),(34,Gc),(35,NP),(36,xz),(37,lH)] [p8 ρ] tB
end Go.Proofs.ZzM
end
