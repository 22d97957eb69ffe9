/- lemmas -/
import Derived.Test.YtdmegkgjpgcfgaaGreatAmC
import Derived.Test.YtdmegkgjpgcfgaaGreatAmE
import Derived.KernelRfl
import Derived.Test.YtdmegkgjpgcfgaaGreatMdTA
import Derived.Test.YtdmegkgjpgcfgaaGreatProg
set_option linter.all false
set_option linter.unusedSectionVars false
set_option linter.unusedVariables false
set_option linter.unusedSimpArgs false
noncomputable section
set_option maxRecDepth 100000
namespace Go.Proofs.ZzM
open Go Go.Am
def FO:Nat→Bool
  |114=>true
  |115=>true
  |140=>true
  |170=>true
  |182=>true
  |250=>true
  |251=>true
  |252=>true
  |_=>false
def OI:Nat→Bool
  |184=>true
  |_=>false
def tC:Nat→Bool
  |249=>true
  |_=>false
def agJ:Nat→Bool
  |2=>true
  |89=>true
  |90=>true
  |94=>true
  |95=>true
  |96=>true
  |97=>true
  |99=>true
  |100=>true
  |101=>true
  |107=>true
  |108=>true
  |129=>true
  |130=>true
  |137=>true
  |138=>true
  |144=>true
  |150=>true
  |151=>true
  |152=>true
  |157=>true
  |158=>true
  |159=>true
  |167=>true
  |168=>true
  |169=>true
  |171=>true
  |174=>true
  |175=>true
  |176=>true
  |177=>true
  |178=>true
  |186=>true
  |197=>true
  |198=>true
  |200=>true
  |202=>true
  |207=>true
  |210=>true
  |211=>true
  |213=>true
  |214=>true
  |221=>true
  |222=>true
  |223=>true
  |224=>true
  |225=>true
  |229=>true
  |230=>true
  |232=>true
  |235=>true
  |237=>true
  |238=>true
  |244=>true
  |245=>true
  |246=>true
  |254=>true
  |255=>true
  |256=>true
  |257=>true
  |258=>true
  |260=>true
  |266=>true
  |267=>true
  |275=>true
  |276=>true
  |277=>true
  |278=>true
  |279=>true
  |280=>true
  |282=>true
  |283=>true
  |293=>true
  |294=>true
  |295=>true
  |298=>true
  |299=>true
  |301=>true
  |302=>true
  |304=>true
  |305=>true
  |310=>true
  |311=>true
  |314=>true
  |315=>true
  |317=>true
  |318=>true
  |321=>true
  |322=>true
  |_=>false
def isFz:Nat→Bool
  |74=>true
  |93=>true
  |_=>false
def agK:Nat→Nat→Bool
  |104,2=>true
  |104,3=>true
  |174,25=>true
  |245,0=>true
  |_,_=>false
def aco:List Nat→Nat→Bool
  |_,_=>false
abbrev š {ρ:Type} (E:Env ρ) (f:Nat) (ts rs:List Ty) (x:Val (tyL ts)) (k:Val (tyL rs)→Option ρ):Option ρ:=topK E f (W6 ts x) (fun h v=>Ã (agv rs h v) k)
abbrev Ls (p:Nat) (c v:List Ty) (h:Tpl) (e:List (Exit×Tpl×List Ty)):Ç:=⟨p,c,v,h,e,false⟩
def ë {ρ:Type} (pt:List (Nat×ä)) (tab:List (á ρ)):Env ρ :=
  {P:=Tryz.prog,eat:=agK,clone:=FO,sort:=OI,compact:=tC,inl:=agJ,fz:=isFz,stop:=aco,pure:=WY pt,loops:=je tab}
def Yi {ρ:Type} (pt:List (Nat×ä)) (tab:List (á ρ)) (xt:List (Nat×Y8)):Env ρ:={ë pt tab with ext:=extT xt}
def mkEnvJ {ρ:Type} (pt:List (Nat×ä)) (tab:List (á ρ)) (js:List JEnt):Env ρ :=
  {P:=Tryz.prog,eat:=agK,clone:=FO,sort:=OI,compact:=tC,inl:=agJ,fz:=isFz,stop:=aco,pure:=WY pt,loops:=je tab,joins:=Rb js}
def mkEnvU {ρ:Type} (pt:List (Nat×ä)) (tab:List (á ρ)) (us:List afx):Env ρ :=
  {P:=Tryz.prog,eat:=agK,clone:=FO,sort:=OI,compact:=tC,inl:=agJ,fz:=isFz,stop:=aco,pure:=WY pt,loops:=Yk (ë pt tab) us}
abbrev bo:jA:=.cells [.con aa]
abbrev bp:jA:=.cells [.con tI,.con tI,.con af,.con ab,.con ah,.con ac,.con ab]
abbrev bq:jA:=.cells [.con tI,.con tI,.con tI,.con tI,.con tI,.con tI,.con tI,.con tI]
abbrev br:jA:=.cells [.con tI,.con tI,.con tI,.con tI]
abbrev bt:jA:=.cells [.con tI]
abbrev bu:jA:=.cells [.con tI,.con tI,.con aa,.con aa,.con tI,.con tI,.con tI,.con tI]
abbrev bv:jA:=.cells [.con tI,.con tI,.con af,.con ab,.con ah,.con ac,.con ab,.con ai]
abbrev bw:jA:=.cells [.con tI,.con aa]
abbrev bz:jA:=.cells [.omp 3]
abbrev bB:jA:=.cells [.con tI,.con tI]
abbrev bC:jA:=.cells [.con tI,.con tI,.con af,.con ab,.con ah,.con ac,.con ab,.con ab,.con tI,.own 3,.own 4]
abbrev bD:jA:=.cells [.con tI,.con tI,.con af,.con ab,.con ah,.con ac,.con ab,.con ab,.con tI,.own 2,.own 3]
abbrev bE:jA:=.cells [.con tI,.con tI,.nils,.nils,.nils,.nils,.nils]
abbrev bG:jA:=.cells [.con tI,.con tI,.own 3,.own 4,.nils,.nils,.nils]
abbrev bH:jA:=.cells [.con tI,.con tI,.own 3,.own 4,.own 5,.nils,.nils]
abbrev bI:jA:=.cells [.con tI,.con tI,.own 3,.own 4,.own 5,.own 6,.nils]
abbrev bJ:jA:=.cells [.con tI,.con tI,.own 2,.own 3,.own 4,.own 5,.own 6]
abbrev bK:jA:=.cells [.con tI,.con ak]
abbrev bL:jA:=.cells [.own 6]
abbrev bM:jA:=.cells [.var tI,.var tI,.var af,.var ab,.var ah,.var ac,.var ab,.var ai]
abbrev bN:jA:=.cells [.con ai]
abbrev bO:jA:=.cells [.own 4]
abbrev bP:jA:=.cells [.fn 90 [(1,0)]]
abbrev bQ:jA:=.cells [.con tI,.con tI,.nils,.nils,.nils,.nils,.nils,.nils]
abbrev bR:jA:=.cells [.fn 167 [(1,0)]]
abbrev bS:jA:=.cells [.fn 97 [(0,0),(1,0)]]
abbrev bT:jA:=.cells [.fn 97 [(3,0),(0,0)]]
abbrev bU:jA:=.cells [.con tI,.con tI,.own 9,.own 10,.own 11,.con ac,.own 12]
abbrev bV:jA:=.cells [.con tI,.con tI,.con tI]
abbrev bW:jA:=.cells [.con tI,.con tI,.own 9,.own 10,.own 11,.own 8,.own 12]
abbrev bX:jA:=.cells [.con tI,.con tI,.con af,.con ab,.con ah,.con ac,.con ab,.own 3]
abbrev bY:List jA:=[.rowv tI]
abbrev bZ:List jA:=[bp,bu,.rowc tI]
abbrev b7:List jA:=[bp,bw,bz,.mapc tI tI]
abbrev b8:List jA:=[bp,bD,.rowv œ,.rowv Ä]
abbrev b9:List jA:=[bE,bp,bH,.rowc Õ,.rowc Ä,.rowv η]
abbrev ca:List jA:=[bE,bp,bI,.rowc Õ,.rowc Ä,.rowc η,.rowv ã]
abbrev cd:List jA:=[bE,bJ,.rowc Õ,.rowc Ä,.rowc η,.rowc ã,.rowv Ä]
abbrev ce:List jA:=[bK,.rowc tI,bK,bL,.rowv .bool,.rowc tI,.rowv tI]
abbrev cf:List jA:=[bK,.rowv tI,bK,bL,.rowv .bool,.rowc tI,.rowv tI]
abbrev cg:List jA:=[bK,.rowv tI,bK,bL,.rowv .bool,.rowv tI,.rowv tI]
abbrev ci:List jA:=[.rowv aj,bv]
abbrev cj:List jA:=[.rowc aj,bv]
abbrev cm:List jA:=[.rowv aj,bM]
abbrev cn:List jA:=[bv,bt,bv,bP,bQ,.rowc ã]
abbrev cp:List jA:=[bv,bo,bQ,bv,bR,bQ,.rowc ã]
abbrev cq:List jA:=[bo,bT,.rowc tI,bv]
abbrev cr:List jA:=[bo,bT,.rowv tI,bv]
abbrev cu:List jA:=[bp,bB,bE,bp,bE,.dead,bU,bE,.rowv ã,.rowc Õ,.rowc Ä,.rowc η,.rowc Ä]
abbrev cw:List jA:=[.rowc aa,bK,.dead,.dead,.rowv tI]
abbrev cz:List jA:=[bK,.rowc aj,bV,bK,.rowv tI]
abbrev cA:List jA:=[bp,bo,bE,bp,bE,.dead,bU,bE,.rowv ã,.rowc Õ,.rowc Ä,.rowc η,.rowc Ä]
abbrev cB:List jA:=[bp,bo,bE,bp,bE,bW,bW,bW,.rowc ã,.rowc Õ,.rowc Ä,.rowc η,.rowc Ä]
abbrev cD:List jA:=[bp,bo,bE,bp,bE,bW,bW,bW,.rowv ã,.rowc Õ,.rowc Ä,.rowc η,.rowc Ä]
def iI:ä:=⟨[aj],[aa],fun(x:Val aj)=>Ħ x⟩
def kT:Ç:=Ls 0 [aj,aj,tI] [tI,tI] ⟨36,.con aj::aN 2 (.var tI::aN 5 [.con aj,.con tI,.var tI]),[]⟩ [(.exit 0,⟨36,.con aj::aN 2 (.var tI::aN 5 [.con aj,.con tI]),[]⟩,[tI])]
def kS (ρ:Type):á ρ:=⟨[],93,0,kT,fun(p:Val (tyL kT.cs)) (v:Val Ä) a b=>Η p.2.1 p.2.2 v.1 v.2 (fun c d=>a (c,d)) (b 0)⟩
def uE:Ç:=Ls 0 [aj,tI] [tI,aa] ⟨36,aN 6 (.own 0::aN 18 [.con aj,.con tI,.var tI]),bY⟩ [(.exit 2,⟨36,aN 6 (.own 0::aN 18 [.con aj,.con tI]),bY⟩,[aa])]
def kR (ρ:Type):á ρ:=⟨[],93,2,uE,fun(p:Val (.pair aj tI)) (v:Val Ğ) a b=>ĝ p.1 p.2 v.1 v.2 (fun c d=>a (c,d)) (b 0)⟩
def xp:List (Nat×ä):=[]
def vX (ρ:Type):List (á ρ):=[kS ρ,kR ρ]
def δ (ρ:Type):Env ρ:=ë xp (vX ρ)
def KS:af7:=⟨272,aa,aa,yF⟩
def ξ:Tpl:=⟨37,.any::.box 1 0::.box 2 0::.any::.box 3 0::aN 6 [.con aa,.con tI,.con tI],[.acc aa,.cells [.con aa],.cells [.yld],.cells [.con tI]]⟩
def jc (al:Val aj) (rec:Val aa→Option ((Val aj))) (ρ:Type):Et ρ:=⟨[],272,2,4,[aa,tI,tI,aa,tI],[aj],ξ,⟨272,aa,aa,rec⟩,fun(p:Val aS) (v:Val aj) y a=>pd al rec p.2.2.2.2 v y (fun b=>a b)⟩
def ŭ:Ç:=Ls 2 [aa,tI,aa] [tI,aj] ⟨37,.any::.box 1 0::.box 2 0::aN 8 [.con aa,.con tI,.var tI],[.acc aa,bo,.cells [.yld]]⟩ [(.exit 0,⟨37,.any::.box 1 0::.box 2 0::aN 8 [.con aa,.con tI],[.acc aa,bo,.cells [.yld]]⟩,[aj])]
def l5 (al:Val aj) (rec:Val aa→Option ((Val aj))) (ρ:Type):á ρ:=⟨[],272,0,ŭ,fun(p:Val aU) (v:Val bf) a b=>pe al rec p.1 p.2.1 p.2.2 v.1 v.2 (fun c d=>a (c,d)) (b 0)⟩
def wW (al:Val aj) (rec:Val aa→Option ((Val aj))) (ρ:Type):List (Et ρ):=[jc al rec ρ]
def Jn:List (Nat×ä):=[(93,iI)]
def vH (al:Val aj) (rec:Val aa→Option ((Val aj))) (ρ:Type):List (á ρ):=[l5 al rec ρ]
def þ (al:Val aj) (rec:Val aa→Option ((Val aj))) (ρ:Type):Env ρ:={ë Jn (vH al rec ρ) with ranges:=Δ (wW al rec ρ),yld:=some ⟨aa,al⟩}
def pF:af7:=⟨231,ai,aj,mn⟩
def Ų:Tpl:=⟨27,.any::.box 1 0::.box 2 0::.box 3 0::aN 11 [.con aa],[.acc aj,.cells [.con ai],.cells [.yld],.cells [.con aa]]⟩
def ij (al:Val ag) (rec:Val ai→Option ((Val ag))) (ρ:Type):Et ρ:=⟨[],231,2,4,[aa,ai,aa],[ag],Ų,⟨231,ai,aj,rec⟩,fun(p:Val bh) (v:Val ag) y a=>mb al rec p.2.2 v y (fun b=>a b)⟩
def ų:Tpl:=⟨27,[.any,.box 1 0,.box 2 0],[.acc aj,.cells [.con ai],.cells [.yld]]⟩
def ik (al:Val ag) (rec:Val ai→Option ((Val ag))) (ρ:Type):Et ρ:=⟨[],231,0,3,[ai],[ag],ų,KS,fun(p:Val ai) (v:Val ag) y a=>mc al rec p v y (fun b=>a b)⟩
def sn (al:Val ag) (rec:Val ai→Option ((Val ag))) (ρ:Type):List (Et ρ):=[ij al rec ρ,ik al rec ρ]
def EW:List (Nat×ä):=[]
def qE (al:Val ag) (rec:Val ai→Option ((Val ag))) (ρ:Type):List (á ρ):=[]
def ê (al:Val ag) (rec:Val ai→Option ((Val ag))) (ρ:Type):Env ρ:={ë EW (qE al rec ρ) with ranges:=Δ (sn al rec ρ),yld:=some ⟨aj,al⟩}
def DK:af7:=⟨268,aa,tI,yE⟩
def ē:Ç:=Ls 2 [aa,tI,aa] [tI,aa] ⟨16,.yld::aN 4 [.con aa,.con tI,.var tI],[.acc tI,bo]⟩ [(.exit 0,⟨16,.yld::aN 4 [.con aa,.con tI],[.acc tI,bo]⟩,[aa])]
def Μ (al:Val aa) (rec:Val aa→Option ((Val aa))) (ρ:Type):á ρ:=⟨[],268,0,ē,fun(p:Val aU) (v:Val Ğ) a b=>il al rec p.1 p.2.1 v.1 v.2 (fun c d=>a (c,d)) (b 0)⟩
def uB:List (Nat×ä):=[]
def sS (al:Val aa) (rec:Val aa→Option ((Val aa))) (ρ:Type):List (á ρ):=[Μ al rec ρ]
def ć (al:Val aa) (rec:Val aa→Option ((Val aa))) (ρ:Type):Env ρ:={ë uB (sS al rec ρ) with yld:=some ⟨tI,al⟩}
def lW:ä:=⟨[aa,tI],[tI],fun(x:Val ax)=>gT x.1 x.2⟩
def vW:Ç:=Ls 0 [aa,tI,tI] [tI] ⟨19,.con aa::.con tI::aN 5 [.con tI,.var tI],[]⟩ [(.ret,⟨19,[.con aa,.con tI,.any,.any,.var tI,.any,.any,.con tI],[]⟩,[tI]),(.exit 0,⟨19,.con aa::.con tI::aN 5 [.con tI],[]⟩,[])]
def lM (ρ:Type):á ρ:=⟨[],173,0,vW,fun(p:Val (.pair aa Ä)) (v:Val tI) b a=>Ω p.1 p.2.1 p.2.2 v (fun c=>b c) (a 0) (a 1)⟩
def zo:List (Nat×ä):=[]
def xn (ρ:Type):List (á ρ):=[lM ρ]
def j8 (ρ:Type):Env ρ:=ë zo (xn ρ)
def Ń:ä:=⟨[aa,tI],[.bool],fun(x:Val ax)=>Û x.1 x.2⟩
def uD:List (Nat×ä):=[(173,lW)]
def sX (ρ:Type):List (á ρ):=[]
def lN (ρ:Type):Env ρ:=ë uD (sX ρ)
def Pw:ä:=⟨[È,Õ],[aa],fun(x:Val (.pair È Õ))=>oD x.1 x.2⟩
def QS:Ç:=Ls 0 [ac,tI,tI,tI,af,ab,ah,ac,ab,tI,tI,tI,tI,tI,tI,tI,tI] [tI,aa] ⟨59,aN 2 (.box 0 0::.box 1 0::.any::.own 2::aN 8 [.con ac,.con tI,.var tI]),[bp,bq,.rowv tI]⟩ [(.exit 0,⟨59,aN 2 (.box 0 0::.box 1 0::.any::.own 2::aN 8 [.con ac,.con tI]),[bp,bq,.rowv tI]⟩,[aa])]
def DB (ρ:Type):á ρ:=⟨[],201,0,QS,fun(p:Val (.pair ac aI)) (v:Val Ğ) a b=>uY p.1 p.2.1 p.2.2.2.2.2.2.2.2.2.1 v.1 v.2 (fun c d=>a (c,d)) (b 0)⟩
def DA:Ç:=Ls 0 [ab,tI,tI,tI,tI,tI,tI,tI,tI,tI] [tI,aa] ⟨59,aN 3 (.box 0 0::.any::.own 1::aN 32 [.con ab,.con tI,.var tI]),[bq,.rowv tI]⟩ [(.exit 2,⟨59,aN 3 (.box 0 0::.any::.own 1::aN 32 [.con ab,.con tI]),[bq,.rowv tI]⟩,[aa])]
def Dz (ρ:Type):á ρ:=⟨[],201,2,DA,fun(p:Val (tyL DA.cs)) (v:Val Ğ) a b=>uX p.1 p.2.1 p.2.2.1 v.1 v.2 (fun c d=>a (c,d)) (b 0)⟩
def WK:List (Nat×ä):=[(92,Ń)]
def Ug (ρ:Type):List (á ρ):=[DB ρ,Dz ρ]
def yB (ρ:Type):Env ρ:=ë WK (Ug ρ)
def Cg:ä:=⟨[È],[ab],fun(x:Val È)=>pK x⟩
def Ar:Ç:=Ls 0 [af,tI,tI,aa,tI,tI,tI,af,ab,ah,ac,ab,tI,tI,tI,tI,tI,tI,tI,tI] [tI,ab] ⟨33,.any::.box 0 0::.any::.own 1::.any::.box 2 0::aN 3 (.con af::.con tI::.con tI::aN 5 [.con aa,.con tI,.var tI]),[bp,.rowv Ä,bq]⟩ [(.exit 2,⟨33,.any::.box 0 0::.any::.own 1::.any::.box 2 0::aN 3 (.con af::.con tI::.con tI::aN 5 [.con aa,.con tI]),[bp,.rowv Ä,bq]⟩,[ab])]
def Aq (ρ:Type):á ρ:=⟨[],136,2,Ar,fun(p:Val (tyL Ar.cs)) (v:Val ba) a b=>qU p.2.2.2.1 p.2.2.2.2.1 p.2.2.2.2.2.2.2.2.2.2.2.2.1 v.1 v.2 (fun c d=>a (c,d)) (b 0)⟩
def Au:Ç:=Ls 0 [af,tI,tI,tI,af,ab,ah,ac,ab] [tI,ab] ⟨33,.any::.box 0 0::.any::.own 1::aN 5 [.con af,.con tI,.var tI],[bp,.rowv Ä]⟩ [(.exit 0,⟨33,.any::.box 0 0::.any::.own 1::aN 5 [.con af,.con tI],[bp,.rowv Ä]⟩,[ab])]
def As (ρ:Type):á ρ:=⟨[],136,0,Au,fun(p:Val (tyL Au.cs)) (v:Val ba) a b=>let A:=p.2.2.2.2;qV p.1 p.2.1 p.2.2.1 p.2.2.2.1 A.1 A.2.1 A.2.2.1 A.2.2.2.1 A.2.2.2.2 v.1 v.2 (fun c d=>a (c,d)) (b 0)⟩
def T7:List (Nat×ä):=[(201,Pw)]
def QF (ρ:Type):List (á ρ):=[Aq ρ,As ρ]
def uQ (ρ:Type):Env ρ:=ë T7 (QF ρ)
def si:ä:=⟨[Ä,tI,tI],[.bool],fun(x:Val Ĕ)=>Γ x.1 x.2.1 x.2.2⟩
def QO:List (Nat×ä):=[]
def No (ρ:Type):List (á ρ):=[]
def GJ (ρ:Type):Env ρ:=ë QO (No ρ)
def ke:ä:=⟨[tI,tI,tI],[.bool],fun(x:Val œ)=>Ę x.1 x.2.1 x.2.2⟩
def QD:List (Nat×ä):=[]
def M8 (ρ:Type):List (á ρ):=[]
def GI (ρ:Type):Env ρ:=ë QD (M8 ρ)
def wG:ä:=⟨[tI],[.bool],fun(x:Val tI)=>ln x⟩
def Ue:List (Nat×ä):=[(212,ke)]
def QM (ρ:Type):List (á ρ):=[]
def Kz (ρ:Type):Env ρ:=ë Ue (QM ρ)
def Pv:ä:=⟨[tI],[(.int .u64)],fun(x:Val tI)=>rr x⟩
def Wq:List (Nat×ä):=[]
def TT (ρ:Type):List (á ρ):=[]
def Ox (ρ:Type):Env ρ:=ë Wq (TT ρ)
def VN:ä:=⟨[(.int .u64),(.int .u64)],[(.int .u64)],fun(x:Val bi)=>Lj x.1 x.2⟩
def TV:Ç:=Ls 0 [] [(.int .u64),(.int .u64)] ⟨12,[.var (.int .u64),.var (.int .u64)],[]⟩ [(.exit 0,⟨12,[.var (.int .u64)],[]⟩,[(.int .u64)])]
def GF (ρ:Type):á ρ:=⟨[],292,0,TV,fun(p:Unit) (v:Val bi) a b=>yy v.1 v.2 (fun c d=>a (c,d)) (b 0)⟩
def ZQ:List (Nat×ä):=[]
def Wr (ρ:Type):List (á ρ):=[GF ρ]
def Ke (ρ:Type):Env ρ:=ë ZQ (Wr ρ)
def Cd:ä:=⟨[Ä],[.bool],fun(x:Val Ä)=>tK x⟩
def TY:List (Nat×ä):=[(291,Pv),(292,VN)]
def Qx (ρ:Type):List (á ρ):=[]
def Ki (ρ:Type):Env ρ:=ë TY (Qx ρ)
def I0:ä:=⟨[Õ],[.bool],fun(x:Val Õ)=>vq x⟩
def Nn:List (Nat×ä):=[(141,si),(205,wG),(212,ke),(253,Cd)]
def Kx (ρ:Type):List (á ρ):=[]
def Dy (ρ:Type):Env ρ:=ë Nn (Kx ρ)
def wH:ä:=⟨[È],[tI],fun(x:Val È)=>Ÿ x⟩
def od:Ç:=Ls 0 [af,tI,tI,tI,af,ab,ah,ac,ab] [tI] ⟨31,.any::.box 0 0::aN 4 [.con af,.con tI,.var tI],[bp]⟩ [(.ret,⟨31,[.any,.box 0 0,.var tI,.any,.any,.any,.con af,.con tI],[bp]⟩,[tI]),(.exit 0,⟨31,.any::.box 0 0::aN 4 [.con af,.con tI],[bp]⟩,[])]
def oc (ρ:Type):á ρ:=⟨[],142,0,od,fun(p:Val (tyL od.cs)) (v:Val tI) b a=>iL p.1 p.2.1 p.2.2.2.2.1 v (fun c=>b c) (a 0) (a 1)⟩
def DC:List (Nat×ä):=[(203,I0)]
def Bx (ρ:Type):List (á ρ):=[oc ρ]
def mi (ρ:Type):Env ρ:=ë DC (Bx ρ)
def ue:ä:=⟨[È],[am],fun(x:Val È)=>Ľ x⟩
def HI:Ç:=Ls 0 [af,tI] [tI,am] ⟨20,aN 3 (.omp 0::aN 4 [.con af,.con tI,.var tI]),[.mapv tI Õ]⟩ [(.exit 0,⟨20,aN 3 (.omp 0::aN 4 [.con af,.con tI]),[.mapv tI Õ]⟩,[am])]
def vM (ρ:Type):á ρ:=⟨[],143,0,HI,fun(p:Val (.pair af tI)) (v:Val (.pair tI am)) a b=>mH p.1 p.2 v.1 v.2 (fun c d=>a (c,d)) (b 0)⟩
def Na:List (Nat×ä):=[]
def Kn (ρ:Type):List (á ρ):=[vM ρ]
def uN (ρ:Type):Env ρ:=ë Na (Kn ρ)
def mD:ä:=⟨[am,tI,tI],[tI],fun(x:Val (.pair am Ä))=>iC x.1 x.2.1 x.2.2⟩
def Fu:List (Nat×ä):=[]
def Dh (ρ:Type):List (á ρ):=[]
def vN (ρ:Type):Env ρ:=ë Fu (Dh ρ)
def VP:ä:=⟨[tI,tI,(.ptr am)],[tI],fun(x:Val (.pair tI (.pair tI (.ptr am))))=>ľ x.1 x.2.1 x.2.2⟩
def Nb:List (Nat×ä):=[(205,wG),(206,mD)]
def Kq (ρ:Type):List (á ρ):=[]
def Dj (ρ:Type):Env ρ:=ë Nb (Kq ρ)
def Px:ä:=⟨[È,am,tI],[tI],fun(x:Val bm)=>Κ x.1 x.2.1 x.2.2⟩
def qZ:Ç:=Ls 2 [ah,tI,tI,tI,af,ab,ah,ac,ab,tI,tI,tI,tI] [tI] ⟨19,.con ah::.fn 254 [(1,0)]::aN 5 [.con tI,.var tI],[bp,br]⟩ [(.ret,⟨19,[.con ah,.fn 254 [(1,0)],.any,.any,.var tI,.any,.any,.con tI],[bp,br]⟩,[tI]),(.exit 0,⟨19,.con ah::.fn 254 [(1,0)]::aN 5 [.con tI],[bp,br]⟩,[])]
def qY (ρ:Type):á ρ:=⟨[9,5,1,2],293,0,qZ,fun(p:Val (tyL qZ.cs)) (v:Val tI) b a=>let A:=p.2.2.2.2.2.2.2.2.2;jX p.1 p.2.1 A.1 A.2.1 A.2.2.1 v (fun c=>b c) (a 0) (a 1)⟩
def qX:Ç:=Ls 2 [ab,tI,tI,tI,af,ab,ah,ac,ab,tI,tI,tI,tI] [tI] ⟨19,.con ab::.fn 255 [(1,0)]::aN 5 [.con tI,.var tI],[bp,br]⟩ [(.ret,⟨19,[.con ab,.fn 255 [(1,0)],.any,.any,.var tI,.any,.any,.con tI],[bp,br]⟩,[tI]),(.exit 0,⟨19,.con ab::.fn 255 [(1,0)]::aN 5 [.con tI],[bp,br]⟩,[])]
def qW (ρ:Type):á ρ:=⟨[9,10,1,2],294,0,qX,fun(p:Val (tyL qX.cs)) (v:Val tI) b a=>let A:=p.2.2.2.2.2.2.2.2.2;Β p.1 p.2.1 A.1 A.2.1 A.2.2.1 v (fun c=>b c) (a 0) (a 1)⟩
def HO:List (Nat×ä):=[(141,si),(206,mD),(212,ke)]
def FC (ρ:Type):List (á ρ):=[qY ρ,qW ρ]
def kZ (ρ:Type):Env ρ:=ë HO (FC ρ)
def Ch:ä:=⟨[aa,aa],[aa],fun(x:Val (.pair aa aa))=>Ι x.1 x.2⟩
def Dx:Ç:=Ls 2 [tI,aa,aa] [tI] ⟨19,.own 1::.fn 214 [(0,0)]::aN 5 [.con tI,.var tI],[bo,.rowc tI]⟩ [(.ret,⟨19,[.own 1,.fn 214 [(0,0)],.any,.any,.var tI,.any,.any,.con tI],[bo,.rowc tI]⟩,[tI]),(.exit 0,⟨19,.own 1::.fn 214 [(0,0)]::aN 5 [.con tI],[bo,.rowc tI]⟩,[])]
def Dw (ρ:Type):á ρ:=⟨[1,3,1,2],260,0,Dx,fun(p:Val (tyL Dx.cs)) (v:Val tI) b a=>uW p.1 p.2.1 p.2.2 v (fun c=>b c) (a 0) (a 1)⟩
def QJ:Ç:=Ls 2 [aa] [tI,tI,aa] ⟨42,[.own 1,.fn 214 [(0,0)],.any,.any,.any,.var tI,.var tI],[bo,.rowv tI]⟩ [(.exit 0,⟨42,[.own 1,.fn 214 [(0,0)],.any,.any,.any,.var tI],[bo,.rowv tI]⟩,[tI,aa])]
def Dv (ρ:Type):á ρ:=⟨[1,3],213,0,QJ,fun(p:Val aa) (v:Val aG) a b=>ka p v.1 v.2.1 v.2.2 (fun c d e=>a (c,d,e)) (b 0)⟩
def WJ:List (Nat×ä):=[(92,Ń)]
def Uc (ρ:Type):List (á ρ):=[Dw ρ,Dv ρ]
def yA (ρ:Type):Env ρ:=ë WJ (Uc ρ)
def EJ:ä:=⟨[aa],[.bool],fun(x:Val aa)=>mr x⟩
def Kw:Ç:=Ls 0 [aa,aa,tI] [tI] ⟨32,.con aa::aN 4 [.con aa,.con tI,.var tI],[]⟩ [(.ret,⟨32,[.con aa,.any,.var .bool,.any,.any,.con aa,.con tI],[]⟩,[.bool]),(.exit 0,⟨32,.con aa::aN 4 [.con aa,.con tI],[]⟩,[])]
def xJ (ρ:Type):á ρ:=⟨[],172,0,Kw,fun(p:Val (.pair aa ax)) (v:Val tI) b a=>ox p.1 p.2.1 p.2.2 v (fun c=>b c) (a 0) (a 1)⟩
def QL:List (Nat×ä):=[(212,ke)]
def Nk (ρ:Type):List (á ρ):=[xJ ρ]
def xL (ρ:Type):Env ρ:=ë QL (Nk ρ)
def Py:ä:=⟨[È,tI,tI],[η,.bool],fun(x:Val aK)=>vr x.1 x.2.1 x.2.2⟩
def DE:Ç:=Ls 4 [ah,tI,tI,tI,af,ab,ah,ac,ab,tI,tI,tI,tI,tI,tI] [tI] ⟨19,.con ah::.fn 295 [(1,0),(2,0)]::aN 5 [.con tI,.var tI],[bp,bt,bt,br]⟩ [(.ret,⟨19,[.con ah,.fn 295 [(1,0),(2,0)],.any,.any,.var tI,.any,.any,.con tI],[bp,bt,bt,br]⟩,[tI]),(.exit 0,⟨19,.con ah::.fn 295 [(1,0),(2,0)]::aN 5 [.con tI],[bp,bt,bt,br]⟩,[])]
def DD (ρ:Type):á ρ:=⟨[1,3],293,0,DE,fun(p:Val (tyL DE.cs)) (v:Val tI) b a=>vc p.1 p.2.1 p.2.2.2.2.2.2.2.2.2.1 p.2.2.2.2.2.2.2.2.2.2.1 v (fun c=>b c) (a 0) (a 1)⟩
def WL:List (Nat×ä):=[(212,ke)]
def Ui (ρ:Type):List (á ρ):=[DD ρ]
def FE (ρ:Type):Env ρ:=ë WL (Ui ρ)
def G6:ä:=⟨[È,am,tI],[tI],fun(x:Val bm)=>ň x.1 x.2.1 x.2.2⟩
def ny:Ç:=Ls 2 [ac,tI,tI,tI,af,ab,ah,ac,ab,tI,tI,aa,aa,tI,tI,tI,tI] [tI] ⟨19,.con ac::.fn 258 [(1,0)]::aN 5 [.con tI,.var tI],[bp,bu]⟩ [(.ret,⟨19,[.con ac,.fn 258 [(1,0)],.any,.any,.var tI,.any,.any,.con tI],[bp,bu]⟩,[tI]),(.exit 0,⟨19,.con ac::.fn 258 [(1,0)]::aN 5 [.con tI],[bp,bu]⟩,[])]
def nw (ρ:Type):á ρ:=⟨[4,5,1,2],175,0,ny,fun(p:Val (tyL ny.cs)) (v:Val tI) b a=>iq p.1 p.2.1 p.2.2.2.2.2.2.2.2.2.1 v (fun c=>b c) (a 0) (a 1)⟩
def nr:Ç:=Ls 0 [am,aa,tI,tI,tI,aa,tI,tI,tI,af,ab,ah,ac,ab,tI,tI,aa,aa,tI,tI,tI,tI,aa] [tI] ⟨140,.any::.con am::.any::.box 0 0::aN 3 (.box 1 0::.con aa::.any::.con tI::aN 65 [.own 2,.con tI,.con tI,.any,.any,.any,.con aa,.con tI,.var tI]),bZ⟩ [(.ret,⟨140,.any::.con am::.any::.box 0 0::aN 2 (.var tI::.box 1 0::.con aa::.any::.con tI::aN 65 [.own 2,.con tI,.con tI,.any,.any,.any,.con aa,.con tI]),bZ⟩,[tI]),(.exit 2,⟨140,.any::.con am::.any::.box 0 0::aN 3 (.box 1 0::.con aa::.any::.con tI::aN 65 [.own 2,.con tI,.con tI,.any,.any,.any,.con aa,.con tI]),bZ⟩,[])]
def nq (ρ:Type):á ρ:=⟨[],209,2,nr,fun(p:Val (tyL nr.cs)) (v:Val tI) b a=>let A:=p.2.2.2.2.2;ip p.1 p.2.2.1 A.1 A.2.1 A.2.2.2.2.2.2.2.2.2.2.1 v (fun c=>b c) (a 0) (a 1)⟩
def nu:Ç:=Ls 0 [am,aa,tI,tI,tI,af,ab,ah,ac,ab,tI,tI,aa,aa,tI,tI,tI,tI,aa] [tI] ⟨140,.any::.con am::.any::.box 0 0::aN 3 (.box 1 0::.con aa::aN 67 [.own 2,.con tI,.var tI]),bZ⟩ [(.ret,⟨140,.any::.con am::.any::.box 0 0::aN 2 (.var tI::.box 1 0::.con aa::aN 67 [.own 2,.con tI]),bZ⟩,[tI]),(.exit 0,⟨140,.any::.con am::.any::.box 0 0::aN 3 (.box 1 0::.con aa::aN 67 [.own 2,.con tI]),bZ⟩,[])]
def nt (ρ:Type):á ρ:=⟨[],209,0,nu,fun(p:Val (tyL nu.cs)) (v:Val tI) b a=>Ŏ p.1 p.2.1 p.2.2.1 p.2.2.2.2.2.2.2.2.2.2.2.1 p.2.2.2.2.2.2.2.2.2.2.2.2.2.2.2.2.2.2 v (fun c=>b c) (a 0) (a 1)⟩
def np:Ç:=Ls 0 [aa,tI,tI,tI,af,ab,ah,ac,ab,tI,tI,aa,aa,tI,tI,tI,tI] [tI] ⟨140,aN 3 (.box 0 0::aN 3 (.box 1 0::aN 90 [.con aa,.con tI,.var tI])),[bp,bu]⟩ [(.ret,⟨140,aN 3 (.box 0 0::aN 2 (.var tI::.box 1 0::aN 90 [.con aa,.con tI])),[bp,bu]⟩,[tI]),(.exit 4,⟨140,aN 3 (.box 0 0::aN 3 (.box 1 0::aN 90 [.con aa,.con tI])),[bp,bu]⟩,[])]
def nl (ρ:Type):á ρ:=⟨[],209,4,np,fun(p:Val (tyL np.cs)) (v:Val tI) b a=>let A:=p.2.2.2.2;ō p.1 p.2.1 p.2.2.1 p.2.2.2.1 A.1 A.2.1 A.2.2.1 A.2.2.2.1 A.2.2.2.2.1 A.2.2.2.2.2.2.1 v (fun c=>b c) (a 0) (a 1)⟩
def Bz:List (Nat×ä):=[(93,iI),(141,si),(148,Ch),(172,EJ),(205,wG),(206,mD),(212,ke),(259,Py)]
def zu (ρ:Type):List (á ρ):=[nw ρ,nq ρ,nt ρ,nl ρ]
def Ś (ρ:Type):Env ρ:=ë Bz (zu ρ)
def o8:ä:=⟨[È],[tI],fun(x:Val È)=>ī x⟩
def SP:ä:=⟨[aa],[(.pair tI (.pair tI œ))],fun(x:Val aa)=>DZ x⟩
def NZ:ä:=⟨[Â],[.bool],fun(x:Val Â)=>yI x⟩
def wP:Ç:=Ls 0 [tI,tI,af,ab,ah,ac,ab,ai,tI,tI,af,ab,ah,ac,ab] [tI] ⟨90,[.any,.box 0 0,.any,.box 1 0,.var tI],[bv,bp]⟩ [(.ret,⟨90,[.any,.box 0 0,.var .bool,.box 1 0],[bv,bp]⟩,[.bool]),(.exit 0,⟨90,[.any,.box 0 0,.any,.box 1 0],[bv,bp]⟩,[])]
def wO (ρ:Type):á ρ:=⟨[],15,0,wP,fun(p:Val (tyL wP.cs)) (v:Val tI) b a=>oi p.2.2.2.2.2.2.2.2.2.2.2.2.2.1 v (fun c=>b c) (a 0) (a 1)⟩
def wN:Ç:=Ls 0 [tI,tI,af,ab,ah,ac,ab,ai,tI,tI,af,ab,ah,ac,ab] [tI] ⟨90,[.any,.box 0 0,.any,.box 1 0,.any,.var tI],[bv,bp]⟩ [(.ret,⟨90,[.any,.box 0 0,.var .bool,.box 1 0],[bv,bp]⟩,[.bool]),(.exit 2,⟨90,[.any,.box 0 0,.any,.box 1 0],[bv,bp]⟩,[])]
def wM (ρ:Type):á ρ:=⟨[],15,2,wN,fun(p:Val (tyL wN.cs)) (v:Val tI) b a=>kI p.2.2.2.2.2.2.2.1 v (fun c=>b c) (a 0) (a 1)⟩
def PJ:List (Nat×ä):=[]
def Me (ρ:Type):List (á ρ):=[wO ρ,wM ρ]
def qp (ρ:Type):Env ρ:=ë PJ (Me ρ)
def S8:ä:=⟨[È,tI,aa],[tI],fun(x:Val (.pair È Ğ))=>Ea x.1 x.2.1 x.2.2⟩
def Ay:Ç:=Ls 1 [aa,tI,tI,tI,af,ab,ah,ac,ab] [tI] ⟨19,.con aa::.fn 299 []::aN 5 [.con tI,.var tI],[bp]⟩ [(.ret,⟨19,[.con aa,.fn 299 [],.any,.any,.var tI,.any,.any,.con tI],[bp]⟩,[tI]),(.exit 0,⟨19,.con aa::.fn 299 []::aN 5 [.con tI],[bp]⟩,[])]
def Ax (ρ:Type):á ρ:=⟨[4,1,1,2],260,0,Ay,fun(p:Val (tyL Ay.cs)) (v:Val tI) b a=>rc p.1 p.2.1 v (fun c=>b c) (a 0) (a 1)⟩
def Uk:List (Nat×ä):=[(72,o8),(143,ue),(205,wG)]
def QV (ρ:Type):List (á ρ):=[Ax ρ]
def BA (ρ:Type):Env ρ:=ë Uk (QV ρ)
def Yd:ä:=⟨[È,tI,tI],[.bool,tI],fun(x:Val aK)=>yP x.1 x.2.1 x.2.2⟩
def WN:List (Nat×ä):=[(259,Py),(269,S8)]
def Uo (ρ:Type):List (á ρ):=[]
def OA (ρ:Type):Env ρ:=ë WN (Uo ρ)
def SS:ä:=⟨[È,ai,tI],[tI],fun(x:Val (.pair È (.pair ai tI)))=>D2 x.1 x.2.1 x.2.2⟩
def zV:Ç:=Ls 0 [ai,tI,tI,tI,af,ab,ah,ac,ab,tI,aa] [tI] ⟨104,[.any,.con ai,.con tI,.box 0 0,.any,.any,.any,.box 1 0,.var tI],[bp,bw]⟩ [(.ret,⟨104,[.any,.con ai,.con tI,.box 0 0,.any,.any,.var tI,.box 1 0],[bp,bw]⟩,[tI]),(.exit 0,⟨104,[.any,.con ai,.con tI,.box 0 0,.any,.any,.any,.box 1 0],[bp,bw]⟩,[])]
def zU (ρ:Type):á ρ:=⟨[],156,0,zV,fun(p:Val (tyL zV.cs)) (v:Val tI) b a=>mS p.2.2.2.2.2.2.2.2.2.2 v (fun c=>b c) (a 0) (a 1)⟩
def zT:Ç:=Ls 0 [ai,tI,af,tI,tI,tI,af,ab,ah,ac,ab,tI,aa] [tI,aW] ⟨104,.any::.con ai::.con tI::.box 0 0::aN 3 (.box 1 0::.any::.box 2 0::aN 50 [.con af,.con tI,.var tI]),[bp,bw,bz,.mapv tI tI]⟩ [(.exit 2,⟨104,.any::.con ai::.con tI::.box 0 0::aN 3 (.box 1 0::.any::.box 2 0::aN 50 [.con af,.con tI]),[bp,bw,bz,.mapv tI tI]⟩,[aW])]
def zS (ρ:Type):á ρ:=⟨[],156,2,zT,fun(p:Val (tyL zT.cs)) (v:Val (.pair tI aW)) a b=>mR p.2.2.1 p.2.2.2.1 v.1 v.2 (fun c d=>a (c,d)) (b 0)⟩
def MB:Ç:=Ls 4 [aa,tI,tI,tI,af,ab,ah,ac,ab,tI,aa,aW] [tI] ⟨19,.con aa::.fn 223 [(2,0)]::aN 5 [.con tI,.var tI],b7⟩ [(.ret,⟨19,[.con aa,.fn 223 [(2,0)],.any,.any,.var tI,.any,.any,.con tI],b7⟩,[tI]),(.exit 0,⟨19,.con aa::.fn 223 [(2,0)]::aN 5 [.con tI],b7⟩,[])]
def zR (ρ:Type):á ρ:=⟨[18,3,1,2],260,0,MB,fun(p:Val aE) (v:Val tI) b a=>mQ p.1 p.2.1 p.2.2.2.2.2.2.2.2.2.2.2 v (fun c=>b c) (a 0) (a 1)⟩
def MA:Ç:=Ls 4 [aa,tI,tI,tI,af,ab,ah,ac,ab,tI,aa,aW] [tI] ⟨19,.con aa::.fn 224 [(1,0),(2,0)]::aN 5 [.con tI,.var tI],b7⟩ [(.ret,⟨19,[.con aa,.fn 224 [(1,0),(2,0)],.any,.any,.var tI,.any,.any,.con tI],b7⟩,[tI]),(.exit 0,⟨19,.con aa::.fn 224 [(1,0),(2,0)]::aN 5 [.con tI],b7⟩,[])]
def zQ (ρ:Type):á ρ:=⟨[20,3,1,2],260,0,MA,fun(p:Val aE) (v:Val tI) b a=>kj p.1 p.2.1 p.2.2.2.2.2.2.2.2.2.1 p.2.2.2.2.2.2.2.2.2.2.2 v (fun c=>b c) (a 0) (a 1)⟩
def Mz:Ç:=Ls 4 [aa,tI,tI,tI,af,ab,ah,ac,ab,tI,aa,aW] [tI] ⟨19,.con aa::.fn 225 [(0,0),(1,0)]::aN 5 [.con tI,.var tI],b7⟩ [(.ret,⟨19,[.con aa,.fn 225 [(0,0),(1,0)],.any,.any,.var tI,.any,.any,.con tI],b7⟩,[tI]),(.exit 0,⟨19,.con aa::.fn 225 [(0,0),(1,0)]::aN 5 [.con tI],b7⟩,[])]
def zP (ρ:Type):á ρ:=⟨[24,3,1,2],260,0,Mz,fun(p:Val aE) (v:Val tI) b a=>let A:=p.2.2.2.2;Ņ p.1 p.2.1 p.2.2.1 p.2.2.2.1 A.1 A.2.1 A.2.2.1 A.2.2.2.1 A.2.2.2.2.1 A.2.2.2.2.2.1 v (fun c=>b c) (a 0) (a 1)⟩
def Tv:List (Nat×ä):=[(226,Yd)]
def PU (ρ:Type):List (á ρ):=[zU ρ,zS ρ,zR ρ,zQ ρ,zP ρ]
def j7 (ρ:Type):Env ρ:=ë Tv (PU ρ)
def ι:ä:=⟨[Â],[tI],fun(x:Val Â)=>ŗ x⟩
def MS:Ç:=Ls 0 [ai,tI,tI,tI,tI,tI,af,ab,ah,ac,ab,ai] [tI,tI] ⟨50,.any::.box 0 0::aN 2 (.var tI::aN 15 (.con ai::.con tI::.con tI::aN 15 [.con tI,.var tI])),[bv]⟩ [(.exit 2,⟨50,.any::.box 0 0::aN 2 (.var tI::aN 15 (.con ai::.con tI::.con tI::aN 15 [.con tI])),[bv]⟩,[tI])]
def zY (ρ:Type):á ρ:=⟨[],80,2,MS,fun(p:Val (.pair ai aX)) (v:Val Ä) a b=>mT p.2.2.2.1 v.1 v.2 (fun c d=>a (c,d)) (b 0)⟩
def MT:Ç:=Ls 0 [ai,tI,tI,tI,af,ab,ah,ac,ab,ai] [tI,tI] ⟨50,.any::.box 0 0::aN 2 (.var tI::aN 15 [.con ai,.con tI,.var tI]),[bv]⟩ [(.ret,⟨50,.any::.box 0 0::.var tI::aN 17 [.con ai,.con tI],[bv]⟩,[tI]),(.exit 0,⟨50,.any::.box 0 0::aN 2 (.var tI::aN 15 [.con ai,.con tI]),[bv]⟩,[tI])]
def zZ (ρ:Type):á ρ:=⟨[],80,0,MT,fun(p:Val (.pair ai az)) (v:Val Ä) b a=>let A:=p.2.2.2.2;qL p.1 p.2.1 p.2.2.1 p.2.2.2.1 A.1 A.2.1 A.2.2.1 A.2.2.2.1 A.2.2.2.2.1 A.2.2.2.2.2 v.1 v.2 (fun c d=>b (c,d)) (a 0) (a 1)⟩
def TI:List (Nat×ä):=[(72,o8),(156,SS)]
def Qc (ρ:Type):List (á ρ):=[zY ρ,zZ ρ]
def uA (ρ:Type):Env ρ:=ë TI (Qc ρ)
def Ű:ä:=⟨[ab,Ä],[tI],fun(x:Val (.pair ab Ä))=>ó x.1 x.2⟩
def lE:Ç:=Ls 0 [ab,tI,tI,tI] [tI] ⟨19,[.con ab,.any,.any,.box 0 0,.any,.any,.any,.con tI,.var tI],[bB]⟩ [(.ret,⟨19,[.con ab,.any,.any,.box 0 0,.var tI,.any,.any,.con tI],[bB]⟩,[tI]),(.exit 0,⟨19,[.con ab,.any,.any,.box 0 0,.any,.any,.any,.con tI],[bB]⟩,[])]
def Υ (ρ:Type):á ρ:=⟨[],135,0,lE,fun(p:Val (.pair ab œ)) (v:Val tI) b a=>Ĥ p.1 p.2.1 p.2.2.1 p.2.2.2 v (fun c=>b c) (a 0) (a 1)⟩
def ng:List (Nat×ä):=[]
def mf (ρ:Type):List (á ρ):=[Υ ρ]
def Ŝ (ρ:Type):Env ρ:=ë ng (mf ρ)
def Gt:ä:=⟨[aT,aa,tI],[tI],fun(x:Val (.pair aT ax))=>kq x.1 x.2.1 x.2.2⟩
def Kv:List (Nat×ä):=[(135,Ű)]
def HL (ρ:Type):List (á ρ):=[]
def Aw (ρ:Type):Env ρ:=ë Kv (HL ρ)
def Yb:ä:=⟨[È,Õ,tI,tI],[tI],fun(x:Val (.pair È (.pair Õ Ä)))=>yO x.1 x.2.1 x.2.2.1 x.2.2.2⟩
def Du:Ç:=Ls 0 [tI,tI,ah,tI,tI,tI,af,ab,ah,ac,ab,tI,tI,tI,tI,tI,tI,tI,tI] [tI,tI] ⟨88,aN 2 (.con tI::.con tI::.box 0 0::.box 1 0::aN 3 (.var tI::aN 7 [.con ah,.con tI,.var tI])),[bp,bq]⟩ [(.exit 0,⟨88,aN 2 (.con tI::.con tI::.box 0 0::.box 1 0::aN 3 (.var tI::aN 7 [.con ah,.con tI])),[bp,bq]⟩,[tI])]
def Dt (ρ:Type):á ρ:=⟨[],247,0,Du,fun(p:Val (tyL Du.cs)) (v:Val Ä) a b=>uV p.1 p.2.1 p.2.2.1 p.2.2.2.1 p.2.2.2.2.2.2.2.2.2.2.2.1 v.1 v.2 (fun c d=>a (c,d)) (b 0)⟩
def Ds:Ç:=Ls 0 [tI,tI,tI,ab,tI,tI,tI,tI,tI,tI,tI,tI,tI] [tI,aa] ⟨88,aN 2 (.con tI::.con tI::.any::.box 0 0::aN 3 (.con tI::aN 3 (.own 1::aN 39 [.con ab,.con tI,.var tI]))),[bq,.rowv tI]⟩ [(.exit 2,⟨88,aN 2 (.con tI::.con tI::.any::.box 0 0::aN 3 (.con tI::aN 3 (.own 1::aN 39 [.con ab,.con tI]))),[bq,.rowv tI]⟩,[aa])]
def Dr (ρ:Type):á ρ:=⟨[],247,2,Ds,fun(p:Val (tyL Ds.cs)) (v:Val Ğ) a b=>uU p.1 p.2.1 p.2.2.2.1 p.2.2.2.2.1 p.2.2.2.2.2.1 v.1 v.2 (fun c d=>a (c,d)) (b 0)⟩
def WI:List (Nat×ä):=[(212,ke)]
def Ua (ρ:Type):List (á ρ):=[Dt ρ,Dr ρ]
def yz (ρ:Type):Env ρ:=ë WI (Ua ρ)
def vF:ä:=⟨[am,aa],[Ä],fun(x:Val (.pair am aa))=>iy x.1 x.2⟩
def Bs:List (Nat×ä):=[]
def zq (ρ:Type):List (á ρ):=[]
def qT (ρ:Type):Env ρ:=ë Bs (zq ρ)
def sh:ä:=⟨[ab],[tI],fun(x:Val ab)=>jK x⟩
def M6:Ç:=Ls 0 [ab,tI] [tI] ⟨15,aN 5 [.con ab,.con tI,.var tI],[]⟩ [(.ret,⟨15,[.any,.any,.var tI,.any,.any,.con ab,.con tI],[]⟩,[tI]),(.exit 0,⟨15,aN 5 [.con ab,.con tI],[]⟩,[])]
def Ap (ρ:Type):á ρ:=⟨[],264,0,M6,fun(p:Val bg) (v:Val tI) b a=>qS p.1 p.2 v (fun c=>b c) (a 0) (a 1)⟩
def TS:List (Nat×ä):=[(253,Cd)]
def Qr (ρ:Type):List (á ρ):=[Ap ρ]
def Bm (ρ:Type):Env ρ:=ë TS (Qr ρ)
def AR:ä:=⟨[tI,tI],[Ä,tI],fun(x:Val Ä)=>pJ x.1 x.2⟩
def M7:List (Nat×ä):=[(291,Pv),(292,VN)]
def Kc (ρ:Type):List (á ρ):=[]
def Dc (ρ:Type):Env ρ:=ë M7 (Kc ρ)
def aby:ä:=⟨[Ä,Ä],[Ä,tI],fun(x:Val Ĕ)=>Rr x.1 x.2⟩
def ZS:List (Nat×ä):=[(264,sh),(312,AR)]
def Wx (ρ:Type):List (á ρ):=[]
def TZ (ρ:Type):Env ρ:=ë ZS (Wx ρ)
def Cf:ä:=⟨[Ä,Ä],[Ä],fun(x:Val Ĕ)=>vp x.1 x.2⟩
def HK:List (Nat×ä):=[(296,aby)]
def Fx (ρ:Type):List (á ρ):=[]
def xH (ρ:Type):Env ρ:=ë HK (Fx ρ)
def VO:ä:=⟨[Ä,Ä],[tI],fun(x:Val Ĕ)=>Ll x.1 x.2⟩
def ZR:List (Nat×ä):=[]
def Wu (ρ:Type):List (á ρ):=[]
def TX (ρ:Type):Env ρ:=ë ZR (Wu ρ)
def zK:ä:=⟨[Ĕ],[.bool],fun(x:Val Ĕ)=>sc x⟩
def Fq:List (Nat×ä):=[(264,sh),(320,VO)]
def De (ρ:Type):List (á ρ):=[]
def vL (ρ:Type):Env ρ:=ë Fq (De ρ)
def abz:ä:=⟨[Ä,Ä],[Ä,tI],fun(x:Val Ĕ)=>Ln x.1 x.2⟩
def ZT:List (Nat×ä):=[(264,sh),(312,AR)]
def WB (ρ:Type):List (á ρ):=[]
def T1 (ρ:Type):Env ρ:=ë ZT (WB ρ)
def S0:ä:=⟨[Ĕ,Ä],[Ĕ,tI],fun(x:Val (.pair Ĕ Ä))=>Lm x.1 x.2⟩
def GH:List (Nat×ä):=[(253,Cd),(313,zK),(316,abz),(320,VO)]
def uM (ρ:Type):List (á ρ):=[]
def GG:List afx:=[⟨[3,2],314,0,4⟩]
def T0 (ρ:Type):Env ρ:=ë GH (uM ρ)
def Bo (ρ:Type):Env ρ:=mkEnvU GH (uM ρ) GG
def Ce:ä:=⟨[Ä,Ä],[Ĕ],fun(x:Val Ĕ)=>oC x.1 x.2⟩
def HJ:List (Nat×ä):=[(297,S0)]
def Fv (ρ:Type):List (á ρ):=[]
def xG (ρ:Type):Env ρ:=ë HJ (Fv ρ)
def N7:ä:=⟨[È,ã],[Ĕ],fun(x:Val aY)=>tM x.1 x.2⟩
def QP:List (Nat×ä):=[(143,ue),(148,Ch),(261,vF),(262,Cf),(263,Ce)]
def Nq (ρ:Type):List (á ρ):=[]
def GK (ρ:Type):Env ρ:=ë QP (Nq ρ)
def S7:ä:=⟨[È,ã],[Ä],fun(x:Val aY)=>xX x.1 x.2⟩
def Uf:List (Nat×ä):=[]
def QQ (ρ:Type):List (á ρ):=[]
def KB (ρ:Type):Env ρ:=ë Uf (QQ ρ)
def IZ:ä:=⟨[tI,tI],[tI],fun(x:Val Ä)=>xW x.1 x.2⟩
def TW:List (Nat×ä):=[]
def Qv (ρ:Type):List (á ρ):=[]
def Kg (ρ:Type):Env ρ:=ë TW (Qv ρ)
def X8:ä:=⟨[Ä],[tI,tI],fun(x:Val Ä)=>Io x⟩
def WF:List (Nat×ä):=[(264,sh),(265,IZ)]
def T3 (ρ:Type):List (á ρ):=[]
def Oy (ρ:Type):Env ρ:=ë WF (T3 ρ)
def S6:ä:=⟨[Ä],[tI,tI],fun(x:Val Ä)=>D9 x⟩
def T2:List (Nat×ä):=[(264,sh),(265,IZ)]
def QA (ρ:Type):List (á ρ):=[]
def Kl (ρ:Type):Env ρ:=ë T2 (QA ρ)
def X9:ä:=⟨[È,ã],[Ä],fun(x:Val aY)=>yN x.1 x.2⟩
def WG:List (Nat×ä):=[(215,N7),(216,S7),(217,X8),(218,S6)]
def T5 (ρ:Type):List (á ρ):=[]
def Oz (ρ:Type):Env ρ:=ë WG (T5 ρ)
def Ya:ä:=⟨[È],[aT],fun(x:Val È)=>Ip x⟩
def Dn:Ç:=Ls 2 [tI,aa,tI,af,tI,tI,tI,tI,af,ab,ah,ac,ab,tI,tI,af,ab,ah,ac,ab,ab,tI,tI,tI,tI,tI,tI,tI,tI,tI] [tI,ak,ab] ⟨144,.box 1 0::.any::.con tI::.box 2 0::.con aa::.con tI::.var tI::aN 24 [.con af,.con tI,.con tI],[bp,bC,bq,.rowv œ,.rowv Ä]⟩ [(.exit 2,⟨144,.box 1 0::.any::.con tI::.box 2 0::.con aa::.con tI::aN 25 [.con af,.con tI,.con tI],[bp,bC,bq,.rowv œ,.rowv Ä]⟩,[ak,ab])]
def Dm (ρ:Type):á ρ:=⟨[2,1],200,2,Dn,fun(p:Val (tyL Dn.cs)) (v:Val (.pair tI BU)) a b=>let A:=p.2.2.2.2.2.2.2.2.2.2.2.2.2;let B:=A.2.2.2.2;let C:=B.2.2.2.2.2;let D:=C.2.2.2.2;uS p.1 p.2.1 p.2.2.1 A.1 A.2.1 A.2.2.1 A.2.2.2.1 B.1 B.2.1 B.2.2.1 C.1 C.2.1 C.2.2.1 C.2.2.2.1 D.1 D.2.1 D.2.2.1 D.2.2.2 v.1 v.2.1 v.2.2 (fun c d e=>a (c,d,e)) (b 0)⟩
def Dq:Ç:=Ls 2 [af,tI,tI,tI,af,ab,ah,ac,ab,tI,tI,af,ab,ah,ac,ab,ab,tI] [tI,ak,ab] ⟨144,.box 1 0::aN 30 [.con af,.con tI,.var tI],b8⟩ [(.exit 0,⟨144,.box 1 0::aN 30 [.con af,.con tI],b8⟩,[ak,ab])]
def Dp (ρ:Type):á ρ:=⟨[2,1],200,0,Dq,fun(p:Val (tyL Dq.cs)) (v:Val (.pair tI BU)) a b=>let A:=p.2.2.2.2.2.2.2.2.2;let B:=A.2.2.2.2;uT p.1 p.2.1 A.1 A.2.1 A.2.2.1 A.2.2.2.1 B.1 B.2.1 B.2.2.1 B.2.2.2.1 B.2.2.2.2 v.1 v.2.1 v.2.2 (fun c d e=>a (c,d,e)) (b 0)⟩
def Dl:Ç:=Ls 2 [ac,tI,tI,tI,af,ab,ah,ac,ab,tI,tI,af,ab,ah,ac,ab,ab,tI] [tI,ak,ab] ⟨144,.box 1 0::aN 107 [.con ac,.con tI,.var tI],b8⟩ [(.exit 4,⟨144,.box 1 0::aN 107 [.con ac,.con tI],b8⟩,[ak,ab])]
def Dk (ρ:Type):á ρ:=⟨[2,1],200,4,Dl,fun(p:Val (tyL Dl.cs)) (v:Val (.pair tI BU)) a b=>let A:=p.2.2.2.2.2.2.2.2.2;let B:=A.2.2.2.2;uR p.1 p.2.1 A.1 A.2.1 A.2.2.1 A.2.2.2.1 B.1 B.2.1 B.2.2.1 B.2.2.2.1 B.2.2.2.2 v.1 v.2.1 v.2.2 (fun c d e=>a (c,d,e)) (b 0)⟩
def WH:List (Nat×ä):=[(136,Cg),(147,Gt),(148,Ch),(201,Pw),(247,Yb),(248,X9)]
def T8 (ρ:Type):List (á ρ):=[Dm ρ,Dp ρ,Dk ρ]
def tq (ρ:Type):Env ρ:=ë WH (T8 ρ)
def sj:ä:=⟨[È],[Ì,ab,tI],fun(x:Val È)=>iD x⟩
def QX:List (Nat×ä):=[(72,o8),(132,Ya)]
def Nw (ρ:Type):List (á ρ):=[]
def GM (ρ:Type):Env ρ:=ë QX (Nw ρ)
def IW:ä:=⟨[Â,aj,tI,tI],[tI],fun(x:Val bc)=>sa x.1 x.2.1 x.2.2.1 x.2.2.2⟩
def Tp:Ç:=Ls 0 [aj,tI,tI,tI,af,ab,ah,ac,ab,ai] [tI,tI] ⟨47,.any::.con aj::.var tI::.con tI::.box 0 0::aN 4 [.var tI],[bv]⟩ [(.exit 0,⟨47,[.any,.con aj,.var tI,.con tI,.box 0 0],[bv]⟩,[tI])]
def Gw (ρ:Type):á ρ:=⟨[],105,0,Tp,fun(p:Val (.pair aj az)) (v:Val Ä) a b=>yu p.1 p.2.1 p.2.2.2.2.2.2.2.2.2 v.1 v.2 (fun c d=>a (c,d)) (b 0)⟩
def ZL:List (Nat×ä):=[(173,lW)]
def VW (ρ:Type):List (á ρ):=[Gw ρ]
def Ji (ρ:Type):Env ρ:=ë ZL (VW ρ)
def wC:ä:=⟨[aa,tI,ar,aF],[aa],fun(x:Val (.pair aa (.pair tI (.pair ar aF))))=>i6 x.1 x.2.1 x.2.2.1 x.2.2.2⟩
def ob:Ç:=Ls 0 [tI,ar,aF,aa,tI] [tI,aa] ⟨28,[.any,.con tI,.con ar,.con aF,.any,.any,.any,.own 0,.any,.any,.con aa,.con tI,.var tI],bY⟩ [(.exit 0,⟨28,[.any,.con tI,.con ar,.con aF,.any,.any,.any,.own 0,.any,.any,.con aa,.con tI],bY⟩,[aa])]
def oa (ρ:Type):á ρ:=⟨[],183,0,ob,fun(p:Val (tyL ob.cs)) (v:Val Ğ) a b=>iK p.1 p.2.1 p.2.2.1 p.2.2.2.1 p.2.2.2.2 v.1 v.2 (fun c d=>a (c,d)) (b 0)⟩
def Cr:List (Nat×ä):=[(105,IW)]
def A5 (ρ:Type):List (á ρ):=[oa ρ]
def lZ (ρ:Type):Env ρ:=ë Cr (A5 ρ)
def kz:ä:=⟨[Â,aj],[È],fun(x:Val aJ)=>iu x.1 x.2⟩
def qA:Ç:=Ls 0 [ar,aF,ar,aF,ab,tI,tI,tI,tI,tI,af,ab,ah,ac,ab,tI,tI,af] [tI,ab] ⟨123,aN 2 (.con ar::.con aF::.box 0 0::.box 1 0::.box 2 0::.fnd 183 [Â,aj]::aN 18 [.con ab,.con tI,.var tI]),[bE,bp,bG,.rowc Õ,.rowv Ä]⟩ [(.exit 0,⟨123,aN 2 (.con ar::.con aF::.box 0 0::.box 1 0::.box 2 0::.fnd 183 [Â,aj]::aN 18 [.con ab,.con tI]),[bE,bp,bG,.rowc Õ,.rowv Ä]⟩,[ab])]
def qz (ρ:Type):á ρ:=⟨[],104,0,qA,fun(p:Val (tyL qA.cs)) (v:Val ba) a b=>jT p.1 p.2.1 p.2.2.2.2.1 p.2.2.2.2.2.1 v.1 v.2 (fun c d=>a (c,d)) (b 0)⟩
def qy:Ç:=Ls 0 [ar,aF,ar,aF,ah,tI,tI,tI,tI,tI,af,ab,ah,ac,ab,tI,tI,af,ab] [tI,ah] ⟨123,aN 2 (.con ar::.con aF::.box 0 0::.box 1 0::.box 2 0::.fnd 183 [Â,aj]::aN 41 [.con ah,.con tI,.var tI]),b9⟩ [(.exit 2,⟨123,aN 2 (.con ar::.con aF::.box 0 0::.box 1 0::.box 2 0::.fnd 183 [Â,aj]::aN 41 [.con ah,.con tI]),b9⟩,[ah])]
def qx (ρ:Type):á ρ:=⟨[],104,2,qy,fun(p:Val (tyL qy.cs)) (v:Val (.pair tI ah)) a b=>jS p.1 p.2.1 p.2.2.2.2.1 p.2.2.2.2.2.1 v.1 v.2 (fun c d=>a (c,d)) (b 0)⟩
def qw:Ç:=Ls 0 [ar,aF,ar,aF,ac,tI,tI,tI,tI,tI,af,ab,ah,ac,ab,tI,tI,af,ab,ah] [tI,ac] ⟨123,aN 2 (.con ar::.con aF::.box 0 0::.box 1 0::.box 2 0::.fnd 183 [Â,aj]::aN 64 [.con ac,.con tI,.var tI]),ca⟩ [(.exit 4,⟨123,aN 2 (.con ar::.con aF::.box 0 0::.box 1 0::.box 2 0::.fnd 183 [Â,aj]::aN 64 [.con ac,.con tI]),ca⟩,[ac])]
def qv (ρ:Type):á ρ:=⟨[],104,4,qw,fun(p:Val (tyL qw.cs)) (v:Val aH) a b=>jR p.2.2.1 p.2.2.2.1 p.2.2.2.2.1 p.2.2.2.2.2.1 v.1 v.2 (fun c d=>a (c,d)) (b 0)⟩
def qu:Ç:=Ls 0 [ar,aF,ab,tI,tI,tI,tI,tI,af,ab,ah,ac] [tI,ab] ⟨123,aN 2 (.con ar::.con aF::.box 0 0::.any::.box 1 0::aN 93 [.con ab,.con tI,.var tI]),cd⟩ [(.exit 6,⟨123,aN 2 (.con ar::.con aF::.box 0 0::.any::.box 1 0::aN 93 [.con ab,.con tI]),cd⟩,[ab])]
def qt (ρ:Type):á ρ:=⟨[],104,6,qu,fun(p:Val (tyL qu.cs)) (v:Val ba) a b=>jQ p.1 p.2.1 p.2.2.1 p.2.2.2.1 v.1 v.2 (fun c d=>a (c,d)) (b 0)⟩
def Hf:List (Nat×ä):=[(105,IW),(183,wC)]
def sm (ρ:Type):List (á ρ):=[qz ρ,qx ρ,qv ρ,qt ρ]
def ű (ρ:Type):Env ρ:={ë Hf (sm ρ) with hint:=Ri [(78,183),(84,183)]}
def Pu:ä:=⟨[Ì,tI],[.bool],fun(x:Val (.pair Ì tI))=>yM x.1 x.2⟩
def Wj:List (Nat×ä):=[]
def TM (ρ:Type):List (á ρ):=[]
def Om (ρ:Type):Env ρ:=ë Wj (TM ρ)
def wE:ä:=⟨[Ì],[tI,tI],fun(x:Val Ì)=>pI x⟩
def M5:Ç:=Ls 0 [ak,tI,tI,ak] [tI] ⟨57,.any::.box 0 0::aN 17 [.con ak,.con tI,.var tI],[bK]⟩ [(.ret,⟨57,.any::.box 0 0::.var tI::.var tI::aN 15 [.con ak,.con tI],[bK]⟩,[tI,tI]),(.exit 0,⟨57,.any::.box 0 0::aN 17 [.con ak,.con tI],[bK]⟩,[])]
def Ao (ρ:Type):á ρ:=⟨[],126,0,M5,fun(p:Val (.pair ak aR)) (v:Val tI) b a=>qR p.1 p.2.1 p.2.2.1 p.2.2.2 v (fun c=>b c) (a 0) (a 1)⟩
def TR:List (Nat×ä):=[(196,Pu)]
def Qp (ρ:Type):List (á ρ):=[Ao ρ]
def Bl (ρ:Type):Env ρ:=ë TR (Qp ρ)
def qi:ä:=⟨[Ì,ao],[aa,.bool],fun(x:Val (.pair Ì ao))=>kp x.1 x.2⟩
def tk:Ç:=Ls 2 [ao,ak,tI,tI,ak,aa,tI,ak,aq,aa] [tI,tI] ⟨140,.any::.con ao::.own 1::.box 2 0::aN 3 (.box 3 0::.own 4::.own 5::.var tI::aN 14 [.con ak,.con tI,.var tI]),[bK,.rowc tI,bK,.cells [.nils],.rowc .bool,.rowc tI]⟩ [(.exit 0,⟨140,.any::.con ao::.own 1::.box 2 0::aN 3 (.box 3 0::.own 4::.own 5::.var tI::aN 14 [.con ak,.con tI]),[bK,.rowc tI,bK,.cells [.nils],.rowc .bool,.rowc tI]⟩,[tI])]
def tj (ρ:Type):á ρ:=⟨[2,3],197,0,tk,fun(p:Val (tyL tk.cs)) (v:Val Ä) a b=>gS p.2.1 p.2.2.1 v.1 v.2 (fun c d=>a (c,d)) (b 0)⟩
def tg:Ç:=Ls 2 [ao,tI,tI,tI,ak,aa,tI,ak,aa] [tI,aq,aa] ⟨140,.any::.con ao::.own 1::.box 2 0::aN 3 (.box 3 0::.own 4::.own 5::.con tI::aN 27 [.con tI,.var tI]),ce⟩ [(.exit 2,⟨140,.any::.con ao::.own 1::.box 2 0::aN 3 (.box 3 0::.own 4::.own 5::.con tI::aN 27 [.con tI]),ce⟩,[aq,aa])]
def tf (ρ:Type):á ρ:=⟨[2,3],197,2,tg,fun(p:Val (tyL tg.cs)) (v:Val (.pair tI aL)) a b=>Ŗ p.2.2.1 p.2.2.2.2.2.1 v.1 v.2.1 v.2.2 (fun c d e=>a (c,d,e)) (b 0)⟩
def tc:Ç:=Ls 2 [ao,tI,tI,ak,tI,tI,ak,tI,ak,aa] [tI,aa,aq,aa] ⟨140,.any::.con ao::.own 1::.box 2 0::aN 3 (.box 3 0::.own 4::.own 5::.con tI::aN 3 (.con tI::aN 62 [.con ak,.con tI,.var tI])),cf⟩ [(.ret,⟨140,.any::.con ao::.own 1::.box 2 0::aN 2 (.var .bool::.box 3 0::.own 4::.own 5::.con tI::aN 3 (.con tI::aN 62 [.con ak,.con tI])),cf⟩,[.bool,aa,aq,aa]),(.exit 6,⟨140,.any::.con ao::.own 1::.box 2 0::aN 3 (.box 3 0::.own 4::.own 5::.con tI::aN 3 (.con tI::aN 62 [.con ak,.con tI])),cf⟩,[aa,aq,aa])]
def ta (ρ:Type):á ρ:=⟨[2,3],197,6,tc,fun(p:Val (tyL tc.cs)) (v:Val (.pair tI (.pair aa aL))) b a=>iV p.1 p.2.1 p.2.2.1 p.2.2.2.1 p.2.2.2.2.1 v.1 v.2.1 v.2.2.1 v.2.2.2 (fun c d e f=>b (c,d,e,f)) (a 0) (a 1)⟩
def Fh:Ç:=Ls 2 [ao,tI,tI,ak,tI,ak] [aa,aq,aa,aa] ⟨140,[.any,.con ao,.own 1,.box 2 0,.any,.any,.any,.box 3 0,.own 4,.own 5,.con tI],cg⟩ [(.ret,⟨140,[.any,.con ao,.own 1,.box 2 0,.any,.any,.var .bool,.box 3 0,.own 4,.own 5,.con tI],cg⟩,[.bool,aa,aq,aa,aa])]
def td (ρ:Type):á ρ:=⟨[2,3],197,4,Fh,fun(p:Val (.pair ao bn)) (v:Val aM) a b=>ĩ p.1 p.2.1 p.2.2.2.2.1 p.2.2.2.2.2 v.1 v.2.1 v.2.2.1 v.2.2.2 (fun c d e f=>a (c,d,e,f)) (b 0)⟩
def Fg:Ç:=Ls 0 [tI,tI] [tI,aa] ⟨34,aN 6 (.own 0::.con tI::aN 13 [.con tI,.var tI]),bY⟩ [(.exit 0,⟨34,aN 6 (.own 0::.con tI::aN 13 [.con tI]),bY⟩,[aa])]
def s9 (ρ:Type):á ρ:=⟨[],127,0,Fg,fun(p:Val Ä) (v:Val Ğ) a b=>iU p.1 p.2 v.1 v.2 (fun c d=>a (c,d)) (b 0)⟩
def JT:List (Nat×ä):=[]
def HA (ρ:Type):List (á ρ):=[tj ρ,tf ρ,ta ρ,td ρ,s9 ρ]
def Ν (ρ:Type):Env ρ:=ë JT (HA ρ)
def zI:ä:=⟨[Ì],[.bool,tI],fun(x:Val Ì)=>mK x⟩
def Fo:List (Nat×ä):=[(126,wE),(127,qi)]
def C7 (ρ:Type):List (á ρ):=[]
def vJ (ρ:Type):Env ρ:=ë Fo (C7 ρ)
def qg:ä:=⟨[Â,aj],[.bool],fun(x:Val aJ)=>Θ x.1 x.2⟩
def JG:List (Nat×ä):=[(66,sj),(104,kz),(155,zI)]
def Hl (ρ:Type):List (á ρ):=[]
def zW (ρ:Type):Env ρ:=ë JG (Hl ρ)
def N1:ä:=⟨[Â,aj],[tI],fun(x:Val aJ)=>Ĵ x.1 x.2⟩
def wT:Ç:=Ls 0 [tI,aj,tI,tI,aa,tI,tI,tI,af,ab,ah,ac,ab,ai] [tI,tI] ⟨40,aN 2 (.box 0 0::aN 2 (.var tI::.con tI::aN 3 (.con aj::.con tI::.con tI::aN 4 [.con aa,.con tI,.var tI]))),[bv]⟩ [(.exit 2,⟨40,aN 2 (.box 0 0::aN 2 (.var tI::.con tI::aN 3 (.con aj::.con tI::.con tI::aN 4 [.con aa,.con tI]))),[bv]⟩,[tI])]
def wS (ρ:Type):á ρ:=⟨[],116,2,wT,fun(p:Val (tyL wT.cs)) (v:Val Ä) a b=>let A:=p.2.2.2.2;ol p.1 A.1 A.2.1 A.2.2.2.2.2.2.2.2.2 v.1 v.2 (fun c d=>a (c,d)) (b 0)⟩
def Jj:Ç:=Ls 0 [aj,tI,tI,tI,af,ab,ah,ac,ab,ai] [tI,tI] ⟨40,aN 2 (.box 0 0::aN 2 (.var tI::aN 4 [.con aj,.con tI,.var tI])),[bv]⟩ [(.exit 0,⟨40,aN 2 (.box 0 0::aN 2 (.var tI::aN 4 [.con aj,.con tI])),[bv]⟩,[tI])]
def wU (ρ:Type):á ρ:=⟨[],116,0,Jj,fun(p:Val (.pair aj az)) (v:Val Ä) a b=>om p.1 p.2.1 p.2.2.2.2.2.2.2.2.2 v.1 v.2 (fun c d=>a (c,d)) (b 0)⟩
def PM:List (Nat×ä):=[]
def Mk (ρ:Type):List (á ρ):=[wS ρ,wU ρ]
def qr (ρ:Type):Env ρ:=ë PM (Mk ρ)
def wF:ä:=⟨[tI],[.bool],fun(x:Val tI)=>lm x⟩
def Dg:List (Nat×ä):=[]
def Bp (ρ:Type):List (á ρ):=[]
def tp (ρ:Type):Env ρ:=ë Dg (Bp ρ)
def lX:ä:=⟨[tI,tI],[tI],fun(x:Val Ä)=>gW x.1 x.2⟩
def zp:List (Nat×ä):=[(234,wF)]
def xE (ρ:Type):List (á ρ):=[]
def pB (ρ:Type):Env ρ:=ë zp (xE ρ)
def EI:ä:=⟨[aj,aj,ar],[tI],fun(x:Val (.pair aj (.pair aj ar)))=>ji x.1 x.2.1 x.2.2⟩
def PN:List (Nat×ä):=[(116,N1),(180,lX)]
def Mq (ρ:Type):List (á ρ):=[]
def Gy (ρ:Type):Env ρ:=ë PN (Mq ρ)
def ā:aaF:=⟨aj,[tI,tI],179,Â,fun(xs:Val ag) (x:Val Ä) (m:Val Â)=>å xs x.1 x.2 m⟩
def kO:Ç:=Ls 2 [tI,tI,tI,tI,tI,af,ab,ah,ac,ab,ai] [tI,ag] ⟨53,.own 0::.con tI::.con tI::.fn 179 [(1,0)]::aN 4 [.con tI,.var tI],ci⟩ [(.exit 2,⟨53,.own 0::.con tI::.con tI::.fn 179 [(1,0)]::aN 4 [.con tI],ci⟩,[ag])]
def Ε (ρ:Type):á ρ:=⟨[],273,2,kO,fun(p:Val aX) (v:Val aB) a b=>let A:=p.2.2.2.2;let B:=A.2.2.2.2;ç p.1 p.2.2.2.1 A.1 A.2.1 A.2.2.1 A.2.2.2.1 B.1 B.2.1 B.2.2 v.1 v.2 (fun c d=>a (c,d)) (b 0)⟩
def kP:Ç:=Ls 2 [tI,tI,tI,tI,af,ab,ah,ac,ab,ai] [tI,ag] ⟨53,.own 0::.con tI::.con tI::.fn 179 [(1,0)]::aN 4 [.var tI],ci⟩ [(.exit 0,⟨53,[.own 0,.con tI,.con tI,.fn 179 [(1,0)]],ci⟩,[ag])]
def Ζ (ρ:Type):á ρ:=⟨[],273,0,kP,fun(p:Val (.pair tI az)) (v:Val aB) a b=>let A:=p.2.2.2.2;ĉ p.1 p.2.1 p.2.2.1 p.2.2.2.1 A.1 A.2.1 A.2.2.1 A.2.2.2.1 A.2.2.2.2.1 A.2.2.2.2.2 v.1 v.2 (fun c d=>a (c,d)) (b 0)⟩
def md:List (Nat×ä):=[(179,EI)]
def Τ (ρ:Type):List (á ρ):=[Ε ρ,Ζ ρ]
def õ (ρ:Type):Env ρ:={ë md (Τ ρ) with hint:=Ri [(22,179)]}
def Į:aaF:=⟨aj,[tI,tI,tI],179,Â,fun(xs:Val ag) (x:Val œ) (m:Val Â)=>Ķ xs x.1 x.2.1 x.2.2 m⟩
def pW:Ç:=Ls 2 [tI,tI,tI,tI,tI,af,ab,ah,ac,ab,ai] [tI,ag] ⟨38,.own 0::.con tI::.con tI::.con tI::aN 6 [.var tI],ci⟩ [(.exit 0,⟨38,[.own 0,.con tI,.con tI,.con tI],ci⟩,[ag])]
def jt (ρ:Type):á ρ:=⟨[4,7],317,0,pW,fun(p:Val aX) (v:Val aB) a b=>Ĉ p.1 p.2.1 p.2.2.1 v.1 v.2 (fun c d=>a (c,d)) (b 0)⟩
def pV:Ç:=Ls 2 [tI,tI,tI,tI,tI,af,ab,ah,ac,ab,ai] [tI,ag] ⟨38,.own 0::.con tI::.con tI::.con tI::aN 6 [.var tI],ci⟩ [(.exit 0,⟨38,[.own 0,.con tI,.con tI,.con tI],ci⟩,[ag])]
def jr (ρ:Type):á ρ:=⟨[6,11],317,0,pV,fun(p:Val aX) (v:Val aB) a b=>ω p.1 p.2.1 p.2.2.1 v.1 v.2 (fun c d=>a (c,d)) (b 0)⟩
def pX:Ç:=Ls 2 [tI,tI,tI,af,ab,ah,ac,ab,ai] [tI,tI,ag] ⟨58,.own 0::.any::.con tI::.any::.fn 179 [(1,0)]::aN 5 [.var tI,.var tI],ci⟩ [(.exit 0,⟨58,.own 0::.any::.con tI::.any::.fn 179 [(1,0)]::aN 5 [.var tI],ci⟩,[tI,ag])]
def ju (ρ:Type):á ρ:=⟨[],300,0,pX,fun(p:Val az) (v:Val (.pair tI aB)) a b=>į p.1 v.1 v.2.1 v.2.2 (fun c d e=>a (c,d,e)) (b 0)⟩
def pU:Ç:=Ls 2 [tI,tI,tI,tI,tI,af,ab,ah,ac,ab,ai] [tI,ag] ⟨38,.own 0::.con tI::.con tI::.con tI::aN 6 [.var tI],ci⟩ [(.exit 0,⟨38,[.own 0,.con tI,.con tI,.con tI],ci⟩,[ag])]
def jq (ρ:Type):á ρ:=⟨[8,7],317,0,pU,fun(p:Val aX) (v:Val aB) a b=>ψ p.1 p.2.1 p.2.2.1 v.1 v.2 (fun c d=>a (c,d)) (b 0)⟩
def sR:List (Nat×ä):=[]
def jG (ρ:Type):List (á ρ):=[jt ρ,jr ρ,ju ρ,jq ρ]
def ý (ρ:Type):Env ρ:=ë sR (jG ρ)
def kD:aaF:=⟨aj,[tI,tI,tI],179,Â,fun(xs:Val ag) (x:Val œ) (m:Val Â)=>Đ xs x.1 x.2.1 x.2.2 m⟩
def Ć:Ç:=Ls 2 [tI,ag,tI,tI,af,ab,ah,ac,ab,ai] [tI,tI] ⟨220,.own 0::.con tI::aN 2 (.fn 179 [(1,0)]::aN 5 [.var tI,.var tI]),cj⟩ [(.exit 0,⟨220,.own 0::.con tI::aN 2 (.fn 179 [(1,0)]::aN 5 [.var tI]),cj⟩,[tI])]
def ŧ (rec:Val ag→Int→Int→Int→Val Â→Option ((Val ag)×(Val Â))) (ρ:Type):á ρ:=⟨[],274,0,Ć,fun(p:Val au) (v:Val Ä) a b=>ù rec p.1 p.2.1 p.2.2.1 p.2.2.2.1 p.2.2.2.2.1 p.2.2.2.2.2.1 p.2.2.2.2.2.2.1 p.2.2.2.2.2.2.2.1 p.2.2.2.2.2.2.2.2.1 p.2.2.2.2.2.2.2.2.2 v.1 v.2 (fun c d=>a (c,d)) (b 0)⟩
def ą:Ç:=Ls 2 [tI,tI,tI,af,ab,ah,ac,ab,ai] [tI,ag] ⟨220,.own 0::aN 9 [.con tI,.any,.any,.var tI],ci⟩ [(.exit 2,⟨220,.own 0::aN 9 [.con tI],ci⟩,[ag])]
def Ŧ (rec:Val ag→Int→Int→Int→Val Â→Option ((Val ag)×(Val Â))) (ρ:Type):á ρ:=⟨[],274,2,ą,fun(p:Val az) (v:Val aB) a b=>î rec p.1 v.1 v.2 (fun c d=>a (c,d)) (b 0)⟩
def Ą:Ç:=Ls 2 [tI,ag,tI,tI,af,ab,ah,ac,ab,ai] [tI,tI] ⟨220,.own 0::.any::.con tI::.any::.fn 179 [(1,0)]::aN 9 [.var tI,.var tI],cj⟩ [(.exit 4,⟨220,.own 0::.any::.con tI::.any::.fn 179 [(1,0)]::aN 9 [.var tI],cj⟩,[tI])]
def ť (rec:Val ag→Int→Int→Int→Val Â→Option ((Val ag)×(Val Â))) (ρ:Type):á ρ:=⟨[],274,4,Ą,fun(p:Val au) (v:Val Ä) a b=>ø rec p.1 p.2.1 p.2.2.1 p.2.2.2.1 p.2.2.2.2.1 p.2.2.2.2.2.1 p.2.2.2.2.2.2.1 p.2.2.2.2.2.2.2.1 p.2.2.2.2.2.2.2.2.1 p.2.2.2.2.2.2.2.2.2 v.1 v.2 (fun c d=>a (c,d)) (b 0)⟩
def ă:Ç:=Ls 2 [tI,tI,tI,af,ab,ah,ac,ab,ai] [tI,ag] ⟨220,.own 0::aN 13 [.con tI,.any,.any,.var tI],ci⟩ [(.exit 6,⟨220,.own 0::aN 13 [.con tI],ci⟩,[ag])]
def Ť (rec:Val ag→Int→Int→Int→Val Â→Option ((Val ag)×(Val Â))) (ρ:Type):á ρ:=⟨[],274,6,ă,fun(p:Val az) (v:Val aB) a b=>í rec p.1 v.1 v.2 (fun c d=>a (c,d)) (b 0)⟩
def Ă:Ç:=Ls 2 [tI,tI,tI,tI,tI,tI,ag,tI,tI,af,ab,ah,ac,ab,ai] [tI,tI] ⟨220,.own 0::.con tI::.con tI::.con tI::.fn 179 [(1,0)]::aN 13 [.con tI,.con tI,.var tI,.var tI,.con tI],cj⟩ [(.exit 8,⟨220,.own 0::.con tI::.con tI::.con tI::.fn 179 [(1,0)]::aN 13 [.con tI,.con tI,.var tI,.any,.con tI],cj⟩,[tI])]
def ţ (rec:Val ag→Int→Int→Int→Val Â→Option ((Val ag)×(Val Â))) (ρ:Type):á ρ:=⟨[],274,8,Ă,fun(p:Val aO) (v:Val Ä) a b=>Þ rec p.2.2.2.2.2.1 p.2.2.2.2.2.2.1 p.2.2.2.2.2.2.2.1 p.2.2.2.2.2.2.2.2.1 p.2.2.2.2.2.2.2.2.2.1 p.2.2.2.2.2.2.2.2.2.2.1 p.2.2.2.2.2.2.2.2.2.2.2.1 p.2.2.2.2.2.2.2.2.2.2.2.2.1 p.2.2.2.2.2.2.2.2.2.2.2.2.2.1 p.2.2.2.2.2.2.2.2.2.2.2.2.2.2 v.1 v.2 (fun c d=>a (c,d)) (b 0)⟩
def pQ (rec:Val ag→Int→Int→Int→Val Â→Option ((Val ag)×(Val Â))):List (Nat×ä):=[(179,EI)]
def pP (rec:Val ag→Int→Int→Int→Val Â→Option ((Val ag)×(Val Â))):List (Nat×Y8):=[(274,.row ⟨aj,[tI,tI,tI],179,Â,fun(xs:Val ag) (x:Val œ) (m:Val Â)=>rec xs x.1 x.2.1 x.2.2 m⟩),(300,.row Į)]
def iR (rec:Val ag→Int→Int→Int→Val Â→Option ((Val ag)×(Val Â))) (ρ:Type):List (á ρ):=[ŧ rec ρ,Ŧ rec ρ,ť rec ρ,Ť rec ρ,ţ rec ρ]
def Æ (rec:Val ag→Int→Int→Int→Val Â→Option ((Val ag)×(Val Â))) (ρ:Type):Env ρ:={Yi (pQ rec) (iR rec ρ) (pP rec) with hint:=Ri [(40,179),(92,179),(158,179)]}
def Ĝ:aaF:=⟨aj,[tI],179,Â,fun(xs:Val ag) (x:Val tI) (m:Val Â)=>ĵ xs x m⟩
def pT:Ç:=Ls 2 [tI,tI] [tI,tI,ag,tI,tI,af,ab,ah,ac,ab,ai] ⟨63,[.own 0,.con tI,.fn 179 [(1,0)],.any,.any,.any,.con tI,.var tI,.var tI],cm⟩ [(.exit 0,⟨63,[.own 0,.con tI,.fn 179 [(1,0)],.any,.any,.any,.con tI,.var tI],cm⟩,[tI,ag,tI,tI,af,ab,ah,ac,ab,ai])]
def jp (ρ:Type):á ρ:=⟨[],233,0,pT,fun(p:Val Ä) (v:Val (.pair tI au)) a b=>χ p.1 p.2 v.1 v.2.1 v.2.2.1 v.2.2.2.1 v.2.2.2.2.1 v.2.2.2.2.2.1 v.2.2.2.2.2.2.1 v.2.2.2.2.2.2.2.1 v.2.2.2.2.2.2.2.2.1 v.2.2.2.2.2.2.2.2.2.1 v.2.2.2.2.2.2.2.2.2.2 (fun c d e f g h i j k l m=>a (c,d,e,f,g,h,i,j,k,l,m)) (b 0)⟩
def pR:Ç:=Ls 2 [tI,tI] [tI,tI,ag,tI,tI,af,ab,ah,ac,ab,ai] ⟨63,[.own 0,.con tI,.fn 179 [(1,0)],.any,.any,.any,.con tI,.var tI,.var tI],cm⟩ [(.exit 4,⟨63,[.own 0,.con tI,.fn 179 [(1,0)],.any,.any,.any,.con tI,.var tI],cm⟩,[tI,ag,tI,tI,af,ab,ah,ac,ab,ai])]
def jn (ρ:Type):á ρ:=⟨[],233,4,pR,fun(p:Val Ä) (v:Val (.pair tI au)) a b=>ς p.1 p.2 v.1 v.2.1 v.2.2.1 v.2.2.2.1 v.2.2.2.2.1 v.2.2.2.2.2.1 v.2.2.2.2.2.2.1 v.2.2.2.2.2.2.2.1 v.2.2.2.2.2.2.2.2.1 v.2.2.2.2.2.2.2.2.2.1 v.2.2.2.2.2.2.2.2.2.2 (fun c d e f g h i j k l m=>a (c,d,e,f,g,h,i,j,k,l,m)) (b 0)⟩
def pS:Ç:=Ls 2 [tI] [tI,ag,tI,tI,af,ab,ah,ac,ab,ai] ⟨63,[.own 0,.con tI,.fn 179 [(1,0)],.any,.any,.any,.var tI],cm⟩ [(.exit 2,⟨63,[.own 0,.con tI,.fn 179 [(1,0)]],cm⟩,[ag,tI,tI,af,ab,ah,ac,ab,ai])]
def jo (ρ:Type):á ρ:=⟨[],233,2,pS,fun(p:Val tI) (v:Val au) a b=>υ p v.1 v.2.1 v.2.2.1 v.2.2.2.1 v.2.2.2.2.1 v.2.2.2.2.2.1 v.2.2.2.2.2.2.1 v.2.2.2.2.2.2.2.1 v.2.2.2.2.2.2.2.2.1 v.2.2.2.2.2.2.2.2.2 (fun c d e f g h i j k l=>a (c,d,e,f,g,h,i,j,k,l)) (b 0)⟩
def sQ:List (Nat×ä):=[]
def sP:List (Nat×Y8):=[(273,.row ā),(274,.row kD)]
def jF (ρ:Type):List (á ρ):=[jp ρ,jn ρ,jo ρ]
def ď (ρ:Type):Env ρ:=Yi sQ (jF ρ) sP
def Pr:ä:=⟨[Â],[ag],fun(x:Val Â)=>D3 x⟩
def kK:Tpl:=⟨13,[.any,.any,.box 3 0],[.cells [.con tI,.con tI,.con af,.con ab,.con ah,.con ac,.con ab,.con ai],.cells [.con tI,.con tI,.con af,.con ab,.con ah,.con ac,.con ab,.con ai],.dead,.cells [.own 4],.rowv aj]⟩
def oq (ρ:Type):Et ρ:=⟨[1,1,1,3,1,1],230,0,4,[tI,tI,af,ab,ah,ac,ab,ai,tI,tI,af,ab,ah,ac,ab,ai],[ag],kK,pF,fun(p:Val aw) (v:Val ag) y a=>Bc v y (fun b=>a b)⟩
def CF:Ç:=Ls 5 [tI,tI,tI,af,ab,ah,ac,ab,ai,tI,tI,af,ab,ah,ac,ab,ai,ai,ag] [tI] ⟨19,.own 4::.fn 158 [(0,0)]::aN 5 [.con tI,.var tI],[bv,bv,bN,bO,.rowc aj]⟩ [(.ret,⟨19,[.own 4,.fn 158 [(0,0)],.any,.any,.var tI,.any,.any,.con tI],[bv,bv,bN,bO,.rowc aj]⟩,[tI]),(.exit 0,⟨19,.own 4::.fn 158 [(0,0)]::aN 5 [.con tI],[bv,bv,bN,bO,.rowc aj]⟩,[])]
def CE (ρ:Type):á ρ:=⟨[1,3,1,2],186,0,CF,fun(p:Val (tyL CF.cs)) (v:Val tI) b a=>let A:=p.2.2.2.2;uq p.1 p.2.1 p.2.2.1 p.2.2.2.1 A.1 A.2.1 A.2.2.1 A.2.2.2.1 A.2.2.2.2.1 A.2.2.2.2.2.2.2.2.2.2.2.2.2.2 v (fun c=>b c) (a 0) (a 1)⟩
def CD:Ç:=Ls 5 [tI,tI,af,ab,ah,ac,ab,ai,tI,tI,af,ab,ah,ac,ab,ai,ai] [tI,tI,ag] ⟨42,[.own 4,.fn 158 [(0,0)],.any,.any,.any,.var tI,.var tI],[bv,bv,bN,bO,.rowv aj]⟩ [(.exit 0,⟨42,[.own 4,.fn 158 [(0,0)],.any,.any,.any,.var tI],[bv,bv,bN,bO,.rowv aj]⟩,[tI,ag])]
def CC (ρ:Type):á ρ:=⟨[1,3],157,0,CD,fun(p:Val (tyL CD.cs)) (v:Val (.pair tI aB)) a b=>let A:=p.2.2.2.2;l8 p.1 p.2.1 p.2.2.1 p.2.2.2.1 A.1 A.2.1 A.2.2.1 A.2.2.2.1 v.1 v.2.1 v.2.2 (fun c d e=>a (c,d,e)) (b 0)⟩
def JD (ρ:Type):List (Et ρ):=[oq ρ]
def V7:List (Nat×ä):=[(79,qg)]
def V6:List (Nat×Y8):=[(233,.row Ĝ)]
def GB (ρ:Type):List (á ρ):=[CE ρ,CC ρ]
def ο (ρ:Type):Env ρ:={Yi V7 (GB ρ) V6 with ranges:=Δ (JD ρ)}
def abx:ä:=⟨[Â],[ag,tI],fun(x:Val Â)=>Rq x⟩
def ZN:List (Nat×ä):=[(80,ι),(81,Pr)]
def Wf (ρ:Type):List (á ρ):=[]
def TJ (ρ:Type):Env ρ:=ë ZN (Wf ρ)
def yq:ä:=⟨[Â],[ag],fun(x:Val Â)=>ro x⟩
def kJ:Tpl:=⟨13,[.any,.any,.box 2 0],[.cells [.con tI,.con tI,.con af,.con ab,.con ah,.con ac,.con ab,.con ai],.dead,.cells [.own 3],.rowv aj]⟩
def oo (ρ:Type):Et ρ:=⟨[1,3,1,1],230,0,3,[tI,tI,af,ab,ah,ac,ab,ai],[ag],kJ,pF,fun(p:Val ae) (v:Val ag) y a=>AZ v y (fun b=>a b)⟩
def Jk (ρ:Type):List (Et ρ):=[oo ρ]
def V4:List (Nat×ä):=[]
def VZ:List (Nat×Y8):=[(233,.row Ĝ)]
def Gx (ρ:Type):List (á ρ):=[]
def jb (ρ:Type):Env ρ:={Yi V4 (Gx ρ) VZ with ranges:=Δ (Jk ρ)}
def kB:ä:=⟨[Â],[aj,.bool],fun(x:Val Â)=>ô x⟩
def CG:Ç:=Ls 1 [ag,tI,tI,tI,af,ab,ah,ac,ab,ai] [tI] ⟨21,.any::.fn 159 [(0,0)]::aN 7 [.con ag,.con tI,.var tI],[bv]⟩ [(.ret,⟨21,[.any,.fn 159 [(0,0)],.any,.any,.var aj,.var .bool,.any,.any,.any,.con ag,.con tI],[bv]⟩,[aj,.bool]),(.exit 0,⟨21,.any::.fn 159 [(0,0)]::aN 7 [.con ag,.con tI],[bv]⟩,[])]
def qD (ρ:Type):á ρ:=⟨[1,3],99,0,CG,fun(p:Val (.pair ag az)) (v:Val tI) b a=>let A:=p.2.2.2.2;jU p.1 p.2.1 p.2.2.1 p.2.2.2.1 A.1 A.2.1 A.2.2.1 A.2.2.2.1 A.2.2.2.2.1 A.2.2.2.2.2 v (fun c=>b c) (a 0) (a 1)⟩
def Hn:List (Nat×ä):=[(79,qg),(96,yq)]
def ET (ρ:Type):List (á ρ):=[qD ρ]
def pf (ρ:Type):Env ρ:=ë Hn (ET ρ)
def IX:ä:=⟨[Â],[aj,tI],fun(x:Val Â)=>nE x⟩
def TF:List (Nat×ä):=[(80,ι),(82,kB)]
def P6 (ρ:Type):List (á ρ):=[]
def JN (ρ:Type):Env ρ:=ë TF (P6 ρ)
def ud:ä:=⟨[aa,aa],[.bool],fun(x:Val (.pair aa aa))=>jj x.1 x.2⟩
def CY:Ç:=Ls 0 [aa,aa] [tI] ⟨26,[.con aa,.con aa,.any,.any,.any,.var tI],[]⟩ [(.ret,⟨26,[.con aa,.con aa,.any,.any,.var .bool],[]⟩,[.bool]),(.exit 0,⟨26,[.con aa,.con aa],[]⟩,[])]
def qM (ρ:Type):á ρ:=⟨[],35,0,CY,fun(p:Val (.pair aa aa)) (v:Val tI) b a=>jW p.1 p.2 v (fun c=>b c) (a 0) (a 1)⟩
def Hz:List (Nat×ä):=[]
def Fc (ρ:Type):List (á ρ):=[qM ρ]
def pz (ρ:Type):Env ρ:=ë Hz (Fc ρ)
def Gs:ä:=⟨[aj,aj],[.bool],fun(x:Val (.pair aj aj))=>rq x.1 x.2⟩
def E9:Ç:=Ls 0 [aj,aj] [tI] ⟨29,[.con aj,.con aj,.any,.any,.any,.var tI],[]⟩ [(.ret,⟨29,[.con aj,.con aj,.any,.any,.var .bool],[]⟩,[.bool]),(.exit 0,⟨29,[.con aj,.con aj],[]⟩,[])]
def s8 (ρ:Type):á ρ:=⟨[],26,0,E9,fun(p:Val (.pair aj aj)) (v:Val tI) b a=>kY p.1 p.2 v (fun c=>b c) (a 0) (a 1)⟩
def JS:List (Nat×ä):=[(35,ud)]
def Hx (ρ:Type):List (á ρ):=[s8 ρ]
def rM (ρ:Type):Env ρ:=ë JS (Hx ρ)
def Cb:ä:=⟨[Â,tI,tI],[tI],fun(x:Val (.pair Â Ä))=>tF x.1 x.2.1 x.2.2⟩
def zN:Ç:=Ls 2 [af,tI,tI,tI,af,ab,ah,ac,ab,ai,tI] [tI] ⟨19,.con af::.fn 169 [(1,0)]::aN 5 [.con tI,.var tI],[bv,bt]⟩ [(.ret,⟨19,[.con af,.fn 169 [(1,0)],.any,.any,.var tI,.any,.any,.con tI],[bv,bt]⟩,[tI]),(.exit 0,⟨19,.con af::.fn 169 [(1,0)]::aN 5 [.con tI],[bv,bt]⟩,[])]
def zM (ρ:Type):á ρ:=⟨[3,4,1,2],229,0,zN,fun(p:Val (tyL zN.cs)) (v:Val tI) b a=>qB p.1 p.2.1 p.2.2.2.2.2.2.2.2.2.2 v (fun c=>b c) (a 0) (a 1)⟩
def Tt:List (Nat×ä):=[]
def PR (ρ:Type):List (á ρ):=[zM ρ]
def Bb (ρ:Type):Env ρ:=ë Tt (PR ρ)
def N8:ä:=⟨[aa,aa],[aa,aa,tI],fun(x:Val (.pair aa aa))=>oU x.1 x.2⟩
def Q2:List (Nat×ä):=[(148,Ch),(172,EJ)]
def Nz (ρ:Type):List (á ρ):=[]
def GN (ρ:Type):Env ρ:=ë Q2 (Nz ρ)
def Cc:ä:=⟨[Â,tI],[.bool,tI],fun(x:Val (.pair Â tI))=>oA x.1 x.2⟩
def qI:Ç:=Ls 6 [tI,tI,tI,af,ab,ah,ac,ab,ai,tI,tI,tI,af,ab,ah,ac,ab,ai,tI,tI,ac] [tI] ⟨19,.own 5::.fn 171 [(3,0)]::aN 5 [.con tI,.var tI],cn⟩ [(.ret,⟨19,[.own 5,.fn 171 [(3,0)],.any,.any,.var tI,.any,.any,.con tI],cn⟩,[tI]),(.exit 0,⟨19,.own 5::.fn 171 [(3,0)]::aN 5 [.con tI],cn⟩,[])]
def qH (ρ:Type):á ρ:=⟨[7,2,1,5,1,2],175,0,qI,fun(p:Val (tyL qI.cs)) (v:Val tI) b a=>jV p.1 p.2.2.2.2.2.2.2.2.2.1 p.2.2.2.2.2.2.2.2.2.2.2.2.2.2.2.2.2.2.2.2 v (fun c=>b c) (a 0) (a 1)⟩
def qG:Ç:=Ls 6 [tI,tI,af,ab,ah,ac,ab,ai,tI,tI,tI,af,ab,ah,ac,ab,ai,tI,tI] [tI,tI,ac] ⟨42,[.own 5,.fn 171 [(3,0)],.any,.any,.any,.var tI,.var tI],[bv,bt,bv,bP,bQ,.rowv ã]⟩ [(.exit 0,⟨42,[.own 5,.fn 171 [(3,0)],.any,.any,.any,.var tI],[bv,bt,bv,bP,bQ,.rowv ã]⟩,[tI,ac])]
def qF (ρ:Type):á ρ:=⟨[7,2,1,5],151,0,qG,fun(p:Val (tyL qG.cs)) (v:Val (.pair tI aH)) a b=>Α p.2.2.2.2.2.2.2.2.1 v.1 v.2.1 v.2.2 (fun c d e=>a (c,d,e)) (b 0)⟩
def Hr:List (Nat×ä):=[(80,ι),(82,kB),(88,Cb),(91,N8),(92,Ń)]
def EY (ρ:Type):List (á ρ):=[qH ρ,qF ρ]
def kL (ρ:Type):Env ρ:=ë Hr (EY ρ)
def H5:ä:=⟨[Â,aa],[Â],fun(x:Val aV)=>vm x.1 x.2⟩
def CA:Ç:=Ls 7 [tI,tI,tI,af,ab,ah,ac,ab,ai,aa,tI,tI,tI,tI,af,ab,ah,ac,ab,ai,tI,tI,ac] [tI] ⟨19,.own 6::.fn 171 [(4,0)]::aN 5 [.con tI,.var tI],cp⟩ [(.ret,⟨19,[.own 6,.fn 171 [(4,0)],.any,.any,.var tI,.any,.any,.con tI],cp⟩,[tI]),(.exit 0,⟨19,.own 6::.fn 171 [(4,0)]::aN 5 [.con tI],cp⟩,[])]
def Cz (ρ:Type):á ρ:=⟨[1,2,1,5,1,2],175,0,CA,fun(p:Val (tyL CA.cs)) (v:Val tI) b a=>un p.1 p.2.2.2.2.2.2.2.2.2.1 p.2.2.2.2.2.2.2.2.2.2.2.2.2.2.2.2.2.2.2.2.2.2 v (fun c=>b c) (a 0) (a 1)⟩
def Cy:Ç:=Ls 7 [tI,tI,af,ab,ah,ac,ab,ai,aa,tI,tI,tI,tI,af,ab,ah,ac,ab,ai,tI,tI] [tI,tI,ac] ⟨42,[.own 6,.fn 171 [(4,0)],.any,.any,.any,.var tI,.var tI],[bv,bo,bQ,bv,bR,bQ,.rowv ã]⟩ [(.exit 0,⟨42,[.own 6,.fn 171 [(4,0)],.any,.any,.any,.var tI],[bv,bo,bQ,bv,bR,bQ,.rowv ã]⟩,[tI,ac])]
def Cx (ρ:Type):á ρ:=⟨[1,2,1,5],151,0,Cy,fun(p:Val (tyL Cy.cs)) (v:Val (.pair tI aH)) a b=>l6 p.2.2.2.2.2.2.2.2.1 v.1 v.2.1 v.2.2 (fun c d e=>a (c,d,e)) (b 0)⟩
def V5:List (Nat×ä):=[(92,Ń)]
def Tr (ρ:Type):List (á ρ):=[Cz ρ,Cx ρ]
def yv (ρ:Type):Env ρ:=ë V5 (Tr ρ)
def Ps:ä:=⟨[Â],[aa,tI],fun(x:Val Â)=>oB x⟩
def Qa:Ç:=Ls 0 [ac,tI,tI,tI,af,ab,ah,ac,ab,ai] [tI,aa] ⟨66,.any::.box 0 0::aN 5 (.own 1::aN 19 [.con ac,.con tI,.var tI]),[bv,.rowv tI]⟩ [(.exit 0,⟨66,.any::.box 0 0::aN 5 (.own 1::aN 19 [.con ac,.con tI]),[bv,.rowv tI]⟩,[aa])]
def CU (ρ:Type):á ρ:=⟨[],29,0,Qa,fun(p:Val (.pair ac az)) (v:Val Ğ) a b=>uz p.1 p.2.1 v.1 v.2 (fun c d=>a (c,d)) (b 0)⟩
def P9:Ç:=Ls 0 [tI,tI,af,ab,ah,ac,ab,ai] [aa,tI] ⟨66,.any::.box 0 0::aN 5 [.var aa,.any,.any,.var tI],[bv]⟩ [(.exit 2,⟨66,.any::.box 0 0::aN 5 [.var aa],[bv]⟩,[aa])]
def CT (ρ:Type):á ρ:=⟨[],29,2,P9,fun(p:Val ae) (v:Val ax) a b=>let A:=p.2.2.2.2;ph p.1 p.2.1 p.2.2.1 p.2.2.2.1 A.1 A.2.1 A.2.2.1 A.2.2.2 v.1 v.2 (fun c d=>a (c,d)) (b 0)⟩
def We:List (Nat×ä):=[(80,ι),(82,kB),(87,H5),(93,iI)]
def TG (ρ:Type):List (á ρ):=[CU ρ,CT ρ]
def yw (ρ:Type):Env ρ:=ë We (TG ρ)
def N4:ä:=⟨[aa,tI],[aa],fun(x:Val ax)=>iB x.1 x.2⟩
def JH:Ç:=Ls 0 [tI,aa,tI] [tI,aa] ⟨26,[.any,.con tI,.any,.any,.any,.own 0,.any,.any,.con aa,.con tI,.var tI],bY⟩ [(.exit 0,⟨26,[.any,.con tI,.any,.any,.any,.own 0,.any,.any,.con aa,.con tI],bY⟩,[aa])]
def xe (ρ:Type):á ρ:=⟨[],98,0,JH,fun(p:Val (.pair tI ax)) (v:Val Ğ) a b=>ot p.1 p.2.1 p.2.2 v.1 v.2 (fun c d=>a (c,d)) (b 0)⟩
def PY:List (Nat×ä):=[]
def MK (ρ:Type):List (á ρ):=[xe ρ]
def xf (ρ:Type):Env ρ:=ë PY (MK ρ)
def wD:ä:=⟨[Â,aa],[aa,tI],fun(x:Val aV)=>ĥ x.1 x.2⟩
def sM:Ç:=Ls 3 [ac,tI,tI,tI,af,ab,ah,ac,ab,ai,aa,tI] [tI] ⟨19,.con ac::.fn 95 [(2,0)]::aN 5 [.con tI,.var tI],[bv,bo,bt]⟩ [(.ret,⟨19,[.con ac,.fn 95 [(2,0)],.any,.any,.var tI,.any,.any,.con tI],[bv,bo,bt]⟩,[tI]),(.exit 0,⟨19,.con ac::.fn 95 [(2,0)]::aN 5 [.con tI],[bv,bo,bt]⟩,[])]
def sL (ρ:Type):á ρ:=⟨[9,4,1,2],175,0,sM,fun(p:Val (tyL sM.cs)) (v:Val tI) b a=>kM p.1 p.2.1 p.2.2.2.2.2.2.2.2.2.2.2 v (fun c=>b c) (a 0) (a 1)⟩
def sO:Ç:=Ls 0 [aa,tI,tI,tI,af,ab,ah,ac,ab,ai,aa] [tI] ⟨135,aN 2 (.box 0 0::.box 1 0::aN 28 [.con aa,.con tI,.var tI]),[bv,bo]⟩ [(.ret,⟨135,aN 2 (.box 0 0::.box 1 0::.nils::.var tI::aN 26 [.con aa,.con tI]),[bv,bo]⟩,[tI]),(.exit 0,⟨135,aN 2 (.box 0 0::.box 1 0::aN 28 [.con aa,.con tI]),[bv,bo]⟩,[])]
def sN (ρ:Type):á ρ:=⟨[],30,0,sO,fun(p:Val (tyL sO.cs)) (v:Val tI) b a=>π p.1 p.2.1 p.2.2.2.2.2.2.2.1 v (fun c=>b c) (a 0) (a 1)⟩
def sK:Ç:=Ls 0 [tI,tI,af,ab,ah,ac,ab,ai,aa] [tI] ⟨135,aN 2 (.box 0 0::.box 1 0::aN 5 [.var tI]),[bv,bo]⟩ [(.ret,⟨135,[.any,.any,.box 0 0,.box 1 0,.nils,.var tI],[bv,bo]⟩,[tI]),(.exit 2,⟨135,[.any,.any,.box 0 0,.box 1 0],[bv,bo]⟩,[])]
def sJ (ρ:Type):á ρ:=⟨[],30,2,sK,fun(p:Val (tyL sK.cs)) (v:Val tI) b a=>iQ p.2.2.2.2.2.2.2.2 v (fun c=>b c) (a 0) (a 1)⟩
def sI:Ç:=Ls 4 [ag,tI,tI,tI,af,ab,ah,ac,ab,ai,aa,tI] [tI] ⟨21,.any::.fn 100 [(3,0),(2,0)]::aN 7 [.con ag,.con tI,.var tI],[bv,bo,bt,bS]⟩ [(.ret,⟨21,[.any,.fn 100 [(3,0),(2,0)],.any,.any,.var aj,.var .bool,.any,.any,.any,.con ag,.con tI],[bv,bo,bt,bS]⟩,[aj,.bool]),(.exit 0,⟨21,.any::.fn 100 [(3,0),(2,0)]::aN 7 [.con ag,.con tI],[bv,bo,bt,bS]⟩,[])]
def sH (ρ:Type):á ρ:=⟨[21,2],99,0,sI,fun(p:Val (tyL sI.cs)) (v:Val tI) b a=>let A:=p.2.2.2.2;let B:=A.2.2.2.2;iP p.1 p.2.1 p.2.2.1 p.2.2.2.1 A.1 A.2.1 A.2.2.1 A.2.2.2.1 B.1 B.2.1 B.2.2.1 B.2.2.2 v (fun c=>b c) (a 0) (a 1)⟩
def sE:Ç:=Ls 4 [aa,aa,aa,tI,aa,aa,tI,tI,af,ab,ah,ac,ab,ai] [tI] ⟨36,.con aa::.con aa::aN 7 [.con aa,.con tI,.var tI],cq⟩ [(.ret,⟨36,.con aa::.con aa::aN 2 (.var tI::aN 4 [.con aa,.con tI]),cq⟩,[tI]),(.exit 0,⟨36,.con aa::.con aa::aN 7 [.con aa,.con tI],cq⟩,[])]
def sw (ρ:Type):á ρ:=⟨[29,14],101,0,sE,fun(p:Val (tyL sE.cs)) (v:Val tI) b a=>Ŵ p.2.1 p.2.2.1 p.2.2.2.1 v (fun c=>b c) (a 0) (a 1)⟩
def sv:Ç:=Ls 0 [ag,aa,tI,tI,aa,tI,tI,tI,aa,aa,tI,tI,af,ab,ah,ac,ab,ai] [tI] ⟨135,aN 3 (.box 0 0::aN 6 (.con ag::.any::.box 1 0::.own 2::aN 2 (.con aa::.con tI::.con tI::.con aa::aN 57 (.con tI::.con tI::aN 23 [.own 2,.con tI,.var tI])))),cq⟩ [(.exit 5,⟨135,aN 3 (.box 0 0::aN 6 (.con ag::.any::.box 1 0::.own 2::aN 2 (.con aa::.con tI::.con tI::.con aa::aN 57 (.con tI::.con tI::aN 23 [.own 2,.con tI])))),cq⟩,[]),(.exit 6,⟨135,aN 3 (.box 0 0::aN 6 (.con ag::.any::.box 1 0::.own 2::aN 2 (.con aa::.con tI::.con tI::.con aa::aN 57 (.con tI::.con tI::aN 23 [.own 2,.con tI])))),cq⟩,[])]
def su (ρ:Type):á ρ:=⟨[],30,6,sv,fun(p:Val (tyL sv.cs)) (v:Val tI) b a=>ŕ p.2.2.2.1 p.2.2.2.2.2.2.2.1 p.2.2.2.2.2.2.2.2.2.1 v (fun c=>b c) (a 0) (a 1)⟩
def sr:Ç:=Ls 0 [ag,aa,tI,tI,aa,tI,tI,ag,tI,aa,tI,tI,af,ab,ah,ac,ab,ai] [tI,aa] ⟨135,aN 3 (.box 0 0::aN 6 (.con ag::.any::.box 1 0::.own 2::aN 2 (.con aa::.con tI::.con tI::.con aa::aN 57 (.con tI::.con tI::aN 34 [.con ag,.con tI,.var tI])))),cr⟩ [(.exit 5,⟨135,aN 3 (.box 0 0::aN 6 (.con ag::.any::.box 1 0::.own 2::aN 2 (.con aa::.con tI::.con tI::.con aa::aN 57 (.con tI::.con tI::aN 34 [.con ag,.con tI])))),cr⟩,[aa]),(.exit 8,⟨135,aN 3 (.box 0 0::aN 6 (.con ag::.any::.box 1 0::.own 2::aN 2 (.con aa::.con tI::.con tI::.con aa::aN 57 (.con tI::.con tI::aN 34 [.con ag,.con tI])))),cr⟩,[aa])]
def sq (ρ:Type):á ρ:=⟨[],30,8,sr,fun(p:Val (tyL sr.cs)) (v:Val Ğ) b a=>let A:=p.2.2.2.2.2.2.2;let B:=A.2.2.2.2;let C:=B.2.2.2.2;Ŕ p.2.2.2.1 A.1 A.2.1 A.2.2.1 A.2.2.2.1 B.1 B.2.1 B.2.2.1 B.2.2.2.1 C.1 C.2.1 C.2.2 v.1 v.2 (fun c d=>b (c,d)) (a 0) (a 1)⟩
def sG:Ç:=Ls 0 [ag,tI,aa,tI,tI,af,ab,ah,ac,ab,ai] [aa,tI,tI,aa] ⟨135,aN 3 (.box 0 0::aN 6 (.con ag::.any::.box 1 0::.own 2::aN 2 (.var aa::.var tI::aN 59 [.con tI,.var tI]))),cr⟩ [(.exit 4,⟨135,aN 3 (.box 0 0::aN 6 (.con ag::.any::.box 1 0::.own 2::aN 3 (.var tI::aN 59 [.con tI]))),cr⟩,[tI,aa])]
def sF (ρ:Type):á ρ:=⟨[],30,4,sG,fun(p:Val (tyL sG.cs)) (v:Val (.pair aa aG)) a b=>let A:=p.2.2.2.2;let B:=A.2.2.2.2;ŵ p.1 p.2.1 p.2.2.1 p.2.2.2.1 A.1 A.2.1 A.2.2.1 A.2.2.2.1 B.1 B.2.1 B.2.2 v.1 v.2.1 v.2.2.1 v.2.2.2 (fun c d e f=>a (c,d,e,f)) (b 0)⟩
def JK:List (Nat×ä):=[(79,qg),(80,ι),(87,H5),(96,yq),(98,N4),(180,lX)]
def Hs (ρ:Type):List (á ρ):=[sL ρ,sN ρ,sJ ρ,sH ρ,sw ρ,su ρ,sq ρ,sF ρ]
def Ļ (ρ:Type):Env ρ:=ë JK (Hs ρ)
def X6:ä:=⟨[Â],[ag,tI],fun(x:Val Â)=>Il x⟩
def Wd:List (Nat×ä):=[(80,ι),(96,yq)]
def TC (ρ:Type):List (á ρ):=[]
def Ol (ρ:Type):Env ρ:=ë Wd (TC ρ)
def S9:ä:=⟨[È,Ä],[tI,tI],fun(x:Val aK)=>pL x.1 x.2⟩
def Un:List (Nat×ä):=[(72,o8),(135,Ű),(136,Cg)]
def QZ (ρ:Type):List (á ρ):=[]
def KJ (ρ:Type):Env ρ:=ë Un (QZ ρ)
def Yc:ä:=⟨[È,Ä],[È,tI],fun(x:Val aK)=>Iq x.1 x.2⟩
def DG:Ç:=Ls 6 [tI,tI,tI,af,ab,ah,ac,ab,tI,tI,tI,tI,tI,tI,af,ab,ah,ac,ab,tI,tI,tI,tI,ac,tI,tI,af,ab,ah,ab] [tI,ac] ⟨50,.any::.box 6 0::.box 7 0::.own 8::aN 21 [.own 8,.con tI,.var tI],cu⟩ [(.exit 0,⟨50,.any::.box 6 0::.box 7 0::.own 8::aN 21 [.own 8,.con tI],cu⟩,[ac])]
def DF (ρ:Type):á ρ:=⟨[1,2,4,1],202,0,DG,fun(p:Val (tyL DG.cs)) (v:Val aH) a b=>vd p.1 v.1 v.2 (fun c d=>a (c,d)) (b 0)⟩
def WM:List (Nat×ä):=[(72,o8)]
def Ul (ρ:Type):List (á ρ):=[DF ρ]
def FJ (ρ:Type):Env ρ:=ë WM (Ul ρ)
def SX:ä:=⟨[Ì,aa],[tI],fun(x:Val bj)=>D8 x.1 x.2⟩
def MY:Ç:=Ls 0 [aa,tI,tI,ak] [tI] ⟨37,aN 2 (.box 0 0::aN 16 [.con aa,.con tI,.var tI]),[bK]⟩ [(.ret,⟨37,aN 2 (.box 0 0::.any::.var tI::aN 14 [.con aa,.con tI]),[bK]⟩,[tI]),(.exit 0,⟨37,aN 2 (.box 0 0::aN 16 [.con aa,.con tI]),[bK]⟩,[])]
def Aa (ρ:Type):á ρ:=⟨[],133,0,MY,fun(p:Val (.pair aa aR)) (v:Val tI) b a=>qN p.1 p.2.1 p.2.2.1 p.2.2.2 v (fun c=>b c) (a 0) (a 1)⟩
def TO:List (Nat×ä):=[(126,wE),(127,qi),(196,Pu)]
def Qj (ρ:Type):List (á ρ):=[Aa ρ]
def Bk (ρ:Type):Env ρ:=ë TO (Qj ρ)
def N6:ä:=⟨[Ì,ao,tI],[aa],fun(x:Val (.pair Ì (.pair ao tI)))=>tG x.1 x.2.1 x.2.2⟩
def xC:Ç:=Ls 0 [ao,tI,tI,tI,ak] [tI,aa] ⟨29,.any::.con ao::.con tI::.box 0 0::aN 3 (.own 1::aN 5 [.con tI,.var tI]),[bK,.rowv tI]⟩ [(.exit 0,⟨29,.any::.con ao::.con tI::.box 0 0::aN 3 (.own 1::aN 5 [.con tI]),[bK,.rowv tI]⟩,[aa])]
def xB (ρ:Type):á ρ:=⟨[],134,0,xC,fun(p:Val (tyL xC.cs)) (v:Val Ğ) a b=>ow p.2.2.1 v.1 v.2 (fun c d=>a (c,d)) (b 0)⟩
def xA:Ç:=Ls 2 [ao,ak,tI,tI,ak,aa,tI,ak,aq,aa] [tI,tI] ⟨140,.any::.con ao::.own 1::.box 2 0::aN 3 (.box 3 0::.own 4::.own 5::.var tI::aN 14 [.con ak,.con tI,.var tI]),[bK,.rowc tI,bK,.cells [.nils],.rowc .bool,.rowc tI]⟩ [(.exit 0,⟨140,.any::.con ao::.own 1::.box 2 0::aN 3 (.box 3 0::.own 4::.own 5::.var tI::aN 14 [.con ak,.con tI]),[bK,.rowc tI,bK,.cells [.nils],.rowc .bool,.rowc tI]⟩,[tI])]
def xz (ρ:Type):á ρ:=⟨[8,3],197,0,xA,fun(p:Val (tyL xA.cs)) (v:Val Ä) a b=>uK p.2.1 p.2.2.1 v.1 v.2 (fun c d=>a (c,d)) (b 0)⟩
def xy:Ç:=Ls 2 [ao,tI,tI,tI,ak,aa,tI,ak,aa] [tI,aq,aa] ⟨140,.any::.con ao::.own 1::.box 2 0::aN 3 (.box 3 0::.own 4::.own 5::.con tI::aN 27 [.con tI,.var tI]),ce⟩ [(.exit 2,⟨140,.any::.con ao::.own 1::.box 2 0::aN 3 (.box 3 0::.own 4::.own 5::.con tI::aN 27 [.con tI]),ce⟩,[aq,aa])]
def xx (ρ:Type):á ρ:=⟨[8,3],197,2,xy,fun(p:Val (tyL xy.cs)) (v:Val (.pair tI aL)) a b=>uJ p.2.2.1 p.2.2.2.2.2.1 v.1 v.2.1 v.2.2 (fun c d e=>a (c,d,e)) (b 0)⟩
def xv:Ç:=Ls 2 [ao,tI,tI,ak,tI,tI,ak,tI,ak,aa] [tI,aa,aq,aa] ⟨140,.any::.con ao::.own 1::.box 2 0::aN 3 (.box 3 0::.own 4::.own 5::.con tI::aN 3 (.con tI::aN 62 [.con ak,.con tI,.var tI])),cf⟩ [(.ret,⟨140,.any::.con ao::.own 1::.box 2 0::aN 2 (.var .bool::.box 3 0::.own 4::.own 5::.con tI::aN 3 (.con tI::aN 62 [.con ak,.con tI])),cf⟩,[.bool,aa,aq,aa]),(.exit 6,⟨140,.any::.con ao::.own 1::.box 2 0::aN 3 (.box 3 0::.own 4::.own 5::.con tI::aN 3 (.con tI::aN 62 [.con ak,.con tI])),cf⟩,[aa,aq,aa])]
def xu (ρ:Type):á ρ:=⟨[8,3],197,6,xv,fun(p:Val (tyL xv.cs)) (v:Val (.pair tI (.pair aa aL))) b a=>C6 p.1 p.2.1 p.2.2.1 p.2.2.2.1 p.2.2.2.2.1 v.1 v.2.1 v.2.2.1 v.2.2.2 (fun c d e f=>b (c,d,e,f)) (a 0) (a 1)⟩
def JX:Ç:=Ls 2 [ao,tI,tI,ak,tI,ak] [aa,aq,aa,aa] ⟨140,[.any,.con ao,.own 1,.box 2 0,.any,.any,.any,.box 3 0,.own 4,.own 5,.con tI],cg⟩ [(.ret,⟨140,[.any,.con ao,.own 1,.box 2 0,.any,.any,.var .bool,.box 3 0,.own 4,.own 5,.con tI],cg⟩,[.bool,aa,aq,aa,aa])]
def xw (ρ:Type):á ρ:=⟨[8,3],197,4,JX,fun(p:Val (.pair ao bn)) (v:Val aM) a b=>uI p.1 p.2.1 p.2.2.2.2.1 p.2.2.2.2.2 v.1 v.2.1 v.2.2.1 v.2.2.2 (fun c d e f=>a (c,d,e,f)) (b 0)⟩
def Qi:List (Nat×ä):=[]
def MW (ρ:Type):List (á ρ):=[xB ρ,xz ρ,xx ρ,xu ρ,xw ρ]
def iW (ρ:Type):Env ρ:=ë Qi (MW ρ)
def SY:ä:=⟨[Ì],[ab,tI],fun(x:Val Ì)=>tJ x⟩
def M3:Ç:=Ls 1 [aa,tI,tI,ak,tI,ak] [tI,aa] ⟨28,.any::.box 1 0::aN 2 (.con aa::.own 2::aN 7 [.con tI,.var tI]),[bK,bK,.rowv tI]⟩ [(.exit 0,⟨28,.any::.box 1 0::aN 2 (.con aa::.own 2::aN 7 [.con tI]),[bK,bK,.rowv tI]⟩,[aa])]
def Ac (ρ:Type):á ρ:=⟨[4,1],237,0,M3,fun(p:Val (.pair aa bn)) (v:Val Ğ) a b=>qP p.2.1 p.2.2.2.2.1 p.2.2.2.2.2 v.1 v.2 (fun c d=>a (c,d)) (b 0)⟩
def MZ:Ç:=Ls 0 [aa,tI,aa] [tI,ab] ⟨39,aN 5 (.con aa::.own 0::.own 1::aN 12 [.con tI,.var tI]),[.rowc tI,.rowv Ä]⟩ [(.exit 0,⟨39,aN 5 (.con aa::.own 0::.own 1::aN 12 [.con tI]),[.rowc tI,.rowv Ä]⟩,[ab])]
def Ab (ρ:Type):á ρ:=⟨[],185,0,MZ,fun(p:Val aU) (v:Val ba) a b=>qO p.1 p.2.1 p.2.2 v.1 v.2 (fun c d=>a (c,d)) (b 0)⟩
def TP:List (Nat×ä):=[(133,SX),(134,N6)]
def Ql (ρ:Type):List (á ρ):=[Ac ρ,Ab ρ]
def uL (ρ:Type):Env ρ:=ë TP (Ql ρ)
def N2:ä:=⟨[È,Ä],[Ä,tI],fun(x:Val aK)=>yJ x.1 x.2⟩
def PQ:List (Nat×ä):=[(66,sj),(68,S9),(69,Yc),(185,SY)]
def Mv (ρ:Type):List (á ρ):=[]
def Gz (ρ:Type):Env ρ:=ë PQ (Mv ρ)
def N5:ä:=⟨[Â,tI,tI],[ak,tI],fun(x:Val (.pair Â Ä))=>yL x.1 x.2.1 x.2.2⟩
def xm:Ç:=Ls 0 [tI,tI,ag,tI,tI,tI,af,ab,ah,ac,ab,ai] [tI,aQ] ⟨113,.any::.con tI::.con tI::.box 0 0::aN 7 (.omp 1::aN 30 [.con ag,.con tI,.var tI]),[bv,.mapv tI Ä]⟩ [(.ret,⟨113,.any::.con tI::.con tI::.box 0 0::aN 2 (.nils::.var tI::aN 3 (.omp 1::aN 30 [.con ag,.con tI])),[bv,.mapv tI Ä]⟩,[tI,aQ]),(.exit 0,⟨113,.any::.con tI::.con tI::.box 0 0::aN 7 (.omp 1::aN 30 [.con ag,.con tI]),[bv,.mapv tI Ä]⟩,[aQ])]
def xl (ρ:Type):á ρ:=⟨[],42,0,xm,fun(p:Val (tyL xm.cs)) (v:Val (.pair tI aQ)) b a=>let A:=p.2.2.2.2;let B:=A.2.2.2.2;ov p.1 p.2.1 p.2.2.1 p.2.2.2.1 A.1 A.2.1 A.2.2.1 A.2.2.2.1 B.1 B.2.1 B.2.2.1 B.2.2.2 v.1 v.2 (fun c d=>b (c,d)) (a 0) (a 1)⟩
def xj:Ç:=Ls 0 [af,tI,aQ] [tI,ak] ⟨113,aN 11 (.omp 0::aN 7 (.own 1::aN 70 [.con af,.con tI,.var tI])),[.mapc tI Ä,.rowv œ]⟩ [(.exit 2,⟨113,aN 11 (.omp 0::aN 7 (.own 1::aN 70 [.con af,.con tI])),[.mapc tI Ä,.rowv œ]⟩,[ak])]
def xi (ρ:Type):á ρ:=⟨[],42,2,xj,fun(p:Val (tyL xj.cs)) (v:Val Ì) a b=>ou p.1 p.2.1 p.2.2 v.1 v.2 (fun c d=>a (c,d)) (b 0)⟩
def P8:List (Nat×ä):=[(80,ι),(81,Pr),(88,Cb),(104,kz),(105,IW),(106,N2)]
def MO (ρ:Type):List (á ρ):=[xl ρ,xi ρ]
def qK (ρ:Type):Env ρ:=ë P8 (MO ρ)
def SQ:ä:=⟨[Â,aj],[.bool],fun(x:Val aJ)=>D0 x.1 x.2⟩
def jE:Tpl:=⟨13,[.any,.any,.box 2 0],[.cells [.con tI,.con tI,.con af,.con ab,.con ah,.con ac,.con ab,.con ai],.dead,.cells [.own 3],.rowv tI]⟩
def mF (ρ:Type):Et ρ:=⟨[7,8,1,1,1,1],298,0,3,[tI,tI,af,ab,ah,ac,ab,ai],[aa],jE,DK,fun(p:Val ae) (v:Val aa) y a=>wY v y (fun b=>a b)⟩
def My:Ç:=Ls 0 [aj,tI,tI,tI,af,ab,ah,ac,ab,ai] [tI] ⟨42,aN 2 (.box 0 0::aN 11 [.con aj,.con tI,.var tI]),[bv]⟩ [(.ret,⟨42,aN 2 (.box 0 0::.any::.var .bool::aN 9 [.con aj,.con tI]),[bv]⟩,[.bool]),(.exit 0,⟨42,aN 2 (.box 0 0::aN 11 [.con aj,.con tI]),[bv]⟩,[])]
def zO (ρ:Type):á ρ:=⟨[],154,0,My,fun(p:Val (.pair aj az)) (v:Val tI) b a=>qC p.1 p.2.1 p.2.2.2.2.2.2.2.2.2 v (fun c=>b c) (a 0) (a 1)⟩
def GA (ρ:Type):List (Et ρ):=[mF ρ]
def Tu:List (Nat×ä):=[(220,SP)]
def CB (ρ:Type):List (á ρ):=[zO ρ]
def Λ (ρ:Type):Env ρ:={ë Tu (CB ρ) with ranges:=Δ (GA ρ)}
def SU:ä:=⟨[Â,aj],[tI],fun(x:Val aJ)=>D4 x.1 x.2⟩
def Tx:List (Nat×ä):=[(80,ι),(154,SQ)]
def PZ (ρ:Type):List (á ρ):=[]
def JI (ρ:Type):Env ρ:=ë Tx (PZ ρ)
def abw:ä:=⟨[Â,aj,tI,tI],[tI,tI],fun(x:Val bc)=>Rp x.1 x.2.1 x.2.2.1 x.2.2.2⟩
def ZM:List (Nat×ä):=[(78,SU),(88,Cb),(105,IW)]
def V9 (ρ:Type):List (á ρ):=[]
def TB (ρ:Type):Env ρ:=ë ZM (V9 ρ)
def SW:ä:=⟨[Ì,tI,tI],[aj],fun(x:Val (.pair Ì Ä))=>D7 x.1 x.2.1 x.2.2⟩
def Ow:Ç:=Ls 0 [tI,tI,tI,tI,ak] [tI,aa] ⟨45,.any::.con tI::.con tI::.box 0 0::aN 3 (.own 1::aN 7 [.con tI,.var tI]),[bK,.rowv tI]⟩ [(.exit 0,⟨45,.any::.con tI::.con tI::.box 0 0::aN 3 (.own 1::aN 7 [.con tI]),[bK,.rowv tI]⟩,[aa])]
def Ov (ρ:Type):á ρ:=⟨[],128,0,Ow,fun(p:Val (tyL Ow.cs)) (v:Val Ğ) a b=>yx p.2.2.1 v.1 v.2 (fun c d=>a (c,d)) (b 0)⟩
def Ot:Ç:=Ls 4 [aa,tI,aj,tI,ak] [tI,aa] ⟨53,.con aa::.box 1 0::aN 2 (.own 4::aN 7 [.con tI,.var tI]),cw⟩ [(.exit 0,⟨53,.con aa::.box 1 0::aN 2 (.own 4::aN 7 [.con tI]),cw⟩,[aa])]
def Oq (ρ:Type):á ρ:=⟨[12,8],198,0,Ot,fun(p:Val (tyL Ot.cs)) (v:Val Ğ) a b=>Qh p.2.1 v.1 v.2 (fun c d=>a (c,d)) (b 0)⟩
def Oo:Ç:=Ls 4 [aa,ak,tI,aj,tI,ak] [tI,aa] ⟨53,.con aa::aN 3 (.own 4::aN 16 [.con ak,.con tI,.var tI]),cw⟩ [(.exit 2,⟨53,.con aa::aN 3 (.own 4::aN 16 [.con ak,.con tI]),cw⟩,[aa])]
def On (ρ:Type):á ρ:=⟨[12,8],198,2,Oo,fun(p:Val (tyL Oo.cs)) (v:Val Ğ) a b=>C5 p.1 p.2.1 p.2.2.1 v.1 v.2 (fun c d=>a (c,d)) (b 0)⟩
def ZO:Ç:=Ls 0 [tI,tI,ak] [tI,aj] ⟨45,aN 9 (.own 0::.fn 198 [(1,0)]::aN 18 [.con tI,.var tI]),[.rowv aa,bK]⟩ [(.exit 2,⟨45,aN 9 (.own 0::.fn 198 [(1,0)]::aN 18 [.con tI]),[.rowv aa,bK]⟩,[aj])]
def Ou (ρ:Type):á ρ:=⟨[],128,2,ZO,fun(p:Val aR) (v:Val bf) a b=>Ib p.1 p.2.1 p.2.2 v.1 v.2 (fun c d=>a (c,d)) (b 0)⟩
def aeA:List (Nat×ä):=[]
def abV (ρ:Type):List (á ρ):=[Ov ρ,Oq ρ,On ρ,Ou ρ]
def Fl (ρ:Type):Env ρ:=ë aeA (abV ρ)
def SZ:ä:=⟨[Ì],[aa,tI],fun(x:Val Ì)=>nF x⟩
def M4:Ç:=Ls 0 [tI,tI,ak] [tI,ag] ⟨93,.any::.box 0 0::aN 6 (.own 1::aN 24 [.con tI,.var tI]),[bK,.rowv aj]⟩ [(.exit 0,⟨93,.any::.box 0 0::aN 6 (.own 1::aN 24 [.con tI]),[bK,.rowv aj]⟩,[ag])]
def Al (ρ:Type):á ρ:=⟨[],64,0,M4,fun(p:Val aR) (v:Val aB) a b=>nk p.1 p.2.1 p.2.2 v.1 v.2 (fun c d=>a (c,d)) (b 0)⟩
def Ae:Ç:=Ls 3 [tI,aj,ak,tI,tI,ak,ag,tI,tI,tI,tI,ak] [tI,tI,tI,aa] ⟨73,.any::.var tI::.con tI::.con aj::.fn 129 []::.box 3 0::aN 5 (.own 4::.var tI::aN 7 [.con ak,.con tI,.var tI]),cz⟩ [(.exit 2,⟨73,.any::.var tI::.con tI::.con aj::.fn 129 []::.box 3 0::aN 5 (.own 4::.var tI::aN 7 [.con ak,.con tI]),cz⟩,[tI,tI,aa])]
def Ad (ρ:Type):á ρ:=⟨[22,10],130,2,Ae,fun(p:Val (tyL Ae.cs)) (v:Val (.pair tI aG)) a b=>GD p.1 p.2.1 p.2.2.1 p.2.2.2.1 v.1 v.2.1 v.2.2.1 v.2.2.2 (fun c d e f=>a (c,d,e,f)) (b 0)⟩
def Ag:Ç:=Ls 3 [aj,tI,ak,ag,tI,tI,tI,tI,ak] [tI,tI,tI,aa] ⟨73,.any::.var tI::.var tI::.con aj::.fn 129 []::.box 3 0::aN 5 [.own 4,.var tI],cz⟩ [(.exit 0,⟨73,aN 3 (.con aj::.fn 129 []::.box 3 0::aN 5 [.own 4]),cz⟩,[aa])]
def Af (ρ:Type):á ρ:=⟨[22,10],130,0,Ag,fun(p:Val (tyL Ag.cs)) (v:Val (.pair tI aG)) a b=>xD p.1 p.2.2.2.2.2.2.2.2 v.1 v.2.1 v.2.2.1 v.2.2.2 (fun c d e f=>a (c,d,e,f)) (b 0)⟩
def Ai:Ç:=Ls 0 [tI,ak,tI,tI,ak,ag] [tI] ⟨93,.any::.box 0 0::aN 6 (.own 1::.any::.fn 129 []::.con tI::aN 37 [.con ak,.con tI,.var tI]),[bK,.rowc aj]⟩ [(.exit 2,⟨93,.any::.box 0 0::aN 6 (.own 1::.any::.fn 129 []::.con tI::aN 37 [.con ak,.con tI]),[bK,.rowc aj]⟩,[]),(.ret,⟨93,.any::.box 0 0::.own 2::.var tI::aN 4 (.own 1::.any::.fn 129 []::.con tI::aN 37 [.con ak,.con tI]),[bK,.rowc aj,.rowv tI]⟩,[tI,aa]),(.exit 4,⟨93,.any::.box 0 0::aN 6 (.own 1::.any::.fn 129 []::.con tI::aN 37 [.con ak,.con tI]),[bK,.rowc aj]⟩,[])]
def Ah (ρ:Type):á ρ:=⟨[],64,4,Ai,fun(p:Val (tyL Ai.cs)) (v:Val tI) b a=>nh p.1 p.2.1 p.2.2.1 p.2.2.2.1 p.2.2.2.2.1 p.2.2.2.2.2 v (fun c=>b c) (a 0) (a 1) (a 2)⟩
def Ak:Ç:=Ls 0 [tI,ak,ag] [tI] ⟨93,.any::.box 0 0::aN 6 [.own 1,.any,.fn 129 [],.var tI],[bK,.rowc aj]⟩ [(.exit 2,⟨93,.any::.box 0 0::aN 6 [.own 1,.any,.fn 129 []],[bK,.rowc aj]⟩,[]),(.ret,⟨93,.any::.box 0 0::.own 2::.var tI::aN 4 [.own 1,.any,.fn 129 []],[bK,.rowc aj,.rowv tI]⟩,[tI,aa])]
def Aj (ρ:Type):á ρ:=⟨[],64,2,Ak,fun(p:Val (tyL Ak.cs)) (v:Val tI) b a=>qQ p.1 p.2.1 p.2.2 v (fun c=>b c) (a 0) (a 1)⟩
def TQ:List (Nat×ä):=[(126,wE),(127,qi),(128,SW)]
def Qn (ρ:Type):List (á ρ):=[Al ρ,Ad ρ,Af ρ,Ah ρ,Aj ρ]
def j9 (ρ:Type):Env ρ:=ë TQ (Qn ρ)
def SV:ä:=⟨[Â],[aj,tI],fun(x:Val Â)=>D6 x⟩
def MN:Ç:=Ls 0 [ag,tI,tI,tI,af,ab,ah,ac,ab,ai] [tI,aj] ⟨46,.any::.box 0 0::aN 3 (.own 1::aN 13 [.con ag,.con tI,.var tI]),[bv,.rowv aa]⟩ [(.ret,⟨46,.any::.box 0 0::.nils::.var tI::.any::.own 1::aN 13 [.con ag,.con tI],[bv,.rowv aa]⟩,[tI,aj]),(.exit 0,⟨46,.any::.box 0 0::aN 3 (.own 1::aN 13 [.con ag,.con tI]),[bv,.rowv aa]⟩,[aj])]
def zX (ρ:Type):á ρ:=⟨[],59,0,MN,fun(p:Val (.pair ag az)) (v:Val bf) b a=>let A:=p.2.2.2.2;qJ p.1 p.2.1 p.2.2.1 p.2.2.2.1 A.1 A.2.1 A.2.2.1 A.2.2.2.1 A.2.2.2.2.1 A.2.2.2.2.2 v.1 v.2 (fun c d=>b (c,d)) (a 0) (a 1)⟩
def TE:List (Nat×ä):=[(64,SZ),(66,sj),(80,ι),(96,yq),(104,kz)]
def P4 (ρ:Type):List (á ρ):=[zX ρ]
def Bh (ρ:Type):Env ρ:=ë TE (P4 ρ)
def IY:ä:=⟨[Ì,aa],[tI],fun(x:Val bj)=>vn x.1 x.2⟩
def HC:Ç:=Ls 1 [aa,tI,tI,ak] [tI] ⟨19,.con aa::.fn 238 [(0,0)]::aN 5 [.con tI,.var tI],[bK]⟩ [(.ret,⟨19,[.con aa,.fn 238 [(0,0)],.any,.any,.var tI,.any,.any,.con tI],[bK]⟩,[tI]),(.exit 0,⟨19,.con aa::.fn 238 [(0,0)]::aN 5 [.con tI],[bK]⟩,[])]
def vI (ρ:Type):á ρ:=⟨[3,2,1,2],260,0,HC,fun(p:Val (.pair aa aR)) (v:Val tI) b a=>mG p.1 p.2.1 p.2.2.2 v (fun c=>b c) (a 0) (a 1)⟩
def MV:List (Nat×ä):=[]
def JU (ρ:Type):List (á ρ):=[vI ρ]
def uH (ρ:Type):Env ρ:=ë MV (JU ρ)
def X7:ä:=⟨[Ì,tI,aa],[tI,tI,.bool],fun(x:Val (.pair Ì Ğ))=>Im x.1 x.2.1 x.2.2⟩
def Qe:Ç:=Ls 0 [aa,tI,tI,ak] [tI,tI,tI] ⟨37,.any::.var tI::.any::.box 0 0::aN 5 [.var tI,.any,.any,.any,.con aa,.con tI,.var tI],[bK]⟩ [(.ret,⟨37,aN 3 (.box 0 0::aN 2 (.var tI::.var tI::.var .bool::aN 4 [.con aa,.con tI])),[bK]⟩,[tI,tI,.bool]),(.exit 0,⟨37,.any::.var tI::.any::.box 0 0::aN 5 [.var tI,.any,.any,.any,.con aa,.con tI],[bK]⟩,[tI,tI])]
def CZ (ρ:Type):á ρ:=⟨[],189,0,Qe,fun(p:Val (.pair aa aR)) (v:Val œ) b a=>uG p.1 p.2.1 p.2.2.2 v.1 v.2.1 v.2.2 (fun c d e=>b (c,d,e)) (a 0) (a 1)⟩
def Wi:List (Nat×ä):=[]
def TK (ρ:Type):List (á ρ):=[CZ ρ]
def Ff (ρ:Type):Env ρ:=ë Wi (TK ρ)
def zJ:ä:=⟨[Ì,aa],[tI],fun(x:Val bj)=>mL x.1 x.2⟩
def Fp:List (Nat×ä):=[(126,wE),(188,IY),(189,X7)]
def Da (ρ:Type):List (á ρ):=[]
def vK (ρ:Type):Env ρ:=ë Fp (Da ρ)
def zH:ä:=⟨[Â,aj],[tI],fun(x:Val aJ)=>jJ x.1 x.2⟩
def pk:Ç:=Ls 0 [aj,ag,tI,tI,tI,af,ab,ah,ac,ab,ai] [tI] ⟨47,.any::.con aj::.box 0 0::aN 21 [.con ag,.con tI,.var tI],[bv]⟩ [(.ret,⟨47,.any::.con aj::.box 0 0::.any::.var tI::aN 19 [.con ag,.con tI],[bv]⟩,[tI]),(.exit 0,⟨47,.any::.con aj::.box 0 0::aN 21 [.con ag,.con tI],[bv]⟩,[])]
def pj (ρ:Type):á ρ:=⟨[],60,0,pk,fun(p:Val (tyL pk.cs)) (v:Val tI) b a=>let A:=p.2.2.2.2;let B:=A.2.2.2.2;jd p.1 p.2.1 p.2.2.1 p.2.2.2.1 A.1 A.2.1 A.2.2.1 A.2.2.2.1 B.1 B.2.1 B.2.2 v (fun c=>b c) (a 0) (a 1)⟩
def E8:List (Nat×ä):=[(66,sj),(80,ι),(96,yq),(104,kz),(122,zJ)]
def CV (ρ:Type):List (á ρ):=[pj ρ]
def nN (ρ:Type):Env ρ:=ë E8 (CV ρ)
def Gr:ä:=⟨[ac],[Â],fun(x:Val ac)=>Ŭ x⟩
def Jh:List (Nat×ä):=[]
def Hb (ρ:Type):List (á ρ):=[]
def zL (ρ:Type):Env ρ:=ë Jh (Hb ρ)
def IV:ä:=⟨[],[.bool],fun(_:Unit)=>ir⟩
def Mh:List (Nat×ä):=[(19,abx),(20,IX),(26,Gs),(28,Cc),(29,Ps),(30,wD),(35,ud),(40,X6),(42,N5),(49,abw),(59,SV),(60,zH),(77,Gr)]
def Je (ρ:Type):List (á ρ):=[]
def Cp (ρ:Type):Env ρ:=ë Mh (Je ρ)
def t8:ä:=⟨[Â,aa],[.bool,tI],fun(x:Val aV)=>Ū x.1 x.2⟩
def Hu:List (Nat×ä):=[(80,ι),(82,kB),(87,H5)]
def E5 (ρ:Type):List (á ρ):=[]
def xh (ρ:Type):Env ρ:=ë Hu (E5 ρ)
def I1:ä:=⟨[È,aa],[È,tI],fun(x:Val (.pair È aa))=>vt x.1 x.2⟩
def vT:Ç:=Ls 6 [tI,tI,tI,af,ab,ah,ac,ab,aa,tI,tI,tI,tI,af,ab,ah,ac,ab,tI,tI,tI,tI,ac,tI,tI,af,ab,ah,ab] [tI,ac] ⟨50,.any::.box 6 0::.box 7 0::.own 8::aN 21 [.own 8,.con tI,.var tI],cA⟩ [(.exit 0,⟨50,.any::.box 6 0::.box 7 0::.own 8::aN 21 [.own 8,.con tI],cA⟩,[ac])]
def vS (ρ:Type):á ρ:=⟨[1,2,4,1],202,0,vT,fun(p:Val (tyL vT.cs)) (v:Val aH) a b=>mJ p.1 v.1 v.2 (fun c d=>a (c,d)) (b 0)⟩
def vR:Ç:=Ls 13 [tI,tI,tI,af,ab,ah,ac,ab,aa,tI,tI,tI,tI,af,ab,ah,ac,ab,tI,tI,tI,tI,tI,tI,tI,tI,ac,af,ab,ah,ab] [tI] ⟨19,.own 8::.fn 152 [(1,0)]::aN 5 [.con tI,.var tI],cB⟩ [(.ret,⟨19,[.own 8,.fn 152 [(1,0)],.any,.any,.var tI,.any,.any,.con tI],cB⟩,[tI]),(.exit 0,⟨19,.own 8::.fn 152 [(1,0)]::aN 5 [.con tI],cB⟩,[])]
def vQ (ρ:Type):á ρ:=⟨[1,2,5,1,0,6,1,2],175,0,vR,fun(p:Val (tyL vR.cs)) (v:Val tI) b a=>mI p.1 p.2.2.2.2.2.2.2.2.1 p.2.2.2.2.2.2.2.2.2.2.2.2.2.2.2.2.2.2.2.2.2.2.2.2.2.2.1 v (fun c=>b c) (a 0) (a 1)⟩
def vP:Ç:=Ls 13 [tI,tI,af,ab,ah,ac,ab,aa,tI,tI,tI,tI,af,ab,ah,ac,ab,tI,tI,tI,tI,tI,tI,tI,tI,af,ab,ah,ab] [tI,tI,ac] ⟨42,[.own 8,.fn 152 [(1,0)],.any,.any,.any,.var tI,.var tI],cD⟩ [(.exit 0,⟨42,[.own 8,.fn 152 [(1,0)],.any,.any,.any,.var tI],cD⟩,[tI,ac])]
def vO (ρ:Type):á ρ:=⟨[1,2,5,1,0,6],151,0,vP,fun(p:Val (tyL vP.cs)) (v:Val (.pair tI aH)) a b=>Ξ p.2.2.2.2.2.2.2.1 v.1 v.2.1 v.2.2 (fun c d e=>a (c,d,e)) (b 0)⟩
def Nv:List (Nat×ä):=[(72,o8),(92,Ń)]
def KH (ρ:Type):List (á ρ):=[vS ρ,vQ ρ,vO ρ]
def la (ρ:Type):Env ρ:=ë Nv (KH ρ)
def N3:ä:=⟨[È],[È],fun(x:Val È)=>yK x⟩
def PX:List (Nat×ä):=[(74,I1)]
def MI (ρ:Type):List (á ρ):=[]
def GC (ρ:Type):Env ρ:=ë PX (MI ρ)
def X5:ä:=⟨[Â,Ğ],[Â,tI],fun(x:Val (.pair Â Ğ))=>D5 x.1 x.2⟩
def P1:Ç:=Ls 0 [tI,tI,tI,tI,tI,af,ab,ah,ac,ab,ai] [tI,ai] ⟨51,aN 4 (.box 0 0::aN 2 (.box 1 0::aN 18 [.own 2,.con tI,.var tI])),[bQ,bX,.rowc Ğ,.rowv Ğ]⟩ [(.exit 0,⟨51,aN 4 (.box 0 0::aN 2 (.box 1 0::aN 18 [.own 2,.con tI])),[bQ,bX,.rowc Ğ,.rowv Ğ]⟩,[ai])]
def CI (ρ:Type):á ρ:=⟨[],47,0,P1,fun(p:Val aX) (v:Val (.pair tI ai)) a b=>uu p.1 p.2.2.2.2.2.2.2.2.2.2 v.1 v.2 (fun c d=>a (c,d)) (b 0)⟩
def V8:List (Nat×ä):=[(80,ι),(113,N3)]
def Tz (ρ:Type):List (á ρ):=[CI ρ]
def E4 (ρ:Type):Env ρ:=ë V8 (Tz ρ)
def N0:ä:=⟨[Â,aa],[.bool],fun(x:Val aV)=>Ĩ x.1 x.2⟩
def Jg:Ç:=Ls 0 [aa,tI,tI,af,ab,ah,ac,ab,ai] [tI] ⟨48,.any::.con aa::.box 0 0::aN 4 [.var tI],[bv]⟩ [(.ret,⟨48,[.any,.con aa,.box 0 0,.any,.var .bool],[bv]⟩,[.bool]),(.exit 0,⟨48,[.any,.con aa,.box 0 0],[bv]⟩,[])]
def wQ (ρ:Type):á ρ:=⟨[],58,0,Jg,fun(p:Val (.pair aa ae)) (v:Val tI) b a=>let A:=p.2.2.2.2;oj p.1 p.2.1 p.2.2.1 p.2.2.2.1 A.1 A.2.1 A.2.2.1 A.2.2.2.1 A.2.2.2.2 v (fun c=>b c) (a 0) (a 1)⟩
def PK:List (Nat×ä):=[(27,t8)]
def Mi (ρ:Type):List (á ρ):=[wQ ρ]
def wR (ρ:Type):Env ρ:=ë PK (Mi ρ)
def mC:ä:=⟨[Â,aa,tI,Ğ],[.bool],fun(x:Val (.pair Â (.pair aa aG)))=>rZ x.1 x.2.1 x.2.2.1 x.2.2.2⟩
def EO:List (Nat×ä):=[(15,NZ),(17,IV),(20,IX),(27,t8),(29,Ps),(30,wD),(47,X5),(58,N0)]
def qq (ρ:Type):List (á ρ):=[]
def sl:List JEnt:=[⟨[],10,12,0,⟨148,[.any,.var aa,.any,.any,.box 0 0,.any,.any,.box 1 0],[.cells [.var tI,.var tI,.var af,.var ab,.var ah,.var ac,.var ab,.var ai],.cells [.var tI,.var aa]]⟩,[aa,tI,tI,af,ab,ah,ac,ab,ai,tI,aa]⟩,⟨[],10,18,0,⟨148,.any::.var aa::.any::.any::.box 0 0::aN 10 [.var tI],[.cells [.var tI,.var tI,.var af,.var ab,.var ah,.var ac,.var ab,.var ai]]⟩,[aa,tI,tI,tI,af,ab,ah,ac,ab,ai]⟩,⟨[],10,23,0,⟨148,[.any,.var aa,.any,.any,.box 0 0],[.cells [.var tI,.var tI,.var af,.var ab,.var ah,.var ac,.var ab,.var ai]]⟩,[aa,tI,tI,af,ab,ah,ac,ab,ai]⟩]
def nM (ρ:Type):Env ρ:=mkEnvJ EO (qq ρ) sl
end Go.Proofs.ZzM
end
