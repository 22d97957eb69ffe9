/- lemmas -/
import Derived.Test.YtbfmlbheofblcaaGreatAmG
import Derived.KernelRfl
import Derived.Test.YtbfmlbheofblcaaGreatAmF
import Derived.Lib.AtoiAll
import Derived.Lib.Bytealg
import Derived.Lib.ItoaNum
import Derived.Lib.Join
import Derived.Lib.Split
import Derived.Lib.Strings
import Derived.Test.YtbfmlbheofblcaaGreatAmD
import Derived.Test.YtbfmlbheofblcaaGreatMdTA
import Derived.Test.YtbfmlbheofblcaaGreatProg
set_option linter.all false
noncomputable section
set_option maxRecDepth 100000
namespace Go.Proofs.ZzM
open Go Go.Am
variable [LC]
def Kg:Nat->Bool
  |89=>true
  |90=>true
  |202=>true
  |203=>true
  |204=>true
  |205=>true
  |206=>true
  |_=>false
def Ug:Nat->Bool
  |186=>true
  |_=>false
def wm:Nat->Bool
  |187=>true
  |_=>false
def isInl:Nat->Bool
  |2=>true
  |33=>true
  |67=>true
  |69=>true
  |82=>true
  |83=>true
  |84=>true
  |85=>true
  |86=>true
  |87=>true
  |88=>true
  |105=>true
  |113=>true
  |115=>true
  |117=>true
  |118=>true
  |119=>true
  |120=>true
  |121=>true
  |122=>true
  |123=>true
  |124=>true
  |125=>true
  |128=>true
  |133=>true
  |134=>true
  |137=>true
  |138=>true
  |139=>true
  |149=>true
  |157=>true
  |160=>true
  |161=>true
  |162=>true
  |164=>true
  |165=>true
  |167=>true
  |168=>true
  |170=>true
  |171=>true
  |172=>true
  |173=>true
  |174=>true
  |181=>true
  |182=>true
  |183=>true
  |188=>true
  |189=>true
  |194=>true
  |196=>true
  |198=>true
  |200=>true
  |210=>true
  |212=>true
  |219=>true
  |220=>true
  |221=>true
  |222=>true
  |223=>true
  |224=>true
  |226=>true
  |227=>true
  |232=>true
  |233=>true
  |235=>true
  |236=>true
  |238=>true
  |239=>true
  |242=>true
  |243=>true
  |245=>true
  |247=>true
  |248=>true
  |_=>false
def isFz:Nat->Bool
  |37=>true
  |59=>true
  |63=>true
  |_=>false
def isEat:Nat->Nat->Bool
  |8,4=>true
  |8,5=>true
  |33,67=>true
  |37,125=>true
  |109,8=>true
  |109,11=>true
  |113,25=>true
  |174,0=>true
  |_,_=>false
def ahG:AS Nat->Nat->Bool
  |_,_=>false
abbrev MY {ρ:Type} (E:Env ρ) (f:Nat) (ts rs:AS Ty) (x:Val (tyL ts)) (k:Val (tyL rs)->AN ρ):AN ρ:=topK E f (UL ts x) (fun h v=>Ä (ahx rs h v) k)
abbrev Ls (p:Nat) (c v:AS Ty) (h:Tpl) (e:AS (Exit×Tpl×AS Ty)):Æ:=⟨p,c,v,h,e,false⟩
def Ò {ρ:Type} (pt:AS (Nat×ï)) (tab:AS (ă ρ)):Env ρ :=
  {P:=Tryz.prog,eat:=isEat,clone:=Kg,sort:=Ug,compact:=wm,inl:=isInl,fz:=isFz,stop:=ahG,pure:=aaJ pt,loops:=lW tab}
def ahC {ρ:Type} (pt:AS (Nat×ï)) (tab:AS (ă ρ)) (us:AS afp):Env ρ :=
  {P:=Tryz.prog,eat:=isEat,clone:=Kg,sort:=Ug,compact:=wm,inl:=isInl,fz:=isFz,stop:=ahG,pure:=aaJ pt,loops:=T9 (Ò pt tab) us}
abbrev bm:iy:=.cells [.con tI,.con tI,.con af,.con aa,.con ah,.con ae,.con aa]
abbrev bn:iy:=.cells [.con tI,.con tI,.con tI,.con tI,.con tI,.con tI,.con tI,.con tI]
abbrev bo:iy:=.cells [.con tI,.con tI,.con tI,.con tI]
abbrev bp:iy:=.cells [.con ai]
abbrev bq:iy:=.cells [.con tI]
abbrev br:iy:=.cells [.con tI,.con tI,.con ai,.con ai,.con tI,.con tI,.con tI,.con tI]
abbrev bt:iy:=.cells [.var tI,.var tI,.var tI,.var tI]
abbrev bu:iy:=.cells [.con tI,.con tI]
abbrev bv:iy:=.cells [.nils,.nils]
abbrev bw:iy:=.cells [.own 3,.own 4]
abbrev bz:iy:=.cells [.con tI,.con ao]
abbrev bB:iy:=.cells [.own 6]
abbrev bC:iy:=.cells [.con tI,.con tI,.con af,.con aa,.con ah,.con ae,.con aa,.con aa,.con tI,.own 3,.own 4]
abbrev bD:iy:=.cells [.con tI,.con tI,.con af,.con aa,.con ah,.con ae,.con aa,.con aa,.con tI,.own 2,.own 3]
abbrev bE:iy:=.cells [.con tI,.con tI,.nils,.nils,.nils,.nils,.nils]
abbrev bG:iy:=.cells [.con tI,.con tI,.own 9,.own 10,.own 11,.con ae,.own 12]
abbrev bH:iy:=.cells [.con tI,.con tI,.nils,.nils,.nils,.nils,.nils,.con tI,.con tI,.con .bool,.con tI,.nils]
abbrev bI:iy:=.cells [.var tI,.var tI,.var af,.var aa,.var ah,.var ae,.var aa]
abbrev bJ:iy:=.cells [.con tI,.con tI,.con (.fsl È),.con aa,.con ah,.con (.fsl aj),.con aa]
abbrev bK:iy:=.cells [.con tI,.con tI,.con (.fsl tI),.con (.fsl tI),.con tI,.con tI,.con tI,.con tI]
abbrev bL:iy:=.cells [.con tI,.con tI,.own 11,.own 12,.own 13,.con ae,.own 14]
abbrev bM:iy:=.cells [.con tI,.con tI,.con af,.con aa,.con ah,.con ae,.con aa,.con tI,.own 6]
abbrev bN:iy:=.cells [.omp 3]
abbrev bO:iy:=.cells [.con af]
abbrev bP:iy:=.cells [.fn 117 []]
abbrev bQ:iy:=.cells [.con aa]
abbrev bR:iy:=.cells [.fn 118 [(2,0)]]
abbrev bS:iy:=.cells [.con ah]
abbrev bT:iy:=.cells [.fn 119 [(2,0)]]
abbrev bU:iy:=.cells [.con tI,.con tI,.con tI]
abbrev bV:AS iy:=[bn,.rowv tI]
abbrev bW:AS iy:=[bm,bo]
abbrev bX:AS iy:=[bm,br,.rowc tI]
abbrev bY:AS iy:=[bm,.rowv tI]
abbrev bZ:AS iy:=[bm,.rowc tI,.rowv Â]
abbrev b7:AS iy:=[bm,bv,bw,.rowv ć,.rowv Â]
abbrev b8:AS iy:=[bz,.rowc tI,bz,bB,.rowv .bool,.rowc tI,.rowv tI]
abbrev b9:AS iy:=[bz,.rowv tI,bz,bB,.rowv .bool,.rowc tI,.rowv tI]
abbrev ca:AS iy:=[bz,.rowv tI,bz,bB,.rowv .bool,.rowv tI,.rowv tI]
abbrev cd:AS iy:=[.rowc ai,bz,.dead,.dead,.rowv tI]
abbrev ce:AS iy:=[bz,bq,bq,bz,.rowv tI]
abbrev cf:AS iy:=[bm,bD,.rowv ć,.rowv Â]
abbrev cg:AS iy:=[bm,bu,bE,bm,bE,.dead,bG,bE,.rowv É,.rowc È,.rowc Â,.rowc Ĵ,.rowc Â]
abbrev ci:AS iy:=[bm,.dead,.dead,bH,.rowc Â,bI]
abbrev cj:AS iy:=[bm,.dead,.dead,bH,.rowc Â,bm,bz,.dead,.rowf Â 0,bJ,bJ]
abbrev cm:AS iy:=[bm,bu,bu,.rowc Â,bI]
abbrev cn:AS iy:=[bm,bu,bu,bu,.rowc Â,bI]
abbrev cp:AS iy:=[bm,bK,bE,.dead,.dead,bm,bE,.dead,bL,bE,.rowv É,.rowc È,.rowc Â,.rowc Ĵ,.rowc Â]
abbrev cq:AS iy:=[bm,bu,br,.rowc Â,bI]
abbrev cr:AS iy:=[bm,bu,bu,br,.rowc Â,bI]
abbrev cu:AS iy:=[bm,bu,bu,br,.rowc Â,bm,bz,.dead,bn,.rowf ai 0,.rowf ai 0,.rowf ai 0]
abbrev cw:AS iy:=[bm,bm,bN,.mapc tI .bool,br,br]
abbrev cz:AS iy:=[bm,bm,bN,.mapc tI .bool,br]
abbrev cA:AS iy:=[bm,bm,bN,.mapc tI .bool]
abbrev cB:AS iy:=[bm,bm,bN,.mapc tI .bool,bO,bP]
abbrev cD:AS iy:=[bm,bm,bN,.mapc tI .bool,bO,bP,bQ,bR]
abbrev cE:AS iy:=[bm,bm,bN,.mapc tI .bool,bO,bP,bQ,bR,bQ,bR]
abbrev cF:AS iy:=[bm,bm,bN,.mapc tI .bool,bO,bP,bQ,bR,bQ,bR,bS,bT]
abbrev cG:AS iy:=[bm,bm,bN,.mapc tI .bool,bO,bP,bQ,bR,bQ,bR,bS,bT,bS,bT]
abbrev cH:AS iy:=[bz,.rowc au,bU,bz,.rowv tI]
variable [LC]
def Ł:ï:=⟨[au],[ai],fun(x:nn)=>ç x⟩
def kr:Æ:=Ls 0 [au,au,tI] [tI,tI] ⟨36,.con au::aN 2 (.var tI::aN 5 [.con au,.con tI,.var tI]),[]⟩ [(.exit 0,⟨36,.con au::aN 2 (.var tI::aN 5 [.con au,.con tI]),[]⟩,[tI])]
def kq (ρ:Type):ă ρ:=⟨[],63,0,kr,fun(p:Val (tyL kr.cs)) (v:an) a b=>Ğ p.2.1 p.2.2 v.1 v.2 (fun c d=>a (c,d)) (b 0)⟩
def sF:Æ:=Ls 0 [au,tI] [tI,ai] ⟨36,aN 6 (.own 0::aN 18 [.con au,.con tI,.var tI]),[.rowv tI]⟩ [(.exit 2,⟨36,aN 6 (.own 0::aN 18 [.con au,.con tI]),[.rowv tI]⟩,[ai])]
def kp (ρ:Type):ă ρ:=⟨[],63,2,sF,fun(p:Val (.pair au tI)) (v:fy) a b=>è p.1 p.2 v.1 v.2 (fun c d=>a (c,d)) (b 0)⟩
def jl (ρ:Type):Env ρ:=Ò [] [kq ρ,kp ρ]
def oB:ï:=⟨[Å,aa,aa],[bg],fun(x:Val (.pair Å (.pair aa aa)))=>KD x.1 x.2.1 x.2.2⟩
noncomputable def TG:Æ:=Ls 8 [ai,tI,tI,tI,af,aa,ah,ae,aa,tI,tI,aq,tI,tI] [tI,aq] ⟨34,.any::.any::.any::.box 2 0::aN 21 [.con ai,.con tI,.var tI],[.cells [.con tI,.con tI,.con af,.con aa,.con ah,.con ae,.con aa],.cells [.con tI,.con tI,.nils,.nils,.nils,.nils,.nils],.cells [.omp 5],.cells [.omp 6],.cells [.nilfn,.fn 86 [(2,0),(0,0)],.fn 86 [(2,0),(0,0)],.fn 87 [(3,0),(0,0),(2,0)]],.mapv tI .bool,.mapc tI .bool,.cells [.con tI,.con tI]]⟩ [(.exit 0,⟨34,.any::.any::.any::.box 2 0::aN 21 [.con ai,.con tI],[.cells [.con tI,.con tI,.con af,.con aa,.con ah,.con ae,.con aa],.cells [.con tI,.con tI,.nils,.nils,.nils,.nils,.nils],.cells [.omp 5],.cells [.omp 6],.cells [.nilfn,.fn 86 [(2,0),(0,0)],.fn 86 [(2,0),(0,0)],.fn 87 [(3,0),(0,0),(2,0)]],.mapv tI .bool,.mapc tI .bool,.cells [.con tI,.con tI]]⟩,[aq])]
noncomputable def FA (ρ:Type):ă ρ:=⟨[7,5],87,0,TG,fun(p:Val (.pair ai (.pair tI (.pair tI (.pair tI (.pair af (.pair aa (.pair ah (.pair ae (.pair aa (.pair tI (.pair tI (.pair aq Â))))))))))))) (v:px) kn kx=>rt p.1 p.2.1 v.1 v.2 (fun u0 u1=>kn (u0,u1)) (kx 0)⟩
noncomputable def TH:Æ:=Ls 0 [aa,aa,tI,tI,tI,af,aa,ah,ae,aa,tI,tI] [tI,aq,aq] ⟨130,.any::.any::.con aa::.box 0 0::.any::.any::.box 1 0::.box 2 0::.box 3 0::.any::.box 4 0::aN 19 [.con aa,.con tI,.var tI],[.cells [.con tI,.con tI,.con af,.con aa,.con ah,.con ae,.con aa],.cells [.con tI,.con tI,.nils,.nils,.nils,.nils,.nils],.cells [.omp 5],.cells [.omp 6],.cells [.nilfn,.fn 86 [(2,0),(0,0)],.fn 86 [(2,0),(0,0)],.fn 87 [(3,0),(0,0),(2,0)]],.mapv tI .bool,.mapv tI .bool]⟩ [(.exit 0,⟨130,.any::.any::.con aa::.box 0 0::.any::.any::.box 1 0::.box 2 0::.box 3 0::.any::.box 4 0::aN 19 [.con aa,.con tI],[.cells [.con tI,.con tI,.con af,.con aa,.con ah,.con ae,.con aa],.cells [.con tI,.con tI,.nils,.nils,.nils,.nils,.nils],.cells [.omp 5],.cells [.omp 6],.cells [.nilfn,.fn 86 [(2,0),(0,0)],.fn 86 [(2,0),(0,0)],.fn 87 [(3,0),(0,0),(2,0)]],.mapv tI .bool,.mapv tI .bool]⟩,[aq,aq])]
noncomputable def FB (ρ:Type):ă ρ:=⟨[],37,0,TH,fun(p:Val (.pair aa (.pair aa (.pair tI (.pair tI (.pair tI (.pair af (.pair aa (.pair ah (.pair ae (.pair aa Â))))))))))) (v:Val (.pair tI (.pair aq aq))) kn kx=>xa p.2.1 p.2.2.1 p.2.2.2.2.2.1 p.2.2.2.2.2.2.2.2.1 v.1 v.2.1 v.2.2 (fun u0 u1 u2=>kn (u0,u1,u2)) (kx 0)⟩
noncomputable def TF:Æ:=Ls 0 [aa,aa,tI,tI,tI,af,aa,ah,ae,aa,tI,tI,aq] [tI,aq] ⟨130,.any::.any::.con aa::.box 0 0::.any::.any::.box 1 0::.box 2 0::.box 3 0::aN 34 [.con aa,.con tI,.var tI],[.cells [.con tI,.con tI,.con af,.con aa,.con ah,.con ae,.con aa],.cells [.con tI,.con tI,.nils,.nils,.nils,.nils,.nils],.cells [.omp 4],.cells [.omp 5],.mapv tI .bool,.mapc tI .bool]⟩ [(.exit 2,⟨130,.any::.any::.con aa::.box 0 0::.any::.any::.box 1 0::.box 2 0::.box 3 0::aN 34 [.con aa,.con tI],[.cells [.con tI,.con tI,.con af,.con aa,.con ah,.con ae,.con aa],.cells [.con tI,.con tI,.nils,.nils,.nils,.nils,.nils],.cells [.omp 4],.cells [.omp 5],.mapv tI .bool,.mapc tI .bool]⟩,[aq])]
noncomputable def Fz (ρ:Type):ă ρ:=⟨[],37,2,TF,fun(p:Val (.pair aa (.pair aa (.pair tI (.pair tI (.pair tI (.pair af (.pair aa (.pair ah (.pair ae (.pair aa (.pair tI (.pair tI aq))))))))))))) (v:px) kn kx=>rr p.2.1 p.2.2.1 v.1 v.2 (fun u0 u1=>kn (u0,u1)) (kx 0)⟩
noncomputable def TE:Æ:=Ls 0 [aa,tI,tI,tI,af,aa,ah,ae,aa,tI,tI,af,aa,ah,aL,aa,tI,tI,aa,aq,aq,af] [tI,aa] ⟨130,.any::.any::.any::.box 0 0::.any::.any::.box 1 0::.box 2 0::.box 3 0::aN 6 (.box 4 0::aN 52 [.con aa,.con tI,.var tI]),[.cells [.con tI,.con tI,.con af,.con aa,.con ah,.con ae,.con aa],.cells [.con tI,.con tI,.con af,.con aa,.con ah,.con aL,.con aa],.cells [.omp 5],.cells [.omp 6],.cells [.con tI,.con tI,.own 7,.own 8,.nils,.nils,.con aa],.mapc tI .bool,.mapc tI .bool,.rowc È,.rowv Â]⟩ [(.exit 6,⟨130,.any::.any::.any::.box 0 0::.any::.any::.box 1 0::.box 2 0::.box 3 0::aN 6 (.box 4 0::aN 52 [.con aa,.con tI]),[.cells [.con tI,.con tI,.con af,.con aa,.con ah,.con ae,.con aa],.cells [.con tI,.con tI,.con af,.con aa,.con ah,.con aL,.con aa],.cells [.omp 5],.cells [.omp 6],.cells [.con tI,.con tI,.own 7,.own 8,.nils,.nils,.con aa],.mapc tI .bool,.mapc tI .bool,.rowc È,.rowv Â]⟩,[aa])]
noncomputable def pL (ρ:Type):ă ρ:=⟨[],37,6,TE,fun(p:Val (.pair aa (.pair tI (.pair tI (.pair tI (.pair af (.pair aa (.pair ah (.pair ae (.pair aa (.pair tI (.pair tI (.pair af (.pair aa (.pair ah (.pair aL (.pair aa (.pair tI (.pair tI (.pair aa (.pair aq (.pair aq af)))))))))))))))))))))) (v:rn) kn kx=>rq p.1 p.2.1 p.2.2.2.2.2.2.2.2.2.2.2.2.2.2.2.2.2.2.2.1 v.1 v.2 (fun u0 u1=>kn (u0,u1)) (kx 0)⟩
noncomputable def TD:Æ:=Ls 0 [ah,tI,tI,tI,af,aa,ah,ae,aa,tI,tI,af,aa,ah,aL,aa,tI,tI,aa,aq,aq,af,aa] [tI,ah] ⟨130,.any::.any::.any::.box 0 0::.any::.any::.box 1 0::.box 2 0::.box 3 0::aN 6 (.box 4 0::aN 70 [.con ah,.con tI,.var tI]),[.cells [.con tI,.con tI,.con af,.con aa,.con ah,.con ae,.con aa],.cells [.con tI,.con tI,.con af,.con aa,.con ah,.con aL,.con aa],.cells [.omp 5],.cells [.omp 6],.cells [.con tI,.con tI,.own 7,.own 8,.own 9,.nils,.con aa],.mapc tI .bool,.mapc tI .bool,.rowc È,.rowc Â,.rowv Ĵ]⟩ [(.exit 8,⟨130,.any::.any::.any::.box 0 0::.any::.any::.box 1 0::.box 2 0::.box 3 0::aN 6 (.box 4 0::aN 70 [.con ah,.con tI]),[.cells [.con tI,.con tI,.con af,.con aa,.con ah,.con ae,.con aa],.cells [.con tI,.con tI,.con af,.con aa,.con ah,.con aL,.con aa],.cells [.omp 5],.cells [.omp 6],.cells [.con tI,.con tI,.own 7,.own 8,.own 9,.nils,.con aa],.mapc tI .bool,.mapc tI .bool,.rowc È,.rowc Â,.rowv Ĵ]⟩,[ah])]
noncomputable def pK (ρ:Type):ă ρ:=⟨[],37,8,TD,fun(p:Val (.pair ah (.pair tI (.pair tI (.pair tI (.pair af (.pair aa (.pair ah (.pair ae (.pair aa (.pair tI (.pair tI (.pair af (.pair aa (.pair ah (.pair aL (.pair aa (.pair tI (.pair tI (.pair aa (.pair aq (.pair aq (.pair af aa))))))))))))))))))))))) (v:Val (.pair tI ah)) kn kx=>ro p.1 p.2.1 p.2.2.2.2.2.2.2.2.2.2.2.2.2.2.2.2.2.2.2.1 v.1 v.2 (fun u0 u1=>kn (u0,u1)) (kx 0)⟩
noncomputable def TC:Æ:=Ls 0 [ae,tI,tI,tI,af,aa,ah,aL,aa,tI,tI,aa,aq,af,aa,ah] [tI,aL] ⟨130,aN 6 (.box 0 0::.any::.box 1 0::aN 6 (.box 2 0::aN 88 [.con ae,.con tI,.var tI])),[.cells [.con tI,.con tI,.con af,.con aa,.con ah,.con aL,.con aa],.cells [.omp 3],.cells [.con tI,.con tI,.own 4,.own 5,.own 6,.own 7,.con aa],.mapc tI .bool,.rowc È,.rowc Â,.rowc Ĵ,.rowv aj]⟩ [(.exit 10,⟨130,aN 6 (.box 0 0::.any::.box 1 0::aN 6 (.box 2 0::aN 88 [.con ae,.con tI])),[.cells [.con tI,.con tI,.con af,.con aa,.con ah,.con aL,.con aa],.cells [.omp 3],.cells [.con tI,.con tI,.own 4,.own 5,.own 6,.own 7,.con aa],.mapc tI .bool,.rowc È,.rowc Â,.rowc Ĵ,.rowv aj]⟩,[aL])]
noncomputable def pJ (ρ:Type):ă ρ:=⟨[],37,10,TC,fun(p:Val (.pair ae (.pair tI (.pair tI (.pair tI (.pair af (.pair aa (.pair ah (.pair aL (.pair aa (.pair tI (.pair tI (.pair aa (.pair aq (.pair af (.pair aa ah)))))))))))))))) (v:Val (.pair tI aL)) kn kx=>rl p.1 p.2.1 p.2.2.2.2.2.2.2.2.2.2.2.2.1 v.1 v.2 (fun u0 u1=>kn (u0,u1)) (kx 0)⟩
noncomputable def Eh:AS (Nat×ï):=[(63,Ł)]
noncomputable def Ac (ρ:Type):AS (ă ρ):=[FA ρ,FB ρ,Fz ρ,pL ρ,pK ρ,pJ ρ]
noncomputable def Ř (ρ:Type):Env ρ:=Ò Eh (Ac ρ)
noncomputable def rj:Tpl:=⟨130,.any::.any::.any::.box 0 0::.any::.any::.box 1 0::.box 2 0::.box 3 0::aN 6 (.box 4 0::aN 43 [.fn 138 [(5,0),(6,0)]]),[.cells [.var tI,.var tI,.var af,.var aa,.var ah,.var ae,.var aa],.cells [.var tI,.var tI,.var af,.var aa,.var ah,.var aL,.var aa],.cells [.omp 7],.cells [.omp 8],.cells [.con tI,.con tI,.own 9,.nils,.nils,.nils,.con aa],.cells [.var tI,.var tI,.var af,.var aa,.var ah,.var ae,.var aa],.cells [.omp 7],.mapv tI .bool,.mapv tI .bool,.rowv È]⟩
noncomputable def Jl:Tpl:=⟨130,.any::.any::.any::.box 0 0::.any::.any::.box 1 0::.box 2 0::.box 3 0::aN 6 (.box 4 0::.box 10 0::aN 42 [.fn 138 [(5,0),(6,0)]]),[.cells [.var tI,.var tI,.var af,.var aa,.var ah,.var ae,.var aa],.cells [.var tI,.var tI,.var af,.var aa,.var ah,.var aL,.var aa],.cells [.omp 7],.cells [.omp 8],.cells [.con tI,.con tI,.own 9,.nils,.nils,.nils,.con aa],.cells [.var tI,.var tI,.var af,.var aa,.var ah,.var ae,.var aa],.cells [.omp 7],.mapv tI .bool,.mapv tI .bool,.rowv È,.cells [.var tI,.var tI,.var tI,.var tI,.var tI,.var tI,.var tI,.var tI]]⟩
noncomputable def pH (ρ:Type):AS (ă ρ):=[pL ρ,pK ρ,pJ ρ]
noncomputable def ē (ρ:Type):Env ρ:={Ò Eh (pH ρ) with inl:=fun _=>false}
noncomputable def rk:Tpl:=⟨130,aN 6 [.box 0 0],[.cells [.var tI,.var tI,.var (.fsl È),.var aa,.var ah,.var (.fsl aj),.var aa]]⟩
abbrev jZ:AS Ty:=[tI,tI,(.fsl È),aa,ah,(.fsl aj),aa]
noncomputable def lu (y:Val bg):Val (.pair tI (.pair tI aw)):=(y.1.1,y.1.2,y.2.1,y.2.2.1,y.2.2.2.1,y.2.2.2.2.1,y.2.2.2.2.2)
noncomputable def ċ:Code:=(kP Tryz.prog 37).getD .skip
abbrev ik:AS Ty:=[tI,tI,aa]
abbrev lr:AS Ty:=[tI,tI,af,aa,ah,ae,aa,tI,tI,af,aa,ah,aL,aa,tI,tI,af,aa,ah,ae,aa,aq,aq,af]
abbrev w9:AS Ty:=[tI,tI,af,aa,ah,ae,aa,tI,tI,af,aa,ah,aL,aa,tI,tI,af,aa,ah,ae,aa,aq,aq,af,tI,tI,tI,tI,tI,tI,tI,tI]
abbrev ê (v:th):AS c9:=v.2.2.2.2.2.2.2.2.2.2.2.2.2.2.2.2.1
abbrev Ń (v:th):AS (Int×Bool):=v.2.2.2.2.2.2.2.2.2.2.2.2.2.2.2.2.2.2.2.2.2.1
abbrev sM (v:th):AS c9:=v.2.2.2.2.2.2.2.2.2.2.2.2.2.2.2.2.2.2.2.2.2.2.2
noncomputable def Ċ (v:th) (z:AS c9):th:=(v.1,v.2.1,v.2.2.1,v.2.2.2.1,v.2.2.2.2.1,v.2.2.2.2.2.1,v.2.2.2.2.2.2.1,v.2.2.2.2.2.2.2.1,v.2.2.2.2.2.2.2.2.1,v.2.2.2.2.2.2.2.2.2.1,v.2.2.2.2.2.2.2.2.2.2.1,v.2.2.2.2.2.2.2.2.2.2.2.1,v.2.2.2.2.2.2.2.2.2.2.2.2.1,v.2.2.2.2.2.2.2.2.2.2.2.2.2.1,v.2.2.2.2.2.2.2.2.2.2.2.2.2.2.1,v.2.2.2.2.2.2.2.2.2.2.2.2.2.2.2.1,v.2.2.2.2.2.2.2.2.2.2.2.2.2.2.2.2.1,v.2.2.2.2.2.2.2.2.2.2.2.2.2.2.2.2.2.1,v.2.2.2.2.2.2.2.2.2.2.2.2.2.2.2.2.2.2.1,v.2.2.2.2.2.2.2.2.2.2.2.2.2.2.2.2.2.2.2.1,v.2.2.2.2.2.2.2.2.2.2.2.2.2.2.2.2.2.2.2.2.1,v.2.2.2.2.2.2.2.2.2.2.2.2.2.2.2.2.2.2.2.2.2.1,v.2.2.2.2.2.2.2.2.2.2.2.2.2.2.2.2.2.2.2.2.2.2.1,z)
noncomputable def Ad (v:th) (x:c9):Val (.pair tI (.pair tI (.pair af (.pair aa (.pair ah (.pair ae (.pair aa (.pair tI (.pair tI (.pair af (.pair aa (.pair ah (.pair aL (.pair aa (.pair tI (.pair tI (.pair af (.pair aa (.pair ah (.pair ae (.pair aa (.pair aq (.pair aq (.pair af ax)))))))))))))))))))))))):=(v.1,v.2.1,v.2.2.1,v.2.2.2.1,v.2.2.2.2.1,v.2.2.2.2.2.1,v.2.2.2.2.2.2.1,v.2.2.2.2.2.2.2.1,v.2.2.2.2.2.2.2.2.1,v.2.2.2.2.2.2.2.2.2.1,v.2.2.2.2.2.2.2.2.2.2.1,v.2.2.2.2.2.2.2.2.2.2.2.1,v.2.2.2.2.2.2.2.2.2.2.2.2.1,v.2.2.2.2.2.2.2.2.2.2.2.2.2.1,v.2.2.2.2.2.2.2.2.2.2.2.2.2.2.1,v.2.2.2.2.2.2.2.2.2.2.2.2.2.2.2.1,v.2.2.2.2.2.2.2.2.2.2.2.2.2.2.2.2.1,v.2.2.2.2.2.2.2.2.2.2.2.2.2.2.2.2.2.1,v.2.2.2.2.2.2.2.2.2.2.2.2.2.2.2.2.2.2.1,v.2.2.2.2.2.2.2.2.2.2.2.2.2.2.2.2.2.2.2.1,v.2.2.2.2.2.2.2.2.2.2.2.2.2.2.2.2.2.2.2.2.1,v.2.2.2.2.2.2.2.2.2.2.2.2.2.2.2.2.2.2.2.2.2.1,v.2.2.2.2.2.2.2.2.2.2.2.2.2.2.2.2.2.2.2.2.2.2.1,v.2.2.2.2.2.2.2.2.2.2.2.2.2.2.2.2.2.2.2.2.2.2.2,x.1,x.2.1,x.2.2.1,x.2.2.2.1.1,x.2.2.2.1.2,x.2.2.2.2.1.1,x.2.2.2.2.1.2,x.2.2.2.2.2)
def qR:ï:=⟨[Â,tI,tI],[.bool],fun(x:ly)=>Ū x.1 x.2.1 x.2.2⟩
def T2 (ρ:Type):Env ρ:=Ò [] []
def jU:ï:=⟨[tI,tI,tI],[.bool],fun(x:py)=>Ĉ x.1 x.2.1 x.2.2⟩
def TZ (ρ:Type):Env ρ:=Ò [] []
def Bb:ï:=⟨[tI],[.bool],fun(x:Int)=>mF x⟩
def Wx (ρ:Type):Env ρ:=Ò [(180,jU)] []
def Pj:ï:=⟨[tI],[(.int .u64)],fun(x:Int)=>qd x⟩
def aar (ρ:Type):Env ρ:=Ò [] []
def VS:ï:=⟨[(.int .u64),(.int .u64)],[(.int .u64)],fun(x:pi)=>KJ x.1 x.2⟩
def TU:Æ:=Ls 0 [] [(.int .u64),(.int .u64)] ⟨12,[.var (.int .u64),.var (.int .u64)],[]⟩ [(.exit 0,⟨12,[.var (.int .u64)],[]⟩,[(.int .u64)])]
def FK (ρ:Type):ă ρ:=⟨[],209,0,TU,fun(p:Unit) (v:pi) a b=>xd v.1 v.2 (fun c d=>a (c,d)) (b 0)⟩
def TV (ρ:Type):Env ρ:=Ò [] [FK ρ]
def A7:ï:=⟨[Â],[.bool],fun(x:an)=>rV x⟩
def Wt (ρ:Type):Env ρ:=Ò [(208,Pj),(209,VS)] []
def H9:ï:=⟨[È],[.bool],fun(x:c9)=>tO x⟩
def CD (ρ:Type):Env ρ:=Ò [(102,qR),(147,Bb),(179,A7),(180,jU)] []
def vk:ï:=⟨[Å],[tI],fun(x:a8)=>ŝ x⟩
def xW:Æ:=Ls 0 [af,tI,tI,tI,af,aa,ah,ae,aa] [tI] ⟨31,.any::.box 0 0::aN 4 [.con af,.con tI,.var tI],[bm]⟩ [(.ret,⟨31,[.any,.box 0 0,.var tI,.any,.any,.any,.con af,.con tI],[bm]⟩,[tI]),(.exit 0,⟨31,.any::.box 0 0::aN 4 [.con af,.con tI],[bm]⟩,[])]
def mZ (ρ:Type):ă ρ:=⟨[],103,0,xW,fun(p:Val (.pair af aH)) (v:Int) b a=>iw p.1 p.2.1 p.2.2.2.2.1 v (fun c=>b c) (a 0) (a 1)⟩
def rK (ρ:Type):Env ρ:=Ò [(145,H9)] [mZ ρ]
def zN:ï:=⟨[Å],[ay],fun(x:a8)=>Ÿ x⟩
def GP:Æ:=Ls 0 [af,tI] [tI,ay] ⟨20,aN 3 (.omp 0::aN 4 [.con af,.con tI,.var tI]),[.mapv tI È]⟩ [(.exit 0,⟨20,aN 3 (.omp 0::aN 4 [.con af,.con tI]),[.mapv tI È]⟩,[ay])]
def ur (ρ:Type):ă ρ:=⟨[],104,0,GP,fun(p:Val (.pair af tI)) (v:Val (.pair tI ay)) a b=>lV p.1 p.2 v.1 v.2 (fun c d=>a (c,d)) (b 0)⟩
def Cm (ρ:Type):Env ρ:=Ò [] [ur ρ]
def qM:ï:=⟨[ai,tI],[tI],fun(x:Val aX)=>jb x.1 x.2⟩
def uF:Æ:=Ls 0 [ai,tI,tI] [tI] ⟨19,.con ai::.con tI::aN 5 [.con tI,.var tI],[]⟩ [(.ret,⟨19,[.con ai,.con tI,.any,.any,.var tI,.any,.any,.con tI],[]⟩,[tI]),(.exit 0,⟨19,.con ai::.con tI::aN 5 [.con tI],[]⟩,[])]
def kZ (ρ:Type):ă ρ:=⟨[],211,0,uF,fun(p:Val (.pair ai Â)) (v:Int) b a=>Δ p.1 p.2.1 p.2.2 v (fun c=>b c) (a 0) (a 1)⟩
def oE (ρ:Type):Env ρ:=Ò [] [kZ ρ]
def jj:ï:=⟨[ai,tI],[.bool],fun(x:Val aX)=>ď x.1 x.2⟩
def uG (ρ:Type):Env ρ:=Ò [(211,qM)] []
def Pn:ï:=⟨[Å,È],[ai],fun(x:Val (.pair Å È))=>nT x.1 x.2⟩
def Qa:Æ:=Ls 0 [ae,tI,tI,tI,af,aa,ah,ae,aa,tI,tI,tI,tI,tI,tI,tI,tI] [tI,ai] ⟨59,aN 2 (.box 0 0::.box 1 0::.any::.own 2::aN 8 [.con ae,.con tI,.var tI]),[bm,bn,.rowv tI]⟩ [(.exit 0,⟨59,aN 2 (.box 0 0::.box 1 0::.any::.own 2::aN 8 [.con ae,.con tI]),[bm,bn,.rowv tI]⟩,[ai])]
def CG (ρ:Type):ă ρ:=⟨[],152,0,Qa,fun(p:Val (.pair ae aG)) (v:fy) a b=>s9 p.1 p.2.1 p.2.2.2.2.2.2.2.2.2.1 v.1 v.2 (fun c d=>a (c,d)) (b 0)⟩
def CF:Æ:=Ls 0 [aa,tI,tI,tI,tI,tI,tI,tI,tI,tI] [tI,ai] ⟨59,aN 3 (.box 0 0::.any::.own 1::aN 32 [.con aa,.con tI,.var tI]),bV⟩ [(.exit 2,⟨59,aN 3 (.box 0 0::.any::.own 1::aN 32 [.con aa,.con tI]),bV⟩,[ai])]
def CE (ρ:Type):ă ρ:=⟨[],152,2,CF,fun(p:Val (tyL CF.cs)) (v:fy) a b=>s8 p.1 p.2.1 p.2.2.1 v.1 v.2 (fun c d=>a (c,d)) (b 0)⟩
def Ew (ρ:Type):Env ρ:=Ò [(185,jj)] [CG ρ,CE ρ]
def Ba:ï:=⟨[Å],[aa],fun(x:a8)=>oX x⟩
def zj:Æ:=Ls 0 [af,tI,tI,ai,tI,tI,tI,af,aa,ah,ae,aa,tI,tI,tI,tI,tI,tI,tI,tI] [tI,aa] ⟨33,.any::.box 0 0::.any::.own 1::.any::.box 2 0::aN 3 (.con af::.con tI::.con tI::aN 5 [.con ai,.con tI,.var tI]),[bm,.rowv Â,bn]⟩ [(.exit 2,⟨33,.any::.box 0 0::.any::.own 1::.any::.box 2 0::aN 3 (.con af::.con tI::.con tI::aN 5 [.con ai,.con tI]),[bm,.rowv Â,bn]⟩,[aa])]
def zi (ρ:Type):ă ρ:=⟨[],106,2,zj,fun(p:Val (tyL zj.cs)) (v:rn) a b=>pR p.2.2.2.1 p.2.2.2.2.1 p.2.2.2.2.2.2.2.2.2.2.2.2.1 v.1 v.2 (fun c d=>a (c,d)) (b 0)⟩
def Mw:Æ:=Ls 0 [af,tI,tI,tI,af,aa,ah,ae,aa] [tI,aa] ⟨33,.any::.box 0 0::.any::.own 1::aN 5 [.con af,.con tI,.var tI],[bm,.rowv Â]⟩ [(.exit 0,⟨33,.any::.box 0 0::.any::.own 1::aN 5 [.con af,.con tI],[bm,.rowv Â]⟩,[aa])]
def zk (ρ:Type):ă ρ:=⟨[],106,0,Mw,fun(p:Val (.pair af aH)) (v:rn) a b=>let A:=p.2.2.2.2;pS p.1 p.2.1 p.2.2.1 p.2.2.2.1 A.1 A.2.1 A.2.2.1 A.2.2.2.1 A.2.2.2.2 v.1 v.2 (fun c d=>a (c,d)) (b 0)⟩
def Aj (ρ:Type):Env ρ:=Ò [(152,Pn)] [zi ρ,zk ρ]
def lS:ï:=⟨[ay,tI,tI],[tI],fun(x:Val (.pair ay Â))=>il x.1 x.2.1 x.2.2⟩
def GQ (ρ:Type):Env ρ:=Ò [] []
def VU:ï:=⟨[tI,tI,(.ptr ay)],[tI],fun(x:Val (.pair tI (.pair tI (.ptr ay))))=>ĥ x.1 x.2.1 x.2.2⟩
def P8 (ρ:Type):Env ρ:=Ò [(147,Bb),(148,lS)] []
def Po:ï:=⟨[Å,ay,tI],[tI],fun(x:Val bj)=>Ů x.1 x.2.1 x.2.2⟩
def CJ:Æ:=Ls 2 [ah,tI,tI,tI,af,aa,ah,ae,aa,tI,tI,tI,tI] [tI] ⟨19,.con ah::.fn 181 [(1,0)]::aN 5 [.con tI,.var tI],bW⟩ [(.ret,⟨19,[.con ah,.fn 181 [(1,0)],.any,.any,.var tI,.any,.any,.con tI],bW⟩,[tI]),(.exit 0,⟨19,.con ah::.fn 181 [(1,0)]::aN 5 [.con tI],bW⟩,[])]
def pU (ρ:Type):ă ρ:=⟨[9,5,1,2],198,0,CJ,fun(p:Val (.pair ah aI)) (v:Int) b a=>let A:=p.2.2.2.2.2.2.2.2.2;jD p.1 p.2.1 A.1 A.2.1 A.2.2.1 v (fun c=>b c) (a 0) (a 1)⟩
def CH:Æ:=Ls 2 [aa,tI,tI,tI,af,aa,ah,ae,aa,tI,tI,tI,tI] [tI] ⟨19,.con aa::.fn 182 [(1,0)]::aN 5 [.con tI,.var tI],bW⟩ [(.ret,⟨19,[.con aa,.fn 182 [(1,0)],.any,.any,.var tI,.any,.any,.con tI],bW⟩,[tI]),(.exit 0,⟨19,.con aa::.fn 182 [(1,0)]::aN 5 [.con tI],bW⟩,[])]
def pT (ρ:Type):ă ρ:=⟨[9,10,1,2],196,0,CH,fun(p:Val (.pair aa aI)) (v:Int) b a=>let A:=p.2.2.2.2.2.2.2.2.2;ũ p.1 p.2.1 A.1 A.2.1 A.2.2.1 v (fun c=>b c) (a 0) (a 1)⟩
def kB (ρ:Type):Env ρ:=Ò [(102,qR),(148,lS),(180,jU)] [pU ρ,pT ρ]
def D8:ï:=⟨[ai],[.bool],fun(x:ag)=>lN x⟩
def JY:Æ:=Ls 0 [ai,ai,tI] [tI] ⟨32,.con ai::aN 4 [.con ai,.con tI,.var tI],[]⟩ [(.ret,⟨32,[.con ai,.any,.var .bool,.any,.any,.con ai,.con tI],[]⟩,[.bool]),(.exit 0,⟨32,.con ai::aN 4 [.con ai,.con tI],[]⟩,[])]
def wc (ρ:Type):ă ρ:=⟨[],153,0,JY,fun(p:Val (.pair ai aX)) (v:Int) b a=>nM p.1 p.2.1 p.2.2 v (fun c=>b c) (a 0) (a 1)⟩
def FO (ρ:Type):Env ρ:=Ò [(180,jU)] [wc ρ]
def wY:ï:=⟨[ai,ai],[ai],fun(x:rd)=>ŏ x.1 x.2⟩
def CC:Æ:=Ls 2 [tI,ai,ai] [tI] ⟨19,.own 1::.fn 189 [(0,0)]::aN 5 [.con tI,.var tI],[bp,.rowc tI]⟩ [(.ret,⟨19,[.own 1,.fn 189 [(0,0)],.any,.any,.var tI,.any,.any,.con tI],[bp,.rowc tI]⟩,[tI]),(.exit 0,⟨19,.own 1::.fn 189 [(0,0)]::aN 5 [.con tI],[bp,.rowc tI]⟩,[])]
def CB (ρ:Type):ă ρ:=⟨[1,3,1,2],115,0,CC,fun(p:Val (tyL CC.cs)) (v:Int) b a=>s7 p.1 p.2.1 p.2.2 v (fun c=>b c) (a 0) (a 1)⟩
def P9:Æ:=Ls 2 [ai] [tI,tI,ai] ⟨42,[.own 1,.fn 189 [(0,0)],.any,.any,.any,.var tI,.var tI],[bp,.rowv tI]⟩ [(.exit 0,⟨42,[.own 1,.fn 189 [(0,0)],.any,.any,.any,.var tI],[bp,.rowv tI]⟩,[tI,ai])]
def CA (ρ:Type):ă ρ:=⟨[1,3],188,0,P9,fun(p:ag) (v:y7) a b=>jL p v.1 v.2.1 v.2.2 (fun c d e=>a (c,d,e)) (b 0)⟩
def Eu (ρ:Type):Env ρ:=Ò [(185,jj)] [CB ρ,CA ρ]
def X9:ï:=⟨[Å,tI,tI],[Ĵ,.bool],fun(x:Val aV)=>xC x.1 x.2.1 x.2.2⟩
def CM:Æ:=Ls 4 [ah,tI,tI,tI,af,aa,ah,ae,aa,tI,tI,tI,tI,tI,tI] [tI] ⟨19,.con ah::.fn 210 [(1,0),(2,0)]::aN 5 [.con tI,.var tI],[bm,bq,bq,bo]⟩ [(.ret,⟨19,[.con ah,.fn 210 [(1,0),(2,0)],.any,.any,.var tI,.any,.any,.con tI],[bm,bq,bq,bo]⟩,[tI]),(.exit 0,⟨19,.con ah::.fn 210 [(1,0),(2,0)]::aN 5 [.con tI],[bm,bq,bq,bo]⟩,[])]
def CL (ρ:Type):ă ρ:=⟨[1,3],198,0,CM,fun(p:Val (tyL CM.cs)) (v:Int) b a=>tc p.1 p.2.1 p.2.2.2.2.2.2.2.2.2.1 p.2.2.2.2.2.2.2.2.2.2.1 v (fun c=>b c) (a 0) (a 1)⟩
def Oc (ρ:Type):Env ρ:=Ò [(180,jU)] [CL ρ]
def F5:ï:=⟨[Å,ay,tI],[tI],fun(x:Val bj)=>Ĩ x.1 x.2.1 x.2.2⟩
def mr:Æ:=Ls 2 [ae,tI,tI,tI,af,aa,ah,ae,aa,tI,tI,ai,ai,tI,tI,tI,tI] [tI] ⟨19,.con ae::.fn 183 [(1,0)]::aN 5 [.con tI,.var tI],[bm,br]⟩ [(.ret,⟨19,[.con ae,.fn 183 [(1,0)],.any,.any,.var tI,.any,.any,.con tI],[bm,br]⟩,[tI]),(.exit 0,⟨19,.con ae::.fn 183 [(1,0)]::aN 5 [.con tI],[bm,br]⟩,[])]
def mq (ρ:Type):ă ρ:=⟨[4,5,1,2],160,0,mr,fun(p:Val (tyL mr.cs)) (v:Int) b a=>ο p.1 p.2.1 p.2.2.2.2.2.2.2.2.2.1 v (fun c=>b c) (a 0) (a 1)⟩
def mm:Æ:=Ls 0 [ay,ai,tI,tI,tI,ai,tI,tI,tI,af,aa,ah,ae,aa,tI,tI,ai,ai,tI,tI,tI,tI,ai] [tI] ⟨140,.any::.con ay::.any::.box 0 0::aN 3 (.box 1 0::.con ai::.any::.con tI::aN 65 [.own 2,.con tI,.con tI,.any,.any,.any,.con ai,.con tI,.var tI]),bX⟩ [(.ret,⟨140,.any::.con ay::.any::.box 0 0::aN 2 (.var tI::.box 1 0::.con ai::.any::.con tI::aN 65 [.own 2,.con tI,.con tI,.any,.any,.any,.con ai,.con tI]),bX⟩,[tI]),(.exit 2,⟨140,.any::.con ay::.any::.box 0 0::aN 3 (.box 1 0::.con ai::.any::.con tI::aN 65 [.own 2,.con tI,.con tI,.any,.any,.any,.con ai,.con tI]),bX⟩,[])]
def ml (ρ:Type):ă ρ:=⟨[],151,2,mm,fun(p:Val (tyL mm.cs)) (v:Int) b a=>let A:=p.2.2.2.2.2;ξ p.1 p.2.2.1 A.1 A.2.1 A.2.2.2.2.2.2.2.2.2.2.1 v (fun c=>b c) (a 0) (a 1)⟩
def mo:Æ:=Ls 0 [ay,ai,tI,tI,tI,af,aa,ah,ae,aa,tI,tI,ai,ai,tI,tI,tI,tI,ai] [tI] ⟨140,.any::.con ay::.any::.box 0 0::aN 3 (.box 1 0::.con ai::aN 67 [.own 2,.con tI,.var tI]),bX⟩ [(.ret,⟨140,.any::.con ay::.any::.box 0 0::aN 2 (.var tI::.box 1 0::.con ai::aN 67 [.own 2,.con tI]),bX⟩,[tI]),(.exit 0,⟨140,.any::.con ay::.any::.box 0 0::aN 3 (.box 1 0::.con ai::aN 67 [.own 2,.con tI]),bX⟩,[])]
def mn (ρ:Type):ă ρ:=⟨[],151,0,mo,fun(p:Val (tyL mo.cs)) (v:Int) b a=>ĭ p.1 p.2.1 p.2.2.1 p.2.2.2.2.2.2.2.2.2.2.2.1 p.2.2.2.2.2.2.2.2.2.2.2.2.2.2.2.2.2.2 v (fun c=>b c) (a 0) (a 1)⟩
def mj:Æ:=Ls 0 [ai,tI,tI,tI,af,aa,ah,ae,aa,tI,tI,ai,ai,tI,tI,tI,tI] [tI] ⟨140,aN 3 (.box 0 0::aN 3 (.box 1 0::aN 90 [.con ai,.con tI,.var tI])),[bm,br]⟩ [(.ret,⟨140,aN 3 (.box 0 0::aN 2 (.var tI::.box 1 0::aN 90 [.con ai,.con tI])),[bm,br]⟩,[tI]),(.exit 4,⟨140,aN 3 (.box 0 0::aN 3 (.box 1 0::aN 90 [.con ai,.con tI])),[bm,br]⟩,[])]
def mi (ρ:Type):ă ρ:=⟨[],151,4,mj,fun(p:Val (tyL mj.cs)) (v:Int) b a=>let A:=p.2.2.2.2;Ĭ p.1 p.2.1 p.2.2.1 p.2.2.2.1 A.1 A.2.1 A.2.2.1 A.2.2.2.1 A.2.2.2.2.1 A.2.2.2.2.2.2.1 v (fun c=>b c) (a 0) (a 1)⟩
def ń (ρ:Type):Env ρ:=Ò [(63,Ł),(102,qR),(147,Bb),(148,lS),(153,D8),(154,wY),(180,jU),(184,X9)] [mq ρ,ml ρ,mn ρ,mi ρ]
def Ĺ:ï:=⟨[Å],[tI],fun(x:a8)=>ô x⟩
variable [LC]
def Nk:ï:=⟨[É],[.bool],fun(x:ew)=>xo x⟩
def S8 (ρ:Type):Env ρ:=Ò [] []
def afQ:ï:=⟨[Å],[.bool],fun(x:a8)=>C5 x⟩
def PF:Æ:=Ls 0 [tI,tI,af,aa,ah,ae,aa] [tI] ⟨50,[.any,.box 0 0,.any,.var tI],[bm]⟩ [(.ret,⟨50,[.any,.box 0 0,.var .bool],[bm]⟩,[.bool]),(.exit 0,⟨50,[.any,.box 0 0],[bm]⟩,[])]
def Bo (ρ:Type):ă ρ:=⟨[],4,0,PF,fun(p:nm) (v:Int) b a=>sv p.2.2.2.2.2.1 v (fun c=>b c) (a 0) (a 1)⟩
def NG (ρ:Type):Env ρ:=Ò [(11,Nk)] [Bo ρ]
def l8:ï:=⟨[Â,tI,tI],[.bool],fun(x:ly)=>iS x.1 x.2.1 x.2.2⟩
def LH (ρ:Type):Env ρ:=Ò [] []
def D6:ï:=⟨[tI,tI,tI],[.bool],fun(x:py)=>kG x.1 x.2.1 x.2.2⟩
def acJ (ρ:Type):Env ρ:=Ò [] []
def A3:ï:=⟨[tI],[.bool],fun(x:Int)=>tF x⟩
def aad (ρ:Type):Env ρ:=Ò [(45,D6)] []
def Pf:ï:=⟨[tI,tI],[tI],fun(x:an)=>xy x.1 x.2⟩
def PO:Æ:=Ls 0 [] [tI,tI] ⟨14,[.var tI,.var tI],[]⟩ [(.exit 0,⟨14,[.var tI],[]⟩,[tI])]
def By (ρ:Type):ă ρ:=⟨[],94,0,PO,fun(p:Unit) (v:an) a b=>sL v.1 v.2 (fun c d=>a (c,d)) (b 0)⟩
def NX (ρ:Type):Env ρ:=Ò [] [By ρ]
def Pg:ï:=⟨[tI],[tI],fun(x:Int)=>Dc x⟩
def aai (ρ:Type):Env ρ:=Ò [] []
def Nt:ï:=⟨[Â],[.bool],fun(x:an)=>xw x⟩
def Ts (ρ:Type):Env ρ:=Ò [(94,Pf),(95,Pg)] []
def Nq:ï:=⟨[È],[.bool],fun(x:c9)=>xu x⟩
def Te (ρ:Type):Env ρ:=Ò [(12,l8),(18,A3),(44,Nt),(45,D6)] []
def vd:ï:=⟨[Å,tI],[tI],fun(x:Val bc)=>oT x.1 x.2⟩
def LV:Æ:=Ls 0 [tI,tI,tI,af,aa,ah,ae,aa] [tI] ⟨22,[.any,.con tI,.box 0 0,.any,.any,.var tI],[bm]⟩ [(.ret,⟨22,[.any,.con tI,.box 0 0,.any,.var tI],[bm]⟩,[tI]),(.exit 0,⟨22,[.any,.con tI,.box 0 0],[bm]⟩,[])]
def yz (ρ:Type):ă ρ:=⟨[],47,0,LV,fun(p:ge) (v:Int) b a=>pE p.1 p.2.2.2.1 v (fun c=>b c) (a 0) (a 1)⟩
def I1 (ρ:Type):Env ρ:=Ò [] [yz ρ]
def qN:ï:=⟨[Å,tI,tI],[tI],fun(x:Val aV)=>lK x.1 x.2.1 x.2.2⟩
def Th (ρ:Type):Env ρ:=Ò [(47,vd)] []
def Sh:ï:=⟨[Å],[tI],fun(x:a8)=>C6 x⟩
def LG:Æ:=Ls 0 [tI,tI,af,aa,ah,ae,aa] [tI] ⟨37,[.any,.box 0 0,.any,.var tI],[bm]⟩ [(.ret,⟨37,[.any,.box 0 0,.var tI],[bm]⟩,[tI]),(.exit 0,⟨37,[.any,.box 0 0],[bm]⟩,[])]
def yn (ρ:Type):ă ρ:=⟨[],14,0,LG,fun(p:nm) (v:Int) b a=>let A:=p.2.2.2.2;po p.1 p.2.1 p.2.2.1 p.2.2.2.1 A.1 A.2.1 A.2.2 v (fun c=>b c) (a 0) (a 1)⟩
def Iq (ρ:Type):Env ρ:=Ò [(18,A3),(19,qN)] [yn ρ]
def No:ï:=⟨[Å],[tI],fun(x:a8)=>xr x⟩
def Iu:Æ:=Ls 0 [tI,tI,tI,af,aa,ah,ae,aa,tI,tI,tI,tI] [tI] ⟨111,[.any,.box 0 0,.any,.con tI,.box 1 0,.any,.var tI],bW⟩ [(.ret,⟨111,[.any,.box 0 0,.var tI,.con tI,.box 1 0],bW⟩,[tI]),(.exit 2,⟨111,[.any,.box 0 0,.any,.con tI,.box 1 0],bW⟩,[])]
def vq (ρ:Type):ă ρ:=⟨[],15,2,Iu,fun(p:Val aI) (v:Int) b a=>let A:=p.2.2.2.2.2;nq p.1 A.1 A.2.2.2.1 A.2.2.2.2.1 A.2.2.2.2.2.1 v (fun c=>b c) (a 0) (a 1)⟩
def Ir:Æ:=Ls 0 [tI,tI,tI,af,aa,ah,ae,aa,tI,tI,tI,tI] [tI] ⟨111,[.any,.box 0 0,.any,.con tI,.box 1 0,.any,.any,.var tI],bW⟩ [(.ret,⟨111,[.any,.box 0 0,.var tI,.con tI,.box 1 0],bW⟩,[tI]),(.exit 4,⟨111,[.any,.box 0 0,.any,.con tI,.box 1 0],bW⟩,[])]
def vp (ρ:Type):ă ρ:=⟨[],15,4,Ir,fun(p:Val aI) (v:Int) b a=>let A:=p.2.2.2.2;let B:=A.2.2.2.2;ku A.1 B.1 B.2.1 B.2.2.1 v (fun c=>b c) (a 0) (a 1)⟩
def Iv:Æ:=Ls 0 [tI,tI,af,aa,ah,ae,aa] [tI] ⟨111,[.any,.box 0 0,.any,.var tI],[bm]⟩ [(.ret,⟨111,[.any,.box 0 0,.var tI],[bm]⟩,[tI]),(.exit 0,⟨111,[.any,.box 0 0],[bm]⟩,[])]
def vr (ρ:Type):ă ρ:=⟨[],15,0,Iv,fun(p:nm) (v:Int) b a=>let A:=p.2.2.2.2;nr p.1 p.2.1 p.2.2.1 p.2.2.2.1 A.1 A.2.1 A.2.2 v (fun c=>b c) (a 0) (a 1)⟩
def pp (ρ:Type):Env ρ:=Ò [(12,l8),(19,qN),(45,D6)] [vq ρ,vp ρ,vr ρ]
def Sn:ï:=⟨[ai],[.bool],fun(x:ag)=>ww x⟩
def LQ:Æ:=Ls 0 [ai] [tI] ⟨35,[.con ai,.any,.any,.var tI],[]⟩ [(.ret,⟨35,[.con ai,.any,.var .bool],[]⟩,[.bool]),(.exit 0,⟨35,[.con ai],[]⟩,[])]
def yu (ρ:Type):ă ρ:=⟨[],46,0,LQ,fun(p:ag) (v:Int) b a=>pA p v (fun c=>b c) (a 0) (a 1)⟩
def IK (ρ:Type):Env ρ:=Ò [(45,D6)] [yu ρ]
def Nn:ï:=⟨[É],[.bool],fun(x:ew)=>xq x⟩
def Tb (ρ:Type):Env ρ:=Ò [(12,l8),(18,A3),(45,D6),(46,Sn)] []
def HW:ï:=⟨[Å,tI,tI],[Ĵ,.bool],fun(x:Val aV)=>wx x.1 x.2.1 x.2.2⟩
def LR:Æ:=Ls 0 [tI,tI,tI,tI,af,aa,ah,ae,aa] [tI,tI,tI,tI,tI] ⟨42,[.any,.con tI,.con tI,.box 0 0,.any,.any,.box 1 0,.any,.var tI],[bm,bt]⟩ [(.ret,⟨42,[.any,.con tI,.con tI,.box 0 0,.any,.any,.box 1 0,.var .bool],[bm,bt]⟩,[.bool,tI,tI,tI,tI]),(.exit 0,⟨42,[.any,.con tI,.con tI,.box 0 0,.any,.any,.box 1 0],[bm,bt]⟩,[tI,tI,tI,tI])]
def yx (ρ:Type):ă ρ:=⟨[],48,0,LR,fun(p:Val (.pair tI aH)) (v:Val bi) b a=>pC p.1 p.2.1 p.2.2.2.2.2.2.1 v.1 v.2.1 v.2.2.1 v.2.2.2.1 v.2.2.2.2 (fun c d e f g=>b (c,d,e,f,g)) (a 0) (a 1)⟩
def IV (ρ:Type):Env ρ:=Ò [] [yx ρ]
def XZ:ï:=⟨[ai,tI],[.bool],fun(x:Val aX)=>Ht x.1 x.2⟩
def PK:Æ:=Ls 0 [ai,tI] [tI] ⟨18,[.con ai,.con tI,.any,.any,.any,.var tI],[]⟩ [(.ret,⟨18,[.con ai,.con tI,.any,.any,.var .bool],[]⟩,[.bool]),(.exit 0,⟨18,[.con ai,.con tI],[]⟩,[])]
def Bv (ρ:Type):ă ρ:=⟨[],96,0,PK,fun(p:Val aX) (v:Int) b a=>sJ p.1 p.2 v (fun c=>b c) (a 0) (a 1)⟩
def NS (ρ:Type):Env ρ:=Ò [] [Bv ρ]
def HX:ï:=⟨[ai,ai],[ai],fun(x:rd)=>jw x.1 x.2⟩
def LS:Æ:=Ls 0 [ai,ai] [tI,ai] ⟨28,[.con ai,.con ai,.any,.any,.any,.own 0,.var tI],[.rowv tI]⟩ [(.exit 0,⟨28,[.con ai,.con ai,.any,.any,.any,.own 0],[.rowv tI]⟩,[ai])]
def yy (ρ:Type):ă ρ:=⟨[],49,0,LS,fun(p:rd) (v:fy) a b=>pD p.1 p.2 v.1 v.2 (fun c d=>a (c,d)) (b 0)⟩
def IX (ρ:Type):Env ρ:=Ò [(96,XZ)] [yy ρ]
def A2:ï:=⟨[Å,É],[tI],fun(x:At)=>jc x.1 x.2⟩
def Br:Æ:=Ls 0 [tI,tI,af,aa,ah,ae,aa,tI,tI,ai,ai,tI,tI,tI,tI,ai] [tI] ⟨90,[.any,.any,.box 0 0,.box 1 0,.any,.own 2,.var tI],bX⟩ [(.ret,⟨90,[.any,.any,.box 0 0,.box 1 0,.var tI,.own 2],bX⟩,[tI]),(.exit 0,⟨90,[.any,.any,.box 0 0,.box 1 0,.any,.own 2],bX⟩,[])]
def pv (ρ:Type):ă ρ:=⟨[],17,0,Br,fun(p:Val az) (v:Int) b a=>let A:=p.2.2.2.2;jC p.1 p.2.1 p.2.2.1 p.2.2.2.1 A.1 A.2.1 A.2.2.1 A.2.2.2.2.2.2.2.2.2.2.2 v (fun c=>b c) (a 0) (a 1)⟩
def Bq:Æ:=Ls 0 [tI,tI,af,aa,ah,ae,aa,tI,tI,ai,ai,tI,tI,tI,tI,ai] [tI] ⟨90,[.any,.any,.box 0 0,.box 1 0,.any,.own 2,.any,.var tI],bX⟩ [(.ret,⟨90,[.any,.any,.box 0 0,.box 1 0,.var tI,.own 2],bX⟩,[tI]),(.exit 2,⟨90,[.any,.any,.box 0 0,.box 1 0,.any,.own 2],bX⟩,[])]
def pu (ρ:Type):ă ρ:=⟨[],17,2,Bq,fun(p:Val az) (v:Int) b a=>let A:=p.2.2.2.2;g8 p.1 p.2.1 p.2.2.1 p.2.2.2.1 A.1 A.2.1 A.2.2.1 A.2.2.2.2.1 A.2.2.2.2.2.2.2.2.2.2.2 v (fun c=>b c) (a 0) (a 1)⟩
def Bp:Æ:=Ls 0 [tI,tI,af,aa,ah,ae,aa,tI,tI,ai,ai,tI,tI,tI,tI,ai] [tI] ⟨90,[.any,.any,.box 0 0,.box 1 0,.any,.own 2,.any,.any,.var tI],bX⟩ [(.ret,⟨90,[.any,.any,.box 0 0,.box 1 0,.var tI,.own 2],bX⟩,[tI]),(.exit 4,⟨90,[.any,.any,.box 0 0,.box 1 0,.any,.own 2],bX⟩,[])]
def pr (ρ:Type):ă ρ:=⟨[],17,4,Bp,fun(p:Val az) (v:Int) b a=>let A:=p.2.2.2.2;ť p.1 p.2.1 p.2.2.1 p.2.2.2.1 A.1 A.2.1 A.2.2.1 A.2.2.2.2.1 A.2.2.2.2.2.2.2.2.2.2.2 v (fun c=>b c) (a 0) (a 1)⟩
def iI (ρ:Type):Env ρ:=Ò [(19,qN),(47,vd),(48,HW),(49,HX)] [pv ρ,pu ρ,pr ρ]
def G9:ï:=⟨[ai,ai],[tI],fun(x:rd)=>nQ x.1 x.2⟩
def aac (ρ:Type):Env ρ:=Ò [(49,HX)] []
def Sj:ï:=⟨[Å,È,tI],[.bool],fun(x:Val (.pair Å (.pair È tI)))=>C7 x.1 x.2.1 x.2.2⟩
def LL:Æ:=Ls 0 [tI,tI,tI,af,aa,ah,ae,aa,tI,tI,tI,tI,tI,tI,tI,tI] [tI] ⟨76,[.any,.any,.con tI,.box 0 0,.box 1 0,.any,.any,.var tI],[bm,bn]⟩ [(.ret,⟨76,[.any,.any,.con tI,.box 0 0,.box 1 0,.any,.var .bool],[bm,bn]⟩,[.bool]),(.exit 0,⟨76,[.any,.any,.con tI,.box 0 0,.box 1 0],[bm,bn]⟩,[])]
def yq (ρ:Type):ă ρ:=⟨[],50,0,LL,fun(p:Val aG) (v:Int) b a=>pw p.1 p.2.2.2.2.2.2.1 p.2.2.2.2.2.2.2.2.1 v (fun c=>b c) (a 0) (a 1)⟩
def LK:Æ:=Ls 0 [tI,tI,tI,af,aa,ah,ae,aa,tI,tI,tI,tI,tI,tI,tI,tI] [tI] ⟨76,aN 2 (.con tI::.box 0 0::.box 1 0::aN 4 [.var tI]),[bm,bn]⟩ [(.ret,⟨76,[.any,.any,.con tI,.box 0 0,.box 1 0,.any,.var .bool],[bm,bn]⟩,[.bool]),(.exit 2,⟨76,[.any,.any,.con tI,.box 0 0,.box 1 0],[bm,bn]⟩,[])]
def yp (ρ:Type):ă ρ:=⟨[],50,2,LK,fun(p:Val aG) (v:Int) b a=>mg p.1 p.2.2.2.2.2.2.2.1 p.2.2.2.2.2.2.2.2.1 v (fun c=>b c) (a 0) (a 1)⟩
def zW (ρ:Type):Env ρ:=Ò [(52,G9)] [yq ρ,yp ρ]
def qO:ï:=⟨[Å],[aa],fun(x:a8)=>jd x⟩
def IP:Æ:=Ls 0 [tI,tI,af,aa,ah,ae,aa] [tI,ai] ⟨114,[.any,.box 0 0,.any,.own 1,.var tI],bY⟩ [(.exit 0,⟨114,[.any,.box 0 0,.any,.own 1],bY⟩,[ai])]
def vG (ρ:Type):ă ρ:=⟨[],20,0,IP,fun(p:nm) (v:fy) a b=>nE p.2.2.1 v.1 v.2 (fun c d=>a (c,d)) (b 0)⟩
def IM:Æ:=Ls 0 [tI,tI,af,aa,ah,ae,aa] [tI,ai] ⟨114,[.any,.box 0 0,.any,.own 1,.any,.var tI],bY⟩ [(.exit 2,⟨114,[.any,.box 0 0,.any,.own 1],bY⟩,[ai])]
def vF (ρ:Type):ă ρ:=⟨[],20,2,IM,fun(p:nm) (v:fy) a b=>nD p.2.2.2.2.2.1 v.1 v.2 (fun c d=>a (c,d)) (b 0)⟩
def IL:Æ:=Ls 0 [tI,tI,af,aa,ah,ae,aa] [tI,ai] ⟨114,[.any,.box 0 0,.any,.own 1,.any,.any,.var tI],bY⟩ [(.exit 4,⟨114,[.any,.box 0 0,.any,.own 1],bY⟩,[ai])]
def vE (ρ:Type):ă ρ:=⟨[],20,4,IL,fun(p:nm) (v:fy) a b=>nB p.2.2.2.2.2.2 v.1 v.2 (fun c d=>a (c,d)) (b 0)⟩
def vz:Æ:=Ls 0 [tI,tI,tI,tI,af,aa,ah,ae,aa,ai,aa] [tI,tI] ⟨114,[.any,.box 0 0,.any,.own 1,.any,.any,.any,.own 2,.con tI,.con tI,.var tI,.var tI],[bm,.rowc tI,.rowc Â]⟩ [(.exit 10,⟨114,[.any,.box 0 0,.any,.own 1,.any,.any,.any,.own 2,.con tI,.con tI,.var tI],[bm,.rowc tI,.rowc Â]⟩,[tI])]
def vy (ρ:Type):ă ρ:=⟨[],20,10,vz,fun(p:Val (tyL vz.cs)) (v:an) a b=>kv p.2.1 p.2.2.2.2.2.2.2.2.2.1 v.1 v.2 (fun c d=>a (c,d)) (b 0)⟩
def vB:Æ:=Ls 0 [tI,tI,tI,af,aa,ah,ae,aa,ai] [tI,aa] ⟨114,[.any,.box 0 0,.any,.own 1,.any,.any,.any,.own 2,.con tI,.var tI],bZ⟩ [(.exit 8,⟨114,[.any,.box 0 0,.any,.own 1,.any,.any,.any,.own 2,.con tI],bZ⟩,[aa])]
def vA (ρ:Type):ă ρ:=⟨[],20,8,vB,fun(p:Val (tyL vB.cs)) (v:rn) a b=>let A:=p.2.2.2.2;kw p.1 p.2.1 p.2.2.1 p.2.2.2.1 A.1 A.2.1 A.2.2.1 A.2.2.2.1 A.2.2.2.2 v.1 v.2 (fun c d=>a (c,d)) (b 0)⟩
def vD:Æ:=Ls 0 [tI,tI,af,aa,ah,ae,aa,ai] [tI,aa] ⟨114,[.any,.box 0 0,.any,.own 1,.any,.any,.any,.own 2,.var tI],bZ⟩ [(.exit 6,⟨114,[.any,.box 0 0,.any,.own 1,.any,.any,.any,.own 2],bZ⟩,[aa])]
def vC (ρ:Type):ă ρ:=⟨[],20,6,vD,fun(p:Val (tyL vD.cs)) (v:rn) a b=>let A:=p.2.2.2.2;nA p.1 p.2.1 p.2.2.1 p.2.2.2.1 A.1 A.2.1 A.2.2.1 A.2.2.2 v.1 v.2 (fun c d=>a (c,d)) (b 0)⟩
def iJ (ρ:Type):Env ρ:=Ò [(50,Sj)] [vG ρ,vF ρ,vE ρ,vy ρ,vA ρ,vC ρ]
def wX:ï:=⟨[Å,Â],[tI],fun(x:Val aV)=>Μ x.1 x.2⟩
def IY:Æ:=Ls 0 [aa,tI,tI] [tI] ⟨23,[.any,.any,.any,.box 0 0,.any,.con aa,.var tI],[bu]⟩ [(.ret,⟨23,[.any,.any,.any,.box 0 0,.var tI,.con aa],[bu]⟩,[tI]),(.exit 0,⟨23,[.any,.any,.any,.box 0 0,.any,.con aa],[bu]⟩,[])]
def vH (ρ:Type):ă ρ:=⟨[],42,0,IY,fun(p:y8) (v:Int) b a=>nF p.1 p.2.1 p.2.2 v (fun c=>b c) (a 0) (a 1)⟩
def Fw (ρ:Type):Env ρ:=Ò [(20,qO)] [vH ρ]
def Sk:ï:=⟨[Å,tI,tI],[.bool],fun(x:Val aV)=>C8 x.1 x.2.1 x.2.2⟩
def LM:Æ:=Ls 0 [tI,tI,tI,tI,af,aa,ah,ae,aa] [tI] ⟨33,[.any,.con tI,.con tI,.box 0 0,.any,.any,.any,.var tI],[bm]⟩ [(.ret,⟨33,[.any,.con tI,.con tI,.box 0 0,.any,.any,.var .bool],[bm]⟩,[.bool]),(.exit 0,⟨33,[.any,.con tI,.con tI,.box 0 0],[bm]⟩,[])]
def yr (ρ:Type):ă ρ:=⟨[],97,0,LM,fun(p:Val (.pair tI aH)) (v:Int) b a=>pz p.1 p.2.1 p.2.2.2.2.2.1 v (fun c=>b c) (a 0) (a 1)⟩
def IB (ρ:Type):Env ρ:=Ò [] [yr ρ]
def Sq:ï:=⟨[Å,tI,tI,tI],[tI],fun(x:Val (.pair Å ć))=>rU x.1 x.2.1 x.2.2.1 x.2.2.2⟩
def yw:Æ:=Ls 0 [tI,tI,tI,tI,tI,af,aa,ah,ae,aa] [tI,tI] ⟨48,.any::.con tI::.any::.con tI::.box 0 0::aN 4 [.con tI,.var tI,.var tI],[bm]⟩ [(.exit 0,⟨48,.any::.con tI::.any::.con tI::.box 0 0::aN 4 [.con tI,.var tI],[bm]⟩,[tI])]
def yv (ρ:Type):ă ρ:=⟨[],51,0,yw,fun(p:Val (tyL yw.cs)) (v:an) a b=>let A:=p.2.2.2.2;pB p.1 p.2.1 p.2.2.1 p.2.2.2.1 A.1 A.2.1 A.2.2.1 A.2.2.2.1 A.2.2.2.2.1 A.2.2.2.2.2 v.1 v.2 (fun c d=>a (c,d)) (b 0)⟩
def IR (ρ:Type):Env ρ:=Ò [(47,vd),(48,HW),(97,Sk)] [yv ρ]
def zI:ï:=⟨[tI,tI],[Α],fun(x:an)=>oU x.1 x.2⟩
def PN (ρ:Type):Env ρ:=Ò [(94,Pf),(95,Pg)] []
def X4:ï:=⟨[Â,Â],[Α],fun(x:ly)=>Qw x.1 x.2⟩
def aah (ρ:Type):Env ρ:=Ò [(207,zI)] []
def X2:ï:=⟨[Â],[Â],fun(x:an)=>Qv x⟩
def aaf (ρ:Type):Env ρ:=Ò [] []
def X1:ï:=⟨[Â,Â],[Α],fun(x:ly)=>Hu x.1 x.2⟩
def aae (ρ:Type):Env ρ:=Ò [(175,X4),(176,X2)] []
def Np:ï:=⟨[Å,tI],[Â],fun(x:Val bc)=>rR x.1 x.2⟩
def Td (ρ:Type):Env ρ:=Ò [(47,vd)] []
def Ss:ï:=⟨[Α,Α],[AG],fun(x:Val (.pair Α Α))=>Da x.1 x.2⟩
def V9 (ρ:Type):Env ρ:=Ò [] []
def X3:ï:=⟨[Â,Â],[Α],fun(x:ly)=>tG x.1 x.2⟩
def aag (ρ:Type):Env ρ:=Ò [(207,zI)] []
def Nu:ï:=⟨[ú,Â],[AG],fun(x:Val (.pair ú Â))=>xx x.1 x.2⟩
def Tt (ρ:Type):Env ρ:=Ò [(177,Ss),(178,X3)] []
def HY:ï:=⟨[Å,É],[ú],fun(x:At)=>tE x.1 x.2⟩
def PL (ρ:Type):Env ρ:=Ò [(52,G9),(140,X1),(141,Np),(142,Nu)] []
def Nr:ï:=⟨[Å,É],[Â],fun(x:At)=>xv x.1 x.2⟩
def Tp (ρ:Type):Env ρ:=Ò [] []
def Sr:ï:=⟨[tI,tI],[tI],fun(x:an)=>KC x.1 x.2⟩
def V8 (ρ:Type):Env ρ:=Ò [] []
def Nv:ï:=⟨[Â],[tI],fun(x:an)=>xz x⟩
def Tu (ρ:Type):Env ρ:=Ò [(143,Sr)] []
def acb:ï:=⟨[tI,tI],[tI],fun(x:an)=>WQ x.1 x.2⟩
def acL (ρ:Type):Env ρ:=Ò [] []
def Su:ï:=⟨[Â],[tI],fun(x:an)=>Db x⟩
def Wc (ρ:Type):Env ρ:=Ò [(144,acb)] []
def Sl:ï:=⟨[Å,É],[Â],fun(x:At)=>rS x.1 x.2⟩
def V7 (ρ:Type):Env ρ:=Ò [(98,HY),(99,Nr),(100,Nv),(101,Su)] []
def Pe:ï:=⟨[Å],[ye],fun(x:a8)=>tC x⟩
def PH:Æ:=Ls 0 [aa,tI,tI,tI,af,aa,ah,ae,aa,tI,tI,tI,tI,tI,tI,tI,tI] [tI,ao,aa] ⟨182,[.any,.box 0 0,.box 1 0,.box 2 0,.con aa,.con tI,.box 3 0,.var tI],[bm,bv,.cells [.own 4,.own 5],bn,.rowv ć,.rowv Â]⟩ [(.exit 2,⟨182,[.any,.box 0 0,.box 1 0,.box 2 0,.con aa,.con tI,.box 3 0],[bm,bv,.cells [.own 4,.own 5],bn,.rowv ć,.rowv Â]⟩,[ao,aa])]
def Bt (ρ:Type):ă ρ:=⟨[],21,2,PH,fun(p:Val (.pair aa aG)) (v:v8) a b=>let A:=p.2.2.2.2;let B:=A.2.2.2.2;oG p.1 p.2.1 p.2.2.1 p.2.2.2.1 A.1 A.2.1 A.2.2.1 A.2.2.2.1 B.1 B.2.1 B.2.2.1 B.2.2.2.1 B.2.2.2.2.1 B.2.2.2.2.2.1 v.1 v.2.1 v.2.2 (fun c d e=>a (c,d,e)) (b 0)⟩
def PI:Æ:=Ls 0 [aa,tI,tI,af,aa,ah,ae,aa] [tI,ao,aa] ⟨182,[.any,.box 0 0,.box 1 0,.box 2 0,.con aa,.var tI],b7⟩ [(.exit 0,⟨182,[.any,.box 0 0,.box 1 0,.box 2 0,.con aa],b7⟩,[ao,aa])]
def Bu (ρ:Type):ă ρ:=⟨[],21,0,PI,fun(p:Val (.pair aa ak)) (v:v8) a b=>let A:=p.2.2.2.2;sI p.1 p.2.1 p.2.2.1 p.2.2.2.1 A.1 A.2.1 A.2.2.1 A.2.2.2 v.1 v.2.1 v.2.2 (fun c d e=>a (c,d,e)) (b 0)⟩
def PG:Æ:=Ls 0 [tI,tI,af,aa,ah,ae,aa] [tI,ao,aa] ⟨182,.any::.box 0 0::.box 1 0::.box 2 0::aN 5 [.var tI],b7⟩ [(.exit 4,⟨182,[.any,.box 0 0,.box 1 0,.box 2 0],b7⟩,[ao,aa])]
def Bs (ρ:Type):ă ρ:=⟨[],21,4,PG,fun(p:nm) (v:v8) a b=>let A:=p.2.2.2.2;sH p.1 p.2.1 p.2.2.1 p.2.2.2.1 A.1 A.2.1 A.2.2 v.1 v.2.1 v.2.2 (fun c d e=>a (c,d,e)) (b 0)⟩
def w8 (ρ:Type):Env ρ:=Ò [(20,qO),(42,wX),(51,Sq),(52,G9),(53,Sl)] [Bt ρ,Bu ρ,Bs ρ]
def Ns:ï:=⟨[Å],[tI],fun(x:a8)=>lL x⟩
def I6:Æ:=Ls 0 [tI,tI,af,aa,ah,ae,aa] [tI] ⟨170,[.any,.box 0 0,.any,.var tI],[bm]⟩ [(.ret,⟨170,[.any,.box 0 0,.var tI],[bm]⟩,[tI]),(.exit 0,⟨170,[.any,.box 0 0],[bm]⟩,[])]
def vL (ρ:Type):ă ρ:=⟨[],5,0,I6,fun(p:nm) (v:Int) b a=>nI p.2.2.1 v (fun c=>b c) (a 0) (a 1)⟩
def I4:Æ:=Ls 0 [tI,tI,tI,af,aa,ah,ae,aa] [tI] ⟨170,.any::.box 0 0::aN 4 [.con tI,.any,.var tI],[bm]⟩ [(.ret,⟨170,[.any,.box 0 0,.var tI,.any,.any,.any,.con tI],[bm]⟩,[tI]),(.exit 4,⟨170,.any::.box 0 0::aN 4 [.con tI],[bm]⟩,[])]
def vJ (ρ:Type):ă ρ:=⟨[],5,4,I4,fun(p:ge) (v:Int) b a=>nH p.1 p.2.2.2.2.2.2.1 v (fun c=>b c) (a 0) (a 1)⟩
def I5:Æ:=Ls 0 [tI,tI,af,aa,ah,ae,aa] [tI] ⟨170,.any::.box 0 0::aN 4 [.var tI],[bm]⟩ [(.ret,⟨170,[.any,.box 0 0,.var tI],[bm]⟩,[tI]),(.exit 2,⟨170,[.any,.box 0 0],[bm]⟩,[])]
def vK (ρ:Type):ă ρ:=⟨[],5,2,I5,fun(p:nm) (v:Int) b a=>let A:=p.2.2.2.2;i9 p.1 p.2.1 p.2.2.1 p.2.2.2.1 A.1 A.2.1 A.2.2 v (fun c=>b c) (a 0) (a 1)⟩
def I3:Æ:=Ls 0 [tI,tI,af,aa,ah,ae,aa] [tI] ⟨170,.any::.box 0 0::aN 7 [.var tI],[bm]⟩ [(.ret,⟨170,[.any,.box 0 0,.var tI],[bm]⟩,[tI]),(.exit 6,⟨170,[.any,.box 0 0],[bm]⟩,[])]
def vI (ρ:Type):ă ρ:=⟨[],5,6,I3,fun(p:nm) (v:Int) b a=>let A:=p.2.2.2.2;i8 p.1 p.2.1 p.2.2.1 p.2.2.2.1 A.1 A.2.1 A.2.2 v (fun c=>b c) (a 0) (a 1)⟩
def jY (ρ:Type):Env ρ:=Ò [(12,l8),(13,Nq),(14,Sh),(15,No),(16,Nn),(17,A2),(18,A3),(19,qN),(20,qO),(21,Pe)] [vL ρ,vJ ρ,vK ρ,vI ρ]
def ŗ:ï:=⟨[aa,Â],[tI],fun(x:y8)=>î x.1 x.2⟩
def kT:Æ:=Ls 0 [aa,tI,tI,tI] [tI] ⟨19,[.con aa,.any,.any,.box 0 0,.any,.any,.any,.con tI,.var tI],[bu]⟩ [(.ret,⟨19,[.con aa,.any,.any,.box 0 0,.var tI,.any,.any,.con tI],[bu]⟩,[tI]),(.exit 0,⟨19,[.con aa,.any,.any,.box 0 0,.any,.any,.any,.con tI],[bu]⟩,[])]
def Ż (ρ:Type):ă ρ:=⟨[],129,0,kT,fun(p:Val (.pair aa ć)) (v:Int) b a=>đ p.1 p.2.1 p.2.2.1 p.2.2.2 v (fun c=>b c) (a 0) (a 1)⟩
def gY (ρ:Type):Env ρ:=Ò [] [Ż ρ]
def iF:ï:=⟨[Å,Â],[tI,tI],fun(x:Val aV)=>ļ x.1 x.2⟩
def WB (ρ:Type):Env ρ:=Ò [(56,Ĺ),(106,Ba),(129,ŗ)] []
def iE:ï:=⟨[aF,Â],[tI],fun(x:pl)=>Ŝ x.1 x.2⟩
def PQ (ρ:Type):Env ρ:=Ò [(75,iF)] []
def l9:ï:=⟨[Î,aq],[(.fsl tI),.bool],fun(x:Val (.pair Î aq))=>iT x.1 x.2⟩
def rJ:Æ:=Ls 2 [aq,ao,tI,tI,ao,ai,tI,ao,aD,ai] [tI,tI] ⟨140,.any::.con aq::.own 1::.box 2 0::aN 3 (.box 3 0::.own 4::.own 5::.var tI::aN 14 [.con ao,.con tI,.var tI]),[bz,.rowc tI,bz,.cells [.nils],.rowc .bool,.rowc tI]⟩ [(.exit 0,⟨140,.any::.con aq::.own 1::.box 2 0::aN 3 (.box 3 0::.own 4::.own 5::.var tI::aN 14 [.con ao,.con tI]),[bz,.rowc tI,bz,.cells [.nils],.rowc .bool,.rowc tI]⟩,[tI])]
def rI (ρ:Type):ă ρ:=⟨[2,3],139,0,rJ,fun(p:Val (tyL rJ.cs)) (v:an) a b=>Ι p.2.1 p.2.2.1 v.1 v.2 (fun c d=>a (c,d)) (b 0)⟩
def rH:Æ:=Ls 2 [aq,tI,tI,tI,ao,ai,tI,ao,ai] [tI,aD,ai] ⟨140,.any::.con aq::.own 1::.box 2 0::aN 3 (.box 3 0::.own 4::.own 5::.con tI::aN 27 [.con tI,.var tI]),b8⟩ [(.exit 2,⟨140,.any::.con aq::.own 1::.box 2 0::aN 3 (.box 3 0::.own 4::.own 5::.con tI::aN 27 [.con tI]),b8⟩,[aD,ai])]
def rG (ρ:Type):ă ρ:=⟨[2,3],139,2,rH,fun(p:Val (tyL rH.cs)) (v:y9) a b=>ĺ p.2.2.1 p.2.2.2.2.2.1 v.1 v.2.1 v.2.2 (fun c d e=>a (c,d,e)) (b 0)⟩
def rC:Æ:=Ls 2 [aq,tI,tI,ao,tI,tI,ao,tI,ao,ai] [tI,ai,aD,ai] ⟨140,.any::.con aq::.own 1::.box 2 0::aN 3 (.box 3 0::.own 4::.own 5::.con tI::aN 3 (.con tI::aN 62 [.con ao,.con tI,.var tI])),b9⟩ [(.ret,⟨140,.any::.con aq::.own 1::.box 2 0::aN 2 (.var .bool::.box 3 0::.own 4::.own 5::.con tI::aN 3 (.con tI::aN 62 [.con ao,.con tI])),b9⟩,[.bool,ai,aD,ai]),(.exit 6,⟨140,.any::.con aq::.own 1::.box 2 0::aN 3 (.box 3 0::.own 4::.own 5::.con tI::aN 3 (.con tI::aN 62 [.con ao,.con tI])),b9⟩,[ai,aD,ai])]
def rB (ρ:Type):ă ρ:=⟨[2,3],139,6,rC,fun(p:Val (tyL rC.cs)) (v:pc) b a=>iL p.1 p.2.1 p.2.2.1 p.2.2.2.1 p.2.2.2.2.1 v.1 v.2.1 v.2.2.1 v.2.2.2 (fun c d e f=>b (c,d,e,f)) (a 0) (a 1)⟩
def rE:Æ:=Ls 2 [aq,tI,tI,ao,tI,ao] [ai,aD,ai,ai] ⟨140,[.any,.con aq,.own 1,.box 2 0,.any,.any,.any,.box 3 0,.own 4,.own 5,.con tI],ca⟩ [(.ret,⟨140,[.any,.con aq,.own 1,.box 2 0,.any,.any,.var .bool,.box 3 0,.own 4,.own 5,.con tI],ca⟩,[.bool,ai,aD,ai,ai])]
def rD (ρ:Type):ă ρ:=⟨[2,3],139,4,rE,fun(p:Val (tyL rE.cs)) (v:Val aS) a b=>Ĕ p.1 p.2.1 p.2.2.2.2.1 p.2.2.2.2.2 v.1 v.2.1 v.2.2.1 v.2.2.2 (fun c d e f=>a (c,d,e,f)) (b 0)⟩
def Eo:Æ:=Ls 0 [tI,tI] [tI,ai] ⟨34,aN 6 (.own 0::.con tI::aN 13 [.con tI,.var tI]),[.rowv tI]⟩ [(.exit 0,⟨34,aN 6 (.own 0::.con tI::aN 13 [.con tI]),[.rowv tI]⟩,[ai])]
def rA (ρ:Type):ă ρ:=⟨[],91,0,Eo,fun(p:an) (v:fy) a b=>iK p.1 p.2 v.1 v.2 (fun c d=>a (c,d)) (b 0)⟩
def ų (ρ:Type):Env ρ:=Ò [] [rI ρ,rG ρ,rB ρ,rD ρ,rA ρ]
def Ha:ï:=⟨[Î,tI],[.bool],fun(x:Val (.pair Î tI))=>pZ x.1 x.2⟩
def aap (ρ:Type):Env ρ:=Ò [] []
def qP:ï:=⟨[Î],[tI,tI],fun(x:ey)=>mD x⟩
def Mr:Æ:=Ls 0 [ao,tI,tI,ao] [tI] ⟨57,.any::.box 0 0::aN 17 [.con ao,.con tI,.var tI],[bz]⟩ [(.ret,⟨57,.any::.box 0 0::.var tI::.var tI::aN 15 [.con ao,.con tI],[bz]⟩,[tI,tI]),(.exit 0,⟨57,.any::.box 0 0::aN 17 [.con ao,.con tI],[bz]⟩,[])]
def yY (ρ:Type):ă ρ:=⟨[],127,0,Mr,fun(p:Val (.pair ao aO)) (v:Int) b a=>pN p.1 p.2.1 p.2.2.1 p.2.2.2 v (fun c=>b c) (a 0) (a 1)⟩
def JK (ρ:Type):Env ρ:=Ò [(130,Ha)] [yY ρ]
def SB:ï:=⟨[Î,ai],[tI],fun(x:Val (.pair Î ai))=>De x.1 x.2⟩
def Mp:Æ:=Ls 0 [ai,tI,tI,ao] [tI] ⟨37,aN 2 (.box 0 0::aN 16 [.con ai,.con tI,.var tI]),[bz]⟩ [(.ret,⟨37,aN 2 (.box 0 0::.any::.var tI::aN 14 [.con ai,.con tI]),[bz]⟩,[tI]),(.exit 0,⟨37,aN 2 (.box 0 0::aN 16 [.con ai,.con tI]),[bz]⟩,[])]
def yN (ρ:Type):ă ρ:=⟨[],135,0,Mp,fun(p:Val (.pair ai aO)) (v:Int) b a=>pM p.1 p.2.1 p.2.2.1 p.2.2.2 v (fun c=>b c) (a 0) (a 1)⟩
def JD (ρ:Type):Env ρ:=Ò [(91,l9),(127,qP),(130,Ha)] [yN ρ]
def Ny:ï:=⟨[Î,aq,tI],[ai],fun(x:Val (.pair Î (.pair aq tI)))=>xA x.1 x.2.1 x.2.2⟩
def wa:Æ:=Ls 0 [aq,tI,tI,tI,ao] [tI,ai] ⟨29,.any::.con aq::.con tI::.box 0 0::aN 3 (.own 1::aN 5 [.con tI,.var tI]),[bz,.rowv tI]⟩ [(.exit 0,⟨29,.any::.con aq::.con tI::.box 0 0::aN 3 (.own 1::aN 5 [.con tI]),[bz,.rowv tI]⟩,[ai])]
def vZ (ρ:Type):ă ρ:=⟨[],136,0,wa,fun(p:Val (tyL wa.cs)) (v:fy) a b=>nJ p.2.2.1 v.1 v.2 (fun c d=>a (c,d)) (b 0)⟩
def vY:Æ:=Ls 2 [aq,ao,tI,tI,ao,ai,tI,ao,aD,ai] [tI,tI] ⟨140,.any::.con aq::.own 1::.box 2 0::aN 3 (.box 3 0::.own 4::.own 5::.var tI::aN 14 [.con ao,.con tI,.var tI]),[bz,.rowc tI,bz,.cells [.nils],.rowc .bool,.rowc tI]⟩ [(.exit 0,⟨140,.any::.con aq::.own 1::.box 2 0::aN 3 (.box 3 0::.own 4::.own 5::.var tI::aN 14 [.con ao,.con tI]),[bz,.rowc tI,bz,.cells [.nils],.rowc .bool,.rowc tI]⟩,[tI])]
def vX (ρ:Type):ă ρ:=⟨[8,3],139,0,vY,fun(p:Val (tyL vY.cs)) (v:an) a b=>sS p.2.1 p.2.2.1 v.1 v.2 (fun c d=>a (c,d)) (b 0)⟩
def vW:Æ:=Ls 2 [aq,tI,tI,tI,ao,ai,tI,ao,ai] [tI,aD,ai] ⟨140,.any::.con aq::.own 1::.box 2 0::aN 3 (.box 3 0::.own 4::.own 5::.con tI::aN 27 [.con tI,.var tI]),b8⟩ [(.exit 2,⟨140,.any::.con aq::.own 1::.box 2 0::aN 3 (.box 3 0::.own 4::.own 5::.con tI::aN 27 [.con tI]),b8⟩,[aD,ai])]
def vV (ρ:Type):ă ρ:=⟨[8,3],139,2,vW,fun(p:Val (tyL vW.cs)) (v:y9) a b=>sR p.2.2.1 p.2.2.2.2.2.1 v.1 v.2.1 v.2.2 (fun c d e=>a (c,d,e)) (b 0)⟩
def vS:Æ:=Ls 2 [aq,tI,tI,ao,tI,tI,ao,tI,ao,ai] [tI,ai,aD,ai] ⟨140,.any::.con aq::.own 1::.box 2 0::aN 3 (.box 3 0::.own 4::.own 5::.con tI::aN 3 (.con tI::aN 62 [.con ao,.con tI,.var tI])),b9⟩ [(.ret,⟨140,.any::.con aq::.own 1::.box 2 0::aN 2 (.var .bool::.box 3 0::.own 4::.own 5::.con tI::aN 3 (.con tI::aN 62 [.con ao,.con tI])),b9⟩,[.bool,ai,aD,ai]),(.exit 6,⟨140,.any::.con aq::.own 1::.box 2 0::aN 3 (.box 3 0::.own 4::.own 5::.con tI::aN 3 (.con tI::aN 62 [.con ao,.con tI])),b9⟩,[ai,aD,ai])]
def vR (ρ:Type):ă ρ:=⟨[8,3],139,6,vS,fun(p:Val (tyL vS.cs)) (v:pc) b a=>Cl p.1 p.2.1 p.2.2.1 p.2.2.2.1 p.2.2.2.2.1 v.1 v.2.1 v.2.2.1 v.2.2.2 (fun c d e f=>b (c,d,e,f)) (a 0) (a 1)⟩
def vU:Æ:=Ls 2 [aq,tI,tI,ao,tI,ao] [ai,aD,ai,ai] ⟨140,[.any,.con aq,.own 1,.box 2 0,.any,.any,.any,.box 3 0,.own 4,.own 5,.con tI],ca⟩ [(.ret,⟨140,[.any,.con aq,.own 1,.box 2 0,.any,.any,.var .bool,.box 3 0,.own 4,.own 5,.con tI],ca⟩,[.bool,ai,aD,ai,ai])]
def vT (ρ:Type):ă ρ:=⟨[8,3],139,4,vU,fun(p:Val (tyL vU.cs)) (v:Val aS) a b=>sQ p.1 p.2.1 p.2.2.2.2.1 p.2.2.2.2.2 v.1 v.2.1 v.2.2.1 v.2.2.2 (fun c d e f=>a (c,d,e,f)) (b 0)⟩
def iM (ρ:Type):Env ρ:=Ò [] [vZ ρ,vX ρ,vV ρ,vR ρ,vT ρ]
def vg:ï:=⟨[Î,tI,tI],[tI,tI],fun(x:z7)=>mE x.1 x.2.1 x.2.2⟩
def Wr (ρ:Type):Env ρ:=Ò [(135,SB),(136,Ny)] []
def H6:ï:=⟨[Î,tI,tI],[au],fun(x:z7)=>wD x.1 x.2.1 x.2.2⟩
def N7:Æ:=Ls 0 [tI,tI,tI,tI,ao] [tI,ai] ⟨45,.any::.con tI::.con tI::.box 0 0::aN 3 (.own 1::aN 7 [.con tI,.var tI]),[bz,.rowv tI]⟩ [(.exit 0,⟨45,.any::.con tI::.con tI::.box 0 0::aN 3 (.own 1::aN 7 [.con tI]),[bz,.rowv tI]⟩,[ai])]
def N6 (ρ:Type):ă ρ:=⟨[],81,0,N7,fun(p:Val (tyL N7.cs)) (v:fy) a b=>xc p.2.2.1 v.1 v.2 (fun c d=>a (c,d)) (b 0)⟩
def N4:Æ:=Ls 4 [ai,tI,au,tI,ao] [tI,ai] ⟨53,.con ai::.box 1 0::aN 2 (.own 4::aN 7 [.con tI,.var tI]),cd⟩ [(.exit 0,⟨53,.con ai::.box 1 0::aN 2 (.own 4::aN 7 [.con tI]),cd⟩,[ai])]
def N3 (ρ:Type):ă ρ:=⟨[12,8],137,0,N4,fun(p:Val (tyL N4.cs)) (v:fy) a b=>P4 p.2.1 v.1 v.2 (fun c d=>a (c,d)) (b 0)⟩
def N2:Æ:=Ls 4 [ai,ao,tI,au,tI,ao] [tI,ai] ⟨53,.con ai::aN 3 (.own 4::aN 16 [.con ao,.con tI,.var tI]),cd⟩ [(.exit 2,⟨53,.con ai::aN 3 (.own 4::aN 16 [.con ao,.con tI]),cd⟩,[ai])]
def N1 (ρ:Type):ă ρ:=⟨[12,8],137,2,N2,fun(p:Val (tyL N2.cs)) (v:fy) a b=>Ck p.1 p.2.1 p.2.2.1 v.1 v.2 (fun c d=>a (c,d)) (b 0)⟩
def aaq:Æ:=Ls 0 [tI,tI,ao] [tI,au] ⟨45,aN 9 (.own 0::.fn 137 [(1,0)]::aN 18 [.con tI,.var tI]),[.rowv ai,bz]⟩ [(.exit 2,⟨45,aN 9 (.own 0::.fn 137 [(1,0)]::aN 18 [.con tI]),[.rowv ai,bz]⟩,[au])]
def N5 (ρ:Type):ă ρ:=⟨[],81,2,aaq,fun(p:Val aO) (v:Val (.pair tI au)) a b=>Hj p.1 p.2.1 p.2.2 v.1 v.2 (fun c d=>a (c,d)) (b 0)⟩
def JB (ρ:Type):Env ρ:=Ò [] [N6 ρ,N3 ρ,N1 ρ,N5 ρ]
def SF:ï:=⟨[Î,tI,tI],[(.fsl tI),tI],fun(x:z7)=>wF x.1 x.2.1 x.2.2⟩
def zd:Æ:=Ls 3 [au,tI,tI,ao,tI,tI] [tI] ⟨19,.con au::.fn 83 [(1,0),(2,0)]::aN 5 [.con tI,.var tI],[bz,bq,bq]⟩ [(.ret,⟨19,[.con au,.fn 83 [(1,0),(2,0)],.any,.any,.var tI,.any,.any,.con tI],[bz,bq,bq]⟩,[tI]),(.exit 0,⟨19,.con au::.fn 83 [(1,0),(2,0)]::aN 5 [.con tI],[bz,bq,bq]⟩,[])]
def zc (ρ:Type):ă ρ:=⟨[5,2],82,0,zd,fun(p:Val (tyL zd.cs)) (v:Int) b a=>pP p.1 p.2.1 p.2.2.2.2.1 p.2.2.2.2.2 v (fun c=>b c) (a 0) (a 1)⟩
def y0:Æ:=Ls 3 [tI,au,ao,tI,tI,ao,tI,tI,tI,ao] [tI,tI,tI,ai] ⟨73,.any::.var tI::.con tI::.con au::.fn 85 [(2,0)]::.box 3 0::aN 5 (.own 4::.var tI::aN 7 [.con ao,.con tI,.var tI]),ce⟩ [(.exit 2,⟨73,.any::.var tI::.con tI::.con au::.fn 85 [(2,0)]::.box 3 0::aN 5 (.own 4::.var tI::aN 7 [.con ao,.con tI]),ce⟩,[tI,tI,ai])]
def yZ (ρ:Type):ă ρ:=⟨[6,5],84,2,y0,fun(p:Val (tyL y0.cs)) (v:Val aP) a b=>FJ p.1 p.2.1 p.2.2.1 p.2.2.2.1 p.2.2.2.2.2.2.2.1 v.1 v.2.1 v.2.2.1 v.2.2.2 (fun c d e f=>a (c,d,e,f)) (b 0)⟩
def zb:Æ:=Ls 3 [au,tI,ao,tI,tI,tI,ao] [tI,tI,tI,ai] ⟨73,.any::.var tI::.var tI::.con au::.fn 85 [(2,0)]::.box 3 0::aN 5 [.own 4,.var tI],ce⟩ [(.exit 0,⟨73,aN 3 (.con au::.fn 85 [(2,0)]::.box 3 0::aN 5 [.own 4]),ce⟩,[ai])]
def za (ρ:Type):ă ρ:=⟨[6,5],84,0,zb,fun(p:Val (tyL zb.cs)) (v:Val aP) a b=>pO p.1 p.2.2.2.2.1 p.2.2.2.2.2.2 v.1 v.2.1 v.2.2.1 v.2.2.2 (fun c d e f=>a (c,d,e,f)) (b 0)⟩
def sT (ρ:Type):Env ρ:=Ò [(80,vg),(81,H6)] [zc ρ,yZ ρ,za ρ]
def A6:ï:=⟨[aF,(.ptr Â),(.ptr .bool)],[(.fsl tI)],fun(x:Val (.pair aF (.pair (.ptr Â) (.ptr .bool))))=>kJ x.1 x.2.1 x.2.2⟩
def Jw (ρ:Type):Env ρ:=Ò [(35,iE),(36,SF)] []
def vh:ï:=⟨[(.ptr zA),ai,tI],[tI],fun(x:Val (.pair (.ptr zA) aX))=>Ω x.1 x.2.1 x.2.2⟩
def Mx (ρ:Type):Env ρ:=Ò [(129,ŗ)] []
def tY:ï:=⟨[ay,ai],[Â],fun(x:Val (.pair ay ai))=>ic x.1 x.2⟩
def Cn (ρ:Type):Env ρ:=Ò [] []
def qQ:ï:=⟨[aa],[tI],fun(x:a7)=>jx x⟩
def Mv:Æ:=Ls 0 [aa,tI] [tI] ⟨15,aN 5 [.con aa,.con tI,.var tI],[]⟩ [(.ret,⟨15,[.any,.any,.var tI,.any,.any,.con aa,.con tI],[]⟩,[tI]),(.exit 0,⟨15,aN 5 [.con aa,.con tI],[]⟩,[])]
def ze (ρ:Type):ă ρ:=⟨[],217,0,Mv,fun(p:Val (.pair aa tI)) (v:Int) b a=>pQ p.1 p.2 v (fun c=>b c) (a 0) (a 1)⟩
def JP (ρ:Type):Env ρ:=Ò [(179,A7)] [ze ρ]
def zM:ï:=⟨[tI,tI],[Â,tI],fun(x:an)=>oW x.1 x.2⟩
def P5 (ρ:Type):Env ρ:=Ò [(208,Pj),(209,VS)] []
def acd:ï:=⟨[Â,Â],[Â,tI],fun(x:ly)=>Qz x.1 x.2⟩
def acW (ρ:Type):Env ρ:=Ò [(217,qQ),(240,zM)] []
def A9:ï:=⟨[Â,Â],[Â],fun(x:ly)=>tN x.1 x.2⟩
def JU (ρ:Type):Env ρ:=Ò [(230,acd)] []
variable [LC]
def VT:ï:=⟨[Â,Â],[tI],fun(x:ly)=>KK x.1 x.2⟩
def acU (ρ:Type):Env ρ:=Ò [] []
def yl:ï:=⟨[ú],[.bool],fun(x:ly)=>qz x⟩
def GO (ρ:Type):Env ρ:=Ò [(217,qQ),(246,VT)] []
def ace:ï:=⟨[Â,Â],[Â,tI],fun(x:ly)=>KM x.1 x.2⟩
def acY (ρ:Type):Env ρ:=Ò [(217,qQ),(240,zM)] []
def SG:ï:=⟨[ú,Â],[ú,tI],fun(x:Val (.pair ú Â))=>KL x.1 x.2⟩
def FM:AS (Nat×ï):=[(179,A7),(241,yl),(244,ace),(246,VT)]
def sU (ρ:Type):AS (ă ρ):=[]
def FL:AS afp:=[⟨[3,2],242,0,4⟩]
def TX (ρ:Type):Env ρ:=Ò FM (sU ρ)
def Ai (ρ:Type):Env ρ:=ahC FM (sU ρ) FL
def A8:ï:=⟨[Â,Â],[ú],fun(x:ly)=>nS x.1 x.2⟩
def JT (ρ:Type):Env ρ:=Ò [(231,SG)] []
def D9:ï:=⟨[Å,É],[ú],fun(x:At)=>ol x.1 x.2⟩
def T3 (ρ:Type):Env ρ:=Ò [(104,zN),(154,wY),(214,tY),(215,A9),(216,A8)] []
def Ia:ï:=⟨[Å,É],[Â],fun(x:At)=>rW x.1 x.2⟩
def Wy (ρ:Type):Env ρ:=Ò [] []
def H7:ï:=⟨[tI,tI],[tI],fun(x:an)=>Df x.1 x.2⟩
def Ws (ρ:Type):Env ρ:=Ò [] []
def Pk:ï:=⟨[Â],[tI,tI],fun(x:an)=>Dg x⟩
def aas (ρ:Type):Env ρ:=Ò [(217,qQ),(218,H7)] []
def H8:ï:=⟨[Â],[tI,tI],fun(x:an)=>wG x⟩
def Wu (ρ:Type):Env ρ:=Ò [(217,qQ),(218,H7)] []
def Pl:ï:=⟨[Å,É],[Â],fun(x:At)=>tM x.1 x.2⟩
def aat (ρ:Type):Env ρ:=Ò [(190,D9),(191,Ia),(192,Pk),(193,H8)] []
def X8:ï:=⟨[Å,È,tI,tI],[tI],fun(x:Val (.pair Å (.pair È Â)))=>xB x.1 x.2.1 x.2.2.1 x.2.2.2⟩
def Cz:Æ:=Ls 0 [tI,tI,ah,tI,tI,tI,af,aa,ah,ae,aa,tI,tI,tI,tI,tI,tI,tI,tI] [tI,tI] ⟨88,aN 2 (.con tI::.con tI::.box 0 0::.box 1 0::aN 3 (.var tI::aN 7 [.con ah,.con tI,.var tI])),[bm,bn]⟩ [(.exit 0,⟨88,aN 2 (.con tI::.con tI::.box 0 0::.box 1 0::aN 3 (.var tI::aN 7 [.con ah,.con tI])),[bm,bn]⟩,[tI])]
def Cy (ρ:Type):ă ρ:=⟨[],201,0,Cz,fun(p:Val (tyL Cz.cs)) (v:an) a b=>sZ p.1 p.2.1 p.2.2.1 p.2.2.2.1 p.2.2.2.2.2.2.2.2.2.2.2.1 v.1 v.2 (fun c d=>a (c,d)) (b 0)⟩
def Cx:Æ:=Ls 0 [tI,tI,tI,aa,tI,tI,tI,tI,tI,tI,tI,tI,tI] [tI,ai] ⟨88,aN 2 (.con tI::.con tI::.any::.box 0 0::aN 3 (.con tI::aN 3 (.own 1::aN 39 [.con aa,.con tI,.var tI]))),bV⟩ [(.exit 2,⟨88,aN 2 (.con tI::.con tI::.any::.box 0 0::aN 3 (.con tI::aN 3 (.own 1::aN 39 [.con aa,.con tI]))),bV⟩,[ai])]
def Cw (ρ:Type):ă ρ:=⟨[],201,2,Cx,fun(p:Val (tyL Cx.cs)) (v:fy) a b=>sY p.1 p.2.1 p.2.2.2.1 p.2.2.2.2.1 p.2.2.2.2.2.1 v.1 v.2 (fun c d=>a (c,d)) (b 0)⟩
def Et (ρ:Type):Env ρ:=Ò [(180,jU)] [Cy ρ,Cw ρ]
def Pm:ï:=⟨[Å],[(.ptr zA)],fun(x:a8)=>Dh x⟩
def Ct:Æ:=Ls 2 [tI,ai,tI,af,tI,tI,tI,tI,af,aa,ah,ae,aa,tI,tI,af,aa,ah,ae,aa,aa,tI,tI,tI,tI,tI,tI,tI,tI,tI] [tI,ao,aa] ⟨144,.box 1 0::.any::.con tI::.box 2 0::.con ai::.con tI::.var tI::aN 24 [.con af,.con tI,.con tI],[bm,bC,bn,.rowv ć,.rowv Â]⟩ [(.exit 2,⟨144,.box 1 0::.any::.con tI::.box 2 0::.con ai::.con tI::aN 25 [.con af,.con tI,.con tI],[bm,bC,bn,.rowv ć,.rowv Â]⟩,[ao,aa])]
def Cs (ρ:Type):ă ρ:=⟨[2,1],170,2,Ct,fun(p:Val (tyL Ct.cs)) (v:v8) a b=>let A:=p.2.2.2.2.2.2.2.2.2.2.2.2.2;let B:=A.2.2.2.2;let C:=B.2.2.2.2.2;let D:=C.2.2.2.2;sW p.1 p.2.1 p.2.2.1 A.1 A.2.1 A.2.2.1 A.2.2.2.1 B.1 B.2.1 B.2.2.1 C.1 C.2.1 C.2.2.1 C.2.2.2.1 D.1 D.2.1 D.2.2.1 D.2.2.2 v.1 v.2.1 v.2.2 (fun c d e=>a (c,d,e)) (b 0)⟩
def Cv:Æ:=Ls 2 [af,tI,tI,tI,af,aa,ah,ae,aa,tI,tI,af,aa,ah,ae,aa,aa,tI] [tI,ao,aa] ⟨144,.box 1 0::aN 30 [.con af,.con tI,.var tI],cf⟩ [(.exit 0,⟨144,.box 1 0::aN 30 [.con af,.con tI],cf⟩,[ao,aa])]
def Cu (ρ:Type):ă ρ:=⟨[2,1],170,0,Cv,fun(p:Val (tyL Cv.cs)) (v:v8) a b=>let A:=p.2.2.2.2.2.2.2.2.2;let B:=A.2.2.2.2;sX p.1 p.2.1 A.1 A.2.1 A.2.2.1 A.2.2.2.1 B.1 B.2.1 B.2.2.1 B.2.2.2.1 B.2.2.2.2 v.1 v.2.1 v.2.2 (fun c d e=>a (c,d,e)) (b 0)⟩
def Cr:Æ:=Ls 2 [ae,tI,tI,tI,af,aa,ah,ae,aa,tI,tI,af,aa,ah,ae,aa,aa,tI] [tI,ao,aa] ⟨144,.box 1 0::aN 107 [.con ae,.con tI,.var tI],cf⟩ [(.exit 4,⟨144,.box 1 0::aN 107 [.con ae,.con tI],cf⟩,[ao,aa])]
def Cq (ρ:Type):ă ρ:=⟨[2,1],170,4,Cr,fun(p:Val (tyL Cr.cs)) (v:v8) a b=>let A:=p.2.2.2.2.2.2.2.2.2;let B:=A.2.2.2.2;sV p.1 p.2.1 A.1 A.2.1 A.2.2.1 A.2.2.2.1 B.1 B.2.1 B.2.2.1 B.2.2.2.1 B.2.2.2.2 v.1 v.2.1 v.2.2 (fun c d e=>a (c,d,e)) (b 0)⟩
def xe (ρ:Type):Env ρ:=Ò [(106,Ba),(152,Pn),(154,wY),(155,vh),(159,Pl),(201,X8)] [Cs ρ,Cu ρ,Cq ρ]
def ł:ï:=⟨[Å],[Î,aa,tI],fun(x:a8)=>Č x⟩
def T5 (ρ:Type):Env ρ:=Ò [(56,Ĺ),(126,Pm)] []
def zK:ï:=⟨[Å,ai],[aa],fun(x:Val (.pair Å ai))=>oV x.1 x.2⟩
def Gx:Æ:=Ls 0 [aa,ai,tI] [tI,aa] ⟨32,aN 6 (.con aa::.any::.own 0::aN 8 [.con ai,.con tI,.var tI]),[.rowv Â]⟩ [(.exit 0,⟨32,aN 6 (.con aa::.any::.own 0::aN 8 [.con ai,.con tI]),[.rowv Â]⟩,[aa])]
def t7 (ρ:Type):ă ρ:=⟨[],38,0,Gx,fun(p:Val (.pair aa aX)) (v:rn) a b=>lU p.1 p.2.1 p.2.2 v.1 v.2 (fun c d=>a (c,d)) (b 0)⟩
def Bz (ρ:Type):Env ρ:=Ò [(73,ł)] [t7 ρ]
def jq:ï:=⟨[aF,tI,tI],[tI],fun(x:pl)=>ÿ x.1 x.2.1 x.2.2⟩
def Gz (ρ:Type):Env ρ:=Ò [(80,vg)] []
def ql:ï:=⟨[aF,Â],[tI],fun(x:pl)=>ŷ x.1 x.2⟩
def Gy (ρ:Type):Env ρ:=Ò [(35,iE),(55,jq)] []
def lm:ï:=⟨[aF,Â],[tI],fun(x:pl)=>Ν x.1 x.2⟩
def zZ (ρ:Type):Env ρ:=Ò [(35,iE),(55,jq)] []
def nk:ï:=⟨[Å,Â],[Å,tI],fun(x:Val aV)=>jf x.1 x.2⟩
def CQ:Æ:=Ls 6 [tI,tI,tI,af,aa,ah,ae,aa,tI,tI,tI,tI,tI,tI,af,aa,ah,ae,aa,tI,tI,tI,tI,ae,tI,tI,af,aa,ah,aa] [tI,ae] ⟨50,.any::.box 6 0::.box 7 0::.own 8::aN 21 [.own 8,.con tI,.var tI],cg⟩ [(.exit 0,⟨50,.any::.box 6 0::.box 7 0::.own 8::aN 21 [.own 8,.con tI],cg⟩,[ae])]
def CP (ρ:Type):ă ρ:=⟨[1,2,4,1],172,0,CQ,fun(p:Val (tyL CQ.cs)) (v:An) a b=>td p.1 v.1 v.2 (fun c d=>a (c,d)) (b 0)⟩
def Og (ρ:Type):Env ρ:=Ò [(56,Ĺ)] [CP ρ]
def ķ:ï:=⟨[Î],[.bool,tI],fun(x:ey)=>Ā x⟩
def GK (ρ:Type):Env ρ:=Ò [(91,l9),(127,qP)] []
def H4:ï:=⟨[Å,Â,.bool],[aK,tI],fun(x:Val bf)=>jO x.1 x.2.1 x.2.2⟩
def uj:Æ:=Ls 5 [tI,tI,tI,af,aa,ah,ae,aa,tI,tI,tI,tI,.bool,tI,aa] [tI,tI,tI,af,aa,ah,ae,aa] ⟨68,aN 2 (.box 5 0::aN 20 [.own 4,.con tI,.var tI]),ci⟩ [(.ret,⟨68,aN 2 (.box 5 0::.any::.nilp::.var tI::aN 17 [.own 4,.con tI]),ci⟩,[tI,tI,tI,af,aa,ah,ae,aa]),(.exit 0,⟨68,aN 2 (.box 5 0::aN 20 [.own 4,.con tI]),ci⟩,[tI,tI,af,aa,ah,ae,aa])]
def uh (ρ:Type):ă ρ:=⟨[1,3],33,0,uj,fun(p:Val (tyL uj.cs)) (v:ge) b a=>qr p.1 p.2.2.2.2.2.2.2.2.2.2.2.2.2.2 v.1 v.2.1 v.2.2.1 v.2.2.2.1 v.2.2.2.2.1 v.2.2.2.2.2.1 v.2.2.2.2.2.2.1 v.2.2.2.2.2.2.2 (fun c d e f g h i j=>b (c,d,e,f,g,h,i,j)) (a 0) (a 1)⟩
def ug:Æ:=Ls 10 [tI,tI,tI,af,aa,ah,ae,aa,tI,tI,tI,tI,.bool,tI,aa,tI,tI,af,aa,ah,ae,aa,tI,ao,aa,tI,tI,(.fsl È),aa,ah,(.fsl aj),aa,tI,tI,(.fsl È),aa,ah,(.fsl aj),aa] [tI] ⟨68,aN 2 (.box 10 0::aN 20 [.nils,.con tI,.var tI]),cj⟩ [(.exit 0,⟨68,aN 2 (.box 10 0::aN 20 [.nils,.con tI]),cj⟩,[])]
def ue (ρ:Type):ă ρ:=⟨[6,1],33,0,ug,fun(p:Val (tyL ug.cs)) (v:Int) a b=>qq p.1 v (fun c=>a c) (b 0)⟩
def kz (ρ:Type):Env ρ:={Ò [(34,A6),(37,oB),(38,zK),(39,ql),(40,lm),(56,Ĺ),(73,ł),(75,iF),(78,nk),(79,ķ)] [uh ρ,ue ρ] with hint:=ED [(34,34),(56,34)]}
def Fk:ï:=⟨[],[Å],fun(_:Unit)=>FT⟩
def LF (ρ:Type):Env ρ:=Ò [] []
def i7:ï:=⟨[aF,Â],[Â],fun(x:pl)=>je x.1 x.2⟩
def jK (ρ:Type):Env ρ:={Ò [(39,ql),(40,lm)] [] with hint:=ED [(12,39),(16,40)]}
def Fp:ï:=⟨[Å,Â],[Â,tI],fun(x:Val aV)=>wC x.1 x.2⟩
def rz:Æ:=Ls 4 [tI,tI,tI,af,aa,ah,ae,aa,tI,tI,tI,tI,aa] [tI,tI,tI,af,aa,ah,ae,aa] ⟨68,aN 2 (.box 4 0::aN 20 [.own 3,.con tI,.var tI]),cm⟩ [(.ret,⟨68,aN 2 (.box 4 0::.any::.nilp::.var tI::aN 17 [.own 3,.con tI]),cm⟩,[tI,tI,tI,af,aa,ah,ae,aa]),(.exit 0,⟨68,aN 2 (.box 4 0::aN 20 [.own 3,.con tI]),cm⟩,[tI,tI,af,aa,ah,ae,aa])]
def ru (ρ:Type):ă ρ:=⟨[1,3],33,0,rz,fun(p:Val (tyL rz.cs)) (v:ge) b a=>ř p.1 p.2.2.2.2.2.2.2.2.2.2.2.2 v.1 v.2.1 v.2.2.1 v.2.2.2.1 v.2.2.2.2.1 v.2.2.2.2.2.1 v.2.2.2.2.2.2.1 v.2.2.2.2.2.2.2 (fun c d e f g h i j=>b (c,d,e,f,g,h,i,j)) (a 0) (a 1)⟩
def yK (ρ:Type):Env ρ:=Ò [(54,i7),(56,Ĺ),(73,ł),(75,iF),(78,nk),(79,ķ)] [ru ρ]
def H5:ï:=⟨[Å,Â,Â],[Â,tI],fun(x:x9)=>KH x.1 x.2.1 x.2.2⟩
def un:Æ:=Ls 5 [tI,tI,tI,af,aa,ah,ae,aa,tI,tI,tI,tI,tI,tI,aa] [tI,tI,tI,af,aa,ah,ae,aa] ⟨68,aN 2 (.box 5 0::aN 20 [.own 4,.con tI,.var tI]),cn⟩ [(.ret,⟨68,aN 2 (.box 5 0::.any::.nilp::.var tI::aN 17 [.own 4,.con tI]),cn⟩,[tI,tI,tI,af,aa,ah,ae,aa]),(.exit 0,⟨68,aN 2 (.box 5 0::aN 20 [.own 4,.con tI]),cn⟩,[tI,tI,af,aa,ah,ae,aa])]
def uk (ρ:Type):ă ρ:=⟨[1,4],33,0,un,fun(p:Val (tyL un.cs)) (v:ge) b a=>yL p.1 p.2.2.2.2.2.2.2.2.2.2.2.2.2.2 v.1 v.2.1 v.2.2.1 v.2.2.2.1 v.2.2.2.2.1 v.2.2.2.2.2.1 v.2.2.2.2.2.2.1 v.2.2.2.2.2.2.2 (fun c d e f g h i j=>b (c,d,e,f,g,h,i,j)) (a 0) (a 1)⟩
def sP (ρ:Type):Env ρ:=Ò [(35,iE),(55,jq),(56,Ĺ),(73,ł),(75,iF),(78,nk),(79,ķ)] [uk ρ]
def Ea:ï:=⟨[ai,ai],[ai,ai,tI],fun(x:rd)=>EM x.1 x.2⟩
def T7 (ρ:Type):Env ρ:=Ò [(153,D8),(154,wY)] []
def X5:ï:=⟨[ai,tI],[.bool],fun(x:Val aX)=>Y0 x.1 x.2⟩
def aaj (ρ:Type):Env ρ:=Ò [(107,Ea)] []
def Sw:ï:=⟨[tI],[.bool],fun(x:Int)=>UD x⟩
def We (ρ:Type):Env ρ:=Ò [] []
def Sv:ï:=⟨[tI,au],[aa],fun(x:Val (.pair tI au))=>UC x.1 x.2⟩
def Mc:Æ:=Ls 0 [tI,ai,tI] [tI,aa] ⟨23,.con tI::aN 4 [.own 0,.any,.any,.any,.con ai,.con tI,.var tI],[.rowv Â]⟩ [(.exit 0,⟨23,.con tI::aN 4 [.own 0,.any,.any,.any,.con ai,.con tI],[.rowv Â]⟩,[aa])]
def yC (ρ:Type):ă ρ:=⟨[],59,0,Mc,fun(p:Val (.pair tI aX)) (v:rn) a b=>Fx p.1 p.2.1 p.2.2 v.1 v.2 (fun c d=>a (c,d)) (b 0)⟩
def Jh (ρ:Type):Env ρ:=Ò [(63,Ł)] [yC ρ]
def X7:ï:=⟨[Å,tI,ai],[Â,tI],fun(x:Val (.pair Å aE))=>Y1 x.1 x.2.1 x.2.2⟩
def Ca:Æ:=Ls 3 [aa,tI,tI,tI,af,aa,ah,ae,aa,tI,tI,au] [tI,tI,tI,af,aa,ah,ae,aa] ⟨68,aN 2 (.box 3 0::aN 20 [.con aa,.con tI,.var tI]),[bm,bu,.rowf ai 0,bI]⟩ [(.ret,⟨68,aN 2 (.box 3 0::.any::.nilp::.var tI::aN 17 [.con aa,.con tI]),[bm,bu,.rowf ai 0,bI]⟩,[tI,tI,tI,af,aa,ah,ae,aa]),(.exit 0,⟨68,aN 2 (.box 3 0::aN 20 [.con aa,.con tI]),[bm,bu,.rowf ai 0,bI]⟩,[tI,tI,af,aa,ah,ae,aa])]
def B9 (ρ:Type):ă ρ:=⟨[7,2],33,0,Ca,fun(p:Val (tyL Ca.cs)) (v:ge) b a=>Jr p.1 p.2.1 v.1 v.2.1 v.2.2.1 v.2.2.2.1 v.2.2.2.2.1 v.2.2.2.2.2.1 v.2.2.2.2.2.2.1 v.2.2.2.2.2.2.2 (fun c d e f g h i j=>b (c,d,e,f,g,h,i,j)) (a 0) (a 1)⟩
def B8:Æ:=Ls 0 [aF,aa,tI,tI,tI] [tI,tI,tI] ⟨87,aN 6 (.box 0 0::aN 3 (.con aF::aN 2 (.box 1 0::aN 51 [.con aa,.con tI,.var tI]))),[bu,.cells [.var tI,.var tI]]⟩ [(.exit 0,⟨87,aN 6 (.box 0 0::aN 3 (.con aF::aN 2 (.box 1 0::aN 51 [.con aa,.con tI]))),[bu,.cells [.var tI,.var tI]]⟩,[tI,tI])]
def B7 (ρ:Type):ă ρ:=⟨[],25,0,B8,fun(p:Val (tyL B8.cs)) (v:py) a b=>Jq p.1 p.2.1 p.2.2.1 v.1 v.2.1 v.2.2 (fun c d e=>a (c,d,e)) (b 0)⟩
def xb (ρ:Type):Env ρ:=Ò [(54,i7),(56,Ĺ),(57,X5),(58,Sw),(59,Sv),(73,ł),(75,iF),(78,nk),(79,ķ)] [B9 ρ,B7 ρ]
def zJ:ï:=⟨[Â,Â],[tI],fun(x:ly)=>Aw x.1 x.2⟩
def PP (ρ:Type):Env ρ:=Ò [] []
def Sy:ï:=⟨[Å,Â,Â],[tI,tI],fun(x:x9)=>UF x.1 x.2.1 x.2.2⟩
def yJ:Æ:=Ls 4 [tI,tI,tI,af,aa,ah,ae,aa,tI,tI,tI,tI,aa] [tI,tI,tI,af,aa,ah,ae,aa] ⟨68,aN 2 (.box 4 0::aN 20 [.own 3,.con tI,.var tI]),cm⟩ [(.ret,⟨68,aN 2 (.box 4 0::.any::.nilp::.var tI::aN 17 [.own 3,.con tI]),cm⟩,[tI,tI,tI,af,aa,ah,ae,aa]),(.exit 0,⟨68,aN 2 (.box 4 0::aN 20 [.own 3,.con tI]),cm⟩,[tI,tI,af,aa,ah,ae,aa])]
def yI (ρ:Type):ă ρ:=⟨[1,3],33,0,yJ,fun(p:Val (tyL yJ.cs)) (v:ge) b a=>FD p.1 p.2.2.2.2.2.2.2.2.2.2.2.2 v.1 v.2.1 v.2.2.1 v.2.2.2.1 v.2.2.2.2.1 v.2.2.2.2.2.1 v.2.2.2.2.2.2.1 v.2.2.2.2.2.2.2 (fun c d e f g h i j=>b (c,d,e,f,g,h,i,j)) (a 0) (a 1)⟩
def Af (ρ:Type):Env ρ:=Ò [(54,i7),(56,Ĺ),(60,zJ),(73,ł),(75,iF),(78,nk),(79,ķ)] [yI ρ]
def Pp:ï:=⟨[Å,É],[Å,tI],fun(x:At)=>QA x.1 x.2⟩
def CO:Æ:=Ls 8 [tI,tI,tI,af,aa,ah,ae,aa,tI,tI,(.fsl tI),(.fsl tI),tI,tI,tI,tI,tI,tI,tI,tI,af,aa,ah,ae,aa,tI,tI,tI,tI,ae,tI,tI,af,aa,ah,aa] [tI,ae] ⟨50,.any::.box 8 0::.box 9 0::.own 10::aN 21 [.own 10,.con tI,.var tI],cp⟩ [(.exit 0,⟨50,.any::.box 8 0::.box 9 0::.own 10::aN 21 [.own 10,.con tI],cp⟩,[ae])]
def CN (ρ:Type):ă ρ:=⟨[2,2,4,1],172,0,CO,fun(p:Val (tyL CO.cs)) (v:An) a b=>J0 p.1 v.1 v.2 (fun c d=>a (c,d)) (b 0)⟩
def Od (ρ:Type):Env ρ:=Ò [(56,Ĺ)] [CN ρ]
def SI:ï:=⟨[Å,É,Â],[Â,tI],fun(x:Val (.pair Å (.pair É Â)))=>UI x.1 x.2.1 x.2.2⟩
def Ww (ρ:Type):Env ρ:=Ò [(190,D9),(191,Ia),(192,Pk),(193,H8)] []
def Ib:ï:=⟨[Å,É],[Â,tI],fun(x:At)=>KN x.1 x.2⟩
def Qb (ρ:Type):Env ρ:=Ò [(80,vg),(109,Pp),(126,Pm),(154,wY),(155,vh),(156,SI)] []
def SH:ï:=⟨[Å,tI],[É,tI],fun(x:Val bc)=>UH x.1 x.2⟩
def Wv (ρ:Type):Env ρ:=Ò [(56,Ĺ)] []
def Ya:ï:=⟨[Å,tI],[Â,tI],fun(x:Val bc)=>Y2 x.1 x.2⟩
def aau (ρ:Type):Env ρ:=Ò [(158,SH),(159,Pl)] []
def Fo:ï:=⟨[ai,aF,(.ptr É)],[tI],fun(x:Val (.pair ai (.pair aF (.ptr É))))=>wB x.1 x.2.1 x.2.2⟩
def Mg (ρ:Type):Env ρ:=Ò [(35,iE)] []
def Fm:ï:=⟨[tI,tI,aF,(.ptr tI),(.ptr Â),(.ptr tI)],[ć],fun(x:Val (.pair tI (.pair tI (.pair aF (.pair (.ptr tI) (.pair (.ptr Â) (.ptr tI)))))))=>wA x.1 x.2.1 x.2.2.1 x.2.2.2.1 x.2.2.2.2.1 x.2.2.2.2.2⟩
def Me (ρ:Type):Env ρ:=Ò [(55,jq)] []
def D7:ï:=⟨[aF,Â,É],[iA,tI],fun(x:Val (.pair aF aZ))=>EK x.1 x.2.1 x.2.2⟩
def vP:Æ:=Ls 0 [tI,ai,ai,aa,ao,tI,tI,tI,tI,tI,ai,ai,tI,tI,tI,tI,tI,tI,tI,tI,tI,tI,tI,tI,tI,tI,tI,tI,tI,tI,af,aa,ah,ae,aa,tI] [tI,ao] ⟨127,aN 4 (.box 0 0::.box 1 0::.box 2 0::.any::.box 3 0::aN 2 (.con tI::.box 4 0::.any::.con ai::.con ai::aN 2 (.con aa::.any::.box 5 0::aN 65 [.con ao,.con tI,.var tI]))),[bu,br,bn,bu,bu,bM,.rowv ć]⟩ [(.exit 0,⟨127,aN 4 (.box 0 0::.box 1 0::.box 2 0::.any::.box 3 0::aN 2 (.con tI::.box 4 0::.any::.con ai::.con ai::aN 2 (.con aa::.any::.box 5 0::aN 65 [.con ao,.con tI]))),[bu,br,bn,bu,bu,bM,.rowv ć]⟩,[ao])]
def vO (ρ:Type):ă ρ:=⟨[],61,0,vP,fun(p:Val (tyL vP.cs)) (v:ey) a b=>BX p.1 p.2.2.2.1 p.2.2.2.2.1 p.2.2.2.2.2.1 v.1 v.2 (fun c d=>a (c,d)) (b 0)⟩
def pG (ρ:Type):Env ρ:={Ò [(35,iE),(73,ł),(107,Ea),(108,Ib),(109,Pp),(110,Ya),(111,Fo),(112,Fm)] [vO ρ] with hint:=ED [(110,111),(113,111),(120,112),(123,112)]}
def sl:ï:=⟨[ć],[ai],fun(x:py)=>kH x⟩
def Ji (ρ:Type):Env ρ:=Ò [] []
def Nw:ï:=⟨[ć,tI],[tI],fun(x:Val (.pair ć tI))=>EL x.1 x.2⟩
def TA (ρ:Type):Env ρ:=Ò [] []
def qj:ï:=⟨[iA,tI],[Â],fun(x:y5)=>qw x.1 x.2⟩
def Gw (ρ:Type):Env ρ:=Ò [(114,Nw)] []
def qk:ï:=⟨[iA,ai],[ai],fun(x:Val (.pair iA ai))=>qx x.1 x.2⟩
def oI:Æ:=Ls 0 [tI,ai,tI,tI,tI,tI,tI,tI,tI,tI,tI,tI] [tI,ai] ⟨48,aN 2 (.box 0 0::aN 2 (.own 1::.any::.con tI::.var tI::aN 7 [.con ai,.con tI,.con tI])),bV⟩ [(.exit 2,⟨48,aN 2 (.box 0 0::aN 2 (.own 1::.any::.con tI::aN 8 [.con ai,.con tI,.con tI])),bV⟩,[ai])]
def oH (ρ:Type):ă ρ:=⟨[],70,2,oI,fun(p:Val (tyL oI.cs)) (v:fy) a b=>rc p.1 p.2.2.2.2.1 p.2.2.2.2.2.1 v.1 v.2 (fun c d=>a (c,d)) (b 0)⟩
def oK:Æ:=Ls 0 [ai,tI,tI,tI,tI,tI,tI,tI,tI,tI] [tI,ai] ⟨48,aN 2 (.box 0 0::aN 2 (.own 1::aN 10 [.con ai,.con tI,.var tI])),bV⟩ [(.exit 0,⟨48,aN 2 (.box 0 0::aN 2 (.own 1::aN 10 [.con ai,.con tI])),bV⟩,[ai])]
def oJ (ρ:Type):ă ρ:=⟨[],70,0,oK,fun(p:Val (tyL oK.cs)) (v:fy) a b=>rg p.1 p.2.1 p.2.2.1 p.2.2.2.1 v.1 v.2 (fun c d=>a (c,d)) (b 0)⟩
def mN (ρ:Type):Env ρ:=Ò [] [oH ρ,oJ ρ]
def vf:ï:=⟨[iA],[tI],fun(x:Val iA)=>wz x⟩
def mY:Æ:=Ls 0 [ai,tI,tI,tI,tI,tI,tI,tI,tI,tI] [tI,tI] ⟨34,.any::.box 0 0::.any::.var tI::aN 12 [.con ai,.con tI,.var tI],[bn]⟩ [(.exit 0,⟨34,.any::.box 0 0::.any::.var tI::aN 12 [.con ai,.con tI],[bn]⟩,[tI])]
def mX (ρ:Type):ă ρ:=⟨[],62,0,mY,fun(p:Val (tyL mY.cs)) (v:an) a b=>let A:=p.2.2.2.2;pF p.1 p.2.1 p.2.2.1 p.2.2.2.1 A.1 A.2.1 A.2.2.1 A.2.2.2.1 A.2.2.2.2.1 A.2.2.2.2.2 v.1 v.2 (fun c d=>a (c,d)) (b 0)⟩
def qZ (ρ:Type):Env ρ:=Ò [(63,Ł),(64,sl),(68,qj),(70,qk)] [mX ρ]
def Sx:ï:=⟨[Å,Â,É],[tI,tI],fun(x:Val (.pair Å aZ))=>UE x.1 x.2.1 x.2.2⟩
def yE:Æ:=Ls 4 [tI,tI,tI,af,aa,ah,ae,aa,tI,tI,tI,tI,ai,ai,tI,tI,tI,tI,aa] [tI,tI,tI,af,aa,ah,ae,aa] ⟨68,aN 2 (.box 4 0::aN 20 [.own 3,.con tI,.var tI]),cq⟩ [(.ret,⟨68,aN 2 (.box 4 0::.any::.nilp::.var tI::aN 17 [.own 3,.con tI]),cq⟩,[tI,tI,tI,af,aa,ah,ae,aa]),(.exit 0,⟨68,aN 2 (.box 4 0::aN 20 [.own 3,.con tI]),cq⟩,[tI,tI,af,aa,ah,ae,aa])]
def yD (ρ:Type):ă ρ:=⟨[1,3],33,0,yE,fun(p:Val (tyL yE.cs)) (v:ge) b a=>FC p.1 p.2.2.2.2.2.2.2.2.2.2.2.2.2.2.2.2.2.2 v.1 v.2.1 v.2.2.1 v.2.2.2.1 v.2.2.2.2.1 v.2.2.2.2.2.1 v.2.2.2.2.2.2.1 v.2.2.2.2.2.2.2 (fun c d e f g h i j=>b (c,d,e,f,g,h,i,j)) (a 0) (a 1)⟩
def Ae (ρ:Type):Env ρ:=Ò [(56,Ĺ),(61,D7),(62,vf),(73,ł),(75,iF),(78,nk),(79,ķ)] [yD ρ]
def A5:ï:=⟨[tI],[tI],fun(x:Int)=>tJ x⟩
def Jo (ρ:Type):Env ρ:=Ò [] []
def A4:ï:=⟨[ć,tI],[ai],fun(x:Val (.pair ć tI))=>kI x.1 x.2⟩
def Jj (ρ:Type):Env ρ:=Ò [] []
def HZ:ï:=⟨[Å,Â,Â,É],[.bool,tI],fun(x:Val (.pair Å (.pair Â aZ)))=>KE x.1 x.2.1 x.2.2.1 x.2.2.2⟩
def Ũ:Æ:=Ls 5 [tI,tI,tI,af,aa,ah,ae,aa,tI,tI,tI,tI,tI,tI,ai,ai,tI,tI,tI,tI,aa] [tI,tI,tI,af,aa,ah,ae,aa] ⟨68,aN 2 (.box 5 0::aN 20 [.own 4,.con tI,.var tI]),cr⟩ [(.ret,⟨68,aN 2 (.box 5 0::.any::.nilp::.var tI::aN 17 [.own 4,.con tI]),cr⟩,[tI,tI,tI,af,aa,ah,ae,aa]),(.exit 0,⟨68,aN 2 (.box 5 0::aN 20 [.own 4,.con tI]),cr⟩,[tI,tI,af,aa,ah,ae,aa])]
def mP (ρ:Type):ă ρ:=⟨[1,3],33,0,Ũ,fun(p:Val aB) (v:ge) b a=>yH p.1 p.2.2.2.2.2.2.2.2.2.2.2.2.2.2.2.2.2.2.2.2 v.1 v.2.1 v.2.2.1 v.2.2.2.1 v.2.2.2.2.1 v.2.2.2.2.2.1 v.2.2.2.2.2.2.1 v.2.2.2.2.2.2.2 (fun c d e f g h i j=>b (c,d,e,f,g,h,i,j)) (a 0) (a 1)⟩
def ŧ:Æ:=Ls 12 [ai,tI,tI,tI,af,aa,ah,ae,aa,tI,tI,tI,tI,tI,tI,ai,ai,tI,tI,tI,tI,aa,tI,tI,af,aa,ah,ae,aa,tI,ao,tI,tI,tI,tI,tI,tI,tI,tI,au,au,au] [tI] ⟨19,.con ai::.fn 67 [(8,0),(2,0)]::aN 5 [.con tI,.var tI],cu⟩ [(.ret,⟨19,[.con ai,.fn 67 [(8,0),(2,0)],.any,.any,.var tI,.any,.any,.con tI],cu⟩,[tI]),(.exit 0,⟨19,.con ai::.fn 67 [(8,0),(2,0)]::aN 5 [.con tI],cu⟩,[])]
def mO (ρ:Type):ă ρ:=⟨[18,4,1,2],115,0,ŧ,fun(p:Val ar) (v:Int) b a=>let A:=p.2.2.2.2.2.2.2.2.2.2.2;let B:=A.2.2.2.2.2.2.2.2.2.2.2.2.2.2.2.2.2.2.2.2;let C:=B.2.2.2.2;yG p.1 p.2.1 A.1 A.2.1 B.1 B.2.1 B.2.2.1 B.2.2.2.1 C.1 C.2.1 C.2.2.1 C.2.2.2.1 v (fun c=>b c) (a 0) (a 1)⟩
def yF:AS (Nat×ï):=[(56,Ĺ),(60,zJ),(61,D7),(63,Ł),(64,sl),(65,A5),(66,A4),(68,qj),(70,qk),(73,ł),(75,iF),(78,nk),(79,ķ)]
def oM (ρ:Type):AS (ă ρ):=[mP ρ,mO ρ]
def qo:AS afp:=[⟨[],28,0,4⟩]
def þ (ρ:Type):Env ρ:={Ò yF (oM ρ) with hint:=ED [(51,65),(55,65)]}
def sN (ρ:Type):Env ρ:={{ahC yF (oM ρ) qo with loops:=T9 (þ ρ) qo} with hint:=ED [(51,65),(55,65)]}
def zL:ï:=⟨[Î,ai],[tI],fun(x:Val (.pair Î ai))=>Ax x.1 x.2⟩
def GD:Æ:=Ls 1 [ai,tI,tI,ao] [tI] ⟨19,.con ai::.fn 171 [(0,0)]::aN 5 [.con tI,.var tI],[bz]⟩ [(.ret,⟨19,[.con ai,.fn 171 [(0,0)],.any,.any,.var tI,.any,.any,.con tI],[bz]⟩,[tI]),(.exit 0,⟨19,.con ai::.fn 171 [(0,0)]::aN 5 [.con tI],[bz]⟩,[])]
def uq (ρ:Type):ă ρ:=⟨[3,2,1,2],115,0,GD,fun(p:Val (.pair ai aO)) (v:Int) b a=>yM p.1 p.2.1 p.2.2.2 v (fun c=>b c) (a 0) (a 1)⟩
def Cj (ρ:Type):Env ρ:=Ò [] [uq ρ]
def Ph:ï:=⟨[Î,tI,ai],[tI,tI,.bool],fun(x:Val (.pair Î aE))=>Qy x.1 x.2.1 x.2.2⟩
def P3:Æ:=Ls 0 [ai,tI,tI,ao] [tI,tI,tI] ⟨37,.any::.var tI::.any::.box 0 0::aN 5 [.var tI,.any,.any,.any,.con ai,.con tI,.var tI],[bz]⟩ [(.ret,⟨37,aN 3 (.box 0 0::aN 2 (.var tI::.var tI::.var .bool::aN 4 [.con ai,.con tI])),[bz]⟩,[tI,tI,.bool]),(.exit 0,⟨37,.any::.var tI::.any::.box 0 0::aN 5 [.var tI,.any,.any,.any,.con ai,.con tI],[bz]⟩,[tI,tI])]
def Cd (ρ:Type):ă ρ:=⟨[],132,0,P3,fun(p:Val (.pair ai aO)) (v:py) b a=>JA p.1 p.2.1 p.2.2.2 v.1 v.2.1 v.2.2 (fun c d e=>b (c,d,e)) (a 0) (a 1)⟩
def N0 (ρ:Type):Env ρ:=Ò [] [Cd ρ]
def yk:ï:=⟨[Î,tI,tI,ai],[tI,tI],fun(x:Val (.pair Î (.pair tI aE)))=>qy x.1 x.2.1 x.2.2.1 x.2.2.2⟩
def GN (ρ:Type):Env ρ:=Ò [(127,qP),(130,Ha),(131,zL),(132,Ph)] []
def sm:ï:=⟨[ş],[tI],fun(x:rx)=>tK x⟩
def Ju (ρ:Type):Env ρ:=Ò [(56,Ĺ),(73,ł),(75,iF),(76,yk)] []
def yj:ï:=⟨[Î,ai],[tI],fun(x:Val (.pair Î ai))=>zo x.1 x.2⟩
def GM (ρ:Type):Env ρ:=Ò [(127,qP),(131,zL),(132,Ph)] []
def yi:ï:=⟨[ş],[tI],fun(x:rx)=>zn x⟩
def GB (ρ:Type):Env ρ:=Ò [(56,Ĺ),(73,ł),(116,yj)] []
def gW:ï:=⟨[af,È],[tI],fun(x:Val (.pair af È))=>hO x.1 x.2⟩
def š:Æ:=Ls 0 [af,tI,tI,tI,tI,tI,tI,tI,tI,tI] [tI] ⟨19,[.con af,.any,.any,.box 0 0,.any,.any,.any,.con tI,.var tI],[bn]⟩ [(.ret,⟨19,[.con af,.any,.any,.box 0 0,.var tI,.any,.any,.con tI],[bn]⟩,[tI]),(.exit 0,⟨19,[.con af,.any,.any,.box 0 0,.any,.any,.any,.con tI],[bn]⟩,[])]
def Š (ρ:Type):ă ρ:=⟨[],195,0,š,fun(p:Val (tyL š.cs)) (v:Int) b a=>let A:=p.2.2.2.2;Ž p.1 p.2.1 p.2.2.1 p.2.2.2.1 A.1 A.2.1 A.2.2.1 A.2.2.2.1 A.2.2.2.2.1 A.2.2.2.2.2 v (fun c=>b c) (a 0) (a 1)⟩
def Θ (ρ:Type):Env ρ:=Ò [] [Š ρ]
def ź:ï:=⟨[af,È],[.bool],fun(x:Val (.pair af È))=>ž x.1 x.2⟩
def ke (ρ:Type):Env ρ:=Ò [(195,gW)] []
def jp:ï:=⟨[aa,Â],[tI],fun(x:y8)=>jv x.1 x.2⟩
def md:Æ:=Ls 0 [aa,tI,tI,tI] [tI] ⟨19,[.con aa,.any,.any,.box 0 0,.any,.any,.any,.con tI,.var tI],[bu]⟩ [(.ret,⟨19,[.con aa,.any,.any,.box 0 0,.var tI,.any,.any,.con tI],[bu]⟩,[tI]),(.exit 0,⟨19,[.con aa,.any,.any,.box 0 0,.any,.any,.any,.con tI],[bu]⟩,[])]
def Τ (ρ:Type):ă ρ:=⟨[],197,0,md,fun(p:Val (.pair aa ć)) (v:Int) b a=>iv p.1 p.2.1 p.2.2.1 p.2.2.2 v (fun c=>b c) (a 0) (a 1)⟩
def iG (ρ:Type):Env ρ:=Ò [] [Τ ρ]
def iu:ï:=⟨[aa,Â],[.bool],fun(x:y8)=>Ŏ x.1 x.2⟩
def me (ρ:Type):Env ρ:=Ò [(197,jp)] []
def iD:ï:=⟨[ah,Ĵ],[tI],fun(x:Val (.pair ah Ĵ))=>iR x.1 x.2⟩
def kU:Æ:=Ls 0 [ah,tI,tI,tI,tI,tI] [tI] ⟨19,[.con ah,.any,.any,.box 0 0,.any,.any,.any,.con tI,.var tI],[bo]⟩ [(.ret,⟨19,[.con ah,.any,.any,.box 0 0,.var tI,.any,.any,.con tI],[bo]⟩,[tI]),(.exit 0,⟨19,[.con ah,.any,.any,.box 0 0,.any,.any,.any,.con tI],[bo]⟩,[])]
def ż (ρ:Type):ă ρ:=⟨[],199,0,kU,fun(p:Val (.pair ah bi)) (v:Int) b a=>Υ p.1 p.2.1 p.2.2.1 p.2.2.2.1 p.2.2.2.2.1 p.2.2.2.2.2 v (fun c=>b c) (a 0) (a 1)⟩
def gZ (ρ:Type):Env ρ:=Ò [] [ż ρ]
variable [LC]
def Ρ:ï:=⟨[ah,Ĵ],[.bool],fun(x:Val (.pair ah Ĵ))=>Ļ x.1 x.2⟩
def kV (ρ:Type):Env ρ:=Ò [(199,iD)] []
def X6:ï:=⟨[Å,Å],[.bool],fun(x:Val (.pair Å Å))=>Qx x.1 x.2⟩
def BW:Æ:=Ls 0 [af,tI,tI,tI,af,aa,ah,ae,aa,tI,tI,af,aa,ah,ae,aa] [tI,aq] ⟨87,aN 2 (.box 0 0::.box 1 0::.any::.box 2 0::aN 10 [.con af,.con tI,.var tI]),[bm,bm,bN,.mapv tI .bool]⟩ [(.exit 0,⟨87,aN 2 (.box 0 0::.box 1 0::.any::.box 2 0::aN 10 [.con af,.con tI]),[bm,bm,bN,.mapv tI .bool]⟩,[aq])]
def BV (ρ:Type):ă ρ:=⟨[],72,0,BW,fun(p:Val (tyL BW.cs)) (v:px) a b=>Jf p.1 p.2.1 v.1 v.2 (fun c d=>a (c,d)) (b 0)⟩
def BP:Æ:=Ls 6 [ai,ai,tI,tI,tI,af,aa,ah,ae,aa,tI,tI,af,aa,ah,ae,aa,aq,tI,tI,ai,ai,tI,tI,tI,tI,tI,tI,ai,ai,tI,tI,tI,tI] [tI] ⟨26,.con ai::.con ai::aN 10 [.con tI,.var tI],cw⟩ [(.ret,⟨26,.con ai::.con ai::aN 2 (.var .bool::aN 7 [.con tI]),cw⟩,[.bool]),(.exit 0,⟨26,.con ai::.con ai::aN 10 [.con tI],cw⟩,[])]
def BO (ρ:Type):ă ρ:=⟨[14,3,1,2,4,5,1,38],121,0,BP,fun(p:Val (tyL BP.cs)) (v:Int) b a=>Jc p.1 p.2.1 p.2.2.1 v (fun c=>b c) (a 0) (a 1)⟩
def BN:Æ:=Ls 6 [ai,ai,tI,tI,tI,af,aa,ah,ae,aa,tI,tI,af,aa,ah,ae,aa,aq,tI,tI,ai,ai,tI,tI,tI,tI,tI,tI,ai,ai,tI,tI,tI,tI] [tI] ⟨26,.con ai::.con ai::aN 10 [.con tI,.var tI],cw⟩ [(.ret,⟨26,.con ai::.con ai::aN 2 (.var .bool::aN 7 [.con tI]),cw⟩,[.bool]),(.exit 0,⟨26,.con ai::.con ai::aN 10 [.con tI],cw⟩,[])]
def BM (ρ:Type):ă ρ:=⟨[14,3,1,2,4,5,1,45],121,0,BN,fun(p:Val (tyL BN.cs)) (v:Int) b a=>Ab p.1 p.2.1 p.2.2.1 v (fun c=>b c) (a 0) (a 1)⟩
def BS:Æ:=Ls 5 [ae,tI,tI,tI,af,aa,ah,ae,aa,tI,tI,af,aa,ah,ae,aa,aq,tI,tI,ai,ai,tI,tI,tI,tI] [tI] ⟨19,.con ae::.fn 120 [(4,0)]::aN 5 [.con tI,.var tI],cz⟩ [(.ret,⟨19,[.con ae,.fn 120 [(4,0)],.any,.any,.var tI,.any,.any,.con tI],cz⟩,[tI]),(.exit 0,⟨19,.con ae::.fn 120 [(4,0)]::aN 5 [.con tI],cz⟩,[])]
def BQ (ρ:Type):ă ρ:=⟨[14,3,1,2],160,0,BS,fun(p:Val (tyL BS.cs)) (v:Int) b a=>let A:=p.2.2.2.2.2.2.2.2.2.2.2.2.2.2.2.2.2;let B:=A.2.2.2.2;Jd p.1 p.2.1 A.1 A.2.1 A.2.2.1 A.2.2.2.1 B.1 B.2.1 B.2.2.1 B.2.2.2 v (fun c=>b c) (a 0) (a 1)⟩
def BU:Æ:=Ls 0 [ae,tI,tI,tI,af,aa,ah,ae,aa,tI,tI,af,aa,ah,ae,aa,aq] [tI] ⟨87,aN 2 (.box 0 0::.box 1 0::aN 4 (.fn 117 []::.fn 118 [(2,0)]::.fn 119 [(2,0)]::aN 18 [.con ae,.con tI,.var tI])),cA⟩ [(.ret,⟨87,aN 2 (.box 0 0::.box 1 0::.var .bool::aN 3 (.fn 117 []::.fn 118 [(2,0)]::.fn 119 [(2,0)]::aN 18 [.con ae,.con tI])),cA⟩,[.bool]),(.exit 2,⟨87,aN 2 (.box 0 0::.box 1 0::aN 4 (.fn 117 []::.fn 118 [(2,0)]::.fn 119 [(2,0)]::aN 18 [.con ae,.con tI])),cA⟩,[])]
def BT (ρ:Type):ă ρ:=⟨[],72,2,BU,fun(p:Val (tyL BU.cs)) (v:Int) b a=>Je p.1 p.2.1 p.2.2.2.2.2.2.2.2.2.2.2.2.2.2.1 v (fun c=>b c) (a 0) (a 1)⟩
def BK:Æ:=Ls 6 [af,tI,tI,tI,af,aa,ah,ae,aa,tI,tI,af,aa,ah,ae,aa,aq,af] [tI] ⟨19,.con af::.fn 162 [(5,0),(4,0)]::aN 5 [.con tI,.var tI],cB⟩ [(.ret,⟨19,[.con af,.fn 162 [(5,0),(4,0)],.any,.any,.var tI,.any,.any,.con tI],cB⟩,[tI]),(.exit 0,⟨19,.con af::.fn 162 [(5,0),(4,0)]::aN 5 [.con tI],cB⟩,[])]
def BJ (ρ:Type):ă ρ:=⟨[17,11,1,2,1,2],194,0,BK,fun(p:Val (tyL BK.cs)) (v:Int) b a=>Jb p.1 p.2.1 p.2.2.2.2.2.2.2.2.2.2.2.2.2.2.2.2.2 v (fun c=>b c) (a 0) (a 1)⟩
def BI:Æ:=Ls 8 [aa,tI,tI,tI,af,aa,ah,ae,aa,tI,tI,af,aa,ah,ae,aa,aq,af,aa] [tI] ⟨19,.con aa::.fn 165 [(7,0),(6,0)]::aN 5 [.con tI,.var tI],cD⟩ [(.ret,⟨19,[.con aa,.fn 165 [(7,0),(6,0)],.any,.any,.var tI,.any,.any,.con tI],cD⟩,[tI]),(.exit 0,⟨19,.con aa::.fn 165 [(7,0),(6,0)]::aN 5 [.con tI],cD⟩,[])]
def BH (ρ:Type):ă ρ:=⟨[17,19,1,2,1,2],196,0,BI,fun(p:Val (tyL BI.cs)) (v:Int) b a=>Aa p.1 p.2.1 p.2.2.2.2.2.2.2.2.2.2.2.2.2.2.2.2.1 p.2.2.2.2.2.2.2.2.2.2.2.2.2.2.2.2.2.2 v (fun c=>b c) (a 0) (a 1)⟩
def BG:Æ:=Ls 10 [aa,tI,tI,tI,af,aa,ah,ae,aa,tI,tI,af,aa,ah,ae,aa,aq,af,aa,aa] [tI] ⟨19,.con aa::.fn 165 [(9,0),(8,0)]::aN 5 [.con tI,.var tI],cE⟩ [(.ret,⟨19,[.con aa,.fn 165 [(9,0),(8,0)],.any,.any,.var tI,.any,.any,.con tI],cE⟩,[tI]),(.exit 0,⟨19,.con aa::.fn 165 [(9,0),(8,0)]::aN 5 [.con tI],cE⟩,[])]
def BF (ρ:Type):ă ρ:=⟨[17,27,1,2,1,2],196,0,BG,fun(p:Val (tyL BG.cs)) (v:Int) b a=>oL p.1 p.2.1 p.2.2.2.2.2.2.2.2.2.2.2.2.2.2.2.2.1 p.2.2.2.2.2.2.2.2.2.2.2.2.2.2.2.2.2.2.2 v (fun c=>b c) (a 0) (a 1)⟩
def BD:Æ:=Ls 12 [ah,tI,tI,tI,af,aa,ah,ae,aa,tI,tI,af,aa,ah,ae,aa,aq,af,aa,aa,ah] [tI] ⟨19,.con ah::.fn 168 [(11,0),(10,0)]::aN 5 [.con tI,.var tI],cF⟩ [(.ret,⟨19,[.con ah,.fn 168 [(11,0),(10,0)],.any,.any,.var tI,.any,.any,.con tI],cF⟩,[tI]),(.exit 0,⟨19,.con ah::.fn 168 [(11,0),(10,0)]::aN 5 [.con tI],cF⟩,[])]
def BC (ρ:Type):ă ρ:=⟨[17,35,1,2,1,2],198,0,BD,fun(p:Val (tyL BD.cs)) (v:Int) b a=>κ p.1 p.2.1 p.2.2.2.2.2.2.2.2.2.2.2.2.2.2.2.2.1 p.2.2.2.2.2.2.2.2.2.2.2.2.2.2.2.2.2.2.2.2 v (fun c=>b c) (a 0) (a 1)⟩
def BB:Æ:=Ls 14 [ah,tI,tI,tI,af,aa,ah,ae,aa,tI,tI,af,aa,ah,ae,aa,aq,af,aa,aa,ah,ah] [tI] ⟨19,.con ah::.fn 168 [(13,0),(12,0)]::aN 5 [.con tI,.var tI],cG⟩ [(.ret,⟨19,[.con ah,.fn 168 [(13,0),(12,0)],.any,.any,.var tI,.any,.any,.con tI],cG⟩,[tI]),(.exit 0,⟨19,.con ah::.fn 168 [(13,0),(12,0)]::aN 5 [.con tI],cG⟩,[])]
def BA (ρ:Type):ă ρ:=⟨[17,43,1,2,1,2],198,0,BB,fun(p:Val (tyL BB.cs)) (v:Int) b a=>ĉ p.1 p.2.1 p.2.2.2.2.2.2.2.2.2.2.2.2.2.2.2.2.1 p.2.2.2.2.2.2.2.2.2.2.2.2.2.2.2.2.2.2.2.2.2 v (fun c=>b c) (a 0) (a 1)⟩
def Ŧ (ρ:Type):Env ρ:=Ò [(163,ź),(166,iu),(169,Ρ)] [BV ρ,BO ρ,BM ρ,BQ ρ,BT ρ,BJ ρ,BH ρ,BF ρ,BC ρ,BA ρ]
def Nx:ï:=⟨[Å,ş],[.bool,tI],fun(x:Val (.pair Å ş))=>OE x.1 x.2⟩
def TJ (ρ:Type):Env ρ:=Ò [(31,sm),(56,Ĺ),(71,yi),(72,X6)] []
def SE:ï:=⟨[Î],[ai,tI],fun(x:ey)=>KI x⟩
def Mq:Æ:=Ls 0 [tI,tI,ao] [tI,aT] ⟨93,.any::.box 0 0::aN 6 (.own 1::aN 24 [.con tI,.var tI]),[bz,.rowv au]⟩ [(.exit 0,⟨93,.any::.box 0 0::aN 6 (.own 1::aN 24 [.con tI]),[bz,.rowv au]⟩,[aT])]
def yX (ρ:Type):ă ρ:=⟨[],74,0,Mq,fun(p:Val aO) (v:Val (.pair tI aT)) a b=>FI p.1 p.2.1 p.2.2 v.1 v.2 (fun c d=>a (c,d)) (b 0)⟩
def yQ:Æ:=Ls 3 [tI,au,ao,tI,tI,ao,aT,tI,tI,tI,tI,ao] [tI,tI,tI,ai] ⟨73,.any::.var tI::.con tI::.con au::.fn 128 []::.box 3 0::aN 5 (.own 4::.var tI::aN 7 [.con ao,.con tI,.var tI]),cH⟩ [(.exit 2,⟨73,.any::.var tI::.con tI::.con au::.fn 128 []::.box 3 0::aN 5 (.own 4::.var tI::aN 7 [.con ao,.con tI]),cH⟩,[tI,tI,ai])]
def yP (ρ:Type):ă ρ:=⟨[22,10],84,2,yQ,fun(p:Val (tyL yQ.cs)) (v:Val aP) a b=>FE p.1 p.2.1 p.2.2.1 p.2.2.2.1 v.1 v.2.1 v.2.2.1 v.2.2.2 (fun c d e f=>a (c,d,e,f)) (b 0)⟩
def yS:Æ:=Ls 3 [au,tI,ao,aT,tI,tI,tI,tI,ao] [tI,tI,tI,ai] ⟨73,.any::.var tI::.var tI::.con au::.fn 128 []::.box 3 0::aN 5 [.own 4,.var tI],cH⟩ [(.exit 0,⟨73,aN 3 (.con au::.fn 128 []::.box 3 0::aN 5 [.own 4]),cH⟩,[ai])]
def yR (ρ:Type):ă ρ:=⟨[22,10],84,0,yS,fun(p:Val (tyL yS.cs)) (v:Val aP) a b=>FF p.1 p.2.2.2.2.2.2.2.2 v.1 v.2.1 v.2.2.1 v.2.2.2 (fun c d e f=>a (c,d,e,f)) (b 0)⟩
def yU:Æ:=Ls 0 [tI,ao,tI,tI,ao,aT] [tI] ⟨93,.any::.box 0 0::aN 6 (.own 1::.any::.fn 128 []::.con tI::aN 37 [.con ao,.con tI,.var tI]),[bz,.rowc au]⟩ [(.exit 2,⟨93,.any::.box 0 0::aN 6 (.own 1::.any::.fn 128 []::.con tI::aN 37 [.con ao,.con tI]),[bz,.rowc au]⟩,[]),(.ret,⟨93,.any::.box 0 0::.own 2::.var tI::aN 4 (.own 1::.any::.fn 128 []::.con tI::aN 37 [.con ao,.con tI]),[bz,.rowc au,.rowv tI]⟩,[tI,ai]),(.exit 4,⟨93,.any::.box 0 0::aN 6 (.own 1::.any::.fn 128 []::.con tI::aN 37 [.con ao,.con tI]),[bz,.rowc au]⟩,[])]
def yT (ρ:Type):ă ρ:=⟨[],74,4,yU,fun(p:Val (tyL yU.cs)) (v:Int) b a=>FG p.1 p.2.1 p.2.2.1 p.2.2.2.1 p.2.2.2.2.1 p.2.2.2.2.2 v (fun c=>b c) (a 0) (a 1) (a 2)⟩
def yW:Æ:=Ls 0 [tI,ao,aT] [tI] ⟨93,.any::.box 0 0::aN 6 [.own 1,.any,.fn 128 [],.var tI],[bz,.rowc au]⟩ [(.exit 2,⟨93,.any::.box 0 0::aN 6 [.own 1,.any,.fn 128 []],[bz,.rowc au]⟩,[]),(.ret,⟨93,.any::.box 0 0::.own 2::.var tI::aN 4 [.own 1,.any,.fn 128 []],[bz,.rowc au,.rowv tI]⟩,[tI,ai])]
def yV (ρ:Type):ă ρ:=⟨[],74,2,yW,fun(p:Val (tyL yW.cs)) (v:Int) b a=>FH p.1 p.2.1 p.2.2 v (fun c=>b c) (a 0) (a 1)⟩
def lz (ρ:Type):Env ρ:=Ò [(81,H6),(91,l9),(127,qP)] [yX ρ,yP ρ,yR ρ,yT ρ,yV ρ]
def Sz:ï:=⟨[Å],[ş,tI],fun(x:a8)=>UG x⟩
def Wi (ρ:Type):Env ρ:=Ò [(37,oB),(38,zK),(73,ł),(74,SE)] []
def A1:ï:=⟨[],[.bool],fun(_:Unit)=>tB⟩
def vn (ρ:Type):Env ρ:=Ò [(8,H4),(22,Fk),(23,Fp),(24,H5),(25,X7),(26,Sy),(27,Sx),(28,HZ),(29,Nx),(30,Sz),(31,sm)] []
def HU:ï:=⟨[],[.bool],fun(_:Unit)=>WP⟩
def Fl:ï:=⟨[tI],[.str],fun(x:Int)=>wy x⟩
def ŕ:Æ:=Ls 0 [] [tI,.str] ⟨46,[.var tI,.any,.any,.any,.var .str],[]⟩ [(.exit 0,⟨46,aN 4 [.var .str],[]⟩,[.str])]
def lq (rec:Int->AN ByteArray) (ρ:Type):ă ρ:=⟨[],77,0,ŕ,fun(p:Unit) (v:uf) a b=>ky rec v.1 v.2 (fun c d=>a (c,d)) (b 0)⟩
def I2 (rec:Int->AN ByteArray):AS (Nat×ï):=[(77,⟨[tI],[.str],fun(x:Int)=>rec x⟩)]
def tZ (rec:Int->AN ByteArray) (ρ:Type):AS (ă ρ):=[lq rec ρ]
def Ų (rec:Int->AN ByteArray) (ρ:Type):Env ρ:=Ò (I2 rec) (tZ rec ρ)
def Si:ï:=⟨[.str,ai],[.str],fun(x:Val (.pair .str ai))=>hZ x.1 x.2⟩
def LJ:Æ:=Ls 0 [ai] [.str,tI] ⟨23,[.any,.con ai,.any,.any,.any,.var .str,.var tI],[]⟩ [(.exit 0,⟨23,[.any,.con ai,.any,.any,.any,.var .str],[]⟩,[.str])]
def yo (ρ:Type):ă ρ:=⟨[],32,0,LJ,fun(p:ag) (v:xt) a b=>pq p v.1 v.2 (fun c d=>a (c,d)) (b 0)⟩
def Ix (ρ:Type):Env ρ:=Ò [(77,Fl)] [yo ρ]
def Z0:ï:=⟨[Å],[.str],fun(x:a8)=>oj x⟩
def II:Æ:=Ls 0 [tI,tI,af,aa,ah,ae,aa] [.str,tI] ⟨173,[.any,.box 0 0,.any,.var .str,.var tI],[bm]⟩ [(.exit 0,⟨173,[.any,.box 0 0,.any,.var .str],[bm]⟩,[.str])]
def vx (ρ:Type):ă ρ:=⟨[],7,0,II,fun(p:nm) (v:xt) a b=>nz p.2.2.1 v.1 v.2 (fun c d=>a (c,d)) (b 0)⟩
def IH:Æ:=Ls 0 [tI,tI,af,aa,ah,ae,aa] [.str,tI] ⟨173,[.any,.box 0 0,.any,.var .str,.any,.any,.var tI],[bm]⟩ [(.exit 2,⟨173,[.any,.box 0 0,.any,.var .str],[bm]⟩,[.str])]
def vw (ρ:Type):ă ρ:=⟨[],7,2,IH,fun(p:nm) (v:xt) a b=>ny p.2.2.2.1 v.1 v.2 (fun c d=>a (c,d)) (b 0)⟩
def IG:Æ:=Ls 0 [tI,tI,af,aa,ah,ae,aa] [.str,tI] ⟨173,[.any,.box 0 0,.any,.var .str,.any,.any,.any,.var tI],[bm]⟩ [(.exit 4,⟨173,[.any,.box 0 0,.any,.var .str],[bm]⟩,[.str])]
def vv (ρ:Type):ă ρ:=⟨[],7,4,IG,fun(p:nm) (v:xt) a b=>nw p.2.2.2.2.1 v.1 v.2 (fun c d=>a (c,d)) (b 0)⟩
def IF:Æ:=Ls 0 [tI,tI,af,aa,ah,ae,aa] [.str,tI] ⟨173,.any::.box 0 0::.any::.var .str::aN 5 [.var tI],[bm]⟩ [(.exit 6,⟨173,[.any,.box 0 0,.any,.var .str],[bm]⟩,[.str])]
def vu (ρ:Type):ă ρ:=⟨[],7,6,IF,fun(p:nm) (v:xt) a b=>nu p.2.2.2.2.2.1 v.1 v.2 (fun c d=>a (c,d)) (b 0)⟩
def IE:Æ:=Ls 0 [tI,tI,af,aa,ah,ae,aa] [.str,tI] ⟨173,.any::.box 0 0::.any::.var .str::aN 7 [.var tI],[bm]⟩ [(.exit 8,⟨173,[.any,.box 0 0,.any,.var .str],[bm]⟩,[.str])]
def vt (ρ:Type):ă ρ:=⟨[],7,8,IE,fun(p:nm) (v:xt) a b=>nt p.2.2.2.2.2.2 v.1 v.2 (fun c d=>a (c,d)) (b 0)⟩
def jX (ρ:Type):Env ρ:=Ò [(32,Si)] [vx ρ,vw ρ,vv ρ,vu ρ,vt ρ]
def SD:ï:=⟨[Î,tI,tI],[(.fsl tI),tI],fun(x:z7)=>wE x.1 x.2.1 x.2.2⟩
def Wq (ρ:Type):Env ρ:=Ò [(80,vg),(91,l9)] []
def VQ:ï:=⟨[Å,Â,.bool],[(.fsl tI),tI],fun(x:Val bf)=>lM x.1 x.2.1 x.2.2⟩
def ud:Æ:=Ls 3 [tI,tI,tI,af,aa,ah,ae,aa,tI,tI,aa] [tI,tI,tI,af,aa,ah,ae,aa] ⟨68,aN 2 (.box 3 0::aN 20 [.own 2,.con tI,.var tI]),[bm,bu,.rowc Â,bI]⟩ [(.ret,⟨68,aN 2 (.box 3 0::.any::.nilp::.var tI::aN 17 [.own 2,.con tI]),[bm,bu,.rowc Â,bI]⟩,[tI,tI,tI,af,aa,ah,ae,aa]),(.exit 0,⟨68,aN 2 (.box 3 0::aN 20 [.own 2,.con tI]),[bm,bu,.rowc Â,bI]⟩,[tI,tI,af,aa,ah,ae,aa])]
def t8 (ρ:Type):ă ρ:=⟨[1,3],33,0,ud,fun(p:Val (tyL ud.cs)) (v:ge) b a=>qp p.1 p.2.2.2.2.2.2.2.2.2.2 v.1 v.2.1 v.2.2.1 v.2.2.2.1 v.2.2.2.2.1 v.2.2.2.2.2.1 v.2.2.2.2.2.2.1 v.2.2.2.2.2.2.2 (fun c d e f g h i j=>b (c,d,e,f,g,h,i,j)) (a 0) (a 1)⟩
def sO (ρ:Type):Env ρ:=Ò [(35,iE),(41,SD),(56,Ĺ),(73,ł),(75,iF),(78,nk),(79,ķ)] [t8 ρ]
def HV:ï:=⟨[Å],[Î],fun(x:a8)=>tD x⟩
def PJ (ρ:Type):Env ρ:=Ò [(20,qO),(21,Pe)] []
def X0:ï:=⟨[Î,tI,ai],[tI,tI,.bool],fun(x:Val (.pair Î aE))=>C9 x.1 x.2.1 x.2.2⟩
def PM:Æ:=Ls 0 [ai,tI,ao] [tI,tI,tI] ⟨67,.any::.var tI::.con ai::.box 0 0::aN 5 [.var tI,.var tI],[bz]⟩ [(.ret,⟨67,[.any,.any,.con ai,.box 0 0,.any,.any,.var tI,.var tI,.var .bool],[bz]⟩,[tI,tI,.bool]),(.exit 0,⟨67,.any::.var tI::.con ai::.box 0 0::aN 5 [.var tI],[bz]⟩,[tI,tI])]
def Bx (ρ:Type):ă ρ:=⟨[],93,0,PM,fun(p:Val (.pair ai Î)) (v:py) b a=>sK p.1 p.2.2 v.1 v.2.1 v.2.2 (fun c d e=>b (c,d,e)) (a 0) (a 1)⟩
def NU (ρ:Type):Env ρ:=Ò [] [Bx ρ]
def Nl:ï:=⟨[ş],[.bool],fun(x:rx)=>xp x⟩
def S9 (ρ:Type):Env ρ:=Ò [(42,wX),(92,HV),(93,X0)] []
def LB:ï:=⟨[ş],[tI],fun(x:rx)=>Ŷ x⟩
def F8 (ρ:Type):Env ρ:=Ò [(5,Ns),(42,wX),(43,Nl)] []
end Go.Proofs.ZzM
end
