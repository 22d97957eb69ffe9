/- lemmas -/
import Derived.Test.YtjlkjopcjcbooaaGreatDoorAmG
import Derived.Test.YtjlkjopcjcbooaaGreatDoorAmD
import Derived.KernelRfl
import Derived.Test.YtjlkjopcjcbooaaGreatDoorMdTA
import Derived.Test.YtjlkjopcjcbooaaGreatDoorProg
set_option linter.all false
noncomputable section
set_option maxRecDepth 100000
namespace Go.Proofs.ZzM
open Go Go.Am
def xR:Nat->Bool
  |112=>true
  |277=>true
  |278=>true
  |279=>true
  |280=>true
  |281=>true
  |_=>false
def Gi:Nat->Bool
  |240=>true
  |_=>false
def nP:Nat->Bool
  |241=>true
  |_=>false
def isInl:Nat->Bool
  |2=>true
  |46=>true
  |72=>true
  |74=>true
  |94=>true
  |95=>true
  |105=>true
  |106=>true
  |107=>true
  |108=>true
  |109=>true
  |110=>true
  |111=>true
  |116=>true
  |119=>true
  |120=>true
  |121=>true
  |122=>true
  |123=>true
  |124=>true
  |125=>true
  |126=>true
  |127=>true
  |140=>true
  |142=>true
  |144=>true
  |145=>true
  |158=>true
  |159=>true
  |161=>true
  |162=>true
  |163=>true
  |164=>true
  |165=>true
  |167=>true
  |168=>true
  |177=>true
  |178=>true
  |181=>true
  |182=>true
  |187=>true
  |191=>true
  |192=>true
  |193=>true
  |195=>true
  |196=>true
  |198=>true
  |199=>true
  |201=>true
  |202=>true
  |207=>true
  |210=>true
  |211=>true
  |212=>true
  |215=>true
  |228=>true
  |229=>true
  |230=>true
  |231=>true
  |232=>true
  |235=>true
  |236=>true
  |237=>true
  |242=>true
  |244=>true
  |246=>true
  |248=>true
  |250=>true
  |251=>true
  |256=>true
  |257=>true
  |284=>true
  |286=>true
  |299=>true
  |300=>true
  |301=>true
  |302=>true
  |303=>true
  |304=>true
  |306=>true
  |307=>true
  |311=>true
  |312=>true
  |314=>true
  |315=>true
  |317=>true
  |318=>true
  |321=>true
  |322=>true
  |324=>true
  |326=>true
  |327=>true
  |357=>true
  |_=>false
def isFz:Nat->Bool
  |51=>true
  |64=>true
  |68=>true
  |_=>false
def adf:Nat->Nat->Bool
  |13,4=>true
  |13,5=>true
  |46,67=>true
  |136,8=>true
  |136,11=>true
  |140,25=>true
  |257,0=>true
  |_,_=>false
def ab4:y5 Nat->Nat->Bool
  |_,_=>false
abbrev PH {ρ:Type} (E:Env ρ) (f:Nat) (ts rs:y5 Ty) (x:Val (tyL ts)) (k:Val (tyL rs)->x9 ρ):x9 ρ:=ZK E f (Ee ts x) (fun h v=>Ã (T4 rs h v) k)
abbrev Ls (p:Nat) (c v:y5 Ty) (h:Tpl) (e:y5 (Exit×Tpl×y5 Ty)):Æ:=⟨p,c,v,h,e,false⟩
def ê {ρ:Type} (pt:y5 (Nat×Č)) (tab:y5 (į ρ)):Env ρ :=
  {P:=Tryz.prog,eat:=adf,clone:=xR,sort:=Gi,compact:=nP,inl:=isInl,fz:=isFz,stop:=ab4,pure:=Iu pt,loops:=gK tab}
def WV {ρ:Type} (pt:y5 (Nat×Č)) (tab:y5 (į ρ)) (xt:y5 (Nat×Vj)):Env ρ:={ê pt tab with ext:=extT xt}
def mkEnvU {ρ:Type} (pt:y5 (Nat×Č)) (tab:y5 (į ρ)) (us:y5 abD):Env ρ :=
  {P:=Tryz.prog,eat:=adf,clone:=xR,sort:=Gi,compact:=nP,inl:=isInl,fz:=isFz,stop:=ab4,pure:=Iu pt,loops:=SE (ê pt tab) us}
abbrev aU:kf:=.cells [.con tI,.con tI,.con ac,.con aa,.con ae,.con ab,.con aa]
abbrev aV:kf:=.cells [.con tI,.con tI,.con tI,.con tI,.con tI,.con tI,.con tI,.con tI]
abbrev aW:kf:=.cells [.con tI,.con tI,.con tI,.con tI]
abbrev aX:kf:=.cells [.con af]
abbrev aY:kf:=.cells [.con tI]
abbrev aZ:kf:=.cells [.con tI,.con tI,.con af,.con af,.con tI,.con tI,.con tI,.con tI]
abbrev ba:kf:=.cells [.con tI,.con tI,.nils,.nils,.nils,.nils,.nils,.con tI,.con tI,.con .bool,.con tI,.nils]
abbrev bc:kf:=.cells [.con tI,.con tI]
abbrev bf:kf:=.cells [.con tI,.con ai]
abbrev bg:kf:=.cells [.own 6]
abbrev bh:kf:=.cells [.con tI,.con tI,.con ac,.con aa,.con ae,.con ab,.con aa,.con aa,.con tI,.own 3,.own 4]
abbrev bi:kf:=.cells [.con tI,.con tI,.con ac,.con aa,.con ae,.con ab,.con aa,.con aa,.con tI,.own 2,.own 3]
abbrev bj:kf:=.cells [.con tI,.con tI,.nils,.nils,.nils,.nils,.nils]
abbrev bm:kf:=.cells [.con tI,.con tI,.own 9,.own 10,.own 11,.con ab,.own 12]
abbrev bn:kf:=.cells [.var tI,.var tI,.var ac,.var aa,.var ae,.var ab,.var aa]
abbrev bo:kf:=.cells [.omp 3]
abbrev bp:kf:=.cells [.con ac]
abbrev bq:kf:=.cells [.fn 119 []]
abbrev br:kf:=.cells [.con aa]
abbrev bt:kf:=.cells [.fn 120 [(2,0)]]
abbrev bu:kf:=.cells [.con ae]
abbrev bw:kf:=.cells [.fn 121 [(2,0)]]
abbrev bz:y5 kf:=[.rowv tI]
abbrev bB:y5 kf:=[aU,aZ,.rowc tI]
abbrev bC:y5 kf:=[aU,.rowv .str]
abbrev bD:y5 kf:=[aU,aU]
abbrev bE:y5 kf:=[bf,.rowc tI,bf,bg,.rowv .bool,.rowc tI,.rowv tI]
abbrev bG:y5 kf:=[bf,.rowv tI,bf,bg,.rowv .bool,.rowc tI,.rowv tI]
abbrev bH:y5 kf:=[bf,.rowv tI,bf,bg,.rowv .bool,.rowv tI,.rowv tI]
abbrev bI:y5 kf:=[aU,bi,.rowv yh,.rowv Â]
abbrev bJ:y5 kf:=[aU,bc,bj,aU,bj,.dead,bm,bj,.rowv Ü,.rowc Ê,.rowc Â,.rowc Ŏ,.rowc Â]
abbrev bK:y5 kf:=[aU,bc,bc,.rowc Â,bn]
abbrev bL:y5 kf:=[.rowc af,bf,.dead,.dead,.rowv tI]
abbrev bM:y5 kf:=[bf,aY,aY,bf,.rowv tI]
abbrev bN:y5 kf:=[aU,.dead,.dead,ba,.rowc Â,bn]
abbrev bO:y5 kf:=[aU,.dead,.dead,ba,.rowc Â,aU,bf,.dead,.rowf Â 0,aU,aU]
abbrev bP:y5 kf:=[aU,aU,bo,.mapc tI .bool,aZ,aZ]
abbrev bQ:y5 kf:=[aU,aU,bo,.mapc tI .bool,aZ]
abbrev bR:y5 kf:=[aU,aU,bo,.mapc tI .bool]
abbrev bS:y5 kf:=[aU,aU,bo,.mapc tI .bool,bp,bq]
abbrev bT:y5 kf:=[aU,aU,bo,.mapc tI .bool,bp,bq,br,bt]
abbrev bU:y5 kf:=[aU,aU,bo,.mapc tI .bool,bp,bq,br,bt,br,bt]
abbrev bV:y5 kf:=[aU,aU,bo,.mapc tI .bool,bp,bq,br,bt,br,bt,bu,bw]
abbrev bW:y5 kf:=[aU,aU,bo,.mapc tI .bool,bp,bq,br,bt,br,bt,bu,bw,bu,bw]
def jH:Č:=⟨[aw],[af],fun(x:rn)=>Ċ x⟩
def jN:Æ:=Ls 0 [aw,aw,tI] [tI,tI] ⟨36,.con aw::aN 2 (.var tI::aN 5 [.con aw,.con tI,.var tI]),[]⟩ [(.exit 0,⟨36,.con aw::aN 2 (.var tI::aN 5 [.con aw,.con tI]),[]⟩,[tI])]
def jM (ρ:Type):į ρ:=⟨[],68,0,jN,fun(p:Val (tyL jN.cs)) (v:an) a b=>ğ p.2.1 p.2.2 v.1 v.2 (fun c d=>a (c,d)) (b 0)⟩
def rg:Æ:=Ls 0 [aw,tI] [tI,af] ⟨36,aN 6 (.own 0::aN 18 [.con aw,.con tI,.var tI]),bz⟩ [(.exit 2,⟨36,aN 6 (.own 0::aN 18 [.con aw,.con tI]),bz⟩,[af])]
def jL (ρ:Type):į ρ:=⟨[],68,2,rg,fun(p:Val (.pair aw tI)) (v:io) a b=>å p.1 p.2 v.1 v.2 (fun c d=>a (c,d)) (b 0)⟩
def iE (ρ:Type):Env ρ:=ê [] [jM ρ,jL ρ]
def ph:Č:=⟨[Å,aa,aa],[Å],fun(x:Val (.pair Å (.pair aa aa)))=>GJ x.1 x.2.1 x.2.2⟩
noncomputable def NN:Æ:=Ls 8 [af,tI,tI,tI,ac,aa,ae,ab,aa,tI,tI,ak,tI,tI] [tI,ak] ⟨34,.any::.any::.any::.box 2 0::aN 21 [.con af,.con tI,.var tI],[.cells [.con tI,.con tI,.con ac,.con aa,.con ae,.con ab,.con aa],.cells [.con tI,.con tI,.nils,.nils,.nils,.nils,.nils],.cells [.omp 5],.cells [.omp 6],.cells [.nilfn,.fn 109 [(2,0),(0,0)],.fn 109 [(2,0),(0,0)],.fn 110 [(3,0),(0,0),(2,0)]],.mapv tI .bool,.mapc tI .bool,.cells [.con tI,.con tI]]⟩ [(.exit 0,⟨34,.any::.any::.any::.box 2 0::aN 21 [.con af,.con tI],[.cells [.con tI,.con tI,.con ac,.con aa,.con ae,.con ab,.con aa],.cells [.con tI,.con tI,.nils,.nils,.nils,.nils,.nils],.cells [.omp 5],.cells [.omp 6],.cells [.nilfn,.fn 109 [(2,0),(0,0)],.fn 109 [(2,0),(0,0)],.fn 110 [(3,0),(0,0),(2,0)]],.mapv tI .bool,.mapc tI .bool,.cells [.con tI,.con tI]]⟩,[ak])]
noncomputable def CJ (ρ:Type):į ρ:=⟨[7,5],110,0,NN,fun(p:Val (.pair af (.pair tI (.pair tI (.pair tI (.pair ac (.pair aa (.pair ae (.pair ab (.pair aa (.pair tI (.pair tI (.pair ak Â))))))))))))) (v:nx) kn kx=>qe p.1 p.2.1 v.1 v.2 (fun u0 u1=>kn (u0,u1)) (kx 0)⟩
noncomputable def NP:Æ:=Ls 0 [aa,aa,tI,tI,tI,ac,aa,ae,ab,aa,tI,tI] [tI,ak,ak] ⟨130,.any::.any::.con aa::.box 0 0::.any::.any::.box 1 0::.box 2 0::.box 3 0::.any::.box 4 0::aN 19 [.con aa,.con tI,.var tI],[.cells [.con tI,.con tI,.con ac,.con aa,.con ae,.con ab,.con aa],.cells [.con tI,.con tI,.nils,.nils,.nils,.nils,.nils],.cells [.omp 5],.cells [.omp 6],.cells [.nilfn,.fn 109 [(2,0),(0,0)],.fn 109 [(2,0),(0,0)],.fn 110 [(3,0),(0,0),(2,0)]],.mapv tI .bool,.mapv tI .bool]⟩ [(.exit 0,⟨130,.any::.any::.con aa::.box 0 0::.any::.any::.box 1 0::.box 2 0::.box 3 0::.any::.box 4 0::aN 19 [.con aa,.con tI],[.cells [.con tI,.con tI,.con ac,.con aa,.con ae,.con ab,.con aa],.cells [.con tI,.con tI,.nils,.nils,.nils,.nils,.nils],.cells [.omp 5],.cells [.omp 6],.cells [.nilfn,.fn 109 [(2,0),(0,0)],.fn 109 [(2,0),(0,0)],.fn 110 [(3,0),(0,0),(2,0)]],.mapv tI .bool,.mapv tI .bool]⟩,[ak,ak])]
noncomputable def CL (ρ:Type):į ρ:=⟨[],51,0,NP,fun(p:Val (.pair aa (.pair aa (.pair tI (.pair tI (.pair tI (.pair ac (.pair aa (.pair ae (.pair ab (.pair aa Â))))))))))) (v:Val (.pair tI (.pair ak ak))) kn kx=>vf p.2.1 p.2.2.1 p.2.2.2.2.2.1 p.2.2.2.2.2.2.2.2.1 v.1 v.2.1 v.2.2 (fun u0 u1 u2=>kn (u0,u1,u2)) (kx 0)⟩
noncomputable def NM:Æ:=Ls 0 [aa,aa,tI,tI,tI,ac,aa,ae,ab,aa,tI,tI,ak] [tI,ak] ⟨130,.any::.any::.con aa::.box 0 0::.any::.any::.box 1 0::.box 2 0::.box 3 0::aN 34 [.con aa,.con tI,.var tI],[.cells [.con tI,.con tI,.con ac,.con aa,.con ae,.con ab,.con aa],.cells [.con tI,.con tI,.nils,.nils,.nils,.nils,.nils],.cells [.omp 4],.cells [.omp 5],.mapv tI .bool,.mapc tI .bool]⟩ [(.exit 2,⟨130,.any::.any::.con aa::.box 0 0::.any::.any::.box 1 0::.box 2 0::.box 3 0::aN 34 [.con aa,.con tI],[.cells [.con tI,.con tI,.con ac,.con aa,.con ae,.con ab,.con aa],.cells [.con tI,.con tI,.nils,.nils,.nils,.nils,.nils],.cells [.omp 4],.cells [.omp 5],.mapv tI .bool,.mapc tI .bool]⟩,[ak])]
noncomputable def CH (ρ:Type):į ρ:=⟨[],51,2,NM,fun(p:Val (.pair aa (.pair aa (.pair tI (.pair tI (.pair tI (.pair ac (.pair aa (.pair ae (.pair ab (.pair aa (.pair tI (.pair tI ak))))))))))))) (v:nx) kn kx=>qd p.2.1 p.2.2.1 v.1 v.2 (fun u0 u1=>kn (u0,u1)) (kx 0)⟩
noncomputable def NL:Æ:=Ls 0 [aa,tI,tI,tI,ac,aa,ae,ab,aa,tI,tI,ac,aa,ae,ab,aa,tI,tI,aa,ak,ak,ac] [tI,aa] ⟨130,.any::.any::.any::.box 0 0::.any::.any::.box 1 0::.box 2 0::.box 3 0::aN 6 (.box 4 0::aN 52 [.con aa,.con tI,.var tI]),[.cells [.con tI,.con tI,.con ac,.con aa,.con ae,.con ab,.con aa],.cells [.con tI,.con tI,.con ac,.con aa,.con ae,.con ab,.con aa],.cells [.omp 5],.cells [.omp 6],.cells [.con tI,.con tI,.own 7,.own 8,.nils,.nils,.con aa],.mapc tI .bool,.mapc tI .bool,.rowc Ê,.rowv Â]⟩ [(.exit 6,⟨130,.any::.any::.any::.box 0 0::.any::.any::.box 1 0::.box 2 0::.box 3 0::aN 6 (.box 4 0::aN 52 [.con aa,.con tI]),[.cells [.con tI,.con tI,.con ac,.con aa,.con ae,.con ab,.con aa],.cells [.con tI,.con tI,.con ac,.con aa,.con ae,.con ab,.con aa],.cells [.omp 5],.cells [.omp 6],.cells [.con tI,.con tI,.own 7,.own 8,.nils,.nils,.con aa],.mapc tI .bool,.mapc tI .bool,.rowc Ê,.rowv Â]⟩,[aa])]
noncomputable def oC (ρ:Type):į ρ:=⟨[],51,6,NL,fun(p:Val (.pair aa (.pair tI (.pair tI (.pair tI (.pair ac (.pair aa (.pair ae (.pair ab (.pair aa (.pair tI (.pair tI (.pair ac (.pair aa (.pair ae (.pair ab (.pair aa (.pair tI (.pair tI (.pair aa (.pair ak (.pair ak ac)))))))))))))))))))))) (v:Val aG) kn kx=>pZ p.1 p.2.1 p.2.2.2.2.2.2.2.2.2.2.2.2.2.2.2.2.2.2.2.1 v.1 v.2 (fun u0 u1=>kn (u0,u1)) (kx 0)⟩
noncomputable def NK:Æ:=Ls 0 [ae,tI,tI,tI,ac,aa,ae,ab,aa,tI,tI,ac,aa,ae,ab,aa,tI,tI,aa,ak,ak,ac,aa] [tI,ae] ⟨130,.any::.any::.any::.box 0 0::.any::.any::.box 1 0::.box 2 0::.box 3 0::aN 6 (.box 4 0::aN 70 [.con ae,.con tI,.var tI]),[.cells [.con tI,.con tI,.con ac,.con aa,.con ae,.con ab,.con aa],.cells [.con tI,.con tI,.con ac,.con aa,.con ae,.con ab,.con aa],.cells [.omp 5],.cells [.omp 6],.cells [.con tI,.con tI,.own 7,.own 8,.own 9,.nils,.con aa],.mapc tI .bool,.mapc tI .bool,.rowc Ê,.rowc Â,.rowv Ŏ]⟩ [(.exit 8,⟨130,.any::.any::.any::.box 0 0::.any::.any::.box 1 0::.box 2 0::.box 3 0::aN 6 (.box 4 0::aN 70 [.con ae,.con tI]),[.cells [.con tI,.con tI,.con ac,.con aa,.con ae,.con ab,.con aa],.cells [.con tI,.con tI,.con ac,.con aa,.con ae,.con ab,.con aa],.cells [.omp 5],.cells [.omp 6],.cells [.con tI,.con tI,.own 7,.own 8,.own 9,.nils,.con aa],.mapc tI .bool,.mapc tI .bool,.rowc Ê,.rowc Â,.rowv Ŏ]⟩,[ae])]
noncomputable def oB (ρ:Type):į ρ:=⟨[],51,8,NK,fun(p:Val (.pair ae (.pair tI (.pair tI (.pair tI (.pair ac (.pair aa (.pair ae (.pair ab (.pair aa (.pair tI (.pair tI (.pair ac (.pair aa (.pair ae (.pair ab (.pair aa (.pair tI (.pair tI (.pair aa (.pair ak (.pair ak (.pair ac aa))))))))))))))))))))))) (v:Val (.pair tI ae)) kn kx=>pY p.1 p.2.1 p.2.2.2.2.2.2.2.2.2.2.2.2.2.2.2.2.2.2.2.1 v.1 v.2 (fun u0 u1=>kn (u0,u1)) (kx 0)⟩
noncomputable def NJ:Æ:=Ls 0 [ab,tI,tI,tI,ac,aa,ae,ab,aa,tI,tI,aa,ak,ac,aa,ae] [tI,ab] ⟨130,aN 6 (.box 0 0::.any::.box 1 0::aN 6 (.box 2 0::aN 88 [.con ab,.con tI,.var tI])),[.cells [.con tI,.con tI,.con ac,.con aa,.con ae,.con ab,.con aa],.cells [.omp 3],.cells [.con tI,.con tI,.own 4,.own 5,.own 6,.own 7,.con aa],.mapc tI .bool,.rowc Ê,.rowc Â,.rowc Ŏ,.rowv Ü]⟩ [(.exit 10,⟨130,aN 6 (.box 0 0::.any::.box 1 0::aN 6 (.box 2 0::aN 88 [.con ab,.con tI])),[.cells [.con tI,.con tI,.con ac,.con aa,.con ae,.con ab,.con aa],.cells [.omp 3],.cells [.con tI,.con tI,.own 4,.own 5,.own 6,.own 7,.con aa],.mapc tI .bool,.rowc Ê,.rowc Â,.rowc Ŏ,.rowv Ü]⟩,[ab])]
noncomputable def oA (ρ:Type):į ρ:=⟨[],51,10,NJ,fun(p:Val (.pair ab (.pair tI (.pair tI (.pair tI (.pair ac (.pair aa (.pair ae (.pair ab (.pair aa (.pair tI (.pair tI (.pair aa (.pair ak (.pair ac (.pair aa ae)))))))))))))))) (v:r7) kn kx=>pX p.1 p.2.1 p.2.2.2.2.2.2.2.2.2.2.2.2.1 v.1 v.2 (fun u0 u1=>kn (u0,u1)) (kx 0)⟩
noncomputable def BD:y5 (Nat×Č):=[(68,jH)]
noncomputable def xG (ρ:Type):y5 (į ρ):=[CJ ρ,CL ρ,CH ρ,oC ρ,oB ρ,oA ρ]
noncomputable def ő (ρ:Type):Env ρ:=ê BD (xG ρ)
noncomputable def pV:Tpl:=⟨130,.any::.any::.any::.box 0 0::.any::.any::.box 1 0::.box 2 0::.box 3 0::aN 6 (.box 4 0::aN 43 [.fn 182 [(5,0),(6,0)]]),[.cells [.var tI,.var tI,.var ac,.var aa,.var ae,.var ab,.var aa],.cells [.var tI,.var tI,.var ac,.var aa,.var ae,.var ab,.var aa],.cells [.omp 7],.cells [.omp 8],.cells [.con tI,.con tI,.own 9,.nils,.nils,.nils,.con aa],.cells [.var tI,.var tI,.var ac,.var aa,.var ae,.var ab,.var aa],.cells [.omp 7],.mapv tI .bool,.mapv tI .bool,.rowv Ê]⟩
noncomputable def Fp:Tpl:=⟨130,.any::.any::.any::.box 0 0::.any::.any::.box 1 0::.box 2 0::.box 3 0::aN 6 (.box 4 0::.box 10 0::aN 42 [.fn 182 [(5,0),(6,0)]]),[.cells [.var tI,.var tI,.var ac,.var aa,.var ae,.var ab,.var aa],.cells [.var tI,.var tI,.var ac,.var aa,.var ae,.var ab,.var aa],.cells [.omp 7],.cells [.omp 8],.cells [.con tI,.con tI,.own 9,.nils,.nils,.nils,.con aa],.cells [.var tI,.var tI,.var ac,.var aa,.var ae,.var ab,.var aa],.cells [.omp 7],.mapv tI .bool,.mapv tI .bool,.rowv Ê,.cells [.var tI,.var tI,.var tI,.var tI,.var tI,.var tI,.var tI,.var tI]]⟩
noncomputable def oy (ρ:Type):y5 (į ρ):=[oC ρ,oB ρ,oA ρ]
noncomputable def ė (ρ:Type):Env ρ:={ê BD (oy ρ) with inl:=fun _=>false}
noncomputable def pW:Tpl:=⟨130,aN 6 [.box 0 0],[.cells [.var tI,.var tI,.var ac,.var aa,.var ae,.var ab,.var aa]]⟩
abbrev jq:y5 Ty:=[tI,tI,ac,aa,ae,ab,aa]
noncomputable def kF (y:bl):Val aj:=(y.1.1,y.1.2,y.2.1,y.2.2.1,y.2.2.2.1,y.2.2.2.2.1,y.2.2.2.2.2)
noncomputable def đ:Code:=(ŵ Tryz.prog 51).getD .skip
abbrev gx:y5 Ty:=[tI,tI,aa]
abbrev kE:y5 Ty:=[tI,tI,ac,aa,ae,ab,aa,tI,tI,ac,aa,ae,ab,aa,tI,tI,ac,aa,ae,ab,aa,ak,ak,ac]
abbrev vd:y5 Ty:=[tI,tI,ac,aa,ae,ab,aa,tI,tI,ac,aa,ae,ab,aa,tI,tI,ac,aa,ae,ab,aa,ak,ak,ac,tI,tI,tI,tI,tI,tI,tI,tI]
abbrev æ (v:rm):y5 cT:=v.2.2.2.2.2.2.2.2.2.2.2.2.2.2.2.2.1
abbrev Ł (v:rm):y5 (Int×Bool):=v.2.2.2.2.2.2.2.2.2.2.2.2.2.2.2.2.2.2.2.2.2.1
abbrev rj (v:rm):y5 cT:=v.2.2.2.2.2.2.2.2.2.2.2.2.2.2.2.2.2.2.2.2.2.2.2
noncomputable def Đ (v:rm) (z:y5 cT):rm:=(v.1,v.2.1,v.2.2.1,v.2.2.2.1,v.2.2.2.2.1,v.2.2.2.2.2.1,v.2.2.2.2.2.2.1,v.2.2.2.2.2.2.2.1,v.2.2.2.2.2.2.2.2.1,v.2.2.2.2.2.2.2.2.2.1,v.2.2.2.2.2.2.2.2.2.2.1,v.2.2.2.2.2.2.2.2.2.2.2.1,v.2.2.2.2.2.2.2.2.2.2.2.2.1,v.2.2.2.2.2.2.2.2.2.2.2.2.2.1,v.2.2.2.2.2.2.2.2.2.2.2.2.2.2.1,v.2.2.2.2.2.2.2.2.2.2.2.2.2.2.2.1,v.2.2.2.2.2.2.2.2.2.2.2.2.2.2.2.2.1,v.2.2.2.2.2.2.2.2.2.2.2.2.2.2.2.2.2.1,v.2.2.2.2.2.2.2.2.2.2.2.2.2.2.2.2.2.2.1,v.2.2.2.2.2.2.2.2.2.2.2.2.2.2.2.2.2.2.2.1,v.2.2.2.2.2.2.2.2.2.2.2.2.2.2.2.2.2.2.2.2.1,v.2.2.2.2.2.2.2.2.2.2.2.2.2.2.2.2.2.2.2.2.2.1,v.2.2.2.2.2.2.2.2.2.2.2.2.2.2.2.2.2.2.2.2.2.2.1,z)
noncomputable def xH (v:rm) (x:cT):Val (.pair tI (.pair tI (.pair ac (.pair aa (.pair ae (.pair ab (.pair aa (.pair tI (.pair tI (.pair ac (.pair aa (.pair ae (.pair ab (.pair aa (.pair tI (.pair tI (.pair ac (.pair aa (.pair ae (.pair ab (.pair aa (.pair ak (.pair ak (.pair ac aO)))))))))))))))))))))))):=(v.1,v.2.1,v.2.2.1,v.2.2.2.1,v.2.2.2.2.1,v.2.2.2.2.2.1,v.2.2.2.2.2.2.1,v.2.2.2.2.2.2.2.1,v.2.2.2.2.2.2.2.2.1,v.2.2.2.2.2.2.2.2.2.1,v.2.2.2.2.2.2.2.2.2.2.1,v.2.2.2.2.2.2.2.2.2.2.2.1,v.2.2.2.2.2.2.2.2.2.2.2.2.1,v.2.2.2.2.2.2.2.2.2.2.2.2.2.1,v.2.2.2.2.2.2.2.2.2.2.2.2.2.2.1,v.2.2.2.2.2.2.2.2.2.2.2.2.2.2.2.1,v.2.2.2.2.2.2.2.2.2.2.2.2.2.2.2.2.1,v.2.2.2.2.2.2.2.2.2.2.2.2.2.2.2.2.2.1,v.2.2.2.2.2.2.2.2.2.2.2.2.2.2.2.2.2.2.1,v.2.2.2.2.2.2.2.2.2.2.2.2.2.2.2.2.2.2.2.1,v.2.2.2.2.2.2.2.2.2.2.2.2.2.2.2.2.2.2.2.2.1,v.2.2.2.2.2.2.2.2.2.2.2.2.2.2.2.2.2.2.2.2.2.1,v.2.2.2.2.2.2.2.2.2.2.2.2.2.2.2.2.2.2.2.2.2.2.1,v.2.2.2.2.2.2.2.2.2.2.2.2.2.2.2.2.2.2.2.2.2.2.2,x.1,x.2.1,x.2.2.1,x.2.2.2.1.1,x.2.2.2.1.2,x.2.2.2.2.1.1,x.2.2.2.2.1.2,x.2.2.2.2.2)
def pL:Č:=⟨[Â,tI,tI],[.bool],fun(x:pl)=>š x.1 x.2.1 x.2.2⟩
def N7 (ρ:Type):Env ρ:=ê [] []
def jn:Č:=⟨[tI,tI,tI],[.bool],fun(x:Val yh)=>č x.1 x.2.1 x.2.2⟩
def N3 (ρ:Type):Env ρ:=ê [] []
def yJ:Č:=⟨[tI],[.bool],fun(x:Int)=>lS x⟩
def Qu (ρ:Type):Env ρ:=ê [(234,jn)] []
def KA:Č:=⟨[tI],[(.int .u64)],fun(x:Int)=>o8 x⟩
def Ut (ρ:Type):Env ρ:=ê [] []
def P5:Č:=⟨[(.int .u64),(.int .u64)],[(.int .u64)],fun(x:ly)=>GK x.1 x.2⟩
def NY:Æ:=Ls 0 [] [(.int .u64),(.int .u64)] ⟨12,[.var (.int .u64),.var (.int .u64)],[]⟩ [(.exit 0,⟨12,[.var (.int .u64)],[]⟩,[(.int .u64)])]
def CO (ρ:Type):į ρ:=⟨[],283,0,NY,fun(p:Unit) (v:ly) a b=>vh v.1 v.2 (fun c d=>a (c,d)) (b 0)⟩
def NZ (ρ:Type):Env ρ:=ê [] [CO ρ]
def yF:Č:=⟨[Â],[.bool],fun(x:an)=>qB x⟩
def Qs (ρ:Type):Env ρ:=ê [(282,KA),(283,P5)] []
def EQ:Č:=⟨[Ê],[.bool],fun(x:cT)=>rZ x⟩
def Aj (ρ:Type):Env ρ:=ê [(113,pL),(185,yJ),(233,yF),(234,jn)] []
def tK:Č:=⟨[Å],[tI],fun(x:bl)=>ŗ x⟩
def vQ:Æ:=Ls 0 [ac,tI,tI,tI,ac,aa,ae,ab,aa] [tI] ⟨31,.any::.box 0 0::aN 4 [.con ac,.con tI,.var tI],[aU]⟩ [(.ret,⟨31,[.any,.box 0 0,.var tI,.any,.any,.any,.con ac,.con tI],[aU]⟩,[tI]),(.exit 0,⟨31,.any::.box 0 0::aN 4 [.con ac,.con tI],[aU]⟩,[])]
def ml (ρ:Type):į ρ:=⟨[],114,0,vQ,fun(p:Val (.pair ac aL)) (v:Int) b a=>gJ p.1 p.2.1 p.2.2.2.2.1 v (fun c=>b c) (a 0) (a 1)⟩
def qr (ρ:Type):Env ρ:=ê [(183,EQ)] [ml ρ]
def xw:Č:=⟨[Å],[aq],fun(x:bl)=>Ŭ x⟩
def Dx:Æ:=Ls 0 [ac,tI] [tI,aq] ⟨20,aN 3 (.omp 0::aN 4 [.con ac,.con tI,.var tI]),[.mapv tI Ê]⟩ [(.exit 0,⟨20,aN 3 (.omp 0::aN 4 [.con ac,.con tI]),[.mapv tI Ê]⟩,[aq])]
def sH (ρ:Type):į ρ:=⟨[],115,0,Dx,fun(p:Val (.pair ac tI)) (v:Val (.pair tI aq)) a b=>kY p.1 p.2 v.1 v.2 (fun c d=>a (c,d)) (b 0)⟩
def zS (ρ:Type):Env ρ:=ê [] [sH ρ]
def pI:Č:=⟨[af,tI],[tI],fun(x:Val aS)=>il x.1 x.2⟩
def sU:Æ:=Ls 0 [af,tI,tI] [tI] ⟨19,.con af::.con tI::aN 5 [.con tI,.var tI],[]⟩ [(.ret,⟨19,[.con af,.con tI,.any,.any,.var tI,.any,.any,.con tI],[]⟩,[tI]),(.exit 0,⟨19,.con af::.con tI::aN 5 [.con tI],[]⟩,[])]
def kq (ρ:Type):į ρ:=⟨[],285,0,sU,fun(p:Val (.pair af Â)) (v:Int) b a=>ź p.1 p.2.1 p.2.2 v (fun c=>b c) (a 0) (a 1)⟩
def nD (ρ:Type):Env ρ:=ê [] [kq ρ]
def iB:Č:=⟨[af,tI],[.bool],fun(x:Val aS)=>Ĕ x.1 x.2⟩
def sV (ρ:Type):Env ρ:=ê [(285,pI)] []
def KB:Č:=⟨[Å,Ê],[af],fun(x:Val (.pair Å Ê))=>mM x.1 x.2⟩
def Le:Æ:=Ls 0 [ab,tI,tI,tI,ac,aa,ae,ab,aa,tI,tI,tI,tI,tI,tI,tI,tI] [tI,af] ⟨59,aN 2 (.box 0 0::.box 1 0::.any::.own 2::aN 8 [.con ab,.con tI,.var tI]),[aU,aV,.rowv tI]⟩ [(.exit 0,⟨59,aN 2 (.box 0 0::.box 1 0::.any::.own 2::aN 8 [.con ab,.con tI]),[aU,aV,.rowv tI]⟩,[af])]
def Ao (ρ:Type):į ρ:=⟨[],190,0,Le,fun(p:Val (.pair ab aD)) (v:io) a b=>rI p.1 p.2.1 p.2.2.2.2.2.2.2.2.2.1 v.1 v.2 (fun c d=>a (c,d)) (b 0)⟩
def Al:Æ:=Ls 0 [aa,tI,tI,tI,tI,tI,tI,tI,tI,tI] [tI,af] ⟨59,aN 3 (.box 0 0::.any::.own 1::aN 32 [.con aa,.con tI,.var tI]),[aV,.rowv tI]⟩ [(.exit 2,⟨59,aN 3 (.box 0 0::.any::.own 1::aN 32 [.con aa,.con tI]),[aV,.rowv tI]⟩,[af])]
def Ak (ρ:Type):į ρ:=⟨[],190,2,Al,fun(p:Val (tyL Al.cs)) (v:io) a b=>rH p.1 p.2.1 p.2.2.1 v.1 v.2 (fun c d=>a (c,d)) (b 0)⟩
def BP (ρ:Type):Env ρ:=ê [(239,iB)] [Ao ρ,Ak ρ]
def yI:Č:=⟨[Å],[aa],fun(x:bl)=>nY x⟩
def wS:Æ:=Ls 0 [ac,tI,tI,af,tI,tI,tI,ac,aa,ae,ab,aa,tI,tI,tI,tI,tI,tI,tI,tI] [tI,aa] ⟨33,.any::.box 0 0::.any::.own 1::.any::.box 2 0::aN 3 (.con ac::.con tI::.con tI::aN 5 [.con af,.con tI,.var tI]),[aU,.rowv Â,aV]⟩ [(.exit 2,⟨33,.any::.box 0 0::.any::.own 1::.any::.box 2 0::aN 3 (.con ac::.con tI::.con tI::aN 5 [.con af,.con tI]),[aU,.rowv Â,aV]⟩,[aa])]
def wR (ρ:Type):į ρ:=⟨[],117,2,wS,fun(p:Val (tyL wS.cs)) (v:Val aG) a b=>oI p.2.2.2.1 p.2.2.2.2.1 p.2.2.2.2.2.2.2.2.2.2.2.2.1 v.1 v.2 (fun c d=>a (c,d)) (b 0)⟩
def H7:Æ:=Ls 0 [ac,tI,tI,tI,ac,aa,ae,ab,aa] [tI,aa] ⟨33,.any::.box 0 0::.any::.own 1::aN 5 [.con ac,.con tI,.var tI],[aU,.rowv Â]⟩ [(.exit 0,⟨33,.any::.box 0 0::.any::.own 1::aN 5 [.con ac,.con tI],[aU,.rowv Â]⟩,[aa])]
def wT (ρ:Type):į ρ:=⟨[],117,0,H7,fun(p:Val (.pair ac aL)) (v:Val aG) a b=>let A:=p.2.2.2.2;oJ p.1 p.2.1 p.2.2.1 p.2.2.2.1 A.1 A.2.1 A.2.2.1 A.2.2.2.1 A.2.2.2.2 v.1 v.2 (fun c d=>a (c,d)) (b 0)⟩
def xM (ρ:Type):Env ρ:=ê [(190,KB)] [wR ρ,wT ρ]
def kU:Č:=⟨[aq,tI,tI],[tI],fun(x:Val (.pair aq Â))=>gC x.1 x.2.1 x.2.2⟩
def Dy (ρ:Type):Env ρ:=ê [] []
def P7:Č:=⟨[tI,tI,(.ptr aq)],[tI],fun(x:Val (.pair tI (.pair tI (.ptr aq))))=>ħ x.1 x.2.1 x.2.2⟩
def La (ρ:Type):Env ρ:=ê [(185,yJ),(186,kU)] []
def KC:Č:=⟨[Å,aq,tI],[tI],fun(x:Val aT)=>Ť x.1 x.2.1 x.2.2⟩
def Aq:Æ:=Ls 2 [ae,tI,tI,tI,ac,aa,ae,ab,aa,tI,tI,tI,tI] [tI] ⟨19,.con ae::.fn 235 [(1,0)]::aN 5 [.con tI,.var tI],[aU,aW]⟩ [(.ret,⟨19,[.con ae,.fn 235 [(1,0)],.any,.any,.var tI,.any,.any,.con tI],[aU,aW]⟩,[tI]),(.exit 0,⟨19,.con ae::.fn 235 [(1,0)]::aN 5 [.con tI],[aU,aW]⟩,[])]
def oL (ρ:Type):į ρ:=⟨[9,5,1,2],246,0,Aq,fun(p:Val (.pair ae aF)) (v:Int) b a=>let A:=p.2.2.2.2.2.2.2.2.2;iX p.1 p.2.1 A.1 A.2.1 A.2.2.1 v (fun c=>b c) (a 0) (a 1)⟩
def Ap:Æ:=Ls 2 [aa,tI,tI,tI,ac,aa,ae,ab,aa,tI,tI,tI,tI] [tI] ⟨19,.con aa::.fn 236 [(1,0)]::aN 5 [.con tI,.var tI],[aU,aW]⟩ [(.ret,⟨19,[.con aa,.fn 236 [(1,0)],.any,.any,.var tI,.any,.any,.con tI],[aU,aW]⟩,[tI]),(.exit 0,⟨19,.con aa::.fn 236 [(1,0)]::aN 5 [.con tI],[aU,aW]⟩,[])]
def oK (ρ:Type):į ρ:=⟨[9,10,1,2],244,0,Ap,fun(p:Val (.pair aa aF)) (v:Int) b a=>let A:=p.2.2.2.2.2.2.2.2.2;Š p.1 p.2.1 A.1 A.2.1 A.2.2.1 v (fun c=>b c) (a 0) (a 1)⟩
def jQ (ρ:Type):Env ρ:=ê [(113,pL),(186,kU),(234,jn)] [oL ρ,oK ρ]
def Ja:Č:=⟨[af],[.bool],fun(x:ag)=>qC x⟩
def FT:Æ:=Ls 0 [af,af,tI] [tI] ⟨32,.con af::aN 4 [.con af,.con tI,.var tI],[]⟩ [(.ret,⟨32,[.con af,.any,.var .bool,.any,.any,.con af,.con tI],[]⟩,[.bool]),(.exit 0,⟨32,.con af::aN 4 [.con af,.con tI],[]⟩,[])]
def ug (ρ:Type):į ρ:=⟨[],203,0,FT,fun(p:Val (.pair af aS)) (v:Int) b a=>mF p.1 p.2.1 p.2.2 v (fun c=>b c) (a 0) (a 1)⟩
def CT (ρ:Type):Env ρ:=ê [(234,jn)] [ug ρ]
def DU:Č:=⟨[af,af],[af],fun(x:Val aR)=>η x.1 x.2⟩
def Ld:Æ:=Ls 2 [tI,af,af] [tI] ⟨19,.own 1::.fn 251 [(0,0)]::aN 5 [.con tI,.var tI],[aX,.rowc tI]⟩ [(.ret,⟨19,[.own 1,.fn 251 [(0,0)],.any,.any,.var tI,.any,.any,.con tI],[aX,.rowc tI]⟩,[tI]),(.exit 0,⟨19,.own 1::.fn 251 [(0,0)]::aN 5 [.con tI],[aX,.rowc tI]⟩,[])]
def Ai (ρ:Type):į ρ:=⟨[1,3,1,2],142,0,Ld,fun(p:Val (.pair tI aR)) (v:Int) b a=>rG p.1 p.2.1 p.2.2 v (fun c=>b c) (a 0) (a 1)⟩
def Lc:Æ:=Ls 2 [af] [tI,tI,af] ⟨42,[.own 1,.fn 251 [(0,0)],.any,.any,.any,.var tI,.var tI],[aX,.rowv tI]⟩ [(.exit 0,⟨42,[.own 1,.fn 251 [(0,0)],.any,.any,.any,.var tI],[aX,.rowv tI]⟩,[tI,af])]
def Ah (ρ:Type):į ρ:=⟨[1,3],250,0,Lc,fun(p:ag) (v:Val (.pair tI ax)) a b=>jg p v.1 v.2.1 v.2.2 (fun c d e=>a (c,d,e)) (b 0)⟩
def BO (ρ:Type):Env ρ:=ê [(239,iB)] [Ai ρ,Ah ρ]
def RX:Č:=⟨[Å,tI,tI],[Ŏ,.bool],fun(x:py)=>vD x.1 x.2.1 x.2.2⟩
def As:Æ:=Ls 4 [ae,tI,tI,tI,ac,aa,ae,ab,aa,tI,tI,tI,tI,tI,tI] [tI] ⟨19,.con ae::.fn 284 [(1,0),(2,0)]::aN 5 [.con tI,.var tI],[aU,aY,aY,aW]⟩ [(.ret,⟨19,[.con ae,.fn 284 [(1,0),(2,0)],.any,.any,.var tI,.any,.any,.con tI],[aU,aY,aY,aW]⟩,[tI]),(.exit 0,⟨19,.con ae::.fn 284 [(1,0),(2,0)]::aN 5 [.con tI],[aU,aY,aY,aW]⟩,[])]
def Ar (ρ:Type):į ρ:=⟨[1,3],246,0,As,fun(p:Val (tyL As.cs)) (v:Int) b a=>rK p.1 p.2.1 p.2.2.2.2.2.2.2.2.2.1 p.2.2.2.2.2.2.2.2.2.2.1 v (fun c=>b c) (a 0) (a 1)⟩
def JC (ρ:Type):Env ρ:=ê [(234,jn)] [Ar ρ]
def De:Č:=⟨[Å,aq,tI],[tI],fun(x:Val aT)=>ĩ x.1 x.2.1 x.2.2⟩
def lM:Æ:=Ls 2 [ab,tI,tI,tI,ac,aa,ae,ab,aa,tI,tI,af,af,tI,tI,tI,tI] [tI] ⟨19,.con ab::.fn 237 [(1,0)]::aN 5 [.con tI,.var tI],[aU,aZ]⟩ [(.ret,⟨19,[.con ab,.fn 237 [(1,0)],.any,.any,.var tI,.any,.any,.con tI],[aU,aZ]⟩,[tI]),(.exit 0,⟨19,.con ab::.fn 237 [(1,0)]::aN 5 [.con tI],[aU,aZ]⟩,[])]
def lL (ρ:Type):į ρ:=⟨[4,5,1,2],191,0,lM,fun(p:Val (tyL lM.cs)) (v:Int) b a=>Ω p.1 p.2.1 p.2.2.2.2.2.2.2.2.2.1 v (fun c=>b c) (a 0) (a 1)⟩
def lI:Æ:=Ls 0 [aq,af,tI,tI,tI,af,tI,tI,tI,ac,aa,ae,ab,aa,tI,tI,af,af,tI,tI,tI,tI,af] [tI] ⟨140,.any::.con aq::.any::.box 0 0::aN 3 (.box 1 0::.con af::.any::.con tI::aN 65 [.own 2,.con tI,.con tI,.any,.any,.any,.con af,.con tI,.var tI]),bB⟩ [(.ret,⟨140,.any::.con aq::.any::.box 0 0::aN 2 (.var tI::.box 1 0::.con af::.any::.con tI::aN 65 [.own 2,.con tI,.con tI,.any,.any,.any,.con af,.con tI]),bB⟩,[tI]),(.exit 2,⟨140,.any::.con aq::.any::.box 0 0::aN 3 (.box 1 0::.con af::.any::.con tI::aN 65 [.own 2,.con tI,.con tI,.any,.any,.any,.con af,.con tI]),bB⟩,[])]
def lH (ρ:Type):į ρ:=⟨[],189,2,lI,fun(p:Val (tyL lI.cs)) (v:Int) b a=>let A:=p.2.2.2.2.2;Χ p.1 p.2.2.1 A.1 A.2.1 A.2.2.2.2.2.2.2.2.2.2.1 v (fun c=>b c) (a 0) (a 1)⟩
def lK:Æ:=Ls 0 [aq,af,tI,tI,tI,ac,aa,ae,ab,aa,tI,tI,af,af,tI,tI,tI,tI,af] [tI] ⟨140,.any::.con aq::.any::.box 0 0::aN 3 (.box 1 0::.con af::aN 67 [.own 2,.con tI,.var tI]),bB⟩ [(.ret,⟨140,.any::.con aq::.any::.box 0 0::aN 2 (.var tI::.box 1 0::.con af::aN 67 [.own 2,.con tI]),bB⟩,[tI]),(.exit 0,⟨140,.any::.con aq::.any::.box 0 0::aN 3 (.box 1 0::.con af::aN 67 [.own 2,.con tI]),bB⟩,[])]
def lJ (ρ:Type):į ρ:=⟨[],189,0,lK,fun(p:Val (tyL lK.cs)) (v:Int) b a=>Ķ p.1 p.2.1 p.2.2.1 p.2.2.2.2.2.2.2.2.2.2.2.1 p.2.2.2.2.2.2.2.2.2.2.2.2.2.2.2.2.2.2 v (fun c=>b c) (a 0) (a 1)⟩
def lG:Æ:=Ls 0 [af,tI,tI,tI,ac,aa,ae,ab,aa,tI,tI,af,af,tI,tI,tI,tI] [tI] ⟨140,aN 3 (.box 0 0::aN 3 (.box 1 0::aN 90 [.con af,.con tI,.var tI])),[aU,aZ]⟩ [(.ret,⟨140,aN 3 (.box 0 0::aN 2 (.var tI::.box 1 0::aN 90 [.con af,.con tI])),[aU,aZ]⟩,[tI]),(.exit 4,⟨140,aN 3 (.box 0 0::aN 3 (.box 1 0::aN 90 [.con af,.con tI])),[aU,aZ]⟩,[])]
def lF (ρ:Type):į ρ:=⟨[],189,4,lG,fun(p:Val (tyL lG.cs)) (v:Int) b a=>let A:=p.2.2.2.2;ĵ p.1 p.2.1 p.2.2.1 p.2.2.2.1 A.1 A.2.1 A.2.2.1 A.2.2.2.1 A.2.2.2.2.1 A.2.2.2.2.2.2.1 v (fun c=>b c) (a 0) (a 1)⟩
def ł (ρ:Type):Env ρ:=ê [(68,jH),(113,pL),(185,yJ),(186,kU),(203,Ja),(204,DU),(234,jn),(238,RX)] [lL ρ,lH ρ,lJ ρ,lF ρ]
def iI:Č:=⟨[Å],[tI],fun(x:bl)=>Ā x⟩
def I7:Č:=⟨[Ü],[.bool],fun(x:js)=>vy x⟩
def NF (ρ:Type):Env ρ:=ê [] []
def RN:Č:=⟨[Å],[.bool],fun(x:bl)=>Eb x⟩
def KQ:Æ:=Ls 0 [tI,tI,ac,aa,ae,ab,aa] [tI] ⟨50,[.any,.box 0 0,.any,.var tI],[aU]⟩ [(.ret,⟨50,[.any,.box 0 0,.var .bool],[aU]⟩,[.bool]),(.exit 0,⟨50,[.any,.box 0 0],[aU]⟩,[])]
def yU (ρ:Type):į ρ:=⟨[],5,0,KQ,fun(p:Val aj) (v:Int) b a=>qY p.2.2.2.2.2.1 v (fun c=>b c) (a 0) (a 1)⟩
def Jk (ρ:Type):Env ρ:=ê [(16,I7)] [yU ρ]
def EJ:Č:=⟨[],[.bool],fun(_:Unit)=>rS⟩
def RW:Č:=⟨[.str,af],[.str],fun(x:Val (.pair .str af))=>jV x.1 x.2⟩
def Lb:Æ:=Ls 0 [af,tI] [.str,tI] ⟨20,.var .str::aN 6 [.con af,.con tI,.var tI],[]⟩ [(.exit 0,⟨20,.var .str::aN 6 [.con af,.con tI],[]⟩,[.str])]
def Ag (ρ:Type):į ρ:=⟨[],77,0,Lb,fun(p:Val aS) (v:rx) a b=>rE p.1 p.2 v.1 v.2 (fun c d=>a (c,d)) (b 0)⟩
def Jy (ρ:Type):Env ρ:=ê [(26,kT)] [Ag ρ]
def ER:Č:=⟨[Å],[.str,tI],fun(x:bl)=>jW x⟩
def Iq:Æ:=Ls 0 [ac,tI,tI,tI,ac,aa,ae,ab,aa] [tI,am] ⟨158,.any::.box 0 0::aN 3 (.own 1::aN 25 [.con ac,.con tI,.var tI]),bC⟩ [(.exit 0,⟨158,.any::.box 0 0::aN 3 (.own 1::aN 25 [.con ac,.con tI]),bC⟩,[am])]
def wY (ρ:Type):į ρ:=⟨[],24,0,Iq,fun(p:Val (.pair ac aL)) (v:v8) a b=>oQ p.1 p.2.1 v.1 v.2 (fun c d=>a (c,d)) (b 0)⟩
def Ip:Æ:=Ls 0 [aa,tI,tI,tI,ac,aa,ae,ab,aa] [tI,am] ⟨158,.any::.box 0 0::aN 3 (.own 1::aN 58 [.con aa,.con tI,.var tI]),bC⟩ [(.exit 2,⟨158,.any::.box 0 0::aN 3 (.own 1::aN 58 [.con aa,.con tI]),bC⟩,[am])]
def wX (ρ:Type):į ρ:=⟨[],24,2,Ip,fun(p:Val (.pair aa aL)) (v:v8) a b=>oP p.1 p.2.1 v.1 v.2 (fun c d=>a (c,d)) (b 0)⟩
def Io:Æ:=Ls 0 [ae,tI,tI,tI,ac,aa,ae,ab,aa] [tI,am] ⟨158,.any::.box 0 0::aN 3 (.own 1::aN 75 [.con ae,.con tI,.var tI]),bC⟩ [(.exit 4,⟨158,.any::.box 0 0::aN 3 (.own 1::aN 75 [.con ae,.con tI]),bC⟩,[am])]
def wW (ρ:Type):į ρ:=⟨[],24,4,Io,fun(p:Val (.pair ae aL)) (v:v8) a b=>oO p.1 p.2.1 v.1 v.2 (fun c d=>a (c,d)) (b 0)⟩
def Im:Æ:=Ls 0 [ab,tI,tI,tI,ac,aa,ae,ab,aa] [tI,am] ⟨158,.any::.box 0 0::aN 3 (.own 1::aN 98 [.con ab,.con tI,.var tI]),bC⟩ [(.exit 6,⟨158,.any::.box 0 0::aN 3 (.own 1::aN 98 [.con ab,.con tI]),bC⟩,[am])]
def wV (ρ:Type):į ρ:=⟨[],24,6,Im,fun(p:Val (.pair ab aL)) (v:v8) a b=>oN p.1 p.2.1 v.1 v.2 (fun c d=>a (c,d)) (b 0)⟩
def Il:Æ:=Ls 0 [aa,tI] [tI,am] ⟨158,aN 5 (.own 0::aN 133 [.con aa,.con tI,.var tI]),[.rowv .str]⟩ [(.exit 8,⟨158,aN 5 (.own 0::aN 133 [.con aa,.con tI]),[.rowv .str]⟩,[am])]
def wU (ρ:Type):į ρ:=⟨[],24,8,Il,fun(p:Val (.pair aa tI)) (v:v8) a b=>oM p.1 p.2 v.1 v.2 (fun c d=>a (c,d)) (b 0)⟩
def jh (ρ:Type):Env ρ:=ê [(55,iI),(77,RW),(78,wc)] [wY ρ,wX ρ,wW ρ,wV ρ,wU ρ]
def RP:Č:=⟨[.str,af],[.str],fun(x:Val (.pair .str af))=>oX x.1 x.2⟩
def KT:Æ:=Ls 0 [af,tI] [.str,tI] ⟨20,.var .str::aN 6 [.con af,.con tI,.var tI],[]⟩ [(.exit 0,⟨20,.var .str::aN 6 [.con af,.con tI],[]⟩,[.str])]
def zB (ρ:Type):į ρ:=⟨[],25,0,KT,fun(p:Val aS) (v:rx) a b=>Fm p.1 p.2 v.1 v.2 (fun c d=>a (c,d)) (b 0)⟩
def Jm (ρ:Type):Env ρ:=ê [(26,kT)] [zB ρ]
def EM:Č:=⟨[Ĺ],[.str,tI],fun(x:pc)=>uB x⟩
def Fq (ρ:Type):Env ρ:=ê [(24,ER),(25,RP),(26,kT)] []
def ů:Č:=⟨[.str,.str],[.bool],fun(x:Val (.pair .str .str))=>ī x.1 x.2⟩
def jA (ρ:Type):Env ρ:=ê [] []
def ny:Č:=⟨[.str,.str],[.bool],fun(x:Val (.pair .str .str))=>ŕ x.1 x.2⟩
def tP (ρ:Type):Env ρ:=ê [(93,ů)] []
def xx:Č:=⟨[am],[af],fun(x:ey)=>ņ x⟩
def Dz:Æ:=Ls 0 [am,tI] [tI,af] ⟨27,aN 3 (.own 0::aN 4 [.con am,.con tI,.var tI]),bz⟩ [(.exit 0,⟨27,aN 3 (.own 0::aN 4 [.con am,.con tI]),bz⟩,[af])]
def sJ (ρ:Type):į ρ:=⟨[],160,0,Dz,fun(p:Val (.pair am tI)) (v:io) a b=>kZ p.1 p.2 v.1 v.2 (fun c d=>a (c,d)) (b 0)⟩
def H6:y5 (Nat×Vj):=[(98,.atoi)]
def mE (ρ:Type):Env ρ:=WV [] [sJ ρ] H6
def Nl:Č:=⟨[am],[af,af],fun(x:ey)=>AW x⟩
def wQ:Æ:=Ls 0 [am,am,tI] [tI] ⟨34,.con am::aN 14 [.con am,.con tI,.var tI],[]⟩ [(.ret,⟨34,.con am::.any::.var af::.var af::aN 11 [.con am,.con tI],[]⟩,[af,af]),(.exit 0,⟨34,.con am::aN 14 [.con am,.con tI],[]⟩,[])]
def wP (ρ:Type):į ρ:=⟨[],166,0,wQ,fun(p:Val (tyL wQ.cs)) (v:Int) b a=>lE p.1 p.2.1 p.2.2 v (fun c=>b c) (a 0) (a 1)⟩
def FO (ρ:Type):Env ρ:=ê [(160,xx)] [wP ρ]
def No:Č:=⟨[.str],[Å,tI],fun(x:Val .str)=>uF x⟩
def gy:Tpl:=⟨51,[.con .str,.any,.box 0 0,.box 1 0,.box 2 0,.box 3 0],[.cells [.var tI,.var tI,.var ac,.var aa,.var ae,.var ab,.var aa],.cells [.var tI],.cells [.var tI,.var tI,.own 18,.own 19,.own 20,.own 21,.own 22],.cells [.ofn 5],.cells [.box 2 0],.fns [((ByteArray.mk #[102,105,108,109]),159,[(6,0),(7,0)]),((ByteArray.mk #[103,97,117,103,101]),159,[(8,0),(9,0)]),((ByteArray.mk #[117,115,101]),159,[(10,0),(11,0)]),((ByteArray.mk #[108,111,97,110]),159,[(12,0),(13,0)]),((ByteArray.mk #[99,111,109,112,97,114,101]),159,[(14,0),(15,0)]),((ByteArray.mk #[108,111,111,107]),159,[(16,0),(17,0)])],.cells [.con tI],.cells [.fn 161 [(4,0)]],.cells [.con tI],.cells [.fn 162 [(4,0)]],.cells [.con tI],.cells [.fn 163 [(4,0)]],.cells [.con tI],.cells [.fn 164 [(4,0)]],.cells [.con tI],.cells [.fn 165 [(4,0)]],.cells [.con tI],.cells [.fn 167 [(4,0)]],.rowv Ê,.rowv Â,.rowv Ŏ,.rowv Ü,.rowv Â]⟩
def wZ:Tpl:=⟨51,[.con .str,.any,.box 0 0,.box 1 0,.box 2 0,.box 3 0],[.cells [.var tI,.var tI,.var ac,.var aa,.var ae,.var ab,.var aa],.cells [.var tI],.cells [.any,.any,.any,.any,.any,.any,.any],.cells [.ofn 5],.cells [.box 2 0],.fns [((ByteArray.mk #[102,105,108,109]),159,[(6,0),(7,0)]),((ByteArray.mk #[103,97,117,103,101]),159,[(8,0),(9,0)]),((ByteArray.mk #[117,115,101]),159,[(10,0),(11,0)]),((ByteArray.mk #[108,111,97,110]),159,[(12,0),(13,0)]),((ByteArray.mk #[99,111,109,112,97,114,101]),159,[(14,0),(15,0)]),((ByteArray.mk #[108,111,111,107]),159,[(16,0),(17,0)])],.cells [.con tI],.cells [.fn 161 [(4,0)]],.cells [.con tI],.cells [.fn 162 [(4,0)]],.cells [.con tI],.cells [.fn 163 [(4,0)]],.cells [.con tI],.cells [.fn 164 [(4,0)]],.cells [.con tI],.cells [.fn 165 [(4,0)]],.cells [.con tI],.cells [.fn 167 [(4,0)]]]⟩
def po:Ke:=⟨[],40,0,18,[.str,tI,tI,tI,tI,tI,tI],[tI,tI,ac,aa,ae,ab,aa,tI,tI,tI,ac,aa,ae,ab,aa],[tI,tI,ac,aa,ae,ab,aa,tI],gy,wZ,168,w8,fun(p:so) (v:th) y=>Œ p.2.1 p.2.2.1 p.2.2.2.1 p.2.2.2.2.1 p.2.2.2.2.2.1 p.2.2.2.2.2.2 v y⟩
def CU:y5 Ke:=[po]
def δ (ρ:Type):Env ρ:={ê [(24,ER),(41,tF),(42,iA),(160,xx),(166,Nl)] [] with ranges:=D7 CU}
def EL:Č:=⟨[am],[af],fun(x:ey)=>rW x⟩
def Dj:Æ:=Ls 0 [am,tI] [tI,af] ⟨27,aN 3 (.own 0::aN 4 [.con am,.con tI,.var tI]),bz⟩ [(.exit 0,⟨27,aN 3 (.own 0::aN 4 [.con am,.con tI]),bz⟩,[af])]
def sr (ρ:Type):į ρ:=⟨[],43,0,Dj,fun(p:Val (.pair am tI)) (v:io) a b=>ww p.1 p.2 v.1 v.2 (fun c d=>a (c,d)) (b 0)⟩
def HS:y5 (Nat×Vj):=[(98,.atoi)]
def mC (ρ:Type):Env ρ:=WV [] [sr ρ] HS
def Nf:Č:=⟨[.str],[Ĺ,tI],fun(x:Val .str)=>AM x⟩
def wy:Æ:=Ls 0 [.str,tI,tI,tI,tI,.bool,tI] [tI,tI,tI,aE] ⟨110,.con .str::.any::.box 0 0::.any::.box 1 0::aN 12 [.oit 2],[ba,.cells [.var tI,.var tI,.var tI],.itr]⟩ [(.exit 0,⟨110,.con .str::.any::.box 0 0::.any::.box 1 0::aN 12 [.oit 2],[ba,.cells [.var tI,.var tI,.var tI],.itr]⟩,[tI,tI,tI,aE])]
def wx (ρ:Type):į ρ:=⟨[],10,0,wy,fun(p:Val (tyL wy.cs)) (v:Val (.pair tI (.pair tI (.pair tI aE)))) a b=>jr v.1 v.2.1 v.2.2.1 v.2.2.2 (fun c d e f=>a (c,d,e,f)) (b 0)⟩
def NR:y5 (Nat×Vj):=[(41,.split)]
def rk (ρ:Type):Env ρ:=WV [(7,EM),(39,ny),(40,No),(42,iA),(43,EL)] [wx ρ] NR
def yC:Č:=⟨[af,af],[.bool],fun(x:Val aR)=>ip x.1 x.2⟩
def yY:Æ:=Ls 0 [af,af] [tI] ⟨26,[.con af,.con af,.any,.any,.any,.var tI],[]⟩ [(.ret,⟨26,[.con af,.con af,.any,.any,.var .bool],[]⟩,[.bool]),(.exit 0,⟨26,[.con af,.con af],[]⟩,[])]
def ow (ρ:Type):į ρ:=⟨[],176,0,yY,fun(p:Val aR) (v:Int) b a=>iV p.1 p.2 v (fun c=>b c) (a 0) (a 1)⟩
def tQ (ρ:Type):Env ρ:=ê [] [ow ρ]
def sj:Č:=⟨[Ü,Ü],[.bool],fun(x:Val (.pair Ü Ü))=>iZ x.1 x.2⟩
def y0 (ρ:Type):Env ρ:=ê [(176,yC)] []
def wd:Č:=⟨[aa,aa],[.bool],fun(x:Val (.pair aa aa))=>iQ x.1 x.2⟩
def xC:Æ:=Ls 0 [aa,aa] [tI] ⟨26,[.con aa,.con aa,.any,.any,.any,.var tI],[]⟩ [(.ret,⟨26,[.con aa,.con aa,.any,.any,.var .bool],[]⟩,[.bool]),(.exit 0,⟨26,[.con aa,.con aa],[]⟩,[])]
def nF (ρ:Type):į ρ:=⟨[],100,0,xC,fun(p:Val (.pair aa aa)) (v:Int) b a=>ij p.1 p.2 v (fun c=>b c) (a 0) (a 1)⟩
def sm (ρ:Type):Env ρ:=ê [] [nF ρ]
def Nc:Č:=⟨[Å,Å],[.bool],fun(x:Val (.pair Å Å))=>AJ x.1 x.2⟩
def HG:Æ:=Ls 0 [tI,tI,ac,aa,ae,ab,aa,tI,tI,ac,aa,ae,ab,aa] [tI] ⟨130,[.any,.any,.box 0 0,.box 1 0,.any,.var tI],bD⟩ [(.ret,⟨130,[.any,.any,.box 0 0,.box 1 0,.var .bool],bD⟩,[.bool]),(.exit 0,⟨130,[.any,.any,.box 0 0,.box 1 0],bD⟩,[])]
def wo (ρ:Type):į ρ:=⟨[],44,0,HG,fun(p:Val ay) (v:Int) b a=>ov p.2.2.1 p.2.2.2.2.2.2.2.2.2.1 v (fun c=>b c) (a 0) (a 1)⟩
def HF:Æ:=Ls 0 [tI,tI,ac,aa,ae,ab,aa,tI,tI,ac,aa,ae,ab,aa] [tI] ⟨130,[.any,.any,.box 0 0,.box 1 0,.any,.any,.var tI],bD⟩ [(.ret,⟨130,[.any,.any,.box 0 0,.box 1 0,.var .bool],bD⟩,[.bool]),(.exit 2,⟨130,[.any,.any,.box 0 0,.box 1 0],bD⟩,[])]
def wn (ρ:Type):į ρ:=⟨[],44,2,HF,fun(p:Val ay) (v:Int) b a=>ou p.2.2.2.1 p.2.2.2.2.2.2.2.2.2.2.1 v (fun c=>b c) (a 0) (a 1)⟩
def HE:Æ:=Ls 0 [tI,tI,ac,aa,ae,ab,aa,tI,tI,ac,aa,ae,ab,aa] [tI] ⟨130,[.any,.any,.box 0 0,.box 1 0,.any,.any,.any,.var tI],bD⟩ [(.ret,⟨130,[.any,.any,.box 0 0,.box 1 0,.var .bool],bD⟩,[.bool]),(.exit 4,⟨130,[.any,.any,.box 0 0,.box 1 0],bD⟩,[])]
def wm (ρ:Type):į ρ:=⟨[],44,4,HE,fun(p:Val ay) (v:Int) b a=>ot p.2.2.2.2.1 p.2.2.2.2.2.2.2.2.2.2.2.1 v (fun c=>b c) (a 0) (a 1)⟩
def HD:Æ:=Ls 0 [tI,tI,ac,aa,ae,ab,aa,tI,tI,ac,aa,ae,ab,aa] [tI] ⟨130,aN 2 (.box 0 0::.box 1 0::aN 4 [.var tI]),bD⟩ [(.ret,⟨130,[.any,.any,.box 0 0,.box 1 0,.var .bool],bD⟩,[.bool]),(.exit 6,⟨130,[.any,.any,.box 0 0,.box 1 0],bD⟩,[])]
def wj (ρ:Type):į ρ:=⟨[],44,6,HD,fun(p:Val ay) (v:Int) b a=>oq p.2.2.2.2.2.1 p.2.2.2.2.2.2.2.2.2.2.2.2.1 v (fun c=>b c) (a 0) (a 1)⟩
def nE (ρ:Type):Env ρ:=ê [(99,sj),(100,wd)] [wo ρ,wn ρ,wm ρ,wj ρ]
def yD:Č:=⟨[af,af],[.bool],fun(x:Val aR)=>mK x.1 x.2⟩
def za:Æ:=Ls 0 [af,af] [tI] ⟨26,[.con af,.con af,.any,.any,.any,.var tI],[]⟩ [(.ret,⟨26,[.con af,.con af,.any,.any,.var .bool],[]⟩,[.bool]),(.exit 0,⟨26,[.con af,.con af],[]⟩,[])]
def ox (ρ:Type):į ρ:=⟨[],45,0,za,fun(p:Val aR) (v:Int) b a=>iW p.1 p.2 v (fun c=>b c) (a 0) (a 1)⟩
def tR (ρ:Type):Env ρ:=ê [] [ox ρ]
def yB:Č:=⟨[Ĺ,Ĺ],[.bool],fun(x:Val (.pair Ĺ Ĺ))=>mJ x.1 x.2⟩
def E8 (ρ:Type):Env ρ:=ê [(44,Nc),(45,yD)] []
def Ő:Č:=⟨[aa,Â],[tI],fun(x:Val (.pair aa Â))=>î x.1 x.2⟩
def kg:Æ:=Ls 0 [aa,tI,tI,tI] [tI] ⟨19,[.con aa,.any,.any,.box 0 0,.any,.any,.any,.con tI,.var tI],[bc]⟩ [(.ret,⟨19,[.con aa,.any,.any,.box 0 0,.var tI,.any,.any,.con tI],[bc]⟩,[tI]),(.exit 0,⟨19,[.con aa,.any,.any,.box 0 0,.any,.any,.any,.con tI],[bc]⟩,[])]
def Ű (ρ:Type):į ρ:=⟨[],128,0,kg,fun(p:Val (.pair aa yh)) (v:Int) b a=>Ė p.1 p.2.1 p.2.2.1 p.2.2.2 v (fun c=>b c) (a 0) (a 1)⟩
def υ (ρ:Type):Env ρ:=ê [] [Ű ρ]
def tM:Č:=⟨[Å,Â],[tI,tI],fun(x:py)=>gZ x.1 x.2⟩
def Qw (ρ:Type):Env ρ:=ê [(55,iI),(117,yI),(128,Ő)] []
def qS:Č:=⟨[aB,Â],[tI],fun(x:nn)=>kQ x.1 x.2⟩
def KR (ρ:Type):Env ρ:=ê [(58,tM)] []
def DT:Č:=⟨[Ð,tI],[.bool],fun(x:Val (.pair Ð tI))=>oZ x.1 x.2⟩
def Ur (ρ:Type):Env ρ:=ê [] []
def tJ:Č:=⟨[Ð],[tI,tI],fun(x:fw)=>nW x⟩
def H4:Æ:=Ls 0 [ai,tI,tI,ai] [tI] ⟨57,.any::.box 0 0::aN 17 [.con ai,.con tI,.var tI],[bf]⟩ [(.ret,⟨57,.any::.box 0 0::.var tI::.var tI::aN 15 [.con ai,.con tI],[bf]⟩,[tI,tI]),(.exit 0,⟨57,.any::.box 0 0::aN 17 [.con ai,.con tI],[bf]⟩,[])]
def wD (ρ:Type):į ρ:=⟨[],130,0,H4,fun(p:Val (.pair ai aJ)) (v:Int) b a=>oE p.1 p.2.1 p.2.2.1 p.2.2.2 v (fun c=>b c) (a 0) (a 1)⟩
def FC (ρ:Type):Env ρ:=ê [(131,DT)] [wD ρ]
def tG:Č:=⟨[Ð,ak],[af,.bool],fun(x:Val (.pair Ð ak))=>lR x.1 x.2⟩
def qq:Æ:=Ls 2 [ak,ai,tI,tI,ai,af,tI,ai,au,af] [tI,tI] ⟨140,.any::.con ak::.own 1::.box 2 0::aN 3 (.box 3 0::.own 4::.own 5::.var tI::aN 14 [.con ai,.con tI,.var tI]),[bf,.rowc tI,bf,.cells [.nils],.rowc .bool,.rowc tI]⟩ [(.exit 0,⟨140,.any::.con ak::.own 1::.box 2 0::aN 3 (.box 3 0::.own 4::.own 5::.var tI::aN 14 [.con ai,.con tI]),[bf,.rowc tI,bf,.cells [.nils],.rowc .bool,.rowc tI]⟩,[tI])]
def qp (ρ:Type):į ρ:=⟨[2,3],210,0,qq,fun(p:Val (tyL qq.cs)) (v:an) a b=>Γ p.2.1 p.2.2.1 v.1 v.2 (fun c d=>a (c,d)) (b 0)⟩
def qo:Æ:=Ls 2 [ak,tI,tI,tI,ai,af,tI,ai,af] [tI,au,af] ⟨140,.any::.con ak::.own 1::.box 2 0::aN 3 (.box 3 0::.own 4::.own 5::.con tI::aN 27 [.con tI,.var tI]),bE⟩ [(.exit 2,⟨140,.any::.con ak::.own 1::.box 2 0::aN 3 (.box 3 0::.own 4::.own 5::.con tI::aN 27 [.con tI]),bE⟩,[au,af])]
def qn (ρ:Type):į ρ:=⟨[2,3],210,2,qo,fun(p:Val (tyL qo.cs)) (v:r8) a b=>Ļ p.2.2.1 p.2.2.2.2.2.1 v.1 v.2.1 v.2.2 (fun c d e=>a (c,d,e)) (b 0)⟩
def qk:Æ:=Ls 2 [ak,tI,tI,ai,tI,tI,ai,tI,ai,af] [tI,af,au,af] ⟨140,.any::.con ak::.own 1::.box 2 0::aN 3 (.box 3 0::.own 4::.own 5::.con tI::aN 3 (.con tI::aN 62 [.con ai,.con tI,.var tI])),bG⟩ [(.ret,⟨140,.any::.con ak::.own 1::.box 2 0::aN 2 (.var .bool::.box 3 0::.own 4::.own 5::.con tI::aN 3 (.con tI::aN 62 [.con ai,.con tI])),bG⟩,[.bool,af,au,af]),(.exit 6,⟨140,.any::.con ak::.own 1::.box 2 0::aN 3 (.box 3 0::.own 4::.own 5::.con tI::aN 3 (.con tI::aN 62 [.con ai,.con tI])),bG⟩,[af,au,af])]
def qj (ρ:Type):į ρ:=⟨[2,3],210,6,qk,fun(p:Val (tyL qk.cs)) (v:lg) b a=>gV p.1 p.2.1 p.2.2.1 p.2.2.2.1 p.2.2.2.2.1 v.1 v.2.1 v.2.2.1 v.2.2.2 (fun c d e f=>b (c,d,e,f)) (a 0) (a 1)⟩
def qm:Æ:=Ls 2 [ak,tI,tI,ai,tI,ai] [af,au,af,af] ⟨140,[.any,.con ak,.own 1,.box 2 0,.any,.any,.any,.box 3 0,.own 4,.own 5,.con tI],bH⟩ [(.ret,⟨140,[.any,.con ak,.own 1,.box 2 0,.any,.any,.var .bool,.box 3 0,.own 4,.own 5,.con tI],bH⟩,[.bool,af,au,af,af])]
def ql (ρ:Type):į ρ:=⟨[2,3],210,4,qm,fun(p:Val (tyL qm.cs)) (v:Val aI) a b=>Ę p.1 p.2.1 p.2.2.2.2.1 p.2.2.2.2.2 v.1 v.2.1 v.2.2.1 v.2.2.2 (fun c d e f=>a (c,d,e,f)) (b 0)⟩
def BH:Æ:=Ls 0 [tI,tI] [tI,af] ⟨34,aN 6 (.own 0::.con tI::aN 13 [.con tI,.var tI]),bz⟩ [(.exit 0,⟨34,aN 6 (.own 0::.con tI::aN 13 [.con tI]),bz⟩,[af])]
def qi (ρ:Type):į ρ:=⟨[],143,0,BH,fun(p:an) (v:io) a b=>gU p.1 p.2 v.1 v.2 (fun c d=>a (c,d)) (b 0)⟩
def ŧ (ρ:Type):Env ρ:=ê [] [qp ρ,qn ρ,qj ρ,ql ρ,qi ρ]
def Nh:Č:=⟨[Ð,af],[tI],fun(x:Val (.pair Ð af))=>AQ x.1 x.2⟩
def HZ:Æ:=Ls 0 [af,tI,tI,ai] [tI] ⟨37,aN 2 (.box 0 0::aN 16 [.con af,.con tI,.var tI]),[bf]⟩ [(.ret,⟨37,aN 2 (.box 0 0::.any::.var tI::aN 14 [.con af,.con tI]),[bf]⟩,[tI]),(.exit 0,⟨37,aN 2 (.box 0 0::aN 16 [.con af,.con tI]),[bf]⟩,[])]
def wB (ρ:Type):į ρ:=⟨[],179,0,HZ,fun(p:Val (.pair af aJ)) (v:Int) b a=>oD p.1 p.2.1 p.2.2.1 p.2.2.2 v (fun c=>b c) (a 0) (a 1)⟩
def FA (ρ:Type):Env ρ:=ê [(130,tJ),(131,DT),(143,tG)] [wB ρ]
def I9:Č:=⟨[Ð,ak,tI],[af],fun(x:Val (.pair Ð (.pair ak tI)))=>vA x.1 x.2.1 x.2.2⟩
def ue:Æ:=Ls 0 [ak,tI,tI,tI,ai] [tI,af] ⟨29,.any::.con ak::.con tI::.box 0 0::aN 3 (.own 1::aN 5 [.con tI,.var tI]),[bf,.rowv tI]⟩ [(.exit 0,⟨29,.any::.con ak::.con tI::.box 0 0::aN 3 (.own 1::aN 5 [.con tI]),[bf,.rowv tI]⟩,[af])]
def ud (ρ:Type):į ρ:=⟨[],180,0,ue,fun(p:Val (tyL ue.cs)) (v:io) a b=>mD p.2.2.1 v.1 v.2 (fun c d=>a (c,d)) (b 0)⟩
def t8:Æ:=Ls 2 [ak,ai,tI,tI,ai,af,tI,ai,au,af] [tI,tI] ⟨140,.any::.con ak::.own 1::.box 2 0::aN 3 (.box 3 0::.own 4::.own 5::.var tI::aN 14 [.con ai,.con tI,.var tI]),[bf,.rowc tI,bf,.cells [.nils],.rowc .bool,.rowc tI]⟩ [(.exit 0,⟨140,.any::.con ak::.own 1::.box 2 0::aN 3 (.box 3 0::.own 4::.own 5::.var tI::aN 14 [.con ai,.con tI]),[bf,.rowc tI,bf,.cells [.nils],.rowc .bool,.rowc tI]⟩,[tI])]
def t7 (ρ:Type):į ρ:=⟨[8,3],210,0,t8,fun(p:Val (tyL t8.cs)) (v:an) a b=>rr p.2.1 p.2.2.1 v.1 v.2 (fun c d=>a (c,d)) (b 0)⟩
def tZ:Æ:=Ls 2 [ak,tI,tI,tI,ai,af,tI,ai,af] [tI,au,af] ⟨140,.any::.con ak::.own 1::.box 2 0::aN 3 (.box 3 0::.own 4::.own 5::.con tI::aN 27 [.con tI,.var tI]),bE⟩ [(.exit 2,⟨140,.any::.con ak::.own 1::.box 2 0::aN 3 (.box 3 0::.own 4::.own 5::.con tI::aN 27 [.con tI]),bE⟩,[au,af])]
def tY (ρ:Type):į ρ:=⟨[8,3],210,2,tZ,fun(p:Val (tyL tZ.cs)) (v:r8) a b=>rq p.2.2.1 p.2.2.2.2.2.1 v.1 v.2.1 v.2.2 (fun c d e=>a (c,d,e)) (b 0)⟩
def tV:Æ:=Ls 2 [ak,tI,tI,ai,tI,tI,ai,tI,ai,af] [tI,af,au,af] ⟨140,.any::.con ak::.own 1::.box 2 0::aN 3 (.box 3 0::.own 4::.own 5::.con tI::aN 3 (.con tI::aN 62 [.con ai,.con tI,.var tI])),bG⟩ [(.ret,⟨140,.any::.con ak::.own 1::.box 2 0::aN 2 (.var .bool::.box 3 0::.own 4::.own 5::.con tI::aN 3 (.con tI::aN 62 [.con ai,.con tI])),bG⟩,[.bool,af,au,af]),(.exit 6,⟨140,.any::.con ak::.own 1::.box 2 0::aN 3 (.box 3 0::.own 4::.own 5::.con tI::aN 3 (.con tI::aN 62 [.con ai,.con tI])),bG⟩,[af,au,af])]
def tU (ρ:Type):į ρ:=⟨[8,3],210,6,tV,fun(p:Val (tyL tV.cs)) (v:lg) b a=>zR p.1 p.2.1 p.2.2.1 p.2.2.2.1 p.2.2.2.2.1 v.1 v.2.1 v.2.2.1 v.2.2.2 (fun c d e f=>b (c,d,e,f)) (a 0) (a 1)⟩
def tX:Æ:=Ls 2 [ak,tI,tI,ai,tI,ai] [af,au,af,af] ⟨140,[.any,.con ak,.own 1,.box 2 0,.any,.any,.any,.box 3 0,.own 4,.own 5,.con tI],bH⟩ [(.ret,⟨140,[.any,.con ak,.own 1,.box 2 0,.any,.any,.var .bool,.box 3 0,.own 4,.own 5,.con tI],bH⟩,[.bool,af,au,af,af])]
def tW (ρ:Type):į ρ:=⟨[8,3],210,4,tX,fun(p:Val (tyL tX.cs)) (v:Val aI) a b=>ro p.1 p.2.1 p.2.2.2.2.1 p.2.2.2.2.2 v.1 v.2.1 v.2.2.1 v.2.2.2 (fun c d e f=>a (c,d,e,f)) (b 0)⟩
def gW (ρ:Type):Env ρ:=ê [] [ud ρ,t7 ρ,tY ρ,tU ρ,tW ρ]
def EO:Č:=⟨[Ð,tI,tI],[tI,tI],fun(x:Val (.pair Ð Â))=>uD x.1 x.2.1 x.2.2⟩
def Qq (ρ:Type):Env ρ:=ê [(179,Nh),(180,I9)] []
def pf:Č:=⟨[aB,tI,tI],[tI],fun(x:nn)=>gB x.1 x.2.1 x.2.2⟩
def Di (ρ:Type):Env ρ:=ê [(103,EO)] []
def pd:Č:=⟨[aB,Â],[tI],fun(x:nn)=>Ū x.1 x.2⟩
def Dh (ρ:Type):Env ρ:=ê [(49,qS),(61,pf)] []
def kv:Č:=⟨[aB,Â],[tI],fun(x:nn)=>Ε x.1 x.2⟩
def xF (ρ:Type):Env ρ:=ê [(49,qS),(61,pf)] []
def pJ:Č:=⟨[aB,Â],[Â],fun(x:nn)=>iq x.1 x.2⟩
def je (ρ:Type):Env ρ:={ê [(53,pd),(54,kv)] [] with hint:=xS [(12,53),(16,54)]}
def CA:Č:=⟨[(.ptr xn),af,tI],[tI],fun(x:Val (.pair (.ptr xn) aS))=>jw x.1 x.2.1 x.2.2⟩
def H8 (ρ:Type):Env ρ:=ê [(128,Ő)] []
def sk:Č:=⟨[aq,af],[Â],fun(x:Val (.pair aq af))=>ω x.1 x.2⟩
def zT (ρ:Type):Env ρ:=ê [] []
def pK:Č:=⟨[aa],[tI],fun(x:bx)=>iS x⟩
def H5:Æ:=Ls 0 [aa,tI] [tI] ⟨15,aN 5 [.con aa,.con tI,.var tI],[]⟩ [(.ret,⟨15,[.any,.any,.var tI,.any,.any,.con aa,.con tI],[]⟩,[tI]),(.exit 0,⟨15,aN 5 [.con aa,.con tI],[]⟩,[])]
def wM (ρ:Type):į ρ:=⟨[],291,0,H5,fun(p:Val (.pair aa tI)) (v:Int) b a=>oH p.1 p.2 v (fun c=>b c) (a 0) (a 1)⟩
def FH (ρ:Type):Env ρ:=ê [(233,yF)] [wM ρ]
def xv:Č:=⟨[tI,tI],[Â,tI],fun(x:an)=>nX x.1 x.2⟩
def K7 (ρ:Type):Env ρ:=ê [(282,KA),(283,P5)] []
def Ws:Č:=⟨[Â,Â],[Â,tI],fun(x:pl)=>LF x.1 x.2⟩
def Xc (ρ:Type):Env ρ:=ê [(291,pK),(319,xv)] []
def yH:Č:=⟨[Â,Â],[Â],fun(x:pl)=>rY x.1 x.2⟩
def FM (ρ:Type):Env ρ:=ê [(309,Ws)] []
def P6:Č:=⟨[Â,Â],[tI],fun(x:pl)=>GM x.1 x.2⟩
def Xa (ρ:Type):Env ρ:=ê [] []
def wi:Č:=⟨[ń],[.bool],fun(x:pl)=>pw x⟩
def Dw (ρ:Type):Env ρ:=ê [(291,pK),(325,P6)] []
def Wt:Č:=⟨[Â,Â],[Â,tI],fun(x:pl)=>GO x.1 x.2⟩
def Xe (ρ:Type):Env ρ:=ê [(291,pK),(319,xv)] []
def Nj:Č:=⟨[ń,Â],[ń,tI],fun(x:Val (.pair ń Â))=>GN x.1 x.2⟩
def CQ:y5 (Nat×Č):=[(233,yF),(320,wi),(323,Wt),(325,P6)]
def ru (ρ:Type):y5 (į ρ):=[]
def CP:y5 abD:=[⟨[3,2],321,0,4⟩]
def N1 (ρ:Type):Env ρ:=ê CQ (ru ρ)
def xJ (ρ:Type):Env ρ:=mkEnvU CQ (ru ρ) CP
def yG:Č:=⟨[Â,Â],[ń],fun(x:pl)=>mL x.1 x.2⟩
def FL (ρ:Type):Env ρ:=ê [(310,Nj)] []
def Jb:Č:=⟨[Å,Ü],[ń],fun(x:Val (.pair Å Ü))=>qD x.1 x.2⟩
def N8 (ρ:Type):Env ρ:=ê [(115,xw),(204,DU),(288,sk),(289,yH),(290,yG)] []
def Nn:Č:=⟨[Å,Ü],[Â],fun(x:Val (.pair Å Ü))=>uE x.1 x.2⟩
def Qv (ρ:Type):Env ρ:=ê [] []
def EP:Č:=⟨[tI,tI],[tI],fun(x:an)=>AR x.1 x.2⟩
def Qr (ρ:Type):Env ρ:=ê [] []
def RQ:Č:=⟨[Â],[tI,tI],fun(x:an)=>Ec x⟩
def Uu (ρ:Type):Env ρ:=ê [(291,pK),(292,EP)] []
def Nk:Č:=⟨[Â],[tI,tI],fun(x:an)=>AU x⟩
def Qt (ρ:Type):Env ρ:=ê [(291,pK),(292,EP)] []
def RT:Č:=⟨[Å,Ü],[Â],fun(x:Val (.pair Å Ü))=>vB x.1 x.2⟩
def Uv (ρ:Type):Env ρ:=ê [(252,Jb),(253,Nn),(254,RQ),(255,Nk)] []
def RV:Č:=⟨[Å,Ê,tI,tI],[tI],fun(x:Val (.pair Å (.pair Ê Â)))=>vC x.1 x.2.1 x.2.2.1 x.2.2.2⟩
def Af:Æ:=Ls 0 [tI,tI,ae,tI,tI,tI,ac,aa,ae,ab,aa,tI,tI,tI,tI,tI,tI,tI,tI] [tI,tI] ⟨88,aN 2 (.con tI::.con tI::.box 0 0::.box 1 0::aN 3 (.var tI::aN 7 [.con ae,.con tI,.var tI])),[aU,aV]⟩ [(.exit 0,⟨88,aN 2 (.con tI::.con tI::.box 0 0::.box 1 0::aN 3 (.var tI::aN 7 [.con ae,.con tI])),[aU,aV]⟩,[tI])]
def Ae (ρ:Type):į ρ:=⟨[],249,0,Af,fun(p:Val (tyL Af.cs)) (v:an) a b=>rD p.1 p.2.1 p.2.2.1 p.2.2.2.1 p.2.2.2.2.2.2.2.2.2.2.2.1 v.1 v.2 (fun c d=>a (c,d)) (b 0)⟩
def Ad:Æ:=Ls 0 [tI,tI,tI,aa,tI,tI,tI,tI,tI,tI,tI,tI,tI] [tI,af] ⟨88,aN 2 (.con tI::.con tI::.any::.box 0 0::aN 3 (.con tI::aN 3 (.own 1::aN 39 [.con aa,.con tI,.var tI]))),[aV,.rowv tI]⟩ [(.exit 2,⟨88,aN 2 (.con tI::.con tI::.any::.box 0 0::aN 3 (.con tI::aN 3 (.own 1::aN 39 [.con aa,.con tI]))),[aV,.rowv tI]⟩,[af])]
def Ac (ρ:Type):į ρ:=⟨[],249,2,Ad,fun(p:Val (tyL Ad.cs)) (v:io) a b=>rC p.1 p.2.1 p.2.2.2.1 p.2.2.2.2.1 p.2.2.2.2.2.1 v.1 v.2 (fun c d=>a (c,d)) (b 0)⟩
def BN (ρ:Type):Env ρ:=ê [(234,jn)] [Ae ρ,Ac ρ]
def RU:Č:=⟨[Å],[(.ptr xn)],fun(x:bl)=>Ed x⟩
def zZ:Æ:=Ls 2 [tI,af,tI,ac,tI,tI,tI,tI,ac,aa,ae,ab,aa,tI,tI,ac,aa,ae,ab,aa,aa,tI,tI,tI,tI,tI,tI,tI,tI,tI] [tI,ai,aa] ⟨144,.box 1 0::.any::.con tI::.box 2 0::.con af::.con tI::.var tI::aN 24 [.con ac,.con tI,.con tI],[aU,bh,aV,.rowv yh,.rowv Â]⟩ [(.exit 2,⟨144,.box 1 0::.any::.con tI::.box 2 0::.con af::.con tI::aN 25 [.con ac,.con tI,.con tI],[aU,bh,aV,.rowv yh,.rowv Â]⟩,[ai,aa])]
def zY (ρ:Type):į ρ:=⟨[2,1],201,2,zZ,fun(p:Val (tyL zZ.cs)) (v:nR) a b=>let A:=p.2.2.2.2.2.2.2.2.2.2.2.2.2;let B:=A.2.2.2.2;let C:=B.2.2.2.2.2;let D:=C.2.2.2.2;rA p.1 p.2.1 p.2.2.1 A.1 A.2.1 A.2.2.1 A.2.2.2.1 B.1 B.2.1 B.2.2.1 C.1 C.2.1 C.2.2.1 C.2.2.2.1 D.1 D.2.1 D.2.2.1 D.2.2.2 v.1 v.2.1 v.2.2 (fun c d e=>a (c,d,e)) (b 0)⟩
def Ab:Æ:=Ls 2 [ac,tI,tI,tI,ac,aa,ae,ab,aa,tI,tI,ac,aa,ae,ab,aa,aa,tI] [tI,ai,aa] ⟨144,.box 1 0::aN 30 [.con ac,.con tI,.var tI],bI⟩ [(.exit 0,⟨144,.box 1 0::aN 30 [.con ac,.con tI],bI⟩,[ai,aa])]
def Aa (ρ:Type):į ρ:=⟨[2,1],201,0,Ab,fun(p:Val (tyL Ab.cs)) (v:nR) a b=>let A:=p.2.2.2.2.2.2.2.2.2;let B:=A.2.2.2.2;rB p.1 p.2.1 A.1 A.2.1 A.2.2.1 A.2.2.2.1 B.1 B.2.1 B.2.2.1 B.2.2.2.1 B.2.2.2.2 v.1 v.2.1 v.2.2 (fun c d e=>a (c,d,e)) (b 0)⟩
def zX:Æ:=Ls 2 [ab,tI,tI,tI,ac,aa,ae,ab,aa,tI,tI,ac,aa,ae,ab,aa,aa,tI] [tI,ai,aa] ⟨144,.box 1 0::aN 107 [.con ab,.con tI,.var tI],bI⟩ [(.exit 4,⟨144,.box 1 0::aN 107 [.con ab,.con tI],bI⟩,[ai,aa])]
def zW (ρ:Type):į ρ:=⟨[2,1],201,4,zX,fun(p:Val (tyL zX.cs)) (v:nR) a b=>let A:=p.2.2.2.2.2.2.2.2.2;let B:=A.2.2.2.2;rz p.1 p.2.1 A.1 A.2.1 A.2.2.1 A.2.2.2.1 B.1 B.2.1 B.2.2.1 B.2.2.2.1 B.2.2.2.2 v.1 v.2.1 v.2.2 (fun c d e=>a (c,d,e)) (b 0)⟩
def vk (ρ:Type):Env ρ:=ê [(117,yI),(190,KB),(204,DU),(205,CA),(209,RT),(249,RV)] [zY ρ,Aa ρ,zW ρ]
def mV:Č:=⟨[Å],[Ð,aa,tI],fun(x:bl)=>gD x⟩
def Oa (ρ:Type):Env ρ:=ê [(55,iI),(129,RU)] []
def KD:Č:=⟨[Å,Â],[Å,tI],fun(x:py)=>sa x.1 x.2⟩
def Ax:Æ:=Ls 6 [tI,tI,tI,ac,aa,ae,ab,aa,tI,tI,tI,tI,tI,tI,ac,aa,ae,ab,aa,tI,tI,tI,tI,ab,tI,tI,ac,aa,ae,aa] [tI,ab] ⟨50,.any::.box 6 0::.box 7 0::.own 8::aN 21 [.own 8,.con tI,.var tI],bJ⟩ [(.exit 0,⟨50,.any::.box 6 0::.box 7 0::.own 8::aN 21 [.own 8,.con tI],bJ⟩,[ab])]
def Aw (ρ:Type):į ρ:=⟨[1,2,4,1],232,0,Ax,fun(p:Val (tyL Ax.cs)) (v:r7) a b=>rL p.1 v.1 v.2 (fun c d=>a (c,d)) (b 0)⟩
def JE (ρ:Type):Env ρ:=ê [(55,iI)] [Aw ρ]
def pj:Č:=⟨[Ð],[.bool,tI],fun(x:fw)=>ū x⟩
def Dt (ρ:Type):Env ρ:=ê [(130,tJ),(143,tG)] []
def Cz:Č:=⟨[Å,Â],[Â,tI],fun(x:py)=>oY x.1 x.2⟩
def qg:Æ:=Ls 4 [tI,tI,tI,ac,aa,ae,ab,aa,tI,tI,tI,tI,aa] [tI,tI,tI,ac,aa,ae,ab,aa] ⟨68,aN 2 (.box 4 0::aN 20 [.own 3,.con tI,.var tI]),bK⟩ [(.ret,⟨68,aN 2 (.box 4 0::.any::.nilp::.var tI::aN 17 [.own 3,.con tI]),bK⟩,[tI,tI,tI,ac,aa,ae,ab,aa]),(.exit 0,⟨68,aN 2 (.box 4 0::aN 20 [.own 3,.con tI]),bK⟩,[tI,tI,ac,aa,ae,ab,aa])]
def qf (ρ:Type):į ρ:=⟨[1,3],46,0,qg,fun(p:Val (tyL qg.cs)) (v:Val aL) b a=>Β p.1 p.2.2.2.2.2.2.2.2.2.2.2.2 v.1 v.2.1 v.2.2.1 v.2.2.2.1 v.2.2.2.2.1 v.2.2.2.2.2.1 v.2.2.2.2.2.2.1 v.2.2.2.2.2.2.2 (fun c d e f g h i j=>b (c,d,e,f,g,h,i,j)) (a 0) (a 1)⟩
def wz (ρ:Type):Env ρ:=ê [(47,pJ),(55,iI),(58,tM),(59,mV),(101,KD),(102,pj)] [qf ρ]
def Ng:Č:=⟨[Ð,tI,tI],[aw],fun(x:Val (.pair Ð Â))=>AP x.1 x.2.1 x.2.2⟩
def Jv:Æ:=Ls 0 [tI,tI,tI,tI,ai] [tI,af] ⟨45,.any::.con tI::.con tI::.box 0 0::aN 3 (.own 1::aN 7 [.con tI,.var tI]),[bf,.rowv tI]⟩ [(.exit 0,⟨45,.any::.con tI::.con tI::.box 0 0::aN 3 (.own 1::aN 7 [.con tI]),[bf,.rowv tI]⟩,[af])]
def Ju (ρ:Type):į ρ:=⟨[],104,0,Jv,fun(p:Val (tyL Jv.cs)) (v:io) a b=>vg p.2.2.1 v.1 v.2 (fun c d=>a (c,d)) (b 0)⟩
def Js:Æ:=Ls 4 [af,tI,aw,tI,ai] [tI,af] ⟨53,.con af::.box 1 0::aN 2 (.own 4::aN 7 [.con tI,.var tI]),bL⟩ [(.exit 0,⟨53,.con af::.box 1 0::aN 2 (.own 4::aN 7 [.con tI]),bL⟩,[af])]
def Jr (ρ:Type):į ρ:=⟨[12,8],181,0,Js,fun(p:Val (tyL Js.cs)) (v:io) a b=>K6 p.2.1 v.1 v.2 (fun c d=>a (c,d)) (b 0)⟩
def Jq:Æ:=Ls 4 [af,ai,tI,aw,tI,ai] [tI,af] ⟨53,.con af::aN 3 (.own 4::aN 16 [.con ai,.con tI,.var tI]),bL⟩ [(.exit 2,⟨53,.con af::aN 3 (.own 4::aN 16 [.con ai,.con tI]),bL⟩,[af])]
def Jp (ρ:Type):į ρ:=⟨[12,8],181,2,Jq,fun(p:Val (tyL Jq.cs)) (v:io) a b=>zQ p.1 p.2.1 p.2.2.1 v.1 v.2 (fun c d=>a (c,d)) (b 0)⟩
def Us:Æ:=Ls 0 [tI,tI,ai] [tI,aw] ⟨45,aN 9 (.own 0::.fn 181 [(1,0)]::aN 18 [.con tI,.var tI]),[.rowv af,bf]⟩ [(.exit 2,⟨45,aN 9 (.own 0::.fn 181 [(1,0)]::aN 18 [.con tI]),[.rowv af,bf]⟩,[aw])]
def Jt (ρ:Type):į ρ:=⟨[],104,2,Us,fun(p:Val aJ) (v:Val (.pair tI aw)) a b=>D3 p.1 p.2.1 p.2.2 v.1 v.2 (fun c d=>a (c,d)) (b 0)⟩
def Fy (ρ:Type):Env ρ:=ê [] [Ju ρ,Jr ρ,Jp ρ,Jt ρ]
def Ni:Č:=⟨[Ð,tI,tI],[af,tI],fun(x:Val (.pair Ð Â))=>uC x.1 x.2.1 x.2.2⟩
def wL:Æ:=Ls 3 [aw,tI,tI,ai,tI,tI] [tI] ⟨19,.con aw::.fn 106 [(1,0),(2,0)]::aN 5 [.con tI,.var tI],[bf,aY,aY]⟩ [(.ret,⟨19,[.con aw,.fn 106 [(1,0),(2,0)],.any,.any,.var tI,.any,.any,.con tI],[bf,aY,aY]⟩,[tI]),(.exit 0,⟨19,.con aw::.fn 106 [(1,0),(2,0)]::aN 5 [.con tI],[bf,aY,aY]⟩,[])]
def wK (ρ:Type):į ρ:=⟨[5,2],105,0,wL,fun(p:Val (tyL wL.cs)) (v:Int) b a=>oG p.1 p.2.1 p.2.2.2.2.1 p.2.2.2.2.2 v (fun c=>b c) (a 0) (a 1)⟩
def wH:Æ:=Ls 3 [tI,aw,ai,tI,tI,ai,tI,tI,tI,ai] [tI,tI,tI,af] ⟨73,.any::.var tI::.con tI::.con aw::.fn 108 [(2,0)]::.box 3 0::aN 5 (.own 4::.var tI::aN 7 [.con ai,.con tI,.var tI]),bM⟩ [(.exit 2,⟨73,.any::.var tI::.con tI::.con aw::.fn 108 [(2,0)]::.box 3 0::aN 5 (.own 4::.var tI::aN 7 [.con ai,.con tI]),bM⟩,[tI,tI,af])]
def wG (ρ:Type):į ρ:=⟨[6,5],107,2,wH,fun(p:Val (tyL wH.cs)) (v:Val aK) a b=>CN p.1 p.2.1 p.2.2.1 p.2.2.2.1 p.2.2.2.2.2.2.2.1 v.1 v.2.1 v.2.2.1 v.2.2.2 (fun c d e f=>a (c,d,e,f)) (b 0)⟩
def wJ:Æ:=Ls 3 [aw,tI,ai,tI,tI,tI,ai] [tI,tI,tI,af] ⟨73,.any::.var tI::.var tI::.con aw::.fn 108 [(2,0)]::.box 3 0::aN 5 [.own 4,.var tI],bM⟩ [(.exit 0,⟨73,aN 3 (.con aw::.fn 108 [(2,0)]::.box 3 0::aN 5 [.own 4]),bM⟩,[af])]
def wI (ρ:Type):į ρ:=⟨[6,5],107,0,wJ,fun(p:Val (tyL wJ.cs)) (v:Val aK) a b=>oF p.1 p.2.2.2.2.1 p.2.2.2.2.2.2 v.1 v.2.1 v.2.2.1 v.2.2.2 (fun c d e f=>a (c,d,e,f)) (b 0)⟩
def rt (ρ:Type):Env ρ:=ê [(103,EO),(104,Ng)] [wK ρ,wG ρ,wI ρ]
def yE:Č:=⟨[aB,(.ptr Â),(.ptr .bool)],[af],fun(x:Val (.pair aB (.pair (.ptr Â) (.ptr .bool))))=>jU x.1 x.2.1 x.2.2⟩
def Fw (ρ:Type):Env ρ:=ê [(49,qS),(50,Ni)] []
def EK:Č:=⟨[Å,af],[aa],fun(x:Val (.pair Å af))=>rV x.1 x.2⟩
def Dg:Æ:=Ls 0 [aa,af,tI] [tI,aa] ⟨32,aN 6 (.con aa::.any::.own 0::aN 8 [.con af,.con tI,.var tI]),[.rowv Â]⟩ [(.exit 0,⟨32,aN 6 (.con aa::.any::.own 0::aN 8 [.con af,.con tI]),[.rowv Â]⟩,[aa])]
def sq (ρ:Type):į ρ:=⟨[],52,0,Dg,fun(p:Val (.pair aa aS)) (v:Val aG) a b=>kW p.1 p.2.1 p.2.2 v.1 v.2 (fun c d=>a (c,d)) (b 0)⟩
def zc (ρ:Type):Env ρ:=ê [(59,mV)] [sq ρ]
def EN:Č:=⟨[Å,Â,.bool],[Ĺ,tI],fun(x:Val (.pair Å (.pair Â .bool)))=>rX x.1 x.2.1 x.2.2⟩
def sF:Æ:=Ls 5 [tI,tI,tI,ac,aa,ae,ab,aa,tI,tI,tI,tI,.bool,tI,aa] [tI,tI,tI,ac,aa,ae,ab,aa] ⟨68,aN 2 (.box 5 0::aN 20 [.own 4,.con tI,.var tI]),bN⟩ [(.ret,⟨68,aN 2 (.box 5 0::.any::.nilp::.var tI::aN 17 [.own 4,.con tI]),bN⟩,[tI,tI,tI,ac,aa,ae,ab,aa]),(.exit 0,⟨68,aN 2 (.box 5 0::aN 20 [.own 4,.con tI]),bN⟩,[tI,tI,ac,aa,ae,ab,aa])]
def sw (ρ:Type):į ρ:=⟨[1,3],46,0,sF,fun(p:Val (tyL sF.cs)) (v:Val aL) b a=>pn p.1 p.2.2.2.2.2.2.2.2.2.2.2.2.2.2 v.1 v.2.1 v.2.2.1 v.2.2.2.1 v.2.2.2.2.1 v.2.2.2.2.2.1 v.2.2.2.2.2.2.1 v.2.2.2.2.2.2.2 (fun c d e f g h i j=>b (c,d,e,f,g,h,i,j)) (a 0) (a 1)⟩
def sv:Æ:=Ls 10 [tI,tI,tI,ac,aa,ae,ab,aa,tI,tI,tI,tI,.bool,tI,aa,tI,tI,ac,aa,ae,ab,aa,tI,ai,aa,tI,tI,ac,aa,ae,ab,aa,tI,tI,ac,aa,ae,ab,aa] [tI] ⟨68,aN 2 (.box 10 0::aN 20 [.nils,.con tI,.var tI]),bO⟩ [(.exit 0,⟨68,aN 2 (.box 10 0::aN 20 [.nils,.con tI]),bO⟩,[])]
def su (ρ:Type):į ρ:=⟨[6,1],46,0,sv,fun(p:Val (tyL sv.cs)) (v:Int) a b=>pm p.1 v (fun c=>a c) (b 0)⟩
def jP (ρ:Type):Env ρ:={ê [(48,yE),(51,ph),(52,EK),(53,pd),(54,kv),(55,iI),(58,tM),(59,mV),(101,KD),(102,pj)] [sw ρ,su ρ] with hint:=xS [(34,48),(56,48)]}
def xu:Č:=⟨[Ð,af],[tI],fun(x:Val (.pair Ð af))=>nV x.1 x.2⟩
def Dm:Æ:=Ls 1 [af,tI,tI,ai] [tI] ⟨19,.con af::.fn 202 [(0,0)]::aN 5 [.con tI,.var tI],[bf]⟩ [(.ret,⟨19,[.con af,.fn 202 [(0,0)],.any,.any,.var tI,.any,.any,.con tI],[bf]⟩,[tI]),(.exit 0,⟨19,.con af::.fn 202 [(0,0)]::aN 5 [.con tI],[bf]⟩,[])]
def sG (ρ:Type):į ρ:=⟨[3,2,1,2],142,0,Dm,fun(p:Val (.pair af aJ)) (v:Int) b a=>kX p.1 p.2.1 p.2.2.2 v (fun c=>b c) (a 0) (a 1)⟩
def zP (ρ:Type):Env ρ:=ê [] [sG ρ]
def Kz:Č:=⟨[Ð,tI,af],[tI,tI,.bool],fun(x:Val (.pair Ð ax))=>AO x.1 x.2.1 x.2.2⟩
def K5:Æ:=Ls 0 [af,tI,tI,ai] [tI,tI,tI] ⟨37,.any::.var tI::.any::.box 0 0::aN 5 [.var tI,.any,.any,.any,.con af,.con tI,.var tI],[bf]⟩ [(.ret,⟨37,aN 3 (.box 0 0::aN 2 (.var tI::.var tI::.var .bool::aN 4 [.con af,.con tI])),[bf]⟩,[tI,tI,.bool]),(.exit 0,⟨37,.any::.var tI::.any::.box 0 0::aN 5 [.var tI,.any,.any,.any,.con af,.con tI],[bf]⟩,[tI,tI])]
def zJ (ρ:Type):į ρ:=⟨[],133,0,K5,fun(p:Val (.pair af aJ)) (v:Val yh) b a=>rl p.1 p.2.1 p.2.2.2 v.1 v.2.1 v.2.2 (fun c d e=>b (c,d,e)) (a 0) (a 1)⟩
def Jo (ρ:Type):Env ρ:=ê [] [zJ ρ]
def wh:Č:=⟨[Ð,tI,tI,af],[tI,tI],fun(x:Val (.pair Ð (.pair tI ax)))=>iR x.1 x.2.1 x.2.2.1 x.2.2.2⟩
def Dv (ρ:Type):Env ρ:=ê [(130,tJ),(131,DT),(132,xu),(133,Kz)] []
def qT:Č:=⟨[Ĺ],[tI],fun(x:pc)=>jT x⟩
def Fu (ρ:Type):Env ρ:=ê [(55,iI),(58,tM),(59,mV),(60,wh)] []
def wg:Č:=⟨[Ð,af],[tI],fun(x:Val (.pair Ð af))=>lf x.1 x.2⟩
def Du (ρ:Type):Env ρ:=ê [(130,tJ),(132,xu),(133,Kz)] []
def we:Č:=⟨[Ĺ],[tI],fun(x:pc)=>la x⟩
def Dk (ρ:Type):Env ρ:=ê [(55,iI),(59,mV),(118,wg)] []
def π:Č:=⟨[ac,Ê],[tI],fun(x:Val (.pair ac Ê))=>Ņ x.1 x.2⟩
def ś:Æ:=Ls 0 [ac,tI,tI,tI,tI,tI,tI,tI,tI,tI] [tI] ⟨19,[.con ac,.any,.any,.box 0 0,.any,.any,.any,.con tI,.var tI],[aV]⟩ [(.ret,⟨19,[.con ac,.any,.any,.box 0 0,.var tI,.any,.any,.con tI],[aV]⟩,[tI]),(.exit 0,⟨19,[.con ac,.any,.any,.box 0 0,.any,.any,.any,.con tI],[aV]⟩,[])]
def Ś (ρ:Type):į ρ:=⟨[],243,0,ś,fun(p:Val (tyL ś.cs)) (v:Int) b a=>let A:=p.2.2.2.2;û p.1 p.2.1 p.2.2.1 p.2.2.2.1 A.1 A.2.1 A.2.2.1 A.2.2.2.1 A.2.2.2.2.1 A.2.2.2.2.2 v (fun c=>b c) (a 0) (a 1)⟩
def Α (ρ:Type):Env ρ:=ê [] [Ś ρ]
def Ů:Č:=⟨[ac,Ê],[.bool],fun(x:Val (.pair ac Ê))=>Ď x.1 x.2⟩
def jz (ρ:Type):Env ρ:=ê [(243,π)] []
def iH:Č:=⟨[aa,Â],[tI],fun(x:Val (.pair aa Â))=>ũ x.1 x.2⟩
def lu:Æ:=Ls 0 [aa,tI,tI,tI] [tI] ⟨19,[.con aa,.any,.any,.box 0 0,.any,.any,.any,.con tI,.var tI],[bc]⟩ [(.ret,⟨19,[.con aa,.any,.any,.box 0 0,.var tI,.any,.any,.con tI],[bc]⟩,[tI]),(.exit 0,⟨19,[.con aa,.any,.any,.box 0 0,.any,.any,.any,.con tI],[bc]⟩,[])]
def Λ (ρ:Type):į ρ:=⟨[],245,0,lu,fun(p:Val (.pair aa yh)) (v:Int) b a=>ć p.1 p.2.1 p.2.2.1 p.2.2.2 v (fun c=>b c) (a 0) (a 1)⟩
def gR (ρ:Type):Env ρ:=ê [] [Λ ρ]
def gH:Č:=⟨[aa,Â],[.bool],fun(x:Val (.pair aa Â))=>ĉ x.1 x.2⟩
def lz (ρ:Type):Env ρ:=ê [(245,iH)] []
def gQ:Č:=⟨[ae,Ŏ],[tI],fun(x:Val (.pair ae Ŏ))=>Ŗ x.1 x.2⟩
def Ų:Æ:=Ls 0 [ae,tI,tI,tI,tI,tI] [tI] ⟨19,[.con ae,.any,.any,.box 0 0,.any,.any,.any,.con tI,.var tI],[aW]⟩ [(.ret,⟨19,[.con ae,.any,.any,.box 0 0,.var tI,.any,.any,.con tI],[aW]⟩,[tI]),(.exit 0,⟨19,[.con ae,.any,.any,.box 0 0,.any,.any,.any,.con tI],[aW]⟩,[])]
def ű (ρ:Type):į ρ:=⟨[],247,0,Ų,fun(p:Val (tyL Ų.cs)) (v:Int) b a=>ý p.1 p.2.1 p.2.2.1 p.2.2.2.1 p.2.2.2.2.1 p.2.2.2.2.2 v (fun c=>b c) (a 0) (a 1)⟩
def χ (ρ:Type):Env ρ:=ê [] [ű ρ]
def Κ:Č:=⟨[ae,Ŏ],[.bool],fun(x:Val (.pair ae Ŏ))=>ÿ x.1 x.2⟩
def ki (ρ:Type):Env ρ:=ê [(247,gQ)] []
def RO:Č:=⟨[Å,Å],[.bool],fun(x:Val (.pair Å Å))=>AK x.1 x.2⟩
def zA:Æ:=Ls 0 [ac,tI,tI,tI,ac,aa,ae,ab,aa,tI,tI,ac,aa,ae,ab,aa] [tI,ak] ⟨87,aN 2 (.box 0 0::.box 1 0::.any::.box 2 0::aN 10 [.con ac,.con tI,.var tI]),[aU,aU,bo,.mapv tI .bool]⟩ [(.exit 0,⟨87,aN 2 (.box 0 0::.box 1 0::.any::.box 2 0::aN 10 [.con ac,.con tI]),[aU,aU,bo,.mapv tI .bool]⟩,[ak])]
def zz (ρ:Type):į ρ:=⟨[],57,0,zA,fun(p:Val (tyL zA.cs)) (v:nx) a b=>ri p.1 p.2.1 v.1 v.2 (fun c d=>a (c,d)) (b 0)⟩
def zr:Æ:=Ls 6 [af,af,tI,tI,tI,ac,aa,ae,ab,aa,tI,tI,ac,aa,ae,ab,aa,ak,tI,tI,af,af,tI,tI,tI,tI,tI,tI,af,af,tI,tI,tI,tI] [tI] ⟨26,.con af::.con af::aN 10 [.con tI,.var tI],bP⟩ [(.ret,⟨26,.con af::.con af::aN 2 (.var .bool::aN 7 [.con tI]),bP⟩,[.bool]),(.exit 0,⟨26,.con af::.con af::aN 10 [.con tI],bP⟩,[])]
def zq (ρ:Type):į ρ:=⟨[14,3,1,2,4,5,1,38],123,0,zr,fun(p:Val (tyL zr.cs)) (v:Int) b a=>kD p.1 p.2.1 p.2.2.1 v (fun c=>b c) (a 0) (a 1)⟩
def zp:Æ:=Ls 6 [af,af,tI,tI,tI,ac,aa,ae,ab,aa,tI,tI,ac,aa,ae,ab,aa,ak,tI,tI,af,af,tI,tI,tI,tI,tI,tI,af,af,tI,tI,tI,tI] [tI] ⟨26,.con af::.con af::aN 10 [.con tI,.var tI],bP⟩ [(.ret,⟨26,.con af::.con af::aN 2 (.var .bool::aN 7 [.con tI]),bP⟩,[.bool]),(.exit 0,⟨26,.con af::.con af::aN 10 [.con tI],bP⟩,[])]
def zo (ρ:Type):į ρ:=⟨[14,3,1,2,4,5,1,45],123,0,zp,fun(p:Val (tyL zp.cs)) (v:Int) b a=>rh p.1 p.2.1 p.2.2.1 v (fun c=>b c) (a 0) (a 1)⟩
def zw:Æ:=Ls 5 [ab,tI,tI,tI,ac,aa,ae,ab,aa,tI,tI,ac,aa,ae,ab,aa,ak,tI,tI,af,af,tI,tI,tI,tI] [tI] ⟨19,.con ab::.fn 122 [(4,0)]::aN 5 [.con tI,.var tI],bQ⟩ [(.ret,⟨19,[.con ab,.fn 122 [(4,0)],.any,.any,.var tI,.any,.any,.con tI],bQ⟩,[tI]),(.exit 0,⟨19,.con ab::.fn 122 [(4,0)]::aN 5 [.con tI],bQ⟩,[])]
def zu (ρ:Type):į ρ:=⟨[14,3,1,2],191,0,zw,fun(p:Val (tyL zw.cs)) (v:Int) b a=>let A:=p.2.2.2.2.2.2.2.2.2.2.2.2.2.2.2.2.2;let B:=A.2.2.2.2;nI p.1 p.2.1 A.1 A.2.1 A.2.2.1 A.2.2.2.1 B.1 B.2.1 B.2.2.1 B.2.2.2 v (fun c=>b c) (a 0) (a 1)⟩
def zy:Æ:=Ls 0 [ab,tI,tI,tI,ac,aa,ae,ab,aa,tI,tI,ac,aa,ae,ab,aa,ak] [tI] ⟨87,aN 2 (.box 0 0::.box 1 0::aN 4 (.fn 119 []::.fn 120 [(2,0)]::.fn 121 [(2,0)]::aN 18 [.con ab,.con tI,.var tI])),bR⟩ [(.ret,⟨87,aN 2 (.box 0 0::.box 1 0::.var .bool::aN 3 (.fn 119 []::.fn 120 [(2,0)]::.fn 121 [(2,0)]::aN 18 [.con ab,.con tI])),bR⟩,[.bool]),(.exit 2,⟨87,aN 2 (.box 0 0::.box 1 0::aN 4 (.fn 119 []::.fn 120 [(2,0)]::.fn 121 [(2,0)]::aN 18 [.con ab,.con tI])),bR⟩,[])]
def zx (ρ:Type):į ρ:=⟨[],57,2,zy,fun(p:Val (tyL zy.cs)) (v:Int) b a=>nJ p.1 p.2.1 p.2.2.2.2.2.2.2.2.2.2.2.2.2.2.1 v (fun c=>b c) (a 0) (a 1)⟩
def zn:Æ:=Ls 6 [ac,tI,tI,tI,ac,aa,ae,ab,aa,tI,tI,ac,aa,ae,ab,aa,ak,ac] [tI] ⟨19,.con ac::.fn 193 [(5,0),(4,0)]::aN 5 [.con tI,.var tI],bS⟩ [(.ret,⟨19,[.con ac,.fn 193 [(5,0),(4,0)],.any,.any,.var tI,.any,.any,.con tI],bS⟩,[tI]),(.exit 0,⟨19,.con ac::.fn 193 [(5,0),(4,0)]::aN 5 [.con tI],bS⟩,[])]
def zm (ρ:Type):į ρ:=⟨[17,11,1,2,1,2],242,0,zn,fun(p:Val (tyL zn.cs)) (v:Int) b a=>nH p.1 p.2.1 p.2.2.2.2.2.2.2.2.2.2.2.2.2.2.2.2.2 v (fun c=>b c) (a 0) (a 1)⟩
def zl:Æ:=Ls 8 [aa,tI,tI,tI,ac,aa,ae,ab,aa,tI,tI,ac,aa,ae,ab,aa,ak,ac,aa] [tI] ⟨19,.con aa::.fn 196 [(7,0),(6,0)]::aN 5 [.con tI,.var tI],bT⟩ [(.ret,⟨19,[.con aa,.fn 196 [(7,0),(6,0)],.any,.any,.var tI,.any,.any,.con tI],bT⟩,[tI]),(.exit 0,⟨19,.con aa::.fn 196 [(7,0),(6,0)]::aN 5 [.con tI],bT⟩,[])]
def zk (ρ:Type):į ρ:=⟨[17,19,1,2,1,2],244,0,zl,fun(p:Val (tyL zl.cs)) (v:Int) b a=>jf p.1 p.2.1 p.2.2.2.2.2.2.2.2.2.2.2.2.2.2.2.2.1 p.2.2.2.2.2.2.2.2.2.2.2.2.2.2.2.2.2.2 v (fun c=>b c) (a 0) (a 1)⟩
def zj:Æ:=Ls 10 [aa,tI,tI,tI,ac,aa,ae,ab,aa,tI,tI,ac,aa,ae,ab,aa,ak,ac,aa,aa] [tI] ⟨19,.con aa::.fn 196 [(9,0),(8,0)]::aN 5 [.con tI,.var tI],bU⟩ [(.ret,⟨19,[.con aa,.fn 196 [(9,0),(8,0)],.any,.any,.var tI,.any,.any,.con tI],bU⟩,[tI]),(.exit 0,⟨19,.con aa::.fn 196 [(9,0),(8,0)]::aN 5 [.con tI],bU⟩,[])]
def zi (ρ:Type):į ρ:=⟨[17,27,1,2,1,2],244,0,zj,fun(p:Val (tyL zj.cs)) (v:Int) b a=>kB p.1 p.2.1 p.2.2.2.2.2.2.2.2.2.2.2.2.2.2.2.2.1 p.2.2.2.2.2.2.2.2.2.2.2.2.2.2.2.2.2.2.2 v (fun c=>b c) (a 0) (a 1)⟩
def zh:Æ:=Ls 12 [ae,tI,tI,tI,ac,aa,ae,ab,aa,tI,tI,ac,aa,ae,ab,aa,ak,ac,aa,aa,ae] [tI] ⟨19,.con ae::.fn 199 [(11,0),(10,0)]::aN 5 [.con tI,.var tI],bV⟩ [(.ret,⟨19,[.con ae,.fn 199 [(11,0),(10,0)],.any,.any,.var tI,.any,.any,.con tI],bV⟩,[tI]),(.exit 0,⟨19,.con ae::.fn 199 [(11,0),(10,0)]::aN 5 [.con tI],bV⟩,[])]
def zf (ρ:Type):į ρ:=⟨[17,35,1,2,1,2],246,0,zh,fun(p:Val (tyL zh.cs)) (v:Int) b a=>Ħ p.1 p.2.1 p.2.2.2.2.2.2.2.2.2.2.2.2.2.2.2.2.1 p.2.2.2.2.2.2.2.2.2.2.2.2.2.2.2.2.2.2.2.2 v (fun c=>b c) (a 0) (a 1)⟩
def ze:Æ:=Ls 14 [ae,tI,tI,tI,ac,aa,ae,ab,aa,tI,tI,ac,aa,ae,ab,aa,ak,ac,aa,aa,ae,ae] [tI] ⟨19,.con ae::.fn 199 [(13,0),(12,0)]::aN 5 [.con tI,.var tI],bW⟩ [(.ret,⟨19,[.con ae,.fn 199 [(13,0),(12,0)],.any,.any,.var tI,.any,.any,.con tI],bW⟩,[tI]),(.exit 0,⟨19,.con ae::.fn 199 [(13,0),(12,0)]::aN 5 [.con tI],bW⟩,[])]
def zd (ρ:Type):į ρ:=⟨[17,43,1,2,1,2],246,0,ze,fun(p:Val (tyL ze.cs)) (v:Int) b a=>ą p.1 p.2.1 p.2.2.2.2.2.2.2.2.2.2.2.2.2.2.2.2.1 p.2.2.2.2.2.2.2.2.2.2.2.2.2.2.2.2.2.2.2.2.2 v (fun c=>b c) (a 0) (a 1)⟩
def ş (ρ:Type):Env ρ:=ê [(194,Ů),(197,gH),(200,Κ)] [zz ρ,zq ρ,zo ρ,zu ρ,zx ρ,zm ρ,zk ρ,zi ρ,zf ρ,zd ρ]
def I8:Č:=⟨[Å,Ĺ],[.bool,tI],fun(x:Val (.pair Å Ĺ))=>vz x.1 x.2⟩
def NQ (ρ:Type):Env ρ:=ê [(15,qT),(55,iI),(56,we),(57,RO)] []
def mA:Č:=⟨[Å,Â],[.bool],fun(x:py)=>rU x.1 x.2⟩
def yV:Æ:=Ls 0 [tI,tI,tI,ac,aa,ae,ab,aa,tI,tI,tI,tI] [tI] ⟨107,[.any,.any,.box 0 0,.box 1 0,.any,.box 2 0,.con tI,.var tI],[aU,bc,bc]⟩ [(.ret,⟨107,[.any,.any,.box 0 0,.box 1 0,.var .bool,.box 2 0,.con tI],[aU,bc,bc]⟩,[.bool]),(.exit 0,⟨107,[.any,.any,.box 0 0,.box 1 0,.any,.box 2 0,.con tI],[aU,bc,bc]⟩,[])]
def oo (ρ:Type):į ρ:=⟨[],4,0,yV,fun(p:Val aF) (v:Int) b a=>let A:=p.2.2.2.2;let B:=A.2.2.2.2;ς p.1 p.2.1 p.2.2.1 p.2.2.2.1 A.1 A.2.1 A.2.2.1 A.2.2.2.1 B.1 B.2.1 B.2.2.1 B.2.2.2 v (fun c=>b c) (a 0) (a 1)⟩
def tO (ρ:Type):Env ρ:=ê [(5,RN),(6,EJ),(7,EM),(10,Nf),(11,yB),(12,Cz),(13,EN),(14,I8),(15,qT)] [oo ρ]
end Go.Proofs.ZzM
end
