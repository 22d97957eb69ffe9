/- lemmas -/
import Derived.Test.YtmadligicacpkaaGreatAmF
set_option linter.all false
set_option linter.unusedSectionVars false
set_option linter.unusedVariables false
set_option linter.unusedSimpArgs false
noncomputable section
variable {ρ:Type}
set_option maxRecDepth 100000
namespace Go.Proofs.ZzM
open Go Go.Am
abbrev tI:Ty:=.int .i64
abbrev Ä:Ty:=(.pair tI tI)
abbrev ú:Ty:=(.pair tI Ä)
abbrev í:Ty:=(.pair Ä Ä)
abbrev Ļ:Ty:=(.pair Ä tI)
abbrev ő:Ty:=(.pair tI Ļ)
abbrev tN:Ty:=(.pair í tI)
abbrev Ñ:Ty:=(.pair tI (.slice ú))
abbrev Β:Ty:=(.pair Ä (.pair ú ú))
abbrev xl:Ty:=(.pair (.slice ú) (.slice Ä))
abbrev Ó:Ty:=(.pair tI (.pair tI (.pair tI (.pair Ä Ļ))))
abbrev Ê:Ty:=(.pair tI (.pair tI (.pair (.slice tI) (.pair (.slice tI) (.pair tI ú)))))
abbrev ŧ:Ty:=(.pair tI (.pair tI (.pair tI (.pair tI (.pair tI ú)))))
abbrev Ŧ:Ty:=(.pair ŧ tI)
abbrev Å:Ty:=(.pair Ä (.pair (.slice Ó) (.pair (.slice Ä) (.pair (.slice ő) (.pair (.slice Ê) (.slice Ä))))))
abbrev qk:Ty:=(.pair Å (.pair Ñ (.pair (.slice (.slice tI)) tI)))
abbrev hZ:Ty:=(.pair Å (.pair Ä (.pair .bool (.pair tI (.slice tI)))))
abbrev tyroom:Ty:=(.pair Å Ñ)
abbrev aoY:Ty:=(.pair Å (.pair (.slice Ä) (.pair Ñ (.slice Ä))))
abbrev aa:Ty:=(.slice Ä)
abbrev ab:Ty:=(.slice Ê)
abbrev ac:Ty:=(.slice Ó)
abbrev ae:Ty:=(.slice tI)
abbrev af:Ty:=(.slice ő)
abbrev ah:Ty:=(.slice ú)
abbrev ai:Ty:=(.pair tI (.pair tI (.pair ac (.pair aa (.pair af (.pair ab aa))))))
abbrev aj:Ty:=(.pair tI (.pair tI (.pair ac (.pair aa (.pair af (.pair ab (.pair aa (.pair tI (.pair tI (.pair ac (.pair aa (.pair af (.pair ab (.pair aa (.pair tI (.pair tI (.pair ac (.pair aa (.pair af (.pair ab (.pair aa (.pair (.map tI .bool) (.pair (.map tI .bool) ac)))))))))))))))))))))))
abbrev ak:Ty:=(.map tI .bool)
abbrev am:Ty:=(.slice ae)
abbrev ao:Ty:=(.pair ae (.pair tI (.pair tI (.pair tI (.pair ac (.pair aa (.pair af (.pair ab (.pair aa (.pair tI (.pair tI (.pair tI (.pair tI (.pair tI (.pair tI (.pair ae (.pair ae (.pair tI (.pair tI (.pair tI (.pair tI (.pair aa (.pair tI (.pair tI (.pair ac (.pair aa (.pair af (.pair ab (.pair aa (.pair tI (.pair ah (.pair tI (.pair tI (.pair tI (.pair tI (.pair tI (.pair tI (.pair tI (.pair tI (.pair am (.pair am am)))))))))))))))))))))))))))))))))))))))))
abbrev aq:Ty:=(.map tI Ó)
abbrev ar:Ty:=(.pair tI ae)
abbrev au:Ty:=(.ptr tyroom)
abbrev aw:Ty:=(.pair tI ú)
abbrev ax:Ty:=(.pair tI (.pair tI (.pair tI (.pair ac (.pair aa (.pair af (.pair ab (.pair aa (.pair tI (.pair tI (.pair tI (.pair tI (.pair tI (.pair tI (.pair ae (.pair ae (.pair tI (.pair tI (.pair tI (.pair tI aa))))))))))))))))))))
abbrev ay:Ty:=(.pair tI (.pair tI (.pair ac (.pair aa (.pair af (.pair ab (.pair aa (.pair tI (.pair tI (.pair ae (.pair ae (.pair tI (.pair tI (.pair tI ar))))))))))))))
abbrev az:Ty:=(.slice .bool)
abbrev aA:Ty:=(.pair tI (.pair tI (.pair ac (.pair aa (.pair af (.pair ab (.pair aa aw)))))))
abbrev aB:Ty:=(.pair Å Ê)
abbrev aC:Ty:=(.pair tI (.pair tI (.pair tI (.pair ac (.pair aa (.pair af (.pair ab (.pair aa ŧ))))))))
abbrev aD:Ty:=(.pair tI ai)
abbrev aE:Ty:=(.pair Å Ä)
abbrev aF:Ty:=(.pair tI aa)
abbrev aG:Ty:=(.pair tI Ñ)
abbrev aH:Ty:=(.pair Å tI)
abbrev aI:Ty:=(.pair ae tI)
abbrev aJ:Ty:=(.pair Ä Ê)
abbrev aK:Ty:=(.pair tI ar)
abbrev aL:Ty:=(.pair az ae)
abbrev aM:Ty:=(.pair ae (.pair az (.pair ae ae)))
abbrev aO:Ty:=(.pair tI xl)
abbrev aP:Ty:=(.pair tI am)
abbrev aQ:Ty:=(.slice am)
abbrev aR:Ty:=(.pair au Ä)
abbrev aS:Ty:=(.pair tI aF)
abbrev aT:Ty:=(.ptr Ä)
abbrev aU:Ty:=(.ptr aoY)
abbrev aV:Ty:=(.pair aa Ä)
abbrev aW:Ty:=(.pair .bool tI)
abbrev aX:Ty:=(.pair Ñ Ä)
abbrev aY:Ty:=(.pair tI ŧ)
abbrev aZ:Ty:=(.pair ae ae)
abbrev ba:Ty:=(.pair .bool ar)
abbrev bc:Ty:=(.pair ő .bool)
abbrev bf:Ty:=(.pair tI aK)
abbrev bg:Ty:=(.pair (.int .u64) (.int .u64))
abbrev bh:Ty:=(.pair Ñ ae)
abbrev bj:Ty:=(.pair Å (.pair aq tI))
def Ł (d:Val am) (e:Int) (b:Int) (a:Int) (f:Int→Int→Option ρ) (g:Int→Option ρ):Option ρ :=
  ifb (ilt a e) (ā d a fun h=>ck (b+(Û h)) fun c=>ifb (ilt c 0) (none) (ck (a+(1:Int)) fun i=>f c i)) (g b)
def û (d:Val am) (e:Int) (a:Int) (b:Val ae) (f:Int→Val ae→Option ρ) (g:Val ae→Option ρ):Option ρ :=
  ifb (ilt a e) (ā d a fun c=>ë (î ((List.length b)+(List.length c))) (ck (a+(1:Int)) fun h=>f h (b++c))) (g b)
def jm (a:Val am) (k:Val ae→Option ρ):Option ρ :=
  Î (fun(c:Val Ä) g=>Ł a (Û a) c.1 c.2 (fun h i=>g (h,i)) (fun d=>ifb (ilt d 0) (none) (ck (d-(0:Int)) fun b=>ifb (igt b 0) (ë ((ilt 0 b)&&(î (Int.toNat b))) (ë (ile 0 (ĉ (List.replicate (Int.toNat b) (0:Int)))) (Î (fun(e:Val ar) j=>û a (Û a) e.1 e.2 (fun l m=>j (l,m)) (fun n=>k n)) ((0:Int),(List.take 0 (List.replicate (Int.toNat b) (0:Int))))))) (Î (fun(f:Val ar) o=>û a (Û a) f.1 f.2 (fun p q=>o (p,q)) (fun r=>k r)) ((0:Int),[]))))) ((0:Int),(0:Int))
def õ (a:Val am):Option ((Val ae)):=jm a some
def Bh (l:List (Val Ó)) (m:List (Int×Bool)):Option (List (Val Ó)) :=
  ë (î l.length) (some (l.filter fun g=>(t7 (k:=tI) (v:=.bool) g.1 m).getD false))
def uz (c:Val ae) (d:Int) (a:Int) (b:Val ak) (e:Int→Val ak→Option ρ) (f:Val ak→Option ρ):Option ρ :=
  ifb (ilt a d) (ā c a fun g=>ck (a+(1:Int)) fun h=>e h (On (k:=tI) (v:=.bool) g true b)) (f b)
def A7 (j:Val aa) (l:Int) (f:Val ac) (g:Val ab) (b:Int) (c:Val ak) (d:Val ak) (e:Int→Val ak→Val ak→Option ρ) (m:(Val (.pair ak ak))→Option ρ):Option ρ :=
  ifb (ilt b l) (ā j b fun a=>ifb (Ŏ a.1 0) (none) (ifb (Ŏ a.1 1) (ā f a.2 fun n=>ck (b+(1:Int)) fun o=>e o (On (k:=tI) (v:=.bool) n.1 true c) d) (ifb (Ŏ a.1 2) (ā f a.2 fun p=>ck (b+(1:Int)) fun q=>e q (On (k:=tI) (v:=.bool) p.1 true c) d) (ë (Ŏ a.1 3) (ā g a.2 fun r=>ā g a.2 fun s=>Ã (õ ([r.2.2.1,s.2.2.2.1])) fun h=>Î (fun(i:(Val (.pair tI ak))) t=>uz h (Û h) i.1 i.2 (fun u w=>t (u,w)) (fun x=>ck (b+(1:Int)) fun y=>e y x (On (k:=tI) (v:=.bool) a.2 true d))) ((0:Int),c)))))) (m (c,d))
def uw (c:Val aa) (d:Int) (a:Int) (b:Val ak) (e:Int→Val ak→Option ρ) (f:Val ak→Option ρ):Option ρ :=
  ifb (ilt a d) (ā c a fun g=>ck (a+(1:Int)) fun h=>e h (On (k:=tI) (v:=.bool) g.1 true b)) (f b)
def ut (e:Val aa) (f:Int) (g:Val ak) (a:Int) (b:Val aa) (c:Int→Val aa→Option ρ) (h:Val aa→Option ρ):Option ρ :=
  ifb (ilt a f) (ā e a fun d=>aah (k:=tI) (v:=.bool) d.1 g (fun i=>ifb i (ë (î ((List.length b)+(List.length ([d])))) (ck (a+(1:Int)) fun j=>c j (b++([d])))) (ck (a+(1:Int)) fun l=>c l b)) (ck (a+(1:Int)) fun m=>c m b)) (h b)
def ur (e:Val af) (f:Int) (g:Val ak) (a:Int) (b:Val af) (c:Int→Val af→Option ρ) (h:Val af→Option ρ):Option ρ :=
  ifb (ilt a f) (ā e a fun d=>aah (k:=tI) (v:=.bool) d.1 g (fun i=>ifb i (ë (î ((List.length b)+(List.length ([d])))) (ck (a+(1:Int)) fun j=>c j (b++([d])))) (ck (a+(1:Int)) fun l=>c l b)) (ck (a+(1:Int)) fun m=>c m b)) (h b)
def uq (e:Val ab) (f:Int) (g:Val ak) (a:Int) (b:Val ab) (d:Int→Val ab→Option ρ) (h:Val ab→Option ρ):Option ρ :=
  ifb (ilt a f) (ā e a fun c=>aah (k:=tI) (v:=.bool) a g (fun i=>ifb i (ë (î (List.length c.2.2.1)) (ë (î (List.length c.2.2.2.1)) (ë (î ((List.length b)+(List.length ([c])))) (ck (a+(1:Int)) fun j=>d j (b++([c])))))) (ck (a+(1:Int)) fun l=>d l b)) (ck (a+(1:Int)) fun m=>d m b)) (h b)
def oa (p:Val aS) (v:Val aj) (k:Val Å→Option ρ):Option ρ :=
  Î (fun(a:Val aF) d=>ut v.2.2.2.1 (Û v.2.2.2.1) v.2.2.2.2.2.2.2.2.2.2.2.2.2.2.2.2.2.2.2.2.2.1 a.1 a.2 (fun e f=>d (e,f)) (fun g=>Î (fun(b:(Val (.pair tI af))) h=>ur v.2.2.2.2.1 (Û v.2.2.2.2.1) v.2.2.2.2.2.2.2.2.2.2.2.2.2.2.2.2.2.2.2.2.2.1 b.1 b.2 (fun i j=>h (i,j)) (fun l=>Î (fun(c:(Val (.pair tI ab))) m=>uq v.2.2.2.2.2.1 (Û v.2.2.2.2.2.1) v.2.2.2.2.2.2.2.2.2.2.2.2.2.2.2.2.2.2.2.2.2.2.1 c.1 c.2 (fun n o=>m (n,o)) (fun q=>k ((p.1,p.2.1),v.2.2.2.2.2.2.2.2.2.2.2.2.2.2.2.2.2.2.2.2.2.2.2,g,l,q,p.2.2))) ((0:Int),[]))) ((0:Int),[]))) ((0:Int),[])
def GW (a:Val Å) (d:Val aa) (b:Val aa) (kA:Val aS→Val aj→Option ρ):Option ρ :=
  Î (fun(c:(Val (.pair tI (.pair ak ak)))) g=>A7 d (Û d) a.2.1 a.2.2.2.2.1 c.1 c.2.1 c.2.2 (fun h i j=>g (h,i,j)) (fun e=>Î (fun(f:(Val (.pair tI ak))) k=>uw b (Û b) f.1 f.2 (fun l m=>k (l,m)) (fun n=>kA (a.1.1,a.1.2,b) (a.1.1,a.1.2,a.2.1,a.2.2.1,a.2.2.2.1,a.2.2.2.2.1,a.2.2.2.2.2,(0:Int),(0:Int),[],[],[],[],[],a.1.1,a.1.2,a.2.1,a.2.2.1,a.2.2.2.1,a.2.2.2.2.1,a.2.2.2.2.2,n,e.2,[]))) ((0:Int),e.1))) ((0:Int),[],[])
def akC (a:Val Å) (b:Val aa) (c:Val aa) (k:Val Å→Option ρ):Option ρ :=
  GW a b c fun p v=>Ã (Bh v.2.2.2.2.2.2.2.2.2.2.2.2.2.2.2.2.1 v.2.2.2.2.2.2.2.2.2.2.2.2.2.2.2.2.2.2.2.2.2.1) fun z=>oa p (v.1,v.2.1,v.2.2.1,v.2.2.2.1,v.2.2.2.2.1,v.2.2.2.2.2.1,v.2.2.2.2.2.2.1,v.2.2.2.2.2.2.2.1,v.2.2.2.2.2.2.2.2.1,v.2.2.2.2.2.2.2.2.2.1,v.2.2.2.2.2.2.2.2.2.2.1,v.2.2.2.2.2.2.2.2.2.2.2.1,v.2.2.2.2.2.2.2.2.2.2.2.2.1,v.2.2.2.2.2.2.2.2.2.2.2.2.2.1,v.2.2.2.2.2.2.2.2.2.2.2.2.2.2.1,v.2.2.2.2.2.2.2.2.2.2.2.2.2.2.2.1,v.2.2.2.2.2.2.2.2.2.2.2.2.2.2.2.2.1,v.2.2.2.2.2.2.2.2.2.2.2.2.2.2.2.2.2.1,v.2.2.2.2.2.2.2.2.2.2.2.2.2.2.2.2.2.2.1,v.2.2.2.2.2.2.2.2.2.2.2.2.2.2.2.2.2.2.2.1,v.2.2.2.2.2.2.2.2.2.2.2.2.2.2.2.2.2.2.2.2.1,v.2.2.2.2.2.2.2.2.2.2.2.2.2.2.2.2.2.2.2.2.2.1,v.2.2.2.2.2.2.2.2.2.2.2.2.2.2.2.2.2.2.2.2.2.2.1,z) k
def Ss (a:Val Å) (b:Val aa) (c:Val aa):Option (Val Å):=akC a b c some
def KA (a:Val Ä) (b:Int) (c:Int) (k:Bool→Option ρ):Option ρ :=
  ifb (ile b a.1) (ifb (ile a.1 a.2) (k (ile a.2 c)) (k false)) (k false)
def ε (a:Val Ä) (b:Int) (c:Int):Option (Bool):=KA a b c some
def Ku (a:Int) (b:Int) (c:Int) (k:Bool→Option ρ):Option ρ :=
  ifb (ile b a) (k (ile a c)) (k false)
def ĥ (a:Int) (b:Int) (c:Int):Option (Bool):=Ku a b c some
def RI (a:Int) (k:Bool→Option ρ):Option ρ :=
  Ã (ĥ a (0:Int) (20000:Int)) fun b=>k b
def oy (a:Int):Option (Bool):=RI a some
def YV (a:Int) (k:Int→Option ρ):Option ρ :=
  ifb (ilt a 0) (k (IntKind.wrap .u64 (0-(IntKind.wrap .u64 a)))) (k (IntKind.wrap .u64 a))
def sO (a:Int):Option (Int):=YV a some
def Bb (b:Int) (a:Int) (c:Int→Int→Option ρ) (d:Int→Option ρ):Option ρ :=
  ifb (ine a 0) (ifb (Ŏ a 0) (none) (c a (Int.tmod b a))) (d b)
def afh (b:Int) (c:Int) (k:Int→Option ρ):Option ρ :=
  Î (fun(a:Val bg) d=>Bb a.1 a.2 (fun e f=>d (e,f)) (fun g=>k g)) (b,c)
def Su (a:Int) (b:Int):Option (Int):=afh a b some
def Rp (a:Val Ä) (k:Bool→Option ρ):Option ρ :=
  ifb (ige a.2 1) (ifb (ile a.2 2147483647) (Ã (sO a.1) fun b=>ifb (ile b 2147483647) (Ã (sO a.1) fun c=>Ã (sO a.2) fun d=>Ã (Su c d) fun e=>k (ieq e 1)) (k false)) (k false)) (k false)
def vp (a:Val Ä):Option (Bool):=Rp a some
def EH (a:Val Ó) (k:Bool→Option ρ):Option ρ :=
  Ã (vp a.2.2.2.2.1) fun b=>ifb b (Ã (ĥ a.2.2.2.2.1.1 (-1000:Int) (1000:Int)) fun c=>ifb c (Ã (ĥ a.1 (1:Int) (1099511627776:Int)) fun d=>ifb d (Ã (oy a.2.1) fun e=>ifb e (Ã (ĥ a.2.2.1 (1:Int) (1125899906842624:Int)) fun f=>ifb f (Ã (ε a.2.2.2.1 (-1073741824:Int) (1073741824:Int)) fun g=>ifb g (ifb (ile a.2.2.2.2.1.2 100) (Ã (ĥ a.2.2.2.2.2 (0:Int) (1048576:Int)) fun h=>k h) (k false)) (k false)) (k false)) (k false)) (k false)) (Ã (ĥ a.1 (1:Int) (1099511627776:Int)) fun i=>ifb i (Ã (oy a.2.1) fun j=>ifb j (Ã (ĥ a.2.2.1 (1:Int) (1125899906842624:Int)) fun l=>ifb l (Ã (ε a.2.2.2.1 (-1073741824:Int) (1073741824:Int)) fun m=>ifb m (k false) (k false)) (k false)) (k false)) (k false))) (Ã (ĥ a.1 (1:Int) (1099511627776:Int)) fun n=>ifb n (Ã (oy a.2.1) fun o=>ifb o (Ã (ĥ a.2.2.1 (1:Int) (1125899906842624:Int)) fun p=>ifb p (Ã (ε a.2.2.2.1 (-1073741824:Int) (1073741824:Int)) fun q=>ifb q (k false) (k false)) (k false)) (k false)) (k false))
def w9 (a:Val Ó):Option (Bool):=EH a some
def jo (e:Val ac) (f:Int) (g:Val ac) (a:Int) (b:Int→Option ρ) (c:Int→Option ρ) (h:Unit→Option ρ):Option ρ :=
  ifb (ilt a f) (ā e a fun d=>Ã (w9 d) fun i=>ifb (!i) (c (1:Int)) (ifb (igt a 0) (ck (a-(1:Int)) fun j=>ā g j fun k=>ifb (ile d.1 k.1) (c (6:Int)) (ck (a+(1:Int)) fun l=>b l)) (ck (a+(1:Int)) fun m=>b m))) (h ())
def qJ (a:Val Å) (k:Int→Option ρ):Option ρ :=
  Î (fun(b:Int) c=>jo a.2.1 (Û a.2.1) a.2.1 b (fun d=>c d) (fun e=>k e) (fun _=>k (0:Int))) (0:Int)
def Κ (a:Val Å):Option (Int):=qJ a some
def nu (d:Val ac) (e:Int) (a:Int) (b:Val aq) (f:Int→Val aq→Option ρ) (g:Val aq→Option ρ):Option ρ :=
  ifb (ilt a e) (ā d a fun c=>ck (a+(1:Int)) fun h=>f h (On (k:=tI) (v:=Ó) c.1 c b)) (g b)
def EE (a:Val Å) (k:Val aq→Option ρ):Option ρ :=
  Î (fun(b:(Val (.pair tI aq))) c=>nu a.2.1 (Û a.2.1) b.1 b.2 (fun d e=>c (d,e)) (fun f=>k f)) ((0:Int),[])
def hO (a:Val Å):Option ((Val aq)):=EE a some
def ir (b:Val ae) (c:Int) (d:Int) (a:Int) (e:Int→Option ρ) (f:Int→Option ρ) (g:Unit→Option ρ):Option ρ :=
  ifb (ilt a d) (ā b a fun h=>ifb (ieq c h) (f a) (ck (a+(1:Int)) fun i=>e i)) (g ())
def mH (a:Val ae) (b:Int) (k:Int→Option ρ):Option ρ :=
  Î (fun(c:Int) d=>ir a b (Û a) c (fun e=>d e) (fun f=>k f) (fun _=>k (-1:Int))) (0:Int)
def iE (a:Val ae) (b:Int):Option (Int):=mH a b some
def j4 (a:Val ae) (b:Int) (k:Bool→Option ρ):Option ρ :=
  Ã (iE a b) fun c=>k (ige c 0)
def ĵ (a:Val ae) (b:Int):Option (Bool):=j4 a b some
def wH (f:Val ab) (g:Int) (d:Int) (a:Int) (b:Val ae) (e:Int→Val ae→Option ρ) (h:Val ae→Option ρ):Option ρ :=
  ifb (ilt a g) (ā f a fun c=>Ã (ĵ c.2.2.1 d) fun i=>Ã (ĵ c.2.2.2.1 d) fun j=>ifb (!(i==j)) (ë (î ((List.length b)+(List.length ([c.2.1])))) (ck (a+(1:Int)) fun k=>e k (b++([c.2.1])))) (ck (a+(1:Int)) fun l=>e l b)) (h b)
def wG (e:Val aa) (f:Int) (g:Int) (a:Int) (b:Val ae) (d:Int→Val ae→Option ρ) (h:Val ae→Option ρ):Option ρ :=
  ifb (ilt a f) (ā e a fun c=>ifb (ieq c.1 g) (ë (î ((List.length b)+(List.length ([c.2])))) (ck (a+(1:Int)) fun i=>d i (b++([c.2])))) (ck (a+(1:Int)) fun j=>d j b)) (h b)
def Zj (a:Val Å) (b:Val Ó) (k:Val ae→Option ρ):Option ρ :=
  Î (fun(d:Val ar) f=>wH a.2.2.2.2.1 (Û a.2.2.2.2.1) b.1 d.1 d.2 (fun g h=>f (g,h)) (fun i=>Î (fun(e:Val ar) j=>wG a.2.2.2.2.2 (Û a.2.2.2.2.2) b.1 e.1 e.2 (fun l m=>j (l,m)) (fun c=>ë (î (List.length c)) (ë (î (List.length (Ff c))) (k (By (Ff c)))))) ((0:Int),i))) ((0:Int),[b.2.1])
def pF (a:Val Å) (b:Val Ó):Option ((Val ae)):=Zj a b some
def sw (e:Val ae) (f:Int) (c:Int) (a:Int) (b:Val aa) (g:Int→Val aa→Option ρ) (h:Val aa→Option ρ):Option ρ :=
  ifb (ilt a f) (ā e a fun d=>ë (î ((List.length b)+(List.length ([(c,d)])))) (ck (a+(1:Int)) fun i=>g i (b++([(c,d)])))) (h b)
def sF (f:Val ac) (g:Int) (h:Int) (i:Int) (j:Val ac) (k:Val aa) (l:Val af) (m:Val ab) (n:Val aa) (a:Int) (b:Val aa) (o:Int→Val aa→Option ρ) (p:Val aa→Option ρ):Option ρ :=
  ifb (ilt a g) (ā f a fun c=>Ã (pF ((h,i),j,k,l,m,n) c) fun d=>Î (fun(e:Val aF) q=>sw d (Û d) c.1 e.1 e.2 (fun r s=>q (r,s)) (fun t=>ck (a+(1:Int)) fun u=>o u t)) ((0:Int),b)) (p b)
def RD (a:Val Å) (k:Val aa→Option ρ):Option ρ :=
  Î (fun(b:Val aF) c=>sF a.2.1 (Û a.2.1) a.1.1 a.1.2 a.2.1 a.2.2.1 a.2.2.2.1 a.2.2.2.2.1 a.2.2.2.2.2 b.1 b.2 (fun d e=>c (d,e)) (fun f=>k f)) ((0:Int),[])
def re (a:Val Å):Option ((Val aa)):=RD a some
def tq (a:Val aq) (b:Int) (c:Int) (k:Int→Option ρ):Option ρ :=
  aah (k:=tI) (v:=Ó) b a (fun d=>ifb (ilt c d.2.1) (k (4:Int)) (k (0:Int))) (k (5:Int))
def jh (a:Val aq) (b:Int) (c:Int):Option (Int):=tq a b c some
def EG (b:Int) (a:Int) (c:(Val (.ptr aq))) (k:Int→Option ρ):Option ρ :=
  Ã (oy a) fun d=>ifb (!d) (k (1:Int)) (Ã (jh c b a) fun e=>k e)
def ŋ (a:Int) (b:Int) (c:(Val (.ptr aq))):Option (Int):=EG a b c some
def kz (d:Val af) (e:Int) (f:Int) (g:Int) (h:Int) (a:Int) (b:Int→Option ρ) (i:Int→Option ρ) (j:Unit→Option ρ):Option ρ :=
  ifb (ilt a e) (ā d a fun c=>ifb (ieq c.1 f) (ifb (ile c.2.1.1 h) (ifb (ile g c.2.1.2) (i a) (ck (a+(1:Int)) fun k=>b k)) (ck (a+(1:Int)) fun l=>b l)) (ck (a+(1:Int)) fun m=>b m)) (j ())
def δ (d:Val aa) (e:Int) (f:Int) (g:Int) (h:Int) (a:Int) (b:Int→Option ρ) (i:Int→Option ρ) (j:Unit→Option ρ):Option ρ :=
  ifb (ilt a e) (ā d a fun c=>ifb (ieq c.1 f) (Ã (ĥ c.2 g h) fun k=>ifb k (i a) (ck (a+(1:Int)) fun l=>b l)) (ck (a+(1:Int)) fun m=>b m)) (j ())
def wI (b:Val Å) (e:Val aq) (c:Int) (k:Int→Option ρ):Option ρ :=
  ā b.2.2.2.1 c fun a=>Ã (ε a.2.1 (0:Int) (20000:Int)) fun f=>ifb (!f) (k (1:Int)) (Ã (ĥ a.2.2 (0:Int) (1048576:Int)) fun g=>ifb (!g) (k (1:Int)) (Ã (jh e a.1 a.2.1.1) fun d=>ifb (ine d 0) (k d) (ë ((ile 0 c)&&(ile c (ĉ b.2.2.2.1))) (Î (fun(h:Int) i=>kz (List.take (Int.toNat c) b.2.2.2.1) (Û (List.take (Int.toNat c) b.2.2.2.1)) a.1 a.2.1.1 a.2.1.2 h (fun j=>i j) (fun l=>ifb (ige l 0) (k (9:Int)) (Î (fun(m:Int) n=>δ b.2.2.1 (Û b.2.2.1) a.1 a.2.1.1 a.2.1.2 m (fun o=>n o) (fun p=>ifb (ige p 0) (k (9:Int)) (k (0:Int))) (fun _=>k (0:Int))) (0:Int))) (fun _=>Î (fun(q:Int) r=>δ b.2.2.1 (Û b.2.2.1) a.1 a.2.1.1 a.2.1.2 q (fun s=>r s) (fun t=>ifb (ige t 0) (k (9:Int)) (k (0:Int))) (fun _=>k (0:Int))) (0:Int))) (0:Int)))))
def κ (a:Val Å) (b:Val aq) (c:Int):Option (Int):=wI a b c some
def wF (c:Int) (d:Val ae) (b:Val ae) (a:Int) (e:Int→Option ρ) (f:Int→Option ρ) (g:Unit→Option ρ):Option ρ :=
  ifb (ilt a c) (ë ((ile 0 a)&&(ilt a (ĉ b))) (Ĺ b (Int.toNat a) fun h=>Ã (ĵ d h) fun i=>ifb i (f a) (ck (a+(1:Int)) fun j=>e j))) (g ())
def kQ (f:Val ae) (b:Int) (c:Int) (a:Val ae) (d:Int→Int→Val ae→Option ρ) (g:Val ar→Option ρ):Option ρ :=
  ifb (ilt c (Û a)) (ë ((ile 0 c)&&(ilt c (ĉ a))) (Ĺ a (Int.toNat c) fun e=>Ã (ĵ f e) fun h=>ifb (!h) (ë ((ile 0 b)&&(ilt b (ĉ a))) (Ĺ a (Int.toNat b) fun l=>ck (b+(1:Int)) fun i=>ck (c+(1:Int)) fun j=>d i j (List.set a (Int.toNat b) e))) (ck (c+(1:Int)) fun k=>d b k a))) (g (b,a))
def Zb (b:Val ae) (e:Val ae) (k:Val ae→Option ρ):Option ρ :=
  ë (î (List.length b)) (Î (fun(f:Int) g=>wF (Û b) e b f (fun h=>g h) (fun c=>ifb (ieq c (-1:Int)) (k b) (ck (c+(1:Int)) fun i=>Î (fun(d:Val aK) j=>kQ e d.1 d.2.1 d.2.2 (fun l m n=>j (l,m,n)) (fun a=>ë ((ile 0 a.1)&&(ile a.1 (ĉ a.2))) (ë ((ile 0 a.1)&&(ile a.1 (ĉ (List.take (Int.toNat a.1) a.2++List.replicate (List.length a.2-(Int.toNat a.1)) (0:Int)++List.drop ((Int.toNat a.1)+(List.length a.2-(Int.toNat a.1))) a.2)))) (k (List.take (Int.toNat a.1) (List.drop 0 (List.take (Int.toNat a.1) a.2++List.replicate (List.length a.2-(Int.toNat a.1)) (0:Int)++List.drop ((Int.toNat a.1)+(List.length a.2-(Int.toNat a.1))) a.2))))))) (c,i,b))) (fun _=>k b)) (0:Int))
def ź (a:Val ae) (b:Val ae):Option ((Val ae)):=Zb a b some
def pw (e:Val ae) (f:Val ae) (g:Int) (a:Int) (b:Int→Option ρ) (c:Bool→Option ρ) (h:Unit→Option ρ):Option ρ :=
  ifb (ilt a g) (ā f a fun d=>Ã (ĥ d (1:Int) (1099511627776:Int)) fun i=>ifb (!i) (c false) (ifb (igt a 0) (ck (a-(1:Int)) fun j=>ā e j fun k=>ifb (ile d k) (c false) (ck (a+(1:Int)) fun l=>b l)) (ck (a+(1:Int)) fun m=>b m))) (h ())
def Kz (a:Val ae) (k:Bool→Option ρ):Option ρ :=
  Î (fun(b:Int) c=>pw a a (Û a) b (fun d=>c d) (fun e=>k e) (fun _=>k (ile (Û a) 6))) (0:Int)
def m8 (a:Val ae):Option (Bool):=Kz a some
def wJ (d:Val af) (e:Int) (f:Int) (g:Int) (a:Int) (c:Int→Option ρ) (h:Int→Option ρ) (i:Unit→Option ρ):Option ρ :=
  ifb (ilt a e) (ā d a fun b=>ifb (ieq b.1 f) (Ã (ĥ g b.2.1.1 b.2.1.2) fun j=>ifb j (h a) (ck (a+(1:Int)) fun k=>c k)) (ck (a+(1:Int)) fun l=>c l)) (i ())
def Zk (a:Val Å) (c:Int) (d:Int) (k:Val bc→Option ρ):Option ρ :=
  Î (fun(e:Int) f=>wJ a.2.2.2.1 (Û a.2.2.2.1) c d e (fun g=>f g) (fun b=>ifb (ilt b 0) (k (((0:Int),((0:Int),(0:Int)),(0:Int)),false)) (ā a.2.2.2.1 b fun h=>k (h,true))) (fun _=>k (((0:Int),((0:Int),(0:Int)),(0:Int)),false))) (0:Int)
def Bv (a:Val Å) (b:Int) (c:Int):Option ((Val bc)):=Zk a b c some
def iU (b:Val ab) (c:Int) (d:Int) (a:Int) (e:Int→Option ρ) (f:Int→Option ρ) (g:Unit→Option ρ):Option ρ :=
  ifb (ilt a c) (ā b a fun h=>ifb (ieq h.1 d) (f a) (ck (a+(1:Int)) fun i=>e i)) (g ())
def iT (c:Val aq) (b:Int) (d:Val ae) (e:Int) (f:Int) (a:Int) (g:Int→Option ρ) (h:Int→Option ρ) (i:Unit→Option ρ):Option ρ :=
  ifb (ilt a e) (ā d a fun j=>Ã (jh c j f) fun k=>ifb (ieq k b) (h b) (ck (a+(1:Int)) fun l=>g l)) (i ())
def ř (d:Val aq) (b:Val ae) (e:Int) (f:Int) (c:Val ae) (a:Int) (g:Int→Option ρ) (h:Int→Option ρ) (i:Unit→Option ρ):Option ρ :=
  ifb (ilt a e) (ë ((ile 0 a)&&(ilt a (ĉ c))) (Ĺ c (Int.toNat a) fun j=>Î (fun(k:Int) l=>iT d j b (Û b) f k (fun m=>l m) (fun n=>h n) (fun _=>ck (a+(1:Int)) fun o=>g o)) (0:Int))) (i ())
def Ř (b:Val ae) (c:Int) (d:Int) (e:Int) (f:Val ac) (g:Val aa) (h:Val af) (i:Val ab) (j:Val aa) (k:Int) (a:Int) (l:Int→Option ρ) (m:Int→Option ρ) (n:Unit→Option ρ):Option ρ :=
  ifb (ilt a c) (ā b a fun o=>Ã (Bv ((d,e),f,g,h,i,j) o k) fun p=>ifb p.2 (m (9:Int)) (ck (a+(1:Int)) fun q=>l q)) (n ())
def oO (b:Val Å) (f:Val aq) (c:Int) (k:Int→Option ρ):Option ρ :=
  ā b.2.2.2.2.1 c fun a=>Ã (ĥ a.1 (1:Int) (1099511627776:Int)) fun l=>ifb (!l) (k (1:Int)) (Ã (oy a.2.1) fun m=>ifb (!m) (k (1:Int)) (Ã (ĥ a.2.2.2.2.1 (-1125899906842624:Int) (1125899906842624:Int)) fun n=>ifb (!n) (k (1:Int)) (Ã (ĥ a.2.2.2.2.2.1 (0:Int) (1073741824:Int)) fun o=>ifb (!o) (k (1:Int)) (Ã (ε a.2.2.2.2.2.2 (-10000:Int) (10000:Int)) fun p=>ifb (!p) (k (1:Int)) (Ã (m8 a.2.2.1) fun q=>ifb (!q) (k (1:Int)) (Ã (m8 a.2.2.2.1) fun r=>ifb (!r) (k (1:Int)) (ë ((ile 0 c)&&(ile c (ĉ b.2.2.2.2.1))) (Î (fun(s:Int) t=>iU (List.take (Int.toNat c) b.2.2.2.2.1) (Û (List.take (Int.toNat c) b.2.2.2.2.1)) a.1 s (fun u=>t u) (fun v=>ifb (ige v 0) (k (6:Int)) (Ã (õ ([a.2.2.1,a.2.2.2.1])) fun d=>Î (fun(w:Int) x=>ř f d (Û ([(5:Int),(4:Int)])) a.2.1 ([(5:Int),(4:Int)]) w (fun y=>x y) (fun z=>k z) (fun _=>Î (fun(A:Int) B=>Ř d (Û d) b.1.1 b.1.2 b.2.1 b.2.2.1 b.2.2.2.1 b.2.2.2.2.1 b.2.2.2.2.2 a.2.1 A (fun C=>B C) (fun D=>k D) (fun _=>Ã (ź a.2.2.1 a.2.2.2.1) fun g=>Ã (ź a.2.2.2.1 a.2.2.1) fun h=>ifb (igt (Û g) 1) (k (1:Int)) (ifb (igt (Û h) 1) (k (1:Int)) (ck ((Û g)+(Û h)) fun E=>ifb (ieq E 0) (k (1:Int)) (k (0:Int)))))) (0:Int))) (0:Int))) (fun _=>Ã (õ ([a.2.2.1,a.2.2.2.1])) fun e=>Î (fun(F:Int) G=>ř f e (Û ([(5:Int),(4:Int)])) a.2.1 ([(5:Int),(4:Int)]) F (fun H=>G H) (fun I=>k I) (fun _=>Î (fun(J:Int) K=>Ř e (Û e) b.1.1 b.1.2 b.2.1 b.2.2.1 b.2.2.2.1 b.2.2.2.2.1 b.2.2.2.2.2 a.2.1 J (fun L=>K L) (fun M=>k M) (fun _=>Ã (ź a.2.2.1 a.2.2.2.1) fun i=>Ã (ź a.2.2.2.1 a.2.2.1) fun j=>ifb (igt (Û i) 1) (k (1:Int)) (ifb (igt (Û j) 1) (k (1:Int)) (ck ((Û i)+(Û j)) fun N=>ifb (ieq N 0) (k (1:Int)) (k (0:Int)))))) (0:Int))) (0:Int))) (0:Int)))))))))
def ō (a:Val Å) (b:Val aq) (c:Int):Option (Int):=oO a b c some
def om (b:Val Å) (s:Val aq):Option (List Int) :=
  Ã (PB (fun u=>ŋ u.1 u.2 s) (b.2.2.1:List (Int×Int))) fun a=>Ã (PB (fun i=>κ b s i) (yi (b.2.2.2.1:List (Val ő)).length)) fun c =>
    Ã (PB (fun i=>ō b s i) (yi (b.2.2.2.2.1:List (Val Ê)).length)) fun d=>Ã (PB (fun u=>ŋ u.1 u.2 s) (b.2.2.2.2.2:List (Int×Int))) fun e=>some (a++(c++(d++e)))
def RO (a:Val Å) (k:Int→Option ρ):Option ρ :=
  Ã (ε a.1 (0:Int) (1000000:Int)) fun d=>ifb (!d) (k (1:Int)) (ifb (igt (Û a.2.1) 12) (k (2:Int)) (ifb (igt (Û a.2.2.1) 40) (k (2:Int)) (ifb (igt (Û a.2.2.2.1) 12) (k (2:Int)) (ifb (igt (Û a.2.2.2.2.1) 40) (k (2:Int)) (ifb (igt (Û a.2.2.2.2.2) 10) (k (2:Int)) (Ã (Κ a) fun b=>ifb (ine b 0) (k b) (Ã (hO a) fun e=>aaM (om a e) (fun f=>k f) (Ã (re a) fun c=>ifb (igt (Û c) 59) (k (2:Int)) (ck ((2:Int)*(Û a.2.1)) fun g=>ck ((Û c)-(Û a.2.1)) fun h=>ck ((2:Int)*h) fun i=>ck (g+i) fun j=>ck ((2:Int)*(Û a.2.2.2.2.1)) fun l=>ck (j+l) fun m=>ifb (igt m 300) (k (2:Int)) (k (0:Int)))))))))))
def Ą (a:Val Å):Option (Int):=RO a some
def JE (a:Val Ê) (k:Bool→Option ρ):Option ρ :=
  ifb (ile (Û a.2.2.1) 10) (k (ile (Û a.2.2.2.1) 10)) (k false)
def pX (a:Val Ê):Option (Bool):=JE a some
def vJ (b:Val ab) (a:Int) (d:Int→Option ρ) (e:Bool→Option ρ) (c:Unit→Option ρ):Option ρ :=
  ifb (ilt a (Û b)) (ifb (ilt a 50) (ā b a fun f=>Ã (pX f) fun g=>ifb (!g) (e false) (ck (a+(1:Int)) fun h=>d h)) (c ())) (c ())
def XG (a:Val Å) (k:Bool→Option ρ):Option ρ :=
  Î (fun(b:Int) c=>vJ a.2.2.2.2.1 b (fun d=>c d) (fun e=>k e) (fun _=>ifb (ile (Û a.2.1) 14) (ifb (ile (Û a.2.2.1) 45) (ifb (ile (Û a.2.2.2.1) 14) (ifb (ile (Û a.2.2.2.2.1) 42) (k (ile (Û a.2.2.2.2.2) 12)) (k false)) (k false)) (k false)) (k false))) (0:Int)
def OC (a:Val Å):Option (Bool):=XG a some
def Ķ (c:Val aa) (d:Int) (e:Int) (f:Int) (a:Int) (g:Int→Option ρ) (h:Int→Option ρ) (i:Unit→Option ρ):Option ρ :=
  ifb (ilt a d) (ā c a fun b=>ifb ((Ŏ e b.1)&&((Ŏ f b.2)&&true)) (h a) (ck (a+(1:Int)) fun j=>g j)) (i ())
def Ε (a:Val aa) (b:Val Ä) (k:Int→Option ρ):Option ρ :=
  Î (fun(c:Int) d=>Ķ a (Û a) b.1 b.2 c (fun e=>d e) (fun f=>k f) (fun _=>k (-1:Int))) (0:Int)
def ă (a:Val aa) (b:Val Ä):Option (Int):=Ε a b some
def RN (a:Val Å) (d:Val Ä) (k:Val Ä→Option ρ):Option ρ :=
  Ã (Ą a) fun b=>ifb (ine b 0) (k ((0:Int),b)) (Ã (re a) fun e=>Ã (ă e d) fun c=>ifb (ilt c 0) (k ((0:Int),(5:Int))) (ck (c+(1:Int)) fun f=>k (f,(0:Int))))
def ţ (a:Val Å) (b:Val Ä):Option (Val Ä):=RN a b some
def Em (a:Val au) (b:Val Ä) (k:Int→Option ρ):Option ρ :=
  Ã (ţ a.1 b) fun c=>k c.1
def g9 (a:Val au) (b:Val Ä):Option (Int):=Em a b some
def iz (c:Val ah) (d:Int) (b:Int) (a:Int) (e:Int→Int→Option ρ) (f:Int→Option ρ):Option ρ :=
  ifb (ilt a d) (ā c a fun g=>ck (b+(Tp g.2.2 (0:Int))) fun h=>ck (a+(1:Int)) fun i=>e h i) (f b)
def š (f:Int) (d:Val ae) (a:Int) (b:Val az) (c:Val ae) (e:Int→Val az→Val ae→Option ρ) (g:Val aL→Option ρ):Option ρ :=
  ifb (ilt a f) (ë ((ile 0 a)&&(ilt a (ĉ d))) (Ĺ d (Int.toNat a) fun h=>ifb (ine h 1152921504606846976) (ë (î ((List.length c)+(List.length ([a])))) (ë ((ile 0 a)&&(ilt a (ĉ b))) (Ĺ b (Int.toNat a) fun k=>ck (a+(1:Int)) fun i=>e i (List.set b (Int.toNat a) true) (c++([a]))))) (ck (a+(1:Int)) fun j=>e j b c))) (g (b,c))
def jz (m:Val ak) (j:Int) (d:Int) (n:Val ah) (o:Int) (f:Int) (b:Val ae) (c:Val az) (e:Val ae) (g:Int→Val ae→Val az→Val ae→Option ρ) (l:(Val (.pair .bool (.pair ae aL)))→Option ρ) (p:(Val (.pair ae aL))→Option ρ):Option ρ :=
  ifb (ilt f o) (ā n f fun a=>ifb (ine a.1 d) (ck (f+(1:Int)) fun q=>g q b c e) (aah (k:=tI) (v:=.bool) f m (fun r=>ifb r (ck (f+(1:Int)) fun s=>g s b c e) (ë ((ile 0 d)&&(ilt d (ĉ b))) (Ĺ b (Int.toNat d) fun t=>ck (t+a.2.2) fun u=>ë ((ile 0 a.2.1)&&(ilt a.2.1 (ĉ b))) (Ĺ b (Int.toNat a.2.1) fun w=>ifb (ige u w) (ck (f+(1:Int)) fun x=>g x b c e) (ë ((ile 0 d)&&(ilt d (ĉ b))) (Ĺ b (Int.toNat d) fun y=>ck (y+a.2.2) fun h=>ë ((ile 0 a.2.1)&&(ilt a.2.1 (ĉ b))) (Ĺ b (Int.toNat a.2.1) fun M=>ë ((ile 0 a.2.1)&&(ilt a.2.1 (ĉ (List.set b (Int.toNat a.2.1) h)))) (Ĺ (List.set b (Int.toNat a.2.1) h) (Int.toNat a.2.1) fun z=>ifb (ilt z j) (l (false,(List.set b (Int.toNat a.2.1) h),c,e)) (ë ((ile 0 a.2.1)&&(ilt a.2.1 (ĉ c))) (Ĺ c (Int.toNat a.2.1) fun A=>ifb (!A) (ë (î ((List.length e)+(List.length ([a.2.1])))) (ë ((ile 0 a.2.1)&&(ilt a.2.1 (ĉ c))) (Ĺ c (Int.toNat a.2.1) fun N=>ck (f+(1:Int)) fun B=>g B (List.set b (Int.toNat a.2.1) h) (List.set c (Int.toNat a.2.1) true) (e++([a.2.1]))))) (ck (f+(1:Int)) fun C=>g C (List.set b (Int.toNat a.2.1) h) c e))))))))))) (ë ((ile 0 d)&&(ilt d (ĉ b))) (Ĺ b (Int.toNat d) fun D=>ck (D+a.2.2) fun E=>ë ((ile 0 a.2.1)&&(ilt a.2.1 (ĉ b))) (Ĺ b (Int.toNat a.2.1) fun F=>ifb (ige E F) (ck (f+(1:Int)) fun G=>g G b c e) (ë ((ile 0 d)&&(ilt d (ĉ b))) (Ĺ b (Int.toNat d) fun H=>ck (H+a.2.2) fun i=>ë ((ile 0 a.2.1)&&(ilt a.2.1 (ĉ b))) (Ĺ b (Int.toNat a.2.1) fun O=>ë ((ile 0 a.2.1)&&(ilt a.2.1 (ĉ (List.set b (Int.toNat a.2.1) i)))) (Ĺ (List.set b (Int.toNat a.2.1) i) (Int.toNat a.2.1) fun I=>ifb (ilt I j) (l (false,(List.set b (Int.toNat a.2.1) i),c,e)) (ë ((ile 0 a.2.1)&&(ilt a.2.1 (ĉ c))) (Ĺ c (Int.toNat a.2.1) fun J=>ifb (!J) (ë (î ((List.length e)+(List.length ([a.2.1])))) (ë ((ile 0 a.2.1)&&(ilt a.2.1 (ĉ c))) (Ĺ c (Int.toNat a.2.1) fun P=>ck (f+(1:Int)) fun K=>g K (List.set b (Int.toNat a.2.1) i) (List.set c (Int.toNat a.2.1) true) (e++([a.2.1]))))) (ck (f+(1:Int)) fun L=>g L (List.set b (Int.toNat a.2.1) i) c e)))))))))))) (p (b,c,e))
def ĺ (l:Val ak) (m:Int) (n:Int) (k:Val ah) (h:Val ae) (d:Val az) (b:Val ae) (c:Val ae) (o:Val ae→Val az→Val ae→Val ae→Option ρ) (i:(Val (.pair .bool aM))→Option ρ):Option ρ :=
  ifb (ieq (Û c) 0) (i (true,h,d,b,c)) (ë (ilt 0 (ĉ c)) (Ĺ c 0 fun a=>ë (ile 1 (ĉ c)) (ë (decide (1+(List.length c-1)=List.length c)) (ë ((ile 0 a)&&(ilt a (ĉ d))) (Ĺ d (Int.toNat a) fun x=>ë ((ile 0 a)&&(ilt a (ĉ b))) (Ĺ b (Int.toNat a) fun p=>ck (p+(1:Int)) fun e=>ë ((ile 0 a)&&(ilt a (ĉ b))) (Ĺ b (Int.toNat a) fun y=>ë ((ile 0 a)&&(ilt a (ĉ (List.set b (Int.toNat a) e)))) (Ĺ (List.set b (Int.toNat a) e) (Int.toNat a) fun q=>ck (n+(1:Int)) fun r=>ifb (igt q r) (i (false,h,(List.set d (Int.toNat a) false),(List.set b (Int.toNat a) e),(List.drop 1 c))) (Î (fun(f:(Val (.pair tI (.pair ae aL)))) s=>jz l m a k (Û k) f.1 f.2.1 f.2.2.1 f.2.2.2 (fun t u v w=>s (t,u,v,w)) (fun g=>i (g.1,g.2.1,g.2.2.1,(List.set b (Int.toNat a) e),g.2.2.2)) (fun j=>o j.1 j.2.1 (List.set b (Int.toNat a) e) j.2.2)) ((0:Int),h,(List.set d (Int.toNat a) false),(List.drop 1 c)))))))))))
def jy (c:Int) (d:Int) (a:Int) (b:Val ae) (e:Int→Val ae→Option ρ) (f:Val ae→Option ρ):Option ρ :=
  ifb (ilt a d) (ë ((ile 0 a)&&(ilt a (ĉ b))) (Ĺ b (Int.toNat a) fun g=>ck (g-c) fun h=>ë ((ile 0 a)&&(ilt a (ĉ b))) (Ĺ b (Int.toNat a) fun j=>ck (a+(1:Int)) fun i=>e i (List.set b (Int.toNat a) h)))) (f b)
def zJ (a:Val Ñ) (h:Val ak) (k:(Val (.pair ae .bool))→Option ρ):Option ρ :=
  ë ((ile 0 a.1)&&(î (Int.toNat a.1))) (ë ((ile 0 a.1)&&(î (Int.toNat a.1))) (ë ((ile 0 a.1)&&(î (Int.toNat a.1))) (Î (fun(e:Val Ä) i=>iz a.2 (Û a.2) e.1 e.2 (fun j l=>i (j,l)) (fun m=>Î (fun(d:(Val (.pair tI aL))) n=>š a.1 (List.replicate (Int.toNat a.1) (0:Int)) d.1 d.2.1 d.2.2 (fun o p q=>n (o,p,q)) (fun f=>Î (fun(c:Val aM) r=>ĺ h m a.1 a.2 c.1 c.2.1 c.2.2.1 c.2.2.2 (fun s t u v=>r (s,t,u,v)) (fun b=>ifb (!b.1) (k ([],false)) (ë (ilt 0 (ĉ b.2.1)) (Ĺ b.2.1 0 fun w=>Î (fun(g:Val ar) x=>jy w (Û b.2.1) g.1 g.2 (fun y z=>x (y,z)) (fun A=>k (A,true))) ((0:Int),b.2.1))))) ((List.replicate (Int.toNat a.1) (0:Int)),f.1,(List.replicate (Int.toNat a.1) (0:Int)),f.2))) ((0:Int),(List.replicate (Int.toNat a.1) false),[]))) ((0:Int),(0:Int)))))
def lh (a:Val Ñ) (b:Val ak):Option ((Val (.pair ae .bool))):=zJ a b some
def YM (b:Val Ñ) (a:Int) (k:Bool→Option ρ):Option ρ :=
  ifb (ige a 0) (k (ilt a b.1)) (k false)
def sN (a:Val Ñ) (b:Int):Option (Bool):=YM a b some
def sj (f:Val ah) (g:Int) (d:Int) (e:Val ah) (a:Int) (h:Int→Option ρ) (c:Val Ä→Option ρ) (i:Unit→Option ρ):Option ρ :=
  ifb (ilt a g) (ā f a fun b=>Ã (sN (d,e) b.1) fun j=>ifb (!j) (c ((1:Int),a)) (Ã (sN (d,e) b.2.1) fun k=>ifb (!k) (c ((1:Int),a)) (ifb (ieq b.1 b.2.1) (c ((1:Int),a)) (ifb (ilt b.2.2 (-4503599627370496:Int)) (c ((1:Int),a)) (ifb (igt b.2.2 4503599627370496) (c ((1:Int),a)) (ck (a+(1:Int)) fun l=>h l)))))) (i ())
def Q9 (a:Val Ñ) (k:Val Ä→Option ρ):Option ρ :=
  ifb (ilt a.1 1) (k ((1:Int),(-1:Int))) (ifb (igt a.1 60) (k ((1:Int),(-1:Int))) (ifb (igt (Û a.2) 300) (k ((2:Int),(-1:Int))) (Î (fun(c:Int) d=>sj a.2 (Û a.2) a.1 a.2 c (fun e=>d e) (fun b=>k (b.1,b.2)) (fun _=>k ((0:Int),(-1:Int)))) (0:Int))))
def ox (a:Val Ñ):Option (Val Ä):=Q9 a some
def sh (b:Val ae) (c:Int) (d:Int) (e:Val ah) (a:Int) (f:Int→Option ρ) (g:Int→Option ρ) (h:Unit→Option ρ):Option ρ :=
  ifb (ilt a c) (ā b a fun i=>Ã (sN (d,e) i) fun j=>ifb (!j) (g (1:Int)) (ck (a+(1:Int)) fun k=>f k)) (h ())
def Q1 (a:Val Ñ) (b:Val ae) (k:Int→Option ρ):Option ρ :=
  Ã (ox a) fun c=>ifb (ine c.1 0) (k c.1) (Î (fun(d:Int) e=>sh b (Û b) a.1 a.2 d (fun f=>e f) (fun g=>k g) (fun _=>Ã (lh a ([])) fun h=>ifb (!h.2) (k (9:Int)) (k (0:Int)))) (0:Int))
def IL (a:Val Ñ) (b:Val ae):Option (Int):=Q1 a b some
def pv (c:Int) (a:Int) (b:Val ae) (d:Int→Val ae→Option ρ) (e:Val ae→Option ρ):Option ρ :=
  ifb (ilt a c) (ë ((ile 0 a)&&(ilt a (ĉ b))) (Ĺ b (Int.toNat a) fun g=>ck (a+(1:Int)) fun f=>d f (List.set b (Int.toNat a) (1152921504606846976:Int)))) (e b)
def wt (c:Val ah) (d:Int) (b:Int) (a:Int) (e:Int→Int→Option ρ) (f:Int→Option ρ):Option ρ :=
  ifb (ilt a d) (ā c a fun g=>ck (b+(Tp g.2.2 (0:Int))) fun h=>ck (a+(1:Int)) fun i=>e h i) (f b)
def wq (f:Int) (d:Val ae) (a:Int) (b:Val az) (c:Val ae) (e:Int→Val az→Val ae→Option ρ) (g:Val aL→Option ρ):Option ρ :=
  ifb (ilt a f) (ë ((ile 0 a)&&(ilt a (ĉ d))) (Ĺ d (Int.toNat a) fun h=>ifb (ine h 1152921504606846976) (ë (î ((List.length c)+(List.length ([a])))) (ë ((ile 0 a)&&(ilt a (ĉ b))) (Ĺ b (Int.toNat a) fun k=>ck (a+(1:Int)) fun i=>e i (List.set b (Int.toNat a) true) (c++([a]))))) (ck (a+(1:Int)) fun j=>e j b c))) (g (b,c))
def Hp (m:Val ak) (j:Int) (d:Int) (n:Val ah) (o:Int) (f:Int) (b:Val ae) (c:Val az) (e:Val ae) (g:Int→Val ae→Val az→Val ae→Option ρ) (l:(Val (.pair .bool (.pair ae aL)))→Option ρ) (p:(Val (.pair ae aL))→Option ρ):Option ρ :=
  ifb (ilt f o) (ā n f fun a=>ifb (ine a.1 d) (ck (f+(1:Int)) fun q=>g q b c e) (aah (k:=tI) (v:=.bool) f m (fun r=>ifb r (ck (f+(1:Int)) fun s=>g s b c e) (ë ((ile 0 d)&&(ilt d (ĉ b))) (Ĺ b (Int.toNat d) fun t=>ck (t+a.2.2) fun u=>ë ((ile 0 a.2.1)&&(ilt a.2.1 (ĉ b))) (Ĺ b (Int.toNat a.2.1) fun w=>ifb (ige u w) (ck (f+(1:Int)) fun x=>g x b c e) (ë ((ile 0 d)&&(ilt d (ĉ b))) (Ĺ b (Int.toNat d) fun y=>ck (y+a.2.2) fun h=>ë ((ile 0 a.2.1)&&(ilt a.2.1 (ĉ b))) (Ĺ b (Int.toNat a.2.1) fun M=>ë ((ile 0 a.2.1)&&(ilt a.2.1 (ĉ (List.set b (Int.toNat a.2.1) h)))) (Ĺ (List.set b (Int.toNat a.2.1) h) (Int.toNat a.2.1) fun z=>ifb (ilt z j) (l (false,(List.set b (Int.toNat a.2.1) h),c,e)) (ë ((ile 0 a.2.1)&&(ilt a.2.1 (ĉ c))) (Ĺ c (Int.toNat a.2.1) fun A=>ifb (!A) (ë (î ((List.length e)+(List.length ([a.2.1])))) (ë ((ile 0 a.2.1)&&(ilt a.2.1 (ĉ c))) (Ĺ c (Int.toNat a.2.1) fun N=>ck (f+(1:Int)) fun B=>g B (List.set b (Int.toNat a.2.1) h) (List.set c (Int.toNat a.2.1) true) (e++([a.2.1]))))) (ck (f+(1:Int)) fun C=>g C (List.set b (Int.toNat a.2.1) h) c e))))))))))) (ë ((ile 0 d)&&(ilt d (ĉ b))) (Ĺ b (Int.toNat d) fun D=>ck (D+a.2.2) fun E=>ë ((ile 0 a.2.1)&&(ilt a.2.1 (ĉ b))) (Ĺ b (Int.toNat a.2.1) fun F=>ifb (ige E F) (ck (f+(1:Int)) fun G=>g G b c e) (ë ((ile 0 d)&&(ilt d (ĉ b))) (Ĺ b (Int.toNat d) fun H=>ck (H+a.2.2) fun i=>ë ((ile 0 a.2.1)&&(ilt a.2.1 (ĉ b))) (Ĺ b (Int.toNat a.2.1) fun O=>ë ((ile 0 a.2.1)&&(ilt a.2.1 (ĉ (List.set b (Int.toNat a.2.1) i)))) (Ĺ (List.set b (Int.toNat a.2.1) i) (Int.toNat a.2.1) fun I=>ifb (ilt I j) (l (false,(List.set b (Int.toNat a.2.1) i),c,e)) (ë ((ile 0 a.2.1)&&(ilt a.2.1 (ĉ c))) (Ĺ c (Int.toNat a.2.1) fun J=>ifb (!J) (ë (î ((List.length e)+(List.length ([a.2.1])))) (ë ((ile 0 a.2.1)&&(ilt a.2.1 (ĉ c))) (Ĺ c (Int.toNat a.2.1) fun P=>ck (f+(1:Int)) fun K=>g K (List.set b (Int.toNat a.2.1) i) (List.set c (Int.toNat a.2.1) true) (e++([a.2.1]))))) (ck (f+(1:Int)) fun L=>g L (List.set b (Int.toNat a.2.1) i) c e)))))))))))) (p (b,c,e))
def wp (l:Val ak) (m:Int) (n:Int) (k:Val ah) (h:Val ae) (d:Val az) (b:Val ae) (c:Val ae) (o:Val ae→Val az→Val ae→Val ae→Option ρ) (i:(Val (.pair .bool aM))→Option ρ):Option ρ :=
  ifb (ieq (Û c) 0) (i (true,h,d,b,c)) (ë (ilt 0 (ĉ c)) (Ĺ c 0 fun a=>ë (ile 1 (ĉ c)) (ë (decide (1+(List.length c-1)=List.length c)) (ë ((ile 0 a)&&(ilt a (ĉ d))) (Ĺ d (Int.toNat a) fun x=>ë ((ile 0 a)&&(ilt a (ĉ b))) (Ĺ b (Int.toNat a) fun p=>ck (p+(1:Int)) fun e=>ë ((ile 0 a)&&(ilt a (ĉ b))) (Ĺ b (Int.toNat a) fun y=>ë ((ile 0 a)&&(ilt a (ĉ (List.set b (Int.toNat a) e)))) (Ĺ (List.set b (Int.toNat a) e) (Int.toNat a) fun q=>ck (n+(1:Int)) fun r=>ifb (igt q r) (i (false,h,(List.set d (Int.toNat a) false),(List.set b (Int.toNat a) e),(List.drop 1 c))) (Î (fun(f:(Val (.pair tI (.pair ae aL)))) s=>Hp l m a k (Û k) f.1 f.2.1 f.2.2.1 f.2.2.2 (fun t u v w=>s (t,u,v,w)) (fun g=>i (g.1,g.2.1,g.2.2.1,(List.set b (Int.toNat a) e),g.2.2.2)) (fun j=>o j.1 j.2.1 (List.set b (Int.toNat a) e) j.2.2)) ((0:Int),h,(List.set d (Int.toNat a) false),(List.drop 1 c)))))))))))
def Ko (a:Val Ñ) (i:Val ak) (b:Int) (k:Val ae→Option ρ):Option ρ :=
  ë ((ile 0 a.1)&&(î (Int.toNat a.1))) (Î (fun(f:Val ar) j=>pv (Û (List.replicate (Int.toNat a.1) (0:Int))) f.1 f.2 (fun l m=>j (l,m)) (fun c=>ë ((ile 0 b)&&(ilt b (ĉ c))) (Ĺ c (Int.toNat b) fun B=>ë ((ile 0 a.1)&&(î (Int.toNat a.1))) (ë ((ile 0 a.1)&&(î (Int.toNat a.1))) (Î (fun(g:Val Ä) n=>wt a.2 (Û a.2) g.1 g.2 (fun o p=>n (o,p)) (fun q=>Î (fun(e:(Val (.pair tI aL))) r=>wq a.1 (List.set c (Int.toNat b) (0:Int)) e.1 e.2.1 e.2.2 (fun s t u=>r (s,t,u)) (fun h=>Î (fun(d:Val aM) v=>wp i q a.1 a.2 d.1 d.2.1 d.2.2.1 d.2.2.2 (fun w x y z=>v (w,x,y,z)) (fun A=>k A.2.1)) ((List.set c (Int.toNat b) (0:Int)),h.1,(List.replicate (Int.toNat a.1) (0:Int)),h.2))) ((0:Int),(List.replicate (Int.toNat a.1) false),[]))) ((0:Int),(0:Int))))))) ((0:Int),(List.replicate (Int.toNat a.1) (0:Int))))
def Bt (a:Val Ñ) (b:Val ak) (c:Int):Option ((Val ae)):=Ko a b c some
def Rg (a:Val Ñ) (b:Int) (c:Int) (k:Val Ä→Option ρ):Option ρ :=
  Ã (IL a ([b,c])) fun d=>ifb (ine d 0) (k ((0:Int),d)) (Ã (Bt a ([]) b) fun f=>ā f c fun e=>ifb (ieq e 1152921504606846976) (k ((0:Int),(5:Int))) (k (e,(0:Int))))
def qZ (a:Val Ñ) (b:Int) (c:Int):Option (Val Ä):=Rg a b c some
def s7 (a:Val au) (b:Int) (c:Int) (k:Int→Option ρ):Option ρ :=
  Ã (qZ a.2 c b) fun d=>k d.1
def Ď (a:Val au) (b:Int) (c:Int):Option (Int):=s7 a b c some
def sZ (a:Val au) (b:Val Ä) (k:Int→Option ρ):Option ρ :=
  Ã (g9 a b) fun c=>Ã (Ď a (0:Int) c) fun d=>ck (0-d) fun e=>k e
def g8 (a:Val au) (b:Val Ä):Option (Int):=sZ a b some
def mS (a:Val au) (b:Val Ä) (k:Int→Option ρ):Option ρ :=
  Ã (g9 a b) fun c=>Ã (Ď a c (0:Int)) fun d=>k d
def iF (a:Val au) (b:Val Ä):Option (Int):=mS a b some
def mR (a:Val au) (b:Val Ä) (k:Val Ä→Option ρ):Option ρ :=
  Ã (g8 a b) fun c=>Ã (iF a b) fun d=>k (c,d)
def Α (a:Val au) (b:Val Ä):Option (Val Ä):=mR a b some
def Aa (b:Val aU) (a:Val ae) (c:Int) (k:Int→Option ρ):Option ρ :=
  ifb (ieq (Û a) 0) (k (0:Int)) (ā a (0:Int) fun d=>Ã (ă b.2.1 (d,c)) fun e=>ck (e+(1:Int)) fun f=>k f)
def iN (a:Val aU) (b:Val ae) (c:Int):Option (Int):=Aa a b c some
def oN (b:Val aq) (a:Val ae) (k:Val Ä→Option ρ):Option ρ :=
  ifb (ieq (Û a) 0) (k ((0:Int),(1:Int))) (ā a (0:Int) fun c=>aah (k:=tI) (v:=Ó) c b (fun d=>k d.2.2.2.2.1) (k ((0:Int),(0:Int))))
def jd (a:Val aq) (b:Val ae):Option (Val Ä):=oN a b some
def sq (b:Val aa) (c:Int) (a:Int) (d:Int→Option ρ) (e:Int→Option ρ) (f:Unit→Option ρ):Option ρ :=
  ifb (ilt a c) (ā b a fun g=>Ã (vp g) fun h=>ifb (!h) (e (1:Int)) (ck (a+(1:Int)) fun i=>d i)) (f ())
def Ri (a:Val aa) (k:Int→Option ρ):Option ρ :=
  Î (fun(b:Int) c=>sq a (Û a) b (fun d=>c d) (fun e=>k e) (fun _=>k (0:Int))) (0:Int)
def kq (a:Val aa):Option (Int):=Ri a some
def EC (d:Int) (e:Int) (k:Val Ļ→Option ρ):Option ρ :=
  Ã (sO d) fun b=>Ã (sO e) fun c=>Ã (Su b c) fun a=>ifb (Ŏ a 0) (none) (ifb (Ŏ a 0) (none) (ifb (igt (IntKind.wrap .u64 (Int.tdiv b a)) 2147483647) (k (((0:Int),(0:Int)),(3:Int))) (ifb (igt (IntKind.wrap .u64 (Int.tdiv c a)) 2147483647) (k (((0:Int),(0:Int)),(3:Int))) (ifb (!((ilt d 0)==(ilt e 0))) (ck (0-(IntKind.wrap .i64 (IntKind.wrap .u64 (Int.tdiv b a)))) fun f=>k ((f,(IntKind.wrap .i64 (IntKind.wrap .u64 (Int.tdiv c a)))),(0:Int))) (k (((IntKind.wrap .i64 (IntKind.wrap .u64 (Int.tdiv b a))),(IntKind.wrap .i64 (IntKind.wrap .u64 (Int.tdiv c a)))),(0:Int)))))))
def rc (a:Int) (b:Int):Option (Val Ļ):=EC a b some
def afl (a:Val Ä) (b:Val Ä) (k:Val Ļ→Option ρ):Option ρ :=
  Ã (kq ([a,b])) fun c=>ifb (ine c 0) (k (((0:Int),(0:Int)),c)) (ck (a.1*b.2) fun e=>ck (b.1*a.2) fun f=>ck (e-f) fun g=>ck (a.2*b.2) fun h=>Ã (rc g h) fun d=>k (d.1,d.2))
def ZJ (a:Val Ä) (b:Val Ä):Option (Val Ļ):=afl a b some
def wy (a:Val Ä) (b:Val Ä) (k:Val Ä→Option ρ):Option ρ :=
  Ã (ZJ a b) fun c=>k c.1
def w8 (a:Val Ä) (b:Val Ä):Option (Val Ä):=wy a b some
def afj (a:Val Ä) (b:Val Ä) (k:Int→Option ρ):Option ρ :=
  ck (a.1*b.2) fun c=>ck (b.1*a.2) fun d=>ifb ((Ŏ a.1 b.1)&&((Ŏ a.2 b.2)&&true)) (k (0:Int)) (ifb (ilt c d) (k (-1:Int)) (ifb (igt c d) (k (1:Int)) (k (0:Int))))
def Sv (a:Val Ä) (b:Val Ä):Option (Int):=afj a b some
def tp (a:Val í) (k:Bool→Option ρ):Option ρ :=
  Ã (kq ([a.1,a.2])) fun b=>ifb (ieq b 0) (Ã (Sv a.1 a.2) fun c=>k (ile c 0)) (k false)
def tD (a:Val í):Option (Bool):=tp a some
def afn (a:Val Ä) (b:Val Ä) (k:Val Ļ→Option ρ):Option ρ :=
  Ã (kq ([a,b])) fun c=>ifb (ine c 0) (k (((0:Int),(0:Int)),c)) (ck (a.1*b.1) fun e=>ck (a.2*b.2) fun f=>Ã (rc e f) fun d=>k (d.1,d.2))
def Sx (a:Val Ä) (b:Val Ä):Option (Val Ļ):=afn a b some
def Rr (c:Val í) (d:Val Ä) (k:Val tN→Option ρ):Option ρ :=
  Ã (tD c) fun e=>ifb (!e) (k ((((0:Int),(0:Int)),(0:Int),(0:Int)),(1:Int))) (Ã (vp d) fun f=>ifb (!f) (k ((((0:Int),(0:Int)),(0:Int),(0:Int)),(1:Int))) (Ã (Sx d c.1) fun a=>ifb (ine a.2 0) (k ((((0:Int),(0:Int)),(0:Int),(0:Int)),a.2)) (Ã (Sx d c.2) fun b=>ifb (ine b.2 0) (k ((((0:Int),(0:Int)),(0:Int),(0:Int)),b.2)) (Ã (Sv a.1 b.1) fun g=>ifb (igt g 0) (k ((b.1,a.1),(0:Int))) (k ((a.1,b.1),(0:Int)))))))
def Sw (a:Val í) (b:Val Ä):Option (Val tN):=Rr a b some
def wx (b:Val Ä) (a:Val Ä) (k:Val í→Option ρ):Option ρ :=
  Ã (Sw ((a.1,(1:Int)),a.2,(1:Int)) b) fun c=>k c.1
def pE (a:Val Ä) (b:Val Ä):Option (Val í):=wx a b some
def KB (c:Val Å) (a:Val Ê) (k:Val í→Option ρ):Option ρ :=
  Ã (hO c) fun b=>Ã (ź a.2.2.1 a.2.2.2.1) fun d=>Ã (jd b d) fun e=>Ã (ź a.2.2.2.1 a.2.2.1) fun f=>Ã (jd b f) fun g=>Ã (w8 e g) fun h=>Ã (pE h a.2.2.2.2.2.2) fun i=>k i
def qe (a:Val Å) (b:Val Ê):Option (Val í):=KB a b some
def RK (a:Val Å) (b:Val Ê) (k:Val Ä→Option ρ):Option ρ :=
  ck ((Û b.2.2.1)-(1:Int)) fun c=>ck ((Û b.2.2.2.1)-(1:Int)) fun d=>ck ((Oy (0:Int) c)*a.1.1) fun e=>ck ((Oy (0:Int) d)*a.1.2) fun f=>ck (e-f) fun g=>ck ((Oy (0:Int) c)*a.1.2) fun h=>ck ((Oy (0:Int) d)*a.1.1) fun i=>ck (h-i) fun j=>k (g,j)
def vr (a:Val Å) (b:Val Ê):Option (Val Ä):=RK a b some
def HB (b:Int) (a:Int) (k:Int→Option ρ):Option ρ :=
  ifb (Ŏ a 0) (none) (ck (Int.tdiv b a) fun c=>ifb (Ŏ a 0) (none) (ifb (ilt (Int.tmod b a) 0) (ck (c-1) fun d=>k d) (k c)))
def vn (a:Int) (b:Int):Option (Int):=HB a b some
def Y1 (a:Val Ä) (k:Val Ä→Option ρ):Option ρ :=
  Ã (kq ([a])) fun b=>ifb (ine b 0) (k ((0:Int),b)) (ck (0-a.1) fun c=>Ã (vn c a.2) fun d=>ck (0-d) fun e=>k (e,(0:Int)))
def IM (a:Val Ä):Option (Val Ä):=Y1 a some
def Ru (a:Val Ä) (k:Val Ä→Option ρ):Option ρ :=
  Ã (kq ([a])) fun b=>ifb (ine b 0) (k ((0:Int),b)) (Ã (vn a.1 a.2) fun c=>k (c,(0:Int)))
def Ax (a:Val Ä):Option (Val Ä):=Ru a some
def Y5 (b:Val Å) (a:Val Ê) (k:Val Ä→Option ρ):Option ρ :=
  Ã (qe b a) fun c=>Ã (vr b a) fun d=>Ã (Ax c.2) fun e=>Ã (IM c.1) fun f=>ck (a.2.2.2.2.1-a.2.2.2.2.2.1) fun g=>ck (g-d.2) fun h=>ck (h-e.1) fun i=>ck (a.2.2.2.2.1+a.2.2.2.2.2.1) fun j=>ck (j-d.1) fun l=>ck (l-f.1) fun m=>k (i,m)
def w7 (a:Val Å) (b:Val Ê):Option (Val Ä):=Y5 a b some
def wE (f:Int) (g:Int) (h:Val af) (i:Int) (j:Int) (b:Int) (a:Int) (d:Int→Int→Option ρ) (k:Int→Option ρ):Option ρ :=
  ifb (ilt a i) (ā h a fun c=>ck (g-(1:Int)) fun l=>ck ((Tp c.2.1.2 l)-(Oy c.2.1.1 f)) fun m=>ck (m+1) fun e=>ifb (ieq c.1 j) (ifb (igt e 0) (ck (e*c.2.2) fun n=>ck (b+n) fun o=>ck (a+(1:Int)) fun p=>d o p) (ck (a+(1:Int)) fun q=>d b q)) (ck (a+(1:Int)) fun r=>d b r)) (k b)
def wD (e:Int) (f:Int) (g:Val aa) (h:Int) (i:Int) (a:Int) (b:Val ae) (d:Int→Val ae→Option ρ) (j:Val ae→Option ρ):Option ρ :=
  ifb (ilt a h) (ā g a fun c=>ifb (ieq c.1 i) (ck (f-(1:Int)) fun k=>Ã (ĥ c.2 e k) fun l=>ifb l (ë (î ((List.length b)+(List.length ([c.2])))) (ck (a+(1:Int)) fun m=>d m (b++([c.2])))) (ck (a+(1:Int)) fun n=>d n b)) (ck (a+(1:Int)) fun o=>d o b)) (j b)
def Y8 (a:Val Å) (b:Val Ó) (d:Int) (e:Int) (k:Int→Option ρ):Option ρ :=
  Î (fun(f:Val Ä) h=>wE d e a.2.2.2.1 (Û a.2.2.2.1) b.1 f.1 f.2 (fun i j=>h (i,j)) (fun l=>Î (fun(g:Val ar) m=>wD d e a.2.2.1 (Û a.2.2.1) b.1 g.1 g.2 (fun n o=>m (n,o)) (fun c=>ë (î (List.length c)) (ë (î (List.length (Ff c))) (ck ((Û (By (Ff c)))*b.2.2.2.2.2) fun p=>ck (l+p) fun q=>k q)))) ((0:Int),[]))) ((0:Int),(0:Int))
def Bu (a:Val Å) (b:Val Ó) (c:Int) (d:Int):Option (Int):=Y8 a b c d some
def wB (b:Int) (e:Val ae) (h:Int) (j:Int) (k:Int) (l:Val ac) (m:Val aa) (n:Val af) (o:Val ab) (p:Val aa) (q:Int) (r:Int) (s:Int) (t:Int) (u:Int) (v:Int) (w:Int) (x:Int) (a:Int) (f:Val ah) (g:Val aa) (y:Int→Val ah→Val aa→Option ρ) (z:Val xl→Option ρ):Option ρ :=
  ifb (ilt a (Û e)) (ck (h+a) fun A=>ck (A-1) fun c=>ck (h+a) fun d=>ck (a-(1:Int)) fun B=>ā e B fun C=>ā e a fun D=>Ã (Bu ((j,k),l,m,n,o,p) (q,r,s,(t,u),(v,w),x) C D) fun E=>ck (0-E) fun F=>ck (0-F) fun i=>ë (î ((List.length f)+(List.length ([(c,d,(0:Int)),(d,c,i)])))) (ë (î ((List.length g)+(List.length ([((2:Int),b),((2:Int),b)])))) (ck (a+(1:Int)) fun G=>y G (f++([(c,d,(0:Int)),(d,c,i)])) (g++([((2:Int),b),((2:Int),b)]))))) (z (f,g))
def wC (q:Val ac) (r:Int) (f:Int) (g:Int) (h:Val ac) (i:Val aa) (j:Val af) (k:Val ab) (l:Val aa) (s:Val aa) (t:Int) (b:Int) (d:Val ah) (e:Val aa) (u:Int→Val ah→Val aa→Option ρ) (v:Val xl→Option ρ):Option ρ :=
  ifb (ilt b r) (ā q b fun a=>Ã (pF ((f,g),h,i,j,k,l) a) fun w=>Ã (iN (((f,g),h,i,j,k,l),s,(t,d),e) ([a.1]) a.2.1) fun c=>ck (a.2.2.1+a.2.2.2.1.1) fun x=>ck (a.2.2.1+a.2.2.2.1.2) fun n=>ck (0-x) fun o=>ë (î ((List.length d)+(List.length ([((0:Int),c,n),(c,(0:Int),o)])))) (ë (î ((List.length e)+(List.length ([((1:Int),b),((1:Int),b)])))) (Î (fun(m:Val aO) y=>wB b w c f g h i j k l a.1 a.2.1 a.2.2.1 a.2.2.2.1.1 a.2.2.2.1.2 a.2.2.2.2.1.1 a.2.2.2.2.1.2 a.2.2.2.2.2 m.1 m.2.1 m.2.2 (fun z A B=>y (z,A,B)) (fun p=>ck (b+(1:Int)) fun C=>u C p.1 p.2)) ((1:Int),(d++([((0:Int),c,n),(c,(0:Int),o)])),(e++([((1:Int),b),((1:Int),b)])))))) (v (d,e))
def wA (r:Val ab) (s:Int) (g:Int) (h:Int) (i:Val ac) (j:Val aa) (k:Val af) (l:Val ab) (m:Val aa) (o:Val aa) (p:Int) (a:Int) (c:Val ah) (d:Val aa) (t:Int→Val ah→Val aa→Option ρ) (u:Val xl→Option ρ):Option ρ :=
  ifb (ilt a s) (ā r a fun b=>Ã (ź b.2.2.2.1 b.2.2.1) fun v=>Ã (iN (((g,h),i,j,k,l,m),o,(p,c),d) v b.2.1) fun e=>Ã (ź b.2.2.1 b.2.2.2.1) fun w=>Ã (iN (((g,h),i,j,k,l,m),o,(p,c),d) w b.2.1) fun f=>Ã (w7 ((g,h),i,j,k,l,m) b) fun n=>ck (0-n.1) fun q=>ë (î ((List.length c)+(List.length ([(e,f,n.2),(f,e,q)])))) (ë (î ((List.length d)+(List.length ([((3:Int),a),((3:Int),a)])))) (ck (a+(1:Int)) fun x=>t x (c++([(e,f,n.2),(f,e,q)])) (d++([((3:Int),a),((3:Int),a)]))))) (u (c,d))
def Y7 (a:Val Å) (k:Val aU→Option ρ):Option ρ :=
  Ã (re a) fun b=>ck ((Û b)+(1:Int)) fun c=>Î (fun(d:Val aO) h=>wC a.2.1 (Û a.2.1) a.1.1 a.1.2 a.2.1 a.2.2.1 a.2.2.2.1 a.2.2.2.2.1 a.2.2.2.2.2 b c d.1 d.2.1 d.2.2 (fun i j l=>h (i,j,l)) (fun f=>Î (fun(e:Val aO) m=>wA a.2.2.2.2.1 (Û a.2.2.2.2.1) a.1.1 a.1.2 a.2.1 a.2.2.1 a.2.2.2.1 a.2.2.2.2.1 a.2.2.2.2.2 b c e.1 e.2.1 e.2.2 (fun n o p=>m (n,o,p)) (fun g=>k (a,b,(c,g.1),g.2))) ((0:Int),f.1,f.2))) ((0:Int),[],[])
def IQ (a:Val Å):Option ((Val aU)):=Y7 a some
def KG (a:Val Å) (k:(Val (.pair Ñ (.pair aa tI)))→Option ρ):Option ρ :=
  Ã (Ą a) fun b=>ifb (ine b 0) (k (((0:Int),[]),[],b)) (Ã (IQ a) fun c=>k (c.2.2.1,c.2.2.2,(0:Int)))
def ĭ (a:Val Å):Option ((Val (.pair Ñ (.pair aa tI)))):=KG a some
def wL (f:Int) (a:Int) (c:Val ab) (g:Int→Val ab→Option ρ) (h:Val ab→Option ρ):Option ρ :=
  ifb (ilt a f) (ë ((ile 0 a)&&(ilt a (ĉ c))) (Ĺ c (Int.toNat a) fun d=>ë (î (List.length d.2.2.1)) (ë (î (List.length d.2.2.2.1)) (ë ((ile 0 a)&&(ilt a (ĉ c))) (Ĺ c (Int.toNat a) fun b=>ë ((ile 0 a)&&(ilt a (ĉ (List.set c (Int.toNat a) (b.1,b.2.1,d.2.2.1,b.2.2.2))))) (Ĺ (List.set c (Int.toNat a) (b.1,b.2.1,d.2.2.1,b.2.2.2)) (Int.toNat a) fun e=>ck (a+(1:Int)) fun i=>g i (List.set (List.set c (Int.toNat a) (b.1,b.2.1,d.2.2.1,b.2.2.2)) (Int.toNat a) (e.1,e.2.1,e.2.2.1,d.2.2.2.1,e.2.2.2.2)))))))) (h c)
def Zo (a:Val Å) (b:Val Ä) (k:Val aH→Option ρ):Option ρ :=
  Ã (Ą a) fun c=>ifb (ine c 0) (k ((((0:Int),(0:Int)),[],[],[],[],[]),c)) (ë (î (List.length a.2.1)) (ë (î (List.length a.2.2.1)) (ë (î (List.length a.2.2.2.1)) (ë (î (List.length a.2.2.2.2.2)) (ë (î (List.length a.2.2.2.2.1)) (Î (fun(d:(Val (.pair tI ab))) g=>wL (Û a.2.2.2.2.1) d.1 d.2 (fun h i=>g (h,i)) (fun e=>ë (î ((List.length a.2.2.2.2.2)+(List.length ([b])))) (Ã (Ą (a.1,a.2.1,a.2.2.1,a.2.2.2.1,e,(a.2.2.2.2.2++([b])))) fun f=>ifb (ine f 0) (k ((((0:Int),(0:Int)),[],[],[],[],[]),f)) (k ((a.1,a.2.1,a.2.2.1,a.2.2.2.1,e,(a.2.2.2.2.2++([b]))),(0:Int)))))) ((0:Int),a.2.2.2.2.1)))))))
def jW (a:Val Å) (b:Val Ä):Option ((Val aH)):=Zo a b some
def tj (a:Val Ñ) (k:Val aW→Option ρ):Option ρ :=
  Ã (ox a) fun b=>ifb (ine b.1 0) (k (false,b.1)) (Ã (lh a ([])) fun c=>k (c.2,(0:Int)))
def ę (a:Val Ñ):Option ((Val aW)):=tj a some
def Č (m:Int) (j:Val aa) (b:Int) (c:Int) (d:Int) (e:Val ac) (f:Val aa) (g:Val af) (h:Val ab) (i:Val aa) (k:Int→Int→Int→Val ac→Val aa→Val af→Val ab→Val aa→Option ρ) (n:Val aD→Option ρ) (o:Val ai→Option ρ):Option ρ :=
  ifb (ilt b m) (ë ((ile 0 b)&&(ilt b (ĉ j))) (Ĺ j (Int.toNat b) fun l=>Ã (ţ ((c,d),e,f,g,h,i) l) fun p=>ifb (ieq p.2 0) (ck (b+(1:Int)) fun q=>k q c d e f g h i) (Ã (jW ((c,d),e,f,g,h,i) l) fun a=>ifb (ine a.2 0) (n (a.2,c,d,e,f,g,h,i)) (ck (b+(1:Int)) fun r=>k r a.1.1.1 a.1.1.2 a.1.2.1 a.1.2.2.1 a.1.2.2.2.1 a.1.2.2.2.2.1 a.1.2.2.2.2.2)))) (o (c,d,e,f,g,h,i))
def zE (a:Val Å) (e:Val Ä) (k:Val Ļ→Option ρ):Option ρ :=
  Ã (Ą a) fun f=>ifb (ine f 0) (ë (ine f 0) (k (((0:Int),(0:Int)),f))) (Î (fun(b:Val aD) h=>Č (Û ([e])) ([e]) b.1 b.2.1 b.2.2.1 b.2.2.2.1 b.2.2.2.2.1 b.2.2.2.2.2.1 b.2.2.2.2.2.2.1 b.2.2.2.2.2.2.2 (fun i j l m n o p q=>h (i,j,l,m,n,o,p,q)) (fun g=>ë (ine g.1 0) (k (((0:Int),(0:Int)),g.1))) (fun c=>Ã (ĭ ((c.1,c.2.1),c.2.2)) fun d=>ifb (ine d.2.2 0) (ë (ine d.2.2 0) (k (((0:Int),(0:Int)),d.2.2))) (Ã (ę d.1) fun r=>ifb (!r.1) (k (((0:Int),(0:Int)),(9:Int))) (Ã (Α (((c.1,c.2.1),c.2.2),d.1) e) fun s=>k (s,(0:Int)))))) ((0:Int),a.1.1,a.1.2,a.2.1,a.2.2.1,a.2.2.2.1,a.2.2.2.2.1,a.2.2.2.2.2))
def ow (a:Val Å) (b:Val Ä):Option (Val Ļ):=zE a b some
def tg (m:Int) (j:Val aa) (b:Int) (c:Int) (d:Int) (e:Val ac) (f:Val aa) (g:Val af) (h:Val ab) (i:Val aa) (k:Int→Int→Int→Val ac→Val aa→Val af→Val ab→Val aa→Option ρ) (n:Val aD→Option ρ) (o:Val ai→Option ρ):Option ρ :=
  ifb (ilt b m) (ë ((ile 0 b)&&(ilt b (ĉ j))) (Ĺ j (Int.toNat b) fun l=>Ã (ţ ((c,d),e,f,g,h,i) l) fun p=>ifb (ieq p.2 0) (ck (b+(1:Int)) fun q=>k q c d e f g h i) (Ã (jW ((c,d),e,f,g,h,i) l) fun a=>ifb (ine a.2 0) (n (a.2,c,d,e,f,g,h,i)) (ck (b+(1:Int)) fun r=>k r a.1.1.1 a.1.1.2 a.1.2.1 a.1.2.2.1 a.1.2.2.2.1 a.1.2.2.2.2.1 a.1.2.2.2.2.2)))) (o (c,d,e,f,g,h,i))
def Ew (b:Val Å) (e:Val Ä) (f:Val Ä) (k:Val Ļ→Option ρ):Option ρ :=
  Ã (Ą b) fun g=>ifb (ine g 0) (ë (ine g 0) (k (((0:Int),(0:Int)),g))) (Î (fun(c:Val aD) l=>tg (Û ([e,f])) ([e,f]) c.1 c.2.1 c.2.2.1 c.2.2.2.1 c.2.2.2.2.1 c.2.2.2.2.2.1 c.2.2.2.2.2.2.1 c.2.2.2.2.2.2.2 (fun m n o p q r s t=>l (m,n,o,p,q,r,s,t)) (fun h=>ë (ine h.1 0) (k (((0:Int),(0:Int)),h.1))) (fun a=>Ã (ĭ ((a.1,a.2.1),a.2.2)) fun d=>ifb (ine d.2.2 0) (ë (ine d.2.2 0) (k (((0:Int),(0:Int)),d.2.2))) (Ã (ę d.1) fun u=>ifb (!u.1) (k (((0:Int),(0:Int)),(9:Int))) (Ã (g9 (((a.1,a.2.1),a.2.2),d.1) e) fun i=>Ã (g9 (((a.1,a.2.1),a.2.2),d.1) f) fun j=>Ã (Ď (((a.1,a.2.1),a.2.2),d.1) j i) fun v=>ck (0-v) fun w=>Ã (Ď (((a.1,a.2.1),a.2.2),d.1) i j) fun x=>k ((w,x),(0:Int)))))) ((0:Int),b.1.1,b.1.2,b.2.1,b.2.2.1,b.2.2.2.1,b.2.2.2.2.1,b.2.2.2.2.2))
def wZ (a:Val Å) (b:Val Ä) (c:Val Ä):Option (Val Ļ):=Ew a b c some
def Ek (a:Val Ä) (b:Val Ä) (k:Int→Option ρ):Option ρ :=
  ifb (ile b.1 a.1) (ifb (ile a.2 b.2) (k (1:Int)) (ifb (ilt a.2 b.1) (k (2:Int)) (ifb (ilt b.2 a.1) (k (2:Int)) (k (3:Int))))) (ifb (ilt a.2 b.1) (k (2:Int)) (ifb (ilt b.2 a.1) (k (2:Int)) (k (3:Int))))
def qV (a:Val Ä) (b:Val Ä):Option (Int):=Ek a b some
def zD (m:Int) (j:Val aa) (b:Int) (c:Int) (d:Int) (e:Val ac) (f:Val aa) (g:Val af) (h:Val ab) (i:Val aa) (k:Int→Int→Int→Val ac→Val aa→Val af→Val ab→Val aa→Option ρ) (n:Val aD→Option ρ) (o:Val ai→Option ρ):Option ρ :=
  ifb (ilt b m) (ë ((ile 0 b)&&(ilt b (ĉ j))) (Ĺ j (Int.toNat b) fun l=>Ã (ţ ((c,d),e,f,g,h,i) l) fun p=>ifb (ieq p.2 0) (ck (b+(1:Int)) fun q=>k q c d e f g h i) (Ã (jW ((c,d),e,f,g,h,i) l) fun a=>ifb (ine a.2 0) (n (a.2,c,d,e,f,g,h,i)) (ck (b+(1:Int)) fun r=>k r a.1.1.1 a.1.1.2 a.1.2.1 a.1.2.2.1 a.1.2.2.2.1 a.1.2.2.2.2.1 a.1.2.2.2.2.2)))) (o (c,d,e,f,g,h,i))
def QR (b:Val Å) (f:Val Ä) (a:Val Ä) (k:Val Ä→Option ρ):Option ρ :=
  Ã (Ą b) fun g=>ifb (ine g 0) (ifb (ine g 0) (k ((0:Int),g)) (ë (igt a.1 a.2) (k ((0:Int),(1:Int))))) (Î (fun(c:Val aD) i=>zD (Û ([f])) ([f]) c.1 c.2.1 c.2.2.1 c.2.2.2.1 c.2.2.2.2.1 c.2.2.2.2.2.1 c.2.2.2.2.2.2.1 c.2.2.2.2.2.2.2 (fun j l m n o p q r=>i (j,l,m,n,o,p,q,r)) (fun h=>ifb (ine h.1 0) (k ((0:Int),h.1)) (ë (igt a.1 a.2) (k ((0:Int),(1:Int))))) (fun d=>Ã (ĭ ((d.1,d.2.1),d.2.2)) fun e=>ifb (ine e.2.2 0) (ifb (ine e.2.2 0) (k ((0:Int),e.2.2)) (ë (igt a.1 a.2) (k ((0:Int),(1:Int))))) (Ã (ę e.1) fun s=>ifb (!s.1) (k ((0:Int),(9:Int))) (ifb (igt a.1 a.2) (k ((0:Int),(1:Int))) (Ã (Α (((d.1,d.2.1),d.2.2),e.1) f) fun t=>Ã (qV t a) fun u=>k (u,(0:Int))))))) ((0:Int),b.1.1,b.1.2,b.2.1,b.2.2.1,b.2.2.2.1,b.2.2.2.2.1,b.2.2.2.2.2))
def II (a:Val Å) (b:Val Ä) (c:Val Ä):Option (Val Ä):=QR a b c some
def Ba (c:Int) (a:Int) (b:Val ae) (d:Int→Val ae→Option ρ) (e:Val ae→Option ρ):Option ρ :=
  ifb (ilt a c) (ë ((ile 0 a)&&(ilt a (ĉ b))) (Ĺ b (Int.toNat a) fun g=>ck (a+(1:Int)) fun f=>d f (List.set b (Int.toNat a) (1152921504606846976:Int)))) (e b)
def YN (c:Int) (a:Int) (b:Val ae) (d:Int→Val ae→Option ρ) (e:Val ae→Option ρ):Option ρ :=
  ifb (ilt a c) (ë ((ile 0 a)&&(ilt a (ĉ b))) (Ĺ b (Int.toNat a) fun g=>ck (a+(1:Int)) fun f=>d f (List.set b (Int.toNat a) (1152921504606846976:Int)))) (e b)
def Ho (d:Val ae) (f:Val ah) (g:Int) (c:Int) (b:Val ae) (e:Int→Val ae→Option ρ) (h:Val ae→Option ρ):Option ρ :=
  ifb (ilt c g) (ā f c fun a=>ā d a.2.1 fun i=>ifb (ine i 1152921504606846976) (ë ((ile 0 a.1)&&(ilt a.1 (ĉ b))) (Ĺ b (Int.toNat a.1) fun j=>ā d a.2.1 fun k=>ck (a.2.2+k) fun l=>ë ((ile 0 a.1)&&(ilt a.1 (ĉ b))) (Ĺ b (Int.toNat a.1) fun o=>ck (c+(1:Int)) fun m=>e m (List.set b (Int.toNat a.1) (Tp j l))))) (ck (c+(1:Int)) fun n=>e n b)) (h b)
def Ou (i:Int) (b:Int) (d:Val ah) (e:Int) (a:Val am) (j:Int→Val am→Option ρ) (k:Val am→Option ρ):Option ρ :=
  ifb (ilt e i) (ck ((Û a)-(1:Int)) fun c=>ë ((ile 0 c)&&(ilt c (ĉ a))) (Ĺ a (Int.toNat c) fun l=>ë ((ile 0 b)&&(î (Int.toNat b))) (Î (fun(f:Val ar) m=>YN (Û (List.replicate (Int.toNat b) (0:Int))) f.1 f.2 (fun n o=>m (n,o)) (fun p=>Î (fun(g:Val ar) q=>Ho l d (Û d) g.1 g.2 (fun r s=>q (r,s)) (fun h=>ë (î ((List.length a)+(List.length ([h])))) (ck (e+(1:Int)) fun t=>j t (a++([h]))))) ((0:Int),p))) ((0:Int),(List.replicate (Int.toNat b) (0:Int)))))) (k a)
def QZ (a:Val Ñ) (b:Int) (f:Int) (k:Val am→Option ρ):Option ρ :=
  ë ((ile 0 a.1)&&(î (Int.toNat a.1))) (Î (fun(d:Val ar) g=>Ba (Û (List.replicate (Int.toNat a.1) (0:Int))) d.1 d.2 (fun h i=>g (h,i)) (fun c=>ë ((ile 0 b)&&(ilt b (ĉ c))) (Ĺ c (Int.toNat b) fun o=>Î (fun(e:Val aP) j=>Ou f a.1 a.2 e.1 e.2 (fun l m=>j (l,m)) (fun n=>k n)) ((0:Int),[(List.set c (Int.toNat b) (0:Int))])))) ((0:Int),(List.replicate (Int.toNat a.1) (0:Int))))
def As (a:Val Ñ) (b:Int) (c:Int):Option ((Val am)):=QZ a b c some
def sn (b:Val am) (c:Int) (d:Int) (e:Int) (a:Int) (f:Int→Option ρ) (g:Int→Option ρ) (h:Unit→Option ρ):Option ρ :=
  ifb (ilt a c) (ā b a fun i=>ā i d fun j=>ifb (ieq j e) (g a) (ck (a+(1:Int)) fun k=>f k)) (h ())
def Mo (g:Int) (h:Val am) (j:Val ah) (k:Int) (l:Int) (e:Int) (b:Int) (a:Int) (c:Val ae) (f:Int→Int→Int→Val ae→Option ρ) (i:Val aK→Option ρ):Option ρ :=
  ifb (ilt a k) (ā j a fun d=>ifb (ieq d.1 e) (ck (g-(1:Int)) fun m=>ā h m fun n=>ā n d.2.1 fun o=>ifb (ine o 1152921504606846976) (ck (b+d.2.2) fun p=>ck (g-(1:Int)) fun q=>ā h q fun r=>ā r d.2.1 fun s=>ck (p+s) fun t=>ifb (ieq t l) (ë (î ((List.length c)+(List.length ([a])))) (ck (b+d.2.2) fun u=>i (d.2.1,u,(c++([a]))))) (ck (a+(1:Int)) fun v=>f e b v c)) (ck (a+(1:Int)) fun w=>f e b w c)) (ck (a+(1:Int)) fun x=>f e b x c)) (i (e,b,c))
def sm (f:Val am) (g:Int) (d:Val ah) (h:Int) (b:Int) (i:Int) (e:Val ae) (j:Int→Int→Int→Val ae→Option ρ) (k:Val ae→Option ρ):Option ρ :=
  ifb (igt b 0) (Î (fun(a:Val bf) l=>Mo b f d (Û d) g a.1 a.2.1 a.2.2.1 a.2.2.2 (fun m n o p=>l (m,n,o,p)) (fun c=>ck (b-(1:Int)) fun q=>j c.1 q c.2.1 c.2.2)) (h,i,(0:Int),e)) (k e)
def Re (a:Val Ñ) (c:Int) (g:Int) (k:Val aI→Option ρ):Option ρ :=
  Ã (qZ a c g) fun b=>ifb (ine b.2 0) (k ([],b.2)) (Ã (As a g a.1) fun d=>Î (fun(h:Int) i=>sn d (Û d) c b.1 h (fun j=>i j) (fun l=>Î (fun(e:Val bf) m=>sm d b.1 a.2 e.1 e.2.1 e.2.2.1 e.2.2.2 (fun n o p q=>m (n,o,p,q)) (fun r=>k (r,(0:Int)))) (c,l,(0:Int),[])) (fun _=>Î (fun(f:Val bf) s=>sm d b.1 a.2 f.1 f.2.1 f.2.2.1 f.2.2.2 (fun t u v w=>s (t,u,v,w)) (fun x=>k (x,(0:Int)))) (c,(-1:Int),(0:Int),[]))) (0:Int))
def Aw (a:Val Ñ) (b:Int) (c:Int):Option ((Val aI)):=Re a b c some
def wh (a:Val au) (c:Val aT) (d:(Val (.ptr .bool))) (k:Val ae→Option ρ):Option ρ :=
  Ã (g9 a c) fun b=>ifb d (Ã (Aw a.2 (0:Int) b) fun e=>k e.1) (Ã (Aw a.2 b (0:Int)) fun f=>k f.1)
def l9 (a:Val au) (b:Val aT) (c:(Val (.ptr .bool))):Option ((Val ae)):=wh a b c some
def nq (d:Val aa) (e:Val ae) (f:Int) (a:Int) (b:Val aa) (g:Int→Val aa→Option ρ) (h:Val aa→Option ρ):Option ρ :=
  ifb (ilt a f) (ā e a fun i=>ā d i fun c=>ë (î ((List.length b)+(List.length ([c])))) (ck (a+(1:Int)) fun j=>g j (b++([c])))) (h b)
def El (c:Val Å) (a:Val ae) (k:Val aa→Option ρ):Option ρ :=
  Ã (ĭ c) fun d=>Î (fun(b:Val aF) e=>nq d.2.1 a (Û a) b.1 b.2 (fun f g=>e (f,g)) (fun h=>k h)) ((0:Int),[])
def qW (a:Val Å) (b:Val ae):Option ((Val aa)):=El a b some
def tf (m:Int) (j:Val aa) (b:Int) (c:Int) (d:Int) (e:Val ac) (f:Val aa) (g:Val af) (h:Val ab) (i:Val aa) (k:Int→Int→Int→Val ac→Val aa→Val af→Val ab→Val aa→Option ρ) (n:Val aD→Option ρ) (o:Val ai→Option ρ):Option ρ :=
  ifb (ilt b m) (ë ((ile 0 b)&&(ilt b (ĉ j))) (Ĺ j (Int.toNat b) fun l=>Ã (ţ ((c,d),e,f,g,h,i) l) fun p=>ifb (ieq p.2 0) (ck (b+(1:Int)) fun q=>k q c d e f g h i) (Ã (jW ((c,d),e,f,g,h,i) l) fun a=>ifb (ine a.2 0) (n (a.2,c,d,e,f,g,h,i)) (ck (b+(1:Int)) fun r=>k r a.1.1.1 a.1.1.2 a.1.2.1 a.1.2.2.1 a.1.2.2.2.1 a.1.2.2.2.2.1 a.1.2.2.2.2.2)))) (o (c,d,e,f,g,h,i))
def td (a:Int) (b:Int) (d:Int→Option ρ) (c:Unit→Option ρ):Option ρ :=
  ifb (ilt b a) (none) (c ())
def Eu (d:Val Å) (b:Val Ä) (f:Bool) (k:(Val (.pair hZ tI))→Option ρ):Option ρ :=
  Ã (Ą d) fun i=>ifb (ine i 0) (ë (ine i 0) (k (((((0:Int),(0:Int)),[],[],[],[],[]),((0:Int),(0:Int)),false,(0:Int),[]),i))) (Î (fun(e:Val aD) n=>tf (Û ([b])) ([b]) e.1 e.2.1 e.2.2.1 e.2.2.2.1 e.2.2.2.2.1 e.2.2.2.2.2.1 e.2.2.2.2.2.2.1 e.2.2.2.2.2.2.2 (fun o p q r s t u v=>n (o,p,q,r,s,t,u,v)) (fun l=>ë (ine l.1 0) (k (((((0:Int),(0:Int)),[],[],[],[],[]),((0:Int),(0:Int)),false,(0:Int),[]),l.1))) (fun a=>Ã (ĭ ((a.1,a.2.1),a.2.2)) fun c=>ifb (ine c.2.2 0) (ë (ine c.2.2 0) (k (((((0:Int),(0:Int)),[],[],[],[],[]),((0:Int),(0:Int)),false,(0:Int),[]),c.2.2))) (Ã (ę c.1) fun w=>ifb (!w.1) (k (((((0:Int),(0:Int)),[],[],[],[],[]),((0:Int),(0:Int)),false,(0:Int),[]),(9:Int))) (Ã (l9 (((a.1,a.2.1),a.2.2),c.1) b f) fun x=>Ã (qW ((a.1,a.2.1),a.2.2) x) fun y=>Ã (Ss ((a.1,a.2.1),a.2.2) y ([b])) fun g=>Ã (Ą g) fun j=>ifb (ine j 0) (ifb (ine j 0) (k (((((0:Int),(0:Int)),[],[],[],[],[]),((0:Int),(0:Int)),false,(0:Int),[]),j)) (Ã (g8 (((a.1,a.2.1),a.2.2),c.1) b) fun F=>none)) (Î (fun(z:Int) A=>td (0:Int) z (fun B=>A B) (fun _=>Ã (ĭ g) fun h=>ifb (ine h.2.2 0) (ifb (ine h.2.2 0) (k (((((0:Int),(0:Int)),[],[],[],[],[]),((0:Int),(0:Int)),false,(0:Int),[]),h.2.2)) (Ã (g8 (((a.1,a.2.1),a.2.2),c.1) b) fun G=>none)) (Ã (ę h.1) fun C=>ifb (!C.1) (k (((((0:Int),(0:Int)),[],[],[],[],[]),((0:Int),(0:Int)),false,(0:Int),[]),(9:Int))) (Ã (g8 (((a.1,a.2.1),a.2.2),c.1) b) fun D=>Ã (l9 (g,h.1) b f) fun m=>ifb f (Ã (iF (((a.1,a.2.1),a.2.2),c.1) b) fun E=>k ((g,b,f,E,m),(0:Int))) (k ((g,b,f,D,m),(0:Int))))))) (0:Int)))))) ((0:Int),d.1.1,d.1.2,d.2.1,d.2.2.1,d.2.2.2.1,d.2.2.2.2.1,d.2.2.2.2.2))
def wY (a:Val Å) (b:Val Ä) (c:Bool):Option ((Val (.pair hZ tI))):=Eu a b c some
def nt (d:Val ae) (e:Int) (f:Val ah) (a:Int) (g:Int→Option ρ) (b:Int→Option ρ) (h:Unit→Option ρ):Option ρ :=
  ifb (ilt a e) (ā d a fun c=>ifb (ilt c 0) (b a) (ifb (ige c (Û f)) (b a) (ck (a+(1:Int)) fun i=>g i))) (h ())
def Ey (b:Val Ñ) (a:Val ae) (k:Int→Option ρ):Option ρ :=
  ifb (igt (Û a) 80) (k (2:Int)) (Î (fun(c:Int) d=>nt a (Û a) b.2 c (fun e=>d e) (fun f=>ifb (ige f 0) (k (1:Int)) (k (0:Int))) (fun _=>k (0:Int))) (0:Int))
def qY (a:Val Ñ) (b:Val ae):Option (Int):=Ey a b some
def wn (e:Val ae) (f:Int) (g:Val ah) (c:Int) (d:Int) (a:Int) (h:Int→Int→Int→Option ρ) (i:(Val (.pair tI (.pair tI .bool)))→Option ρ) (j:Val Ä→Option ρ):Option ρ :=
  ifb (ilt a f) (ā e a fun k=>ā g k fun b=>ifb (ine b.1 c) (i ((0:Int),(0:Int),false)) (ck (d+b.2.2) fun l=>ck (a+(1:Int)) fun m=>h b.2.1 l m)) (j (c,d))
def YL (e:Val Ñ) (f:Int) (c:Val ae) (k:(Val (.pair tI (.pair tI .bool)))→Option ρ):Option ρ :=
  Î (fun(a:Val ú) g=>wn c (Û c) e.2 a.1 a.2.1 a.2.2 (fun h i j=>g (h,i,j)) (fun b=>k (b.1,b.2.1,b.2.2)) (fun d=>k (d.1,d.2,true))) (f,(0:Int),(0:Int))
def IK (a:Val Ñ) (b:Int) (c:Val ae):Option ((Val (.pair tI (.pair tI .bool)))):=YL a b c some
def tm (a:Val Ñ) (c:Int) (d:Int) (e:Val ae) (k:Val Ä→Option ρ):Option ρ :=
  Ã (ox a) fun f=>ifb (ine f.1 0) (k ((0:Int),f.1)) (Ã (sN a c) fun h=>ifb (!h) (k ((0:Int),(1:Int))) (Ã (sN a d) fun i=>ifb (!i) (k ((0:Int),(1:Int))) (Ã (qY a e) fun g=>ifb (ine g 0) (k ((0:Int),g)) (Ã (IK a c e) fun b=>ifb (!b.2.2) (k ((0:Int),(8:Int))) (ifb (ine b.1 d) (k ((0:Int),(8:Int))) (k (b.2.1,(0:Int))))))))
def kp (a:Val Ñ) (b:Int) (c:Int) (d:Val ae):Option (Val Ä):=tm a b c d some
def wg (a:Val hZ) (k:Int→Option ρ):Option ρ :=
  Ã (Ą a.1) fun c=>ifb (ine c 0) (k c) (Ã (ţ a.1 a.2.1) fun b=>ifb (ine b.2 0) (k (5:Int)) (Ã (ĭ a.1) fun d=>ck (0-a.2.2.2.1) fun g=>ifb a.2.2.1 (Ã (kp d.1 (0:Int) b.1 a.2.2.2.2) fun e=>ifb (ine e.2 0) (k (8:Int)) (ifb (ine e.1 a.2.2.2.1) (k (8:Int)) (k (0:Int)))) (Ã (kp d.1 b.1 (0:Int) a.2.2.2.2) fun f=>ifb (ine f.2 0) (k (8:Int)) (ifb (ine f.1 g) (k (8:Int)) (k (0:Int))))))
def l8 (a:Val hZ):Option (Int):=wg a some
def wK (f:Int) (a:Int) (c:Val ab) (g:Int→Val ab→Option ρ) (h:Val ab→Option ρ):Option ρ :=
  ifb (ilt a f) (ë ((ile 0 a)&&(ilt a (ĉ c))) (Ĺ c (Int.toNat a) fun d=>ë (î (List.length d.2.2.1)) (ë (î (List.length d.2.2.2.1)) (ë ((ile 0 a)&&(ilt a (ĉ c))) (Ĺ c (Int.toNat a) fun b=>ë ((ile 0 a)&&(ilt a (ĉ (List.set c (Int.toNat a) (b.1,b.2.1,d.2.2.1,b.2.2.2))))) (Ĺ (List.set c (Int.toNat a) (b.1,b.2.1,d.2.2.1,b.2.2.2)) (Int.toNat a) fun e=>ck (a+(1:Int)) fun i=>g i (List.set (List.set c (Int.toNat a) (b.1,b.2.1,d.2.2.1,b.2.2.2)) (Int.toNat a) (e.1,e.2.1,e.2.2.1,d.2.2.2.1,e.2.2.2.2)))))))) (h c)
def Zl (a:Val Å) (b:Val Ê) (k:Val aH→Option ρ):Option ρ :=
  ë (î (List.length b.2.2.1)) (ë (î (List.length b.2.2.2.1)) (Ã (Ą a) fun d=>ifb (ine d 0) (k ((((0:Int),(0:Int)),[],[],[],[],[]),d)) (ë (î (List.length a.2.1)) (ë (î (List.length a.2.2.1)) (ë (î (List.length a.2.2.2.1)) (ë (î (List.length a.2.2.2.2.2)) (ë (î (List.length a.2.2.2.2.1)) (Î (fun(e:(Val (.pair tI ab))) g=>wK (Û a.2.2.2.2.1) e.1 e.2 (fun h i=>g (h,i)) (fun c=>ë (î ((List.length c)+(List.length ([b])))) (Ã (Ą (a.1,a.2.1,a.2.2.1,a.2.2.2.1,(c++([b])),a.2.2.2.2.2)) fun f=>ifb (ine f 0) (k ((((0:Int),(0:Int)),[],[],[],[],[]),f)) (k ((a.1,a.2.1,a.2.2.1,a.2.2.2.1,(c++([b])),a.2.2.2.2.2),(0:Int)))))) ((0:Int),a.2.2.2.2.1)))))))))
def pG (a:Val Å) (b:Val Ê):Option ((Val aH)):=Zl a b some
def Ry (b:Val Å) (a:Val Ê) (c:Val Ä) (k:Val Ļ→Option ρ):Option ρ :=
  Ã (qe b a) fun d=>Ã (vr b a) fun e=>Ã (IM d.1) fun h=>Ã (Ax d.2) fun i=>ck (h.1+e.1) fun j=>ck (j-a.2.2.2.2.2.1) fun f=>ck (i.1+e.2) fun l=>ck (l+a.2.2.2.2.2.1) fun g=>ifb (igt f g) (k (((0:Int),(0:Int)),(5:Int))) (ck (c.1+f) fun m=>ck (c.2+g) fun n=>k ((m,n),(0:Int)))
def vq (a:Val Å) (b:Val Ê) (c:Val Ä):Option (Val Ļ):=Ry a b c some
def EM (g:Val Å) (a:Val Ê) (k:Val Ļ→Option ρ):Option ρ :=
  Ã (pG g (a.1,a.2.1,a.2.2.1,a.2.2.2.1,(0:Int),a.2.2.2.2.2)) fun d=>ifb (ine d.2 0) (k (((0:Int),(0:Int)),d.2)) (Ã (IQ d.1) fun b=>ck ((Û b.2.2.1.2)-(2:Int)) fun c=>ë ((ile 0 c)&&(ile c (ĉ b.2.2.1.2))) (Ã (ź a.2.2.1 a.2.2.2.1) fun l=>Ã (iN b l a.2.1) fun h=>Ã (ź a.2.2.2.1 a.2.2.1) fun m=>Ã (iN b m a.2.1) fun i=>Ã (qZ (b.2.2.1.1,(List.take (Int.toNat c) b.2.2.1.2)) i h) fun e=>ifb (ine e.2 0) (k (((0:Int),(0:Int)),e.2)) (Ã (qZ (b.2.2.1.1,(List.take (Int.toNat c) b.2.2.1.2)) h i) fun f=>ifb (ine f.2 0) (k (((0:Int),(0:Int)),f.2)) (ck (0-f.1) fun n=>Ã (vq g (a.1,a.2.1,a.2.2.1,a.2.2.2.1,(0:Int),a.2.2.2.2.2) (n,e.1)) fun j=>k (j.1,j.2)))))
def xa (a:Val Å) (b:Val Ê):Option (Val Ļ):=EM a b some
def Rw (a:Val Å) (b:Int) (k:(Val (.pair Ê tI))→Option ρ):Option ρ :=
  Ã (Ą a) fun c=>ifb (ine c 0) (k (((0:Int),(0:Int),[],[],(0:Int),(0:Int),(0:Int),(0:Int)),c)) (ifb (ilt b 0) (k (((0:Int),(0:Int),[],[],(0:Int),(0:Int),(0:Int),(0:Int)),(1:Int))) (ifb (ige b (Û a.2.2.2.2.1)) (k (((0:Int),(0:Int),[],[],(0:Int),(0:Int),(0:Int),(0:Int)),(1:Int))) (ā a.2.2.2.2.1 b fun d=>k (d,(0:Int)))))
def IP (a:Val Å) (b:Int):Option ((Val (.pair Ê tI))):=Rw a b some
def Zn (b:Val Å) (c:Int) (k:Val Ļ→Option ρ):Option ρ :=
  Ã (IP b c) fun a=>ifb (ine a.2 0) (k (((0:Int),(0:Int)),a.2)) (Ã (w7 b a.1) fun d=>k (d,(0:Int)))
def OI (a:Val Å) (b:Int):Option (Val Ļ):=Zn a b some
def KI (a:Val ae) (b:Val ae) (k:(Val (.pair ae aI))→Option ρ):Option ρ :=
  Ã (m8 a) fun c=>ifb (!c) (k ([],[],(1:Int))) (Ã (m8 b) fun d=>ifb (!d) (k ([],[],(1:Int))) (Ã (ź a b) fun e=>Ã (ź b a) fun f=>k (e,f,(0:Int))))
def vt (a:Val ae) (b:Val ae):Option ((Val (.pair ae aI))):=KI a b some
def zy (a:Val ae) (b:Val au) (c:(Val (.ptr Ê))) (k:Int→Option ρ):Option ρ :=
  ifb (ieq (Û a) 0) (k (0:Int)) (ā a (0:Int) fun d=>Ã (g9 b (d,c.2.1)) fun e=>k e)
def ou (a:Val ae) (b:Val au) (c:(Val (.ptr Ê))):Option (Int):=zy a b c some
def zx (b:Int) (c:Int) (a:Val au) (d:(Val (.ptr tI))) (e:Val aT) (f:(Val (.ptr tI))) (k:Val ú→Option ρ):Option ρ :=
  Ã (Ď a b c) fun g=>Ã (Ď a d c) fun h=>ck (h+e.2) fun i=>Ã (Ď a b f) fun j=>ck (i+j) fun l=>Ã (Ď a f c) fun m=>ck (m-e.1) fun n=>Ã (Ď a b d) fun o=>ck (n+o) fun p=>k (g,l,p)
def ot (a:Int) (b:Int) (c:Val au) (d:(Val (.ptr tI))) (e:Val aT) (f:(Val (.ptr tI))):Option (Val ú):=zx a b c d e f some
def lU (f:Int) (g:Val aa) (h:Val ah) (i:Int) (a:Int) (b:Val ah) (c:Int→Val ah→Option ρ) (j:Val ah→Option ρ):Option ρ :=
  ifb (ilt a i) (ā h a fun d=>ā g a fun e=>ifb (!((Ŏ e.1 (3:Int))&&((Ŏ e.2 f)&&true))) (ë (î ((List.length b)+(List.length ([d])))) (ck (a+(1:Int)) fun k=>c k (b++([d])))) (ck (a+(1:Int)) fun l=>c l b)) (j b)
def J5 (f:Val au) (o:Val Ä) (a:Val Ê) (k:(Val (.pair Β tI))→Option ρ):Option ρ :=
  Ã (xa f.1 a) fun e=>ifb (ine e.2 0) (k ((((0:Int),(0:Int)),((0:Int),(0:Int),(0:Int)),(0:Int),(0:Int),(0:Int)),e.2)) (Ã (pG f.1 (a.1,a.2.1,a.2.2.1,a.2.2.2.1,(0:Int),a.2.2.2.2.2)) fun b=>ifb (ine b.2 0) (k ((((0:Int),(0:Int)),((0:Int),(0:Int),(0:Int)),(0:Int),(0:Int),(0:Int)),b.2)) (ck ((Û b.1.2.2.2.2.1)-(1:Int)) fun g=>Ã (OI b.1 g) fun h=>Ã (vt a.2.2.1 a.2.2.2.1) fun i=>Ã (ĭ b.1) fun c=>Î (fun(j:Val Ñ) p=>lU g c.2.1 c.1.2 (Û c.1.2) j.1 j.2 (fun q r=>p (q,r)) (fun d=>Ã (ou i.1 (b.1,c.1.1,d) (a.1,a.2.1,a.2.2.1,a.2.2.2.1,(0:Int),a.2.2.2.2.2)) fun l=>Ã (ou i.2.1 (b.1,c.1.1,d) (a.1,a.2.1,a.2.2.1,a.2.2.2.1,(0:Int),a.2.2.2.2.2)) fun m=>Ã (g9 (b.1,c.1.1,d) o) fun n=>Ã (ot n (0:Int) (b.1,c.1.1,d) m h.1 l) fun s=>Ã (ot (0:Int) n (b.1,c.1.1,d) m h.1 l) fun t=>k ((e.1,s,t),(0:Int)))) ((0:Int),[])))
def qd (a:Val au) (b:Val Ä) (c:Val Ê):Option ((Val (.pair Β tI))):=J5 a b c some
def vX (a:Val ú) (k:Val ae→Option ρ):Option ρ :=
  ck (a.2.2-a.2.1) fun c=>ck (Int.tdiv c (2:Int)) fun b=>ck (a.1-a.2.1) fun d=>ck (a.2.2-a.1) fun e=>ck (b-1) fun f=>ck (b+1) fun g=>k ([d,e,b,f,g])
def iY (a:Val ú):Option ((Val ae)):=vX a some
def J8 (a:Val ú) (b:Int) (k:Int→Option ρ):Option ρ :=
  ck (a.2.1+b) fun c=>ck (a.2.2-b) fun d=>k (Tp (Tp a.1 c) d)
def vm (a:Val ú) (b:Int):Option (Int):=J8 a b some
def sX (a:Val Β) (b:Int) (k:Val Ä→Option ρ):Option ρ :=
  Ã (vm a.2.2 b) fun c=>ck (0-c) fun d=>Ã (vm a.2.1 b) fun e=>k (d,e)
def Ŝ (a:Val Β) (b:Int):Option (Val Ä):=sX a b some
def iy (d:Int) (e:Int) (f:Int) (a:Int) (b:Val ae) (c:Int→Val ae→Option ρ) (g:Val ae→Option ρ):Option ρ :=
  ck (d+(2:Int)) fun h=>ifb (ile a h) (ifb (igt a e) (ifb (ilt a f) (ë (î ((List.length b)+(List.length ([a])))) (ck (a+(1:Int)) fun i=>c i (b++([a])))) (ck (a+(1:Int)) fun j=>c j b)) (ck (a+(1:Int)) fun k=>c k b)) (g b)
def jR (e:Val ae) (f:Int) (g:Int) (h:Int) (a:Int) (b:Val ae) (i:Int→Val ae→Option ρ) (j:Val ae→Option ρ):Option ρ :=
  ifb (ilt a f) (ā e a fun c=>ck (c-(2:Int)) fun k=>Î (fun(d:Val ar) l=>iy c g h d.1 d.2 (fun m n=>l (m,n)) (fun o=>ck (a+(1:Int)) fun p=>i p o)) (k,b)) (j b)
def sY (a:Val Β) (b:Val ae) (k:Val ae→Option ρ):Option ρ :=
  Î (fun(c:Val ar) d=>jR b (Û b) a.1.1 a.1.2 c.1 c.2 (fun e f=>d (e,f)) (fun g=>k g)) ((0:Int),[a.1.1,a.1.2])
def km (a:Val Β) (b:Val ae):Option ((Val ae)):=sY a b some
def jn (d:Val ae) (e:Int) (f:Int) (g:Int) (h:Int) (i:Int) (j:Int) (k:Int) (l:Int) (m:Int) (b:Int) (a:Int) (n:Int→Int→Option ρ) (o:Int→Option ρ):Option ρ :=
  ifb (ilt a e) (ā d a fun p=>Ã (Ŝ ((f,g),(h,i,j),k,l,m) p) fun c=>ck (c.2-c.1) fun q=>ck (a+(1:Int)) fun r=>n (Oy b q) r) (o b)
def qx (a:Val Β) (k:Int→Option ρ):Option ρ :=
  Ã (iY a.2.1) fun d=>Ã (iY a.2.2) fun e=>Ã (õ ([d,e])) fun f=>Ã (km a f) fun b=>Î (fun(c:Val Ä) g=>jn b (Û b) a.1.1 a.1.2 a.2.1.1 a.2.1.2.1 a.2.1.2.2 a.2.2.1 a.2.2.2.1 a.2.2.2.2 c.1 c.2 (fun h i=>g (h,i)) (fun j=>k j)) ((-1:Int),(0:Int))
def jH (a:Val Β):Option (Int):=qx a some
def zB (m:Int) (j:Val aa) (b:Int) (c:Int) (d:Int) (e:Val ac) (f:Val aa) (g:Val af) (h:Val ab) (i:Val aa) (k:Int→Int→Int→Val ac→Val aa→Val af→Val ab→Val aa→Option ρ) (n:Val aD→Option ρ) (o:Val ai→Option ρ):Option ρ :=
  ifb (ilt b m) (ë ((ile 0 b)&&(ilt b (ĉ j))) (Ĺ j (Int.toNat b) fun l=>Ã (ţ ((c,d),e,f,g,h,i) l) fun p=>ifb (ieq p.2 0) (ck (b+(1:Int)) fun q=>k q c d e f g h i) (Ã (jW ((c,d),e,f,g,h,i) l) fun a=>ifb (ine a.2 0) (n (a.2,c,d,e,f,g,h,i)) (ck (b+(1:Int)) fun r=>k r a.1.1.1 a.1.1.2 a.1.2.1 a.1.2.2.1 a.1.2.2.2.1 a.1.2.2.2.2.1 a.1.2.2.2.2.2)))) (o (c,d,e,f,g,h,i))
def QO (a:Val Å) (e:Val Ä) (i:Val Ê) (k:Val Ä→Option ρ):Option ρ :=
  Ã (Ą a) fun f=>ifb (ine f 0) (ë (ine f 0) (k ((0:Int),f))) (Î (fun(b:Val aD) j=>zB (Û ([e])) ([e]) b.1 b.2.1 b.2.2.1 b.2.2.2.1 b.2.2.2.2.1 b.2.2.2.2.2.1 b.2.2.2.2.2.2.1 b.2.2.2.2.2.2.2 (fun l m n o p q r s=>j (l,m,n,o,p,q,r,s)) (fun h=>ë (ine h.1 0) (k ((0:Int),h.1))) (fun c=>Ã (ĭ ((c.1,c.2.1),c.2.2)) fun d=>ifb (ine d.2.2 0) (ë (ine d.2.2 0) (k ((0:Int),d.2.2))) (Ã (ę d.1) fun t=>ifb (!t.1) (k ((0:Int),(9:Int))) (Ã (qd (((c.1,c.2.1),c.2.2),d.1) e i) fun g=>ifb (ine g.2 0) (k ((0:Int),g.2)) (Ã (jH g.1) fun u=>k (u,(0:Int))))))) ((0:Int),a.1.1,a.1.2,a.2.1,a.2.2.1,a.2.2.2.1,a.2.2.2.2.1,a.2.2.2.2.2))
def ov (a:Val Å) (b:Val Ä) (c:Val Ê):Option (Val Ä):=QO a b c some
def wc (a:Int) (k:Int→Option ρ):Option ρ :=
  k (Oy (-288230376151711744:Int) (Tp a (288230376151711744:Int)))
def l7 (a:Int):Option (Int):=wc a some
def vY (a:Val ú) (b:Int) (k:Val ae→Option ρ):Option ρ :=
  ck (b-a.2.1) fun c=>ck (a.2.2-b) fun d=>k ([c,d])
def iZ (a:Val ú) (b:Int):Option ((Val ae)):=vY a b some
def s9 (m:Int) (j:Val aa) (b:Int) (c:Int) (d:Int) (e:Val ac) (f:Val aa) (g:Val af) (h:Val ab) (i:Val aa) (k:Int→Int→Int→Val ac→Val aa→Val af→Val ab→Val aa→Option ρ) (n:Val aD→Option ρ) (o:Val ai→Option ρ):Option ρ :=
  ifb (ilt b m) (ë ((ile 0 b)&&(ilt b (ĉ j))) (Ĺ j (Int.toNat b) fun l=>Ã (ţ ((c,d),e,f,g,h,i) l) fun p=>ifb (ieq p.2 0) (ck (b+(1:Int)) fun q=>k q c d e f g h i) (Ã (jW ((c,d),e,f,g,h,i) l) fun a=>ifb (ine a.2 0) (n (a.2,c,d,e,f,g,h,i)) (ck (b+(1:Int)) fun r=>k r a.1.1.1 a.1.1.2 a.1.2.1 a.1.2.2.1 a.1.2.2.2.1 a.1.2.2.2.2.1 a.1.2.2.2.2.2)))) (o (c,d,e,f,g,h,i))
def nr (b:Val ae) (c:Int) (d:Int) (e:Int) (f:Int) (g:Int) (h:Int) (i:Int) (j:Int) (k:Int) (l:Int) (m:Int) (a:Int) (n:Int→Option ρ) (o:Int→Option ρ) (p:Unit→Option ρ):Option ρ :=
  ifb (ilt a c) (ā b a fun q=>Ã (Ŝ ((f,g),(h,i,j),k,l,m) q) fun r=>Ã (qV r (d,e)) fun s=>ifb (ieq s 3) (o a) (ck (a+(1:Int)) fun t=>n t)) (p ())
def Es (c:Val Å) (g:Val Ä) (b:Val Ä) (n:Val Ê) (k:Val aW→Option ρ):Option ρ :=
  Ã (Ą c) fun h=>ifb (ine h 0) (ifb (ine h 0) (k (false,h)) (ë (igt b.1 b.2) (k (false,(1:Int))))) (Î (fun(d:Val aD) o=>s9 (Û ([g])) ([g]) d.1 d.2.1 d.2.2.1 d.2.2.2.1 d.2.2.2.2.1 d.2.2.2.2.2.1 d.2.2.2.2.2.2.1 d.2.2.2.2.2.2.2 (fun p q r s t u v w=>o (p,q,r,s,t,u,v,w)) (fun l=>ifb (ine l.1 0) (k (false,l.1)) (ë (igt b.1 b.2) (k (false,(1:Int))))) (fun e=>Ã (ĭ ((e.1,e.2.1),e.2.2)) fun f=>ifb (ine f.2.2 0) (ifb (ine f.2.2 0) (k (false,f.2.2)) (ë (igt b.1 b.2) (k (false,(1:Int))))) (Ã (ę f.1) fun x=>ifb (!x.1) (k (false,(9:Int))) (ifb (igt b.1 b.2) (k (false,(1:Int))) (Ã (qd (((e.1,e.2.1),e.2.2),f.1) g n) fun a=>ifb (ine a.2 0) (k (false,a.2)) (Ã (iY a.1.2.1) fun y=>Ã (iY a.1.2.2) fun z=>Ã (õ ([y,z])) fun A=>Ã (l7 b.1) fun i=>Ã (l7 b.2) fun j=>Ã (iZ a.1.2.1 i) fun B=>ck (0-i) fun C=>Ã (iZ a.1.2.2 C) fun D=>Ã (õ ([A,B,D])) fun E=>Ã (iZ a.1.2.1 j) fun F=>ck (0-j) fun G=>Ã (iZ a.1.2.2 G) fun H=>Ã (õ ([E,F,H])) fun I=>Ã (km a.1 I) fun m=>Î (fun(J:Int) K=>nr m (Û m) i j a.1.1.1 a.1.1.2 a.1.2.1.1 a.1.2.1.2.1 a.1.2.1.2.2 a.1.2.2.1 a.1.2.2.2.1 a.1.2.2.2.2 J (fun L=>K L) (fun M=>k ((!(ige M 0)),(0:Int))) (fun _=>k (true,(0:Int)))) (0:Int))))))) ((0:Int),c.1.1,c.1.2,c.2.1,c.2.2.1,c.2.2.2.1,c.2.2.2.2.1,c.2.2.2.2.2))
def qX (a:Val Å) (b:Val Ä) (c:Val Ä) (d:Val Ê):Option ((Val aW)):=Es a b c d some
def Mn (d:Int) (c:Int) (e:Val ah) (a:Int) (b:Val aQ) (f:Int→Val aQ→Option ρ) (g:Val aQ→Option ρ):Option ρ :=
  ifb (ilt a d) (Ã (As (c,e) a c) fun h=>ë ((ile 0 a)&&(ilt a (ĉ b))) (Ĺ b (Int.toNat a) fun j=>ck (a+(1:Int)) fun i=>f i (List.set b (Int.toNat a) h))) (g b)
def Mj (g:Int) (h:Val am) (j:Val ah) (k:Int) (e:Int) (b:Int) (a:Int) (c:Val ae) (f:Int→Int→Int→Val ae→Option ρ) (i:Val aK→Option ρ):Option ρ :=
  ifb (ilt a k) (ā j a fun d=>ifb (ieq d.1 e) (ck (g-(1:Int)) fun l=>ā h l fun m=>ā m d.2.1 fun n=>ifb (ine n 1152921504606846976) (ck (b+d.2.2) fun o=>ck (g-(1:Int)) fun p=>ā h p fun q=>ā q d.2.1 fun r=>ck (o+r) fun s=>ifb (ilt s 0) (ë (î ((List.length c)+(List.length ([a])))) (ck (b+d.2.2) fun t=>i (d.2.1,t,(c++([a]))))) (ck (a+(1:Int)) fun u=>f e b u c)) (ck (a+(1:Int)) fun v=>f e b v c)) (ck (a+(1:Int)) fun w=>f e b w c)) (i (e,b,c))
def Mk (f:Val am) (d:Val ah) (g:Int) (b:Int) (h:Int) (e:Val ae) (i:Int→Int→Int→Val ae→Option ρ) (j:Val ae→Option ρ):Option ρ :=
  ifb (igt b 0) (Î (fun(a:Val bf) k=>Mj b f d (Û d) a.1 a.2.1 a.2.2.1 a.2.2.2 (fun l m n o=>k (l,m,n,o)) (fun c=>ck (b-(1:Int)) fun p=>i c.1 p c.2.1 c.2.2)) (g,h,(0:Int),e)) (j e)
def Ml (e:Int) (h:Val ah) (i:Int) (j:Int) (k:Val ah) (b:Val aQ) (c:Int) (f:Int→Option ρ) (l:Unit→Option ρ) (m:Val ar→Option ρ) (n:Unit→Option ρ):Option ρ :=
  ifb (ilt c i) (ā h c fun a=>ë ((ile 0 a.1)&&(ilt a.1 (ĉ b))) (Ĺ b (Int.toNat a.1) fun o=>ck (e-(1:Int)) fun p=>ā o p fun q=>ā q a.2.1 fun g=>ifb (ieq g 1152921504606846976) (ck (c+(1:Int)) fun r=>f r) (ck (a.2.2+g) fun s=>ifb (ige s 0) (ck (c+(1:Int)) fun t=>f t) (ifb (igt e j) (l ()) (ë ((ile 0 a.1)&&(ilt a.1 (ĉ b))) (Ĺ b (Int.toNat a.1) fun u=>Î (fun(d:Val bf) v=>Mk u k d.1 d.2.1 d.2.2.1 d.2.2.2 (fun w x y z=>v (w,x,y,z)) (fun A=>m ((0:Int),A))) (a.1,e,(0:Int),[]))))))) (n ())
def Mm (d:Int) (a:Val ah) (e:Val aQ) (b:Int) (f:Int→Option ρ) (g:Unit→Option ρ) (h:Val ar→Option ρ):Option ρ :=
  Î (fun(i:Int) j=>Ml b a (Û a) d a e i (fun k=>j k) (fun _=>g ()) (fun c=>h (c.1,c.2)) (fun _=>ck (b+(1:Int)) fun l=>f l)) (0:Int)
def Q7 (a:Val Ñ) (k:Val aI→Option ρ):Option ρ :=
  Ã (ox a) fun b=>ifb (ine b.1 0) (k ([],b.1)) (Ã (lh a ([])) fun e=>ifb e.2 (k ([],(5:Int))) (ë ((ile 0 a.1)&&(î (Int.toNat a.1))) (Î (fun(c:(Val (.pair tI aQ))) f=>Mn (Û (List.replicate (Int.toNat a.1) ([]:Val am))) a.1 a.2 c.1 c.2 (fun g h=>f (g,h)) (fun i=>Î (fun(j:Int) l=>Mm a.1 a.2 i j (fun m=>l m) (fun _=>k ([],(5:Int))) (fun d=>k (d.2,d.1))) (1:Int))) ((0:Int),(List.replicate (Int.toNat a.1) ([]:Val am))))))
def Au (a:Val Ñ):Option ((Val aI)):=Q7 a some
def QU (a:Val Å) (k:(Val (.pair hZ tI))→Option ρ):Option ρ :=
  Ã (ĭ a) fun b=>ifb (ine b.2.2 0) (k (((((0:Int),(0:Int)),[],[],[],[],[]),((0:Int),(0:Int)),false,(0:Int),[]),b.2.2)) (Ã (Au b.1) fun c=>ifb (ine c.2 0) (k (((((0:Int),(0:Int)),[],[],[],[],[]),((0:Int),(0:Int)),false,(0:Int),[]),c.2)) (Ã (qW a c.1) fun f=>Ã (Ss a f ([])) fun e=>Ã (ĭ e) fun g=>Ã (Au g.1) fun d=>ifb (ine d.2 0) (k (((((0:Int),(0:Int)),[],[],[],[],[]),((0:Int),(0:Int)),false,(0:Int),[]),d.2)) (k ((e,((0:Int),(0:Int)),false,(0:Int),d.1),(0:Int)))))
def IJ (a:Val Å):Option ((Val (.pair hZ tI))):=QU a some
def yA (k:Val Å→Option ρ):Option ρ :=
  k (((0:Int),(2:Int)),[((1:Int),(0:Int),(1000:Int),((-5:Int),(5:Int)),((1:Int),(10:Int)),(1:Int)),((2:Int),(0:Int),(1000:Int),((-50:Int),(50:Int)),((1:Int),(4:Int)),(0:Int))],[((1:Int),(10:Int))],[((1:Int),((20:Int),(29:Int)),(3:Int))],[((7:Int),(10:Int),[(1:Int)],[(2:Int)],(-20:Int),(1:Int),(100:Int),(200:Int))],[])
def Ao:Option (Val Å):=yA some
def Ys (a:Val ae) (b:Int) (k:Bool→Option ρ):Option ρ :=
  Ã (vt a ([])) fun c=>ifb (ieq c.2.2 0) (k (ile (Û a) b)) (k false)
def OG (a:Val ae) (b:Int):Option (Bool):=Ys a b some
def QK (a:Int) (k:Bool→Option ρ):Option ρ :=
  ifb (ige a 0) (k (ile a 20000)) (k false)
def IH (a:Int):Option (Bool):=QK a some
def rY (c:Int) (e:Val ae) (f:Int) (a:Int) (b:Val aa) (g:Int→Val aa→Option ρ) (h:Val aa→Option ρ):Option ρ :=
  ifb (ilt a f) (ā e a fun d=>ë (î ((List.length b)+(List.length ([(d,c)])))) (ck (a+(1:Int)) fun i=>g i (b++([(d,c)])))) (h b)
def QG (c:Int) (d:Val am) (k:Val aa→Option ρ):Option ρ :=
  Ã (õ d) fun a=>Î (fun(b:Val aF) e=>rY c a (Û a) b.1 b.2 (fun f g=>e (f,g)) (fun h=>k h)) ((0:Int),[])
def IG (a:Int) (b:Val am):Option ((Val aa)):=QG a b some
def we (l:Val aa) (m:Int) (i:Int) (b:Int) (c:Int) (d:Val ac) (e:Val aa) (f:Val af) (g:Val ab) (h:Val aa) (j:Int→Int→Int→Val ac→Val aa→Val af→Val ab→Val aa→Option ρ) (n:Val aD→Option ρ) (o:Val ai→Option ρ):Option ρ :=
  ifb (ilt i m) (ā l i fun k=>Ã (ţ ((b,c),d,e,f,g,h) k) fun p=>ifb (ieq p.2 0) (ck (i+(1:Int)) fun q=>j q b c d e f g h) (Ã (jW ((b,c),d,e,f,g,h) k) fun a=>ifb (ine a.2 0) (n (a.2,b,c,d,e,f,g,h)) (ck (i+(1:Int)) fun r=>j r a.1.1.1 a.1.1.2 a.1.2.1 a.1.2.2.1 a.1.2.2.2.1 a.1.2.2.2.2.1 a.1.2.2.2.2.2))) (o (b,c,d,e,f,g,h))
def wd (e:Val au) (f:Val aa) (g:Int) (a:Int) (b:Int) (c:Int) (h:Int→Int→Int→Option ρ) (i:Val Ä→Option ρ):Option ρ :=
  ifb (ilt a g) (ā f a fun j=>Ã (Α e j) fun d=>ck (b+d.1) fun k=>ck (c+d.2) fun l=>ck (a+(1:Int)) fun m=>h m k l) (i (b,c))
def YG (a:Val Å) (i:Int) (c:Val ae) (k:Val Ļ→Option ρ):Option ρ :=
  Ã (Ą a) fun j=>ifb (ine j 0) (k (((0:Int),(0:Int)),j)) (ifb (ieq (Û c) 0) (k (((0:Int),(0:Int)),(1:Int))) (Ã (OG c (6:Int)) fun q=>ifb (!q) (k (((0:Int),(0:Int)),(1:Int))) (Ã (IH i) fun r=>ifb (!r) (k (((0:Int),(0:Int)),(1:Int))) (Ã (IG i ([c])) fun f=>Ã (Ą a) fun g=>ifb (ine g 0) (ifb (ine g 0) (k (((0:Int),(0:Int)),g)) (ck ((Û c)-(1:Int)) fun l=>ck (l*a.1.1) fun J=>ck (l*a.1.2) fun K=>none)) (Î (fun(b:Val aD) s=>we f (Û f) b.1 b.2.1 b.2.2.1 b.2.2.2.1 b.2.2.2.2.1 b.2.2.2.2.2.1 b.2.2.2.2.2.2.1 b.2.2.2.2.2.2.2 (fun t u v w x y z A=>s (t,u,v,w,x,y,z,A)) (fun m=>ifb (ine m.1 0) (k (((0:Int),(0:Int)),m.1)) (ck ((Û c)-(1:Int)) fun n=>ck (n*a.1.1) fun L=>ck (n*a.1.2) fun M=>none)) (fun d=>Ã (ĭ ((d.1,d.2.1),d.2.2)) fun e=>ifb (ine e.2.2 0) (ifb (ine e.2.2 0) (k (((0:Int),(0:Int)),e.2.2)) (ck ((Û c)-(1:Int)) fun o=>ck (o*a.1.1) fun N=>ck (o*a.1.2) fun O=>none)) (Ã (ę e.1) fun B=>ifb (!B.1) (k (((0:Int),(0:Int)),(9:Int))) (ck ((Û c)-(1:Int)) fun p=>ck (p*a.1.1) fun C=>ck (p*a.1.2) fun D=>Î (fun(h:Val ú) E=>wd (((d.1,d.2.1),d.2.2),e.1) f (Û f) h.1 h.2.1 h.2.2 (fun F G H=>E (F,G,H)) (fun I=>k (I,(0:Int)))) ((0:Int),C,D))))) ((0:Int),a.1.1,a.1.2,a.2.1,a.2.2.1,a.2.2.2.1,a.2.2.2.2.1,a.2.2.2.2.2))))))
def OH (a:Val Å) (b:Int) (c:Val ae):Option (Val Ļ):=YG a b c some
def tk (a:Val Ñ) (b:Val ae) (k:Int→Option ρ):Option ρ :=
  Ã (ox a) fun d=>ifb (ine d.1 0) (k d.1) (Ã (qY a b) fun e=>ifb (ine e 0) (k e) (ifb (ieq (Û b) 0) (k (8:Int)) (ā b (0:Int) fun g=>ā a.2 g fun f=>Ã (IK a f.1 b) fun c=>ifb (!c.2.2) (k (8:Int)) (ifb (ine c.1 f.1) (k (8:Int)) (ifb (ige c.2.1 0) (k (8:Int)) (k (0:Int)))))))
def ny (a:Val Ñ) (b:Val ae):Option (Int):=tk a b some
def tc (a:Val hZ) (k:Int→Option ρ):Option ρ :=
  Ã (Ą a.1) fun b=>ifb (ine b 0) (k b) (ifb (!((Ŏ a.2.1.1 (0:Int))&&((Ŏ a.2.1.2 (0:Int))&&true))) (k (1:Int)) (ifb a.2.2.1 (k (1:Int)) (ifb (ine a.2.2.2.1 0) (k (1:Int)) (Ã (ĭ a.1) fun c=>Ã (ny c.1 a.2.2.2.2) fun d=>ifb (ine d 0) (k (8:Int)) (k (0:Int))))))
def nv (a:Val hZ):Option (Int):=tc a some
def Ĉ (c:Val ac) (d:Int) (e:Int) (f:Int) (g:Int) (h:Int) (i:Int) (j:Int) (k:Int) (l:Int) (b:Int) (m:Int→Option ρ) (n:Int→Option ρ) (o:Unit→Option ρ):Option ρ :=
  ifb (ilt b d) (ā c b fun a=>ifb ((Ŏ e a.1)&&((Ŏ f a.2.1)&&((Ŏ g a.2.2.1)&&((Ŏ h a.2.2.2.1.1)&&((Ŏ i a.2.2.2.1.2)&&((Ŏ j a.2.2.2.2.1.1)&&((Ŏ k a.2.2.2.2.1.2)&&((Ŏ l a.2.2.2.2.2)&&true)))))))) (n b) (ck (b+(1:Int)) fun p=>m p)) (o ())
def ű (b:Val ac) (a:Val Ó) (k:Int→Option ρ):Option ρ :=
  Î (fun(c:Int) d=>Ĉ b (Û b) a.1 a.2.1 a.2.2.1 a.2.2.2.1.1 a.2.2.2.1.2 a.2.2.2.2.1.1 a.2.2.2.2.1.2 a.2.2.2.2.2 c (fun e=>d e) (fun f=>k f) (fun _=>k (-1:Int))) (0:Int)
def Ų (a:Val ac) (b:Val Ó):Option (Int):=ű a b some
def ŏ (a:Val ac) (b:Val Ó) (k:Bool→Option ρ):Option ρ :=
  Ã (Ų a b) fun c=>k (ige c 0)
def Ħ (a:Val ac) (b:Val Ó):Option (Bool):=ŏ a b some
def ğ (c:Val aa) (d:Int) (e:Int) (f:Int) (a:Int) (g:Int→Option ρ) (h:Int→Option ρ) (i:Unit→Option ρ):Option ρ :=
  ifb (ilt a d) (ā c a fun b=>ifb ((Ŏ e b.1)&&((Ŏ f b.2)&&true)) (h a) (ck (a+(1:Int)) fun j=>g j)) (i ())
def υ (a:Val aa) (b:Val Ä) (k:Int→Option ρ):Option ρ :=
  Î (fun(c:Int) d=>ğ a (Û a) b.1 b.2 c (fun e=>d e) (fun f=>k f) (fun _=>k (-1:Int))) (0:Int)
def gY (a:Val aa) (b:Val Ä):Option (Int):=υ a b some
def Ÿ (a:Val aa) (b:Val Ä) (k:Bool→Option ρ):Option ρ :=
  Ã (gY a b) fun c=>k (ige c 0)
def ġ (a:Val aa) (b:Val Ä):Option (Bool):=Ÿ a b some
def Đ (c:Val af) (d:Int) (e:Int) (f:Int) (g:Int) (h:Int) (a:Int) (i:Int→Option ρ) (j:Int→Option ρ) (k:Unit→Option ρ):Option ρ :=
  ifb (ilt a d) (ā c a fun b=>ifb ((Ŏ e b.1)&&((Ŏ f b.2.1.1)&&((Ŏ g b.2.1.2)&&((Ŏ h b.2.2)&&true)))) (j a) (ck (a+(1:Int)) fun l=>i l)) (k ())
def Ζ (b:Val af) (a:Val ő) (k:Int→Option ρ):Option ρ :=
  Î (fun(c:Int) d=>Đ b (Û b) a.1 a.2.1.1 a.2.1.2 a.2.2 c (fun e=>d e) (fun f=>k f) (fun _=>k (-1:Int))) (0:Int)
def Ι (a:Val af) (b:Val ő):Option (Int):=Ζ a b some
def Š (a:Val af) (b:Val ő) (k:Bool→Option ρ):Option ρ :=
  Ã (Ι a b) fun c=>k (ige c 0)
def đ (a:Val af) (b:Val ő):Option (Bool):=Š a b some
def vW (c:Val ac) (d:Int) (a:Int) (b:Val ak) (e:Int→Val ak→Option ρ) (f:Val ak→Option ρ):Option ρ :=
  ifb (ilt a d) (ā c a fun g=>ck (a+(1:Int)) fun h=>e h (On (k:=tI) (v:=.bool) g.1 true b)) (f b)
def mU (b:Val ae) (c:Val ae) (d:Int) (a:Int) (e:Int→Option ρ) (f:Bool→Option ρ) (g:Unit→Option ρ):Option ρ :=
  ifb (ilt a d) (ā b a fun h=>ā c a fun i=>ifb (ine h i) (f false) (ck (a+(1:Int)) fun j=>e j)) (g ())
def vV (b:Val ae) (c:Val ae) (d:Int) (a:Int) (e:Int→Option ρ) (f:Bool→Option ρ) (g:Unit→Option ρ):Option ρ :=
  ifb (ilt a d) (ā b a fun h=>ā c a fun i=>ifb (ine h i) (f false) (ck (a+(1:Int)) fun j=>e j)) (g ())
def qD (g:Val ab) (h:Int) (i:Int) (j:Int) (f:Val ae) (d:Val ae) (k:Int) (l:Int) (m:Int) (n:Int) (a:Int) (c:Int→Option ρ) (e:Int→Option ρ) (o:Unit→Option ρ):Option ρ :=
  ifb (ilt a h) (ā g a fun b=>ifb (ieq i b.1) (ifb (ieq j b.2.1) (ifb (ieq k b.2.2.2.2.1) (ifb (ieq l b.2.2.2.2.2.1) (ifb ((Ŏ m b.2.2.2.2.2.2.1)&&((Ŏ n b.2.2.2.2.2.2.2)&&true)) (ifb (ine (Û f) (Û b.2.2.1)) (ck (a+(1:Int)) fun p=>c p) (Î (fun(q:Int) r=>mU f b.2.2.1 (Û f) q (fun s=>r s) (fun t=>ifb t (ifb (ine (Û d) (Û b.2.2.2.1)) (ck (a+(1:Int)) fun u=>c u) (Î (fun(v:Int) w=>vV d b.2.2.2.1 (Û d) v (fun x=>w x) (fun y=>ifb y (e a) (ck (a+(1:Int)) fun z=>c z)) (fun _=>e a)) (0:Int))) (ck (a+(1:Int)) fun A=>c A)) (fun _=>ifb (ine (Û d) (Û b.2.2.2.1)) (ck (a+(1:Int)) fun B=>c B) (Î (fun(C:Int) D=>vV d b.2.2.2.1 (Û d) C (fun E=>D E) (fun F=>ifb F (e a) (ck (a+(1:Int)) fun G=>c G)) (fun _=>e a)) (0:Int)))) (0:Int))) (ck (a+(1:Int)) fun H=>c H)) (ck (a+(1:Int)) fun I=>c I)) (ck (a+(1:Int)) fun J=>c J)) (ck (a+(1:Int)) fun K=>c K)) (ck (a+(1:Int)) fun L=>c L)) (o ())
def qE (e:Val ab) (f:Int) (c:Val ab) (b:Int) (g:Int→Option ρ) (d:Bool→Option ρ) (h:Unit→Option ρ):Option ρ :=
  ifb (ilt b f) (ā e b fun a=>Î (fun(i:Int) j=>qD c (Û c) a.1 a.2.1 a.2.2.1 a.2.2.2.1 a.2.2.2.2.1 a.2.2.2.2.2.1 a.2.2.2.2.2.2.1 a.2.2.2.2.2.2.2 i (fun k=>j k) (fun l=>ifb (!(ige l 0)) (d false) (ck (b+(1:Int)) fun m=>g m)) (fun _=>d false)) (0:Int)) (h ())
def qC (b:Val ac) (c:Int) (d:Val ac) (a:Int) (e:Int→Option ρ) (f:Int→Option ρ) (g:Unit→Option ρ):Option ρ :=
  ifb (ilt a c) (ā b a fun h=>Ã (Ħ d h) fun i=>ifb (!i) (f a) (ck (a+(1:Int)) fun j=>e j)) (g ())
def kO (d:Val aa) (e:Int) (f:Val ak) (g:Val aa) (a:Int) (b:Int→Option ρ) (h:Int→Option ρ) (i:Unit→Option ρ):Option ρ :=
  ifb (ilt a e) (ā d a fun c=>aah (k:=tI) (v:=.bool) c.1 f (fun j=>ifb j (Ã (ġ g c) fun l=>ifb (!l) (h a) (ck (a+(1:Int)) fun m=>b m)) (ck (a+(1:Int)) fun n=>b n)) (ck (a+(1:Int)) fun o=>b o)) (i ())
def mT (d:Val aa) (e:Int) (f:Val ak) (g:Val aa) (a:Int) (b:Int→Option ρ) (h:Int→Option ρ) (i:Unit→Option ρ):Option ρ :=
  ifb (ilt a e) (ā d a fun c=>aah (k:=tI) (v:=.bool) c.1 f (fun j=>ifb j (Ã (ġ g c) fun l=>ifb (!l) (h a) (ck (a+(1:Int)) fun m=>b m)) (ck (a+(1:Int)) fun n=>b n)) (ck (a+(1:Int)) fun o=>b o)) (i ())
def ň (d:Val af) (e:Int) (f:Val ak) (g:Val af) (a:Int) (b:Int→Option ρ) (h:Int→Option ρ) (i:Unit→Option ρ):Option ρ :=
  ifb (ilt a e) (ā d a fun c=>aah (k:=tI) (v:=.bool) c.1 f (fun j=>ifb j (Ã (đ g c) fun l=>ifb (!l) (h a) (ck (a+(1:Int)) fun m=>b m)) (ck (a+(1:Int)) fun n=>b n)) (ck (a+(1:Int)) fun o=>b o)) (i ())
def ě (d:Val af) (e:Int) (f:Val ak) (g:Val af) (a:Int) (b:Int→Option ρ) (h:Int→Option ρ) (i:Unit→Option ρ):Option ρ :=
  ifb (ilt a e) (ā d a fun c=>aah (k:=tI) (v:=.bool) c.1 f (fun j=>ifb j (Ã (đ g c) fun l=>ifb (!l) (h a) (ck (a+(1:Int)) fun m=>b m)) (ck (a+(1:Int)) fun n=>b n)) (ck (a+(1:Int)) fun o=>b o)) (i ())
def Yt (b:Val Å) (a:Val Å) (k:Bool→Option ρ):Option ρ :=
  Î (fun(d:(Val (.pair tI ak))) e=>vW b.2.1 (Û b.2.1) d.1 d.2 (fun f g=>e (f,g)) (fun c=>Î (fun(h:Int) i=>qE b.2.2.2.2.1 (Û b.2.2.2.2.1) a.2.2.2.2.1 h (fun j=>i j) (fun l=>k l) (fun _=>ifb ((Ŏ b.1.1 a.1.1)&&((Ŏ b.1.2 a.1.2)&&true)) (Î (fun(m:Int) n=>qC b.2.1 (Û b.2.1) a.2.1 m (fun o=>n o) (fun p=>ifb (!(ige p 0)) (Î (fun(q:Int) r=>kO b.2.2.1 (Û b.2.2.1) c a.2.2.1 q (fun s=>r s) (fun t=>ifb (!(ige t 0)) (Î (fun(u:Int) v=>mT a.2.2.1 (Û a.2.2.1) c b.2.2.1 u (fun w=>v w) (fun x=>ifb (!(ige x 0)) (Î (fun(y:Int) z=>ň b.2.2.2.1 (Û b.2.2.2.1) c a.2.2.2.1 y (fun A=>z A) (fun B=>ifb (!(ige B 0)) (Î (fun(C:Int) D=>ě a.2.2.2.1 (Û a.2.2.2.1) c b.2.2.2.1 C (fun E=>D E) (fun F=>k (!(ige F 0))) (fun _=>k true)) (0:Int)) (k false)) (fun _=>Î (fun(G:Int) H=>ě a.2.2.2.1 (Û a.2.2.2.1) c b.2.2.2.1 G (fun I=>H I) (fun J=>k (!(ige J 0))) (fun _=>k true)) (0:Int))) (0:Int)) (k false)) (fun _=>Î (fun(K:Int) L=>ň b.2.2.2.1 (Û b.2.2.2.1) c a.2.2.2.1 K (fun M=>L M) (fun N=>ifb (!(ige N 0)) (Î (fun(O:Int) P=>ě a.2.2.2.1 (Û a.2.2.2.1) c b.2.2.2.1 O (fun Q=>P Q) (fun R=>k (!(ige R 0))) (fun _=>k true)) (0:Int)) (k false)) (fun _=>Î (fun(S:Int) T=>ě a.2.2.2.1 (Û a.2.2.2.1) c b.2.2.2.1 S (fun U=>T U) (fun V=>k (!(ige V 0))) (fun _=>k true)) (0:Int))) (0:Int))) (0:Int)) (k false)) (fun _=>Î (fun(W:Int) X=>mT a.2.2.1 (Û a.2.2.1) c b.2.2.1 W (fun Y=>X Y) (fun Z=>ifb (!(ige Z 0)) (Î (fun(dc:Int) df=>ň b.2.2.2.1 (Û b.2.2.2.1) c a.2.2.2.1 dc (fun dg=>df dg) (fun dh=>ifb (!(ige dh 0)) (Î (fun(di:Int) dj=>ě a.2.2.2.1 (Û a.2.2.2.1) c b.2.2.2.1 di (fun dk=>dj dk) (fun dl=>k (!(ige dl 0))) (fun _=>k true)) (0:Int)) (k false)) (fun _=>Î (fun(dm:Int) dn=>ě a.2.2.2.1 (Û a.2.2.2.1) c b.2.2.2.1 dm (fun dt=>dn dt) (fun du=>k (!(ige du 0))) (fun _=>k true)) (0:Int))) (0:Int)) (k false)) (fun _=>Î (fun(dv:Int) dw=>ň b.2.2.2.1 (Û b.2.2.2.1) c a.2.2.2.1 dv (fun dz=>dw dz) (fun d8=>ifb (!(ige d8 0)) (Î (fun(d9:Int) ee=>ě a.2.2.2.1 (Û a.2.2.2.1) c b.2.2.2.1 d9 (fun eh=>ee eh) (fun ej=>k (!(ige ej 0))) (fun _=>k true)) (0:Int)) (k false)) (fun _=>Î (fun(eo:Int) er=>ě a.2.2.2.1 (Û a.2.2.2.1) c b.2.2.2.1 eo (fun ez=>er ez) (fun fc=>k (!(ige fc 0))) (fun _=>k true)) (0:Int))) (0:Int))) (0:Int))) (0:Int)) (k false)) (fun _=>Î (fun(fe:Int) ff=>kO b.2.2.1 (Û b.2.2.1) c a.2.2.1 fe (fun fg=>ff fg) (fun fh=>ifb (!(ige fh 0)) (Î (fun(fi:Int) fj=>mT a.2.2.1 (Û a.2.2.1) c b.2.2.1 fi (fun fk=>fj fk) (fun fm=>ifb (!(ige fm 0)) (Î (fun(fo:Int) fp=>ň b.2.2.2.1 (Û b.2.2.2.1) c a.2.2.2.1 fo (fun fq=>fp fq) (fun ft=>ifb (!(ige ft 0)) (Î (fun(fu:Int) f0=>ě a.2.2.2.1 (Û a.2.2.2.1) c b.2.2.2.1 fu (fun f5=>f0 f5) (fun f6=>k (!(ige f6 0))) (fun _=>k true)) (0:Int)) (k false)) (fun _=>Î (fun(f8:Int) f9=>ě a.2.2.2.1 (Û a.2.2.2.1) c b.2.2.2.1 f8 (fun gc=>f9 gc) (fun gd=>k (!(ige gd 0))) (fun _=>k true)) (0:Int))) (0:Int)) (k false)) (fun _=>Î (fun(gg:Int) gh=>ň b.2.2.2.1 (Û b.2.2.2.1) c a.2.2.2.1 gg (fun gi=>gh gi) (fun gj=>ifb (!(ige gj 0)) (Î (fun(gk:Int) gn=>ě a.2.2.2.1 (Û a.2.2.2.1) c b.2.2.2.1 gk (fun gp=>gn gp) (fun gq=>k (!(ige gq 0))) (fun _=>k true)) (0:Int)) (k false)) (fun _=>Î (fun(gr:Int) gu=>ě a.2.2.2.1 (Û a.2.2.2.1) c b.2.2.2.1 gr (fun gw=>gu gw) (fun gx=>k (!(ige gx 0))) (fun _=>k true)) (0:Int))) (0:Int))) (0:Int)) (k false)) (fun _=>Î (fun(gy:Int) g8=>mT a.2.2.1 (Û a.2.2.1) c b.2.2.1 gy (fun g9=>g8 g9) (fun ic=>ifb (!(ige ic 0)) (Î (fun(ig:Int) ii=>ň b.2.2.2.1 (Û b.2.2.2.1) c a.2.2.2.1 ig (fun ij=>ii ij) (fun ik=>ifb (!(ige ik 0)) (Î (fun(il:Int) ip=>ě a.2.2.2.1 (Û a.2.2.2.1) c b.2.2.2.1 il (fun iq=>ip iq) (fun ir=>k (!(ige ir 0))) (fun _=>k true)) (0:Int)) (k false)) (fun _=>Î (fun(iu:Int) iv=>ě a.2.2.2.1 (Û a.2.2.2.1) c b.2.2.2.1 iu (fun iw=>iv iw) (fun ix=>k (!(ige ix 0))) (fun _=>k true)) (0:Int))) (0:Int)) (k false)) (fun _=>Î (fun(iy:Int) iz=>ň b.2.2.2.1 (Û b.2.2.2.1) c a.2.2.2.1 iy (fun i5=>iz i5) (fun i6=>ifb (!(ige i6 0)) (Î (fun(i7:Int) i8=>ě a.2.2.2.1 (Û a.2.2.2.1) c b.2.2.2.1 i7 (fun i9=>i8 i9) (fun ja=>k (!(ige ja 0))) (fun _=>k true)) (0:Int)) (k false)) (fun _=>Î (fun(jb:Int) jc=>ě a.2.2.2.1 (Û a.2.2.2.1) c b.2.2.2.1 jb (fun jd=>jc jd) (fun je=>k (!(ige je 0))) (fun _=>k true)) (0:Int))) (0:Int))) (0:Int))) (0:Int))) (0:Int)) (k false))) (0:Int))) ((0:Int),[])
def IF (a:Val Å) (b:Val Å):Option (Bool):=Yt a b some
def Ka (b:Val Å) (a:Val hZ) (k:Val aW→Option ρ):Option ρ :=
  Ã (Ą b) fun c=>ifb (ine c 0) (k (false,c)) (ifb ((Ŏ a.2.1.1 (0:Int))&&((Ŏ a.2.1.2 (0:Int))&&true)) (Ã (nv a) fun d=>ifb (ine d 0) (k (false,d)) (Ã (IF a.1 b) fun f=>k (f,(0:Int)))) (Ã (l8 a) fun e=>ifb (ine e 0) (k (false,e)) (Ã (IF a.1 b) fun g=>k (g,(0:Int)))))
def Bs (a:Val Å) (b:Val hZ):Option ((Val aW)):=Ka a b some
def D1 (k:Bool→Option ρ):Option ρ :=
  Ã Ao fun a=>Ã (ow a ((2:Int),(10:Int))) fun c=>Ã (ow a ((1:Int),(30:Int))) fun d=>Ã (wZ a ((1:Int),(10:Int)) ((2:Int),(10:Int))) fun e=>Ã (OH a (10:Int) ([(1:Int),(2:Int)])) fun f=>Ã (II a ((2:Int),(0:Int)) ((990:Int),(1010:Int))) fun g=>Ã (wY a ((2:Int),(10:Int)) true) fun b=>ifb (ine c.2 0) (k false) (ifb (ine d.2 0) (k false) (ifb (ine e.2 0) (k false) (ifb (ine f.2 0) (k false) (ifb (ine g.2 0) (k false) (ifb (ine b.2 0) (k false) (ifb (!((Ŏ c.1.1 (984:Int))&&((Ŏ c.1.2 (1011:Int))&&true))) (k false) (ifb (!((Ŏ d.1.1 (964:Int))&&((Ŏ d.1.2 (1005:Int))&&true))) (k false) (ifb (!((Ŏ e.1.1 (-6:Int))&&((Ŏ e.1.2 (11:Int))&&true))) (k false) (ifb (!((Ŏ f.1.1 (1979:Int))&&((Ŏ f.1.2 (2018:Int))&&true))) (k false) (ifb (ine g.1 3) (k false) (ifb (ine b.1.2.2.2.1 1011) (k false) (Ã (ov a ((2:Int),(10:Int)) ((8:Int),(10:Int),[(1:Int)],[(2:Int)],(0:Int),(0:Int),(0:Int),(0:Int))) fun h=>Ã (qX a ((2:Int),(10:Int)) ((900:Int),(1100:Int)) ((8:Int),(10:Int),[(1:Int)],[(2:Int)],(0:Int),(0:Int),(0:Int),(0:Int))) fun i=>Ã (Bs a b.1) fun j=>Ã (IJ a) fun l=>ifb (ieq h.2 0) (ifb (ieq i.2 0) (ifb (ieq j.2 0) (ifb (ieq l.2 5) (ifb (ieq h.1 10) (ifb i.1 (ifb j.1 (Ã (l8 b.1) fun m=>k (ieq m 0)) (k false)) (k false)) (k false)) (k false)) (k false)) (k false)) (k false)))))))))))))
def Ð:Option (Bool):=D1 some
def yG (a:Val Ä) (b:Int) (c:Int) (k:Bool→Option ρ):Option ρ :=
  ifb (ile b a.1) (ifb (ile a.1 a.2) (k (ile a.2 c)) (k false)) (k false)
def jF (a:Val Ä) (b:Int) (c:Int):Option (Bool):=yG a b c some
def aeR (a:Int) (b:Int) (c:Int) (k:Bool→Option ρ):Option ρ :=
  ifb (ige a b) (k (ile a c)) (k false)
def l6 (a:Int) (b:Int) (c:Int):Option (Bool):=aeR a b c some
def Yc (a:Int) (k:Bool→Option ρ):Option ρ :=
  Ã (l6 a (0:Int) (20000:Int)) fun b=>k b
def wW (a:Int):Option (Bool):=Yc a some
def vT (b:Int) (a:Int) (c:Int→Int→Option ρ) (d:Int→Option ρ):Option ρ :=
  ifb (ine a 0) (ifb (Ŏ a 0) (none) (c a (Int.tmod b a))) (d b)
def Yn (b:Int) (c:Int) (k:Int→Option ρ):Option ρ :=
  Î (fun(a:Val Ä) d=>vT a.1 a.2 (fun e f=>d (e,f)) (fun g=>k g)) (b,c)
def Br (a:Int) (b:Int):Option (Int):=Yn a b some
def Yr (a:Int) (k:Int→Option ρ):Option ρ :=
  ifb (ilt a 0) (ck ((0:Int)-a) fun b=>k b) (k a)
def IE (a:Int):Option (Int):=Yr a some
def JW (a:Val Ä) (k:Bool→Option ρ):Option ρ :=
  ifb (ilt a.2 1) (k false) (ifb (igt a.2 2147483647) (k false) (ifb (ilt a.1 (-2147483647:Int)) (k false) (ifb (igt a.1 2147483647) (k false) (Ã (IE a.1) fun b=>Ã (Br b a.2) fun c=>k (ieq c 1)))))
def Bp (a:Val Ä):Option (Bool):=JW a some
def JJ (a:Val Ó) (k:Bool→Option ρ):Option ρ :=
  Ã (Bp a.2.2.2.2.1) fun b=>ifb (!b) (k false) (Ã (l6 a.2.2.2.2.1.1 (-1000:Int) (1000:Int)) fun c=>ifb (!c) (k false) (ifb (igt a.2.2.2.2.1.2 100) (k false) (Ã (l6 a.1 (1:Int) (1099511627776:Int)) fun d=>ifb d (Ã (wW a.2.1) fun e=>ifb e (Ã (l6 a.2.2.1 (1:Int) (1125899906842624:Int)) fun f=>ifb f (Ã (jF a.2.2.2.1 (-1073741824:Int) (1073741824:Int)) fun g=>ifb g (Ã (l6 a.2.2.2.2.2 (0:Int) (1048576:Int)) fun h=>k h) (k false)) (k false)) (k false)) (k false))))
def Bo (a:Val Ó):Option (Bool):=JJ a some
def rS (c:Int) (b:Val ac) (a:Int) (d:Int→Option ρ) (e:Int→Option ρ) (f:Unit→Option ρ):Option ρ :=
  ifb (ilt a (Û b)) (ā b a fun g=>ifb (ieq g.1 c) (e a) (ck (a+(1:Int)) fun h=>d h)) (f ())
def Qj (a:Val Å) (b:Int) (k:Int→Option ρ):Option ρ :=
  Î (fun(c:Int) d=>rS b a.2.1 c (fun e=>d e) (fun f=>k f) (fun _=>k (-1:Int))) (0:Int)
def qS (a:Val Å) (b:Int):Option (Int):=Qj a b some
def JL (a:Val Å) (c:Int) (d:Int) (k:Int→Option ρ):Option ρ :=
  Ã (qS a c) fun b=>ifb (ilt b 0) (k (5:Int)) (ā a.2.1 b fun e=>ifb (ilt d e.2.1) (k (4:Int)) (k (0:Int)))
def m6 (a:Val Å) (b:Int) (c:Int):Option (Int):=JL a b c some
def rI (e:Int) (f:Int) (g:Val ac) (a:Val aa) (h:Val af) (i:Val ab) (j:Val aa) (b:Int) (k:Int→Option ρ) (c:Int→Option ρ) (l:Unit→Option ρ):Option ρ :=
  ifb (ilt b (Û a)) (ā a b fun m=>Ã (wW m.2) fun n=>ifb (!n) (c (1:Int)) (ā a b fun o=>ā a b fun p=>Ã (m6 ((e,f),g,a,h,i,j) o.1 p.2) fun d=>ifb (ine d 0) (c d) (ck (b+(1:Int)) fun q=>k q))) (l ())
def PJ (a:Val Å) (k:Int→Option ρ):Option ρ :=
  Î (fun(b:Int) c=>rI a.1.1 a.1.2 a.2.1 a.2.2.1 a.2.2.2.1 a.2.2.2.2.1 a.2.2.2.2.2 b (fun d=>c d) (fun e=>k e) (fun _=>k (0:Int))) (0:Int)
def Iy (a:Val Å):Option (Int):=PJ a some
def pk (d:Int) (b:Val af) (e:Int) (f:Int) (g:Int) (a:Int) (c:Int→Option ρ) (h:Int→Option ρ) (i:Unit→Option ρ):Option ρ :=
  ifb (ilt a d) (ā b a fun j=>ifb (ieq j.1 e) (ā b a fun k=>ifb (ile k.2.1.1 g) (ā b a fun l=>ifb (ile f l.2.1.2) (h (9:Int)) (ck (a+(1:Int)) fun m=>c m)) (ck (a+(1:Int)) fun n=>c n)) (ck (a+(1:Int)) fun o=>c o)) (i ())
def lL (b:Val aa) (d:Int) (e:Int) (f:Int) (a:Int) (c:Int→Option ρ) (g:Int→Option ρ) (h:Unit→Option ρ):Option ρ :=
  ifb (ilt a (Û b)) (ā b a fun i=>ifb (ieq i.1 d) (ā b a fun j=>Ã (l6 j.2 e f) fun k=>ifb k (g (9:Int)) (ck (a+(1:Int)) fun l=>c l)) (ck (a+(1:Int)) fun m=>c m)) (h ())
def pl (g:Int) (h:Int) (i:Val ac) (e:Val aa) (c:Val af) (j:Val ab) (k:Val aa) (d:Int) (l:Int→Option ρ) (b:Int→Option ρ) (m:Unit→Option ρ):Option ρ :=
  ifb (ilt d (Û c)) (ā c d fun a=>Ã (jF a.2.1 (0:Int) (20000:Int)) fun n=>ifb (!n) (b (1:Int)) (Ã (l6 a.2.2 (0:Int) (1048576:Int)) fun o=>ifb (!o) (b (1:Int)) (Ã (m6 ((g,h),i,e,c,j,k) a.1 a.2.1.1) fun f=>ifb (ine f 0) (b f) (Î (fun(p:Int) q=>pk d c a.1 a.2.1.1 a.2.1.2 p (fun r=>q r) (fun s=>b s) (fun _=>Î (fun(t:Int) u=>lL e a.1 a.2.1.1 a.2.1.2 t (fun v=>u v) (fun w=>b w) (fun _=>ck (d+(1:Int)) fun x=>l x)) (0:Int))) (0:Int))))) (m ())
def JH (a:Val Å) (k:Int→Option ρ):Option ρ :=
  Î (fun(b:Int) c=>pl a.1.1 a.1.2 a.2.1 a.2.2.1 a.2.2.2.1 a.2.2.2.2.1 a.2.2.2.2.2 b (fun d=>c d) (fun e=>k e) (fun _=>k (0:Int))) (0:Int)
def Bn (a:Val Å):Option (Int):=JH a some
def rO (b:Val ae) (a:Int) (c:Int→Option ρ) (d:Bool→Option ρ) (e:Unit→Option ρ):Option ρ :=
  ifb (ilt a (Û b)) (ā b a fun f=>Ã (l6 f (1:Int) (1099511627776:Int)) fun g=>ifb (!g) (d false) (ifb (igt a 0) (ā b a fun h=>ck (a-(1:Int)) fun i=>ā b i fun j=>ifb (ile h j) (d false) (ck (a+(1:Int)) fun k=>c k)) (ck (a+(1:Int)) fun l=>c l))) (e ())
def P0 (a:Val ae) (k:Bool→Option ρ):Option ρ :=
  Î (fun(b:Int) c=>rO a b (fun d=>c d) (fun e=>k e) (fun _=>k (ile (Û a) 6))) (0:Int)
def Ap (a:Val ae):Option (Bool):=P0 a some
def JG (a:Val Ê) (k:Bool→Option ρ):Option ρ :=
  Ã (Ap a.2.2.1) fun b=>Ã (Ap a.2.2.2.1) fun c=>ifb b (ifb c (Ã (l6 a.1 (1:Int) (1099511627776:Int)) fun d=>ifb d (Ã (wW a.2.1) fun e=>ifb e (Ã (l6 a.2.2.2.2.1 (-1125899906842624:Int) (1125899906842624:Int)) fun f=>ifb f (Ã (l6 a.2.2.2.2.2.1 (0:Int) (1073741824:Int)) fun g=>ifb g (Ã (jF a.2.2.2.2.2.2 (-10000:Int) (10000:Int)) fun h=>k h) (k false)) (k false)) (k false)) (k false)) (k false)) (k false)
def Bm (a:Val Ê):Option (Bool):=JG a some
def rQ (j:Int) (h:Int) (i:Val af) (b:Int) (c:Int) (d:Int) (e:Int) (f:Int) (g:Int→Int→Int→Int→Int→Option ρ) (k:(Val (.pair .bool aw))→Option ρ) (l:Val aw→Option ρ):Option ρ :=
  ifb (ilt b (Û i)) (ā i b fun a=>ifb (ieq a.1 j) (ifb (ile a.2.1.1 h) (ifb (ile h a.2.1.2) (k (true,a.1,a.2.1.1,a.2.1.2,a.2.2)) (ck (b+(1:Int)) fun m=>g m c d e f)) (ck (b+(1:Int)) fun n=>g n c d e f)) (ck (b+(1:Int)) fun o=>g o c d e f)) (l (c,d,e,f))
def Qc (c:Val Å) (d:Int) (e:Int) (k:Val bc→Option ρ):Option ρ :=
  Î (fun(a:(Val (.pair tI aw))) f=>rQ d e c.2.2.2.1 a.1 a.2.1 a.2.2.1 a.2.2.2.1 a.2.2.2.2 (fun g h i j l=>f (g,h,i,j,l)) (fun b=>k ((b.2.1,(b.2.2.1,b.2.2.2.1),b.2.2.2.2),b.1)) (fun m=>k (((0:Int),((0:Int),(0:Int)),(0:Int)),false))) ((0:Int),(0:Int),(0:Int),(0:Int),(0:Int))
def Aq (a:Val Å) (b:Int) (c:Int):Option ((Val bc)):=Qc a b c some
def vS (b:Val ae) (c:Int) (a:Int) (d:Int→Option ρ) (e:Bool→Option ρ) (f:Unit→Option ρ):Option ρ :=
  ifb (ilt a (Û b)) (ā b a fun g=>ifb (ieq g c) (e true) (ck (a+(1:Int)) fun h=>d h)) (f ())
def X9 (a:Val ae) (b:Int) (k:Bool→Option ρ):Option ρ :=
  Î (fun(c:Int) d=>vS a b c (fun e=>d e) (fun f=>k f) (fun _=>k false)) (0:Int)
def OD (a:Val ae) (b:Int):Option (Bool):=X9 a b some
def rR (c:Val ae) (f:Val ae) (a:Int) (b:Val ae) (d:Int→Val ae→Option ρ) (g:Val ae→Option ρ):Option ρ :=
  ifb (ilt a (Û c)) (ā c a fun h=>Ã (OD f h) fun i=>ifb (!i) (ā c a fun e=>ë (î ((List.length b)+(List.length ([e])))) (ck (a+(1:Int)) fun j=>d j (b++([e])))) (ck (a+(1:Int)) fun k=>d k b)) (g b)
def Qe (b:Val ae) (c:Val ae) (k:Val ae→Option ρ):Option ρ :=
  Î (fun(a:Val ar) d=>rR b c a.1 a.2 (fun e f=>d (e,f)) (fun g=>k g)) ((0:Int),[])
def kj (a:Val ae) (b:Val ae):Option ((Val ae)):=Qe a b some
def kw (c:Int) (d:Int) (e:Val ac) (f:Val aa) (g:Val af) (h:Val ab) (i:Val aa) (b:Val ae) (a:Int) (j:Int→Option ρ) (k:Int→Option ρ) (l:Unit→Option ρ):Option ρ :=
  ifb (ilt a (Û b)) (ë ((ile 0 a)&&(ilt a (ĉ b))) (Ĺ b (Int.toNat a) fun m=>Ã (qS ((c,d),e,f,g,h,i) m) fun n=>ifb (ilt n 0) (k (5:Int)) (ck (a+(1:Int)) fun o=>j o))) (l ())
def jb (c:Int) (d:Int) (e:Val ac) (f:Val aa) (g:Val af) (h:Val ab) (i:Val aa) (j:Int) (b:Val ae) (a:Int) (k:Int→Option ρ) (l:Int→Option ρ) (m:Unit→Option ρ):Option ρ :=
  ifb (ilt a (Û b)) (ë ((ile 0 a)&&(ilt a (ĉ b))) (Ĺ b (Int.toNat a) fun n=>Ã (m6 ((c,d),e,f,g,h,i) n j) fun o=>ifb (ine o 0) (l (4:Int)) (ck (a+(1:Int)) fun p=>k p))) (m ())
def Φ (c:Int) (d:Int) (e:Val ac) (f:Val aa) (g:Val af) (h:Val ab) (i:Val aa) (j:Int) (b:Val ae) (a:Int) (k:Int→Option ρ) (l:Int→Option ρ) (m:Unit→Option ρ):Option ρ :=
  ifb (ilt a (Û b)) (ë ((ile 0 a)&&(ilt a (ĉ b))) (Ĺ b (Int.toNat a) fun n=>Ã (Aq ((c,d),e,f,g,h,i) n j) fun o=>ifb o.2 (l (9:Int)) (ck (a+(1:Int)) fun p=>k p))) (m ())
def vO (a:Val Å) (b:Val Ê) (k:Int→Option ρ):Option ρ :=
  ë (î (0+(List.length b.2.2.1))) (ë (î ((List.length (([])++b.2.2.1))+(List.length b.2.2.2.1))) (Î (fun(e:Int) f=>kw a.1.1 a.1.2 a.2.1 a.2.2.1 a.2.2.2.1 a.2.2.2.2.1 a.2.2.2.2.2 ((([])++b.2.2.1)++b.2.2.2.1) e (fun g=>f g) (fun h=>k h) (fun _=>Î (fun(i:Int) j=>jb a.1.1 a.1.2 a.2.1 a.2.2.1 a.2.2.2.1 a.2.2.2.2.1 a.2.2.2.2.2 b.2.1 ((([])++b.2.2.1)++b.2.2.2.1) i (fun l=>j l) (fun m=>k m) (fun _=>Î (fun(n:Int) o=>Φ a.1.1 a.1.2 a.2.1 a.2.2.1 a.2.2.2.1 a.2.2.2.2.1 a.2.2.2.2.2 b.2.1 ((([])++b.2.2.1)++b.2.2.2.1) n (fun p=>o p) (fun q=>k q) (fun _=>Ã (kj b.2.2.1 b.2.2.2.1) fun c=>Ã (kj b.2.2.2.1 b.2.2.1) fun d=>ifb (igt (Û c) 1) (k (1:Int)) (ifb (igt (Û d) 1) (k (1:Int)) (ck ((Û c)+(Û d)) fun r=>ifb (ieq r 0) (k (1:Int)) (k (0:Int)))))) (0:Int))) (0:Int))) (0:Int)))
def jU (a:Val Å) (b:Val Ê):Option (Int):=vO a b some
def XM (b:Val ae) (c:Val ae) (k:Int→Option ρ):Option ρ :=
  Ã (kj b c) fun a=>ifb (ieq (Û a) 0) (k (0:Int)) (ā a (0:Int) fun d=>k d)
def lZ (a:Val ae) (b:Val ae):Option (Int):=XM a b some
def rM (g:Int) (c:Val ab) (d:Int) (b:Int) (e:Int→Option ρ) (f:Bool→Option ρ) (h:Unit→Option ρ):Option ρ :=
  ifb (ilt b (Û c)) (ā c b fun a=>ifb (ieq a.2.1 g) (Ã (lZ a.2.2.1 a.2.2.2.1) fun i=>ifb (ieq i d) (f true) (Ã (lZ a.2.2.2.1 a.2.2.1) fun j=>ifb (ieq j d) (f true) (ck (b+(1:Int)) fun k=>e k))) (ck (b+(1:Int)) fun l=>e l)) (h ())
def nW (d:Int) (b:Val aa) (e:Int) (a:Int) (c:Int→Option ρ) (f:Bool→Option ρ) (g:Unit→Option ρ):Option ρ :=
  ifb (ilt a (Û b)) (ā b a fun h=>ifb (ieq h.1 e) (ā b a fun i=>ifb (ieq i.2 d) (f true) (ck (a+(1:Int)) fun j=>c j)) (ck (a+(1:Int)) fun k=>c k)) (g ())
def PR (c:Val Å) (a:Val Ó) (b:Int) (k:Bool→Option ρ):Option ρ :=
  ifb (ieq a.2.1 b) (k true) (Î (fun(d:Int) e=>rM b c.2.2.2.2.1 a.1 d (fun f=>e f) (fun g=>k g) (fun _=>Î (fun(h:Int) i=>nW b c.2.2.2.2.2 a.1 h (fun j=>i j) (fun l=>k l) (fun _=>k false)) (0:Int))) (0:Int))
def Iz (a:Val Å) (b:Val Ó) (c:Int):Option (Bool):=PR a b c some
def pp (c:Val ac) (a:Int) (b:Val ae) (e:Int→Val ae→Option ρ) (f:Val ae→Option ρ):Option ρ :=
  ifb (ilt a (Û c)) (ā c a fun d=>ë (î ((List.length b)+(List.length ([d.2.1])))) (ck (a+(1:Int)) fun g=>e g (b++([d.2.1])))) (f b)
def po (c:Val ab) (a:Int) (b:Val ae) (e:Int→Val ae→Option ρ) (f:Val ae→Option ρ):Option ρ :=
  ifb (ilt a (Û c)) (ā c a fun d=>ë (î ((List.length b)+(List.length ([d.2.1])))) (ck (a+(1:Int)) fun g=>e g (b++([d.2.1])))) (f b)
def pn (c:Val aa) (a:Int) (b:Val ae) (e:Int→Val ae→Option ρ) (f:Val ae→Option ρ):Option ρ :=
  ifb (ilt a (Û c)) (ā c a fun d=>ë (î ((List.length b)+(List.length ([d.2])))) (ck (a+(1:Int)) fun g=>e g (b++([d.2])))) (f b)
def lM (e:Int) (b:Val ae) (c:Int) (a:Int) (d:Int→Int→Option ρ) (f:Int→Option ρ):Option ρ :=
  ifb (ilt a (Û b)) (ë ((ile 0 a)&&(ilt a (ĉ b))) (Ĺ b (Int.toNat a) fun g=>ifb (igt g e) (ë ((ile 0 a)&&(ilt a (ĉ b))) (Ĺ b (Int.toNat a) fun h=>ck (a+(1:Int)) fun i=>d (Tp c h) i)) (ck (a+(1:Int)) fun j=>d c j))) (f c)
def lN (e:Int) (i:Int) (j:Int) (c:Val ac) (k:Val aa) (l:Val af) (m:Val ab) (n:Val aa) (o:Val ae) (f:Int) (b:Val aa) (d:Int→Val aa→Option ρ) (p:Val aa→Option ρ):Option ρ :=
  ifb (ilt f 20001) (Î (fun(g:Val Ä) q=>lM f o g.1 g.2 (fun r s=>q (r,s)) (fun a=>ifb (ilt a 20001) (ā c e fun t=>Ã (Iz ((i,j),c,k,l,m,n) t a) fun u=>ifb u (ā c e fun h=>ë (î ((List.length b)+(List.length ([(h.1,a)])))) (d a (b++([(h.1,a)])))) (d a b)) (d a b))) ((20001:Int),(0:Int))) (p b)
def pm (e:Int) (f:Int) (b:Val ac) (g:Val aa) (h:Val af) (i:Val ab) (j:Val aa) (k:Val ae) (a:Int) (c:Val aa) (l:Int→Val aa→Option ρ) (m:Val aa→Option ρ):Option ρ :=
  ifb (ilt a (Û b)) (Î (fun(d:Val aF) n=>lN a e f b g h i j k d.1 d.2 (fun o p=>n (o,p)) (fun q=>ck (a+(1:Int)) fun r=>l r q)) ((-1:Int),c)) (m c)
def JN (a:Val Å) (k:Val aa→Option ρ):Option ρ :=
  Î (fun(b:Val ar) f=>pp a.2.1 b.1 b.2 (fun g h=>f (g,h)) (fun i=>Î (fun(c:Val ar) j=>po a.2.2.2.2.1 c.1 c.2 (fun l m=>j (l,m)) (fun n=>Î (fun(d:Val ar) o=>pn a.2.2.2.2.2 d.1 d.2 (fun p q=>o (p,q)) (fun r=>Î (fun(e:Val aF) s=>pm a.1.1 a.1.2 a.2.1 a.2.2.1 a.2.2.2.1 a.2.2.2.2.1 a.2.2.2.2.2 r e.1 e.2 (fun t u=>s (t,u)) (fun v=>k v)) ((0:Int),[]))) ((0:Int),n))) ((0:Int),i))) ((0:Int),[])
def jV (a:Val Å):Option ((Val aa)):=JN a some
def pq (b:Val aa) (d:Int) (e:Int) (a:Int) (f:Int→Option ρ) (g:Int→Option ρ) (h:Unit→Option ρ):Option ρ :=
  ifb (ilt a (Û b)) (ā b a fun c=>ifb ((Ŏ c.1 d)&&((Ŏ c.2 e)&&true)) (ck (a+(1:Int)) fun i=>g i) (ck (a+(1:Int)) fun j=>f j)) (h ())
def JO (b:Val Å) (a:Val Ä) (k:Int→Option ρ):Option ρ :=
  Ã (jV b) fun c=>Î (fun(d:Int) e=>pq c a.1 a.2 d (fun f=>e f) (fun g=>k g) (fun _=>k (0:Int))) (0:Int)
def Ĭ (a:Val Å) (b:Val Ä):Option (Int):=JO a b some
def rN (d:Int) (e:Int) (b:Val aa) (a:Int) (c:Int→Option ρ) (f:Bool→Option ρ) (g:Unit→Option ρ):Option ρ :=
  ifb (ilt a (Û b)) (ā b a fun h=>ifb (ieq h.1 d) (ā b a fun i=>ifb (ieq i.2 e) (f true) (ck (a+(1:Int)) fun j=>c j)) (ck (a+(1:Int)) fun k=>c k)) (g ())
def PV (a:Val Å) (b:Int) (c:Int) (k:Bool→Option ρ):Option ρ :=
  Î (fun(d:Int) e=>rN b c a.2.2.1 d (fun f=>e f) (fun g=>k g) (fun _=>k false)) (0:Int)
def IA (a:Val Å) (b:Int) (c:Int):Option (Bool):=PV a b c some
def rP (d:Int) (m:Int) (n:Int) (e:Int) (f:Int) (g:Val ac) (h:Val aa) (i:Val af) (j:Val ab) (k:Val aa) (b:Int) (a:Int) (c:Int→Int→Option ρ) (o:Int→Option ρ):Option ρ :=
  ifb (ilt a m) (Ã (Aq ((e,f),g,h,i,j,k) d a) fun l=>ifb l.2 (ck (b+l.1.2.2) fun p=>ck (a+(1:Int)) fun q=>c p q) (Ã (IA ((e,f),g,h,i,j,k) d a) fun r=>ifb r (ck (b+n) fun s=>ck (a+(1:Int)) fun t=>c s t) (ck (a+(1:Int)) fun u=>c b u))) (o b)
def P8 (a:Val Å) (b:Int) (d:Int) (e:Int) (k:Int→Option ρ):Option ρ :=
  Ã (qS a b) fun f=>ā a.2.1 f fun g=>Î (fun(c:Val Ä) h=>rP b e g.2.2.2.2.2 a.1.1 a.1.2 a.2.1 a.2.2.1 a.2.2.2.1 a.2.2.2.2.1 a.2.2.2.2.2 c.1 c.2 (fun i j=>h (i,j)) (fun l=>k l)) ((0:Int),d)
def vh (a:Val Å) (b:Int) (c:Int) (d:Int):Option (Int):=P8 a b c d some
def Eh (b:Int) (a:Int) (k:Val Ļ→Option ρ):Option ρ :=
  ifb (ine b 0) (ifb (Ŏ a 0) (none) (Ã (IE (Int.tmod b a)) fun h=>Ã (Br h a) fun c=>ifb (Ŏ c 0) (none) (ck (Int.tdiv b c) fun d=>ifb (Ŏ c 0) (none) (ck (Int.tdiv a c) fun f=>ifb (igt f 2147483647) (k (((0:Int),(0:Int)),(3:Int))) (ifb (ilt d (-2147483647:Int)) (k (((0:Int),(0:Int)),(3:Int))) (ifb (igt d 2147483647) (k (((0:Int),(0:Int)),(3:Int))) (k ((d,f),(0:Int))))))))) (ifb (Ŏ a 0) (none) (ck (Int.tdiv b a) fun e=>ifb (Ŏ a 0) (none) (ck (Int.tdiv a a) fun g=>ifb (igt g 2147483647) (k (((0:Int),(0:Int)),(3:Int))) (ifb (ilt e (-2147483647:Int)) (k (((0:Int),(0:Int)),(3:Int))) (ifb (igt e 2147483647) (k (((0:Int),(0:Int)),(3:Int))) (k ((e,g),(0:Int))))))))
def qU (a:Int) (b:Int):Option (Val Ļ):=Eh a b some
def Yq (a:Val Ä) (b:Val Ä) (k:Val Ļ→Option ρ):Option ρ :=
  ck (a.1*b.2) fun c=>ck (b.1*a.2) fun d=>ck (c+d) fun e=>ck (a.2*b.2) fun f=>Ã (qU e f) fun g=>k g
def ZI (a:Val Ä) (b:Val Ä):Option (Val Ļ):=Yq a b some
def Yk (a:Val Ä) (k:Val Ä→Option ρ):Option ρ :=
  ck ((0:Int)-a.1) fun b=>k (b,a.2)
def ZH (a:Val Ä):Option (Val Ä):=Yk a some
def Yi (a:Val Ä) (b:Val Ä) (k:Val Ļ→Option ρ):Option ρ :=
  Ã (ZH b) fun c=>Ã (ZI a c) fun d=>k d
def OE (a:Val Ä) (b:Val Ä):Option (Val Ļ):=Yi a b some
def JI (a:Val Å) (b:Int) (k:Val Ä→Option ρ):Option ρ :=
  ifb (ieq b 0) (k ((0:Int),(1:Int))) (Ã (qS a b) fun c=>ā a.2.1 c fun d=>k d.2.2.2.2.1)
def vf (a:Val Å) (b:Int):Option (Val Ä):=JI a b some
def Qz (a:Val Ļ) (b:Val Ļ) (k:Val tN→Option ρ):Option ρ :=
  ifb (ine a.2 0) (k ((((0:Int),(0:Int)),(0:Int),(0:Int)),a.2)) (ifb (ine b.2 0) (k ((((0:Int),(0:Int)),(0:Int),(0:Int)),b.2)) (k ((a.1,b.1),(0:Int))))
def IC (a:Val Ļ) (b:Val Ļ):Option (Val tN):=Qz a b some
def Yl (a:Val Ä) (b:Val Ä) (k:Val Ļ→Option ρ):Option ρ :=
  ck (a.1*b.1) fun c=>ck (a.2*b.2) fun d=>Ã (qU c d) fun e=>k e
def wX (a:Val Ä) (b:Val Ä):Option (Val Ļ):=Yl a b some
def JX (b:Val í) (a:Val Ä) (k:Val tN→Option ρ):Option ρ :=
  ifb (ilt a.1 0) (Ã (wX b.2 a) fun c=>Ã (wX b.1 a) fun d=>Ã (IC c d) fun e=>k e) (Ã (wX b.1 a) fun f=>Ã (wX b.2 a) fun g=>Ã (IC f g) fun h=>k h)
def Bq (a:Val í) (b:Val Ä):Option (Val tN):=JX a b some
def Ee (b:Val Å) (a:Val Ê) (k:Val í→Option ρ):Option ρ :=
  Ã (lZ a.2.2.1 a.2.2.2.1) fun c=>Ã (vf b c) fun d=>Ã (lZ a.2.2.2.1 a.2.2.1) fun e=>Ã (vf b e) fun f=>Ã (OE d f) fun g=>Ã (Bq ((a.2.2.2.2.2.2.1,(1:Int)),a.2.2.2.2.2.2.2,(1:Int)) g.1) fun h=>k h.1
def m7 (a:Val Å) (b:Val Ê):Option (Val í):=Ee a b some
def JQ (a:Val Å) (b:Val Ê) (k:Val Ä→Option ρ):Option ρ :=
  ck ((Û b.2.2.1)-(1:Int)) fun c=>ck ((Û b.2.2.2.1)-(1:Int)) fun d=>ck ((Oy (0:Int) c)*a.1.1) fun e=>ck ((Oy (0:Int) d)*a.1.2) fun f=>ck (e-f) fun g=>ck ((Oy (0:Int) c)*a.1.2) fun h=>ck ((Oy (0:Int) d)*a.1.1) fun i=>ck (h-i) fun j=>k (g,j)
def pY (a:Val Å) (b:Val Ê):Option (Val Ä):=JQ a b some
def aeV (b:Int) (a:Int) (k:Int→Option ρ):Option ρ :=
  ifb (Ŏ a 0) (none) (ck (Int.tdiv b a) fun c=>ifb (Ŏ a 0) (none) (ifb (igt (Int.tmod b a) 0) (ck (c+1) fun d=>k d) (k c)))
def afG (a:Int) (b:Int):Option (Int):=aeV a b some
def QB (a:Val Ä) (k:Int→Option ρ):Option ρ :=
  Ã (afG a.1 a.2) fun b=>k b
def Ar (a:Val Ä):Option (Int):=QB a some
def Qx (b:Int) (a:Int) (k:Int→Option ρ):Option ρ :=
  ifb (Ŏ a 0) (none) (ck (Int.tdiv b a) fun c=>ifb (Ŏ a 0) (none) (ifb (ilt (Int.tmod b a) 0) (ck (c-1) fun d=>k d) (k c)))
def Sr (a:Int) (b:Int):Option (Int):=Qx a b some
def JZ (a:Val Ä) (k:Int→Option ρ):Option ρ :=
  Ã (Sr a.1 a.2) fun b=>k b
def vl (a:Val Ä):Option (Int):=JZ a some
def F9 (b:Val Å) (a:Val Ê) (k:Val Ä→Option ρ):Option ρ :=
  Ã (m7 b a) fun c=>Ã (pY b a) fun d=>ck (a.2.2.2.2.1-a.2.2.2.2.2.1) fun e=>ck (e-d.2) fun f=>Ã (vl c.2) fun g=>ck (f-g) fun h=>ck (a.2.2.2.2.1+a.2.2.2.2.2.1) fun i=>ck (i-d.1) fun j=>Ã (Ar c.1) fun l=>ck (j-l) fun m=>k (h,m)
def jG (a:Val Å) (b:Val Ê):Option (Val Ä):=F9 a b some
def kL (e:Val aa) (b:Int) (p:Int) (q:Int) (r:Val ac) (s:Val aa) (t:Val af) (u:Val ab) (v:Val aa) (g:Int) (w:Int) (h:Int) (x:Int) (y:Int) (a:Int) (c:Val ah) (d:Val aa) (f:Int→Val ah→Val aa→Option ρ) (z:Val xl→Option ρ):Option ρ :=
  ifb (ilt a (Û e)) (ā e a fun A=>ifb (ine A.1 g) (ck (a+(1:Int)) fun B=>f B c d) (ā e a fun C=>ifb (ieq C.2 w) (ck (a+(1:Int)) fun i=>ck (h+y) fun j=>ck (a+(1:Int)) fun k=>ck ((0:Int)-h) fun D=>ck (D-x) fun l=>ë (î ((List.length c)+(List.length ([((0:Int),i,j),(k,(0:Int),l)])))) (ë (î ((List.length d)+(List.length ([((1:Int),b),((1:Int),b)])))) (ck (a+(1:Int)) fun E=>f E (c++([((0:Int),i,j),(k,(0:Int),l)])) (d++([((1:Int),b),((1:Int),b)]))))) (ck (a-(1:Int)) fun F=>ā e F fun G=>ā e a fun H=>Ã (vh ((p,q),r,s,t,u,v) g G.2 H.2) fun m=>ck (a+(1:Int)) fun n=>ck (a+(1:Int)) fun o=>ë (î ((List.length c)+(List.length ([(a,n,(0:Int)),(o,a,m)])))) (ë (î ((List.length d)+(List.length ([((2:Int),b),((2:Int),b)])))) (ck (a+(1:Int)) fun I=>f I (c++([(a,n,(0:Int)),(o,a,m)])) (d++([((2:Int),b),((2:Int),b)]))))))) (z (c,d))
def mP (h:Val aa) (i:Int) (j:Int) (c:Val ac) (k:Val aa) (l:Val af) (m:Val ab) (n:Val aa) (b:Int) (e:Val ah) (f:Val aa) (o:Int→Val ah→Val aa→Option ρ) (p:Val xl→Option ρ):Option ρ :=
  ifb (ilt b (Û c)) (ā c b fun a=>Î (fun(d:Val aO) q=>kL h b i j c k l m n a.1 a.2.1 a.2.2.1 a.2.2.2.1.1 a.2.2.2.1.2 d.1 d.2.1 d.2.2 (fun r s t=>q (r,s,t)) (fun g=>ck (b+(1:Int)) fun u=>o u g.1 g.2)) ((0:Int),e,f)) (p (e,f))
def mO (f:Int) (g:Int) (h:Val ac) (i:Val aa) (j:Val af) (c:Val ab) (k:Val aa) (a:Int) (l:Val ah) (m:Val aa) (p:Int→Val ah→Val aa→Option ρ) (q:Val xl→Option ρ):Option ρ :=
  ifb (ilt a (Û c)) (ā c a fun b=>Ã (lZ b.2.2.1 b.2.2.2.1) fun r=>Ã (Ĭ ((f,g),h,i,j,c,k) (r,b.2.1)) fun d=>Ã (lZ b.2.2.2.1 b.2.2.1) fun s=>Ã (Ĭ ((f,g),h,i,j,c,k) (s,b.2.1)) fun e=>Ã (jG ((f,g),h,i,j,c,k) b) fun n=>ck ((0:Int)-n.1) fun o=>ë (î ((List.length l)+(List.length ([(e,d,n.2),(d,e,o)])))) (ë (î ((List.length m)+(List.length ([((3:Int),a),((3:Int),a)])))) (ck (a+(1:Int)) fun t=>p t (l++([(e,d,n.2),(d,e,o)])) (m++([((3:Int),a),((3:Int),a)]))))) (q (l,m))
def Ot (a:Val Å) (k:Val xl→Option ρ):Option ρ :=
  Ã (jV a) fun e=>Î (fun(b:Val aO) f=>mP e a.1.1 a.1.2 a.2.1 a.2.2.1 a.2.2.2.1 a.2.2.2.2.1 a.2.2.2.2.2 b.1 b.2.1 b.2.2 (fun g h i=>f (g,h,i)) (fun d=>Î (fun(c:Val aO) j=>mO a.1.1 a.1.2 a.2.1 a.2.2.1 a.2.2.2.1 a.2.2.2.2.1 a.2.2.2.2.2 c.1 c.2.1 c.2.2 (fun l m n=>j (l,m,n)) (fun o=>k o)) ((0:Int),d.1,d.2))) ((0:Int),[],[])
def pD (a:Val Å):Option (Val xl):=Ot a some
def pu (b:Val ac) (a:Int) (c:Int→Option ρ) (d:Int→Option ρ) (e:Unit→Option ρ):Option ρ :=
  ifb (ilt a (Û b)) (ā b a fun f=>Ã (Bo f) fun g=>ifb (!g) (d (1:Int)) (ifb (igt a 0) (ā b a fun h=>ck (a-(1:Int)) fun i=>ā b i fun j=>ifb (ile h.1 j.1) (d (6:Int)) (ck (a+(1:Int)) fun k=>c k)) (ck (a+(1:Int)) fun l=>c l))) (e ())
def pr (b:Int) (c:Val ab) (a:Int) (d:Int→Option ρ) (e:Int→Option ρ) (f:Unit→Option ρ):Option ρ :=
  ifb (ilt a b) (ā c a fun g=>ā c b fun h=>ifb (ieq g.1 h.1) (e (6:Int)) (ck (a+(1:Int)) fun i=>d i)) (f ())
def jP (e:Int) (f:Int) (g:Val ac) (h:Val aa) (i:Val af) (a:Val ab) (j:Val aa) (b:Int) (k:Int→Option ρ) (c:Int→Option ρ) (l:Unit→Option ρ):Option ρ :=
  ifb (ilt b (Û a)) (ā a b fun m=>Ã (Bm m) fun n=>ifb (!n) (c (1:Int)) (Î (fun(o:Int) p=>pr b a o (fun q=>p q) (fun r=>c r) (fun _=>ā a b fun s=>Ã (jU ((e,f),g,h,i,a,j) s) fun d=>ifb (ine d 0) (c d) (ck (b+(1:Int)) fun t=>k t))) (0:Int))) (l ())
def jO (e:Int) (f:Int) (g:Val ac) (h:Val aa) (i:Val af) (j:Val ab) (a:Val aa) (b:Int) (k:Int→Option ρ) (c:Int→Option ρ) (l:Unit→Option ρ):Option ρ :=
  ifb (ilt b (Û a)) (ā a b fun m=>Ã (wW m.2) fun n=>ifb (!n) (c (1:Int)) (ā a b fun o=>ā a b fun p=>Ã (m6 ((e,f),g,h,i,j,a) o.1 p.2) fun d=>ifb (ine d 0) (c d) (ck (b+(1:Int)) fun q=>k q))) (l ())
def JR (a:Val Å) (k:Int→Option ρ):Option ρ :=
  Ã (jF a.1 (0:Int) (1000000:Int)) fun d=>ifb (!d) (k (1:Int)) (ifb (igt (Û a.2.1) 12) (k (2:Int)) (ifb (igt (Û a.2.2.1) 40) (k (2:Int)) (ifb (igt (Û a.2.2.2.1) 12) (k (2:Int)) (ifb (igt (Û a.2.2.2.2.1) 40) (k (2:Int)) (ifb (igt (Û a.2.2.2.2.2) 10) (k (2:Int)) (Î (fun(e:Int) f=>pu a.2.1 e (fun g=>f g) (fun h=>k h) (fun _=>Ã (Iy a) fun b=>ifb (ieq b 0) (Ã (Bn a) fun c=>ifb (ine c 0) (k c) (Î (fun(i:Int) j=>jP a.1.1 a.1.2 a.2.1 a.2.2.1 a.2.2.2.1 a.2.2.2.2.1 a.2.2.2.2.2 i (fun l=>j l) (fun m=>k m) (fun _=>Î (fun(n:Int) o=>jO a.1.1 a.1.2 a.2.1 a.2.2.1 a.2.2.2.1 a.2.2.2.2.1 a.2.2.2.2.2 n (fun p=>o p) (fun q=>k q) (fun _=>Ã (jV a) fun r=>ifb (igt (Û r) 59) (k (2:Int)) (Ã (pD a) fun s=>ifb (igt (Û s.1) 300) (k (2:Int)) (k (0:Int))))) (0:Int))) (0:Int))) (ifb (ine b 0) (k b) (Î (fun(t:Int) u=>jP a.1.1 a.1.2 a.2.1 a.2.2.1 a.2.2.2.1 a.2.2.2.2.1 a.2.2.2.2.2 t (fun v=>u v) (fun w=>k w) (fun _=>Î (fun(x:Int) y=>jO a.1.1 a.1.2 a.2.1 a.2.2.1 a.2.2.2.1 a.2.2.2.2.1 a.2.2.2.2.2 x (fun z=>y z) (fun A=>k A) (fun _=>Ã (jV a) fun B=>ifb (igt (Û B) 59) (k (2:Int)) (Ã (pD a) fun C=>ifb (igt (Û C.1) 300) (k (2:Int)) (k (0:Int))))) (0:Int))) (0:Int))))) (0:Int)))))))
def jg (a:Val Å):Option (Int):=JR a some
def vQ (a:Val Å) (k:Val Ñ→Option ρ):Option ρ :=
  Ã (jV a) fun b=>ck ((Û b)+(1:Int)) fun c=>Ã (pD a) fun d=>k (c,d.1)
def gZ (a:Val Å):Option (Val Ñ):=vQ a some
def Qa (a:Val Å) (b:Val Ä) (k:Val aH→Option ρ):Option ρ :=
  ë (î (0+(List.length a.2.2.2.2.2))) (ë (î ((List.length (([])++a.2.2.2.2.2))+(List.length ([b])))) (Ã (jg (a.1,a.2.1,a.2.2.1,a.2.2.2.1,a.2.2.2.2.1,((([])++a.2.2.2.2.2)++([b])))) fun c=>ifb (ine c 0) (k ((((0:Int),(0:Int)),[],[],[],[],[]),c)) (k ((a.1,a.2.1,a.2.2.1,a.2.2.2.1,a.2.2.2.2.1,((([])++a.2.2.2.2.2)++([b]))),(0:Int)))))
def vk (a:Val Å) (b:Val Ä):Option ((Val aH)):=Qa a b some
def lS (d:Int) (e:Int) (a:Int) (b:Val ae) (c:Int→Val ae→Option ρ) (f:Val ae→Option ρ):Option ρ :=
  ifb (ilt a d) (ë ((ile 0 a)&&(ilt a (ĉ b))) (Ĺ b (Int.toNat a) fun i=>ifb (ieq e a) (ë ((ile 0 a)&&(ilt a (ĉ (List.set b (Int.toNat a) (1152921504606846976:Int))))) (Ĺ (List.set b (Int.toNat a) (1152921504606846976:Int)) (Int.toNat a) fun j=>ck (a+(1:Int)) fun g=>c g (List.set (List.set b (Int.toNat a) (1152921504606846976:Int)) (Int.toNat a) (0:Int)))) (ck (a+(1:Int)) fun h=>c h (List.set b (Int.toNat a) (1152921504606846976:Int))))) (f b)
def lT (a:Int) (b:Int) (c:Val am) (f:Int→Val am→Option ρ) (g:Val am→Option ρ):Option ρ :=
  ifb (ilt b a) (ë ((ile 0 a)&&(î (Int.toNat a))) (Î (fun(d:Val ar) h=>lS a b d.1 d.2 (fun i j=>h (i,j)) (fun e=>ë (î ((List.length c)+(List.length ([e])))) (ck (b+(1:Int)) fun k=>f k (c++([e]))))) ((0:Int),(List.replicate (Int.toNat a) (0:Int))))) (g c)
def lR (d:Val ah) (c:Int) (b:Val am) (f:Int→Val am→Option ρ) (g:Val am→Option ρ):Option ρ :=
  ifb (ilt c (Û d)) (ā d c fun a=>ë ((ile 0 a.1)&&(ilt a.1 (ĉ b))) (ë ((ile 0 a.1)&&(ilt a.1 (ĉ b))) (Ĺ b (Int.toNat a.1) fun h=>ë ((ile 0 a.2.1)&&(ilt a.2.1 (ĉ h))) (Ĺ b (Int.toNat a.1) fun i=>Ĺ i (Int.toNat a.2.1) fun j=>Ĺ b (Int.toNat a.1) fun k=>ë ((ile 0 a.2.1)&&(ilt a.2.1 (ĉ k))) (Ĺ b (Int.toNat a.1) fun e=>Ĺ e (Int.toNat a.2.1) fun m=>ck (c+(1:Int)) fun l=>f l (List.set b (Int.toNat a.1) (List.set e (Int.toNat a.2.1) (Tp j a.2.2)))))))) (g b)
def lP (d:Int) (c:Int) (g:Int) (b:Int) (a:Val am) (e:Int→Val am→Option ρ) (h:Val am→Option ρ):Option ρ :=
  ifb (ilt b g) (ë ((ile 0 d)&&(ilt d (ĉ a))) (Ĺ a (Int.toNat d) fun i=>ë ((ile 0 b)&&(ilt b (ĉ i))) (Ĺ a (Int.toNat d) fun j=>Ĺ j (Int.toNat b) fun k=>ifb (ine k 1152921504606846976) (ë ((ile 0 c)&&(ilt c (ĉ a))) (ë ((ile 0 c)&&(ilt c (ĉ a))) (Ĺ a (Int.toNat c) fun l=>ë ((ile 0 b)&&(ilt b (ĉ l))) (Ĺ a (Int.toNat c) fun m=>Ĺ m (Int.toNat b) fun n=>ë ((ile 0 c)&&(ilt c (ĉ a))) (Ĺ a (Int.toNat c) fun o=>ë ((ile 0 d)&&(ilt d (ĉ o))) (Ĺ a (Int.toNat c) fun p=>Ĺ p (Int.toNat d) fun q=>ë ((ile 0 d)&&(ilt d (ĉ a))) (Ĺ a (Int.toNat d) fun r=>ë ((ile 0 b)&&(ilt b (ĉ r))) (Ĺ a (Int.toNat d) fun s=>Ĺ s (Int.toNat b) fun t=>ck (q+t) fun u=>Ĺ a (Int.toNat c) fun v=>ë ((ile 0 b)&&(ilt b (ĉ v))) (Ĺ a (Int.toNat c) fun f=>Ĺ f (Int.toNat b) fun y=>ck (b+(1:Int)) fun w=>e w (List.set a (Int.toNat c) (List.set f (Int.toNat b) (Tp n u)))))))))))) (ck (b+(1:Int)) fun x=>e x a)))) (h a)
def lQ (c:Int) (d:Int) (a:Int) (b:Val am) (e:Int→Val am→Option ρ) (g:Val am→Option ρ):Option ρ :=
  ifb (ilt a d) (ë ((ile 0 a)&&(ilt a (ĉ b))) (Ĺ b (Int.toNat a) fun h=>ë ((ile 0 c)&&(ilt c (ĉ h))) (Ĺ b (Int.toNat a) fun i=>Ĺ i (Int.toNat c) fun j=>ifb (ieq j 1152921504606846976) (ck (a+(1:Int)) fun k=>e k b) (Î (fun(f:Val aP) l=>lP c a d f.1 f.2 (fun m n=>l (m,n)) (fun o=>ck (a+(1:Int)) fun p=>e p o)) ((0:Int),b))))) (g b)
def iS (c:Int) (b:Val am) (a:Int) (d:Int→Option ρ) (e:Bool→Option ρ) (f:Unit→Option ρ):Option ρ :=
  ifb (ilt a c) (ë ((ile 0 a)&&(ilt a (ĉ b))) (Ĺ b (Int.toNat a) fun g=>ë ((ile 0 a)&&(ilt a (ĉ g))) (Ĺ b (Int.toNat a) fun h=>Ĺ h (Int.toNat a) fun i=>ifb (ilt i 0) (e false) (ck (a+(1:Int)) fun j=>d j)))) (f ())
def jQ (a:Int) (b:Int) (d:Val am) (f:Int→Val am→Option ρ) (g:(Val (.pair .bool am))→Option ρ) (h:Val am→Option ρ):Option ρ :=
  ifb (ilt b a) (Î (fun(e:Val aP) i=>lQ b a e.1 e.2 (fun j k=>i (j,k)) (fun c=>Î (fun(l:Int) m=>iS a c l (fun n=>m n) (fun o=>g (o,c)) (fun _=>ck (b+(1:Int)) fun p=>f p c)) (0:Int))) ((0:Int),d)) (h d)
def JV (a:Val Ñ) (k:(Val (.pair am .bool))→Option ρ):Option ρ :=
  Î (fun(b:Val aP) e=>lT a.1 b.1 b.2 (fun f g=>e (f,g)) (fun h=>Î (fun(c:Val aP) i=>lR a.2 c.1 c.2 (fun j l=>i (j,l)) (fun m=>Î (fun(d:Val aP) n=>jQ a.1 d.1 d.2 (fun o p=>n (o,p)) (fun q=>k ([],q.1)) (fun r=>k (r,true))) ((0:Int),m))) ((0:Int),h))) ((0:Int),[])
def pZ (a:Val Ñ):Option ((Val (.pair am .bool))):=JV a some
def nT (j:Val aa) (b:Int) (c:Int) (d:Int) (e:Val ac) (f:Val aa) (g:Val af) (h:Val ab) (i:Val aa) (k:Int) (l:Int) (m:Int) (n:Int) (o:Int→Int→Int→Val ac→Val aa→Val af→Val ab→Val aa→Int→Int→Int→Int→Option ρ) (p:Val aA→Option ρ) (q:Val aA→Option ρ):Option ρ :=
  ifb (ilt b (Û j)) (ā j b fun r=>Ã (Ĭ ((c,d),e,f,g,h,i) r) fun s=>ifb (igt s 0) (ck (b+(1:Int)) fun t=>o t c d e f g h i k l m n) (ā j b fun u=>Ã (vk ((c,d),e,f,g,h,i) u) fun a=>ifb (ine a.2 0) (p (c,d,e,f,g,h,i,(0:Int),(0:Int),(0:Int),a.2)) (ck (b+(1:Int)) fun v=>o v a.1.1.1 a.1.1.2 a.1.2.1 a.1.2.2.1 a.1.2.2.2.1 a.1.2.2.2.2.1 a.1.2.2.2.2.2 k l m n))) (q (c,d,e,f,g,h,i,k,l,m,n))
def PG (c:Val Å) (h:Val aa) (k:Val qk→Option ρ):Option ρ :=
  Ã (jg c) fun e=>ifb (ine e 0) (k ((((0:Int),(0:Int)),[],[],[],[],[]),((0:Int),[]),[],e)) (Î (fun(b:(Val (.pair tI aA))) i=>nT h b.1 b.2.1 b.2.2.1 b.2.2.2.1 b.2.2.2.2.1 b.2.2.2.2.2.1 b.2.2.2.2.2.2.1 b.2.2.2.2.2.2.2.1 b.2.2.2.2.2.2.2.2.1 b.2.2.2.2.2.2.2.2.2.1 b.2.2.2.2.2.2.2.2.2.2.1 b.2.2.2.2.2.2.2.2.2.2.2 (fun j l m n o p q r s t u v=>i (j,l,m,n,o,p,q,r,s,t,u,v)) (fun d=>k (((d.2.2.2.2.2.2.2.1,d.2.2.2.2.2.2.2.2.1),[],[],[],[],[]),(d.2.2.2.2.2.2.2.2.2.1,[]),[],d.2.2.2.2.2.2.2.2.2.2)) (fun a=>Ã (gZ ((a.1,a.2.1),a.2.2.1,a.2.2.2.1,a.2.2.2.2.1,a.2.2.2.2.2.1,a.2.2.2.2.2.2.1)) fun f=>Ã (pZ f) fun g=>ifb (!g.2) (k ((((0:Int),(0:Int)),[],[],[],[],[]),((0:Int),[]),[],(9:Int))) (k (((a.1,a.2.1),a.2.2.1,a.2.2.2.1,a.2.2.2.2.1,a.2.2.2.2.2.1,a.2.2.2.2.2.2.1),f,g.1,(0:Int))))) ((0:Int),c.1.1,c.1.2,c.2.1,c.2.2.1,c.2.2.2.1,c.2.2.2.2.1,c.2.2.2.2.2,(0:Int),(0:Int),(0:Int),(0:Int)))
def Ţ (a:Val Å) (b:Val aa):Option (Val qk):=PG a b some
def Ex (m:Int) (j:Val aa) (b:Int) (c:Int) (d:Int) (e:Val ac) (f:Val aa) (g:Val af) (h:Val ab) (i:Val aa) (k:Int→Int→Int→Val ac→Val aa→Val af→Val ab→Val aa→Option ρ) (n:Val aD→Option ρ) (o:Val ai→Option ρ):Option ρ :=
  ifb (ilt b m) (ë ((ile 0 b)&&(ilt b (ĉ j))) (Ĺ j (Int.toNat b) fun l=>Ã (ţ ((c,d),e,f,g,h,i) l) fun p=>ifb (ieq p.2 0) (ck (b+(1:Int)) fun q=>k q c d e f g h i) (Ã (jW ((c,d),e,f,g,h,i) l) fun a=>ifb (ine a.2 0) (n (a.2,c,d,e,f,g,h,i)) (ck (b+(1:Int)) fun r=>k r a.1.1.1 a.1.1.2 a.1.2.1 a.1.2.2.1 a.1.2.2.2.1 a.1.2.2.2.2.1 a.1.2.2.2.2.2)))) (o (c,d,e,f,g,h,i))
def mW (e:Val au) (f:Val ab) (g:Int) (h:Int) (i:Int) (b:Int) (a:Val ae) (j:Int→Val ae→Option ρ) (k:Val aK→Option ρ) (l:Val ae→Option ρ):Option ρ :=
  ifb (ilt b g) (ā f b fun m=>Ã (qd e (h,i) m) fun c=>ifb (ine c.2 0) (k ((0:Int),c.2,a)) (Ã (jH c.1) fun d=>ë (î ((List.length a)+(List.length ([d])))) (ck (b+(1:Int)) fun n=>j n (a++([d]))))) (l a)
def wm (b:Val ae) (c:Int) (a:Int) (d:Int→Int→Option ρ) (e:Int→Option ρ):Option ρ :=
  ifb (ilt a (Û b)) (ë ((ile 0 a)&&(ilt a (ĉ b))) (Ĺ b (Int.toNat a) fun f=>ck (a+(1:Int)) fun g=>d (Tp c f) g)) (e c)
def A9 (b:Val Å) (g:Val Ä) (a:Val ab) (k:Val Ä→Option ρ):Option ρ :=
  Ã (Ą b) fun h=>ifb (ine h 0) (ifb (ine h 0) (k ((0:Int),h)) (ifb (ieq (Û a) 0) (k ((0:Int),(1:Int))) (ë (igt (Û a) 20) (k ((0:Int),(2:Int)))))) (Î (fun(c:Val aD) n=>Ex (Û ([g])) ([g]) c.1 c.2.1 c.2.2.1 c.2.2.2.1 c.2.2.2.2.1 c.2.2.2.2.2.1 c.2.2.2.2.2.2.1 c.2.2.2.2.2.2.2 (fun o p q r s t u v=>n (o,p,q,r,s,t,u,v)) (fun i=>ifb (ine i.1 0) (k ((0:Int),i.1)) (ifb (ieq (Û a) 0) (k ((0:Int),(1:Int))) (ë (igt (Û a) 20) (k ((0:Int),(2:Int)))))) (fun d=>Ã (ĭ ((d.1,d.2.1),d.2.2)) fun e=>ifb (ine e.2.2 0) (ifb (ine e.2.2 0) (k ((0:Int),e.2.2)) (ifb (ieq (Û a) 0) (k ((0:Int),(1:Int))) (ë (igt (Û a) 20) (k ((0:Int),(2:Int)))))) (Ã (ę e.1) fun w=>ifb (!w.1) (k ((0:Int),(9:Int))) (ifb (ieq (Û a) 0) (k ((0:Int),(1:Int))) (ifb (igt (Û a) 20) (k ((0:Int),(2:Int))) (Î (fun(j:Val ar) x=>mW (((d.1,d.2.1),d.2.2),e.1) a (Û a) g.1 g.2 j.1 j.2 (fun y z=>x (y,z)) (fun l=>k (l.1,l.2.1)) (fun f=>ifb (ilt (Û f) 1) (none) (ë (ilt 0 (ĉ f)) (Ĺ f 0 fun A=>Î (fun(m:Val Ä) B=>wm f m.1 m.2 (fun C D=>B (C,D)) (fun E=>Ã (iE f E) fun F=>k (F,(0:Int)))) (A,(1:Int)))))) ((0:Int),[]))))))) ((0:Int),b.1.1,b.1.2,b.2.1,b.2.2.1,b.2.2.2.1,b.2.2.2.2.1,b.2.2.2.2.2))
def nw (a:Val Å) (b:Val Ä) (c:Val ab):Option (Val Ä):=A9 a b c some
def FX (a:Val Å) (b:Val Ê) (k:Val Å→Option ρ):Option ρ :=
  ë (î (0+(List.length a.2.2.2.2.1))) (ë (î ((List.length (([])++a.2.2.2.2.1))+(List.length ([b])))) (k (a.1,a.2.1,a.2.2.1,a.2.2.2.1,((([])++a.2.2.2.2.1)++([b])),a.2.2.2.2.2)))
def ve (a:Val Å) (b:Val Ê):Option (Val Å):=FX a b some
def PT (c:Val Å) (d:Val Ê) (k:Val aH→Option ρ):Option ρ :=
  Ã (ve c d) fun a=>Ã (jg a) fun b=>ifb (ine b 0) (k ((((0:Int),(0:Int)),[],[],[],[],[]),b)) (k (a,(0:Int)))
def vg (a:Val Å) (b:Val Ê):Option ((Val aH)):=PT a b some
def nX (d:Val ah) (e:Bool) (c:Int) (b:Val ae) (f:Bool→Int→Val ae→Option ρ) (g:(Val (.pair .bool ae))→Option ρ):Option ρ :=
  ifb (ilt c (Û d)) (ā d c fun a=>ë ((ile 0 a.1)&&(ilt a.1 (ĉ b))) (Ĺ b (Int.toNat a.1) fun h=>ck (h+a.2.2) fun i=>ë ((ile 0 a.2.1)&&(ilt a.2.1 (ĉ b))) (Ĺ b (Int.toNat a.2.1) fun j=>ifb (ilt i j) (ë ((ile 0 a.1)&&(ilt a.1 (ĉ b))) (Ĺ b (Int.toNat a.1) fun k=>ck (k+a.2.2) fun l=>ë ((ile 0 a.2.1)&&(ilt a.2.1 (ĉ b))) (Ĺ b (Int.toNat a.2.1) fun o=>ck (c+(1:Int)) fun m=>f true m (List.set b (Int.toNat a.2.1) l)))) (ck (c+(1:Int)) fun n=>f e n b)))) (g (e,b))
def nY (g:Int) (h:Val ah) (a:Bool) (d:Int) (b:Val ae) (i:Bool→Int→Val ae→Option ρ) (e:(Val (.pair .bool ae))→Option ρ):Option ρ :=
  ifb (ile d g) (ifb a (Î (fun(c:Val ba) j=>nX h c.1 c.2.1 c.2.2 (fun k l m=>j (k,l,m)) (fun f=>ck (d+(1:Int)) fun n=>i f.1 n f.2)) (false,(0:Int),b)) (e (a,b))) (e (a,b))
def P3 (a:Val Ñ) (k:Bool→Option ρ):Option ρ :=
  ë ((ile 0 a.1)&&(î (Int.toNat a.1))) (Î (fun(b:Val ba) c=>nY a.1 a.2 b.1 b.2.1 b.2.2 (fun d e f=>c (d,e,f)) (fun g=>k (!g.1))) (true,(0:Int),(List.replicate (Int.toNat a.1) (0:Int))))
def IB (a:Val Ñ):Option (Bool):=P3 a some
def JM (b:Val Å) (a:Val Ê) (c:Int) (k:Val Ä→Option ρ):Option ρ :=
  Ã (m7 b a) fun d=>Ã (pY b a) fun e=>ck (c+e.1) fun f=>Ã (Ar d.1) fun g=>ck (f+g) fun h=>ck (h-a.2.2.2.2.2.1) fun i=>ck (c+e.2) fun j=>Ã (vl d.2) fun l=>ck (j+l) fun m=>ck (m+a.2.2.2.2.2.1) fun n=>k (i,n)
def lf (a:Val Å) (b:Val Ê) (c:Int):Option (Val Ä):=JM a b c some
def np (c:Int) (a:Int) (b:Val ae) (d:Int→Val ae→Option ρ) (e:Val ae→Option ρ):Option ρ :=
  ifb (ilt a c) (ë ((ile 0 a)&&(ilt a (ĉ b))) (Ĺ b (Int.toNat a) fun g=>ck (a+(1:Int)) fun f=>d f (List.set b (Int.toNat a) (1152921504606846976:Int)))) (e b)
def kf (f:Val ah) (d:Bool) (c:Int) (b:Val ae) (e:Bool→Int→Val ae→Option ρ) (g:(Val (.pair .bool ae))→Option ρ):Option ρ :=
  ifb (ilt c (Û f)) (ā f c fun a=>ë ((ile 0 a.1)&&(ilt a.1 (ĉ b))) (Ĺ b (Int.toNat a.1) fun h=>ifb (ilt h 1152921504606846976) (ë ((ile 0 a.1)&&(ilt a.1 (ĉ b))) (Ĺ b (Int.toNat a.1) fun i=>ck (i+a.2.2) fun j=>ë ((ile 0 a.2.1)&&(ilt a.2.1 (ĉ b))) (Ĺ b (Int.toNat a.2.1) fun k=>ifb (ilt j k) (ë ((ile 0 a.1)&&(ilt a.1 (ĉ b))) (Ĺ b (Int.toNat a.1) fun l=>ck (l+a.2.2) fun m=>ë ((ile 0 a.2.1)&&(ilt a.2.1 (ĉ b))) (Ĺ b (Int.toNat a.2.1) fun q=>ck (c+(1:Int)) fun n=>e true n (List.set b (Int.toNat a.2.1) m)))) (ck (c+(1:Int)) fun o=>e d o b)))) (ck (c+(1:Int)) fun p=>e d p b))) (g (d,b))
def kg (f:Int) (g:Val ah) (h:Bool) (c:Int) (a:Val ae) (i:Bool→Int→Val ae→Option ρ) (d:Val ae→Option ρ):Option ρ :=
  ifb (ile c f) (ifb h (Î (fun(b:Val ba) j=>kf g b.1 b.2.1 b.2.2 (fun k l m=>j (k,l,m)) (fun e=>ck (c+(1:Int)) fun n=>i e.1 n e.2)) (false,(0:Int),a)) (d a)) (d a)
def Eg (a:Val Ñ) (b:Int) (k:Val ae→Option ρ):Option ρ :=
  ë ((ile 0 a.1)&&(î (Int.toNat a.1))) (Î (fun(e:Val ar) f=>np a.1 e.1 e.2 (fun g h=>f (g,h)) (fun c=>ë ((ile 0 b)&&(ilt b (ĉ c))) (Ĺ c (Int.toNat b) fun o=>Î (fun(d:Val ba) i=>kg a.1 a.2 d.1 d.2.1 d.2.2 (fun j l m=>i (j,l,m)) (fun n=>k n)) (true,(0:Int),(List.set c (Int.toNat b) (0:Int)))))) ((0:Int),(List.replicate (Int.toNat a.1) (0:Int))))
def qT (a:Val Ñ) (b:Int):Option ((Val ae)):=Eg a b some
def yL (c:Val Å) (a:Val Ê) (k:Val Ļ→Option ρ):Option ρ :=
  Ã (gZ c) fun i=>Ã (IB i) fun j=>ifb (!j) (k (((0:Int),(0:Int)),(9:Int))) (Ã (ve c a) fun e=>Ã (gZ e) fun b=>ck ((Û b.2)-(2:Int)) fun d=>ë ((ile 0 d)&&(ile d (ĉ b.2))) (Ã (lZ a.2.2.1 a.2.2.2.1) fun l=>Ã (Ĭ e (l,a.2.1)) fun g=>Ã (lZ a.2.2.2.1 a.2.2.1) fun m=>Ã (Ĭ e (m,a.2.1)) fun h=>Ã (qT (b.1,(List.take (Int.toNat d) b.2)) g) fun n=>ā n h fun o=>ck ((0:Int)-o) fun p=>Ã (lf c a p) fun f=>Ã (qT (b.1,(List.take (Int.toNat d) b.2)) h) fun q=>ā q g fun r=>Ã (lf c a r) fun s=>ifb (igt f.1 f.2) (k (((0:Int),(0:Int)),(5:Int))) (k ((f.1,s.2),(0:Int)))))
def lg (a:Val Å) (b:Val Ê):Option (Val Ļ):=yL a b some
def yF (j:Val qk) (l:Val Ä) (a:Val Ê) (k:Val Ŧ→Option ρ):Option ρ :=
  Ã (vg j.1 (a.1,a.2.1,a.2.2.1,a.2.2.2.1,(0:Int),a.2.2.2.2.2)) fun h=>ifb (ine h.2 0) (k (((0:Int),(0:Int),(0:Int),(0:Int),(0:Int),(0:Int),(0:Int),(0:Int)),h.2)) (Ã (lg j.1 (a.1,a.2.1,a.2.2.1,a.2.2.2.1,(0:Int),a.2.2.2.2.2)) fun i=>ifb (ine i.2 0) (k (((0:Int),(0:Int),(0:Int),(0:Int),(0:Int),(0:Int),(0:Int),(0:Int)),i.2)) (Ã (gZ h.1) fun c=>ck ((Û c.2)-(2:Int)) fun g=>ā c.2 g fun d=>ck (g+1) fun m=>ā c.2 m fun e=>ë ((ile 0 g)&&(ile g (ĉ c.2))) (Ã (pZ (c.1,(List.take (Int.toNat g) c.2))) fun b=>Ã (Ĭ h.1 l) fun f=>ā b.1 (0:Int) fun n=>ā n f fun o=>ā b.1 f fun p=>ā p (0:Int) fun q=>ck ((0:Int)-q) fun r=>ā b.1 (0:Int) fun s=>ā s d.1 fun t=>ck (t+d.2.2) fun u=>ā b.1 d.2.1 fun v=>ā v f fun w=>ck (u+w) fun x=>ā b.1 (0:Int) fun y=>ā y e.1 fun z=>ck (z+e.2.2) fun A=>ā b.1 e.2.1 fun B=>ā B f fun C=>ck (A+C) fun D=>ā b.1 f fun E=>ā E d.1 fun F=>ck ((0:Int)-F) fun G=>ck (G-d.2.2) fun H=>ā b.1 d.2.1 fun I=>ā I (0:Int) fun J=>ck (H-J) fun K=>ā b.1 f fun L=>ā L e.1 fun M=>ck ((0:Int)-M) fun N=>ck (N-e.2.2) fun O=>ā b.1 e.2.1 fun P=>ā P (0:Int) fun Q=>ck (O-Q) fun R=>k ((o,x,D,r,R,K,i.1),(0:Int)))))
def sM (a:Val qk) (b:Val Ä) (c:Val Ê):Option (Val Ŧ):=yF a b c some
def JF (c:Val Å) (b:Val Ä) (d:Val Ê) (k:Val Ŧ→Option ρ):Option ρ :=
  Ã (Ţ c ([b])) fun a=>ifb (ine a.2.2.2 0) (k (((0:Int),(0:Int),(0:Int),(0:Int),(0:Int),(0:Int),(0:Int),(0:Int)),a.2.2.2)) (Ã (sM a b d) fun e=>k e)
def ld (a:Val Å) (b:Val Ä) (c:Val Ê):Option (Val Ŧ):=JF a b c some
def oK (a:Val ŧ) (b:Int) (k:Val Ä→Option ρ):Option ρ :=
  ck (a.2.2.2.2.1+b) fun c=>ck (a.2.2.2.2.2.1-b) fun d=>ck (a.2.1+b) fun e=>ck (a.2.2.1-b) fun f=>k ((Oy (Oy a.2.2.2.1 c) d),(Tp (Tp a.1 e) f))
def kB (a:Val ŧ) (b:Int):Option (Val Ä):=oK a b some
def mN (b:Val ŧ) (c:Int) (k:Int→Option ρ):Option ρ :=
  Ã (kB b c) fun a=>ck (a.2-a.1) fun d=>k d
def ý (a:Val ŧ) (b:Int):Option (Int):=mN a b some
def ŵ (d:Int) (e:Int) (f:Int) (g:Int) (h:Int) (i:Int) (j:Int) (k:Int) (a:Int) (c:Int) (l:Int→Int→Option ρ) (m:Int→Option ρ):Option ρ :=
  ifb (ilt a c) (ck (c-a) fun n=>ck (Int.tdiv n (2:Int)) fun o=>ck (a+o) fun b=>ck (b+1) fun p=>Ã (ý (d,e,f,g,h,i,j,k) p) fun q=>Ã (ý (d,e,f,g,h,i,j,k) b) fun r=>ifb (igt q r) (ck (b+1) fun s=>l s c) (l a b)) (m a)
def mM (a:Val ŧ) (k:Int→Option ρ):Option ρ :=
  Î (fun(b:Val Ä) c=>ŵ a.1 a.2.1 a.2.2.1 a.2.2.2.1 a.2.2.2.2.1 a.2.2.2.2.2.1 a.2.2.2.2.2.2.1 a.2.2.2.2.2.2.2 b.1 b.2 (fun d e=>c (d,e)) (fun f=>Ã (ý a f) fun g=>k g)) (a.2.2.2.2.2.2.1,a.2.2.2.2.2.2.2)
def ī (a:Val ŧ):Option (Int):=mM a some
def Ŗ (b:Val ab) (a:Int) (c:Int→Option ρ) (d:Bool→Option ρ) (e:Unit→Option ρ):Option ρ :=
  ifb (ilt a (Û b)) (ā b a fun f=>Ã (pX f) fun g=>ifb (!g) (Ã Ð fun h=>d h) (ck (a+(1:Int)) fun i=>c i)) (e ())
def È (g:Val ab) (i:Int) (j:Int) (k:Val ac) (l:Val aa) (m:Val af) (n:Val ab) (o:Val aa) (p:Int) (q:Int) (e:Int) (c:Int) (f:Int) (a:Int) (d:Int→Int→Int→Int→Option ρ) (h:Val Ä→Option ρ):Option ρ :=
  ifb (ilt a (Û g)) (ifb (ieq e 0) (ā g a fun r=>Ã (ld ((i,j),k,l,m,n,o) (p,q) r) fun b=>ifb (ieq b.2 0) (ifb (ieq a 0) (Ã (ī b.1) fun s=>ck (a+(1:Int)) fun t=>d b.2 a s t) (Ã (ī b.1) fun u=>ifb (ilt u f) (Ã (ī b.1) fun v=>ck (a+(1:Int)) fun w=>d b.2 a v w) (ck (a+(1:Int)) fun x=>d b.2 c f x))) (ck (a+(1:Int)) fun y=>d b.2 c f y)) (h (e,c))) (h (e,c))
def oI (a:Val Å) (b:Val Ä) (h:Val Ê) (e:Val ab) (k:Bool→Option ρ):Option ρ :=
  Ã (OC a) fun r1=>ifb (!r1) (Ã Ð fun r2=>k r2) (Ã (pX h) fun r3=>ifb (!r3) (Ã Ð fun r4=>k r4) (ifb (igt (Û e) 25) (Ã Ð fun r5=>k r5) (ifb (igt (Û e) 4) (ifb (ile (Û e) 20) (Ã Ð fun r6=>k r6) (Î (fun(f0:Int) f5=>Ŗ e f0 (fun f6=>f5 f6) (fun f8=>k f8) (fun _=>Ã (ov a b h) fun f=>Ã (nw a b e) fun c=>Ã (ld a b h) fun fj=>ifb (ine f.2 fj.2) (k false) (ifb (ieq f.2 0) (Ã (ī fj.1) fun f9=>ifb (ine f.1 f9) (k false) (ifb (ine f.2 0) (ifb (ine f.1 0) (k false) (Ã (Ţ a ([b])) fun P=>ifb (ine P.2.2.2 0) (Î (fun(i:Val aw) gc=>È e a.1.1 a.1.2 a.2.1 a.2.2.1 a.2.2.2.1 a.2.2.2.2.1 a.2.2.2.2.2 b.1 b.2 i.1 i.2.1 i.2.2.1 i.2.2.2 (fun gd gg gh gi=>gc (gd,gg,gh,gi)) (fun Q=>ifb (ine Q.1 0) (Ã Ð fun gj=>ifb gj (ifb (ieq c.2 Q.1) (k (ieq c.1 0)) (k false)) (k false)) (Ã Ð fun gk=>ifb gk (ifb (ieq c.2 0) (k (ieq c.1 Q.2)) (k false)) (k false)))) (P.2.2.2,(0:Int),(0:Int),(0:Int))) (ifb (ieq (Û e) 0) (Î (fun(j:Val aw) gn=>È e a.1.1 a.1.2 a.2.1 a.2.2.1 a.2.2.2.1 a.2.2.2.2.1 a.2.2.2.2.2 b.1 b.2 j.1 j.2.1 j.2.2.1 j.2.2.2 (fun gp gq gr gu=>gn (gp,gq,gr,gu)) (fun R=>ifb (ine R.1 0) (Ã Ð fun gw=>ifb gw (ifb (ieq c.2 R.1) (k (ieq c.1 0)) (k false)) (k false)) (Ã Ð fun gx=>ifb gx (ifb (ieq c.2 0) (k (ieq c.1 R.2)) (k false)) (k false)))) ((1:Int),(0:Int),(0:Int),(0:Int))) (ifb (igt (Û e) 20) (Î (fun(l:Val aw) gy=>È e a.1.1 a.1.2 a.2.1 a.2.2.1 a.2.2.2.1 a.2.2.2.2.1 a.2.2.2.2.2 b.1 b.2 l.1 l.2.1 l.2.2.1 l.2.2.2 (fun g8 g9 ic ig=>gy (g8,g9,ic,ig)) (fun S=>ifb (ine S.1 0) (Ã Ð fun ii=>ifb ii (ifb (ieq c.2 S.1) (k (ieq c.1 0)) (k false)) (k false)) (Ã Ð fun ij=>ifb ij (ifb (ieq c.2 0) (k (ieq c.1 S.2)) (k false)) (k false)))) ((2:Int),(0:Int),(0:Int),(0:Int))) (Î (fun(m:Val aw) ik=>È e a.1.1 a.1.2 a.2.1 a.2.2.1 a.2.2.2.1 a.2.2.2.2.1 a.2.2.2.2.2 b.1 b.2 m.1 m.2.1 m.2.2.1 m.2.2.2 (fun il ip iq ir=>ik (il,ip,iq,ir)) (fun T=>ifb (ine T.1 0) (Ã Ð fun iu=>ifb iu (ifb (ieq c.2 T.1) (k (ieq c.1 0)) (k false)) (k false)) (Ã Ð fun iv=>ifb iv (ifb (ieq c.2 0) (k (ieq c.1 T.2)) (k false)) (k false)))) (P.2.2.2,(0:Int),(0:Int),(0:Int))))))) (Ã (Ţ a ([b])) fun U=>ifb (ine U.2.2.2 0) (Î (fun(n:Val aw) iw=>È e a.1.1 a.1.2 a.2.1 a.2.2.1 a.2.2.2.1 a.2.2.2.2.1 a.2.2.2.2.2 b.1 b.2 n.1 n.2.1 n.2.2.1 n.2.2.2 (fun ix iy iz i5=>iw (ix,iy,iz,i5)) (fun V=>ifb (ine V.1 0) (Ã Ð fun i6=>ifb i6 (ifb (ieq c.2 V.1) (k (ieq c.1 0)) (k false)) (k false)) (Ã Ð fun i7=>ifb i7 (ifb (ieq c.2 0) (k (ieq c.1 V.2)) (k false)) (k false)))) (U.2.2.2,(0:Int),(0:Int),(0:Int))) (ifb (ieq (Û e) 0) (Î (fun(o:Val aw) i8=>È e a.1.1 a.1.2 a.2.1 a.2.2.1 a.2.2.2.1 a.2.2.2.2.1 a.2.2.2.2.2 b.1 b.2 o.1 o.2.1 o.2.2.1 o.2.2.2 (fun i9 ja jb jc=>i8 (i9,ja,jb,jc)) (fun W=>ifb (ine W.1 0) (Ã Ð fun jd=>ifb jd (ifb (ieq c.2 W.1) (k (ieq c.1 0)) (k false)) (k false)) (Ã Ð fun je=>ifb je (ifb (ieq c.2 0) (k (ieq c.1 W.2)) (k false)) (k false)))) ((1:Int),(0:Int),(0:Int),(0:Int))) (ifb (igt (Û e) 20) (Î (fun(p:Val aw) jf=>È e a.1.1 a.1.2 a.2.1 a.2.2.1 a.2.2.2.1 a.2.2.2.2.1 a.2.2.2.2.2 b.1 b.2 p.1 p.2.1 p.2.2.1 p.2.2.2 (fun jg jh ji jj=>jf (jg,jh,ji,jj)) (fun X=>ifb (ine X.1 0) (Ã Ð fun jk=>ifb jk (ifb (ieq c.2 X.1) (k (ieq c.1 0)) (k false)) (k false)) (Ã Ð fun jl=>ifb jl (ifb (ieq c.2 0) (k (ieq c.1 X.2)) (k false)) (k false)))) ((2:Int),(0:Int),(0:Int),(0:Int))) (Î (fun(q:Val aw) jm=>È e a.1.1 a.1.2 a.2.1 a.2.2.1 a.2.2.2.1 a.2.2.2.2.1 a.2.2.2.2.2 b.1 b.2 q.1 q.2.1 q.2.2.1 q.2.2.2 (fun jn jo jp jq=>jm (jn,jo,jp,jq)) (fun Y=>ifb (ine Y.1 0) (Ã Ð fun jr=>ifb jr (ifb (ieq c.2 Y.1) (k (ieq c.1 0)) (k false)) (k false)) (Ã Ð fun jt=>ifb jt (ifb (ieq c.2 0) (k (ieq c.1 Y.2)) (k false)) (k false)))) (U.2.2.2,(0:Int),(0:Int),(0:Int)))))))) (ifb (ine f.2 0) (ifb (ine f.1 0) (k false) (Ã (Ţ a ([b])) fun Z=>ifb (ine Z.2.2.2 0) (Î (fun(r:Val aw) ju=>È e a.1.1 a.1.2 a.2.1 a.2.2.1 a.2.2.2.1 a.2.2.2.2.1 a.2.2.2.2.2 b.1 b.2 r.1 r.2.1 r.2.2.1 r.2.2.2 (fun jv jw jx jy=>ju (jv,jw,jx,jy)) (fun dc=>ifb (ine dc.1 0) (Ã Ð fun jz=>ifb jz (ifb (ieq c.2 dc.1) (k (ieq c.1 0)) (k false)) (k false)) (Ã Ð fun j3=>ifb j3 (ifb (ieq c.2 0) (k (ieq c.1 dc.2)) (k false)) (k false)))) (Z.2.2.2,(0:Int),(0:Int),(0:Int))) (ifb (ieq (Û e) 0) (Î (fun(s:Val aw) j4=>È e a.1.1 a.1.2 a.2.1 a.2.2.1 a.2.2.2.1 a.2.2.2.2.1 a.2.2.2.2.2 b.1 b.2 s.1 s.2.1 s.2.2.1 s.2.2.2 (fun j5 j6 j7 j8=>j4 (j5,j6,j7,j8)) (fun df=>ifb (ine df.1 0) (Ã Ð fun j9=>ifb j9 (ifb (ieq c.2 df.1) (k (ieq c.1 0)) (k false)) (k false)) (Ã Ð fun ka=>ifb ka (ifb (ieq c.2 0) (k (ieq c.1 df.2)) (k false)) (k false)))) ((1:Int),(0:Int),(0:Int),(0:Int))) (ifb (igt (Û e) 20) (Î (fun(t:Val aw) kd=>È e a.1.1 a.1.2 a.2.1 a.2.2.1 a.2.2.2.1 a.2.2.2.2.1 a.2.2.2.2.2 b.1 b.2 t.1 t.2.1 t.2.2.1 t.2.2.2 (fun ke kf kg kh=>kd (ke,kf,kg,kh)) (fun dg=>ifb (ine dg.1 0) (Ã Ð fun ki=>ifb ki (ifb (ieq c.2 dg.1) (k (ieq c.1 0)) (k false)) (k false)) (Ã Ð fun kj=>ifb kj (ifb (ieq c.2 0) (k (ieq c.1 dg.2)) (k false)) (k false)))) ((2:Int),(0:Int),(0:Int),(0:Int))) (Î (fun(u:Val aw) km=>È e a.1.1 a.1.2 a.2.1 a.2.2.1 a.2.2.2.1 a.2.2.2.2.1 a.2.2.2.2.2 b.1 b.2 u.1 u.2.1 u.2.2.1 u.2.2.2 (fun kp kq kr ks=>km (kp,kq,kr,ks)) (fun dh=>ifb (ine dh.1 0) (Ã Ð fun ku=>ifb ku (ifb (ieq c.2 dh.1) (k (ieq c.1 0)) (k false)) (k false)) (Ã Ð fun kv=>ifb kv (ifb (ieq c.2 0) (k (ieq c.1 dh.2)) (k false)) (k false)))) (Z.2.2.2,(0:Int),(0:Int),(0:Int))))))) (Ã (Ţ a ([b])) fun di=>ifb (ine di.2.2.2 0) (Î (fun(v:Val aw) kw=>È e a.1.1 a.1.2 a.2.1 a.2.2.1 a.2.2.2.1 a.2.2.2.2.1 a.2.2.2.2.2 b.1 b.2 v.1 v.2.1 v.2.2.1 v.2.2.2 (fun ky kz la ld=>kw (ky,kz,la,ld)) (fun dj=>ifb (ine dj.1 0) (Ã Ð fun lf=>ifb lf (ifb (ieq c.2 dj.1) (k (ieq c.1 0)) (k false)) (k false)) (Ã Ð fun lg=>ifb lg (ifb (ieq c.2 0) (k (ieq c.1 dj.2)) (k false)) (k false)))) (di.2.2.2,(0:Int),(0:Int),(0:Int))) (ifb (ieq (Û e) 0) (Î (fun(w:Val aw) lh=>È e a.1.1 a.1.2 a.2.1 a.2.2.1 a.2.2.2.1 a.2.2.2.2.1 a.2.2.2.2.2 b.1 b.2 w.1 w.2.1 w.2.2.1 w.2.2.2 (fun lm ln lp lq=>lh (lm,ln,lp,lq)) (fun dk=>ifb (ine dk.1 0) (Ã Ð fun lr=>ifb lr (ifb (ieq c.2 dk.1) (k (ieq c.1 0)) (k false)) (k false)) (Ã Ð fun lu=>ifb lu (ifb (ieq c.2 0) (k (ieq c.1 dk.2)) (k false)) (k false)))) ((1:Int),(0:Int),(0:Int),(0:Int))) (ifb (igt (Û e) 20) (Î (fun(x:Val aw) lv=>È e a.1.1 a.1.2 a.2.1 a.2.2.1 a.2.2.2.1 a.2.2.2.2.1 a.2.2.2.2.2 b.1 b.2 x.1 x.2.1 x.2.2.1 x.2.2.2 (fun lz l6 l7 l8=>lv (lz,l6,l7,l8)) (fun dl=>ifb (ine dl.1 0) (Ã Ð fun l9=>ifb l9 (ifb (ieq c.2 dl.1) (k (ieq c.1 0)) (k false)) (k false)) (Ã Ð fun mc=>ifb mc (ifb (ieq c.2 0) (k (ieq c.1 dl.2)) (k false)) (k false)))) ((2:Int),(0:Int),(0:Int),(0:Int))) (Î (fun(y:Val aw) md=>È e a.1.1 a.1.2 a.2.1 a.2.2.1 a.2.2.2.1 a.2.2.2.2.1 a.2.2.2.2.2 b.1 b.2 y.1 y.2.1 y.2.2.1 y.2.2.2 (fun me mf mg mh=>md (me,mf,mg,mh)) (fun dm=>ifb (ine dm.1 0) (Ã Ð fun mi=>ifb mi (ifb (ieq c.2 dm.1) (k (ieq c.1 0)) (k false)) (k false)) (Ã Ð fun mj=>ifb mj (ifb (ieq c.2 0) (k (ieq c.1 dm.2)) (k false)) (k false)))) (di.2.2.2,(0:Int),(0:Int),(0:Int)))))))))) (0:Int))) (Î (fun(ml:Int) mm=>Ŗ e ml (fun mn=>mm mn) (fun mo=>k mo) (fun _=>Ã (ov a b h) fun g=>Ã (nw a b e) fun d=>Ã (ld a b h) fun fk=>ifb (ine g.2 fk.2) (k false) (ifb (ieq g.2 0) (Ã (ī fk.1) fun mq=>ifb (ine g.1 mq) (k false) (ifb (ine g.2 0) (ifb (ine g.1 0) (k false) (Ã (Ţ a ([b])) fun dn=>ifb (ine dn.2.2.2 0) (Î (fun(z:Val aw) mr=>È e a.1.1 a.1.2 a.2.1 a.2.2.1 a.2.2.2.1 a.2.2.2.2.1 a.2.2.2.2.2 b.1 b.2 z.1 z.2.1 z.2.2.1 z.2.2.2 (fun mu mw mz m6=>mr (mu,mw,mz,m6)) (fun dt=>ifb (ine dt.1 0) (Ã Ð fun m7=>ifb m7 (ifb (ieq d.2 dt.1) (k (ieq d.1 0)) (k false)) (k false)) (Ã Ð fun m8=>ifb m8 (ifb (ieq d.2 0) (k (ieq d.1 dt.2)) (k false)) (k false)))) (dn.2.2.2,(0:Int),(0:Int),(0:Int))) (ifb (ieq (Û e) 0) (Î (fun(A:Val aw) m9=>È e a.1.1 a.1.2 a.2.1 a.2.2.1 a.2.2.2.1 a.2.2.2.2.1 a.2.2.2.2.2 b.1 b.2 A.1 A.2.1 A.2.2.1 A.2.2.2 (fun nc nf ng nh=>m9 (nc,nf,ng,nh)) (fun du=>ifb (ine du.1 0) (Ã Ð fun ni=>ifb ni (ifb (ieq d.2 du.1) (k (ieq d.1 0)) (k false)) (k false)) (Ã Ð fun nj=>ifb nj (ifb (ieq d.2 0) (k (ieq d.1 du.2)) (k false)) (k false)))) ((1:Int),(0:Int),(0:Int),(0:Int))) (ifb (igt (Û e) 20) (Î (fun(B:Val aw) nk=>È e a.1.1 a.1.2 a.2.1 a.2.2.1 a.2.2.2.1 a.2.2.2.2.1 a.2.2.2.2.2 b.1 b.2 B.1 B.2.1 B.2.2.1 B.2.2.2 (fun nl nm np nq=>nk (nl,nm,np,nq)) (fun dv=>ifb (ine dv.1 0) (Ã Ð fun nr=>ifb nr (ifb (ieq d.2 dv.1) (k (ieq d.1 0)) (k false)) (k false)) (Ã Ð fun nt=>ifb nt (ifb (ieq d.2 0) (k (ieq d.1 dv.2)) (k false)) (k false)))) ((2:Int),(0:Int),(0:Int),(0:Int))) (Î (fun(C:Val aw) nu=>È e a.1.1 a.1.2 a.2.1 a.2.2.1 a.2.2.2.1 a.2.2.2.2.1 a.2.2.2.2.2 b.1 b.2 C.1 C.2.1 C.2.2.1 C.2.2.2 (fun nv nw ny nz=>nu (nv,nw,ny,nz)) (fun dw=>ifb (ine dw.1 0) (Ã Ð fun n0=>ifb n0 (ifb (ieq d.2 dw.1) (k (ieq d.1 0)) (k false)) (k false)) (Ã Ð fun oa=>ifb oa (ifb (ieq d.2 0) (k (ieq d.1 dw.2)) (k false)) (k false)))) (dn.2.2.2,(0:Int),(0:Int),(0:Int))))))) (Ã (Ţ a ([b])) fun dz=>ifb (ine dz.2.2.2 0) (Î (fun(D:Val aw) ob=>È e a.1.1 a.1.2 a.2.1 a.2.2.1 a.2.2.2.1 a.2.2.2.2.1 a.2.2.2.2.2 b.1 b.2 D.1 D.2.1 D.2.2.1 D.2.2.2 (fun oc od oe og=>ob (oc,od,oe,og)) (fun d8=>ifb (ine d8.1 0) (Ã Ð fun oh=>ifb oh (ifb (ieq d.2 d8.1) (k (ieq d.1 0)) (k false)) (k false)) (Ã Ð fun oi=>ifb oi (ifb (ieq d.2 0) (k (ieq d.1 d8.2)) (k false)) (k false)))) (dz.2.2.2,(0:Int),(0:Int),(0:Int))) (ifb (ieq (Û e) 0) (Î (fun(E:Val aw) oj=>È e a.1.1 a.1.2 a.2.1 a.2.2.1 a.2.2.2.1 a.2.2.2.2.1 a.2.2.2.2.2 b.1 b.2 E.1 E.2.1 E.2.2.1 E.2.2.2 (fun ol om oo oq=>oj (ol,om,oo,oq)) (fun d9=>ifb (ine d9.1 0) (Ã Ð fun ot=>ifb ot (ifb (ieq d.2 d9.1) (k (ieq d.1 0)) (k false)) (k false)) (Ã Ð fun ou=>ifb ou (ifb (ieq d.2 0) (k (ieq d.1 d9.2)) (k false)) (k false)))) ((1:Int),(0:Int),(0:Int),(0:Int))) (ifb (igt (Û e) 20) (Î (fun(F:Val aw) ov=>È e a.1.1 a.1.2 a.2.1 a.2.2.1 a.2.2.2.1 a.2.2.2.2.1 a.2.2.2.2.2 b.1 b.2 F.1 F.2.1 F.2.2.1 F.2.2.2 (fun ow ox oy oz=>ov (ow,ox,oy,oz)) (fun ee=>ifb (ine ee.1 0) (Ã Ð fun o8=>ifb o8 (ifb (ieq d.2 ee.1) (k (ieq d.1 0)) (k false)) (k false)) (Ã Ð fun o9=>ifb o9 (ifb (ieq d.2 0) (k (ieq d.1 ee.2)) (k false)) (k false)))) ((2:Int),(0:Int),(0:Int),(0:Int))) (Î (fun(G:Val aw) pb=>È e a.1.1 a.1.2 a.2.1 a.2.2.1 a.2.2.2.1 a.2.2.2.2.1 a.2.2.2.2.2 b.1 b.2 G.1 G.2.1 G.2.2.1 G.2.2.2 (fun pd pf ph pj=>pb (pd,pf,ph,pj)) (fun eh=>ifb (ine eh.1 0) (Ã Ð fun pk=>ifb pk (ifb (ieq d.2 eh.1) (k (ieq d.1 0)) (k false)) (k false)) (Ã Ð fun pl=>ifb pl (ifb (ieq d.2 0) (k (ieq d.1 eh.2)) (k false)) (k false)))) (dz.2.2.2,(0:Int),(0:Int),(0:Int)))))))) (ifb (ine g.2 0) (ifb (ine g.1 0) (k false) (Ã (Ţ a ([b])) fun ej=>ifb (ine ej.2.2.2 0) (Î (fun(H:Val aw) pm=>È e a.1.1 a.1.2 a.2.1 a.2.2.1 a.2.2.2.1 a.2.2.2.2.1 a.2.2.2.2.2 b.1 b.2 H.1 H.2.1 H.2.2.1 H.2.2.2 (fun pn po pp pq=>pm (pn,po,pp,pq)) (fun eo=>ifb (ine eo.1 0) (Ã Ð fun pr=>ifb pr (ifb (ieq d.2 eo.1) (k (ieq d.1 0)) (k false)) (k false)) (Ã Ð fun pu=>ifb pu (ifb (ieq d.2 0) (k (ieq d.1 eo.2)) (k false)) (k false)))) (ej.2.2.2,(0:Int),(0:Int),(0:Int))) (ifb (ieq (Û e) 0) (Î (fun(I:Val aw) pv=>È e a.1.1 a.1.2 a.2.1 a.2.2.1 a.2.2.2.1 a.2.2.2.2.1 a.2.2.2.2.2 b.1 b.2 I.1 I.2.1 I.2.2.1 I.2.2.2 (fun pw pz qd qe=>pv (pw,pz,qd,qe)) (fun er=>ifb (ine er.1 0) (Ã Ð fun qf=>ifb qf (ifb (ieq d.2 er.1) (k (ieq d.1 0)) (k false)) (k false)) (Ã Ð fun qg=>ifb qg (ifb (ieq d.2 0) (k (ieq d.1 er.2)) (k false)) (k false)))) ((1:Int),(0:Int),(0:Int),(0:Int))) (ifb (igt (Û e) 20) (Î (fun(J:Val aw) qi=>È e a.1.1 a.1.2 a.2.1 a.2.2.1 a.2.2.2.1 a.2.2.2.2.1 a.2.2.2.2.2 b.1 b.2 J.1 J.2.1 J.2.2.1 J.2.2.2 (fun qj qk ql qm=>qi (qj,qk,ql,qm)) (fun ez=>ifb (ine ez.1 0) (Ã Ð fun qn=>ifb qn (ifb (ieq d.2 ez.1) (k (ieq d.1 0)) (k false)) (k false)) (Ã Ð fun qo=>ifb qo (ifb (ieq d.2 0) (k (ieq d.1 ez.2)) (k false)) (k false)))) ((2:Int),(0:Int),(0:Int),(0:Int))) (Î (fun(K:Val aw) qp=>È e a.1.1 a.1.2 a.2.1 a.2.2.1 a.2.2.2.1 a.2.2.2.2.1 a.2.2.2.2.2 b.1 b.2 K.1 K.2.1 K.2.2.1 K.2.2.2 (fun qq qr qt qu=>qp (qq,qr,qt,qu)) (fun fc=>ifb (ine fc.1 0) (Ã Ð fun qv=>ifb qv (ifb (ieq d.2 fc.1) (k (ieq d.1 0)) (k false)) (k false)) (Ã Ð fun qw=>ifb qw (ifb (ieq d.2 0) (k (ieq d.1 fc.2)) (k false)) (k false)))) (ej.2.2.2,(0:Int),(0:Int),(0:Int))))))) (Ã (Ţ a ([b])) fun fe=>ifb (ine fe.2.2.2 0) (Î (fun(L:Val aw) qx=>È e a.1.1 a.1.2 a.2.1 a.2.2.1 a.2.2.2.1 a.2.2.2.2.1 a.2.2.2.2.2 b.1 b.2 L.1 L.2.1 L.2.2.1 L.2.2.2 (fun qy qz rc re=>qx (qy,qz,rc,re)) (fun ff=>ifb (ine ff.1 0) (Ã Ð fun rf=>ifb rf (ifb (ieq d.2 ff.1) (k (ieq d.1 0)) (k false)) (k false)) (Ã Ð fun rg=>ifb rg (ifb (ieq d.2 0) (k (ieq d.1 ff.2)) (k false)) (k false)))) (fe.2.2.2,(0:Int),(0:Int),(0:Int))) (ifb (ieq (Û e) 0) (Î (fun(M:Val aw) rh=>È e a.1.1 a.1.2 a.2.1 a.2.2.1 a.2.2.2.1 a.2.2.2.2.1 a.2.2.2.2.2 b.1 b.2 M.1 M.2.1 M.2.2.1 M.2.2.2 (fun ri rj rk rl=>rh (ri,rj,rk,rl)) (fun fg=>ifb (ine fg.1 0) (Ã Ð fun rm=>ifb rm (ifb (ieq d.2 fg.1) (k (ieq d.1 0)) (k false)) (k false)) (Ã Ð fun rn=>ifb rn (ifb (ieq d.2 0) (k (ieq d.1 fg.2)) (k false)) (k false)))) ((1:Int),(0:Int),(0:Int),(0:Int))) (ifb (igt (Û e) 20) (Î (fun(N:Val aw) ro=>È e a.1.1 a.1.2 a.2.1 a.2.2.1 a.2.2.2.1 a.2.2.2.2.1 a.2.2.2.2.2 b.1 b.2 N.1 N.2.1 N.2.2.1 N.2.2.2 (fun rq rr rt ru=>ro (rq,rr,rt,ru)) (fun fh=>ifb (ine fh.1 0) (Ã Ð fun rz=>ifb rz (ifb (ieq d.2 fh.1) (k (ieq d.1 0)) (k false)) (k false)) (Ã Ð fun sa=>ifb sa (ifb (ieq d.2 0) (k (ieq d.1 fh.2)) (k false)) (k false)))) ((2:Int),(0:Int),(0:Int),(0:Int))) (Î (fun(O:Val aw) sc=>È e a.1.1 a.1.2 a.2.1 a.2.2.1 a.2.2.2.1 a.2.2.2.2.1 a.2.2.2.2.2 b.1 b.2 O.1 O.2.1 O.2.2.1 O.2.2.2 (fun sd se sf sg=>sc (sd,se,sf,sg)) (fun fi=>ifb (ine fi.1 0) (Ã Ð fun sh=>ifb sh (ifb (ieq d.2 fi.1) (k (ieq d.1 0)) (k false)) (k false)) (Ã Ð fun si=>ifb si (ifb (ieq d.2 0) (k (ieq d.1 fi.2)) (k false)) (k false)))) (fe.2.2.2,(0:Int),(0:Int),(0:Int)))))))))) (0:Int)))))
def oR (a:Val Å) (b:Val Ä) (c:Val Ê) (d:Val ab):Option (Bool):=oI a b c d some
end Go.Proofs.ZzM
end
