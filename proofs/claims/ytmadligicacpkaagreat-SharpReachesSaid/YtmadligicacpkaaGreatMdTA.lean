/- lemmas -/
import Derived.Test.YtmadligicacpkaaGreatAmF
set_option linter.all false
set_option linter.unusedSectionVars false
set_option linter.unusedVariables false
set_option linter.unusedSimpArgs false
noncomputable section
variable {ρ:Type}
set_option maxRecDepth 100000
namespace Go.Proofs.ZzM
open Go Go.Am
abbrev tI:Ty:=.int .i64
abbrev Â:Ty:=(.pair tI tI)
abbrev Ą:Ty:=(.pair tI Â)
abbrev ã:Ty:=(.pair Â Â)
abbrev Ķ:Ty:=(.pair Â tI)
abbrev ņ:Ty:=(.pair tI Ķ)
abbrev rL:Ty:=(.pair ã tI)
abbrev Í:Ty:=(.pair tI (.slice Ą))
abbrev Ŭ:Ty:=(.pair Â (.pair Ą Ą))
abbrev vI:Ty:=(.pair (.slice Ą) (.slice Â))
abbrev Ð:Ty:=(.pair tI (.pair tI (.pair tI (.pair Â Ķ))))
abbrev Ì:Ty:=(.pair tI (.pair tI (.pair (.slice tI) (.pair (.slice tI) (.pair tI Ą)))))
abbrev Mc:Ty:=(.pair tI (.pair tI (.pair tI (.pair tI (.pair tI Ą)))))
abbrev Ä:Ty:=(.pair Â (.pair (.slice Ð) (.pair (.slice Â) (.pair (.slice ņ) (.pair (.slice Ì) (.slice Â))))))
abbrev ŭ:Ty:=(.pair Ä (.pair Í (.pair (.slice (.slice tI)) tI)))
abbrev ε:Ty:=(.pair Ä (.pair Â (.pair .bool (.pair tI (.slice tI)))))
abbrev tyroom:Ty:=(.pair Ä Í)
abbrev amD:Ty:=(.pair Ä (.pair (.slice Â) (.pair Í (.slice Â))))
abbrev aa:Ty:=(.slice Â)
abbrev ab:Ty:=(.slice Ì)
abbrev ac:Ty:=(.slice Ð)
abbrev ae:Ty:=(.slice tI)
abbrev af:Ty:=(.slice ņ)
abbrev ah:Ty:=(.slice Ą)
abbrev ai:Ty:=(.pair tI (.pair tI (.pair ac (.pair aa (.pair af (.pair ab aa))))))
abbrev aj:Ty:=(.pair tI (.pair tI (.pair ac (.pair aa (.pair af (.pair ab (.pair aa (.pair tI (.pair tI (.pair ac (.pair aa (.pair af (.pair ab (.pair aa (.pair tI (.pair tI (.pair ac (.pair aa (.pair af (.pair ab (.pair aa (.pair (.map tI .bool) (.pair (.map tI .bool) ac)))))))))))))))))))))))
abbrev ak:Ty:=(.map tI .bool)
abbrev am:Ty:=(.slice ae)
abbrev ao:Ty:=(.pair ae (.pair tI (.pair tI (.pair tI (.pair ac (.pair aa (.pair af (.pair ab (.pair aa (.pair tI (.pair tI (.pair tI (.pair tI (.pair tI (.pair tI (.pair ae (.pair ae (.pair tI (.pair tI (.pair tI (.pair tI (.pair aa (.pair tI (.pair tI (.pair ac (.pair aa (.pair af (.pair ab (.pair aa (.pair tI (.pair ah (.pair tI (.pair tI (.pair tI (.pair tI (.pair tI (.pair tI (.pair tI (.pair tI (.pair am (.pair am am)))))))))))))))))))))))))))))))))))))))))
abbrev aq:Ty:=(.map tI Ð)
abbrev ar:Ty:=(.pair tI (.pair tI (.pair ac (.pair aa (.pair af (.pair ab (.pair aa (.pair tI (.pair tI (.pair ae (.pair ae (.pair tI (.pair tI (.pair tI (.pair tI ae)))))))))))))))
abbrev au:Ty:=(.pair tI (.pair tI (.pair tI (.pair ac (.pair aa (.pair af (.pair ab (.pair aa (.pair tI (.pair tI (.pair tI (.pair tI (.pair tI (.pair tI (.pair ae (.pair ae (.pair tI (.pair tI (.pair tI (.pair tI aa))))))))))))))))))))
abbrev aw:Ty:=(.pair tI (.pair tI (.pair ac (.pair aa (.pair af (.pair ab (.pair aa (.pair tI Ą))))))))
abbrev ax:Ty:=(.ptr tyroom)
abbrev ay:Ty:=(.pair tI ae)
abbrev az:Ty:=(.slice .bool)
abbrev aA:Ty:=(.pair tI (.pair tI (.pair tI (.pair ac (.pair aa (.pair af (.pair ab (.pair aa Mc))))))))
abbrev aB:Ty:=(.pair Ä Ì)
abbrev aC:Ty:=(.pair tI ai)
abbrev aD:Ty:=(.pair Ä Â)
abbrev aE:Ty:=(.pair ae tI)
abbrev aF:Ty:=(.pair tI aa)
abbrev aG:Ty:=(.pair Ä tI)
abbrev aH:Ty:=(.pair tI Í)
abbrev aI:Ty:=(.pair tI (.pair tI ay))
abbrev aJ:Ty:=(.pair az ae)
abbrev aK:Ty:=(.pair ae (.pair az (.pair ae ae)))
abbrev aL:Ty:=(.pair tI vI)
abbrev aM:Ty:=(.pair Ä (.pair Â .bool))
abbrev aO:Ty:=(.pair tI am)
abbrev aP:Ty:=(.pair Í Â)
abbrev aQ:Ty:=(.slice am)
abbrev aR:Ty:=(.pair ax Â)
abbrev aS:Ty:=(.pair tI aF)
abbrev aT:Ty:=(.ptr Â)
abbrev aU:Ty:=(.ptr amD)
abbrev aV:Ty:=(.pair Í ae)
abbrev aW:Ty:=(.pair .bool tI)
abbrev aX:Ty:=(.pair Â Ì)
abbrev aY:Ty:=(.pair aa Â)
abbrev aZ:Ty:=(.pair tI Mc)
abbrev ba:Ty:=(.pair ae ae)
abbrev bc:Ty:=(.pair ņ .bool)
abbrev bf:Ty:=(.pair (.int .u64) (.int .u64))
abbrev bg:Ty:=(.pair tI (.pair tI Ą))
abbrev bh:Ty:=(.pair Ä (.pair aq tI))
def Į (d:Val am) (e:Int) (b:Int) (a:Int) (f:Int→Int→Option ρ) (g:Int→Option ρ):Option ρ :=
  ifb (ilt a e) (ü d a fun h=>ck (b+(Ý h)) fun c=>ifb (ilt c 0) (none) (ck (a+(1:Int)) fun i=>f c i)) (g b)
def ï (d:Val am) (e:Int) (a:Int) (b:Val ae) (f:Int→Val ae→Option ρ) (g:Val ae→Option ρ):Option ρ :=
  ifb (ilt a e) (ü d a fun c=>è (ç ((List.length b)+(List.length c))) (ck (a+(1:Int)) fun h=>f h (b++c))) (g b)
def iE (a:Val am) (k:Val ae→Option ρ):Option ρ :=
  Ñ (fun(c:Val Â) g=>Į a (Ý a) c.1 c.2 (fun h i=>g (h,i)) (fun d=>ifb (ilt d 0) (none) (ck (d-(0:Int)) fun b=>ifb (igt b 0) (è ((ilt 0 b)&&(ç (Int.toNat b))) (è (ile 0 (č (List.replicate (Int.toNat b) (0:Int)))) (Ñ (fun(e:Val ay) j=>ï a (Ý a) e.1 e.2 (fun l m=>j (l,m)) (fun n=>k n)) ((0:Int),(List.take 0 (List.replicate (Int.toNat b) (0:Int))))))) (Ñ (fun(f:Val ay) o=>ï a (Ý a) f.1 f.2 (fun p q=>o (p,q)) (fun r=>k r)) ((0:Int),[]))))) ((0:Int),(0:Int))
def ì (a:Val am):Option ((Val ae)):=iE a some
def zE (l:List (Val Ð)) (m:List (Int×Bool)):Option (List (Val Ð)) :=
  è (ç l.length) (some (l.filter fun g=>(rX (k:=tI) (v:=.bool) g.1 m).getD false))
def sq (c:Val ae) (d:Int) (a:Int) (b:Val ak) (e:Int→Val ak→Option ρ) (f:Val ak→Option ρ):Option ρ :=
  ifb (ilt a d) (ü c a fun g=>ck (a+(1:Int)) fun h=>e h (Mo (k:=tI) (v:=.bool) g true b)) (f b)
def zw (j:Val aa) (l:Int) (f:Val ac) (g:Val ab) (b:Int) (c:Val ak) (d:Val ak) (e:Int→Val ak→Val ak→Option ρ) (m:(Val (.pair ak ak))→Option ρ):Option ρ :=
  ifb (ilt b l) (ü j b fun a=>ifb (ł a.1 0) (none) (ifb (ł a.1 1) (ü f a.2 fun n=>ck (b+(1:Int)) fun o=>e o (Mo (k:=tI) (v:=.bool) n.1 true c) d) (ifb (ł a.1 2) (ü f a.2 fun p=>ck (b+(1:Int)) fun q=>e q (Mo (k:=tI) (v:=.bool) p.1 true c) d) (è (ł a.1 3) (ü g a.2 fun r=>ü g a.2 fun s=>Ã (ì ([r.2.2.1,s.2.2.2.1])) fun h=>Ñ (fun(i:(Val (.pair tI ak))) t=>sq h (Ý h) i.1 i.2 (fun u w=>t (u,w)) (fun x=>ck (b+(1:Int)) fun y=>e y x (Mo (k:=tI) (v:=.bool) a.2 true d))) ((0:Int),c)))))) (m (c,d))
def sn (c:Val aa) (d:Int) (a:Int) (b:Val ak) (e:Int→Val ak→Option ρ) (f:Val ak→Option ρ):Option ρ :=
  ifb (ilt a d) (ü c a fun g=>ck (a+(1:Int)) fun h=>e h (Mo (k:=tI) (v:=.bool) g.1 true b)) (f b)
def sm (e:Val aa) (f:Int) (g:Val ak) (a:Int) (b:Val aa) (c:Int→Val aa→Option ρ) (h:Val aa→Option ρ):Option ρ :=
  ifb (ilt a f) (ü e a fun d=>X2 (k:=tI) (v:=.bool) d.1 g (fun i=>ifb i (è (ç ((List.length b)+(List.length ([d])))) (ck (a+(1:Int)) fun j=>c j (b++([d])))) (ck (a+(1:Int)) fun l=>c l b)) (ck (a+(1:Int)) fun m=>c m b)) (h b)
def sl (e:Val af) (f:Int) (g:Val ak) (a:Int) (b:Val af) (c:Int→Val af→Option ρ) (h:Val af→Option ρ):Option ρ :=
  ifb (ilt a f) (ü e a fun d=>X2 (k:=tI) (v:=.bool) d.1 g (fun i=>ifb i (è (ç ((List.length b)+(List.length ([d])))) (ck (a+(1:Int)) fun j=>c j (b++([d])))) (ck (a+(1:Int)) fun l=>c l b)) (ck (a+(1:Int)) fun m=>c m b)) (h b)
def sk (e:Val ab) (f:Int) (g:Val ak) (a:Int) (b:Val ab) (d:Int→Val ab→Option ρ) (h:Val ab→Option ρ):Option ρ :=
  ifb (ilt a f) (ü e a fun c=>X2 (k:=tI) (v:=.bool) a g (fun i=>ifb i (è (ç (List.length c.2.2.1)) (è (ç (List.length c.2.2.2.1)) (è (ç ((List.length b)+(List.length ([c])))) (ck (a+(1:Int)) fun j=>d j (b++([c])))))) (ck (a+(1:Int)) fun l=>d l b)) (ck (a+(1:Int)) fun m=>d m b)) (h b)
def mK (p:Val aS) (v:Val aj) (k:Val Ä→Option ρ):Option ρ :=
  Ñ (fun(a:Val aF) d=>sm v.2.2.2.1 (Ý v.2.2.2.1) v.2.2.2.2.2.2.2.2.2.2.2.2.2.2.2.2.2.2.2.2.2.1 a.1 a.2 (fun e f=>d (e,f)) (fun g=>Ñ (fun(b:(Val (.pair tI af))) h=>sl v.2.2.2.2.1 (Ý v.2.2.2.2.1) v.2.2.2.2.2.2.2.2.2.2.2.2.2.2.2.2.2.2.2.2.2.1 b.1 b.2 (fun i j=>h (i,j)) (fun l=>Ñ (fun(c:(Val (.pair tI ab))) m=>sk v.2.2.2.2.2.1 (Ý v.2.2.2.2.2.1) v.2.2.2.2.2.2.2.2.2.2.2.2.2.2.2.2.2.2.2.2.2.2.1 c.1 c.2 (fun n o=>m (n,o)) (fun q=>k ((p.1,p.2.1),v.2.2.2.2.2.2.2.2.2.2.2.2.2.2.2.2.2.2.2.2.2.2.2,g,l,q,p.2.2))) ((0:Int),[]))) ((0:Int),[]))) ((0:Int),[])
def Ff (a:Val Ä) (d:Val aa) (b:Val aa) (kA:Val aS→Val aj→Option ρ):Option ρ :=
  Ñ (fun(c:(Val (.pair tI (.pair ak ak)))) g=>zw d (Ý d) a.2.1 a.2.2.2.2.1 c.1 c.2.1 c.2.2 (fun h i j=>g (h,i,j)) (fun e=>Ñ (fun(f:(Val (.pair tI ak))) k=>sn b (Ý b) f.1 f.2 (fun l m=>k (l,m)) (fun n=>kA (a.1.1,a.1.2,b) (a.1.1,a.1.2,a.2.1,a.2.2.1,a.2.2.2.1,a.2.2.2.2.1,a.2.2.2.2.2,(0:Int),(0:Int),[],[],[],[],[],a.1.1,a.1.2,a.2.1,a.2.2.1,a.2.2.2.1,a.2.2.2.2.1,a.2.2.2.2.2,n,e.2,[]))) ((0:Int),e.1))) ((0:Int),[],[])
def ah9 (a:Val Ä) (b:Val aa) (c:Val aa) (k:Val Ä→Option ρ):Option ρ :=
  Ff a b c fun p v=>Ã (zE v.2.2.2.2.2.2.2.2.2.2.2.2.2.2.2.2.1 v.2.2.2.2.2.2.2.2.2.2.2.2.2.2.2.2.2.2.2.2.2.1) fun z=>mK p (v.1,v.2.1,v.2.2.1,v.2.2.2.1,v.2.2.2.2.1,v.2.2.2.2.2.1,v.2.2.2.2.2.2.1,v.2.2.2.2.2.2.2.1,v.2.2.2.2.2.2.2.2.1,v.2.2.2.2.2.2.2.2.2.1,v.2.2.2.2.2.2.2.2.2.2.1,v.2.2.2.2.2.2.2.2.2.2.2.1,v.2.2.2.2.2.2.2.2.2.2.2.2.1,v.2.2.2.2.2.2.2.2.2.2.2.2.2.1,v.2.2.2.2.2.2.2.2.2.2.2.2.2.2.1,v.2.2.2.2.2.2.2.2.2.2.2.2.2.2.2.1,v.2.2.2.2.2.2.2.2.2.2.2.2.2.2.2.2.1,v.2.2.2.2.2.2.2.2.2.2.2.2.2.2.2.2.2.1,v.2.2.2.2.2.2.2.2.2.2.2.2.2.2.2.2.2.2.1,v.2.2.2.2.2.2.2.2.2.2.2.2.2.2.2.2.2.2.2.1,v.2.2.2.2.2.2.2.2.2.2.2.2.2.2.2.2.2.2.2.2.1,v.2.2.2.2.2.2.2.2.2.2.2.2.2.2.2.2.2.2.2.2.2.1,v.2.2.2.2.2.2.2.2.2.2.2.2.2.2.2.2.2.2.2.2.2.2.1,z) k
def Qf (a:Val Ä) (b:Val aa) (c:Val aa):Option (Val Ä):=ah9 a b c some
def IR (a:Val Â) (b:Int) (c:Int) (k:Bool→Option ρ):Option ρ :=
  ifb (ile b a.1) (ifb (ile a.1 a.2) (k (ile a.2 c)) (k false)) (k false)
def Η (a:Val Â) (b:Int) (c:Int):Option (Bool):=IR a b c some
def IJ (a:Int) (b:Int) (c:Int) (k:Bool→Option ρ):Option ρ :=
  ifb (ile b a) (k (ile a c)) (k false)
def Ě (a:Int) (b:Int) (c:Int):Option (Bool):=IJ a b c some
def PL (a:Int) (k:Bool→Option ρ):Option ρ :=
  Ã (Ě a (0:Int) (20000:Int)) fun b=>k b
def m6 (a:Int):Option (Bool):=PL a some
def WB (a:Int) (k:Int→Option ρ):Option ρ :=
  ifb (ilt a 0) (k (IntKind.wrap .u64 (0-(IntKind.wrap .u64 a)))) (k (IntKind.wrap .u64 a))
def qP (a:Int):Option (Int):=WB a some
def zz (b:Int) (a:Int) (c:Int→Int→Option ρ) (d:Int→Option ρ):Option ρ :=
  ifb (ine a 0) (ifb (ł a 0) (none) (c a (Int.tmod b a))) (d b)
def acQ (b:Int) (c:Int) (k:Int→Option ρ):Option ρ :=
  Ñ (fun(a:Val bf) d=>zz a.1 a.2 (fun e f=>d (e,f)) (fun g=>k g)) (b,c)
def Qg (a:Int) (b:Int):Option (Int):=acQ a b some
def Pr (a:Val Â) (k:Bool→Option ρ):Option ρ :=
  ifb (ige a.2 1) (ifb (ile a.2 2147483647) (Ã (qP a.1) fun b=>ifb (ile b 2147483647) (Ã (qP a.1) fun c=>Ã (qP a.2) fun d=>Ã (Qg c d) fun e=>k (ieq e 1)) (k false)) (k false)) (k false)
def tk (a:Val Â):Option (Bool):=Pr a some
def C8 (a:Val Ð) (k:Bool→Option ρ):Option ρ :=
  Ã (tk a.2.2.2.2.1) fun b=>ifb b (Ã (Ě a.2.2.2.2.1.1 (-1000:Int) (1000:Int)) fun c=>ifb c (Ã (Ě a.1 (1:Int) (1099511627776:Int)) fun d=>ifb d (Ã (m6 a.2.1) fun e=>ifb e (Ã (Ě a.2.2.1 (1:Int) (1125899906842624:Int)) fun f=>ifb f (Ã (Η a.2.2.2.1 (-1073741824:Int) (1073741824:Int)) fun g=>ifb g (ifb (ile a.2.2.2.2.1.2 100) (Ã (Ě a.2.2.2.2.2 (0:Int) (1048576:Int)) fun h=>k h) (k false)) (k false)) (k false)) (k false)) (k false)) (Ã (Ě a.1 (1:Int) (1099511627776:Int)) fun i=>ifb i (Ã (m6 a.2.1) fun j=>ifb j (Ã (Ě a.2.2.1 (1:Int) (1125899906842624:Int)) fun l=>ifb l (Ã (Η a.2.2.2.1 (-1073741824:Int) (1073741824:Int)) fun m=>ifb m (k false) (k false)) (k false)) (k false)) (k false))) (Ã (Ě a.1 (1:Int) (1099511627776:Int)) fun n=>ifb n (Ã (m6 a.2.1) fun o=>ifb o (Ã (Ě a.2.2.1 (1:Int) (1125899906842624:Int)) fun p=>ifb p (Ã (Η a.2.2.2.1 (-1073741824:Int) (1073741824:Int)) fun q=>ifb q (k false) (k false)) (k false)) (k false)) (k false))
def vx (a:Val Ð):Option (Bool):=C8 a some
def iG (e:Val ac) (f:Int) (g:Val ac) (a:Int) (b:Int→Option ρ) (c:Int→Option ρ) (h:Unit→Option ρ):Option ρ :=
  ifb (ilt a f) (ü e a fun d=>Ã (vx d) fun i=>ifb (!i) (c (1:Int)) (ifb (igt a 0) (ck (a-(1:Int)) fun j=>ü g j fun k=>ifb (ile d.1 k.1) (c (6:Int)) (ck (a+(1:Int)) fun l=>b l)) (ck (a+(1:Int)) fun m=>b m))) (h ())
def ph (a:Val Ä) (k:Int→Option ρ):Option ρ :=
  Ñ (fun(b:Int) c=>iG a.2.1 (Ý a.2.1) a.2.1 b (fun d=>c d) (fun e=>k e) (fun _=>k (0:Int))) (0:Int)
def Ŷ (a:Val Ä):Option (Int):=ph a some
def ml (d:Val ac) (e:Int) (a:Int) (b:Val aq) (f:Int→Val aq→Option ρ) (g:Val aq→Option ρ):Option ρ :=
  ifb (ilt a e) (ü d a fun c=>ck (a+(1:Int)) fun h=>f h (Mo (k:=tI) (v:=Ð) c.1 c b)) (g b)
def C5 (a:Val Ä) (k:Val aq→Option ρ):Option ρ :=
  Ñ (fun(b:(Val (.pair tI aq))) c=>ml a.2.1 (Ý a.2.1) b.1 b.2 (fun d e=>c (d,e)) (fun f=>k f)) ((0:Int),[])
def Ω (a:Val Ä):Option ((Val aq)):=C5 a some
def π (b:Val ae) (c:Int) (d:Int) (a:Int) (e:Int→Option ρ) (f:Int→Option ρ) (g:Unit→Option ρ):Option ρ :=
  ifb (ilt a d) (ü b a fun h=>ifb (ieq c h) (f a) (ck (a+(1:Int)) fun i=>e i)) (g ())
def lI (a:Val ae) (b:Int) (k:Int→Option ρ):Option ρ :=
  Ñ (fun(c:Int) d=>π a b (Ý a) c (fun e=>d e) (fun f=>k f) (fun _=>k (-1:Int))) (0:Int)
def jf (a:Val ae) (b:Int):Option (Int):=lI a b some
def jn (a:Val ae) (b:Int) (k:Bool→Option ρ):Option ρ :=
  Ã (jf a b) fun c=>k (ige c 0)
def Ģ (a:Val ae) (b:Int):Option (Bool):=jn a b some
def uR (f:Val ab) (g:Int) (d:Int) (a:Int) (b:Val ae) (e:Int→Val ae→Option ρ) (h:Val ae→Option ρ):Option ρ :=
  ifb (ilt a g) (ü f a fun c=>Ã (Ģ c.2.2.1 d) fun i=>Ã (Ģ c.2.2.2.1 d) fun j=>ifb (!(i==j)) (è (ç ((List.length b)+(List.length ([c.2.1])))) (ck (a+(1:Int)) fun k=>e k (b++([c.2.1])))) (ck (a+(1:Int)) fun l=>e l b)) (h b)
def uQ (e:Val aa) (f:Int) (g:Int) (a:Int) (b:Val ae) (d:Int→Val ae→Option ρ) (h:Val ae→Option ρ):Option ρ :=
  ifb (ilt a f) (ü e a fun c=>ifb (ieq c.1 g) (è (ç ((List.length b)+(List.length ([c.2])))) (ck (a+(1:Int)) fun i=>d i (b++([c.2])))) (ck (a+(1:Int)) fun j=>d j b)) (h b)
def W0 (a:Val Ä) (b:Val Ð) (k:Val ae→Option ρ):Option ρ :=
  Ñ (fun(d:Val ay) f=>uR a.2.2.2.2.1 (Ý a.2.2.2.2.1) b.1 d.1 d.2 (fun g h=>f (g,h)) (fun i=>Ñ (fun(e:Val ay) j=>uQ a.2.2.2.2.2 (Ý a.2.2.2.2.2) b.1 e.1 e.2 (fun l m=>j (l,m)) (fun c=>è (ç (List.length c)) (è (ç (List.length (Dz c))) (k (zX (Dz c)))))) ((0:Int),i))) ((0:Int),[b.2.1])
def og (a:Val Ä) (b:Val Ð):Option ((Val ae)):=W0 a b some
def qG (e:Val ae) (f:Int) (c:Int) (a:Int) (b:Val aa) (g:Int→Val aa→Option ρ) (h:Val aa→Option ρ):Option ρ :=
  ifb (ilt a f) (ü e a fun d=>è (ç ((List.length b)+(List.length ([(c,d)])))) (ck (a+(1:Int)) fun i=>g i (b++([(c,d)])))) (h b)
def qH (f:Val ac) (g:Int) (h:Int) (i:Int) (j:Val ac) (k:Val aa) (l:Val af) (m:Val ab) (n:Val aa) (a:Int) (b:Val aa) (o:Int→Val aa→Option ρ) (p:Val aa→Option ρ):Option ρ :=
  ifb (ilt a g) (ü f a fun c=>Ã (og ((h,i),j,k,l,m,n) c) fun d=>Ñ (fun(e:Val aF) q=>qG d (Ý d) c.1 e.1 e.2 (fun r s=>q (r,s)) (fun t=>ck (a+(1:Int)) fun u=>o u t)) ((0:Int),b)) (p b)
def PG (a:Val Ä) (k:Val aa→Option ρ):Option ρ :=
  Ñ (fun(b:Val aF) c=>qH a.2.1 (Ý a.2.1) a.1.1 a.1.2 a.2.1 a.2.2.1 a.2.2.2.1 a.2.2.2.2.1 a.2.2.2.2.2 b.1 b.2 (fun d e=>c (d,e)) (fun f=>k f)) ((0:Int),[])
def pB (a:Val Ä):Option ((Val aa)):=PG a some
def ru (a:Val aq) (b:Int) (c:Int) (k:Int→Option ρ):Option ρ :=
  X2 (k:=tI) (v:=Ð) b a (fun d=>ifb (ilt c d.2.1) (k (4:Int)) (k (0:Int))) (k (5:Int))
def iz (a:Val aq) (b:Int) (c:Int):Option (Int):=ru a b c some
def C7 (b:Int) (a:Int) (c:(Val (.ptr aq))) (k:Int→Option ρ):Option ρ :=
  Ã (m6 a) fun d=>ifb (!d) (k (1:Int)) (Ã (iz c b a) fun e=>k e)
def ļ (a:Int) (b:Int) (c:(Val (.ptr aq))):Option (Int):=C7 a b c some
def jH (d:Val af) (e:Int) (f:Int) (g:Int) (h:Int) (a:Int) (b:Int→Option ρ) (i:Int→Option ρ) (j:Unit→Option ρ):Option ρ :=
  ifb (ilt a e) (ü d a fun c=>ifb (ieq c.1 f) (ifb (ile c.2.1.1 h) (ifb (ile g c.2.1.2) (i a) (ck (a+(1:Int)) fun k=>b k)) (ck (a+(1:Int)) fun l=>b l)) (ck (a+(1:Int)) fun m=>b m)) (j ())
def Ζ (d:Val aa) (e:Int) (f:Int) (g:Int) (h:Int) (a:Int) (b:Int→Option ρ) (i:Int→Option ρ) (j:Unit→Option ρ):Option ρ :=
  ifb (ilt a e) (ü d a fun c=>ifb (ieq c.1 f) (Ã (Ě c.2 g h) fun k=>ifb k (i a) (ck (a+(1:Int)) fun l=>b l)) (ck (a+(1:Int)) fun m=>b m)) (j ())
def uS (b:Val Ä) (e:Val aq) (c:Int) (k:Int→Option ρ):Option ρ :=
  ü b.2.2.2.1 c fun a=>Ã (Η a.2.1 (0:Int) (20000:Int)) fun f=>ifb (!f) (k (1:Int)) (Ã (Ě a.2.2 (0:Int) (1048576:Int)) fun g=>ifb (!g) (k (1:Int)) (Ã (iz e a.1 a.2.1.1) fun d=>ifb (ine d 0) (k d) (è ((ile 0 c)&&(ile c (č b.2.2.2.1))) (Ñ (fun(h:Int) i=>jH (List.take (Int.toNat c) b.2.2.2.1) (Ý (List.take (Int.toNat c) b.2.2.2.1)) a.1 a.2.1.1 a.2.1.2 h (fun j=>i j) (fun l=>ifb (ige l 0) (k (9:Int)) (Ñ (fun(m:Int) n=>Ζ b.2.2.1 (Ý b.2.2.1) a.1 a.2.1.1 a.2.1.2 m (fun o=>n o) (fun p=>ifb (ige p 0) (k (9:Int)) (k (0:Int))) (fun _=>k (0:Int))) (0:Int))) (fun _=>Ñ (fun(q:Int) r=>Ζ b.2.2.1 (Ý b.2.2.1) a.1 a.2.1.1 a.2.1.2 q (fun s=>r s) (fun t=>ifb (ige t 0) (k (9:Int)) (k (0:Int))) (fun _=>k (0:Int))) (0:Int))) (0:Int)))))
def Ν (a:Val Ä) (b:Val aq) (c:Int):Option (Int):=uS a b c some
def uP (c:Int) (d:Val ae) (b:Val ae) (a:Int) (e:Int→Option ρ) (f:Int→Option ρ) (g:Unit→Option ρ):Option ρ :=
  ifb (ilt a c) (è ((ile 0 a)&&(ilt a (č b))) (ľ b (Int.toNat a) fun h=>Ã (Ģ d h) fun i=>ifb i (f a) (ck (a+(1:Int)) fun j=>e j))) (g ())
def jT (f:Val ae) (b:Int) (c:Int) (a:Val ae) (d:Int→Int→Val ae→Option ρ) (g:Val ay→Option ρ):Option ρ :=
  ifb (ilt c (Ý a)) (è ((ile 0 c)&&(ilt c (č a))) (ľ a (Int.toNat c) fun e=>Ã (Ģ f e) fun h=>ifb (!h) (è ((ile 0 b)&&(ilt b (č a))) (ľ a (Int.toNat b) fun l=>ck (b+(1:Int)) fun i=>ck (c+(1:Int)) fun j=>d i j (List.set a (Int.toNat b) e))) (ck (c+(1:Int)) fun k=>d b k a))) (g (b,a))
def WS (b:Val ae) (e:Val ae) (k:Val ae→Option ρ):Option ρ :=
  è (ç (List.length b)) (Ñ (fun(f:Int) g=>uP (Ý b) e b f (fun h=>g h) (fun c=>ifb (ieq c (-1:Int)) (k b) (ck (c+(1:Int)) fun i=>Ñ (fun(d:(Val (.pair tI ay))) j=>jT e d.1 d.2.1 d.2.2 (fun l m n=>j (l,m,n)) (fun a=>è ((ile 0 a.1)&&(ile a.1 (č a.2))) (è ((ile 0 a.1)&&(ile a.1 (č (List.take (Int.toNat a.1) a.2++List.replicate (List.length a.2-(Int.toNat a.1)) (0:Int)++List.drop ((Int.toNat a.1)+(List.length a.2-(Int.toNat a.1))) a.2)))) (k (List.take (Int.toNat a.1) (List.drop 0 (List.take (Int.toNat a.1) a.2++List.replicate (List.length a.2-(Int.toNat a.1)) (0:Int)++List.drop ((Int.toNat a.1)+(List.length a.2-(Int.toNat a.1))) a.2))))))) (c,i,b))) (fun _=>k b)) (0:Int))
def ŧ (a:Val ae) (b:Val ae):Option ((Val ae)):=WS a b some
def nZ (e:Val ae) (f:Val ae) (g:Int) (a:Int) (b:Int→Option ρ) (c:Bool→Option ρ) (h:Unit→Option ρ):Option ρ :=
  ifb (ilt a g) (ü f a fun d=>Ã (Ě d (1:Int) (1099511627776:Int)) fun i=>ifb (!i) (c false) (ifb (igt a 0) (ck (a-(1:Int)) fun j=>ü e j fun k=>ifb (ile d k) (c false) (ck (a+(1:Int)) fun l=>b l)) (ck (a+(1:Int)) fun m=>b m))) (h ())
def IQ (a:Val ae) (k:Bool→Option ρ):Option ρ :=
  Ñ (fun(b:Int) c=>nZ a a (Ý a) b (fun d=>c d) (fun e=>k e) (fun _=>k (ile (Ý a) 6))) (0:Int)
def l5 (a:Val ae):Option (Bool):=IQ a some
def uT (d:Val af) (e:Int) (f:Int) (g:Int) (a:Int) (c:Int→Option ρ) (h:Int→Option ρ) (i:Unit→Option ρ):Option ρ :=
  ifb (ilt a e) (ü d a fun b=>ifb (ieq b.1 f) (Ã (Ě g b.2.1.1 b.2.1.2) fun j=>ifb j (h a) (ck (a+(1:Int)) fun k=>c k)) (ck (a+(1:Int)) fun l=>c l)) (i ())
def W4 (a:Val Ä) (c:Int) (d:Int) (k:Val bc→Option ρ):Option ρ :=
  Ñ (fun(e:Int) f=>uT a.2.2.2.1 (Ý a.2.2.2.1) c d e (fun g=>f g) (fun b=>ifb (ilt b 0) (k (((0:Int),((0:Int),(0:Int)),(0:Int)),false)) (ü a.2.2.2.1 b fun h=>k (h,true))) (fun _=>k (((0:Int),((0:Int),(0:Int)),(0:Int)),false))) (0:Int)
def zU (a:Val Ä) (b:Int) (c:Int):Option ((Val bc)):=W4 a b c some
def g9 (b:Val ab) (c:Int) (d:Int) (a:Int) (e:Int→Option ρ) (f:Int→Option ρ) (g:Unit→Option ρ):Option ρ :=
  ifb (ilt a c) (ü b a fun h=>ifb (ieq h.1 d) (f a) (ck (a+(1:Int)) fun i=>e i)) (g ())
def g8 (c:Val aq) (b:Int) (d:Val ae) (e:Int) (f:Int) (a:Int) (g:Int→Option ρ) (h:Int→Option ρ) (i:Unit→Option ρ):Option ρ :=
  ifb (ilt a e) (ü d a fun j=>Ã (iz c j f) fun k=>ifb (ieq k b) (h b) (ck (a+(1:Int)) fun l=>g l)) (i ())
def Ō (d:Val aq) (b:Val ae) (e:Int) (f:Int) (c:Val ae) (a:Int) (g:Int→Option ρ) (h:Int→Option ρ) (i:Unit→Option ρ):Option ρ :=
  ifb (ilt a e) (è ((ile 0 a)&&(ilt a (č c))) (ľ c (Int.toNat a) fun j=>Ñ (fun(k:Int) l=>g8 d j b (Ý b) f k (fun m=>l m) (fun n=>h n) (fun _=>ck (a+(1:Int)) fun o=>g o)) (0:Int))) (i ())
def ŋ (b:Val ae) (c:Int) (d:Int) (e:Int) (f:Val ac) (g:Val aa) (h:Val af) (i:Val ab) (j:Val aa) (k:Int) (a:Int) (l:Int→Option ρ) (m:Int→Option ρ) (n:Unit→Option ρ):Option ρ :=
  ifb (ilt a c) (ü b a fun o=>Ã (zU ((d,e),f,g,h,i,j) o k) fun p=>ifb p.2 (m (9:Int)) (ck (a+(1:Int)) fun q=>l q)) (n ())
def np (b:Val Ä) (f:Val aq) (c:Int) (k:Int→Option ρ):Option ρ :=
  ü b.2.2.2.2.1 c fun a=>Ã (Ě a.1 (1:Int) (1099511627776:Int)) fun l=>ifb (!l) (k (1:Int)) (Ã (m6 a.2.1) fun m=>ifb (!m) (k (1:Int)) (Ã (Ě a.2.2.2.2.1 (-1125899906842624:Int) (1125899906842624:Int)) fun n=>ifb (!n) (k (1:Int)) (Ã (Ě a.2.2.2.2.2.1 (0:Int) (1073741824:Int)) fun o=>ifb (!o) (k (1:Int)) (Ã (Η a.2.2.2.2.2.2 (-10000:Int) (10000:Int)) fun p=>ifb (!p) (k (1:Int)) (Ã (l5 a.2.2.1) fun q=>ifb (!q) (k (1:Int)) (Ã (l5 a.2.2.2.1) fun r=>ifb (!r) (k (1:Int)) (è ((ile 0 c)&&(ile c (č b.2.2.2.2.1))) (Ñ (fun(s:Int) t=>g9 (List.take (Int.toNat c) b.2.2.2.2.1) (Ý (List.take (Int.toNat c) b.2.2.2.2.1)) a.1 s (fun u=>t u) (fun v=>ifb (ige v 0) (k (6:Int)) (Ã (ì ([a.2.2.1,a.2.2.2.1])) fun d=>Ñ (fun(w:Int) x=>Ō f d (Ý ([(5:Int),(4:Int)])) a.2.1 ([(5:Int),(4:Int)]) w (fun y=>x y) (fun z=>k z) (fun _=>Ñ (fun(A:Int) B=>ŋ d (Ý d) b.1.1 b.1.2 b.2.1 b.2.2.1 b.2.2.2.1 b.2.2.2.2.1 b.2.2.2.2.2 a.2.1 A (fun C=>B C) (fun D=>k D) (fun _=>Ã (ŧ a.2.2.1 a.2.2.2.1) fun g=>Ã (ŧ a.2.2.2.1 a.2.2.1) fun h=>ifb (igt (Ý g) 1) (k (1:Int)) (ifb (igt (Ý h) 1) (k (1:Int)) (ck ((Ý g)+(Ý h)) fun E=>ifb (ieq E 0) (k (1:Int)) (k (0:Int)))))) (0:Int))) (0:Int))) (fun _=>Ã (ì ([a.2.2.1,a.2.2.2.1])) fun e=>Ñ (fun(F:Int) G=>Ō f e (Ý ([(5:Int),(4:Int)])) a.2.1 ([(5:Int),(4:Int)]) F (fun H=>G H) (fun I=>k I) (fun _=>Ñ (fun(J:Int) K=>ŋ e (Ý e) b.1.1 b.1.2 b.2.1 b.2.2.1 b.2.2.2.1 b.2.2.2.2.1 b.2.2.2.2.2 a.2.1 J (fun L=>K L) (fun M=>k M) (fun _=>Ã (ŧ a.2.2.1 a.2.2.2.1) fun i=>Ã (ŧ a.2.2.2.1 a.2.2.1) fun j=>ifb (igt (Ý i) 1) (k (1:Int)) (ifb (igt (Ý j) 1) (k (1:Int)) (ck ((Ý i)+(Ý j)) fun N=>ifb (ieq N 0) (k (1:Int)) (k (0:Int)))))) (0:Int))) (0:Int))) (0:Int)))))))))
def Ł (a:Val Ä) (b:Val aq) (c:Int):Option (Int):=np a b c some
def mU (b:Val Ä) (s:Val aq):Option (List Int) :=
  Ã (Ny (fun u=>ļ u.1 u.2 s) (b.2.2.1:List (Int×Int))) fun a=>Ã (Ny (fun i=>Ν b s i) (wF (b.2.2.2.1:List (Val ņ)).length)) fun c =>
    Ã (Ny (fun i=>Ł b s i) (wF (b.2.2.2.2.1:List (Val Ì)).length)) fun d=>Ã (Ny (fun u=>ļ u.1 u.2 s) (b.2.2.2.2.2:List (Int×Int))) fun e=>some (a++(c++(d++e)))
def PR (a:Val Ä) (k:Int→Option ρ):Option ρ :=
  Ã (Η a.1 (0:Int) (1000000:Int)) fun d=>ifb (!d) (k (1:Int)) (ifb (igt (Ý a.2.1) 12) (k (2:Int)) (ifb (igt (Ý a.2.2.1) 40) (k (2:Int)) (ifb (igt (Ý a.2.2.2.1) 12) (k (2:Int)) (ifb (igt (Ý a.2.2.2.2.1) 40) (k (2:Int)) (ifb (igt (Ý a.2.2.2.2.2) 10) (k (2:Int)) (Ã (Ŷ a) fun b=>ifb (ine b 0) (k b) (Ã (Ω a) fun e=>Yy (mU a e) (fun f=>k f) (Ã (pB a) fun c=>ifb (igt (Ý c) 59) (k (2:Int)) (ck ((2:Int)*(Ý a.2.1)) fun g=>ck ((Ý c)-(Ý a.2.1)) fun h=>ck ((2:Int)*h) fun i=>ck (g+i) fun j=>ck ((2:Int)*(Ý a.2.2.2.2.1)) fun l=>ck (j+l) fun m=>ifb (igt m 300) (k (2:Int)) (k (0:Int)))))))))))
def û (a:Val Ä):Option (Int):=PR a some
def HM (a:Val Ì) (k:Bool→Option ρ):Option ρ :=
  ifb (ile (Ý a.2.2.1) 10) (k (ile (Ý a.2.2.2.1) 10)) (k false)
def zI (a:Val Ì):Option (Bool):=HM a some
def tO (b:Val ab) (a:Int) (d:Int→Option ρ) (e:Bool→Option ρ) (c:Unit→Option ρ):Option ρ :=
  ifb (ilt a (Ý b)) (ifb (ilt a 50) (ü b a fun f=>Ã (zI f) fun g=>ifb (!g) (e false) (ck (a+(1:Int)) fun h=>d h)) (c ())) (c ())
def Vm (a:Val Ä) (k:Bool→Option ρ):Option ρ :=
  Ñ (fun(b:Int) c=>tO a.2.2.2.2.1 b (fun d=>c d) (fun e=>k e) (fun _=>ifb (ile (Ý a.2.1) 14) (ifb (ile (Ý a.2.2.1) 45) (ifb (ile (Ý a.2.2.2.1) 14) (ifb (ile (Ý a.2.2.2.2.1) 42) (k (ile (Ý a.2.2.2.2.2) 12)) (k false)) (k false)) (k false)) (k false))) (0:Int)
def MB (a:Val Ä):Option (Bool):=Vm a some
def Ĥ (c:Val aa) (d:Int) (e:Int) (f:Int) (a:Int) (g:Int→Option ρ) (h:Int→Option ρ) (i:Unit→Option ρ):Option ρ :=
  ifb (ilt a d) (ü c a fun b=>ifb ((ł e b.1)&&((ł f b.2)&&true)) (h a) (ck (a+(1:Int)) fun j=>g j)) (i ())
def ű (a:Val aa) (b:Val Â) (k:Int→Option ρ):Option ρ :=
  Ñ (fun(c:Int) d=>Ĥ a (Ý a) b.1 b.2 c (fun e=>d e) (fun f=>k f) (fun _=>k (-1:Int))) (0:Int)
def ú (a:Val aa) (b:Val Â):Option (Int):=ű a b some
def PQ (a:Val Ä) (d:Val Â) (k:Val Â→Option ρ):Option ρ :=
  Ã (û a) fun b=>ifb (ine b 0) (k ((0:Int),b)) (Ã (pB a) fun e=>Ã (ú e d) fun c=>ifb (ilt c 0) (k ((0:Int),(5:Int))) (ck (c+(1:Int)) fun f=>k (f,(0:Int))))
def ŗ (a:Val Ä) (b:Val Â):Option (Val Â):=PQ a b some
def CO (a:Val ax) (b:Val Â) (k:Int→Option ρ):Option ρ :=
  Ã (ŗ a.1 b) fun c=>k c.1
def ŵ (a:Val ax) (b:Val Â):Option (Int):=CO a b some
def gH (c:Val ah) (d:Int) (b:Int) (a:Int) (e:Int→Int→Option ρ) (f:Int→Option ρ):Option ρ :=
  ifb (ilt a d) (ü c a fun g=>ck (b+(Xj g.2.2 (0:Int))) fun h=>ck (a+(1:Int)) fun i=>e h i) (f b)
def ŕ (f:Int) (d:Val ae) (a:Int) (b:Val az) (c:Val ae) (e:Int→Val az→Val ae→Option ρ) (g:Val aJ→Option ρ):Option ρ :=
  ifb (ilt a f) (è ((ile 0 a)&&(ilt a (č d))) (ľ d (Int.toNat a) fun h=>ifb (ine h 1152921504606846976) (è (ç ((List.length c)+(List.length ([a])))) (è ((ile 0 a)&&(ilt a (č b))) (ľ b (Int.toNat a) fun k=>ck (a+(1:Int)) fun i=>e i (List.set b (Int.toNat a) true) (c++([a]))))) (ck (a+(1:Int)) fun j=>e j b c))) (g (b,c))
def iP (m:Val ak) (j:Int) (d:Int) (n:Val ah) (o:Int) (f:Int) (b:Val ae) (c:Val az) (e:Val ae) (g:Int→Val ae→Val az→Val ae→Option ρ) (l:(Val (.pair .bool (.pair ae aJ)))→Option ρ) (p:(Val (.pair ae aJ))→Option ρ):Option ρ :=
  ifb (ilt f o) (ü n f fun a=>ifb (ine a.1 d) (ck (f+(1:Int)) fun q=>g q b c e) (X2 (k:=tI) (v:=.bool) f m (fun r=>ifb r (ck (f+(1:Int)) fun s=>g s b c e) (è ((ile 0 d)&&(ilt d (č b))) (ľ b (Int.toNat d) fun t=>ck (t+a.2.2) fun u=>è ((ile 0 a.2.1)&&(ilt a.2.1 (č b))) (ľ b (Int.toNat a.2.1) fun w=>ifb (ige u w) (ck (f+(1:Int)) fun x=>g x b c e) (è ((ile 0 d)&&(ilt d (č b))) (ľ b (Int.toNat d) fun y=>ck (y+a.2.2) fun h=>è ((ile 0 a.2.1)&&(ilt a.2.1 (č b))) (ľ b (Int.toNat a.2.1) fun M=>è ((ile 0 a.2.1)&&(ilt a.2.1 (č (List.set b (Int.toNat a.2.1) h)))) (ľ (List.set b (Int.toNat a.2.1) h) (Int.toNat a.2.1) fun z=>ifb (ilt z j) (l (false,(List.set b (Int.toNat a.2.1) h),c,e)) (è ((ile 0 a.2.1)&&(ilt a.2.1 (č c))) (ľ c (Int.toNat a.2.1) fun A=>ifb (!A) (è (ç ((List.length e)+(List.length ([a.2.1])))) (è ((ile 0 a.2.1)&&(ilt a.2.1 (č c))) (ľ c (Int.toNat a.2.1) fun N=>ck (f+(1:Int)) fun B=>g B (List.set b (Int.toNat a.2.1) h) (List.set c (Int.toNat a.2.1) true) (e++([a.2.1]))))) (ck (f+(1:Int)) fun C=>g C (List.set b (Int.toNat a.2.1) h) c e))))))))))) (è ((ile 0 d)&&(ilt d (č b))) (ľ b (Int.toNat d) fun D=>ck (D+a.2.2) fun E=>è ((ile 0 a.2.1)&&(ilt a.2.1 (č b))) (ľ b (Int.toNat a.2.1) fun F=>ifb (ige E F) (ck (f+(1:Int)) fun G=>g G b c e) (è ((ile 0 d)&&(ilt d (č b))) (ľ b (Int.toNat d) fun H=>ck (H+a.2.2) fun i=>è ((ile 0 a.2.1)&&(ilt a.2.1 (č b))) (ľ b (Int.toNat a.2.1) fun O=>è ((ile 0 a.2.1)&&(ilt a.2.1 (č (List.set b (Int.toNat a.2.1) i)))) (ľ (List.set b (Int.toNat a.2.1) i) (Int.toNat a.2.1) fun I=>ifb (ilt I j) (l (false,(List.set b (Int.toNat a.2.1) i),c,e)) (è ((ile 0 a.2.1)&&(ilt a.2.1 (č c))) (ľ c (Int.toNat a.2.1) fun J=>ifb (!J) (è (ç ((List.length e)+(List.length ([a.2.1])))) (è ((ile 0 a.2.1)&&(ilt a.2.1 (č c))) (ľ c (Int.toNat a.2.1) fun P=>ck (f+(1:Int)) fun K=>g K (List.set b (Int.toNat a.2.1) i) (List.set c (Int.toNat a.2.1) true) (e++([a.2.1]))))) (ck (f+(1:Int)) fun L=>g L (List.set b (Int.toNat a.2.1) i) c e)))))))))))) (p (b,c,e))
def Ħ (l:Val ak) (m:Int) (n:Int) (k:Val ah) (h:Val ae) (d:Val az) (b:Val ae) (c:Val ae) (o:Val ae→Val az→Val ae→Val ae→Option ρ) (i:(Val (.pair .bool aK))→Option ρ):Option ρ :=
  ifb (ieq (Ý c) 0) (i (true,h,d,b,c)) (è (ilt 0 (č c)) (ľ c 0 fun a=>è (ile 1 (č c)) (è (decide (1+(List.length c-1)=List.length c)) (è ((ile 0 a)&&(ilt a (č d))) (ľ d (Int.toNat a) fun x=>è ((ile 0 a)&&(ilt a (č b))) (ľ b (Int.toNat a) fun p=>ck (p+(1:Int)) fun e=>è ((ile 0 a)&&(ilt a (č b))) (ľ b (Int.toNat a) fun y=>è ((ile 0 a)&&(ilt a (č (List.set b (Int.toNat a) e)))) (ľ (List.set b (Int.toNat a) e) (Int.toNat a) fun q=>ck (n+(1:Int)) fun r=>ifb (igt q r) (i (false,h,(List.set d (Int.toNat a) false),(List.set b (Int.toNat a) e),(List.drop 1 c))) (Ñ (fun(f:(Val (.pair tI (.pair ae aJ)))) s=>iP l m a k (Ý k) f.1 f.2.1 f.2.2.1 f.2.2.2 (fun t u v w=>s (t,u,v,w)) (fun g=>i (g.1,g.2.1,g.2.2.1,(List.set b (Int.toNat a) e),g.2.2.2)) (fun j=>o j.1 j.2.1 (List.set b (Int.toNat a) e) j.2.2)) ((0:Int),h,(List.set d (Int.toNat a) false),(List.drop 1 c)))))))))))
def iO (c:Int) (d:Int) (a:Int) (b:Val ae) (e:Int→Val ae→Option ρ) (f:Val ae→Option ρ):Option ρ :=
  ifb (ilt a d) (è ((ile 0 a)&&(ilt a (č b))) (ľ b (Int.toNat a) fun g=>ck (g-c) fun h=>è ((ile 0 a)&&(ilt a (č b))) (ľ b (Int.toNat a) fun j=>ck (a+(1:Int)) fun i=>e i (List.set b (Int.toNat a) h)))) (f b)
def ye (a:Val Í) (h:Val ak) (k:(Val (.pair ae .bool))→Option ρ):Option ρ :=
  è ((ile 0 a.1)&&(ç (Int.toNat a.1))) (è ((ile 0 a.1)&&(ç (Int.toNat a.1))) (è ((ile 0 a.1)&&(ç (Int.toNat a.1))) (Ñ (fun(e:Val Â) i=>gH a.2 (Ý a.2) e.1 e.2 (fun j l=>i (j,l)) (fun m=>Ñ (fun(d:(Val (.pair tI aJ))) n=>ŕ a.1 (List.replicate (Int.toNat a.1) (0:Int)) d.1 d.2.1 d.2.2 (fun o p q=>n (o,p,q)) (fun f=>Ñ (fun(c:Val aK) r=>Ħ h m a.1 a.2 c.1 c.2.1 c.2.2.1 c.2.2.2 (fun s t u v=>r (s,t,u,v)) (fun b=>ifb (!b.1) (k ([],false)) (è (ilt 0 (č b.2.1)) (ľ b.2.1 0 fun w=>Ñ (fun(g:Val ay) x=>iO w (Ý b.2.1) g.1 g.2 (fun y z=>x (y,z)) (fun A=>k (A,true))) ((0:Int),b.2.1))))) ((List.replicate (Int.toNat a.1) (0:Int)),f.1,(List.replicate (Int.toNat a.1) (0:Int)),f.2))) ((0:Int),(List.replicate (Int.toNat a.1) false),[]))) ((0:Int),(0:Int)))))
def iV (a:Val Í) (b:Val ak):Option ((Val (.pair ae .bool))):=ye a b some
def Wr (b:Val Í) (a:Int) (k:Bool→Option ρ):Option ρ :=
  ifb (ige a 0) (k (ilt a b.1)) (k false)
def qO (a:Val Í) (b:Int):Option (Bool):=Wr a b some
def qx (f:Val ah) (g:Int) (d:Int) (e:Val ah) (a:Int) (h:Int→Option ρ) (c:Val Â→Option ρ) (i:Unit→Option ρ):Option ρ :=
  ifb (ilt a g) (ü f a fun b=>Ã (qO (d,e) b.1) fun j=>ifb (!j) (c ((1:Int),a)) (Ã (qO (d,e) b.2.1) fun k=>ifb (!k) (c ((1:Int),a)) (ifb (ieq b.1 b.2.1) (c ((1:Int),a)) (ifb (ilt b.2.2 (-4503599627370496:Int)) (c ((1:Int),a)) (ifb (igt b.2.2 4503599627370496) (c ((1:Int),a)) (ck (a+(1:Int)) fun l=>h l)))))) (i ())
def Pb (a:Val Í) (k:Val Â→Option ρ):Option ρ :=
  ifb (ilt a.1 1) (k ((1:Int),(-1:Int))) (ifb (igt a.1 60) (k ((1:Int),(-1:Int))) (ifb (igt (Ý a.2) 300) (k ((2:Int),(-1:Int))) (Ñ (fun(c:Int) d=>qx a.2 (Ý a.2) a.1 a.2 c (fun e=>d e) (fun b=>k (b.1,b.2)) (fun _=>k ((0:Int),(-1:Int)))) (0:Int))))
def mZ (a:Val Í):Option (Val Â):=Pb a some
def qv (b:Val ae) (c:Int) (d:Int) (e:Val ah) (a:Int) (f:Int→Option ρ) (g:Int→Option ρ) (h:Unit→Option ρ):Option ρ :=
  ifb (ilt a c) (ü b a fun i=>Ã (qO (d,e) i) fun j=>ifb (!j) (g (1:Int)) (ck (a+(1:Int)) fun k=>f k)) (h ())
def O1 (a:Val Í) (b:Val ae) (k:Int→Option ρ):Option ρ :=
  Ã (mZ a) fun c=>ifb (ine c.1 0) (k c.1) (Ñ (fun(d:Int) e=>qv b (Ý b) a.1 a.2 d (fun f=>e f) (fun g=>k g) (fun _=>Ã (iV a ([])) fun h=>ifb (!h.2) (k (9:Int)) (k (0:Int)))) (0:Int))
def GV (a:Val Í) (b:Val ae):Option (Int):=O1 a b some
def nY (c:Int) (a:Int) (b:Val ae) (d:Int→Val ae→Option ρ) (e:Val ae→Option ρ):Option ρ :=
  ifb (ilt a c) (è ((ile 0 a)&&(ilt a (č b))) (ľ b (Int.toNat a) fun g=>ck (a+(1:Int)) fun f=>d f (List.set b (Int.toNat a) (1152921504606846976:Int)))) (e b)
def uE (c:Val ah) (d:Int) (b:Int) (a:Int) (e:Int→Int→Option ρ) (f:Int→Option ρ):Option ρ :=
  ifb (ilt a d) (ü c a fun g=>ck (b+(Xj g.2.2 (0:Int))) fun h=>ck (a+(1:Int)) fun i=>e h i) (f b)
def uD (f:Int) (d:Val ae) (a:Int) (b:Val az) (c:Val ae) (e:Int→Val az→Val ae→Option ρ) (g:Val aJ→Option ρ):Option ρ :=
  ifb (ilt a f) (è ((ile 0 a)&&(ilt a (č d))) (ľ d (Int.toNat a) fun h=>ifb (ine h 1152921504606846976) (è (ç ((List.length c)+(List.length ([a])))) (è ((ile 0 a)&&(ilt a (č b))) (ľ b (Int.toNat a) fun k=>ck (a+(1:Int)) fun i=>e i (List.set b (Int.toNat a) true) (c++([a]))))) (ck (a+(1:Int)) fun j=>e j b c))) (g (b,c))
def FD (m:Val ak) (j:Int) (d:Int) (n:Val ah) (o:Int) (f:Int) (b:Val ae) (c:Val az) (e:Val ae) (g:Int→Val ae→Val az→Val ae→Option ρ) (l:(Val (.pair .bool (.pair ae aJ)))→Option ρ) (p:(Val (.pair ae aJ))→Option ρ):Option ρ :=
  ifb (ilt f o) (ü n f fun a=>ifb (ine a.1 d) (ck (f+(1:Int)) fun q=>g q b c e) (X2 (k:=tI) (v:=.bool) f m (fun r=>ifb r (ck (f+(1:Int)) fun s=>g s b c e) (è ((ile 0 d)&&(ilt d (č b))) (ľ b (Int.toNat d) fun t=>ck (t+a.2.2) fun u=>è ((ile 0 a.2.1)&&(ilt a.2.1 (č b))) (ľ b (Int.toNat a.2.1) fun w=>ifb (ige u w) (ck (f+(1:Int)) fun x=>g x b c e) (è ((ile 0 d)&&(ilt d (č b))) (ľ b (Int.toNat d) fun y=>ck (y+a.2.2) fun h=>è ((ile 0 a.2.1)&&(ilt a.2.1 (č b))) (ľ b (Int.toNat a.2.1) fun M=>è ((ile 0 a.2.1)&&(ilt a.2.1 (č (List.set b (Int.toNat a.2.1) h)))) (ľ (List.set b (Int.toNat a.2.1) h) (Int.toNat a.2.1) fun z=>ifb (ilt z j) (l (false,(List.set b (Int.toNat a.2.1) h),c,e)) (è ((ile 0 a.2.1)&&(ilt a.2.1 (č c))) (ľ c (Int.toNat a.2.1) fun A=>ifb (!A) (è (ç ((List.length e)+(List.length ([a.2.1])))) (è ((ile 0 a.2.1)&&(ilt a.2.1 (č c))) (ľ c (Int.toNat a.2.1) fun N=>ck (f+(1:Int)) fun B=>g B (List.set b (Int.toNat a.2.1) h) (List.set c (Int.toNat a.2.1) true) (e++([a.2.1]))))) (ck (f+(1:Int)) fun C=>g C (List.set b (Int.toNat a.2.1) h) c e))))))))))) (è ((ile 0 d)&&(ilt d (č b))) (ľ b (Int.toNat d) fun D=>ck (D+a.2.2) fun E=>è ((ile 0 a.2.1)&&(ilt a.2.1 (č b))) (ľ b (Int.toNat a.2.1) fun F=>ifb (ige E F) (ck (f+(1:Int)) fun G=>g G b c e) (è ((ile 0 d)&&(ilt d (č b))) (ľ b (Int.toNat d) fun H=>ck (H+a.2.2) fun i=>è ((ile 0 a.2.1)&&(ilt a.2.1 (č b))) (ľ b (Int.toNat a.2.1) fun O=>è ((ile 0 a.2.1)&&(ilt a.2.1 (č (List.set b (Int.toNat a.2.1) i)))) (ľ (List.set b (Int.toNat a.2.1) i) (Int.toNat a.2.1) fun I=>ifb (ilt I j) (l (false,(List.set b (Int.toNat a.2.1) i),c,e)) (è ((ile 0 a.2.1)&&(ilt a.2.1 (č c))) (ľ c (Int.toNat a.2.1) fun J=>ifb (!J) (è (ç ((List.length e)+(List.length ([a.2.1])))) (è ((ile 0 a.2.1)&&(ilt a.2.1 (č c))) (ľ c (Int.toNat a.2.1) fun P=>ck (f+(1:Int)) fun K=>g K (List.set b (Int.toNat a.2.1) i) (List.set c (Int.toNat a.2.1) true) (e++([a.2.1]))))) (ck (f+(1:Int)) fun L=>g L (List.set b (Int.toNat a.2.1) i) c e)))))))))))) (p (b,c,e))
def uC (l:Val ak) (m:Int) (n:Int) (k:Val ah) (h:Val ae) (d:Val az) (b:Val ae) (c:Val ae) (o:Val ae→Val az→Val ae→Val ae→Option ρ) (i:(Val (.pair .bool aK))→Option ρ):Option ρ :=
  ifb (ieq (Ý c) 0) (i (true,h,d,b,c)) (è (ilt 0 (č c)) (ľ c 0 fun a=>è (ile 1 (č c)) (è (decide (1+(List.length c-1)=List.length c)) (è ((ile 0 a)&&(ilt a (č d))) (ľ d (Int.toNat a) fun x=>è ((ile 0 a)&&(ilt a (č b))) (ľ b (Int.toNat a) fun p=>ck (p+(1:Int)) fun e=>è ((ile 0 a)&&(ilt a (č b))) (ľ b (Int.toNat a) fun y=>è ((ile 0 a)&&(ilt a (č (List.set b (Int.toNat a) e)))) (ľ (List.set b (Int.toNat a) e) (Int.toNat a) fun q=>ck (n+(1:Int)) fun r=>ifb (igt q r) (i (false,h,(List.set d (Int.toNat a) false),(List.set b (Int.toNat a) e),(List.drop 1 c))) (Ñ (fun(f:(Val (.pair tI (.pair ae aJ)))) s=>FD l m a k (Ý k) f.1 f.2.1 f.2.2.1 f.2.2.2 (fun t u v w=>s (t,u,v,w)) (fun g=>i (g.1,g.2.1,g.2.2.1,(List.set b (Int.toNat a) e),g.2.2.2)) (fun j=>o j.1 j.2.1 (List.set b (Int.toNat a) e) j.2.2)) ((0:Int),h,(List.set d (Int.toNat a) false),(List.drop 1 c)))))))))))
def IE (a:Val Í) (i:Val ak) (b:Int) (k:Val ae→Option ρ):Option ρ :=
  è ((ile 0 a.1)&&(ç (Int.toNat a.1))) (Ñ (fun(f:Val ay) j=>nY (Ý (List.replicate (Int.toNat a.1) (0:Int))) f.1 f.2 (fun l m=>j (l,m)) (fun c=>è ((ile 0 b)&&(ilt b (č c))) (ľ c (Int.toNat b) fun B=>è ((ile 0 a.1)&&(ç (Int.toNat a.1))) (è ((ile 0 a.1)&&(ç (Int.toNat a.1))) (Ñ (fun(g:Val Â) n=>uE a.2 (Ý a.2) g.1 g.2 (fun o p=>n (o,p)) (fun q=>Ñ (fun(e:(Val (.pair tI aJ))) r=>uD a.1 (List.set c (Int.toNat b) (0:Int)) e.1 e.2.1 e.2.2 (fun s t u=>r (s,t,u)) (fun h=>Ñ (fun(d:Val aK) v=>uC i q a.1 a.2 d.1 d.2.1 d.2.2.1 d.2.2.2 (fun w x y z=>v (w,x,y,z)) (fun A=>k A.2.1)) ((List.set c (Int.toNat b) (0:Int)),h.1,(List.replicate (Int.toNat a.1) (0:Int)),h.2))) ((0:Int),(List.replicate (Int.toNat a.1) false),[]))) ((0:Int),(0:Int))))))) ((0:Int),(List.replicate (Int.toNat a.1) (0:Int))))
def zS (a:Val Í) (b:Val ak) (c:Int):Option ((Val ae)):=IE a b c some
def Ph (a:Val Í) (b:Int) (c:Int) (k:Val Â→Option ρ):Option ρ :=
  Ã (GV a ([b,c])) fun d=>ifb (ine d 0) (k ((0:Int),d)) (Ã (zS a ([]) b) fun f=>ü f c fun e=>ifb (ieq e 1152921504606846976) (k ((0:Int),(5:Int))) (k (e,(0:Int))))
def m5 (a:Val Í) (b:Int) (c:Int):Option (Val Â):=Ph a b c some
def rc (a:Val ax) (b:Int) (c:Int) (k:Int→Option ρ):Option ρ :=
  Ã (m5 a.2 c b) fun d=>k d.1
def Ć (a:Val ax) (b:Int) (c:Int):Option (Int):=rc a b c some
def qZ (a:Val ax) (b:Val Â) (k:Int→Option ρ):Option ρ :=
  Ã (ŵ a b) fun c=>Ã (Ć a (0:Int) c) fun d=>ck (0-d) fun e=>k e
def Ψ (a:Val ax) (b:Val Â):Option (Int):=qZ a b some
def lP (a:Val ax) (b:Val Â) (k:Int→Option ρ):Option ρ :=
  Ã (ŵ a b) fun c=>Ã (Ć a c (0:Int)) fun d=>k d
def gL (a:Val ax) (b:Val Â):Option (Int):=lP a b some
def lO (a:Val ax) (b:Val Â) (k:Val Â→Option ρ):Option ρ :=
  Ã (Ψ a b) fun c=>Ã (gL a b) fun d=>k (c,d)
def ū (a:Val ax) (b:Val Â):Option (Val Â):=lO a b some
def yx (b:Val aU) (a:Val ae) (c:Int) (k:Int→Option ρ):Option ρ :=
  ifb (ieq (Ý a) 0) (k (0:Int)) (ü a (0:Int) fun d=>Ã (ú b.2.1 (d,c)) fun e=>ck (e+(1:Int)) fun f=>k f)
def gT (a:Val aU) (b:Val ae) (c:Int):Option (Int):=yx a b c some
def nl (b:Val aq) (a:Val ae) (k:Val Â→Option ρ):Option ρ :=
  ifb (ieq (Ý a) 0) (k ((0:Int),(1:Int))) (ü a (0:Int) fun c=>X2 (k:=tI) (v:=Ð) c b (fun d=>k d.2.2.2.2.1) (k ((0:Int),(0:Int))))
def ix (a:Val aq) (b:Val ae):Option (Val Â):=nl a b some
def qC (b:Val aa) (c:Int) (a:Int) (d:Int→Option ρ) (e:Int→Option ρ) (f:Unit→Option ρ):Option ρ :=
  ifb (ilt a c) (ü b a fun g=>Ã (tk g) fun h=>ifb (!h) (e (1:Int)) (ck (a+(1:Int)) fun i=>d i)) (f ())
def Pk (a:Val aa) (k:Int→Option ρ):Option ρ :=
  Ñ (fun(b:Int) c=>qC a (Ý a) b (fun d=>c d) (fun e=>k e) (fun _=>k (0:Int))) (0:Int)
def jB (a:Val aa):Option (Int):=Pk a some
def C3 (d:Int) (e:Int) (k:Val Ķ→Option ρ):Option ρ :=
  Ã (qP d) fun b=>Ã (qP e) fun c=>Ã (Qg b c) fun a=>ifb (ł a 0) (none) (ifb (ł a 0) (none) (ifb (igt (IntKind.wrap .u64 (Int.tdiv b a)) 2147483647) (k (((0:Int),(0:Int)),(3:Int))) (ifb (igt (IntKind.wrap .u64 (Int.tdiv c a)) 2147483647) (k (((0:Int),(0:Int)),(3:Int))) (ifb (!((ilt d 0)==(ilt e 0))) (ck (0-(IntKind.wrap .i64 (IntKind.wrap .u64 (Int.tdiv b a)))) fun f=>k ((f,(IntKind.wrap .i64 (IntKind.wrap .u64 (Int.tdiv c a)))),(0:Int))) (k (((IntKind.wrap .i64 (IntKind.wrap .u64 (Int.tdiv b a))),(IntKind.wrap .i64 (IntKind.wrap .u64 (Int.tdiv c a)))),(0:Int)))))))
def pA (a:Int) (b:Int):Option (Val Ķ):=C3 a b some
def acU (a:Val Â) (b:Val Â) (k:Val Ķ→Option ρ):Option ρ :=
  Ã (jB ([a,b])) fun c=>ifb (ine c 0) (k (((0:Int),(0:Int)),c)) (ck (a.1*b.2) fun e=>ck (b.1*a.2) fun f=>ck (e-f) fun g=>ck (a.2*b.2) fun h=>Ã (pA g h) fun d=>k (d.1,d.2))
def Xt (a:Val Â) (b:Val Â):Option (Val Ķ):=acU a b some
def uI (a:Val Â) (b:Val Â) (k:Val Â→Option ρ):Option ρ :=
  Ã (Xt a b) fun c=>k c.1
def vw (a:Val Â) (b:Val Â):Option (Val Â):=uI a b some
def acS (a:Val Â) (b:Val Â) (k:Int→Option ρ):Option ρ :=
  ck (a.1*b.2) fun c=>ck (b.1*a.2) fun d=>ifb ((ł a.1 b.1)&&((ł a.2 b.2)&&true)) (k (0:Int)) (ifb (ilt c d) (k (-1:Int)) (ifb (igt c d) (k (1:Int)) (k (0:Int))))
def Qh (a:Val Â) (b:Val Â):Option (Int):=acS a b some
def rt (a:Val ã) (k:Bool→Option ρ):Option ρ :=
  Ã (jB ([a.1,a.2])) fun b=>ifb (ieq b 0) (Ã (Qh a.1 a.2) fun c=>k (ile c 0)) (k false)
def rE (a:Val ã):Option (Bool):=rt a some
def acW (a:Val Â) (b:Val Â) (k:Val Ķ→Option ρ):Option ρ :=
  Ã (jB ([a,b])) fun c=>ifb (ine c 0) (k (((0:Int),(0:Int)),c)) (ck (a.1*b.1) fun e=>ck (a.2*b.2) fun f=>Ã (pA e f) fun d=>k (d.1,d.2))
def Qj (a:Val Â) (b:Val Â):Option (Val Ķ):=acW a b some
def Pu (c:Val ã) (d:Val Â) (k:Val rL→Option ρ):Option ρ :=
  Ã (rE c) fun e=>ifb (!e) (k ((((0:Int),(0:Int)),(0:Int),(0:Int)),(1:Int))) (Ã (tk d) fun f=>ifb (!f) (k ((((0:Int),(0:Int)),(0:Int),(0:Int)),(1:Int))) (Ã (Qj d c.1) fun a=>ifb (ine a.2 0) (k ((((0:Int),(0:Int)),(0:Int),(0:Int)),a.2)) (Ã (Qj d c.2) fun b=>ifb (ine b.2 0) (k ((((0:Int),(0:Int)),(0:Int),(0:Int)),b.2)) (Ã (Qh a.1 b.1) fun g=>ifb (igt g 0) (k ((b.1,a.1),(0:Int))) (k ((a.1,b.1),(0:Int)))))))
def Qi (a:Val ã) (b:Val Â):Option (Val rL):=Pu a b some
def uH (b:Val Â) (a:Val Â) (k:Val ã→Option ρ):Option ρ :=
  Ã (Qi ((a.1,(1:Int)),a.2,(1:Int)) b) fun c=>k c.1
def oe (a:Val Â) (b:Val Â):Option (Val ã):=uH a b some
def IT (c:Val Ä) (a:Val Ì) (k:Val ã→Option ρ):Option ρ :=
  Ã (Ω c) fun b=>Ã (ŧ a.2.2.1 a.2.2.2.1) fun d=>Ã (ix b d) fun e=>Ã (ŧ a.2.2.2.1 a.2.2.1) fun f=>Ã (ix b f) fun g=>Ã (vw e g) fun h=>Ã (oe h a.2.2.2.2.2.2) fun i=>k i
def oC (a:Val Ä) (b:Val Ì):Option (Val ã):=IT a b some
def PN (a:Val Ä) (b:Val Ì) (k:Val Â→Option ρ):Option ρ :=
  ck ((Ý b.2.2.1)-(1:Int)) fun c=>ck ((Ý b.2.2.2.1)-(1:Int)) fun d=>ck ((QY (0:Int) c)*a.1.1) fun e=>ck ((QY (0:Int) d)*a.1.2) fun f=>ck (e-f) fun g=>ck ((QY (0:Int) c)*a.1.2) fun h=>ck ((QY (0:Int) d)*a.1.1) fun i=>ck (h-i) fun j=>k (g,j)
def tp (a:Val Ä) (b:Val Ì):Option (Val Â):=PN a b some
def FQ (b:Int) (a:Int) (k:Int→Option ρ):Option ρ :=
  ifb (ł a 0) (none) (ck (Int.tdiv b a) fun c=>ifb (ł a 0) (none) (ifb (ilt (Int.tmod b a) 0) (ck (c-1) fun d=>k d) (k c)))
def tj (a:Int) (b:Int):Option (Int):=FQ a b some
def WH (a:Val Â) (k:Val Â→Option ρ):Option ρ :=
  Ã (jB ([a])) fun b=>ifb (ine b 0) (k ((0:Int),b)) (ck (0-a.1) fun c=>Ã (tj c a.2) fun d=>ck (0-d) fun e=>k (e,(0:Int)))
def GW (a:Val Â):Option (Val Â):=WH a some
def Px (a:Val Â) (k:Val Â→Option ρ):Option ρ :=
  Ã (jB ([a])) fun b=>ifb (ine b 0) (k ((0:Int),b)) (Ã (tj a.1 a.2) fun c=>k (c,(0:Int)))
def yU (a:Val Â):Option (Val Â):=Px a some
def WM (b:Val Ä) (a:Val Ì) (k:Val Â→Option ρ):Option ρ :=
  Ã (oC b a) fun c=>Ã (tp b a) fun d=>Ã (yU c.2) fun e=>Ã (GW c.1) fun f=>ck (a.2.2.2.2.1-a.2.2.2.2.2.1) fun g=>ck (g-d.2) fun h=>ck (h-e.1) fun i=>ck (a.2.2.2.2.1+a.2.2.2.2.2.1) fun j=>ck (j-d.1) fun l=>ck (l-f.1) fun m=>k (i,m)
def vv (a:Val Ä) (b:Val Ì):Option (Val Â):=WM a b some
def uO (f:Int) (g:Int) (h:Val af) (i:Int) (j:Int) (b:Int) (a:Int) (d:Int→Int→Option ρ) (k:Int→Option ρ):Option ρ :=
  ifb (ilt a i) (ü h a fun c=>ck (g-(1:Int)) fun l=>ck ((Xj c.2.1.2 l)-(QY c.2.1.1 f)) fun m=>ck (m+1) fun e=>ifb (ieq c.1 j) (ifb (igt e 0) (ck (e*c.2.2) fun n=>ck (b+n) fun o=>ck (a+(1:Int)) fun p=>d o p) (ck (a+(1:Int)) fun q=>d b q)) (ck (a+(1:Int)) fun r=>d b r)) (k b)
def uN (e:Int) (f:Int) (g:Val aa) (h:Int) (i:Int) (a:Int) (b:Val ae) (d:Int→Val ae→Option ρ) (j:Val ae→Option ρ):Option ρ :=
  ifb (ilt a h) (ü g a fun c=>ifb (ieq c.1 i) (ck (f-(1:Int)) fun k=>Ã (Ě c.2 e k) fun l=>ifb l (è (ç ((List.length b)+(List.length ([c.2])))) (ck (a+(1:Int)) fun m=>d m (b++([c.2])))) (ck (a+(1:Int)) fun n=>d n b)) (ck (a+(1:Int)) fun o=>d o b)) (j b)
def WP (a:Val Ä) (b:Val Ð) (d:Int) (e:Int) (k:Int→Option ρ):Option ρ :=
  Ñ (fun(f:Val Â) h=>uO d e a.2.2.2.1 (Ý a.2.2.2.1) b.1 f.1 f.2 (fun i j=>h (i,j)) (fun l=>Ñ (fun(g:Val ay) m=>uN d e a.2.2.1 (Ý a.2.2.1) b.1 g.1 g.2 (fun n o=>m (n,o)) (fun c=>è (ç (List.length c)) (è (ç (List.length (Dz c))) (ck ((Ý (zX (Dz c)))*b.2.2.2.2.2) fun p=>ck (l+p) fun q=>k q)))) ((0:Int),[]))) ((0:Int),(0:Int))
def zT (a:Val Ä) (b:Val Ð) (c:Int) (d:Int):Option (Int):=WP a b c d some
def uL (b:Int) (e:Val ae) (h:Int) (j:Int) (k:Int) (l:Val ac) (m:Val aa) (n:Val af) (o:Val ab) (p:Val aa) (q:Int) (r:Int) (s:Int) (t:Int) (u:Int) (v:Int) (w:Int) (x:Int) (a:Int) (f:Val ah) (g:Val aa) (y:Int→Val ah→Val aa→Option ρ) (z:Val vI→Option ρ):Option ρ :=
  ifb (ilt a (Ý e)) (ck (h+a) fun A=>ck (A-1) fun c=>ck (h+a) fun d=>ck (a-(1:Int)) fun B=>ü e B fun C=>ü e a fun D=>Ã (zT ((j,k),l,m,n,o,p) (q,r,s,(t,u),(v,w),x) C D) fun E=>ck (0-E) fun F=>ck (0-F) fun i=>è (ç ((List.length f)+(List.length ([(c,d,(0:Int)),(d,c,i)])))) (è (ç ((List.length g)+(List.length ([((2:Int),b),((2:Int),b)])))) (ck (a+(1:Int)) fun G=>y G (f++([(c,d,(0:Int)),(d,c,i)])) (g++([((2:Int),b),((2:Int),b)]))))) (z (f,g))
def uM (q:Val ac) (r:Int) (f:Int) (g:Int) (h:Val ac) (i:Val aa) (j:Val af) (k:Val ab) (l:Val aa) (s:Val aa) (t:Int) (b:Int) (d:Val ah) (e:Val aa) (u:Int→Val ah→Val aa→Option ρ) (v:Val vI→Option ρ):Option ρ :=
  ifb (ilt b r) (ü q b fun a=>Ã (og ((f,g),h,i,j,k,l) a) fun w=>Ã (gT (((f,g),h,i,j,k,l),s,(t,d),e) ([a.1]) a.2.1) fun c=>ck (a.2.2.1+a.2.2.2.1.1) fun x=>ck (a.2.2.1+a.2.2.2.1.2) fun n=>ck (0-x) fun o=>è (ç ((List.length d)+(List.length ([((0:Int),c,n),(c,(0:Int),o)])))) (è (ç ((List.length e)+(List.length ([((1:Int),b),((1:Int),b)])))) (Ñ (fun(m:Val aL) y=>uL b w c f g h i j k l a.1 a.2.1 a.2.2.1 a.2.2.2.1.1 a.2.2.2.1.2 a.2.2.2.2.1.1 a.2.2.2.2.1.2 a.2.2.2.2.2 m.1 m.2.1 m.2.2 (fun z A B=>y (z,A,B)) (fun p=>ck (b+(1:Int)) fun C=>u C p.1 p.2)) ((1:Int),(d++([((0:Int),c,n),(c,(0:Int),o)])),(e++([((1:Int),b),((1:Int),b)])))))) (v (d,e))
def uK (r:Val ab) (s:Int) (g:Int) (h:Int) (i:Val ac) (j:Val aa) (k:Val af) (l:Val ab) (m:Val aa) (o:Val aa) (p:Int) (a:Int) (c:Val ah) (d:Val aa) (t:Int→Val ah→Val aa→Option ρ) (u:Val vI→Option ρ):Option ρ :=
  ifb (ilt a s) (ü r a fun b=>Ã (ŧ b.2.2.2.1 b.2.2.1) fun v=>Ã (gT (((g,h),i,j,k,l,m),o,(p,c),d) v b.2.1) fun e=>Ã (ŧ b.2.2.1 b.2.2.2.1) fun w=>Ã (gT (((g,h),i,j,k,l,m),o,(p,c),d) w b.2.1) fun f=>Ã (vv ((g,h),i,j,k,l,m) b) fun n=>ck (0-n.1) fun q=>è (ç ((List.length c)+(List.length ([(e,f,n.2),(f,e,q)])))) (è (ç ((List.length d)+(List.length ([((3:Int),a),((3:Int),a)])))) (ck (a+(1:Int)) fun x=>t x (c++([(e,f,n.2),(f,e,q)])) (d++([((3:Int),a),((3:Int),a)]))))) (u (c,d))
def WO (a:Val Ä) (k:Val aU→Option ρ):Option ρ :=
  Ã (pB a) fun b=>ck ((Ý b)+(1:Int)) fun c=>Ñ (fun(d:Val aL) h=>uM a.2.1 (Ý a.2.1) a.1.1 a.1.2 a.2.1 a.2.2.1 a.2.2.2.1 a.2.2.2.2.1 a.2.2.2.2.2 b c d.1 d.2.1 d.2.2 (fun i j l=>h (i,j,l)) (fun f=>Ñ (fun(e:Val aL) m=>uK a.2.2.2.2.1 (Ý a.2.2.2.2.1) a.1.1 a.1.2 a.2.1 a.2.2.1 a.2.2.2.1 a.2.2.2.2.1 a.2.2.2.2.2 b c e.1 e.2.1 e.2.2 (fun n o p=>m (n,o,p)) (fun g=>k (a,b,(c,g.1),g.2))) ((0:Int),f.1,f.2))) ((0:Int),[],[])
def GY (a:Val Ä):Option ((Val aU)):=WO a some
def IX (a:Val Ä) (k:(Val (.pair Í (.pair aa tI)))→Option ρ):Option ρ :=
  Ã (û a) fun b=>ifb (ine b 0) (k (((0:Int),[]),[],b)) (Ã (GY a) fun c=>k (c.2.2.1,c.2.2.2,(0:Int)))
def Ġ (a:Val Ä):Option ((Val (.pair Í (.pair aa tI)))):=IX a some
def uV (f:Int) (a:Int) (c:Val ab) (g:Int→Val ab→Option ρ) (h:Val ab→Option ρ):Option ρ :=
  ifb (ilt a f) (è ((ile 0 a)&&(ilt a (č c))) (ľ c (Int.toNat a) fun d=>è (ç (List.length d.2.2.1)) (è (ç (List.length d.2.2.2.1)) (è ((ile 0 a)&&(ilt a (č c))) (ľ c (Int.toNat a) fun b=>è ((ile 0 a)&&(ilt a (č (List.set c (Int.toNat a) (b.1,b.2.1,d.2.2.1,b.2.2.2))))) (ľ (List.set c (Int.toNat a) (b.1,b.2.1,d.2.2.1,b.2.2.2)) (Int.toNat a) fun e=>ck (a+(1:Int)) fun i=>g i (List.set (List.set c (Int.toNat a) (b.1,b.2.1,d.2.2.1,b.2.2.2)) (Int.toNat a) (e.1,e.2.1,e.2.2.1,d.2.2.2.1,e.2.2.2.2)))))))) (h c)
def W8 (a:Val Ä) (b:Val Â) (k:Val aG→Option ρ):Option ρ :=
  Ã (û a) fun c=>ifb (ine c 0) (k ((((0:Int),(0:Int)),[],[],[],[],[]),c)) (è (ç (List.length a.2.1)) (è (ç (List.length a.2.2.1)) (è (ç (List.length a.2.2.2.1)) (è (ç (List.length a.2.2.2.2.2)) (è (ç (List.length a.2.2.2.2.1)) (Ñ (fun(d:(Val (.pair tI ab))) g=>uV (Ý a.2.2.2.2.1) d.1 d.2 (fun h i=>g (h,i)) (fun e=>è (ç ((List.length a.2.2.2.2.2)+(List.length ([b])))) (Ã (û (a.1,a.2.1,a.2.2.1,a.2.2.2.1,e,(a.2.2.2.2.2++([b])))) fun f=>ifb (ine f 0) (k ((((0:Int),(0:Int)),[],[],[],[],[]),f)) (k ((a.1,a.2.1,a.2.2.1,a.2.2.2.1,e,(a.2.2.2.2.2++([b]))),(0:Int)))))) ((0:Int),a.2.2.2.2.1)))))))
def ji (a:Val Ä) (b:Val Â):Option ((Val aG)):=W8 a b some
def ro (a:Val Í) (k:Val aW→Option ρ):Option ρ :=
  Ã (mZ a) fun b=>ifb (ine b.1 0) (k (false,b.1)) (Ã (iV a ([])) fun c=>k (c.2,(0:Int)))
def Đ (a:Val Í):Option ((Val aW)):=ro a some
def Ă (m:Int) (j:Val aa) (b:Int) (c:Int) (d:Int) (e:Val ac) (f:Val aa) (g:Val af) (h:Val ab) (i:Val aa) (k:Int→Int→Int→Val ac→Val aa→Val af→Val ab→Val aa→Option ρ) (n:Val aC→Option ρ) (o:Val ai→Option ρ):Option ρ :=
  ifb (ilt b m) (è ((ile 0 b)&&(ilt b (č j))) (ľ j (Int.toNat b) fun l=>Ã (ŗ ((c,d),e,f,g,h,i) l) fun p=>ifb (ieq p.2 0) (ck (b+(1:Int)) fun q=>k q c d e f g h i) (Ã (ji ((c,d),e,f,g,h,i) l) fun a=>ifb (ine a.2 0) (n (a.2,c,d,e,f,g,h,i)) (ck (b+(1:Int)) fun r=>k r a.1.1.1 a.1.1.2 a.1.2.1 a.1.2.2.1 a.1.2.2.2.1 a.1.2.2.2.2.1 a.1.2.2.2.2.2)))) (o (c,d,e,f,g,h,i))
def xY (a:Val Ä) (e:Val Â) (k:Val Ķ→Option ρ):Option ρ :=
  Ã (û a) fun f=>ifb (ine f 0) (è (ine f 0) (k (((0:Int),(0:Int)),f))) (Ñ (fun(b:Val aC) h=>Ă (Ý ([e])) ([e]) b.1 b.2.1 b.2.2.1 b.2.2.2.1 b.2.2.2.2.1 b.2.2.2.2.2.1 b.2.2.2.2.2.2.1 b.2.2.2.2.2.2.2 (fun i j l m n o p q=>h (i,j,l,m,n,o,p,q)) (fun g=>è (ine g.1 0) (k (((0:Int),(0:Int)),g.1))) (fun c=>Ã (Ġ ((c.1,c.2.1),c.2.2)) fun d=>ifb (ine d.2.2 0) (è (ine d.2.2 0) (k (((0:Int),(0:Int)),d.2.2))) (Ã (Đ d.1) fun r=>ifb (!r.1) (k (((0:Int),(0:Int)),(9:Int))) (Ã (ū (((c.1,c.2.1),c.2.2),d.1) e) fun s=>k (s,(0:Int)))))) ((0:Int),a.1.1,a.1.2,a.2.1,a.2.2.1,a.2.2.2.1,a.2.2.2.2.1,a.2.2.2.2.2))
def mY (a:Val Ä) (b:Val Â):Option (Val Ķ):=xY a b some
def rl (m:Int) (j:Val aa) (b:Int) (c:Int) (d:Int) (e:Val ac) (f:Val aa) (g:Val af) (h:Val ab) (i:Val aa) (k:Int→Int→Int→Val ac→Val aa→Val af→Val ab→Val aa→Option ρ) (n:Val aC→Option ρ) (o:Val ai→Option ρ):Option ρ :=
  ifb (ilt b m) (è ((ile 0 b)&&(ilt b (č j))) (ľ j (Int.toNat b) fun l=>Ã (ŗ ((c,d),e,f,g,h,i) l) fun p=>ifb (ieq p.2 0) (ck (b+(1:Int)) fun q=>k q c d e f g h i) (Ã (ji ((c,d),e,f,g,h,i) l) fun a=>ifb (ine a.2 0) (n (a.2,c,d,e,f,g,h,i)) (ck (b+(1:Int)) fun r=>k r a.1.1.1 a.1.1.2 a.1.2.1 a.1.2.2.1 a.1.2.2.2.1 a.1.2.2.2.2.1 a.1.2.2.2.2.2)))) (o (c,d,e,f,g,h,i))
def CY (b:Val Ä) (e:Val Â) (f:Val Â) (k:Val Ķ→Option ρ):Option ρ :=
  Ã (û b) fun g=>ifb (ine g 0) (è (ine g 0) (k (((0:Int),(0:Int)),g))) (Ñ (fun(c:Val aC) l=>rl (Ý ([e,f])) ([e,f]) c.1 c.2.1 c.2.2.1 c.2.2.2.1 c.2.2.2.2.1 c.2.2.2.2.2.1 c.2.2.2.2.2.2.1 c.2.2.2.2.2.2.2 (fun m n o p q r s t=>l (m,n,o,p,q,r,s,t)) (fun h=>è (ine h.1 0) (k (((0:Int),(0:Int)),h.1))) (fun a=>Ã (Ġ ((a.1,a.2.1),a.2.2)) fun d=>ifb (ine d.2.2 0) (è (ine d.2.2 0) (k (((0:Int),(0:Int)),d.2.2))) (Ã (Đ d.1) fun u=>ifb (!u.1) (k (((0:Int),(0:Int)),(9:Int))) (Ã (ŵ (((a.1,a.2.1),a.2.2),d.1) e) fun i=>Ã (ŵ (((a.1,a.2.1),a.2.2),d.1) f) fun j=>Ã (Ć (((a.1,a.2.1),a.2.2),d.1) j i) fun v=>ck (0-v) fun w=>Ã (Ć (((a.1,a.2.1),a.2.2),d.1) i j) fun x=>k ((w,x),(0:Int)))))) ((0:Int),b.1.1,b.1.2,b.2.1,b.2.2.1,b.2.2.2.1,b.2.2.2.2.1,b.2.2.2.2.2))
def vu (a:Val Ä) (b:Val Â) (c:Val Â):Option (Val Ķ):=CY a b c some
def CM (a:Val Â) (b:Val Â) (k:Int→Option ρ):Option ρ :=
  ifb (ile b.1 a.1) (ifb (ile a.2 b.2) (k (1:Int)) (ifb (ilt a.2 b.1) (k (2:Int)) (ifb (ilt b.2 a.1) (k (2:Int)) (k (3:Int))))) (ifb (ilt a.2 b.1) (k (2:Int)) (ifb (ilt b.2 a.1) (k (2:Int)) (k (3:Int))))
def pu (a:Val Â) (b:Val Â):Option (Int):=CM a b some
def xX (m:Int) (j:Val aa) (b:Int) (c:Int) (d:Int) (e:Val ac) (f:Val aa) (g:Val af) (h:Val ab) (i:Val aa) (k:Int→Int→Int→Val ac→Val aa→Val af→Val ab→Val aa→Option ρ) (n:Val aC→Option ρ) (o:Val ai→Option ρ):Option ρ :=
  ifb (ilt b m) (è ((ile 0 b)&&(ilt b (č j))) (ľ j (Int.toNat b) fun l=>Ã (ŗ ((c,d),e,f,g,h,i) l) fun p=>ifb (ieq p.2 0) (ck (b+(1:Int)) fun q=>k q c d e f g h i) (Ã (ji ((c,d),e,f,g,h,i) l) fun a=>ifb (ine a.2 0) (n (a.2,c,d,e,f,g,h,i)) (ck (b+(1:Int)) fun r=>k r a.1.1.1 a.1.1.2 a.1.2.1 a.1.2.2.1 a.1.2.2.2.1 a.1.2.2.2.2.1 a.1.2.2.2.2.2)))) (o (c,d,e,f,g,h,i))
def OP (b:Val Ä) (f:Val Â) (a:Val Â) (k:Val Â→Option ρ):Option ρ :=
  Ã (û b) fun g=>ifb (ine g 0) (ifb (ine g 0) (k ((0:Int),g)) (è (igt a.1 a.2) (k ((0:Int),(1:Int))))) (Ñ (fun(c:Val aC) i=>xX (Ý ([f])) ([f]) c.1 c.2.1 c.2.2.1 c.2.2.2.1 c.2.2.2.2.1 c.2.2.2.2.2.1 c.2.2.2.2.2.2.1 c.2.2.2.2.2.2.2 (fun j l m n o p q r=>i (j,l,m,n,o,p,q,r)) (fun h=>ifb (ine h.1 0) (k ((0:Int),h.1)) (è (igt a.1 a.2) (k ((0:Int),(1:Int))))) (fun d=>Ã (Ġ ((d.1,d.2.1),d.2.2)) fun e=>ifb (ine e.2.2 0) (ifb (ine e.2.2 0) (k ((0:Int),e.2.2)) (è (igt a.1 a.2) (k ((0:Int),(1:Int))))) (Ã (Đ e.1) fun s=>ifb (!s.1) (k ((0:Int),(9:Int))) (ifb (igt a.1 a.2) (k ((0:Int),(1:Int))) (Ã (ū (((d.1,d.2.1),d.2.2),e.1) f) fun t=>Ã (pu t a) fun u=>k (u,(0:Int))))))) ((0:Int),b.1.1,b.1.2,b.2.1,b.2.2.1,b.2.2.2.1,b.2.2.2.2.1,b.2.2.2.2.2))
def GR (a:Val Ä) (b:Val Â) (c:Val Â):Option (Val Â):=OP a b c some
def zy (c:Int) (a:Int) (b:Val ae) (d:Int→Val ae→Option ρ) (e:Val ae→Option ρ):Option ρ :=
  ifb (ilt a c) (è ((ile 0 a)&&(ilt a (č b))) (ľ b (Int.toNat a) fun g=>ck (a+(1:Int)) fun f=>d f (List.set b (Int.toNat a) (1152921504606846976:Int)))) (e b)
def Ws (c:Int) (a:Int) (b:Val ae) (d:Int→Val ae→Option ρ) (e:Val ae→Option ρ):Option ρ :=
  ifb (ilt a c) (è ((ile 0 a)&&(ilt a (č b))) (ľ b (Int.toNat a) fun g=>ck (a+(1:Int)) fun f=>d f (List.set b (Int.toNat a) (1152921504606846976:Int)))) (e b)
def FC (d:Val ae) (f:Val ah) (g:Int) (c:Int) (b:Val ae) (e:Int→Val ae→Option ρ) (h:Val ae→Option ρ):Option ρ :=
  ifb (ilt c g) (ü f c fun a=>ü d a.2.1 fun i=>ifb (ine i 1152921504606846976) (è ((ile 0 a.1)&&(ilt a.1 (č b))) (ľ b (Int.toNat a.1) fun j=>ü d a.2.1 fun k=>ck (a.2.2+k) fun l=>è ((ile 0 a.1)&&(ilt a.1 (č b))) (ľ b (Int.toNat a.1) fun o=>ck (c+(1:Int)) fun m=>e m (List.set b (Int.toNat a.1) (Xj j l))))) (ck (c+(1:Int)) fun n=>e n b)) (h b)
def Mr (i:Int) (b:Int) (d:Val ah) (e:Int) (a:Val am) (j:Int→Val am→Option ρ) (k:Val am→Option ρ):Option ρ :=
  ifb (ilt e i) (ck ((Ý a)-(1:Int)) fun c=>è ((ile 0 c)&&(ilt c (č a))) (ľ a (Int.toNat c) fun l=>è ((ile 0 b)&&(ç (Int.toNat b))) (Ñ (fun(f:Val ay) m=>Ws (Ý (List.replicate (Int.toNat b) (0:Int))) f.1 f.2 (fun n o=>m (n,o)) (fun p=>Ñ (fun(g:Val ay) q=>FC l d (Ý d) g.1 g.2 (fun r s=>q (r,s)) (fun h=>è (ç ((List.length a)+(List.length ([h])))) (ck (e+(1:Int)) fun t=>j t (a++([h]))))) ((0:Int),p))) ((0:Int),(List.replicate (Int.toNat b) (0:Int)))))) (k a)
def OZ (a:Val Í) (b:Int) (f:Int) (k:Val am→Option ρ):Option ρ :=
  è ((ile 0 a.1)&&(ç (Int.toNat a.1))) (Ñ (fun(d:Val ay) g=>zy (Ý (List.replicate (Int.toNat a.1) (0:Int))) d.1 d.2 (fun h i=>g (h,i)) (fun c=>è ((ile 0 b)&&(ilt b (č c))) (ľ c (Int.toNat b) fun o=>Ñ (fun(e:Val aO) j=>Mr f a.1 a.2 e.1 e.2 (fun l m=>j (l,m)) (fun n=>k n)) ((0:Int),[(List.set c (Int.toNat b) (0:Int))])))) ((0:Int),(List.replicate (Int.toNat a.1) (0:Int))))
def yQ (a:Val Í) (b:Int) (c:Int):Option ((Val am)):=OZ a b c some
def qB (b:Val am) (c:Int) (d:Int) (e:Int) (a:Int) (f:Int→Option ρ) (g:Int→Option ρ) (h:Unit→Option ρ):Option ρ :=
  ifb (ilt a c) (ü b a fun i=>ü i d fun j=>ifb (ieq j e) (g a) (ck (a+(1:Int)) fun k=>f k)) (h ())
def Km (g:Int) (h:Val am) (j:Val ah) (k:Int) (l:Int) (e:Int) (b:Int) (a:Int) (c:Val ae) (f:Int→Int→Int→Val ae→Option ρ) (i:(Val (.pair tI ay))→Option ρ):Option ρ :=
  ifb (ilt a k) (ü j a fun d=>ifb (ieq d.1 e) (ck (g-(1:Int)) fun m=>ü h m fun n=>ü n d.2.1 fun o=>ifb (ine o 1152921504606846976) (ck (b+d.2.2) fun p=>ck (g-(1:Int)) fun q=>ü h q fun r=>ü r d.2.1 fun s=>ck (p+s) fun t=>ifb (ieq t l) (è (ç ((List.length c)+(List.length ([a])))) (ck (b+d.2.2) fun u=>i (d.2.1,u,(c++([a]))))) (ck (a+(1:Int)) fun v=>f e b v c)) (ck (a+(1:Int)) fun w=>f e b w c)) (ck (a+(1:Int)) fun x=>f e b x c)) (i (e,b,c))
def qA (f:Val am) (g:Int) (d:Val ah) (h:Int) (b:Int) (i:Int) (e:Val ae) (j:Int→Int→Int→Val ae→Option ρ) (k:Val ae→Option ρ):Option ρ :=
  ifb (igt b 0) (Ñ (fun(a:Val aI) l=>Km b f d (Ý d) g a.1 a.2.1 a.2.2.1 a.2.2.2 (fun m n o p=>l (m,n,o,p)) (fun c=>ck (b-(1:Int)) fun q=>j c.1 q c.2.1 c.2.2)) (h,i,(0:Int),e)) (k e)
def Pf (a:Val Í) (c:Int) (g:Int) (k:Val aE→Option ρ):Option ρ :=
  Ã (m5 a c g) fun b=>ifb (ine b.2 0) (k ([],b.2)) (Ã (yQ a g a.1) fun d=>Ñ (fun(h:Int) i=>qB d (Ý d) c b.1 h (fun j=>i j) (fun l=>Ñ (fun(e:Val aI) m=>qA d b.1 a.2 e.1 e.2.1 e.2.2.1 e.2.2.2 (fun n o p q=>m (n,o,p,q)) (fun r=>k (r,(0:Int)))) (c,l,(0:Int),[])) (fun _=>Ñ (fun(f:Val aI) s=>qA d b.1 a.2 f.1 f.2.1 f.2.2.1 f.2.2.2 (fun t u v w=>s (t,u,v,w)) (fun x=>k (x,(0:Int)))) (c,(-1:Int),(0:Int),[]))) (0:Int))
def yT (a:Val Í) (b:Int) (c:Int):Option ((Val aE)):=Pf a b c some
def uw (a:Val ax) (c:Val aT) (d:(Val (.ptr .bool))) (k:Val ae→Option ρ):Option ρ :=
  Ã (ŵ a c) fun b=>ifb d (Ã (yT a.2 (0:Int) b) fun e=>k e.1) (Ã (yT a.2 b (0:Int)) fun f=>k f.1)
def kU (a:Val ax) (b:Val aT) (c:(Val (.ptr .bool))):Option ((Val ae)):=uw a b c some
def mh (d:Val aa) (e:Val ae) (f:Int) (a:Int) (b:Val aa) (g:Int→Val aa→Option ρ) (h:Val aa→Option ρ):Option ρ :=
  ifb (ilt a f) (ü e a fun i=>ü d i fun c=>è (ç ((List.length b)+(List.length ([c])))) (ck (a+(1:Int)) fun j=>g j (b++([c])))) (h b)
def CN (c:Val Ä) (a:Val ae) (k:Val aa→Option ρ):Option ρ :=
  Ã (Ġ c) fun d=>Ñ (fun(b:Val aF) e=>mh d.2.1 a (Ý a) b.1 b.2 (fun f g=>e (f,g)) (fun h=>k h)) ((0:Int),[])
def pv (a:Val Ä) (b:Val ae):Option ((Val aa)):=CN a b some
def rk (m:Int) (j:Val aa) (b:Int) (c:Int) (d:Int) (e:Val ac) (f:Val aa) (g:Val af) (h:Val ab) (i:Val aa) (k:Int→Int→Int→Val ac→Val aa→Val af→Val ab→Val aa→Option ρ) (n:Val aC→Option ρ) (o:Val ai→Option ρ):Option ρ :=
  ifb (ilt b m) (è ((ile 0 b)&&(ilt b (č j))) (ľ j (Int.toNat b) fun l=>Ã (ŗ ((c,d),e,f,g,h,i) l) fun p=>ifb (ieq p.2 0) (ck (b+(1:Int)) fun q=>k q c d e f g h i) (Ã (ji ((c,d),e,f,g,h,i) l) fun a=>ifb (ine a.2 0) (n (a.2,c,d,e,f,g,h,i)) (ck (b+(1:Int)) fun r=>k r a.1.1.1 a.1.1.2 a.1.2.1 a.1.2.2.1 a.1.2.2.2.1 a.1.2.2.2.2.1 a.1.2.2.2.2.2)))) (o (c,d,e,f,g,h,i))
def rj (a:Int) (b:Int) (d:Int→Option ρ) (c:Unit→Option ρ):Option ρ :=
  ifb (ilt b a) (none) (c ())
def CX (d:Val Ä) (b:Val Â) (f:Bool) (k:(Val (.pair ε tI))→Option ρ):Option ρ :=
  Ã (û d) fun i=>ifb (ine i 0) (è (ine i 0) (k (((((0:Int),(0:Int)),[],[],[],[],[]),((0:Int),(0:Int)),false,(0:Int),[]),i))) (Ñ (fun(e:Val aC) n=>rk (Ý ([b])) ([b]) e.1 e.2.1 e.2.2.1 e.2.2.2.1 e.2.2.2.2.1 e.2.2.2.2.2.1 e.2.2.2.2.2.2.1 e.2.2.2.2.2.2.2 (fun o p q r s t u v=>n (o,p,q,r,s,t,u,v)) (fun l=>è (ine l.1 0) (k (((((0:Int),(0:Int)),[],[],[],[],[]),((0:Int),(0:Int)),false,(0:Int),[]),l.1))) (fun a=>Ã (Ġ ((a.1,a.2.1),a.2.2)) fun c=>ifb (ine c.2.2 0) (è (ine c.2.2 0) (k (((((0:Int),(0:Int)),[],[],[],[],[]),((0:Int),(0:Int)),false,(0:Int),[]),c.2.2))) (Ã (Đ c.1) fun w=>ifb (!w.1) (k (((((0:Int),(0:Int)),[],[],[],[],[]),((0:Int),(0:Int)),false,(0:Int),[]),(9:Int))) (Ã (kU (((a.1,a.2.1),a.2.2),c.1) b f) fun x=>Ã (pv ((a.1,a.2.1),a.2.2) x) fun y=>Ã (Qf ((a.1,a.2.1),a.2.2) y ([b])) fun g=>Ã (û g) fun j=>ifb (ine j 0) (ifb (ine j 0) (k (((((0:Int),(0:Int)),[],[],[],[],[]),((0:Int),(0:Int)),false,(0:Int),[]),j)) (Ã (Ψ (((a.1,a.2.1),a.2.2),c.1) b) fun F=>none)) (Ñ (fun(z:Int) A=>rj (0:Int) z (fun B=>A B) (fun _=>Ã (Ġ g) fun h=>ifb (ine h.2.2 0) (ifb (ine h.2.2 0) (k (((((0:Int),(0:Int)),[],[],[],[],[]),((0:Int),(0:Int)),false,(0:Int),[]),h.2.2)) (Ã (Ψ (((a.1,a.2.1),a.2.2),c.1) b) fun G=>none)) (Ã (Đ h.1) fun C=>ifb (!C.1) (k (((((0:Int),(0:Int)),[],[],[],[],[]),((0:Int),(0:Int)),false,(0:Int),[]),(9:Int))) (Ã (Ψ (((a.1,a.2.1),a.2.2),c.1) b) fun D=>Ã (kU (g,h.1) b f) fun m=>ifb f (Ã (gL (((a.1,a.2.1),a.2.2),c.1) b) fun E=>k ((g,b,f,E,m),(0:Int))) (k ((g,b,f,D,m),(0:Int))))))) (0:Int)))))) ((0:Int),d.1.1,d.1.2,d.2.1,d.2.2.1,d.2.2.2.1,d.2.2.2.2.1,d.2.2.2.2.2))
def vt (a:Val Ä) (b:Val Â) (c:Bool):Option ((Val (.pair ε tI))):=CX a b c some
def mj (d:Val ae) (e:Int) (f:Val ah) (a:Int) (g:Int→Option ρ) (b:Int→Option ρ) (h:Unit→Option ρ):Option ρ :=
  ifb (ilt a e) (ü d a fun c=>ifb (ilt c 0) (b a) (ifb (ige c (Ý f)) (b a) (ck (a+(1:Int)) fun i=>g i))) (h ())
def CZ (b:Val Í) (a:Val ae) (k:Int→Option ρ):Option ρ :=
  ifb (igt (Ý a) 80) (k (2:Int)) (Ñ (fun(c:Int) d=>mj a (Ý a) b.2 c (fun e=>d e) (fun f=>ifb (ige f 0) (k (1:Int)) (k (0:Int))) (fun _=>k (0:Int))) (0:Int))
def pz (a:Val Í) (b:Val ae):Option (Int):=CZ a b some
def uA (e:Val ae) (f:Int) (g:Val ah) (c:Int) (d:Int) (a:Int) (h:Int→Int→Int→Option ρ) (i:(Val (.pair tI (.pair tI .bool)))→Option ρ) (j:Val Â→Option ρ):Option ρ :=
  ifb (ilt a f) (ü e a fun k=>ü g k fun b=>ifb (ine b.1 c) (i ((0:Int),(0:Int),false)) (ck (d+b.2.2) fun l=>ck (a+(1:Int)) fun m=>h b.2.1 l m)) (j (c,d))
def Wq (e:Val Í) (f:Int) (c:Val ae) (k:(Val (.pair tI (.pair tI .bool)))→Option ρ):Option ρ :=
  Ñ (fun(a:Val Ą) g=>uA c (Ý c) e.2 a.1 a.2.1 a.2.2 (fun h i j=>g (h,i,j)) (fun b=>k (b.1,b.2.1,b.2.2)) (fun d=>k (d.1,d.2,true))) (f,(0:Int),(0:Int))
def GU (a:Val Í) (b:Int) (c:Val ae):Option ((Val (.pair tI (.pair tI .bool)))):=Wq a b c some
def rr (a:Val Í) (c:Int) (d:Int) (e:Val ae) (k:Val Â→Option ρ):Option ρ :=
  Ã (mZ a) fun f=>ifb (ine f.1 0) (k ((0:Int),f.1)) (Ã (qO a c) fun h=>ifb (!h) (k ((0:Int),(1:Int))) (Ã (qO a d) fun i=>ifb (!i) (k ((0:Int),(1:Int))) (Ã (pz a e) fun g=>ifb (ine g 0) (k ((0:Int),g)) (Ã (GU a c e) fun b=>ifb (!b.2.2) (k ((0:Int),(8:Int))) (ifb (ine b.1 d) (k ((0:Int),(8:Int))) (k (b.2.1,(0:Int))))))))
def jA (a:Val Í) (b:Int) (c:Int) (d:Val ae):Option (Val Â):=rr a b c d some
def ut (a:Val ε) (k:Int→Option ρ):Option ρ :=
  Ã (û a.1) fun c=>ifb (ine c 0) (k c) (Ã (ŗ a.1 a.2.1) fun b=>ifb (ine b.2 0) (k (5:Int)) (Ã (Ġ a.1) fun d=>ck (0-a.2.2.2.1) fun g=>ifb a.2.2.1 (Ã (jA d.1 (0:Int) b.1 a.2.2.2.2) fun e=>ifb (ine e.2 0) (k (8:Int)) (ifb (ine e.1 a.2.2.2.1) (k (8:Int)) (k (0:Int)))) (Ã (jA d.1 b.1 (0:Int) a.2.2.2.2) fun f=>ifb (ine f.2 0) (k (8:Int)) (ifb (ine f.1 g) (k (8:Int)) (k (0:Int))))))
def kT (a:Val ε):Option (Int):=ut a some
def uU (f:Int) (a:Int) (c:Val ab) (g:Int→Val ab→Option ρ) (h:Val ab→Option ρ):Option ρ :=
  ifb (ilt a f) (è ((ile 0 a)&&(ilt a (č c))) (ľ c (Int.toNat a) fun d=>è (ç (List.length d.2.2.1)) (è (ç (List.length d.2.2.2.1)) (è ((ile 0 a)&&(ilt a (č c))) (ľ c (Int.toNat a) fun b=>è ((ile 0 a)&&(ilt a (č (List.set c (Int.toNat a) (b.1,b.2.1,d.2.2.1,b.2.2.2))))) (ľ (List.set c (Int.toNat a) (b.1,b.2.1,d.2.2.1,b.2.2.2)) (Int.toNat a) fun e=>ck (a+(1:Int)) fun i=>g i (List.set (List.set c (Int.toNat a) (b.1,b.2.1,d.2.2.1,b.2.2.2)) (Int.toNat a) (e.1,e.2.1,e.2.2.1,d.2.2.2.1,e.2.2.2.2)))))))) (h c)
def W5 (a:Val Ä) (b:Val Ì) (k:Val aG→Option ρ):Option ρ :=
  è (ç (List.length b.2.2.1)) (è (ç (List.length b.2.2.2.1)) (Ã (û a) fun d=>ifb (ine d 0) (k ((((0:Int),(0:Int)),[],[],[],[],[]),d)) (è (ç (List.length a.2.1)) (è (ç (List.length a.2.2.1)) (è (ç (List.length a.2.2.2.1)) (è (ç (List.length a.2.2.2.2.2)) (è (ç (List.length a.2.2.2.2.1)) (Ñ (fun(e:(Val (.pair tI ab))) g=>uU (Ý a.2.2.2.2.1) e.1 e.2 (fun h i=>g (h,i)) (fun c=>è (ç ((List.length c)+(List.length ([b])))) (Ã (û (a.1,a.2.1,a.2.2.1,a.2.2.2.1,(c++([b])),a.2.2.2.2.2)) fun f=>ifb (ine f 0) (k ((((0:Int),(0:Int)),[],[],[],[],[]),f)) (k ((a.1,a.2.1,a.2.2.1,a.2.2.2.1,(c++([b])),a.2.2.2.2.2),(0:Int)))))) ((0:Int),a.2.2.2.2.1)))))))))
def oh (a:Val Ä) (b:Val Ì):Option ((Val aG)):=W5 a b some
def PB (b:Val Ä) (a:Val Ì) (c:Val Â) (k:Val Ķ→Option ρ):Option ρ :=
  Ã (oC b a) fun d=>Ã (tp b a) fun e=>Ã (GW d.1) fun h=>Ã (yU d.2) fun i=>ck (h.1+e.1) fun j=>ck (j-a.2.2.2.2.2.1) fun f=>ck (i.1+e.2) fun l=>ck (l+a.2.2.2.2.2.1) fun g=>ifb (igt f g) (k (((0:Int),(0:Int)),(5:Int))) (ck (c.1+f) fun m=>ck (c.2+g) fun n=>k ((m,n),(0:Int)))
def tm (a:Val Ä) (b:Val Ì) (c:Val Â):Option (Val Ķ):=PB a b c some
def De (g:Val Ä) (a:Val Ì) (k:Val Ķ→Option ρ):Option ρ :=
  Ã (oh g (a.1,a.2.1,a.2.2.1,a.2.2.2.1,(0:Int),a.2.2.2.2.2)) fun d=>ifb (ine d.2 0) (k (((0:Int),(0:Int)),d.2)) (Ã (GY d.1) fun b=>ck ((Ý b.2.2.1.2)-(2:Int)) fun c=>è ((ile 0 c)&&(ile c (č b.2.2.1.2))) (Ã (ŧ a.2.2.1 a.2.2.2.1) fun l=>Ã (gT b l a.2.1) fun h=>Ã (ŧ a.2.2.2.1 a.2.2.1) fun m=>Ã (gT b m a.2.1) fun i=>Ã (m5 (b.2.2.1.1,(List.take (Int.toNat c) b.2.2.1.2)) i h) fun e=>ifb (ine e.2 0) (k (((0:Int),(0:Int)),e.2)) (Ã (m5 (b.2.2.1.1,(List.take (Int.toNat c) b.2.2.1.2)) h i) fun f=>ifb (ine f.2 0) (k (((0:Int),(0:Int)),f.2)) (ck (0-f.1) fun n=>Ã (tm g (a.1,a.2.1,a.2.2.1,a.2.2.2.1,(0:Int),a.2.2.2.2.2) (n,e.1)) fun j=>k (j.1,j.2)))))
def vy (a:Val Ä) (b:Val Ì):Option (Val Ķ):=De a b some
def Pz (a:Val Ä) (b:Int) (k:(Val (.pair Ì tI))→Option ρ):Option ρ :=
  Ã (û a) fun c=>ifb (ine c 0) (k (((0:Int),(0:Int),[],[],(0:Int),(0:Int),(0:Int),(0:Int)),c)) (ifb (ilt b 0) (k (((0:Int),(0:Int),[],[],(0:Int),(0:Int),(0:Int),(0:Int)),(1:Int))) (ifb (ige b (Ý a.2.2.2.2.1)) (k (((0:Int),(0:Int),[],[],(0:Int),(0:Int),(0:Int),(0:Int)),(1:Int))) (ü a.2.2.2.2.1 b fun d=>k (d,(0:Int)))))
def GX (a:Val Ä) (b:Int):Option ((Val (.pair Ì tI))):=Pz a b some
def W7 (b:Val Ä) (c:Int) (k:Val Ķ→Option ρ):Option ρ :=
  Ã (GX b c) fun a=>ifb (ine a.2 0) (k (((0:Int),(0:Int)),a.2)) (Ã (vv b a.1) fun d=>k (d,(0:Int)))
def MG (a:Val Ä) (b:Int):Option (Val Ķ):=W7 a b some
def IZ (a:Val ae) (b:Val ae) (k:(Val (.pair ae aE))→Option ρ):Option ρ :=
  Ã (l5 a) fun c=>ifb (!c) (k ([],[],(1:Int))) (Ã (l5 b) fun d=>ifb (!d) (k ([],[],(1:Int))) (Ã (ŧ a b) fun e=>Ã (ŧ b a) fun f=>k (e,f,(0:Int))))
def tq (a:Val ae) (b:Val ae):Option ((Val (.pair ae aE))):=IZ a b some
def xS (a:Val ae) (b:Val ax) (c:(Val (.ptr Ì))) (k:Int→Option ρ):Option ρ :=
  ifb (ieq (Ý a) 0) (k (0:Int)) (ü a (0:Int) fun d=>Ã (ŵ b (d,c.2.1)) fun e=>k e)
def mX (a:Val ae) (b:Val ax) (c:(Val (.ptr Ì))):Option (Int):=xS a b c some
def xR (b:Int) (c:Int) (a:Val ax) (d:(Val (.ptr tI))) (e:Val aT) (f:(Val (.ptr tI))) (k:Val Ą→Option ρ):Option ρ :=
  Ã (Ć a b c) fun g=>Ã (Ć a d c) fun h=>ck (h+e.2) fun i=>Ã (Ć a b f) fun j=>ck (i+j) fun l=>Ã (Ć a f c) fun m=>ck (m-e.1) fun n=>Ã (Ć a b d) fun o=>ck (n+o) fun p=>k (g,l,p)
def mW (a:Int) (b:Int) (c:Val ax) (d:(Val (.ptr tI))) (e:Val aT) (f:(Val (.ptr tI))):Option (Val Ą):=xR a b c d e f some
def kI (f:Int) (g:Val aa) (h:Val ah) (i:Int) (a:Int) (b:Val ah) (c:Int→Val ah→Option ρ) (j:Val ah→Option ρ):Option ρ :=
  ifb (ilt a i) (ü h a fun d=>ü g a fun e=>ifb (!((ł e.1 (3:Int))&&((ł e.2 f)&&true))) (è (ç ((List.length b)+(List.length ([d])))) (ck (a+(1:Int)) fun k=>c k (b++([d])))) (ck (a+(1:Int)) fun l=>c l b)) (j b)
def Ig (f:Val ax) (o:Val Â) (a:Val Ì) (k:(Val (.pair Ŭ tI))→Option ρ):Option ρ :=
  Ã (vy f.1 a) fun e=>ifb (ine e.2 0) (k ((((0:Int),(0:Int)),((0:Int),(0:Int),(0:Int)),(0:Int),(0:Int),(0:Int)),e.2)) (Ã (oh f.1 (a.1,a.2.1,a.2.2.1,a.2.2.2.1,(0:Int),a.2.2.2.2.2)) fun b=>ifb (ine b.2 0) (k ((((0:Int),(0:Int)),((0:Int),(0:Int),(0:Int)),(0:Int),(0:Int),(0:Int)),b.2)) (ck ((Ý b.1.2.2.2.2.1)-(1:Int)) fun g=>Ã (MG b.1 g) fun h=>Ã (tq a.2.2.1 a.2.2.2.1) fun i=>Ã (Ġ b.1) fun c=>Ñ (fun(j:Val Í) p=>kI g c.2.1 c.1.2 (Ý c.1.2) j.1 j.2 (fun q r=>p (q,r)) (fun d=>Ã (mX i.1 (b.1,c.1.1,d) (a.1,a.2.1,a.2.2.1,a.2.2.2.1,(0:Int),a.2.2.2.2.2)) fun l=>Ã (mX i.2.1 (b.1,c.1.1,d) (a.1,a.2.1,a.2.2.1,a.2.2.2.1,(0:Int),a.2.2.2.2.2)) fun m=>Ã (ŵ (b.1,c.1.1,d) o) fun n=>Ã (mW n (0:Int) (b.1,c.1.1,d) m h.1 l) fun s=>Ã (mW (0:Int) n (b.1,c.1.1,d) m h.1 l) fun t=>k ((e.1,s,t),(0:Int)))) ((0:Int),[])))
def tf (a:Val ax) (b:Val Â) (c:Val Ì):Option ((Val (.pair Ŭ tI))):=Ig a b c some
def uf (a:Val Ą) (k:Val ae→Option ρ):Option ρ :=
  ck (a.2.2-a.2.1) fun c=>ck (Int.tdiv c (2:Int)) fun b=>ck (a.1-a.2.1) fun d=>ck (a.2.2-a.1) fun e=>ck (b-1) fun f=>ck (b+1) fun g=>k ([d,e,b,f,g])
def ii (a:Val Ą):Option ((Val ae)):=uf a some
def Ij (a:Val Ą) (b:Int) (k:Int→Option ρ):Option ρ :=
  ck (a.2.1+b) fun c=>ck (a.2.2-b) fun d=>k (Xj (Xj a.1 c) d)
def tg (a:Val Ą) (b:Int):Option (Int):=Ij a b some
def qX (a:Val Ŭ) (b:Int) (k:Val Â→Option ρ):Option ρ :=
  Ã (tg a.2.2 b) fun c=>ck (0-c) fun d=>Ã (tg a.2.1 b) fun e=>k (d,e)
def Ő (a:Val Ŭ) (b:Int):Option (Val Â):=qX a b some
def ω (d:Int) (e:Int) (f:Int) (a:Int) (b:Val ae) (c:Int→Val ae→Option ρ) (g:Val ae→Option ρ):Option ρ :=
  ck (d+(2:Int)) fun h=>ifb (ile a h) (ifb (igt a e) (ifb (ilt a f) (è (ç ((List.length b)+(List.length ([a])))) (ck (a+(1:Int)) fun i=>c i (b++([a])))) (ck (a+(1:Int)) fun j=>c j b)) (ck (a+(1:Int)) fun k=>c k b)) (g b)
def ja (e:Val ae) (f:Int) (g:Int) (h:Int) (a:Int) (b:Val ae) (i:Int→Val ae→Option ρ) (j:Val ae→Option ρ):Option ρ :=
  ifb (ilt a f) (ü e a fun c=>ck (c-(2:Int)) fun k=>Ñ (fun(d:Val ay) l=>ω c g h d.1 d.2 (fun m n=>l (m,n)) (fun o=>ck (a+(1:Int)) fun p=>i p o)) (k,b)) (j b)
def qY (a:Val Ŭ) (b:Val ae) (k:Val ae→Option ρ):Option ρ :=
  Ñ (fun(c:Val ay) d=>ja b (Ý b) a.1.1 a.1.2 c.1 c.2 (fun e f=>d (e,f)) (fun g=>k g)) ((0:Int),[a.1.1,a.1.2])
def jz (a:Val Ŭ) (b:Val ae):Option ((Val ae)):=qY a b some
def iF (d:Val ae) (e:Int) (f:Int) (g:Int) (h:Int) (i:Int) (j:Int) (k:Int) (l:Int) (m:Int) (b:Int) (a:Int) (n:Int→Int→Option ρ) (o:Int→Option ρ):Option ρ :=
  ifb (ilt a e) (ü d a fun p=>Ã (Ő ((f,g),(h,i,j),k,l,m) p) fun c=>ck (c.2-c.1) fun q=>ck (a+(1:Int)) fun r=>n (QY b q) r) (o b)
def oT (a:Val Ŭ) (k:Int→Option ρ):Option ρ :=
  Ã (ii a.2.1) fun d=>Ã (ii a.2.2) fun e=>Ã (ì ([d,e])) fun f=>Ã (jz a f) fun b=>Ñ (fun(c:Val Â) g=>iF b (Ý b) a.1.1 a.1.2 a.2.1.1 a.2.1.2.1 a.2.1.2.2 a.2.2.1 a.2.2.2.1 a.2.2.2.2 c.1 c.2 (fun h i=>g (h,i)) (fun j=>k j)) ((-1:Int),(0:Int))
def kR (a:Val Ŭ):Option (Int):=oT a some
def xV (m:Int) (j:Val aa) (b:Int) (c:Int) (d:Int) (e:Val ac) (f:Val aa) (g:Val af) (h:Val ab) (i:Val aa) (k:Int→Int→Int→Val ac→Val aa→Val af→Val ab→Val aa→Option ρ) (n:Val aC→Option ρ) (o:Val ai→Option ρ):Option ρ :=
  ifb (ilt b m) (è ((ile 0 b)&&(ilt b (č j))) (ľ j (Int.toNat b) fun l=>Ã (ŗ ((c,d),e,f,g,h,i) l) fun p=>ifb (ieq p.2 0) (ck (b+(1:Int)) fun q=>k q c d e f g h i) (Ã (ji ((c,d),e,f,g,h,i) l) fun a=>ifb (ine a.2 0) (n (a.2,c,d,e,f,g,h,i)) (ck (b+(1:Int)) fun r=>k r a.1.1.1 a.1.1.2 a.1.2.1 a.1.2.2.1 a.1.2.2.2.1 a.1.2.2.2.2.1 a.1.2.2.2.2.2)))) (o (c,d,e,f,g,h,i))
def OL (a:Val Ä) (e:Val Â) (i:Val Ì) (k:Val Â→Option ρ):Option ρ :=
  Ã (û a) fun f=>ifb (ine f 0) (è (ine f 0) (k ((0:Int),f))) (Ñ (fun(b:Val aC) j=>xV (Ý ([e])) ([e]) b.1 b.2.1 b.2.2.1 b.2.2.2.1 b.2.2.2.2.1 b.2.2.2.2.2.1 b.2.2.2.2.2.2.1 b.2.2.2.2.2.2.2 (fun l m n o p q r s=>j (l,m,n,o,p,q,r,s)) (fun h=>è (ine h.1 0) (k ((0:Int),h.1))) (fun c=>Ã (Ġ ((c.1,c.2.1),c.2.2)) fun d=>ifb (ine d.2.2 0) (è (ine d.2.2 0) (k ((0:Int),d.2.2))) (Ã (Đ d.1) fun t=>ifb (!t.1) (k ((0:Int),(9:Int))) (Ã (tf (((c.1,c.2.1),c.2.2),d.1) e i) fun g=>ifb (ine g.2 0) (k ((0:Int),g.2)) (Ã (kR g.1) fun u=>k (u,(0:Int))))))) ((0:Int),a.1.1,a.1.2,a.2.1,a.2.2.1,a.2.2.2.1,a.2.2.2.2.1,a.2.2.2.2.2))
def yP (a:Val Ä) (b:Val Â) (c:Val Ì):Option (Val Â):=OL a b c some
def uk (a:Int) (k:Int→Option ρ):Option ρ :=
  k (QY (-288230376151711744:Int) (Xj a (288230376151711744:Int)))
def kS (a:Int):Option (Int):=uk a some
def ug (a:Val Ą) (b:Int) (k:Val ae→Option ρ):Option ρ :=
  ck (b-a.2.1) fun c=>ck (a.2.2-b) fun d=>k ([c,d])
def ij (a:Val Ą) (b:Int):Option ((Val ae)):=ug a b some
def rf (m:Int) (j:Val aa) (b:Int) (c:Int) (d:Int) (e:Val ac) (f:Val aa) (g:Val af) (h:Val ab) (i:Val aa) (k:Int→Int→Int→Val ac→Val aa→Val af→Val ab→Val aa→Option ρ) (n:Val aC→Option ρ) (o:Val ai→Option ρ):Option ρ :=
  ifb (ilt b m) (è ((ile 0 b)&&(ilt b (č j))) (ľ j (Int.toNat b) fun l=>Ã (ŗ ((c,d),e,f,g,h,i) l) fun p=>ifb (ieq p.2 0) (ck (b+(1:Int)) fun q=>k q c d e f g h i) (Ã (ji ((c,d),e,f,g,h,i) l) fun a=>ifb (ine a.2 0) (n (a.2,c,d,e,f,g,h,i)) (ck (b+(1:Int)) fun r=>k r a.1.1.1 a.1.1.2 a.1.2.1 a.1.2.2.1 a.1.2.2.2.1 a.1.2.2.2.2.1 a.1.2.2.2.2.2)))) (o (c,d,e,f,g,h,i))
def mi (b:Val ae) (c:Int) (d:Int) (e:Int) (f:Int) (g:Int) (h:Int) (i:Int) (j:Int) (k:Int) (l:Int) (m:Int) (a:Int) (n:Int→Option ρ) (o:Int→Option ρ) (p:Unit→Option ρ):Option ρ :=
  ifb (ilt a c) (ü b a fun q=>Ã (Ő ((f,g),(h,i,j),k,l,m) q) fun r=>Ã (pu r (d,e)) fun s=>ifb (ieq s 3) (o a) (ck (a+(1:Int)) fun t=>n t)) (p ())
def CU (c:Val Ä) (g:Val Â) (b:Val Â) (n:Val Ì) (k:Val aW→Option ρ):Option ρ :=
  Ã (û c) fun h=>ifb (ine h 0) (ifb (ine h 0) (k (false,h)) (è (igt b.1 b.2) (k (false,(1:Int))))) (Ñ (fun(d:Val aC) o=>rf (Ý ([g])) ([g]) d.1 d.2.1 d.2.2.1 d.2.2.2.1 d.2.2.2.2.1 d.2.2.2.2.2.1 d.2.2.2.2.2.2.1 d.2.2.2.2.2.2.2 (fun p q r s t u v w=>o (p,q,r,s,t,u,v,w)) (fun l=>ifb (ine l.1 0) (k (false,l.1)) (è (igt b.1 b.2) (k (false,(1:Int))))) (fun e=>Ã (Ġ ((e.1,e.2.1),e.2.2)) fun f=>ifb (ine f.2.2 0) (ifb (ine f.2.2 0) (k (false,f.2.2)) (è (igt b.1 b.2) (k (false,(1:Int))))) (Ã (Đ f.1) fun x=>ifb (!x.1) (k (false,(9:Int))) (ifb (igt b.1 b.2) (k (false,(1:Int))) (Ã (tf (((e.1,e.2.1),e.2.2),f.1) g n) fun a=>ifb (ine a.2 0) (k (false,a.2)) (Ã (ii a.1.2.1) fun y=>Ã (ii a.1.2.2) fun z=>Ã (ì ([y,z])) fun A=>Ã (kS b.1) fun i=>Ã (kS b.2) fun j=>Ã (ij a.1.2.1 i) fun B=>ck (0-i) fun C=>Ã (ij a.1.2.2 C) fun D=>Ã (ì ([A,B,D])) fun E=>Ã (ij a.1.2.1 j) fun F=>ck (0-j) fun G=>Ã (ij a.1.2.2 G) fun H=>Ã (ì ([E,F,H])) fun I=>Ã (jz a.1 I) fun m=>Ñ (fun(J:Int) K=>mi m (Ý m) i j a.1.1.1 a.1.1.2 a.1.2.1.1 a.1.2.1.2.1 a.1.2.1.2.2 a.1.2.2.1 a.1.2.2.2.1 a.1.2.2.2.2 J (fun L=>K L) (fun M=>k ((!(ige M 0)),(0:Int))) (fun _=>k (true,(0:Int)))) (0:Int))))))) ((0:Int),c.1.1,c.1.2,c.2.1,c.2.2.1,c.2.2.2.1,c.2.2.2.2.1,c.2.2.2.2.2))
def pw (a:Val Ä) (b:Val Â) (c:Val Â) (d:Val Ì):Option ((Val aW)):=CU a b c d some
def Kl (d:Int) (c:Int) (e:Val ah) (a:Int) (b:Val aQ) (f:Int→Val aQ→Option ρ) (g:Val aQ→Option ρ):Option ρ :=
  ifb (ilt a d) (Ã (yQ (c,e) a c) fun h=>è ((ile 0 a)&&(ilt a (č b))) (ľ b (Int.toNat a) fun j=>ck (a+(1:Int)) fun i=>f i (List.set b (Int.toNat a) h))) (g b)
def Kh (g:Int) (h:Val am) (j:Val ah) (k:Int) (e:Int) (b:Int) (a:Int) (c:Val ae) (f:Int→Int→Int→Val ae→Option ρ) (i:(Val (.pair tI ay))→Option ρ):Option ρ :=
  ifb (ilt a k) (ü j a fun d=>ifb (ieq d.1 e) (ck (g-(1:Int)) fun l=>ü h l fun m=>ü m d.2.1 fun n=>ifb (ine n 1152921504606846976) (ck (b+d.2.2) fun o=>ck (g-(1:Int)) fun p=>ü h p fun q=>ü q d.2.1 fun r=>ck (o+r) fun s=>ifb (ilt s 0) (è (ç ((List.length c)+(List.length ([a])))) (ck (b+d.2.2) fun t=>i (d.2.1,t,(c++([a]))))) (ck (a+(1:Int)) fun u=>f e b u c)) (ck (a+(1:Int)) fun v=>f e b v c)) (ck (a+(1:Int)) fun w=>f e b w c)) (i (e,b,c))
def Ki (f:Val am) (d:Val ah) (g:Int) (b:Int) (h:Int) (e:Val ae) (i:Int→Int→Int→Val ae→Option ρ) (j:Val ae→Option ρ):Option ρ :=
  ifb (igt b 0) (Ñ (fun(a:Val aI) k=>Kh b f d (Ý d) a.1 a.2.1 a.2.2.1 a.2.2.2 (fun l m n o=>k (l,m,n,o)) (fun c=>ck (b-(1:Int)) fun p=>i c.1 p c.2.1 c.2.2)) (g,h,(0:Int),e)) (j e)
def Kj (e:Int) (h:Val ah) (i:Int) (j:Int) (k:Val ah) (b:Val aQ) (c:Int) (f:Int→Option ρ) (l:Unit→Option ρ) (m:Val ay→Option ρ) (n:Unit→Option ρ):Option ρ :=
  ifb (ilt c i) (ü h c fun a=>è ((ile 0 a.1)&&(ilt a.1 (č b))) (ľ b (Int.toNat a.1) fun o=>ck (e-(1:Int)) fun p=>ü o p fun q=>ü q a.2.1 fun g=>ifb (ieq g 1152921504606846976) (ck (c+(1:Int)) fun r=>f r) (ck (a.2.2+g) fun s=>ifb (ige s 0) (ck (c+(1:Int)) fun t=>f t) (ifb (igt e j) (l ()) (è ((ile 0 a.1)&&(ilt a.1 (č b))) (ľ b (Int.toNat a.1) fun u=>Ñ (fun(d:Val aI) v=>Ki u k d.1 d.2.1 d.2.2.1 d.2.2.2 (fun w x y z=>v (w,x,y,z)) (fun A=>m ((0:Int),A))) (a.1,e,(0:Int),[]))))))) (n ())
def Kk (d:Int) (a:Val ah) (e:Val aQ) (b:Int) (f:Int→Option ρ) (g:Unit→Option ρ) (h:Val ay→Option ρ):Option ρ :=
  Ñ (fun(i:Int) j=>Kj b a (Ý a) d a e i (fun k=>j k) (fun _=>g ()) (fun c=>h (c.1,c.2)) (fun _=>ck (b+(1:Int)) fun l=>f l)) (0:Int)
def O9 (a:Val Í) (k:Val aE→Option ρ):Option ρ :=
  Ã (mZ a) fun b=>ifb (ine b.1 0) (k ([],b.1)) (Ã (iV a ([])) fun e=>ifb e.2 (k ([],(5:Int))) (è ((ile 0 a.1)&&(ç (Int.toNat a.1))) (Ñ (fun(c:(Val (.pair tI aQ))) f=>Kl (Ý (List.replicate (Int.toNat a.1) ([]:Val am))) a.1 a.2 c.1 c.2 (fun g h=>f (g,h)) (fun i=>Ñ (fun(j:Int) l=>Kk a.1 a.2 i j (fun m=>l m) (fun _=>k ([],(5:Int))) (fun d=>k (d.2,d.1))) (1:Int))) ((0:Int),(List.replicate (Int.toNat a.1) ([]:Val am))))))
def yS (a:Val Í):Option ((Val aE)):=O9 a some
def OU (a:Val Ä) (k:(Val (.pair ε tI))→Option ρ):Option ρ :=
  Ã (Ġ a) fun b=>ifb (ine b.2.2 0) (k (((((0:Int),(0:Int)),[],[],[],[],[]),((0:Int),(0:Int)),false,(0:Int),[]),b.2.2)) (Ã (yS b.1) fun c=>ifb (ine c.2 0) (k (((((0:Int),(0:Int)),[],[],[],[],[]),((0:Int),(0:Int)),false,(0:Int),[]),c.2)) (Ã (pv a c.1) fun f=>Ã (Qf a f ([])) fun e=>Ã (Ġ e) fun g=>Ã (yS g.1) fun d=>ifb (ine d.2 0) (k (((((0:Int),(0:Int)),[],[],[],[],[]),((0:Int),(0:Int)),false,(0:Int),[]),d.2)) (k ((e,((0:Int),(0:Int)),false,(0:Int),d.1),(0:Int)))))
def GS (a:Val Ä):Option ((Val (.pair ε tI))):=OU a some
def wZ (k:Val Ä→Option ρ):Option ρ :=
  k (((0:Int),(2:Int)),[((1:Int),(0:Int),(1000:Int),((-5:Int),(5:Int)),((1:Int),(10:Int)),(1:Int)),((2:Int),(0:Int),(1000:Int),((-50:Int),(50:Int)),((1:Int),(4:Int)),(0:Int))],[((1:Int),(10:Int))],[((1:Int),((20:Int),(29:Int)),(3:Int))],[((7:Int),(10:Int),[(1:Int)],[(2:Int)],(-20:Int),(1:Int),(100:Int),(200:Int))],[])
def yM:Option (Val Ä):=wZ some
def V5 (a:Val ae) (b:Int) (k:Bool→Option ρ):Option ρ :=
  Ã (tq a ([])) fun c=>ifb (ieq c.2.2 0) (k (ile (Ý a) b)) (k false)
def ME (a:Val ae) (b:Int):Option (Bool):=V5 a b some
def OH (a:Int) (k:Bool→Option ρ):Option ρ :=
  ifb (ige a 0) (k (ile a 20000)) (k false)
def GQ (a:Int):Option (Bool):=OH a some
def qm (c:Int) (e:Val ae) (f:Int) (a:Int) (b:Val aa) (g:Int→Val aa→Option ρ) (h:Val aa→Option ρ):Option ρ :=
  ifb (ilt a f) (ü e a fun d=>è (ç ((List.length b)+(List.length ([(d,c)])))) (ck (a+(1:Int)) fun i=>g i (b++([(d,c)])))) (h b)
def OC (c:Int) (d:Val am) (k:Val aa→Option ρ):Option ρ :=
  Ã (ì d) fun a=>Ñ (fun(b:Val aF) e=>qm c a (Ý a) b.1 b.2 (fun f g=>e (f,g)) (fun h=>k h)) ((0:Int),[])
def GP (a:Int) (b:Val am):Option ((Val aa)):=OC a b some
def uq (l:Val aa) (m:Int) (i:Int) (b:Int) (c:Int) (d:Val ac) (e:Val aa) (f:Val af) (g:Val ab) (h:Val aa) (j:Int→Int→Int→Val ac→Val aa→Val af→Val ab→Val aa→Option ρ) (n:Val aC→Option ρ) (o:Val ai→Option ρ):Option ρ :=
  ifb (ilt i m) (ü l i fun k=>Ã (ŗ ((b,c),d,e,f,g,h) k) fun p=>ifb (ieq p.2 0) (ck (i+(1:Int)) fun q=>j q b c d e f g h) (Ã (ji ((b,c),d,e,f,g,h) k) fun a=>ifb (ine a.2 0) (n (a.2,b,c,d,e,f,g,h)) (ck (i+(1:Int)) fun r=>j r a.1.1.1 a.1.1.2 a.1.2.1 a.1.2.2.1 a.1.2.2.2.1 a.1.2.2.2.2.1 a.1.2.2.2.2.2))) (o (b,c,d,e,f,g,h))
def un (e:Val ax) (f:Val aa) (g:Int) (a:Int) (b:Int) (c:Int) (h:Int→Int→Int→Option ρ) (i:Val Â→Option ρ):Option ρ :=
  ifb (ilt a g) (ü f a fun j=>Ã (ū e j) fun d=>ck (b+d.1) fun k=>ck (c+d.2) fun l=>ck (a+(1:Int)) fun m=>h m k l) (i (b,c))
def Wm (a:Val Ä) (i:Int) (c:Val ae) (k:Val Ķ→Option ρ):Option ρ :=
  Ã (û a) fun j=>ifb (ine j 0) (k (((0:Int),(0:Int)),j)) (ifb (ieq (Ý c) 0) (k (((0:Int),(0:Int)),(1:Int))) (Ã (ME c (6:Int)) fun q=>ifb (!q) (k (((0:Int),(0:Int)),(1:Int))) (Ã (GQ i) fun r=>ifb (!r) (k (((0:Int),(0:Int)),(1:Int))) (Ã (GP i ([c])) fun f=>Ã (û a) fun g=>ifb (ine g 0) (ifb (ine g 0) (k (((0:Int),(0:Int)),g)) (ck ((Ý c)-(1:Int)) fun l=>ck (l*a.1.1) fun J=>ck (l*a.1.2) fun K=>none)) (Ñ (fun(b:Val aC) s=>uq f (Ý f) b.1 b.2.1 b.2.2.1 b.2.2.2.1 b.2.2.2.2.1 b.2.2.2.2.2.1 b.2.2.2.2.2.2.1 b.2.2.2.2.2.2.2 (fun t u v w x y z A=>s (t,u,v,w,x,y,z,A)) (fun m=>ifb (ine m.1 0) (k (((0:Int),(0:Int)),m.1)) (ck ((Ý c)-(1:Int)) fun n=>ck (n*a.1.1) fun L=>ck (n*a.1.2) fun M=>none)) (fun d=>Ã (Ġ ((d.1,d.2.1),d.2.2)) fun e=>ifb (ine e.2.2 0) (ifb (ine e.2.2 0) (k (((0:Int),(0:Int)),e.2.2)) (ck ((Ý c)-(1:Int)) fun o=>ck (o*a.1.1) fun N=>ck (o*a.1.2) fun O=>none)) (Ã (Đ e.1) fun B=>ifb (!B.1) (k (((0:Int),(0:Int)),(9:Int))) (ck ((Ý c)-(1:Int)) fun p=>ck (p*a.1.1) fun C=>ck (p*a.1.2) fun D=>Ñ (fun(h:Val Ą) E=>un (((d.1,d.2.1),d.2.2),e.1) f (Ý f) h.1 h.2.1 h.2.2 (fun F G H=>E (F,G,H)) (fun I=>k (I,(0:Int)))) ((0:Int),C,D))))) ((0:Int),a.1.1,a.1.2,a.2.1,a.2.2.1,a.2.2.2.1,a.2.2.2.2.1,a.2.2.2.2.2))))))
def MF (a:Val Ä) (b:Int) (c:Val ae):Option (Val Ķ):=Wm a b c some
def rq (a:Val Í) (b:Val ae) (k:Int→Option ρ):Option ρ :=
  Ã (mZ a) fun d=>ifb (ine d.1 0) (k d.1) (Ã (pz a b) fun e=>ifb (ine e 0) (k e) (ifb (ieq (Ý b) 0) (k (8:Int)) (ü b (0:Int) fun g=>ü a.2 g fun f=>Ã (GU a f.1 b) fun c=>ifb (!c.2.2) (k (8:Int)) (ifb (ine c.1 f.1) (k (8:Int)) (ifb (ige c.2.1 0) (k (8:Int)) (k (0:Int)))))))
def mn (a:Val Í) (b:Val ae):Option (Int):=rq a b some
def ri (a:Val ε) (k:Int→Option ρ):Option ρ :=
  Ã (û a.1) fun b=>ifb (ine b 0) (k b) (ifb (!((ł a.2.1.1 (0:Int))&&((ł a.2.1.2 (0:Int))&&true))) (k (1:Int)) (ifb a.2.2.1 (k (1:Int)) (ifb (ine a.2.2.2.1 0) (k (1:Int)) (Ã (Ġ a.1) fun c=>Ã (mn c.1 a.2.2.2.2) fun d=>ifb (ine d 0) (k (8:Int)) (k (0:Int))))))
def mm (a:Val ε):Option (Int):=ri a some
def þ (c:Val ac) (d:Int) (e:Int) (f:Int) (g:Int) (h:Int) (i:Int) (j:Int) (k:Int) (l:Int) (b:Int) (m:Int→Option ρ) (n:Int→Option ρ) (o:Unit→Option ρ):Option ρ :=
  ifb (ilt b d) (ü c b fun a=>ifb ((ł e a.1)&&((ł f a.2.1)&&((ł g a.2.2.1)&&((ł h a.2.2.2.1.1)&&((ł i a.2.2.2.1.2)&&((ł j a.2.2.2.2.1.1)&&((ł k a.2.2.2.2.1.2)&&((ł l a.2.2.2.2.2)&&true)))))))) (n b) (ck (b+(1:Int)) fun p=>m p)) (o ())
def Ţ (b:Val ac) (a:Val Ð) (k:Int→Option ρ):Option ρ :=
  Ñ (fun(c:Int) d=>þ b (Ý b) a.1 a.2.1 a.2.2.1 a.2.2.2.1.1 a.2.2.2.1.2 a.2.2.2.2.1.1 a.2.2.2.2.1.2 a.2.2.2.2.2 c (fun e=>d e) (fun f=>k f) (fun _=>k (-1:Int))) (0:Int)
def ţ (a:Val ac) (b:Val Ð):Option (Int):=Ţ a b some
def Ń (a:Val ac) (b:Val Ð) (k:Bool→Option ρ):Option ρ :=
  Ã (ţ a b) fun c=>k (ige c 0)
def ě (a:Val ac) (b:Val Ð):Option (Bool):=Ń a b some
def Ĕ (c:Val aa) (d:Int) (e:Int) (f:Int) (a:Int) (g:Int→Option ρ) (h:Int→Option ρ) (i:Unit→Option ρ):Option ρ :=
  ifb (ilt a d) (ü c a fun b=>ifb ((ł e b.1)&&((ł f b.2)&&true)) (h a) (ck (a+(1:Int)) fun j=>g j)) (i ())
def Τ (a:Val aa) (b:Val Â) (k:Int→Option ρ):Option ρ :=
  Ñ (fun(c:Int) d=>Ĕ a (Ý a) b.1 b.2 c (fun e=>d e) (fun f=>k f) (fun _=>k (-1:Int))) (0:Int)
def Χ (a:Val aa) (b:Val Â):Option (Int):=Τ a b some
def ť (a:Val aa) (b:Val Â) (k:Bool→Option ρ):Option ρ :=
  Ã (Χ a b) fun c=>k (ige c 0)
def ė (a:Val aa) (b:Val Â):Option (Bool):=ť a b some
def ĉ (c:Val af) (d:Int) (e:Int) (f:Int) (g:Int) (h:Int) (a:Int) (i:Int→Option ρ) (j:Int→Option ρ) (k:Unit→Option ρ):Option ρ :=
  ifb (ilt a d) (ü c a fun b=>ifb ((ł e b.1)&&((ł f b.2.1.1)&&((ł g b.2.1.2)&&((ł h b.2.2)&&true)))) (j a) (ck (a+(1:Int)) fun l=>i l)) (k ())
def Ų (b:Val af) (a:Val ņ) (k:Int→Option ρ):Option ρ :=
  Ñ (fun(c:Int) d=>ĉ b (Ý b) a.1 a.2.1.1 a.2.1.2 a.2.2 c (fun e=>d e) (fun f=>k f) (fun _=>k (-1:Int))) (0:Int)
def Ŵ (a:Val af) (b:Val ņ):Option (Int):=Ų a b some
def Ŕ (a:Val af) (b:Val ņ) (k:Bool→Option ρ):Option ρ :=
  Ã (Ŵ a b) fun c=>k (ige c 0)
def Ċ (a:Val af) (b:Val ņ):Option (Bool):=Ŕ a b some
def ue (c:Val ac) (d:Int) (a:Int) (b:Val ak) (e:Int→Val ak→Option ρ) (f:Val ak→Option ρ):Option ρ :=
  ifb (ilt a d) (ü c a fun g=>ck (a+(1:Int)) fun h=>e h (Mo (k:=tI) (v:=.bool) g.1 true b)) (f b)
def lR (b:Val ae) (c:Val ae) (d:Int) (a:Int) (e:Int→Option ρ) (f:Bool→Option ρ) (g:Unit→Option ρ):Option ρ :=
  ifb (ilt a d) (ü b a fun h=>ü c a fun i=>ifb (ine h i) (f false) (ck (a+(1:Int)) fun j=>e j)) (g ())
def ud (b:Val ae) (c:Val ae) (d:Int) (a:Int) (e:Int→Option ρ) (f:Bool→Option ρ) (g:Unit→Option ρ):Option ρ :=
  ifb (ilt a d) (ü b a fun h=>ü c a fun i=>ifb (ine h i) (f false) (ck (a+(1:Int)) fun j=>e j)) (g ())
def oZ (g:Val ab) (h:Int) (i:Int) (j:Int) (f:Val ae) (d:Val ae) (k:Int) (l:Int) (m:Int) (n:Int) (a:Int) (c:Int→Option ρ) (e:Int→Option ρ) (o:Unit→Option ρ):Option ρ :=
  ifb (ilt a h) (ü g a fun b=>ifb (ieq i b.1) (ifb (ieq j b.2.1) (ifb (ieq k b.2.2.2.2.1) (ifb (ieq l b.2.2.2.2.2.1) (ifb ((ł m b.2.2.2.2.2.2.1)&&((ł n b.2.2.2.2.2.2.2)&&true)) (ifb (ine (Ý f) (Ý b.2.2.1)) (ck (a+(1:Int)) fun p=>c p) (Ñ (fun(q:Int) r=>lR f b.2.2.1 (Ý f) q (fun s=>r s) (fun t=>ifb t (ifb (ine (Ý d) (Ý b.2.2.2.1)) (ck (a+(1:Int)) fun u=>c u) (Ñ (fun(v:Int) w=>ud d b.2.2.2.1 (Ý d) v (fun x=>w x) (fun y=>ifb y (e a) (ck (a+(1:Int)) fun z=>c z)) (fun _=>e a)) (0:Int))) (ck (a+(1:Int)) fun A=>c A)) (fun _=>ifb (ine (Ý d) (Ý b.2.2.2.1)) (ck (a+(1:Int)) fun B=>c B) (Ñ (fun(C:Int) D=>ud d b.2.2.2.1 (Ý d) C (fun E=>D E) (fun F=>ifb F (e a) (ck (a+(1:Int)) fun G=>c G)) (fun _=>e a)) (0:Int)))) (0:Int))) (ck (a+(1:Int)) fun H=>c H)) (ck (a+(1:Int)) fun I=>c I)) (ck (a+(1:Int)) fun J=>c J)) (ck (a+(1:Int)) fun K=>c K)) (ck (a+(1:Int)) fun L=>c L)) (o ())
def o8 (e:Val ab) (f:Int) (c:Val ab) (b:Int) (g:Int→Option ρ) (d:Bool→Option ρ) (h:Unit→Option ρ):Option ρ :=
  ifb (ilt b f) (ü e b fun a=>Ñ (fun(i:Int) j=>oZ c (Ý c) a.1 a.2.1 a.2.2.1 a.2.2.2.1 a.2.2.2.2.1 a.2.2.2.2.2.1 a.2.2.2.2.2.2.1 a.2.2.2.2.2.2.2 i (fun k=>j k) (fun l=>ifb (!(ige l 0)) (d false) (ck (b+(1:Int)) fun m=>g m)) (fun _=>d false)) (0:Int)) (h ())
def oY (b:Val ac) (c:Int) (d:Val ac) (a:Int) (e:Int→Option ρ) (f:Int→Option ρ) (g:Unit→Option ρ):Option ρ :=
  ifb (ilt a c) (ü b a fun h=>Ã (ě d h) fun i=>ifb (!i) (f a) (ck (a+(1:Int)) fun j=>e j)) (g ())
def jR (d:Val aa) (e:Int) (f:Val ak) (g:Val aa) (a:Int) (b:Int→Option ρ) (h:Int→Option ρ) (i:Unit→Option ρ):Option ρ :=
  ifb (ilt a e) (ü d a fun c=>X2 (k:=tI) (v:=.bool) c.1 f (fun j=>ifb j (Ã (ė g c) fun l=>ifb (!l) (h a) (ck (a+(1:Int)) fun m=>b m)) (ck (a+(1:Int)) fun n=>b n)) (ck (a+(1:Int)) fun o=>b o)) (i ())
def lQ (d:Val aa) (e:Int) (f:Val ak) (g:Val aa) (a:Int) (b:Int→Option ρ) (h:Int→Option ρ) (i:Unit→Option ρ):Option ρ :=
  ifb (ilt a e) (ü d a fun c=>X2 (k:=tI) (v:=.bool) c.1 f (fun j=>ifb j (Ã (ė g c) fun l=>ifb (!l) (h a) (ck (a+(1:Int)) fun m=>b m)) (ck (a+(1:Int)) fun n=>b n)) (ck (a+(1:Int)) fun o=>b o)) (i ())
def Ĺ (d:Val af) (e:Int) (f:Val ak) (g:Val af) (a:Int) (b:Int→Option ρ) (h:Int→Option ρ) (i:Unit→Option ρ):Option ρ :=
  ifb (ilt a e) (ü d a fun c=>X2 (k:=tI) (v:=.bool) c.1 f (fun j=>ifb j (Ã (Ċ g c) fun l=>ifb (!l) (h a) (ck (a+(1:Int)) fun m=>b m)) (ck (a+(1:Int)) fun n=>b n)) (ck (a+(1:Int)) fun o=>b o)) (i ())
def Ē (d:Val af) (e:Int) (f:Val ak) (g:Val af) (a:Int) (b:Int→Option ρ) (h:Int→Option ρ) (i:Unit→Option ρ):Option ρ :=
  ifb (ilt a e) (ü d a fun c=>X2 (k:=tI) (v:=.bool) c.1 f (fun j=>ifb j (Ã (Ċ g c) fun l=>ifb (!l) (h a) (ck (a+(1:Int)) fun m=>b m)) (ck (a+(1:Int)) fun n=>b n)) (ck (a+(1:Int)) fun o=>b o)) (i ())
def V6 (b:Val Ä) (a:Val Ä) (k:Bool→Option ρ):Option ρ :=
  Ñ (fun(d:(Val (.pair tI ak))) e=>ue b.2.1 (Ý b.2.1) d.1 d.2 (fun f g=>e (f,g)) (fun c=>Ñ (fun(h:Int) i=>o8 b.2.2.2.2.1 (Ý b.2.2.2.2.1) a.2.2.2.2.1 h (fun j=>i j) (fun l=>k l) (fun _=>ifb ((ł b.1.1 a.1.1)&&((ł b.1.2 a.1.2)&&true)) (Ñ (fun(m:Int) n=>oY b.2.1 (Ý b.2.1) a.2.1 m (fun o=>n o) (fun p=>ifb (!(ige p 0)) (Ñ (fun(q:Int) r=>jR b.2.2.1 (Ý b.2.2.1) c a.2.2.1 q (fun s=>r s) (fun t=>ifb (!(ige t 0)) (Ñ (fun(u:Int) v=>lQ a.2.2.1 (Ý a.2.2.1) c b.2.2.1 u (fun w=>v w) (fun x=>ifb (!(ige x 0)) (Ñ (fun(y:Int) z=>Ĺ b.2.2.2.1 (Ý b.2.2.2.1) c a.2.2.2.1 y (fun A=>z A) (fun B=>ifb (!(ige B 0)) (Ñ (fun(C:Int) D=>Ē a.2.2.2.1 (Ý a.2.2.2.1) c b.2.2.2.1 C (fun E=>D E) (fun F=>k (!(ige F 0))) (fun _=>k true)) (0:Int)) (k false)) (fun _=>Ñ (fun(G:Int) H=>Ē a.2.2.2.1 (Ý a.2.2.2.1) c b.2.2.2.1 G (fun I=>H I) (fun J=>k (!(ige J 0))) (fun _=>k true)) (0:Int))) (0:Int)) (k false)) (fun _=>Ñ (fun(K:Int) L=>Ĺ b.2.2.2.1 (Ý b.2.2.2.1) c a.2.2.2.1 K (fun M=>L M) (fun N=>ifb (!(ige N 0)) (Ñ (fun(O:Int) P=>Ē a.2.2.2.1 (Ý a.2.2.2.1) c b.2.2.2.1 O (fun Q=>P Q) (fun R=>k (!(ige R 0))) (fun _=>k true)) (0:Int)) (k false)) (fun _=>Ñ (fun(S:Int) T=>Ē a.2.2.2.1 (Ý a.2.2.2.1) c b.2.2.2.1 S (fun U=>T U) (fun V=>k (!(ige V 0))) (fun _=>k true)) (0:Int))) (0:Int))) (0:Int)) (k false)) (fun _=>Ñ (fun(W:Int) X=>lQ a.2.2.1 (Ý a.2.2.1) c b.2.2.1 W (fun Y=>X Y) (fun Z=>ifb (!(ige Z 0)) (Ñ (fun(dc:Int) df=>Ĺ b.2.2.2.1 (Ý b.2.2.2.1) c a.2.2.2.1 dc (fun dg=>df dg) (fun dh=>ifb (!(ige dh 0)) (Ñ (fun(di:Int) dj=>Ē a.2.2.2.1 (Ý a.2.2.2.1) c b.2.2.2.1 di (fun dk=>dj dk) (fun dl=>k (!(ige dl 0))) (fun _=>k true)) (0:Int)) (k false)) (fun _=>Ñ (fun(dm:Int) dn=>Ē a.2.2.2.1 (Ý a.2.2.2.1) c b.2.2.2.1 dm (fun dt=>dn dt) (fun du=>k (!(ige du 0))) (fun _=>k true)) (0:Int))) (0:Int)) (k false)) (fun _=>Ñ (fun(dv:Int) dw=>Ĺ b.2.2.2.1 (Ý b.2.2.2.1) c a.2.2.2.1 dv (fun dz=>dw dz) (fun d8=>ifb (!(ige d8 0)) (Ñ (fun(d9:Int) ee=>Ē a.2.2.2.1 (Ý a.2.2.2.1) c b.2.2.2.1 d9 (fun eh=>ee eh) (fun ej=>k (!(ige ej 0))) (fun _=>k true)) (0:Int)) (k false)) (fun _=>Ñ (fun(eo:Int) er=>Ē a.2.2.2.1 (Ý a.2.2.2.1) c b.2.2.2.1 eo (fun ew=>er ew) (fun ez=>k (!(ige ez 0))) (fun _=>k true)) (0:Int))) (0:Int))) (0:Int))) (0:Int)) (k false)) (fun _=>Ñ (fun(fc:Int) fe=>jR b.2.2.1 (Ý b.2.2.1) c a.2.2.1 fc (fun ff=>fe ff) (fun fg=>ifb (!(ige fg 0)) (Ñ (fun(fh:Int) fi=>lQ a.2.2.1 (Ý a.2.2.1) c b.2.2.1 fh (fun fj=>fi fj) (fun fk=>ifb (!(ige fk 0)) (Ñ (fun(fm:Int) fo=>Ĺ b.2.2.2.1 (Ý b.2.2.2.1) c a.2.2.2.1 fm (fun fp=>fo fp) (fun fq=>ifb (!(ige fq 0)) (Ñ (fun(ft:Int) fu=>Ē a.2.2.2.1 (Ý a.2.2.2.1) c b.2.2.2.1 ft (fun f0=>fu f0) (fun f5=>k (!(ige f5 0))) (fun _=>k true)) (0:Int)) (k false)) (fun _=>Ñ (fun(f6:Int) f7=>Ē a.2.2.2.1 (Ý a.2.2.2.1) c b.2.2.2.1 f6 (fun f8=>f7 f8) (fun f9=>k (!(ige f9 0))) (fun _=>k true)) (0:Int))) (0:Int)) (k false)) (fun _=>Ñ (fun(gc:Int) gd=>Ĺ b.2.2.2.1 (Ý b.2.2.2.1) c a.2.2.2.1 gc (fun gg=>gd gg) (fun gh=>ifb (!(ige gh 0)) (Ñ (fun(gi:Int) gj=>Ē a.2.2.2.1 (Ý a.2.2.2.1) c b.2.2.2.1 gi (fun gk=>gj gk) (fun gn=>k (!(ige gn 0))) (fun _=>k true)) (0:Int)) (k false)) (fun _=>Ñ (fun(gp:Int) gq=>Ē a.2.2.2.1 (Ý a.2.2.2.1) c b.2.2.2.1 gp (fun gr=>gq gr) (fun gu=>k (!(ige gu 0))) (fun _=>k true)) (0:Int))) (0:Int))) (0:Int)) (k false)) (fun _=>Ñ (fun(gw:Int) gx=>lQ a.2.2.1 (Ý a.2.2.1) c b.2.2.1 gw (fun gy=>gx gy) (fun g8=>ifb (!(ige g8 0)) (Ñ (fun(g9:Int) ic=>Ĺ b.2.2.2.1 (Ý b.2.2.2.1) c a.2.2.2.1 g9 (fun ig=>ic ig) (fun ii=>ifb (!(ige ii 0)) (Ñ (fun(ij:Int) ik=>Ē a.2.2.2.1 (Ý a.2.2.2.1) c b.2.2.2.1 ij (fun il=>ik il) (fun ip=>k (!(ige ip 0))) (fun _=>k true)) (0:Int)) (k false)) (fun _=>Ñ (fun(iq:Int) ir=>Ē a.2.2.2.1 (Ý a.2.2.2.1) c b.2.2.2.1 iq (fun iu=>ir iu) (fun iv=>k (!(ige iv 0))) (fun _=>k true)) (0:Int))) (0:Int)) (k false)) (fun _=>Ñ (fun(iw:Int) ix=>Ĺ b.2.2.2.1 (Ý b.2.2.2.1) c a.2.2.2.1 iw (fun iy=>ix iy) (fun iz=>ifb (!(ige iz 0)) (Ñ (fun(i5:Int) i6=>Ē a.2.2.2.1 (Ý a.2.2.2.1) c b.2.2.2.1 i5 (fun i7=>i6 i7) (fun i8=>k (!(ige i8 0))) (fun _=>k true)) (0:Int)) (k false)) (fun _=>Ñ (fun(i9:Int) ja=>Ē a.2.2.2.1 (Ý a.2.2.2.1) c b.2.2.2.1 i9 (fun jb=>ja jb) (fun jc=>k (!(ige jc 0))) (fun _=>k true)) (0:Int))) (0:Int))) (0:Int))) (0:Int))) (0:Int)) (k false))) (0:Int))) ((0:Int),[])
def GO (a:Val Ä) (b:Val Ä):Option (Bool):=V6 a b some
def Il (b:Val Ä) (a:Val ε) (k:Val aW→Option ρ):Option ρ :=
  Ã (û b) fun c=>ifb (ine c 0) (k (false,c)) (ifb ((ł a.2.1.1 (0:Int))&&((ł a.2.1.2 (0:Int))&&true)) (Ã (mm a) fun d=>ifb (ine d 0) (k (false,d)) (Ã (GO a.1 b) fun f=>k (f,(0:Int)))) (Ã (kT a) fun e=>ifb (ine e 0) (k (false,e)) (Ã (GO a.1 b) fun g=>k (g,(0:Int)))))
def zR (a:Val Ä) (b:Val ε):Option ((Val aW)):=Il a b some
def Cr (k:Bool→Option ρ):Option ρ :=
  Ã yM fun a=>Ã (mY a ((2:Int),(10:Int))) fun c=>Ã (mY a ((1:Int),(30:Int))) fun d=>Ã (vu a ((1:Int),(10:Int)) ((2:Int),(10:Int))) fun e=>Ã (MF a (10:Int) ([(1:Int),(2:Int)])) fun f=>Ã (GR a ((2:Int),(0:Int)) ((990:Int),(1010:Int))) fun g=>Ã (vt a ((2:Int),(10:Int)) true) fun b=>ifb (ine c.2 0) (k false) (ifb (ine d.2 0) (k false) (ifb (ine e.2 0) (k false) (ifb (ine f.2 0) (k false) (ifb (ine g.2 0) (k false) (ifb (ine b.2 0) (k false) (ifb (!((ł c.1.1 (984:Int))&&((ł c.1.2 (1011:Int))&&true))) (k false) (ifb (!((ł d.1.1 (964:Int))&&((ł d.1.2 (1005:Int))&&true))) (k false) (ifb (!((ł e.1.1 (-6:Int))&&((ł e.1.2 (11:Int))&&true))) (k false) (ifb (!((ł f.1.1 (1979:Int))&&((ł f.1.2 (2018:Int))&&true))) (k false) (ifb (ine g.1 3) (k false) (ifb (ine b.1.2.2.2.1 1011) (k false) (Ã (yP a ((2:Int),(10:Int)) ((8:Int),(10:Int),[(1:Int)],[(2:Int)],(0:Int),(0:Int),(0:Int),(0:Int))) fun h=>Ã (pw a ((2:Int),(10:Int)) ((900:Int),(1100:Int)) ((8:Int),(10:Int),[(1:Int)],[(2:Int)],(0:Int),(0:Int),(0:Int),(0:Int))) fun i=>Ã (zR a b.1) fun j=>Ã (GS a) fun l=>ifb (ieq h.2 0) (ifb (ieq i.2 0) (ifb (ieq j.2 0) (ifb (ieq l.2 5) (ifb (ieq h.1 10) (ifb i.1 (ifb j.1 (Ã (kT b.1) fun m=>k (ieq m 0)) (k false)) (k false)) (k false)) (k false)) (k false)) (k false)) (k false)))))))))))))
def lW:Option (Bool):=Cr some
def xb (a:Val Â) (b:Int) (c:Int) (k:Bool→Option ρ):Option ρ :=
  ifb (ile b a.1) (ifb (ile a.1 a.2) (k (ile a.2 c)) (k false)) (k false)
def iU (a:Val Â) (b:Int) (c:Int):Option (Bool):=xb a b c some
def acr (a:Int) (b:Int) (c:Int) (k:Bool→Option ρ):Option ρ :=
  ifb (ige a b) (k (ile a c)) (k false)
def kQ (a:Int) (b:Int) (c:Int):Option (Bool):=acr a b c some
def VO (a:Int) (k:Bool→Option ρ):Option ρ :=
  Ã (kQ a (0:Int) (20000:Int)) fun b=>k b
def vn (a:Int):Option (Bool):=VO a some
def t7 (b:Int) (a:Int) (c:Int→Int→Option ρ) (d:Int→Option ρ):Option ρ :=
  ifb (ine a 0) (ifb (ł a 0) (none) (c a (Int.tmod b a))) (d b)
def V0 (b:Int) (c:Int) (k:Int→Option ρ):Option ρ :=
  Ñ (fun(a:Val Â) d=>t7 a.1 a.2 (fun e f=>d (e,f)) (fun g=>k g)) (b,c)
def zP (a:Int) (b:Int):Option (Int):=V0 a b some
def V4 (a:Int) (k:Int→Option ρ):Option ρ :=
  ifb (ilt a 0) (ck ((0:Int)-a) fun b=>k b) (k a)
def GN (a:Int):Option (Int):=V4 a some
def H6 (a:Val Â) (k:Bool→Option ρ):Option ρ :=
  ifb (ilt a.2 1) (k false) (ifb (igt a.2 2147483647) (k false) (ifb (ilt a.1 (-2147483647:Int)) (k false) (ifb (igt a.1 2147483647) (k false) (Ã (GN a.1) fun b=>Ã (zP b a.2) fun c=>k (ieq c 1)))))
def zN (a:Val Â):Option (Bool):=H6 a some
def HS (a:Val Ð) (k:Bool→Option ρ):Option ρ :=
  Ã (zN a.2.2.2.2.1) fun b=>ifb (!b) (k false) (Ã (kQ a.2.2.2.2.1.1 (-1000:Int) (1000:Int)) fun c=>ifb (!c) (k false) (ifb (igt a.2.2.2.2.1.2 100) (k false) (Ã (kQ a.1 (1:Int) (1099511627776:Int)) fun d=>ifb d (Ã (vn a.2.1) fun e=>ifb e (Ã (kQ a.2.2.1 (1:Int) (1125899906842624:Int)) fun f=>ifb f (Ã (iU a.2.2.2.1 (-1073741824:Int) (1073741824:Int)) fun g=>ifb g (Ã (kQ a.2.2.2.2.2 (0:Int) (1048576:Int)) fun h=>k h) (k false)) (k false)) (k false)) (k false))))
def zL (a:Val Ð):Option (Bool):=HS a some
def qg (c:Int) (b:Val ac) (a:Int) (d:Int→Option ρ) (e:Int→Option ρ) (f:Unit→Option ρ):Option ρ :=
  ifb (ilt a (Ý b)) (ü b a fun g=>ifb (ieq g.1 c) (e a) (ck (a+(1:Int)) fun h=>d h)) (f ())
def Oa (a:Val Ä) (b:Int) (k:Int→Option ρ):Option ρ :=
  Ñ (fun(c:Int) d=>qg b a.2.1 c (fun e=>d e) (fun f=>k f) (fun _=>k (-1:Int))) (0:Int)
def pq (a:Val Ä) (b:Int):Option (Int):=Oa a b some
def HU (a:Val Ä) (c:Int) (d:Int) (k:Int→Option ρ):Option ρ :=
  Ã (pq a c) fun b=>ifb (ilt b 0) (k (5:Int)) (ü a.2.1 b fun e=>ifb (ilt d e.2.1) (k (4:Int)) (k (0:Int)))
def lY (a:Val Ä) (b:Int) (c:Int):Option (Int):=HU a b c some
def pT (e:Int) (f:Int) (g:Val ac) (a:Val aa) (h:Val af) (i:Val ab) (j:Val aa) (b:Int) (k:Int→Option ρ) (c:Int→Option ρ) (l:Unit→Option ρ):Option ρ :=
  ifb (ilt b (Ý a)) (ü a b fun m=>Ã (vn m.2) fun n=>ifb (!n) (c (1:Int)) (ü a b fun o=>ü a b fun p=>Ã (lY ((e,f),g,a,h,i,j) o.1 p.2) fun d=>ifb (ine d 0) (c d) (ck (b+(1:Int)) fun q=>k q))) (l ())
def NF (a:Val Ä) (k:Int→Option ρ):Option ρ :=
  Ñ (fun(b:Int) c=>pT a.1.1 a.1.2 a.2.1 a.2.2.1 a.2.2.2.1 a.2.2.2.2.1 a.2.2.2.2.2 b (fun d=>c d) (fun e=>k e) (fun _=>k (0:Int))) (0:Int)
def GH (a:Val Ä):Option (Int):=NF a some
def nO (d:Int) (b:Val af) (e:Int) (f:Int) (g:Int) (a:Int) (c:Int→Option ρ) (h:Int→Option ρ) (i:Unit→Option ρ):Option ρ :=
  ifb (ilt a d) (ü b a fun j=>ifb (ieq j.1 e) (ü b a fun k=>ifb (ile k.2.1.1 g) (ü b a fun l=>ifb (ile f l.2.1.2) (h (9:Int)) (ck (a+(1:Int)) fun m=>c m)) (ck (a+(1:Int)) fun n=>c n)) (ck (a+(1:Int)) fun o=>c o)) (i ())
def ky (b:Val aa) (d:Int) (e:Int) (f:Int) (a:Int) (c:Int→Option ρ) (g:Int→Option ρ) (h:Unit→Option ρ):Option ρ :=
  ifb (ilt a (Ý b)) (ü b a fun i=>ifb (ieq i.1 d) (ü b a fun j=>Ã (kQ j.2 e f) fun k=>ifb k (g (9:Int)) (ck (a+(1:Int)) fun l=>c l)) (ck (a+(1:Int)) fun m=>c m)) (h ())
def nP (g:Int) (h:Int) (i:Val ac) (e:Val aa) (c:Val af) (j:Val ab) (k:Val aa) (d:Int) (l:Int→Option ρ) (b:Int→Option ρ) (m:Unit→Option ρ):Option ρ :=
  ifb (ilt d (Ý c)) (ü c d fun a=>Ã (iU a.2.1 (0:Int) (20000:Int)) fun n=>ifb (!n) (b (1:Int)) (Ã (kQ a.2.2 (0:Int) (1048576:Int)) fun o=>ifb (!o) (b (1:Int)) (Ã (lY ((g,h),i,e,c,j,k) a.1 a.2.1.1) fun f=>ifb (ine f 0) (b f) (Ñ (fun(p:Int) q=>nO d c a.1 a.2.1.1 a.2.1.2 p (fun r=>q r) (fun s=>b s) (fun _=>Ñ (fun(t:Int) u=>ky e a.1 a.2.1.1 a.2.1.2 t (fun v=>u v) (fun w=>b w) (fun _=>ck (d+(1:Int)) fun x=>l x)) (0:Int))) (0:Int))))) (m ())
def HP (a:Val Ä) (k:Int→Option ρ):Option ρ :=
  Ñ (fun(b:Int) c=>nP a.1.1 a.1.2 a.2.1 a.2.2.1 a.2.2.2.1 a.2.2.2.2.1 a.2.2.2.2.2 b (fun d=>c d) (fun e=>k e) (fun _=>k (0:Int))) (0:Int)
def zK (a:Val Ä):Option (Int):=HP a some
def pZ (b:Val ae) (a:Int) (c:Int→Option ρ) (d:Bool→Option ρ) (e:Unit→Option ρ):Option ρ :=
  ifb (ilt a (Ý b)) (ü b a fun f=>Ã (kQ f (1:Int) (1099511627776:Int)) fun g=>ifb (!g) (d false) (ifb (igt a 0) (ü b a fun h=>ck (a-(1:Int)) fun i=>ü b i fun j=>ifb (ile h j) (d false) (ck (a+(1:Int)) fun k=>c k)) (ck (a+(1:Int)) fun l=>c l))) (e ())
def NU (a:Val ae) (k:Bool→Option ρ):Option ρ :=
  Ñ (fun(b:Int) c=>pZ a b (fun d=>c d) (fun e=>k e) (fun _=>k (ile (Ý a) 6))) (0:Int)
def yN (a:Val ae):Option (Bool):=NU a some
def HO (a:Val Ì) (k:Bool→Option ρ):Option ρ :=
  Ã (yN a.2.2.1) fun b=>Ã (yN a.2.2.2.1) fun c=>ifb b (ifb c (Ã (kQ a.1 (1:Int) (1099511627776:Int)) fun d=>ifb d (Ã (vn a.2.1) fun e=>ifb e (Ã (kQ a.2.2.2.2.1 (-1125899906842624:Int) (1125899906842624:Int)) fun f=>ifb f (Ã (kQ a.2.2.2.2.2.1 (0:Int) (1073741824:Int)) fun g=>ifb g (Ã (iU a.2.2.2.2.2.2 (-10000:Int) (10000:Int)) fun h=>k h) (k false)) (k false)) (k false)) (k false)) (k false)) (k false)
def zJ (a:Val Ì):Option (Bool):=HO a some
def qe (j:Int) (h:Int) (i:Val af) (b:Int) (c:Int) (d:Int) (e:Int) (f:Int) (g:Int→Int→Int→Int→Int→Option ρ) (k:(Val (.pair .bool (.pair tI Ą)))→Option ρ) (l:(Val (.pair tI Ą))→Option ρ):Option ρ :=
  ifb (ilt b (Ý i)) (ü i b fun a=>ifb (ieq a.1 j) (ifb (ile a.2.1.1 h) (ifb (ile h a.2.1.2) (k (true,a.1,a.2.1.1,a.2.1.2,a.2.2)) (ck (b+(1:Int)) fun m=>g m c d e f)) (ck (b+(1:Int)) fun n=>g n c d e f)) (ck (b+(1:Int)) fun o=>g o c d e f)) (l (c,d,e,f))
def N3 (c:Val Ä) (d:Int) (e:Int) (k:Val bc→Option ρ):Option ρ :=
  Ñ (fun(a:Val bg) f=>qe d e c.2.2.2.1 a.1 a.2.1 a.2.2.1 a.2.2.2.1 a.2.2.2.2 (fun g h i j l=>f (g,h,i,j,l)) (fun b=>k ((b.2.1,(b.2.2.1,b.2.2.2.1),b.2.2.2.2),b.1)) (fun m=>k (((0:Int),((0:Int),(0:Int)),(0:Int)),false))) ((0:Int),(0:Int),(0:Int),(0:Int),(0:Int))
def yO (a:Val Ä) (b:Int) (c:Int):Option ((Val bc)):=N3 a b c some
def tY (b:Val ae) (c:Int) (a:Int) (d:Int→Option ρ) (e:Bool→Option ρ) (f:Unit→Option ρ):Option ρ :=
  ifb (ilt a (Ý b)) (ü b a fun g=>ifb (ieq g c) (e true) (ck (a+(1:Int)) fun h=>d h)) (f ())
def VL (a:Val ae) (b:Int) (k:Bool→Option ρ):Option ρ :=
  Ñ (fun(c:Int) d=>tY a b c (fun e=>d e) (fun f=>k f) (fun _=>k false)) (0:Int)
def MC (a:Val ae) (b:Int):Option (Bool):=VL a b some
def qf (c:Val ae) (f:Val ae) (a:Int) (b:Val ae) (d:Int→Val ae→Option ρ) (g:Val ae→Option ρ):Option ρ :=
  ifb (ilt a (Ý c)) (ü c a fun h=>Ã (MC f h) fun i=>ifb (!i) (ü c a fun e=>è (ç ((List.length b)+(List.length ([e])))) (ck (a+(1:Int)) fun j=>d j (b++([e])))) (ck (a+(1:Int)) fun k=>d k b)) (g b)
def N5 (b:Val ae) (c:Val ae) (k:Val ae→Option ρ):Option ρ :=
  Ñ (fun(a:Val ay) d=>qf b c a.1 a.2 (fun e f=>d (e,f)) (fun g=>k g)) ((0:Int),[])
def jy (a:Val ae) (b:Val ae):Option ((Val ae)):=N5 a b some
def jF (c:Int) (d:Int) (e:Val ac) (f:Val aa) (g:Val af) (h:Val ab) (i:Val aa) (b:Val ae) (a:Int) (j:Int→Option ρ) (k:Int→Option ρ) (l:Unit→Option ρ):Option ρ :=
  ifb (ilt a (Ý b)) (è ((ile 0 a)&&(ilt a (č b))) (ľ b (Int.toNat a) fun m=>Ã (pq ((c,d),e,f,g,h,i) m) fun n=>ifb (ilt n 0) (k (5:Int)) (ck (a+(1:Int)) fun o=>j o))) (l ())
def iv (c:Int) (d:Int) (e:Val ac) (f:Val aa) (g:Val af) (h:Val ab) (i:Val aa) (j:Int) (b:Val ae) (a:Int) (k:Int→Option ρ) (l:Int→Option ρ) (m:Unit→Option ρ):Option ρ :=
  ifb (ilt a (Ý b)) (è ((ile 0 a)&&(ilt a (č b))) (ľ b (Int.toNat a) fun n=>Ã (lY ((c,d),e,f,g,h,i) n j) fun o=>ifb (ine o 0) (l (4:Int)) (ck (a+(1:Int)) fun p=>k p))) (m ())
def Β (c:Int) (d:Int) (e:Val ac) (f:Val aa) (g:Val af) (h:Val ab) (i:Val aa) (j:Int) (b:Val ae) (a:Int) (k:Int→Option ρ) (l:Int→Option ρ) (m:Unit→Option ρ):Option ρ :=
  ifb (ilt a (Ý b)) (è ((ile 0 a)&&(ilt a (č b))) (ľ b (Int.toNat a) fun n=>Ã (yO ((c,d),e,f,g,h,i) n j) fun o=>ifb o.2 (l (9:Int)) (ck (a+(1:Int)) fun p=>k p))) (m ())
def tU (a:Val Ä) (b:Val Ì) (k:Int→Option ρ):Option ρ :=
  è (ç (0+(List.length b.2.2.1))) (è (ç ((List.length (([])++b.2.2.1))+(List.length b.2.2.2.1))) (Ñ (fun(e:Int) f=>jF a.1.1 a.1.2 a.2.1 a.2.2.1 a.2.2.2.1 a.2.2.2.2.1 a.2.2.2.2.2 ((([])++b.2.2.1)++b.2.2.2.1) e (fun g=>f g) (fun h=>k h) (fun _=>Ñ (fun(i:Int) j=>iv a.1.1 a.1.2 a.2.1 a.2.2.1 a.2.2.2.1 a.2.2.2.2.1 a.2.2.2.2.2 b.2.1 ((([])++b.2.2.1)++b.2.2.2.1) i (fun l=>j l) (fun m=>k m) (fun _=>Ñ (fun(n:Int) o=>Β a.1.1 a.1.2 a.2.1 a.2.2.1 a.2.2.2.1 a.2.2.2.2.1 a.2.2.2.2.2 b.2.1 ((([])++b.2.2.1)++b.2.2.2.1) n (fun p=>o p) (fun q=>k q) (fun _=>Ã (jy b.2.2.1 b.2.2.2.1) fun c=>Ã (jy b.2.2.2.1 b.2.2.1) fun d=>ifb (igt (Ý c) 1) (k (1:Int)) (ifb (igt (Ý d) 1) (k (1:Int)) (ck ((Ý c)+(Ý d)) fun r=>ifb (ieq r 0) (k (1:Int)) (k (0:Int)))))) (0:Int))) (0:Int))) (0:Int)))
def jg (a:Val Ä) (b:Val Ì):Option (Int):=tU a b some
def Vr (b:Val ae) (c:Val ae) (k:Int→Option ρ):Option ρ :=
  Ã (jy b c) fun a=>ifb (ieq (Ý a) 0) (k (0:Int)) (ü a (0:Int) fun d=>k d)
def od (a:Val ae) (b:Val ae):Option (Int):=Vr a b some
def pX (g:Int) (c:Val ab) (d:Int) (b:Int) (e:Int→Option ρ) (f:Bool→Option ρ) (h:Unit→Option ρ):Option ρ :=
  ifb (ilt b (Ý c)) (ü c b fun a=>ifb (ieq a.2.1 g) (Ã (od a.2.2.1 a.2.2.2.1) fun i=>ifb (ieq i d) (f true) (Ã (od a.2.2.2.1 a.2.2.1) fun j=>ifb (ieq j d) (f true) (ck (b+(1:Int)) fun k=>e k))) (ck (b+(1:Int)) fun l=>e l)) (h ())
def mH (d:Int) (b:Val aa) (e:Int) (a:Int) (c:Int→Option ρ) (f:Bool→Option ρ) (g:Unit→Option ρ):Option ρ :=
  ifb (ilt a (Ý b)) (ü b a fun h=>ifb (ieq h.1 e) (ü b a fun i=>ifb (ieq i.2 d) (f true) (ck (a+(1:Int)) fun j=>c j)) (ck (a+(1:Int)) fun k=>c k)) (g ())
def NM (c:Val Ä) (a:Val Ð) (b:Int) (k:Bool→Option ρ):Option ρ :=
  ifb (ieq a.2.1 b) (k true) (Ñ (fun(d:Int) e=>pX b c.2.2.2.2.1 a.1 d (fun f=>e f) (fun g=>k g) (fun _=>Ñ (fun(h:Int) i=>mH b c.2.2.2.2.2 a.1 h (fun j=>i j) (fun l=>k l) (fun _=>k false)) (0:Int))) (0:Int))
def GI (a:Val Ä) (b:Val Ð) (c:Int):Option (Bool):=NM a b c some
def nT (c:Val ac) (a:Int) (b:Val ae) (e:Int→Val ae→Option ρ) (f:Val ae→Option ρ):Option ρ :=
  ifb (ilt a (Ý c)) (ü c a fun d=>è (ç ((List.length b)+(List.length ([d.2.1])))) (ck (a+(1:Int)) fun g=>e g (b++([d.2.1])))) (f b)
def nS (c:Val ab) (a:Int) (b:Val ae) (e:Int→Val ae→Option ρ) (f:Val ae→Option ρ):Option ρ :=
  ifb (ilt a (Ý c)) (ü c a fun d=>è (ç ((List.length b)+(List.length ([d.2.1])))) (ck (a+(1:Int)) fun g=>e g (b++([d.2.1])))) (f b)
def nR (c:Val aa) (a:Int) (b:Val ae) (e:Int→Val ae→Option ρ) (f:Val ae→Option ρ):Option ρ :=
  ifb (ilt a (Ý c)) (ü c a fun d=>è (ç ((List.length b)+(List.length ([d.2])))) (ck (a+(1:Int)) fun g=>e g (b++([d.2])))) (f b)
def kz (e:Int) (b:Val ae) (c:Int) (a:Int) (d:Int→Int→Option ρ) (f:Int→Option ρ):Option ρ :=
  ifb (ilt a (Ý b)) (è ((ile 0 a)&&(ilt a (č b))) (ľ b (Int.toNat a) fun g=>ifb (igt g e) (è ((ile 0 a)&&(ilt a (č b))) (ľ b (Int.toNat a) fun h=>ck (a+(1:Int)) fun i=>d (Xj c h) i)) (ck (a+(1:Int)) fun j=>d c j))) (f c)
def kB (e:Int) (i:Int) (j:Int) (c:Val ac) (k:Val aa) (l:Val af) (m:Val ab) (n:Val aa) (o:Val ae) (f:Int) (b:Val aa) (d:Int→Val aa→Option ρ) (p:Val aa→Option ρ):Option ρ :=
  ifb (ilt f 20001) (Ñ (fun(g:Val Â) q=>kz f o g.1 g.2 (fun r s=>q (r,s)) (fun a=>ifb (ilt a 20001) (ü c e fun t=>Ã (GI ((i,j),c,k,l,m,n) t a) fun u=>ifb u (ü c e fun h=>è (ç ((List.length b)+(List.length ([(h.1,a)])))) (d a (b++([(h.1,a)])))) (d a b)) (d a b))) ((20001:Int),(0:Int))) (p b)
def nQ (e:Int) (f:Int) (b:Val ac) (g:Val aa) (h:Val af) (i:Val ab) (j:Val aa) (k:Val ae) (a:Int) (c:Val aa) (l:Int→Val aa→Option ρ) (m:Val aa→Option ρ):Option ρ :=
  ifb (ilt a (Ý b)) (Ñ (fun(d:Val aF) n=>kB a e f b g h i j k d.1 d.2 (fun o p=>n (o,p)) (fun q=>ck (a+(1:Int)) fun r=>l r q)) ((-1:Int),c)) (m c)
def HV (a:Val Ä) (k:Val aa→Option ρ):Option ρ :=
  Ñ (fun(b:Val ay) f=>nT a.2.1 b.1 b.2 (fun g h=>f (g,h)) (fun i=>Ñ (fun(c:Val ay) j=>nS a.2.2.2.2.1 c.1 c.2 (fun l m=>j (l,m)) (fun n=>Ñ (fun(d:Val ay) o=>nR a.2.2.2.2.2 d.1 d.2 (fun p q=>o (p,q)) (fun r=>Ñ (fun(e:Val aF) s=>nQ a.1.1 a.1.2 a.2.1 a.2.2.1 a.2.2.2.1 a.2.2.2.2.1 a.2.2.2.2.2 r e.1 e.2 (fun t u=>s (t,u)) (fun v=>k v)) ((0:Int),[]))) ((0:Int),n))) ((0:Int),i))) ((0:Int),[])
def jh (a:Val Ä):Option ((Val aa)):=HV a some
def nV (b:Val aa) (d:Int) (e:Int) (a:Int) (f:Int→Option ρ) (g:Int→Option ρ) (h:Unit→Option ρ):Option ρ :=
  ifb (ilt a (Ý b)) (ü b a fun c=>ifb ((ł c.1 d)&&((ł c.2 e)&&true)) (ck (a+(1:Int)) fun i=>g i) (ck (a+(1:Int)) fun j=>f j)) (h ())
def HW (b:Val Ä) (a:Val Â) (k:Int→Option ρ):Option ρ :=
  Ã (jh b) fun c=>Ñ (fun(d:Int) e=>nV c a.1 a.2 d (fun f=>e f) (fun g=>k g) (fun _=>k (0:Int))) (0:Int)
def ō (a:Val Ä) (b:Val Â):Option (Int):=HW a b some
def pY (d:Int) (e:Int) (b:Val aa) (a:Int) (c:Int→Option ρ) (f:Bool→Option ρ) (g:Unit→Option ρ):Option ρ :=
  ifb (ilt a (Ý b)) (ü b a fun h=>ifb (ieq h.1 d) (ü b a fun i=>ifb (ieq i.2 e) (f true) (ck (a+(1:Int)) fun j=>c j)) (ck (a+(1:Int)) fun k=>c k)) (g ())
def NP (a:Val Ä) (b:Int) (c:Int) (k:Bool→Option ρ):Option ρ :=
  Ñ (fun(d:Int) e=>pY b c a.2.2.1 d (fun f=>e f) (fun g=>k g) (fun _=>k false)) (0:Int)
def GJ (a:Val Ä) (b:Int) (c:Int):Option (Bool):=NP a b c some
def qd (d:Int) (m:Int) (n:Int) (e:Int) (f:Int) (g:Val ac) (h:Val aa) (i:Val af) (j:Val ab) (k:Val aa) (b:Int) (a:Int) (c:Int→Int→Option ρ) (o:Int→Option ρ):Option ρ :=
  ifb (ilt a m) (Ã (yO ((e,f),g,h,i,j,k) d a) fun l=>ifb l.2 (ck (b+l.1.2.2) fun p=>ck (a+(1:Int)) fun q=>c p q) (Ã (GJ ((e,f),g,h,i,j,k) d a) fun r=>ifb r (ck (b+n) fun s=>ck (a+(1:Int)) fun t=>c s t) (ck (a+(1:Int)) fun u=>c b u))) (o b)
def NZ (a:Val Ä) (b:Int) (d:Int) (e:Int) (k:Int→Option ρ):Option ρ :=
  Ã (pq a b) fun f=>ü a.2.1 f fun g=>Ñ (fun(c:Val Â) h=>qd b e g.2.2.2.2.2 a.1.1 a.1.2 a.2.1 a.2.2.1 a.2.2.2.1 a.2.2.2.2.1 a.2.2.2.2.2 c.1 c.2 (fun i j=>h (i,j)) (fun l=>k l)) ((0:Int),d)
def ta (a:Val Ä) (b:Int) (c:Int) (d:Int):Option (Int):=NZ a b c d some
def CH (b:Int) (a:Int) (k:Val Ķ→Option ρ):Option ρ :=
  ifb (ine b 0) (ifb (ł a 0) (none) (Ã (GN (Int.tmod b a)) fun h=>Ã (zP h a) fun c=>ifb (ł c 0) (none) (ck (Int.tdiv b c) fun d=>ifb (ł c 0) (none) (ck (Int.tdiv a c) fun f=>ifb (igt f 2147483647) (k (((0:Int),(0:Int)),(3:Int))) (ifb (ilt d (-2147483647:Int)) (k (((0:Int),(0:Int)),(3:Int))) (ifb (igt d 2147483647) (k (((0:Int),(0:Int)),(3:Int))) (k ((d,f),(0:Int))))))))) (ifb (ł a 0) (none) (ck (Int.tdiv b a) fun e=>ifb (ł a 0) (none) (ck (Int.tdiv a a) fun g=>ifb (igt g 2147483647) (k (((0:Int),(0:Int)),(3:Int))) (ifb (ilt e (-2147483647:Int)) (k (((0:Int),(0:Int)),(3:Int))) (ifb (igt e 2147483647) (k (((0:Int),(0:Int)),(3:Int))) (k ((e,g),(0:Int))))))))
def pr (a:Int) (b:Int):Option (Val Ķ):=CH a b some
def V3 (a:Val Â) (b:Val Â) (k:Val Ķ→Option ρ):Option ρ :=
  ck (a.1*b.2) fun c=>ck (b.1*a.2) fun d=>ck (c+d) fun e=>ck (a.2*b.2) fun f=>Ã (pr e f) fun g=>k g
def Xs (a:Val Â) (b:Val Â):Option (Val Ķ):=V3 a b some
def VX (a:Val Â) (k:Val Â→Option ρ):Option ρ :=
  ck ((0:Int)-a.1) fun b=>k (b,a.2)
def Xr (a:Val Â):Option (Val Â):=VX a some
def VV (a:Val Â) (b:Val Â) (k:Val Ķ→Option ρ):Option ρ :=
  Ã (Xr b) fun c=>Ã (Xs a c) fun d=>k d
def MD (a:Val Â) (b:Val Â):Option (Val Ķ):=VV a b some
def HQ (a:Val Ä) (b:Int) (k:Val Â→Option ρ):Option ρ :=
  ifb (ieq b 0) (k ((0:Int),(1:Int))) (Ã (pq a b) fun c=>ü a.2.1 c fun d=>k d.2.2.2.2.1)
def s8 (a:Val Ä) (b:Int):Option (Val Â):=HQ a b some
def Ov (a:Val Ķ) (b:Val Ķ) (k:Val rL→Option ρ):Option ρ :=
  ifb (ine a.2 0) (k ((((0:Int),(0:Int)),(0:Int),(0:Int)),a.2)) (ifb (ine b.2 0) (k ((((0:Int),(0:Int)),(0:Int),(0:Int)),b.2)) (k ((a.1,b.1),(0:Int))))
def GK (a:Val Ķ) (b:Val Ķ):Option (Val rL):=Ov a b some
def VY (a:Val Â) (b:Val Â) (k:Val Ķ→Option ρ):Option ρ :=
  ck (a.1*b.1) fun c=>ck (a.2*b.2) fun d=>Ã (pr c d) fun e=>k e
def vq (a:Val Â) (b:Val Â):Option (Val Ķ):=VY a b some
def H7 (b:Val ã) (a:Val Â) (k:Val rL→Option ρ):Option ρ :=
  ifb (ilt a.1 0) (Ã (vq b.2 a) fun c=>Ã (vq b.1 a) fun d=>Ã (GK c d) fun e=>k e) (Ã (vq b.1 a) fun f=>Ã (vq b.2 a) fun g=>Ã (GK f g) fun h=>k h)
def zO (a:Val ã) (b:Val Â):Option (Val rL):=H7 a b some
def CE (b:Val Ä) (a:Val Ì) (k:Val ã→Option ρ):Option ρ :=
  Ã (od a.2.2.1 a.2.2.2.1) fun c=>Ã (s8 b c) fun d=>Ã (od a.2.2.2.1 a.2.2.1) fun e=>Ã (s8 b e) fun f=>Ã (MD d f) fun g=>Ã (zO ((a.2.2.2.2.2.2.1,(1:Int)),a.2.2.2.2.2.2.2,(1:Int)) g.1) fun h=>k h.1
def vm (a:Val Ä) (b:Val Ì):Option (Val ã):=CE a b some
def HY (a:Val Ä) (b:Val Ì) (k:Val Â→Option ρ):Option ρ :=
  ck ((Ý b.2.2.1)-(1:Int)) fun c=>ck ((Ý b.2.2.2.1)-(1:Int)) fun d=>ck ((QY (0:Int) c)*a.1.1) fun e=>ck ((QY (0:Int) d)*a.1.2) fun f=>ck (e-f) fun g=>ck ((QY (0:Int) c)*a.1.2) fun h=>ck ((QY (0:Int) d)*a.1.1) fun i=>ck (h-i) fun j=>k (g,j)
def zM (a:Val Ä) (b:Val Ì):Option (Val Â):=HY a b some
def acv (b:Int) (a:Int) (k:Int→Option ρ):Option ρ :=
  ifb (ł a 0) (none) (ck (Int.tdiv b a) fun c=>ifb (ł a 0) (none) (ifb (igt (Int.tmod b a) 0) (ck (c+1) fun d=>k d) (k c)))
def adj (a:Int) (b:Int):Option (Int):=acv a b some
def Ox (a:Val Â) (k:Int→Option ρ):Option ρ :=
  Ã (adj a.1 a.2) fun b=>k b
def GM (a:Val Â):Option (Int):=Ox a some
def Ot (b:Int) (a:Int) (k:Int→Option ρ):Option ρ :=
  ifb (ł a 0) (none) (ck (Int.tdiv b a) fun c=>ifb (ł a 0) (none) (ifb (ilt (Int.tmod b a) 0) (ck (c-1) fun d=>k d) (k c)))
def Qe (a:Int) (b:Int):Option (Int):=Ot a b some
def H9 (a:Val Â) (k:Int→Option ρ):Option ρ :=
  Ã (Qe a.1 a.2) fun b=>k b
def zQ (a:Val Â):Option (Int):=H9 a some
def NS (b:Val Ä) (a:Val Ì) (k:Val Â→Option ρ):Option ρ :=
  Ã (vm b a) fun c=>Ã (zM b a) fun d=>ck (a.2.2.2.2.1-a.2.2.2.2.2.1) fun e=>ck (e-d.2) fun f=>Ã (zQ c.2) fun g=>ck (f-g) fun h=>ck (a.2.2.2.2.1+a.2.2.2.2.2.1) fun i=>ck (i-d.1) fun j=>Ã (GM c.1) fun l=>ck (j-l) fun m=>k (h,m)
def s9 (a:Val Ä) (b:Val Ì):Option (Val Â):=NS a b some
def oR (e:Val aa) (b:Int) (p:Int) (q:Int) (r:Val ac) (s:Val aa) (t:Val af) (u:Val ab) (v:Val aa) (g:Int) (w:Int) (h:Int) (x:Int) (y:Int) (a:Int) (c:Val ah) (d:Val aa) (f:Int→Val ah→Val aa→Option ρ) (z:Val vI→Option ρ):Option ρ :=
  ifb (ilt a (Ý e)) (ü e a fun A=>ifb (ine A.1 g) (ck (a+(1:Int)) fun B=>f B c d) (ü e a fun C=>ifb (ieq C.2 w) (ck (a+(1:Int)) fun i=>ck (h+y) fun j=>ck (a+(1:Int)) fun k=>ck ((0:Int)-h) fun D=>ck (D-x) fun l=>è (ç ((List.length c)+(List.length ([((0:Int),i,j),(k,(0:Int),l)])))) (è (ç ((List.length d)+(List.length ([((1:Int),b),((1:Int),b)])))) (ck (a+(1:Int)) fun E=>f E (c++([((0:Int),i,j),(k,(0:Int),l)])) (d++([((1:Int),b),((1:Int),b)]))))) (ck (a-(1:Int)) fun F=>ü e F fun G=>ü e a fun H=>Ã (ta ((p,q),r,s,t,u,v) g G.2 H.2) fun m=>ck (a+(1:Int)) fun n=>ck (a+(1:Int)) fun o=>è (ç ((List.length c)+(List.length ([(a,n,(0:Int)),(o,a,m)])))) (è (ç ((List.length d)+(List.length ([((2:Int),b),((2:Int),b)])))) (ck (a+(1:Int)) fun I=>f I (c++([(a,n,(0:Int)),(o,a,m)])) (d++([((2:Int),b),((2:Int),b)]))))))) (z (c,d))
def tX (h:Val aa) (i:Int) (j:Int) (c:Val ac) (k:Val aa) (l:Val af) (m:Val ab) (n:Val aa) (b:Int) (e:Val ah) (f:Val aa) (o:Int→Val ah→Val aa→Option ρ) (p:Val vI→Option ρ):Option ρ :=
  ifb (ilt b (Ý c)) (ü c b fun a=>Ñ (fun(d:Val aL) q=>oR h b i j c k l m n a.1 a.2.1 a.2.2.1 a.2.2.2.1.1 a.2.2.2.1.2 d.1 d.2.1 d.2.2 (fun r s t=>q (r,s,t)) (fun g=>ck (b+(1:Int)) fun u=>o u g.1 g.2)) ((0:Int),e,f)) (p (e,f))
def tW (f:Int) (g:Int) (h:Val ac) (i:Val aa) (j:Val af) (c:Val ab) (k:Val aa) (a:Int) (l:Val ah) (m:Val aa) (p:Int→Val ah→Val aa→Option ρ) (q:Val vI→Option ρ):Option ρ :=
  ifb (ilt a (Ý c)) (ü c a fun b=>Ã (od b.2.2.1 b.2.2.2.1) fun r=>Ã (ō ((f,g),h,i,j,c,k) (r,b.2.1)) fun d=>Ã (od b.2.2.2.1 b.2.2.1) fun s=>Ã (ō ((f,g),h,i,j,c,k) (s,b.2.1)) fun e=>Ã (s9 ((f,g),h,i,j,c,k) b) fun n=>ck ((0:Int)-n.1) fun o=>è (ç ((List.length l)+(List.length ([(e,d,n.2),(d,e,o)])))) (è (ç ((List.length m)+(List.length ([((3:Int),a),((3:Int),a)])))) (ck (a+(1:Int)) fun t=>p t (l++([(e,d,n.2),(d,e,o)])) (m++([((3:Int),a),((3:Int),a)]))))) (q (l,m))
def VA (a:Val Ä) (k:Val vI→Option ρ):Option ρ :=
  Ã (jh a) fun e=>Ñ (fun(b:Val aL) f=>tX e a.1.1 a.1.2 a.2.1 a.2.2.1 a.2.2.2.1 a.2.2.2.2.1 a.2.2.2.2.2 b.1 b.2.1 b.2.2 (fun g h i=>f (g,h,i)) (fun d=>Ñ (fun(c:Val aL) j=>tW a.1.1 a.1.2 a.2.1 a.2.2.1 a.2.2.2.1 a.2.2.2.2.1 a.2.2.2.2.2 c.1 c.2.1 c.2.2 (fun l m n=>j (l,m,n)) (fun o=>k o)) ((0:Int),d.1,d.2))) ((0:Int),[],[])
def vl (a:Val Ä):Option (Val vI):=VA a some
def nX (b:Val ac) (a:Int) (c:Int→Option ρ) (d:Int→Option ρ) (e:Unit→Option ρ):Option ρ :=
  ifb (ilt a (Ý b)) (ü b a fun f=>Ã (zL f) fun g=>ifb (!g) (d (1:Int)) (ifb (igt a 0) (ü b a fun h=>ck (a-(1:Int)) fun i=>ü b i fun j=>ifb (ile h.1 j.1) (d (6:Int)) (ck (a+(1:Int)) fun k=>c k)) (ck (a+(1:Int)) fun l=>c l))) (e ())
def nW (b:Int) (c:Val ab) (a:Int) (d:Int→Option ρ) (e:Int→Option ρ) (f:Unit→Option ρ):Option ρ :=
  ifb (ilt a b) (ü c a fun g=>ü c b fun h=>ifb (ieq g.1 h.1) (e (6:Int)) (ck (a+(1:Int)) fun i=>d i)) (f ())
def i8 (e:Int) (f:Int) (g:Val ac) (h:Val aa) (i:Val af) (a:Val ab) (j:Val aa) (b:Int) (k:Int→Option ρ) (c:Int→Option ρ) (l:Unit→Option ρ):Option ρ :=
  ifb (ilt b (Ý a)) (ü a b fun m=>Ã (zJ m) fun n=>ifb (!n) (c (1:Int)) (Ñ (fun(o:Int) p=>nW b a o (fun q=>p q) (fun r=>c r) (fun _=>ü a b fun s=>Ã (jg ((e,f),g,h,i,a,j) s) fun d=>ifb (ine d 0) (c d) (ck (b+(1:Int)) fun t=>k t))) (0:Int))) (l ())
def i7 (e:Int) (f:Int) (g:Val ac) (h:Val aa) (i:Val af) (j:Val ab) (a:Val aa) (b:Int) (k:Int→Option ρ) (c:Int→Option ρ) (l:Unit→Option ρ):Option ρ :=
  ifb (ilt b (Ý a)) (ü a b fun m=>Ã (vn m.2) fun n=>ifb (!n) (c (1:Int)) (ü a b fun o=>ü a b fun p=>Ã (lY ((e,f),g,h,i,j,a) o.1 p.2) fun d=>ifb (ine d 0) (c d) (ck (b+(1:Int)) fun q=>k q))) (l ())
def HZ (a:Val Ä) (k:Int→Option ρ):Option ρ :=
  Ã (iU a.1 (0:Int) (1000000:Int)) fun d=>ifb (!d) (k (1:Int)) (ifb (igt (Ý a.2.1) 12) (k (2:Int)) (ifb (igt (Ý a.2.2.1) 40) (k (2:Int)) (ifb (igt (Ý a.2.2.2.1) 12) (k (2:Int)) (ifb (igt (Ý a.2.2.2.2.1) 40) (k (2:Int)) (ifb (igt (Ý a.2.2.2.2.2) 10) (k (2:Int)) (Ñ (fun(e:Int) f=>nX a.2.1 e (fun g=>f g) (fun h=>k h) (fun _=>Ã (GH a) fun b=>ifb (ieq b 0) (Ã (zK a) fun c=>ifb (ine c 0) (k c) (Ñ (fun(i:Int) j=>i8 a.1.1 a.1.2 a.2.1 a.2.2.1 a.2.2.2.1 a.2.2.2.2.1 a.2.2.2.2.2 i (fun l=>j l) (fun m=>k m) (fun _=>Ñ (fun(n:Int) o=>i7 a.1.1 a.1.2 a.2.1 a.2.2.1 a.2.2.2.1 a.2.2.2.2.1 a.2.2.2.2.2 n (fun p=>o p) (fun q=>k q) (fun _=>Ã (jh a) fun r=>ifb (igt (Ý r) 59) (k (2:Int)) (Ã (vl a) fun s=>ifb (igt (Ý s.1) 300) (k (2:Int)) (k (0:Int))))) (0:Int))) (0:Int))) (ifb (ine b 0) (k b) (Ñ (fun(t:Int) u=>i8 a.1.1 a.1.2 a.2.1 a.2.2.1 a.2.2.2.1 a.2.2.2.2.1 a.2.2.2.2.2 t (fun v=>u v) (fun w=>k w) (fun _=>Ñ (fun(x:Int) y=>i7 a.1.1 a.1.2 a.2.1 a.2.2.1 a.2.2.2.1 a.2.2.2.2.1 a.2.2.2.2.2 x (fun z=>y z) (fun A=>k A) (fun _=>Ã (jh a) fun B=>ifb (igt (Ý B) 59) (k (2:Int)) (Ã (vl a) fun C=>ifb (igt (Ý C.1) 300) (k (2:Int)) (k (0:Int))))) (0:Int))) (0:Int))))) (0:Int)))))))
def lZ (a:Val Ä):Option (Int):=HZ a some
def Cz (a:Val Ä) (k:Val Í→Option ρ):Option ρ :=
  Ã (jh a) fun b=>ck ((Ý b)+(1:Int)) fun c=>Ã (vl a) fun d=>k (c,d.1)
def pp (a:Val Ä):Option (Val Í):=Cz a some
def N1 (a:Val Ä) (b:Val Â) (k:Val aG→Option ρ):Option ρ :=
  è (ç (0+(List.length a.2.2.2.2.2))) (è (ç ((List.length (([])++a.2.2.2.2.2))+(List.length ([b])))) (Ã (lZ (a.1,a.2.1,a.2.2.1,a.2.2.2.1,a.2.2.2.2.1,((([])++a.2.2.2.2.2)++([b])))) fun c=>ifb (ine c 0) (k ((((0:Int),(0:Int)),[],[],[],[],[]),c)) (k ((a.1,a.2.1,a.2.2.1,a.2.2.2.1,a.2.2.2.2.1,((([])++a.2.2.2.2.2)++([b]))),(0:Int)))))
def tc (a:Val Ä) (b:Val Â):Option ((Val aG)):=N1 a b some
def kG (d:Int) (e:Int) (a:Int) (b:Val ae) (c:Int→Val ae→Option ρ) (f:Val ae→Option ρ):Option ρ :=
  ifb (ilt a d) (è ((ile 0 a)&&(ilt a (č b))) (ľ b (Int.toNat a) fun i=>ifb (ieq e a) (è ((ile 0 a)&&(ilt a (č (List.set b (Int.toNat a) (1152921504606846976:Int))))) (ľ (List.set b (Int.toNat a) (1152921504606846976:Int)) (Int.toNat a) fun j=>ck (a+(1:Int)) fun g=>c g (List.set (List.set b (Int.toNat a) (1152921504606846976:Int)) (Int.toNat a) (0:Int)))) (ck (a+(1:Int)) fun h=>c h (List.set b (Int.toNat a) (1152921504606846976:Int))))) (f b)
def kH (a:Int) (b:Int) (c:Val am) (f:Int→Val am→Option ρ) (g:Val am→Option ρ):Option ρ :=
  ifb (ilt b a) (è ((ile 0 a)&&(ç (Int.toNat a))) (Ñ (fun(d:Val ay) h=>kG a b d.1 d.2 (fun i j=>h (i,j)) (fun e=>è (ç ((List.length c)+(List.length ([e])))) (ck (b+(1:Int)) fun k=>f k (c++([e]))))) ((0:Int),(List.replicate (Int.toNat a) (0:Int))))) (g c)
def kF (d:Val ah) (c:Int) (b:Val am) (f:Int→Val am→Option ρ) (g:Val am→Option ρ):Option ρ :=
  ifb (ilt c (Ý d)) (ü d c fun a=>è ((ile 0 a.1)&&(ilt a.1 (č b))) (è ((ile 0 a.1)&&(ilt a.1 (č b))) (ľ b (Int.toNat a.1) fun h=>è ((ile 0 a.2.1)&&(ilt a.2.1 (č h))) (ľ b (Int.toNat a.1) fun i=>ľ i (Int.toNat a.2.1) fun j=>ľ b (Int.toNat a.1) fun k=>è ((ile 0 a.2.1)&&(ilt a.2.1 (č k))) (ľ b (Int.toNat a.1) fun e=>ľ e (Int.toNat a.2.1) fun m=>ck (c+(1:Int)) fun l=>f l (List.set b (Int.toNat a.1) (List.set e (Int.toNat a.2.1) (Xj j a.2.2)))))))) (g b)
def kD (d:Int) (c:Int) (g:Int) (b:Int) (a:Val am) (e:Int→Val am→Option ρ) (h:Val am→Option ρ):Option ρ :=
  ifb (ilt b g) (è ((ile 0 d)&&(ilt d (č a))) (ľ a (Int.toNat d) fun i=>è ((ile 0 b)&&(ilt b (č i))) (ľ a (Int.toNat d) fun j=>ľ j (Int.toNat b) fun k=>ifb (ine k 1152921504606846976) (è ((ile 0 c)&&(ilt c (č a))) (è ((ile 0 c)&&(ilt c (č a))) (ľ a (Int.toNat c) fun l=>è ((ile 0 b)&&(ilt b (č l))) (ľ a (Int.toNat c) fun m=>ľ m (Int.toNat b) fun n=>è ((ile 0 c)&&(ilt c (č a))) (ľ a (Int.toNat c) fun o=>è ((ile 0 d)&&(ilt d (č o))) (ľ a (Int.toNat c) fun p=>ľ p (Int.toNat d) fun q=>è ((ile 0 d)&&(ilt d (č a))) (ľ a (Int.toNat d) fun r=>è ((ile 0 b)&&(ilt b (č r))) (ľ a (Int.toNat d) fun s=>ľ s (Int.toNat b) fun t=>ck (q+t) fun u=>ľ a (Int.toNat c) fun v=>è ((ile 0 b)&&(ilt b (č v))) (ľ a (Int.toNat c) fun f=>ľ f (Int.toNat b) fun y=>ck (b+(1:Int)) fun w=>e w (List.set a (Int.toNat c) (List.set f (Int.toNat b) (Xj n u)))))))))))) (ck (b+(1:Int)) fun x=>e x a)))) (h a)
def kE (c:Int) (d:Int) (a:Int) (b:Val am) (e:Int→Val am→Option ρ) (g:Val am→Option ρ):Option ρ :=
  ifb (ilt a d) (è ((ile 0 a)&&(ilt a (č b))) (ľ b (Int.toNat a) fun h=>è ((ile 0 c)&&(ilt c (č h))) (ľ b (Int.toNat a) fun i=>ľ i (Int.toNat c) fun j=>ifb (ieq j 1152921504606846976) (ck (a+(1:Int)) fun k=>e k b) (Ñ (fun(f:Val aO) l=>kD c a d f.1 f.2 (fun m n=>l (m,n)) (fun o=>ck (a+(1:Int)) fun p=>e p o)) ((0:Int),b))))) (g b)
def gZ (c:Int) (b:Val am) (a:Int) (d:Int→Option ρ) (e:Bool→Option ρ) (f:Unit→Option ρ):Option ρ :=
  ifb (ilt a c) (è ((ile 0 a)&&(ilt a (č b))) (ľ b (Int.toNat a) fun g=>è ((ile 0 a)&&(ilt a (č g))) (ľ b (Int.toNat a) fun h=>ľ h (Int.toNat a) fun i=>ifb (ilt i 0) (e false) (ck (a+(1:Int)) fun j=>d j)))) (f ())
def i9 (a:Int) (b:Int) (d:Val am) (f:Int→Val am→Option ρ) (g:(Val (.pair .bool am))→Option ρ) (h:Val am→Option ρ):Option ρ :=
  ifb (ilt b a) (Ñ (fun(e:Val aO) i=>kE b a e.1 e.2 (fun j k=>i (j,k)) (fun c=>Ñ (fun(l:Int) m=>gZ a c l (fun n=>m n) (fun o=>g (o,c)) (fun _=>ck (b+(1:Int)) fun p=>f p c)) (0:Int))) ((0:Int),d)) (h d)
def H4 (a:Val Í) (k:(Val (.pair am .bool))→Option ρ):Option ρ :=
  Ñ (fun(b:Val aO) e=>kH a.1 b.1 b.2 (fun f g=>e (f,g)) (fun h=>Ñ (fun(c:Val aO) i=>kF a.2 c.1 c.2 (fun j l=>i (j,l)) (fun m=>Ñ (fun(d:Val aO) n=>i9 a.1 d.1 d.2 (fun o p=>n (o,p)) (fun q=>k ([],q.1)) (fun r=>k (r,true))) ((0:Int),m))) ((0:Int),h))) ((0:Int),[])
def td (a:Val Í):Option ((Val (.pair am .bool))):=H4 a some
def mF (j:Val aa) (b:Int) (c:Int) (d:Int) (e:Val ac) (f:Val aa) (g:Val af) (h:Val ab) (i:Val aa) (k:Int) (l:Int) (m:Int) (n:Int) (o:Int→Int→Int→Val ac→Val aa→Val af→Val ab→Val aa→Int→Int→Int→Int→Option ρ) (p:Val aw→Option ρ) (q:Val aw→Option ρ):Option ρ :=
  ifb (ilt b (Ý j)) (ü j b fun r=>Ã (ō ((c,d),e,f,g,h,i) r) fun s=>ifb (igt s 0) (ck (b+(1:Int)) fun t=>o t c d e f g h i k l m n) (ü j b fun u=>Ã (tc ((c,d),e,f,g,h,i) u) fun a=>ifb (ine a.2 0) (p (c,d,e,f,g,h,i,(0:Int),(0:Int),(0:Int),a.2)) (ck (b+(1:Int)) fun v=>o v a.1.1.1 a.1.1.2 a.1.2.1 a.1.2.2.1 a.1.2.2.2.1 a.1.2.2.2.2.1 a.1.2.2.2.2.2 k l m n))) (q (c,d,e,f,g,h,i,k,l,m,n))
def ND (c:Val Ä) (h:Val aa) (k:Val ŭ→Option ρ):Option ρ :=
  Ã (lZ c) fun e=>ifb (ine e 0) (k ((((0:Int),(0:Int)),[],[],[],[],[]),((0:Int),[]),[],e)) (Ñ (fun(b:(Val (.pair tI aw))) i=>mF h b.1 b.2.1 b.2.2.1 b.2.2.2.1 b.2.2.2.2.1 b.2.2.2.2.2.1 b.2.2.2.2.2.2.1 b.2.2.2.2.2.2.2.1 b.2.2.2.2.2.2.2.2.1 b.2.2.2.2.2.2.2.2.2.1 b.2.2.2.2.2.2.2.2.2.2.1 b.2.2.2.2.2.2.2.2.2.2.2 (fun j l m n o p q r s t u v=>i (j,l,m,n,o,p,q,r,s,t,u,v)) (fun d=>k (((d.2.2.2.2.2.2.2.1,d.2.2.2.2.2.2.2.2.1),[],[],[],[],[]),(d.2.2.2.2.2.2.2.2.2.1,[]),[],d.2.2.2.2.2.2.2.2.2.2)) (fun a=>Ã (pp ((a.1,a.2.1),a.2.2.1,a.2.2.2.1,a.2.2.2.2.1,a.2.2.2.2.2.1,a.2.2.2.2.2.2.1)) fun f=>Ã (td f) fun g=>ifb (!g.2) (k ((((0:Int),(0:Int)),[],[],[],[],[]),((0:Int),[]),[],(9:Int))) (k (((a.1,a.2.1),a.2.2.1,a.2.2.2.1,a.2.2.2.2.1,a.2.2.2.2.2.1,a.2.2.2.2.2.2.1),f,g.1,(0:Int))))) ((0:Int),c.1.1,c.1.2,c.2.1,c.2.2.1,c.2.2.2.1,c.2.2.2.2.1,c.2.2.2.2.2,(0:Int),(0:Int),(0:Int),(0:Int)))
def GG (a:Val Ä) (b:Val aa):Option (Val ŭ):=ND a b some
def jP (a:Val ŭ) (b:Int) (k:Val Â→Option ρ):Option ρ :=
  ü a.2.2.1 b fun c=>ü c (0:Int) fun d=>ck ((0:Int)-d) fun e=>ü a.2.2.1 (0:Int) fun f=>ü f b fun g=>k (e,g)
def ig (a:Val ŭ) (b:Int):Option (Val Â):=jP a b some
def tT (a:Val ŭ) (b:Val Â) (k:Int→Option ρ):Option ρ :=
  Ã (ō a.1 b) fun c=>k c
def kP (a:Val ŭ) (b:Val Â):Option (Int):=tT a b some
def O3 (a:Val Í) (b:Int) (c:Int) (k:Val aE→Option ρ):Option ρ :=
  Ã (m5 a b c) fun d=>ifb (ine d.2 0) (k ([],d.2)) (è (ç (List.length a.2)) (ck (0-d.1) fun e=>è (ç ((List.length a.2)+(List.length ([(c,b,e)])))) (Ã (iV (a.1,(a.2++([(c,b,e)]))) ([])) fun f=>k (f.1,(0:Int)))))
def yR (a:Val Í) (b:Int) (c:Int):Option ((Val aE)):=O3 a b c some
def rh (m:Int) (j:Val aa) (b:Int) (c:Int) (d:Int) (e:Val ac) (f:Val aa) (g:Val af) (h:Val ab) (i:Val aa) (k:Int→Int→Int→Val ac→Val aa→Val af→Val ab→Val aa→Option ρ) (n:Val aC→Option ρ) (o:Val ai→Option ρ):Option ρ :=
  ifb (ilt b m) (è ((ile 0 b)&&(ilt b (č j))) (ľ j (Int.toNat b) fun l=>Ã (ŗ ((c,d),e,f,g,h,i) l) fun p=>ifb (ieq p.2 0) (ck (b+(1:Int)) fun q=>k q c d e f g h i) (Ã (ji ((c,d),e,f,g,h,i) l) fun a=>ifb (ine a.2 0) (n (a.2,c,d,e,f,g,h,i)) (ck (b+(1:Int)) fun r=>k r a.1.1.1 a.1.1.2 a.1.2.1 a.1.2.2.1 a.1.2.2.2.1 a.1.2.2.2.2.1 a.1.2.2.2.2.2)))) (o (c,d,e,f,g,h,i))
def CW (a:Val Ä) (g:Val Â) (l:Bool) (k:Val aE→Option ρ):Option ρ :=
  Ã (û a) fun h=>ifb (ine h 0) (è (ine h 0) (k ([],h))) (Ñ (fun(b:Val aC) m=>rh (Ý ([g])) ([g]) b.1 b.2.1 b.2.2.1 b.2.2.2.1 b.2.2.2.2.1 b.2.2.2.2.2.1 b.2.2.2.2.2.2.1 b.2.2.2.2.2.2.2 (fun n o p q r s t u=>m (n,o,p,q,r,s,t,u)) (fun i=>è (ine i.1 0) (k ([],i.1))) (fun d=>Ã (Ġ ((d.1,d.2.1),d.2.2)) fun c=>ifb (ine c.2.2 0) (è (ine c.2.2 0) (k ([],c.2.2))) (Ã (Đ c.1) fun v=>ifb (!v.1) (k ([],(9:Int))) (Ã (ŵ (((d.1,d.2.1),d.2.2),c.1) g) fun j=>ifb l (Ã (yR c.1 (0:Int) j) fun e=>ifb (ine e.2 0) (k ([],e.2)) (è (ile 1 (č e.1)) (k ((List.drop 1 e.1),(0:Int))))) (Ã (yR c.1 j (0:Int)) fun f=>ifb (ine f.2 0) (k ([],f.2)) (è (ile 1 (č f.1)) (k ((List.drop 1 f.1),(0:Int))))))))) ((0:Int),a.1.1,a.1.2,a.2.1,a.2.2.1,a.2.2.2.1,a.2.2.2.2.1,a.2.2.2.2.2))
def vr (a:Val Ä) (b:Val Â) (c:Bool):Option ((Val aE)):=CW a b c some
def mg (c:Val ae) (d:Val ah) (a:Int) (e:Int→Option ρ) (f:Bool→Option ρ) (g:Unit→Option ρ):Option ρ :=
  ifb (ilt a (Ý d)) (ü d a fun b=>ü c b.2.1 fun h=>ü c b.1 fun i=>ck (i+b.2.2) fun j=>ifb (igt h j) (f false) (ck (a+(1:Int)) fun k=>e k)) (g ())
def CG (b:Val Í) (a:Val ae) (k:Bool→Option ρ):Option ρ :=
  ifb (ine (Ý a) b.1) (k false) (ü a (0:Int) fun c=>ifb (ine c 0) (k false) (Ñ (fun(d:Int) e=>mg a b.2 d (fun f=>e f) (fun g=>k g) (fun _=>k true)) (0:Int)))
def vp (a:Val Í) (b:Val ae):Option (Bool):=CG a b some
def oQ (b:Val ŭ) (a:Val ae) (k:Bool→Option ρ):Option ρ :=
  è (ç ((List.length ([(0:Int)]))+(List.length a))) (Ã (vp b.2.1 (([(0:Int)])++a)) fun c=>k c)
def kO (a:Val ŭ) (b:Val ae):Option (Bool):=oQ a b some
def lH (e:Val Ä) (c:Val Â) (d:Bool) (k:Bool→Option ρ):Option ρ :=
  Ã (MB e) fun h=>ifb (!h) (Ã lW fun i=>k i) (Ã (vr e c d) fun a=>Ã (GG e ([c])) fun b=>ifb (ine a.2 b.2.2.2) (k false) (ifb (ine a.2 0) (Ã lW fun j=>ifb j (k (ieq (Ý a.1) 0)) (k false)) (ck (b.2.1.1-(1:Int)) fun l=>ifb (ine (Ý a.1) l) (k false) (Ã (kO b a.1) fun m=>ifb (!m) (k false) (Ã (kP b c) fun n=>Ã (ig b n) fun f=>Ã (kP b c) fun o=>ck (o-(1:Int)) fun p=>ü a.1 p fun g=>Ã lW fun q=>ifb q (ifb d (ifb (ieq g f.2) (k true) (ifb (!d) (k (ieq g f.1)) (k false))) (ifb (!d) (k (ieq g f.1)) (k false))) (k false))))))
def lX (a:Val Ä) (b:Val Â) (c:Bool):Option (Bool):=lH a b c some
end Go.Proofs.ZzM
end
