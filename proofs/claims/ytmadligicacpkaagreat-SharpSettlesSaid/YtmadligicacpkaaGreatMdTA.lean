/- lemmas -/
import Derived.Test.YtmadligicacpkaaGreatAmF
set_option linter.all false
set_option linter.unusedSectionVars false
set_option linter.unusedVariables false
set_option linter.unusedSimpArgs false
noncomputable section
variable {ρ:Type}
set_option maxRecDepth 100000
namespace Go.Proofs.ZzM
open Go Go.Am
abbrev tI:Ty:=.int .i64
abbrev Ã:Ty:=(.pair tI tI)
abbrev Ĉ:Ty:=(.pair tI Ã)
abbrev è:Ty:=(.pair Ã Ã)
abbrev Ĵ:Ty:=(.pair Ã tI)
abbrev ō:Ty:=(.pair tI Ĵ)
abbrev sS:Ty:=(.pair è tI)
abbrev Í:Ty:=(.pair tI (.slice Ĉ))
abbrev Ź:Ty:=(.pair Ã (.pair Ĉ Ĉ))
abbrev wA:Ty:=(.pair (.slice Ĉ) (.slice Ã))
abbrev Ð:Ty:=(.pair tI (.pair tI (.pair tI (.pair Ã Ĵ))))
abbrev É:Ty:=(.pair tI (.pair tI (.pair (.slice tI) (.pair (.slice tI) (.pair tI Ĉ)))))
abbrev kR:Ty:=(.pair tI (.pair tI (.pair tI (.pair tI (.pair tI Ĉ)))))
abbrev sR:Ty:=(.pair kR tI)
abbrev Å:Ty:=(.pair Ã (.pair (.slice Ð) (.pair (.slice Ã) (.pair (.slice ō) (.pair (.slice É) (.slice Ã))))))
abbrev pC:Ty:=(.pair Å (.pair Í (.pair (.slice (.slice tI)) tI)))
abbrev χ:Ty:=(.pair Å (.pair Ã (.pair .bool (.pair tI (.slice tI)))))
abbrev tyroom:Ty:=(.pair Å Í)
abbrev anz:Ty:=(.pair Å (.pair (.slice Ã) (.pair Í (.slice Ã))))
abbrev aa:Ty:=(.slice Ã)
abbrev ab:Ty:=(.slice É)
abbrev ac:Ty:=(.slice Ð)
abbrev ae:Ty:=(.slice tI)
abbrev af:Ty:=(.slice ō)
abbrev ah:Ty:=(.slice Ĉ)
abbrev ai:Ty:=(.pair tI (.pair tI (.pair ac (.pair aa (.pair af (.pair ab aa))))))
abbrev aj:Ty:=(.pair tI (.pair tI (.pair ac (.pair aa (.pair af (.pair ab (.pair aa (.pair tI (.pair tI (.pair ac (.pair aa (.pair af (.pair ab (.pair aa (.pair tI (.pair tI (.pair ac (.pair aa (.pair af (.pair ab (.pair aa (.pair (.map tI .bool) (.pair (.map tI .bool) ac)))))))))))))))))))))))
abbrev ak:Ty:=(.map tI .bool)
abbrev am:Ty:=(.slice ae)
abbrev ao:Ty:=(.pair ae (.pair tI (.pair tI (.pair tI (.pair ac (.pair aa (.pair af (.pair ab (.pair aa (.pair tI (.pair tI (.pair tI (.pair tI (.pair tI (.pair tI (.pair ae (.pair ae (.pair tI (.pair tI (.pair tI (.pair tI (.pair aa (.pair tI (.pair tI (.pair ac (.pair aa (.pair af (.pair ab (.pair aa (.pair tI (.pair ah (.pair tI (.pair tI (.pair tI (.pair tI (.pair tI (.pair tI (.pair tI (.pair tI (.pair am (.pair am am)))))))))))))))))))))))))))))))))))))))))
abbrev aq:Ty:=(.map tI Ð)
abbrev ar:Ty:=(.pair tI ae)
abbrev au:Ty:=(.pair tI (.pair tI (.pair tI (.pair ac (.pair aa (.pair af (.pair ab (.pair aa (.pair tI (.pair tI (.pair tI (.pair tI (.pair tI (.pair tI (.pair ae (.pair ae (.pair tI (.pair tI (.pair tI (.pair tI aa))))))))))))))))))))
abbrev aw:Ty:=(.pair tI (.pair tI (.pair ac (.pair aa (.pair af (.pair ab (.pair aa (.pair tI Ĉ))))))))
abbrev ax:Ty:=(.ptr tyroom)
abbrev ay:Ty:=(.pair tI (.pair tI (.pair ac (.pair aa (.pair af (.pair ab (.pair aa (.pair tI (.pair tI (.pair ae (.pair ae (.pair tI (.pair tI (.pair tI ar))))))))))))))
abbrev az:Ty:=(.slice .bool)
abbrev aA:Ty:=(.pair Å É)
abbrev aB:Ty:=(.pair tI (.pair tI (.pair tI (.pair ac (.pair aa (.pair af (.pair ab (.pair aa kR))))))))
abbrev aC:Ty:=(.pair Å Ã)
abbrev aD:Ty:=(.pair tI ai)
abbrev aE:Ty:=(.pair tI Í)
abbrev aF:Ty:=(.pair tI aa)
abbrev aG:Ty:=(.pair Å tI)
abbrev aH:Ty:=(.pair ae tI)
abbrev aI:Ty:=(.pair Ã É)
abbrev aJ:Ty:=(.pair tI (.pair tI ar))
abbrev aK:Ty:=(.pair az ae)
abbrev aL:Ty:=(.pair ae (.pair az (.pair ae ae)))
abbrev aM:Ty:=(.pair tI wA)
abbrev aO:Ty:=(.pair tI am)
abbrev aP:Ty:=(.slice am)
abbrev aQ:Ty:=(.pair ax Ã)
abbrev aR:Ty:=(.pair tI aF)
abbrev aS:Ty:=(.ptr Ã)
abbrev aT:Ty:=(.ptr anz)
abbrev aU:Ty:=(.pair .bool tI)
abbrev aV:Ty:=(.pair aa Ã)
abbrev aW:Ty:=(.pair Í Ã)
abbrev aX:Ty:=(.pair tI kR)
abbrev aY:Ty:=(.pair ae ae)
abbrev aZ:Ty:=(.pair .bool ar)
abbrev ba:Ty:=(.pair ō .bool)
abbrev bc:Ty:=(.pair Å (.pair Ã aI))
abbrev bf:Ty:=(.pair (.int .u64) (.int .u64))
abbrev bg:Ty:=(.pair Í ae)
abbrev bh:Ty:=(.pair tI (.pair tI Ĉ))
abbrev bi:Ty:=(.pair Å (.pair aq tI))
def Ĺ (d:Val am) (e:Int) (b:Int) (a:Int) (f:Int→Int→Option ρ) (g:Int→Option ρ):Option ρ :=
  ifb (ilt a e) (ü d a fun h=>ck (b+(Þ h)) fun c=>ifb (ilt c 0) (none) (ck (a+(1:Int)) fun i=>f c i)) (g b)
def õ (d:Val am) (e:Int) (a:Int) (b:Val ae) (f:Int→Val ae→Option ρ) (g:Val ae→Option ρ):Option ρ :=
  ifb (ilt a e) (ü d a fun c=>ì (ê ((List.length b)+(List.length c))) (ck (a+(1:Int)) fun h=>f h (b++c))) (g b)
def i7 (a:Val am) (k:Val ae→Option ρ):Option ρ :=
  Ñ (fun(c:Val Ã) g=>Ĺ a (Þ a) c.1 c.2 (fun h i=>g (h,i)) (fun d=>ifb (ilt d 0) (none) (ck (d-(0:Int)) fun b=>ifb (igt b 0) (ì ((ilt 0 b)&&(ê (Int.toNat b))) (ì (ile 0 (ą (List.replicate (Int.toNat b) (0:Int)))) (Ñ (fun(e:Val ar) j=>õ a (Þ a) e.1 e.2 (fun l m=>j (l,m)) (fun n=>k n)) ((0:Int),(List.take 0 (List.replicate (Int.toNat b) (0:Int))))))) (Ñ (fun(f:Val ar) o=>õ a (Þ a) f.1 f.2 (fun p q=>o (p,q)) (fun r=>k r)) ((0:Int),[]))))) ((0:Int),(0:Int))
def ò (a:Val am):Option ((Val ae)):=i7 a some
def Ar (l:List (Val Ð)) (m:List (Int×Bool)):Option (List (Val Ð)) :=
  ì (ê l.length) (some (l.filter fun g=>(ta (k:=tI) (v:=.bool) g.1 m).getD false))
def tz (c:Val ae) (d:Int) (a:Int) (b:Val ak) (e:Int→Val ak→Option ρ) (f:Val ak→Option ρ):Option ρ :=
  ifb (ilt a d) (ü c a fun g=>ck (a+(1:Int)) fun h=>e h (Ni (k:=tI) (v:=.bool) g true b)) (f b)
def Ah (j:Val aa) (l:Int) (f:Val ac) (g:Val ab) (b:Int) (c:Val ak) (d:Val ak) (e:Int→Val ak→Val ak→Option ρ) (m:(Val (.pair ak ak))→Option ρ):Option ρ :=
  ifb (ilt b l) (ü j b fun a=>ifb (Ŋ a.1 0) (none) (ifb (Ŋ a.1 1) (ü f a.2 fun n=>ck (b+(1:Int)) fun o=>e o (Ni (k:=tI) (v:=.bool) n.1 true c) d) (ifb (Ŋ a.1 2) (ü f a.2 fun p=>ck (b+(1:Int)) fun q=>e q (Ni (k:=tI) (v:=.bool) p.1 true c) d) (ì (Ŋ a.1 3) (ü g a.2 fun r=>ü g a.2 fun s=>Ä (ò ([r.2.2.1,s.2.2.2.1])) fun h=>Ñ (fun(i:(Val (.pair tI ak))) t=>tz h (Þ h) i.1 i.2 (fun u w=>t (u,w)) (fun x=>ck (b+(1:Int)) fun y=>e y x (Ni (k:=tI) (v:=.bool) a.2 true d))) ((0:Int),c)))))) (m (c,d))
def tx (c:Val aa) (d:Int) (a:Int) (b:Val ak) (e:Int→Val ak→Option ρ) (f:Val ak→Option ρ):Option ρ :=
  ifb (ilt a d) (ü c a fun g=>ck (a+(1:Int)) fun h=>e h (Ni (k:=tI) (v:=.bool) g.1 true b)) (f b)
def tv (e:Val aa) (f:Int) (g:Val ak) (a:Int) (b:Val aa) (c:Int→Val aa→Option ρ) (h:Val aa→Option ρ):Option ρ :=
  ifb (ilt a f) (ü e a fun d=>Y7 (k:=tI) (v:=.bool) d.1 g (fun i=>ifb i (ì (ê ((List.length b)+(List.length ([d])))) (ck (a+(1:Int)) fun j=>c j (b++([d])))) (ck (a+(1:Int)) fun l=>c l b)) (ck (a+(1:Int)) fun m=>c m b)) (h b)
def tr (e:Val af) (f:Int) (g:Val ak) (a:Int) (b:Val af) (c:Int→Val af→Option ρ) (h:Val af→Option ρ):Option ρ :=
  ifb (ilt a f) (ü e a fun d=>Y7 (k:=tI) (v:=.bool) d.1 g (fun i=>ifb i (ì (ê ((List.length b)+(List.length ([d])))) (ck (a+(1:Int)) fun j=>c j (b++([d])))) (ck (a+(1:Int)) fun l=>c l b)) (ck (a+(1:Int)) fun m=>c m b)) (h b)
def tq (e:Val ab) (f:Int) (g:Val ak) (a:Int) (b:Val ab) (d:Int→Val ab→Option ρ) (h:Val ab→Option ρ):Option ρ :=
  ifb (ilt a f) (ü e a fun c=>Y7 (k:=tI) (v:=.bool) a g (fun i=>ifb i (ì (ê (List.length c.2.2.1)) (ì (ê (List.length c.2.2.2.1)) (ì (ê ((List.length b)+(List.length ([c])))) (ck (a+(1:Int)) fun j=>d j (b++([c])))))) (ck (a+(1:Int)) fun l=>d l b)) (ck (a+(1:Int)) fun m=>d m b)) (h b)
def nz (p:Val aR) (v:Val aj) (k:Val Å→Option ρ):Option ρ :=
  Ñ (fun(a:Val aF) d=>tv v.2.2.2.1 (Þ v.2.2.2.1) v.2.2.2.2.2.2.2.2.2.2.2.2.2.2.2.2.2.2.2.2.2.1 a.1 a.2 (fun e f=>d (e,f)) (fun g=>Ñ (fun(b:(Val (.pair tI af))) h=>tr v.2.2.2.2.1 (Þ v.2.2.2.2.1) v.2.2.2.2.2.2.2.2.2.2.2.2.2.2.2.2.2.2.2.2.2.1 b.1 b.2 (fun i j=>h (i,j)) (fun l=>Ñ (fun(c:(Val (.pair tI ab))) m=>tq v.2.2.2.2.2.1 (Þ v.2.2.2.2.2.1) v.2.2.2.2.2.2.2.2.2.2.2.2.2.2.2.2.2.2.2.2.2.2.1 c.1 c.2 (fun n o=>m (n,o)) (fun q=>k ((p.1,p.2.1),v.2.2.2.2.2.2.2.2.2.2.2.2.2.2.2.2.2.2.2.2.2.2.2,g,l,q,p.2.2))) ((0:Int),[]))) ((0:Int),[]))) ((0:Int),[])
def F0 (a:Val Å) (d:Val aa) (b:Val aa) (kA:Val aR→Val aj→Option ρ):Option ρ :=
  Ñ (fun(c:(Val (.pair tI (.pair ak ak)))) g=>Ah d (Þ d) a.2.1 a.2.2.2.2.1 c.1 c.2.1 c.2.2 (fun h i j=>g (h,i,j)) (fun e=>Ñ (fun(f:(Val (.pair tI ak))) k=>tx b (Þ b) f.1 f.2 (fun l m=>k (l,m)) (fun n=>kA (a.1.1,a.1.2,b) (a.1.1,a.1.2,a.2.1,a.2.2.1,a.2.2.2.1,a.2.2.2.2.1,a.2.2.2.2.2,(0:Int),(0:Int),[],[],[],[],[],a.1.1,a.1.2,a.2.1,a.2.2.1,a.2.2.2.1,a.2.2.2.2.1,a.2.2.2.2.2,n,e.2,[]))) ((0:Int),e.1))) ((0:Int),[],[])
def ai9 (a:Val Å) (b:Val aa) (c:Val aa) (k:Val Å→Option ρ):Option ρ :=
  F0 a b c fun p v=>Ä (Ar v.2.2.2.2.2.2.2.2.2.2.2.2.2.2.2.2.1 v.2.2.2.2.2.2.2.2.2.2.2.2.2.2.2.2.2.2.2.2.2.1) fun z=>nz p (v.1,v.2.1,v.2.2.1,v.2.2.2.1,v.2.2.2.2.1,v.2.2.2.2.2.1,v.2.2.2.2.2.2.1,v.2.2.2.2.2.2.2.1,v.2.2.2.2.2.2.2.2.1,v.2.2.2.2.2.2.2.2.2.1,v.2.2.2.2.2.2.2.2.2.2.1,v.2.2.2.2.2.2.2.2.2.2.2.1,v.2.2.2.2.2.2.2.2.2.2.2.2.1,v.2.2.2.2.2.2.2.2.2.2.2.2.2.1,v.2.2.2.2.2.2.2.2.2.2.2.2.2.2.1,v.2.2.2.2.2.2.2.2.2.2.2.2.2.2.2.1,v.2.2.2.2.2.2.2.2.2.2.2.2.2.2.2.2.1,v.2.2.2.2.2.2.2.2.2.2.2.2.2.2.2.2.2.1,v.2.2.2.2.2.2.2.2.2.2.2.2.2.2.2.2.2.2.1,v.2.2.2.2.2.2.2.2.2.2.2.2.2.2.2.2.2.2.2.1,v.2.2.2.2.2.2.2.2.2.2.2.2.2.2.2.2.2.2.2.2.1,v.2.2.2.2.2.2.2.2.2.2.2.2.2.2.2.2.2.2.2.2.2.1,v.2.2.2.2.2.2.2.2.2.2.2.2.2.2.2.2.2.2.2.2.2.2.1,z) k
def Q7 (a:Val Å) (b:Val aa) (c:Val aa):Option (Val Å):=ai9 a b c some
def JB (a:Val Ã) (b:Int) (c:Int) (k:Bool→Option ρ):Option ρ :=
  ifb (ile b a.1) (ifb (ile a.1 a.2) (k (ile a.2 c)) (k false)) (k false)
def Τ (a:Val Ã) (b:Int) (c:Int):Option (Bool):=JB a b c some
def Ju (a:Int) (b:Int) (c:Int) (k:Bool→Option ρ):Option ρ :=
  ifb (ile b a) (k (ile a c)) (k false)
def ğ (a:Int) (b:Int) (c:Int):Option (Bool):=Ju a b c some
def QC (a:Int) (k:Bool→Option ρ):Option ρ :=
  Ä (ğ a (0:Int) (20000:Int)) fun b=>k b
def nV (a:Int):Option (Bool):=QC a some
def XK (a:Int) (k:Int→Option ρ):Option ρ :=
  ifb (ilt a 0) (k (IntKind.wrap .u64 (0-(IntKind.wrap .u64 a)))) (k (IntKind.wrap .u64 a))
def rR (a:Int):Option (Int):=XK a some
def Ak (b:Int) (a:Int) (c:Int→Int→Option ρ) (d:Int→Option ρ):Option ρ :=
  ifb (ine a 0) (ifb (Ŋ a 0) (none) (c a (Int.tmod b a))) (d b)
def ad0 (b:Int) (c:Int) (k:Int→Option ρ):Option ρ :=
  Ñ (fun(a:Val bf) d=>Ak a.1 a.2 (fun e f=>d (e,f)) (fun g=>k g)) (b,c)
def Q8 (a:Int) (b:Int):Option (Int):=ad0 a b some
def Qj (a:Val Ã) (k:Bool→Option ρ):Option ρ :=
  ifb (ige a.2 1) (ifb (ile a.2 2147483647) (Ä (rR a.1) fun b=>ifb (ile b 2147483647) (Ä (rR a.1) fun c=>Ä (rR a.2) fun d=>Ä (Q8 c d) fun e=>k (ieq e 1)) (k false)) (k false)) (k false)
def uA (a:Val Ã):Option (Bool):=Qj a some
def DN (a:Val Ð) (k:Bool→Option ρ):Option ρ :=
  Ä (uA a.2.2.2.2.1) fun b=>ifb b (Ä (ğ a.2.2.2.2.1.1 (-1000:Int) (1000:Int)) fun c=>ifb c (Ä (ğ a.1 (1:Int) (1099511627776:Int)) fun d=>ifb d (Ä (nV a.2.1) fun e=>ifb e (Ä (ğ a.2.2.1 (1:Int) (1125899906842624:Int)) fun f=>ifb f (Ä (Τ a.2.2.2.1 (-1073741824:Int) (1073741824:Int)) fun g=>ifb g (ifb (ile a.2.2.2.2.1.2 100) (Ä (ğ a.2.2.2.2.2 (0:Int) (1048576:Int)) fun h=>k h) (k false)) (k false)) (k false)) (k false)) (k false)) (Ä (ğ a.1 (1:Int) (1099511627776:Int)) fun i=>ifb i (Ä (nV a.2.1) fun j=>ifb j (Ä (ğ a.2.2.1 (1:Int) (1125899906842624:Int)) fun l=>ifb l (Ä (Τ a.2.2.2.1 (-1073741824:Int) (1073741824:Int)) fun m=>ifb m (k false) (k false)) (k false)) (k false)) (k false))) (Ä (ğ a.1 (1:Int) (1099511627776:Int)) fun n=>ifb n (Ä (nV a.2.1) fun o=>ifb o (Ä (ğ a.2.2.1 (1:Int) (1125899906842624:Int)) fun p=>ifb p (Ä (Τ a.2.2.2.1 (-1073741824:Int) (1073741824:Int)) fun q=>ifb q (k false) (k false)) (k false)) (k false)) (k false))
def wm (a:Val Ð):Option (Bool):=DN a some
def i9 (e:Val ac) (f:Int) (g:Val ac) (a:Int) (b:Int→Option ρ) (c:Int→Option ρ) (h:Unit→Option ρ):Option ρ :=
  ifb (ilt a f) (ü e a fun d=>Ä (wm d) fun i=>ifb (!i) (c (1:Int)) (ifb (igt a 0) (ck (a-(1:Int)) fun j=>ü g j fun k=>ifb (ile d.1 k.1) (c (6:Int)) (ck (a+(1:Int)) fun l=>b l)) (ck (a+(1:Int)) fun m=>b m))) (h ())
def pZ (a:Val Å) (k:Int→Option ρ):Option ρ :=
  Ñ (fun(b:Int) c=>i9 a.2.1 (Þ a.2.1) a.2.1 b (fun d=>c d) (fun e=>k e) (fun _=>k (0:Int))) (0:Int)
def Β (a:Val Å):Option (Int):=pZ a some
def mZ (d:Val ac) (e:Int) (a:Int) (b:Val aq) (f:Int→Val aq→Option ρ) (g:Val aq→Option ρ):Option ρ :=
  ifb (ilt a e) (ü d a fun c=>ck (a+(1:Int)) fun h=>f h (Ni (k:=tI) (v:=Ð) c.1 c b)) (g b)
def DK (a:Val Å) (k:Val aq→Option ρ):Option ρ :=
  Ñ (fun(b:(Val (.pair tI aq))) c=>mZ a.2.1 (Þ a.2.1) b.1 b.2 (fun d e=>c (d,e)) (fun f=>k f)) ((0:Int),[])
def υ (a:Val Å):Option ((Val aq)):=DK a some
def gX (b:Val ae) (c:Int) (d:Int) (a:Int) (e:Int→Option ρ) (f:Int→Option ρ) (g:Unit→Option ρ):Option ρ :=
  ifb (ilt a d) (ü b a fun h=>ifb (ieq c h) (f a) (ck (a+(1:Int)) fun i=>e i)) (g ())
def mj (a:Val ae) (b:Int) (k:Int→Option ρ):Option ρ :=
  Ñ (fun(c:Int) d=>gX a b (Þ a) c (fun e=>d e) (fun f=>k f) (fun _=>k (-1:Int))) (0:Int)
def jB (a:Val ae) (b:Int):Option (Int):=mj a b some
def jI (a:Val ae) (b:Int) (k:Bool→Option ρ):Option ρ :=
  Ä (jB a b) fun c=>k (ige c 0)
def ĩ (a:Val ae) (b:Int):Option (Bool):=jI a b some
def vN (f:Val ab) (g:Int) (d:Int) (a:Int) (b:Val ae) (e:Int→Val ae→Option ρ) (h:Val ae→Option ρ):Option ρ :=
  ifb (ilt a g) (ü f a fun c=>Ä (ĩ c.2.2.1 d) fun i=>Ä (ĩ c.2.2.2.1 d) fun j=>ifb (!(i==j)) (ì (ê ((List.length b)+(List.length ([c.2.1])))) (ck (a+(1:Int)) fun k=>e k (b++([c.2.1])))) (ck (a+(1:Int)) fun l=>e l b)) (h b)
def vM (e:Val aa) (f:Int) (g:Int) (a:Int) (b:Val ae) (d:Int→Val ae→Option ρ) (h:Val ae→Option ρ):Option ρ :=
  ifb (ilt a f) (ü e a fun c=>ifb (ieq c.1 g) (ì (ê ((List.length b)+(List.length ([c.2])))) (ck (a+(1:Int)) fun i=>d i (b++([c.2])))) (ck (a+(1:Int)) fun j=>d j b)) (h b)
def X8 (a:Val Å) (b:Val Ð) (k:Val ae→Option ρ):Option ρ :=
  Ñ (fun(d:Val ar) f=>vN a.2.2.2.2.1 (Þ a.2.2.2.2.1) b.1 d.1 d.2 (fun g h=>f (g,h)) (fun i=>Ñ (fun(e:Val ar) j=>vM a.2.2.2.2.2 (Þ a.2.2.2.2.2) b.1 e.1 e.2 (fun l m=>j (l,m)) (fun c=>ì (ê (List.length c)) (ì (ê (List.length (Ee c))) (k (AK (Ee c)))))) ((0:Int),i))) ((0:Int),[b.2.1])
def oW (a:Val Å) (b:Val Ð):Option ((Val ae)):=X8 a b some
def rI (e:Val ae) (f:Int) (c:Int) (a:Int) (b:Val aa) (g:Int→Val aa→Option ρ) (h:Val aa→Option ρ):Option ρ :=
  ifb (ilt a f) (ü e a fun d=>ì (ê ((List.length b)+(List.length ([(c,d)])))) (ck (a+(1:Int)) fun i=>g i (b++([(c,d)])))) (h b)
def rJ (f:Val ac) (g:Int) (h:Int) (i:Int) (j:Val ac) (k:Val aa) (l:Val af) (m:Val ab) (n:Val aa) (a:Int) (b:Val aa) (o:Int→Val aa→Option ρ) (p:Val aa→Option ρ):Option ρ :=
  ifb (ilt a g) (ü f a fun c=>Ä (oW ((h,i),j,k,l,m,n) c) fun d=>Ñ (fun(e:Val aF) q=>rI d (Þ d) c.1 e.1 e.2 (fun r s=>q (r,s)) (fun t=>ck (a+(1:Int)) fun u=>o u t)) ((0:Int),b)) (p b)
def Qx (a:Val Å) (k:Val aa→Option ρ):Option ρ :=
  Ñ (fun(b:Val aF) c=>rJ a.2.1 (Þ a.2.1) a.1.1 a.1.2 a.2.1 a.2.2.1 a.2.2.2.1 a.2.2.2.2.1 a.2.2.2.2.2 b.1 b.2 (fun d e=>c (d,e)) (fun f=>k f)) ((0:Int),[])
def qv (a:Val Å):Option ((Val aa)):=Qx a some
def sv (a:Val aq) (b:Int) (c:Int) (k:Int→Option ρ):Option ρ :=
  Y7 (k:=tI) (v:=Ð) b a (fun d=>ifb (ilt c d.2.1) (k (4:Int)) (k (0:Int))) (k (5:Int))
def iY (a:Val aq) (b:Int) (c:Int):Option (Int):=sv a b c some
def DM (b:Int) (a:Int) (c:(Val (.ptr aq))) (k:Int→Option ρ):Option ρ :=
  Ä (nV a) fun d=>ifb (!d) (k (1:Int)) (Ä (iY c b a) fun e=>k e)
def ņ (a:Int) (b:Int) (c:(Val (.ptr aq))):Option (Int):=DM a b c some
def j8 (d:Val af) (e:Int) (f:Int) (g:Int) (h:Int) (a:Int) (b:Int→Option ρ) (i:Int→Option ρ) (j:Unit→Option ρ):Option ρ :=
  ifb (ilt a e) (ü d a fun c=>ifb (ieq c.1 f) (ifb (ile c.2.1.1 h) (ifb (ile g c.2.1.2) (i a) (ck (a+(1:Int)) fun k=>b k)) (ck (a+(1:Int)) fun l=>b l)) (ck (a+(1:Int)) fun m=>b m)) (j ())
def Ρ (d:Val aa) (e:Int) (f:Int) (g:Int) (h:Int) (a:Int) (b:Int→Option ρ) (i:Int→Option ρ) (j:Unit→Option ρ):Option ρ :=
  ifb (ilt a e) (ü d a fun c=>ifb (ieq c.1 f) (Ä (ğ c.2 g h) fun k=>ifb k (i a) (ck (a+(1:Int)) fun l=>b l)) (ck (a+(1:Int)) fun m=>b m)) (j ())
def vO (b:Val Å) (e:Val aq) (c:Int) (k:Int→Option ρ):Option ρ :=
  ü b.2.2.2.1 c fun a=>Ä (Τ a.2.1 (0:Int) (20000:Int)) fun f=>ifb (!f) (k (1:Int)) (Ä (ğ a.2.2 (0:Int) (1048576:Int)) fun g=>ifb (!g) (k (1:Int)) (Ä (iY e a.1 a.2.1.1) fun d=>ifb (ine d 0) (k d) (ì ((ile 0 c)&&(ile c (ą b.2.2.2.1))) (Ñ (fun(h:Int) i=>j8 (List.take (Int.toNat c) b.2.2.2.1) (Þ (List.take (Int.toNat c) b.2.2.2.1)) a.1 a.2.1.1 a.2.1.2 h (fun j=>i j) (fun l=>ifb (ige l 0) (k (9:Int)) (Ñ (fun(m:Int) n=>Ρ b.2.2.1 (Þ b.2.2.1) a.1 a.2.1.1 a.2.1.2 m (fun o=>n o) (fun p=>ifb (ige p 0) (k (9:Int)) (k (0:Int))) (fun _=>k (0:Int))) (0:Int))) (fun _=>Ñ (fun(q:Int) r=>Ρ b.2.2.1 (Þ b.2.2.1) a.1 a.2.1.1 a.2.1.2 q (fun s=>r s) (fun t=>ifb (ige t 0) (k (9:Int)) (k (0:Int))) (fun _=>k (0:Int))) (0:Int))) (0:Int)))))
def Ψ (a:Val Å) (b:Val aq) (c:Int):Option (Int):=vO a b c some
def vL (c:Int) (d:Val ae) (b:Val ae) (a:Int) (e:Int→Option ρ) (f:Int→Option ρ) (g:Unit→Option ρ):Option ρ :=
  ifb (ilt a c) (ì ((ile 0 a)&&(ilt a (ą b))) (Ķ b (Int.toNat a) fun h=>Ä (ĩ d h) fun i=>ifb i (f a) (ck (a+(1:Int)) fun j=>e j))) (g ())
def kr (f:Val ae) (b:Int) (c:Int) (a:Val ae) (d:Int→Int→Val ae→Option ρ) (g:Val ar→Option ρ):Option ρ :=
  ifb (ilt c (Þ a)) (ì ((ile 0 c)&&(ilt c (ą a))) (Ķ a (Int.toNat c) fun e=>Ä (ĩ f e) fun h=>ifb (!h) (ì ((ile 0 b)&&(ilt b (ą a))) (Ķ a (Int.toNat b) fun l=>ck (b+(1:Int)) fun i=>ck (c+(1:Int)) fun j=>d i j (List.set a (Int.toNat b) e))) (ck (c+(1:Int)) fun k=>d b k a))) (g (b,a))
def X0 (b:Val ae) (e:Val ae) (k:Val ae→Option ρ):Option ρ :=
  ì (ê (List.length b)) (Ñ (fun(f:Int) g=>vL (Þ b) e b f (fun h=>g h) (fun c=>ifb (ieq c (-1:Int)) (k b) (ck (c+(1:Int)) fun i=>Ñ (fun(d:(Val (.pair tI ar))) j=>kr e d.1 d.2.1 d.2.2 (fun l m n=>j (l,m,n)) (fun a=>ì ((ile 0 a.1)&&(ile a.1 (ą a.2))) (ì ((ile 0 a.1)&&(ile a.1 (ą (List.take (Int.toNat a.1) a.2++List.replicate (List.length a.2-(Int.toNat a.1)) (0:Int)++List.drop ((Int.toNat a.1)+(List.length a.2-(Int.toNat a.1))) a.2)))) (k (List.take (Int.toNat a.1) (List.drop 0 (List.take (Int.toNat a.1) a.2++List.replicate (List.length a.2-(Int.toNat a.1)) (0:Int)++List.drop ((Int.toNat a.1)+(List.length a.2-(Int.toNat a.1))) a.2))))))) (c,i,b))) (fun _=>k b)) (0:Int))
def ů (a:Val ae) (b:Val ae):Option ((Val ae)):=X0 a b some
def oP (e:Val ae) (f:Val ae) (g:Int) (a:Int) (b:Int→Option ρ) (c:Bool→Option ρ) (h:Unit→Option ρ):Option ρ :=
  ifb (ilt a g) (ü f a fun d=>Ä (ğ d (1:Int) (1099511627776:Int)) fun i=>ifb (!i) (c false) (ifb (igt a 0) (ck (a-(1:Int)) fun j=>ü e j fun k=>ifb (ile d k) (c false) (ck (a+(1:Int)) fun l=>b l)) (ck (a+(1:Int)) fun m=>b m))) (h ())
def JA (a:Val ae) (k:Bool→Option ρ):Option ρ :=
  Ñ (fun(b:Int) c=>oP a a (Þ a) b (fun d=>c d) (fun e=>k e) (fun _=>k (ile (Þ a) 6))) (0:Int)
def mL (a:Val ae):Option (Bool):=JA a some
def vP (d:Val af) (e:Int) (f:Int) (g:Int) (a:Int) (c:Int→Option ρ) (h:Int→Option ρ) (i:Unit→Option ρ):Option ρ :=
  ifb (ilt a e) (ü d a fun b=>ifb (ieq b.1 f) (Ä (ğ g b.2.1.1 b.2.1.2) fun j=>ifb j (h a) (ck (a+(1:Int)) fun k=>c k)) (ck (a+(1:Int)) fun l=>c l)) (i ())
def X9 (a:Val Å) (c:Int) (d:Int) (k:Val ba→Option ρ):Option ρ :=
  Ñ (fun(e:Int) f=>vP a.2.2.2.1 (Þ a.2.2.2.1) c d e (fun g=>f g) (fun b=>ifb (ilt b 0) (k (((0:Int),((0:Int),(0:Int)),(0:Int)),false)) (ü a.2.2.2.1 b fun h=>k (h,true))) (fun _=>k (((0:Int),((0:Int),(0:Int)),(0:Int)),false))) (0:Int)
def AH (a:Val Å) (b:Int) (c:Int):Option ((Val ba)):=X9 a b c some
def iG (b:Val ab) (c:Int) (d:Int) (a:Int) (e:Int→Option ρ) (f:Int→Option ρ) (g:Unit→Option ρ):Option ρ :=
  ifb (ilt a c) (ü b a fun h=>ifb (ieq h.1 d) (f a) (ck (a+(1:Int)) fun i=>e i)) (g ())
def iF (c:Val aq) (b:Int) (d:Val ae) (e:Int) (f:Int) (a:Int) (g:Int→Option ρ) (h:Int→Option ρ) (i:Unit→Option ρ):Option ρ :=
  ifb (ilt a e) (ü d a fun j=>Ä (iY c j f) fun k=>ifb (ieq k b) (h b) (ck (a+(1:Int)) fun l=>g l)) (i ())
def œ (d:Val aq) (b:Val ae) (e:Int) (f:Int) (c:Val ae) (a:Int) (g:Int→Option ρ) (h:Int→Option ρ) (i:Unit→Option ρ):Option ρ :=
  ifb (ilt a e) (ì ((ile 0 a)&&(ilt a (ą c))) (Ķ c (Int.toNat a) fun j=>Ñ (fun(k:Int) l=>iF d j b (Þ b) f k (fun m=>l m) (fun n=>h n) (fun _=>ck (a+(1:Int)) fun o=>g o)) (0:Int))) (i ())
def Œ (b:Val ae) (c:Int) (d:Int) (e:Int) (f:Val ac) (g:Val aa) (h:Val af) (i:Val ab) (j:Val aa) (k:Int) (a:Int) (l:Int→Option ρ) (m:Int→Option ρ) (n:Unit→Option ρ):Option ρ :=
  ifb (ilt a c) (ü b a fun o=>Ä (AH ((d,e),f,g,h,i,j) o k) fun p=>ifb p.2 (m (9:Int)) (ck (a+(1:Int)) fun q=>l q)) (n ())
def oj (b:Val Å) (f:Val aq) (c:Int) (k:Int→Option ρ):Option ρ :=
  ü b.2.2.2.2.1 c fun a=>Ä (ğ a.1 (1:Int) (1099511627776:Int)) fun l=>ifb (!l) (k (1:Int)) (Ä (nV a.2.1) fun m=>ifb (!m) (k (1:Int)) (Ä (ğ a.2.2.2.2.1 (-1125899906842624:Int) (1125899906842624:Int)) fun n=>ifb (!n) (k (1:Int)) (Ä (ğ a.2.2.2.2.2.1 (0:Int) (1073741824:Int)) fun o=>ifb (!o) (k (1:Int)) (Ä (Τ a.2.2.2.2.2.2 (-10000:Int) (10000:Int)) fun p=>ifb (!p) (k (1:Int)) (Ä (mL a.2.2.1) fun q=>ifb (!q) (k (1:Int)) (Ä (mL a.2.2.2.1) fun r=>ifb (!r) (k (1:Int)) (ì ((ile 0 c)&&(ile c (ą b.2.2.2.2.1))) (Ñ (fun(s:Int) t=>iG (List.take (Int.toNat c) b.2.2.2.2.1) (Þ (List.take (Int.toNat c) b.2.2.2.2.1)) a.1 s (fun u=>t u) (fun v=>ifb (ige v 0) (k (6:Int)) (Ä (ò ([a.2.2.1,a.2.2.2.1])) fun d=>Ñ (fun(w:Int) x=>œ f d (Þ ([(5:Int),(4:Int)])) a.2.1 ([(5:Int),(4:Int)]) w (fun y=>x y) (fun z=>k z) (fun _=>Ñ (fun(A:Int) B=>Œ d (Þ d) b.1.1 b.1.2 b.2.1 b.2.2.1 b.2.2.2.1 b.2.2.2.2.1 b.2.2.2.2.2 a.2.1 A (fun C=>B C) (fun D=>k D) (fun _=>Ä (ů a.2.2.1 a.2.2.2.1) fun g=>Ä (ů a.2.2.2.1 a.2.2.1) fun h=>ifb (igt (Þ g) 1) (k (1:Int)) (ifb (igt (Þ h) 1) (k (1:Int)) (ck ((Þ g)+(Þ h)) fun E=>ifb (ieq E 0) (k (1:Int)) (k (0:Int)))))) (0:Int))) (0:Int))) (fun _=>Ä (ò ([a.2.2.1,a.2.2.2.1])) fun e=>Ñ (fun(F:Int) G=>œ f e (Þ ([(5:Int),(4:Int)])) a.2.1 ([(5:Int),(4:Int)]) F (fun H=>G H) (fun I=>k I) (fun _=>Ñ (fun(J:Int) K=>Œ e (Þ e) b.1.1 b.1.2 b.2.1 b.2.2.1 b.2.2.2.1 b.2.2.2.2.1 b.2.2.2.2.2 a.2.1 J (fun L=>K L) (fun M=>k M) (fun _=>Ä (ů a.2.2.1 a.2.2.2.1) fun i=>Ä (ů a.2.2.2.1 a.2.2.1) fun j=>ifb (igt (Þ i) 1) (k (1:Int)) (ifb (igt (Þ j) 1) (k (1:Int)) (ck ((Þ i)+(Þ j)) fun N=>ifb (ieq N 0) (k (1:Int)) (k (0:Int)))))) (0:Int))) (0:Int))) (0:Int)))))))))
def ň (a:Val Å) (b:Val aq) (c:Int):Option (Int):=oj a b c some
def nN (b:Val Å) (s:Val aq):Option (List Int) :=
  Ä (Oo (fun u=>ņ u.1 u.2 s) (b.2.2.1:List (Int×Int))) fun a=>Ä (Oo (fun i=>Ψ b s i) (xu (b.2.2.2.1:List (Val ō)).length)) fun c =>
    Ä (Oo (fun i=>ň b s i) (xu (b.2.2.2.2.1:List (Val É)).length)) fun d=>Ä (Oo (fun u=>ņ u.1 u.2 s) (b.2.2.2.2.2:List (Int×Int))) fun e=>some (a++(c++(d++e)))
def QI (a:Val Å) (k:Int→Option ρ):Option ρ :=
  Ä (Τ a.1 (0:Int) (1000000:Int)) fun d=>ifb (!d) (k (1:Int)) (ifb (igt (Þ a.2.1) 12) (k (2:Int)) (ifb (igt (Þ a.2.2.1) 40) (k (2:Int)) (ifb (igt (Þ a.2.2.2.1) 12) (k (2:Int)) (ifb (igt (Þ a.2.2.2.2.1) 40) (k (2:Int)) (ifb (igt (Þ a.2.2.2.2.2) 10) (k (2:Int)) (Ä (Β a) fun b=>ifb (ine b 0) (k b) (Ä (υ a) fun e=>ZD (nN a e) (fun f=>k f) (Ä (qv a) fun c=>ifb (igt (Þ c) 59) (k (2:Int)) (ck ((2:Int)*(Þ a.2.1)) fun g=>ck ((Þ c)-(Þ a.2.1)) fun h=>ck ((2:Int)*h) fun i=>ck (g+i) fun j=>ck ((2:Int)*(Þ a.2.2.2.2.1)) fun l=>ck (j+l) fun m=>ifb (igt m 300) (k (2:Int)) (k (0:Int)))))))))))
def ÿ (a:Val Å):Option (Int):=QI a some
def IC (a:Val É) (k:Bool→Option ρ):Option ρ :=
  ifb (ile (Þ a.2.2.1) 10) (k (ile (Þ a.2.2.2.1) 10)) (k false)
def ug (a:Val É):Option (Bool):=IC a some
def uT (b:Val ab) (a:Int) (d:Int→Option ρ) (e:Bool→Option ρ) (c:Unit→Option ρ):Option ρ :=
  ifb (ilt a (Þ b)) (ifb (ilt a 50) (ü b a fun f=>Ä (ug f) fun g=>ifb (!g) (e false) (ck (a+(1:Int)) fun h=>d h)) (c ())) (c ())
def Wt (a:Val Å) (k:Bool→Option ρ):Option ρ :=
  Ñ (fun(b:Int) c=>uT a.2.2.2.2.1 b (fun d=>c d) (fun e=>k e) (fun _=>ifb (ile (Þ a.2.1) 14) (ifb (ile (Þ a.2.2.1) 45) (ifb (ile (Þ a.2.2.2.1) 14) (ifb (ile (Þ a.2.2.2.2.1) 42) (k (ile (Þ a.2.2.2.2.2) 12)) (k false)) (k false)) (k false)) (k false))) (0:Int)
def Nu (a:Val Å):Option (Bool):=Wt a some
def Ī (c:Val aa) (d:Int) (e:Int) (f:Int) (a:Int) (g:Int→Option ρ) (h:Int→Option ρ) (i:Unit→Option ρ):Option ρ :=
  ifb (ilt a d) (ü c a fun b=>ifb ((Ŋ e b.1)&&((Ŋ f b.2)&&true)) (h a) (ck (a+(1:Int)) fun j=>g j)) (i ())
def ż (a:Val aa) (b:Val Ã) (k:Int→Option ρ):Option ρ :=
  Ñ (fun(c:Int) d=>Ī a (Þ a) b.1 b.2 c (fun e=>d e) (fun f=>k f) (fun _=>k (-1:Int))) (0:Int)
def þ (a:Val aa) (b:Val Ã):Option (Int):=ż a b some
def QH (a:Val Å) (d:Val Ã) (k:Val Ã→Option ρ):Option ρ :=
  Ä (ÿ a) fun b=>ifb (ine b 0) (k ((0:Int),b)) (Ä (qv a) fun e=>Ä (þ e d) fun c=>ifb (ilt c 0) (k ((0:Int),(5:Int))) (ck (c+(1:Int)) fun f=>k (f,(0:Int))))
def ũ (a:Val Å) (b:Val Ã):Option (Val Ã):=QH a b some
def Dv (a:Val ax) (b:Val Ã) (k:Int→Option ρ):Option ρ :=
  Ä (ũ a.1 b) fun c=>k c.1
def ς (a:Val ax) (b:Val Ã):Option (Int):=Dv a b some
def hZ (c:Val ah) (d:Int) (b:Int) (a:Int) (e:Int→Int→Option ρ) (f:Int→Option ρ):Option ρ :=
  ifb (ilt a d) (ü c a fun g=>ck (b+(mG g.2.2 (0:Int))) fun h=>ck (a+(1:Int)) fun i=>e h i) (f b)
def Ř (f:Int) (d:Val ae) (a:Int) (b:Val az) (c:Val ae) (e:Int→Val az→Val ae→Option ρ) (g:Val aK→Option ρ):Option ρ :=
  ifb (ilt a f) (ì ((ile 0 a)&&(ilt a (ą d))) (Ķ d (Int.toNat a) fun h=>ifb (ine h 1152921504606846976) (ì (ê ((List.length c)+(List.length ([a])))) (ì ((ile 0 a)&&(ilt a (ą b))) (Ķ b (Int.toNat a) fun k=>ck (a+(1:Int)) fun i=>e i (List.set b (Int.toNat a) true) (c++([a]))))) (ck (a+(1:Int)) fun j=>e j b c))) (g (b,c))
def jg (m:Val ak) (j:Int) (d:Int) (n:Val ah) (o:Int) (f:Int) (b:Val ae) (c:Val az) (e:Val ae) (g:Int→Val ae→Val az→Val ae→Option ρ) (l:(Val (.pair .bool (.pair ae aK)))→Option ρ) (p:(Val (.pair ae aK))→Option ρ):Option ρ :=
  ifb (ilt f o) (ü n f fun a=>ifb (ine a.1 d) (ck (f+(1:Int)) fun q=>g q b c e) (Y7 (k:=tI) (v:=.bool) f m (fun r=>ifb r (ck (f+(1:Int)) fun s=>g s b c e) (ì ((ile 0 d)&&(ilt d (ą b))) (Ķ b (Int.toNat d) fun t=>ck (t+a.2.2) fun u=>ì ((ile 0 a.2.1)&&(ilt a.2.1 (ą b))) (Ķ b (Int.toNat a.2.1) fun w=>ifb (ige u w) (ck (f+(1:Int)) fun x=>g x b c e) (ì ((ile 0 d)&&(ilt d (ą b))) (Ķ b (Int.toNat d) fun y=>ck (y+a.2.2) fun h=>ì ((ile 0 a.2.1)&&(ilt a.2.1 (ą b))) (Ķ b (Int.toNat a.2.1) fun M=>ì ((ile 0 a.2.1)&&(ilt a.2.1 (ą (List.set b (Int.toNat a.2.1) h)))) (Ķ (List.set b (Int.toNat a.2.1) h) (Int.toNat a.2.1) fun z=>ifb (ilt z j) (l (false,(List.set b (Int.toNat a.2.1) h),c,e)) (ì ((ile 0 a.2.1)&&(ilt a.2.1 (ą c))) (Ķ c (Int.toNat a.2.1) fun A=>ifb (!A) (ì (ê ((List.length e)+(List.length ([a.2.1])))) (ì ((ile 0 a.2.1)&&(ilt a.2.1 (ą c))) (Ķ c (Int.toNat a.2.1) fun N=>ck (f+(1:Int)) fun B=>g B (List.set b (Int.toNat a.2.1) h) (List.set c (Int.toNat a.2.1) true) (e++([a.2.1]))))) (ck (f+(1:Int)) fun C=>g C (List.set b (Int.toNat a.2.1) h) c e))))))))))) (ì ((ile 0 d)&&(ilt d (ą b))) (Ķ b (Int.toNat d) fun D=>ck (D+a.2.2) fun E=>ì ((ile 0 a.2.1)&&(ilt a.2.1 (ą b))) (Ķ b (Int.toNat a.2.1) fun F=>ifb (ige E F) (ck (f+(1:Int)) fun G=>g G b c e) (ì ((ile 0 d)&&(ilt d (ą b))) (Ķ b (Int.toNat d) fun H=>ck (H+a.2.2) fun i=>ì ((ile 0 a.2.1)&&(ilt a.2.1 (ą b))) (Ķ b (Int.toNat a.2.1) fun O=>ì ((ile 0 a.2.1)&&(ilt a.2.1 (ą (List.set b (Int.toNat a.2.1) i)))) (Ķ (List.set b (Int.toNat a.2.1) i) (Int.toNat a.2.1) fun I=>ifb (ilt I j) (l (false,(List.set b (Int.toNat a.2.1) i),c,e)) (ì ((ile 0 a.2.1)&&(ilt a.2.1 (ą c))) (Ķ c (Int.toNat a.2.1) fun J=>ifb (!J) (ì (ê ((List.length e)+(List.length ([a.2.1])))) (ì ((ile 0 a.2.1)&&(ilt a.2.1 (ą c))) (Ķ c (Int.toNat a.2.1) fun P=>ck (f+(1:Int)) fun K=>g K (List.set b (Int.toNat a.2.1) i) (List.set c (Int.toNat a.2.1) true) (e++([a.2.1]))))) (ck (f+(1:Int)) fun L=>g L (List.set b (Int.toNat a.2.1) i) c e)))))))))))) (p (b,c,e))
def į (l:Val ak) (m:Int) (n:Int) (k:Val ah) (h:Val ae) (d:Val az) (b:Val ae) (c:Val ae) (o:Val ae→Val az→Val ae→Val ae→Option ρ) (i:(Val (.pair .bool aL))→Option ρ):Option ρ :=
  ifb (ieq (Þ c) 0) (i (true,h,d,b,c)) (ì (ilt 0 (ą c)) (Ķ c 0 fun a=>ì (ile 1 (ą c)) (ì (decide (1+(List.length c-1)=List.length c)) (ì ((ile 0 a)&&(ilt a (ą d))) (Ķ d (Int.toNat a) fun x=>ì ((ile 0 a)&&(ilt a (ą b))) (Ķ b (Int.toNat a) fun p=>ck (p+(1:Int)) fun e=>ì ((ile 0 a)&&(ilt a (ą b))) (Ķ b (Int.toNat a) fun y=>ì ((ile 0 a)&&(ilt a (ą (List.set b (Int.toNat a) e)))) (Ķ (List.set b (Int.toNat a) e) (Int.toNat a) fun q=>ck (n+(1:Int)) fun r=>ifb (igt q r) (i (false,h,(List.set d (Int.toNat a) false),(List.set b (Int.toNat a) e),(List.drop 1 c))) (Ñ (fun(f:(Val (.pair tI (.pair ae aK)))) s=>jg l m a k (Þ k) f.1 f.2.1 f.2.2.1 f.2.2.2 (fun t u v w=>s (t,u,v,w)) (fun g=>i (g.1,g.2.1,g.2.2.1,(List.set b (Int.toNat a) e),g.2.2.2)) (fun j=>o j.1 j.2.1 (List.set b (Int.toNat a) e) j.2.2)) ((0:Int),h,(List.set d (Int.toNat a) false),(List.drop 1 c)))))))))))
def jf (c:Int) (d:Int) (a:Int) (b:Val ae) (e:Int→Val ae→Option ρ) (f:Val ae→Option ρ):Option ρ :=
  ifb (ilt a d) (ì ((ile 0 a)&&(ilt a (ą b))) (Ķ b (Int.toNat a) fun g=>ck (g-c) fun h=>ì ((ile 0 a)&&(ilt a (ą b))) (Ķ b (Int.toNat a) fun j=>ck (a+(1:Int)) fun i=>e i (List.set b (Int.toNat a) h)))) (f b)
def yS (a:Val Í) (h:Val ak) (k:(Val (.pair ae .bool))→Option ρ):Option ρ :=
  ì ((ile 0 a.1)&&(ê (Int.toNat a.1))) (ì ((ile 0 a.1)&&(ê (Int.toNat a.1))) (ì ((ile 0 a.1)&&(ê (Int.toNat a.1))) (Ñ (fun(e:Val Ã) i=>hZ a.2 (Þ a.2) e.1 e.2 (fun j l=>i (j,l)) (fun m=>Ñ (fun(d:(Val (.pair tI aK))) n=>Ř a.1 (List.replicate (Int.toNat a.1) (0:Int)) d.1 d.2.1 d.2.2 (fun o p q=>n (o,p,q)) (fun f=>Ñ (fun(c:Val aL) r=>į h m a.1 a.2 c.1 c.2.1 c.2.2.1 c.2.2.2 (fun s t u v=>r (s,t,u,v)) (fun b=>ifb (!b.1) (k ([],false)) (ì (ilt 0 (ą b.2.1)) (Ķ b.2.1 0 fun w=>Ñ (fun(g:Val ar) x=>jf w (Þ b.2.1) g.1 g.2 (fun y z=>x (y,z)) (fun A=>k (A,true))) ((0:Int),b.2.1))))) ((List.replicate (Int.toNat a.1) (0:Int)),f.1,(List.replicate (Int.toNat a.1) (0:Int)),f.2))) ((0:Int),(List.replicate (Int.toNat a.1) false),[]))) ((0:Int),(0:Int)))))
def kJ (a:Val Í) (b:Val ak):Option ((Val (.pair ae .bool))):=yS a b some
def XB (b:Val Í) (a:Int) (k:Bool→Option ρ):Option ρ :=
  ifb (ige a 0) (k (ilt a b.1)) (k false)
def rQ (a:Val Í) (b:Int):Option (Bool):=XB a b some
def ru (f:Val ah) (g:Int) (d:Int) (e:Val ah) (a:Int) (h:Int→Option ρ) (c:Val Ã→Option ρ) (i:Unit→Option ρ):Option ρ :=
  ifb (ilt a g) (ü f a fun b=>Ä (rQ (d,e) b.1) fun j=>ifb (!j) (c ((1:Int),a)) (Ä (rQ (d,e) b.2.1) fun k=>ifb (!k) (c ((1:Int),a)) (ifb (ieq b.1 b.2.1) (c ((1:Int),a)) (ifb (ilt b.2.2 (-4503599627370496:Int)) (c ((1:Int),a)) (ifb (igt b.2.2 4503599627370496) (c ((1:Int),a)) (ck (a+(1:Int)) fun l=>h l)))))) (i ())
def P4 (a:Val Í) (k:Val Ã→Option ρ):Option ρ :=
  ifb (ilt a.1 1) (k ((1:Int),(-1:Int))) (ifb (igt a.1 60) (k ((1:Int),(-1:Int))) (ifb (igt (Þ a.2) 300) (k ((2:Int),(-1:Int))) (Ñ (fun(c:Int) d=>ru a.2 (Þ a.2) a.1 a.2 c (fun e=>d e) (fun b=>k (b.1,b.2)) (fun _=>k ((0:Int),(-1:Int)))) (0:Int))))
def nT (a:Val Í):Option (Val Ã):=P4 a some
def rr (b:Val ae) (c:Int) (d:Int) (e:Val ah) (a:Int) (f:Int→Option ρ) (g:Int→Option ρ) (h:Unit→Option ρ):Option ρ :=
  ifb (ilt a c) (ü b a fun i=>Ä (rQ (d,e) i) fun j=>ifb (!j) (g (1:Int)) (ck (a+(1:Int)) fun k=>f k)) (h ())
def PW (a:Val Í) (b:Val ae) (k:Int→Option ρ):Option ρ :=
  Ä (nT a) fun c=>ifb (ine c.1 0) (k c.1) (Ñ (fun(d:Int) e=>rr b (Þ b) a.1 a.2 d (fun f=>e f) (fun g=>k g) (fun _=>Ä (kJ a ([])) fun h=>ifb (!h.2) (k (9:Int)) (k (0:Int)))) (0:Int))
def HE (a:Val Í) (b:Val ae):Option (Int):=PW a b some
def oO (c:Int) (a:Int) (b:Val ae) (d:Int→Val ae→Option ρ) (e:Val ae→Option ρ):Option ρ :=
  ifb (ilt a c) (ì ((ile 0 a)&&(ilt a (ą b))) (Ķ b (Int.toNat a) fun g=>ck (a+(1:Int)) fun f=>d f (List.set b (Int.toNat a) (1152921504606846976:Int)))) (e b)
def vA (c:Val ah) (d:Int) (b:Int) (a:Int) (e:Int→Int→Option ρ) (f:Int→Option ρ):Option ρ :=
  ifb (ilt a d) (ü c a fun g=>ck (b+(mG g.2.2 (0:Int))) fun h=>ck (a+(1:Int)) fun i=>e h i) (f b)
def vz (f:Int) (d:Val ae) (a:Int) (b:Val az) (c:Val ae) (e:Int→Val az→Val ae→Option ρ) (g:Val aK→Option ρ):Option ρ :=
  ifb (ilt a f) (ì ((ile 0 a)&&(ilt a (ą d))) (Ķ d (Int.toNat a) fun h=>ifb (ine h 1152921504606846976) (ì (ê ((List.length c)+(List.length ([a])))) (ì ((ile 0 a)&&(ilt a (ą b))) (Ķ b (Int.toNat a) fun k=>ck (a+(1:Int)) fun i=>e i (List.set b (Int.toNat a) true) (c++([a]))))) (ck (a+(1:Int)) fun j=>e j b c))) (g (b,c))
def Gl (m:Val ak) (j:Int) (d:Int) (n:Val ah) (o:Int) (f:Int) (b:Val ae) (c:Val az) (e:Val ae) (g:Int→Val ae→Val az→Val ae→Option ρ) (l:(Val (.pair .bool (.pair ae aK)))→Option ρ) (p:(Val (.pair ae aK))→Option ρ):Option ρ :=
  ifb (ilt f o) (ü n f fun a=>ifb (ine a.1 d) (ck (f+(1:Int)) fun q=>g q b c e) (Y7 (k:=tI) (v:=.bool) f m (fun r=>ifb r (ck (f+(1:Int)) fun s=>g s b c e) (ì ((ile 0 d)&&(ilt d (ą b))) (Ķ b (Int.toNat d) fun t=>ck (t+a.2.2) fun u=>ì ((ile 0 a.2.1)&&(ilt a.2.1 (ą b))) (Ķ b (Int.toNat a.2.1) fun w=>ifb (ige u w) (ck (f+(1:Int)) fun x=>g x b c e) (ì ((ile 0 d)&&(ilt d (ą b))) (Ķ b (Int.toNat d) fun y=>ck (y+a.2.2) fun h=>ì ((ile 0 a.2.1)&&(ilt a.2.1 (ą b))) (Ķ b (Int.toNat a.2.1) fun M=>ì ((ile 0 a.2.1)&&(ilt a.2.1 (ą (List.set b (Int.toNat a.2.1) h)))) (Ķ (List.set b (Int.toNat a.2.1) h) (Int.toNat a.2.1) fun z=>ifb (ilt z j) (l (false,(List.set b (Int.toNat a.2.1) h),c,e)) (ì ((ile 0 a.2.1)&&(ilt a.2.1 (ą c))) (Ķ c (Int.toNat a.2.1) fun A=>ifb (!A) (ì (ê ((List.length e)+(List.length ([a.2.1])))) (ì ((ile 0 a.2.1)&&(ilt a.2.1 (ą c))) (Ķ c (Int.toNat a.2.1) fun N=>ck (f+(1:Int)) fun B=>g B (List.set b (Int.toNat a.2.1) h) (List.set c (Int.toNat a.2.1) true) (e++([a.2.1]))))) (ck (f+(1:Int)) fun C=>g C (List.set b (Int.toNat a.2.1) h) c e))))))))))) (ì ((ile 0 d)&&(ilt d (ą b))) (Ķ b (Int.toNat d) fun D=>ck (D+a.2.2) fun E=>ì ((ile 0 a.2.1)&&(ilt a.2.1 (ą b))) (Ķ b (Int.toNat a.2.1) fun F=>ifb (ige E F) (ck (f+(1:Int)) fun G=>g G b c e) (ì ((ile 0 d)&&(ilt d (ą b))) (Ķ b (Int.toNat d) fun H=>ck (H+a.2.2) fun i=>ì ((ile 0 a.2.1)&&(ilt a.2.1 (ą b))) (Ķ b (Int.toNat a.2.1) fun O=>ì ((ile 0 a.2.1)&&(ilt a.2.1 (ą (List.set b (Int.toNat a.2.1) i)))) (Ķ (List.set b (Int.toNat a.2.1) i) (Int.toNat a.2.1) fun I=>ifb (ilt I j) (l (false,(List.set b (Int.toNat a.2.1) i),c,e)) (ì ((ile 0 a.2.1)&&(ilt a.2.1 (ą c))) (Ķ c (Int.toNat a.2.1) fun J=>ifb (!J) (ì (ê ((List.length e)+(List.length ([a.2.1])))) (ì ((ile 0 a.2.1)&&(ilt a.2.1 (ą c))) (Ķ c (Int.toNat a.2.1) fun P=>ck (f+(1:Int)) fun K=>g K (List.set b (Int.toNat a.2.1) i) (List.set c (Int.toNat a.2.1) true) (e++([a.2.1]))))) (ck (f+(1:Int)) fun L=>g L (List.set b (Int.toNat a.2.1) i) c e)))))))))))) (p (b,c,e))
def vy (l:Val ak) (m:Int) (n:Int) (k:Val ah) (h:Val ae) (d:Val az) (b:Val ae) (c:Val ae) (o:Val ae→Val az→Val ae→Val ae→Option ρ) (i:(Val (.pair .bool aL))→Option ρ):Option ρ :=
  ifb (ieq (Þ c) 0) (i (true,h,d,b,c)) (ì (ilt 0 (ą c)) (Ķ c 0 fun a=>ì (ile 1 (ą c)) (ì (decide (1+(List.length c-1)=List.length c)) (ì ((ile 0 a)&&(ilt a (ą d))) (Ķ d (Int.toNat a) fun x=>ì ((ile 0 a)&&(ilt a (ą b))) (Ķ b (Int.toNat a) fun p=>ck (p+(1:Int)) fun e=>ì ((ile 0 a)&&(ilt a (ą b))) (Ķ b (Int.toNat a) fun y=>ì ((ile 0 a)&&(ilt a (ą (List.set b (Int.toNat a) e)))) (Ķ (List.set b (Int.toNat a) e) (Int.toNat a) fun q=>ck (n+(1:Int)) fun r=>ifb (igt q r) (i (false,h,(List.set d (Int.toNat a) false),(List.set b (Int.toNat a) e),(List.drop 1 c))) (Ñ (fun(f:(Val (.pair tI (.pair ae aK)))) s=>Gl l m a k (Þ k) f.1 f.2.1 f.2.2.1 f.2.2.2 (fun t u v w=>s (t,u,v,w)) (fun g=>i (g.1,g.2.1,g.2.2.1,(List.set b (Int.toNat a) e),g.2.2.2)) (fun j=>o j.1 j.2.1 (List.set b (Int.toNat a) e) j.2.2)) ((0:Int),h,(List.set d (Int.toNat a) false),(List.drop 1 c)))))))))))
def Jp (a:Val Í) (i:Val ak) (b:Int) (k:Val ae→Option ρ):Option ρ :=
  ì ((ile 0 a.1)&&(ê (Int.toNat a.1))) (Ñ (fun(f:Val ar) j=>oO (Þ (List.replicate (Int.toNat a.1) (0:Int))) f.1 f.2 (fun l m=>j (l,m)) (fun c=>ì ((ile 0 b)&&(ilt b (ą c))) (Ķ c (Int.toNat b) fun B=>ì ((ile 0 a.1)&&(ê (Int.toNat a.1))) (ì ((ile 0 a.1)&&(ê (Int.toNat a.1))) (Ñ (fun(g:Val Ã) n=>vA a.2 (Þ a.2) g.1 g.2 (fun o p=>n (o,p)) (fun q=>Ñ (fun(e:(Val (.pair tI aK))) r=>vz a.1 (List.set c (Int.toNat b) (0:Int)) e.1 e.2.1 e.2.2 (fun s t u=>r (s,t,u)) (fun h=>Ñ (fun(d:Val aL) v=>vy i q a.1 a.2 d.1 d.2.1 d.2.2.1 d.2.2.2 (fun w x y z=>v (w,x,y,z)) (fun A=>k A.2.1)) ((List.set c (Int.toNat b) (0:Int)),h.1,(List.replicate (Int.toNat a.1) (0:Int)),h.2))) ((0:Int),(List.replicate (Int.toNat a.1) false),[]))) ((0:Int),(0:Int))))))) ((0:Int),(List.replicate (Int.toNat a.1) (0:Int))))
def AF (a:Val Í) (b:Val ak) (c:Int):Option ((Val ae)):=Jp a b c some
def Qa (a:Val Í) (b:Int) (c:Int) (k:Val Ã→Option ρ):Option ρ :=
  Ä (HE a ([b,c])) fun d=>ifb (ine d 0) (k ((0:Int),d)) (Ä (AF a ([]) b) fun f=>ü f c fun e=>ifb (ieq e 1152921504606846976) (k ((0:Int),(5:Int))) (k (e,(0:Int))))
def qt (a:Val Í) (b:Int) (c:Int):Option (Val Ã):=Qa a b c some
def sf (a:Val ax) (b:Int) (c:Int) (k:Int→Option ρ):Option ρ :=
  Ä (qt a.2 c b) fun d=>k d.1
def ĉ (a:Val ax) (b:Int) (c:Int):Option (Int):=sf a b c some
def se (a:Val ax) (b:Val Ã) (k:Int→Option ρ):Option ρ :=
  Ä (ς a b) fun c=>Ä (ĉ a (0:Int) c) fun d=>ck (0-d) fun e=>k e
def π (a:Val ax) (b:Val Ã):Option (Int):=se a b some
def mz (a:Val ax) (b:Val Ã) (k:Int→Option ρ):Option ρ :=
  Ä (ς a b) fun c=>Ä (ĉ a c (0:Int)) fun d=>k d
def il (a:Val ax) (b:Val Ã):Option (Int):=mz a b some
def mw (a:Val ax) (b:Val Ã) (k:Val Ã→Option ρ):Option ρ :=
  Ä (π a b) fun c=>Ä (il a b) fun d=>k (c,d)
def ŷ (a:Val ax) (b:Val Ã):Option (Val Ã):=mw a b some
def zj (b:Val aT) (a:Val ae) (c:Int) (k:Int→Option ρ):Option ρ :=
  ifb (ieq (Þ a) 0) (k (0:Int)) (ü a (0:Int) fun d=>Ä (þ b.2.1 (d,c)) fun e=>ck (e+(1:Int)) fun f=>k f)
def iy (a:Val aT) (b:Val ae) (c:Int):Option (Int):=zj a b c some
def oi (b:Val aq) (a:Val ae) (k:Val Ã→Option ρ):Option ρ :=
  ifb (ieq (Þ a) 0) (k ((0:Int),(1:Int))) (ü a (0:Int) fun c=>Y7 (k:=tI) (v:=Ð) c b (fun d=>k d.2.2.2.2.1) (k ((0:Int),(0:Int))))
def iU (a:Val aq) (b:Val ae):Option (Val Ã):=oi a b some
def rD (b:Val aa) (c:Int) (a:Int) (d:Int→Option ρ) (e:Int→Option ρ) (f:Unit→Option ρ):Option ρ :=
  ifb (ilt a c) (ü b a fun g=>Ä (uA g) fun h=>ifb (!h) (e (1:Int)) (ck (a+(1:Int)) fun i=>d i)) (f ())
def Qc (a:Val aa) (k:Int→Option ρ):Option ρ :=
  Ñ (fun(b:Int) c=>rD a (Þ a) b (fun d=>c d) (fun e=>k e) (fun _=>k (0:Int))) (0:Int)
def jY (a:Val aa):Option (Int):=Qc a some
def DI (d:Int) (e:Int) (k:Val Ĵ→Option ρ):Option ρ :=
  Ä (rR d) fun b=>Ä (rR e) fun c=>Ä (Q8 b c) fun a=>ifb (Ŋ a 0) (none) (ifb (Ŋ a 0) (none) (ifb (igt (IntKind.wrap .u64 (Int.tdiv b a)) 2147483647) (k (((0:Int),(0:Int)),(3:Int))) (ifb (igt (IntKind.wrap .u64 (Int.tdiv c a)) 2147483647) (k (((0:Int),(0:Int)),(3:Int))) (ifb (!((ilt d 0)==(ilt e 0))) (ck (0-(IntKind.wrap .i64 (IntKind.wrap .u64 (Int.tdiv b a)))) fun f=>k ((f,(IntKind.wrap .i64 (IntKind.wrap .u64 (Int.tdiv c a)))),(0:Int))) (k (((IntKind.wrap .i64 (IntKind.wrap .u64 (Int.tdiv b a))),(IntKind.wrap .i64 (IntKind.wrap .u64 (Int.tdiv c a)))),(0:Int)))))))
def qu (a:Int) (b:Int):Option (Val Ĵ):=DI a b some
def ad4 (a:Val Ã) (b:Val Ã) (k:Val Ĵ→Option ρ):Option ρ :=
  Ä (jY ([a,b])) fun c=>ifb (ine c 0) (k (((0:Int),(0:Int)),c)) (ck (a.1*b.2) fun e=>ck (b.1*a.2) fun f=>ck (e-f) fun g=>ck (a.2*b.2) fun h=>Ä (qu g h) fun d=>k (d.1,d.2))
def Yz (a:Val Ã) (b:Val Ã):Option (Val Ĵ):=ad4 a b some
def vE (a:Val Ã) (b:Val Ã) (k:Val Ã→Option ρ):Option ρ :=
  Ä (Yz a b) fun c=>k c.1
def wj (a:Val Ã) (b:Val Ã):Option (Val Ã):=vE a b some
def ad2 (a:Val Ã) (b:Val Ã) (k:Int→Option ρ):Option ρ :=
  ck (a.1*b.2) fun c=>ck (b.1*a.2) fun d=>ifb ((Ŋ a.1 b.1)&&((Ŋ a.2 b.2)&&true)) (k (0:Int)) (ifb (ilt c d) (k (-1:Int)) (ifb (igt c d) (k (1:Int)) (k (0:Int))))
def Q9 (a:Val Ã) (b:Val Ã):Option (Int):=ad2 a b some
def su (a:Val è) (k:Bool→Option ρ):Option ρ :=
  Ä (jY ([a.1,a.2])) fun b=>ifb (ieq b 0) (Ä (Q9 a.1 a.2) fun c=>k (ile c 0)) (k false)
def sK (a:Val è):Option (Bool):=su a some
def ad6 (a:Val Ã) (b:Val Ã) (k:Val Ĵ→Option ρ):Option ρ :=
  Ä (jY ([a,b])) fun c=>ifb (ine c 0) (k (((0:Int),(0:Int)),c)) (ck (a.1*b.1) fun e=>ck (a.2*b.2) fun f=>Ä (qu e f) fun d=>k (d.1,d.2))
def Rb (a:Val Ã) (b:Val Ã):Option (Val Ĵ):=ad6 a b some
def Ql (c:Val è) (d:Val Ã) (k:Val sS→Option ρ):Option ρ :=
  Ä (sK c) fun e=>ifb (!e) (k ((((0:Int),(0:Int)),(0:Int),(0:Int)),(1:Int))) (Ä (uA d) fun f=>ifb (!f) (k ((((0:Int),(0:Int)),(0:Int),(0:Int)),(1:Int))) (Ä (Rb d c.1) fun a=>ifb (ine a.2 0) (k ((((0:Int),(0:Int)),(0:Int),(0:Int)),a.2)) (Ä (Rb d c.2) fun b=>ifb (ine b.2 0) (k ((((0:Int),(0:Int)),(0:Int),(0:Int)),b.2)) (Ä (Q9 a.1 b.1) fun g=>ifb (igt g 0) (k ((b.1,a.1),(0:Int))) (k ((a.1,b.1),(0:Int)))))))
def Ra (a:Val è) (b:Val Ã):Option (Val sS):=Ql a b some
def vD (b:Val Ã) (a:Val Ã) (k:Val è→Option ρ):Option ρ :=
  Ä (Ra ((a.1,(1:Int)),a.2,(1:Int)) b) fun c=>k c.1
def oV (a:Val Ã) (b:Val Ã):Option (Val è):=vD a b some
def JC (c:Val Å) (a:Val É) (k:Val è→Option ρ):Option ρ :=
  Ä (υ c) fun b=>Ä (ů a.2.2.1 a.2.2.2.1) fun d=>Ä (iU b d) fun e=>Ä (ů a.2.2.2.1 a.2.2.1) fun f=>Ä (iU b f) fun g=>Ä (wj e g) fun h=>Ä (oV h a.2.2.2.2.2.2) fun i=>k i
def pu (a:Val Å) (b:Val É):Option (Val è):=JC a b some
def QE (a:Val Å) (b:Val É) (k:Val Ã→Option ρ):Option ρ :=
  ck ((Þ b.2.2.1)-(1:Int)) fun c=>ck ((Þ b.2.2.2.1)-(1:Int)) fun d=>ck ((lT (0:Int) c)*a.1.1) fun e=>ck ((lT (0:Int) d)*a.1.2) fun f=>ck (e-f) fun g=>ck ((lT (0:Int) c)*a.1.2) fun h=>ck ((lT (0:Int) d)*a.1.1) fun i=>ck (h-i) fun j=>k (g,j)
def uC (a:Val Å) (b:Val É):Option (Val Ã):=QE a b some
def Gy (b:Int) (a:Int) (k:Int→Option ρ):Option ρ :=
  ifb (Ŋ a 0) (none) (ck (Int.tdiv b a) fun c=>ifb (Ŋ a 0) (none) (ifb (ilt (Int.tmod b a) 0) (ck (c-1) fun d=>k d) (k c)))
def uz (a:Int) (b:Int):Option (Int):=Gy a b some
def XQ (a:Val Ã) (k:Val Ã→Option ρ):Option ρ :=
  Ä (jY ([a])) fun b=>ifb (ine b 0) (k ((0:Int),b)) (ck (0-a.1) fun c=>Ä (uz c a.2) fun d=>ck (0-d) fun e=>k (e,(0:Int)))
def HF (a:Val Ã):Option (Val Ã):=XQ a some
def Qo (a:Val Ã) (k:Val Ã→Option ρ):Option ρ :=
  Ä (jY ([a])) fun b=>ifb (ine b 0) (k ((0:Int),b)) (Ä (uz a.1 a.2) fun c=>k (c,(0:Int)))
def zG (a:Val Ã):Option (Val Ã):=Qo a some
def XU (b:Val Å) (a:Val É) (k:Val Ã→Option ρ):Option ρ :=
  Ä (pu b a) fun c=>Ä (uC b a) fun d=>Ä (zG c.2) fun e=>Ä (HF c.1) fun f=>ck (a.2.2.2.2.1-a.2.2.2.2.2.1) fun g=>ck (g-d.2) fun h=>ck (h-e.1) fun i=>ck (a.2.2.2.2.1+a.2.2.2.2.2.1) fun j=>ck (j-d.1) fun l=>ck (l-f.1) fun m=>k (i,m)
def wi (a:Val Å) (b:Val É):Option (Val Ã):=XU a b some
def vK (f:Int) (g:Int) (h:Val af) (i:Int) (j:Int) (b:Int) (a:Int) (d:Int→Int→Option ρ) (k:Int→Option ρ):Option ρ :=
  ifb (ilt a i) (ü h a fun c=>ck (g-(1:Int)) fun l=>ck ((mG c.2.1.2 l)-(lT c.2.1.1 f)) fun m=>ck (m+1) fun e=>ifb (ieq c.1 j) (ifb (igt e 0) (ck (e*c.2.2) fun n=>ck (b+n) fun o=>ck (a+(1:Int)) fun p=>d o p) (ck (a+(1:Int)) fun q=>d b q)) (ck (a+(1:Int)) fun r=>d b r)) (k b)
def vJ (e:Int) (f:Int) (g:Val aa) (h:Int) (i:Int) (a:Int) (b:Val ae) (d:Int→Val ae→Option ρ) (j:Val ae→Option ρ):Option ρ :=
  ifb (ilt a h) (ü g a fun c=>ifb (ieq c.1 i) (ck (f-(1:Int)) fun k=>Ä (ğ c.2 e k) fun l=>ifb l (ì (ê ((List.length b)+(List.length ([c.2])))) (ck (a+(1:Int)) fun m=>d m (b++([c.2])))) (ck (a+(1:Int)) fun n=>d n b)) (ck (a+(1:Int)) fun o=>d o b)) (j b)
def XX (a:Val Å) (b:Val Ð) (d:Int) (e:Int) (k:Int→Option ρ):Option ρ :=
  Ñ (fun(f:Val Ã) h=>vK d e a.2.2.2.1 (Þ a.2.2.2.1) b.1 f.1 f.2 (fun i j=>h (i,j)) (fun l=>Ñ (fun(g:Val ar) m=>vJ d e a.2.2.1 (Þ a.2.2.1) b.1 g.1 g.2 (fun n o=>m (n,o)) (fun c=>ì (ê (List.length c)) (ì (ê (List.length (Ee c))) (ck ((Þ (AK (Ee c)))*b.2.2.2.2.2) fun p=>ck (l+p) fun q=>k q)))) ((0:Int),[]))) ((0:Int),(0:Int))
def AG (a:Val Å) (b:Val Ð) (c:Int) (d:Int):Option (Int):=XX a b c d some
def vH (b:Int) (e:Val ae) (h:Int) (j:Int) (k:Int) (l:Val ac) (m:Val aa) (n:Val af) (o:Val ab) (p:Val aa) (q:Int) (r:Int) (s:Int) (t:Int) (u:Int) (v:Int) (w:Int) (x:Int) (a:Int) (f:Val ah) (g:Val aa) (y:Int→Val ah→Val aa→Option ρ) (z:Val wA→Option ρ):Option ρ :=
  ifb (ilt a (Þ e)) (ck (h+a) fun A=>ck (A-1) fun c=>ck (h+a) fun d=>ck (a-(1:Int)) fun B=>ü e B fun C=>ü e a fun D=>Ä (AG ((j,k),l,m,n,o,p) (q,r,s,(t,u),(v,w),x) C D) fun E=>ck (0-E) fun F=>ck (0-F) fun i=>ì (ê ((List.length f)+(List.length ([(c,d,(0:Int)),(d,c,i)])))) (ì (ê ((List.length g)+(List.length ([((2:Int),b),((2:Int),b)])))) (ck (a+(1:Int)) fun G=>y G (f++([(c,d,(0:Int)),(d,c,i)])) (g++([((2:Int),b),((2:Int),b)]))))) (z (f,g))
def vI (q:Val ac) (r:Int) (f:Int) (g:Int) (h:Val ac) (i:Val aa) (j:Val af) (k:Val ab) (l:Val aa) (s:Val aa) (t:Int) (b:Int) (d:Val ah) (e:Val aa) (u:Int→Val ah→Val aa→Option ρ) (v:Val wA→Option ρ):Option ρ :=
  ifb (ilt b r) (ü q b fun a=>Ä (oW ((f,g),h,i,j,k,l) a) fun w=>Ä (iy (((f,g),h,i,j,k,l),s,(t,d),e) ([a.1]) a.2.1) fun c=>ck (a.2.2.1+a.2.2.2.1.1) fun x=>ck (a.2.2.1+a.2.2.2.1.2) fun n=>ck (0-x) fun o=>ì (ê ((List.length d)+(List.length ([((0:Int),c,n),(c,(0:Int),o)])))) (ì (ê ((List.length e)+(List.length ([((1:Int),b),((1:Int),b)])))) (Ñ (fun(m:Val aM) y=>vH b w c f g h i j k l a.1 a.2.1 a.2.2.1 a.2.2.2.1.1 a.2.2.2.1.2 a.2.2.2.2.1.1 a.2.2.2.2.1.2 a.2.2.2.2.2 m.1 m.2.1 m.2.2 (fun z A B=>y (z,A,B)) (fun p=>ck (b+(1:Int)) fun C=>u C p.1 p.2)) ((1:Int),(d++([((0:Int),c,n),(c,(0:Int),o)])),(e++([((1:Int),b),((1:Int),b)])))))) (v (d,e))
def vG (r:Val ab) (s:Int) (g:Int) (h:Int) (i:Val ac) (j:Val aa) (k:Val af) (l:Val ab) (m:Val aa) (o:Val aa) (p:Int) (a:Int) (c:Val ah) (d:Val aa) (t:Int→Val ah→Val aa→Option ρ) (u:Val wA→Option ρ):Option ρ :=
  ifb (ilt a s) (ü r a fun b=>Ä (ů b.2.2.2.1 b.2.2.1) fun v=>Ä (iy (((g,h),i,j,k,l,m),o,(p,c),d) v b.2.1) fun e=>Ä (ů b.2.2.1 b.2.2.2.1) fun w=>Ä (iy (((g,h),i,j,k,l,m),o,(p,c),d) w b.2.1) fun f=>Ä (wi ((g,h),i,j,k,l,m) b) fun n=>ck (0-n.1) fun q=>ì (ê ((List.length c)+(List.length ([(e,f,n.2),(f,e,q)])))) (ì (ê ((List.length d)+(List.length ([((3:Int),a),((3:Int),a)])))) (ck (a+(1:Int)) fun x=>t x (c++([(e,f,n.2),(f,e,q)])) (d++([((3:Int),a),((3:Int),a)]))))) (u (c,d))
def XW (a:Val Å) (k:Val aT→Option ρ):Option ρ :=
  Ä (qv a) fun b=>ck ((Þ b)+(1:Int)) fun c=>Ñ (fun(d:Val aM) h=>vI a.2.1 (Þ a.2.1) a.1.1 a.1.2 a.2.1 a.2.2.1 a.2.2.2.1 a.2.2.2.2.1 a.2.2.2.2.2 b c d.1 d.2.1 d.2.2 (fun i j l=>h (i,j,l)) (fun f=>Ñ (fun(e:Val aM) m=>vG a.2.2.2.2.1 (Þ a.2.2.2.2.1) a.1.1 a.1.2 a.2.1 a.2.2.1 a.2.2.2.1 a.2.2.2.2.1 a.2.2.2.2.2 b c e.1 e.2.1 e.2.2 (fun n o p=>m (n,o,p)) (fun g=>k (a,b,(c,g.1),g.2))) ((0:Int),f.1,f.2))) ((0:Int),[],[])
def HH (a:Val Å):Option ((Val aT)):=XW a some
def JG (a:Val Å) (k:(Val (.pair Í (.pair aa tI)))→Option ρ):Option ρ :=
  Ä (ÿ a) fun b=>ifb (ine b 0) (k (((0:Int),[]),[],b)) (Ä (HH a) fun c=>k (c.2.2.1,c.2.2.2,(0:Int)))
def Į (a:Val Å):Option ((Val (.pair Í (.pair aa tI)))):=JG a some
def vR (f:Int) (a:Int) (c:Val ab) (g:Int→Val ab→Option ρ) (h:Val ab→Option ρ):Option ρ :=
  ifb (ilt a f) (ì ((ile 0 a)&&(ilt a (ą c))) (Ķ c (Int.toNat a) fun d=>ì (ê (List.length d.2.2.1)) (ì (ê (List.length d.2.2.2.1)) (ì ((ile 0 a)&&(ilt a (ą c))) (Ķ c (Int.toNat a) fun b=>ì ((ile 0 a)&&(ilt a (ą (List.set c (Int.toNat a) (b.1,b.2.1,d.2.2.1,b.2.2.2))))) (Ķ (List.set c (Int.toNat a) (b.1,b.2.1,d.2.2.1,b.2.2.2)) (Int.toNat a) fun e=>ck (a+(1:Int)) fun i=>g i (List.set (List.set c (Int.toNat a) (b.1,b.2.1,d.2.2.1,b.2.2.2)) (Int.toNat a) (e.1,e.2.1,e.2.2.1,d.2.2.2.1,e.2.2.2.2)))))))) (h c)
def Yd (a:Val Å) (b:Val Ã) (k:Val aG→Option ρ):Option ρ :=
  Ä (ÿ a) fun c=>ifb (ine c 0) (k ((((0:Int),(0:Int)),[],[],[],[],[]),c)) (ì (ê (List.length a.2.1)) (ì (ê (List.length a.2.2.1)) (ì (ê (List.length a.2.2.2.1)) (ì (ê (List.length a.2.2.2.2.2)) (ì (ê (List.length a.2.2.2.2.1)) (Ñ (fun(d:(Val (.pair tI ab))) g=>vR (Þ a.2.2.2.2.1) d.1 d.2 (fun h i=>g (h,i)) (fun e=>ì (ê ((List.length a.2.2.2.2.2)+(List.length ([b])))) (Ä (ÿ (a.1,a.2.1,a.2.2.1,a.2.2.2.1,e,(a.2.2.2.2.2++([b])))) fun f=>ifb (ine f 0) (k ((((0:Int),(0:Int)),[],[],[],[],[]),f)) (k ((a.1,a.2.1,a.2.2.1,a.2.2.2.1,e,(a.2.2.2.2.2++([b]))),(0:Int)))))) ((0:Int),a.2.2.2.2.1)))))))
def j9 (a:Val Å) (b:Val Ã):Option ((Val aG)):=Yd a b some
def sn (a:Val Í) (k:Val aU→Option ρ):Option ρ :=
  Ä (nT a) fun b=>ifb (ine b.1 0) (k (false,b.1)) (Ä (kJ a ([])) fun c=>k (c.2,(0:Int)))
def ģ (a:Val Í):Option ((Val aU)):=sn a some
def Ē (m:Int) (j:Val aa) (b:Int) (c:Int) (d:Int) (e:Val ac) (f:Val aa) (g:Val af) (h:Val ab) (i:Val aa) (k:Int→Int→Int→Val ac→Val aa→Val af→Val ab→Val aa→Option ρ) (n:Val aD→Option ρ) (o:Val ai→Option ρ):Option ρ :=
  ifb (ilt b m) (ì ((ile 0 b)&&(ilt b (ą j))) (Ķ j (Int.toNat b) fun l=>Ä (ũ ((c,d),e,f,g,h,i) l) fun p=>ifb (ieq p.2 0) (ck (b+(1:Int)) fun q=>k q c d e f g h i) (Ä (j9 ((c,d),e,f,g,h,i) l) fun a=>ifb (ine a.2 0) (n (a.2,c,d,e,f,g,h,i)) (ck (b+(1:Int)) fun r=>k r a.1.1.1 a.1.1.2 a.1.2.1 a.1.2.2.1 a.1.2.2.2.1 a.1.2.2.2.2.1 a.1.2.2.2.2.2)))) (o (c,d,e,f,g,h,i))
def yN (a:Val Å) (e:Val Ã) (k:Val Ĵ→Option ρ):Option ρ :=
  Ä (ÿ a) fun f=>ifb (ine f 0) (ì (ine f 0) (k (((0:Int),(0:Int)),f))) (Ñ (fun(b:Val aD) h=>Ē (Þ ([e])) ([e]) b.1 b.2.1 b.2.2.1 b.2.2.2.1 b.2.2.2.2.1 b.2.2.2.2.2.1 b.2.2.2.2.2.2.1 b.2.2.2.2.2.2.2 (fun i j l m n o p q=>h (i,j,l,m,n,o,p,q)) (fun g=>ì (ine g.1 0) (k (((0:Int),(0:Int)),g.1))) (fun c=>Ä (Į ((c.1,c.2.1),c.2.2)) fun d=>ifb (ine d.2.2 0) (ì (ine d.2.2 0) (k (((0:Int),(0:Int)),d.2.2))) (Ä (ģ d.1) fun r=>ifb (!r.1) (k (((0:Int),(0:Int)),(9:Int))) (Ä (ŷ (((c.1,c.2.1),c.2.2),d.1) e) fun s=>k (s,(0:Int)))))) ((0:Int),a.1.1,a.1.2,a.2.1,a.2.2.1,a.2.2.2.1,a.2.2.2.2.1,a.2.2.2.2.2))
def nS (a:Val Å) (b:Val Ã):Option (Val Ĵ):=yN a b some
def sm (m:Int) (j:Val aa) (b:Int) (c:Int) (d:Int) (e:Val ac) (f:Val aa) (g:Val af) (h:Val ab) (i:Val aa) (k:Int→Int→Int→Val ac→Val aa→Val af→Val ab→Val aa→Option ρ) (n:Val aD→Option ρ) (o:Val ai→Option ρ):Option ρ :=
  ifb (ilt b m) (ì ((ile 0 b)&&(ilt b (ą j))) (Ķ j (Int.toNat b) fun l=>Ä (ũ ((c,d),e,f,g,h,i) l) fun p=>ifb (ieq p.2 0) (ck (b+(1:Int)) fun q=>k q c d e f g h i) (Ä (j9 ((c,d),e,f,g,h,i) l) fun a=>ifb (ine a.2 0) (n (a.2,c,d,e,f,g,h,i)) (ck (b+(1:Int)) fun r=>k r a.1.1.1 a.1.1.2 a.1.2.1 a.1.2.2.1 a.1.2.2.2.1 a.1.2.2.2.2.1 a.1.2.2.2.2.2)))) (o (c,d,e,f,g,h,i))
def DD (b:Val Å) (e:Val Ã) (f:Val Ã) (k:Val Ĵ→Option ρ):Option ρ :=
  Ä (ÿ b) fun g=>ifb (ine g 0) (ì (ine g 0) (k (((0:Int),(0:Int)),g))) (Ñ (fun(c:Val aD) l=>sm (Þ ([e,f])) ([e,f]) c.1 c.2.1 c.2.2.1 c.2.2.2.1 c.2.2.2.2.1 c.2.2.2.2.2.1 c.2.2.2.2.2.2.1 c.2.2.2.2.2.2.2 (fun m n o p q r s t=>l (m,n,o,p,q,r,s,t)) (fun h=>ì (ine h.1 0) (k (((0:Int),(0:Int)),h.1))) (fun a=>Ä (Į ((a.1,a.2.1),a.2.2)) fun d=>ifb (ine d.2.2 0) (ì (ine d.2.2 0) (k (((0:Int),(0:Int)),d.2.2))) (Ä (ģ d.1) fun u=>ifb (!u.1) (k (((0:Int),(0:Int)),(9:Int))) (Ä (ς (((a.1,a.2.1),a.2.2),d.1) e) fun i=>Ä (ς (((a.1,a.2.1),a.2.2),d.1) f) fun j=>Ä (ĉ (((a.1,a.2.1),a.2.2),d.1) j i) fun v=>ck (0-v) fun w=>Ä (ĉ (((a.1,a.2.1),a.2.2),d.1) i j) fun x=>k ((w,x),(0:Int)))))) ((0:Int),b.1.1,b.1.2,b.2.1,b.2.2.1,b.2.2.2.1,b.2.2.2.2.1,b.2.2.2.2.2))
def wh (a:Val Å) (b:Val Ã) (c:Val Ã):Option (Val Ĵ):=DD a b c some
def Dt (a:Val Ã) (b:Val Ã) (k:Int→Option ρ):Option ρ :=
  ifb (ile b.1 a.1) (ifb (ile a.2 b.2) (k (1:Int)) (ifb (ilt a.2 b.1) (k (2:Int)) (ifb (ilt b.2 a.1) (k (2:Int)) (k (3:Int))))) (ifb (ilt a.2 b.1) (k (2:Int)) (ifb (ilt b.2 a.1) (k (2:Int)) (k (3:Int))))
def qp (a:Val Ã) (b:Val Ã):Option (Int):=Dt a b some
def yM (m:Int) (j:Val aa) (b:Int) (c:Int) (d:Int) (e:Val ac) (f:Val aa) (g:Val af) (h:Val ab) (i:Val aa) (k:Int→Int→Int→Val ac→Val aa→Val af→Val ab→Val aa→Option ρ) (n:Val aD→Option ρ) (o:Val ai→Option ρ):Option ρ :=
  ifb (ilt b m) (ì ((ile 0 b)&&(ilt b (ą j))) (Ķ j (Int.toNat b) fun l=>Ä (ũ ((c,d),e,f,g,h,i) l) fun p=>ifb (ieq p.2 0) (ck (b+(1:Int)) fun q=>k q c d e f g h i) (Ä (j9 ((c,d),e,f,g,h,i) l) fun a=>ifb (ine a.2 0) (n (a.2,c,d,e,f,g,h,i)) (ck (b+(1:Int)) fun r=>k r a.1.1.1 a.1.1.2 a.1.2.1 a.1.2.2.1 a.1.2.2.2.1 a.1.2.2.2.2.1 a.1.2.2.2.2.2)))) (o (c,d,e,f,g,h,i))
def PM (b:Val Å) (f:Val Ã) (a:Val Ã) (k:Val Ã→Option ρ):Option ρ :=
  Ä (ÿ b) fun g=>ifb (ine g 0) (ifb (ine g 0) (k ((0:Int),g)) (ì (igt a.1 a.2) (k ((0:Int),(1:Int))))) (Ñ (fun(c:Val aD) i=>yM (Þ ([f])) ([f]) c.1 c.2.1 c.2.2.1 c.2.2.2.1 c.2.2.2.2.1 c.2.2.2.2.2.1 c.2.2.2.2.2.2.1 c.2.2.2.2.2.2.2 (fun j l m n o p q r=>i (j,l,m,n,o,p,q,r)) (fun h=>ifb (ine h.1 0) (k ((0:Int),h.1)) (ì (igt a.1 a.2) (k ((0:Int),(1:Int))))) (fun d=>Ä (Į ((d.1,d.2.1),d.2.2)) fun e=>ifb (ine e.2.2 0) (ifb (ine e.2.2 0) (k ((0:Int),e.2.2)) (ì (igt a.1 a.2) (k ((0:Int),(1:Int))))) (Ä (ģ e.1) fun s=>ifb (!s.1) (k ((0:Int),(9:Int))) (ifb (igt a.1 a.2) (k ((0:Int),(1:Int))) (Ä (ŷ (((d.1,d.2.1),d.2.2),e.1) f) fun t=>Ä (qp t a) fun u=>k (u,(0:Int))))))) ((0:Int),b.1.1,b.1.2,b.2.1,b.2.2.1,b.2.2.2.1,b.2.2.2.2.1,b.2.2.2.2.2))
def HB (a:Val Å) (b:Val Ã) (c:Val Ã):Option (Val Ã):=PM a b c some
def Aj (c:Int) (a:Int) (b:Val ae) (d:Int→Val ae→Option ρ) (e:Val ae→Option ρ):Option ρ :=
  ifb (ilt a c) (ì ((ile 0 a)&&(ilt a (ą b))) (Ķ b (Int.toNat a) fun g=>ck (a+(1:Int)) fun f=>d f (List.set b (Int.toNat a) (1152921504606846976:Int)))) (e b)
def XC (c:Int) (a:Int) (b:Val ae) (d:Int→Val ae→Option ρ) (e:Val ae→Option ρ):Option ρ :=
  ifb (ilt a c) (ì ((ile 0 a)&&(ilt a (ą b))) (Ķ b (Int.toNat a) fun g=>ck (a+(1:Int)) fun f=>d f (List.set b (Int.toNat a) (1152921504606846976:Int)))) (e b)
def Gk (d:Val ae) (f:Val ah) (g:Int) (c:Int) (b:Val ae) (e:Int→Val ae→Option ρ) (h:Val ae→Option ρ):Option ρ :=
  ifb (ilt c g) (ü f c fun a=>ü d a.2.1 fun i=>ifb (ine i 1152921504606846976) (ì ((ile 0 a.1)&&(ilt a.1 (ą b))) (Ķ b (Int.toNat a.1) fun j=>ü d a.2.1 fun k=>ck (a.2.2+k) fun l=>ì ((ile 0 a.1)&&(ilt a.1 (ą b))) (Ķ b (Int.toNat a.1) fun o=>ck (c+(1:Int)) fun m=>e m (List.set b (Int.toNat a.1) (mG j l))))) (ck (c+(1:Int)) fun n=>e n b)) (h b)
def Nn (i:Int) (b:Int) (d:Val ah) (e:Int) (a:Val am) (j:Int→Val am→Option ρ) (k:Val am→Option ρ):Option ρ :=
  ifb (ilt e i) (ck ((Þ a)-(1:Int)) fun c=>ì ((ile 0 c)&&(ilt c (ą a))) (Ķ a (Int.toNat c) fun l=>ì ((ile 0 b)&&(ê (Int.toNat b))) (Ñ (fun(f:Val ar) m=>XC (Þ (List.replicate (Int.toNat b) (0:Int))) f.1 f.2 (fun n o=>m (n,o)) (fun p=>Ñ (fun(g:Val ar) q=>Gk l d (Þ d) g.1 g.2 (fun r s=>q (r,s)) (fun h=>ì (ê ((List.length a)+(List.length ([h])))) (ck (e+(1:Int)) fun t=>j t (a++([h]))))) ((0:Int),p))) ((0:Int),(List.replicate (Int.toNat b) (0:Int)))))) (k a)
def PU (a:Val Í) (b:Int) (f:Int) (k:Val am→Option ρ):Option ρ :=
  ì ((ile 0 a.1)&&(ê (Int.toNat a.1))) (Ñ (fun(d:Val ar) g=>Aj (Þ (List.replicate (Int.toNat a.1) (0:Int))) d.1 d.2 (fun h i=>g (h,i)) (fun c=>ì ((ile 0 b)&&(ilt b (ą c))) (Ķ c (Int.toNat b) fun o=>Ñ (fun(e:Val aO) j=>Nn f a.1 a.2 e.1 e.2 (fun l m=>j (l,m)) (fun n=>k n)) ((0:Int),[(List.set c (Int.toNat b) (0:Int))])))) ((0:Int),(List.replicate (Int.toNat a.1) (0:Int))))
def zD (a:Val Í) (b:Int) (c:Int):Option ((Val am)):=PU a b c some
def rC (b:Val am) (c:Int) (d:Int) (e:Int) (a:Int) (f:Int→Option ρ) (g:Int→Option ρ) (h:Unit→Option ρ):Option ρ :=
  ifb (ilt a c) (ü b a fun i=>ü i d fun j=>ifb (ieq j e) (g a) (ck (a+(1:Int)) fun k=>f k)) (h ())
def Lh (g:Int) (h:Val am) (j:Val ah) (k:Int) (l:Int) (e:Int) (b:Int) (a:Int) (c:Val ae) (f:Int→Int→Int→Val ae→Option ρ) (i:(Val (.pair tI ar))→Option ρ):Option ρ :=
  ifb (ilt a k) (ü j a fun d=>ifb (ieq d.1 e) (ck (g-(1:Int)) fun m=>ü h m fun n=>ü n d.2.1 fun o=>ifb (ine o 1152921504606846976) (ck (b+d.2.2) fun p=>ck (g-(1:Int)) fun q=>ü h q fun r=>ü r d.2.1 fun s=>ck (p+s) fun t=>ifb (ieq t l) (ì (ê ((List.length c)+(List.length ([a])))) (ck (b+d.2.2) fun u=>i (d.2.1,u,(c++([a]))))) (ck (a+(1:Int)) fun v=>f e b v c)) (ck (a+(1:Int)) fun w=>f e b w c)) (ck (a+(1:Int)) fun x=>f e b x c)) (i (e,b,c))
def rB (f:Val am) (g:Int) (d:Val ah) (h:Int) (b:Int) (i:Int) (e:Val ae) (j:Int→Int→Int→Val ae→Option ρ) (k:Val ae→Option ρ):Option ρ :=
  ifb (igt b 0) (Ñ (fun(a:Val aJ) l=>Lh b f d (Þ d) g a.1 a.2.1 a.2.2.1 a.2.2.2 (fun m n o p=>l (m,n,o,p)) (fun c=>ck (b-(1:Int)) fun q=>j c.1 q c.2.1 c.2.2)) (h,i,(0:Int),e)) (k e)
def P8 (a:Val Í) (c:Int) (g:Int) (k:Val aH→Option ρ):Option ρ :=
  Ä (qt a c g) fun b=>ifb (ine b.2 0) (k ([],b.2)) (Ä (zD a g a.1) fun d=>Ñ (fun(h:Int) i=>rC d (Þ d) c b.1 h (fun j=>i j) (fun l=>Ñ (fun(e:Val aJ) m=>rB d b.1 a.2 e.1 e.2.1 e.2.2.1 e.2.2.2 (fun n o p q=>m (n,o,p,q)) (fun r=>k (r,(0:Int)))) (c,l,(0:Int),[])) (fun _=>Ñ (fun(f:Val aJ) s=>rB d b.1 a.2 f.1 f.2.1 f.2.2.1 f.2.2.2 (fun t u v w=>s (t,u,v,w)) (fun x=>k (x,(0:Int)))) (c,(-1:Int),(0:Int),[]))) (0:Int))
def zF (a:Val Í) (b:Int) (c:Int):Option ((Val aH)):=P8 a b c some
def vu (a:Val ax) (c:Val aS) (d:(Val (.ptr .bool))) (k:Val ae→Option ρ):Option ρ :=
  Ä (ς a c) fun b=>ifb d (Ä (zF a.2 (0:Int) b) fun e=>k e.1) (Ä (zF a.2 b (0:Int)) fun f=>k f.1)
def lN (a:Val ax) (b:Val aS) (c:(Val (.ptr .bool))):Option ((Val ae)):=vu a b c some
def mW (d:Val aa) (e:Val ae) (f:Int) (a:Int) (b:Val aa) (g:Int→Val aa→Option ρ) (h:Val aa→Option ρ):Option ρ :=
  ifb (ilt a f) (ü e a fun i=>ü d i fun c=>ì (ê ((List.length b)+(List.length ([c])))) (ck (a+(1:Int)) fun j=>g j (b++([c])))) (h b)
def Du (c:Val Å) (a:Val ae) (k:Val aa→Option ρ):Option ρ :=
  Ä (Į c) fun d=>Ñ (fun(b:Val aF) e=>mW d.2.1 a (Þ a) b.1 b.2 (fun f g=>e (f,g)) (fun h=>k h)) ((0:Int),[])
def qq (a:Val Å) (b:Val ae):Option ((Val aa)):=Du a b some
def sl (m:Int) (j:Val aa) (b:Int) (c:Int) (d:Int) (e:Val ac) (f:Val aa) (g:Val af) (h:Val ab) (i:Val aa) (k:Int→Int→Int→Val ac→Val aa→Val af→Val ab→Val aa→Option ρ) (n:Val aD→Option ρ) (o:Val ai→Option ρ):Option ρ :=
  ifb (ilt b m) (ì ((ile 0 b)&&(ilt b (ą j))) (Ķ j (Int.toNat b) fun l=>Ä (ũ ((c,d),e,f,g,h,i) l) fun p=>ifb (ieq p.2 0) (ck (b+(1:Int)) fun q=>k q c d e f g h i) (Ä (j9 ((c,d),e,f,g,h,i) l) fun a=>ifb (ine a.2 0) (n (a.2,c,d,e,f,g,h,i)) (ck (b+(1:Int)) fun r=>k r a.1.1.1 a.1.1.2 a.1.2.1 a.1.2.2.1 a.1.2.2.2.1 a.1.2.2.2.2.1 a.1.2.2.2.2.2)))) (o (c,d,e,f,g,h,i))
def sk (a:Int) (b:Int) (d:Int→Option ρ) (c:Unit→Option ρ):Option ρ :=
  ifb (ilt b a) (none) (c ())
def DC (d:Val Å) (b:Val Ã) (f:Bool) (k:(Val (.pair χ tI))→Option ρ):Option ρ :=
  Ä (ÿ d) fun i=>ifb (ine i 0) (ì (ine i 0) (k (((((0:Int),(0:Int)),[],[],[],[],[]),((0:Int),(0:Int)),false,(0:Int),[]),i))) (Ñ (fun(e:Val aD) n=>sl (Þ ([b])) ([b]) e.1 e.2.1 e.2.2.1 e.2.2.2.1 e.2.2.2.2.1 e.2.2.2.2.2.1 e.2.2.2.2.2.2.1 e.2.2.2.2.2.2.2 (fun o p q r s t u v=>n (o,p,q,r,s,t,u,v)) (fun l=>ì (ine l.1 0) (k (((((0:Int),(0:Int)),[],[],[],[],[]),((0:Int),(0:Int)),false,(0:Int),[]),l.1))) (fun a=>Ä (Į ((a.1,a.2.1),a.2.2)) fun c=>ifb (ine c.2.2 0) (ì (ine c.2.2 0) (k (((((0:Int),(0:Int)),[],[],[],[],[]),((0:Int),(0:Int)),false,(0:Int),[]),c.2.2))) (Ä (ģ c.1) fun w=>ifb (!w.1) (k (((((0:Int),(0:Int)),[],[],[],[],[]),((0:Int),(0:Int)),false,(0:Int),[]),(9:Int))) (Ä (lN (((a.1,a.2.1),a.2.2),c.1) b f) fun x=>Ä (qq ((a.1,a.2.1),a.2.2) x) fun y=>Ä (Q7 ((a.1,a.2.1),a.2.2) y ([b])) fun g=>Ä (ÿ g) fun j=>ifb (ine j 0) (ifb (ine j 0) (k (((((0:Int),(0:Int)),[],[],[],[],[]),((0:Int),(0:Int)),false,(0:Int),[]),j)) (Ä (π (((a.1,a.2.1),a.2.2),c.1) b) fun F=>none)) (Ñ (fun(z:Int) A=>sk (0:Int) z (fun B=>A B) (fun _=>Ä (Į g) fun h=>ifb (ine h.2.2 0) (ifb (ine h.2.2 0) (k (((((0:Int),(0:Int)),[],[],[],[],[]),((0:Int),(0:Int)),false,(0:Int),[]),h.2.2)) (Ä (π (((a.1,a.2.1),a.2.2),c.1) b) fun G=>none)) (Ä (ģ h.1) fun C=>ifb (!C.1) (k (((((0:Int),(0:Int)),[],[],[],[],[]),((0:Int),(0:Int)),false,(0:Int),[]),(9:Int))) (Ä (π (((a.1,a.2.1),a.2.2),c.1) b) fun D=>Ä (lN (g,h.1) b f) fun m=>ifb f (Ä (il (((a.1,a.2.1),a.2.2),c.1) b) fun E=>k ((g,b,f,E,m),(0:Int))) (k ((g,b,f,D,m),(0:Int))))))) (0:Int)))))) ((0:Int),d.1.1,d.1.2,d.2.1,d.2.2.1,d.2.2.2.1,d.2.2.2.2.1,d.2.2.2.2.2))
def wg (a:Val Å) (b:Val Ã) (c:Bool):Option ((Val (.pair χ tI))):=DC a b c some
def mY (d:Val ae) (e:Int) (f:Val ah) (a:Int) (g:Int→Option ρ) (b:Int→Option ρ) (h:Unit→Option ρ):Option ρ :=
  ifb (ilt a e) (ü d a fun c=>ifb (ilt c 0) (b a) (ifb (ige c (Þ f)) (b a) (ck (a+(1:Int)) fun i=>g i))) (h ())
def DE (b:Val Í) (a:Val ae) (k:Int→Option ρ):Option ρ :=
  ifb (igt (Þ a) 80) (k (2:Int)) (Ñ (fun(c:Int) d=>mY a (Þ a) b.2 c (fun e=>d e) (fun f=>ifb (ige f 0) (k (1:Int)) (k (0:Int))) (fun _=>k (0:Int))) (0:Int))
def qr (a:Val Í) (b:Val ae):Option (Int):=DE a b some
def vw (e:Val ae) (f:Int) (g:Val ah) (c:Int) (d:Int) (a:Int) (h:Int→Int→Int→Option ρ) (i:(Val (.pair tI (.pair tI .bool)))→Option ρ) (j:Val Ã→Option ρ):Option ρ :=
  ifb (ilt a f) (ü e a fun k=>ü g k fun b=>ifb (ine b.1 c) (i ((0:Int),(0:Int),false)) (ck (d+b.2.2) fun l=>ck (a+(1:Int)) fun m=>h b.2.1 l m)) (j (c,d))
def XA (e:Val Í) (f:Int) (c:Val ae) (k:(Val (.pair tI (.pair tI .bool)))→Option ρ):Option ρ :=
  Ñ (fun(a:Val Ĉ) g=>vw c (Þ c) e.2 a.1 a.2.1 a.2.2 (fun h i j=>g (h,i,j)) (fun b=>k (b.1,b.2.1,b.2.2)) (fun d=>k (d.1,d.2,true))) (f,(0:Int),(0:Int))
def HD (a:Val Í) (b:Int) (c:Val ae):Option ((Val (.pair tI (.pair tI .bool)))):=XA a b c some
def sr (a:Val Í) (c:Int) (d:Int) (e:Val ae) (k:Val Ã→Option ρ):Option ρ :=
  Ä (nT a) fun f=>ifb (ine f.1 0) (k ((0:Int),f.1)) (Ä (rQ a c) fun h=>ifb (!h) (k ((0:Int),(1:Int))) (Ä (rQ a d) fun i=>ifb (!i) (k ((0:Int),(1:Int))) (Ä (qr a e) fun g=>ifb (ine g 0) (k ((0:Int),g)) (Ä (HD a c e) fun b=>ifb (!b.2.2) (k ((0:Int),(8:Int))) (ifb (ine b.1 d) (k ((0:Int),(8:Int))) (k (b.2.1,(0:Int))))))))
def jX (a:Val Í) (b:Int) (c:Int) (d:Val ae):Option (Val Ã):=sr a b c d some
def vt (a:Val χ) (k:Int→Option ρ):Option ρ :=
  Ä (ÿ a.1) fun c=>ifb (ine c 0) (k c) (Ä (ũ a.1 a.2.1) fun b=>ifb (ine b.2 0) (k (5:Int)) (Ä (Į a.1) fun d=>ck (0-a.2.2.2.1) fun g=>ifb a.2.2.1 (Ä (jX d.1 (0:Int) b.1 a.2.2.2.2) fun e=>ifb (ine e.2 0) (k (8:Int)) (ifb (ine e.1 a.2.2.2.1) (k (8:Int)) (k (0:Int)))) (Ä (jX d.1 b.1 (0:Int) a.2.2.2.2) fun f=>ifb (ine f.2 0) (k (8:Int)) (ifb (ine f.1 g) (k (8:Int)) (k (0:Int))))))
def lM (a:Val χ):Option (Int):=vt a some
def vQ (f:Int) (a:Int) (c:Val ab) (g:Int→Val ab→Option ρ) (h:Val ab→Option ρ):Option ρ :=
  ifb (ilt a f) (ì ((ile 0 a)&&(ilt a (ą c))) (Ķ c (Int.toNat a) fun d=>ì (ê (List.length d.2.2.1)) (ì (ê (List.length d.2.2.2.1)) (ì ((ile 0 a)&&(ilt a (ą c))) (Ķ c (Int.toNat a) fun b=>ì ((ile 0 a)&&(ilt a (ą (List.set c (Int.toNat a) (b.1,b.2.1,d.2.2.1,b.2.2.2))))) (Ķ (List.set c (Int.toNat a) (b.1,b.2.1,d.2.2.1,b.2.2.2)) (Int.toNat a) fun e=>ck (a+(1:Int)) fun i=>g i (List.set (List.set c (Int.toNat a) (b.1,b.2.1,d.2.2.1,b.2.2.2)) (Int.toNat a) (e.1,e.2.1,e.2.2.1,d.2.2.2.1,e.2.2.2.2)))))))) (h c)
def Ya (a:Val Å) (b:Val É) (k:Val aG→Option ρ):Option ρ :=
  ì (ê (List.length b.2.2.1)) (ì (ê (List.length b.2.2.2.1)) (Ä (ÿ a) fun d=>ifb (ine d 0) (k ((((0:Int),(0:Int)),[],[],[],[],[]),d)) (ì (ê (List.length a.2.1)) (ì (ê (List.length a.2.2.1)) (ì (ê (List.length a.2.2.2.1)) (ì (ê (List.length a.2.2.2.2.2)) (ì (ê (List.length a.2.2.2.2.1)) (Ñ (fun(e:(Val (.pair tI ab))) g=>vQ (Þ a.2.2.2.2.1) e.1 e.2 (fun h i=>g (h,i)) (fun c=>ì (ê ((List.length c)+(List.length ([b])))) (Ä (ÿ (a.1,a.2.1,a.2.2.1,a.2.2.2.1,(c++([b])),a.2.2.2.2.2)) fun f=>ifb (ine f 0) (k ((((0:Int),(0:Int)),[],[],[],[],[]),f)) (k ((a.1,a.2.1,a.2.2.1,a.2.2.2.1,(c++([b])),a.2.2.2.2.2),(0:Int)))))) ((0:Int),a.2.2.2.2.1)))))))))
def oX (a:Val Å) (b:Val É):Option ((Val aG)):=Ya a b some
def Qs (b:Val Å) (a:Val É) (c:Val Ã) (k:Val Ĵ→Option ρ):Option ρ :=
  Ä (pu b a) fun d=>Ä (uC b a) fun e=>Ä (HF d.1) fun h=>Ä (zG d.2) fun i=>ck (h.1+e.1) fun j=>ck (j-a.2.2.2.2.2.1) fun f=>ck (i.1+e.2) fun l=>ck (l+a.2.2.2.2.2.1) fun g=>ifb (igt f g) (k (((0:Int),(0:Int)),(5:Int))) (ck (c.1+f) fun m=>ck (c.2+g) fun n=>k ((m,n),(0:Int)))
def uB (a:Val Å) (b:Val É) (c:Val Ã):Option (Val Ĵ):=Qs a b c some
def DT (g:Val Å) (a:Val É) (k:Val Ĵ→Option ρ):Option ρ :=
  Ä (oX g (a.1,a.2.1,a.2.2.1,a.2.2.2.1,(0:Int),a.2.2.2.2.2)) fun d=>ifb (ine d.2 0) (k (((0:Int),(0:Int)),d.2)) (Ä (HH d.1) fun b=>ck ((Þ b.2.2.1.2)-(2:Int)) fun c=>ì ((ile 0 c)&&(ile c (ą b.2.2.1.2))) (Ä (ů a.2.2.1 a.2.2.2.1) fun l=>Ä (iy b l a.2.1) fun h=>Ä (ů a.2.2.2.1 a.2.2.1) fun m=>Ä (iy b m a.2.1) fun i=>Ä (qt (b.2.2.1.1,(List.take (Int.toNat c) b.2.2.1.2)) i h) fun e=>ifb (ine e.2 0) (k (((0:Int),(0:Int)),e.2)) (Ä (qt (b.2.2.1.1,(List.take (Int.toNat c) b.2.2.1.2)) h i) fun f=>ifb (ine f.2 0) (k (((0:Int),(0:Int)),f.2)) (ck (0-f.1) fun n=>Ä (uB g (a.1,a.2.1,a.2.2.1,a.2.2.2.1,(0:Int),a.2.2.2.2.2) (n,e.1)) fun j=>k (j.1,j.2)))))
def wn (a:Val Å) (b:Val É):Option (Val Ĵ):=DT a b some
def Qq (a:Val Å) (b:Int) (k:(Val (.pair É tI))→Option ρ):Option ρ :=
  Ä (ÿ a) fun c=>ifb (ine c 0) (k (((0:Int),(0:Int),[],[],(0:Int),(0:Int),(0:Int),(0:Int)),c)) (ifb (ilt b 0) (k (((0:Int),(0:Int),[],[],(0:Int),(0:Int),(0:Int),(0:Int)),(1:Int))) (ifb (ige b (Þ a.2.2.2.2.1)) (k (((0:Int),(0:Int),[],[],(0:Int),(0:Int),(0:Int),(0:Int)),(1:Int))) (ü a.2.2.2.2.1 b fun d=>k (d,(0:Int)))))
def HG (a:Val Å) (b:Int):Option ((Val (.pair É tI))):=Qq a b some
def Yc (b:Val Å) (c:Int) (k:Val Ĵ→Option ρ):Option ρ :=
  Ä (HG b c) fun a=>ifb (ine a.2 0) (k (((0:Int),(0:Int)),a.2)) (Ä (wi b a.1) fun d=>k (d,(0:Int)))
def Nz (a:Val Å) (b:Int):Option (Val Ĵ):=Yc a b some
def JI (a:Val ae) (b:Val ae) (k:(Val (.pair ae aH))→Option ρ):Option ρ :=
  Ä (mL a) fun c=>ifb (!c) (k ([],[],(1:Int))) (Ä (mL b) fun d=>ifb (!d) (k ([],[],(1:Int))) (Ä (ů a b) fun e=>Ä (ů b a) fun f=>k (e,f,(0:Int))))
def uD (a:Val ae) (b:Val ae):Option ((Val (.pair ae aH))):=JI a b some
def yH (a:Val ae) (b:Val ax) (c:(Val (.ptr É))) (k:Int→Option ρ):Option ρ :=
  ifb (ieq (Þ a) 0) (k (0:Int)) (ü a (0:Int) fun d=>Ä (ς b (d,c.2.1)) fun e=>k e)
def nR (a:Val ae) (b:Val ax) (c:(Val (.ptr É))):Option (Int):=yH a b c some
def yG (b:Int) (c:Int) (a:Val ax) (d:(Val (.ptr tI))) (e:Val aS) (f:(Val (.ptr tI))) (k:Val Ĉ→Option ρ):Option ρ :=
  Ä (ĉ a b c) fun g=>Ä (ĉ a d c) fun h=>ck (h+e.2) fun i=>Ä (ĉ a b f) fun j=>ck (i+j) fun l=>Ä (ĉ a f c) fun m=>ck (m-e.1) fun n=>Ä (ĉ a b d) fun o=>ck (n+o) fun p=>k (g,l,p)
def nQ (a:Int) (b:Int) (c:Val ax) (d:(Val (.ptr tI))) (e:Val aS) (f:(Val (.ptr tI))):Option (Val Ĉ):=yG a b c d e f some
def lz (f:Int) (g:Val aa) (h:Val ah) (i:Int) (a:Int) (b:Val ah) (c:Int→Val ah→Option ρ) (j:Val ah→Option ρ):Option ρ :=
  ifb (ilt a i) (ü h a fun d=>ü g a fun e=>ifb (!((Ŋ e.1 (3:Int))&&((Ŋ e.2 f)&&true))) (ì (ê ((List.length b)+(List.length ([d])))) (ck (a+(1:Int)) fun k=>c k (b++([d])))) (ck (a+(1:Int)) fun l=>c l b)) (j b)
def I6 (f:Val ax) (o:Val Ã) (a:Val É) (k:(Val (.pair Ź tI))→Option ρ):Option ρ :=
  Ä (wn f.1 a) fun e=>ifb (ine e.2 0) (k ((((0:Int),(0:Int)),((0:Int),(0:Int),(0:Int)),(0:Int),(0:Int),(0:Int)),e.2)) (Ä (oX f.1 (a.1,a.2.1,a.2.2.1,a.2.2.2.1,(0:Int),a.2.2.2.2.2)) fun b=>ifb (ine b.2 0) (k ((((0:Int),(0:Int)),((0:Int),(0:Int),(0:Int)),(0:Int),(0:Int),(0:Int)),b.2)) (ck ((Þ b.1.2.2.2.2.1)-(1:Int)) fun g=>Ä (Nz b.1 g) fun h=>Ä (uD a.2.2.1 a.2.2.2.1) fun i=>Ä (Į b.1) fun c=>Ñ (fun(j:Val Í) p=>lz g c.2.1 c.1.2 (Þ c.1.2) j.1 j.2 (fun q r=>p (q,r)) (fun d=>Ä (nR i.1 (b.1,c.1.1,d) (a.1,a.2.1,a.2.2.1,a.2.2.2.1,(0:Int),a.2.2.2.2.2)) fun l=>Ä (nR i.2.1 (b.1,c.1.1,d) (a.1,a.2.1,a.2.2.1,a.2.2.2.1,(0:Int),a.2.2.2.2.2)) fun m=>Ä (ς (b.1,c.1.1,d) o) fun n=>Ä (nQ n (0:Int) (b.1,c.1.1,d) m h.1 l) fun s=>Ä (nQ (0:Int) n (b.1,c.1.1,d) m h.1 l) fun t=>k ((e.1,s,t),(0:Int)))) ((0:Int),[])))
def ut (a:Val ax) (b:Val Ã) (c:Val É):Option ((Val (.pair Ź tI))):=I6 a b c some
def vk (a:Val Ĉ) (k:Val ae→Option ρ):Option ρ :=
  ck (a.2.2-a.2.1) fun c=>ck (Int.tdiv c (2:Int)) fun b=>ck (a.1-a.2.1) fun d=>ck (a.2.2-a.1) fun e=>ck (b-1) fun f=>ck (b+1) fun g=>k ([d,e,b,f,g])
def iK (a:Val Ĉ):Option ((Val ae)):=vk a some
def I9 (a:Val Ĉ) (b:Int) (k:Int→Option ρ):Option ρ :=
  ck (a.2.1+b) fun c=>ck (a.2.2-b) fun d=>k (mG (mG a.1 c) d)
def uw (a:Val Ĉ) (b:Int):Option (Int):=I9 a b some
def sc (a:Val Ź) (b:Int) (k:Val Ã→Option ρ):Option ρ :=
  Ä (uw a.2.2 b) fun c=>ck (0-c) fun d=>Ä (uw a.2.1 b) fun e=>k (d,e)
def Ŕ (a:Val Ź) (b:Int):Option (Val Ã):=sc a b some
def hO (d:Int) (e:Int) (f:Int) (a:Int) (b:Val ae) (c:Int→Val ae→Option ρ) (g:Val ae→Option ρ):Option ρ :=
  ck (d+(2:Int)) fun h=>ifb (ile a h) (ifb (igt a e) (ifb (ilt a f) (ì (ê ((List.length b)+(List.length ([a])))) (ck (a+(1:Int)) fun i=>c i (b++([a])))) (ck (a+(1:Int)) fun j=>c j b)) (ck (a+(1:Int)) fun k=>c k b)) (g b)
def jy (e:Val ae) (f:Int) (g:Int) (h:Int) (a:Int) (b:Val ae) (i:Int→Val ae→Option ρ) (j:Val ae→Option ρ):Option ρ :=
  ifb (ilt a f) (ü e a fun c=>ck (c-(2:Int)) fun k=>Ñ (fun(d:Val ar) l=>hO c g h d.1 d.2 (fun m n=>l (m,n)) (fun o=>ck (a+(1:Int)) fun p=>i p o)) (k,b)) (j b)
def sd (a:Val Ź) (b:Val ae) (k:Val ae→Option ρ):Option ρ :=
  Ñ (fun(c:Val ar) d=>jy b (Þ b) a.1.1 a.1.2 c.1 c.2 (fun e f=>d (e,f)) (fun g=>k g)) ((0:Int),[a.1.1,a.1.2])
def jW (a:Val Ź) (b:Val ae):Option ((Val ae)):=sd a b some
def i8 (d:Val ae) (e:Int) (f:Int) (g:Int) (h:Int) (i:Int) (j:Int) (k:Int) (l:Int) (m:Int) (b:Int) (a:Int) (n:Int→Int→Option ρ) (o:Int→Option ρ):Option ρ :=
  ifb (ilt a e) (ü d a fun p=>Ä (Ŕ ((f,g),(h,i,j),k,l,m) p) fun c=>ck (c.2-c.1) fun q=>ck (a+(1:Int)) fun r=>n (lT b q) r) (o b)
def pN (a:Val Ź) (k:Int→Option ρ):Option ρ :=
  Ä (iK a.2.1) fun d=>Ä (iK a.2.2) fun e=>Ä (ò ([d,e])) fun f=>Ä (jW a f) fun b=>Ñ (fun(c:Val Ã) g=>i8 b (Þ b) a.1.1 a.1.2 a.2.1.1 a.2.1.2.1 a.2.1.2.2 a.2.2.1 a.2.2.2.1 a.2.2.2.2 c.1 c.2 (fun h i=>g (h,i)) (fun j=>k j)) ((-1:Int),(0:Int))
def lK (a:Val Ź):Option (Int):=pN a some
def yK (m:Int) (j:Val aa) (b:Int) (c:Int) (d:Int) (e:Val ac) (f:Val aa) (g:Val af) (h:Val ab) (i:Val aa) (k:Int→Int→Int→Val ac→Val aa→Val af→Val ab→Val aa→Option ρ) (n:Val aD→Option ρ) (o:Val ai→Option ρ):Option ρ :=
  ifb (ilt b m) (ì ((ile 0 b)&&(ilt b (ą j))) (Ķ j (Int.toNat b) fun l=>Ä (ũ ((c,d),e,f,g,h,i) l) fun p=>ifb (ieq p.2 0) (ck (b+(1:Int)) fun q=>k q c d e f g h i) (Ä (j9 ((c,d),e,f,g,h,i) l) fun a=>ifb (ine a.2 0) (n (a.2,c,d,e,f,g,h,i)) (ck (b+(1:Int)) fun r=>k r a.1.1.1 a.1.1.2 a.1.2.1 a.1.2.2.1 a.1.2.2.2.1 a.1.2.2.2.2.1 a.1.2.2.2.2.2)))) (o (c,d,e,f,g,h,i))
def PJ (a:Val Å) (e:Val Ã) (i:Val É) (k:Val Ã→Option ρ):Option ρ :=
  Ä (ÿ a) fun f=>ifb (ine f 0) (ì (ine f 0) (k ((0:Int),f))) (Ñ (fun(b:Val aD) j=>yK (Þ ([e])) ([e]) b.1 b.2.1 b.2.2.1 b.2.2.2.1 b.2.2.2.2.1 b.2.2.2.2.2.1 b.2.2.2.2.2.2.1 b.2.2.2.2.2.2.2 (fun l m n o p q r s=>j (l,m,n,o,p,q,r,s)) (fun h=>ì (ine h.1 0) (k ((0:Int),h.1))) (fun c=>Ä (Į ((c.1,c.2.1),c.2.2)) fun d=>ifb (ine d.2.2 0) (ì (ine d.2.2 0) (k ((0:Int),d.2.2))) (Ä (ģ d.1) fun t=>ifb (!t.1) (k ((0:Int),(9:Int))) (Ä (ut (((c.1,c.2.1),c.2.2),d.1) e i) fun g=>ifb (ine g.2 0) (k ((0:Int),g.2)) (Ä (lK g.1) fun u=>k (u,(0:Int))))))) ((0:Int),a.1.1,a.1.2,a.2.1,a.2.2.1,a.2.2.2.1,a.2.2.2.2.1,a.2.2.2.2.2))
def zC (a:Val Å) (b:Val Ã) (c:Val É):Option (Val Ã):=PJ a b c some
def vp (a:Int) (k:Int→Option ρ):Option ρ :=
  k (lT (-288230376151711744:Int) (mG a (288230376151711744:Int)))
def lL (a:Int):Option (Int):=vp a some
def vl (a:Val Ĉ) (b:Int) (k:Val ae→Option ρ):Option ρ :=
  ck (b-a.2.1) fun c=>ck (a.2.2-b) fun d=>k ([c,d])
def iL (a:Val Ĉ) (b:Int):Option ((Val ae)):=vl a b some
def sh (m:Int) (j:Val aa) (b:Int) (c:Int) (d:Int) (e:Val ac) (f:Val aa) (g:Val af) (h:Val ab) (i:Val aa) (k:Int→Int→Int→Val ac→Val aa→Val af→Val ab→Val aa→Option ρ) (n:Val aD→Option ρ) (o:Val ai→Option ρ):Option ρ :=
  ifb (ilt b m) (ì ((ile 0 b)&&(ilt b (ą j))) (Ķ j (Int.toNat b) fun l=>Ä (ũ ((c,d),e,f,g,h,i) l) fun p=>ifb (ieq p.2 0) (ck (b+(1:Int)) fun q=>k q c d e f g h i) (Ä (j9 ((c,d),e,f,g,h,i) l) fun a=>ifb (ine a.2 0) (n (a.2,c,d,e,f,g,h,i)) (ck (b+(1:Int)) fun r=>k r a.1.1.1 a.1.1.2 a.1.2.1 a.1.2.2.1 a.1.2.2.2.1 a.1.2.2.2.2.1 a.1.2.2.2.2.2)))) (o (c,d,e,f,g,h,i))
def mX (b:Val ae) (c:Int) (d:Int) (e:Int) (f:Int) (g:Int) (h:Int) (i:Int) (j:Int) (k:Int) (l:Int) (m:Int) (a:Int) (n:Int→Option ρ) (o:Int→Option ρ) (p:Unit→Option ρ):Option ρ :=
  ifb (ilt a c) (ü b a fun q=>Ä (Ŕ ((f,g),(h,i,j),k,l,m) q) fun r=>Ä (qp r (d,e)) fun s=>ifb (ieq s 3) (o a) (ck (a+(1:Int)) fun t=>n t)) (p ())
def DA (c:Val Å) (g:Val Ã) (b:Val Ã) (n:Val É) (k:Val aU→Option ρ):Option ρ :=
  Ä (ÿ c) fun h=>ifb (ine h 0) (ifb (ine h 0) (k (false,h)) (ì (igt b.1 b.2) (k (false,(1:Int))))) (Ñ (fun(d:Val aD) o=>sh (Þ ([g])) ([g]) d.1 d.2.1 d.2.2.1 d.2.2.2.1 d.2.2.2.2.1 d.2.2.2.2.2.1 d.2.2.2.2.2.2.1 d.2.2.2.2.2.2.2 (fun p q r s t u v w=>o (p,q,r,s,t,u,v,w)) (fun l=>ifb (ine l.1 0) (k (false,l.1)) (ì (igt b.1 b.2) (k (false,(1:Int))))) (fun e=>Ä (Į ((e.1,e.2.1),e.2.2)) fun f=>ifb (ine f.2.2 0) (ifb (ine f.2.2 0) (k (false,f.2.2)) (ì (igt b.1 b.2) (k (false,(1:Int))))) (Ä (ģ f.1) fun x=>ifb (!x.1) (k (false,(9:Int))) (ifb (igt b.1 b.2) (k (false,(1:Int))) (Ä (ut (((e.1,e.2.1),e.2.2),f.1) g n) fun a=>ifb (ine a.2 0) (k (false,a.2)) (Ä (iK a.1.2.1) fun y=>Ä (iK a.1.2.2) fun z=>Ä (ò ([y,z])) fun A=>Ä (lL b.1) fun i=>Ä (lL b.2) fun j=>Ä (iL a.1.2.1 i) fun B=>ck (0-i) fun C=>Ä (iL a.1.2.2 C) fun D=>Ä (ò ([A,B,D])) fun E=>Ä (iL a.1.2.1 j) fun F=>ck (0-j) fun G=>Ä (iL a.1.2.2 G) fun H=>Ä (ò ([E,F,H])) fun I=>Ä (jW a.1 I) fun m=>Ñ (fun(J:Int) K=>mX m (Þ m) i j a.1.1.1 a.1.1.2 a.1.2.1.1 a.1.2.1.2.1 a.1.2.1.2.2 a.1.2.2.1 a.1.2.2.2.1 a.1.2.2.2.2 J (fun L=>K L) (fun M=>k ((!(ige M 0)),(0:Int))) (fun _=>k (true,(0:Int)))) (0:Int))))))) ((0:Int),c.1.1,c.1.2,c.2.1,c.2.2.1,c.2.2.2.1,c.2.2.2.2.1,c.2.2.2.2.2))
def mK (a:Val Å) (b:Val Ã) (c:Val Ã) (d:Val É):Option ((Val aU)):=DA a b c d some
def Lg (d:Int) (c:Int) (e:Val ah) (a:Int) (b:Val aP) (f:Int→Val aP→Option ρ) (g:Val aP→Option ρ):Option ρ :=
  ifb (ilt a d) (Ä (zD (c,e) a c) fun h=>ì ((ile 0 a)&&(ilt a (ą b))) (Ķ b (Int.toNat a) fun j=>ck (a+(1:Int)) fun i=>f i (List.set b (Int.toNat a) h))) (g b)
def Lc (g:Int) (h:Val am) (j:Val ah) (k:Int) (e:Int) (b:Int) (a:Int) (c:Val ae) (f:Int→Int→Int→Val ae→Option ρ) (i:(Val (.pair tI ar))→Option ρ):Option ρ :=
  ifb (ilt a k) (ü j a fun d=>ifb (ieq d.1 e) (ck (g-(1:Int)) fun l=>ü h l fun m=>ü m d.2.1 fun n=>ifb (ine n 1152921504606846976) (ck (b+d.2.2) fun o=>ck (g-(1:Int)) fun p=>ü h p fun q=>ü q d.2.1 fun r=>ck (o+r) fun s=>ifb (ilt s 0) (ì (ê ((List.length c)+(List.length ([a])))) (ck (b+d.2.2) fun t=>i (d.2.1,t,(c++([a]))))) (ck (a+(1:Int)) fun u=>f e b u c)) (ck (a+(1:Int)) fun v=>f e b v c)) (ck (a+(1:Int)) fun w=>f e b w c)) (i (e,b,c))
def Ld (f:Val am) (d:Val ah) (g:Int) (b:Int) (h:Int) (e:Val ae) (i:Int→Int→Int→Val ae→Option ρ) (j:Val ae→Option ρ):Option ρ :=
  ifb (igt b 0) (Ñ (fun(a:Val aJ) k=>Lc b f d (Þ d) a.1 a.2.1 a.2.2.1 a.2.2.2 (fun l m n o=>k (l,m,n,o)) (fun c=>ck (b-(1:Int)) fun p=>i c.1 p c.2.1 c.2.2)) (g,h,(0:Int),e)) (j e)
def Le (e:Int) (h:Val ah) (i:Int) (j:Int) (k:Val ah) (b:Val aP) (c:Int) (f:Int→Option ρ) (l:Unit→Option ρ) (m:Val ar→Option ρ) (n:Unit→Option ρ):Option ρ :=
  ifb (ilt c i) (ü h c fun a=>ì ((ile 0 a.1)&&(ilt a.1 (ą b))) (Ķ b (Int.toNat a.1) fun o=>ck (e-(1:Int)) fun p=>ü o p fun q=>ü q a.2.1 fun g=>ifb (ieq g 1152921504606846976) (ck (c+(1:Int)) fun r=>f r) (ck (a.2.2+g) fun s=>ifb (ige s 0) (ck (c+(1:Int)) fun t=>f t) (ifb (igt e j) (l ()) (ì ((ile 0 a.1)&&(ilt a.1 (ą b))) (Ķ b (Int.toNat a.1) fun u=>Ñ (fun(d:Val aJ) v=>Ld u k d.1 d.2.1 d.2.2.1 d.2.2.2 (fun w x y z=>v (w,x,y,z)) (fun A=>m ((0:Int),A))) (a.1,e,(0:Int),[]))))))) (n ())
def Lf (d:Int) (a:Val ah) (e:Val aP) (b:Int) (f:Int→Option ρ) (g:Unit→Option ρ) (h:Val ar→Option ρ):Option ρ :=
  Ñ (fun(i:Int) j=>Le b a (Þ a) d a e i (fun k=>j k) (fun _=>g ()) (fun c=>h (c.1,c.2)) (fun _=>ck (b+(1:Int)) fun l=>f l)) (0:Int)
def P2 (a:Val Í) (k:Val aH→Option ρ):Option ρ :=
  Ä (nT a) fun b=>ifb (ine b.1 0) (k ([],b.1)) (Ä (kJ a ([])) fun e=>ifb e.2 (k ([],(5:Int))) (ì ((ile 0 a.1)&&(ê (Int.toNat a.1))) (Ñ (fun(c:(Val (.pair tI aP))) f=>Lg (Þ (List.replicate (Int.toNat a.1) ([]:Val am))) a.1 a.2 c.1 c.2 (fun g h=>f (g,h)) (fun i=>Ñ (fun(j:Int) l=>Lf a.1 a.2 i j (fun m=>l m) (fun _=>k ([],(5:Int))) (fun d=>k (d.2,d.1))) (1:Int))) ((0:Int),(List.replicate (Int.toNat a.1) ([]:Val am))))))
def zE (a:Val Í):Option ((Val aH)):=P2 a some
def PP (a:Val Å) (k:(Val (.pair χ tI))→Option ρ):Option ρ :=
  Ä (Į a) fun b=>ifb (ine b.2.2 0) (k (((((0:Int),(0:Int)),[],[],[],[],[]),((0:Int),(0:Int)),false,(0:Int),[]),b.2.2)) (Ä (zE b.1) fun c=>ifb (ine c.2 0) (k (((((0:Int),(0:Int)),[],[],[],[],[]),((0:Int),(0:Int)),false,(0:Int),[]),c.2)) (Ä (qq a c.1) fun f=>Ä (Q7 a f ([])) fun e=>Ä (Į e) fun g=>Ä (zE g.1) fun d=>ifb (ine d.2 0) (k (((((0:Int),(0:Int)),[],[],[],[],[]),((0:Int),(0:Int)),false,(0:Int),[]),d.2)) (k ((e,((0:Int),(0:Int)),false,(0:Int),d.1),(0:Int)))))
def HC (a:Val Å):Option ((Val (.pair χ tI))):=PP a some
def xK (k:Val Å→Option ρ):Option ρ :=
  k (((0:Int),(2:Int)),[((1:Int),(0:Int),(1000:Int),((-5:Int),(5:Int)),((1:Int),(10:Int)),(1:Int)),((2:Int),(0:Int),(1000:Int),((-50:Int),(50:Int)),((1:Int),(4:Int)),(0:Int))],[((1:Int),(10:Int))],[((1:Int),((20:Int),(29:Int)),(3:Int))],[((7:Int),(10:Int),[(1:Int)],[(2:Int)],(-20:Int),(1:Int),(100:Int),(200:Int))],[])
def zy:Option (Val Å):=xK some
def Xi (a:Val ae) (b:Int) (k:Bool→Option ρ):Option ρ :=
  Ä (uD a ([])) fun c=>ifb (ieq c.2.2 0) (k (ile (Þ a) b)) (k false)
def Nx (a:Val ae) (b:Int):Option (Bool):=Xi a b some
def PF (a:Int) (k:Bool→Option ρ):Option ρ :=
  ifb (ige a 0) (k (ile a 20000)) (k false)
def HA (a:Int):Option (Bool):=PF a some
def ri (c:Int) (e:Val ae) (f:Int) (a:Int) (b:Val aa) (g:Int→Val aa→Option ρ) (h:Val aa→Option ρ):Option ρ :=
  ifb (ilt a f) (ü e a fun d=>ì (ê ((List.length b)+(List.length ([(d,c)])))) (ck (a+(1:Int)) fun i=>g i (b++([(d,c)])))) (h b)
def PB (c:Int) (d:Val am) (k:Val aa→Option ρ):Option ρ :=
  Ä (ò d) fun a=>Ñ (fun(b:Val aF) e=>ri c a (Þ a) b.1 b.2 (fun f g=>e (f,g)) (fun h=>k h)) ((0:Int),[])
def Hz (a:Int) (b:Val am):Option ((Val aa)):=PB a b some
def vr (l:Val aa) (m:Int) (i:Int) (b:Int) (c:Int) (d:Val ac) (e:Val aa) (f:Val af) (g:Val ab) (h:Val aa) (j:Int→Int→Int→Val ac→Val aa→Val af→Val ab→Val aa→Option ρ) (n:Val aD→Option ρ) (o:Val ai→Option ρ):Option ρ :=
  ifb (ilt i m) (ü l i fun k=>Ä (ũ ((b,c),d,e,f,g,h) k) fun p=>ifb (ieq p.2 0) (ck (i+(1:Int)) fun q=>j q b c d e f g h) (Ä (j9 ((b,c),d,e,f,g,h) k) fun a=>ifb (ine a.2 0) (n (a.2,b,c,d,e,f,g,h)) (ck (i+(1:Int)) fun r=>j r a.1.1.1 a.1.1.2 a.1.2.1 a.1.2.2.1 a.1.2.2.2.1 a.1.2.2.2.2.1 a.1.2.2.2.2.2))) (o (b,c,d,e,f,g,h))
def vq (e:Val ax) (f:Val aa) (g:Int) (a:Int) (b:Int) (c:Int) (h:Int→Int→Int→Option ρ) (i:Val Ã→Option ρ):Option ρ :=
  ifb (ilt a g) (ü f a fun j=>Ä (ŷ e j) fun d=>ck (b+d.1) fun k=>ck (c+d.2) fun l=>ck (a+(1:Int)) fun m=>h m k l) (i (b,c))
def Xw (a:Val Å) (i:Int) (c:Val ae) (k:Val Ĵ→Option ρ):Option ρ :=
  Ä (ÿ a) fun j=>ifb (ine j 0) (k (((0:Int),(0:Int)),j)) (ifb (ieq (Þ c) 0) (k (((0:Int),(0:Int)),(1:Int))) (Ä (Nx c (6:Int)) fun q=>ifb (!q) (k (((0:Int),(0:Int)),(1:Int))) (Ä (HA i) fun r=>ifb (!r) (k (((0:Int),(0:Int)),(1:Int))) (Ä (Hz i ([c])) fun f=>Ä (ÿ a) fun g=>ifb (ine g 0) (ifb (ine g 0) (k (((0:Int),(0:Int)),g)) (ck ((Þ c)-(1:Int)) fun l=>ck (l*a.1.1) fun J=>ck (l*a.1.2) fun K=>none)) (Ñ (fun(b:Val aD) s=>vr f (Þ f) b.1 b.2.1 b.2.2.1 b.2.2.2.1 b.2.2.2.2.1 b.2.2.2.2.2.1 b.2.2.2.2.2.2.1 b.2.2.2.2.2.2.2 (fun t u v w x y z A=>s (t,u,v,w,x,y,z,A)) (fun m=>ifb (ine m.1 0) (k (((0:Int),(0:Int)),m.1)) (ck ((Þ c)-(1:Int)) fun n=>ck (n*a.1.1) fun L=>ck (n*a.1.2) fun M=>none)) (fun d=>Ä (Į ((d.1,d.2.1),d.2.2)) fun e=>ifb (ine e.2.2 0) (ifb (ine e.2.2 0) (k (((0:Int),(0:Int)),e.2.2)) (ck ((Þ c)-(1:Int)) fun o=>ck (o*a.1.1) fun N=>ck (o*a.1.2) fun O=>none)) (Ä (ģ e.1) fun B=>ifb (!B.1) (k (((0:Int),(0:Int)),(9:Int))) (ck ((Þ c)-(1:Int)) fun p=>ck (p*a.1.1) fun C=>ck (p*a.1.2) fun D=>Ñ (fun(h:Val Ĉ) E=>vq (((d.1,d.2.1),d.2.2),e.1) f (Þ f) h.1 h.2.1 h.2.2 (fun F G H=>E (F,G,H)) (fun I=>k (I,(0:Int)))) ((0:Int),C,D))))) ((0:Int),a.1.1,a.1.2,a.2.1,a.2.2.1,a.2.2.2.1,a.2.2.2.2.1,a.2.2.2.2.2))))))
def Ny (a:Val Å) (b:Int) (c:Val ae):Option (Val Ĵ):=Xw a b c some
def sq (a:Val Í) (b:Val ae) (k:Int→Option ρ):Option ρ :=
  Ä (nT a) fun d=>ifb (ine d.1 0) (k d.1) (Ä (qr a b) fun e=>ifb (ine e 0) (k e) (ifb (ieq (Þ b) 0) (k (8:Int)) (ü b (0:Int) fun g=>ü a.2 g fun f=>Ä (HD a f.1 b) fun c=>ifb (!c.2.2) (k (8:Int)) (ifb (ine c.1 f.1) (k (8:Int)) (ifb (ige c.2.1 0) (k (8:Int)) (k (0:Int)))))))
def m7 (a:Val Í) (b:Val ae):Option (Int):=sq a b some
def sj (a:Val χ) (k:Int→Option ρ):Option ρ :=
  Ä (ÿ a.1) fun b=>ifb (ine b 0) (k b) (ifb (!((Ŋ a.2.1.1 (0:Int))&&((Ŋ a.2.1.2 (0:Int))&&true))) (k (1:Int)) (ifb a.2.2.1 (k (1:Int)) (ifb (ine a.2.2.2.1 0) (k (1:Int)) (Ä (Į a.1) fun c=>Ä (m7 c.1 a.2.2.2.2) fun d=>ifb (ine d 0) (k (8:Int)) (k (0:Int))))))
def m6 (a:Val χ):Option (Int):=sj a some
def ă (c:Val ac) (d:Int) (e:Int) (f:Int) (g:Int) (h:Int) (i:Int) (j:Int) (k:Int) (l:Int) (b:Int) (m:Int→Option ρ) (n:Int→Option ρ) (o:Unit→Option ρ):Option ρ :=
  ifb (ilt b d) (ü c b fun a=>ifb ((Ŋ e a.1)&&((Ŋ f a.2.1)&&((Ŋ g a.2.2.1)&&((Ŋ h a.2.2.2.1.1)&&((Ŋ i a.2.2.2.1.2)&&((Ŋ j a.2.2.2.2.1.1)&&((Ŋ k a.2.2.2.2.1.2)&&((Ŋ l a.2.2.2.2.2)&&true)))))))) (n b) (ck (b+(1:Int)) fun p=>m p)) (o ())
def ţ (b:Val ac) (a:Val Ð) (k:Int→Option ρ):Option ρ :=
  Ñ (fun(c:Int) d=>ă b (Þ b) a.1 a.2.1 a.2.2.1 a.2.2.2.1.1 a.2.2.2.1.2 a.2.2.2.2.1.1 a.2.2.2.2.1.2 a.2.2.2.2.2 c (fun e=>d e) (fun f=>k f) (fun _=>k (-1:Int))) (0:Int)
def Ť (a:Val ac) (b:Val Ð):Option (Int):=ţ a b some
def ŋ (a:Val ac) (b:Val Ð) (k:Bool→Option ρ):Option ρ :=
  Ä (Ť a b) fun c=>k (ige c 0)
def Ġ (a:Val ac) (b:Val Ð):Option (Bool):=ŋ a b some
def Ę (c:Val aa) (d:Int) (e:Int) (f:Int) (a:Int) (g:Int→Option ρ) (h:Int→Option ρ) (i:Unit→Option ρ):Option ρ :=
  ifb (ilt a d) (ü c a fun b=>ifb ((Ŋ e b.1)&&((Ŋ f b.2)&&true)) (h a) (ck (a+(1:Int)) fun j=>g j)) (i ())
def η (a:Val aa) (b:Val Ã) (k:Int→Option ρ):Option ρ :=
  Ñ (fun(c:Int) d=>Ę a (Þ a) b.1 b.2 c (fun e=>d e) (fun f=>k f) (fun _=>k (-1:Int))) (0:Int)
def ξ (a:Val aa) (b:Val Ã):Option (Int):=η a b some
def ŭ (a:Val aa) (b:Val Ã) (k:Bool→Option ρ):Option ρ :=
  Ä (ξ a b) fun c=>k (ige c 0)
def Ě (a:Val aa) (b:Val Ã):Option (Bool):=ŭ a b some
def Č (c:Val af) (d:Int) (e:Int) (f:Int) (g:Int) (h:Int) (a:Int) (i:Int→Option ρ) (j:Int→Option ρ) (k:Unit→Option ρ):Option ρ :=
  ifb (ilt a d) (ü c a fun b=>ifb ((Ŋ e b.1)&&((Ŋ f b.2.1.1)&&((Ŋ g b.2.1.2)&&((Ŋ h b.2.2)&&true)))) (j a) (ck (a+(1:Int)) fun l=>i l)) (k ())
def Ž (b:Val af) (a:Val ō) (k:Int→Option ρ):Option ρ :=
  Ñ (fun(c:Int) d=>Č b (Þ b) a.1 a.2.1.1 a.2.1.2 a.2.2 c (fun e=>d e) (fun f=>k f) (fun _=>k (-1:Int))) (0:Int)
def Α (a:Val af) (b:Val ō):Option (Int):=Ž a b some
def ŗ (a:Val af) (b:Val ō) (k:Bool→Option ρ):Option ρ :=
  Ä (Α a b) fun c=>k (ige c 0)
def č (a:Val af) (b:Val ō):Option (Bool):=ŗ a b some
def vh (c:Val ac) (d:Int) (a:Int) (b:Val ak) (e:Int→Val ak→Option ρ) (f:Val ak→Option ρ):Option ρ :=
  ifb (ilt a d) (ü c a fun g=>ck (a+(1:Int)) fun h=>e h (Ni (k:=tI) (v:=.bool) g.1 true b)) (f b)
def mB (b:Val ae) (c:Val ae) (d:Int) (a:Int) (e:Int→Option ρ) (f:Bool→Option ρ) (g:Unit→Option ρ):Option ρ :=
  ifb (ilt a d) (ü b a fun h=>ü c a fun i=>ifb (ine h i) (f false) (ck (a+(1:Int)) fun j=>e j)) (g ())
def vg (b:Val ae) (c:Val ae) (d:Int) (a:Int) (e:Int→Option ρ) (f:Bool→Option ρ) (g:Unit→Option ρ):Option ρ :=
  ifb (ilt a d) (ü b a fun h=>ü c a fun i=>ifb (ine h i) (f false) (ck (a+(1:Int)) fun j=>e j)) (g ())
def pT (g:Val ab) (h:Int) (i:Int) (j:Int) (f:Val ae) (d:Val ae) (k:Int) (l:Int) (m:Int) (n:Int) (a:Int) (c:Int→Option ρ) (e:Int→Option ρ) (o:Unit→Option ρ):Option ρ :=
  ifb (ilt a h) (ü g a fun b=>ifb (ieq i b.1) (ifb (ieq j b.2.1) (ifb (ieq k b.2.2.2.2.1) (ifb (ieq l b.2.2.2.2.2.1) (ifb ((Ŋ m b.2.2.2.2.2.2.1)&&((Ŋ n b.2.2.2.2.2.2.2)&&true)) (ifb (ine (Þ f) (Þ b.2.2.1)) (ck (a+(1:Int)) fun p=>c p) (Ñ (fun(q:Int) r=>mB f b.2.2.1 (Þ f) q (fun s=>r s) (fun t=>ifb t (ifb (ine (Þ d) (Þ b.2.2.2.1)) (ck (a+(1:Int)) fun u=>c u) (Ñ (fun(v:Int) w=>vg d b.2.2.2.1 (Þ d) v (fun x=>w x) (fun y=>ifb y (e a) (ck (a+(1:Int)) fun z=>c z)) (fun _=>e a)) (0:Int))) (ck (a+(1:Int)) fun A=>c A)) (fun _=>ifb (ine (Þ d) (Þ b.2.2.2.1)) (ck (a+(1:Int)) fun B=>c B) (Ñ (fun(C:Int) D=>vg d b.2.2.2.1 (Þ d) C (fun E=>D E) (fun F=>ifb F (e a) (ck (a+(1:Int)) fun G=>c G)) (fun _=>e a)) (0:Int)))) (0:Int))) (ck (a+(1:Int)) fun H=>c H)) (ck (a+(1:Int)) fun I=>c I)) (ck (a+(1:Int)) fun J=>c J)) (ck (a+(1:Int)) fun K=>c K)) (ck (a+(1:Int)) fun L=>c L)) (o ())
def pU (e:Val ab) (f:Int) (c:Val ab) (b:Int) (g:Int→Option ρ) (d:Bool→Option ρ) (h:Unit→Option ρ):Option ρ :=
  ifb (ilt b f) (ü e b fun a=>Ñ (fun(i:Int) j=>pT c (Þ c) a.1 a.2.1 a.2.2.1 a.2.2.2.1 a.2.2.2.2.1 a.2.2.2.2.2.1 a.2.2.2.2.2.2.1 a.2.2.2.2.2.2.2 i (fun k=>j k) (fun l=>ifb (!(ige l 0)) (d false) (ck (b+(1:Int)) fun m=>g m)) (fun _=>d false)) (0:Int)) (h ())
def pS (b:Val ac) (c:Int) (d:Val ac) (a:Int) (e:Int→Option ρ) (f:Int→Option ρ) (g:Unit→Option ρ):Option ρ :=
  ifb (ilt a c) (ü b a fun h=>Ä (Ġ d h) fun i=>ifb (!i) (f a) (ck (a+(1:Int)) fun j=>e j)) (g ())
def kp (d:Val aa) (e:Int) (f:Val ak) (g:Val aa) (a:Int) (b:Int→Option ρ) (h:Int→Option ρ) (i:Unit→Option ρ):Option ρ :=
  ifb (ilt a e) (ü d a fun c=>Y7 (k:=tI) (v:=.bool) c.1 f (fun j=>ifb j (Ä (Ě g c) fun l=>ifb (!l) (h a) (ck (a+(1:Int)) fun m=>b m)) (ck (a+(1:Int)) fun n=>b n)) (ck (a+(1:Int)) fun o=>b o)) (i ())
def mA (d:Val aa) (e:Int) (f:Val ak) (g:Val aa) (a:Int) (b:Int→Option ρ) (h:Int→Option ρ) (i:Unit→Option ρ):Option ρ :=
  ifb (ilt a e) (ü d a fun c=>Y7 (k:=tI) (v:=.bool) c.1 f (fun j=>ifb j (Ä (Ě g c) fun l=>ifb (!l) (h a) (ck (a+(1:Int)) fun m=>b m)) (ck (a+(1:Int)) fun n=>b n)) (ck (a+(1:Int)) fun o=>b o)) (i ())
def Ń (d:Val af) (e:Int) (f:Val ak) (g:Val af) (a:Int) (b:Int→Option ρ) (h:Int→Option ρ) (i:Unit→Option ρ):Option ρ :=
  ifb (ilt a e) (ü d a fun c=>Y7 (k:=tI) (v:=.bool) c.1 f (fun j=>ifb j (Ä (č g c) fun l=>ifb (!l) (h a) (ck (a+(1:Int)) fun m=>b m)) (ck (a+(1:Int)) fun n=>b n)) (ck (a+(1:Int)) fun o=>b o)) (i ())
def ĕ (d:Val af) (e:Int) (f:Val ak) (g:Val af) (a:Int) (b:Int→Option ρ) (h:Int→Option ρ) (i:Unit→Option ρ):Option ρ :=
  ifb (ilt a e) (ü d a fun c=>Y7 (k:=tI) (v:=.bool) c.1 f (fun j=>ifb j (Ä (č g c) fun l=>ifb (!l) (h a) (ck (a+(1:Int)) fun m=>b m)) (ck (a+(1:Int)) fun n=>b n)) (ck (a+(1:Int)) fun o=>b o)) (i ())
def Xj (b:Val Å) (a:Val Å) (k:Bool→Option ρ):Option ρ :=
  Ñ (fun(d:(Val (.pair tI ak))) e=>vh b.2.1 (Þ b.2.1) d.1 d.2 (fun f g=>e (f,g)) (fun c=>Ñ (fun(h:Int) i=>pU b.2.2.2.2.1 (Þ b.2.2.2.2.1) a.2.2.2.2.1 h (fun j=>i j) (fun l=>k l) (fun _=>ifb ((Ŋ b.1.1 a.1.1)&&((Ŋ b.1.2 a.1.2)&&true)) (Ñ (fun(m:Int) n=>pS b.2.1 (Þ b.2.1) a.2.1 m (fun o=>n o) (fun p=>ifb (!(ige p 0)) (Ñ (fun(q:Int) r=>kp b.2.2.1 (Þ b.2.2.1) c a.2.2.1 q (fun s=>r s) (fun t=>ifb (!(ige t 0)) (Ñ (fun(u:Int) v=>mA a.2.2.1 (Þ a.2.2.1) c b.2.2.1 u (fun w=>v w) (fun x=>ifb (!(ige x 0)) (Ñ (fun(y:Int) z=>Ń b.2.2.2.1 (Þ b.2.2.2.1) c a.2.2.2.1 y (fun A=>z A) (fun B=>ifb (!(ige B 0)) (Ñ (fun(C:Int) D=>ĕ a.2.2.2.1 (Þ a.2.2.2.1) c b.2.2.2.1 C (fun E=>D E) (fun F=>k (!(ige F 0))) (fun _=>k true)) (0:Int)) (k false)) (fun _=>Ñ (fun(G:Int) H=>ĕ a.2.2.2.1 (Þ a.2.2.2.1) c b.2.2.2.1 G (fun I=>H I) (fun J=>k (!(ige J 0))) (fun _=>k true)) (0:Int))) (0:Int)) (k false)) (fun _=>Ñ (fun(K:Int) L=>Ń b.2.2.2.1 (Þ b.2.2.2.1) c a.2.2.2.1 K (fun M=>L M) (fun N=>ifb (!(ige N 0)) (Ñ (fun(O:Int) P=>ĕ a.2.2.2.1 (Þ a.2.2.2.1) c b.2.2.2.1 O (fun Q=>P Q) (fun R=>k (!(ige R 0))) (fun _=>k true)) (0:Int)) (k false)) (fun _=>Ñ (fun(S:Int) T=>ĕ a.2.2.2.1 (Þ a.2.2.2.1) c b.2.2.2.1 S (fun U=>T U) (fun V=>k (!(ige V 0))) (fun _=>k true)) (0:Int))) (0:Int))) (0:Int)) (k false)) (fun _=>Ñ (fun(W:Int) X=>mA a.2.2.1 (Þ a.2.2.1) c b.2.2.1 W (fun Y=>X Y) (fun Z=>ifb (!(ige Z 0)) (Ñ (fun(dc:Int) df=>Ń b.2.2.2.1 (Þ b.2.2.2.1) c a.2.2.2.1 dc (fun dg=>df dg) (fun dh=>ifb (!(ige dh 0)) (Ñ (fun(di:Int) dj=>ĕ a.2.2.2.1 (Þ a.2.2.2.1) c b.2.2.2.1 di (fun dk=>dj dk) (fun dl=>k (!(ige dl 0))) (fun _=>k true)) (0:Int)) (k false)) (fun _=>Ñ (fun(dm:Int) dn=>ĕ a.2.2.2.1 (Þ a.2.2.2.1) c b.2.2.2.1 dm (fun dt=>dn dt) (fun du=>k (!(ige du 0))) (fun _=>k true)) (0:Int))) (0:Int)) (k false)) (fun _=>Ñ (fun(dv:Int) dw=>Ń b.2.2.2.1 (Þ b.2.2.2.1) c a.2.2.2.1 dv (fun dz=>dw dz) (fun d8=>ifb (!(ige d8 0)) (Ñ (fun(d9:Int) ee=>ĕ a.2.2.2.1 (Þ a.2.2.2.1) c b.2.2.2.1 d9 (fun eh=>ee eh) (fun ej=>k (!(ige ej 0))) (fun _=>k true)) (0:Int)) (k false)) (fun _=>Ñ (fun(eo:Int) er=>ĕ a.2.2.2.1 (Þ a.2.2.2.1) c b.2.2.2.1 eo (fun ez=>er ez) (fun fc=>k (!(ige fc 0))) (fun _=>k true)) (0:Int))) (0:Int))) (0:Int))) (0:Int)) (k false)) (fun _=>Ñ (fun(fe:Int) ff=>kp b.2.2.1 (Þ b.2.2.1) c a.2.2.1 fe (fun fg=>ff fg) (fun fh=>ifb (!(ige fh 0)) (Ñ (fun(fi:Int) fj=>mA a.2.2.1 (Þ a.2.2.1) c b.2.2.1 fi (fun fk=>fj fk) (fun fm=>ifb (!(ige fm 0)) (Ñ (fun(fo:Int) fp=>Ń b.2.2.2.1 (Þ b.2.2.2.1) c a.2.2.2.1 fo (fun fq=>fp fq) (fun ft=>ifb (!(ige ft 0)) (Ñ (fun(fu:Int) f0=>ĕ a.2.2.2.1 (Þ a.2.2.2.1) c b.2.2.2.1 fu (fun f5=>f0 f5) (fun f6=>k (!(ige f6 0))) (fun _=>k true)) (0:Int)) (k false)) (fun _=>Ñ (fun(f7:Int) f9=>ĕ a.2.2.2.1 (Þ a.2.2.2.1) c b.2.2.2.1 f7 (fun gc=>f9 gc) (fun gd=>k (!(ige gd 0))) (fun _=>k true)) (0:Int))) (0:Int)) (k false)) (fun _=>Ñ (fun(gg:Int) gh=>Ń b.2.2.2.1 (Þ b.2.2.2.1) c a.2.2.2.1 gg (fun gi=>gh gi) (fun gj=>ifb (!(ige gj 0)) (Ñ (fun(gk:Int) gn=>ĕ a.2.2.2.1 (Þ a.2.2.2.1) c b.2.2.2.1 gk (fun gp=>gn gp) (fun gq=>k (!(ige gq 0))) (fun _=>k true)) (0:Int)) (k false)) (fun _=>Ñ (fun(gr:Int) gu=>ĕ a.2.2.2.1 (Þ a.2.2.2.1) c b.2.2.2.1 gr (fun gw=>gu gw) (fun gx=>k (!(ige gx 0))) (fun _=>k true)) (0:Int))) (0:Int))) (0:Int)) (k false)) (fun _=>Ñ (fun(gy:Int) g8=>mA a.2.2.1 (Þ a.2.2.1) c b.2.2.1 gy (fun g9=>g8 g9) (fun ic=>ifb (!(ige ic 0)) (Ñ (fun(ig:Int) ii=>Ń b.2.2.2.1 (Þ b.2.2.2.1) c a.2.2.2.1 ig (fun ij=>ii ij) (fun ik=>ifb (!(ige ik 0)) (Ñ (fun(il:Int) ip=>ĕ a.2.2.2.1 (Þ a.2.2.2.1) c b.2.2.2.1 il (fun iq=>ip iq) (fun ir=>k (!(ige ir 0))) (fun _=>k true)) (0:Int)) (k false)) (fun _=>Ñ (fun(iu:Int) iv=>ĕ a.2.2.2.1 (Þ a.2.2.2.1) c b.2.2.2.1 iu (fun iw=>iv iw) (fun ix=>k (!(ige ix 0))) (fun _=>k true)) (0:Int))) (0:Int)) (k false)) (fun _=>Ñ (fun(iy:Int) iz=>Ń b.2.2.2.1 (Þ b.2.2.2.1) c a.2.2.2.1 iy (fun i5=>iz i5) (fun i6=>ifb (!(ige i6 0)) (Ñ (fun(i7:Int) i8=>ĕ a.2.2.2.1 (Þ a.2.2.2.1) c b.2.2.2.1 i7 (fun i9=>i8 i9) (fun ja=>k (!(ige ja 0))) (fun _=>k true)) (0:Int)) (k false)) (fun _=>Ñ (fun(jb:Int) jc=>ĕ a.2.2.2.1 (Þ a.2.2.2.1) c b.2.2.2.1 jb (fun jd=>jc jd) (fun je=>k (!(ige je 0))) (fun _=>k true)) (0:Int))) (0:Int))) (0:Int))) (0:Int))) (0:Int)) (k false))) (0:Int))) ((0:Int),[])
def Hy (a:Val Å) (b:Val Å):Option (Bool):=Xj a b some
def Jb (b:Val Å) (a:Val χ) (k:Val aU→Option ρ):Option ρ :=
  Ä (ÿ b) fun c=>ifb (ine c 0) (k (false,c)) (ifb ((Ŋ a.2.1.1 (0:Int))&&((Ŋ a.2.1.2 (0:Int))&&true)) (Ä (m6 a) fun d=>ifb (ine d 0) (k (false,d)) (Ä (Hy a.1 b) fun f=>k (f,(0:Int)))) (Ä (lM a) fun e=>ifb (ine e 0) (k (false,e)) (Ä (Hy a.1 b) fun g=>k (g,(0:Int)))))
def AE (a:Val Å) (b:Val χ):Option ((Val aU)):=Jb a b some
def C9 (k:Bool→Option ρ):Option ρ :=
  Ä zy fun a=>Ä (nS a ((2:Int),(10:Int))) fun c=>Ä (nS a ((1:Int),(30:Int))) fun d=>Ä (wh a ((1:Int),(10:Int)) ((2:Int),(10:Int))) fun e=>Ä (Ny a (10:Int) ([(1:Int),(2:Int)])) fun f=>Ä (HB a ((2:Int),(0:Int)) ((990:Int),(1010:Int))) fun g=>Ä (wg a ((2:Int),(10:Int)) true) fun b=>ifb (ine c.2 0) (k false) (ifb (ine d.2 0) (k false) (ifb (ine e.2 0) (k false) (ifb (ine f.2 0) (k false) (ifb (ine g.2 0) (k false) (ifb (ine b.2 0) (k false) (ifb (!((Ŋ c.1.1 (984:Int))&&((Ŋ c.1.2 (1011:Int))&&true))) (k false) (ifb (!((Ŋ d.1.1 (964:Int))&&((Ŋ d.1.2 (1005:Int))&&true))) (k false) (ifb (!((Ŋ e.1.1 (-6:Int))&&((Ŋ e.1.2 (11:Int))&&true))) (k false) (ifb (!((Ŋ f.1.1 (1979:Int))&&((Ŋ f.1.2 (2018:Int))&&true))) (k false) (ifb (ine g.1 3) (k false) (ifb (ine b.1.2.2.2.1 1011) (k false) (Ä (zC a ((2:Int),(10:Int)) ((8:Int),(10:Int),[(1:Int)],[(2:Int)],(0:Int),(0:Int),(0:Int),(0:Int))) fun h=>Ä (mK a ((2:Int),(10:Int)) ((900:Int),(1100:Int)) ((8:Int),(10:Int),[(1:Int)],[(2:Int)],(0:Int),(0:Int),(0:Int),(0:Int))) fun i=>Ä (AE a b.1) fun j=>Ä (HC a) fun l=>ifb (ieq h.2 0) (ifb (ieq i.2 0) (ifb (ieq j.2 0) (ifb (ieq l.2 5) (ifb (ieq h.1 10) (ifb i.1 (ifb j.1 (Ä (lM b.1) fun m=>k (ieq m 0)) (k false)) (k false)) (k false)) (k false)) (k false)) (k false)) (k false)))))))))))))
def Ņ:Option (Bool):=C9 some
def xP (a:Val Ã) (b:Int) (c:Int) (k:Bool→Option ρ):Option ρ :=
  ifb (ile b a.1) (ifb (ile a.1 a.2) (k (ile a.2 c)) (k false)) (k false)
def jm (a:Val Ã) (b:Int) (c:Int):Option (Bool):=xP a b c some
def adB (a:Int) (b:Int) (c:Int) (k:Bool→Option ρ):Option ρ :=
  ifb (ige a b) (k (ile a c)) (k false)
def lJ (a:Int) (b:Int) (c:Int):Option (Bool):=adB a b c some
def WZ (a:Int) (k:Bool→Option ρ):Option ρ :=
  Ä (lJ a (0:Int) (20000:Int)) fun b=>k b
def wd (a:Int):Option (Bool):=WZ a some
def ve (b:Int) (a:Int) (c:Int→Int→Option ρ) (d:Int→Option ρ):Option ρ :=
  ifb (ine a 0) (ifb (Ŋ a 0) (none) (c a (Int.tmod b a))) (d b)
def Xd (b:Int) (c:Int) (k:Int→Option ρ):Option ρ :=
  Ñ (fun(a:Val Ã) d=>ve a.1 a.2 (fun e f=>d (e,f)) (fun g=>k g)) (b,c)
def AD (a:Int) (b:Int):Option (Int):=Xd a b some
def Xh (a:Int) (k:Int→Option ρ):Option ρ :=
  ifb (ilt a 0) (ck ((0:Int)-a) fun b=>k b) (k a)
def Hx (a:Int):Option (Int):=Xh a some
def IX (a:Val Ã) (k:Bool→Option ρ):Option ρ :=
  ifb (ilt a.2 1) (k false) (ifb (igt a.2 2147483647) (k false) (ifb (ilt a.1 (-2147483647:Int)) (k false) (ifb (igt a.1 2147483647) (k false) (Ä (Hx a.1) fun b=>Ä (AD b a.2) fun c=>k (ieq c 1)))))
def AB (a:Val Ã):Option (Bool):=IX a some
def IH (a:Val Ð) (k:Bool→Option ρ):Option ρ :=
  Ä (AB a.2.2.2.2.1) fun b=>ifb (!b) (k false) (Ä (lJ a.2.2.2.2.1.1 (-1000:Int) (1000:Int)) fun c=>ifb (!c) (k false) (ifb (igt a.2.2.2.2.1.2 100) (k false) (Ä (lJ a.1 (1:Int) (1099511627776:Int)) fun d=>ifb d (Ä (wd a.2.1) fun e=>ifb e (Ä (lJ a.2.2.1 (1:Int) (1125899906842624:Int)) fun f=>ifb f (Ä (jm a.2.2.2.1 (-1073741824:Int) (1073741824:Int)) fun g=>ifb g (Ä (lJ a.2.2.2.2.2 (0:Int) (1048576:Int)) fun h=>k h) (k false)) (k false)) (k false)) (k false))))
def AA (a:Val Ð):Option (Bool):=IH a some
def rc (c:Int) (b:Val ac) (a:Int) (d:Int→Option ρ) (e:Int→Option ρ) (f:Unit→Option ρ):Option ρ :=
  ifb (ilt a (Þ b)) (ü b a fun g=>ifb (ieq g.1 c) (e a) (ck (a+(1:Int)) fun h=>d h)) (f ())
def Pc (a:Val Å) (b:Int) (k:Int→Option ρ):Option ρ :=
  Ñ (fun(c:Int) d=>rc b a.2.1 c (fun e=>d e) (fun f=>k f) (fun _=>k (-1:Int))) (0:Int)
def qm (a:Val Å) (b:Int):Option (Int):=Pc a b some
def IJ (a:Val Å) (c:Int) (d:Int) (k:Int→Option ρ):Option ρ :=
  Ä (qm a c) fun b=>ifb (ilt b 0) (k (5:Int)) (ü a.2.1 b fun e=>ifb (ilt d e.2.1) (k (4:Int)) (k (0:Int)))
def mI (a:Val Å) (b:Int) (c:Int):Option (Int):=IJ a b c some
def qQ (e:Int) (f:Int) (g:Val ac) (a:Val aa) (h:Val af) (i:Val ab) (j:Val aa) (b:Int) (k:Int→Option ρ) (c:Int→Option ρ) (l:Unit→Option ρ):Option ρ :=
  ifb (ilt b (Þ a)) (ü a b fun m=>Ä (wd m.2) fun n=>ifb (!n) (c (1:Int)) (ü a b fun o=>ü a b fun p=>Ä (mI ((e,f),g,a,h,i,j) o.1 p.2) fun d=>ifb (ine d 0) (c d) (ck (b+(1:Int)) fun q=>k q))) (l ())
def Oz (a:Val Å) (k:Int→Option ρ):Option ρ :=
  Ñ (fun(b:Int) c=>qQ a.1.1 a.1.2 a.2.1 a.2.2.1 a.2.2.2.1 a.2.2.2.2.1 a.2.2.2.2.2 b (fun d=>c d) (fun e=>k e) (fun _=>k (0:Int))) (0:Int)
def Hs (a:Val Å):Option (Int):=Oz a some
def oF (d:Int) (b:Val af) (e:Int) (f:Int) (g:Int) (a:Int) (c:Int→Option ρ) (h:Int→Option ρ) (i:Unit→Option ρ):Option ρ :=
  ifb (ilt a d) (ü b a fun j=>ifb (ieq j.1 e) (ü b a fun k=>ifb (ile k.2.1.1 g) (ü b a fun l=>ifb (ile f l.2.1.2) (h (9:Int)) (ck (a+(1:Int)) fun m=>c m)) (ck (a+(1:Int)) fun n=>c n)) (ck (a+(1:Int)) fun o=>c o)) (i ())
def lg (b:Val aa) (d:Int) (e:Int) (f:Int) (a:Int) (c:Int→Option ρ) (g:Int→Option ρ) (h:Unit→Option ρ):Option ρ :=
  ifb (ilt a (Þ b)) (ü b a fun i=>ifb (ieq i.1 d) (ü b a fun j=>Ä (lJ j.2 e f) fun k=>ifb k (g (9:Int)) (ck (a+(1:Int)) fun l=>c l)) (ck (a+(1:Int)) fun m=>c m)) (h ())
def oG (g:Int) (h:Int) (i:Val ac) (e:Val aa) (c:Val af) (j:Val ab) (k:Val aa) (d:Int) (l:Int→Option ρ) (b:Int→Option ρ) (m:Unit→Option ρ):Option ρ :=
  ifb (ilt d (Þ c)) (ü c d fun a=>Ä (jm a.2.1 (0:Int) (20000:Int)) fun n=>ifb (!n) (b (1:Int)) (Ä (lJ a.2.2 (0:Int) (1048576:Int)) fun o=>ifb (!o) (b (1:Int)) (Ä (mI ((g,h),i,e,c,j,k) a.1 a.2.1.1) fun f=>ifb (ine f 0) (b f) (Ñ (fun(p:Int) q=>oF d c a.1 a.2.1.1 a.2.1.2 p (fun r=>q r) (fun s=>b s) (fun _=>Ñ (fun(t:Int) u=>lg e a.1 a.2.1.1 a.2.1.2 t (fun v=>u v) (fun w=>b w) (fun _=>ck (d+(1:Int)) fun x=>l x)) (0:Int))) (0:Int))))) (m ())
def IF (a:Val Å) (k:Int→Option ρ):Option ρ :=
  Ñ (fun(b:Int) c=>oG a.1.1 a.1.2 a.2.1 a.2.2.1 a.2.2.2.1 a.2.2.2.2.1 a.2.2.2.2.2 b (fun d=>c d) (fun e=>k e) (fun _=>k (0:Int))) (0:Int)
def Az (a:Val Å):Option (Int):=IF a some
def qW (b:Val ae) (a:Int) (c:Int→Option ρ) (d:Bool→Option ρ) (e:Unit→Option ρ):Option ρ :=
  ifb (ilt a (Þ b)) (ü b a fun f=>Ä (lJ f (1:Int) (1099511627776:Int)) fun g=>ifb (!g) (d false) (ifb (igt a 0) (ü b a fun h=>ck (a-(1:Int)) fun i=>ü b i fun j=>ifb (ile h j) (d false) (ck (a+(1:Int)) fun k=>c k)) (ck (a+(1:Int)) fun l=>c l))) (e ())
def OT (a:Val ae) (k:Bool→Option ρ):Option ρ :=
  Ñ (fun(b:Int) c=>qW a b (fun d=>c d) (fun e=>k e) (fun _=>k (ile (Þ a) 6))) (0:Int)
def zz (a:Val ae):Option (Bool):=OT a some
def IE (a:Val É) (k:Bool→Option ρ):Option ρ :=
  Ä (zz a.2.2.1) fun b=>Ä (zz a.2.2.2.1) fun c=>ifb b (ifb c (Ä (lJ a.1 (1:Int) (1099511627776:Int)) fun d=>ifb d (Ä (wd a.2.1) fun e=>ifb e (Ä (lJ a.2.2.2.2.1 (-1125899906842624:Int) (1125899906842624:Int)) fun f=>ifb f (Ä (lJ a.2.2.2.2.2.1 (0:Int) (1073741824:Int)) fun g=>ifb g (Ä (jm a.2.2.2.2.2.2 (-10000:Int) (10000:Int)) fun h=>k h) (k false)) (k false)) (k false)) (k false)) (k false)) (k false)
def Ay (a:Val É):Option (Bool):=IE a some
def qY (j:Int) (h:Int) (i:Val af) (b:Int) (c:Int) (d:Int) (e:Int) (f:Int) (g:Int→Int→Int→Int→Int→Option ρ) (k:(Val (.pair .bool (.pair tI Ĉ)))→Option ρ) (l:(Val (.pair tI Ĉ))→Option ρ):Option ρ :=
  ifb (ilt b (Þ i)) (ü i b fun a=>ifb (ieq a.1 j) (ifb (ile a.2.1.1 h) (ifb (ile h a.2.1.2) (k (true,a.1,a.2.1.1,a.2.1.2,a.2.2)) (ck (b+(1:Int)) fun m=>g m c d e f)) (ck (b+(1:Int)) fun n=>g n c d e f)) (ck (b+(1:Int)) fun o=>g o c d e f)) (l (c,d,e,f))
def O5 (c:Val Å) (d:Int) (e:Int) (k:Val ba→Option ρ):Option ρ :=
  Ñ (fun(a:Val bh) f=>qY d e c.2.2.2.1 a.1 a.2.1 a.2.2.1 a.2.2.2.1 a.2.2.2.2 (fun g h i j l=>f (g,h,i,j,l)) (fun b=>k ((b.2.1,(b.2.2.1,b.2.2.2.1),b.2.2.2.2),b.1)) (fun m=>k (((0:Int),((0:Int),(0:Int)),(0:Int)),false))) ((0:Int),(0:Int),(0:Int),(0:Int),(0:Int))
def zA (a:Val Å) (b:Int) (c:Int):Option ((Val ba)):=O5 a b c some
def vd (b:Val ae) (c:Int) (a:Int) (d:Int→Option ρ) (e:Bool→Option ρ) (f:Unit→Option ρ):Option ρ :=
  ifb (ilt a (Þ b)) (ü b a fun g=>ifb (ieq g c) (e true) (ck (a+(1:Int)) fun h=>d h)) (f ())
def WW (a:Val ae) (b:Int) (k:Bool→Option ρ):Option ρ :=
  Ñ (fun(c:Int) d=>vd a b c (fun e=>d e) (fun f=>k f) (fun _=>k false)) (0:Int)
def Nv (a:Val ae) (b:Int):Option (Bool):=WW a b some
def qZ (c:Val ae) (f:Val ae) (a:Int) (b:Val ae) (d:Int→Val ae→Option ρ) (g:Val ae→Option ρ):Option ρ :=
  ifb (ilt a (Þ c)) (ü c a fun h=>Ä (Nv f h) fun i=>ifb (!i) (ü c a fun e=>ì (ê ((List.length b)+(List.length ([e])))) (ck (a+(1:Int)) fun j=>d j (b++([e])))) (ck (a+(1:Int)) fun k=>d k b)) (g b)
def O7 (b:Val ae) (c:Val ae) (k:Val ae→Option ρ):Option ρ :=
  Ñ (fun(a:Val ar) d=>qZ b c a.1 a.2 (fun e f=>d (e,f)) (fun g=>k g)) ((0:Int),[])
def jV (a:Val ae) (b:Val ae):Option ((Val ae)):=O7 a b some
def j6 (c:Int) (d:Int) (e:Val ac) (f:Val aa) (g:Val af) (h:Val ab) (i:Val aa) (b:Val ae) (a:Int) (j:Int→Option ρ) (k:Int→Option ρ) (l:Unit→Option ρ):Option ρ :=
  ifb (ilt a (Þ b)) (ì ((ile 0 a)&&(ilt a (ą b))) (Ķ b (Int.toNat a) fun m=>Ä (qm ((c,d),e,f,g,h,i) m) fun n=>ifb (ilt n 0) (k (5:Int)) (ck (a+(1:Int)) fun o=>j o))) (l ())
def iS (c:Int) (d:Int) (e:Val ac) (f:Val aa) (g:Val af) (h:Val ab) (i:Val aa) (j:Int) (b:Val ae) (a:Int) (k:Int→Option ρ) (l:Int→Option ρ) (m:Unit→Option ρ):Option ρ :=
  ifb (ilt a (Þ b)) (ì ((ile 0 a)&&(ilt a (ą b))) (Ķ b (Int.toNat a) fun n=>Ä (mI ((c,d),e,f,g,h,i) n j) fun o=>ifb (ine o 0) (l (4:Int)) (ck (a+(1:Int)) fun p=>k p))) (m ())
def Μ (c:Int) (d:Int) (e:Val ac) (f:Val aa) (g:Val af) (h:Val ab) (i:Val aa) (j:Int) (b:Val ae) (a:Int) (k:Int→Option ρ) (l:Int→Option ρ) (m:Unit→Option ρ):Option ρ :=
  ifb (ilt a (Þ b)) (ì ((ile 0 a)&&(ilt a (ą b))) (Ķ b (Int.toNat a) fun n=>Ä (zA ((c,d),e,f,g,h,i) n j) fun o=>ifb o.2 (l (9:Int)) (ck (a+(1:Int)) fun p=>k p))) (m ())
def uX (a:Val Å) (b:Val É) (k:Int→Option ρ):Option ρ :=
  ì (ê (0+(List.length b.2.2.1))) (ì (ê ((List.length (([])++b.2.2.1))+(List.length b.2.2.2.1))) (Ñ (fun(e:Int) f=>j6 a.1.1 a.1.2 a.2.1 a.2.2.1 a.2.2.2.1 a.2.2.2.2.1 a.2.2.2.2.2 ((([])++b.2.2.1)++b.2.2.2.1) e (fun g=>f g) (fun h=>k h) (fun _=>Ñ (fun(i:Int) j=>iS a.1.1 a.1.2 a.2.1 a.2.2.1 a.2.2.2.1 a.2.2.2.2.1 a.2.2.2.2.2 b.2.1 ((([])++b.2.2.1)++b.2.2.2.1) i (fun l=>j l) (fun m=>k m) (fun _=>Ñ (fun(n:Int) o=>Μ a.1.1 a.1.2 a.2.1 a.2.2.1 a.2.2.2.1 a.2.2.2.2.1 a.2.2.2.2.2 b.2.1 ((([])++b.2.2.1)++b.2.2.2.1) n (fun p=>o p) (fun q=>k q) (fun _=>Ä (jV b.2.2.1 b.2.2.2.1) fun c=>Ä (jV b.2.2.2.1 b.2.2.1) fun d=>ifb (igt (Þ c) 1) (k (1:Int)) (ifb (igt (Þ d) 1) (k (1:Int)) (ck ((Þ c)+(Þ d)) fun r=>ifb (ieq r 0) (k (1:Int)) (k (0:Int)))))) (0:Int))) (0:Int))) (0:Int)))
def jC (a:Val Å) (b:Val É):Option (Int):=uX a b some
def Wy (b:Val ae) (c:Val ae) (k:Int→Option ρ):Option ρ :=
  Ä (jV b c) fun a=>ifb (ieq (Þ a) 0) (k (0:Int)) (ü a (0:Int) fun d=>k d)
def lI (a:Val ae) (b:Val ae):Option (Int):=Wy a b some
def qU (g:Int) (c:Val ab) (d:Int) (b:Int) (e:Int→Option ρ) (f:Bool→Option ρ) (h:Unit→Option ρ):Option ρ :=
  ifb (ilt b (Þ c)) (ü c b fun a=>ifb (ieq a.2.1 g) (Ä (lI a.2.2.1 a.2.2.2.1) fun i=>ifb (ieq i d) (f true) (Ä (lI a.2.2.2.1 a.2.2.1) fun j=>ifb (ieq j d) (f true) (ck (b+(1:Int)) fun k=>e k))) (ck (b+(1:Int)) fun l=>e l)) (h ())
def nt (d:Int) (b:Val aa) (e:Int) (a:Int) (c:Int→Option ρ) (f:Bool→Option ρ) (g:Unit→Option ρ):Option ρ :=
  ifb (ilt a (Þ b)) (ü b a fun h=>ifb (ieq h.1 e) (ü b a fun i=>ifb (ieq i.2 d) (f true) (ck (a+(1:Int)) fun j=>c j)) (ck (a+(1:Int)) fun k=>c k)) (g ())
def OI (c:Val Å) (a:Val Ð) (b:Int) (k:Bool→Option ρ):Option ρ :=
  ifb (ieq a.2.1 b) (k true) (Ñ (fun(d:Int) e=>qU b c.2.2.2.2.1 a.1 d (fun f=>e f) (fun g=>k g) (fun _=>Ñ (fun(h:Int) i=>nt b c.2.2.2.2.2 a.1 h (fun j=>i j) (fun l=>k l) (fun _=>k false)) (0:Int))) (0:Int))
def Ht (a:Val Å) (b:Val Ð) (c:Int):Option (Bool):=OI a b c some
def oK (c:Val ac) (a:Int) (b:Val ae) (e:Int→Val ae→Option ρ) (f:Val ae→Option ρ):Option ρ :=
  ifb (ilt a (Þ c)) (ü c a fun d=>ì (ê ((List.length b)+(List.length ([d.2.1])))) (ck (a+(1:Int)) fun g=>e g (b++([d.2.1])))) (f b)
def oJ (c:Val ab) (a:Int) (b:Val ae) (e:Int→Val ae→Option ρ) (f:Val ae→Option ρ):Option ρ :=
  ifb (ilt a (Þ c)) (ü c a fun d=>ì (ê ((List.length b)+(List.length ([d.2.1])))) (ck (a+(1:Int)) fun g=>e g (b++([d.2.1])))) (f b)
def oI (c:Val aa) (a:Int) (b:Val ae) (e:Int→Val ae→Option ρ) (f:Val ae→Option ρ):Option ρ :=
  ifb (ilt a (Þ c)) (ü c a fun d=>ì (ê ((List.length b)+(List.length ([d.2])))) (ck (a+(1:Int)) fun g=>e g (b++([d.2])))) (f b)
def lh (e:Int) (b:Val ae) (c:Int) (a:Int) (d:Int→Int→Option ρ) (f:Int→Option ρ):Option ρ :=
  ifb (ilt a (Þ b)) (ì ((ile 0 a)&&(ilt a (ą b))) (Ķ b (Int.toNat a) fun g=>ifb (igt g e) (ì ((ile 0 a)&&(ilt a (ą b))) (Ķ b (Int.toNat a) fun h=>ck (a+(1:Int)) fun i=>d (mG c h) i)) (ck (a+(1:Int)) fun j=>d c j))) (f c)
def lm (e:Int) (i:Int) (j:Int) (c:Val ac) (k:Val aa) (l:Val af) (m:Val ab) (n:Val aa) (o:Val ae) (f:Int) (b:Val aa) (d:Int→Val aa→Option ρ) (p:Val aa→Option ρ):Option ρ :=
  ifb (ilt f 20001) (Ñ (fun(g:Val Ã) q=>lh f o g.1 g.2 (fun r s=>q (r,s)) (fun a=>ifb (ilt a 20001) (ü c e fun t=>Ä (Ht ((i,j),c,k,l,m,n) t a) fun u=>ifb u (ü c e fun h=>ì (ê ((List.length b)+(List.length ([(h.1,a)])))) (d a (b++([(h.1,a)])))) (d a b)) (d a b))) ((20001:Int),(0:Int))) (p b)
def oH (e:Int) (f:Int) (b:Val ac) (g:Val aa) (h:Val af) (i:Val ab) (j:Val aa) (k:Val ae) (a:Int) (c:Val aa) (l:Int→Val aa→Option ρ) (m:Val aa→Option ρ):Option ρ :=
  ifb (ilt a (Þ b)) (Ñ (fun(d:Val aF) n=>lm a e f b g h i j k d.1 d.2 (fun o p=>n (o,p)) (fun q=>ck (a+(1:Int)) fun r=>l r q)) ((-1:Int),c)) (m c)
def IL (a:Val Å) (k:Val aa→Option ρ):Option ρ :=
  Ñ (fun(b:Val ar) f=>oK a.2.1 b.1 b.2 (fun g h=>f (g,h)) (fun i=>Ñ (fun(c:Val ar) j=>oJ a.2.2.2.2.1 c.1 c.2 (fun l m=>j (l,m)) (fun n=>Ñ (fun(d:Val ar) o=>oI a.2.2.2.2.2 d.1 d.2 (fun p q=>o (p,q)) (fun r=>Ñ (fun(e:Val aF) s=>oH a.1.1 a.1.2 a.2.1 a.2.2.1 a.2.2.2.1 a.2.2.2.2.1 a.2.2.2.2.2 r e.1 e.2 (fun t u=>s (t,u)) (fun v=>k v)) ((0:Int),[]))) ((0:Int),n))) ((0:Int),i))) ((0:Int),[])
def jD (a:Val Å):Option ((Val aa)):=IL a some
def oL (b:Val aa) (d:Int) (e:Int) (a:Int) (f:Int→Option ρ) (g:Int→Option ρ) (h:Unit→Option ρ):Option ρ :=
  ifb (ilt a (Þ b)) (ü b a fun c=>ifb ((Ŋ c.1 d)&&((Ŋ c.2 e)&&true)) (ck (a+(1:Int)) fun i=>g i) (ck (a+(1:Int)) fun j=>f j)) (h ())
def IM (b:Val Å) (a:Val Ã) (k:Int→Option ρ):Option ρ :=
  Ä (jD b) fun c=>Ñ (fun(d:Int) e=>oL c a.1 a.2 d (fun f=>e f) (fun g=>k g) (fun _=>k (0:Int))) (0:Int)
def ĥ (a:Val Å) (b:Val Ã):Option (Int):=IM a b some
def qV (d:Int) (e:Int) (b:Val aa) (a:Int) (c:Int→Option ρ) (f:Bool→Option ρ) (g:Unit→Option ρ):Option ρ :=
  ifb (ilt a (Þ b)) (ü b a fun h=>ifb (ieq h.1 d) (ü b a fun i=>ifb (ieq i.2 e) (f true) (ck (a+(1:Int)) fun j=>c j)) (ck (a+(1:Int)) fun k=>c k)) (g ())
def OM (a:Val Å) (b:Int) (c:Int) (k:Bool→Option ρ):Option ρ :=
  Ñ (fun(d:Int) e=>qV b c a.2.2.1 d (fun f=>e f) (fun g=>k g) (fun _=>k false)) (0:Int)
def Hu (a:Val Å) (b:Int) (c:Int):Option (Bool):=OM a b c some
def qX (d:Int) (m:Int) (n:Int) (e:Int) (f:Int) (g:Val ac) (h:Val aa) (i:Val af) (j:Val ab) (k:Val aa) (b:Int) (a:Int) (c:Int→Int→Option ρ) (o:Int→Option ρ):Option ρ :=
  ifb (ilt a m) (Ä (zA ((e,f),g,h,i,j,k) d a) fun l=>ifb l.2 (ck (b+l.1.2.2) fun p=>ck (a+(1:Int)) fun q=>c p q) (Ä (Hu ((e,f),g,h,i,j,k) d a) fun r=>ifb r (ck (b+n) fun s=>ck (a+(1:Int)) fun t=>c s t) (ck (a+(1:Int)) fun u=>c b u))) (o b)
def O1 (a:Val Å) (b:Int) (d:Int) (e:Int) (k:Int→Option ρ):Option ρ :=
  Ä (qm a b) fun f=>ü a.2.1 f fun g=>Ñ (fun(c:Val Ã) h=>qX b e g.2.2.2.2.2 a.1.1 a.1.2 a.2.1 a.2.2.1 a.2.2.2.1 a.2.2.2.2.1 a.2.2.2.2.2 c.1 c.2 (fun i j=>h (i,j)) (fun l=>k l)) ((0:Int),d)
def un (a:Val Å) (b:Int) (c:Int) (d:Int):Option (Int):=O1 a b c d some
def Dq (b:Int) (a:Int) (k:Val Ĵ→Option ρ):Option ρ :=
  ifb (ine b 0) (ifb (Ŋ a 0) (none) (Ä (Hx (Int.tmod b a)) fun h=>Ä (AD h a) fun c=>ifb (Ŋ c 0) (none) (ck (Int.tdiv b c) fun d=>ifb (Ŋ c 0) (none) (ck (Int.tdiv a c) fun f=>ifb (igt f 2147483647) (k (((0:Int),(0:Int)),(3:Int))) (ifb (ilt d (-2147483647:Int)) (k (((0:Int),(0:Int)),(3:Int))) (ifb (igt d 2147483647) (k (((0:Int),(0:Int)),(3:Int))) (k ((d,f),(0:Int))))))))) (ifb (Ŋ a 0) (none) (ck (Int.tdiv b a) fun e=>ifb (Ŋ a 0) (none) (ck (Int.tdiv a a) fun g=>ifb (igt g 2147483647) (k (((0:Int),(0:Int)),(3:Int))) (ifb (ilt e (-2147483647:Int)) (k (((0:Int),(0:Int)),(3:Int))) (ifb (igt e 2147483647) (k (((0:Int),(0:Int)),(3:Int))) (k ((e,g),(0:Int))))))))
def qo (a:Int) (b:Int):Option (Val Ĵ):=Dq a b some
def Xg (a:Val Ã) (b:Val Ã) (k:Val Ĵ→Option ρ):Option ρ :=
  ck (a.1*b.2) fun c=>ck (b.1*a.2) fun d=>ck (c+d) fun e=>ck (a.2*b.2) fun f=>Ä (qo e f) fun g=>k g
def Yy (a:Val Ã) (b:Val Ã):Option (Val Ĵ):=Xg a b some
def Xa (a:Val Ã) (k:Val Ã→Option ρ):Option ρ :=
  ck ((0:Int)-a.1) fun b=>k (b,a.2)
def Yx (a:Val Ã):Option (Val Ã):=Xa a some
def W8 (a:Val Ã) (b:Val Ã) (k:Val Ĵ→Option ρ):Option ρ :=
  Ä (Yx b) fun c=>Ä (Yy a c) fun d=>k d
def Nw (a:Val Ã) (b:Val Ã):Option (Val Ĵ):=W8 a b some
def IG (a:Val Å) (b:Int) (k:Val Ã→Option ρ):Option ρ :=
  ifb (ieq b 0) (k ((0:Int),(1:Int))) (Ä (qm a b) fun c=>ü a.2.1 c fun d=>k d.2.2.2.2.1)
def uj (a:Val Å) (b:Int):Option (Val Ã):=IG a b some
def Pu (a:Val Ĵ) (b:Val Ĵ) (k:Val sS→Option ρ):Option ρ :=
  ifb (ine a.2 0) (k ((((0:Int),(0:Int)),(0:Int),(0:Int)),a.2)) (ifb (ine b.2 0) (k ((((0:Int),(0:Int)),(0:Int),(0:Int)),b.2)) (k ((a.1,b.1),(0:Int))))
def Hw (a:Val Ĵ) (b:Val Ĵ):Option (Val sS):=Pu a b some
def Xb (a:Val Ã) (b:Val Ã) (k:Val Ĵ→Option ρ):Option ρ :=
  ck (a.1*b.1) fun c=>ck (a.2*b.2) fun d=>Ä (qo c d) fun e=>k e
def we (a:Val Ã) (b:Val Ã):Option (Val Ĵ):=Xb a b some
def IY (b:Val è) (a:Val Ã) (k:Val sS→Option ρ):Option ρ :=
  ifb (ilt a.1 0) (Ä (we b.2 a) fun c=>Ä (we b.1 a) fun d=>Ä (Hw c d) fun e=>k e) (Ä (we b.1 a) fun f=>Ä (we b.2 a) fun g=>Ä (Hw f g) fun h=>k h)
def AC (a:Val è) (b:Val Ã):Option (Val sS):=IY a b some
def Dm (b:Val Å) (a:Val É) (k:Val è→Option ρ):Option ρ :=
  Ä (lI a.2.2.1 a.2.2.2.1) fun c=>Ä (uj b c) fun d=>Ä (lI a.2.2.2.1 a.2.2.1) fun e=>Ä (uj b e) fun f=>Ä (Nw d f) fun g=>Ä (AC ((a.2.2.2.2.2.2.1,(1:Int)),a.2.2.2.2.2.2.2,(1:Int)) g.1) fun h=>k h.1
def mJ (a:Val Å) (b:Val É):Option (Val è):=Dm a b some
def IQ (a:Val Å) (b:Val É) (k:Val Ã→Option ρ):Option ρ :=
  ck ((Þ b.2.2.1)-(1:Int)) fun c=>ck ((Þ b.2.2.2.1)-(1:Int)) fun d=>ck ((lT (0:Int) c)*a.1.1) fun e=>ck ((lT (0:Int) d)*a.1.2) fun f=>ck (e-f) fun g=>ck ((lT (0:Int) c)*a.1.2) fun h=>ck ((lT (0:Int) d)*a.1.1) fun i=>ck (h-i) fun j=>k (g,j)
def pq (a:Val Å) (b:Val É):Option (Val Ã):=IQ a b some
def adF (b:Int) (a:Int) (k:Int→Option ρ):Option ρ :=
  ifb (Ŋ a 0) (none) (ck (Int.tdiv b a) fun c=>ifb (Ŋ a 0) (none) (ifb (igt (Int.tmod b a) 0) (ck (c+1) fun d=>k d) (k c)))
def aer (a:Int) (b:Int):Option (Int):=adF a b some
def Pw (a:Val Ã) (k:Int→Option ρ):Option ρ :=
  Ä (aer a.1 a.2) fun b=>k b
def zB (a:Val Ã):Option (Int):=Pw a some
def Pr (b:Int) (a:Int) (k:Int→Option ρ):Option ρ :=
  ifb (Ŋ a 0) (none) (ck (Int.tdiv b a) fun c=>ifb (Ŋ a 0) (none) (ifb (ilt (Int.tmod b a) 0) (ck (c-1) fun d=>k d) (k c)))
def Q6 (a:Int) (b:Int):Option (Int):=Pr a b some
def I0 (a:Val Ã) (k:Int→Option ρ):Option ρ :=
  Ä (Q6 a.1 a.2) fun b=>k b
def ur (a:Val Ã):Option (Int):=I0 a some
def Fe (b:Val Å) (a:Val É) (k:Val Ã→Option ρ):Option ρ :=
  Ä (mJ b a) fun c=>Ä (pq b a) fun d=>ck (a.2.2.2.2.1-a.2.2.2.2.2.1) fun e=>ck (e-d.2) fun f=>Ä (ur c.2) fun g=>ck (f-g) fun h=>ck (a.2.2.2.2.1+a.2.2.2.2.2.1) fun i=>ck (i-d.1) fun j=>Ä (zB c.1) fun l=>ck (j-l) fun m=>k (h,m)
def jn (a:Val Å) (b:Val É):Option (Val Ã):=Fe a b some
def kj (e:Val aa) (b:Int) (p:Int) (q:Int) (r:Val ac) (s:Val aa) (t:Val af) (u:Val ab) (v:Val aa) (g:Int) (w:Int) (h:Int) (x:Int) (y:Int) (a:Int) (c:Val ah) (d:Val aa) (f:Int→Val ah→Val aa→Option ρ) (z:Val wA→Option ρ):Option ρ :=
  ifb (ilt a (Þ e)) (ü e a fun A=>ifb (ine A.1 g) (ck (a+(1:Int)) fun B=>f B c d) (ü e a fun C=>ifb (ieq C.2 w) (ck (a+(1:Int)) fun i=>ck (h+y) fun j=>ck (a+(1:Int)) fun k=>ck ((0:Int)-h) fun D=>ck (D-x) fun l=>ì (ê ((List.length c)+(List.length ([((0:Int),i,j),(k,(0:Int),l)])))) (ì (ê ((List.length d)+(List.length ([((1:Int),b),((1:Int),b)])))) (ck (a+(1:Int)) fun E=>f E (c++([((0:Int),i,j),(k,(0:Int),l)])) (d++([((1:Int),b),((1:Int),b)]))))) (ck (a-(1:Int)) fun F=>ü e F fun G=>ü e a fun H=>Ä (un ((p,q),r,s,t,u,v) g G.2 H.2) fun m=>ck (a+(1:Int)) fun n=>ck (a+(1:Int)) fun o=>ì (ê ((List.length c)+(List.length ([(a,n,(0:Int)),(o,a,m)])))) (ì (ê ((List.length d)+(List.length ([((2:Int),b),((2:Int),b)])))) (ck (a+(1:Int)) fun I=>f I (c++([(a,n,(0:Int)),(o,a,m)])) (d++([((2:Int),b),((2:Int),b)]))))))) (z (c,d))
def mr (h:Val aa) (i:Int) (j:Int) (c:Val ac) (k:Val aa) (l:Val af) (m:Val ab) (n:Val aa) (b:Int) (e:Val ah) (f:Val aa) (o:Int→Val ah→Val aa→Option ρ) (p:Val wA→Option ρ):Option ρ :=
  ifb (ilt b (Þ c)) (ü c b fun a=>Ñ (fun(d:Val aM) q=>kj h b i j c k l m n a.1 a.2.1 a.2.2.1 a.2.2.2.1.1 a.2.2.2.1.2 d.1 d.2.1 d.2.2 (fun r s t=>q (r,s,t)) (fun g=>ck (b+(1:Int)) fun u=>o u g.1 g.2)) ((0:Int),e,f)) (p (e,f))
def mq (f:Int) (g:Int) (h:Val ac) (i:Val aa) (j:Val af) (c:Val ab) (k:Val aa) (a:Int) (l:Val ah) (m:Val aa) (p:Int→Val ah→Val aa→Option ρ) (q:Val wA→Option ρ):Option ρ :=
  ifb (ilt a (Þ c)) (ü c a fun b=>Ä (lI b.2.2.1 b.2.2.2.1) fun r=>Ä (ĥ ((f,g),h,i,j,c,k) (r,b.2.1)) fun d=>Ä (lI b.2.2.2.1 b.2.2.1) fun s=>Ä (ĥ ((f,g),h,i,j,c,k) (s,b.2.1)) fun e=>Ä (jn ((f,g),h,i,j,c,k) b) fun n=>ck ((0:Int)-n.1) fun o=>ì (ê ((List.length l)+(List.length ([(e,d,n.2),(d,e,o)])))) (ì (ê ((List.length m)+(List.length ([((3:Int),a),((3:Int),a)])))) (ck (a+(1:Int)) fun t=>p t (l++([(e,d,n.2),(d,e,o)])) (m++([((3:Int),a),((3:Int),a)]))))) (q (l,m))
def Nl (a:Val Å) (k:Val wA→Option ρ):Option ρ :=
  Ä (jD a) fun e=>Ñ (fun(b:Val aM) f=>mr e a.1.1 a.1.2 a.2.1 a.2.2.1 a.2.2.2.1 a.2.2.2.2.1 a.2.2.2.2.2 b.1 b.2.1 b.2.2 (fun g h i=>f (g,h,i)) (fun d=>Ñ (fun(c:Val aM) j=>mq a.1.1 a.1.2 a.2.1 a.2.2.1 a.2.2.2.1 a.2.2.2.2.1 a.2.2.2.2.2 c.1 c.2.1 c.2.2 (fun l m n=>j (l,m,n)) (fun o=>k o)) ((0:Int),d.1,d.2))) ((0:Int),[],[])
def oU (a:Val Å):Option (Val wA):=Nl a some
def oN (b:Val ac) (a:Int) (c:Int→Option ρ) (d:Int→Option ρ) (e:Unit→Option ρ):Option ρ :=
  ifb (ilt a (Þ b)) (ü b a fun f=>Ä (AA f) fun g=>ifb (!g) (d (1:Int)) (ifb (igt a 0) (ü b a fun h=>ck (a-(1:Int)) fun i=>ü b i fun j=>ifb (ile h.1 j.1) (d (6:Int)) (ck (a+(1:Int)) fun k=>c k)) (ck (a+(1:Int)) fun l=>c l))) (e ())
def oM (b:Int) (c:Val ab) (a:Int) (d:Int→Option ρ) (e:Int→Option ρ) (f:Unit→Option ρ):Option ρ :=
  ifb (ilt a b) (ü c a fun g=>ü c b fun h=>ifb (ieq g.1 h.1) (e (6:Int)) (ck (a+(1:Int)) fun i=>d i)) (f ())
def jw (e:Int) (f:Int) (g:Val ac) (h:Val aa) (i:Val af) (a:Val ab) (j:Val aa) (b:Int) (k:Int→Option ρ) (c:Int→Option ρ) (l:Unit→Option ρ):Option ρ :=
  ifb (ilt b (Þ a)) (ü a b fun m=>Ä (Ay m) fun n=>ifb (!n) (c (1:Int)) (Ñ (fun(o:Int) p=>oM b a o (fun q=>p q) (fun r=>c r) (fun _=>ü a b fun s=>Ä (jC ((e,f),g,h,i,a,j) s) fun d=>ifb (ine d 0) (c d) (ck (b+(1:Int)) fun t=>k t))) (0:Int))) (l ())
def jv (e:Int) (f:Int) (g:Val ac) (h:Val aa) (i:Val af) (j:Val ab) (a:Val aa) (b:Int) (k:Int→Option ρ) (c:Int→Option ρ) (l:Unit→Option ρ):Option ρ :=
  ifb (ilt b (Þ a)) (ü a b fun m=>Ä (wd m.2) fun n=>ifb (!n) (c (1:Int)) (ü a b fun o=>ü a b fun p=>Ä (mI ((e,f),g,h,i,j,a) o.1 p.2) fun d=>ifb (ine d 0) (c d) (ck (b+(1:Int)) fun q=>k q))) (l ())
def IR (a:Val Å) (k:Int→Option ρ):Option ρ :=
  Ä (jm a.1 (0:Int) (1000000:Int)) fun d=>ifb (!d) (k (1:Int)) (ifb (igt (Þ a.2.1) 12) (k (2:Int)) (ifb (igt (Þ a.2.2.1) 40) (k (2:Int)) (ifb (igt (Þ a.2.2.2.1) 12) (k (2:Int)) (ifb (igt (Þ a.2.2.2.2.1) 40) (k (2:Int)) (ifb (igt (Þ a.2.2.2.2.2) 10) (k (2:Int)) (Ñ (fun(e:Int) f=>oN a.2.1 e (fun g=>f g) (fun h=>k h) (fun _=>Ä (Hs a) fun b=>ifb (ieq b 0) (Ä (Az a) fun c=>ifb (ine c 0) (k c) (Ñ (fun(i:Int) j=>jw a.1.1 a.1.2 a.2.1 a.2.2.1 a.2.2.2.1 a.2.2.2.2.1 a.2.2.2.2.2 i (fun l=>j l) (fun m=>k m) (fun _=>Ñ (fun(n:Int) o=>jv a.1.1 a.1.2 a.2.1 a.2.2.1 a.2.2.2.1 a.2.2.2.2.1 a.2.2.2.2.2 n (fun p=>o p) (fun q=>k q) (fun _=>Ä (jD a) fun r=>ifb (igt (Þ r) 59) (k (2:Int)) (Ä (oU a) fun s=>ifb (igt (Þ s.1) 300) (k (2:Int)) (k (0:Int))))) (0:Int))) (0:Int))) (ifb (ine b 0) (k b) (Ñ (fun(t:Int) u=>jw a.1.1 a.1.2 a.2.1 a.2.2.1 a.2.2.2.1 a.2.2.2.2.1 a.2.2.2.2.2 t (fun v=>u v) (fun w=>k w) (fun _=>Ñ (fun(x:Int) y=>jv a.1.1 a.1.2 a.2.1 a.2.2.1 a.2.2.2.1 a.2.2.2.2.1 a.2.2.2.2.2 x (fun z=>y z) (fun A=>k A) (fun _=>Ä (jD a) fun B=>ifb (igt (Þ B) 59) (k (2:Int)) (Ä (oU a) fun C=>ifb (igt (Þ C.1) 300) (k (2:Int)) (k (0:Int))))) (0:Int))) (0:Int))))) (0:Int)))))))
def iX (a:Val Å):Option (Int):=IR a some
def uZ (a:Val Å) (k:Val Í→Option ρ):Option ρ :=
  Ä (jD a) fun b=>ck ((Þ b)+(1:Int)) fun c=>Ä (oU a) fun d=>k (c,d.1)
def ο (a:Val Å):Option (Val Í):=uZ a some
def O3 (a:Val Å) (b:Val Ã) (k:Val aG→Option ρ):Option ρ :=
  ì (ê (0+(List.length a.2.2.2.2.2))) (ì (ê ((List.length (([])++a.2.2.2.2.2))+(List.length ([b])))) (Ä (iX (a.1,a.2.1,a.2.2.1,a.2.2.2.1,a.2.2.2.2.1,((([])++a.2.2.2.2.2)++([b])))) fun c=>ifb (ine c 0) (k ((((0:Int),(0:Int)),[],[],[],[],[]),c)) (k ((a.1,a.2.1,a.2.2.1,a.2.2.2.1,a.2.2.2.2.1,((([])++a.2.2.2.2.2)++([b]))),(0:Int)))))
def uq (a:Val Å) (b:Val Ã):Option ((Val aG)):=O3 a b some
def lu (d:Int) (e:Int) (a:Int) (b:Val ae) (c:Int→Val ae→Option ρ) (f:Val ae→Option ρ):Option ρ :=
  ifb (ilt a d) (ì ((ile 0 a)&&(ilt a (ą b))) (Ķ b (Int.toNat a) fun i=>ifb (ieq e a) (ì ((ile 0 a)&&(ilt a (ą (List.set b (Int.toNat a) (1152921504606846976:Int))))) (Ķ (List.set b (Int.toNat a) (1152921504606846976:Int)) (Int.toNat a) fun j=>ck (a+(1:Int)) fun g=>c g (List.set (List.set b (Int.toNat a) (1152921504606846976:Int)) (Int.toNat a) (0:Int)))) (ck (a+(1:Int)) fun h=>c h (List.set b (Int.toNat a) (1152921504606846976:Int))))) (f b)
def lv (a:Int) (b:Int) (c:Val am) (f:Int→Val am→Option ρ) (g:Val am→Option ρ):Option ρ :=
  ifb (ilt b a) (ì ((ile 0 a)&&(ê (Int.toNat a))) (Ñ (fun(d:Val ar) h=>lu a b d.1 d.2 (fun i j=>h (i,j)) (fun e=>ì (ê ((List.length c)+(List.length ([e])))) (ck (b+(1:Int)) fun k=>f k (c++([e]))))) ((0:Int),(List.replicate (Int.toNat a) (0:Int))))) (g c)
def lr (d:Val ah) (c:Int) (b:Val am) (f:Int→Val am→Option ρ) (g:Val am→Option ρ):Option ρ :=
  ifb (ilt c (Þ d)) (ü d c fun a=>ì ((ile 0 a.1)&&(ilt a.1 (ą b))) (ì ((ile 0 a.1)&&(ilt a.1 (ą b))) (Ķ b (Int.toNat a.1) fun h=>ì ((ile 0 a.2.1)&&(ilt a.2.1 (ą h))) (Ķ b (Int.toNat a.1) fun i=>Ķ i (Int.toNat a.2.1) fun j=>Ķ b (Int.toNat a.1) fun k=>ì ((ile 0 a.2.1)&&(ilt a.2.1 (ą k))) (Ķ b (Int.toNat a.1) fun e=>Ķ e (Int.toNat a.2.1) fun m=>ck (c+(1:Int)) fun l=>f l (List.set b (Int.toNat a.1) (List.set e (Int.toNat a.2.1) (mG j a.2.2)))))))) (g b)
def lp (d:Int) (c:Int) (g:Int) (b:Int) (a:Val am) (e:Int→Val am→Option ρ) (h:Val am→Option ρ):Option ρ :=
  ifb (ilt b g) (ì ((ile 0 d)&&(ilt d (ą a))) (Ķ a (Int.toNat d) fun i=>ì ((ile 0 b)&&(ilt b (ą i))) (Ķ a (Int.toNat d) fun j=>Ķ j (Int.toNat b) fun k=>ifb (ine k 1152921504606846976) (ì ((ile 0 c)&&(ilt c (ą a))) (ì ((ile 0 c)&&(ilt c (ą a))) (Ķ a (Int.toNat c) fun l=>ì ((ile 0 b)&&(ilt b (ą l))) (Ķ a (Int.toNat c) fun m=>Ķ m (Int.toNat b) fun n=>ì ((ile 0 c)&&(ilt c (ą a))) (Ķ a (Int.toNat c) fun o=>ì ((ile 0 d)&&(ilt d (ą o))) (Ķ a (Int.toNat c) fun p=>Ķ p (Int.toNat d) fun q=>ì ((ile 0 d)&&(ilt d (ą a))) (Ķ a (Int.toNat d) fun r=>ì ((ile 0 b)&&(ilt b (ą r))) (Ķ a (Int.toNat d) fun s=>Ķ s (Int.toNat b) fun t=>ck (q+t) fun u=>Ķ a (Int.toNat c) fun v=>ì ((ile 0 b)&&(ilt b (ą v))) (Ķ a (Int.toNat c) fun f=>Ķ f (Int.toNat b) fun y=>ck (b+(1:Int)) fun w=>e w (List.set a (Int.toNat c) (List.set f (Int.toNat b) (mG n u)))))))))))) (ck (b+(1:Int)) fun x=>e x a)))) (h a)
def lq (c:Int) (d:Int) (a:Int) (b:Val am) (e:Int→Val am→Option ρ) (g:Val am→Option ρ):Option ρ :=
  ifb (ilt a d) (ì ((ile 0 a)&&(ilt a (ą b))) (Ķ b (Int.toNat a) fun h=>ì ((ile 0 c)&&(ilt c (ą h))) (Ķ b (Int.toNat a) fun i=>Ķ i (Int.toNat c) fun j=>ifb (ieq j 1152921504606846976) (ck (a+(1:Int)) fun k=>e k b) (Ñ (fun(f:Val aO) l=>lp c a d f.1 f.2 (fun m n=>l (m,n)) (fun o=>ck (a+(1:Int)) fun p=>e p o)) ((0:Int),b))))) (g b)
def iE (c:Int) (b:Val am) (a:Int) (d:Int→Option ρ) (e:Bool→Option ρ) (f:Unit→Option ρ):Option ρ :=
  ifb (ilt a c) (ì ((ile 0 a)&&(ilt a (ą b))) (Ķ b (Int.toNat a) fun g=>ì ((ile 0 a)&&(ilt a (ą g))) (Ķ b (Int.toNat a) fun h=>Ķ h (Int.toNat a) fun i=>ifb (ilt i 0) (e false) (ck (a+(1:Int)) fun j=>d j)))) (f ())
def jx (a:Int) (b:Int) (d:Val am) (f:Int→Val am→Option ρ) (g:(Val (.pair .bool am))→Option ρ) (h:Val am→Option ρ):Option ρ :=
  ifb (ilt b a) (Ñ (fun(e:Val aO) i=>lq b a e.1 e.2 (fun j k=>i (j,k)) (fun c=>Ñ (fun(l:Int) m=>iE a c l (fun n=>m n) (fun o=>g (o,c)) (fun _=>ck (b+(1:Int)) fun p=>f p c)) (0:Int))) ((0:Int),d)) (h d)
def IW (a:Val Í) (k:(Val (.pair am .bool))→Option ρ):Option ρ :=
  Ñ (fun(b:Val aO) e=>lv a.1 b.1 b.2 (fun f g=>e (f,g)) (fun h=>Ñ (fun(c:Val aO) i=>lr a.2 c.1 c.2 (fun j l=>i (j,l)) (fun m=>Ñ (fun(d:Val aO) n=>jx a.1 d.1 d.2 (fun o p=>n (o,p)) (fun q=>k ([],q.1)) (fun r=>k (r,true))) ((0:Int),m))) ((0:Int),h))) ((0:Int),[])
def pr (a:Val Í):Option ((Val (.pair am .bool))):=IW a some
def nq (j:Val aa) (b:Int) (c:Int) (d:Int) (e:Val ac) (f:Val aa) (g:Val af) (h:Val ab) (i:Val aa) (k:Int) (l:Int) (m:Int) (n:Int) (o:Int→Int→Int→Val ac→Val aa→Val af→Val ab→Val aa→Int→Int→Int→Int→Option ρ) (p:Val aw→Option ρ) (q:Val aw→Option ρ):Option ρ :=
  ifb (ilt b (Þ j)) (ü j b fun r=>Ä (ĥ ((c,d),e,f,g,h,i) r) fun s=>ifb (igt s 0) (ck (b+(1:Int)) fun t=>o t c d e f g h i k l m n) (ü j b fun u=>Ä (uq ((c,d),e,f,g,h,i) u) fun a=>ifb (ine a.2 0) (p (c,d,e,f,g,h,i,(0:Int),(0:Int),(0:Int),a.2)) (ck (b+(1:Int)) fun v=>o v a.1.1.1 a.1.1.2 a.1.2.1 a.1.2.2.1 a.1.2.2.2.1 a.1.2.2.2.2.1 a.1.2.2.2.2.2 k l m n))) (q (c,d,e,f,g,h,i,k,l,m,n))
def Ow (c:Val Å) (h:Val aa) (k:Val pC→Option ρ):Option ρ :=
  Ä (iX c) fun e=>ifb (ine e 0) (k ((((0:Int),(0:Int)),[],[],[],[],[]),((0:Int),[]),[],e)) (Ñ (fun(b:(Val (.pair tI aw))) i=>nq h b.1 b.2.1 b.2.2.1 b.2.2.2.1 b.2.2.2.2.1 b.2.2.2.2.2.1 b.2.2.2.2.2.2.1 b.2.2.2.2.2.2.2.1 b.2.2.2.2.2.2.2.2.1 b.2.2.2.2.2.2.2.2.2.1 b.2.2.2.2.2.2.2.2.2.2.1 b.2.2.2.2.2.2.2.2.2.2.2 (fun j l m n o p q r s t u v=>i (j,l,m,n,o,p,q,r,s,t,u,v)) (fun d=>k (((d.2.2.2.2.2.2.2.1,d.2.2.2.2.2.2.2.2.1),[],[],[],[],[]),(d.2.2.2.2.2.2.2.2.2.1,[]),[],d.2.2.2.2.2.2.2.2.2.2)) (fun a=>Ä (ο ((a.1,a.2.1),a.2.2.1,a.2.2.2.1,a.2.2.2.2.1,a.2.2.2.2.2.1,a.2.2.2.2.2.2.1)) fun f=>Ä (pr f) fun g=>ifb (!g.2) (k ((((0:Int),(0:Int)),[],[],[],[],[]),((0:Int),[]),[],(9:Int))) (k (((a.1,a.2.1),a.2.2.1,a.2.2.2.1,a.2.2.2.2.1,a.2.2.2.2.2.1,a.2.2.2.2.2.2.1),f,g.1,(0:Int))))) ((0:Int),c.1.1,c.1.2,c.2.1,c.2.2.1,c.2.2.2.1,c.2.2.2.2.1,c.2.2.2.2.2,(0:Int),(0:Int),(0:Int),(0:Int)))
def Hr (a:Val Å) (b:Val aa):Option (Val pC):=Ow a b some
def EV (a:Val Å) (b:Val É) (k:Val Å→Option ρ):Option ρ :=
  ì (ê (0+(List.length a.2.2.2.2.1))) (ì (ê ((List.length (([])++a.2.2.2.2.1))+(List.length ([b])))) (k (a.1,a.2.1,a.2.2.1,a.2.2.2.1,((([])++a.2.2.2.2.1)++([b])),a.2.2.2.2.2)))
def uh (a:Val Å) (b:Val É):Option (Val Å):=EV a b some
def OK (c:Val Å) (d:Val É) (k:Val aG→Option ρ):Option ρ :=
  Ä (uh c d) fun a=>Ä (iX a) fun b=>ifb (ine b 0) (k ((((0:Int),(0:Int)),[],[],[],[],[]),b)) (k (a,(0:Int)))
def uk (a:Val Å) (b:Val É):Option ((Val aG)):=OK a b some
def nu (d:Val ah) (e:Bool) (c:Int) (b:Val ae) (f:Bool→Int→Val ae→Option ρ) (g:(Val (.pair .bool ae))→Option ρ):Option ρ :=
  ifb (ilt c (Þ d)) (ü d c fun a=>ì ((ile 0 a.1)&&(ilt a.1 (ą b))) (Ķ b (Int.toNat a.1) fun h=>ck (h+a.2.2) fun i=>ì ((ile 0 a.2.1)&&(ilt a.2.1 (ą b))) (Ķ b (Int.toNat a.2.1) fun j=>ifb (ilt i j) (ì ((ile 0 a.1)&&(ilt a.1 (ą b))) (Ķ b (Int.toNat a.1) fun k=>ck (k+a.2.2) fun l=>ì ((ile 0 a.2.1)&&(ilt a.2.1 (ą b))) (Ķ b (Int.toNat a.2.1) fun o=>ck (c+(1:Int)) fun m=>f true m (List.set b (Int.toNat a.2.1) l)))) (ck (c+(1:Int)) fun n=>f e n b)))) (g (e,b))
def nv (g:Int) (h:Val ah) (a:Bool) (d:Int) (b:Val ae) (i:Bool→Int→Val ae→Option ρ) (e:(Val (.pair .bool ae))→Option ρ):Option ρ :=
  ifb (ile d g) (ifb a (Ñ (fun(c:Val aZ) j=>nu h c.1 c.2.1 c.2.2 (fun k l m=>j (k,l,m)) (fun f=>ck (d+(1:Int)) fun n=>i f.1 n f.2)) (false,(0:Int),b)) (e (a,b))) (e (a,b))
def OW (a:Val Í) (k:Bool→Option ρ):Option ρ :=
  ì ((ile 0 a.1)&&(ê (Int.toNat a.1))) (Ñ (fun(b:Val aZ) c=>nv a.1 a.2 b.1 b.2.1 b.2.2 (fun d e f=>c (d,e,f)) (fun g=>k (!g.1))) (true,(0:Int),(List.replicate (Int.toNat a.1) (0:Int))))
def Hv (a:Val Í):Option (Bool):=OW a some
def IK (b:Val Å) (a:Val É) (c:Int) (k:Val Ã→Option ρ):Option ρ :=
  Ä (mJ b a) fun d=>Ä (pq b a) fun e=>ck (c+e.1) fun f=>Ä (zB d.1) fun g=>ck (f+g) fun h=>ck (h-a.2.2.2.2.2.1) fun i=>ck (c+e.2) fun j=>Ä (ur d.2) fun l=>ck (j+l) fun m=>ck (m+a.2.2.2.2.2.1) fun n=>k (i,n)
def kH (a:Val Å) (b:Val É) (c:Int):Option (Val Ã):=IK a b c some
def mV (c:Int) (a:Int) (b:Val ae) (d:Int→Val ae→Option ρ) (e:Val ae→Option ρ):Option ρ :=
  ifb (ilt a c) (ì ((ile 0 a)&&(ilt a (ą b))) (Ķ b (Int.toNat a) fun g=>ck (a+(1:Int)) fun f=>d f (List.set b (Int.toNat a) (1152921504606846976:Int)))) (e b)
def jS (f:Val ah) (d:Bool) (c:Int) (b:Val ae) (e:Bool→Int→Val ae→Option ρ) (g:(Val (.pair .bool ae))→Option ρ):Option ρ :=
  ifb (ilt c (Þ f)) (ü f c fun a=>ì ((ile 0 a.1)&&(ilt a.1 (ą b))) (Ķ b (Int.toNat a.1) fun h=>ifb (ilt h 1152921504606846976) (ì ((ile 0 a.1)&&(ilt a.1 (ą b))) (Ķ b (Int.toNat a.1) fun i=>ck (i+a.2.2) fun j=>ì ((ile 0 a.2.1)&&(ilt a.2.1 (ą b))) (Ķ b (Int.toNat a.2.1) fun k=>ifb (ilt j k) (ì ((ile 0 a.1)&&(ilt a.1 (ą b))) (Ķ b (Int.toNat a.1) fun l=>ck (l+a.2.2) fun m=>ì ((ile 0 a.2.1)&&(ilt a.2.1 (ą b))) (Ķ b (Int.toNat a.2.1) fun q=>ck (c+(1:Int)) fun n=>e true n (List.set b (Int.toNat a.2.1) m)))) (ck (c+(1:Int)) fun o=>e d o b)))) (ck (c+(1:Int)) fun p=>e d p b))) (g (d,b))
def jT (f:Int) (g:Val ah) (h:Bool) (c:Int) (a:Val ae) (i:Bool→Int→Val ae→Option ρ) (d:Val ae→Option ρ):Option ρ :=
  ifb (ile c f) (ifb h (Ñ (fun(b:Val aZ) j=>jS g b.1 b.2.1 b.2.2 (fun k l m=>j (k,l,m)) (fun e=>ck (c+(1:Int)) fun n=>i e.1 n e.2)) (false,(0:Int),a)) (d a)) (d a)
def Dp (a:Val Í) (b:Int) (k:Val ae→Option ρ):Option ρ :=
  ì ((ile 0 a.1)&&(ê (Int.toNat a.1))) (Ñ (fun(e:Val ar) f=>mV a.1 e.1 e.2 (fun g h=>f (g,h)) (fun c=>ì ((ile 0 b)&&(ilt b (ą c))) (Ķ c (Int.toNat b) fun o=>Ñ (fun(d:Val aZ) i=>jT a.1 a.2 d.1 d.2.1 d.2.2 (fun j l m=>i (j,l,m)) (fun n=>k n)) (true,(0:Int),(List.set c (Int.toNat b) (0:Int)))))) ((0:Int),(List.replicate (Int.toNat a.1) (0:Int))))
def qn (a:Val Í) (b:Int):Option ((Val ae)):=Dp a b some
def xU (c:Val Å) (a:Val É) (k:Val Ĵ→Option ρ):Option ρ :=
  Ä (ο c) fun i=>Ä (Hv i) fun j=>ifb (!j) (k (((0:Int),(0:Int)),(9:Int))) (Ä (uh c a) fun e=>Ä (ο e) fun b=>ck ((Þ b.2)-(2:Int)) fun d=>ì ((ile 0 d)&&(ile d (ą b.2))) (Ä (lI a.2.2.1 a.2.2.2.1) fun l=>Ä (ĥ e (l,a.2.1)) fun g=>Ä (lI a.2.2.2.1 a.2.2.1) fun m=>Ä (ĥ e (m,a.2.1)) fun h=>Ä (qn (b.1,(List.take (Int.toNat d) b.2)) g) fun n=>ü n h fun o=>ck ((0:Int)-o) fun p=>Ä (kH c a p) fun f=>Ä (qn (b.1,(List.take (Int.toNat d) b.2)) h) fun q=>ü q g fun r=>Ä (kH c a r) fun s=>ifb (igt f.1 f.2) (k (((0:Int),(0:Int)),(5:Int))) (k ((f.1,s.2),(0:Int)))))
def kI (a:Val Å) (b:Val É):Option (Val Ĵ):=xU a b some
def xO (j:Val pC) (l:Val Ã) (a:Val É) (k:Val sR→Option ρ):Option ρ :=
  Ä (uk j.1 (a.1,a.2.1,a.2.2.1,a.2.2.2.1,(0:Int),a.2.2.2.2.2)) fun h=>ifb (ine h.2 0) (k (((0:Int),(0:Int),(0:Int),(0:Int),(0:Int),(0:Int),(0:Int),(0:Int)),h.2)) (Ä (kI j.1 (a.1,a.2.1,a.2.2.1,a.2.2.2.1,(0:Int),a.2.2.2.2.2)) fun i=>ifb (ine i.2 0) (k (((0:Int),(0:Int),(0:Int),(0:Int),(0:Int),(0:Int),(0:Int),(0:Int)),i.2)) (Ä (ο h.1) fun c=>ck ((Þ c.2)-(2:Int)) fun g=>ü c.2 g fun d=>ck (g+1) fun m=>ü c.2 m fun e=>ì ((ile 0 g)&&(ile g (ą c.2))) (Ä (pr (c.1,(List.take (Int.toNat g) c.2))) fun b=>Ä (ĥ h.1 l) fun f=>ü b.1 (0:Int) fun n=>ü n f fun o=>ü b.1 f fun p=>ü p (0:Int) fun q=>ck ((0:Int)-q) fun r=>ü b.1 (0:Int) fun s=>ü s d.1 fun t=>ck (t+d.2.2) fun u=>ü b.1 d.2.1 fun v=>ü v f fun w=>ck (u+w) fun x=>ü b.1 (0:Int) fun y=>ü y e.1 fun z=>ck (z+e.2.2) fun A=>ü b.1 e.2.1 fun B=>ü B f fun C=>ck (A+C) fun D=>ü b.1 f fun E=>ü E d.1 fun F=>ck ((0:Int)-F) fun G=>ck (G-d.2.2) fun H=>ü b.1 d.2.1 fun I=>ü I (0:Int) fun J=>ck (H-J) fun K=>ü b.1 f fun L=>ü L e.1 fun M=>ck ((0:Int)-M) fun N=>ck (N-e.2.2) fun O=>ü b.1 e.2.1 fun P=>ü P (0:Int) fun Q=>ck (O-Q) fun R=>k ((o,x,D,r,R,K,i.1),(0:Int)))))
def nP (a:Val pC) (b:Val Ã) (c:Val É):Option (Val sR):=xO a b c some
def oe (a:Val kR) (b:Val Ã) (k:Bool→Option ρ):Option ρ :=
  ifb (igt a.1 (lT (mG b.2 (1152921504606846976:Int)) (-1152921504606846976:Int))) (ifb (ile a.2.2.2.1 (lT (mG b.2 (1152921504606846976:Int)) (-1152921504606846976:Int))) (ck ((lT (mG b.2 (1152921504606846976:Int)) (-1152921504606846976:Int))+(1:Int)) fun g=>ck (g-a.2.1) fun c=>ck (a.2.2.2.2.2.1-(lT (mG b.2 (1152921504606846976:Int)) (-1152921504606846976:Int))) fun d=>ck (a.2.2.1-(lT (mG b.2 (1152921504606846976:Int)) (-1152921504606846976:Int))) fun h=>ck (h-1) fun e=>ck ((lT (mG b.2 (1152921504606846976:Int)) (-1152921504606846976:Int))-a.2.2.2.2.1) fun f=>ifb (ilt a.2.2.2.1 (mG (lT b.1 (-1152921504606846976:Int)) (1152921504606846976:Int))) (ifb (ige a.1 (mG (lT b.1 (-1152921504606846976:Int)) (1152921504606846976:Int))) (ck (a.2.2.2.2.2.1-(mG (lT b.1 (-1152921504606846976:Int)) (1152921504606846976:Int))) fun i=>ck (i+1) fun j=>ck ((mG (lT b.1 (-1152921504606846976:Int)) (1152921504606846976:Int))-a.2.1) fun l=>ck ((mG (lT b.1 (-1152921504606846976:Int)) (1152921504606846976:Int))-(1:Int)) fun m=>ck (m-a.2.2.2.2.1) fun n=>ck (a.2.2.1-(mG (lT b.1 (-1152921504606846976:Int)) (1152921504606846976:Int))) fun o=>ifb (ile (lT (lT a.2.2.2.2.2.2.1 c) d) (mG (mG a.2.2.2.2.2.2.2 e) f)) (k true) (k (ile (lT (lT a.2.2.2.2.2.2.1 j) l) (mG (mG a.2.2.2.2.2.2.2 n) o)))) (ifb (ile (lT (lT a.2.2.2.2.2.2.1 c) d) (mG (mG a.2.2.2.2.2.2.2 e) f)) (k true) (k false))) (ifb (ile (lT (lT a.2.2.2.2.2.2.1 c) d) (mG (mG a.2.2.2.2.2.2.2 e) f)) (k true) (k false))) (ifb (ilt a.2.2.2.1 (mG (lT b.1 (-1152921504606846976:Int)) (1152921504606846976:Int))) (ifb (ige a.1 (mG (lT b.1 (-1152921504606846976:Int)) (1152921504606846976:Int))) (ck (a.2.2.2.2.2.1-(mG (lT b.1 (-1152921504606846976:Int)) (1152921504606846976:Int))) fun p=>ck (p+1) fun q=>ck ((mG (lT b.1 (-1152921504606846976:Int)) (1152921504606846976:Int))-a.2.1) fun r=>ck ((mG (lT b.1 (-1152921504606846976:Int)) (1152921504606846976:Int))-(1:Int)) fun s=>ck (s-a.2.2.2.2.1) fun t=>ck (a.2.2.1-(mG (lT b.1 (-1152921504606846976:Int)) (1152921504606846976:Int))) fun u=>k (ile (lT (lT a.2.2.2.2.2.2.1 q) r) (mG (mG a.2.2.2.2.2.2.2 t) u))) (k false)) (k false))) (ifb (ilt a.2.2.2.1 (mG (lT b.1 (-1152921504606846976:Int)) (1152921504606846976:Int))) (ifb (ige a.1 (mG (lT b.1 (-1152921504606846976:Int)) (1152921504606846976:Int))) (ck (a.2.2.2.2.2.1-(mG (lT b.1 (-1152921504606846976:Int)) (1152921504606846976:Int))) fun v=>ck (v+1) fun w=>ck ((mG (lT b.1 (-1152921504606846976:Int)) (1152921504606846976:Int))-a.2.1) fun x=>ck ((mG (lT b.1 (-1152921504606846976:Int)) (1152921504606846976:Int))-(1:Int)) fun y=>ck (y-a.2.2.2.2.1) fun z=>ck (a.2.2.1-(mG (lT b.1 (-1152921504606846976:Int)) (1152921504606846976:Int))) fun A=>k (ile (lT (lT a.2.2.2.2.2.2.1 w) x) (mG (mG a.2.2.2.2.2.2.2 z) A))) (k false)) (k false))
def ť (a:Val kR) (b:Val Ã):Option (Bool):=oe a b some
def mi (f:Val Å) (d:Val Ã) (c:Val Ã) (e:Val É) (k:Bool→Option ρ):Option ρ :=
  Ä (Nu f) fun i=>ifb (!i) (Ä Ņ fun j=>k j) (Ä (ug e) fun l=>ifb (!l) (Ä Ņ fun m=>k m) (Ä (mK f d c e) fun a=>Ä (Hr f ([d])) fun b=>ifb (ieq b.2.2.2 0) (ifb (igt c.1 c.2) (Ä Ņ fun n=>ifb n (ifb (ieq a.2 1) (k (!a.1)) (k false)) (k false)) (ifb (ieq b.2.2.2 0) (Ä (nP b d e) fun g=>ifb (ine g.2 0) (Ä Ņ fun o=>ifb o (ifb (ieq a.2 g.2) (k (!a.1)) (k false)) (k false)) (Ä Ņ fun p=>ifb p (ifb (ieq a.2 0) (Ä (ť g.1 c) fun q=>k (a.1==(!q))) (k false)) (k false))) (ifb (ine b.2.2.2 0) (Ä Ņ fun r=>ifb r (ifb (ieq a.2 b.2.2.2) (k (!a.1)) (k false)) (k false)) (Ä Ņ fun s=>ifb s (ifb (ieq a.2 0) (Ä (ť ((0:Int),(0:Int),(0:Int),(0:Int),(0:Int),(0:Int),(0:Int),(0:Int)) c) fun t=>k (a.1==(!t))) (k false)) (k false))))) (ifb (ieq b.2.2.2 0) (Ä (nP b d e) fun h=>ifb (ine h.2 0) (Ä Ņ fun u=>ifb u (ifb (ieq a.2 h.2) (k (!a.1)) (k false)) (k false)) (Ä Ņ fun v=>ifb v (ifb (ieq a.2 0) (Ä (ť h.1 c) fun w=>k (a.1==(!w))) (k false)) (k false))) (ifb (ine b.2.2.2 0) (Ä Ņ fun x=>ifb x (ifb (ieq a.2 b.2.2.2) (k (!a.1)) (k false)) (k false)) (Ä Ņ fun y=>ifb y (ifb (ieq a.2 0) (Ä (ť ((0:Int),(0:Int),(0:Int),(0:Int),(0:Int),(0:Int),(0:Int),(0:Int)) c) fun z=>k (a.1==(!z))) (k false)) (k false))))))
def mH (a:Val Å) (b:Val Ã) (c:Val Ã) (d:Val É):Option (Bool):=mi a b c d some
end Go.Proofs.ZzM
end
