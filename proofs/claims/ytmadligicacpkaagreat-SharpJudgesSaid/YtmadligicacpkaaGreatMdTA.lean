/- lemmas -/
import Derived.Test.YtmadligicacpkaaGreatAmF
set_option linter.all false
set_option linter.unusedSectionVars false
set_option linter.unusedVariables false
set_option linter.unusedSimpArgs false
noncomputable section
variable {ρ:Type}
set_option maxRecDepth 100000
namespace Go.Proofs.ZzM
open Go Go.Am
abbrev tI:Ty:=.int .i64
abbrev Â:Ty:=(.pair tI tI)
abbrev ÿ:Ty:=(.pair tI Â)
abbrev ä:Ty:=(.pair Â Â)
abbrev Ł:Ty:=(.pair Â tI)
abbrev ō:Ty:=(.pair tI Ł)
abbrev sg:Ty:=(.pair ä tI)
abbrev Ì:Ty:=(.pair tI (.slice ÿ))
abbrev ŵ:Ty:=(.pair Â (.pair ÿ ÿ))
abbrev wd:Ty:=(.pair (.slice ÿ) (.slice Â))
abbrev Ñ:Ty:=(.pair tI (.pair tI (.pair tI (.pair Â Ł))))
abbrev Í:Ty:=(.pair tI (.pair tI (.pair (.slice tI) (.pair (.slice tI) (.pair tI ÿ)))))
abbrev MM:Ty:=(.pair tI (.pair tI (.pair tI (.pair tI (.pair tI ÿ)))))
abbrev Ä:Ty:=(.pair Â (.pair (.slice Ñ) (.pair (.slice Â) (.pair (.slice ō) (.pair (.slice Í) (.slice Â))))))
abbrev Ŷ:Ty:=(.pair Ä (.pair Ì (.pair (.slice (.slice tI)) tI)))
abbrev υ:Ty:=(.pair Ä (.pair Â (.pair .bool (.pair tI (.slice tI)))))
abbrev tyroom:Ty:=(.pair Ä Ì)
abbrev anh:Ty:=(.pair Ä (.pair (.slice Â) (.pair Ì (.slice Â))))
abbrev aa:Ty:=(.slice Â)
abbrev ab:Ty:=(.slice Í)
abbrev ac:Ty:=(.slice Ñ)
abbrev ae:Ty:=(.slice tI)
abbrev af:Ty:=(.slice ō)
abbrev ah:Ty:=(.slice ÿ)
abbrev ai:Ty:=(.pair tI (.pair tI (.pair ac (.pair aa (.pair af (.pair ab aa))))))
abbrev aj:Ty:=(.pair tI (.pair tI (.pair ac (.pair aa (.pair af (.pair ab (.pair aa (.pair tI (.pair tI (.pair ac (.pair aa (.pair af (.pair ab (.pair aa (.pair tI (.pair tI (.pair ac (.pair aa (.pair af (.pair ab (.pair aa (.pair (.map tI .bool) (.pair (.map tI .bool) ac)))))))))))))))))))))))
abbrev ak:Ty:=(.map tI .bool)
abbrev am:Ty:=(.slice ae)
abbrev ao:Ty:=(.pair ae (.pair tI (.pair tI (.pair tI (.pair ac (.pair aa (.pair af (.pair ab (.pair aa (.pair tI (.pair tI (.pair tI (.pair tI (.pair tI (.pair tI (.pair ae (.pair ae (.pair tI (.pair tI (.pair tI (.pair tI (.pair aa (.pair tI (.pair tI (.pair ac (.pair aa (.pair af (.pair ab (.pair aa (.pair tI (.pair ah (.pair tI (.pair tI (.pair tI (.pair tI (.pair tI (.pair tI (.pair tI (.pair tI (.pair am (.pair am am)))))))))))))))))))))))))))))))))))))))))
abbrev aq:Ty:=(.map tI Ñ)
abbrev ar:Ty:=(.pair tI (.pair tI (.pair ac (.pair aa (.pair af (.pair ab (.pair aa (.pair tI (.pair tI (.pair ae (.pair ae (.pair tI (.pair tI (.pair tI (.pair tI ae)))))))))))))))
abbrev au:Ty:=(.pair tI (.pair tI (.pair tI (.pair ac (.pair aa (.pair af (.pair ab (.pair aa (.pair tI (.pair tI (.pair tI (.pair tI (.pair tI (.pair tI (.pair ae (.pair ae (.pair tI (.pair tI (.pair tI (.pair tI aa))))))))))))))))))))
abbrev aw:Ty:=(.pair tI (.pair tI (.pair ac (.pair aa (.pair af (.pair ab (.pair aa (.pair tI ÿ))))))))
abbrev ax:Ty:=(.ptr tyroom)
abbrev ay:Ty:=(.pair tI ae)
abbrev az:Ty:=(.slice .bool)
abbrev aA:Ty:=(.pair tI (.pair tI (.pair tI (.pair ac (.pair aa (.pair af (.pair ab (.pair aa MM))))))))
abbrev aB:Ty:=(.pair Ä Í)
abbrev aC:Ty:=(.pair tI ai)
abbrev aD:Ty:=(.pair Ä Â)
abbrev aE:Ty:=(.pair ae tI)
abbrev aF:Ty:=(.pair tI aa)
abbrev aG:Ty:=(.pair tI Ì)
abbrev aH:Ty:=(.pair tI (.pair tI (.pair tI (.pair ac (.pair aa (.pair af (.pair ab (.pair aa (.pair tI (.pair tI (.pair tI aF)))))))))))
abbrev aI:Ty:=(.pair Ä tI)
abbrev aJ:Ty:=(.pair tI (.pair tI ay))
abbrev aK:Ty:=(.pair az ae)
abbrev aL:Ty:=(.pair ae (.pair az (.pair ae ae)))
abbrev aM:Ty:=(.pair tI wd)
abbrev aO:Ty:=(.pair tI am)
abbrev aP:Ty:=(.slice am)
abbrev aQ:Ty:=(.pair Ä (.pair Â (.pair Â .bool)))
abbrev aR:Ty:=(.pair ax Â)
abbrev aS:Ty:=(.ptr Â)
abbrev aT:Ty:=(.ptr anh)
abbrev aU:Ty:=(.pair Ì ae)
abbrev aV:Ty:=(.pair .bool tI)
abbrev aW:Ty:=(.pair Â Í)
abbrev aX:Ty:=(.pair aa Â)
abbrev aY:Ty:=(.pair Ì Â)
abbrev aZ:Ty:=(.pair tI MM)
abbrev ba:Ty:=(.pair tI aF)
abbrev bc:Ty:=(.pair ae ae)
abbrev bf:Ty:=(.pair ō .bool)
abbrev bg:Ty:=(.pair (.int .u64) (.int .u64))
abbrev bh:Ty:=(.pair tI (.pair tI ÿ))
abbrev bi:Ty:=(.pair Ä (.pair aq tI))
abbrev bj:Ty:=(.pair tI (.pair tI (.pair ah Ì)))
def ĸ (d:Val am) (e:Int) (b:Int) (a:Int) (f:Int→Int→Option ρ) (g:Int→Option ρ):Option ρ :=
  ifb (ilt a e) (ü d a fun h=>ck (b+(Ú h)) fun c=>ifb (ilt c 0) (none) (ck (a+(1:Int)) fun i=>f c i)) (g b)
def ï (d:Val am) (e:Int) (a:Int) (b:Val ae) (f:Int→Val ae→Option ρ) (g:Val ae→Option ρ):Option ρ :=
  ifb (ilt a e) (ü d a fun c=>ã (å ((List.length b)+(List.length c))) (ck (a+(1:Int)) fun h=>f h (b++c))) (g b)
def iY (a:Val am) (k:Val ae→Option ρ):Option ρ :=
  Ò (fun(c:Val Â) g=>ĸ a (Ú a) c.1 c.2 (fun h i=>g (h,i)) (fun d=>ifb (ilt d 0) (none) (ck (d-(0:Int)) fun b=>ifb (igt b 0) (ã ((ilt 0 b)&&(å (Int.toNat b))) (ã (ile 0 (þ (List.replicate (Int.toNat b) (0:Int)))) (Ò (fun(e:Val ay) j=>ï a (Ú a) e.1 e.2 (fun l m=>j (l,m)) (fun n=>k n)) ((0:Int),(List.take 0 (List.replicate (Int.toNat b) (0:Int))))))) (Ò (fun(f:Val ay) o=>ï a (Ú a) f.1 f.2 (fun p q=>o (p,q)) (fun r=>k r)) ((0:Int),[]))))) ((0:Int),(0:Int))
def í (a:Val am):Option ((Val ae)):=iY a some
def zX (l:List (Val Ñ)) (m:List (Int×Bool)):Option (List (Val Ñ)) :=
  ã (å l.length) (some (l.filter fun g=>(sv (k:=tI) (v:=.bool) g.1 m).getD false))
def sU (c:Val ae) (d:Int) (a:Int) (b:Val ak) (e:Int→Val ak→Option ρ) (f:Val ak→Option ρ):Option ρ :=
  ifb (ilt a d) (ü c a fun g=>ck (a+(1:Int)) fun h=>e h (MW (k:=tI) (v:=.bool) g true b)) (f b)
def zP (j:Val aa) (l:Int) (f:Val ac) (g:Val ab) (b:Int) (c:Val ak) (d:Val ak) (e:Int→Val ak→Val ak→Option ρ) (m:(Val (.pair ak ak))→Option ρ):Option ρ :=
  ifb (ilt b l) (ü j b fun a=>ifb (Ŋ a.1 0) (none) (ifb (Ŋ a.1 1) (ü f a.2 fun n=>ck (b+(1:Int)) fun o=>e o (MW (k:=tI) (v:=.bool) n.1 true c) d) (ifb (Ŋ a.1 2) (ü f a.2 fun p=>ck (b+(1:Int)) fun q=>e q (MW (k:=tI) (v:=.bool) p.1 true c) d) (ã (Ŋ a.1 3) (ü g a.2 fun r=>ü g a.2 fun s=>Ã (í ([r.2.2.1,s.2.2.2.1])) fun h=>Ò (fun(i:(Val (.pair tI ak))) t=>sU h (Ú h) i.1 i.2 (fun u w=>t (u,w)) (fun x=>ck (b+(1:Int)) fun y=>e y x (MW (k:=tI) (v:=.bool) a.2 true d))) ((0:Int),c)))))) (m (c,d))
def sT (c:Val aa) (d:Int) (a:Int) (b:Val ak) (e:Int→Val ak→Option ρ) (f:Val ak→Option ρ):Option ρ :=
  ifb (ilt a d) (ü c a fun g=>ck (a+(1:Int)) fun h=>e h (MW (k:=tI) (v:=.bool) g.1 true b)) (f b)
def sS (e:Val aa) (f:Int) (g:Val ak) (a:Int) (b:Val aa) (c:Int→Val aa→Option ρ) (h:Val aa→Option ρ):Option ρ :=
  ifb (ilt a f) (ü e a fun d=>YH (k:=tI) (v:=.bool) d.1 g (fun i=>ifb i (ã (å ((List.length b)+(List.length ([d])))) (ck (a+(1:Int)) fun j=>c j (b++([d])))) (ck (a+(1:Int)) fun l=>c l b)) (ck (a+(1:Int)) fun m=>c m b)) (h b)
def sR (e:Val af) (f:Int) (g:Val ak) (a:Int) (b:Val af) (c:Int→Val af→Option ρ) (h:Val af→Option ρ):Option ρ :=
  ifb (ilt a f) (ü e a fun d=>YH (k:=tI) (v:=.bool) d.1 g (fun i=>ifb i (ã (å ((List.length b)+(List.length ([d])))) (ck (a+(1:Int)) fun j=>c j (b++([d])))) (ck (a+(1:Int)) fun l=>c l b)) (ck (a+(1:Int)) fun m=>c m b)) (h b)
def sQ (e:Val ab) (f:Int) (g:Val ak) (a:Int) (b:Val ab) (d:Int→Val ab→Option ρ) (h:Val ab→Option ρ):Option ρ :=
  ifb (ilt a f) (ü e a fun c=>YH (k:=tI) (v:=.bool) a g (fun i=>ifb i (ã (å (List.length c.2.2.1)) (ã (å (List.length c.2.2.2.1)) (ã (å ((List.length b)+(List.length ([c])))) (ck (a+(1:Int)) fun j=>d j (b++([c])))))) (ck (a+(1:Int)) fun l=>d l b)) (ck (a+(1:Int)) fun m=>d m b)) (h b)
def m5 (p:Val ba) (v:Val aj) (k:Val Ä→Option ρ):Option ρ :=
  Ò (fun(a:Val aF) d=>sS v.2.2.2.1 (Ú v.2.2.2.1) v.2.2.2.2.2.2.2.2.2.2.2.2.2.2.2.2.2.2.2.2.2.1 a.1 a.2 (fun e f=>d (e,f)) (fun g=>Ò (fun(b:(Val (.pair tI af))) h=>sR v.2.2.2.2.1 (Ú v.2.2.2.2.1) v.2.2.2.2.2.2.2.2.2.2.2.2.2.2.2.2.2.2.2.2.2.1 b.1 b.2 (fun i j=>h (i,j)) (fun l=>Ò (fun(c:(Val (.pair tI ab))) m=>sQ v.2.2.2.2.2.1 (Ú v.2.2.2.2.2.1) v.2.2.2.2.2.2.2.2.2.2.2.2.2.2.2.2.2.2.2.2.2.2.1 c.1 c.2 (fun n o=>m (n,o)) (fun q=>k ((p.1,p.2.1),v.2.2.2.2.2.2.2.2.2.2.2.2.2.2.2.2.2.2.2.2.2.2.2,g,l,q,p.2.2))) ((0:Int),[]))) ((0:Int),[]))) ((0:Int),[])
def FI (a:Val Ä) (d:Val aa) (b:Val aa) (kA:Val ba→Val aj→Option ρ):Option ρ :=
  Ò (fun(c:(Val (.pair tI (.pair ak ak)))) g=>zP d (Ú d) a.2.1 a.2.2.2.2.1 c.1 c.2.1 c.2.2 (fun h i j=>g (h,i,j)) (fun e=>Ò (fun(f:(Val (.pair tI ak))) k=>sT b (Ú b) f.1 f.2 (fun l m=>k (l,m)) (fun n=>kA (a.1.1,a.1.2,b) (a.1.1,a.1.2,a.2.1,a.2.2.1,a.2.2.2.1,a.2.2.2.2.1,a.2.2.2.2.2,(0:Int),(0:Int),[],[],[],[],[],a.1.1,a.1.2,a.2.1,a.2.2.1,a.2.2.2.1,a.2.2.2.2.1,a.2.2.2.2.2,n,e.2,[]))) ((0:Int),e.1))) ((0:Int),[],[])
def aiR (a:Val Ä) (b:Val aa) (c:Val aa) (k:Val Ä→Option ρ):Option ρ :=
  FI a b c fun p v=>Ã (zX v.2.2.2.2.2.2.2.2.2.2.2.2.2.2.2.2.1 v.2.2.2.2.2.2.2.2.2.2.2.2.2.2.2.2.2.2.2.2.2.1) fun z=>m5 p (v.1,v.2.1,v.2.2.1,v.2.2.2.1,v.2.2.2.2.1,v.2.2.2.2.2.1,v.2.2.2.2.2.2.1,v.2.2.2.2.2.2.2.1,v.2.2.2.2.2.2.2.2.1,v.2.2.2.2.2.2.2.2.2.1,v.2.2.2.2.2.2.2.2.2.2.1,v.2.2.2.2.2.2.2.2.2.2.2.1,v.2.2.2.2.2.2.2.2.2.2.2.2.1,v.2.2.2.2.2.2.2.2.2.2.2.2.2.1,v.2.2.2.2.2.2.2.2.2.2.2.2.2.2.1,v.2.2.2.2.2.2.2.2.2.2.2.2.2.2.2.1,v.2.2.2.2.2.2.2.2.2.2.2.2.2.2.2.2.1,v.2.2.2.2.2.2.2.2.2.2.2.2.2.2.2.2.2.1,v.2.2.2.2.2.2.2.2.2.2.2.2.2.2.2.2.2.2.1,v.2.2.2.2.2.2.2.2.2.2.2.2.2.2.2.2.2.2.2.1,v.2.2.2.2.2.2.2.2.2.2.2.2.2.2.2.2.2.2.2.2.1,v.2.2.2.2.2.2.2.2.2.2.2.2.2.2.2.2.2.2.2.2.2.1,v.2.2.2.2.2.2.2.2.2.2.2.2.2.2.2.2.2.2.2.2.2.2.1,z) k
def QO (a:Val Ä) (b:Val aa) (c:Val aa):Option (Val Ä):=aiR a b c some
def Jk (a:Val Â) (b:Int) (c:Int) (k:Bool→Option ρ):Option ρ :=
  ifb (ile b a.1) (ifb (ile a.1 a.2) (k (ile a.2 c)) (k false)) (k false)
def Τ (a:Val Â) (b:Int) (c:Int):Option (Bool):=Jk a b c some
def Je (a:Int) (b:Int) (c:Int) (k:Bool→Option ρ):Option ρ :=
  ifb (ile b a) (k (ile a c)) (k false)
def Ğ (a:Int) (b:Int) (c:Int):Option (Bool):=Je a b c some
def Qk (a:Int) (k:Bool→Option ρ):Option ρ :=
  Ã (Ğ a (0:Int) (20000:Int)) fun b=>k b
def nt (a:Int):Option (Bool):=Qk a some
def Xh (a:Int) (k:Int→Option ρ):Option ρ :=
  ifb (ilt a 0) (k (IntKind.wrap .u64 (0-(IntKind.wrap .u64 a)))) (k (IntKind.wrap .u64 a))
def ro (a:Int):Option (Int):=Xh a some
def zS (b:Int) (a:Int) (c:Int→Int→Option ρ) (d:Int→Option ρ):Option ρ :=
  ifb (ine a 0) (ifb (Ŋ a 0) (none) (c a (Int.tmod b a))) (d b)
def ads (b:Int) (c:Int) (k:Int→Option ρ):Option ρ :=
  Ò (fun(a:Val bg) d=>zS a.1 a.2 (fun e f=>d (e,f)) (fun g=>k g)) (b,c)
def QP (a:Int) (b:Int):Option (Int):=ads a b some
def P1 (a:Val Â) (k:Bool→Option ρ):Option ρ :=
  ifb (ige a.2 1) (ifb (ile a.2 2147483647) (Ã (ro a.1) fun b=>ifb (ile b 2147483647) (Ã (ro a.1) fun c=>Ã (ro a.2) fun d=>Ã (QP c d) fun e=>k (ieq e 1)) (k false)) (k false)) (k false)
def tQ (a:Val Â):Option (Bool):=P1 a some
def Dw (a:Val Ñ) (k:Bool→Option ρ):Option ρ :=
  Ã (tQ a.2.2.2.2.1) fun b=>ifb b (Ã (Ğ a.2.2.2.2.1.1 (-1000:Int) (1000:Int)) fun c=>ifb c (Ã (Ğ a.1 (1:Int) (1099511627776:Int)) fun d=>ifb d (Ã (nt a.2.1) fun e=>ifb e (Ã (Ğ a.2.2.1 (1:Int) (1125899906842624:Int)) fun f=>ifb f (Ã (Τ a.2.2.2.1 (-1073741824:Int) (1073741824:Int)) fun g=>ifb g (ifb (ile a.2.2.2.2.1.2 100) (Ã (Ğ a.2.2.2.2.2 (0:Int) (1048576:Int)) fun h=>k h) (k false)) (k false)) (k false)) (k false)) (k false)) (Ã (Ğ a.1 (1:Int) (1099511627776:Int)) fun i=>ifb i (Ã (nt a.2.1) fun j=>ifb j (Ã (Ğ a.2.2.1 (1:Int) (1125899906842624:Int)) fun l=>ifb l (Ã (Τ a.2.2.2.1 (-1073741824:Int) (1073741824:Int)) fun m=>ifb m (k false) (k false)) (k false)) (k false)) (k false))) (Ã (Ğ a.1 (1:Int) (1099511627776:Int)) fun n=>ifb n (Ã (nt a.2.1) fun o=>ifb o (Ã (Ğ a.2.2.1 (1:Int) (1125899906842624:Int)) fun p=>ifb p (Ã (Τ a.2.2.2.1 (-1073741824:Int) (1073741824:Int)) fun q=>ifb q (k false) (k false)) (k false)) (k false)) (k false))
def vP (a:Val Ñ):Option (Bool):=Dw a some
def i5 (e:Val ac) (f:Int) (g:Val ac) (a:Int) (b:Int→Option ρ) (c:Int→Option ρ) (h:Unit→Option ρ):Option ρ :=
  ifb (ilt a f) (ü e a fun d=>Ã (vP d) fun i=>ifb (!i) (c (1:Int)) (ifb (igt a 0) (ck (a-(1:Int)) fun j=>ü g j fun k=>ifb (ile d.1 k.1) (c (6:Int)) (ck (a+(1:Int)) fun l=>b l)) (ck (a+(1:Int)) fun m=>b m))) (h ())
def pB (a:Val Ä) (k:Int→Option ρ):Option ρ :=
  Ò (fun(b:Int) c=>i5 a.2.1 (Ú a.2.1) a.2.1 b (fun d=>c d) (fun e=>k e) (fun _=>k (0:Int))) (0:Int)
def Α (a:Val Ä):Option (Int):=pB a some
def mJ (d:Val ac) (e:Int) (a:Int) (b:Val aq) (f:Int→Val aq→Option ρ) (g:Val aq→Option ρ):Option ρ :=
  ifb (ilt a e) (ü d a fun c=>ck (a+(1:Int)) fun h=>f h (MW (k:=tI) (v:=Ñ) c.1 c b)) (g b)
def Dt (a:Val Ä) (k:Val aq→Option ρ):Option ρ :=
  Ò (fun(b:(Val (.pair tI aq))) c=>mJ a.2.1 (Ú a.2.1) b.1 b.2 (fun d e=>c (d,e)) (fun f=>k f)) ((0:Int),[])
def ς (a:Val Ä):Option ((Val aq)):=Dt a some
def gV (b:Val ae) (c:Int) (d:Int) (a:Int) (e:Int→Option ρ) (f:Int→Option ρ) (g:Unit→Option ρ):Option ρ :=
  ifb (ilt a d) (ü b a fun h=>ifb (ieq c h) (f a) (ck (a+(1:Int)) fun i=>e i)) (g ())
def l8 (a:Val ae) (b:Int) (k:Int→Option ρ):Option ρ :=
  Ò (fun(c:Int) d=>gV a b (Ú a) c (fun e=>d e) (fun f=>k f) (fun _=>k (-1:Int))) (0:Int)
def jy (a:Val ae) (b:Int):Option (Int):=l8 a b some
def jG (a:Val ae) (b:Int) (k:Bool→Option ρ):Option ρ :=
  Ã (jy a b) fun c=>k (ige c 0)
def Ĕ (a:Val ae) (b:Int):Option (Bool):=jG a b some
def vp (f:Val ab) (g:Int) (d:Int) (a:Int) (b:Val ae) (e:Int→Val ae→Option ρ) (h:Val ae→Option ρ):Option ρ :=
  ifb (ilt a g) (ü f a fun c=>Ã (Ĕ c.2.2.1 d) fun i=>Ã (Ĕ c.2.2.2.1 d) fun j=>ifb (!(i==j)) (ã (å ((List.length b)+(List.length ([c.2.1])))) (ck (a+(1:Int)) fun k=>e k (b++([c.2.1])))) (ck (a+(1:Int)) fun l=>e l b)) (h b)
def vn (e:Val aa) (f:Int) (g:Int) (a:Int) (b:Val ae) (d:Int→Val ae→Option ρ) (h:Val ae→Option ρ):Option ρ :=
  ifb (ilt a f) (ü e a fun c=>ifb (ieq c.1 g) (ã (å ((List.length b)+(List.length ([c.2])))) (ck (a+(1:Int)) fun i=>d i (b++([c.2])))) (ck (a+(1:Int)) fun j=>d j b)) (h b)
def XF (a:Val Ä) (b:Val Ñ) (k:Val ae→Option ρ):Option ρ :=
  Ò (fun(d:Val ay) f=>vp a.2.2.2.2.1 (Ú a.2.2.2.2.1) b.1 d.1 d.2 (fun g h=>f (g,h)) (fun i=>Ò (fun(e:Val ay) j=>vn a.2.2.2.2.2 (Ú a.2.2.2.2.2) b.1 e.1 e.2 (fun l m=>j (l,m)) (fun c=>ã (å (List.length c)) (ã (å (List.length (DY c))) (k (Ar (DY c)))))) ((0:Int),i))) ((0:Int),[b.2.1])
def oB (a:Val Ä) (b:Val Ñ):Option ((Val ae)):=XF a b some
def rc (e:Val ae) (f:Int) (c:Int) (a:Int) (b:Val aa) (g:Int→Val aa→Option ρ) (h:Val aa→Option ρ):Option ρ :=
  ifb (ilt a f) (ü e a fun d=>ã (å ((List.length b)+(List.length ([(c,d)])))) (ck (a+(1:Int)) fun i=>g i (b++([(c,d)])))) (h b)
def re (f:Val ac) (g:Int) (h:Int) (i:Int) (j:Val ac) (k:Val aa) (l:Val af) (m:Val ab) (n:Val aa) (a:Int) (b:Val aa) (o:Int→Val aa→Option ρ) (p:Val aa→Option ρ):Option ρ :=
  ifb (ilt a g) (ü f a fun c=>Ã (oB ((h,i),j,k,l,m,n) c) fun d=>Ò (fun(e:Val aF) q=>rc d (Ú d) c.1 e.1 e.2 (fun r s=>q (r,s)) (fun t=>ck (a+(1:Int)) fun u=>o u t)) ((0:Int),b)) (p b)
def Qf (a:Val Ä) (k:Val aa→Option ρ):Option ρ :=
  Ò (fun(b:Val aF) c=>re a.2.1 (Ú a.2.1) a.1.1 a.1.2 a.2.1 a.2.2.1 a.2.2.2.1 a.2.2.2.2.1 a.2.2.2.2.2 b.1 b.2 (fun d e=>c (d,e)) (fun f=>k f)) ((0:Int),[])
def pR (a:Val Ä):Option ((Val aa)):=Qf a some
def rS (a:Val aq) (b:Int) (c:Int) (k:Int→Option ρ):Option ρ :=
  YH (k:=tI) (v:=Ñ) b a (fun d=>ifb (ilt c d.2.1) (k (4:Int)) (k (0:Int))) (k (5:Int))
def iT (a:Val aq) (b:Int) (c:Int):Option (Int):=rS a b c some
def Dv (b:Int) (a:Int) (c:(Val (.ptr aq))) (k:Int→Option ρ):Option ρ :=
  Ã (nt a) fun d=>ifb (!d) (k (1:Int)) (Ã (iT c b a) fun e=>k e)
def ņ (a:Int) (b:Int) (c:(Val (.ptr aq))):Option (Int):=Dv a b c some
def j6 (d:Val af) (e:Int) (f:Int) (g:Int) (h:Int) (a:Int) (b:Int→Option ρ) (i:Int→Option ρ) (j:Unit→Option ρ):Option ρ :=
  ifb (ilt a e) (ü d a fun c=>ifb (ieq c.1 f) (ifb (ile c.2.1.1 h) (ifb (ile g c.2.1.2) (i a) (ck (a+(1:Int)) fun k=>b k)) (ck (a+(1:Int)) fun l=>b l)) (ck (a+(1:Int)) fun m=>b m)) (j ())
def Ρ (d:Val aa) (e:Int) (f:Int) (g:Int) (h:Int) (a:Int) (b:Int→Option ρ) (i:Int→Option ρ) (j:Unit→Option ρ):Option ρ :=
  ifb (ilt a e) (ü d a fun c=>ifb (ieq c.1 f) (Ã (Ğ c.2 g h) fun k=>ifb k (i a) (ck (a+(1:Int)) fun l=>b l)) (ck (a+(1:Int)) fun m=>b m)) (j ())
def vq (b:Val Ä) (e:Val aq) (c:Int) (k:Int→Option ρ):Option ρ :=
  ü b.2.2.2.1 c fun a=>Ã (Τ a.2.1 (0:Int) (20000:Int)) fun f=>ifb (!f) (k (1:Int)) (Ã (Ğ a.2.2 (0:Int) (1048576:Int)) fun g=>ifb (!g) (k (1:Int)) (Ã (iT e a.1 a.2.1.1) fun d=>ifb (ine d 0) (k d) (ã ((ile 0 c)&&(ile c (þ b.2.2.2.1))) (Ò (fun(h:Int) i=>j6 (List.take (Int.toNat c) b.2.2.2.1) (Ú (List.take (Int.toNat c) b.2.2.2.1)) a.1 a.2.1.1 a.2.1.2 h (fun j=>i j) (fun l=>ifb (ige l 0) (k (9:Int)) (Ò (fun(m:Int) n=>Ρ b.2.2.1 (Ú b.2.2.1) a.1 a.2.1.1 a.2.1.2 m (fun o=>n o) (fun p=>ifb (ige p 0) (k (9:Int)) (k (0:Int))) (fun _=>k (0:Int))) (0:Int))) (fun _=>Ò (fun(q:Int) r=>Ρ b.2.2.1 (Ú b.2.2.1) a.1 a.2.1.1 a.2.1.2 q (fun s=>r s) (fun t=>ifb (ige t 0) (k (9:Int)) (k (0:Int))) (fun _=>k (0:Int))) (0:Int))) (0:Int)))))
def ε (a:Val Ä) (b:Val aq) (c:Int):Option (Int):=vq a b c some
def vm (c:Int) (d:Val ae) (b:Val ae) (a:Int) (e:Int→Option ρ) (f:Int→Option ρ) (g:Unit→Option ρ):Option ρ :=
  ifb (ilt a c) (ã ((ile 0 a)&&(ilt a (þ b))) (ĺ b (Int.toNat a) fun h=>Ã (Ĕ d h) fun i=>ifb i (f a) (ck (a+(1:Int)) fun j=>e j))) (g ())
def km (f:Val ae) (b:Int) (c:Int) (a:Val ae) (d:Int→Int→Val ae→Option ρ) (g:Val ay→Option ρ):Option ρ :=
  ifb (ilt c (Ú a)) (ã ((ile 0 c)&&(ilt c (þ a))) (ĺ a (Int.toNat c) fun e=>Ã (Ĕ f e) fun h=>ifb (!h) (ã ((ile 0 b)&&(ilt b (þ a))) (ĺ a (Int.toNat b) fun l=>ck (b+(1:Int)) fun i=>ck (c+(1:Int)) fun j=>d i j (List.set a (Int.toNat b) e))) (ck (c+(1:Int)) fun k=>d b k a))) (g (b,a))
def Xx (b:Val ae) (e:Val ae) (k:Val ae→Option ρ):Option ρ :=
  ã (å (List.length b)) (Ò (fun(f:Int) g=>vm (Ú b) e b f (fun h=>g h) (fun c=>ifb (ieq c (-1:Int)) (k b) (ck (c+(1:Int)) fun i=>Ò (fun(d:(Val (.pair tI ay))) j=>km e d.1 d.2.1 d.2.2 (fun l m n=>j (l,m,n)) (fun a=>ã ((ile 0 a.1)&&(ile a.1 (þ a.2))) (ã ((ile 0 a.1)&&(ile a.1 (þ (List.take (Int.toNat a.1) a.2++List.replicate (List.length a.2-(Int.toNat a.1)) (0:Int)++List.drop ((Int.toNat a.1)+(List.length a.2-(Int.toNat a.1))) a.2)))) (k (List.take (Int.toNat a.1) (List.drop 0 (List.take (Int.toNat a.1) a.2++List.replicate (List.length a.2-(Int.toNat a.1)) (0:Int)++List.drop ((Int.toNat a.1)+(List.length a.2-(Int.toNat a.1))) a.2))))))) (c,i,b))) (fun _=>k b)) (0:Int))
def Ű (a:Val ae) (b:Val ae):Option ((Val ae)):=Xx a b some
def ot (e:Val ae) (f:Val ae) (g:Int) (a:Int) (b:Int→Option ρ) (c:Bool→Option ρ) (h:Unit→Option ρ):Option ρ :=
  ifb (ilt a g) (ü f a fun d=>Ã (Ğ d (1:Int) (1099511627776:Int)) fun i=>ifb (!i) (c false) (ifb (igt a 0) (ck (a-(1:Int)) fun j=>ü e j fun k=>ifb (ile d k) (c false) (ck (a+(1:Int)) fun l=>b l)) (ck (a+(1:Int)) fun m=>b m))) (h ())
def Jj (a:Val ae) (k:Bool→Option ρ):Option ρ :=
  Ò (fun(b:Int) c=>ot a a (Ú a) b (fun d=>c d) (fun e=>k e) (fun _=>k (ile (Ú a) 6))) (0:Int)
def mu (a:Val ae):Option (Bool):=Jj a some
def vr (d:Val af) (e:Int) (f:Int) (g:Int) (a:Int) (c:Int→Option ρ) (h:Int→Option ρ) (i:Unit→Option ρ):Option ρ :=
  ifb (ilt a e) (ü d a fun b=>ifb (ieq b.1 f) (Ã (Ğ g b.2.1.1 b.2.1.2) fun j=>ifb j (h a) (ck (a+(1:Int)) fun k=>c k)) (ck (a+(1:Int)) fun l=>c l)) (i ())
def XG (a:Val Ä) (c:Int) (d:Int) (k:Val bf→Option ρ):Option ρ :=
  Ò (fun(e:Int) f=>vr a.2.2.2.1 (Ú a.2.2.2.1) c d e (fun g=>f g) (fun b=>ifb (ilt b 0) (k (((0:Int),((0:Int),(0:Int)),(0:Int)),false)) (ü a.2.2.2.1 b fun h=>k (h,true))) (fun _=>k (((0:Int),((0:Int),(0:Int)),(0:Int)),false))) (0:Int)
def Ao (a:Val Ä) (b:Int) (c:Int):Option ((Val bf)):=XG a b c some
def iD (b:Val ab) (c:Int) (d:Int) (a:Int) (e:Int→Option ρ) (f:Int→Option ρ) (g:Unit→Option ρ):Option ρ :=
  ifb (ilt a c) (ü b a fun h=>ifb (ieq h.1 d) (f a) (ck (a+(1:Int)) fun i=>e i)) (g ())
def iC (c:Val aq) (b:Int) (d:Val ae) (e:Int) (f:Int) (a:Int) (g:Int→Option ρ) (h:Int→Option ρ) (i:Unit→Option ρ):Option ρ :=
  ifb (ilt a e) (ü d a fun j=>Ã (iT c j f) fun k=>ifb (ieq k b) (h b) (ck (a+(1:Int)) fun l=>g l)) (i ())
def Œ (d:Val aq) (b:Val ae) (e:Int) (f:Int) (c:Val ae) (a:Int) (g:Int→Option ρ) (h:Int→Option ρ) (i:Unit→Option ρ):Option ρ :=
  ifb (ilt a e) (ã ((ile 0 a)&&(ilt a (þ c))) (ĺ c (Int.toNat a) fun j=>Ò (fun(k:Int) l=>iC d j b (Ú b) f k (fun m=>l m) (fun n=>h n) (fun _=>ck (a+(1:Int)) fun o=>g o)) (0:Int))) (i ())
def ő (b:Val ae) (c:Int) (d:Int) (e:Int) (f:Val ac) (g:Val aa) (h:Val af) (i:Val ab) (j:Val aa) (k:Int) (a:Int) (l:Int→Option ρ) (m:Int→Option ρ) (n:Unit→Option ρ):Option ρ :=
  ifb (ilt a c) (ü b a fun o=>Ã (Ao ((d,e),f,g,h,i,j) o k) fun p=>ifb p.2 (m (9:Int)) (ck (a+(1:Int)) fun q=>l q)) (n ())
def nI (b:Val Ä) (f:Val aq) (c:Int) (k:Int→Option ρ):Option ρ :=
  ü b.2.2.2.2.1 c fun a=>Ã (Ğ a.1 (1:Int) (1099511627776:Int)) fun l=>ifb (!l) (k (1:Int)) (Ã (nt a.2.1) fun m=>ifb (!m) (k (1:Int)) (Ã (Ğ a.2.2.2.2.1 (-1125899906842624:Int) (1125899906842624:Int)) fun n=>ifb (!n) (k (1:Int)) (Ã (Ğ a.2.2.2.2.2.1 (0:Int) (1073741824:Int)) fun o=>ifb (!o) (k (1:Int)) (Ã (Τ a.2.2.2.2.2.2 (-10000:Int) (10000:Int)) fun p=>ifb (!p) (k (1:Int)) (Ã (mu a.2.2.1) fun q=>ifb (!q) (k (1:Int)) (Ã (mu a.2.2.2.1) fun r=>ifb (!r) (k (1:Int)) (ã ((ile 0 c)&&(ile c (þ b.2.2.2.2.1))) (Ò (fun(s:Int) t=>iD (List.take (Int.toNat c) b.2.2.2.2.1) (Ú (List.take (Int.toNat c) b.2.2.2.2.1)) a.1 s (fun u=>t u) (fun v=>ifb (ige v 0) (k (6:Int)) (Ã (í ([a.2.2.1,a.2.2.2.1])) fun d=>Ò (fun(w:Int) x=>Œ f d (Ú ([(5:Int),(4:Int)])) a.2.1 ([(5:Int),(4:Int)]) w (fun y=>x y) (fun z=>k z) (fun _=>Ò (fun(A:Int) B=>ő d (Ú d) b.1.1 b.1.2 b.2.1 b.2.2.1 b.2.2.2.1 b.2.2.2.2.1 b.2.2.2.2.2 a.2.1 A (fun C=>B C) (fun D=>k D) (fun _=>Ã (Ű a.2.2.1 a.2.2.2.1) fun g=>Ã (Ű a.2.2.2.1 a.2.2.1) fun h=>ifb (igt (Ú g) 1) (k (1:Int)) (ifb (igt (Ú h) 1) (k (1:Int)) (ck ((Ú g)+(Ú h)) fun E=>ifb (ieq E 0) (k (1:Int)) (k (0:Int)))))) (0:Int))) (0:Int))) (fun _=>Ã (í ([a.2.2.1,a.2.2.2.1])) fun e=>Ò (fun(F:Int) G=>Œ f e (Ú ([(5:Int),(4:Int)])) a.2.1 ([(5:Int),(4:Int)]) F (fun H=>G H) (fun I=>k I) (fun _=>Ò (fun(J:Int) K=>ő e (Ú e) b.1.1 b.1.2 b.2.1 b.2.2.1 b.2.2.2.1 b.2.2.2.2.1 b.2.2.2.2.2 a.2.1 J (fun L=>K L) (fun M=>k M) (fun _=>Ã (Ű a.2.2.1 a.2.2.2.1) fun i=>Ã (Ű a.2.2.2.1 a.2.2.1) fun j=>ifb (igt (Ú i) 1) (k (1:Int)) (ifb (igt (Ú j) 1) (k (1:Int)) (ck ((Ú i)+(Ú j)) fun N=>ifb (ieq N 0) (k (1:Int)) (k (0:Int)))))) (0:Int))) (0:Int))) (0:Int)))))))))
def ň (a:Val Ä) (b:Val aq) (c:Int):Option (Int):=nI a b c some
def nj (b:Val Ä) (s:Val aq):Option (List Int) :=
  Ã (N8 (fun u=>ņ u.1 u.2 s) (b.2.2.1:List (Int×Int))) fun a=>Ã (N8 (fun i=>ε b s i) (w7 (b.2.2.2.1:List (Val ō)).length)) fun c =>
    Ã (N8 (fun i=>ň b s i) (w7 (b.2.2.2.2.1:List (Val Í)).length)) fun d=>Ã (N8 (fun u=>ņ u.1 u.2 s) (b.2.2.2.2.2:List (Int×Int))) fun e=>some (a++(c++(d++e)))
def Qq (a:Val Ä) (k:Int→Option ρ):Option ρ :=
  Ã (Τ a.1 (0:Int) (1000000:Int)) fun d=>ifb (!d) (k (1:Int)) (ifb (igt (Ú a.2.1) 12) (k (2:Int)) (ifb (igt (Ú a.2.2.1) 40) (k (2:Int)) (ifb (igt (Ú a.2.2.2.1) 12) (k (2:Int)) (ifb (igt (Ú a.2.2.2.2.1) 40) (k (2:Int)) (ifb (igt (Ú a.2.2.2.2.2) 10) (k (2:Int)) (Ã (Α a) fun b=>ifb (ine b 0) (k b) (Ã (ς a) fun e=>Zc (nj a e) (fun f=>k f) (Ã (pR a) fun c=>ifb (igt (Ú c) 59) (k (2:Int)) (ck ((2:Int)*(Ú a.2.1)) fun g=>ck ((Ú c)-(Ú a.2.1)) fun h=>ck ((2:Int)*h) fun i=>ck (g+i) fun j=>ck ((2:Int)*(Ú a.2.2.2.2.1)) fun l=>ck (j+l) fun m=>ifb (igt m 300) (k (2:Int)) (k (0:Int)))))))))))
def û (a:Val Ä):Option (Int):=Qq a some
def Ig (a:Val Í) (k:Bool→Option ρ):Option ρ :=
  ifb (ile (Ú a.2.2.1) 10) (k (ile (Ú a.2.2.2.1) 10)) (k false)
def Ab (a:Val Í):Option (Bool):=Ig a some
def uh (b:Val ab) (a:Int) (d:Int→Option ρ) (e:Bool→Option ρ) (c:Unit→Option ρ):Option ρ :=
  ifb (ilt a (Ú b)) (ifb (ilt a 50) (ü b a fun f=>Ã (Ab f) fun g=>ifb (!g) (e false) (ck (a+(1:Int)) fun h=>d h)) (c ())) (c ())
def VZ (a:Val Ä) (k:Bool→Option ρ):Option ρ :=
  Ò (fun(b:Int) c=>uh a.2.2.2.2.1 b (fun d=>c d) (fun e=>k e) (fun _=>ifb (ile (Ú a.2.1) 14) (ifb (ile (Ú a.2.2.1) 45) (ifb (ile (Ú a.2.2.2.1) 14) (ifb (ile (Ú a.2.2.2.2.1) 42) (k (ile (Ú a.2.2.2.2.2) 12)) (k false)) (k false)) (k false)) (k false))) (0:Int)
def Na (a:Val Ä):Option (Bool):=VZ a some
def ĩ (c:Val aa) (d:Int) (e:Int) (f:Int) (a:Int) (g:Int→Option ρ) (h:Int→Option ρ) (i:Unit→Option ρ):Option ρ :=
  ifb (ilt a d) (ü c a fun b=>ifb ((Ŋ e b.1)&&((Ŋ f b.2)&&true)) (h a) (ck (a+(1:Int)) fun j=>g j)) (i ())
def ź (a:Val aa) (b:Val Â) (k:Int→Option ρ):Option ρ :=
  Ò (fun(c:Int) d=>ĩ a (Ú a) b.1 b.2 c (fun e=>d e) (fun f=>k f) (fun _=>k (-1:Int))) (0:Int)
def ú (a:Val aa) (b:Val Â):Option (Int):=ź a b some
def Qp (a:Val Ä) (d:Val Â) (k:Val Â→Option ρ):Option ρ :=
  Ã (û a) fun b=>ifb (ine b 0) (k ((0:Int),b)) (Ã (pR a) fun e=>Ã (ú e d) fun c=>ifb (ilt c 0) (k ((0:Int),(5:Int))) (ck (c+(1:Int)) fun f=>k (f,(0:Int))))
def Ş (a:Val Ä) (b:Val Â):Option (Val Â):=Qp a b some
def Db (a:Val ax) (b:Val Â) (k:Int→Option ρ):Option ρ :=
  Ã (Ş a.1 b) fun c=>k c.1
def Ķ (a:Val ax) (b:Val Â):Option (Int):=Db a b some
def hO (c:Val ah) (d:Int) (b:Int) (a:Int) (e:Int→Int→Option ρ) (f:Int→Option ρ):Option ρ :=
  ifb (ilt a d) (ü c a fun g=>ck (b+(UP g.2.2 (0:Int))) fun h=>ck (a+(1:Int)) fun i=>e h i) (f b)
def Ŝ (f:Int) (d:Val ae) (a:Int) (b:Val az) (c:Val ae) (e:Int→Val az→Val ae→Option ρ) (g:Val aK→Option ρ):Option ρ :=
  ifb (ilt a f) (ã ((ile 0 a)&&(ilt a (þ d))) (ĺ d (Int.toNat a) fun h=>ifb (ine h 1152921504606846976) (ã (å ((List.length c)+(List.length ([a])))) (ã ((ile 0 a)&&(ilt a (þ b))) (ĺ b (Int.toNat a) fun k=>ck (a+(1:Int)) fun i=>e i (List.set b (Int.toNat a) true) (c++([a]))))) (ck (a+(1:Int)) fun j=>e j b c))) (g (b,c))
def je (m:Val ak) (j:Int) (d:Int) (n:Val ah) (o:Int) (f:Int) (b:Val ae) (c:Val az) (e:Val ae) (g:Int→Val ae→Val az→Val ae→Option ρ) (l:(Val (.pair .bool (.pair ae aK)))→Option ρ) (p:(Val (.pair ae aK))→Option ρ):Option ρ :=
  ifb (ilt f o) (ü n f fun a=>ifb (ine a.1 d) (ck (f+(1:Int)) fun q=>g q b c e) (YH (k:=tI) (v:=.bool) f m (fun r=>ifb r (ck (f+(1:Int)) fun s=>g s b c e) (ã ((ile 0 d)&&(ilt d (þ b))) (ĺ b (Int.toNat d) fun t=>ck (t+a.2.2) fun u=>ã ((ile 0 a.2.1)&&(ilt a.2.1 (þ b))) (ĺ b (Int.toNat a.2.1) fun w=>ifb (ige u w) (ck (f+(1:Int)) fun x=>g x b c e) (ã ((ile 0 d)&&(ilt d (þ b))) (ĺ b (Int.toNat d) fun y=>ck (y+a.2.2) fun h=>ã ((ile 0 a.2.1)&&(ilt a.2.1 (þ b))) (ĺ b (Int.toNat a.2.1) fun M=>ã ((ile 0 a.2.1)&&(ilt a.2.1 (þ (List.set b (Int.toNat a.2.1) h)))) (ĺ (List.set b (Int.toNat a.2.1) h) (Int.toNat a.2.1) fun z=>ifb (ilt z j) (l (false,(List.set b (Int.toNat a.2.1) h),c,e)) (ã ((ile 0 a.2.1)&&(ilt a.2.1 (þ c))) (ĺ c (Int.toNat a.2.1) fun A=>ifb (!A) (ã (å ((List.length e)+(List.length ([a.2.1])))) (ã ((ile 0 a.2.1)&&(ilt a.2.1 (þ c))) (ĺ c (Int.toNat a.2.1) fun N=>ck (f+(1:Int)) fun B=>g B (List.set b (Int.toNat a.2.1) h) (List.set c (Int.toNat a.2.1) true) (e++([a.2.1]))))) (ck (f+(1:Int)) fun C=>g C (List.set b (Int.toNat a.2.1) h) c e))))))))))) (ã ((ile 0 d)&&(ilt d (þ b))) (ĺ b (Int.toNat d) fun D=>ck (D+a.2.2) fun E=>ã ((ile 0 a.2.1)&&(ilt a.2.1 (þ b))) (ĺ b (Int.toNat a.2.1) fun F=>ifb (ige E F) (ck (f+(1:Int)) fun G=>g G b c e) (ã ((ile 0 d)&&(ilt d (þ b))) (ĺ b (Int.toNat d) fun H=>ck (H+a.2.2) fun i=>ã ((ile 0 a.2.1)&&(ilt a.2.1 (þ b))) (ĺ b (Int.toNat a.2.1) fun O=>ã ((ile 0 a.2.1)&&(ilt a.2.1 (þ (List.set b (Int.toNat a.2.1) i)))) (ĺ (List.set b (Int.toNat a.2.1) i) (Int.toNat a.2.1) fun I=>ifb (ilt I j) (l (false,(List.set b (Int.toNat a.2.1) i),c,e)) (ã ((ile 0 a.2.1)&&(ilt a.2.1 (þ c))) (ĺ c (Int.toNat a.2.1) fun J=>ifb (!J) (ã (å ((List.length e)+(List.length ([a.2.1])))) (ã ((ile 0 a.2.1)&&(ilt a.2.1 (þ c))) (ĺ c (Int.toNat a.2.1) fun P=>ck (f+(1:Int)) fun K=>g K (List.set b (Int.toNat a.2.1) i) (List.set c (Int.toNat a.2.1) true) (e++([a.2.1]))))) (ck (f+(1:Int)) fun L=>g L (List.set b (Int.toNat a.2.1) i) c e)))))))))))) (p (b,c,e))
def ĭ (l:Val ak) (m:Int) (n:Int) (k:Val ah) (h:Val ae) (d:Val az) (b:Val ae) (c:Val ae) (o:Val ae→Val az→Val ae→Val ae→Option ρ) (i:(Val (.pair .bool aL))→Option ρ):Option ρ :=
  ifb (ieq (Ú c) 0) (i (true,h,d,b,c)) (ã (ilt 0 (þ c)) (ĺ c 0 fun a=>ã (ile 1 (þ c)) (ã (decide (1+(List.length c-1)=List.length c)) (ã ((ile 0 a)&&(ilt a (þ d))) (ĺ d (Int.toNat a) fun x=>ã ((ile 0 a)&&(ilt a (þ b))) (ĺ b (Int.toNat a) fun p=>ck (p+(1:Int)) fun e=>ã ((ile 0 a)&&(ilt a (þ b))) (ĺ b (Int.toNat a) fun y=>ã ((ile 0 a)&&(ilt a (þ (List.set b (Int.toNat a) e)))) (ĺ (List.set b (Int.toNat a) e) (Int.toNat a) fun q=>ck (n+(1:Int)) fun r=>ifb (igt q r) (i (false,h,(List.set d (Int.toNat a) false),(List.set b (Int.toNat a) e),(List.drop 1 c))) (Ò (fun(f:(Val (.pair tI (.pair ae aK)))) s=>je l m a k (Ú k) f.1 f.2.1 f.2.2.1 f.2.2.2 (fun t u v w=>s (t,u,v,w)) (fun g=>i (g.1,g.2.1,g.2.2.1,(List.set b (Int.toNat a) e),g.2.2.2)) (fun j=>o j.1 j.2.1 (List.set b (Int.toNat a) e) j.2.2)) ((0:Int),h,(List.set d (Int.toNat a) false),(List.drop 1 c)))))))))))
def jd (c:Int) (d:Int) (a:Int) (b:Val ae) (e:Int→Val ae→Option ρ) (f:Val ae→Option ρ):Option ρ :=
  ifb (ilt a d) (ã ((ile 0 a)&&(ilt a (þ b))) (ĺ b (Int.toNat a) fun g=>ck (g-c) fun h=>ã ((ile 0 a)&&(ilt a (þ b))) (ĺ b (Int.toNat a) fun j=>ck (a+(1:Int)) fun i=>e i (List.set b (Int.toNat a) h)))) (f b)
def yy (a:Val Ì) (h:Val ak) (k:(Val (.pair ae .bool))→Option ρ):Option ρ :=
  ã ((ile 0 a.1)&&(å (Int.toNat a.1))) (ã ((ile 0 a.1)&&(å (Int.toNat a.1))) (ã ((ile 0 a.1)&&(å (Int.toNat a.1))) (Ò (fun(e:Val Â) i=>hO a.2 (Ú a.2) e.1 e.2 (fun j l=>i (j,l)) (fun m=>Ò (fun(d:(Val (.pair tI aK))) n=>Ŝ a.1 (List.replicate (Int.toNat a.1) (0:Int)) d.1 d.2.1 d.2.2 (fun o p q=>n (o,p,q)) (fun f=>Ò (fun(c:Val aL) r=>ĭ h m a.1 a.2 c.1 c.2.1 c.2.2.1 c.2.2.2 (fun s t u v=>r (s,t,u,v)) (fun b=>ifb (!b.1) (k ([],false)) (ã (ilt 0 (þ b.2.1)) (ĺ b.2.1 0 fun w=>Ò (fun(g:Val ay) x=>jd w (Ú b.2.1) g.1 g.2 (fun y z=>x (y,z)) (fun A=>k (A,true))) ((0:Int),b.2.1))))) ((List.replicate (Int.toNat a.1) (0:Int)),f.1,(List.replicate (Int.toNat a.1) (0:Int)),f.2))) ((0:Int),(List.replicate (Int.toNat a.1) false),[]))) ((0:Int),(0:Int)))))
def kE (a:Val Ì) (b:Val ak):Option ((Val (.pair ae .bool))):=yy a b some
def W8 (b:Val Ì) (a:Int) (k:Bool→Option ρ):Option ρ :=
  ifb (ige a 0) (k (ilt a b.1)) (k false)
def rl (a:Val Ì) (b:Int):Option (Bool):=W8 a b some
def qR (f:Val ah) (g:Int) (d:Int) (e:Val ah) (a:Int) (h:Int→Option ρ) (c:Val Â→Option ρ) (i:Unit→Option ρ):Option ρ :=
  ifb (ilt a g) (ü f a fun b=>Ã (rl (d,e) b.1) fun j=>ifb (!j) (c ((1:Int),a)) (Ã (rl (d,e) b.2.1) fun k=>ifb (!k) (c ((1:Int),a)) (ifb (ieq b.1 b.2.1) (c ((1:Int),a)) (ifb (ilt b.2.2 (-4503599627370496:Int)) (c ((1:Int),a)) (ifb (igt b.2.2 4503599627370496) (c ((1:Int),a)) (ck (a+(1:Int)) fun l=>h l)))))) (i ())
def PM (a:Val Ì) (k:Val Â→Option ρ):Option ρ :=
  ifb (ilt a.1 1) (k ((1:Int),(-1:Int))) (ifb (igt a.1 60) (k ((1:Int),(-1:Int))) (ifb (igt (Ú a.2) 300) (k ((2:Int),(-1:Int))) (Ò (fun(c:Int) d=>qR a.2 (Ú a.2) a.1 a.2 c (fun e=>d e) (fun b=>k (b.1,b.2)) (fun _=>k ((0:Int),(-1:Int)))) (0:Int))))
def nr (a:Val Ì):Option (Val Â):=PM a some
def qP (b:Val ae) (c:Int) (d:Int) (e:Val ah) (a:Int) (f:Int→Option ρ) (g:Int→Option ρ) (h:Unit→Option ρ):Option ρ :=
  ifb (ilt a c) (ü b a fun i=>Ã (rl (d,e) i) fun j=>ifb (!j) (g (1:Int)) (ck (a+(1:Int)) fun k=>f k)) (h ())
def PD (a:Val Ì) (b:Val ae) (k:Int→Option ρ):Option ρ :=
  Ã (nr a) fun c=>ifb (ine c.1 0) (k c.1) (Ò (fun(d:Int) e=>qP b (Ú b) a.1 a.2 d (fun f=>e f) (fun g=>k g) (fun _=>Ã (kE a ([])) fun h=>ifb (!h.2) (k (9:Int)) (k (0:Int)))) (0:Int))
def zj (a:Val Ì) (b:Val ae):Option (Int):=PD a b some
def oq (c:Int) (a:Int) (b:Val ae) (d:Int→Val ae→Option ρ) (e:Val ae→Option ρ):Option ρ :=
  ifb (ilt a c) (ã ((ile 0 a)&&(ilt a (þ b))) (ĺ b (Int.toNat a) fun g=>ck (a+(1:Int)) fun f=>d f (List.set b (Int.toNat a) (1152921504606846976:Int)))) (e b)
def uX (c:Val ah) (d:Int) (b:Int) (a:Int) (e:Int→Int→Option ρ) (f:Int→Option ρ):Option ρ :=
  ifb (ilt a d) (ü c a fun g=>ck (b+(UP g.2.2 (0:Int))) fun h=>ck (a+(1:Int)) fun i=>e h i) (f b)
def uW (f:Int) (d:Val ae) (a:Int) (b:Val az) (c:Val ae) (e:Int→Val az→Val ae→Option ρ) (g:Val aK→Option ρ):Option ρ :=
  ifb (ilt a f) (ã ((ile 0 a)&&(ilt a (þ d))) (ĺ d (Int.toNat a) fun h=>ifb (ine h 1152921504606846976) (ã (å ((List.length c)+(List.length ([a])))) (ã ((ile 0 a)&&(ilt a (þ b))) (ĺ b (Int.toNat a) fun k=>ck (a+(1:Int)) fun i=>e i (List.set b (Int.toNat a) true) (c++([a]))))) (ck (a+(1:Int)) fun j=>e j b c))) (g (b,c))
def F3 (m:Val ak) (j:Int) (d:Int) (n:Val ah) (o:Int) (f:Int) (b:Val ae) (c:Val az) (e:Val ae) (g:Int→Val ae→Val az→Val ae→Option ρ) (l:(Val (.pair .bool (.pair ae aK)))→Option ρ) (p:(Val (.pair ae aK))→Option ρ):Option ρ :=
  ifb (ilt f o) (ü n f fun a=>ifb (ine a.1 d) (ck (f+(1:Int)) fun q=>g q b c e) (YH (k:=tI) (v:=.bool) f m (fun r=>ifb r (ck (f+(1:Int)) fun s=>g s b c e) (ã ((ile 0 d)&&(ilt d (þ b))) (ĺ b (Int.toNat d) fun t=>ck (t+a.2.2) fun u=>ã ((ile 0 a.2.1)&&(ilt a.2.1 (þ b))) (ĺ b (Int.toNat a.2.1) fun w=>ifb (ige u w) (ck (f+(1:Int)) fun x=>g x b c e) (ã ((ile 0 d)&&(ilt d (þ b))) (ĺ b (Int.toNat d) fun y=>ck (y+a.2.2) fun h=>ã ((ile 0 a.2.1)&&(ilt a.2.1 (þ b))) (ĺ b (Int.toNat a.2.1) fun M=>ã ((ile 0 a.2.1)&&(ilt a.2.1 (þ (List.set b (Int.toNat a.2.1) h)))) (ĺ (List.set b (Int.toNat a.2.1) h) (Int.toNat a.2.1) fun z=>ifb (ilt z j) (l (false,(List.set b (Int.toNat a.2.1) h),c,e)) (ã ((ile 0 a.2.1)&&(ilt a.2.1 (þ c))) (ĺ c (Int.toNat a.2.1) fun A=>ifb (!A) (ã (å ((List.length e)+(List.length ([a.2.1])))) (ã ((ile 0 a.2.1)&&(ilt a.2.1 (þ c))) (ĺ c (Int.toNat a.2.1) fun N=>ck (f+(1:Int)) fun B=>g B (List.set b (Int.toNat a.2.1) h) (List.set c (Int.toNat a.2.1) true) (e++([a.2.1]))))) (ck (f+(1:Int)) fun C=>g C (List.set b (Int.toNat a.2.1) h) c e))))))))))) (ã ((ile 0 d)&&(ilt d (þ b))) (ĺ b (Int.toNat d) fun D=>ck (D+a.2.2) fun E=>ã ((ile 0 a.2.1)&&(ilt a.2.1 (þ b))) (ĺ b (Int.toNat a.2.1) fun F=>ifb (ige E F) (ck (f+(1:Int)) fun G=>g G b c e) (ã ((ile 0 d)&&(ilt d (þ b))) (ĺ b (Int.toNat d) fun H=>ck (H+a.2.2) fun i=>ã ((ile 0 a.2.1)&&(ilt a.2.1 (þ b))) (ĺ b (Int.toNat a.2.1) fun O=>ã ((ile 0 a.2.1)&&(ilt a.2.1 (þ (List.set b (Int.toNat a.2.1) i)))) (ĺ (List.set b (Int.toNat a.2.1) i) (Int.toNat a.2.1) fun I=>ifb (ilt I j) (l (false,(List.set b (Int.toNat a.2.1) i),c,e)) (ã ((ile 0 a.2.1)&&(ilt a.2.1 (þ c))) (ĺ c (Int.toNat a.2.1) fun J=>ifb (!J) (ã (å ((List.length e)+(List.length ([a.2.1])))) (ã ((ile 0 a.2.1)&&(ilt a.2.1 (þ c))) (ĺ c (Int.toNat a.2.1) fun P=>ck (f+(1:Int)) fun K=>g K (List.set b (Int.toNat a.2.1) i) (List.set c (Int.toNat a.2.1) true) (e++([a.2.1]))))) (ck (f+(1:Int)) fun L=>g L (List.set b (Int.toNat a.2.1) i) c e)))))))))))) (p (b,c,e))
def uV (l:Val ak) (m:Int) (n:Int) (k:Val ah) (h:Val ae) (d:Val az) (b:Val ae) (c:Val ae) (o:Val ae→Val az→Val ae→Val ae→Option ρ) (i:(Val (.pair .bool aL))→Option ρ):Option ρ :=
  ifb (ieq (Ú c) 0) (i (true,h,d,b,c)) (ã (ilt 0 (þ c)) (ĺ c 0 fun a=>ã (ile 1 (þ c)) (ã (decide (1+(List.length c-1)=List.length c)) (ã ((ile 0 a)&&(ilt a (þ d))) (ĺ d (Int.toNat a) fun x=>ã ((ile 0 a)&&(ilt a (þ b))) (ĺ b (Int.toNat a) fun p=>ck (p+(1:Int)) fun e=>ã ((ile 0 a)&&(ilt a (þ b))) (ĺ b (Int.toNat a) fun y=>ã ((ile 0 a)&&(ilt a (þ (List.set b (Int.toNat a) e)))) (ĺ (List.set b (Int.toNat a) e) (Int.toNat a) fun q=>ck (n+(1:Int)) fun r=>ifb (igt q r) (i (false,h,(List.set d (Int.toNat a) false),(List.set b (Int.toNat a) e),(List.drop 1 c))) (Ò (fun(f:(Val (.pair tI (.pair ae aK)))) s=>F3 l m a k (Ú k) f.1 f.2.1 f.2.2.1 f.2.2.2 (fun t u v w=>s (t,u,v,w)) (fun g=>i (g.1,g.2.1,g.2.2.1,(List.set b (Int.toNat a) e),g.2.2.2)) (fun j=>o j.1 j.2.1 (List.set b (Int.toNat a) e) j.2.2)) ((0:Int),h,(List.set d (Int.toNat a) false),(List.drop 1 c)))))))))))
def I9 (a:Val Ì) (i:Val ak) (b:Int) (k:Val ae→Option ρ):Option ρ :=
  ã ((ile 0 a.1)&&(å (Int.toNat a.1))) (Ò (fun(f:Val ay) j=>oq (Ú (List.replicate (Int.toNat a.1) (0:Int))) f.1 f.2 (fun l m=>j (l,m)) (fun c=>ã ((ile 0 b)&&(ilt b (þ c))) (ĺ c (Int.toNat b) fun B=>ã ((ile 0 a.1)&&(å (Int.toNat a.1))) (ã ((ile 0 a.1)&&(å (Int.toNat a.1))) (Ò (fun(g:Val Â) n=>uX a.2 (Ú a.2) g.1 g.2 (fun o p=>n (o,p)) (fun q=>Ò (fun(e:(Val (.pair tI aK))) r=>uW a.1 (List.set c (Int.toNat b) (0:Int)) e.1 e.2.1 e.2.2 (fun s t u=>r (s,t,u)) (fun h=>Ò (fun(d:Val aL) v=>uV i q a.1 a.2 d.1 d.2.1 d.2.2.1 d.2.2.2 (fun w x y z=>v (w,x,y,z)) (fun A=>k A.2.1)) ((List.set c (Int.toNat b) (0:Int)),h.1,(List.replicate (Int.toNat a.1) (0:Int)),h.2))) ((0:Int),(List.replicate (Int.toNat a.1) false),[]))) ((0:Int),(0:Int))))))) ((0:Int),(List.replicate (Int.toNat a.1) (0:Int))))
def tO (a:Val Ì) (b:Val ak) (c:Int):Option ((Val ae)):=I9 a b c some
def PS (a:Val Ì) (b:Int) (c:Int) (k:Val Â→Option ρ):Option ρ :=
  Ã (zj a ([b,c])) fun d=>ifb (ine d 0) (k ((0:Int),d)) (Ã (tO a ([]) b) fun f=>ü f c fun e=>ifb (ieq e 1152921504606846976) (k ((0:Int),(5:Int))) (k (e,(0:Int))))
def pP (a:Val Ì) (b:Int) (c:Int):Option (Val Â):=PS a b c some
def rE (a:Val ax) (b:Int) (c:Int) (k:Int→Option ρ):Option ρ :=
  Ã (pP a.2 c b) fun d=>k d.1
def Ĉ (a:Val ax) (b:Int) (c:Int):Option (Int):=rE a b c some
def rD (a:Val ax) (b:Val Â) (k:Int→Option ρ):Option ρ :=
  Ã (Ķ a b) fun c=>Ã (Ĉ a (0:Int) c) fun d=>ck (0-d) fun e=>k e
def π (a:Val ax) (b:Val Â):Option (Int):=rD a b some
def mh (a:Val ax) (b:Val Â) (k:Int→Option ρ):Option ρ :=
  Ã (Ķ a b) fun c=>Ã (Ĉ a c (0:Int)) fun d=>k d
def ig (a:Val ax) (b:Val Â):Option (Int):=mh a b some
def mg (a:Val ax) (b:Val Â) (k:Val Â→Option ρ):Option ρ :=
  Ã (π a b) fun c=>Ã (ig a b) fun d=>k (c,d)
def Ŕ (a:Val ax) (b:Val Â):Option (Val Â):=mg a b some
def yP (b:Val aT) (a:Val ae) (c:Int) (k:Int→Option ρ):Option ρ :=
  ifb (ieq (Ú a) 0) (k (0:Int)) (ü a (0:Int) fun d=>Ã (ú b.2.1 (d,c)) fun e=>ck (e+(1:Int)) fun f=>k f)
def iu (a:Val aT) (b:Val ae) (c:Int):Option (Int):=yP a b c some
def nH (b:Val aq) (a:Val ae) (k:Val Â→Option ρ):Option ρ :=
  ifb (ieq (Ú a) 0) (k ((0:Int),(1:Int))) (ü a (0:Int) fun c=>YH (k:=tI) (v:=Ñ) c b (fun d=>k d.2.2.2.2.1) (k ((0:Int),(0:Int))))
def iR (a:Val aq) (b:Val ae):Option (Val Â):=nH a b some
def qW (b:Val aa) (c:Int) (a:Int) (d:Int→Option ρ) (e:Int→Option ρ) (f:Unit→Option ρ):Option ρ :=
  ifb (ilt a c) (ü b a fun g=>Ã (tQ g) fun h=>ifb (!h) (e (1:Int)) (ck (a+(1:Int)) fun i=>d i)) (f ())
def PU (a:Val aa) (k:Int→Option ρ):Option ρ :=
  Ò (fun(b:Int) c=>qW a (Ú a) b (fun d=>c d) (fun e=>k e) (fun _=>k (0:Int))) (0:Int)
def jV (a:Val aa):Option (Int):=PU a some
def Dr (d:Int) (e:Int) (k:Val Ł→Option ρ):Option ρ :=
  Ã (ro d) fun b=>Ã (ro e) fun c=>Ã (QP b c) fun a=>ifb (Ŋ a 0) (none) (ifb (Ŋ a 0) (none) (ifb (igt (IntKind.wrap .u64 (Int.tdiv b a)) 2147483647) (k (((0:Int),(0:Int)),(3:Int))) (ifb (igt (IntKind.wrap .u64 (Int.tdiv c a)) 2147483647) (k (((0:Int),(0:Int)),(3:Int))) (ifb (!((ilt d 0)==(ilt e 0))) (ck (0-(IntKind.wrap .i64 (IntKind.wrap .u64 (Int.tdiv b a)))) fun f=>k ((f,(IntKind.wrap .i64 (IntKind.wrap .u64 (Int.tdiv c a)))),(0:Int))) (k (((IntKind.wrap .i64 (IntKind.wrap .u64 (Int.tdiv b a))),(IntKind.wrap .i64 (IntKind.wrap .u64 (Int.tdiv c a)))),(0:Int)))))))
def pQ (a:Int) (b:Int):Option (Val Ł):=Dr a b some
def adw (a:Val Â) (b:Val Â) (k:Val Ł→Option ρ):Option ρ :=
  Ã (jV ([a,b])) fun c=>ifb (ine c 0) (k (((0:Int),(0:Int)),c)) (ck (a.1*b.2) fun e=>ck (b.1*a.2) fun f=>ck (e-f) fun g=>ck (a.2*b.2) fun h=>Ã (pQ g h) fun d=>k (d.1,d.2))
def X6 (a:Val Â) (b:Val Â):Option (Val Ł):=adw a b some
def vd (a:Val Â) (b:Val Â) (k:Val Â→Option ρ):Option ρ :=
  Ã (X6 a b) fun c=>k c.1
def vO (a:Val Â) (b:Val Â):Option (Val Â):=vd a b some
def adu (a:Val Â) (b:Val Â) (k:Int→Option ρ):Option ρ :=
  ck (a.1*b.2) fun c=>ck (b.1*a.2) fun d=>ifb ((Ŋ a.1 b.1)&&((Ŋ a.2 b.2)&&true)) (k (0:Int)) (ifb (ilt c d) (k (-1:Int)) (ifb (igt c d) (k (1:Int)) (k (0:Int))))
def QQ (a:Val Â) (b:Val Â):Option (Int):=adu a b some
def rR (a:Val ä) (k:Bool→Option ρ):Option ρ :=
  Ã (jV ([a.1,a.2])) fun b=>ifb (ieq b 0) (Ã (QQ a.1 a.2) fun c=>k (ile c 0)) (k false)
def rZ (a:Val ä):Option (Bool):=rR a some
def ady (a:Val Â) (b:Val Â) (k:Val Ł→Option ρ):Option ρ :=
  Ã (jV ([a,b])) fun c=>ifb (ine c 0) (k (((0:Int),(0:Int)),c)) (ck (a.1*b.1) fun e=>ck (a.2*b.2) fun f=>Ã (pQ e f) fun d=>k (d.1,d.2))
def QS (a:Val Â) (b:Val Â):Option (Val Ł):=ady a b some
def P3 (c:Val ä) (d:Val Â) (k:Val sg→Option ρ):Option ρ :=
  Ã (rZ c) fun e=>ifb (!e) (k ((((0:Int),(0:Int)),(0:Int),(0:Int)),(1:Int))) (Ã (tQ d) fun f=>ifb (!f) (k ((((0:Int),(0:Int)),(0:Int),(0:Int)),(1:Int))) (Ã (QS d c.1) fun a=>ifb (ine a.2 0) (k ((((0:Int),(0:Int)),(0:Int),(0:Int)),a.2)) (Ã (QS d c.2) fun b=>ifb (ine b.2 0) (k ((((0:Int),(0:Int)),(0:Int),(0:Int)),b.2)) (Ã (QQ a.1 b.1) fun g=>ifb (igt g 0) (k ((b.1,a.1),(0:Int))) (k ((a.1,b.1),(0:Int)))))))
def QR (a:Val ä) (b:Val Â):Option (Val sg):=P3 a b some
def vc (b:Val Â) (a:Val Â) (k:Val ä→Option ρ):Option ρ :=
  Ã (QR ((a.1,(1:Int)),a.2,(1:Int)) b) fun c=>k c.1
def oA (a:Val Â) (b:Val Â):Option (Val ä):=vc a b some
def Jl (c:Val Ä) (a:Val Í) (k:Val ä→Option ρ):Option ρ :=
  Ã (ς c) fun b=>Ã (Ű a.2.2.1 a.2.2.2.1) fun d=>Ã (iR b d) fun e=>Ã (Ű a.2.2.2.1 a.2.2.1) fun f=>Ã (iR b f) fun g=>Ã (vO e g) fun h=>Ã (oA h a.2.2.2.2.2.2) fun i=>k i
def oS (a:Val Ä) (b:Val Í):Option (Val ä):=Jl a b some
def Qm (a:Val Ä) (b:Val Í) (k:Val Â→Option ρ):Option ρ :=
  ck ((Ú b.2.2.1)-(1:Int)) fun c=>ck ((Ú b.2.2.2.1)-(1:Int)) fun d=>ck ((Lj (0:Int) c)*a.1.1) fun e=>ck ((Lj (0:Int) d)*a.1.2) fun f=>ck (e-f) fun g=>ck ((Lj (0:Int) c)*a.1.2) fun h=>ck ((Lj (0:Int) d)*a.1.1) fun i=>ck (h-i) fun j=>k (g,j)
def tS (a:Val Ä) (b:Val Í):Option (Val Â):=Qm a b some
def Gf (b:Int) (a:Int) (k:Int→Option ρ):Option ρ :=
  ifb (Ŋ a 0) (none) (ck (Int.tdiv b a) fun c=>ifb (Ŋ a 0) (none) (ifb (ilt (Int.tmod b a) 0) (ck (c-1) fun d=>k d) (k c)))
def tP (a:Int) (b:Int):Option (Int):=Gf a b some
def Xn (a:Val Â) (k:Val Â→Option ρ):Option ρ :=
  Ã (jV ([a])) fun b=>ifb (ine b 0) (k ((0:Int),b)) (ck (0-a.1) fun c=>Ã (tP c a.2) fun d=>ck (0-d) fun e=>k (e,(0:Int)))
def Hm (a:Val Â):Option (Val Â):=Xn a some
def P6 (a:Val Â) (k:Val Â→Option ρ):Option ρ :=
  Ã (jV ([a])) fun b=>ifb (ine b 0) (k ((0:Int),b)) (Ã (tP a.1 a.2) fun c=>k (c,(0:Int)))
def zm (a:Val Â):Option (Val Â):=P6 a some
def Xr (b:Val Ä) (a:Val Í) (k:Val Â→Option ρ):Option ρ :=
  Ã (oS b a) fun c=>Ã (tS b a) fun d=>Ã (zm c.2) fun e=>Ã (Hm c.1) fun f=>ck (a.2.2.2.2.1-a.2.2.2.2.2.1) fun g=>ck (g-d.2) fun h=>ck (h-e.1) fun i=>ck (a.2.2.2.2.1+a.2.2.2.2.2.1) fun j=>ck (j-d.1) fun l=>ck (l-f.1) fun m=>k (i,m)
def vN (a:Val Ä) (b:Val Í):Option (Val Â):=Xr a b some
def vl (f:Int) (g:Int) (h:Val af) (i:Int) (j:Int) (b:Int) (a:Int) (d:Int→Int→Option ρ) (k:Int→Option ρ):Option ρ :=
  ifb (ilt a i) (ü h a fun c=>ck (g-(1:Int)) fun l=>ck ((UP c.2.1.2 l)-(Lj c.2.1.1 f)) fun m=>ck (m+1) fun e=>ifb (ieq c.1 j) (ifb (igt e 0) (ck (e*c.2.2) fun n=>ck (b+n) fun o=>ck (a+(1:Int)) fun p=>d o p) (ck (a+(1:Int)) fun q=>d b q)) (ck (a+(1:Int)) fun r=>d b r)) (k b)
def vk (e:Int) (f:Int) (g:Val aa) (h:Int) (i:Int) (a:Int) (b:Val ae) (d:Int→Val ae→Option ρ) (j:Val ae→Option ρ):Option ρ :=
  ifb (ilt a h) (ü g a fun c=>ifb (ieq c.1 i) (ck (f-(1:Int)) fun k=>Ã (Ğ c.2 e k) fun l=>ifb l (ã (å ((List.length b)+(List.length ([c.2])))) (ck (a+(1:Int)) fun m=>d m (b++([c.2])))) (ck (a+(1:Int)) fun n=>d n b)) (ck (a+(1:Int)) fun o=>d o b)) (j b)
def Xu (a:Val Ä) (b:Val Ñ) (d:Int) (e:Int) (k:Int→Option ρ):Option ρ :=
  Ò (fun(f:Val Â) h=>vl d e a.2.2.2.1 (Ú a.2.2.2.1) b.1 f.1 f.2 (fun i j=>h (i,j)) (fun l=>Ò (fun(g:Val ay) m=>vk d e a.2.2.1 (Ú a.2.2.1) b.1 g.1 g.2 (fun n o=>m (n,o)) (fun c=>ã (å (List.length c)) (ã (å (List.length (DY c))) (ck ((Ú (Ar (DY c)))*b.2.2.2.2.2) fun p=>ck (l+p) fun q=>k q)))) ((0:Int),[]))) ((0:Int),(0:Int))
def Al (a:Val Ä) (b:Val Ñ) (c:Int) (d:Int):Option (Int):=Xu a b c d some
def vg (b:Int) (e:Val ae) (h:Int) (j:Int) (k:Int) (l:Val ac) (m:Val aa) (n:Val af) (o:Val ab) (p:Val aa) (q:Int) (r:Int) (s:Int) (t:Int) (u:Int) (v:Int) (w:Int) (x:Int) (a:Int) (f:Val ah) (g:Val aa) (y:Int→Val ah→Val aa→Option ρ) (z:Val wd→Option ρ):Option ρ :=
  ifb (ilt a (Ú e)) (ck (h+a) fun A=>ck (A-1) fun c=>ck (h+a) fun d=>ck (a-(1:Int)) fun B=>ü e B fun C=>ü e a fun D=>Ã (Al ((j,k),l,m,n,o,p) (q,r,s,(t,u),(v,w),x) C D) fun E=>ck (0-E) fun F=>ck (0-F) fun i=>ã (å ((List.length f)+(List.length ([(c,d,(0:Int)),(d,c,i)])))) (ã (å ((List.length g)+(List.length ([((2:Int),b),((2:Int),b)])))) (ck (a+(1:Int)) fun G=>y G (f++([(c,d,(0:Int)),(d,c,i)])) (g++([((2:Int),b),((2:Int),b)]))))) (z (f,g))
def vh (q:Val ac) (r:Int) (f:Int) (g:Int) (h:Val ac) (i:Val aa) (j:Val af) (k:Val ab) (l:Val aa) (s:Val aa) (t:Int) (b:Int) (d:Val ah) (e:Val aa) (u:Int→Val ah→Val aa→Option ρ) (v:Val wd→Option ρ):Option ρ :=
  ifb (ilt b r) (ü q b fun a=>Ã (oB ((f,g),h,i,j,k,l) a) fun w=>Ã (iu (((f,g),h,i,j,k,l),s,(t,d),e) ([a.1]) a.2.1) fun c=>ck (a.2.2.1+a.2.2.2.1.1) fun x=>ck (a.2.2.1+a.2.2.2.1.2) fun n=>ck (0-x) fun o=>ã (å ((List.length d)+(List.length ([((0:Int),c,n),(c,(0:Int),o)])))) (ã (å ((List.length e)+(List.length ([((1:Int),b),((1:Int),b)])))) (Ò (fun(m:Val aM) y=>vg b w c f g h i j k l a.1 a.2.1 a.2.2.1 a.2.2.2.1.1 a.2.2.2.1.2 a.2.2.2.2.1.1 a.2.2.2.2.1.2 a.2.2.2.2.2 m.1 m.2.1 m.2.2 (fun z A B=>y (z,A,B)) (fun p=>ck (b+(1:Int)) fun C=>u C p.1 p.2)) ((1:Int),(d++([((0:Int),c,n),(c,(0:Int),o)])),(e++([((1:Int),b),((1:Int),b)])))))) (v (d,e))
def vf (r:Val ab) (s:Int) (g:Int) (h:Int) (i:Val ac) (j:Val aa) (k:Val af) (l:Val ab) (m:Val aa) (o:Val aa) (p:Int) (a:Int) (c:Val ah) (d:Val aa) (t:Int→Val ah→Val aa→Option ρ) (u:Val wd→Option ρ):Option ρ :=
  ifb (ilt a s) (ü r a fun b=>Ã (Ű b.2.2.2.1 b.2.2.1) fun v=>Ã (iu (((g,h),i,j,k,l,m),o,(p,c),d) v b.2.1) fun e=>Ã (Ű b.2.2.1 b.2.2.2.1) fun w=>Ã (iu (((g,h),i,j,k,l,m),o,(p,c),d) w b.2.1) fun f=>Ã (vN ((g,h),i,j,k,l,m) b) fun n=>ck (0-n.1) fun q=>ã (å ((List.length c)+(List.length ([(e,f,n.2),(f,e,q)])))) (ã (å ((List.length d)+(List.length ([((3:Int),a),((3:Int),a)])))) (ck (a+(1:Int)) fun x=>t x (c++([(e,f,n.2),(f,e,q)])) (d++([((3:Int),a),((3:Int),a)]))))) (u (c,d))
def Xt (a:Val Ä) (k:Val aT→Option ρ):Option ρ :=
  Ã (pR a) fun b=>ck ((Ú b)+(1:Int)) fun c=>Ò (fun(d:Val aM) h=>vh a.2.1 (Ú a.2.1) a.1.1 a.1.2 a.2.1 a.2.2.1 a.2.2.2.1 a.2.2.2.2.1 a.2.2.2.2.2 b c d.1 d.2.1 d.2.2 (fun i j l=>h (i,j,l)) (fun f=>Ò (fun(e:Val aM) m=>vf a.2.2.2.2.1 (Ú a.2.2.2.2.1) a.1.1 a.1.2 a.2.1 a.2.2.1 a.2.2.2.1 a.2.2.2.2.1 a.2.2.2.2.2 b c e.1 e.2.1 e.2.2 (fun n o p=>m (n,o,p)) (fun g=>k (a,b,(c,g.1),g.2))) ((0:Int),f.1,f.2))) ((0:Int),[],[])
def Ho (a:Val Ä):Option ((Val aT)):=Xt a some
def Jp (a:Val Ä) (k:(Val (.pair Ì (.pair aa tI)))→Option ρ):Option ρ :=
  Ã (û a) fun b=>ifb (ine b 0) (k (((0:Int),[]),[],b)) (Ã (Ho a) fun c=>k (c.2.2.1,c.2.2.2,(0:Int)))
def ħ (a:Val Ä):Option ((Val (.pair Ì (.pair aa tI)))):=Jp a some
def vu (f:Int) (a:Int) (c:Val ab) (g:Int→Val ab→Option ρ) (h:Val ab→Option ρ):Option ρ :=
  ifb (ilt a f) (ã ((ile 0 a)&&(ilt a (þ c))) (ĺ c (Int.toNat a) fun d=>ã (å (List.length d.2.2.1)) (ã (å (List.length d.2.2.2.1)) (ã ((ile 0 a)&&(ilt a (þ c))) (ĺ c (Int.toNat a) fun b=>ã ((ile 0 a)&&(ilt a (þ (List.set c (Int.toNat a) (b.1,b.2.1,d.2.2.1,b.2.2.2))))) (ĺ (List.set c (Int.toNat a) (b.1,b.2.1,d.2.2.1,b.2.2.2)) (Int.toNat a) fun e=>ck (a+(1:Int)) fun i=>g i (List.set (List.set c (Int.toNat a) (b.1,b.2.1,d.2.2.1,b.2.2.2)) (Int.toNat a) (e.1,e.2.1,e.2.2.1,d.2.2.2.1,e.2.2.2.2)))))))) (h c)
def XK (a:Val Ä) (b:Val Â) (k:Val aI→Option ρ):Option ρ :=
  Ã (û a) fun c=>ifb (ine c 0) (k ((((0:Int),(0:Int)),[],[],[],[],[]),c)) (ã (å (List.length a.2.1)) (ã (å (List.length a.2.2.1)) (ã (å (List.length a.2.2.2.1)) (ã (å (List.length a.2.2.2.2.2)) (ã (å (List.length a.2.2.2.2.1)) (Ò (fun(d:(Val (.pair tI ab))) g=>vu (Ú a.2.2.2.2.1) d.1 d.2 (fun h i=>g (h,i)) (fun e=>ã (å ((List.length a.2.2.2.2.2)+(List.length ([b])))) (Ã (û (a.1,a.2.1,a.2.2.1,a.2.2.2.1,e,(a.2.2.2.2.2++([b])))) fun f=>ifb (ine f 0) (k ((((0:Int),(0:Int)),[],[],[],[],[]),f)) (k ((a.1,a.2.1,a.2.2.1,a.2.2.2.1,e,(a.2.2.2.2.2++([b]))),(0:Int)))))) ((0:Int),a.2.2.2.2.1)))))))
def jB (a:Val Ä) (b:Val Â):Option ((Val aI)):=XK a b some
def rO (a:Val Ì) (k:Val aV→Option ρ):Option ρ :=
  Ã (nr a) fun b=>ifb (ine b.1 0) (k (false,b.1)) (Ã (kE a ([])) fun c=>k (c.2,(0:Int)))
def Ē (a:Val Ì):Option ((Val aV)):=rO a some
def ą (m:Int) (j:Val aa) (b:Int) (c:Int) (d:Int) (e:Val ac) (f:Val aa) (g:Val af) (h:Val ab) (i:Val aa) (k:Int→Int→Int→Val ac→Val aa→Val af→Val ab→Val aa→Option ρ) (n:Val aC→Option ρ) (o:Val ai→Option ρ):Option ρ :=
  ifb (ilt b m) (ã ((ile 0 b)&&(ilt b (þ j))) (ĺ j (Int.toNat b) fun l=>Ã (Ş ((c,d),e,f,g,h,i) l) fun p=>ifb (ieq p.2 0) (ck (b+(1:Int)) fun q=>k q c d e f g h i) (Ã (jB ((c,d),e,f,g,h,i) l) fun a=>ifb (ine a.2 0) (n (a.2,c,d,e,f,g,h,i)) (ck (b+(1:Int)) fun r=>k r a.1.1.1 a.1.1.2 a.1.2.1 a.1.2.2.1 a.1.2.2.2.1 a.1.2.2.2.2.1 a.1.2.2.2.2.2)))) (o (c,d,e,f,g,h,i))
def yr (a:Val Ä) (e:Val Â) (k:Val Ł→Option ρ):Option ρ :=
  Ã (û a) fun f=>ifb (ine f 0) (ã (ine f 0) (k (((0:Int),(0:Int)),f))) (Ò (fun(b:Val aC) h=>ą (Ú ([e])) ([e]) b.1 b.2.1 b.2.2.1 b.2.2.2.1 b.2.2.2.2.1 b.2.2.2.2.2.1 b.2.2.2.2.2.2.1 b.2.2.2.2.2.2.2 (fun i j l m n o p q=>h (i,j,l,m,n,o,p,q)) (fun g=>ã (ine g.1 0) (k (((0:Int),(0:Int)),g.1))) (fun c=>Ã (ħ ((c.1,c.2.1),c.2.2)) fun d=>ifb (ine d.2.2 0) (ã (ine d.2.2 0) (k (((0:Int),(0:Int)),d.2.2))) (Ã (Ē d.1) fun r=>ifb (!r.1) (k (((0:Int),(0:Int)),(9:Int))) (Ã (Ŕ (((c.1,c.2.1),c.2.2),d.1) e) fun s=>k (s,(0:Int)))))) ((0:Int),a.1.1,a.1.2,a.2.1,a.2.2.1,a.2.2.2.1,a.2.2.2.2.1,a.2.2.2.2.2))
def nq (a:Val Ä) (b:Val Â):Option (Val Ł):=yr a b some
def rN (m:Int) (j:Val aa) (b:Int) (c:Int) (d:Int) (e:Val ac) (f:Val aa) (g:Val af) (h:Val ab) (i:Val aa) (k:Int→Int→Int→Val ac→Val aa→Val af→Val ab→Val aa→Option ρ) (n:Val aC→Option ρ) (o:Val ai→Option ρ):Option ρ :=
  ifb (ilt b m) (ã ((ile 0 b)&&(ilt b (þ j))) (ĺ j (Int.toNat b) fun l=>Ã (Ş ((c,d),e,f,g,h,i) l) fun p=>ifb (ieq p.2 0) (ck (b+(1:Int)) fun q=>k q c d e f g h i) (Ã (jB ((c,d),e,f,g,h,i) l) fun a=>ifb (ine a.2 0) (n (a.2,c,d,e,f,g,h,i)) (ck (b+(1:Int)) fun r=>k r a.1.1.1 a.1.1.2 a.1.2.1 a.1.2.2.1 a.1.2.2.2.1 a.1.2.2.2.2.1 a.1.2.2.2.2.2)))) (o (c,d,e,f,g,h,i))
def Dl (b:Val Ä) (e:Val Â) (f:Val Â) (k:Val Ł→Option ρ):Option ρ :=
  Ã (û b) fun g=>ifb (ine g 0) (ã (ine g 0) (k (((0:Int),(0:Int)),g))) (Ò (fun(c:Val aC) l=>rN (Ú ([e,f])) ([e,f]) c.1 c.2.1 c.2.2.1 c.2.2.2.1 c.2.2.2.2.1 c.2.2.2.2.2.1 c.2.2.2.2.2.2.1 c.2.2.2.2.2.2.2 (fun m n o p q r s t=>l (m,n,o,p,q,r,s,t)) (fun h=>ã (ine h.1 0) (k (((0:Int),(0:Int)),h.1))) (fun a=>Ã (ħ ((a.1,a.2.1),a.2.2)) fun d=>ifb (ine d.2.2 0) (ã (ine d.2.2 0) (k (((0:Int),(0:Int)),d.2.2))) (Ã (Ē d.1) fun u=>ifb (!u.1) (k (((0:Int),(0:Int)),(9:Int))) (Ã (Ķ (((a.1,a.2.1),a.2.2),d.1) e) fun i=>Ã (Ķ (((a.1,a.2.1),a.2.2),d.1) f) fun j=>Ã (Ĉ (((a.1,a.2.1),a.2.2),d.1) j i) fun v=>ck (0-v) fun w=>Ã (Ĉ (((a.1,a.2.1),a.2.2),d.1) i j) fun x=>k ((w,x),(0:Int)))))) ((0:Int),b.1.1,b.1.2,b.2.1,b.2.2.1,b.2.2.2.1,b.2.2.2.2.1,b.2.2.2.2.2))
def vM (a:Val Ä) (b:Val Â) (c:Val Â):Option (Val Ł):=Dl a b c some
def C7 (a:Val Â) (b:Val Â) (k:Int→Option ρ):Option ρ :=
  ifb (ile b.1 a.1) (ifb (ile a.2 b.2) (k (1:Int)) (ifb (ilt a.2 b.1) (k (2:Int)) (ifb (ilt b.2 a.1) (k (2:Int)) (k (3:Int))))) (ifb (ilt a.2 b.1) (k (2:Int)) (ifb (ilt b.2 a.1) (k (2:Int)) (k (3:Int))))
def pL (a:Val Â) (b:Val Â):Option (Int):=C7 a b some
def yq (m:Int) (j:Val aa) (b:Int) (c:Int) (d:Int) (e:Val ac) (f:Val aa) (g:Val af) (h:Val ab) (i:Val aa) (k:Int→Int→Int→Val ac→Val aa→Val af→Val ab→Val aa→Option ρ) (n:Val aC→Option ρ) (o:Val ai→Option ρ):Option ρ :=
  ifb (ilt b m) (ã ((ile 0 b)&&(ilt b (þ j))) (ĺ j (Int.toNat b) fun l=>Ã (Ş ((c,d),e,f,g,h,i) l) fun p=>ifb (ieq p.2 0) (ck (b+(1:Int)) fun q=>k q c d e f g h i) (Ã (jB ((c,d),e,f,g,h,i) l) fun a=>ifb (ine a.2 0) (n (a.2,c,d,e,f,g,h,i)) (ck (b+(1:Int)) fun r=>k r a.1.1.1 a.1.1.2 a.1.2.1 a.1.2.2.1 a.1.2.2.2.1 a.1.2.2.2.2.1 a.1.2.2.2.2.2)))) (o (c,d,e,f,g,h,i))
def Pr (b:Val Ä) (f:Val Â) (a:Val Â) (k:Val Â→Option ρ):Option ρ :=
  Ã (û b) fun g=>ifb (ine g 0) (ifb (ine g 0) (k ((0:Int),g)) (ã (igt a.1 a.2) (k ((0:Int),(1:Int))))) (Ò (fun(c:Val aC) i=>yq (Ú ([f])) ([f]) c.1 c.2.1 c.2.2.1 c.2.2.2.1 c.2.2.2.2.1 c.2.2.2.2.2.1 c.2.2.2.2.2.2.1 c.2.2.2.2.2.2.2 (fun j l m n o p q r=>i (j,l,m,n,o,p,q,r)) (fun h=>ifb (ine h.1 0) (k ((0:Int),h.1)) (ã (igt a.1 a.2) (k ((0:Int),(1:Int))))) (fun d=>Ã (ħ ((d.1,d.2.1),d.2.2)) fun e=>ifb (ine e.2.2 0) (ifb (ine e.2.2 0) (k ((0:Int),e.2.2)) (ã (igt a.1 a.2) (k ((0:Int),(1:Int))))) (Ã (Ē e.1) fun s=>ifb (!s.1) (k ((0:Int),(9:Int))) (ifb (igt a.1 a.2) (k ((0:Int),(1:Int))) (Ã (Ŕ (((d.1,d.2.1),d.2.2),e.1) f) fun t=>Ã (pL t a) fun u=>k (u,(0:Int))))))) ((0:Int),b.1.1,b.1.2,b.2.1,b.2.2.1,b.2.2.2.1,b.2.2.2.2.1,b.2.2.2.2.2))
def zh (a:Val Ä) (b:Val Â) (c:Val Â):Option (Val Â):=Pr a b c some
def zR (c:Int) (a:Int) (b:Val ae) (d:Int→Val ae→Option ρ) (e:Val ae→Option ρ):Option ρ :=
  ifb (ilt a c) (ã ((ile 0 a)&&(ilt a (þ b))) (ĺ b (Int.toNat a) fun g=>ck (a+(1:Int)) fun f=>d f (List.set b (Int.toNat a) (1152921504606846976:Int)))) (e b)
def W9 (c:Int) (a:Int) (b:Val ae) (d:Int→Val ae→Option ρ) (e:Val ae→Option ρ):Option ρ :=
  ifb (ilt a c) (ã ((ile 0 a)&&(ilt a (þ b))) (ĺ b (Int.toNat a) fun g=>ck (a+(1:Int)) fun f=>d f (List.set b (Int.toNat a) (1152921504606846976:Int)))) (e b)
def F2 (d:Val ae) (f:Val ah) (g:Int) (c:Int) (b:Val ae) (e:Int→Val ae→Option ρ) (h:Val ae→Option ρ):Option ρ :=
  ifb (ilt c g) (ü f c fun a=>ü d a.2.1 fun i=>ifb (ine i 1152921504606846976) (ã ((ile 0 a.1)&&(ilt a.1 (þ b))) (ĺ b (Int.toNat a.1) fun j=>ü d a.2.1 fun k=>ck (a.2.2+k) fun l=>ã ((ile 0 a.1)&&(ilt a.1 (þ b))) (ĺ b (Int.toNat a.1) fun o=>ck (c+(1:Int)) fun m=>e m (List.set b (Int.toNat a.1) (UP j l))))) (ck (c+(1:Int)) fun n=>e n b)) (h b)
def MZ (i:Int) (b:Int) (d:Val ah) (e:Int) (a:Val am) (j:Int→Val am→Option ρ) (k:Val am→Option ρ):Option ρ :=
  ifb (ilt e i) (ck ((Ú a)-(1:Int)) fun c=>ã ((ile 0 c)&&(ilt c (þ a))) (ĺ a (Int.toNat c) fun l=>ã ((ile 0 b)&&(å (Int.toNat b))) (Ò (fun(f:Val ay) m=>W9 (Ú (List.replicate (Int.toNat b) (0:Int))) f.1 f.2 (fun n o=>m (n,o)) (fun p=>Ò (fun(g:Val ay) q=>F2 l d (Ú d) g.1 g.2 (fun r s=>q (r,s)) (fun h=>ã (å ((List.length a)+(List.length ([h])))) (ck (e+(1:Int)) fun t=>j t (a++([h]))))) ((0:Int),p))) ((0:Int),(List.replicate (Int.toNat b) (0:Int)))))) (k a)
def PA (a:Val Ì) (b:Int) (f:Int) (k:Val am→Option ρ):Option ρ :=
  ã ((ile 0 a.1)&&(å (Int.toNat a.1))) (Ò (fun(d:Val ay) g=>zR (Ú (List.replicate (Int.toNat a.1) (0:Int))) d.1 d.2 (fun h i=>g (h,i)) (fun c=>ã ((ile 0 b)&&(ilt b (þ c))) (ĺ c (Int.toNat b) fun o=>Ò (fun(e:Val aO) j=>MZ f a.1 a.2 e.1 e.2 (fun l m=>j (l,m)) (fun n=>k n)) ((0:Int),[(List.set c (Int.toNat b) (0:Int))])))) ((0:Int),(List.replicate (Int.toNat a.1) (0:Int))))
def zi (a:Val Ì) (b:Int) (c:Int):Option ((Val am)):=PA a b c some
def qV (b:Val am) (c:Int) (d:Int) (e:Int) (a:Int) (f:Int→Option ρ) (g:Int→Option ρ) (h:Unit→Option ρ):Option ρ :=
  ifb (ilt a c) (ü b a fun i=>ü i d fun j=>ifb (ieq j e) (g a) (ck (a+(1:Int)) fun k=>f k)) (h ())
def KS (g:Int) (h:Val am) (j:Val ah) (k:Int) (l:Int) (e:Int) (b:Int) (a:Int) (c:Val ae) (f:Int→Int→Int→Val ae→Option ρ) (i:(Val (.pair tI ay))→Option ρ):Option ρ :=
  ifb (ilt a k) (ü j a fun d=>ifb (ieq d.1 e) (ck (g-(1:Int)) fun m=>ü h m fun n=>ü n d.2.1 fun o=>ifb (ine o 1152921504606846976) (ck (b+d.2.2) fun p=>ck (g-(1:Int)) fun q=>ü h q fun r=>ü r d.2.1 fun s=>ck (p+s) fun t=>ifb (ieq t l) (ã (å ((List.length c)+(List.length ([a])))) (ck (b+d.2.2) fun u=>i (d.2.1,u,(c++([a]))))) (ck (a+(1:Int)) fun v=>f e b v c)) (ck (a+(1:Int)) fun w=>f e b w c)) (ck (a+(1:Int)) fun x=>f e b x c)) (i (e,b,c))
def qU (f:Val am) (g:Int) (d:Val ah) (h:Int) (b:Int) (i:Int) (e:Val ae) (j:Int→Int→Int→Val ae→Option ρ) (k:Val ae→Option ρ):Option ρ :=
  ifb (igt b 0) (Ò (fun(a:Val aJ) l=>KS b f d (Ú d) g a.1 a.2.1 a.2.2.1 a.2.2.2 (fun m n o p=>l (m,n,o,p)) (fun c=>ck (b-(1:Int)) fun q=>j c.1 q c.2.1 c.2.2)) (h,i,(0:Int),e)) (k e)
def PQ (a:Val Ì) (c:Int) (g:Int) (k:Val aE→Option ρ):Option ρ :=
  Ã (pP a c g) fun b=>ifb (ine b.2 0) (k ([],b.2)) (Ã (zi a g a.1) fun d=>Ò (fun(h:Int) i=>qV d (Ú d) c b.1 h (fun j=>i j) (fun l=>Ò (fun(e:Val aJ) m=>qU d b.1 a.2 e.1 e.2.1 e.2.2.1 e.2.2.2 (fun n o p q=>m (n,o,p,q)) (fun r=>k (r,(0:Int)))) (c,l,(0:Int),[])) (fun _=>Ò (fun(f:Val aJ) s=>qU d b.1 a.2 f.1 f.2.1 f.2.2.1 f.2.2.2 (fun t u v w=>s (t,u,v,w)) (fun x=>k (x,(0:Int)))) (c,(-1:Int),(0:Int),[]))) (0:Int))
def zl (a:Val Ì) (b:Int) (c:Int):Option ((Val aE)):=PQ a b c some
def uR (a:Val ax) (c:Val aS) (d:(Val (.ptr .bool))) (k:Val ae→Option ρ):Option ρ :=
  Ã (Ķ a c) fun b=>ifb d (Ã (zl a.2 (0:Int) b) fun e=>k e.1) (Ã (zl a.2 b (0:Int)) fun f=>k f.1)
def lG (a:Val ax) (b:Val aS) (c:(Val (.ptr .bool))):Option ((Val ae)):=uR a b c some
def mG (d:Val aa) (e:Val ae) (f:Int) (a:Int) (b:Val aa) (g:Int→Val aa→Option ρ) (h:Val aa→Option ρ):Option ρ :=
  ifb (ilt a f) (ü e a fun i=>ü d i fun c=>ã (å ((List.length b)+(List.length ([c])))) (ck (a+(1:Int)) fun j=>g j (b++([c])))) (h b)
def Da (c:Val Ä) (a:Val ae) (k:Val aa→Option ρ):Option ρ :=
  Ã (ħ c) fun d=>Ò (fun(b:Val aF) e=>mG d.2.1 a (Ú a) b.1 b.2 (fun f g=>e (f,g)) (fun h=>k h)) ((0:Int),[])
def pM (a:Val Ä) (b:Val ae):Option ((Val aa)):=Da a b some
def rM (m:Int) (j:Val aa) (b:Int) (c:Int) (d:Int) (e:Val ac) (f:Val aa) (g:Val af) (h:Val ab) (i:Val aa) (k:Int→Int→Int→Val ac→Val aa→Val af→Val ab→Val aa→Option ρ) (n:Val aC→Option ρ) (o:Val ai→Option ρ):Option ρ :=
  ifb (ilt b m) (ã ((ile 0 b)&&(ilt b (þ j))) (ĺ j (Int.toNat b) fun l=>Ã (Ş ((c,d),e,f,g,h,i) l) fun p=>ifb (ieq p.2 0) (ck (b+(1:Int)) fun q=>k q c d e f g h i) (Ã (jB ((c,d),e,f,g,h,i) l) fun a=>ifb (ine a.2 0) (n (a.2,c,d,e,f,g,h,i)) (ck (b+(1:Int)) fun r=>k r a.1.1.1 a.1.1.2 a.1.2.1 a.1.2.2.1 a.1.2.2.2.1 a.1.2.2.2.2.1 a.1.2.2.2.2.2)))) (o (c,d,e,f,g,h,i))
def rL (a:Int) (b:Int) (d:Int→Option ρ) (c:Unit→Option ρ):Option ρ :=
  ifb (ilt b a) (none) (c ())
def Dk (d:Val Ä) (b:Val Â) (f:Bool) (k:(Val (.pair υ tI))→Option ρ):Option ρ :=
  Ã (û d) fun i=>ifb (ine i 0) (ã (ine i 0) (k (((((0:Int),(0:Int)),[],[],[],[],[]),((0:Int),(0:Int)),false,(0:Int),[]),i))) (Ò (fun(e:Val aC) n=>rM (Ú ([b])) ([b]) e.1 e.2.1 e.2.2.1 e.2.2.2.1 e.2.2.2.2.1 e.2.2.2.2.2.1 e.2.2.2.2.2.2.1 e.2.2.2.2.2.2.2 (fun o p q r s t u v=>n (o,p,q,r,s,t,u,v)) (fun l=>ã (ine l.1 0) (k (((((0:Int),(0:Int)),[],[],[],[],[]),((0:Int),(0:Int)),false,(0:Int),[]),l.1))) (fun a=>Ã (ħ ((a.1,a.2.1),a.2.2)) fun c=>ifb (ine c.2.2 0) (ã (ine c.2.2 0) (k (((((0:Int),(0:Int)),[],[],[],[],[]),((0:Int),(0:Int)),false,(0:Int),[]),c.2.2))) (Ã (Ē c.1) fun w=>ifb (!w.1) (k (((((0:Int),(0:Int)),[],[],[],[],[]),((0:Int),(0:Int)),false,(0:Int),[]),(9:Int))) (Ã (lG (((a.1,a.2.1),a.2.2),c.1) b f) fun x=>Ã (pM ((a.1,a.2.1),a.2.2) x) fun y=>Ã (QO ((a.1,a.2.1),a.2.2) y ([b])) fun g=>Ã (û g) fun j=>ifb (ine j 0) (ifb (ine j 0) (k (((((0:Int),(0:Int)),[],[],[],[],[]),((0:Int),(0:Int)),false,(0:Int),[]),j)) (Ã (π (((a.1,a.2.1),a.2.2),c.1) b) fun F=>none)) (Ò (fun(z:Int) A=>rL (0:Int) z (fun B=>A B) (fun _=>Ã (ħ g) fun h=>ifb (ine h.2.2 0) (ifb (ine h.2.2 0) (k (((((0:Int),(0:Int)),[],[],[],[],[]),((0:Int),(0:Int)),false,(0:Int),[]),h.2.2)) (Ã (π (((a.1,a.2.1),a.2.2),c.1) b) fun G=>none)) (Ã (Ē h.1) fun C=>ifb (!C.1) (k (((((0:Int),(0:Int)),[],[],[],[],[]),((0:Int),(0:Int)),false,(0:Int),[]),(9:Int))) (Ã (π (((a.1,a.2.1),a.2.2),c.1) b) fun D=>Ã (lG (g,h.1) b f) fun m=>ifb f (Ã (ig (((a.1,a.2.1),a.2.2),c.1) b) fun E=>k ((g,b,f,E,m),(0:Int))) (k ((g,b,f,D,m),(0:Int))))))) (0:Int)))))) ((0:Int),d.1.1,d.1.2,d.2.1,d.2.2.1,d.2.2.2.1,d.2.2.2.2.1,d.2.2.2.2.2))
def vL (a:Val Ä) (b:Val Â) (c:Bool):Option ((Val (.pair υ tI))):=Dk a b c some
def mI (d:Val ae) (e:Int) (f:Val ah) (a:Int) (g:Int→Option ρ) (b:Int→Option ρ) (h:Unit→Option ρ):Option ρ :=
  ifb (ilt a e) (ü d a fun c=>ifb (ilt c 0) (b a) (ifb (ige c (Ú f)) (b a) (ck (a+(1:Int)) fun i=>g i))) (h ())
def Dm (b:Val Ì) (a:Val ae) (k:Int→Option ρ):Option ρ :=
  ifb (igt (Ú a) 80) (k (2:Int)) (Ò (fun(c:Int) d=>mI a (Ú a) b.2 c (fun e=>d e) (fun f=>ifb (ige f 0) (k (1:Int)) (k (0:Int))) (fun _=>k (0:Int))) (0:Int))
def pO (a:Val Ì) (b:Val ae):Option (Int):=Dm a b some
def uT (e:Val ae) (f:Int) (g:Val ah) (c:Int) (d:Int) (a:Int) (h:Int→Int→Int→Option ρ) (i:(Val (.pair tI (.pair tI .bool)))→Option ρ) (j:Val Â→Option ρ):Option ρ :=
  ifb (ilt a f) (ü e a fun k=>ü g k fun b=>ifb (ine b.1 c) (i ((0:Int),(0:Int),false)) (ck (d+b.2.2) fun l=>ck (a+(1:Int)) fun m=>h b.2.1 l m)) (j (c,d))
def W7 (e:Val Ì) (f:Int) (c:Val ae) (k:(Val (.pair tI (.pair tI .bool)))→Option ρ):Option ρ :=
  Ò (fun(a:Val ÿ) g=>uT c (Ú c) e.2 a.1 a.2.1 a.2.2 (fun h i j=>g (h,i,j)) (fun b=>k (b.1,b.2.1,b.2.2)) (fun d=>k (d.1,d.2,true))) (f,(0:Int),(0:Int))
def Hl (a:Val Ì) (b:Int) (c:Val ae):Option ((Val (.pair tI (.pair tI .bool)))):=W7 a b c some
def rQ (a:Val Ì) (c:Int) (d:Int) (e:Val ae) (k:Val Â→Option ρ):Option ρ :=
  Ã (nr a) fun f=>ifb (ine f.1 0) (k ((0:Int),f.1)) (Ã (rl a c) fun h=>ifb (!h) (k ((0:Int),(1:Int))) (Ã (rl a d) fun i=>ifb (!i) (k ((0:Int),(1:Int))) (Ã (pO a e) fun g=>ifb (ine g 0) (k ((0:Int),g)) (Ã (Hl a c e) fun b=>ifb (!b.2.2) (k ((0:Int),(8:Int))) (ifb (ine b.1 d) (k ((0:Int),(8:Int))) (k (b.2.1,(0:Int))))))))
def jU (a:Val Ì) (b:Int) (c:Int) (d:Val ae):Option (Val Â):=rQ a b c d some
def uQ (a:Val υ) (k:Int→Option ρ):Option ρ :=
  Ã (û a.1) fun c=>ifb (ine c 0) (k c) (Ã (Ş a.1 a.2.1) fun b=>ifb (ine b.2 0) (k (5:Int)) (Ã (ħ a.1) fun d=>ck (0-a.2.2.2.1) fun g=>ifb a.2.2.1 (Ã (jU d.1 (0:Int) b.1 a.2.2.2.2) fun e=>ifb (ine e.2 0) (k (8:Int)) (ifb (ine e.1 a.2.2.2.1) (k (8:Int)) (k (0:Int)))) (Ã (jU d.1 b.1 (0:Int) a.2.2.2.2) fun f=>ifb (ine f.2 0) (k (8:Int)) (ifb (ine f.1 g) (k (8:Int)) (k (0:Int))))))
def lF (a:Val υ):Option (Int):=uQ a some
def vt (f:Int) (a:Int) (c:Val ab) (g:Int→Val ab→Option ρ) (h:Val ab→Option ρ):Option ρ :=
  ifb (ilt a f) (ã ((ile 0 a)&&(ilt a (þ c))) (ĺ c (Int.toNat a) fun d=>ã (å (List.length d.2.2.1)) (ã (å (List.length d.2.2.2.1)) (ã ((ile 0 a)&&(ilt a (þ c))) (ĺ c (Int.toNat a) fun b=>ã ((ile 0 a)&&(ilt a (þ (List.set c (Int.toNat a) (b.1,b.2.1,d.2.2.1,b.2.2.2))))) (ĺ (List.set c (Int.toNat a) (b.1,b.2.1,d.2.2.1,b.2.2.2)) (Int.toNat a) fun e=>ck (a+(1:Int)) fun i=>g i (List.set (List.set c (Int.toNat a) (b.1,b.2.1,d.2.2.1,b.2.2.2)) (Int.toNat a) (e.1,e.2.1,e.2.2.1,d.2.2.2.1,e.2.2.2.2)))))))) (h c)
def XH (a:Val Ä) (b:Val Í) (k:Val aI→Option ρ):Option ρ :=
  ã (å (List.length b.2.2.1)) (ã (å (List.length b.2.2.2.1)) (Ã (û a) fun d=>ifb (ine d 0) (k ((((0:Int),(0:Int)),[],[],[],[],[]),d)) (ã (å (List.length a.2.1)) (ã (å (List.length a.2.2.1)) (ã (å (List.length a.2.2.2.1)) (ã (å (List.length a.2.2.2.2.2)) (ã (å (List.length a.2.2.2.2.1)) (Ò (fun(e:(Val (.pair tI ab))) g=>vt (Ú a.2.2.2.2.1) e.1 e.2 (fun h i=>g (h,i)) (fun c=>ã (å ((List.length c)+(List.length ([b])))) (Ã (û (a.1,a.2.1,a.2.2.1,a.2.2.2.1,(c++([b])),a.2.2.2.2.2)) fun f=>ifb (ine f 0) (k ((((0:Int),(0:Int)),[],[],[],[],[]),f)) (k ((a.1,a.2.1,a.2.2.1,a.2.2.2.1,(c++([b])),a.2.2.2.2.2),(0:Int)))))) ((0:Int),a.2.2.2.2.1)))))))))
def oC (a:Val Ä) (b:Val Í):Option ((Val aI)):=XH a b some
def Qa (b:Val Ä) (a:Val Í) (c:Val Â) (k:Val Ł→Option ρ):Option ρ :=
  Ã (oS b a) fun d=>Ã (tS b a) fun e=>Ã (Hm d.1) fun h=>Ã (zm d.2) fun i=>ck (h.1+e.1) fun j=>ck (j-a.2.2.2.2.2.1) fun f=>ck (i.1+e.2) fun l=>ck (l+a.2.2.2.2.2.1) fun g=>ifb (igt f g) (k (((0:Int),(0:Int)),(5:Int))) (ck (c.1+f) fun m=>ck (c.2+g) fun n=>k ((m,n),(0:Int)))
def tR (a:Val Ä) (b:Val Í) (c:Val Â):Option (Val Ł):=Qa a b c some
def DB (g:Val Ä) (a:Val Í) (k:Val Ł→Option ρ):Option ρ :=
  Ã (oC g (a.1,a.2.1,a.2.2.1,a.2.2.2.1,(0:Int),a.2.2.2.2.2)) fun d=>ifb (ine d.2 0) (k (((0:Int),(0:Int)),d.2)) (Ã (Ho d.1) fun b=>ck ((Ú b.2.2.1.2)-(2:Int)) fun c=>ã ((ile 0 c)&&(ile c (þ b.2.2.1.2))) (Ã (Ű a.2.2.1 a.2.2.2.1) fun l=>Ã (iu b l a.2.1) fun h=>Ã (Ű a.2.2.2.1 a.2.2.1) fun m=>Ã (iu b m a.2.1) fun i=>Ã (pP (b.2.2.1.1,(List.take (Int.toNat c) b.2.2.1.2)) i h) fun e=>ifb (ine e.2 0) (k (((0:Int),(0:Int)),e.2)) (Ã (pP (b.2.2.1.1,(List.take (Int.toNat c) b.2.2.1.2)) h i) fun f=>ifb (ine f.2 0) (k (((0:Int),(0:Int)),f.2)) (ck (0-f.1) fun n=>Ã (tR g (a.1,a.2.1,a.2.2.1,a.2.2.2.1,(0:Int),a.2.2.2.2.2) (n,e.1)) fun j=>k (j.1,j.2)))))
def vQ (a:Val Ä) (b:Val Í):Option (Val Ł):=DB a b some
def P8 (a:Val Ä) (b:Int) (k:(Val (.pair Í tI))→Option ρ):Option ρ :=
  Ã (û a) fun c=>ifb (ine c 0) (k (((0:Int),(0:Int),[],[],(0:Int),(0:Int),(0:Int),(0:Int)),c)) (ifb (ilt b 0) (k (((0:Int),(0:Int),[],[],(0:Int),(0:Int),(0:Int),(0:Int)),(1:Int))) (ifb (ige b (Ú a.2.2.2.2.1)) (k (((0:Int),(0:Int),[],[],(0:Int),(0:Int),(0:Int),(0:Int)),(1:Int))) (ü a.2.2.2.2.1 b fun d=>k (d,(0:Int)))))
def Hn (a:Val Ä) (b:Int):Option ((Val (.pair Í tI))):=P8 a b some
def XJ (b:Val Ä) (c:Int) (k:Val Ł→Option ρ):Option ρ :=
  Ã (Hn b c) fun a=>ifb (ine a.2 0) (k (((0:Int),(0:Int)),a.2)) (Ã (vN b a.1) fun d=>k (d,(0:Int)))
def Nh (a:Val Ä) (b:Int):Option (Val Ł):=XJ a b some
def Jr (a:Val ae) (b:Val ae) (k:(Val (.pair ae aE))→Option ρ):Option ρ :=
  Ã (mu a) fun c=>ifb (!c) (k ([],[],(1:Int))) (Ã (mu b) fun d=>ifb (!d) (k ([],[],(1:Int))) (Ã (Ű a b) fun e=>Ã (Ű b a) fun f=>k (e,f,(0:Int))))
def tT (a:Val ae) (b:Val ae):Option ((Val (.pair ae aE))):=Jr a b some
def yk (a:Val ae) (b:Val ax) (c:(Val (.ptr Í))) (k:Int→Option ρ):Option ρ :=
  ifb (ieq (Ú a) 0) (k (0:Int)) (ü a (0:Int) fun d=>Ã (Ķ b (d,c.2.1)) fun e=>k e)
def np (a:Val ae) (b:Val ax) (c:(Val (.ptr Í))):Option (Int):=yk a b c some
def yj (b:Int) (c:Int) (a:Val ax) (d:(Val (.ptr tI))) (e:Val aS) (f:(Val (.ptr tI))) (k:Val ÿ→Option ρ):Option ρ :=
  Ã (Ĉ a b c) fun g=>Ã (Ĉ a d c) fun h=>ck (h+e.2) fun i=>Ã (Ĉ a b f) fun j=>ck (i+j) fun l=>Ã (Ĉ a f c) fun m=>ck (m-e.1) fun n=>Ã (Ĉ a b d) fun o=>ck (n+o) fun p=>k (g,l,p)
def nl (a:Int) (b:Int) (c:Val ax) (d:(Val (.ptr tI))) (e:Val aS) (f:(Val (.ptr tI))):Option (Val ÿ):=yj a b c d e f some
def lp (f:Int) (g:Val aa) (h:Val ah) (i:Int) (a:Int) (b:Val ah) (c:Int→Val ah→Option ρ) (j:Val ah→Option ρ):Option ρ :=
  ifb (ilt a i) (ü h a fun d=>ü g a fun e=>ifb (!((Ŋ e.1 (3:Int))&&((Ŋ e.2 f)&&true))) (ã (å ((List.length b)+(List.length ([d])))) (ck (a+(1:Int)) fun k=>c k (b++([d])))) (ck (a+(1:Int)) fun l=>c l b)) (j b)
def IK (f:Val ax) (o:Val Â) (a:Val Í) (k:(Val (.pair ŵ tI))→Option ρ):Option ρ :=
  Ã (vQ f.1 a) fun e=>ifb (ine e.2 0) (k ((((0:Int),(0:Int)),((0:Int),(0:Int),(0:Int)),(0:Int),(0:Int),(0:Int)),e.2)) (Ã (oC f.1 (a.1,a.2.1,a.2.2.1,a.2.2.2.1,(0:Int),a.2.2.2.2.2)) fun b=>ifb (ine b.2 0) (k ((((0:Int),(0:Int)),((0:Int),(0:Int),(0:Int)),(0:Int),(0:Int),(0:Int)),b.2)) (ck ((Ú b.1.2.2.2.2.1)-(1:Int)) fun g=>Ã (Nh b.1 g) fun h=>Ã (tT a.2.2.1 a.2.2.2.1) fun i=>Ã (ħ b.1) fun c=>Ò (fun(j:Val Ì) p=>lp g c.2.1 c.1.2 (Ú c.1.2) j.1 j.2 (fun q r=>p (q,r)) (fun d=>Ã (np i.1 (b.1,c.1.1,d) (a.1,a.2.1,a.2.2.1,a.2.2.2.1,(0:Int),a.2.2.2.2.2)) fun l=>Ã (np i.2.1 (b.1,c.1.1,d) (a.1,a.2.1,a.2.2.1,a.2.2.2.1,(0:Int),a.2.2.2.2.2)) fun m=>Ã (Ķ (b.1,c.1.1,d) o) fun n=>Ã (nl n (0:Int) (b.1,c.1.1,d) m h.1 l) fun s=>Ã (nl (0:Int) n (b.1,c.1.1,d) m h.1 l) fun t=>k ((e.1,s,t),(0:Int)))) ((0:Int),[])))
def tM (a:Val ax) (b:Val Â) (c:Val Í):Option ((Val (.pair ŵ tI))):=IK a b c some
def uI (a:Val ÿ) (k:Val ae→Option ρ):Option ρ :=
  ck (a.2.2-a.2.1) fun c=>ck (Int.tdiv c (2:Int)) fun b=>ck (a.1-a.2.1) fun d=>ck (a.2.2-a.1) fun e=>ck (b-1) fun f=>ck (b+1) fun g=>k ([d,e,b,f,g])
def iH (a:Val ÿ):Option ((Val ae)):=uI a some
def IP (a:Val ÿ) (b:Int) (k:Int→Option ρ):Option ρ :=
  ck (a.2.1+b) fun c=>ck (a.2.2-b) fun d=>k (UP (UP a.1 c) d)
def tN (a:Val ÿ) (b:Int):Option (Int):=IP a b some
def rB (a:Val ŵ) (b:Int) (k:Val Â→Option ρ):Option ρ :=
  Ã (tN a.2.2 b) fun c=>ck (0-c) fun d=>Ã (tN a.2.1 b) fun e=>k (d,e)
def ŗ (a:Val ŵ) (b:Int):Option (Val Â):=rB a b some
def g9 (d:Int) (e:Int) (f:Int) (a:Int) (b:Val ae) (c:Int→Val ae→Option ρ) (g:Val ae→Option ρ):Option ρ :=
  ck (d+(2:Int)) fun h=>ifb (ile a h) (ifb (igt a e) (ifb (ilt a f) (ã (å ((List.length b)+(List.length ([a])))) (ck (a+(1:Int)) fun i=>c i (b++([a])))) (ck (a+(1:Int)) fun j=>c j b)) (ck (a+(1:Int)) fun k=>c k b)) (g b)
def jt (e:Val ae) (f:Int) (g:Int) (h:Int) (a:Int) (b:Val ae) (i:Int→Val ae→Option ρ) (j:Val ae→Option ρ):Option ρ :=
  ifb (ilt a f) (ü e a fun c=>ck (c-(2:Int)) fun k=>Ò (fun(d:Val ay) l=>g9 c g h d.1 d.2 (fun m n=>l (m,n)) (fun o=>ck (a+(1:Int)) fun p=>i p o)) (k,b)) (j b)
def rC (a:Val ŵ) (b:Val ae) (k:Val ae→Option ρ):Option ρ :=
  Ò (fun(c:Val ay) d=>jt b (Ú b) a.1.1 a.1.2 c.1 c.2 (fun e f=>d (e,f)) (fun g=>k g)) ((0:Int),[a.1.1,a.1.2])
def jT (a:Val ŵ) (b:Val ae):Option ((Val ae)):=rC a b some
def iZ (d:Val ae) (e:Int) (f:Int) (g:Int) (h:Int) (i:Int) (j:Int) (k:Int) (l:Int) (m:Int) (b:Int) (a:Int) (n:Int→Int→Option ρ) (o:Int→Option ρ):Option ρ :=
  ifb (ilt a e) (ü d a fun p=>Ã (ŗ ((f,g),(h,i,j),k,l,m) p) fun c=>ck (c.2-c.1) fun q=>ck (a+(1:Int)) fun r=>n (Lj b q) r) (o b)
def pl (a:Val ŵ) (k:Int→Option ρ):Option ρ :=
  Ã (iH a.2.1) fun d=>Ã (iH a.2.2) fun e=>Ã (í ([d,e])) fun f=>Ã (jT a f) fun b=>Ò (fun(c:Val Â) g=>iZ b (Ú b) a.1.1 a.1.2 a.2.1.1 a.2.1.2.1 a.2.1.2.2 a.2.2.1 a.2.2.2.1 a.2.2.2.2 c.1 c.2 (fun h i=>g (h,i)) (fun j=>k j)) ((-1:Int),(0:Int))
def lC (a:Val ŵ):Option (Int):=pl a some
def yn (m:Int) (j:Val aa) (b:Int) (c:Int) (d:Int) (e:Val ac) (f:Val aa) (g:Val af) (h:Val ab) (i:Val aa) (k:Int→Int→Int→Val ac→Val aa→Val af→Val ab→Val aa→Option ρ) (n:Val aC→Option ρ) (o:Val ai→Option ρ):Option ρ :=
  ifb (ilt b m) (ã ((ile 0 b)&&(ilt b (þ j))) (ĺ j (Int.toNat b) fun l=>Ã (Ş ((c,d),e,f,g,h,i) l) fun p=>ifb (ieq p.2 0) (ck (b+(1:Int)) fun q=>k q c d e f g h i) (Ã (jB ((c,d),e,f,g,h,i) l) fun a=>ifb (ine a.2 0) (n (a.2,c,d,e,f,g,h,i)) (ck (b+(1:Int)) fun r=>k r a.1.1.1 a.1.1.2 a.1.2.1 a.1.2.2.1 a.1.2.2.2.1 a.1.2.2.2.2.1 a.1.2.2.2.2.2)))) (o (c,d,e,f,g,h,i))
def Pn (a:Val Ä) (e:Val Â) (i:Val Í) (k:Val Â→Option ρ):Option ρ :=
  Ã (û a) fun f=>ifb (ine f 0) (ã (ine f 0) (k ((0:Int),f))) (Ò (fun(b:Val aC) j=>yn (Ú ([e])) ([e]) b.1 b.2.1 b.2.2.1 b.2.2.2.1 b.2.2.2.2.1 b.2.2.2.2.2.1 b.2.2.2.2.2.2.1 b.2.2.2.2.2.2.2 (fun l m n o p q r s=>j (l,m,n,o,p,q,r,s)) (fun h=>ã (ine h.1 0) (k ((0:Int),h.1))) (fun c=>Ã (ħ ((c.1,c.2.1),c.2.2)) fun d=>ifb (ine d.2.2 0) (ã (ine d.2.2 0) (k ((0:Int),d.2.2))) (Ã (Ē d.1) fun t=>ifb (!t.1) (k ((0:Int),(9:Int))) (Ã (tM (((c.1,c.2.1),c.2.2),d.1) e i) fun g=>ifb (ine g.2 0) (k ((0:Int),g.2)) (Ã (lC g.1) fun u=>k (u,(0:Int))))))) ((0:Int),a.1.1,a.1.2,a.2.1,a.2.2.1,a.2.2.2.1,a.2.2.2.2.1,a.2.2.2.2.2))
def zf (a:Val Ä) (b:Val Â) (c:Val Í):Option (Val Â):=Pn a b c some
def uN (a:Int) (k:Int→Option ρ):Option ρ :=
  k (Lj (-288230376151711744:Int) (UP a (288230376151711744:Int)))
def lE (a:Int):Option (Int):=uN a some
def uJ (a:Val ÿ) (b:Int) (k:Val ae→Option ρ):Option ρ :=
  ck (b-a.2.1) fun c=>ck (a.2.2-b) fun d=>k ([c,d])
def iI (a:Val ÿ) (b:Int):Option ((Val ae)):=uJ a b some
def rI (m:Int) (j:Val aa) (b:Int) (c:Int) (d:Int) (e:Val ac) (f:Val aa) (g:Val af) (h:Val ab) (i:Val aa) (k:Int→Int→Int→Val ac→Val aa→Val af→Val ab→Val aa→Option ρ) (n:Val aC→Option ρ) (o:Val ai→Option ρ):Option ρ :=
  ifb (ilt b m) (ã ((ile 0 b)&&(ilt b (þ j))) (ĺ j (Int.toNat b) fun l=>Ã (Ş ((c,d),e,f,g,h,i) l) fun p=>ifb (ieq p.2 0) (ck (b+(1:Int)) fun q=>k q c d e f g h i) (Ã (jB ((c,d),e,f,g,h,i) l) fun a=>ifb (ine a.2 0) (n (a.2,c,d,e,f,g,h,i)) (ck (b+(1:Int)) fun r=>k r a.1.1.1 a.1.1.2 a.1.2.1 a.1.2.2.1 a.1.2.2.2.1 a.1.2.2.2.2.1 a.1.2.2.2.2.2)))) (o (c,d,e,f,g,h,i))
def mH (b:Val ae) (c:Int) (d:Int) (e:Int) (f:Int) (g:Int) (h:Int) (i:Int) (j:Int) (k:Int) (l:Int) (m:Int) (a:Int) (n:Int→Option ρ) (o:Int→Option ρ) (p:Unit→Option ρ):Option ρ :=
  ifb (ilt a c) (ü b a fun q=>Ã (ŗ ((f,g),(h,i,j),k,l,m) q) fun r=>Ã (pL r (d,e)) fun s=>ifb (ieq s 3) (o a) (ck (a+(1:Int)) fun t=>n t)) (p ())
def Di (c:Val Ä) (g:Val Â) (b:Val Â) (n:Val Í) (k:Val aV→Option ρ):Option ρ :=
  Ã (û c) fun h=>ifb (ine h 0) (ifb (ine h 0) (k (false,h)) (ã (igt b.1 b.2) (k (false,(1:Int))))) (Ò (fun(d:Val aC) o=>rI (Ú ([g])) ([g]) d.1 d.2.1 d.2.2.1 d.2.2.2.1 d.2.2.2.2.1 d.2.2.2.2.2.1 d.2.2.2.2.2.2.1 d.2.2.2.2.2.2.2 (fun p q r s t u v w=>o (p,q,r,s,t,u,v,w)) (fun l=>ifb (ine l.1 0) (k (false,l.1)) (ã (igt b.1 b.2) (k (false,(1:Int))))) (fun e=>Ã (ħ ((e.1,e.2.1),e.2.2)) fun f=>ifb (ine f.2.2 0) (ifb (ine f.2.2 0) (k (false,f.2.2)) (ã (igt b.1 b.2) (k (false,(1:Int))))) (Ã (Ē f.1) fun x=>ifb (!x.1) (k (false,(9:Int))) (ifb (igt b.1 b.2) (k (false,(1:Int))) (Ã (tM (((e.1,e.2.1),e.2.2),f.1) g n) fun a=>ifb (ine a.2 0) (k (false,a.2)) (Ã (iH a.1.2.1) fun y=>Ã (iH a.1.2.2) fun z=>Ã (í ([y,z])) fun A=>Ã (lE b.1) fun i=>Ã (lE b.2) fun j=>Ã (iI a.1.2.1 i) fun B=>ck (0-i) fun C=>Ã (iI a.1.2.2 C) fun D=>Ã (í ([A,B,D])) fun E=>Ã (iI a.1.2.1 j) fun F=>ck (0-j) fun G=>Ã (iI a.1.2.2 G) fun H=>Ã (í ([E,F,H])) fun I=>Ã (jT a.1 I) fun m=>Ò (fun(J:Int) K=>mH m (Ú m) i j a.1.1.1 a.1.1.2 a.1.2.1.1 a.1.2.1.2.1 a.1.2.1.2.2 a.1.2.2.1 a.1.2.2.2.1 a.1.2.2.2.2 J (fun L=>K L) (fun M=>k ((!(ige M 0)),(0:Int))) (fun _=>k (true,(0:Int)))) (0:Int))))))) ((0:Int),c.1.1,c.1.2,c.2.1,c.2.2.1,c.2.2.2.1,c.2.2.2.2.1,c.2.2.2.2.2))
def pN (a:Val Ä) (b:Val Â) (c:Val Â) (d:Val Í):Option ((Val aV)):=Di a b c d some
def KR (d:Int) (c:Int) (e:Val ah) (a:Int) (b:Val aP) (f:Int→Val aP→Option ρ) (g:Val aP→Option ρ):Option ρ :=
  ifb (ilt a d) (Ã (zi (c,e) a c) fun h=>ã ((ile 0 a)&&(ilt a (þ b))) (ĺ b (Int.toNat a) fun j=>ck (a+(1:Int)) fun i=>f i (List.set b (Int.toNat a) h))) (g b)
def KN (g:Int) (h:Val am) (j:Val ah) (k:Int) (e:Int) (b:Int) (a:Int) (c:Val ae) (f:Int→Int→Int→Val ae→Option ρ) (i:(Val (.pair tI ay))→Option ρ):Option ρ :=
  ifb (ilt a k) (ü j a fun d=>ifb (ieq d.1 e) (ck (g-(1:Int)) fun l=>ü h l fun m=>ü m d.2.1 fun n=>ifb (ine n 1152921504606846976) (ck (b+d.2.2) fun o=>ck (g-(1:Int)) fun p=>ü h p fun q=>ü q d.2.1 fun r=>ck (o+r) fun s=>ifb (ilt s 0) (ã (å ((List.length c)+(List.length ([a])))) (ck (b+d.2.2) fun t=>i (d.2.1,t,(c++([a]))))) (ck (a+(1:Int)) fun u=>f e b u c)) (ck (a+(1:Int)) fun v=>f e b v c)) (ck (a+(1:Int)) fun w=>f e b w c)) (i (e,b,c))
def KO (f:Val am) (d:Val ah) (g:Int) (b:Int) (h:Int) (e:Val ae) (i:Int→Int→Int→Val ae→Option ρ) (j:Val ae→Option ρ):Option ρ :=
  ifb (igt b 0) (Ò (fun(a:Val aJ) k=>KN b f d (Ú d) a.1 a.2.1 a.2.2.1 a.2.2.2 (fun l m n o=>k (l,m,n,o)) (fun c=>ck (b-(1:Int)) fun p=>i c.1 p c.2.1 c.2.2)) (g,h,(0:Int),e)) (j e)
def KP (e:Int) (h:Val ah) (i:Int) (j:Int) (k:Val ah) (b:Val aP) (c:Int) (f:Int→Option ρ) (l:Unit→Option ρ) (m:Val ay→Option ρ) (n:Unit→Option ρ):Option ρ :=
  ifb (ilt c i) (ü h c fun a=>ã ((ile 0 a.1)&&(ilt a.1 (þ b))) (ĺ b (Int.toNat a.1) fun o=>ck (e-(1:Int)) fun p=>ü o p fun q=>ü q a.2.1 fun g=>ifb (ieq g 1152921504606846976) (ck (c+(1:Int)) fun r=>f r) (ck (a.2.2+g) fun s=>ifb (ige s 0) (ck (c+(1:Int)) fun t=>f t) (ifb (igt e j) (l ()) (ã ((ile 0 a.1)&&(ilt a.1 (þ b))) (ĺ b (Int.toNat a.1) fun u=>Ò (fun(d:Val aJ) v=>KO u k d.1 d.2.1 d.2.2.1 d.2.2.2 (fun w x y z=>v (w,x,y,z)) (fun A=>m ((0:Int),A))) (a.1,e,(0:Int),[]))))))) (n ())
def KQ (d:Int) (a:Val ah) (e:Val aP) (b:Int) (f:Int→Option ρ) (g:Unit→Option ρ) (h:Val ay→Option ρ):Option ρ :=
  Ò (fun(i:Int) j=>KP b a (Ú a) d a e i (fun k=>j k) (fun _=>g ()) (fun c=>h (c.1,c.2)) (fun _=>ck (b+(1:Int)) fun l=>f l)) (0:Int)
def PK (a:Val Ì) (k:Val aE→Option ρ):Option ρ :=
  Ã (nr a) fun b=>ifb (ine b.1 0) (k ([],b.1)) (Ã (kE a ([])) fun e=>ifb e.2 (k ([],(5:Int))) (ã ((ile 0 a.1)&&(å (Int.toNat a.1))) (Ò (fun(c:(Val (.pair tI aP))) f=>KR (Ú (List.replicate (Int.toNat a.1) ([]:Val am))) a.1 a.2 c.1 c.2 (fun g h=>f (g,h)) (fun i=>Ò (fun(j:Int) l=>KQ a.1 a.2 i j (fun m=>l m) (fun _=>k ([],(5:Int))) (fun d=>k (d.2,d.1))) (1:Int))) ((0:Int),(List.replicate (Int.toNat a.1) ([]:Val am))))))
def zk (a:Val Ì):Option ((Val aE)):=PK a some
def Pv (a:Val Ä) (k:(Val (.pair υ tI))→Option ρ):Option ρ :=
  Ã (ħ a) fun b=>ifb (ine b.2.2 0) (k (((((0:Int),(0:Int)),[],[],[],[],[]),((0:Int),(0:Int)),false,(0:Int),[]),b.2.2)) (Ã (zk b.1) fun c=>ifb (ine c.2 0) (k (((((0:Int),(0:Int)),[],[],[],[],[]),((0:Int),(0:Int)),false,(0:Int),[]),c.2)) (Ã (pM a c.1) fun f=>Ã (QO a f ([])) fun e=>Ã (ħ e) fun g=>Ã (zk g.1) fun d=>ifb (ine d.2 0) (k (((((0:Int),(0:Int)),[],[],[],[],[]),((0:Int),(0:Int)),false,(0:Int),[]),d.2)) (k ((e,((0:Int),(0:Int)),false,(0:Int),d.1),(0:Int)))))
def Hk (a:Val Ä):Option ((Val (.pair υ tI))):=Pv a some
def xq (k:Val Ä→Option ρ):Option ρ :=
  k (((0:Int),(2:Int)),[((1:Int),(0:Int),(1000:Int),((-5:Int),(5:Int)),((1:Int),(10:Int)),(1:Int)),((2:Int),(0:Int),(1000:Int),((-50:Int),(50:Int)),((1:Int),(4:Int)),(0:Int))],[((1:Int),(10:Int))],[((1:Int),((20:Int),(29:Int)),(3:Int))],[((7:Int),(10:Int),[(1:Int)],[(2:Int)],(-20:Int),(1:Int),(100:Int),(200:Int))],[])
def zc:Option (Val Ä):=xq some
def WM (a:Val ae) (b:Int) (k:Bool→Option ρ):Option ρ :=
  Ã (tT a ([])) fun c=>ifb (ieq c.2.2 0) (k (ile (Ú a) b)) (k false)
def Nf (a:Val ae) (b:Int):Option (Bool):=WM a b some
def Pj (a:Int) (k:Bool→Option ρ):Option ρ :=
  ifb (ige a 0) (k (ile a 20000)) (k false)
def Hj (a:Int):Option (Bool):=Pj a some
def qH (c:Int) (e:Val ae) (f:Int) (a:Int) (b:Val aa) (g:Int→Val aa→Option ρ) (h:Val aa→Option ρ):Option ρ :=
  ifb (ilt a f) (ü e a fun d=>ã (å ((List.length b)+(List.length ([(d,c)])))) (ck (a+(1:Int)) fun i=>g i (b++([(d,c)])))) (h b)
def Pe (c:Int) (d:Val am) (k:Val aa→Option ρ):Option ρ :=
  Ã (í d) fun a=>Ò (fun(b:Val aF) e=>qH c a (Ú a) b.1 b.2 (fun f g=>e (f,g)) (fun h=>k h)) ((0:Int),[])
def Hg (a:Int) (b:Val am):Option ((Val aa)):=Pe a b some
def uP (l:Val aa) (m:Int) (i:Int) (b:Int) (c:Int) (d:Val ac) (e:Val aa) (f:Val af) (g:Val ab) (h:Val aa) (j:Int→Int→Int→Val ac→Val aa→Val af→Val ab→Val aa→Option ρ) (n:Val aC→Option ρ) (o:Val ai→Option ρ):Option ρ :=
  ifb (ilt i m) (ü l i fun k=>Ã (Ş ((b,c),d,e,f,g,h) k) fun p=>ifb (ieq p.2 0) (ck (i+(1:Int)) fun q=>j q b c d e f g h) (Ã (jB ((b,c),d,e,f,g,h) k) fun a=>ifb (ine a.2 0) (n (a.2,b,c,d,e,f,g,h)) (ck (i+(1:Int)) fun r=>j r a.1.1.1 a.1.1.2 a.1.2.1 a.1.2.2.1 a.1.2.2.2.1 a.1.2.2.2.2.1 a.1.2.2.2.2.2))) (o (b,c,d,e,f,g,h))
def uO (e:Val ax) (f:Val aa) (g:Int) (a:Int) (b:Int) (c:Int) (h:Int→Int→Int→Option ρ) (i:Val Â→Option ρ):Option ρ :=
  ifb (ilt a g) (ü f a fun j=>Ã (Ŕ e j) fun d=>ck (b+d.1) fun k=>ck (c+d.2) fun l=>ck (a+(1:Int)) fun m=>h m k l) (i (b,c))
def W0 (a:Val Ä) (i:Int) (c:Val ae) (k:Val Ł→Option ρ):Option ρ :=
  Ã (û a) fun j=>ifb (ine j 0) (k (((0:Int),(0:Int)),j)) (ifb (ieq (Ú c) 0) (k (((0:Int),(0:Int)),(1:Int))) (Ã (Nf c (6:Int)) fun q=>ifb (!q) (k (((0:Int),(0:Int)),(1:Int))) (Ã (Hj i) fun r=>ifb (!r) (k (((0:Int),(0:Int)),(1:Int))) (Ã (Hg i ([c])) fun f=>Ã (û a) fun g=>ifb (ine g 0) (ifb (ine g 0) (k (((0:Int),(0:Int)),g)) (ck ((Ú c)-(1:Int)) fun l=>ck (l*a.1.1) fun J=>ck (l*a.1.2) fun K=>none)) (Ò (fun(b:Val aC) s=>uP f (Ú f) b.1 b.2.1 b.2.2.1 b.2.2.2.1 b.2.2.2.2.1 b.2.2.2.2.2.1 b.2.2.2.2.2.2.1 b.2.2.2.2.2.2.2 (fun t u v w x y z A=>s (t,u,v,w,x,y,z,A)) (fun m=>ifb (ine m.1 0) (k (((0:Int),(0:Int)),m.1)) (ck ((Ú c)-(1:Int)) fun n=>ck (n*a.1.1) fun L=>ck (n*a.1.2) fun M=>none)) (fun d=>Ã (ħ ((d.1,d.2.1),d.2.2)) fun e=>ifb (ine e.2.2 0) (ifb (ine e.2.2 0) (k (((0:Int),(0:Int)),e.2.2)) (ck ((Ú c)-(1:Int)) fun o=>ck (o*a.1.1) fun N=>ck (o*a.1.2) fun O=>none)) (Ã (Ē e.1) fun B=>ifb (!B.1) (k (((0:Int),(0:Int)),(9:Int))) (ck ((Ú c)-(1:Int)) fun p=>ck (p*a.1.1) fun C=>ck (p*a.1.2) fun D=>Ò (fun(h:Val ÿ) E=>uO (((d.1,d.2.1),d.2.2),e.1) f (Ú f) h.1 h.2.1 h.2.2 (fun F G H=>E (F,G,H)) (fun I=>k (I,(0:Int)))) ((0:Int),C,D))))) ((0:Int),a.1.1,a.1.2,a.2.1,a.2.2.1,a.2.2.2.1,a.2.2.2.2.1,a.2.2.2.2.2))))))
def Ng (a:Val Ä) (b:Int) (c:Val ae):Option (Val Ł):=W0 a b c some
def rP (a:Val Ì) (b:Val ae) (k:Int→Option ρ):Option ρ :=
  Ã (nr a) fun d=>ifb (ine d.1 0) (k d.1) (Ã (pO a b) fun e=>ifb (ine e 0) (k e) (ifb (ieq (Ú b) 0) (k (8:Int)) (ü b (0:Int) fun g=>ü a.2 g fun f=>Ã (Hl a f.1 b) fun c=>ifb (!c.2.2) (k (8:Int)) (ifb (ine c.1 f.1) (k (8:Int)) (ifb (ige c.2.1 0) (k (8:Int)) (k (0:Int)))))))
def mL (a:Val Ì) (b:Val ae):Option (Int):=rP a b some
def rK (a:Val υ) (k:Int→Option ρ):Option ρ :=
  Ã (û a.1) fun b=>ifb (ine b 0) (k b) (ifb (!((Ŋ a.2.1.1 (0:Int))&&((Ŋ a.2.1.2 (0:Int))&&true))) (k (1:Int)) (ifb a.2.2.1 (k (1:Int)) (ifb (ine a.2.2.2.1 0) (k (1:Int)) (Ã (ħ a.1) fun c=>Ã (mL c.1 a.2.2.2.2) fun d=>ifb (ine d 0) (k (8:Int)) (k (0:Int))))))
def mK (a:Val υ):Option (Int):=rK a some
def ă (c:Val ac) (d:Int) (e:Int) (f:Int) (g:Int) (h:Int) (i:Int) (j:Int) (k:Int) (l:Int) (b:Int) (m:Int→Option ρ) (n:Int→Option ρ) (o:Unit→Option ρ):Option ρ :=
  ifb (ilt b d) (ü c b fun a=>ifb ((Ŋ e a.1)&&((Ŋ f a.2.1)&&((Ŋ g a.2.2.1)&&((Ŋ h a.2.2.2.1.1)&&((Ŋ i a.2.2.2.1.2)&&((Ŋ j a.2.2.2.2.1.1)&&((Ŋ k a.2.2.2.2.1.2)&&((Ŋ l a.2.2.2.2.2)&&true)))))))) (n b) (ck (b+(1:Int)) fun p=>m p)) (o ())
def ũ (b:Val ac) (a:Val Ñ) (k:Int→Option ρ):Option ρ :=
  Ò (fun(c:Int) d=>ă b (Ú b) a.1 a.2.1 a.2.2.1 a.2.2.2.1.1 a.2.2.2.1.2 a.2.2.2.2.1.1 a.2.2.2.2.1.2 a.2.2.2.2.2 c (fun e=>d e) (fun f=>k f) (fun _=>k (-1:Int))) (0:Int)
def ū (a:Val ac) (b:Val Ñ):Option (Int):=ũ a b some
def ŋ (a:Val ac) (b:Val Ñ) (k:Bool→Option ρ):Option ρ :=
  Ã (ū a b) fun c=>k (ige c 0)
def Ġ (a:Val ac) (b:Val Ñ):Option (Bool):=ŋ a b some
def ė (c:Val aa) (d:Int) (e:Int) (f:Int) (a:Int) (g:Int→Option ρ) (h:Int→Option ρ) (i:Unit→Option ρ):Option ρ :=
  ifb (ilt a d) (ü c a fun b=>ifb ((Ŋ e b.1)&&((Ŋ f b.2)&&true)) (h a) (ck (a+(1:Int)) fun j=>g j)) (i ())
def ι (a:Val aa) (b:Val Â) (k:Int→Option ρ):Option ρ :=
  Ò (fun(c:Int) d=>ė a (Ú a) b.1 b.2 c (fun e=>d e) (fun f=>k f) (fun _=>k (-1:Int))) (0:Int)
def ο (a:Val aa) (b:Val Â):Option (Int):=ι a b some
def ŭ (a:Val aa) (b:Val Â) (k:Bool→Option ρ):Option ρ :=
  Ã (ο a b) fun c=>k (ige c 0)
def ę (a:Val aa) (b:Val Â):Option (Bool):=ŭ a b some
def ċ (c:Val af) (d:Int) (e:Int) (f:Int) (g:Int) (h:Int) (a:Int) (i:Int→Option ρ) (j:Int→Option ρ) (k:Unit→Option ρ):Option ρ :=
  ifb (ilt a d) (ü c a fun b=>ifb ((Ŋ e b.1)&&((Ŋ f b.2.1.1)&&((Ŋ g b.2.1.2)&&((Ŋ h b.2.2)&&true)))) (j a) (ck (a+(1:Int)) fun l=>i l)) (k ())
def Ż (b:Val af) (a:Val ō) (k:Int→Option ρ):Option ρ :=
  Ò (fun(c:Int) d=>ċ b (Ú b) a.1 a.2.1.1 a.2.1.2 a.2.2 c (fun e=>d e) (fun f=>k f) (fun _=>k (-1:Int))) (0:Int)
def Ž (a:Val af) (b:Val ō):Option (Int):=Ż a b some
def ś (a:Val af) (b:Val ō) (k:Bool→Option ρ):Option ρ :=
  Ã (Ž a b) fun c=>k (ige c 0)
def Č (a:Val af) (b:Val ō):Option (Bool):=ś a b some
def uH (c:Val ac) (d:Int) (a:Int) (b:Val ak) (e:Int→Val ak→Option ρ) (f:Val ak→Option ρ):Option ρ :=
  ifb (ilt a d) (ü c a fun g=>ck (a+(1:Int)) fun h=>e h (MW (k:=tI) (v:=.bool) g.1 true b)) (f b)
def mj (b:Val ae) (c:Val ae) (d:Int) (a:Int) (e:Int→Option ρ) (f:Bool→Option ρ) (g:Unit→Option ρ):Option ρ :=
  ifb (ilt a d) (ü b a fun h=>ü c a fun i=>ifb (ine h i) (f false) (ck (a+(1:Int)) fun j=>e j)) (g ())
def uG (b:Val ae) (c:Val ae) (d:Int) (a:Int) (e:Int→Option ρ) (f:Bool→Option ρ) (g:Unit→Option ρ):Option ρ :=
  ifb (ilt a d) (ü b a fun h=>ü c a fun i=>ifb (ine h i) (f false) (ck (a+(1:Int)) fun j=>e j)) (g ())
def pr (g:Val ab) (h:Int) (i:Int) (j:Int) (f:Val ae) (d:Val ae) (k:Int) (l:Int) (m:Int) (n:Int) (a:Int) (c:Int→Option ρ) (e:Int→Option ρ) (o:Unit→Option ρ):Option ρ :=
  ifb (ilt a h) (ü g a fun b=>ifb (ieq i b.1) (ifb (ieq j b.2.1) (ifb (ieq k b.2.2.2.2.1) (ifb (ieq l b.2.2.2.2.2.1) (ifb ((Ŋ m b.2.2.2.2.2.2.1)&&((Ŋ n b.2.2.2.2.2.2.2)&&true)) (ifb (ine (Ú f) (Ú b.2.2.1)) (ck (a+(1:Int)) fun p=>c p) (Ò (fun(q:Int) r=>mj f b.2.2.1 (Ú f) q (fun s=>r s) (fun t=>ifb t (ifb (ine (Ú d) (Ú b.2.2.2.1)) (ck (a+(1:Int)) fun u=>c u) (Ò (fun(v:Int) w=>uG d b.2.2.2.1 (Ú d) v (fun x=>w x) (fun y=>ifb y (e a) (ck (a+(1:Int)) fun z=>c z)) (fun _=>e a)) (0:Int))) (ck (a+(1:Int)) fun A=>c A)) (fun _=>ifb (ine (Ú d) (Ú b.2.2.2.1)) (ck (a+(1:Int)) fun B=>c B) (Ò (fun(C:Int) D=>uG d b.2.2.2.1 (Ú d) C (fun E=>D E) (fun F=>ifb F (e a) (ck (a+(1:Int)) fun G=>c G)) (fun _=>e a)) (0:Int)))) (0:Int))) (ck (a+(1:Int)) fun H=>c H)) (ck (a+(1:Int)) fun I=>c I)) (ck (a+(1:Int)) fun J=>c J)) (ck (a+(1:Int)) fun K=>c K)) (ck (a+(1:Int)) fun L=>c L)) (o ())
def pu (e:Val ab) (f:Int) (c:Val ab) (b:Int) (g:Int→Option ρ) (d:Bool→Option ρ) (h:Unit→Option ρ):Option ρ :=
  ifb (ilt b f) (ü e b fun a=>Ò (fun(i:Int) j=>pr c (Ú c) a.1 a.2.1 a.2.2.1 a.2.2.2.1 a.2.2.2.2.1 a.2.2.2.2.2.1 a.2.2.2.2.2.2.1 a.2.2.2.2.2.2.2 i (fun k=>j k) (fun l=>ifb (!(ige l 0)) (d false) (ck (b+(1:Int)) fun m=>g m)) (fun _=>d false)) (0:Int)) (h ())
def pq (b:Val ac) (c:Int) (d:Val ac) (a:Int) (e:Int→Option ρ) (f:Int→Option ρ) (g:Unit→Option ρ):Option ρ :=
  ifb (ilt a c) (ü b a fun h=>Ã (Ġ d h) fun i=>ifb (!i) (f a) (ck (a+(1:Int)) fun j=>e j)) (g ())
def ki (d:Val aa) (e:Int) (f:Val ak) (g:Val aa) (a:Int) (b:Int→Option ρ) (h:Int→Option ρ) (i:Unit→Option ρ):Option ρ :=
  ifb (ilt a e) (ü d a fun c=>YH (k:=tI) (v:=.bool) c.1 f (fun j=>ifb j (Ã (ę g c) fun l=>ifb (!l) (h a) (ck (a+(1:Int)) fun m=>b m)) (ck (a+(1:Int)) fun n=>b n)) (ck (a+(1:Int)) fun o=>b o)) (i ())
def mi (d:Val aa) (e:Int) (f:Val ak) (g:Val aa) (a:Int) (b:Int→Option ρ) (h:Int→Option ρ) (i:Unit→Option ρ):Option ρ :=
  ifb (ilt a e) (ü d a fun c=>YH (k:=tI) (v:=.bool) c.1 f (fun j=>ifb j (Ã (ę g c) fun l=>ifb (!l) (h a) (ck (a+(1:Int)) fun m=>b m)) (ck (a+(1:Int)) fun n=>b n)) (ck (a+(1:Int)) fun o=>b o)) (i ())
def Ń (d:Val af) (e:Int) (f:Val ak) (g:Val af) (a:Int) (b:Int→Option ρ) (h:Int→Option ρ) (i:Unit→Option ρ):Option ρ :=
  ifb (ilt a e) (ü d a fun c=>YH (k:=tI) (v:=.bool) c.1 f (fun j=>ifb j (Ã (Č g c) fun l=>ifb (!l) (h a) (ck (a+(1:Int)) fun m=>b m)) (ck (a+(1:Int)) fun n=>b n)) (ck (a+(1:Int)) fun o=>b o)) (i ())
def ĕ (d:Val af) (e:Int) (f:Val ak) (g:Val af) (a:Int) (b:Int→Option ρ) (h:Int→Option ρ) (i:Unit→Option ρ):Option ρ :=
  ifb (ilt a e) (ü d a fun c=>YH (k:=tI) (v:=.bool) c.1 f (fun j=>ifb j (Ã (Č g c) fun l=>ifb (!l) (h a) (ck (a+(1:Int)) fun m=>b m)) (ck (a+(1:Int)) fun n=>b n)) (ck (a+(1:Int)) fun o=>b o)) (i ())
def WN (b:Val Ä) (a:Val Ä) (k:Bool→Option ρ):Option ρ :=
  Ò (fun(d:(Val (.pair tI ak))) e=>uH b.2.1 (Ú b.2.1) d.1 d.2 (fun f g=>e (f,g)) (fun c=>Ò (fun(h:Int) i=>pu b.2.2.2.2.1 (Ú b.2.2.2.2.1) a.2.2.2.2.1 h (fun j=>i j) (fun l=>k l) (fun _=>ifb ((Ŋ b.1.1 a.1.1)&&((Ŋ b.1.2 a.1.2)&&true)) (Ò (fun(m:Int) n=>pq b.2.1 (Ú b.2.1) a.2.1 m (fun o=>n o) (fun p=>ifb (!(ige p 0)) (Ò (fun(q:Int) r=>ki b.2.2.1 (Ú b.2.2.1) c a.2.2.1 q (fun s=>r s) (fun t=>ifb (!(ige t 0)) (Ò (fun(u:Int) v=>mi a.2.2.1 (Ú a.2.2.1) c b.2.2.1 u (fun w=>v w) (fun x=>ifb (!(ige x 0)) (Ò (fun(y:Int) z=>Ń b.2.2.2.1 (Ú b.2.2.2.1) c a.2.2.2.1 y (fun A=>z A) (fun B=>ifb (!(ige B 0)) (Ò (fun(C:Int) D=>ĕ a.2.2.2.1 (Ú a.2.2.2.1) c b.2.2.2.1 C (fun E=>D E) (fun F=>k (!(ige F 0))) (fun _=>k true)) (0:Int)) (k false)) (fun _=>Ò (fun(G:Int) H=>ĕ a.2.2.2.1 (Ú a.2.2.2.1) c b.2.2.2.1 G (fun I=>H I) (fun J=>k (!(ige J 0))) (fun _=>k true)) (0:Int))) (0:Int)) (k false)) (fun _=>Ò (fun(K:Int) L=>Ń b.2.2.2.1 (Ú b.2.2.2.1) c a.2.2.2.1 K (fun M=>L M) (fun N=>ifb (!(ige N 0)) (Ò (fun(O:Int) P=>ĕ a.2.2.2.1 (Ú a.2.2.2.1) c b.2.2.2.1 O (fun Q=>P Q) (fun R=>k (!(ige R 0))) (fun _=>k true)) (0:Int)) (k false)) (fun _=>Ò (fun(S:Int) T=>ĕ a.2.2.2.1 (Ú a.2.2.2.1) c b.2.2.2.1 S (fun U=>T U) (fun V=>k (!(ige V 0))) (fun _=>k true)) (0:Int))) (0:Int))) (0:Int)) (k false)) (fun _=>Ò (fun(W:Int) X=>mi a.2.2.1 (Ú a.2.2.1) c b.2.2.1 W (fun Y=>X Y) (fun Z=>ifb (!(ige Z 0)) (Ò (fun(dc:Int) df=>Ń b.2.2.2.1 (Ú b.2.2.2.1) c a.2.2.2.1 dc (fun dg=>df dg) (fun dh=>ifb (!(ige dh 0)) (Ò (fun(di:Int) dj=>ĕ a.2.2.2.1 (Ú a.2.2.2.1) c b.2.2.2.1 di (fun dk=>dj dk) (fun dl=>k (!(ige dl 0))) (fun _=>k true)) (0:Int)) (k false)) (fun _=>Ò (fun(dm:Int) dn=>ĕ a.2.2.2.1 (Ú a.2.2.2.1) c b.2.2.2.1 dm (fun dt=>dn dt) (fun du=>k (!(ige du 0))) (fun _=>k true)) (0:Int))) (0:Int)) (k false)) (fun _=>Ò (fun(dv:Int) dw=>Ń b.2.2.2.1 (Ú b.2.2.2.1) c a.2.2.2.1 dv (fun dz=>dw dz) (fun d8=>ifb (!(ige d8 0)) (Ò (fun(d9:Int) ee=>ĕ a.2.2.2.1 (Ú a.2.2.2.1) c b.2.2.2.1 d9 (fun eh=>ee eh) (fun ej=>k (!(ige ej 0))) (fun _=>k true)) (0:Int)) (k false)) (fun _=>Ò (fun(eo:Int) er=>ĕ a.2.2.2.1 (Ú a.2.2.2.1) c b.2.2.2.1 eo (fun ew=>er ew) (fun ez=>k (!(ige ez 0))) (fun _=>k true)) (0:Int))) (0:Int))) (0:Int))) (0:Int)) (k false)) (fun _=>Ò (fun(fc:Int) fe=>ki b.2.2.1 (Ú b.2.2.1) c a.2.2.1 fc (fun ff=>fe ff) (fun fg=>ifb (!(ige fg 0)) (Ò (fun(fh:Int) fi=>mi a.2.2.1 (Ú a.2.2.1) c b.2.2.1 fh (fun fj=>fi fj) (fun fk=>ifb (!(ige fk 0)) (Ò (fun(fm:Int) fo=>Ń b.2.2.2.1 (Ú b.2.2.2.1) c a.2.2.2.1 fm (fun fp=>fo fp) (fun fq=>ifb (!(ige fq 0)) (Ò (fun(ft:Int) fu=>ĕ a.2.2.2.1 (Ú a.2.2.2.1) c b.2.2.2.1 ft (fun f0=>fu f0) (fun f6=>k (!(ige f6 0))) (fun _=>k true)) (0:Int)) (k false)) (fun _=>Ò (fun(f7:Int) f8=>ĕ a.2.2.2.1 (Ú a.2.2.2.1) c b.2.2.2.1 f7 (fun f9=>f8 f9) (fun gc=>k (!(ige gc 0))) (fun _=>k true)) (0:Int))) (0:Int)) (k false)) (fun _=>Ò (fun(gd:Int) gg=>Ń b.2.2.2.1 (Ú b.2.2.2.1) c a.2.2.2.1 gd (fun gh=>gg gh) (fun gi=>ifb (!(ige gi 0)) (Ò (fun(gj:Int) gk=>ĕ a.2.2.2.1 (Ú a.2.2.2.1) c b.2.2.2.1 gj (fun gn=>gk gn) (fun gp=>k (!(ige gp 0))) (fun _=>k true)) (0:Int)) (k false)) (fun _=>Ò (fun(gq:Int) gr=>ĕ a.2.2.2.1 (Ú a.2.2.2.1) c b.2.2.2.1 gq (fun gu=>gr gu) (fun gw=>k (!(ige gw 0))) (fun _=>k true)) (0:Int))) (0:Int))) (0:Int)) (k false)) (fun _=>Ò (fun(gx:Int) gy=>mi a.2.2.1 (Ú a.2.2.1) c b.2.2.1 gx (fun g8=>gy g8) (fun g9=>ifb (!(ige g9 0)) (Ò (fun(ic:Int) ig=>Ń b.2.2.2.1 (Ú b.2.2.2.1) c a.2.2.2.1 ic (fun ii=>ig ii) (fun ij=>ifb (!(ige ij 0)) (Ò (fun(ik:Int) il=>ĕ a.2.2.2.1 (Ú a.2.2.2.1) c b.2.2.2.1 ik (fun ip=>il ip) (fun iq=>k (!(ige iq 0))) (fun _=>k true)) (0:Int)) (k false)) (fun _=>Ò (fun(ir:Int) iu=>ĕ a.2.2.2.1 (Ú a.2.2.2.1) c b.2.2.2.1 ir (fun iv=>iu iv) (fun iw=>k (!(ige iw 0))) (fun _=>k true)) (0:Int))) (0:Int)) (k false)) (fun _=>Ò (fun(ix:Int) iy=>Ń b.2.2.2.1 (Ú b.2.2.2.1) c a.2.2.2.1 ix (fun iz=>iy iz) (fun i5=>ifb (!(ige i5 0)) (Ò (fun(i6:Int) i7=>ĕ a.2.2.2.1 (Ú a.2.2.2.1) c b.2.2.2.1 i6 (fun i8=>i7 i8) (fun i9=>k (!(ige i9 0))) (fun _=>k true)) (0:Int)) (k false)) (fun _=>Ò (fun(ja:Int) jb=>ĕ a.2.2.2.1 (Ú a.2.2.2.1) c b.2.2.2.1 ja (fun jc=>jb jc) (fun jd=>k (!(ige jd 0))) (fun _=>k true)) (0:Int))) (0:Int))) (0:Int))) (0:Int))) (0:Int)) (k false))) (0:Int))) ((0:Int),[])
def Hf (a:Val Ä) (b:Val Ä):Option (Bool):=WN a b some
def IT (b:Val Ä) (a:Val υ) (k:Val aV→Option ρ):Option ρ :=
  Ã (û b) fun c=>ifb (ine c 0) (k (false,c)) (ifb ((Ŋ a.2.1.1 (0:Int))&&((Ŋ a.2.1.2 (0:Int))&&true)) (Ã (mK a) fun d=>ifb (ine d 0) (k (false,d)) (Ã (Hf a.1 b) fun f=>k (f,(0:Int)))) (Ã (lF a) fun e=>ifb (ine e 0) (k (false,e)) (Ã (Hf a.1 b) fun g=>k (g,(0:Int)))))
def Ak (a:Val Ä) (b:Val υ):Option ((Val aV)):=IT a b some
def CM (k:Bool→Option ρ):Option ρ :=
  Ã zc fun a=>Ã (nq a ((2:Int),(10:Int))) fun c=>Ã (nq a ((1:Int),(30:Int))) fun d=>Ã (vM a ((1:Int),(10:Int)) ((2:Int),(10:Int))) fun e=>Ã (Ng a (10:Int) ([(1:Int),(2:Int)])) fun f=>Ã (zh a ((2:Int),(0:Int)) ((990:Int),(1010:Int))) fun g=>Ã (vL a ((2:Int),(10:Int)) true) fun b=>ifb (ine c.2 0) (k false) (ifb (ine d.2 0) (k false) (ifb (ine e.2 0) (k false) (ifb (ine f.2 0) (k false) (ifb (ine g.2 0) (k false) (ifb (ine b.2 0) (k false) (ifb (!((Ŋ c.1.1 (984:Int))&&((Ŋ c.1.2 (1011:Int))&&true))) (k false) (ifb (!((Ŋ d.1.1 (964:Int))&&((Ŋ d.1.2 (1005:Int))&&true))) (k false) (ifb (!((Ŋ e.1.1 (-6:Int))&&((Ŋ e.1.2 (11:Int))&&true))) (k false) (ifb (!((Ŋ f.1.1 (1979:Int))&&((Ŋ f.1.2 (2018:Int))&&true))) (k false) (ifb (ine g.1 3) (k false) (ifb (ine b.1.2.2.2.1 1011) (k false) (Ã (zf a ((2:Int),(10:Int)) ((8:Int),(10:Int),[(1:Int)],[(2:Int)],(0:Int),(0:Int),(0:Int),(0:Int))) fun h=>Ã (pN a ((2:Int),(10:Int)) ((900:Int),(1100:Int)) ((8:Int),(10:Int),[(1:Int)],[(2:Int)],(0:Int),(0:Int),(0:Int),(0:Int))) fun i=>Ã (Ak a b.1) fun j=>Ã (Hk a) fun l=>ifb (ieq h.2 0) (ifb (ieq i.2 0) (ifb (ieq j.2 0) (ifb (ieq l.2 5) (ifb (ieq h.1 10) (ifb i.1 (ifb j.1 (Ã (lF b.1) fun m=>k (ieq m 0)) (k false)) (k false)) (k false)) (k false)) (k false)) (k false)) (k false)))))))))))))
def ā:Option (Bool):=CM some
def xv (a:Val Â) (b:Int) (c:Int) (k:Bool→Option ρ):Option ρ :=
  ifb (ile b a.1) (ifb (ile a.1 a.2) (k (ile a.2 c)) (k false)) (k false)
def jj (a:Val Â) (b:Int) (c:Int):Option (Bool):=xv a b c some
def ac2 (a:Int) (b:Int) (c:Int) (k:Bool→Option ρ):Option ρ :=
  ifb (ige a b) (k (ile a c)) (k false)
def lz (a:Int) (b:Int) (c:Int):Option (Bool):=ac2 a b c some
def Wv (a:Int) (k:Bool→Option ρ):Option ρ :=
  Ã (lz a (0:Int) (20000:Int)) fun b=>k b
def vH (a:Int):Option (Bool):=Wv a some
def uD (b:Int) (a:Int) (c:Int→Int→Option ρ) (d:Int→Option ρ):Option ρ :=
  ifb (ine a 0) (ifb (Ŋ a 0) (none) (c a (Int.tmod b a))) (d b)
def WG (b:Int) (c:Int) (k:Int→Option ρ):Option ρ :=
  Ò (fun(a:Val Â) d=>uD a.1 a.2 (fun e f=>d (e,f)) (fun g=>k g)) (b,c)
def Ai (a:Int) (b:Int):Option (Int):=WG a b some
def WL (a:Int) (k:Int→Option ρ):Option ρ :=
  ifb (ilt a 0) (ck ((0:Int)-a) fun b=>k b) (k a)
def He (a:Int):Option (Int):=WL a some
def Iz (a:Val Â) (k:Bool→Option ρ):Option ρ :=
  ifb (ilt a.2 1) (k false) (ifb (igt a.2 2147483647) (k false) (ifb (ilt a.1 (-2147483647:Int)) (k false) (ifb (igt a.1 2147483647) (k false) (Ã (He a.1) fun b=>Ã (Ai b a.2) fun c=>k (ieq c 1)))))
def Ag (a:Val Â):Option (Bool):=Iz a some
def Im (a:Val Ñ) (k:Bool→Option ρ):Option ρ :=
  Ã (Ag a.2.2.2.2.1) fun b=>ifb (!b) (k false) (Ã (lz a.2.2.2.2.1.1 (-1000:Int) (1000:Int)) fun c=>ifb (!c) (k false) (ifb (igt a.2.2.2.2.1.2 100) (k false) (Ã (lz a.1 (1:Int) (1099511627776:Int)) fun d=>ifb d (Ã (vH a.2.1) fun e=>ifb e (Ã (lz a.2.2.1 (1:Int) (1125899906842624:Int)) fun f=>ifb f (Ã (jj a.2.2.2.1 (-1073741824:Int) (1073741824:Int)) fun g=>ifb g (Ã (lz a.2.2.2.2.2 (0:Int) (1048576:Int)) fun h=>k h) (k false)) (k false)) (k false)) (k false))))
def Ae (a:Val Ñ):Option (Bool):=Im a some
def qz (c:Int) (b:Val ac) (a:Int) (d:Int→Option ρ) (e:Int→Option ρ) (f:Unit→Option ρ):Option ρ :=
  ifb (ilt a (Ú b)) (ü b a fun g=>ifb (ieq g.1 c) (e a) (ck (a+(1:Int)) fun h=>d h)) (f ())
def OQ (a:Val Ä) (b:Int) (k:Int→Option ρ):Option ρ :=
  Ò (fun(c:Int) d=>qz b a.2.1 c (fun e=>d e) (fun f=>k f) (fun _=>k (-1:Int))) (0:Int)
def pJ (a:Val Ä) (b:Int):Option (Int):=OQ a b some
def Ip (a:Val Ä) (c:Int) (d:Int) (k:Int→Option ρ):Option ρ :=
  Ã (pJ a c) fun b=>ifb (ilt b 0) (k (5:Int)) (ü a.2.1 b fun e=>ifb (ilt d e.2.1) (k (4:Int)) (k (0:Int)))
def mq (a:Val Ä) (b:Int) (c:Int):Option (Int):=Ip a b c some
def qo (e:Int) (f:Int) (g:Val ac) (a:Val aa) (h:Val af) (i:Val ab) (j:Val aa) (b:Int) (k:Int→Option ρ) (c:Int→Option ρ) (l:Unit→Option ρ):Option ρ :=
  ifb (ilt b (Ú a)) (ü a b fun m=>Ã (vH m.2) fun n=>ifb (!n) (c (1:Int)) (ü a b fun o=>ü a b fun p=>Ã (mq ((e,f),g,a,h,i,j) o.1 p.2) fun d=>ifb (ine d 0) (c d) (ck (b+(1:Int)) fun q=>k q))) (l ())
def Og (a:Val Ä) (k:Int→Option ρ):Option ρ :=
  Ò (fun(b:Int) c=>qo a.1.1 a.1.2 a.2.1 a.2.2.1 a.2.2.2.1 a.2.2.2.2.1 a.2.2.2.2.2 b (fun d=>c d) (fun e=>k e) (fun _=>k (0:Int))) (0:Int)
def G8 (a:Val Ä):Option (Int):=Og a some
def od (d:Int) (b:Val af) (e:Int) (f:Int) (g:Int) (a:Int) (c:Int→Option ρ) (h:Int→Option ρ) (i:Unit→Option ρ):Option ρ :=
  ifb (ilt a d) (ü b a fun j=>ifb (ieq j.1 e) (ü b a fun k=>ifb (ile k.2.1.1 g) (ü b a fun l=>ifb (ile f l.2.1.2) (h (9:Int)) (ck (a+(1:Int)) fun m=>c m)) (ck (a+(1:Int)) fun n=>c n)) (ck (a+(1:Int)) fun o=>c o)) (i ())
def kY (b:Val aa) (d:Int) (e:Int) (f:Int) (a:Int) (c:Int→Option ρ) (g:Int→Option ρ) (h:Unit→Option ρ):Option ρ :=
  ifb (ilt a (Ú b)) (ü b a fun i=>ifb (ieq i.1 d) (ü b a fun j=>Ã (lz j.2 e f) fun k=>ifb k (g (9:Int)) (ck (a+(1:Int)) fun l=>c l)) (ck (a+(1:Int)) fun m=>c m)) (h ())
def oe (g:Int) (h:Int) (i:Val ac) (e:Val aa) (c:Val af) (j:Val ab) (k:Val aa) (d:Int) (l:Int→Option ρ) (b:Int→Option ρ) (m:Unit→Option ρ):Option ρ :=
  ifb (ilt d (Ú c)) (ü c d fun a=>Ã (jj a.2.1 (0:Int) (20000:Int)) fun n=>ifb (!n) (b (1:Int)) (Ã (lz a.2.2 (0:Int) (1048576:Int)) fun o=>ifb (!o) (b (1:Int)) (Ã (mq ((g,h),i,e,c,j,k) a.1 a.2.1.1) fun f=>ifb (ine f 0) (b f) (Ò (fun(p:Int) q=>od d c a.1 a.2.1.1 a.2.1.2 p (fun r=>q r) (fun s=>b s) (fun _=>Ò (fun(t:Int) u=>kY e a.1 a.2.1.1 a.2.1.2 t (fun v=>u v) (fun w=>b w) (fun _=>ck (d+(1:Int)) fun x=>l x)) (0:Int))) (0:Int))))) (m ())
def Ik (a:Val Ä) (k:Int→Option ρ):Option ρ :=
  Ò (fun(b:Int) c=>oe a.1.1 a.1.2 a.2.1 a.2.2.1 a.2.2.2.1 a.2.2.2.2.1 a.2.2.2.2.2 b (fun d=>c d) (fun e=>k e) (fun _=>k (0:Int))) (0:Int)
def Ad (a:Val Ä):Option (Int):=Ik a some
def qv (b:Val ae) (a:Int) (c:Int→Option ρ) (d:Bool→Option ρ) (e:Unit→Option ρ):Option ρ :=
  ifb (ilt a (Ú b)) (ü b a fun f=>Ã (lz f (1:Int) (1099511627776:Int)) fun g=>ifb (!g) (d false) (ifb (igt a 0) (ü b a fun h=>ck (a-(1:Int)) fun i=>ü b i fun j=>ifb (ile h j) (d false) (ck (a+(1:Int)) fun k=>c k)) (ck (a+(1:Int)) fun l=>c l))) (e ())
def Oy (a:Val ae) (k:Bool→Option ρ):Option ρ :=
  Ò (fun(b:Int) c=>qv a b (fun d=>c d) (fun e=>k e) (fun _=>k (ile (Ú a) 6))) (0:Int)
def zd (a:Val ae):Option (Bool):=Oy a some
def Ij (a:Val Í) (k:Bool→Option ρ):Option ρ :=
  Ã (zd a.2.2.1) fun b=>Ã (zd a.2.2.2.1) fun c=>ifb b (ifb c (Ã (lz a.1 (1:Int) (1099511627776:Int)) fun d=>ifb d (Ã (vH a.2.1) fun e=>ifb e (Ã (lz a.2.2.2.2.1 (-1125899906842624:Int) (1125899906842624:Int)) fun f=>ifb f (Ã (lz a.2.2.2.2.2.1 (0:Int) (1073741824:Int)) fun g=>ifb g (Ã (jj a.2.2.2.2.2.2 (-10000:Int) (10000:Int)) fun h=>k h) (k false)) (k false)) (k false)) (k false)) (k false)) (k false)
def Ac (a:Val Í):Option (Bool):=Ij a some
def qx (j:Int) (h:Int) (i:Val af) (b:Int) (c:Int) (d:Int) (e:Int) (f:Int) (g:Int→Int→Int→Int→Int→Option ρ) (k:(Val (.pair .bool (.pair tI ÿ)))→Option ρ) (l:(Val (.pair tI ÿ))→Option ρ):Option ρ :=
  ifb (ilt b (Ú i)) (ü i b fun a=>ifb (ieq a.1 j) (ifb (ile a.2.1.1 h) (ifb (ile h a.2.1.2) (k (true,a.1,a.2.1.1,a.2.1.2,a.2.2)) (ck (b+(1:Int)) fun m=>g m c d e f)) (ck (b+(1:Int)) fun n=>g n c d e f)) (ck (b+(1:Int)) fun o=>g o c d e f)) (l (c,d,e,f))
def OI (c:Val Ä) (d:Int) (e:Int) (k:Val bf→Option ρ):Option ρ :=
  Ò (fun(a:Val bh) f=>qx d e c.2.2.2.1 a.1 a.2.1 a.2.2.1 a.2.2.2.1 a.2.2.2.2 (fun g h i j l=>f (g,h,i,j,l)) (fun b=>k ((b.2.1,(b.2.2.1,b.2.2.2.1),b.2.2.2.2),b.1)) (fun m=>k (((0:Int),((0:Int),(0:Int)),(0:Int)),false))) ((0:Int),(0:Int),(0:Int),(0:Int),(0:Int))
def ze (a:Val Ä) (b:Int) (c:Int):Option ((Val bf)):=OI a b c some
def uB (b:Val ae) (c:Int) (a:Int) (d:Int→Option ρ) (e:Bool→Option ρ) (f:Unit→Option ρ):Option ρ :=
  ifb (ilt a (Ú b)) (ü b a fun g=>ifb (ieq g c) (e true) (ck (a+(1:Int)) fun h=>d h)) (f ())
def Ws (a:Val ae) (b:Int) (k:Bool→Option ρ):Option ρ :=
  Ò (fun(c:Int) d=>uB a b c (fun e=>d e) (fun f=>k f) (fun _=>k false)) (0:Int)
def Nb (a:Val ae) (b:Int):Option (Bool):=Ws a b some
def qy (c:Val ae) (f:Val ae) (a:Int) (b:Val ae) (d:Int→Val ae→Option ρ) (g:Val ae→Option ρ):Option ρ :=
  ifb (ilt a (Ú c)) (ü c a fun h=>Ã (Nb f h) fun i=>ifb (!i) (ü c a fun e=>ã (å ((List.length b)+(List.length ([e])))) (ck (a+(1:Int)) fun j=>d j (b++([e])))) (ck (a+(1:Int)) fun k=>d k b)) (g b)
def OK (b:Val ae) (c:Val ae) (k:Val ae→Option ρ):Option ρ :=
  Ò (fun(a:Val ay) d=>qy b c a.1 a.2 (fun e f=>d (e,f)) (fun g=>k g)) ((0:Int),[])
def jS (a:Val ae) (b:Val ae):Option ((Val ae)):=OK a b some
def j3 (c:Int) (d:Int) (e:Val ac) (f:Val aa) (g:Val af) (h:Val ab) (i:Val aa) (b:Val ae) (a:Int) (j:Int→Option ρ) (k:Int→Option ρ) (l:Unit→Option ρ):Option ρ :=
  ifb (ilt a (Ú b)) (ã ((ile 0 a)&&(ilt a (þ b))) (ĺ b (Int.toNat a) fun m=>Ã (pJ ((c,d),e,f,g,h,i) m) fun n=>ifb (ilt n 0) (k (5:Int)) (ck (a+(1:Int)) fun o=>j o))) (l ())
def iP (c:Int) (d:Int) (e:Val ac) (f:Val aa) (g:Val af) (h:Val ab) (i:Val aa) (j:Int) (b:Val ae) (a:Int) (k:Int→Option ρ) (l:Int→Option ρ) (m:Unit→Option ρ):Option ρ :=
  ifb (ilt a (Ú b)) (ã ((ile 0 a)&&(ilt a (þ b))) (ĺ b (Int.toNat a) fun n=>Ã (mq ((c,d),e,f,g,h,i) n j) fun o=>ifb (ine o 0) (l (4:Int)) (ck (a+(1:Int)) fun p=>k p))) (m ())
def Μ (c:Int) (d:Int) (e:Val ac) (f:Val aa) (g:Val af) (h:Val ab) (i:Val aa) (j:Int) (b:Val ae) (a:Int) (k:Int→Option ρ) (l:Int→Option ρ) (m:Unit→Option ρ):Option ρ :=
  ifb (ilt a (Ú b)) (ã ((ile 0 a)&&(ilt a (þ b))) (ĺ b (Int.toNat a) fun n=>Ã (ze ((c,d),e,f,g,h,i) n j) fun o=>ifb o.2 (l (9:Int)) (ck (a+(1:Int)) fun p=>k p))) (m ())
def ut (a:Val Ä) (b:Val Í) (k:Int→Option ρ):Option ρ :=
  ã (å (0+(List.length b.2.2.1))) (ã (å ((List.length (([])++b.2.2.1))+(List.length b.2.2.2.1))) (Ò (fun(e:Int) f=>j3 a.1.1 a.1.2 a.2.1 a.2.2.1 a.2.2.2.1 a.2.2.2.2.1 a.2.2.2.2.2 ((([])++b.2.2.1)++b.2.2.2.1) e (fun g=>f g) (fun h=>k h) (fun _=>Ò (fun(i:Int) j=>iP a.1.1 a.1.2 a.2.1 a.2.2.1 a.2.2.2.1 a.2.2.2.2.1 a.2.2.2.2.2 b.2.1 ((([])++b.2.2.1)++b.2.2.2.1) i (fun l=>j l) (fun m=>k m) (fun _=>Ò (fun(n:Int) o=>Μ a.1.1 a.1.2 a.2.1 a.2.2.1 a.2.2.2.1 a.2.2.2.2.1 a.2.2.2.2.2 b.2.1 ((([])++b.2.2.1)++b.2.2.2.1) n (fun p=>o p) (fun q=>k q) (fun _=>Ã (jS b.2.2.1 b.2.2.2.1) fun c=>Ã (jS b.2.2.2.1 b.2.2.1) fun d=>ifb (igt (Ú c) 1) (k (1:Int)) (ifb (igt (Ú d) 1) (k (1:Int)) (ck ((Ú c)+(Ú d)) fun r=>ifb (ieq r 0) (k (1:Int)) (k (0:Int)))))) (0:Int))) (0:Int))) (0:Int)))
def jz (a:Val Ä) (b:Val Í):Option (Int):=ut a b some
def V5 (b:Val ae) (c:Val ae) (k:Int→Option ρ):Option ρ :=
  Ã (jS b c) fun a=>ifb (ieq (Ú a) 0) (k (0:Int)) (ü a (0:Int) fun d=>k d)
def oz (a:Val ae) (b:Val ae):Option (Int):=V5 a b some
def qt (g:Int) (c:Val ab) (d:Int) (b:Int) (e:Int→Option ρ) (f:Bool→Option ρ) (h:Unit→Option ρ):Option ρ :=
  ifb (ilt b (Ú c)) (ü c b fun a=>ifb (ieq a.2.1 g) (Ã (oz a.2.2.1 a.2.2.2.1) fun i=>ifb (ieq i d) (f true) (Ã (oz a.2.2.2.1 a.2.2.1) fun j=>ifb (ieq j d) (f true) (ck (b+(1:Int)) fun k=>e k))) (ck (b+(1:Int)) fun l=>e l)) (h ())
def mX (d:Int) (b:Val aa) (e:Int) (a:Int) (c:Int→Option ρ) (f:Bool→Option ρ) (g:Unit→Option ρ):Option ρ :=
  ifb (ilt a (Ú b)) (ü b a fun h=>ifb (ieq h.1 e) (ü b a fun i=>ifb (ieq i.2 d) (f true) (ck (a+(1:Int)) fun j=>c j)) (ck (a+(1:Int)) fun k=>c k)) (g ())
def Oo (c:Val Ä) (a:Val Ñ) (b:Int) (k:Bool→Option ρ):Option ρ :=
  ifb (ieq a.2.1 b) (k true) (Ò (fun(d:Int) e=>qt b c.2.2.2.2.1 a.1 d (fun f=>e f) (fun g=>k g) (fun _=>Ò (fun(h:Int) i=>mX b c.2.2.2.2.2 a.1 h (fun j=>i j) (fun l=>k l) (fun _=>k false)) (0:Int))) (0:Int))
def G9 (a:Val Ä) (b:Val Ñ) (c:Int):Option (Bool):=Oo a b c some
def oj (c:Val ac) (a:Int) (b:Val ae) (e:Int→Val ae→Option ρ) (f:Val ae→Option ρ):Option ρ :=
  ifb (ilt a (Ú c)) (ü c a fun d=>ã (å ((List.length b)+(List.length ([d.2.1])))) (ck (a+(1:Int)) fun g=>e g (b++([d.2.1])))) (f b)
def oi (c:Val ab) (a:Int) (b:Val ae) (e:Int→Val ae→Option ρ) (f:Val ae→Option ρ):Option ρ :=
  ifb (ilt a (Ú c)) (ü c a fun d=>ã (å ((List.length b)+(List.length ([d.2.1])))) (ck (a+(1:Int)) fun g=>e g (b++([d.2.1])))) (f b)
def oh (c:Val aa) (a:Int) (b:Val ae) (e:Int→Val ae→Option ρ) (f:Val ae→Option ρ):Option ρ :=
  ifb (ilt a (Ú c)) (ü c a fun d=>ã (å ((List.length b)+(List.length ([d.2])))) (ck (a+(1:Int)) fun g=>e g (b++([d.2])))) (f b)
def kZ (e:Int) (b:Val ae) (c:Int) (a:Int) (d:Int→Int→Option ρ) (f:Int→Option ρ):Option ρ :=
  ifb (ilt a (Ú b)) (ã ((ile 0 a)&&(ilt a (þ b))) (ĺ b (Int.toNat a) fun g=>ifb (igt g e) (ã ((ile 0 a)&&(ilt a (þ b))) (ĺ b (Int.toNat a) fun h=>ck (a+(1:Int)) fun i=>d (UP c h) i)) (ck (a+(1:Int)) fun j=>d c j))) (f c)
def la (e:Int) (i:Int) (j:Int) (c:Val ac) (k:Val aa) (l:Val af) (m:Val ab) (n:Val aa) (o:Val ae) (f:Int) (b:Val aa) (d:Int→Val aa→Option ρ) (p:Val aa→Option ρ):Option ρ :=
  ifb (ilt f 20001) (Ò (fun(g:Val Â) q=>kZ f o g.1 g.2 (fun r s=>q (r,s)) (fun a=>ifb (ilt a 20001) (ü c e fun t=>Ã (G9 ((i,j),c,k,l,m,n) t a) fun u=>ifb u (ü c e fun h=>ã (å ((List.length b)+(List.length ([(h.1,a)])))) (d a (b++([(h.1,a)])))) (d a b)) (d a b))) ((20001:Int),(0:Int))) (p b)
def og (e:Int) (f:Int) (b:Val ac) (g:Val aa) (h:Val af) (i:Val ab) (j:Val aa) (k:Val ae) (a:Int) (c:Val aa) (l:Int→Val aa→Option ρ) (m:Val aa→Option ρ):Option ρ :=
  ifb (ilt a (Ú b)) (Ò (fun(d:Val aF) n=>la a e f b g h i j k d.1 d.2 (fun o p=>n (o,p)) (fun q=>ck (a+(1:Int)) fun r=>l r q)) ((-1:Int),c)) (m c)
def Iq (a:Val Ä) (k:Val aa→Option ρ):Option ρ :=
  Ò (fun(b:Val ay) f=>oj a.2.1 b.1 b.2 (fun g h=>f (g,h)) (fun i=>Ò (fun(c:Val ay) j=>oi a.2.2.2.2.1 c.1 c.2 (fun l m=>j (l,m)) (fun n=>Ò (fun(d:Val ay) o=>oh a.2.2.2.2.2 d.1 d.2 (fun p q=>o (p,q)) (fun r=>Ò (fun(e:Val aF) s=>og a.1.1 a.1.2 a.2.1 a.2.2.1 a.2.2.2.1 a.2.2.2.2.1 a.2.2.2.2.2 r e.1 e.2 (fun t u=>s (t,u)) (fun v=>k v)) ((0:Int),[]))) ((0:Int),n))) ((0:Int),i))) ((0:Int),[])
def jA (a:Val Ä):Option ((Val aa)):=Iq a some
def ol (b:Val aa) (d:Int) (e:Int) (a:Int) (f:Int→Option ρ) (g:Int→Option ρ) (h:Unit→Option ρ):Option ρ :=
  ifb (ilt a (Ú b)) (ü b a fun c=>ifb ((Ŋ c.1 d)&&((Ŋ c.2 e)&&true)) (ck (a+(1:Int)) fun i=>g i) (ck (a+(1:Int)) fun j=>f j)) (h ())
def Ir (b:Val Ä) (a:Val Â) (k:Int→Option ρ):Option ρ :=
  Ã (jA b) fun c=>Ò (fun(d:Int) e=>ol c a.1 a.2 d (fun f=>e f) (fun g=>k g) (fun _=>k (0:Int))) (0:Int)
def œ (a:Val Ä) (b:Val Â):Option (Int):=Ir a b some
def qu (d:Int) (e:Int) (b:Val aa) (a:Int) (c:Int→Option ρ) (f:Bool→Option ρ) (g:Unit→Option ρ):Option ρ :=
  ifb (ilt a (Ú b)) (ü b a fun h=>ifb (ieq h.1 d) (ü b a fun i=>ifb (ieq i.2 e) (f true) (ck (a+(1:Int)) fun j=>c j)) (ck (a+(1:Int)) fun k=>c k)) (g ())
def Ot (a:Val Ä) (b:Int) (c:Int) (k:Bool→Option ρ):Option ρ :=
  Ò (fun(d:Int) e=>qu b c a.2.2.1 d (fun f=>e f) (fun g=>k g) (fun _=>k false)) (0:Int)
def Ha (a:Val Ä) (b:Int) (c:Int):Option (Bool):=Ot a b c some
def qw (d:Int) (m:Int) (n:Int) (e:Int) (f:Int) (g:Val ac) (h:Val aa) (i:Val af) (j:Val ab) (k:Val aa) (b:Int) (a:Int) (c:Int→Int→Option ρ) (o:Int→Option ρ):Option ρ :=
  ifb (ilt a m) (Ã (ze ((e,f),g,h,i,j,k) d a) fun l=>ifb l.2 (ck (b+l.1.2.2) fun p=>ck (a+(1:Int)) fun q=>c p q) (Ã (Ha ((e,f),g,h,i,j,k) d a) fun r=>ifb r (ck (b+n) fun s=>ck (a+(1:Int)) fun t=>c s t) (ck (a+(1:Int)) fun u=>c b u))) (o b)
def OD (a:Val Ä) (b:Int) (d:Int) (e:Int) (k:Int→Option ρ):Option ρ :=
  Ã (pJ a b) fun f=>ü a.2.1 f fun g=>Ò (fun(c:Val Â) h=>qw b e g.2.2.2.2.2 a.1.1 a.1.2 a.2.1 a.2.2.1 a.2.2.2.1 a.2.2.2.2.1 a.2.2.2.2.2 c.1 c.2 (fun i j=>h (i,j)) (fun l=>k l)) ((0:Int),d)
def tG (a:Val Ä) (b:Int) (c:Int) (d:Int):Option (Int):=OD a b c d some
def C4 (b:Int) (a:Int) (k:Val Ł→Option ρ):Option ρ :=
  ifb (ine b 0) (ifb (Ŋ a 0) (none) (Ã (He (Int.tmod b a)) fun h=>Ã (Ai h a) fun c=>ifb (Ŋ c 0) (none) (ck (Int.tdiv b c) fun d=>ifb (Ŋ c 0) (none) (ck (Int.tdiv a c) fun f=>ifb (igt f 2147483647) (k (((0:Int),(0:Int)),(3:Int))) (ifb (ilt d (-2147483647:Int)) (k (((0:Int),(0:Int)),(3:Int))) (ifb (igt d 2147483647) (k (((0:Int),(0:Int)),(3:Int))) (k ((d,f),(0:Int))))))))) (ifb (Ŋ a 0) (none) (ck (Int.tdiv b a) fun e=>ifb (Ŋ a 0) (none) (ck (Int.tdiv a a) fun g=>ifb (igt g 2147483647) (k (((0:Int),(0:Int)),(3:Int))) (ifb (ilt e (-2147483647:Int)) (k (((0:Int),(0:Int)),(3:Int))) (ifb (igt e 2147483647) (k (((0:Int),(0:Int)),(3:Int))) (k ((e,g),(0:Int))))))))
def pK (a:Int) (b:Int):Option (Val Ł):=C4 a b some
def WK (a:Val Â) (b:Val Â) (k:Val Ł→Option ρ):Option ρ :=
  ck (a.1*b.2) fun c=>ck (b.1*a.2) fun d=>ck (c+d) fun e=>ck (a.2*b.2) fun f=>Ã (pK e f) fun g=>k g
def X5 (a:Val Â) (b:Val Â):Option (Val Ł):=WK a b some
def WD (a:Val Â) (k:Val Â→Option ρ):Option ρ :=
  ck ((0:Int)-a.1) fun b=>k (b,a.2)
def X4 (a:Val Â):Option (Val Â):=WD a some
def WB (a:Val Â) (b:Val Â) (k:Val Ł→Option ρ):Option ρ :=
  Ã (X4 b) fun c=>Ã (X5 a c) fun d=>k d
def Nc (a:Val Â) (b:Val Â):Option (Val Ł):=WB a b some
def Il (a:Val Ä) (b:Int) (k:Val Â→Option ρ):Option ρ :=
  ifb (ieq b 0) (k ((0:Int),(1:Int))) (Ã (pJ a b) fun c=>ü a.2.1 c fun d=>k d.2.2.2.2.1)
def tE (a:Val Ä) (b:Int):Option (Val Â):=Il a b some
def O7 (a:Val Ł) (b:Val Ł) (k:Val sg→Option ρ):Option ρ :=
  ifb (ine a.2 0) (k ((((0:Int),(0:Int)),(0:Int),(0:Int)),a.2)) (ifb (ine b.2 0) (k ((((0:Int),(0:Int)),(0:Int),(0:Int)),b.2)) (k ((a.1,b.1),(0:Int))))
def Hb (a:Val Ł) (b:Val Ł):Option (Val sg):=O7 a b some
def WE (a:Val Â) (b:Val Â) (k:Val Ł→Option ρ):Option ρ :=
  ck (a.1*b.1) fun c=>ck (a.2*b.2) fun d=>Ã (pK c d) fun e=>k e
def vJ (a:Val Â) (b:Val Â):Option (Val Ł):=WE a b some
def IA (b:Val ä) (a:Val Â) (k:Val sg→Option ρ):Option ρ :=
  ifb (ilt a.1 0) (Ã (vJ b.2 a) fun c=>Ã (vJ b.1 a) fun d=>Ã (Hb c d) fun e=>k e) (Ã (vJ b.1 a) fun f=>Ã (vJ b.2 a) fun g=>Ã (Hb f g) fun h=>k h)
def Ah (a:Val ä) (b:Val Â):Option (Val sg):=IA a b some
def C1 (b:Val Ä) (a:Val Í) (k:Val ä→Option ρ):Option ρ :=
  Ã (oz a.2.2.1 a.2.2.2.1) fun c=>Ã (tE b c) fun d=>Ã (oz a.2.2.2.1 a.2.2.1) fun e=>Ã (tE b e) fun f=>Ã (Nc d f) fun g=>Ã (Ah ((a.2.2.2.2.2.2.1,(1:Int)),a.2.2.2.2.2.2.2,(1:Int)) g.1) fun h=>k h.1
def vG (a:Val Ä) (b:Val Í):Option (Val ä):=C1 a b some
def Iv (a:Val Ä) (b:Val Í) (k:Val Â→Option ρ):Option ρ :=
  ck ((Ú b.2.2.1)-(1:Int)) fun c=>ck ((Ú b.2.2.2.1)-(1:Int)) fun d=>ck ((Lj (0:Int) c)*a.1.1) fun e=>ck ((Lj (0:Int) d)*a.1.2) fun f=>ck (e-f) fun g=>ck ((Lj (0:Int) c)*a.1.2) fun h=>ck ((Lj (0:Int) d)*a.1.1) fun i=>ck (h-i) fun j=>k (g,j)
def Af (a:Val Ä) (b:Val Í):Option (Val Â):=Iv a b some
def ac6 (b:Int) (a:Int) (k:Int→Option ρ):Option ρ :=
  ifb (Ŋ a 0) (none) (ck (Int.tdiv b a) fun c=>ifb (Ŋ a 0) (none) (ifb (igt (Int.tmod b a) 0) (ck (c+1) fun d=>k d) (k c)))
def adT (a:Int) (b:Int):Option (Int):=ac6 a b some
def O9 (a:Val Â) (k:Int→Option ρ):Option ρ :=
  Ã (adT a.1 a.2) fun b=>k b
def Hc (a:Val Â):Option (Int):=O9 a some
def O5 (b:Int) (a:Int) (k:Int→Option ρ):Option ρ :=
  ifb (Ŋ a 0) (none) (ck (Int.tdiv b a) fun c=>ifb (Ŋ a 0) (none) (ifb (ilt (Int.tmod b a) 0) (ck (c-1) fun d=>k d) (k c)))
def QN (a:Int) (b:Int):Option (Int):=O5 a b some
def IC (a:Val Â) (k:Int→Option ρ):Option ρ :=
  Ã (QN a.1 a.2) fun b=>k b
def Aj (a:Val Â):Option (Int):=IC a some
def Ow (b:Val Ä) (a:Val Í) (k:Val Â→Option ρ):Option ρ :=
  Ã (vG b a) fun c=>Ã (Af b a) fun d=>ck (a.2.2.2.2.1-a.2.2.2.2.2.1) fun e=>ck (e-d.2) fun f=>Ã (Aj c.2) fun g=>ck (f-g) fun h=>ck (a.2.2.2.2.1+a.2.2.2.2.2.1) fun i=>ck (i-d.1) fun j=>Ã (Hc c.1) fun l=>ck (j-l) fun m=>k (h,m)
def tF (a:Val Ä) (b:Val Í):Option (Val Â):=Ow a b some
def pj (e:Val aa) (b:Int) (p:Int) (q:Int) (r:Val ac) (s:Val aa) (t:Val af) (u:Val ab) (v:Val aa) (g:Int) (w:Int) (h:Int) (x:Int) (y:Int) (a:Int) (c:Val ah) (d:Val aa) (f:Int→Val ah→Val aa→Option ρ) (z:Val wd→Option ρ):Option ρ :=
  ifb (ilt a (Ú e)) (ü e a fun A=>ifb (ine A.1 g) (ck (a+(1:Int)) fun B=>f B c d) (ü e a fun C=>ifb (ieq C.2 w) (ck (a+(1:Int)) fun i=>ck (h+y) fun j=>ck (a+(1:Int)) fun k=>ck ((0:Int)-h) fun D=>ck (D-x) fun l=>ã (å ((List.length c)+(List.length ([((0:Int),i,j),(k,(0:Int),l)])))) (ã (å ((List.length d)+(List.length ([((1:Int),b),((1:Int),b)])))) (ck (a+(1:Int)) fun E=>f E (c++([((0:Int),i,j),(k,(0:Int),l)])) (d++([((1:Int),b),((1:Int),b)]))))) (ck (a-(1:Int)) fun F=>ü e F fun G=>ü e a fun H=>Ã (tG ((p,q),r,s,t,u,v) g G.2 H.2) fun m=>ck (a+(1:Int)) fun n=>ck (a+(1:Int)) fun o=>ã (å ((List.length c)+(List.length ([(a,n,(0:Int)),(o,a,m)])))) (ã (å ((List.length d)+(List.length ([((2:Int),b),((2:Int),b)])))) (ck (a+(1:Int)) fun I=>f I (c++([(a,n,(0:Int)),(o,a,m)])) (d++([((2:Int),b),((2:Int),b)]))))))) (z (c,d))
def uA (h:Val aa) (i:Int) (j:Int) (c:Val ac) (k:Val aa) (l:Val af) (m:Val ab) (n:Val aa) (b:Int) (e:Val ah) (f:Val aa) (o:Int→Val ah→Val aa→Option ρ) (p:Val wd→Option ρ):Option ρ :=
  ifb (ilt b (Ú c)) (ü c b fun a=>Ò (fun(d:Val aM) q=>pj h b i j c k l m n a.1 a.2.1 a.2.2.1 a.2.2.2.1.1 a.2.2.2.1.2 d.1 d.2.1 d.2.2 (fun r s t=>q (r,s,t)) (fun g=>ck (b+(1:Int)) fun u=>o u g.1 g.2)) ((0:Int),e,f)) (p (e,f))
def uz (f:Int) (g:Int) (h:Val ac) (i:Val aa) (j:Val af) (c:Val ab) (k:Val aa) (a:Int) (l:Val ah) (m:Val aa) (p:Int→Val ah→Val aa→Option ρ) (q:Val wd→Option ρ):Option ρ :=
  ifb (ilt a (Ú c)) (ü c a fun b=>Ã (oz b.2.2.1 b.2.2.2.1) fun r=>Ã (œ ((f,g),h,i,j,c,k) (r,b.2.1)) fun d=>Ã (oz b.2.2.2.1 b.2.2.1) fun s=>Ã (œ ((f,g),h,i,j,c,k) (s,b.2.1)) fun e=>Ã (tF ((f,g),h,i,j,c,k) b) fun n=>ck ((0:Int)-n.1) fun o=>ã (å ((List.length l)+(List.length ([(e,d,n.2),(d,e,o)])))) (ã (å ((List.length m)+(List.length ([((3:Int),a),((3:Int),a)])))) (ck (a+(1:Int)) fun t=>p t (l++([(e,d,n.2),(d,e,o)])) (m++([((3:Int),a),((3:Int),a)]))))) (q (l,m))
def Wf (a:Val Ä) (k:Val wd→Option ρ):Option ρ :=
  Ã (jA a) fun e=>Ò (fun(b:Val aM) f=>uA e a.1.1 a.1.2 a.2.1 a.2.2.1 a.2.2.2.1 a.2.2.2.2.1 a.2.2.2.2.2 b.1 b.2.1 b.2.2 (fun g h i=>f (g,h,i)) (fun d=>Ò (fun(c:Val aM) j=>uz a.1.1 a.1.2 a.2.1 a.2.2.1 a.2.2.2.1 a.2.2.2.2.1 a.2.2.2.2.2 c.1 c.2.1 c.2.2 (fun l m n=>j (l,m,n)) (fun o=>k o)) ((0:Int),d.1,d.2))) ((0:Int),[],[])
def vF (a:Val Ä):Option (Val wd):=Wf a some
def oo (b:Val ac) (a:Int) (c:Int→Option ρ) (d:Int→Option ρ) (e:Unit→Option ρ):Option ρ :=
  ifb (ilt a (Ú b)) (ü b a fun f=>Ã (Ae f) fun g=>ifb (!g) (d (1:Int)) (ifb (igt a 0) (ü b a fun h=>ck (a-(1:Int)) fun i=>ü b i fun j=>ifb (ile h.1 j.1) (d (6:Int)) (ck (a+(1:Int)) fun k=>c k)) (ck (a+(1:Int)) fun l=>c l))) (e ())
def om (b:Int) (c:Val ab) (a:Int) (d:Int→Option ρ) (e:Int→Option ρ) (f:Unit→Option ρ):Option ρ :=
  ifb (ilt a b) (ü c a fun g=>ü c b fun h=>ifb (ieq g.1 h.1) (e (6:Int)) (ck (a+(1:Int)) fun i=>d i)) (f ())
def jq (e:Int) (f:Int) (g:Val ac) (h:Val aa) (i:Val af) (a:Val ab) (j:Val aa) (b:Int) (k:Int→Option ρ) (c:Int→Option ρ) (l:Unit→Option ρ):Option ρ :=
  ifb (ilt b (Ú a)) (ü a b fun m=>Ã (Ac m) fun n=>ifb (!n) (c (1:Int)) (Ò (fun(o:Int) p=>om b a o (fun q=>p q) (fun r=>c r) (fun _=>ü a b fun s=>Ã (jz ((e,f),g,h,i,a,j) s) fun d=>ifb (ine d 0) (c d) (ck (b+(1:Int)) fun t=>k t))) (0:Int))) (l ())
def jp (e:Int) (f:Int) (g:Val ac) (h:Val aa) (i:Val af) (j:Val ab) (a:Val aa) (b:Int) (k:Int→Option ρ) (c:Int→Option ρ) (l:Unit→Option ρ):Option ρ :=
  ifb (ilt b (Ú a)) (ü a b fun m=>Ã (vH m.2) fun n=>ifb (!n) (c (1:Int)) (ü a b fun o=>ü a b fun p=>Ã (mq ((e,f),g,h,i,j,a) o.1 p.2) fun d=>ifb (ine d 0) (c d) (ck (b+(1:Int)) fun q=>k q))) (l ())
def Iw (a:Val Ä) (k:Int→Option ρ):Option ρ :=
  Ã (jj a.1 (0:Int) (1000000:Int)) fun d=>ifb (!d) (k (1:Int)) (ifb (igt (Ú a.2.1) 12) (k (2:Int)) (ifb (igt (Ú a.2.2.1) 40) (k (2:Int)) (ifb (igt (Ú a.2.2.2.1) 12) (k (2:Int)) (ifb (igt (Ú a.2.2.2.2.1) 40) (k (2:Int)) (ifb (igt (Ú a.2.2.2.2.2) 10) (k (2:Int)) (Ò (fun(e:Int) f=>oo a.2.1 e (fun g=>f g) (fun h=>k h) (fun _=>Ã (G8 a) fun b=>ifb (ieq b 0) (Ã (Ad a) fun c=>ifb (ine c 0) (k c) (Ò (fun(i:Int) j=>jq a.1.1 a.1.2 a.2.1 a.2.2.1 a.2.2.2.1 a.2.2.2.2.1 a.2.2.2.2.2 i (fun l=>j l) (fun m=>k m) (fun _=>Ò (fun(n:Int) o=>jp a.1.1 a.1.2 a.2.1 a.2.2.1 a.2.2.2.1 a.2.2.2.2.1 a.2.2.2.2.2 n (fun p=>o p) (fun q=>k q) (fun _=>Ã (jA a) fun r=>ifb (igt (Ú r) 59) (k (2:Int)) (Ã (vF a) fun s=>ifb (igt (Ú s.1) 300) (k (2:Int)) (k (0:Int))))) (0:Int))) (0:Int))) (ifb (ine b 0) (k b) (Ò (fun(t:Int) u=>jq a.1.1 a.1.2 a.2.1 a.2.2.1 a.2.2.2.1 a.2.2.2.2.1 a.2.2.2.2.2 t (fun v=>u v) (fun w=>k w) (fun _=>Ò (fun(x:Int) y=>jp a.1.1 a.1.2 a.2.1 a.2.2.1 a.2.2.2.1 a.2.2.2.2.1 a.2.2.2.2.2 x (fun z=>y z) (fun A=>k A) (fun _=>Ã (jA a) fun B=>ifb (igt (Ú B) 59) (k (2:Int)) (Ã (vF a) fun C=>ifb (igt (Ú C.1) 300) (k (2:Int)) (k (0:Int))))) (0:Int))) (0:Int))))) (0:Int)))))))
def mr (a:Val Ä):Option (Int):=Iw a some
def CW (a:Val Ä) (k:Val Ì→Option ρ):Option ρ :=
  Ã (jA a) fun b=>ck ((Ú b)+(1:Int)) fun c=>Ã (vF a) fun d=>k (c,d.1)
def pI (a:Val Ä):Option (Val Ì):=CW a some
def OG (a:Val Ä) (b:Val Â) (k:Val aI→Option ρ):Option ρ :=
  ã (å (0+(List.length a.2.2.2.2.2))) (ã (å ((List.length (([])++a.2.2.2.2.2))+(List.length ([b])))) (Ã (mr (a.1,a.2.1,a.2.2.1,a.2.2.2.1,a.2.2.2.2.1,((([])++a.2.2.2.2.2)++([b])))) fun c=>ifb (ine c 0) (k ((((0:Int),(0:Int)),[],[],[],[],[]),c)) (k ((a.1,a.2.1,a.2.2.1,a.2.2.2.1,a.2.2.2.2.1,((([])++a.2.2.2.2.2)++([b]))),(0:Int)))))
def tJ (a:Val Ä) (b:Val Â):Option ((Val aI)):=OG a b some
def lh (d:Int) (e:Int) (a:Int) (b:Val ae) (c:Int→Val ae→Option ρ) (f:Val ae→Option ρ):Option ρ :=
  ifb (ilt a d) (ã ((ile 0 a)&&(ilt a (þ b))) (ĺ b (Int.toNat a) fun i=>ifb (ieq e a) (ã ((ile 0 a)&&(ilt a (þ (List.set b (Int.toNat a) (1152921504606846976:Int))))) (ĺ (List.set b (Int.toNat a) (1152921504606846976:Int)) (Int.toNat a) fun j=>ck (a+(1:Int)) fun g=>c g (List.set (List.set b (Int.toNat a) (1152921504606846976:Int)) (Int.toNat a) (0:Int)))) (ck (a+(1:Int)) fun h=>c h (List.set b (Int.toNat a) (1152921504606846976:Int))))) (f b)
def lm (a:Int) (b:Int) (c:Val am) (f:Int→Val am→Option ρ) (g:Val am→Option ρ):Option ρ :=
  ifb (ilt b a) (ã ((ile 0 a)&&(å (Int.toNat a))) (Ò (fun(d:Val ay) h=>lh a b d.1 d.2 (fun i j=>h (i,j)) (fun e=>ã (å ((List.length c)+(List.length ([e])))) (ck (b+(1:Int)) fun k=>f k (c++([e]))))) ((0:Int),(List.replicate (Int.toNat a) (0:Int))))) (g c)
def lg (d:Val ah) (c:Int) (b:Val am) (f:Int→Val am→Option ρ) (g:Val am→Option ρ):Option ρ :=
  ifb (ilt c (Ú d)) (ü d c fun a=>ã ((ile 0 a.1)&&(ilt a.1 (þ b))) (ã ((ile 0 a.1)&&(ilt a.1 (þ b))) (ĺ b (Int.toNat a.1) fun h=>ã ((ile 0 a.2.1)&&(ilt a.2.1 (þ h))) (ĺ b (Int.toNat a.1) fun i=>ĺ i (Int.toNat a.2.1) fun j=>ĺ b (Int.toNat a.1) fun k=>ã ((ile 0 a.2.1)&&(ilt a.2.1 (þ k))) (ĺ b (Int.toNat a.1) fun e=>ĺ e (Int.toNat a.2.1) fun m=>ck (c+(1:Int)) fun l=>f l (List.set b (Int.toNat a.1) (List.set e (Int.toNat a.2.1) (UP j a.2.2)))))))) (g b)
def ld (d:Int) (c:Int) (g:Int) (b:Int) (a:Val am) (e:Int→Val am→Option ρ) (h:Val am→Option ρ):Option ρ :=
  ifb (ilt b g) (ã ((ile 0 d)&&(ilt d (þ a))) (ĺ a (Int.toNat d) fun i=>ã ((ile 0 b)&&(ilt b (þ i))) (ĺ a (Int.toNat d) fun j=>ĺ j (Int.toNat b) fun k=>ifb (ine k 1152921504606846976) (ã ((ile 0 c)&&(ilt c (þ a))) (ã ((ile 0 c)&&(ilt c (þ a))) (ĺ a (Int.toNat c) fun l=>ã ((ile 0 b)&&(ilt b (þ l))) (ĺ a (Int.toNat c) fun m=>ĺ m (Int.toNat b) fun n=>ã ((ile 0 c)&&(ilt c (þ a))) (ĺ a (Int.toNat c) fun o=>ã ((ile 0 d)&&(ilt d (þ o))) (ĺ a (Int.toNat c) fun p=>ĺ p (Int.toNat d) fun q=>ã ((ile 0 d)&&(ilt d (þ a))) (ĺ a (Int.toNat d) fun r=>ã ((ile 0 b)&&(ilt b (þ r))) (ĺ a (Int.toNat d) fun s=>ĺ s (Int.toNat b) fun t=>ck (q+t) fun u=>ĺ a (Int.toNat c) fun v=>ã ((ile 0 b)&&(ilt b (þ v))) (ĺ a (Int.toNat c) fun f=>ĺ f (Int.toNat b) fun y=>ck (b+(1:Int)) fun w=>e w (List.set a (Int.toNat c) (List.set f (Int.toNat b) (UP n u)))))))))))) (ck (b+(1:Int)) fun x=>e x a)))) (h a)
def lf (c:Int) (d:Int) (a:Int) (b:Val am) (e:Int→Val am→Option ρ) (g:Val am→Option ρ):Option ρ :=
  ifb (ilt a d) (ã ((ile 0 a)&&(ilt a (þ b))) (ĺ b (Int.toNat a) fun h=>ã ((ile 0 c)&&(ilt c (þ h))) (ĺ b (Int.toNat a) fun i=>ĺ i (Int.toNat c) fun j=>ifb (ieq j 1152921504606846976) (ck (a+(1:Int)) fun k=>e k b) (Ò (fun(f:Val aO) l=>ld c a d f.1 f.2 (fun m n=>l (m,n)) (fun o=>ck (a+(1:Int)) fun p=>e p o)) ((0:Int),b))))) (g b)
def iB (c:Int) (b:Val am) (a:Int) (d:Int→Option ρ) (e:Bool→Option ρ) (f:Unit→Option ρ):Option ρ :=
  ifb (ilt a c) (ã ((ile 0 a)&&(ilt a (þ b))) (ĺ b (Int.toNat a) fun g=>ã ((ile 0 a)&&(ilt a (þ g))) (ĺ b (Int.toNat a) fun h=>ĺ h (Int.toNat a) fun i=>ifb (ilt i 0) (e false) (ck (a+(1:Int)) fun j=>d j)))) (f ())
def jr (a:Int) (b:Int) (d:Val am) (f:Int→Val am→Option ρ) (g:(Val (.pair .bool am))→Option ρ) (h:Val am→Option ρ):Option ρ :=
  ifb (ilt b a) (Ò (fun(e:Val aO) i=>lf b a e.1 e.2 (fun j k=>i (j,k)) (fun c=>Ò (fun(l:Int) m=>iB a c l (fun n=>m n) (fun o=>g (o,c)) (fun _=>ck (b+(1:Int)) fun p=>f p c)) (0:Int))) ((0:Int),d)) (h d)
def Ix (a:Val Ì) (k:(Val (.pair am .bool))→Option ρ):Option ρ :=
  Ò (fun(b:Val aO) e=>lm a.1 b.1 b.2 (fun f g=>e (f,g)) (fun h=>Ò (fun(c:Val aO) i=>lg a.2 c.1 c.2 (fun j l=>i (j,l)) (fun m=>Ò (fun(d:Val aO) n=>jr a.1 d.1 d.2 (fun o p=>n (o,p)) (fun q=>k ([],q.1)) (fun r=>k (r,true))) ((0:Int),m))) ((0:Int),h))) ((0:Int),[])
def tK (a:Val Ì):Option ((Val (.pair am .bool))):=Ix a some
def mV (j:Val aa) (b:Int) (c:Int) (d:Int) (e:Val ac) (f:Val aa) (g:Val af) (h:Val ab) (i:Val aa) (k:Int) (l:Int) (m:Int) (n:Int) (o:Int→Int→Int→Val ac→Val aa→Val af→Val ab→Val aa→Int→Int→Int→Int→Option ρ) (p:Val aw→Option ρ) (q:Val aw→Option ρ):Option ρ :=
  ifb (ilt b (Ú j)) (ü j b fun r=>Ã (œ ((c,d),e,f,g,h,i) r) fun s=>ifb (igt s 0) (ck (b+(1:Int)) fun t=>o t c d e f g h i k l m n) (ü j b fun u=>Ã (tJ ((c,d),e,f,g,h,i) u) fun a=>ifb (ine a.2 0) (p (c,d,e,f,g,h,i,(0:Int),(0:Int),(0:Int),a.2)) (ck (b+(1:Int)) fun v=>o v a.1.1.1 a.1.1.2 a.1.2.1 a.1.2.2.1 a.1.2.2.2.1 a.1.2.2.2.2.1 a.1.2.2.2.2.2 k l m n))) (q (c,d,e,f,g,h,i,k,l,m,n))
def Od (c:Val Ä) (h:Val aa) (k:Val Ŷ→Option ρ):Option ρ :=
  Ã (mr c) fun e=>ifb (ine e 0) (k ((((0:Int),(0:Int)),[],[],[],[],[]),((0:Int),[]),[],e)) (Ò (fun(b:(Val (.pair tI aw))) i=>mV h b.1 b.2.1 b.2.2.1 b.2.2.2.1 b.2.2.2.2.1 b.2.2.2.2.2.1 b.2.2.2.2.2.2.1 b.2.2.2.2.2.2.2.1 b.2.2.2.2.2.2.2.2.1 b.2.2.2.2.2.2.2.2.2.1 b.2.2.2.2.2.2.2.2.2.2.1 b.2.2.2.2.2.2.2.2.2.2.2 (fun j l m n o p q r s t u v=>i (j,l,m,n,o,p,q,r,s,t,u,v)) (fun d=>k (((d.2.2.2.2.2.2.2.1,d.2.2.2.2.2.2.2.2.1),[],[],[],[],[]),(d.2.2.2.2.2.2.2.2.2.1,[]),[],d.2.2.2.2.2.2.2.2.2.2)) (fun a=>Ã (pI ((a.1,a.2.1),a.2.2.1,a.2.2.2.1,a.2.2.2.2.1,a.2.2.2.2.2.1,a.2.2.2.2.2.2.1)) fun f=>Ã (tK f) fun g=>ifb (!g.2) (k ((((0:Int),(0:Int)),[],[],[],[],[]),((0:Int),[]),[],(9:Int))) (k (((a.1,a.2.1),a.2.2.1,a.2.2.2.1,a.2.2.2.2.1,a.2.2.2.2.2.1,a.2.2.2.2.2.2.1),f,g.1,(0:Int))))) ((0:Int),c.1.1,c.1.2,c.2.1,c.2.2.1,c.2.2.2.1,c.2.2.2.2.1,c.2.2.2.2.2,(0:Int),(0:Int),(0:Int),(0:Int)))
def G7 (a:Val Ä) (b:Val aa):Option (Val Ŷ):=Od a b some
def kg (a:Val Ŷ) (b:Int) (k:Val Â→Option ρ):Option ρ :=
  ü a.2.2.1 b fun c=>ü c (0:Int) fun d=>ck ((0:Int)-d) fun e=>ü a.2.2.1 (0:Int) fun f=>ü f b fun g=>k (e,g)
def ž (a:Val Ŷ) (b:Int):Option (Val Â):=kg a b some
def ur (a:Val Ŷ) (b:Val Â) (k:Int→Option ρ):Option ρ :=
  Ã (œ a.1 b) fun c=>k c
def Ħ (a:Val Ŷ) (b:Val Â):Option (Int):=ur a b some
def mF (c:Val ae) (d:Val ah) (a:Int) (e:Int→Option ρ) (f:Bool→Option ρ) (g:Unit→Option ρ):Option ρ :=
  ifb (ilt a (Ú d)) (ü d a fun b=>ü c b.2.1 fun h=>ü c b.1 fun i=>ck (i+b.2.2) fun j=>ifb (igt h j) (f false) (ck (a+(1:Int)) fun k=>e k)) (g ())
def C3 (b:Val Ì) (a:Val ae) (k:Bool→Option ρ):Option ρ :=
  ifb (ine (Ú a) b.1) (k false) (ü a (0:Int) fun c=>ifb (ine c 0) (k false) (Ò (fun(d:Int) e=>mF a b.2 d (fun f=>e f) (fun g=>k g) (fun _=>k true)) (0:Int)))
def vI (a:Val Ì) (b:Val ae):Option (Bool):=C3 a b some
def ph (b:Val Ŷ) (a:Val ae) (k:Bool→Option ρ):Option ρ :=
  ã (å ((List.length ([(0:Int)]))+(List.length a))) (Ã (vI b.2.1 (([(0:Int)])++a)) fun c=>k c)
def Đ (a:Val Ŷ) (b:Val ae):Option (Bool):=ph a b some
def j5 (g:Int) (d:Int) (f:Val ah) (a:Int) (c:Int→Option ρ) (e:Int→Option ρ) (h:Unit→Option ρ):Option ρ :=
  ifb (ilt a g) (ã ((ile 0 a)&&(ilt a (þ f))) (ĺ f (Int.toNat a) fun b=>ifb (ieq b.1 0) (ifb (ieq b.2.1 d) (e a) (ifb (ieq b.1 d) (ifb (ieq b.2.1 0) (e a) (ck (a+(1:Int)) fun i=>c i)) (ck (a+(1:Int)) fun j=>c j))) (ifb (ieq b.1 d) (ifb (ieq b.2.1 0) (e a) (ck (a+(1:Int)) fun k=>c k)) (ck (a+(1:Int)) fun l=>c l)))) (h ())
def Ū (f:Int) (a:Int) (c:Int) (b:Val ah) (e:Int→Int→Val ah→Option ρ) (g:Val Ì→Option ρ):Option ρ :=
  ifb (ilt c (Ú b)) (ã ((ile 0 c)&&(ilt c (þ b))) (ĺ b (Int.toNat c) fun d=>ifb (ieq d.1 0) (ifb (ieq d.2.1 f) (ck (c+(1:Int)) fun h=>e a h b) (ifb (ieq d.1 f) (ifb (!(ieq d.2.1 0)) (ã ((ile 0 a)&&(ilt a (þ b))) (ĺ b (Int.toNat a) fun s=>ck (a+(1:Int)) fun i=>ck (c+(1:Int)) fun j=>e i j (List.set b (Int.toNat a) d))) (ck (c+(1:Int)) fun k=>e a k b)) (ã ((ile 0 a)&&(ilt a (þ b))) (ĺ b (Int.toNat a) fun t=>ck (a+(1:Int)) fun l=>ck (c+(1:Int)) fun m=>e l m (List.set b (Int.toNat a) d))))) (ifb (ieq d.1 f) (ifb (!(ieq d.2.1 0)) (ã ((ile 0 a)&&(ilt a (þ b))) (ĺ b (Int.toNat a) fun u=>ck (a+(1:Int)) fun n=>ck (c+(1:Int)) fun o=>e n o (List.set b (Int.toNat a) d))) (ck (c+(1:Int)) fun p=>e a p b)) (ã ((ile 0 a)&&(ilt a (þ b))) (ĺ b (Int.toNat a) fun v=>ck (a+(1:Int)) fun q=>ck (c+(1:Int)) fun r=>e q r (List.set b (Int.toNat a) d)))))) (g (a,b))
def uE (b:Val Ì) (e:Int) (k:Val ah→Option ρ):Option ρ :=
  ã (å (List.length b.2)) (Ò (fun(f:Int) g=>j5 (Ú b.2) e b.2 f (fun h=>g h) (fun c=>ifb (ieq c (-1:Int)) (k b.2) (ck (c+(1:Int)) fun i=>Ò (fun(d:Val aG) j=>Ū e d.1 d.2.1 d.2.2 (fun l m n=>j (l,m,n)) (fun a=>ã ((ile 0 a.1)&&(ile a.1 (þ a.2))) (ã ((ile 0 a.1)&&(ile a.1 (þ (List.take (Int.toNat a.1) a.2++List.replicate (List.length a.2-(Int.toNat a.1)) ((0:Int),(0:Int),(0:Int))++List.drop ((Int.toNat a.1)+(List.length a.2-(Int.toNat a.1))) a.2)))) (k (List.take (Int.toNat a.1) (List.drop 0 (List.take (Int.toNat a.1) a.2++List.replicate (List.length a.2-(Int.toNat a.1)) ((0:Int),(0:Int),(0:Int))++List.drop ((Int.toNat a.1)+(List.length a.2-(Int.toNat a.1))) a.2))))))) (c,i,b.2))) (fun _=>k b.2)) (0:Int))
def ů (a:Val Ì) (b:Int):Option ((Val ah)):=uE a b some
def yJ (a:Val Ì) (k:Val aE→Option ρ):Option ρ :=
  Ã (zj a ([])) fun b=>ifb (ine b 0) (k ([],b)) (Ã (tO a ([]) (0:Int)) fun c=>Ã (Ĕ c (1152921504606846976:Int)) fun d=>ifb d (k ([],(5:Int))) (k (c,(0:Int))))
def ų (a:Val Ì):Option ((Val aE)):=yJ a some
def rG (m:Int) (j:Val aa) (b:Int) (c:Int) (d:Int) (e:Val ac) (f:Val aa) (g:Val af) (h:Val ab) (i:Val aa) (k:Int→Int→Int→Val ac→Val aa→Val af→Val ab→Val aa→Option ρ) (n:Val aC→Option ρ) (o:Val ai→Option ρ):Option ρ :=
  ifb (ilt b m) (ã ((ile 0 b)&&(ilt b (þ j))) (ĺ j (Int.toNat b) fun l=>Ã (Ş ((c,d),e,f,g,h,i) l) fun p=>ifb (ieq p.2 0) (ck (b+(1:Int)) fun q=>k q c d e f g h i) (Ã (jB ((c,d),e,f,g,h,i) l) fun a=>ifb (ine a.2 0) (n (a.2,c,d,e,f,g,h,i)) (ck (b+(1:Int)) fun r=>k r a.1.1.1 a.1.1.2 a.1.2.1 a.1.2.2.1 a.1.2.2.2.1 a.1.2.2.2.2.1 a.1.2.2.2.2.2)))) (o (c,d,e,f,g,h,i))
def Dh (e:Val Ä) (f:Val Â) (d:Val Â) (E:Bool) (k:Val aE→Option ρ):Option ρ :=
  Ã (û e) fun s=>ifb (ine s 0) (ifb (ine s 0) (k ([],s)) (ã (igt d.1 d.2) (k ([],(1:Int))))) (Ò (fun(g:Val aC) F=>rG (Ú ([f])) ([f]) g.1 g.2.1 g.2.2.1 g.2.2.2.1 g.2.2.2.2.1 g.2.2.2.2.2.1 g.2.2.2.2.2.2.1 g.2.2.2.2.2.2.2 (fun G H I J K L M N=>F (G,H,I,J,K,L,M,N)) (fun t=>ifb (ine t.1 0) (k ([],t.1)) (ã (igt d.1 d.2) (k ([],(1:Int))))) (fun b=>Ã (ħ ((b.1,b.2.1),b.2.2)) fun c=>ifb (ine c.2.2 0) (ifb (ine c.2.2 0) (k ([],c.2.2)) (ã (igt d.1 d.2) (k ([],(1:Int))))) (Ã (Ē c.1) fun O=>ifb (!O.1) (k ([],(9:Int))) (ifb (igt d.1 d.2) (k ([],(1:Int))) (Ã (Ŕ (((b.1,b.2.1),b.2.2),c.1) f) fun a=>ifb (!E) (ifb (ilt a.1 d.1) (Ã (Ķ (((b.1,b.2.1),b.2.2),c.1) f) fun h=>ck (0-a.1) fun u=>Ã (ů c.1 h) fun v=>ã (å ((List.length ([((0:Int),h,a.1),(h,(0:Int),u)]))+(List.length v))) (Ã (ų (c.1.1,(([((0:Int),h,a.1),(h,(0:Int),u)])++v))) fun n=>ifb (ine n.2 0) (k ([],n.2)) (ã (ile 1 (þ n.1)) (k ((List.drop 1 n.1),(0:Int)))))) (ifb (!(igt a.1 d.2)) (ifb (igt a.2 d.2) (Ã (Ķ (((b.1,b.2.1),b.2.2),c.1) f) fun i=>ck (0-a.2) fun w=>Ã (ů c.1 i) fun x=>ã (å ((List.length ([((0:Int),i,a.2),(i,(0:Int),w)]))+(List.length x))) (Ã (ų (c.1.1,(([((0:Int),i,a.2),(i,(0:Int),w)])++x))) fun o=>ifb (ine o.2 0) (k ([],o.2)) (ã (ile 1 (þ o.1)) (k ((List.drop 1 o.1),(0:Int)))))) (ifb (!(igt a.1 d.2)) (k ([],(5:Int))) (Ã (Ķ (((b.1,b.2.1),b.2.2),c.1) f) fun j=>ck (0-a.1) fun y=>Ã (ů c.1 j) fun z=>ã (å ((List.length ([((0:Int),j,a.1),(j,(0:Int),y)]))+(List.length z))) (Ã (ų (c.1.1,(([((0:Int),j,a.1),(j,(0:Int),y)])++z))) fun p=>ifb (ine p.2 0) (k ([],p.2)) (ã (ile 1 (þ p.1)) (k ((List.drop 1 p.1),(0:Int)))))))) (ifb (!(igt a.1 d.2)) (k ([],(5:Int))) (Ã (Ķ (((b.1,b.2.1),b.2.2),c.1) f) fun l=>ck (0-a.1) fun A=>Ã (ů c.1 l) fun B=>ã (å ((List.length ([((0:Int),l,a.1),(l,(0:Int),A)]))+(List.length B))) (Ã (ų (c.1.1,(([((0:Int),l,a.1),(l,(0:Int),A)])++B))) fun q=>ifb (ine q.2 0) (k ([],q.2)) (ã (ile 1 (þ q.1)) (k ((List.drop 1 q.1),(0:Int))))))))) (ifb (!(ile (Lj a.1 d.1) (UP a.2 d.2))) (k ([],(5:Int))) (Ã (Ķ (((b.1,b.2.1),b.2.2),c.1) f) fun m=>ck (0-(Lj a.1 d.1)) fun C=>Ã (ů c.1 m) fun D=>ã (å ((List.length ([((0:Int),m,(Lj a.1 d.1)),(m,(0:Int),C)]))+(List.length D))) (Ã (ų (c.1.1,(([((0:Int),m,(Lj a.1 d.1)),(m,(0:Int),C)])++D))) fun r=>ifb (ine r.2 0) (k ([],r.2)) (ã (ile 1 (þ r.1)) (k ((List.drop 1 r.1),(0:Int)))))))))))) ((0:Int),e.1.1,e.1.2,e.2.1,e.2.2.1,e.2.2.2.1,e.2.2.2.2.1,e.2.2.2.2.2))
def vK (a:Val Ä) (b:Val Â) (c:Val Â) (d:Bool):Option ((Val aE)):=Dh a b c d some
def Ii (a:Val Â) (b:Val Â) (k:Int→Option ρ):Option ρ :=
  ifb (ige a.1 b.1) (ifb (ile a.2 b.2) (k (1:Int)) (ifb (ilt a.2 b.1) (k (2:Int)) (ifb (igt a.1 b.2) (k (2:Int)) (k (3:Int))))) (ifb (ilt a.2 b.1) (k (2:Int)) (ifb (igt a.1 b.2) (k (2:Int)) (k (3:Int))))
def tD (a:Val Â) (b:Val Â):Option (Int):=Ii a b some
def nB (g:Val Ä) (e:Val Â) (d:Val Â) (c:Bool) (k:Bool→Option ρ):Option ρ :=
  Ã (Na g) fun s=>ifb (!s) (Ã ā fun t=>k t) (Ã (zh g e d) fun f=>Ã (vK g e d c) fun a=>Ã (G7 g ([e])) fun b=>ifb (ieq b.2.2.2 0) (ifb (igt d.1 d.2) (ifb (ine f.2 1) (k false) (Ã ā fun u=>ifb u (ifb (ieq a.2 1) (ifb (ieq f.1 0) (k (ieq (Ú a.1) 0)) (k false)) (k false)) (k false))) (ifb (ine f.2 b.2.2.2) (k false) (ifb (ine b.2.2.2 0) (Ã ā fun v=>ifb v (ifb (ieq a.2 b.2.2.2) (ifb (ieq f.1 0) (k (ieq (Ú a.1) 0)) (k false)) (k false)) (k false)) (Ã (Ħ b e) fun w=>Ã (ž b w) fun x=>Ã (tD x d) fun h=>ifb (ine f.1 h) (k false) (ifb c (ifb (ieq h 2) (Ã ā fun y=>ifb y (ifb (ieq a.2 5) (k (ieq (Ú a.1) 0)) (k false)) (k false)) (ifb (!c) (ifb (ieq h 1) (Ã ā fun z=>ifb z (ifb (ieq a.2 5) (k (ieq (Ú a.1) 0)) (k false)) (k false)) (ifb (ine a.2 0) (k false) (ck (b.2.1.1-(1:Int)) fun A=>ifb (ine (Ú a.1) A) (k false) (Ã (Đ b a.1) fun B=>ifb (!B) (k false) (Ã (Ħ b e) fun C=>ck (C-(1:Int)) fun D=>ü a.1 D fun j=>Ã ā fun E=>ifb E (ifb (ige j d.1) (k (c==(ile j d.2))) (k (c==false))) (k false)))))) (ifb (ine a.2 0) (k false) (ck (b.2.1.1-(1:Int)) fun F=>ifb (ine (Ú a.1) F) (k false) (Ã (Đ b a.1) fun G=>ifb (!G) (k false) (Ã (Ħ b e) fun H=>ck (H-(1:Int)) fun I=>ü a.1 I fun l=>Ã ā fun J=>ifb J (ifb (ige l d.1) (k (c==(ile l d.2))) (k (c==false))) (k false))))))) (ifb (!c) (ifb (ieq h 1) (Ã ā fun K=>ifb K (ifb (ieq a.2 5) (k (ieq (Ú a.1) 0)) (k false)) (k false)) (ifb (ine a.2 0) (k false) (ck (b.2.1.1-(1:Int)) fun L=>ifb (ine (Ú a.1) L) (k false) (Ã (Đ b a.1) fun M=>ifb (!M) (k false) (Ã (Ħ b e) fun N=>ck (N-(1:Int)) fun O=>ü a.1 O fun m=>Ã ā fun P=>ifb P (ifb (ige m d.1) (k (c==(ile m d.2))) (k (c==false))) (k false)))))) (ifb (ine a.2 0) (k false) (ck (b.2.1.1-(1:Int)) fun Q=>ifb (ine (Ú a.1) Q) (k false) (Ã (Đ b a.1) fun R=>ifb (!R) (k false) (Ã (Ħ b e) fun S=>ck (S-(1:Int)) fun T=>ü a.1 T fun n=>Ã ā fun U=>ifb U (ifb (ige n d.1) (k (c==(ile n d.2))) (k (c==false))) (k false))))))))))) (ifb (ine f.2 b.2.2.2) (k false) (ifb (ine b.2.2.2 0) (Ã ā fun V=>ifb V (ifb (ieq a.2 b.2.2.2) (ifb (ieq f.1 0) (k (ieq (Ú a.1) 0)) (k false)) (k false)) (k false)) (Ã (Ħ b e) fun W=>Ã (ž b W) fun X=>Ã (tD X d) fun i=>ifb (ine f.1 i) (k false) (ifb c (ifb (ieq i 2) (Ã ā fun Y=>ifb Y (ifb (ieq a.2 5) (k (ieq (Ú a.1) 0)) (k false)) (k false)) (ifb (!c) (ifb (ieq i 1) (Ã ā fun Z=>ifb Z (ifb (ieq a.2 5) (k (ieq (Ú a.1) 0)) (k false)) (k false)) (ifb (ine a.2 0) (k false) (ck (b.2.1.1-(1:Int)) fun dc=>ifb (ine (Ú a.1) dc) (k false) (Ã (Đ b a.1) fun df=>ifb (!df) (k false) (Ã (Ħ b e) fun dg=>ck (dg-(1:Int)) fun dh=>ü a.1 dh fun o=>Ã ā fun di=>ifb di (ifb (ige o d.1) (k (c==(ile o d.2))) (k (c==false))) (k false)))))) (ifb (ine a.2 0) (k false) (ck (b.2.1.1-(1:Int)) fun dj=>ifb (ine (Ú a.1) dj) (k false) (Ã (Đ b a.1) fun dk=>ifb (!dk) (k false) (Ã (Ħ b e) fun dl=>ck (dl-(1:Int)) fun dm=>ü a.1 dm fun p=>Ã ā fun dn=>ifb dn (ifb (ige p d.1) (k (c==(ile p d.2))) (k (c==false))) (k false))))))) (ifb (!c) (ifb (ieq i 1) (Ã ā fun dt=>ifb dt (ifb (ieq a.2 5) (k (ieq (Ú a.1) 0)) (k false)) (k false)) (ifb (ine a.2 0) (k false) (ck (b.2.1.1-(1:Int)) fun du=>ifb (ine (Ú a.1) du) (k false) (Ã (Đ b a.1) fun dv=>ifb (!dv) (k false) (Ã (Ħ b e) fun dw=>ck (dw-(1:Int)) fun dz=>ü a.1 dz fun q=>Ã ā fun d8=>ifb d8 (ifb (ige q d.1) (k (c==(ile q d.2))) (k (c==false))) (k false)))))) (ifb (ine a.2 0) (k false) (ck (b.2.1.1-(1:Int)) fun d9=>ifb (ine (Ú a.1) d9) (k false) (Ã (Đ b a.1) fun ee=>ifb (!ee) (k false) (Ã (Ħ b e) fun eh=>ck (eh-(1:Int)) fun ej=>ü a.1 ej fun r=>Ã ā fun eo=>ifb eo (ifb (ige r d.1) (k (c==(ile r d.2))) (k (c==false))) (k false)))))))))))
def nO (a:Val Ä) (b:Val Â) (c:Val Â) (d:Bool):Option (Bool):=nB a b c d some
end Go.Proofs.ZzM
end
