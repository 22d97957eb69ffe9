/- lemmas -/
import Derived.Test.YtjlkjopcjcbooaaGreatDoorAmC
set_option linter.all false
noncomputable section
variable {ρ:Type}
set_option maxRecDepth 100000
namespace Go.Proofs.ZzM
open Go Go.Am
abbrev tI:Ty:=.int .i64
abbrev Â:Ty:=(.pair tI tI)
abbrev yh:Ty:=(.pair tI Â)
abbrev ń:Ty:=(.pair Â Â)
abbrev Hw:Ty:=(.pair Â tI)
abbrev Ŏ:Ty:=(.pair tI Hw)
abbrev VE:Ty:=(.pair ń tI)
abbrev yi:Ty:=(.pair (.slice yh) (.slice Â))
abbrev Ð:Ty:=(.pair tI (.slice yh))
abbrev Ê:Ty:=(.pair tI (.pair tI (.pair tI (.pair Â Hw))))
abbrev Ü:Ty:=(.pair tI (.pair tI (.pair (.slice tI) (.pair (.slice tI) (.pair tI yh)))))
abbrev Å:Ty:=(.pair Â (.pair (.slice Ê) (.pair (.slice Â) (.pair (.slice Ŏ) (.pair (.slice Ü) (.slice Â))))))
abbrev Ĺ:Ty:=(.pair Å (.pair Â (.pair .bool (.pair tI (.slice tI)))))
abbrev tyroom:Ty:=(.pair Å Ð)
abbrev xn:Ty:=(.pair Å (.pair (.slice Â) (.pair Ð (.slice Â))))
abbrev aa:Ty:=(.slice Â)
abbrev ab:Ty:=(.slice Ü)
abbrev ac:Ty:=(.slice Ê)
abbrev ae:Ty:=(.slice Ŏ)
abbrev af:Ty:=(.slice tI)
abbrev ah:Ty:=(.pair tI (.pair tI (.pair ac (.pair aa (.pair ae (.pair ab (.pair aa (.pair tI (.pair tI (.pair ac (.pair aa (.pair ae (.pair ab (.pair aa (.pair tI (.pair tI (.pair ac (.pair aa (.pair ae (.pair ab (.pair aa (.pair (.map tI .bool) (.pair (.map tI .bool) ac)))))))))))))))))))))))
abbrev ai:Ty:=(.slice yh)
abbrev aj:Ty:=(.pair tI (.pair tI (.pair ac (.pair aa (.pair ae (.pair ab aa))))))
abbrev ak:Ty:=(.map tI .bool)
abbrev am:Ty:=(.slice .str)
abbrev ao:Ty:=(.pair tI (.pair tI (.pair ac (.pair aa (.pair ae (.pair ab (.pair aa (.pair tI aj))))))))
abbrev aq:Ty:=(.map tI Ê)
abbrev ar:Ty:=(.pair tI (.pair tI (.pair tI yh)))
abbrev au:Ty:=(.slice .bool)
abbrev aw:Ty:=(.slice af)
abbrev ax:Ty:=(.pair tI af)
abbrev ay:Ty:=(.pair tI (.pair tI (.pair ac (.pair aa (.pair ae (.pair ab (.pair aa aj)))))))
abbrev az:Ty:=(.pair tI (.pair tI (.pair ac (.pair aa (.pair ae (.pair ab (.pair aa tI)))))))
abbrev aB:Ty:=(.ptr tyroom)
abbrev aD:Ty:=(.pair tI (.pair tI (.pair tI (.pair ac (.pair aa (.pair ae (.pair ab (.pair aa (.pair tI (.pair tI ar))))))))))
abbrev aE:Ty:=(.pair .str tI)
abbrev aF:Ty:=(.pair tI (.pair tI (.pair tI (.pair ac (.pair aa (.pair ae (.pair ab (.pair aa (.pair tI yh)))))))))
abbrev aG:Ty:=(.pair tI aa)
abbrev aH:Ty:=(.pair au af)
abbrev aI:Ty:=(.pair af (.pair au (.pair af af)))
abbrev aJ:Ty:=(.pair tI Ð)
abbrev aK:Ty:=(.pair tI (.pair tI ax))
abbrev aL:Ty:=(.pair tI aj)
abbrev aM:Ty:=(.pair .str ar)
abbrev aO:Ty:=(.pair tI (.pair tI ar))
abbrev aP:Ty:=(.pair tI am)
abbrev aQ:Ty:=(.pair tI aG)
abbrev aR:Ty:=(.pair af af)
abbrev aS:Ty:=(.pair af tI)
abbrev aT:Ty:=(.pair Å (.pair aq tI))
abbrev ag:=Val af
abbrev an:=Val Â
abbrev bl:=Val Å
abbrev bx:=Val aa
abbrev cT:=Val Ê
abbrev c8:=Val ae
abbrev eu:=Val ab
abbrev ew:=Val ac
abbrev ey:=Val am
abbrev fw:=Val Ð
abbrev fx:=Val ak
abbrev fy:=Val (.pair tI (.slice tI))
abbrev ge:=Val (.map tI Ê)
abbrev io:=Val ax
abbrev js:=Val Ü
abbrev ld:=Val ai
abbrev lg:=Val (.pair tI (.pair af aH))
abbrev ly:=Val (.pair (.int .u64) (.int .u64))
abbrev lA:=Val (.pair Ĺ tI)
abbrev nn:=Val (.pair aB Â)
abbrev nx:=Val (.pair tI ak)
abbrev nR:=Val (.pair tI yi)
abbrev pc:=Val Ĺ
abbrev pg:=Val aq
abbrev pi:=Val (.pair tI (.pair tI .bool))
abbrev pl:=Val ń
abbrev px:=Val (.pair Å tI)
abbrev py:=Val (.pair Å Â)
abbrev qs:=Val Ŏ
abbrev rd:=Val (.pair .bool tI)
abbrev rm:=Val ah
abbrev rn:=Val aw
abbrev rx:=Val aE
abbrev ry:=Val aB
abbrev r6:=Val au
abbrev r7:=Val (.pair tI ab)
abbrev r8:=Val (.pair tI aH)
abbrev so:=Val aM
abbrev th:=Val ao
abbrev v6:=Val (.pair af .bool)
abbrev v8:=Val aP
def ğ (d:rn) (e:Int) (b:Int) (a:Int) (f:Int->Int->x9 ρ) (g:Int->x9 ρ):x9 ρ :=
  ifb (ilt a e) (ă d a fun h=>ck (b+(Û h)) fun c=>ifb (ilt c 0) (none) (ck (a+(1:Int)) fun i=>f c i)) (g b)
def å (d:rn) (e:Int) (a:Int) (b:ag) (f:Int->ag->x9 ρ) (g:ag->x9 ρ):x9 ρ :=
  ifb (ilt a e) (ă d a fun c=>ä (Ú ((List.length b)+(List.length c))) (ck (a+(1:Int)) fun h=>f h (b++c))) (g b)
def jO (a:rn) (k:ag->x9 ρ):x9 ρ :=
  Î (fun(c:an) g=>ğ a (Û a) c.1 c.2 (fun h i=>g (h,i)) (fun d=>ifb (ilt d 0) (none) (ck (d-(0:Int)) fun b=>ifb (igt b 0) (ä ((ilt 0 b)&&(Ú (Int.toNat b))) (ä (ile 0 (ē (List.replicate (Int.toNat b) (0:Int)))) (Î (fun(e:io) j=>å a (Û a) e.1 e.2 (fun l m=>j (l,m)) (fun n=>k n)) ((0:Int),(List.take 0 (List.replicate (Int.toNat b) (0:Int))))))) (Î (fun(f:io) o=>å a (Û a) f.1 f.2 (fun p q=>o (p,q)) (fun r=>k r)) ((0:Int),[]))))) ((0:Int),(0:Int))
def Ċ (a:rn):x9 (ag):=jO a some
def vp (l:y5 cT) (m:y5 (Int×Bool)):x9 (y5 cT) :=
  ä (Ú l.length) (some (l.filter fun g=>(pO (k:=tI) (v:=.bool) g.1 m).getD false))
def qe (c:ag) (d:Int) (a:Int) (b:fx) (e:Int->fx->x9 ρ) (f:fx->x9 ρ):x9 ρ :=
  ifb (ilt a d) (ă c a fun g=>ck (a+(1:Int)) fun h=>e h (DZ (k:=tI) (v:=.bool) g true b)) (f b)
def vf (j:bx) (l:Int) (f:ew) (g:eu) (b:Int) (c:fx) (d:fx) (e:Int->fx->fx->x9 ρ) (m:(Val (.pair ak ak))->x9 ρ):x9 ρ :=
  ifb (ilt b l) (ă j b fun a=>ifb (ĺ a.1 0) (none) (ifb (ĺ a.1 1) (ă f a.2 fun n=>ck (b+(1:Int)) fun o=>e o (DZ (k:=tI) (v:=.bool) n.1 true c) d) (ifb (ĺ a.1 2) (ă f a.2 fun p=>ck (b+(1:Int)) fun q=>e q (DZ (k:=tI) (v:=.bool) p.1 true c) d) (ä (ĺ a.1 3) (ă g a.2 fun r=>ă g a.2 fun s=>Ã (Ċ ([r.2.2.1,s.2.2.2.1])) fun h=>Î (fun(i:nx) t=>qe h (Û h) i.1 i.2 (fun u w=>t (u,w)) (fun x=>ck (b+(1:Int)) fun y=>e y x (DZ (k:=tI) (v:=.bool) a.2 true d))) ((0:Int),c)))))) (m (c,d))
def qd (c:bx) (d:Int) (a:Int) (b:fx) (e:Int->fx->x9 ρ) (f:fx->x9 ρ):x9 ρ :=
  ifb (ilt a d) (ă c a fun g=>ck (a+(1:Int)) fun h=>e h (DZ (k:=tI) (v:=.bool) g.1 true b)) (f b)
def pZ (e:bx) (f:Int) (g:fx) (a:Int) (b:bx) (c:Int->bx->x9 ρ) (h:bx->x9 ρ):x9 ρ :=
  ifb (ilt a f) (ă e a fun d=>Mm (k:=tI) (v:=.bool) d.1 g (fun i=>ifb i (ä (Ú ((List.length b)+(List.length ([d])))) (ck (a+(1:Int)) fun j=>c j (b++([d])))) (ck (a+(1:Int)) fun l=>c l b)) (ck (a+(1:Int)) fun m=>c m b)) (h b)
def pY (e:c8) (f:Int) (g:fx) (a:Int) (b:c8) (c:Int->c8->x9 ρ) (h:c8->x9 ρ):x9 ρ :=
  ifb (ilt a f) (ă e a fun d=>Mm (k:=tI) (v:=.bool) d.1 g (fun i=>ifb i (ä (Ú ((List.length b)+(List.length ([d])))) (ck (a+(1:Int)) fun j=>c j (b++([d])))) (ck (a+(1:Int)) fun l=>c l b)) (ck (a+(1:Int)) fun m=>c m b)) (h b)
def pX (e:eu) (f:Int) (g:fx) (a:Int) (b:eu) (d:Int->eu->x9 ρ) (h:eu->x9 ρ):x9 ρ :=
  ifb (ilt a f) (ă e a fun c=>Mm (k:=tI) (v:=.bool) a g (fun i=>ifb i (ä (Ú (List.length c.2.2.1)) (ä (Ú (List.length c.2.2.2.1)) (ä (Ú ((List.length b)+(List.length ([c])))) (ck (a+(1:Int)) fun j=>d j (b++([c])))))) (ck (a+(1:Int)) fun l=>d l b)) (ck (a+(1:Int)) fun m=>d m b)) (h b)
def lC (p:Val aQ) (v:rm) (k:bl->x9 ρ):x9 ρ :=
  Î (fun(a:Val aG) d=>pZ v.2.2.2.1 (Û v.2.2.2.1) v.2.2.2.2.2.2.2.2.2.2.2.2.2.2.2.2.2.2.2.2.2.1 a.1 a.2 (fun e f=>d (e,f)) (fun g=>Î (fun(b:(Val (.pair tI ae))) h=>pY v.2.2.2.2.1 (Û v.2.2.2.2.1) v.2.2.2.2.2.2.2.2.2.2.2.2.2.2.2.2.2.2.2.2.2.1 b.1 b.2 (fun i j=>h (i,j)) (fun l=>Î (fun(c:r7) m=>pX v.2.2.2.2.2.1 (Û v.2.2.2.2.2.1) v.2.2.2.2.2.2.2.2.2.2.2.2.2.2.2.2.2.2.2.2.2.2.1 c.1 c.2 (fun n o=>m (n,o)) (fun q=>k ((p.1,p.2.1),v.2.2.2.2.2.2.2.2.2.2.2.2.2.2.2.2.2.2.2.2.2.2.2,g,l,q,p.2.2))) ((0:Int),[]))) ((0:Int),[]))) ((0:Int),[])
def zE (a:bl) (d:bx) (b:bx) (kA:Val aQ->rm->x9 ρ):x9 ρ :=
  Î (fun(c:(Val (.pair tI (.pair ak ak)))) g=>vf d (Û d) a.2.1 a.2.2.2.2.1 c.1 c.2.1 c.2.2 (fun h i j=>g (h,i,j)) (fun e=>Î (fun(f:nx) k=>qd b (Û b) f.1 f.2 (fun l m=>k (l,m)) (fun n=>kA (a.1.1,a.1.2,b) (a.1.1,a.1.2,a.2.1,a.2.2.1,a.2.2.2.1,a.2.2.2.2.1,a.2.2.2.2.2,(0:Int),(0:Int),[],[],[],[],[],a.1.1,a.1.2,a.2.1,a.2.2.1,a.2.2.2.1,a.2.2.2.2.1,a.2.2.2.2.2,n,e.2,[]))) ((0:Int),e.1))) ((0:Int),[],[])
def W7 (a:bl) (b:bx) (c:bx) (k:bl->x9 ρ):x9 ρ :=
  zE a b c fun p v=>Ã (vp v.2.2.2.2.2.2.2.2.2.2.2.2.2.2.2.2.1 v.2.2.2.2.2.2.2.2.2.2.2.2.2.2.2.2.2.2.2.2.2.1) fun z=>lC p (v.1,v.2.1,v.2.2.1,v.2.2.2.1,v.2.2.2.2.1,v.2.2.2.2.2.1,v.2.2.2.2.2.2.1,v.2.2.2.2.2.2.2.1,v.2.2.2.2.2.2.2.2.1,v.2.2.2.2.2.2.2.2.2.1,v.2.2.2.2.2.2.2.2.2.2.1,v.2.2.2.2.2.2.2.2.2.2.2.1,v.2.2.2.2.2.2.2.2.2.2.2.2.1,v.2.2.2.2.2.2.2.2.2.2.2.2.2.1,v.2.2.2.2.2.2.2.2.2.2.2.2.2.2.1,v.2.2.2.2.2.2.2.2.2.2.2.2.2.2.2.1,v.2.2.2.2.2.2.2.2.2.2.2.2.2.2.2.2.1,v.2.2.2.2.2.2.2.2.2.2.2.2.2.2.2.2.2.1,v.2.2.2.2.2.2.2.2.2.2.2.2.2.2.2.2.2.2.1,v.2.2.2.2.2.2.2.2.2.2.2.2.2.2.2.2.2.2.2.1,v.2.2.2.2.2.2.2.2.2.2.2.2.2.2.2.2.2.2.2.2.1,v.2.2.2.2.2.2.2.2.2.2.2.2.2.2.2.2.2.2.2.2.2.1,v.2.2.2.2.2.2.2.2.2.2.2.2.2.2.2.2.2.2.2.2.2.2.1,z) k
def GJ (a:bl) (b:bx) (c:bx):x9 bl:=W7 a b c some
def JA (a:an) (b:Int) (c:Int) (k:Bool->x9 ρ):x9 ρ :=
  ifb (ile b a.1) (ifb (ile a.1 a.2) (k (ile a.2 c)) (k false)) (k false)
def š (a:an) (b:Int) (c:Int):x9 (Bool):=JA a b c some
def Jw (a:Int) (b:Int) (c:Int) (k:Bool->x9 ρ):x9 ρ :=
  ifb (ile b a) (k (ile a c)) (k false)
def č (a:Int) (b:Int) (c:Int):x9 (Bool):=Jw a b c some
def N6 (a:Int) (k:Bool->x9 ρ):x9 ρ :=
  Ã (č a (0:Int) (20000:Int)) fun b=>k b
def lS (a:Int):x9 (Bool):=N6 a some
def Sn (a:Int) (k:Int->x9 ρ):x9 ρ :=
  ifb (ilt a 0) (k (IntKind.wrap .u64 (0-(IntKind.wrap .u64 a)))) (k (IntKind.wrap .u64 a))
def o8 (a:Int):x9 (Int):=Sn a some
def vh (b:Int) (a:Int) (c:Int->Int->x9 ρ) (d:Int->x9 ρ):x9 ρ :=
  ifb (ine a 0) (ifb (ĺ a 0) (none) (c a (Int.tmod b a))) (d b)
def W8 (b:Int) (c:Int) (k:Int->x9 ρ):x9 ρ :=
  Î (fun(a:ly) d=>vh a.1 a.2 (fun e f=>d (e,f)) (fun g=>k g)) (b,c)
def GK (a:Int) (b:Int):x9 (Int):=W8 a b some
def N0 (a:an) (k:Bool->x9 ρ):x9 ρ :=
  ifb (ige a.2 1) (ifb (ile a.2 2147483647) (Ã (o8 a.1) fun b=>ifb (ile b 2147483647) (Ã (o8 a.1) fun c=>Ã (o8 a.2) fun d=>Ã (GK c d) fun e=>k (ieq e 1)) (k false)) (k false)) (k false)
def qB (a:an):x9 (Bool):=N0 a some
def xN (a:cT) (k:Bool->x9 ρ):x9 ρ :=
  Ã (qB a.2.2.2.2.1) fun b=>ifb b (Ã (č a.2.2.2.2.1.1 (-1000:Int) (1000:Int)) fun c=>ifb c (Ã (č a.1 (1:Int) (1099511627776:Int)) fun d=>ifb d (Ã (lS a.2.1) fun e=>ifb e (Ã (č a.2.2.1 (1:Int) (1125899906842624:Int)) fun f=>ifb f (Ã (š a.2.2.2.1 (-1073741824:Int) (1073741824:Int)) fun g=>ifb g (ifb (ile a.2.2.2.2.1.2 100) (Ã (č a.2.2.2.2.2 (0:Int) (1048576:Int)) fun h=>k h) (k false)) (k false)) (k false)) (k false)) (k false)) (Ã (č a.1 (1:Int) (1099511627776:Int)) fun i=>ifb i (Ã (lS a.2.1) fun j=>ifb j (Ã (č a.2.2.1 (1:Int) (1125899906842624:Int)) fun l=>ifb l (Ã (š a.2.2.2.1 (-1073741824:Int) (1073741824:Int)) fun m=>ifb m (k false) (k false)) (k false)) (k false)) (k false))) (Ã (č a.1 (1:Int) (1099511627776:Int)) fun n=>ifb n (Ã (lS a.2.1) fun o=>ifb o (Ã (č a.2.2.1 (1:Int) (1125899906842624:Int)) fun p=>ifb p (Ã (š a.2.2.2.1 (-1073741824:Int) (1073741824:Int)) fun q=>ifb q (k false) (k false)) (k false)) (k false)) (k false))
def rZ (a:cT):x9 (Bool):=xN a some
def gJ (e:ew) (f:Int) (g:ew) (a:Int) (b:Int->x9 ρ) (c:Int->x9 ρ) (h:Unit->x9 ρ):x9 ρ :=
  ifb (ilt a f) (ă e a fun d=>Ã (rZ d) fun i=>ifb (!i) (c (1:Int)) (ifb (igt a 0) (ck (a-(1:Int)) fun j=>ă g j fun k=>ifb (ile d.1 k.1) (c (6:Int)) (ck (a+(1:Int)) fun l=>b l)) (ck (a+(1:Int)) fun m=>b m))) (h ())
def uj (a:bl) (k:Int->x9 ρ):x9 ρ :=
  Î (fun(b:Int) c=>gJ a.2.1 (Û a.2.1) a.2.1 b (fun d=>c d) (fun e=>k e) (fun _=>k (0:Int))) (0:Int)
def ŗ (a:bl):x9 (Int):=uj a some
def kY (d:ew) (e:Int) (a:Int) (b:pg) (f:Int->pg->x9 ρ) (g:pg->x9 ρ):x9 ρ :=
  ifb (ilt a e) (ă d a fun c=>ck (a+(1:Int)) fun h=>f h (DZ (k:=tI) (v:=Ê) c.1 c b)) (g b)
def FK (a:bl) (k:pg->x9 ρ):x9 ρ :=
  Î (fun(b:(Val (.pair tI aq))) c=>kY a.2.1 (Û a.2.1) b.1 b.2 (fun d e=>c (d,e)) (fun f=>k f)) ((0:Int),[])
def Ŭ (a:bl):x9 (pg):=FK a some
def ź (b:ag) (c:Int) (d:Int) (a:Int) (e:Int->x9 ρ) (f:Int->x9 ρ) (g:Unit->x9 ρ):x9 ρ :=
  ifb (ilt a d) (ă b a fun h=>ifb (ieq c h) (f a) (ck (a+(1:Int)) fun i=>e i)) (g ())
def pR (a:ag) (b:Int) (k:Int->x9 ρ):x9 ρ :=
  Î (fun(c:Int) d=>ź a b (Û a) c (fun e=>d e) (fun f=>k f) (fun _=>k (-1:Int))) (0:Int)
def il (a:ag) (b:Int):x9 (Int):=pR a b some
def mj (a:ag) (b:Int) (k:Bool->x9 ρ):x9 ρ :=
  Ã (il a b) fun c=>k (ige c 0)
def Ĕ (a:ag) (b:Int):x9 (Bool):=mj a b some
def rI (f:eu) (g:Int) (d:Int) (a:Int) (b:ag) (e:Int->ag->x9 ρ) (h:ag->x9 ρ):x9 ρ :=
  ifb (ilt a g) (ă f a fun c=>Ã (Ĕ c.2.2.1 d) fun i=>Ã (Ĕ c.2.2.2.1 d) fun j=>ifb (!(i==j)) (ä (Ú ((List.length b)+(List.length ([c.2.1])))) (ck (a+(1:Int)) fun k=>e k (b++([c.2.1])))) (ck (a+(1:Int)) fun l=>e l b)) (h b)
def rH (e:bx) (f:Int) (g:Int) (a:Int) (b:ag) (d:Int->ag->x9 ρ) (h:ag->x9 ρ):x9 ρ :=
  ifb (ilt a f) (ă e a fun c=>ifb (ieq c.1 g) (ä (Ú ((List.length b)+(List.length ([c.2])))) (ck (a+(1:Int)) fun i=>d i (b++([c.2])))) (ck (a+(1:Int)) fun j=>d j b)) (h b)
def Sx (a:bl) (b:cT) (k:ag->x9 ρ):x9 ρ :=
  Î (fun(d:io) f=>rI a.2.2.2.2.1 (Û a.2.2.2.2.1) b.1 d.1 d.2 (fun g h=>f (g,h)) (fun i=>Î (fun(e:io) j=>rH a.2.2.2.2.2 (Û a.2.2.2.2.2) b.1 e.1 e.2 (fun l m=>j (l,m)) (fun c=>ä (Ú (List.length c)) (ä (Ú (List.length (Hx c))) (k (vH (Hx c)))))) ((0:Int),i))) ((0:Int),[b.2.1])
def mM (a:bl) (b:cT):x9 (ag):=Sx a b some
def oI (e:ag) (f:Int) (c:Int) (a:Int) (b:bx) (g:Int->bx->x9 ρ) (h:bx->x9 ρ):x9 ρ :=
  ifb (ilt a f) (ă e a fun d=>ä (Ú ((List.length b)+(List.length ([(c,d)])))) (ck (a+(1:Int)) fun i=>g i (b++([(c,d)])))) (h b)
def oJ (f:ew) (g:Int) (h:Int) (i:Int) (j:ew) (k:bx) (l:c8) (m:eu) (n:bx) (a:Int) (b:bx) (o:Int->bx->x9 ρ) (p:bx->x9 ρ):x9 ρ :=
  ifb (ilt a g) (ă f a fun c=>Ã (mM ((h,i),j,k,l,m,n) c) fun d=>Î (fun(e:Val aG) q=>oI d (Û d) c.1 e.1 e.2 (fun r s=>q (r,s)) (fun t=>ck (a+(1:Int)) fun u=>o u t)) ((0:Int),b)) (p b)
def N5 (a:bl) (k:bx->x9 ρ):x9 ρ :=
  Î (fun(b:Val aG) c=>oJ a.2.1 (Û a.2.1) a.1.1 a.1.2 a.2.1 a.2.2.1 a.2.2.2.1 a.2.2.2.2.1 a.2.2.2.2.2 b.1 b.2 (fun d e=>c (d,e)) (fun f=>k f)) ((0:Int),[])
def nY (a:bl):x9 (bx):=N5 a some
def wO (a:pg) (b:Int) (c:Int) (k:Int->x9 ρ):x9 ρ :=
  Mm (k:=tI) (v:=Ê) b a (fun d=>ifb (ilt c d.2.1) (k (4:Int)) (k (0:Int))) (k (5:Int))
def gC (a:pg) (b:Int) (c:Int):x9 (Int):=wO a b c some
def FP (b:Int) (a:Int) (c:(Val (.ptr aq))) (k:Int->x9 ρ):x9 ρ :=
  Ã (lS a) fun d=>ifb (!d) (k (1:Int)) (Ã (gC c b a) fun e=>k e)
def ħ (a:Int) (b:Int) (c:(Val (.ptr aq))):x9 (Int):=FP a b c some
def iX (d:c8) (e:Int) (f:Int) (g:Int) (h:Int) (a:Int) (b:Int->x9 ρ) (i:Int->x9 ρ) (j:Unit->x9 ρ):x9 ρ :=
  ifb (ilt a e) (ă d a fun c=>ifb (ieq c.1 f) (ifb (ile c.2.1.1 h) (ifb (ile g c.2.1.2) (i a) (ck (a+(1:Int)) fun k=>b k)) (ck (a+(1:Int)) fun l=>b l)) (ck (a+(1:Int)) fun m=>b m)) (j ())
def Š (d:bx) (e:Int) (f:Int) (g:Int) (h:Int) (a:Int) (b:Int->x9 ρ) (i:Int->x9 ρ) (j:Unit->x9 ρ):x9 ρ :=
  ifb (ilt a e) (ă d a fun c=>ifb (ieq c.1 f) (Ã (č c.2 g h) fun k=>ifb k (i a) (ck (a+(1:Int)) fun l=>b l)) (ck (a+(1:Int)) fun m=>b m)) (j ())
def rJ (b:bl) (e:pg) (c:Int) (k:Int->x9 ρ):x9 ρ :=
  ă b.2.2.2.1 c fun a=>Ã (š a.2.1 (0:Int) (20000:Int)) fun f=>ifb (!f) (k (1:Int)) (Ã (č a.2.2 (0:Int) (1048576:Int)) fun g=>ifb (!g) (k (1:Int)) (Ã (gC e a.1 a.2.1.1) fun d=>ifb (ine d 0) (k d) (ä ((ile 0 c)&&(ile c (ē b.2.2.2.1))) (Î (fun(h:Int) i=>iX (List.take (Int.toNat c) b.2.2.2.1) (Û (List.take (Int.toNat c) b.2.2.2.1)) a.1 a.2.1.1 a.2.1.2 h (fun j=>i j) (fun l=>ifb (ige l 0) (k (9:Int)) (Î (fun(m:Int) n=>Š b.2.2.1 (Û b.2.2.1) a.1 a.2.1.1 a.2.1.2 m (fun o=>n o) (fun p=>ifb (ige p 0) (k (9:Int)) (k (0:Int))) (fun _=>k (0:Int))) (0:Int))) (fun _=>Î (fun(q:Int) r=>Š b.2.2.1 (Û b.2.2.1) a.1 a.2.1.1 a.2.1.2 q (fun s=>r s) (fun t=>ifb (ige t 0) (k (9:Int)) (k (0:Int))) (fun _=>k (0:Int))) (0:Int))) (0:Int)))))
def Ť (a:bl) (b:pg) (c:Int):x9 (Int):=rJ a b c some
def mF (e:ag) (f:ag) (g:Int) (a:Int) (b:Int->x9 ρ) (c:Bool->x9 ρ) (h:Unit->x9 ρ):x9 ρ :=
  ifb (ilt a g) (ă f a fun d=>Ã (č d (1:Int) (1099511627776:Int)) fun i=>ifb (!i) (c false) (ifb (igt a 0) (ck (a-(1:Int)) fun j=>ă e j fun k=>ifb (ile d k) (c false) (ck (a+(1:Int)) fun l=>b l)) (ck (a+(1:Int)) fun m=>b m))) (h ())
def Jz (a:ag) (k:Bool->x9 ρ):x9 ρ :=
  Î (fun(b:Int) c=>mF a a (Û a) b (fun d=>c d) (fun e=>k e) (fun _=>k (ile (Û a) 6))) (0:Int)
def qC (a:ag):x9 (Bool):=Jz a some
def rG (c:Int) (d:ag) (b:ag) (a:Int) (e:Int->x9 ρ) (f:Int->x9 ρ) (g:Unit->x9 ρ):x9 ρ :=
  ifb (ilt a c) (ä ((ile 0 a)&&(ilt a (ē b))) (gO b (Int.toNat a) fun h=>Ã (Ĕ d h) fun i=>ifb i (f a) (ck (a+(1:Int)) fun j=>e j))) (g ())
def jg (f:ag) (b:Int) (c:Int) (a:ag) (d:Int->Int->ag->x9 ρ) (g:io->x9 ρ):x9 ρ :=
  ifb (ilt c (Û a)) (ä ((ile 0 c)&&(ilt c (ē a))) (gO a (Int.toNat c) fun e=>Ã (Ĕ f e) fun h=>ifb (!h) (ä ((ile 0 b)&&(ilt b (ē a))) (gO a (Int.toNat b) fun l=>ck (b+(1:Int)) fun i=>ck (c+(1:Int)) fun j=>d i j (List.set a (Int.toNat b) e))) (ck (c+(1:Int)) fun k=>d b k a))) (g (b,a))
def Sw (b:ag) (e:ag) (k:ag->x9 ρ):x9 ρ :=
  ä (Ú (List.length b)) (Î (fun(f:Int) g=>rG (Û b) e b f (fun h=>g h) (fun c=>ifb (ieq c (-1:Int)) (k b) (ck (c+(1:Int)) fun i=>Î (fun(d:(Val (.pair tI ax))) j=>jg e d.1 d.2.1 d.2.2 (fun l m n=>j (l,m,n)) (fun a=>ä ((ile 0 a.1)&&(ile a.1 (ē a.2))) (ä ((ile 0 a.1)&&(ile a.1 (ē (List.take (Int.toNat a.1) a.2++List.replicate (List.length a.2-(Int.toNat a.1)) (0:Int)++List.drop ((Int.toNat a.1)+(List.length a.2-(Int.toNat a.1))) a.2)))) (k (List.take (Int.toNat a.1) (List.drop 0 (List.take (Int.toNat a.1) a.2++List.replicate (List.length a.2-(Int.toNat a.1)) (0:Int)++List.drop ((Int.toNat a.1)+(List.length a.2-(Int.toNat a.1))) a.2))))))) (c,i,b))) (fun _=>k b)) (0:Int))
def η (a:ag) (b:ag):x9 (ag):=Sw a b some
def rK (d:c8) (e:Int) (f:Int) (g:Int) (a:Int) (c:Int->x9 ρ) (h:Int->x9 ρ) (i:Unit->x9 ρ):x9 ρ :=
  ifb (ilt a e) (ă d a fun b=>ifb (ieq b.1 f) (Ã (č g b.2.1.1 b.2.1.2) fun j=>ifb j (h a) (ck (a+(1:Int)) fun k=>c k)) (ck (a+(1:Int)) fun l=>c l)) (i ())
def Sy (a:bl) (c:Int) (d:Int) (k:(Val (.pair Ŏ .bool))->x9 ρ):x9 ρ :=
  Î (fun(e:Int) f=>rK a.2.2.2.1 (Û a.2.2.2.1) c d e (fun g=>f g) (fun b=>ifb (ilt b 0) (k (((0:Int),((0:Int),(0:Int)),(0:Int)),false)) (ă a.2.2.2.1 b fun h=>k (h,true))) (fun _=>k (((0:Int),((0:Int),(0:Int)),(0:Int)),false))) (0:Int)
def vD (a:bl) (b:Int) (c:Int):x9 ((Val (.pair Ŏ .bool))):=Sy a b c some
def Ω (b:eu) (c:Int) (d:Int) (a:Int) (e:Int->x9 ρ) (f:Int->x9 ρ) (g:Unit->x9 ρ):x9 ρ :=
  ifb (ilt a c) (ă b a fun h=>ifb (ieq h.1 d) (f a) (ck (a+(1:Int)) fun i=>e i)) (g ())
def Χ (c:pg) (b:Int) (d:ag) (e:Int) (f:Int) (a:Int) (g:Int->x9 ρ) (h:Int->x9 ρ) (i:Unit->x9 ρ):x9 ρ :=
  ifb (ilt a e) (ă d a fun j=>Ã (gC c j f) fun k=>ifb (ieq k b) (h b) (ck (a+(1:Int)) fun l=>g l)) (i ())
def Ķ (d:pg) (b:ag) (e:Int) (f:Int) (c:ag) (a:Int) (g:Int->x9 ρ) (h:Int->x9 ρ) (i:Unit->x9 ρ):x9 ρ :=
  ifb (ilt a e) (ä ((ile 0 a)&&(ilt a (ē c))) (gO c (Int.toNat a) fun j=>Î (fun(k:Int) l=>Χ d j b (Û b) f k (fun m=>l m) (fun n=>h n) (fun _=>ck (a+(1:Int)) fun o=>g o)) (0:Int))) (i ())
def ĵ (b:ag) (c:Int) (d:Int) (e:Int) (f:ew) (g:bx) (h:c8) (i:eu) (j:bx) (k:Int) (a:Int) (l:Int->x9 ρ) (m:Int->x9 ρ) (n:Unit->x9 ρ):x9 ρ :=
  ifb (ilt a c) (ă b a fun o=>Ã (vD ((d,e),f,g,h,i,j) o k) fun p=>ifb p.2 (m (9:Int)) (ck (a+(1:Int)) fun q=>l q)) (n ())
def l8 (b:bl) (f:pg) (c:Int) (k:Int->x9 ρ):x9 ρ :=
  ă b.2.2.2.2.1 c fun a=>Ã (č a.1 (1:Int) (1099511627776:Int)) fun l=>ifb (!l) (k (1:Int)) (Ã (lS a.2.1) fun m=>ifb (!m) (k (1:Int)) (Ã (č a.2.2.2.2.1 (-1125899906842624:Int) (1125899906842624:Int)) fun n=>ifb (!n) (k (1:Int)) (Ã (č a.2.2.2.2.2.1 (0:Int) (1073741824:Int)) fun o=>ifb (!o) (k (1:Int)) (Ã (š a.2.2.2.2.2.2 (-10000:Int) (10000:Int)) fun p=>ifb (!p) (k (1:Int)) (Ã (qC a.2.2.1) fun q=>ifb (!q) (k (1:Int)) (Ã (qC a.2.2.2.1) fun r=>ifb (!r) (k (1:Int)) (ä ((ile 0 c)&&(ile c (ē b.2.2.2.2.1))) (Î (fun(s:Int) t=>Ω (List.take (Int.toNat c) b.2.2.2.2.1) (Û (List.take (Int.toNat c) b.2.2.2.2.1)) a.1 s (fun u=>t u) (fun v=>ifb (ige v 0) (k (6:Int)) (Ã (Ċ ([a.2.2.1,a.2.2.2.1])) fun d=>Î (fun(w:Int) x=>Ķ f d (Û ([(5:Int),(4:Int)])) a.2.1 ([(5:Int),(4:Int)]) w (fun y=>x y) (fun z=>k z) (fun _=>Î (fun(A:Int) B=>ĵ d (Û d) b.1.1 b.1.2 b.2.1 b.2.2.1 b.2.2.2.1 b.2.2.2.2.1 b.2.2.2.2.2 a.2.1 A (fun C=>B C) (fun D=>k D) (fun _=>Ã (η a.2.2.1 a.2.2.2.1) fun g=>Ã (η a.2.2.2.1 a.2.2.1) fun h=>ifb (igt (Û g) 1) (k (1:Int)) (ifb (igt (Û h) 1) (k (1:Int)) (ck ((Û g)+(Û h)) fun E=>ifb (ieq E 0) (k (1:Int)) (k (0:Int)))))) (0:Int))) (0:Int))) (fun _=>Ã (Ċ ([a.2.2.1,a.2.2.2.1])) fun e=>Î (fun(F:Int) G=>Ķ f e (Û ([(5:Int),(4:Int)])) a.2.1 ([(5:Int),(4:Int)]) F (fun H=>G H) (fun I=>k I) (fun _=>Î (fun(J:Int) K=>ĵ e (Û e) b.1.1 b.1.2 b.2.1 b.2.2.1 b.2.2.2.1 b.2.2.2.2.1 b.2.2.2.2.2 a.2.1 J (fun L=>K L) (fun M=>k M) (fun _=>Ã (η a.2.2.1 a.2.2.2.1) fun i=>Ã (η a.2.2.2.1 a.2.2.1) fun j=>ifb (igt (Û i) 1) (k (1:Int)) (ifb (igt (Û j) 1) (k (1:Int)) (ck ((Û i)+(Û j)) fun N=>ifb (ieq N 0) (k (1:Int)) (k (0:Int)))))) (0:Int))) (0:Int))) (0:Int)))))))))
def ĩ (a:bl) (b:pg) (c:Int):x9 (Int):=l8 a b c some
def lP (b:bl) (s:pg):x9 (y5 Int) :=
  Ã (E7 (fun u=>ħ u.1 u.2 s) (b.2.2.1:y5 (Int×Int))) fun a=>Ã (E7 (fun i=>Ť b s i) (ta (b.2.2.2.1:y5 qs).length)) fun c =>
    Ã (E7 (fun i=>ĩ b s i) (ta (b.2.2.2.2.1:y5 js).length)) fun d=>Ã (E7 (fun u=>ħ u.1 u.2 s) (b.2.2.2.2.2:y5 (Int×Int))) fun e=>some (a++(c++(d++e)))
def F6 (a:bl) (k:Int->x9 ρ):x9 ρ :=
  Ã (š a.1 (0:Int) (1000000:Int)) fun d=>ifb (!d) (k (1:Int)) (ifb (igt (Û a.2.1) 12) (k (2:Int)) (ifb (igt (Û a.2.2.1) 40) (k (2:Int)) (ifb (igt (Û a.2.2.2.1) 12) (k (2:Int)) (ifb (igt (Û a.2.2.2.2.1) 40) (k (2:Int)) (ifb (igt (Û a.2.2.2.2.2) 10) (k (2:Int)) (Ã (ŗ a) fun b=>ifb (ine b 0) (k b) (Ã (Ŭ a) fun e=>MY (lP a e) (fun f=>k f) (Ã (nY a) fun c=>ifb (igt (Û c) 59) (k (2:Int)) (ck ((2:Int)*(Û a.2.1)) fun g=>ck ((Û c)-(Û a.2.1)) fun h=>ck ((2:Int)*h) fun i=>ck (g+i) fun j=>ck ((2:Int)*(Û a.2.2.2.2.1)) fun l=>ck (j+l) fun m=>ifb (igt m 300) (k (2:Int)) (k (0:Int)))))))))))
def Ā (a:bl):x9 (Int):=F6 a some
def Jl (a:js) (k:Bool->x9 ρ):x9 ρ :=
  ifb (ile (Û a.2.2.1) 10) (k (ile (Û a.2.2.2.1) 10)) (k false)
def vy (a:js):x9 (Bool):=Jl a some
def qY (b:eu) (a:Int) (d:Int->x9 ρ) (e:Bool->x9 ρ) (c:Unit->x9 ρ):x9 ρ :=
  ifb (ilt a (Û b)) (ifb (ilt a 50) (ă b a fun f=>Ã (vy f) fun g=>ifb (!g) (e false) (ck (a+(1:Int)) fun h=>d h)) (c ())) (c ())
def Sj (a:bl) (k:Bool->x9 ρ):x9 ρ :=
  Î (fun(b:Int) c=>qY a.2.2.2.2.1 b (fun d=>c d) (fun e=>k e) (fun _=>ifb (ile (Û a.2.1) 14) (ifb (ile (Û a.2.2.1) 45) (ifb (ile (Û a.2.2.2.1) 14) (ifb (ile (Û a.2.2.2.2.1) 42) (k (ile (Û a.2.2.2.2.2) 12)) (k false)) (k false)) (k false)) (k false))) (0:Int)
def Eb (a:bl):x9 (Bool):=Sj a some
def rS:x9 (Bool):=some true
def rE (d:ag) (e:Int) (a:ByteArray) (b:Int) (f:ByteArray->Int->x9 ρ) (g:ByteArray->x9 ρ):x9 ρ :=
  ifb (ilt b e) (ă d b fun h=>Ã (gA h) fun c=>ä (Ú (ByteArray.size (ByteArray.mk #[32])+ByteArray.size c)) (ä (Ú (ByteArray.size a+ByteArray.size ((ByteArray.mk #[32])++c))) (ck (b+(1:Int)) fun i=>f (a++((ByteArray.mk #[32])++c)) i))) (g a)
def Sv (c:ByteArray) (a:ag) (k:ByteArray->x9 ρ):x9 ρ :=
  Î (fun(b:rx) d=>rE a (Û a) b.1 b.2 (fun e f=>d (e,f)) (fun g=>k g)) (c,(0:Int))
def jV (a:ByteArray) (b:ag):x9 (ByteArray):=Sv a b some
def oQ (e:ew) (f:Int) (b:Int) (c:ey) (g:Int->ey->x9 ρ) (h:ey->x9 ρ):x9 ρ :=
  ifb (ilt b f) (ă e b fun a=>Ã (jV (ByteArray.mk #[103,97,117,103,101]) ([a.1,a.2.1,a.2.2.1,a.2.2.2.1.1,a.2.2.2.1.2,a.2.2.2.2.1.1,a.2.2.2.2.1.2,a.2.2.2.2.2])) fun d=>ä (Ú ((List.length c)+(List.length ([d])))) (ck (b+(1:Int)) fun i=>g i (c++([d])))) (h c)
def oP (e:bx) (f:Int) (a:Int) (b:ey) (g:Int->ey->x9 ρ) (h:ey->x9 ρ):x9 ρ :=
  ifb (ilt a f) (ă e a fun c=>Ã (jV (ByteArray.mk #[117,115,101]) ([c.1,c.2])) fun d=>ä (Ú ((List.length b)+(List.length ([d])))) (ck (a+(1:Int)) fun i=>g i (b++([d])))) (h b)
def oO (e:c8) (f:Int) (b:Int) (c:ey) (g:Int->ey->x9 ρ) (h:ey->x9 ρ):x9 ρ :=
  ifb (ilt b f) (ă e b fun a=>Ã (jV (ByteArray.mk #[108,111,97,110]) ([a.1,a.2.1.1,a.2.1.2,a.2.2])) fun d=>ä (Ú ((List.length c)+(List.length ([d])))) (ck (b+(1:Int)) fun i=>g i (c++([d])))) (h c)
def oN (g:eu) (h:Int) (d:Int) (e:ey) (i:Int->ey->x9 ρ) (j:ey->x9 ρ):x9 ρ :=
  ifb (ilt d h) (ă g d fun a=>Ã (jV (ByteArray.mk #[99,111,109,112,97,114,101]) ([a.1,a.2.1,a.2.2.2.2.1,a.2.2.2.2.2.1,a.2.2.2.2.2.2.1,a.2.2.2.2.2.2.2])) fun b=>Ã (jV (ByteArray.mk #[32,97]) a.2.2.1) fun c=>ä (Ú (ByteArray.size b+ByteArray.size c)) (Ã (jV (ByteArray.mk #[32,98]) a.2.2.2.1) fun f=>ä (Ú (ByteArray.size (b++c)+ByteArray.size f)) (ä (Ú ((List.length e)+(List.length ([((b++c)++f)])))) (ck (d+(1:Int)) fun k=>i k (e++([((b++c)++f)])))))) (j e)
def oM (e:bx) (f:Int) (a:Int) (b:ey) (g:Int->ey->x9 ρ) (h:ey->x9 ρ):x9 ρ :=
  ifb (ilt a f) (ă e a fun c=>Ã (jV (ByteArray.mk #[108,111,111,107]) ([c.1,c.2])) fun d=>ä (Ú ((List.length b)+(List.length ([d])))) (ck (a+(1:Int)) fun i=>g i (b++([d])))) (h b)
def Au (a:bl) (k:rx->x9 ρ):x9 ρ :=
  Ã (Ā a) fun b=>ifb (ine b 0) (k ((ByteArray.mk #[]),b)) (Ã (jV (ByteArray.mk #[102,105,108,109]) ([a.1.1,a.1.2])) fun i=>Î (fun(c:v8) j=>oQ a.2.1 (Û a.2.1) c.1 c.2 (fun l m=>j (l,m)) (fun n=>Î (fun(d:v8) o=>oP a.2.2.1 (Û a.2.2.1) d.1 d.2 (fun p q=>o (p,q)) (fun r=>Î (fun(e:v8) s=>oO a.2.2.2.1 (Û a.2.2.2.1) e.1 e.2 (fun t u=>s (t,u)) (fun v=>Î (fun(f:v8) w=>oN a.2.2.2.2.1 (Û a.2.2.2.2.1) f.1 f.2 (fun x y=>w (x,y)) (fun z=>Î (fun(g:v8) A=>oM a.2.2.2.2.2 (Û a.2.2.2.2.2) g.1 g.2 (fun B C=>A (B,C)) (fun D=>Ã (pv D (ByteArray.mk #[10])) fun h=>ä (Ú (ByteArray.size h+ByteArray.size (ByteArray.mk #[10]))) (k ((h++(ByteArray.mk #[10])),(0:Int))))) ((0:Int),z))) ((0:Int),v))) ((0:Int),r))) ((0:Int),n))) ((0:Int),[i]))
def jW (a:bl):x9 (rx):=Au a some
def Fm (d:ag) (e:Int) (a:ByteArray) (b:Int) (f:ByteArray->Int->x9 ρ) (g:ByteArray->x9 ρ):x9 ρ :=
  ifb (ilt b e) (ă d b fun h=>Ã (gA h) fun c=>ä (Ú (ByteArray.size (ByteArray.mk #[32])+ByteArray.size c)) (ä (Ú (ByteArray.size a+ByteArray.size ((ByteArray.mk #[32])++c))) (ck (b+(1:Int)) fun i=>f (a++((ByteArray.mk #[32])++c)) i))) (g a)
def aaw (c:ByteArray) (a:ag) (k:ByteArray->x9 ρ):x9 ρ :=
  Î (fun(b:rx) d=>Fm a (Û a) b.1 b.2 (fun e f=>d (e,f)) (fun g=>k g)) (c,(0:Int))
def oX (a:ByteArray) (b:ag):x9 (ByteArray):=aaw a b some
def Fs (b:pc) (k:rx->x9 ρ):x9 ρ :=
  Ã (jW b.1) fun a=>ifb (ine a.2 0) (k ((ByteArray.mk #[]),a.2)) (ifb (igt (Û b.2.2.2.2) 80) (k ((ByteArray.mk #[]),(2:Int))) (ifb b.2.2.1 (Ã (oX (ByteArray.mk #[99,101,114,116]) ([b.2.1.1,b.2.1.2])) fun c=>ä (Ú (ByteArray.size a.1+ByteArray.size c)) (ä (Ú (ByteArray.size (a.1++c)+ByteArray.size (ByteArray.mk #[32,117,112,112,101,114,32]))) (Ã (gA b.2.2.2.1) fun e=>ä (Ú (ByteArray.size ((a.1++c)++(ByteArray.mk #[32,117,112,112,101,114,32]))+ByteArray.size e)) (ä (Ú (ByteArray.size (((a.1++c)++(ByteArray.mk #[32,117,112,112,101,114,32]))++e)+ByteArray.size (ByteArray.mk #[10]))) (Ã (oX (ByteArray.mk #[99,104,97,105,110]) b.2.2.2.2) fun g=>ä (Ú (ByteArray.size ((((a.1++c)++(ByteArray.mk #[32,117,112,112,101,114,32]))++e)++(ByteArray.mk #[10]))+ByteArray.size g)) (ä (Ú (ByteArray.size (((((a.1++c)++(ByteArray.mk #[32,117,112,112,101,114,32]))++e)++(ByteArray.mk #[10]))++g)+ByteArray.size (ByteArray.mk #[10]))) (k (((((((a.1++c)++(ByteArray.mk #[32,117,112,112,101,114,32]))++e)++(ByteArray.mk #[10]))++g)++(ByteArray.mk #[10])),(0:Int))))))))) (Ã (oX (ByteArray.mk #[99,101,114,116]) ([b.2.1.1,b.2.1.2])) fun d=>ä (Ú (ByteArray.size a.1+ByteArray.size d)) (ä (Ú (ByteArray.size (a.1++d)+ByteArray.size (ByteArray.mk #[32,108,111,119,101,114,32]))) (Ã (gA b.2.2.2.1) fun f=>ä (Ú (ByteArray.size ((a.1++d)++(ByteArray.mk #[32,108,111,119,101,114,32]))+ByteArray.size f)) (ä (Ú (ByteArray.size (((a.1++d)++(ByteArray.mk #[32,108,111,119,101,114,32]))++f)+ByteArray.size (ByteArray.mk #[10]))) (Ã (oX (ByteArray.mk #[99,104,97,105,110]) b.2.2.2.2) fun h=>ä (Ú (ByteArray.size ((((a.1++d)++(ByteArray.mk #[32,108,111,119,101,114,32]))++f)++(ByteArray.mk #[10]))+ByteArray.size h)) (ä (Ú (ByteArray.size (((((a.1++d)++(ByteArray.mk #[32,108,111,119,101,114,32]))++f)++(ByteArray.mk #[10]))++h)+ByteArray.size (ByteArray.mk #[10]))) (k (((((((a.1++d)++(ByteArray.mk #[32,108,111,119,101,114,32]))++f)++(ByteArray.mk #[10]))++h)++(ByteArray.mk #[10])),(0:Int)))))))))))
def uB (a:pc):x9 (rx):=Fs a some
def Ŵ (b:ByteArray) (a:ByteArray) (k:Bool->x9 ρ):x9 ρ :=
  ifb (ige (DX (ByteArray.size b)) (DX (ByteArray.size a))) (ä ((ile 0 (DX (ByteArray.size a)))&&(ile (DX (ByteArray.size a)) ((ByteArray.size b:Nat):Int))) (k ((ByteArray.extract b 0 (Int.toNat (DX (ByteArray.size a)))).toList==a.toList))) (k false)
def ī (a:ByteArray) (b:ByteArray):x9 (Bool):=Ŵ a b some
def nB (a:ByteArray) (b:ByteArray) (k:Bool->x9 ρ):x9 ρ :=
  Ã (ī a b) fun c=>k c
def ŕ (a:ByteArray) (b:ByteArray):x9 (Bool):=nB a b some
def kZ (e:ey) (f:Int) (b:Int) (a:ag) (d:Int->ag->x9 ρ) (g:ag->x9 ρ):x9 ρ :=
  ifb (ilt b f) (ă e b fun h=>Ã (Vi h) fun c=>ifb c.2 (ä (Ú ((List.length a)+(List.length ([(0:Int)])))) (ck (b+(1:Int)) fun i=>d i (a++([(0:Int)])))) (ä (Ú ((List.length a)+(List.length ([c.1])))) (ck (b+(1:Int)) fun j=>d j (a++([c.1]))))) (g a)
def xL (a:ey) (k:ag->x9 ρ):x9 ρ :=
  Î (fun(b:io) c=>kZ a (Û a) b.1 b.2 (fun d e=>c (d,e)) (fun f=>k f)) ((0:Int),[])
def ņ (a:ey):x9 (ag):=xL a some
def lE (b:ey) (d:ey) (e:Int) (a:Int) (f:Int->x9 ρ) (g:Val aR->x9 ρ) (h:Unit->x9 ρ):x9 ρ :=
  ifb (ilt a e) (ă d a fun i=>ifb (i.toList==(ByteArray.mk #[98]).toList) (ä ((ile 1 a)&&(ile a (ē b))) (Ã (ņ (List.take (Int.toNat (a-(1:Int))) (List.drop 1 b))) fun j=>ck (a+(1:Int)) fun c=>ä ((ile 0 c)&&(ile c (ē b))) (Ã (ņ (List.drop (Int.toNat c) b)) fun k=>g (j,k)))) (ck (a+(1:Int)) fun l=>f l)) (h ())
def N4 (a:ey) (k:Val aR->x9 ρ):x9 ρ :=
  ifb (ieq (Û a) 0) (k ([],[])) (ă a (0:Int) fun c=>ifb (!(c.toList==(ByteArray.mk #[97]).toList)) (k ([],[])) (Î (fun(d:Int) e=>lE a a (Û a) d (fun f=>e f) (fun b=>k (b.1,b.2)) (fun _=>k ([],[]))) (0:Int)))
def AW (a:ey):x9 ((Val aR)):=N4 a some
def lN (j:Int) (k:Int) (l:Int) (m:Int) (c:Int) (n:Int) (o:Int) (p:Int) (q:ew) (r:bx) (s:c8) (t:eu) (u:bx) (v:Int) (A:Int) (B:Int) (d:ew) (e:bx) (f:c8) (g:eu) (h:bx) (y:ByteArray) (w:Int->Int->ew->bx->c8->eu->bx->Int->Int->Int->ew->bx->c8->eu->bx->x9 ρ) (i:Val az->x9 ρ):x9 ρ :=
  Ã (Ň y (ByteArray.mk #[10])) fun r1=>Ã (nT r1 (ByteArray.mk #[32])) fun a=>ă a (0:Int) fun x=>ifb (PT x (ByteArray.mk #[102,105,108,109])) (ä (ile 1 (ē a)) (ifb (ilt (Û (List.drop 1 a)) j) (i ((0:Int),(0:Int),[],[],[],[],[],(7:Int))) (ä ((ile 0 j)&&(ile j (ē (List.drop 1 a)))) (Ã (ņ (List.take (Int.toNat j) (List.drop 1 a))) fun E=>ä ((ile 0 j)&&(ile j (ē (List.drop 1 a)))) (ă E (0:Int) fun e5=>ă E (1:Int) fun e6=>w o p q r s t u v e5 e6 d e f g h))))) (ifb (PT x (ByteArray.mk #[103,97,117,103,101])) (ä (ile 1 (ē a)) (ifb (ilt (Û (List.drop 1 a)) k) (i ((0:Int),(0:Int),[],[],[],[],[],(7:Int))) (ä ((ile 0 k)&&(ile k (ē (List.drop 1 a)))) (Ã (ņ (List.take (Int.toNat k) (List.drop 1 a))) fun b=>ä ((ile 0 k)&&(ile k (ē (List.drop 1 a)))) (ă b (0:Int) fun F=>ă b (1:Int) fun G=>ă b (2:Int) fun H=>ă b (3:Int) fun I=>ă b (4:Int) fun J=>ă b (5:Int) fun K=>ă b (6:Int) fun L=>ă b (7:Int) fun M=>ä (Ú ((List.length d)+(List.length ([(F,G,H,(I,J),(K,L),M)])))) (w o p q r s t u v A B (d++([(F,G,H,(I,J),(K,L),M)])) e f g h)))))) (ifb (PT x (ByteArray.mk #[117,115,101])) (ä (ile 1 (ē a)) (ifb (ilt (Û (List.drop 1 a)) l) (i ((0:Int),(0:Int),[],[],[],[],[],(7:Int))) (ä ((ile 0 l)&&(ile l (ē (List.drop 1 a)))) (Ã (ņ (List.take (Int.toNat l) (List.drop 1 a))) fun N=>ä ((ile 0 l)&&(ile l (ē (List.drop 1 a)))) (ă N (0:Int) fun O=>ă N (1:Int) fun P=>ä (Ú ((List.length e)+(List.length ([(O,P)])))) (w o p q r s t u v A B d (e++([(O,P)])) f g h)))))) (ifb (PT x (ByteArray.mk #[108,111,97,110])) (ä (ile 1 (ē a)) (ifb (ilt (Û (List.drop 1 a)) m) (i ((0:Int),(0:Int),[],[],[],[],[],(7:Int))) (ä ((ile 0 m)&&(ile m (ē (List.drop 1 a)))) (Ã (ņ (List.take (Int.toNat m) (List.drop 1 a))) fun C=>ä ((ile 0 m)&&(ile m (ē (List.drop 1 a)))) (ă C (0:Int) fun Q=>ă C (1:Int) fun R=>ă C (2:Int) fun S=>ă C (3:Int) fun T=>ä (Ú ((List.length f)+(List.length ([(Q,(R,S),T)])))) (w o p q r s t u v A B d e (f++([(Q,(R,S),T)])) g h)))))) (ifb (PT x (ByteArray.mk #[99,111,109,112,97,114,101])) (ä (ile 1 (ē a)) (ifb (ilt (Û (List.drop 1 a)) c) (i ((0:Int),(0:Int),[],[],[],[],[],(7:Int))) (ä ((ile 0 c)&&(ile c (ē (List.drop 1 a)))) (Ã (ņ (List.take (Int.toNat c) (List.drop 1 a))) fun z=>ä ((ile 0 c)&&(ile c (ē (List.drop 1 a)))) (ă z (0:Int) fun U=>ă z (1:Int) fun V=>ă z (2:Int) fun W=>ă z (3:Int) fun X=>ă z (4:Int) fun Y=>ă z (5:Int) fun Z=>Ã (AW (List.drop (Int.toNat c) (List.drop 1 a))) fun D=>ä (Ú ((List.length g)+(List.length ([(U,V,D.1,D.2,W,X,Y,Z)])))) (w o p q r s t u v A B d e f (g++([(U,V,D.1,D.2,W,X,Y,Z)])) h)))))) (ifb (PT x (ByteArray.mk #[108,111,111,107])) (ä (ile 1 (ē a)) (ifb (ilt (Û (List.drop 1 a)) n) (i ((0:Int),(0:Int),[],[],[],[],[],(7:Int))) (ä ((ile 0 n)&&(ile n (ē (List.drop 1 a)))) (Ã (ņ (List.take (Int.toNat n) (List.drop 1 a))) fun b7=>ä ((ile 0 n)&&(ile n (ē (List.drop 1 a)))) (ă b7 (0:Int) fun b8=>ă b7 (1:Int) fun b9=>ä (Ú ((List.length h)+(List.length ([(b8,b9)])))) (w o p q r s t u v A B d e f g (h++([(b8,b9)])))))))) (i ((0:Int),(0:Int),[],[],[],[],[],(7:Int))))))))
def Œ (a:Int) (b:Int) (c:Int) (d:Int) (e:Int) (f:Int) (v:th) (y:ByteArray):x9 (Sum th (Val az)):=lN a b c d e f v.1 v.2.1 v.2.2.1 v.2.2.2.1 v.2.2.2.2.1 v.2.2.2.2.2.1 v.2.2.2.2.2.2.1 v.2.2.2.2.2.2.2.1 v.2.2.2.2.2.2.2.2.1 v.2.2.2.2.2.2.2.2.2.1 v.2.2.2.2.2.2.2.2.2.2.1 v.2.2.2.2.2.2.2.2.2.2.2.1 v.2.2.2.2.2.2.2.2.2.2.2.2.1 v.2.2.2.2.2.2.2.2.2.2.2.2.2.1 v.2.2.2.2.2.2.2.2.2.2.2.2.2.2 y (fun g h i j k l m n o p q r s t u=>some (.inl (g,h,i,j,k,l,m,n,o,p,q,r,s,t,u))) (fun z=>some (.inr z))
def F5 (c:ByteArray) (k:px->x9 ρ):x9 ρ :=
  ä (Ú (ByteArray.size c)&&true) (Zy (Œ (2:Int) (8:Int) (2:Int) (4:Int) (6:Int) (2:Int)) (w8 c) ((0:Int),(0:Int),[],[],[],[],[],(0:Int),(0:Int),(0:Int),[],[],[],[],[]) (fun b=>Ã (jW ((b.2.2.2.2.2.2.2.2.1,b.2.2.2.2.2.2.2.2.2.1),b.2.2.2.2.2.2.2.2.2.2)) fun d=>ifb (ine d.2 0) (k ((((0:Int),(0:Int)),[],[],[],[],[]),(7:Int))) (ifb (!(d.1.toList==c.toList)) (k ((((0:Int),(0:Int)),[],[],[],[],[]),(7:Int))) (k (((b.2.2.2.2.2.2.2.2.1,b.2.2.2.2.2.2.2.2.2.1),b.2.2.2.2.2.2.2.2.2.2),(0:Int))))) (fun a=>k (((a.1,a.2.1),a.2.2.1,a.2.2.2.1,a.2.2.2.2.1,a.2.2.2.2.2.1,a.2.2.2.2.2.2.1),a.2.2.2.2.2.2.2)))
def uF (a:ByteArray):x9 (px):=F5 a some
def ww (e:ey) (f:Int) (b:Int) (a:ag) (d:Int->ag->x9 ρ) (g:ag->x9 ρ):x9 ρ :=
  ifb (ilt b f) (ă e b fun h=>Ã (Vi h) fun c=>ifb c.2 (ä (Ú ((List.length a)+(List.length ([(0:Int)])))) (ck (b+(1:Int)) fun i=>d i (a++([(0:Int)])))) (ä (Ú ((List.length a)+(List.length ([c.1])))) (ck (b+(1:Int)) fun j=>d j (a++([c.1]))))) (g a)
def Fl (a:ey) (k:ag->x9 ρ):x9 ρ :=
  Î (fun(b:io) c=>ww a (Û a) b.1 b.2 (fun d e=>c (d,e)) (fun f=>k f)) ((0:Int),[])
def rW (a:ey):x9 (ag):=Fl a some
def jr (d:Int) (b:Int) (c:Int) (a:rx) (e:Int->Int->Int->rx->x9 ρ) (f:(Val (.pair tI (.pair tI (.pair tI aE))))->x9 ρ):x9 ρ :=
  ifb (ilt a.2 (DX (ByteArray.size a.1))) (ifb (ieq (T2 a.1 a.2) 10) (ck (a.2+(1:Int)) fun g=>e b c g (a.1,(a.2+PD a.1 a.2))) (e d b c (a.1,(a.2+PD a.1 a.2)))) (f (d,b,c,a.1,a.2))
def zF (b:ByteArray) (k:lA->x9 ρ):x9 ρ :=
  Î (fun(c:(Val (.pair tI (.pair tI (.pair tI aE))))) o=>jr c.1 c.2.1 c.2.2.1 c.2.2.2 (fun p q r s=>o (p,q,r,s)) (fun a=>ifb (ieq a.1 0) (k (((((0:Int),(0:Int)),[],[],[],[],[]),((0:Int),(0:Int)),false,(0:Int),[]),(7:Int))) (ä ((ile 0 a.1)&&(ile a.1 ((ByteArray.size b:Nat):Int))) (Ã (ŕ (ByteArray.extract b (Int.toNat a.1) (ByteArray.size b)) (ByteArray.mk #[99,101,114,116,32])) fun t=>ifb (!t) (k (((((0:Int),(0:Int)),[],[],[],[],[]),((0:Int),(0:Int)),false,(0:Int),[]),(7:Int))) (ä ((ile 0 a.2.1)&&(ile a.2.1 ((ByteArray.size b:Nat):Int))) (Ã (ŕ (ByteArray.extract b (Int.toNat a.2.1) (ByteArray.size b)) (ByteArray.mk #[99,104,97,105,110])) fun u=>ifb (!u) (k (((((0:Int),(0:Int)),[],[],[],[],[]),((0:Int),(0:Int)),false,(0:Int),[]),(7:Int))) (ä ((ile 0 a.1)&&(ile a.1 ((ByteArray.size b:Nat):Int))) (Ã (uF (ByteArray.extract b 0 (Int.toNat a.1))) fun e=>ifb (ine e.2 0) (k (((((0:Int),(0:Int)),[],[],[],[],[]),((0:Int),(0:Int)),false,(0:Int),[]),(7:Int))) (ä ((ile 0 a.1)&&((ile a.1 a.2.1)&&(ile a.2.1 ((ByteArray.size b:Nat):Int)))) (Ã (Ň (ByteArray.extract b (Int.toNat a.1) (Int.toNat a.2.1)) (ByteArray.mk #[10])) fun v=>Ã (tp v (ByteArray.mk #[32])) fun d=>ä (Ú ((List.length d)+(List.length ([(ByteArray.mk #[]),(ByteArray.mk #[]),(ByteArray.mk #[]),(ByteArray.mk #[]),(ByteArray.mk #[])])))) (Ã (rW (d++([(ByteArray.mk #[]),(ByteArray.mk #[]),(ByteArray.mk #[]),(ByteArray.mk #[]),(ByteArray.mk #[])]))) fun f=>ă f (1:Int) fun h=>ă f (2:Int) fun i=>ä (ilt 3 (ē (d++([(ByteArray.mk #[]),(ByteArray.mk #[]),(ByteArray.mk #[]),(ByteArray.mk #[]),(ByteArray.mk #[])])))) (gO (d++([(ByteArray.mk #[]),(ByteArray.mk #[]),(ByteArray.mk #[]),(ByteArray.mk #[]),(ByteArray.mk #[])])) 3 fun j=>ă f (4:Int) fun l=>ä ((ile 0 a.2.1)&&(ile a.2.1 ((ByteArray.size b:Nat):Int))) (Ã (Ň (ByteArray.extract b (Int.toNat a.2.1) (ByteArray.size b)) (ByteArray.mk #[10])) fun w=>Ã (tp w (ByteArray.mk #[32])) fun g=>ä (ile 1 (ē g)) (Ã (rW (List.take (List.length g-1) (List.drop 1 g))) fun m=>Ã (uB (e.1,(h,i),(j.toList==(ByteArray.mk #[117,112,112,101,114]).toList),l,m)) fun n=>ifb (ine n.2 0) (k (((((0:Int),(0:Int)),[],[],[],[],[]),((0:Int),(0:Int)),false,(0:Int),[]),(7:Int))) (ifb (!(n.1.toList==b.toList)) (k (((((0:Int),(0:Int)),[],[],[],[],[]),((0:Int),(0:Int)),false,(0:Int),[]),(7:Int))) (k ((e.1,(h,i),(j.toList==(ByteArray.mk #[117,112,112,101,114]).toList),l,m),(0:Int)))))))))))))))))) ((0:Int),(0:Int),(0:Int),b,(0:Int))
def AM (a:ByteArray):x9 (lA):=zF a some
def iV (b:ag) (c:ag) (a:Int) (d:Int->x9 ρ) (e:Bool->x9 ρ) (f:Unit->x9 ρ):x9 ρ :=
  ifb (ilt a (Û b)) (ă b a fun g=>ă c a fun h=>ifb (ine g h) (e false) (ck (a+(1:Int)) fun i=>d i)) (f ())
def yZ (a:ag) (b:ag) (k:Bool->x9 ρ):x9 ρ :=
  ifb (ine (Û a) (Û b)) (k false) (Î (fun(c:Int) d=>iV a b c (fun e=>d e) (fun f=>k f) (fun _=>k true)) (0:Int))
def ip (a:ag) (b:ag):x9 (Bool):=yZ a b some
def sn (a:js) (b:js) (k:Bool->x9 ρ):x9 ρ :=
  Ã (ip a.2.2.1 b.2.2.1) fun c=>Ã (ip a.2.2.2.1 b.2.2.2.1) fun d=>ifb c (ifb d (ifb (ieq a.1 b.1) (ifb (ieq a.2.1 b.2.1) (ifb (ieq a.2.2.2.2.1 b.2.2.2.2.1) (ifb (ieq a.2.2.2.2.2.1 b.2.2.2.2.2.1) (k ((ĺ a.2.2.2.2.2.2.1 b.2.2.2.2.2.2.1)&&((ĺ a.2.2.2.2.2.2.2 b.2.2.2.2.2.2.2)&&true))) (k false)) (k false)) (k false)) (k false)) (k false)) (k false)
def iZ (a:js) (b:js):x9 (Bool):=sn a b some
def ij (b:bx) (e:bx) (a:Int) (f:Int->x9 ρ) (g:Bool->x9 ρ) (h:Unit->x9 ρ):x9 ρ :=
  ifb (ilt a (Û b)) (ă b a fun c=>ă e a fun d=>ifb (!((ĺ c.1 d.1)&&((ĺ c.2 d.2)&&true))) (g false) (ck (a+(1:Int)) fun i=>f i)) (h ())
def wq (a:bx) (b:bx) (k:Bool->x9 ρ):x9 ρ :=
  ifb (ine (Û a) (Û b)) (k false) (Î (fun(c:Int) d=>ij a b c (fun e=>d e) (fun f=>k f) (fun _=>k true)) (0:Int))
def iQ (a:bx) (b:bx):x9 (Bool):=wq a b some
def ov (d:ew) (e:ew) (c:Int) (f:Int->x9 ρ) (g:Bool->x9 ρ) (h:Unit->x9 ρ):x9 ρ :=
  ifb (ilt c (Û d)) (ă d c fun a=>ă e c fun b=>ifb (!((ĺ a.1 b.1)&&((ĺ a.2.1 b.2.1)&&((ĺ a.2.2.1 b.2.2.1)&&((ĺ a.2.2.2.1.1 b.2.2.2.1.1)&&((ĺ a.2.2.2.1.2 b.2.2.2.1.2)&&((ĺ a.2.2.2.2.1.1 b.2.2.2.2.1.1)&&((ĺ a.2.2.2.2.1.2 b.2.2.2.2.1.2)&&((ĺ a.2.2.2.2.2 b.2.2.2.2.2)&&true))))))))) (g false) (ck (c+(1:Int)) fun i=>f i)) (h ())
def ou (b:bx) (e:bx) (a:Int) (f:Int->x9 ρ) (g:Bool->x9 ρ) (h:Unit->x9 ρ):x9 ρ :=
  ifb (ilt a (Û b)) (ă b a fun c=>ă e a fun d=>ifb (!((ĺ c.1 d.1)&&((ĺ c.2 d.2)&&true))) (g false) (ck (a+(1:Int)) fun i=>f i)) (h ())
def ot (d:c8) (e:c8) (a:Int) (f:Int->x9 ρ) (g:Bool->x9 ρ) (h:Unit->x9 ρ):x9 ρ :=
  ifb (ilt a (Û d)) (ă d a fun b=>ă e a fun c=>ifb (!((ĺ b.1 c.1)&&((ĺ b.2.1.1 c.2.1.1)&&((ĺ b.2.1.2 c.2.1.2)&&((ĺ b.2.2 c.2.2)&&true))))) (g false) (ck (a+(1:Int)) fun i=>f i)) (h ())
def oq (b:eu) (c:eu) (a:Int) (d:Int->x9 ρ) (e:Bool->x9 ρ) (f:Unit->x9 ρ):x9 ρ :=
  ifb (ilt a (Û b)) (ă b a fun g=>ă c a fun h=>Ã (iZ g h) fun i=>ifb (!i) (e false) (ck (a+(1:Int)) fun j=>d j)) (f ())
def NG (a:bl) (b:bl) (k:Bool->x9 ρ):x9 ρ :=
  ifb (!((ĺ a.1.1 b.1.1)&&((ĺ a.1.2 b.1.2)&&true))) (k false) (ifb (ine (Û a.2.1) (Û b.2.1)) (k false) (ifb (ine (Û a.2.2.1) (Û b.2.2.1)) (k false) (ifb (ine (Û a.2.2.2.1) (Û b.2.2.2.1)) (k false) (ifb (ine (Û a.2.2.2.2.1) (Û b.2.2.2.2.1)) (k false) (Î (fun(c:Int) d=>ov a.2.1 b.2.1 c (fun e=>d e) (fun f=>k f) (fun _=>Î (fun(g:Int) h=>ou a.2.2.1 b.2.2.1 g (fun i=>h i) (fun j=>k j) (fun _=>Î (fun(l:Int) m=>ot a.2.2.2.1 b.2.2.2.1 l (fun n=>m n) (fun o=>k o) (fun _=>Î (fun(p:Int) q=>oq a.2.2.2.2.1 b.2.2.2.2.1 p (fun r=>q r) (fun s=>k s) (fun _=>Ã (iQ a.2.2.2.2.2 b.2.2.2.2.2) fun t=>k t)) (0:Int))) (0:Int))) (0:Int))) (0:Int))))))
def AJ (a:bl) (b:bl):x9 (Bool):=NG a b some
def iW (b:ag) (c:ag) (a:Int) (d:Int->x9 ρ) (e:Bool->x9 ρ) (f:Unit->x9 ρ):x9 ρ :=
  ifb (ilt a (Û b)) (ă b a fun g=>ă c a fun h=>ifb (ine g h) (e false) (ck (a+(1:Int)) fun i=>d i)) (f ())
def zb (a:ag) (b:ag) (k:Bool->x9 ρ):x9 ρ :=
  ifb (ine (Û a) (Û b)) (k false) (Î (fun(c:Int) d=>iW a b c (fun e=>d e) (fun f=>k f) (fun _=>k true)) (0:Int))
def mK (a:ag) (b:ag):x9 (Bool):=zb a b some
def yX (a:pc) (b:pc) (k:Bool->x9 ρ):x9 ρ :=
  Ã (AJ a.1 b.1) fun c=>ifb c (ifb ((ĺ a.2.1.1 b.2.1.1)&&((ĺ a.2.1.2 b.2.1.2)&&true)) (ifb (a.2.2.1==b.2.2.1) (ifb (ieq a.2.2.2.1 b.2.2.2.1) (Ã (mK a.2.2.2.2 b.2.2.2.2) fun d=>k d) (k false)) (k false)) (k false)) (k false)
def mJ (a:pc) (b:pc):x9 (Bool):=yX a b some
def Ė (c:bx) (d:Int) (e:Int) (f:Int) (a:Int) (g:Int->x9 ρ) (h:Int->x9 ρ) (i:Unit->x9 ρ):x9 ρ :=
  ifb (ilt a d) (ă c a fun b=>ifb ((ĺ e b.1)&&((ĺ f b.2)&&true)) (h a) (ck (a+(1:Int)) fun j=>g j)) (i ())
def gS (a:bx) (b:an) (k:Int->x9 ρ):x9 ρ :=
  Î (fun(c:Int) d=>Ė a (Û a) b.1 b.2 c (fun e=>d e) (fun f=>k f) (fun _=>k (-1:Int))) (0:Int)
def î (a:bx) (b:an):x9 (Int):=gS a b some
def Ob (a:bl) (d:an) (k:an->x9 ρ):x9 ρ :=
  Ã (Ā a) fun b=>ifb (ine b 0) (k ((0:Int),b)) (Ã (nY a) fun e=>Ã (î e d) fun c=>ifb (ilt c 0) (k ((0:Int),(5:Int))) (ck (c+(1:Int)) fun f=>k (f,(0:Int))))
def gZ (a:bl) (b:an):x9 an:=Ob a b some
def Fh (a:ry) (b:an) (k:Int->x9 ρ):x9 ρ :=
  Ã (gZ a.1 b) fun c=>k c.1
def kQ (a:ry) (b:an):x9 (Int):=Fh a b some
def Sl (b:fw) (a:Int) (k:Bool->x9 ρ):x9 ρ :=
  ifb (ige a 0) (k (ilt a b.1)) (k false)
def oZ (a:fw) (b:Int):x9 (Bool):=Sl a b some
def oE (f:ld) (g:Int) (d:Int) (e:ld) (a:Int) (h:Int->x9 ρ) (c:an->x9 ρ) (i:Unit->x9 ρ):x9 ρ :=
  ifb (ilt a g) (ă f a fun b=>Ã (oZ (d,e) b.1) fun j=>ifb (!j) (c ((1:Int),a)) (Ã (oZ (d,e) b.2.1) fun k=>ifb (!k) (c ((1:Int),a)) (ifb (ieq b.1 b.2.1) (c ((1:Int),a)) (ifb (ilt b.2.2 (-4503599627370496:Int)) (c ((1:Int),a)) (ifb (igt b.2.2 4503599627370496) (c ((1:Int),a)) (ck (a+(1:Int)) fun l=>h l)))))) (i ())
def NU (a:fw) (k:an->x9 ρ):x9 ρ :=
  ifb (ilt a.1 1) (k ((1:Int),(-1:Int))) (ifb (igt a.1 60) (k ((1:Int),(-1:Int))) (ifb (igt (Û a.2) 300) (k ((2:Int),(-1:Int))) (Î (fun(c:Int) d=>oE a.2 (Û a.2) a.1 a.2 c (fun e=>d e) (fun b=>k (b.1,b.2)) (fun _=>k ((0:Int),(-1:Int)))) (0:Int))))
def nW (a:fw):x9 an:=NU a some
def Γ (c:ld) (d:Int) (b:Int) (a:Int) (e:Int->Int->x9 ρ) (f:Int->x9 ρ):x9 ρ :=
  ifb (ilt a d) (ă c a fun g=>ck (b+(UE g.2.2 (0:Int))) fun h=>ck (a+(1:Int)) fun i=>e h i) (f b)
def Ļ (f:Int) (d:ag) (a:Int) (b:r6) (c:ag) (e:Int->r6->ag->x9 ρ) (g:Val aH->x9 ρ):x9 ρ :=
  ifb (ilt a f) (ä ((ile 0 a)&&(ilt a (ē d))) (gO d (Int.toNat a) fun h=>ifb (ine h 1152921504606846976) (ä (Ú ((List.length c)+(List.length ([a])))) (ä ((ile 0 a)&&(ilt a (ē b))) (gO b (Int.toNat a) fun k=>ck (a+(1:Int)) fun i=>e i (List.set b (Int.toNat a) true) (c++([a]))))) (ck (a+(1:Int)) fun j=>e j b c))) (g (b,c))
def gV (m:fx) (j:Int) (d:Int) (n:ld) (o:Int) (f:Int) (b:ag) (c:r6) (e:ag) (g:Int->ag->r6->ag->x9 ρ) (l:(Val (.pair .bool (.pair af aH)))->x9 ρ) (p:(Val (.pair af aH))->x9 ρ):x9 ρ :=
  ifb (ilt f o) (ă n f fun a=>ifb (ine a.1 d) (ck (f+(1:Int)) fun q=>g q b c e) (Mm (k:=tI) (v:=.bool) f m (fun r=>ifb r (ck (f+(1:Int)) fun s=>g s b c e) (ä ((ile 0 d)&&(ilt d (ē b))) (gO b (Int.toNat d) fun t=>ck (t+a.2.2) fun u=>ä ((ile 0 a.2.1)&&(ilt a.2.1 (ē b))) (gO b (Int.toNat a.2.1) fun w=>ifb (ige u w) (ck (f+(1:Int)) fun x=>g x b c e) (ä ((ile 0 d)&&(ilt d (ē b))) (gO b (Int.toNat d) fun y=>ck (y+a.2.2) fun h=>ä ((ile 0 a.2.1)&&(ilt a.2.1 (ē b))) (gO b (Int.toNat a.2.1) fun M=>ä ((ile 0 a.2.1)&&(ilt a.2.1 (ē (List.set b (Int.toNat a.2.1) h)))) (gO (List.set b (Int.toNat a.2.1) h) (Int.toNat a.2.1) fun z=>ifb (ilt z j) (l (false,(List.set b (Int.toNat a.2.1) h),c,e)) (ä ((ile 0 a.2.1)&&(ilt a.2.1 (ē c))) (gO c (Int.toNat a.2.1) fun A=>ifb (!A) (ä (Ú ((List.length e)+(List.length ([a.2.1])))) (ä ((ile 0 a.2.1)&&(ilt a.2.1 (ē c))) (gO c (Int.toNat a.2.1) fun N=>ck (f+(1:Int)) fun B=>g B (List.set b (Int.toNat a.2.1) h) (List.set c (Int.toNat a.2.1) true) (e++([a.2.1]))))) (ck (f+(1:Int)) fun C=>g C (List.set b (Int.toNat a.2.1) h) c e))))))))))) (ä ((ile 0 d)&&(ilt d (ē b))) (gO b (Int.toNat d) fun D=>ck (D+a.2.2) fun E=>ä ((ile 0 a.2.1)&&(ilt a.2.1 (ē b))) (gO b (Int.toNat a.2.1) fun F=>ifb (ige E F) (ck (f+(1:Int)) fun G=>g G b c e) (ä ((ile 0 d)&&(ilt d (ē b))) (gO b (Int.toNat d) fun H=>ck (H+a.2.2) fun i=>ä ((ile 0 a.2.1)&&(ilt a.2.1 (ē b))) (gO b (Int.toNat a.2.1) fun O=>ä ((ile 0 a.2.1)&&(ilt a.2.1 (ē (List.set b (Int.toNat a.2.1) i)))) (gO (List.set b (Int.toNat a.2.1) i) (Int.toNat a.2.1) fun I=>ifb (ilt I j) (l (false,(List.set b (Int.toNat a.2.1) i),c,e)) (ä ((ile 0 a.2.1)&&(ilt a.2.1 (ē c))) (gO c (Int.toNat a.2.1) fun J=>ifb (!J) (ä (Ú ((List.length e)+(List.length ([a.2.1])))) (ä ((ile 0 a.2.1)&&(ilt a.2.1 (ē c))) (gO c (Int.toNat a.2.1) fun P=>ck (f+(1:Int)) fun K=>g K (List.set b (Int.toNat a.2.1) i) (List.set c (Int.toNat a.2.1) true) (e++([a.2.1]))))) (ck (f+(1:Int)) fun L=>g L (List.set b (Int.toNat a.2.1) i) c e)))))))))))) (p (b,c,e))
def Ę (l:fx) (m:Int) (n:Int) (k:ld) (h:ag) (d:r6) (b:ag) (c:ag) (o:ag->r6->ag->ag->x9 ρ) (i:(Val (.pair .bool aI))->x9 ρ):x9 ρ :=
  ifb (ieq (Û c) 0) (i (true,h,d,b,c)) (ä (ilt 0 (ē c)) (gO c 0 fun a=>ä (ile 1 (ē c)) (ä (decide (1+(List.length c-1)=List.length c)) (ä ((ile 0 a)&&(ilt a (ē d))) (gO d (Int.toNat a) fun x=>ä ((ile 0 a)&&(ilt a (ē b))) (gO b (Int.toNat a) fun p=>ck (p+(1:Int)) fun e=>ä ((ile 0 a)&&(ilt a (ē b))) (gO b (Int.toNat a) fun y=>ä ((ile 0 a)&&(ilt a (ē (List.set b (Int.toNat a) e)))) (gO (List.set b (Int.toNat a) e) (Int.toNat a) fun q=>ck (n+(1:Int)) fun r=>ifb (igt q r) (i (false,h,(List.set d (Int.toNat a) false),(List.set b (Int.toNat a) e),(List.drop 1 c))) (Î (fun(f:lg) s=>gV l m a k (Û k) f.1 f.2.1 f.2.2.1 f.2.2.2 (fun t u v w=>s (t,u,v,w)) (fun g=>i (g.1,g.2.1,g.2.2.1,(List.set b (Int.toNat a) e),g.2.2.2)) (fun j=>o j.1 j.2.1 (List.set b (Int.toNat a) e) j.2.2)) ((0:Int),h,(List.set d (Int.toNat a) false),(List.drop 1 c)))))))))))
def gU (c:Int) (d:Int) (a:Int) (b:ag) (e:Int->ag->x9 ρ) (f:ag->x9 ρ):x9 ρ :=
  ifb (ilt a d) (ä ((ile 0 a)&&(ilt a (ē b))) (gO b (Int.toNat a) fun g=>ck (g-c) fun h=>ä ((ile 0 a)&&(ilt a (ē b))) (gO b (Int.toNat a) fun j=>ck (a+(1:Int)) fun i=>e i (List.set b (Int.toNat a) h)))) (f b)
def tT (a:fw) (h:fx) (k:v6->x9 ρ):x9 ρ :=
  ä ((ile 0 a.1)&&(Ú (Int.toNat a.1))) (ä ((ile 0 a.1)&&(Ú (Int.toNat a.1))) (ä ((ile 0 a.1)&&(Ú (Int.toNat a.1))) (Î (fun(e:an) i=>Γ a.2 (Û a.2) e.1 e.2 (fun j l=>i (j,l)) (fun m=>Î (fun(d:r8) n=>Ļ a.1 (List.replicate (Int.toNat a.1) (0:Int)) d.1 d.2.1 d.2.2 (fun o p q=>n (o,p,q)) (fun f=>Î (fun(c:Val aI) r=>Ę h m a.1 a.2 c.1 c.2.1 c.2.2.1 c.2.2.2 (fun s t u v=>r (s,t,u,v)) (fun b=>ifb (!b.1) (k ([],false)) (ä (ilt 0 (ē b.2.1)) (gO b.2.1 0 fun w=>Î (fun(g:io) x=>gU w (Û b.2.1) g.1 g.2 (fun y z=>x (y,z)) (fun A=>k (A,true))) ((0:Int),b.2.1))))) ((List.replicate (Int.toNat a.1) (0:Int)),f.1,(List.replicate (Int.toNat a.1) (0:Int)),f.2))) ((0:Int),(List.replicate (Int.toNat a.1) false),[]))) ((0:Int),(0:Int)))))
def lR (a:fw) (b:fx):x9 (v6):=tT a b some
def oD (b:ag) (c:Int) (d:Int) (e:ld) (a:Int) (f:Int->x9 ρ) (g:Int->x9 ρ) (h:Unit->x9 ρ):x9 ρ :=
  ifb (ilt a c) (ă b a fun i=>Ã (oZ (d,e) i) fun j=>ifb (!j) (g (1:Int)) (ck (a+(1:Int)) fun k=>f k)) (h ())
def NT (a:fw) (b:ag) (k:Int->x9 ρ):x9 ρ :=
  Ã (nW a) fun c=>ifb (ine c.1 0) (k c.1) (Î (fun(d:Int) e=>oD b (Û b) a.1 a.2 d (fun f=>e f) (fun g=>k g) (fun _=>Ã (lR a ([])) fun h=>ifb (!h.2) (k (9:Int)) (k (0:Int)))) (0:Int))
def AQ (a:fw) (b:ag):x9 (Int):=NT a b some
def mD (c:Int) (a:Int) (b:ag) (d:Int->ag->x9 ρ) (e:ag->x9 ρ):x9 ρ :=
  ifb (ilt a c) (ä ((ile 0 a)&&(ilt a (ē b))) (gO b (Int.toNat a) fun g=>ck (a+(1:Int)) fun f=>d f (List.set b (Int.toNat a) (1152921504606846976:Int)))) (e b)
def rr (c:ld) (d:Int) (b:Int) (a:Int) (e:Int->Int->x9 ρ) (f:Int->x9 ρ):x9 ρ :=
  ifb (ilt a d) (ă c a fun g=>ck (b+(UE g.2.2 (0:Int))) fun h=>ck (a+(1:Int)) fun i=>e h i) (f b)
def rq (f:Int) (d:ag) (a:Int) (b:r6) (c:ag) (e:Int->r6->ag->x9 ρ) (g:Val aH->x9 ρ):x9 ρ :=
  ifb (ilt a f) (ä ((ile 0 a)&&(ilt a (ē d))) (gO d (Int.toNat a) fun h=>ifb (ine h 1152921504606846976) (ä (Ú ((List.length c)+(List.length ([a])))) (ä ((ile 0 a)&&(ilt a (ē b))) (gO b (Int.toNat a) fun k=>ck (a+(1:Int)) fun i=>e i (List.set b (Int.toNat a) true) (c++([a]))))) (ck (a+(1:Int)) fun j=>e j b c))) (g (b,c))
def zR (m:fx) (j:Int) (d:Int) (n:ld) (o:Int) (f:Int) (b:ag) (c:r6) (e:ag) (g:Int->ag->r6->ag->x9 ρ) (l:(Val (.pair .bool (.pair af aH)))->x9 ρ) (p:(Val (.pair af aH))->x9 ρ):x9 ρ :=
  ifb (ilt f o) (ă n f fun a=>ifb (ine a.1 d) (ck (f+(1:Int)) fun q=>g q b c e) (Mm (k:=tI) (v:=.bool) f m (fun r=>ifb r (ck (f+(1:Int)) fun s=>g s b c e) (ä ((ile 0 d)&&(ilt d (ē b))) (gO b (Int.toNat d) fun t=>ck (t+a.2.2) fun u=>ä ((ile 0 a.2.1)&&(ilt a.2.1 (ē b))) (gO b (Int.toNat a.2.1) fun w=>ifb (ige u w) (ck (f+(1:Int)) fun x=>g x b c e) (ä ((ile 0 d)&&(ilt d (ē b))) (gO b (Int.toNat d) fun y=>ck (y+a.2.2) fun h=>ä ((ile 0 a.2.1)&&(ilt a.2.1 (ē b))) (gO b (Int.toNat a.2.1) fun M=>ä ((ile 0 a.2.1)&&(ilt a.2.1 (ē (List.set b (Int.toNat a.2.1) h)))) (gO (List.set b (Int.toNat a.2.1) h) (Int.toNat a.2.1) fun z=>ifb (ilt z j) (l (false,(List.set b (Int.toNat a.2.1) h),c,e)) (ä ((ile 0 a.2.1)&&(ilt a.2.1 (ē c))) (gO c (Int.toNat a.2.1) fun A=>ifb (!A) (ä (Ú ((List.length e)+(List.length ([a.2.1])))) (ä ((ile 0 a.2.1)&&(ilt a.2.1 (ē c))) (gO c (Int.toNat a.2.1) fun N=>ck (f+(1:Int)) fun B=>g B (List.set b (Int.toNat a.2.1) h) (List.set c (Int.toNat a.2.1) true) (e++([a.2.1]))))) (ck (f+(1:Int)) fun C=>g C (List.set b (Int.toNat a.2.1) h) c e))))))))))) (ä ((ile 0 d)&&(ilt d (ē b))) (gO b (Int.toNat d) fun D=>ck (D+a.2.2) fun E=>ä ((ile 0 a.2.1)&&(ilt a.2.1 (ē b))) (gO b (Int.toNat a.2.1) fun F=>ifb (ige E F) (ck (f+(1:Int)) fun G=>g G b c e) (ä ((ile 0 d)&&(ilt d (ē b))) (gO b (Int.toNat d) fun H=>ck (H+a.2.2) fun i=>ä ((ile 0 a.2.1)&&(ilt a.2.1 (ē b))) (gO b (Int.toNat a.2.1) fun O=>ä ((ile 0 a.2.1)&&(ilt a.2.1 (ē (List.set b (Int.toNat a.2.1) i)))) (gO (List.set b (Int.toNat a.2.1) i) (Int.toNat a.2.1) fun I=>ifb (ilt I j) (l (false,(List.set b (Int.toNat a.2.1) i),c,e)) (ä ((ile 0 a.2.1)&&(ilt a.2.1 (ē c))) (gO c (Int.toNat a.2.1) fun J=>ifb (!J) (ä (Ú ((List.length e)+(List.length ([a.2.1])))) (ä ((ile 0 a.2.1)&&(ilt a.2.1 (ē c))) (gO c (Int.toNat a.2.1) fun P=>ck (f+(1:Int)) fun K=>g K (List.set b (Int.toNat a.2.1) i) (List.set c (Int.toNat a.2.1) true) (e++([a.2.1]))))) (ck (f+(1:Int)) fun L=>g L (List.set b (Int.toNat a.2.1) i) c e)))))))))))) (p (b,c,e))
def ro (l:fx) (m:Int) (n:Int) (k:ld) (h:ag) (d:r6) (b:ag) (c:ag) (o:ag->r6->ag->ag->x9 ρ) (i:(Val (.pair .bool aI))->x9 ρ):x9 ρ :=
  ifb (ieq (Û c) 0) (i (true,h,d,b,c)) (ä (ilt 0 (ē c)) (gO c 0 fun a=>ä (ile 1 (ē c)) (ä (decide (1+(List.length c-1)=List.length c)) (ä ((ile 0 a)&&(ilt a (ē d))) (gO d (Int.toNat a) fun x=>ä ((ile 0 a)&&(ilt a (ē b))) (gO b (Int.toNat a) fun p=>ck (p+(1:Int)) fun e=>ä ((ile 0 a)&&(ilt a (ē b))) (gO b (Int.toNat a) fun y=>ä ((ile 0 a)&&(ilt a (ē (List.set b (Int.toNat a) e)))) (gO (List.set b (Int.toNat a) e) (Int.toNat a) fun q=>ck (n+(1:Int)) fun r=>ifb (igt q r) (i (false,h,(List.set d (Int.toNat a) false),(List.set b (Int.toNat a) e),(List.drop 1 c))) (Î (fun(f:lg) s=>zR l m a k (Û k) f.1 f.2.1 f.2.2.1 f.2.2.2 (fun t u v w=>s (t,u,v,w)) (fun g=>i (g.1,g.2.1,g.2.2.1,(List.set b (Int.toNat a) e),g.2.2.2)) (fun j=>o j.1 j.2.1 (List.set b (Int.toNat a) e) j.2.2)) ((0:Int),h,(List.set d (Int.toNat a) false),(List.drop 1 c)))))))))))
def BJ (a:fw) (i:fx) (b:Int) (k:ag->x9 ρ):x9 ρ :=
  ä ((ile 0 a.1)&&(Ú (Int.toNat a.1))) (Î (fun(f:io) j=>mD (Û (List.replicate (Int.toNat a.1) (0:Int))) f.1 f.2 (fun l m=>j (l,m)) (fun c=>ä ((ile 0 b)&&(ilt b (ē c))) (gO c (Int.toNat b) fun B=>ä ((ile 0 a.1)&&(Ú (Int.toNat a.1))) (ä ((ile 0 a.1)&&(Ú (Int.toNat a.1))) (Î (fun(g:an) n=>rr a.2 (Û a.2) g.1 g.2 (fun o p=>n (o,p)) (fun q=>Î (fun(e:r8) r=>rq a.1 (List.set c (Int.toNat b) (0:Int)) e.1 e.2.1 e.2.2 (fun s t u=>r (s,t,u)) (fun h=>Î (fun(d:Val aI) v=>ro i q a.1 a.2 d.1 d.2.1 d.2.2.1 d.2.2.2 (fun w x y z=>v (w,x,y,z)) (fun A=>k A.2.1)) ((List.set c (Int.toNat b) (0:Int)),h.1,(List.replicate (Int.toNat a.1) (0:Int)),h.2))) ((0:Int),(List.replicate (Int.toNat a.1) false),[]))) ((0:Int),(0:Int))))))) ((0:Int),(List.replicate (Int.toNat a.1) (0:Int))))
def vA (a:fw) (b:fx) (c:Int):x9 (ag):=BJ a b c some
def NW (a:fw) (b:Int) (c:Int) (k:an->x9 ρ):x9 ρ :=
  Ã (AQ a ([b,c])) fun d=>ifb (ine d 0) (k ((0:Int),d)) (Ã (vA a ([]) b) fun f=>ă f c fun e=>ifb (ieq e 1152921504606846976) (k ((0:Int),(5:Int))) (k (e,(0:Int))))
def uD (a:fw) (b:Int) (c:Int):x9 an:=NW a b c some
def wu (a:ry) (b:Int) (c:Int) (k:Int->x9 ρ):x9 ρ :=
  Ã (uD a.2 c b) fun d=>k d.1
def gB (a:ry) (b:Int) (c:Int):x9 (Int):=wu a b c some
def wt (a:ry) (b:an) (k:Int->x9 ρ):x9 ρ :=
  Ã (kQ a b) fun c=>Ã (gB a (0:Int) c) fun d=>ck (0-d) fun e=>k e
def Ū (a:ry) (b:an):x9 (Int):=wt a b some
def pU (a:ry) (b:an) (k:Int->x9 ρ):x9 ρ :=
  Ã (kQ a b) fun c=>Ã (gB a c (0:Int)) fun d=>k d
def Ε (a:ry) (b:an):x9 (Int):=pU a b some
def kz (a:ry) (b:an) (k:an->x9 ρ):x9 ρ :=
  Ã (Ū a b) fun c=>Ã (Ε a b) fun d=>k (c,d)
def iq (a:ry) (b:an):x9 an:=kz a b some
def CS (b:(Val (.ptr xn))) (a:ag) (c:Int) (k:Int->x9 ρ):x9 ρ :=
  ifb (ieq (Û a) 0) (k (0:Int)) (ă a (0:Int) fun d=>Ã (î b.2.1 (d,c)) fun e=>ck (e+(1:Int)) fun f=>k f)
def jw (a:(Val (.ptr xn))) (b:ag) (c:Int):x9 (Int):=CS a b c some
def sI (b:pg) (a:ag) (k:an->x9 ρ):x9 ρ :=
  ifb (ieq (Û a) 0) (k ((0:Int),(1:Int))) (ă a (0:Int) fun c=>Mm (k:=tI) (v:=Ê) c b (fun d=>k d.2.2.2.2.1) (k ((0:Int),(0:Int))))
def ω (a:pg) (b:ag):x9 an:=sI a b some
def oH (b:bx) (c:Int) (a:Int) (d:Int->x9 ρ) (e:Int->x9 ρ) (f:Unit->x9 ρ):x9 ρ :=
  ifb (ilt a c) (ă b a fun g=>Ã (qB g) fun h=>ifb (!h) (e (1:Int)) (ck (a+(1:Int)) fun i=>d i)) (f ())
def NX (a:bx) (k:Int->x9 ρ):x9 ρ :=
  Î (fun(b:Int) c=>oH a (Û a) b (fun d=>c d) (fun e=>k e) (fun _=>k (0:Int))) (0:Int)
def iS (a:bx):x9 (Int):=NX a some
def FI (d:Int) (e:Int) (k:Val Hw->x9 ρ):x9 ρ :=
  Ã (o8 d) fun b=>Ã (o8 e) fun c=>Ã (GK b c) fun a=>ifb (ĺ a 0) (none) (ifb (ĺ a 0) (none) (ifb (igt (IntKind.wrap .u64 (Int.tdiv b a)) 2147483647) (k (((0:Int),(0:Int)),(3:Int))) (ifb (igt (IntKind.wrap .u64 (Int.tdiv c a)) 2147483647) (k (((0:Int),(0:Int)),(3:Int))) (ifb (!((ilt d 0)==(ilt e 0))) (ck (0-(IntKind.wrap .i64 (IntKind.wrap .u64 (Int.tdiv b a)))) fun f=>k ((f,(IntKind.wrap .i64 (IntKind.wrap .u64 (Int.tdiv c a)))),(0:Int))) (k (((IntKind.wrap .i64 (IntKind.wrap .u64 (Int.tdiv b a))),(IntKind.wrap .i64 (IntKind.wrap .u64 (Int.tdiv c a)))),(0:Int)))))))
def nX (a:Int) (b:Int):x9 (Val Hw):=FI a b some
def Xd (a:an) (b:an) (k:Val Hw->x9 ρ):x9 ρ :=
  Ã (iS ([a,b])) fun c=>ifb (ine c 0) (k (((0:Int),(0:Int)),c)) (ck (a.1*b.2) fun e=>ck (b.1*a.2) fun f=>ck (e-f) fun g=>ck (a.2*b.2) fun h=>Ã (nX g h) fun d=>k (d.1,d.2))
def LF (a:an) (b:an):x9 (Val Hw):=Xd a b some
def zV (a:an) (b:an) (k:an->x9 ρ):x9 ρ :=
  Ã (LF a b) fun c=>k c.1
def rY (a:an) (b:an):x9 an:=zV a b some
def Xb (a:an) (b:an) (k:Int->x9 ρ):x9 ρ :=
  ck (a.1*b.2) fun c=>ck (b.1*a.2) fun d=>ifb ((ĺ a.1 b.1)&&((ĺ a.2 b.2)&&true)) (k (0:Int)) (ifb (ilt c d) (k (-1:Int)) (ifb (igt c d) (k (1:Int)) (k (0:Int))))
def GM (a:an) (b:an):x9 (Int):=Xb a b some
def wN (a:pl) (k:Bool->x9 ρ):x9 ρ :=
  Ã (iS ([a.1,a.2])) fun b=>ifb (ieq b 0) (Ã (GM a.1 a.2) fun c=>k (ile c 0)) (k false)
def pw (a:pl):x9 (Bool):=wN a some
def Xf (a:an) (b:an) (k:Val Hw->x9 ρ):x9 ρ :=
  Ã (iS ([a,b])) fun c=>ifb (ine c 0) (k (((0:Int),(0:Int)),c)) (ck (a.1*b.1) fun e=>ck (a.2*b.2) fun f=>Ã (nX e f) fun d=>k (d.1,d.2))
def GO (a:an) (b:an):x9 (Val Hw):=Xf a b some
def FJ (c:pl) (d:an) (k:Val VE->x9 ρ):x9 ρ :=
  Ã (pw c) fun e=>ifb (!e) (k ((((0:Int),(0:Int)),(0:Int),(0:Int)),(1:Int))) (Ã (qB d) fun f=>ifb (!f) (k ((((0:Int),(0:Int)),(0:Int),(0:Int)),(1:Int))) (Ã (GO d c.1) fun a=>ifb (ine a.2 0) (k ((((0:Int),(0:Int)),(0:Int),(0:Int)),a.2)) (Ã (GO d c.2) fun b=>ifb (ine b.2 0) (k ((((0:Int),(0:Int)),(0:Int),(0:Int)),b.2)) (Ã (GM a.1 b.1) fun g=>ifb (igt g 0) (k ((b.1,a.1),(0:Int))) (k ((a.1,b.1),(0:Int)))))))
def GN (a:pl) (b:an):x9 (Val VE):=FJ a b some
def zU (b:an) (a:an) (k:pl->x9 ρ):x9 ρ :=
  Ã (GN ((a.1,(1:Int)),a.2,(1:Int)) b) fun c=>k c.1
def mL (a:an) (b:an):x9 pl:=zU a b some
def JB (c:bl) (a:js) (k:pl->x9 ρ):x9 ρ :=
  Ã (Ŭ c) fun b=>Ã (η a.2.2.1 a.2.2.2.1) fun d=>Ã (ω b d) fun e=>Ã (η a.2.2.2.1 a.2.2.1) fun f=>Ã (ω b f) fun g=>Ã (rY e g) fun h=>Ã (mL h a.2.2.2.2.2.2) fun i=>k i
def qD (a:bl) (b:js):x9 pl:=JB a b some
def N9 (a:bl) (b:js) (k:an->x9 ρ):x9 ρ :=
  ck ((Û b.2.2.1)-(1:Int)) fun c=>ck ((Û b.2.2.2.1)-(1:Int)) fun d=>ck ((SP (0:Int) c)*a.1.1) fun e=>ck ((SP (0:Int) d)*a.1.2) fun f=>ck (e-f) fun g=>ck ((SP (0:Int) c)*a.1.2) fun h=>ck ((SP (0:Int) d)*a.1.1) fun i=>ck (h-i) fun j=>k (g,j)
def uE (a:bl) (b:js):x9 an:=N9 a b some
def W9 (b:Int) (a:Int) (k:Int->x9 ρ):x9 ρ :=
  ifb (ĺ a 0) (none) (ck (Int.tdiv b a) fun c=>ifb (ĺ a 0) (none) (ifb (ilt (Int.tmod b a) 0) (ck (c-1) fun d=>k d) (k c)))
def AR (a:Int) (b:Int):x9 (Int):=W9 a b some
def Sq (a:an) (k:an->x9 ρ):x9 ρ :=
  Ã (iS ([a])) fun b=>ifb (ine b 0) (k ((0:Int),b)) (ck (0-a.1) fun c=>Ã (AR c a.2) fun d=>ck (0-d) fun e=>k (e,(0:Int)))
def Ec (a:an):x9 an:=Sq a some
def N2 (a:an) (k:an->x9 ρ):x9 ρ :=
  Ã (iS ([a])) fun b=>ifb (ine b 0) (k ((0:Int),b)) (Ã (AR a.1 a.2) fun c=>k (c,(0:Int)))
def AU (a:an):x9 an:=N2 a some
def Sr (b:bl) (a:js) (k:an->x9 ρ):x9 ρ :=
  Ã (qD b a) fun c=>Ã (uE b a) fun d=>Ã (AU c.2) fun e=>Ã (Ec c.1) fun f=>ck (a.2.2.2.2.1-a.2.2.2.2.2.1) fun g=>ck (g-d.2) fun h=>ck (h-e.1) fun i=>ck (a.2.2.2.2.1+a.2.2.2.2.2.1) fun j=>ck (j-d.1) fun l=>ck (l-f.1) fun m=>k (i,m)
def vB (a:bl) (b:js):x9 an:=Sr a b some
def rD (f:Int) (g:Int) (h:c8) (i:Int) (j:Int) (b:Int) (a:Int) (d:Int->Int->x9 ρ) (k:Int->x9 ρ):x9 ρ :=
  ifb (ilt a i) (ă h a fun c=>ck (g-(1:Int)) fun l=>ck ((UE c.2.1.2 l)-(SP c.2.1.1 f)) fun m=>ck (m+1) fun e=>ifb (ieq c.1 j) (ifb (igt e 0) (ck (e*c.2.2) fun n=>ck (b+n) fun o=>ck (a+(1:Int)) fun p=>d o p) (ck (a+(1:Int)) fun q=>d b q)) (ck (a+(1:Int)) fun r=>d b r)) (k b)
def rC (e:Int) (f:Int) (g:bx) (h:Int) (i:Int) (a:Int) (b:ag) (d:Int->ag->x9 ρ) (j:ag->x9 ρ):x9 ρ :=
  ifb (ilt a h) (ă g a fun c=>ifb (ieq c.1 i) (ck (f-(1:Int)) fun k=>Ã (č c.2 e k) fun l=>ifb l (ä (Ú ((List.length b)+(List.length ([c.2])))) (ck (a+(1:Int)) fun m=>d m (b++([c.2])))) (ck (a+(1:Int)) fun n=>d n b)) (ck (a+(1:Int)) fun o=>d o b)) (j b)
def Su (a:bl) (b:cT) (d:Int) (e:Int) (k:Int->x9 ρ):x9 ρ :=
  Î (fun(f:an) h=>rD d e a.2.2.2.1 (Û a.2.2.2.1) b.1 f.1 f.2 (fun i j=>h (i,j)) (fun l=>Î (fun(g:io) m=>rC d e a.2.2.1 (Û a.2.2.1) b.1 g.1 g.2 (fun n o=>m (n,o)) (fun c=>ä (Ú (List.length c)) (ä (Ú (List.length (Hx c))) (ck ((Û (vH (Hx c)))*b.2.2.2.2.2) fun p=>ck (l+p) fun q=>k q)))) ((0:Int),[]))) ((0:Int),(0:Int))
def vC (a:bl) (b:cT) (c:Int) (d:Int):x9 (Int):=Su a b c d some
def rA (b:Int) (e:ag) (h:Int) (j:Int) (k:Int) (l:ew) (m:bx) (n:c8) (o:eu) (p:bx) (q:Int) (r:Int) (s:Int) (t:Int) (u:Int) (v:Int) (w:Int) (x:Int) (a:Int) (f:ld) (g:bx) (y:Int->ld->bx->x9 ρ) (z:Val yi->x9 ρ):x9 ρ :=
  ifb (ilt a (Û e)) (ck (h+a) fun A=>ck (A-1) fun c=>ck (h+a) fun d=>ck (a-(1:Int)) fun B=>ă e B fun C=>ă e a fun D=>Ã (vC ((j,k),l,m,n,o,p) (q,r,s,(t,u),(v,w),x) C D) fun E=>ck (0-E) fun F=>ck (0-F) fun i=>ä (Ú ((List.length f)+(List.length ([(c,d,(0:Int)),(d,c,i)])))) (ä (Ú ((List.length g)+(List.length ([((2:Int),b),((2:Int),b)])))) (ck (a+(1:Int)) fun G=>y G (f++([(c,d,(0:Int)),(d,c,i)])) (g++([((2:Int),b),((2:Int),b)]))))) (z (f,g))
def rB (q:ew) (r:Int) (f:Int) (g:Int) (h:ew) (i:bx) (j:c8) (k:eu) (l:bx) (s:bx) (t:Int) (b:Int) (d:ld) (e:bx) (u:Int->ld->bx->x9 ρ) (v:Val yi->x9 ρ):x9 ρ :=
  ifb (ilt b r) (ă q b fun a=>Ã (mM ((f,g),h,i,j,k,l) a) fun w=>Ã (jw (((f,g),h,i,j,k,l),s,(t,d),e) ([a.1]) a.2.1) fun c=>ck (a.2.2.1+a.2.2.2.1.1) fun x=>ck (a.2.2.1+a.2.2.2.1.2) fun n=>ck (0-x) fun o=>ä (Ú ((List.length d)+(List.length ([((0:Int),c,n),(c,(0:Int),o)])))) (ä (Ú ((List.length e)+(List.length ([((1:Int),b),((1:Int),b)])))) (Î (fun(m:nR) y=>rA b w c f g h i j k l a.1 a.2.1 a.2.2.1 a.2.2.2.1.1 a.2.2.2.1.2 a.2.2.2.2.1.1 a.2.2.2.2.1.2 a.2.2.2.2.2 m.1 m.2.1 m.2.2 (fun z A B=>y (z,A,B)) (fun p=>ck (b+(1:Int)) fun C=>u C p.1 p.2)) ((1:Int),(d++([((0:Int),c,n),(c,(0:Int),o)])),(e++([((1:Int),b),((1:Int),b)])))))) (v (d,e))
def rz (r:eu) (s:Int) (g:Int) (h:Int) (i:ew) (j:bx) (k:c8) (l:eu) (m:bx) (o:bx) (p:Int) (a:Int) (c:ld) (d:bx) (t:Int->ld->bx->x9 ρ) (u:Val yi->x9 ρ):x9 ρ :=
  ifb (ilt a s) (ă r a fun b=>Ã (η b.2.2.2.1 b.2.2.1) fun v=>Ã (jw (((g,h),i,j,k,l,m),o,(p,c),d) v b.2.1) fun e=>Ã (η b.2.2.1 b.2.2.2.1) fun w=>Ã (jw (((g,h),i,j,k,l,m),o,(p,c),d) w b.2.1) fun f=>Ã (vB ((g,h),i,j,k,l,m) b) fun n=>ck (0-n.1) fun q=>ä (Ú ((List.length c)+(List.length ([(e,f,n.2),(f,e,q)])))) (ä (Ú ((List.length d)+(List.length ([((3:Int),a),((3:Int),a)])))) (ck (a+(1:Int)) fun x=>t x (c++([(e,f,n.2),(f,e,q)])) (d++([((3:Int),a),((3:Int),a)]))))) (u (c,d))
def Ss (a:bl) (k:(Val (.ptr xn))->x9 ρ):x9 ρ :=
  Ã (nY a) fun b=>ck ((Û b)+(1:Int)) fun c=>Î (fun(d:nR) h=>rB a.2.1 (Û a.2.1) a.1.1 a.1.2 a.2.1 a.2.2.1 a.2.2.2.1 a.2.2.2.2.1 a.2.2.2.2.2 b c d.1 d.2.1 d.2.2 (fun i j l=>h (i,j,l)) (fun f=>Î (fun(e:nR) m=>rz a.2.2.2.2.1 (Û a.2.2.2.2.1) a.1.1 a.1.2 a.2.1 a.2.2.1 a.2.2.2.1 a.2.2.2.2.1 a.2.2.2.2.2 b c e.1 e.2.1 e.2.2 (fun n o p=>m (n,o,p)) (fun g=>k (a,b,(c,g.1),g.2))) ((0:Int),f.1,f.2))) ((0:Int),[],[])
def Ed (a:bl):x9 ((Val (.ptr xn))):=Ss a some
def JD (a:bl) (k:(Val (.pair Ð (.pair aa tI)))->x9 ρ):x9 ρ :=
  Ã (Ā a) fun b=>ifb (ine b 0) (k (((0:Int),[]),[],b)) (Ã (Ed a) fun c=>k (c.2.2.1,c.2.2.2,(0:Int)))
def gD (a:bl):x9 ((Val (.pair Ð (.pair aa tI)))):=JD a some
def rL (f:Int) (a:Int) (c:eu) (g:Int->eu->x9 ρ) (h:eu->x9 ρ):x9 ρ :=
  ifb (ilt a f) (ä ((ile 0 a)&&(ilt a (ē c))) (gO c (Int.toNat a) fun d=>ä (Ú (List.length d.2.2.1)) (ä (Ú (List.length d.2.2.2.1)) (ä ((ile 0 a)&&(ilt a (ē c))) (gO c (Int.toNat a) fun b=>ä ((ile 0 a)&&(ilt a (ē (List.set c (Int.toNat a) (b.1,b.2.1,d.2.2.1,b.2.2.2))))) (gO (List.set c (Int.toNat a) (b.1,b.2.1,d.2.2.1,b.2.2.2)) (Int.toNat a) fun e=>ck (a+(1:Int)) fun i=>g i (List.set (List.set c (Int.toNat a) (b.1,b.2.1,d.2.2.1,b.2.2.2)) (Int.toNat a) (e.1,e.2.1,e.2.2.1,d.2.2.2.1,e.2.2.2.2)))))))) (h c)
def Sz (a:bl) (b:an) (k:px->x9 ρ):x9 ρ :=
  Ã (Ā a) fun c=>ifb (ine c 0) (k ((((0:Int),(0:Int)),[],[],[],[],[]),c)) (ä (Ú (List.length a.2.1)) (ä (Ú (List.length a.2.2.1)) (ä (Ú (List.length a.2.2.2.1)) (ä (Ú (List.length a.2.2.2.2.2)) (ä (Ú (List.length a.2.2.2.2.1)) (Î (fun(d:r7) g=>rL (Û a.2.2.2.2.1) d.1 d.2 (fun h i=>g (h,i)) (fun e=>ä (Ú ((List.length a.2.2.2.2.2)+(List.length ([b])))) (Ã (Ā (a.1,a.2.1,a.2.2.1,a.2.2.2.1,e,(a.2.2.2.2.2++([b])))) fun f=>ifb (ine f 0) (k ((((0:Int),(0:Int)),[],[],[],[],[]),f)) (k ((a.1,a.2.1,a.2.2.1,a.2.2.2.1,e,(a.2.2.2.2.2++([b]))),(0:Int)))))) ((0:Int),a.2.2.2.2.1)))))))
def sa (a:bl) (b:an):x9 (px):=Sz a b some
def wC (a:fw) (k:rd->x9 ρ):x9 ρ :=
  Ã (nW a) fun b=>ifb (ine b.1 0) (k (false,b.1)) (Ã (lR a ([])) fun c=>k (c.2,(0:Int)))
def ū (a:fw):x9 (rd):=wC a some
def Β (m:Int) (j:bx) (b:Int) (c:Int) (d:Int) (e:ew) (f:bx) (g:c8) (h:eu) (i:bx) (k:Int->Int->Int->ew->bx->c8->eu->bx->x9 ρ) (n:Val aL->x9 ρ) (o:Val aj->x9 ρ):x9 ρ :=
  ifb (ilt b m) (ä ((ile 0 b)&&(ilt b (ē j))) (gO j (Int.toNat b) fun l=>Ã (gZ ((c,d),e,f,g,h,i) l) fun p=>ifb (ieq p.2 0) (ck (b+(1:Int)) fun q=>k q c d e f g h i) (Ã (sa ((c,d),e,f,g,h,i) l) fun a=>ifb (ine a.2 0) (n (a.2,c,d,e,f,g,h,i)) (ck (b+(1:Int)) fun r=>k r a.1.1.1 a.1.1.2 a.1.2.1 a.1.2.2.1 a.1.2.2.2.1 a.1.2.2.2.2.1 a.1.2.2.2.2.2)))) (o (c,d,e,f,g,h,i))
def CM (a:bl) (e:an) (k:Val Hw->x9 ρ):x9 ρ :=
  Ã (Ā a) fun f=>ifb (ine f 0) (ä (ine f 0) (k (((0:Int),(0:Int)),f))) (Î (fun(b:Val aL) h=>Β (Û ([e])) ([e]) b.1 b.2.1 b.2.2.1 b.2.2.2.1 b.2.2.2.2.1 b.2.2.2.2.2.1 b.2.2.2.2.2.2.1 b.2.2.2.2.2.2.2 (fun i j l m n o p q=>h (i,j,l,m,n,o,p,q)) (fun g=>ä (ine g.1 0) (k (((0:Int),(0:Int)),g.1))) (fun c=>Ã (gD ((c.1,c.2.1),c.2.2)) fun d=>ifb (ine d.2.2 0) (ä (ine d.2.2 0) (k (((0:Int),(0:Int)),d.2.2))) (Ã (ū d.1) fun r=>ifb (!r.1) (k (((0:Int),(0:Int)),(9:Int))) (Ã (iq (((c.1,c.2.1),c.2.2),d.1) e) fun s=>k (s,(0:Int)))))) ((0:Int),a.1.1,a.1.2,a.2.1,a.2.2.1,a.2.2.2.1,a.2.2.2.2.1,a.2.2.2.2.2))
def oY (a:bl) (b:an):x9 (Val Hw):=CM a b some
def vg (c:Int) (a:Int) (b:ag) (d:Int->ag->x9 ρ) (e:ag->x9 ρ):x9 ρ :=
  ifb (ilt a c) (ä ((ile 0 a)&&(ilt a (ē b))) (gO b (Int.toNat a) fun g=>ck (a+(1:Int)) fun f=>d f (List.set b (Int.toNat a) (1152921504606846976:Int)))) (e b)
def K6 (c:Int) (a:Int) (b:ag) (d:Int->ag->x9 ρ) (e:ag->x9 ρ):x9 ρ :=
  ifb (ilt a c) (ä ((ile 0 a)&&(ilt a (ē b))) (gO b (Int.toNat a) fun g=>ck (a+(1:Int)) fun f=>d f (List.set b (Int.toNat a) (1152921504606846976:Int)))) (e b)
def zQ (d:ag) (f:ld) (g:Int) (c:Int) (b:ag) (e:Int->ag->x9 ρ) (h:ag->x9 ρ):x9 ρ :=
  ifb (ilt c g) (ă f c fun a=>ă d a.2.1 fun i=>ifb (ine i 1152921504606846976) (ä ((ile 0 a.1)&&(ilt a.1 (ē b))) (gO b (Int.toNat a.1) fun j=>ă d a.2.1 fun k=>ck (a.2.2+k) fun l=>ä ((ile 0 a.1)&&(ilt a.1 (ē b))) (gO b (Int.toNat a.1) fun o=>ck (c+(1:Int)) fun m=>e m (List.set b (Int.toNat a.1) (UE j l))))) (ck (c+(1:Int)) fun n=>e n b)) (h b)
def D3 (i:Int) (b:Int) (d:ld) (e:Int) (a:rn) (j:Int->rn->x9 ρ) (k:rn->x9 ρ):x9 ρ :=
  ifb (ilt e i) (ck ((Û a)-(1:Int)) fun c=>ä ((ile 0 c)&&(ilt c (ē a))) (gO a (Int.toNat c) fun l=>ä ((ile 0 b)&&(Ú (Int.toNat b))) (Î (fun(f:io) m=>K6 (Û (List.replicate (Int.toNat b) (0:Int))) f.1 f.2 (fun n o=>m (n,o)) (fun p=>Î (fun(g:io) q=>zQ l d (Û d) g.1 g.2 (fun r s=>q (r,s)) (fun h=>ä (Ú ((List.length a)+(List.length ([h])))) (ck (e+(1:Int)) fun t=>j t (a++([h]))))) ((0:Int),p))) ((0:Int),(List.replicate (Int.toNat b) (0:Int)))))) (k a)
def NS (a:fw) (b:Int) (f:Int) (k:rn->x9 ρ):x9 ρ :=
  ä ((ile 0 a.1)&&(Ú (Int.toNat a.1))) (Î (fun(d:io) g=>vg (Û (List.replicate (Int.toNat a.1) (0:Int))) d.1 d.2 (fun h i=>g (h,i)) (fun c=>ä ((ile 0 b)&&(ilt b (ē c))) (gO c (Int.toNat b) fun o=>Î (fun(e:(Val (.pair tI aw))) j=>D3 f a.1 a.2 e.1 e.2 (fun l m=>j (l,m)) (fun n=>k n)) ((0:Int),[(List.set c (Int.toNat b) (0:Int))])))) ((0:Int),(List.replicate (Int.toNat a.1) (0:Int))))
def AP (a:fw) (b:Int) (c:Int):x9 (rn):=NS a b c some
def oG (b:rn) (c:Int) (d:Int) (e:Int) (a:Int) (f:Int->x9 ρ) (g:Int->x9 ρ) (h:Unit->x9 ρ):x9 ρ :=
  ifb (ilt a c) (ă b a fun i=>ă i d fun j=>ifb (ieq j e) (g a) (ck (a+(1:Int)) fun k=>f k)) (h ())
def CN (g:Int) (h:rn) (j:ld) (k:Int) (l:Int) (e:Int) (b:Int) (a:Int) (c:ag) (f:Int->Int->Int->ag->x9 ρ) (i:(Val (.pair tI ax))->x9 ρ):x9 ρ :=
  ifb (ilt a k) (ă j a fun d=>ifb (ieq d.1 e) (ck (g-(1:Int)) fun m=>ă h m fun n=>ă n d.2.1 fun o=>ifb (ine o 1152921504606846976) (ck (b+d.2.2) fun p=>ck (g-(1:Int)) fun q=>ă h q fun r=>ă r d.2.1 fun s=>ck (p+s) fun t=>ifb (ieq t l) (ä (Ú ((List.length c)+(List.length ([a])))) (ck (b+d.2.2) fun u=>i (d.2.1,u,(c++([a]))))) (ck (a+(1:Int)) fun v=>f e b v c)) (ck (a+(1:Int)) fun w=>f e b w c)) (ck (a+(1:Int)) fun x=>f e b x c)) (i (e,b,c))
def oF (f:rn) (g:Int) (d:ld) (h:Int) (b:Int) (i:Int) (e:ag) (j:Int->Int->Int->ag->x9 ρ) (k:ag->x9 ρ):x9 ρ :=
  ifb (igt b 0) (Î (fun(a:Val aK) l=>CN b f d (Û d) g a.1 a.2.1 a.2.2.1 a.2.2.2 (fun m n o p=>l (m,n,o,p)) (fun c=>ck (b-(1:Int)) fun q=>j c.1 q c.2.1 c.2.2)) (h,i,(0:Int),e)) (k e)
def NV (a:fw) (c:Int) (g:Int) (k:Val aS->x9 ρ):x9 ρ :=
  Ã (uD a c g) fun b=>ifb (ine b.2 0) (k ([],b.2)) (Ã (AP a g a.1) fun d=>Î (fun(h:Int) i=>oG d (Û d) c b.1 h (fun j=>i j) (fun l=>Î (fun(e:Val aK) m=>oF d b.1 a.2 e.1 e.2.1 e.2.2.1 e.2.2.2 (fun n o p q=>m (n,o,p,q)) (fun r=>k (r,(0:Int)))) (c,l,(0:Int),[])) (fun _=>Î (fun(f:Val aK) s=>oF d b.1 a.2 f.1 f.2.1 f.2.2.1 f.2.2.2 (fun t u v w=>s (t,u,v,w)) (fun x=>k (x,(0:Int)))) (c,(-1:Int),(0:Int),[]))) (0:Int))
def uC (a:fw) (b:Int) (c:Int):x9 ((Val aS)):=NV a b c some
def zI (a:ry) (c:(Val (.ptr Â))) (d:(Val (.ptr .bool))) (k:ag->x9 ρ):x9 ρ :=
  Ã (kQ a c) fun b=>ifb d (Ã (uC a.2 (0:Int) b) fun e=>k e.1) (Ã (uC a.2 b (0:Int)) fun f=>k f.1)
def jU (a:ry) (b:(Val (.ptr Â))) (c:(Val (.ptr .bool))):x9 (ag):=zI a b c some
def kW (d:bx) (e:ag) (f:Int) (a:Int) (b:bx) (g:Int->bx->x9 ρ) (h:bx->x9 ρ):x9 ρ :=
  ifb (ilt a f) (ă e a fun i=>ă d i fun c=>ä (Ú ((List.length b)+(List.length ([c])))) (ck (a+(1:Int)) fun j=>g j (b++([c])))) (h b)
def Fg (c:bl) (a:ag) (k:bx->x9 ρ):x9 ρ :=
  Ã (gD c) fun d=>Î (fun(b:Val aG) e=>kW d.2.1 a (Û a) b.1 b.2 (fun f g=>e (f,g)) (fun h=>k h)) ((0:Int),[])
def rV (a:bl) (b:ag):x9 (bx):=Fg a b some
def pn (m:Int) (j:bx) (b:Int) (c:Int) (d:Int) (e:ew) (f:bx) (g:c8) (h:eu) (i:bx) (k:Int->Int->Int->ew->bx->c8->eu->bx->x9 ρ) (n:Val aL->x9 ρ) (o:Val aj->x9 ρ):x9 ρ :=
  ifb (ilt b m) (ä ((ile 0 b)&&(ilt b (ē j))) (gO j (Int.toNat b) fun l=>Ã (gZ ((c,d),e,f,g,h,i) l) fun p=>ifb (ieq p.2 0) (ck (b+(1:Int)) fun q=>k q c d e f g h i) (Ã (sa ((c,d),e,f,g,h,i) l) fun a=>ifb (ine a.2 0) (n (a.2,c,d,e,f,g,h,i)) (ck (b+(1:Int)) fun r=>k r a.1.1.1 a.1.1.2 a.1.2.1 a.1.2.2.1 a.1.2.2.2.1 a.1.2.2.2.2.1 a.1.2.2.2.2.2)))) (o (c,d,e,f,g,h,i))
def pm (a:Int) (b:Int) (d:Int->x9 ρ) (c:Unit->x9 ρ):x9 ρ :=
  ifb (ilt b a) (none) (c ())
def xI (d:bl) (b:an) (f:Bool) (k:lA->x9 ρ):x9 ρ :=
  Ã (Ā d) fun i=>ifb (ine i 0) (ä (ine i 0) (k (((((0:Int),(0:Int)),[],[],[],[],[]),((0:Int),(0:Int)),false,(0:Int),[]),i))) (Î (fun(e:Val aL) n=>pn (Û ([b])) ([b]) e.1 e.2.1 e.2.2.1 e.2.2.2.1 e.2.2.2.2.1 e.2.2.2.2.2.1 e.2.2.2.2.2.2.1 e.2.2.2.2.2.2.2 (fun o p q r s t u v=>n (o,p,q,r,s,t,u,v)) (fun l=>ä (ine l.1 0) (k (((((0:Int),(0:Int)),[],[],[],[],[]),((0:Int),(0:Int)),false,(0:Int),[]),l.1))) (fun a=>Ã (gD ((a.1,a.2.1),a.2.2)) fun c=>ifb (ine c.2.2 0) (ä (ine c.2.2 0) (k (((((0:Int),(0:Int)),[],[],[],[],[]),((0:Int),(0:Int)),false,(0:Int),[]),c.2.2))) (Ã (ū c.1) fun w=>ifb (!w.1) (k (((((0:Int),(0:Int)),[],[],[],[],[]),((0:Int),(0:Int)),false,(0:Int),[]),(9:Int))) (Ã (jU (((a.1,a.2.1),a.2.2),c.1) b f) fun x=>Ã (rV ((a.1,a.2.1),a.2.2) x) fun y=>Ã (GJ ((a.1,a.2.1),a.2.2) y ([b])) fun g=>Ã (Ā g) fun j=>ifb (ine j 0) (ifb (ine j 0) (k (((((0:Int),(0:Int)),[],[],[],[],[]),((0:Int),(0:Int)),false,(0:Int),[]),j)) (Ã (Ū (((a.1,a.2.1),a.2.2),c.1) b) fun F=>none)) (Î (fun(z:Int) A=>pm (0:Int) z (fun B=>A B) (fun _=>Ã (gD g) fun h=>ifb (ine h.2.2 0) (ifb (ine h.2.2 0) (k (((((0:Int),(0:Int)),[],[],[],[],[]),((0:Int),(0:Int)),false,(0:Int),[]),h.2.2)) (Ã (Ū (((a.1,a.2.1),a.2.2),c.1) b) fun G=>none)) (Ã (ū h.1) fun C=>ifb (!C.1) (k (((((0:Int),(0:Int)),[],[],[],[],[]),((0:Int),(0:Int)),false,(0:Int),[]),(9:Int))) (Ã (Ū (((a.1,a.2.1),a.2.2),c.1) b) fun D=>Ã (jU (g,h.1) b f) fun m=>ifb f (Ã (Ε (((a.1,a.2.1),a.2.2),c.1) b) fun E=>k ((g,b,f,E,m),(0:Int))) (k ((g,b,f,D,m),(0:Int))))))) (0:Int)))))) ((0:Int),d.1.1,d.1.2,d.2.1,d.2.2.1,d.2.2.2.1,d.2.2.2.2.1,d.2.2.2.2.2))
def rX (a:bl) (b:an) (c:Bool):x9 (lA):=xI a b c some
def kX (d:ag) (e:Int) (f:ld) (a:Int) (g:Int->x9 ρ) (b:Int->x9 ρ) (h:Unit->x9 ρ):x9 ρ :=
  ifb (ilt a e) (ă d a fun c=>ifb (ilt c 0) (b a) (ifb (ige c (Û f)) (b a) (ck (a+(1:Int)) fun i=>g i))) (h ())
def Fx (b:fw) (a:ag) (k:Int->x9 ρ):x9 ρ :=
  ifb (igt (Û a) 80) (k (2:Int)) (Î (fun(c:Int) d=>kX a (Û a) b.2 c (fun e=>d e) (fun f=>ifb (ige f 0) (k (1:Int)) (k (0:Int))) (fun _=>k (0:Int))) (0:Int))
def nV (a:fw) (b:ag):x9 (Int):=Fx a b some
def rl (e:ag) (f:Int) (g:ld) (c:Int) (d:Int) (a:Int) (h:Int->Int->Int->x9 ρ) (i:pi->x9 ρ) (j:an->x9 ρ):x9 ρ :=
  ifb (ilt a f) (ă e a fun k=>ă g k fun b=>ifb (ine b.1 c) (i ((0:Int),(0:Int),false)) (ck (d+b.2.2) fun l=>ck (a+(1:Int)) fun m=>h b.2.1 l m)) (j (c,d))
def Sk (e:fw) (f:Int) (c:ag) (k:pi->x9 ρ):x9 ρ :=
  Î (fun(a:Val yh) g=>rl c (Û c) e.2 a.1 a.2.1 a.2.2 (fun h i j=>g (h,i,j)) (fun b=>k (b.1,b.2.1,b.2.2)) (fun d=>k (d.1,d.2,true))) (f,(0:Int),(0:Int))
def AO (a:fw) (b:Int) (c:ag):x9 (pi):=Sk a b c some
def wF (a:fw) (c:Int) (d:Int) (e:ag) (k:an->x9 ρ):x9 ρ :=
  Ã (nW a) fun f=>ifb (ine f.1 0) (k ((0:Int),f.1)) (Ã (oZ a c) fun h=>ifb (!h) (k ((0:Int),(1:Int))) (Ã (oZ a d) fun i=>ifb (!i) (k ((0:Int),(1:Int))) (Ã (nV a e) fun g=>ifb (ine g 0) (k ((0:Int),g)) (Ã (AO a c e) fun b=>ifb (!b.2.2) (k ((0:Int),(8:Int))) (ifb (ine b.1 d) (k ((0:Int),(8:Int))) (k (b.2.1,(0:Int))))))))
def iR (a:fw) (b:Int) (c:Int) (d:ag):x9 an:=wF a b c d some
def zH (a:pc) (k:Int->x9 ρ):x9 ρ :=
  Ã (Ā a.1) fun c=>ifb (ine c 0) (k c) (Ã (gZ a.1 a.2.1) fun b=>ifb (ine b.2 0) (k (5:Int)) (Ã (gD a.1) fun d=>ck (0-a.2.2.2.1) fun g=>ifb a.2.2.1 (Ã (iR d.1 (0:Int) b.1 a.2.2.2.2) fun e=>ifb (ine e.2 0) (k (8:Int)) (ifb (ine e.1 a.2.2.2.1) (k (8:Int)) (k (0:Int)))) (Ã (iR d.1 b.1 (0:Int) a.2.2.2.2) fun f=>ifb (ine f.2 0) (k (8:Int)) (ifb (ine f.1 g) (k (8:Int)) (k (0:Int))))))
def jT (a:pc):x9 (Int):=zH a some
def wE (a:fw) (b:ag) (k:Int->x9 ρ):x9 ρ :=
  Ã (nW a) fun d=>ifb (ine d.1 0) (k d.1) (Ã (nV a b) fun e=>ifb (ine e 0) (k e) (ifb (ieq (Û b) 0) (k (8:Int)) (ă b (0:Int) fun g=>ă a.2 g fun f=>Ã (AO a f.1 b) fun c=>ifb (!c.2.2) (k (8:Int)) (ifb (ine c.1 f.1) (k (8:Int)) (ifb (ige c.2.1 0) (k (8:Int)) (k (0:Int)))))))
def lf (a:fw) (b:ag):x9 (Int):=wE a b some
def wA (a:pc) (k:Int->x9 ρ):x9 ρ :=
  Ã (Ā a.1) fun b=>ifb (ine b 0) (k b) (ifb (!((ĺ a.2.1.1 (0:Int))&&((ĺ a.2.1.2 (0:Int))&&true))) (k (1:Int)) (ifb a.2.2.1 (k (1:Int)) (ifb (ine a.2.2.2.1 0) (k (1:Int)) (Ã (gD a.1) fun c=>Ã (lf c.1 a.2.2.2.2) fun d=>ifb (ine d 0) (k (8:Int)) (k (0:Int))))))
def la (a:pc):x9 (Int):=wA a some
def û (c:ew) (d:Int) (e:Int) (f:Int) (g:Int) (h:Int) (i:Int) (j:Int) (k:Int) (l:Int) (b:Int) (m:Int->x9 ρ) (n:Int->x9 ρ) (o:Unit->x9 ρ):x9 ρ :=
  ifb (ilt b d) (ă c b fun a=>ifb ((ĺ e a.1)&&((ĺ f a.2.1)&&((ĺ g a.2.2.1)&&((ĺ h a.2.2.2.1.1)&&((ĺ i a.2.2.2.1.2)&&((ĺ j a.2.2.2.2.1.1)&&((ĺ k a.2.2.2.2.1.2)&&((ĺ l a.2.2.2.2.2)&&true)))))))) (n b) (ck (b+(1:Int)) fun p=>m p)) (o ())
def ψ (b:ew) (a:cT) (k:Int->x9 ρ):x9 ρ :=
  Î (fun(c:Int) d=>û b (Û b) a.1 a.2.1 a.2.2.1 a.2.2.2.1.1 a.2.2.2.1.2 a.2.2.2.2.1.1 a.2.2.2.2.1.2 a.2.2.2.2.2 c (fun e=>d e) (fun f=>k f) (fun _=>k (-1:Int))) (0:Int)
def Ņ (a:ew) (b:cT):x9 (Int):=ψ a b some
def ų (a:ew) (b:cT) (k:Bool->x9 ρ):x9 ρ :=
  Ã (Ņ a b) fun c=>k (ige c 0)
def Ď (a:ew) (b:cT):x9 (Bool):=ų a b some
def ć (c:bx) (d:Int) (e:Int) (f:Int) (a:Int) (g:Int->x9 ρ) (h:Int->x9 ρ) (i:Unit->x9 ρ):x9 ρ :=
  ifb (ilt a d) (ă c a fun b=>ifb ((ĺ e b.1)&&((ĺ f b.2)&&true)) (h a) (ck (a+(1:Int)) fun j=>g j)) (i ())
def iM (a:bx) (b:an) (k:Int->x9 ρ):x9 ρ :=
  Î (fun(c:Int) d=>ć a (Û a) b.1 b.2 c (fun e=>d e) (fun f=>k f) (fun _=>k (-1:Int))) (0:Int)
def ũ (a:bx) (b:an):x9 (Int):=iM a b some
def gI (a:bx) (b:an) (k:Bool->x9 ρ):x9 ρ :=
  Ã (ũ a b) fun c=>k (ige c 0)
def ĉ (a:bx) (b:an):x9 (Bool):=gI a b some
def ý (c:c8) (d:Int) (e:Int) (f:Int) (g:Int) (h:Int) (a:Int) (i:Int->x9 ρ) (j:Int->x9 ρ) (k:Unit->x9 ρ):x9 ρ :=
  ifb (ilt a d) (ă c a fun b=>ifb ((ĺ e b.1)&&((ĺ f b.2.1.1)&&((ĺ g b.2.1.2)&&((ĺ h b.2.2)&&true)))) (j a) (ck (a+(1:Int)) fun l=>i l)) (k ())
def gT (b:c8) (a:qs) (k:Int->x9 ρ):x9 ρ :=
  Î (fun(c:Int) d=>ý b (Û b) a.1 a.2.1.1 a.2.1.2 a.2.2 c (fun e=>d e) (fun f=>k f) (fun _=>k (-1:Int))) (0:Int)
def Ŗ (a:c8) (b:qs):x9 (Int):=gT a b some
def Μ (a:c8) (b:qs) (k:Bool->x9 ρ):x9 ρ :=
  Ã (Ŗ a b) fun c=>k (ige c 0)
def ÿ (a:c8) (b:qs):x9 (Bool):=Μ a b some
def ri (c:ew) (d:Int) (a:Int) (b:fx) (e:Int->fx->x9 ρ) (f:fx->x9 ρ):x9 ρ :=
  ifb (ilt a d) (ă c a fun g=>ck (a+(1:Int)) fun h=>e h (DZ (k:=tI) (v:=.bool) g.1 true b)) (f b)
def kD (b:ag) (c:ag) (d:Int) (a:Int) (e:Int->x9 ρ) (f:Bool->x9 ρ) (g:Unit->x9 ρ):x9 ρ :=
  ifb (ilt a d) (ă b a fun h=>ă c a fun i=>ifb (ine h i) (f false) (ck (a+(1:Int)) fun j=>e j)) (g ())
def rh (b:ag) (c:ag) (d:Int) (a:Int) (e:Int->x9 ρ) (f:Bool->x9 ρ) (g:Unit->x9 ρ):x9 ρ :=
  ifb (ilt a d) (ă b a fun h=>ă c a fun i=>ifb (ine h i) (f false) (ck (a+(1:Int)) fun j=>e j)) (g ())
def nI (g:eu) (h:Int) (i:Int) (j:Int) (f:ag) (d:ag) (k:Int) (l:Int) (m:Int) (n:Int) (a:Int) (c:Int->x9 ρ) (e:Int->x9 ρ) (o:Unit->x9 ρ):x9 ρ :=
  ifb (ilt a h) (ă g a fun b=>ifb (ieq i b.1) (ifb (ieq j b.2.1) (ifb (ieq k b.2.2.2.2.1) (ifb (ieq l b.2.2.2.2.2.1) (ifb ((ĺ m b.2.2.2.2.2.2.1)&&((ĺ n b.2.2.2.2.2.2.2)&&true)) (ifb (ine (Û f) (Û b.2.2.1)) (ck (a+(1:Int)) fun p=>c p) (Î (fun(q:Int) r=>kD f b.2.2.1 (Û f) q (fun s=>r s) (fun t=>ifb t (ifb (ine (Û d) (Û b.2.2.2.1)) (ck (a+(1:Int)) fun u=>c u) (Î (fun(v:Int) w=>rh d b.2.2.2.1 (Û d) v (fun x=>w x) (fun y=>ifb y (e a) (ck (a+(1:Int)) fun z=>c z)) (fun _=>e a)) (0:Int))) (ck (a+(1:Int)) fun A=>c A)) (fun _=>ifb (ine (Û d) (Û b.2.2.2.1)) (ck (a+(1:Int)) fun B=>c B) (Î (fun(C:Int) D=>rh d b.2.2.2.1 (Û d) C (fun E=>D E) (fun F=>ifb F (e a) (ck (a+(1:Int)) fun G=>c G)) (fun _=>e a)) (0:Int)))) (0:Int))) (ck (a+(1:Int)) fun H=>c H)) (ck (a+(1:Int)) fun I=>c I)) (ck (a+(1:Int)) fun J=>c J)) (ck (a+(1:Int)) fun K=>c K)) (ck (a+(1:Int)) fun L=>c L)) (o ())
def nJ (e:eu) (f:Int) (c:eu) (b:Int) (g:Int->x9 ρ) (d:Bool->x9 ρ) (h:Unit->x9 ρ):x9 ρ :=
  ifb (ilt b f) (ă e b fun a=>Î (fun(i:Int) j=>nI c (Û c) a.1 a.2.1 a.2.2.1 a.2.2.2.1 a.2.2.2.2.1 a.2.2.2.2.2.1 a.2.2.2.2.2.2.1 a.2.2.2.2.2.2.2 i (fun k=>j k) (fun l=>ifb (!(ige l 0)) (d false) (ck (b+(1:Int)) fun m=>g m)) (fun _=>d false)) (0:Int)) (h ())
def nH (b:ew) (c:Int) (d:ew) (a:Int) (e:Int->x9 ρ) (f:Int->x9 ρ) (g:Unit->x9 ρ):x9 ρ :=
  ifb (ilt a c) (ă b a fun h=>Ã (Ď d h) fun i=>ifb (!i) (f a) (ck (a+(1:Int)) fun j=>e j)) (g ())
def jf (d:bx) (e:Int) (f:fx) (g:bx) (a:Int) (b:Int->x9 ρ) (h:Int->x9 ρ) (i:Unit->x9 ρ):x9 ρ :=
  ifb (ilt a e) (ă d a fun c=>Mm (k:=tI) (v:=.bool) c.1 f (fun j=>ifb j (Ã (ĉ g c) fun l=>ifb (!l) (h a) (ck (a+(1:Int)) fun m=>b m)) (ck (a+(1:Int)) fun n=>b n)) (ck (a+(1:Int)) fun o=>b o)) (i ())
def kB (d:bx) (e:Int) (f:fx) (g:bx) (a:Int) (b:Int->x9 ρ) (h:Int->x9 ρ) (i:Unit->x9 ρ):x9 ρ :=
  ifb (ilt a e) (ă d a fun c=>Mm (k:=tI) (v:=.bool) c.1 f (fun j=>ifb j (Ã (ĉ g c) fun l=>ifb (!l) (h a) (ck (a+(1:Int)) fun m=>b m)) (ck (a+(1:Int)) fun n=>b n)) (ck (a+(1:Int)) fun o=>b o)) (i ())
def Ħ (d:c8) (e:Int) (f:fx) (g:c8) (a:Int) (b:Int->x9 ρ) (h:Int->x9 ρ) (i:Unit->x9 ρ):x9 ρ :=
  ifb (ilt a e) (ă d a fun c=>Mm (k:=tI) (v:=.bool) c.1 f (fun j=>ifb j (Ã (ÿ g c) fun l=>ifb (!l) (h a) (ck (a+(1:Int)) fun m=>b m)) (ck (a+(1:Int)) fun n=>b n)) (ck (a+(1:Int)) fun o=>b o)) (i ())
def ą (d:c8) (e:Int) (f:fx) (g:c8) (a:Int) (b:Int->x9 ρ) (h:Int->x9 ρ) (i:Unit->x9 ρ):x9 ρ :=
  ifb (ilt a e) (ă d a fun c=>Mm (k:=tI) (v:=.bool) c.1 f (fun j=>ifb j (Ã (ÿ g c) fun l=>ifb (!l) (h a) (ck (a+(1:Int)) fun m=>b m)) (ck (a+(1:Int)) fun n=>b n)) (ck (a+(1:Int)) fun o=>b o)) (i ())
def KS (b:bl) (a:bl) (k:Bool->x9 ρ):x9 ρ :=
  Î (fun(d:nx) e=>ri b.2.1 (Û b.2.1) d.1 d.2 (fun f g=>e (f,g)) (fun c=>Î (fun(h:Int) i=>nJ b.2.2.2.2.1 (Û b.2.2.2.2.1) a.2.2.2.2.1 h (fun j=>i j) (fun l=>k l) (fun _=>ifb ((ĺ b.1.1 a.1.1)&&((ĺ b.1.2 a.1.2)&&true)) (Î (fun(m:Int) n=>nH b.2.1 (Û b.2.1) a.2.1 m (fun o=>n o) (fun p=>ifb (!(ige p 0)) (Î (fun(q:Int) r=>jf b.2.2.1 (Û b.2.2.1) c a.2.2.1 q (fun s=>r s) (fun t=>ifb (!(ige t 0)) (Î (fun(u:Int) v=>kB a.2.2.1 (Û a.2.2.1) c b.2.2.1 u (fun w=>v w) (fun x=>ifb (!(ige x 0)) (Î (fun(y:Int) z=>Ħ b.2.2.2.1 (Û b.2.2.2.1) c a.2.2.2.1 y (fun A=>z A) (fun B=>ifb (!(ige B 0)) (Î (fun(C:Int) D=>ą a.2.2.2.1 (Û a.2.2.2.1) c b.2.2.2.1 C (fun E=>D E) (fun F=>k (!(ige F 0))) (fun _=>k true)) (0:Int)) (k false)) (fun _=>Î (fun(G:Int) H=>ą a.2.2.2.1 (Û a.2.2.2.1) c b.2.2.2.1 G (fun I=>H I) (fun J=>k (!(ige J 0))) (fun _=>k true)) (0:Int))) (0:Int)) (k false)) (fun _=>Î (fun(K:Int) L=>Ħ b.2.2.2.1 (Û b.2.2.2.1) c a.2.2.2.1 K (fun M=>L M) (fun N=>ifb (!(ige N 0)) (Î (fun(O:Int) P=>ą a.2.2.2.1 (Û a.2.2.2.1) c b.2.2.2.1 O (fun Q=>P Q) (fun R=>k (!(ige R 0))) (fun _=>k true)) (0:Int)) (k false)) (fun _=>Î (fun(S:Int) T=>ą a.2.2.2.1 (Û a.2.2.2.1) c b.2.2.2.1 S (fun U=>T U) (fun V=>k (!(ige V 0))) (fun _=>k true)) (0:Int))) (0:Int))) (0:Int)) (k false)) (fun _=>Î (fun(W:Int) X=>kB a.2.2.1 (Û a.2.2.1) c b.2.2.1 W (fun Y=>X Y) (fun Z=>ifb (!(ige Z 0)) (Î (fun(b7:Int) b8=>Ħ b.2.2.2.1 (Û b.2.2.2.1) c a.2.2.2.1 b7 (fun b9=>b8 b9) (fun ca=>ifb (!(ige ca 0)) (Î (fun(cd:Int) ce=>ą a.2.2.2.1 (Û a.2.2.2.1) c b.2.2.2.1 cd (fun cf=>ce cf) (fun cg=>k (!(ige cg 0))) (fun _=>k true)) (0:Int)) (k false)) (fun _=>Î (fun(ci:Int) cj=>ą a.2.2.2.1 (Û a.2.2.2.1) c b.2.2.2.1 ci (fun cm=>cj cm) (fun cn=>k (!(ige cn 0))) (fun _=>k true)) (0:Int))) (0:Int)) (k false)) (fun _=>Î (fun(cp:Int) cq=>Ħ b.2.2.2.1 (Û b.2.2.2.1) c a.2.2.2.1 cp (fun cr=>cq cr) (fun cw=>ifb (!(ige cw 0)) (Î (fun(cz:Int) dc=>ą a.2.2.2.1 (Û a.2.2.2.1) c b.2.2.2.1 cz (fun df=>dc df) (fun dg=>k (!(ige dg 0))) (fun _=>k true)) (0:Int)) (k false)) (fun _=>Î (fun(dh:Int) di=>ą a.2.2.2.1 (Û a.2.2.2.1) c b.2.2.2.1 dh (fun dj=>di dj) (fun dk=>k (!(ige dk 0))) (fun _=>k true)) (0:Int))) (0:Int))) (0:Int))) (0:Int)) (k false)) (fun _=>Î (fun(dl:Int) dm=>jf b.2.2.1 (Û b.2.2.1) c a.2.2.1 dl (fun dt=>dm dt) (fun du=>ifb (!(ige du 0)) (Î (fun(dv:Int) dw=>kB a.2.2.1 (Û a.2.2.1) c b.2.2.1 dv (fun dz=>dw dz) (fun d8=>ifb (!(ige d8 0)) (Î (fun(d9:Int) ee=>Ħ b.2.2.2.1 (Û b.2.2.2.1) c a.2.2.2.1 d9 (fun eh=>ee eh) (fun ej=>ifb (!(ige ej 0)) (Î (fun(eo:Int) ez=>ą a.2.2.2.1 (Û a.2.2.2.1) c b.2.2.2.1 eo (fun fc=>ez fc) (fun fe=>k (!(ige fe 0))) (fun _=>k true)) (0:Int)) (k false)) (fun _=>Î (fun(ff:Int) fg=>ą a.2.2.2.1 (Û a.2.2.2.1) c b.2.2.2.1 ff (fun fh=>fg fh) (fun fi=>k (!(ige fi 0))) (fun _=>k true)) (0:Int))) (0:Int)) (k false)) (fun _=>Î (fun(fj:Int) fk=>Ħ b.2.2.2.1 (Û b.2.2.2.1) c a.2.2.2.1 fj (fun fm=>fk fm) (fun fo=>ifb (!(ige fo 0)) (Î (fun(fp:Int) fq=>ą a.2.2.2.1 (Û a.2.2.2.1) c b.2.2.2.1 fp (fun ft=>fq ft) (fun fu=>k (!(ige fu 0))) (fun _=>k true)) (0:Int)) (k false)) (fun _=>Î (fun(f0:Int) f5=>ą a.2.2.2.1 (Û a.2.2.2.1) c b.2.2.2.1 f0 (fun f6=>f5 f6) (fun f7=>k (!(ige f7 0))) (fun _=>k true)) (0:Int))) (0:Int))) (0:Int)) (k false)) (fun _=>Î (fun(f8:Int) f9=>kB a.2.2.1 (Û a.2.2.1) c b.2.2.1 f8 (fun gd=>f9 gd) (fun gg=>ifb (!(ige gg 0)) (Î (fun(gh:Int) gi=>Ħ b.2.2.2.1 (Û b.2.2.2.1) c a.2.2.2.1 gh (fun gj=>gi gj) (fun gk=>ifb (!(ige gk 0)) (Î (fun(gq:Int) gu=>ą a.2.2.2.1 (Û a.2.2.2.1) c b.2.2.2.1 gq (fun gw=>gu gw) (fun gx=>k (!(ige gx 0))) (fun _=>k true)) (0:Int)) (k false)) (fun _=>Î (fun(gy:Int) g8=>ą a.2.2.2.1 (Û a.2.2.2.1) c b.2.2.2.1 gy (fun g9=>g8 g9) (fun ic=>k (!(ige ic 0))) (fun _=>k true)) (0:Int))) (0:Int)) (k false)) (fun _=>Î (fun(ig:Int) ii=>Ħ b.2.2.2.1 (Û b.2.2.2.1) c a.2.2.2.1 ig (fun ij=>ii ij) (fun ik=>ifb (!(ige ik 0)) (Î (fun(il:Int) ip=>ą a.2.2.2.1 (Û a.2.2.2.1) c b.2.2.2.1 il (fun iq=>ip iq) (fun ir=>k (!(ige ir 0))) (fun _=>k true)) (0:Int)) (k false)) (fun _=>Î (fun(iu:Int) iv=>ą a.2.2.2.1 (Û a.2.2.2.1) c b.2.2.2.1 iu (fun iw=>iv iw) (fun ix=>k (!(ige ix 0))) (fun _=>k true)) (0:Int))) (0:Int))) (0:Int))) (0:Int))) (0:Int)) (k false))) (0:Int))) ((0:Int),[])
def AK (a:bl) (b:bl):x9 (Bool):=KS a b some
def Jn (b:bl) (a:pc) (k:rd->x9 ρ):x9 ρ :=
  Ã (Ā b) fun c=>ifb (ine c 0) (k (false,c)) (ifb ((ĺ a.2.1.1 (0:Int))&&((ĺ a.2.1.2 (0:Int))&&true)) (Ã (la a) fun d=>ifb (ine d 0) (k (false,d)) (Ã (AK a.1 b) fun f=>k (f,(0:Int)))) (Ã (jT a) fun e=>ifb (ine e 0) (k (false,e)) (Ã (AK a.1 b) fun g=>k (g,(0:Int)))))
def vz (a:bl) (b:pc):x9 (rd):=Jn a b some
def ς (p:Int) (e:Int) (f:Int) (g:ew) (h:bx) (i:c8) (j:eu) (k:bx) (q:Int) (r:Int) (l:Int) (s:Int) (a:Int) (d:Int->x9 ρ) (b:Bool->x9 ρ) (t:Unit->x9 ρ):x9 ρ :=
  ifb (ilt a 2) (Ã (rX ((e,f),g,h,i,j,k) (q,r) (ieq a 1)) fun c=>ifb (ine c.2 p) (b false) (ifb (ine c.2 0) (ck (a+(1:Int)) fun u=>d u) (Ã (vz ((e,f),g,h,i,j,k) c.1) fun m=>Ã (uB c.1) fun n=>Ã (AM n.1) fun o=>Ã (jT c.1) fun v=>ifb (ine v 0) (b false) (ifb (ine m.2 0) (b false) (ifb (!m.1) (b false) (ifb (ine n.2 0) (b false) (ifb (ine o.2 0) (b false) (Ã (mJ o.1 c.1) fun w=>ifb (!w) (b false) (ifb (ieq a 1) (ifb (ine c.1.2.2.2.1 s) (b false) (ifb (ieq a 0) (ifb (ine c.1.2.2.2.1 l) (b false) (ck (a+(1:Int)) fun x=>d x)) (ck (a+(1:Int)) fun y=>d y))) (ifb (ieq a 0) (ifb (ine c.1.2.2.2.1 l) (b false) (ck (a+(1:Int)) fun z=>d z)) (ck (a+(1:Int)) fun A=>d A))))))))))) (t ())
def yW (a:bl) (b:an) (k:Bool->x9 ρ):x9 ρ :=
  Ã (Eb a) fun d=>ifb (!d) (Ã rS fun e=>k e) (Ã (oY a b) fun c=>Î (fun(f:Int) g=>ς c.2 a.1.1 a.1.2 a.2.1 a.2.2.1 a.2.2.2.1 a.2.2.2.2.1 a.2.2.2.2.2 b.1 b.2 c.1.1 c.1.2 f (fun h=>g h) (fun i=>k i) (fun _=>Ã rS fun j=>k j)) (0:Int))
def rU (a:bl) (b:an):x9 (Bool):=yW a b some
end Go.Proofs.ZzM
end
