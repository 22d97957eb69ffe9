/- lemmas -/
import Derived.Test.YtjlkjopcjcbooaaGreatDoorAmC
set_option linter.all false
noncomputable section
variable {ρ:Type}
set_option maxRecDepth 100000
namespace Go.Proofs.ZzM
open Go Go.Am
abbrev tI:Ty:=.int .i64
abbrev Ë:Ty:=(.pair tI tI)
abbrev sR:Ty:=(.pair tI Ë)
abbrev gN:Ty:=(.pair Ë Ë)
abbrev kE:Ty:=(.pair Ë tI)
abbrev Ŧ:Ty:=(.pair tI kE)
abbrev DT:Ty:=(.pair gN tI)
abbrev nX:Ty:=(.pair (.slice sR) (.slice Ë))
abbrev Ì:Ty:=(.pair tI (.pair tI (.pair tI (.pair Ë kE))))
abbrev Ú:Ty:=(.pair tI (.pair tI (.pair (.slice tI) (.pair (.slice tI) (.pair tI sR)))))
abbrev Ã:Ty:=(.pair Ë (.pair (.slice Ì) (.pair (.slice Ë) (.pair (.slice Ŧ) (.pair (.slice Ú) (.slice Ë))))))
abbrev ĩ:Ty:=(.pair Ã (.pair Ë (.pair .bool (.pair tI (.slice tI)))))
abbrev aa:Ty:=(.slice Ë)
abbrev ab:Ty:=(.slice Ú)
abbrev ac:Ty:=(.slice Ì)
abbrev ae:Ty:=(.slice Ŧ)
abbrev af:Ty:=(.slice tI)
abbrev ah:Ty:=(.pair tI (.pair tI (.pair ac (.pair aa (.pair ae (.pair ab (.pair aa (.pair tI (.pair tI (.pair ac (.pair aa (.pair ae (.pair ab (.pair aa (.pair tI (.pair tI (.pair ac (.pair aa (.pair ae (.pair ab (.pair aa (.pair (.map tI .bool) (.pair (.map tI .bool) ac)))))))))))))))))))))))
abbrev ai:Ty:=(.pair tI (.pair tI (.pair ac (.pair aa (.pair ae (.pair ab aa))))))
abbrev aj:Ty:=(.slice .str)
abbrev ak:Ty:=(.pair tI (.pair tI (.pair ac (.pair aa (.pair ae (.pair ab (.pair aa (.pair tI ai))))))))
abbrev am:Ty:=(.map tI .bool)
abbrev ao:Ty:=(.pair tI (.pair tI (.pair ac (.pair aa (.pair ae (.pair ab (.pair aa (.pair tI (.pair tI (.pair af (.pair af (.pair tI (.pair tI (.pair tI (.pair tI af)))))))))))))))
abbrev aq:Ty:=(.pair tI (.pair tI (.pair tI sR)))
abbrev ar:Ty:=(.map tI Ì)
abbrev au:Ty:=(.pair tI (.pair tI (.pair tI (.pair ac (.pair aa (.pair ae (.pair ab (.pair aa (.pair tI (.pair tI aq))))))))))
abbrev aw:Ty:=(.pair .str tI)
abbrev ax:Ty:=(.pair tI (.pair tI (.pair ac (.pair aa (.pair ae (.pair ab (.pair aa tI)))))))
abbrev ay:Ty:=(.pair tI (.pair tI (.pair tI (.pair ac (.pair aa (.pair ae (.pair ab (.pair aa (.pair tI sR)))))))))
abbrev az:Ty:=(.pair tI af)
abbrev aB:Ty:=(.pair tI (.pair tI (.pair ac (.pair aa (.pair ae (.pair ab (.pair aa ai)))))))
abbrev aD:Ty:=(.pair tI aa)
abbrev aE:Ty:=(.slice af)
abbrev aF:Ty:=(.slice sR)
abbrev aG:Ty:=(.pair af af)
abbrev aH:Ty:=(.pair .str aq)
abbrev aI:Ty:=(.pair tI ai)
abbrev aJ:Ty:=(.pair tI aj)
abbrev aK:Ty:=(.pair Ã Ú)
abbrev aL:Ty:=(.pair Ã (.pair ar tI))
abbrev ag:=Val af
abbrev an:=Val Ã
abbrev a7:=Val aa
abbrev a8:=Val Ë
abbrev bl:=Val Ì
abbrev bx:=Val ab
abbrev bA:=Val ac
abbrev cT:=Val ae
abbrev c8:=Val aj
abbrev dx:=Val Ú
abbrev dy:=Val aw
abbrev ew:=Val (.map tI Ì)
abbrev ey:=Val (.pair tI aD)
abbrev fx:=Val az
abbrev fy:=Val (.pair (.int .u64) (.int .u64))
abbrev ge:=Val (.pair tI (.slice tI))
abbrev gv:=Val ai
abbrev io:=Val (.pair af tI)
abbrev js:=Val (.pair tI nX)
abbrev kN:=Val (.pair Ã tI)
abbrev lw:=Val (.pair Ã Ë)
abbrev lx:=Val ĩ
abbrev ly:=Val ar
abbrev m0:=Val (.pair Ŧ .bool)
abbrev nR:=Val ah
abbrev pc:=Val am
abbrev pi:=Val (.pair tI .str)
abbrev pl:=Val kE
abbrev px:=Val (.pair tI am)
abbrev py:=Val aG
abbrev rd:=Val Ŧ
abbrev rF:=Val aH
abbrev rT:=Val ak
abbrev r6:=Val aD
abbrev r8:=Val aJ
def ď (d:Val aE) (e:Int) (b:Int) (a:Int) (f:Int->Int->so ρ) (g:Int->so ρ):so ρ :=
  ifb (ilt a e) (ø d a fun h=>ck (b+(â h)) fun c=>ifb (ilt c 0) (none) (ck (a+(1:Int)) fun i=>f c i)) (g b)
def ã (d:Val aE) (e:Int) (a:Int) (b:ag) (f:Int->ag->so ρ) (g:ag->so ρ):so ρ :=
  ifb (ilt a e) (ø d a fun c=>ð (Ñ ((List.length b)+(List.length c))) (ck (a+(1:Int)) fun h=>f h (b++c))) (g b)
def gj (a:Val aE) (k:ag->so ρ):so ρ :=
  Ü (fun(c:a8) g=>ď a (â a) c.1 c.2 (fun h i=>g (h,i)) (fun d=>ifb (ilt d 0) (none) (ck (d-(0:Int)) fun b=>ifb (igt b 0) (ð ((ilt 0 b)&&(Ñ (Int.toNat b))) (ð (ile 0 (θ (List.replicate (Int.toNat b) (0:Int)))) (Ü (fun(e:fx) j=>ã a (â a) e.1 e.2 (fun l m=>j (l,m)) (fun n=>k n)) ((0:Int),(List.take 0 (List.replicate (Int.toNat b) (0:Int))))))) (Ü (fun(f:fx) o=>ã a (â a) f.1 f.2 (fun p q=>o (p,q)) (fun r=>k r)) ((0:Int),[]))))) ((0:Int),(0:Int))
def ü (a:Val aE):so (ag):=gj a some
def qG (l:th bl) (m:th (Int×Bool)):so (th bl) :=
  ð (Ñ l.length) (some (l.filter fun g=>(mP (k:=tI) (v:=.bool) g.1 m).getD false))
def mw (c:ag) (d:Int) (a:Int) (b:pc) (e:Int->pc->so ρ) (f:pc->so ρ):so ρ :=
  ifb (ilt a d) (ø c a fun g=>ck (a+(1:Int)) fun h=>e h (Ar (k:=tI) (v:=.bool) g true b)) (f b)
def qB (j:a7) (l:Int) (f:bA) (g:bx) (b:Int) (c:pc) (d:pc) (e:Int->pc->pc->so ρ) (m:(Val (.pair am am))->so ρ):so ρ :=
  ifb (ilt b l) (ø j b fun a=>ifb (fm a.1 0) (none) (ifb (fm a.1 1) (ø f a.2 fun n=>ck (b+(1:Int)) fun o=>e o (Ar (k:=tI) (v:=.bool) n.1 true c) d) (ifb (fm a.1 2) (ø f a.2 fun p=>ck (b+(1:Int)) fun q=>e q (Ar (k:=tI) (v:=.bool) p.1 true c) d) (ð (fm a.1 3) (ø g a.2 fun r=>ø g a.2 fun s=>Â (ü ([r.2.2.1,s.2.2.2.1])) fun h=>Ü (fun(i:px) t=>mw h (â h) i.1 i.2 (fun u w=>t (u,w)) (fun x=>ck (b+(1:Int)) fun y=>e y x (Ar (k:=tI) (v:=.bool) a.2 true d))) ((0:Int),c)))))) (m (c,d))
def mu (c:a7) (d:Int) (a:Int) (b:pc) (e:Int->pc->so ρ) (f:pc->so ρ):so ρ :=
  ifb (ilt a d) (ø c a fun g=>ck (a+(1:Int)) fun h=>e h (Ar (k:=tI) (v:=.bool) g.1 true b)) (f b)
def mr (e:a7) (f:Int) (g:pc) (a:Int) (b:a7) (c:Int->a7->so ρ) (h:a7->so ρ):so ρ :=
  ifb (ilt a f) (ø e a fun d=>VK (k:=tI) (v:=.bool) d.1 g (fun i=>ifb i (ð (Ñ ((List.length b)+(List.length ([d])))) (ck (a+(1:Int)) fun j=>c j (b++([d])))) (ck (a+(1:Int)) fun l=>c l b)) (ck (a+(1:Int)) fun m=>c m b)) (h b)
def mq (e:cT) (f:Int) (g:pc) (a:Int) (b:cT) (c:Int->cT->so ρ) (h:cT->so ρ):so ρ :=
  ifb (ilt a f) (ø e a fun d=>VK (k:=tI) (v:=.bool) d.1 g (fun i=>ifb i (ð (Ñ ((List.length b)+(List.length ([d])))) (ck (a+(1:Int)) fun j=>c j (b++([d])))) (ck (a+(1:Int)) fun l=>c l b)) (ck (a+(1:Int)) fun m=>c m b)) (h b)
def mo (e:bx) (f:Int) (g:pc) (a:Int) (b:bx) (d:Int->bx->so ρ) (h:bx->so ρ):so ρ :=
  ifb (ilt a f) (ø e a fun c=>VK (k:=tI) (v:=.bool) a g (fun i=>ifb i (ð (Ñ (List.length c.2.2.1)) (ð (Ñ (List.length c.2.2.2.1)) (ð (Ñ ((List.length b)+(List.length ([c])))) (ck (a+(1:Int)) fun j=>d j (b++([c])))))) (ck (a+(1:Int)) fun l=>d l b)) (ck (a+(1:Int)) fun m=>d m b)) (h b)
def iz (p:ey) (v:nR) (k:an->so ρ):so ρ :=
  Ü (fun(a:r6) d=>mr v.2.2.2.1 (â v.2.2.2.1) v.2.2.2.2.2.2.2.2.2.2.2.2.2.2.2.2.2.2.2.2.2.1 a.1 a.2 (fun e f=>d (e,f)) (fun g=>Ü (fun(b:(Val (.pair tI ae))) h=>mq v.2.2.2.2.1 (â v.2.2.2.2.1) v.2.2.2.2.2.2.2.2.2.2.2.2.2.2.2.2.2.2.2.2.2.1 b.1 b.2 (fun i j=>h (i,j)) (fun l=>Ü (fun(c:(Val (.pair tI ab))) m=>mo v.2.2.2.2.2.1 (â v.2.2.2.2.2.1) v.2.2.2.2.2.2.2.2.2.2.2.2.2.2.2.2.2.2.2.2.2.2.1 c.1 c.2 (fun n o=>m (n,o)) (fun q=>k ((p.1,p.2.1),v.2.2.2.2.2.2.2.2.2.2.2.2.2.2.2.2.2.2.2.2.2.2.2,g,l,q,p.2.2))) ((0:Int),[]))) ((0:Int),[]))) ((0:Int),[])
def vq (a:an) (d:a7) (b:a7) (kA:ey->nR->so ρ):so ρ :=
  Ü (fun(c:(Val (.pair tI (.pair am am)))) g=>qB d (â d) a.2.1 a.2.2.2.2.1 c.1 c.2.1 c.2.2 (fun h i j=>g (h,i,j)) (fun e=>Ü (fun(f:px) k=>mu b (â b) f.1 f.2 (fun l m=>k (l,m)) (fun n=>kA (a.1.1,a.1.2,b) (a.1.1,a.1.2,a.2.1,a.2.2.1,a.2.2.2.1,a.2.2.2.2.1,a.2.2.2.2.2,(0:Int),(0:Int),[],[],[],[],[],a.1.1,a.1.2,a.2.1,a.2.2.1,a.2.2.2.1,a.2.2.2.2.1,a.2.2.2.2.2,n,e.2,[]))) ((0:Int),e.1))) ((0:Int),[],[])
def QW (a:an) (b:a7) (c:a7) (k:an->so ρ):so ρ :=
  vq a b c fun p v=>Â (qG v.2.2.2.2.2.2.2.2.2.2.2.2.2.2.2.2.1 v.2.2.2.2.2.2.2.2.2.2.2.2.2.2.2.2.2.2.2.2.2.1) fun z=>iz p (v.1,v.2.1,v.2.2.1,v.2.2.2.1,v.2.2.2.2.1,v.2.2.2.2.2.1,v.2.2.2.2.2.2.1,v.2.2.2.2.2.2.2.1,v.2.2.2.2.2.2.2.2.1,v.2.2.2.2.2.2.2.2.2.1,v.2.2.2.2.2.2.2.2.2.2.1,v.2.2.2.2.2.2.2.2.2.2.2.1,v.2.2.2.2.2.2.2.2.2.2.2.2.1,v.2.2.2.2.2.2.2.2.2.2.2.2.2.1,v.2.2.2.2.2.2.2.2.2.2.2.2.2.2.1,v.2.2.2.2.2.2.2.2.2.2.2.2.2.2.2.1,v.2.2.2.2.2.2.2.2.2.2.2.2.2.2.2.2.1,v.2.2.2.2.2.2.2.2.2.2.2.2.2.2.2.2.2.1,v.2.2.2.2.2.2.2.2.2.2.2.2.2.2.2.2.2.2.1,v.2.2.2.2.2.2.2.2.2.2.2.2.2.2.2.2.2.2.2.1,v.2.2.2.2.2.2.2.2.2.2.2.2.2.2.2.2.2.2.2.2.1,v.2.2.2.2.2.2.2.2.2.2.2.2.2.2.2.2.2.2.2.2.2.1,v.2.2.2.2.2.2.2.2.2.2.2.2.2.2.2.2.2.2.2.2.2.2.1,z) k
def GH (a:an) (b:a7) (c:a7):so an:=QW a b c some
def EL (a:a8) (b:Int) (c:Int) (k:Bool->so ρ):so ρ :=
  ifb (ile b a.1) (ifb (ile a.1 a.2) (k (ile a.2 c)) (k false)) (k false)
def Ļ (a:a8) (b:Int) (c:Int):so (Bool):=EL a b c some
def EI (a:Int) (b:Int) (c:Int) (k:Bool->so ρ):so ρ :=
  ifb (ile b a) (k (ile a c)) (k false)
def Ą (a:Int) (b:Int) (c:Int):so (Bool):=EI a b c some
def Ja (a:Int) (k:Bool->so ρ):so ρ :=
  Â (Ą a (0:Int) (20000:Int)) fun b=>k b
def iO (a:Int):so (Bool):=Ja a some
def MW (a:Int) (k:Int->so ρ):so ρ :=
  ifb (ilt a 0) (k (IntKind.wrap .u64 (0-(IntKind.wrap .u64 a)))) (k (IntKind.wrap .u64 a))
def qZ (a:Int):so (Int):=MW a some
def qC (b:Int) (a:Int) (c:Int->Int->so ρ) (d:Int->so ρ):so ρ :=
  ifb (ine a 0) (ifb (fm a 0) (none) (c a (Int.tmod b a))) (d b)
def QX (b:Int) (c:Int) (k:Int->so ρ):so ρ :=
  Ü (fun(a:fy) d=>qC a.1 a.2 (fun e f=>d (e,f)) (fun g=>k g)) (b,c)
def GI (a:Int) (b:Int):so (Int):=QX a b some
def I6 (a:a8) (k:Bool->so ρ):so ρ :=
  ifb (ige a.2 1) (ifb (ile a.2 2147483647) (Â (qZ a.1) fun b=>ifb (ile b 2147483647) (Â (qZ a.1) fun c=>Â (qZ a.2) fun d=>Â (GI c d) fun e=>k (ieq e 1)) (k false)) (k false)) (k false)
def vY (a:a8):so (Bool):=I6 a some
def tE (a:bl) (k:Bool->so ρ):so ρ :=
  Â (vY a.2.2.2.2.1) fun b=>ifb b (Â (Ą a.2.2.2.2.1.1 (-1000:Int) (1000:Int)) fun c=>ifb c (Â (Ą a.1 (1:Int) (1099511627776:Int)) fun d=>ifb d (Â (iO a.2.1) fun e=>ifb e (Â (Ą a.2.2.1 (1:Int) (1125899906842624:Int)) fun f=>ifb f (Â (Ļ a.2.2.2.1 (-1073741824:Int) (1073741824:Int)) fun g=>ifb g (ifb (ile a.2.2.2.2.1.2 100) (Â (Ą a.2.2.2.2.2 (0:Int) (1048576:Int)) fun h=>k h) (k false)) (k false)) (k false)) (k false)) (k false)) (Â (Ą a.1 (1:Int) (1099511627776:Int)) fun i=>ifb i (Â (iO a.2.1) fun j=>ifb j (Â (Ą a.2.2.1 (1:Int) (1125899906842624:Int)) fun l=>ifb l (Â (Ļ a.2.2.2.1 (-1073741824:Int) (1073741824:Int)) fun m=>ifb m (k false) (k false)) (k false)) (k false)) (k false))) (Â (Ą a.1 (1:Int) (1099511627776:Int)) fun n=>ifb n (Â (iO a.2.1) fun o=>ifb o (Â (Ą a.2.2.1 (1:Int) (1125899906842624:Int)) fun p=>ifb p (Â (Ļ a.2.2.2.1 (-1073741824:Int) (1073741824:Int)) fun q=>ifb q (k false) (k false)) (k false)) (k false)) (k false))
def nM (a:bl):so (Bool):=tE a some
def ŷ (e:bA) (f:Int) (g:bA) (a:Int) (b:Int->so ρ) (c:Int->so ρ) (h:Unit->so ρ):so ρ :=
  ifb (ilt a f) (ø e a fun d=>Â (nM d) fun i=>ifb (!i) (c (1:Int)) (ifb (igt a 0) (ck (a-(1:Int)) fun j=>ø g j fun k=>ifb (ile d.1 k.1) (c (6:Int)) (ck (a+(1:Int)) fun l=>b l)) (ck (a+(1:Int)) fun m=>b m))) (h ())
def pL (a:an) (k:Int->so ρ):so ρ :=
  Ü (fun(b:Int) c=>ŷ a.2.1 (â a.2.1) a.2.1 b (fun d=>c d) (fun e=>k e) (fun _=>k (0:Int))) (0:Int)
def Į (a:an):so (Int):=pL a some
def iq (d:bA) (e:Int) (a:Int) (b:ly) (f:Int->ly->so ρ) (g:ly->so ρ):so ρ :=
  ifb (ilt a e) (ø d a fun c=>ck (a+(1:Int)) fun h=>f h (Ar (k:=tI) (v:=Ì) c.1 c b)) (g b)
def Bv (a:an) (k:ly->so ρ):so ρ :=
  Ü (fun(b:(Val (.pair tI ar))) c=>iq a.2.1 (â a.2.1) b.1 b.2 (fun d e=>c (d,e)) (fun f=>k f)) ((0:Int),[])
def Ť (a:an):so (ly):=Bv a some
def ŏ (b:ag) (c:Int) (d:Int) (a:Int) (e:Int->so ρ) (f:Int->so ρ) (g:Unit->so ρ):so ρ :=
  ifb (ilt a d) (ø b a fun h=>ifb (ieq c h) (f a) (ck (a+(1:Int)) fun i=>e i)) (g ())
def mi (a:ag) (b:Int) (k:Int->so ρ):so ρ :=
  Ü (fun(c:Int) d=>ŏ a b (â a) c (fun e=>d e) (fun f=>k f) (fun _=>k (-1:Int))) (0:Int)
def Ξ (a:ag) (b:Int):so (Int):=mi a b some
def iZ (a:ag) (b:Int) (k:Bool->so ρ):so ρ :=
  Â (Ξ a b) fun c=>k (ige c 0)
def Ć (a:ag) (b:Int):so (Bool):=iZ a b some
def nu (f:bx) (g:Int) (d:Int) (a:Int) (b:ag) (e:Int->ag->so ρ) (h:ag->so ρ):so ρ :=
  ifb (ilt a g) (ø f a fun c=>Â (Ć c.2.2.1 d) fun i=>Â (Ć c.2.2.2.1 d) fun j=>ifb (!(i==j)) (ð (Ñ ((List.length b)+(List.length ([c.2.1])))) (ck (a+(1:Int)) fun k=>e k (b++([c.2.1])))) (ck (a+(1:Int)) fun l=>e l b)) (h b)
def nt (e:a7) (f:Int) (g:Int) (a:Int) (b:ag) (d:Int->ag->so ρ) (h:ag->so ρ):so ρ :=
  ifb (ilt a f) (ø e a fun c=>ifb (ieq c.1 g) (ð (Ñ ((List.length b)+(List.length ([c.2])))) (ck (a+(1:Int)) fun i=>d i (b++([c.2])))) (ck (a+(1:Int)) fun j=>d j b)) (h b)
def MZ (a:an) (b:bl) (k:ag->so ρ):so ρ :=
  Ü (fun(d:fx) f=>nu a.2.2.2.2.1 (â a.2.2.2.2.1) b.1 d.1 d.2 (fun g h=>f (g,h)) (fun i=>Ü (fun(e:fx) j=>nt a.2.2.2.2.2 (â a.2.2.2.2.2) b.1 e.1 e.2 (fun l m=>j (l,m)) (fun c=>ð (Ñ (List.length c)) (ð (Ñ (List.length (HE c))) (k (wk (HE c)))))) ((0:Int),i))) ((0:Int),[b.2.1])
def rg (a:an) (b:bl):so (ag):=MZ a b some
def lz (e:ag) (f:Int) (c:Int) (a:Int) (b:a7) (g:Int->a7->so ρ) (h:a7->so ρ):so ρ :=
  ifb (ilt a f) (ø e a fun d=>ð (Ñ ((List.length b)+(List.length ([(c,d)])))) (ck (a+(1:Int)) fun i=>g i (b++([(c,d)])))) (h b)
def lC (f:bA) (g:Int) (h:Int) (i:Int) (j:bA) (k:a7) (l:cT) (m:bx) (n:a7) (a:Int) (b:a7) (o:Int->a7->so ρ) (p:a7->so ρ):so ρ :=
  ifb (ilt a g) (ø f a fun c=>Â (rg ((h,i),j,k,l,m,n) c) fun d=>Ü (fun(e:r6) q=>lz d (â d) c.1 e.1 e.2 (fun r s=>q (r,s)) (fun t=>ck (a+(1:Int)) fun u=>o u t)) ((0:Int),b)) (p b)
def I9 (a:an) (k:a7->so ρ):so ρ :=
  Ü (fun(b:r6) c=>lC a.2.1 (â a.2.1) a.1.1 a.1.2 a.2.1 a.2.2.1 a.2.2.2.1 a.2.2.2.2.1 a.2.2.2.2.2 b.1 b.2 (fun d e=>c (d,e)) (fun f=>k f)) ((0:Int),[])
def pW (a:an):so (a7):=I9 a some
def si (a:ly) (b:Int) (c:Int) (k:Int->so ρ):so ρ :=
  VK (k:=tI) (v:=Ì) b a (fun d=>ifb (ilt c d.2.1) (k (4:Int)) (k (0:Int))) (k (5:Int))
def ŵ (a:ly) (b:Int) (c:Int):so (Int):=si a b c some
def By (b:Int) (a:Int) (c:(Val (.ptr ar))) (k:Int->so ρ):so ρ :=
  Â (iO a) fun d=>ifb (!d) (k (1:Int)) (Â (ŵ c b a) fun e=>k e)
def ē (a:Int) (b:Int) (c:(Val (.ptr ar))):so (Int):=By a b c some
def fA (d:cT) (e:Int) (f:Int) (g:Int) (h:Int) (a:Int) (b:Int->so ρ) (i:Int->so ρ) (j:Unit->so ρ):so ρ :=
  ifb (ilt a e) (ø d a fun c=>ifb (ieq c.1 f) (ifb (ile c.2.1.1 h) (ifb (ile g c.2.1.2) (i a) (ck (a+(1:Int)) fun k=>b k)) (ck (a+(1:Int)) fun l=>b l)) (ck (a+(1:Int)) fun m=>b m)) (j ())
def Ĺ (d:a7) (e:Int) (f:Int) (g:Int) (h:Int) (a:Int) (b:Int->so ρ) (i:Int->so ρ) (j:Unit->so ρ):so ρ :=
  ifb (ilt a e) (ø d a fun c=>ifb (ieq c.1 f) (Â (Ą c.2 g h) fun k=>ifb k (i a) (ck (a+(1:Int)) fun l=>b l)) (ck (a+(1:Int)) fun m=>b m)) (j ())
def nw (b:an) (e:ly) (c:Int) (k:Int->so ρ):so ρ :=
  ø b.2.2.2.1 c fun a=>Â (Ļ a.2.1 (0:Int) (20000:Int)) fun f=>ifb (!f) (k (1:Int)) (Â (Ą a.2.2 (0:Int) (1048576:Int)) fun g=>ifb (!g) (k (1:Int)) (Â (ŵ e a.1 a.2.1.1) fun d=>ifb (ine d 0) (k d) (ð ((ile 0 c)&&(ile c (θ b.2.2.2.1))) (Ü (fun(h:Int) i=>fA (List.take (Int.toNat c) b.2.2.2.1) (â (List.take (Int.toNat c) b.2.2.2.1)) a.1 a.2.1.1 a.2.1.2 h (fun j=>i j) (fun l=>ifb (ige l 0) (k (9:Int)) (Ü (fun(m:Int) n=>Ĺ b.2.2.1 (â b.2.2.1) a.1 a.2.1.1 a.2.1.2 m (fun o=>n o) (fun p=>ifb (ige p 0) (k (9:Int)) (k (0:Int))) (fun _=>k (0:Int))) (0:Int))) (fun _=>Ü (fun(q:Int) r=>Ĺ b.2.2.1 (â b.2.2.1) a.1 a.2.1.1 a.2.1.2 q (fun s=>r s) (fun t=>ifb (ige t 0) (k (9:Int)) (k (0:Int))) (fun _=>k (0:Int))) (0:Int))) (0:Int)))))
def ľ (a:an) (b:ly) (c:Int):so (Int):=nw a b c some
def jw (e:ag) (f:ag) (g:Int) (a:Int) (b:Int->so ρ) (c:Bool->so ρ) (h:Unit->so ρ):so ρ :=
  ifb (ilt a g) (ø f a fun d=>Â (Ą d (1:Int) (1099511627776:Int)) fun i=>ifb (!i) (c false) (ifb (igt a 0) (ck (a-(1:Int)) fun j=>ø e j fun k=>ifb (ile d k) (c false) (ck (a+(1:Int)) fun l=>b l)) (ck (a+(1:Int)) fun m=>b m))) (h ())
def EK (a:ag) (k:Bool->so ρ):so ρ :=
  Ü (fun(b:Int) c=>jw a a (â a) b (fun d=>c d) (fun e=>k e) (fun _=>k (ile (â a) 6))) (0:Int)
def mM (a:ag):so (Bool):=EK a some
def nr (c:Int) (d:ag) (b:ag) (a:Int) (e:Int->so ρ) (f:Int->so ρ) (g:Unit->so ρ):so ρ :=
  ifb (ilt a c) (ð ((ile 0 a)&&(ilt a (θ b))) (Kd b (Int.toNat a) fun h=>Â (Ć d h) fun i=>ifb i (f a) (ck (a+(1:Int)) fun j=>e j))) (g ())
def fK (f:ag) (b:Int) (c:Int) (a:ag) (d:Int->Int->ag->so ρ) (g:fx->so ρ):so ρ :=
  ifb (ilt c (â a)) (ð ((ile 0 c)&&(ilt c (θ a))) (Kd a (Int.toNat c) fun e=>Â (Ć f e) fun h=>ifb (!h) (ð ((ile 0 b)&&(ilt b (θ a))) (Kd a (Int.toNat b) fun l=>ck (b+(1:Int)) fun i=>ck (c+(1:Int)) fun j=>d i j (List.set a (Int.toNat b) e))) (ck (c+(1:Int)) fun k=>d b k a))) (g (b,a))
def MY (b:ag) (e:ag) (k:ag->so ρ):so ρ :=
  ð (Ñ (List.length b)) (Ü (fun(f:Int) g=>nr (â b) e b f (fun h=>g h) (fun c=>ifb (ieq c (-1:Int)) (k b) (ck (c+(1:Int)) fun i=>Ü (fun(d:(Val (.pair tI az))) j=>fK e d.1 d.2.1 d.2.2 (fun l m n=>j (l,m,n)) (fun a=>ð ((ile 0 a.1)&&(ile a.1 (θ a.2))) (ð ((ile 0 a.1)&&(ile a.1 (θ (List.take (Int.toNat a.1) a.2++List.replicate (List.length a.2-(Int.toNat a.1)) (0:Int)++List.drop ((Int.toNat a.1)+(List.length a.2-(Int.toNat a.1))) a.2)))) (k (List.take (Int.toNat a.1) (List.drop 0 (List.take (Int.toNat a.1) a.2++List.replicate (List.length a.2-(Int.toNat a.1)) (0:Int)++List.drop ((Int.toNat a.1)+(List.length a.2-(Int.toNat a.1))) a.2))))))) (c,i,b))) (fun _=>k b)) (0:Int))
def gC (a:ag) (b:ag):so (ag):=MY a b some
def ny (d:cT) (e:Int) (f:Int) (g:Int) (a:Int) (c:Int->so ρ) (h:Int->so ρ) (i:Unit->so ρ):so ρ :=
  ifb (ilt a e) (ø d a fun b=>ifb (ieq b.1 f) (Â (Ą g b.2.1.1 b.2.1.2) fun j=>ifb j (h a) (ck (a+(1:Int)) fun k=>c k)) (ck (a+(1:Int)) fun l=>c l)) (i ())
def M3 (a:an) (c:Int) (d:Int) (k:m0->so ρ):so ρ :=
  Ü (fun(e:Int) f=>ny a.2.2.2.1 (â a.2.2.2.1) c d e (fun g=>f g) (fun b=>ifb (ilt b 0) (k (((0:Int),((0:Int),(0:Int)),(0:Int)),false)) (ø a.2.2.2.1 b fun h=>k (h,true))) (fun _=>k (((0:Int),((0:Int),(0:Int)),(0:Int)),false))) (0:Int)
def rh (a:an) (b:Int) (c:Int):so (m0):=M3 a b c some
def Š (b:bx) (c:Int) (d:Int) (a:Int) (e:Int->so ρ) (f:Int->so ρ) (g:Unit->so ρ):so ρ :=
  ifb (ilt a c) (ø b a fun h=>ifb (ieq h.1 d) (f a) (ck (a+(1:Int)) fun i=>e i)) (g ())
def ş (c:ly) (b:Int) (d:ag) (e:Int) (f:Int) (a:Int) (g:Int->so ρ) (h:Int->so ρ) (i:Unit->so ρ):so ρ :=
  ifb (ilt a e) (ø d a fun j=>Â (ŵ c j f) fun k=>ifb (ieq k b) (h b) (ck (a+(1:Int)) fun l=>g l)) (i ())
def ě (d:ly) (b:ag) (e:Int) (f:Int) (c:ag) (a:Int) (g:Int->so ρ) (h:Int->so ρ) (i:Unit->so ρ):so ρ :=
  ifb (ilt a e) (ð ((ile 0 a)&&(ilt a (θ c))) (Kd c (Int.toNat a) fun j=>Ü (fun(k:Int) l=>ş d j b (â b) f k (fun m=>l m) (fun n=>h n) (fun _=>ck (a+(1:Int)) fun o=>g o)) (0:Int))) (i ())
def Ě (b:ag) (c:Int) (d:Int) (e:Int) (f:bA) (g:a7) (h:cT) (i:bx) (j:a7) (k:Int) (a:Int) (l:Int->so ρ) (m:Int->so ρ) (n:Unit->so ρ):so ρ :=
  ifb (ilt a c) (ø b a fun o=>Â (rh ((d,e),f,g,h,i,j) o k) fun p=>ifb p.2 (m (9:Int)) (ck (a+(1:Int)) fun q=>l q)) (n ())
def iW (b:an) (f:ly) (c:Int) (k:Int->so ρ):so ρ :=
  ø b.2.2.2.2.1 c fun a=>Â (Ą a.1 (1:Int) (1099511627776:Int)) fun l=>ifb (!l) (k (1:Int)) (Â (iO a.2.1) fun m=>ifb (!m) (k (1:Int)) (Â (Ą a.2.2.2.2.1 (-1125899906842624:Int) (1125899906842624:Int)) fun n=>ifb (!n) (k (1:Int)) (Â (Ą a.2.2.2.2.2.1 (0:Int) (1073741824:Int)) fun o=>ifb (!o) (k (1:Int)) (Â (Ļ a.2.2.2.2.2.2 (-10000:Int) (10000:Int)) fun p=>ifb (!p) (k (1:Int)) (Â (mM a.2.2.1) fun q=>ifb (!q) (k (1:Int)) (Â (mM a.2.2.2.1) fun r=>ifb (!r) (k (1:Int)) (ð ((ile 0 c)&&(ile c (θ b.2.2.2.2.1))) (Ü (fun(s:Int) t=>Š (List.take (Int.toNat c) b.2.2.2.2.1) (â (List.take (Int.toNat c) b.2.2.2.2.1)) a.1 s (fun u=>t u) (fun v=>ifb (ige v 0) (k (6:Int)) (Â (ü ([a.2.2.1,a.2.2.2.1])) fun d=>Ü (fun(w:Int) x=>ě f d (â ([(5:Int),(4:Int)])) a.2.1 ([(5:Int),(4:Int)]) w (fun y=>x y) (fun z=>k z) (fun _=>Ü (fun(A:Int) B=>Ě d (â d) b.1.1 b.1.2 b.2.1 b.2.2.1 b.2.2.2.1 b.2.2.2.2.1 b.2.2.2.2.2 a.2.1 A (fun C=>B C) (fun D=>k D) (fun _=>Â (gC a.2.2.1 a.2.2.2.1) fun g=>Â (gC a.2.2.2.1 a.2.2.1) fun h=>ifb (igt (â g) 1) (k (1:Int)) (ifb (igt (â h) 1) (k (1:Int)) (ck ((â g)+(â h)) fun E=>ifb (ieq E 0) (k (1:Int)) (k (0:Int)))))) (0:Int))) (0:Int))) (fun _=>Â (ü ([a.2.2.1,a.2.2.2.1])) fun e=>Ü (fun(F:Int) G=>ě f e (â ([(5:Int),(4:Int)])) a.2.1 ([(5:Int),(4:Int)]) F (fun H=>G H) (fun I=>k I) (fun _=>Ü (fun(J:Int) K=>Ě e (â e) b.1.1 b.1.2 b.2.1 b.2.2.1 b.2.2.2.1 b.2.2.2.2.1 b.2.2.2.2.2 a.2.1 J (fun L=>K L) (fun M=>k M) (fun _=>Â (gC a.2.2.1 a.2.2.2.1) fun i=>Â (gC a.2.2.2.1 a.2.2.1) fun j=>ifb (igt (â i) 1) (k (1:Int)) (ifb (igt (â j) 1) (k (1:Int)) (ck ((â i)+(â j)) fun N=>ifb (ieq N 0) (k (1:Int)) (k (0:Int)))))) (0:Int))) (0:Int))) (0:Int)))))))))
def ĕ (a:an) (b:ly) (c:Int):so (Int):=iW a b c some
def iL (b:an) (s:ly):so (th Int) :=
  Â (Ax (fun u=>ē u.1 u.2 s) (b.2.2.1:th (Int×Int))) fun a=>Â (Ax (fun i=>ľ b s i) (oG (b.2.2.2.1:th rd).length)) fun c =>
    Â (Ax (fun i=>ĕ b s i) (oG (b.2.2.2.2.1:th dx).length)) fun d=>Â (Ax (fun u=>ē u.1 u.2 s) (b.2.2.2.2.2:th (Int×Int))) fun e=>some (a++(c++(d++e)))
def BQ (a:an) (k:Int->so ρ):so ρ :=
  Â (Ļ a.1 (0:Int) (1000000:Int)) fun d=>ifb (!d) (k (1:Int)) (ifb (igt (â a.2.1) 12) (k (2:Int)) (ifb (igt (â a.2.2.1) 40) (k (2:Int)) (ifb (igt (â a.2.2.2.1) 12) (k (2:Int)) (ifb (igt (â a.2.2.2.2.1) 40) (k (2:Int)) (ifb (igt (â a.2.2.2.2.2) 10) (k (2:Int)) (Â (Į a) fun b=>ifb (ine b 0) (k b) (Â (Ť a) fun e=>HN (iL a e) (fun f=>k f) (Â (pW a) fun c=>ifb (igt (â c) 59) (k (2:Int)) (ck ((2:Int)*(â a.2.1)) fun g=>ck ((â c)-(â a.2.1)) fun h=>ck ((2:Int)*h) fun i=>ck (g+i) fun j=>ck ((2:Int)*(â a.2.2.2.2.1)) fun l=>ck (j+l) fun m=>ifb (igt m 300) (k (2:Int)) (k (0:Int)))))))))))
def Ŕ (a:an):so (Int):=BQ a some
def Er (a:dx) (k:Bool->so ρ):so ρ :=
  ifb (ile (â a.2.2.1) 10) (k (ile (â a.2.2.2.1) 10)) (k false)
def qP (a:dx):so (Bool):=Er a some
def m8 (b:bx) (a:Int) (d:Int->so ρ) (e:Bool->so ρ) (c:Unit->so ρ):so ρ :=
  ifb (ilt a (â b)) (ifb (ilt a 50) (ø b a fun f=>Â (qP f) fun g=>ifb (!g) (e false) (ck (a+(1:Int)) fun h=>d h)) (c ())) (c ())
def ML (a:an) (k:Bool->so ρ):so ρ :=
  Ü (fun(b:Int) c=>m8 a.2.2.2.2.1 b (fun d=>c d) (fun e=>k e) (fun _=>ifb (ile (â a.2.1) 14) (ifb (ile (â a.2.2.1) 45) (ifb (ile (â a.2.2.2.1) 14) (ifb (ile (â a.2.2.2.2.1) 42) (k (ile (â a.2.2.2.2.2) 12)) (k false)) (k false)) (k false)) (k false))) (0:Int)
def zr (a:an):so (Bool):=ML a some
def Ò:so (Bool):=some true
def nq (d:ag) (e:Int) (a:ByteArray) (b:Int) (f:ByteArray->Int->so ρ) (g:ByteArray->so ρ):so ρ :=
  ifb (ilt b e) (ø d b fun h=>Â (Ŵ h) fun c=>ð (Ñ (ByteArray.size (ByteArray.mk #[32])+ByteArray.size c)) (ð (Ñ (ByteArray.size a+ByteArray.size ((ByteArray.mk #[32])++c))) (ck (b+(1:Int)) fun i=>f (a++((ByteArray.mk #[32])++c)) i))) (g a)
def MX (c:ByteArray) (a:ag) (k:ByteArray->so ρ):so ρ :=
  Ü (fun(b:dy) d=>nq a (â a) b.1 b.2 (fun e f=>d (e,f)) (fun g=>k g)) (c,(0:Int))
def gB (a:ByteArray) (b:ag):so (ByteArray):=MX a b some
def lK (e:bA) (f:Int) (b:Int) (c:c8) (g:Int->c8->so ρ) (h:c8->so ρ):so ρ :=
  ifb (ilt b f) (ø e b fun a=>Â (gB (ByteArray.mk #[103,97,117,103,101]) ([a.1,a.2.1,a.2.2.1,a.2.2.2.1.1,a.2.2.2.1.2,a.2.2.2.2.1.1,a.2.2.2.2.1.2,a.2.2.2.2.2])) fun d=>ð (Ñ ((List.length c)+(List.length ([d])))) (ck (b+(1:Int)) fun i=>g i (c++([d])))) (h c)
def lJ (e:a7) (f:Int) (a:Int) (b:c8) (g:Int->c8->so ρ) (h:c8->so ρ):so ρ :=
  ifb (ilt a f) (ø e a fun c=>Â (gB (ByteArray.mk #[117,115,101]) ([c.1,c.2])) fun d=>ð (Ñ ((List.length b)+(List.length ([d])))) (ck (a+(1:Int)) fun i=>g i (b++([d])))) (h b)
def lI (e:cT) (f:Int) (b:Int) (c:c8) (g:Int->c8->so ρ) (h:c8->so ρ):so ρ :=
  ifb (ilt b f) (ø e b fun a=>Â (gB (ByteArray.mk #[108,111,97,110]) ([a.1,a.2.1.1,a.2.1.2,a.2.2])) fun d=>ð (Ñ ((List.length c)+(List.length ([d])))) (ck (b+(1:Int)) fun i=>g i (c++([d])))) (h c)
def lH (g:bx) (h:Int) (d:Int) (e:c8) (i:Int->c8->so ρ) (j:c8->so ρ):so ρ :=
  ifb (ilt d h) (ø g d fun a=>Â (gB (ByteArray.mk #[99,111,109,112,97,114,101]) ([a.1,a.2.1,a.2.2.2.2.1,a.2.2.2.2.2.1,a.2.2.2.2.2.2.1,a.2.2.2.2.2.2.2])) fun b=>Â (gB (ByteArray.mk #[32,97]) a.2.2.1) fun c=>ð (Ñ (ByteArray.size b+ByteArray.size c)) (Â (gB (ByteArray.mk #[32,98]) a.2.2.2.1) fun f=>ð (Ñ (ByteArray.size (b++c)+ByteArray.size f)) (ð (Ñ ((List.length e)+(List.length ([((b++c)++f)])))) (ck (d+(1:Int)) fun k=>i k (e++([((b++c)++f)])))))) (j e)
def lG (e:a7) (f:Int) (a:Int) (b:c8) (g:Int->c8->so ρ) (h:c8->so ρ):so ρ :=
  ifb (ilt a f) (ø e a fun c=>Â (gB (ByteArray.mk #[108,111,111,107]) ([c.1,c.2])) fun d=>ð (Ñ ((List.length b)+(List.length ([d])))) (ck (a+(1:Int)) fun i=>g i (b++([d])))) (h b)
def vF (a:an) (k:dy->so ρ):so ρ :=
  Â (Ŕ a) fun b=>ifb (ine b 0) (k ((ByteArray.mk #[]),b)) (Â (gB (ByteArray.mk #[102,105,108,109]) ([a.1.1,a.1.2])) fun i=>Ü (fun(c:r8) j=>lK a.2.1 (â a.2.1) c.1 c.2 (fun l m=>j (l,m)) (fun n=>Ü (fun(d:r8) o=>lJ a.2.2.1 (â a.2.2.1) d.1 d.2 (fun p q=>o (p,q)) (fun r=>Ü (fun(e:r8) s=>lI a.2.2.2.1 (â a.2.2.2.1) e.1 e.2 (fun t u=>s (t,u)) (fun v=>Ü (fun(f:r8) w=>lH a.2.2.2.2.1 (â a.2.2.2.2.1) f.1 f.2 (fun x y=>w (x,y)) (fun z=>Ü (fun(g:r8) A=>lG a.2.2.2.2.2 (â a.2.2.2.2.2) g.1 g.2 (fun B C=>A (B,C)) (fun D=>Â (lZ D (ByteArray.mk #[10])) fun h=>ð (Ñ (ByteArray.size h+ByteArray.size (ByteArray.mk #[10]))) (k ((h++(ByteArray.mk #[10])),(0:Int))))) ((0:Int),z))) ((0:Int),v))) ((0:Int),r))) ((0:Int),n))) ((0:Int),[i]))
def gD (a:an):so (dy):=vF a some
def Bp (d:ag) (e:Int) (a:ByteArray) (b:Int) (f:ByteArray->Int->so ρ) (g:ByteArray->so ρ):so ρ :=
  ifb (ilt b e) (ø d b fun h=>Â (Ŵ h) fun c=>ð (Ñ (ByteArray.size (ByteArray.mk #[32])+ByteArray.size c)) (ð (Ñ (ByteArray.size a+ByteArray.size ((ByteArray.mk #[32])++c))) (ck (b+(1:Int)) fun i=>f (a++((ByteArray.mk #[32])++c)) i))) (g a)
def Up (c:ByteArray) (a:ag) (k:ByteArray->so ρ):so ρ :=
  Ü (fun(b:dy) d=>Bp a (â a) b.1 b.2 (fun e f=>d (e,f)) (fun g=>k g)) (c,(0:Int))
def lQ (a:ByteArray) (b:ag):so (ByteArray):=Up a b some
def Bt (b:lx) (k:dy->so ρ):so ρ :=
  Â (gD b.1) fun a=>ifb (ine a.2 0) (k ((ByteArray.mk #[]),a.2)) (ifb (igt (â b.2.2.2.2) 80) (k ((ByteArray.mk #[]),(2:Int))) (ifb b.2.2.1 (Â (lQ (ByteArray.mk #[99,101,114,116]) ([b.2.1.1,b.2.1.2])) fun c=>ð (Ñ (ByteArray.size a.1+ByteArray.size c)) (ð (Ñ (ByteArray.size (a.1++c)+ByteArray.size (ByteArray.mk #[32,117,112,112,101,114,32]))) (Â (Ŵ b.2.2.2.1) fun e=>ð (Ñ (ByteArray.size ((a.1++c)++(ByteArray.mk #[32,117,112,112,101,114,32]))+ByteArray.size e)) (ð (Ñ (ByteArray.size (((a.1++c)++(ByteArray.mk #[32,117,112,112,101,114,32]))++e)+ByteArray.size (ByteArray.mk #[10]))) (Â (lQ (ByteArray.mk #[99,104,97,105,110]) b.2.2.2.2) fun g=>ð (Ñ (ByteArray.size ((((a.1++c)++(ByteArray.mk #[32,117,112,112,101,114,32]))++e)++(ByteArray.mk #[10]))+ByteArray.size g)) (ð (Ñ (ByteArray.size (((((a.1++c)++(ByteArray.mk #[32,117,112,112,101,114,32]))++e)++(ByteArray.mk #[10]))++g)+ByteArray.size (ByteArray.mk #[10]))) (k (((((((a.1++c)++(ByteArray.mk #[32,117,112,112,101,114,32]))++e)++(ByteArray.mk #[10]))++g)++(ByteArray.mk #[10])),(0:Int))))))))) (Â (lQ (ByteArray.mk #[99,101,114,116]) ([b.2.1.1,b.2.1.2])) fun d=>ð (Ñ (ByteArray.size a.1+ByteArray.size d)) (ð (Ñ (ByteArray.size (a.1++d)+ByteArray.size (ByteArray.mk #[32,108,111,119,101,114,32]))) (Â (Ŵ b.2.2.2.1) fun f=>ð (Ñ (ByteArray.size ((a.1++d)++(ByteArray.mk #[32,108,111,119,101,114,32]))+ByteArray.size f)) (ð (Ñ (ByteArray.size (((a.1++d)++(ByteArray.mk #[32,108,111,119,101,114,32]))++f)+ByteArray.size (ByteArray.mk #[10]))) (Â (lQ (ByteArray.mk #[99,104,97,105,110]) b.2.2.2.2) fun h=>ð (Ñ (ByteArray.size ((((a.1++d)++(ByteArray.mk #[32,108,111,119,101,114,32]))++f)++(ByteArray.mk #[10]))+ByteArray.size h)) (ð (Ñ (ByteArray.size (((((a.1++d)++(ByteArray.mk #[32,108,111,119,101,114,32]))++f)++(ByteArray.mk #[10]))++h)+ByteArray.size (ByteArray.mk #[10]))) (k (((((((a.1++d)++(ByteArray.mk #[32,108,111,119,101,114,32]))++f)++(ByteArray.mk #[10]))++h)++(ByteArray.mk #[10])),(0:Int)))))))))))
def ý (a:lx):so (dy):=Bt a some
def xT (a:a8) (b:Int) (c:Int) (k:Bool->so ρ):so ρ :=
  ifb (ile b a.1) (ifb (ile a.1 a.2) (k (ile a.2 c)) (k false)) (k false)
def ž (a:a8) (b:Int) (c:Int):so (Bool):=xT a b c some
def QT (a:Int) (b:Int) (c:Int) (k:Bool->so ρ):so ρ :=
  ifb (ige a b) (k (ile a c)) (k false)
def gA (a:Int) (b:Int) (c:Int):so (Bool):=QT a b c some
def MP (a:Int) (k:Bool->so ρ):so ρ :=
  Â (gA a (0:Int) (20000:Int)) fun b=>k b
def nH (a:Int):so (Bool):=MP a some
def nl (b:Int) (a:Int) (c:Int->Int->so ρ) (d:Int->so ρ):so ρ :=
  ifb (ine a 0) (ifb (fm a 0) (none) (c a (Int.tmod b a))) (d b)
def MT (b:Int) (c:Int) (k:Int->so ρ):so ρ :=
  Ü (fun(a:a8) d=>nl a.1 a.2 (fun e f=>d (e,f)) (fun g=>k g)) (b,c)
def qX (a:Int) (b:Int):so (Int):=MT a b some
def MV (a:Int) (k:Int->so ρ):so ρ :=
  ifb (ilt a 0) (ck ((0:Int)-a) fun b=>k b) (k a)
def vX (a:Int):so (Int):=MV a some
def ED (a:a8) (k:Bool->so ρ):so ρ :=
  ifb (ilt a.2 1) (k false) (ifb (igt a.2 2147483647) (k false) (ifb (ilt a.1 (-2147483647:Int)) (k false) (ifb (igt a.1 2147483647) (k false) (Â (vX a.1) fun b=>Â (qX b a.2) fun c=>k (ieq c 1)))))
def qV (a:a8):so (Bool):=ED a some
def Ew (a:bl) (k:Bool->so ρ):so ρ :=
  Â (qV a.2.2.2.2.1) fun b=>ifb (!b) (k false) (Â (gA a.2.2.2.2.1.1 (-1000:Int) (1000:Int)) fun c=>ifb (!c) (k false) (ifb (igt a.2.2.2.2.1.2 100) (k false) (Â (gA a.1 (1:Int) (1099511627776:Int)) fun d=>ifb d (Â (nH a.2.1) fun e=>ifb e (Â (gA a.2.2.1 (1:Int) (1125899906842624:Int)) fun f=>ifb f (Â (ž a.2.2.2.1 (-1073741824:Int) (1073741824:Int)) fun g=>ifb g (Â (gA a.2.2.2.2.2 (0:Int) (1048576:Int)) fun h=>k h) (k false)) (k false)) (k false)) (k false))))
def qS (a:bl):so (Bool):=Ew a some
def lf (c:Int) (b:bA) (a:Int) (d:Int->so ρ) (e:Int->so ρ) (f:Unit->so ρ):so ρ :=
  ifb (ilt a (â b)) (ø b a fun g=>ifb (ieq g.1 c) (e a) (ck (a+(1:Int)) fun h=>d h)) (f ())
def IL (a:an) (b:Int) (k:Int->so ρ):so ρ :=
  Ü (fun(c:Int) d=>lf b a.2.1 c (fun e=>d e) (fun f=>k f) (fun _=>k (-1:Int))) (0:Int)
def kw (a:an) (b:Int):so (Int):=IL a b some
def Ex (a:an) (c:Int) (d:Int) (k:Int->so ρ):so ρ :=
  Â (kw a c) fun b=>ifb (ilt b 0) (k (5:Int)) (ø a.2.1 b fun e=>ifb (ilt d e.2.1) (k (4:Int)) (k (0:Int)))
def ig (a:an) (b:Int) (c:Int):so (Int):=Ex a b c some
def kJ (e:Int) (f:Int) (g:bA) (a:a7) (h:cT) (i:bx) (j:a7) (b:Int) (k:Int->so ρ) (c:Int->so ρ) (l:Unit->so ρ):so ρ :=
  ifb (ilt b (â a)) (ø a b fun m=>Â (nH m.2) fun n=>ifb (!n) (c (1:Int)) (ø a b fun o=>ø a b fun p=>Â (ig ((e,f),g,a,h,i,j) o.1 p.2) fun d=>ifb (ine d 0) (c d) (ck (b+(1:Int)) fun q=>k q))) (l ())
def Iv (a:an) (k:Int->so ρ):so ρ :=
  Ü (fun(b:Int) c=>kJ a.1.1 a.1.2 a.2.1 a.2.2.1 a.2.2.2.1 a.2.2.2.2.1 a.2.2.2.2.2 b (fun d=>c d) (fun e=>k e) (fun _=>k (0:Int))) (0:Int)
def vR (a:an):so (Int):=Iv a some
def jf (d:Int) (b:cT) (e:Int) (f:Int) (g:Int) (a:Int) (c:Int->so ρ) (h:Int->so ρ) (i:Unit->so ρ):so ρ :=
  ifb (ilt a d) (ø b a fun j=>ifb (ieq j.1 e) (ø b a fun k=>ifb (ile k.2.1.1 g) (ø b a fun l=>ifb (ile f l.2.1.2) (h (9:Int)) (ck (a+(1:Int)) fun m=>c m)) (ck (a+(1:Int)) fun n=>c n)) (ck (a+(1:Int)) fun o=>c o)) (i ())
def gk (b:a7) (d:Int) (e:Int) (f:Int) (a:Int) (c:Int->so ρ) (g:Int->so ρ) (h:Unit->so ρ):so ρ :=
  ifb (ilt a (â b)) (ø b a fun i=>ifb (ieq i.1 d) (ø b a fun j=>Â (gA j.2 e f) fun k=>ifb k (g (9:Int)) (ck (a+(1:Int)) fun l=>c l)) (ck (a+(1:Int)) fun m=>c m)) (h ())
def jg (g:Int) (h:Int) (i:bA) (e:a7) (c:cT) (j:bx) (k:a7) (d:Int) (l:Int->so ρ) (b:Int->so ρ) (m:Unit->so ρ):so ρ :=
  ifb (ilt d (â c)) (ø c d fun a=>Â (ž a.2.1 (0:Int) (20000:Int)) fun n=>ifb (!n) (b (1:Int)) (Â (gA a.2.2 (0:Int) (1048576:Int)) fun o=>ifb (!o) (b (1:Int)) (Â (ig ((g,h),i,e,c,j,k) a.1 a.2.1.1) fun f=>ifb (ine f 0) (b f) (Ü (fun(p:Int) q=>jf d c a.1 a.2.1.1 a.2.1.2 p (fun r=>q r) (fun s=>b s) (fun _=>Ü (fun(t:Int) u=>gk e a.1 a.2.1.1 a.2.1.2 t (fun v=>u v) (fun w=>b w) (fun _=>ck (d+(1:Int)) fun x=>l x)) (0:Int))) (0:Int))))) (m ())
def Et (a:an) (k:Int->so ρ):so ρ :=
  Ü (fun(b:Int) c=>jg a.1.1 a.1.2 a.2.1 a.2.2.1 a.2.2.2.1 a.2.2.2.2.1 a.2.2.2.2.2 b (fun d=>c d) (fun e=>k e) (fun _=>k (0:Int))) (0:Int)
def qR (a:an):so (Int):=Et a some
def kX (b:ag) (a:Int) (c:Int->so ρ) (d:Bool->so ρ) (e:Unit->so ρ):so ρ :=
  ifb (ilt a (â b)) (ø b a fun f=>Â (gA f (1:Int) (1099511627776:Int)) fun g=>ifb (!g) (d false) (ifb (igt a 0) (ø b a fun h=>ck (a-(1:Int)) fun i=>ø b i fun j=>ifb (ile h j) (d false) (ck (a+(1:Int)) fun k=>c k)) (ck (a+(1:Int)) fun l=>c l))) (e ())
def IH (a:ag) (k:Bool->so ρ):so ρ :=
  Ü (fun(b:Int) c=>kX a b (fun d=>c d) (fun e=>k e) (fun _=>k (ile (â a) 6))) (0:Int)
def pT (a:ag):so (Bool):=IH a some
def Es (a:dx) (k:Bool->so ρ):so ρ :=
  Â (pT a.2.2.1) fun b=>Â (pT a.2.2.2.1) fun c=>ifb b (ifb c (Â (gA a.1 (1:Int) (1099511627776:Int)) fun d=>ifb d (Â (nH a.2.1) fun e=>ifb e (Â (gA a.2.2.2.2.1 (-1125899906842624:Int) (1125899906842624:Int)) fun f=>ifb f (Â (gA a.2.2.2.2.2.1 (0:Int) (1073741824:Int)) fun g=>ifb g (Â (ž a.2.2.2.2.2.2 (-10000:Int) (10000:Int)) fun h=>k h) (k false)) (k false)) (k false)) (k false)) (k false)) (k false)
def qQ (a:dx):so (Bool):=Es a some
def kZ (j:Int) (h:Int) (i:cT) (b:Int) (c:Int) (d:Int) (e:Int) (f:Int) (g:Int->Int->Int->Int->Int->so ρ) (k:(Val (.pair .bool (.pair tI sR)))->so ρ) (l:(Val (.pair tI sR))->so ρ):so ρ :=
  ifb (ilt b (â i)) (ø i b fun a=>ifb (ieq a.1 j) (ifb (ile a.2.1.1 h) (ifb (ile h a.2.1.2) (k (true,a.1,a.2.1.1,a.2.1.2,a.2.2)) (ck (b+(1:Int)) fun m=>g m c d e f)) (ck (b+(1:Int)) fun n=>g n c d e f)) (ck (b+(1:Int)) fun o=>g o c d e f)) (l (c,d,e,f))
def IJ (c:an) (d:Int) (e:Int) (k:m0->so ρ):so ρ :=
  Ü (fun(a:(Val (.pair tI (.pair tI sR)))) f=>kZ d e c.2.2.2.1 a.1 a.2.1 a.2.2.1 a.2.2.2.1 a.2.2.2.2 (fun g h i j l=>f (g,h,i,j,l)) (fun b=>k ((b.2.1,(b.2.2.1,b.2.2.2.1),b.2.2.2.2),b.1)) (fun m=>k (((0:Int),((0:Int),(0:Int)),(0:Int)),false))) ((0:Int),(0:Int),(0:Int),(0:Int),(0:Int))
def pU (a:an) (b:Int) (c:Int):so (m0):=IJ a b c some
def nk (b:ag) (c:Int) (a:Int) (d:Int->so ρ) (e:Bool->so ρ) (f:Unit->so ρ):so ρ :=
  ifb (ilt a (â b)) (ø b a fun g=>ifb (ieq g c) (e true) (ck (a+(1:Int)) fun h=>d h)) (f ())
def MO (a:ag) (b:Int) (k:Bool->so ρ):so ρ :=
  Ü (fun(c:Int) d=>nk a b c (fun e=>d e) (fun f=>k f) (fun _=>k false)) (0:Int)
def zu (a:ag) (b:Int):so (Bool):=MO a b some
def la (c:ag) (f:ag) (a:Int) (b:ag) (d:Int->ag->so ρ) (g:ag->so ρ):so ρ :=
  ifb (ilt a (â c)) (ø c a fun h=>Â (zu f h) fun i=>ifb (!i) (ø c a fun e=>ð (Ñ ((List.length b)+(List.length ([e])))) (ck (a+(1:Int)) fun j=>d j (b++([e])))) (ck (a+(1:Int)) fun k=>d k b)) (g b)
def IK (b:ag) (c:ag) (k:ag->so ρ):so ρ :=
  Ü (fun(a:fx) d=>la b c a.1 a.2 (fun e f=>d (e,f)) (fun g=>k g)) ((0:Int),[])
def fk (a:ag) (b:ag):so (ag):=IK a b some
def ft (c:Int) (d:Int) (e:bA) (f:a7) (g:cT) (h:bx) (i:a7) (b:ag) (a:Int) (j:Int->so ρ) (k:Int->so ρ) (l:Unit->so ρ):so ρ :=
  ifb (ilt a (â b)) (ð ((ile 0 a)&&(ilt a (θ b))) (Kd b (Int.toNat a) fun m=>Â (kw ((c,d),e,f,g,h,i) m) fun n=>ifb (ilt n 0) (k (5:Int)) (ck (a+(1:Int)) fun o=>j o))) (l ())
def Ũ (c:Int) (d:Int) (e:bA) (f:a7) (g:cT) (h:bx) (i:a7) (j:Int) (b:ag) (a:Int) (k:Int->so ρ) (l:Int->so ρ) (m:Unit->so ρ):so ρ :=
  ifb (ilt a (â b)) (ð ((ile 0 a)&&(ilt a (θ b))) (Kd b (Int.toNat a) fun n=>Â (ig ((c,d),e,f,g,h,i) n j) fun o=>ifb (ine o 0) (l (4:Int)) (ck (a+(1:Int)) fun p=>k p))) (m ())
def ĸ (c:Int) (d:Int) (e:bA) (f:a7) (g:cT) (h:bx) (i:a7) (j:Int) (b:ag) (a:Int) (k:Int->so ρ) (l:Int->so ρ) (m:Unit->so ρ):so ρ :=
  ifb (ilt a (â b)) (ð ((ile 0 a)&&(ilt a (θ b))) (Kd b (Int.toNat a) fun n=>Â (pU ((c,d),e,f,g,h,i) n j) fun o=>ifb o.2 (l (9:Int)) (ck (a+(1:Int)) fun p=>k p))) (m ())
def ng (a:an) (b:dx) (k:Int->so ρ):so ρ :=
  ð (Ñ (0+(List.length b.2.2.1))) (ð (Ñ ((List.length (([])++b.2.2.1))+(List.length b.2.2.2.1))) (Ü (fun(e:Int) f=>ft a.1.1 a.1.2 a.2.1 a.2.2.1 a.2.2.2.1 a.2.2.2.2.1 a.2.2.2.2.2 ((([])++b.2.2.1)++b.2.2.2.1) e (fun g=>f g) (fun h=>k h) (fun _=>Ü (fun(i:Int) j=>Ũ a.1.1 a.1.2 a.2.1 a.2.2.1 a.2.2.2.1 a.2.2.2.2.1 a.2.2.2.2.2 b.2.1 ((([])++b.2.2.1)++b.2.2.2.1) i (fun l=>j l) (fun m=>k m) (fun _=>Ü (fun(n:Int) o=>ĸ a.1.1 a.1.2 a.2.1 a.2.2.1 a.2.2.2.1 a.2.2.2.2.1 a.2.2.2.2.2 b.2.1 ((([])++b.2.2.1)++b.2.2.2.1) n (fun p=>o p) (fun q=>k q) (fun _=>Â (fk b.2.2.1 b.2.2.2.1) fun c=>Â (fk b.2.2.2.1 b.2.2.1) fun d=>ifb (igt (â c) 1) (k (1:Int)) (ifb (igt (â d) 1) (k (1:Int)) (ck ((â c)+(â d)) fun r=>ifb (ieq r 0) (k (1:Int)) (k (0:Int)))))) (0:Int))) (0:Int))) (0:Int)))
def Ο (a:an) (b:dx):so (Int):=ng a b some
def MM (b:ag) (c:ag) (k:Int->so ρ):so ρ :=
  Â (fk b c) fun a=>ifb (ieq (â a) 0) (k (0:Int)) (ø a (0:Int) fun d=>k d)
def jB (a:ag) (b:ag):so (Int):=MM a b some
def kQ (g:Int) (c:bx) (d:Int) (b:Int) (e:Int->so ρ) (f:Bool->so ρ) (h:Unit->so ρ):so ρ :=
  ifb (ilt b (â c)) (ø c b fun a=>ifb (ieq a.2.1 g) (Â (jB a.2.2.1 a.2.2.2.1) fun i=>ifb (ieq i d) (f true) (Â (jB a.2.2.2.1 a.2.2.1) fun j=>ifb (ieq j d) (f true) (ck (b+(1:Int)) fun k=>e k))) (ck (b+(1:Int)) fun l=>e l)) (h ())
def iy (d:Int) (b:a7) (e:Int) (a:Int) (c:Int->so ρ) (f:Bool->so ρ) (g:Unit->so ρ):so ρ :=
  ifb (ilt a (â b)) (ø b a fun h=>ifb (ieq h.1 e) (ø b a fun i=>ifb (ieq i.2 d) (f true) (ck (a+(1:Int)) fun j=>c j)) (ck (a+(1:Int)) fun k=>c k)) (g ())
def IB (c:an) (a:bl) (b:Int) (k:Bool->so ρ):so ρ :=
  ifb (ieq a.2.1 b) (k true) (Ü (fun(d:Int) e=>kQ b c.2.2.2.2.1 a.1 d (fun f=>e f) (fun g=>k g) (fun _=>Ü (fun(h:Int) i=>iy b c.2.2.2.2.2 a.1 h (fun j=>i j) (fun l=>k l) (fun _=>k false)) (0:Int))) (0:Int))
def vS (a:an) (b:bl) (c:Int):so (Bool):=IB a b c some
def jp (c:bA) (a:Int) (b:ag) (e:Int->ag->so ρ) (f:ag->so ρ):so ρ :=
  ifb (ilt a (â c)) (ø c a fun d=>ð (Ñ ((List.length b)+(List.length ([d.2.1])))) (ck (a+(1:Int)) fun g=>e g (b++([d.2.1])))) (f b)
def jo (c:bx) (a:Int) (b:ag) (e:Int->ag->so ρ) (f:ag->so ρ):so ρ :=
  ifb (ilt a (â c)) (ø c a fun d=>ð (Ñ ((List.length b)+(List.length ([d.2.1])))) (ck (a+(1:Int)) fun g=>e g (b++([d.2.1])))) (f b)
def jn (c:a7) (a:Int) (b:ag) (e:Int->ag->so ρ) (f:ag->so ρ):so ρ :=
  ifb (ilt a (â c)) (ø c a fun d=>ð (Ñ ((List.length b)+(List.length ([d.2])))) (ck (a+(1:Int)) fun g=>e g (b++([d.2])))) (f b)
def gq (e:Int) (b:ag) (c:Int) (a:Int) (d:Int->Int->so ρ) (f:Int->so ρ):so ρ :=
  ifb (ilt a (â b)) (ð ((ile 0 a)&&(ilt a (θ b))) (Kd b (Int.toNat a) fun g=>ifb (igt g e) (ð ((ile 0 a)&&(ilt a (θ b))) (Kd b (Int.toNat a) fun h=>ck (a+(1:Int)) fun i=>d (VL c h) i)) (ck (a+(1:Int)) fun j=>d c j))) (f c)
def gu (e:Int) (i:Int) (j:Int) (c:bA) (k:a7) (l:cT) (m:bx) (n:a7) (o:ag) (f:Int) (b:a7) (d:Int->a7->so ρ) (p:a7->so ρ):so ρ :=
  ifb (ilt f 20001) (Ü (fun(g:a8) q=>gq f o g.1 g.2 (fun r s=>q (r,s)) (fun a=>ifb (ilt a 20001) (ø c e fun t=>Â (vS ((i,j),c,k,l,m,n) t a) fun u=>ifb u (ø c e fun h=>ð (Ñ ((List.length b)+(List.length ([(h.1,a)])))) (d a (b++([(h.1,a)])))) (d a b)) (d a b))) ((20001:Int),(0:Int))) (p b)
def jm (e:Int) (f:Int) (b:bA) (g:a7) (h:cT) (i:bx) (j:a7) (k:ag) (a:Int) (c:a7) (l:Int->a7->so ρ) (m:a7->so ρ):so ρ :=
  ifb (ilt a (â b)) (Ü (fun(d:r6) n=>gu a e f b g h i j k d.1 d.2 (fun o p=>n (o,p)) (fun q=>ck (a+(1:Int)) fun r=>l r q)) ((-1:Int),c)) (m c)
def Ez (a:an) (k:a7->so ρ):so ρ :=
  Ü (fun(b:fx) f=>jp a.2.1 b.1 b.2 (fun g h=>f (g,h)) (fun i=>Ü (fun(c:fx) j=>jo a.2.2.2.2.1 c.1 c.2 (fun l m=>j (l,m)) (fun n=>Ü (fun(d:fx) o=>jn a.2.2.2.2.2 d.1 d.2 (fun p q=>o (p,q)) (fun r=>Ü (fun(e:r6) s=>jm a.1.1 a.1.2 a.2.1 a.2.2.1 a.2.2.2.1 a.2.2.2.2.1 a.2.2.2.2.2 r e.1 e.2 (fun t u=>s (t,u)) (fun v=>k v)) ((0:Int),[]))) ((0:Int),n))) ((0:Int),i))) ((0:Int),[])
def fV (a:an):so (a7):=Ez a some
def kR (d:Int) (e:Int) (b:a7) (a:Int) (c:Int->so ρ) (f:Bool->so ρ) (g:Unit->so ρ):so ρ :=
  ifb (ilt a (â b)) (ø b a fun h=>ifb (ieq h.1 d) (ø b a fun i=>ifb (ieq i.2 e) (f true) (ck (a+(1:Int)) fun j=>c j)) (ck (a+(1:Int)) fun k=>c k)) (g ())
def IC (a:an) (b:Int) (c:Int) (k:Bool->so ρ):so ρ :=
  Ü (fun(d:Int) e=>kR b c a.2.2.1 d (fun f=>e f) (fun g=>k g) (fun _=>k false)) (0:Int)
def vT (a:an) (b:Int) (c:Int):so (Bool):=IC a b c some
def kY (d:Int) (m:Int) (n:Int) (e:Int) (f:Int) (g:bA) (h:a7) (i:cT) (j:bx) (k:a7) (b:Int) (a:Int) (c:Int->Int->so ρ) (o:Int->so ρ):so ρ :=
  ifb (ilt a m) (Â (pU ((e,f),g,h,i,j,k) d a) fun l=>ifb l.2 (ck (b+l.1.2.2) fun p=>ck (a+(1:Int)) fun q=>c p q) (Â (vT ((e,f),g,h,i,j,k) d a) fun r=>ifb r (ck (b+n) fun s=>ck (a+(1:Int)) fun t=>c s t) (ck (a+(1:Int)) fun u=>c b u))) (o b)
def II (a:an) (b:Int) (d:Int) (e:Int) (k:Int->so ρ):so ρ :=
  Â (kw a b) fun f=>ø a.2.1 f fun g=>Ü (fun(c:a8) h=>kY b e g.2.2.2.2.2 a.1.1 a.1.2 a.2.1 a.2.2.1 a.2.2.2.1 a.2.2.2.2.1 a.2.2.2.2.2 c.1 c.2 (fun i j=>h (i,j)) (fun l=>k l)) ((0:Int),d)
def mK (a:an) (b:Int) (c:Int) (d:Int):so (Int):=II a b c d some
def jq (b:a7) (d:Int) (e:Int) (a:Int) (f:Int->so ρ) (g:Int->so ρ) (h:Unit->so ρ):so ρ :=
  ifb (ilt a (â b)) (ø b a fun c=>ifb ((fm c.1 d)&&((fm c.2 e)&&true)) (ck (a+(1:Int)) fun i=>g i) (ck (a+(1:Int)) fun j=>f j)) (h ())
def EA (b:an) (a:a8) (k:Int->so ρ):so ρ :=
  Â (fV b) fun c=>Ü (fun(d:Int) e=>jq c a.1 a.2 d (fun f=>e f) (fun g=>k g) (fun _=>k (0:Int))) (0:Int)
def Τ (a:an) (b:a8):so (Int):=EA a b some
def Bm (b:Int) (a:Int) (k:pl->so ρ):so ρ :=
  ifb (ine b 0) (ifb (fm a 0) (none) (Â (vX (Int.tmod b a)) fun h=>Â (qX h a) fun c=>ifb (fm c 0) (none) (ck (Int.tdiv b c) fun d=>ifb (fm c 0) (none) (ck (Int.tdiv a c) fun f=>ifb (igt f 2147483647) (k (((0:Int),(0:Int)),(3:Int))) (ifb (ilt d (-2147483647:Int)) (k (((0:Int),(0:Int)),(3:Int))) (ifb (igt d 2147483647) (k (((0:Int),(0:Int)),(3:Int))) (k ((d,f),(0:Int))))))))) (ifb (fm a 0) (none) (ck (Int.tdiv b a) fun e=>ifb (fm a 0) (none) (ck (Int.tdiv a a) fun g=>ifb (igt g 2147483647) (k (((0:Int),(0:Int)),(3:Int))) (ifb (ilt e (-2147483647:Int)) (k (((0:Int),(0:Int)),(3:Int))) (ifb (igt e 2147483647) (k (((0:Int),(0:Int)),(3:Int))) (k ((e,g),(0:Int))))))))
def ky (a:Int) (b:Int):so pl:=Bm a b some
def MU (a:a8) (b:a8) (k:pl->so ρ):so ρ :=
  ck (a.1*b.2) fun c=>ck (b.1*a.2) fun d=>ck (c+d) fun e=>ck (a.2*b.2) fun f=>Â (ky e f) fun g=>k g
def GG (a:a8) (b:a8):so pl:=MU a b some
def MR (a:a8) (k:a8->so ρ):so ρ :=
  ck ((0:Int)-a.1) fun b=>k (b,a.2)
def GF (a:a8):so a8:=MR a some
def MQ (a:a8) (b:a8) (k:pl->so ρ):so ρ :=
  Â (GF b) fun c=>Â (GG a c) fun d=>k d
def zw (a:a8) (b:a8):so pl:=MQ a b some
def Eu (a:an) (b:Int) (k:a8->so ρ):so ρ :=
  ifb (ieq b 0) (k ((0:Int),(1:Int))) (Â (kw a b) fun c=>ø a.2.1 c fun d=>k d.2.2.2.2.1)
def mI (a:an) (b:Int):so a8:=Eu a b some
def IQ (a:pl) (b:pl) (k:Val DT->so ρ):so ρ :=
  ifb (ine a.2 0) (k ((((0:Int),(0:Int)),(0:Int),(0:Int)),a.2)) (ifb (ine b.2 0) (k ((((0:Int),(0:Int)),(0:Int),(0:Int)),b.2)) (k ((a.1,b.1),(0:Int))))
def vV (a:pl) (b:pl):so (Val DT):=IQ a b some
def MS (a:a8) (b:a8) (k:pl->so ρ):so ρ :=
  ck (a.1*b.1) fun c=>ck (a.2*b.2) fun d=>Â (ky c d) fun e=>k e
def nI (a:a8) (b:a8):so pl:=MS a b some
def EE (b:Val gN) (a:a8) (k:Val DT->so ρ):so ρ :=
  ifb (ilt a.1 0) (Â (nI b.2 a) fun c=>Â (nI b.1 a) fun d=>Â (vV c d) fun e=>k e) (Â (nI b.1 a) fun f=>Â (nI b.2 a) fun g=>Â (vV f g) fun h=>k h)
def qW (a:Val gN) (b:a8):so (Val DT):=EE a b some
def Be (b:an) (a:dx) (k:Val gN->so ρ):so ρ :=
  Â (jB a.2.2.1 a.2.2.2.1) fun c=>Â (mI b c) fun d=>Â (jB a.2.2.2.1 a.2.2.1) fun e=>Â (mI b e) fun f=>Â (zw d f) fun g=>Â (qW ((a.2.2.2.2.2.2.1,(1:Int)),a.2.2.2.2.2.2.2,(1:Int)) g.1) fun h=>k h.1
def nF (a:an) (b:dx):so (Val gN):=Be a b some
def EC (a:an) (b:dx) (k:a8->so ρ):so ρ :=
  ck ((â b.2.2.1)-(1:Int)) fun c=>ck ((â b.2.2.2.1)-(1:Int)) fun d=>ck ((Ru (0:Int) c)*a.1.1) fun e=>ck ((Ru (0:Int) d)*a.1.2) fun f=>ck (e-f) fun g=>ck ((Ru (0:Int) c)*a.1.2) fun h=>ck ((Ru (0:Int) d)*a.1.1) fun i=>ck (h-i) fun j=>k (g,j)
def qU (a:an) (b:dx):so a8:=EC a b some
def IP (b:Int) (a:Int) (k:Int->so ρ):so ρ :=
  ifb (fm a 0) (none) (ck (Int.tdiv b a) fun c=>ifb (fm a 0) (none) (ifb (ilt (Int.tmod b a) 0) (ck (c-1) fun d=>k d) (k c)))
def Cn (a:Int) (b:Int):so (Int):=IP a b some
def EG (a:a8) (k:Int->so ρ):so ρ :=
  Â (Cn a.1 a.2) fun b=>k b
def qY (a:a8):so (Int):=EG a some
def QV (b:Int) (a:Int) (k:Int->so ρ):so ρ :=
  ifb (fm a 0) (none) (ck (Int.tdiv b a) fun c=>ifb (fm a 0) (none) (ifb (igt (Int.tmod b a) 0) (ck (c+1) fun d=>k d) (k c)))
def Lj (a:Int) (b:Int):so (Int):=QV a b some
def IV (a:a8) (k:Int->so ρ):so ρ :=
  Â (Lj a.1 a.2) fun b=>k b
def vW (a:a8):so (Int):=IV a some
def IF (b:an) (a:dx) (k:a8->so ρ):so ρ :=
  Â (nF b a) fun c=>Â (qU b a) fun d=>ck (a.2.2.2.2.1-a.2.2.2.2.2.1) fun e=>ck (e-d.2) fun f=>Â (qY c.2) fun g=>ck (f-g) fun h=>ck (a.2.2.2.2.1+a.2.2.2.2.2.1) fun i=>ck (i-d.1) fun j=>Â (vW c.1) fun l=>ck (j-l) fun m=>k (h,m)
def mJ (a:an) (b:dx):so a8:=IF a b some
def ki (e:a7) (b:Int) (p:Int) (q:Int) (r:bA) (s:a7) (t:cT) (u:bx) (v:a7) (g:Int) (w:Int) (h:Int) (x:Int) (y:Int) (a:Int) (c:Val aF) (d:a7) (f:Int->Val aF->a7->so ρ) (z:Val nX->so ρ):so ρ :=
  ifb (ilt a (â e)) (ø e a fun A=>ifb (ine A.1 g) (ck (a+(1:Int)) fun B=>f B c d) (ø e a fun C=>ifb (ieq C.2 w) (ck (a+(1:Int)) fun i=>ck (h+y) fun j=>ck (a+(1:Int)) fun k=>ck ((0:Int)-h) fun D=>ck (D-x) fun l=>ð (Ñ ((List.length c)+(List.length ([((0:Int),i,j),(k,(0:Int),l)])))) (ð (Ñ ((List.length d)+(List.length ([((1:Int),b),((1:Int),b)])))) (ck (a+(1:Int)) fun E=>f E (c++([((0:Int),i,j),(k,(0:Int),l)])) (d++([((1:Int),b),((1:Int),b)]))))) (ck (a-(1:Int)) fun F=>ø e F fun G=>ø e a fun H=>Â (mK ((p,q),r,s,t,u,v) g G.2 H.2) fun m=>ck (a+(1:Int)) fun n=>ck (a+(1:Int)) fun o=>ð (Ñ ((List.length c)+(List.length ([(a,n,(0:Int)),(o,a,m)])))) (ð (Ñ ((List.length d)+(List.length ([((2:Int),b),((2:Int),b)])))) (ck (a+(1:Int)) fun I=>f I (c++([(a,n,(0:Int)),(o,a,m)])) (d++([((2:Int),b),((2:Int),b)]))))))) (z (c,d))
def nj (h:a7) (i:Int) (j:Int) (c:bA) (k:a7) (l:cT) (m:bx) (n:a7) (b:Int) (e:Val aF) (f:a7) (o:Int->Val aF->a7->so ρ) (p:Val nX->so ρ):so ρ :=
  ifb (ilt b (â c)) (ø c b fun a=>Ü (fun(d:js) q=>ki h b i j c k l m n a.1 a.2.1 a.2.2.1 a.2.2.2.1.1 a.2.2.2.1.2 d.1 d.2.1 d.2.2 (fun r s t=>q (r,s,t)) (fun g=>ck (b+(1:Int)) fun u=>o u g.1 g.2)) ((0:Int),e,f)) (p (e,f))
def nh (f:Int) (g:Int) (h:bA) (i:a7) (j:cT) (c:bx) (k:a7) (a:Int) (l:Val aF) (m:a7) (p:Int->Val aF->a7->so ρ) (q:Val nX->so ρ):so ρ :=
  ifb (ilt a (â c)) (ø c a fun b=>Â (jB b.2.2.1 b.2.2.2.1) fun r=>Â (Τ ((f,g),h,i,j,c,k) (r,b.2.1)) fun d=>Â (jB b.2.2.2.1 b.2.2.1) fun s=>Â (Τ ((f,g),h,i,j,c,k) (s,b.2.1)) fun e=>Â (mJ ((f,g),h,i,j,c,k) b) fun n=>ck ((0:Int)-n.1) fun o=>ð (Ñ ((List.length l)+(List.length ([(e,d,n.2),(d,e,o)])))) (ð (Ñ ((List.length m)+(List.length ([((3:Int),a),((3:Int),a)])))) (ck (a+(1:Int)) fun t=>p t (l++([(e,d,n.2),(d,e,o)])) (m++([((3:Int),a),((3:Int),a)]))))) (q (l,m))
def MN (a:an) (k:Val nX->so ρ):so ρ :=
  Â (fV a) fun e=>Ü (fun(b:js) f=>nj e a.1.1 a.1.2 a.2.1 a.2.2.1 a.2.2.2.1 a.2.2.2.2.1 a.2.2.2.2.2 b.1 b.2.1 b.2.2 (fun g h i=>f (g,h,i)) (fun d=>Ü (fun(c:js) j=>nh a.1.1 a.1.2 a.2.1 a.2.2.1 a.2.2.2.1 a.2.2.2.2.1 a.2.2.2.2.2 c.1 c.2.1 c.2.2 (fun l m n=>j (l,m,n)) (fun o=>k o)) ((0:Int),d.1,d.2))) ((0:Int),[],[])
def qT (a:an):so (Val nX):=MN a some
def jt (b:bA) (a:Int) (c:Int->so ρ) (d:Int->so ρ) (e:Unit->so ρ):so ρ :=
  ifb (ilt a (â b)) (ø b a fun f=>Â (qS f) fun g=>ifb (!g) (d (1:Int)) (ifb (igt a 0) (ø b a fun h=>ck (a-(1:Int)) fun i=>ø b i fun j=>ifb (ile h.1 j.1) (d (6:Int)) (ck (a+(1:Int)) fun k=>c k)) (ck (a+(1:Int)) fun l=>c l))) (e ())
def jr (b:Int) (c:bx) (a:Int) (d:Int->so ρ) (e:Int->so ρ) (f:Unit->so ρ):so ρ :=
  ifb (ilt a b) (ø c a fun g=>ø c b fun h=>ifb (ieq g.1 h.1) (e (6:Int)) (ck (a+(1:Int)) fun i=>d i)) (f ())
def Λ (e:Int) (f:Int) (g:bA) (h:a7) (i:cT) (a:bx) (j:a7) (b:Int) (k:Int->so ρ) (c:Int->so ρ) (l:Unit->so ρ):so ρ :=
  ifb (ilt b (â a)) (ø a b fun m=>Â (qQ m) fun n=>ifb (!n) (c (1:Int)) (Ü (fun(o:Int) p=>jr b a o (fun q=>p q) (fun r=>c r) (fun _=>ø a b fun s=>Â (Ο ((e,f),g,h,i,a,j) s) fun d=>ifb (ine d 0) (c d) (ck (b+(1:Int)) fun t=>k t))) (0:Int))) (l ())
def Κ (e:Int) (f:Int) (g:bA) (h:a7) (i:cT) (j:bx) (a:a7) (b:Int) (k:Int->so ρ) (c:Int->so ρ) (l:Unit->so ρ):so ρ :=
  ifb (ilt b (â a)) (ø a b fun m=>Â (nH m.2) fun n=>ifb (!n) (c (1:Int)) (ø a b fun o=>ø a b fun p=>Â (ig ((e,f),g,h,i,j,a) o.1 p.2) fun d=>ifb (ine d 0) (c d) (ck (b+(1:Int)) fun q=>k q))) (l ())
def wN (a:an) (k:Int->so ρ):so ρ :=
  Â (ž a.1 (0:Int) (1000000:Int)) fun d=>ifb (!d) (k (1:Int)) (ifb (igt (â a.2.1) 12) (k (2:Int)) (ifb (igt (â a.2.2.1) 40) (k (2:Int)) (ifb (igt (â a.2.2.2.1) 12) (k (2:Int)) (ifb (igt (â a.2.2.2.2.1) 40) (k (2:Int)) (ifb (igt (â a.2.2.2.2.2) 10) (k (2:Int)) (Ü (fun(e:Int) f=>jt a.2.1 e (fun g=>f g) (fun h=>k h) (fun _=>Â (vR a) fun b=>ifb (ieq b 0) (Â (qR a) fun c=>ifb (ine c 0) (k c) (Ü (fun(i:Int) j=>Λ a.1.1 a.1.2 a.2.1 a.2.2.1 a.2.2.2.1 a.2.2.2.2.1 a.2.2.2.2.2 i (fun l=>j l) (fun m=>k m) (fun _=>Ü (fun(n:Int) o=>Κ a.1.1 a.1.2 a.2.1 a.2.2.1 a.2.2.2.1 a.2.2.2.2.1 a.2.2.2.2.2 n (fun p=>o p) (fun q=>k q) (fun _=>Â (fV a) fun r=>ifb (igt (â r) 59) (k (2:Int)) (Â (qT a) fun s=>ifb (igt (â s.1) 300) (k (2:Int)) (k (0:Int))))) (0:Int))) (0:Int))) (ifb (ine b 0) (k b) (Ü (fun(t:Int) u=>Λ a.1.1 a.1.2 a.2.1 a.2.2.1 a.2.2.2.1 a.2.2.2.2.1 a.2.2.2.2.2 t (fun v=>u v) (fun w=>k w) (fun _=>Ü (fun(x:Int) y=>Κ a.1.1 a.1.2 a.2.1 a.2.2.1 a.2.2.2.1 a.2.2.2.2.1 a.2.2.2.2.2 x (fun z=>y z) (fun A=>k A) (fun _=>Â (fV a) fun B=>ifb (igt (â B) 59) (k (2:Int)) (Â (qT a) fun C=>ifb (igt (â C.1) 300) (k (2:Int)) (k (0:Int))))) (0:Int))) (0:Int))))) (0:Int)))))))
def mL (a:an):so (Int):=wN a some
def gw (rec:Int->so ByteArray) (b:Int) (a:ByteArray) (e:Int->ByteArray->so ρ) (f:ByteArray->so ρ):so ρ :=
  ifb (igt b 9) (ck (Int.tdiv b (10:Int)) fun c=>ck ((48:Int)+(Int.tmod c (10:Int))) fun d=>ð (Ñ (ByteArray.size (Β ([(IntKind.wrap .u8 d)]))+ByteArray.size a)) (e c ((Β ([(IntKind.wrap .u8 d)]))++a))) (f a)
def Ř (rec:Int->so ByteArray) (a:Int) (k:ByteArray->so ρ):so ρ :=
  ifb (ilt a 0) (ck ((0:Int)-(Int.tmod a (10:Int))) fun b=>ifb (igt a (-10:Int)) (ck ((48:Int)+b) fun c=>ð (Ñ (ByteArray.size (ByteArray.mk #[45])+ByteArray.size (Β ([(IntKind.wrap .u8 c)])))) (k ((ByteArray.mk #[45])++(Β ([(IntKind.wrap .u8 c)]))))) (ck (Int.tdiv a (10:Int)) fun g=>Â (rec g) fun d=>ck ((48:Int)+b) fun e=>ð (Ñ (ByteArray.size d+ByteArray.size (Β ([(IntKind.wrap .u8 e)])))) (k (d++(Β ([(IntKind.wrap .u8 e)])))))) (ck ((48:Int)+(Int.tmod a (10:Int))) fun h=>Ü (fun(f:pi) i=>gw rec f.1 f.2 (fun j l=>i (j,l)) (fun m=>k m)) (a,(Β ([(IntKind.wrap .u8 h)]))))
def iu:Nat->Int->so ByteArray
  |0=>fun _=>none
  |n+1=>fun a=>Ř (iu n) a some
def pV (a:Int):so (ByteArray):=iu 100 a
def kL (c:ag) (a:ByteArray) (b:Int) (e:ByteArray->Int->so ρ) (f:ByteArray->so ρ):so ρ :=
  ifb (ilt b (â c)) (ð (Ñ (ByteArray.size a+ByteArray.size (ByteArray.mk #[32]))) (ø c b fun g=>Â (pV g) fun d=>ð (Ñ (ByteArray.size (a++(ByteArray.mk #[32]))+ByteArray.size d)) (ck (b+(1:Int)) fun h=>e ((a++(ByteArray.mk #[32]))++d) h))) (f a)
def Iy (b:ByteArray) (c:ag) (k:ByteArray->so ρ):so ρ :=
  Ü (fun(a:dy) d=>kL c a.1 a.2 (fun e f=>d (e,f)) (fun g=>k g)) (b,(0:Int))
def Ū (a:ByteArray) (b:ag):so (ByteArray):=Iy a b some
def jl (e:bA) (b:ByteArray) (c:Int) (f:ByteArray->Int->so ρ) (g:ByteArray->so ρ):so ρ :=
  ifb (ilt c (â e)) (ø e c fun a=>Â (Ū (ByteArray.mk #[103,97,117,103,101]) ([a.1,a.2.1,a.2.2.1,a.2.2.2.1.1,a.2.2.2.1.2,a.2.2.2.2.1.1,a.2.2.2.2.1.2,a.2.2.2.2.2])) fun d=>ð (Ñ (ByteArray.size b+ByteArray.size d)) (ð (Ñ (ByteArray.size (b++d)+ByteArray.size (ByteArray.mk #[10]))) (ck (c+(1:Int)) fun h=>f ((b++d)++(ByteArray.mk #[10])) h))) (g b)
def jk (c:a7) (a:ByteArray) (b:Int) (e:ByteArray->Int->so ρ) (f:ByteArray->so ρ):so ρ :=
  ifb (ilt b (â c)) (ø c b fun g=>ø c b fun h=>Â (Ū (ByteArray.mk #[117,115,101]) ([g.1,h.2])) fun d=>ð (Ñ (ByteArray.size a+ByteArray.size d)) (ð (Ñ (ByteArray.size (a++d)+ByteArray.size (ByteArray.mk #[10]))) (ck (b+(1:Int)) fun i=>e ((a++d)++(ByteArray.mk #[10])) i))) (f a)
def jj (e:cT) (a:ByteArray) (c:Int) (f:ByteArray->Int->so ρ) (g:ByteArray->so ρ):so ρ :=
  ifb (ilt c (â e)) (ø e c fun b=>Â (Ū (ByteArray.mk #[108,111,97,110]) ([b.1,b.2.1.1,b.2.1.2,b.2.2])) fun d=>ð (Ñ (ByteArray.size a+ByteArray.size d)) (ð (Ñ (ByteArray.size (a++d)+ByteArray.size (ByteArray.mk #[10]))) (ck (c+(1:Int)) fun h=>f ((a++d)++(ByteArray.mk #[10])) h))) (g a)
def ji (g:bx) (b:ByteArray) (e:Int) (h:ByteArray->Int->so ρ) (i:ByteArray->so ρ):so ρ :=
  ifb (ilt e (â g)) (ø g e fun a=>Â (Ū (ByteArray.mk #[99,111,109,112,97,114,101]) ([a.1,a.2.1,a.2.2.2.2.1,a.2.2.2.2.2.1,a.2.2.2.2.2.2.1,a.2.2.2.2.2.2.2])) fun c=>ð (Ñ (ByteArray.size b+ByteArray.size c)) (Â (Ū (ByteArray.mk #[32,97]) a.2.2.1) fun d=>ð (Ñ (ByteArray.size (b++c)+ByteArray.size d)) (Â (Ū (ByteArray.mk #[32,98]) a.2.2.2.1) fun f=>ð (Ñ (ByteArray.size ((b++c)++d)+ByteArray.size f)) (ð (Ñ (ByteArray.size (((b++c)++d)++f)+ByteArray.size (ByteArray.mk #[10]))) (ck (e+(1:Int)) fun j=>h ((((b++c)++d)++f)++(ByteArray.mk #[10])) j))))) (i b)
def jh (c:a7) (a:ByteArray) (b:Int) (e:ByteArray->Int->so ρ) (f:ByteArray->so ρ):so ρ :=
  ifb (ilt b (â c)) (ø c b fun g=>ø c b fun h=>Â (Ū (ByteArray.mk #[108,111,111,107]) ([g.1,h.2])) fun d=>ð (Ñ (ByteArray.size a+ByteArray.size d)) (ð (Ñ (ByteArray.size (a++d)+ByteArray.size (ByteArray.mk #[10]))) (ck (b+(1:Int)) fun i=>e ((a++d)++(ByteArray.mk #[10])) i))) (f a)
def Ey (a:an) (k:ByteArray->so ρ):so ρ :=
  Â (Ū (ByteArray.mk #[102,105,108,109]) ([a.1.1,a.1.2])) fun b=>ð (Ñ (ByteArray.size b+ByteArray.size (ByteArray.mk #[10]))) (Ü (fun(c:dy) h=>jl a.2.1 c.1 c.2 (fun i j=>h (i,j)) (fun l=>Ü (fun(d:dy) m=>jk a.2.2.1 d.1 d.2 (fun n o=>m (n,o)) (fun p=>Ü (fun(e:dy) q=>jj a.2.2.2.1 e.1 e.2 (fun r s=>q (r,s)) (fun t=>Ü (fun(f:dy) u=>ji a.2.2.2.2.1 f.1 f.2 (fun v w=>u (v,w)) (fun x=>Ü (fun(g:dy) y=>jh a.2.2.2.2.2 g.1 g.2 (fun z A=>y (z,A)) (fun B=>k B)) (x,(0:Int)))) (t,(0:Int)))) (p,(0:Int)))) (l,(0:Int)))) ((b++(ByteArray.mk #[10])),(0:Int)))
def jO (a:an):so (ByteArray):=Ey a some
def gU (rec:Int->so ByteArray) (a:Int) (k:ByteArray->so ρ):so ρ :=
  ck ((48:Int)+(Int.tmod a (10:Int))) fun b=>ifb (ilt a 10) (k (Β ([(IntKind.wrap .u8 b)]))) (ck (Int.tdiv a (10:Int)) fun d=>Â (rec d) fun c=>ð (Ñ (ByteArray.size c+ByteArray.size (Β ([(IntKind.wrap .u8 b)])))) (k (c++(Β ([(IntKind.wrap .u8 b)])))))
def gQ:Nat->Int->so ByteArray
  |0=>fun _=>none
  |n+1=>fun a=>gU (gQ n) a some
def nE (a:Int):so (ByteArray):=gQ 100 a
def Az (a:Int) (k:ByteArray->so ρ):so ρ :=
  ifb (ige a 0) (Â (nE a) fun d=>k d) (ck ((48:Int)-(Int.tmod a (10:Int))) fun b=>ifb (igt a (-10:Int)) (ð (Ñ (ByteArray.size (ByteArray.mk #[45])+ByteArray.size (Β ([(IntKind.wrap .u8 b)])))) (k ((ByteArray.mk #[45])++(Β ([(IntKind.wrap .u8 b)]))))) (ck (Int.tdiv a (10:Int)) fun e=>ck ((0:Int)-e) fun f=>Â (nE f) fun c=>ð (Ñ (ByteArray.size (ByteArray.mk #[45])+ByteArray.size c)) (ð (Ñ (ByteArray.size ((ByteArray.mk #[45])++c)+ByteArray.size (Β ([(IntKind.wrap .u8 b)])))) (k (((ByteArray.mk #[45])++c)++(Β ([(IntKind.wrap .u8 b)])))))))
def ņ (a:Int):so (ByteArray):=Az a some
def Ş (c:ag) (a:ByteArray) (b:Int) (e:ByteArray->Int->so ρ) (f:ByteArray->so ρ):so ρ :=
  ifb (ilt b (â c)) (ð (Ñ (ByteArray.size a+ByteArray.size (ByteArray.mk #[32]))) (ø c b fun g=>Â (ņ g) fun d=>ð (Ñ (ByteArray.size (a++(ByteArray.mk #[32]))+ByteArray.size d)) (ck (b+(1:Int)) fun h=>e ((a++(ByteArray.mk #[32]))++d) h))) (f a)
def wL (a:lx) (k:ByteArray->so ρ):so ρ :=
  ifb a.2.2.1 (Â (jO a.1) fun b=>ð (Ñ (ByteArray.size b+ByteArray.size (ByteArray.mk #[99,101,114,116,32]))) (Â (ņ a.2.1.1) fun d=>ð (Ñ (ByteArray.size (b++(ByteArray.mk #[99,101,114,116,32]))+ByteArray.size d)) (ð (Ñ (ByteArray.size ((b++(ByteArray.mk #[99,101,114,116,32]))++d)+ByteArray.size (ByteArray.mk #[32]))) (Â (ņ a.2.1.2) fun f=>ð (Ñ (ByteArray.size (((b++(ByteArray.mk #[99,101,114,116,32]))++d)++(ByteArray.mk #[32]))+ByteArray.size f)) (ð (Ñ (ByteArray.size ((((b++(ByteArray.mk #[99,101,114,116,32]))++d)++(ByteArray.mk #[32]))++f)+ByteArray.size (ByteArray.mk #[32,117,112,112,101,114,32]))) (Â (ņ a.2.2.2.1) fun h=>ð (Ñ (ByteArray.size (((((b++(ByteArray.mk #[99,101,114,116,32]))++d)++(ByteArray.mk #[32]))++f)++(ByteArray.mk #[32,117,112,112,101,114,32]))+ByteArray.size h)) (ð (Ñ (ByteArray.size ((((((b++(ByteArray.mk #[99,101,114,116,32]))++d)++(ByteArray.mk #[32]))++f)++(ByteArray.mk #[32,117,112,112,101,114,32]))++h)+ByteArray.size (ByteArray.mk #[10,99,104,97,105,110]))) (Ü (fun(j:dy) o=>Ş a.2.2.2.2 j.1 j.2 (fun p q=>o (p,q)) (fun l=>ð (Ñ (ByteArray.size l+ByteArray.size (ByteArray.mk #[10]))) (k (l++(ByteArray.mk #[10]))))) ((((((((b++(ByteArray.mk #[99,101,114,116,32]))++d)++(ByteArray.mk #[32]))++f)++(ByteArray.mk #[32,117,112,112,101,114,32]))++h)++(ByteArray.mk #[10,99,104,97,105,110])),(0:Int)))))))))) (Â (jO a.1) fun c=>ð (Ñ (ByteArray.size c+ByteArray.size (ByteArray.mk #[99,101,114,116,32]))) (Â (ņ a.2.1.1) fun e=>ð (Ñ (ByteArray.size (c++(ByteArray.mk #[99,101,114,116,32]))+ByteArray.size e)) (ð (Ñ (ByteArray.size ((c++(ByteArray.mk #[99,101,114,116,32]))++e)+ByteArray.size (ByteArray.mk #[32]))) (Â (ņ a.2.1.2) fun g=>ð (Ñ (ByteArray.size (((c++(ByteArray.mk #[99,101,114,116,32]))++e)++(ByteArray.mk #[32]))+ByteArray.size g)) (ð (Ñ (ByteArray.size ((((c++(ByteArray.mk #[99,101,114,116,32]))++e)++(ByteArray.mk #[32]))++g)+ByteArray.size (ByteArray.mk #[32,108,111,119,101,114,32]))) (Â (ņ a.2.2.2.1) fun i=>ð (Ñ (ByteArray.size (((((c++(ByteArray.mk #[99,101,114,116,32]))++e)++(ByteArray.mk #[32]))++g)++(ByteArray.mk #[32,108,111,119,101,114,32]))+ByteArray.size i)) (ð (Ñ (ByteArray.size ((((((c++(ByteArray.mk #[99,101,114,116,32]))++e)++(ByteArray.mk #[32]))++g)++(ByteArray.mk #[32,108,111,119,101,114,32]))++i)+ByteArray.size (ByteArray.mk #[10,99,104,97,105,110]))) (Ü (fun(m:dy) r=>Ş a.2.2.2.2 m.1 m.2 (fun s t=>r (s,t)) (fun n=>ð (Ñ (ByteArray.size n+ByteArray.size (ByteArray.mk #[10]))) (k (n++(ByteArray.mk #[10]))))) ((((((((c++(ByteArray.mk #[99,101,114,116,32]))++e)++(ByteArray.mk #[32]))++g)++(ByteArray.mk #[32,108,111,119,101,114,32]))++i)++(ByteArray.mk #[10,99,104,97,105,110])),(0:Int))))))))))
def ic (a:lx):so (ByteArray):=wL a some
def Ŋ (b:ByteArray) (a:ByteArray) (k:Bool->so ρ):so ρ :=
  ifb (ige (yr (ByteArray.size b)) (yr (ByteArray.size a))) (ð ((ile 0 (yr (ByteArray.size a)))&&(ile (yr (ByteArray.size a)) ((ByteArray.size b:Nat):Int))) (k ((ByteArray.extract b 0 (Int.toNat (yr (ByteArray.size a)))).toList==a.toList))) (k false)
def Ė (a:ByteArray) (b:ByteArray):so (Bool):=Ŋ a b some
def kf (a:ByteArray) (b:ByteArray) (k:Bool->so ρ):so ρ :=
  Â (Ė a b) fun c=>k c
def ĭ (a:ByteArray) (b:ByteArray):so (Bool):=kf a b some
def ir (e:c8) (f:Int) (b:Int) (a:ag) (d:Int->ag->so ρ) (g:ag->so ρ):so ρ :=
  ifb (ilt b f) (ø e b fun h=>Â (Pz h) fun c=>ifb c.2 (ð (Ñ ((List.length a)+(List.length ([(0:Int)])))) (ck (b+(1:Int)) fun i=>d i (a++([(0:Int)])))) (ð (Ñ ((List.length a)+(List.length ([c.1])))) (ck (b+(1:Int)) fun j=>d j (a++([c.1]))))) (g a)
def tC (a:c8) (k:ag->so ρ):so ρ :=
  Ü (fun(b:fx) c=>ir a (â a) b.1 b.2 (fun d e=>c (d,e)) (fun f=>k f)) ((0:Int),[])
def ģ (a:c8):so (ag):=tC a some
def iA (b:c8) (d:c8) (e:Int) (a:Int) (f:Int->so ρ) (g:py->so ρ) (h:Unit->so ρ):so ρ :=
  ifb (ilt a e) (ø d a fun i=>ifb (i.toList==(ByteArray.mk #[98]).toList) (ð ((ile 1 a)&&(ile a (θ b))) (Â (ģ (List.take (Int.toNat (a-(1:Int))) (List.drop 1 b))) fun j=>ck (a+(1:Int)) fun c=>ð ((ile 0 c)&&(ile c (θ b))) (Â (ģ (List.drop (Int.toNat c) b)) fun k=>g (j,k)))) (ck (a+(1:Int)) fun l=>f l)) (h ())
def I8 (a:c8) (k:py->so ρ):so ρ :=
  ifb (ieq (â a) 0) (k ([],[])) (ø a (0:Int) fun c=>ifb (!(c.toList==(ByteArray.mk #[97]).toList)) (k ([],[])) (Ü (fun(d:Int) e=>iA a a (â a) d (fun f=>e f) (fun b=>k (b.1,b.2)) (fun _=>k ([],[]))) (0:Int)))
def vZ (a:c8):so (py):=I8 a some
def iJ (j:Int) (k:Int) (l:Int) (m:Int) (c:Int) (n:Int) (o:Int) (p:Int) (q:bA) (r:a7) (s:cT) (t:bx) (u:a7) (v:Int) (A:Int) (B:Int) (d:bA) (e:a7) (f:cT) (g:bx) (h:a7) (y:ByteArray) (w:Int->Int->bA->a7->cT->bx->a7->Int->Int->Int->bA->a7->cT->bx->a7->so ρ) (i:Val ax->so ρ):so ρ :=
  Â (Ĥ y (ByteArray.mk #[10])) fun r1=>Â (kv r1 (ByteArray.mk #[32])) fun a=>ø a (0:Int) fun x=>ifb (KA x (ByteArray.mk #[102,105,108,109])) (ð (ile 1 (θ a)) (ifb (ilt (â (List.drop 1 a)) j) (i ((0:Int),(0:Int),[],[],[],[],[],(7:Int))) (ð ((ile 0 j)&&(ile j (θ (List.drop 1 a)))) (Â (ģ (List.take (Int.toNat j) (List.drop 1 a))) fun E=>ð ((ile 0 j)&&(ile j (θ (List.drop 1 a)))) (ø E (0:Int) fun e5=>ø E (1:Int) fun e6=>w o p q r s t u v e5 e6 d e f g h))))) (ifb (KA x (ByteArray.mk #[103,97,117,103,101])) (ð (ile 1 (θ a)) (ifb (ilt (â (List.drop 1 a)) k) (i ((0:Int),(0:Int),[],[],[],[],[],(7:Int))) (ð ((ile 0 k)&&(ile k (θ (List.drop 1 a)))) (Â (ģ (List.take (Int.toNat k) (List.drop 1 a))) fun b=>ð ((ile 0 k)&&(ile k (θ (List.drop 1 a)))) (ø b (0:Int) fun F=>ø b (1:Int) fun G=>ø b (2:Int) fun H=>ø b (3:Int) fun I=>ø b (4:Int) fun J=>ø b (5:Int) fun K=>ø b (6:Int) fun L=>ø b (7:Int) fun M=>ð (Ñ ((List.length d)+(List.length ([(F,G,H,(I,J),(K,L),M)])))) (w o p q r s t u v A B (d++([(F,G,H,(I,J),(K,L),M)])) e f g h)))))) (ifb (KA x (ByteArray.mk #[117,115,101])) (ð (ile 1 (θ a)) (ifb (ilt (â (List.drop 1 a)) l) (i ((0:Int),(0:Int),[],[],[],[],[],(7:Int))) (ð ((ile 0 l)&&(ile l (θ (List.drop 1 a)))) (Â (ģ (List.take (Int.toNat l) (List.drop 1 a))) fun N=>ð ((ile 0 l)&&(ile l (θ (List.drop 1 a)))) (ø N (0:Int) fun O=>ø N (1:Int) fun P=>ð (Ñ ((List.length e)+(List.length ([(O,P)])))) (w o p q r s t u v A B d (e++([(O,P)])) f g h)))))) (ifb (KA x (ByteArray.mk #[108,111,97,110])) (ð (ile 1 (θ a)) (ifb (ilt (â (List.drop 1 a)) m) (i ((0:Int),(0:Int),[],[],[],[],[],(7:Int))) (ð ((ile 0 m)&&(ile m (θ (List.drop 1 a)))) (Â (ģ (List.take (Int.toNat m) (List.drop 1 a))) fun C=>ð ((ile 0 m)&&(ile m (θ (List.drop 1 a)))) (ø C (0:Int) fun Q=>ø C (1:Int) fun R=>ø C (2:Int) fun S=>ø C (3:Int) fun T=>ð (Ñ ((List.length f)+(List.length ([(Q,(R,S),T)])))) (w o p q r s t u v A B d e (f++([(Q,(R,S),T)])) g h)))))) (ifb (KA x (ByteArray.mk #[99,111,109,112,97,114,101])) (ð (ile 1 (θ a)) (ifb (ilt (â (List.drop 1 a)) c) (i ((0:Int),(0:Int),[],[],[],[],[],(7:Int))) (ð ((ile 0 c)&&(ile c (θ (List.drop 1 a)))) (Â (ģ (List.take (Int.toNat c) (List.drop 1 a))) fun z=>ð ((ile 0 c)&&(ile c (θ (List.drop 1 a)))) (ø z (0:Int) fun U=>ø z (1:Int) fun V=>ø z (2:Int) fun W=>ø z (3:Int) fun X=>ø z (4:Int) fun Y=>ø z (5:Int) fun Z=>Â (vZ (List.drop (Int.toNat c) (List.drop 1 a))) fun D=>ð (Ñ ((List.length g)+(List.length ([(U,V,D.1,D.2,W,X,Y,Z)])))) (w o p q r s t u v A B d e f (g++([(U,V,D.1,D.2,W,X,Y,Z)])) h)))))) (ifb (KA x (ByteArray.mk #[108,111,111,107])) (ð (ile 1 (θ a)) (ifb (ilt (â (List.drop 1 a)) n) (i ((0:Int),(0:Int),[],[],[],[],[],(7:Int))) (ð ((ile 0 n)&&(ile n (θ (List.drop 1 a)))) (Â (ģ (List.take (Int.toNat n) (List.drop 1 a))) fun bm=>ð ((ile 0 n)&&(ile n (θ (List.drop 1 a)))) (ø bm (0:Int) fun bn=>ø bm (1:Int) fun bo=>ð (Ñ ((List.length h)+(List.length ([(bn,bo)])))) (w o p q r s t u v A B d e f g (h++([(bn,bo)])))))))) (i ((0:Int),(0:Int),[],[],[],[],[],(7:Int))))))))
def Ĭ (a:Int) (b:Int) (c:Int) (d:Int) (e:Int) (f:Int) (v:rT) (y:ByteArray):so (Sum rT (Val ax)):=iJ a b c d e f v.1 v.2.1 v.2.2.1 v.2.2.2.1 v.2.2.2.2.1 v.2.2.2.2.2.1 v.2.2.2.2.2.2.1 v.2.2.2.2.2.2.2.1 v.2.2.2.2.2.2.2.2.1 v.2.2.2.2.2.2.2.2.2.1 v.2.2.2.2.2.2.2.2.2.2.1 v.2.2.2.2.2.2.2.2.2.2.2.1 v.2.2.2.2.2.2.2.2.2.2.2.2.1 v.2.2.2.2.2.2.2.2.2.2.2.2.2.1 v.2.2.2.2.2.2.2.2.2.2.2.2.2.2 y (fun g h i j k l m n o p q r s t u=>some (.inl (g,h,i,j,k,l,m,n,o,p,q,r,s,t,u))) (fun z=>some (.inr z))
def BP (c:ByteArray) (k:kN->so ρ):so ρ :=
  ð (Ñ (ByteArray.size c)&&true) (Tw (Ĭ (2:Int) (8:Int) (2:Int) (4:Int) (6:Int) (2:Int)) (sJ c) ((0:Int),(0:Int),[],[],[],[],[],(0:Int),(0:Int),(0:Int),[],[],[],[],[]) (fun b=>Â (gD ((b.2.2.2.2.2.2.2.2.1,b.2.2.2.2.2.2.2.2.2.1),b.2.2.2.2.2.2.2.2.2.2)) fun d=>ifb (ine d.2 0) (k ((((0:Int),(0:Int)),[],[],[],[],[]),(7:Int))) (ifb (!(d.1.toList==c.toList)) (k ((((0:Int),(0:Int)),[],[],[],[],[]),(7:Int))) (k (((b.2.2.2.2.2.2.2.2.1,b.2.2.2.2.2.2.2.2.2.1),b.2.2.2.2.2.2.2.2.2.2),(0:Int))))) (fun a=>k (((a.1,a.2.1),a.2.2.1,a.2.2.2.1,a.2.2.2.2.1,a.2.2.2.2.2.1,a.2.2.2.2.2.2.1),a.2.2.2.2.2.2.2)))
def pX (a:ByteArray):so (kN):=BP a some
def sf (e:c8) (f:Int) (b:Int) (a:ag) (d:Int->ag->so ρ) (g:ag->so ρ):so ρ :=
  ifb (ilt b f) (ø e b fun h=>Â (Pz h) fun c=>ifb c.2 (ð (Ñ ((List.length a)+(List.length ([(0:Int)])))) (ck (b+(1:Int)) fun i=>d i (a++([(0:Int)])))) (ð (Ñ ((List.length a)+(List.length ([c.1])))) (ck (b+(1:Int)) fun j=>d j (a++([c.1]))))) (g a)
def Bo (a:c8) (k:ag->so ρ):so ρ :=
  Ü (fun(b:fx) c=>sf a (â a) b.1 b.2 (fun d e=>c (d,e)) (fun f=>k f)) ((0:Int),[])
def nJ (a:c8):so (ag):=Bo a some
def fT (d:Int) (b:Int) (c:Int) (a:dy) (e:Int->Int->Int->dy->so ρ) (f:(Val (.pair tI (.pair tI (.pair tI aw))))->so ρ):so ρ :=
  ifb (ilt a.2 (yr (ByteArray.size a.1))) (ifb (ieq (N5 a.1 a.2) 10) (ck (a.2+(1:Int)) fun g=>e b c g (a.1,(a.2+Ki a.1 a.2))) (e d b c (a.1,(a.2+Ki a.1 a.2)))) (f (d,b,c,a.1,a.2))
def vr (b:ByteArray) (k:(Val (.pair ĩ tI))->so ρ):so ρ :=
  Ü (fun(c:(Val (.pair tI (.pair tI (.pair tI aw))))) o=>fT c.1 c.2.1 c.2.2.1 c.2.2.2 (fun p q r s=>o (p,q,r,s)) (fun a=>ifb (ieq a.1 0) (k (((((0:Int),(0:Int)),[],[],[],[],[]),((0:Int),(0:Int)),false,(0:Int),[]),(7:Int))) (ð ((ile 0 a.1)&&(ile a.1 ((ByteArray.size b:Nat):Int))) (Â (ĭ (ByteArray.extract b (Int.toNat a.1) (ByteArray.size b)) (ByteArray.mk #[99,101,114,116,32])) fun t=>ifb (!t) (k (((((0:Int),(0:Int)),[],[],[],[],[]),((0:Int),(0:Int)),false,(0:Int),[]),(7:Int))) (ð ((ile 0 a.2.1)&&(ile a.2.1 ((ByteArray.size b:Nat):Int))) (Â (ĭ (ByteArray.extract b (Int.toNat a.2.1) (ByteArray.size b)) (ByteArray.mk #[99,104,97,105,110])) fun u=>ifb (!u) (k (((((0:Int),(0:Int)),[],[],[],[],[]),((0:Int),(0:Int)),false,(0:Int),[]),(7:Int))) (ð ((ile 0 a.1)&&(ile a.1 ((ByteArray.size b:Nat):Int))) (Â (pX (ByteArray.extract b 0 (Int.toNat a.1))) fun e=>ifb (ine e.2 0) (k (((((0:Int),(0:Int)),[],[],[],[],[]),((0:Int),(0:Int)),false,(0:Int),[]),(7:Int))) (ð ((ile 0 a.1)&&((ile a.1 a.2.1)&&(ile a.2.1 ((ByteArray.size b:Nat):Int)))) (Â (Ĥ (ByteArray.extract b (Int.toNat a.1) (Int.toNat a.2.1)) (ByteArray.mk #[10])) fun v=>Â (oK v (ByteArray.mk #[32])) fun d=>ð (Ñ ((List.length d)+(List.length ([(ByteArray.mk #[]),(ByteArray.mk #[]),(ByteArray.mk #[]),(ByteArray.mk #[]),(ByteArray.mk #[])])))) (Â (nJ (d++([(ByteArray.mk #[]),(ByteArray.mk #[]),(ByteArray.mk #[]),(ByteArray.mk #[]),(ByteArray.mk #[])]))) fun f=>ø f (1:Int) fun h=>ø f (2:Int) fun i=>ð (ilt 3 (θ (d++([(ByteArray.mk #[]),(ByteArray.mk #[]),(ByteArray.mk #[]),(ByteArray.mk #[]),(ByteArray.mk #[])])))) (Kd (d++([(ByteArray.mk #[]),(ByteArray.mk #[]),(ByteArray.mk #[]),(ByteArray.mk #[]),(ByteArray.mk #[])])) 3 fun j=>ø f (4:Int) fun l=>ð ((ile 0 a.2.1)&&(ile a.2.1 ((ByteArray.size b:Nat):Int))) (Â (Ĥ (ByteArray.extract b (Int.toNat a.2.1) (ByteArray.size b)) (ByteArray.mk #[10])) fun w=>Â (oK w (ByteArray.mk #[32])) fun g=>ð (ile 1 (θ g)) (Â (nJ (List.take (List.length g-1) (List.drop 1 g))) fun m=>Â (ý (e.1,(h,i),(j.toList==(ByteArray.mk #[117,112,112,101,114]).toList),l,m)) fun n=>ifb (ine n.2 0) (k (((((0:Int),(0:Int)),[],[],[],[],[]),((0:Int),(0:Int)),false,(0:Int),[]),(7:Int))) (ifb (!(n.1.toList==b.toList)) (k (((((0:Int),(0:Int)),[],[],[],[],[]),((0:Int),(0:Int)),false,(0:Int),[]),(7:Int))) (k ((e.1,(h,i),(j.toList==(ByteArray.mk #[117,112,112,101,114]).toList),l,m),(0:Int)))))))))))))))))) ((0:Int),(0:Int),(0:Int),b,(0:Int))
def ì (a:ByteArray):so ((Val (.pair ĩ tI))):=vr a some
def fu (b:ag) (c:ag) (a:Int) (d:Int->so ρ) (e:Bool->so ρ) (f:Unit->so ρ):so ρ :=
  ifb (ilt a (â b)) (ø b a fun g=>ø c a fun h=>ifb (ine g h) (e false) (ck (a+(1:Int)) fun i=>d i)) (f ())
def vd (a:ag) (b:ag) (k:Bool->so ρ):so ρ :=
  ifb (ine (â a) (â b)) (k false) (Ü (fun(c:Int) d=>fu a b c (fun e=>d e) (fun f=>k f) (fun _=>k true)) (0:Int))
def Ρ (a:ag) (b:ag):so (Bool):=vd a b some
def oc (a:dx) (b:dx) (k:Bool->so ρ):so ρ :=
  Â (Ρ a.2.2.1 b.2.2.1) fun c=>Â (Ρ a.2.2.2.1 b.2.2.2.1) fun d=>ifb c (ifb d (ifb (ieq a.1 b.1) (ifb (ieq a.2.1 b.2.1) (ifb (ieq a.2.2.2.2.1 b.2.2.2.2.1) (ifb (ieq a.2.2.2.2.2.1 b.2.2.2.2.2.1) (k ((fm a.2.2.2.2.2.2.1 b.2.2.2.2.2.2.1)&&((fm a.2.2.2.2.2.2.2 b.2.2.2.2.2.2.2)&&true))) (k false)) (k false)) (k false)) (k false)) (k false)) (k false)
def fF (a:dx) (b:dx):so (Bool):=oc a b some
def Ι (b:a7) (e:a7) (a:Int) (f:Int->so ρ) (g:Bool->so ρ) (h:Unit->so ρ):so ρ :=
  ifb (ilt a (â b)) (ø b a fun c=>ø e a fun d=>ifb (!((fm c.1 d.1)&&((fm c.2 d.2)&&true))) (g false) (ck (a+(1:Int)) fun i=>f i)) (h ())
def rX (a:a7) (b:a7) (k:Bool->so ρ):so ρ :=
  ifb (ine (â a) (â b)) (k false) (Ü (fun(c:Int) d=>Ι a b c (fun e=>d e) (fun f=>k f) (fun _=>k true)) (0:Int))
def ω (a:a7) (b:a7):so (Bool):=rX a b some
def kV (d:bA) (e:bA) (c:Int) (f:Int->so ρ) (g:Bool->so ρ) (h:Unit->so ρ):so ρ :=
  ifb (ilt c (â d)) (ø d c fun a=>ø e c fun b=>ifb (!((fm a.1 b.1)&&((fm a.2.1 b.2.1)&&((fm a.2.2.1 b.2.2.1)&&((fm a.2.2.2.1.1 b.2.2.2.1.1)&&((fm a.2.2.2.1.2 b.2.2.2.1.2)&&((fm a.2.2.2.2.1.1 b.2.2.2.2.1.1)&&((fm a.2.2.2.2.1.2 b.2.2.2.2.1.2)&&((fm a.2.2.2.2.2 b.2.2.2.2.2)&&true))))))))) (g false) (ck (c+(1:Int)) fun i=>f i)) (h ())
def kU (b:a7) (e:a7) (a:Int) (f:Int->so ρ) (g:Bool->so ρ) (h:Unit->so ρ):so ρ :=
  ifb (ilt a (â b)) (ø b a fun c=>ø e a fun d=>ifb (!((fm c.1 d.1)&&((fm c.2 d.2)&&true))) (g false) (ck (a+(1:Int)) fun i=>f i)) (h ())
def kT (d:cT) (e:cT) (a:Int) (f:Int->so ρ) (g:Bool->so ρ) (h:Unit->so ρ):so ρ :=
  ifb (ilt a (â d)) (ø d a fun b=>ø e a fun c=>ifb (!((fm b.1 c.1)&&((fm b.2.1.1 c.2.1.1)&&((fm b.2.1.2 c.2.1.2)&&((fm b.2.2 c.2.2)&&true))))) (g false) (ck (a+(1:Int)) fun i=>f i)) (h ())
def kS (b:bx) (c:bx) (a:Int) (d:Int->so ρ) (e:Bool->so ρ) (f:Unit->so ρ):so ρ :=
  ifb (ilt a (â b)) (ø b a fun g=>ø c a fun h=>Â (fF g h) fun i=>ifb (!i) (e false) (ck (a+(1:Int)) fun j=>d j)) (f ())
def IG (a:an) (b:an) (k:Bool->so ρ):so ρ :=
  ifb (!((fm a.1.1 b.1.1)&&((fm a.1.2 b.1.2)&&true))) (k false) (ifb (ine (â a.2.1) (â b.2.1)) (k false) (ifb (ine (â a.2.2.1) (â b.2.2.1)) (k false) (ifb (ine (â a.2.2.2.1) (â b.2.2.2.1)) (k false) (ifb (ine (â a.2.2.2.2.1) (â b.2.2.2.2.1)) (k false) (Ü (fun(c:Int) d=>kV a.2.1 b.2.1 c (fun e=>d e) (fun f=>k f) (fun _=>Ü (fun(g:Int) h=>kU a.2.2.1 b.2.2.1 g (fun i=>h i) (fun j=>k j) (fun _=>Ü (fun(l:Int) m=>kT a.2.2.2.1 b.2.2.2.1 l (fun n=>m n) (fun o=>k o) (fun _=>Ü (fun(p:Int) q=>kS a.2.2.2.2.1 b.2.2.2.2.1 p (fun r=>q r) (fun s=>k s) (fun _=>Â (ω a.2.2.2.2.2 b.2.2.2.2.2) fun t=>k t)) (0:Int))) (0:Int))) (0:Int))) (0:Int))))))
def vU (a:an) (b:an):so (Bool):=IG a b some
def fw (b:ag) (c:ag) (a:Int) (d:Int->so ρ) (e:Bool->so ρ) (f:Unit->so ρ):so ρ :=
  ifb (ilt a (â b)) (ø b a fun g=>ø c a fun h=>ifb (ine g h) (e false) (ck (a+(1:Int)) fun i=>d i)) (f ())
def vl (a:ag) (b:ag) (k:Bool->so ρ):so ρ :=
  ifb (ine (â a) (â b)) (k false) (Ü (fun(c:Int) d=>fw a b c (fun e=>d e) (fun f=>k f) (fun _=>k true)) (0:Int))
def jC (a:ag) (b:ag):so (Bool):=vl a b some
def uT (a:lx) (b:lx) (k:Bool->so ρ):so ρ :=
  Â (vU a.1 b.1) fun c=>ifb c (ifb ((fm a.2.1.1 b.2.1.1)&&((fm a.2.1.2 b.2.1.2)&&true)) (ifb (a.2.2.1==b.2.2.1) (ifb (ieq a.2.2.2.1 b.2.2.2.1) (Â (jC a.2.2.2.2 b.2.2.2.2) fun d=>k d) (k false)) (k false)) (k false)) (k false)
def Ô (a:lx) (b:lx):so (Bool):=uT a b some
def ke (c:lx) (a:ByteArray) (k:Bool->so ρ):so ρ :=
  Â (zr c.1) fun V=>ifb (!V) (Â Ò fun W=>k W) (ifb (igt (â c.2.2.2.2) 90) (Â Ò fun X=>k X) (ifb (igt (yr (ByteArray.size a)) 4000) (Â Ò fun Y=>k Y) (Â (ý c) fun b=>Â (mL c.1) fun d=>ifb (ieq d 0) (ifb (igt (â c.2.2.2.2) 80) (ifb (ine b.2 2) (k false) (ifb (!(b.1.toList==(ByteArray.mk #[]).toList)) (k false) (Â (ì a) fun e=>ifb (ine e.2 0) (Â Ò fun Z=>ifb Z (ifb (ieq e.2 7) (Â (Ô e.1 ((((0:Int),(0:Int)),[],[],[],[],[]),((0:Int),(0:Int)),false,(0:Int),[])) fun r9=>k r9) (k false)) (k false)) (Â (ý e.1) fun w=>Â Ò fun bn=>ifb bn (ifb (ieq w.2 0) (k (w.1.toList==a.toList)) (k false)) (k false))))) (ifb (ine b.2 d) (k false) (ifb (ine d 0) (ifb (!(b.1.toList==(ByteArray.mk #[]).toList)) (k false) (ifb (ieq d 0) (Â (ic c) fun bo=>ifb (!(b.1.toList==bo.toList)) (k false) (ifb (ieq d 0) (Â (ì b.1) fun x=>ifb (ine x.2 0) (k false) (Â (Ô x.1 c) fun bp=>ifb (!bp) (k false) (Â (ì a) fun f=>ifb (ine f.2 0) (Â Ò fun bq=>ifb bq (ifb (ieq f.2 7) (Â (Ô f.1 ((((0:Int),(0:Int)),[],[],[],[],[]),((0:Int),(0:Int)),false,(0:Int),[])) fun br=>k br) (k false)) (k false)) (Â (ý f.1) fun y=>Â Ò fun bt=>ifb bt (ifb (ieq y.2 0) (k (y.1.toList==a.toList)) (k false)) (k false))))) (Â (ì a) fun g=>ifb (ine g.2 0) (Â Ò fun bu=>ifb bu (ifb (ieq g.2 7) (Â (Ô g.1 ((((0:Int),(0:Int)),[],[],[],[],[]),((0:Int),(0:Int)),false,(0:Int),[])) fun bw=>k bw) (k false)) (k false)) (Â (ý g.1) fun z=>Â Ò fun bz=>ifb bz (ifb (ieq z.2 0) (k (z.1.toList==a.toList)) (k false)) (k false))))) (ifb (ieq d 0) (Â (ì b.1) fun A=>ifb (ine A.2 0) (k false) (Â (Ô A.1 c) fun b7=>ifb (!b7) (k false) (Â (ì a) fun h=>ifb (ine h.2 0) (Â Ò fun b8=>ifb b8 (ifb (ieq h.2 7) (Â (Ô h.1 ((((0:Int),(0:Int)),[],[],[],[],[]),((0:Int),(0:Int)),false,(0:Int),[])) fun b9=>k b9) (k false)) (k false)) (Â (ý h.1) fun B=>Â Ò fun ca=>ifb ca (ifb (ieq B.2 0) (k (B.1.toList==a.toList)) (k false)) (k false))))) (Â (ì a) fun i=>ifb (ine i.2 0) (Â Ò fun cd=>ifb cd (ifb (ieq i.2 7) (Â (Ô i.1 ((((0:Int),(0:Int)),[],[],[],[],[]),((0:Int),(0:Int)),false,(0:Int),[])) fun ce=>k ce) (k false)) (k false)) (Â (ý i.1) fun C=>Â Ò fun cf=>ifb cf (ifb (ieq C.2 0) (k (C.1.toList==a.toList)) (k false)) (k false)))))) (ifb (ieq d 0) (Â (ic c) fun cg=>ifb (!(b.1.toList==cg.toList)) (k false) (ifb (ieq d 0) (Â (ì b.1) fun D=>ifb (ine D.2 0) (k false) (Â (Ô D.1 c) fun ci=>ifb (!ci) (k false) (Â (ì a) fun j=>ifb (ine j.2 0) (Â Ò fun cj=>ifb cj (ifb (ieq j.2 7) (Â (Ô j.1 ((((0:Int),(0:Int)),[],[],[],[],[]),((0:Int),(0:Int)),false,(0:Int),[])) fun cm=>k cm) (k false)) (k false)) (Â (ý j.1) fun E=>Â Ò fun cn=>ifb cn (ifb (ieq E.2 0) (k (E.1.toList==a.toList)) (k false)) (k false))))) (Â (ì a) fun l=>ifb (ine l.2 0) (Â Ò fun cp=>ifb cp (ifb (ieq l.2 7) (Â (Ô l.1 ((((0:Int),(0:Int)),[],[],[],[],[]),((0:Int),(0:Int)),false,(0:Int),[])) fun cq=>k cq) (k false)) (k false)) (Â (ý l.1) fun F=>Â Ò fun cr=>ifb cr (ifb (ieq F.2 0) (k (F.1.toList==a.toList)) (k false)) (k false))))) (ifb (ieq d 0) (Â (ì b.1) fun G=>ifb (ine G.2 0) (k false) (Â (Ô G.1 c) fun cw=>ifb (!cw) (k false) (Â (ì a) fun m=>ifb (ine m.2 0) (Â Ò fun cz=>ifb cz (ifb (ieq m.2 7) (Â (Ô m.1 ((((0:Int),(0:Int)),[],[],[],[],[]),((0:Int),(0:Int)),false,(0:Int),[])) fun dc=>k dc) (k false)) (k false)) (Â (ý m.1) fun H=>Â Ò fun df=>ifb df (ifb (ieq H.2 0) (k (H.1.toList==a.toList)) (k false)) (k false))))) (Â (ì a) fun n=>ifb (ine n.2 0) (Â Ò fun dg=>ifb dg (ifb (ieq n.2 7) (Â (Ô n.1 ((((0:Int),(0:Int)),[],[],[],[],[]),((0:Int),(0:Int)),false,(0:Int),[])) fun dh=>k dh) (k false)) (k false)) (Â (ý n.1) fun I=>Â Ò fun di=>ifb di (ifb (ieq I.2 0) (k (I.1.toList==a.toList)) (k false)) (k false)))))))) (ifb (ine b.2 d) (k false) (ifb (ine d 0) (ifb (!(b.1.toList==(ByteArray.mk #[]).toList)) (k false) (ifb (ieq d 0) (Â (ic c) fun dj=>ifb (!(b.1.toList==dj.toList)) (k false) (ifb (ieq d 0) (Â (ì b.1) fun J=>ifb (ine J.2 0) (k false) (Â (Ô J.1 c) fun dk=>ifb (!dk) (k false) (Â (ì a) fun o=>ifb (ine o.2 0) (Â Ò fun dl=>ifb dl (ifb (ieq o.2 7) (Â (Ô o.1 ((((0:Int),(0:Int)),[],[],[],[],[]),((0:Int),(0:Int)),false,(0:Int),[])) fun dm=>k dm) (k false)) (k false)) (Â (ý o.1) fun K=>Â Ò fun dt=>ifb dt (ifb (ieq K.2 0) (k (K.1.toList==a.toList)) (k false)) (k false))))) (Â (ì a) fun p=>ifb (ine p.2 0) (Â Ò fun du=>ifb du (ifb (ieq p.2 7) (Â (Ô p.1 ((((0:Int),(0:Int)),[],[],[],[],[]),((0:Int),(0:Int)),false,(0:Int),[])) fun dv=>k dv) (k false)) (k false)) (Â (ý p.1) fun L=>Â Ò fun dw=>ifb dw (ifb (ieq L.2 0) (k (L.1.toList==a.toList)) (k false)) (k false))))) (ifb (ieq d 0) (Â (ì b.1) fun M=>ifb (ine M.2 0) (k false) (Â (Ô M.1 c) fun dz=>ifb (!dz) (k false) (Â (ì a) fun q=>ifb (ine q.2 0) (Â Ò fun d8=>ifb d8 (ifb (ieq q.2 7) (Â (Ô q.1 ((((0:Int),(0:Int)),[],[],[],[],[]),((0:Int),(0:Int)),false,(0:Int),[])) fun d9=>k d9) (k false)) (k false)) (Â (ý q.1) fun N=>Â Ò fun ee=>ifb ee (ifb (ieq N.2 0) (k (N.1.toList==a.toList)) (k false)) (k false))))) (Â (ì a) fun r=>ifb (ine r.2 0) (Â Ò fun eh=>ifb eh (ifb (ieq r.2 7) (Â (Ô r.1 ((((0:Int),(0:Int)),[],[],[],[],[]),((0:Int),(0:Int)),false,(0:Int),[])) fun ej=>k ej) (k false)) (k false)) (Â (ý r.1) fun O=>Â Ò fun eo=>ifb eo (ifb (ieq O.2 0) (k (O.1.toList==a.toList)) (k false)) (k false)))))) (ifb (ieq d 0) (Â (ic c) fun ez=>ifb (!(b.1.toList==ez.toList)) (k false) (ifb (ieq d 0) (Â (ì b.1) fun P=>ifb (ine P.2 0) (k false) (Â (Ô P.1 c) fun fc=>ifb (!fc) (k false) (Â (ì a) fun s=>ifb (ine s.2 0) (Â Ò fun fe=>ifb fe (ifb (ieq s.2 7) (Â (Ô s.1 ((((0:Int),(0:Int)),[],[],[],[],[]),((0:Int),(0:Int)),false,(0:Int),[])) fun ff=>k ff) (k false)) (k false)) (Â (ý s.1) fun Q=>Â Ò fun fg=>ifb fg (ifb (ieq Q.2 0) (k (Q.1.toList==a.toList)) (k false)) (k false))))) (Â (ì a) fun t=>ifb (ine t.2 0) (Â Ò fun fh=>ifb fh (ifb (ieq t.2 7) (Â (Ô t.1 ((((0:Int),(0:Int)),[],[],[],[],[]),((0:Int),(0:Int)),false,(0:Int),[])) fun fi=>k fi) (k false)) (k false)) (Â (ý t.1) fun R=>Â Ò fun fj=>ifb fj (ifb (ieq R.2 0) (k (R.1.toList==a.toList)) (k false)) (k false))))) (ifb (ieq d 0) (Â (ì b.1) fun S=>ifb (ine S.2 0) (k false) (Â (Ô S.1 c) fun fk=>ifb (!fk) (k false) (Â (ì a) fun u=>ifb (ine u.2 0) (Â Ò fun fm=>ifb fm (ifb (ieq u.2 7) (Â (Ô u.1 ((((0:Int),(0:Int)),[],[],[],[],[]),((0:Int),(0:Int)),false,(0:Int),[])) fun fo=>k fo) (k false)) (k false)) (Â (ý u.1) fun T=>Â Ò fun fp=>ifb fp (ifb (ieq T.2 0) (k (T.1.toList==a.toList)) (k false)) (k false))))) (Â (ì a) fun v=>ifb (ine v.2 0) (Â Ò fun fq=>ifb fq (ifb (ieq v.2 7) (Â (Ô v.1 ((((0:Int),(0:Int)),[],[],[],[],[]),((0:Int),(0:Int)),false,(0:Int),[])) fun ft=>k ft) (k false)) (k false)) (Â (ý v.1) fun U=>Â Ò fun fu=>ifb fu (ifb (ieq U.2 0) (k (U.1.toList==a.toList)) (k false)) (k false))))))))))
def ku (a:lx) (b:ByteArray):so (Bool):=ke a b some
end Go.Proofs.ZzM
end
