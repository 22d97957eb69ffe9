/- lemmas -/
import Derived.Test.YtdmegkgjpgcfgaaGreatAmE
set_option linter.all false
noncomputable section
variable {ρ:Type}
set_option maxRecDepth 100000
namespace Go.Proofs.ZzM
open Go Go.Am
abbrev tI:Ty:=.int .i64
abbrev Ã:Ty:=(.pair tI tI)
abbrev ĝ:Ty:=(.pair tI Ã)
abbrev ġ:Ty:=(.pair tI (.slice tI))
abbrev è:Ty:=(.pair Ã Ã)
abbrev Α:Ty:=(.pair Ã tI)
abbrev iE:Ty:=(.pair tI Α)
abbrev vu:Ty:=(.pair è tI)
abbrev Ô:Ty:=(.pair tI (.slice ĝ))
abbrev yP:Ty:=(.pair (.slice ĝ) (.slice Ã))
abbrev Ö:Ty:=(.pair tI (.pair tI (.pair tI (.pair Ã Α))))
abbrev Ð:Ty:=(.pair tI (.pair tI (.pair (.slice tI) (.pair (.slice tI) (.pair tI ĝ)))))
abbrev È:Ty:=(.pair Ã (.pair (.slice Ö) (.pair (.slice Ã) (.pair (.slice iE) (.pair (.slice Ð) (.slice Ã))))))
abbrev Â:Ty:=(.pair È (.slice ġ))
abbrev an7:Ty:=(.pair È (.pair (.slice Ã) (.pair Ô (.slice Ã))))
def Ci (l:Do Int):CK (Do Int):=à (ã l.length) (some l)
def vF:Nat->Do Int->Do (Do Int)
  |0,_=>[[]]
  |n+1,l=>if l.length=0 then[[]] else(List.range l.length).flatMap fun i=>(vF n (l.take i++l.drop (i+1))).map (l.getD i 0::·)
def υ:Do (Int×Do Int)->Do (Do (Do Int))
  |[]=>[[]]
  |m::r=>(vF m.2.length m.2).flatMap fun x=>(υ r).map (x::·)
def Cj (l:Do Int):CK (Do (Do Int)):=à (decide (l.length<=9)) (some (vF l.length l))
def nV (l:Do (Int×Do Int)):CK (Do (Do (Do Int))):=à (decide (l.length<=9)&&l.all fun m=>decide (m.2.length<=9)) (some (υ l))
abbrev aa:Ty:=(.slice Ã)
abbrev ab:Ty:=(.slice tI)
abbrev ac:Ty:=(.slice Ð)
abbrev ae:Ty:=(.slice Ö)
abbrev af:Ty:=(.slice iE)
abbrev ag:Ty:=(.slice ab)
abbrev ah:Ty:=(.pair tI (.pair tI (.pair ae (.pair aa (.pair af (.pair ac (.pair aa (.slice ġ))))))))
abbrev ai:Ty:=(.slice ġ)
abbrev aj:Ty:=(.slice ag)
abbrev ak:Ty:=(.slice ĝ)
abbrev am:Ty:=(.pair tI (.pair tI (.pair ae (.pair aa (.pair af (.pair ac aa))))))
abbrev ao:Ty:=(.map tI Ö)
abbrev aq:Ty:=(.pair tI (.pair tI (.pair tI (.pair ae (.pair aa (.pair af (.pair ac (.pair aa (.pair tI (.pair tI (.pair tI (.pair tI (.pair tI ĝ)))))))))))))
abbrev ar:Ty:=(.map tI .bool)
abbrev au:Ty:=(.pair tI (.pair tI (.pair ae (.pair aa (.pair af (.pair ac (.pair aa (.pair tI (.pair tI (.pair ab (.pair ab (.pair tI (.pair tI (.pair tI ġ))))))))))))))
abbrev aw:Ty:=(.slice .bool)
abbrev ax:Ty:=(.ptr Â)
abbrev ay:Ty:=(.pair ab tI)
abbrev az:Ty:=(.pair tI (.pair aj ah))
abbrev aB:Ty:=(.pair Â (.pair ag Ã))
abbrev aD:Ty:=(.pair tI aj)
abbrev aE:Ty:=(.pair tI (.pair tI (.pair ae (.pair aa (.pair af (.pair ac (.pair aa (.pair ai ah))))))))
abbrev aF:Ty:=(.pair Â ag)
abbrev aG:Ty:=(.pair tI ah)
abbrev aH:Ty:=(.pair È Ã)
abbrev aI:Ty:=(.pair tI (.pair tI (.pair ae (.pair aa (.pair af (.pair ac (.pair aa ġ)))))))
abbrev aJ:Ty:=(.pair tI (.pair tI (.pair tI (.pair ae (.pair aa (.pair af (.pair ac (.pair aa (.pair tI ĝ)))))))))
abbrev aK:Ty:=(.pair È Ð)
abbrev aL:Ty:=(.pair tI (.pair tI (.pair ae (.pair aa (.pair af (.pair ac (.pair aa (.pair ai aj))))))))
abbrev aM:Ty:=(.pair ab (.pair tI (.pair tI (.pair tI (.pair ae (.pair aa (.pair af (.pair ac (.pair aa (.pair tI (.pair ab (.map tI tI))))))))))))
abbrev aO:Ty:=(.ptr ag)
abbrev aP:Ty:=(.pair tI (.pair tI (.pair ae (.pair aa (.pair af (.pair ac (.pair aa am)))))))
abbrev aQ:Ty:=(.map tI tI)
abbrev aR:Ty:=(.pair tI ag)
abbrev aS:Ty:=(.pair ab ab)
abbrev aT:Ty:=(.pair tI aa)
abbrev aU:Ty:=(.pair tI (.pair tI (.pair ae (.pair aa (.pair af (.pair ac (.pair aa (.pair ai ab))))))))
abbrev aV:Ty:=(.pair tI yP)
abbrev aW:Ty:=(.pair aw ab)
abbrev aX:Ty:=(.pair tI (.pair tI (.pair tI (.pair tI (.pair tI az)))))
abbrev aY:Ty:=(.pair aa (.pair tI (.pair tI (.pair tI (.pair tI (.pair tI (.pair tI ĝ)))))))
abbrev aZ:Ty:=(.map tI Ã)
abbrev ba:Ty:=(.pair tI Ô)
abbrev bc:Ty:=(.pair tI ac)
abbrev bf:Ty:=(.pair È tI)
abbrev bg:Ty:=(.pair ab (.pair tI (.pair tI ay)))
abbrev bh:Ty:=(.pair tI ġ)
abbrev bi:Ty:=(.pair ag tI)
abbrev bj:Ty:=(.ptr an7)
abbrev bm:Ty:=(.pair .bool tI)
abbrev bn:Ty:=(.pair ab ġ)
abbrev bo:Ty:=(.pair ab (.pair aw aS))
abbrev bp:Ty:=(.pair iE .bool)
abbrev bq:Ty:=(.pair aa tI)
abbrev br:Ty:=(.pair ab (.pair ai ab))
abbrev bt:Ty:=(.pair tI (.pair tI aG))
abbrev bu:Ty:=(.pair (.int .u64) (.int .u64))
abbrev bv:Ty:=(.pair Ô ab)
abbrev bw:Ty:=(.pair tI (.pair tI ĝ))
abbrev bz:Ty:=(.pair È (.pair ao tI))
abbrev bB:Ty:=(.pair tI (.pair tI (.pair ak Ô)))
abbrev an:=Val ab
abbrev a7:=Val aj
abbrev a8:=Val Ã
abbrev bl:=Val Â
abbrev bx:=Val aa
abbrev b5:=Val ag
abbrev b6:=Val È
abbrev c7:=Val ac
abbrev c9:=Val ai
abbrev fx:=Val ae
abbrev fy:=Val af
abbrev f4:=Val ġ
abbrev ge:=Val è
abbrev hO:=Val ak
abbrev im:=Val Ð
abbrev io:=Val Ô
abbrev i4:=Val aD
abbrev js:=Val Α
abbrev kw:=Val (.map tI Ö)
abbrev ly:=Val ay
abbrev lA:=Val aF
abbrev l7:=Val (.pair tI (.pair tI .bool))
abbrev ni:=Val (.pair ag aG)
abbrev nj:=Val (.pair tI (.pair ab aW))
abbrev nm:=Val Ö
abbrev nn:=Val aH
abbrev pc:=Val aT
abbrev pi:=Val (.pair tI (.slice tI))
abbrev px:=Val aR
abbrev py:=Val (.pair aj tI)
abbrev qs:=Val ao
abbrev rd:=Val (.pair ag .bool)
abbrev rm:=Val ĝ
abbrev rn:=Val aB
abbrev rx:=Val aK
abbrev ry:=Val ah
abbrev r8:=Val (.slice tI)
abbrev so:=Val iE
abbrev th:=Val (.slice (.slice tI))
abbrev u5:=Val aS
abbrev u6:=Val az
abbrev u7:=Val aV
abbrev v6:=Val aw
abbrev v8:=Val (.pair ab aR)
abbrev wk:=Val (.pair Â Ã)
abbrev wl:=Val (.pair è Ã)
abbrev xa:=Val (.pair È ġ)
abbrev xl:=Val (.pair ab ay)
abbrev x9:=Val (.pair Â ab)
abbrev y5:=Val (.pair tI aQ)
abbrev y6:=Val (.pair tI af)
abbrev y8:=Val (.pair tI aW)
abbrev y9:=Val (.pair tI aD)
abbrev An:=Val (.pair tI az)
abbrev At:=Val (.pair tI bc)
abbrev AN:=Val (.pair tI bh)
abbrev AS:=Val aQ
abbrev BE:=Val bf
abbrev BY:=Val (.pair ab .bool)
def Τ (d:b5) (e:Int) (b:Int) (a:Int) (f:Int->Int->CK ρ) (g:Int->CK ρ):CK ρ :=
  ifb (ilt a e) (ç d a fun h=>ck (b+(Õ h)) fun c=>ifb (ilt c 0) (none) (ck (a+(1:Int)) fun i=>f c i)) (g b)
def Ĥ (d:b5) (e:Int) (a:Int) (b:an) (f:Int->an->CK ρ) (g:an->CK ρ):CK ρ :=
  ifb (ilt a e) (ç d a fun c=>à (ã ((List.length b)+(List.length c))) (ck (a+(1:Int)) fun h=>f h (b++c))) (g b)
def mI (a:b5) (k:an->CK ρ):CK ρ :=
  Ë (fun(c:a8) g=>Τ a (Õ a) c.1 c.2 (fun h i=>g (h,i)) (fun d=>ifb (ilt d 0) (none) (ck (d-(0:Int)) fun b=>ifb (igt b 0) (à ((ilt 0 b)&&(ã (Int.toNat b))) (à (ile 0 (ï (List.replicate (Int.toNat b) (0:Int)))) (Ë (fun(e:f4) j=>Ĥ a (Õ a) e.1 e.2 (fun l m=>j (l,m)) (fun n=>k n)) ((0:Int),(List.take 0 (List.replicate (Int.toNat b) (0:Int))))))) (Ë (fun(f:f4) o=>Ĥ a (Õ a) f.1 f.2 (fun p q=>o (p,q)) (fun r=>k r)) ((0:Int),[]))))) ((0:Int),(0:Int))
def ĩ (a:b5):CK (an):=mI a some
def ri (al:b5) (rec:an->CK (b5)) (a:Int) (b:b5) (y:an) (c:b5->CK ρ):CK ρ :=
  à (ã ((List.length ([a]))+(List.length y))) (yg al (b++[(([a])++y)]) (c (b++[(([a])++y)])))
def rj (al:b5) (rec:an->CK (b5)) (e:an) (f:Int) (b:an) (a:Int) (d:b5) (g:Int->b5->CK ρ) (h:b5->CK ρ):CK ρ :=
  ifb (ilt a f) (ç e a fun i=>à ((ile 0 a)&&(ile a (ï b))) (ck (a+(1:Int)) fun c=>à ((ile 0 c)&&(ile c (ï b))) (Å (ĩ ([(List.take (Int.toNat a) b),(List.drop (Int.toNat c) b)])) fun j=>Å (rec j) fun k=>By (fun(l:b5) (m:an) n=>ri al rec i l m (fun o=>n o)) k (d) (fun p=>ck (a+(1:Int)) fun q=>g q p)))) (h d)
def Ah (al:b5) (rec:an->CK (b5)) (mm:an) (k:(b5)×(an)->CK ρ):CK ρ :=
  ifb (ieq (Õ mm) 0) (yg al (([])++[[]]) (k ((([])++[[]]),mm))) (Ë (fun(a:px) b=>rj al rec mm (Õ mm) mm a.1 a.2 (fun c d=>b (c,d)) (fun e=>k (e,mm))) ((0:Int),[]))
def nH (al:a7) (rec:c9->CK (a7)) (a:an) (b:a7) (y:b5) (c:a7->CK ρ):CK ρ :=
  à (ã ((List.length ([a]))+(List.length y))) (yg al (b++[(([a])++y)]) (c (b++[(([a])++y)])))
def nI (al:a7) (rec:c9->CK (a7)) (a:c9) (b:a7) (y:an) (c:a7->CK ρ):CK ρ :=
  à (ile 1 (ï a)) (Å (rec (List.drop 1 a)) fun d=>By (fun(e:a7) (f:b5) g=>nH al rec y e f (fun h=>g h)) d (b) (fun i=>c i))
def uV (al:a7) (rec:c9->CK (a7)) (mm:c9) (k:(a7)×(c9)->CK ρ):CK ρ :=
  ifb (ieq (Õ mm) 0) (yg al (([])++[[]]) (k ((([])++[[]]),mm))) (ç mm (0:Int) fun a=>Å (Cj a.2) fun b=>By (fun(c:a7) (d:an) e=>nI al rec mm c d (fun f=>e f)) b ([]) (fun g=>k (g,mm)))
def je (al:an) (rec:an->CK (an)) (d:an) (e:Int) (a:Int) (b:an) (f:Int->an->CK ρ) (g:an->CK ρ):CK ρ :=
  ifb (ilt a e) (ç d a fun c=>yg al (b++[c]) (ck (a+(1:Int)) fun h=>f h (b++[c]))) (g b)
def kM (al:an) (rec:an->CK (an)) (mm:an) (k:(an)×(an)->CK ρ):CK ρ :=
  Ë (fun(a:f4) b=>je al rec mm (Õ mm) a.1 a.2 (fun c d=>b (c,d)) (fun e=>k (e,mm))) ((0:Int),[])
def χ (b:an) (c:Int) (d:Int) (a:Int) (e:Int->CK ρ) (f:Int->CK ρ) (g:Unit->CK ρ):CK ρ :=
  ifb (ilt a d) (ç b a fun h=>ifb (ieq c h) (f a) (ck (a+(1:Int)) fun i=>e i)) (g ())
def nJ (a:an) (b:Int) (k:Int->CK ρ):CK ρ :=
  Ë (fun(c:Int) d=>χ a b (Õ a) c (fun e=>d e) (fun f=>k f) (fun _=>k (-1:Int))) (0:Int)
def iT (a:an) (b:Int):CK (Int):=nJ a b some
def kO (a:an) (b:Int) (k:Bool->CK ρ):CK ρ :=
  Å (iT a b) fun c=>k (ige c 0)
def å (a:an) (b:Int):CK (Bool):=kO a b some
def yk (f:c7) (g:Int) (d:Int) (a:Int) (b:an) (e:Int->an->CK ρ) (h:an->CK ρ):CK ρ :=
  ifb (ilt a g) (ç f a fun c=>Å (å c.2.2.1 d) fun i=>Å (å c.2.2.2.1 d) fun j=>ifb (!(i==j)) (à (ã ((List.length b)+(List.length ([c.2.1])))) (ck (a+(1:Int)) fun k=>e k (b++([c.2.1])))) (ck (a+(1:Int)) fun l=>e l b)) (h b)
def yj (e:bx) (f:Int) (g:Int) (a:Int) (b:an) (d:Int->an->CK ρ) (h:an->CK ρ):CK ρ :=
  ifb (ilt a f) (ç e a fun c=>ifb (ieq c.1 g) (à (ã ((List.length b)+(List.length ([c.2])))) (ck (a+(1:Int)) fun i=>d i (b++([c.2])))) (ck (a+(1:Int)) fun j=>d j b)) (h b)
def Y0 (a:b6) (b:nm) (k:an->CK ρ):CK ρ :=
  Ë (fun(d:f4) f=>yk a.2.2.2.2.1 (Õ a.2.2.2.2.1) b.1 d.1 d.2 (fun g h=>f (g,h)) (fun i=>Ë (fun(e:f4) j=>yj a.2.2.2.2.2 (Õ a.2.2.2.2.2) b.1 e.1 e.2 (fun l m=>j (l,m)) (fun c=>à (ã (List.length c)) (à (ã (List.length (zy c))) (k (CJ (zy c)))))) ((0:Int),i))) ((0:Int),[b.2.1])
def qB (a:b6) (b:nm):CK (an):=Y0 a b some
def uA (e:an) (f:Int) (c:Int) (a:Int) (b:bx) (g:Int->bx->CK ρ) (h:bx->CK ρ):CK ρ :=
  ifb (ilt a f) (ç e a fun d=>à (ã ((List.length b)+(List.length ([(c,d)])))) (ck (a+(1:Int)) fun i=>g i (b++([(c,d)])))) (h b)
def uB (f:fx) (g:Int) (h:Int) (i:Int) (j:fx) (k:bx) (l:fy) (m:c7) (n:bx) (a:Int) (b:bx) (o:Int->bx->CK ρ) (p:bx->CK ρ):CK ρ :=
  ifb (ilt a g) (ç f a fun c=>Å (qB ((h,i),j,k,l,m,n) c) fun d=>Ë (fun(e:pc) q=>uA d (Õ d) c.1 e.1 e.2 (fun r s=>q (r,s)) (fun t=>ck (a+(1:Int)) fun u=>o u t)) ((0:Int),b)) (p b)
def Rl (a:b6) (k:bx->CK ρ):CK ρ :=
  Ë (fun(b:pc) c=>uB a.2.1 (Õ a.2.1) a.1.1 a.1.2 a.2.1 a.2.2.1 a.2.2.2.1 a.2.2.2.2.1 a.2.2.2.2.2 b.1 b.2 (fun d e=>c (d,e)) (fun f=>k f)) ((0:Int),[])
def sq (a:b6):CK (bx):=Rl a some
def K6 (a:a8) (b:Int) (c:Int) (k:Bool->CK ρ):CK ρ :=
  ifb (ile b a.1) (ifb (ile a.1 a.2) (k (ile a.2 c)) (k false)) (k false)
def Λ (a:a8) (b:Int) (c:Int):CK (Bool):=K6 a b c some
def KY (a:Int) (b:Int) (c:Int) (k:Bool->CK ρ):CK ρ :=
  ifb (ile b a) (k (ile a c)) (k false)
def Ġ (a:Int) (b:Int) (c:Int):CK (Bool):=KY a b c some
def Rp (a:Int) (k:Bool->CK ρ):CK ρ :=
  Å (Ġ a (0:Int) (20000:Int)) fun b=>k b
def mT (a:Int):CK (Bool):=Rp a some
def YI (a:Int) (k:Int->CK ρ):CK ρ :=
  ifb (ilt a 0) (k (IntKind.wrap .u64 (0-(IntKind.wrap .u64 a)))) (k (IntKind.wrap .u64 a))
def uM (a:Int):CK (Int):=YI a some
def Cd (b:Int) (a:Int) (c:Int->Int->CK ρ) (d:Int->CK ρ):CK ρ :=
  ifb (ine a 0) (ifb (iW a 0) (none) (c a (Int.tmod b a))) (d b)
def adQ (b:Int) (c:Int) (k:Int->CK ρ):CK ρ :=
  Ë (fun(a:Val bu) d=>Cd a.1 a.2 (fun e f=>d (e,f)) (fun g=>k g)) (b,c)
def Sf (a:Int) (b:Int):CK (Int):=adQ a b some
def Rc (a:a8) (k:Bool->CK ρ):CK ρ :=
  ifb (ige a.2 1) (ifb (ile a.2 2147483647) (Å (uM a.1) fun b=>ifb (ile b 2147483647) (Å (uM a.1) fun c=>Å (uM a.2) fun d=>Å (Sf c d) fun e=>k (ieq e 1)) (k false)) (k false)) (k false)
def wS (a:a8):CK (Bool):=Rc a some
def FY (a:nm) (k:Bool->CK ρ):CK ρ :=
  Å (wS a.2.2.2.2.1) fun b=>ifb b (Å (Ġ a.2.2.2.2.1.1 (-1000:Int) (1000:Int)) fun c=>ifb c (Å (Ġ a.1 (1:Int) (1099511627776:Int)) fun d=>ifb d (Å (mT a.2.1) fun e=>ifb e (Å (Ġ a.2.2.1 (1:Int) (1125899906842624:Int)) fun f=>ifb f (Å (Λ a.2.2.2.1 (-1073741824:Int) (1073741824:Int)) fun g=>ifb g (ifb (ile a.2.2.2.2.1.2 100) (Å (Ġ a.2.2.2.2.2 (0:Int) (1048576:Int)) fun h=>k h) (k false)) (k false)) (k false)) (k false)) (k false)) (Å (Ġ a.1 (1:Int) (1099511627776:Int)) fun i=>ifb i (Å (mT a.2.1) fun j=>ifb j (Å (Ġ a.2.2.1 (1:Int) (1125899906842624:Int)) fun l=>ifb l (Å (Λ a.2.2.2.1 (-1073741824:Int) (1073741824:Int)) fun m=>ifb m (k false) (k false)) (k false)) (k false)) (k false))) (Å (Ġ a.1 (1:Int) (1099511627776:Int)) fun n=>ifb n (Å (mT a.2.1) fun o=>ifb o (Å (Ġ a.2.2.1 (1:Int) (1125899906842624:Int)) fun p=>ifb p (Å (Λ a.2.2.2.1 (-1073741824:Int) (1073741824:Int)) fun q=>ifb q (k false) (k false)) (k false)) (k false)) (k false))
def yE (a:nm):CK (Bool):=FY a some
def jE (e:fx) (f:Int) (g:fx) (a:Int) (b:Int->CK ρ) (c:Int->CK ρ) (h:Unit->CK ρ):CK ρ :=
  ifb (ilt a f) (ç e a fun d=>Å (yE d) fun i=>ifb (!i) (c (1:Int)) (ifb (igt a 0) (ck (a-(1:Int)) fun j=>ç g j fun k=>ifb (ile d.1 k.1) (c (6:Int)) (ck (a+(1:Int)) fun l=>b l)) (ck (a+(1:Int)) fun m=>b m))) (h ())
def rW (a:b6) (k:Int->CK ρ):CK ρ :=
  Ë (fun(b:Int) c=>jE a.2.1 (Õ a.2.1) a.2.1 b (fun d=>c d) (fun e=>k e) (fun _=>k (0:Int))) (0:Int)
def Ż (a:b6):CK (Int):=rW a some
def oo (d:fx) (e:Int) (a:Int) (b:qs) (f:Int->qs->CK ρ) (g:qs->CK ρ):CK ρ :=
  ifb (ilt a e) (ç d a fun c=>ck (a+(1:Int)) fun h=>f h (Ta (k:=tI) (v:=Ö) c.1 c b)) (g b)
def FW (a:b6) (k:qs->CK ρ):CK ρ :=
  Ë (fun(b:(Val (.pair tI ao))) c=>oo a.2.1 (Õ a.2.1) b.1 b.2 (fun d e=>c (d,e)) (fun f=>k f)) ((0:Int),[])
def Ł (a:b6):CK (qs):=FW a some
def vk (a:qs) (b:Int) (c:Int) (k:Int->CK ρ):CK ρ :=
  N1 (k:=tI) (v:=Ö) b a (fun d=>ifb (ilt c d.2.1) (k (4:Int)) (k (0:Int))) (k (5:Int))
def jv (a:qs) (b:Int) (c:Int):CK (Int):=vk a b c some
def FX (b:Int) (a:Int) (c:(Val (.ptr ao))) (k:Int->CK ρ):CK ρ :=
  Å (mT a) fun d=>ifb (!d) (k (1:Int)) (Å (jv c b a) fun e=>k e)
def ł (a:Int) (b:Int) (c:(Val (.ptr ao))):CK (Int):=FX a b c some
def lH (d:fy) (e:Int) (f:Int) (g:Int) (h:Int) (a:Int) (b:Int->CK ρ) (i:Int->CK ρ) (j:Unit->CK ρ):CK ρ :=
  ifb (ilt a e) (ç d a fun c=>ifb (ieq c.1 f) (ifb (ile c.2.1.1 h) (ifb (ile g c.2.1.2) (i a) (ck (a+(1:Int)) fun k=>b k)) (ck (a+(1:Int)) fun l=>b l)) (ck (a+(1:Int)) fun m=>b m)) (j ())
def Κ (d:bx) (e:Int) (f:Int) (g:Int) (h:Int) (a:Int) (b:Int->CK ρ) (i:Int->CK ρ) (j:Unit->CK ρ):CK ρ :=
  ifb (ilt a e) (ç d a fun c=>ifb (ieq c.1 f) (Å (Ġ c.2 g h) fun k=>ifb k (i a) (ck (a+(1:Int)) fun l=>b l)) (ck (a+(1:Int)) fun m=>b m)) (j ())
def yl (b:b6) (e:qs) (c:Int) (k:Int->CK ρ):CK ρ :=
  ç b.2.2.2.1 c fun a=>Å (Λ a.2.1 (0:Int) (20000:Int)) fun f=>ifb (!f) (k (1:Int)) (Å (Ġ a.2.2 (0:Int) (1048576:Int)) fun g=>ifb (!g) (k (1:Int)) (Å (jv e a.1 a.2.1.1) fun d=>ifb (ine d 0) (k d) (à ((ile 0 c)&&(ile c (ï b.2.2.2.1))) (Ë (fun(h:Int) i=>lH (List.take (Int.toNat c) b.2.2.2.1) (Õ (List.take (Int.toNat c) b.2.2.2.1)) a.1 a.2.1.1 a.2.1.2 h (fun j=>i j) (fun l=>ifb (ige l 0) (k (9:Int)) (Ë (fun(m:Int) n=>Κ b.2.2.1 (Õ b.2.2.1) a.1 a.2.1.1 a.2.1.2 m (fun o=>n o) (fun p=>ifb (ige p 0) (k (9:Int)) (k (0:Int))) (fun _=>k (0:Int))) (0:Int))) (fun _=>Ë (fun(q:Int) r=>Κ b.2.2.1 (Õ b.2.2.1) a.1 a.2.1.1 a.2.1.2 q (fun s=>r s) (fun t=>ifb (ige t 0) (k (9:Int)) (k (0:Int))) (fun _=>k (0:Int))) (0:Int))) (0:Int)))))
def ζ (a:b6) (b:qs) (c:Int):CK (Int):=yl a b c some
def yi (c:Int) (d:an) (b:an) (a:Int) (e:Int->CK ρ) (f:Int->CK ρ) (g:Unit->CK ρ):CK ρ :=
  ifb (ilt a c) (à ((ile 0 a)&&(ilt a (ï b))) (Ĵ b (Int.toNat a) fun h=>Å (å d h) fun i=>ifb i (f a) (ck (a+(1:Int)) fun j=>e j))) (g ())
def lT (f:an) (b:Int) (c:Int) (a:an) (d:Int->Int->an->CK ρ) (g:f4->CK ρ):CK ρ :=
  ifb (ilt c (Õ a)) (à ((ile 0 c)&&(ilt c (ï a))) (Ĵ a (Int.toNat c) fun e=>Å (å f e) fun h=>ifb (!h) (à ((ile 0 b)&&(ilt b (ï a))) (Ĵ a (Int.toNat b) fun l=>ck (b+(1:Int)) fun i=>ck (c+(1:Int)) fun j=>d i j (List.set a (Int.toNat b) e))) (ck (c+(1:Int)) fun k=>d b k a))) (g (b,a))
def YV (b:an) (e:an) (k:an->CK ρ):CK ρ :=
  à (ã (List.length b)) (Ë (fun(f:Int) g=>yi (Õ b) e b f (fun h=>g h) (fun c=>ifb (ieq c (-1:Int)) (k b) (ck (c+(1:Int)) fun i=>Ë (fun(d:Val bh) j=>lT e d.1 d.2.1 d.2.2 (fun l m n=>j (l,m,n)) (fun a=>à ((ile 0 a.1)&&(ile a.1 (ï a.2))) (à ((ile 0 a.1)&&(ile a.1 (ï (List.take (Int.toNat a.1) a.2++List.replicate (List.length a.2-(Int.toNat a.1)) (0:Int)++List.drop ((Int.toNat a.1)+(List.length a.2-(Int.toNat a.1))) a.2)))) (k (List.take (Int.toNat a.1) (List.drop 0 (List.take (Int.toNat a.1) a.2++List.replicate (List.length a.2-(Int.toNat a.1)) (0:Int)++List.drop ((Int.toNat a.1)+(List.length a.2-(Int.toNat a.1))) a.2))))))) (c,i,b))) (fun _=>k b)) (0:Int))
def ε (a:an) (b:an):CK (an):=YV a b some
def qt (e:an) (f:an) (g:Int) (a:Int) (b:Int->CK ρ) (c:Bool->CK ρ) (h:Unit->CK ρ):CK ρ :=
  ifb (ilt a g) (ç f a fun d=>Å (Ġ d (1:Int) (1099511627776:Int)) fun i=>ifb (!i) (c false) (ifb (igt a 0) (ck (a-(1:Int)) fun j=>ç e j fun k=>ifb (ile d k) (c false) (ck (a+(1:Int)) fun l=>b l)) (ck (a+(1:Int)) fun m=>b m))) (h ())
def K5 (a:an) (k:Bool->CK ρ):CK ρ :=
  Ë (fun(b:Int) c=>qt a a (Õ a) b (fun d=>c d) (fun e=>k e) (fun _=>k (ile (Õ a) 6))) (0:Int)
def nY (a:an):CK (Bool):=K5 a some
def ym (d:fy) (e:Int) (f:Int) (g:Int) (a:Int) (c:Int->CK ρ) (h:Int->CK ρ) (i:Unit->CK ρ):CK ρ :=
  ifb (ilt a e) (ç d a fun b=>ifb (ieq b.1 f) (Å (Ġ g b.2.1.1 b.2.1.2) fun j=>ifb j (h a) (ck (a+(1:Int)) fun k=>c k)) (ck (a+(1:Int)) fun l=>c l)) (i ())
def Y3 (a:b6) (c:Int) (d:Int) (k:Val bp->CK ρ):CK ρ :=
  Ë (fun(e:Int) f=>ym a.2.2.2.1 (Õ a.2.2.2.1) c d e (fun g=>f g) (fun b=>ifb (ilt b 0) (k (((0:Int),((0:Int),(0:Int)),(0:Int)),false)) (ç a.2.2.2.1 b fun h=>k (h,true))) (fun _=>k (((0:Int),((0:Int),(0:Int)),(0:Int)),false))) (0:Int)
def yF (a:b6) (b:Int) (c:Int):CK ((Val bp)):=Y3 a b c some
def jh (b:c7) (c:Int) (d:Int) (a:Int) (e:Int->CK ρ) (f:Int->CK ρ) (g:Unit->CK ρ):CK ρ :=
  ifb (ilt a c) (ç b a fun h=>ifb (ieq h.1 d) (f a) (ck (a+(1:Int)) fun i=>e i)) (g ())
def jg (c:qs) (b:Int) (d:an) (e:Int) (f:Int) (a:Int) (g:Int->CK ρ) (h:Int->CK ρ) (i:Unit->CK ρ):CK ρ :=
  ifb (ilt a e) (ç d a fun j=>Å (jv c j f) fun k=>ifb (ieq k b) (h b) (ck (a+(1:Int)) fun l=>g l)) (i ())
def Ő (d:qs) (b:an) (e:Int) (f:Int) (c:an) (a:Int) (g:Int->CK ρ) (h:Int->CK ρ) (i:Unit->CK ρ):CK ρ :=
  ifb (ilt a e) (à ((ile 0 a)&&(ilt a (ï c))) (Ĵ c (Int.toNat a) fun j=>Ë (fun(k:Int) l=>jg d j b (Õ b) f k (fun m=>l m) (fun n=>h n) (fun _=>ck (a+(1:Int)) fun o=>g o)) (0:Int))) (i ())
def ŏ (b:an) (c:Int) (d:Int) (e:Int) (f:fx) (g:bx) (h:fy) (i:c7) (j:bx) (k:Int) (a:Int) (l:Int->CK ρ) (m:Int->CK ρ) (n:Unit->CK ρ):CK ρ :=
  ifb (ilt a c) (ç b a fun o=>Å (yF ((d,e),f,g,h,i,j) o k) fun p=>ifb p.2 (m (9:Int)) (ck (a+(1:Int)) fun q=>l q)) (n ())
def pF (b:b6) (f:qs) (c:Int) (k:Int->CK ρ):CK ρ :=
  ç b.2.2.2.2.1 c fun a=>Å (Ġ a.1 (1:Int) (1099511627776:Int)) fun l=>ifb (!l) (k (1:Int)) (Å (mT a.2.1) fun m=>ifb (!m) (k (1:Int)) (Å (Ġ a.2.2.2.2.1 (-1125899906842624:Int) (1125899906842624:Int)) fun n=>ifb (!n) (k (1:Int)) (Å (Ġ a.2.2.2.2.2.1 (0:Int) (1073741824:Int)) fun o=>ifb (!o) (k (1:Int)) (Å (Λ a.2.2.2.2.2.2 (-10000:Int) (10000:Int)) fun p=>ifb (!p) (k (1:Int)) (Å (nY a.2.2.1) fun q=>ifb (!q) (k (1:Int)) (Å (nY a.2.2.2.1) fun r=>ifb (!r) (k (1:Int)) (à ((ile 0 c)&&(ile c (ï b.2.2.2.2.1))) (Ë (fun(s:Int) t=>jh (List.take (Int.toNat c) b.2.2.2.2.1) (Õ (List.take (Int.toNat c) b.2.2.2.2.1)) a.1 s (fun u=>t u) (fun v=>ifb (ige v 0) (k (6:Int)) (Å (ĩ ([a.2.2.1,a.2.2.2.1])) fun d=>Ë (fun(w:Int) x=>Ő f d (Õ ([(5:Int),(4:Int)])) a.2.1 ([(5:Int),(4:Int)]) w (fun y=>x y) (fun z=>k z) (fun _=>Ë (fun(A:Int) B=>ŏ d (Õ d) b.1.1 b.1.2 b.2.1 b.2.2.1 b.2.2.2.1 b.2.2.2.2.1 b.2.2.2.2.2 a.2.1 A (fun C=>B C) (fun D=>k D) (fun _=>Å (ε a.2.2.1 a.2.2.2.1) fun g=>Å (ε a.2.2.2.1 a.2.2.1) fun h=>ifb (igt (Õ g) 1) (k (1:Int)) (ifb (igt (Õ h) 1) (k (1:Int)) (ck ((Õ g)+(Õ h)) fun E=>ifb (ieq E 0) (k (1:Int)) (k (0:Int)))))) (0:Int))) (0:Int))) (fun _=>Å (ĩ ([a.2.2.1,a.2.2.2.1])) fun e=>Ë (fun(F:Int) G=>Ő f e (Õ ([(5:Int),(4:Int)])) a.2.1 ([(5:Int),(4:Int)]) F (fun H=>G H) (fun I=>k I) (fun _=>Ë (fun(J:Int) K=>ŏ e (Õ e) b.1.1 b.1.2 b.2.1 b.2.2.1 b.2.2.2.1 b.2.2.2.2.1 b.2.2.2.2.2 a.2.1 J (fun L=>K L) (fun M=>k M) (fun _=>Å (ε a.2.2.1 a.2.2.2.1) fun i=>Å (ε a.2.2.2.1 a.2.2.1) fun j=>ifb (igt (Õ i) 1) (k (1:Int)) (ifb (igt (Õ j) 1) (k (1:Int)) (ck ((Õ i)+(Õ j)) fun N=>ifb (ieq N 0) (k (1:Int)) (k (0:Int)))))) (0:Int))) (0:Int))) (0:Int)))))))))
def Ň (a:b6) (b:qs) (c:Int):CK (Int):=pF a b c some
def pj (b:b6) (s:qs):CK (Do Int) :=
  Å (Pd (fun u=>ł u.1 u.2 s) (b.2.2.1:Do (Int×Int))) fun a=>Å (Pd (fun i=>ζ b s i) (zr (b.2.2.2.1:Do so).length)) fun c =>
    Å (Pd (fun i=>Ň b s i) (zr (b.2.2.2.2.1:Do im).length)) fun d=>Å (Pd (fun u=>ł u.1 u.2 s) (b.2.2.2.2.2:Do (Int×Int))) fun e=>some (a++(c++(d++e)))
def Rw (a:b6) (k:Int->CK ρ):CK ρ :=
  Å (Λ a.1 (0:Int) (1000000:Int)) fun d=>ifb (!d) (k (1:Int)) (ifb (igt (Õ a.2.1) 12) (k (2:Int)) (ifb (igt (Õ a.2.2.1) 40) (k (2:Int)) (ifb (igt (Õ a.2.2.2.1) 12) (k (2:Int)) (ifb (igt (Õ a.2.2.2.2.1) 40) (k (2:Int)) (ifb (igt (Õ a.2.2.2.2.2) 10) (k (2:Int)) (Å (Ż a) fun b=>ifb (ine b 0) (k b) (Å (Ł a) fun e=>aaw (pj a e) (fun f=>k f) (Å (sq a) fun c=>ifb (igt (Õ c) 59) (k (2:Int)) (ck ((2:Int)*(Õ a.2.1)) fun g=>ck ((Õ c)-(Õ a.2.1)) fun h=>ck ((2:Int)*h) fun i=>ck (g+i) fun j=>ck ((2:Int)*(Õ a.2.2.2.2.1)) fun l=>ck (j+l) fun m=>ifb (igt m 300) (k (2:Int)) (k (0:Int)))))))))))
def η (a:b6):CK (Int):=Rw a some
def I3 (a:Do Int):CK (Int×Int×Int×Int×Int):=some (a.getD 0 0,a.getD 1 0,a.getD 2 0,a.getD 3 0,a.getD 4 0)
def pU (b:c7) (a:Int) (e:Int->CK ρ) (c:Bool->CK ρ) (d:Unit->CK ρ):CK ρ :=
  ifb (ilt a (Õ b)) (ifb (ilt a 60) (ç b a fun f=>ifb (igt (Õ f.2.2.1) 9) (c false) (ç b a fun g=>ifb (igt (Õ g.2.2.2.1) 9) (c false) (ck (a+(1:Int)) fun h=>e h))) (d ())) (d ())
def my (b:c9) (a:Int) (d:Int->CK ρ) (e:Bool->CK ρ) (c:Unit->CK ρ):CK ρ :=
  ifb (ilt a (Õ b)) (ifb (ilt a 8) (ç b a fun f=>ifb (igt (Õ f.2) 9) (e false) (ck (a+(1:Int)) fun g=>d g)) (c ())) (c ())
def J9 (a:bl) (k:Bool->CK ρ):CK ρ :=
  Ë (fun(b:Int) c=>pU a.1.2.2.2.2.1 b (fun d=>c d) (fun e=>k e) (fun _=>Ë (fun(f:Int) g=>my a.2 f (fun h=>g h) (fun i=>k i) (fun _=>ifb (ile (Õ a.1.2.1) 6) (ifb (ile (Õ a.1.2.2.1) 20) (ifb (ile (Õ a.1.2.2.2.1) 6) (ifb (ile (Õ a.1.2.2.2.2.1) 8) (ifb (ile (Õ a.1.2.2.2.2.2) 6) (k (ile (Õ a.2) 6)) (k false)) (k false)) (k false)) (k false)) (k false))) (0:Int))) (0:Int)
def Cm (a:bl):CK (Bool):=J9 a some
def pV (b:b5) (a:Int) (c:Int->CK ρ) (d:Bool->CK ρ) (e:Unit->CK ρ):CK ρ :=
  ifb (ilt a (Õ b)) (ç b a fun f=>ifb (igt (Õ f) 100) (d false) (ck (a+(1:Int)) fun g=>c g)) (e ())
def Ka (a:b5) (b:Int) (k:Bool->CK ρ):CK ρ :=
  ifb (igt (Õ a) b) (k false) (Ë (fun(c:Int) d=>pV a c (fun e=>d e) (fun f=>k f) (fun _=>k true)) (0:Int))
def Cn (a:b5) (b:Int):CK (Bool):=Ka a b some
def uE (b:an) (c:Int) (a:Int) (d:Int->CK ρ) (e:Int->CK ρ) (f:Unit->CK ρ):CK ρ :=
  ifb (ilt a c) (ç b a fun g=>Å (mT g) fun h=>ifb (!h) (e a) (ck (a+(1:Int)) fun i=>d i)) (f ())
def Rt (a:b6) (b:Int) (c:an) (k:Int->CK ρ):CK ρ :=
  Å (η a) fun d=>ifb (ine d 0) (k d) (Ë (fun(e:Int) f=>uE c (Õ c) e (fun g=>f g) (fun h=>ifb (ige h 0) (k (1:Int)) (Å (Ł a) fun i=>N1 (k:=tI) (v:=Ö) b i (fun l=>k (0:Int)) (k (5:Int)))) (fun _=>Å (Ł a) fun j=>N1 (k:=tI) (v:=Ö) b j (fun m=>k (0:Int)) (k (5:Int)))) (0:Int))
def Jm (a:b6) (b:Int) (c:an):CK (Int):=Rt a b c some
def Y7 (a:b6) (b:Int) (c:Int) (k:Val bm->CK ρ):CK ρ :=
  Å (Jm a b ([c])) fun d=>ifb (ine d 0) (k (false,d)) (Å (yF a b c) fun e=>k (e.2,(0:Int)))
def CG (a:b6) (b:Int) (c:Int):CK ((Val bm)):=Y7 a b c some
def oE (b:an) (a:Int) (c:Int->CK ρ) (d:Int->CK ρ) (e:Unit->CK ρ):CK ρ :=
  ifb (ilt a (Õ b)) (ç b a fun f=>ck (a-(1:Int)) fun g=>ç b g fun h=>ifb (ile f h) (d (1:Int)) (ck (a+(1:Int)) fun i=>c i)) (e ())
def oD (d:fx) (e:Int) (a:Int) (b:AS) (f:Int->AS->CK ρ) (g:AS->CK ρ):CK ρ :=
  ifb (ilt a e) (ç d a fun c=>ck (a+(1:Int)) fun h=>f h (Ta (k:=tI) (v:=tI) c.1 c.2.1 b)) (g b)
def oC (b:an) (c:Int) (d:AS) (a:Int) (e:Int->CK ρ) (f:Int->CK ρ) (g:Unit->CK ρ):CK ρ :=
  ifb (ilt a c) (ç b a fun h=>N1 (k:=tI) (v:=tI) h d (fun j=>ck (a+(1:Int)) fun i=>e i) (f a)) (g ())
def l6 (e:an) (f:Int) (b:Int) (g:AS) (a:Int) (c:Int->CK ρ) (d:Int->CK ρ) (h:Unit->CK ρ):CK ρ :=
  ifb (ilt a f) (ç e a fun i=>N1 (k:=tI) (v:=tI) i g (fun j=>ifb (ilt b j) (d a) (ck (a+(1:Int)) fun l=>c l)) (ifb (ilt b 0) (d a) (ck (a+(1:Int)) fun m=>c m))) (h ())
def Ņ (l:an) (m:Int) (b:Int) (c:Int) (d:fx) (e:bx) (f:fy) (g:c7) (h:bx) (i:Int) (a:Int) (n:Int->CK ρ) (j:Int->CK ρ) (o:Unit->CK ρ):CK ρ :=
  ifb (ilt a m) (ç l a fun k=>Å (CG ((b,c),d,e,f,g,h) k i) fun p=>ck (i+(1:Int)) fun q=>Å (CG ((b,c),d,e,f,g,h) k q) fun r=>ifb p.1 (j a) (ifb r.1 (j a) (ck (a+(1:Int)) fun s=>n s))) (o ())
def PB (a:b6) (d:c9) (c:Int) (k:Int->CK ρ):CK ρ :=
  ç d c fun b=>ifb (ilt b.1 0) (k (1:Int)) (ifb (ige b.1 20000) (k (1:Int)) (ifb (ilt (Õ b.2) 2) (k (1:Int)) (ifb (igt (Õ b.2) 5) (k (1:Int)) (Ë (fun(g:Int) h=>oE b.2 g (fun i=>h i) (fun j=>k j) (fun _=>Ë (fun(f:y5) l=>oD a.2.1 (Õ a.2.1) f.1 f.2 (fun m n=>l (m,n)) (fun e=>Ë (fun(o:Int) p=>oC b.2 (Õ b.2) e o (fun q=>p q) (fun r=>ifb (ige r 0) (k (5:Int)) (Ë (fun(s:Int) t=>l6 b.2 (Õ b.2) b.1 e s (fun u=>t u) (fun v=>ifb (ige v 0) (k (4:Int)) (ifb (igt c 0) (ck (c-(1:Int)) fun w=>ç d w fun x=>ifb (ile b.1 x.1) (k (6:Int)) (Ë (fun(y:Int) z=>Ņ b.2 (Õ b.2) a.1.1 a.1.2 a.2.1 a.2.2.1 a.2.2.2.1 a.2.2.2.2.1 a.2.2.2.2.2 b.1 y (fun A=>z A) (fun B=>ifb (ige B 0) (k (9:Int)) (k (0:Int))) (fun _=>k (0:Int))) (0:Int))) (Ë (fun(C:Int) D=>Ņ b.2 (Õ b.2) a.1.1 a.1.2 a.2.1 a.2.2.1 a.2.2.2.1 a.2.2.2.2.1 a.2.2.2.2.2 b.1 C (fun E=>D E) (fun F=>ifb (ige F 0) (k (9:Int)) (k (0:Int))) (fun _=>k (0:Int))) (0:Int)))) (fun _=>ifb (igt c 0) (ck (c-(1:Int)) fun G=>ç d G fun H=>ifb (ile b.1 H.1) (k (6:Int)) (Ë (fun(I:Int) J=>Ņ b.2 (Õ b.2) a.1.1 a.1.2 a.2.1 a.2.2.1 a.2.2.2.1 a.2.2.2.2.1 a.2.2.2.2.2 b.1 I (fun K=>J K) (fun L=>ifb (ige L 0) (k (9:Int)) (k (0:Int))) (fun _=>k (0:Int))) (0:Int))) (Ë (fun(M:Int) N=>Ņ b.2 (Õ b.2) a.1.1 a.1.2 a.2.1 a.2.2.1 a.2.2.2.1 a.2.2.2.2.1 a.2.2.2.2.2 b.1 M (fun O=>N O) (fun P=>ifb (ige P 0) (k (9:Int)) (k (0:Int))) (fun _=>k (0:Int))) (0:Int)))) (0:Int))) (fun _=>Ë (fun(Q:Int) R=>l6 b.2 (Õ b.2) b.1 e Q (fun S=>R S) (fun T=>ifb (ige T 0) (k (4:Int)) (ifb (igt c 0) (ck (c-(1:Int)) fun U=>ç d U fun V=>ifb (ile b.1 V.1) (k (6:Int)) (Ë (fun(W:Int) X=>Ņ b.2 (Õ b.2) a.1.1 a.1.2 a.2.1 a.2.2.1 a.2.2.2.1 a.2.2.2.2.1 a.2.2.2.2.2 b.1 W (fun Y=>X Y) (fun Z=>ifb (ige Z 0) (k (9:Int)) (k (0:Int))) (fun _=>k (0:Int))) (0:Int))) (Ë (fun(df:Int) dg=>Ņ b.2 (Õ b.2) a.1.1 a.1.2 a.2.1 a.2.2.1 a.2.2.2.1 a.2.2.2.2.1 a.2.2.2.2.2 b.1 df (fun dh=>dg dh) (fun di=>ifb (ige di 0) (k (9:Int)) (k (0:Int))) (fun _=>k (0:Int))) (0:Int)))) (fun _=>ifb (igt c 0) (ck (c-(1:Int)) fun dj=>ç d dj fun dk=>ifb (ile b.1 dk.1) (k (6:Int)) (Ë (fun(dl:Int) dm=>Ņ b.2 (Õ b.2) a.1.1 a.1.2 a.2.1 a.2.2.1 a.2.2.2.1 a.2.2.2.2.1 a.2.2.2.2.2 b.1 dl (fun dp=>dm dp) (fun dq=>ifb (ige dq 0) (k (9:Int)) (k (0:Int))) (fun _=>k (0:Int))) (0:Int))) (Ë (fun(dr:Int) dt=>Ņ b.2 (Õ b.2) a.1.1 a.1.2 a.2.1 a.2.2.1 a.2.2.2.1 a.2.2.2.2.1 a.2.2.2.2.2 b.1 dr (fun du=>dt du) (fun dv=>ifb (ige dv 0) (k (9:Int)) (k (0:Int))) (fun _=>k (0:Int))) (0:Int)))) (0:Int))) (0:Int))) ((0:Int),[]))) (1:Int)))))
def I5 (a:b6) (b:c9) (c:Int):CK (Int):=PB a b c some
def oF (c:Int) (b:Int) (a:Int) (d:Int->Int->CK ρ) (e:Int->CK ρ):CK ρ :=
  ifb (ilt a c) (ck (a+(1:Int)) fun f=>ck (b*f) fun g=>ck (a+(1:Int)) fun h=>d g h) (e b)
def tJ (e:c9) (f:Int) (g:Int) (h:Int) (i:fx) (j:bx) (k:fy) (l:c7) (m:bx) (n:c9) (b:Int) (a:Int) (o:Int->Int->CK ρ) (p:Int->CK ρ) (q:Int->CK ρ):CK ρ :=
  ifb (ilt a f) (ç e a fun r=>Å (I5 ((g,h),i,j,k,l,m) n a) fun c=>ifb (ine c 0) (p c) (Ë (fun(d:a8) s=>oF (Õ r.2) d.1 d.2 (fun t u=>s (t,u)) (fun v=>ck (a+(1:Int)) fun w=>o v w)) (b,(0:Int)))) (q b)
def PS (a:bl) (k:Int->CK ρ):CK ρ :=
  Å (η a.1) fun b=>ifb (ine b 0) (k b) (ifb (igt (Õ a.2) 4) (k (2:Int)) (Ë (fun(c:a8) d=>tJ a.2 (Õ a.2) a.1.1.1 a.1.1.2 a.1.2.1 a.1.2.2.1 a.1.2.2.2.1 a.1.2.2.2.2.1 a.1.2.2.2.2.2 a.2 c.1 c.2 (fun e f=>d (e,f)) (fun g=>k g) (fun h=>ifb (igt h 150) (k (2:Int)) (k (0:Int)))) ((1:Int),(0:Int))))
def iS (a:bl):CK (Int):=PS a some
def Ĩ (c:bx) (d:Int) (e:Int) (f:Int) (a:Int) (g:Int->CK ρ) (h:Int->CK ρ) (i:Unit->CK ρ):CK ρ :=
  ifb (ilt a d) (ç c a fun b=>ifb ((iW e b.1)&&((iW f b.2)&&true)) (h a) (ck (a+(1:Int)) fun j=>g j)) (i ())
def Ÿ (a:bx) (b:a8) (k:Int->CK ρ):CK ρ :=
  Ë (fun(c:Int) d=>Ĩ a (Õ a) b.1 b.2 c (fun e=>d e) (fun f=>k f) (fun _=>k (-1:Int))) (0:Int)
def ø (a:bx) (b:a8):CK (Int):=Ÿ a b some
def Bo (b:Val bj) (a:an) (c:Int) (k:Int->CK ρ):CK ρ :=
  ifb (ieq (Õ a) 0) (k (0:Int)) (ç a (0:Int) fun d=>Å (ø b.2.1 (d,c)) fun e=>ck (e+(1:Int)) fun f=>k f)
def mf (a:Val bj) (b:an) (c:Int):CK (Int):=Bo a b c some
def yh (f:Int) (g:Int) (h:fy) (i:Int) (j:Int) (b:Int) (a:Int) (d:Int->Int->CK ρ) (k:Int->CK ρ):CK ρ :=
  ifb (ilt a i) (ç h a fun c=>ck (g-(1:Int)) fun l=>ck ((ad3 c.2.1.2 l)-(UP c.2.1.1 f)) fun m=>ck (m+1) fun e=>ifb (ieq c.1 j) (ifb (igt e 0) (ck (e*c.2.2) fun n=>ck (b+n) fun o=>ck (a+(1:Int)) fun p=>d o p) (ck (a+(1:Int)) fun q=>d b q)) (ck (a+(1:Int)) fun r=>d b r)) (k b)
def yf (e:Int) (f:Int) (g:bx) (h:Int) (i:Int) (a:Int) (b:an) (d:Int->an->CK ρ) (j:an->CK ρ):CK ρ :=
  ifb (ilt a h) (ç g a fun c=>ifb (ieq c.1 i) (ck (f-(1:Int)) fun k=>Å (Ġ c.2 e k) fun l=>ifb l (à (ã ((List.length b)+(List.length ([c.2])))) (ck (a+(1:Int)) fun m=>d m (b++([c.2])))) (ck (a+(1:Int)) fun n=>d n b)) (ck (a+(1:Int)) fun o=>d o b)) (j b)
def YS (a:b6) (b:nm) (d:Int) (e:Int) (k:Int->CK ρ):CK ρ :=
  Ë (fun(f:a8) h=>yh d e a.2.2.2.1 (Õ a.2.2.2.1) b.1 f.1 f.2 (fun i j=>h (i,j)) (fun l=>Ë (fun(g:f4) m=>yf d e a.2.2.1 (Õ a.2.2.1) b.1 g.1 g.2 (fun n o=>m (n,o)) (fun c=>à (ã (List.length c)) (à (ã (List.length (zy c))) (ck ((Õ (CJ (zy c)))*b.2.2.2.2.2) fun p=>ck (l+p) fun q=>k q)))) ((0:Int),[]))) ((0:Int),(0:Int))
def CF (a:b6) (b:nm) (c:Int) (d:Int):CK (Int):=YS a b c d some
def pE (b:qs) (a:an) (k:a8->CK ρ):CK ρ :=
  ifb (ieq (Õ a) 0) (k ((0:Int),(1:Int))) (ç a (0:Int) fun c=>N1 (k:=tI) (v:=Ö) c b (fun d=>k d.2.2.2.2.1) (k ((0:Int),(0:Int))))
def jn (a:qs) (b:an):CK a8:=pE a b some
def uw (b:bx) (c:Int) (a:Int) (d:Int->CK ρ) (e:Int->CK ρ) (f:Unit->CK ρ):CK ρ :=
  ifb (ilt a c) (ç b a fun g=>Å (wS g) fun h=>ifb (!h) (e (1:Int)) (ck (a+(1:Int)) fun i=>d i)) (f ())
def Q7 (a:bx) (k:Int->CK ρ):CK ρ :=
  Ë (fun(b:Int) c=>uw a (Õ a) b (fun d=>c d) (fun e=>k e) (fun _=>k (0:Int))) (0:Int)
def lf (a:bx):CK (Int):=Q7 a some
def FT (d:Int) (e:Int) (k:js->CK ρ):CK ρ :=
  Å (uM d) fun b=>Å (uM e) fun c=>Å (Sf b c) fun a=>ifb (iW a 0) (none) (ifb (iW a 0) (none) (ifb (igt (IntKind.wrap .u64 (Int.tdiv b a)) 2147483647) (k (((0:Int),(0:Int)),(3:Int))) (ifb (igt (IntKind.wrap .u64 (Int.tdiv c a)) 2147483647) (k (((0:Int),(0:Int)),(3:Int))) (ifb (!((ilt d 0)==(ilt e 0))) (ck (0-(IntKind.wrap .i64 (IntKind.wrap .u64 (Int.tdiv b a)))) fun f=>k ((f,(IntKind.wrap .i64 (IntKind.wrap .u64 (Int.tdiv c a)))),(0:Int))) (k (((IntKind.wrap .i64 (IntKind.wrap .u64 (Int.tdiv b a))),(IntKind.wrap .i64 (IntKind.wrap .u64 (Int.tdiv c a)))),(0:Int)))))))
def sn (a:Int) (b:Int):CK js:=FT a b some
def adU (a:a8) (b:a8) (k:js->CK ρ):CK ρ :=
  Å (lf ([a,b])) fun c=>ifb (ine c 0) (k (((0:Int),(0:Int)),c)) (ck (a.1*b.2) fun e=>ck (b.1*a.2) fun f=>ck (e-f) fun g=>ck (a.2*b.2) fun h=>Å (sn g h) fun d=>k (d.1,d.2))
def Zw (a:a8) (b:a8):CK js:=adU a b some
def ya (a:a8) (b:a8) (k:a8->CK ρ):CK ρ :=
  Å (Zw a b) fun c=>k c.1
def yD (a:a8) (b:a8):CK a8:=ya a b some
def adS (a:a8) (b:a8) (k:Int->CK ρ):CK ρ :=
  ck (a.1*b.2) fun c=>ck (b.1*a.2) fun d=>ifb ((iW a.1 b.1)&&((iW a.2 b.2)&&true)) (k (0:Int)) (ifb (ilt c d) (k (-1:Int)) (ifb (igt c d) (k (1:Int)) (k (0:Int))))
def Sg (a:a8) (b:a8):CK (Int):=adS a b some
def vh (a:ge) (k:Bool->CK ρ):CK ρ :=
  Å (lf ([a.1,a.2])) fun b=>ifb (ieq b 0) (Å (Sg a.1 a.2) fun c=>k (ile c 0)) (k false)
def vq (a:ge):CK (Bool):=vh a some
def adW (a:a8) (b:a8) (k:js->CK ρ):CK ρ :=
  Å (lf ([a,b])) fun c=>ifb (ine c 0) (k (((0:Int),(0:Int)),c)) (ck (a.1*b.1) fun e=>ck (a.2*b.2) fun f=>Å (sn e f) fun d=>k (d.1,d.2))
def Si (a:a8) (b:a8):CK js:=adW a b some
def Re (c:ge) (d:a8) (k:Val vu->CK ρ):CK ρ :=
  Å (vq c) fun e=>ifb (!e) (k ((((0:Int),(0:Int)),(0:Int),(0:Int)),(1:Int))) (Å (wS d) fun f=>ifb (!f) (k ((((0:Int),(0:Int)),(0:Int),(0:Int)),(1:Int))) (Å (Si d c.1) fun a=>ifb (ine a.2 0) (k ((((0:Int),(0:Int)),(0:Int),(0:Int)),a.2)) (Å (Si d c.2) fun b=>ifb (ine b.2 0) (k ((((0:Int),(0:Int)),(0:Int),(0:Int)),b.2)) (Å (Sg a.1 b.1) fun g=>ifb (igt g 0) (k ((b.1,a.1),(0:Int))) (k ((a.1,b.1),(0:Int)))))))
def Sh (a:ge) (b:a8):CK (Val vu):=Re a b some
def xZ (b:a8) (a:a8) (k:ge->CK ρ):CK ρ :=
  Å (Sh ((a.1,(1:Int)),a.2,(1:Int)) b) fun c=>k c.1
def qA (a:a8) (b:a8):CK ge:=xZ a b some
def K7 (c:b6) (a:im) (k:ge->CK ρ):CK ρ :=
  Å (Ł c) fun b=>Å (ε a.2.2.1 a.2.2.2.1) fun d=>Å (jn b d) fun e=>Å (ε a.2.2.2.1 a.2.2.1) fun f=>Å (jn b f) fun g=>Å (yD e g) fun h=>Å (qA h a.2.2.2.2.2.2) fun i=>k i
def wT (a:b6) (b:im):CK ge:=K7 a b some
def Rr (a:b6) (b:im) (k:a8->CK ρ):CK ρ :=
  ck ((Õ b.2.2.1)-(1:Int)) fun c=>ck ((Õ b.2.2.2.1)-(1:Int)) fun d=>ck ((UP (0:Int) c)*a.1.1) fun e=>ck ((UP (0:Int) d)*a.1.2) fun f=>ck (e-f) fun g=>ck ((UP (0:Int) c)*a.1.2) fun h=>ck ((UP (0:Int) d)*a.1.1) fun i=>ck (h-i) fun j=>k (g,j)
def BB (a:b6) (b:im):CK a8:=Rr a b some
def Ib (b:Int) (a:Int) (k:Int->CK ρ):CK ρ :=
  ifb (iW a 0) (none) (ck (Int.tdiv b a) fun c=>ifb (iW a 0) (none) (ifb (ilt (Int.tmod b a) 0) (ck (c-1) fun d=>k d) (k c)))
def wR (a:Int) (b:Int):CK (Int):=Ib a b some
def YO (a:a8) (k:a8->CK ρ):CK ρ :=
  Å (lf ([a])) fun b=>ifb (ine b 0) (k ((0:Int),b)) (ck (0-a.1) fun c=>Å (wR c a.2) fun d=>ck (0-d) fun e=>k (e,(0:Int)))
def Od (a:a8):CK a8:=YO a some
def Rg (a:a8) (k:a8->CK ρ):CK ρ :=
  Å (lf ([a])) fun b=>ifb (ine b 0) (k ((0:Int),b)) (Å (wR a.1 a.2) fun c=>k (c,(0:Int)))
def Jl (a:a8):CK a8:=Rg a some
def YP (b:b6) (a:im) (k:a8->CK ρ):CK ρ :=
  Å (wT b a) fun c=>Å (BB b a) fun d=>Å (Jl c.2) fun e=>Å (Od c.1) fun f=>ck (a.2.2.2.2.1-a.2.2.2.2.2.1) fun g=>ck (g-d.2) fun h=>ck (h-e.1) fun i=>ck (a.2.2.2.2.1+a.2.2.2.2.2.1) fun j=>ck (j-d.1) fun l=>ck (l-f.1) fun m=>k (i,m)
def CE (a:b6) (b:im):CK a8:=YP a b some
def yd (b:Int) (e:an) (h:Int) (j:Int) (k:Int) (l:fx) (m:bx) (n:fy) (o:c7) (p:bx) (q:Int) (r:Int) (s:Int) (t:Int) (u:Int) (v:Int) (w:Int) (x:Int) (a:Int) (f:hO) (g:bx) (y:Int->hO->bx->CK ρ) (z:Val yP->CK ρ):CK ρ :=
  ifb (ilt a (Õ e)) (ck (h+a) fun A=>ck (A-1) fun c=>ck (h+a) fun d=>ck (a-(1:Int)) fun B=>ç e B fun C=>ç e a fun D=>Å (CF ((j,k),l,m,n,o,p) (q,r,s,(t,u),(v,w),x) C D) fun E=>ck (0-E) fun F=>ck (0-F) fun i=>à (ã ((List.length f)+(List.length ([(c,d,(0:Int)),(d,c,i)])))) (à (ã ((List.length g)+(List.length ([((2:Int),b),((2:Int),b)])))) (ck (a+(1:Int)) fun G=>y G (f++([(c,d,(0:Int)),(d,c,i)])) (g++([((2:Int),b),((2:Int),b)]))))) (z (f,g))
def ye (q:fx) (r:Int) (f:Int) (g:Int) (h:fx) (i:bx) (j:fy) (k:c7) (l:bx) (s:bx) (t:Int) (b:Int) (d:hO) (e:bx) (u:Int->hO->bx->CK ρ) (v:Val yP->CK ρ):CK ρ :=
  ifb (ilt b r) (ç q b fun a=>Å (qB ((f,g),h,i,j,k,l) a) fun w=>Å (mf (((f,g),h,i,j,k,l),s,(t,d),e) ([a.1]) a.2.1) fun c=>ck (a.2.2.1+a.2.2.2.1.1) fun x=>ck (a.2.2.1+a.2.2.2.1.2) fun n=>ck (0-x) fun o=>à (ã ((List.length d)+(List.length ([((0:Int),c,n),(c,(0:Int),o)])))) (à (ã ((List.length e)+(List.length ([((1:Int),b),((1:Int),b)])))) (Ë (fun(m:u7) y=>yd b w c f g h i j k l a.1 a.2.1 a.2.2.1 a.2.2.2.1.1 a.2.2.2.1.2 a.2.2.2.2.1.1 a.2.2.2.2.1.2 a.2.2.2.2.2 m.1 m.2.1 m.2.2 (fun z A B=>y (z,A,B)) (fun p=>ck (b+(1:Int)) fun C=>u C p.1 p.2)) ((1:Int),(d++([((0:Int),c,n),(c,(0:Int),o)])),(e++([((1:Int),b),((1:Int),b)])))))) (v (d,e))
def yc (r:c7) (s:Int) (g:Int) (h:Int) (i:fx) (j:bx) (k:fy) (l:c7) (m:bx) (o:bx) (p:Int) (a:Int) (c:hO) (d:bx) (t:Int->hO->bx->CK ρ) (u:Val yP->CK ρ):CK ρ :=
  ifb (ilt a s) (ç r a fun b=>Å (ε b.2.2.2.1 b.2.2.1) fun v=>Å (mf (((g,h),i,j,k,l,m),o,(p,c),d) v b.2.1) fun e=>Å (ε b.2.2.1 b.2.2.2.1) fun w=>Å (mf (((g,h),i,j,k,l,m),o,(p,c),d) w b.2.1) fun f=>Å (CE ((g,h),i,j,k,l,m) b) fun n=>ck (0-n.1) fun q=>à (ã ((List.length c)+(List.length ([(e,f,n.2),(f,e,q)])))) (à (ã ((List.length d)+(List.length ([((3:Int),a),((3:Int),a)])))) (ck (a+(1:Int)) fun x=>t x (c++([(e,f,n.2),(f,e,q)])) (d++([((3:Int),a),((3:Int),a)]))))) (u (c,d))
def YR (a:b6) (k:Val bj->CK ρ):CK ρ :=
  Å (sq a) fun b=>ck ((Õ b)+(1:Int)) fun c=>Ë (fun(d:u7) h=>ye a.2.1 (Õ a.2.1) a.1.1 a.1.2 a.2.1 a.2.2.1 a.2.2.2.1 a.2.2.2.2.1 a.2.2.2.2.2 b c d.1 d.2.1 d.2.2 (fun i j l=>h (i,j,l)) (fun f=>Ë (fun(e:u7) m=>yc a.2.2.2.2.1 (Õ a.2.2.2.2.1) a.1.1 a.1.2 a.2.1 a.2.2.1 a.2.2.2.1 a.2.2.2.2.1 a.2.2.2.2.2 b c e.1 e.2.1 e.2.2 (fun n o p=>m (n,o,p)) (fun g=>k (a,b,(c,g.1),g.2))) ((0:Int),f.1,f.2))) ((0:Int),[],[])
def Oe (a:b6):CK ((Val bj)):=YR a some
def La (a:b6) (k:(Val (.pair Ô bq))->CK ρ):CK ρ :=
  Å (η a) fun b=>ifb (ine b 0) (k (((0:Int),[]),[],b)) (Å (Oe a) fun c=>k (c.2.2.1,c.2.2.2,(0:Int)))
def jw (a:b6):CK ((Val (.pair Ô bq))):=La a some
def B8 (f:b5) (g:Int) (d:c9) (b:Int) (a:Int) (c:Int->Int->CK ρ) (h:Int->CK ρ):CK ρ :=
  ifb (ige a 0) (ç f a fun i=>Å (iT i b) fun e=>ifb (ige e 0) (ç d a fun j=>ifb (ilt j.1 g) (ç d a fun k=>ç k.2 e fun l=>ck (a-(1:Int)) fun m=>c l m) (ck (a-(1:Int)) fun n=>c b n)) (ck (a-(1:Int)) fun o=>c b o)) (h b)
def ady (a:bl) (c:b5) (d:Int) (e:Int) (k:Int->CK ρ):CK ρ :=
  ck ((Õ a.2)-(1:Int)) fun f=>Ë (fun(b:a8) g=>B8 c e a.2 b.1 b.2 (fun h i=>g (h,i)) (fun j=>k j)) (d,f)
def si (a:bl) (b:b5) (c:Int) (d:Int):CK (Int):=ady a b c d some
def jD (d:Int) (e:Val ax) (f:Val aO) (g:an) (h:Int) (a:Int) (b:an) (i:Int->an->CK ρ) (j:an->CK ρ):CK ρ :=
  ifb (ilt a h) (ç g a fun k=>Å (si e f k d) fun c=>à (ã ((List.length b)+(List.length ([c])))) (ck (a+(1:Int)) fun l=>i l (b++([c])))) (j b)
def rh (a:an) (d:Int) (e:Val ax) (f:Val aO) (k:an->CK ρ):CK ρ :=
  Ë (fun(b:f4) g=>jD d e f a (Õ a) b.1 b.2 (fun h i=>g (h,i)) (fun c=>à (ã (List.length c)) (k (zy c)))) ((0:Int),[])
def jT (a:an) (b:Int) (c:Val ax) (d:Val aO):CK (an):=rh a b c d some
def lB (e:Val ax) (f:Val aO) (g:bx) (h:Int) (b:Int) (c:bx) (i:Int->bx->CK ρ) (j:bx->CK ρ):CK ρ :=
  ifb (ilt b h) (ç g b fun a=>Å (si e f a.1 a.2) fun d=>à (ã ((List.length c)+(List.length ([(d,a.2)])))) (ck (b+(1:Int)) fun k=>i k (c++([(d,a.2)])))) (j c)
def lz (e:Val ax) (f:Val aO) (g:fy) (h:Int) (b:Int) (c:fy) (i:Int->fy->CK ρ) (j:fy->CK ρ):CK ρ :=
  ifb (ilt b h) (ç g b fun a=>Å (si e f a.1 a.2.1.1) fun d=>à (ã ((List.length c)+(List.length ([(d,a.2)])))) (ck (b+(1:Int)) fun k=>i k (c++([(d,a.2)])))) (j c)
def lr (d:Val ax) (e:Val aO) (h:c7) (i:Int) (b:Int) (c:c7) (j:Int->c7->CK ρ) (k:c7->CK ρ):CK ρ :=
  ifb (ilt b i) (ç h b fun a=>Å (jT a.2.2.1 a.2.1 d e) fun f=>Å (jT a.2.2.2.1 a.2.1 d e) fun g=>à (ã ((List.length c)+(List.length ([(a.1,a.2.1,f,g,a.2.2.2.2)])))) (ck (b+(1:Int)) fun l=>j l (c++([(a.1,a.2.1,f,g,a.2.2.2.2)])))) (k c)
def lq (e:Val ax) (f:Val aO) (g:bx) (h:Int) (b:Int) (c:bx) (i:Int->bx->CK ρ) (j:bx->CK ρ):CK ρ :=
  ifb (ilt b h) (ç g b fun a=>Å (si e f a.1 a.2) fun d=>à (ã ((List.length c)+(List.length ([(d,a.2)])))) (ck (b+(1:Int)) fun k=>i k (c++([(d,a.2)])))) (j c)
def xu (a:bl) (b:b5) (k:b6->CK ρ):CK ρ :=
  à (ã (List.length a.1.2.1)) (Ë (fun(c:pc) g=>lB a b a.1.2.2.1 (Õ a.1.2.2.1) c.1 c.2 (fun h i=>g (h,i)) (fun j=>Ë (fun(d:y6) l=>lz a b a.1.2.2.2.1 (Õ a.1.2.2.2.1) d.1 d.2 (fun m n=>l (m,n)) (fun o=>Ë (fun(e:Val bc) p=>lr a b a.1.2.2.2.2.1 (Õ a.1.2.2.2.2.1) e.1 e.2 (fun q r=>p (q,r)) (fun s=>Ë (fun(f:pc) t=>lq a b a.1.2.2.2.2.2 (Õ a.1.2.2.2.2.2) f.1 f.2 (fun u v=>t (u,v)) (fun w=>k (a.1.1,a.1.2.1,j,o,s,w))) ((0:Int),[]))) ((0:Int),[]))) ((0:Int),[]))) ((0:Int),[]))
def Χ (a:bl) (b:b5):CK b6:=xu a b some
def YB (b:io) (a:Int) (k:Bool->CK ρ):CK ρ :=
  ifb (ige a 0) (k (ilt a b.1)) (k false)
def CD (a:io) (b:Int):CK (Bool):=YB a b some
def uu (f:hO) (g:Int) (d:Int) (e:hO) (a:Int) (h:Int->CK ρ) (c:a8->CK ρ) (i:Unit->CK ρ):CK ρ :=
  ifb (ilt a g) (ç f a fun b=>Å (CD (d,e) b.1) fun j=>ifb (!j) (c ((1:Int),a)) (Å (CD (d,e) b.2.1) fun k=>ifb (!k) (c ((1:Int),a)) (ifb (ieq b.1 b.2.1) (c ((1:Int),a)) (ifb (ilt b.2.2 (-4503599627370496:Int)) (c ((1:Int),a)) (ifb (igt b.2.2 4503599627370496) (c ((1:Int),a)) (ck (a+(1:Int)) fun l=>h l)))))) (i ())
def Q5 (a:io) (k:a8->CK ρ):CK ρ :=
  ifb (ilt a.1 1) (k ((1:Int),(-1:Int))) (ifb (igt a.1 60) (k ((1:Int),(-1:Int))) (ifb (igt (Õ a.2) 300) (k ((2:Int),(-1:Int))) (Ë (fun(c:Int) d=>uu a.2 (Õ a.2) a.1 a.2 c (fun e=>d e) (fun b=>k (b.1,b.2)) (fun _=>k ((0:Int),(-1:Int)))) (0:Int))))
def sm (a:io):CK a8:=Q5 a some
def iO (c:hO) (d:Int) (b:Int) (a:Int) (e:Int->Int->CK ρ) (f:Int->CK ρ):CK ρ :=
  ifb (ilt a d) (ç c a fun g=>ck (b+(ad3 g.2.2 (0:Int))) fun h=>ck (a+(1:Int)) fun i=>e h i) (f b)
def Ř (f:Int) (d:an) (a:Int) (b:v6) (c:an) (e:Int->v6->an->CK ρ) (g:Val aW->CK ρ):CK ρ :=
  ifb (ilt a f) (à ((ile 0 a)&&(ilt a (ï d))) (Ĵ d (Int.toNat a) fun h=>ifb (ine h 1152921504606846976) (à (ã ((List.length c)+(List.length ([a])))) (à ((ile 0 a)&&(ilt a (ï b))) (Ĵ b (Int.toNat a) fun k=>ck (a+(1:Int)) fun i=>e i (List.set b (Int.toNat a) true) (c++([a]))))) (ck (a+(1:Int)) fun j=>e j b c))) (g (b,c))
def jQ (m:Val ar) (j:Int) (d:Int) (n:hO) (o:Int) (f:Int) (b:an) (c:v6) (e:an) (g:Int->an->v6->an->CK ρ) (l:(Val (.pair .bool (.pair ab aW)))->CK ρ) (p:(Val (.pair ab aW))->CK ρ):CK ρ :=
  ifb (ilt f o) (ç n f fun a=>ifb (ine a.1 d) (ck (f+(1:Int)) fun q=>g q b c e) (N1 (k:=tI) (v:=.bool) f m (fun r=>ifb r (ck (f+(1:Int)) fun s=>g s b c e) (à ((ile 0 d)&&(ilt d (ï b))) (Ĵ b (Int.toNat d) fun t=>ck (t+a.2.2) fun u=>à ((ile 0 a.2.1)&&(ilt a.2.1 (ï b))) (Ĵ b (Int.toNat a.2.1) fun w=>ifb (ige u w) (ck (f+(1:Int)) fun x=>g x b c e) (à ((ile 0 d)&&(ilt d (ï b))) (Ĵ b (Int.toNat d) fun y=>ck (y+a.2.2) fun h=>à ((ile 0 a.2.1)&&(ilt a.2.1 (ï b))) (Ĵ b (Int.toNat a.2.1) fun M=>à ((ile 0 a.2.1)&&(ilt a.2.1 (ï (List.set b (Int.toNat a.2.1) h)))) (Ĵ (List.set b (Int.toNat a.2.1) h) (Int.toNat a.2.1) fun z=>ifb (ilt z j) (l (false,(List.set b (Int.toNat a.2.1) h),c,e)) (à ((ile 0 a.2.1)&&(ilt a.2.1 (ï c))) (Ĵ c (Int.toNat a.2.1) fun A=>ifb (!A) (à (ã ((List.length e)+(List.length ([a.2.1])))) (à ((ile 0 a.2.1)&&(ilt a.2.1 (ï c))) (Ĵ c (Int.toNat a.2.1) fun N=>ck (f+(1:Int)) fun B=>g B (List.set b (Int.toNat a.2.1) h) (List.set c (Int.toNat a.2.1) true) (e++([a.2.1]))))) (ck (f+(1:Int)) fun C=>g C (List.set b (Int.toNat a.2.1) h) c e))))))))))) (à ((ile 0 d)&&(ilt d (ï b))) (Ĵ b (Int.toNat d) fun D=>ck (D+a.2.2) fun E=>à ((ile 0 a.2.1)&&(ilt a.2.1 (ï b))) (Ĵ b (Int.toNat a.2.1) fun F=>ifb (ige E F) (ck (f+(1:Int)) fun G=>g G b c e) (à ((ile 0 d)&&(ilt d (ï b))) (Ĵ b (Int.toNat d) fun H=>ck (H+a.2.2) fun i=>à ((ile 0 a.2.1)&&(ilt a.2.1 (ï b))) (Ĵ b (Int.toNat a.2.1) fun O=>à ((ile 0 a.2.1)&&(ilt a.2.1 (ï (List.set b (Int.toNat a.2.1) i)))) (Ĵ (List.set b (Int.toNat a.2.1) i) (Int.toNat a.2.1) fun I=>ifb (ilt I j) (l (false,(List.set b (Int.toNat a.2.1) i),c,e)) (à ((ile 0 a.2.1)&&(ilt a.2.1 (ï c))) (Ĵ c (Int.toNat a.2.1) fun J=>ifb (!J) (à (ã ((List.length e)+(List.length ([a.2.1])))) (à ((ile 0 a.2.1)&&(ilt a.2.1 (ï c))) (Ĵ c (Int.toNat a.2.1) fun P=>ck (f+(1:Int)) fun K=>g K (List.set b (Int.toNat a.2.1) i) (List.set c (Int.toNat a.2.1) true) (e++([a.2.1]))))) (ck (f+(1:Int)) fun L=>g L (List.set b (Int.toNat a.2.1) i) c e)))))))))))) (p (b,c,e))
def ĭ (l:Val ar) (m:Int) (n:Int) (k:hO) (h:an) (d:v6) (b:an) (c:an) (o:an->v6->an->an->CK ρ) (i:(Val (.pair .bool bo))->CK ρ):CK ρ :=
  ifb (ieq (Õ c) 0) (i (true,h,d,b,c)) (à (ilt 0 (ï c)) (Ĵ c 0 fun a=>à (ile 1 (ï c)) (à (decide (1+(List.length c-1)=List.length c)) (à ((ile 0 a)&&(ilt a (ï d))) (Ĵ d (Int.toNat a) fun x=>à ((ile 0 a)&&(ilt a (ï b))) (Ĵ b (Int.toNat a) fun p=>ck (p+(1:Int)) fun e=>à ((ile 0 a)&&(ilt a (ï b))) (Ĵ b (Int.toNat a) fun y=>à ((ile 0 a)&&(ilt a (ï (List.set b (Int.toNat a) e)))) (Ĵ (List.set b (Int.toNat a) e) (Int.toNat a) fun q=>ck (n+(1:Int)) fun r=>ifb (igt q r) (i (false,h,(List.set d (Int.toNat a) false),(List.set b (Int.toNat a) e),(List.drop 1 c))) (Ë (fun(f:nj) s=>jQ l m a k (Õ k) f.1 f.2.1 f.2.2.1 f.2.2.2 (fun t u v w=>s (t,u,v,w)) (fun g=>i (g.1,g.2.1,g.2.2.1,(List.set b (Int.toNat a) e),g.2.2.2)) (fun j=>o j.1 j.2.1 (List.set b (Int.toNat a) e) j.2.2)) ((0:Int),h,(List.set d (Int.toNat a) false),(List.drop 1 c)))))))))))
def jP (c:Int) (d:Int) (a:Int) (b:an) (e:Int->an->CK ρ) (f:an->CK ρ):CK ρ :=
  ifb (ilt a d) (à ((ile 0 a)&&(ilt a (ï b))) (Ĵ b (Int.toNat a) fun g=>ck (g-c) fun h=>à ((ile 0 a)&&(ilt a (ï b))) (Ĵ b (Int.toNat a) fun j=>ck (a+(1:Int)) fun i=>e i (List.set b (Int.toNat a) h)))) (f b)
def A9 (a:io) (h:Val ar) (k:BY->CK ρ):CK ρ :=
  à ((ile 0 a.1)&&(ã (Int.toNat a.1))) (à ((ile 0 a.1)&&(ã (Int.toNat a.1))) (à ((ile 0 a.1)&&(ã (Int.toNat a.1))) (Ë (fun(e:a8) i=>iO a.2 (Õ a.2) e.1 e.2 (fun j l=>i (j,l)) (fun m=>Ë (fun(d:y8) n=>Ř a.1 (List.replicate (Int.toNat a.1) (0:Int)) d.1 d.2.1 d.2.2 (fun o p q=>n (o,p,q)) (fun f=>Ë (fun(c:Val bo) r=>ĭ h m a.1 a.2 c.1 c.2.1 c.2.2.1 c.2.2.2 (fun s t u v=>r (s,t,u,v)) (fun b=>ifb (!b.1) (k ([],false)) (à (ilt 0 (ï b.2.1)) (Ĵ b.2.1 0 fun w=>Ë (fun(g:f4) x=>jP w (Õ b.2.1) g.1 g.2 (fun y z=>x (y,z)) (fun A=>k (A,true))) ((0:Int),b.2.1))))) ((List.replicate (Int.toNat a.1) (0:Int)),f.1,(List.replicate (Int.toNat a.1) (0:Int)),f.2))) ((0:Int),(List.replicate (Int.toNat a.1) false),[]))) ((0:Int),(0:Int)))))
def me (a:io) (b:Val ar):CK (BY):=A9 a b some
def vf (a:io) (k:Val bm->CK ρ):CK ρ :=
  Å (sm a) fun b=>ifb (ine b.1 0) (k (false,b.1)) (Å (me a ([])) fun c=>k (c.2,(0:Int)))
def ou (a:io):CK ((Val bm)):=vf a some
def Aj (a:bl) (b:b5) (k:Bool->CK ρ):CK ρ :=
  Å (Χ a b) fun c=>Å (jw c) fun d=>Å (ou d.1) fun e=>k e.1
def Ω (a:bl) (b:b5):CK (Bool):=Aj a b some
def pW (d:Int) (e:an) (f:Int) (g:c9) (b:Int) (a:Int) (c:Int->Int->CK ρ) (h:Int->CK ρ):CK ρ :=
  ifb (ilt a f) (ç e a fun i=>ç g d fun j=>ç j.2 a fun k=>ifb (ine k i) (ck (b+(1:Int)) fun l=>ck (a+(1:Int)) fun m=>c l m) (ck (a+(1:Int)) fun n=>c b n)) (h b)
def pX (e:b5) (f:Int) (g:c9) (b:Int) (a:Int) (h:Int->Int->CK ρ) (i:Int->CK ρ):CK ρ :=
  ifb (ilt a f) (ç e a fun c=>Ë (fun(d:a8) j=>pW a c (Õ c) g d.1 d.2 (fun k l=>j (k,l)) (fun m=>ck (a+(1:Int)) fun n=>h m n)) (b,(0:Int))) (i b)
def Kd (c:bl) (a:b5) (k:Int->CK ρ):CK ρ :=
  Ë (fun(b:a8) d=>pX a (Õ a) c.2 b.1 b.2 (fun e f=>d (e,f)) (fun g=>k g)) ((0:Int),(0:Int))
def Ĭ (a:bl) (b:b5):CK (Int):=Kd a b some
def rU (a:Int) (k:Bool->CK ρ):CK ρ :=
  k (ine a a)
def mS (a:Int):CK (Bool):=rU a some
def nP (a:Int) (b:Int) (k:Int->CK ρ):CK ρ :=
  Å (mS a) fun d=>Å (mS b) fun c=>ifb d (ifb c (k (0:Int)) (k (-1:Int))) (ifb c (k (1:Int)) (ifb (ilt a b) (k (-1:Int)) (ifb (igt a b) (k (1:Int)) (k (0:Int)))))
def iU (a:Int) (b:Int):CK (Int):=nP a b some
def Ke (b:b5) (c:b5) (a:Val ax) (k:Int->CK ρ):CK ρ :=
  Å (Ĭ a b) fun d=>Å (Ĭ a c) fun e=>Å (iU d e) fun f=>k f
def kv (a:b5) (b:b5) (c:Val ax):CK (Int):=Ke a b c some
def ë (h:Int) (i:Int) (j:Int) (k:fx) (l:bx) (m:fy) (n:c7) (o:bx) (p:c9) (a:Int) (b:a7) (q:Int->a7->CK ρ) (g:a7->CK ρ):CK ρ :=
  ifb (igt a h) (à ((ile 0 a)&&(ilt a (ï b))) (Ĵ b (Int.toNat a) fun r=>ck (a-(1:Int)) fun d=>à ((ile 0 d)&&(ilt d (ï b))) (Ĵ b (Int.toNat d) fun s=>Å (kv r s (((i,j),k,l,m,n,o),p)) fun t=>ifb (ilt t 0) (ck (a-(1:Int)) fun c=>ck (a-(1:Int)) fun e=>à ((ile 0 e)&&(ilt e (ï b))) (Ĵ b (Int.toNat e) fun f=>à ((ile 0 a)&&(ilt a (ï b))) (Ĵ b (Int.toNat a) fun u=>à ((ile 0 a)&&(ilt a (ï b))) (Ĵ b (Int.toNat a) fun w=>à ((ile 0 c)&&(ilt c (ï (List.set b (Int.toNat a) f)))) (Ĵ (List.set b (Int.toNat a) f) (Int.toNat c) fun x=>ck (a-(1:Int)) fun v=>q v (List.set (List.set b (Int.toNat a) f) (Int.toNat c) u)))))) (g b)))) (g b)
def Đ (d:Int) (e:Int) (f:Int) (g:Int) (h:fx) (i:bx) (j:fy) (k:c7) (l:bx) (m:c9) (a:Int) (b:a7) (n:Int->a7->CK ρ) (o:a7->CK ρ):CK ρ :=
  ifb (ilt a e) (Ë (fun(c:i4) p=>ë d f g h i j k l m c.1 c.2 (fun q r=>p (q,r)) (fun s=>ck (a+(1:Int)) fun t=>n t s)) (a,b)) (o b)
def Ū (c:a7) (a:Int) (d:Int) (mm:bl) (k:(a7)×bl->CK ρ):CK ρ :=
  ck (a+(1:Int)) fun e=>Ë (fun(b:i4) f=>Đ a d mm.1.1.1 mm.1.1.2 mm.1.2.1 mm.1.2.2.1 mm.1.2.2.2.1 mm.1.2.2.2.2.1 mm.1.2.2.2.2.2 mm.2 b.1 b.2 (fun g h=>f (g,h)) (fun i=>k (i,mm))) (e,c)
def ê (a:a7) (b:Int) (c:Int) (mm:bl):CK ((a7)×bl):=Ū a b c mm some
def ď (h:Int) (i:Int) (j:Int) (b:Int) (a:a7) (k:Int->a7->CK ρ) (l:a7->CK ρ):CK ρ :=
  ifb (ilt b j) (ck (h+b) fun c=>ck (i+b) fun d=>ck (i+b) fun e=>à ((ile 0 e)&&(ilt e (ï a))) (Ĵ a (Int.toNat e) fun f=>ck (h+b) fun g=>à ((ile 0 g)&&(ilt g (ï a))) (Ĵ a (Int.toNat g) fun m=>à ((ile 0 c)&&(ilt c (ï a))) (Ĵ a (Int.toNat c) fun o=>à ((ile 0 d)&&(ilt d (ï (List.set a (Int.toNat c) f)))) (Ĵ (List.set a (Int.toNat c) f) (Int.toNat d) fun p=>ck (b+(1:Int)) fun n=>k n (List.set (List.set a (Int.toNat c) f) (Int.toNat d) m)))))) (l a)
def iN (h:Int) (i:Int) (j:Int) (b:Int) (a:a7) (k:Int->a7->CK ρ) (l:a7->CK ρ):CK ρ :=
  ifb (ilt b j) (ck (h+b) fun c=>ck (i+b) fun d=>ck (i+b) fun e=>à ((ile 0 e)&&(ilt e (ï a))) (Ĵ a (Int.toNat e) fun f=>ck (h+b) fun g=>à ((ile 0 g)&&(ilt g (ï a))) (Ĵ a (Int.toNat g) fun m=>à ((ile 0 c)&&(ilt c (ï a))) (Ĵ a (Int.toNat c) fun o=>à ((ile 0 d)&&(ilt d (ï (List.set a (Int.toNat c) f)))) (Ĵ (List.set a (Int.toNat c) f) (Int.toNat d) fun p=>ck (b+(1:Int)) fun n=>k n (List.set (List.set a (Int.toNat c) f) (Int.toNat d) m)))))) (l a)
def ĵ (c:Int) (a:Int) (b:Int) (d:a7) (e:Int->Int->a7->CK ρ) (h:i4->CK ρ):CK ρ :=
  ifb (ine a b) (ifb (igt a b) (ck (c-a) fun i=>Ë (fun(f:i4) j=>ď i c b f.1 f.2 (fun k l=>j (k,l)) (fun m=>ck (a-b) fun n=>e n b m)) ((0:Int),d)) (ck (c-a) fun o=>ck (c+b) fun p=>ck (p-a) fun q=>Ë (fun(g:i4) r=>iN o q a g.1 g.2 (fun s t=>r (s,t)) (fun u=>ck (b-a) fun v=>e a v u)) ((0:Int),d))) (h (a,d))
def iM (h:Int) (i:Int) (j:Int) (b:Int) (a:a7) (k:Int->a7->CK ρ) (l:a7->CK ρ):CK ρ :=
  ifb (ilt b j) (ck (h+b) fun c=>ck (i+b) fun d=>ck (i+b) fun e=>à ((ile 0 e)&&(ilt e (ï a))) (Ĵ a (Int.toNat e) fun f=>ck (h+b) fun g=>à ((ile 0 g)&&(ilt g (ï a))) (Ĵ a (Int.toNat g) fun m=>à ((ile 0 c)&&(ilt c (ï a))) (Ĵ a (Int.toNat c) fun o=>à ((ile 0 d)&&(ilt d (ï (List.set a (Int.toNat c) f)))) (Ĵ (List.set a (Int.toNat c) f) (Int.toNat d) fun p=>ck (b+(1:Int)) fun n=>k n (List.set (List.set a (Int.toNat c) f) (Int.toNat d) m)))))) (l a)
def jN (e:a7) (f:Int) (a:Int) (g:Int) (mm:bl) (k:(a7)×bl->CK ρ):CK ρ :=
  ck (a-f) fun h=>ck (g-a) fun i=>Ë (fun(b:y9) j=>ĵ a b.1 b.2.1 b.2.2 (fun l m n=>j (l,m,n)) (fun c=>ck (a-c.1) fun o=>Ë (fun(d:i4) p=>iM o a c.1 d.1 d.2 (fun q r=>p (q,r)) (fun s=>k (s,mm))) ((0:Int),c.2))) (h,i,e)
def ĸ (a:a7) (b:Int) (c:Int) (d:Int) (mm:bl):CK ((a7)×bl):=jN a b c d mm some
def ý (rec:a7->Int->Int->Int->bl->CK (a7×bl)) (d:Int) (b:a7) (g:Int) (h:Int) (i:fx) (j:bx) (k:fy) (l:c7) (m:bx) (n:c9) (c:Int) (e:Int) (f:Int->Int->CK ρ) (o:Int->CK ρ):CK ρ :=
  ifb (ilt c e) (ck (c+e) fun a=>à ((ile 0 (IntKind.wrap .i64 (i7 .u64 (IntKind.wrap .u64 a) (1:Int))))&&(ilt (IntKind.wrap .i64 (i7 .u64 (IntKind.wrap .u64 a) (1:Int))) (ï b))) (Ĵ b (Int.toNat (IntKind.wrap .i64 (i7 .u64 (IntKind.wrap .u64 a) (1:Int)))) fun p=>à ((ile 0 d)&&(ilt d (ï b))) (Ĵ b (Int.toNat d) fun q=>Å (kv p q (((g,h),i,j,k,l,m),n)) fun r=>ifb (ilt r 0) (ck ((IntKind.wrap .i64 (i7 .u64 (IntKind.wrap .u64 a) (1:Int)))+(1:Int)) fun s=>f s e) (f c (IntKind.wrap .i64 (i7 .u64 (IntKind.wrap .u64 a) (1:Int))))))) (o c)
def ò (rec:a7->Int->Int->Int->bl->CK (a7×bl)) (f:Int) (a:Int) (b:a7) (g:Int->a7->CK ρ) (h:a7->CK ρ):CK ρ :=
  ck (f-(1:Int)) fun i=>ifb (ilt a i) (ck (a+(1:Int)) fun c=>ck (a+(1:Int)) fun d=>à ((ile 0 d)&&(ilt d (ï b))) (Ĵ b (Int.toNat d) fun e=>à ((ile 0 a)&&(ilt a (ï b))) (Ĵ b (Int.toNat a) fun j=>à ((ile 0 a)&&(ilt a (ï b))) (Ĵ b (Int.toNat a) fun l=>à ((ile 0 c)&&(ilt c (ï (List.set b (Int.toNat a) e)))) (Ĵ (List.set b (Int.toNat a) e) (Int.toNat c) fun m=>ck (a+(1:Int)) fun k=>g k (List.set (List.set b (Int.toNat a) e) (Int.toNat c) j)))))) (h b)
def ü (rec:a7->Int->Int->Int->bl->CK (a7×bl)) (d:Int) (b:a7) (g:Int) (h:Int) (i:fx) (j:bx) (k:fy) (l:c7) (m:bx) (n:c9) (c:Int) (e:Int) (f:Int->Int->CK ρ) (o:Int->CK ρ):CK ρ :=
  ifb (ilt c e) (ck (c+e) fun a=>à ((ile 0 d)&&(ilt d (ï b))) (Ĵ b (Int.toNat d) fun p=>à ((ile 0 (IntKind.wrap .i64 (i7 .u64 (IntKind.wrap .u64 a) (1:Int))))&&(ilt (IntKind.wrap .i64 (i7 .u64 (IntKind.wrap .u64 a) (1:Int))) (ï b))) (Ĵ b (Int.toNat (IntKind.wrap .i64 (i7 .u64 (IntKind.wrap .u64 a) (1:Int)))) fun q=>Å (kv p q (((g,h),i,j,k,l,m),n)) fun r=>ifb (!(ilt r 0)) (ck ((IntKind.wrap .i64 (i7 .u64 (IntKind.wrap .u64 a) (1:Int)))+(1:Int)) fun s=>f s e) (f c (IntKind.wrap .i64 (i7 .u64 (IntKind.wrap .u64 a) (1:Int))))))) (o c)
def ñ (rec:a7->Int->Int->Int->bl->CK (a7×bl)) (f:Int) (a:Int) (b:a7) (g:Int->a7->CK ρ) (h:a7->CK ρ):CK ρ :=
  ifb (igt a f) (ck (a-(1:Int)) fun c=>ck (a-(1:Int)) fun d=>à ((ile 0 d)&&(ilt d (ï b))) (Ĵ b (Int.toNat d) fun e=>à ((ile 0 a)&&(ilt a (ï b))) (Ĵ b (Int.toNat a) fun i=>à ((ile 0 a)&&(ilt a (ï b))) (Ĵ b (Int.toNat a) fun k=>à ((ile 0 c)&&(ilt c (ï (List.set b (Int.toNat a) e)))) (Ĵ (List.set b (Int.toNat a) e) (Int.toNat c) fun l=>ck (a-(1:Int)) fun j=>g j (List.set (List.set b (Int.toNat a) e) (Int.toNat c) i)))))) (h b)
def â (rec:a7->Int->Int->Int->bl->CK (a7×bl)) (g:Int) (b:a7) (h:Int) (i:Int) (j:fx) (k:bx) (l:fy) (m:c7) (n:bx) (o:c9) (c:Int) (d:Int) (f:Int->Int->CK ρ) (p:Int->CK ρ):CK ρ :=
  ifb (ilt c d) (ck (c+d) fun a=>ck (g-(IntKind.wrap .i64 (i7 .u64 (IntKind.wrap .u64 a) (1:Int)))) fun e=>à ((ile 0 e)&&(ilt e (ï b))) (Ĵ b (Int.toNat e) fun q=>à ((ile 0 (IntKind.wrap .i64 (i7 .u64 (IntKind.wrap .u64 a) (1:Int))))&&(ilt (IntKind.wrap .i64 (i7 .u64 (IntKind.wrap .u64 a) (1:Int))) (ï b))) (Ĵ b (Int.toNat (IntKind.wrap .i64 (i7 .u64 (IntKind.wrap .u64 a) (1:Int)))) fun r=>Å (kv q r (((h,i),j,k,l,m,n),o)) fun s=>ifb (!(ilt s 0)) (ck ((IntKind.wrap .i64 (i7 .u64 (IntKind.wrap .u64 a) (1:Int)))+(1:Int)) fun t=>f t d) (f c (IntKind.wrap .i64 (i7 .u64 (IntKind.wrap .u64 a) (1:Int))))))) (p c)
def ħ (rec:a7->Int->Int->Int->bl->CK (a7×bl)) (c:a7) (f:Int) (g:Int) (b:Int) (mm:bl) (k:(a7)×bl->CK ρ):CK ρ :=
  ck (g-f) fun R=>ifb (ieq R 1) (Ë (fun(t:a8) S=>ý rec f c mm.1.1.1 mm.1.1.2 mm.1.2.1 mm.1.2.2.1 mm.1.2.2.2.1 mm.1.2.2.2.2.1 mm.1.2.2.2.2.2 mm.2 t.1 t.2 (fun T U=>S (T,U)) (fun V=>Ë (fun(u:i4) W=>ò rec V u.1 u.2 (fun X Y=>W (X,Y)) (fun Z=>k (Z,mm))) (f,c))) (g,b)) (ck (b-g) fun df=>ifb (ieq df 1) (Ë (fun(v:a8) dg=>ü rec g c mm.1.1.1 mm.1.1.2 mm.1.2.1 mm.1.2.2.1 mm.1.2.2.2.1 mm.1.2.2.2.2.1 mm.1.2.2.2.2.2 mm.2 v.1 v.2 (fun dh di=>dg (dh,di)) (fun dj=>Ë (fun(w:i4) dk=>ñ rec dj w.1 w.2 (fun dl dm=>dk (dl,dm)) (fun dp=>k (dp,mm))) (g,c))) (f,g)) (ck (f+b) fun a=>ck ((IntKind.wrap .i64 (i7 .u64 (IntKind.wrap .u64 a) (1:Int)))+g) fun s=>ifb (igt g (IntKind.wrap .i64 (i7 .u64 (IntKind.wrap .u64 a) (1:Int)))) (ck (s-b) fun dq=>ck (s-1) fun dr=>Ë (fun(x:a8) dt=>â rec dr c mm.1.1.1 mm.1.1.2 mm.1.2.1 mm.1.2.2.1 mm.1.2.2.2.1 mm.1.2.2.2.2.1 mm.1.2.2.2.2.2 mm.2 x.1 x.2 (fun du dv=>dt (du,dv)) (fun j=>ck (s-j) fun d=>ifb (ilt j g) (ifb (ilt g d) (Å (ĸ c j g d mm) fun h=>ifb (ilt f j) (ifb (ilt j (IntKind.wrap .i64 (i7 .u64 (IntKind.wrap .u64 a) (1:Int)))) (Å (rec h.1 f j (IntKind.wrap .i64 (i7 .u64 (IntKind.wrap .u64 a) (1:Int))) h.2) fun m=>ifb (ilt (IntKind.wrap .i64 (i7 .u64 (IntKind.wrap .u64 a) (1:Int))) d) (ifb (ilt d b) (Å (rec m.1 (IntKind.wrap .i64 (i7 .u64 (IntKind.wrap .u64 a) (1:Int))) d b m.2) fun y=>k (y.1,y.2)) (k (m.1,m.2))) (k (m.1,m.2))) (ifb (ilt (IntKind.wrap .i64 (i7 .u64 (IntKind.wrap .u64 a) (1:Int))) d) (ifb (ilt d b) (Å (rec h.1 (IntKind.wrap .i64 (i7 .u64 (IntKind.wrap .u64 a) (1:Int))) d b h.2) fun z=>k (z.1,z.2)) (k (h.1,h.2))) (k (h.1,h.2)))) (ifb (ilt (IntKind.wrap .i64 (i7 .u64 (IntKind.wrap .u64 a) (1:Int))) d) (ifb (ilt d b) (Å (rec h.1 (IntKind.wrap .i64 (i7 .u64 (IntKind.wrap .u64 a) (1:Int))) d b h.2) fun A=>k (A.1,A.2)) (k (h.1,h.2))) (k (h.1,h.2)))) (ifb (ilt f j) (ifb (ilt j (IntKind.wrap .i64 (i7 .u64 (IntKind.wrap .u64 a) (1:Int)))) (Å (rec c f j (IntKind.wrap .i64 (i7 .u64 (IntKind.wrap .u64 a) (1:Int))) mm) fun n=>ifb (ilt (IntKind.wrap .i64 (i7 .u64 (IntKind.wrap .u64 a) (1:Int))) d) (ifb (ilt d b) (Å (rec n.1 (IntKind.wrap .i64 (i7 .u64 (IntKind.wrap .u64 a) (1:Int))) d b n.2) fun B=>k (B.1,B.2)) (k (n.1,n.2))) (k (n.1,n.2))) (ifb (ilt (IntKind.wrap .i64 (i7 .u64 (IntKind.wrap .u64 a) (1:Int))) d) (ifb (ilt d b) (Å (rec c (IntKind.wrap .i64 (i7 .u64 (IntKind.wrap .u64 a) (1:Int))) d b mm) fun C=>k (C.1,C.2)) (k (c,mm))) (k (c,mm)))) (ifb (ilt (IntKind.wrap .i64 (i7 .u64 (IntKind.wrap .u64 a) (1:Int))) d) (ifb (ilt d b) (Å (rec c (IntKind.wrap .i64 (i7 .u64 (IntKind.wrap .u64 a) (1:Int))) d b mm) fun D=>k (D.1,D.2)) (k (c,mm))) (k (c,mm))))) (ifb (ilt f j) (ifb (ilt j (IntKind.wrap .i64 (i7 .u64 (IntKind.wrap .u64 a) (1:Int)))) (Å (rec c f j (IntKind.wrap .i64 (i7 .u64 (IntKind.wrap .u64 a) (1:Int))) mm) fun o=>ifb (ilt (IntKind.wrap .i64 (i7 .u64 (IntKind.wrap .u64 a) (1:Int))) d) (ifb (ilt d b) (Å (rec o.1 (IntKind.wrap .i64 (i7 .u64 (IntKind.wrap .u64 a) (1:Int))) d b o.2) fun E=>k (E.1,E.2)) (k (o.1,o.2))) (k (o.1,o.2))) (ifb (ilt (IntKind.wrap .i64 (i7 .u64 (IntKind.wrap .u64 a) (1:Int))) d) (ifb (ilt d b) (Å (rec c (IntKind.wrap .i64 (i7 .u64 (IntKind.wrap .u64 a) (1:Int))) d b mm) fun F=>k (F.1,F.2)) (k (c,mm))) (k (c,mm)))) (ifb (ilt (IntKind.wrap .i64 (i7 .u64 (IntKind.wrap .u64 a) (1:Int))) d) (ifb (ilt d b) (Å (rec c (IntKind.wrap .i64 (i7 .u64 (IntKind.wrap .u64 a) (1:Int))) d b mm) fun G=>k (G.1,G.2)) (k (c,mm))) (k (c,mm)))))) (dq,(IntKind.wrap .i64 (i7 .u64 (IntKind.wrap .u64 a) (1:Int))))) (ck (s-1) fun dw=>Ë (fun(H:a8) dz=>â rec dw c mm.1.1.1 mm.1.1.2 mm.1.2.1 mm.1.2.2.1 mm.1.2.2.2.1 mm.1.2.2.2.2.1 mm.1.2.2.2.2.2 mm.2 H.1 H.2 (fun d8 d9=>dz (d8,d9)) (fun l=>ck (s-l) fun e=>ifb (ilt l g) (ifb (ilt g e) (Å (ĸ c l g e mm) fun i=>ifb (ilt f l) (ifb (ilt l (IntKind.wrap .i64 (i7 .u64 (IntKind.wrap .u64 a) (1:Int)))) (Å (rec i.1 f l (IntKind.wrap .i64 (i7 .u64 (IntKind.wrap .u64 a) (1:Int))) i.2) fun p=>ifb (ilt (IntKind.wrap .i64 (i7 .u64 (IntKind.wrap .u64 a) (1:Int))) e) (ifb (ilt e b) (Å (rec p.1 (IntKind.wrap .i64 (i7 .u64 (IntKind.wrap .u64 a) (1:Int))) e b p.2) fun I=>k (I.1,I.2)) (k (p.1,p.2))) (k (p.1,p.2))) (ifb (ilt (IntKind.wrap .i64 (i7 .u64 (IntKind.wrap .u64 a) (1:Int))) e) (ifb (ilt e b) (Å (rec i.1 (IntKind.wrap .i64 (i7 .u64 (IntKind.wrap .u64 a) (1:Int))) e b i.2) fun J=>k (J.1,J.2)) (k (i.1,i.2))) (k (i.1,i.2)))) (ifb (ilt (IntKind.wrap .i64 (i7 .u64 (IntKind.wrap .u64 a) (1:Int))) e) (ifb (ilt e b) (Å (rec i.1 (IntKind.wrap .i64 (i7 .u64 (IntKind.wrap .u64 a) (1:Int))) e b i.2) fun K=>k (K.1,K.2)) (k (i.1,i.2))) (k (i.1,i.2)))) (ifb (ilt f l) (ifb (ilt l (IntKind.wrap .i64 (i7 .u64 (IntKind.wrap .u64 a) (1:Int)))) (Å (rec c f l (IntKind.wrap .i64 (i7 .u64 (IntKind.wrap .u64 a) (1:Int))) mm) fun q=>ifb (ilt (IntKind.wrap .i64 (i7 .u64 (IntKind.wrap .u64 a) (1:Int))) e) (ifb (ilt e b) (Å (rec q.1 (IntKind.wrap .i64 (i7 .u64 (IntKind.wrap .u64 a) (1:Int))) e b q.2) fun L=>k (L.1,L.2)) (k (q.1,q.2))) (k (q.1,q.2))) (ifb (ilt (IntKind.wrap .i64 (i7 .u64 (IntKind.wrap .u64 a) (1:Int))) e) (ifb (ilt e b) (Å (rec c (IntKind.wrap .i64 (i7 .u64 (IntKind.wrap .u64 a) (1:Int))) e b mm) fun M=>k (M.1,M.2)) (k (c,mm))) (k (c,mm)))) (ifb (ilt (IntKind.wrap .i64 (i7 .u64 (IntKind.wrap .u64 a) (1:Int))) e) (ifb (ilt e b) (Å (rec c (IntKind.wrap .i64 (i7 .u64 (IntKind.wrap .u64 a) (1:Int))) e b mm) fun N=>k (N.1,N.2)) (k (c,mm))) (k (c,mm))))) (ifb (ilt f l) (ifb (ilt l (IntKind.wrap .i64 (i7 .u64 (IntKind.wrap .u64 a) (1:Int)))) (Å (rec c f l (IntKind.wrap .i64 (i7 .u64 (IntKind.wrap .u64 a) (1:Int))) mm) fun r=>ifb (ilt (IntKind.wrap .i64 (i7 .u64 (IntKind.wrap .u64 a) (1:Int))) e) (ifb (ilt e b) (Å (rec r.1 (IntKind.wrap .i64 (i7 .u64 (IntKind.wrap .u64 a) (1:Int))) e b r.2) fun O=>k (O.1,O.2)) (k (r.1,r.2))) (k (r.1,r.2))) (ifb (ilt (IntKind.wrap .i64 (i7 .u64 (IntKind.wrap .u64 a) (1:Int))) e) (ifb (ilt e b) (Å (rec c (IntKind.wrap .i64 (i7 .u64 (IntKind.wrap .u64 a) (1:Int))) e b mm) fun P=>k (P.1,P.2)) (k (c,mm))) (k (c,mm)))) (ifb (ilt (IntKind.wrap .i64 (i7 .u64 (IntKind.wrap .u64 a) (1:Int))) e) (ifb (ilt e b) (Å (rec c (IntKind.wrap .i64 (i7 .u64 (IntKind.wrap .u64 a) (1:Int))) e b mm) fun Q=>k (Q.1,Q.2)) (k (c,mm))) (k (c,mm)))))) (f,g))))
def Ħ:Nat->a7->Int->Int->Int->bl->CK (a7×bl)
  |0=>fun _ _ _ _ _=>none
  |n+1=>fun a b c d mm=>ħ (Ħ n) a b c d mm some
def Ę (a:a7) (b:Int) (c:Int) (d:Int) (mm:bl):CK ((a7)×bl):=Ħ 100 a b c d mm
def iL (m:Int) (n:Int) (c:Int) (b:Int) (d:a7) (e:Int) (f:Int) (g:fx) (h:bx) (i:fy) (j:c7) (k:bx) (l:c9) (o:Int->Int->a7->Int->Int->fx->bx->fy->c7->bx->c9->CK ρ) (p:u6->CK ρ):CK ρ :=
  ifb (ile b m) (Å (ê d c b (((e,f),g,h,i,j,k),l)) fun a=>ck (b+n) fun q=>o b q a.1 a.2.1.1.1 a.2.1.1.2 a.2.1.2.1 a.2.1.2.2.1 a.2.1.2.2.2.1 a.2.1.2.2.2.2.1 a.2.1.2.2.2.2.2 a.2.2) (p (c,d,e,f,g,h,i,j,k,l))
def iJ (n:Int) (d:Int) (c:Int) (b:Int) (e:a7) (f:Int) (g:Int) (h:fx) (i:bx) (j:fy) (k:c7) (l:bx) (m:c9) (o:Int->Int->a7->Int->Int->fx->bx->fy->c7->bx->c9->CK ρ) (p:u6->CK ρ):CK ρ :=
  ifb (ile b n) (ck (c+d) fun q=>Å (Ę e c q b (((f,g),h,i,j,k,l),m)) fun a=>ck ((2:Int)*d) fun r=>ck (b+r) fun s=>o b s a.1 a.2.1.1.1 a.2.1.1.2 a.2.1.2.1 a.2.1.2.2.1 a.2.1.2.2.2.1 a.2.1.2.2.2.2.1 a.2.1.2.2.2.2.2 a.2.2) (p (c,e,f,g,h,i,j,k,l,m))
def iK (e:Int) (d:Int) (f:a7) (g:Int) (h:Int) (i:fx) (j:bx) (k:fy) (l:c7) (m:bx) (n:c9) (o:Int->a7->Int->Int->fx->bx->fy->c7->bx->c9->CK ρ) (q:(Val (.pair aj ah))->CK ρ):CK ρ :=
  ifb (ilt d e) (ck ((2:Int)*d) fun r=>Ë (fun(b:An) s=>iJ e d b.1 b.2.1 b.2.2.1 b.2.2.2.1 b.2.2.2.2.1 b.2.2.2.2.2.1 b.2.2.2.2.2.2.1 b.2.2.2.2.2.2.2.1 b.2.2.2.2.2.2.2.2.1 b.2.2.2.2.2.2.2.2.2.1 b.2.2.2.2.2.2.2.2.2.2 (fun t u v w x y z A B C D=>s (t,u,v,w,x,y,z,A,B,C,D)) (fun a=>ck (a.1+d) fun p=>ifb (ilt p e) (Å (Ę a.2.1 a.1 p e (((a.2.2.1,a.2.2.2.1),a.2.2.2.2.1,a.2.2.2.2.2.1,a.2.2.2.2.2.2.1,a.2.2.2.2.2.2.2.1,a.2.2.2.2.2.2.2.2.1),a.2.2.2.2.2.2.2.2.2)) fun c=>ck (d*(2:Int)) fun E=>o E c.1 c.2.1.1.1 c.2.1.1.2 c.2.1.2.1 c.2.1.2.2.1 c.2.1.2.2.2.1 c.2.1.2.2.2.2.1 c.2.1.2.2.2.2.2 c.2.2) (ck (d*(2:Int)) fun F=>o F a.2.1 a.2.2.1 a.2.2.2.1 a.2.2.2.2.1 a.2.2.2.2.2.1 a.2.2.2.2.2.2.1 a.2.2.2.2.2.2.2.1 a.2.2.2.2.2.2.2.2.1 a.2.2.2.2.2.2.2.2.2))) ((0:Int),r,f,g,h,i,j,k,l,m,n)) (q (f,g,h,i,j,k,l,m,n))
def jM (g:a7) (f:Int) (mm:bl) (k:(a7)×bl->CK ρ):CK ρ :=
  Ë (fun(a:An) h=>iL f (20:Int) a.1 a.2.1 a.2.2.1 a.2.2.2.1 a.2.2.2.2.1 a.2.2.2.2.2.1 a.2.2.2.2.2.2.1 a.2.2.2.2.2.2.2.1 a.2.2.2.2.2.2.2.2.1 a.2.2.2.2.2.2.2.2.2.1 a.2.2.2.2.2.2.2.2.2.2 (fun i j l m n o p q r s t=>h (i,j,l,m,n,o,p,q,r,s,t)) (fun b=>Å (ê b.2.1 b.1 f (((b.2.2.1,b.2.2.2.1),b.2.2.2.2.1,b.2.2.2.2.2.1,b.2.2.2.2.2.2.1,b.2.2.2.2.2.2.2.1,b.2.2.2.2.2.2.2.2.1),b.2.2.2.2.2.2.2.2.2)) fun d=>Ë (fun(c:u6) u=>iK f c.1 c.2.1 c.2.2.1 c.2.2.2.1 c.2.2.2.2.1 c.2.2.2.2.2.1 c.2.2.2.2.2.2.1 c.2.2.2.2.2.2.2.1 c.2.2.2.2.2.2.2.2.1 c.2.2.2.2.2.2.2.2.2 (fun v w x y z A B C D E=>u (v,w,x,y,z,A,B,C,D,E)) (fun e=>k (e.1,(((e.2.1,e.2.2.1),e.2.2.2.1,e.2.2.2.2.1,e.2.2.2.2.2.1,e.2.2.2.2.2.2.1,e.2.2.2.2.2.2.2.1),e.2.2.2.2.2.2.2.2)))) ((20:Int),d.1,d.2.1.1.1,d.2.1.1.2,d.2.1.2.1,d.2.1.2.2.1,d.2.1.2.2.2.1,d.2.1.2.2.2.2.1,d.2.1.2.2.2.2.2,d.2.2))) ((0:Int),(20:Int),g,mm.1.1.1,mm.1.1.2,mm.1.2.1,mm.1.2.2.1,mm.1.2.2.2.1,mm.1.2.2.2.2.1,mm.1.2.2.2.2.2,mm.2)
def ķ (a:a7) (b:Int) (mm:bl):CK ((a7)×bl):=jM a b mm some
def Fq (a:a7) (y:b5) (b:a7->CK ρ):CK ρ :=
  à (ã ((List.length a)+(List.length ([y])))) (b (a++([y])))
def xw (c:Int) (d:Int) (e:Int) (f:fx) (g:bx) (h:fy) (i:c7) (j:bx) (k:c9) (b:a7) (a:Int) (l:Int->CK ρ) (m:Int->CK ρ) (n:Unit->CK ρ):CK ρ :=
  ifb (ilt a c) (à ((ile 0 a)&&(ilt a (ï b))) (Ĵ b (Int.toNat a) fun o=>Å (Ω (((d,e),f,g,h,i,j),k) o) fun p=>ifb (!p) (m a) (ck (a+(1:Int)) fun q=>l q))) (n ())
def nF (f:Int) (g:Int) (h:fx) (i:bx) (j:fy) (k:c7) (l:bx) (m:c9) (b:Int) (c:Int) (a:a7) (d:Int->Int->a7->CK ρ) (n:i4->CK ρ):CK ρ :=
  ifb (ilt c (Õ a)) (à ((ile 0 c)&&(ilt c (ï a))) (Ĵ a (Int.toNat c) fun e=>Å (Ω (((f,g),h,i,j,k,l),m) e) fun o=>ifb (!(!o)) (à ((ile 0 b)&&(ilt b (ï a))) (Ĵ a (Int.toNat b) fun s=>ck (b+(1:Int)) fun p=>ck (c+(1:Int)) fun q=>d p q (List.set a (Int.toNat b) e))) (ck (c+(1:Int)) fun r=>d b r a))) (n (b,a))
def XL (b:bl) (k:a7->CK ρ):CK ρ :=
  Å (nV b.2) fun g=>By (fun(h:a7) (i:b5) j=>Fq h i (fun l=>j l)) g ([]) (fun f=>Å (ķ f (Õ f) b) fun c=>Ë (fun(m:Int) n=>xw (Õ c.1) b.1.1.1 b.1.1.2 b.1.2.1 b.1.2.2.1 b.1.2.2.2.1 b.1.2.2.2.2.1 b.1.2.2.2.2.2 b.2 c.1 m (fun o=>n o) (fun d=>ifb (ieq d (-1:Int)) (k c.1) (ck (d+(1:Int)) fun p=>Ë (fun(e:y9) q=>nF b.1.1.1 b.1.1.2 b.1.2.1 b.1.2.2.1 b.1.2.2.2.1 b.1.2.2.2.2.1 b.1.2.2.2.2.2 b.2 e.1 e.2.1 e.2.2 (fun r s t=>q (r,s,t)) (fun a=>à ((ile 0 a.1)&&(ile a.1 (ï a.2))) (à ((ile 0 a.1)&&(ile a.1 (ï (List.take (Int.toNat a.1) a.2++List.replicate (List.length a.2-(Int.toNat a.1)) ([])++List.drop ((Int.toNat a.1)+(List.length a.2-(Int.toNat a.1))) a.2)))) (k (List.take (Int.toNat a.1) (List.drop 0 (List.take (Int.toNat a.1) a.2++List.replicate (List.length a.2-(Int.toNat a.1)) ([])++List.drop ((Int.toNat a.1)+(List.length a.2-(Int.toNat a.1))) a.2))))))) (d,p,c.1))) (fun _=>k c.1)) (0:Int))
def I6 (a:bl):CK (a7):=XL a some
def adE (a:bl) (k:py->CK ρ):CK ρ :=
  Å (iS a) fun b=>ifb (ine b 0) (k ([],b)) (Å (I6 a) fun c=>k (c,(0:Int)))
def Zt (a:bl):CK (py):=adE a some
def E9 (a:a7) (y:b5) (b:a7->CK ρ):CK ρ :=
  à (ã ((List.length a)+(List.length ([y])))) (b (a++([y])))
def XG (a:bl) (k:a7->CK ρ):CK ρ :=
  Å (nV a.2) fun c=>By (fun(d:a7) (e:b5) f=>E9 d e (fun g=>f g)) c ([]) (fun b=>Å (ķ b (Õ b) a) fun h=>k h.1)
def uJ (a:bl):CK (a7):=XG a some
def lC (c:a7) (d:Int) (e:Int) (f:Int) (g:fx) (h:bx) (i:fy) (j:c7) (k:bx) (l:c9) (a:Int) (m:Int->CK ρ) (n:rd->CK ρ) (o:Unit->CK ρ):CK ρ :=
  ifb (ilt a d) (ç c a fun b=>Å (Ω (((e,f),g,h,i,j,k),l) b) fun p=>ifb p (n (b,true)) (ck (a+(1:Int)) fun q=>m q)) (o ())
def xx (a:bl) (k:rd->CK ρ):CK ρ :=
  Å (uJ a) fun b=>Ë (fun(d:Int) e=>lC b (Õ b) a.1.1.1 a.1.1.2 a.1.2.1 a.1.2.2.1 a.1.2.2.2.1 a.1.2.2.2.2.1 a.1.2.2.2.2.2 a.2 d (fun f=>e f) (fun c=>k (c.1,c.2)) (fun _=>k ([],false))) (0:Int)
def ă (a:bl):CK (rd):=xx a some
def PN (a:bl) (k:Val bi->CK ρ):CK ρ :=
  Å (iS a) fun b=>ifb (ine b 0) (k ([],b)) (Å (ă a) fun c=>ifb (!c.2) (k ([],(5:Int))) (k (c.1,(0:Int))))
def Ja (a:bl):CK ((Val bi)):=PN a some
def lG (b:an) (c:an) (a:Int) (d:Int->CK ρ) (e:Bool->CK ρ) (f:Unit->CK ρ):CK ρ :=
  ifb (ilt a (Õ b)) (ç b a fun g=>ç c a fun h=>ifb (ine g h) (e false) (ck (a+(1:Int)) fun i=>d i)) (f ())
def xO (a:an) (b:an) (k:Bool->CK ρ):CK ρ :=
  ifb (ine (Õ a) (Õ b)) (k false) (Ë (fun(c:Int) d=>lG a b c (fun e=>d e) (fun f=>k f) (fun _=>k true)) (0:Int))
def ū (a:an) (b:an):CK (Bool):=xO a b some
def mJ (b:b5) (c:b5) (a:Int) (d:Int->CK ρ) (e:Bool->CK ρ) (f:Unit->CK ρ):CK ρ :=
  ifb (ilt a (Õ b)) (ç b a fun g=>ç c a fun h=>Å (ū g h) fun i=>ifb (!i) (e false) (ck (a+(1:Int)) fun j=>d j)) (f ())
def AC (a:b5) (b:b5) (k:Bool->CK ρ):CK ρ :=
  ifb (ine (Õ a) (Õ b)) (k false) (Ë (fun(c:Int) d=>mJ a b c (fun e=>d e) (fun f=>k f) (fun _=>k true)) (0:Int))
def pl (a:b5) (b:b5):CK (Bool):=AC a b some
def tq (b:fx) (c:Int) (d:Int) (a:Int) (e:Int->CK ρ) (f:Int->CK ρ) (g:Unit->CK ρ):CK ρ :=
  ifb (ilt a c) (ç b a fun h=>ifb (ieq h.1 d) (f a) (ck (a+(1:Int)) fun i=>e i)) (g ())
def Po (a:bl) (c:Int) (b:Int) (k:Int->CK ρ):CK ρ :=
  ifb (ilt b 0) (k (1:Int)) (ifb (igt b 20000) (k (1:Int)) (Ë (fun(d:Int) e=>tq a.1.2.1 (Õ a.1.2.1) c d (fun f=>e f) (fun g=>ifb (!(ige g 0)) (k (5:Int)) (k (0:Int))) (fun _=>k (5:Int))) (0:Int)))
def sj (a:bl) (b:Int) (c:Int):CK (Int):=Po a b c some
def Lc (a:an) (b:an) (k:xl->CK ρ):CK ρ :=
  Å (nY a) fun c=>ifb (!c) (k ([],[],(1:Int))) (Å (nY b) fun d=>ifb (!d) (k ([],[],(1:Int))) (Å (ε a b) fun e=>Å (ε b a) fun f=>k (e,f,(0:Int))))
def qR (a:an) (b:an):CK (xl):=Lc a b some
def lD (g:Int) (b:Int) (c:c7) (a:Int) (d:Int->CK ρ) (h:Int->CK ρ) (i:Unit->CK ρ):CK ρ :=
  ifb (ilt a g) (à ((ile 0 a)&&(ilt a (ï c))) (Ĵ c (Int.toNat a) fun e=>Å (qR e.2.2.1 e.2.2.2.1) fun f=>Å (å f.1 b) fun j=>ifb j (ck (a+(1:Int)) fun k=>d k) (Å (å f.2.1 b) fun l=>ifb (!l) (h a) (ck (a+(1:Int)) fun m=>d m)))) (i ())
def Ε (f:Int) (a:Int) (c:Int) (b:c7) (e:Int->Int->c7->CK ρ) (h:Val bc->CK ρ):CK ρ :=
  ifb (ilt c (Õ b)) (à ((ile 0 c)&&(ilt c (ï b))) (Ĵ b (Int.toNat c) fun d=>Å (qR d.2.2.1 d.2.2.2.1) fun g=>Å (å g.1 f) fun i=>ifb i (à ((ile 0 a)&&(ilt a (ï b))) (Ĵ b (Int.toNat a) fun p=>ck (a+(1:Int)) fun j=>ck (c+(1:Int)) fun k=>e j k (List.set b (Int.toNat a) d))) (Å (å g.2.1 f) fun l=>ifb (!(!l)) (à ((ile 0 a)&&(ilt a (ï b))) (Ĵ b (Int.toNat a) fun q=>ck (a+(1:Int)) fun m=>ck (c+(1:Int)) fun n=>e m n (List.set b (Int.toNat a) d))) (ck (c+(1:Int)) fun o=>e a o b)))) (h (a,b))
def xy (b:bl) (c:Int) (k:Val bm->CK ρ):CK ρ :=
  Å (iS b) fun f=>ifb (ine f 0) (k (false,f)) (Å (sj b c (0:Int)) fun g=>ifb (ine g 0) (k (false,g)) (à (ã (List.length b.1.2.2.2.2.1)) (Ë (fun(h:Int) i=>lD (Õ b.1.2.2.2.2.1) c b.1.2.2.2.2.1 h (fun j=>i j) (fun d=>ifb (ieq d (-1:Int)) (Å (ă b) fun l=>k ((!l.2),(0:Int))) (ck (d+(1:Int)) fun m=>Ë (fun(e:At) n=>Ε c e.1 e.2.1 e.2.2 (fun o p q=>n (o,p,q)) (fun a=>à ((ile 0 a.1)&&(ile a.1 (ï a.2))) (à ((ile 0 a.1)&&(ile a.1 (ï (List.take (Int.toNat a.1) a.2++List.replicate (List.length a.2-(Int.toNat a.1)) ((0:Int),(0:Int),[],[],(0:Int),(0:Int),(0:Int),(0:Int))++List.drop ((Int.toNat a.1)+(List.length a.2-(Int.toNat a.1))) a.2)))) (Å (ă ((b.1.1,b.1.2.1,b.1.2.2.1,b.1.2.2.2.1,(List.take (Int.toNat a.1) (List.drop 0 (List.take (Int.toNat a.1) a.2++List.replicate (List.length a.2-(Int.toNat a.1)) ((0:Int),(0:Int),[],[],(0:Int),(0:Int),(0:Int),(0:Int))++List.drop ((Int.toNat a.1)+(List.length a.2-(Int.toNat a.1))) a.2))),b.1.2.2.2.2.2),b.2)) fun r=>k ((!r.2),(0:Int)))))) (d,m,b.1.2.2.2.2.1))) (fun _=>Å (ă b) fun s=>k ((!s.2),(0:Int)))) (0:Int))))
def qw (a:bl) (b:Int):CK ((Val bm)):=xy a b some
def xv (c:Int) (d:an) (b:c7) (a:Int) (e:Int->CK ρ) (f:Int->CK ρ) (g:Unit->CK ρ):CK ρ :=
  ifb (ilt a c) (à ((ile 0 a)&&(ilt a (ï b))) (Ĵ b (Int.toNat a) fun h=>Å (å d h.1) fun i=>ifb (!i) (f a) (ck (a+(1:Int)) fun j=>e j))) (g ())
def nE (f:an) (b:Int) (c:Int) (a:c7) (d:Int->Int->c7->CK ρ) (g:Val bc->CK ρ):CK ρ :=
  ifb (ilt c (Õ a)) (à ((ile 0 c)&&(ilt c (ï a))) (Ĵ a (Int.toNat c) fun e=>Å (å f e.1) fun h=>ifb (!(!h)) (à ((ile 0 b)&&(ilt b (ï a))) (Ĵ a (Int.toNat b) fun l=>ck (b+(1:Int)) fun i=>ck (c+(1:Int)) fun j=>d i j (List.set a (Int.toNat b) e))) (ck (c+(1:Int)) fun k=>d b k a))) (g (b,a))
def XH (b:bl) (e:an) (k:bl->CK ρ):CK ρ :=
  à (ã (List.length b.1.2.2.2.2.1)) (Ë (fun(f:Int) g=>xv (Õ b.1.2.2.2.2.1) e b.1.2.2.2.2.1 f (fun h=>g h) (fun c=>ifb (ieq c (-1:Int)) (k b) (ck (c+(1:Int)) fun i=>Ë (fun(d:At) j=>nE e d.1 d.2.1 d.2.2 (fun l m n=>j (l,m,n)) (fun a=>à ((ile 0 a.1)&&(ile a.1 (ï a.2))) (à ((ile 0 a.1)&&(ile a.1 (ï (List.take (Int.toNat a.1) a.2++List.replicate (List.length a.2-(Int.toNat a.1)) ((0:Int),(0:Int),[],[],(0:Int),(0:Int),(0:Int),(0:Int))++List.drop ((Int.toNat a.1)+(List.length a.2-(Int.toNat a.1))) a.2)))) (k ((b.1.1,b.1.2.1,b.1.2.2.1,b.1.2.2.2.1,(List.take (Int.toNat a.1) (List.drop 0 (List.take (Int.toNat a.1) a.2++List.replicate (List.length a.2-(Int.toNat a.1)) ((0:Int),(0:Int),[],[],(0:Int),(0:Int),(0:Int),(0:Int))++List.drop ((Int.toNat a.1)+(List.length a.2-(Int.toNat a.1))) a.2))),b.1.2.2.2.2.2),b.2))))) (c,i,b.1.2.2.2.2.1))) (fun _=>k b)) (0:Int))
def Cp (a:bl) (b:an):CK bl:=XH a b some
def xA (d:c7) (e:Int) (a:Int) (b:an) (f:Int->an->CK ρ) (g:an->CK ρ):CK ρ :=
  ifb (ilt a e) (ç d a fun c=>à (ã ((List.length b)+(List.length ([c.1])))) (ck (a+(1:Int)) fun h=>f h (b++([c.1])))) (g b)
def rl (f:Int) (g:Int) (h:fx) (i:bx) (j:fy) (k:c7) (l:bx) (m:c9) (b:an) (a:Int) (d:an->Int->CK ρ) (n:an->CK ρ):CK ρ :=
  ifb (ige a 0) (à ((ile 0 a)&&(ile a (ï b))) (ck (a+(1:Int)) fun c=>à ((ile 0 c)&&(ile c (ï b))) (Å (ĩ ([(List.take (Int.toNat a) b),(List.drop (Int.toNat c) b)])) fun e=>Å (Cp (((f,g),h,i,j,k,l),m) e) fun o=>Å (ă o) fun p=>ifb (!p.2) (ck (a-(1:Int)) fun q=>d e q) (ck (a-(1:Int)) fun r=>d b r)))) (n b)
def XU (a:bl) (k:ly->CK ρ):CK ρ :=
  Å (iS a) fun b=>ifb (ine b 0) (k ([],b)) (Å (ă a) fun f=>ifb f.2 (k ([],(5:Int))) (Ë (fun(c:f4) g=>xA a.1.2.2.2.2.1 (Õ a.1.2.2.2.2.1) c.1 c.2 (fun h i=>g (h,i)) (fun d=>ck ((Õ d)-(1:Int)) fun j=>Ë (fun(e:ly) l=>rl a.1.1.1 a.1.1.2 a.1.2.1 a.1.2.2.1 a.1.2.2.2.1 a.1.2.2.2.2.1 a.1.2.2.2.2.2 a.2 e.1 e.2 (fun m n=>l (m,n)) (fun o=>k (o,(0:Int)))) (d,j))) ((0:Int),[])))
def N8 (a:bl):CK (ly):=XU a some
def p8 (e:Int) (f:an) (g:Int) (a:Int) (b:an) (c:Int->an->CK ρ) (h:an->CK ρ):CK ρ :=
  ifb (ilt a g) (ç f a fun d=>à (ile 0 a) (ifb (ieq (andI .i64 (i7 .i64 e a) (1:Int)) 1) (à (ã ((List.length b)+(List.length ([d])))) (ck (a+(1:Int)) fun i=>c i (b++([d])))) (ck (a+(1:Int)) fun j=>c j b))) (h b)
def Kj (a:an) (c:Int) (k:an->CK ρ):CK ρ :=
  Ë (fun(b:f4) d=>p8 c a (Õ a) b.1 b.2 (fun e f=>d (e,f)) (fun g=>k g)) ((0:Int),[])
def jt (a:an) (b:Int):CK (an):=Kj a b some
def mC (b:c7) (c:Int) (d:Int) (a:Int) (e:Int->CK ρ) (f:Int->CK ρ) (g:Unit->CK ρ):CK ρ :=
  ifb (ilt a c) (ç b a fun h=>ifb (ieq h.1 d) (f a) (ck (a+(1:Int)) fun i=>e i)) (g ())
def iI (d:an) (e:Int) (b:c7) (a:Int) (f:Int->CK ρ) (c:Int->CK ρ) (g:Unit->CK ρ):CK ρ :=
  ifb (ilt a e) (ç d a fun h=>Ë (fun(i:Int) j=>mC b (Õ b) h i (fun k=>j k) (fun l=>ifb (!(ige l 0)) (c (5:Int)) (ck (a+(1:Int)) fun m=>f m)) (fun _=>c (5:Int))) (0:Int)) (g ())
def jK (b:an) (a:Int) (c:Int->CK ρ) (d:Int->CK ρ) (e:Unit->CK ρ):CK ρ :=
  ifb (ilt a (Õ b)) (ç b a fun f=>ck (a-(1:Int)) fun g=>ç b g fun h=>ifb (ile f h) (d (6:Int)) (ck (a+(1:Int)) fun i=>c i)) (e ())
def jJ (c:a7) (d:Int) (e:Int) (f:Int) (g:fx) (h:bx) (i:fy) (j:c7) (k:bx) (l:c9) (m:an) (n:Int) (a:Int) (o:Int->CK ρ) (p:rd->CK ρ) (q:Unit->CK ρ):CK ρ :=
  ifb (ilt a d) (ç c a fun b=>Å (jt m n) fun r=>Å (Cp (((e,f),g,h,i,j,k),l) r) fun s=>Å (Ω s b) fun t=>ifb (!(!t)) (p (b,true)) (ck (a+(1:Int)) fun u=>o u)) (q ())
def Ŷ (b:an) (e:an) (f:Int) (a:Int) (g:Int->CK ρ) (c:Int->CK ρ) (h:Unit->CK ρ):CK ρ :=
  ifb (ilt a f) (ç e a fun i=>ifb (ige a (Õ b)) (c (1:Int)) (ç b a fun j=>Å (iU i j) fun d=>ifb (ine d 0) (c d) (ck (a+(1:Int)) fun k=>g k))) (h ())
def ŗ (c:Int) (d:Int) (b:an) (a:Int) (e:Int->CK ρ) (f:Unit->CK ρ) (g:Unit->CK ρ):CK ρ :=
  ifb (ilt a d) (à ((ile 0 a)&&(ilt a (ï b))) (Ĵ b (Int.toNat a) fun h=>ifb (ieq (LG .i64 c h) 0) (f ()) (ck (a+(1:Int)) fun i=>e i))) (g ())
def Ŗ (b:Int) (d:a7) (e:Int) (f:an) (g:Int) (h:Int) (i:fx) (j:bx) (k:fy) (l:c7) (m:bx) (n:c9) (c:Int) (a:an) (o:Int->an->CK ρ) (p:an->CK ρ) (q:an->CK ρ):CK ρ :=
  ifb (ilt c e) (ç d c fun r=>Å (jt f b) fun s=>Å (Cp (((g,h),i,j,k,l,m),n) s) fun t=>Å (Ω t r) fun u=>ifb (!(!u)) (à (ã ((List.length a)+(List.length ([b])))) (p (a++([b])))) (ck (c+(1:Int)) fun v=>o v a)) (q a)
def ŷ (g:a7) (t:Int) (h:an) (i:Int) (j:Int) (k:fx) (l:bx) (m:fy) (n:c7) (o:bx) (p:c9) (c:an) (e:Int) (a:Int) (b:an) (d:an->Int->Int->an->CK ρ) (u:f4->CK ρ):CK ρ :=
  ifb (ilt a t) (Å (jt h a) fun f=>ifb (igt (Õ f) (Õ c)) (ck (a+(1:Int)) fun v=>d c e v b) (ifb (ieq (Õ f) (Õ c)) (Ë (fun(w:Int) x=>Ŷ c f (Õ f) w (fun y=>x y) (fun z=>ifb (ige z 0) (ck (a+(1:Int)) fun A=>d c e A b) (Ë (fun(B:Int) C=>ŗ a (Õ b) b B (fun D=>C D) (fun _=>ck (a+(1:Int)) fun E=>d c e E b) (fun _=>Ë (fun(q:f4) F=>Ŗ a g (Õ g) h i j k l m n o p q.1 q.2 (fun G H=>F (G,H)) (fun I=>ck (a+(1:Int)) fun J=>d c e J I) (fun K=>ck (a+(1:Int)) fun L=>d f a L K)) ((0:Int),b))) (0:Int))) (fun _=>ifb (ilt (Õ f) (Õ c)) (Ë (fun(M:Int) N=>ŗ a (Õ b) b M (fun O=>N O) (fun _=>ck (a+(1:Int)) fun P=>d c e P b) (fun _=>Ë (fun(r:f4) Q=>Ŗ a g (Õ g) h i j k l m n o p r.1 r.2 (fun R S=>Q (R,S)) (fun T=>ck (a+(1:Int)) fun U=>d c e U T) (fun V=>ck (a+(1:Int)) fun W=>d f a W V)) ((0:Int),b))) (0:Int)) (ck (a+(1:Int)) fun X=>d c e X b))) (0:Int)) (Ë (fun(Y:Int) Z=>ŗ a (Õ b) b Y (fun df=>Z df) (fun _=>ck (a+(1:Int)) fun dg=>d c e dg b) (fun _=>Ë (fun(s:f4) dh=>Ŗ a g (Õ g) h i j k l m n o p s.1 s.2 (fun di dj=>dh (di,dj)) (fun dk=>ck (a+(1:Int)) fun dl=>d c e dl dk) (fun dm=>ck (a+(1:Int)) fun dp=>d f a dp dm)) ((0:Int),b))) (0:Int)))) (u (e,b))
def Au (a:bl) (b:an) (k:ly->CK ρ):CK ρ :=
  Å (iS a) fun g=>ifb (ine g 0) (k ([],g)) (ifb (igt (Õ b) 8) (k ([],(2:Int))) (Ë (fun(h:Int) i=>iI b (Õ b) a.1.2.2.2.2.1 h (fun j=>i j) (fun l=>k ([],l)) (fun _=>Ë (fun(m:Int) n=>jK b m (fun o=>n o) (fun p=>k ([],p)) (fun _=>Å (uJ a) fun d=>à (ile 0 (Õ b)) (ck ((shlI .i64 (1:Int) (Õ b))-(1:Int)) fun c=>Ë (fun(q:Int) r=>jJ d (Õ d) a.1.1.1 a.1.1.2 a.1.2.1 a.1.2.2.1 a.1.2.2.2.1 a.1.2.2.2.2.1 a.1.2.2.2.2.2 a.2 b c q (fun s=>r s) (fun t=>ifb t.2 (k ([],(5:Int))) (Ë (fun(e:(Val (.pair ab bh))) u=>ŷ d c b a.1.1.1 a.1.1.2 a.1.2.1 a.1.2.2.1 a.1.2.2.2.1 a.1.2.2.2.2.1 a.1.2.2.2.2.2 a.2 e.1 e.2.1 e.2.2.1 e.2.2.2 (fun v w x y=>u (v,w,x,y)) (fun z=>Å (jt b z.1) fun A=>k (A,(0:Int)))) (b,c,(0:Int),[]))) (fun _=>Ë (fun(f:(Val (.pair ab bh))) B=>ŷ d c b a.1.1.1 a.1.1.2 a.1.2.1 a.1.2.2.1 a.1.2.2.2.1 a.1.2.2.2.2.1 a.1.2.2.2.2.2 a.2 f.1 f.2.1 f.2.2.1 f.2.2.2 (fun C D E F=>B (C,D,E,F)) (fun G=>Å (jt b G.1) fun H=>k (H,(0:Int)))) (b,c,(0:Int),[]))) (0:Int)))) (1:Int))) (0:Int)))
def uK (a:bl) (b:an):CK (ly):=Au a b some
def XO (a:bl) (k:py->CK ρ):CK ρ :=
  Å (iS a) fun b=>ifb (ine b 0) (k ([],b)) (Å (uJ a) fun c=>k (c,(0:Int)))
def I8 (a:bl):CK (py):=XO a some
def Rv (a:b6) (d:a8) (k:a8->CK ρ):CK ρ :=
  Å (η a) fun b=>ifb (ine b 0) (k ((0:Int),b)) (Å (sq a) fun e=>Å (ø e d) fun c=>ifb (ilt c 0) (k ((0:Int),(5:Int))) (ck (c+(1:Int)) fun f=>k (f,(0:Int))))
def sr (a:b6) (b:a8):CK a8:=Rv a b some
def yn (f:Int) (a:Int) (c:c7) (g:Int->c7->CK ρ) (h:c7->CK ρ):CK ρ :=
  ifb (ilt a f) (à ((ile 0 a)&&(ilt a (ï c))) (Ĵ c (Int.toNat a) fun d=>à (ã (List.length d.2.2.1)) (à (ã (List.length d.2.2.2.1)) (à ((ile 0 a)&&(ilt a (ï c))) (Ĵ c (Int.toNat a) fun b=>à ((ile 0 a)&&(ilt a (ï (List.set c (Int.toNat a) (b.1,b.2.1,d.2.2.1,b.2.2.2))))) (Ĵ (List.set c (Int.toNat a) (b.1,b.2.1,d.2.2.1,b.2.2.2)) (Int.toNat a) fun e=>ck (a+(1:Int)) fun i=>g i (List.set (List.set c (Int.toNat a) (b.1,b.2.1,d.2.2.1,b.2.2.2)) (Int.toNat a) (e.1,e.2.1,e.2.2.1,d.2.2.2.1,e.2.2.2.2)))))))) (h c)
def Y5 (a:b6) (b:a8) (k:BE->CK ρ):CK ρ :=
  Å (η a) fun c=>ifb (ine c 0) (k ((((0:Int),(0:Int)),[],[],[],[],[]),c)) (à (ã (List.length a.2.1)) (à (ã (List.length a.2.2.1)) (à (ã (List.length a.2.2.2.1)) (à (ã (List.length a.2.2.2.2.2)) (à (ã (List.length a.2.2.2.2.1)) (Ë (fun(d:Val bc) g=>yn (Õ a.2.2.2.2.1) d.1 d.2 (fun h i=>g (h,i)) (fun e=>à (ã ((List.length a.2.2.2.2.2)+(List.length ([b])))) (Å (η (a.1,a.2.1,a.2.2.1,a.2.2.2.1,e,(a.2.2.2.2.2++([b])))) fun f=>ifb (ine f 0) (k ((((0:Int),(0:Int)),[],[],[],[],[]),f)) (k ((a.1,a.2.1,a.2.2.1,a.2.2.2.1,e,(a.2.2.2.2.2++([b]))),(0:Int)))))) ((0:Int),a.2.2.2.2.1)))))))
def Og (a:b6) (b:a8):CK (BE):=Y5 a b some
def un (b:an) (c:Int) (d:Int) (e:hO) (a:Int) (f:Int->CK ρ) (g:Int->CK ρ) (h:Unit->CK ρ):CK ρ :=
  ifb (ilt a c) (ç b a fun i=>Å (CD (d,e) i) fun j=>ifb (!j) (g (1:Int)) (ck (a+(1:Int)) fun k=>f k)) (h ())
def QU (a:io) (b:an) (k:Int->CK ρ):CK ρ :=
  Å (sm a) fun c=>ifb (ine c.1 0) (k c.1) (Ë (fun(d:Int) e=>un b (Õ b) a.1 a.2 d (fun f=>e f) (fun g=>k g) (fun _=>Å (me a ([])) fun h=>ifb (!h.2) (k (9:Int)) (k (0:Int)))) (0:Int))
def Jk (a:io) (b:an):CK (Int):=QU a b some
def qr (c:Int) (a:Int) (b:an) (d:Int->an->CK ρ) (e:an->CK ρ):CK ρ :=
  ifb (ilt a c) (à ((ile 0 a)&&(ilt a (ï b))) (Ĵ b (Int.toNat a) fun g=>ck (a+(1:Int)) fun f=>d f (List.set b (Int.toNat a) (1152921504606846976:Int)))) (e b)
def xV (c:hO) (d:Int) (b:Int) (a:Int) (e:Int->Int->CK ρ) (f:Int->CK ρ):CK ρ :=
  ifb (ilt a d) (ç c a fun g=>ck (b+(ad3 g.2.2 (0:Int))) fun h=>ck (a+(1:Int)) fun i=>e h i) (f b)
def xU (f:Int) (d:an) (a:Int) (b:v6) (c:an) (e:Int->v6->an->CK ρ) (g:Val aW->CK ρ):CK ρ :=
  ifb (ilt a f) (à ((ile 0 a)&&(ilt a (ï d))) (Ĵ d (Int.toNat a) fun h=>ifb (ine h 1152921504606846976) (à (ã ((List.length c)+(List.length ([a])))) (à ((ile 0 a)&&(ilt a (ï b))) (Ĵ b (Int.toNat a) fun k=>ck (a+(1:Int)) fun i=>e i (List.set b (Int.toNat a) true) (c++([a]))))) (ck (a+(1:Int)) fun j=>e j b c))) (g (b,c))
def H6 (m:Val ar) (j:Int) (d:Int) (n:hO) (o:Int) (f:Int) (b:an) (c:v6) (e:an) (g:Int->an->v6->an->CK ρ) (l:(Val (.pair .bool (.pair ab aW)))->CK ρ) (p:(Val (.pair ab aW))->CK ρ):CK ρ :=
  ifb (ilt f o) (ç n f fun a=>ifb (ine a.1 d) (ck (f+(1:Int)) fun q=>g q b c e) (N1 (k:=tI) (v:=.bool) f m (fun r=>ifb r (ck (f+(1:Int)) fun s=>g s b c e) (à ((ile 0 d)&&(ilt d (ï b))) (Ĵ b (Int.toNat d) fun t=>ck (t+a.2.2) fun u=>à ((ile 0 a.2.1)&&(ilt a.2.1 (ï b))) (Ĵ b (Int.toNat a.2.1) fun w=>ifb (ige u w) (ck (f+(1:Int)) fun x=>g x b c e) (à ((ile 0 d)&&(ilt d (ï b))) (Ĵ b (Int.toNat d) fun y=>ck (y+a.2.2) fun h=>à ((ile 0 a.2.1)&&(ilt a.2.1 (ï b))) (Ĵ b (Int.toNat a.2.1) fun M=>à ((ile 0 a.2.1)&&(ilt a.2.1 (ï (List.set b (Int.toNat a.2.1) h)))) (Ĵ (List.set b (Int.toNat a.2.1) h) (Int.toNat a.2.1) fun z=>ifb (ilt z j) (l (false,(List.set b (Int.toNat a.2.1) h),c,e)) (à ((ile 0 a.2.1)&&(ilt a.2.1 (ï c))) (Ĵ c (Int.toNat a.2.1) fun A=>ifb (!A) (à (ã ((List.length e)+(List.length ([a.2.1])))) (à ((ile 0 a.2.1)&&(ilt a.2.1 (ï c))) (Ĵ c (Int.toNat a.2.1) fun N=>ck (f+(1:Int)) fun B=>g B (List.set b (Int.toNat a.2.1) h) (List.set c (Int.toNat a.2.1) true) (e++([a.2.1]))))) (ck (f+(1:Int)) fun C=>g C (List.set b (Int.toNat a.2.1) h) c e))))))))))) (à ((ile 0 d)&&(ilt d (ï b))) (Ĵ b (Int.toNat d) fun D=>ck (D+a.2.2) fun E=>à ((ile 0 a.2.1)&&(ilt a.2.1 (ï b))) (Ĵ b (Int.toNat a.2.1) fun F=>ifb (ige E F) (ck (f+(1:Int)) fun G=>g G b c e) (à ((ile 0 d)&&(ilt d (ï b))) (Ĵ b (Int.toNat d) fun H=>ck (H+a.2.2) fun i=>à ((ile 0 a.2.1)&&(ilt a.2.1 (ï b))) (Ĵ b (Int.toNat a.2.1) fun O=>à ((ile 0 a.2.1)&&(ilt a.2.1 (ï (List.set b (Int.toNat a.2.1) i)))) (Ĵ (List.set b (Int.toNat a.2.1) i) (Int.toNat a.2.1) fun I=>ifb (ilt I j) (l (false,(List.set b (Int.toNat a.2.1) i),c,e)) (à ((ile 0 a.2.1)&&(ilt a.2.1 (ï c))) (Ĵ c (Int.toNat a.2.1) fun J=>ifb (!J) (à (ã ((List.length e)+(List.length ([a.2.1])))) (à ((ile 0 a.2.1)&&(ilt a.2.1 (ï c))) (Ĵ c (Int.toNat a.2.1) fun P=>ck (f+(1:Int)) fun K=>g K (List.set b (Int.toNat a.2.1) i) (List.set c (Int.toNat a.2.1) true) (e++([a.2.1]))))) (ck (f+(1:Int)) fun L=>g L (List.set b (Int.toNat a.2.1) i) c e)))))))))))) (p (b,c,e))
def xT (l:Val ar) (m:Int) (n:Int) (k:hO) (h:an) (d:v6) (b:an) (c:an) (o:an->v6->an->an->CK ρ) (i:(Val (.pair .bool bo))->CK ρ):CK ρ :=
  ifb (ieq (Õ c) 0) (i (true,h,d,b,c)) (à (ilt 0 (ï c)) (Ĵ c 0 fun a=>à (ile 1 (ï c)) (à (decide (1+(List.length c-1)=List.length c)) (à ((ile 0 a)&&(ilt a (ï d))) (Ĵ d (Int.toNat a) fun x=>à ((ile 0 a)&&(ilt a (ï b))) (Ĵ b (Int.toNat a) fun p=>ck (p+(1:Int)) fun e=>à ((ile 0 a)&&(ilt a (ï b))) (Ĵ b (Int.toNat a) fun y=>à ((ile 0 a)&&(ilt a (ï (List.set b (Int.toNat a) e)))) (Ĵ (List.set b (Int.toNat a) e) (Int.toNat a) fun q=>ck (n+(1:Int)) fun r=>ifb (igt q r) (i (false,h,(List.set d (Int.toNat a) false),(List.set b (Int.toNat a) e),(List.drop 1 c))) (Ë (fun(f:nj) s=>H6 l m a k (Õ k) f.1 f.2.1 f.2.2.1 f.2.2.2 (fun t u v w=>s (t,u,v,w)) (fun g=>i (g.1,g.2.1,g.2.2.1,(List.set b (Int.toNat a) e),g.2.2.2)) (fun j=>o j.1 j.2.1 (List.set b (Int.toNat a) e) j.2.2)) ((0:Int),h,(List.set d (Int.toNat a) false),(List.drop 1 c)))))))))))
def KX (a:io) (i:Val ar) (b:Int) (k:an->CK ρ):CK ρ :=
  à ((ile 0 a.1)&&(ã (Int.toNat a.1))) (Ë (fun(f:f4) j=>qr (Õ (List.replicate (Int.toNat a.1) (0:Int))) f.1 f.2 (fun l m=>j (l,m)) (fun c=>à ((ile 0 b)&&(ilt b (ï c))) (Ĵ c (Int.toNat b) fun B=>à ((ile 0 a.1)&&(ã (Int.toNat a.1))) (à ((ile 0 a.1)&&(ã (Int.toNat a.1))) (Ë (fun(g:a8) n=>xV a.2 (Õ a.2) g.1 g.2 (fun o p=>n (o,p)) (fun q=>Ë (fun(e:y8) r=>xU a.1 (List.set c (Int.toNat b) (0:Int)) e.1 e.2.1 e.2.2 (fun s t u=>r (s,t,u)) (fun h=>Ë (fun(d:Val bo) v=>xT i q a.1 a.2 d.1 d.2.1 d.2.2.1 d.2.2.2 (fun w x y z=>v (w,x,y,z)) (fun A=>k A.2.1)) ((List.set c (Int.toNat b) (0:Int)),h.1,(List.replicate (Int.toNat a.1) (0:Int)),h.2))) ((0:Int),(List.replicate (Int.toNat a.1) false),[]))) ((0:Int),(0:Int))))))) ((0:Int),(List.replicate (Int.toNat a.1) (0:Int))))
def wP (a:io) (b:Val ar) (c:Int):CK (an):=KX a b c some
def ur (c:Int) (d:Int) (e:hO) (a:Int) (b:an) (f:Int->an->CK ρ) (g:an->CK ρ):CK ρ :=
  ifb (ilt a c) (Å (wP (d,e) ([]) a) fun h=>ç h (0:Int) fun i=>à ((ile 0 a)&&(ilt a (ï b))) (Ĵ b (Int.toNat a) fun k=>ck (a+(1:Int)) fun j=>f j (List.set b (Int.toNat a) i))) (g b)
def uq (f:an) (g:Int) (c:an) (a:Int) (b:bx) (h:Int->bx->CK ρ) (i:bx->CK ρ):CK ρ :=
  ifb (ilt a g) (à ((ile 0 a)&&(ilt a (ï c))) (Ĵ c (Int.toNat a) fun j=>ck (0-j) fun d=>ç f a fun e=>à (ã ((List.length b)+(List.length ([(d,e)])))) (ck (a+(1:Int)) fun k=>h k (b++([(d,e)]))))) (i b)
def QX (a:io) (k:Val bq->CK ρ):CK ρ :=
  Å (Jk a ([])) fun b=>ifb (ine b 0) (k ([],b)) (Å (wP a ([]) (0:Int)) fun c=>à ((ile 0 a.1)&&(ã (Int.toNat a.1))) (Ë (fun(d:f4) f=>ur (Õ (List.replicate (Int.toNat a.1) (0:Int))) a.1 a.2 d.1 d.2 (fun g h=>f (g,h)) (fun i=>Ë (fun(e:pc) j=>uq c (Õ c) i e.1 e.2 (fun l m=>j (l,m)) (fun n=>k (n,(0:Int)))) ((0:Int),[]))) ((0:Int),(List.replicate (Int.toNat a.1) (0:Int)))))
def wQ (a:io):CK ((Val bq)):=QX a some
def Kh (a:b6) (b:a8) (k:js->CK ρ):CK ρ :=
  Å (sr a b) fun f=>ifb (ine f.2 0) (Å (Og a b) fun c=>ifb (ine c.2 0) (k (((0:Int),(0:Int)),c.2)) (Å (sr c.1 b) fun g=>Å (jw c.1) fun h=>Å (wQ h.1) fun d=>ifb (ine d.2 0) (k (((0:Int),(0:Int)),d.2)) (ç d.1 g.1 fun i=>k (i,(0:Int))))) (Å (sr a b) fun j=>Å (jw a) fun l=>Å (wQ l.1) fun e=>ifb (ine e.2 0) (k (((0:Int),(0:Int)),e.2)) (ç e.1 j.1 fun m=>k (m,(0:Int))))
def Cq (a:b6) (b:a8):CK js:=Kh a b some
def qd (r:Int) (e:Int) (s:a7) (t:Int) (f:Int) (g:Int) (h:fx) (i:bx) (j:fy) (l:c7) (m:bx) (n:c9) (c:Int) (a:Val aZ) (o:Int->Val aZ->CK ρ) (u:(Val (.pair tI aZ))->CK ρ) (w:Val aZ->CK ρ):CK ρ :=
  ifb (ilt c t) (ç s c fun p=>Å (si (((f,g),h,i,j,l,m),n) p r e) fun d=>Å (Χ (((f,g),h,i,j,l,m),n) p) fun x=>Å (Cq x (d,e)) fun b=>ifb (ine b.2 0) (u (b.2,a)) (N1 (k:=tI) (v:=Ã) d a (fun q=>ck (c+(1:Int)) fun y=>o y (Ta (k:=tI) (v:=Ã) d ((ad3 b.1.1 q.1),(UP b.1.2 q.2)) a)) (ck (c+(1:Int)) fun z=>o z (Ta (k:=tI) (v:=Ã) d b.1 a)))) (w a)
def p9 (f:fx) (g:Int) (h:Val aZ) (a:Int) (b:hO) (d:Int->hO->CK ρ) (i:hO->CK ρ):CK ρ :=
  ifb (ilt a g) (ç f a fun c=>N1 (k:=tI) (v:=Ã) c.1 h (fun e=>à (ã ((List.length b)+(List.length ([(c.1,e)])))) (ck (a+(1:Int)) fun j=>d j (b++([(c.1,e)])))) (ck (a+(1:Int)) fun l=>d l b)) (i b)
def Ko (a:bl) (c:Int) (d:Int) (k:(Val (.pair ak tI))->CK ρ):CK ρ :=
  Å (iS a) fun e=>ifb (ine e 0) (k ([],e)) (Å (sj a c d) fun f=>ifb (ine f 0) (k ([],f)) (Å (I6 a) fun b=>ifb (ieq (Õ b) 0) (k ([],(5:Int))) (Ë (fun(g:(Val (.pair tI aZ))) i=>qd c d b (Õ b) a.1.1.1 a.1.1.2 a.1.2.1 a.1.2.2.1 a.1.2.2.2.1 a.1.2.2.2.2.1 a.1.2.2.2.2.2 a.2 g.1 g.2 (fun j l=>i (j,l)) (fun m=>k ([],m.1)) (fun n=>Ë (fun(h:io) o=>p9 a.1.2.1 (Õ a.1.2.1) n h.1 h.2 (fun p q=>o (p,q)) (fun r=>k (r,(0:Int)))) ((0:Int),[]))) ((0:Int),[]))))
def Cs (a:bl) (b:Int) (c:Int):CK ((Val (.pair ak tI))):=Ko a b c some
def Ai (a:an) (y:Int) (b:an->CK ρ):CK ρ :=
  à (ã ((List.length a)+(List.length ([y])))) (b (a++([y])))
def tr (h:b5) (i:Int) (j:c9) (c:Int) (k:Int->CK ρ) (d:Bool->CK ρ) (l:Unit->CK ρ):CK ρ :=
  ifb (ilt c i) (ç h c fun e=>ç j c fun f=>ifb (ine (Õ e) (Õ f.2)) (d false) (Å (Ci e) fun m=>By (fun(n:an) (o:Int) p=>Ai n o (fun q=>p q)) m ([]) (fun g=>à (ã (List.length g)) (Å (I3 (zy g)) fun a=>Å (I3 f.2) fun b=>ifb (!((iW a.1 b.1)&&((iW a.2.1 b.2.1)&&((iW a.2.2.1 b.2.2.1)&&((iW a.2.2.2.1 b.2.2.2.1)&&((iW a.2.2.2.2 b.2.2.2.2)&&true)))))) (d false) (ck (c+(1:Int)) fun r=>k r))))) (l ())
def Pv (b:bl) (a:b5) (k:Bool->CK ρ):CK ρ :=
  ifb (ine (Õ a) (Õ b.2)) (k false) (Ë (fun(c:Int) d=>tr a (Õ a) b.2 c (fun e=>d e) (fun f=>k f) (fun _=>k true)) (0:Int))
def I4 (a:bl) (b:b5):CK (Bool):=Pv a b some
def PJ (a:bl) (c:b5) (k:Int->CK ρ):CK ρ :=
  Å (iS a) fun b=>ifb (ine b 0) (k b) (Å (I4 a c) fun d=>ifb (!d) (k (1:Int)) (k (0:Int)))
def sk (a:bl) (b:b5):CK (Int):=PJ a b some
def adC (a:bl) (b:b5) (c:Int) (d:Int) (k:a8->CK ρ):CK ρ :=
  Å (sk a b) fun e=>ifb (ine e 0) (k ((0:Int),e)) (Å (sj a c d) fun f=>ifb (ine f 0) (k ((0:Int),f)) (Å (si a b c d) fun g=>k (g,(0:Int))))
def Sc (a:bl) (b:b5) (c:Int) (d:Int):CK a8:=adC a b c d some
def Cc (c:Int) (a:Int) (b:an) (d:Int->an->CK ρ) (e:an->CK ρ):CK ρ :=
  ifb (ilt a c) (à ((ile 0 a)&&(ilt a (ï b))) (Ĵ b (Int.toNat a) fun g=>ck (a+(1:Int)) fun f=>d f (List.set b (Int.toNat a) (1152921504606846976:Int)))) (e b)
def YC (c:Int) (a:Int) (b:an) (d:Int->an->CK ρ) (e:an->CK ρ):CK ρ :=
  ifb (ilt a c) (à ((ile 0 a)&&(ilt a (ï b))) (Ĵ b (Int.toNat a) fun g=>ck (a+(1:Int)) fun f=>d f (List.set b (Int.toNat a) (1152921504606846976:Int)))) (e b)
def H5 (d:an) (f:hO) (g:Int) (c:Int) (b:an) (e:Int->an->CK ρ) (h:an->CK ρ):CK ρ :=
  ifb (ilt c g) (ç f c fun a=>ç d a.2.1 fun i=>ifb (ine i 1152921504606846976) (à ((ile 0 a.1)&&(ilt a.1 (ï b))) (Ĵ b (Int.toNat a.1) fun j=>ç d a.2.1 fun k=>ck (a.2.2+k) fun l=>à ((ile 0 a.1)&&(ilt a.1 (ï b))) (Ĵ b (Int.toNat a.1) fun o=>ck (c+(1:Int)) fun m=>e m (List.set b (Int.toNat a.1) (ad3 j l))))) (ck (c+(1:Int)) fun n=>e n b)) (h b)
def NX (i:Int) (b:Int) (d:hO) (e:Int) (a:b5) (j:Int->b5->CK ρ) (k:b5->CK ρ):CK ρ :=
  ifb (ilt e i) (ck ((Õ a)-(1:Int)) fun c=>à ((ile 0 c)&&(ilt c (ï a))) (Ĵ a (Int.toNat c) fun l=>à ((ile 0 b)&&(ã (Int.toNat b))) (Ë (fun(f:f4) m=>YC (Õ (List.replicate (Int.toNat b) (0:Int))) f.1 f.2 (fun n o=>m (n,o)) (fun p=>Ë (fun(g:f4) q=>H5 l d (Õ d) g.1 g.2 (fun r s=>q (r,s)) (fun h=>à (ã ((List.length a)+(List.length ([h])))) (ck (e+(1:Int)) fun t=>j t (a++([h]))))) ((0:Int),p))) ((0:Int),(List.replicate (Int.toNat b) (0:Int)))))) (k a)
def QR (a:io) (b:Int) (f:Int) (k:b5->CK ρ):CK ρ :=
  à ((ile 0 a.1)&&(ã (Int.toNat a.1))) (Ë (fun(d:f4) g=>Cc (Õ (List.replicate (Int.toNat a.1) (0:Int))) d.1 d.2 (fun h i=>g (h,i)) (fun c=>à ((ile 0 b)&&(ilt b (ï c))) (Ĵ c (Int.toNat b) fun o=>Ë (fun(e:px) j=>NX f a.1 a.2 e.1 e.2 (fun l m=>j (l,m)) (fun n=>k n)) ((0:Int),[(List.set c (Int.toNat b) (0:Int))])))) ((0:Int),(List.replicate (Int.toNat a.1) (0:Int))))
def Jj (a:io) (b:Int) (c:Int):CK (b5):=QR a b c some
def oX (d:Int) (c:Int) (e:hO) (a:Int) (b:a7) (f:Int->a7->CK ρ) (g:a7->CK ρ):CK ρ :=
  ifb (ilt a d) (Å (Jj (c,e) a c) fun h=>à ((ile 0 a)&&(ilt a (ï b))) (Ĵ b (Int.toNat a) fun j=>ck (a+(1:Int)) fun i=>f i (List.set b (Int.toNat a) h))) (g b)
def Mh (g:Int) (h:b5) (j:hO) (k:Int) (e:Int) (b:Int) (a:Int) (c:an) (f:Int->Int->Int->an->CK ρ) (i:Val bh->CK ρ):CK ρ :=
  ifb (ilt a k) (ç j a fun d=>ifb (ieq d.1 e) (ck (g-(1:Int)) fun l=>ç h l fun m=>ç m d.2.1 fun n=>ifb (ine n 1152921504606846976) (ck (b+d.2.2) fun o=>ck (g-(1:Int)) fun p=>ç h p fun q=>ç q d.2.1 fun r=>ck (o+r) fun s=>ifb (ilt s 0) (à (ã ((List.length c)+(List.length ([a])))) (ck (b+d.2.2) fun t=>i (d.2.1,t,(c++([a]))))) (ck (a+(1:Int)) fun u=>f e b u c)) (ck (a+(1:Int)) fun v=>f e b v c)) (ck (a+(1:Int)) fun w=>f e b w c)) (i (e,b,c))
def Bk (f:b5) (d:hO) (g:Int) (b:Int) (h:Int) (e:an) (i:Int->Int->Int->an->CK ρ) (j:an->CK ρ):CK ρ :=
  ifb (igt b 0) (Ë (fun(a:AN) k=>Mh b f d (Õ d) a.1 a.2.1 a.2.2.1 a.2.2.2 (fun l m n o=>k (l,m,n,o)) (fun c=>ck (b-(1:Int)) fun p=>i c.1 p c.2.1 c.2.2)) (g,h,(0:Int),e)) (j e)
def oW (e:Int) (h:hO) (i:Int) (j:Int) (k:hO) (b:a7) (c:Int) (f:Int->CK ρ) (l:Unit->CK ρ) (m:f4->CK ρ) (n:Unit->CK ρ):CK ρ :=
  ifb (ilt c i) (ç h c fun a=>à ((ile 0 a.1)&&(ilt a.1 (ï b))) (Ĵ b (Int.toNat a.1) fun o=>ck (e-(1:Int)) fun p=>ç o p fun q=>ç q a.2.1 fun g=>ifb (ieq g 1152921504606846976) (ck (c+(1:Int)) fun r=>f r) (ck (a.2.2+g) fun s=>ifb (ige s 0) (ck (c+(1:Int)) fun t=>f t) (ifb (igt e j) (l ()) (à ((ile 0 a.1)&&(ilt a.1 (ï b))) (Ĵ b (Int.toNat a.1) fun u=>Ë (fun(d:AN) v=>Bk u k d.1 d.2.1 d.2.2.1 d.2.2.2 (fun w x y z=>v (w,x,y,z)) (fun A=>m ((0:Int),A))) (a.1,e,(0:Int),[]))))))) (n ())
def ut (d:Int) (a:hO) (e:a7) (b:Int) (f:Int->CK ρ) (g:Unit->CK ρ) (h:f4->CK ρ):CK ρ :=
  Ë (fun(i:Int) j=>oW b a (Õ a) d a e i (fun k=>j k) (fun _=>g ()) (fun c=>h (c.1,c.2)) (fun _=>ck (b+(1:Int)) fun l=>f l)) (0:Int)
def H8 (a:io) (k:ly->CK ρ):CK ρ :=
  Å (sm a) fun b=>ifb (ine b.1 0) (k ([],b.1)) (Å (me a ([])) fun e=>ifb e.2 (k ([],(5:Int))) (à ((ile 0 a.1)&&(ã (Int.toNat a.1))) (Ë (fun(c:i4) f=>oX (Õ (List.replicate (Int.toNat a.1) ([]:b5))) a.1 a.2 c.1 c.2 (fun g h=>f (g,h)) (fun i=>Ë (fun(j:Int) l=>ut a.1 a.2 i j (fun m=>l m) (fun _=>k ([],(5:Int))) (fun d=>k (d.2,d.1))) (1:Int))) ((0:Int),(List.replicate (Int.toNat a.1) ([]:b5))))))
def pm (a:io):CK (ly):=H8 a some
def tF (d:a7) (e:Int) (f:Int) (g:Int) (h:fx) (i:bx) (j:fy) (k:c7) (l:bx) (m:c9) (b:Int) (a:b5) (n:Int->b5->CK ρ) (o:px->CK ρ) (p:b5->CK ρ):CK ρ :=
  ifb (ilt b e) (ç d b fun q=>Å (Χ (((f,g),h,i,j,k,l),m) q) fun r=>Å (jw r) fun s=>Å (pm s.1) fun c=>ifb (ine c.2 0) (o ((5:Int),a)) (à (ã ((List.length a)+(List.length ([c.1])))) (ck (b+(1:Int)) fun t=>n t (a++([c.1]))))) (p a)
def PL (a:bl) (k:Val bi->CK ρ):CK ρ :=
  Å (iS a) fun b=>ifb (ine b 0) (k ([],b)) (Å (uJ a) fun c=>Ë (fun(d:px) e=>tF c (Õ c) a.1.1.1 a.1.1.2 a.1.2.1 a.1.2.2.1 a.1.2.2.2.1 a.1.2.2.2.2.1 a.1.2.2.2.2.2 a.2 d.1 d.2 (fun f g=>e (f,g)) (fun h=>k ([],h.1)) (fun i=>k (i,(0:Int)))) ((0:Int),[]))
def I9 (a:bl):CK ((Val bi)):=PL a some
def om (d:an) (e:Int) (f:hO) (a:Int) (g:Int->CK ρ) (b:Int->CK ρ) (h:Unit->CK ρ):CK ρ :=
  ifb (ilt a e) (ç d a fun c=>ifb (ilt c 0) (b a) (ifb (ige c (Õ f)) (b a) (ck (a+(1:Int)) fun i=>g i))) (h ())
def FP (b:io) (a:an) (k:Int->CK ρ):CK ρ :=
  ifb (igt (Õ a) 80) (k (2:Int)) (Ë (fun(c:Int) d=>om a (Õ a) b.2 c (fun e=>d e) (fun f=>ifb (ige f 0) (k (1:Int)) (k (0:Int))) (fun _=>k (0:Int))) (0:Int))
def yC (a:io) (b:an):CK (Int):=FP a b some
def xR (e:an) (f:Int) (g:hO) (c:Int) (d:Int) (a:Int) (h:Int->Int->Int->CK ρ) (i:l7->CK ρ) (j:a8->CK ρ):CK ρ :=
  ifb (ilt a f) (ç e a fun k=>ç g k fun b=>ifb (ine b.1 c) (i ((0:Int),(0:Int),false)) (ck (d+b.2.2) fun l=>ck (a+(1:Int)) fun m=>h b.2.1 l m)) (j (c,d))
def YA (e:io) (f:Int) (c:an) (k:l7->CK ρ):CK ρ :=
  Ë (fun(a:rm) g=>xR c (Õ c) e.2 a.1 a.2.1 a.2.2 (fun h i j=>g (h,i,j)) (fun b=>k (b.1,b.2.1,b.2.2)) (fun d=>k (d.1,d.2,true))) (f,(0:Int),(0:Int))
def Oc (a:io) (b:Int) (c:an):CK (l7):=YA a b c some
def vg (a:io) (b:an) (k:Int->CK ρ):CK ρ :=
  Å (sm a) fun d=>ifb (ine d.1 0) (k d.1) (Å (yC a b) fun e=>ifb (ine e 0) (k e) (ifb (ieq (Õ b) 0) (k (8:Int)) (ç b (0:Int) fun g=>ç a.2 g fun f=>Å (Oc a f.1 b) fun c=>ifb (!c.2.2) (k (8:Int)) (ifb (ine c.1 f.1) (k (8:Int)) (ifb (ige c.2.1 0) (k (8:Int)) (k (0:Int)))))))
def ov (a:io) (b:an):CK (Int):=vg a b some
def kd (b:b5) (c:a7) (d:Int) (e:Int) (f:Int) (g:fx) (h:bx) (i:fy) (j:c7) (k:bx) (l:c9) (a:Int) (m:Int->CK ρ) (n:Int->CK ρ) (o:Unit->CK ρ):CK ρ :=
  ifb (ilt a d) (ç c a fun p=>Å (Χ (((e,f),g,h,i,j,k),l) p) fun q=>Å (jw q) fun r=>ç b a fun s=>Å (ov r.1 s) fun t=>ifb (ine t 0) (n (8:Int)) (ck (a+(1:Int)) fun u=>m u)) (o ())
def uW (a:bl) (c:b5) (k:Int->CK ρ):CK ρ :=
  Å (iS a) fun d=>ifb (ine d 0) (k d) (Å (uJ a) fun b=>ifb (ine (Õ c) (Õ b)) (k (8:Int)) (Ë (fun(e:Int) f=>kd c b (Õ b) a.1.1.1 a.1.1.2 a.1.2.1 a.1.2.2.1 a.1.2.2.2.1 a.1.2.2.2.2.1 a.1.2.2.2.2.2 a.2 e (fun g=>f g) (fun h=>k h) (fun _=>k (0:Int))) (0:Int)))
def kY (a:bl) (b:b5):CK (Int):=uW a b some
def LZ (a:c7) (k:bl->CK ρ):CK ρ :=
  à (ã ((List.length ([((7:Int),(10:Int),[(1:Int)],[(2:Int)],(-20:Int),(1:Int),(100:Int),(200:Int))]))+(List.length a))) (k ((((0:Int),(2:Int)),[((1:Int),(0:Int),(1000:Int),((-5:Int),(5:Int)),((1:Int),(10:Int)),(1:Int)),((2:Int),(0:Int),(1000:Int),((-50:Int),(50:Int)),((1:Int),(4:Int)),(0:Int)),((3:Int),(0:Int),(1100:Int),((-1:Int),(1:Int)),((0:Int),(1:Int)),(0:Int))],[((1:Int),(10:Int))],[((1:Int),((20:Int),(29:Int)),(3:Int))],(([((7:Int),(10:Int),[(1:Int)],[(2:Int)],(-20:Int),(1:Int),(100:Int),(200:Int))])++a),[]),[((12:Int),[(2:Int),(3:Int)])]))
def ŭ (a:c7):CK bl:=LZ a some
def E8 (k:Bool->CK ρ):CK ρ :=
  Å (ŭ ([])) fun m=>Å (I8 m) fun b=>Å (ŭ ([])) fun n=>Å (Zt n) fun f=>Å (ŭ ([((8:Int),(15:Int),[(2:Int)],[(1:Int)],(100:Int),(1:Int),(0:Int),(0:Int))])) fun o=>Å (Ja o) fun g=>Å (ŭ ([((8:Int),(15:Int),[(2:Int)],[(1:Int)],(100:Int),(1:Int),(0:Int),(0:Int))])) fun p=>Å (Cs p (2:Int) (15:Int)) fun c=>Å (ŭ ([((8:Int),(15:Int),[(2:Int)],[(1:Int)],(100:Int),(1:Int),(0:Int),(0:Int)),((9:Int),(15:Int),[(3:Int)],[],(1100:Int),(0:Int),(0:Int),(0:Int))])) fun a=>Å (N8 a) fun h=>Å (uK a ([(7:Int),(8:Int),(9:Int)])) fun i=>Å (qw a (2:Int)) fun j=>ifb (ine b.2 0) (k false) (ifb (ine f.2 0) (k false) (ifb (ine g.2 0) (k false) (ifb (ine c.2 0) (k false) (ifb (ine h.2 0) (k false) (ifb (ine i.2 0) (k false) (ifb (ine j.2 0) (k false) (ifb (ine (Õ b.1) 2) (k false) (ifb (ine (Õ f.1) 2) (k false) (ifb j.1 (k false) (Å (I9 a) fun d=>ç b.1 (1:Int) fun q=>Å (Sc a q (2:Int) (13:Int)) fun l=>ifb (ine d.2 0) (k false) (ifb (ine l.2 0) (k false) (ifb (ine l.1 3) (k false) (Å (kY a d.1) fun r=>ifb (ine r 0) (k false) (Å (ŭ ([])) fun s=>Å (kY s d.1) fun t=>ifb (ine t 8) (k false) (Å (pl g.1 ([[(3:Int),(2:Int)]])) fun u=>ifb u (ifb (ieq (Õ c.1) 1) (ç c.1 (0:Int) fun e=>ifb ((iW e.1 (3:Int))&&((iW e.2.1 (1099:Int))&&((iW e.2.2 (1101:Int))&&true))) (Å (ū h.1 ([(8:Int),(9:Int)])) fun v=>ifb v (Å (ū i.1 ([(8:Int),(9:Int)])) fun w=>k w) (k false)) (k false)) (k false)) (k false))))))))))))))))
def ľ:CK (Bool):=E8 some
def adI (a:Int) (b:Int) (c:Int) (k:Bool->CK ρ):CK ρ :=
  ifb (ige a b) (k (ile a c)) (k false)
def kP (a:Int) (b:Int) (c:Int):CK (Bool):=adI a b c some
def Yo (a:Int) (k:Bool->CK ρ):CK ρ :=
  Å (kP a (0:Int) (20000:Int)) fun b=>k b
def uL (a:Int):CK (Bool):=Yo a some
def xP (b:an) (c:Int) (a:Int) (d:Int->CK ρ) (e:Bool->CK ρ) (f:Unit->CK ρ):CK ρ :=
  ifb (ilt a (Õ b)) (ç b a fun g=>ifb (ieq g c) (e true) (ck (a+(1:Int)) fun h=>d h)) (f ())
def Ym (a:an) (b:Int) (k:Bool->CK ρ):CK ρ :=
  Ë (fun(c:Int) d=>xP a b c (fun e=>d e) (fun f=>k f) (fun _=>k false)) (0:Int)
def Oa (a:an) (b:Int):CK (Bool):=Ym a b some
def uj (c:an) (f:an) (a:Int) (b:an) (d:Int->an->CK ρ) (g:an->CK ρ):CK ρ :=
  ifb (ilt a (Õ c)) (ç c a fun h=>Å (Oa f h) fun i=>ifb (!i) (ç c a fun e=>à (ã ((List.length b)+(List.length ([e])))) (ck (a+(1:Int)) fun j=>d j (b++([e])))) (ck (a+(1:Int)) fun k=>d k b)) (g b)
def QA (b:an) (c:an) (k:an->CK ρ):CK ρ :=
  Ë (fun(a:f4) d=>uj b c a.1 a.2 (fun e f=>d (e,f)) (fun g=>k g)) ((0:Int),[])
def la (a:an) (b:an):CK (an):=QA a b some
def X8 (b:an) (c:an) (k:Int->CK ρ):CK ρ :=
  Å (la b c) fun a=>ifb (ieq (Õ a) 0) (k (0:Int)) (ç a (0:Int) fun d=>k d)
def qz (a:an) (b:an):CK (Int):=X8 a b some
def tV (g:Int) (c:c7) (d:Int) (b:Int) (e:Int->CK ρ) (f:Bool->CK ρ) (h:Unit->CK ρ):CK ρ :=
  ifb (ilt b (Õ c)) (ç c b fun a=>ifb (ieq a.2.1 g) (Å (qz a.2.2.1 a.2.2.2.1) fun i=>ifb (ieq i d) (f true) (Å (qz a.2.2.2.1 a.2.2.1) fun j=>ifb (ieq j d) (f true) (ck (b+(1:Int)) fun k=>e k))) (ck (b+(1:Int)) fun l=>e l)) (h ())
def oV (d:Int) (b:bx) (e:Int) (a:Int) (c:Int->CK ρ) (f:Bool->CK ρ) (g:Unit->CK ρ):CK ρ :=
  ifb (ilt a (Õ b)) (ç b a fun h=>ifb (ieq h.1 e) (ç b a fun i=>ifb (ieq i.2 d) (f true) (ck (a+(1:Int)) fun j=>c j)) (ck (a+(1:Int)) fun k=>c k)) (g ())
def Qg (c:b6) (a:nm) (b:Int) (k:Bool->CK ρ):CK ρ :=
  ifb (ieq a.2.1 b) (k true) (Ë (fun(d:Int) e=>tV b c.2.2.2.2.1 a.1 d (fun f=>e f) (fun g=>k g) (fun _=>Ë (fun(h:Int) i=>oV b c.2.2.2.2.2 a.1 h (fun j=>i j) (fun l=>k l) (fun _=>k false)) (0:Int))) (0:Int))
def Je (a:b6) (b:nm) (c:Int):CK (Bool):=Qg a b c some
def qn (c:fx) (a:Int) (b:an) (e:Int->an->CK ρ) (f:an->CK ρ):CK ρ :=
  ifb (ilt a (Õ c)) (ç c a fun d=>à (ã ((List.length b)+(List.length ([d.2.1])))) (ck (a+(1:Int)) fun g=>e g (b++([d.2.1])))) (f b)
def qm (c:c7) (a:Int) (b:an) (e:Int->an->CK ρ) (f:an->CK ρ):CK ρ :=
  ifb (ilt a (Õ c)) (ç c a fun d=>à (ã ((List.length b)+(List.length ([d.2.1])))) (ck (a+(1:Int)) fun g=>e g (b++([d.2.1])))) (f b)
def ql (c:bx) (a:Int) (b:an) (e:Int->an->CK ρ) (f:an->CK ρ):CK ρ :=
  ifb (ilt a (Õ c)) (ç c a fun d=>à (ã ((List.length b)+(List.length ([d.2])))) (ck (a+(1:Int)) fun g=>e g (b++([d.2])))) (f b)
def mL (e:Int) (b:an) (c:Int) (a:Int) (d:Int->Int->CK ρ) (f:Int->CK ρ):CK ρ :=
  ifb (ilt a (Õ b)) (à ((ile 0 a)&&(ilt a (ï b))) (Ĵ b (Int.toNat a) fun g=>ifb (igt g e) (à ((ile 0 a)&&(ilt a (ï b))) (Ĵ b (Int.toNat a) fun h=>ck (a+(1:Int)) fun i=>d (ad3 c h) i)) (ck (a+(1:Int)) fun j=>d c j))) (f c)
def mM (e:Int) (i:Int) (j:Int) (c:fx) (k:bx) (l:fy) (m:c7) (n:bx) (o:an) (f:Int) (b:bx) (d:Int->bx->CK ρ) (p:bx->CK ρ):CK ρ :=
  ifb (ilt f 20001) (Ë (fun(g:a8) q=>mL f o g.1 g.2 (fun r s=>q (r,s)) (fun a=>ifb (ilt a 20001) (ç c e fun t=>Å (Je ((i,j),c,k,l,m,n) t a) fun u=>ifb u (ç c e fun h=>à (ã ((List.length b)+(List.length ([(h.1,a)])))) (d a (b++([(h.1,a)])))) (d a b)) (d a b))) ((20001:Int),(0:Int))) (p b)
def qk (e:Int) (f:Int) (b:fx) (g:bx) (h:fy) (i:c7) (j:bx) (k:an) (a:Int) (c:bx) (l:Int->bx->CK ρ) (m:bx->CK ρ):CK ρ :=
  ifb (ilt a (Õ b)) (Ë (fun(d:pc) n=>mM a e f b g h i j k d.1 d.2 (fun o p=>n (o,p)) (fun q=>ck (a+(1:Int)) fun r=>l r q)) ((-1:Int),c)) (m c)
def KJ (a:b6) (k:bx->CK ρ):CK ρ :=
  Ë (fun(b:f4) f=>qn a.2.1 b.1 b.2 (fun g h=>f (g,h)) (fun i=>Ë (fun(c:f4) j=>qm a.2.2.2.2.1 c.1 c.2 (fun l m=>j (l,m)) (fun n=>Ë (fun(d:f4) o=>ql a.2.2.2.2.2 d.1 d.2 (fun p q=>o (p,q)) (fun r=>Ë (fun(e:pc) s=>qk a.1.1 a.1.2 a.2.1 a.2.2.1 a.2.2.2.1 a.2.2.2.2.1 a.2.2.2.2.2 r e.1 e.2 (fun t u=>s (t,u)) (fun v=>k v)) ((0:Int),[]))) ((0:Int),n))) ((0:Int),i))) ((0:Int),[])
def md (a:b6):CK (bx):=KJ a some
def qo (b:bx) (d:Int) (e:Int) (a:Int) (f:Int->CK ρ) (g:Int->CK ρ) (h:Unit->CK ρ):CK ρ :=
  ifb (ilt a (Õ b)) (ç b a fun c=>ifb ((iW c.1 d)&&((iW c.2 e)&&true)) (ck (a+(1:Int)) fun i=>g i) (ck (a+(1:Int)) fun j=>f j)) (h ())
def KK (b:b6) (a:a8) (k:Int->CK ρ):CK ρ :=
  Å (md b) fun c=>Ë (fun(d:Int) e=>qo c a.1 a.2 d (fun f=>e f) (fun g=>k g) (fun _=>k (0:Int))) (0:Int)
def kz (a:b6) (b:a8):CK (Int):=KK a b some
def uk (c:Int) (b:fx) (a:Int) (d:Int->CK ρ) (e:Int->CK ρ) (f:Unit->CK ρ):CK ρ :=
  ifb (ilt a (Õ b)) (ç b a fun g=>ifb (ieq g.1 c) (e a) (ck (a+(1:Int)) fun h=>d h)) (f ())
def QE (a:b6) (b:Int) (k:Int->CK ρ):CK ρ :=
  Ë (fun(c:Int) d=>uk b a.2.1 c (fun e=>d e) (fun f=>k f) (fun _=>k (-1:Int))) (0:Int)
def jX (a:b6) (b:Int):CK (Int):=QE a b some
def uh (j:Int) (h:Int) (i:fy) (b:Int) (c:Int) (d:Int) (e:Int) (f:Int) (g:Int->Int->Int->Int->Int->CK ρ) (k:(Val (.pair .bool (.pair tI ĝ)))->CK ρ) (l:(Val (.pair tI ĝ))->CK ρ):CK ρ :=
  ifb (ilt b (Õ i)) (ç i b fun a=>ifb (ieq a.1 j) (ifb (ile a.2.1.1 h) (ifb (ile h a.2.1.2) (k (true,a.1,a.2.1.1,a.2.1.2,a.2.2)) (ck (b+(1:Int)) fun m=>g m c d e f)) (ck (b+(1:Int)) fun n=>g n c d e f)) (ck (b+(1:Int)) fun o=>g o c d e f)) (l (c,d,e,f))
def Qy (c:b6) (d:Int) (e:Int) (k:Val bp->CK ρ):CK ρ :=
  Ë (fun(a:Val bw) f=>uh d e c.2.2.2.1 a.1 a.2.1 a.2.2.1 a.2.2.2.1 a.2.2.2.2 (fun g h i j l=>f (g,h,i,j,l)) (fun b=>k ((b.2.1,(b.2.2.1,b.2.2.2.1),b.2.2.2.2),b.1)) (fun m=>k (((0:Int),((0:Int),(0:Int)),(0:Int)),false))) ((0:Int),(0:Int),(0:Int),(0:Int),(0:Int))
def jW (a:b6) (b:Int) (c:Int):CK ((Val bp)):=Qy a b c some
def tW (d:Int) (e:Int) (b:bx) (a:Int) (c:Int->CK ρ) (f:Bool->CK ρ) (g:Unit->CK ρ):CK ρ :=
  ifb (ilt a (Õ b)) (ç b a fun h=>ifb (ieq h.1 d) (ç b a fun i=>ifb (ieq i.2 e) (f true) (ck (a+(1:Int)) fun j=>c j)) (ck (a+(1:Int)) fun k=>c k)) (g ())
def Qi (a:b6) (b:Int) (c:Int) (k:Bool->CK ρ):CK ρ :=
  Ë (fun(d:Int) e=>tW b c a.2.2.1 d (fun f=>e f) (fun g=>k g) (fun _=>k false)) (0:Int)
def Jf (a:b6) (b:Int) (c:Int):CK (Bool):=Qi a b c some
def ug (d:Int) (m:Int) (n:Int) (e:Int) (f:Int) (g:fx) (h:bx) (i:fy) (j:c7) (k:bx) (b:Int) (a:Int) (c:Int->Int->CK ρ) (o:Int->CK ρ):CK ρ :=
  ifb (ilt a m) (Å (jW ((e,f),g,h,i,j,k) d a) fun l=>ifb l.2 (ck (b+l.1.2.2) fun p=>ck (a+(1:Int)) fun q=>c p q) (Å (Jf ((e,f),g,h,i,j,k) d a) fun r=>ifb r (ck (b+n) fun s=>ck (a+(1:Int)) fun t=>c s t) (ck (a+(1:Int)) fun u=>c b u))) (o b)
def Qw (a:b6) (b:Int) (d:Int) (e:Int) (k:Int->CK ρ):CK ρ :=
  Å (jX a b) fun f=>ç a.2.1 f fun g=>Ë (fun(c:a8) h=>ug b e g.2.2.2.2.2 a.1.1 a.1.2 a.2.1 a.2.2.1 a.2.2.2.1 a.2.2.2.2.1 a.2.2.2.2.2 c.1 c.2 (fun i j=>h (i,j)) (fun l=>k l)) ((0:Int),d)
def wO (a:b6) (b:Int) (c:Int) (d:Int):CK (Int):=Qw a b c d some
def xQ (b:Int) (a:Int) (c:Int->Int->CK ρ) (d:Int->CK ρ):CK ρ :=
  ifb (ine a 0) (ifb (iW a 0) (none) (c a (Int.tmod b a))) (d b)
def Yv (b:Int) (c:Int) (k:Int->CK ρ):CK ρ :=
  Ë (fun(a:a8) d=>xQ a.1 a.2 (fun e f=>d (e,f)) (fun g=>k g)) (b,c)
def CB (a:Int) (b:Int):CK (Int):=Yv a b some
def Yy (a:Int) (k:Int->CK ρ):CK ρ :=
  ifb (ilt a 0) (ck ((0:Int)-a) fun b=>k b) (k a)
def Ji (a:Int):CK (Int):=Yy a some
def FO (b:Int) (a:Int) (k:js->CK ρ):CK ρ :=
  ifb (ine b 0) (ifb (iW a 0) (none) (Å (Ji (Int.tmod b a)) fun h=>Å (CB h a) fun c=>ifb (iW c 0) (none) (ck (Int.tdiv b c) fun d=>ifb (iW c 0) (none) (ck (Int.tdiv a c) fun f=>ifb (igt f 2147483647) (k (((0:Int),(0:Int)),(3:Int))) (ifb (ilt d (-2147483647:Int)) (k (((0:Int),(0:Int)),(3:Int))) (ifb (igt d 2147483647) (k (((0:Int),(0:Int)),(3:Int))) (k ((d,f),(0:Int))))))))) (ifb (iW a 0) (none) (ck (Int.tdiv b a) fun e=>ifb (iW a 0) (none) (ck (Int.tdiv a a) fun g=>ifb (igt g 2147483647) (k (((0:Int),(0:Int)),(3:Int))) (ifb (ilt e (-2147483647:Int)) (k (((0:Int),(0:Int)),(3:Int))) (ifb (igt e 2147483647) (k (((0:Int),(0:Int)),(3:Int))) (k ((e,g),(0:Int))))))))
def sl (a:Int) (b:Int):CK js:=FO a b some
def Yx (a:a8) (b:a8) (k:js->CK ρ):CK ρ :=
  ck (a.1*b.2) fun c=>ck (b.1*a.2) fun d=>ck (c+d) fun e=>ck (a.2*b.2) fun f=>Å (sl e f) fun g=>k g
def Zv (a:a8) (b:a8):CK js:=Yx a b some
def Ys (a:a8) (k:a8->CK ρ):CK ρ :=
  ck ((0:Int)-a.1) fun b=>k (b,a.2)
def Zu (a:a8):CK a8:=Ys a some
def Yr (a:a8) (b:a8) (k:js->CK ρ):CK ρ :=
  Å (Zu b) fun c=>Å (Zv a c) fun d=>k d
def Ob (a:a8) (b:a8):CK js:=Yr a b some
def KC (a:b6) (b:Int) (k:a8->CK ρ):CK ρ :=
  ifb (ieq b 0) (k ((0:Int),(1:Int))) (Å (jX a b) fun c=>ç a.2.1 c fun d=>k d.2.2.2.2.1)
def wM (a:b6) (b:Int):CK a8:=KC a b some
def QN (a:js) (b:js) (k:Val vu->CK ρ):CK ρ :=
  ifb (ine a.2 0) (k ((((0:Int),(0:Int)),(0:Int),(0:Int)),a.2)) (ifb (ine b.2 0) (k ((((0:Int),(0:Int)),(0:Int),(0:Int)),b.2)) (k ((a.1,b.1),(0:Int))))
def Jg (a:js) (b:js):CK (Val vu):=QN a b some
def Yt (a:a8) (b:a8) (k:js->CK ρ):CK ρ :=
  ck (a.1*b.1) fun c=>ck (a.2*b.2) fun d=>Å (sl c d) fun e=>k e
def yB (a:a8) (b:a8):CK js:=Yt a b some
def KP (b:ge) (a:a8) (k:Val vu->CK ρ):CK ρ :=
  ifb (ilt a.1 0) (Å (yB b.2 a) fun c=>Å (yB b.1 a) fun d=>Å (Jg c d) fun e=>k e) (Å (yB b.1 a) fun f=>Å (yB b.2 a) fun g=>Å (Jg f g) fun h=>k h)
def CA (a:ge) (b:a8):CK (Val vu):=KP a b some
def FM (b:b6) (a:im) (k:ge->CK ρ):CK ρ :=
  Å (qz a.2.2.1 a.2.2.2.1) fun c=>Å (wM b c) fun d=>Å (qz a.2.2.2.1 a.2.2.1) fun e=>Å (wM b e) fun f=>Å (Ob d f) fun g=>Å (CA ((a.2.2.2.2.2.2.1,(1:Int)),a.2.2.2.2.2.2.2,(1:Int)) g.1) fun h=>k h.1
def yA (a:b6) (b:im):CK ge:=FM a b some
def KM (a:b6) (b:im) (k:a8->CK ρ):CK ρ :=
  ck ((Õ b.2.2.1)-(1:Int)) fun c=>ck ((Õ b.2.2.2.1)-(1:Int)) fun d=>ck ((UP (0:Int) c)*a.1.1) fun e=>ck ((UP (0:Int) d)*a.1.2) fun f=>ck (e-f) fun g=>ck ((UP (0:Int) c)*a.1.2) fun h=>ck ((UP (0:Int) d)*a.1.1) fun i=>ck (h-i) fun j=>k (g,j)
def Cx (a:b6) (b:im):CK a8:=KM a b some
def adK (b:Int) (a:Int) (k:Int->CK ρ):CK ρ :=
  ifb (iW a 0) (none) (ck (Int.tdiv b a) fun c=>ifb (iW a 0) (none) (ifb (igt (Int.tmod b a) 0) (ck (c+1) fun d=>k d) (k c)))
def aea (a:Int) (b:Int):CK (Int):=adK a b some
def QP (a:a8) (k:Int->CK ρ):CK ρ :=
  Å (aea a.1 a.2) fun b=>k b
def Jh (a:a8):CK (Int):=QP a some
def QL (b:Int) (a:Int) (k:Int->CK ρ):CK ρ :=
  ifb (iW a 0) (none) (ck (Int.tdiv b a) fun c=>ifb (iW a 0) (none) (ifb (ilt (Int.tmod b a) 0) (ck (c-1) fun d=>k d) (k c)))
def Sd (a:Int) (b:Int):CK (Int):=QL a b some
def KR (a:a8) (k:Int->CK ρ):CK ρ :=
  Å (Sd a.1 a.2) fun b=>k b
def CC (a:a8):CK (Int):=KR a some
def Qk (b:b6) (a:im) (k:a8->CK ρ):CK ρ :=
  Å (yA b a) fun c=>Å (Cx b a) fun d=>ck (a.2.2.2.2.1-a.2.2.2.2.2.1) fun e=>ck (e-d.2) fun f=>Å (CC c.2) fun g=>ck (f-g) fun h=>ck (a.2.2.2.2.1+a.2.2.2.2.2.1) fun i=>ck (i-d.1) fun j=>Å (Jh c.1) fun l=>ck (j-l) fun m=>k (h,m)
def wN (a:b6) (b:im):CK a8:=Qk a b some
def rQ (e:bx) (b:Int) (p:Int) (q:Int) (r:fx) (s:bx) (t:fy) (u:c7) (v:bx) (g:Int) (w:Int) (h:Int) (x:Int) (y:Int) (a:Int) (c:hO) (d:bx) (f:Int->hO->bx->CK ρ) (z:Val yP->CK ρ):CK ρ :=
  ifb (ilt a (Õ e)) (ç e a fun A=>ifb (ine A.1 g) (ck (a+(1:Int)) fun B=>f B c d) (ç e a fun C=>ifb (ieq C.2 w) (ck (a+(1:Int)) fun i=>ck (h+y) fun j=>ck (a+(1:Int)) fun k=>ck ((0:Int)-h) fun D=>ck (D-x) fun l=>à (ã ((List.length c)+(List.length ([((0:Int),i,j),(k,(0:Int),l)])))) (à (ã ((List.length d)+(List.length ([((1:Int),b),((1:Int),b)])))) (ck (a+(1:Int)) fun E=>f E (c++([((0:Int),i,j),(k,(0:Int),l)])) (d++([((1:Int),b),((1:Int),b)]))))) (ck (a-(1:Int)) fun F=>ç e F fun G=>ç e a fun H=>Å (wO ((p,q),r,s,t,u,v) g G.2 H.2) fun m=>ck (a+(1:Int)) fun n=>ck (a+(1:Int)) fun o=>à (ã ((List.length c)+(List.length ([(a,n,(0:Int)),(o,a,m)])))) (à (ã ((List.length d)+(List.length ([((2:Int),b),((2:Int),b)])))) (ck (a+(1:Int)) fun I=>f I (c++([(a,n,(0:Int)),(o,a,m)])) (d++([((2:Int),b),((2:Int),b)]))))))) (z (c,d))
def xN (h:bx) (i:Int) (j:Int) (c:fx) (k:bx) (l:fy) (m:c7) (n:bx) (b:Int) (e:hO) (f:bx) (o:Int->hO->bx->CK ρ) (p:Val yP->CK ρ):CK ρ :=
  ifb (ilt b (Õ c)) (ç c b fun a=>Ë (fun(d:u7) q=>rQ h b i j c k l m n a.1 a.2.1 a.2.2.1 a.2.2.2.1.1 a.2.2.2.1.2 d.1 d.2.1 d.2.2 (fun r s t=>q (r,s,t)) (fun g=>ck (b+(1:Int)) fun u=>o u g.1 g.2)) ((0:Int),e,f)) (p (e,f))
def xM (f:Int) (g:Int) (h:fx) (i:bx) (j:fy) (c:c7) (k:bx) (a:Int) (l:hO) (m:bx) (p:Int->hO->bx->CK ρ) (q:Val yP->CK ρ):CK ρ :=
  ifb (ilt a (Õ c)) (ç c a fun b=>Å (qz b.2.2.1 b.2.2.2.1) fun r=>Å (kz ((f,g),h,i,j,c,k) (r,b.2.1)) fun d=>Å (qz b.2.2.2.1 b.2.2.1) fun s=>Å (kz ((f,g),h,i,j,c,k) (s,b.2.1)) fun e=>Å (wN ((f,g),h,i,j,c,k) b) fun n=>ck ((0:Int)-n.1) fun o=>à (ã ((List.length l)+(List.length ([(e,d,n.2),(d,e,o)])))) (à (ã ((List.length m)+(List.length ([((3:Int),a),((3:Int),a)])))) (ck (a+(1:Int)) fun t=>p t (l++([(e,d,n.2),(d,e,o)])) (m++([((3:Int),a),((3:Int),a)]))))) (q (l,m))
def Ye (a:b6) (k:Val yP->CK ρ):CK ρ :=
  Å (md a) fun e=>Ë (fun(b:u7) f=>xN e a.1.1 a.1.2 a.2.1 a.2.2.1 a.2.2.2.1 a.2.2.2.2.1 a.2.2.2.2.2 b.1 b.2.1 b.2.2 (fun g h i=>f (g,h,i)) (fun d=>Ë (fun(c:u7) j=>xM a.1.1 a.1.2 a.2.1 a.2.2.1 a.2.2.2.1 a.2.2.2.2.1 a.2.2.2.2.2 c.1 c.2.1 c.2.2 (fun l m n=>j (l,m,n)) (fun o=>k o)) ((0:Int),d.1,d.2))) ((0:Int),[],[])
def Cw (a:b6):CK (Val yP):=Ye a some
def AK (a:a8) (b:Int) (c:Int) (k:Bool->CK ρ):CK ρ :=
  ifb (ile b a.1) (ifb (ile a.1 a.2) (k (ile a.2 c)) (k false)) (k false)
def jV (a:a8) (b:Int) (c:Int):CK (Bool):=AK a b c some
def KO (a:a8) (k:Bool->CK ρ):CK ρ :=
  ifb (ilt a.2 1) (k false) (ifb (igt a.2 2147483647) (k false) (ifb (ilt a.1 (-2147483647:Int)) (k false) (ifb (igt a.1 2147483647) (k false) (Å (Ji a.1) fun b=>Å (CB b a.2) fun c=>k (ieq c 1)))))
def Cz (a:a8):CK (Bool):=KO a some
def KD (a:nm) (k:Bool->CK ρ):CK ρ :=
  Å (Cz a.2.2.2.2.1) fun b=>ifb (!b) (k false) (Å (kP a.2.2.2.2.1.1 (-1000:Int) (1000:Int)) fun c=>ifb (!c) (k false) (ifb (igt a.2.2.2.2.1.2 100) (k false) (Å (kP a.1 (1:Int) (1099511627776:Int)) fun d=>ifb d (Å (uL a.2.1) fun e=>ifb e (Å (kP a.2.2.1 (1:Int) (1125899906842624:Int)) fun f=>ifb f (Å (jV a.2.2.2.1 (-1073741824:Int) (1073741824:Int)) fun g=>ifb g (Å (kP a.2.2.2.2.2 (0:Int) (1048576:Int)) fun h=>k h) (k false)) (k false)) (k false)) (k false))))
def Cv (a:nm):CK (Bool):=KD a some
def KH (a:b6) (c:Int) (d:Int) (k:Int->CK ρ):CK ρ :=
  Å (jX a c) fun b=>ifb (ilt b 0) (k (5:Int)) (ç a.2.1 b fun e=>ifb (ilt d e.2.1) (k (4:Int)) (k (0:Int)))
def ju (a:b6) (b:Int) (c:Int):CK (Int):=KH a b c some
def tR (e:Int) (f:Int) (g:fx) (a:bx) (h:fy) (i:c7) (j:bx) (b:Int) (k:Int->CK ρ) (c:Int->CK ρ) (l:Unit->CK ρ):CK ρ :=
  ifb (ilt b (Õ a)) (ç a b fun m=>Å (uL m.2) fun n=>ifb (!n) (c (1:Int)) (ç a b fun o=>ç a b fun p=>Å (ju ((e,f),g,a,h,i,j) o.1 p.2) fun d=>ifb (ine d 0) (c d) (ck (b+(1:Int)) fun q=>k q))) (l ())
def Qa (a:b6) (k:Int->CK ρ):CK ρ :=
  Ë (fun(b:Int) c=>tR a.1.1 a.1.2 a.2.1 a.2.2.1 a.2.2.2.1 a.2.2.2.2.1 a.2.2.2.2.2 b (fun d=>c d) (fun e=>k e) (fun _=>k (0:Int))) (0:Int)
def Jd (a:b6):CK (Int):=Qa a some
def qi (d:Int) (b:fy) (e:Int) (f:Int) (g:Int) (a:Int) (c:Int->CK ρ) (h:Int->CK ρ) (i:Unit->CK ρ):CK ρ :=
  ifb (ilt a d) (ç b a fun j=>ifb (ieq j.1 e) (ç b a fun k=>ifb (ile k.2.1.1 g) (ç b a fun l=>ifb (ile f l.2.1.2) (h (9:Int)) (ck (a+(1:Int)) fun m=>c m)) (ck (a+(1:Int)) fun n=>c n)) (ck (a+(1:Int)) fun o=>c o)) (i ())
def mK (b:bx) (d:Int) (e:Int) (f:Int) (a:Int) (c:Int->CK ρ) (g:Int->CK ρ) (h:Unit->CK ρ):CK ρ :=
  ifb (ilt a (Õ b)) (ç b a fun i=>ifb (ieq i.1 d) (ç b a fun j=>Å (kP j.2 e f) fun k=>ifb k (g (9:Int)) (ck (a+(1:Int)) fun l=>c l)) (ck (a+(1:Int)) fun m=>c m)) (h ())
def qj (g:Int) (h:Int) (i:fx) (e:bx) (c:fy) (j:c7) (k:bx) (d:Int) (l:Int->CK ρ) (b:Int->CK ρ) (m:Unit->CK ρ):CK ρ :=
  ifb (ilt d (Õ c)) (ç c d fun a=>Å (jV a.2.1 (0:Int) (20000:Int)) fun n=>ifb (!n) (b (1:Int)) (Å (kP a.2.2 (0:Int) (1048576:Int)) fun o=>ifb (!o) (b (1:Int)) (Å (ju ((g,h),i,e,c,j,k) a.1 a.2.1.1) fun f=>ifb (ine f 0) (b f) (Ë (fun(p:Int) q=>qi d c a.1 a.2.1.1 a.2.1.2 p (fun r=>q r) (fun s=>b s) (fun _=>Ë (fun(t:Int) u=>mK e a.1 a.2.1.1 a.2.1.2 t (fun v=>u v) (fun w=>b w) (fun _=>ck (d+(1:Int)) fun x=>l x)) (0:Int))) (0:Int))))) (m ())
def KB (a:b6) (k:Int->CK ρ):CK ρ :=
  Ë (fun(b:Int) c=>qj a.1.1 a.1.2 a.2.1 a.2.2.1 a.2.2.2.1 a.2.2.2.2.1 a.2.2.2.2.2 b (fun d=>c d) (fun e=>k e) (fun _=>k (0:Int))) (0:Int)
def Cu (a:b6):CK (Int):=KB a some
def ue (b:an) (a:Int) (c:Int->CK ρ) (d:Bool->CK ρ) (e:Unit->CK ρ):CK ρ :=
  ifb (ilt a (Õ b)) (ç b a fun f=>Å (kP f (1:Int) (1099511627776:Int)) fun g=>ifb (!g) (d false) (ifb (igt a 0) (ç b a fun h=>ck (a-(1:Int)) fun i=>ç b i fun j=>ifb (ile h j) (d false) (ck (a+(1:Int)) fun k=>c k)) (ck (a+(1:Int)) fun l=>c l))) (e ())
def Qr (a:an) (k:Bool->CK ρ):CK ρ :=
  Ë (fun(b:Int) c=>ue a b (fun d=>c d) (fun e=>k e) (fun _=>k (ile (Õ a) 6))) (0:Int)
def BA (a:an):CK (Bool):=Qr a some
def KA (a:im) (k:Bool->CK ρ):CK ρ :=
  Å (BA a.2.2.1) fun b=>Å (BA a.2.2.2.1) fun c=>ifb b (ifb c (Å (kP a.1 (1:Int) (1099511627776:Int)) fun d=>ifb d (Å (uL a.2.1) fun e=>ifb e (Å (kP a.2.2.2.2.1 (-1125899906842624:Int) (1125899906842624:Int)) fun f=>ifb f (Å (kP a.2.2.2.2.2.1 (0:Int) (1073741824:Int)) fun g=>ifb g (Å (jV a.2.2.2.2.2.2 (-10000:Int) (10000:Int)) fun h=>k h) (k false)) (k false)) (k false)) (k false)) (k false)) (k false)
def Ct (a:im):CK (Bool):=KA a some
def lF (c:Int) (d:Int) (e:fx) (f:bx) (g:fy) (h:c7) (i:bx) (b:an) (a:Int) (j:Int->CK ρ) (k:Int->CK ρ) (l:Unit->CK ρ):CK ρ :=
  ifb (ilt a (Õ b)) (à ((ile 0 a)&&(ilt a (ï b))) (Ĵ b (Int.toNat a) fun m=>Å (jX ((c,d),e,f,g,h,i) m) fun n=>ifb (ilt n 0) (k (5:Int)) (ck (a+(1:Int)) fun o=>j o))) (l ())
def jl (c:Int) (d:Int) (e:fx) (f:bx) (g:fy) (h:c7) (i:bx) (j:Int) (b:an) (a:Int) (k:Int->CK ρ) (l:Int->CK ρ) (m:Unit->CK ρ):CK ρ :=
  ifb (ilt a (Õ b)) (à ((ile 0 a)&&(ilt a (ï b))) (Ĵ b (Int.toNat a) fun n=>Å (ju ((c,d),e,f,g,h,i) n j) fun o=>ifb (ine o 0) (l (4:Int)) (ck (a+(1:Int)) fun p=>k p))) (m ())
def Ι (c:Int) (d:Int) (e:fx) (f:bx) (g:fy) (h:c7) (i:bx) (j:Int) (b:an) (a:Int) (k:Int->CK ρ) (l:Int->CK ρ) (m:Unit->CK ρ):CK ρ :=
  ifb (ilt a (Õ b)) (à ((ile 0 a)&&(ilt a (ï b))) (Ĵ b (Int.toNat a) fun n=>Å (jW ((c,d),e,f,g,h,i) n j) fun o=>ifb o.2 (l (9:Int)) (ck (a+(1:Int)) fun p=>k p))) (m ())
def xJ (a:b6) (b:im) (k:Int->CK ρ):CK ρ :=
  à (ã (0+(List.length b.2.2.1))) (à (ã ((List.length (([])++b.2.2.1))+(List.length b.2.2.2.1))) (Ë (fun(e:Int) f=>lF a.1.1 a.1.2 a.2.1 a.2.2.1 a.2.2.2.1 a.2.2.2.2.1 a.2.2.2.2.2 ((([])++b.2.2.1)++b.2.2.2.1) e (fun g=>f g) (fun h=>k h) (fun _=>Ë (fun(i:Int) j=>jl a.1.1 a.1.2 a.2.1 a.2.2.1 a.2.2.2.1 a.2.2.2.2.1 a.2.2.2.2.2 b.2.1 ((([])++b.2.2.1)++b.2.2.2.1) i (fun l=>j l) (fun m=>k m) (fun _=>Ë (fun(n:Int) o=>Ι a.1.1 a.1.2 a.2.1 a.2.2.1 a.2.2.2.1 a.2.2.2.2.1 a.2.2.2.2.2 b.2.1 ((([])++b.2.2.1)++b.2.2.2.1) n (fun p=>o p) (fun q=>k q) (fun _=>Å (la b.2.2.1 b.2.2.2.1) fun c=>Å (la b.2.2.2.1 b.2.2.1) fun d=>ifb (igt (Õ c) 1) (k (1:Int)) (ifb (igt (Õ d) 1) (k (1:Int)) (ck ((Õ c)+(Õ d)) fun r=>ifb (ieq r 0) (k (1:Int)) (k (0:Int)))))) (0:Int))) (0:Int))) (0:Int)))
def ky (a:b6) (b:im):CK (Int):=xJ a b some
def qq (b:fx) (a:Int) (c:Int->CK ρ) (d:Int->CK ρ) (e:Unit->CK ρ):CK ρ :=
  ifb (ilt a (Õ b)) (ç b a fun f=>Å (Cv f) fun g=>ifb (!g) (d (1:Int)) (ifb (igt a 0) (ç b a fun h=>ck (a-(1:Int)) fun i=>ç b i fun j=>ifb (ile h.1 j.1) (d (6:Int)) (ck (a+(1:Int)) fun k=>c k)) (ck (a+(1:Int)) fun l=>c l))) (e ())
def qp (b:Int) (c:c7) (a:Int) (d:Int->CK ρ) (e:Int->CK ρ) (f:Unit->CK ρ):CK ρ :=
  ifb (ilt a b) (ç c a fun g=>ç c b fun h=>ifb (ieq g.1 h.1) (e (6:Int)) (ck (a+(1:Int)) fun i=>d i)) (f ())
def kr (e:Int) (f:Int) (g:fx) (h:bx) (i:fy) (a:c7) (j:bx) (b:Int) (k:Int->CK ρ) (c:Int->CK ρ) (l:Unit->CK ρ):CK ρ :=
  ifb (ilt b (Õ a)) (ç a b fun m=>Å (Ct m) fun n=>ifb (!n) (c (1:Int)) (Ë (fun(o:Int) p=>qp b a o (fun q=>p q) (fun r=>c r) (fun _=>ç a b fun s=>Å (ky ((e,f),g,h,i,a,j) s) fun d=>ifb (ine d 0) (c d) (ck (b+(1:Int)) fun t=>k t))) (0:Int))) (l ())
def kq (e:Int) (f:Int) (g:fx) (h:bx) (i:fy) (j:c7) (a:bx) (b:Int) (k:Int->CK ρ) (c:Int->CK ρ) (l:Unit->CK ρ):CK ρ :=
  ifb (ilt b (Õ a)) (ç a b fun m=>Å (uL m.2) fun n=>ifb (!n) (c (1:Int)) (ç a b fun o=>ç a b fun p=>Å (ju ((e,f),g,h,i,j,a) o.1 p.2) fun d=>ifb (ine d 0) (c d) (ck (b+(1:Int)) fun q=>k q))) (l ())
def KN (a:b6) (k:Int->CK ρ):CK ρ :=
  Å (jV a.1 (0:Int) (1000000:Int)) fun d=>ifb (!d) (k (1:Int)) (ifb (igt (Õ a.2.1) 12) (k (2:Int)) (ifb (igt (Õ a.2.2.1) 40) (k (2:Int)) (ifb (igt (Õ a.2.2.2.1) 12) (k (2:Int)) (ifb (igt (Õ a.2.2.2.2.1) 40) (k (2:Int)) (ifb (igt (Õ a.2.2.2.2.2) 10) (k (2:Int)) (Ë (fun(e:Int) f=>qq a.2.1 e (fun g=>f g) (fun h=>k h) (fun _=>Å (Jd a) fun b=>ifb (ieq b 0) (Å (Cu a) fun c=>ifb (ine c 0) (k c) (Ë (fun(i:Int) j=>kr a.1.1 a.1.2 a.2.1 a.2.2.1 a.2.2.2.1 a.2.2.2.2.1 a.2.2.2.2.2 i (fun l=>j l) (fun m=>k m) (fun _=>Ë (fun(n:Int) o=>kq a.1.1 a.1.2 a.2.1 a.2.2.1 a.2.2.2.1 a.2.2.2.2.1 a.2.2.2.2.2 n (fun p=>o p) (fun q=>k q) (fun _=>Å (md a) fun r=>ifb (igt (Õ r) 59) (k (2:Int)) (Å (Cw a) fun s=>ifb (igt (Õ s.1) 300) (k (2:Int)) (k (0:Int))))) (0:Int))) (0:Int))) (ifb (ine b 0) (k b) (Ë (fun(t:Int) u=>kr a.1.1 a.1.2 a.2.1 a.2.2.1 a.2.2.2.1 a.2.2.2.2.1 a.2.2.2.2.2 t (fun v=>u v) (fun w=>k w) (fun _=>Ë (fun(x:Int) y=>kq a.1.1 a.1.2 a.2.1 a.2.2.1 a.2.2.2.1 a.2.2.2.2.1 a.2.2.2.2.2 x (fun z=>y z) (fun A=>k A) (fun _=>Å (md a) fun B=>ifb (igt (Õ B) 59) (k (2:Int)) (Å (Cw a) fun C=>ifb (igt (Õ C.1) 300) (k (2:Int)) (k (0:Int))))) (0:Int))) (0:Int))))) (0:Int)))))))
def Cy (a:b6):CK (Int):=KN a some
def xG (b:an) (a:Int) (c:Int->CK ρ) (d:Int->CK ρ) (e:Unit->CK ρ):CK ρ :=
  ifb (ilt a (Õ b)) (ç b a fun f=>ck (a-(1:Int)) fun g=>ç b g fun h=>ifb (ile f h) (d (1:Int)) (ck (a+(1:Int)) fun i=>c i)) (e ())
def Fy (c:Int) (d:Int) (e:fx) (f:bx) (g:fy) (h:c7) (i:bx) (b:an) (a:Int) (j:Int->CK ρ) (k:Int->CK ρ) (l:Unit->CK ρ):CK ρ :=
  ifb (ilt a (Õ b)) (ç b a fun m=>Å (jX ((c,d),e,f,g,h,i) m) fun n=>ifb (ilt n 0) (k (5:Int)) (ck (a+(1:Int)) fun o=>j o)) (l ())
def Fx (c:Int) (d:Int) (e:fx) (f:bx) (g:fy) (h:c7) (i:bx) (j:Int) (b:an) (a:Int) (k:Int->CK ρ) (l:Int->CK ρ) (m:Unit->CK ρ):CK ρ :=
  ifb (ilt a (Õ b)) (ç b a fun n=>Å (ju ((c,d),e,f,g,h,i) n j) fun o=>ifb (ine o 0) (l (4:Int)) (ck (a+(1:Int)) fun p=>k p)) (m ())
def X0 (a:b6) (b:f4) (k:Int->CK ρ):CK ρ :=
  Å (kP b.1 (0:Int) (19999:Int)) fun c=>ifb (!c) (k (1:Int)) (Å (kP (Õ b.2) (2:Int) (5:Int)) fun d=>ifb (!d) (k (1:Int)) (Ë (fun(e:Int) f=>xG b.2 e (fun g=>f g) (fun h=>k h) (fun _=>Ë (fun(i:Int) j=>Fy a.1.1 a.1.2 a.2.1 a.2.2.1 a.2.2.2.1 a.2.2.2.2.1 a.2.2.2.2.2 b.2 i (fun l=>j l) (fun m=>k m) (fun _=>Ë (fun(n:Int) o=>Fx a.1.1 a.1.2 a.2.1 a.2.2.1 a.2.2.2.1 a.2.2.2.2.1 a.2.2.2.2.2 b.1 b.2 n (fun p=>o p) (fun q=>k q) (fun _=>k (0:Int))) (0:Int))) (0:Int))) (1:Int)))
def N9 (a:b6) (b:f4):CK (Int):=X0 a b some
def jf (c:Int) (d:Int) (e:fx) (f:bx) (g:fy) (h:c7) (i:bx) (j:Int) (b:an) (k:Int) (a:Int) (m:Int->Int->CK ρ) (l:Int->CK ρ) (n:Int->CK ρ):CK ρ :=
  ifb (ilt a (Õ b)) (ç b a fun o=>Å (jW ((c,d),e,f,g,h,i) o j) fun p=>ç b a fun q=>ck (j+(1:Int)) fun r=>Å (jW ((c,d),e,f,g,h,i) q r) fun s=>ifb p.2 (l (9:Int)) (ifb s.2 (l (9:Int)) (ck (a+(1:Int)) fun t=>ck (k*t) fun u=>ck (a+(1:Int)) fun v=>m u v))) (n k)
def qg (d:Int) (e:Int) (f:fx) (g:bx) (h:fy) (i:c7) (j:bx) (k:c9) (l:Int) (a:Int) (m:Int->Int->CK ρ) (c:Int->CK ρ) (q:Int->CK ρ):CK ρ :=
  ifb (ilt a (Õ k)) (ç k a fun b=>Å (N9 ((d,e),f,g,h,i,j) b) fun n=>ifb (ine n 0) (c n) (ifb (igt a 0) (ck (a-(1:Int)) fun r=>ç k r fun s=>ifb (ile b.1 s.1) (c (6:Int)) (Ë (fun(o:a8) t=>jf d e f g h i j b.1 b.2 o.1 o.2 (fun u v=>t (u,v)) (fun w=>c w) (fun x=>ck (a+(1:Int)) fun y=>m x y)) (l,(0:Int)))) (Ë (fun(p:a8) z=>jf d e f g h i j b.1 b.2 p.1 p.2 (fun A B=>z (A,B)) (fun C=>c C) (fun D=>ck (a+(1:Int)) fun E=>m D E)) (l,(0:Int))))) (q l)
def Kz (a:bl) (k:Int->CK ρ):CK ρ :=
  Å (Cy a.1) fun b=>ifb (ine b 0) (k b) (ifb (igt (Õ a.2) 4) (k (2:Int)) (Ë (fun(c:a8) d=>qg a.1.1.1 a.1.1.2 a.1.2.1 a.1.2.2.1 a.1.2.2.2.1 a.1.2.2.2.2.1 a.1.2.2.2.2.2 a.2 c.1 c.2 (fun e f=>d (e,f)) (fun g=>k g) (fun h=>ifb (igt h 150) (k (2:Int)) (k (0:Int)))) ((1:Int),(0:Int))))
def wL (a:bl):CK (Int):=Kz a some
def Cb (b:an) (c:Int) (a:Int) (d:Int->CK ρ) (e:Int->CK ρ) (f:Unit->CK ρ):CK ρ :=
  ifb (ilt a (Õ b)) (ç b a fun g=>ifb (ieq g c) (e a) (ck (a+(1:Int)) fun h=>d h)) (f ())
def adG (a:an) (b:Int) (k:Int->CK ρ):CK ρ :=
  Ë (fun(c:Int) d=>Cb a b c (fun e=>d e) (fun f=>k f) (fun _=>k (-1:Int))) (0:Int)
def Gd (a:an) (b:Int):CK (Int):=adG a b some
def kj (c:b5) (a:Int) (e:c9) (b:Int) (f:Int->CK ρ) (d:Bool->CK ρ) (g:Unit->CK ρ):CK ρ :=
  ç c a fun h=>ifb (ilt b (Õ h)) (ç e a fun i=>ç c a fun j=>ç j b fun k=>Å (Gd i.2 k) fun l=>ifb (ilt l 0) (d false) (ç c a fun m=>ç c a fun n=>ç n b fun o=>Å (Gd m o) fun p=>ifb (ine p b) (d false) (ck (b+(1:Int)) fun q=>f q))) (g ())
def km (b:b5) (c:c9) (a:Int) (e:Int->CK ρ) (d:Bool->CK ρ) (f:Unit->CK ρ):CK ρ :=
  ifb (ilt a (Õ b)) (ç b a fun g=>ç c a fun h=>ifb (ine (Õ g) (Õ h.2)) (d false) (Ë (fun(i:Int) j=>kj b a c i (fun k=>j k) (fun l=>d l) (fun _=>ck (a+(1:Int)) fun m=>e m)) (0:Int))) (f ())
def Ky (a:bl) (b:b5) (k:Bool->CK ρ):CK ρ :=
  ifb (ine (Õ b) (Õ a.2)) (k false) (Ë (fun(c:Int) d=>km b a.2 c (fun e=>d e) (fun f=>k f) (fun _=>k true)) (0:Int))
def mc (a:bl) (b:b5):CK (Bool):=Ky a b some
def lE (b:a7) (c:a7) (a:Int) (d:Int->CK ρ) (e:Bool->CK ρ) (f:Unit->CK ρ):CK ρ :=
  ifb (ilt a (Õ b)) (ç b a fun g=>ç c a fun h=>Å (pl g h) fun i=>ifb (!i) (e false) (ck (a+(1:Int)) fun j=>d j)) (f ())
def xI (a:a7) (b:a7) (k:Bool->CK ρ):CK ρ :=
  ifb (ine (Õ a) (Õ b)) (k false) (Ë (fun(c:Int) d=>lE a b c (fun e=>d e) (fun f=>k f) (fun _=>k true)) (0:Int))
def mR (a:a7) (b:a7):CK (Bool):=xI a b some
def xz (a:bl) (b:b5) (k:BE->CK ρ):CK ρ :=
  Å (sk a b) fun c=>ifb (ine c 0) (k ((((0:Int),(0:Int)),[],[],[],[],[]),c)) (Å (Χ a b) fun d=>k (d,(0:Int)))
def qx (a:bl) (b:b5):CK (BE):=xz a b some
def Kl (a:bl) (b:b5) (k:a8->CK ρ):CK ρ :=
  Å (sk a b) fun c=>ifb (ine c 0) (k ((0:Int),c)) (Å (Ĭ a b) fun d=>k (d,(0:Int)))
def Cr (a:bl) (b:b5):CK a8:=Kl a b some
def tz (d:b5) (e:Int) (f:fx) (g:Int) (h:Int) (i:Int) (j:fx) (l:bx) (m:fy) (n:c7) (o:bx) (p:c9) (a:Int) (b:AS) (q:Int->AS->CK ρ) (r:AS->CK ρ):CK ρ :=
  ifb (ilt a g) (ç f a fun c=>Å (si (((h,i),j,l,m,n,o),p) d c.1 e) fun s=>ck (a+(1:Int)) fun t=>q t (Ta (k:=tI) (v:=tI) s c.1 b)) (r b)
def PH (a:bl) (c:b5) (d:Int) (k:AS->CK ρ):CK ρ :=
  Ë (fun(b:y5) e=>tz c d a.1.2.1 (Õ a.1.2.1) a.1.1.1 a.1.1.2 a.1.2.1 a.1.2.2.1 a.1.2.2.2.1 a.1.2.2.2.2.1 a.1.2.2.2.2.2 a.2 b.1 b.2 (fun f g=>e (f,g)) (fun h=>k h)) ((0:Int),[])
def I7 (a:bl) (b:b5) (c:Int):CK (AS):=PH a b c some
def PP (a:bl) (b:b5) (c:Int) (d:Int) (k:a8->CK ρ):CK ρ :=
  Å (sk a b) fun e=>ifb (ine e 0) (k ((0:Int),e)) (Å (sj a c d) fun f=>ifb (ine f 0) (k ((0:Int),f)) (Å (I7 a b d) fun g=>N1 (k:=tI) (v:=tI) c g (fun h=>k (h,(0:Int))) (k ((0:Int),(0:Int)))))
def Jb (a:bl) (b:b5) (c:Int) (d:Int):CK a8:=PP a b c d some
def pD (a:im) (b:im) (k:Bool->CK ρ):CK ρ :=
  Å (ū a.2.2.1 b.2.2.1) fun c=>Å (ū a.2.2.2.1 b.2.2.2.1) fun d=>ifb c (ifb d (ifb (ieq a.1 b.1) (ifb (ieq a.2.1 b.2.1) (ifb (ieq a.2.2.2.2.1 b.2.2.2.2.1) (ifb (ieq a.2.2.2.2.2.1 b.2.2.2.2.2.1) (k ((iW a.2.2.2.2.2.2.1 b.2.2.2.2.2.2.1)&&((iW a.2.2.2.2.2.2.2 b.2.2.2.2.2.2.2)&&true))) (k false)) (k false)) (k false)) (k false)) (k false)) (k false)
def lK (a:im) (b:im):CK (Bool):=pD a b some
def kp (b:bx) (e:bx) (a:Int) (f:Int->CK ρ) (g:Bool->CK ρ) (h:Unit->CK ρ):CK ρ :=
  ifb (ilt a (Õ b)) (ç b a fun c=>ç e a fun d=>ifb (!((iW c.1 d.1)&&((iW c.2 d.2)&&true))) (g false) (ck (a+(1:Int)) fun i=>f i)) (h ())
def vd (a:bx) (b:bx) (k:Bool->CK ρ):CK ρ :=
  ifb (ine (Õ a) (Õ b)) (k false) (Ë (fun(c:Int) d=>kp a b c (fun e=>d e) (fun f=>k f) (fun _=>k true)) (0:Int))
def kZ (a:bx) (b:bx):CK (Bool):=vd a b some
def t7 (d:fx) (e:fx) (c:Int) (f:Int->CK ρ) (g:Bool->CK ρ) (h:Unit->CK ρ):CK ρ :=
  ifb (ilt c (Õ d)) (ç d c fun a=>ç e c fun b=>ifb (!((iW a.1 b.1)&&((iW a.2.1 b.2.1)&&((iW a.2.2.1 b.2.2.1)&&((iW a.2.2.2.1.1 b.2.2.2.1.1)&&((iW a.2.2.2.1.2 b.2.2.2.1.2)&&((iW a.2.2.2.2.1.1 b.2.2.2.2.1.1)&&((iW a.2.2.2.2.1.2 b.2.2.2.2.1.2)&&((iW a.2.2.2.2.2 b.2.2.2.2.2)&&true))))))))) (g false) (ck (c+(1:Int)) fun i=>f i)) (h ())
def tZ (b:bx) (e:bx) (a:Int) (f:Int->CK ρ) (g:Bool->CK ρ) (h:Unit->CK ρ):CK ρ :=
  ifb (ilt a (Õ b)) (ç b a fun c=>ç e a fun d=>ifb (!((iW c.1 d.1)&&((iW c.2 d.2)&&true))) (g false) (ck (a+(1:Int)) fun i=>f i)) (h ())
def tY (d:fy) (e:fy) (a:Int) (f:Int->CK ρ) (g:Bool->CK ρ) (h:Unit->CK ρ):CK ρ :=
  ifb (ilt a (Õ d)) (ç d a fun b=>ç e a fun c=>ifb (!((iW b.1 c.1)&&((iW b.2.1.1 c.2.1.1)&&((iW b.2.1.2 c.2.1.2)&&((iW b.2.2 c.2.2)&&true))))) (g false) (ck (a+(1:Int)) fun i=>f i)) (h ())
def tX (b:c7) (c:c7) (a:Int) (d:Int->CK ρ) (e:Bool->CK ρ) (f:Unit->CK ρ):CK ρ :=
  ifb (ilt a (Õ b)) (ç b a fun g=>ç c a fun h=>Å (lK g h) fun i=>ifb (!i) (e false) (ck (a+(1:Int)) fun j=>d j)) (f ())
def Qp (a:b6) (b:b6) (k:Bool->CK ρ):CK ρ :=
  ifb (!((iW a.1.1 b.1.1)&&((iW a.1.2 b.1.2)&&true))) (k false) (ifb (ine (Õ a.2.1) (Õ b.2.1)) (k false) (ifb (ine (Õ a.2.2.1) (Õ b.2.2.1)) (k false) (ifb (ine (Õ a.2.2.2.1) (Õ b.2.2.2.1)) (k false) (ifb (ine (Õ a.2.2.2.2.1) (Õ b.2.2.2.2.1)) (k false) (Ë (fun(c:Int) d=>t7 a.2.1 b.2.1 c (fun e=>d e) (fun f=>k f) (fun _=>Ë (fun(g:Int) h=>tZ a.2.2.1 b.2.2.1 g (fun i=>h i) (fun j=>k j) (fun _=>Ë (fun(l:Int) m=>tY a.2.2.2.1 b.2.2.2.1 l (fun n=>m n) (fun o=>k o) (fun _=>Ë (fun(p:Int) q=>tX a.2.2.2.2.1 b.2.2.2.2.1 p (fun r=>q r) (fun s=>k s) (fun _=>Å (kZ a.2.2.2.2.2 b.2.2.2.2.2) fun t=>k t)) (0:Int))) (0:Int))) (0:Int))) (0:Int))))))
def δ (a:b6) (b:b6):CK (Bool):=Qp a b some
def oj (d:b5) (b:Int) (f:c9) (c:Int) (a:Int) (e:Int->Int->CK ρ) (g:Int->CK ρ):CK ρ :=
  ç d b fun h=>ifb (ilt a (Õ h)) (ç d b fun i=>ç i a fun j=>ç f b fun k=>ç k.2 a fun l=>ifb (ine j l) (ck (c+(1:Int)) fun m=>ck (a+(1:Int)) fun n=>e m n) (ck (a+(1:Int)) fun o=>e c o)) (g c)
def ol (b:b5) (e:c9) (c:Int) (a:Int) (f:Int->Int->CK ρ) (g:Int->CK ρ):CK ρ :=
  ifb (ilt a (Õ b)) (Ë (fun(d:a8) h=>oj b a e d.1 d.2 (fun i j=>h (i,j)) (fun k=>ck (a+(1:Int)) fun l=>f k l)) (c,(0:Int))) (g c)
def Fz (b:bl) (c:b5) (k:Int->CK ρ):CK ρ :=
  Ë (fun(a:a8) d=>ol c b.2 a.1 a.2 (fun e f=>d (e,f)) (fun g=>k g)) ((0:Int),(0:Int))
def jU (a:bl) (b:b5):CK (Int):=Fz a b some
def kS (rec:an->CK b5) (f:an) (g:Int) (e:b5) (a:Int) (b:b5) (h:Int->b5->CK ρ) (i:b5->CK ρ):CK ρ :=
  ifb (ilt a (Õ e)) (ç f g fun c=>ç e a fun d=>à (ã ((List.length ([c]))+(List.length d))) (à (ã ((List.length b)+(List.length ([(([c])++d)])))) (ck (a+(1:Int)) fun j=>h j (b++([(([c])++d)]))))) (i b)
def oi (rec:an->CK b5) (a:an) (b:Int) (d:b5) (f:Int->b5->CK ρ) (g:b5->CK ρ):CK ρ :=
  ifb (ilt b (Õ a)) (à ((ile 0 b)&&(ile b (ï a))) (à (ã (0+(List.length (List.take (Int.toNat b) a)))) (ck (b+(1:Int)) fun c=>à ((ile 0 c)&&(ile c (ï a))) (à (ã ((List.length (([])++(List.take (Int.toNat b) a)))+(List.length (List.drop (Int.toNat c) a)))) (Å (rec ((([])++(List.take (Int.toNat b) a))++(List.drop (Int.toNat c) a))) fun h=>Ë (fun(e:px) i=>kS rec a b h e.1 e.2 (fun j k=>i (j,k)) (fun l=>ck (b+(1:Int)) fun m=>f m l)) ((0:Int),d)))))) (g d)
def nN (rec:an->CK b5) (a:an) (k:b5->CK ρ):CK ρ :=
  ifb (ieq (Õ a) 0) (k ([[]])) (Ë (fun(b:px) c=>oi rec a b.1 b.2 (fun d e=>c (d,e)) (fun f=>k f)) ((0:Int),[]))
def qY:Nat->an->CK b5
  |0=>fun _=>none
  |n+1=>fun a=>nN (qY n) a some
def Gc (a:an):CK (b5):=qY 100 a
def oS (f:b5) (b:Int) (g:a7) (c:Int) (d:a7) (h:Int->a7->CK ρ) (i:a7->CK ρ):CK ρ :=
  ifb (ilt c (Õ f)) (à ((ile 0 b)&&(ilt b (ï g))) (Ĵ g (Int.toNat b) fun a=>à (ã (0+(List.length a))) (ç f c fun e=>à (ã ((List.length (([])++a))+(List.length ([e])))) (à (ã ((List.length d)+(List.length ([((([])++a)++([e]))])))) (ck (c+(1:Int)) fun j=>h j (d++([((([])++a)++([e]))]))))))) (i d)
def oT (e:b5) (b:a7) (a:Int) (c:a7) (f:Int->a7->CK ρ) (g:a7->CK ρ):CK ρ :=
  ifb (ilt a (Õ b)) (Ë (fun(d:i4) h=>oS e a b d.1 d.2 (fun i j=>h (i,j)) (fun k=>ck (a+(1:Int)) fun l=>f l k)) ((0:Int),c)) (g c)
def tN (b:c9) (a:Int) (c:a7) (e:Int->a7->CK ρ) (f:a7->CK ρ):CK ρ :=
  ifb (ilt a (Õ b)) (ç b a fun g=>Å (Gc g.2) fun h=>Ë (fun(d:i4) i=>oT h c d.1 d.2 (fun j k=>i (j,k)) (fun l=>ck (a+(1:Int)) fun m=>e m l)) ((0:Int),[])) (f c)
def oR (f:Int) (g:Int) (h:Int) (i:fx) (j:bx) (k:fy) (l:c7) (m:bx) (n:c9) (b:a7) (a:Int) (c:a7) (d:Int->a7->CK ρ) (o:a7->CK ρ):CK ρ :=
  ifb (ilt a (Õ b)) (à ((ile 0 a)&&(ilt a (ï b))) (Ĵ b (Int.toNat a) fun p=>Å (jU (((g,h),i,j,k,l,m),n) p) fun q=>ifb (ieq q f) (à ((ile 0 a)&&(ilt a (ï b))) (Ĵ b (Int.toNat a) fun e=>à (ã ((List.length c)+(List.length ([e])))) (ck (a+(1:Int)) fun r=>d r (c++([e]))))) (ck (a+(1:Int)) fun s=>d s c))) (o c)
def tM (d:Int) (e:Int) (f:fx) (g:bx) (h:fy) (i:c7) (j:bx) (k:c9) (l:a7) (a:Int) (b:a7) (m:Int->a7->CK ρ) (n:a7->CK ρ):CK ρ :=
  ifb (ile a 20) (Ë (fun(c:i4) o=>oR a d e f g h i j k l c.1 c.2 (fun p q=>o (p,q)) (fun r=>ck (a+(1:Int)) fun s=>m s r)) ((0:Int),b)) (n b)
def P3 (a:bl) (k:a7->CK ρ):CK ρ :=
  Ë (fun(b:i4) d=>tN a.2 b.1 b.2 (fun e f=>d (e,f)) (fun g=>Ë (fun(c:i4) h=>tM a.1.1.1 a.1.1.2 a.1.2.1 a.1.2.2.1 a.1.2.2.2.1 a.1.2.2.2.2.1 a.1.2.2.2.2.2 a.2 g c.1 c.2 (fun i j=>h (i,j)) (fun l=>k l)) ((0:Int),[]))) ((0:Int),[[]])
def Jc (a:bl):CK (a7):=P3 a some
def Kb (a:bl) (c:b5) (d:Int) (e:Int) (k:Int->CK ρ):CK ρ :=
  Å (wL a) fun b=>ifb (ine b 0) (k b) (Å (mc a c) fun f=>ifb (!f) (k (1:Int)) (Å (uL d) fun g=>ifb (!g) (k (1:Int)) (Å (jX a.1 e) fun h=>ifb (ilt h 0) (k (5:Int)) (k (0:Int)))))
def Co (a:bl) (b:b5) (c:Int) (d:Int):CK (Int):=Kb a b c d some
def xH (f:b5) (g:Int) (d:c9) (b:Int) (a:Int) (c:Int->Int->CK ρ) (h:Int->CK ρ):CK ρ :=
  ifb (ige a 0) (ç d a fun i=>ifb (ilt i.1 g) (ç f a fun j=>Å (Gd j b) fun e=>ifb (ige e 0) (ç d a fun k=>ç k.2 e fun l=>ck (a-(1:Int)) fun m=>c l m) (ck (a-(1:Int)) fun n=>c b n)) (ck (a-(1:Int)) fun o=>c b o)) (h b)
def X4 (a:bl) (c:b5) (d:Int) (e:Int) (k:Int->CK ρ):CK ρ :=
  ck ((Õ a.2)-(1:Int)) fun f=>Ë (fun(b:a8) g=>xH c e a.2 b.1 b.2 (fun h i=>g (h,i)) (fun j=>k j)) (d,f)
def qy (a:bl) (b:b5) (c:Int) (d:Int):CK (Int):=X4 a b c d some
def qf (f:b5) (g:Int) (c:c9) (b:Int) (a:Int) (d:Int->Int->CK ρ) (h:Int->CK ρ):CK ρ :=
  ifb (ilt a (Õ c)) (ç c a fun i=>ifb (ilt i.1 g) (ç c a fun j=>Å (Gd j.2 b) fun e=>ifb (ige e 0) (ç f a fun k=>ç k e fun l=>ck (a+(1:Int)) fun m=>d l m) (ck (a+(1:Int)) fun n=>d b n)) (ck (a+(1:Int)) fun o=>d b o)) (h b)
def Kx (b:bl) (c:b5) (d:Int) (e:Int) (k:Int->CK ρ):CK ρ :=
  Ë (fun(a:a8) f=>qf c e b.2 a.1 a.2 (fun g h=>f (g,h)) (fun i=>k i)) (d,(0:Int))
def wK (a:bl) (b:b5) (c:Int) (d:Int):CK (Int):=Kx a b c d some
def oQ (d:Int) (b:an) (a:Int) (e:Int->CK ρ) (c:Int->CK ρ):CK ρ :=
  ifb (ilt a (Õ b)) (à ((ile 0 a)&&(ilt a (ï b))) (Ĵ b (Int.toNat a) fun f=>ifb (ilt f d) (ck (a+(1:Int)) fun g=>e g) (c a))) (c a)
def tK (f:b5) (e:an) (g:Int) (h:Int) (i:Int) (j:fx) (k:bx) (l:fy) (m:c7) (n:bx) (o:c9) (d:Int) (a:an) (p:Int->an->CK ρ) (q:an->CK ρ):CK ρ :=
  ifb (ilt d (Õ e)) (ç e d fun r=>Å (qy (((h,i),j,k,l,m,n),o) f r g) fun c=>Ë (fun(s:Int) t=>oQ c a s (fun u=>t u) (fun b=>à ((ile 0 b)&&(ile b (ï a))) (à (ã (List.length (List.take (Int.toNat b) (List.drop 0 a)))) (à (ã ((List.length (List.take (Int.toNat b) (List.drop 0 a)))+(List.length ([c])))) (à ((ile 0 b)&&(ile b (ï a))) (à (ã ((List.length ((List.take (Int.toNat b) (List.drop 0 a))++([c])))+(List.length (List.take (List.length a-(Int.toNat b)) (List.drop (Int.toNat b) a))))) (ck (d+(1:Int)) fun v=>p v (((List.take (Int.toNat b) (List.drop 0 a))++([c]))++(List.take (List.length a-(Int.toNat b)) (List.drop (Int.toNat b) a)))))))))) (0:Int)) (q a)
def PV (a:bl) (c:b5) (d:an) (e:Int) (k:an->CK ρ):CK ρ :=
  Ë (fun(b:f4) f=>tK c d e a.1.1.1 a.1.1.2 a.1.2.1 a.1.2.2.1 a.1.2.2.2.1 a.1.2.2.2.2.1 a.1.2.2.2.2.2 a.2 b.1 b.2 (fun g h=>f (g,h)) (fun i=>k i)) ((0:Int),[])
def Bz (a:bl) (b:b5) (c:an) (d:Int):CK (an):=PV a b c d some
def ki (f:b5) (g:Int) (h:Int) (i:fx) (b:bx) (j:fy) (k:c7) (l:bx) (m:c9) (c:Int) (d:bx) (n:Int->bx->CK ρ) (o:bx->CK ρ):CK ρ :=
  ifb (ilt c (Õ b)) (ç b c fun a=>Å (qy (((g,h),i,b,j,k,l),m) f a.1 a.2) fun e=>à (ã ((List.length d)+(List.length ([(e,a.2)])))) (ck (c+(1:Int)) fun p=>n p (d++([(e,a.2)])))) (o d)
def kh (f:b5) (g:Int) (h:Int) (i:fx) (j:bx) (b:fy) (k:c7) (l:bx) (m:c9) (c:Int) (d:fy) (n:Int->fy->CK ρ) (o:fy->CK ρ):CK ρ :=
  ifb (ilt c (Õ b)) (ç b c fun a=>Å (qy (((g,h),i,j,b,k,l),m) f a.1 a.2.1.1) fun e=>à (ã ((List.length d)+(List.length ([(e,a.2)])))) (ck (c+(1:Int)) fun p=>n p (d++([(e,a.2)])))) (o d)
def kg (e:b5) (f:Int) (g:Int) (h:fx) (i:bx) (j:fy) (b:c7) (k:bx) (l:c9) (c:Int) (d:c7) (o:Int->c7->CK ρ) (p:c7->CK ρ):CK ρ :=
  ifb (ilt c (Õ b)) (ç b c fun a=>Å (Bz (((f,g),h,i,j,b,k),l) e a.2.2.1 a.2.1) fun m=>Å (Bz (((f,g),h,i,j,b,k),l) e a.2.2.2.1 a.2.1) fun n=>à (ã ((List.length d)+(List.length ([(a.1,a.2.1,m,n,a.2.2.2.2)])))) (ck (c+(1:Int)) fun q=>o q (d++([(a.1,a.2.1,m,n,a.2.2.2.2)])))) (p d)
def ke (f:b5) (g:Int) (h:Int) (i:fx) (j:bx) (k:fy) (l:c7) (b:bx) (m:c9) (c:Int) (d:bx) (n:Int->bx->CK ρ) (o:bx->CK ρ):CK ρ :=
  ifb (ilt c (Õ b)) (ç b c fun a=>Å (qy (((g,h),i,j,k,l,b),m) f a.1 a.2) fun e=>à (ã ((List.length d)+(List.length ([(e,a.2)])))) (ck (c+(1:Int)) fun p=>n p (d++([(e,a.2)])))) (o d)
def uZ (a:bl) (b:b5) (k:b6->CK ρ):CK ρ :=
  Ë (fun(c:pc) g=>ki b a.1.1.1 a.1.1.2 a.1.2.1 a.1.2.2.1 a.1.2.2.2.1 a.1.2.2.2.2.1 a.1.2.2.2.2.2 a.2 c.1 c.2 (fun h i=>g (h,i)) (fun j=>Ë (fun(d:y6) l=>kh b a.1.1.1 a.1.1.2 a.1.2.1 a.1.2.2.1 a.1.2.2.2.1 a.1.2.2.2.2.1 a.1.2.2.2.2.2 a.2 d.1 d.2 (fun m n=>l (m,n)) (fun o=>Ë (fun(e:Val bc) p=>kg b a.1.1.1 a.1.1.2 a.1.2.1 a.1.2.2.1 a.1.2.2.2.1 a.1.2.2.2.2.1 a.1.2.2.2.2.2 a.2 e.1 e.2 (fun q r=>p (q,r)) (fun s=>Ë (fun(f:pc) t=>ke b a.1.1.1 a.1.1.2 a.1.2.1 a.1.2.2.1 a.1.2.2.2.1 a.1.2.2.2.2.1 a.1.2.2.2.2.2 a.2 f.1 f.2 (fun u v=>t (u,v)) (fun w=>k (a.1.1,a.1.2.1,j,o,s,w))) ((0:Int),[]))) ((0:Int),[]))) ((0:Int),[]))) ((0:Int),[])
def π (a:bl) (b:b5):CK b6:=uZ a b some
def xr (a:bl) (b:b5) (g:Int) (h:Int) (k:Bool->CK ρ):CK ρ :=
  Å (Cm a) fun m=>ifb (!m) (Å ľ fun n=>k n) (Å (Cn b (8:Int)) fun o=>ifb (!o) (Å ľ fun p=>k p) (Å (I8 a) fun l=>Å (Cr a b) fun c=>Å (Sc a b g h) fun e=>Å (Jb a b g h) fun f=>Å (qx a b) fun d=>Å (wL a) fun i=>ifb (ine i 0) (Å ľ fun q=>ifb q (ifb (ieq l.2 i) (ifb (ieq c.2 i) (ifb (ieq e.2 i) (ifb (ieq f.2 i) (ifb (ieq d.2 i) (ck ((Õ l.1)+c.1) fun r=>ck (r+e.1) fun s=>ck (s+f.1) fun t=>ifb (ieq t 0) (Å (δ d.1 (((0:Int),(0:Int)),[],[],[],[],[])) fun u=>k u) (k false)) (k false)) (k false)) (k false)) (k false)) (k false)) (k false)) (ifb (ine l.2 0) (k false) (Å (Jc a) fun v=>Å (mR l.1 v) fun w=>ifb (!w) (k false) (Å (Co a b h g) fun j=>ifb (ine j 0) (ifb (ine e.2 j) (k false) (ifb (ine f.2 j) (k false) (ifb (ine e.1 0) (k false) (ifb (ine f.1 0) (k false) (ifb (ieq j 0) (ifb (ine e.2 0) (k false) (ifb (ine f.2 0) (k false) (Å (qy a b g h) fun x=>ifb (ine e.1 x) (k false) (Å (wK a b g h) fun y=>ifb (ine f.1 y) (k false) (Å (mc a b) fun z=>ifb (!z) (Å ľ fun A=>ifb A (ifb (ieq c.2 1) (ifb (ieq d.2 1) (ifb (ieq c.1 0) (Å (δ d.1 (((0:Int),(0:Int)),[],[],[],[],[])) fun B=>k B) (k false)) (k false)) (k false)) (k false)) (Å ľ fun C=>ifb C (ifb (ieq c.2 0) (ifb (ieq d.2 0) (Å (jU a b) fun D=>ifb (ieq c.1 D) (Å (π a b) fun E=>Å (δ d.1 E) fun F=>k F) (k false)) (k false)) (k false)) (k false))))))) (Å (mc a b) fun G=>ifb (!G) (Å ľ fun H=>ifb H (ifb (ieq c.2 1) (ifb (ieq d.2 1) (ifb (ieq c.1 0) (Å (δ d.1 (((0:Int),(0:Int)),[],[],[],[],[])) fun I=>k I) (k false)) (k false)) (k false)) (k false)) (Å ľ fun J=>ifb J (ifb (ieq c.2 0) (ifb (ieq d.2 0) (Å (jU a b) fun K=>ifb (ieq c.1 K) (Å (π a b) fun L=>Å (δ d.1 L) fun M=>k M) (k false)) (k false)) (k false)) (k false)))))))) (ifb (ieq j 0) (ifb (ine e.2 0) (k false) (ifb (ine f.2 0) (k false) (Å (qy a b g h) fun N=>ifb (ine e.1 N) (k false) (Å (wK a b g h) fun O=>ifb (ine f.1 O) (k false) (Å (mc a b) fun P=>ifb (!P) (Å ľ fun Q=>ifb Q (ifb (ieq c.2 1) (ifb (ieq d.2 1) (ifb (ieq c.1 0) (Å (δ d.1 (((0:Int),(0:Int)),[],[],[],[],[])) fun R=>k R) (k false)) (k false)) (k false)) (k false)) (Å ľ fun S=>ifb S (ifb (ieq c.2 0) (ifb (ieq d.2 0) (Å (jU a b) fun T=>ifb (ieq c.1 T) (Å (π a b) fun U=>Å (δ d.1 U) fun V=>k V) (k false)) (k false)) (k false)) (k false))))))) (Å (mc a b) fun W=>ifb (!W) (Å ľ fun X=>ifb X (ifb (ieq c.2 1) (ifb (ieq d.2 1) (ifb (ieq c.1 0) (Å (δ d.1 (((0:Int),(0:Int)),[],[],[],[],[])) fun Y=>k Y) (k false)) (k false)) (k false)) (k false)) (Å ľ fun Z=>ifb Z (ifb (ieq c.2 0) (ifb (ieq d.2 0) (Å (jU a b) fun df=>ifb (ieq c.1 df) (Å (π a b) fun dg=>Å (δ d.1 dg) fun dh=>k dh) (k false)) (k false)) (k false)) (k false)))))))))
def yz (a:bl) (b:b5) (c:Int) (d:Int):CK (Bool):=xr a b c d some
end Go.Proofs.ZzM
end
