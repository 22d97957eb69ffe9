/- lemmas -/
import Derived.Test.YtdmegkgjpgcfgaaGreatAmE
set_option linter.all false
noncomputable section
variable {ρ:Type}
set_option maxRecDepth 100000
namespace Go.Proofs.ZzM
open Go Go.Am
abbrev tI:Ty:=.int .i64
abbrev Ã:Ty:=(.pair tI tI)
abbrev ĝ:Ty:=(.pair tI Ã)
abbrev Ě:Ty:=(.pair tI (.slice tI))
abbrev ç:Ty:=(.pair Ã Ã)
abbrev Α:Ty:=(.pair Ã tI)
abbrev ω:Ty:=(.pair tI Α)
abbrev vc:Ty:=(.pair ç tI)
abbrev Ð:Ty:=(.pair tI (.slice ĝ))
abbrev yH:Ty:=(.pair (.slice ĝ) (.slice Ã))
abbrev Ö:Ty:=(.pair tI (.pair tI (.pair tI (.pair Ã Α))))
abbrev Ô:Ty:=(.pair tI (.pair tI (.pair (.slice tI) (.pair (.slice tI) (.pair tI ĝ)))))
abbrev È:Ty:=(.pair Ã (.pair (.slice Ö) (.pair (.slice Ã) (.pair (.slice ω) (.pair (.slice Ô) (.slice Ã))))))
abbrev Â:Ty:=(.pair È (.slice Ě))
abbrev anp:Ty:=(.pair È (.pair (.slice Ã) (.pair Ð (.slice Ã))))
def B9 (l:BY Int):BE (BY Int):=à (ã l.length) (some l)
def vu:Nat->BY Int->BY (BY Int)
  |0,_=>[[]]
  |n+1,l=>if l.length=0 then[[]] else(List.range l.length).flatMap fun i=>(vu n (l.take i++l.drop (i+1))).map (l.getD i 0::·)
def ξ:BY (Int×BY Int)->BY (BY (BY Int))
  |[]=>[[]]
  |m::r=>(vu m.2.length m.2).flatMap fun x=>(ξ r).map (x::·)
def Ca (l:BY Int):BE (BY (BY Int)):=à (decide (l.length<=9)) (some (vu l.length l))
def nW (l:BY (Int×BY Int)):BE (BY (BY (BY Int))):=à (decide (l.length<=9)&&l.all fun m=>decide (m.2.length<=9)) (some (ξ l))
abbrev aa:Ty:=(.slice Ã)
abbrev ab:Ty:=(.slice tI)
abbrev ac:Ty:=(.slice Ô)
abbrev ae:Ty:=(.slice Ö)
abbrev af:Ty:=(.slice ω)
abbrev ah:Ty:=(.slice ab)
abbrev ai:Ty:=(.pair tI (.pair tI (.pair ae (.pair aa (.pair af (.pair ac (.pair aa (.slice Ě))))))))
abbrev aj:Ty:=(.slice Ě)
abbrev ak:Ty:=(.slice ah)
abbrev am:Ty:=(.slice ĝ)
abbrev ao:Ty:=(.pair tI (.pair tI (.pair ae (.pair aa (.pair af (.pair ac aa))))))
abbrev aq:Ty:=(.map tI Ö)
abbrev ar:Ty:=(.pair tI (.pair tI (.pair tI (.pair ae (.pair aa (.pair af (.pair ac (.pair aa (.pair tI (.pair tI (.pair tI (.pair tI (.pair tI ĝ)))))))))))))
abbrev au:Ty:=(.map tI .bool)
abbrev aw:Ty:=(.pair tI (.pair tI (.pair ae (.pair aa (.pair af (.pair ac (.pair aa (.pair tI (.pair tI (.pair ab (.pair ab (.pair tI (.pair tI (.pair tI Ě))))))))))))))
abbrev ax:Ty:=(.slice .bool)
abbrev ay:Ty:=(.ptr Â)
abbrev az:Ty:=(.pair ab tI)
abbrev aB:Ty:=(.pair tI (.pair ak ai))
abbrev aD:Ty:=(.pair tI ak)
abbrev aE:Ty:=(.pair Â ah)
abbrev aF:Ty:=(.pair tI (.pair tI (.pair ae (.pair aa (.pair af (.pair ac (.pair aa (.pair aj ai))))))))
abbrev aG:Ty:=(.pair È Ã)
abbrev aH:Ty:=(.pair tI (.pair tI (.pair ae (.pair aa (.pair af (.pair ac (.pair aa Ě)))))))
abbrev aI:Ty:=(.pair tI (.pair tI (.pair tI (.pair ae (.pair aa (.pair af (.pair ac (.pair aa (.pair tI ĝ)))))))))
abbrev aJ:Ty:=(.pair tI ai)
abbrev aK:Ty:=(.pair È Ô)
abbrev aL:Ty:=(.pair tI (.pair tI (.pair ae (.pair aa (.pair af (.pair ac (.pair aa (.pair aj ak))))))))
abbrev aM:Ty:=(.pair ab (.pair tI (.pair tI (.pair tI (.pair ae (.pair aa (.pair af (.pair ac (.pair aa (.pair tI (.pair ab (.map tI tI))))))))))))
abbrev aO:Ty:=(.ptr ah)
abbrev aP:Ty:=(.pair tI ah)
abbrev aQ:Ty:=(.pair ab ab)
abbrev aR:Ty:=(.pair tI aa)
abbrev aS:Ty:=(.pair tI (.pair tI (.pair ae (.pair aa (.pair af (.pair ac (.pair aa (.pair aj ab))))))))
abbrev aT:Ty:=(.pair tI Ð)
abbrev aU:Ty:=(.pair tI yH)
abbrev aV:Ty:=(.pair ax ab)
abbrev aW:Ty:=(.pair tI (.pair tI (.pair tI (.pair tI (.pair tI aB)))))
abbrev aX:Ty:=(.pair aa (.pair tI (.pair tI (.pair tI (.pair tI (.pair tI (.pair tI ĝ)))))))
abbrev aY:Ty:=(.pair Â (.pair ah Ã))
abbrev aZ:Ty:=(.pair .bool tI)
abbrev ba:Ty:=(.map tI Ã)
abbrev bc:Ty:=(.pair tI ac)
abbrev bf:Ty:=(.pair ab (.pair tI (.pair tI az)))
abbrev bg:Ty:=(.pair tI Ě)
abbrev bh:Ty:=(.ptr anp)
abbrev bi:Ty:=(.pair ab Ě)
abbrev bj:Ty:=(.map tI tI)
abbrev bm:Ty:=(.pair ab (.pair ax aQ))
abbrev bn:Ty:=(.pair ah tI)
abbrev bo:Ty:=(.pair ω .bool)
abbrev bp:Ty:=(.pair È tI)
abbrev bq:Ty:=(.pair aa tI)
abbrev br:Ty:=(.pair ab (.pair aj ab))
abbrev bt:Ty:=(.pair tI (.pair tI aJ))
abbrev bu:Ty:=(.pair (.int .u64) (.int .u64))
abbrev bv:Ty:=(.pair Ð ab)
abbrev bw:Ty:=(.pair tI (.pair tI ĝ))
abbrev bz:Ty:=(.pair È (.pair aq tI))
abbrev bB:Ty:=(.pair tI (.pair tI (.pair am Ð)))
abbrev an:=Val ab
abbrev a7:=Val ak
abbrev a8:=Val Â
abbrev bl:=Val Ã
abbrev bx:=Val aa
abbrev b5:=Val ah
abbrev b6:=Val È
abbrev c7:=Val ac
abbrev c9:=Val aj
abbrev fx:=Val af
abbrev fy:=Val ae
abbrev f4:=Val Ě
abbrev ge:=Val Ð
abbrev hO:=Val ç
abbrev im:=Val am
abbrev io:=Val aD
abbrev i4:=Val Ô
abbrev js:=Val Α
abbrev kw:=Val (.map tI Ö)
abbrev ly:=Val aE
abbrev lA:=Val az
abbrev l7:=Val (.pair tI (.pair tI .bool))
abbrev ni:=Val (.pair tI (.pair ab aV))
abbrev nj:=Val Ö
abbrev nm:=Val aG
abbrev nn:=Val aR
abbrev pc:=Val (.pair tI (.slice tI))
abbrev pi:=Val aP
abbrev px:=Val (.pair ak tI)
abbrev py:=Val aq
abbrev qs:=Val (.pair ah aJ)
abbrev rd:=Val (.pair ah .bool)
abbrev rm:=Val ĝ
abbrev rn:=Val aK
abbrev rx:=Val (.pair .bool Ě)
abbrev ry:=Val ai
abbrev r8:=Val (.slice tI)
abbrev so:=Val ω
abbrev th:=Val (.slice (.slice tI))
abbrev u5:=Val aZ
abbrev u6:=Val aQ
abbrev u7:=Val aB
abbrev v6:=Val aU
abbrev v8:=Val ax
abbrev wk:=Val (.pair ab aP)
abbrev wl:=Val (.pair Â Ã)
abbrev xa:=Val (.pair ç Ã)
abbrev xl:=Val (.pair È Ě)
abbrev x9:=Val (.pair ab az)
abbrev y5:=Val (.pair Â ab)
abbrev y6:=Val (.pair tI af)
abbrev y8:=Val (.pair tI aV)
abbrev y9:=Val (.pair tI aD)
abbrev An:=Val (.pair tI aB)
abbrev At:=Val (.pair tI bc)
abbrev AN:=Val (.pair tI bg)
abbrev AS:=Val (.pair ab .bool)
def Ρ (d:b5) (e:Int) (b:Int) (a:Int) (f:Int->Int->BE ρ) (g:Int->BE ρ):BE ρ :=
  ifb (ilt a e) (é d a fun h=>ck (b+(Õ h)) fun c=>ifb (ilt c 0) (none) (ck (a+(1:Int)) fun i=>f c i)) (g b)
def Ĥ (d:b5) (e:Int) (a:Int) (b:an) (f:Int->an->BE ρ) (g:an->BE ρ):BE ρ :=
  ifb (ilt a e) (é d a fun c=>à (ã ((List.length b)+(List.length c))) (ck (a+(1:Int)) fun h=>f h (b++c))) (g b)
def mK (a:b5) (k:an->BE ρ):BE ρ :=
  Ë (fun(c:bl) g=>Ρ a (Õ a) c.1 c.2 (fun h i=>g (h,i)) (fun d=>ifb (ilt d 0) (none) (ck (d-(0:Int)) fun b=>ifb (igt b 0) (à ((ilt 0 b)&&(ã (Int.toNat b))) (à (ile 0 (í (List.replicate (Int.toNat b) (0:Int)))) (Ë (fun(e:f4) j=>Ĥ a (Õ a) e.1 e.2 (fun l m=>j (l,m)) (fun n=>k n)) ((0:Int),(List.take 0 (List.replicate (Int.toNat b) (0:Int))))))) (Ë (fun(f:f4) o=>Ĥ a (Õ a) f.1 f.2 (fun p q=>o (p,q)) (fun r=>k r)) ((0:Int),[]))))) ((0:Int),(0:Int))
def ĩ (a:b5):BE (an):=mK a some
def rc (al:b5) (rec:an->BE (b5)) (a:Int) (b:b5) (y:an) (c:b5->BE ρ):BE ρ :=
  à (ã ((List.length ([a]))+(List.length y))) (yg al (b++[(([a])++y)]) (c (b++[(([a])++y)])))
def rg (al:b5) (rec:an->BE (b5)) (e:an) (f:Int) (b:an) (a:Int) (d:b5) (g:Int->b5->BE ρ) (h:b5->BE ρ):BE ρ :=
  ifb (ilt a f) (é e a fun i=>à ((ile 0 a)&&(ile a (í b))) (ck (a+(1:Int)) fun c=>à ((ile 0 c)&&(ile c (í b))) (Æ (ĩ ([(List.take (Int.toNat a) b),(List.drop (Int.toNat c) b)])) fun j=>Æ (rec j) fun k=>Bm (fun(l:b5) (m:an) n=>rc al rec i l m (fun o=>n o)) k (d) (fun p=>ck (a+(1:Int)) fun q=>g q p)))) (h d)
def zV (al:b5) (rec:an->BE (b5)) (mm:an) (k:(b5)×(an)->BE ρ):BE ρ :=
  ifb (ieq (Õ mm) 0) (yg al (([])++[[]]) (k ((([])++[[]]),mm))) (Ë (fun(a:pi) b=>rg al rec mm (Õ mm) mm a.1 a.2 (fun c d=>b (c,d)) (fun e=>k (e,mm))) ((0:Int),[]))
def nJ (al:a7) (rec:c9->BE (a7)) (a:an) (b:a7) (y:b5) (c:a7->BE ρ):BE ρ :=
  à (ã ((List.length ([a]))+(List.length y))) (yg al (b++[(([a])++y)]) (c (b++[(([a])++y)])))
def nM (al:a7) (rec:c9->BE (a7)) (a:c9) (b:a7) (y:an) (c:a7->BE ρ):BE ρ :=
  à (ile 1 (í a)) (Æ (rec (List.drop 1 a)) fun d=>Bm (fun(e:a7) (f:b5) g=>nJ al rec y e f (fun h=>g h)) d (b) (fun i=>c i))
def uJ (al:a7) (rec:c9->BE (a7)) (mm:c9) (k:(a7)×(c9)->BE ρ):BE ρ :=
  ifb (ieq (Õ mm) 0) (yg al (([])++[[]]) (k ((([])++[[]]),mm))) (é mm (0:Int) fun a=>Æ (Ca a.2) fun b=>Bm (fun(c:a7) (d:an) e=>nM al rec mm c d (fun f=>e f)) b ([]) (fun g=>k (g,mm)))
def jd (al:an) (rec:an->BE (an)) (d:an) (e:Int) (a:Int) (b:an) (f:Int->an->BE ρ) (g:an->BE ρ):BE ρ :=
  ifb (ilt a e) (é d a fun c=>yg al (b++[c]) (ck (a+(1:Int)) fun h=>f h (b++[c]))) (g b)
def kS (al:an) (rec:an->BE (an)) (mm:an) (k:(an)×(an)->BE ρ):BE ρ :=
  Ë (fun(a:f4) b=>jd al rec mm (Õ mm) a.1 a.2 (fun c d=>b (c,d)) (fun e=>k (e,mm))) ((0:Int),[])
def ο (b:an) (c:Int) (d:Int) (a:Int) (e:Int->BE ρ) (f:Int->BE ρ) (g:Unit->BE ρ):BE ρ :=
  ifb (ilt a d) (é b a fun h=>ifb (ieq c h) (f a) (ck (a+(1:Int)) fun i=>e i)) (g ())
def nN (a:an) (b:Int) (k:Int->BE ρ):BE ρ :=
  Ë (fun(c:Int) d=>ο a b (Õ a) c (fun e=>d e) (fun f=>k f) (fun _=>k (-1:Int))) (0:Int)
def iN (a:an) (b:Int):BE (Int):=nN a b some
def kT (a:an) (b:Int) (k:Bool->BE ρ):BE ρ :=
  Æ (iN a b) fun c=>k (ige c 0)
def å (a:an) (b:Int):BE (Bool):=kT a b some
def xY (f:c7) (g:Int) (d:Int) (a:Int) (b:an) (e:Int->an->BE ρ) (h:an->BE ρ):BE ρ :=
  ifb (ilt a g) (é f a fun c=>Æ (å c.2.2.1 d) fun i=>Æ (å c.2.2.2.1 d) fun j=>ifb (!(i==j)) (à (ã ((List.length b)+(List.length ([c.2.1])))) (ck (a+(1:Int)) fun k=>e k (b++([c.2.1])))) (ck (a+(1:Int)) fun l=>e l b)) (h b)
def xX (e:bx) (f:Int) (g:Int) (a:Int) (b:an) (d:Int->an->BE ρ) (h:an->BE ρ):BE ρ :=
  ifb (ilt a f) (é e a fun c=>ifb (ieq c.1 g) (à (ã ((List.length b)+(List.length ([c.2])))) (ck (a+(1:Int)) fun i=>d i (b++([c.2])))) (ck (a+(1:Int)) fun j=>d j b)) (h b)
def Ya (a:b6) (b:nj) (k:an->BE ρ):BE ρ :=
  Ë (fun(d:f4) f=>xY a.2.2.2.2.1 (Õ a.2.2.2.2.1) b.1 d.1 d.2 (fun g h=>f (g,h)) (fun i=>Ë (fun(e:f4) j=>xX a.2.2.2.2.2 (Õ a.2.2.2.2.2) b.1 e.1 e.2 (fun l m=>j (l,m)) (fun c=>à (ã (List.length c)) (à (ã (List.length (zn c))) (k (CA (zn c)))))) ((0:Int),i))) ((0:Int),[b.2.1])
def qx (a:b6) (b:nj):BE (an):=Ya a b some
def uh (e:an) (f:Int) (c:Int) (a:Int) (b:bx) (g:Int->bx->BE ρ) (h:bx->BE ρ):BE ρ :=
  ifb (ilt a f) (é e a fun d=>à (ã ((List.length b)+(List.length ([(c,d)])))) (ck (a+(1:Int)) fun i=>g i (b++([(c,d)])))) (h b)
def uj (f:fy) (g:Int) (h:Int) (i:Int) (j:fy) (k:bx) (l:fx) (m:c7) (n:bx) (a:Int) (b:bx) (o:Int->bx->BE ρ) (p:bx->BE ρ):BE ρ :=
  ifb (ilt a g) (é f a fun c=>Æ (qx ((h,i),j,k,l,m,n) c) fun d=>Ë (fun(e:nn) q=>uh d (Õ d) c.1 e.1 e.2 (fun r s=>q (r,s)) (fun t=>ck (a+(1:Int)) fun u=>o u t)) ((0:Int),b)) (p b)
def QK (a:b6) (k:bx->BE ρ):BE ρ :=
  Ë (fun(b:nn) c=>uj a.2.1 (Õ a.2.1) a.1.1 a.1.2 a.2.1 a.2.2.1 a.2.2.2.1 a.2.2.2.2.1 a.2.2.2.2.2 b.1 b.2 (fun d e=>c (d,e)) (fun f=>k f)) ((0:Int),[])
def sh (a:b6):BE (bx):=QK a some
def Kw (a:bl) (b:Int) (c:Int) (k:Bool->BE ρ):BE ρ :=
  ifb (ile b a.1) (ifb (ile a.1 a.2) (k (ile a.2 c)) (k false)) (k false)
def Κ (a:bl) (b:Int) (c:Int):BE (Bool):=Kw a b c some
def Kr (a:Int) (b:Int) (c:Int) (k:Bool->BE ρ):BE ρ :=
  ifb (ile b a) (k (ile a c)) (k false)
def ġ (a:Int) (b:Int) (c:Int):BE (Bool):=Kr a b c some
def QO (a:Int) (k:Bool->BE ρ):BE ρ :=
  Æ (ġ a (0:Int) (20000:Int)) fun b=>k b
def mU (a:Int):BE (Bool):=QO a some
def XQ (a:Int) (k:Int->BE ρ):BE ρ :=
  ifb (ilt a 0) (k (IntKind.wrap .u64 (0-(IntKind.wrap .u64 a)))) (k (IntKind.wrap .u64 a))
def uB (a:Int):BE (Int):=XQ a some
def B0 (b:Int) (a:Int) (c:Int->Int->BE ρ) (d:Int->BE ρ):BE ρ :=
  ifb (ine a 0) (ifb (oy a 0) (none) (c a (Int.tmod b a))) (d b)
def ac4 (b:Int) (c:Int) (k:Int->BE ρ):BE ρ :=
  Ë (fun(a:Val bu) d=>B0 a.1 a.2 (fun e f=>d (e,f)) (fun g=>k g)) (b,c)
def Rv (a:Int) (b:Int):BE (Int):=ac4 a b some
def QC (a:bl) (k:Bool->BE ρ):BE ρ :=
  ifb (ige a.2 1) (ifb (ile a.2 2147483647) (Æ (uB a.1) fun b=>ifb (ile b 2147483647) (Æ (uB a.1) fun c=>Æ (uB a.2) fun d=>Æ (Rv c d) fun e=>k (ieq e 1)) (k false)) (k false)) (k false)
def wG (a:bl):BE (Bool):=QC a some
def FH (a:nj) (k:Bool->BE ρ):BE ρ :=
  Æ (wG a.2.2.2.2.1) fun b=>ifb b (Æ (ġ a.2.2.2.2.1.1 (-1000:Int) (1000:Int)) fun c=>ifb c (Æ (ġ a.1 (1:Int) (1099511627776:Int)) fun d=>ifb d (Æ (mU a.2.1) fun e=>ifb e (Æ (ġ a.2.2.1 (1:Int) (1125899906842624:Int)) fun f=>ifb f (Æ (Κ a.2.2.2.1 (-1073741824:Int) (1073741824:Int)) fun g=>ifb g (ifb (ile a.2.2.2.2.1.2 100) (Æ (ġ a.2.2.2.2.2 (0:Int) (1048576:Int)) fun h=>k h) (k false)) (k false)) (k false)) (k false)) (k false)) (Æ (ġ a.1 (1:Int) (1099511627776:Int)) fun i=>ifb i (Æ (mU a.2.1) fun j=>ifb j (Æ (ġ a.2.2.1 (1:Int) (1125899906842624:Int)) fun l=>ifb l (Æ (Κ a.2.2.2.1 (-1073741824:Int) (1073741824:Int)) fun m=>ifb m (k false) (k false)) (k false)) (k false)) (k false))) (Æ (ġ a.1 (1:Int) (1099511627776:Int)) fun n=>ifb n (Æ (mU a.2.1) fun o=>ifb o (Æ (ġ a.2.2.1 (1:Int) (1125899906842624:Int)) fun p=>ifb p (Æ (Κ a.2.2.2.1 (-1073741824:Int) (1073741824:Int)) fun q=>ifb q (k false) (k false)) (k false)) (k false)) (k false))
def yy (a:nj):BE (Bool):=FH a some
def jF (e:fy) (f:Int) (g:fy) (a:Int) (b:Int->BE ρ) (c:Int->BE ρ) (h:Unit->BE ρ):BE ρ :=
  ifb (ilt a f) (é e a fun d=>Æ (yy d) fun i=>ifb (!i) (c (1:Int)) (ifb (igt a 0) (ck (a-(1:Int)) fun j=>é g j fun k=>ifb (ile d.1 k.1) (c (6:Int)) (ck (a+(1:Int)) fun l=>b l)) (ck (a+(1:Int)) fun m=>b m))) (h ())
def rR (a:b6) (k:Int->BE ρ):BE ρ :=
  Ë (fun(b:Int) c=>jF a.2.1 (Õ a.2.1) a.2.1 b (fun d=>c d) (fun e=>k e) (fun _=>k (0:Int))) (0:Int)
def Ż (a:b6):BE (Int):=rR a some
def ot (d:fy) (e:Int) (a:Int) (b:py) (f:Int->py->BE ρ) (g:py->BE ρ):BE ρ :=
  ifb (ilt a e) (é d a fun c=>ck (a+(1:Int)) fun h=>f h (UW (k:=tI) (v:=Ö) c.1 c b)) (g b)
def FF (a:b6) (k:py->BE ρ):BE ρ :=
  Ë (fun(b:(Val (.pair tI aq))) c=>ot a.2.1 (Õ a.2.1) b.1 b.2 (fun d e=>c (d,e)) (fun f=>k f)) ((0:Int),[])
def Ń (a:b6):BE (py):=FF a some
def uS (a:py) (b:Int) (c:Int) (k:Int->BE ρ):BE ρ :=
  Sk (k:=tI) (v:=Ö) b a (fun d=>ifb (ilt c d.2.1) (k (4:Int)) (k (0:Int))) (k (5:Int))
def jy (a:py) (b:Int) (c:Int):BE (Int):=uS a b c some
def FG (b:Int) (a:Int) (c:(Val (.ptr aq))) (k:Int->BE ρ):BE ρ :=
  Æ (mU a) fun d=>ifb (!d) (k (1:Int)) (Æ (jy c b a) fun e=>k e)
def ń (a:Int) (b:Int) (c:(Val (.ptr aq))):BE (Int):=FG a b c some
def lN (d:fx) (e:Int) (f:Int) (g:Int) (h:Int) (a:Int) (b:Int->BE ρ) (i:Int->BE ρ) (j:Unit->BE ρ):BE ρ :=
  ifb (ilt a e) (é d a fun c=>ifb (ieq c.1 f) (ifb (ile c.2.1.1 h) (ifb (ile g c.2.1.2) (i a) (ck (a+(1:Int)) fun k=>b k)) (ck (a+(1:Int)) fun l=>b l)) (ck (a+(1:Int)) fun m=>b m)) (j ())
def Ι (d:bx) (e:Int) (f:Int) (g:Int) (h:Int) (a:Int) (b:Int->BE ρ) (i:Int->BE ρ) (j:Unit->BE ρ):BE ρ :=
  ifb (ilt a e) (é d a fun c=>ifb (ieq c.1 f) (Æ (ġ c.2 g h) fun k=>ifb k (i a) (ck (a+(1:Int)) fun l=>b l)) (ck (a+(1:Int)) fun m=>b m)) (j ())
def xZ (b:b6) (e:py) (c:Int) (k:Int->BE ρ):BE ρ :=
  é b.2.2.2.1 c fun a=>Æ (Κ a.2.1 (0:Int) (20000:Int)) fun f=>ifb (!f) (k (1:Int)) (Æ (ġ a.2.2 (0:Int) (1048576:Int)) fun g=>ifb (!g) (k (1:Int)) (Æ (jy e a.1 a.2.1.1) fun d=>ifb (ine d 0) (k d) (à ((ile 0 c)&&(ile c (í b.2.2.2.1))) (Ë (fun(h:Int) i=>lN (List.take (Int.toNat c) b.2.2.2.1) (Õ (List.take (Int.toNat c) b.2.2.2.1)) a.1 a.2.1.1 a.2.1.2 h (fun j=>i j) (fun l=>ifb (ige l 0) (k (9:Int)) (Ë (fun(m:Int) n=>Ι b.2.2.1 (Õ b.2.2.1) a.1 a.2.1.1 a.2.1.2 m (fun o=>n o) (fun p=>ifb (ige p 0) (k (9:Int)) (k (0:Int))) (fun _=>k (0:Int))) (0:Int))) (fun _=>Ë (fun(q:Int) r=>Ι b.2.2.1 (Õ b.2.2.1) a.1 a.2.1.1 a.2.1.2 q (fun s=>r s) (fun t=>ifb (ige t 0) (k (9:Int)) (k (0:Int))) (fun _=>k (0:Int))) (0:Int))) (0:Int)))))
def Χ (a:b6) (b:py) (c:Int):BE (Int):=xZ a b c some
def xW (c:Int) (d:an) (b:an) (a:Int) (e:Int->BE ρ) (f:Int->BE ρ) (g:Unit->BE ρ):BE ρ :=
  ifb (ilt a c) (à ((ile 0 a)&&(ilt a (í b))) (ī b (Int.toNat a) fun h=>Æ (å d h) fun i=>ifb i (f a) (ck (a+(1:Int)) fun j=>e j))) (g ())
def lW (f:an) (b:Int) (c:Int) (a:an) (d:Int->Int->an->BE ρ) (g:f4->BE ρ):BE ρ :=
  ifb (ilt c (Õ a)) (à ((ile 0 c)&&(ilt c (í a))) (ī a (Int.toNat c) fun e=>Æ (å f e) fun h=>ifb (!h) (à ((ile 0 b)&&(ilt b (í a))) (ī a (Int.toNat b) fun l=>ck (b+(1:Int)) fun i=>ck (c+(1:Int)) fun j=>d i j (List.set a (Int.toNat b) e))) (ck (c+(1:Int)) fun k=>d b k a))) (g (b,a))
def X5 (b:an) (e:an) (k:an->BE ρ):BE ρ :=
  à (ã (List.length b)) (Ë (fun(f:Int) g=>xW (Õ b) e b f (fun h=>g h) (fun c=>ifb (ieq c (-1:Int)) (k b) (ck (c+(1:Int)) fun i=>Ë (fun(d:Val bg) j=>lW e d.1 d.2.1 d.2.2 (fun l m n=>j (l,m,n)) (fun a=>à ((ile 0 a.1)&&(ile a.1 (í a.2))) (à ((ile 0 a.1)&&(ile a.1 (í (List.take (Int.toNat a.1) a.2++List.replicate (List.length a.2-(Int.toNat a.1)) (0:Int)++List.drop ((Int.toNat a.1)+(List.length a.2-(Int.toNat a.1))) a.2)))) (k (List.take (Int.toNat a.1) (List.drop 0 (List.take (Int.toNat a.1) a.2++List.replicate (List.length a.2-(Int.toNat a.1)) (0:Int)++List.drop ((Int.toNat a.1)+(List.length a.2-(Int.toNat a.1))) a.2))))))) (c,i,b))) (fun _=>k b)) (0:Int))
def Φ (a:an) (b:an):BE (an):=X5 a b some
def qq (e:an) (f:an) (g:Int) (a:Int) (b:Int->BE ρ) (c:Bool->BE ρ) (h:Unit->BE ρ):BE ρ :=
  ifb (ilt a g) (é f a fun d=>Æ (ġ d (1:Int) (1099511627776:Int)) fun i=>ifb (!i) (c false) (ifb (igt a 0) (ck (a-(1:Int)) fun j=>é e j fun k=>ifb (ile d k) (c false) (ck (a+(1:Int)) fun l=>b l)) (ck (a+(1:Int)) fun m=>b m))) (h ())
def Kv (a:an) (k:Bool->BE ρ):BE ρ :=
  Ë (fun(b:Int) c=>qq a a (Õ a) b (fun d=>c d) (fun e=>k e) (fun _=>k (ile (Õ a) 6))) (0:Int)
def oa (a:an):BE (Bool):=Kv a some
def ya (d:fx) (e:Int) (f:Int) (g:Int) (a:Int) (c:Int->BE ρ) (h:Int->BE ρ) (i:Unit->BE ρ):BE ρ :=
  ifb (ilt a e) (é d a fun b=>ifb (ieq b.1 f) (Æ (ġ g b.2.1.1 b.2.1.2) fun j=>ifb j (h a) (ck (a+(1:Int)) fun k=>c k)) (ck (a+(1:Int)) fun l=>c l)) (i ())
def Yb (a:b6) (c:Int) (d:Int) (k:Val bo->BE ρ):BE ρ :=
  Ë (fun(e:Int) f=>ya a.2.2.2.1 (Õ a.2.2.2.1) c d e (fun g=>f g) (fun b=>ifb (ilt b 0) (k (((0:Int),((0:Int),(0:Int)),(0:Int)),false)) (é a.2.2.2.1 b fun h=>k (h,true))) (fun _=>k (((0:Int),((0:Int),(0:Int)),(0:Int)),false))) (0:Int)
def yz (a:b6) (b:Int) (c:Int):BE ((Val bo)):=Yb a b c some
def jg (b:c7) (c:Int) (d:Int) (a:Int) (e:Int->BE ρ) (f:Int->BE ρ) (g:Unit->BE ρ):BE ρ :=
  ifb (ilt a c) (é b a fun h=>ifb (ieq h.1 d) (f a) (ck (a+(1:Int)) fun i=>e i)) (g ())
def jf (c:py) (b:Int) (d:an) (e:Int) (f:Int) (a:Int) (g:Int->BE ρ) (h:Int->BE ρ) (i:Unit->BE ρ):BE ρ :=
  ifb (ilt a e) (é d a fun j=>Æ (jy c j f) fun k=>ifb (ieq k b) (h b) (ck (a+(1:Int)) fun l=>g l)) (i ())
def ő (d:py) (b:an) (e:Int) (f:Int) (c:an) (a:Int) (g:Int->BE ρ) (h:Int->BE ρ) (i:Unit->BE ρ):BE ρ :=
  ifb (ilt a e) (à ((ile 0 a)&&(ilt a (í c))) (ī c (Int.toNat a) fun j=>Ë (fun(k:Int) l=>jf d j b (Õ b) f k (fun m=>l m) (fun n=>h n) (fun _=>ck (a+(1:Int)) fun o=>g o)) (0:Int))) (i ())
def Ő (b:an) (c:Int) (d:Int) (e:Int) (f:fy) (g:bx) (h:fx) (i:c7) (j:bx) (k:Int) (a:Int) (l:Int->BE ρ) (m:Int->BE ρ) (n:Unit->BE ρ):BE ρ :=
  ifb (ilt a c) (é b a fun o=>Æ (yz ((d,e),f,g,h,i,j) o k) fun p=>ifb p.2 (m (9:Int)) (ck (a+(1:Int)) fun q=>l q)) (n ())
def pI (b:b6) (f:py) (c:Int) (k:Int->BE ρ):BE ρ :=
  é b.2.2.2.2.1 c fun a=>Æ (ġ a.1 (1:Int) (1099511627776:Int)) fun l=>ifb (!l) (k (1:Int)) (Æ (mU a.2.1) fun m=>ifb (!m) (k (1:Int)) (Æ (ġ a.2.2.2.2.1 (-1125899906842624:Int) (1125899906842624:Int)) fun n=>ifb (!n) (k (1:Int)) (Æ (ġ a.2.2.2.2.2.1 (0:Int) (1073741824:Int)) fun o=>ifb (!o) (k (1:Int)) (Æ (Κ a.2.2.2.2.2.2 (-10000:Int) (10000:Int)) fun p=>ifb (!p) (k (1:Int)) (Æ (oa a.2.2.1) fun q=>ifb (!q) (k (1:Int)) (Æ (oa a.2.2.2.1) fun r=>ifb (!r) (k (1:Int)) (à ((ile 0 c)&&(ile c (í b.2.2.2.2.1))) (Ë (fun(s:Int) t=>jg (List.take (Int.toNat c) b.2.2.2.2.1) (Õ (List.take (Int.toNat c) b.2.2.2.2.1)) a.1 s (fun u=>t u) (fun v=>ifb (ige v 0) (k (6:Int)) (Æ (ĩ ([a.2.2.1,a.2.2.2.1])) fun d=>Ë (fun(w:Int) x=>ő f d (Õ ([(5:Int),(4:Int)])) a.2.1 ([(5:Int),(4:Int)]) w (fun y=>x y) (fun z=>k z) (fun _=>Ë (fun(A:Int) B=>Ő d (Õ d) b.1.1 b.1.2 b.2.1 b.2.2.1 b.2.2.2.1 b.2.2.2.2.1 b.2.2.2.2.2 a.2.1 A (fun C=>B C) (fun D=>k D) (fun _=>Æ (Φ a.2.2.1 a.2.2.2.1) fun g=>Æ (Φ a.2.2.2.1 a.2.2.1) fun h=>ifb (igt (Õ g) 1) (k (1:Int)) (ifb (igt (Õ h) 1) (k (1:Int)) (ck ((Õ g)+(Õ h)) fun E=>ifb (ieq E 0) (k (1:Int)) (k (0:Int)))))) (0:Int))) (0:Int))) (fun _=>Æ (ĩ ([a.2.2.1,a.2.2.2.1])) fun e=>Ë (fun(F:Int) G=>ő f e (Õ ([(5:Int),(4:Int)])) a.2.1 ([(5:Int),(4:Int)]) F (fun H=>G H) (fun I=>k I) (fun _=>Ë (fun(J:Int) K=>Ő e (Õ e) b.1.1 b.1.2 b.2.1 b.2.2.1 b.2.2.2.1 b.2.2.2.2.1 b.2.2.2.2.2 a.2.1 J (fun L=>K L) (fun M=>k M) (fun _=>Æ (Φ a.2.2.1 a.2.2.2.1) fun i=>Æ (Φ a.2.2.2.1 a.2.2.1) fun j=>ifb (igt (Õ i) 1) (k (1:Int)) (ifb (igt (Õ j) 1) (k (1:Int)) (ck ((Õ i)+(Õ j)) fun N=>ifb (ieq N 0) (k (1:Int)) (k (0:Int)))))) (0:Int))) (0:Int))) (0:Int)))))))))
def ň (a:b6) (b:py) (c:Int):BE (Int):=pI a b c some
def po (b:b6) (s:py):BE (BY Int) :=
  Æ (OH (fun u=>ń u.1 u.2 s) (b.2.2.1:BY (Int×Int))) fun a=>Æ (OH (fun i=>Χ b s i) (zj (b.2.2.2.1:BY so).length)) fun c =>
    Æ (OH (fun i=>ň b s i) (zj (b.2.2.2.2.1:BY i4).length)) fun d=>Æ (OH (fun u=>ń u.1 u.2 s) (b.2.2.2.2.2:BY (Int×Int))) fun e=>some (a++(c++(d++e)))
def QV (a:b6) (k:Int->BE ρ):BE ρ :=
  Æ (Κ a.1 (0:Int) (1000000:Int)) fun d=>ifb (!d) (k (1:Int)) (ifb (igt (Õ a.2.1) 12) (k (2:Int)) (ifb (igt (Õ a.2.2.1) 40) (k (2:Int)) (ifb (igt (Õ a.2.2.2.1) 12) (k (2:Int)) (ifb (igt (Õ a.2.2.2.2.1) 40) (k (2:Int)) (ifb (igt (Õ a.2.2.2.2.2) 10) (k (2:Int)) (Æ (Ż a) fun b=>ifb (ine b 0) (k b) (Æ (Ń a) fun e=>ZK (po a e) (fun f=>k f) (Æ (sh a) fun c=>ifb (igt (Õ c) 59) (k (2:Int)) (ck ((2:Int)*(Õ a.2.1)) fun g=>ck ((Õ c)-(Õ a.2.1)) fun h=>ck ((2:Int)*h) fun i=>ck (g+i) fun j=>ck ((2:Int)*(Õ a.2.2.2.2.1)) fun l=>ck (j+l) fun m=>ifb (igt m 300) (k (2:Int)) (k (0:Int)))))))))))
def Ω (a:b6):BE (Int):=QV a some
def IF (a:BY Int):BE (Int×Int×Int×Int×Int):=some (a.getD 0 0,a.getD 1 0,a.getD 2 0,a.getD 3 0,a.getD 4 0)
def pT (b:c7) (a:Int) (e:Int->BE ρ) (c:Bool->BE ρ) (d:Unit->BE ρ):BE ρ :=
  ifb (ilt a (Õ b)) (ifb (ilt a 60) (é b a fun f=>ifb (igt (Õ f.2.2.1) 9) (c false) (é b a fun g=>ifb (igt (Õ g.2.2.2.1) 9) (c false) (ck (a+(1:Int)) fun h=>e h))) (d ())) (d ())
def mA (b:c9) (a:Int) (d:Int->BE ρ) (e:Bool->BE ρ) (c:Unit->BE ρ):BE ρ :=
  ifb (ilt a (Õ b)) (ifb (ilt a 8) (é b a fun f=>ifb (igt (Õ f.2) 9) (e false) (ck (a+(1:Int)) fun g=>d g)) (c ())) (c ())
def JH (a:a8) (k:Bool->BE ρ):BE ρ :=
  Ë (fun(b:Int) c=>pT a.1.2.2.2.2.1 b (fun d=>c d) (fun e=>k e) (fun _=>Ë (fun(f:Int) g=>mA a.2 f (fun h=>g h) (fun i=>k i) (fun _=>ifb (ile (Õ a.1.2.1) 6) (ifb (ile (Õ a.1.2.2.1) 20) (ifb (ile (Õ a.1.2.2.2.1) 6) (ifb (ile (Õ a.1.2.2.2.2.1) 8) (ifb (ile (Õ a.1.2.2.2.2.2) 6) (k (ile (Õ a.2) 6)) (k false)) (k false)) (k false)) (k false)) (k false))) (0:Int))) (0:Int)
def Ce (a:a8):BE (Bool):=JH a some
def pU (b:b5) (a:Int) (c:Int->BE ρ) (d:Bool->BE ρ) (e:Unit->BE ρ):BE ρ :=
  ifb (ilt a (Õ b)) (é b a fun f=>ifb (igt (Õ f) 100) (d false) (ck (a+(1:Int)) fun g=>c g)) (e ())
def JI (a:b5) (b:Int) (k:Bool->BE ρ):BE ρ :=
  ifb (igt (Õ a) b) (k false) (Ë (fun(c:Int) d=>pU a c (fun e=>d e) (fun f=>k f) (fun _=>k true)) (0:Int))
def Cf (a:b5) (b:Int):BE (Bool):=JI a b some
def uq (b:an) (c:Int) (a:Int) (d:Int->BE ρ) (e:Int->BE ρ) (f:Unit->BE ρ):BE ρ :=
  ifb (ilt a c) (é b a fun g=>Æ (mU g) fun h=>ifb (!h) (e a) (ck (a+(1:Int)) fun i=>d i)) (f ())
def QS (a:b6) (b:Int) (c:an) (k:Int->BE ρ):BE ρ :=
  Æ (Ω a) fun d=>ifb (ine d 0) (k d) (Ë (fun(e:Int) f=>uq c (Õ c) e (fun g=>f g) (fun h=>ifb (ige h 0) (k (1:Int)) (Æ (Ń a) fun i=>Sk (k:=tI) (v:=Ö) b i (fun l=>k (0:Int)) (k (5:Int)))) (fun _=>Æ (Ń a) fun j=>Sk (k:=tI) (v:=Ö) b j (fun m=>k (0:Int)) (k (5:Int)))) (0:Int))
def I0 (a:b6) (b:Int) (c:an):BE (Int):=QS a b c some
def Yf (a:b6) (b:Int) (c:Int) (k:u5->BE ρ):BE ρ :=
  Æ (I0 a b ([c])) fun d=>ifb (ine d 0) (k (false,d)) (Æ (yz a b c) fun e=>k (e.2,(0:Int)))
def Cx (a:b6) (b:Int) (c:Int):BE (u5):=Yf a b c some
def oH (b:an) (a:Int) (c:Int->BE ρ) (d:Int->BE ρ) (e:Unit->BE ρ):BE ρ :=
  ifb (ilt a (Õ b)) (é b a fun f=>ck (a-(1:Int)) fun g=>é b g fun h=>ifb (ile f h) (d (1:Int)) (ck (a+(1:Int)) fun i=>c i)) (e ())
def oG (d:fy) (e:Int) (a:Int) (b:Val bj) (f:Int->Val bj->BE ρ) (g:Val bj->BE ρ):BE ρ :=
  ifb (ilt a e) (é d a fun c=>ck (a+(1:Int)) fun h=>f h (UW (k:=tI) (v:=tI) c.1 c.2.1 b)) (g b)
def oF (b:an) (c:Int) (d:Val bj) (a:Int) (e:Int->BE ρ) (f:Int->BE ρ) (g:Unit->BE ρ):BE ρ :=
  ifb (ilt a c) (é b a fun h=>Sk (k:=tI) (v:=tI) h d (fun j=>ck (a+(1:Int)) fun i=>e i) (f a)) (g ())
def mc (e:an) (f:Int) (b:Int) (g:Val bj) (a:Int) (c:Int->BE ρ) (d:Int->BE ρ) (h:Unit->BE ρ):BE ρ :=
  ifb (ilt a f) (é e a fun i=>Sk (k:=tI) (v:=tI) i g (fun j=>ifb (ilt b j) (d a) (ck (a+(1:Int)) fun l=>c l)) (ifb (ilt b 0) (d a) (ck (a+(1:Int)) fun m=>c m))) (h ())
def ņ (l:an) (m:Int) (b:Int) (c:Int) (d:fy) (e:bx) (f:fx) (g:c7) (h:bx) (i:Int) (a:Int) (n:Int->BE ρ) (j:Int->BE ρ) (o:Unit->BE ρ):BE ρ :=
  ifb (ilt a m) (é l a fun k=>Æ (Cx ((b,c),d,e,f,g,h) k i) fun p=>ck (i+(1:Int)) fun q=>Æ (Cx ((b,c),d,e,f,g,h) k q) fun r=>ifb p.1 (j a) (ifb r.1 (j a) (ck (a+(1:Int)) fun s=>n s))) (o ())
def O6 (a:b6) (d:c9) (c:Int) (k:Int->BE ρ):BE ρ :=
  é d c fun b=>ifb (ilt b.1 0) (k (1:Int)) (ifb (ige b.1 20000) (k (1:Int)) (ifb (ilt (Õ b.2) 2) (k (1:Int)) (ifb (igt (Õ b.2) 5) (k (1:Int)) (Ë (fun(g:Int) h=>oH b.2 g (fun i=>h i) (fun j=>k j) (fun _=>Ë (fun(f:(Val (.pair tI bj))) l=>oG a.2.1 (Õ a.2.1) f.1 f.2 (fun m n=>l (m,n)) (fun e=>Ë (fun(o:Int) p=>oF b.2 (Õ b.2) e o (fun q=>p q) (fun r=>ifb (ige r 0) (k (5:Int)) (Ë (fun(s:Int) t=>mc b.2 (Õ b.2) b.1 e s (fun u=>t u) (fun v=>ifb (ige v 0) (k (4:Int)) (ifb (igt c 0) (ck (c-(1:Int)) fun w=>é d w fun x=>ifb (ile b.1 x.1) (k (6:Int)) (Ë (fun(y:Int) z=>ņ b.2 (Õ b.2) a.1.1 a.1.2 a.2.1 a.2.2.1 a.2.2.2.1 a.2.2.2.2.1 a.2.2.2.2.2 b.1 y (fun A=>z A) (fun B=>ifb (ige B 0) (k (9:Int)) (k (0:Int))) (fun _=>k (0:Int))) (0:Int))) (Ë (fun(C:Int) D=>ņ b.2 (Õ b.2) a.1.1 a.1.2 a.2.1 a.2.2.1 a.2.2.2.1 a.2.2.2.2.1 a.2.2.2.2.2 b.1 C (fun E=>D E) (fun F=>ifb (ige F 0) (k (9:Int)) (k (0:Int))) (fun _=>k (0:Int))) (0:Int)))) (fun _=>ifb (igt c 0) (ck (c-(1:Int)) fun G=>é d G fun H=>ifb (ile b.1 H.1) (k (6:Int)) (Ë (fun(I:Int) J=>ņ b.2 (Õ b.2) a.1.1 a.1.2 a.2.1 a.2.2.1 a.2.2.2.1 a.2.2.2.2.1 a.2.2.2.2.2 b.1 I (fun K=>J K) (fun L=>ifb (ige L 0) (k (9:Int)) (k (0:Int))) (fun _=>k (0:Int))) (0:Int))) (Ë (fun(M:Int) N=>ņ b.2 (Õ b.2) a.1.1 a.1.2 a.2.1 a.2.2.1 a.2.2.2.1 a.2.2.2.2.1 a.2.2.2.2.2 b.1 M (fun O=>N O) (fun P=>ifb (ige P 0) (k (9:Int)) (k (0:Int))) (fun _=>k (0:Int))) (0:Int)))) (0:Int))) (fun _=>Ë (fun(Q:Int) R=>mc b.2 (Õ b.2) b.1 e Q (fun S=>R S) (fun T=>ifb (ige T 0) (k (4:Int)) (ifb (igt c 0) (ck (c-(1:Int)) fun U=>é d U fun V=>ifb (ile b.1 V.1) (k (6:Int)) (Ë (fun(W:Int) X=>ņ b.2 (Õ b.2) a.1.1 a.1.2 a.2.1 a.2.2.1 a.2.2.2.1 a.2.2.2.2.1 a.2.2.2.2.2 b.1 W (fun Y=>X Y) (fun Z=>ifb (ige Z 0) (k (9:Int)) (k (0:Int))) (fun _=>k (0:Int))) (0:Int))) (Ë (fun(df:Int) dg=>ņ b.2 (Õ b.2) a.1.1 a.1.2 a.2.1 a.2.2.1 a.2.2.2.1 a.2.2.2.2.1 a.2.2.2.2.2 b.1 df (fun dh=>dg dh) (fun di=>ifb (ige di 0) (k (9:Int)) (k (0:Int))) (fun _=>k (0:Int))) (0:Int)))) (fun _=>ifb (igt c 0) (ck (c-(1:Int)) fun dj=>é d dj fun dk=>ifb (ile b.1 dk.1) (k (6:Int)) (Ë (fun(dl:Int) dm=>ņ b.2 (Õ b.2) a.1.1 a.1.2 a.2.1 a.2.2.1 a.2.2.2.1 a.2.2.2.2.1 a.2.2.2.2.2 b.1 dl (fun dp=>dm dp) (fun dq=>ifb (ige dq 0) (k (9:Int)) (k (0:Int))) (fun _=>k (0:Int))) (0:Int))) (Ë (fun(dr:Int) dt=>ņ b.2 (Õ b.2) a.1.1 a.1.2 a.2.1 a.2.2.1 a.2.2.2.1 a.2.2.2.2.1 a.2.2.2.2.2 b.1 dr (fun du=>dt du) (fun dv=>ifb (ige dv 0) (k (9:Int)) (k (0:Int))) (fun _=>k (0:Int))) (0:Int)))) (0:Int))) (0:Int))) ((0:Int),[]))) (1:Int)))))
def IH (a:b6) (b:c9) (c:Int):BE (Int):=O6 a b c some
def oI (c:Int) (b:Int) (a:Int) (d:Int->Int->BE ρ) (e:Int->BE ρ):BE ρ :=
  ifb (ilt a c) (ck (a+(1:Int)) fun f=>ck (b*f) fun g=>ck (a+(1:Int)) fun h=>d g h) (e b)
def tC (e:c9) (f:Int) (g:Int) (h:Int) (i:fy) (j:bx) (k:fx) (l:c7) (m:bx) (n:c9) (b:Int) (a:Int) (o:Int->Int->BE ρ) (p:Int->BE ρ) (q:Int->BE ρ):BE ρ :=
  ifb (ilt a f) (é e a fun r=>Æ (IH ((g,h),i,j,k,l,m) n a) fun c=>ifb (ine c 0) (p c) (Ë (fun(d:bl) s=>oI (Õ r.2) d.1 d.2 (fun t u=>s (t,u)) (fun v=>ck (a+(1:Int)) fun w=>o v w)) (b,(0:Int)))) (q b)
def Pk (a:a8) (k:Int->BE ρ):BE ρ :=
  Æ (Ω a.1) fun b=>ifb (ine b 0) (k b) (ifb (igt (Õ a.2) 4) (k (2:Int)) (Ë (fun(c:bl) d=>tC a.2 (Õ a.2) a.1.1.1 a.1.1.2 a.1.2.1 a.1.2.2.1 a.1.2.2.2.1 a.1.2.2.2.2.1 a.1.2.2.2.2.2 a.2 c.1 c.2 (fun e f=>d (e,f)) (fun g=>k g) (fun h=>ifb (igt h 150) (k (2:Int)) (k (0:Int)))) ((1:Int),(0:Int))))
def iM (a:a8):BE (Int):=Pk a some
def Ĩ (c:bx) (d:Int) (e:Int) (f:Int) (a:Int) (g:Int->BE ρ) (h:Int->BE ρ) (i:Unit->BE ρ):BE ρ :=
  ifb (ilt a d) (é c a fun b=>ifb ((oy e b.1)&&((oy f b.2)&&true)) (h a) (ck (a+(1:Int)) fun j=>g j)) (i ())
def ŷ (a:bx) (b:bl) (k:Int->BE ρ):BE ρ :=
  Ë (fun(c:Int) d=>Ĩ a (Õ a) b.1 b.2 c (fun e=>d e) (fun f=>k f) (fun _=>k (-1:Int))) (0:Int)
def ù (a:bx) (b:bl):BE (Int):=ŷ a b some
def Ba (b:Val bh) (a:an) (c:Int) (k:Int->BE ρ):BE ρ :=
  ifb (ieq (Õ a) 0) (k (0:Int)) (é a (0:Int) fun d=>Æ (ù b.2.1 (d,c)) fun e=>ck (e+(1:Int)) fun f=>k f)
def mg (a:Val bh) (b:an) (c:Int):BE (Int):=Ba a b c some
def xV (f:Int) (g:Int) (h:fx) (i:Int) (j:Int) (b:Int) (a:Int) (d:Int->Int->BE ρ) (k:Int->BE ρ):BE ρ :=
  ifb (ilt a i) (é h a fun c=>ck (g-(1:Int)) fun l=>ck ((adh c.2.1.2 l)-(T7 c.2.1.1 f)) fun m=>ck (m+1) fun e=>ifb (ieq c.1 j) (ifb (igt e 0) (ck (e*c.2.2) fun n=>ck (b+n) fun o=>ck (a+(1:Int)) fun p=>d o p) (ck (a+(1:Int)) fun q=>d b q)) (ck (a+(1:Int)) fun r=>d b r)) (k b)
def xU (e:Int) (f:Int) (g:bx) (h:Int) (i:Int) (a:Int) (b:an) (d:Int->an->BE ρ) (j:an->BE ρ):BE ρ :=
  ifb (ilt a h) (é g a fun c=>ifb (ieq c.1 i) (ck (f-(1:Int)) fun k=>Æ (ġ c.2 e k) fun l=>ifb l (à (ã ((List.length b)+(List.length ([c.2])))) (ck (a+(1:Int)) fun m=>d m (b++([c.2])))) (ck (a+(1:Int)) fun n=>d n b)) (ck (a+(1:Int)) fun o=>d o b)) (j b)
def X0 (a:b6) (b:nj) (d:Int) (e:Int) (k:Int->BE ρ):BE ρ :=
  Ë (fun(f:bl) h=>xV d e a.2.2.2.1 (Õ a.2.2.2.1) b.1 f.1 f.2 (fun i j=>h (i,j)) (fun l=>Ë (fun(g:f4) m=>xU d e a.2.2.1 (Õ a.2.2.1) b.1 g.1 g.2 (fun n o=>m (n,o)) (fun c=>à (ã (List.length c)) (à (ã (List.length (zn c))) (ck ((Õ (CA (zn c)))*b.2.2.2.2.2) fun p=>ck (l+p) fun q=>k q)))) ((0:Int),[]))) ((0:Int),(0:Int))
def Cw (a:b6) (b:nj) (c:Int) (d:Int):BE (Int):=X0 a b c d some
def pH (b:py) (a:an) (k:bl->BE ρ):BE ρ :=
  ifb (ieq (Õ a) 0) (k ((0:Int),(1:Int))) (é a (0:Int) fun c=>Sk (k:=tI) (v:=Ö) c b (fun d=>k d.2.2.2.2.1) (k ((0:Int),(0:Int))))
def jo (a:py) (b:an):BE bl:=pH a b some
def ue (b:bx) (c:Int) (a:Int) (d:Int->BE ρ) (e:Int->BE ρ) (f:Unit->BE ρ):BE ρ :=
  ifb (ilt a c) (é b a fun g=>Æ (wG g) fun h=>ifb (!h) (e (1:Int)) (ck (a+(1:Int)) fun i=>d i)) (f ())
def Qx (a:bx) (k:Int->BE ρ):BE ρ :=
  Ë (fun(b:Int) c=>ue a (Õ a) b (fun d=>c d) (fun e=>k e) (fun _=>k (0:Int))) (0:Int)
def lq (a:bx):BE (Int):=Qx a some
def FC (d:Int) (e:Int) (k:js->BE ρ):BE ρ :=
  Æ (uB d) fun b=>Æ (uB e) fun c=>Æ (Rv b c) fun a=>ifb (oy a 0) (none) (ifb (oy a 0) (none) (ifb (igt (IntKind.wrap .u64 (Int.tdiv b a)) 2147483647) (k (((0:Int),(0:Int)),(3:Int))) (ifb (igt (IntKind.wrap .u64 (Int.tdiv c a)) 2147483647) (k (((0:Int),(0:Int)),(3:Int))) (ifb (!((ilt d 0)==(ilt e 0))) (ck (0-(IntKind.wrap .i64 (IntKind.wrap .u64 (Int.tdiv b a)))) fun f=>k ((f,(IntKind.wrap .i64 (IntKind.wrap .u64 (Int.tdiv c a)))),(0:Int))) (k (((IntKind.wrap .i64 (IntKind.wrap .u64 (Int.tdiv b a))),(IntKind.wrap .i64 (IntKind.wrap .u64 (Int.tdiv c a)))),(0:Int)))))))
def sg (a:Int) (b:Int):BE js:=FC a b some
def ac8 (a:bl) (b:bl) (k:js->BE ρ):BE ρ :=
  Æ (lq ([a,b])) fun c=>ifb (ine c 0) (k (((0:Int),(0:Int)),c)) (ck (a.1*b.2) fun e=>ck (b.1*a.2) fun f=>ck (e-f) fun g=>ck (a.2*b.2) fun h=>Æ (sg g h) fun d=>k (d.1,d.2))
def YE (a:bl) (b:bl):BE js:=ac8 a b some
def xP (a:bl) (b:bl) (k:bl->BE ρ):BE ρ :=
  Æ (YE a b) fun c=>k c.1
def yx (a:bl) (b:bl):BE bl:=xP a b some
def ac6 (a:bl) (b:bl) (k:Int->BE ρ):BE ρ :=
  ck (a.1*b.2) fun c=>ck (b.1*a.2) fun d=>ifb ((oy a.1 b.1)&&((oy a.2 b.2)&&true)) (k (0:Int)) (ifb (ilt c d) (k (-1:Int)) (ifb (igt c d) (k (1:Int)) (k (0:Int))))
def Rw (a:bl) (b:bl):BE (Int):=ac6 a b some
def uR (a:hO) (k:Bool->BE ρ):BE ρ :=
  Æ (lq ([a.1,a.2])) fun b=>ifb (ieq b 0) (Æ (Rw a.1 a.2) fun c=>k (ile c 0)) (k false)
def uX (a:hO):BE (Bool):=uR a some
def ada (a:bl) (b:bl) (k:js->BE ρ):BE ρ :=
  Æ (lq ([a,b])) fun c=>ifb (ine c 0) (k (((0:Int),(0:Int)),c)) (ck (a.1*b.1) fun e=>ck (a.2*b.2) fun f=>Æ (sg e f) fun d=>k (d.1,d.2))
def Ry (a:bl) (b:bl):BE js:=ada a b some
def QD (c:hO) (d:bl) (k:Val vc->BE ρ):BE ρ :=
  Æ (uX c) fun e=>ifb (!e) (k ((((0:Int),(0:Int)),(0:Int),(0:Int)),(1:Int))) (Æ (wG d) fun f=>ifb (!f) (k ((((0:Int),(0:Int)),(0:Int),(0:Int)),(1:Int))) (Æ (Ry d c.1) fun a=>ifb (ine a.2 0) (k ((((0:Int),(0:Int)),(0:Int),(0:Int)),a.2)) (Æ (Ry d c.2) fun b=>ifb (ine b.2 0) (k ((((0:Int),(0:Int)),(0:Int),(0:Int)),b.2)) (Æ (Rw a.1 b.1) fun g=>ifb (igt g 0) (k ((b.1,a.1),(0:Int))) (k ((a.1,b.1),(0:Int)))))))
def Rx (a:hO) (b:bl):BE (Val vc):=QD a b some
def xO (b:bl) (a:bl) (k:hO->BE ρ):BE ρ :=
  Æ (Rx ((a.1,(1:Int)),a.2,(1:Int)) b) fun c=>k c.1
def qw (a:bl) (b:bl):BE hO:=xO a b some
def Kx (c:b6) (a:i4) (k:hO->BE ρ):BE ρ :=
  Æ (Ń c) fun b=>Æ (Φ a.2.2.1 a.2.2.2.1) fun d=>Æ (jo b d) fun e=>Æ (Φ a.2.2.2.1 a.2.2.1) fun f=>Æ (jo b f) fun g=>Æ (yx e g) fun h=>Æ (qw h a.2.2.2.2.2.2) fun i=>k i
def wH (a:b6) (b:i4):BE hO:=Kx a b some
def QQ (a:b6) (b:i4) (k:bl->BE ρ):BE ρ :=
  ck ((Õ b.2.2.1)-(1:Int)) fun c=>ck ((Õ b.2.2.2.1)-(1:Int)) fun d=>ck ((T7 (0:Int) c)*a.1.1) fun e=>ck ((T7 (0:Int) d)*a.1.2) fun f=>ck (e-f) fun g=>ck ((T7 (0:Int) c)*a.1.2) fun h=>ck ((T7 (0:Int) d)*a.1.1) fun i=>ck (h-i) fun j=>k (g,j)
def Br (a:b6) (b:i4):BE bl:=QQ a b some
def HO (b:Int) (a:Int) (k:Int->BE ρ):BE ρ :=
  ifb (oy a 0) (none) (ck (Int.tdiv b a) fun c=>ifb (oy a 0) (none) (ifb (ilt (Int.tmod b a) 0) (ck (c-1) fun d=>k d) (k c)))
def wF (a:Int) (b:Int):BE (Int):=HO a b some
def XW (a:bl) (k:bl->BE ρ):BE ρ :=
  Æ (lq ([a])) fun b=>ifb (ine b 0) (k ((0:Int),b)) (ck (0-a.1) fun c=>Æ (wF c a.2) fun d=>ck (0-d) fun e=>k (e,(0:Int)))
def NC (a:bl):BE bl:=XW a some
def QF (a:bl) (k:bl->BE ρ):BE ρ :=
  Æ (lq ([a])) fun b=>ifb (ine b 0) (k ((0:Int),b)) (Æ (wF a.1 a.2) fun c=>k (c,(0:Int)))
def IZ (a:bl):BE bl:=QF a some
def XX (b:b6) (a:i4) (k:bl->BE ρ):BE ρ :=
  Æ (wH b a) fun c=>Æ (Br b a) fun d=>Æ (IZ c.2) fun e=>Æ (NC c.1) fun f=>ck (a.2.2.2.2.1-a.2.2.2.2.2.1) fun g=>ck (g-d.2) fun h=>ck (h-e.1) fun i=>ck (a.2.2.2.2.1+a.2.2.2.2.2.1) fun j=>ck (j-d.1) fun l=>ck (l-f.1) fun m=>k (i,m)
def Cv (a:b6) (b:i4):BE bl:=XX a b some
def xS (b:Int) (e:an) (h:Int) (j:Int) (k:Int) (l:fy) (m:bx) (n:fx) (o:c7) (p:bx) (q:Int) (r:Int) (s:Int) (t:Int) (u:Int) (v:Int) (w:Int) (x:Int) (a:Int) (f:im) (g:bx) (y:Int->im->bx->BE ρ) (z:Val yH->BE ρ):BE ρ :=
  ifb (ilt a (Õ e)) (ck (h+a) fun A=>ck (A-1) fun c=>ck (h+a) fun d=>ck (a-(1:Int)) fun B=>é e B fun C=>é e a fun D=>Æ (Cw ((j,k),l,m,n,o,p) (q,r,s,(t,u),(v,w),x) C D) fun E=>ck (0-E) fun F=>ck (0-F) fun i=>à (ã ((List.length f)+(List.length ([(c,d,(0:Int)),(d,c,i)])))) (à (ã ((List.length g)+(List.length ([((2:Int),b),((2:Int),b)])))) (ck (a+(1:Int)) fun G=>y G (f++([(c,d,(0:Int)),(d,c,i)])) (g++([((2:Int),b),((2:Int),b)]))))) (z (f,g))
def xT (q:fy) (r:Int) (f:Int) (g:Int) (h:fy) (i:bx) (j:fx) (k:c7) (l:bx) (s:bx) (t:Int) (b:Int) (d:im) (e:bx) (u:Int->im->bx->BE ρ) (v:Val yH->BE ρ):BE ρ :=
  ifb (ilt b r) (é q b fun a=>Æ (qx ((f,g),h,i,j,k,l) a) fun w=>Æ (mg (((f,g),h,i,j,k,l),s,(t,d),e) ([a.1]) a.2.1) fun c=>ck (a.2.2.1+a.2.2.2.1.1) fun x=>ck (a.2.2.1+a.2.2.2.1.2) fun n=>ck (0-x) fun o=>à (ã ((List.length d)+(List.length ([((0:Int),c,n),(c,(0:Int),o)])))) (à (ã ((List.length e)+(List.length ([((1:Int),b),((1:Int),b)])))) (Ë (fun(m:v6) y=>xS b w c f g h i j k l a.1 a.2.1 a.2.2.1 a.2.2.2.1.1 a.2.2.2.1.2 a.2.2.2.2.1.1 a.2.2.2.2.1.2 a.2.2.2.2.2 m.1 m.2.1 m.2.2 (fun z A B=>y (z,A,B)) (fun p=>ck (b+(1:Int)) fun C=>u C p.1 p.2)) ((1:Int),(d++([((0:Int),c,n),(c,(0:Int),o)])),(e++([((1:Int),b),((1:Int),b)])))))) (v (d,e))
def xR (r:c7) (s:Int) (g:Int) (h:Int) (i:fy) (j:bx) (k:fx) (l:c7) (m:bx) (o:bx) (p:Int) (a:Int) (c:im) (d:bx) (t:Int->im->bx->BE ρ) (u:Val yH->BE ρ):BE ρ :=
  ifb (ilt a s) (é r a fun b=>Æ (Φ b.2.2.2.1 b.2.2.1) fun v=>Æ (mg (((g,h),i,j,k,l,m),o,(p,c),d) v b.2.1) fun e=>Æ (Φ b.2.2.1 b.2.2.2.1) fun w=>Æ (mg (((g,h),i,j,k,l,m),o,(p,c),d) w b.2.1) fun f=>Æ (Cv ((g,h),i,j,k,l,m) b) fun n=>ck (0-n.1) fun q=>à (ã ((List.length c)+(List.length ([(e,f,n.2),(f,e,q)])))) (à (ã ((List.length d)+(List.length ([((3:Int),a),((3:Int),a)])))) (ck (a+(1:Int)) fun x=>t x (c++([(e,f,n.2),(f,e,q)])) (d++([((3:Int),a),((3:Int),a)]))))) (u (c,d))
def XZ (a:b6) (k:Val bh->BE ρ):BE ρ :=
  Æ (sh a) fun b=>ck ((Õ b)+(1:Int)) fun c=>Ë (fun(d:v6) h=>xT a.2.1 (Õ a.2.1) a.1.1 a.1.2 a.2.1 a.2.2.1 a.2.2.2.1 a.2.2.2.2.1 a.2.2.2.2.2 b c d.1 d.2.1 d.2.2 (fun i j l=>h (i,j,l)) (fun f=>Ë (fun(e:v6) m=>xR a.2.2.2.2.1 (Õ a.2.2.2.2.1) a.1.1 a.1.2 a.2.1 a.2.2.1 a.2.2.2.1 a.2.2.2.2.1 a.2.2.2.2.2 b c e.1 e.2.1 e.2.2 (fun n o p=>m (n,o,p)) (fun g=>k (a,b,(c,g.1),g.2))) ((0:Int),f.1,f.2))) ((0:Int),[],[])
def ND (a:b6):BE ((Val bh)):=XZ a some
def KA (a:b6) (k:(Val (.pair Ð bq))->BE ρ):BE ρ :=
  Æ (Ω a) fun b=>ifb (ine b 0) (k (((0:Int),[]),[],b)) (Æ (ND a) fun c=>k (c.2.2.1,c.2.2.2,(0:Int)))
def jz (a:b6):BE ((Val (.pair Ð bq))):=KA a some
def BU (f:b5) (g:Int) (d:c9) (b:Int) (a:Int) (c:Int->Int->BE ρ) (h:Int->BE ρ):BE ρ :=
  ifb (ige a 0) (é f a fun i=>Æ (iN i b) fun e=>ifb (ige e 0) (é d a fun j=>ifb (ilt j.1 g) (é d a fun k=>é k.2 e fun l=>ck (a-(1:Int)) fun m=>c l m) (ck (a-(1:Int)) fun n=>c b n)) (ck (a-(1:Int)) fun o=>c b o)) (h b)
def acM (a:a8) (c:b5) (d:Int) (e:Int) (k:Int->BE ρ):BE ρ :=
  ck ((Õ a.2)-(1:Int)) fun f=>Ë (fun(b:bl) g=>BU c e a.2 b.1 b.2 (fun h i=>g (h,i)) (fun j=>k j)) (d,f)
def uW (a:a8) (b:b5) (c:Int) (d:Int):BE (Int):=acM a b c d some
def jE (d:Int) (e:Val ay) (f:Val aO) (g:an) (h:Int) (a:Int) (b:an) (i:Int->an->BE ρ) (j:an->BE ρ):BE ρ :=
  ifb (ilt a h) (é g a fun k=>Æ (uW e f k d) fun c=>à (ã ((List.length b)+(List.length ([c])))) (ck (a+(1:Int)) fun l=>i l (b++([c])))) (j b)
def qZ (a:an) (d:Int) (e:Val ay) (f:Val aO) (k:an->BE ρ):BE ρ :=
  Ë (fun(b:f4) g=>jE d e f a (Õ a) b.1 b.2 (fun h i=>g (h,i)) (fun c=>à (ã (List.length c)) (k (zn c)))) ((0:Int),[])
def jV (a:an) (b:Int) (c:Val ay) (d:Val aO):BE (an):=qZ a b c d some
def lG (e:Val ay) (f:Val aO) (g:bx) (h:Int) (b:Int) (c:bx) (i:Int->bx->BE ρ) (j:bx->BE ρ):BE ρ :=
  ifb (ilt b h) (é g b fun a=>Æ (uW e f a.1 a.2) fun d=>à (ã ((List.length c)+(List.length ([(d,a.2)])))) (ck (b+(1:Int)) fun k=>i k (c++([(d,a.2)])))) (j c)
def lF (e:Val ay) (f:Val aO) (g:fx) (h:Int) (b:Int) (c:fx) (i:Int->fx->BE ρ) (j:fx->BE ρ):BE ρ :=
  ifb (ilt b h) (é g b fun a=>Æ (uW e f a.1 a.2.1.1) fun d=>à (ã ((List.length c)+(List.length ([(d,a.2)])))) (ck (b+(1:Int)) fun k=>i k (c++([(d,a.2)])))) (j c)
def lE (d:Val ay) (e:Val aO) (h:c7) (i:Int) (b:Int) (c:c7) (j:Int->c7->BE ρ) (k:c7->BE ρ):BE ρ :=
  ifb (ilt b i) (é h b fun a=>Æ (jV a.2.2.1 a.2.1 d e) fun f=>Æ (jV a.2.2.2.1 a.2.1 d e) fun g=>à (ã ((List.length c)+(List.length ([(a.1,a.2.1,f,g,a.2.2.2.2)])))) (ck (b+(1:Int)) fun l=>j l (c++([(a.1,a.2.1,f,g,a.2.2.2.2)])))) (k c)
def lD (e:Val ay) (f:Val aO) (g:bx) (h:Int) (b:Int) (c:bx) (i:Int->bx->BE ρ) (j:bx->BE ρ):BE ρ :=
  ifb (ilt b h) (é g b fun a=>Æ (uW e f a.1 a.2) fun d=>à (ã ((List.length c)+(List.length ([(d,a.2)])))) (ck (b+(1:Int)) fun k=>i k (c++([(d,a.2)])))) (j c)
def xd (a:a8) (b:b5) (k:b6->BE ρ):BE ρ :=
  à (ã (List.length a.1.2.1)) (Ë (fun(c:nn) g=>lG a b a.1.2.2.1 (Õ a.1.2.2.1) c.1 c.2 (fun h i=>g (h,i)) (fun j=>Ë (fun(d:y6) l=>lF a b a.1.2.2.2.1 (Õ a.1.2.2.2.1) d.1 d.2 (fun m n=>l (m,n)) (fun o=>Ë (fun(e:Val bc) p=>lE a b a.1.2.2.2.2.1 (Õ a.1.2.2.2.2.1) e.1 e.2 (fun q r=>p (q,r)) (fun s=>Ë (fun(f:nn) t=>lD a b a.1.2.2.2.2.2 (Õ a.1.2.2.2.2.2) f.1 f.2 (fun u v=>t (u,v)) (fun w=>k (a.1.1,a.1.2.1,j,o,s,w))) ((0:Int),[]))) ((0:Int),[]))) ((0:Int),[]))) ((0:Int),[]))
def ji (a:a8) (b:b5):BE b6:=xd a b some
def XJ (b:ge) (a:Int) (k:Bool->BE ρ):BE ρ :=
  ifb (ige a 0) (k (ilt a b.1)) (k false)
def Cu (a:ge) (b:Int):BE (Bool):=XJ a b some
def ud (f:im) (g:Int) (d:Int) (e:im) (a:Int) (h:Int->BE ρ) (c:bl->BE ρ) (i:Unit->BE ρ):BE ρ :=
  ifb (ilt a g) (é f a fun b=>Æ (Cu (d,e) b.1) fun j=>ifb (!j) (c ((1:Int),a)) (Æ (Cu (d,e) b.2.1) fun k=>ifb (!k) (c ((1:Int),a)) (ifb (ieq b.1 b.2.1) (c ((1:Int),a)) (ifb (ilt b.2.2 (-4503599627370496:Int)) (c ((1:Int),a)) (ifb (igt b.2.2 4503599627370496) (c ((1:Int),a)) (ck (a+(1:Int)) fun l=>h l)))))) (i ())
def Qv (a:ge) (k:bl->BE ρ):BE ρ :=
  ifb (ilt a.1 1) (k ((1:Int),(-1:Int))) (ifb (igt a.1 60) (k ((1:Int),(-1:Int))) (ifb (igt (Õ a.2) 300) (k ((2:Int),(-1:Int))) (Ë (fun(c:Int) d=>ud a.2 (Õ a.2) a.1 a.2 c (fun e=>d e) (fun b=>k (b.1,b.2)) (fun _=>k ((0:Int),(-1:Int)))) (0:Int))))
def sf (a:ge):BE bl:=Qv a some
def iK (c:im) (d:Int) (b:Int) (a:Int) (e:Int->Int->BE ρ) (f:Int->BE ρ):BE ρ :=
  ifb (ilt a d) (é c a fun g=>ck (b+(adh g.2.2 (0:Int))) fun h=>ck (a+(1:Int)) fun i=>e h i) (f b)
def Ś (f:Int) (d:an) (a:Int) (b:v8) (c:an) (e:Int->v8->an->BE ρ) (g:Val aV->BE ρ):BE ρ :=
  ifb (ilt a f) (à ((ile 0 a)&&(ilt a (í d))) (ī d (Int.toNat a) fun h=>ifb (ine h 1152921504606846976) (à (ã ((List.length c)+(List.length ([a])))) (à ((ile 0 a)&&(ilt a (í b))) (ī b (Int.toNat a) fun k=>ck (a+(1:Int)) fun i=>e i (List.set b (Int.toNat a) true) (c++([a]))))) (ck (a+(1:Int)) fun j=>e j b c))) (g (b,c))
def jR (m:Val au) (j:Int) (d:Int) (n:im) (o:Int) (f:Int) (b:an) (c:v8) (e:an) (g:Int->an->v8->an->BE ρ) (l:(Val (.pair .bool (.pair ab aV)))->BE ρ) (p:(Val (.pair ab aV))->BE ρ):BE ρ :=
  ifb (ilt f o) (é n f fun a=>ifb (ine a.1 d) (ck (f+(1:Int)) fun q=>g q b c e) (Sk (k:=tI) (v:=.bool) f m (fun r=>ifb r (ck (f+(1:Int)) fun s=>g s b c e) (à ((ile 0 d)&&(ilt d (í b))) (ī b (Int.toNat d) fun t=>ck (t+a.2.2) fun u=>à ((ile 0 a.2.1)&&(ilt a.2.1 (í b))) (ī b (Int.toNat a.2.1) fun w=>ifb (ige u w) (ck (f+(1:Int)) fun x=>g x b c e) (à ((ile 0 d)&&(ilt d (í b))) (ī b (Int.toNat d) fun y=>ck (y+a.2.2) fun h=>à ((ile 0 a.2.1)&&(ilt a.2.1 (í b))) (ī b (Int.toNat a.2.1) fun M=>à ((ile 0 a.2.1)&&(ilt a.2.1 (í (List.set b (Int.toNat a.2.1) h)))) (ī (List.set b (Int.toNat a.2.1) h) (Int.toNat a.2.1) fun z=>ifb (ilt z j) (l (false,(List.set b (Int.toNat a.2.1) h),c,e)) (à ((ile 0 a.2.1)&&(ilt a.2.1 (í c))) (ī c (Int.toNat a.2.1) fun A=>ifb (!A) (à (ã ((List.length e)+(List.length ([a.2.1])))) (à ((ile 0 a.2.1)&&(ilt a.2.1 (í c))) (ī c (Int.toNat a.2.1) fun N=>ck (f+(1:Int)) fun B=>g B (List.set b (Int.toNat a.2.1) h) (List.set c (Int.toNat a.2.1) true) (e++([a.2.1]))))) (ck (f+(1:Int)) fun C=>g C (List.set b (Int.toNat a.2.1) h) c e))))))))))) (à ((ile 0 d)&&(ilt d (í b))) (ī b (Int.toNat d) fun D=>ck (D+a.2.2) fun E=>à ((ile 0 a.2.1)&&(ilt a.2.1 (í b))) (ī b (Int.toNat a.2.1) fun F=>ifb (ige E F) (ck (f+(1:Int)) fun G=>g G b c e) (à ((ile 0 d)&&(ilt d (í b))) (ī b (Int.toNat d) fun H=>ck (H+a.2.2) fun i=>à ((ile 0 a.2.1)&&(ilt a.2.1 (í b))) (ī b (Int.toNat a.2.1) fun O=>à ((ile 0 a.2.1)&&(ilt a.2.1 (í (List.set b (Int.toNat a.2.1) i)))) (ī (List.set b (Int.toNat a.2.1) i) (Int.toNat a.2.1) fun I=>ifb (ilt I j) (l (false,(List.set b (Int.toNat a.2.1) i),c,e)) (à ((ile 0 a.2.1)&&(ilt a.2.1 (í c))) (ī c (Int.toNat a.2.1) fun J=>ifb (!J) (à (ã ((List.length e)+(List.length ([a.2.1])))) (à ((ile 0 a.2.1)&&(ilt a.2.1 (í c))) (ī c (Int.toNat a.2.1) fun P=>ck (f+(1:Int)) fun K=>g K (List.set b (Int.toNat a.2.1) i) (List.set c (Int.toNat a.2.1) true) (e++([a.2.1]))))) (ck (f+(1:Int)) fun L=>g L (List.set b (Int.toNat a.2.1) i) c e)))))))))))) (p (b,c,e))
def Ī (l:Val au) (m:Int) (n:Int) (k:im) (h:an) (d:v8) (b:an) (c:an) (o:an->v8->an->an->BE ρ) (i:(Val (.pair .bool bm))->BE ρ):BE ρ :=
  ifb (ieq (Õ c) 0) (i (true,h,d,b,c)) (à (ilt 0 (í c)) (ī c 0 fun a=>à (ile 1 (í c)) (à (decide (1+(List.length c-1)=List.length c)) (à ((ile 0 a)&&(ilt a (í d))) (ī d (Int.toNat a) fun x=>à ((ile 0 a)&&(ilt a (í b))) (ī b (Int.toNat a) fun p=>ck (p+(1:Int)) fun e=>à ((ile 0 a)&&(ilt a (í b))) (ī b (Int.toNat a) fun y=>à ((ile 0 a)&&(ilt a (í (List.set b (Int.toNat a) e)))) (ī (List.set b (Int.toNat a) e) (Int.toNat a) fun q=>ck (n+(1:Int)) fun r=>ifb (igt q r) (i (false,h,(List.set d (Int.toNat a) false),(List.set b (Int.toNat a) e),(List.drop 1 c))) (Ë (fun(f:ni) s=>jR l m a k (Õ k) f.1 f.2.1 f.2.2.1 f.2.2.2 (fun t u v w=>s (t,u,v,w)) (fun g=>i (g.1,g.2.1,g.2.2.1,(List.set b (Int.toNat a) e),g.2.2.2)) (fun j=>o j.1 j.2.1 (List.set b (Int.toNat a) e) j.2.2)) ((0:Int),h,(List.set d (Int.toNat a) false),(List.drop 1 c)))))))))))
def jQ (c:Int) (d:Int) (a:Int) (b:an) (e:Int->an->BE ρ) (f:an->BE ρ):BE ρ :=
  ifb (ilt a d) (à ((ile 0 a)&&(ilt a (í b))) (ī b (Int.toNat a) fun g=>ck (g-c) fun h=>à ((ile 0 a)&&(ilt a (í b))) (ī b (Int.toNat a) fun j=>ck (a+(1:Int)) fun i=>e i (List.set b (Int.toNat a) h)))) (f b)
def AU (a:ge) (h:Val au) (k:AS->BE ρ):BE ρ :=
  à ((ile 0 a.1)&&(ã (Int.toNat a.1))) (à ((ile 0 a.1)&&(ã (Int.toNat a.1))) (à ((ile 0 a.1)&&(ã (Int.toNat a.1))) (Ë (fun(e:bl) i=>iK a.2 (Õ a.2) e.1 e.2 (fun j l=>i (j,l)) (fun m=>Ë (fun(d:y8) n=>Ś a.1 (List.replicate (Int.toNat a.1) (0:Int)) d.1 d.2.1 d.2.2 (fun o p q=>n (o,p,q)) (fun f=>Ë (fun(c:Val bm) r=>Ī h m a.1 a.2 c.1 c.2.1 c.2.2.1 c.2.2.2 (fun s t u v=>r (s,t,u,v)) (fun b=>ifb (!b.1) (k ([],false)) (à (ilt 0 (í b.2.1)) (ī b.2.1 0 fun w=>Ë (fun(g:f4) x=>jQ w (Õ b.2.1) g.1 g.2 (fun y z=>x (y,z)) (fun A=>k (A,true))) ((0:Int),b.2.1))))) ((List.replicate (Int.toNat a.1) (0:Int)),f.1,(List.replicate (Int.toNat a.1) (0:Int)),f.2))) ((0:Int),(List.replicate (Int.toNat a.1) false),[]))) ((0:Int),(0:Int)))))
def mf (a:ge) (b:Val au):BE (AS):=AU a b some
def uP (a:ge) (k:u5->BE ρ):BE ρ :=
  Æ (sf a) fun b=>ifb (ine b.1 0) (k (false,b.1)) (Æ (mf a ([])) fun c=>k (c.2,(0:Int)))
def ow (a:ge):BE (u5):=uP a some
def zX (a:a8) (b:b5) (k:Bool->BE ρ):BE ρ :=
  Æ (ji a b) fun c=>Æ (jz c) fun d=>Æ (ow d.1) fun e=>k e.1
def ŭ (a:a8) (b:b5):BE (Bool):=zX a b some
def pV (d:Int) (e:an) (f:Int) (g:c9) (b:Int) (a:Int) (c:Int->Int->BE ρ) (h:Int->BE ρ):BE ρ :=
  ifb (ilt a f) (é e a fun i=>é g d fun j=>é j.2 a fun k=>ifb (ine k i) (ck (b+(1:Int)) fun l=>ck (a+(1:Int)) fun m=>c l m) (ck (a+(1:Int)) fun n=>c b n)) (h b)
def pW (e:b5) (f:Int) (g:c9) (b:Int) (a:Int) (h:Int->Int->BE ρ) (i:Int->BE ρ):BE ρ :=
  ifb (ilt a f) (é e a fun c=>Ë (fun(d:bl) j=>pV a c (Õ c) g d.1 d.2 (fun k l=>j (k,l)) (fun m=>ck (a+(1:Int)) fun n=>h m n)) (b,(0:Int))) (i b)
def JJ (c:a8) (a:b5) (k:Int->BE ρ):BE ρ :=
  Ë (fun(b:bl) d=>pW a (Õ a) c.2 b.1 b.2 (fun e f=>d (e,f)) (fun g=>k g)) ((0:Int),(0:Int))
def ķ (a:a8) (b:b5):BE (Int):=JJ a b some
def rP (a:Int) (k:Bool->BE ρ):BE ρ :=
  k (ine a a)
def mT (a:Int):BE (Bool):=rP a some
def nQ (a:Int) (b:Int) (k:Int->BE ρ):BE ρ :=
  Æ (mT a) fun d=>Æ (mT b) fun c=>ifb d (ifb c (k (0:Int)) (k (-1:Int))) (ifb c (k (1:Int)) (ifb (ilt a b) (k (-1:Int)) (ifb (igt a b) (k (1:Int)) (k (0:Int)))))
def iO (a:Int) (b:Int):BE (Int):=nQ a b some
def JK (b:b5) (c:b5) (a:Val ay) (k:Int->BE ρ):BE ρ :=
  Æ (ķ a b) fun d=>Æ (ķ a c) fun e=>Æ (iO d e) fun f=>k f
def kz (a:b5) (b:b5) (c:Val ay):BE (Int):=JK a b c some
def ë (h:Int) (i:Int) (j:Int) (k:fy) (l:bx) (m:fx) (n:c7) (o:bx) (p:c9) (a:Int) (b:a7) (q:Int->a7->BE ρ) (g:a7->BE ρ):BE ρ :=
  ifb (igt a h) (à ((ile 0 a)&&(ilt a (í b))) (ī b (Int.toNat a) fun r=>ck (a-(1:Int)) fun d=>à ((ile 0 d)&&(ilt d (í b))) (ī b (Int.toNat d) fun s=>Æ (kz r s (((i,j),k,l,m,n,o),p)) fun t=>ifb (ilt t 0) (ck (a-(1:Int)) fun c=>ck (a-(1:Int)) fun e=>à ((ile 0 e)&&(ilt e (í b))) (ī b (Int.toNat e) fun f=>à ((ile 0 a)&&(ilt a (í b))) (ī b (Int.toNat a) fun u=>à ((ile 0 a)&&(ilt a (í b))) (ī b (Int.toNat a) fun w=>à ((ile 0 c)&&(ilt c (í (List.set b (Int.toNat a) f)))) (ī (List.set b (Int.toNat a) f) (Int.toNat c) fun x=>ck (a-(1:Int)) fun v=>q v (List.set (List.set b (Int.toNat a) f) (Int.toNat c) u)))))) (g b)))) (g b)
def đ (d:Int) (e:Int) (f:Int) (g:Int) (h:fy) (i:bx) (j:fx) (k:c7) (l:bx) (m:c9) (a:Int) (b:a7) (n:Int->a7->BE ρ) (o:a7->BE ρ):BE ρ :=
  ifb (ilt a e) (Ë (fun(c:io) p=>ë d f g h i j k l m c.1 c.2 (fun q r=>p (q,r)) (fun s=>ck (a+(1:Int)) fun t=>n t s)) (a,b)) (o b)
def ū (c:a7) (a:Int) (d:Int) (mm:a8) (k:(a7)×a8->BE ρ):BE ρ :=
  ck (a+(1:Int)) fun e=>Ë (fun(b:io) f=>đ a d mm.1.1.1 mm.1.1.2 mm.1.2.1 mm.1.2.2.1 mm.1.2.2.2.1 mm.1.2.2.2.2.1 mm.1.2.2.2.2.2 mm.2 b.1 b.2 (fun g h=>f (g,h)) (fun i=>k (i,mm))) (e,c)
def ê (a:a7) (b:Int) (c:Int) (mm:a8):BE ((a7)×a8):=ū a b c mm some
def Đ (h:Int) (i:Int) (j:Int) (b:Int) (a:a7) (k:Int->a7->BE ρ) (l:a7->BE ρ):BE ρ :=
  ifb (ilt b j) (ck (h+b) fun c=>ck (i+b) fun d=>ck (i+b) fun e=>à ((ile 0 e)&&(ilt e (í a))) (ī a (Int.toNat e) fun f=>ck (h+b) fun g=>à ((ile 0 g)&&(ilt g (í a))) (ī a (Int.toNat g) fun m=>à ((ile 0 c)&&(ilt c (í a))) (ī a (Int.toNat c) fun o=>à ((ile 0 d)&&(ilt d (í (List.set a (Int.toNat c) f)))) (ī (List.set a (Int.toNat c) f) (Int.toNat d) fun p=>ck (b+(1:Int)) fun n=>k n (List.set (List.set a (Int.toNat c) f) (Int.toNat d) m)))))) (l a)
def iJ (h:Int) (i:Int) (j:Int) (b:Int) (a:a7) (k:Int->a7->BE ρ) (l:a7->BE ρ):BE ρ :=
  ifb (ilt b j) (ck (h+b) fun c=>ck (i+b) fun d=>ck (i+b) fun e=>à ((ile 0 e)&&(ilt e (í a))) (ī a (Int.toNat e) fun f=>ck (h+b) fun g=>à ((ile 0 g)&&(ilt g (í a))) (ī a (Int.toNat g) fun m=>à ((ile 0 c)&&(ilt c (í a))) (ī a (Int.toNat c) fun o=>à ((ile 0 d)&&(ilt d (í (List.set a (Int.toNat c) f)))) (ī (List.set a (Int.toNat c) f) (Int.toNat d) fun p=>ck (b+(1:Int)) fun n=>k n (List.set (List.set a (Int.toNat c) f) (Int.toNat d) m)))))) (l a)
def ĵ (c:Int) (a:Int) (b:Int) (d:a7) (e:Int->Int->a7->BE ρ) (h:io->BE ρ):BE ρ :=
  ifb (ine a b) (ifb (igt a b) (ck (c-a) fun i=>Ë (fun(f:io) j=>Đ i c b f.1 f.2 (fun k l=>j (k,l)) (fun m=>ck (a-b) fun n=>e n b m)) ((0:Int),d)) (ck (c-a) fun o=>ck (c+b) fun p=>ck (p-a) fun q=>Ë (fun(g:io) r=>iJ o q a g.1 g.2 (fun s t=>r (s,t)) (fun u=>ck (b-a) fun v=>e a v u)) ((0:Int),d))) (h (a,d))
def iI (h:Int) (i:Int) (j:Int) (b:Int) (a:a7) (k:Int->a7->BE ρ) (l:a7->BE ρ):BE ρ :=
  ifb (ilt b j) (ck (h+b) fun c=>ck (i+b) fun d=>ck (i+b) fun e=>à ((ile 0 e)&&(ilt e (í a))) (ī a (Int.toNat e) fun f=>ck (h+b) fun g=>à ((ile 0 g)&&(ilt g (í a))) (ī a (Int.toNat g) fun m=>à ((ile 0 c)&&(ilt c (í a))) (ī a (Int.toNat c) fun o=>à ((ile 0 d)&&(ilt d (í (List.set a (Int.toNat c) f)))) (ī (List.set a (Int.toNat c) f) (Int.toNat d) fun p=>ck (b+(1:Int)) fun n=>k n (List.set (List.set a (Int.toNat c) f) (Int.toNat d) m)))))) (l a)
def jO (e:a7) (f:Int) (a:Int) (g:Int) (mm:a8) (k:(a7)×a8->BE ρ):BE ρ :=
  ck (a-f) fun h=>ck (g-a) fun i=>Ë (fun(b:y9) j=>ĵ a b.1 b.2.1 b.2.2 (fun l m n=>j (l,m,n)) (fun c=>ck (a-c.1) fun o=>Ë (fun(d:io) p=>iI o a c.1 d.1 d.2 (fun q r=>p (q,r)) (fun s=>k (s,mm))) ((0:Int),c.2))) (h,i,e)
def Ĺ (a:a7) (b:Int) (c:Int) (d:Int) (mm:a8):BE ((a7)×a8):=jO a b c d mm some
def þ (rec:a7->Int->Int->Int->a8->BE (a7×a8)) (d:Int) (b:a7) (g:Int) (h:Int) (i:fy) (j:bx) (k:fx) (l:c7) (m:bx) (n:c9) (c:Int) (e:Int) (f:Int->Int->BE ρ) (o:Int->BE ρ):BE ρ :=
  ifb (ilt c e) (ck (c+e) fun a=>à ((ile 0 (IntKind.wrap .i64 (i5 .u64 (IntKind.wrap .u64 a) (1:Int))))&&(ilt (IntKind.wrap .i64 (i5 .u64 (IntKind.wrap .u64 a) (1:Int))) (í b))) (ī b (Int.toNat (IntKind.wrap .i64 (i5 .u64 (IntKind.wrap .u64 a) (1:Int)))) fun p=>à ((ile 0 d)&&(ilt d (í b))) (ī b (Int.toNat d) fun q=>Æ (kz p q (((g,h),i,j,k,l,m),n)) fun r=>ifb (ilt r 0) (ck ((IntKind.wrap .i64 (i5 .u64 (IntKind.wrap .u64 a) (1:Int)))+(1:Int)) fun s=>f s e) (f c (IntKind.wrap .i64 (i5 .u64 (IntKind.wrap .u64 a) (1:Int))))))) (o c)
def ó (rec:a7->Int->Int->Int->a8->BE (a7×a8)) (f:Int) (a:Int) (b:a7) (g:Int->a7->BE ρ) (h:a7->BE ρ):BE ρ :=
  ck (f-(1:Int)) fun i=>ifb (ilt a i) (ck (a+(1:Int)) fun c=>ck (a+(1:Int)) fun d=>à ((ile 0 d)&&(ilt d (í b))) (ī b (Int.toNat d) fun e=>à ((ile 0 a)&&(ilt a (í b))) (ī b (Int.toNat a) fun j=>à ((ile 0 a)&&(ilt a (í b))) (ī b (Int.toNat a) fun l=>à ((ile 0 c)&&(ilt c (í (List.set b (Int.toNat a) e)))) (ī (List.set b (Int.toNat a) e) (Int.toNat c) fun m=>ck (a+(1:Int)) fun k=>g k (List.set (List.set b (Int.toNat a) e) (Int.toNat c) j)))))) (h b)
def ý (rec:a7->Int->Int->Int->a8->BE (a7×a8)) (d:Int) (b:a7) (g:Int) (h:Int) (i:fy) (j:bx) (k:fx) (l:c7) (m:bx) (n:c9) (c:Int) (e:Int) (f:Int->Int->BE ρ) (o:Int->BE ρ):BE ρ :=
  ifb (ilt c e) (ck (c+e) fun a=>à ((ile 0 d)&&(ilt d (í b))) (ī b (Int.toNat d) fun p=>à ((ile 0 (IntKind.wrap .i64 (i5 .u64 (IntKind.wrap .u64 a) (1:Int))))&&(ilt (IntKind.wrap .i64 (i5 .u64 (IntKind.wrap .u64 a) (1:Int))) (í b))) (ī b (Int.toNat (IntKind.wrap .i64 (i5 .u64 (IntKind.wrap .u64 a) (1:Int)))) fun q=>Æ (kz p q (((g,h),i,j,k,l,m),n)) fun r=>ifb (!(ilt r 0)) (ck ((IntKind.wrap .i64 (i5 .u64 (IntKind.wrap .u64 a) (1:Int)))+(1:Int)) fun s=>f s e) (f c (IntKind.wrap .i64 (i5 .u64 (IntKind.wrap .u64 a) (1:Int))))))) (o c)
def ò (rec:a7->Int->Int->Int->a8->BE (a7×a8)) (f:Int) (a:Int) (b:a7) (g:Int->a7->BE ρ) (h:a7->BE ρ):BE ρ :=
  ifb (igt a f) (ck (a-(1:Int)) fun c=>ck (a-(1:Int)) fun d=>à ((ile 0 d)&&(ilt d (í b))) (ī b (Int.toNat d) fun e=>à ((ile 0 a)&&(ilt a (í b))) (ī b (Int.toNat a) fun i=>à ((ile 0 a)&&(ilt a (í b))) (ī b (Int.toNat a) fun k=>à ((ile 0 c)&&(ilt c (í (List.set b (Int.toNat a) e)))) (ī (List.set b (Int.toNat a) e) (Int.toNat c) fun l=>ck (a-(1:Int)) fun j=>g j (List.set (List.set b (Int.toNat a) e) (Int.toNat c) i)))))) (h b)
def â (rec:a7->Int->Int->Int->a8->BE (a7×a8)) (g:Int) (b:a7) (h:Int) (i:Int) (j:fy) (k:bx) (l:fx) (m:c7) (n:bx) (o:c9) (c:Int) (d:Int) (f:Int->Int->BE ρ) (p:Int->BE ρ):BE ρ :=
  ifb (ilt c d) (ck (c+d) fun a=>ck (g-(IntKind.wrap .i64 (i5 .u64 (IntKind.wrap .u64 a) (1:Int)))) fun e=>à ((ile 0 e)&&(ilt e (í b))) (ī b (Int.toNat e) fun q=>à ((ile 0 (IntKind.wrap .i64 (i5 .u64 (IntKind.wrap .u64 a) (1:Int))))&&(ilt (IntKind.wrap .i64 (i5 .u64 (IntKind.wrap .u64 a) (1:Int))) (í b))) (ī b (Int.toNat (IntKind.wrap .i64 (i5 .u64 (IntKind.wrap .u64 a) (1:Int)))) fun r=>Æ (kz q r (((h,i),j,k,l,m,n),o)) fun s=>ifb (!(ilt s 0)) (ck ((IntKind.wrap .i64 (i5 .u64 (IntKind.wrap .u64 a) (1:Int)))+(1:Int)) fun t=>f t d) (f c (IntKind.wrap .i64 (i5 .u64 (IntKind.wrap .u64 a) (1:Int))))))) (p c)
def ħ (rec:a7->Int->Int->Int->a8->BE (a7×a8)) (c:a7) (f:Int) (g:Int) (b:Int) (mm:a8) (k:(a7)×a8->BE ρ):BE ρ :=
  ck (g-f) fun R=>ifb (ieq R 1) (Ë (fun(t:bl) S=>þ rec f c mm.1.1.1 mm.1.1.2 mm.1.2.1 mm.1.2.2.1 mm.1.2.2.2.1 mm.1.2.2.2.2.1 mm.1.2.2.2.2.2 mm.2 t.1 t.2 (fun T U=>S (T,U)) (fun V=>Ë (fun(u:io) W=>ó rec V u.1 u.2 (fun X Y=>W (X,Y)) (fun Z=>k (Z,mm))) (f,c))) (g,b)) (ck (b-g) fun df=>ifb (ieq df 1) (Ë (fun(v:bl) dg=>ý rec g c mm.1.1.1 mm.1.1.2 mm.1.2.1 mm.1.2.2.1 mm.1.2.2.2.1 mm.1.2.2.2.2.1 mm.1.2.2.2.2.2 mm.2 v.1 v.2 (fun dh di=>dg (dh,di)) (fun dj=>Ë (fun(w:io) dk=>ò rec dj w.1 w.2 (fun dl dm=>dk (dl,dm)) (fun dp=>k (dp,mm))) (g,c))) (f,g)) (ck (f+b) fun a=>ck ((IntKind.wrap .i64 (i5 .u64 (IntKind.wrap .u64 a) (1:Int)))+g) fun s=>ifb (igt g (IntKind.wrap .i64 (i5 .u64 (IntKind.wrap .u64 a) (1:Int)))) (ck (s-b) fun dq=>ck (s-1) fun dr=>Ë (fun(x:bl) dt=>â rec dr c mm.1.1.1 mm.1.1.2 mm.1.2.1 mm.1.2.2.1 mm.1.2.2.2.1 mm.1.2.2.2.2.1 mm.1.2.2.2.2.2 mm.2 x.1 x.2 (fun du dv=>dt (du,dv)) (fun j=>ck (s-j) fun d=>ifb (ilt j g) (ifb (ilt g d) (Æ (Ĺ c j g d mm) fun h=>ifb (ilt f j) (ifb (ilt j (IntKind.wrap .i64 (i5 .u64 (IntKind.wrap .u64 a) (1:Int)))) (Æ (rec h.1 f j (IntKind.wrap .i64 (i5 .u64 (IntKind.wrap .u64 a) (1:Int))) h.2) fun m=>ifb (ilt (IntKind.wrap .i64 (i5 .u64 (IntKind.wrap .u64 a) (1:Int))) d) (ifb (ilt d b) (Æ (rec m.1 (IntKind.wrap .i64 (i5 .u64 (IntKind.wrap .u64 a) (1:Int))) d b m.2) fun y=>k (y.1,y.2)) (k (m.1,m.2))) (k (m.1,m.2))) (ifb (ilt (IntKind.wrap .i64 (i5 .u64 (IntKind.wrap .u64 a) (1:Int))) d) (ifb (ilt d b) (Æ (rec h.1 (IntKind.wrap .i64 (i5 .u64 (IntKind.wrap .u64 a) (1:Int))) d b h.2) fun z=>k (z.1,z.2)) (k (h.1,h.2))) (k (h.1,h.2)))) (ifb (ilt (IntKind.wrap .i64 (i5 .u64 (IntKind.wrap .u64 a) (1:Int))) d) (ifb (ilt d b) (Æ (rec h.1 (IntKind.wrap .i64 (i5 .u64 (IntKind.wrap .u64 a) (1:Int))) d b h.2) fun A=>k (A.1,A.2)) (k (h.1,h.2))) (k (h.1,h.2)))) (ifb (ilt f j) (ifb (ilt j (IntKind.wrap .i64 (i5 .u64 (IntKind.wrap .u64 a) (1:Int)))) (Æ (rec c f j (IntKind.wrap .i64 (i5 .u64 (IntKind.wrap .u64 a) (1:Int))) mm) fun n=>ifb (ilt (IntKind.wrap .i64 (i5 .u64 (IntKind.wrap .u64 a) (1:Int))) d) (ifb (ilt d b) (Æ (rec n.1 (IntKind.wrap .i64 (i5 .u64 (IntKind.wrap .u64 a) (1:Int))) d b n.2) fun B=>k (B.1,B.2)) (k (n.1,n.2))) (k (n.1,n.2))) (ifb (ilt (IntKind.wrap .i64 (i5 .u64 (IntKind.wrap .u64 a) (1:Int))) d) (ifb (ilt d b) (Æ (rec c (IntKind.wrap .i64 (i5 .u64 (IntKind.wrap .u64 a) (1:Int))) d b mm) fun C=>k (C.1,C.2)) (k (c,mm))) (k (c,mm)))) (ifb (ilt (IntKind.wrap .i64 (i5 .u64 (IntKind.wrap .u64 a) (1:Int))) d) (ifb (ilt d b) (Æ (rec c (IntKind.wrap .i64 (i5 .u64 (IntKind.wrap .u64 a) (1:Int))) d b mm) fun D=>k (D.1,D.2)) (k (c,mm))) (k (c,mm))))) (ifb (ilt f j) (ifb (ilt j (IntKind.wrap .i64 (i5 .u64 (IntKind.wrap .u64 a) (1:Int)))) (Æ (rec c f j (IntKind.wrap .i64 (i5 .u64 (IntKind.wrap .u64 a) (1:Int))) mm) fun o=>ifb (ilt (IntKind.wrap .i64 (i5 .u64 (IntKind.wrap .u64 a) (1:Int))) d) (ifb (ilt d b) (Æ (rec o.1 (IntKind.wrap .i64 (i5 .u64 (IntKind.wrap .u64 a) (1:Int))) d b o.2) fun E=>k (E.1,E.2)) (k (o.1,o.2))) (k (o.1,o.2))) (ifb (ilt (IntKind.wrap .i64 (i5 .u64 (IntKind.wrap .u64 a) (1:Int))) d) (ifb (ilt d b) (Æ (rec c (IntKind.wrap .i64 (i5 .u64 (IntKind.wrap .u64 a) (1:Int))) d b mm) fun F=>k (F.1,F.2)) (k (c,mm))) (k (c,mm)))) (ifb (ilt (IntKind.wrap .i64 (i5 .u64 (IntKind.wrap .u64 a) (1:Int))) d) (ifb (ilt d b) (Æ (rec c (IntKind.wrap .i64 (i5 .u64 (IntKind.wrap .u64 a) (1:Int))) d b mm) fun G=>k (G.1,G.2)) (k (c,mm))) (k (c,mm)))))) (dq,(IntKind.wrap .i64 (i5 .u64 (IntKind.wrap .u64 a) (1:Int))))) (ck (s-1) fun dw=>Ë (fun(H:bl) dz=>â rec dw c mm.1.1.1 mm.1.1.2 mm.1.2.1 mm.1.2.2.1 mm.1.2.2.2.1 mm.1.2.2.2.2.1 mm.1.2.2.2.2.2 mm.2 H.1 H.2 (fun d8 d9=>dz (d8,d9)) (fun l=>ck (s-l) fun e=>ifb (ilt l g) (ifb (ilt g e) (Æ (Ĺ c l g e mm) fun i=>ifb (ilt f l) (ifb (ilt l (IntKind.wrap .i64 (i5 .u64 (IntKind.wrap .u64 a) (1:Int)))) (Æ (rec i.1 f l (IntKind.wrap .i64 (i5 .u64 (IntKind.wrap .u64 a) (1:Int))) i.2) fun p=>ifb (ilt (IntKind.wrap .i64 (i5 .u64 (IntKind.wrap .u64 a) (1:Int))) e) (ifb (ilt e b) (Æ (rec p.1 (IntKind.wrap .i64 (i5 .u64 (IntKind.wrap .u64 a) (1:Int))) e b p.2) fun I=>k (I.1,I.2)) (k (p.1,p.2))) (k (p.1,p.2))) (ifb (ilt (IntKind.wrap .i64 (i5 .u64 (IntKind.wrap .u64 a) (1:Int))) e) (ifb (ilt e b) (Æ (rec i.1 (IntKind.wrap .i64 (i5 .u64 (IntKind.wrap .u64 a) (1:Int))) e b i.2) fun J=>k (J.1,J.2)) (k (i.1,i.2))) (k (i.1,i.2)))) (ifb (ilt (IntKind.wrap .i64 (i5 .u64 (IntKind.wrap .u64 a) (1:Int))) e) (ifb (ilt e b) (Æ (rec i.1 (IntKind.wrap .i64 (i5 .u64 (IntKind.wrap .u64 a) (1:Int))) e b i.2) fun K=>k (K.1,K.2)) (k (i.1,i.2))) (k (i.1,i.2)))) (ifb (ilt f l) (ifb (ilt l (IntKind.wrap .i64 (i5 .u64 (IntKind.wrap .u64 a) (1:Int)))) (Æ (rec c f l (IntKind.wrap .i64 (i5 .u64 (IntKind.wrap .u64 a) (1:Int))) mm) fun q=>ifb (ilt (IntKind.wrap .i64 (i5 .u64 (IntKind.wrap .u64 a) (1:Int))) e) (ifb (ilt e b) (Æ (rec q.1 (IntKind.wrap .i64 (i5 .u64 (IntKind.wrap .u64 a) (1:Int))) e b q.2) fun L=>k (L.1,L.2)) (k (q.1,q.2))) (k (q.1,q.2))) (ifb (ilt (IntKind.wrap .i64 (i5 .u64 (IntKind.wrap .u64 a) (1:Int))) e) (ifb (ilt e b) (Æ (rec c (IntKind.wrap .i64 (i5 .u64 (IntKind.wrap .u64 a) (1:Int))) e b mm) fun M=>k (M.1,M.2)) (k (c,mm))) (k (c,mm)))) (ifb (ilt (IntKind.wrap .i64 (i5 .u64 (IntKind.wrap .u64 a) (1:Int))) e) (ifb (ilt e b) (Æ (rec c (IntKind.wrap .i64 (i5 .u64 (IntKind.wrap .u64 a) (1:Int))) e b mm) fun N=>k (N.1,N.2)) (k (c,mm))) (k (c,mm))))) (ifb (ilt f l) (ifb (ilt l (IntKind.wrap .i64 (i5 .u64 (IntKind.wrap .u64 a) (1:Int)))) (Æ (rec c f l (IntKind.wrap .i64 (i5 .u64 (IntKind.wrap .u64 a) (1:Int))) mm) fun r=>ifb (ilt (IntKind.wrap .i64 (i5 .u64 (IntKind.wrap .u64 a) (1:Int))) e) (ifb (ilt e b) (Æ (rec r.1 (IntKind.wrap .i64 (i5 .u64 (IntKind.wrap .u64 a) (1:Int))) e b r.2) fun O=>k (O.1,O.2)) (k (r.1,r.2))) (k (r.1,r.2))) (ifb (ilt (IntKind.wrap .i64 (i5 .u64 (IntKind.wrap .u64 a) (1:Int))) e) (ifb (ilt e b) (Æ (rec c (IntKind.wrap .i64 (i5 .u64 (IntKind.wrap .u64 a) (1:Int))) e b mm) fun P=>k (P.1,P.2)) (k (c,mm))) (k (c,mm)))) (ifb (ilt (IntKind.wrap .i64 (i5 .u64 (IntKind.wrap .u64 a) (1:Int))) e) (ifb (ilt e b) (Æ (rec c (IntKind.wrap .i64 (i5 .u64 (IntKind.wrap .u64 a) (1:Int))) e b mm) fun Q=>k (Q.1,Q.2)) (k (c,mm))) (k (c,mm)))))) (f,g))))
def Ħ:Nat->a7->Int->Int->Int->a8->BE (a7×a8)
  |0=>fun _ _ _ _ _=>none
  |n+1=>fun a b c d mm=>ħ (Ħ n) a b c d mm some
def Ę (a:a7) (b:Int) (c:Int) (d:Int) (mm:a8):BE ((a7)×a8):=Ħ 100 a b c d mm
def iH (m:Int) (n:Int) (c:Int) (b:Int) (d:a7) (e:Int) (f:Int) (g:fy) (h:bx) (i:fx) (j:c7) (k:bx) (l:c9) (o:Int->Int->a7->Int->Int->fy->bx->fx->c7->bx->c9->BE ρ) (p:u7->BE ρ):BE ρ :=
  ifb (ile b m) (Æ (ê d c b (((e,f),g,h,i,j,k),l)) fun a=>ck (b+n) fun q=>o b q a.1 a.2.1.1.1 a.2.1.1.2 a.2.1.2.1 a.2.1.2.2.1 a.2.1.2.2.2.1 a.2.1.2.2.2.2.1 a.2.1.2.2.2.2.2 a.2.2) (p (c,d,e,f,g,h,i,j,k,l))
def iF (n:Int) (d:Int) (c:Int) (b:Int) (e:a7) (f:Int) (g:Int) (h:fy) (i:bx) (j:fx) (k:c7) (l:bx) (m:c9) (o:Int->Int->a7->Int->Int->fy->bx->fx->c7->bx->c9->BE ρ) (p:u7->BE ρ):BE ρ :=
  ifb (ile b n) (ck (c+d) fun q=>Æ (Ę e c q b (((f,g),h,i,j,k,l),m)) fun a=>ck ((2:Int)*d) fun r=>ck (b+r) fun s=>o b s a.1 a.2.1.1.1 a.2.1.1.2 a.2.1.2.1 a.2.1.2.2.1 a.2.1.2.2.2.1 a.2.1.2.2.2.2.1 a.2.1.2.2.2.2.2 a.2.2) (p (c,e,f,g,h,i,j,k,l,m))
def iG (e:Int) (d:Int) (f:a7) (g:Int) (h:Int) (i:fy) (j:bx) (k:fx) (l:c7) (m:bx) (n:c9) (o:Int->a7->Int->Int->fy->bx->fx->c7->bx->c9->BE ρ) (q:(Val (.pair ak ai))->BE ρ):BE ρ :=
  ifb (ilt d e) (ck ((2:Int)*d) fun r=>Ë (fun(b:An) s=>iF e d b.1 b.2.1 b.2.2.1 b.2.2.2.1 b.2.2.2.2.1 b.2.2.2.2.2.1 b.2.2.2.2.2.2.1 b.2.2.2.2.2.2.2.1 b.2.2.2.2.2.2.2.2.1 b.2.2.2.2.2.2.2.2.2.1 b.2.2.2.2.2.2.2.2.2.2 (fun t u v w x y z A B C D=>s (t,u,v,w,x,y,z,A,B,C,D)) (fun a=>ck (a.1+d) fun p=>ifb (ilt p e) (Æ (Ę a.2.1 a.1 p e (((a.2.2.1,a.2.2.2.1),a.2.2.2.2.1,a.2.2.2.2.2.1,a.2.2.2.2.2.2.1,a.2.2.2.2.2.2.2.1,a.2.2.2.2.2.2.2.2.1),a.2.2.2.2.2.2.2.2.2)) fun c=>ck (d*(2:Int)) fun E=>o E c.1 c.2.1.1.1 c.2.1.1.2 c.2.1.2.1 c.2.1.2.2.1 c.2.1.2.2.2.1 c.2.1.2.2.2.2.1 c.2.1.2.2.2.2.2 c.2.2) (ck (d*(2:Int)) fun F=>o F a.2.1 a.2.2.1 a.2.2.2.1 a.2.2.2.2.1 a.2.2.2.2.2.1 a.2.2.2.2.2.2.1 a.2.2.2.2.2.2.2.1 a.2.2.2.2.2.2.2.2.1 a.2.2.2.2.2.2.2.2.2))) ((0:Int),r,f,g,h,i,j,k,l,m,n)) (q (f,g,h,i,j,k,l,m,n))
def jN (g:a7) (f:Int) (mm:a8) (k:(a7)×a8->BE ρ):BE ρ :=
  Ë (fun(a:An) h=>iH f (20:Int) a.1 a.2.1 a.2.2.1 a.2.2.2.1 a.2.2.2.2.1 a.2.2.2.2.2.1 a.2.2.2.2.2.2.1 a.2.2.2.2.2.2.2.1 a.2.2.2.2.2.2.2.2.1 a.2.2.2.2.2.2.2.2.2.1 a.2.2.2.2.2.2.2.2.2.2 (fun i j l m n o p q r s t=>h (i,j,l,m,n,o,p,q,r,s,t)) (fun b=>Æ (ê b.2.1 b.1 f (((b.2.2.1,b.2.2.2.1),b.2.2.2.2.1,b.2.2.2.2.2.1,b.2.2.2.2.2.2.1,b.2.2.2.2.2.2.2.1,b.2.2.2.2.2.2.2.2.1),b.2.2.2.2.2.2.2.2.2)) fun d=>Ë (fun(c:u7) u=>iG f c.1 c.2.1 c.2.2.1 c.2.2.2.1 c.2.2.2.2.1 c.2.2.2.2.2.1 c.2.2.2.2.2.2.1 c.2.2.2.2.2.2.2.1 c.2.2.2.2.2.2.2.2.1 c.2.2.2.2.2.2.2.2.2 (fun v w x y z A B C D E=>u (v,w,x,y,z,A,B,C,D,E)) (fun e=>k (e.1,(((e.2.1,e.2.2.1),e.2.2.2.1,e.2.2.2.2.1,e.2.2.2.2.2.1,e.2.2.2.2.2.2.1,e.2.2.2.2.2.2.2.1),e.2.2.2.2.2.2.2.2)))) ((20:Int),d.1,d.2.1.1.1,d.2.1.1.2,d.2.1.2.1,d.2.1.2.2.1,d.2.1.2.2.2.1,d.2.1.2.2.2.2.1,d.2.1.2.2.2.2.2,d.2.2))) ((0:Int),(20:Int),g,mm.1.1.1,mm.1.1.2,mm.1.2.1,mm.1.2.2.1,mm.1.2.2.2.1,mm.1.2.2.2.2.1,mm.1.2.2.2.2.2,mm.2)
def ĸ (a:a7) (b:Int) (mm:a8):BE ((a7)×a8):=jN a b mm some
def E4 (a:a7) (y:b5) (b:a7->BE ρ):BE ρ :=
  à (ã ((List.length a)+(List.length ([y])))) (b (a++([y])))
def xf (c:Int) (d:Int) (e:Int) (f:fy) (g:bx) (h:fx) (i:c7) (j:bx) (k:c9) (b:a7) (a:Int) (l:Int->BE ρ) (m:Int->BE ρ) (n:Unit->BE ρ):BE ρ :=
  ifb (ilt a c) (à ((ile 0 a)&&(ilt a (í b))) (ī b (Int.toNat a) fun o=>Æ (ŭ (((d,e),f,g,h,i,j),k) o) fun p=>ifb (!p) (m a) (ck (a+(1:Int)) fun q=>l q))) (n ())
def nI (f:Int) (g:Int) (h:fy) (i:bx) (j:fx) (k:c7) (l:bx) (m:c9) (b:Int) (c:Int) (a:a7) (d:Int->Int->a7->BE ρ) (n:io->BE ρ):BE ρ :=
  ifb (ilt c (Õ a)) (à ((ile 0 c)&&(ilt c (í a))) (ī a (Int.toNat c) fun e=>Æ (ŭ (((f,g),h,i,j,k,l),m) e) fun o=>ifb (!(!o)) (à ((ile 0 b)&&(ilt b (í a))) (ī a (Int.toNat b) fun s=>ck (b+(1:Int)) fun p=>ck (c+(1:Int)) fun q=>d p q (List.set a (Int.toNat b) e))) (ck (c+(1:Int)) fun r=>d b r a))) (n (b,a))
def WR (b:a8) (k:a7->BE ρ):BE ρ :=
  Æ (nW b.2) fun g=>Bm (fun(h:a7) (i:b5) j=>E4 h i (fun l=>j l)) g ([]) (fun f=>Æ (ĸ f (Õ f) b) fun c=>Ë (fun(m:Int) n=>xf (Õ c.1) b.1.1.1 b.1.1.2 b.1.2.1 b.1.2.2.1 b.1.2.2.2.1 b.1.2.2.2.2.1 b.1.2.2.2.2.2 b.2 c.1 m (fun o=>n o) (fun d=>ifb (ieq d (-1:Int)) (k c.1) (ck (d+(1:Int)) fun p=>Ë (fun(e:y9) q=>nI b.1.1.1 b.1.1.2 b.1.2.1 b.1.2.2.1 b.1.2.2.2.1 b.1.2.2.2.2.1 b.1.2.2.2.2.2 b.2 e.1 e.2.1 e.2.2 (fun r s t=>q (r,s,t)) (fun a=>à ((ile 0 a.1)&&(ile a.1 (í a.2))) (à ((ile 0 a.1)&&(ile a.1 (í (List.take (Int.toNat a.1) a.2++List.replicate (List.length a.2-(Int.toNat a.1)) ([])++List.drop ((Int.toNat a.1)+(List.length a.2-(Int.toNat a.1))) a.2)))) (k (List.take (Int.toNat a.1) (List.drop 0 (List.take (Int.toNat a.1) a.2++List.replicate (List.length a.2-(Int.toNat a.1)) ([])++List.drop ((Int.toNat a.1)+(List.length a.2-(Int.toNat a.1))) a.2))))))) (d,p,c.1))) (fun _=>k c.1)) (0:Int))
def II (a:a8):BE (a7):=WR a some
def acS (a:a8) (k:px->BE ρ):BE ρ :=
  Æ (iM a) fun b=>ifb (ine b 0) (k ([],b)) (Æ (II a) fun c=>k (c,(0:Int)))
def Rt (a:a8):BE (px):=acS a some
def EP (a:a7) (y:b5) (b:a7->BE ρ):BE ρ :=
  à (ã ((List.length a)+(List.length ([y])))) (b (a++([y])))
def WM (a:a8) (k:a7->BE ρ):BE ρ :=
  Æ (nW a.2) fun c=>Bm (fun(d:a7) (e:b5) f=>EP d e (fun g=>f g)) c ([]) (fun b=>Æ (ĸ b (Õ b) a) fun h=>k h.1)
def uw (a:a8):BE (a7):=WM a some
def lH (c:a7) (d:Int) (e:Int) (f:Int) (g:fy) (h:bx) (i:fx) (j:c7) (k:bx) (l:c9) (a:Int) (m:Int->BE ρ) (n:rd->BE ρ) (o:Unit->BE ρ):BE ρ :=
  ifb (ilt a d) (é c a fun b=>Æ (ŭ (((e,f),g,h,i,j,k),l) b) fun p=>ifb p (n (b,true)) (ck (a+(1:Int)) fun q=>m q)) (o ())
def xg (a:a8) (k:rd->BE ρ):BE ρ :=
  Æ (uw a) fun b=>Ë (fun(d:Int) e=>lH b (Õ b) a.1.1.1 a.1.1.2 a.1.2.1 a.1.2.2.1 a.1.2.2.2.1 a.1.2.2.2.2.1 a.1.2.2.2.2.2 a.2 d (fun f=>e f) (fun c=>k (c.1,c.2)) (fun _=>k ([],false))) (0:Int)
def ą (a:a8):BE (rd):=xg a some
def Pg (a:a8) (k:Val bn->BE ρ):BE ρ :=
  Æ (iM a) fun b=>ifb (ine b 0) (k ([],b)) (Æ (ą a) fun c=>ifb (!c.2) (k ([],(5:Int))) (k (c.1,(0:Int))))
def Bo (a:a8):BE ((Val bn)):=Pg a some
def lM (b:an) (c:an) (a:Int) (d:Int->BE ρ) (e:Bool->BE ρ) (f:Unit->BE ρ):BE ρ :=
  ifb (ilt a (Õ b)) (é b a fun g=>é c a fun h=>ifb (ine g h) (e false) (ck (a+(1:Int)) fun i=>d i)) (f ())
def xB (a:an) (b:an) (k:Bool->BE ρ):BE ρ :=
  ifb (ine (Õ a) (Õ b)) (k false) (Ë (fun(c:Int) d=>lM a b c (fun e=>d e) (fun f=>k f) (fun _=>k true)) (0:Int))
def kD (a:an) (b:an):BE (Bool):=xB a b some
def mL (b:b5) (c:b5) (a:Int) (d:Int->BE ρ) (e:Bool->BE ρ) (f:Unit->BE ρ):BE ρ :=
  ifb (ilt a (Õ b)) (é b a fun g=>é c a fun h=>Æ (kD g h) fun i=>ifb (!i) (e false) (ck (a+(1:Int)) fun j=>d j)) (f ())
def Ao (a:b5) (b:b5) (k:Bool->BE ρ):BE ρ :=
  ifb (ine (Õ a) (Õ b)) (k false) (Ë (fun(c:Int) d=>mL a b c (fun e=>d e) (fun f=>k f) (fun _=>k true)) (0:Int))
def iY (a:b5) (b:b5):BE (Bool):=Ao a b some
def ti (b:fy) (c:Int) (d:Int) (a:Int) (e:Int->BE ρ) (f:Int->BE ρ) (g:Unit->BE ρ):BE ρ :=
  ifb (ilt a c) (é b a fun h=>ifb (ieq h.1 d) (f a) (ck (a+(1:Int)) fun i=>e i)) (g ())
def OU (a:a8) (c:Int) (b:Int) (k:Int->BE ρ):BE ρ :=
  ifb (ilt b 0) (k (1:Int)) (ifb (igt b 20000) (k (1:Int)) (Ë (fun(d:Int) e=>ti a.1.2.1 (Õ a.1.2.1) c d (fun f=>e f) (fun g=>ifb (!(ige g 0)) (k (5:Int)) (k (0:Int))) (fun _=>k (5:Int))) (0:Int)))
def wz (a:a8) (b:Int) (c:Int):BE (Int):=OU a b c some
def KC (a:an) (b:an) (k:x9->BE ρ):BE ρ :=
  Æ (oa a) fun c=>ifb (!c) (k ([],[],(1:Int))) (Æ (oa b) fun d=>ifb (!d) (k ([],[],(1:Int))) (Æ (Φ a b) fun e=>Æ (Φ b a) fun f=>k (e,f,(0:Int))))
def qN (a:an) (b:an):BE (x9):=KC a b some
def lJ (g:Int) (b:Int) (c:c7) (a:Int) (d:Int->BE ρ) (h:Int->BE ρ) (i:Unit->BE ρ):BE ρ :=
  ifb (ilt a g) (à ((ile 0 a)&&(ilt a (í c))) (ī c (Int.toNat a) fun e=>Æ (qN e.2.2.1 e.2.2.2.1) fun f=>Æ (å f.1 b) fun j=>ifb j (ck (a+(1:Int)) fun k=>d k) (Æ (å f.2.1 b) fun l=>ifb (!l) (h a) (ck (a+(1:Int)) fun m=>d m)))) (i ())
def Δ (f:Int) (a:Int) (c:Int) (b:c7) (e:Int->Int->c7->BE ρ) (h:Val bc->BE ρ):BE ρ :=
  ifb (ilt c (Õ b)) (à ((ile 0 c)&&(ilt c (í b))) (ī b (Int.toNat c) fun d=>Æ (qN d.2.2.1 d.2.2.2.1) fun g=>Æ (å g.1 f) fun i=>ifb i (à ((ile 0 a)&&(ilt a (í b))) (ī b (Int.toNat a) fun p=>ck (a+(1:Int)) fun j=>ck (c+(1:Int)) fun k=>e j k (List.set b (Int.toNat a) d))) (Æ (å g.2.1 f) fun l=>ifb (!(!l)) (à ((ile 0 a)&&(ilt a (í b))) (ī b (Int.toNat a) fun q=>ck (a+(1:Int)) fun m=>ck (c+(1:Int)) fun n=>e m n (List.set b (Int.toNat a) d))) (ck (c+(1:Int)) fun o=>e a o b)))) (h (a,b))
def xh (b:a8) (c:Int) (k:u5->BE ρ):BE ρ :=
  Æ (iM b) fun f=>ifb (ine f 0) (k (false,f)) (Æ (wz b c (0:Int)) fun g=>ifb (ine g 0) (k (false,g)) (à (ã (List.length b.1.2.2.2.2.1)) (Ë (fun(h:Int) i=>lJ (Õ b.1.2.2.2.2.1) c b.1.2.2.2.2.1 h (fun j=>i j) (fun d=>ifb (ieq d (-1:Int)) (Æ (ą b) fun l=>k ((!l.2),(0:Int))) (ck (d+(1:Int)) fun m=>Ë (fun(e:At) n=>Δ c e.1 e.2.1 e.2.2 (fun o p q=>n (o,p,q)) (fun a=>à ((ile 0 a.1)&&(ile a.1 (í a.2))) (à ((ile 0 a.1)&&(ile a.1 (í (List.take (Int.toNat a.1) a.2++List.replicate (List.length a.2-(Int.toNat a.1)) ((0:Int),(0:Int),[],[],(0:Int),(0:Int),(0:Int),(0:Int))++List.drop ((Int.toNat a.1)+(List.length a.2-(Int.toNat a.1))) a.2)))) (Æ (ą ((b.1.1,b.1.2.1,b.1.2.2.1,b.1.2.2.2.1,(List.take (Int.toNat a.1) (List.drop 0 (List.take (Int.toNat a.1) a.2++List.replicate (List.length a.2-(Int.toNat a.1)) ((0:Int),(0:Int),[],[],(0:Int),(0:Int),(0:Int),(0:Int))++List.drop ((Int.toNat a.1)+(List.length a.2-(Int.toNat a.1))) a.2))),b.1.2.2.2.2.2),b.2)) fun r=>k ((!r.2),(0:Int)))))) (d,m,b.1.2.2.2.2.1))) (fun _=>Æ (ą b) fun s=>k ((!s.2),(0:Int)))) (0:Int))))
def qu (a:a8) (b:Int):BE (u5):=xh a b some
def xe (c:Int) (d:an) (b:c7) (a:Int) (e:Int->BE ρ) (f:Int->BE ρ) (g:Unit->BE ρ):BE ρ :=
  ifb (ilt a c) (à ((ile 0 a)&&(ilt a (í b))) (ī b (Int.toNat a) fun h=>Æ (å d h.1) fun i=>ifb (!i) (f a) (ck (a+(1:Int)) fun j=>e j))) (g ())
def nH (f:an) (b:Int) (c:Int) (a:c7) (d:Int->Int->c7->BE ρ) (g:Val bc->BE ρ):BE ρ :=
  ifb (ilt c (Õ a)) (à ((ile 0 c)&&(ilt c (í a))) (ī a (Int.toNat c) fun e=>Æ (å f e.1) fun h=>ifb (!(!h)) (à ((ile 0 b)&&(ilt b (í a))) (ī a (Int.toNat b) fun l=>ck (b+(1:Int)) fun i=>ck (c+(1:Int)) fun j=>d i j (List.set a (Int.toNat b) e))) (ck (c+(1:Int)) fun k=>d b k a))) (g (b,a))
def WN (b:a8) (e:an) (k:a8->BE ρ):BE ρ :=
  à (ã (List.length b.1.2.2.2.2.1)) (Ë (fun(f:Int) g=>xe (Õ b.1.2.2.2.2.1) e b.1.2.2.2.2.1 f (fun h=>g h) (fun c=>ifb (ieq c (-1:Int)) (k b) (ck (c+(1:Int)) fun i=>Ë (fun(d:At) j=>nH e d.1 d.2.1 d.2.2 (fun l m n=>j (l,m,n)) (fun a=>à ((ile 0 a.1)&&(ile a.1 (í a.2))) (à ((ile 0 a.1)&&(ile a.1 (í (List.take (Int.toNat a.1) a.2++List.replicate (List.length a.2-(Int.toNat a.1)) ((0:Int),(0:Int),[],[],(0:Int),(0:Int),(0:Int),(0:Int))++List.drop ((Int.toNat a.1)+(List.length a.2-(Int.toNat a.1))) a.2)))) (k ((b.1.1,b.1.2.1,b.1.2.2.1,b.1.2.2.2.1,(List.take (Int.toNat a.1) (List.drop 0 (List.take (Int.toNat a.1) a.2++List.replicate (List.length a.2-(Int.toNat a.1)) ((0:Int),(0:Int),[],[],(0:Int),(0:Int),(0:Int),(0:Int))++List.drop ((Int.toNat a.1)+(List.length a.2-(Int.toNat a.1))) a.2))),b.1.2.2.2.2.2),b.2))))) (c,i,b.1.2.2.2.2.1))) (fun _=>k b)) (0:Int))
def Cg (a:a8) (b:an):BE a8:=WN a b some
def xi (d:c7) (e:Int) (a:Int) (b:an) (f:Int->an->BE ρ) (g:an->BE ρ):BE ρ :=
  ifb (ilt a e) (é d a fun c=>à (ã ((List.length b)+(List.length ([c.1])))) (ck (a+(1:Int)) fun h=>f h (b++([c.1])))) (g b)
def ri (f:Int) (g:Int) (h:fy) (i:bx) (j:fx) (k:c7) (l:bx) (m:c9) (b:an) (a:Int) (d:an->Int->BE ρ) (n:an->BE ρ):BE ρ :=
  ifb (ige a 0) (à ((ile 0 a)&&(ile a (í b))) (ck (a+(1:Int)) fun c=>à ((ile 0 c)&&(ile c (í b))) (Æ (ĩ ([(List.take (Int.toNat a) b),(List.drop (Int.toNat c) b)])) fun e=>Æ (Cg (((f,g),h,i,j,k,l),m) e) fun o=>Æ (ą o) fun p=>ifb (!p.2) (ck (a-(1:Int)) fun q=>d e q) (ck (a-(1:Int)) fun r=>d b r)))) (n b)
def WY (a:a8) (k:lA->BE ρ):BE ρ :=
  Æ (iM a) fun b=>ifb (ine b 0) (k ([],b)) (Æ (ą a) fun f=>ifb f.2 (k ([],(5:Int))) (Ë (fun(c:f4) g=>xi a.1.2.2.2.2.1 (Õ a.1.2.2.2.2.1) c.1 c.2 (fun h i=>g (h,i)) (fun d=>ck ((Õ d)-(1:Int)) fun j=>Ë (fun(e:lA) l=>ri a.1.1.1 a.1.1.2 a.1.2.1 a.1.2.2.1 a.1.2.2.2.1 a.1.2.2.2.2.1 a.1.2.2.2.2.2 a.2 e.1 e.2 (fun m n=>l (m,n)) (fun o=>k (o,(0:Int)))) (d,j))) ((0:Int),[])))
def Nx (a:a8):BE (lA):=WY a some
def pZ (e:Int) (f:an) (g:Int) (a:Int) (b:an) (c:Int->an->BE ρ) (h:an->BE ρ):BE ρ :=
  ifb (ilt a g) (é f a fun d=>à (ile 0 a) (ifb (ieq (andI .i64 (i5 .i64 e a) (1:Int)) 1) (à (ã ((List.length b)+(List.length ([d])))) (ck (a+(1:Int)) fun i=>c i (b++([d])))) (ck (a+(1:Int)) fun j=>c j b))) (h b)
def JO (a:an) (c:Int) (k:an->BE ρ):BE ρ :=
  Ë (fun(b:f4) d=>pZ c a (Õ a) b.1 b.2 (fun e f=>d (e,f)) (fun g=>k g)) ((0:Int),[])
def jw (a:an) (b:Int):BE (an):=JO a b some
def mE (b:c7) (c:Int) (d:Int) (a:Int) (e:Int->BE ρ) (f:Int->BE ρ) (g:Unit->BE ρ):BE ρ :=
  ifb (ilt a c) (é b a fun h=>ifb (ieq h.1 d) (f a) (ck (a+(1:Int)) fun i=>e i)) (g ())
def iE (d:an) (e:Int) (b:c7) (a:Int) (f:Int->BE ρ) (c:Int->BE ρ) (g:Unit->BE ρ):BE ρ :=
  ifb (ilt a e) (é d a fun h=>Ë (fun(i:Int) j=>mE b (Õ b) h i (fun k=>j k) (fun l=>ifb (!(ige l 0)) (c (5:Int)) (ck (a+(1:Int)) fun m=>f m)) (fun _=>c (5:Int))) (0:Int)) (g ())
def jL (b:an) (a:Int) (c:Int->BE ρ) (d:Int->BE ρ) (e:Unit->BE ρ):BE ρ :=
  ifb (ilt a (Õ b)) (é b a fun f=>ck (a-(1:Int)) fun g=>é b g fun h=>ifb (ile f h) (d (6:Int)) (ck (a+(1:Int)) fun i=>c i)) (e ())
def jK (c:a7) (d:Int) (e:Int) (f:Int) (g:fy) (h:bx) (i:fx) (j:c7) (k:bx) (l:c9) (m:an) (n:Int) (a:Int) (o:Int->BE ρ) (p:rd->BE ρ) (q:Unit->BE ρ):BE ρ :=
  ifb (ilt a d) (é c a fun b=>Æ (jw m n) fun r=>Æ (Cg (((e,f),g,h,i,j,k),l) r) fun s=>Æ (ŭ s b) fun t=>ifb (!(!t)) (p (b,true)) (ck (a+(1:Int)) fun u=>o u)) (q ())
def ŵ (b:an) (e:an) (f:Int) (a:Int) (g:Int->BE ρ) (c:Int->BE ρ) (h:Unit->BE ρ):BE ρ :=
  ifb (ilt a f) (é e a fun i=>ifb (ige a (Õ b)) (c (1:Int)) (é b a fun j=>Æ (iO i j) fun d=>ifb (ine d 0) (c d) (ck (a+(1:Int)) fun k=>g k))) (h ())
def ř (c:Int) (d:Int) (b:an) (a:Int) (e:Int->BE ρ) (f:Unit->BE ρ) (g:Unit->BE ρ):BE ρ :=
  ifb (ilt a d) (à ((ile 0 a)&&(ilt a (í b))) (ī b (Int.toNat a) fun h=>ifb (ieq (K6 .i64 c h) 0) (f ()) (ck (a+(1:Int)) fun i=>e i))) (g ())
def Ř (b:Int) (d:a7) (e:Int) (f:an) (g:Int) (h:Int) (i:fy) (j:bx) (k:fx) (l:c7) (m:bx) (n:c9) (c:Int) (a:an) (o:Int->an->BE ρ) (p:an->BE ρ) (q:an->BE ρ):BE ρ :=
  ifb (ilt c e) (é d c fun r=>Æ (jw f b) fun s=>Æ (Cg (((g,h),i,j,k,l,m),n) s) fun t=>Æ (ŭ t r) fun u=>ifb (!(!u)) (à (ã ((List.length a)+(List.length ([b])))) (p (a++([b])))) (ck (c+(1:Int)) fun v=>o v a)) (q a)
def Ŷ (g:a7) (t:Int) (h:an) (i:Int) (j:Int) (k:fy) (l:bx) (m:fx) (n:c7) (o:bx) (p:c9) (c:an) (e:Int) (a:Int) (b:an) (d:an->Int->Int->an->BE ρ) (u:f4->BE ρ):BE ρ :=
  ifb (ilt a t) (Æ (jw h a) fun f=>ifb (igt (Õ f) (Õ c)) (ck (a+(1:Int)) fun v=>d c e v b) (ifb (ieq (Õ f) (Õ c)) (Ë (fun(w:Int) x=>ŵ c f (Õ f) w (fun y=>x y) (fun z=>ifb (ige z 0) (ck (a+(1:Int)) fun A=>d c e A b) (Ë (fun(B:Int) C=>ř a (Õ b) b B (fun D=>C D) (fun _=>ck (a+(1:Int)) fun E=>d c e E b) (fun _=>Ë (fun(q:f4) F=>Ř a g (Õ g) h i j k l m n o p q.1 q.2 (fun G H=>F (G,H)) (fun I=>ck (a+(1:Int)) fun J=>d c e J I) (fun K=>ck (a+(1:Int)) fun L=>d f a L K)) ((0:Int),b))) (0:Int))) (fun _=>ifb (ilt (Õ f) (Õ c)) (Ë (fun(M:Int) N=>ř a (Õ b) b M (fun O=>N O) (fun _=>ck (a+(1:Int)) fun P=>d c e P b) (fun _=>Ë (fun(r:f4) Q=>Ř a g (Õ g) h i j k l m n o p r.1 r.2 (fun R S=>Q (R,S)) (fun T=>ck (a+(1:Int)) fun U=>d c e U T) (fun V=>ck (a+(1:Int)) fun W=>d f a W V)) ((0:Int),b))) (0:Int)) (ck (a+(1:Int)) fun X=>d c e X b))) (0:Int)) (Ë (fun(Y:Int) Z=>ř a (Õ b) b Y (fun df=>Z df) (fun _=>ck (a+(1:Int)) fun dg=>d c e dg b) (fun _=>Ë (fun(s:f4) dh=>Ř a g (Õ g) h i j k l m n o p s.1 s.2 (fun di dj=>dh (di,dj)) (fun dk=>ck (a+(1:Int)) fun dl=>d c e dl dk) (fun dm=>ck (a+(1:Int)) fun dp=>d f a dp dm)) ((0:Int),b))) (0:Int)))) (u (e,b))
def Ae (a:a8) (b:an) (k:lA->BE ρ):BE ρ :=
  Æ (iM a) fun g=>ifb (ine g 0) (k ([],g)) (ifb (igt (Õ b) 8) (k ([],(2:Int))) (Ë (fun(h:Int) i=>iE b (Õ b) a.1.2.2.2.2.1 h (fun j=>i j) (fun l=>k ([],l)) (fun _=>Ë (fun(m:Int) n=>jL b m (fun o=>n o) (fun p=>k ([],p)) (fun _=>Æ (uw a) fun d=>à (ile 0 (Õ b)) (ck ((shlI .i64 (1:Int) (Õ b))-(1:Int)) fun c=>Ë (fun(q:Int) r=>jK d (Õ d) a.1.1.1 a.1.1.2 a.1.2.1 a.1.2.2.1 a.1.2.2.2.1 a.1.2.2.2.2.1 a.1.2.2.2.2.2 a.2 b c q (fun s=>r s) (fun t=>ifb t.2 (k ([],(5:Int))) (Ë (fun(e:(Val (.pair ab bg))) u=>Ŷ d c b a.1.1.1 a.1.1.2 a.1.2.1 a.1.2.2.1 a.1.2.2.2.1 a.1.2.2.2.2.1 a.1.2.2.2.2.2 a.2 e.1 e.2.1 e.2.2.1 e.2.2.2 (fun v w x y=>u (v,w,x,y)) (fun z=>Æ (jw b z.1) fun A=>k (A,(0:Int)))) (b,c,(0:Int),[]))) (fun _=>Ë (fun(f:(Val (.pair ab bg))) B=>Ŷ d c b a.1.1.1 a.1.1.2 a.1.2.1 a.1.2.2.1 a.1.2.2.2.1 a.1.2.2.2.2.1 a.1.2.2.2.2.2 a.2 f.1 f.2.1 f.2.2.1 f.2.2.2 (fun C D E F=>B (C,D,E,F)) (fun G=>Æ (jw b G.1) fun H=>k (H,(0:Int)))) (b,c,(0:Int),[]))) (0:Int)))) (1:Int))) (0:Int)))
def uz (a:a8) (b:an):BE (lA):=Ae a b some
def WT (a:a8) (k:px->BE ρ):BE ρ :=
  Æ (iM a) fun b=>ifb (ine b 0) (k ([],b)) (Æ (uw a) fun c=>k (c,(0:Int)))
def Nw (a:a8):BE (px):=WT a some
def QU (a:b6) (d:bl) (k:bl->BE ρ):BE ρ :=
  Æ (Ω a) fun b=>ifb (ine b 0) (k ((0:Int),b)) (Æ (sh a) fun e=>Æ (ù e d) fun c=>ifb (ilt c 0) (k ((0:Int),(5:Int))) (ck (c+(1:Int)) fun f=>k (f,(0:Int))))
def si (a:b6) (b:bl):BE bl:=QU a b some
def yb (f:Int) (a:Int) (c:c7) (g:Int->c7->BE ρ) (h:c7->BE ρ):BE ρ :=
  ifb (ilt a f) (à ((ile 0 a)&&(ilt a (í c))) (ī c (Int.toNat a) fun d=>à (ã (List.length d.2.2.1)) (à (ã (List.length d.2.2.2.1)) (à ((ile 0 a)&&(ilt a (í c))) (ī c (Int.toNat a) fun b=>à ((ile 0 a)&&(ilt a (í (List.set c (Int.toNat a) (b.1,b.2.1,d.2.2.1,b.2.2.2))))) (ī (List.set c (Int.toNat a) (b.1,b.2.1,d.2.2.1,b.2.2.2)) (Int.toNat a) fun e=>ck (a+(1:Int)) fun i=>g i (List.set (List.set c (Int.toNat a) (b.1,b.2.1,d.2.2.1,b.2.2.2)) (Int.toNat a) (e.1,e.2.1,e.2.2.1,d.2.2.2.1,e.2.2.2.2)))))))) (h c)
def Yd (a:b6) (b:bl) (k:Val bp->BE ρ):BE ρ :=
  Æ (Ω a) fun c=>ifb (ine c 0) (k ((((0:Int),(0:Int)),[],[],[],[],[]),c)) (à (ã (List.length a.2.1)) (à (ã (List.length a.2.2.1)) (à (ã (List.length a.2.2.2.1)) (à (ã (List.length a.2.2.2.2.2)) (à (ã (List.length a.2.2.2.2.1)) (Ë (fun(d:Val bc) g=>yb (Õ a.2.2.2.2.1) d.1 d.2 (fun h i=>g (h,i)) (fun e=>à (ã ((List.length a.2.2.2.2.2)+(List.length ([b])))) (Æ (Ω (a.1,a.2.1,a.2.2.1,a.2.2.2.1,e,(a.2.2.2.2.2++([b])))) fun f=>ifb (ine f 0) (k ((((0:Int),(0:Int)),[],[],[],[],[]),f)) (k ((a.1,a.2.1,a.2.2.1,a.2.2.2.1,e,(a.2.2.2.2.2++([b]))),(0:Int)))))) ((0:Int),a.2.2.2.2.1)))))))
def NE (a:b6) (b:bl):BE ((Val bp)):=Yd a b some
def tY (b:an) (c:Int) (d:Int) (e:im) (a:Int) (f:Int->BE ρ) (g:Int->BE ρ) (h:Unit->BE ρ):BE ρ :=
  ifb (ilt a c) (é b a fun i=>Æ (Cu (d,e) i) fun j=>ifb (!j) (g (1:Int)) (ck (a+(1:Int)) fun k=>f k)) (h ())
def Ql (a:ge) (b:an) (k:Int->BE ρ):BE ρ :=
  Æ (sf a) fun c=>ifb (ine c.1 0) (k c.1) (Ë (fun(d:Int) e=>tY b (Õ b) a.1 a.2 d (fun f=>e f) (fun g=>k g) (fun _=>Æ (mf a ([])) fun h=>ifb (!h.2) (k (9:Int)) (k (0:Int)))) (0:Int))
def IY (a:ge) (b:an):BE (Int):=Ql a b some
def qp (c:Int) (a:Int) (b:an) (d:Int->an->BE ρ) (e:an->BE ρ):BE ρ :=
  ifb (ilt a c) (à ((ile 0 a)&&(ilt a (í b))) (ī b (Int.toNat a) fun g=>ck (a+(1:Int)) fun f=>d f (List.set b (Int.toNat a) (1152921504606846976:Int)))) (e b)
def xJ (c:im) (d:Int) (b:Int) (a:Int) (e:Int->Int->BE ρ) (f:Int->BE ρ):BE ρ :=
  ifb (ilt a d) (é c a fun g=>ck (b+(adh g.2.2 (0:Int))) fun h=>ck (a+(1:Int)) fun i=>e h i) (f b)
def xI (f:Int) (d:an) (a:Int) (b:v8) (c:an) (e:Int->v8->an->BE ρ) (g:Val aV->BE ρ):BE ρ :=
  ifb (ilt a f) (à ((ile 0 a)&&(ilt a (í d))) (ī d (Int.toNat a) fun h=>ifb (ine h 1152921504606846976) (à (ã ((List.length c)+(List.length ([a])))) (à ((ile 0 a)&&(ilt a (í b))) (ī b (Int.toNat a) fun k=>ck (a+(1:Int)) fun i=>e i (List.set b (Int.toNat a) true) (c++([a]))))) (ck (a+(1:Int)) fun j=>e j b c))) (g (b,c))
def HJ (m:Val au) (j:Int) (d:Int) (n:im) (o:Int) (f:Int) (b:an) (c:v8) (e:an) (g:Int->an->v8->an->BE ρ) (l:(Val (.pair .bool (.pair ab aV)))->BE ρ) (p:(Val (.pair ab aV))->BE ρ):BE ρ :=
  ifb (ilt f o) (é n f fun a=>ifb (ine a.1 d) (ck (f+(1:Int)) fun q=>g q b c e) (Sk (k:=tI) (v:=.bool) f m (fun r=>ifb r (ck (f+(1:Int)) fun s=>g s b c e) (à ((ile 0 d)&&(ilt d (í b))) (ī b (Int.toNat d) fun t=>ck (t+a.2.2) fun u=>à ((ile 0 a.2.1)&&(ilt a.2.1 (í b))) (ī b (Int.toNat a.2.1) fun w=>ifb (ige u w) (ck (f+(1:Int)) fun x=>g x b c e) (à ((ile 0 d)&&(ilt d (í b))) (ī b (Int.toNat d) fun y=>ck (y+a.2.2) fun h=>à ((ile 0 a.2.1)&&(ilt a.2.1 (í b))) (ī b (Int.toNat a.2.1) fun M=>à ((ile 0 a.2.1)&&(ilt a.2.1 (í (List.set b (Int.toNat a.2.1) h)))) (ī (List.set b (Int.toNat a.2.1) h) (Int.toNat a.2.1) fun z=>ifb (ilt z j) (l (false,(List.set b (Int.toNat a.2.1) h),c,e)) (à ((ile 0 a.2.1)&&(ilt a.2.1 (í c))) (ī c (Int.toNat a.2.1) fun A=>ifb (!A) (à (ã ((List.length e)+(List.length ([a.2.1])))) (à ((ile 0 a.2.1)&&(ilt a.2.1 (í c))) (ī c (Int.toNat a.2.1) fun N=>ck (f+(1:Int)) fun B=>g B (List.set b (Int.toNat a.2.1) h) (List.set c (Int.toNat a.2.1) true) (e++([a.2.1]))))) (ck (f+(1:Int)) fun C=>g C (List.set b (Int.toNat a.2.1) h) c e))))))))))) (à ((ile 0 d)&&(ilt d (í b))) (ī b (Int.toNat d) fun D=>ck (D+a.2.2) fun E=>à ((ile 0 a.2.1)&&(ilt a.2.1 (í b))) (ī b (Int.toNat a.2.1) fun F=>ifb (ige E F) (ck (f+(1:Int)) fun G=>g G b c e) (à ((ile 0 d)&&(ilt d (í b))) (ī b (Int.toNat d) fun H=>ck (H+a.2.2) fun i=>à ((ile 0 a.2.1)&&(ilt a.2.1 (í b))) (ī b (Int.toNat a.2.1) fun O=>à ((ile 0 a.2.1)&&(ilt a.2.1 (í (List.set b (Int.toNat a.2.1) i)))) (ī (List.set b (Int.toNat a.2.1) i) (Int.toNat a.2.1) fun I=>ifb (ilt I j) (l (false,(List.set b (Int.toNat a.2.1) i),c,e)) (à ((ile 0 a.2.1)&&(ilt a.2.1 (í c))) (ī c (Int.toNat a.2.1) fun J=>ifb (!J) (à (ã ((List.length e)+(List.length ([a.2.1])))) (à ((ile 0 a.2.1)&&(ilt a.2.1 (í c))) (ī c (Int.toNat a.2.1) fun P=>ck (f+(1:Int)) fun K=>g K (List.set b (Int.toNat a.2.1) i) (List.set c (Int.toNat a.2.1) true) (e++([a.2.1]))))) (ck (f+(1:Int)) fun L=>g L (List.set b (Int.toNat a.2.1) i) c e)))))))))))) (p (b,c,e))
def xH (l:Val au) (m:Int) (n:Int) (k:im) (h:an) (d:v8) (b:an) (c:an) (o:an->v8->an->an->BE ρ) (i:(Val (.pair .bool bm))->BE ρ):BE ρ :=
  ifb (ieq (Õ c) 0) (i (true,h,d,b,c)) (à (ilt 0 (í c)) (ī c 0 fun a=>à (ile 1 (í c)) (à (decide (1+(List.length c-1)=List.length c)) (à ((ile 0 a)&&(ilt a (í d))) (ī d (Int.toNat a) fun x=>à ((ile 0 a)&&(ilt a (í b))) (ī b (Int.toNat a) fun p=>ck (p+(1:Int)) fun e=>à ((ile 0 a)&&(ilt a (í b))) (ī b (Int.toNat a) fun y=>à ((ile 0 a)&&(ilt a (í (List.set b (Int.toNat a) e)))) (ī (List.set b (Int.toNat a) e) (Int.toNat a) fun q=>ck (n+(1:Int)) fun r=>ifb (igt q r) (i (false,h,(List.set d (Int.toNat a) false),(List.set b (Int.toNat a) e),(List.drop 1 c))) (Ë (fun(f:ni) s=>HJ l m a k (Õ k) f.1 f.2.1 f.2.2.1 f.2.2.2 (fun t u v w=>s (t,u,v,w)) (fun g=>i (g.1,g.2.1,g.2.2.1,(List.set b (Int.toNat a) e),g.2.2.2)) (fun j=>o j.1 j.2.1 (List.set b (Int.toNat a) e) j.2.2)) ((0:Int),h,(List.set d (Int.toNat a) false),(List.drop 1 c)))))))))))
def Kq (a:ge) (i:Val au) (b:Int) (k:an->BE ρ):BE ρ :=
  à ((ile 0 a.1)&&(ã (Int.toNat a.1))) (Ë (fun(f:f4) j=>qp (Õ (List.replicate (Int.toNat a.1) (0:Int))) f.1 f.2 (fun l m=>j (l,m)) (fun c=>à ((ile 0 b)&&(ilt b (í c))) (ī c (Int.toNat b) fun B=>à ((ile 0 a.1)&&(ã (Int.toNat a.1))) (à ((ile 0 a.1)&&(ã (Int.toNat a.1))) (Ë (fun(g:bl) n=>xJ a.2 (Õ a.2) g.1 g.2 (fun o p=>n (o,p)) (fun q=>Ë (fun(e:y8) r=>xI a.1 (List.set c (Int.toNat b) (0:Int)) e.1 e.2.1 e.2.2 (fun s t u=>r (s,t,u)) (fun h=>Ë (fun(d:Val bm) v=>xH i q a.1 a.2 d.1 d.2.1 d.2.2.1 d.2.2.2 (fun w x y z=>v (w,x,y,z)) (fun A=>k A.2.1)) ((List.set c (Int.toNat b) (0:Int)),h.1,(List.replicate (Int.toNat a.1) (0:Int)),h.2))) ((0:Int),(List.replicate (Int.toNat a.1) false),[]))) ((0:Int),(0:Int))))))) ((0:Int),(List.replicate (Int.toNat a.1) (0:Int))))
def wD (a:ge) (b:Val au) (c:Int):BE (an):=Kq a b c some
def t7 (c:Int) (d:Int) (e:im) (a:Int) (b:an) (f:Int->an->BE ρ) (g:an->BE ρ):BE ρ :=
  ifb (ilt a c) (Æ (wD (d,e) ([]) a) fun h=>é h (0:Int) fun i=>à ((ile 0 a)&&(ilt a (í b))) (ī b (Int.toNat a) fun k=>ck (a+(1:Int)) fun j=>f j (List.set b (Int.toNat a) i))) (g b)
def tZ (f:an) (g:Int) (c:an) (a:Int) (b:bx) (h:Int->bx->BE ρ) (i:bx->BE ρ):BE ρ :=
  ifb (ilt a g) (à ((ile 0 a)&&(ilt a (í c))) (ī c (Int.toNat a) fun j=>ck (0-j) fun d=>é f a fun e=>à (ã ((List.length b)+(List.length ([(d,e)])))) (ck (a+(1:Int)) fun k=>h k (b++([(d,e)]))))) (i b)
def Qo (a:ge) (k:Val bq->BE ρ):BE ρ :=
  Æ (IY a ([])) fun b=>ifb (ine b 0) (k ([],b)) (Æ (wD a ([]) (0:Int)) fun c=>à ((ile 0 a.1)&&(ã (Int.toNat a.1))) (Ë (fun(d:f4) f=>t7 (Õ (List.replicate (Int.toNat a.1) (0:Int))) a.1 a.2 d.1 d.2 (fun g h=>f (g,h)) (fun i=>Ë (fun(e:nn) j=>tZ c (Õ c) i e.1 e.2 (fun l m=>j (l,m)) (fun n=>k (n,(0:Int)))) ((0:Int),[]))) ((0:Int),(List.replicate (Int.toNat a.1) (0:Int)))))
def wE (a:ge):BE ((Val bq)):=Qo a some
def JM (a:b6) (b:bl) (k:js->BE ρ):BE ρ :=
  Æ (si a b) fun f=>ifb (ine f.2 0) (Æ (NE a b) fun c=>ifb (ine c.2 0) (k (((0:Int),(0:Int)),c.2)) (Æ (si c.1 b) fun g=>Æ (jz c.1) fun h=>Æ (wE h.1) fun d=>ifb (ine d.2 0) (k (((0:Int),(0:Int)),d.2)) (é d.1 g.1 fun i=>k (i,(0:Int))))) (Æ (si a b) fun j=>Æ (jz a) fun l=>Æ (wE l.1) fun e=>ifb (ine e.2 0) (k (((0:Int),(0:Int)),e.2)) (é e.1 j.1 fun m=>k (m,(0:Int))))
def Ch (a:b6) (b:bl):BE js:=JM a b some
def p9 (r:Int) (e:Int) (s:a7) (t:Int) (f:Int) (g:Int) (h:fy) (i:bx) (j:fx) (l:c7) (m:bx) (n:c9) (c:Int) (a:Val ba) (o:Int->Val ba->BE ρ) (u:(Val (.pair tI ba))->BE ρ) (w:Val ba->BE ρ):BE ρ :=
  ifb (ilt c t) (é s c fun p=>Æ (uW (((f,g),h,i,j,l,m),n) p r e) fun d=>Æ (ji (((f,g),h,i,j,l,m),n) p) fun x=>Æ (Ch x (d,e)) fun b=>ifb (ine b.2 0) (u (b.2,a)) (Sk (k:=tI) (v:=Ã) d a (fun q=>ck (c+(1:Int)) fun y=>o y (UW (k:=tI) (v:=Ã) d ((adh b.1.1 q.1),(T7 b.1.2 q.2)) a)) (ck (c+(1:Int)) fun z=>o z (UW (k:=tI) (v:=Ã) d b.1 a)))) (w a)
def p8 (f:fy) (g:Int) (h:Val ba) (a:Int) (b:im) (d:Int->im->BE ρ) (i:im->BE ρ):BE ρ :=
  ifb (ilt a g) (é f a fun c=>Sk (k:=tI) (v:=Ã) c.1 h (fun e=>à (ã ((List.length b)+(List.length ([(c.1,e)])))) (ck (a+(1:Int)) fun j=>d j (b++([(c.1,e)])))) (ck (a+(1:Int)) fun l=>d l b)) (i b)
def JR (a:a8) (c:Int) (d:Int) (k:(Val (.pair am tI))->BE ρ):BE ρ :=
  Æ (iM a) fun e=>ifb (ine e 0) (k ([],e)) (Æ (wz a c d) fun f=>ifb (ine f 0) (k ([],f)) (Æ (II a) fun b=>ifb (ieq (Õ b) 0) (k ([],(5:Int))) (Ë (fun(g:(Val (.pair tI ba))) i=>p9 c d b (Õ b) a.1.1.1 a.1.1.2 a.1.2.1 a.1.2.2.1 a.1.2.2.2.1 a.1.2.2.2.2.1 a.1.2.2.2.2.2 a.2 g.1 g.2 (fun j l=>i (j,l)) (fun m=>k ([],m.1)) (fun n=>Ë (fun(h:ge) o=>p8 a.1.2.1 (Õ a.1.2.1) n h.1 h.2 (fun p q=>o (p,q)) (fun r=>k (r,(0:Int)))) ((0:Int),[]))) ((0:Int),[]))))
def Ci (a:a8) (b:Int) (c:Int):BE ((Val (.pair am tI))):=JR a b c some
def zW (a:an) (y:Int) (b:an->BE ρ):BE ρ :=
  à (ã ((List.length a)+(List.length ([y])))) (b (a++([y])))
def tj (h:b5) (i:Int) (j:c9) (c:Int) (k:Int->BE ρ) (d:Bool->BE ρ) (l:Unit->BE ρ):BE ρ :=
  ifb (ilt c i) (é h c fun e=>é j c fun f=>ifb (ine (Õ e) (Õ f.2)) (d false) (Æ (B9 e) fun m=>Bm (fun(n:an) (o:Int) p=>zW n o (fun q=>p q)) m ([]) (fun g=>à (ã (List.length g)) (Æ (IF (zn g)) fun a=>Æ (IF f.2) fun b=>ifb (!((oy a.1 b.1)&&((oy a.2.1 b.2.1)&&((oy a.2.2.1 b.2.2.1)&&((oy a.2.2.2.1 b.2.2.2.1)&&((oy a.2.2.2.2 b.2.2.2.2)&&true)))))) (d false) (ck (c+(1:Int)) fun r=>k r))))) (l ())
def O0 (b:a8) (a:b5) (k:Bool->BE ρ):BE ρ :=
  ifb (ine (Õ a) (Õ b.2)) (k false) (Ë (fun(c:Int) d=>tj a (Õ a) b.2 c (fun e=>d e) (fun f=>k f) (fun _=>k true)) (0:Int))
def IG (a:a8) (b:b5):BE (Bool):=O0 a b some
def Pc (a:a8) (c:b5) (k:Int->BE ρ):BE ρ :=
  Æ (iM a) fun b=>ifb (ine b 0) (k b) (Æ (IG a c) fun d=>ifb (!d) (k (1:Int)) (k (0:Int)))
def Bn (a:a8) (b:b5):BE (Int):=Pc a b some
def acQ (a:a8) (b:b5) (c:Int) (d:Int) (k:bl->BE ρ):BE ρ :=
  Æ (Bn a b) fun e=>ifb (ine e 0) (k ((0:Int),e)) (Æ (wz a c d) fun f=>ifb (ine f 0) (k ((0:Int),f)) (Æ (uW a b c d) fun g=>k (g,(0:Int))))
def YB (a:a8) (b:b5) (c:Int) (d:Int):BE bl:=acQ a b c d some
def BZ (c:Int) (a:Int) (b:an) (d:Int->an->BE ρ) (e:an->BE ρ):BE ρ :=
  ifb (ilt a c) (à ((ile 0 a)&&(ilt a (í b))) (ī b (Int.toNat a) fun g=>ck (a+(1:Int)) fun f=>d f (List.set b (Int.toNat a) (1152921504606846976:Int)))) (e b)
def XK (c:Int) (a:Int) (b:an) (d:Int->an->BE ρ) (e:an->BE ρ):BE ρ :=
  ifb (ilt a c) (à ((ile 0 a)&&(ilt a (í b))) (ī b (Int.toNat a) fun g=>ck (a+(1:Int)) fun f=>d f (List.set b (Int.toNat a) (1152921504606846976:Int)))) (e b)
def HI (d:an) (f:im) (g:Int) (c:Int) (b:an) (e:Int->an->BE ρ) (h:an->BE ρ):BE ρ :=
  ifb (ilt c g) (é f c fun a=>é d a.2.1 fun i=>ifb (ine i 1152921504606846976) (à ((ile 0 a.1)&&(ilt a.1 (í b))) (ī b (Int.toNat a.1) fun j=>é d a.2.1 fun k=>ck (a.2.2+k) fun l=>à ((ile 0 a.1)&&(ilt a.1 (í b))) (ī b (Int.toNat a.1) fun o=>ck (c+(1:Int)) fun m=>e m (List.set b (Int.toNat a.1) (adh j l))))) (ck (c+(1:Int)) fun n=>e n b)) (h b)
def Nl (i:Int) (b:Int) (d:im) (e:Int) (a:b5) (j:Int->b5->BE ρ) (k:b5->BE ρ):BE ρ :=
  ifb (ilt e i) (ck ((Õ a)-(1:Int)) fun c=>à ((ile 0 c)&&(ilt c (í a))) (ī a (Int.toNat c) fun l=>à ((ile 0 b)&&(ã (Int.toNat b))) (Ë (fun(f:f4) m=>XK (Õ (List.replicate (Int.toNat b) (0:Int))) f.1 f.2 (fun n o=>m (n,o)) (fun p=>Ë (fun(g:f4) q=>HI l d (Õ d) g.1 g.2 (fun r s=>q (r,s)) (fun h=>à (ã ((List.length a)+(List.length ([h])))) (ck (e+(1:Int)) fun t=>j t (a++([h]))))) ((0:Int),p))) ((0:Int),(List.replicate (Int.toNat b) (0:Int)))))) (k a)
def Qi (a:ge) (b:Int) (f:Int) (k:b5->BE ρ):BE ρ :=
  à ((ile 0 a.1)&&(ã (Int.toNat a.1))) (Ë (fun(d:f4) g=>BZ (Õ (List.replicate (Int.toNat a.1) (0:Int))) d.1 d.2 (fun h i=>g (h,i)) (fun c=>à ((ile 0 b)&&(ilt b (í c))) (ī c (Int.toNat b) fun o=>Ë (fun(e:pi) j=>Nl f a.1 a.2 e.1 e.2 (fun l m=>j (l,m)) (fun n=>k n)) ((0:Int),[(List.set c (Int.toNat b) (0:Int))])))) ((0:Int),(List.replicate (Int.toNat a.1) (0:Int))))
def IX (a:ge) (b:Int) (c:Int):BE (b5):=Qi a b c some
def pb (d:Int) (c:Int) (e:im) (a:Int) (b:a7) (f:Int->a7->BE ρ) (g:a7->BE ρ):BE ρ :=
  ifb (ilt a d) (Æ (IX (c,e) a c) fun h=>à ((ile 0 a)&&(ilt a (í b))) (ī b (Int.toNat a) fun j=>ck (a+(1:Int)) fun i=>f i (List.set b (Int.toNat a) h))) (g b)
def LJ (g:Int) (h:b5) (j:im) (k:Int) (e:Int) (b:Int) (a:Int) (c:an) (f:Int->Int->Int->an->BE ρ) (i:Val bg->BE ρ):BE ρ :=
  ifb (ilt a k) (é j a fun d=>ifb (ieq d.1 e) (ck (g-(1:Int)) fun l=>é h l fun m=>é m d.2.1 fun n=>ifb (ine n 1152921504606846976) (ck (b+d.2.2) fun o=>ck (g-(1:Int)) fun p=>é h p fun q=>é q d.2.1 fun r=>ck (o+r) fun s=>ifb (ilt s 0) (à (ã ((List.length c)+(List.length ([a])))) (ck (b+d.2.2) fun t=>i (d.2.1,t,(c++([a]))))) (ck (a+(1:Int)) fun u=>f e b u c)) (ck (a+(1:Int)) fun v=>f e b v c)) (ck (a+(1:Int)) fun w=>f e b w c)) (i (e,b,c))
def A6 (f:b5) (d:im) (g:Int) (b:Int) (h:Int) (e:an) (i:Int->Int->Int->an->BE ρ) (j:an->BE ρ):BE ρ :=
  ifb (igt b 0) (Ë (fun(a:AN) k=>LJ b f d (Õ d) a.1 a.2.1 a.2.2.1 a.2.2.2 (fun l m n o=>k (l,m,n,o)) (fun c=>ck (b-(1:Int)) fun p=>i c.1 p c.2.1 c.2.2)) (g,h,(0:Int),e)) (j e)
def o9 (e:Int) (h:im) (i:Int) (j:Int) (k:im) (b:a7) (c:Int) (f:Int->BE ρ) (l:Unit->BE ρ) (m:f4->BE ρ) (n:Unit->BE ρ):BE ρ :=
  ifb (ilt c i) (é h c fun a=>à ((ile 0 a.1)&&(ilt a.1 (í b))) (ī b (Int.toNat a.1) fun o=>ck (e-(1:Int)) fun p=>é o p fun q=>é q a.2.1 fun g=>ifb (ieq g 1152921504606846976) (ck (c+(1:Int)) fun r=>f r) (ck (a.2.2+g) fun s=>ifb (ige s 0) (ck (c+(1:Int)) fun t=>f t) (ifb (igt e j) (l ()) (à ((ile 0 a.1)&&(ilt a.1 (í b))) (ī b (Int.toNat a.1) fun u=>Ë (fun(d:AN) v=>A6 u k d.1 d.2.1 d.2.2.1 d.2.2.2 (fun w x y z=>v (w,x,y,z)) (fun A=>m ((0:Int),A))) (a.1,e,(0:Int),[]))))))) (n ())
def t8 (d:Int) (a:im) (e:a7) (b:Int) (f:Int->BE ρ) (g:Unit->BE ρ) (h:f4->BE ρ):BE ρ :=
  Ë (fun(i:Int) j=>o9 b a (Õ a) d a e i (fun k=>j k) (fun _=>g ()) (fun c=>h (c.1,c.2)) (fun _=>ck (b+(1:Int)) fun l=>f l)) (0:Int)
def HL (a:ge) (k:lA->BE ρ):BE ρ :=
  Æ (sf a) fun b=>ifb (ine b.1 0) (k ([],b.1)) (Æ (mf a ([])) fun e=>ifb e.2 (k ([],(5:Int))) (à ((ile 0 a.1)&&(ã (Int.toNat a.1))) (Ë (fun(c:io) f=>pb (Õ (List.replicate (Int.toNat a.1) ([]:b5))) a.1 a.2 c.1 c.2 (fun g h=>f (g,h)) (fun i=>Ë (fun(j:Int) l=>t8 a.1 a.2 i j (fun m=>l m) (fun _=>k ([],(5:Int))) (fun d=>k (d.2,d.1))) (1:Int))) ((0:Int),(List.replicate (Int.toNat a.1) ([]:b5))))))
def pq (a:ge):BE (lA):=HL a some
def tz (d:a7) (e:Int) (f:Int) (g:Int) (h:fy) (i:bx) (j:fx) (k:c7) (l:bx) (m:c9) (b:Int) (a:b5) (n:Int->b5->BE ρ) (o:pi->BE ρ) (p:b5->BE ρ):BE ρ :=
  ifb (ilt b e) (é d b fun q=>Æ (ji (((f,g),h,i,j,k,l),m) q) fun r=>Æ (jz r) fun s=>Æ (pq s.1) fun c=>ifb (ine c.2 0) (o ((5:Int),a)) (à (ã ((List.length a)+(List.length ([c.1])))) (ck (b+(1:Int)) fun t=>n t (a++([c.1]))))) (p a)
def Pe (a:a8) (k:Val bn->BE ρ):BE ρ :=
  Æ (iM a) fun b=>ifb (ine b 0) (k ([],b)) (Æ (uw a) fun c=>Ë (fun(d:pi) e=>tz c (Õ c) a.1.1.1 a.1.1.2 a.1.2.1 a.1.2.2.1 a.1.2.2.2.1 a.1.2.2.2.2.1 a.1.2.2.2.2.2 a.2 d.1 d.2 (fun f g=>e (f,g)) (fun h=>k ([],h.1)) (fun i=>k (i,(0:Int)))) ((0:Int),[]))
def IJ (a:a8):BE ((Val bn)):=Pe a some
def oq (d:an) (e:Int) (f:im) (a:Int) (g:Int->BE ρ) (b:Int->BE ρ) (h:Unit->BE ρ):BE ρ :=
  ifb (ilt a e) (é d a fun c=>ifb (ilt c 0) (b a) (ifb (ige c (Õ f)) (b a) (ck (a+(1:Int)) fun i=>g i))) (h ())
def Fy (b:ge) (a:an) (k:Int->BE ρ):BE ρ :=
  ifb (igt (Õ a) 80) (k (2:Int)) (Ë (fun(c:Int) d=>oq a (Õ a) b.2 c (fun e=>d e) (fun f=>ifb (ige f 0) (k (1:Int)) (k (0:Int))) (fun _=>k (0:Int))) (0:Int))
def yw (a:ge) (b:an):BE (Int):=Fy a b some
def xF (e:an) (f:Int) (g:im) (c:Int) (d:Int) (a:Int) (h:Int->Int->Int->BE ρ) (i:l7->BE ρ) (j:bl->BE ρ):BE ρ :=
  ifb (ilt a f) (é e a fun k=>é g k fun b=>ifb (ine b.1 c) (i ((0:Int),(0:Int),false)) (ck (d+b.2.2) fun l=>ck (a+(1:Int)) fun m=>h b.2.1 l m)) (j (c,d))
def XI (e:ge) (f:Int) (c:an) (k:l7->BE ρ):BE ρ :=
  Ë (fun(a:rm) g=>xF c (Õ c) e.2 a.1 a.2.1 a.2.2 (fun h i j=>g (h,i,j)) (fun b=>k (b.1,b.2.1,b.2.2)) (fun d=>k (d.1,d.2,true))) (f,(0:Int),(0:Int))
def NB (a:ge) (b:Int) (c:an):BE (l7):=XI a b c some
def uQ (a:ge) (b:an) (k:Int->BE ρ):BE ρ :=
  Æ (sf a) fun d=>ifb (ine d.1 0) (k d.1) (Æ (yw a b) fun e=>ifb (ine e 0) (k e) (ifb (ieq (Õ b) 0) (k (8:Int)) (é b (0:Int) fun g=>é a.2 g fun f=>Æ (NB a f.1 b) fun c=>ifb (!c.2.2) (k (8:Int)) (ifb (ine c.1 f.1) (k (8:Int)) (ifb (ige c.2.1 0) (k (8:Int)) (k (0:Int)))))))
def ox (a:ge) (b:an):BE (Int):=uQ a b some
def ke (b:b5) (c:a7) (d:Int) (e:Int) (f:Int) (g:fy) (h:bx) (i:fx) (j:c7) (k:bx) (l:c9) (a:Int) (m:Int->BE ρ) (n:Int->BE ρ) (o:Unit->BE ρ):BE ρ :=
  ifb (ilt a d) (é c a fun p=>Æ (ji (((e,f),g,h,i,j,k),l) p) fun q=>Æ (jz q) fun r=>é b a fun s=>Æ (ox r.1 s) fun t=>ifb (ine t 0) (n (8:Int)) (ck (a+(1:Int)) fun u=>m u)) (o ())
def uK (a:a8) (c:b5) (k:Int->BE ρ):BE ρ :=
  Æ (iM a) fun d=>ifb (ine d 0) (k d) (Æ (uw a) fun b=>ifb (ine (Õ c) (Õ b)) (k (8:Int)) (Ë (fun(e:Int) f=>ke c b (Õ b) a.1.1.1 a.1.1.2 a.1.2.1 a.1.2.2.1 a.1.2.2.2.1 a.1.2.2.2.2.1 a.1.2.2.2.2.2 a.2 e (fun g=>f g) (fun h=>k h) (fun _=>k (0:Int))) (0:Int)))
def lh (a:a8) (b:b5):BE (Int):=uK a b some
def Lt (a:c7) (k:a8->BE ρ):BE ρ :=
  à (ã ((List.length ([((7:Int),(10:Int),[(1:Int)],[(2:Int)],(-20:Int),(1:Int),(100:Int),(200:Int))]))+(List.length a))) (k ((((0:Int),(2:Int)),[((1:Int),(0:Int),(1000:Int),((-5:Int),(5:Int)),((1:Int),(10:Int)),(1:Int)),((2:Int),(0:Int),(1000:Int),((-50:Int),(50:Int)),((1:Int),(4:Int)),(0:Int)),((3:Int),(0:Int),(1100:Int),((-1:Int),(1:Int)),((0:Int),(1:Int)),(0:Int))],[((1:Int),(10:Int))],[((1:Int),((20:Int),(29:Int)),(3:Int))],(([((7:Int),(10:Int),[(1:Int)],[(2:Int)],(-20:Int),(1:Int),(100:Int),(200:Int))])++a),[]),[((12:Int),[(2:Int),(3:Int)])]))
def Ŭ (a:c7):BE a8:=Lt a some
def EO (k:Bool->BE ρ):BE ρ :=
  Æ (Ŭ ([])) fun m=>Æ (Nw m) fun b=>Æ (Ŭ ([])) fun n=>Æ (Rt n) fun f=>Æ (Ŭ ([((8:Int),(15:Int),[(2:Int)],[(1:Int)],(100:Int),(1:Int),(0:Int),(0:Int))])) fun o=>Æ (Bo o) fun g=>Æ (Ŭ ([((8:Int),(15:Int),[(2:Int)],[(1:Int)],(100:Int),(1:Int),(0:Int),(0:Int))])) fun p=>Æ (Ci p (2:Int) (15:Int)) fun c=>Æ (Ŭ ([((8:Int),(15:Int),[(2:Int)],[(1:Int)],(100:Int),(1:Int),(0:Int),(0:Int)),((9:Int),(15:Int),[(3:Int)],[],(1100:Int),(0:Int),(0:Int),(0:Int))])) fun a=>Æ (Nx a) fun h=>Æ (uz a ([(7:Int),(8:Int),(9:Int)])) fun i=>Æ (qu a (2:Int)) fun j=>ifb (ine b.2 0) (k false) (ifb (ine f.2 0) (k false) (ifb (ine g.2 0) (k false) (ifb (ine c.2 0) (k false) (ifb (ine h.2 0) (k false) (ifb (ine i.2 0) (k false) (ifb (ine j.2 0) (k false) (ifb (ine (Õ b.1) 2) (k false) (ifb (ine (Õ f.1) 2) (k false) (ifb j.1 (k false) (Æ (IJ a) fun d=>é b.1 (1:Int) fun q=>Æ (YB a q (2:Int) (13:Int)) fun l=>ifb (ine d.2 0) (k false) (ifb (ine l.2 0) (k false) (ifb (ine l.1 3) (k false) (Æ (lh a d.1) fun r=>ifb (ine r 0) (k false) (Æ (Ŭ ([])) fun s=>Æ (lh s d.1) fun t=>ifb (ine t 8) (k false) (Æ (iY g.1 ([[(3:Int),(2:Int)]])) fun u=>ifb u (ifb (ieq (Õ c.1) 1) (é c.1 (0:Int) fun e=>ifb ((oy e.1 (3:Int))&&((oy e.2.1 (1099:Int))&&((oy e.2.2 (1101:Int))&&true))) (Æ (kD h.1 ([(8:Int),(9:Int)])) fun v=>ifb v (Æ (kD i.1 ([(8:Int),(9:Int)])) fun w=>k w) (k false)) (k false)) (k false)) (k false))))))))))))))))
def ι:BE (Bool):=EO some
def Af (a:a8) (b:b5) (k:u5->BE ρ):BE ρ :=
  Æ (Bn a b) fun c=>ifb (ine c 0) (k (false,c)) (Æ (ŭ a b) fun d=>k (d,(0:Int)))
def uA (a:a8) (b:b5):BE (u5):=Af a b some
def acW (a:Int) (b:Int) (c:Int) (k:Bool->BE ρ):BE ρ :=
  ifb (ige a b) (k (ile a c)) (k false)
def kX (a:Int) (b:Int) (c:Int):BE (Bool):=acW a b c some
def Xw (a:Int) (k:Bool->BE ρ):BE ρ :=
  Æ (kX a (0:Int) (20000:Int)) fun b=>k b
def yu (a:Int):BE (Bool):=Xw a some
def xD (b:an) (c:Int) (a:Int) (d:Int->BE ρ) (e:Bool->BE ρ) (f:Unit->BE ρ):BE ρ :=
  ifb (ilt a (Õ b)) (é b a fun g=>ifb (ieq g c) (e true) (ck (a+(1:Int)) fun h=>d h)) (f ())
def Xu (a:an) (b:Int) (k:Bool->BE ρ):BE ρ :=
  Ë (fun(c:Int) d=>xD a b c (fun e=>d e) (fun f=>k f) (fun _=>k false)) (0:Int)
def Nz (a:an) (b:Int):BE (Bool):=Xu a b some
def tW (c:an) (f:an) (a:Int) (b:an) (d:Int->an->BE ρ) (g:an->BE ρ):BE ρ :=
  ifb (ilt a (Õ c)) (é c a fun h=>Æ (Nz f h) fun i=>ifb (!i) (é c a fun e=>à (ã ((List.length b)+(List.length ([e])))) (ck (a+(1:Int)) fun j=>d j (b++([e])))) (ck (a+(1:Int)) fun k=>d k b)) (g b)
def P1 (b:an) (c:an) (k:an->BE ρ):BE ρ :=
  Ë (fun(a:f4) d=>tW b c a.1 a.2 (fun e f=>d (e,f)) (fun g=>k g)) ((0:Int),[])
def lm (a:an) (b:an):BE (an):=P1 a b some
def Xg (b:an) (c:an) (k:Int->BE ρ):BE ρ :=
  Æ (lm b c) fun a=>ifb (ieq (Õ a) 0) (k (0:Int)) (é a (0:Int) fun d=>k d)
def qv (a:an) (b:an):BE (Int):=Xg a b some
def tQ (g:Int) (c:c7) (d:Int) (b:Int) (e:Int->BE ρ) (f:Bool->BE ρ) (h:Unit->BE ρ):BE ρ :=
  ifb (ilt b (Õ c)) (é c b fun a=>ifb (ieq a.2.1 g) (Æ (qv a.2.2.1 a.2.2.2.1) fun i=>ifb (ieq i d) (f true) (Æ (qv a.2.2.2.1 a.2.2.1) fun j=>ifb (ieq j d) (f true) (ck (b+(1:Int)) fun k=>e k))) (ck (b+(1:Int)) fun l=>e l)) (h ())
def oY (d:Int) (b:bx) (e:Int) (a:Int) (c:Int->BE ρ) (f:Bool->BE ρ) (g:Unit->BE ρ):BE ρ :=
  ifb (ilt a (Õ b)) (é b a fun h=>ifb (ieq h.1 e) (é b a fun i=>ifb (ieq i.2 d) (f true) (ck (a+(1:Int)) fun j=>c j)) (ck (a+(1:Int)) fun k=>c k)) (g ())
def PI (c:b6) (a:nj) (b:Int) (k:Bool->BE ρ):BE ρ :=
  ifb (ieq a.2.1 b) (k true) (Ë (fun(d:Int) e=>tQ b c.2.2.2.2.1 a.1 d (fun f=>e f) (fun g=>k g) (fun _=>Ë (fun(h:Int) i=>oY b c.2.2.2.2.2 a.1 h (fun j=>i j) (fun l=>k l) (fun _=>k false)) (0:Int))) (0:Int))
def IP (a:b6) (b:nj) (c:Int):BE (Bool):=PI a b c some
def ql (c:fy) (a:Int) (b:an) (e:Int->an->BE ρ) (f:an->BE ρ):BE ρ :=
  ifb (ilt a (Õ c)) (é c a fun d=>à (ã ((List.length b)+(List.length ([d.2.1])))) (ck (a+(1:Int)) fun g=>e g (b++([d.2.1])))) (f b)
def qk (c:c7) (a:Int) (b:an) (e:Int->an->BE ρ) (f:an->BE ρ):BE ρ :=
  ifb (ilt a (Õ c)) (é c a fun d=>à (ã ((List.length b)+(List.length ([d.2.1])))) (ck (a+(1:Int)) fun g=>e g (b++([d.2.1])))) (f b)
def qj (c:bx) (a:Int) (b:an) (e:Int->an->BE ρ) (f:an->BE ρ):BE ρ :=
  ifb (ilt a (Õ c)) (é c a fun d=>à (ã ((List.length b)+(List.length ([d.2])))) (ck (a+(1:Int)) fun g=>e g (b++([d.2])))) (f b)
def mN (e:Int) (b:an) (c:Int) (a:Int) (d:Int->Int->BE ρ) (f:Int->BE ρ):BE ρ :=
  ifb (ilt a (Õ b)) (à ((ile 0 a)&&(ilt a (í b))) (ī b (Int.toNat a) fun g=>ifb (igt g e) (à ((ile 0 a)&&(ilt a (í b))) (ī b (Int.toNat a) fun h=>ck (a+(1:Int)) fun i=>d (adh c h) i)) (ck (a+(1:Int)) fun j=>d c j))) (f c)
def mO (e:Int) (i:Int) (j:Int) (c:fy) (k:bx) (l:fx) (m:c7) (n:bx) (o:an) (f:Int) (b:bx) (d:Int->bx->BE ρ) (p:bx->BE ρ):BE ρ :=
  ifb (ilt f 20001) (Ë (fun(g:bl) q=>mN f o g.1 g.2 (fun r s=>q (r,s)) (fun a=>ifb (ilt a 20001) (é c e fun t=>Æ (IP ((i,j),c,k,l,m,n) t a) fun u=>ifb u (é c e fun h=>à (ã ((List.length b)+(List.length ([(h.1,a)])))) (d a (b++([(h.1,a)])))) (d a b)) (d a b))) ((20001:Int),(0:Int))) (p b)
def qi (e:Int) (f:Int) (b:fy) (g:bx) (h:fx) (i:c7) (j:bx) (k:an) (a:Int) (c:bx) (l:Int->bx->BE ρ) (m:bx->BE ρ):BE ρ :=
  ifb (ilt a (Õ b)) (Ë (fun(d:nn) n=>mO a e f b g h i j k d.1 d.2 (fun o p=>n (o,p)) (fun q=>ck (a+(1:Int)) fun r=>l r q)) ((-1:Int),c)) (m c)
def Ka (a:b6) (k:bx->BE ρ):BE ρ :=
  Ë (fun(b:f4) f=>ql a.2.1 b.1 b.2 (fun g h=>f (g,h)) (fun i=>Ë (fun(c:f4) j=>qk a.2.2.2.2.1 c.1 c.2 (fun l m=>j (l,m)) (fun n=>Ë (fun(d:f4) o=>qj a.2.2.2.2.2 d.1 d.2 (fun p q=>o (p,q)) (fun r=>Ë (fun(e:nn) s=>qi a.1.1 a.1.2 a.2.1 a.2.2.1 a.2.2.2.1 a.2.2.2.2.1 a.2.2.2.2.2 r e.1 e.2 (fun t u=>s (t,u)) (fun v=>k v)) ((0:Int),[]))) ((0:Int),n))) ((0:Int),i))) ((0:Int),[])
def kE (a:b6):BE (bx):=Ka a some
def qm (b:bx) (d:Int) (e:Int) (a:Int) (f:Int->BE ρ) (g:Int->BE ρ) (h:Unit->BE ρ):BE ρ :=
  ifb (ilt a (Õ b)) (é b a fun c=>ifb ((oy c.1 d)&&((oy c.2 e)&&true)) (ck (a+(1:Int)) fun i=>g i) (ck (a+(1:Int)) fun j=>f j)) (h ())
def Kb (b:b6) (a:bl) (k:Int->BE ρ):BE ρ :=
  Æ (kE b) fun c=>Ë (fun(d:Int) e=>qm c a.1 a.2 d (fun f=>e f) (fun g=>k g) (fun _=>k (0:Int))) (0:Int)
def kF (a:b6) (b:bl):BE (Int):=Kb a b some
def tX (c:Int) (b:fy) (a:Int) (d:Int->BE ρ) (e:Int->BE ρ) (f:Unit->BE ρ):BE ρ :=
  ifb (ilt a (Õ b)) (é b a fun g=>ifb (ieq g.1 c) (e a) (ck (a+(1:Int)) fun h=>d h)) (f ())
def P5 (a:b6) (b:Int) (k:Int->BE ρ):BE ρ :=
  Ë (fun(c:Int) d=>tX b a.2.1 c (fun e=>d e) (fun f=>k f) (fun _=>k (-1:Int))) (0:Int)
def ln (a:b6) (b:Int):BE (Int):=P5 a b some
def tV (j:Int) (h:Int) (i:fx) (b:Int) (c:Int) (d:Int) (e:Int) (f:Int) (g:Int->Int->Int->Int->Int->BE ρ) (k:(Val (.pair .bool (.pair tI ĝ)))->BE ρ) (l:(Val (.pair tI ĝ))->BE ρ):BE ρ :=
  ifb (ilt b (Õ i)) (é i b fun a=>ifb (ieq a.1 j) (ifb (ile a.2.1.1 h) (ifb (ile h a.2.1.2) (k (true,a.1,a.2.1.1,a.2.1.2,a.2.2)) (ck (b+(1:Int)) fun m=>g m c d e f)) (ck (b+(1:Int)) fun n=>g n c d e f)) (ck (b+(1:Int)) fun o=>g o c d e f)) (l (c,d,e,f))
def PZ (c:b6) (d:Int) (e:Int) (k:Val bo->BE ρ):BE ρ :=
  Ë (fun(a:Val bw) f=>tV d e c.2.2.2.1 a.1 a.2.1 a.2.2.1 a.2.2.2.1 a.2.2.2.2 (fun g h i j l=>f (g,h,i,j,l)) (fun b=>k ((b.2.1,(b.2.2.1,b.2.2.2.1),b.2.2.2.2),b.1)) (fun m=>k (((0:Int),((0:Int),(0:Int)),(0:Int)),false))) ((0:Int),(0:Int),(0:Int),(0:Int),(0:Int))
def jX (a:b6) (b:Int) (c:Int):BE ((Val bo)):=PZ a b c some
def tR (d:Int) (e:Int) (b:bx) (a:Int) (c:Int->BE ρ) (f:Bool->BE ρ) (g:Unit->BE ρ):BE ρ :=
  ifb (ilt a (Õ b)) (é b a fun h=>ifb (ieq h.1 d) (é b a fun i=>ifb (ieq i.2 e) (f true) (ck (a+(1:Int)) fun j=>c j)) (ck (a+(1:Int)) fun k=>c k)) (g ())
def PK (a:b6) (b:Int) (c:Int) (k:Bool->BE ρ):BE ρ :=
  Ë (fun(d:Int) e=>tR b c a.2.2.1 d (fun f=>e f) (fun g=>k g) (fun _=>k false)) (0:Int)
def IQ (a:b6) (b:Int) (c:Int):BE (Bool):=PK a b c some
def tU (d:Int) (m:Int) (n:Int) (e:Int) (f:Int) (g:fy) (h:bx) (i:fx) (j:c7) (k:bx) (b:Int) (a:Int) (c:Int->Int->BE ρ) (o:Int->BE ρ):BE ρ :=
  ifb (ilt a m) (Æ (jX ((e,f),g,h,i,j,k) d a) fun l=>ifb l.2 (ck (b+l.1.2.2) fun p=>ck (a+(1:Int)) fun q=>c p q) (Æ (IQ ((e,f),g,h,i,j,k) d a) fun r=>ifb r (ck (b+n) fun s=>ck (a+(1:Int)) fun t=>c s t) (ck (a+(1:Int)) fun u=>c b u))) (o b)
def PX (a:b6) (b:Int) (d:Int) (e:Int) (k:Int->BE ρ):BE ρ :=
  Æ (ln a b) fun f=>é a.2.1 f fun g=>Ë (fun(c:bl) h=>tU b e g.2.2.2.2.2 a.1.1 a.1.2 a.2.1 a.2.2.1 a.2.2.2.1 a.2.2.2.2.1 a.2.2.2.2.2 c.1 c.2 (fun i j=>h (i,j)) (fun l=>k l)) ((0:Int),d)
def wC (a:b6) (b:Int) (c:Int) (d:Int):BE (Int):=PX a b c d some
def xE (b:Int) (a:Int) (c:Int->Int->BE ρ) (d:Int->BE ρ):BE ρ :=
  ifb (ine a 0) (ifb (oy a 0) (none) (c a (Int.tmod b a))) (d b)
def XD (b:Int) (c:Int) (k:Int->BE ρ):BE ρ :=
  Ë (fun(a:bl) d=>xE a.1 a.2 (fun e f=>d (e,f)) (fun g=>k g)) (b,c)
def Cs (a:Int) (b:Int):BE (Int):=XD a b some
def XG (a:Int) (k:Int->BE ρ):BE ρ :=
  ifb (ilt a 0) (ck ((0:Int)-a) fun b=>k b) (k a)
def IW (a:Int):BE (Int):=XG a some
def Fx (b:Int) (a:Int) (k:js->BE ρ):BE ρ :=
  ifb (ine b 0) (ifb (oy a 0) (none) (Æ (IW (Int.tmod b a)) fun h=>Æ (Cs h a) fun c=>ifb (oy c 0) (none) (ck (Int.tdiv b c) fun d=>ifb (oy c 0) (none) (ck (Int.tdiv a c) fun f=>ifb (igt f 2147483647) (k (((0:Int),(0:Int)),(3:Int))) (ifb (ilt d (-2147483647:Int)) (k (((0:Int),(0:Int)),(3:Int))) (ifb (igt d 2147483647) (k (((0:Int),(0:Int)),(3:Int))) (k ((d,f),(0:Int))))))))) (ifb (oy a 0) (none) (ck (Int.tdiv b a) fun e=>ifb (oy a 0) (none) (ck (Int.tdiv a a) fun g=>ifb (igt g 2147483647) (k (((0:Int),(0:Int)),(3:Int))) (ifb (ilt e (-2147483647:Int)) (k (((0:Int),(0:Int)),(3:Int))) (ifb (igt e 2147483647) (k (((0:Int),(0:Int)),(3:Int))) (k ((e,g),(0:Int))))))))
def se (a:Int) (b:Int):BE js:=Fx a b some
def XF (a:bl) (b:bl) (k:js->BE ρ):BE ρ :=
  ck (a.1*b.2) fun c=>ck (b.1*a.2) fun d=>ck (c+d) fun e=>ck (a.2*b.2) fun f=>Æ (se e f) fun g=>k g
def YD (a:bl) (b:bl):BE js:=XF a b some
def XA (a:bl) (k:bl->BE ρ):BE ρ :=
  ck ((0:Int)-a.1) fun b=>k (b,a.2)
def YC (a:bl):BE bl:=XA a some
def Xz (a:bl) (b:bl) (k:js->BE ρ):BE ρ :=
  Æ (YC b) fun c=>Æ (YD a c) fun d=>k d
def NA (a:bl) (b:bl):BE js:=Xz a b some
def J5 (a:b6) (b:Int) (k:bl->BE ρ):BE ρ :=
  ifb (ieq b 0) (k ((0:Int),(1:Int))) (Æ (ln a b) fun c=>é a.2.1 c fun d=>k d.2.2.2.2.1)
def wA (a:b6) (b:Int):BE bl:=J5 a b some
def Qe (a:js) (b:js) (k:Val vc->BE ρ):BE ρ :=
  ifb (ine a.2 0) (k ((((0:Int),(0:Int)),(0:Int),(0:Int)),a.2)) (ifb (ine b.2 0) (k ((((0:Int),(0:Int)),(0:Int),(0:Int)),b.2)) (k ((a.1,b.1),(0:Int))))
def IU (a:js) (b:js):BE (Val vc):=Qe a b some
def XB (a:bl) (b:bl) (k:js->BE ρ):BE ρ :=
  ck (a.1*b.1) fun c=>ck (a.2*b.2) fun d=>Æ (se c d) fun e=>k e
def yv (a:bl) (b:bl):BE js:=XB a b some
def Kh (b:hO) (a:bl) (k:Val vc->BE ρ):BE ρ :=
  ifb (ilt a.1 0) (Æ (yv b.2 a) fun c=>Æ (yv b.1 a) fun d=>Æ (IU c d) fun e=>k e) (Æ (yv b.1 a) fun f=>Æ (yv b.2 a) fun g=>Æ (IU f g) fun h=>k h)
def Cr (a:hO) (b:bl):BE (Val vc):=Kh a b some
def Fv (b:b6) (a:i4) (k:hO->BE ρ):BE ρ :=
  Æ (qv a.2.2.1 a.2.2.2.1) fun c=>Æ (wA b c) fun d=>Æ (qv a.2.2.2.1 a.2.2.1) fun e=>Æ (wA b e) fun f=>Æ (NA d f) fun g=>Æ (Cr ((a.2.2.2.2.2.2.1,(1:Int)),a.2.2.2.2.2.2.2,(1:Int)) g.1) fun h=>k h.1
def yr (a:b6) (b:i4):BE hO:=Fv a b some
def Kd (a:b6) (b:i4) (k:bl->BE ρ):BE ρ :=
  ck ((Õ b.2.2.1)-(1:Int)) fun c=>ck ((Õ b.2.2.2.1)-(1:Int)) fun d=>ck ((T7 (0:Int) c)*a.1.1) fun e=>ck ((T7 (0:Int) d)*a.1.2) fun f=>ck (e-f) fun g=>ck ((T7 (0:Int) c)*a.1.2) fun h=>ck ((T7 (0:Int) d)*a.1.1) fun i=>ck (h-i) fun j=>k (g,j)
def Co (a:b6) (b:i4):BE bl:=Kd a b some
def acY (b:Int) (a:Int) (k:Int->BE ρ):BE ρ :=
  ifb (oy a 0) (none) (ck (Int.tdiv b a) fun c=>ifb (oy a 0) (none) (ifb (igt (Int.tmod b a) 0) (ck (c+1) fun d=>k d) (k c)))
def ado (a:Int) (b:Int):BE (Int):=acY a b some
def Qg (a:bl) (k:Int->BE ρ):BE ρ :=
  Æ (ado a.1 a.2) fun b=>k b
def IV (a:bl):BE (Int):=Qg a some
def Qc (b:Int) (a:Int) (k:Int->BE ρ):BE ρ :=
  ifb (oy a 0) (none) (ck (Int.tdiv b a) fun c=>ifb (oy a 0) (none) (ifb (ilt (Int.tmod b a) 0) (ck (c-1) fun d=>k d) (k c)))
def Ru (a:Int) (b:Int):BE (Int):=Qc a b some
def Kj (a:bl) (k:Int->BE ρ):BE ρ :=
  Æ (Ru a.1 a.2) fun b=>k b
def Ct (a:bl):BE (Int):=Kj a some
def PN (b:b6) (a:i4) (k:bl->BE ρ):BE ρ :=
  Æ (yr b a) fun c=>Æ (Co b a) fun d=>ck (a.2.2.2.2.1-a.2.2.2.2.2.1) fun e=>ck (e-d.2) fun f=>Æ (Ct c.2) fun g=>ck (f-g) fun h=>ck (a.2.2.2.2.1+a.2.2.2.2.2.1) fun i=>ck (i-d.1) fun j=>Æ (IV c.1) fun l=>ck (j-l) fun m=>k (h,m)
def wB (a:b6) (b:i4):BE bl:=PN a b some
def rN (e:bx) (b:Int) (p:Int) (q:Int) (r:fy) (s:bx) (t:fx) (u:c7) (v:bx) (g:Int) (w:Int) (h:Int) (x:Int) (y:Int) (a:Int) (c:im) (d:bx) (f:Int->im->bx->BE ρ) (z:Val yH->BE ρ):BE ρ :=
  ifb (ilt a (Õ e)) (é e a fun A=>ifb (ine A.1 g) (ck (a+(1:Int)) fun B=>f B c d) (é e a fun C=>ifb (ieq C.2 w) (ck (a+(1:Int)) fun i=>ck (h+y) fun j=>ck (a+(1:Int)) fun k=>ck ((0:Int)-h) fun D=>ck (D-x) fun l=>à (ã ((List.length c)+(List.length ([((0:Int),i,j),(k,(0:Int),l)])))) (à (ã ((List.length d)+(List.length ([((1:Int),b),((1:Int),b)])))) (ck (a+(1:Int)) fun E=>f E (c++([((0:Int),i,j),(k,(0:Int),l)])) (d++([((1:Int),b),((1:Int),b)]))))) (ck (a-(1:Int)) fun F=>é e F fun G=>é e a fun H=>Æ (wC ((p,q),r,s,t,u,v) g G.2 H.2) fun m=>ck (a+(1:Int)) fun n=>ck (a+(1:Int)) fun o=>à (ã ((List.length c)+(List.length ([(a,n,(0:Int)),(o,a,m)])))) (à (ã ((List.length d)+(List.length ([((2:Int),b),((2:Int),b)])))) (ck (a+(1:Int)) fun I=>f I (c++([(a,n,(0:Int)),(o,a,m)])) (d++([((2:Int),b),((2:Int),b)]))))))) (z (c,d))
def xA (h:bx) (i:Int) (j:Int) (c:fy) (k:bx) (l:fx) (m:c7) (n:bx) (b:Int) (e:im) (f:bx) (o:Int->im->bx->BE ρ) (p:Val yH->BE ρ):BE ρ :=
  ifb (ilt b (Õ c)) (é c b fun a=>Ë (fun(d:v6) q=>rN h b i j c k l m n a.1 a.2.1 a.2.2.1 a.2.2.2.1.1 a.2.2.2.1.2 d.1 d.2.1 d.2.2 (fun r s t=>q (r,s,t)) (fun g=>ck (b+(1:Int)) fun u=>o u g.1 g.2)) ((0:Int),e,f)) (p (e,f))
def xz (f:Int) (g:Int) (h:fy) (i:bx) (j:fx) (c:c7) (k:bx) (a:Int) (l:im) (m:bx) (p:Int->im->bx->BE ρ) (q:Val yH->BE ρ):BE ρ :=
  ifb (ilt a (Õ c)) (é c a fun b=>Æ (qv b.2.2.1 b.2.2.2.1) fun r=>Æ (kF ((f,g),h,i,j,c,k) (r,b.2.1)) fun d=>Æ (qv b.2.2.2.1 b.2.2.1) fun s=>Æ (kF ((f,g),h,i,j,c,k) (s,b.2.1)) fun e=>Æ (wB ((f,g),h,i,j,c,k) b) fun n=>ck ((0:Int)-n.1) fun o=>à (ã ((List.length l)+(List.length ([(e,d,n.2),(d,e,o)])))) (à (ã ((List.length m)+(List.length ([((3:Int),a),((3:Int),a)])))) (ck (a+(1:Int)) fun t=>p t (l++([(e,d,n.2),(d,e,o)])) (m++([((3:Int),a),((3:Int),a)]))))) (q (l,m))
def Xm (a:b6) (k:Val yH->BE ρ):BE ρ :=
  Æ (kE a) fun e=>Ë (fun(b:v6) f=>xA e a.1.1 a.1.2 a.2.1 a.2.2.1 a.2.2.2.1 a.2.2.2.2.1 a.2.2.2.2.2 b.1 b.2.1 b.2.2 (fun g h i=>f (g,h,i)) (fun d=>Ë (fun(c:v6) j=>xz a.1.1 a.1.2 a.2.1 a.2.2.1 a.2.2.2.1 a.2.2.2.2.1 a.2.2.2.2.2 c.1 c.2.1 c.2.2 (fun l m n=>j (l,m,n)) (fun o=>k o)) ((0:Int),d.1,d.2))) ((0:Int),[],[])
def yp (a:b6):BE (Val yH):=Xm a some
def Ax (a:bl) (b:Int) (c:Int) (k:Bool->BE ρ):BE ρ :=
  ifb (ile b a.1) (ifb (ile a.1 a.2) (k (ile a.2 c)) (k false)) (k false)
def jW (a:bl) (b:Int) (c:Int):BE (Bool):=Ax a b c some
def Kg (a:bl) (k:Bool->BE ρ):BE ρ :=
  ifb (ilt a.2 1) (k false) (ifb (igt a.2 2147483647) (k false) (ifb (ilt a.1 (-2147483647:Int)) (k false) (ifb (igt a.1 2147483647) (k false) (Æ (IW a.1) fun b=>Æ (Cs b a.2) fun c=>k (ieq c 1)))))
def Cq (a:bl):BE (Bool):=Kg a some
def J6 (a:nj) (k:Bool->BE ρ):BE ρ :=
  Æ (Cq a.2.2.2.2.1) fun b=>ifb (!b) (k false) (Æ (kX a.2.2.2.2.1.1 (-1000:Int) (1000:Int)) fun c=>ifb (!c) (k false) (ifb (igt a.2.2.2.2.1.2 100) (k false) (Æ (kX a.1 (1:Int) (1099511627776:Int)) fun d=>ifb d (Æ (yu a.2.1) fun e=>ifb e (Æ (kX a.2.2.1 (1:Int) (1125899906842624:Int)) fun f=>ifb f (Æ (jW a.2.2.2.1 (-1073741824:Int) (1073741824:Int)) fun g=>ifb g (Æ (kX a.2.2.2.2.2 (0:Int) (1048576:Int)) fun h=>k h) (k false)) (k false)) (k false)) (k false))))
def Cn (a:nj):BE (Bool):=J6 a some
def J8 (a:b6) (c:Int) (d:Int) (k:Int->BE ρ):BE ρ :=
  Æ (ln a c) fun b=>ifb (ilt b 0) (k (5:Int)) (é a.2.1 b fun e=>ifb (ilt d e.2.1) (k (4:Int)) (k (0:Int)))
def jx (a:b6) (b:Int) (c:Int):BE (Int):=J8 a b c some
def tM (e:Int) (f:Int) (g:fy) (a:bx) (h:fx) (i:c7) (j:bx) (b:Int) (k:Int->BE ρ) (c:Int->BE ρ) (l:Unit->BE ρ):BE ρ :=
  ifb (ilt b (Õ a)) (é a b fun m=>Æ (yu m.2) fun n=>ifb (!n) (c (1:Int)) (é a b fun o=>é a b fun p=>Æ (jx ((e,f),g,a,h,i,j) o.1 p.2) fun d=>ifb (ine d 0) (c d) (ck (b+(1:Int)) fun q=>k q))) (l ())
def PC (a:b6) (k:Int->BE ρ):BE ρ :=
  Ë (fun(b:Int) c=>tM a.1.1 a.1.2 a.2.1 a.2.2.1 a.2.2.2.1 a.2.2.2.2.1 a.2.2.2.2.2 b (fun d=>c d) (fun e=>k e) (fun _=>k (0:Int))) (0:Int)
def IM (a:b6):BE (Int):=PC a some
def qf (d:Int) (b:fx) (e:Int) (f:Int) (g:Int) (a:Int) (c:Int->BE ρ) (h:Int->BE ρ) (i:Unit->BE ρ):BE ρ :=
  ifb (ilt a d) (é b a fun j=>ifb (ieq j.1 e) (é b a fun k=>ifb (ile k.2.1.1 g) (é b a fun l=>ifb (ile f l.2.1.2) (h (9:Int)) (ck (a+(1:Int)) fun m=>c m)) (ck (a+(1:Int)) fun n=>c n)) (ck (a+(1:Int)) fun o=>c o)) (i ())
def mM (b:bx) (d:Int) (e:Int) (f:Int) (a:Int) (c:Int->BE ρ) (g:Int->BE ρ) (h:Unit->BE ρ):BE ρ :=
  ifb (ilt a (Õ b)) (é b a fun i=>ifb (ieq i.1 d) (é b a fun j=>Æ (kX j.2 e f) fun k=>ifb k (g (9:Int)) (ck (a+(1:Int)) fun l=>c l)) (ck (a+(1:Int)) fun m=>c m)) (h ())
def qg (g:Int) (h:Int) (i:fy) (e:bx) (c:fx) (j:c7) (k:bx) (d:Int) (l:Int->BE ρ) (b:Int->BE ρ) (m:Unit->BE ρ):BE ρ :=
  ifb (ilt d (Õ c)) (é c d fun a=>Æ (jW a.2.1 (0:Int) (20000:Int)) fun n=>ifb (!n) (b (1:Int)) (Æ (kX a.2.2 (0:Int) (1048576:Int)) fun o=>ifb (!o) (b (1:Int)) (Æ (jx ((g,h),i,e,c,j,k) a.1 a.2.1.1) fun f=>ifb (ine f 0) (b f) (Ë (fun(p:Int) q=>qf d c a.1 a.2.1.1 a.2.1.2 p (fun r=>q r) (fun s=>b s) (fun _=>Ë (fun(t:Int) u=>mM e a.1 a.2.1.1 a.2.1.2 t (fun v=>u v) (fun w=>b w) (fun _=>ck (d+(1:Int)) fun x=>l x)) (0:Int))) (0:Int))))) (m ())
def J4 (a:b6) (k:Int->BE ρ):BE ρ :=
  Ë (fun(b:Int) c=>qg a.1.1 a.1.2 a.2.1 a.2.2.1 a.2.2.2.1 a.2.2.2.2.1 a.2.2.2.2.2 b (fun d=>c d) (fun e=>k e) (fun _=>k (0:Int))) (0:Int)
def Cm (a:b6):BE (Int):=J4 a some
def tT (b:an) (a:Int) (c:Int->BE ρ) (d:Bool->BE ρ) (e:Unit->BE ρ):BE ρ :=
  ifb (ilt a (Õ b)) (é b a fun f=>Æ (kX f (1:Int) (1099511627776:Int)) fun g=>ifb (!g) (d false) (ifb (igt a 0) (é b a fun h=>ck (a-(1:Int)) fun i=>é b i fun j=>ifb (ile h j) (d false) (ck (a+(1:Int)) fun k=>c k)) (ck (a+(1:Int)) fun l=>c l))) (e ())
def PP (a:an) (k:Bool->BE ρ):BE ρ :=
  Ë (fun(b:Int) c=>tT a b (fun d=>c d) (fun e=>k e) (fun _=>k (ile (Õ a) 6))) (0:Int)
def Bq (a:an):BE (Bool):=PP a some
def J3 (a:i4) (k:Bool->BE ρ):BE ρ :=
  Æ (Bq a.2.2.1) fun b=>Æ (Bq a.2.2.2.1) fun c=>ifb b (ifb c (Æ (kX a.1 (1:Int) (1099511627776:Int)) fun d=>ifb d (Æ (yu a.2.1) fun e=>ifb e (Æ (kX a.2.2.2.2.1 (-1125899906842624:Int) (1125899906842624:Int)) fun f=>ifb f (Æ (kX a.2.2.2.2.2.1 (0:Int) (1073741824:Int)) fun g=>ifb g (Æ (jW a.2.2.2.2.2.2 (-10000:Int) (10000:Int)) fun h=>k h) (k false)) (k false)) (k false)) (k false)) (k false)) (k false)
def Cl (a:i4):BE (Bool):=J3 a some
def lL (c:Int) (d:Int) (e:fy) (f:bx) (g:fx) (h:c7) (i:bx) (b:an) (a:Int) (j:Int->BE ρ) (k:Int->BE ρ) (l:Unit->BE ρ):BE ρ :=
  ifb (ilt a (Õ b)) (à ((ile 0 a)&&(ilt a (í b))) (ī b (Int.toNat a) fun m=>Æ (ln ((c,d),e,f,g,h,i) m) fun n=>ifb (ilt n 0) (k (5:Int)) (ck (a+(1:Int)) fun o=>j o))) (l ())
def jm (c:Int) (d:Int) (e:fy) (f:bx) (g:fx) (h:c7) (i:bx) (j:Int) (b:an) (a:Int) (k:Int->BE ρ) (l:Int->BE ρ) (m:Unit->BE ρ):BE ρ :=
  ifb (ilt a (Õ b)) (à ((ile 0 a)&&(ilt a (í b))) (ī b (Int.toNat a) fun n=>Æ (jx ((c,d),e,f,g,h,i) n j) fun o=>ifb (ine o 0) (l (4:Int)) (ck (a+(1:Int)) fun p=>k p))) (m ())
def Θ (c:Int) (d:Int) (e:fy) (f:bx) (g:fx) (h:c7) (i:bx) (j:Int) (b:an) (a:Int) (k:Int->BE ρ) (l:Int->BE ρ) (m:Unit->BE ρ):BE ρ :=
  ifb (ilt a (Õ b)) (à ((ile 0 a)&&(ilt a (í b))) (ī b (Int.toNat a) fun n=>Æ (jX ((c,d),e,f,g,h,i) n j) fun o=>ifb o.2 (l (9:Int)) (ck (a+(1:Int)) fun p=>k p))) (m ())
def xx (a:b6) (b:i4) (k:Int->BE ρ):BE ρ :=
  à (ã (0+(List.length b.2.2.1))) (à (ã ((List.length (([])++b.2.2.1))+(List.length b.2.2.2.1))) (Ë (fun(e:Int) f=>lL a.1.1 a.1.2 a.2.1 a.2.2.1 a.2.2.2.1 a.2.2.2.2.1 a.2.2.2.2.2 ((([])++b.2.2.1)++b.2.2.2.1) e (fun g=>f g) (fun h=>k h) (fun _=>Ë (fun(i:Int) j=>jm a.1.1 a.1.2 a.2.1 a.2.2.1 a.2.2.2.1 a.2.2.2.2.1 a.2.2.2.2.2 b.2.1 ((([])++b.2.2.1)++b.2.2.2.1) i (fun l=>j l) (fun m=>k m) (fun _=>Ë (fun(n:Int) o=>Θ a.1.1 a.1.2 a.2.1 a.2.2.1 a.2.2.2.1 a.2.2.2.2.1 a.2.2.2.2.2 b.2.1 ((([])++b.2.2.1)++b.2.2.2.1) n (fun p=>o p) (fun q=>k q) (fun _=>Æ (lm b.2.2.1 b.2.2.2.1) fun c=>Æ (lm b.2.2.2.1 b.2.2.1) fun d=>ifb (igt (Õ c) 1) (k (1:Int)) (ifb (igt (Õ d) 1) (k (1:Int)) (ck ((Õ c)+(Õ d)) fun r=>ifb (ieq r 0) (k (1:Int)) (k (0:Int)))))) (0:Int))) (0:Int))) (0:Int)))
def kB (a:b6) (b:i4):BE (Int):=xx a b some
def qo (b:fy) (a:Int) (c:Int->BE ρ) (d:Int->BE ρ) (e:Unit->BE ρ):BE ρ :=
  ifb (ilt a (Õ b)) (é b a fun f=>Æ (Cn f) fun g=>ifb (!g) (d (1:Int)) (ifb (igt a 0) (é b a fun h=>ck (a-(1:Int)) fun i=>é b i fun j=>ifb (ile h.1 j.1) (d (6:Int)) (ck (a+(1:Int)) fun k=>c k)) (ck (a+(1:Int)) fun l=>c l))) (e ())
def qn (b:Int) (c:c7) (a:Int) (d:Int->BE ρ) (e:Int->BE ρ) (f:Unit->BE ρ):BE ρ :=
  ifb (ilt a b) (é c a fun g=>é c b fun h=>ifb (ieq g.1 h.1) (e (6:Int)) (ck (a+(1:Int)) fun i=>d i)) (f ())
def kr (e:Int) (f:Int) (g:fy) (h:bx) (i:fx) (a:c7) (j:bx) (b:Int) (k:Int->BE ρ) (c:Int->BE ρ) (l:Unit->BE ρ):BE ρ :=
  ifb (ilt b (Õ a)) (é a b fun m=>Æ (Cl m) fun n=>ifb (!n) (c (1:Int)) (Ë (fun(o:Int) p=>qn b a o (fun q=>p q) (fun r=>c r) (fun _=>é a b fun s=>Æ (kB ((e,f),g,h,i,a,j) s) fun d=>ifb (ine d 0) (c d) (ck (b+(1:Int)) fun t=>k t))) (0:Int))) (l ())
def kq (e:Int) (f:Int) (g:fy) (h:bx) (i:fx) (j:c7) (a:bx) (b:Int) (k:Int->BE ρ) (c:Int->BE ρ) (l:Unit->BE ρ):BE ρ :=
  ifb (ilt b (Õ a)) (é a b fun m=>Æ (yu m.2) fun n=>ifb (!n) (c (1:Int)) (é a b fun o=>é a b fun p=>Æ (jx ((e,f),g,h,i,j,a) o.1 p.2) fun d=>ifb (ine d 0) (c d) (ck (b+(1:Int)) fun q=>k q))) (l ())
def Ke (a:b6) (k:Int->BE ρ):BE ρ :=
  Æ (jW a.1 (0:Int) (1000000:Int)) fun d=>ifb (!d) (k (1:Int)) (ifb (igt (Õ a.2.1) 12) (k (2:Int)) (ifb (igt (Õ a.2.2.1) 40) (k (2:Int)) (ifb (igt (Õ a.2.2.2.1) 12) (k (2:Int)) (ifb (igt (Õ a.2.2.2.2.1) 40) (k (2:Int)) (ifb (igt (Õ a.2.2.2.2.2) 10) (k (2:Int)) (Ë (fun(e:Int) f=>qo a.2.1 e (fun g=>f g) (fun h=>k h) (fun _=>Æ (IM a) fun b=>ifb (ieq b 0) (Æ (Cm a) fun c=>ifb (ine c 0) (k c) (Ë (fun(i:Int) j=>kr a.1.1 a.1.2 a.2.1 a.2.2.1 a.2.2.2.1 a.2.2.2.2.1 a.2.2.2.2.2 i (fun l=>j l) (fun m=>k m) (fun _=>Ë (fun(n:Int) o=>kq a.1.1 a.1.2 a.2.1 a.2.2.1 a.2.2.2.1 a.2.2.2.2.1 a.2.2.2.2.2 n (fun p=>o p) (fun q=>k q) (fun _=>Æ (kE a) fun r=>ifb (igt (Õ r) 59) (k (2:Int)) (Æ (yp a) fun s=>ifb (igt (Õ s.1) 300) (k (2:Int)) (k (0:Int))))) (0:Int))) (0:Int))) (ifb (ine b 0) (k b) (Ë (fun(t:Int) u=>kr a.1.1 a.1.2 a.2.1 a.2.2.1 a.2.2.2.1 a.2.2.2.2.1 a.2.2.2.2.2 t (fun v=>u v) (fun w=>k w) (fun _=>Ë (fun(x:Int) y=>kq a.1.1 a.1.2 a.2.1 a.2.2.1 a.2.2.2.1 a.2.2.2.2.1 a.2.2.2.2.2 x (fun z=>y z) (fun A=>k A) (fun _=>Æ (kE a) fun B=>ifb (igt (Õ B) 59) (k (2:Int)) (Æ (yp a) fun C=>ifb (igt (Õ C.1) 300) (k (2:Int)) (k (0:Int))))) (0:Int))) (0:Int))))) (0:Int)))))))
def Cp (a:b6):BE (Int):=Ke a some
def xq (b:an) (a:Int) (c:Int->BE ρ) (d:Int->BE ρ) (e:Unit->BE ρ):BE ρ :=
  ifb (ilt a (Õ b)) (é b a fun f=>ck (a-(1:Int)) fun g=>é b g fun h=>ifb (ile f h) (d (1:Int)) (ck (a+(1:Int)) fun i=>c i)) (e ())
def Fc (c:Int) (d:Int) (e:fy) (f:bx) (g:fx) (h:c7) (i:bx) (b:an) (a:Int) (j:Int->BE ρ) (k:Int->BE ρ) (l:Unit->BE ρ):BE ρ :=
  ifb (ilt a (Õ b)) (é b a fun m=>Æ (ln ((c,d),e,f,g,h,i) m) fun n=>ifb (ilt n 0) (k (5:Int)) (ck (a+(1:Int)) fun o=>j o)) (l ())
def E9 (c:Int) (d:Int) (e:fy) (f:bx) (g:fx) (h:c7) (i:bx) (j:Int) (b:an) (a:Int) (k:Int->BE ρ) (l:Int->BE ρ) (m:Unit->BE ρ):BE ρ :=
  ifb (ilt a (Õ b)) (é b a fun n=>Æ (jx ((c,d),e,f,g,h,i) n j) fun o=>ifb (ine o 0) (l (4:Int)) (ck (a+(1:Int)) fun p=>k p)) (m ())
def W8 (a:b6) (b:f4) (k:Int->BE ρ):BE ρ :=
  Æ (kX b.1 (0:Int) (19999:Int)) fun c=>ifb (!c) (k (1:Int)) (Æ (kX (Õ b.2) (2:Int) (5:Int)) fun d=>ifb (!d) (k (1:Int)) (Ë (fun(e:Int) f=>xq b.2 e (fun g=>f g) (fun h=>k h) (fun _=>Ë (fun(i:Int) j=>Fc a.1.1 a.1.2 a.2.1 a.2.2.1 a.2.2.2.1 a.2.2.2.2.1 a.2.2.2.2.2 b.2 i (fun l=>j l) (fun m=>k m) (fun _=>Ë (fun(n:Int) o=>E9 a.1.1 a.1.2 a.2.1 a.2.2.1 a.2.2.2.1 a.2.2.2.2.1 a.2.2.2.2.2 b.1 b.2 n (fun p=>o p) (fun q=>k q) (fun _=>k (0:Int))) (0:Int))) (0:Int))) (1:Int)))
def Ny (a:b6) (b:f4):BE (Int):=W8 a b some
def je (c:Int) (d:Int) (e:fy) (f:bx) (g:fx) (h:c7) (i:bx) (j:Int) (b:an) (k:Int) (a:Int) (m:Int->Int->BE ρ) (l:Int->BE ρ) (n:Int->BE ρ):BE ρ :=
  ifb (ilt a (Õ b)) (é b a fun o=>Æ (jX ((c,d),e,f,g,h,i) o j) fun p=>é b a fun q=>ck (j+(1:Int)) fun r=>Æ (jX ((c,d),e,f,g,h,i) q r) fun s=>ifb p.2 (l (9:Int)) (ifb s.2 (l (9:Int)) (ck (a+(1:Int)) fun t=>ck (k*t) fun u=>ck (a+(1:Int)) fun v=>m u v))) (n k)
def qe (d:Int) (e:Int) (f:fy) (g:bx) (h:fx) (i:c7) (j:bx) (k:c9) (l:Int) (a:Int) (m:Int->Int->BE ρ) (c:Int->BE ρ) (q:Int->BE ρ):BE ρ :=
  ifb (ilt a (Õ k)) (é k a fun b=>Æ (Ny ((d,e),f,g,h,i,j) b) fun n=>ifb (ine n 0) (c n) (ifb (igt a 0) (ck (a-(1:Int)) fun r=>é k r fun s=>ifb (ile b.1 s.1) (c (6:Int)) (Ë (fun(o:bl) t=>je d e f g h i j b.1 b.2 o.1 o.2 (fun u v=>t (u,v)) (fun w=>c w) (fun x=>ck (a+(1:Int)) fun y=>m x y)) (l,(0:Int)))) (Ë (fun(p:bl) z=>je d e f g h i j b.1 b.2 p.1 p.2 (fun A B=>z (A,B)) (fun C=>c C) (fun D=>ck (a+(1:Int)) fun E=>m D E)) (l,(0:Int))))) (q l)
def J1 (a:a8) (k:Int->BE ρ):BE ρ :=
  Æ (Cp a.1) fun b=>ifb (ine b 0) (k b) (ifb (igt (Õ a.2) 4) (k (2:Int)) (Ë (fun(c:bl) d=>qe a.1.1.1 a.1.1.2 a.1.2.1 a.1.2.2.1 a.1.2.2.2.1 a.1.2.2.2.2.1 a.1.2.2.2.2.2 a.2 c.1 c.2 (fun e f=>d (e,f)) (fun g=>k g) (fun h=>ifb (igt h 150) (k (2:Int)) (k (0:Int)))) ((1:Int),(0:Int))))
def Ck (a:a8):BE (Int):=J1 a some
def BX (b:an) (c:Int) (a:Int) (d:Int->BE ρ) (e:Int->BE ρ) (f:Unit->BE ρ):BE ρ :=
  ifb (ilt a (Õ b)) (é b a fun g=>ifb (ieq g c) (e a) (ck (a+(1:Int)) fun h=>d h)) (f ())
def acU (a:an) (b:Int) (k:Int->BE ρ):BE ρ :=
  Ë (fun(c:Int) d=>BX a b c (fun e=>d e) (fun f=>k f) (fun _=>k (-1:Int))) (0:Int)
def KO (a:an) (b:Int):BE (Int):=acU a b some
def km (c:b5) (a:Int) (e:c9) (b:Int) (f:Int->BE ρ) (d:Bool->BE ρ) (g:Unit->BE ρ):BE ρ :=
  é c a fun h=>ifb (ilt b (Õ h)) (é e a fun i=>é c a fun j=>é j b fun k=>Æ (KO i.2 k) fun l=>ifb (ilt l 0) (d false) (é c a fun m=>é c a fun n=>é n b fun o=>Æ (KO m o) fun p=>ifb (ine p b) (d false) (ck (b+(1:Int)) fun q=>f q))) (g ())
def kp (b:b5) (c:c9) (a:Int) (e:Int->BE ρ) (d:Bool->BE ρ) (f:Unit->BE ρ):BE ρ :=
  ifb (ilt a (Õ b)) (é b a fun g=>é c a fun h=>ifb (ine (Õ g) (Õ h.2)) (d false) (Ë (fun(i:Int) j=>km b a c i (fun k=>j k) (fun l=>d l) (fun _=>ck (a+(1:Int)) fun m=>e m)) (0:Int))) (f ())
def JZ (a:a8) (b:b5) (k:Bool->BE ρ):BE ρ :=
  ifb (ine (Õ b) (Õ a.2)) (k false) (Ë (fun(c:Int) d=>kp b a.2 c (fun e=>d e) (fun f=>k f) (fun _=>k true)) (0:Int))
def Cj (a:a8) (b:b5):BE (Bool):=JZ a b some
def xr (f:b5) (g:Int) (d:c9) (b:Int) (a:Int) (c:Int->Int->BE ρ) (h:Int->BE ρ):BE ρ :=
  ifb (ige a 0) (é d a fun i=>ifb (ilt i.1 g) (é f a fun j=>Æ (KO j b) fun e=>ifb (ige e 0) (é d a fun k=>é k.2 e fun l=>ck (a-(1:Int)) fun m=>c l m) (ck (a-(1:Int)) fun n=>c b n)) (ck (a-(1:Int)) fun o=>c b o)) (h b)
def Xa (a:a8) (c:b5) (d:Int) (e:Int) (k:Int->BE ρ):BE ρ :=
  ck ((Õ a.2)-(1:Int)) fun f=>Ë (fun(b:bl) g=>xr c e a.2 b.1 b.2 (fun h i=>g (h,i)) (fun j=>k j)) (d,f)
def yn (a:a8) (b:b5) (c:Int) (d:Int):BE (Int):=Xa a b c d some
def oT (d:Int) (b:an) (a:Int) (e:Int->BE ρ) (c:Int->BE ρ):BE ρ :=
  ifb (ilt a (Õ b)) (à ((ile 0 a)&&(ilt a (í b))) (ī b (Int.toNat a) fun f=>ifb (ilt f d) (ck (a+(1:Int)) fun g=>e g) (c a))) (c a)
def tD (f:b5) (e:an) (g:Int) (h:Int) (i:Int) (j:fy) (k:bx) (l:fx) (m:c7) (n:bx) (o:c9) (d:Int) (a:an) (p:Int->an->BE ρ) (q:an->BE ρ):BE ρ :=
  ifb (ilt d (Õ e)) (é e d fun r=>Æ (yn (((h,i),j,k,l,m,n),o) f r g) fun c=>Ë (fun(s:Int) t=>oT c a s (fun u=>t u) (fun b=>à ((ile 0 b)&&(ile b (í a))) (à (ã (List.length (List.take (Int.toNat b) (List.drop 0 a)))) (à (ã ((List.length (List.take (Int.toNat b) (List.drop 0 a)))+(List.length ([c])))) (à ((ile 0 b)&&(ile b (í a))) (à (ã ((List.length ((List.take (Int.toNat b) (List.drop 0 a))++([c])))+(List.length (List.take (List.length a-(Int.toNat b)) (List.drop (Int.toNat b) a))))) (ck (d+(1:Int)) fun v=>p v (((List.take (Int.toNat b) (List.drop 0 a))++([c]))++(List.take (List.length a-(Int.toNat b)) (List.drop (Int.toNat b) a)))))))))) (0:Int)) (q a)
def Pn (a:a8) (c:b5) (d:an) (e:Int) (k:an->BE ρ):BE ρ :=
  Ë (fun(b:f4) f=>tD c d e a.1.1.1 a.1.1.2 a.1.2.1 a.1.2.2.1 a.1.2.2.2.1 a.1.2.2.2.2.1 a.1.2.2.2.2.2 a.2 b.1 b.2 (fun g h=>f (g,h)) (fun i=>k i)) ((0:Int),[])
def Bp (a:a8) (b:b5) (c:an) (d:Int):BE (an):=Pn a b c d some
def kj (f:b5) (g:Int) (h:Int) (i:fy) (b:bx) (j:fx) (k:c7) (l:bx) (m:c9) (c:Int) (d:bx) (n:Int->bx->BE ρ) (o:bx->BE ρ):BE ρ :=
  ifb (ilt c (Õ b)) (é b c fun a=>Æ (yn (((g,h),i,b,j,k,l),m) f a.1 a.2) fun e=>à (ã ((List.length d)+(List.length ([(e,a.2)])))) (ck (c+(1:Int)) fun p=>n p (d++([(e,a.2)])))) (o d)
def ki (f:b5) (g:Int) (h:Int) (i:fy) (j:bx) (b:fx) (k:c7) (l:bx) (m:c9) (c:Int) (d:fx) (n:Int->fx->BE ρ) (o:fx->BE ρ):BE ρ :=
  ifb (ilt c (Õ b)) (é b c fun a=>Æ (yn (((g,h),i,j,b,k,l),m) f a.1 a.2.1.1) fun e=>à (ã ((List.length d)+(List.length ([(e,a.2)])))) (ck (c+(1:Int)) fun p=>n p (d++([(e,a.2)])))) (o d)
def kh (e:b5) (f:Int) (g:Int) (h:fy) (i:bx) (j:fx) (b:c7) (k:bx) (l:c9) (c:Int) (d:c7) (o:Int->c7->BE ρ) (p:c7->BE ρ):BE ρ :=
  ifb (ilt c (Õ b)) (é b c fun a=>Æ (Bp (((f,g),h,i,j,b,k),l) e a.2.2.1 a.2.1) fun m=>Æ (Bp (((f,g),h,i,j,b,k),l) e a.2.2.2.1 a.2.1) fun n=>à (ã ((List.length d)+(List.length ([(a.1,a.2.1,m,n,a.2.2.2.2)])))) (ck (c+(1:Int)) fun q=>o q (d++([(a.1,a.2.1,m,n,a.2.2.2.2)])))) (p d)
def kg (f:b5) (g:Int) (h:Int) (i:fy) (j:bx) (k:fx) (l:c7) (b:bx) (m:c9) (c:Int) (d:bx) (n:Int->bx->BE ρ) (o:bx->BE ρ):BE ρ :=
  ifb (ilt c (Õ b)) (é b c fun a=>Æ (yn (((g,h),i,j,k,l,b),m) f a.1 a.2) fun e=>à (ã ((List.length d)+(List.length ([(e,a.2)])))) (ck (c+(1:Int)) fun p=>n p (d++([(e,a.2)])))) (o d)
def uN (a:a8) (b:b5) (k:b6->BE ρ):BE ρ :=
  Ë (fun(c:nn) g=>kj b a.1.1.1 a.1.1.2 a.1.2.1 a.1.2.2.1 a.1.2.2.2.1 a.1.2.2.2.2.1 a.1.2.2.2.2.2 a.2 c.1 c.2 (fun h i=>g (h,i)) (fun j=>Ë (fun(d:y6) l=>ki b a.1.1.1 a.1.1.2 a.1.2.1 a.1.2.2.1 a.1.2.2.2.1 a.1.2.2.2.2.1 a.1.2.2.2.2.2 a.2 d.1 d.2 (fun m n=>l (m,n)) (fun o=>Ë (fun(e:Val bc) p=>kh b a.1.1.1 a.1.1.2 a.1.2.1 a.1.2.2.1 a.1.2.2.2.1 a.1.2.2.2.2.1 a.1.2.2.2.2.2 a.2 e.1 e.2 (fun q r=>p (q,r)) (fun s=>Ë (fun(f:nn) t=>kg b a.1.1.1 a.1.1.2 a.1.2.1 a.1.2.2.1 a.1.2.2.2.1 a.1.2.2.2.2.1 a.1.2.2.2.2.2 a.2 f.1 f.2 (fun u v=>t (u,v)) (fun w=>k (a.1.1,a.1.2.1,j,o,s,w))) ((0:Int),[]))) ((0:Int),[]))) ((0:Int),[]))) ((0:Int),[])
def ov (a:a8) (b:b5):BE b6:=uN a b some
def Fo (a:b6) (k:ge->BE ρ):BE ρ :=
  Æ (kE a) fun b=>ck ((Õ b)+(1:Int)) fun c=>Æ (yp a) fun d=>k (c,d.1)
def yq (a:b6):BE ge:=Fo a some
def oZ (d:im) (e:Bool) (c:Int) (b:an) (f:Bool->Int->an->BE ρ) (g:(Val (.pair .bool ab))->BE ρ):BE ρ :=
  ifb (ilt c (Õ d)) (é d c fun a=>à ((ile 0 a.1)&&(ilt a.1 (í b))) (ī b (Int.toNat a.1) fun h=>ck (h+a.2.2) fun i=>à ((ile 0 a.2.1)&&(ilt a.2.1 (í b))) (ī b (Int.toNat a.2.1) fun j=>ifb (ilt i j) (à ((ile 0 a.1)&&(ilt a.1 (í b))) (ī b (Int.toNat a.1) fun k=>ck (k+a.2.2) fun l=>à ((ile 0 a.2.1)&&(ilt a.2.1 (í b))) (ī b (Int.toNat a.2.1) fun o=>ck (c+(1:Int)) fun m=>f true m (List.set b (Int.toNat a.2.1) l)))) (ck (c+(1:Int)) fun n=>f e n b)))) (g (e,b))
def o8 (g:Int) (h:im) (a:Bool) (d:Int) (b:an) (i:Bool->Int->an->BE ρ) (e:(Val (.pair .bool ab))->BE ρ):BE ρ :=
  ifb (ile d g) (ifb a (Ë (fun(c:rx) j=>oZ h c.1 c.2.1 c.2.2 (fun k l m=>j (k,l,m)) (fun f=>ck (d+(1:Int)) fun n=>i f.1 n f.2)) (false,(0:Int),b)) (e (a,b))) (e (a,b))
def PS (a:ge) (k:Bool->BE ρ):BE ρ :=
  à ((ile 0 a.1)&&(ã (Int.toNat a.1))) (Ë (fun(b:rx) c=>o8 a.1 a.2 b.1 b.2.1 b.2.2 (fun d e f=>c (d,e,f)) (fun g=>k (!g.1))) (true,(0:Int),(List.replicate (Int.toNat a.1) (0:Int))))
def IR (a:ge):BE (Bool):=PS a some
def xv (a:a8) (b:b5) (k:Bool->BE ρ):BE ρ :=
  Æ (ov a b) fun c=>Æ (yq c) fun d=>Æ (IR d) fun e=>k e
def mS (a:a8) (b:b5):BE (Bool):=xv a b some
def om (d:b5) (b:Int) (f:c9) (c:Int) (a:Int) (e:Int->Int->BE ρ) (g:Int->BE ρ):BE ρ :=
  é d b fun h=>ifb (ilt a (Õ h)) (é d b fun i=>é i a fun j=>é f b fun k=>é k.2 a fun l=>ifb (ine j l) (ck (c+(1:Int)) fun m=>ck (a+(1:Int)) fun n=>e m n) (ck (a+(1:Int)) fun o=>e c o)) (g c)
def oo (b:b5) (e:c9) (c:Int) (a:Int) (f:Int->Int->BE ρ) (g:Int->BE ρ):BE ρ :=
  ifb (ilt a (Õ b)) (Ë (fun(d:bl) h=>om b a e d.1 d.2 (fun i j=>h (i,j)) (fun k=>ck (a+(1:Int)) fun l=>f k l)) (c,(0:Int))) (g c)
def Fe (b:a8) (c:b5) (k:Int->BE ρ):BE ρ :=
  Ë (fun(a:bl) d=>oo c b.2 a.1 a.2 (fun e f=>d (e,f)) (fun g=>k g)) ((0:Int),(0:Int))
def yo (a:a8) (b:b5):BE (Int):=Fe a b some
def la (rec:an->BE b5) (f:an) (g:Int) (e:b5) (a:Int) (b:b5) (h:Int->b5->BE ρ) (i:b5->BE ρ):BE ρ :=
  ifb (ilt a (Õ e)) (é f g fun c=>é e a fun d=>à (ã ((List.length ([c]))+(List.length d))) (à (ã ((List.length b)+(List.length ([(([c])++d)])))) (ck (a+(1:Int)) fun j=>h j (b++([(([c])++d)]))))) (i b)
def ol (rec:an->BE b5) (a:an) (b:Int) (d:b5) (f:Int->b5->BE ρ) (g:b5->BE ρ):BE ρ :=
  ifb (ilt b (Õ a)) (à ((ile 0 b)&&(ile b (í a))) (à (ã (0+(List.length (List.take (Int.toNat b) a)))) (ck (b+(1:Int)) fun c=>à ((ile 0 c)&&(ile c (í a))) (à (ã ((List.length (([])++(List.take (Int.toNat b) a)))+(List.length (List.drop (Int.toNat c) a)))) (Æ (rec ((([])++(List.take (Int.toNat b) a))++(List.drop (Int.toNat c) a))) fun h=>Ë (fun(e:pi) i=>la rec a b h e.1 e.2 (fun j k=>i (j,k)) (fun l=>ck (b+(1:Int)) fun m=>f m l)) ((0:Int),d)))))) (g d)
def nP (rec:an->BE b5) (a:an) (k:b5->BE ρ):BE ρ :=
  ifb (ieq (Õ a) 0) (k ([[]])) (Ë (fun(b:pi) c=>ol rec a b.1 b.2 (fun d e=>c (d,e)) (fun f=>k f)) ((0:Int),[]))
def qV:Nat->an->BE b5
  |0=>fun _=>none
  |n+1=>fun a=>nP (qV n) a some
def FT (a:an):BE (b5):=qV 100 a
def oV (f:b5) (b:Int) (g:a7) (c:Int) (d:a7) (h:Int->a7->BE ρ) (i:a7->BE ρ):BE ρ :=
  ifb (ilt c (Õ f)) (à ((ile 0 b)&&(ilt b (í g))) (ī g (Int.toNat b) fun a=>à (ã (0+(List.length a))) (é f c fun e=>à (ã ((List.length (([])++a))+(List.length ([e])))) (à (ã ((List.length d)+(List.length ([((([])++a)++([e]))])))) (ck (c+(1:Int)) fun j=>h j (d++([((([])++a)++([e]))]))))))) (i d)
def oW (e:b5) (b:a7) (a:Int) (c:a7) (f:Int->a7->BE ρ) (g:a7->BE ρ):BE ρ :=
  ifb (ilt a (Õ b)) (Ë (fun(d:io) h=>oV e a b d.1 d.2 (fun i j=>h (i,j)) (fun k=>ck (a+(1:Int)) fun l=>f l k)) ((0:Int),c)) (g c)
def tF (b:c9) (a:Int) (c:a7) (e:Int->a7->BE ρ) (f:a7->BE ρ):BE ρ :=
  ifb (ilt a (Õ b)) (é b a fun g=>Æ (FT g.2) fun h=>Ë (fun(d:io) i=>oW h c d.1 d.2 (fun j k=>i (j,k)) (fun l=>ck (a+(1:Int)) fun m=>e m l)) ((0:Int),[])) (f c)
def oU (f:Int) (g:Int) (h:Int) (i:fy) (j:bx) (k:fx) (l:c7) (m:bx) (n:c9) (b:a7) (a:Int) (c:a7) (d:Int->a7->BE ρ) (o:a7->BE ρ):BE ρ :=
  ifb (ilt a (Õ b)) (à ((ile 0 a)&&(ilt a (í b))) (ī b (Int.toNat a) fun p=>Æ (yo (((g,h),i,j,k,l,m),n) p) fun q=>ifb (ieq q f) (à ((ile 0 a)&&(ilt a (í b))) (ī b (Int.toNat a) fun e=>à (ã ((List.length c)+(List.length ([e])))) (ck (a+(1:Int)) fun r=>d r (c++([e]))))) (ck (a+(1:Int)) fun s=>d s c))) (o c)
def tE (d:Int) (e:Int) (f:fy) (g:bx) (h:fx) (i:c7) (j:bx) (k:c9) (l:a7) (a:Int) (b:a7) (m:Int->a7->BE ρ) (n:a7->BE ρ):BE ρ :=
  ifb (ile a 20) (Ë (fun(c:io) o=>oU a d e f g h i j k l c.1 c.2 (fun p q=>o (p,q)) (fun r=>ck (a+(1:Int)) fun s=>m s r)) ((0:Int),b)) (n b)
def Pw (a:a8) (k:a7->BE ρ):BE ρ :=
  Ë (fun(b:io) d=>tF a.2 b.1 b.2 (fun e f=>d (e,f)) (fun g=>Ë (fun(c:io) h=>tE a.1.1.1 a.1.1.2 a.1.2.1 a.1.2.2.1 a.1.2.2.2.1 a.1.2.2.2.2.1 a.1.2.2.2.2.2 a.2 g c.1 c.2 (fun i j=>h (i,j)) (fun l=>k l)) ((0:Int),[]))) ((0:Int),[[]])
def IK (a:a8):BE (a7):=Pw a some
def xw (c:a7) (f:Int) (g:Int) (h:fy) (i:bx) (j:fx) (k:c7) (l:bx) (m:c9) (a:Int) (b:a7) (d:Int->a7->BE ρ) (n:a7->BE ρ):BE ρ :=
  ifb (ilt a (Õ c)) (é c a fun o=>Æ (mS (((f,g),h,i,j,k,l),m) o) fun p=>ifb p (é c a fun e=>à (ã ((List.length b)+(List.length ([e])))) (ck (a+(1:Int)) fun q=>d q (b++([e])))) (ck (a+(1:Int)) fun r=>d r b)) (n b)
def Xe (a:a8) (k:a7->BE ρ):BE ρ :=
  Æ (IK a) fun c=>Ë (fun(b:io) d=>xw c a.1.1.1 a.1.1.2 a.1.2.1 a.1.2.2.1 a.1.2.2.2.1 a.1.2.2.2.2.1 a.1.2.2.2.2.2 a.2 b.1 b.2 (fun e f=>d (e,f)) (fun g=>k g)) ((0:Int),[])
def IL (a:a8):BE (a7):=Xe a some
def lK (b:a7) (c:a7) (a:Int) (d:Int->BE ρ) (e:Bool->BE ρ) (f:Unit->BE ρ):BE ρ :=
  ifb (ilt a (Õ b)) (é b a fun g=>é c a fun h=>Æ (iY g h) fun i=>ifb (!i) (e false) (ck (a+(1:Int)) fun j=>d j)) (f ())
def xu (a:a7) (b:a7) (k:Bool->BE ρ):BE ρ :=
  ifb (ine (Õ a) (Õ b)) (k false) (Ë (fun(c:Int) d=>lK a b c (fun e=>d e) (fun f=>k f) (fun _=>k true)) (0:Int))
def jj (a:a7) (b:a7):BE (Bool):=xu a b some
def nD (b:a8) (e:b5) (k:Bool->BE ρ):BE ρ :=
  Æ (Ce b) fun i=>ifb (!i) (Æ ι fun j=>k j) (Æ (Cf e (8:Int)) fun l=>ifb (!l) (Æ ι fun m=>k m) (Æ (uA b e) fun c=>Æ (Rt b) fun d=>Æ (Bo b) fun a=>Æ (Ck b) fun f=>ifb (ine f 0) (Æ ι fun n=>ifb n (ifb (ieq c.2 f) (ifb (ieq d.2 f) (ifb (ieq a.2 f) (ifb (!c.1) (ck ((Õ d.1)+(Õ a.1)) fun o=>k (ieq o 0)) (k false)) (k false)) (k false)) (k false)) (k false)) (Æ (Cj b e) fun p=>ifb p (ifb (ine c.2 0) (k false) (Æ (mS b e) fun q=>ifb (!(c.1==q)) (k false) (Æ (IL b) fun g=>ifb (ine d.2 0) (k false) (Æ (jj d.1 g) fun r=>ifb (!r) (k false) (ifb (ieq (Õ g) 0) (Æ ι fun s=>ifb s (ifb (ieq a.2 5) (k (ieq (Õ a.1) 0)) (k false)) (k false)) (Æ ι fun t=>ifb t (ifb (ieq a.2 0) (é g (0:Int) fun u=>Æ (iY a.1 u) fun v=>k v) (k false)) (k false))))))) (ifb (ine c.2 1) (k false) (ifb c.1 (k false) (Æ (IL b) fun h=>ifb (ine d.2 0) (k false) (Æ (jj d.1 h) fun w=>ifb (!w) (k false) (ifb (ieq (Õ h) 0) (Æ ι fun x=>ifb x (ifb (ieq a.2 5) (k (ieq (Õ a.1) 0)) (k false)) (k false)) (Æ ι fun y=>ifb y (ifb (ieq a.2 0) (é h (0:Int) fun z=>Æ (iY a.1 z) fun A=>k A) (k false)) (k false))))))))))
def nZ (a:a8) (b:b5):BE (Bool):=nD a b some
end Go.Proofs.ZzM
end
