/- lemmas -/
import Derived.Test.YtenljaeklhlanaaGreatAmE
set_option linter.all false
noncomputable section
variable {ρ:Type}
set_option maxRecDepth 100000
namespace Go.Proofs.ZzM
open Go Go.Am
abbrev tI:Ty:=.int .i64
abbrev Ç:Ty:=(.pair tI tI)
abbrev ę:Ty:=(.pair tI Ç)
abbrev ĝ:Ty:=(.pair tI (.slice tI))
abbrev Ġ:Ty:=(.pair Ç Ç)
abbrev mf:Ty:=(.pair Ç tI)
abbrev χ:Ty:=(.pair tI mf)
abbrev Fl:Ty:=(.pair Ġ tI)
abbrev Ô:Ty:=(.pair tI (.slice ę))
abbrev Cw:Ty:=(.pair (.slice ę) (.slice Ç))
abbrev Ù:Ty:=(.pair tI (.pair tI (.pair tI (.pair Ç mf))))
abbrev Ú:Ty:=(.pair tI (.pair tI (.pair (.slice tI) (.pair (.slice tI) (.pair tI ę)))))
abbrev Ë:Ty:=(.pair Ç (.pair (.slice Ù) (.pair (.slice Ç) (.pair (.slice χ) (.pair (.slice Ú) (.slice Ç))))))
abbrev Â:Ty:=(.pair Ë (.slice ĝ))
abbrev D2:Ty:=(.pair Ë (.pair (.slice Ç) (.pair Ô (.slice Ç))))
def Bv (l:CK Int):BY (CK Int):=Û (ß l.length) (some l)
def uX:Nat->CK Int->CK (CK Int)
  |0,_=>[[]]
  |n+1,l=>if l.length=0 then[[]] else(List.range l.length).flatMap fun i=>(uX n (l.take i++l.drop (i+1))).map (l.getD i 0::·)
def ω:CK (Int×CK Int)->CK (CK (CK Int))
  |[]=>[[]]
  |m::r=>(uX m.2.length m.2).flatMap fun x=>(ω r).map (x::·)
def Bw (l:CK Int):BY (CK (CK Int)):=Û (decide (l.length<=9)) (some (uX l.length l))
def nM (l:CK (Int×CK Int)):BY (CK (CK (CK Int))):=Û (decide (l.length<=9)&&l.all fun m=>decide (m.2.length<=9)) (some (ω l))
abbrev aa:Ty:=(.slice Ç)
abbrev ab:Ty:=(.slice tI)
abbrev ac:Ty:=(.slice Ú)
abbrev ae:Ty:=(.slice Ù)
abbrev af:Ty:=(.slice χ)
abbrev ah:Ty:=(.slice ab)
abbrev ai:Ty:=(.pair tI (.pair tI (.pair ae (.pair aa (.pair af (.pair ac (.pair aa (.slice ĝ))))))))
abbrev aj:Ty:=(.slice ĝ)
abbrev ak:Ty:=(.slice ah)
abbrev am:Ty:=(.slice ę)
abbrev ao:Ty:=(.pair tI (.pair tI (.pair ae (.pair aa (.pair af (.pair ac aa))))))
abbrev aq:Ty:=(.pair tI (.pair tI (.pair tI (.pair ae (.pair aa (.pair af (.pair ac (.pair aa (.pair tI (.pair tI (.pair tI (.pair tI (.pair tI ę)))))))))))))
abbrev ar:Ty:=(.map tI Ù)
abbrev au:Ty:=(.map tI .bool)
abbrev aw:Ty:=(.pair tI (.pair tI (.pair ae (.pair aa (.pair af (.pair ac (.pair aa (.pair tI (.pair tI (.pair ab (.pair ab (.pair tI (.pair tI (.pair tI ĝ))))))))))))))
abbrev ax:Ty:=(.slice .bool)
abbrev ay:Ty:=(.ptr Â)
abbrev az:Ty:=(.pair tI (.pair ak ai))
abbrev aB:Ty:=(.pair tI ak)
abbrev aD:Ty:=(.pair tI (.pair tI (.pair ae (.pair aa (.pair af (.pair ac (.pair aa (.pair aj ai))))))))
abbrev aE:Ty:=(.pair ab tI)
abbrev aF:Ty:=(.pair tI (.pair tI (.pair ae (.pair aa (.pair af (.pair ac (.pair aa ĝ)))))))
abbrev aG:Ty:=(.pair tI ai)
abbrev aH:Ty:=(.pair tI (.pair tI (.pair tI (.pair ae (.pair aa (.pair af (.pair ac (.pair aa (.pair tI ę)))))))))
abbrev aI:Ty:=(.pair tI (.pair tI (.pair ae (.pair aa (.pair af (.pair ac (.pair aa (.pair aj ab))))))))
abbrev aJ:Ty:=(.pair tI (.pair tI (.pair ae (.pair aa (.pair af (.pair ac (.pair aa (.pair aj ak))))))))
abbrev aK:Ty:=(.pair ab (.pair tI (.pair tI (.pair tI (.pair ae (.pair aa (.pair af (.pair ac (.pair aa (.pair tI (.pair ab (.map tI tI))))))))))))
abbrev aL:Ty:=(.ptr ah)
abbrev aM:Ty:=(.pair tI ah)
abbrev aO:Ty:=(.pair tI Ô)
abbrev aP:Ty:=(.pair Ë Ç)
abbrev aQ:Ty:=(.pair tI (.pair tI ę))
abbrev aR:Ty:=(.pair tI aa)
abbrev aS:Ty:=(.pair Â ah)
abbrev aT:Ty:=(.pair tI Cw)
abbrev aU:Ty:=(.pair ax ab)
abbrev aV:Ty:=(.pair ab (.pair ax (.pair ab ab)))
abbrev aW:Ty:=(.pair tI (.pair tI (.pair tI (.pair tI (.pair tI az)))))
abbrev aX:Ty:=(.map tI Ç)
abbrev aY:Ty:=(.pair Ë Ú)
abbrev aZ:Ty:=(.pair tI ac)
abbrev ba:Ty:=(.pair ab (.pair tI (.pair tI aE)))
abbrev bc:Ty:=(.pair tI ĝ)
abbrev bf:Ty:=(.pair .bool ĝ)
abbrev bg:Ty:=(.pair .bool tI)
abbrev bh:Ty:=(.pair ab ĝ)
abbrev bi:Ty:=(.map tI tI)
abbrev bj:Ty:=(.pair aa (.pair tI (.pair tI (.pair tI (.pair tI aQ)))))
abbrev bm:Ty:=(.pair Ë tI)
abbrev bn:Ty:=(.pair ab (.pair aj ab))
abbrev bo:Ty:=(.pair tI (.pair tI aG))
abbrev bp:Ty:=(.pair Â Ç)
abbrev bq:Ty:=(.pair Ë (.pair ar tI))
abbrev br:Ty:=(.pair tI (.pair tI (.pair am Ô)))
abbrev an:=Val ab
abbrev a7:=Val ak
abbrev a8:=Val Â
abbrev bl:=Val aa
abbrev bx:=Val Ç
abbrev b5:=Val ah
abbrev b6:=Val Ë
abbrev c7:=Val ac
abbrev c9:=Val aj
abbrev fx:=Val ae
abbrev fy:=Val af
abbrev ge:=Val ĝ
abbrev hO:=Val am
abbrev im:=Val Ô
abbrev io:=Val aB
abbrev i4:=Val Ú
abbrev kw:=Val (.map tI Ù)
abbrev ly:=Val Ġ
abbrev lA:=Val mf
abbrev l7:=Val (.pair ab ab)
abbrev ni:=Val (.pair tI (.pair ab aU))
abbrev nj:=Val aE
abbrev nm:=Val aR
abbrev nn:=Val (.pair (.int .u64) (.int .u64))
abbrev pc:=Val (.pair tI (.slice tI))
abbrev pi:=Val Ù
abbrev px:=Val aM
abbrev py:=Val (.pair ab .bool)
abbrev qs:=Val ar
abbrev rd:=Val (.pair tI (.pair tI .bool))
abbrev rm:=Val (.pair ah tI)
abbrev rn:=Val (.pair ah aG)
abbrev rx:=Val (.pair tI az)
abbrev ry:=Val ę
abbrev r8:=Val (.pair Â (.pair ah Ç))
abbrev so:=Val (.pair χ .bool)
abbrev th:=Val (.pair ah .bool)
abbrev u5:=Val ai
abbrev u6:=Val (.slice tI)
abbrev u7:=Val χ
abbrev v6:=Val (.slice (.slice tI))
abbrev v8:=Val aS
abbrev wk:=Val az
abbrev wl:=Val aT
abbrev xa:=Val ax
abbrev xl:=Val (.pair ab aM)
abbrev x9:=Val (.pair Â ab)
abbrev y5:=Val (.pair tI aB)
abbrev y6:=Val (.pair tI af)
abbrev y8:=Val (.pair tI aU)
abbrev y9:=Val (.pair tI aZ)
abbrev An:=Val (.pair tI bc)
abbrev At:=Val (.pair am tI)
abbrev AN:=Val (.pair ak tI)
abbrev AS:=Val aP
abbrev BE:=Val (.pair .bool ab)
def Φ (d:b5) (e:Int) (b:Int) (a:Int) (f:Int->Int->BY ρ) (g:Int->BY ρ):BY ρ :=
  ifb (ilt a e) (ï d a fun h=>ck (b+(Õ h)) fun c=>ifb (ilt c 0) (none) (ck (a+(1:Int)) fun i=>f c i)) (g b)
def Ĥ (d:b5) (e:Int) (a:Int) (b:an) (f:Int->an->BY ρ) (g:an->BY ρ):BY ρ :=
  ifb (ilt a e) (ï d a fun c=>Û (ß ((List.length b)+(List.length c))) (ck (a+(1:Int)) fun h=>f h (b++c))) (g b)
def tq (a:b5) (k:an->BY ρ):BY ρ :=
  Ê (fun(c:bx) g=>Φ a (Õ a) c.1 c.2 (fun h i=>g (h,i)) (fun d=>ifb (ilt d 0) (none) (ck (d-(0:Int)) fun b=>ifb (igt b 0) (Û ((ilt 0 b)&&(ß (Int.toNat b))) (Û (ile 0 (ç (List.replicate (Int.toNat b) (0:Int)))) (Ê (fun(e:ge) j=>Ĥ a (Õ a) e.1 e.2 (fun l m=>j (l,m)) (fun n=>k n)) ((0:Int),(List.take 0 (List.replicate (Int.toNat b) (0:Int))))))) (Ê (fun(f:ge) o=>Ĥ a (Õ a) f.1 f.2 (fun p q=>o (p,q)) (fun r=>k r)) ((0:Int),[]))))) ((0:Int),(0:Int))
def Ī (a:b5):BY (an):=tq a some
def qX (al:b5) (rec:an->BY (b5)) (a:Int) (b:b5) (y:an) (c:b5->BY ρ):BY ρ :=
  Û (ß ((List.length ([a]))+(List.length y))) (yg al (b++[(([a])++y)]) (c (b++[(([a])++y)])))
def qY (al:b5) (rec:an->BY (b5)) (e:an) (f:Int) (b:an) (a:Int) (d:b5) (g:Int->b5->BY ρ) (h:b5->BY ρ):BY ρ :=
  ifb (ilt a f) (ï e a fun i=>Û ((ile 0 a)&&(ile a (ç b))) (ck (a+(1:Int)) fun c=>Û ((ile 0 c)&&(ile c (ç b))) (Ä (Ī ([(List.take (Int.toNat a) b),(List.drop (Int.toNat c) b)])) fun j=>Ä (rec j) fun k=>AO (fun(l:b5) (m:an) n=>qX al rec i l m (fun o=>n o)) k (d) (fun p=>ck (a+(1:Int)) fun q=>g q p)))) (h d)
def zB (al:b5) (rec:an->BY (b5)) (mm:an) (k:(b5)×(an)->BY ρ):BY ρ :=
  ifb (ieq (Õ mm) 0) (yg al (([])++[[]]) (k ((([])++[[]]),mm))) (Ê (fun(a:px) b=>qY al rec mm (Õ mm) mm a.1 a.2 (fun c d=>b (c,d)) (fun e=>k (e,mm))) ((0:Int),[]))
def nA (al:a7) (rec:c9->BY (a7)) (a:an) (b:a7) (y:b5) (c:a7->BY ρ):BY ρ :=
  Û (ß ((List.length ([a]))+(List.length y))) (yg al (b++[(([a])++y)]) (c (b++[(([a])++y)])))
def nB (al:a7) (rec:c9->BY (a7)) (a:c9) (b:a7) (y:an) (c:a7->BY ρ):BY ρ :=
  Û (ile 1 (ç a)) (Ä (rec (List.drop 1 a)) fun d=>AO (fun(e:a7) (f:b5) g=>nA al rec y e f (fun h=>g h)) d (b) (fun i=>c i))
def uC (al:a7) (rec:c9->BY (a7)) (mm:c9) (k:(a7)×(c9)->BY ρ):BY ρ :=
  ifb (ieq (Õ mm) 0) (yg al (([])++[[]]) (k ((([])++[[]]),mm))) (ï mm (0:Int) fun a=>Ä (Bw a.2) fun b=>AO (fun(c:a7) (d:an) e=>nB al rec mm c d (fun f=>e f)) b ([]) (fun g=>k (g,mm)))
def i9 (al:an) (rec:an->BY (an)) (d:an) (e:Int) (a:Int) (b:an) (f:Int->an->BY ρ) (g:an->BY ρ):BY ρ :=
  ifb (ilt a e) (ï d a fun c=>yg al (b++[c]) (ck (a+(1:Int)) fun h=>f h (b++[c]))) (g b)
def kL (al:an) (rec:an->BY (an)) (mm:an) (k:(an)×(an)->BY ρ):BY ρ :=
  Ê (fun(a:ge) b=>i9 al rec mm (Õ mm) a.1 a.2 (fun c d=>b (c,d)) (fun e=>k (e,mm))) ((0:Int),[])
def Tu (a:bx) (b:Int) (c:Int) (k:Bool->BY ρ):BY ρ :=
  ifb (ile b a.1) (ifb (ile a.1 a.2) (k (ile a.2 c)) (k false)) (k false)
def Ξ (a:bx) (b:Int) (c:Int):BY (Bool):=Tu a b c some
def Ts (a:Int) (b:Int) (c:Int) (k:Bool->BY ρ):BY ρ :=
  ifb (ile b a) (k (ile a c)) (k false)
def ġ (a:Int) (b:Int) (c:Int):BY (Bool):=Ts a b c some
def YU (a:Int) (k:Bool->BY ρ):BY ρ :=
  Ä (ġ a (0:Int) (20000:Int)) fun b=>k b
def mQ (a:Int):BY (Bool):=YU a some
def acV (a:Int) (k:Int->BY ρ):BY ρ :=
  ifb (ilt a 0) (k (IntKind.wrap .u64 (0-(IntKind.wrap .u64 a)))) (k (IntKind.wrap .u64 a))
def uq (a:Int):BY (Int):=acV a some
def Bs (b:Int) (a:Int) (c:Int->Int->BY ρ) (d:Int->BY ρ):BY ρ :=
  ifb (ine a 0) (ifb (mX a 0) (none) (c a (Int.tmod b a))) (d b)
def ahd (b:Int) (c:Int) (k:Int->BY ρ):BY ρ :=
  Ê (fun(a:nn) d=>Bs a.1 a.2 (fun e f=>d (e,f)) (fun g=>k g)) (b,c)
def PO (a:Int) (b:Int):BY (Int):=ahd a b some
def YP (a:bx) (k:Bool->BY ρ):BY ρ :=
  ifb (ige a.2 1) (ifb (ile a.2 2147483647) (Ä (uq a.1) fun b=>ifb (ile b 2147483647) (Ä (uq a.1) fun c=>Ä (uq a.2) fun d=>Ä (PO c d) fun e=>k (ieq e 1)) (k false)) (k false)) (k false)
def wp (a:bx):BY (Bool):=YP a some
def EQ (a:pi) (k:Bool->BY ρ):BY ρ :=
  Ä (wp a.2.2.2.2.1) fun b=>ifb b (Ä (ġ a.2.2.2.2.1.1 (-1000:Int) (1000:Int)) fun c=>ifb c (Ä (ġ a.1 (1:Int) (1099511627776:Int)) fun d=>ifb d (Ä (mQ a.2.1) fun e=>ifb e (Ä (ġ a.2.2.1 (1:Int) (1125899906842624:Int)) fun f=>ifb f (Ä (Ξ a.2.2.2.1 (-1073741824:Int) (1073741824:Int)) fun g=>ifb g (ifb (ile a.2.2.2.2.1.2 100) (Ä (ġ a.2.2.2.2.2 (0:Int) (1048576:Int)) fun h=>k h) (k false)) (k false)) (k false)) (k false)) (k false)) (Ä (ġ a.1 (1:Int) (1099511627776:Int)) fun i=>ifb i (Ä (mQ a.2.1) fun j=>ifb j (Ä (ġ a.2.2.1 (1:Int) (1125899906842624:Int)) fun l=>ifb l (Ä (Ξ a.2.2.2.1 (-1073741824:Int) (1073741824:Int)) fun m=>ifb m (k false) (k false)) (k false)) (k false)) (k false))) (Ä (ġ a.1 (1:Int) (1099511627776:Int)) fun n=>ifb n (Ä (mQ a.2.1) fun o=>ifb o (Ä (ġ a.2.2.1 (1:Int) (1125899906842624:Int)) fun p=>ifb p (Ä (Ξ a.2.2.2.1 (-1073741824:Int) (1073741824:Int)) fun q=>ifb q (k false) (k false)) (k false)) (k false)) (k false))
def xS (a:pi):BY (Bool):=EQ a some
def jC (e:fx) (f:Int) (g:fx) (a:Int) (b:Int->BY ρ) (c:Int->BY ρ) (h:Unit->BY ρ):BY ρ :=
  ifb (ilt a f) (ï e a fun d=>Ä (xS d) fun i=>ifb (!i) (c (1:Int)) (ifb (igt a 0) (ck (a-(1:Int)) fun j=>ï g j fun k=>ifb (ile d.1 k.1) (c (6:Int)) (ck (a+(1:Int)) fun l=>b l)) (ck (a+(1:Int)) fun m=>b m))) (h ())
def AF (a:b6) (k:Int->BY ρ):BY ρ :=
  Ê (fun(b:Int) c=>jC a.2.1 (Õ a.2.1) a.2.1 b (fun d=>c d) (fun e=>k e) (fun _=>k (0:Int))) (0:Int)
def Β (a:b6):BY (Int):=AF a some
def oh (d:fx) (e:Int) (a:Int) (b:qs) (f:Int->qs->BY ρ) (g:qs->BY ρ):BY ρ :=
  ifb (ilt a e) (ï d a fun c=>ck (a+(1:Int)) fun h=>f h (Nh (k:=tI) (v:=Ù) c.1 c b)) (g b)
def O7 (a:b6) (k:qs->BY ρ):BY ρ :=
  Ê (fun(b:(Val (.pair tI ar))) c=>oh a.2.1 (Õ a.2.1) b.1 b.2 (fun d e=>c (d,e)) (fun f=>k f)) ((0:Int),[])
def Ň (a:b6):BY (qs):=O7 a some
def ix (b:an) (c:Int) (d:Int) (a:Int) (e:Int->BY ρ) (f:Int->BY ρ) (g:Unit->BY ρ):BY ρ :=
  ifb (ilt a d) (ï b a fun h=>ifb (ieq c h) (f a) (ck (a+(1:Int)) fun i=>e i)) (g ())
def vC (a:an) (b:Int) (k:Int->BY ρ):BY ρ :=
  Ê (fun(c:Int) d=>ix a b (Õ a) c (fun e=>d e) (fun f=>k f) (fun _=>k (-1:Int))) (0:Int)
def iN (a:an) (b:Int):BY (Int):=vC a b some
def pC (a:an) (b:Int) (k:Bool->BY ρ):BY ρ :=
  Ä (iN a b) fun c=>k (ige c 0)
def è (a:an) (b:Int):BY (Bool):=pC a b some
def xw (f:c7) (g:Int) (d:Int) (a:Int) (b:an) (e:Int->an->BY ρ) (h:an->BY ρ):BY ρ :=
  ifb (ilt a g) (ï f a fun c=>Ä (è c.2.2.1 d) fun i=>Ä (è c.2.2.2.1 d) fun j=>ifb (!(i==j)) (Û (ß ((List.length b)+(List.length ([c.2.1])))) (ck (a+(1:Int)) fun k=>e k (b++([c.2.1])))) (ck (a+(1:Int)) fun l=>e l b)) (h b)
def xv (e:bl) (f:Int) (g:Int) (a:Int) (b:an) (d:Int->an->BY ρ) (h:an->BY ρ):BY ρ :=
  ifb (ilt a f) (ï e a fun c=>ifb (ieq c.1 g) (Û (ß ((List.length b)+(List.length ([c.2])))) (ck (a+(1:Int)) fun i=>d i (b++([c.2])))) (ck (a+(1:Int)) fun j=>d j b)) (h b)
def ac1 (a:b6) (b:pi) (k:an->BY ρ):BY ρ :=
  Ê (fun(d:ge) f=>xw a.2.2.2.2.1 (Õ a.2.2.2.2.1) b.1 d.1 d.2 (fun g h=>f (g,h)) (fun i=>Ê (fun(e:ge) j=>xv a.2.2.2.2.2 (Õ a.2.2.2.2.2) b.1 e.1 e.2 (fun l m=>j (l,m)) (fun c=>Û (ß (List.length c)) (Û (ß (List.length (yR c))) (k (BU (yR c)))))) ((0:Int),i))) ((0:Int),[b.2.1])
def qr (a:b6) (b:pi):BY (an):=ac1 a b some
def tX (e:an) (f:Int) (c:Int) (a:Int) (b:bl) (g:Int->bl->BY ρ) (h:bl->BY ρ):BY ρ :=
  ifb (ilt a f) (ï e a fun d=>Û (ß ((List.length b)+(List.length ([(c,d)])))) (ck (a+(1:Int)) fun i=>g i (b++([(c,d)])))) (h b)
def tY (f:fx) (g:Int) (h:Int) (i:Int) (j:fx) (k:bl) (l:fy) (m:c7) (n:bl) (a:Int) (b:bl) (o:Int->bl->BY ρ) (p:bl->BY ρ):BY ρ :=
  ifb (ilt a g) (ï f a fun c=>Ä (qr ((h,i),j,k,l,m,n) c) fun d=>Ê (fun(e:nm) q=>tX d (Õ d) c.1 e.1 e.2 (fun r s=>q (r,s)) (fun t=>ck (a+(1:Int)) fun u=>o u t)) ((0:Int),b)) (p b)
def YT (a:b6) (k:bl->BY ρ):BY ρ :=
  Ê (fun(b:nm) c=>tY a.2.1 (Õ a.2.1) a.1.1 a.1.2 a.2.1 a.2.2.1 a.2.2.2.1 a.2.2.2.2.1 a.2.2.2.2.2 b.1 b.2 (fun d e=>c (d,e)) (fun f=>k f)) ((0:Int),[])
def se (a:b6):BY (bl):=YT a some
def DJ (a:qs) (b:Int) (c:Int) (k:Int->BY ρ):BY ρ :=
  Qt (k:=tI) (v:=Ù) b a (fun d=>ifb (ilt c d.2.1) (k (4:Int)) (k (0:Int))) (k (5:Int))
def jw (a:qs) (b:Int) (c:Int):BY (Int):=DJ a b c some
def Pa (b:Int) (a:Int) (c:(Val (.ptr ar))) (k:Int->BY ρ):BY ρ :=
  Ä (mQ a) fun d=>ifb (!d) (k (1:Int)) (Ä (jw c b a) fun e=>k e)
def ň (a:Int) (b:Int) (c:(Val (.ptr ar))):BY (Int):=Pa a b c some
def lM (d:fy) (e:Int) (f:Int) (g:Int) (h:Int) (a:Int) (b:Int->BY ρ) (i:Int->BY ρ) (j:Unit->BY ρ):BY ρ :=
  ifb (ilt a e) (ï d a fun c=>ifb (ieq c.1 f) (ifb (ile c.2.1.1 h) (ifb (ile g c.2.1.2) (i a) (ck (a+(1:Int)) fun k=>b k)) (ck (a+(1:Int)) fun l=>b l)) (ck (a+(1:Int)) fun m=>b m)) (j ())
def Ν (d:bl) (e:Int) (f:Int) (g:Int) (h:Int) (a:Int) (b:Int->BY ρ) (i:Int->BY ρ) (j:Unit->BY ρ):BY ρ :=
  ifb (ilt a e) (ï d a fun c=>ifb (ieq c.1 f) (Ä (ġ c.2 g h) fun k=>ifb k (i a) (ck (a+(1:Int)) fun l=>b l)) (ck (a+(1:Int)) fun m=>b m)) (j ())
def xx (b:b6) (e:qs) (c:Int) (k:Int->BY ρ):BY ρ :=
  ï b.2.2.2.1 c fun a=>Ä (Ξ a.2.1 (0:Int) (20000:Int)) fun f=>ifb (!f) (k (1:Int)) (Ä (ġ a.2.2 (0:Int) (1048576:Int)) fun g=>ifb (!g) (k (1:Int)) (Ä (jw e a.1 a.2.1.1) fun d=>ifb (ine d 0) (k d) (Û ((ile 0 c)&&(ile c (ç b.2.2.2.1))) (Ê (fun(h:Int) i=>lM (List.take (Int.toNat c) b.2.2.2.1) (Õ (List.take (Int.toNat c) b.2.2.2.1)) a.1 a.2.1.1 a.2.1.2 h (fun j=>i j) (fun l=>ifb (ige l 0) (k (9:Int)) (Ê (fun(m:Int) n=>Ν b.2.2.1 (Õ b.2.2.1) a.1 a.2.1.1 a.2.1.2 m (fun o=>n o) (fun p=>ifb (ige p 0) (k (9:Int)) (k (0:Int))) (fun _=>k (0:Int))) (0:Int))) (fun _=>Ê (fun(q:Int) r=>Ν b.2.2.1 (Õ b.2.2.1) a.1 a.2.1.1 a.2.1.2 q (fun s=>r s) (fun t=>ifb (ige t 0) (k (9:Int)) (k (0:Int))) (fun _=>k (0:Int))) (0:Int))) (0:Int)))))
def ι (a:b6) (b:qs) (c:Int):BY (Int):=xx a b c some
def qg (e:an) (f:an) (g:Int) (a:Int) (b:Int->BY ρ) (c:Bool->BY ρ) (h:Unit->BY ρ):BY ρ :=
  ifb (ilt a g) (ï f a fun d=>Ä (ġ d (1:Int) (1099511627776:Int)) fun i=>ifb (!i) (c false) (ifb (igt a 0) (ck (a-(1:Int)) fun j=>ï e j fun k=>ifb (ile d k) (c false) (ck (a+(1:Int)) fun l=>b l)) (ck (a+(1:Int)) fun m=>b m))) (h ())
def Tt (a:an) (k:Bool->BY ρ):BY ρ :=
  Ê (fun(b:Int) c=>qg a a (Õ a) b (fun d=>c d) (fun e=>k e) (fun _=>k (ile (Õ a) 6))) (0:Int)
def nQ (a:an):BY (Bool):=Tt a some
def xu (c:Int) (d:an) (b:an) (a:Int) (e:Int->BY ρ) (f:Int->BY ρ) (g:Unit->BY ρ):BY ρ :=
  ifb (ilt a c) (Û ((ile 0 a)&&(ilt a (ç b))) (Ħ b (Int.toNat a) fun h=>Ä (è d h) fun i=>ifb i (f a) (ck (a+(1:Int)) fun j=>e j))) (g ())
def lS (f:an) (b:Int) (c:Int) (a:an) (d:Int->Int->an->BY ρ) (g:ge->BY ρ):BY ρ :=
  ifb (ilt c (Õ a)) (Û ((ile 0 c)&&(ilt c (ç a))) (Ħ a (Int.toNat c) fun e=>Ä (è f e) fun h=>ifb (!h) (Û ((ile 0 b)&&(ilt b (ç a))) (Ħ a (Int.toNat b) fun l=>ck (b+(1:Int)) fun i=>ck (c+(1:Int)) fun j=>d i j (List.set a (Int.toNat b) e))) (ck (c+(1:Int)) fun k=>d b k a))) (g (b,a))
def ac0 (b:an) (e:an) (k:an->BY ρ):BY ρ :=
  Û (ß (List.length b)) (Ê (fun(f:Int) g=>xu (Õ b) e b f (fun h=>g h) (fun c=>ifb (ieq c (-1:Int)) (k b) (ck (c+(1:Int)) fun i=>Ê (fun(d:Val bc) j=>lS e d.1 d.2.1 d.2.2 (fun l m n=>j (l,m,n)) (fun a=>Û ((ile 0 a.1)&&(ile a.1 (ç a.2))) (Û ((ile 0 a.1)&&(ile a.1 (ç (List.take (Int.toNat a.1) a.2++List.replicate (List.length a.2-(Int.toNat a.1)) (0:Int)++List.drop ((Int.toNat a.1)+(List.length a.2-(Int.toNat a.1))) a.2)))) (k (List.take (Int.toNat a.1) (List.drop 0 (List.take (Int.toNat a.1) a.2++List.replicate (List.length a.2-(Int.toNat a.1)) (0:Int)++List.drop ((Int.toNat a.1)+(List.length a.2-(Int.toNat a.1))) a.2))))))) (c,i,b))) (fun _=>k b)) (0:Int))
def θ (a:an) (b:an):BY (an):=ac0 a b some
def xy (d:fy) (e:Int) (f:Int) (g:Int) (a:Int) (c:Int->BY ρ) (h:Int->BY ρ) (i:Unit->BY ρ):BY ρ :=
  ifb (ilt a e) (ï d a fun b=>ifb (ieq b.1 f) (Ä (ġ g b.2.1.1 b.2.1.2) fun j=>ifb j (h a) (ck (a+(1:Int)) fun k=>c k)) (ck (a+(1:Int)) fun l=>c l)) (i ())
def ac2 (a:b6) (c:Int) (d:Int) (k:so->BY ρ):BY ρ :=
  Ê (fun(e:Int) f=>xy a.2.2.2.1 (Õ a.2.2.2.1) c d e (fun g=>f g) (fun b=>ifb (ilt b 0) (k (((0:Int),((0:Int),(0:Int)),(0:Int)),false)) (ï a.2.2.2.1 b fun h=>k (h,true))) (fun _=>k (((0:Int),((0:Int),(0:Int)),(0:Int)),false))) (0:Int)
def xT (a:b6) (b:Int) (c:Int):BY (so):=ac2 a b c some
def jc (b:c7) (c:Int) (d:Int) (a:Int) (e:Int->BY ρ) (f:Int->BY ρ) (g:Unit->BY ρ):BY ρ :=
  ifb (ilt a c) (ï b a fun h=>ifb (ieq h.1 d) (f a) (ck (a+(1:Int)) fun i=>e i)) (g ())
def jb (c:qs) (b:Int) (d:an) (e:Int) (f:Int) (a:Int) (g:Int->BY ρ) (h:Int->BY ρ) (i:Unit->BY ρ):BY ρ :=
  ifb (ilt a e) (ï d a fun j=>Ä (jw c j f) fun k=>ifb (ieq k b) (h b) (ck (a+(1:Int)) fun l=>g l)) (i ())
def ř (d:qs) (b:an) (e:Int) (f:Int) (c:an) (a:Int) (g:Int->BY ρ) (h:Int->BY ρ) (i:Unit->BY ρ):BY ρ :=
  ifb (ilt a e) (Û ((ile 0 a)&&(ilt a (ç c))) (Ħ c (Int.toNat a) fun j=>Ê (fun(k:Int) l=>jb d j b (Õ b) f k (fun m=>l m) (fun n=>h n) (fun _=>ck (a+(1:Int)) fun o=>g o)) (0:Int))) (i ())
def Ř (b:an) (c:Int) (d:Int) (e:Int) (f:fx) (g:bl) (h:fy) (i:c7) (j:bl) (k:Int) (a:Int) (l:Int->BY ρ) (m:Int->BY ρ) (n:Unit->BY ρ):BY ρ :=
  ifb (ilt a c) (ï b a fun o=>Ä (xT ((d,e),f,g,h,i,j) o k) fun p=>ifb p.2 (m (9:Int)) (ck (a+(1:Int)) fun q=>l q)) (n ())
def pu (b:b6) (f:qs) (c:Int) (k:Int->BY ρ):BY ρ :=
  ï b.2.2.2.2.1 c fun a=>Ä (ġ a.1 (1:Int) (1099511627776:Int)) fun l=>ifb (!l) (k (1:Int)) (Ä (mQ a.2.1) fun m=>ifb (!m) (k (1:Int)) (Ä (ġ a.2.2.2.2.1 (-1125899906842624:Int) (1125899906842624:Int)) fun n=>ifb (!n) (k (1:Int)) (Ä (ġ a.2.2.2.2.2.1 (0:Int) (1073741824:Int)) fun o=>ifb (!o) (k (1:Int)) (Ä (Ξ a.2.2.2.2.2.2 (-10000:Int) (10000:Int)) fun p=>ifb (!p) (k (1:Int)) (Ä (nQ a.2.2.1) fun q=>ifb (!q) (k (1:Int)) (Ä (nQ a.2.2.2.1) fun r=>ifb (!r) (k (1:Int)) (Û ((ile 0 c)&&(ile c (ç b.2.2.2.2.1))) (Ê (fun(s:Int) t=>jc (List.take (Int.toNat c) b.2.2.2.2.1) (Õ (List.take (Int.toNat c) b.2.2.2.2.1)) a.1 s (fun u=>t u) (fun v=>ifb (ige v 0) (k (6:Int)) (Ä (Ī ([a.2.2.1,a.2.2.2.1])) fun d=>Ê (fun(w:Int) x=>ř f d (Õ ([(5:Int),(4:Int)])) a.2.1 ([(5:Int),(4:Int)]) w (fun y=>x y) (fun z=>k z) (fun _=>Ê (fun(A:Int) B=>Ř d (Õ d) b.1.1 b.1.2 b.2.1 b.2.2.1 b.2.2.2.1 b.2.2.2.2.1 b.2.2.2.2.2 a.2.1 A (fun C=>B C) (fun D=>k D) (fun _=>Ä (θ a.2.2.1 a.2.2.2.1) fun g=>Ä (θ a.2.2.2.1 a.2.2.1) fun h=>ifb (igt (Õ g) 1) (k (1:Int)) (ifb (igt (Õ h) 1) (k (1:Int)) (ck ((Õ g)+(Õ h)) fun E=>ifb (ieq E 0) (k (1:Int)) (k (0:Int)))))) (0:Int))) (0:Int))) (fun _=>Ä (Ī ([a.2.2.1,a.2.2.2.1])) fun e=>Ê (fun(F:Int) G=>ř f e (Õ ([(5:Int),(4:Int)])) a.2.1 ([(5:Int),(4:Int)]) F (fun H=>G H) (fun I=>k I) (fun _=>Ê (fun(J:Int) K=>Ř e (Õ e) b.1.1 b.1.2 b.2.1 b.2.2.1 b.2.2.2.1 b.2.2.2.2.1 b.2.2.2.2.2 a.2.1 J (fun L=>K L) (fun M=>k M) (fun _=>Ä (θ a.2.2.1 a.2.2.2.1) fun i=>Ä (θ a.2.2.2.1 a.2.2.1) fun j=>ifb (igt (Õ i) 1) (k (1:Int)) (ifb (igt (Õ j) 1) (k (1:Int)) (ck ((Õ i)+(Õ j)) fun N=>ifb (ieq N 0) (k (1:Int)) (k (0:Int)))))) (0:Int))) (0:Int))) (0:Int)))))))))
def Ŏ (a:b6) (b:qs) (c:Int):BY (Int):=pu a b c some
def pb (b:b6) (s:qs):BY (CK Int) :=
  Ä (No (fun u=>ň u.1 u.2 s) (b.2.2.1:CK (Int×Int))) fun a=>Ä (No (fun i=>ι b s i) (yN (b.2.2.2.1:CK u7).length)) fun c =>
    Ä (No (fun i=>Ŏ b s i) (yN (b.2.2.2.2.1:CK i4).length)) fun d=>Ä (No (fun u=>ň u.1 u.2 s) (b.2.2.2.2.2:CK (Int×Int))) fun e=>some (a++(c++(d++e)))
def Ph (a:b6) (k:Int->BY ρ):BY ρ :=
  Ä (Ξ a.1 (0:Int) (1000000:Int)) fun d=>ifb (!d) (k (1:Int)) (ifb (igt (Õ a.2.1) 12) (k (2:Int)) (ifb (igt (Õ a.2.2.1) 40) (k (2:Int)) (ifb (igt (Õ a.2.2.2.1) 12) (k (2:Int)) (ifb (igt (Õ a.2.2.2.2.1) 40) (k (2:Int)) (ifb (igt (Õ a.2.2.2.2.2) 10) (k (2:Int)) (Ä (Β a) fun b=>ifb (ine b 0) (k b) (Ä (Ň a) fun e=>Xa (pb a e) (fun f=>k f) (Ä (se a) fun c=>ifb (igt (Õ c) 59) (k (2:Int)) (ck ((2:Int)*(Õ a.2.1)) fun g=>ck ((Õ c)-(Õ a.2.1)) fun h=>ck ((2:Int)*h) fun i=>ck (g+i) fun j=>ck ((2:Int)*(Õ a.2.2.2.2.1)) fun l=>ck (j+l) fun m=>ifb (igt m 300) (k (2:Int)) (k (0:Int)))))))))))
def κ (a:b6):BY (Int):=Ph a some
def HN (a:CK Int):BY (Int×Int×Int×Int×Int):=some (a.getD 0 0,a.getD 1 0,a.getD 2 0,a.getD 3 0,a.getD 4 0)
def pL (b:c7) (a:Int) (e:Int->BY ρ) (c:Bool->BY ρ) (d:Unit->BY ρ):BY ρ :=
  ifb (ilt a (Õ b)) (ifb (ilt a 60) (ï b a fun f=>ifb (igt (Õ f.2.2.1) 9) (c false) (ï b a fun g=>ifb (igt (Õ g.2.2.2.1) 9) (c false) (ck (a+(1:Int)) fun h=>e h))) (d ())) (d ())
def mw (b:c9) (a:Int) (d:Int->BY ρ) (e:Bool->BY ρ) (c:Unit->BY ρ):BY ρ :=
  ifb (ilt a (Õ b)) (ifb (ilt a 8) (ï b a fun f=>ifb (igt (Õ f.2) 9) (e false) (ck (a+(1:Int)) fun g=>d g)) (c ())) (c ())
def SQ (a:a8) (k:Bool->BY ρ):BY ρ :=
  Ê (fun(b:Int) c=>pL a.1.2.2.2.2.1 b (fun d=>c d) (fun e=>k e) (fun _=>Ê (fun(f:Int) g=>mw a.2 f (fun h=>g h) (fun i=>k i) (fun _=>ifb (ile (Õ a.1.2.1) 6) (ifb (ile (Õ a.1.2.2.1) 20) (ifb (ile (Õ a.1.2.2.2.1) 6) (ifb (ile (Õ a.1.2.2.2.2.1) 8) (ifb (ile (Õ a.1.2.2.2.2.2) 6) (k (ile (Õ a.2) 6)) (k false)) (k false)) (k false)) (k false)) (k false))) (0:Int))) (0:Int)
def Bz (a:a8):BY (Bool):=SQ a some
def t8 (b:an) (c:Int) (a:Int) (d:Int->BY ρ) (e:Int->BY ρ) (f:Unit->BY ρ):BY ρ :=
  ifb (ilt a c) (ï b a fun g=>Ä (mQ g) fun h=>ifb (!h) (e a) (ck (a+(1:Int)) fun i=>d i)) (f ())
def YY (a:b6) (b:Int) (c:an) (k:Int->BY ρ):BY ρ :=
  Ä (κ a) fun d=>ifb (ine d 0) (k d) (Ê (fun(e:Int) f=>t8 c (Õ c) e (fun g=>f g) (fun h=>ifb (ige h 0) (k (1:Int)) (Ä (Ň a) fun i=>Qt (k:=tI) (v:=Ù) b i (fun l=>k (0:Int)) (k (5:Int)))) (fun _=>Ä (Ň a) fun j=>Qt (k:=tI) (v:=Ù) b j (fun m=>k (0:Int)) (k (5:Int)))) (0:Int))
def Ic (a:b6) (b:Int) (c:an):BY (Int):=YY a b c some
def ac4 (a:b6) (b:Int) (c:Int) (k:Val bg->BY ρ):BY ρ :=
  Ä (Ic a b ([c])) fun d=>ifb (ine d 0) (k (false,d)) (Ä (xT a b c) fun e=>k (e.2,(0:Int)))
def BQ (a:b6) (b:Int) (c:Int):BY ((Val bg)):=ac4 a b c some
def ox (b:an) (a:Int) (c:Int->BY ρ) (d:Int->BY ρ) (e:Unit->BY ρ):BY ρ :=
  ifb (ilt a (Õ b)) (ï b a fun f=>ck (a-(1:Int)) fun g=>ï b g fun h=>ifb (ile f h) (d (1:Int)) (ck (a+(1:Int)) fun i=>c i)) (e ())
def ow (d:fx) (e:Int) (a:Int) (b:Val bi) (f:Int->Val bi->BY ρ) (g:Val bi->BY ρ):BY ρ :=
  ifb (ilt a e) (ï d a fun c=>ck (a+(1:Int)) fun h=>f h (Nh (k:=tI) (v:=tI) c.1 c.2.1 b)) (g b)
def ov (b:an) (c:Int) (d:Val bi) (a:Int) (e:Int->BY ρ) (f:Int->BY ρ) (g:Unit->BY ρ):BY ρ :=
  ifb (ilt a c) (ï b a fun h=>Qt (k:=tI) (v:=tI) h d (fun j=>ck (a+(1:Int)) fun i=>e i) (f a)) (g ())
def l6 (e:an) (f:Int) (b:Int) (g:Val bi) (a:Int) (c:Int->BY ρ) (d:Int->BY ρ) (h:Unit->BY ρ):BY ρ :=
  ifb (ilt a f) (ï e a fun i=>Qt (k:=tI) (v:=tI) i g (fun j=>ifb (ilt b j) (d a) (ck (a+(1:Int)) fun l=>c l)) (ifb (ilt b 0) (d a) (ck (a+(1:Int)) fun m=>c m))) (h ())
def Ō (l:an) (m:Int) (b:Int) (c:Int) (d:fx) (e:bl) (f:fy) (g:c7) (h:bl) (i:Int) (a:Int) (n:Int->BY ρ) (j:Int->BY ρ) (o:Unit->BY ρ):BY ρ :=
  ifb (ilt a m) (ï l a fun k=>Ä (BQ ((b,c),d,e,f,g,h) k i) fun p=>ck (i+(1:Int)) fun q=>Ä (BQ ((b,c),d,e,f,g,h) k q) fun r=>ifb p.1 (j a) (ifb r.1 (j a) (ck (a+(1:Int)) fun s=>n s))) (o ())
def NI (a:b6) (d:c9) (c:Int) (k:Int->BY ρ):BY ρ :=
  ï d c fun b=>ifb (ilt b.1 0) (k (1:Int)) (ifb (ige b.1 20000) (k (1:Int)) (ifb (ilt (Õ b.2) 2) (k (1:Int)) (ifb (igt (Õ b.2) 5) (k (1:Int)) (Ê (fun(g:Int) h=>ox b.2 g (fun i=>h i) (fun j=>k j) (fun _=>Ê (fun(f:(Val (.pair tI bi))) l=>ow a.2.1 (Õ a.2.1) f.1 f.2 (fun m n=>l (m,n)) (fun e=>Ê (fun(o:Int) p=>ov b.2 (Õ b.2) e o (fun q=>p q) (fun r=>ifb (ige r 0) (k (5:Int)) (Ê (fun(s:Int) t=>l6 b.2 (Õ b.2) b.1 e s (fun u=>t u) (fun v=>ifb (ige v 0) (k (4:Int)) (ifb (igt c 0) (ck (c-(1:Int)) fun w=>ï d w fun x=>ifb (ile b.1 x.1) (k (6:Int)) (Ê (fun(y:Int) z=>Ō b.2 (Õ b.2) a.1.1 a.1.2 a.2.1 a.2.2.1 a.2.2.2.1 a.2.2.2.2.1 a.2.2.2.2.2 b.1 y (fun A=>z A) (fun B=>ifb (ige B 0) (k (9:Int)) (k (0:Int))) (fun _=>k (0:Int))) (0:Int))) (Ê (fun(C:Int) D=>Ō b.2 (Õ b.2) a.1.1 a.1.2 a.2.1 a.2.2.1 a.2.2.2.1 a.2.2.2.2.1 a.2.2.2.2.2 b.1 C (fun E=>D E) (fun F=>ifb (ige F 0) (k (9:Int)) (k (0:Int))) (fun _=>k (0:Int))) (0:Int)))) (fun _=>ifb (igt c 0) (ck (c-(1:Int)) fun G=>ï d G fun H=>ifb (ile b.1 H.1) (k (6:Int)) (Ê (fun(I:Int) J=>Ō b.2 (Õ b.2) a.1.1 a.1.2 a.2.1 a.2.2.1 a.2.2.2.1 a.2.2.2.2.1 a.2.2.2.2.2 b.1 I (fun K=>J K) (fun L=>ifb (ige L 0) (k (9:Int)) (k (0:Int))) (fun _=>k (0:Int))) (0:Int))) (Ê (fun(M:Int) N=>Ō b.2 (Õ b.2) a.1.1 a.1.2 a.2.1 a.2.2.1 a.2.2.2.1 a.2.2.2.2.1 a.2.2.2.2.2 b.1 M (fun O=>N O) (fun P=>ifb (ige P 0) (k (9:Int)) (k (0:Int))) (fun _=>k (0:Int))) (0:Int)))) (0:Int))) (fun _=>Ê (fun(Q:Int) R=>l6 b.2 (Õ b.2) b.1 e Q (fun S=>R S) (fun T=>ifb (ige T 0) (k (4:Int)) (ifb (igt c 0) (ck (c-(1:Int)) fun U=>ï d U fun V=>ifb (ile b.1 V.1) (k (6:Int)) (Ê (fun(W:Int) X=>Ō b.2 (Õ b.2) a.1.1 a.1.2 a.2.1 a.2.2.1 a.2.2.2.1 a.2.2.2.2.1 a.2.2.2.2.2 b.1 W (fun Y=>X Y) (fun Z=>ifb (ige Z 0) (k (9:Int)) (k (0:Int))) (fun _=>k (0:Int))) (0:Int))) (Ê (fun(dc:Int) de=>Ō b.2 (Õ b.2) a.1.1 a.1.2 a.2.1 a.2.2.1 a.2.2.2.1 a.2.2.2.2.1 a.2.2.2.2.2 b.1 dc (fun df=>de df) (fun dg=>ifb (ige dg 0) (k (9:Int)) (k (0:Int))) (fun _=>k (0:Int))) (0:Int)))) (fun _=>ifb (igt c 0) (ck (c-(1:Int)) fun dh=>ï d dh fun di=>ifb (ile b.1 di.1) (k (6:Int)) (Ê (fun(dj:Int) dk=>Ō b.2 (Õ b.2) a.1.1 a.1.2 a.2.1 a.2.2.1 a.2.2.2.1 a.2.2.2.2.1 a.2.2.2.2.2 b.1 dj (fun dl=>dk dl) (fun dm=>ifb (ige dm 0) (k (9:Int)) (k (0:Int))) (fun _=>k (0:Int))) (0:Int))) (Ê (fun(dp:Int) dq=>Ō b.2 (Õ b.2) a.1.1 a.1.2 a.2.1 a.2.2.1 a.2.2.2.1 a.2.2.2.2.1 a.2.2.2.2.2 b.1 dp (fun dr=>dq dr) (fun dt=>ifb (ige dt 0) (k (9:Int)) (k (0:Int))) (fun _=>k (0:Int))) (0:Int)))) (0:Int))) (0:Int))) ((0:Int),[]))) (1:Int)))))
def HP (a:b6) (b:c9) (c:Int):BY (Int):=NI a b c some
def oy (c:Int) (b:Int) (a:Int) (d:Int->Int->BY ρ) (e:Int->BY ρ):BY ρ :=
  ifb (ilt a c) (ck (a+(1:Int)) fun f=>ck (b*f) fun g=>ck (a+(1:Int)) fun h=>d g h) (e b)
def tp (e:c9) (f:Int) (g:Int) (h:Int) (i:fx) (j:bl) (k:fy) (l:c7) (m:bl) (n:c9) (b:Int) (a:Int) (o:Int->Int->BY ρ) (p:Int->BY ρ) (q:Int->BY ρ):BY ρ :=
  ifb (ilt a f) (ï e a fun r=>Ä (HP ((g,h),i,j,k,l,m) n a) fun c=>ifb (ine c 0) (p c) (Ê (fun(d:bx) s=>oy (Õ r.2) d.1 d.2 (fun t u=>s (t,u)) (fun v=>ck (a+(1:Int)) fun w=>o v w)) (b,(0:Int)))) (q b)
def Yg (a:a8) (k:Int->BY ρ):BY ρ :=
  Ä (κ a.1) fun b=>ifb (ine b 0) (k b) (ifb (igt (Õ a.2) 4) (k (2:Int)) (Ê (fun(c:bx) d=>tp a.2 (Õ a.2) a.1.1.1 a.1.1.2 a.1.2.1 a.1.2.2.1 a.1.2.2.2.1 a.1.2.2.2.2.1 a.1.2.2.2.2.2 a.2 c.1 c.2 (fun e f=>d (e,f)) (fun g=>k g) (fun h=>ifb (igt h 150) (k (2:Int)) (k (0:Int)))) ((1:Int),(0:Int))))
def ζ (a:a8):BY (Int):=Yg a some
def AC (a:Int) (k:Bool->BY ρ):BY ρ :=
  k (ine a a)
def mP (a:Int):BY (Bool):=AC a some
def vO (a:Int) (b:Int) (k:Int->BY ρ):BY ρ :=
  Ä (mP a) fun d=>Ä (mP b) fun c=>ifb d (ifb c (k (0:Int)) (k (-1:Int))) (ifb c (k (1:Int)) (ifb (ilt a b) (k (-1:Int)) (ifb (igt a b) (k (1:Int)) (k (0:Int)))))
def iP (a:Int) (b:Int):BY (Int):=vO a b some
def pM (d:Int) (e:an) (f:Int) (g:c9) (b:Int) (a:Int) (c:Int->Int->BY ρ) (h:Int->BY ρ):BY ρ :=
  ifb (ilt a f) (ï e a fun i=>ï g d fun j=>ï j.2 a fun k=>ifb (ine k i) (ck (b+(1:Int)) fun l=>ck (a+(1:Int)) fun m=>c l m) (ck (a+(1:Int)) fun n=>c b n)) (h b)
def pN (e:b5) (f:Int) (g:c9) (b:Int) (a:Int) (h:Int->Int->BY ρ) (i:Int->BY ρ):BY ρ :=
  ifb (ilt a f) (ï e a fun c=>Ê (fun(d:bx) j=>pM a c (Õ c) g d.1 d.2 (fun k l=>j (k,l)) (fun m=>ck (a+(1:Int)) fun n=>h m n)) (b,(0:Int))) (i b)
def SS (c:a8) (a:b5) (k:Int->BY ρ):BY ρ :=
  Ê (fun(b:bx) d=>pN a (Õ a) c.2 b.1 b.2 (fun e f=>d (e,f)) (fun g=>k g)) ((0:Int),(0:Int))
def Ĺ (a:a8) (b:b5):BY (Int):=SS a b some
def SU (b:b5) (c:b5) (a:Val ay) (k:Int->BY ρ):BY ρ :=
  Ä (Ĺ a b) fun d=>Ä (Ĺ a c) fun e=>Ä (iP d e) fun f=>k f
def ks (a:b5) (b:b5) (c:Val ay):BY (Int):=SU a b c some
def í (h:Int) (i:Int) (j:Int) (k:fx) (l:bl) (m:fy) (n:c7) (o:bl) (p:c9) (a:Int) (b:a7) (q:Int->a7->BY ρ) (g:a7->BY ρ):BY ρ :=
  ifb (igt a h) (Û ((ile 0 a)&&(ilt a (ç b))) (Ħ b (Int.toNat a) fun r=>ck (a-(1:Int)) fun d=>Û ((ile 0 d)&&(ilt d (ç b))) (Ħ b (Int.toNat d) fun s=>Ä (ks r s (((i,j),k,l,m,n,o),p)) fun t=>ifb (ilt t 0) (ck (a-(1:Int)) fun c=>ck (a-(1:Int)) fun e=>Û ((ile 0 e)&&(ilt e (ç b))) (Ħ b (Int.toNat e) fun f=>Û ((ile 0 a)&&(ilt a (ç b))) (Ħ b (Int.toNat a) fun u=>Û ((ile 0 a)&&(ilt a (ç b))) (Ħ b (Int.toNat a) fun w=>Û ((ile 0 c)&&(ilt c (ç (List.set b (Int.toNat a) f)))) (Ħ (List.set b (Int.toNat a) f) (Int.toNat c) fun x=>ck (a-(1:Int)) fun v=>q v (List.set (List.set b (Int.toNat a) f) (Int.toNat c) u)))))) (g b)))) (g b)
def Đ (d:Int) (e:Int) (f:Int) (g:Int) (h:fx) (i:bl) (j:fy) (k:c7) (l:bl) (m:c9) (a:Int) (b:a7) (n:Int->a7->BY ρ) (o:a7->BY ρ):BY ρ :=
  ifb (ilt a e) (Ê (fun(c:io) p=>í d f g h i j k l m c.1 c.2 (fun q r=>p (q,r)) (fun s=>ck (a+(1:Int)) fun t=>n t s)) (a,b)) (o b)
def ű (c:a7) (a:Int) (d:Int) (mm:a8) (k:(a7)×a8->BY ρ):BY ρ :=
  ck (a+(1:Int)) fun e=>Ê (fun(b:io) f=>Đ a d mm.1.1.1 mm.1.1.2 mm.1.2.1 mm.1.2.2.1 mm.1.2.2.2.1 mm.1.2.2.2.2.1 mm.1.2.2.2.2.2 mm.2 b.1 b.2 (fun g h=>f (g,h)) (fun i=>k (i,mm))) (e,c)
def ì (a:a7) (b:Int) (c:Int) (mm:a8):BY ((a7)×a8):=ű a b c mm some
def ď (h:Int) (i:Int) (j:Int) (b:Int) (a:a7) (k:Int->a7->BY ρ) (l:a7->BY ρ):BY ρ :=
  ifb (ilt b j) (ck (h+b) fun c=>ck (i+b) fun d=>ck (i+b) fun e=>Û ((ile 0 e)&&(ilt e (ç a))) (Ħ a (Int.toNat e) fun f=>ck (h+b) fun g=>Û ((ile 0 g)&&(ilt g (ç a))) (Ħ a (Int.toNat g) fun m=>Û ((ile 0 c)&&(ilt c (ç a))) (Ħ a (Int.toNat c) fun o=>Û ((ile 0 d)&&(ilt d (ç (List.set a (Int.toNat c) f)))) (Ħ (List.set a (Int.toNat c) f) (Int.toNat d) fun p=>ck (b+(1:Int)) fun n=>k n (List.set (List.set a (Int.toNat c) f) (Int.toNat d) m)))))) (l a)
def iK (h:Int) (i:Int) (j:Int) (b:Int) (a:a7) (k:Int->a7->BY ρ) (l:a7->BY ρ):BY ρ :=
  ifb (ilt b j) (ck (h+b) fun c=>ck (i+b) fun d=>ck (i+b) fun e=>Û ((ile 0 e)&&(ilt e (ç a))) (Ħ a (Int.toNat e) fun f=>ck (h+b) fun g=>Û ((ile 0 g)&&(ilt g (ç a))) (Ħ a (Int.toNat g) fun m=>Û ((ile 0 c)&&(ilt c (ç a))) (Ħ a (Int.toNat c) fun o=>Û ((ile 0 d)&&(ilt d (ç (List.set a (Int.toNat c) f)))) (Ħ (List.set a (Int.toNat c) f) (Int.toNat d) fun p=>ck (b+(1:Int)) fun n=>k n (List.set (List.set a (Int.toNat c) f) (Int.toNat d) m)))))) (l a)
def ķ (c:Int) (a:Int) (b:Int) (d:a7) (e:Int->Int->a7->BY ρ) (h:io->BY ρ):BY ρ :=
  ifb (ine a b) (ifb (igt a b) (ck (c-a) fun i=>Ê (fun(f:io) j=>ď i c b f.1 f.2 (fun k l=>j (k,l)) (fun m=>ck (a-b) fun n=>e n b m)) ((0:Int),d)) (ck (c-a) fun o=>ck (c+b) fun p=>ck (p-a) fun q=>Ê (fun(g:io) r=>iK o q a g.1 g.2 (fun s t=>r (s,t)) (fun u=>ck (b-a) fun v=>e a v u)) ((0:Int),d))) (h (a,d))
def iJ (h:Int) (i:Int) (j:Int) (b:Int) (a:a7) (k:Int->a7->BY ρ) (l:a7->BY ρ):BY ρ :=
  ifb (ilt b j) (ck (h+b) fun c=>ck (i+b) fun d=>ck (i+b) fun e=>Û ((ile 0 e)&&(ilt e (ç a))) (Ħ a (Int.toNat e) fun f=>ck (h+b) fun g=>Û ((ile 0 g)&&(ilt g (ç a))) (Ħ a (Int.toNat g) fun m=>Û ((ile 0 c)&&(ilt c (ç a))) (Ħ a (Int.toNat c) fun o=>Û ((ile 0 d)&&(ilt d (ç (List.set a (Int.toNat c) f)))) (Ħ (List.set a (Int.toNat c) f) (Int.toNat d) fun p=>ck (b+(1:Int)) fun n=>k n (List.set (List.set a (Int.toNat c) f) (Int.toNat d) m)))))) (l a)
def jJ (e:a7) (f:Int) (a:Int) (g:Int) (mm:a8) (k:(a7)×a8->BY ρ):BY ρ :=
  ck (a-f) fun h=>ck (g-a) fun i=>Ê (fun(b:y5) j=>ķ a b.1 b.2.1 b.2.2 (fun l m n=>j (l,m,n)) (fun c=>ck (a-c.1) fun o=>Ê (fun(d:io) p=>iJ o a c.1 d.1 d.2 (fun q r=>p (q,r)) (fun s=>k (s,mm))) ((0:Int),c.2))) (h,i,e)
def Ļ (a:a7) (b:Int) (c:Int) (d:Int) (mm:a8):BY ((a7)×a8):=jJ a b c d mm some
def ÿ (rec:a7->Int->Int->Int->a8->BY (a7×a8)) (d:Int) (b:a7) (g:Int) (h:Int) (i:fx) (j:bl) (k:fy) (l:c7) (m:bl) (n:c9) (c:Int) (e:Int) (f:Int->Int->BY ρ) (o:Int->BY ρ):BY ρ :=
  ifb (ilt c e) (ck (c+e) fun a=>Û ((ile 0 (IntKind.wrap .i64 (iX .u64 (IntKind.wrap .u64 a) (1:Int))))&&(ilt (IntKind.wrap .i64 (iX .u64 (IntKind.wrap .u64 a) (1:Int))) (ç b))) (Ħ b (Int.toNat (IntKind.wrap .i64 (iX .u64 (IntKind.wrap .u64 a) (1:Int)))) fun p=>Û ((ile 0 d)&&(ilt d (ç b))) (Ħ b (Int.toNat d) fun q=>Ä (ks p q (((g,h),i,j,k,l,m),n)) fun r=>ifb (ilt r 0) (ck ((IntKind.wrap .i64 (iX .u64 (IntKind.wrap .u64 a) (1:Int)))+(1:Int)) fun s=>f s e) (f c (IntKind.wrap .i64 (iX .u64 (IntKind.wrap .u64 a) (1:Int))))))) (o c)
def ô (rec:a7->Int->Int->Int->a8->BY (a7×a8)) (f:Int) (a:Int) (b:a7) (g:Int->a7->BY ρ) (h:a7->BY ρ):BY ρ :=
  ck (f-(1:Int)) fun i=>ifb (ilt a i) (ck (a+(1:Int)) fun c=>ck (a+(1:Int)) fun d=>Û ((ile 0 d)&&(ilt d (ç b))) (Ħ b (Int.toNat d) fun e=>Û ((ile 0 a)&&(ilt a (ç b))) (Ħ b (Int.toNat a) fun j=>Û ((ile 0 a)&&(ilt a (ç b))) (Ħ b (Int.toNat a) fun l=>Û ((ile 0 c)&&(ilt c (ç (List.set b (Int.toNat a) e)))) (Ħ (List.set b (Int.toNat a) e) (Int.toNat c) fun m=>ck (a+(1:Int)) fun k=>g k (List.set (List.set b (Int.toNat a) e) (Int.toNat c) j)))))) (h b)
def þ (rec:a7->Int->Int->Int->a8->BY (a7×a8)) (d:Int) (b:a7) (g:Int) (h:Int) (i:fx) (j:bl) (k:fy) (l:c7) (m:bl) (n:c9) (c:Int) (e:Int) (f:Int->Int->BY ρ) (o:Int->BY ρ):BY ρ :=
  ifb (ilt c e) (ck (c+e) fun a=>Û ((ile 0 d)&&(ilt d (ç b))) (Ħ b (Int.toNat d) fun p=>Û ((ile 0 (IntKind.wrap .i64 (iX .u64 (IntKind.wrap .u64 a) (1:Int))))&&(ilt (IntKind.wrap .i64 (iX .u64 (IntKind.wrap .u64 a) (1:Int))) (ç b))) (Ħ b (Int.toNat (IntKind.wrap .i64 (iX .u64 (IntKind.wrap .u64 a) (1:Int)))) fun q=>Ä (ks p q (((g,h),i,j,k,l,m),n)) fun r=>ifb (!(ilt r 0)) (ck ((IntKind.wrap .i64 (iX .u64 (IntKind.wrap .u64 a) (1:Int)))+(1:Int)) fun s=>f s e) (f c (IntKind.wrap .i64 (iX .u64 (IntKind.wrap .u64 a) (1:Int))))))) (o c)
def ó (rec:a7->Int->Int->Int->a8->BY (a7×a8)) (f:Int) (a:Int) (b:a7) (g:Int->a7->BY ρ) (h:a7->BY ρ):BY ρ :=
  ifb (igt a f) (ck (a-(1:Int)) fun c=>ck (a-(1:Int)) fun d=>Û ((ile 0 d)&&(ilt d (ç b))) (Ħ b (Int.toNat d) fun e=>Û ((ile 0 a)&&(ilt a (ç b))) (Ħ b (Int.toNat a) fun i=>Û ((ile 0 a)&&(ilt a (ç b))) (Ħ b (Int.toNat a) fun k=>Û ((ile 0 c)&&(ilt c (ç (List.set b (Int.toNat a) e)))) (Ħ (List.set b (Int.toNat a) e) (Int.toNat c) fun l=>ck (a-(1:Int)) fun j=>g j (List.set (List.set b (Int.toNat a) e) (Int.toNat c) i)))))) (h b)
def å (rec:a7->Int->Int->Int->a8->BY (a7×a8)) (g:Int) (b:a7) (h:Int) (i:Int) (j:fx) (k:bl) (l:fy) (m:c7) (n:bl) (o:c9) (c:Int) (d:Int) (f:Int->Int->BY ρ) (p:Int->BY ρ):BY ρ :=
  ifb (ilt c d) (ck (c+d) fun a=>ck (g-(IntKind.wrap .i64 (iX .u64 (IntKind.wrap .u64 a) (1:Int)))) fun e=>Û ((ile 0 e)&&(ilt e (ç b))) (Ħ b (Int.toNat e) fun q=>Û ((ile 0 (IntKind.wrap .i64 (iX .u64 (IntKind.wrap .u64 a) (1:Int))))&&(ilt (IntKind.wrap .i64 (iX .u64 (IntKind.wrap .u64 a) (1:Int))) (ç b))) (Ħ b (Int.toNat (IntKind.wrap .i64 (iX .u64 (IntKind.wrap .u64 a) (1:Int)))) fun r=>Ä (ks q r (((h,i),j,k,l,m,n),o)) fun s=>ifb (!(ilt s 0)) (ck ((IntKind.wrap .i64 (iX .u64 (IntKind.wrap .u64 a) (1:Int)))+(1:Int)) fun t=>f t d) (f c (IntKind.wrap .i64 (iX .u64 (IntKind.wrap .u64 a) (1:Int))))))) (p c)
def Ĩ (rec:a7->Int->Int->Int->a8->BY (a7×a8)) (c:a7) (f:Int) (g:Int) (b:Int) (mm:a8) (k:(a7)×a8->BY ρ):BY ρ :=
  ck (g-f) fun R=>ifb (ieq R 1) (Ê (fun(t:bx) S=>ÿ rec f c mm.1.1.1 mm.1.1.2 mm.1.2.1 mm.1.2.2.1 mm.1.2.2.2.1 mm.1.2.2.2.2.1 mm.1.2.2.2.2.2 mm.2 t.1 t.2 (fun T U=>S (T,U)) (fun V=>Ê (fun(u:io) W=>ô rec V u.1 u.2 (fun X Y=>W (X,Y)) (fun Z=>k (Z,mm))) (f,c))) (g,b)) (ck (b-g) fun dc=>ifb (ieq dc 1) (Ê (fun(v:bx) de=>þ rec g c mm.1.1.1 mm.1.1.2 mm.1.2.1 mm.1.2.2.1 mm.1.2.2.2.1 mm.1.2.2.2.2.1 mm.1.2.2.2.2.2 mm.2 v.1 v.2 (fun df dg=>de (df,dg)) (fun dh=>Ê (fun(w:io) di=>ó rec dh w.1 w.2 (fun dj dk=>di (dj,dk)) (fun dl=>k (dl,mm))) (g,c))) (f,g)) (ck (f+b) fun a=>ck ((IntKind.wrap .i64 (iX .u64 (IntKind.wrap .u64 a) (1:Int)))+g) fun s=>ifb (igt g (IntKind.wrap .i64 (iX .u64 (IntKind.wrap .u64 a) (1:Int)))) (ck (s-b) fun dm=>ck (s-1) fun dp=>Ê (fun(x:bx) dq=>å rec dp c mm.1.1.1 mm.1.1.2 mm.1.2.1 mm.1.2.2.1 mm.1.2.2.2.1 mm.1.2.2.2.2.1 mm.1.2.2.2.2.2 mm.2 x.1 x.2 (fun dr dt=>dq (dr,dt)) (fun j=>ck (s-j) fun d=>ifb (ilt j g) (ifb (ilt g d) (Ä (Ļ c j g d mm) fun h=>ifb (ilt f j) (ifb (ilt j (IntKind.wrap .i64 (iX .u64 (IntKind.wrap .u64 a) (1:Int)))) (Ä (rec h.1 f j (IntKind.wrap .i64 (iX .u64 (IntKind.wrap .u64 a) (1:Int))) h.2) fun m=>ifb (ilt (IntKind.wrap .i64 (iX .u64 (IntKind.wrap .u64 a) (1:Int))) d) (ifb (ilt d b) (Ä (rec m.1 (IntKind.wrap .i64 (iX .u64 (IntKind.wrap .u64 a) (1:Int))) d b m.2) fun y=>k (y.1,y.2)) (k (m.1,m.2))) (k (m.1,m.2))) (ifb (ilt (IntKind.wrap .i64 (iX .u64 (IntKind.wrap .u64 a) (1:Int))) d) (ifb (ilt d b) (Ä (rec h.1 (IntKind.wrap .i64 (iX .u64 (IntKind.wrap .u64 a) (1:Int))) d b h.2) fun z=>k (z.1,z.2)) (k (h.1,h.2))) (k (h.1,h.2)))) (ifb (ilt (IntKind.wrap .i64 (iX .u64 (IntKind.wrap .u64 a) (1:Int))) d) (ifb (ilt d b) (Ä (rec h.1 (IntKind.wrap .i64 (iX .u64 (IntKind.wrap .u64 a) (1:Int))) d b h.2) fun A=>k (A.1,A.2)) (k (h.1,h.2))) (k (h.1,h.2)))) (ifb (ilt f j) (ifb (ilt j (IntKind.wrap .i64 (iX .u64 (IntKind.wrap .u64 a) (1:Int)))) (Ä (rec c f j (IntKind.wrap .i64 (iX .u64 (IntKind.wrap .u64 a) (1:Int))) mm) fun n=>ifb (ilt (IntKind.wrap .i64 (iX .u64 (IntKind.wrap .u64 a) (1:Int))) d) (ifb (ilt d b) (Ä (rec n.1 (IntKind.wrap .i64 (iX .u64 (IntKind.wrap .u64 a) (1:Int))) d b n.2) fun B=>k (B.1,B.2)) (k (n.1,n.2))) (k (n.1,n.2))) (ifb (ilt (IntKind.wrap .i64 (iX .u64 (IntKind.wrap .u64 a) (1:Int))) d) (ifb (ilt d b) (Ä (rec c (IntKind.wrap .i64 (iX .u64 (IntKind.wrap .u64 a) (1:Int))) d b mm) fun C=>k (C.1,C.2)) (k (c,mm))) (k (c,mm)))) (ifb (ilt (IntKind.wrap .i64 (iX .u64 (IntKind.wrap .u64 a) (1:Int))) d) (ifb (ilt d b) (Ä (rec c (IntKind.wrap .i64 (iX .u64 (IntKind.wrap .u64 a) (1:Int))) d b mm) fun D=>k (D.1,D.2)) (k (c,mm))) (k (c,mm))))) (ifb (ilt f j) (ifb (ilt j (IntKind.wrap .i64 (iX .u64 (IntKind.wrap .u64 a) (1:Int)))) (Ä (rec c f j (IntKind.wrap .i64 (iX .u64 (IntKind.wrap .u64 a) (1:Int))) mm) fun o=>ifb (ilt (IntKind.wrap .i64 (iX .u64 (IntKind.wrap .u64 a) (1:Int))) d) (ifb (ilt d b) (Ä (rec o.1 (IntKind.wrap .i64 (iX .u64 (IntKind.wrap .u64 a) (1:Int))) d b o.2) fun E=>k (E.1,E.2)) (k (o.1,o.2))) (k (o.1,o.2))) (ifb (ilt (IntKind.wrap .i64 (iX .u64 (IntKind.wrap .u64 a) (1:Int))) d) (ifb (ilt d b) (Ä (rec c (IntKind.wrap .i64 (iX .u64 (IntKind.wrap .u64 a) (1:Int))) d b mm) fun F=>k (F.1,F.2)) (k (c,mm))) (k (c,mm)))) (ifb (ilt (IntKind.wrap .i64 (iX .u64 (IntKind.wrap .u64 a) (1:Int))) d) (ifb (ilt d b) (Ä (rec c (IntKind.wrap .i64 (iX .u64 (IntKind.wrap .u64 a) (1:Int))) d b mm) fun G=>k (G.1,G.2)) (k (c,mm))) (k (c,mm)))))) (dm,(IntKind.wrap .i64 (iX .u64 (IntKind.wrap .u64 a) (1:Int))))) (ck (s-1) fun du=>Ê (fun(H:bx) dv=>å rec du c mm.1.1.1 mm.1.1.2 mm.1.2.1 mm.1.2.2.1 mm.1.2.2.2.1 mm.1.2.2.2.2.1 mm.1.2.2.2.2.2 mm.2 H.1 H.2 (fun dw dz=>dv (dw,dz)) (fun l=>ck (s-l) fun e=>ifb (ilt l g) (ifb (ilt g e) (Ä (Ļ c l g e mm) fun i=>ifb (ilt f l) (ifb (ilt l (IntKind.wrap .i64 (iX .u64 (IntKind.wrap .u64 a) (1:Int)))) (Ä (rec i.1 f l (IntKind.wrap .i64 (iX .u64 (IntKind.wrap .u64 a) (1:Int))) i.2) fun p=>ifb (ilt (IntKind.wrap .i64 (iX .u64 (IntKind.wrap .u64 a) (1:Int))) e) (ifb (ilt e b) (Ä (rec p.1 (IntKind.wrap .i64 (iX .u64 (IntKind.wrap .u64 a) (1:Int))) e b p.2) fun I=>k (I.1,I.2)) (k (p.1,p.2))) (k (p.1,p.2))) (ifb (ilt (IntKind.wrap .i64 (iX .u64 (IntKind.wrap .u64 a) (1:Int))) e) (ifb (ilt e b) (Ä (rec i.1 (IntKind.wrap .i64 (iX .u64 (IntKind.wrap .u64 a) (1:Int))) e b i.2) fun J=>k (J.1,J.2)) (k (i.1,i.2))) (k (i.1,i.2)))) (ifb (ilt (IntKind.wrap .i64 (iX .u64 (IntKind.wrap .u64 a) (1:Int))) e) (ifb (ilt e b) (Ä (rec i.1 (IntKind.wrap .i64 (iX .u64 (IntKind.wrap .u64 a) (1:Int))) e b i.2) fun K=>k (K.1,K.2)) (k (i.1,i.2))) (k (i.1,i.2)))) (ifb (ilt f l) (ifb (ilt l (IntKind.wrap .i64 (iX .u64 (IntKind.wrap .u64 a) (1:Int)))) (Ä (rec c f l (IntKind.wrap .i64 (iX .u64 (IntKind.wrap .u64 a) (1:Int))) mm) fun q=>ifb (ilt (IntKind.wrap .i64 (iX .u64 (IntKind.wrap .u64 a) (1:Int))) e) (ifb (ilt e b) (Ä (rec q.1 (IntKind.wrap .i64 (iX .u64 (IntKind.wrap .u64 a) (1:Int))) e b q.2) fun L=>k (L.1,L.2)) (k (q.1,q.2))) (k (q.1,q.2))) (ifb (ilt (IntKind.wrap .i64 (iX .u64 (IntKind.wrap .u64 a) (1:Int))) e) (ifb (ilt e b) (Ä (rec c (IntKind.wrap .i64 (iX .u64 (IntKind.wrap .u64 a) (1:Int))) e b mm) fun M=>k (M.1,M.2)) (k (c,mm))) (k (c,mm)))) (ifb (ilt (IntKind.wrap .i64 (iX .u64 (IntKind.wrap .u64 a) (1:Int))) e) (ifb (ilt e b) (Ä (rec c (IntKind.wrap .i64 (iX .u64 (IntKind.wrap .u64 a) (1:Int))) e b mm) fun N=>k (N.1,N.2)) (k (c,mm))) (k (c,mm))))) (ifb (ilt f l) (ifb (ilt l (IntKind.wrap .i64 (iX .u64 (IntKind.wrap .u64 a) (1:Int)))) (Ä (rec c f l (IntKind.wrap .i64 (iX .u64 (IntKind.wrap .u64 a) (1:Int))) mm) fun r=>ifb (ilt (IntKind.wrap .i64 (iX .u64 (IntKind.wrap .u64 a) (1:Int))) e) (ifb (ilt e b) (Ä (rec r.1 (IntKind.wrap .i64 (iX .u64 (IntKind.wrap .u64 a) (1:Int))) e b r.2) fun O=>k (O.1,O.2)) (k (r.1,r.2))) (k (r.1,r.2))) (ifb (ilt (IntKind.wrap .i64 (iX .u64 (IntKind.wrap .u64 a) (1:Int))) e) (ifb (ilt e b) (Ä (rec c (IntKind.wrap .i64 (iX .u64 (IntKind.wrap .u64 a) (1:Int))) e b mm) fun P=>k (P.1,P.2)) (k (c,mm))) (k (c,mm)))) (ifb (ilt (IntKind.wrap .i64 (iX .u64 (IntKind.wrap .u64 a) (1:Int))) e) (ifb (ilt e b) (Ä (rec c (IntKind.wrap .i64 (iX .u64 (IntKind.wrap .u64 a) (1:Int))) e b mm) fun Q=>k (Q.1,Q.2)) (k (c,mm))) (k (c,mm)))))) (f,g))))
def ħ:Nat->a7->Int->Int->Int->a8->BY (a7×a8)
  |0=>fun _ _ _ _ _=>none
  |n+1=>fun a b c d mm=>Ĩ (ħ n) a b c d mm some
def Ę (a:a7) (b:Int) (c:Int) (d:Int) (mm:a8):BY ((a7)×a8):=ħ 100 a b c d mm
def iI (m:Int) (n:Int) (c:Int) (b:Int) (d:a7) (e:Int) (f:Int) (g:fx) (h:bl) (i:fy) (j:c7) (k:bl) (l:c9) (o:Int->Int->a7->Int->Int->fx->bl->fy->c7->bl->c9->BY ρ) (p:wk->BY ρ):BY ρ :=
  ifb (ile b m) (Ä (ì d c b (((e,f),g,h,i,j,k),l)) fun a=>ck (b+n) fun q=>o b q a.1 a.2.1.1.1 a.2.1.1.2 a.2.1.2.1 a.2.1.2.2.1 a.2.1.2.2.2.1 a.2.1.2.2.2.2.1 a.2.1.2.2.2.2.2 a.2.2) (p (c,d,e,f,g,h,i,j,k,l))
def iG (n:Int) (d:Int) (c:Int) (b:Int) (e:a7) (f:Int) (g:Int) (h:fx) (i:bl) (j:fy) (k:c7) (l:bl) (m:c9) (o:Int->Int->a7->Int->Int->fx->bl->fy->c7->bl->c9->BY ρ) (p:wk->BY ρ):BY ρ :=
  ifb (ile b n) (ck (c+d) fun q=>Ä (Ę e c q b (((f,g),h,i,j,k,l),m)) fun a=>ck ((2:Int)*d) fun r=>ck (b+r) fun s=>o b s a.1 a.2.1.1.1 a.2.1.1.2 a.2.1.2.1 a.2.1.2.2.1 a.2.1.2.2.2.1 a.2.1.2.2.2.2.1 a.2.1.2.2.2.2.2 a.2.2) (p (c,e,f,g,h,i,j,k,l,m))
def iH (e:Int) (d:Int) (f:a7) (g:Int) (h:Int) (i:fx) (j:bl) (k:fy) (l:c7) (m:bl) (n:c9) (o:Int->a7->Int->Int->fx->bl->fy->c7->bl->c9->BY ρ) (q:(Val (.pair ak ai))->BY ρ):BY ρ :=
  ifb (ilt d e) (ck ((2:Int)*d) fun r=>Ê (fun(b:rx) s=>iG e d b.1 b.2.1 b.2.2.1 b.2.2.2.1 b.2.2.2.2.1 b.2.2.2.2.2.1 b.2.2.2.2.2.2.1 b.2.2.2.2.2.2.2.1 b.2.2.2.2.2.2.2.2.1 b.2.2.2.2.2.2.2.2.2.1 b.2.2.2.2.2.2.2.2.2.2 (fun t u v w x y z A B C D=>s (t,u,v,w,x,y,z,A,B,C,D)) (fun a=>ck (a.1+d) fun p=>ifb (ilt p e) (Ä (Ę a.2.1 a.1 p e (((a.2.2.1,a.2.2.2.1),a.2.2.2.2.1,a.2.2.2.2.2.1,a.2.2.2.2.2.2.1,a.2.2.2.2.2.2.2.1,a.2.2.2.2.2.2.2.2.1),a.2.2.2.2.2.2.2.2.2)) fun c=>ck (d*(2:Int)) fun E=>o E c.1 c.2.1.1.1 c.2.1.1.2 c.2.1.2.1 c.2.1.2.2.1 c.2.1.2.2.2.1 c.2.1.2.2.2.2.1 c.2.1.2.2.2.2.2 c.2.2) (ck (d*(2:Int)) fun F=>o F a.2.1 a.2.2.1 a.2.2.2.1 a.2.2.2.2.1 a.2.2.2.2.2.1 a.2.2.2.2.2.2.1 a.2.2.2.2.2.2.2.1 a.2.2.2.2.2.2.2.2.1 a.2.2.2.2.2.2.2.2.2))) ((0:Int),r,f,g,h,i,j,k,l,m,n)) (q (f,g,h,i,j,k,l,m,n))
def jI (g:a7) (f:Int) (mm:a8) (k:(a7)×a8->BY ρ):BY ρ :=
  Ê (fun(a:rx) h=>iI f (20:Int) a.1 a.2.1 a.2.2.1 a.2.2.2.1 a.2.2.2.2.1 a.2.2.2.2.2.1 a.2.2.2.2.2.2.1 a.2.2.2.2.2.2.2.1 a.2.2.2.2.2.2.2.2.1 a.2.2.2.2.2.2.2.2.2.1 a.2.2.2.2.2.2.2.2.2.2 (fun i j l m n o p q r s t=>h (i,j,l,m,n,o,p,q,r,s,t)) (fun b=>Ä (ì b.2.1 b.1 f (((b.2.2.1,b.2.2.2.1),b.2.2.2.2.1,b.2.2.2.2.2.1,b.2.2.2.2.2.2.1,b.2.2.2.2.2.2.2.1,b.2.2.2.2.2.2.2.2.1),b.2.2.2.2.2.2.2.2.2)) fun d=>Ê (fun(c:wk) u=>iH f c.1 c.2.1 c.2.2.1 c.2.2.2.1 c.2.2.2.2.1 c.2.2.2.2.2.1 c.2.2.2.2.2.2.1 c.2.2.2.2.2.2.2.1 c.2.2.2.2.2.2.2.2.1 c.2.2.2.2.2.2.2.2.2 (fun v w x y z A B C D E=>u (v,w,x,y,z,A,B,C,D,E)) (fun e=>k (e.1,(((e.2.1,e.2.2.1),e.2.2.2.1,e.2.2.2.2.1,e.2.2.2.2.2.1,e.2.2.2.2.2.2.1,e.2.2.2.2.2.2.2.1),e.2.2.2.2.2.2.2.2)))) ((20:Int),d.1,d.2.1.1.1,d.2.1.1.2,d.2.1.2.1,d.2.1.2.2.1,d.2.1.2.2.2.1,d.2.1.2.2.2.2.1,d.2.1.2.2.2.2.2,d.2.2))) ((0:Int),(20:Int),g,mm.1.1.1,mm.1.1.2,mm.1.2.1,mm.1.2.2.1,mm.1.2.2.2.1,mm.1.2.2.2.2.1,mm.1.2.2.2.2.2,mm.2)
def ĺ (a:a7) (b:Int) (mm:a8):BY ((a7)×a8):=jI a b mm some
def Em (a:a7) (y:b5) (b:a7->BY ρ):BY ρ :=
  Û (ß ((List.length a)+(List.length ([y])))) (b (a++([y])))
def UX (a:a8) (k:a7->BY ρ):BY ρ :=
  Ä (nM a.2) fun c=>AO (fun(d:a7) (e:b5) f=>Em d e (fun g=>f g)) c ([]) (fun b=>Ä (ĺ b (Õ b) a) fun h=>k h.1)
def uj (a:a8):BY (a7):=UX a some
def Bm (f:b5) (g:Int) (d:c9) (b:Int) (a:Int) (c:Int->Int->BY ρ) (h:Int->BY ρ):BY ρ :=
  ifb (ige a 0) (ï f a fun i=>Ä (iN i b) fun e=>ifb (ige e 0) (ï d a fun j=>ifb (ilt j.1 g) (ï d a fun k=>ï k.2 e fun l=>ck (a-(1:Int)) fun m=>c l m) (ck (a-(1:Int)) fun n=>c b n)) (ck (a-(1:Int)) fun o=>c b o)) (h b)
def ag3 (a:a8) (c:b5) (d:Int) (e:Int) (k:Int->BY ρ):BY ρ :=
  ck ((Õ a.2)-(1:Int)) fun f=>Ê (fun(b:bx) g=>Bm c e a.2 b.1 b.2 (fun h i=>g (h,i)) (fun j=>k j)) (d,f)
def rW (a:a8) (b:b5) (c:Int) (d:Int):BY (Int):=ag3 a b c d some
def jB (d:Int) (e:Val ay) (f:Val aL) (g:an) (h:Int) (a:Int) (b:an) (i:Int->an->BY ρ) (j:an->BY ρ):BY ρ :=
  ifb (ilt a h) (ï g a fun k=>Ä (rW e f k d) fun c=>Û (ß ((List.length b)+(List.length ([c])))) (ck (a+(1:Int)) fun l=>i l (b++([c])))) (j b)
def zz (a:an) (d:Int) (e:Val ay) (f:Val aL) (k:an->BY ρ):BY ρ :=
  Ê (fun(b:ge) g=>jB d e f a (Õ a) b.1 b.2 (fun h i=>g (h,i)) (fun c=>Û (ß (List.length c)) (k (yR c)))) ((0:Int),[])
def jT (a:an) (b:Int) (c:Val ay) (d:Val aL):BY (an):=zz a b c d some
def lG (e:Val ay) (f:Val aL) (g:bl) (h:Int) (b:Int) (c:bl) (i:Int->bl->BY ρ) (j:bl->BY ρ):BY ρ :=
  ifb (ilt b h) (ï g b fun a=>Ä (rW e f a.1 a.2) fun d=>Û (ß ((List.length c)+(List.length ([(d,a.2)])))) (ck (b+(1:Int)) fun k=>i k (c++([(d,a.2)])))) (j c)
def lF (e:Val ay) (f:Val aL) (g:fy) (h:Int) (b:Int) (c:fy) (i:Int->fy->BY ρ) (j:fy->BY ρ):BY ρ :=
  ifb (ilt b h) (ï g b fun a=>Ä (rW e f a.1 a.2.1.1) fun d=>Û (ß ((List.length c)+(List.length ([(d,a.2)])))) (ck (b+(1:Int)) fun k=>i k (c++([(d,a.2)])))) (j c)
def lE (d:Val ay) (e:Val aL) (h:c7) (i:Int) (b:Int) (c:c7) (j:Int->c7->BY ρ) (k:c7->BY ρ):BY ρ :=
  ifb (ilt b i) (ï h b fun a=>Ä (jT a.2.2.1 a.2.1 d e) fun f=>Ä (jT a.2.2.2.1 a.2.1 d e) fun g=>Û (ß ((List.length c)+(List.length ([(a.1,a.2.1,f,g,a.2.2.2.2)])))) (ck (b+(1:Int)) fun l=>j l (c++([(a.1,a.2.1,f,g,a.2.2.2.2)])))) (k c)
def lD (e:Val ay) (f:Val aL) (g:bl) (h:Int) (b:Int) (c:bl) (i:Int->bl->BY ρ) (j:bl->BY ρ):BY ρ :=
  ifb (ilt b h) (ï g b fun a=>Ä (rW e f a.1 a.2) fun d=>Û (ß ((List.length c)+(List.length ([(d,a.2)])))) (ck (b+(1:Int)) fun k=>i k (c++([(d,a.2)])))) (j c)
def wM (a:a8) (b:b5) (k:b6->BY ρ):BY ρ :=
  Û (ß (List.length a.1.2.1)) (Ê (fun(c:nm) g=>lG a b a.1.2.2.1 (Õ a.1.2.2.1) c.1 c.2 (fun h i=>g (h,i)) (fun j=>Ê (fun(d:y6) l=>lF a b a.1.2.2.2.1 (Õ a.1.2.2.2.1) d.1 d.2 (fun m n=>l (m,n)) (fun o=>Ê (fun(e:Val aZ) p=>lE a b a.1.2.2.2.2.1 (Õ a.1.2.2.2.2.1) e.1 e.2 (fun q r=>p (q,r)) (fun s=>Ê (fun(f:nm) t=>lD a b a.1.2.2.2.2.2 (Õ a.1.2.2.2.2.2) f.1 f.2 (fun u v=>t (u,v)) (fun w=>k (a.1.1,a.1.2.1,j,o,s,w))) ((0:Int),[]))) ((0:Int),[]))) ((0:Int),[]))) ((0:Int),[]))
def jf (a:a8) (b:b5):BY b6:=wM a b some
def ĩ (c:bl) (d:Int) (e:Int) (f:Int) (a:Int) (g:Int->BY ρ) (h:Int->BY ρ) (i:Unit->BY ρ):BY ρ :=
  ifb (ilt a d) (ï c a fun b=>ifb ((mX e b.1)&&((mX f b.2)&&true)) (h a) (ck (a+(1:Int)) fun j=>g j)) (i ())
def jK (a:bl) (b:bx) (k:Int->BY ρ):BY ρ :=
  Ê (fun(c:Int) d=>ĩ a (Õ a) b.1 b.2 c (fun e=>d e) (fun f=>k f) (fun _=>k (-1:Int))) (0:Int)
def û (a:bl) (b:bx):BY (Int):=jK a b some
def Kt (b:(Val (.ptr D2))) (a:an) (c:Int) (k:Int->BY ρ):BY ρ :=
  ifb (ieq (Õ a) 0) (k (0:Int)) (ï a (0:Int) fun d=>Ä (û b.2.1 (d,c)) fun e=>ck (e+(1:Int)) fun f=>k f)
def md (a:(Val (.ptr D2))) (b:an) (c:Int):BY (Int):=Kt a b c some
def xr (f:Int) (g:Int) (h:fy) (i:Int) (j:Int) (b:Int) (a:Int) (d:Int->Int->BY ρ) (k:Int->BY ρ):BY ρ :=
  ifb (ilt a i) (ï h a fun c=>ck (g-(1:Int)) fun l=>ck ((Z3 c.2.1.2 l)-(Qu c.2.1.1 f)) fun m=>ck (m+1) fun e=>ifb (ieq c.1 j) (ifb (igt e 0) (ck (e*c.2.2) fun n=>ck (b+n) fun o=>ck (a+(1:Int)) fun p=>d o p) (ck (a+(1:Int)) fun q=>d b q)) (ck (a+(1:Int)) fun r=>d b r)) (k b)
def xq (e:Int) (f:Int) (g:bl) (h:Int) (i:Int) (a:Int) (b:an) (d:Int->an->BY ρ) (j:an->BY ρ):BY ρ :=
  ifb (ilt a h) (ï g a fun c=>ifb (ieq c.1 i) (ck (f-(1:Int)) fun k=>Ä (ġ c.2 e k) fun l=>ifb l (Û (ß ((List.length b)+(List.length ([c.2])))) (ck (a+(1:Int)) fun m=>d m (b++([c.2])))) (ck (a+(1:Int)) fun n=>d n b)) (ck (a+(1:Int)) fun o=>d o b)) (j b)
def acZ (a:b6) (b:pi) (d:Int) (e:Int) (k:Int->BY ρ):BY ρ :=
  Ê (fun(f:bx) h=>xr d e a.2.2.2.1 (Õ a.2.2.2.1) b.1 f.1 f.2 (fun i j=>h (i,j)) (fun l=>Ê (fun(g:ge) m=>xq d e a.2.2.1 (Õ a.2.2.1) b.1 g.1 g.2 (fun n o=>m (n,o)) (fun c=>Û (ß (List.length c)) (Û (ß (List.length (yR c))) (ck ((Õ (BU (yR c)))*b.2.2.2.2.2) fun p=>ck (l+p) fun q=>k q)))) ((0:Int),[]))) ((0:Int),(0:Int))
def BP (a:b6) (b:pi) (c:Int) (d:Int):BY (Int):=acZ a b c d some
def yx (b:qs) (a:an) (k:bx->BY ρ):BY ρ :=
  ifb (ieq (Õ a) 0) (k ((0:Int),(1:Int))) (ï a (0:Int) fun c=>Qt (k:=tI) (v:=Ù) c b (fun d=>k d.2.2.2.2.1) (k ((0:Int),(0:Int))))
def jn (a:qs) (b:an):BY bx:=yx a b some
def tW (b:bl) (c:Int) (a:Int) (d:Int->BY ρ) (e:Int->BY ρ) (f:Unit->BY ρ):BY ρ :=
  ifb (ilt a c) (ï b a fun g=>Ä (wp g) fun h=>ifb (!h) (e (1:Int)) (ck (a+(1:Int)) fun i=>d i)) (f ())
def YM (a:bl) (k:Int->BY ρ):BY ρ :=
  Ê (fun(b:Int) c=>tW a (Õ a) b (fun d=>c d) (fun e=>k e) (fun _=>k (0:Int))) (0:Int)
def lr (a:bl):BY (Int):=YM a some
def O4 (d:Int) (e:Int) (k:lA->BY ρ):BY ρ :=
  Ä (uq d) fun b=>Ä (uq e) fun c=>Ä (PO b c) fun a=>ifb (mX a 0) (none) (ifb (mX a 0) (none) (ifb (igt (IntKind.wrap .u64 (Int.tdiv b a)) 2147483647) (k (((0:Int),(0:Int)),(3:Int))) (ifb (igt (IntKind.wrap .u64 (Int.tdiv c a)) 2147483647) (k (((0:Int),(0:Int)),(3:Int))) (ifb (!((ilt d 0)==(ilt e 0))) (ck (0-(IntKind.wrap .i64 (IntKind.wrap .u64 (Int.tdiv b a)))) fun f=>k ((f,(IntKind.wrap .i64 (IntKind.wrap .u64 (Int.tdiv c a)))),(0:Int))) (k (((IntKind.wrap .i64 (IntKind.wrap .u64 (Int.tdiv b a))),(IntKind.wrap .i64 (IntKind.wrap .u64 (Int.tdiv c a)))),(0:Int)))))))
def sd (a:Int) (b:Int):BY lA:=O4 a b some
def ahh (a:bx) (b:bx) (k:lA->BY ρ):BY ρ :=
  Ä (lr ([a,b])) fun c=>ifb (ine c 0) (k (((0:Int),(0:Int)),c)) (ck (a.1*b.2) fun e=>ck (b.1*a.2) fun f=>ck (e-f) fun g=>ck (a.2*b.2) fun h=>Ä (sd g h) fun d=>k (d.1,d.2))
def VV (a:bx) (b:bx):BY lA:=ahh a b some
def G5 (a:bx) (b:bx) (k:bx->BY ρ):BY ρ :=
  Ä (VV a b) fun c=>k c.1
def xR (a:bx) (b:bx):BY bx:=G5 a b some
def ahf (a:bx) (b:bx) (k:Int->BY ρ):BY ρ :=
  ck (a.1*b.2) fun c=>ck (b.1*a.2) fun d=>ifb ((mX a.1 b.1)&&((mX a.2 b.2)&&true)) (k (0:Int)) (ifb (ilt c d) (k (-1:Int)) (ifb (igt c d) (k (1:Int)) (k (0:Int))))
def PP (a:bx) (b:bx):BY (Int):=ahf a b some
def DI (a:ly) (k:Bool->BY ρ):BY ρ :=
  Ä (lr ([a.1,a.2])) fun b=>ifb (ieq b 0) (Ä (PP a.1 a.2) fun c=>k (ile c 0)) (k false)
def uJ (a:ly):BY (Bool):=DI a some
def ahj (a:bx) (b:bx) (k:lA->BY ρ):BY ρ :=
  Ä (lr ([a,b])) fun c=>ifb (ine c 0) (k (((0:Int),(0:Int)),c)) (ck (a.1*b.1) fun e=>ck (a.2*b.2) fun f=>Ä (sd e f) fun d=>k (d.1,d.2))
def PR (a:bx) (b:bx):BY lA:=ahj a b some
def O6 (c:ly) (d:bx) (k:Val Fl->BY ρ):BY ρ :=
  Ä (uJ c) fun e=>ifb (!e) (k ((((0:Int),(0:Int)),(0:Int),(0:Int)),(1:Int))) (Ä (wp d) fun f=>ifb (!f) (k ((((0:Int),(0:Int)),(0:Int),(0:Int)),(1:Int))) (Ä (PR d c.1) fun a=>ifb (ine a.2 0) (k ((((0:Int),(0:Int)),(0:Int),(0:Int)),a.2)) (Ä (PR d c.2) fun b=>ifb (ine b.2 0) (k ((((0:Int),(0:Int)),(0:Int),(0:Int)),b.2)) (Ä (PP a.1 b.1) fun g=>ifb (igt g 0) (k ((b.1,a.1),(0:Int))) (k ((a.1,b.1),(0:Int)))))))
def PQ (a:ly) (b:bx):BY (Val Fl):=O6 a b some
def G4 (b:bx) (a:bx) (k:ly->BY ρ):BY ρ :=
  Ä (PQ ((a.1,(1:Int)),a.2,(1:Int)) b) fun c=>k c.1
def qq (a:bx) (b:bx):BY ly:=G4 a b some
def Tv (c:b6) (a:i4) (k:ly->BY ρ):BY ρ :=
  Ä (Ň c) fun b=>Ä (θ a.2.2.1 a.2.2.2.1) fun d=>Ä (jn b d) fun e=>Ä (θ a.2.2.2.1 a.2.2.1) fun f=>Ä (jn b f) fun g=>Ä (xR e g) fun h=>Ä (qq h a.2.2.2.2.2.2) fun i=>k i
def wq (a:b6) (b:i4):BY ly:=Tv a b some
def YX (a:b6) (b:i4) (k:bx->BY ρ):BY ρ :=
  ck ((Õ b.2.2.1)-(1:Int)) fun c=>ck ((Õ b.2.2.2.1)-(1:Int)) fun d=>ck ((Qu (0:Int) c)*a.1.1) fun e=>ck ((Qu (0:Int) d)*a.1.2) fun f=>ck (e-f) fun g=>ck ((Qu (0:Int) c)*a.1.2) fun h=>ck ((Qu (0:Int) d)*a.1.1) fun i=>ck (h-i) fun j=>k (g,j)
def AR (a:b6) (b:i4):BY bx:=YX a b some
def O5 (b:Int) (a:Int) (k:Int->BY ρ):BY ρ :=
  ifb (mX a 0) (none) (ck (Int.tdiv b a) fun c=>ifb (mX a 0) (none) (ifb (ilt (Int.tmod b a) 0) (ck (c-1) fun d=>k d) (k c)))
def wo (a:Int) (b:Int):BY (Int):=O5 a b some
def YR (a:bx) (k:bx->BY ρ):BY ρ :=
  Ä (lr ([a])) fun b=>ifb (ine b 0) (k ((0:Int),b)) (Ä (wo a.1 a.2) fun c=>k (c,(0:Int)))
def Ib (a:bx):BY bx:=YR a some
def acW (a:bx) (k:bx->BY ρ):BY ρ :=
  Ä (lr ([a])) fun b=>ifb (ine b 0) (k ((0:Int),b)) (ck (0-a.1) fun c=>Ä (wo c a.2) fun d=>ck (0-d) fun e=>k (e,(0:Int)))
def Mj (a:bx):BY bx:=acW a some
def acX (b:b6) (a:i4) (k:bx->BY ρ):BY ρ :=
  Ä (wq b a) fun c=>Ä (AR b a) fun d=>Ä (Ib c.2) fun e=>Ä (Mj c.1) fun f=>ck (a.2.2.2.2.1-a.2.2.2.2.2.1) fun g=>ck (g-d.2) fun h=>ck (h-e.1) fun i=>ck (a.2.2.2.2.1+a.2.2.2.2.2.1) fun j=>ck (j-d.1) fun l=>ck (l-f.1) fun m=>k (i,m)
def BO (a:b6) (b:i4):BY bx:=acX a b some
def xo (b:Int) (e:an) (h:Int) (j:Int) (k:Int) (l:fx) (m:bl) (n:fy) (o:c7) (p:bl) (q:Int) (r:Int) (s:Int) (t:Int) (u:Int) (v:Int) (w:Int) (x:Int) (a:Int) (f:hO) (g:bl) (y:Int->hO->bl->BY ρ) (z:Val Cw->BY ρ):BY ρ :=
  ifb (ilt a (Õ e)) (ck (h+a) fun A=>ck (A-1) fun c=>ck (h+a) fun d=>ck (a-(1:Int)) fun B=>ï e B fun C=>ï e a fun D=>Ä (BP ((j,k),l,m,n,o,p) (q,r,s,(t,u),(v,w),x) C D) fun E=>ck (0-E) fun F=>ck (0-F) fun i=>Û (ß ((List.length f)+(List.length ([(c,d,(0:Int)),(d,c,i)])))) (Û (ß ((List.length g)+(List.length ([((2:Int),b),((2:Int),b)])))) (ck (a+(1:Int)) fun G=>y G (f++([(c,d,(0:Int)),(d,c,i)])) (g++([((2:Int),b),((2:Int),b)]))))) (z (f,g))
def xp (q:fx) (r:Int) (f:Int) (g:Int) (h:fx) (i:bl) (j:fy) (k:c7) (l:bl) (s:bl) (t:Int) (b:Int) (d:hO) (e:bl) (u:Int->hO->bl->BY ρ) (v:Val Cw->BY ρ):BY ρ :=
  ifb (ilt b r) (ï q b fun a=>Ä (qr ((f,g),h,i,j,k,l) a) fun w=>Ä (md (((f,g),h,i,j,k,l),s,(t,d),e) ([a.1]) a.2.1) fun c=>ck (a.2.2.1+a.2.2.2.1.1) fun x=>ck (a.2.2.1+a.2.2.2.1.2) fun n=>ck (0-x) fun o=>Û (ß ((List.length d)+(List.length ([((0:Int),c,n),(c,(0:Int),o)])))) (Û (ß ((List.length e)+(List.length ([((1:Int),b),((1:Int),b)])))) (Ê (fun(m:wl) y=>xo b w c f g h i j k l a.1 a.2.1 a.2.2.1 a.2.2.2.1.1 a.2.2.2.1.2 a.2.2.2.2.1.1 a.2.2.2.2.1.2 a.2.2.2.2.2 m.1 m.2.1 m.2.2 (fun z A B=>y (z,A,B)) (fun p=>ck (b+(1:Int)) fun C=>u C p.1 p.2)) ((1:Int),(d++([((0:Int),c,n),(c,(0:Int),o)])),(e++([((1:Int),b),((1:Int),b)])))))) (v (d,e))
def xn (r:c7) (s:Int) (g:Int) (h:Int) (i:fx) (j:bl) (k:fy) (l:c7) (m:bl) (o:bl) (p:Int) (a:Int) (c:hO) (d:bl) (t:Int->hO->bl->BY ρ) (u:Val Cw->BY ρ):BY ρ :=
  ifb (ilt a s) (ï r a fun b=>Ä (θ b.2.2.2.1 b.2.2.1) fun v=>Ä (md (((g,h),i,j,k,l,m),o,(p,c),d) v b.2.1) fun e=>Ä (θ b.2.2.1 b.2.2.2.1) fun w=>Ä (md (((g,h),i,j,k,l,m),o,(p,c),d) w b.2.1) fun f=>Ä (BO ((g,h),i,j,k,l,m) b) fun n=>ck (0-n.1) fun q=>Û (ß ((List.length c)+(List.length ([(e,f,n.2),(f,e,q)])))) (Û (ß ((List.length d)+(List.length ([((3:Int),a),((3:Int),a)])))) (ck (a+(1:Int)) fun x=>t x (c++([(e,f,n.2),(f,e,q)])) (d++([((3:Int),a),((3:Int),a)]))))) (u (c,d))
def acY (a:b6) (k:(Val (.ptr D2))->BY ρ):BY ρ :=
  Ä (se a) fun b=>ck ((Õ b)+(1:Int)) fun c=>Ê (fun(d:wl) h=>xp a.2.1 (Õ a.2.1) a.1.1 a.1.2 a.2.1 a.2.2.1 a.2.2.2.1 a.2.2.2.2.1 a.2.2.2.2.2 b c d.1 d.2.1 d.2.2 (fun i j l=>h (i,j,l)) (fun f=>Ê (fun(e:wl) m=>xn a.2.2.2.2.1 (Õ a.2.2.2.2.1) a.1.1 a.1.2 a.2.1 a.2.2.1 a.2.2.2.1 a.2.2.2.2.1 a.2.2.2.2.2 b c e.1 e.2.1 e.2.2 (fun n o p=>m (n,o,p)) (fun g=>k (a,b,(c,g.1),g.2))) ((0:Int),f.1,f.2))) ((0:Int),[],[])
def Mk (a:b6):BY ((Val (.ptr D2))):=acY a some
def Tx (a:b6) (k:(Val (.pair Ô (.pair aa tI)))->BY ρ):BY ρ :=
  Ä (κ a) fun b=>ifb (ine b 0) (k (((0:Int),[]),[],b)) (Ä (Mk a) fun c=>k (c.2.2.1,c.2.2.2,(0:Int)))
def jx (a:b6):BY ((Val (.pair Ô (.pair aa tI)))):=Tx a some
def acU (b:im) (a:Int) (k:Bool->BY ρ):BY ρ :=
  ifb (ige a 0) (k (ilt a b.1)) (k false)
def BN (a:im) (b:Int):BY (Bool):=acU a b some
def tV (f:hO) (g:Int) (d:Int) (e:hO) (a:Int) (h:Int->BY ρ) (c:bx->BY ρ) (i:Unit->BY ρ):BY ρ :=
  ifb (ilt a g) (ï f a fun b=>Ä (BN (d,e) b.1) fun j=>ifb (!j) (c ((1:Int),a)) (Ä (BN (d,e) b.2.1) fun k=>ifb (!k) (c ((1:Int),a)) (ifb (ieq b.1 b.2.1) (c ((1:Int),a)) (ifb (ilt b.2.2 (-4503599627370496:Int)) (c ((1:Int),a)) (ifb (igt b.2.2 4503599627370496) (c ((1:Int),a)) (ck (a+(1:Int)) fun l=>h l)))))) (i ())
def YL (a:im) (k:bx->BY ρ):BY ρ :=
  ifb (ilt a.1 1) (k ((1:Int),(-1:Int))) (ifb (igt a.1 60) (k ((1:Int),(-1:Int))) (ifb (igt (Õ a.2) 300) (k ((2:Int),(-1:Int))) (Ê (fun(c:Int) d=>tV a.2 (Õ a.2) a.1 a.2 c (fun e=>d e) (fun b=>k (b.1,b.2)) (fun _=>k ((0:Int),(-1:Int)))) (0:Int))))
def sc (a:im):BY bx:=YL a some
def iL (c:hO) (d:Int) (b:Int) (a:Int) (e:Int->Int->BY ρ) (f:Int->BY ρ):BY ρ :=
  ifb (ilt a d) (ï c a fun g=>ck (b+(Z3 g.2.2 (0:Int))) fun h=>ck (a+(1:Int)) fun i=>e h i) (f b)
def Š (f:Int) (d:an) (a:Int) (b:xa) (c:an) (e:Int->xa->an->BY ρ) (g:Val aU->BY ρ):BY ρ :=
  ifb (ilt a f) (Û ((ile 0 a)&&(ilt a (ç d))) (Ħ d (Int.toNat a) fun h=>ifb (ine h 1152921504606846976) (Û (ß ((List.length c)+(List.length ([a])))) (Û ((ile 0 a)&&(ilt a (ç b))) (Ħ b (Int.toNat a) fun k=>ck (a+(1:Int)) fun i=>e i (List.set b (Int.toNat a) true) (c++([a]))))) (ck (a+(1:Int)) fun j=>e j b c))) (g (b,c))
def jO (m:Val au) (j:Int) (d:Int) (n:hO) (o:Int) (f:Int) (b:an) (c:xa) (e:an) (g:Int->an->xa->an->BY ρ) (l:(Val (.pair .bool (.pair ab aU)))->BY ρ) (p:(Val (.pair ab aU))->BY ρ):BY ρ :=
  ifb (ilt f o) (ï n f fun a=>ifb (ine a.1 d) (ck (f+(1:Int)) fun q=>g q b c e) (Qt (k:=tI) (v:=.bool) f m (fun r=>ifb r (ck (f+(1:Int)) fun s=>g s b c e) (Û ((ile 0 d)&&(ilt d (ç b))) (Ħ b (Int.toNat d) fun t=>ck (t+a.2.2) fun u=>Û ((ile 0 a.2.1)&&(ilt a.2.1 (ç b))) (Ħ b (Int.toNat a.2.1) fun w=>ifb (ige u w) (ck (f+(1:Int)) fun x=>g x b c e) (Û ((ile 0 d)&&(ilt d (ç b))) (Ħ b (Int.toNat d) fun y=>ck (y+a.2.2) fun h=>Û ((ile 0 a.2.1)&&(ilt a.2.1 (ç b))) (Ħ b (Int.toNat a.2.1) fun M=>Û ((ile 0 a.2.1)&&(ilt a.2.1 (ç (List.set b (Int.toNat a.2.1) h)))) (Ħ (List.set b (Int.toNat a.2.1) h) (Int.toNat a.2.1) fun z=>ifb (ilt z j) (l (false,(List.set b (Int.toNat a.2.1) h),c,e)) (Û ((ile 0 a.2.1)&&(ilt a.2.1 (ç c))) (Ħ c (Int.toNat a.2.1) fun A=>ifb (!A) (Û (ß ((List.length e)+(List.length ([a.2.1])))) (Û ((ile 0 a.2.1)&&(ilt a.2.1 (ç c))) (Ħ c (Int.toNat a.2.1) fun N=>ck (f+(1:Int)) fun B=>g B (List.set b (Int.toNat a.2.1) h) (List.set c (Int.toNat a.2.1) true) (e++([a.2.1]))))) (ck (f+(1:Int)) fun C=>g C (List.set b (Int.toNat a.2.1) h) c e))))))))))) (Û ((ile 0 d)&&(ilt d (ç b))) (Ħ b (Int.toNat d) fun D=>ck (D+a.2.2) fun E=>Û ((ile 0 a.2.1)&&(ilt a.2.1 (ç b))) (Ħ b (Int.toNat a.2.1) fun F=>ifb (ige E F) (ck (f+(1:Int)) fun G=>g G b c e) (Û ((ile 0 d)&&(ilt d (ç b))) (Ħ b (Int.toNat d) fun H=>ck (H+a.2.2) fun i=>Û ((ile 0 a.2.1)&&(ilt a.2.1 (ç b))) (Ħ b (Int.toNat a.2.1) fun O=>Û ((ile 0 a.2.1)&&(ilt a.2.1 (ç (List.set b (Int.toNat a.2.1) i)))) (Ħ (List.set b (Int.toNat a.2.1) i) (Int.toNat a.2.1) fun I=>ifb (ilt I j) (l (false,(List.set b (Int.toNat a.2.1) i),c,e)) (Û ((ile 0 a.2.1)&&(ilt a.2.1 (ç c))) (Ħ c (Int.toNat a.2.1) fun J=>ifb (!J) (Û (ß ((List.length e)+(List.length ([a.2.1])))) (Û ((ile 0 a.2.1)&&(ilt a.2.1 (ç c))) (Ħ c (Int.toNat a.2.1) fun P=>ck (f+(1:Int)) fun K=>g K (List.set b (Int.toNat a.2.1) i) (List.set c (Int.toNat a.2.1) true) (e++([a.2.1]))))) (ck (f+(1:Int)) fun L=>g L (List.set b (Int.toNat a.2.1) i) c e)))))))))))) (p (b,c,e))
def ĭ (l:Val au) (m:Int) (n:Int) (k:hO) (h:an) (d:xa) (b:an) (c:an) (o:an->xa->an->an->BY ρ) (i:(Val (.pair .bool aV))->BY ρ):BY ρ :=
  ifb (ieq (Õ c) 0) (i (true,h,d,b,c)) (Û (ilt 0 (ç c)) (Ħ c 0 fun a=>Û (ile 1 (ç c)) (Û (decide (1+(List.length c-1)=List.length c)) (Û ((ile 0 a)&&(ilt a (ç d))) (Ħ d (Int.toNat a) fun x=>Û ((ile 0 a)&&(ilt a (ç b))) (Ħ b (Int.toNat a) fun p=>ck (p+(1:Int)) fun e=>Û ((ile 0 a)&&(ilt a (ç b))) (Ħ b (Int.toNat a) fun y=>Û ((ile 0 a)&&(ilt a (ç (List.set b (Int.toNat a) e)))) (Ħ (List.set b (Int.toNat a) e) (Int.toNat a) fun q=>ck (n+(1:Int)) fun r=>ifb (igt q r) (i (false,h,(List.set d (Int.toNat a) false),(List.set b (Int.toNat a) e),(List.drop 1 c))) (Ê (fun(f:ni) s=>jO l m a k (Õ k) f.1 f.2.1 f.2.2.1 f.2.2.2 (fun t u v w=>s (t,u,v,w)) (fun g=>i (g.1,g.2.1,g.2.2.1,(List.set b (Int.toNat a) e),g.2.2.2)) (fun j=>o j.1 j.2.1 (List.set b (Int.toNat a) e) j.2.2)) ((0:Int),h,(List.set d (Int.toNat a) false),(List.drop 1 c)))))))))))
def jN (c:Int) (d:Int) (a:Int) (b:an) (e:Int->an->BY ρ) (f:an->BY ρ):BY ρ :=
  ifb (ilt a d) (Û ((ile 0 a)&&(ilt a (ç b))) (Ħ b (Int.toNat a) fun g=>ck (g-c) fun h=>Û ((ile 0 a)&&(ilt a (ç b))) (Ħ b (Int.toNat a) fun j=>ck (a+(1:Int)) fun i=>e i (List.set b (Int.toNat a) h)))) (f b)
def Ap (a:im) (h:Val au) (k:py->BY ρ):BY ρ :=
  Û ((ile 0 a.1)&&(ß (Int.toNat a.1))) (Û ((ile 0 a.1)&&(ß (Int.toNat a.1))) (Û ((ile 0 a.1)&&(ß (Int.toNat a.1))) (Ê (fun(e:bx) i=>iL a.2 (Õ a.2) e.1 e.2 (fun j l=>i (j,l)) (fun m=>Ê (fun(d:y8) n=>Š a.1 (List.replicate (Int.toNat a.1) (0:Int)) d.1 d.2.1 d.2.2 (fun o p q=>n (o,p,q)) (fun f=>Ê (fun(c:Val aV) r=>ĭ h m a.1 a.2 c.1 c.2.1 c.2.2.1 c.2.2.2 (fun s t u v=>r (s,t,u,v)) (fun b=>ifb (!b.1) (k ([],false)) (Û (ilt 0 (ç b.2.1)) (Ħ b.2.1 0 fun w=>Ê (fun(g:ge) x=>jN w (Õ b.2.1) g.1 g.2 (fun y z=>x (y,z)) (fun A=>k (A,true))) ((0:Int),b.2.1))))) ((List.replicate (Int.toNat a.1) (0:Int)),f.1,(List.replicate (Int.toNat a.1) (0:Int)),f.2))) ((0:Int),(List.replicate (Int.toNat a.1) false),[]))) ((0:Int),(0:Int)))))
def mc (a:im) (b:Val au):BY (py):=Ap a b some
def Dv (a:im) (k:Val bg->BY ρ):BY ρ :=
  Ä (sc a) fun b=>ifb (ine b.1 0) (k (false,b.1)) (Ä (mc a ([])) fun c=>k (c.2,(0:Int)))
def oj (a:im):BY ((Val bg)):=Dv a some
def Ki (a:a8) (b:b5) (k:Bool->BY ρ):BY ρ :=
  Ä (jf a b) fun c=>Ä (jx c) fun d=>Ä (oj d.1) fun e=>k e.1
def ε (a:a8) (b:b5):BY (Bool):=Ki a b some
def lH (c:a7) (d:Int) (e:Int) (f:Int) (g:fx) (h:bl) (i:fy) (j:c7) (k:bl) (l:c9) (a:Int) (m:Int->BY ρ) (n:th->BY ρ) (o:Unit->BY ρ):BY ρ :=
  ifb (ilt a d) (ï c a fun b=>Ä (ε (((e,f),g,h,i,j,k),l) b) fun p=>ifb p (n (b,true)) (ck (a+(1:Int)) fun q=>m q)) (o ())
def F8 (a:a8) (k:th->BY ρ):BY ρ :=
  Ä (uj a) fun b=>Ê (fun(d:Int) e=>lH b (Õ b) a.1.1.1 a.1.1.2 a.1.2.1 a.1.2.2.1 a.1.2.2.2.1 a.1.2.2.2.2.1 a.1.2.2.2.2.2 a.2 d (fun f=>e f) (fun c=>k (c.1,c.2)) (fun _=>k ([],false))) (0:Int)
def ă (a:a8):BY (th):=F8 a some
def s9 (b:fx) (c:Int) (d:Int) (a:Int) (e:Int->BY ρ) (f:Int->BY ρ) (g:Unit->BY ρ):BY ρ :=
  ifb (ilt a c) (ï b a fun h=>ifb (ieq h.1 d) (f a) (ck (a+(1:Int)) fun i=>e i)) (g ())
def Yb (a:a8) (c:Int) (b:Int) (k:Int->BY ρ):BY ρ :=
  ifb (ilt b 0) (k (1:Int)) (ifb (igt b 20000) (k (1:Int)) (Ê (fun(d:Int) e=>s9 a.1.2.1 (Õ a.1.2.1) c d (fun f=>e f) (fun g=>ifb (!(ige g 0)) (k (5:Int)) (k (0:Int))) (fun _=>k (5:Int))) (0:Int)))
def wd (a:a8) (b:Int) (c:Int):BY (Int):=Yb a b c some
def TA (a:an) (b:an) (k:(Val (.pair ab aE))->BY ρ):BY ρ :=
  Ä (nQ a) fun c=>ifb (!c) (k ([],[],(1:Int))) (Ä (nQ b) fun d=>ifb (!d) (k ([],[],(1:Int))) (Ä (θ a b) fun e=>Ä (θ b a) fun f=>k (e,f,(0:Int))))
def qJ (a:an) (b:an):BY ((Val (.pair ab aE))):=TA a b some
def lJ (g:Int) (b:Int) (c:c7) (a:Int) (d:Int->BY ρ) (h:Int->BY ρ) (i:Unit->BY ρ):BY ρ :=
  ifb (ilt a g) (Û ((ile 0 a)&&(ilt a (ç c))) (Ħ c (Int.toNat a) fun e=>Ä (qJ e.2.2.1 e.2.2.2.1) fun f=>Ä (è f.1 b) fun j=>ifb j (ck (a+(1:Int)) fun k=>d k) (Ä (è f.2.1 b) fun l=>ifb (!l) (h a) (ck (a+(1:Int)) fun m=>d m)))) (i ())
def Θ (f:Int) (a:Int) (c:Int) (b:c7) (e:Int->Int->c7->BY ρ) (h:Val aZ->BY ρ):BY ρ :=
  ifb (ilt c (Õ b)) (Û ((ile 0 c)&&(ilt c (ç b))) (Ħ b (Int.toNat c) fun d=>Ä (qJ d.2.2.1 d.2.2.2.1) fun g=>Ä (è g.1 f) fun i=>ifb i (Û ((ile 0 a)&&(ilt a (ç b))) (Ħ b (Int.toNat a) fun p=>ck (a+(1:Int)) fun j=>ck (c+(1:Int)) fun k=>e j k (List.set b (Int.toNat a) d))) (Ä (è g.2.1 f) fun l=>ifb (!(!l)) (Û ((ile 0 a)&&(ilt a (ç b))) (Ħ b (Int.toNat a) fun q=>ck (a+(1:Int)) fun m=>ck (c+(1:Int)) fun n=>e m n (List.set b (Int.toNat a) d))) (ck (c+(1:Int)) fun o=>e a o b)))) (h (a,b))
def wP (b:a8) (c:Int) (k:Val bg->BY ρ):BY ρ :=
  Ä (ζ b) fun f=>ifb (ine f 0) (k (false,f)) (Ä (wd b c (0:Int)) fun g=>ifb (ine g 0) (k (false,g)) (Û (ß (List.length b.1.2.2.2.2.1)) (Ê (fun(h:Int) i=>lJ (Õ b.1.2.2.2.2.1) c b.1.2.2.2.2.1 h (fun j=>i j) (fun d=>ifb (ieq d (-1:Int)) (Ä (ă b) fun l=>k ((!l.2),(0:Int))) (ck (d+(1:Int)) fun m=>Ê (fun(e:y9) n=>Θ c e.1 e.2.1 e.2.2 (fun o p q=>n (o,p,q)) (fun a=>Û ((ile 0 a.1)&&(ile a.1 (ç a.2))) (Û ((ile 0 a.1)&&(ile a.1 (ç (List.take (Int.toNat a.1) a.2++List.replicate (List.length a.2-(Int.toNat a.1)) ((0:Int),(0:Int),[],[],(0:Int),(0:Int),(0:Int),(0:Int))++List.drop ((Int.toNat a.1)+(List.length a.2-(Int.toNat a.1))) a.2)))) (Ä (ă ((b.1.1,b.1.2.1,b.1.2.2.1,b.1.2.2.2.1,(List.take (Int.toNat a.1) (List.drop 0 (List.take (Int.toNat a.1) a.2++List.replicate (List.length a.2-(Int.toNat a.1)) ((0:Int),(0:Int),[],[],(0:Int),(0:Int),(0:Int),(0:Int))++List.drop ((Int.toNat a.1)+(List.length a.2-(Int.toNat a.1))) a.2))),b.1.2.2.2.2.2),b.2)) fun r=>k ((!r.2),(0:Int)))))) (d,m,b.1.2.2.2.2.1))) (fun _=>Ä (ă b) fun s=>k ((!s.2),(0:Int)))) (0:Int))))
def ql (a:a8) (b:Int):BY ((Val bg)):=wP a b some
def wN (c:Int) (d:an) (b:c7) (a:Int) (e:Int->BY ρ) (f:Int->BY ρ) (g:Unit->BY ρ):BY ρ :=
  ifb (ilt a c) (Û ((ile 0 a)&&(ilt a (ç b))) (Ħ b (Int.toNat a) fun h=>Ä (è d h.1) fun i=>ifb (!i) (f a) (ck (a+(1:Int)) fun j=>e j))) (g ())
def ny (f:an) (b:Int) (c:Int) (a:c7) (d:Int->Int->c7->BY ρ) (g:Val aZ->BY ρ):BY ρ :=
  ifb (ilt c (Õ a)) (Û ((ile 0 c)&&(ilt c (ç a))) (Ħ a (Int.toNat c) fun e=>Ä (è f e.1) fun h=>ifb (!(!h)) (Û ((ile 0 b)&&(ilt b (ç a))) (Ħ a (Int.toNat b) fun l=>ck (b+(1:Int)) fun i=>ck (c+(1:Int)) fun j=>d i j (List.set a (Int.toNat b) e))) (ck (c+(1:Int)) fun k=>d b k a))) (g (b,a))
def UY (b:a8) (e:an) (k:a8->BY ρ):BY ρ :=
  Û (ß (List.length b.1.2.2.2.2.1)) (Ê (fun(f:Int) g=>wN (Õ b.1.2.2.2.2.1) e b.1.2.2.2.2.1 f (fun h=>g h) (fun c=>ifb (ieq c (-1:Int)) (k b) (ck (c+(1:Int)) fun i=>Ê (fun(d:y9) j=>ny e d.1 d.2.1 d.2.2 (fun l m n=>j (l,m,n)) (fun a=>Û ((ile 0 a.1)&&(ile a.1 (ç a.2))) (Û ((ile 0 a.1)&&(ile a.1 (ç (List.take (Int.toNat a.1) a.2++List.replicate (List.length a.2-(Int.toNat a.1)) ((0:Int),(0:Int),[],[],(0:Int),(0:Int),(0:Int),(0:Int))++List.drop ((Int.toNat a.1)+(List.length a.2-(Int.toNat a.1))) a.2)))) (k ((b.1.1,b.1.2.1,b.1.2.2.1,b.1.2.2.2.1,(List.take (Int.toNat a.1) (List.drop 0 (List.take (Int.toNat a.1) a.2++List.replicate (List.length a.2-(Int.toNat a.1)) ((0:Int),(0:Int),[],[],(0:Int),(0:Int),(0:Int),(0:Int))++List.drop ((Int.toNat a.1)+(List.length a.2-(Int.toNat a.1))) a.2))),b.1.2.2.2.2.2),b.2))))) (c,i,b.1.2.2.2.2.1))) (fun _=>k b)) (0:Int))
def BA (a:a8) (b:an):BY a8:=UY a b some
def wS (d:c7) (e:Int) (a:Int) (b:an) (f:Int->an->BY ρ) (g:an->BY ρ):BY ρ :=
  ifb (ilt a e) (ï d a fun c=>Û (ß ((List.length b)+(List.length ([c.1])))) (ck (a+(1:Int)) fun h=>f h (b++([c.1])))) (g b)
def qZ (f:Int) (g:Int) (h:fx) (i:bl) (j:fy) (k:c7) (l:bl) (m:c9) (b:an) (a:Int) (d:an->Int->BY ρ) (n:an->BY ρ):BY ρ :=
  ifb (ige a 0) (Û ((ile 0 a)&&(ile a (ç b))) (ck (a+(1:Int)) fun c=>Û ((ile 0 c)&&(ile c (ç b))) (Ä (Ī ([(List.take (Int.toNat a) b),(List.drop (Int.toNat c) b)])) fun e=>Ä (BA (((f,g),h,i,j,k,l),m) e) fun o=>Ä (ă o) fun p=>ifb (!p.2) (ck (a-(1:Int)) fun q=>d e q) (ck (a-(1:Int)) fun r=>d b r)))) (n b)
def acF (a:a8) (k:nj->BY ρ):BY ρ :=
  Ä (ζ a) fun b=>ifb (ine b 0) (k ([],b)) (Ä (ă a) fun f=>ifb f.2 (k ([],(5:Int))) (Ê (fun(c:ge) g=>wS a.1.2.2.2.2.1 (Õ a.1.2.2.2.2.1) c.1 c.2 (fun h i=>g (h,i)) (fun d=>ck ((Õ d)-(1:Int)) fun j=>Ê (fun(e:nj) l=>qZ a.1.1.1 a.1.1.2 a.1.2.1 a.1.2.2.1 a.1.2.2.2.1 a.1.2.2.2.2.1 a.1.2.2.2.2.2 a.2 e.1 e.2 (fun m n=>l (m,n)) (fun o=>k (o,(0:Int)))) (d,j))) ((0:Int),[])))
def Md (a:a8):BY (nj):=acF a some
def pQ (e:Int) (f:an) (g:Int) (a:Int) (b:an) (c:Int->an->BY ρ) (h:an->BY ρ):BY ρ :=
  ifb (ilt a g) (ï f a fun d=>Û (ile 0 a) (ifb (ieq (andI .i64 (iX .i64 e a) (1:Int)) 1) (Û (ß ((List.length b)+(List.length ([d])))) (ck (a+(1:Int)) fun i=>c i (b++([d])))) (ck (a+(1:Int)) fun j=>c j b))) (h b)
def SW (a:an) (c:Int) (k:an->BY ρ):BY ρ :=
  Ê (fun(b:ge) d=>pQ c a (Õ a) b.1 b.2 (fun e f=>d (e,f)) (fun g=>k g)) ((0:Int),[])
def ju (a:an) (b:Int):BY (an):=SW a b some
def mB (b:c7) (c:Int) (d:Int) (a:Int) (e:Int->BY ρ) (f:Int->BY ρ) (g:Unit->BY ρ):BY ρ :=
  ifb (ilt a c) (ï b a fun h=>ifb (ieq h.1 d) (f a) (ck (a+(1:Int)) fun i=>e i)) (g ())
def iF (d:an) (e:Int) (b:c7) (a:Int) (f:Int->BY ρ) (c:Int->BY ρ) (g:Unit->BY ρ):BY ρ :=
  ifb (ilt a e) (ï d a fun h=>Ê (fun(i:Int) j=>mB b (Õ b) h i (fun k=>j k) (fun l=>ifb (!(ige l 0)) (c (5:Int)) (ck (a+(1:Int)) fun m=>f m)) (fun _=>c (5:Int))) (0:Int)) (g ())
def jG (b:an) (a:Int) (c:Int->BY ρ) (d:Int->BY ρ) (e:Unit->BY ρ):BY ρ :=
  ifb (ilt a (Õ b)) (ï b a fun f=>ck (a-(1:Int)) fun g=>ï b g fun h=>ifb (ile f h) (d (6:Int)) (ck (a+(1:Int)) fun i=>c i)) (e ())
def jF (c:a7) (d:Int) (e:Int) (f:Int) (g:fx) (h:bl) (i:fy) (j:c7) (k:bl) (l:c9) (m:an) (n:Int) (a:Int) (o:Int->BY ρ) (p:th->BY ρ) (q:Unit->BY ρ):BY ρ :=
  ifb (ilt a d) (ï c a fun b=>Ä (ju m n) fun r=>Ä (BA (((e,f),g,h,i,j,k),l) r) fun s=>Ä (ε s b) fun t=>ifb (!(!t)) (p (b,true)) (ck (a+(1:Int)) fun u=>o u)) (q ())
def ź (b:an) (e:an) (f:Int) (a:Int) (g:Int->BY ρ) (c:Int->BY ρ) (h:Unit->BY ρ):BY ρ :=
  ifb (ilt a f) (ï e a fun i=>ifb (ige a (Õ b)) (c (1:Int)) (ï b a fun j=>Ä (iP i j) fun d=>ifb (ine d 0) (c d) (ck (a+(1:Int)) fun k=>g k))) (h ())
def ş (c:Int) (d:Int) (b:an) (a:Int) (e:Int->BY ρ) (f:Unit->BY ρ) (g:Unit->BY ρ):BY ρ :=
  ifb (ilt a d) (Û ((ile 0 a)&&(ilt a (ç b))) (Ħ b (Int.toNat a) fun h=>ifb (ieq (JW .i64 c h) 0) (f ()) (ck (a+(1:Int)) fun i=>e i))) (g ())
def Ş (b:Int) (d:a7) (e:Int) (f:an) (g:Int) (h:Int) (i:fx) (j:bl) (k:fy) (l:c7) (m:bl) (n:c9) (c:Int) (a:an) (o:Int->an->BY ρ) (p:an->BY ρ) (q:an->BY ρ):BY ρ :=
  ifb (ilt c e) (ï d c fun r=>Ä (ju f b) fun s=>Ä (BA (((g,h),i,j,k,l,m),n) s) fun t=>Ä (ε t r) fun u=>ifb (!(!u)) (Û (ß ((List.length a)+(List.length ([b])))) (p (a++([b])))) (ck (c+(1:Int)) fun v=>o v a)) (q a)
def Ż (g:a7) (t:Int) (h:an) (i:Int) (j:Int) (k:fx) (l:bl) (m:fy) (n:c7) (o:bl) (p:c9) (c:an) (e:Int) (a:Int) (b:an) (d:an->Int->Int->an->BY ρ) (u:ge->BY ρ):BY ρ :=
  ifb (ilt a t) (Ä (ju h a) fun f=>ifb (igt (Õ f) (Õ c)) (ck (a+(1:Int)) fun v=>d c e v b) (ifb (ieq (Õ f) (Õ c)) (Ê (fun(w:Int) x=>ź c f (Õ f) w (fun y=>x y) (fun z=>ifb (ige z 0) (ck (a+(1:Int)) fun A=>d c e A b) (Ê (fun(B:Int) C=>ş a (Õ b) b B (fun D=>C D) (fun _=>ck (a+(1:Int)) fun E=>d c e E b) (fun _=>Ê (fun(q:ge) F=>Ş a g (Õ g) h i j k l m n o p q.1 q.2 (fun G H=>F (G,H)) (fun I=>ck (a+(1:Int)) fun J=>d c e J I) (fun K=>ck (a+(1:Int)) fun L=>d f a L K)) ((0:Int),b))) (0:Int))) (fun _=>ifb (ilt (Õ f) (Õ c)) (Ê (fun(M:Int) N=>ş a (Õ b) b M (fun O=>N O) (fun _=>ck (a+(1:Int)) fun P=>d c e P b) (fun _=>Ê (fun(r:ge) Q=>Ş a g (Õ g) h i j k l m n o p r.1 r.2 (fun R S=>Q (R,S)) (fun T=>ck (a+(1:Int)) fun U=>d c e U T) (fun V=>ck (a+(1:Int)) fun W=>d f a W V)) ((0:Int),b))) (0:Int)) (ck (a+(1:Int)) fun X=>d c e X b))) (0:Int)) (Ê (fun(Y:Int) Z=>ş a (Õ b) b Y (fun dc=>Z dc) (fun _=>ck (a+(1:Int)) fun de=>d c e de b) (fun _=>Ê (fun(s:ge) df=>Ş a g (Õ g) h i j k l m n o p s.1 s.2 (fun dg dh=>df (dg,dh)) (fun di=>ck (a+(1:Int)) fun dj=>d c e dj di) (fun dk=>ck (a+(1:Int)) fun dl=>d f a dl dk)) ((0:Int),b))) (0:Int)))) (u (e,b))
def zK (a:a8) (b:an) (k:nj->BY ρ):BY ρ :=
  Ä (ζ a) fun g=>ifb (ine g 0) (k ([],g)) (ifb (igt (Õ b) 8) (k ([],(2:Int))) (Ê (fun(h:Int) i=>iF b (Õ b) a.1.2.2.2.2.1 h (fun j=>i j) (fun l=>k ([],l)) (fun _=>Ê (fun(m:Int) n=>jG b m (fun o=>n o) (fun p=>k ([],p)) (fun _=>Ä (uj a) fun d=>Û (ile 0 (Õ b)) (ck ((shlI .i64 (1:Int) (Õ b))-(1:Int)) fun c=>Ê (fun(q:Int) r=>jF d (Õ d) a.1.1.1 a.1.1.2 a.1.2.1 a.1.2.2.1 a.1.2.2.2.1 a.1.2.2.2.2.1 a.1.2.2.2.2.2 a.2 b c q (fun s=>r s) (fun t=>ifb t.2 (k ([],(5:Int))) (Ê (fun(e:(Val (.pair ab bc))) u=>Ż d c b a.1.1.1 a.1.1.2 a.1.2.1 a.1.2.2.1 a.1.2.2.2.1 a.1.2.2.2.2.1 a.1.2.2.2.2.2 a.2 e.1 e.2.1 e.2.2.1 e.2.2.2 (fun v w x y=>u (v,w,x,y)) (fun z=>Ä (ju b z.1) fun A=>k (A,(0:Int)))) (b,c,(0:Int),[]))) (fun _=>Ê (fun(f:(Val (.pair ab bc))) B=>Ż d c b a.1.1.1 a.1.1.2 a.1.2.1 a.1.2.2.1 a.1.2.2.2.1 a.1.2.2.2.2.1 a.1.2.2.2.2.2 a.2 f.1 f.2.1 f.2.2.1 f.2.2.2 (fun C D E F=>B (C,D,E,F)) (fun G=>Ä (ju b G.1) fun H=>k (H,(0:Int)))) (b,c,(0:Int),[]))) (0:Int)))) (1:Int))) (0:Int)))
def uk (a:a8) (b:an):BY (nj):=zK a b some
def lL (b:an) (c:an) (a:Int) (d:Int->BY ρ) (e:Bool->BY ρ) (f:Unit->BY ρ):BY ρ :=
  ifb (ilt a (Õ b)) (ï b a fun g=>ï c a fun h=>ifb (ine g h) (e false) (ck (a+(1:Int)) fun i=>d i)) (f ())
def GM (a:an) (b:an) (k:Bool->BY ρ):BY ρ :=
  ifb (ine (Õ a) (Õ b)) (k false) (Ê (fun(c:Int) d=>lL a b c (fun e=>d e) (fun f=>k f) (fun _=>k true)) (0:Int))
def η (a:an) (b:an):BY (Bool):=GM a b some
def Ex (a:a7) (y:b5) (b:a7->BY ρ):BY ρ :=
  Û (ß ((List.length a)+(List.length ([y])))) (b (a++([y])))
def wO (c:Int) (d:Int) (e:Int) (f:fx) (g:bl) (h:fy) (i:c7) (j:bl) (k:c9) (b:a7) (a:Int) (l:Int->BY ρ) (m:Int->BY ρ) (n:Unit->BY ρ):BY ρ :=
  ifb (ilt a c) (Û ((ile 0 a)&&(ilt a (ç b))) (Ħ b (Int.toNat a) fun o=>Ä (ε (((d,e),f,g,h,i,j),k) o) fun p=>ifb (!p) (m a) (ck (a+(1:Int)) fun q=>l q))) (n ())
def nz (f:Int) (g:Int) (h:fx) (i:bl) (j:fy) (k:c7) (l:bl) (m:c9) (b:Int) (c:Int) (a:a7) (d:Int->Int->a7->BY ρ) (n:io->BY ρ):BY ρ :=
  ifb (ilt c (Õ a)) (Û ((ile 0 c)&&(ilt c (ç a))) (Ħ a (Int.toNat c) fun e=>Ä (ε (((f,g),h,i,j,k,l),m) e) fun o=>ifb (!(!o)) (Û ((ile 0 b)&&(ilt b (ç a))) (Ħ a (Int.toNat b) fun s=>ck (b+(1:Int)) fun p=>ck (c+(1:Int)) fun q=>d p q (List.set a (Int.toNat b) e))) (ck (c+(1:Int)) fun r=>d b r a))) (n (b,a))
def U3 (b:a8) (k:a7->BY ρ):BY ρ :=
  Ä (nM b.2) fun g=>AO (fun(h:a7) (i:b5) j=>Ex h i (fun l=>j l)) g ([]) (fun f=>Ä (ĺ f (Õ f) b) fun c=>Ê (fun(m:Int) n=>wO (Õ c.1) b.1.1.1 b.1.1.2 b.1.2.1 b.1.2.2.1 b.1.2.2.2.1 b.1.2.2.2.2.1 b.1.2.2.2.2.2 b.2 c.1 m (fun o=>n o) (fun d=>ifb (ieq d (-1:Int)) (k c.1) (ck (d+(1:Int)) fun p=>Ê (fun(e:y5) q=>nz b.1.1.1 b.1.1.2 b.1.2.1 b.1.2.2.1 b.1.2.2.2.1 b.1.2.2.2.2.1 b.1.2.2.2.2.2 b.2 e.1 e.2.1 e.2.2 (fun r s t=>q (r,s,t)) (fun a=>Û ((ile 0 a.1)&&(ile a.1 (ç a.2))) (Û ((ile 0 a.1)&&(ile a.1 (ç (List.take (Int.toNat a.1) a.2++List.replicate (List.length a.2-(Int.toNat a.1)) ([])++List.drop ((Int.toNat a.1)+(List.length a.2-(Int.toNat a.1))) a.2)))) (k (List.take (Int.toNat a.1) (List.drop 0 (List.take (Int.toNat a.1) a.2++List.replicate (List.length a.2-(Int.toNat a.1)) ([])++List.drop ((Int.toNat a.1)+(List.length a.2-(Int.toNat a.1))) a.2))))))) (d,p,c.1))) (fun _=>k c.1)) (0:Int))
def BC (a:a8):BY (a7):=U3 a some
def Y0 (a:b6) (d:bx) (k:bx->BY ρ):BY ρ :=
  Ä (κ a) fun b=>ifb (ine b 0) (k ((0:Int),b)) (Ä (se a) fun e=>Ä (û e d) fun c=>ifb (ilt c 0) (k ((0:Int),(5:Int))) (ck (c+(1:Int)) fun f=>k (f,(0:Int))))
def sf (a:b6) (b:bx):BY bx:=Y0 a b some
def xz (f:Int) (a:Int) (c:c7) (g:Int->c7->BY ρ) (h:c7->BY ρ):BY ρ :=
  ifb (ilt a f) (Û ((ile 0 a)&&(ilt a (ç c))) (Ħ c (Int.toNat a) fun d=>Û (ß (List.length d.2.2.1)) (Û (ß (List.length d.2.2.2.1)) (Û ((ile 0 a)&&(ilt a (ç c))) (Ħ c (Int.toNat a) fun b=>Û ((ile 0 a)&&(ilt a (ç (List.set c (Int.toNat a) (b.1,b.2.1,d.2.2.1,b.2.2.2))))) (Ħ (List.set c (Int.toNat a) (b.1,b.2.1,d.2.2.1,b.2.2.2)) (Int.toNat a) fun e=>ck (a+(1:Int)) fun i=>g i (List.set (List.set c (Int.toNat a) (b.1,b.2.1,d.2.2.1,b.2.2.2)) (Int.toNat a) (e.1,e.2.1,e.2.2.1,d.2.2.2.1,e.2.2.2.2)))))))) (h c)
def ac3 (a:b6) (b:bx) (k:Val bm->BY ρ):BY ρ :=
  Ä (κ a) fun c=>ifb (ine c 0) (k ((((0:Int),(0:Int)),[],[],[],[],[]),c)) (Û (ß (List.length a.2.1)) (Û (ß (List.length a.2.2.1)) (Û (ß (List.length a.2.2.2.1)) (Û (ß (List.length a.2.2.2.2.2)) (Û (ß (List.length a.2.2.2.2.1)) (Ê (fun(d:Val aZ) g=>xz (Õ a.2.2.2.2.1) d.1 d.2 (fun h i=>g (h,i)) (fun e=>Û (ß ((List.length a.2.2.2.2.2)+(List.length ([b])))) (Ä (κ (a.1,a.2.1,a.2.2.1,a.2.2.2.1,e,(a.2.2.2.2.2++([b])))) fun f=>ifb (ine f 0) (k ((((0:Int),(0:Int)),[],[],[],[],[]),f)) (k ((a.1,a.2.1,a.2.2.1,a.2.2.2.1,e,(a.2.2.2.2.2++([b]))),(0:Int)))))) ((0:Int),a.2.2.2.2.1)))))))
def Ml (a:b6) (b:bx):BY ((Val bm)):=ac3 a b some
def tR (b:an) (c:Int) (d:Int) (e:hO) (a:Int) (f:Int->BY ρ) (g:Int->BY ρ) (h:Unit->BY ρ):BY ρ :=
  ifb (ilt a c) (ï b a fun i=>Ä (BN (d,e) i) fun j=>ifb (!j) (g (1:Int)) (ck (a+(1:Int)) fun k=>f k)) (h ())
def YJ (a:im) (b:an) (k:Int->BY ρ):BY ρ :=
  Ä (sc a) fun c=>ifb (ine c.1 0) (k c.1) (Ê (fun(d:Int) e=>tR b (Õ b) a.1 a.2 d (fun f=>e f) (fun g=>k g) (fun _=>Ä (mc a ([])) fun h=>ifb (!h.2) (k (9:Int)) (k (0:Int)))) (0:Int))
def Ia (a:im) (b:an):BY (Int):=YJ a b some
def qf (c:Int) (a:Int) (b:an) (d:Int->an->BY ρ) (e:an->BY ρ):BY ρ :=
  ifb (ilt a c) (Û ((ile 0 a)&&(ilt a (ç b))) (Ħ b (Int.toNat a) fun g=>ck (a+(1:Int)) fun f=>d f (List.set b (Int.toNat a) (1152921504606846976:Int)))) (e b)
def xj (c:hO) (d:Int) (b:Int) (a:Int) (e:Int->Int->BY ρ) (f:Int->BY ρ):BY ρ :=
  ifb (ilt a d) (ï c a fun g=>ck (b+(Z3 g.2.2 (0:Int))) fun h=>ck (a+(1:Int)) fun i=>e h i) (f b)
def xi (f:Int) (d:an) (a:Int) (b:xa) (c:an) (e:Int->xa->an->BY ρ) (g:Val aU->BY ρ):BY ρ :=
  ifb (ilt a f) (Û ((ile 0 a)&&(ilt a (ç d))) (Ħ d (Int.toNat a) fun h=>ifb (ine h 1152921504606846976) (Û (ß ((List.length c)+(List.length ([a])))) (Û ((ile 0 a)&&(ilt a (ç b))) (Ħ b (Int.toNat a) fun k=>ck (a+(1:Int)) fun i=>e i (List.set b (Int.toNat a) true) (c++([a]))))) (ck (a+(1:Int)) fun j=>e j b c))) (g (b,c))
def GZ (m:Val au) (j:Int) (d:Int) (n:hO) (o:Int) (f:Int) (b:an) (c:xa) (e:an) (g:Int->an->xa->an->BY ρ) (l:(Val (.pair .bool (.pair ab aU)))->BY ρ) (p:(Val (.pair ab aU))->BY ρ):BY ρ :=
  ifb (ilt f o) (ï n f fun a=>ifb (ine a.1 d) (ck (f+(1:Int)) fun q=>g q b c e) (Qt (k:=tI) (v:=.bool) f m (fun r=>ifb r (ck (f+(1:Int)) fun s=>g s b c e) (Û ((ile 0 d)&&(ilt d (ç b))) (Ħ b (Int.toNat d) fun t=>ck (t+a.2.2) fun u=>Û ((ile 0 a.2.1)&&(ilt a.2.1 (ç b))) (Ħ b (Int.toNat a.2.1) fun w=>ifb (ige u w) (ck (f+(1:Int)) fun x=>g x b c e) (Û ((ile 0 d)&&(ilt d (ç b))) (Ħ b (Int.toNat d) fun y=>ck (y+a.2.2) fun h=>Û ((ile 0 a.2.1)&&(ilt a.2.1 (ç b))) (Ħ b (Int.toNat a.2.1) fun M=>Û ((ile 0 a.2.1)&&(ilt a.2.1 (ç (List.set b (Int.toNat a.2.1) h)))) (Ħ (List.set b (Int.toNat a.2.1) h) (Int.toNat a.2.1) fun z=>ifb (ilt z j) (l (false,(List.set b (Int.toNat a.2.1) h),c,e)) (Û ((ile 0 a.2.1)&&(ilt a.2.1 (ç c))) (Ħ c (Int.toNat a.2.1) fun A=>ifb (!A) (Û (ß ((List.length e)+(List.length ([a.2.1])))) (Û ((ile 0 a.2.1)&&(ilt a.2.1 (ç c))) (Ħ c (Int.toNat a.2.1) fun N=>ck (f+(1:Int)) fun B=>g B (List.set b (Int.toNat a.2.1) h) (List.set c (Int.toNat a.2.1) true) (e++([a.2.1]))))) (ck (f+(1:Int)) fun C=>g C (List.set b (Int.toNat a.2.1) h) c e))))))))))) (Û ((ile 0 d)&&(ilt d (ç b))) (Ħ b (Int.toNat d) fun D=>ck (D+a.2.2) fun E=>Û ((ile 0 a.2.1)&&(ilt a.2.1 (ç b))) (Ħ b (Int.toNat a.2.1) fun F=>ifb (ige E F) (ck (f+(1:Int)) fun G=>g G b c e) (Û ((ile 0 d)&&(ilt d (ç b))) (Ħ b (Int.toNat d) fun H=>ck (H+a.2.2) fun i=>Û ((ile 0 a.2.1)&&(ilt a.2.1 (ç b))) (Ħ b (Int.toNat a.2.1) fun O=>Û ((ile 0 a.2.1)&&(ilt a.2.1 (ç (List.set b (Int.toNat a.2.1) i)))) (Ħ (List.set b (Int.toNat a.2.1) i) (Int.toNat a.2.1) fun I=>ifb (ilt I j) (l (false,(List.set b (Int.toNat a.2.1) i),c,e)) (Û ((ile 0 a.2.1)&&(ilt a.2.1 (ç c))) (Ħ c (Int.toNat a.2.1) fun J=>ifb (!J) (Û (ß ((List.length e)+(List.length ([a.2.1])))) (Û ((ile 0 a.2.1)&&(ilt a.2.1 (ç c))) (Ħ c (Int.toNat a.2.1) fun P=>ck (f+(1:Int)) fun K=>g K (List.set b (Int.toNat a.2.1) i) (List.set c (Int.toNat a.2.1) true) (e++([a.2.1]))))) (ck (f+(1:Int)) fun L=>g L (List.set b (Int.toNat a.2.1) i) c e)))))))))))) (p (b,c,e))
def xh (l:Val au) (m:Int) (n:Int) (k:hO) (h:an) (d:xa) (b:an) (c:an) (o:an->xa->an->an->BY ρ) (i:(Val (.pair .bool aV))->BY ρ):BY ρ :=
  ifb (ieq (Õ c) 0) (i (true,h,d,b,c)) (Û (ilt 0 (ç c)) (Ħ c 0 fun a=>Û (ile 1 (ç c)) (Û (decide (1+(List.length c-1)=List.length c)) (Û ((ile 0 a)&&(ilt a (ç d))) (Ħ d (Int.toNat a) fun x=>Û ((ile 0 a)&&(ilt a (ç b))) (Ħ b (Int.toNat a) fun p=>ck (p+(1:Int)) fun e=>Û ((ile 0 a)&&(ilt a (ç b))) (Ħ b (Int.toNat a) fun y=>Û ((ile 0 a)&&(ilt a (ç (List.set b (Int.toNat a) e)))) (Ħ (List.set b (Int.toNat a) e) (Int.toNat a) fun q=>ck (n+(1:Int)) fun r=>ifb (igt q r) (i (false,h,(List.set d (Int.toNat a) false),(List.set b (Int.toNat a) e),(List.drop 1 c))) (Ê (fun(f:ni) s=>GZ l m a k (Õ k) f.1 f.2.1 f.2.2.1 f.2.2.2 (fun t u v w=>s (t,u,v,w)) (fun g=>i (g.1,g.2.1,g.2.2.1,(List.set b (Int.toNat a) e),g.2.2.2)) (fun j=>o j.1 j.2.1 (List.set b (Int.toNat a) e) j.2.2)) ((0:Int),h,(List.set d (Int.toNat a) false),(List.drop 1 c)))))))))))
def Jq (a:im) (i:Val au) (b:Int) (k:an->BY ρ):BY ρ :=
  Û ((ile 0 a.1)&&(ß (Int.toNat a.1))) (Ê (fun(f:ge) j=>qf (Õ (List.replicate (Int.toNat a.1) (0:Int))) f.1 f.2 (fun l m=>j (l,m)) (fun c=>Û ((ile 0 b)&&(ilt b (ç c))) (Ħ c (Int.toNat b) fun B=>Û ((ile 0 a.1)&&(ß (Int.toNat a.1))) (Û ((ile 0 a.1)&&(ß (Int.toNat a.1))) (Ê (fun(g:bx) n=>xj a.2 (Õ a.2) g.1 g.2 (fun o p=>n (o,p)) (fun q=>Ê (fun(e:y8) r=>xi a.1 (List.set c (Int.toNat b) (0:Int)) e.1 e.2.1 e.2.2 (fun s t u=>r (s,t,u)) (fun h=>Ê (fun(d:Val aV) v=>xh i q a.1 a.2 d.1 d.2.1 d.2.2.1 d.2.2.2 (fun w x y z=>v (w,x,y,z)) (fun A=>k A.2.1)) ((List.set c (Int.toNat b) (0:Int)),h.1,(List.replicate (Int.toNat a.1) (0:Int)),h.2))) ((0:Int),(List.replicate (Int.toNat a.1) false),[]))) ((0:Int),(0:Int))))))) ((0:Int),(List.replicate (Int.toNat a.1) (0:Int))))
def wm (a:im) (b:Val au) (c:Int):BY (an):=Jq a b c some
def tT (c:Int) (d:Int) (e:hO) (a:Int) (b:an) (f:Int->an->BY ρ) (g:an->BY ρ):BY ρ :=
  ifb (ilt a c) (Ä (wm (d,e) ([]) a) fun h=>ï h (0:Int) fun i=>Û ((ile 0 a)&&(ilt a (ç b))) (Ħ b (Int.toNat a) fun k=>ck (a+(1:Int)) fun j=>f j (List.set b (Int.toNat a) i))) (g b)
def tS (f:an) (g:Int) (c:an) (a:Int) (b:bl) (h:Int->bl->BY ρ) (i:bl->BY ρ):BY ρ :=
  ifb (ilt a g) (Û ((ile 0 a)&&(ilt a (ç c))) (Ħ c (Int.toNat a) fun j=>ck (0-j) fun d=>ï f a fun e=>Û (ß ((List.length b)+(List.length ([(d,e)])))) (ck (a+(1:Int)) fun k=>h k (b++([(d,e)]))))) (i b)
def YK (a:im) (k:(Val (.pair aa tI))->BY ρ):BY ρ :=
  Ä (Ia a ([])) fun b=>ifb (ine b 0) (k ([],b)) (Ä (wm a ([]) (0:Int)) fun c=>Û ((ile 0 a.1)&&(ß (Int.toNat a.1))) (Ê (fun(d:ge) f=>tT (Õ (List.replicate (Int.toNat a.1) (0:Int))) a.1 a.2 d.1 d.2 (fun g h=>f (g,h)) (fun i=>Ê (fun(e:nm) j=>tS c (Õ c) i e.1 e.2 (fun l m=>j (l,m)) (fun n=>k (n,(0:Int)))) ((0:Int),[]))) ((0:Int),(List.replicate (Int.toNat a.1) (0:Int)))))
def wn (a:im):BY ((Val (.pair aa tI))):=YK a some
def SV (a:b6) (b:bx) (k:lA->BY ρ):BY ρ :=
  Ä (sf a b) fun f=>ifb (ine f.2 0) (Ä (Ml a b) fun c=>ifb (ine c.2 0) (k (((0:Int),(0:Int)),c.2)) (Ä (sf c.1 b) fun g=>Ä (jx c.1) fun h=>Ä (wn h.1) fun d=>ifb (ine d.2 0) (k (((0:Int),(0:Int)),d.2)) (ï d.1 g.1 fun i=>k (i,(0:Int))))) (Ä (sf a b) fun j=>Ä (jx a) fun l=>Ä (wn l.1) fun e=>ifb (ine e.2 0) (k (((0:Int),(0:Int)),e.2)) (ï e.1 j.1 fun m=>k (m,(0:Int))))
def BB (a:b6) (b:bx):BY lA:=SV a b some
def pS (r:Int) (e:Int) (s:a7) (t:Int) (f:Int) (g:Int) (h:fx) (i:bl) (j:fy) (l:c7) (m:bl) (n:c9) (c:Int) (a:Val aX) (o:Int->Val aX->BY ρ) (u:(Val (.pair tI aX))->BY ρ) (w:Val aX->BY ρ):BY ρ :=
  ifb (ilt c t) (ï s c fun p=>Ä (rW (((f,g),h,i,j,l,m),n) p r e) fun d=>Ä (jf (((f,g),h,i,j,l,m),n) p) fun x=>Ä (BB x (d,e)) fun b=>ifb (ine b.2 0) (u (b.2,a)) (Qt (k:=tI) (v:=Ç) d a (fun q=>ck (c+(1:Int)) fun y=>o y (Nh (k:=tI) (v:=Ç) d ((Z3 b.1.1 q.1),(Qu b.1.2 q.2)) a)) (ck (c+(1:Int)) fun z=>o z (Nh (k:=tI) (v:=Ç) d b.1 a)))) (w a)
def pR (f:fx) (g:Int) (h:Val aX) (a:Int) (b:hO) (d:Int->hO->BY ρ) (i:hO->BY ρ):BY ρ :=
  ifb (ilt a g) (ï f a fun c=>Qt (k:=tI) (v:=Ç) c.1 h (fun e=>Û (ß ((List.length b)+(List.length ([(c.1,e)])))) (ck (a+(1:Int)) fun j=>d j (b++([(c.1,e)])))) (ck (a+(1:Int)) fun l=>d l b)) (i b)
def SX (a:a8) (c:Int) (d:Int) (k:At->BY ρ):BY ρ :=
  Ä (ζ a) fun e=>ifb (ine e 0) (k ([],e)) (Ä (wd a c d) fun f=>ifb (ine f 0) (k ([],f)) (Ä (BC a) fun b=>ifb (ieq (Õ b) 0) (k ([],(5:Int))) (Ê (fun(g:(Val (.pair tI aX))) i=>pS c d b (Õ b) a.1.1.1 a.1.1.2 a.1.2.1 a.1.2.2.1 a.1.2.2.2.1 a.1.2.2.2.2.1 a.1.2.2.2.2.2 a.2 g.1 g.2 (fun j l=>i (j,l)) (fun m=>k ([],m.1)) (fun n=>Ê (fun(h:im) o=>pR a.1.2.1 (Õ a.1.2.1) n h.1 h.2 (fun p q=>o (p,q)) (fun r=>k (r,(0:Int)))) ((0:Int),[]))) ((0:Int),[]))))
def we (a:a8) (b:Int) (c:Int):BY (At):=SX a b c some
def Br (c:Int) (a:Int) (b:an) (d:Int->an->BY ρ) (e:an->BY ρ):BY ρ :=
  ifb (ilt a c) (Û ((ile 0 a)&&(ilt a (ç b))) (Ħ b (Int.toNat a) fun g=>ck (a+(1:Int)) fun f=>d f (List.set b (Int.toNat a) (1152921504606846976:Int)))) (e b)
def Vm (c:Int) (a:Int) (b:an) (d:Int->an->BY ρ) (e:an->BY ρ):BY ρ :=
  ifb (ilt a c) (Û ((ile 0 a)&&(ilt a (ç b))) (Ħ b (Int.toNat a) fun g=>ck (a+(1:Int)) fun f=>d f (List.set b (Int.toNat a) (1152921504606846976:Int)))) (e b)
def GY (d:an) (f:hO) (g:Int) (c:Int) (b:an) (e:Int->an->BY ρ) (h:an->BY ρ):BY ρ :=
  ifb (ilt c g) (ï f c fun a=>ï d a.2.1 fun i=>ifb (ine i 1152921504606846976) (Û ((ile 0 a.1)&&(ilt a.1 (ç b))) (Ħ b (Int.toNat a.1) fun j=>ï d a.2.1 fun k=>ck (a.2.2+k) fun l=>Û ((ile 0 a.1)&&(ilt a.1 (ç b))) (Ħ b (Int.toNat a.1) fun o=>ck (c+(1:Int)) fun m=>e m (List.set b (Int.toNat a.1) (Z3 j l))))) (ck (c+(1:Int)) fun n=>e n b)) (h b)
def L2 (i:Int) (b:Int) (d:hO) (e:Int) (a:b5) (j:Int->b5->BY ρ) (k:b5->BY ρ):BY ρ :=
  ifb (ilt e i) (ck ((Õ a)-(1:Int)) fun c=>Û ((ile 0 c)&&(ilt c (ç a))) (Ħ a (Int.toNat c) fun l=>Û ((ile 0 b)&&(ß (Int.toNat b))) (Ê (fun(f:ge) m=>Vm (Õ (List.replicate (Int.toNat b) (0:Int))) f.1 f.2 (fun n o=>m (n,o)) (fun p=>Ê (fun(g:ge) q=>GY l d (Õ d) g.1 g.2 (fun r s=>q (r,s)) (fun h=>Û (ß ((List.length a)+(List.length ([h])))) (ck (e+(1:Int)) fun t=>j t (a++([h]))))) ((0:Int),p))) ((0:Int),(List.replicate (Int.toNat b) (0:Int)))))) (k a)
def YI (a:im) (b:Int) (f:Int) (k:b5->BY ρ):BY ρ :=
  Û ((ile 0 a.1)&&(ß (Int.toNat a.1))) (Ê (fun(d:ge) g=>Br (Õ (List.replicate (Int.toNat a.1) (0:Int))) d.1 d.2 (fun h i=>g (h,i)) (fun c=>Û ((ile 0 b)&&(ilt b (ç c))) (Ħ c (Int.toNat b) fun o=>Ê (fun(e:px) j=>L2 f a.1 a.2 e.1 e.2 (fun l m=>j (l,m)) (fun n=>k n)) ((0:Int),[(List.set c (Int.toNat b) (0:Int))])))) ((0:Int),(List.replicate (Int.toNat a.1) (0:Int))))
def H9 (a:im) (b:Int) (c:Int):BY (b5):=YI a b c some
def oS (d:Int) (c:Int) (e:hO) (a:Int) (b:a7) (f:Int->a7->BY ρ) (g:a7->BY ρ):BY ρ :=
  ifb (ilt a d) (Ä (H9 (c,e) a c) fun h=>Û ((ile 0 a)&&(ilt a (ç b))) (Ħ b (Int.toNat a) fun j=>ck (a+(1:Int)) fun i=>f i (List.set b (Int.toNat a) h))) (g b)
def Ko (g:Int) (h:b5) (j:hO) (k:Int) (e:Int) (b:Int) (a:Int) (c:an) (f:Int->Int->Int->an->BY ρ) (i:Val bc->BY ρ):BY ρ :=
  ifb (ilt a k) (ï j a fun d=>ifb (ieq d.1 e) (ck (g-(1:Int)) fun l=>ï h l fun m=>ï m d.2.1 fun n=>ifb (ine n 1152921504606846976) (ck (b+d.2.2) fun o=>ck (g-(1:Int)) fun p=>ï h p fun q=>ï q d.2.1 fun r=>ck (o+r) fun s=>ifb (ilt s 0) (Û (ß ((List.length c)+(List.length ([a])))) (ck (b+d.2.2) fun t=>i (d.2.1,t,(c++([a]))))) (ck (a+(1:Int)) fun u=>f e b u c)) (ck (a+(1:Int)) fun v=>f e b v c)) (ck (a+(1:Int)) fun w=>f e b w c)) (i (e,b,c))
def AB (f:b5) (d:hO) (g:Int) (b:Int) (h:Int) (e:an) (i:Int->Int->Int->an->BY ρ) (j:an->BY ρ):BY ρ :=
  ifb (igt b 0) (Ê (fun(a:An) k=>Ko b f d (Õ d) a.1 a.2.1 a.2.2.1 a.2.2.2 (fun l m n o=>k (l,m,n,o)) (fun c=>ck (b-(1:Int)) fun p=>i c.1 p c.2.1 c.2.2)) (g,h,(0:Int),e)) (j e)
def oR (e:Int) (h:hO) (i:Int) (j:Int) (k:hO) (b:a7) (c:Int) (f:Int->BY ρ) (l:Unit->BY ρ) (m:ge->BY ρ) (n:Unit->BY ρ):BY ρ :=
  ifb (ilt c i) (ï h c fun a=>Û ((ile 0 a.1)&&(ilt a.1 (ç b))) (Ħ b (Int.toNat a.1) fun o=>ck (e-(1:Int)) fun p=>ï o p fun q=>ï q a.2.1 fun g=>ifb (ieq g 1152921504606846976) (ck (c+(1:Int)) fun r=>f r) (ck (a.2.2+g) fun s=>ifb (ige s 0) (ck (c+(1:Int)) fun t=>f t) (ifb (igt e j) (l ()) (Û ((ile 0 a.1)&&(ilt a.1 (ç b))) (Ħ b (Int.toNat a.1) fun u=>Ê (fun(d:An) v=>AB u k d.1 d.2.1 d.2.2.1 d.2.2.2 (fun w x y z=>v (w,x,y,z)) (fun A=>m ((0:Int),A))) (a.1,e,(0:Int),[]))))))) (n ())
def tU (d:Int) (a:hO) (e:a7) (b:Int) (f:Int->BY ρ) (g:Unit->BY ρ) (h:ge->BY ρ):BY ρ :=
  Ê (fun(i:Int) j=>oR b a (Õ a) d a e i (fun k=>j k) (fun _=>g ()) (fun c=>h (c.1,c.2)) (fun _=>ck (b+(1:Int)) fun l=>f l)) (0:Int)
def OZ (a:im) (k:nj->BY ρ):BY ρ :=
  Ä (sc a) fun b=>ifb (ine b.1 0) (k ([],b.1)) (Ä (mc a ([])) fun e=>ifb e.2 (k ([],(5:Int))) (Û ((ile 0 a.1)&&(ß (Int.toNat a.1))) (Ê (fun(c:io) f=>oS (Õ (List.replicate (Int.toNat a.1) ([]:b5))) a.1 a.2 c.1 c.2 (fun g h=>f (g,h)) (fun i=>Ê (fun(j:Int) l=>tU a.1 a.2 i j (fun m=>l m) (fun _=>k ([],(5:Int))) (fun d=>k (d.2,d.1))) (1:Int))) ((0:Int),(List.replicate (Int.toNat a.1) ([]:b5))))))
def pe (a:im):BY (nj):=OZ a some
def tk (d:a7) (e:Int) (f:Int) (g:Int) (h:fx) (i:bl) (j:fy) (k:c7) (l:bl) (m:c9) (b:Int) (a:b5) (n:Int->b5->BY ρ) (o:px->BY ρ) (p:b5->BY ρ):BY ρ :=
  ifb (ilt b e) (ï d b fun q=>Ä (jf (((f,g),h,i,j,k,l),m) q) fun r=>Ä (jx r) fun s=>Ä (pe s.1) fun c=>ifb (ine c.2 0) (o ((5:Int),a)) (Û (ß ((List.length a)+(List.length ([c.1])))) (ck (b+(1:Int)) fun t=>n t (a++([c.1]))))) (p a)
def Ye (a:a8) (k:rm->BY ρ):BY ρ :=
  Ä (ζ a) fun b=>ifb (ine b 0) (k ([],b)) (Ä (uj a) fun c=>Ê (fun(d:px) e=>tk c (Õ c) a.1.1.1 a.1.1.2 a.1.2.1 a.1.2.2.1 a.1.2.2.2.1 a.1.2.2.2.2.1 a.1.2.2.2.2.2 a.2 d.1 d.2 (fun f g=>e (f,g)) (fun h=>k ([],h.1)) (fun i=>k (i,(0:Int)))) ((0:Int),[]))
def HS (a:a8):BY (rm):=Ye a some
def og (d:an) (e:Int) (f:hO) (a:Int) (g:Int->BY ρ) (b:Int->BY ρ) (h:Unit->BY ρ):BY ρ :=
  ifb (ilt a e) (ï d a fun c=>ifb (ilt c 0) (b a) (ifb (ige c (Õ f)) (b a) (ck (a+(1:Int)) fun i=>g i))) (h ())
def OK (b:im) (a:an) (k:Int->BY ρ):BY ρ :=
  ifb (igt (Õ a) 80) (k (2:Int)) (Ê (fun(c:Int) d=>og a (Õ a) b.2 c (fun e=>d e) (fun f=>ifb (ige f 0) (k (1:Int)) (k (0:Int))) (fun _=>k (0:Int))) (0:Int))
def xQ (a:im) (b:an):BY (Int):=OK a b some
def xg (e:an) (f:Int) (g:hO) (c:Int) (d:Int) (a:Int) (h:Int->Int->Int->BY ρ) (i:rd->BY ρ) (j:bx->BY ρ):BY ρ :=
  ifb (ilt a f) (ï e a fun k=>ï g k fun b=>ifb (ine b.1 c) (i ((0:Int),(0:Int),false)) (ck (d+b.2.2) fun l=>ck (a+(1:Int)) fun m=>h b.2.1 l m)) (j (c,d))
def acT (e:im) (f:Int) (c:an) (k:rd->BY ρ):BY ρ :=
  Ê (fun(a:ry) g=>xg c (Õ c) e.2 a.1 a.2.1 a.2.2 (fun h i j=>g (h,i,j)) (fun b=>k (b.1,b.2.1,b.2.2)) (fun d=>k (d.1,d.2,true))) (f,(0:Int),(0:Int))
def Mi (a:im) (b:Int) (c:an):BY (rd):=acT a b c some
def DG (a:im) (b:an) (k:Int->BY ρ):BY ρ :=
  Ä (sc a) fun d=>ifb (ine d.1 0) (k d.1) (Ä (xQ a b) fun e=>ifb (ine e 0) (k e) (ifb (ieq (Õ b) 0) (k (8:Int)) (ï b (0:Int) fun g=>ï a.2 g fun f=>Ä (Mi a f.1 b) fun c=>ifb (!c.2.2) (k (8:Int)) (ifb (ine c.1 f.1) (k (8:Int)) (ifb (ige c.2.1 0) (k (8:Int)) (k (0:Int)))))))
def ol (a:im) (b:an):BY (Int):=DG a b some
def ke (b:b5) (c:a7) (d:Int) (e:Int) (f:Int) (g:fx) (h:bl) (i:fy) (j:c7) (k:bl) (l:c9) (a:Int) (m:Int->BY ρ) (n:Int->BY ρ) (o:Unit->BY ρ):BY ρ :=
  ifb (ilt a d) (ï c a fun p=>Ä (jf (((e,f),g,h,i,j,k),l) p) fun q=>Ä (jx q) fun r=>ï b a fun s=>Ä (ol r.1 s) fun t=>ifb (ine t 0) (n (8:Int)) (ck (a+(1:Int)) fun u=>m u)) (o ())
def CW (a:a8) (c:b5) (k:Int->BY ρ):BY ρ :=
  Ä (ζ a) fun d=>ifb (ine d 0) (k d) (Ä (uj a) fun b=>ifb (ine (Õ c) (Õ b)) (k (8:Int)) (Ê (fun(e:Int) f=>ke c b (Õ b) a.1.1.1 a.1.1.2 a.1.2.1 a.1.2.2.1 a.1.2.2.2.1 a.1.2.2.2.2.1 a.1.2.2.2.2.2 a.2 e (fun g=>f g) (fun h=>k h) (fun _=>k (0:Int))) (0:Int)))
def lm (a:a8) (b:b5):BY (Int):=CW a b some
def acD (a:a8) (k:AN->BY ρ):BY ρ :=
  Ä (ζ a) fun b=>ifb (ine b 0) (k ([],b)) (Ä (uj a) fun c=>k (c,(0:Int)))
def Mb (a:a8):BY (AN):=acD a some
def X4 (a:c7) (k:a8->BY ρ):BY ρ :=
  Û (ß ((List.length ([((7:Int),(10:Int),[(1:Int)],[(2:Int)],(-20:Int),(1:Int),(100:Int),(200:Int))]))+(List.length a))) (k ((((0:Int),(2:Int)),[((1:Int),(0:Int),(1000:Int),((-5:Int),(5:Int)),((1:Int),(10:Int)),(1:Int)),((2:Int),(0:Int),(1000:Int),((-50:Int),(50:Int)),((1:Int),(4:Int)),(0:Int)),((3:Int),(0:Int),(1100:Int),((-1:Int),(1:Int)),((0:Int),(1:Int)),(0:Int))],[((1:Int),(10:Int))],[((1:Int),((20:Int),(29:Int)),(3:Int))],(([((7:Int),(10:Int),[(1:Int)],[(2:Int)],(-20:Int),(1:Int),(100:Int),(200:Int))])++a),[]),[((12:Int),[(2:Int),(3:Int)])]))
def Ų (a:c7):BY a8:=X4 a some
def ag7 (a:a8) (k:AN->BY ρ):BY ρ :=
  Ä (ζ a) fun b=>ifb (ine b 0) (k ([],b)) (Ä (BC a) fun c=>k (c,(0:Int)))
def VQ (a:a8):BY (AN):=ag7 a some
def Yf (a:a8) (k:rm->BY ρ):BY ρ :=
  Ä (ζ a) fun b=>ifb (ine b 0) (k ([],b)) (Ä (ă a) fun c=>ifb (!c.2) (k ([],(5:Int))) (k (c.1,(0:Int))))
def HT (a:a8):BY (rm):=Yf a some
def zD (a:an) (y:Int) (b:an->BY ρ):BY ρ :=
  Û (ß ((List.length a)+(List.length ([y])))) (b (a++([y])))
def ta (h:b5) (i:Int) (j:c9) (c:Int) (k:Int->BY ρ) (d:Bool->BY ρ) (l:Unit->BY ρ):BY ρ :=
  ifb (ilt c i) (ï h c fun e=>ï j c fun f=>ifb (ine (Õ e) (Õ f.2)) (d false) (Ä (Bv e) fun m=>AO (fun(n:an) (o:Int) p=>zD n o (fun q=>p q)) m ([]) (fun g=>Û (ß (List.length g)) (Ä (HN (yR g)) fun a=>Ä (HN f.2) fun b=>ifb (!((mX a.1 b.1)&&((mX a.2.1 b.2.1)&&((mX a.2.2.1 b.2.2.1)&&((mX a.2.2.2.1 b.2.2.2.1)&&((mX a.2.2.2.2 b.2.2.2.2)&&true)))))) (d false) (ck (c+(1:Int)) fun r=>k r))))) (l ())
def NC (b:a8) (a:b5) (k:Bool->BY ρ):BY ρ :=
  ifb (ine (Õ a) (Õ b.2)) (k false) (Ê (fun(c:Int) d=>ta a (Õ a) b.2 c (fun e=>d e) (fun f=>k f) (fun _=>k true)) (0:Int))
def HO (a:a8) (b:b5):BY (Bool):=NC a b some
def Yd (a:a8) (c:b5) (k:Int->BY ρ):BY ρ :=
  Ä (ζ a) fun b=>ifb (ine b 0) (k b) (Ä (HO a c) fun d=>ifb (!d) (k (1:Int)) (k (0:Int)))
def HQ (a:a8) (b:b5):BY (Int):=Yd a b some
def ag5 (a:a8) (b:b5) (c:Int) (d:Int) (k:bx->BY ρ):BY ρ :=
  Ä (HQ a b) fun e=>ifb (ine e 0) (k ((0:Int),e)) (Ä (wd a c d) fun f=>ifb (ine f 0) (k ((0:Int),f)) (Ä (rW a b c d) fun g=>k (g,(0:Int))))
def VP (a:a8) (b:b5) (c:Int) (d:Int):BY bx:=ag5 a b c d some
def mI (b:b5) (c:b5) (a:Int) (d:Int->BY ρ) (e:Bool->BY ρ) (f:Unit->BY ρ):BY ρ :=
  ifb (ilt a (Õ b)) (ï b a fun g=>ï c a fun h=>Ä (η g h) fun i=>ifb (!i) (e false) (ck (a+(1:Int)) fun j=>d j)) (f ())
def Kk (a:b5) (b:b5) (k:Bool->BY ρ):BY ρ :=
  ifb (ine (Õ a) (Õ b)) (k false) (Ê (fun(c:Int) d=>mI a b c (fun e=>d e) (fun f=>k f) (fun _=>k true)) (0:Int))
def un (a:b5) (b:b5):BY (Bool):=Kk a b some
def Ek (k:Bool->BY ρ):BY ρ :=
  Ä (Ų ([])) fun m=>Ä (Mb m) fun b=>Ä (Ų ([])) fun n=>Ä (VQ n) fun f=>Ä (Ų ([((8:Int),(15:Int),[(2:Int)],[(1:Int)],(100:Int),(1:Int),(0:Int),(0:Int))])) fun o=>Ä (HT o) fun g=>Ä (Ų ([((8:Int),(15:Int),[(2:Int)],[(1:Int)],(100:Int),(1:Int),(0:Int),(0:Int))])) fun p=>Ä (we p (2:Int) (15:Int)) fun c=>Ä (Ų ([((8:Int),(15:Int),[(2:Int)],[(1:Int)],(100:Int),(1:Int),(0:Int),(0:Int)),((9:Int),(15:Int),[(3:Int)],[],(1100:Int),(0:Int),(0:Int),(0:Int))])) fun a=>Ä (Md a) fun h=>Ä (uk a ([(7:Int),(8:Int),(9:Int)])) fun i=>Ä (ql a (2:Int)) fun j=>ifb (ine b.2 0) (k false) (ifb (ine f.2 0) (k false) (ifb (ine g.2 0) (k false) (ifb (ine c.2 0) (k false) (ifb (ine h.2 0) (k false) (ifb (ine i.2 0) (k false) (ifb (ine j.2 0) (k false) (ifb (ine (Õ b.1) 2) (k false) (ifb (ine (Õ f.1) 2) (k false) (ifb j.1 (k false) (Ä (HS a) fun d=>ï b.1 (1:Int) fun q=>Ä (VP a q (2:Int) (13:Int)) fun l=>ifb (ine d.2 0) (k false) (ifb (ine l.2 0) (k false) (ifb (ine l.1 3) (k false) (Ä (lm a d.1) fun r=>ifb (ine r 0) (k false) (Ä (Ų ([])) fun s=>Ä (lm s d.1) fun t=>ifb (ine t 8) (k false) (Ä (un g.1 ([[(3:Int),(2:Int)]])) fun u=>ifb u (ifb (ieq (Õ c.1) 1) (ï c.1 (0:Int) fun e=>ifb ((mX e.1 (3:Int))&&((mX e.2.1 (1099:Int))&&((mX e.2.2 (1101:Int))&&true))) (Ä (η h.1 ([(8:Int),(9:Int)])) fun v=>ifb v (Ä (η i.1 ([(8:Int),(9:Int)])) fun w=>k w) (k false)) (k false)) (k false)) (k false))))))))))))))))
def jS:BY (Bool):=Ek some
def aha (a:Int) (b:Int) (c:Int) (k:Bool->BY ρ):BY ρ :=
  ifb (ige a b) (k (ile a c)) (k false)
def kO (a:Int) (b:Int) (c:Int):BY (Bool):=aha a b c some
def acM (a:Int) (k:Bool->BY ρ):BY ρ :=
  Ä (kO a (0:Int) (20000:Int)) fun b=>k b
def qp (a:Int):BY (Bool):=acM a some
def xe (b:an) (c:Int) (a:Int) (d:Int->BY ρ) (e:Bool->BY ρ) (f:Unit->BY ρ):BY ρ :=
  ifb (ilt a (Õ b)) (ï b a fun g=>ifb (ieq g c) (e true) (ck (a+(1:Int)) fun h=>d h)) (f ())
def acL (a:an) (b:Int) (k:Bool->BY ρ):BY ρ :=
  Ê (fun(c:Int) d=>xe a b c (fun e=>d e) (fun f=>k f) (fun _=>k false)) (0:Int)
def Mg (a:an) (b:Int):BY (Bool):=acL a b some
def tP (c:an) (f:an) (a:Int) (b:an) (d:Int->an->BY ρ) (g:an->BY ρ):BY ρ :=
  ifb (ilt a (Õ c)) (ï c a fun h=>Ä (Mg f h) fun i=>ifb (!i) (ï c a fun e=>Û (ß ((List.length b)+(List.length ([e])))) (ck (a+(1:Int)) fun j=>d j (b++([e])))) (ck (a+(1:Int)) fun k=>d k b)) (g b)
def Yz (b:an) (c:an) (k:an->BY ρ):BY ρ :=
  Ê (fun(a:ge) d=>tP b c a.1 a.2 (fun e f=>d (e,f)) (fun g=>k g)) ((0:Int),[])
def lq (a:an) (b:an):BY (an):=Yz a b some
def acJ (b:an) (c:an) (k:Int->BY ρ):BY ρ :=
  Ä (lq b c) fun a=>ifb (ieq (Õ a) 0) (k (0:Int)) (ï a (0:Int) fun d=>k d)
def qo (a:an) (b:an):BY (Int):=acJ a b some
def tG (g:Int) (c:c7) (d:Int) (b:Int) (e:Int->BY ρ) (f:Bool->BY ρ) (h:Unit->BY ρ):BY ρ :=
  ifb (ilt b (Õ c)) (ï c b fun a=>ifb (ieq a.2.1 g) (Ä (qo a.2.2.1 a.2.2.2.1) fun i=>ifb (ieq i d) (f true) (Ä (qo a.2.2.2.1 a.2.2.1) fun j=>ifb (ieq j d) (f true) (ck (b+(1:Int)) fun k=>e k))) (ck (b+(1:Int)) fun l=>e l)) (h ())
def oO (d:Int) (b:bl) (e:Int) (a:Int) (c:Int->BY ρ) (f:Bool->BY ρ) (g:Unit->BY ρ):BY ρ :=
  ifb (ilt a (Õ b)) (ï b a fun h=>ifb (ieq h.1 e) (ï b a fun i=>ifb (ieq i.2 d) (f true) (ck (a+(1:Int)) fun j=>c j)) (ck (a+(1:Int)) fun k=>c k)) (g ())
def Yq (c:b6) (a:pi) (b:Int) (k:Bool->BY ρ):BY ρ :=
  ifb (ieq a.2.1 b) (k true) (Ê (fun(d:Int) e=>tG b c.2.2.2.2.1 a.1 d (fun f=>e f) (fun g=>k g) (fun _=>Ê (fun(h:Int) i=>oO b c.2.2.2.2.2 a.1 h (fun j=>i j) (fun l=>k l) (fun _=>k false)) (0:Int))) (0:Int))
def HY (a:b6) (b:pi) (c:Int):BY (Bool):=Yq a b c some
def pZ (c:fx) (a:Int) (b:an) (e:Int->an->BY ρ) (f:an->BY ρ):BY ρ :=
  ifb (ilt a (Õ c)) (ï c a fun d=>Û (ß ((List.length b)+(List.length ([d.2.1])))) (ck (a+(1:Int)) fun g=>e g (b++([d.2.1])))) (f b)
def pY (c:c7) (a:Int) (b:an) (e:Int->an->BY ρ) (f:an->BY ρ):BY ρ :=
  ifb (ilt a (Õ c)) (ï c a fun d=>Û (ß ((List.length b)+(List.length ([d.2.1])))) (ck (a+(1:Int)) fun g=>e g (b++([d.2.1])))) (f b)
def pX (c:bl) (a:Int) (b:an) (e:Int->an->BY ρ) (f:an->BY ρ):BY ρ :=
  ifb (ilt a (Õ c)) (ï c a fun d=>Û (ß ((List.length b)+(List.length ([d.2])))) (ck (a+(1:Int)) fun g=>e g (b++([d.2])))) (f b)
def mK (e:Int) (b:an) (c:Int) (a:Int) (d:Int->Int->BY ρ) (f:Int->BY ρ):BY ρ :=
  ifb (ilt a (Õ b)) (Û ((ile 0 a)&&(ilt a (ç b))) (Ħ b (Int.toNat a) fun g=>ifb (igt g e) (Û ((ile 0 a)&&(ilt a (ç b))) (Ħ b (Int.toNat a) fun h=>ck (a+(1:Int)) fun i=>d (Z3 c h) i)) (ck (a+(1:Int)) fun j=>d c j))) (f c)
def mL (e:Int) (i:Int) (j:Int) (c:fx) (k:bl) (l:fy) (m:c7) (n:bl) (o:an) (f:Int) (b:bl) (d:Int->bl->BY ρ) (p:bl->BY ρ):BY ρ :=
  ifb (ilt f 20001) (Ê (fun(g:bx) q=>mK f o g.1 g.2 (fun r s=>q (r,s)) (fun a=>ifb (ilt a 20001) (ï c e fun t=>Ä (HY ((i,j),c,k,l,m,n) t a) fun u=>ifb u (ï c e fun h=>Û (ß ((List.length b)+(List.length ([(h.1,a)])))) (d a (b++([(h.1,a)])))) (d a b)) (d a b))) ((20001:Int),(0:Int))) (p b)
def pW (e:Int) (f:Int) (b:fx) (g:bl) (h:fy) (i:c7) (j:bl) (k:an) (a:Int) (c:bl) (l:Int->bl->BY ρ) (m:bl->BY ρ):BY ρ :=
  ifb (ilt a (Õ b)) (Ê (fun(d:nm) n=>mL a e f b g h i j k d.1 d.2 (fun o p=>n (o,p)) (fun q=>ck (a+(1:Int)) fun r=>l r q)) ((-1:Int),c)) (m c)
def Tb (a:b6) (k:bl->BY ρ):BY ρ :=
  Ê (fun(b:ge) f=>pZ a.2.1 b.1 b.2 (fun g h=>f (g,h)) (fun i=>Ê (fun(c:ge) j=>pY a.2.2.2.2.1 c.1 c.2 (fun l m=>j (l,m)) (fun n=>Ê (fun(d:ge) o=>pX a.2.2.2.2.2 d.1 d.2 (fun p q=>o (p,q)) (fun r=>Ê (fun(e:nm) s=>pW a.1.1 a.1.2 a.2.1 a.2.2.1 a.2.2.2.1 a.2.2.2.2.1 a.2.2.2.2.2 r e.1 e.2 (fun t u=>s (t,u)) (fun v=>k v)) ((0:Int),[]))) ((0:Int),n))) ((0:Int),i))) ((0:Int),[])
def kv (a:b6):BY (bl):=Tb a some
def p8 (b:bl) (d:Int) (e:Int) (a:Int) (f:Int->BY ρ) (g:Int->BY ρ) (h:Unit->BY ρ):BY ρ :=
  ifb (ilt a (Õ b)) (ï b a fun c=>ifb ((mX c.1 d)&&((mX c.2 e)&&true)) (ck (a+(1:Int)) fun i=>g i) (ck (a+(1:Int)) fun j=>f j)) (h ())
def Tc (b:b6) (a:bx) (k:Int->BY ρ):BY ρ :=
  Ä (kv b) fun c=>Ê (fun(d:Int) e=>p8 c a.1 a.2 d (fun f=>e f) (fun g=>k g) (fun _=>k (0:Int))) (0:Int)
def iO (a:b6) (b:bx):BY (Int):=Tc a b some
def tQ (c:Int) (b:fx) (a:Int) (d:Int->BY ρ) (e:Int->BY ρ) (f:Unit->BY ρ):BY ρ :=
  ifb (ilt a (Õ b)) (ï b a fun g=>ifb (ieq g.1 c) (e a) (ck (a+(1:Int)) fun h=>d h)) (f ())
def YA (a:b6) (b:Int) (k:Int->BY ρ):BY ρ :=
  Ê (fun(c:Int) d=>tQ b a.2.1 c (fun e=>d e) (fun f=>k f) (fun _=>k (-1:Int))) (0:Int)
def jm (a:b6) (b:Int):BY (Int):=YA a b some
def tO (j:Int) (h:Int) (i:fy) (b:Int) (c:Int) (d:Int) (e:Int) (f:Int) (g:Int->Int->Int->Int->Int->BY ρ) (k:(Val (.pair .bool (.pair tI ę)))->BY ρ) (l:(Val (.pair tI ę))->BY ρ):BY ρ :=
  ifb (ilt b (Õ i)) (ï i b fun a=>ifb (ieq a.1 j) (ifb (ile a.2.1.1 h) (ifb (ile h a.2.1.2) (k (true,a.1,a.2.1.1,a.2.1.2,a.2.2)) (ck (b+(1:Int)) fun m=>g m c d e f)) (ck (b+(1:Int)) fun n=>g n c d e f)) (ck (b+(1:Int)) fun o=>g o c d e f)) (l (c,d,e,f))
def Yy (c:b6) (d:Int) (e:Int) (k:so->BY ρ):BY ρ :=
  Ê (fun(a:Val aQ) f=>tO d e c.2.2.2.1 a.1 a.2.1 a.2.2.1 a.2.2.2.1 a.2.2.2.2 (fun g h i j l=>f (g,h,i,j,l)) (fun b=>k ((b.2.1,(b.2.2.1,b.2.2.2.1),b.2.2.2.2),b.1)) (fun m=>k (((0:Int),((0:Int),(0:Int)),(0:Int)),false))) ((0:Int),(0:Int),(0:Int),(0:Int),(0:Int))
def jV (a:b6) (b:Int) (c:Int):BY (so):=Yy a b c some
def tJ (d:Int) (e:Int) (b:bl) (a:Int) (c:Int->BY ρ) (f:Bool->BY ρ) (g:Unit->BY ρ):BY ρ :=
  ifb (ilt a (Õ b)) (ï b a fun h=>ifb (ieq h.1 d) (ï b a fun i=>ifb (ieq i.2 e) (f true) (ck (a+(1:Int)) fun j=>c j)) (ck (a+(1:Int)) fun k=>c k)) (g ())
def Yr (a:b6) (b:Int) (c:Int) (k:Bool->BY ρ):BY ρ :=
  Ê (fun(d:Int) e=>tJ b c a.2.2.1 d (fun f=>e f) (fun g=>k g) (fun _=>k false)) (0:Int)
def HZ (a:b6) (b:Int) (c:Int):BY (Bool):=Yr a b c some
def tN (d:Int) (m:Int) (n:Int) (e:Int) (f:Int) (g:fx) (h:bl) (i:fy) (j:c7) (k:bl) (b:Int) (a:Int) (c:Int->Int->BY ρ) (o:Int->BY ρ):BY ρ :=
  ifb (ilt a m) (Ä (jV ((e,f),g,h,i,j,k) d a) fun l=>ifb l.2 (ck (b+l.1.2.2) fun p=>ck (a+(1:Int)) fun q=>c p q) (Ä (HZ ((e,f),g,h,i,j,k) d a) fun r=>ifb r (ck (b+n) fun s=>ck (a+(1:Int)) fun t=>c s t) (ck (a+(1:Int)) fun u=>c b u))) (o b)
def Yw (a:b6) (b:Int) (d:Int) (e:Int) (k:Int->BY ρ):BY ρ :=
  Ä (jm a b) fun f=>ï a.2.1 f fun g=>Ê (fun(c:bx) h=>tN b e g.2.2.2.2.2 a.1.1 a.1.2 a.2.1 a.2.2.1 a.2.2.2.1 a.2.2.2.2.1 a.2.2.2.2.2 c.1 c.2 (fun i j=>h (i,j)) (fun l=>k l)) ((0:Int),d)
def wj (a:b6) (b:Int) (c:Int) (d:Int):BY (Int):=Yw a b c d some
def xf (b:Int) (a:Int) (c:Int->Int->BY ρ) (d:Int->BY ρ):BY ρ :=
  ifb (ine a 0) (ifb (mX a 0) (none) (c a (Int.tmod b a))) (d b)
def acQ (b:Int) (c:Int) (k:Int->BY ρ):BY ρ :=
  Ê (fun(a:bx) d=>xf a.1 a.2 (fun e f=>d (e,f)) (fun g=>k g)) (b,c)
def BL (a:Int) (b:Int):BY (Int):=acQ a b some
def acS (a:Int) (k:Int->BY ρ):BY ρ :=
  ifb (ilt a 0) (ck ((0:Int)-a) fun b=>k b) (k a)
def H8 (a:Int):BY (Int):=acS a some
def OJ (b:Int) (a:Int) (k:lA->BY ρ):BY ρ :=
  ifb (ine b 0) (ifb (mX a 0) (none) (Ä (H8 (Int.tmod b a)) fun h=>Ä (BL h a) fun c=>ifb (mX c 0) (none) (ck (Int.tdiv b c) fun d=>ifb (mX c 0) (none) (ck (Int.tdiv a c) fun f=>ifb (igt f 2147483647) (k (((0:Int),(0:Int)),(3:Int))) (ifb (ilt d (-2147483647:Int)) (k (((0:Int),(0:Int)),(3:Int))) (ifb (igt d 2147483647) (k (((0:Int),(0:Int)),(3:Int))) (k ((d,f),(0:Int))))))))) (ifb (mX a 0) (none) (ck (Int.tdiv b a) fun e=>ifb (mX a 0) (none) (ck (Int.tdiv a a) fun g=>ifb (igt g 2147483647) (k (((0:Int),(0:Int)),(3:Int))) (ifb (ilt e (-2147483647:Int)) (k (((0:Int),(0:Int)),(3:Int))) (ifb (igt e 2147483647) (k (((0:Int),(0:Int)),(3:Int))) (k ((e,g),(0:Int))))))))
def sa (a:Int) (b:Int):BY lA:=OJ a b some
def acR (a:bx) (b:bx) (k:lA->BY ρ):BY ρ :=
  ck (a.1*b.2) fun c=>ck (b.1*a.2) fun d=>ck (c+d) fun e=>ck (a.2*b.2) fun f=>Ä (sa e f) fun g=>k g
def VU (a:bx) (b:bx):BY lA:=acR a b some
def acO (a:bx) (k:bx->BY ρ):BY ρ :=
  ck ((0:Int)-a.1) fun b=>k (b,a.2)
def VT (a:bx):BY bx:=acO a some
def acN (a:bx) (b:bx) (k:lA->BY ρ):BY ρ :=
  Ä (VT b) fun c=>Ä (VU a c) fun d=>k d
def Mh (a:bx) (b:bx):BY lA:=acN a b some
def S8 (a:b6) (b:Int) (k:bx->BY ρ):BY ρ :=
  ifb (ieq b 0) (k ((0:Int),(1:Int))) (Ä (jm a b) fun c=>ï a.2.1 c fun d=>k d.2.2.2.2.1)
def wg (a:b6) (b:Int):BY bx:=S8 a b some
def YD (a:lA) (b:lA) (k:Val Fl->BY ρ):BY ρ :=
  ifb (ine a.2 0) (k ((((0:Int),(0:Int)),(0:Int),(0:Int)),a.2)) (ifb (ine b.2 0) (k ((((0:Int),(0:Int)),(0:Int),(0:Int)),b.2)) (k ((a.1,b.1),(0:Int))))
def H6 (a:lA) (b:lA):BY (Val Fl):=YD a b some
def acP (a:bx) (b:bx) (k:lA->BY ρ):BY ρ :=
  ck (a.1*b.1) fun c=>ck (a.2*b.2) fun d=>Ä (sa c d) fun e=>k e
def xP (a:bx) (b:bx):BY lA:=acP a b some
def Tg (b:ly) (a:bx) (k:Val Fl->BY ρ):BY ρ :=
  ifb (ilt a.1 0) (Ä (xP b.2 a) fun c=>Ä (xP b.1 a) fun d=>Ä (H6 c d) fun e=>k e) (Ä (xP b.1 a) fun f=>Ä (xP b.2 a) fun g=>Ä (H6 f g) fun h=>k h)
def BK (a:ly) (b:bx):BY (Val Fl):=Tg a b some
def OA (b:b6) (a:i4) (k:ly->BY ρ):BY ρ :=
  Ä (qo a.2.2.1 a.2.2.2.1) fun c=>Ä (wg b c) fun d=>Ä (qo a.2.2.2.1 a.2.2.1) fun e=>Ä (wg b e) fun f=>Ä (Mh d f) fun g=>Ä (BK ((a.2.2.2.2.2.2.1,(1:Int)),a.2.2.2.2.2.2.2,(1:Int)) g.1) fun h=>k h.1
def xO (a:b6) (b:i4):BY ly:=OA a b some
def Te (a:b6) (b:i4) (k:bx->BY ρ):BY ρ :=
  ck ((Õ b.2.2.1)-(1:Int)) fun c=>ck ((Õ b.2.2.2.1)-(1:Int)) fun d=>ck ((Qu (0:Int) c)*a.1.1) fun e=>ck ((Qu (0:Int) d)*a.1.2) fun f=>ck (e-f) fun g=>ck ((Qu (0:Int) c)*a.1.2) fun h=>ck ((Qu (0:Int) d)*a.1.1) fun i=>ck (h-i) fun j=>k (g,j)
def BI (a:b6) (b:i4):BY bx:=Te a b some
def ahc (b:Int) (a:Int) (k:Int->BY ρ):BY ρ :=
  ifb (mX a 0) (none) (ck (Int.tdiv b a) fun c=>ifb (mX a 0) (none) (ifb (igt (Int.tmod b a) 0) (ck (c+1) fun d=>k d) (k c)))
def aa8 (a:Int) (b:Int):BY (Int):=ahc a b some
def YH (a:bx) (k:Int->BY ρ):BY ρ :=
  Ä (aa8 a.1 a.2) fun b=>k b
def H7 (a:bx):BY (Int):=YH a some
def YC (b:Int) (a:Int) (k:Int->BY ρ):BY ρ :=
  ifb (mX a 0) (none) (ck (Int.tdiv b a) fun c=>ifb (mX a 0) (none) (ifb (ilt (Int.tmod b a) 0) (ck (c-1) fun d=>k d) (k c)))
def PN (a:Int) (b:Int):BY (Int):=YC a b some
def Ti (a:bx) (k:Int->BY ρ):BY ρ :=
  Ä (PN a.1 a.2) fun b=>k b
def BM (a:bx):BY (Int):=Ti a some
def Yt (b:b6) (a:i4) (k:bx->BY ρ):BY ρ :=
  Ä (xO b a) fun c=>Ä (BI b a) fun d=>ck (a.2.2.2.2.1-a.2.2.2.2.2.1) fun e=>ck (e-d.2) fun f=>Ä (BM c.2) fun g=>ck (f-g) fun h=>ck (a.2.2.2.2.1+a.2.2.2.2.2.1) fun i=>ck (i-d.1) fun j=>Ä (H7 c.1) fun l=>ck (j-l) fun m=>k (h,m)
def wi (a:b6) (b:i4):BY bx:=Yt a b some
def rJ (e:bl) (b:Int) (p:Int) (q:Int) (r:fx) (s:bl) (t:fy) (u:c7) (v:bl) (g:Int) (w:Int) (h:Int) (x:Int) (y:Int) (a:Int) (c:hO) (d:bl) (f:Int->hO->bl->BY ρ) (z:Val Cw->BY ρ):BY ρ :=
  ifb (ilt a (Õ e)) (ï e a fun A=>ifb (ine A.1 g) (ck (a+(1:Int)) fun B=>f B c d) (ï e a fun C=>ifb (ieq C.2 w) (ck (a+(1:Int)) fun i=>ck (h+y) fun j=>ck (a+(1:Int)) fun k=>ck ((0:Int)-h) fun D=>ck (D-x) fun l=>Û (ß ((List.length c)+(List.length ([((0:Int),i,j),(k,(0:Int),l)])))) (Û (ß ((List.length d)+(List.length ([((1:Int),b),((1:Int),b)])))) (ck (a+(1:Int)) fun E=>f E (c++([((0:Int),i,j),(k,(0:Int),l)])) (d++([((1:Int),b),((1:Int),b)]))))) (ck (a-(1:Int)) fun F=>ï e F fun G=>ï e a fun H=>Ä (wj ((p,q),r,s,t,u,v) g G.2 H.2) fun m=>ck (a+(1:Int)) fun n=>ck (a+(1:Int)) fun o=>Û (ß ((List.length c)+(List.length ([(a,n,(0:Int)),(o,a,m)])))) (Û (ß ((List.length d)+(List.length ([((2:Int),b),((2:Int),b)])))) (ck (a+(1:Int)) fun I=>f I (c++([(a,n,(0:Int)),(o,a,m)])) (d++([((2:Int),b),((2:Int),b)]))))))) (z (c,d))
def xd (h:bl) (i:Int) (j:Int) (c:fx) (k:bl) (l:fy) (m:c7) (n:bl) (b:Int) (e:hO) (f:bl) (o:Int->hO->bl->BY ρ) (p:Val Cw->BY ρ):BY ρ :=
  ifb (ilt b (Õ c)) (ï c b fun a=>Ê (fun(d:wl) q=>rJ h b i j c k l m n a.1 a.2.1 a.2.2.1 a.2.2.2.1.1 a.2.2.2.1.2 d.1 d.2.1 d.2.2 (fun r s t=>q (r,s,t)) (fun g=>ck (b+(1:Int)) fun u=>o u g.1 g.2)) ((0:Int),e,f)) (p (e,f))
def xc (f:Int) (g:Int) (h:fx) (i:bl) (j:fy) (c:c7) (k:bl) (a:Int) (l:hO) (m:bl) (p:Int->hO->bl->BY ρ) (q:Val Cw->BY ρ):BY ρ :=
  ifb (ilt a (Õ c)) (ï c a fun b=>Ä (qo b.2.2.1 b.2.2.2.1) fun r=>Ä (iO ((f,g),h,i,j,c,k) (r,b.2.1)) fun d=>Ä (qo b.2.2.2.1 b.2.2.1) fun s=>Ä (iO ((f,g),h,i,j,c,k) (s,b.2.1)) fun e=>Ä (wi ((f,g),h,i,j,c,k) b) fun n=>ck ((0:Int)-n.1) fun o=>Û (ß ((List.length l)+(List.length ([(e,d,n.2),(d,e,o)])))) (Û (ß ((List.length m)+(List.length ([((3:Int),a),((3:Int),a)])))) (ck (a+(1:Int)) fun t=>p t (l++([(e,d,n.2),(d,e,o)])) (m++([((3:Int),a),((3:Int),a)]))))) (q (l,m))
def acK (a:b6) (k:Val Cw->BY ρ):BY ρ :=
  Ä (kv a) fun e=>Ê (fun(b:wl) f=>xd e a.1.1 a.1.2 a.2.1 a.2.2.1 a.2.2.2.1 a.2.2.2.2.1 a.2.2.2.2.2 b.1 b.2.1 b.2.2 (fun g h i=>f (g,h,i)) (fun d=>Ê (fun(c:wl) j=>xc a.1.1 a.1.2 a.2.1 a.2.2.1 a.2.2.2.1 a.2.2.2.2.1 a.2.2.2.2.2 c.1 c.2.1 c.2.2 (fun l m n=>j (l,m,n)) (fun o=>k o)) ((0:Int),d.1,d.2))) ((0:Int),[],[])
def xN (a:b6):BY (Val Cw):=acK a some
def Km (a:bx) (b:Int) (c:Int) (k:Bool->BY ρ):BY ρ :=
  ifb (ile b a.1) (ifb (ile a.1 a.2) (k (ile a.2 c)) (k false)) (k false)
def jU (a:bx) (b:Int) (c:Int):BY (Bool):=Km a b c some
def Tf (a:bx) (k:Bool->BY ρ):BY ρ :=
  ifb (ilt a.2 1) (k false) (ifb (igt a.2 2147483647) (k false) (ifb (ilt a.1 (-2147483647:Int)) (k false) (ifb (igt a.1 2147483647) (k false) (Ä (H8 a.1) fun b=>Ä (BL b a.2) fun c=>k (ieq c 1)))))
def BJ (a:bx):BY (Bool):=Tf a some
def S9 (a:pi) (k:Bool->BY ρ):BY ρ :=
  Ä (BJ a.2.2.2.2.1) fun b=>ifb (!b) (k false) (Ä (kO a.2.2.2.2.1.1 (-1000:Int) (1000:Int)) fun c=>ifb (!c) (k false) (ifb (igt a.2.2.2.2.1.2 100) (k false) (Ä (kO a.1 (1:Int) (1099511627776:Int)) fun d=>ifb d (Ä (qp a.2.1) fun e=>ifb e (Ä (kO a.2.2.1 (1:Int) (1125899906842624:Int)) fun f=>ifb f (Ä (jU a.2.2.2.1 (-1073741824:Int) (1073741824:Int)) fun g=>ifb g (Ä (kO a.2.2.2.2.2 (0:Int) (1048576:Int)) fun h=>k h) (k false)) (k false)) (k false)) (k false))))
def BH (a:pi):BY (Bool):=S9 a some
def Ta (a:b6) (c:Int) (d:Int) (k:Int->BY ρ):BY ρ :=
  Ä (jm a c) fun b=>ifb (ilt b 0) (k (5:Int)) (ï a.2.1 b fun e=>ifb (ilt d e.2.1) (k (4:Int)) (k (0:Int)))
def jv (a:b6) (b:Int) (c:Int):BY (Int):=Ta a b c some
def tB (e:Int) (f:Int) (g:fx) (a:bl) (h:fy) (i:c7) (j:bl) (b:Int) (k:Int->BY ρ) (c:Int->BY ρ) (l:Unit->BY ρ):BY ρ :=
  ifb (ilt b (Õ a)) (ï a b fun m=>Ä (qp m.2) fun n=>ifb (!n) (c (1:Int)) (ï a b fun o=>ï a b fun p=>Ä (jv ((e,f),g,a,h,i,j) o.1 p.2) fun d=>ifb (ine d 0) (c d) (ck (b+(1:Int)) fun q=>k q))) (l ())
def Ym (a:b6) (k:Int->BY ρ):BY ρ :=
  Ê (fun(b:Int) c=>tB a.1.1 a.1.2 a.2.1 a.2.2.1 a.2.2.2.1 a.2.2.2.2.1 a.2.2.2.2.2 b (fun d=>c d) (fun e=>k e) (fun _=>k (0:Int))) (0:Int)
def HX (a:b6):BY (Int):=Ym a some
def pU (d:Int) (b:fy) (e:Int) (f:Int) (g:Int) (a:Int) (c:Int->BY ρ) (h:Int->BY ρ) (i:Unit->BY ρ):BY ρ :=
  ifb (ilt a d) (ï b a fun j=>ifb (ieq j.1 e) (ï b a fun k=>ifb (ile k.2.1.1 g) (ï b a fun l=>ifb (ile f l.2.1.2) (h (9:Int)) (ck (a+(1:Int)) fun m=>c m)) (ck (a+(1:Int)) fun n=>c n)) (ck (a+(1:Int)) fun o=>c o)) (i ())
def mJ (b:bl) (d:Int) (e:Int) (f:Int) (a:Int) (c:Int->BY ρ) (g:Int->BY ρ) (h:Unit->BY ρ):BY ρ :=
  ifb (ilt a (Õ b)) (ï b a fun i=>ifb (ieq i.1 d) (ï b a fun j=>Ä (kO j.2 e f) fun k=>ifb k (g (9:Int)) (ck (a+(1:Int)) fun l=>c l)) (ck (a+(1:Int)) fun m=>c m)) (h ())
def pV (g:Int) (h:Int) (i:fx) (e:bl) (c:fy) (j:c7) (k:bl) (d:Int) (l:Int->BY ρ) (b:Int->BY ρ) (m:Unit->BY ρ):BY ρ :=
  ifb (ilt d (Õ c)) (ï c d fun a=>Ä (jU a.2.1 (0:Int) (20000:Int)) fun n=>ifb (!n) (b (1:Int)) (Ä (kO a.2.2 (0:Int) (1048576:Int)) fun o=>ifb (!o) (b (1:Int)) (Ä (jv ((g,h),i,e,c,j,k) a.1 a.2.1.1) fun f=>ifb (ine f 0) (b f) (Ê (fun(p:Int) q=>pU d c a.1 a.2.1.1 a.2.1.2 p (fun r=>q r) (fun s=>b s) (fun _=>Ê (fun(t:Int) u=>mJ e a.1 a.2.1.1 a.2.1.2 t (fun v=>u v) (fun w=>b w) (fun _=>ck (d+(1:Int)) fun x=>l x)) (0:Int))) (0:Int))))) (m ())
def S7 (a:b6) (k:Int->BY ρ):BY ρ :=
  Ê (fun(b:Int) c=>pV a.1.1 a.1.2 a.2.1 a.2.2.1 a.2.2.2.1 a.2.2.2.2.1 a.2.2.2.2.2 b (fun d=>c d) (fun e=>k e) (fun _=>k (0:Int))) (0:Int)
def BG (a:b6):BY (Int):=S7 a some
def tM (b:an) (a:Int) (c:Int->BY ρ) (d:Bool->BY ρ) (e:Unit->BY ρ):BY ρ :=
  ifb (ilt a (Õ b)) (ï b a fun f=>Ä (kO f (1:Int) (1099511627776:Int)) fun g=>ifb (!g) (d false) (ifb (igt a 0) (ï b a fun h=>ck (a-(1:Int)) fun i=>ï b i fun j=>ifb (ile h j) (d false) (ck (a+(1:Int)) fun k=>c k)) (ck (a+(1:Int)) fun l=>c l))) (e ())
def Yu (a:an) (k:Bool->BY ρ):BY ρ :=
  Ê (fun(b:Int) c=>tM a b (fun d=>c d) (fun e=>k e) (fun _=>k (ile (Õ a) 6))) (0:Int)
def AQ (a:an):BY (Bool):=Yu a some
def S6 (a:i4) (k:Bool->BY ρ):BY ρ :=
  Ä (AQ a.2.2.1) fun b=>Ä (AQ a.2.2.2.1) fun c=>ifb b (ifb c (Ä (kO a.1 (1:Int) (1099511627776:Int)) fun d=>ifb d (Ä (qp a.2.1) fun e=>ifb e (Ä (kO a.2.2.2.2.1 (-1125899906842624:Int) (1125899906842624:Int)) fun f=>ifb f (Ä (kO a.2.2.2.2.2.1 (0:Int) (1073741824:Int)) fun g=>ifb g (Ä (jU a.2.2.2.2.2.2 (-10000:Int) (10000:Int)) fun h=>k h) (k false)) (k false)) (k false)) (k false)) (k false)) (k false)
def BF (a:i4):BY (Bool):=S6 a some
def lK (c:Int) (d:Int) (e:fx) (f:bl) (g:fy) (h:c7) (i:bl) (b:an) (a:Int) (j:Int->BY ρ) (k:Int->BY ρ) (l:Unit->BY ρ):BY ρ :=
  ifb (ilt a (Õ b)) (Û ((ile 0 a)&&(ilt a (ç b))) (Ħ b (Int.toNat a) fun m=>Ä (jm ((c,d),e,f,g,h,i) m) fun n=>ifb (ilt n 0) (k (5:Int)) (ck (a+(1:Int)) fun o=>j o))) (l ())
def jl (c:Int) (d:Int) (e:fx) (f:bl) (g:fy) (h:c7) (i:bl) (j:Int) (b:an) (a:Int) (k:Int->BY ρ) (l:Int->BY ρ) (m:Unit->BY ρ):BY ρ :=
  ifb (ilt a (Õ b)) (Û ((ile 0 a)&&(ilt a (ç b))) (Ħ b (Int.toNat a) fun n=>Ä (jv ((c,d),e,f,g,h,i) n j) fun o=>ifb (ine o 0) (l (4:Int)) (ck (a+(1:Int)) fun p=>k p))) (m ())
def Μ (c:Int) (d:Int) (e:fx) (f:bl) (g:fy) (h:c7) (i:bl) (j:Int) (b:an) (a:Int) (k:Int->BY ρ) (l:Int->BY ρ) (m:Unit->BY ρ):BY ρ :=
  ifb (ilt a (Õ b)) (Û ((ile 0 a)&&(ilt a (ç b))) (Ħ b (Int.toNat a) fun n=>Ä (jV ((c,d),e,f,g,h,i) n j) fun o=>ifb o.2 (l (9:Int)) (ck (a+(1:Int)) fun p=>k p))) (m ())
def xb (a:b6) (b:i4) (k:Int->BY ρ):BY ρ :=
  Û (ß (0+(List.length b.2.2.1))) (Û (ß ((List.length (([])++b.2.2.1))+(List.length b.2.2.2.1))) (Ê (fun(e:Int) f=>lK a.1.1 a.1.2 a.2.1 a.2.2.1 a.2.2.2.1 a.2.2.2.2.1 a.2.2.2.2.2 ((([])++b.2.2.1)++b.2.2.2.1) e (fun g=>f g) (fun h=>k h) (fun _=>Ê (fun(i:Int) j=>jl a.1.1 a.1.2 a.2.1 a.2.2.1 a.2.2.2.1 a.2.2.2.2.1 a.2.2.2.2.2 b.2.1 ((([])++b.2.2.1)++b.2.2.2.1) i (fun l=>j l) (fun m=>k m) (fun _=>Ê (fun(n:Int) o=>Μ a.1.1 a.1.2 a.2.1 a.2.2.1 a.2.2.2.1 a.2.2.2.2.1 a.2.2.2.2.2 b.2.1 ((([])++b.2.2.1)++b.2.2.2.1) n (fun p=>o p) (fun q=>k q) (fun _=>Ä (lq b.2.2.1 b.2.2.2.1) fun c=>Ä (lq b.2.2.2.1 b.2.2.1) fun d=>ifb (igt (Õ c) 1) (k (1:Int)) (ifb (igt (Õ d) 1) (k (1:Int)) (ck ((Õ c)+(Õ d)) fun r=>ifb (ieq r 0) (k (1:Int)) (k (0:Int)))))) (0:Int))) (0:Int))) (0:Int)))
def ku (a:b6) (b:i4):BY (Int):=xb a b some
def qd (b:fx) (a:Int) (c:Int->BY ρ) (d:Int->BY ρ) (e:Unit->BY ρ):BY ρ :=
  ifb (ilt a (Õ b)) (ï b a fun f=>Ä (BH f) fun g=>ifb (!g) (d (1:Int)) (ifb (igt a 0) (ï b a fun h=>ck (a-(1:Int)) fun i=>ï b i fun j=>ifb (ile h.1 j.1) (d (6:Int)) (ck (a+(1:Int)) fun k=>c k)) (ck (a+(1:Int)) fun l=>c l))) (e ())
def p9 (b:Int) (c:c7) (a:Int) (d:Int->BY ρ) (e:Int->BY ρ) (f:Unit->BY ρ):BY ρ :=
  ifb (ilt a b) (ï c a fun g=>ï c b fun h=>ifb (ieq g.1 h.1) (e (6:Int)) (ck (a+(1:Int)) fun i=>d i)) (f ())
def kp (e:Int) (f:Int) (g:fx) (h:bl) (i:fy) (a:c7) (j:bl) (b:Int) (k:Int->BY ρ) (c:Int->BY ρ) (l:Unit->BY ρ):BY ρ :=
  ifb (ilt b (Õ a)) (ï a b fun m=>Ä (BF m) fun n=>ifb (!n) (c (1:Int)) (Ê (fun(o:Int) p=>p9 b a o (fun q=>p q) (fun r=>c r) (fun _=>ï a b fun s=>Ä (ku ((e,f),g,h,i,a,j) s) fun d=>ifb (ine d 0) (c d) (ck (b+(1:Int)) fun t=>k t))) (0:Int))) (l ())
def km (e:Int) (f:Int) (g:fx) (h:bl) (i:fy) (j:c7) (a:bl) (b:Int) (k:Int->BY ρ) (c:Int->BY ρ) (l:Unit->BY ρ):BY ρ :=
  ifb (ilt b (Õ a)) (ï a b fun m=>Ä (qp m.2) fun n=>ifb (!n) (c (1:Int)) (ï a b fun o=>ï a b fun p=>Ä (jv ((e,f),g,h,i,j,a) o.1 p.2) fun d=>ifb (ine d 0) (c d) (ck (b+(1:Int)) fun q=>k q))) (l ())
def Jj (a:b6) (k:Int->BY ρ):BY ρ :=
  Ä (jU a.1 (0:Int) (1000000:Int)) fun d=>ifb (!d) (k (1:Int)) (ifb (igt (Õ a.2.1) 12) (k (2:Int)) (ifb (igt (Õ a.2.2.1) 40) (k (2:Int)) (ifb (igt (Õ a.2.2.2.1) 12) (k (2:Int)) (ifb (igt (Õ a.2.2.2.2.1) 40) (k (2:Int)) (ifb (igt (Õ a.2.2.2.2.2) 10) (k (2:Int)) (Ê (fun(e:Int) f=>qd a.2.1 e (fun g=>f g) (fun h=>k h) (fun _=>Ä (HX a) fun b=>ifb (ieq b 0) (Ä (BG a) fun c=>ifb (ine c 0) (k c) (Ê (fun(i:Int) j=>kp a.1.1 a.1.2 a.2.1 a.2.2.1 a.2.2.2.1 a.2.2.2.2.1 a.2.2.2.2.2 i (fun l=>j l) (fun m=>k m) (fun _=>Ê (fun(n:Int) o=>km a.1.1 a.1.2 a.2.1 a.2.2.1 a.2.2.2.1 a.2.2.2.2.1 a.2.2.2.2.2 n (fun p=>o p) (fun q=>k q) (fun _=>Ä (kv a) fun r=>ifb (igt (Õ r) 59) (k (2:Int)) (Ä (xN a) fun s=>ifb (igt (Õ s.1) 300) (k (2:Int)) (k (0:Int))))) (0:Int))) (0:Int))) (ifb (ine b 0) (k b) (Ê (fun(t:Int) u=>kp a.1.1 a.1.2 a.2.1 a.2.2.1 a.2.2.2.1 a.2.2.2.2.1 a.2.2.2.2.2 t (fun v=>u v) (fun w=>k w) (fun _=>Ê (fun(x:Int) y=>km a.1.1 a.1.2 a.2.1 a.2.2.1 a.2.2.2.1 a.2.2.2.2.1 a.2.2.2.2.2 x (fun z=>y z) (fun A=>k A) (fun _=>Ä (kv a) fun B=>ifb (igt (Õ B) 59) (k (2:Int)) (Ä (xN a) fun C=>ifb (igt (Õ C.1) 300) (k (2:Int)) (k (0:Int))))) (0:Int))) (0:Int))))) (0:Int)))))))
def nP (a:b6):BY (Int):=Jj a some
def wV (b:an) (a:Int) (c:Int->BY ρ) (d:Int->BY ρ) (e:Unit->BY ρ):BY ρ :=
  ifb (ilt a (Õ b)) (ï b a fun f=>ck (a-(1:Int)) fun g=>ï b g fun h=>ifb (ile f h) (d (1:Int)) (ck (a+(1:Int)) fun i=>c i)) (e ())
def EE (c:Int) (d:Int) (e:fx) (f:bl) (g:fy) (h:c7) (i:bl) (b:an) (a:Int) (j:Int->BY ρ) (k:Int->BY ρ) (l:Unit->BY ρ):BY ρ :=
  ifb (ilt a (Õ b)) (ï b a fun m=>Ä (jm ((c,d),e,f,g,h,i) m) fun n=>ifb (ilt n 0) (k (5:Int)) (ck (a+(1:Int)) fun o=>j o)) (l ())
def ED (c:Int) (d:Int) (e:fx) (f:bl) (g:fy) (h:c7) (i:bl) (j:Int) (b:an) (a:Int) (k:Int->BY ρ) (l:Int->BY ρ) (m:Unit->BY ρ):BY ρ :=
  ifb (ilt a (Õ b)) (ï b a fun n=>Ä (jv ((c,d),e,f,g,h,i) n j) fun o=>ifb (ine o 0) (l (4:Int)) (ck (a+(1:Int)) fun p=>k p)) (m ())
def acG (a:b6) (b:ge) (k:Int->BY ρ):BY ρ :=
  Ä (kO b.1 (0:Int) (19999:Int)) fun c=>ifb (!c) (k (1:Int)) (Ä (kO (Õ b.2) (2:Int) (5:Int)) fun d=>ifb (!d) (k (1:Int)) (Ê (fun(e:Int) f=>wV b.2 e (fun g=>f g) (fun h=>k h) (fun _=>Ê (fun(i:Int) j=>EE a.1.1 a.1.2 a.2.1 a.2.2.1 a.2.2.2.1 a.2.2.2.2.1 a.2.2.2.2.2 b.2 i (fun l=>j l) (fun m=>k m) (fun _=>Ê (fun(n:Int) o=>ED a.1.1 a.1.2 a.2.1 a.2.2.1 a.2.2.2.1 a.2.2.2.2.1 a.2.2.2.2.2 b.1 b.2 n (fun p=>o p) (fun q=>k q) (fun _=>k (0:Int))) (0:Int))) (0:Int))) (1:Int)))
def Me (a:b6) (b:ge):BY (Int):=acG a b some
def ja (c:Int) (d:Int) (e:fx) (f:bl) (g:fy) (h:c7) (i:bl) (j:Int) (b:an) (k:Int) (a:Int) (m:Int->Int->BY ρ) (l:Int->BY ρ) (n:Int->BY ρ):BY ρ :=
  ifb (ilt a (Õ b)) (ï b a fun o=>Ä (jV ((c,d),e,f,g,h,i) o j) fun p=>ï b a fun q=>ck (j+(1:Int)) fun r=>Ä (jV ((c,d),e,f,g,h,i) q r) fun s=>ifb p.2 (l (9:Int)) (ifb s.2 (l (9:Int)) (ck (a+(1:Int)) fun t=>ck (k*t) fun u=>ck (a+(1:Int)) fun v=>m u v))) (n k)
def pT (d:Int) (e:Int) (f:fx) (g:bl) (h:fy) (i:c7) (j:bl) (k:c9) (l:Int) (a:Int) (m:Int->Int->BY ρ) (c:Int->BY ρ) (q:Int->BY ρ):BY ρ :=
  ifb (ilt a (Õ k)) (ï k a fun b=>Ä (Me ((d,e),f,g,h,i,j) b) fun n=>ifb (ine n 0) (c n) (ifb (igt a 0) (ck (a-(1:Int)) fun r=>ï k r fun s=>ifb (ile b.1 s.1) (c (6:Int)) (Ê (fun(o:bx) t=>ja d e f g h i j b.1 b.2 o.1 o.2 (fun u v=>t (u,v)) (fun w=>c w) (fun x=>ck (a+(1:Int)) fun y=>m x y)) (l,(0:Int)))) (Ê (fun(p:bx) z=>ja d e f g h i j b.1 b.2 p.1 p.2 (fun A B=>z (A,B)) (fun C=>c C) (fun D=>ck (a+(1:Int)) fun E=>m D E)) (l,(0:Int))))) (q l)
def SZ (a:a8) (k:Int->BY ρ):BY ρ :=
  Ä (nP a.1) fun b=>ifb (ine b 0) (k b) (ifb (igt (Õ a.2) 4) (k (2:Int)) (Ê (fun(c:bx) d=>pT a.1.1.1 a.1.1.2 a.1.2.1 a.1.2.2.1 a.1.2.2.2.1 a.1.2.2.2.2.1 a.1.2.2.2.2.2 a.2 c.1 c.2 (fun e f=>d (e,f)) (fun g=>k g) (fun h=>ifb (igt h 150) (k (2:Int)) (k (0:Int)))) ((1:Int),(0:Int))))
def BD (a:a8):BY (Int):=SZ a some
def wQ (c:a7) (d:Int) (e:Int) (f:Int) (g:fx) (h:bl) (i:fy) (j:c7) (k:bl) (l:c9) (b:Int) (a:Int) (m:Int->BY ρ) (n:Int->BY ρ) (o:Unit->BY ρ):BY ρ :=
  ifb (ilt a d) (ï c a fun p=>Ä (rW (((e,f),g,h,i,j,k),l) p b (20000:Int)) fun q=>ifb (ine q b) (n a) (ck (a+(1:Int)) fun r=>m r)) (o ())
def wR (e:a7) (f:fx) (g:Int) (h:Int) (i:Int) (j:fx) (k:bl) (l:fy) (m:c7) (n:bl) (o:c9) (b:Int) (a:an) (d:Int->an->BY ρ) (p:an->BY ρ):BY ρ :=
  ifb (ilt b g) (ï f b fun c=>Ê (fun(q:Int) r=>wQ e (Õ e) h i j k l m n o c.1 q (fun s=>r s) (fun t=>ifb (!(ige t 0)) (Û (ß ((List.length a)+(List.length ([c.1])))) (ck (b+(1:Int)) fun u=>d u (a++([c.1])))) (ck (b+(1:Int)) fun v=>d v a)) (fun _=>Û (ß ((List.length a)+(List.length ([c.1])))) (ck (b+(1:Int)) fun w=>d w (a++([c.1]))))) (0:Int)) (p a)
def acE (a:a8) (k:nj->BY ρ):BY ρ :=
  Ä (ζ a) fun b=>ifb (ine b 0) (k ([],b)) (Ä (BC a) fun c=>ifb (ieq (Õ c) 0) (k ([],(5:Int))) (Ê (fun(d:ge) e=>wR c a.1.2.1 (Õ a.1.2.1) a.1.1.1 a.1.1.2 a.1.2.1 a.1.2.2.1 a.1.2.2.2.1 a.1.2.2.2.2.1 a.1.2.2.2.2.2 a.2 d.1 d.2 (fun f g=>e (f,g)) (fun h=>k (h,(0:Int)))) ((0:Int),[])))
def Mc (a:a8):BY (nj):=acE a some
def kT (rec:an->BY b5) (f:an) (g:Int) (e:b5) (a:Int) (b:b5) (h:Int->b5->BY ρ) (i:b5->BY ρ):BY ρ :=
  ifb (ilt a (Õ e)) (ï f g fun c=>ï e a fun d=>Û (ß ((List.length ([c]))+(List.length d))) (Û (ß ((List.length b)+(List.length ([(([c])++d)])))) (ck (a+(1:Int)) fun j=>h j (b++([(([c])++d)]))))) (i b)
def ob (rec:an->BY b5) (a:an) (b:Int) (d:b5) (f:Int->b5->BY ρ) (g:b5->BY ρ):BY ρ :=
  ifb (ilt b (Õ a)) (Û ((ile 0 b)&&(ile b (ç a))) (Û (ß (0+(List.length (List.take (Int.toNat b) a)))) (ck (b+(1:Int)) fun c=>Û ((ile 0 c)&&(ile c (ç a))) (Û (ß ((List.length (([])++(List.take (Int.toNat b) a)))+(List.length (List.drop (Int.toNat c) a)))) (Ä (rec ((([])++(List.take (Int.toNat b) a))++(List.drop (Int.toNat c) a))) fun h=>Ê (fun(e:px) i=>kT rec a b h e.1 e.2 (fun j k=>i (j,k)) (fun l=>ck (b+(1:Int)) fun m=>f m l)) ((0:Int),d)))))) (g d)
def nD (rec:an->BY b5) (a:an) (k:b5->BY ρ):BY ρ :=
  ifb (ieq (Õ a) 0) (k ([[]])) (Ê (fun(b:px) c=>ob rec a b.1 b.2 (fun d e=>c (d,e)) (fun f=>k f)) ((0:Int),[]))
def qS:Nat->an->BY b5
  |0=>fun _=>none
  |n+1=>fun a=>nD (qS n) a some
def E4 (a:an):BY (b5):=qS 100 a
def oc (d:b5) (b:Int) (f:c9) (c:Int) (a:Int) (e:Int->Int->BY ρ) (g:Int->BY ρ):BY ρ :=
  ï d b fun h=>ifb (ilt a (Õ h)) (ï d b fun i=>ï i a fun j=>ï f b fun k=>ï k.2 a fun l=>ifb (ine j l) (ck (c+(1:Int)) fun m=>ck (a+(1:Int)) fun n=>e m n) (ck (a+(1:Int)) fun o=>e c o)) (g c)
def od (b:b5) (e:c9) (c:Int) (a:Int) (f:Int->Int->BY ρ) (g:Int->BY ρ):BY ρ :=
  ifb (ilt a (Õ b)) (Ê (fun(d:bx) h=>oc b a e d.1 d.2 (fun i j=>h (i,j)) (fun k=>ck (a+(1:Int)) fun l=>f k l)) (c,(0:Int))) (g c)
def NV (b:a8) (c:b5) (k:Int->BY ρ):BY ρ :=
  Ê (fun(a:bx) d=>od c b.2 a.1 a.2 (fun e f=>d (e,f)) (fun g=>k g)) ((0:Int),(0:Int))
def xL (a:a8) (b:b5):BY (Int):=NV a b some
def oL (f:b5) (b:Int) (g:a7) (c:Int) (d:a7) (h:Int->a7->BY ρ) (i:a7->BY ρ):BY ρ :=
  ifb (ilt c (Õ f)) (Û ((ile 0 b)&&(ilt b (ç g))) (Ħ g (Int.toNat b) fun a=>Û (ß (0+(List.length a))) (ï f c fun e=>Û (ß ((List.length (([])++a))+(List.length ([e])))) (Û (ß ((List.length d)+(List.length ([((([])++a)++([e]))])))) (ck (c+(1:Int)) fun j=>h j (d++([((([])++a)++([e]))]))))))) (i d)
def oM (e:b5) (b:a7) (a:Int) (c:a7) (f:Int->a7->BY ρ) (g:a7->BY ρ):BY ρ :=
  ifb (ilt a (Õ b)) (Ê (fun(d:io) h=>oL e a b d.1 d.2 (fun i j=>h (i,j)) (fun k=>ck (a+(1:Int)) fun l=>f l k)) ((0:Int),c)) (g c)
def tx (b:c9) (a:Int) (c:a7) (e:Int->a7->BY ρ) (f:a7->BY ρ):BY ρ :=
  ifb (ilt a (Õ b)) (ï b a fun g=>Ä (E4 g.2) fun h=>Ê (fun(d:io) i=>oM h c d.1 d.2 (fun j k=>i (j,k)) (fun l=>ck (a+(1:Int)) fun m=>e m l)) ((0:Int),[])) (f c)
def oK (f:Int) (g:Int) (h:Int) (i:fx) (j:bl) (k:fy) (l:c7) (m:bl) (n:c9) (b:a7) (a:Int) (c:a7) (d:Int->a7->BY ρ) (o:a7->BY ρ):BY ρ :=
  ifb (ilt a (Õ b)) (Û ((ile 0 a)&&(ilt a (ç b))) (Ħ b (Int.toNat a) fun p=>Ä (xL (((g,h),i,j,k,l,m),n) p) fun q=>ifb (ieq q f) (Û ((ile 0 a)&&(ilt a (ç b))) (Ħ b (Int.toNat a) fun e=>Û (ß ((List.length c)+(List.length ([e])))) (ck (a+(1:Int)) fun r=>d r (c++([e]))))) (ck (a+(1:Int)) fun s=>d s c))) (o c)
def tv (d:Int) (e:Int) (f:fx) (g:bl) (h:fy) (i:c7) (j:bl) (k:c9) (l:a7) (a:Int) (b:a7) (m:Int->a7->BY ρ) (n:a7->BY ρ):BY ρ :=
  ifb (ile a 20) (Ê (fun(c:io) o=>oK a d e f g h i j k l c.1 c.2 (fun p q=>o (p,q)) (fun r=>ck (a+(1:Int)) fun s=>m s r)) ((0:Int),b)) (n b)
def Yi (a:a8) (k:a7->BY ρ):BY ρ :=
  Ê (fun(b:io) d=>tx a.2 b.1 b.2 (fun e f=>d (e,f)) (fun g=>Ê (fun(c:io) h=>tv a.1.1.1 a.1.1.2 a.1.2.1 a.1.2.2.1 a.1.2.2.2.1 a.1.2.2.2.2.1 a.1.2.2.2.2.2 a.2 g c.1 c.2 (fun i j=>h (i,j)) (fun l=>k l)) ((0:Int),[]))) ((0:Int),[[]])
def HU (a:a8):BY (a7):=Yi a some
def Oh (a:b6) (k:im->BY ρ):BY ρ :=
  Ä (kv a) fun b=>ck ((Õ b)+(1:Int)) fun c=>Ä (xN a) fun d=>k (c,d.1)
def rY (a:b6):BY im:=Oh a some
def Bp (b:an) (c:Int) (a:Int) (d:Int->BY ρ) (e:Int->BY ρ) (f:Unit->BY ρ):BY ρ :=
  ifb (ilt a (Õ b)) (ï b a fun g=>ifb (ieq g c) (e a) (ck (a+(1:Int)) fun h=>d h)) (f ())
def ag8 (a:an) (b:Int) (k:Int->BY ρ):BY ρ :=
  Ê (fun(c:Int) d=>Bp a b c (fun e=>d e) (fun f=>k f) (fun _=>k (-1:Int))) (0:Int)
def VS (a:an) (b:Int):BY (Int):=ag8 a b some
def wW (f:b5) (g:Int) (d:c9) (b:Int) (a:Int) (c:Int->Int->BY ρ) (h:Int->BY ρ):BY ρ :=
  ifb (ige a 0) (ï d a fun i=>ifb (ilt i.1 g) (ï f a fun j=>Ä (VS j b) fun e=>ifb (ige e 0) (ï d a fun k=>ï k.2 e fun l=>ck (a-(1:Int)) fun m=>c l m) (ck (a-(1:Int)) fun n=>c b n)) (ck (a-(1:Int)) fun o=>c b o)) (h b)
def acH (a:a8) (c:b5) (d:Int) (e:Int) (k:Int->BY ρ):BY ρ :=
  ck ((Õ a.2)-(1:Int)) fun f=>Ê (fun(b:bx) g=>wW c e a.2 b.1 b.2 (fun h i=>g (h,i)) (fun j=>k j)) (d,f)
def qm (a:a8) (b:b5) (c:Int) (d:Int):BY (Int):=acH a b c d some
def oJ (d:Int) (b:an) (a:Int) (e:Int->BY ρ) (c:Int->BY ρ):BY ρ :=
  ifb (ilt a (Õ b)) (Û ((ile 0 a)&&(ilt a (ç b))) (Ħ b (Int.toNat a) fun f=>ifb (ilt f d) (ck (a+(1:Int)) fun g=>e g) (c a))) (c a)
def tr (f:b5) (e:an) (g:Int) (h:Int) (i:Int) (j:fx) (k:bl) (l:fy) (m:c7) (n:bl) (o:c9) (d:Int) (a:an) (p:Int->an->BY ρ) (q:an->BY ρ):BY ρ :=
  ifb (ilt d (Õ e)) (ï e d fun r=>Ä (qm (((h,i),j,k,l,m,n),o) f r g) fun c=>Ê (fun(s:Int) t=>oJ c a s (fun u=>t u) (fun b=>Û ((ile 0 b)&&(ile b (ç a))) (Û (ß (List.length (List.take (Int.toNat b) (List.drop 0 a)))) (Û (ß ((List.length (List.take (Int.toNat b) (List.drop 0 a)))+(List.length ([c])))) (Û ((ile 0 b)&&(ile b (ç a))) (Û (ß ((List.length ((List.take (Int.toNat b) (List.drop 0 a))++([c])))+(List.length (List.take (List.length a-(Int.toNat b)) (List.drop (Int.toNat b) a))))) (ck (d+(1:Int)) fun v=>p v (((List.take (Int.toNat b) (List.drop 0 a))++([c]))++(List.take (List.length a-(Int.toNat b)) (List.drop (Int.toNat b) a)))))))))) (0:Int)) (q a)
def Yh (a:a8) (c:b5) (d:an) (e:Int) (k:an->BY ρ):BY ρ :=
  Ê (fun(b:ge) f=>tr c d e a.1.1.1 a.1.1.2 a.1.2.1 a.1.2.2.1 a.1.2.2.2.1 a.1.2.2.2.2.1 a.1.2.2.2.2.2 a.2 b.1 b.2 (fun g h=>f (g,h)) (fun i=>k i)) ((0:Int),[])
def AP (a:a8) (b:b5) (c:an) (d:Int):BY (an):=Yh a b c d some
def kj (f:b5) (g:Int) (h:Int) (i:fx) (b:bl) (j:fy) (k:c7) (l:bl) (m:c9) (c:Int) (d:bl) (n:Int->bl->BY ρ) (o:bl->BY ρ):BY ρ :=
  ifb (ilt c (Õ b)) (ï b c fun a=>Ä (qm (((g,h),i,b,j,k,l),m) f a.1 a.2) fun e=>Û (ß ((List.length d)+(List.length ([(e,a.2)])))) (ck (c+(1:Int)) fun p=>n p (d++([(e,a.2)])))) (o d)
def ki (f:b5) (g:Int) (h:Int) (i:fx) (j:bl) (b:fy) (k:c7) (l:bl) (m:c9) (c:Int) (d:fy) (n:Int->fy->BY ρ) (o:fy->BY ρ):BY ρ :=
  ifb (ilt c (Õ b)) (ï b c fun a=>Ä (qm (((g,h),i,j,b,k,l),m) f a.1 a.2.1.1) fun e=>Û (ß ((List.length d)+(List.length ([(e,a.2)])))) (ck (c+(1:Int)) fun p=>n p (d++([(e,a.2)])))) (o d)
def kh (e:b5) (f:Int) (g:Int) (h:fx) (i:bl) (j:fy) (b:c7) (k:bl) (l:c9) (c:Int) (d:c7) (o:Int->c7->BY ρ) (p:c7->BY ρ):BY ρ :=
  ifb (ilt c (Õ b)) (ï b c fun a=>Ä (AP (((f,g),h,i,j,b,k),l) e a.2.2.1 a.2.1) fun m=>Ä (AP (((f,g),h,i,j,b,k),l) e a.2.2.2.1 a.2.1) fun n=>Û (ß ((List.length d)+(List.length ([(a.1,a.2.1,m,n,a.2.2.2.2)])))) (ck (c+(1:Int)) fun q=>o q (d++([(a.1,a.2.1,m,n,a.2.2.2.2)])))) (p d)
def kg (f:b5) (g:Int) (h:Int) (i:fx) (j:bl) (k:fy) (l:c7) (b:bl) (m:c9) (c:Int) (d:bl) (n:Int->bl->BY ρ) (o:bl->BY ρ):BY ρ :=
  ifb (ilt c (Õ b)) (ï b c fun a=>Ä (qm (((g,h),i,j,k,l,b),m) f a.1 a.2) fun e=>Û (ß ((List.length d)+(List.length ([(e,a.2)])))) (ck (c+(1:Int)) fun p=>n p (d++([(e,a.2)])))) (o d)
def uF (a:a8) (b:b5) (k:b6->BY ρ):BY ρ :=
  Ê (fun(c:nm) g=>kj b a.1.1.1 a.1.1.2 a.1.2.1 a.1.2.2.1 a.1.2.2.2.1 a.1.2.2.2.2.1 a.1.2.2.2.2.2 a.2 c.1 c.2 (fun h i=>g (h,i)) (fun j=>Ê (fun(d:y6) l=>ki b a.1.1.1 a.1.1.2 a.1.2.1 a.1.2.2.1 a.1.2.2.2.1 a.1.2.2.2.2.1 a.1.2.2.2.2.2 a.2 d.1 d.2 (fun m n=>l (m,n)) (fun o=>Ê (fun(e:Val aZ) p=>kh b a.1.1.1 a.1.1.2 a.1.2.1 a.1.2.2.1 a.1.2.2.2.1 a.1.2.2.2.2.1 a.1.2.2.2.2.2 a.2 e.1 e.2 (fun q r=>p (q,r)) (fun s=>Ê (fun(f:nm) t=>kg b a.1.1.1 a.1.1.2 a.1.2.1 a.1.2.2.1 a.1.2.2.2.1 a.1.2.2.2.2.1 a.1.2.2.2.2.2 a.2 f.1 f.2 (fun u v=>t (u,v)) (fun w=>k (a.1.1,a.1.2.1,j,o,s,w))) ((0:Int),[]))) ((0:Int),[]))) ((0:Int),[]))) ((0:Int),[])
def ln (a:a8) (b:b5):BY b6:=uF a b some
def oP (d:hO) (e:Bool) (c:Int) (b:an) (f:Bool->Int->an->BY ρ) (g:BE->BY ρ):BY ρ :=
  ifb (ilt c (Õ d)) (ï d c fun a=>Û ((ile 0 a.1)&&(ilt a.1 (ç b))) (Ħ b (Int.toNat a.1) fun h=>ck (h+a.2.2) fun i=>Û ((ile 0 a.2.1)&&(ilt a.2.1 (ç b))) (Ħ b (Int.toNat a.2.1) fun j=>ifb (ilt i j) (Û ((ile 0 a.1)&&(ilt a.1 (ç b))) (Ħ b (Int.toNat a.1) fun k=>ck (k+a.2.2) fun l=>Û ((ile 0 a.2.1)&&(ilt a.2.1 (ç b))) (Ħ b (Int.toNat a.2.1) fun o=>ck (c+(1:Int)) fun m=>f true m (List.set b (Int.toNat a.2.1) l)))) (ck (c+(1:Int)) fun n=>f e n b)))) (g (e,b))
def oQ (g:Int) (h:hO) (a:Bool) (d:Int) (b:an) (i:Bool->Int->an->BY ρ) (e:BE->BY ρ):BY ρ :=
  ifb (ile d g) (ifb a (Ê (fun(c:Val bf) j=>oP h c.1 c.2.1 c.2.2 (fun k l m=>j (k,l,m)) (fun f=>ck (d+(1:Int)) fun n=>i f.1 n f.2)) (false,(0:Int),b)) (e (a,b))) (e (a,b))
def Yv (a:im) (k:Bool->BY ρ):BY ρ :=
  Û ((ile 0 a.1)&&(ß (Int.toNat a.1))) (Ê (fun(b:Val bf) c=>oQ a.1 a.2 b.1 b.2.1 b.2.2 (fun d e f=>c (d,e,f)) (fun g=>k (!g.1))) (true,(0:Int),(List.replicate (Int.toNat a.1) (0:Int))))
def H4 (a:im):BY (Bool):=Yv a some
def GB (a:a8) (b:b5) (k:Bool->BY ρ):BY ρ :=
  Ä (ln a b) fun c=>Ä (rY c) fun d=>Ä (H4 d) fun e=>k e
def qn (a:a8) (b:b5):BY (Bool):=GB a b some
def wZ (c:a7) (f:Int) (g:Int) (h:fx) (i:bl) (j:fy) (k:c7) (l:bl) (m:c9) (a:Int) (b:a7) (d:Int->a7->BY ρ) (n:a7->BY ρ):BY ρ :=
  ifb (ilt a (Õ c)) (ï c a fun o=>Ä (qn (((f,g),h,i,j,k,l),m) o) fun p=>ifb p (ï c a fun e=>Û (ß ((List.length b)+(List.length ([e])))) (ck (a+(1:Int)) fun q=>d q (b++([e])))) (ck (a+(1:Int)) fun r=>d r b)) (n b)
def acI (a:a8) (k:a7->BY ρ):BY ρ :=
  Ä (HU a) fun c=>Ê (fun(b:io) d=>wZ c a.1.1.1 a.1.1.2 a.1.2.1 a.1.2.2.1 a.1.2.2.2.1 a.1.2.2.2.2.1 a.1.2.2.2.2.2 a.2 b.1 b.2 (fun e f=>d (e,f)) (fun g=>k g)) ((0:Int),[])
def HW (a:a8):BY (a7):=acI a some
def oN (b:a7) (c:Int) (f:Int) (g:Int) (h:fx) (i:bl) (j:fy) (k:c7) (l:bl) (m:c9) (d:Bool) (a:Int) (e:Bool->Int->BY ρ) (n:Bool->BY ρ):BY ρ :=
  ifb (ilt a (Õ b)) (ifb d (ï b a fun o=>Ä (qm (((f,g),h,i,j,k,l),m) o c (20001:Int)) fun p=>ck (a+(1:Int)) fun q=>e (ieq p c) q) (ck (a+(1:Int)) fun r=>e false r)) (n d)
def tz (f:a7) (h:Int) (i:Int) (c:fx) (j:bl) (k:fy) (l:c7) (m:bl) (n:c9) (a:Int) (b:an) (d:Int->an->BY ρ) (o:an->BY ρ):BY ρ :=
  ifb (ilt a (Õ c)) (ï c a fun e=>Ê (fun(g:Val bg) p=>oN f e.1 h i c j k l m n g.1 g.2 (fun q r=>p (q,r)) (fun s=>ifb s (ifb (igt (Õ f) 0) (Û (ß ((List.length b)+(List.length ([e.1])))) (ck (a+(1:Int)) fun t=>d t (b++([e.1])))) (ck (a+(1:Int)) fun u=>d u b)) (ck (a+(1:Int)) fun v=>d v b))) (true,(0:Int))) (o b)
def Yj (a:a8) (k:py->BY ρ):BY ρ :=
  Ä (HW a) fun b=>Ê (fun(c:ge) d=>tz b a.1.1.1 a.1.1.2 a.1.2.1 a.1.2.2.1 a.1.2.2.2.1 a.1.2.2.2.2.1 a.1.2.2.2.2.2 a.2 c.1 c.2 (fun e f=>d (e,f)) (fun g=>k (g,igt (Õ b) 0))) ((0:Int),[])
def HV (a:a8):BY (py):=Yj a some
def Yx (a:b6) (b:bx) (k:Val bm->BY ρ):BY ρ :=
  Û (ß (0+(List.length a.2.2.2.2.2))) (Û (ß ((List.length (([])++a.2.2.2.2.2))+(List.length ([b])))) (Ä (nP (a.1,a.2.1,a.2.2.1,a.2.2.2.1,a.2.2.2.2.1,((([])++a.2.2.2.2.2)++([b])))) fun c=>ifb (ine c 0) (k ((((0:Int),(0:Int)),[],[],[],[],[]),c)) (k ((a.1,a.2.1,a.2.2.1,a.2.2.2.1,a.2.2.2.2.1,((([])++a.2.2.2.2.2)++([b]))),(0:Int)))))
def H5 (a:b6) (b:bx):BY ((Val bm)):=Yx a b some
def N3 (a:b6) (b:bx) (k:Val bm->BY ρ):BY ρ :=
  Ä (iO a b) fun d=>ifb (igt d 0) (k (a,(0:Int))) (Ä (H5 a b) fun c=>k (c.1,c.2))
def xM (a:b6) (b:bx):BY ((Val bm)):=N3 a b some
def oe (c:Int) (a:Int) (b:an) (d:Int->an->BY ρ) (e:an->BY ρ):BY ρ :=
  ifb (ilt a c) (Û ((ile 0 a)&&(ilt a (ç b))) (Ħ b (Int.toNat a) fun g=>ck (a+(1:Int)) fun f=>d f (List.set b (Int.toNat a) (1152921504606846976:Int)))) (e b)
def kZ (f:hO) (d:Bool) (c:Int) (b:an) (e:Bool->Int->an->BY ρ) (g:BE->BY ρ):BY ρ :=
  ifb (ilt c (Õ f)) (ï f c fun a=>Û ((ile 0 a.1)&&(ilt a.1 (ç b))) (Ħ b (Int.toNat a.1) fun h=>ifb (ilt h 1152921504606846976) (Û ((ile 0 a.1)&&(ilt a.1 (ç b))) (Ħ b (Int.toNat a.1) fun i=>ck (i+a.2.2) fun j=>Û ((ile 0 a.2.1)&&(ilt a.2.1 (ç b))) (Ħ b (Int.toNat a.2.1) fun k=>ifb (ilt j k) (Û ((ile 0 a.1)&&(ilt a.1 (ç b))) (Ħ b (Int.toNat a.1) fun l=>ck (l+a.2.2) fun m=>Û ((ile 0 a.2.1)&&(ilt a.2.1 (ç b))) (Ħ b (Int.toNat a.2.1) fun q=>ck (c+(1:Int)) fun n=>e true n (List.set b (Int.toNat a.2.1) m)))) (ck (c+(1:Int)) fun o=>e d o b)))) (ck (c+(1:Int)) fun p=>e d p b))) (g (d,b))
def la (f:Int) (g:hO) (h:Bool) (c:Int) (a:an) (i:Bool->Int->an->BY ρ) (d:an->BY ρ):BY ρ :=
  ifb (ile c f) (ifb h (Ê (fun(b:Val bf) j=>kZ g b.1 b.2.1 b.2.2 (fun k l m=>j (k,l,m)) (fun e=>ck (c+(1:Int)) fun n=>i e.1 n e.2)) (false,(0:Int),a)) (d a)) (d a)
def OI (a:im) (b:Int) (k:an->BY ρ):BY ρ :=
  Û ((ile 0 a.1)&&(ß (Int.toNat a.1))) (Ê (fun(e:ge) f=>oe a.1 e.1 e.2 (fun g h=>f (g,h)) (fun c=>Û ((ile 0 b)&&(ilt b (ç c))) (Ħ c (Int.toNat b) fun o=>Ê (fun(d:Val bf) i=>la a.1 a.2 d.1 d.2.1 d.2.2 (fun j l m=>i (j,l,m)) (fun n=>k n)) (true,(0:Int),(List.set c (Int.toNat b) (0:Int)))))) ((0:Int),(List.replicate (Int.toNat a.1) (0:Int))))
def rZ (a:im) (b:Int):BY (an):=OI a b some
def kX (d:Int) (b:hO) (a:Int) (e:Int->BY ρ) (c:Int->BY ρ):BY ρ :=
  ifb (ilt a (Õ b)) (Û ((ile 0 a)&&(ilt a (ç b))) (Ħ b (Int.toNat a) fun f=>ifb (ilt f.1 d) (ck (a+(1:Int)) fun g=>e g) (c a))) (c a)
def kY (u:Int) (h:Int) (i:a7) (k:Int) (l:Int) (m:fx) (n:bl) (o:fy) (p:c7) (q:bl) (r:c9) (f:Int) (b:hO) (j:Int->hO->BY ρ) (v:im->BY ρ) (w:hO->BY ρ):BY ρ :=
  ifb (ilt f (Õ i)) (ï i f fun x=>Ä (qm (((k,l),m,n,o,p,q),r) x u h) fun c=>ï i f fun y=>Ä (ln (((k,l),m,n,o,p,q),r) y) fun z=>Ä (xM z (c,h)) fun g=>ifb (ine g.2 0) (v (g.2,b)) (Ä (iO g.1 (c,h)) fun s=>Ä (rY g.1) fun t=>Ä (rZ t s) fun A=>ï A (0:Int) fun B=>ck ((0:Int)-B) fun d=>Ä (rZ t (0:Int)) fun C=>ï C s fun e=>Ê (fun(D:Int) E=>kX c b D (fun F=>E F) (fun a=>ifb (ilt a (Õ b)) (Û ((ile 0 a)&&(ilt a (ç b))) (Ħ b (Int.toNat a) fun G=>ifb (ieq G.1 c) (Û ((ile 0 a)&&(ilt a (ç b))) (Ħ b (Int.toNat a) fun H=>Û ((ile 0 a)&&(ilt a (ç b))) (Ħ b (Int.toNat a) fun I=>Û ((ile 0 a)&&(ilt a (ç b))) (Ħ b (Int.toNat a) fun J=>ck (f+(1:Int)) fun K=>j K (List.set b (Int.toNat a) (J.1,(Z3 H.2.1 d),(Qu I.2.2 e))))))) (Û ((ile 0 a)&&(ile a (ç b))) (Û (ß (List.length (List.take (Int.toNat a) (List.drop 0 b)))) (Û (ß ((List.length (List.take (Int.toNat a) (List.drop 0 b)))+(List.length ([(c,d,e)])))) (Û ((ile 0 a)&&(ile a (ç b))) (Û (ß ((List.length ((List.take (Int.toNat a) (List.drop 0 b))++([(c,d,e)])))+(List.length (List.take (List.length b-(Int.toNat a)) (List.drop (Int.toNat a) b))))) (ck (f+(1:Int)) fun L=>j L (((List.take (Int.toNat a) (List.drop 0 b))++([(c,d,e)]))++(List.take (List.length b-(Int.toNat a)) (List.drop (Int.toNat a) b))))))))))) (Û ((ile 0 a)&&(ile a (ç b))) (Û (ß (List.length (List.take (Int.toNat a) (List.drop 0 b)))) (Û (ß ((List.length (List.take (Int.toNat a) (List.drop 0 b)))+(List.length ([(c,d,e)])))) (Û ((ile 0 a)&&(ile a (ç b))) (Û (ß ((List.length ((List.take (Int.toNat a) (List.drop 0 b))++([(c,d,e)])))+(List.length (List.take (List.length b-(Int.toNat a)) (List.drop (Int.toNat a) b))))) (ck (f+(1:Int)) fun M=>j M (((List.take (Int.toNat a) (List.drop 0 b))++([(c,d,e)]))++(List.take (List.length b-(Int.toNat a)) (List.drop (Int.toNat a) b))))))))))) (0:Int))) (w b)
def N5 (a:a8) (d:Int) (e:Int) (k:At->BY ρ):BY ρ :=
  Ä (HW a) fun b=>ifb (ieq (Õ b) 0) (k ([],(5:Int))) (Ê (fun(c:im) f=>kY d e b a.1.1.1 a.1.1.2 a.1.2.1 a.1.2.2.1 a.1.2.2.2.1 a.1.2.2.2.2.1 a.1.2.2.2.2.2 a.2 c.1 c.2 (fun g h=>f (g,h)) (fun i=>k ([],i.1)) (fun j=>k (j,(0:Int)))) ((0:Int),[]))
def rX (a:a8) (b:Int) (c:Int):BY (At):=N5 a b c some
def Ť (d:hO) (e:hO) (a:Int) (f:Int->BY ρ) (g:Bool->BY ρ) (h:Unit->BY ρ):BY ρ :=
  ifb (ilt a (Õ d)) (ï d a fun b=>ï e a fun c=>ifb (!((mX b.1 c.1)&&((mX b.2.1 c.2.1)&&((mX b.2.2 c.2.2)&&true)))) (g false) (ck (a+(1:Int)) fun i=>f i)) (h ())
def qW (a:a8) (e:Int) (f:Int) (k:Bool->BY ρ):BY ρ :=
  Ä (Bz a) fun l=>ifb (!l) (Ä jS fun m=>k m) (Ä (we a e f) fun c=>Ä (Mc a) fun d=>Ä (BD a) fun i=>ifb (ine i 0) (Ä jS fun n=>ifb n (ifb (ieq c.2 i) (ifb (ieq d.2 i) (ck ((Õ c.1)+(Õ d.1)) fun o=>k (ieq o 0)) (k false)) (k false)) (k false)) (Ä (HV a) fun g=>akn (α:=(Val (.pair tI (.pair tI (.pair am aG))))) (fun h=>Ä (η d.1 g.1) fun p=>ifb (!p) (k false) (ifb g.2 (ifb (ine d.2 0) (k false) (ifb (!g.2) (ifb (ine d.2 5) (k false) (h (e,f,c.1,c.2,a.1.1.1,a.1.1.2,a.1.2.1,a.1.2.2.1,a.1.2.2.2.1,a.1.2.2.2.2.1,a.1.2.2.2.2.2,a.2))) (h (e,f,c.1,c.2,a.1.1.1,a.1.1.2,a.1.2.1,a.1.2.2.1,a.1.2.2.2.1,a.1.2.2.2.2.1,a.1.2.2.2.2.2,a.2)))) (ifb (!g.2) (ifb (ine d.2 5) (k false) (h (e,f,c.1,c.2,a.1.1.1,a.1.1.2,a.1.2.1,a.1.2.2.1,a.1.2.2.2.1,a.1.2.2.2.2.1,a.1.2.2.2.2.2,a.2))) (h (e,f,c.1,c.2,a.1.1.1,a.1.1.2,a.1.2.1,a.1.2.2.1,a.1.2.2.2.1,a.1.2.2.2.2.1,a.1.2.2.2.2.2,a.2))))) (fun b=>Ä (qp b.2.1) fun q=>ifb (!q) (Ä jS fun r=>ifb r (ifb (ieq b.2.2.2.1 1) (k (ieq (Õ b.2.2.1) 0)) (k false)) (k false)) (Ä (jm ((b.2.2.2.2.1,b.2.2.2.2.2.1),b.2.2.2.2.2.2.1,b.2.2.2.2.2.2.2.1,b.2.2.2.2.2.2.2.2.1,b.2.2.2.2.2.2.2.2.2.1,b.2.2.2.2.2.2.2.2.2.2.1) b.1) fun s=>ifb (ilt s 0) (Ä jS fun t=>ifb t (ifb (ieq b.2.2.2.1 5) (k (ieq (Õ b.2.2.1) 0)) (k false)) (k false)) (Ä (rX (((b.2.2.2.2.1,b.2.2.2.2.2.1),b.2.2.2.2.2.2.1,b.2.2.2.2.2.2.2.1,b.2.2.2.2.2.2.2.2.1,b.2.2.2.2.2.2.2.2.2.1,b.2.2.2.2.2.2.2.2.2.2.1),b.2.2.2.2.2.2.2.2.2.2.2) b.1 b.2.1) fun j=>ifb (ine b.2.2.2.1 j.2) (k false) (ifb (ine (Õ b.2.2.1) (Õ j.1)) (k false) (Ê (fun(u:Int) v=>Ť b.2.2.1 j.1 u (fun w=>v w) (fun x=>k x) (fun _=>Ä jS fun y=>k y)) (0:Int))))))))
def rV (a:a8) (b:Int) (c:Int):BY (Bool):=qW a b c some
end Go.Proofs.ZzM
end
