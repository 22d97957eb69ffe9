/- lemmas -/
import Derived.Test.YtenljaeklhlanaaGreatAmE
set_option linter.all false
noncomputable section
variable {ρ:Type}
set_option maxRecDepth 100000
namespace Go.Proofs.ZzM
open Go Go.Am
abbrev tI:Ty:=.int .i64
abbrev Ç:Ty:=(.pair tI tI)
abbrev Ĥ:Ty:=(.pair tI Ç)
abbrev ė:Ty:=(.pair tI (.slice tI))
abbrev ĝ:Ty:=(.pair Ç Ç)
abbrev ml:Ty:=(.pair Ç tI)
abbrev ς:Ty:=(.pair tI ml)
abbrev Fv:Ty:=(.pair ĝ tI)
abbrev Õ:Ty:=(.pair tI (.slice Ĥ))
abbrev CE:Ty:=(.pair (.slice Ĥ) (.slice Ç))
abbrev Ú:Ty:=(.pair tI (.pair tI (.pair tI (.pair Ç ml))))
abbrev Ö:Ty:=(.pair tI (.pair tI (.pair (.slice tI) (.pair (.slice tI) (.pair tI Ĥ)))))
abbrev Ë:Ty:=(.pair Ç (.pair (.slice Ú) (.pair (.slice Ç) (.pair (.slice ς) (.pair (.slice Ö) (.slice Ç))))))
abbrev Â:Ty:=(.pair Ë (.slice ė))
abbrev Ea:Ty:=(.pair Ë (.pair (.slice Ç) (.pair Õ (.slice Ç))))
def Bw (l:CK Int):BY (CK Int):=à (ã l.length) (some l)
def vl:Nat->CK Int->CK (CK Int)
  |0,_=>[[]]
  |n+1,l=>if l.length=0 then[[]] else(List.range l.length).flatMap fun i=>(vl n (l.take i++l.drop (i+1))).map (l.getD i 0::·)
def χ:CK (Int×CK Int)->CK (CK (CK Int))
  |[]=>[[]]
  |m::r=>(vl m.2.length m.2).flatMap fun x=>(χ r).map (x::·)
def Bx (l:CK Int):BY (CK (CK Int)):=à (decide (l.length<=9)) (some (vl l.length l))
def nV (l:CK (Int×CK Int)):BY (CK (CK (CK Int))):=à (decide (l.length<=9)&&l.all fun m=>decide (m.2.length<=9)) (some (χ l))
abbrev aa:Ty:=(.slice Ç)
abbrev ab:Ty:=(.slice tI)
abbrev ac:Ty:=(.slice Ö)
abbrev ae:Ty:=(.slice Ú)
abbrev af:Ty:=(.slice ς)
abbrev ah:Ty:=(.slice ab)
abbrev ai:Ty:=(.pair tI (.pair tI (.pair ae (.pair aa (.pair af (.pair ac (.pair aa (.slice ė))))))))
abbrev aj:Ty:=(.slice ė)
abbrev ak:Ty:=(.slice ah)
abbrev am:Ty:=(.slice Ĥ)
abbrev ao:Ty:=(.pair tI (.pair tI (.pair ae (.pair aa (.pair af (.pair ac aa))))))
abbrev aq:Ty:=(.pair tI (.pair tI (.pair tI (.pair ae (.pair aa (.pair af (.pair ac (.pair aa (.pair tI (.pair tI (.pair tI (.pair tI (.pair tI Ĥ)))))))))))))
abbrev ar:Ty:=(.map tI Ú)
abbrev au:Ty:=(.map tI .bool)
abbrev aw:Ty:=(.pair tI (.pair tI (.pair ae (.pair aa (.pair af (.pair ac (.pair aa (.pair tI (.pair tI (.pair ab (.pair ab (.pair tI (.pair tI (.pair tI ė))))))))))))))
abbrev ax:Ty:=(.slice .bool)
abbrev ay:Ty:=(.ptr Â)
abbrev az:Ty:=(.pair tI (.pair ak ai))
abbrev aB:Ty:=(.pair tI ak)
abbrev aD:Ty:=(.pair ab tI)
abbrev aE:Ty:=(.pair tI (.pair tI (.pair ae (.pair aa (.pair af (.pair ac (.pair aa (.pair aj ai))))))))
abbrev aF:Ty:=(.pair tI ai)
abbrev aG:Ty:=(.pair tI (.pair tI (.pair ae (.pair aa (.pair af (.pair ac (.pair aa ė)))))))
abbrev aH:Ty:=(.pair tI (.pair tI (.pair tI (.pair ae (.pair aa (.pair af (.pair ac (.pair aa (.pair tI Ĥ)))))))))
abbrev aI:Ty:=(.pair tI (.pair tI (.pair ae (.pair aa (.pair af (.pair ac (.pair aa (.pair aj ak))))))))
abbrev aJ:Ty:=(.pair ab (.pair tI (.pair tI (.pair tI (.pair ae (.pair aa (.pair af (.pair ac (.pair aa (.pair tI (.pair ab (.map tI tI))))))))))))
abbrev aK:Ty:=(.ptr ah)
abbrev aL:Ty:=(.pair tI ah)
abbrev aM:Ty:=(.pair tI aa)
abbrev aO:Ty:=(.pair tI (.pair tI (.pair ae (.pair aa (.pair af (.pair ac (.pair aa (.pair aj Ç))))))))
abbrev aP:Ty:=(.pair Â ah)
abbrev aQ:Ty:=(.pair tI (.pair tI (.pair ae (.pair aa (.pair af (.pair ac (.pair aa (.pair aj ab))))))))
abbrev aR:Ty:=(.pair tI Õ)
abbrev aS:Ty:=(.pair tI ac)
abbrev aT:Ty:=(.pair tI CE)
abbrev aU:Ty:=(.pair ax ab)
abbrev aV:Ty:=(.pair ab (.pair ax (.pair ab ab)))
abbrev aW:Ty:=(.pair tI (.pair tI (.pair tI (.pair tI (.pair tI az)))))
abbrev aX:Ty:=(.pair aa (.pair tI (.pair tI (.pair tI (.pair tI (.pair tI (.pair tI Ĥ)))))))
abbrev aY:Ty:=(.map tI Ç)
abbrev aZ:Ty:=(.pair Ë Ö)
abbrev ba:Ty:=(.pair Ë Ç)
abbrev bc:Ty:=(.pair ab (.pair tI (.pair tI aD)))
abbrev bf:Ty:=(.pair tI ė)
abbrev bg:Ty:=(.pair .bool tI)
abbrev bh:Ty:=(.pair ab ė)
abbrev bi:Ty:=(.map tI tI)
abbrev bj:Ty:=(.pair Â ab)
abbrev bm:Ty:=(.pair ab (.pair aj ab))
abbrev bn:Ty:=(.pair tI (.pair tI aF))
abbrev bo:Ty:=(.pair tI (.pair tI Ĥ))
abbrev bp:Ty:=(.pair Ë (.pair ar tI))
abbrev bq:Ty:=(.pair tI (.pair tI (.pair am Õ)))
abbrev an:=Val ab
abbrev a7:=Val ak
abbrev a8:=Val Â
abbrev bl:=Val Ç
abbrev bx:=Val aa
abbrev b5:=Val ah
abbrev b6:=Val Ë
abbrev c7:=Val ac
abbrev c9:=Val aj
abbrev fx:=Val af
abbrev fy:=Val ae
abbrev f4:=Val ė
abbrev ge:=Val am
abbrev im:=Val Õ
abbrev io:=Val aB
abbrev i4:=Val Ö
abbrev kw:=Val (.map tI Ú)
abbrev ly:=Val ĝ
abbrev lA:=Val aD
abbrev l7:=Val ml
abbrev ni:=Val (.pair ab ab)
abbrev nj:=Val (.pair tI (.pair ab aU))
abbrev nm:=Val aM
abbrev nn:=Val (.pair (.int .u64) (.int .u64))
abbrev pc:=Val (.pair tI (.slice tI))
abbrev pi:=Val Ú
abbrev px:=Val aL
abbrev py:=Val ar
abbrev qs:=Val (.pair tI (.pair tI .bool))
abbrev rd:=Val ai
abbrev rm:=Val (.pair ah tI)
abbrev rn:=Val (.pair ah aF)
abbrev rx:=Val Ĥ
abbrev ry:=Val (.pair Â (.pair ah Ç))
abbrev r8:=Val (.pair .bool ė)
abbrev so:=Val (.pair ς .bool)
abbrev th:=Val (.pair ah .bool)
abbrev u5:=Val (.slice tI)
abbrev u6:=Val ς
abbrev u7:=Val (.slice (.slice tI))
abbrev v6:=Val aP
abbrev v8:=Val az
abbrev wk:=Val aT
abbrev wl:=Val ax
abbrev xa:=Val (.pair ab aL)
abbrev xl:=Val (.pair tI aB)
abbrev x9:=Val (.pair tI az)
abbrev y5:=Val (.pair tI af)
abbrev y6:=Val (.pair tI aU)
abbrev y8:=Val (.pair tI aS)
abbrev y9:=Val (.pair tI bf)
abbrev An:=Val (.pair Ë tI)
abbrev At:=Val (.pair ak tI)
abbrev AN:=Val aF
abbrev AS:=Val (.pair ab .bool)
abbrev BE:=Val aS
def Τ (d:b5) (e:Int) (b:Int) (a:Int) (f:Int->Int->BY ρ) (g:Int->BY ρ):BY ρ :=
  ifb (ilt a e) (ð d a fun h=>ck (b+(Ó h)) fun c=>ifb (ilt c 0) (none) (ck (a+(1:Int)) fun i=>f c i)) (g b)
def Ģ (d:b5) (e:Int) (a:Int) (b:an) (f:Int->an->BY ρ) (g:an->BY ρ):BY ρ :=
  ifb (ilt a e) (ð d a fun c=>à (ã ((List.length b)+(List.length c))) (ck (a+(1:Int)) fun h=>f h (b++c))) (g b)
def tx (a:b5) (k:an->BY ρ):BY ρ :=
  Ê (fun(c:bl) g=>Τ a (Ó a) c.1 c.2 (fun h i=>g (h,i)) (fun d=>ifb (ilt d 0) (none) (ck (d-(0:Int)) fun b=>ifb (igt b 0) (à ((ilt 0 b)&&(ã (Int.toNat b))) (à (ile 0 (ì (List.replicate (Int.toNat b) (0:Int)))) (Ê (fun(e:f4) j=>Ģ a (Ó a) e.1 e.2 (fun l m=>j (l,m)) (fun n=>k n)) ((0:Int),(List.take 0 (List.replicate (Int.toNat b) (0:Int))))))) (Ê (fun(f:f4) o=>Ģ a (Ó a) f.1 f.2 (fun p q=>o (p,q)) (fun r=>k r)) ((0:Int),[]))))) ((0:Int),(0:Int))
def Ī (a:b5):BY (an):=tx a some
def rh (al:b5) (rec:an->BY (b5)) (a:Int) (b:b5) (y:an) (c:b5->BY ρ):BY ρ :=
  à (ã ((List.length ([a]))+(List.length y))) (yg al (b++[(([a])++y)]) (c (b++[(([a])++y)])))
def ri (al:b5) (rec:an->BY (b5)) (e:an) (f:Int) (b:an) (a:Int) (d:b5) (g:Int->b5->BY ρ) (h:b5->BY ρ):BY ρ :=
  ifb (ilt a f) (ð e a fun i=>à ((ile 0 a)&&(ile a (ì b))) (ck (a+(1:Int)) fun c=>à ((ile 0 c)&&(ile c (ì b))) (Ã (Ī ([(List.take (Int.toNat a) b),(List.drop (Int.toNat c) b)])) fun j=>Ã (rec j) fun k=>AO (fun(l:b5) (m:an) n=>rh al rec i l m (fun o=>n o)) k (d) (fun p=>ck (a+(1:Int)) fun q=>g q p)))) (h d)
def zD (al:b5) (rec:an->BY (b5)) (mm:an) (k:(b5)×(an)->BY ρ):BY ρ :=
  ifb (ieq (Ó mm) 0) (yg al (([])++[[]]) (k ((([])++[[]]),mm))) (Ê (fun(a:px) b=>ri al rec mm (Ó mm) mm a.1 a.2 (fun c d=>b (c,d)) (fun e=>k (e,mm))) ((0:Int),[]))
def nM (al:a7) (rec:c9->BY (a7)) (a:an) (b:a7) (y:b5) (c:a7->BY ρ):BY ρ :=
  à (ã ((List.length ([a]))+(List.length y))) (yg al (b++[(([a])++y)]) (c (b++[(([a])++y)])))
def nN (al:a7) (rec:c9->BY (a7)) (a:c9) (b:a7) (y:an) (c:a7->BY ρ):BY ρ :=
  à (ile 1 (ì a)) (Ã (rec (List.drop 1 a)) fun d=>AO (fun(e:a7) (f:b5) g=>nM al rec y e f (fun h=>g h)) d (b) (fun i=>c i))
def uH (al:a7) (rec:c9->BY (a7)) (mm:c9) (k:(a7)×(c9)->BY ρ):BY ρ :=
  ifb (ieq (Ó mm) 0) (yg al (([])++[[]]) (k ((([])++[[]]),mm))) (ð mm (0:Int) fun a=>Ã (Bx a.2) fun b=>AO (fun(c:a7) (d:an) e=>nN al rec mm c d (fun f=>e f)) b ([]) (fun g=>k (g,mm)))
def jg (al:an) (rec:an->BY (an)) (d:an) (e:Int) (a:Int) (b:an) (f:Int->an->BY ρ) (g:an->BY ρ):BY ρ :=
  ifb (ilt a e) (ð d a fun c=>yg al (b++[c]) (ck (a+(1:Int)) fun h=>f h (b++[c]))) (g b)
def lg (al:an) (rec:an->BY (an)) (mm:an) (k:(an)×(an)->BY ρ):BY ρ :=
  Ê (fun(a:f4) b=>jg al rec mm (Ó mm) a.1 a.2 (fun c d=>b (c,d)) (fun e=>k (e,mm))) ((0:Int),[])
def TN (a:bl) (b:Int) (c:Int) (k:Bool->BY ρ):BY ρ :=
  ifb (ile b a.1) (ifb (ile a.1 a.2) (k (ile a.2 c)) (k false)) (k false)
def Λ (a:bl) (b:Int) (c:Int):BY (Bool):=TN a b c some
def TL (a:Int) (b:Int) (c:Int) (k:Bool->BY ρ):BY ρ :=
  ifb (ile b a) (k (ile a c)) (k false)
def ğ (a:Int) (b:Int) (c:Int):BY (Bool):=TL a b c some
def Zh (a:Int) (k:Bool->BY ρ):BY ρ :=
  Ã (ğ a (0:Int) (20000:Int)) fun b=>k b
def m8 (a:Int):BY (Bool):=Zh a some
def ac2 (a:Int) (k:Int->BY ρ):BY ρ :=
  ifb (ilt a 0) (k (IntKind.wrap .u64 (0-(IntKind.wrap .u64 a)))) (k (IntKind.wrap .u64 a))
def uA (a:Int):BY (Int):=ac2 a some
def Bs (b:Int) (a:Int) (c:Int->Int->BY ρ) (d:Int->BY ρ):BY ρ :=
  ifb (ine a 0) (ifb (oy a 0) (none) (c a (Int.tmod b a))) (d b)
def ahu (b:Int) (c:Int) (k:Int->BY ρ):BY ρ :=
  Ê (fun(a:nn) d=>Bs a.1 a.2 (fun e f=>d (e,f)) (fun g=>k g)) (b,c)
def P1 (a:Int) (b:Int):BY (Int):=ahu a b some
def Zc (a:bl) (k:Bool->BY ρ):BY ρ :=
  ifb (ige a.2 1) (ifb (ile a.2 2147483647) (Ã (uA a.1) fun b=>ifb (ile b 2147483647) (Ã (uA a.1) fun c=>Ã (uA a.2) fun d=>Ã (P1 c d) fun e=>k (ieq e 1)) (k false)) (k false)) (k false)
def wA (a:bl):BY (Bool):=Zc a some
def EX (a:pi) (k:Bool->BY ρ):BY ρ :=
  Ã (wA a.2.2.2.2.1) fun b=>ifb b (Ã (ğ a.2.2.2.2.1.1 (-1000:Int) (1000:Int)) fun c=>ifb c (Ã (ğ a.1 (1:Int) (1099511627776:Int)) fun d=>ifb d (Ã (m8 a.2.1) fun e=>ifb e (Ã (ğ a.2.2.1 (1:Int) (1125899906842624:Int)) fun f=>ifb f (Ã (Λ a.2.2.2.1 (-1073741824:Int) (1073741824:Int)) fun g=>ifb g (ifb (ile a.2.2.2.2.1.2 100) (Ã (ğ a.2.2.2.2.2 (0:Int) (1048576:Int)) fun h=>k h) (k false)) (k false)) (k false)) (k false)) (k false)) (Ã (ğ a.1 (1:Int) (1099511627776:Int)) fun i=>ifb i (Ã (m8 a.2.1) fun j=>ifb j (Ã (ğ a.2.2.1 (1:Int) (1125899906842624:Int)) fun l=>ifb l (Ã (Λ a.2.2.2.1 (-1073741824:Int) (1073741824:Int)) fun m=>ifb m (k false) (k false)) (k false)) (k false)) (k false))) (Ã (ğ a.1 (1:Int) (1099511627776:Int)) fun n=>ifb n (Ã (m8 a.2.1) fun o=>ifb o (Ã (ğ a.2.2.1 (1:Int) (1125899906842624:Int)) fun p=>ifb p (Ã (Λ a.2.2.2.1 (-1073741824:Int) (1073741824:Int)) fun q=>ifb q (k false) (k false)) (k false)) (k false)) (k false))
def yb (a:pi):BY (Bool):=EX a some
def jL (e:fy) (f:Int) (g:fy) (a:Int) (b:Int->BY ρ) (c:Int->BY ρ) (h:Unit->BY ρ):BY ρ :=
  ifb (ilt a f) (ð e a fun d=>Ã (yb d) fun i=>ifb (!i) (c (1:Int)) (ifb (igt a 0) (ck (a-(1:Int)) fun j=>ð g j fun k=>ifb (ile d.1 k.1) (c (6:Int)) (ck (a+(1:Int)) fun l=>b l)) (ck (a+(1:Int)) fun m=>b m))) (h ())
def AG (a:b6) (k:Int->BY ρ):BY ρ :=
  Ê (fun(b:Int) c=>jL a.2.1 (Ó a.2.1) a.2.1 b (fun d=>c d) (fun e=>k e) (fun _=>k (0:Int))) (0:Int)
def ż (a:b6):BY (Int):=AG a some
def ou (d:fy) (e:Int) (a:Int) (b:py) (f:Int->py->BY ρ) (g:py->BY ρ):BY ρ :=
  ifb (ilt a e) (ð d a fun c=>ck (a+(1:Int)) fun h=>f h (Tb (k:=tI) (v:=Ú) c.1 c b)) (g b)
def Pj (a:b6) (k:py->BY ρ):BY ρ :=
  Ê (fun(b:(Val (.pair tI ar))) c=>ou a.2.1 (Ó a.2.1) b.1 b.2 (fun d e=>c (d,e)) (fun f=>k f)) ((0:Int),[])
def Ň (a:b6):BY (py):=Pj a some
def ψ (b:an) (c:Int) (d:Int) (a:Int) (e:Int->BY ρ) (f:Int->BY ρ) (g:Unit->BY ρ):BY ρ :=
  ifb (ilt a d) (ð b a fun h=>ifb (ieq c h) (f a) (ck (a+(1:Int)) fun i=>e i)) (g ())
def vL (a:an) (b:Int) (k:Int->BY ρ):BY ρ :=
  Ê (fun(c:Int) d=>ψ a b (Ó a) c (fun e=>d e) (fun f=>k f) (fun _=>k (-1:Int))) (0:Int)
def iP (a:an) (b:Int):BY (Int):=vL a b some
def pK (a:an) (b:Int) (k:Bool->BY ρ):BY ρ :=
  Ã (iP a b) fun c=>k (ige c 0)
def æ (a:an) (b:Int):BY (Bool):=pK a b some
def xB (f:c7) (g:Int) (d:Int) (a:Int) (b:an) (e:Int->an->BY ρ) (h:an->BY ρ):BY ρ :=
  ifb (ilt a g) (ð f a fun c=>Ã (æ c.2.2.1 d) fun i=>Ã (æ c.2.2.2.1 d) fun j=>ifb (!(i==j)) (à (ã ((List.length b)+(List.length ([c.2.1])))) (ck (a+(1:Int)) fun k=>e k (b++([c.2.1])))) (ck (a+(1:Int)) fun l=>e l b)) (h b)
def xA (e:bx) (f:Int) (g:Int) (a:Int) (b:an) (d:Int->an->BY ρ) (h:an->BY ρ):BY ρ :=
  ifb (ilt a f) (ð e a fun c=>ifb (ieq c.1 g) (à (ã ((List.length b)+(List.length ([c.2])))) (ck (a+(1:Int)) fun i=>d i (b++([c.2])))) (ck (a+(1:Int)) fun j=>d j b)) (h b)
def ac8 (a:b6) (b:pi) (k:an->BY ρ):BY ρ :=
  Ê (fun(d:f4) f=>xB a.2.2.2.2.1 (Ó a.2.2.2.2.1) b.1 d.1 d.2 (fun g h=>f (g,h)) (fun i=>Ê (fun(e:f4) j=>xA a.2.2.2.2.2 (Ó a.2.2.2.2.2) b.1 e.1 e.2 (fun l m=>j (l,m)) (fun c=>à (ã (List.length c)) (à (ã (List.length (yT c))) (k (BZ (yT c)))))) ((0:Int),i))) ((0:Int),[b.2.1])
def qu (a:b6) (b:pi):BY (an):=ac8 a b some
def ug (e:an) (f:Int) (c:Int) (a:Int) (b:bx) (g:Int->bx->BY ρ) (h:bx->BY ρ):BY ρ :=
  ifb (ilt a f) (ð e a fun d=>à (ã ((List.length b)+(List.length ([(c,d)])))) (ck (a+(1:Int)) fun i=>g i (b++([(c,d)])))) (h b)
def uh (f:fy) (g:Int) (h:Int) (i:Int) (j:fy) (k:bx) (l:fx) (m:c7) (n:bx) (a:Int) (b:bx) (o:Int->bx->BY ρ) (p:bx->BY ρ):BY ρ :=
  ifb (ilt a g) (ð f a fun c=>Ã (qu ((h,i),j,k,l,m,n) c) fun d=>Ê (fun(e:nm) q=>ug d (Ó d) c.1 e.1 e.2 (fun r s=>q (r,s)) (fun t=>ck (a+(1:Int)) fun u=>o u t)) ((0:Int),b)) (p b)
def Zg (a:b6) (k:bx->BY ρ):BY ρ :=
  Ê (fun(b:nm) c=>uh a.2.1 (Ó a.2.1) a.1.1 a.1.2 a.2.1 a.2.2.1 a.2.2.2.1 a.2.2.2.2.1 a.2.2.2.2.2 b.1 b.2 (fun d e=>c (d,e)) (fun f=>k f)) ((0:Int),[])
def sg (a:b6):BY (bx):=Zg a some
def DT (a:py) (b:Int) (c:Int) (k:Int->BY ρ):BY ρ :=
  QH (k:=tI) (v:=Ú) b a (fun d=>ifb (ilt c d.2.1) (k (4:Int)) (k (0:Int))) (k (5:Int))
def jF (a:py) (b:Int) (c:Int):BY (Int):=DT a b c some
def Pm (b:Int) (a:Int) (c:(Val (.ptr ar))) (k:Int->BY ρ):BY ρ :=
  Ã (m8 a) fun d=>ifb (!d) (k (1:Int)) (Ã (jF c b a) fun e=>k e)
def ň (a:Int) (b:Int) (c:(Val (.ptr ar))):BY (Int):=Pm a b c some
def lR (d:fx) (e:Int) (f:Int) (g:Int) (h:Int) (a:Int) (b:Int->BY ρ) (i:Int->BY ρ) (j:Unit->BY ρ):BY ρ :=
  ifb (ilt a e) (ð d a fun c=>ifb (ieq c.1 f) (ifb (ile c.2.1.1 h) (ifb (ile g c.2.1.2) (i a) (ck (a+(1:Int)) fun k=>b k)) (ck (a+(1:Int)) fun l=>b l)) (ck (a+(1:Int)) fun m=>b m)) (j ())
def Κ (d:bx) (e:Int) (f:Int) (g:Int) (h:Int) (a:Int) (b:Int->BY ρ) (i:Int->BY ρ) (j:Unit->BY ρ):BY ρ :=
  ifb (ilt a e) (ð d a fun c=>ifb (ieq c.1 f) (Ã (ğ c.2 g h) fun k=>ifb k (i a) (ck (a+(1:Int)) fun l=>b l)) (ck (a+(1:Int)) fun m=>b m)) (j ())
def xC (b:b6) (e:py) (c:Int) (k:Int->BY ρ):BY ρ :=
  ð b.2.2.2.1 c fun a=>Ã (Λ a.2.1 (0:Int) (20000:Int)) fun f=>ifb (!f) (k (1:Int)) (Ã (ğ a.2.2 (0:Int) (1048576:Int)) fun g=>ifb (!g) (k (1:Int)) (Ã (jF e a.1 a.2.1.1) fun d=>ifb (ine d 0) (k d) (à ((ile 0 c)&&(ile c (ì b.2.2.2.1))) (Ê (fun(h:Int) i=>lR (List.take (Int.toNat c) b.2.2.2.1) (Ó (List.take (Int.toNat c) b.2.2.2.1)) a.1 a.2.1.1 a.2.1.2 h (fun j=>i j) (fun l=>ifb (ige l 0) (k (9:Int)) (Ê (fun(m:Int) n=>Κ b.2.2.1 (Ó b.2.2.1) a.1 a.2.1.1 a.2.1.2 m (fun o=>n o) (fun p=>ifb (ige p 0) (k (9:Int)) (k (0:Int))) (fun _=>k (0:Int))) (0:Int))) (fun _=>Ê (fun(q:Int) r=>Κ b.2.2.1 (Ó b.2.2.1) a.1 a.2.1.1 a.2.1.2 q (fun s=>r s) (fun t=>ifb (ige t 0) (k (9:Int)) (k (0:Int))) (fun _=>k (0:Int))) (0:Int))) (0:Int)))))
def ε (a:b6) (b:py) (c:Int):BY (Int):=xC a b c some
def qm (e:an) (f:an) (g:Int) (a:Int) (b:Int->BY ρ) (c:Bool->BY ρ) (h:Unit->BY ρ):BY ρ :=
  ifb (ilt a g) (ð f a fun d=>Ã (ğ d (1:Int) (1099511627776:Int)) fun i=>ifb (!i) (c false) (ifb (igt a 0) (ck (a-(1:Int)) fun j=>ð e j fun k=>ifb (ile d k) (c false) (ck (a+(1:Int)) fun l=>b l)) (ck (a+(1:Int)) fun m=>b m))) (h ())
def TM (a:an) (k:Bool->BY ρ):BY ρ :=
  Ê (fun(b:Int) c=>qm a a (Ó a) b (fun d=>c d) (fun e=>k e) (fun _=>k (ile (Ó a) 6))) (0:Int)
def nY (a:an):BY (Bool):=TM a some
def xz (c:Int) (d:an) (b:an) (a:Int) (e:Int->BY ρ) (f:Int->BY ρ) (g:Unit->BY ρ):BY ρ :=
  ifb (ilt a c) (à ((ile 0 a)&&(ilt a (ì b))) (Į b (Int.toNat a) fun h=>Ã (æ d h) fun i=>ifb i (f a) (ck (a+(1:Int)) fun j=>e j))) (g ())
def lX (f:an) (b:Int) (c:Int) (a:an) (d:Int->Int->an->BY ρ) (g:f4->BY ρ):BY ρ :=
  ifb (ilt c (Ó a)) (à ((ile 0 c)&&(ilt c (ì a))) (Į a (Int.toNat c) fun e=>Ã (æ f e) fun h=>ifb (!h) (à ((ile 0 b)&&(ilt b (ì a))) (Į a (Int.toNat b) fun l=>ck (b+(1:Int)) fun i=>ck (c+(1:Int)) fun j=>d i j (List.set a (Int.toNat b) e))) (ck (c+(1:Int)) fun k=>d b k a))) (g (b,a))
def ac7 (b:an) (e:an) (k:an->BY ρ):BY ρ :=
  à (ã (List.length b)) (Ê (fun(f:Int) g=>xz (Ó b) e b f (fun h=>g h) (fun c=>ifb (ieq c (-1:Int)) (k b) (ck (c+(1:Int)) fun i=>Ê (fun(d:Val bf) j=>lX e d.1 d.2.1 d.2.2 (fun l m n=>j (l,m,n)) (fun a=>à ((ile 0 a.1)&&(ile a.1 (ì a.2))) (à ((ile 0 a.1)&&(ile a.1 (ì (List.take (Int.toNat a.1) a.2++List.replicate (List.length a.2-(Int.toNat a.1)) (0:Int)++List.drop ((Int.toNat a.1)+(List.length a.2-(Int.toNat a.1))) a.2)))) (k (List.take (Int.toNat a.1) (List.drop 0 (List.take (Int.toNat a.1) a.2++List.replicate (List.length a.2-(Int.toNat a.1)) (0:Int)++List.drop ((Int.toNat a.1)+(List.length a.2-(Int.toNat a.1))) a.2))))))) (c,i,b))) (fun _=>k b)) (0:Int))
def δ (a:an) (b:an):BY (an):=ac7 a b some
def xD (d:fx) (e:Int) (f:Int) (g:Int) (a:Int) (c:Int->BY ρ) (h:Int->BY ρ) (i:Unit->BY ρ):BY ρ :=
  ifb (ilt a e) (ð d a fun b=>ifb (ieq b.1 f) (Ã (ğ g b.2.1.1 b.2.1.2) fun j=>ifb j (h a) (ck (a+(1:Int)) fun k=>c k)) (ck (a+(1:Int)) fun l=>c l)) (i ())
def ac9 (a:b6) (c:Int) (d:Int) (k:so->BY ρ):BY ρ :=
  Ê (fun(e:Int) f=>xD a.2.2.2.1 (Ó a.2.2.2.1) c d e (fun g=>f g) (fun b=>ifb (ilt b 0) (k (((0:Int),((0:Int),(0:Int)),(0:Int)),false)) (ð a.2.2.2.1 b fun h=>k (h,true))) (fun _=>k (((0:Int),((0:Int),(0:Int)),(0:Int)),false))) (0:Int)
def yc (a:b6) (b:Int) (c:Int):BY (so):=ac9 a b c some
def jj (b:c7) (c:Int) (d:Int) (a:Int) (e:Int->BY ρ) (f:Int->BY ρ) (g:Unit->BY ρ):BY ρ :=
  ifb (ilt a c) (ð b a fun h=>ifb (ieq h.1 d) (f a) (ck (a+(1:Int)) fun i=>e i)) (g ())
def ji (c:py) (b:Int) (d:an) (e:Int) (f:Int) (a:Int) (g:Int->BY ρ) (h:Int->BY ρ) (i:Unit->BY ρ):BY ρ :=
  ifb (ilt a e) (ð d a fun j=>Ã (jF c j f) fun k=>ifb (ieq k b) (h b) (ck (a+(1:Int)) fun l=>g l)) (i ())
def Ŗ (d:py) (b:an) (e:Int) (f:Int) (c:an) (a:Int) (g:Int->BY ρ) (h:Int->BY ρ) (i:Unit->BY ρ):BY ρ :=
  ifb (ilt a e) (à ((ile 0 a)&&(ilt a (ì c))) (Į c (Int.toNat a) fun j=>Ê (fun(k:Int) l=>ji d j b (Ó b) f k (fun m=>l m) (fun n=>h n) (fun _=>ck (a+(1:Int)) fun o=>g o)) (0:Int))) (i ())
def ŕ (b:an) (c:Int) (d:Int) (e:Int) (f:fy) (g:bx) (h:fx) (i:c7) (j:bx) (k:Int) (a:Int) (l:Int->BY ρ) (m:Int->BY ρ) (n:Unit->BY ρ):BY ρ :=
  ifb (ilt a c) (ð b a fun o=>Ã (yc ((d,e),f,g,h,i,j) o k) fun p=>ifb p.2 (m (9:Int)) (ck (a+(1:Int)) fun q=>l q)) (n ())
def pF (b:b6) (f:py) (c:Int) (k:Int->BY ρ):BY ρ :=
  ð b.2.2.2.2.1 c fun a=>Ã (ğ a.1 (1:Int) (1099511627776:Int)) fun l=>ifb (!l) (k (1:Int)) (Ã (m8 a.2.1) fun m=>ifb (!m) (k (1:Int)) (Ã (ğ a.2.2.2.2.1 (-1125899906842624:Int) (1125899906842624:Int)) fun n=>ifb (!n) (k (1:Int)) (Ã (ğ a.2.2.2.2.2.1 (0:Int) (1073741824:Int)) fun o=>ifb (!o) (k (1:Int)) (Ã (Λ a.2.2.2.2.2.2 (-10000:Int) (10000:Int)) fun p=>ifb (!p) (k (1:Int)) (Ã (nY a.2.2.1) fun q=>ifb (!q) (k (1:Int)) (Ã (nY a.2.2.2.1) fun r=>ifb (!r) (k (1:Int)) (à ((ile 0 c)&&(ile c (ì b.2.2.2.2.1))) (Ê (fun(s:Int) t=>jj (List.take (Int.toNat c) b.2.2.2.2.1) (Ó (List.take (Int.toNat c) b.2.2.2.2.1)) a.1 s (fun u=>t u) (fun v=>ifb (ige v 0) (k (6:Int)) (Ã (Ī ([a.2.2.1,a.2.2.2.1])) fun d=>Ê (fun(w:Int) x=>Ŗ f d (Ó ([(5:Int),(4:Int)])) a.2.1 ([(5:Int),(4:Int)]) w (fun y=>x y) (fun z=>k z) (fun _=>Ê (fun(A:Int) B=>ŕ d (Ó d) b.1.1 b.1.2 b.2.1 b.2.2.1 b.2.2.2.1 b.2.2.2.2.1 b.2.2.2.2.2 a.2.1 A (fun C=>B C) (fun D=>k D) (fun _=>Ã (δ a.2.2.1 a.2.2.2.1) fun g=>Ã (δ a.2.2.2.1 a.2.2.1) fun h=>ifb (igt (Ó g) 1) (k (1:Int)) (ifb (igt (Ó h) 1) (k (1:Int)) (ck ((Ó g)+(Ó h)) fun E=>ifb (ieq E 0) (k (1:Int)) (k (0:Int)))))) (0:Int))) (0:Int))) (fun _=>Ã (Ī ([a.2.2.1,a.2.2.2.1])) fun e=>Ê (fun(F:Int) G=>Ŗ f e (Ó ([(5:Int),(4:Int)])) a.2.1 ([(5:Int),(4:Int)]) F (fun H=>G H) (fun I=>k I) (fun _=>Ê (fun(J:Int) K=>ŕ e (Ó e) b.1.1 b.1.2 b.2.1 b.2.2.1 b.2.2.2.1 b.2.2.2.2.1 b.2.2.2.2.2 a.2.1 J (fun L=>K L) (fun M=>k M) (fun _=>Ã (δ a.2.2.1 a.2.2.2.1) fun i=>Ã (δ a.2.2.2.1 a.2.2.1) fun j=>ifb (igt (Ó i) 1) (k (1:Int)) (ifb (igt (Ó j) 1) (k (1:Int)) (ck ((Ó i)+(Ó j)) fun N=>ifb (ieq N 0) (k (1:Int)) (k (0:Int)))))) (0:Int))) (0:Int))) (0:Int)))))))))
def ō (a:b6) (b:py) (c:Int):BY (Int):=pF a b c some
def pl (b:b6) (s:py):BY (CK Int) :=
  Ã (Nw (fun u=>ň u.1 u.2 s) (b.2.2.1:CK (Int×Int))) fun a=>Ã (Nw (fun i=>ε b s i) (yP (b.2.2.2.1:CK u6).length)) fun c =>
    Ã (Nw (fun i=>ō b s i) (yP (b.2.2.2.2.1:CK i4).length)) fun d=>Ã (Nw (fun u=>ň u.1 u.2 s) (b.2.2.2.2.2:CK (Int×Int))) fun e=>some (a++(c++(d++e)))
def Pu (a:b6) (k:Int->BY ρ):BY ρ :=
  Ã (Λ a.1 (0:Int) (1000000:Int)) fun d=>ifb (!d) (k (1:Int)) (ifb (igt (Ó a.2.1) 12) (k (2:Int)) (ifb (igt (Ó a.2.2.1) 40) (k (2:Int)) (ifb (igt (Ó a.2.2.2.1) 12) (k (2:Int)) (ifb (igt (Ó a.2.2.2.2.1) 40) (k (2:Int)) (ifb (igt (Ó a.2.2.2.2.2) 10) (k (2:Int)) (Ã (ż a) fun b=>ifb (ine b 0) (k b) (Ã (Ň a) fun e=>Xu (pl a e) (fun f=>k f) (Ã (sg a) fun c=>ifb (igt (Ó c) 59) (k (2:Int)) (ck ((2:Int)*(Ó a.2.1)) fun g=>ck ((Ó c)-(Ó a.2.1)) fun h=>ck ((2:Int)*h) fun i=>ck (g+i) fun j=>ck ((2:Int)*(Ó a.2.2.2.2.1)) fun l=>ck (j+l) fun m=>ifb (igt m 300) (k (2:Int)) (k (0:Int)))))))))))
def ζ (a:b6):BY (Int):=Pu a some
def Ia (a:CK Int):BY (Int×Int×Int×Int×Int):=some (a.getD 0 0,a.getD 1 0,a.getD 2 0,a.getD 3 0,a.getD 4 0)
def pR (b:c7) (a:Int) (e:Int->BY ρ) (c:Bool->BY ρ) (d:Unit->BY ρ):BY ρ :=
  ifb (ilt a (Ó b)) (ifb (ilt a 60) (ð b a fun f=>ifb (igt (Ó f.2.2.1) 9) (c false) (ð b a fun g=>ifb (igt (Ó g.2.2.2.1) 9) (c false) (ck (a+(1:Int)) fun h=>e h))) (d ())) (d ())
def mF (b:c9) (a:Int) (d:Int->BY ρ) (e:Bool->BY ρ) (c:Unit->BY ρ):BY ρ :=
  ifb (ilt a (Ó b)) (ifb (ilt a 8) (ð b a fun f=>ifb (igt (Ó f.2) 9) (e false) (ck (a+(1:Int)) fun g=>d g)) (c ())) (c ())
def Tf (a:a8) (k:Bool->BY ρ):BY ρ :=
  Ê (fun(b:Int) c=>pR a.1.2.2.2.2.1 b (fun d=>c d) (fun e=>k e) (fun _=>Ê (fun(f:Int) g=>mF a.2 f (fun h=>g h) (fun i=>k i) (fun _=>ifb (ile (Ó a.1.2.1) 6) (ifb (ile (Ó a.1.2.2.1) 20) (ifb (ile (Ó a.1.2.2.2.1) 6) (ifb (ile (Ó a.1.2.2.2.2.1) 8) (ifb (ile (Ó a.1.2.2.2.2.2) 6) (k (ile (Ó a.2) 6)) (k false)) (k false)) (k false)) (k false)) (k false))) (0:Int))) (0:Int)
def BB (a:a8):BY (Bool):=Tf a some
def un (b:an) (c:Int) (a:Int) (d:Int->BY ρ) (e:Int->BY ρ) (f:Unit->BY ρ):BY ρ :=
  ifb (ilt a c) (ð b a fun g=>Ã (m8 g) fun h=>ifb (!h) (e a) (ck (a+(1:Int)) fun i=>d i)) (f ())
def Zl (a:b6) (b:Int) (c:an) (k:Int->BY ρ):BY ρ :=
  Ã (ζ a) fun d=>ifb (ine d 0) (k d) (Ê (fun(e:Int) f=>un c (Ó c) e (fun g=>f g) (fun h=>ifb (ige h 0) (k (1:Int)) (Ã (Ň a) fun i=>QH (k:=tI) (v:=Ú) b i (fun l=>k (0:Int)) (k (5:Int)))) (fun _=>Ã (Ň a) fun j=>QH (k:=tI) (v:=Ú) b j (fun m=>k (0:Int)) (k (5:Int)))) (0:Int))
def Iy (a:b6) (b:Int) (c:an):BY (Int):=Zl a b c some
def adb (a:b6) (b:Int) (c:Int) (k:Val bg->BY ρ):BY ρ :=
  Ã (Iy a b ([c])) fun d=>ifb (ine d 0) (k (false,d)) (Ã (yc a b c) fun e=>k (e.2,(0:Int)))
def BU (a:b6) (b:Int) (c:Int):BY ((Val bg)):=adb a b c some
def oF (b:an) (a:Int) (c:Int->BY ρ) (d:Int->BY ρ) (e:Unit->BY ρ):BY ρ :=
  ifb (ilt a (Ó b)) (ð b a fun f=>ck (a-(1:Int)) fun g=>ð b g fun h=>ifb (ile f h) (d (1:Int)) (ck (a+(1:Int)) fun i=>c i)) (e ())
def oE (d:fy) (e:Int) (a:Int) (b:Val bi) (f:Int->Val bi->BY ρ) (g:Val bi->BY ρ):BY ρ :=
  ifb (ilt a e) (ð d a fun c=>ck (a+(1:Int)) fun h=>f h (Tb (k:=tI) (v:=tI) c.1 c.2.1 b)) (g b)
def oD (b:an) (c:Int) (d:Val bi) (a:Int) (e:Int->BY ρ) (f:Int->BY ρ) (g:Unit->BY ρ):BY ρ :=
  ifb (ilt a c) (ð b a fun h=>QH (k:=tI) (v:=tI) h d (fun j=>ck (a+(1:Int)) fun i=>e i) (f a)) (g ())
def md (e:an) (f:Int) (b:Int) (g:Val bi) (a:Int) (c:Int->BY ρ) (d:Int->BY ρ) (h:Unit->BY ρ):BY ρ :=
  ifb (ilt a f) (ð e a fun i=>QH (k:=tI) (v:=tI) i g (fun j=>ifb (ilt b j) (d a) (ck (a+(1:Int)) fun l=>c l)) (ifb (ilt b 0) (d a) (ck (a+(1:Int)) fun m=>c m))) (h ())
def ŋ (l:an) (m:Int) (b:Int) (c:Int) (d:fy) (e:bx) (f:fx) (g:c7) (h:bx) (i:Int) (a:Int) (n:Int->BY ρ) (j:Int->BY ρ) (o:Unit->BY ρ):BY ρ :=
  ifb (ilt a m) (ð l a fun k=>Ã (BU ((b,c),d,e,f,g,h) k i) fun p=>ck (i+(1:Int)) fun q=>Ã (BU ((b,c),d,e,f,g,h) k q) fun r=>ifb p.1 (j a) (ifb r.1 (j a) (ck (a+(1:Int)) fun s=>n s))) (o ())
def NR (a:b6) (d:c9) (c:Int) (k:Int->BY ρ):BY ρ :=
  ð d c fun b=>ifb (ilt b.1 0) (k (1:Int)) (ifb (ige b.1 20000) (k (1:Int)) (ifb (ilt (Ó b.2) 2) (k (1:Int)) (ifb (igt (Ó b.2) 5) (k (1:Int)) (Ê (fun(g:Int) h=>oF b.2 g (fun i=>h i) (fun j=>k j) (fun _=>Ê (fun(f:(Val (.pair tI bi))) l=>oE a.2.1 (Ó a.2.1) f.1 f.2 (fun m n=>l (m,n)) (fun e=>Ê (fun(o:Int) p=>oD b.2 (Ó b.2) e o (fun q=>p q) (fun r=>ifb (ige r 0) (k (5:Int)) (Ê (fun(s:Int) t=>md b.2 (Ó b.2) b.1 e s (fun u=>t u) (fun v=>ifb (ige v 0) (k (4:Int)) (ifb (igt c 0) (ck (c-(1:Int)) fun w=>ð d w fun x=>ifb (ile b.1 x.1) (k (6:Int)) (Ê (fun(y:Int) z=>ŋ b.2 (Ó b.2) a.1.1 a.1.2 a.2.1 a.2.2.1 a.2.2.2.1 a.2.2.2.2.1 a.2.2.2.2.2 b.1 y (fun A=>z A) (fun B=>ifb (ige B 0) (k (9:Int)) (k (0:Int))) (fun _=>k (0:Int))) (0:Int))) (Ê (fun(C:Int) D=>ŋ b.2 (Ó b.2) a.1.1 a.1.2 a.2.1 a.2.2.1 a.2.2.2.1 a.2.2.2.2.1 a.2.2.2.2.2 b.1 C (fun E=>D E) (fun F=>ifb (ige F 0) (k (9:Int)) (k (0:Int))) (fun _=>k (0:Int))) (0:Int)))) (fun _=>ifb (igt c 0) (ck (c-(1:Int)) fun G=>ð d G fun H=>ifb (ile b.1 H.1) (k (6:Int)) (Ê (fun(I:Int) J=>ŋ b.2 (Ó b.2) a.1.1 a.1.2 a.2.1 a.2.2.1 a.2.2.2.1 a.2.2.2.2.1 a.2.2.2.2.2 b.1 I (fun K=>J K) (fun L=>ifb (ige L 0) (k (9:Int)) (k (0:Int))) (fun _=>k (0:Int))) (0:Int))) (Ê (fun(M:Int) N=>ŋ b.2 (Ó b.2) a.1.1 a.1.2 a.2.1 a.2.2.1 a.2.2.2.1 a.2.2.2.2.1 a.2.2.2.2.2 b.1 M (fun O=>N O) (fun P=>ifb (ige P 0) (k (9:Int)) (k (0:Int))) (fun _=>k (0:Int))) (0:Int)))) (0:Int))) (fun _=>Ê (fun(Q:Int) R=>md b.2 (Ó b.2) b.1 e Q (fun S=>R S) (fun T=>ifb (ige T 0) (k (4:Int)) (ifb (igt c 0) (ck (c-(1:Int)) fun U=>ð d U fun V=>ifb (ile b.1 V.1) (k (6:Int)) (Ê (fun(W:Int) X=>ŋ b.2 (Ó b.2) a.1.1 a.1.2 a.2.1 a.2.2.1 a.2.2.2.1 a.2.2.2.2.1 a.2.2.2.2.2 b.1 W (fun Y=>X Y) (fun Z=>ifb (ige Z 0) (k (9:Int)) (k (0:Int))) (fun _=>k (0:Int))) (0:Int))) (Ê (fun(dc:Int) de=>ŋ b.2 (Ó b.2) a.1.1 a.1.2 a.2.1 a.2.2.1 a.2.2.2.1 a.2.2.2.2.1 a.2.2.2.2.2 b.1 dc (fun df=>de df) (fun dg=>ifb (ige dg 0) (k (9:Int)) (k (0:Int))) (fun _=>k (0:Int))) (0:Int)))) (fun _=>ifb (igt c 0) (ck (c-(1:Int)) fun dh=>ð d dh fun di=>ifb (ile b.1 di.1) (k (6:Int)) (Ê (fun(dj:Int) dk=>ŋ b.2 (Ó b.2) a.1.1 a.1.2 a.2.1 a.2.2.1 a.2.2.2.1 a.2.2.2.2.1 a.2.2.2.2.2 b.1 dj (fun dl=>dk dl) (fun dm=>ifb (ige dm 0) (k (9:Int)) (k (0:Int))) (fun _=>k (0:Int))) (0:Int))) (Ê (fun(dp:Int) dq=>ŋ b.2 (Ó b.2) a.1.1 a.1.2 a.2.1 a.2.2.1 a.2.2.2.1 a.2.2.2.2.1 a.2.2.2.2.2 b.1 dp (fun dr=>dq dr) (fun dt=>ifb (ige dt 0) (k (9:Int)) (k (0:Int))) (fun _=>k (0:Int))) (0:Int)))) (0:Int))) (0:Int))) ((0:Int),[]))) (1:Int)))))
def Ic (a:b6) (b:c9) (c:Int):BY (Int):=NR a b c some
def oG (c:Int) (b:Int) (a:Int) (d:Int->Int->BY ρ) (e:Int->BY ρ):BY ρ :=
  ifb (ilt a c) (ck (a+(1:Int)) fun f=>ck (b*f) fun g=>ck (a+(1:Int)) fun h=>d g h) (e b)
def tv (e:c9) (f:Int) (g:Int) (h:Int) (i:fy) (j:bx) (k:fx) (l:c7) (m:bx) (n:c9) (b:Int) (a:Int) (o:Int->Int->BY ρ) (p:Int->BY ρ) (q:Int->BY ρ):BY ρ :=
  ifb (ilt a f) (ð e a fun r=>Ã (Ic ((g,h),i,j,k,l,m) n a) fun c=>ifb (ine c 0) (p c) (Ê (fun(d:bl) s=>oG (Ó r.2) d.1 d.2 (fun t u=>s (t,u)) (fun v=>ck (a+(1:Int)) fun w=>o v w)) (b,(0:Int)))) (q b)
def Yy (a:a8) (k:Int->BY ρ):BY ρ :=
  Ã (ζ a.1) fun b=>ifb (ine b 0) (k b) (ifb (igt (Ó a.2) 4) (k (2:Int)) (Ê (fun(c:bl) d=>tv a.2 (Ó a.2) a.1.1.1 a.1.1.2 a.1.2.1 a.1.2.2.1 a.1.2.2.2.1 a.1.2.2.2.2.1 a.1.2.2.2.2.2 a.2 c.1 c.2 (fun e f=>d (e,f)) (fun g=>k g) (fun h=>ifb (igt h 150) (k (2:Int)) (k (0:Int)))) ((1:Int),(0:Int))))
def Ω (a:a8):BY (Int):=Yy a some
def AD (a:Int) (k:Bool->BY ρ):BY ρ :=
  k (ine a a)
def mZ (a:Int):BY (Bool):=AD a some
def vX (a:Int) (b:Int) (k:Int->BY ρ):BY ρ :=
  Ã (mZ a) fun d=>Ã (mZ b) fun c=>ifb d (ifb c (k (0:Int)) (k (-1:Int))) (ifb c (k (1:Int)) (ifb (ilt a b) (k (-1:Int)) (ifb (igt a b) (k (1:Int)) (k (0:Int)))))
def iQ (a:Int) (b:Int):BY (Int):=vX a b some
def pS (d:Int) (e:an) (f:Int) (g:c9) (b:Int) (a:Int) (c:Int->Int->BY ρ) (h:Int->BY ρ):BY ρ :=
  ifb (ilt a f) (ð e a fun i=>ð g d fun j=>ð j.2 a fun k=>ifb (ine k i) (ck (b+(1:Int)) fun l=>ck (a+(1:Int)) fun m=>c l m) (ck (a+(1:Int)) fun n=>c b n)) (h b)
def pT (e:b5) (f:Int) (g:c9) (b:Int) (a:Int) (h:Int->Int->BY ρ) (i:Int->BY ρ):BY ρ :=
  ifb (ilt a f) (ð e a fun c=>Ê (fun(d:bl) j=>pS a c (Ó c) g d.1 d.2 (fun k l=>j (k,l)) (fun m=>ck (a+(1:Int)) fun n=>h m n)) (b,(0:Int))) (i b)
def Tg (c:a8) (a:b5) (k:Int->BY ρ):BY ρ :=
  Ê (fun(b:bl) d=>pT a (Ó a) c.2 b.1 b.2 (fun e f=>d (e,f)) (fun g=>k g)) ((0:Int),(0:Int))
def Ļ (a:a8) (b:b5):BY (Int):=Tg a b some
def Th (b:b5) (c:b5) (a:Val ay) (k:Int->BY ρ):BY ρ :=
  Ã (Ļ a b) fun d=>Ã (Ļ a c) fun e=>Ã (iQ d e) fun f=>k f
def kI (a:b5) (b:b5) (c:Val ay):BY (Int):=Th a b c some
def ë (h:Int) (i:Int) (j:Int) (k:fy) (l:bx) (m:fx) (n:c7) (o:bx) (p:c9) (a:Int) (b:a7) (q:Int->a7->BY ρ) (g:a7->BY ρ):BY ρ :=
  ifb (igt a h) (à ((ile 0 a)&&(ilt a (ì b))) (Į b (Int.toNat a) fun r=>ck (a-(1:Int)) fun d=>à ((ile 0 d)&&(ilt d (ì b))) (Į b (Int.toNat d) fun s=>Ã (kI r s (((i,j),k,l,m,n,o),p)) fun t=>ifb (ilt t 0) (ck (a-(1:Int)) fun c=>ck (a-(1:Int)) fun e=>à ((ile 0 e)&&(ilt e (ì b))) (Į b (Int.toNat e) fun f=>à ((ile 0 a)&&(ilt a (ì b))) (Į b (Int.toNat a) fun u=>à ((ile 0 a)&&(ilt a (ì b))) (Į b (Int.toNat a) fun w=>à ((ile 0 c)&&(ilt c (ì (List.set b (Int.toNat a) f)))) (Į (List.set b (Int.toNat a) f) (Int.toNat c) fun x=>ck (a-(1:Int)) fun v=>q v (List.set (List.set b (Int.toNat a) f) (Int.toNat c) u)))))) (g b)))) (g b)
def Đ (d:Int) (e:Int) (f:Int) (g:Int) (h:fy) (i:bx) (j:fx) (k:c7) (l:bx) (m:c9) (a:Int) (b:a7) (n:Int->a7->BY ρ) (o:a7->BY ρ):BY ρ :=
  ifb (ilt a e) (Ê (fun(c:io) p=>ë d f g h i j k l m c.1 c.2 (fun q r=>p (q,r)) (fun s=>ck (a+(1:Int)) fun t=>n t s)) (a,b)) (o b)
def ŭ (c:a7) (a:Int) (d:Int) (mm:a8) (k:(a7)×a8->BY ρ):BY ρ :=
  ck (a+(1:Int)) fun e=>Ê (fun(b:io) f=>Đ a d mm.1.1.1 mm.1.1.2 mm.1.2.1 mm.1.2.2.1 mm.1.2.2.2.1 mm.1.2.2.2.2.1 mm.1.2.2.2.2.2 mm.2 b.1 b.2 (fun g h=>f (g,h)) (fun i=>k (i,mm))) (e,c)
def ê (a:a7) (b:Int) (c:Int) (mm:a8):BY ((a7)×a8):=ŭ a b c mm some
def ď (h:Int) (i:Int) (j:Int) (b:Int) (a:a7) (k:Int->a7->BY ρ) (l:a7->BY ρ):BY ρ :=
  ifb (ilt b j) (ck (h+b) fun c=>ck (i+b) fun d=>ck (i+b) fun e=>à ((ile 0 e)&&(ilt e (ì a))) (Į a (Int.toNat e) fun f=>ck (h+b) fun g=>à ((ile 0 g)&&(ilt g (ì a))) (Į a (Int.toNat g) fun m=>à ((ile 0 c)&&(ilt c (ì a))) (Į a (Int.toNat c) fun o=>à ((ile 0 d)&&(ilt d (ì (List.set a (Int.toNat c) f)))) (Į (List.set a (Int.toNat c) f) (Int.toNat d) fun p=>ck (b+(1:Int)) fun n=>k n (List.set (List.set a (Int.toNat c) f) (Int.toNat d) m)))))) (l a)
def iN (h:Int) (i:Int) (j:Int) (b:Int) (a:a7) (k:Int->a7->BY ρ) (l:a7->BY ρ):BY ρ :=
  ifb (ilt b j) (ck (h+b) fun c=>ck (i+b) fun d=>ck (i+b) fun e=>à ((ile 0 e)&&(ilt e (ì a))) (Į a (Int.toNat e) fun f=>ck (h+b) fun g=>à ((ile 0 g)&&(ilt g (ì a))) (Į a (Int.toNat g) fun m=>à ((ile 0 c)&&(ilt c (ì a))) (Į a (Int.toNat c) fun o=>à ((ile 0 d)&&(ilt d (ì (List.set a (Int.toNat c) f)))) (Į (List.set a (Int.toNat c) f) (Int.toNat d) fun p=>ck (b+(1:Int)) fun n=>k n (List.set (List.set a (Int.toNat c) f) (Int.toNat d) m)))))) (l a)
def Ĺ (c:Int) (a:Int) (b:Int) (d:a7) (e:Int->Int->a7->BY ρ) (h:io->BY ρ):BY ρ :=
  ifb (ine a b) (ifb (igt a b) (ck (c-a) fun i=>Ê (fun(f:io) j=>ď i c b f.1 f.2 (fun k l=>j (k,l)) (fun m=>ck (a-b) fun n=>e n b m)) ((0:Int),d)) (ck (c-a) fun o=>ck (c+b) fun p=>ck (p-a) fun q=>Ê (fun(g:io) r=>iN o q a g.1 g.2 (fun s t=>r (s,t)) (fun u=>ck (b-a) fun v=>e a v u)) ((0:Int),d))) (h (a,d))
def iM (h:Int) (i:Int) (j:Int) (b:Int) (a:a7) (k:Int->a7->BY ρ) (l:a7->BY ρ):BY ρ :=
  ifb (ilt b j) (ck (h+b) fun c=>ck (i+b) fun d=>ck (i+b) fun e=>à ((ile 0 e)&&(ilt e (ì a))) (Į a (Int.toNat e) fun f=>ck (h+b) fun g=>à ((ile 0 g)&&(ilt g (ì a))) (Į a (Int.toNat g) fun m=>à ((ile 0 c)&&(ilt c (ì a))) (Į a (Int.toNat c) fun o=>à ((ile 0 d)&&(ilt d (ì (List.set a (Int.toNat c) f)))) (Į (List.set a (Int.toNat c) f) (Int.toNat d) fun p=>ck (b+(1:Int)) fun n=>k n (List.set (List.set a (Int.toNat c) f) (Int.toNat d) m)))))) (l a)
def jS (e:a7) (f:Int) (a:Int) (g:Int) (mm:a8) (k:(a7)×a8->BY ρ):BY ρ :=
  ck (a-f) fun h=>ck (g-a) fun i=>Ê (fun(b:xl) j=>Ĺ a b.1 b.2.1 b.2.2 (fun l m n=>j (l,m,n)) (fun c=>ck (a-c.1) fun o=>Ê (fun(d:io) p=>iM o a c.1 d.1 d.2 (fun q r=>p (q,r)) (fun s=>k (s,mm))) ((0:Int),c.2))) (h,i,e)
def Ľ (a:a7) (b:Int) (c:Int) (d:Int) (mm:a8):BY ((a7)×a8):=jS a b c d mm some
def Ā (rec:a7->Int->Int->Int->a8->BY (a7×a8)) (d:Int) (b:a7) (g:Int) (h:Int) (i:fy) (j:bx) (k:fx) (l:c7) (m:bx) (n:c9) (c:Int) (e:Int) (f:Int->Int->BY ρ) (o:Int->BY ρ):BY ρ :=
  ifb (ilt c e) (ck (c+e) fun a=>à ((ile 0 (IntKind.wrap .i64 (iX .u64 (IntKind.wrap .u64 a) (1:Int))))&&(ilt (IntKind.wrap .i64 (iX .u64 (IntKind.wrap .u64 a) (1:Int))) (ì b))) (Į b (Int.toNat (IntKind.wrap .i64 (iX .u64 (IntKind.wrap .u64 a) (1:Int)))) fun p=>à ((ile 0 d)&&(ilt d (ì b))) (Į b (Int.toNat d) fun q=>Ã (kI p q (((g,h),i,j,k,l,m),n)) fun r=>ifb (ilt r 0) (ck ((IntKind.wrap .i64 (iX .u64 (IntKind.wrap .u64 a) (1:Int)))+(1:Int)) fun s=>f s e) (f c (IntKind.wrap .i64 (iX .u64 (IntKind.wrap .u64 a) (1:Int))))))) (o c)
def ó (rec:a7->Int->Int->Int->a8->BY (a7×a8)) (f:Int) (a:Int) (b:a7) (g:Int->a7->BY ρ) (h:a7->BY ρ):BY ρ :=
  ck (f-(1:Int)) fun i=>ifb (ilt a i) (ck (a+(1:Int)) fun c=>ck (a+(1:Int)) fun d=>à ((ile 0 d)&&(ilt d (ì b))) (Į b (Int.toNat d) fun e=>à ((ile 0 a)&&(ilt a (ì b))) (Į b (Int.toNat a) fun j=>à ((ile 0 a)&&(ilt a (ì b))) (Į b (Int.toNat a) fun l=>à ((ile 0 c)&&(ilt c (ì (List.set b (Int.toNat a) e)))) (Į (List.set b (Int.toNat a) e) (Int.toNat c) fun m=>ck (a+(1:Int)) fun k=>g k (List.set (List.set b (Int.toNat a) e) (Int.toNat c) j)))))) (h b)
def ÿ (rec:a7->Int->Int->Int->a8->BY (a7×a8)) (d:Int) (b:a7) (g:Int) (h:Int) (i:fy) (j:bx) (k:fx) (l:c7) (m:bx) (n:c9) (c:Int) (e:Int) (f:Int->Int->BY ρ) (o:Int->BY ρ):BY ρ :=
  ifb (ilt c e) (ck (c+e) fun a=>à ((ile 0 d)&&(ilt d (ì b))) (Į b (Int.toNat d) fun p=>à ((ile 0 (IntKind.wrap .i64 (iX .u64 (IntKind.wrap .u64 a) (1:Int))))&&(ilt (IntKind.wrap .i64 (iX .u64 (IntKind.wrap .u64 a) (1:Int))) (ì b))) (Į b (Int.toNat (IntKind.wrap .i64 (iX .u64 (IntKind.wrap .u64 a) (1:Int)))) fun q=>Ã (kI p q (((g,h),i,j,k,l,m),n)) fun r=>ifb (!(ilt r 0)) (ck ((IntKind.wrap .i64 (iX .u64 (IntKind.wrap .u64 a) (1:Int)))+(1:Int)) fun s=>f s e) (f c (IntKind.wrap .i64 (iX .u64 (IntKind.wrap .u64 a) (1:Int))))))) (o c)
def ò (rec:a7->Int->Int->Int->a8->BY (a7×a8)) (f:Int) (a:Int) (b:a7) (g:Int->a7->BY ρ) (h:a7->BY ρ):BY ρ :=
  ifb (igt a f) (ck (a-(1:Int)) fun c=>ck (a-(1:Int)) fun d=>à ((ile 0 d)&&(ilt d (ì b))) (Į b (Int.toNat d) fun e=>à ((ile 0 a)&&(ilt a (ì b))) (Į b (Int.toNat a) fun i=>à ((ile 0 a)&&(ilt a (ì b))) (Į b (Int.toNat a) fun k=>à ((ile 0 c)&&(ilt c (ì (List.set b (Int.toNat a) e)))) (Į (List.set b (Int.toNat a) e) (Int.toNat c) fun l=>ck (a-(1:Int)) fun j=>g j (List.set (List.set b (Int.toNat a) e) (Int.toNat c) i)))))) (h b)
def å (rec:a7->Int->Int->Int->a8->BY (a7×a8)) (g:Int) (b:a7) (h:Int) (i:Int) (j:fy) (k:bx) (l:fx) (m:c7) (n:bx) (o:c9) (c:Int) (d:Int) (f:Int->Int->BY ρ) (p:Int->BY ρ):BY ρ :=
  ifb (ilt c d) (ck (c+d) fun a=>ck (g-(IntKind.wrap .i64 (iX .u64 (IntKind.wrap .u64 a) (1:Int)))) fun e=>à ((ile 0 e)&&(ilt e (ì b))) (Į b (Int.toNat e) fun q=>à ((ile 0 (IntKind.wrap .i64 (iX .u64 (IntKind.wrap .u64 a) (1:Int))))&&(ilt (IntKind.wrap .i64 (iX .u64 (IntKind.wrap .u64 a) (1:Int))) (ì b))) (Į b (Int.toNat (IntKind.wrap .i64 (iX .u64 (IntKind.wrap .u64 a) (1:Int)))) fun r=>Ã (kI q r (((h,i),j,k,l,m,n),o)) fun s=>ifb (!(ilt s 0)) (ck ((IntKind.wrap .i64 (iX .u64 (IntKind.wrap .u64 a) (1:Int)))+(1:Int)) fun t=>f t d) (f c (IntKind.wrap .i64 (iX .u64 (IntKind.wrap .u64 a) (1:Int))))))) (p c)
def ħ (rec:a7->Int->Int->Int->a8->BY (a7×a8)) (c:a7) (f:Int) (g:Int) (b:Int) (mm:a8) (k:(a7)×a8->BY ρ):BY ρ :=
  ck (g-f) fun R=>ifb (ieq R 1) (Ê (fun(t:bl) S=>Ā rec f c mm.1.1.1 mm.1.1.2 mm.1.2.1 mm.1.2.2.1 mm.1.2.2.2.1 mm.1.2.2.2.2.1 mm.1.2.2.2.2.2 mm.2 t.1 t.2 (fun T U=>S (T,U)) (fun V=>Ê (fun(u:io) W=>ó rec V u.1 u.2 (fun X Y=>W (X,Y)) (fun Z=>k (Z,mm))) (f,c))) (g,b)) (ck (b-g) fun dc=>ifb (ieq dc 1) (Ê (fun(v:bl) de=>ÿ rec g c mm.1.1.1 mm.1.1.2 mm.1.2.1 mm.1.2.2.1 mm.1.2.2.2.1 mm.1.2.2.2.2.1 mm.1.2.2.2.2.2 mm.2 v.1 v.2 (fun df dg=>de (df,dg)) (fun dh=>Ê (fun(w:io) di=>ò rec dh w.1 w.2 (fun dj dk=>di (dj,dk)) (fun dl=>k (dl,mm))) (g,c))) (f,g)) (ck (f+b) fun a=>ck ((IntKind.wrap .i64 (iX .u64 (IntKind.wrap .u64 a) (1:Int)))+g) fun s=>ifb (igt g (IntKind.wrap .i64 (iX .u64 (IntKind.wrap .u64 a) (1:Int)))) (ck (s-b) fun dm=>ck (s-1) fun dp=>Ê (fun(x:bl) dq=>å rec dp c mm.1.1.1 mm.1.1.2 mm.1.2.1 mm.1.2.2.1 mm.1.2.2.2.1 mm.1.2.2.2.2.1 mm.1.2.2.2.2.2 mm.2 x.1 x.2 (fun dr dt=>dq (dr,dt)) (fun j=>ck (s-j) fun d=>ifb (ilt j g) (ifb (ilt g d) (Ã (Ľ c j g d mm) fun h=>ifb (ilt f j) (ifb (ilt j (IntKind.wrap .i64 (iX .u64 (IntKind.wrap .u64 a) (1:Int)))) (Ã (rec h.1 f j (IntKind.wrap .i64 (iX .u64 (IntKind.wrap .u64 a) (1:Int))) h.2) fun m=>ifb (ilt (IntKind.wrap .i64 (iX .u64 (IntKind.wrap .u64 a) (1:Int))) d) (ifb (ilt d b) (Ã (rec m.1 (IntKind.wrap .i64 (iX .u64 (IntKind.wrap .u64 a) (1:Int))) d b m.2) fun y=>k (y.1,y.2)) (k (m.1,m.2))) (k (m.1,m.2))) (ifb (ilt (IntKind.wrap .i64 (iX .u64 (IntKind.wrap .u64 a) (1:Int))) d) (ifb (ilt d b) (Ã (rec h.1 (IntKind.wrap .i64 (iX .u64 (IntKind.wrap .u64 a) (1:Int))) d b h.2) fun z=>k (z.1,z.2)) (k (h.1,h.2))) (k (h.1,h.2)))) (ifb (ilt (IntKind.wrap .i64 (iX .u64 (IntKind.wrap .u64 a) (1:Int))) d) (ifb (ilt d b) (Ã (rec h.1 (IntKind.wrap .i64 (iX .u64 (IntKind.wrap .u64 a) (1:Int))) d b h.2) fun A=>k (A.1,A.2)) (k (h.1,h.2))) (k (h.1,h.2)))) (ifb (ilt f j) (ifb (ilt j (IntKind.wrap .i64 (iX .u64 (IntKind.wrap .u64 a) (1:Int)))) (Ã (rec c f j (IntKind.wrap .i64 (iX .u64 (IntKind.wrap .u64 a) (1:Int))) mm) fun n=>ifb (ilt (IntKind.wrap .i64 (iX .u64 (IntKind.wrap .u64 a) (1:Int))) d) (ifb (ilt d b) (Ã (rec n.1 (IntKind.wrap .i64 (iX .u64 (IntKind.wrap .u64 a) (1:Int))) d b n.2) fun B=>k (B.1,B.2)) (k (n.1,n.2))) (k (n.1,n.2))) (ifb (ilt (IntKind.wrap .i64 (iX .u64 (IntKind.wrap .u64 a) (1:Int))) d) (ifb (ilt d b) (Ã (rec c (IntKind.wrap .i64 (iX .u64 (IntKind.wrap .u64 a) (1:Int))) d b mm) fun C=>k (C.1,C.2)) (k (c,mm))) (k (c,mm)))) (ifb (ilt (IntKind.wrap .i64 (iX .u64 (IntKind.wrap .u64 a) (1:Int))) d) (ifb (ilt d b) (Ã (rec c (IntKind.wrap .i64 (iX .u64 (IntKind.wrap .u64 a) (1:Int))) d b mm) fun D=>k (D.1,D.2)) (k (c,mm))) (k (c,mm))))) (ifb (ilt f j) (ifb (ilt j (IntKind.wrap .i64 (iX .u64 (IntKind.wrap .u64 a) (1:Int)))) (Ã (rec c f j (IntKind.wrap .i64 (iX .u64 (IntKind.wrap .u64 a) (1:Int))) mm) fun o=>ifb (ilt (IntKind.wrap .i64 (iX .u64 (IntKind.wrap .u64 a) (1:Int))) d) (ifb (ilt d b) (Ã (rec o.1 (IntKind.wrap .i64 (iX .u64 (IntKind.wrap .u64 a) (1:Int))) d b o.2) fun E=>k (E.1,E.2)) (k (o.1,o.2))) (k (o.1,o.2))) (ifb (ilt (IntKind.wrap .i64 (iX .u64 (IntKind.wrap .u64 a) (1:Int))) d) (ifb (ilt d b) (Ã (rec c (IntKind.wrap .i64 (iX .u64 (IntKind.wrap .u64 a) (1:Int))) d b mm) fun F=>k (F.1,F.2)) (k (c,mm))) (k (c,mm)))) (ifb (ilt (IntKind.wrap .i64 (iX .u64 (IntKind.wrap .u64 a) (1:Int))) d) (ifb (ilt d b) (Ã (rec c (IntKind.wrap .i64 (iX .u64 (IntKind.wrap .u64 a) (1:Int))) d b mm) fun G=>k (G.1,G.2)) (k (c,mm))) (k (c,mm)))))) (dm,(IntKind.wrap .i64 (iX .u64 (IntKind.wrap .u64 a) (1:Int))))) (ck (s-1) fun du=>Ê (fun(H:bl) dv=>å rec du c mm.1.1.1 mm.1.1.2 mm.1.2.1 mm.1.2.2.1 mm.1.2.2.2.1 mm.1.2.2.2.2.1 mm.1.2.2.2.2.2 mm.2 H.1 H.2 (fun dw dz=>dv (dw,dz)) (fun l=>ck (s-l) fun e=>ifb (ilt l g) (ifb (ilt g e) (Ã (Ľ c l g e mm) fun i=>ifb (ilt f l) (ifb (ilt l (IntKind.wrap .i64 (iX .u64 (IntKind.wrap .u64 a) (1:Int)))) (Ã (rec i.1 f l (IntKind.wrap .i64 (iX .u64 (IntKind.wrap .u64 a) (1:Int))) i.2) fun p=>ifb (ilt (IntKind.wrap .i64 (iX .u64 (IntKind.wrap .u64 a) (1:Int))) e) (ifb (ilt e b) (Ã (rec p.1 (IntKind.wrap .i64 (iX .u64 (IntKind.wrap .u64 a) (1:Int))) e b p.2) fun I=>k (I.1,I.2)) (k (p.1,p.2))) (k (p.1,p.2))) (ifb (ilt (IntKind.wrap .i64 (iX .u64 (IntKind.wrap .u64 a) (1:Int))) e) (ifb (ilt e b) (Ã (rec i.1 (IntKind.wrap .i64 (iX .u64 (IntKind.wrap .u64 a) (1:Int))) e b i.2) fun J=>k (J.1,J.2)) (k (i.1,i.2))) (k (i.1,i.2)))) (ifb (ilt (IntKind.wrap .i64 (iX .u64 (IntKind.wrap .u64 a) (1:Int))) e) (ifb (ilt e b) (Ã (rec i.1 (IntKind.wrap .i64 (iX .u64 (IntKind.wrap .u64 a) (1:Int))) e b i.2) fun K=>k (K.1,K.2)) (k (i.1,i.2))) (k (i.1,i.2)))) (ifb (ilt f l) (ifb (ilt l (IntKind.wrap .i64 (iX .u64 (IntKind.wrap .u64 a) (1:Int)))) (Ã (rec c f l (IntKind.wrap .i64 (iX .u64 (IntKind.wrap .u64 a) (1:Int))) mm) fun q=>ifb (ilt (IntKind.wrap .i64 (iX .u64 (IntKind.wrap .u64 a) (1:Int))) e) (ifb (ilt e b) (Ã (rec q.1 (IntKind.wrap .i64 (iX .u64 (IntKind.wrap .u64 a) (1:Int))) e b q.2) fun L=>k (L.1,L.2)) (k (q.1,q.2))) (k (q.1,q.2))) (ifb (ilt (IntKind.wrap .i64 (iX .u64 (IntKind.wrap .u64 a) (1:Int))) e) (ifb (ilt e b) (Ã (rec c (IntKind.wrap .i64 (iX .u64 (IntKind.wrap .u64 a) (1:Int))) e b mm) fun M=>k (M.1,M.2)) (k (c,mm))) (k (c,mm)))) (ifb (ilt (IntKind.wrap .i64 (iX .u64 (IntKind.wrap .u64 a) (1:Int))) e) (ifb (ilt e b) (Ã (rec c (IntKind.wrap .i64 (iX .u64 (IntKind.wrap .u64 a) (1:Int))) e b mm) fun N=>k (N.1,N.2)) (k (c,mm))) (k (c,mm))))) (ifb (ilt f l) (ifb (ilt l (IntKind.wrap .i64 (iX .u64 (IntKind.wrap .u64 a) (1:Int)))) (Ã (rec c f l (IntKind.wrap .i64 (iX .u64 (IntKind.wrap .u64 a) (1:Int))) mm) fun r=>ifb (ilt (IntKind.wrap .i64 (iX .u64 (IntKind.wrap .u64 a) (1:Int))) e) (ifb (ilt e b) (Ã (rec r.1 (IntKind.wrap .i64 (iX .u64 (IntKind.wrap .u64 a) (1:Int))) e b r.2) fun O=>k (O.1,O.2)) (k (r.1,r.2))) (k (r.1,r.2))) (ifb (ilt (IntKind.wrap .i64 (iX .u64 (IntKind.wrap .u64 a) (1:Int))) e) (ifb (ilt e b) (Ã (rec c (IntKind.wrap .i64 (iX .u64 (IntKind.wrap .u64 a) (1:Int))) e b mm) fun P=>k (P.1,P.2)) (k (c,mm))) (k (c,mm)))) (ifb (ilt (IntKind.wrap .i64 (iX .u64 (IntKind.wrap .u64 a) (1:Int))) e) (ifb (ilt e b) (Ã (rec c (IntKind.wrap .i64 (iX .u64 (IntKind.wrap .u64 a) (1:Int))) e b mm) fun Q=>k (Q.1,Q.2)) (k (c,mm))) (k (c,mm)))))) (f,g))))
def ĥ:Nat->a7->Int->Int->Int->a8->BY (a7×a8)
  |0=>fun _ _ _ _ _=>none
  |n+1=>fun a b c d mm=>ħ (ĥ n) a b c d mm some
def Ė (a:a7) (b:Int) (c:Int) (d:Int) (mm:a8):BY ((a7)×a8):=ĥ 100 a b c d mm
def iL (m:Int) (n:Int) (c:Int) (b:Int) (d:a7) (e:Int) (f:Int) (g:fy) (h:bx) (i:fx) (j:c7) (k:bx) (l:c9) (o:Int->Int->a7->Int->Int->fy->bx->fx->c7->bx->c9->BY ρ) (p:v8->BY ρ):BY ρ :=
  ifb (ile b m) (Ã (ê d c b (((e,f),g,h,i,j,k),l)) fun a=>ck (b+n) fun q=>o b q a.1 a.2.1.1.1 a.2.1.1.2 a.2.1.2.1 a.2.1.2.2.1 a.2.1.2.2.2.1 a.2.1.2.2.2.2.1 a.2.1.2.2.2.2.2 a.2.2) (p (c,d,e,f,g,h,i,j,k,l))
def iJ (n:Int) (d:Int) (c:Int) (b:Int) (e:a7) (f:Int) (g:Int) (h:fy) (i:bx) (j:fx) (k:c7) (l:bx) (m:c9) (o:Int->Int->a7->Int->Int->fy->bx->fx->c7->bx->c9->BY ρ) (p:v8->BY ρ):BY ρ :=
  ifb (ile b n) (ck (c+d) fun q=>Ã (Ė e c q b (((f,g),h,i,j,k,l),m)) fun a=>ck ((2:Int)*d) fun r=>ck (b+r) fun s=>o b s a.1 a.2.1.1.1 a.2.1.1.2 a.2.1.2.1 a.2.1.2.2.1 a.2.1.2.2.2.1 a.2.1.2.2.2.2.1 a.2.1.2.2.2.2.2 a.2.2) (p (c,e,f,g,h,i,j,k,l,m))
def iK (e:Int) (d:Int) (f:a7) (g:Int) (h:Int) (i:fy) (j:bx) (k:fx) (l:c7) (m:bx) (n:c9) (o:Int->a7->Int->Int->fy->bx->fx->c7->bx->c9->BY ρ) (q:(Val (.pair ak ai))->BY ρ):BY ρ :=
  ifb (ilt d e) (ck ((2:Int)*d) fun r=>Ê (fun(b:x9) s=>iJ e d b.1 b.2.1 b.2.2.1 b.2.2.2.1 b.2.2.2.2.1 b.2.2.2.2.2.1 b.2.2.2.2.2.2.1 b.2.2.2.2.2.2.2.1 b.2.2.2.2.2.2.2.2.1 b.2.2.2.2.2.2.2.2.2.1 b.2.2.2.2.2.2.2.2.2.2 (fun t u v w x y z A B C D=>s (t,u,v,w,x,y,z,A,B,C,D)) (fun a=>ck (a.1+d) fun p=>ifb (ilt p e) (Ã (Ė a.2.1 a.1 p e (((a.2.2.1,a.2.2.2.1),a.2.2.2.2.1,a.2.2.2.2.2.1,a.2.2.2.2.2.2.1,a.2.2.2.2.2.2.2.1,a.2.2.2.2.2.2.2.2.1),a.2.2.2.2.2.2.2.2.2)) fun c=>ck (d*(2:Int)) fun E=>o E c.1 c.2.1.1.1 c.2.1.1.2 c.2.1.2.1 c.2.1.2.2.1 c.2.1.2.2.2.1 c.2.1.2.2.2.2.1 c.2.1.2.2.2.2.2 c.2.2) (ck (d*(2:Int)) fun F=>o F a.2.1 a.2.2.1 a.2.2.2.1 a.2.2.2.2.1 a.2.2.2.2.2.1 a.2.2.2.2.2.2.1 a.2.2.2.2.2.2.2.1 a.2.2.2.2.2.2.2.2.1 a.2.2.2.2.2.2.2.2.2))) ((0:Int),r,f,g,h,i,j,k,l,m,n)) (q (f,g,h,i,j,k,l,m,n))
def jR (g:a7) (f:Int) (mm:a8) (k:(a7)×a8->BY ρ):BY ρ :=
  Ê (fun(a:x9) h=>iL f (20:Int) a.1 a.2.1 a.2.2.1 a.2.2.2.1 a.2.2.2.2.1 a.2.2.2.2.2.1 a.2.2.2.2.2.2.1 a.2.2.2.2.2.2.2.1 a.2.2.2.2.2.2.2.2.1 a.2.2.2.2.2.2.2.2.2.1 a.2.2.2.2.2.2.2.2.2.2 (fun i j l m n o p q r s t=>h (i,j,l,m,n,o,p,q,r,s,t)) (fun b=>Ã (ê b.2.1 b.1 f (((b.2.2.1,b.2.2.2.1),b.2.2.2.2.1,b.2.2.2.2.2.1,b.2.2.2.2.2.2.1,b.2.2.2.2.2.2.2.1,b.2.2.2.2.2.2.2.2.1),b.2.2.2.2.2.2.2.2.2)) fun d=>Ê (fun(c:v8) u=>iK f c.1 c.2.1 c.2.2.1 c.2.2.2.1 c.2.2.2.2.1 c.2.2.2.2.2.1 c.2.2.2.2.2.2.1 c.2.2.2.2.2.2.2.1 c.2.2.2.2.2.2.2.2.1 c.2.2.2.2.2.2.2.2.2 (fun v w x y z A B C D E=>u (v,w,x,y,z,A,B,C,D,E)) (fun e=>k (e.1,(((e.2.1,e.2.2.1),e.2.2.2.1,e.2.2.2.2.1,e.2.2.2.2.2.1,e.2.2.2.2.2.2.1,e.2.2.2.2.2.2.2.1),e.2.2.2.2.2.2.2.2)))) ((20:Int),d.1,d.2.1.1.1,d.2.1.1.2,d.2.1.2.1,d.2.1.2.2.1,d.2.1.2.2.2.1,d.2.1.2.2.2.2.1,d.2.1.2.2.2.2.2,d.2.2))) ((0:Int),(20:Int),g,mm.1.1.1,mm.1.1.2,mm.1.2.1,mm.1.2.2.1,mm.1.2.2.2.1,mm.1.2.2.2.2.1,mm.1.2.2.2.2.2,mm.2)
def ļ (a:a7) (b:Int) (mm:a8):BY ((a7)×a8):=jR a b mm some
def Es (a:a7) (y:b5) (b:a7->BY ρ):BY ρ :=
  à (ã ((List.length a)+(List.length ([y])))) (b (a++([y])))
def Vg (a:a8) (k:a7->BY ρ):BY ρ :=
  Ã (nV a.2) fun c=>AO (fun(d:a7) (e:b5) f=>Es d e (fun g=>f g)) c ([]) (fun b=>Ã (ļ b (Ó b) a) fun h=>k h.1)
def uw (a:a8):BY (a7):=Vg a some
def Bl (f:b5) (g:Int) (d:c9) (b:Int) (a:Int) (c:Int->Int->BY ρ) (h:Int->BY ρ):BY ρ :=
  ifb (ige a 0) (ð f a fun i=>Ã (iP i b) fun e=>ifb (ige e 0) (ð d a fun j=>ifb (ilt j.1 g) (ð d a fun k=>ð k.2 e fun l=>ck (a-(1:Int)) fun m=>c l m) (ck (a-(1:Int)) fun n=>c b n)) (ck (a-(1:Int)) fun o=>c b o)) (h b)
def ahj (a:a8) (c:b5) (d:Int) (e:Int) (k:Int->BY ρ):BY ρ :=
  ck ((Ó a.2)-(1:Int)) fun f=>Ê (fun(b:bl) g=>Bl c e a.2 b.1 b.2 (fun h i=>g (h,i)) (fun j=>k j)) (d,f)
def uQ (a:a8) (b:b5) (c:Int) (d:Int):BY (Int):=ahj a b c d some
def jK (d:Int) (e:Val ay) (f:Val aK) (g:an) (h:Int) (a:Int) (b:an) (i:Int->an->BY ρ) (j:an->BY ρ):BY ρ :=
  ifb (ilt a h) (ð g a fun k=>Ã (uQ e f k d) fun c=>à (ã ((List.length b)+(List.length ([c])))) (ck (a+(1:Int)) fun l=>i l (b++([c])))) (j b)
def zA (a:an) (d:Int) (e:Val ay) (f:Val aK) (k:an->BY ρ):BY ρ :=
  Ê (fun(b:f4) g=>jK d e f a (Ó a) b.1 b.2 (fun h i=>g (h,i)) (fun c=>à (ã (List.length c)) (k (yT c)))) ((0:Int),[])
def j8 (a:an) (b:Int) (c:Val ay) (d:Val aK):BY (an):=zA a b c d some
def lM (e:Val ay) (f:Val aK) (g:bx) (h:Int) (b:Int) (c:bx) (i:Int->bx->BY ρ) (j:bx->BY ρ):BY ρ :=
  ifb (ilt b h) (ð g b fun a=>Ã (uQ e f a.1 a.2) fun d=>à (ã ((List.length c)+(List.length ([(d,a.2)])))) (ck (b+(1:Int)) fun k=>i k (c++([(d,a.2)])))) (j c)
def lL (e:Val ay) (f:Val aK) (g:fx) (h:Int) (b:Int) (c:fx) (i:Int->fx->BY ρ) (j:fx->BY ρ):BY ρ :=
  ifb (ilt b h) (ð g b fun a=>Ã (uQ e f a.1 a.2.1.1) fun d=>à (ã ((List.length c)+(List.length ([(d,a.2)])))) (ck (b+(1:Int)) fun k=>i k (c++([(d,a.2)])))) (j c)
def lK (d:Val ay) (e:Val aK) (h:c7) (i:Int) (b:Int) (c:c7) (j:Int->c7->BY ρ) (k:c7->BY ρ):BY ρ :=
  ifb (ilt b i) (ð h b fun a=>Ã (j8 a.2.2.1 a.2.1 d e) fun f=>Ã (j8 a.2.2.2.1 a.2.1 d e) fun g=>à (ã ((List.length c)+(List.length ([(a.1,a.2.1,f,g,a.2.2.2.2)])))) (ck (b+(1:Int)) fun l=>j l (c++([(a.1,a.2.1,f,g,a.2.2.2.2)])))) (k c)
def lJ (e:Val ay) (f:Val aK) (g:bx) (h:Int) (b:Int) (c:bx) (i:Int->bx->BY ρ) (j:bx->BY ρ):BY ρ :=
  ifb (ilt b h) (ð g b fun a=>Ã (uQ e f a.1 a.2) fun d=>à (ã ((List.length c)+(List.length ([(d,a.2)])))) (ck (b+(1:Int)) fun k=>i k (c++([(d,a.2)])))) (j c)
def wV (a:a8) (b:b5) (k:b6->BY ρ):BY ρ :=
  à (ã (List.length a.1.2.1)) (Ê (fun(c:nm) g=>lM a b a.1.2.2.1 (Ó a.1.2.2.1) c.1 c.2 (fun h i=>g (h,i)) (fun j=>Ê (fun(d:y5) l=>lL a b a.1.2.2.2.1 (Ó a.1.2.2.2.1) d.1 d.2 (fun m n=>l (m,n)) (fun o=>Ê (fun(e:BE) p=>lK a b a.1.2.2.2.2.1 (Ó a.1.2.2.2.2.1) e.1 e.2 (fun q r=>p (q,r)) (fun s=>Ê (fun(f:nm) t=>lJ a b a.1.2.2.2.2.2 (Ó a.1.2.2.2.2.2) f.1 f.2 (fun u v=>t (u,v)) (fun w=>k (a.1.1,a.1.2.1,j,o,s,w))) ((0:Int),[]))) ((0:Int),[]))) ((0:Int),[]))) ((0:Int),[]))
def jm (a:a8) (b:b5):BY b6:=wV a b some
def ĩ (c:bx) (d:Int) (e:Int) (f:Int) (a:Int) (g:Int->BY ρ) (h:Int->BY ρ) (i:Unit->BY ρ):BY ρ :=
  ifb (ilt a d) (ð c a fun b=>ifb ((oy e b.1)&&((oy f b.2)&&true)) (h a) (ck (a+(1:Int)) fun j=>g j)) (i ())
def jT (a:bx) (b:bl) (k:Int->BY ρ):BY ρ :=
  Ê (fun(c:Int) d=>ĩ a (Ó a) b.1 b.2 c (fun e=>d e) (fun f=>k f) (fun _=>k (-1:Int))) (0:Int)
def ú (a:bx) (b:bl):BY (Int):=jT a b some
def KC (b:(Val (.ptr Ea))) (a:an) (c:Int) (k:Int->BY ρ):BY ρ :=
  ifb (ieq (Ó a) 0) (k (0:Int)) (ð a (0:Int) fun d=>Ã (ú b.2.1 (d,c)) fun e=>ck (e+(1:Int)) fun f=>k f)
def mh (a:(Val (.ptr Ea))) (b:an) (c:Int):BY (Int):=KC a b c some
def xy (f:Int) (g:Int) (h:fx) (i:Int) (j:Int) (b:Int) (a:Int) (d:Int->Int->BY ρ) (k:Int->BY ρ):BY ρ :=
  ifb (ilt a i) (ð h a fun c=>ck (g-(1:Int)) fun l=>ck ((abf c.2.1.2 l)-(R0 c.2.1.1 f)) fun m=>ck (m+1) fun e=>ifb (ieq c.1 j) (ifb (igt e 0) (ck (e*c.2.2) fun n=>ck (b+n) fun o=>ck (a+(1:Int)) fun p=>d o p) (ck (a+(1:Int)) fun q=>d b q)) (ck (a+(1:Int)) fun r=>d b r)) (k b)
def xx (e:Int) (f:Int) (g:bx) (h:Int) (i:Int) (a:Int) (b:an) (d:Int->an->BY ρ) (j:an->BY ρ):BY ρ :=
  ifb (ilt a h) (ð g a fun c=>ifb (ieq c.1 i) (ck (f-(1:Int)) fun k=>Ã (ğ c.2 e k) fun l=>ifb l (à (ã ((List.length b)+(List.length ([c.2])))) (ck (a+(1:Int)) fun m=>d m (b++([c.2])))) (ck (a+(1:Int)) fun n=>d n b)) (ck (a+(1:Int)) fun o=>d o b)) (j b)
def ac6 (a:b6) (b:pi) (d:Int) (e:Int) (k:Int->BY ρ):BY ρ :=
  Ê (fun(f:bl) h=>xy d e a.2.2.2.1 (Ó a.2.2.2.1) b.1 f.1 f.2 (fun i j=>h (i,j)) (fun l=>Ê (fun(g:f4) m=>xx d e a.2.2.1 (Ó a.2.2.1) b.1 g.1 g.2 (fun n o=>m (n,o)) (fun c=>à (ã (List.length c)) (à (ã (List.length (yT c))) (ck ((Ó (BZ (yT c)))*b.2.2.2.2.2) fun p=>ck (l+p) fun q=>k q)))) ((0:Int),[]))) ((0:Int),(0:Int))
def BT (a:b6) (b:pi) (c:Int) (d:Int):BY (Int):=ac6 a b c d some
def yA (b:py) (a:an) (k:bl->BY ρ):BY ρ :=
  ifb (ieq (Ó a) 0) (k ((0:Int),(1:Int))) (ð a (0:Int) fun c=>QH (k:=tI) (v:=Ú) c b (fun d=>k d.2.2.2.2.1) (k ((0:Int),(0:Int))))
def jy (a:py) (b:an):BY bl:=yA a b some
def ue (b:bx) (c:Int) (a:Int) (d:Int->BY ρ) (e:Int->BY ρ) (f:Unit->BY ρ):BY ρ :=
  ifb (ilt a c) (ð b a fun g=>Ã (wA g) fun h=>ifb (!h) (e (1:Int)) (ck (a+(1:Int)) fun i=>d i)) (f ())
def Y9 (a:bx) (k:Int->BY ρ):BY ρ :=
  Ê (fun(b:Int) c=>ue a (Ó a) b (fun d=>c d) (fun e=>k e) (fun _=>k (0:Int))) (0:Int)
def lE (a:bx):BY (Int):=Y9 a some
def Pf (d:Int) (e:Int) (k:l7->BY ρ):BY ρ :=
  Ã (uA d) fun b=>Ã (uA e) fun c=>Ã (P1 b c) fun a=>ifb (oy a 0) (none) (ifb (oy a 0) (none) (ifb (igt (IntKind.wrap .u64 (Int.tdiv b a)) 2147483647) (k (((0:Int),(0:Int)),(3:Int))) (ifb (igt (IntKind.wrap .u64 (Int.tdiv c a)) 2147483647) (k (((0:Int),(0:Int)),(3:Int))) (ifb (!((ilt d 0)==(ilt e 0))) (ck (0-(IntKind.wrap .i64 (IntKind.wrap .u64 (Int.tdiv b a)))) fun f=>k ((f,(IntKind.wrap .i64 (IntKind.wrap .u64 (Int.tdiv c a)))),(0:Int))) (k (((IntKind.wrap .i64 (IntKind.wrap .u64 (Int.tdiv b a))),(IntKind.wrap .i64 (IntKind.wrap .u64 (Int.tdiv c a)))),(0:Int)))))))
def sf (a:Int) (b:Int):BY l7:=Pf a b some
def ahy (a:bl) (b:bl) (k:l7->BY ρ):BY ρ :=
  Ã (lE ([a,b])) fun c=>ifb (ine c 0) (k (((0:Int),(0:Int)),c)) (ck (a.1*b.2) fun e=>ck (b.1*a.2) fun f=>ck (e-f) fun g=>ck (a.2*b.2) fun h=>Ã (sf g h) fun d=>k (d.1,d.2))
def Wi (a:bl) (b:bl):BY l7:=ahy a b some
def Hr (a:bl) (b:bl) (k:bl->BY ρ):BY ρ :=
  Ã (Wi a b) fun c=>k c.1
def ya (a:bl) (b:bl):BY bl:=Hr a b some
def ahw (a:bl) (b:bl) (k:Int->BY ρ):BY ρ :=
  ck (a.1*b.2) fun c=>ck (b.1*a.2) fun d=>ifb ((oy a.1 b.1)&&((oy a.2 b.2)&&true)) (k (0:Int)) (ifb (ilt c d) (k (-1:Int)) (ifb (igt c d) (k (1:Int)) (k (0:Int))))
def P2 (a:bl) (b:bl):BY (Int):=ahw a b some
def DS (a:ly) (k:Bool->BY ρ):BY ρ :=
  Ã (lE ([a.1,a.2])) fun b=>ifb (ieq b 0) (Ã (P2 a.1 a.2) fun c=>k (ile c 0)) (k false)
def uR (a:ly):BY (Bool):=DS a some
def ahA (a:bl) (b:bl) (k:l7->BY ρ):BY ρ :=
  Ã (lE ([a,b])) fun c=>ifb (ine c 0) (k (((0:Int),(0:Int)),c)) (ck (a.1*b.1) fun e=>ck (a.2*b.2) fun f=>Ã (sf e f) fun d=>k (d.1,d.2))
def P4 (a:bl) (b:bl):BY l7:=ahA a b some
def Ph (c:ly) (d:bl) (k:Val Fv->BY ρ):BY ρ :=
  Ã (uR c) fun e=>ifb (!e) (k ((((0:Int),(0:Int)),(0:Int),(0:Int)),(1:Int))) (Ã (wA d) fun f=>ifb (!f) (k ((((0:Int),(0:Int)),(0:Int),(0:Int)),(1:Int))) (Ã (P4 d c.1) fun a=>ifb (ine a.2 0) (k ((((0:Int),(0:Int)),(0:Int),(0:Int)),a.2)) (Ã (P4 d c.2) fun b=>ifb (ine b.2 0) (k ((((0:Int),(0:Int)),(0:Int),(0:Int)),b.2)) (Ã (P2 a.1 b.1) fun g=>ifb (igt g 0) (k ((b.1,a.1),(0:Int))) (k ((a.1,b.1),(0:Int)))))))
def P3 (a:ly) (b:bl):BY (Val Fv):=Ph a b some
def Ho (b:bl) (a:bl) (k:ly->BY ρ):BY ρ :=
  Ã (P3 ((a.1,(1:Int)),a.2,(1:Int)) b) fun c=>k c.1
def qt (a:bl) (b:bl):BY ly:=Ho a b some
def TO (c:b6) (a:i4) (k:ly->BY ρ):BY ρ :=
  Ã (Ň c) fun b=>Ã (δ a.2.2.1 a.2.2.2.1) fun d=>Ã (jy b d) fun e=>Ã (δ a.2.2.2.1 a.2.2.1) fun f=>Ã (jy b f) fun g=>Ã (ya e g) fun h=>Ã (qt h a.2.2.2.2.2.2) fun i=>k i
def wB (a:b6) (b:i4):BY ly:=TO a b some
def Zk (a:b6) (b:i4) (k:bl->BY ρ):BY ρ :=
  ck ((Ó b.2.2.1)-(1:Int)) fun c=>ck ((Ó b.2.2.2.1)-(1:Int)) fun d=>ck ((R0 (0:Int) c)*a.1.1) fun e=>ck ((R0 (0:Int) d)*a.1.2) fun f=>ck (e-f) fun g=>ck ((R0 (0:Int) c)*a.1.2) fun h=>ck ((R0 (0:Int) d)*a.1.1) fun i=>ck (h-i) fun j=>k (g,j)
def AR (a:b6) (b:i4):BY bl:=Zk a b some
def Pg (b:Int) (a:Int) (k:Int->BY ρ):BY ρ :=
  ifb (oy a 0) (none) (ck (Int.tdiv b a) fun c=>ifb (oy a 0) (none) (ifb (ilt (Int.tmod b a) 0) (ck (c-1) fun d=>k d) (k c)))
def wz (a:Int) (b:Int):BY (Int):=Pg a b some
def Ze (a:bl) (k:bl->BY ρ):BY ρ :=
  Ã (lE ([a])) fun b=>ifb (ine b 0) (k ((0:Int),b)) (Ã (wz a.1 a.2) fun c=>k (c,(0:Int)))
def Ix (a:bl):BY bl:=Ze a some
def ac3 (a:bl) (k:bl->BY ρ):BY ρ :=
  Ã (lE ([a])) fun b=>ifb (ine b 0) (k ((0:Int),b)) (ck (0-a.1) fun c=>Ã (wz c a.2) fun d=>ck (0-d) fun e=>k (e,(0:Int)))
def Mr (a:bl):BY bl:=ac3 a some
def ac4 (b:b6) (a:i4) (k:bl->BY ρ):BY ρ :=
  Ã (wB b a) fun c=>Ã (AR b a) fun d=>Ã (Ix c.2) fun e=>Ã (Mr c.1) fun f=>ck (a.2.2.2.2.1-a.2.2.2.2.2.1) fun g=>ck (g-d.2) fun h=>ck (h-e.1) fun i=>ck (a.2.2.2.2.1+a.2.2.2.2.2.1) fun j=>ck (j-d.1) fun l=>ck (l-f.1) fun m=>k (i,m)
def BS (a:b6) (b:i4):BY bl:=ac4 a b some
def xv (b:Int) (e:an) (h:Int) (j:Int) (k:Int) (l:fy) (m:bx) (n:fx) (o:c7) (p:bx) (q:Int) (r:Int) (s:Int) (t:Int) (u:Int) (v:Int) (w:Int) (x:Int) (a:Int) (f:ge) (g:bx) (y:Int->ge->bx->BY ρ) (z:Val CE->BY ρ):BY ρ :=
  ifb (ilt a (Ó e)) (ck (h+a) fun A=>ck (A-1) fun c=>ck (h+a) fun d=>ck (a-(1:Int)) fun B=>ð e B fun C=>ð e a fun D=>Ã (BT ((j,k),l,m,n,o,p) (q,r,s,(t,u),(v,w),x) C D) fun E=>ck (0-E) fun F=>ck (0-F) fun i=>à (ã ((List.length f)+(List.length ([(c,d,(0:Int)),(d,c,i)])))) (à (ã ((List.length g)+(List.length ([((2:Int),b),((2:Int),b)])))) (ck (a+(1:Int)) fun G=>y G (f++([(c,d,(0:Int)),(d,c,i)])) (g++([((2:Int),b),((2:Int),b)]))))) (z (f,g))
def xw (q:fy) (r:Int) (f:Int) (g:Int) (h:fy) (i:bx) (j:fx) (k:c7) (l:bx) (s:bx) (t:Int) (b:Int) (d:ge) (e:bx) (u:Int->ge->bx->BY ρ) (v:Val CE->BY ρ):BY ρ :=
  ifb (ilt b r) (ð q b fun a=>Ã (qu ((f,g),h,i,j,k,l) a) fun w=>Ã (mh (((f,g),h,i,j,k,l),s,(t,d),e) ([a.1]) a.2.1) fun c=>ck (a.2.2.1+a.2.2.2.1.1) fun x=>ck (a.2.2.1+a.2.2.2.1.2) fun n=>ck (0-x) fun o=>à (ã ((List.length d)+(List.length ([((0:Int),c,n),(c,(0:Int),o)])))) (à (ã ((List.length e)+(List.length ([((1:Int),b),((1:Int),b)])))) (Ê (fun(m:wk) y=>xv b w c f g h i j k l a.1 a.2.1 a.2.2.1 a.2.2.2.1.1 a.2.2.2.1.2 a.2.2.2.2.1.1 a.2.2.2.2.1.2 a.2.2.2.2.2 m.1 m.2.1 m.2.2 (fun z A B=>y (z,A,B)) (fun p=>ck (b+(1:Int)) fun C=>u C p.1 p.2)) ((1:Int),(d++([((0:Int),c,n),(c,(0:Int),o)])),(e++([((1:Int),b),((1:Int),b)])))))) (v (d,e))
def xu (r:c7) (s:Int) (g:Int) (h:Int) (i:fy) (j:bx) (k:fx) (l:c7) (m:bx) (o:bx) (p:Int) (a:Int) (c:ge) (d:bx) (t:Int->ge->bx->BY ρ) (u:Val CE->BY ρ):BY ρ :=
  ifb (ilt a s) (ð r a fun b=>Ã (δ b.2.2.2.1 b.2.2.1) fun v=>Ã (mh (((g,h),i,j,k,l,m),o,(p,c),d) v b.2.1) fun e=>Ã (δ b.2.2.1 b.2.2.2.1) fun w=>Ã (mh (((g,h),i,j,k,l,m),o,(p,c),d) w b.2.1) fun f=>Ã (BS ((g,h),i,j,k,l,m) b) fun n=>ck (0-n.1) fun q=>à (ã ((List.length c)+(List.length ([(e,f,n.2),(f,e,q)])))) (à (ã ((List.length d)+(List.length ([((3:Int),a),((3:Int),a)])))) (ck (a+(1:Int)) fun x=>t x (c++([(e,f,n.2),(f,e,q)])) (d++([((3:Int),a),((3:Int),a)]))))) (u (c,d))
def ac5 (a:b6) (k:(Val (.ptr Ea))->BY ρ):BY ρ :=
  Ã (sg a) fun b=>ck ((Ó b)+(1:Int)) fun c=>Ê (fun(d:wk) h=>xw a.2.1 (Ó a.2.1) a.1.1 a.1.2 a.2.1 a.2.2.1 a.2.2.2.1 a.2.2.2.2.1 a.2.2.2.2.2 b c d.1 d.2.1 d.2.2 (fun i j l=>h (i,j,l)) (fun f=>Ê (fun(e:wk) m=>xu a.2.2.2.2.1 (Ó a.2.2.2.2.1) a.1.1 a.1.2 a.2.1 a.2.2.1 a.2.2.2.1 a.2.2.2.2.1 a.2.2.2.2.2 b c e.1 e.2.1 e.2.2 (fun n o p=>m (n,o,p)) (fun g=>k (a,b,(c,g.1),g.2))) ((0:Int),f.1,f.2))) ((0:Int),[],[])
def Ms (a:b6):BY ((Val (.ptr Ea))):=ac5 a some
def TQ (a:b6) (k:(Val (.pair Õ (.pair aa tI)))->BY ρ):BY ρ :=
  Ã (ζ a) fun b=>ifb (ine b 0) (k (((0:Int),[]),[],b)) (Ã (Ms a) fun c=>k (c.2.2.1,c.2.2.2,(0:Int)))
def jG (a:b6):BY ((Val (.pair Õ (.pair aa tI)))):=TQ a some
def ac1 (b:im) (a:Int) (k:Bool->BY ρ):BY ρ :=
  ifb (ige a 0) (k (ilt a b.1)) (k false)
def BQ (a:im) (b:Int):BY (Bool):=ac1 a b some
def ud (f:ge) (g:Int) (d:Int) (e:ge) (a:Int) (h:Int->BY ρ) (c:bl->BY ρ) (i:Unit->BY ρ):BY ρ :=
  ifb (ilt a g) (ð f a fun b=>Ã (BQ (d,e) b.1) fun j=>ifb (!j) (c ((1:Int),a)) (Ã (BQ (d,e) b.2.1) fun k=>ifb (!k) (c ((1:Int),a)) (ifb (ieq b.1 b.2.1) (c ((1:Int),a)) (ifb (ilt b.2.2 (-4503599627370496:Int)) (c ((1:Int),a)) (ifb (igt b.2.2 4503599627370496) (c ((1:Int),a)) (ck (a+(1:Int)) fun l=>h l)))))) (i ())
def Y8 (a:im) (k:bl->BY ρ):BY ρ :=
  ifb (ilt a.1 1) (k ((1:Int),(-1:Int))) (ifb (igt a.1 60) (k ((1:Int),(-1:Int))) (ifb (igt (Ó a.2) 300) (k ((2:Int),(-1:Int))) (Ê (fun(c:Int) d=>ud a.2 (Ó a.2) a.1 a.2 c (fun e=>d e) (fun b=>k (b.1,b.2)) (fun _=>k ((0:Int),(-1:Int)))) (0:Int))))
def se (a:im):BY bl:=Y8 a some
def iO (c:ge) (d:Int) (b:Int) (a:Int) (e:Int->Int->BY ρ) (f:Int->BY ρ):BY ρ :=
  ifb (ilt a d) (ð c a fun g=>ck (b+(abf g.2.2 (0:Int))) fun h=>ck (a+(1:Int)) fun i=>e h i) (f b)
def ŝ (f:Int) (d:an) (a:Int) (b:wl) (c:an) (e:Int->wl->an->BY ρ) (g:Val aU->BY ρ):BY ρ :=
  ifb (ilt a f) (à ((ile 0 a)&&(ilt a (ì d))) (Į d (Int.toNat a) fun h=>ifb (ine h 1152921504606846976) (à (ã ((List.length c)+(List.length ([a])))) (à ((ile 0 a)&&(ilt a (ì b))) (Į b (Int.toNat a) fun k=>ck (a+(1:Int)) fun i=>e i (List.set b (Int.toNat a) true) (c++([a]))))) (ck (a+(1:Int)) fun j=>e j b c))) (g (b,c))
def jX (m:Val au) (j:Int) (d:Int) (n:ge) (o:Int) (f:Int) (b:an) (c:wl) (e:an) (g:Int->an->wl->an->BY ρ) (l:(Val (.pair .bool (.pair ab aU)))->BY ρ) (p:(Val (.pair ab aU))->BY ρ):BY ρ :=
  ifb (ilt f o) (ð n f fun a=>ifb (ine a.1 d) (ck (f+(1:Int)) fun q=>g q b c e) (QH (k:=tI) (v:=.bool) f m (fun r=>ifb r (ck (f+(1:Int)) fun s=>g s b c e) (à ((ile 0 d)&&(ilt d (ì b))) (Į b (Int.toNat d) fun t=>ck (t+a.2.2) fun u=>à ((ile 0 a.2.1)&&(ilt a.2.1 (ì b))) (Į b (Int.toNat a.2.1) fun w=>ifb (ige u w) (ck (f+(1:Int)) fun x=>g x b c e) (à ((ile 0 d)&&(ilt d (ì b))) (Į b (Int.toNat d) fun y=>ck (y+a.2.2) fun h=>à ((ile 0 a.2.1)&&(ilt a.2.1 (ì b))) (Į b (Int.toNat a.2.1) fun M=>à ((ile 0 a.2.1)&&(ilt a.2.1 (ì (List.set b (Int.toNat a.2.1) h)))) (Į (List.set b (Int.toNat a.2.1) h) (Int.toNat a.2.1) fun z=>ifb (ilt z j) (l (false,(List.set b (Int.toNat a.2.1) h),c,e)) (à ((ile 0 a.2.1)&&(ilt a.2.1 (ì c))) (Į c (Int.toNat a.2.1) fun A=>ifb (!A) (à (ã ((List.length e)+(List.length ([a.2.1])))) (à ((ile 0 a.2.1)&&(ilt a.2.1 (ì c))) (Į c (Int.toNat a.2.1) fun N=>ck (f+(1:Int)) fun B=>g B (List.set b (Int.toNat a.2.1) h) (List.set c (Int.toNat a.2.1) true) (e++([a.2.1]))))) (ck (f+(1:Int)) fun C=>g C (List.set b (Int.toNat a.2.1) h) c e))))))))))) (à ((ile 0 d)&&(ilt d (ì b))) (Į b (Int.toNat d) fun D=>ck (D+a.2.2) fun E=>à ((ile 0 a.2.1)&&(ilt a.2.1 (ì b))) (Į b (Int.toNat a.2.1) fun F=>ifb (ige E F) (ck (f+(1:Int)) fun G=>g G b c e) (à ((ile 0 d)&&(ilt d (ì b))) (Į b (Int.toNat d) fun H=>ck (H+a.2.2) fun i=>à ((ile 0 a.2.1)&&(ilt a.2.1 (ì b))) (Į b (Int.toNat a.2.1) fun O=>à ((ile 0 a.2.1)&&(ilt a.2.1 (ì (List.set b (Int.toNat a.2.1) i)))) (Į (List.set b (Int.toNat a.2.1) i) (Int.toNat a.2.1) fun I=>ifb (ilt I j) (l (false,(List.set b (Int.toNat a.2.1) i),c,e)) (à ((ile 0 a.2.1)&&(ilt a.2.1 (ì c))) (Į c (Int.toNat a.2.1) fun J=>ifb (!J) (à (ã ((List.length e)+(List.length ([a.2.1])))) (à ((ile 0 a.2.1)&&(ilt a.2.1 (ì c))) (Į c (Int.toNat a.2.1) fun P=>ck (f+(1:Int)) fun K=>g K (List.set b (Int.toNat a.2.1) i) (List.set c (Int.toNat a.2.1) true) (e++([a.2.1]))))) (ck (f+(1:Int)) fun L=>g L (List.set b (Int.toNat a.2.1) i) c e)))))))))))) (p (b,c,e))
def ĭ (l:Val au) (m:Int) (n:Int) (k:ge) (h:an) (d:wl) (b:an) (c:an) (o:an->wl->an->an->BY ρ) (i:(Val (.pair .bool aV))->BY ρ):BY ρ :=
  ifb (ieq (Ó c) 0) (i (true,h,d,b,c)) (à (ilt 0 (ì c)) (Į c 0 fun a=>à (ile 1 (ì c)) (à (decide (1+(List.length c-1)=List.length c)) (à ((ile 0 a)&&(ilt a (ì d))) (Į d (Int.toNat a) fun x=>à ((ile 0 a)&&(ilt a (ì b))) (Į b (Int.toNat a) fun p=>ck (p+(1:Int)) fun e=>à ((ile 0 a)&&(ilt a (ì b))) (Į b (Int.toNat a) fun y=>à ((ile 0 a)&&(ilt a (ì (List.set b (Int.toNat a) e)))) (Į (List.set b (Int.toNat a) e) (Int.toNat a) fun q=>ck (n+(1:Int)) fun r=>ifb (igt q r) (i (false,h,(List.set d (Int.toNat a) false),(List.set b (Int.toNat a) e),(List.drop 1 c))) (Ê (fun(f:nj) s=>jX l m a k (Ó k) f.1 f.2.1 f.2.2.1 f.2.2.2 (fun t u v w=>s (t,u,v,w)) (fun g=>i (g.1,g.2.1,g.2.2.1,(List.set b (Int.toNat a) e),g.2.2.2)) (fun j=>o j.1 j.2.1 (List.set b (Int.toNat a) e) j.2.2)) ((0:Int),h,(List.set d (Int.toNat a) false),(List.drop 1 c)))))))))))
def jW (c:Int) (d:Int) (a:Int) (b:an) (e:Int->an->BY ρ) (f:an->BY ρ):BY ρ :=
  ifb (ilt a d) (à ((ile 0 a)&&(ilt a (ì b))) (Į b (Int.toNat a) fun g=>ck (g-c) fun h=>à ((ile 0 a)&&(ilt a (ì b))) (Į b (Int.toNat a) fun j=>ck (a+(1:Int)) fun i=>e i (List.set b (Int.toNat a) h)))) (f b)
def Aq (a:im) (h:Val au) (k:AS->BY ρ):BY ρ :=
  à ((ile 0 a.1)&&(ã (Int.toNat a.1))) (à ((ile 0 a.1)&&(ã (Int.toNat a.1))) (à ((ile 0 a.1)&&(ã (Int.toNat a.1))) (Ê (fun(e:bl) i=>iO a.2 (Ó a.2) e.1 e.2 (fun j l=>i (j,l)) (fun m=>Ê (fun(d:y6) n=>ŝ a.1 (List.replicate (Int.toNat a.1) (0:Int)) d.1 d.2.1 d.2.2 (fun o p q=>n (o,p,q)) (fun f=>Ê (fun(c:Val aV) r=>ĭ h m a.1 a.2 c.1 c.2.1 c.2.2.1 c.2.2.2 (fun s t u v=>r (s,t,u,v)) (fun b=>ifb (!b.1) (k ([],false)) (à (ilt 0 (ì b.2.1)) (Į b.2.1 0 fun w=>Ê (fun(g:f4) x=>jW w (Ó b.2.1) g.1 g.2 (fun y z=>x (y,z)) (fun A=>k (A,true))) ((0:Int),b.2.1))))) ((List.replicate (Int.toNat a.1) (0:Int)),f.1,(List.replicate (Int.toNat a.1) (0:Int)),f.2))) ((0:Int),(List.replicate (Int.toNat a.1) false),[]))) ((0:Int),(0:Int)))))
def mg (a:im) (b:Val au):BY (AS):=Aq a b some
def DE (a:im) (k:Val bg->BY ρ):BY ρ :=
  Ã (se a) fun b=>ifb (ine b.1 0) (k (false,b.1)) (Ã (mg a ([])) fun c=>k (c.2,(0:Int)))
def ow (a:im):BY ((Val bg)):=DE a some
def Kr (a:a8) (b:b5) (k:Bool->BY ρ):BY ρ :=
  Ã (jm a b) fun c=>Ã (jG c) fun d=>Ã (ow d.1) fun e=>k e.1
def Χ (a:a8) (b:b5):BY (Bool):=Kr a b some
def lN (c:a7) (d:Int) (e:Int) (f:Int) (g:fy) (h:bx) (i:fx) (j:c7) (k:bx) (l:c9) (a:Int) (m:Int->BY ρ) (n:th->BY ρ) (o:Unit->BY ρ):BY ρ :=
  ifb (ilt a d) (ð c a fun b=>Ã (Χ (((e,f),g,h,i,j,k),l) b) fun p=>ifb p (n (b,true)) (ck (a+(1:Int)) fun q=>m q)) (o ())
def Gs (a:a8) (k:th->BY ρ):BY ρ :=
  Ã (uw a) fun b=>Ê (fun(d:Int) e=>lN b (Ó b) a.1.1.1 a.1.1.2 a.1.2.1 a.1.2.2.1 a.1.2.2.2.1 a.1.2.2.2.2.1 a.1.2.2.2.2.2 a.2 d (fun f=>e f) (fun c=>k (c.1,c.2)) (fun _=>k ([],false))) (0:Int)
def û (a:a8):BY (th):=Gs a some
def td (b:fy) (c:Int) (d:Int) (a:Int) (e:Int->BY ρ) (f:Int->BY ρ) (g:Unit->BY ρ):BY ρ :=
  ifb (ilt a c) (ð b a fun h=>ifb (ieq h.1 d) (f a) (ck (a+(1:Int)) fun i=>e i)) (g ())
def Yt (a:a8) (c:Int) (b:Int) (k:Int->BY ρ):BY ρ :=
  ifb (ilt b 0) (k (1:Int)) (ifb (igt b 20000) (k (1:Int)) (Ê (fun(d:Int) e=>td a.1.2.1 (Ó a.1.2.1) c d (fun f=>e f) (fun g=>ifb (!(ige g 0)) (k (5:Int)) (k (0:Int))) (fun _=>k (5:Int))) (0:Int)))
def wq (a:a8) (b:Int) (c:Int):BY (Int):=Yt a b c some
def TS (a:an) (b:an) (k:(Val (.pair ab aD))->BY ρ):BY ρ :=
  Ã (nY a) fun c=>ifb (!c) (k ([],[],(1:Int))) (Ã (nY b) fun d=>ifb (!d) (k ([],[],(1:Int))) (Ã (δ a b) fun e=>Ã (δ b a) fun f=>k (e,f,(0:Int))))
def qM (a:an) (b:an):BY ((Val (.pair ab aD))):=TS a b some
def lO (g:Int) (b:Int) (c:c7) (a:Int) (d:Int->BY ρ) (h:Int->BY ρ) (i:Unit->BY ρ):BY ρ :=
  ifb (ilt a g) (à ((ile 0 a)&&(ilt a (ì c))) (Į c (Int.toNat a) fun e=>Ã (qM e.2.2.1 e.2.2.2.1) fun f=>Ã (æ f.1 b) fun j=>ifb j (ck (a+(1:Int)) fun k=>d k) (Ã (æ f.2.1 b) fun l=>ifb (!l) (h a) (ck (a+(1:Int)) fun m=>d m)))) (i ())
def Δ (f:Int) (a:Int) (c:Int) (b:c7) (e:Int->Int->c7->BY ρ) (h:BE->BY ρ):BY ρ :=
  ifb (ilt c (Ó b)) (à ((ile 0 c)&&(ilt c (ì b))) (Į b (Int.toNat c) fun d=>Ã (qM d.2.2.1 d.2.2.2.1) fun g=>Ã (æ g.1 f) fun i=>ifb i (à ((ile 0 a)&&(ilt a (ì b))) (Į b (Int.toNat a) fun p=>ck (a+(1:Int)) fun j=>ck (c+(1:Int)) fun k=>e j k (List.set b (Int.toNat a) d))) (Ã (æ g.2.1 f) fun l=>ifb (!(!l)) (à ((ile 0 a)&&(ilt a (ì b))) (Į b (Int.toNat a) fun q=>ck (a+(1:Int)) fun m=>ck (c+(1:Int)) fun n=>e m n (List.set b (Int.toNat a) d))) (ck (c+(1:Int)) fun o=>e a o b)))) (h (a,b))
def wY (b:a8) (c:Int) (k:Val bg->BY ρ):BY ρ :=
  Ã (Ω b) fun f=>ifb (ine f 0) (k (false,f)) (Ã (wq b c (0:Int)) fun g=>ifb (ine g 0) (k (false,g)) (à (ã (List.length b.1.2.2.2.2.1)) (Ê (fun(h:Int) i=>lO (Ó b.1.2.2.2.2.1) c b.1.2.2.2.2.1 h (fun j=>i j) (fun d=>ifb (ieq d (-1:Int)) (Ã (û b) fun l=>k ((!l.2),(0:Int))) (ck (d+(1:Int)) fun m=>Ê (fun(e:y8) n=>Δ c e.1 e.2.1 e.2.2 (fun o p q=>n (o,p,q)) (fun a=>à ((ile 0 a.1)&&(ile a.1 (ì a.2))) (à ((ile 0 a.1)&&(ile a.1 (ì (List.take (Int.toNat a.1) a.2++List.replicate (List.length a.2-(Int.toNat a.1)) ((0:Int),(0:Int),[],[],(0:Int),(0:Int),(0:Int),(0:Int))++List.drop ((Int.toNat a.1)+(List.length a.2-(Int.toNat a.1))) a.2)))) (Ã (û ((b.1.1,b.1.2.1,b.1.2.2.1,b.1.2.2.2.1,(List.take (Int.toNat a.1) (List.drop 0 (List.take (Int.toNat a.1) a.2++List.replicate (List.length a.2-(Int.toNat a.1)) ((0:Int),(0:Int),[],[],(0:Int),(0:Int),(0:Int),(0:Int))++List.drop ((Int.toNat a.1)+(List.length a.2-(Int.toNat a.1))) a.2))),b.1.2.2.2.2.2),b.2)) fun r=>k ((!r.2),(0:Int)))))) (d,m,b.1.2.2.2.2.1))) (fun _=>Ã (û b) fun s=>k ((!s.2),(0:Int)))) (0:Int))))
def mY (a:a8) (b:Int):BY ((Val bg)):=wY a b some
def wW (c:Int) (d:an) (b:c7) (a:Int) (e:Int->BY ρ) (f:Int->BY ρ) (g:Unit->BY ρ):BY ρ :=
  ifb (ilt a c) (à ((ile 0 a)&&(ilt a (ì b))) (Į b (Int.toNat a) fun h=>Ã (æ d h.1) fun i=>ifb (!i) (f a) (ck (a+(1:Int)) fun j=>e j))) (g ())
def nI (f:an) (b:Int) (c:Int) (a:c7) (d:Int->Int->c7->BY ρ) (g:BE->BY ρ):BY ρ :=
  ifb (ilt c (Ó a)) (à ((ile 0 c)&&(ilt c (ì a))) (Į a (Int.toNat c) fun e=>Ã (æ f e.1) fun h=>ifb (!(!h)) (à ((ile 0 b)&&(ilt b (ì a))) (Į a (Int.toNat b) fun l=>ck (b+(1:Int)) fun i=>ck (c+(1:Int)) fun j=>d i j (List.set a (Int.toNat b) e))) (ck (c+(1:Int)) fun k=>d b k a))) (g (b,a))
def Vh (b:a8) (e:an) (k:a8->BY ρ):BY ρ :=
  à (ã (List.length b.1.2.2.2.2.1)) (Ê (fun(f:Int) g=>wW (Ó b.1.2.2.2.2.1) e b.1.2.2.2.2.1 f (fun h=>g h) (fun c=>ifb (ieq c (-1:Int)) (k b) (ck (c+(1:Int)) fun i=>Ê (fun(d:y8) j=>nI e d.1 d.2.1 d.2.2 (fun l m n=>j (l,m,n)) (fun a=>à ((ile 0 a.1)&&(ile a.1 (ì a.2))) (à ((ile 0 a.1)&&(ile a.1 (ì (List.take (Int.toNat a.1) a.2++List.replicate (List.length a.2-(Int.toNat a.1)) ((0:Int),(0:Int),[],[],(0:Int),(0:Int),(0:Int),(0:Int))++List.drop ((Int.toNat a.1)+(List.length a.2-(Int.toNat a.1))) a.2)))) (k ((b.1.1,b.1.2.1,b.1.2.2.1,b.1.2.2.2.1,(List.take (Int.toNat a.1) (List.drop 0 (List.take (Int.toNat a.1) a.2++List.replicate (List.length a.2-(Int.toNat a.1)) ((0:Int),(0:Int),[],[],(0:Int),(0:Int),(0:Int),(0:Int))++List.drop ((Int.toNat a.1)+(List.length a.2-(Int.toNat a.1))) a.2))),b.1.2.2.2.2.2),b.2))))) (c,i,b.1.2.2.2.2.1))) (fun _=>k b)) (0:Int))
def xP (a:a8) (b:an):BY a8:=Vh a b some
def wZ (d:c7) (e:Int) (a:Int) (b:an) (f:Int->an->BY ρ) (g:an->BY ρ):BY ρ :=
  ifb (ilt a e) (ð d a fun c=>à (ã ((List.length b)+(List.length ([c.1])))) (ck (a+(1:Int)) fun h=>f h (b++([c.1])))) (g b)
def rj (f:Int) (g:Int) (h:fy) (i:bx) (j:fx) (k:c7) (l:bx) (m:c9) (b:an) (a:Int) (d:an->Int->BY ρ) (n:an->BY ρ):BY ρ :=
  ifb (ige a 0) (à ((ile 0 a)&&(ile a (ì b))) (ck (a+(1:Int)) fun c=>à ((ile 0 c)&&(ile c (ì b))) (Ã (Ī ([(List.take (Int.toNat a) b),(List.drop (Int.toNat c) b)])) fun e=>Ã (xP (((f,g),h,i,j,k,l),m) e) fun o=>Ã (û o) fun p=>ifb (!p.2) (ck (a-(1:Int)) fun q=>d e q) (ck (a-(1:Int)) fun r=>d b r)))) (n b)
def acM (a:a8) (k:lA->BY ρ):BY ρ :=
  Ã (Ω a) fun b=>ifb (ine b 0) (k ([],b)) (Ã (û a) fun f=>ifb f.2 (k ([],(5:Int))) (Ê (fun(c:f4) g=>wZ a.1.2.2.2.2.1 (Ó a.1.2.2.2.2.1) c.1 c.2 (fun h i=>g (h,i)) (fun d=>ck ((Ó d)-(1:Int)) fun j=>Ê (fun(e:lA) l=>rj a.1.1.1 a.1.1.2 a.1.2.1 a.1.2.2.1 a.1.2.2.2.1 a.1.2.2.2.2.1 a.1.2.2.2.2.2 a.2 e.1 e.2 (fun m n=>l (m,n)) (fun o=>k (o,(0:Int)))) (d,j))) ((0:Int),[])))
def Ii (a:a8):BY (lA):=acM a some
def pW (e:Int) (f:an) (g:Int) (a:Int) (b:an) (c:Int->an->BY ρ) (h:an->BY ρ):BY ρ :=
  ifb (ilt a g) (ð f a fun d=>à (ile 0 a) (ifb (ieq (anH .i64 (iX .i64 e a) (1:Int)) 1) (à (ã ((List.length b)+(List.length ([d])))) (ck (a+(1:Int)) fun i=>c i (b++([d])))) (ck (a+(1:Int)) fun j=>c j b))) (h b)
def Tj (a:an) (c:Int) (k:an->BY ρ):BY ρ :=
  Ê (fun(b:f4) d=>pW c a (Ó a) b.1 b.2 (fun e f=>d (e,f)) (fun g=>k g)) ((0:Int),[])
def jD (a:an) (b:Int):BY (an):=Tj a b some
def mJ (b:c7) (c:Int) (d:Int) (a:Int) (e:Int->BY ρ) (f:Int->BY ρ) (g:Unit->BY ρ):BY ρ :=
  ifb (ilt a c) (ð b a fun h=>ifb (ieq h.1 d) (f a) (ck (a+(1:Int)) fun i=>e i)) (g ())
def iI (d:an) (e:Int) (b:c7) (a:Int) (f:Int->BY ρ) (c:Int->BY ρ) (g:Unit->BY ρ):BY ρ :=
  ifb (ilt a e) (ð d a fun h=>Ê (fun(i:Int) j=>mJ b (Ó b) h i (fun k=>j k) (fun l=>ifb (!(ige l 0)) (c (5:Int)) (ck (a+(1:Int)) fun m=>f m)) (fun _=>c (5:Int))) (0:Int)) (g ())
def jP (b:an) (a:Int) (c:Int->BY ρ) (d:Int->BY ρ) (e:Unit->BY ρ):BY ρ :=
  ifb (ilt a (Ó b)) (ð b a fun f=>ck (a-(1:Int)) fun g=>ð b g fun h=>ifb (ile f h) (d (6:Int)) (ck (a+(1:Int)) fun i=>c i)) (e ())
def jO (c:a7) (d:Int) (e:Int) (f:Int) (g:fy) (h:bx) (i:fx) (j:c7) (k:bx) (l:c9) (m:an) (n:Int) (a:Int) (o:Int->BY ρ) (p:th->BY ρ) (q:Unit->BY ρ):BY ρ :=
  ifb (ilt a d) (ð c a fun b=>Ã (jD m n) fun r=>Ã (xP (((e,f),g,h,i,j,k),l) r) fun s=>Ã (Χ s b) fun t=>ifb (!(!t)) (p (b,true)) (ck (a+(1:Int)) fun u=>o u)) (q ())
def ŷ (b:an) (e:an) (f:Int) (a:Int) (g:Int->BY ρ) (c:Int->BY ρ) (h:Unit->BY ρ):BY ρ :=
  ifb (ilt a f) (ð e a fun i=>ifb (ige a (Ó b)) (c (1:Int)) (ð b a fun j=>Ã (iQ i j) fun d=>ifb (ine d 0) (c d) (ck (a+(1:Int)) fun k=>g k))) (h ())
def Ŝ (c:Int) (d:Int) (b:an) (a:Int) (e:Int->BY ρ) (f:Unit->BY ρ) (g:Unit->BY ρ):BY ρ :=
  ifb (ilt a d) (à ((ile 0 a)&&(ilt a (ì b))) (Į b (Int.toNat a) fun h=>ifb (ieq (J6 .i64 c h) 0) (f ()) (ck (a+(1:Int)) fun i=>e i))) (g ())
def ś (b:Int) (d:a7) (e:Int) (f:an) (g:Int) (h:Int) (i:fy) (j:bx) (k:fx) (l:c7) (m:bx) (n:c9) (c:Int) (a:an) (o:Int->an->BY ρ) (p:an->BY ρ) (q:an->BY ρ):BY ρ :=
  ifb (ilt c e) (ð d c fun r=>Ã (jD f b) fun s=>Ã (xP (((g,h),i,j,k,l,m),n) s) fun t=>Ã (Χ t r) fun u=>ifb (!(!u)) (à (ã ((List.length a)+(List.length ([b])))) (p (a++([b])))) (ck (c+(1:Int)) fun v=>o v a)) (q a)
def Ÿ (g:a7) (t:Int) (h:an) (i:Int) (j:Int) (k:fy) (l:bx) (m:fx) (n:c7) (o:bx) (p:c9) (c:an) (e:Int) (a:Int) (b:an) (d:an->Int->Int->an->BY ρ) (u:f4->BY ρ):BY ρ :=
  ifb (ilt a t) (Ã (jD h a) fun f=>ifb (igt (Ó f) (Ó c)) (ck (a+(1:Int)) fun v=>d c e v b) (ifb (ieq (Ó f) (Ó c)) (Ê (fun(w:Int) x=>ŷ c f (Ó f) w (fun y=>x y) (fun z=>ifb (ige z 0) (ck (a+(1:Int)) fun A=>d c e A b) (Ê (fun(B:Int) C=>Ŝ a (Ó b) b B (fun D=>C D) (fun _=>ck (a+(1:Int)) fun E=>d c e E b) (fun _=>Ê (fun(q:f4) F=>ś a g (Ó g) h i j k l m n o p q.1 q.2 (fun G H=>F (G,H)) (fun I=>ck (a+(1:Int)) fun J=>d c e J I) (fun K=>ck (a+(1:Int)) fun L=>d f a L K)) ((0:Int),b))) (0:Int))) (fun _=>ifb (ilt (Ó f) (Ó c)) (Ê (fun(M:Int) N=>Ŝ a (Ó b) b M (fun O=>N O) (fun _=>ck (a+(1:Int)) fun P=>d c e P b) (fun _=>Ê (fun(r:f4) Q=>ś a g (Ó g) h i j k l m n o p r.1 r.2 (fun R S=>Q (R,S)) (fun T=>ck (a+(1:Int)) fun U=>d c e U T) (fun V=>ck (a+(1:Int)) fun W=>d f a W V)) ((0:Int),b))) (0:Int)) (ck (a+(1:Int)) fun X=>d c e X b))) (0:Int)) (Ê (fun(Y:Int) Z=>Ŝ a (Ó b) b Y (fun dc=>Z dc) (fun _=>ck (a+(1:Int)) fun de=>d c e de b) (fun _=>Ê (fun(s:f4) df=>ś a g (Ó g) h i j k l m n o p s.1 s.2 (fun dg dh=>df (dg,dh)) (fun di=>ck (a+(1:Int)) fun dj=>d c e dj di) (fun dk=>ck (a+(1:Int)) fun dl=>d f a dl dk)) ((0:Int),b))) (0:Int)))) (u (e,b))
def zL (a:a8) (b:an) (k:lA->BY ρ):BY ρ :=
  Ã (Ω a) fun g=>ifb (ine g 0) (k ([],g)) (ifb (igt (Ó b) 8) (k ([],(2:Int))) (Ê (fun(h:Int) i=>iI b (Ó b) a.1.2.2.2.2.1 h (fun j=>i j) (fun l=>k ([],l)) (fun _=>Ê (fun(m:Int) n=>jP b m (fun o=>n o) (fun p=>k ([],p)) (fun _=>Ã (uw a) fun d=>à (ile 0 (Ó b)) (ck ((al4 .i64 (1:Int) (Ó b))-(1:Int)) fun c=>Ê (fun(q:Int) r=>jO d (Ó d) a.1.1.1 a.1.1.2 a.1.2.1 a.1.2.2.1 a.1.2.2.2.1 a.1.2.2.2.2.1 a.1.2.2.2.2.2 a.2 b c q (fun s=>r s) (fun t=>ifb t.2 (k ([],(5:Int))) (Ê (fun(e:(Val (.pair ab bf))) u=>Ÿ d c b a.1.1.1 a.1.1.2 a.1.2.1 a.1.2.2.1 a.1.2.2.2.1 a.1.2.2.2.2.1 a.1.2.2.2.2.2 a.2 e.1 e.2.1 e.2.2.1 e.2.2.2 (fun v w x y=>u (v,w,x,y)) (fun z=>Ã (jD b z.1) fun A=>k (A,(0:Int)))) (b,c,(0:Int),[]))) (fun _=>Ê (fun(f:(Val (.pair ab bf))) B=>Ÿ d c b a.1.1.1 a.1.1.2 a.1.2.1 a.1.2.2.1 a.1.2.2.2.1 a.1.2.2.2.2.1 a.1.2.2.2.2.2 a.2 f.1 f.2.1 f.2.2.1 f.2.2.2 (fun C D E F=>B (C,D,E,F)) (fun G=>Ã (jD b G.1) fun H=>k (H,(0:Int)))) (b,c,(0:Int),[]))) (0:Int)))) (1:Int))) (0:Int)))
def po (a:a8) (b:an):BY (lA):=zL a b some
def lQ (b:an) (c:an) (a:Int) (d:Int->BY ρ) (e:Bool->BY ρ) (f:Unit->BY ρ):BY ρ :=
  ifb (ilt a (Ó b)) (ð b a fun g=>ð c a fun h=>ifb (ine g h) (e false) (ck (a+(1:Int)) fun i=>d i)) (f ())
def G8 (a:an) (b:an) (k:Bool->BY ρ):BY ρ :=
  ifb (ine (Ó a) (Ó b)) (k false) (Ê (fun(c:Int) d=>lQ a b c (fun e=>d e) (fun f=>k f) (fun _=>k true)) (0:Int))
def Ĩ (a:an) (b:an):BY (Bool):=G8 a b some
def EC (a:a7) (y:b5) (b:a7->BY ρ):BY ρ :=
  à (ã ((List.length a)+(List.length ([y])))) (b (a++([y])))
def wX (c:Int) (d:Int) (e:Int) (f:fy) (g:bx) (h:fx) (i:c7) (j:bx) (k:c9) (b:a7) (a:Int) (l:Int->BY ρ) (m:Int->BY ρ) (n:Unit->BY ρ):BY ρ :=
  ifb (ilt a c) (à ((ile 0 a)&&(ilt a (ì b))) (Į b (Int.toNat a) fun o=>Ã (Χ (((d,e),f,g,h,i,j),k) o) fun p=>ifb (!p) (m a) (ck (a+(1:Int)) fun q=>l q))) (n ())
def nJ (f:Int) (g:Int) (h:fy) (i:bx) (j:fx) (k:c7) (l:bx) (m:c9) (b:Int) (c:Int) (a:a7) (d:Int->Int->a7->BY ρ) (n:io->BY ρ):BY ρ :=
  ifb (ilt c (Ó a)) (à ((ile 0 c)&&(ilt c (ì a))) (Į a (Int.toNat c) fun e=>Ã (Χ (((f,g),h,i,j,k,l),m) e) fun o=>ifb (!(!o)) (à ((ile 0 b)&&(ilt b (ì a))) (Į a (Int.toNat b) fun s=>ck (b+(1:Int)) fun p=>ck (c+(1:Int)) fun q=>d p q (List.set a (Int.toNat b) e))) (ck (c+(1:Int)) fun r=>d b r a))) (n (b,a))
def Vk (b:a8) (k:a7->BY ρ):BY ρ :=
  Ã (nV b.2) fun g=>AO (fun(h:a7) (i:b5) j=>EC h i (fun l=>j l)) g ([]) (fun f=>Ã (ļ f (Ó f) b) fun c=>Ê (fun(m:Int) n=>wX (Ó c.1) b.1.1.1 b.1.1.2 b.1.2.1 b.1.2.2.1 b.1.2.2.2.1 b.1.2.2.2.2.1 b.1.2.2.2.2.2 b.2 c.1 m (fun o=>n o) (fun d=>ifb (ieq d (-1:Int)) (k c.1) (ck (d+(1:Int)) fun p=>Ê (fun(e:xl) q=>nJ b.1.1.1 b.1.1.2 b.1.2.1 b.1.2.2.1 b.1.2.2.2.1 b.1.2.2.2.2.1 b.1.2.2.2.2.2 b.2 e.1 e.2.1 e.2.2 (fun r s t=>q (r,s,t)) (fun a=>à ((ile 0 a.1)&&(ile a.1 (ì a.2))) (à ((ile 0 a.1)&&(ile a.1 (ì (List.take (Int.toNat a.1) a.2++List.replicate (List.length a.2-(Int.toNat a.1)) ([])++List.drop ((Int.toNat a.1)+(List.length a.2-(Int.toNat a.1))) a.2)))) (k (List.take (Int.toNat a.1) (List.drop 0 (List.take (Int.toNat a.1) a.2++List.replicate (List.length a.2-(Int.toNat a.1)) ([])++List.drop ((Int.toNat a.1)+(List.length a.2-(Int.toNat a.1))) a.2))))))) (d,p,c.1))) (fun _=>k c.1)) (0:Int))
def Ie (a:a8):BY (a7):=Vk a some
def Zn (a:b6) (d:bl) (k:bl->BY ρ):BY ρ :=
  Ã (ζ a) fun b=>ifb (ine b 0) (k ((0:Int),b)) (Ã (sg a) fun e=>Ã (ú e d) fun c=>ifb (ilt c 0) (k ((0:Int),(5:Int))) (ck (c+(1:Int)) fun f=>k (f,(0:Int))))
def sh (a:b6) (b:bl):BY bl:=Zn a b some
def xE (f:Int) (a:Int) (c:c7) (g:Int->c7->BY ρ) (h:c7->BY ρ):BY ρ :=
  ifb (ilt a f) (à ((ile 0 a)&&(ilt a (ì c))) (Į c (Int.toNat a) fun d=>à (ã (List.length d.2.2.1)) (à (ã (List.length d.2.2.2.1)) (à ((ile 0 a)&&(ilt a (ì c))) (Į c (Int.toNat a) fun b=>à ((ile 0 a)&&(ilt a (ì (List.set c (Int.toNat a) (b.1,b.2.1,d.2.2.1,b.2.2.2))))) (Į (List.set c (Int.toNat a) (b.1,b.2.1,d.2.2.1,b.2.2.2)) (Int.toNat a) fun e=>ck (a+(1:Int)) fun i=>g i (List.set (List.set c (Int.toNat a) (b.1,b.2.1,d.2.2.1,b.2.2.2)) (Int.toNat a) (e.1,e.2.1,e.2.2.1,d.2.2.2.1,e.2.2.2.2)))))))) (h c)
def ada (a:b6) (b:bl) (k:An->BY ρ):BY ρ :=
  Ã (ζ a) fun c=>ifb (ine c 0) (k ((((0:Int),(0:Int)),[],[],[],[],[]),c)) (à (ã (List.length a.2.1)) (à (ã (List.length a.2.2.1)) (à (ã (List.length a.2.2.2.1)) (à (ã (List.length a.2.2.2.2.2)) (à (ã (List.length a.2.2.2.2.1)) (Ê (fun(d:BE) g=>xE (Ó a.2.2.2.2.1) d.1 d.2 (fun h i=>g (h,i)) (fun e=>à (ã ((List.length a.2.2.2.2.2)+(List.length ([b])))) (Ã (ζ (a.1,a.2.1,a.2.2.1,a.2.2.2.1,e,(a.2.2.2.2.2++([b])))) fun f=>ifb (ine f 0) (k ((((0:Int),(0:Int)),[],[],[],[],[]),f)) (k ((a.1,a.2.1,a.2.2.1,a.2.2.2.1,e,(a.2.2.2.2.2++([b]))),(0:Int)))))) ((0:Int),a.2.2.2.2.1)))))))
def Mu (a:b6) (b:bl):BY (An):=ada a b some
def tY (b:an) (c:Int) (d:Int) (e:ge) (a:Int) (f:Int->BY ρ) (g:Int->BY ρ) (h:Unit->BY ρ):BY ρ :=
  ifb (ilt a c) (ð b a fun i=>Ã (BQ (d,e) i) fun j=>ifb (!j) (g (1:Int)) (ck (a+(1:Int)) fun k=>f k)) (h ())
def Y6 (a:im) (b:an) (k:Int->BY ρ):BY ρ :=
  Ã (se a) fun c=>ifb (ine c.1 0) (k c.1) (Ê (fun(d:Int) e=>tY b (Ó b) a.1 a.2 d (fun f=>e f) (fun g=>k g) (fun _=>Ã (mg a ([])) fun h=>ifb (!h.2) (k (9:Int)) (k (0:Int)))) (0:Int))
def Iw (a:im) (b:an):BY (Int):=Y6 a b some
def ql (c:Int) (a:Int) (b:an) (d:Int->an->BY ρ) (e:an->BY ρ):BY ρ :=
  ifb (ilt a c) (à ((ile 0 a)&&(ilt a (ì b))) (Į b (Int.toNat a) fun g=>ck (a+(1:Int)) fun f=>d f (List.set b (Int.toNat a) (1152921504606846976:Int)))) (e b)
def xq (c:ge) (d:Int) (b:Int) (a:Int) (e:Int->Int->BY ρ) (f:Int->BY ρ):BY ρ :=
  ifb (ilt a d) (ð c a fun g=>ck (b+(abf g.2.2 (0:Int))) fun h=>ck (a+(1:Int)) fun i=>e h i) (f b)
def xp (f:Int) (d:an) (a:Int) (b:wl) (c:an) (e:Int->wl->an->BY ρ) (g:Val aU->BY ρ):BY ρ :=
  ifb (ilt a f) (à ((ile 0 a)&&(ilt a (ì d))) (Į d (Int.toNat a) fun h=>ifb (ine h 1152921504606846976) (à (ã ((List.length c)+(List.length ([a])))) (à ((ile 0 a)&&(ilt a (ì b))) (Į b (Int.toNat a) fun k=>ck (a+(1:Int)) fun i=>e i (List.set b (Int.toNat a) true) (c++([a]))))) (ck (a+(1:Int)) fun j=>e j b c))) (g (b,c))
def Hl (m:Val au) (j:Int) (d:Int) (n:ge) (o:Int) (f:Int) (b:an) (c:wl) (e:an) (g:Int->an->wl->an->BY ρ) (l:(Val (.pair .bool (.pair ab aU)))->BY ρ) (p:(Val (.pair ab aU))->BY ρ):BY ρ :=
  ifb (ilt f o) (ð n f fun a=>ifb (ine a.1 d) (ck (f+(1:Int)) fun q=>g q b c e) (QH (k:=tI) (v:=.bool) f m (fun r=>ifb r (ck (f+(1:Int)) fun s=>g s b c e) (à ((ile 0 d)&&(ilt d (ì b))) (Į b (Int.toNat d) fun t=>ck (t+a.2.2) fun u=>à ((ile 0 a.2.1)&&(ilt a.2.1 (ì b))) (Į b (Int.toNat a.2.1) fun w=>ifb (ige u w) (ck (f+(1:Int)) fun x=>g x b c e) (à ((ile 0 d)&&(ilt d (ì b))) (Į b (Int.toNat d) fun y=>ck (y+a.2.2) fun h=>à ((ile 0 a.2.1)&&(ilt a.2.1 (ì b))) (Į b (Int.toNat a.2.1) fun M=>à ((ile 0 a.2.1)&&(ilt a.2.1 (ì (List.set b (Int.toNat a.2.1) h)))) (Į (List.set b (Int.toNat a.2.1) h) (Int.toNat a.2.1) fun z=>ifb (ilt z j) (l (false,(List.set b (Int.toNat a.2.1) h),c,e)) (à ((ile 0 a.2.1)&&(ilt a.2.1 (ì c))) (Į c (Int.toNat a.2.1) fun A=>ifb (!A) (à (ã ((List.length e)+(List.length ([a.2.1])))) (à ((ile 0 a.2.1)&&(ilt a.2.1 (ì c))) (Į c (Int.toNat a.2.1) fun N=>ck (f+(1:Int)) fun B=>g B (List.set b (Int.toNat a.2.1) h) (List.set c (Int.toNat a.2.1) true) (e++([a.2.1]))))) (ck (f+(1:Int)) fun C=>g C (List.set b (Int.toNat a.2.1) h) c e))))))))))) (à ((ile 0 d)&&(ilt d (ì b))) (Į b (Int.toNat d) fun D=>ck (D+a.2.2) fun E=>à ((ile 0 a.2.1)&&(ilt a.2.1 (ì b))) (Į b (Int.toNat a.2.1) fun F=>ifb (ige E F) (ck (f+(1:Int)) fun G=>g G b c e) (à ((ile 0 d)&&(ilt d (ì b))) (Į b (Int.toNat d) fun H=>ck (H+a.2.2) fun i=>à ((ile 0 a.2.1)&&(ilt a.2.1 (ì b))) (Į b (Int.toNat a.2.1) fun O=>à ((ile 0 a.2.1)&&(ilt a.2.1 (ì (List.set b (Int.toNat a.2.1) i)))) (Į (List.set b (Int.toNat a.2.1) i) (Int.toNat a.2.1) fun I=>ifb (ilt I j) (l (false,(List.set b (Int.toNat a.2.1) i),c,e)) (à ((ile 0 a.2.1)&&(ilt a.2.1 (ì c))) (Į c (Int.toNat a.2.1) fun J=>ifb (!J) (à (ã ((List.length e)+(List.length ([a.2.1])))) (à ((ile 0 a.2.1)&&(ilt a.2.1 (ì c))) (Į c (Int.toNat a.2.1) fun P=>ck (f+(1:Int)) fun K=>g K (List.set b (Int.toNat a.2.1) i) (List.set c (Int.toNat a.2.1) true) (e++([a.2.1]))))) (ck (f+(1:Int)) fun L=>g L (List.set b (Int.toNat a.2.1) i) c e)))))))))))) (p (b,c,e))
def xo (l:Val au) (m:Int) (n:Int) (k:ge) (h:an) (d:wl) (b:an) (c:an) (o:an->wl->an->an->BY ρ) (i:(Val (.pair .bool aV))->BY ρ):BY ρ :=
  ifb (ieq (Ó c) 0) (i (true,h,d,b,c)) (à (ilt 0 (ì c)) (Į c 0 fun a=>à (ile 1 (ì c)) (à (decide (1+(List.length c-1)=List.length c)) (à ((ile 0 a)&&(ilt a (ì d))) (Į d (Int.toNat a) fun x=>à ((ile 0 a)&&(ilt a (ì b))) (Į b (Int.toNat a) fun p=>ck (p+(1:Int)) fun e=>à ((ile 0 a)&&(ilt a (ì b))) (Į b (Int.toNat a) fun y=>à ((ile 0 a)&&(ilt a (ì (List.set b (Int.toNat a) e)))) (Į (List.set b (Int.toNat a) e) (Int.toNat a) fun q=>ck (n+(1:Int)) fun r=>ifb (igt q r) (i (false,h,(List.set d (Int.toNat a) false),(List.set b (Int.toNat a) e),(List.drop 1 c))) (Ê (fun(f:nj) s=>Hl l m a k (Ó k) f.1 f.2.1 f.2.2.1 f.2.2.2 (fun t u v w=>s (t,u,v,w)) (fun g=>i (g.1,g.2.1,g.2.2.1,(List.set b (Int.toNat a) e),g.2.2.2)) (fun j=>o j.1 j.2.1 (List.set b (Int.toNat a) e) j.2.2)) ((0:Int),h,(List.set d (Int.toNat a) false),(List.drop 1 c)))))))))))
def JA (a:im) (i:Val au) (b:Int) (k:an->BY ρ):BY ρ :=
  à ((ile 0 a.1)&&(ã (Int.toNat a.1))) (Ê (fun(f:f4) j=>ql (Ó (List.replicate (Int.toNat a.1) (0:Int))) f.1 f.2 (fun l m=>j (l,m)) (fun c=>à ((ile 0 b)&&(ilt b (ì c))) (Į c (Int.toNat b) fun B=>à ((ile 0 a.1)&&(ã (Int.toNat a.1))) (à ((ile 0 a.1)&&(ã (Int.toNat a.1))) (Ê (fun(g:bl) n=>xq a.2 (Ó a.2) g.1 g.2 (fun o p=>n (o,p)) (fun q=>Ê (fun(e:y6) r=>xp a.1 (List.set c (Int.toNat b) (0:Int)) e.1 e.2.1 e.2.2 (fun s t u=>r (s,t,u)) (fun h=>Ê (fun(d:Val aV) v=>xo i q a.1 a.2 d.1 d.2.1 d.2.2.1 d.2.2.2 (fun w x y z=>v (w,x,y,z)) (fun A=>k A.2.1)) ((List.set c (Int.toNat b) (0:Int)),h.1,(List.replicate (Int.toNat a.1) (0:Int)),h.2))) ((0:Int),(List.replicate (Int.toNat a.1) false),[]))) ((0:Int),(0:Int))))))) ((0:Int),(List.replicate (Int.toNat a.1) (0:Int))))
def wx (a:im) (b:Val au) (c:Int):BY (an):=JA a b c some
def t7 (c:Int) (d:Int) (e:ge) (a:Int) (b:an) (f:Int->an->BY ρ) (g:an->BY ρ):BY ρ :=
  ifb (ilt a c) (Ã (wx (d,e) ([]) a) fun h=>ð h (0:Int) fun i=>à ((ile 0 a)&&(ilt a (ì b))) (Į b (Int.toNat a) fun k=>ck (a+(1:Int)) fun j=>f j (List.set b (Int.toNat a) i))) (g b)
def tZ (f:an) (g:Int) (c:an) (a:Int) (b:bx) (h:Int->bx->BY ρ) (i:bx->BY ρ):BY ρ :=
  ifb (ilt a g) (à ((ile 0 a)&&(ilt a (ì c))) (Į c (Int.toNat a) fun j=>ck (0-j) fun d=>ð f a fun e=>à (ã ((List.length b)+(List.length ([(d,e)])))) (ck (a+(1:Int)) fun k=>h k (b++([(d,e)]))))) (i b)
def Y7 (a:im) (k:(Val (.pair aa tI))->BY ρ):BY ρ :=
  Ã (Iw a ([])) fun b=>ifb (ine b 0) (k ([],b)) (Ã (wx a ([]) (0:Int)) fun c=>à ((ile 0 a.1)&&(ã (Int.toNat a.1))) (Ê (fun(d:f4) f=>t7 (Ó (List.replicate (Int.toNat a.1) (0:Int))) a.1 a.2 d.1 d.2 (fun g h=>f (g,h)) (fun i=>Ê (fun(e:nm) j=>tZ c (Ó c) i e.1 e.2 (fun l m=>j (l,m)) (fun n=>k (n,(0:Int)))) ((0:Int),[]))) ((0:Int),(List.replicate (Int.toNat a.1) (0:Int)))))
def wy (a:im):BY ((Val (.pair aa tI))):=Y7 a some
def Ti (a:b6) (b:bl) (k:l7->BY ρ):BY ρ :=
  Ã (sh a b) fun f=>ifb (ine f.2 0) (Ã (Mu a b) fun c=>ifb (ine c.2 0) (k (((0:Int),(0:Int)),c.2)) (Ã (sh c.1 b) fun g=>Ã (jG c.1) fun h=>Ã (wy h.1) fun d=>ifb (ine d.2 0) (k (((0:Int),(0:Int)),d.2)) (ð d.1 g.1 fun i=>k (i,(0:Int))))) (Ã (sh a b) fun j=>Ã (jG a) fun l=>Ã (wy l.1) fun e=>ifb (ine e.2 0) (k (((0:Int),(0:Int)),e.2)) (ð e.1 j.1 fun m=>k (m,(0:Int))))
def BC (a:b6) (b:bl):BY l7:=Ti a b some
def pY (r:Int) (e:Int) (s:a7) (t:Int) (f:Int) (g:Int) (h:fy) (i:bx) (j:fx) (l:c7) (m:bx) (n:c9) (c:Int) (a:Val aY) (o:Int->Val aY->BY ρ) (u:(Val (.pair tI aY))->BY ρ) (w:Val aY->BY ρ):BY ρ :=
  ifb (ilt c t) (ð s c fun p=>Ã (uQ (((f,g),h,i,j,l,m),n) p r e) fun d=>Ã (jm (((f,g),h,i,j,l,m),n) p) fun x=>Ã (BC x (d,e)) fun b=>ifb (ine b.2 0) (u (b.2,a)) (QH (k:=tI) (v:=Ç) d a (fun q=>ck (c+(1:Int)) fun y=>o y (Tb (k:=tI) (v:=Ç) d ((abf b.1.1 q.1),(R0 b.1.2 q.2)) a)) (ck (c+(1:Int)) fun z=>o z (Tb (k:=tI) (v:=Ç) d b.1 a)))) (w a)
def pX (f:fy) (g:Int) (h:Val aY) (a:Int) (b:ge) (d:Int->ge->BY ρ) (i:ge->BY ρ):BY ρ :=
  ifb (ilt a g) (ð f a fun c=>QH (k:=tI) (v:=Ç) c.1 h (fun e=>à (ã ((List.length b)+(List.length ([(c.1,e)])))) (ck (a+(1:Int)) fun j=>d j (b++([(c.1,e)])))) (ck (a+(1:Int)) fun l=>d l b)) (i b)
def Tk (a:a8) (c:Int) (d:Int) (k:(Val (.pair am tI))->BY ρ):BY ρ :=
  Ã (Ω a) fun e=>ifb (ine e 0) (k ([],e)) (Ã (wq a c d) fun f=>ifb (ine f 0) (k ([],f)) (Ã (Ie a) fun b=>ifb (ieq (Ó b) 0) (k ([],(5:Int))) (Ê (fun(g:(Val (.pair tI aY))) i=>pY c d b (Ó b) a.1.1.1 a.1.1.2 a.1.2.1 a.1.2.2.1 a.1.2.2.2.1 a.1.2.2.2.2.1 a.1.2.2.2.2.2 a.2 g.1 g.2 (fun j l=>i (j,l)) (fun m=>k ([],m.1)) (fun n=>Ê (fun(h:im) o=>pX a.1.2.1 (Ó a.1.2.1) n h.1 h.2 (fun p q=>o (p,q)) (fun r=>k (r,(0:Int)))) ((0:Int),[]))) ((0:Int),[]))))
def BD (a:a8) (b:Int) (c:Int):BY ((Val (.pair am tI))):=Tk a b c some
def Br (c:Int) (a:Int) (b:an) (d:Int->an->BY ρ) (e:an->BY ρ):BY ρ :=
  ifb (ilt a c) (à ((ile 0 a)&&(ilt a (ì b))) (Į b (Int.toNat a) fun g=>ck (a+(1:Int)) fun f=>d f (List.set b (Int.toNat a) (1152921504606846976:Int)))) (e b)
def VD (c:Int) (a:Int) (b:an) (d:Int->an->BY ρ) (e:an->BY ρ):BY ρ :=
  ifb (ilt a c) (à ((ile 0 a)&&(ilt a (ì b))) (Į b (Int.toNat a) fun g=>ck (a+(1:Int)) fun f=>d f (List.set b (Int.toNat a) (1152921504606846976:Int)))) (e b)
def Hk (d:an) (f:ge) (g:Int) (c:Int) (b:an) (e:Int->an->BY ρ) (h:an->BY ρ):BY ρ :=
  ifb (ilt c g) (ð f c fun a=>ð d a.2.1 fun i=>ifb (ine i 1152921504606846976) (à ((ile 0 a.1)&&(ilt a.1 (ì b))) (Į b (Int.toNat a.1) fun j=>ð d a.2.1 fun k=>ck (a.2.2+k) fun l=>à ((ile 0 a.1)&&(ilt a.1 (ì b))) (Į b (Int.toNat a.1) fun o=>ck (c+(1:Int)) fun m=>e m (List.set b (Int.toNat a.1) (abf j l))))) (ck (c+(1:Int)) fun n=>e n b)) (h b)
def Mb (i:Int) (b:Int) (d:ge) (e:Int) (a:b5) (j:Int->b5->BY ρ) (k:b5->BY ρ):BY ρ :=
  ifb (ilt e i) (ck ((Ó a)-(1:Int)) fun c=>à ((ile 0 c)&&(ilt c (ì a))) (Į a (Int.toNat c) fun l=>à ((ile 0 b)&&(ã (Int.toNat b))) (Ê (fun(f:f4) m=>VD (Ó (List.replicate (Int.toNat b) (0:Int))) f.1 f.2 (fun n o=>m (n,o)) (fun p=>Ê (fun(g:f4) q=>Hk l d (Ó d) g.1 g.2 (fun r s=>q (r,s)) (fun h=>à (ã ((List.length a)+(List.length ([h])))) (ck (e+(1:Int)) fun t=>j t (a++([h]))))) ((0:Int),p))) ((0:Int),(List.replicate (Int.toNat b) (0:Int)))))) (k a)
def Y5 (a:im) (b:Int) (f:Int) (k:b5->BY ρ):BY ρ :=
  à ((ile 0 a.1)&&(ã (Int.toNat a.1))) (Ê (fun(d:f4) g=>Br (Ó (List.replicate (Int.toNat a.1) (0:Int))) d.1 d.2 (fun h i=>g (h,i)) (fun c=>à ((ile 0 b)&&(ilt b (ì c))) (Į c (Int.toNat b) fun o=>Ê (fun(e:px) j=>Mb f a.1 a.2 e.1 e.2 (fun l m=>j (l,m)) (fun n=>k n)) ((0:Int),[(List.set c (Int.toNat b) (0:Int))])))) ((0:Int),(List.replicate (Int.toNat a.1) (0:Int))))
def Iv (a:im) (b:Int) (c:Int):BY (b5):=Y5 a b c some
def oZ (d:Int) (c:Int) (e:ge) (a:Int) (b:a7) (f:Int->a7->BY ρ) (g:a7->BY ρ):BY ρ :=
  ifb (ilt a d) (Ã (Iv (c,e) a c) fun h=>à ((ile 0 a)&&(ilt a (ì b))) (Į b (Int.toNat a) fun j=>ck (a+(1:Int)) fun i=>f i (List.set b (Int.toNat a) h))) (g b)
def Ky (g:Int) (h:b5) (j:ge) (k:Int) (e:Int) (b:Int) (a:Int) (c:an) (f:Int->Int->Int->an->BY ρ) (i:Val bf->BY ρ):BY ρ :=
  ifb (ilt a k) (ð j a fun d=>ifb (ieq d.1 e) (ck (g-(1:Int)) fun l=>ð h l fun m=>ð m d.2.1 fun n=>ifb (ine n 1152921504606846976) (ck (b+d.2.2) fun o=>ck (g-(1:Int)) fun p=>ð h p fun q=>ð q d.2.1 fun r=>ck (o+r) fun s=>ifb (ilt s 0) (à (ã ((List.length c)+(List.length ([a])))) (ck (b+d.2.2) fun t=>i (d.2.1,t,(c++([a]))))) (ck (a+(1:Int)) fun u=>f e b u c)) (ck (a+(1:Int)) fun v=>f e b v c)) (ck (a+(1:Int)) fun w=>f e b w c)) (i (e,b,c))
def AC (f:b5) (d:ge) (g:Int) (b:Int) (h:Int) (e:an) (i:Int->Int->Int->an->BY ρ) (j:an->BY ρ):BY ρ :=
  ifb (igt b 0) (Ê (fun(a:y9) k=>Ky b f d (Ó d) a.1 a.2.1 a.2.2.1 a.2.2.2 (fun l m n o=>k (l,m,n,o)) (fun c=>ck (b-(1:Int)) fun p=>i c.1 p c.2.1 c.2.2)) (g,h,(0:Int),e)) (j e)
def oY (e:Int) (h:ge) (i:Int) (j:Int) (k:ge) (b:a7) (c:Int) (f:Int->BY ρ) (l:Unit->BY ρ) (m:f4->BY ρ) (n:Unit->BY ρ):BY ρ :=
  ifb (ilt c i) (ð h c fun a=>à ((ile 0 a.1)&&(ilt a.1 (ì b))) (Į b (Int.toNat a.1) fun o=>ck (e-(1:Int)) fun p=>ð o p fun q=>ð q a.2.1 fun g=>ifb (ieq g 1152921504606846976) (ck (c+(1:Int)) fun r=>f r) (ck (a.2.2+g) fun s=>ifb (ige s 0) (ck (c+(1:Int)) fun t=>f t) (ifb (igt e j) (l ()) (à ((ile 0 a.1)&&(ilt a.1 (ì b))) (Į b (Int.toNat a.1) fun u=>Ê (fun(d:y9) v=>AC u k d.1 d.2.1 d.2.2.1 d.2.2.2 (fun w x y z=>v (w,x,y,z)) (fun A=>m ((0:Int),A))) (a.1,e,(0:Int),[]))))))) (n ())
def t8 (d:Int) (a:ge) (e:a7) (b:Int) (f:Int->BY ρ) (g:Unit->BY ρ) (h:f4->BY ρ):BY ρ :=
  Ê (fun(i:Int) j=>oY b a (Ó a) d a e i (fun k=>j k) (fun _=>g ()) (fun c=>h (c.1,c.2)) (fun _=>ck (b+(1:Int)) fun l=>f l)) (0:Int)
def Pa (a:im) (k:lA->BY ρ):BY ρ :=
  Ã (se a) fun b=>ifb (ine b.1 0) (k ([],b.1)) (Ã (mg a ([])) fun e=>ifb e.2 (k ([],(5:Int))) (à ((ile 0 a.1)&&(ã (Int.toNat a.1))) (Ê (fun(c:io) f=>oZ (Ó (List.replicate (Int.toNat a.1) ([]:b5))) a.1 a.2 c.1 c.2 (fun g h=>f (g,h)) (fun i=>Ê (fun(j:Int) l=>t8 a.1 a.2 i j (fun m=>l m) (fun _=>k ([],(5:Int))) (fun d=>k (d.2,d.1))) (1:Int))) ((0:Int),(List.replicate (Int.toNat a.1) ([]:b5))))))
def pq (a:im):BY (lA):=Pa a some
def tr (d:a7) (e:Int) (f:Int) (g:Int) (h:fy) (i:bx) (j:fx) (k:c7) (l:bx) (m:c9) (b:Int) (a:b5) (n:Int->b5->BY ρ) (o:px->BY ρ) (p:b5->BY ρ):BY ρ :=
  ifb (ilt b e) (ð d b fun q=>Ã (jm (((f,g),h,i,j,k,l),m) q) fun r=>Ã (jG r) fun s=>Ã (pq s.1) fun c=>ifb (ine c.2 0) (o ((5:Int),a)) (à (ã ((List.length a)+(List.length ([c.1])))) (ck (b+(1:Int)) fun t=>n t (a++([c.1]))))) (p a)
def Yw (a:a8) (k:rm->BY ρ):BY ρ :=
  Ã (Ω a) fun b=>ifb (ine b 0) (k ([],b)) (Ã (uw a) fun c=>Ê (fun(d:px) e=>tr c (Ó c) a.1.1.1 a.1.1.2 a.1.2.1 a.1.2.2.1 a.1.2.2.2.1 a.1.2.2.2.2.1 a.1.2.2.2.2.2 a.2 d.1 d.2 (fun f g=>e (f,g)) (fun h=>k ([],h.1)) (fun i=>k (i,(0:Int)))) ((0:Int),[]))
def Ig (a:a8):BY (rm):=Yw a some
def ot (d:an) (e:Int) (f:ge) (a:Int) (g:Int->BY ρ) (b:Int->BY ρ) (h:Unit->BY ρ):BY ρ :=
  ifb (ilt a e) (ð d a fun c=>ifb (ilt c 0) (b a) (ifb (ige c (Ó f)) (b a) (ck (a+(1:Int)) fun i=>g i))) (h ())
def OY (b:im) (a:an) (k:Int->BY ρ):BY ρ :=
  ifb (igt (Ó a) 80) (k (2:Int)) (Ê (fun(c:Int) d=>ot a (Ó a) b.2 c (fun e=>d e) (fun f=>ifb (ige f 0) (k (1:Int)) (k (0:Int))) (fun _=>k (0:Int))) (0:Int))
def xZ (a:im) (b:an):BY (Int):=OY a b some
def xn (e:an) (f:Int) (g:ge) (c:Int) (d:Int) (a:Int) (h:Int->Int->Int->BY ρ) (i:qs->BY ρ) (j:bl->BY ρ):BY ρ :=
  ifb (ilt a f) (ð e a fun k=>ð g k fun b=>ifb (ine b.1 c) (i ((0:Int),(0:Int),false)) (ck (d+b.2.2) fun l=>ck (a+(1:Int)) fun m=>h b.2.1 l m)) (j (c,d))
def ac0 (e:im) (f:Int) (c:an) (k:qs->BY ρ):BY ρ :=
  Ê (fun(a:rx) g=>xn c (Ó c) e.2 a.1 a.2.1 a.2.2 (fun h i j=>g (h,i,j)) (fun b=>k (b.1,b.2.1,b.2.2)) (fun d=>k (d.1,d.2,true))) (f,(0:Int),(0:Int))
def Mq (a:im) (b:Int) (c:an):BY (qs):=ac0 a b c some
def DQ (a:im) (b:an) (k:Int->BY ρ):BY ρ :=
  Ã (se a) fun d=>ifb (ine d.1 0) (k d.1) (Ã (xZ a b) fun e=>ifb (ine e 0) (k e) (ifb (ieq (Ó b) 0) (k (8:Int)) (ð b (0:Int) fun g=>ð a.2 g fun f=>Ã (Mq a f.1 b) fun c=>ifb (!c.2.2) (k (8:Int)) (ifb (ine c.1 f.1) (k (8:Int)) (ifb (ige c.2.1 0) (k (8:Int)) (k (0:Int)))))))
def ox (a:im) (b:an):BY (Int):=DQ a b some
def ks (b:b5) (c:a7) (d:Int) (e:Int) (f:Int) (g:fy) (h:bx) (i:fx) (j:c7) (k:bx) (l:c9) (a:Int) (m:Int->BY ρ) (n:Int->BY ρ) (o:Unit->BY ρ):BY ρ :=
  ifb (ilt a d) (ð c a fun p=>Ã (jm (((e,f),g,h,i,j,k),l) p) fun q=>Ã (jG q) fun r=>ð b a fun s=>Ã (ox r.1 s) fun t=>ifb (ine t 0) (n (8:Int)) (ck (a+(1:Int)) fun u=>m u)) (o ())
def C5 (a:a8) (c:b5) (k:Int->BY ρ):BY ρ :=
  Ã (Ω a) fun d=>ifb (ine d 0) (k d) (Ã (uw a) fun b=>ifb (ine (Ó c) (Ó b)) (k (8:Int)) (Ê (fun(e:Int) f=>ks c b (Ó b) a.1.1.1 a.1.1.2 a.1.2.1 a.1.2.2.1 a.1.2.2.2.1 a.1.2.2.2.2.1 a.1.2.2.2.2.2 a.2 e (fun g=>f g) (fun h=>k h) (fun _=>k (0:Int))) (0:Int)))
def lD (a:a8) (b:b5):BY (Int):=C5 a b some
def acL (a:a8) (k:At->BY ρ):BY ρ :=
  Ã (Ω a) fun b=>ifb (ine b 0) (k ([],b)) (Ã (uw a) fun c=>k (c,(0:Int)))
def Mm (a:a8):BY (At):=acL a some
def Ym (a:c7) (k:a8->BY ρ):BY ρ :=
  à (ã ((List.length ([((7:Int),(10:Int),[(1:Int)],[(2:Int)],(-20:Int),(1:Int),(100:Int),(200:Int))]))+(List.length a))) (k ((((0:Int),(2:Int)),[((1:Int),(0:Int),(1000:Int),((-5:Int),(5:Int)),((1:Int),(10:Int)),(1:Int)),((2:Int),(0:Int),(1000:Int),((-50:Int),(50:Int)),((1:Int),(4:Int)),(0:Int)),((3:Int),(0:Int),(1100:Int),((-1:Int),(1:Int)),((0:Int),(1:Int)),(0:Int))],[((1:Int),(10:Int))],[((1:Int),((20:Int),(29:Int)),(3:Int))],(([((7:Int),(10:Int),[(1:Int)],[(2:Int)],(-20:Int),(1:Int),(100:Int),(200:Int))])++a),[]),[((12:Int),[(2:Int),(3:Int)])]))
def ů (a:c7):BY a8:=Ym a some
def ahn (a:a8) (k:At->BY ρ):BY ρ :=
  Ã (Ω a) fun b=>ifb (ine b 0) (k ([],b)) (Ã (Ie a) fun c=>k (c,(0:Int)))
def We (a:a8):BY (At):=ahn a some
def Yx (a:a8) (k:rm->BY ρ):BY ρ :=
  Ã (Ω a) fun b=>ifb (ine b 0) (k ([],b)) (Ã (û a) fun c=>ifb (!c.2) (k ([],(5:Int))) (k (c.1,(0:Int))))
def Ih (a:a8):BY (rm):=Yx a some
def zE (a:an) (y:Int) (b:an->BY ρ):BY ρ :=
  à (ã ((List.length a)+(List.length ([y])))) (b (a++([y])))
def tf (h:b5) (i:Int) (j:c9) (c:Int) (k:Int->BY ρ) (d:Bool->BY ρ) (l:Unit->BY ρ):BY ρ :=
  ifb (ilt c i) (ð h c fun e=>ð j c fun f=>ifb (ine (Ó e) (Ó f.2)) (d false) (Ã (Bw e) fun m=>AO (fun(n:an) (o:Int) p=>zE n o (fun q=>p q)) m ([]) (fun g=>à (ã (List.length g)) (Ã (Ia (yT g)) fun a=>Ã (Ia f.2) fun b=>ifb (!((oy a.1 b.1)&&((oy a.2.1 b.2.1)&&((oy a.2.2.1 b.2.2.1)&&((oy a.2.2.2.1 b.2.2.2.1)&&((oy a.2.2.2.2 b.2.2.2.2)&&true)))))) (d false) (ck (c+(1:Int)) fun r=>k r))))) (l ())
def NK (b:a8) (a:b5) (k:Bool->BY ρ):BY ρ :=
  ifb (ine (Ó a) (Ó b.2)) (k false) (Ê (fun(c:Int) d=>tf a (Ó a) b.2 c (fun e=>d e) (fun f=>k f) (fun _=>k true)) (0:Int))
def Ib (a:a8) (b:b5):BY (Bool):=NK a b some
def Yv (a:a8) (c:b5) (k:Int->BY ρ):BY ρ :=
  Ã (Ω a) fun b=>ifb (ine b 0) (k b) (Ã (Ib a c) fun d=>ifb (!d) (k (1:Int)) (k (0:Int)))
def If (a:a8) (b:b5):BY (Int):=Yv a b some
def ahl (a:a8) (b:b5) (c:Int) (d:Int) (k:bl->BY ρ):BY ρ :=
  Ã (If a b) fun e=>ifb (ine e 0) (k ((0:Int),e)) (Ã (wq a c d) fun f=>ifb (ine f 0) (k ((0:Int),f)) (Ã (uQ a b c d) fun g=>k (g,(0:Int))))
def Wd (a:a8) (b:b5) (c:Int) (d:Int):BY bl:=ahl a b c d some
def mQ (b:b5) (c:b5) (a:Int) (d:Int->BY ρ) (e:Bool->BY ρ) (f:Unit->BY ρ):BY ρ :=
  ifb (ilt a (Ó b)) (ð b a fun g=>ð c a fun h=>Ã (Ĩ g h) fun i=>ifb (!i) (e false) (ck (a+(1:Int)) fun j=>d j)) (f ())
def Kt (a:b5) (b:b5) (k:Bool->BY ρ):BY ρ :=
  ifb (ine (Ó a) (Ó b)) (k false) (Ê (fun(c:Int) d=>mQ a b c (fun e=>d e) (fun f=>k f) (fun _=>k true)) (0:Int))
def uz (a:b5) (b:b5):BY (Bool):=Kt a b some
def Er (k:Bool->BY ρ):BY ρ :=
  Ã (ů ([])) fun m=>Ã (Mm m) fun b=>Ã (ů ([])) fun n=>Ã (We n) fun f=>Ã (ů ([((8:Int),(15:Int),[(2:Int)],[(1:Int)],(100:Int),(1:Int),(0:Int),(0:Int))])) fun o=>Ã (Ih o) fun g=>Ã (ů ([((8:Int),(15:Int),[(2:Int)],[(1:Int)],(100:Int),(1:Int),(0:Int),(0:Int))])) fun p=>Ã (BD p (2:Int) (15:Int)) fun c=>Ã (ů ([((8:Int),(15:Int),[(2:Int)],[(1:Int)],(100:Int),(1:Int),(0:Int),(0:Int)),((9:Int),(15:Int),[(3:Int)],[],(1100:Int),(0:Int),(0:Int),(0:Int))])) fun a=>Ã (Ii a) fun h=>Ã (po a ([(7:Int),(8:Int),(9:Int)])) fun i=>Ã (mY a (2:Int)) fun j=>ifb (ine b.2 0) (k false) (ifb (ine f.2 0) (k false) (ifb (ine g.2 0) (k false) (ifb (ine c.2 0) (k false) (ifb (ine h.2 0) (k false) (ifb (ine i.2 0) (k false) (ifb (ine j.2 0) (k false) (ifb (ine (Ó b.1) 2) (k false) (ifb (ine (Ó f.1) 2) (k false) (ifb j.1 (k false) (Ã (Ig a) fun d=>ð b.1 (1:Int) fun q=>Ã (Wd a q (2:Int) (13:Int)) fun l=>ifb (ine d.2 0) (k false) (ifb (ine l.2 0) (k false) (ifb (ine l.1 3) (k false) (Ã (lD a d.1) fun r=>ifb (ine r 0) (k false) (Ã (ů ([])) fun s=>Ã (lD s d.1) fun t=>ifb (ine t 8) (k false) (Ã (uz g.1 ([[(3:Int),(2:Int)]])) fun u=>ifb u (ifb (ieq (Ó c.1) 1) (ð c.1 (0:Int) fun e=>ifb ((oy e.1 (3:Int))&&((oy e.2.1 (1099:Int))&&((oy e.2.2 (1101:Int))&&true))) (Ã (Ĩ h.1 ([(8:Int),(9:Int)])) fun v=>ifb v (Ã (Ĩ i.1 ([(8:Int),(9:Int)])) fun w=>k w) (k false)) (k false)) (k false)) (k false))))))))))))))))
def j7:BY (Bool):=Er some
def GC (a:a8) (c:an) (k:Val bg->BY ρ):BY ρ :=
  Ã (Ω a) fun b=>ifb (ine b 0) (k (false,b)) (Ã (xP a c) fun d=>Ã (û d) fun e=>k (e.2,(0:Int)))
def qp (a:a8) (b:an):BY ((Val bg)):=GC a b some
def ahr (a:Int) (b:Int) (c:Int) (k:Bool->BY ρ):BY ρ :=
  ifb (ige a b) (k (ile a c)) (k false)
def lm (a:Int) (b:Int) (c:Int):BY (Bool):=ahr a b c some
def acT (a:Int) (k:Bool->BY ρ):BY ρ :=
  Ã (lm a (0:Int) (20000:Int)) fun b=>k b
def xX (a:Int):BY (Bool):=acT a some
def xj (b:an) (c:Int) (a:Int) (d:Int->BY ρ) (e:Bool->BY ρ) (f:Unit->BY ρ):BY ρ :=
  ifb (ilt a (Ó b)) (ð b a fun g=>ifb (ieq g c) (e true) (ck (a+(1:Int)) fun h=>d h)) (f ())
def acS (a:an) (b:Int) (k:Bool->BY ρ):BY ρ :=
  Ê (fun(c:Int) d=>xj a b c (fun e=>d e) (fun f=>k f) (fun _=>k false)) (0:Int)
def Mo (a:an) (b:Int):BY (Bool):=acS a b some
def tW (c:an) (f:an) (a:Int) (b:an) (d:Int->an->BY ρ) (g:an->BY ρ):BY ρ :=
  ifb (ilt a (Ó c)) (ð c a fun h=>Ã (Mo f h) fun i=>ifb (!i) (ð c a fun e=>à (ã ((List.length b)+(List.length ([e])))) (ck (a+(1:Int)) fun j=>d j (b++([e])))) (ck (a+(1:Int)) fun k=>d k b)) (g b)
def YU (b:an) (c:an) (k:an->BY ρ):BY ρ :=
  Ê (fun(a:f4) d=>tW b c a.1 a.2 (fun e f=>d (e,f)) (fun g=>k g)) ((0:Int),[])
def jx (a:an) (b:an):BY (an):=YU a b some
def acQ (b:an) (c:an) (k:Int->BY ρ):BY ρ :=
  Ã (jx b c) fun a=>ifb (ieq (Ó a) 0) (k (0:Int)) (ð a (0:Int) fun d=>k d)
def qr (a:an) (b:an):BY (Int):=acQ a b some
def tQ (g:Int) (c:c7) (d:Int) (b:Int) (e:Int->BY ρ) (f:Bool->BY ρ) (h:Unit->BY ρ):BY ρ :=
  ifb (ilt b (Ó c)) (ð c b fun a=>ifb (ieq a.2.1 g) (Ã (qr a.2.2.1 a.2.2.2.1) fun i=>ifb (ieq i d) (f true) (Ã (qr a.2.2.2.1 a.2.2.1) fun j=>ifb (ieq j d) (f true) (ck (b+(1:Int)) fun k=>e k))) (ck (b+(1:Int)) fun l=>e l)) (h ())
def oV (d:Int) (b:bx) (e:Int) (a:Int) (c:Int->BY ρ) (f:Bool->BY ρ) (g:Unit->BY ρ):BY ρ :=
  ifb (ilt a (Ó b)) (ð b a fun h=>ifb (ieq h.1 e) (ð b a fun i=>ifb (ieq i.2 d) (f true) (ck (a+(1:Int)) fun j=>c j)) (ck (a+(1:Int)) fun k=>c k)) (g ())
def YM (c:b6) (a:pi) (b:Int) (k:Bool->BY ρ):BY ρ :=
  ifb (ieq a.2.1 b) (k true) (Ê (fun(d:Int) e=>tQ b c.2.2.2.2.1 a.1 d (fun f=>e f) (fun g=>k g) (fun _=>Ê (fun(h:Int) i=>oV b c.2.2.2.2.2 a.1 h (fun j=>i j) (fun l=>k l) (fun _=>k false)) (0:Int))) (0:Int))
def Im (a:b6) (b:pi) (c:Int):BY (Bool):=YM a b c some
def qg (c:fy) (a:Int) (b:an) (e:Int->an->BY ρ) (f:an->BY ρ):BY ρ :=
  ifb (ilt a (Ó c)) (ð c a fun d=>à (ã ((List.length b)+(List.length ([d.2.1])))) (ck (a+(1:Int)) fun g=>e g (b++([d.2.1])))) (f b)
def qf (c:c7) (a:Int) (b:an) (e:Int->an->BY ρ) (f:an->BY ρ):BY ρ :=
  ifb (ilt a (Ó c)) (ð c a fun d=>à (ã ((List.length b)+(List.length ([d.2.1])))) (ck (a+(1:Int)) fun g=>e g (b++([d.2.1])))) (f b)
def qe (c:bx) (a:Int) (b:an) (e:Int->an->BY ρ) (f:an->BY ρ):BY ρ :=
  ifb (ilt a (Ó c)) (ð c a fun d=>à (ã ((List.length b)+(List.length ([d.2])))) (ck (a+(1:Int)) fun g=>e g (b++([d.2])))) (f b)
def mS (e:Int) (b:an) (c:Int) (a:Int) (d:Int->Int->BY ρ) (f:Int->BY ρ):BY ρ :=
  ifb (ilt a (Ó b)) (à ((ile 0 a)&&(ilt a (ì b))) (Į b (Int.toNat a) fun g=>ifb (igt g e) (à ((ile 0 a)&&(ilt a (ì b))) (Į b (Int.toNat a) fun h=>ck (a+(1:Int)) fun i=>d (abf c h) i)) (ck (a+(1:Int)) fun j=>d c j))) (f c)
def mT (e:Int) (i:Int) (j:Int) (c:fy) (k:bx) (l:fx) (m:c7) (n:bx) (o:an) (f:Int) (b:bx) (d:Int->bx->BY ρ) (p:bx->BY ρ):BY ρ :=
  ifb (ilt f 20001) (Ê (fun(g:bl) q=>mS f o g.1 g.2 (fun r s=>q (r,s)) (fun a=>ifb (ilt a 20001) (ð c e fun t=>Ã (Im ((i,j),c,k,l,m,n) t a) fun u=>ifb u (ð c e fun h=>à (ã ((List.length b)+(List.length ([(h.1,a)])))) (d a (b++([(h.1,a)])))) (d a b)) (d a b))) ((20001:Int),(0:Int))) (p b)
def qd (e:Int) (f:Int) (b:fy) (g:bx) (h:fx) (i:c7) (j:bx) (k:an) (a:Int) (c:bx) (l:Int->bx->BY ρ) (m:bx->BY ρ):BY ρ :=
  ifb (ilt a (Ó b)) (Ê (fun(d:nm) n=>mT a e f b g h i j k d.1 d.2 (fun o p=>n (o,p)) (fun q=>ck (a+(1:Int)) fun r=>l r q)) ((-1:Int),c)) (m c)
def Tu (a:b6) (k:bx->BY ρ):BY ρ :=
  Ê (fun(b:f4) f=>qg a.2.1 b.1 b.2 (fun g h=>f (g,h)) (fun i=>Ê (fun(c:f4) j=>qf a.2.2.2.2.1 c.1 c.2 (fun l m=>j (l,m)) (fun n=>Ê (fun(d:f4) o=>qe a.2.2.2.2.2 d.1 d.2 (fun p q=>o (p,q)) (fun r=>Ê (fun(e:nm) s=>qd a.1.1 a.1.2 a.2.1 a.2.2.1 a.2.2.2.1 a.2.2.2.2.1 a.2.2.2.2.2 r e.1 e.2 (fun t u=>s (t,u)) (fun v=>k v)) ((0:Int),[]))) ((0:Int),n))) ((0:Int),i))) ((0:Int),[])
def kK (a:b6):BY (bx):=Tu a some
def qi (b:bx) (d:Int) (e:Int) (a:Int) (f:Int->BY ρ) (g:Int->BY ρ) (h:Unit->BY ρ):BY ρ :=
  ifb (ilt a (Ó b)) (ð b a fun c=>ifb ((oy c.1 d)&&((oy c.2 e)&&true)) (ck (a+(1:Int)) fun i=>g i) (ck (a+(1:Int)) fun j=>f j)) (h ())
def Tv (b:b6) (a:bl) (k:Int->BY ρ):BY ρ :=
  Ã (kK b) fun c=>Ê (fun(d:Int) e=>qi c a.1 a.2 d (fun f=>e f) (fun g=>k g) (fun _=>k (0:Int))) (0:Int)
def kL (a:b6) (b:bl):BY (Int):=Tv a b some
def tX (c:Int) (b:fy) (a:Int) (d:Int->BY ρ) (e:Int->BY ρ) (f:Unit->BY ρ):BY ρ :=
  ifb (ilt a (Ó b)) (ð b a fun g=>ifb (ieq g.1 c) (e a) (ck (a+(1:Int)) fun h=>d h)) (f ())
def YV (a:b6) (b:Int) (k:Int->BY ρ):BY ρ :=
  Ê (fun(c:Int) d=>tX b a.2.1 c (fun e=>d e) (fun f=>k f) (fun _=>k (-1:Int))) (0:Int)
def ke (a:b6) (b:Int):BY (Int):=YV a b some
def tV (j:Int) (h:Int) (i:fx) (b:Int) (c:Int) (d:Int) (e:Int) (f:Int) (g:Int->Int->Int->Int->Int->BY ρ) (k:(Val (.pair .bool (.pair tI Ĥ)))->BY ρ) (l:(Val (.pair tI Ĥ))->BY ρ):BY ρ :=
  ifb (ilt b (Ó i)) (ð i b fun a=>ifb (ieq a.1 j) (ifb (ile a.2.1.1 h) (ifb (ile h a.2.1.2) (k (true,a.1,a.2.1.1,a.2.1.2,a.2.2)) (ck (b+(1:Int)) fun m=>g m c d e f)) (ck (b+(1:Int)) fun n=>g n c d e f)) (ck (b+(1:Int)) fun o=>g o c d e f)) (l (c,d,e,f))
def YT (c:b6) (d:Int) (e:Int) (k:so->BY ρ):BY ρ :=
  Ê (fun(a:Val bo) f=>tV d e c.2.2.2.1 a.1 a.2.1 a.2.2.1 a.2.2.2.1 a.2.2.2.2 (fun g h i j l=>f (g,h,i,j,l)) (fun b=>k ((b.2.1,(b.2.2.1,b.2.2.2.1),b.2.2.2.2),b.1)) (fun m=>k (((0:Int),((0:Int),(0:Int)),(0:Int)),false))) ((0:Int),(0:Int),(0:Int),(0:Int),(0:Int))
def kd (a:b6) (b:Int) (c:Int):BY (so):=YT a b c some
def tR (d:Int) (e:Int) (b:bx) (a:Int) (c:Int->BY ρ) (f:Bool->BY ρ) (g:Unit->BY ρ):BY ρ :=
  ifb (ilt a (Ó b)) (ð b a fun h=>ifb (ieq h.1 d) (ð b a fun i=>ifb (ieq i.2 e) (f true) (ck (a+(1:Int)) fun j=>c j)) (ck (a+(1:Int)) fun k=>c k)) (g ())
def YN (a:b6) (b:Int) (c:Int) (k:Bool->BY ρ):BY ρ :=
  Ê (fun(d:Int) e=>tR b c a.2.2.1 d (fun f=>e f) (fun g=>k g) (fun _=>k false)) (0:Int)
def Io (a:b6) (b:Int) (c:Int):BY (Bool):=YN a b c some
def tU (d:Int) (m:Int) (n:Int) (e:Int) (f:Int) (g:fy) (h:bx) (i:fx) (j:c7) (k:bx) (b:Int) (a:Int) (c:Int->Int->BY ρ) (o:Int->BY ρ):BY ρ :=
  ifb (ilt a m) (Ã (kd ((e,f),g,h,i,j,k) d a) fun l=>ifb l.2 (ck (b+l.1.2.2) fun p=>ck (a+(1:Int)) fun q=>c p q) (Ã (Io ((e,f),g,h,i,j,k) d a) fun r=>ifb r (ck (b+n) fun s=>ck (a+(1:Int)) fun t=>c s t) (ck (a+(1:Int)) fun u=>c b u))) (o b)
def YS (a:b6) (b:Int) (d:Int) (e:Int) (k:Int->BY ρ):BY ρ :=
  Ã (ke a b) fun f=>ð a.2.1 f fun g=>Ê (fun(c:bl) h=>tU b e g.2.2.2.2.2 a.1.1 a.1.2 a.2.1 a.2.2.1 a.2.2.2.1 a.2.2.2.2.1 a.2.2.2.2.2 c.1 c.2 (fun i j=>h (i,j)) (fun l=>k l)) ((0:Int),d)
def ww (a:b6) (b:Int) (c:Int) (d:Int):BY (Int):=YS a b c d some
def xm (b:Int) (a:Int) (c:Int->Int->BY ρ) (d:Int->BY ρ):BY ρ :=
  ifb (ine a 0) (ifb (oy a 0) (none) (c a (Int.tmod b a))) (d b)
def acX (b:Int) (c:Int) (k:Int->BY ρ):BY ρ :=
  Ê (fun(a:bl) d=>xm a.1 a.2 (fun e f=>d (e,f)) (fun g=>k g)) (b,c)
def BO (a:Int) (b:Int):BY (Int):=acX a b some
def acZ (a:Int) (k:Int->BY ρ):BY ρ :=
  ifb (ilt a 0) (ck ((0:Int)-a) fun b=>k b) (k a)
def Iu (a:Int):BY (Int):=acZ a some
def OX (b:Int) (a:Int) (k:l7->BY ρ):BY ρ :=
  ifb (ine b 0) (ifb (oy a 0) (none) (Ã (Iu (Int.tmod b a)) fun h=>Ã (BO h a) fun c=>ifb (oy c 0) (none) (ck (Int.tdiv b c) fun d=>ifb (oy c 0) (none) (ck (Int.tdiv a c) fun f=>ifb (igt f 2147483647) (k (((0:Int),(0:Int)),(3:Int))) (ifb (ilt d (-2147483647:Int)) (k (((0:Int),(0:Int)),(3:Int))) (ifb (igt d 2147483647) (k (((0:Int),(0:Int)),(3:Int))) (k ((d,f),(0:Int))))))))) (ifb (oy a 0) (none) (ck (Int.tdiv b a) fun e=>ifb (oy a 0) (none) (ck (Int.tdiv a a) fun g=>ifb (igt g 2147483647) (k (((0:Int),(0:Int)),(3:Int))) (ifb (ilt e (-2147483647:Int)) (k (((0:Int),(0:Int)),(3:Int))) (ifb (igt e 2147483647) (k (((0:Int),(0:Int)),(3:Int))) (k ((e,g),(0:Int))))))))
def sd (a:Int) (b:Int):BY l7:=OX a b some
def acY (a:bl) (b:bl) (k:l7->BY ρ):BY ρ :=
  ck (a.1*b.2) fun c=>ck (b.1*a.2) fun d=>ck (c+d) fun e=>ck (a.2*b.2) fun f=>Ã (sd e f) fun g=>k g
def Wh (a:bl) (b:bl):BY l7:=acY a b some
def acV (a:bl) (k:bl->BY ρ):BY ρ :=
  ck ((0:Int)-a.1) fun b=>k (b,a.2)
def Wg (a:bl):BY bl:=acV a some
def acU (a:bl) (b:bl) (k:l7->BY ρ):BY ρ :=
  Ã (Wg b) fun c=>Ã (Wh a c) fun d=>k d
def Mp (a:bl) (b:bl):BY l7:=acU a b some
def Tr (a:b6) (b:Int) (k:bl->BY ρ):BY ρ :=
  ifb (ieq b 0) (k ((0:Int),(1:Int))) (Ã (ke a b) fun c=>ð a.2.1 c fun d=>k d.2.2.2.2.1)
def wt (a:b6) (b:Int):BY bl:=Tr a b some
def YY (a:l7) (b:l7) (k:Val Fv->BY ρ):BY ρ :=
  ifb (ine a.2 0) (k ((((0:Int),(0:Int)),(0:Int),(0:Int)),a.2)) (ifb (ine b.2 0) (k ((((0:Int),(0:Int)),(0:Int),(0:Int)),b.2)) (k ((a.1,b.1),(0:Int))))
def Iq (a:l7) (b:l7):BY (Val Fv):=YY a b some
def acW (a:bl) (b:bl) (k:l7->BY ρ):BY ρ :=
  ck (a.1*b.1) fun c=>ck (a.2*b.2) fun d=>Ã (sd c d) fun e=>k e
def xY (a:bl) (b:bl):BY l7:=acW a b some
def TA (b:ly) (a:bl) (k:Val Fv->BY ρ):BY ρ :=
  ifb (ilt a.1 0) (Ã (xY b.2 a) fun c=>Ã (xY b.1 a) fun d=>Ã (Iq c d) fun e=>k e) (Ã (xY b.1 a) fun f=>Ã (xY b.2 a) fun g=>Ã (Iq f g) fun h=>k h)
def BN (a:ly) (b:bl):BY (Val Fv):=TA a b some
def OP (b:b6) (a:i4) (k:ly->BY ρ):BY ρ :=
  Ã (qr a.2.2.1 a.2.2.2.1) fun c=>Ã (wt b c) fun d=>Ã (qr a.2.2.2.1 a.2.2.1) fun e=>Ã (wt b e) fun f=>Ã (Mp d f) fun g=>Ã (BN ((a.2.2.2.2.2.2.1,(1:Int)),a.2.2.2.2.2.2.2,(1:Int)) g.1) fun h=>k h.1
def xW (a:b6) (b:i4):BY ly:=OP a b some
def Tx (a:b6) (b:i4) (k:bl->BY ρ):BY ρ :=
  ck ((Ó b.2.2.1)-(1:Int)) fun c=>ck ((Ó b.2.2.2.1)-(1:Int)) fun d=>ck ((R0 (0:Int) c)*a.1.1) fun e=>ck ((R0 (0:Int) d)*a.1.2) fun f=>ck (e-f) fun g=>ck ((R0 (0:Int) c)*a.1.2) fun h=>ck ((R0 (0:Int) d)*a.1.1) fun i=>ck (h-i) fun j=>k (g,j)
def BK (a:b6) (b:i4):BY bl:=Tx a b some
def aht (b:Int) (a:Int) (k:Int->BY ρ):BY ρ :=
  ifb (oy a 0) (none) (ck (Int.tdiv b a) fun c=>ifb (oy a 0) (none) (ifb (igt (Int.tmod b a) 0) (ck (c+1) fun d=>k d) (k c)))
def abm (a:Int) (b:Int):BY (Int):=aht a b some
def Y4 (a:bl) (k:Int->BY ρ):BY ρ :=
  Ã (abm a.1 a.2) fun b=>k b
def Ir (a:bl):BY (Int):=Y4 a some
def YX (b:Int) (a:Int) (k:Int->BY ρ):BY ρ :=
  ifb (oy a 0) (none) (ck (Int.tdiv b a) fun c=>ifb (oy a 0) (none) (ifb (ilt (Int.tmod b a) 0) (ck (c-1) fun d=>k d) (k c)))
def P0 (a:Int) (b:Int):BY (Int):=YX a b some
def TC (a:bl) (k:Int->BY ρ):BY ρ :=
  Ã (P0 a.1 a.2) fun b=>k b
def BP (a:bl):BY (Int):=TC a some
def YP (b:b6) (a:i4) (k:bl->BY ρ):BY ρ :=
  Ã (xW b a) fun c=>Ã (BK b a) fun d=>ck (a.2.2.2.2.1-a.2.2.2.2.2.1) fun e=>ck (e-d.2) fun f=>Ã (BP c.2) fun g=>ck (f-g) fun h=>ck (a.2.2.2.2.1+a.2.2.2.2.2.1) fun i=>ck (i-d.1) fun j=>Ã (Ir c.1) fun l=>ck (j-l) fun m=>k (h,m)
def wu (a:b6) (b:i4):BY bl:=YP a b some
def rP (e:bx) (b:Int) (p:Int) (q:Int) (r:fy) (s:bx) (t:fx) (u:c7) (v:bx) (g:Int) (w:Int) (h:Int) (x:Int) (y:Int) (a:Int) (c:ge) (d:bx) (f:Int->ge->bx->BY ρ) (z:Val CE->BY ρ):BY ρ :=
  ifb (ilt a (Ó e)) (ð e a fun A=>ifb (ine A.1 g) (ck (a+(1:Int)) fun B=>f B c d) (ð e a fun C=>ifb (ieq C.2 w) (ck (a+(1:Int)) fun i=>ck (h+y) fun j=>ck (a+(1:Int)) fun k=>ck ((0:Int)-h) fun D=>ck (D-x) fun l=>à (ã ((List.length c)+(List.length ([((0:Int),i,j),(k,(0:Int),l)])))) (à (ã ((List.length d)+(List.length ([((1:Int),b),((1:Int),b)])))) (ck (a+(1:Int)) fun E=>f E (c++([((0:Int),i,j),(k,(0:Int),l)])) (d++([((1:Int),b),((1:Int),b)]))))) (ck (a-(1:Int)) fun F=>ð e F fun G=>ð e a fun H=>Ã (ww ((p,q),r,s,t,u,v) g G.2 H.2) fun m=>ck (a+(1:Int)) fun n=>ck (a+(1:Int)) fun o=>à (ã ((List.length c)+(List.length ([(a,n,(0:Int)),(o,a,m)])))) (à (ã ((List.length d)+(List.length ([((2:Int),b),((2:Int),b)])))) (ck (a+(1:Int)) fun I=>f I (c++([(a,n,(0:Int)),(o,a,m)])) (d++([((2:Int),b),((2:Int),b)]))))))) (z (c,d))
def xi (h:bx) (i:Int) (j:Int) (c:fy) (k:bx) (l:fx) (m:c7) (n:bx) (b:Int) (e:ge) (f:bx) (o:Int->ge->bx->BY ρ) (p:Val CE->BY ρ):BY ρ :=
  ifb (ilt b (Ó c)) (ð c b fun a=>Ê (fun(d:wk) q=>rP h b i j c k l m n a.1 a.2.1 a.2.2.1 a.2.2.2.1.1 a.2.2.2.1.2 d.1 d.2.1 d.2.2 (fun r s t=>q (r,s,t)) (fun g=>ck (b+(1:Int)) fun u=>o u g.1 g.2)) ((0:Int),e,f)) (p (e,f))
def xh (f:Int) (g:Int) (h:fy) (i:bx) (j:fx) (c:c7) (k:bx) (a:Int) (l:ge) (m:bx) (p:Int->ge->bx->BY ρ) (q:Val CE->BY ρ):BY ρ :=
  ifb (ilt a (Ó c)) (ð c a fun b=>Ã (qr b.2.2.1 b.2.2.2.1) fun r=>Ã (kL ((f,g),h,i,j,c,k) (r,b.2.1)) fun d=>Ã (qr b.2.2.2.1 b.2.2.1) fun s=>Ã (kL ((f,g),h,i,j,c,k) (s,b.2.1)) fun e=>Ã (wu ((f,g),h,i,j,c,k) b) fun n=>ck ((0:Int)-n.1) fun o=>à (ã ((List.length l)+(List.length ([(e,d,n.2),(d,e,o)])))) (à (ã ((List.length m)+(List.length ([((3:Int),a),((3:Int),a)])))) (ck (a+(1:Int)) fun t=>p t (l++([(e,d,n.2),(d,e,o)])) (m++([((3:Int),a),((3:Int),a)]))))) (q (l,m))
def acR (a:b6) (k:Val CE->BY ρ):BY ρ :=
  Ã (kK a) fun e=>Ê (fun(b:wk) f=>xi e a.1.1 a.1.2 a.2.1 a.2.2.1 a.2.2.2.1 a.2.2.2.2.1 a.2.2.2.2.2 b.1 b.2.1 b.2.2 (fun g h i=>f (g,h,i)) (fun d=>Ê (fun(c:wk) j=>xh a.1.1 a.1.2 a.2.1 a.2.2.1 a.2.2.2.1 a.2.2.2.2.1 a.2.2.2.2.2 c.1 c.2.1 c.2.2 (fun l m n=>j (l,m,n)) (fun o=>k o)) ((0:Int),d.1,d.2))) ((0:Int),[],[])
def xU (a:b6):BY (Val CE):=acR a some
def Kw (a:bl) (b:Int) (c:Int) (k:Bool->BY ρ):BY ρ :=
  ifb (ile b a.1) (ifb (ile a.1 a.2) (k (ile a.2 c)) (k false)) (k false)
def ka (a:bl) (b:Int) (c:Int):BY (Bool):=Kw a b c some
def Tz (a:bl) (k:Bool->BY ρ):BY ρ :=
  ifb (ilt a.2 1) (k false) (ifb (igt a.2 2147483647) (k false) (ifb (ilt a.1 (-2147483647:Int)) (k false) (ifb (igt a.1 2147483647) (k false) (Ã (Iu a.1) fun b=>Ã (BO b a.2) fun c=>k (ieq c 1)))))
def BM (a:bl):BY (Bool):=Tz a some
def Ts (a:pi) (k:Bool->BY ρ):BY ρ :=
  Ã (BM a.2.2.2.2.1) fun b=>ifb (!b) (k false) (Ã (lm a.2.2.2.2.1.1 (-1000:Int) (1000:Int)) fun c=>ifb (!c) (k false) (ifb (igt a.2.2.2.2.1.2 100) (k false) (Ã (lm a.1 (1:Int) (1099511627776:Int)) fun d=>ifb d (Ã (xX a.2.1) fun e=>ifb e (Ã (lm a.2.2.1 (1:Int) (1125899906842624:Int)) fun f=>ifb f (Ã (ka a.2.2.2.1 (-1073741824:Int) (1073741824:Int)) fun g=>ifb g (Ã (lm a.2.2.2.2.2 (0:Int) (1048576:Int)) fun h=>k h) (k false)) (k false)) (k false)) (k false))))
def BJ (a:pi):BY (Bool):=Ts a some
def Tt (a:b6) (c:Int) (d:Int) (k:Int->BY ρ):BY ρ :=
  Ã (ke a c) fun b=>ifb (ilt b 0) (k (5:Int)) (ð a.2.1 b fun e=>ifb (ilt d e.2.1) (k (4:Int)) (k (0:Int)))
def jE (a:b6) (b:Int) (c:Int):BY (Int):=Tt a b c some
def tK (e:Int) (f:Int) (g:fy) (a:bx) (h:fx) (i:c7) (j:bx) (b:Int) (k:Int->BY ρ) (c:Int->BY ρ) (l:Unit->BY ρ):BY ρ :=
  ifb (ilt b (Ó a)) (ð a b fun m=>Ã (xX m.2) fun n=>ifb (!n) (c (1:Int)) (ð a b fun o=>ð a b fun p=>Ã (jE ((e,f),g,a,h,i,j) o.1 p.2) fun d=>ifb (ine d 0) (c d) (ck (b+(1:Int)) fun q=>k q))) (l ())
def YI (a:b6) (k:Int->BY ρ):BY ρ :=
  Ê (fun(b:Int) c=>tK a.1.1 a.1.2 a.2.1 a.2.2.1 a.2.2.2.1 a.2.2.2.2.1 a.2.2.2.2.2 b (fun d=>c d) (fun e=>k e) (fun _=>k (0:Int))) (0:Int)
def Il (a:b6):BY (Int):=YI a some
def p8 (d:Int) (b:fx) (e:Int) (f:Int) (g:Int) (a:Int) (c:Int->BY ρ) (h:Int->BY ρ) (i:Unit->BY ρ):BY ρ :=
  ifb (ilt a d) (ð b a fun j=>ifb (ieq j.1 e) (ð b a fun k=>ifb (ile k.2.1.1 g) (ð b a fun l=>ifb (ile f l.2.1.2) (h (9:Int)) (ck (a+(1:Int)) fun m=>c m)) (ck (a+(1:Int)) fun n=>c n)) (ck (a+(1:Int)) fun o=>c o)) (i ())
def mR (b:bx) (d:Int) (e:Int) (f:Int) (a:Int) (c:Int->BY ρ) (g:Int->BY ρ) (h:Unit->BY ρ):BY ρ :=
  ifb (ilt a (Ó b)) (ð b a fun i=>ifb (ieq i.1 d) (ð b a fun j=>Ã (lm j.2 e f) fun k=>ifb k (g (9:Int)) (ck (a+(1:Int)) fun l=>c l)) (ck (a+(1:Int)) fun m=>c m)) (h ())
def p9 (g:Int) (h:Int) (i:fy) (e:bx) (c:fx) (j:c7) (k:bx) (d:Int) (l:Int->BY ρ) (b:Int->BY ρ) (m:Unit->BY ρ):BY ρ :=
  ifb (ilt d (Ó c)) (ð c d fun a=>Ã (ka a.2.1 (0:Int) (20000:Int)) fun n=>ifb (!n) (b (1:Int)) (Ã (lm a.2.2 (0:Int) (1048576:Int)) fun o=>ifb (!o) (b (1:Int)) (Ã (jE ((g,h),i,e,c,j,k) a.1 a.2.1.1) fun f=>ifb (ine f 0) (b f) (Ê (fun(p:Int) q=>p8 d c a.1 a.2.1.1 a.2.1.2 p (fun r=>q r) (fun s=>b s) (fun _=>Ê (fun(t:Int) u=>mR e a.1 a.2.1.1 a.2.1.2 t (fun v=>u v) (fun w=>b w) (fun _=>ck (d+(1:Int)) fun x=>l x)) (0:Int))) (0:Int))))) (m ())
def Tq (a:b6) (k:Int->BY ρ):BY ρ :=
  Ê (fun(b:Int) c=>p9 a.1.1 a.1.2 a.2.1 a.2.2.1 a.2.2.2.1 a.2.2.2.2.1 a.2.2.2.2.2 b (fun d=>c d) (fun e=>k e) (fun _=>k (0:Int))) (0:Int)
def BI (a:b6):BY (Int):=Tq a some
def tT (b:an) (a:Int) (c:Int->BY ρ) (d:Bool->BY ρ) (e:Unit->BY ρ):BY ρ :=
  ifb (ilt a (Ó b)) (ð b a fun f=>Ã (lm f (1:Int) (1099511627776:Int)) fun g=>ifb (!g) (d false) (ifb (igt a 0) (ð b a fun h=>ck (a-(1:Int)) fun i=>ð b i fun j=>ifb (ile h j) (d false) (ck (a+(1:Int)) fun k=>c k)) (ck (a+(1:Int)) fun l=>c l))) (e ())
def YQ (a:an) (k:Bool->BY ρ):BY ρ :=
  Ê (fun(b:Int) c=>tT a b (fun d=>c d) (fun e=>k e) (fun _=>k (ile (Ó a) 6))) (0:Int)
def AQ (a:an):BY (Bool):=YQ a some
def Tp (a:i4) (k:Bool->BY ρ):BY ρ :=
  Ã (AQ a.2.2.1) fun b=>Ã (AQ a.2.2.2.1) fun c=>ifb b (ifb c (Ã (lm a.1 (1:Int) (1099511627776:Int)) fun d=>ifb d (Ã (xX a.2.1) fun e=>ifb e (Ã (lm a.2.2.2.2.1 (-1125899906842624:Int) (1125899906842624:Int)) fun f=>ifb f (Ã (lm a.2.2.2.2.2.1 (0:Int) (1073741824:Int)) fun g=>ifb g (Ã (ka a.2.2.2.2.2.2 (-10000:Int) (10000:Int)) fun h=>k h) (k false)) (k false)) (k false)) (k false)) (k false)) (k false)
def BH (a:i4):BY (Bool):=Tp a some
def lP (c:Int) (d:Int) (e:fy) (f:bx) (g:fx) (h:c7) (i:bx) (b:an) (a:Int) (j:Int->BY ρ) (k:Int->BY ρ) (l:Unit->BY ρ):BY ρ :=
  ifb (ilt a (Ó b)) (à ((ile 0 a)&&(ilt a (ì b))) (Į b (Int.toNat a) fun m=>Ã (ke ((c,d),e,f,g,h,i) m) fun n=>ifb (ilt n 0) (k (5:Int)) (ck (a+(1:Int)) fun o=>j o))) (l ())
def jv (c:Int) (d:Int) (e:fy) (f:bx) (g:fx) (h:c7) (i:bx) (j:Int) (b:an) (a:Int) (k:Int->BY ρ) (l:Int->BY ρ) (m:Unit->BY ρ):BY ρ :=
  ifb (ilt a (Ó b)) (à ((ile 0 a)&&(ilt a (ì b))) (Į b (Int.toNat a) fun n=>Ã (jE ((c,d),e,f,g,h,i) n j) fun o=>ifb (ine o 0) (l (4:Int)) (ck (a+(1:Int)) fun p=>k p))) (m ())
def Ι (c:Int) (d:Int) (e:fy) (f:bx) (g:fx) (h:c7) (i:bx) (j:Int) (b:an) (a:Int) (k:Int->BY ρ) (l:Int->BY ρ) (m:Unit->BY ρ):BY ρ :=
  ifb (ilt a (Ó b)) (à ((ile 0 a)&&(ilt a (ì b))) (Į b (Int.toNat a) fun n=>Ã (kd ((c,d),e,f,g,h,i) n j) fun o=>ifb o.2 (l (9:Int)) (ck (a+(1:Int)) fun p=>k p))) (m ())
def xg (a:b6) (b:i4) (k:Int->BY ρ):BY ρ :=
  à (ã (0+(List.length b.2.2.1))) (à (ã ((List.length (([])++b.2.2.1))+(List.length b.2.2.2.1))) (Ê (fun(e:Int) f=>lP a.1.1 a.1.2 a.2.1 a.2.2.1 a.2.2.2.1 a.2.2.2.2.1 a.2.2.2.2.2 ((([])++b.2.2.1)++b.2.2.2.1) e (fun g=>f g) (fun h=>k h) (fun _=>Ê (fun(i:Int) j=>jv a.1.1 a.1.2 a.2.1 a.2.2.1 a.2.2.2.1 a.2.2.2.2.1 a.2.2.2.2.2 b.2.1 ((([])++b.2.2.1)++b.2.2.2.1) i (fun l=>j l) (fun m=>k m) (fun _=>Ê (fun(n:Int) o=>Ι a.1.1 a.1.2 a.2.1 a.2.2.1 a.2.2.2.1 a.2.2.2.2.1 a.2.2.2.2.2 b.2.1 ((([])++b.2.2.1)++b.2.2.2.1) n (fun p=>o p) (fun q=>k q) (fun _=>Ã (jx b.2.2.1 b.2.2.2.1) fun c=>Ã (jx b.2.2.2.1 b.2.2.1) fun d=>ifb (igt (Ó c) 1) (k (1:Int)) (ifb (igt (Ó d) 1) (k (1:Int)) (ck ((Ó c)+(Ó d)) fun r=>ifb (ieq r 0) (k (1:Int)) (k (0:Int)))))) (0:Int))) (0:Int))) (0:Int)))
def kJ (a:b6) (b:i4):BY (Int):=xg a b some
def qk (b:fy) (a:Int) (c:Int->BY ρ) (d:Int->BY ρ) (e:Unit->BY ρ):BY ρ :=
  ifb (ilt a (Ó b)) (ð b a fun f=>Ã (BJ f) fun g=>ifb (!g) (d (1:Int)) (ifb (igt a 0) (ð b a fun h=>ck (a-(1:Int)) fun i=>ð b i fun j=>ifb (ile h.1 j.1) (d (6:Int)) (ck (a+(1:Int)) fun k=>c k)) (ck (a+(1:Int)) fun l=>c l))) (e ())
def qj (b:Int) (c:c7) (a:Int) (d:Int->BY ρ) (e:Int->BY ρ) (f:Unit->BY ρ):BY ρ :=
  ifb (ilt a b) (ð c a fun g=>ð c b fun h=>ifb (ieq g.1 h.1) (e (6:Int)) (ck (a+(1:Int)) fun i=>d i)) (f ())
def kD (e:Int) (f:Int) (g:fy) (h:bx) (i:fx) (a:c7) (j:bx) (b:Int) (k:Int->BY ρ) (c:Int->BY ρ) (l:Unit->BY ρ):BY ρ :=
  ifb (ilt b (Ó a)) (ð a b fun m=>Ã (BH m) fun n=>ifb (!n) (c (1:Int)) (Ê (fun(o:Int) p=>qj b a o (fun q=>p q) (fun r=>c r) (fun _=>ð a b fun s=>Ã (kJ ((e,f),g,h,i,a,j) s) fun d=>ifb (ine d 0) (c d) (ck (b+(1:Int)) fun t=>k t))) (0:Int))) (l ())
def kB (e:Int) (f:Int) (g:fy) (h:bx) (i:fx) (j:c7) (a:bx) (b:Int) (k:Int->BY ρ) (c:Int->BY ρ) (l:Unit->BY ρ):BY ρ :=
  ifb (ilt b (Ó a)) (ð a b fun m=>Ã (xX m.2) fun n=>ifb (!n) (c (1:Int)) (ð a b fun o=>ð a b fun p=>Ã (jE ((e,f),g,h,i,j,a) o.1 p.2) fun d=>ifb (ine d 0) (c d) (ck (b+(1:Int)) fun q=>k q))) (l ())
def Jv (a:b6) (k:Int->BY ρ):BY ρ :=
  Ã (ka a.1 (0:Int) (1000000:Int)) fun d=>ifb (!d) (k (1:Int)) (ifb (igt (Ó a.2.1) 12) (k (2:Int)) (ifb (igt (Ó a.2.2.1) 40) (k (2:Int)) (ifb (igt (Ó a.2.2.2.1) 12) (k (2:Int)) (ifb (igt (Ó a.2.2.2.2.1) 40) (k (2:Int)) (ifb (igt (Ó a.2.2.2.2.2) 10) (k (2:Int)) (Ê (fun(e:Int) f=>qk a.2.1 e (fun g=>f g) (fun h=>k h) (fun _=>Ã (Il a) fun b=>ifb (ieq b 0) (Ã (BI a) fun c=>ifb (ine c 0) (k c) (Ê (fun(i:Int) j=>kD a.1.1 a.1.2 a.2.1 a.2.2.1 a.2.2.2.1 a.2.2.2.2.1 a.2.2.2.2.2 i (fun l=>j l) (fun m=>k m) (fun _=>Ê (fun(n:Int) o=>kB a.1.1 a.1.2 a.2.1 a.2.2.1 a.2.2.2.1 a.2.2.2.2.1 a.2.2.2.2.2 n (fun p=>o p) (fun q=>k q) (fun _=>Ã (kK a) fun r=>ifb (igt (Ó r) 59) (k (2:Int)) (Ã (xU a) fun s=>ifb (igt (Ó s.1) 300) (k (2:Int)) (k (0:Int))))) (0:Int))) (0:Int))) (ifb (ine b 0) (k b) (Ê (fun(t:Int) u=>kD a.1.1 a.1.2 a.2.1 a.2.2.1 a.2.2.2.1 a.2.2.2.2.1 a.2.2.2.2.2 t (fun v=>u v) (fun w=>k w) (fun _=>Ê (fun(x:Int) y=>kB a.1.1 a.1.2 a.2.1 a.2.2.1 a.2.2.2.1 a.2.2.2.2.1 a.2.2.2.2.2 x (fun z=>y z) (fun A=>k A) (fun _=>Ã (kK a) fun B=>ifb (igt (Ó B) 59) (k (2:Int)) (Ã (xU a) fun C=>ifb (igt (Ó C.1) 300) (k (2:Int)) (k (0:Int))))) (0:Int))) (0:Int))))) (0:Int)))))))
def BL (a:b6):BY (Int):=Jv a some
def xd (b:an) (a:Int) (c:Int->BY ρ) (d:Int->BY ρ) (e:Unit->BY ρ):BY ρ :=
  ifb (ilt a (Ó b)) (ð b a fun f=>ck (a-(1:Int)) fun g=>ð b g fun h=>ifb (ile f h) (d (1:Int)) (ck (a+(1:Int)) fun i=>c i)) (e ())
def EJ (c:Int) (d:Int) (e:fy) (f:bx) (g:fx) (h:c7) (i:bx) (b:an) (a:Int) (j:Int->BY ρ) (k:Int->BY ρ) (l:Unit->BY ρ):BY ρ :=
  ifb (ilt a (Ó b)) (ð b a fun m=>Ã (ke ((c,d),e,f,g,h,i) m) fun n=>ifb (ilt n 0) (k (5:Int)) (ck (a+(1:Int)) fun o=>j o)) (l ())
def EI (c:Int) (d:Int) (e:fy) (f:bx) (g:fx) (h:c7) (i:bx) (j:Int) (b:an) (a:Int) (k:Int->BY ρ) (l:Int->BY ρ) (m:Unit->BY ρ):BY ρ :=
  ifb (ilt a (Ó b)) (ð b a fun n=>Ã (jE ((c,d),e,f,g,h,i) n j) fun o=>ifb (ine o 0) (l (4:Int)) (ck (a+(1:Int)) fun p=>k p)) (m ())
def acN (a:b6) (b:f4) (k:Int->BY ρ):BY ρ :=
  Ã (lm b.1 (0:Int) (19999:Int)) fun c=>ifb (!c) (k (1:Int)) (Ã (lm (Ó b.2) (2:Int) (5:Int)) fun d=>ifb (!d) (k (1:Int)) (Ê (fun(e:Int) f=>xd b.2 e (fun g=>f g) (fun h=>k h) (fun _=>Ê (fun(i:Int) j=>EJ a.1.1 a.1.2 a.2.1 a.2.2.1 a.2.2.2.1 a.2.2.2.2.1 a.2.2.2.2.2 b.2 i (fun l=>j l) (fun m=>k m) (fun _=>Ê (fun(n:Int) o=>EI a.1.1 a.1.2 a.2.1 a.2.2.1 a.2.2.2.1 a.2.2.2.2.1 a.2.2.2.2.2 b.1 b.2 n (fun p=>o p) (fun q=>k q) (fun _=>k (0:Int))) (0:Int))) (0:Int))) (1:Int)))
def Mn (a:b6) (b:f4):BY (Int):=acN a b some
def jh (c:Int) (d:Int) (e:fy) (f:bx) (g:fx) (h:c7) (i:bx) (j:Int) (b:an) (k:Int) (a:Int) (m:Int->Int->BY ρ) (l:Int->BY ρ) (n:Int->BY ρ):BY ρ :=
  ifb (ilt a (Ó b)) (ð b a fun o=>Ã (kd ((c,d),e,f,g,h,i) o j) fun p=>ð b a fun q=>ck (j+(1:Int)) fun r=>Ã (kd ((c,d),e,f,g,h,i) q r) fun s=>ifb p.2 (l (9:Int)) (ifb s.2 (l (9:Int)) (ck (a+(1:Int)) fun t=>ck (k*t) fun u=>ck (a+(1:Int)) fun v=>m u v))) (n k)
def pZ (d:Int) (e:Int) (f:fy) (g:bx) (h:fx) (i:c7) (j:bx) (k:c9) (l:Int) (a:Int) (m:Int->Int->BY ρ) (c:Int->BY ρ) (q:Int->BY ρ):BY ρ :=
  ifb (ilt a (Ó k)) (ð k a fun b=>Ã (Mn ((d,e),f,g,h,i,j) b) fun n=>ifb (ine n 0) (c n) (ifb (igt a 0) (ck (a-(1:Int)) fun r=>ð k r fun s=>ifb (ile b.1 s.1) (c (6:Int)) (Ê (fun(o:bl) t=>jh d e f g h i j b.1 b.2 o.1 o.2 (fun u v=>t (u,v)) (fun w=>c w) (fun x=>ck (a+(1:Int)) fun y=>m x y)) (l,(0:Int)))) (Ê (fun(p:bl) z=>jh d e f g h i j b.1 b.2 p.1 p.2 (fun A B=>z (A,B)) (fun C=>c C) (fun D=>ck (a+(1:Int)) fun E=>m D E)) (l,(0:Int))))) (q l)
def Tn (a:a8) (k:Int->BY ρ):BY ρ :=
  Ã (BL a.1) fun b=>ifb (ine b 0) (k b) (ifb (igt (Ó a.2) 4) (k (2:Int)) (Ê (fun(c:bl) d=>pZ a.1.1.1 a.1.1.2 a.1.2.1 a.1.2.2.1 a.1.2.2.2.1 a.1.2.2.2.2.1 a.1.2.2.2.2.2 a.2 c.1 c.2 (fun e f=>d (e,f)) (fun g=>k g) (fun h=>ifb (igt h 150) (k (2:Int)) (k (0:Int)))) ((1:Int),(0:Int))))
def BG (a:a8):BY (Int):=Tn a some
def lr (rec:an->BY b5) (f:an) (g:Int) (e:b5) (a:Int) (b:b5) (h:Int->b5->BY ρ) (i:b5->BY ρ):BY ρ :=
  ifb (ilt a (Ó e)) (ð f g fun c=>ð e a fun d=>à (ã ((List.length ([c]))+(List.length d))) (à (ã ((List.length b)+(List.length ([(([c])++d)])))) (ck (a+(1:Int)) fun j=>h j (b++([(([c])++d)]))))) (i b)
def om (rec:an->BY b5) (a:an) (b:Int) (d:b5) (f:Int->b5->BY ρ) (g:b5->BY ρ):BY ρ :=
  ifb (ilt b (Ó a)) (à ((ile 0 b)&&(ile b (ì a))) (à (ã (0+(List.length (List.take (Int.toNat b) a)))) (ck (b+(1:Int)) fun c=>à ((ile 0 c)&&(ile c (ì a))) (à (ã ((List.length (([])++(List.take (Int.toNat b) a)))+(List.length (List.drop (Int.toNat c) a)))) (Ã (rec ((([])++(List.take (Int.toNat b) a))++(List.drop (Int.toNat c) a))) fun h=>Ê (fun(e:px) i=>lr rec a b h e.1 e.2 (fun j k=>i (j,k)) (fun l=>ck (b+(1:Int)) fun m=>f m l)) ((0:Int),d)))))) (g d)
def nO (rec:an->BY b5) (a:an) (k:b5->BY ρ):BY ρ :=
  ifb (ieq (Ó a) 0) (k ([[]])) (Ê (fun(b:px) c=>om rec a b.1 b.2 (fun d e=>c (d,e)) (fun f=>k f)) ((0:Int),[]))
def qU:Nat->an->BY b5
  |0=>fun _=>none
  |n+1=>fun a=>nO (qU n) a some
def Fc (a:an):BY (b5):=qU 100 a
def oo (d:b5) (b:Int) (f:c9) (c:Int) (a:Int) (e:Int->Int->BY ρ) (g:Int->BY ρ):BY ρ :=
  ð d b fun h=>ifb (ilt a (Ó h)) (ð d b fun i=>ð i a fun j=>ð f b fun k=>ð k.2 a fun l=>ifb (ine j l) (ck (c+(1:Int)) fun m=>ck (a+(1:Int)) fun n=>e m n) (ck (a+(1:Int)) fun o=>e c o)) (g c)
def oq (b:b5) (e:c9) (c:Int) (a:Int) (f:Int->Int->BY ρ) (g:Int->BY ρ):BY ρ :=
  ifb (ilt a (Ó b)) (Ê (fun(d:bl) h=>oo b a e d.1 d.2 (fun i j=>h (i,j)) (fun k=>ck (a+(1:Int)) fun l=>f k l)) (c,(0:Int))) (g c)
def N5 (b:a8) (c:b5) (k:Int->BY ρ):BY ρ :=
  Ê (fun(a:bl) d=>oq c b.2 a.1 a.2 (fun e f=>d (e,f)) (fun g=>k g)) ((0:Int),(0:Int))
def xS (a:a8) (b:b5):BY (Int):=N5 a b some
def oT (f:b5) (b:Int) (g:a7) (c:Int) (d:a7) (h:Int->a7->BY ρ) (i:a7->BY ρ):BY ρ :=
  ifb (ilt c (Ó f)) (à ((ile 0 b)&&(ilt b (ì g))) (Į g (Int.toNat b) fun a=>à (ã (0+(List.length a))) (ð f c fun e=>à (ã ((List.length (([])++a))+(List.length ([e])))) (à (ã ((List.length d)+(List.length ([((([])++a)++([e]))])))) (ck (c+(1:Int)) fun j=>h j (d++([((([])++a)++([e]))]))))))) (i d)
def oU (e:b5) (b:a7) (a:Int) (c:a7) (f:Int->a7->BY ρ) (g:a7->BY ρ):BY ρ :=
  ifb (ilt a (Ó b)) (Ê (fun(d:io) h=>oT e a b d.1 d.2 (fun i j=>h (i,j)) (fun k=>ck (a+(1:Int)) fun l=>f l k)) ((0:Int),c)) (g c)
def tC (b:c9) (a:Int) (c:a7) (e:Int->a7->BY ρ) (f:a7->BY ρ):BY ρ :=
  ifb (ilt a (Ó b)) (ð b a fun g=>Ã (Fc g.2) fun h=>Ê (fun(d:io) i=>oU h c d.1 d.2 (fun j k=>i (j,k)) (fun l=>ck (a+(1:Int)) fun m=>e m l)) ((0:Int),[])) (f c)
def oS (f:Int) (g:Int) (h:Int) (i:fy) (j:bx) (k:fx) (l:c7) (m:bx) (n:c9) (b:a7) (a:Int) (c:a7) (d:Int->a7->BY ρ) (o:a7->BY ρ):BY ρ :=
  ifb (ilt a (Ó b)) (à ((ile 0 a)&&(ilt a (ì b))) (Į b (Int.toNat a) fun p=>Ã (xS (((g,h),i,j,k,l,m),n) p) fun q=>ifb (ieq q f) (à ((ile 0 a)&&(ilt a (ì b))) (Į b (Int.toNat a) fun e=>à (ã ((List.length c)+(List.length ([e])))) (ck (a+(1:Int)) fun r=>d r (c++([e]))))) (ck (a+(1:Int)) fun s=>d s c))) (o c)
def tB (d:Int) (e:Int) (f:fy) (g:bx) (h:fx) (i:c7) (j:bx) (k:c9) (l:a7) (a:Int) (b:a7) (m:Int->a7->BY ρ) (n:a7->BY ρ):BY ρ :=
  ifb (ile a 20) (Ê (fun(c:io) o=>oS a d e f g h i j k l c.1 c.2 (fun p q=>o (p,q)) (fun r=>ck (a+(1:Int)) fun s=>m s r)) ((0:Int),b)) (n b)
def YA (a:a8) (k:a7->BY ρ):BY ρ :=
  Ê (fun(b:io) d=>tC a.2 b.1 b.2 (fun e f=>d (e,f)) (fun g=>Ê (fun(c:io) h=>tB a.1.1.1 a.1.1.2 a.1.2.1 a.1.2.2.1 a.1.2.2.2.1 a.1.2.2.2.2.1 a.1.2.2.2.2.2 a.2 g c.1 c.2 (fun i j=>h (i,j)) (fun l=>k l)) ((0:Int),[]))) ((0:Int),[[]])
def Ij (a:a8):BY (a7):=YA a some
def Ox (a:b6) (k:im->BY ρ):BY ρ :=
  Ã (kK a) fun b=>ck ((Ó b)+(1:Int)) fun c=>Ã (xU a) fun d=>k (c,d.1)
def xV (a:b6):BY im:=Ox a some
def Bp (b:an) (c:Int) (a:Int) (d:Int->BY ρ) (e:Int->BY ρ) (f:Unit->BY ρ):BY ρ :=
  ifb (ilt a (Ó b)) (ð b a fun g=>ifb (ieq g c) (e a) (ck (a+(1:Int)) fun h=>d h)) (f ())
def ahp (a:an) (b:Int) (k:Int->BY ρ):BY ρ :=
  Ê (fun(c:Int) d=>Bp a b c (fun e=>d e) (fun f=>k f) (fun _=>k (-1:Int))) (0:Int)
def xT (a:an) (b:Int):BY (Int):=ahp a b some
def xe (f:b5) (g:Int) (d:c9) (b:Int) (a:Int) (c:Int->Int->BY ρ) (h:Int->BY ρ):BY ρ :=
  ifb (ige a 0) (ð d a fun i=>ifb (ilt i.1 g) (ð f a fun j=>Ã (xT j b) fun e=>ifb (ige e 0) (ð d a fun k=>ð k.2 e fun l=>ck (a-(1:Int)) fun m=>c l m) (ck (a-(1:Int)) fun n=>c b n)) (ck (a-(1:Int)) fun o=>c b o)) (h b)
def acO (a:a8) (c:b5) (d:Int) (e:Int) (k:Int->BY ρ):BY ρ :=
  ck ((Ó a.2)-(1:Int)) fun f=>Ê (fun(b:bl) g=>xe c e a.2 b.1 b.2 (fun h i=>g (h,i)) (fun j=>k j)) (d,f)
def xR (a:a8) (b:b5) (c:Int) (d:Int):BY (Int):=acO a b c d some
def oR (d:Int) (b:an) (a:Int) (e:Int->BY ρ) (c:Int->BY ρ):BY ρ :=
  ifb (ilt a (Ó b)) (à ((ile 0 a)&&(ilt a (ì b))) (Į b (Int.toNat a) fun f=>ifb (ilt f d) (ck (a+(1:Int)) fun g=>e g) (c a))) (c a)
def tz (f:b5) (e:an) (g:Int) (h:Int) (i:Int) (j:fy) (k:bx) (l:fx) (m:c7) (n:bx) (o:c9) (d:Int) (a:an) (p:Int->an->BY ρ) (q:an->BY ρ):BY ρ :=
  ifb (ilt d (Ó e)) (ð e d fun r=>Ã (xR (((h,i),j,k,l,m,n),o) f r g) fun c=>Ê (fun(s:Int) t=>oR c a s (fun u=>t u) (fun b=>à ((ile 0 b)&&(ile b (ì a))) (à (ã (List.length (List.take (Int.toNat b) (List.drop 0 a)))) (à (ã ((List.length (List.take (Int.toNat b) (List.drop 0 a)))+(List.length ([c])))) (à ((ile 0 b)&&(ile b (ì a))) (à (ã ((List.length ((List.take (Int.toNat b) (List.drop 0 a))++([c])))+(List.length (List.take (List.length a-(Int.toNat b)) (List.drop (Int.toNat b) a))))) (ck (d+(1:Int)) fun v=>p v (((List.take (Int.toNat b) (List.drop 0 a))++([c]))++(List.take (List.length a-(Int.toNat b)) (List.drop (Int.toNat b) a)))))))))) (0:Int)) (q a)
def Yz (a:a8) (c:b5) (d:an) (e:Int) (k:an->BY ρ):BY ρ :=
  Ê (fun(b:f4) f=>tz c d e a.1.1.1 a.1.1.2 a.1.2.1 a.1.2.2.1 a.1.2.2.2.1 a.1.2.2.2.2.1 a.1.2.2.2.2.2 a.2 b.1 b.2 (fun g h=>f (g,h)) (fun i=>k i)) ((0:Int),[])
def AP (a:a8) (b:b5) (c:an) (d:Int):BY (an):=Yz a b c d some
def kz (f:b5) (g:Int) (h:Int) (i:fy) (b:bx) (j:fx) (k:c7) (l:bx) (m:c9) (c:Int) (d:bx) (n:Int->bx->BY ρ) (o:bx->BY ρ):BY ρ :=
  ifb (ilt c (Ó b)) (ð b c fun a=>Ã (xR (((g,h),i,b,j,k,l),m) f a.1 a.2) fun e=>à (ã ((List.length d)+(List.length ([(e,a.2)])))) (ck (c+(1:Int)) fun p=>n p (d++([(e,a.2)])))) (o d)
def ky (f:b5) (g:Int) (h:Int) (i:fy) (j:bx) (b:fx) (k:c7) (l:bx) (m:c9) (c:Int) (d:fx) (n:Int->fx->BY ρ) (o:fx->BY ρ):BY ρ :=
  ifb (ilt c (Ó b)) (ð b c fun a=>Ã (xR (((g,h),i,j,b,k,l),m) f a.1 a.2.1.1) fun e=>à (ã ((List.length d)+(List.length ([(e,a.2)])))) (ck (c+(1:Int)) fun p=>n p (d++([(e,a.2)])))) (o d)
def kv (e:b5) (f:Int) (g:Int) (h:fy) (i:bx) (j:fx) (b:c7) (k:bx) (l:c9) (c:Int) (d:c7) (o:Int->c7->BY ρ) (p:c7->BY ρ):BY ρ :=
  ifb (ilt c (Ó b)) (ð b c fun a=>Ã (AP (((f,g),h,i,j,b,k),l) e a.2.2.1 a.2.1) fun m=>Ã (AP (((f,g),h,i,j,b,k),l) e a.2.2.2.1 a.2.1) fun n=>à (ã ((List.length d)+(List.length ([(a.1,a.2.1,m,n,a.2.2.2.2)])))) (ck (c+(1:Int)) fun q=>o q (d++([(a.1,a.2.1,m,n,a.2.2.2.2)])))) (p d)
def ku (f:b5) (g:Int) (h:Int) (i:fy) (j:bx) (k:fx) (l:c7) (b:bx) (m:c9) (c:Int) (d:bx) (n:Int->bx->BY ρ) (o:bx->BY ρ):BY ρ :=
  ifb (ilt c (Ó b)) (ð b c fun a=>Ã (xR (((g,h),i,j,k,l,b),m) f a.1 a.2) fun e=>à (ã ((List.length d)+(List.length ([(e,a.2)])))) (ck (c+(1:Int)) fun p=>n p (d++([(e,a.2)])))) (o d)
def uK (a:a8) (b:b5) (k:b6->BY ρ):BY ρ :=
  Ê (fun(c:nm) g=>kz b a.1.1.1 a.1.1.2 a.1.2.1 a.1.2.2.1 a.1.2.2.2.1 a.1.2.2.2.2.1 a.1.2.2.2.2.2 a.2 c.1 c.2 (fun h i=>g (h,i)) (fun j=>Ê (fun(d:y5) l=>ky b a.1.1.1 a.1.1.2 a.1.2.1 a.1.2.2.1 a.1.2.2.2.1 a.1.2.2.2.2.1 a.1.2.2.2.2.2 a.2 d.1 d.2 (fun m n=>l (m,n)) (fun o=>Ê (fun(e:BE) p=>kv b a.1.1.1 a.1.1.2 a.1.2.1 a.1.2.2.1 a.1.2.2.2.1 a.1.2.2.2.2.1 a.1.2.2.2.2.2 a.2 e.1 e.2 (fun q r=>p (q,r)) (fun s=>Ê (fun(f:nm) t=>ku b a.1.1.1 a.1.1.2 a.1.2.1 a.1.2.2.1 a.1.2.2.2.1 a.1.2.2.2.2.1 a.1.2.2.2.2.2 a.2 f.1 f.2 (fun u v=>t (u,v)) (fun w=>k (a.1.1,a.1.2.1,j,o,s,w))) ((0:Int),[]))) ((0:Int),[]))) ((0:Int),[]))) ((0:Int),[])
def ov (a:a8) (b:b5):BY b6:=uK a b some
def oW (d:ge) (e:Bool) (c:Int) (b:an) (f:Bool->Int->an->BY ρ) (g:(Val (.pair .bool ab))->BY ρ):BY ρ :=
  ifb (ilt c (Ó d)) (ð d c fun a=>à ((ile 0 a.1)&&(ilt a.1 (ì b))) (Į b (Int.toNat a.1) fun h=>ck (h+a.2.2) fun i=>à ((ile 0 a.2.1)&&(ilt a.2.1 (ì b))) (Į b (Int.toNat a.2.1) fun j=>ifb (ilt i j) (à ((ile 0 a.1)&&(ilt a.1 (ì b))) (Į b (Int.toNat a.1) fun k=>ck (k+a.2.2) fun l=>à ((ile 0 a.2.1)&&(ilt a.2.1 (ì b))) (Į b (Int.toNat a.2.1) fun o=>ck (c+(1:Int)) fun m=>f true m (List.set b (Int.toNat a.2.1) l)))) (ck (c+(1:Int)) fun n=>f e n b)))) (g (e,b))
def oX (g:Int) (h:ge) (a:Bool) (d:Int) (b:an) (i:Bool->Int->an->BY ρ) (e:(Val (.pair .bool ab))->BY ρ):BY ρ :=
  ifb (ile d g) (ifb a (Ê (fun(c:r8) j=>oW h c.1 c.2.1 c.2.2 (fun k l m=>j (k,l,m)) (fun f=>ck (d+(1:Int)) fun n=>i f.1 n f.2)) (false,(0:Int),b)) (e (a,b))) (e (a,b))
def YR (a:im) (k:Bool->BY ρ):BY ρ :=
  à ((ile 0 a.1)&&(ã (Int.toNat a.1))) (Ê (fun(b:r8) c=>oX a.1 a.2 b.1 b.2.1 b.2.2 (fun d e f=>c (d,e,f)) (fun g=>k (!g.1))) (true,(0:Int),(List.replicate (Int.toNat a.1) (0:Int))))
def Ip (a:im):BY (Bool):=YR a some
def GY (a:a8) (b:b5) (k:Bool->BY ρ):BY ρ :=
  Ã (ov a b) fun c=>Ã (xV c) fun d=>Ã (Ip d) fun e=>k e
def qq (a:a8) (b:b5):BY (Bool):=GY a b some
def tD (b:a7) (c:Int) (d:Int) (e:fy) (f:bx) (g:fx) (h:c7) (i:bx) (j:c9) (a:Int) (k:Int->BY ρ) (l:Bool->BY ρ) (m:Unit->BY ρ):BY ρ :=
  ifb (ilt a (Ó b)) (ð b a fun n=>Ã (qq (((c,d),e,f,g,h,i),j) n) fun o=>ifb o (l true) (ck (a+(1:Int)) fun p=>k p)) (m ())
def YB (a:a8) (k:Bool->BY ρ):BY ρ :=
  Ã (Ij a) fun b=>Ê (fun(c:Int) d=>tD b a.1.1.1 a.1.1.2 a.1.2.1 a.1.2.2.1 a.1.2.2.2.1 a.1.2.2.2.2.1 a.1.2.2.2.2.2 a.2 c (fun e=>d e) (fun f=>k f) (fun _=>k false)) (0:Int)
def j9 (a:a8):BY (Bool):=YB a some
def tG (f:an) (c:c7) (a:Int) (b:c7) (d:Int->c7->BY ρ) (g:c7->BY ρ):BY ρ :=
  ifb (ilt a (Ó c)) (ð c a fun h=>Ã (xT f h.1) fun i=>ifb (ige i 0) (ð c a fun e=>à (ã ((List.length b)+(List.length ([e])))) (ck (a+(1:Int)) fun j=>d j (b++([e])))) (ck (a+(1:Int)) fun k=>d k b)) (g b)
def YC (a:a8) (c:an) (k:a8->BY ρ):BY ρ :=
  Ê (fun(b:BE) d=>tG c a.1.2.2.2.2.1 b.1 b.2 (fun e f=>d (e,f)) (fun g=>k ((a.1.1,a.1.2.1,a.1.2.2.1,a.1.2.2.2.1,g,a.1.2.2.2.2.2),a.2))) ((0:Int),[])
def pp (a:a8) (b:an):BY a8:=YC a b some
def Bo (e:Int) (f:c7) (c:Int) (b:an) (d:Int->an->BY ρ) (g:an->BY ρ):BY ρ :=
  ifb (ilt c (Ó f)) (ð f c fun a=>Ã (jx a.2.2.1 a.2.2.2.1) fun h=>Ã (xT h e) fun i=>ifb (ige i 0) (à (ã ((List.length b)+(List.length ([a.1])))) (ck (c+(1:Int)) fun j=>d j (b++([a.1])))) (Ã (jx a.2.2.2.1 a.2.2.1) fun k=>Ã (xT k e) fun l=>ifb (ige l 0) (à (ã ((List.length b)+(List.length ([a.1])))) (ck (c+(1:Int)) fun m=>d m (b++([a.1])))) (ck (c+(1:Int)) fun n=>d n b))) (g b)
def aho (b:a8) (c:Int) (k:an->BY ρ):BY ρ :=
  Ê (fun(a:f4) d=>Bo c b.1.2.2.2.2.1 a.1 a.2 (fun e f=>d (e,f)) (fun g=>k g)) ((0:Int),[])
def Wf (a:a8) (b:Int):BY (an):=aho a b some
def EM (c:c7) (a:Int) (b:an) (e:Int->an->BY ρ) (f:an->BY ρ):BY ρ :=
  ifb (ilt a (Ó c)) (ð c a fun d=>à (ã ((List.length b)+(List.length ([d.1])))) (ck (a+(1:Int)) fun g=>e g (b++([d.1])))) (f b)
def acP (b:a8) (k:an->BY ρ):BY ρ :=
  Ê (fun(a:f4) c=>EM b.1.2.2.2.2.1 a.1 a.2 (fun d e=>c (d,e)) (fun f=>k f)) ((0:Int),[])
def BF (a:a8):BY (an):=acP a some
def tJ (e:Int) (f:Int) (g:fy) (h:bx) (i:fx) (j:c7) (k:bx) (l:c9) (a:an) (b:Int) (d:an->Int->BY ρ) (m:an->BY ρ):BY ρ :=
  ifb (ige b 0) (à ((ile 0 b)&&(ile b (ì a))) (à (ã (0+(List.length (List.take (Int.toNat b) a)))) (ck (b+(1:Int)) fun c=>à ((ile 0 c)&&(ile c (ì a))) (à (ã ((List.length (([])++(List.take (Int.toNat b) a)))+(List.length (List.drop (Int.toNat c) a)))) (Ã (pp (((e,f),g,h,i,j,k),l) ((([])++(List.take (Int.toNat b) a))++(List.drop (Int.toNat c) a))) fun n=>Ã (j9 n) fun o=>ifb (!o) (ck (b-(1:Int)) fun p=>d ((([])++(List.take (Int.toNat b) a))++(List.drop (Int.toNat c) a)) p) (ck (b-(1:Int)) fun q=>d a q)))))) (m a)
def YF (a:a8) (k:an->BY ρ):BY ρ :=
  Ã (BF a) fun b=>ck ((Ó b)-(1:Int)) fun d=>Ê (fun(c:lA) e=>tJ a.1.1.1 a.1.1.2 a.1.2.1 a.1.2.2.1 a.1.2.2.2.1 a.1.2.2.2.2.1 a.1.2.2.2.2.2 a.2 c.1 c.2 (fun f g=>e (f,g)) (fun h=>k h)) (b,d)
def Ik (a:a8):BY (an):=YF a some
def ol (c:an) (g:Int) (a:Int) (b:an) (d:Int->an->BY ρ) (h:an->BY ρ):BY ρ :=
  ifb (ilt a (Ó c)) (ck ((Ó c)-(1:Int)) fun i=>ck (i-a) fun e=>à (ile 0 (IntKind.wrap .u64 e)) (ifb (ieq (anH .i64 (iX .i64 g (IntKind.wrap .u64 e)) (1:Int)) 1) (ð c a fun f=>à (ã ((List.length b)+(List.length ([f])))) (ck (a+(1:Int)) fun j=>d j (b++([f])))) (ck (a+(1:Int)) fun k=>d k b))) (h b)
def N1 (b:an) (c:Int) (k:an->BY ρ):BY ρ :=
  Ê (fun(a:f4) d=>ol b c a.1 a.2 (fun e f=>d (e,f)) (fun g=>k g)) ((0:Int),[])
def xQ (a:an) (b:Int):BY (an):=N1 a b some
def Θ (d:an) (e:Int) (f:Int) (g:Int) (h:fy) (i:bx) (j:fx) (k:c7) (l:bx) (m:c9) (a:Int) (c:Int->BY ρ) (n:an->BY ρ) (o:Unit->BY ρ):BY ρ :=
  ifb (ige a 0) (Ã (xQ d a) fun b=>ifb (ine (Ó b) e) (ck (a-(1:Int)) fun p=>c p) (Ã (pp (((f,g),h,i,j,k,l),m) b) fun q=>Ã (j9 q) fun r=>ifb (!r) (n b) (ck (a-(1:Int)) fun s=>c s))) (o ())
def ju (a:an) (c:Int) (d:Int) (e:fy) (f:bx) (g:fx) (h:c7) (i:bx) (j:c9) (b:Int) (k:Int->BY ρ) (l:an->BY ρ) (m:Unit->BY ρ):BY ρ :=
  ifb (ilt b (Ó a)) (à (ile 0 (IntKind.wrap .u64 (Ó a))) (ck ((al4 .i64 (1:Int) (IntKind.wrap .u64 (Ó a)))-(1:Int)) fun n=>Ê (fun(o:Int) p=>Θ a b c d e f g h i j o (fun q=>p q) (fun r=>l r) (fun _=>ck (b+(1:Int)) fun s=>k s)) (n))) (m ())
def GU (a:a8) (b:an) (k:an->BY ρ):BY ρ :=
  Ê (fun(c:Int) d=>ju b a.1.1.1 a.1.1.2 a.1.2.1 a.1.2.2.1 a.1.2.2.2.1 a.1.2.2.2.2.1 a.1.2.2.2.2.2 a.2 c (fun e=>d e) (fun f=>k f) (fun _=>k b)) (0:Int)
def Ů (a:a8) (b:an):BY (an):=GU a b some
def Ŕ (c:an) (f:an) (a:Int) (b:Int) (d:Int->Int->BY ρ) (e:Int->BY ρ):BY ρ :=
  ifb (ilt b (Ó c)) (ifb (ieq a 0) (ð c b fun g=>Ã (xT f g) fun h=>ifb (ilt h 0) (ck (b+(1:Int)) fun i=>d (5:Int) i) (ck (b+(1:Int)) fun j=>d a j)) (e a)) (e a)
def ĸ (c:an) (b:Int) (a:Int) (d:Int->Int->BY ρ) (e:Int->BY ρ):BY ρ :=
  ifb (ilt a (Ó c)) (ifb (ieq b 0) (ð c a fun f=>ck (a-(1:Int)) fun g=>ð c g fun h=>ifb (ile f h) (ck (a+(1:Int)) fun i=>d (6:Int) i) (ck (a+(1:Int)) fun j=>d b j)) (e b)) (e b)
def uG (c:a8) (f:an) (m:Int) (k:Bool->BY ρ):BY ρ :=
  Ã (BB c) fun v=>ifb (!v) (Ã j7 fun w=>k w) (ifb (igt (Ó f) 12) (Ã j7 fun x=>k x) (Ã (qp c f) fun l=>Ã (mY c m) fun g=>Ã (Ii c) fun h=>Ã (po c f) fun i=>Ã (BG c) fun j=>ifb (ine j 0) (Ã j7 fun y=>ifb y (ifb (ieq l.2 j) (ifb (ieq g.2 j) (ifb (ieq h.2 j) (ifb (ieq i.2 j) (ifb (!l.1) (ifb (!g.1) (ck ((Ó h.1)+(Ó i.1)) fun z=>k (ieq z 0)) (k false)) (k false)) (k false)) (k false)) (k false)) (k false)) (k false)) (Ã (pp c f) fun A=>Ã (j9 A) fun n=>ifb (ine l.2 0) (k false) (ifb (!(l.1==n)) (k false) (aba (α:=(Val (.pair ab (.pair ab (.pair tI (.pair ab (.pair tI (.pair .bool ai)))))))) (fun q=>Ã (ke c.1 m) fun B=>ifb (ilt B 0) (ifb (ine g.2 5) (k false) (ifb g.1 (k false) (q (f,h.1,h.2,i.1,i.2,n,c.1.1.1,c.1.1.2,c.1.2.1,c.1.2.2.1,c.1.2.2.2.1,c.1.2.2.2.2.1,c.1.2.2.2.2.2,c.2)))) (ifb (ine g.2 0) (k false) (Ã (Wf c m) fun C=>Ã (pp c C) fun D=>Ã (j9 D) fun E=>ifb (g.1==E) (k false) (q (f,h.1,h.2,i.1,i.2,n,c.1.1.1,c.1.1.2,c.1.2.1,c.1.2.2.1,c.1.2.2.2.1,c.1.2.2.2.2.1,c.1.2.2.2.2.2,c.2))))) (fun b=>aba (α:=(Val (.pair ab (.pair ab (.pair tI (.pair .bool ai)))))) (fun r=>Ã (j9 (((b.2.2.2.2.2.2.1,b.2.2.2.2.2.2.2.1),b.2.2.2.2.2.2.2.2.1,b.2.2.2.2.2.2.2.2.2.1,b.2.2.2.2.2.2.2.2.2.2.1,b.2.2.2.2.2.2.2.2.2.2.2.1,b.2.2.2.2.2.2.2.2.2.2.2.2.1),b.2.2.2.2.2.2.2.2.2.2.2.2.2)) fun F=>ifb F (ifb (ine b.2.2.1 5) (k false) (ifb (igt (Ó b.2.1) 0) (k false) (r (b.1,b.2.2.2.1,b.2.2.2.2.1,b.2.2.2.2.2.1,b.2.2.2.2.2.2.1,b.2.2.2.2.2.2.2.1,b.2.2.2.2.2.2.2.2.1,b.2.2.2.2.2.2.2.2.2.1,b.2.2.2.2.2.2.2.2.2.2.1,b.2.2.2.2.2.2.2.2.2.2.2.1,b.2.2.2.2.2.2.2.2.2.2.2.2.1,b.2.2.2.2.2.2.2.2.2.2.2.2.2)))) (ifb (ine b.2.2.1 0) (k false) (Ã (Ik (((b.2.2.2.2.2.2.1,b.2.2.2.2.2.2.2.1),b.2.2.2.2.2.2.2.2.1,b.2.2.2.2.2.2.2.2.2.1,b.2.2.2.2.2.2.2.2.2.2.1,b.2.2.2.2.2.2.2.2.2.2.2.1,b.2.2.2.2.2.2.2.2.2.2.2.2.1),b.2.2.2.2.2.2.2.2.2.2.2.2.2)) fun G=>Ã (Ĩ b.2.1 G) fun H=>ifb (!H) (k false) (r (b.1,b.2.2.2.1,b.2.2.2.2.1,b.2.2.2.2.2.1,b.2.2.2.2.2.2.1,b.2.2.2.2.2.2.2.1,b.2.2.2.2.2.2.2.2.1,b.2.2.2.2.2.2.2.2.2.1,b.2.2.2.2.2.2.2.2.2.2.1,b.2.2.2.2.2.2.2.2.2.2.2.1,b.2.2.2.2.2.2.2.2.2.2.2.2.1,b.2.2.2.2.2.2.2.2.2.2.2.2.2))))) (fun d=>aba (α:=(Val (.pair ab (.pair ab (.pair tI (.pair .bool aF)))))) (fun s=>ifb (igt (Ó d.1) 8) (s (d.1,d.2.1,d.2.2.1,d.2.2.2.1,(2:Int),d.2.2.2.2.1,d.2.2.2.2.2.1,d.2.2.2.2.2.2.1,d.2.2.2.2.2.2.2.1,d.2.2.2.2.2.2.2.2.1,d.2.2.2.2.2.2.2.2.2.1,d.2.2.2.2.2.2.2.2.2.2.1,d.2.2.2.2.2.2.2.2.2.2.2)) (s (d.1,d.2.1,d.2.2.1,d.2.2.2.1,(0:Int),d.2.2.2.2.1,d.2.2.2.2.2.1,d.2.2.2.2.2.2.1,d.2.2.2.2.2.2.2.1,d.2.2.2.2.2.2.2.2.1,d.2.2.2.2.2.2.2.2.2.1,d.2.2.2.2.2.2.2.2.2.2.1,d.2.2.2.2.2.2.2.2.2.2.2))) (fun a=>Ã (BF (((a.2.2.2.2.2.1,a.2.2.2.2.2.2.1),a.2.2.2.2.2.2.2.1,a.2.2.2.2.2.2.2.2.1,a.2.2.2.2.2.2.2.2.2.1,a.2.2.2.2.2.2.2.2.2.2.1,a.2.2.2.2.2.2.2.2.2.2.2.1),a.2.2.2.2.2.2.2.2.2.2.2.2)) fun I=>Ê (fun(t:bl) J=>Ŕ a.1 I t.1 t.2 (fun K L=>J (K,L)) (fun M=>Ê (fun(u:bl) N=>ĸ a.1 u.1 u.2 (fun O P=>N (O,P)) (fun o=>aba (α:=(Val (.pair ab (.pair ab (.pair tI aF))))) (fun p=>ifb (ieq o 0) (ifb a.2.2.2.1 (p (a.1,a.2.1,a.2.2.1,(5:Int),a.2.2.2.2.2.1,a.2.2.2.2.2.2.1,a.2.2.2.2.2.2.2.1,a.2.2.2.2.2.2.2.2.1,a.2.2.2.2.2.2.2.2.2.1,a.2.2.2.2.2.2.2.2.2.2.1,a.2.2.2.2.2.2.2.2.2.2.2.1,a.2.2.2.2.2.2.2.2.2.2.2.2)) (p (a.1,a.2.1,a.2.2.1,o,a.2.2.2.2.2.1,a.2.2.2.2.2.2.1,a.2.2.2.2.2.2.2.1,a.2.2.2.2.2.2.2.2.1,a.2.2.2.2.2.2.2.2.2.1,a.2.2.2.2.2.2.2.2.2.2.1,a.2.2.2.2.2.2.2.2.2.2.2.1,a.2.2.2.2.2.2.2.2.2.2.2.2))) (p (a.1,a.2.1,a.2.2.1,o,a.2.2.2.2.2.1,a.2.2.2.2.2.2.1,a.2.2.2.2.2.2.2.1,a.2.2.2.2.2.2.2.2.1,a.2.2.2.2.2.2.2.2.2.1,a.2.2.2.2.2.2.2.2.2.2.1,a.2.2.2.2.2.2.2.2.2.2.2.1,a.2.2.2.2.2.2.2.2.2.2.2.2))) (fun e=>ifb (ine e.2.2.2.1 0) (Ã j7 fun Q=>ifb Q (ifb (ieq e.2.2.1 e.2.2.2.1) (k (ieq (Ó e.2.1) 0)) (k false)) (k false)) (Ã j7 fun R=>ifb R (ifb (ieq e.2.2.1 0) (Ã (Ů (((e.2.2.2.2.1,e.2.2.2.2.2.1),e.2.2.2.2.2.2.1,e.2.2.2.2.2.2.2.1,e.2.2.2.2.2.2.2.2.1,e.2.2.2.2.2.2.2.2.2.1,e.2.2.2.2.2.2.2.2.2.2.1),e.2.2.2.2.2.2.2.2.2.2.2) e.1) fun S=>Ã (Ĩ e.2.1 S) fun T=>k T) (k false)) (k false))))) (M,(1:Int)))) (a.2.2.2.2.1,(0:Int))))))))))
def uP (a:a8) (b:an) (c:Int):BY (Bool):=uG a b c some
end Go.Proofs.ZzM
end
