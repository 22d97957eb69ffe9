/- lemmas -/
import Derived.Test.YtanjeafjkgllhaaGreatDoorAmC
set_option linter.all false
noncomputable section
variable {ρ:Type}
set_option maxRecDepth 100000
namespace Go.Proofs.ZzM
open Go Go.Am
variable [LC]
abbrev tI:Ty:=.int .i64
abbrev Ç:Ty:=(.pair tI tI)
abbrev ī:Ty:=(.pair tI (.slice tI))
abbrev Ō:Ty:=(.pair tI Ç)
abbrev ŋ:Ty:=(.pair Ç Ç)
abbrev LR:Ty:=(.pair Ç tI)
abbrev jm:Ty:=(.pair tI LR)
abbrev Zz:Ty:=(.pair ŋ tI)
abbrev Ó:Ty:=(.pair tI (.slice Ō))
abbrev BS:Ty:=(.pair (.slice Ō) (.slice Ç))
abbrev Ö:Ty:=(.pair tI (.pair tI (.pair tI (.pair Ç LR))))
abbrev Ü:Ty:=(.pair tI (.pair tI (.pair (.slice tI) (.pair (.slice tI) (.pair tI Ō)))))
abbrev Ë:Ty:=(.pair Ç (.pair (.slice Ö) (.pair (.slice Ç) (.pair (.slice jm) (.pair (.slice Ü) (.slice Ç))))))
abbrev Â:Ty:=(.pair Ë (.slice ī))
abbrev AU:Ty:=(.pair Ë (.pair (.slice Ç) (.pair Ó (.slice Ç))))
def yf (l:w9 Int):w8 (w9 Int):=Ú (Ý l.length) (some l)
def HJ:Nat->w9 Int->w9 (w9 Int)
  |0,_=>[[]]
  |n+1,l=>if l.length=0 then[[]] else(List.range l.length).flatMap fun i=>(HJ n (l.take i++l.drop (i+1))).map (l.getD i 0::·)
def jP:w9 (Int×w9 Int)->w9 (w9 (w9 Int))
  |[]=>[[]]
  |m::r=>(HJ m.2.length m.2).flatMap fun x=>(jP r).map (x::·)
def yh (l:w9 Int):w8 (w9 (w9 Int)):=Ú (decide (l.length<=9)) (some (HJ l.length l))
def l8 (l:w9 (Int×w9 Int)):w8 (w9 (w9 (w9 Int))):=Ú (decide (l.length<=9)&&l.all fun m=>decide (m.2.length<=9)) (some (jP l))
abbrev aa:Ty:=(.slice Ç)
abbrev ab:Ty:=(.slice tI)
abbrev ac:Ty:=(.slice Ü)
abbrev ae:Ty:=(.slice Ö)
abbrev af:Ty:=(.slice jm)
abbrev ah:Ty:=(.slice (.slice ab))
abbrev ai:Ty:=(.pair tI (.pair tI (.pair ae (.pair aa (.pair af (.pair ac (.pair aa (.slice ī))))))))
abbrev aj:Ty:=(.slice ī)
abbrev ak:Ty:=(.slice ab)
abbrev am:Ty:=(.slice Ō)
abbrev ao:Ty:=(.pair tI (.pair tI (.pair ae (.pair aa (.pair af (.pair ac aa))))))
abbrev aq:Ty:=(.pair tI (.pair tI (.pair ae (.pair aa (.pair af (.pair ac (.pair aa (.pair tI ao))))))))
abbrev ar:Ty:=(.pair tI (.pair tI (.pair ae (.pair aa (.pair af (.pair ac (.pair aa ao)))))))
abbrev au:Ty:=(.slice .str)
abbrev aw:Ty:=(.pair tI (.pair tI (.pair ae (.pair aa (.pair af (.pair ac (.pair aa (.pair aj (.pair tI aj)))))))))
abbrev ax:Ty:=(.map tI Ö)
abbrev ay:Ty:=(.map tI .bool)
abbrev az:Ty:=(.pair tI (.pair tI (.pair tI Ō)))
abbrev aB:Ty:=(.slice .bool)
abbrev aD:Ty:=(.ptr Â)
abbrev aE:Ty:=(.pair tI (.pair tI (.pair ae (.pair aa (.pair af (.pair ac (.pair aa (.pair aj ai))))))))
abbrev aF:Ty:=(.pair tI (.pair ah ai))
abbrev aG:Ty:=(.pair tI (.pair tI (.pair ae (.pair aa (.pair af (.pair ac (.pair aa (.pair aj tI))))))))
abbrev aH:Ty:=(.pair ab tI)
abbrev aI:Ty:=(.pair tI (.pair tI (.pair ae (.pair aa (.pair af (.pair ac (.pair aa tI)))))))
abbrev aJ:Ty:=(.pair tI (.pair tI (.pair ae (.pair aa (.pair af (.pair ac (.pair aa (.pair aj (.pair tI ī)))))))))
abbrev aK:Ty:=(.pair tI ai)
abbrev aL:Ty:=(.pair tI ah)
abbrev aM:Ty:=(.pair ab (.pair tI (.pair tI (.pair tI (.pair ae (.pair aa (.pair af (.pair ac (.pair aa (.pair tI (.pair ab (.map tI tI))))))))))))
abbrev aO:Ty:=(.ptr ak)
abbrev aP:Ty:=(.pair tI (.pair tI (.pair tI (.pair ae (.pair aa (.pair af (.pair ac (.pair aa (.pair tI (.pair tI az))))))))))
abbrev aQ:Ty:=(.pair aB ab)
abbrev aR:Ty:=(.pair ab (.pair aB (.pair ab ab)))
abbrev aS:Ty:=(.pair tI (.pair tI (.pair tI (.pair tI (.pair tI aF)))))
abbrev aT:Ty:=(.pair tI ī)
abbrev aU:Ty:=(.map tI Ç)
abbrev aV:Ty:=(.pair tI Ó)
abbrev aW:Ty:=(.pair .bool tI)
abbrev aX:Ty:=(.pair ab (.pair tI (.pair tI aH)))
abbrev aY:Ty:=(.pair .str tI)
abbrev aZ:Ty:=(.pair tI ac)
abbrev ba:Ty:=(.pair .str az)
abbrev bc:Ty:=(.pair ab ī)
abbrev bf:Ty:=(.pair Â ak)
abbrev bg:Ty:=(.map tI tI)
abbrev bh:Ty:=(.pair tI aa)
abbrev bi:Ty:=(.pair tI au)
abbrev bj:Ty:=(.pair tI ak)
abbrev bm:Ty:=(.pair ab (.pair aj ab))
abbrev bn:Ty:=(.pair aa (.pair tI (.pair tI (.pair tI az))))
abbrev bo:Ty:=(.pair tI (.pair tI aK))
abbrev bp:Ty:=(.pair Ë (.pair ax tI))
abbrev bq:Ty:=(.pair tI (.pair tI (.pair am Ó)))
abbrev br:Ty:=(.pair .str ar)
abbrev ag:=Val ab
abbrev an:=Val ah
abbrev a7:=Val Â
abbrev a8:=Val aa
abbrev bl:=Val Ç
abbrev bx:=Val ak
abbrev b5:=Val Ë
abbrev b6:=Val aj
abbrev c7:=Val ac
abbrev dx:=Val ae
abbrev dy:=Val af
abbrev ek:=Val ī
abbrev ew:=Val Ó
abbrev fx:=Val am
abbrev fy:=Val au
abbrev ge:=Val (.map tI Ö)
abbrev gf:=Val Ü
abbrev hO:=Val aL
abbrev im:=Val (.pair ab ab)
abbrev io:=Val (.pair tI (.pair ab aQ))
abbrev js:=Val (.pair (.int .u64) (.int .u64))
abbrev kw:=Val (.pair tI BS)
abbrev ly:=Val ax
abbrev lA:=Val (.pair tI (.pair tI .bool))
abbrev l7:=Val aH
abbrev ni:=Val ŋ
abbrev nj:=Val (.pair Â tI)
abbrev nn:=Val (.pair Ë tI)
abbrev nx:=Val (.pair ak tI)
abbrev nR:=Val (.pair Ë Ç)
abbrev nT:=Val (.pair ak .bool)
abbrev pc:=Val Ō
abbrev pg:=Val (.pair tI (.slice tI))
abbrev pi:=Val jm
abbrev pl:=Val Ö
abbrev px:=Val aF
abbrev py:=Val aB
abbrev qs:=Val (.pair Â ab)
abbrev rd:=Val (.pair aa tI)
abbrev rm:=Val (.pair tI aQ)
abbrev rn:=Val (.pair tI aL)
abbrev rx:=Val (.pair tI aF)
abbrev ry:=Val (.pair tI aZ)
abbrev so:=Val (.pair tI aT)
abbrev sT:=Val (.pair ah tI)
abbrev th:=Val aW
abbrev tl:=Val aY
abbrev v6:=Val ai
abbrev v7:=Val ba
abbrev v8:=Val aq
abbrev wk:=Val (.pair ab .bool)
abbrev wl:=Val bh
abbrev w7:=Val bi
variable [LC]
def Ŵ (d:bx) (e:Int) (b:Int) (a:Int) (f:Int->Int->w8 ρ) (g:Int->w8 ρ):w8 ρ :=
  ifb (ilt a e) (ø d a fun h=>ck (b+(Ô h)) fun c=>ifb (ilt c 0) (none) (ck (a+(1:Int)) fun i=>f c i)) (g b)
def Ė (d:bx) (e:Int) (a:Int) (b:ag) (f:Int->ag->w8 ρ) (g:ag->w8 ρ):w8 ρ :=
  ifb (ilt a e) (ø d a fun c=>Ú (Ý ((List.length b)+(List.length c))) (ck (a+(1:Int)) fun h=>f h (b++c))) (g b)
def qM (a:bx) (k:ag->w8 ρ):w8 ρ :=
  É (fun(c:bl) g=>Ŵ a (Ô a) c.1 c.2 (fun h i=>g (h,i)) (fun d=>ifb (ilt d 0) (none) (ck (d-(0:Int)) fun b=>ifb (igt b 0) (Ú ((ilt 0 b)&&(Ý (Int.toNat b))) (Ú (ile 0 (ï (List.replicate (Int.toNat b) (0:Int)))) (É (fun(e:ek) j=>Ė a (Ô a) e.1 e.2 (fun l m=>j (l,m)) (fun n=>k n)) ((0:Int),(List.take 0 (List.replicate (Int.toNat b) (0:Int))))))) (É (fun(f:ek) o=>Ė a (Ô a) f.1 f.2 (fun p q=>o (p,q)) (fun r=>k r)) ((0:Int),[]))))) ((0:Int),(0:Int))
def ĝ (a:bx):w8 (ag):=qM a some
def oV (al:bx) (rec:ag->w8 (bx)) (a:Int) (b:bx) (y:ag) (c:bx->w8 ρ):w8 ρ :=
  Ú (Ý ((List.length ([a]))+(List.length y))) (yg al (b++[(([a])++y)]) (c (b++[(([a])++y)])))
def oW (al:bx) (rec:ag->w8 (bx)) (e:ag) (f:Int) (b:ag) (a:Int) (d:bx) (g:Int->bx->w8 ρ) (h:bx->w8 ρ):w8 ρ :=
  ifb (ilt a f) (ø e a fun i=>Ú ((ile 0 a)&&(ile a (ï b))) (ck (a+(1:Int)) fun c=>Ú ((ile 0 c)&&(ile c (ï b))) (Ã (ĝ ([(List.take (Int.toNat a) b),(List.drop (Int.toNat c) b)])) fun j=>Ã (rec j) fun k=>xy (fun(l:bx) (m:ag) n=>oV al rec i l m (fun o=>n o)) k (d) (fun p=>ck (a+(1:Int)) fun q=>g q p)))) (h d)
def wD (al:bx) (rec:ag->w8 (bx)) (mm:ag) (k:(bx)×(ag)->w8 ρ):w8 ρ :=
  ifb (ieq (Ô mm) 0) (yg al (([])++[[]]) (k ((([])++[[]]),mm))) (É (fun(a:Val bj) b=>oW al rec mm (Ô mm) mm a.1 a.2 (fun c d=>b (c,d)) (fun e=>k (e,mm))) ((0:Int),[]))
def lX (al:an) (rec:b6->w8 (an)) (a:ag) (b:an) (y:bx) (c:an->w8 ρ):w8 ρ :=
  Ú (Ý ((List.length ([a]))+(List.length y))) (yg al (b++[(([a])++y)]) (c (b++[(([a])++y)])))
def lY (al:an) (rec:b6->w8 (an)) (a:b6) (b:an) (y:ag) (c:an->w8 ρ):w8 ρ :=
  Ú (ile 1 (ï a)) (Ã (rec (List.drop 1 a)) fun d=>xy (fun(e:an) (f:bx) g=>lX al rec y e f (fun h=>g h)) d (b) (fun i=>c i))
def rK (al:an) (rec:b6->w8 (an)) (mm:b6) (k:(an)×(b6)->w8 ρ):w8 ρ :=
  ifb (ieq (Ô mm) 0) (yg al (([])++[[]]) (k ((([])++[[]]),mm))) (ø mm (0:Int) fun a=>Ã (yh a.2) fun b=>xy (fun(c:an) (d:ag) e=>lY al rec mm c d (fun f=>e f)) b ([]) (fun g=>k (g,mm)))
def ψ (al:ag) (rec:ag->w8 (ag)) (d:ag) (e:Int) (a:Int) (b:ag) (f:Int->ag->w8 ρ) (g:ag->w8 ρ):w8 ρ :=
  ifb (ilt a e) (ø d a fun c=>yg al (b++[c]) (ck (a+(1:Int)) fun h=>f h (b++[c]))) (g b)
def jz (al:ag) (rec:ag->w8 (ag)) (mm:ag) (k:(ag)×(ag)->w8 ρ):w8 ρ :=
  É (fun(a:ek) b=>ψ al rec mm (Ô mm) a.1 a.2 (fun c d=>b (c,d)) (fun e=>k (e,mm))) ((0:Int),[])
def NY (a:bl) (b:Int) (c:Int) (k:Bool->w8 ρ):w8 ρ :=
  ifb (ile b a.1) (ifb (ile a.1 a.2) (k (ile a.2 c)) (k false)) (k false)
def ű (a:bl) (b:Int) (c:Int):w8 (Bool):=NY a b c some
def NV (a:Int) (b:Int) (c:Int) (k:Bool->w8 ρ):w8 ρ :=
  ifb (ile b a) (k (ile a c)) (k false)
def Ē (a:Int) (b:Int) (c:Int):w8 (Bool):=NV a b c some
def Sl (a:Int) (k:Bool->w8 ρ):w8 ρ :=
  Ã (Ē a (0:Int) (20000:Int)) fun b=>k b
def lz (a:Int):w8 (Bool):=Sl a some
def Wt (a:Int) (k:Int->w8 ρ):w8 ρ :=
  ifb (ilt a 0) (k (IntKind.wrap .u64 (0-(IntKind.wrap .u64 a)))) (k (IntKind.wrap .u64 a))
def rB (a:Int):w8 (Int):=Wt a some
def ya (b:Int) (a:Int) (c:Int->Int->w8 ρ) (d:Int->w8 ρ):w8 ρ :=
  ifb (ine a 0) (ifb (kI a 0) (none) (c a (Int.tmod b a))) (d b)
def aaV (b:Int) (c:Int) (k:Int->w8 ρ):w8 ρ :=
  É (fun(a:js) d=>ya a.1 a.2 (fun e f=>d (e,f)) (fun g=>k g)) (b,c)
def K3 (a:Int) (b:Int):w8 (Int):=aaV a b some
def Sf (a:bl) (k:Bool->w8 ρ):w8 ρ :=
  ifb (ige a.2 1) (ifb (ile a.2 2147483647) (Ã (rB a.1) fun b=>ifb (ile b 2147483647) (Ã (rB a.1) fun c=>Ã (rB a.2) fun d=>Ã (K3 c d) fun e=>k (ieq e 1)) (k false)) (k false)) (k false)
def tF (a:bl):w8 (Bool):=Sf a some
def Bx (a:pl) (k:Bool->w8 ρ):w8 ρ :=
  Ã (tF a.2.2.2.2.1) fun b=>ifb b (Ã (Ē a.2.2.2.2.1.1 (-1000:Int) (1000:Int)) fun c=>ifb c (Ã (Ē a.1 (1:Int) (1099511627776:Int)) fun d=>ifb d (Ã (lz a.2.1) fun e=>ifb e (Ã (Ē a.2.2.1 (1:Int) (1125899906842624:Int)) fun f=>ifb f (Ã (ű a.2.2.2.1 (-1073741824:Int) (1073741824:Int)) fun g=>ifb g (ifb (ile a.2.2.2.2.1.2 100) (Ã (Ē a.2.2.2.2.2 (0:Int) (1048576:Int)) fun h=>k h) (k false)) (k false)) (k false)) (k false)) (k false)) (Ã (Ē a.1 (1:Int) (1099511627776:Int)) fun i=>ifb i (Ã (lz a.2.1) fun j=>ifb j (Ã (Ē a.2.2.1 (1:Int) (1125899906842624:Int)) fun l=>ifb l (Ã (ű a.2.2.2.1 (-1073741824:Int) (1073741824:Int)) fun m=>ifb m (k false) (k false)) (k false)) (k false)) (k false))) (Ã (Ē a.1 (1:Int) (1099511627776:Int)) fun n=>ifb n (Ã (lz a.2.1) fun o=>ifb o (Ã (Ē a.2.2.1 (1:Int) (1125899906842624:Int)) fun p=>ifb p (Ã (ű a.2.2.2.1 (-1073741824:Int) (1073741824:Int)) fun q=>ifb q (k false) (k false)) (k false)) (k false)) (k false))
def uJ (a:pl):w8 (Bool):=Bx a some
def iG (e:dx) (f:Int) (g:dx) (a:Int) (b:Int->w8 ρ) (c:Int->w8 ρ) (h:Unit->w8 ρ):w8 ρ :=
  ifb (ilt a f) (ø e a fun d=>Ã (uJ d) fun i=>ifb (!i) (c (1:Int)) (ifb (igt a 0) (ck (a-(1:Int)) fun j=>ø g j fun k=>ifb (ile d.1 k.1) (c (6:Int)) (ck (a+(1:Int)) fun l=>b l)) (ck (a+(1:Int)) fun m=>b m))) (h ())
def xp (a:b5) (k:Int->w8 ρ):w8 ρ :=
  É (fun(b:Int) c=>iG a.2.1 (Ô a.2.1) a.2.1 b (fun d=>c d) (fun e=>k e) (fun _=>k (0:Int))) (0:Int)
def Ŧ (a:b5):w8 (Int):=xp a some
def ml (d:dx) (e:Int) (a:Int) (b:ly) (f:Int->ly->w8 ρ) (g:ly->w8 ρ):w8 ρ :=
  ifb (ilt a e) (ø d a fun c=>ck (a+(1:Int)) fun h=>f h (Pb (k:=tI) (v:=Ö) c.1 c b)) (g b)
def JX (a:b5) (k:ly->w8 ρ):w8 ρ :=
  É (fun(b:(Val (.pair tI ax))) c=>ml a.2.1 (Ô a.2.1) b.1 b.2 (fun d e=>c (d,e)) (fun f=>k f)) ((0:Int),[])
def ĸ (a:b5):w8 (ly):=JX a some
def Δ (b:ag) (c:Int) (d:Int) (a:Int) (e:Int->w8 ρ) (f:Int->w8 ρ) (g:Unit->w8 ρ):w8 ρ :=
  ifb (ilt a d) (ø b a fun h=>ifb (ieq c h) (f a) (ck (a+(1:Int)) fun i=>e i)) (g ())
def sQ (a:ag) (b:Int) (k:Int->w8 ρ):w8 ρ :=
  É (fun(c:Int) d=>Δ a b (Ô a) c (fun e=>d e) (fun f=>k f) (fun _=>k (-1:Int))) (0:Int)
def Ω (a:ag) (b:Int):w8 (Int):=sQ a b some
def nI (a:ag) (b:Int) (k:Bool->w8 ρ):w8 ρ :=
  Ã (Ω a b) fun c=>k (ige c 0)
def à (a:ag) (b:Int):w8 (Bool):=nI a b some
def uA (f:c7) (g:Int) (d:Int) (a:Int) (b:ag) (e:Int->ag->w8 ρ) (h:ag->w8 ρ):w8 ρ :=
  ifb (ilt a g) (ø f a fun c=>Ã (à c.2.2.1 d) fun i=>Ã (à c.2.2.2.1 d) fun j=>ifb (!(i==j)) (Ú (Ý ((List.length b)+(List.length ([c.2.1])))) (ck (a+(1:Int)) fun k=>e k (b++([c.2.1])))) (ck (a+(1:Int)) fun l=>e l b)) (h b)
def uz (e:a8) (f:Int) (g:Int) (a:Int) (b:ag) (d:Int->ag->w8 ρ) (h:ag->w8 ρ):w8 ρ :=
  ifb (ilt a f) (ø e a fun c=>ifb (ieq c.1 g) (Ú (Ý ((List.length b)+(List.length ([c.2])))) (ck (a+(1:Int)) fun i=>d i (b++([c.2])))) (ck (a+(1:Int)) fun j=>d j b)) (h b)
def WB (a:b5) (b:pl) (k:ag->w8 ρ):w8 ρ :=
  É (fun(d:ek) f=>uA a.2.2.2.2.1 (Ô a.2.2.2.2.1) b.1 d.1 d.2 (fun g h=>f (g,h)) (fun i=>É (fun(e:ek) j=>uz a.2.2.2.2.2 (Ô a.2.2.2.2.2) b.1 e.1 e.2 (fun l m=>j (l,m)) (fun c=>Ú (Ý (List.length c)) (Ú (Ý (List.length (Ex c))) (k (yA (Ex c)))))) ((0:Int),i))) ((0:Int),[b.2.1])
def oj (a:b5) (b:pl):w8 (ag):=WB a b some
def qV (e:ag) (f:Int) (c:Int) (a:Int) (b:a8) (g:Int->a8->w8 ρ) (h:a8->w8 ρ):w8 ρ :=
  ifb (ilt a f) (ø e a fun d=>Ú (Ý ((List.length b)+(List.length ([(c,d)])))) (ck (a+(1:Int)) fun i=>g i (b++([(c,d)])))) (h b)
def qW (f:dx) (g:Int) (h:Int) (i:Int) (j:dx) (k:a8) (l:dy) (m:c7) (n:a8) (a:Int) (b:a8) (o:Int->a8->w8 ρ) (p:a8->w8 ρ):w8 ρ :=
  ifb (ilt a g) (ø f a fun c=>Ã (oj ((h,i),j,k,l,m,n) c) fun d=>É (fun(e:wl) q=>qV d (Ô d) c.1 e.1 e.2 (fun r s=>q (r,s)) (fun t=>ck (a+(1:Int)) fun u=>o u t)) ((0:Int),b)) (p b)
def Sk (a:b5) (k:a8->w8 ρ):w8 ρ :=
  É (fun(b:wl) c=>qW a.2.1 (Ô a.2.1) a.1.1 a.1.2 a.2.1 a.2.2.1 a.2.2.2.1 a.2.2.2.2.1 a.2.2.2.2.2 b.1 b.2 (fun d e=>c (d,e)) (fun f=>k f)) ((0:Int),[])
def pK (a:b5):w8 (a8):=Sk a some
def Ag (a:ly) (b:Int) (c:Int) (k:Int->w8 ρ):w8 ρ :=
  N8 (k:=tI) (v:=Ö) b a (fun d=>ifb (ilt c d.2.1) (k (4:Int)) (k (0:Int))) (k (5:Int))
def ix (a:ly) (b:Int) (c:Int):w8 (Int):=Ag a b c some
def J2 (b:Int) (a:Int) (c:(Val (.ptr ax))) (k:Int->w8 ρ):w8 ρ :=
  Ã (lz a) fun d=>ifb (!d) (k (1:Int)) (Ã (ix c b a) fun e=>k e)
def Ĺ (a:Int) (b:Int) (c:(Val (.ptr ax))):w8 (Int):=J2 a b c some
def jX (d:dy) (e:Int) (f:Int) (g:Int) (h:Int) (a:Int) (b:Int->w8 ρ) (i:Int->w8 ρ) (j:Unit->w8 ρ):w8 ρ :=
  ifb (ilt a e) (ø d a fun c=>ifb (ieq c.1 f) (ifb (ile c.2.1.1 h) (ifb (ile g c.2.1.2) (i a) (ck (a+(1:Int)) fun k=>b k)) (ck (a+(1:Int)) fun l=>b l)) (ck (a+(1:Int)) fun m=>b m)) (j ())
def Ű (d:a8) (e:Int) (f:Int) (g:Int) (h:Int) (a:Int) (b:Int->w8 ρ) (i:Int->w8 ρ) (j:Unit->w8 ρ):w8 ρ :=
  ifb (ilt a e) (ø d a fun c=>ifb (ieq c.1 f) (Ã (Ē c.2 g h) fun k=>ifb k (i a) (ck (a+(1:Int)) fun l=>b l)) (ck (a+(1:Int)) fun m=>b m)) (j ())
def uB (b:b5) (e:ly) (c:Int) (k:Int->w8 ρ):w8 ρ :=
  ø b.2.2.2.1 c fun a=>Ã (ű a.2.1 (0:Int) (20000:Int)) fun f=>ifb (!f) (k (1:Int)) (Ã (Ē a.2.2 (0:Int) (1048576:Int)) fun g=>ifb (!g) (k (1:Int)) (Ã (ix e a.1 a.2.1.1) fun d=>ifb (ine d 0) (k d) (Ú ((ile 0 c)&&(ile c (ï b.2.2.2.1))) (É (fun(h:Int) i=>jX (List.take (Int.toNat c) b.2.2.2.1) (Ô (List.take (Int.toNat c) b.2.2.2.1)) a.1 a.2.1.1 a.2.1.2 h (fun j=>i j) (fun l=>ifb (ige l 0) (k (9:Int)) (É (fun(m:Int) n=>Ű b.2.2.1 (Ô b.2.2.1) a.1 a.2.1.1 a.2.1.2 m (fun o=>n o) (fun p=>ifb (ige p 0) (k (9:Int)) (k (0:Int))) (fun _=>k (0:Int))) (0:Int))) (fun _=>É (fun(q:Int) r=>Ű b.2.2.1 (Ô b.2.2.1) a.1 a.2.1.1 a.2.1.2 q (fun s=>r s) (fun t=>ifb (ige t 0) (k (9:Int)) (k (0:Int))) (fun _=>k (0:Int))) (0:Int))) (0:Int)))))
def Ŷ (a:b5) (b:ly) (c:Int):w8 (Int):=uB a b c some
def od (e:ag) (f:ag) (g:Int) (a:Int) (b:Int->w8 ρ) (c:Bool->w8 ρ) (h:Unit->w8 ρ):w8 ρ :=
  ifb (ilt a g) (ø f a fun d=>Ã (Ē d (1:Int) (1099511627776:Int)) fun i=>ifb (!i) (c false) (ifb (igt a 0) (ck (a-(1:Int)) fun j=>ø e j fun k=>ifb (ile d k) (c false) (ck (a+(1:Int)) fun l=>b l)) (ck (a+(1:Int)) fun m=>b m))) (h ())
def NX (a:ag) (k:Bool->w8 ρ):w8 ρ :=
  É (fun(b:Int) c=>od a a (Ô a) b (fun d=>c d) (fun e=>k e) (fun _=>k (ile (Ô a) 6))) (0:Int)
def mf (a:ag):w8 (Bool):=NX a some
def uw (c:Int) (d:ag) (b:ag) (a:Int) (e:Int->w8 ρ) (f:Int->w8 ρ) (g:Unit->w8 ρ):w8 ρ :=
  ifb (ilt a c) (Ú ((ile 0 a)&&(ilt a (ï b))) (ĵ b (Int.toNat a) fun h=>Ã (à d h) fun i=>ifb i (f a) (ck (a+(1:Int)) fun j=>e j))) (g ())
def ke (f:ag) (b:Int) (c:Int) (a:ag) (d:Int->Int->ag->w8 ρ) (g:ek->w8 ρ):w8 ρ :=
  ifb (ilt c (Ô a)) (Ú ((ile 0 c)&&(ilt c (ï a))) (ĵ a (Int.toNat c) fun e=>Ã (à f e) fun h=>ifb (!h) (Ú ((ile 0 b)&&(ilt b (ï a))) (ĵ a (Int.toNat b) fun l=>ck (b+(1:Int)) fun i=>ck (c+(1:Int)) fun j=>d i j (List.set a (Int.toNat b) e))) (ck (c+(1:Int)) fun k=>d b k a))) (g (b,a))
def Wz (b:ag) (e:ag) (k:ag->w8 ρ):w8 ρ :=
  Ú (Ý (List.length b)) (É (fun(f:Int) g=>uw (Ô b) e b f (fun h=>g h) (fun c=>ifb (ieq c (-1:Int)) (k b) (ck (c+(1:Int)) fun i=>É (fun(d:Val aT) j=>ke e d.1 d.2.1 d.2.2 (fun l m n=>j (l,m,n)) (fun a=>Ú ((ile 0 a.1)&&(ile a.1 (ï a.2))) (Ú ((ile 0 a.1)&&(ile a.1 (ï (List.take (Int.toNat a.1) a.2++List.replicate (List.length a.2-(Int.toNat a.1)) (0:Int)++List.drop ((Int.toNat a.1)+(List.length a.2-(Int.toNat a.1))) a.2)))) (k (List.take (Int.toNat a.1) (List.drop 0 (List.take (Int.toNat a.1) a.2++List.replicate (List.length a.2-(Int.toNat a.1)) (0:Int)++List.drop ((Int.toNat a.1)+(List.length a.2-(Int.toNat a.1))) a.2))))))) (c,i,b))) (fun _=>k b)) (0:Int))
def ŵ (a:ag) (b:ag):w8 (ag):=Wz a b some
def uC (d:dy) (e:Int) (f:Int) (g:Int) (a:Int) (c:Int->w8 ρ) (h:Int->w8 ρ) (i:Unit->w8 ρ):w8 ρ :=
  ifb (ilt a e) (ø d a fun b=>ifb (ieq b.1 f) (Ã (Ē g b.2.1.1 b.2.1.2) fun j=>ifb j (h a) (ck (a+(1:Int)) fun k=>c k)) (ck (a+(1:Int)) fun l=>c l)) (i ())
def WD (a:b5) (c:Int) (d:Int) (k:(Val (.pair jm .bool))->w8 ρ):w8 ρ :=
  É (fun(e:Int) f=>uC a.2.2.2.1 (Ô a.2.2.2.1) c d e (fun g=>f g) (fun b=>ifb (ilt b 0) (k (((0:Int),((0:Int),(0:Int)),(0:Int)),false)) (ø a.2.2.2.1 b fun h=>k (h,true))) (fun _=>k (((0:Int),((0:Int),(0:Int)),(0:Int)),false))) (0:Int)
def uK (a:b5) (b:Int) (c:Int):w8 ((Val (.pair jm .bool))):=WD a b c some
def gQ (b:c7) (c:Int) (d:Int) (a:Int) (e:Int->w8 ρ) (f:Int->w8 ρ) (g:Unit->w8 ρ):w8 ρ :=
  ifb (ilt a c) (ø b a fun h=>ifb (ieq h.1 d) (f a) (ck (a+(1:Int)) fun i=>e i)) (g ())
def ω (c:ly) (b:Int) (d:ag) (e:Int) (f:Int) (a:Int) (g:Int->w8 ρ) (h:Int->w8 ρ) (i:Unit->w8 ρ):w8 ρ :=
  ifb (ilt a e) (ø d a fun j=>Ã (ix c j f) fun k=>ifb (ieq k b) (h b) (ck (a+(1:Int)) fun l=>g l)) (i ())
def ń (d:ly) (b:ag) (e:Int) (f:Int) (c:ag) (a:Int) (g:Int->w8 ρ) (h:Int->w8 ρ) (i:Unit->w8 ρ):w8 ρ :=
  ifb (ilt a e) (Ú ((ile 0 a)&&(ilt a (ï c))) (ĵ c (Int.toNat a) fun j=>É (fun(k:Int) l=>ω d j b (Ô b) f k (fun m=>l m) (fun n=>h n) (fun _=>ck (a+(1:Int)) fun o=>g o)) (0:Int))) (i ())
def Ń (b:ag) (c:Int) (d:Int) (e:Int) (f:dx) (g:a8) (h:dy) (i:c7) (j:a8) (k:Int) (a:Int) (l:Int->w8 ρ) (m:Int->w8 ρ) (n:Unit->w8 ρ):w8 ρ :=
  ifb (ilt a c) (ø b a fun o=>Ã (uK ((d,e),f,g,h,i,j) o k) fun p=>ifb p.2 (m (9:Int)) (ck (a+(1:Int)) fun q=>l q)) (n ())
def nA (b:b5) (f:ly) (c:Int) (k:Int->w8 ρ):w8 ρ :=
  ø b.2.2.2.2.1 c fun a=>Ã (Ē a.1 (1:Int) (1099511627776:Int)) fun l=>ifb (!l) (k (1:Int)) (Ã (lz a.2.1) fun m=>ifb (!m) (k (1:Int)) (Ã (Ē a.2.2.2.2.1 (-1125899906842624:Int) (1125899906842624:Int)) fun n=>ifb (!n) (k (1:Int)) (Ã (Ē a.2.2.2.2.2.1 (0:Int) (1073741824:Int)) fun o=>ifb (!o) (k (1:Int)) (Ã (ű a.2.2.2.2.2.2 (-10000:Int) (10000:Int)) fun p=>ifb (!p) (k (1:Int)) (Ã (mf a.2.2.1) fun q=>ifb (!q) (k (1:Int)) (Ã (mf a.2.2.2.1) fun r=>ifb (!r) (k (1:Int)) (Ú ((ile 0 c)&&(ile c (ï b.2.2.2.2.1))) (É (fun(s:Int) t=>gQ (List.take (Int.toNat c) b.2.2.2.2.1) (Ô (List.take (Int.toNat c) b.2.2.2.2.1)) a.1 s (fun u=>t u) (fun v=>ifb (ige v 0) (k (6:Int)) (Ã (ĝ ([a.2.2.1,a.2.2.2.1])) fun d=>É (fun(w:Int) x=>ń f d (Ô ([(5:Int),(4:Int)])) a.2.1 ([(5:Int),(4:Int)]) w (fun y=>x y) (fun z=>k z) (fun _=>É (fun(A:Int) B=>Ń d (Ô d) b.1.1 b.1.2 b.2.1 b.2.2.1 b.2.2.2.1 b.2.2.2.2.1 b.2.2.2.2.2 a.2.1 A (fun C=>B C) (fun D=>k D) (fun _=>Ã (ŵ a.2.2.1 a.2.2.2.1) fun g=>Ã (ŵ a.2.2.2.1 a.2.2.1) fun h=>ifb (igt (Ô g) 1) (k (1:Int)) (ifb (igt (Ô h) 1) (k (1:Int)) (ck ((Ô g)+(Ô h)) fun E=>ifb (ieq E 0) (k (1:Int)) (k (0:Int)))))) (0:Int))) (0:Int))) (fun _=>Ã (ĝ ([a.2.2.1,a.2.2.2.1])) fun e=>É (fun(F:Int) G=>ń f e (Ô ([(5:Int),(4:Int)])) a.2.1 ([(5:Int),(4:Int)]) F (fun H=>G H) (fun I=>k I) (fun _=>É (fun(J:Int) K=>Ń e (Ô e) b.1.1 b.1.2 b.2.1 b.2.2.1 b.2.2.2.1 b.2.2.2.2.1 b.2.2.2.2.2 a.2.1 J (fun L=>K L) (fun M=>k M) (fun _=>Ã (ŵ a.2.2.1 a.2.2.2.1) fun i=>Ã (ŵ a.2.2.2.1 a.2.2.1) fun j=>ifb (igt (Ô i) 1) (k (1:Int)) (ifb (igt (Ô j) 1) (k (1:Int)) (ck ((Ô i)+(Ô j)) fun N=>ifb (ieq N 0) (k (1:Int)) (k (0:Int)))))) (0:Int))) (0:Int))) (0:Int)))))))))
def Ľ (a:b5) (b:ly) (c:Int):w8 (Int):=nA a b c some
def nf (b:b5) (s:ly):w8 (w9 Int) :=
  Ã (IP (fun u=>Ĺ u.1 u.2 s) (b.2.2.1:w9 (Int×Int))) fun a=>Ã (IP (fun i=>Ŷ b s i) (vJ (b.2.2.2.1:w9 pi).length)) fun c =>
    Ã (IP (fun i=>Ľ b s i) (vJ (b.2.2.2.2.1:w9 gf).length)) fun d=>Ã (IP (fun u=>Ĺ u.1 u.2 s) (b.2.2.2.2.2:w9 (Int×Int))) fun e=>some (a++(c++(d++e)))
def Ko (a:b5) (k:Int->w8 ρ):w8 ρ :=
  Ã (ű a.1 (0:Int) (1000000:Int)) fun d=>ifb (!d) (k (1:Int)) (ifb (igt (Ô a.2.1) 12) (k (2:Int)) (ifb (igt (Ô a.2.2.1) 40) (k (2:Int)) (ifb (igt (Ô a.2.2.2.1) 12) (k (2:Int)) (ifb (igt (Ô a.2.2.2.2.1) 40) (k (2:Int)) (ifb (igt (Ô a.2.2.2.2.2) 10) (k (2:Int)) (Ã (Ŧ a) fun b=>ifb (ine b 0) (k b) (Ã (ĸ a) fun e=>QY (nf a e) (fun f=>k f) (Ã (pK a) fun c=>ifb (igt (Ô c) 59) (k (2:Int)) (ck ((2:Int)*(Ô a.2.1)) fun g=>ck ((Ô c)-(Ô a.2.1)) fun h=>ck ((2:Int)*h) fun i=>ck (g+i) fun j=>ck ((2:Int)*(Ô a.2.2.2.2.1)) fun l=>ck (j+l) fun m=>ifb (igt m 300) (k (2:Int)) (k (0:Int)))))))))))
def ŧ (a:b5):w8 (Int):=Ko a some
def DY (a:w9 Int):w8 (Int×Int×Int×Int×Int):=some (a.getD 0 0,a.getD 1 0,a.getD 2 0,a.getD 3 0,a.getD 4 0)
variable [LC]
def nX (b:c7) (a:Int) (e:Int->w8 ρ) (c:Bool->w8 ρ) (d:Unit->w8 ρ):w8 ρ :=
  ifb (ilt a (Ô b)) (ifb (ilt a 60) (ø b a fun f=>ifb (igt (Ô f.2.2.1) 9) (c false) (ø b a fun g=>ifb (igt (Ô g.2.2.2.1) 9) (c false) (ck (a+(1:Int)) fun h=>e h))) (d ())) (d ())
def kO (b:b6) (a:Int) (d:Int->w8 ρ) (e:Bool->w8 ρ) (c:Unit->w8 ρ):w8 ρ :=
  ifb (ilt a (Ô b)) (ifb (ilt a 8) (ø b a fun f=>ifb (igt (Ô f.2) 9) (e false) (ck (a+(1:Int)) fun g=>d g)) (c ())) (c ())
def NI (a:a7) (k:Bool->w8 ρ):w8 ρ :=
  É (fun(b:Int) c=>nX a.1.2.2.2.2.1 b (fun d=>c d) (fun e=>k e) (fun _=>É (fun(f:Int) g=>kO a.2 f (fun h=>g h) (fun i=>k i) (fun _=>ifb (ile (Ô a.1.2.1) 6) (ifb (ile (Ô a.1.2.2.1) 20) (ifb (ile (Ô a.1.2.2.2.1) 6) (ifb (ile (Ô a.1.2.2.2.2.1) 8) (ifb (ile (Ô a.1.2.2.2.2.2) 6) (k (ile (Ô a.2) 6)) (k false)) (k false)) (k false)) (k false)) (k false))) (0:Int))) (0:Int)
def yn (a:a7):w8 (Bool):=NI a some
def rh (b:ag) (c:Int) (a:Int) (d:Int->w8 ρ) (e:Int->w8 ρ) (f:Unit->w8 ρ):w8 ρ :=
  ifb (ilt a c) (ø b a fun g=>Ã (lz g) fun h=>ifb (!h) (e a) (ck (a+(1:Int)) fun i=>d i)) (f ())
def Ss (a:b5) (b:Int) (c:ag) (k:Int->w8 ρ):w8 ρ :=
  Ã (ŧ a) fun d=>ifb (ine d 0) (k d) (É (fun(e:Int) f=>rh c (Ô c) e (fun g=>f g) (fun h=>ifb (ige h 0) (k (1:Int)) (Ã (ĸ a) fun i=>N8 (k:=tI) (v:=Ö) b i (fun l=>k (0:Int)) (k (5:Int)))) (fun _=>Ã (ĸ a) fun j=>N8 (k:=tI) (v:=Ö) b j (fun m=>k (0:Int)) (k (5:Int)))) (0:Int))
def D8 (a:b5) (b:Int) (c:ag):w8 (Int):=Ss a b c some
def WE (a:b5) (b:Int) (c:Int) (k:th->w8 ρ):w8 ρ :=
  Ã (D8 a b ([c])) fun d=>ifb (ine d 0) (k (false,d)) (Ã (uK a b c) fun e=>k (e.2,(0:Int)))
def yw (a:b5) (b:Int) (c:Int):w8 (th):=WE a b c some
def mD (b:ag) (a:Int) (c:Int->w8 ρ) (d:Int->w8 ρ) (e:Unit->w8 ρ):w8 ρ :=
  ifb (ilt a (Ô b)) (ø b a fun f=>ck (a-(1:Int)) fun g=>ø b g fun h=>ifb (ile f h) (d (1:Int)) (ck (a+(1:Int)) fun i=>c i)) (e ())
def mC (d:dx) (e:Int) (a:Int) (b:Val bg) (f:Int->Val bg->w8 ρ) (g:Val bg->w8 ρ):w8 ρ :=
  ifb (ilt a e) (ø d a fun c=>ck (a+(1:Int)) fun h=>f h (Pb (k:=tI) (v:=tI) c.1 c.2.1 b)) (g b)
def mB (b:ag) (c:Int) (d:Val bg) (a:Int) (e:Int->w8 ρ) (f:Int->w8 ρ) (g:Unit->w8 ρ):w8 ρ :=
  ifb (ilt a c) (ø b a fun h=>N8 (k:=tI) (v:=tI) h d (fun j=>ck (a+(1:Int)) fun i=>e i) (f a)) (g ())
def kp (e:ag) (f:Int) (b:Int) (g:Val bg) (a:Int) (c:Int->w8 ρ) (d:Int->w8 ρ) (h:Unit->w8 ρ):w8 ρ :=
  ifb (ilt a f) (ø e a fun i=>N8 (k:=tI) (v:=tI) i g (fun j=>ifb (ilt b j) (d a) (ck (a+(1:Int)) fun l=>c l)) (ifb (ilt b 0) (d a) (ck (a+(1:Int)) fun m=>c m))) (h ())
def ļ (l:ag) (m:Int) (b:Int) (c:Int) (d:dx) (e:a8) (f:dy) (g:c7) (h:a8) (i:Int) (a:Int) (n:Int->w8 ρ) (j:Int->w8 ρ) (o:Unit->w8 ρ):w8 ρ :=
  ifb (ilt a m) (ø l a fun k=>Ã (yw ((b,c),d,e,f,g,h) k i) fun p=>ck (i+(1:Int)) fun q=>Ã (yw ((b,c),d,e,f,g,h) k q) fun r=>ifb p.1 (j a) (ifb r.1 (j a) (ck (a+(1:Int)) fun s=>n s))) (o ())
def Je (a:b5) (d:b6) (c:Int) (k:Int->w8 ρ):w8 ρ :=
  ø d c fun b=>ifb (ilt b.1 0) (k (1:Int)) (ifb (ige b.1 20000) (k (1:Int)) (ifb (ilt (Ô b.2) 2) (k (1:Int)) (ifb (igt (Ô b.2) 5) (k (1:Int)) (É (fun(g:Int) h=>mD b.2 g (fun i=>h i) (fun j=>k j) (fun _=>É (fun(f:(Val (.pair tI bg))) l=>mC a.2.1 (Ô a.2.1) f.1 f.2 (fun m n=>l (m,n)) (fun e=>É (fun(o:Int) p=>mB b.2 (Ô b.2) e o (fun q=>p q) (fun r=>ifb (ige r 0) (k (5:Int)) (É (fun(s:Int) t=>kp b.2 (Ô b.2) b.1 e s (fun u=>t u) (fun v=>ifb (ige v 0) (k (4:Int)) (ifb (igt c 0) (ck (c-(1:Int)) fun w=>ø d w fun x=>ifb (ile b.1 x.1) (k (6:Int)) (É (fun(y:Int) z=>ļ b.2 (Ô b.2) a.1.1 a.1.2 a.2.1 a.2.2.1 a.2.2.2.1 a.2.2.2.2.1 a.2.2.2.2.2 b.1 y (fun A=>z A) (fun B=>ifb (ige B 0) (k (9:Int)) (k (0:Int))) (fun _=>k (0:Int))) (0:Int))) (É (fun(C:Int) D=>ļ b.2 (Ô b.2) a.1.1 a.1.2 a.2.1 a.2.2.1 a.2.2.2.1 a.2.2.2.2.1 a.2.2.2.2.2 b.1 C (fun E=>D E) (fun F=>ifb (ige F 0) (k (9:Int)) (k (0:Int))) (fun _=>k (0:Int))) (0:Int)))) (fun _=>ifb (igt c 0) (ck (c-(1:Int)) fun G=>ø d G fun H=>ifb (ile b.1 H.1) (k (6:Int)) (É (fun(I:Int) J=>ļ b.2 (Ô b.2) a.1.1 a.1.2 a.2.1 a.2.2.1 a.2.2.2.1 a.2.2.2.2.1 a.2.2.2.2.2 b.1 I (fun K=>J K) (fun L=>ifb (ige L 0) (k (9:Int)) (k (0:Int))) (fun _=>k (0:Int))) (0:Int))) (É (fun(M:Int) N=>ļ b.2 (Ô b.2) a.1.1 a.1.2 a.2.1 a.2.2.1 a.2.2.2.1 a.2.2.2.2.1 a.2.2.2.2.2 b.1 M (fun O=>N O) (fun P=>ifb (ige P 0) (k (9:Int)) (k (0:Int))) (fun _=>k (0:Int))) (0:Int)))) (0:Int))) (fun _=>É (fun(Q:Int) R=>kp b.2 (Ô b.2) b.1 e Q (fun S=>R S) (fun T=>ifb (ige T 0) (k (4:Int)) (ifb (igt c 0) (ck (c-(1:Int)) fun U=>ø d U fun V=>ifb (ile b.1 V.1) (k (6:Int)) (É (fun(W:Int) X=>ļ b.2 (Ô b.2) a.1.1 a.1.2 a.2.1 a.2.2.1 a.2.2.2.1 a.2.2.2.2.1 a.2.2.2.2.2 b.1 W (fun Y=>X Y) (fun Z=>ifb (ige Z 0) (k (9:Int)) (k (0:Int))) (fun _=>k (0:Int))) (0:Int))) (É (fun(dc:Int) df=>ļ b.2 (Ô b.2) a.1.1 a.1.2 a.2.1 a.2.2.1 a.2.2.2.1 a.2.2.2.2.1 a.2.2.2.2.2 b.1 dc (fun dg=>df dg) (fun dh=>ifb (ige dh 0) (k (9:Int)) (k (0:Int))) (fun _=>k (0:Int))) (0:Int)))) (fun _=>ifb (igt c 0) (ck (c-(1:Int)) fun di=>ø d di fun dj=>ifb (ile b.1 dj.1) (k (6:Int)) (É (fun(dk:Int) dl=>ļ b.2 (Ô b.2) a.1.1 a.1.2 a.2.1 a.2.2.1 a.2.2.2.1 a.2.2.2.2.1 a.2.2.2.2.2 b.1 dk (fun dm=>dl dm) (fun dt=>ifb (ige dt 0) (k (9:Int)) (k (0:Int))) (fun _=>k (0:Int))) (0:Int))) (É (fun(du:Int) dv=>ļ b.2 (Ô b.2) a.1.1 a.1.2 a.2.1 a.2.2.1 a.2.2.2.1 a.2.2.2.2.1 a.2.2.2.2.2 b.1 du (fun dw=>dv dw) (fun dz=>ifb (ige dz 0) (k (9:Int)) (k (0:Int))) (fun _=>k (0:Int))) (0:Int)))) (0:Int))) (0:Int))) ((0:Int),[]))) (1:Int)))))
def D0 (a:b5) (b:b6) (c:Int):w8 (Int):=Je a b c some
def mG (c:Int) (b:Int) (a:Int) (d:Int->Int->w8 ρ) (e:Int->w8 ρ):w8 ρ :=
  ifb (ilt a c) (ck (a+(1:Int)) fun f=>ck (b*f) fun g=>ck (a+(1:Int)) fun h=>d g h) (e b)
def qL (e:b6) (f:Int) (g:Int) (h:Int) (i:dx) (j:a8) (k:dy) (l:c7) (m:a8) (n:b6) (b:Int) (a:Int) (o:Int->Int->w8 ρ) (p:Int->w8 ρ) (q:Int->w8 ρ):w8 ρ :=
  ifb (ilt a f) (ø e a fun r=>Ã (D0 ((g,h),i,j,k,l,m) n a) fun c=>ifb (ine c 0) (p c) (É (fun(d:bl) s=>mG (Ô r.2) d.1 d.2 (fun t u=>s (t,u)) (fun v=>ck (a+(1:Int)) fun w=>o v w)) (b,(0:Int)))) (q b)
def RX (a:a7) (k:Int->w8 ρ):w8 ρ :=
  Ã (ŧ a.1) fun b=>ifb (ine b 0) (k b) (ifb (igt (Ô a.2) 4) (k (2:Int)) (É (fun(c:bl) d=>qL a.2 (Ô a.2) a.1.1.1 a.1.1.2 a.1.2.1 a.1.2.2.1 a.1.2.2.2.1 a.1.2.2.2.2.1 a.1.2.2.2.2.2 a.2 c.1 c.2 (fun e f=>d (e,f)) (fun g=>k g) (fun h=>ifb (igt h 150) (k (2:Int)) (k (0:Int)))) ((1:Int),(0:Int))))
def Œ (a:a7):w8 (Int):=RX a some
def xY (f:bx) (g:Int) (d:b6) (b:Int) (a:Int) (c:Int->Int->w8 ρ) (h:Int->w8 ρ):w8 ρ :=
  ifb (ige a 0) (ø f a fun i=>Ã (Ω i b) fun e=>ifb (ige e 0) (ø d a fun j=>ifb (ilt j.1 g) (ø d a fun k=>ø k.2 e fun l=>ck (a-(1:Int)) fun m=>c l m) (ck (a-(1:Int)) fun n=>c b n)) (ck (a-(1:Int)) fun o=>c b o)) (h b)
def aaK (a:a7) (c:bx) (d:Int) (e:Int) (k:Int->w8 ρ):w8 ρ :=
  ck ((Ô a.2)-(1:Int)) fun f=>É (fun(b:bl) g=>xY c e a.2 b.1 b.2 (fun h i=>g (h,i)) (fun j=>k j)) (d,f)
def pG (a:a7) (b:bx) (c:Int) (d:Int):w8 (Int):=aaK a b c d some
def iF (d:Int) (e:Val aD) (f:Val aO) (g:ag) (h:Int) (a:Int) (b:ag) (i:Int->ag->w8 ρ) (j:ag->w8 ρ):w8 ρ :=
  ifb (ilt a h) (ø g a fun k=>Ã (pG e f k d) fun c=>Ú (Ý ((List.length b)+(List.length ([c])))) (ck (a+(1:Int)) fun l=>i l (b++([c])))) (j b)
def wB (a:ag) (d:Int) (e:Val aD) (f:Val aO) (k:ag->w8 ρ):w8 ρ :=
  É (fun(b:ek) g=>iF d e f a (Ô a) b.1 b.2 (fun h i=>g (h,i)) (fun c=>Ú (Ý (List.length c)) (k (Ex c)))) ((0:Int),[])
def iU (a:ag) (b:Int) (c:Val aD) (d:Val aO):w8 (ag):=wB a b c d some
def jV (e:Val aD) (f:Val aO) (g:a8) (h:Int) (b:Int) (c:a8) (i:Int->a8->w8 ρ) (j:a8->w8 ρ):w8 ρ :=
  ifb (ilt b h) (ø g b fun a=>Ã (pG e f a.1 a.2) fun d=>Ú (Ý ((List.length c)+(List.length ([(d,a.2)])))) (ck (b+(1:Int)) fun k=>i k (c++([(d,a.2)])))) (j c)
def jU (e:Val aD) (f:Val aO) (g:dy) (h:Int) (b:Int) (c:dy) (i:Int->dy->w8 ρ) (j:dy->w8 ρ):w8 ρ :=
  ifb (ilt b h) (ø g b fun a=>Ã (pG e f a.1 a.2.1.1) fun d=>Ú (Ý ((List.length c)+(List.length ([(d,a.2)])))) (ck (b+(1:Int)) fun k=>i k (c++([(d,a.2)])))) (j c)
def jT (d:Val aD) (e:Val aO) (h:c7) (i:Int) (b:Int) (c:c7) (j:Int->c7->w8 ρ) (k:c7->w8 ρ):w8 ρ :=
  ifb (ilt b i) (ø h b fun a=>Ã (iU a.2.2.1 a.2.1 d e) fun f=>Ã (iU a.2.2.2.1 a.2.1 d e) fun g=>Ú (Ý ((List.length c)+(List.length ([(a.1,a.2.1,f,g,a.2.2.2.2)])))) (ck (b+(1:Int)) fun l=>j l (c++([(a.1,a.2.1,f,g,a.2.2.2.2)])))) (k c)
def jS (e:Val aD) (f:Val aO) (g:a8) (h:Int) (b:Int) (c:a8) (i:Int->a8->w8 ρ) (j:a8->w8 ρ):w8 ρ :=
  ifb (ilt b h) (ø g b fun a=>Ã (pG e f a.1 a.2) fun d=>Ú (Ý ((List.length c)+(List.length ([(d,a.2)])))) (ck (b+(1:Int)) fun k=>i k (c++([(d,a.2)])))) (j c)
def t7 (a:a7) (b:bx) (k:b5->w8 ρ):w8 ρ :=
  Ú (Ý (List.length a.1.2.1)) (É (fun(c:wl) g=>jV a b a.1.2.2.1 (Ô a.1.2.2.1) c.1 c.2 (fun h i=>g (h,i)) (fun j=>É (fun(d:(Val (.pair tI af))) l=>jU a b a.1.2.2.2.1 (Ô a.1.2.2.2.1) d.1 d.2 (fun m n=>l (m,n)) (fun o=>É (fun(e:Val aZ) p=>jT a b a.1.2.2.2.2.1 (Ô a.1.2.2.2.2.1) e.1 e.2 (fun q r=>p (q,r)) (fun s=>É (fun(f:wl) t=>jS a b a.1.2.2.2.2.2 (Ô a.1.2.2.2.2.2) f.1 f.2 (fun u v=>t (u,v)) (fun w=>k (a.1.1,a.1.2.1,j,o,s,w))) ((0:Int),[]))) ((0:Int),[]))) ((0:Int),[]))) ((0:Int),[]))
def gX (a:a7) (b:bx):w8 b5:=t7 a b some
def Ĝ (c:a8) (d:Int) (e:Int) (f:Int) (a:Int) (g:Int->w8 ρ) (h:Int->w8 ρ) (i:Unit->w8 ρ):w8 ρ :=
  ifb (ilt a d) (ø c a fun b=>ifb ((kI e b.1)&&((kI f b.2)&&true)) (h a) (ck (a+(1:Int)) fun j=>g j)) (i ())
def iN (a:a8) (b:bl) (k:Int->w8 ρ):w8 ρ :=
  É (fun(c:Int) d=>Ĝ a (Ô a) b.1 b.2 c (fun e=>d e) (fun f=>k f) (fun _=>k (-1:Int))) (0:Int)
def Ę (a:a8) (b:bl):w8 (Int):=iN a b some
def Gr (b:(Val (.ptr AU))) (a:ag) (c:Int) (k:Int->w8 ρ):w8 ρ :=
  ifb (ieq (Ô a) 0) (k (0:Int)) (ø a (0:Int) fun d=>Ã (Ę b.2.1 (d,c)) fun e=>ck (e+(1:Int)) fun f=>k f)
def ky (a:(Val (.ptr AU))) (b:ag) (c:Int):w8 (Int):=Gr a b c some
def ut (f:Int) (g:Int) (h:dy) (i:Int) (j:Int) (b:Int) (a:Int) (d:Int->Int->w8 ρ) (k:Int->w8 ρ):w8 ρ :=
  ifb (ilt a i) (ø h a fun c=>ck (g-(1:Int)) fun l=>ck ((WN c.2.1.2 l)-(US c.2.1.1 f)) fun m=>ck (m+1) fun e=>ifb (ieq c.1 j) (ifb (igt e 0) (ck (e*c.2.2) fun n=>ck (b+n) fun o=>ck (a+(1:Int)) fun p=>d o p) (ck (a+(1:Int)) fun q=>d b q)) (ck (a+(1:Int)) fun r=>d b r)) (k b)
def ur (e:Int) (f:Int) (g:a8) (h:Int) (i:Int) (a:Int) (b:ag) (d:Int->ag->w8 ρ) (j:ag->w8 ρ):w8 ρ :=
  ifb (ilt a h) (ø g a fun c=>ifb (ieq c.1 i) (ck (f-(1:Int)) fun k=>Ã (Ē c.2 e k) fun l=>ifb l (Ú (Ý ((List.length b)+(List.length ([c.2])))) (ck (a+(1:Int)) fun m=>d m (b++([c.2])))) (ck (a+(1:Int)) fun n=>d n b)) (ck (a+(1:Int)) fun o=>d o b)) (j b)
def Wx (a:b5) (b:pl) (d:Int) (e:Int) (k:Int->w8 ρ):w8 ρ :=
  É (fun(f:bl) h=>ut d e a.2.2.2.1 (Ô a.2.2.2.1) b.1 f.1 f.2 (fun i j=>h (i,j)) (fun l=>É (fun(g:ek) m=>ur d e a.2.2.1 (Ô a.2.2.1) b.1 g.1 g.2 (fun n o=>m (n,o)) (fun c=>Ú (Ý (List.length c)) (Ú (Ý (List.length (Ex c))) (ck ((Ô (yA (Ex c)))*b.2.2.2.2.2) fun p=>ck (l+p) fun q=>k q)))) ((0:Int),[]))) ((0:Int),(0:Int))
def yv (a:b5) (b:pl) (c:Int) (d:Int):w8 (Int):=Wx a b c d some
def vr (b:ly) (a:ag) (k:bl->w8 ρ):w8 ρ :=
  ifb (ieq (Ô a) 0) (k ((0:Int),(1:Int))) (ø a (0:Int) fun c=>N8 (k:=tI) (v:=Ö) c b (fun d=>k d.2.2.2.2.1) (k ((0:Int),(0:Int))))
def ik (a:ly) (b:ag):w8 bl:=vr a b some
def qU (b:a8) (c:Int) (a:Int) (d:Int->w8 ρ) (e:Int->w8 ρ) (f:Unit->w8 ρ):w8 ρ :=
  ifb (ilt a c) (ø b a fun g=>Ã (tF g) fun h=>ifb (!h) (e (1:Int)) (ck (a+(1:Int)) fun i=>d i)) (f ())
def Sb (a:a8) (k:Int->w8 ρ):w8 ρ :=
  É (fun(b:Int) c=>qU a (Ô a) b (fun d=>c d) (fun e=>k e) (fun _=>k (0:Int))) (0:Int)
def jO (a:a8):w8 (Int):=Sb a some
def JV (d:Int) (e:Int) (k:Val LR->w8 ρ):w8 ρ :=
  Ã (rB d) fun b=>Ã (rB e) fun c=>Ã (K3 b c) fun a=>ifb (kI a 0) (none) (ifb (kI a 0) (none) (ifb (igt (IntKind.wrap .u64 (Int.tdiv b a)) 2147483647) (k (((0:Int),(0:Int)),(3:Int))) (ifb (igt (IntKind.wrap .u64 (Int.tdiv c a)) 2147483647) (k (((0:Int),(0:Int)),(3:Int))) (ifb (!((ilt d 0)==(ilt e 0))) (ck (0-(IntKind.wrap .i64 (IntKind.wrap .u64 (Int.tdiv b a)))) fun f=>k ((f,(IntKind.wrap .i64 (IntKind.wrap .u64 (Int.tdiv c a)))),(0:Int))) (k (((IntKind.wrap .i64 (IntKind.wrap .u64 (Int.tdiv b a))),(IntKind.wrap .i64 (IntKind.wrap .u64 (Int.tdiv c a)))),(0:Int)))))))
def pJ (a:Int) (b:Int):w8 (Val LR):=JV a b some
def aa0 (a:bl) (b:bl) (k:Val LR->w8 ρ):w8 ρ :=
  Ã (jO ([a,b])) fun c=>ifb (ine c 0) (k (((0:Int),(0:Int)),c)) (ck (a.1*b.2) fun e=>ck (b.1*a.2) fun f=>ck (e-f) fun g=>ck (a.2*b.2) fun h=>Ã (pJ g h) fun d=>k (d.1,d.2))
def PX (a:bl) (b:bl):w8 (Val LR):=aa0 a b some
def Dm (a:bl) (b:bl) (k:bl->w8 ρ):w8 ρ :=
  Ã (PX a b) fun c=>k c.1
def uI (a:bl) (b:bl):w8 bl:=Dm a b some
def aaY (a:bl) (b:bl) (k:Int->w8 ρ):w8 ρ :=
  ck (a.1*b.2) fun c=>ck (b.1*a.2) fun d=>ifb ((kI a.1 b.1)&&((kI a.2 b.2)&&true)) (k (0:Int)) (ifb (ilt c d) (k (-1:Int)) (ifb (igt c d) (k (1:Int)) (k (0:Int))))
def K4 (a:bl) (b:bl):w8 (Int):=aaY a b some
def Af (a:ni) (k:Bool->w8 ρ):w8 ρ :=
  Ã (jO ([a.1,a.2])) fun b=>ifb (ieq b 0) (Ã (K4 a.1 a.2) fun c=>k (ile c 0)) (k false)
def rU (a:ni):w8 (Bool):=Af a some
def aa2 (a:bl) (b:bl) (k:Val LR->w8 ρ):w8 ρ :=
  Ã (jO ([a,b])) fun c=>ifb (ine c 0) (k (((0:Int),(0:Int)),c)) (ck (a.1*b.1) fun e=>ck (a.2*b.2) fun f=>Ã (pJ e f) fun d=>k (d.1,d.2))
def K6 (a:bl) (b:bl):w8 (Val LR):=aa2 a b some
def JW (c:ni) (d:bl) (k:Val Zz->w8 ρ):w8 ρ :=
  Ã (rU c) fun e=>ifb (!e) (k ((((0:Int),(0:Int)),(0:Int),(0:Int)),(1:Int))) (Ã (tF d) fun f=>ifb (!f) (k ((((0:Int),(0:Int)),(0:Int),(0:Int)),(1:Int))) (Ã (K6 d c.1) fun a=>ifb (ine a.2 0) (k ((((0:Int),(0:Int)),(0:Int),(0:Int)),a.2)) (Ã (K6 d c.2) fun b=>ifb (ine b.2 0) (k ((((0:Int),(0:Int)),(0:Int),(0:Int)),b.2)) (Ã (K4 a.1 b.1) fun g=>ifb (igt g 0) (k ((b.1,a.1),(0:Int))) (k ((a.1,b.1),(0:Int)))))))
def K5 (a:ni) (b:bl):w8 (Val Zz):=JW a b some
def Dl (b:bl) (a:bl) (k:ni->w8 ρ):w8 ρ :=
  Ã (K5 ((a.1,(1:Int)),a.2,(1:Int)) b) fun c=>k c.1
def oi (a:bl) (b:bl):w8 ni:=Dl a b some
def NZ (c:b5) (a:gf) (k:ni->w8 ρ):w8 ρ :=
  Ã (ĸ c) fun b=>Ã (ŵ a.2.2.1 a.2.2.2.1) fun d=>Ã (ik b d) fun e=>Ã (ŵ a.2.2.2.1 a.2.2.1) fun f=>Ã (ik b f) fun g=>Ã (uI e g) fun h=>Ã (oi h a.2.2.2.2.2.2) fun i=>k i
def tG (a:b5) (b:gf):w8 ni:=NZ a b some
def Sr (a:b5) (b:gf) (k:bl->w8 ρ):w8 ρ :=
  ck ((Ô b.2.2.1)-(1:Int)) fun c=>ck ((Ô b.2.2.2.1)-(1:Int)) fun d=>ck ((US (0:Int) c)*a.1.1) fun e=>ck ((US (0:Int) d)*a.1.2) fun f=>ck (e-f) fun g=>ck ((US (0:Int) c)*a.1.2) fun h=>ck ((US (0:Int) d)*a.1.1) fun i=>ck (h-i) fun j=>k (g,j)
def xB (a:b5) (b:gf):w8 bl:=Sr a b some
def aaW (b:Int) (a:Int) (k:Int->w8 ρ):w8 ρ :=
  ifb (kI a 0) (none) (ck (Int.tdiv b a) fun c=>ifb (kI a 0) (none) (ifb (ilt (Int.tmod b a) 0) (ck (c-1) fun d=>k d) (k c)))
def D5 (a:Int) (b:Int):w8 (Int):=aaW a b some
def Sh (a:bl) (k:bl->w8 ρ):w8 ρ :=
  Ã (jO ([a])) fun b=>ifb (ine b 0) (k ((0:Int),b)) (Ã (D5 a.1 a.2) fun c=>k (c,(0:Int)))
def D6 (a:bl):w8 bl:=Sh a some
def Wu (a:bl) (k:bl->w8 ρ):w8 ρ :=
  Ã (jO ([a])) fun b=>ifb (ine b 0) (k ((0:Int),b)) (ck (0-a.1) fun c=>Ã (D5 c a.2) fun d=>ck (0-d) fun e=>k (e,(0:Int)))
def HW (a:bl):w8 bl:=Wu a some
def Wv (b:b5) (a:gf) (k:bl->w8 ρ):w8 ρ :=
  Ã (tG b a) fun c=>Ã (xB b a) fun d=>Ã (D6 c.2) fun e=>Ã (HW c.1) fun f=>ck (a.2.2.2.2.1-a.2.2.2.2.2.1) fun g=>ck (g-d.2) fun h=>ck (h-e.1) fun i=>ck (a.2.2.2.2.1+a.2.2.2.2.2.1) fun j=>ck (j-d.1) fun l=>ck (l-f.1) fun m=>k (i,m)
def yu (a:b5) (b:gf):w8 bl:=Wv a b some
def un (b:Int) (e:ag) (h:Int) (j:Int) (k:Int) (l:dx) (m:a8) (n:dy) (o:c7) (p:a8) (q:Int) (r:Int) (s:Int) (t:Int) (u:Int) (v:Int) (w:Int) (x:Int) (a:Int) (f:fx) (g:a8) (y:Int->fx->a8->w8 ρ) (z:Val BS->w8 ρ):w8 ρ :=
  ifb (ilt a (Ô e)) (ck (h+a) fun A=>ck (A-1) fun c=>ck (h+a) fun d=>ck (a-(1:Int)) fun B=>ø e B fun C=>ø e a fun D=>Ã (yv ((j,k),l,m,n,o,p) (q,r,s,(t,u),(v,w),x) C D) fun E=>ck (0-E) fun F=>ck (0-F) fun i=>Ú (Ý ((List.length f)+(List.length ([(c,d,(0:Int)),(d,c,i)])))) (Ú (Ý ((List.length g)+(List.length ([((2:Int),b),((2:Int),b)])))) (ck (a+(1:Int)) fun G=>y G (f++([(c,d,(0:Int)),(d,c,i)])) (g++([((2:Int),b),((2:Int),b)]))))) (z (f,g))
def uq (q:dx) (r:Int) (f:Int) (g:Int) (h:dx) (i:a8) (j:dy) (k:c7) (l:a8) (s:a8) (t:Int) (b:Int) (d:fx) (e:a8) (u:Int->fx->a8->w8 ρ) (v:Val BS->w8 ρ):w8 ρ :=
  ifb (ilt b r) (ø q b fun a=>Ã (oj ((f,g),h,i,j,k,l) a) fun w=>Ã (ky (((f,g),h,i,j,k,l),s,(t,d),e) ([a.1]) a.2.1) fun c=>ck (a.2.2.1+a.2.2.2.1.1) fun x=>ck (a.2.2.1+a.2.2.2.1.2) fun n=>ck (0-x) fun o=>Ú (Ý ((List.length d)+(List.length ([((0:Int),c,n),(c,(0:Int),o)])))) (Ú (Ý ((List.length e)+(List.length ([((1:Int),b),((1:Int),b)])))) (É (fun(m:kw) y=>un b w c f g h i j k l a.1 a.2.1 a.2.2.1 a.2.2.2.1.1 a.2.2.2.1.2 a.2.2.2.2.1.1 a.2.2.2.2.1.2 a.2.2.2.2.2 m.1 m.2.1 m.2.2 (fun z A B=>y (z,A,B)) (fun p=>ck (b+(1:Int)) fun C=>u C p.1 p.2)) ((1:Int),(d++([((0:Int),c,n),(c,(0:Int),o)])),(e++([((1:Int),b),((1:Int),b)])))))) (v (d,e))
def uk (r:c7) (s:Int) (g:Int) (h:Int) (i:dx) (j:a8) (k:dy) (l:c7) (m:a8) (o:a8) (p:Int) (a:Int) (c:fx) (d:a8) (t:Int->fx->a8->w8 ρ) (u:Val BS->w8 ρ):w8 ρ :=
  ifb (ilt a s) (ø r a fun b=>Ã (ŵ b.2.2.2.1 b.2.2.1) fun v=>Ã (ky (((g,h),i,j,k,l,m),o,(p,c),d) v b.2.1) fun e=>Ã (ŵ b.2.2.1 b.2.2.2.1) fun w=>Ã (ky (((g,h),i,j,k,l,m),o,(p,c),d) w b.2.1) fun f=>Ã (yu ((g,h),i,j,k,l,m) b) fun n=>ck (0-n.1) fun q=>Ú (Ý ((List.length c)+(List.length ([(e,f,n.2),(f,e,q)])))) (Ú (Ý ((List.length d)+(List.length ([((3:Int),a),((3:Int),a)])))) (ck (a+(1:Int)) fun x=>t x (c++([(e,f,n.2),(f,e,q)])) (d++([((3:Int),a),((3:Int),a)]))))) (u (c,d))
def Ww (a:b5) (k:(Val (.ptr AU))->w8 ρ):w8 ρ :=
  Ã (pK a) fun b=>ck ((Ô b)+(1:Int)) fun c=>É (fun(d:kw) h=>uq a.2.1 (Ô a.2.1) a.1.1 a.1.2 a.2.1 a.2.2.1 a.2.2.2.1 a.2.2.2.2.1 a.2.2.2.2.2 b c d.1 d.2.1 d.2.2 (fun i j l=>h (i,j,l)) (fun f=>É (fun(e:kw) m=>uk a.2.2.2.2.1 (Ô a.2.2.2.2.1) a.1.1 a.1.2 a.2.1 a.2.2.1 a.2.2.2.1 a.2.2.2.2.1 a.2.2.2.2.2 b c e.1 e.2.1 e.2.2 (fun n o p=>m (n,o,p)) (fun g=>k (a,b,(c,g.1),g.2))) ((0:Int),f.1,f.2))) ((0:Int),[],[])
def HX (a:b5):w8 ((Val (.ptr AU))):=Ww a some
def N1 (a:b5) (k:(Val (.pair Ó (.pair aa tI)))->w8 ρ):w8 ρ :=
  Ã (ŧ a) fun b=>ifb (ine b 0) (k (((0:Int),[]),[],b)) (Ã (HX a) fun c=>k (c.2.2.1,c.2.2.2,(0:Int)))
def jk (a:b5):w8 ((Val (.pair Ó (.pair aa tI)))):=N1 a some
def Wo (b:ew) (a:Int) (k:Bool->w8 ρ):w8 ρ :=
  ifb (ige a 0) (k (ilt a b.1)) (k false)
def yr (a:ew) (b:Int):w8 (Bool):=Wo a b some
def qT (f:fx) (g:Int) (d:Int) (e:fx) (a:Int) (h:Int->w8 ρ) (c:bl->w8 ρ) (i:Unit->w8 ρ):w8 ρ :=
  ifb (ilt a g) (ø f a fun b=>Ã (yr (d,e) b.1) fun j=>ifb (!j) (c ((1:Int),a)) (Ã (yr (d,e) b.2.1) fun k=>ifb (!k) (c ((1:Int),a)) (ifb (ieq b.1 b.2.1) (c ((1:Int),a)) (ifb (ilt b.2.2 (-4503599627370496:Int)) (c ((1:Int),a)) (ifb (igt b.2.2 4503599627370496) (c ((1:Int),a)) (ck (a+(1:Int)) fun l=>h l)))))) (i ())
def Sa (a:ew) (k:bl->w8 ρ):w8 ρ :=
  ifb (ilt a.1 1) (k ((1:Int),(-1:Int))) (ifb (igt a.1 60) (k ((1:Int),(-1:Int))) (ifb (igt (Ô a.2) 300) (k ((2:Int),(-1:Int))) (É (fun(c:Int) d=>qT a.2 (Ô a.2) a.1 a.2 c (fun e=>d e) (fun b=>k (b.1,b.2)) (fun _=>k ((0:Int),(-1:Int)))) (0:Int))))
def pI (a:ew):w8 bl:=Sa a some
def iQ (c:fx) (d:Int) (b:Int) (a:Int) (e:Int->Int->w8 ρ) (f:Int->w8 ρ):w8 ρ :=
  ifb (ilt a d) (ø c a fun g=>ck (b+(WN g.2.2 (0:Int))) fun h=>ck (a+(1:Int)) fun i=>e h i) (f b)
def Ť (f:Int) (d:ag) (a:Int) (b:py) (c:ag) (e:Int->py->ag->w8 ρ) (g:Val aQ->w8 ρ):w8 ρ :=
  ifb (ilt a f) (Ú ((ile 0 a)&&(ilt a (ï d))) (ĵ d (Int.toNat a) fun h=>ifb (ine h 1152921504606846976) (Ú (Ý ((List.length c)+(List.length ([a])))) (Ú ((ile 0 a)&&(ilt a (ï b))) (ĵ b (Int.toNat a) fun k=>ck (a+(1:Int)) fun i=>e i (List.set b (Int.toNat a) true) (c++([a]))))) (ck (a+(1:Int)) fun j=>e j b c))) (g (b,c))
def iP (m:Val ay) (j:Int) (d:Int) (n:fx) (o:Int) (f:Int) (b:ag) (c:py) (e:ag) (g:Int->ag->py->ag->w8 ρ) (l:(Val (.pair .bool (.pair ab aQ)))->w8 ρ) (p:(Val (.pair ab aQ))->w8 ρ):w8 ρ :=
  ifb (ilt f o) (ø n f fun a=>ifb (ine a.1 d) (ck (f+(1:Int)) fun q=>g q b c e) (N8 (k:=tI) (v:=.bool) f m (fun r=>ifb r (ck (f+(1:Int)) fun s=>g s b c e) (Ú ((ile 0 d)&&(ilt d (ï b))) (ĵ b (Int.toNat d) fun t=>ck (t+a.2.2) fun u=>Ú ((ile 0 a.2.1)&&(ilt a.2.1 (ï b))) (ĵ b (Int.toNat a.2.1) fun w=>ifb (ige u w) (ck (f+(1:Int)) fun x=>g x b c e) (Ú ((ile 0 d)&&(ilt d (ï b))) (ĵ b (Int.toNat d) fun y=>ck (y+a.2.2) fun h=>Ú ((ile 0 a.2.1)&&(ilt a.2.1 (ï b))) (ĵ b (Int.toNat a.2.1) fun M=>Ú ((ile 0 a.2.1)&&(ilt a.2.1 (ï (List.set b (Int.toNat a.2.1) h)))) (ĵ (List.set b (Int.toNat a.2.1) h) (Int.toNat a.2.1) fun z=>ifb (ilt z j) (l (false,(List.set b (Int.toNat a.2.1) h),c,e)) (Ú ((ile 0 a.2.1)&&(ilt a.2.1 (ï c))) (ĵ c (Int.toNat a.2.1) fun A=>ifb (!A) (Ú (Ý ((List.length e)+(List.length ([a.2.1])))) (Ú ((ile 0 a.2.1)&&(ilt a.2.1 (ï c))) (ĵ c (Int.toNat a.2.1) fun N=>ck (f+(1:Int)) fun B=>g B (List.set b (Int.toNat a.2.1) h) (List.set c (Int.toNat a.2.1) true) (e++([a.2.1]))))) (ck (f+(1:Int)) fun C=>g C (List.set b (Int.toNat a.2.1) h) c e))))))))))) (Ú ((ile 0 d)&&(ilt d (ï b))) (ĵ b (Int.toNat d) fun D=>ck (D+a.2.2) fun E=>Ú ((ile 0 a.2.1)&&(ilt a.2.1 (ï b))) (ĵ b (Int.toNat a.2.1) fun F=>ifb (ige E F) (ck (f+(1:Int)) fun G=>g G b c e) (Ú ((ile 0 d)&&(ilt d (ï b))) (ĵ b (Int.toNat d) fun H=>ck (H+a.2.2) fun i=>Ú ((ile 0 a.2.1)&&(ilt a.2.1 (ï b))) (ĵ b (Int.toNat a.2.1) fun O=>Ú ((ile 0 a.2.1)&&(ilt a.2.1 (ï (List.set b (Int.toNat a.2.1) i)))) (ĵ (List.set b (Int.toNat a.2.1) i) (Int.toNat a.2.1) fun I=>ifb (ilt I j) (l (false,(List.set b (Int.toNat a.2.1) i),c,e)) (Ú ((ile 0 a.2.1)&&(ilt a.2.1 (ï c))) (ĵ c (Int.toNat a.2.1) fun J=>ifb (!J) (Ú (Ý ((List.length e)+(List.length ([a.2.1])))) (Ú ((ile 0 a.2.1)&&(ilt a.2.1 (ï c))) (ĵ c (Int.toNat a.2.1) fun P=>ck (f+(1:Int)) fun K=>g K (List.set b (Int.toNat a.2.1) i) (List.set c (Int.toNat a.2.1) true) (e++([a.2.1]))))) (ck (f+(1:Int)) fun L=>g L (List.set b (Int.toNat a.2.1) i) c e)))))))))))) (p (b,c,e))
def ķ (l:Val ay) (m:Int) (n:Int) (k:fx) (h:ag) (d:py) (b:ag) (c:ag) (o:ag->py->ag->ag->w8 ρ) (i:(Val (.pair .bool aR))->w8 ρ):w8 ρ :=
  ifb (ieq (Ô c) 0) (i (true,h,d,b,c)) (Ú (ilt 0 (ï c)) (ĵ c 0 fun a=>Ú (ile 1 (ï c)) (Ú (decide (1+(List.length c-1)=List.length c)) (Ú ((ile 0 a)&&(ilt a (ï d))) (ĵ d (Int.toNat a) fun x=>Ú ((ile 0 a)&&(ilt a (ï b))) (ĵ b (Int.toNat a) fun p=>ck (p+(1:Int)) fun e=>Ú ((ile 0 a)&&(ilt a (ï b))) (ĵ b (Int.toNat a) fun y=>Ú ((ile 0 a)&&(ilt a (ï (List.set b (Int.toNat a) e)))) (ĵ (List.set b (Int.toNat a) e) (Int.toNat a) fun q=>ck (n+(1:Int)) fun r=>ifb (igt q r) (i (false,h,(List.set d (Int.toNat a) false),(List.set b (Int.toNat a) e),(List.drop 1 c))) (É (fun(f:io) s=>iP l m a k (Ô k) f.1 f.2.1 f.2.2.1 f.2.2.2 (fun t u v w=>s (t,u,v,w)) (fun g=>i (g.1,g.2.1,g.2.2.1,(List.set b (Int.toNat a) e),g.2.2.2)) (fun j=>o j.1 j.2.1 (List.set b (Int.toNat a) e) j.2.2)) ((0:Int),h,(List.set d (Int.toNat a) false),(List.drop 1 c)))))))))))
def iO (c:Int) (d:Int) (a:Int) (b:ag) (e:Int->ag->w8 ρ) (f:ag->w8 ρ):w8 ρ :=
  ifb (ilt a d) (Ú ((ile 0 a)&&(ilt a (ï b))) (ĵ b (Int.toNat a) fun g=>ck (g-c) fun h=>Ú ((ile 0 a)&&(ilt a (ï b))) (ĵ b (Int.toNat a) fun j=>ck (a+(1:Int)) fun i=>e i (List.set b (Int.toNat a) h)))) (f b)
def wZ (a:ew) (h:Val ay) (k:wk->w8 ρ):w8 ρ :=
  Ú ((ile 0 a.1)&&(Ý (Int.toNat a.1))) (Ú ((ile 0 a.1)&&(Ý (Int.toNat a.1))) (Ú ((ile 0 a.1)&&(Ý (Int.toNat a.1))) (É (fun(e:bl) i=>iQ a.2 (Ô a.2) e.1 e.2 (fun j l=>i (j,l)) (fun m=>É (fun(d:rm) n=>Ť a.1 (List.replicate (Int.toNat a.1) (0:Int)) d.1 d.2.1 d.2.2 (fun o p q=>n (o,p,q)) (fun f=>É (fun(c:Val aR) r=>ķ h m a.1 a.2 c.1 c.2.1 c.2.2.1 c.2.2.2 (fun s t u v=>r (s,t,u,v)) (fun b=>ifb (!b.1) (k ([],false)) (Ú (ilt 0 (ï b.2.1)) (ĵ b.2.1 0 fun w=>É (fun(g:ek) x=>iO w (Ô b.2.1) g.1 g.2 (fun y z=>x (y,z)) (fun A=>k (A,true))) ((0:Int),b.2.1))))) ((List.replicate (Int.toNat a.1) (0:Int)),f.1,(List.replicate (Int.toNat a.1) (0:Int)),f.2))) ((0:Int),(List.replicate (Int.toNat a.1) false),[]))) ((0:Int),(0:Int)))))
def kv (a:ew) (b:Val ay):w8 (wk):=wZ a b some
def zT (a:ew) (k:th->w8 ρ):w8 ρ :=
  Ã (pI a) fun b=>ifb (ine b.1 0) (k (false,b.1)) (Ã (kv a ([])) fun c=>k (c.2,(0:Int)))
def mr (a:ew):w8 (th):=zT a some
def F7 (a:a7) (b:bx) (k:Bool->w8 ρ):w8 ρ :=
  Ã (gX a b) fun c=>Ã (jk c) fun d=>Ã (mr d.1) fun e=>k e.1
def θ (a:a7) (b:bx):w8 (Bool):=F7 a b some
def xm (a:Int) (k:Bool->w8 ρ):w8 ρ :=
  k (ine a a)
def lq (a:Int):w8 (Bool):=xm a some
def td (a:Int) (b:Int) (k:Int->w8 ρ):w8 ρ :=
  Ã (lq a) fun d=>Ã (lq b) fun c=>ifb d (ifb c (k (0:Int)) (k (-1:Int))) (ifb c (k (1:Int)) (ifb (ilt a b) (k (-1:Int)) (ifb (igt a b) (k (1:Int)) (k (0:Int)))))
def δ (a:Int) (b:Int):w8 (Int):=td a b some
def nY (d:Int) (e:ag) (f:Int) (g:b6) (b:Int) (a:Int) (c:Int->Int->w8 ρ) (h:Int->w8 ρ):w8 ρ :=
  ifb (ilt a f) (ø e a fun i=>ø g d fun j=>ø j.2 a fun k=>ifb (ine k i) (ck (b+(1:Int)) fun l=>ck (a+(1:Int)) fun m=>c l m) (ck (a+(1:Int)) fun n=>c b n)) (h b)
def nZ (e:bx) (f:Int) (g:b6) (b:Int) (a:Int) (h:Int->Int->w8 ρ) (i:Int->w8 ρ):w8 ρ :=
  ifb (ilt a f) (ø e a fun c=>É (fun(d:bl) j=>nY a c (Ô c) g d.1 d.2 (fun k l=>j (k,l)) (fun m=>ck (a+(1:Int)) fun n=>h m n)) (b,(0:Int))) (i b)
def NJ (c:a7) (a:bx) (k:Int->w8 ρ):w8 ρ :=
  É (fun(b:bl) d=>nZ a (Ô a) c.2 b.1 b.2 (fun e f=>d (e,f)) (fun g=>k g)) ((0:Int),(0:Int))
def Ĩ (a:a7) (b:bx):w8 (Int):=NJ a b some
def NK (b:bx) (c:bx) (a:Val aD) (k:Int->w8 ρ):w8 ρ :=
  Ã (Ĩ a b) fun d=>Ã (Ĩ a c) fun e=>Ã (δ d e) fun f=>k f
def jj (a:bx) (b:bx) (c:Val aD):w8 (Int):=NK a b c some
def å (h:Int) (i:Int) (j:Int) (k:dx) (l:a8) (m:dy) (n:c7) (o:a8) (p:b6) (a:Int) (b:an) (q:Int->an->w8 ρ) (g:an->w8 ρ):w8 ρ :=
  ifb (igt a h) (Ú ((ile 0 a)&&(ilt a (ï b))) (ĵ b (Int.toNat a) fun r=>ck (a-(1:Int)) fun d=>Ú ((ile 0 d)&&(ilt d (ï b))) (ĵ b (Int.toNat d) fun s=>Ã (jj r s (((i,j),k,l,m,n,o),p)) fun t=>ifb (ilt t 0) (ck (a-(1:Int)) fun c=>ck (a-(1:Int)) fun e=>Ú ((ile 0 e)&&(ilt e (ï b))) (ĵ b (Int.toNat e) fun f=>Ú ((ile 0 a)&&(ilt a (ï b))) (ĵ b (Int.toNat a) fun u=>Ú ((ile 0 a)&&(ilt a (ï b))) (ĵ b (Int.toNat a) fun w=>Ú ((ile 0 c)&&(ilt c (ï (List.set b (Int.toNat a) f)))) (ĵ (List.set b (Int.toNat a) f) (Int.toNat c) fun x=>ck (a-(1:Int)) fun v=>q v (List.set (List.set b (Int.toNat a) f) (Int.toNat c) u)))))) (g b)))) (g b)
def Ć (d:Int) (e:Int) (f:Int) (g:Int) (h:dx) (i:a8) (j:dy) (k:c7) (l:a8) (m:b6) (a:Int) (b:an) (n:Int->an->w8 ρ) (o:an->w8 ρ):w8 ρ :=
  ifb (ilt a e) (É (fun(c:hO) p=>å d f g h i j k l m c.1 c.2 (fun q r=>p (q,r)) (fun s=>ck (a+(1:Int)) fun t=>n t s)) (a,b)) (o b)
def Ř (c:an) (a:Int) (d:Int) (mm:a7) (k:(an)×a7->w8 ρ):w8 ρ :=
  ck (a+(1:Int)) fun e=>É (fun(b:hO) f=>Ć a d mm.1.1.1 mm.1.1.2 mm.1.2.1 mm.1.2.2.1 mm.1.2.2.2.1 mm.1.2.2.2.2.1 mm.1.2.2.2.2.2 mm.2 b.1 b.2 (fun g h=>f (g,h)) (fun i=>k (i,mm))) (e,c)
def ä (a:an) (b:Int) (c:Int) (mm:a7):w8 ((an)×a7):=Ř a b c mm some
def ą (h:Int) (i:Int) (j:Int) (b:Int) (a:an) (k:Int->an->w8 ρ) (l:an->w8 ρ):w8 ρ :=
  ifb (ilt b j) (ck (h+b) fun c=>ck (i+b) fun d=>ck (i+b) fun e=>Ú ((ile 0 e)&&(ilt e (ï a))) (ĵ a (Int.toNat e) fun f=>ck (h+b) fun g=>Ú ((ile 0 g)&&(ilt g (ï a))) (ĵ a (Int.toNat g) fun m=>Ú ((ile 0 c)&&(ilt c (ï a))) (ĵ a (Int.toNat c) fun o=>Ú ((ile 0 d)&&(ilt d (ï (List.set a (Int.toNat c) f)))) (ĵ (List.set a (Int.toNat c) f) (Int.toNat d) fun p=>ck (b+(1:Int)) fun n=>k n (List.set (List.set a (Int.toNat c) f) (Int.toNat d) m)))))) (l a)
def Χ (h:Int) (i:Int) (j:Int) (b:Int) (a:an) (k:Int->an->w8 ρ) (l:an->w8 ρ):w8 ρ :=
  ifb (ilt b j) (ck (h+b) fun c=>ck (i+b) fun d=>ck (i+b) fun e=>Ú ((ile 0 e)&&(ilt e (ï a))) (ĵ a (Int.toNat e) fun f=>ck (h+b) fun g=>Ú ((ile 0 g)&&(ilt g (ï a))) (ĵ a (Int.toNat g) fun m=>Ú ((ile 0 c)&&(ilt c (ï a))) (ĵ a (Int.toNat c) fun o=>Ú ((ile 0 d)&&(ilt d (ï (List.set a (Int.toNat c) f)))) (ĵ (List.set a (Int.toNat c) f) (Int.toNat d) fun p=>ck (b+(1:Int)) fun n=>k n (List.set (List.set a (Int.toNat c) f) (Int.toNat d) m)))))) (l a)
def ħ (c:Int) (a:Int) (b:Int) (d:an) (e:Int->Int->an->w8 ρ) (h:hO->w8 ρ):w8 ρ :=
  ifb (ine a b) (ifb (igt a b) (ck (c-a) fun i=>É (fun(f:hO) j=>ą i c b f.1 f.2 (fun k l=>j (k,l)) (fun m=>ck (a-b) fun n=>e n b m)) ((0:Int),d)) (ck (c-a) fun o=>ck (c+b) fun p=>ck (p-a) fun q=>É (fun(g:hO) r=>Χ o q a g.1 g.2 (fun s t=>r (s,t)) (fun u=>ck (b-a) fun v=>e a v u)) ((0:Int),d))) (h (a,d))
def Υ (h:Int) (i:Int) (j:Int) (b:Int) (a:an) (k:Int->an->w8 ρ) (l:an->w8 ρ):w8 ρ :=
  ifb (ilt b j) (ck (h+b) fun c=>ck (i+b) fun d=>ck (i+b) fun e=>Ú ((ile 0 e)&&(ilt e (ï a))) (ĵ a (Int.toNat e) fun f=>ck (h+b) fun g=>Ú ((ile 0 g)&&(ilt g (ï a))) (ĵ a (Int.toNat g) fun m=>Ú ((ile 0 c)&&(ilt c (ï a))) (ĵ a (Int.toNat c) fun o=>Ú ((ile 0 d)&&(ilt d (ï (List.set a (Int.toNat c) f)))) (ĵ (List.set a (Int.toNat c) f) (Int.toNat d) fun p=>ck (b+(1:Int)) fun n=>k n (List.set (List.set a (Int.toNat c) f) (Int.toNat d) m)))))) (l a)
def iM (e:an) (f:Int) (a:Int) (g:Int) (mm:a7) (k:(an)×a7->w8 ρ):w8 ρ :=
  ck (a-f) fun h=>ck (g-a) fun i=>É (fun(b:rn) j=>ħ a b.1 b.2.1 b.2.2 (fun l m n=>j (l,m,n)) (fun c=>ck (a-c.1) fun o=>É (fun(d:hO) p=>Υ o a c.1 d.1 d.2 (fun q r=>p (q,r)) (fun s=>k (s,mm))) ((0:Int),c.2))) (h,i,e)
def Ī (a:an) (b:Int) (c:Int) (d:Int) (mm:a7):w8 ((an)×a7):=iM a b c d mm some
def ô (rec:an->Int->Int->Int->a7->w8 (an×a7)) (d:Int) (b:an) (g:Int) (h:Int) (i:dx) (j:a8) (k:dy) (l:c7) (m:a8) (n:b6) (c:Int) (e:Int) (f:Int->Int->w8 ρ) (o:Int->w8 ρ):w8 ρ :=
  ifb (ilt c e) (ck (c+e) fun a=>Ú ((ile 0 (IntKind.wrap .i64 (ir .u64 (IntKind.wrap .u64 a) (1:Int))))&&(ilt (IntKind.wrap .i64 (ir .u64 (IntKind.wrap .u64 a) (1:Int))) (ï b))) (ĵ b (Int.toNat (IntKind.wrap .i64 (ir .u64 (IntKind.wrap .u64 a) (1:Int)))) fun p=>Ú ((ile 0 d)&&(ilt d (ï b))) (ĵ b (Int.toNat d) fun q=>Ã (jj p q (((g,h),i,j,k,l,m),n)) fun r=>ifb (ilt r 0) (ck ((IntKind.wrap .i64 (ir .u64 (IntKind.wrap .u64 a) (1:Int)))+(1:Int)) fun s=>f s e) (f c (IntKind.wrap .i64 (ir .u64 (IntKind.wrap .u64 a) (1:Int))))))) (o c)
def ì (rec:an->Int->Int->Int->a7->w8 (an×a7)) (f:Int) (a:Int) (b:an) (g:Int->an->w8 ρ) (h:an->w8 ρ):w8 ρ :=
  ck (f-(1:Int)) fun i=>ifb (ilt a i) (ck (a+(1:Int)) fun c=>ck (a+(1:Int)) fun d=>Ú ((ile 0 d)&&(ilt d (ï b))) (ĵ b (Int.toNat d) fun e=>Ú ((ile 0 a)&&(ilt a (ï b))) (ĵ b (Int.toNat a) fun j=>Ú ((ile 0 a)&&(ilt a (ï b))) (ĵ b (Int.toNat a) fun l=>Ú ((ile 0 c)&&(ilt c (ï (List.set b (Int.toNat a) e)))) (ĵ (List.set b (Int.toNat a) e) (Int.toNat c) fun m=>ck (a+(1:Int)) fun k=>g k (List.set (List.set b (Int.toNat a) e) (Int.toNat c) j)))))) (h b)
def ó (rec:an->Int->Int->Int->a7->w8 (an×a7)) (d:Int) (b:an) (g:Int) (h:Int) (i:dx) (j:a8) (k:dy) (l:c7) (m:a8) (n:b6) (c:Int) (e:Int) (f:Int->Int->w8 ρ) (o:Int->w8 ρ):w8 ρ :=
  ifb (ilt c e) (ck (c+e) fun a=>Ú ((ile 0 d)&&(ilt d (ï b))) (ĵ b (Int.toNat d) fun p=>Ú ((ile 0 (IntKind.wrap .i64 (ir .u64 (IntKind.wrap .u64 a) (1:Int))))&&(ilt (IntKind.wrap .i64 (ir .u64 (IntKind.wrap .u64 a) (1:Int))) (ï b))) (ĵ b (Int.toNat (IntKind.wrap .i64 (ir .u64 (IntKind.wrap .u64 a) (1:Int)))) fun q=>Ã (jj p q (((g,h),i,j,k,l,m),n)) fun r=>ifb (!(ilt r 0)) (ck ((IntKind.wrap .i64 (ir .u64 (IntKind.wrap .u64 a) (1:Int)))+(1:Int)) fun s=>f s e) (f c (IntKind.wrap .i64 (ir .u64 (IntKind.wrap .u64 a) (1:Int))))))) (o c)
def ë (rec:an->Int->Int->Int->a7->w8 (an×a7)) (f:Int) (a:Int) (b:an) (g:Int->an->w8 ρ) (h:an->w8 ρ):w8 ρ :=
  ifb (igt a f) (ck (a-(1:Int)) fun c=>ck (a-(1:Int)) fun d=>Ú ((ile 0 d)&&(ilt d (ï b))) (ĵ b (Int.toNat d) fun e=>Ú ((ile 0 a)&&(ilt a (ï b))) (ĵ b (Int.toNat a) fun i=>Ú ((ile 0 a)&&(ilt a (ï b))) (ĵ b (Int.toNat a) fun k=>Ú ((ile 0 c)&&(ilt c (ï (List.set b (Int.toNat a) e)))) (ĵ (List.set b (Int.toNat a) e) (Int.toNat c) fun l=>ck (a-(1:Int)) fun j=>g j (List.set (List.set b (Int.toNat a) e) (Int.toNat c) i)))))) (h b)
def Þ (rec:an->Int->Int->Int->a7->w8 (an×a7)) (g:Int) (b:an) (h:Int) (i:Int) (j:dx) (k:a8) (l:dy) (m:c7) (n:a8) (o:b6) (c:Int) (d:Int) (f:Int->Int->w8 ρ) (p:Int->w8 ρ):w8 ρ :=
  ifb (ilt c d) (ck (c+d) fun a=>ck (g-(IntKind.wrap .i64 (ir .u64 (IntKind.wrap .u64 a) (1:Int)))) fun e=>Ú ((ile 0 e)&&(ilt e (ï b))) (ĵ b (Int.toNat e) fun q=>Ú ((ile 0 (IntKind.wrap .i64 (ir .u64 (IntKind.wrap .u64 a) (1:Int))))&&(ilt (IntKind.wrap .i64 (ir .u64 (IntKind.wrap .u64 a) (1:Int))) (ï b))) (ĵ b (Int.toNat (IntKind.wrap .i64 (ir .u64 (IntKind.wrap .u64 a) (1:Int)))) fun r=>Ã (jj q r (((h,i),j,k,l,m,n),o)) fun s=>ifb (!(ilt s 0)) (ck ((IntKind.wrap .i64 (ir .u64 (IntKind.wrap .u64 a) (1:Int)))+(1:Int)) fun t=>f t d) (f c (IntKind.wrap .i64 (ir .u64 (IntKind.wrap .u64 a) (1:Int))))))) (p c)
def Ě (rec:an->Int->Int->Int->a7->w8 (an×a7)) (c:an) (f:Int) (g:Int) (b:Int) (mm:a7) (k:(an)×a7->w8 ρ):w8 ρ :=
  ck (g-f) fun R=>ifb (ieq R 1) (É (fun(t:bl) S=>ô rec f c mm.1.1.1 mm.1.1.2 mm.1.2.1 mm.1.2.2.1 mm.1.2.2.2.1 mm.1.2.2.2.2.1 mm.1.2.2.2.2.2 mm.2 t.1 t.2 (fun T U=>S (T,U)) (fun V=>É (fun(u:hO) W=>ì rec V u.1 u.2 (fun X Y=>W (X,Y)) (fun Z=>k (Z,mm))) (f,c))) (g,b)) (ck (b-g) fun dc=>ifb (ieq dc 1) (É (fun(v:bl) df=>ó rec g c mm.1.1.1 mm.1.1.2 mm.1.2.1 mm.1.2.2.1 mm.1.2.2.2.1 mm.1.2.2.2.2.1 mm.1.2.2.2.2.2 mm.2 v.1 v.2 (fun dg dh=>df (dg,dh)) (fun di=>É (fun(w:hO) dj=>ë rec di w.1 w.2 (fun dk dl=>dj (dk,dl)) (fun dm=>k (dm,mm))) (g,c))) (f,g)) (ck (f+b) fun a=>ck ((IntKind.wrap .i64 (ir .u64 (IntKind.wrap .u64 a) (1:Int)))+g) fun s=>ifb (igt g (IntKind.wrap .i64 (ir .u64 (IntKind.wrap .u64 a) (1:Int)))) (ck (s-b) fun dt=>ck (s-1) fun du=>É (fun(x:bl) dv=>Þ rec du c mm.1.1.1 mm.1.1.2 mm.1.2.1 mm.1.2.2.1 mm.1.2.2.2.1 mm.1.2.2.2.2.1 mm.1.2.2.2.2.2 mm.2 x.1 x.2 (fun dw dz=>dv (dw,dz)) (fun j=>ck (s-j) fun d=>ifb (ilt j g) (ifb (ilt g d) (Ã (Ī c j g d mm) fun h=>ifb (ilt f j) (ifb (ilt j (IntKind.wrap .i64 (ir .u64 (IntKind.wrap .u64 a) (1:Int)))) (Ã (rec h.1 f j (IntKind.wrap .i64 (ir .u64 (IntKind.wrap .u64 a) (1:Int))) h.2) fun m=>ifb (ilt (IntKind.wrap .i64 (ir .u64 (IntKind.wrap .u64 a) (1:Int))) d) (ifb (ilt d b) (Ã (rec m.1 (IntKind.wrap .i64 (ir .u64 (IntKind.wrap .u64 a) (1:Int))) d b m.2) fun y=>k (y.1,y.2)) (k (m.1,m.2))) (k (m.1,m.2))) (ifb (ilt (IntKind.wrap .i64 (ir .u64 (IntKind.wrap .u64 a) (1:Int))) d) (ifb (ilt d b) (Ã (rec h.1 (IntKind.wrap .i64 (ir .u64 (IntKind.wrap .u64 a) (1:Int))) d b h.2) fun z=>k (z.1,z.2)) (k (h.1,h.2))) (k (h.1,h.2)))) (ifb (ilt (IntKind.wrap .i64 (ir .u64 (IntKind.wrap .u64 a) (1:Int))) d) (ifb (ilt d b) (Ã (rec h.1 (IntKind.wrap .i64 (ir .u64 (IntKind.wrap .u64 a) (1:Int))) d b h.2) fun A=>k (A.1,A.2)) (k (h.1,h.2))) (k (h.1,h.2)))) (ifb (ilt f j) (ifb (ilt j (IntKind.wrap .i64 (ir .u64 (IntKind.wrap .u64 a) (1:Int)))) (Ã (rec c f j (IntKind.wrap .i64 (ir .u64 (IntKind.wrap .u64 a) (1:Int))) mm) fun n=>ifb (ilt (IntKind.wrap .i64 (ir .u64 (IntKind.wrap .u64 a) (1:Int))) d) (ifb (ilt d b) (Ã (rec n.1 (IntKind.wrap .i64 (ir .u64 (IntKind.wrap .u64 a) (1:Int))) d b n.2) fun B=>k (B.1,B.2)) (k (n.1,n.2))) (k (n.1,n.2))) (ifb (ilt (IntKind.wrap .i64 (ir .u64 (IntKind.wrap .u64 a) (1:Int))) d) (ifb (ilt d b) (Ã (rec c (IntKind.wrap .i64 (ir .u64 (IntKind.wrap .u64 a) (1:Int))) d b mm) fun C=>k (C.1,C.2)) (k (c,mm))) (k (c,mm)))) (ifb (ilt (IntKind.wrap .i64 (ir .u64 (IntKind.wrap .u64 a) (1:Int))) d) (ifb (ilt d b) (Ã (rec c (IntKind.wrap .i64 (ir .u64 (IntKind.wrap .u64 a) (1:Int))) d b mm) fun D=>k (D.1,D.2)) (k (c,mm))) (k (c,mm))))) (ifb (ilt f j) (ifb (ilt j (IntKind.wrap .i64 (ir .u64 (IntKind.wrap .u64 a) (1:Int)))) (Ã (rec c f j (IntKind.wrap .i64 (ir .u64 (IntKind.wrap .u64 a) (1:Int))) mm) fun o=>ifb (ilt (IntKind.wrap .i64 (ir .u64 (IntKind.wrap .u64 a) (1:Int))) d) (ifb (ilt d b) (Ã (rec o.1 (IntKind.wrap .i64 (ir .u64 (IntKind.wrap .u64 a) (1:Int))) d b o.2) fun E=>k (E.1,E.2)) (k (o.1,o.2))) (k (o.1,o.2))) (ifb (ilt (IntKind.wrap .i64 (ir .u64 (IntKind.wrap .u64 a) (1:Int))) d) (ifb (ilt d b) (Ã (rec c (IntKind.wrap .i64 (ir .u64 (IntKind.wrap .u64 a) (1:Int))) d b mm) fun F=>k (F.1,F.2)) (k (c,mm))) (k (c,mm)))) (ifb (ilt (IntKind.wrap .i64 (ir .u64 (IntKind.wrap .u64 a) (1:Int))) d) (ifb (ilt d b) (Ã (rec c (IntKind.wrap .i64 (ir .u64 (IntKind.wrap .u64 a) (1:Int))) d b mm) fun G=>k (G.1,G.2)) (k (c,mm))) (k (c,mm)))))) (dt,(IntKind.wrap .i64 (ir .u64 (IntKind.wrap .u64 a) (1:Int))))) (ck (s-1) fun d8=>É (fun(H:bl) d9=>Þ rec d8 c mm.1.1.1 mm.1.1.2 mm.1.2.1 mm.1.2.2.1 mm.1.2.2.2.1 mm.1.2.2.2.2.1 mm.1.2.2.2.2.2 mm.2 H.1 H.2 (fun ee eh=>d9 (ee,eh)) (fun l=>ck (s-l) fun e=>ifb (ilt l g) (ifb (ilt g e) (Ã (Ī c l g e mm) fun i=>ifb (ilt f l) (ifb (ilt l (IntKind.wrap .i64 (ir .u64 (IntKind.wrap .u64 a) (1:Int)))) (Ã (rec i.1 f l (IntKind.wrap .i64 (ir .u64 (IntKind.wrap .u64 a) (1:Int))) i.2) fun p=>ifb (ilt (IntKind.wrap .i64 (ir .u64 (IntKind.wrap .u64 a) (1:Int))) e) (ifb (ilt e b) (Ã (rec p.1 (IntKind.wrap .i64 (ir .u64 (IntKind.wrap .u64 a) (1:Int))) e b p.2) fun I=>k (I.1,I.2)) (k (p.1,p.2))) (k (p.1,p.2))) (ifb (ilt (IntKind.wrap .i64 (ir .u64 (IntKind.wrap .u64 a) (1:Int))) e) (ifb (ilt e b) (Ã (rec i.1 (IntKind.wrap .i64 (ir .u64 (IntKind.wrap .u64 a) (1:Int))) e b i.2) fun J=>k (J.1,J.2)) (k (i.1,i.2))) (k (i.1,i.2)))) (ifb (ilt (IntKind.wrap .i64 (ir .u64 (IntKind.wrap .u64 a) (1:Int))) e) (ifb (ilt e b) (Ã (rec i.1 (IntKind.wrap .i64 (ir .u64 (IntKind.wrap .u64 a) (1:Int))) e b i.2) fun K=>k (K.1,K.2)) (k (i.1,i.2))) (k (i.1,i.2)))) (ifb (ilt f l) (ifb (ilt l (IntKind.wrap .i64 (ir .u64 (IntKind.wrap .u64 a) (1:Int)))) (Ã (rec c f l (IntKind.wrap .i64 (ir .u64 (IntKind.wrap .u64 a) (1:Int))) mm) fun q=>ifb (ilt (IntKind.wrap .i64 (ir .u64 (IntKind.wrap .u64 a) (1:Int))) e) (ifb (ilt e b) (Ã (rec q.1 (IntKind.wrap .i64 (ir .u64 (IntKind.wrap .u64 a) (1:Int))) e b q.2) fun L=>k (L.1,L.2)) (k (q.1,q.2))) (k (q.1,q.2))) (ifb (ilt (IntKind.wrap .i64 (ir .u64 (IntKind.wrap .u64 a) (1:Int))) e) (ifb (ilt e b) (Ã (rec c (IntKind.wrap .i64 (ir .u64 (IntKind.wrap .u64 a) (1:Int))) e b mm) fun M=>k (M.1,M.2)) (k (c,mm))) (k (c,mm)))) (ifb (ilt (IntKind.wrap .i64 (ir .u64 (IntKind.wrap .u64 a) (1:Int))) e) (ifb (ilt e b) (Ã (rec c (IntKind.wrap .i64 (ir .u64 (IntKind.wrap .u64 a) (1:Int))) e b mm) fun N=>k (N.1,N.2)) (k (c,mm))) (k (c,mm))))) (ifb (ilt f l) (ifb (ilt l (IntKind.wrap .i64 (ir .u64 (IntKind.wrap .u64 a) (1:Int)))) (Ã (rec c f l (IntKind.wrap .i64 (ir .u64 (IntKind.wrap .u64 a) (1:Int))) mm) fun r=>ifb (ilt (IntKind.wrap .i64 (ir .u64 (IntKind.wrap .u64 a) (1:Int))) e) (ifb (ilt e b) (Ã (rec r.1 (IntKind.wrap .i64 (ir .u64 (IntKind.wrap .u64 a) (1:Int))) e b r.2) fun O=>k (O.1,O.2)) (k (r.1,r.2))) (k (r.1,r.2))) (ifb (ilt (IntKind.wrap .i64 (ir .u64 (IntKind.wrap .u64 a) (1:Int))) e) (ifb (ilt e b) (Ã (rec c (IntKind.wrap .i64 (ir .u64 (IntKind.wrap .u64 a) (1:Int))) e b mm) fun P=>k (P.1,P.2)) (k (c,mm))) (k (c,mm)))) (ifb (ilt (IntKind.wrap .i64 (ir .u64 (IntKind.wrap .u64 a) (1:Int))) e) (ifb (ilt e b) (Ã (rec c (IntKind.wrap .i64 (ir .u64 (IntKind.wrap .u64 a) (1:Int))) e b mm) fun Q=>k (Q.1,Q.2)) (k (c,mm))) (k (c,mm)))))) (f,g))))
def ę:Nat->an->Int->Int->Int->a7->w8 (an×a7)
  |0=>fun _ _ _ _ _=>none
  |n+1=>fun a b c d mm=>Ě (ę n) a b c d mm some
def Ċ (a:an) (b:Int) (c:Int) (d:Int) (mm:a7):w8 ((an)×a7):=ę 100 a b c d mm
def Τ (m:Int) (n:Int) (c:Int) (b:Int) (d:an) (e:Int) (f:Int) (g:dx) (h:a8) (i:dy) (j:c7) (k:a8) (l:b6) (o:Int->Int->an->Int->Int->dx->a8->dy->c7->a8->b6->w8 ρ) (p:px->w8 ρ):w8 ρ :=
  ifb (ile b m) (Ã (ä d c b (((e,f),g,h,i,j,k),l)) fun a=>ck (b+n) fun q=>o b q a.1 a.2.1.1.1 a.2.1.1.2 a.2.1.2.1 a.2.1.2.2.1 a.2.1.2.2.2.1 a.2.1.2.2.2.2.1 a.2.1.2.2.2.2.2 a.2.2) (p (c,d,e,f,g,h,i,j,k,l))
def Ο (n:Int) (d:Int) (c:Int) (b:Int) (e:an) (f:Int) (g:Int) (h:dx) (i:a8) (j:dy) (k:c7) (l:a8) (m:b6) (o:Int->Int->an->Int->Int->dx->a8->dy->c7->a8->b6->w8 ρ) (p:px->w8 ρ):w8 ρ :=
  ifb (ile b n) (ck (c+d) fun q=>Ã (Ċ e c q b (((f,g),h,i,j,k,l),m)) fun a=>ck ((2:Int)*d) fun r=>ck (b+r) fun s=>o b s a.1 a.2.1.1.1 a.2.1.1.2 a.2.1.2.1 a.2.1.2.2.1 a.2.1.2.2.2.1 a.2.1.2.2.2.2.1 a.2.1.2.2.2.2.2 a.2.2) (p (c,e,f,g,h,i,j,k,l,m))
def Ρ (e:Int) (d:Int) (f:an) (g:Int) (h:Int) (i:dx) (j:a8) (k:dy) (l:c7) (m:a8) (n:b6) (o:Int->an->Int->Int->dx->a8->dy->c7->a8->b6->w8 ρ) (q:(Val (.pair ah ai))->w8 ρ):w8 ρ :=
  ifb (ilt d e) (ck ((2:Int)*d) fun r=>É (fun(b:rx) s=>Ο e d b.1 b.2.1 b.2.2.1 b.2.2.2.1 b.2.2.2.2.1 b.2.2.2.2.2.1 b.2.2.2.2.2.2.1 b.2.2.2.2.2.2.2.1 b.2.2.2.2.2.2.2.2.1 b.2.2.2.2.2.2.2.2.2.1 b.2.2.2.2.2.2.2.2.2.2 (fun t u v w x y z A B C D=>s (t,u,v,w,x,y,z,A,B,C,D)) (fun a=>ck (a.1+d) fun p=>ifb (ilt p e) (Ã (Ċ a.2.1 a.1 p e (((a.2.2.1,a.2.2.2.1),a.2.2.2.2.1,a.2.2.2.2.2.1,a.2.2.2.2.2.2.1,a.2.2.2.2.2.2.2.1,a.2.2.2.2.2.2.2.2.1),a.2.2.2.2.2.2.2.2.2)) fun c=>ck (d*(2:Int)) fun E=>o E c.1 c.2.1.1.1 c.2.1.1.2 c.2.1.2.1 c.2.1.2.2.1 c.2.1.2.2.2.1 c.2.1.2.2.2.2.1 c.2.1.2.2.2.2.2 c.2.2) (ck (d*(2:Int)) fun F=>o F a.2.1 a.2.2.1 a.2.2.2.1 a.2.2.2.2.1 a.2.2.2.2.2.1 a.2.2.2.2.2.2.1 a.2.2.2.2.2.2.2.1 a.2.2.2.2.2.2.2.2.1 a.2.2.2.2.2.2.2.2.2))) ((0:Int),r,f,g,h,i,j,k,l,m,n)) (q (f,g,h,i,j,k,l,m,n))
def iL (g:an) (f:Int) (mm:a7) (k:(an)×a7->w8 ρ):w8 ρ :=
  É (fun(a:rx) h=>Τ f (20:Int) a.1 a.2.1 a.2.2.1 a.2.2.2.1 a.2.2.2.2.1 a.2.2.2.2.2.1 a.2.2.2.2.2.2.1 a.2.2.2.2.2.2.2.1 a.2.2.2.2.2.2.2.2.1 a.2.2.2.2.2.2.2.2.2.1 a.2.2.2.2.2.2.2.2.2.2 (fun i j l m n o p q r s t=>h (i,j,l,m,n,o,p,q,r,s,t)) (fun b=>Ã (ä b.2.1 b.1 f (((b.2.2.1,b.2.2.2.1),b.2.2.2.2.1,b.2.2.2.2.2.1,b.2.2.2.2.2.2.1,b.2.2.2.2.2.2.2.1,b.2.2.2.2.2.2.2.2.1),b.2.2.2.2.2.2.2.2.2)) fun d=>É (fun(c:px) u=>Ρ f c.1 c.2.1 c.2.2.1 c.2.2.2.1 c.2.2.2.2.1 c.2.2.2.2.2.1 c.2.2.2.2.2.2.1 c.2.2.2.2.2.2.2.1 c.2.2.2.2.2.2.2.2.1 c.2.2.2.2.2.2.2.2.2 (fun v w x y z A B C D E=>u (v,w,x,y,z,A,B,C,D,E)) (fun e=>k (e.1,(((e.2.1,e.2.2.1),e.2.2.2.1,e.2.2.2.2.1,e.2.2.2.2.2.1,e.2.2.2.2.2.2.1,e.2.2.2.2.2.2.2.1),e.2.2.2.2.2.2.2.2)))) ((20:Int),d.1,d.2.1.1.1,d.2.1.1.2,d.2.1.2.1,d.2.1.2.2.1,d.2.1.2.2.2.1,d.2.1.2.2.2.2.1,d.2.1.2.2.2.2.2,d.2.2))) ((0:Int),(20:Int),g,mm.1.1.1,mm.1.1.2,mm.1.2.1,mm.1.2.2.1,mm.1.2.2.2.1,mm.1.2.2.2.2.1,mm.1.2.2.2.2.2,mm.2)
def ĩ (a:an) (b:Int) (mm:a7):w8 ((an)×a7):=iL a b mm some
def Bk (a:an) (y:bx) (b:an->w8 ρ):w8 ρ :=
  Ú (Ý ((List.length a)+(List.length ([y])))) (b (a++([y])))
def t8 (c:Int) (d:Int) (e:Int) (f:dx) (g:a8) (h:dy) (i:c7) (j:a8) (k:b6) (b:an) (a:Int) (l:Int->w8 ρ) (m:Int->w8 ρ) (n:Unit->w8 ρ):w8 ρ :=
  ifb (ilt a c) (Ú ((ile 0 a)&&(ilt a (ï b))) (ĵ b (Int.toNat a) fun o=>Ã (θ (((d,e),f,g,h,i,j),k) o) fun p=>ifb (!p) (m a) (ck (a+(1:Int)) fun q=>l q))) (n ())
def lW (f:Int) (g:Int) (h:dx) (i:a8) (j:dy) (k:c7) (l:a8) (m:b6) (b:Int) (c:Int) (a:an) (d:Int->Int->an->w8 ρ) (n:hO->w8 ρ):w8 ρ :=
  ifb (ilt c (Ô a)) (Ú ((ile 0 c)&&(ilt c (ï a))) (ĵ a (Int.toNat c) fun e=>Ã (θ (((f,g),h,i,j,k,l),m) e) fun o=>ifb (!(!o)) (Ú ((ile 0 b)&&(ilt b (ï a))) (ĵ a (Int.toNat b) fun s=>ck (b+(1:Int)) fun p=>ck (c+(1:Int)) fun q=>d p q (List.set a (Int.toNat b) e))) (ck (c+(1:Int)) fun r=>d b r a))) (n (b,a))
def Pj (b:a7) (k:an->w8 ρ):w8 ρ :=
  Ã (l8 b.2) fun g=>xy (fun(h:an) (i:bx) j=>Bk h i (fun l=>j l)) g ([]) (fun f=>Ã (ĩ f (Ô f) b) fun c=>É (fun(m:Int) n=>t8 (Ô c.1) b.1.1.1 b.1.1.2 b.1.2.1 b.1.2.2.1 b.1.2.2.2.1 b.1.2.2.2.2.1 b.1.2.2.2.2.2 b.2 c.1 m (fun o=>n o) (fun d=>ifb (ieq d (-1:Int)) (k c.1) (ck (d+(1:Int)) fun p=>É (fun(e:rn) q=>lW b.1.1.1 b.1.1.2 b.1.2.1 b.1.2.2.1 b.1.2.2.2.1 b.1.2.2.2.2.1 b.1.2.2.2.2.2 b.2 e.1 e.2.1 e.2.2 (fun r s t=>q (r,s,t)) (fun a=>Ú ((ile 0 a.1)&&(ile a.1 (ï a.2))) (Ú ((ile 0 a.1)&&(ile a.1 (ï (List.take (Int.toNat a.1) a.2++List.replicate (List.length a.2-(Int.toNat a.1)) ([])++List.drop ((Int.toNat a.1)+(List.length a.2-(Int.toNat a.1))) a.2)))) (k (List.take (Int.toNat a.1) (List.drop 0 (List.take (Int.toNat a.1) a.2++List.replicate (List.length a.2-(Int.toNat a.1)) ([])++List.drop ((Int.toNat a.1)+(List.length a.2-(Int.toNat a.1))) a.2))))))) (d,p,c.1))) (fun _=>k c.1)) (0:Int))
def yp (a:a7):w8 (an):=Pj a some
def aaQ (a:a7) (k:sT->w8 ρ):w8 ρ :=
  Ã (Œ a) fun b=>ifb (ine b 0) (k ([],b)) (Ã (yp a) fun c=>k (c,(0:Int)))
def BD (a:a7):w8 (sT):=aaQ a some
def wE (a:ag) (y:Int) (b:ag->w8 ρ):w8 ρ :=
  Ú (Ý ((List.length a)+(List.length ([y])))) (b (a++([y])))
def qE (h:bx) (i:Int) (j:b6) (c:Int) (k:Int->w8 ρ) (d:Bool->w8 ρ) (l:Unit->w8 ρ):w8 ρ :=
  ifb (ilt c i) (ø h c fun e=>ø j c fun f=>ifb (ine (Ô e) (Ô f.2)) (d false) (Ã (yf e) fun m=>xy (fun(n:ag) (o:Int) p=>wE n o (fun q=>p q)) m ([]) (fun g=>Ú (Ý (List.length g)) (Ã (DY (Ex g)) fun a=>Ã (DY f.2) fun b=>ifb (!((kI a.1 b.1)&&((kI a.2.1 b.2.1)&&((kI a.2.2.1 b.2.2.1)&&((kI a.2.2.2.1 b.2.2.2.1)&&((kI a.2.2.2.2 b.2.2.2.2)&&true)))))) (d false) (ck (c+(1:Int)) fun r=>k r))))) (l ())
def I8 (b:a7) (a:bx) (k:Bool->w8 ρ):w8 ρ :=
  ifb (ine (Ô a) (Ô b.2)) (k false) (É (fun(c:Int) d=>qE a (Ô a) b.2 c (fun e=>d e) (fun f=>k f) (fun _=>k true)) (0:Int))
def DZ (a:a7) (b:bx):w8 (Bool):=I8 a b some
def RU (a:a7) (c:bx) (k:Int->w8 ρ):w8 ρ :=
  Ã (Œ a) fun b=>ifb (ine b 0) (k b) (Ã (DZ a c) fun d=>ifb (!d) (k (1:Int)) (k (0:Int)))
def D2 (a:a7) (b:bx):w8 (Int):=RU a b some
def qD (b:dx) (c:Int) (d:Int) (a:Int) (e:Int->w8 ρ) (f:Int->w8 ρ) (g:Unit->w8 ρ):w8 ρ :=
  ifb (ilt a c) (ø b a fun h=>ifb (ieq h.1 d) (f a) (ck (a+(1:Int)) fun i=>e i)) (g ())
def RQ (a:a7) (c:Int) (b:Int) (k:Int->w8 ρ):w8 ρ :=
  ifb (ilt b 0) (k (1:Int)) (ifb (igt b 20000) (k (1:Int)) (É (fun(d:Int) e=>qD a.1.2.1 (Ô a.1.2.1) c d (fun f=>e f) (fun g=>ifb (!(ige g 0)) (k (5:Int)) (k (0:Int))) (fun _=>k (5:Int))) (0:Int)))
def tD (a:a7) (b:Int) (c:Int):w8 (Int):=RQ a b c some
def aaM (a:a7) (b:bx) (c:Int) (d:Int) (k:bl->w8 ρ):w8 ρ :=
  Ã (D2 a b) fun e=>ifb (ine e 0) (k ((0:Int),e)) (Ã (tD a c d) fun f=>ifb (ine f 0) (k ((0:Int),f)) (Ã (pG a b c d) fun g=>k (g,(0:Int))))
def KX (a:a7) (b:bx) (c:Int) (d:Int):w8 bl:=aaM a b c d some
def IY (a:an) (y:bx) (b:an->w8 ρ):w8 ρ :=
  Ú (Ý ((List.length a)+(List.length ([y])))) (b (a++([y])))
def Wj (a:a7) (k:an->w8 ρ):w8 ρ :=
  Ã (l8 a.2) fun c=>xy (fun(d:an) (e:bx) f=>IY d e (fun g=>f g)) c ([]) (fun b=>Ã (ĩ b (Ô b) a) fun h=>k h.1)
def yo (a:a7):w8 (an):=Wj a some
def adX (a:a7) (k:sT->w8 ρ):w8 ρ :=
  Ã (Œ a) fun b=>ifb (ine b 0) (k ([],b)) (Ã (yo a) fun c=>k (c,(0:Int)))
def W6 (a:a7):w8 (sT):=adX a some
def RI (a:c7) (k:a7->w8 ρ):w8 ρ :=
  Ú (Ý ((List.length ([((7:Int),(10:Int),[(1:Int)],[(2:Int)],(-20:Int),(1:Int),(100:Int),(200:Int))]))+(List.length a))) (k ((((0:Int),(2:Int)),[((1:Int),(0:Int),(1000:Int),((-5:Int),(5:Int)),((1:Int),(10:Int)),(1:Int)),((2:Int),(0:Int),(1000:Int),((-50:Int),(50:Int)),((1:Int),(4:Int)),(0:Int)),((3:Int),(0:Int),(1100:Int),((-1:Int),(1:Int)),((0:Int),(1:Int)),(0:Int))],[((1:Int),(10:Int))],[((1:Int),((20:Int),(29:Int)),(3:Int))],(([((7:Int),(10:Int),[(1:Int)],[(2:Int)],(-20:Int),(1:Int),(100:Int),(200:Int))])++a),[]),[((12:Int),[(2:Int),(3:Int)])]))
def iT (a:c7):w8 a7:=RI a some
def vg (c:an) (d:Int) (e:Int) (f:Int) (g:dx) (h:a8) (i:dy) (j:c7) (k:a8) (l:b6) (a:Int) (m:Int->w8 ρ) (n:nT->w8 ρ) (o:Unit->w8 ρ):w8 ρ :=
  ifb (ilt a d) (ø c a fun b=>Ã (θ (((e,f),g,h,i,j,k),l) b) fun p=>ifb p (n (b,true)) (ck (a+(1:Int)) fun q=>m q)) (o ())
def Pk (a:a7) (k:nT->w8 ρ):w8 ρ :=
  Ã (yo a) fun b=>É (fun(d:Int) e=>vg b (Ô b) a.1.1.1 a.1.1.2 a.1.2.1 a.1.2.2.1 a.1.2.2.2.1 a.1.2.2.2.2.1 a.1.2.2.2.2.2 a.2 d (fun f=>e f) (fun c=>k (c.1,c.2)) (fun _=>k ([],false))) (0:Int)
def gY (a:a7):w8 (nT):=Pk a some
def aaO (a:a7) (k:nx->w8 ρ):w8 ρ :=
  Ã (Œ a) fun b=>ifb (ine b 0) (k ([],b)) (Ã (gY a) fun c=>ifb (!c.2) (k ([],(5:Int))) (k (c.1,(0:Int))))
def S7 (a:a7):w8 (nx):=aaO a some
def aa3 (a:b5) (d:bl) (k:bl->w8 ρ):w8 ρ :=
  Ã (ŧ a) fun b=>ifb (ine b 0) (k ((0:Int),b)) (Ã (pK a) fun e=>Ã (Ę e d) fun c=>ifb (ilt c 0) (k ((0:Int),(5:Int))) (ck (c+(1:Int)) fun f=>k (f,(0:Int))))
def D9 (a:b5) (b:bl):w8 bl:=aa3 a b some
def Km (f:Int) (a:Int) (c:c7) (g:Int->c7->w8 ρ) (h:c7->w8 ρ):w8 ρ :=
  ifb (ilt a f) (Ú ((ile 0 a)&&(ilt a (ï c))) (ĵ c (Int.toNat a) fun d=>Ú (Ý (List.length d.2.2.1)) (Ú (Ý (List.length d.2.2.2.1)) (Ú ((ile 0 a)&&(ilt a (ï c))) (ĵ c (Int.toNat a) fun b=>Ú ((ile 0 a)&&(ilt a (ï (List.set c (Int.toNat a) (b.1,b.2.1,d.2.2.1,b.2.2.2))))) (ĵ (List.set c (Int.toNat a) (b.1,b.2.1,d.2.2.1,b.2.2.2)) (Int.toNat a) fun e=>ck (a+(1:Int)) fun i=>g i (List.set (List.set c (Int.toNat a) (b.1,b.2.1,d.2.2.1,b.2.2.2)) (Int.toNat a) (e.1,e.2.1,e.2.2.1,d.2.2.2.1,e.2.2.2.2)))))))) (h c)
def ad0 (a:b5) (b:bl) (k:nn->w8 ρ):w8 ρ :=
  Ã (ŧ a) fun c=>ifb (ine c 0) (k ((((0:Int),(0:Int)),[],[],[],[],[]),c)) (Ú (Ý (List.length a.2.1)) (Ú (Ý (List.length a.2.2.1)) (Ú (Ý (List.length a.2.2.2.1)) (Ú (Ý (List.length a.2.2.2.2.2)) (Ú (Ý (List.length a.2.2.2.2.1)) (É (fun(d:Val aZ) g=>Km (Ô a.2.2.2.2.1) d.1 d.2 (fun h i=>g (h,i)) (fun e=>Ú (Ý ((List.length a.2.2.2.2.2)+(List.length ([b])))) (Ã (ŧ (a.1,a.2.1,a.2.2.1,a.2.2.2.1,e,(a.2.2.2.2.2++([b])))) fun f=>ifb (ine f 0) (k ((((0:Int),(0:Int)),[],[],[],[],[]),f)) (k ((a.1,a.2.1,a.2.2.1,a.2.2.2.1,e,(a.2.2.2.2.2++([b]))),(0:Int)))))) ((0:Int),a.2.2.2.2.1)))))))
def W9 (a:b5) (b:bl):w8 (nn):=ad0 a b some
def Gc (b:ag) (c:Int) (d:Int) (e:fx) (a:Int) (f:Int->w8 ρ) (g:Int->w8 ρ) (h:Unit->w8 ρ):w8 ρ :=
  ifb (ilt a c) (ø b a fun i=>Ã (yr (d,e) i) fun j=>ifb (!j) (g (1:Int)) (ck (a+(1:Int)) fun k=>f k)) (h ())
def aaS (a:ew) (b:ag) (k:Int->w8 ρ):w8 ρ :=
  Ã (pI a) fun c=>ifb (ine c.1 0) (k c.1) (É (fun(d:Int) e=>Gc b (Ô b) a.1 a.2 d (fun f=>e f) (fun g=>k g) (fun _=>Ã (kv a ([])) fun h=>ifb (!h.2) (k (9:Int)) (k (0:Int)))) (0:Int))
def S9 (a:ew) (b:ag):w8 (Int):=aaS a b some
def Di (c:Int) (a:Int) (b:ag) (d:Int->ag->w8 ρ) (e:ag->w8 ρ):w8 ρ :=
  ifb (ilt a c) (Ú ((ile 0 a)&&(ilt a (ï b))) (ĵ b (Int.toNat a) fun g=>ck (a+(1:Int)) fun f=>d f (List.set b (Int.toNat a) (1152921504606846976:Int)))) (e b)
def Dh (c:fx) (d:Int) (b:Int) (a:Int) (e:Int->Int->w8 ρ) (f:Int->w8 ρ):w8 ρ :=
  ifb (ilt a d) (ø c a fun g=>ck (b+(WN g.2.2 (0:Int))) fun h=>ck (a+(1:Int)) fun i=>e h i) (f b)
def Dg (f:Int) (d:ag) (a:Int) (b:py) (c:ag) (e:Int->py->ag->w8 ρ) (g:Val aQ->w8 ρ):w8 ρ :=
  ifb (ilt a f) (Ú ((ile 0 a)&&(ilt a (ï d))) (ĵ d (Int.toNat a) fun h=>ifb (ine h 1152921504606846976) (Ú (Ý ((List.length c)+(List.length ([a])))) (Ú ((ile 0 a)&&(ilt a (ï b))) (ĵ b (Int.toNat a) fun k=>ck (a+(1:Int)) fun i=>e i (List.set b (Int.toNat a) true) (c++([a]))))) (ck (a+(1:Int)) fun j=>e j b c))) (g (b,c))
def De (m:Val ay) (j:Int) (d:Int) (n:fx) (o:Int) (f:Int) (b:ag) (c:py) (e:ag) (g:Int->ag->py->ag->w8 ρ) (l:(Val (.pair .bool (.pair ab aQ)))->w8 ρ) (p:(Val (.pair ab aQ))->w8 ρ):w8 ρ :=
  ifb (ilt f o) (ø n f fun a=>ifb (ine a.1 d) (ck (f+(1:Int)) fun q=>g q b c e) (N8 (k:=tI) (v:=.bool) f m (fun r=>ifb r (ck (f+(1:Int)) fun s=>g s b c e) (Ú ((ile 0 d)&&(ilt d (ï b))) (ĵ b (Int.toNat d) fun t=>ck (t+a.2.2) fun u=>Ú ((ile 0 a.2.1)&&(ilt a.2.1 (ï b))) (ĵ b (Int.toNat a.2.1) fun w=>ifb (ige u w) (ck (f+(1:Int)) fun x=>g x b c e) (Ú ((ile 0 d)&&(ilt d (ï b))) (ĵ b (Int.toNat d) fun y=>ck (y+a.2.2) fun h=>Ú ((ile 0 a.2.1)&&(ilt a.2.1 (ï b))) (ĵ b (Int.toNat a.2.1) fun M=>Ú ((ile 0 a.2.1)&&(ilt a.2.1 (ï (List.set b (Int.toNat a.2.1) h)))) (ĵ (List.set b (Int.toNat a.2.1) h) (Int.toNat a.2.1) fun z=>ifb (ilt z j) (l (false,(List.set b (Int.toNat a.2.1) h),c,e)) (Ú ((ile 0 a.2.1)&&(ilt a.2.1 (ï c))) (ĵ c (Int.toNat a.2.1) fun A=>ifb (!A) (Ú (Ý ((List.length e)+(List.length ([a.2.1])))) (Ú ((ile 0 a.2.1)&&(ilt a.2.1 (ï c))) (ĵ c (Int.toNat a.2.1) fun N=>ck (f+(1:Int)) fun B=>g B (List.set b (Int.toNat a.2.1) h) (List.set c (Int.toNat a.2.1) true) (e++([a.2.1]))))) (ck (f+(1:Int)) fun C=>g C (List.set b (Int.toNat a.2.1) h) c e))))))))))) (Ú ((ile 0 d)&&(ilt d (ï b))) (ĵ b (Int.toNat d) fun D=>ck (D+a.2.2) fun E=>Ú ((ile 0 a.2.1)&&(ilt a.2.1 (ï b))) (ĵ b (Int.toNat a.2.1) fun F=>ifb (ige E F) (ck (f+(1:Int)) fun G=>g G b c e) (Ú ((ile 0 d)&&(ilt d (ï b))) (ĵ b (Int.toNat d) fun H=>ck (H+a.2.2) fun i=>Ú ((ile 0 a.2.1)&&(ilt a.2.1 (ï b))) (ĵ b (Int.toNat a.2.1) fun O=>Ú ((ile 0 a.2.1)&&(ilt a.2.1 (ï (List.set b (Int.toNat a.2.1) i)))) (ĵ (List.set b (Int.toNat a.2.1) i) (Int.toNat a.2.1) fun I=>ifb (ilt I j) (l (false,(List.set b (Int.toNat a.2.1) i),c,e)) (Ú ((ile 0 a.2.1)&&(ilt a.2.1 (ï c))) (ĵ c (Int.toNat a.2.1) fun J=>ifb (!J) (Ú (Ý ((List.length e)+(List.length ([a.2.1])))) (Ú ((ile 0 a.2.1)&&(ilt a.2.1 (ï c))) (ĵ c (Int.toNat a.2.1) fun P=>ck (f+(1:Int)) fun K=>g K (List.set b (Int.toNat a.2.1) i) (List.set c (Int.toNat a.2.1) true) (e++([a.2.1]))))) (ck (f+(1:Int)) fun L=>g L (List.set b (Int.toNat a.2.1) i) c e)))))))))))) (p (b,c,e))
def Df (l:Val ay) (m:Int) (n:Int) (k:fx) (h:ag) (d:py) (b:ag) (c:ag) (o:ag->py->ag->ag->w8 ρ) (i:(Val (.pair .bool aR))->w8 ρ):w8 ρ :=
  ifb (ieq (Ô c) 0) (i (true,h,d,b,c)) (Ú (ilt 0 (ï c)) (ĵ c 0 fun a=>Ú (ile 1 (ï c)) (Ú (decide (1+(List.length c-1)=List.length c)) (Ú ((ile 0 a)&&(ilt a (ï d))) (ĵ d (Int.toNat a) fun x=>Ú ((ile 0 a)&&(ilt a (ï b))) (ĵ b (Int.toNat a) fun p=>ck (p+(1:Int)) fun e=>Ú ((ile 0 a)&&(ilt a (ï b))) (ĵ b (Int.toNat a) fun y=>Ú ((ile 0 a)&&(ilt a (ï (List.set b (Int.toNat a) e)))) (ĵ (List.set b (Int.toNat a) e) (Int.toNat a) fun q=>ck (n+(1:Int)) fun r=>ifb (igt q r) (i (false,h,(List.set d (Int.toNat a) false),(List.set b (Int.toNat a) e),(List.drop 1 c))) (É (fun(f:io) s=>De l m a k (Ô k) f.1 f.2.1 f.2.2.1 f.2.2.2 (fun t u v w=>s (t,u,v,w)) (fun g=>i (g.1,g.2.1,g.2.2.1,(List.set b (Int.toNat a) e),g.2.2.2)) (fun j=>o j.1 j.2.1 (List.set b (Int.toNat a) e) j.2.2)) ((0:Int),h,(List.set d (Int.toNat a) false),(List.drop 1 c)))))))))))
def NU (a:ew) (i:Val ay) (b:Int) (k:ag->w8 ρ):w8 ρ :=
  Ú ((ile 0 a.1)&&(Ý (Int.toNat a.1))) (É (fun(f:ek) j=>Di (Ô (List.replicate (Int.toNat a.1) (0:Int))) f.1 f.2 (fun l m=>j (l,m)) (fun c=>Ú ((ile 0 b)&&(ilt b (ï c))) (ĵ c (Int.toNat b) fun B=>Ú ((ile 0 a.1)&&(Ý (Int.toNat a.1))) (Ú ((ile 0 a.1)&&(Ý (Int.toNat a.1))) (É (fun(g:bl) n=>Dh a.2 (Ô a.2) g.1 g.2 (fun o p=>n (o,p)) (fun q=>É (fun(e:rm) r=>Dg a.1 (List.set c (Int.toNat b) (0:Int)) e.1 e.2.1 e.2.2 (fun s t u=>r (s,t,u)) (fun h=>É (fun(d:Val aR) v=>Df i q a.1 a.2 d.1 d.2.1 d.2.2.1 d.2.2.2 (fun w x y z=>v (w,x,y,z)) (fun A=>k A.2.1)) ((List.set c (Int.toNat b) (0:Int)),h.1,(List.replicate (Int.toNat a.1) (0:Int)),h.2))) ((0:Int),(List.replicate (Int.toNat a.1) false),[]))) ((0:Int),(0:Int))))))) ((0:Int),(List.replicate (Int.toNat a.1) (0:Int))))
def Fv (a:ew) (b:Val ay) (c:Int):w8 (ag):=NU a b c some
def Ge (c:Int) (d:Int) (e:fx) (a:Int) (b:ag) (f:Int->ag->w8 ρ) (g:ag->w8 ρ):w8 ρ :=
  ifb (ilt a c) (Ã (Fv (d,e) ([]) a) fun h=>ø h (0:Int) fun i=>Ú ((ile 0 a)&&(ilt a (ï b))) (ĵ b (Int.toNat a) fun k=>ck (a+(1:Int)) fun j=>f j (List.set b (Int.toNat a) i))) (g b)
def Gd (f:ag) (g:Int) (c:ag) (a:Int) (b:a8) (h:Int->a8->w8 ρ) (i:a8->w8 ρ):w8 ρ :=
  ifb (ilt a g) (Ú ((ile 0 a)&&(ilt a (ï c))) (ĵ c (Int.toNat a) fun j=>ck (0-j) fun d=>ø f a fun e=>Ú (Ý ((List.length b)+(List.length ([(d,e)])))) (ck (a+(1:Int)) fun k=>h k (b++([(d,e)]))))) (i b)
def aaT (a:ew) (k:rd->w8 ρ):w8 ρ :=
  Ã (S9 a ([])) fun b=>ifb (ine b 0) (k ([],b)) (Ã (Fv a ([]) (0:Int)) fun c=>Ú ((ile 0 a.1)&&(Ý (Int.toNat a.1))) (É (fun(d:ek) f=>Ge (Ô (List.replicate (Int.toNat a.1) (0:Int))) a.1 a.2 d.1 d.2 (fun g h=>f (g,h)) (fun i=>É (fun(e:wl) j=>Gd c (Ô c) i e.1 e.2 (fun l m=>j (l,m)) (fun n=>k (n,(0:Int)))) ((0:Int),[]))) ((0:Int),(List.replicate (Int.toNat a.1) (0:Int)))))
def KZ (a:ew):w8 (rd):=aaT a some
def Yj (a:b5) (b:bl) (k:Val LR->w8 ρ):w8 ρ :=
  Ã (D9 a b) fun f=>ifb (ine f.2 0) (Ã (W9 a b) fun c=>ifb (ine c.2 0) (k (((0:Int),(0:Int)),c.2)) (Ã (D9 c.1 b) fun g=>Ã (jk c.1) fun h=>Ã (KZ h.1) fun d=>ifb (ine d.2 0) (k (((0:Int),(0:Int)),d.2)) (ø d.1 g.1 fun i=>k (i,(0:Int))))) (Ã (D9 a b) fun j=>Ã (jk a) fun l=>Ã (KZ l.1) fun e=>ifb (ine e.2 0) (k (((0:Int),(0:Int)),e.2)) (ø e.1 j.1 fun m=>k (m,(0:Int))))
def On (a:b5) (b:bl):w8 (Val LR):=Yj a b some
def CZ (r:Int) (e:Int) (s:an) (t:Int) (f:Int) (g:Int) (h:dx) (i:a8) (j:dy) (l:c7) (m:a8) (n:b6) (c:Int) (a:Val aU) (o:Int->Val aU->w8 ρ) (u:(Val (.pair tI aU))->w8 ρ) (w:Val aU->w8 ρ):w8 ρ :=
  ifb (ilt c t) (ø s c fun p=>Ã (pG (((f,g),h,i,j,l,m),n) p r e) fun d=>Ã (gX (((f,g),h,i,j,l,m),n) p) fun x=>Ã (On x (d,e)) fun b=>ifb (ine b.2 0) (u (b.2,a)) (N8 (k:=tI) (v:=Ç) d a (fun q=>ck (c+(1:Int)) fun y=>o y (Pb (k:=tI) (v:=Ç) d ((WN b.1.1 q.1),(US b.1.2 q.2)) a)) (ck (c+(1:Int)) fun z=>o z (Pb (k:=tI) (v:=Ç) d b.1 a)))) (w a)
def CY (f:dx) (g:Int) (h:Val aU) (a:Int) (b:fx) (d:Int->fx->w8 ρ) (i:fx->w8 ρ):w8 ρ :=
  ifb (ilt a g) (ø f a fun c=>N8 (k:=tI) (v:=Ç) c.1 h (fun e=>Ú (Ý ((List.length b)+(List.length ([(c.1,e)])))) (ck (a+(1:Int)) fun j=>d j (b++([(c.1,e)])))) (ck (a+(1:Int)) fun l=>d l b)) (i b)
def Ym (a:a7) (c:Int) (d:Int) (k:(Val (.pair am tI))->w8 ρ):w8 ρ :=
  Ã (Œ a) fun e=>ifb (ine e 0) (k ([],e)) (Ã (tD a c d) fun f=>ifb (ine f 0) (k ([],f)) (Ã (yp a) fun b=>ifb (ieq (Ô b) 0) (k ([],(5:Int))) (É (fun(g:(Val (.pair tI aU))) i=>CZ c d b (Ô b) a.1.1.1 a.1.1.2 a.1.2.1 a.1.2.2.1 a.1.2.2.2.1 a.1.2.2.2.2.1 a.1.2.2.2.2.2 a.2 g.1 g.2 (fun j l=>i (j,l)) (fun m=>k ([],m.1)) (fun n=>É (fun(h:ew) o=>CY a.1.2.1 (Ô a.1.2.1) n h.1 h.2 (fun p q=>o (p,q)) (fun r=>k (r,(0:Int)))) ((0:Int),[]))) ((0:Int),[]))))
def Oo (a:a7) (b:Int) (c:Int):w8 ((Val (.pair am tI))):=Ym a b c some
variable [LC]
def I0 (c:Int) (d:ag) (b:c7) (a:Int) (e:Int->w8 ρ) (f:Int->w8 ρ) (g:Unit->w8 ρ):w8 ρ :=
  ifb (ilt a c) (Ú ((ile 0 a)&&(ilt a (ï b))) (ĵ b (Int.toNat a) fun h=>Ã (à d h.1) fun i=>ifb (!i) (f a) (ck (a+(1:Int)) fun j=>e j))) (g ())
def IZ (f:ag) (b:Int) (c:Int) (a:c7) (d:Int->Int->c7->w8 ρ) (g:Val aZ->w8 ρ):w8 ρ :=
  ifb (ilt c (Ô a)) (Ú ((ile 0 c)&&(ilt c (ï a))) (ĵ a (Int.toNat c) fun e=>Ã (à f e.1) fun h=>ifb (!(!h)) (Ú ((ile 0 b)&&(ilt b (ï a))) (ĵ a (Int.toNat b) fun l=>ck (b+(1:Int)) fun i=>ck (c+(1:Int)) fun j=>d i j (List.set a (Int.toNat b) e))) (ck (c+(1:Int)) fun k=>d b k a))) (g (b,a))
def Wm (b:a7) (e:ag) (k:a7->w8 ρ):w8 ρ :=
  Ú (Ý (List.length b.1.2.2.2.2.1)) (É (fun(f:Int) g=>I0 (Ô b.1.2.2.2.2.1) e b.1.2.2.2.2.1 f (fun h=>g h) (fun c=>ifb (ieq c (-1:Int)) (k b) (ck (c+(1:Int)) fun i=>É (fun(d:ry) j=>IZ e d.1 d.2.1 d.2.2 (fun l m n=>j (l,m,n)) (fun a=>Ú ((ile 0 a.1)&&(ile a.1 (ï a.2))) (Ú ((ile 0 a.1)&&(ile a.1 (ï (List.take (Int.toNat a.1) a.2++List.replicate (List.length a.2-(Int.toNat a.1)) ((0:Int),(0:Int),[],[],(0:Int),(0:Int),(0:Int),(0:Int))++List.drop ((Int.toNat a.1)+(List.length a.2-(Int.toNat a.1))) a.2)))) (k ((b.1.1,b.1.2.1,b.1.2.2.1,b.1.2.2.2.1,(List.take (Int.toNat a.1) (List.drop 0 (List.take (Int.toNat a.1) a.2++List.replicate (List.length a.2-(Int.toNat a.1)) ((0:Int),(0:Int),[],[],(0:Int),(0:Int),(0:Int),(0:Int))++List.drop ((Int.toNat a.1)+(List.length a.2-(Int.toNat a.1))) a.2))),b.1.2.2.2.2.2),b.2))))) (c,i,b.1.2.2.2.2.1))) (fun _=>k b)) (0:Int))
def HV (a:a7) (b:ag):w8 a7:=Wm a b some
def Jv (d:c7) (e:Int) (a:Int) (b:ag) (f:Int->ag->w8 ρ) (g:ag->w8 ρ):w8 ρ :=
  ifb (ilt a e) (ø d a fun c=>Ú (Ý ((List.length b)+(List.length ([c.1])))) (ck (a+(1:Int)) fun h=>f h (b++([c.1])))) (g b)
def Ju (f:Int) (g:Int) (h:dx) (i:a8) (j:dy) (k:c7) (l:a8) (m:b6) (b:ag) (a:Int) (d:ag->Int->w8 ρ) (n:ag->w8 ρ):w8 ρ :=
  ifb (ige a 0) (Ú ((ile 0 a)&&(ile a (ï b))) (ck (a+(1:Int)) fun c=>Ú ((ile 0 c)&&(ile c (ï b))) (Ã (ĝ ([(List.take (Int.toNat a) b),(List.drop (Int.toNat c) b)])) fun e=>Ã (HV (((f,g),h,i,j,k,l),m) e) fun o=>Ã (gY o) fun p=>ifb (!p.2) (ck (a-(1:Int)) fun q=>d e q) (ck (a-(1:Int)) fun r=>d b r)))) (n b)
def adY (a:a7) (k:l7->w8 ρ):w8 ρ :=
  Ã (Œ a) fun b=>ifb (ine b 0) (k ([],b)) (Ã (gY a) fun f=>ifb f.2 (k ([],(5:Int))) (É (fun(c:ek) g=>Jv a.1.2.2.2.2.1 (Ô a.1.2.2.2.2.1) c.1 c.2 (fun h i=>g (h,i)) (fun d=>ck ((Ô d)-(1:Int)) fun j=>É (fun(e:l7) l=>Ju a.1.1.1 a.1.1.2 a.1.2.1 a.1.2.2.1 a.1.2.2.2.1 a.1.2.2.2.2.1 a.1.2.2.2.2.2 a.2 e.1 e.2 (fun m n=>l (m,n)) (fun o=>k (o,(0:Int)))) (d,j))) ((0:Int),[])))
def W7 (a:a7):w8 (l7):=adY a some
def CI (e:Int) (f:ag) (g:Int) (a:Int) (b:ag) (c:Int->ag->w8 ρ) (h:ag->w8 ρ):w8 ρ :=
  ifb (ilt a g) (ø f a fun d=>Ú (ile 0 a) (ifb (ieq (andI .i64 (ir .i64 e a) (1:Int)) 1) (Ú (Ý ((List.length b)+(List.length ([d])))) (ck (a+(1:Int)) fun i=>c i (b++([d])))) (ck (a+(1:Int)) fun j=>c j b))) (h b)
def Yk (a:ag) (c:Int) (k:ag->w8 ρ):w8 ρ :=
  É (fun(b:ek) d=>CI c a (Ô a) b.1 b.2 (fun e f=>d (e,f)) (fun g=>k g)) ((0:Int),[])
def oG (a:ag) (b:Int):w8 (ag):=Yk a b some
def wO (b:c7) (c:Int) (d:Int) (a:Int) (e:Int->w8 ρ) (f:Int->w8 ρ) (g:Unit->w8 ρ):w8 ρ :=
  ifb (ilt a c) (ø b a fun h=>ifb (ieq h.1 d) (f a) (ck (a+(1:Int)) fun i=>e i)) (g ())
def wP (d:ag) (e:Int) (b:c7) (a:Int) (f:Int->w8 ρ) (c:Int->w8 ρ) (g:Unit->w8 ρ):w8 ρ :=
  ifb (ilt a e) (ø d a fun h=>É (fun(i:Int) j=>wO b (Ô b) h i (fun k=>j k) (fun l=>ifb (!(ige l 0)) (c (5:Int)) (ck (a+(1:Int)) fun m=>f m)) (fun _=>c (5:Int))) (0:Int)) (g ())
def wN (b:ag) (a:Int) (c:Int->w8 ρ) (d:Int->w8 ρ) (e:Unit->w8 ρ):w8 ρ :=
  ifb (ilt a (Ô b)) (ø b a fun f=>ck (a-(1:Int)) fun g=>ø b g fun h=>ifb (ile f h) (d (6:Int)) (ck (a+(1:Int)) fun i=>c i)) (e ())
def wM (c:an) (d:Int) (e:Int) (f:Int) (g:dx) (h:a8) (i:dy) (j:c7) (k:a8) (l:b6) (m:ag) (n:Int) (a:Int) (o:Int->w8 ρ) (p:nT->w8 ρ) (q:Unit->w8 ρ):w8 ρ :=
  ifb (ilt a d) (ø c a fun b=>Ã (oG m n) fun r=>Ã (HV (((e,f),g,h,i,j,k),l) r) fun s=>Ã (θ s b) fun t=>ifb (!(!t)) (p (b,true)) (ck (a+(1:Int)) fun u=>o u)) (q ())
def wL (b:ag) (e:ag) (f:Int) (a:Int) (g:Int->w8 ρ) (c:Int->w8 ρ) (h:Unit->w8 ρ):w8 ρ :=
  ifb (ilt a f) (ø e a fun i=>ifb (ige a (Ô b)) (c (1:Int)) (ø b a fun j=>Ã (δ i j) fun d=>ifb (ine d 0) (c d) (ck (a+(1:Int)) fun k=>g k))) (h ())
def kT (c:Int) (d:Int) (b:ag) (a:Int) (e:Int->w8 ρ) (f:Unit->w8 ρ) (g:Unit->w8 ρ):w8 ρ :=
  ifb (ilt a d) (Ú ((ile 0 a)&&(ilt a (ï b))) (ĵ b (Int.toNat a) fun h=>ifb (ieq (Qj .i64 c h) 0) (f ()) (ck (a+(1:Int)) fun i=>e i))) (g ())
def kS (b:Int) (d:an) (e:Int) (f:ag) (g:Int) (h:Int) (i:dx) (j:a8) (k:dy) (l:c7) (m:a8) (n:b6) (c:Int) (a:ag) (o:Int->ag->w8 ρ) (p:ag->w8 ρ) (q:ag->w8 ρ):w8 ρ :=
  ifb (ilt c e) (ø d c fun r=>Ã (oG f b) fun s=>Ã (HV (((g,h),i,j,k,l,m),n) s) fun t=>Ã (θ t r) fun u=>ifb (!(!u)) (Ú (Ý ((List.length a)+(List.length ([b])))) (p (a++([b])))) (ck (c+(1:Int)) fun v=>o v a)) (q a)
def oX (g:an) (t:Int) (h:ag) (i:Int) (j:Int) (k:dx) (l:a8) (m:dy) (n:c7) (o:a8) (p:b6) (c:ag) (e:Int) (a:Int) (b:ag) (d:ag->Int->Int->ag->w8 ρ) (u:ek->w8 ρ):w8 ρ :=
  ifb (ilt a t) (Ã (oG h a) fun f=>ifb (igt (Ô f) (Ô c)) (ck (a+(1:Int)) fun v=>d c e v b) (ifb (ieq (Ô f) (Ô c)) (É (fun(w:Int) x=>wL c f (Ô f) w (fun y=>x y) (fun z=>ifb (ige z 0) (ck (a+(1:Int)) fun A=>d c e A b) (É (fun(B:Int) C=>kT a (Ô b) b B (fun D=>C D) (fun _=>ck (a+(1:Int)) fun E=>d c e E b) (fun _=>É (fun(q:ek) F=>kS a g (Ô g) h i j k l m n o p q.1 q.2 (fun G H=>F (G,H)) (fun I=>ck (a+(1:Int)) fun J=>d c e J I) (fun K=>ck (a+(1:Int)) fun L=>d f a L K)) ((0:Int),b))) (0:Int))) (fun _=>ifb (ilt (Ô f) (Ô c)) (É (fun(M:Int) N=>kT a (Ô b) b M (fun O=>N O) (fun _=>ck (a+(1:Int)) fun P=>d c e P b) (fun _=>É (fun(r:ek) Q=>kS a g (Ô g) h i j k l m n o p r.1 r.2 (fun R S=>Q (R,S)) (fun T=>ck (a+(1:Int)) fun U=>d c e U T) (fun V=>ck (a+(1:Int)) fun W=>d f a W V)) ((0:Int),b))) (0:Int)) (ck (a+(1:Int)) fun X=>d c e X b))) (0:Int)) (É (fun(Y:Int) Z=>kT a (Ô b) b Y (fun dc=>Z dc) (fun _=>ck (a+(1:Int)) fun df=>d c e df b) (fun _=>É (fun(s:ek) dg=>kS a g (Ô g) h i j k l m n o p s.1 s.2 (fun dh di=>dg (dh,di)) (fun dj=>ck (a+(1:Int)) fun dk=>d c e dk dj) (fun dl=>ck (a+(1:Int)) fun dm=>d f a dm dl)) ((0:Int),b))) (0:Int)))) (u (e,b))
def F9 (a:a7) (b:ag) (k:l7->w8 ρ):w8 ρ :=
  Ã (Œ a) fun g=>ifb (ine g 0) (k ([],g)) (ifb (igt (Ô b) 8) (k ([],(2:Int))) (É (fun(h:Int) i=>wP b (Ô b) a.1.2.2.2.2.1 h (fun j=>i j) (fun l=>k ([],l)) (fun _=>É (fun(m:Int) n=>wN b m (fun o=>n o) (fun p=>k ([],p)) (fun _=>Ã (yo a) fun d=>Ú (ile 0 (Ô b)) (ck ((shlI .i64 (1:Int) (Ô b))-(1:Int)) fun c=>É (fun(q:Int) r=>wM d (Ô d) a.1.1.1 a.1.1.2 a.1.2.1 a.1.2.2.1 a.1.2.2.2.1 a.1.2.2.2.2.1 a.1.2.2.2.2.2 a.2 b c q (fun s=>r s) (fun t=>ifb t.2 (k ([],(5:Int))) (É (fun(e:(Val (.pair ab aT))) u=>oX d c b a.1.1.1 a.1.1.2 a.1.2.1 a.1.2.2.1 a.1.2.2.2.1 a.1.2.2.2.2.1 a.1.2.2.2.2.2 a.2 e.1 e.2.1 e.2.2.1 e.2.2.2 (fun v w x y=>u (v,w,x,y)) (fun z=>Ã (oG b z.1) fun A=>k (A,(0:Int)))) (b,c,(0:Int),[]))) (fun _=>É (fun(f:(Val (.pair ab aT))) B=>oX d c b a.1.1.1 a.1.1.2 a.1.2.1 a.1.2.2.1 a.1.2.2.2.1 a.1.2.2.2.2.1 a.1.2.2.2.2.2 a.2 f.1 f.2.1 f.2.2.1 f.2.2.2 (fun C D E F=>B (C,D,E,F)) (fun G=>Ã (oG b G.1) fun H=>k (H,(0:Int)))) (b,c,(0:Int),[]))) (0:Int)))) (1:Int))) (0:Int)))
def Gz (a:a7) (b:ag):w8 (l7):=F9 a b some
def Ys (a:ag) (b:ag) (k:(Val (.pair ab aH))->w8 ρ):w8 ρ :=
  Ã (mf a) fun c=>ifb (!c) (k ([],[],(1:Int))) (Ã (mf b) fun d=>ifb (!d) (k ([],[],(1:Int))) (Ã (ŵ a b) fun e=>Ã (ŵ b a) fun f=>k (e,f,(0:Int))))
def Fw (a:ag) (b:ag):w8 ((Val (.pair ab aH))):=Ys a b some
def vk (g:Int) (b:Int) (c:c7) (a:Int) (d:Int->w8 ρ) (h:Int->w8 ρ) (i:Unit->w8 ρ):w8 ρ :=
  ifb (ilt a g) (Ú ((ile 0 a)&&(ilt a (ï c))) (ĵ c (Int.toNat a) fun e=>Ã (Fw e.2.2.1 e.2.2.2.1) fun f=>Ã (à f.1 b) fun j=>ifb j (ck (a+(1:Int)) fun k=>d k) (Ã (à f.2.1 b) fun l=>ifb (!l) (h a) (ck (a+(1:Int)) fun m=>d m)))) (i ())
def vh (f:Int) (a:Int) (c:Int) (b:c7) (e:Int->Int->c7->w8 ρ) (h:Val aZ->w8 ρ):w8 ρ :=
  ifb (ilt c (Ô b)) (Ú ((ile 0 c)&&(ilt c (ï b))) (ĵ b (Int.toNat c) fun d=>Ã (Fw d.2.2.1 d.2.2.2.1) fun g=>Ã (à g.1 f) fun i=>ifb i (Ú ((ile 0 a)&&(ilt a (ï b))) (ĵ b (Int.toNat a) fun p=>ck (a+(1:Int)) fun j=>ck (c+(1:Int)) fun k=>e j k (List.set b (Int.toNat a) d))) (Ã (à g.2.1 f) fun l=>ifb (!(!l)) (Ú ((ile 0 a)&&(ilt a (ï b))) (ĵ b (Int.toNat a) fun q=>ck (a+(1:Int)) fun m=>ck (c+(1:Int)) fun n=>e m n (List.set b (Int.toNat a) d))) (ck (c+(1:Int)) fun o=>e a o b)))) (h (a,b))
def CJ (b:a7) (c:Int) (k:th->w8 ρ):w8 ρ :=
  Ã (Œ b) fun f=>ifb (ine f 0) (k (false,f)) (Ã (tD b c (0:Int)) fun g=>ifb (ine g 0) (k (false,g)) (Ú (Ý (List.length b.1.2.2.2.2.1)) (É (fun(h:Int) i=>vk (Ô b.1.2.2.2.2.1) c b.1.2.2.2.2.1 h (fun j=>i j) (fun d=>ifb (ieq d (-1:Int)) (Ã (gY b) fun l=>k ((!l.2),(0:Int))) (ck (d+(1:Int)) fun m=>É (fun(e:ry) n=>vh c e.1 e.2.1 e.2.2 (fun o p q=>n (o,p,q)) (fun a=>Ú ((ile 0 a.1)&&(ile a.1 (ï a.2))) (Ú ((ile 0 a.1)&&(ile a.1 (ï (List.take (Int.toNat a.1) a.2++List.replicate (List.length a.2-(Int.toNat a.1)) ((0:Int),(0:Int),[],[],(0:Int),(0:Int),(0:Int),(0:Int))++List.drop ((Int.toNat a.1)+(List.length a.2-(Int.toNat a.1))) a.2)))) (Ã (gY ((b.1.1,b.1.2.1,b.1.2.2.1,b.1.2.2.2.1,(List.take (Int.toNat a.1) (List.drop 0 (List.take (Int.toNat a.1) a.2++List.replicate (List.length a.2-(Int.toNat a.1)) ((0:Int),(0:Int),[],[],(0:Int),(0:Int),(0:Int),(0:Int))++List.drop ((Int.toNat a.1)+(List.length a.2-(Int.toNat a.1))) a.2))),b.1.2.2.2.2.2),b.2)) fun r=>k ((!r.2),(0:Int)))))) (d,m,b.1.2.2.2.2.1))) (fun _=>Ã (gY b) fun s=>k ((!s.2),(0:Int)))) (0:Int))))
def D3 (a:a7) (b:Int):w8 (th):=CJ a b some
def Ws (c:Int) (a:Int) (b:ag) (d:Int->ag->w8 ρ) (e:ag->w8 ρ):w8 ρ :=
  ifb (ilt a c) (Ú ((ile 0 a)&&(ilt a (ï b))) (ĵ b (Int.toNat a) fun g=>ck (a+(1:Int)) fun f=>d f (List.set b (Int.toNat a) (1152921504606846976:Int)))) (e b)
def Wq (c:Int) (a:Int) (b:ag) (d:Int->ag->w8 ρ) (e:ag->w8 ρ):w8 ρ :=
  ifb (ilt a c) (Ú ((ile 0 a)&&(ilt a (ï b))) (ĵ b (Int.toNat a) fun g=>ck (a+(1:Int)) fun f=>d f (List.set b (Int.toNat a) (1152921504606846976:Int)))) (e b)
def Wp (d:ag) (f:fx) (g:Int) (c:Int) (b:ag) (e:Int->ag->w8 ρ) (h:ag->w8 ρ):w8 ρ :=
  ifb (ilt c g) (ø f c fun a=>ø d a.2.1 fun i=>ifb (ine i 1152921504606846976) (Ú ((ile 0 a.1)&&(ilt a.1 (ï b))) (ĵ b (Int.toNat a.1) fun j=>ø d a.2.1 fun k=>ck (a.2.2+k) fun l=>Ú ((ile 0 a.1)&&(ilt a.1 (ï b))) (ĵ b (Int.toNat a.1) fun o=>ck (c+(1:Int)) fun m=>e m (List.set b (Int.toNat a.1) (WN j l))))) (ck (c+(1:Int)) fun n=>e n b)) (h b)
def Wr (i:Int) (b:Int) (d:fx) (e:Int) (a:bx) (j:Int->bx->w8 ρ) (k:bx->w8 ρ):w8 ρ :=
  ifb (ilt e i) (ck ((Ô a)-(1:Int)) fun c=>Ú ((ile 0 c)&&(ilt c (ï a))) (ĵ a (Int.toNat c) fun l=>Ú ((ile 0 b)&&(Ý (Int.toNat b))) (É (fun(f:ek) m=>Wq (Ô (List.replicate (Int.toNat b) (0:Int))) f.1 f.2 (fun n o=>m (n,o)) (fun p=>É (fun(g:ek) q=>Wp l d (Ô d) g.1 g.2 (fun r s=>q (r,s)) (fun h=>Ú (Ý ((List.length a)+(List.length ([h])))) (ck (e+(1:Int)) fun t=>j t (a++([h]))))) ((0:Int),p))) ((0:Int),(List.replicate (Int.toNat b) (0:Int)))))) (k a)
def aaR (a:ew) (b:Int) (f:Int) (k:bx->w8 ρ):w8 ρ :=
  Ú ((ile 0 a.1)&&(Ý (Int.toNat a.1))) (É (fun(d:ek) g=>Ws (Ô (List.replicate (Int.toNat a.1) (0:Int))) d.1 d.2 (fun h i=>g (h,i)) (fun c=>Ú ((ile 0 b)&&(ilt b (ï c))) (ĵ c (Int.toNat b) fun o=>É (fun(e:Val bj) j=>Wr f a.1 a.2 e.1 e.2 (fun l m=>j (l,m)) (fun n=>k n)) ((0:Int),[(List.set c (Int.toNat b) (0:Int))])))) ((0:Int),(List.replicate (Int.toNat a.1) (0:Int))))
def S8 (a:ew) (b:Int) (c:Int):w8 (bx):=aaR a b c some
def Gm (d:Int) (c:Int) (e:fx) (a:Int) (b:an) (f:Int->an->w8 ρ) (g:an->w8 ρ):w8 ρ :=
  ifb (ilt a d) (Ã (S8 (c,e) a c) fun h=>Ú ((ile 0 a)&&(ilt a (ï b))) (ĵ b (Int.toNat a) fun j=>ck (a+(1:Int)) fun i=>f i (List.set b (Int.toNat a) h))) (g b)
def Gf (g:Int) (h:bx) (j:fx) (k:Int) (e:Int) (b:Int) (a:Int) (c:ag) (f:Int->Int->Int->ag->w8 ρ) (i:Val aT->w8 ρ):w8 ρ :=
  ifb (ilt a k) (ø j a fun d=>ifb (ieq d.1 e) (ck (g-(1:Int)) fun l=>ø h l fun m=>ø m d.2.1 fun n=>ifb (ine n 1152921504606846976) (ck (b+d.2.2) fun o=>ck (g-(1:Int)) fun p=>ø h p fun q=>ø q d.2.1 fun r=>ck (o+r) fun s=>ifb (ilt s 0) (Ú (Ý ((List.length c)+(List.length ([a])))) (ck (b+d.2.2) fun t=>i (d.2.1,t,(c++([a]))))) (ck (a+(1:Int)) fun u=>f e b u c)) (ck (a+(1:Int)) fun v=>f e b v c)) (ck (a+(1:Int)) fun w=>f e b w c)) (i (e,b,c))
def Gg (f:bx) (d:fx) (g:Int) (b:Int) (h:Int) (e:ag) (i:Int->Int->Int->ag->w8 ρ) (j:ag->w8 ρ):w8 ρ :=
  ifb (igt b 0) (É (fun(a:so) k=>Gf b f d (Ô d) a.1 a.2.1 a.2.2.1 a.2.2.2 (fun l m n o=>k (l,m,n,o)) (fun c=>ck (b-(1:Int)) fun p=>i c.1 p c.2.1 c.2.2)) (g,h,(0:Int),e)) (j e)
def Gi (e:Int) (h:fx) (i:Int) (j:Int) (k:fx) (b:an) (c:Int) (f:Int->w8 ρ) (l:Unit->w8 ρ) (m:ek->w8 ρ) (n:Unit->w8 ρ):w8 ρ :=
  ifb (ilt c i) (ø h c fun a=>Ú ((ile 0 a.1)&&(ilt a.1 (ï b))) (ĵ b (Int.toNat a.1) fun o=>ck (e-(1:Int)) fun p=>ø o p fun q=>ø q a.2.1 fun g=>ifb (ieq g 1152921504606846976) (ck (c+(1:Int)) fun r=>f r) (ck (a.2.2+g) fun s=>ifb (ige s 0) (ck (c+(1:Int)) fun t=>f t) (ifb (igt e j) (l ()) (Ú ((ile 0 a.1)&&(ilt a.1 (ï b))) (ĵ b (Int.toNat a.1) fun u=>É (fun(d:so) v=>Gg u k d.1 d.2.1 d.2.2.1 d.2.2.2 (fun w x y z=>v (w,x,y,z)) (fun A=>m ((0:Int),A))) (a.1,e,(0:Int),[]))))))) (n ())
def Gj (d:Int) (a:fx) (e:an) (b:Int) (f:Int->w8 ρ) (g:Unit->w8 ρ) (h:ek->w8 ρ):w8 ρ :=
  É (fun(i:Int) j=>Gi b a (Ô a) d a e i (fun k=>j k) (fun _=>g ()) (fun c=>h (c.1,c.2)) (fun _=>ck (b+(1:Int)) fun l=>f l)) (0:Int)
def aaU (a:ew) (k:l7->w8 ρ):w8 ρ :=
  Ã (pI a) fun b=>ifb (ine b.1 0) (k ([],b.1)) (Ã (kv a ([])) fun e=>ifb e.2 (k ([],(5:Int))) (Ú ((ile 0 a.1)&&(Ý (Int.toNat a.1))) (É (fun(c:hO) f=>Gm (Ô (List.replicate (Int.toNat a.1) ([]:bx))) a.1 a.2 c.1 c.2 (fun g h=>f (g,h)) (fun i=>É (fun(j:Int) l=>Gj a.1 a.2 i j (fun m=>l m) (fun _=>k ([],(5:Int))) (fun d=>k (d.2,d.1))) (1:Int))) ((0:Int),(List.replicate (Int.toNat a.1) ([]:bx))))))
def Ta (a:ew):w8 (l7):=aaU a some
def Ga (d:an) (e:Int) (f:Int) (g:Int) (h:dx) (i:a8) (j:dy) (k:c7) (l:a8) (m:b6) (b:Int) (a:bx) (n:Int->bx->w8 ρ) (o:Val bj->w8 ρ) (p:bx->w8 ρ):w8 ρ :=
  ifb (ilt b e) (ø d b fun q=>Ã (gX (((f,g),h,i,j,k,l),m) q) fun r=>Ã (jk r) fun s=>Ã (Ta s.1) fun c=>ifb (ine c.2 0) (o ((5:Int),a)) (Ú (Ý ((List.length a)+(List.length ([c.1])))) (ck (b+(1:Int)) fun t=>n t (a++([c.1]))))) (p a)
def aaN (a:a7) (k:nx->w8 ρ):w8 ρ :=
  Ã (Œ a) fun b=>ifb (ine b 0) (k ([],b)) (Ã (yo a) fun c=>É (fun(d:Val bj) e=>Ga c (Ô c) a.1.1.1 a.1.1.2 a.1.2.1 a.1.2.2.1 a.1.2.2.2.1 a.1.2.2.2.2.1 a.1.2.2.2.2.2 a.2 d.1 d.2 (fun f g=>e (f,g)) (fun h=>k ([],h.1)) (fun i=>k (i,(0:Int)))) ((0:Int),[]))
def S6 (a:a7):w8 (nx):=aaN a some
def zP (d:ag) (e:Int) (f:fx) (a:Int) (g:Int->w8 ρ) (b:Int->w8 ρ) (h:Unit->w8 ρ):w8 ρ :=
  ifb (ilt a e) (ø d a fun c=>ifb (ilt c 0) (b a) (ifb (ige c (Ô f)) (b a) (ck (a+(1:Int)) fun i=>g i))) (h ())
def Uy (b:ew) (a:ag) (k:Int->w8 ρ):w8 ρ :=
  ifb (igt (Ô a) 80) (k (2:Int)) (É (fun(c:Int) d=>zP a (Ô a) b.2 c (fun e=>d e) (fun f=>ifb (ige f 0) (k (1:Int)) (k (0:Int))) (fun _=>k (0:Int))) (0:Int))
def KY (a:ew) (b:ag):w8 (Int):=Uy a b some
def JF (e:ag) (f:Int) (g:fx) (c:Int) (d:Int) (a:Int) (h:Int->Int->Int->w8 ρ) (i:lA->w8 ρ) (j:bl->w8 ρ):w8 ρ :=
  ifb (ilt a f) (ø e a fun k=>ø g k fun b=>ifb (ine b.1 c) (i ((0:Int),(0:Int),false)) (ck (d+b.2.2) fun l=>ck (a+(1:Int)) fun m=>h b.2.1 l m)) (j (c,d))
def adZ (e:ew) (f:Int) (c:ag) (k:lA->w8 ρ):w8 ρ :=
  É (fun(a:pc) g=>JF c (Ô c) e.2 a.1 a.2.1 a.2.2 (fun h i j=>g (h,i,j)) (fun b=>k (b.1,b.2.1,b.2.2)) (fun d=>k (d.1,d.2,true))) (f,(0:Int),(0:Int))
def W8 (a:ew) (b:Int) (c:ag):w8 (lA):=adZ a b c some
def MC (a:ew) (b:ag) (k:Int->w8 ρ):w8 ρ :=
  Ã (pI a) fun d=>ifb (ine d.1 0) (k d.1) (Ã (KY a b) fun e=>ifb (ine e 0) (k e) (ifb (ieq (Ô b) 0) (k (8:Int)) (ø b (0:Int) fun g=>ø a.2 g fun f=>Ã (W8 a f.1 b) fun c=>ifb (!c.2.2) (k (8:Int)) (ifb (ine c.1 f.1) (k (8:Int)) (ifb (ige c.2.1 0) (k (8:Int)) (k (0:Int)))))))
def AI (a:ew) (b:ag):w8 (Int):=MC a b some
def sM (b:bx) (c:an) (d:Int) (e:Int) (f:Int) (g:dx) (h:a8) (i:dy) (j:c7) (k:a8) (l:b6) (a:Int) (m:Int->w8 ρ) (n:Int->w8 ρ) (o:Unit->w8 ρ):w8 ρ :=
  ifb (ilt a d) (ø c a fun p=>Ã (gX (((e,f),g,h,i,j,k),l) p) fun q=>Ã (jk q) fun r=>ø b a fun s=>Ã (AI r.1 s) fun t=>ifb (ine t 0) (n (8:Int)) (ck (a+(1:Int)) fun u=>m u)) (o ())
def Mn (a:a7) (c:bx) (k:Int->w8 ρ):w8 ρ :=
  Ã (Œ a) fun d=>ifb (ine d 0) (k d) (Ã (yo a) fun b=>ifb (ine (Ô c) (Ô b)) (k (8:Int)) (É (fun(e:Int) f=>sM c b (Ô b) a.1.1.1 a.1.1.2 a.1.2.1 a.1.2.2.1 a.1.2.2.2.1 a.1.2.2.2.2.1 a.1.2.2.2.2.2 a.2 e (fun g=>f g) (fun h=>k h) (fun _=>k (0:Int))) (0:Int)))
def rR (a:a7) (b:bx):w8 (Int):=Mn a b some
def jW (b:ag) (c:ag) (a:Int) (d:Int->w8 ρ) (e:Bool->w8 ρ) (f:Unit->w8 ρ):w8 ρ :=
  ifb (ilt a (Ô b)) (ø b a fun g=>ø c a fun h=>ifb (ine g h) (e false) (ck (a+(1:Int)) fun i=>d i)) (f ())
def C4 (a:ag) (b:ag) (k:Bool->w8 ρ):w8 ρ :=
  ifb (ine (Ô a) (Ô b)) (k false) (É (fun(c:Int) d=>jW a b c (fun e=>d e) (fun f=>k f) (fun _=>k true)) (0:Int))
def Ň (a:ag) (b:ag):w8 (Bool):=C4 a b some
def wX (b:bx) (c:bx) (a:Int) (d:Int->w8 ρ) (e:Bool->w8 ρ) (f:Unit->w8 ρ):w8 ρ :=
  ifb (ilt a (Ô b)) (ø b a fun g=>ø c a fun h=>Ã (Ň g h) fun i=>ifb (!i) (e false) (ck (a+(1:Int)) fun j=>d j)) (f ())
def RY (a:bx) (b:bx) (k:Bool->w8 ρ):w8 ρ :=
  ifb (ine (Ô a) (Ô b)) (k false) (É (fun(c:Int) d=>wX a b c (fun e=>d e) (fun f=>k f) (fun _=>k true)) (0:Int))
def GA (a:bx) (b:bx):w8 (Bool):=RY a b some
def Cs (k:Bool->w8 ρ):w8 ρ :=
  Ã (iT ([])) fun m=>Ã (W6 m) fun b=>Ã (iT ([])) fun n=>Ã (BD n) fun f=>Ã (iT ([((8:Int),(15:Int),[(2:Int)],[(1:Int)],(100:Int),(1:Int),(0:Int),(0:Int))])) fun o=>Ã (S7 o) fun g=>Ã (iT ([((8:Int),(15:Int),[(2:Int)],[(1:Int)],(100:Int),(1:Int),(0:Int),(0:Int))])) fun p=>Ã (Oo p (2:Int) (15:Int)) fun c=>Ã (iT ([((8:Int),(15:Int),[(2:Int)],[(1:Int)],(100:Int),(1:Int),(0:Int),(0:Int)),((9:Int),(15:Int),[(3:Int)],[],(1100:Int),(0:Int),(0:Int),(0:Int))])) fun a=>Ã (W7 a) fun h=>Ã (Gz a ([(7:Int),(8:Int),(9:Int)])) fun i=>Ã (D3 a (2:Int)) fun j=>ifb (ine b.2 0) (k false) (ifb (ine f.2 0) (k false) (ifb (ine g.2 0) (k false) (ifb (ine c.2 0) (k false) (ifb (ine h.2 0) (k false) (ifb (ine i.2 0) (k false) (ifb (ine j.2 0) (k false) (ifb (ine (Ô b.1) 2) (k false) (ifb (ine (Ô f.1) 2) (k false) (ifb j.1 (k false) (Ã (S6 a) fun d=>ø b.1 (1:Int) fun q=>Ã (KX a q (2:Int) (13:Int)) fun l=>ifb (ine d.2 0) (k false) (ifb (ine l.2 0) (k false) (ifb (ine l.1 3) (k false) (Ã (rR a d.1) fun r=>ifb (ine r 0) (k false) (Ã (iT ([])) fun s=>Ã (rR s d.1) fun t=>ifb (ine t 8) (k false) (Ã (GA g.1 ([[(3:Int),(2:Int)]])) fun u=>ifb u (ifb (ieq (Ô c.1) 1) (ø c.1 (0:Int) fun e=>ifb ((kI e.1 (3:Int))&&((kI e.2.1 (1099:Int))&&((kI e.2.2 (1101:Int))&&true))) (Ã (Ň h.1 ([(8:Int),(9:Int)])) fun v=>ifb v (Ã (Ň i.1 ([(8:Int),(9:Int)])) fun w=>k w) (k false)) (k false)) (k false)) (k false))))))))))))))))
def uG:w8 (Bool):=Cs some
def Ž:w8 (Bool):=some true
def uu (d:ag) (e:Int) (a:ByteArray) (b:Int) (f:ByteArray->Int->w8 ρ) (g:ByteArray->w8 ρ):w8 ρ :=
  ifb (ilt b e) (ø d b fun h=>Ã (jM h) fun c=>Ú (Ý (ByteArray.size (ByteArray.mk #[32])+ByteArray.size c)) (Ú (Ý (ByteArray.size a+ByteArray.size ((ByteArray.mk #[32])++c))) (ck (b+(1:Int)) fun i=>f (a++((ByteArray.mk #[32])++c)) i))) (g a)
def Wy (c:ByteArray) (a:ag) (k:ByteArray->w8 ρ):w8 ρ :=
  É (fun(b:tl) d=>uu a (Ô a) b.1 b.2 (fun e f=>d (e,f)) (fun g=>k g)) (c,(0:Int))
def lr (a:ByteArray) (b:ag):w8 (ByteArray):=Wy a b some
def ro (e:dx) (f:Int) (b:Int) (c:fy) (g:Int->fy->w8 ρ) (h:fy->w8 ρ):w8 ρ :=
  ifb (ilt b f) (ø e b fun a=>Ã (lr (ByteArray.mk #[103,97,117,103,101]) ([a.1,a.2.1,a.2.2.1,a.2.2.2.1.1,a.2.2.2.1.2,a.2.2.2.2.1.1,a.2.2.2.2.1.2,a.2.2.2.2.2])) fun d=>Ú (Ý ((List.length c)+(List.length ([d])))) (ck (b+(1:Int)) fun i=>g i (c++([d])))) (h c)
def rl (e:a8) (f:Int) (a:Int) (b:fy) (g:Int->fy->w8 ρ) (h:fy->w8 ρ):w8 ρ :=
  ifb (ilt a f) (ø e a fun c=>Ã (lr (ByteArray.mk #[117,115,101]) ([c.1,c.2])) fun d=>Ú (Ý ((List.length b)+(List.length ([d])))) (ck (a+(1:Int)) fun i=>g i (b++([d])))) (h b)
def rk (e:dy) (f:Int) (b:Int) (c:fy) (g:Int->fy->w8 ρ) (h:fy->w8 ρ):w8 ρ :=
  ifb (ilt b f) (ø e b fun a=>Ã (lr (ByteArray.mk #[108,111,97,110]) ([a.1,a.2.1.1,a.2.1.2,a.2.2])) fun d=>Ú (Ý ((List.length c)+(List.length ([d])))) (ck (b+(1:Int)) fun i=>g i (c++([d])))) (h c)
def rj (g:c7) (h:Int) (d:Int) (e:fy) (i:Int->fy->w8 ρ) (j:fy->w8 ρ):w8 ρ :=
  ifb (ilt d h) (ø g d fun a=>Ã (lr (ByteArray.mk #[99,111,109,112,97,114,101]) ([a.1,a.2.1,a.2.2.2.2.1,a.2.2.2.2.2.1,a.2.2.2.2.2.2.1,a.2.2.2.2.2.2.2])) fun b=>Ã (lr (ByteArray.mk #[32,97]) a.2.2.1) fun c=>Ú (Ý (ByteArray.size b+ByteArray.size c)) (Ã (lr (ByteArray.mk #[32,98]) a.2.2.2.1) fun f=>Ú (Ý (ByteArray.size (b++c)+ByteArray.size f)) (Ú (Ý ((List.length e)+(List.length ([((b++c)++f)])))) (ck (d+(1:Int)) fun k=>i k (e++([((b++c)++f)])))))) (j e)
def ri (e:a8) (f:Int) (a:Int) (b:fy) (g:Int->fy->w8 ρ) (h:fy->w8 ρ):w8 ρ :=
  ifb (ilt a f) (ø e a fun c=>Ã (lr (ByteArray.mk #[108,111,111,107]) ([c.1,c.2])) fun d=>Ú (Ý ((List.length b)+(List.length ([d])))) (ck (a+(1:Int)) fun i=>g i (b++([d])))) (h b)
def DH (a:b5) (k:tl->w8 ρ):w8 ρ :=
  Ã (ŧ a) fun b=>ifb (ine b 0) (k ((ByteArray.mk #[]),b)) (Ã (lr (ByteArray.mk #[102,105,108,109]) ([a.1.1,a.1.2])) fun i=>É (fun(c:w7) j=>ro a.2.1 (Ô a.2.1) c.1 c.2 (fun l m=>j (l,m)) (fun n=>É (fun(d:w7) o=>rl a.2.2.1 (Ô a.2.2.1) d.1 d.2 (fun p q=>o (p,q)) (fun r=>É (fun(e:w7) s=>rk a.2.2.2.1 (Ô a.2.2.2.1) e.1 e.2 (fun t u=>s (t,u)) (fun v=>É (fun(f:w7) w=>rj a.2.2.2.2.1 (Ô a.2.2.2.2.1) f.1 f.2 (fun x y=>w (x,y)) (fun z=>É (fun(g:w7) A=>ri a.2.2.2.2.2 (Ô a.2.2.2.2.2) g.1 g.2 (fun B C=>A (B,C)) (fun D=>Ã (rS D (ByteArray.mk #[10])) fun h=>Ú (Ý (ByteArray.size h+ByteArray.size (ByteArray.mk #[10]))) (k ((h++(ByteArray.mk #[10])),(0:Int))))) ((0:Int),z))) ((0:Int),v))) ((0:Int),r))) ((0:Int),n))) ((0:Int),[i]))
def lB (a:b5):w8 (tl):=DH a some
def mE (d:ag) (e:Int) (a:ByteArray) (b:Int) (f:ByteArray->Int->w8 ρ) (g:ByteArray->w8 ρ):w8 ρ :=
  ifb (ilt b e) (ø d b fun h=>Ã (jM h) fun c=>Ú (Ý (ByteArray.size (ByteArray.mk #[32])+ByteArray.size c)) (Ú (Ý (ByteArray.size a+ByteArray.size ((ByteArray.mk #[32])++c))) (ck (b+(1:Int)) fun i=>f (a++((ByteArray.mk #[32])++c)) i))) (g a)
def mF (g:b6) (h:Int) (a:ByteArray) (b:Int) (i:ByteArray->Int->w8 ρ) (j:ByteArray->w8 ρ):w8 ρ :=
  ifb (ilt b h) (ø g b fun c=>Ã (jM c.1) fun d=>Ú (Ý (ByteArray.size (ByteArray.mk #[109,105,120,32])+ByteArray.size d)) (Ú (Ý (ByteArray.size a+ByteArray.size ((ByteArray.mk #[109,105,120,32])++d))) (É (fun(e:tl) k=>mE c.2 (Ô c.2) e.1 e.2 (fun l m=>k (l,m)) (fun f=>Ú (Ý (ByteArray.size f+ByteArray.size (ByteArray.mk #[10]))) (ck (b+(1:Int)) fun n=>i (f++(ByteArray.mk #[10])) n))) ((a++((ByteArray.mk #[109,105,120,32])++d)),(0:Int))))) (j a)
def RV (a:a7) (k:tl->w8 ρ):w8 ρ :=
  Ã (Œ a) fun c=>ifb (ine c 0) (k ((ByteArray.mk #[]),c)) (Ã (lB a.1) fun b=>ifb (ine b.2 0) (k ((ByteArray.mk #[]),b.2)) (É (fun(d:tl) e=>mF a.2 (Ô a.2) d.1 d.2 (fun f g=>e (f,g)) (fun h=>k (h,(0:Int)))) (b.1,(0:Int))))
def ő (a:a7):w8 (tl):=RV a some
def Β (b:ByteArray) (a:ByteArray) (k:Bool->w8 ρ):w8 ρ :=
  ifb (ige (GP (ByteArray.size b)) (GP (ByteArray.size a))) (Ú ((ile 0 (GP (ByteArray.size a)))&&(ile (GP (ByteArray.size a)) ((ByteArray.size b:Nat):Int))) (k ((ByteArray.extract b 0 (Int.toNat (GP (ByteArray.size a)))).toList==a.toList))) (k false)
def ľ (a:ByteArray) (b:ByteArray):w8 (Bool):=Β a b some
def o8 (a:ByteArray) (b:ByteArray) (k:Bool->w8 ρ):w8 ρ :=
  Ã (ľ a b) fun c=>k c
def gZ (a:ByteArray) (b:ByteArray):w8 (Bool):=o8 a b some
def mn (e:fy) (f:Int) (b:Int) (a:ag) (d:Int->ag->w8 ρ) (g:ag->w8 ρ):w8 ρ :=
  ifb (ilt b f) (ø e b fun h=>Ã (Vi h) fun c=>ifb c.2 (Ú (Ý ((List.length a)+(List.length ([(0:Int)])))) (ck (b+(1:Int)) fun i=>d i (a++([(0:Int)])))) (Ú (Ý ((List.length a)+(List.length ([c.1])))) (ck (b+(1:Int)) fun j=>d j (a++([c.1]))))) (g a)
def Bv (a:fy) (k:ag->w8 ρ):w8 ρ :=
  É (fun(b:ek) c=>mn a (Ô a) b.1 b.2 (fun d e=>c (d,e)) (fun f=>k f)) ((0:Int),[])
def Ŏ (a:fy):w8 (ag):=Bv a some
def mR (b:fy) (d:fy) (e:Int) (a:Int) (f:Int->w8 ρ) (g:im->w8 ρ) (h:Unit->w8 ρ):w8 ρ :=
  ifb (ilt a e) (ø d a fun i=>ifb (i.toList==(ByteArray.mk #[98]).toList) (Ú ((ile 1 a)&&(ile a (ï b))) (Ã (Ŏ (List.take (Int.toNat (a-(1:Int))) (List.drop 1 b))) fun j=>ck (a+(1:Int)) fun c=>Ú ((ile 0 c)&&(ile c (ï b))) (Ã (Ŏ (List.drop (Int.toNat c) b)) fun k=>g (j,k)))) (ck (a+(1:Int)) fun l=>f l)) (h ())
def Sj (a:fy) (k:im->w8 ρ):w8 ρ :=
  ifb (ieq (Ô a) 0) (k ([],[])) (ø a (0:Int) fun c=>ifb (!(c.toList==(ByteArray.mk #[97]).toList)) (k ([],[])) (É (fun(d:Int) e=>mR a a (Ô a) d (fun f=>e f) (fun b=>k (b.1,b.2)) (fun _=>k ([],[]))) (0:Int)))
def D7 (a:fy):w8 (im):=Sj a some
def m8 (j:Int) (k:Int) (l:Int) (m:Int) (c:Int) (n:Int) (o:Int) (p:Int) (q:dx) (r:a8) (s:dy) (t:c7) (u:a8) (v:Int) (A:Int) (B:Int) (d:dx) (e:a8) (f:dy) (g:c7) (h:a8) (y:ByteArray) (w:Int->Int->dx->a8->dy->c7->a8->Int->Int->Int->dx->a8->dy->c7->a8->w8 ρ) (i:Val aI->w8 ρ):w8 ρ :=
  Ã (Θ y (ByteArray.mk #[10])) fun r1=>Ã (pH r1 (ByteArray.mk #[32])) fun a=>ø a (0:Int) fun x=>ifb (T5 x (ByteArray.mk #[102,105,108,109])) (Ú (ile 1 (ï a)) (ifb (ilt (Ô (List.drop 1 a)) j) (i ((0:Int),(0:Int),[],[],[],[],[],(7:Int))) (Ú ((ile 0 j)&&(ile j (ï (List.drop 1 a)))) (Ã (Ŏ (List.take (Int.toNat j) (List.drop 1 a))) fun E=>Ú ((ile 0 j)&&(ile j (ï (List.drop 1 a)))) (ø E (0:Int) fun e5=>ø E (1:Int) fun e6=>w o p q r s t u v e5 e6 d e f g h))))) (ifb (T5 x (ByteArray.mk #[103,97,117,103,101])) (Ú (ile 1 (ï a)) (ifb (ilt (Ô (List.drop 1 a)) k) (i ((0:Int),(0:Int),[],[],[],[],[],(7:Int))) (Ú ((ile 0 k)&&(ile k (ï (List.drop 1 a)))) (Ã (Ŏ (List.take (Int.toNat k) (List.drop 1 a))) fun b=>Ú ((ile 0 k)&&(ile k (ï (List.drop 1 a)))) (ø b (0:Int) fun F=>ø b (1:Int) fun G=>ø b (2:Int) fun H=>ø b (3:Int) fun I=>ø b (4:Int) fun J=>ø b (5:Int) fun K=>ø b (6:Int) fun L=>ø b (7:Int) fun M=>Ú (Ý ((List.length d)+(List.length ([(F,G,H,(I,J),(K,L),M)])))) (w o p q r s t u v A B (d++([(F,G,H,(I,J),(K,L),M)])) e f g h)))))) (ifb (T5 x (ByteArray.mk #[117,115,101])) (Ú (ile 1 (ï a)) (ifb (ilt (Ô (List.drop 1 a)) l) (i ((0:Int),(0:Int),[],[],[],[],[],(7:Int))) (Ú ((ile 0 l)&&(ile l (ï (List.drop 1 a)))) (Ã (Ŏ (List.take (Int.toNat l) (List.drop 1 a))) fun N=>Ú ((ile 0 l)&&(ile l (ï (List.drop 1 a)))) (ø N (0:Int) fun O=>ø N (1:Int) fun P=>Ú (Ý ((List.length e)+(List.length ([(O,P)])))) (w o p q r s t u v A B d (e++([(O,P)])) f g h)))))) (ifb (T5 x (ByteArray.mk #[108,111,97,110])) (Ú (ile 1 (ï a)) (ifb (ilt (Ô (List.drop 1 a)) m) (i ((0:Int),(0:Int),[],[],[],[],[],(7:Int))) (Ú ((ile 0 m)&&(ile m (ï (List.drop 1 a)))) (Ã (Ŏ (List.take (Int.toNat m) (List.drop 1 a))) fun C=>Ú ((ile 0 m)&&(ile m (ï (List.drop 1 a)))) (ø C (0:Int) fun Q=>ø C (1:Int) fun R=>ø C (2:Int) fun S=>ø C (3:Int) fun T=>Ú (Ý ((List.length f)+(List.length ([(Q,(R,S),T)])))) (w o p q r s t u v A B d e (f++([(Q,(R,S),T)])) g h)))))) (ifb (T5 x (ByteArray.mk #[99,111,109,112,97,114,101])) (Ú (ile 1 (ï a)) (ifb (ilt (Ô (List.drop 1 a)) c) (i ((0:Int),(0:Int),[],[],[],[],[],(7:Int))) (Ú ((ile 0 c)&&(ile c (ï (List.drop 1 a)))) (Ã (Ŏ (List.take (Int.toNat c) (List.drop 1 a))) fun z=>Ú ((ile 0 c)&&(ile c (ï (List.drop 1 a)))) (ø z (0:Int) fun U=>ø z (1:Int) fun V=>ø z (2:Int) fun W=>ø z (3:Int) fun X=>ø z (4:Int) fun Y=>ø z (5:Int) fun Z=>Ã (D7 (List.drop (Int.toNat c) (List.drop 1 a))) fun D=>Ú (Ý ((List.length g)+(List.length ([(U,V,D.1,D.2,W,X,Y,Z)])))) (w o p q r s t u v A B d e f (g++([(U,V,D.1,D.2,W,X,Y,Z)])) h)))))) (ifb (T5 x (ByteArray.mk #[108,111,111,107])) (Ú (ile 1 (ï a)) (ifb (ilt (Ô (List.drop 1 a)) n) (i ((0:Int),(0:Int),[],[],[],[],[],(7:Int))) (Ú ((ile 0 n)&&(ile n (ï (List.drop 1 a)))) (Ã (Ŏ (List.take (Int.toNat n) (List.drop 1 a))) fun dc=>Ú ((ile 0 n)&&(ile n (ï (List.drop 1 a)))) (ø dc (0:Int) fun df=>ø dc (1:Int) fun dg=>Ú (Ý ((List.length h)+(List.length ([(df,dg)])))) (w o p q r s t u v A B d e f g (h++([(df,dg)])))))))) (i ((0:Int),(0:Int),[],[],[],[],[],(7:Int))))))))
def ť (a:Int) (b:Int) (c:Int) (d:Int) (e:Int) (f:Int) (v:v8) (y:ByteArray):w8 (Sum v8 (Val aI)):=m8 a b c d e f v.1 v.2.1 v.2.2.1 v.2.2.2.1 v.2.2.2.2.1 v.2.2.2.2.2.1 v.2.2.2.2.2.2.1 v.2.2.2.2.2.2.2.1 v.2.2.2.2.2.2.2.2.1 v.2.2.2.2.2.2.2.2.2.1 v.2.2.2.2.2.2.2.2.2.2.1 v.2.2.2.2.2.2.2.2.2.2.2.1 v.2.2.2.2.2.2.2.2.2.2.2.2.1 v.2.2.2.2.2.2.2.2.2.2.2.2.2.1 v.2.2.2.2.2.2.2.2.2.2.2.2.2.2 y (fun g h i j k l m n o p q r s t u=>some (.inl (g,h,i,j,k,l,m,n,o,p,q,r,s,t,u))) (fun z=>some (.inr z))
def Kl (c:ByteArray) (k:nn->w8 ρ):w8 ρ :=
  Ú (Ý (ByteArray.size c)&&true) (runX (ť (2:Int) (8:Int) (2:Int) (4:Int) (6:Int) (2:Int)) (ks c) ((0:Int),(0:Int),[],[],[],[],[],(0:Int),(0:Int),(0:Int),[],[],[],[],[]) (fun b=>Ã (lB ((b.2.2.2.2.2.2.2.2.1,b.2.2.2.2.2.2.2.2.2.1),b.2.2.2.2.2.2.2.2.2.2)) fun d=>ifb (ine d.2 0) (k ((((0:Int),(0:Int)),[],[],[],[],[]),(7:Int))) (ifb (!(d.1.toList==c.toList)) (k ((((0:Int),(0:Int)),[],[],[],[],[]),(7:Int))) (k (((b.2.2.2.2.2.2.2.2.1,b.2.2.2.2.2.2.2.2.2.1),b.2.2.2.2.2.2.2.2.2.2),(0:Int))))) (fun a=>k (((a.1,a.2.1),a.2.2.1,a.2.2.2.1,a.2.2.2.2.1,a.2.2.2.2.2.1,a.2.2.2.2.2.2.1),a.2.2.2.2.2.2.2)))
def pL (a:ByteArray):w8 (nn):=Kl a some
def kq (p:Int) (o:fy) (a:Int) (c:Int) (d:Int) (e:dx) (f:a8) (g:dy) (h:c7) (i:a8) (j:b6) (k:Int) (l:Int) (b:ag) (n:Int->Int->Int->dx->a8->dy->c7->a8->b6->Int->Int->ag->w8 ρ) (q:Val aJ->w8 ρ) (r:Val aJ->w8 ρ):w8 ρ :=
  ifb (ilt a p) (Ú ((ile 0 a)&&(ilt a (ï o))) (ĵ o (Int.toNat a) fun s=>Ã (Vi s) fun m=>ifb (ieq a 0) (ck (a+(1:Int)) fun t=>n t c d e f g h i j k l b) (ifb m.2 (q ((0:Int),(0:Int),[],[],[],[],[],[],(7:Int),l,b)) (ifb (ieq a 1) (ck (a+(1:Int)) fun u=>n u c d e f g h i j k m.1 b) (Ú (Ý ((List.length b)+(List.length ([m.1])))) (ck (a+(1:Int)) fun v=>n v c d e f g h i j k l (b++([m.1])))))))) (r (c,d,e,f,g,h,i,j,k,l,b))
def wQ (f:Int) (g:Int) (h:dx) (i:a8) (j:dy) (k:c7) (l:a8) (m:b6) (n:Int) (d:b6) (y:ByteArray) (o:Int->Int->dx->a8->dy->c7->a8->b6->Int->b6->w8 ρ) (p:Val aG->w8 ρ):w8 ρ :=
  Ã (Θ y (ByteArray.mk #[10])) fun q=>Ã (yZ q (ByteArray.mk #[32])) fun e=>É (fun(a:(Val (.pair tI aJ))) r=>kq (Ô e) e a.1 a.2.1 a.2.2.1 a.2.2.2.1 a.2.2.2.2.1 a.2.2.2.2.2.1 a.2.2.2.2.2.2.1 a.2.2.2.2.2.2.2.1 a.2.2.2.2.2.2.2.2.1 a.2.2.2.2.2.2.2.2.2.1 a.2.2.2.2.2.2.2.2.2.2.1 a.2.2.2.2.2.2.2.2.2.2.2 (fun s t u v w x z A B C D E=>r (s,t,u,v,w,x,z,A,B,C,D,E)) (fun c=>p (c.1,c.2.1,c.2.2.1,c.2.2.2.1,c.2.2.2.2.1,c.2.2.2.2.2.1,c.2.2.2.2.2.2.1,c.2.2.2.2.2.2.2.1,c.2.2.2.2.2.2.2.2.1)) (fun b=>Ú (Ý ((List.length d)+(List.length ([b.2.2.2.2.2.2.2.2.2])))) (o b.1 b.2.1 b.2.2.1 b.2.2.2.1 b.2.2.2.2.1 b.2.2.2.2.2.1 b.2.2.2.2.2.2.1 b.2.2.2.2.2.2.2.1 b.2.2.2.2.2.2.2.2.1 (d++([b.2.2.2.2.2.2.2.2.2]))))) ((0:Int),f,g,h,i,j,k,l,m,n,(0:Int),[])
def ĕ (v:Val aw) (y:ByteArray) (a:Val aw->w8 ρ) (b:Val aG->w8 ρ):w8 ρ:=wQ v.1 v.2.1 v.2.2.1 v.2.2.2.1 v.2.2.2.2.1 v.2.2.2.2.2.1 v.2.2.2.2.2.2.1 v.2.2.2.2.2.2.2.1 v.2.2.2.2.2.2.2.2.1 v.2.2.2.2.2.2.2.2.2 y (fun c d e f g h i j k l=>a (c,d,e,f,g,h,i,j,k,l)) b
def Jt (a:ByteArray) (k:nj->w8 ρ):w8 ρ :=
  Ã (gZ a (ByteArray.mk #[109,105,120,32])) fun r=>ifb r (Ã (pL (ByteArray.mk #[])) fun f=>ifb (ine f.2 0) (k (((((0:Int),(0:Int)),[],[],[],[],[]),[]),(7:Int))) (Ú (Ý (ByteArray.size a)&&true) (TM (ĕ) (ks a) ((0:Int),(0:Int),[],[],[],[],[],[],(0:Int),[]) (fun l=>Ã (ő (f.1,l.2.2.2.2.2.2.2.2.2)) fun m=>ifb (ine m.2 0) (k (((((0:Int),(0:Int)),[],[],[],[],[]),[]),(7:Int))) (ifb (!(m.1.toList==a.toList)) (k (((((0:Int),(0:Int)),[],[],[],[],[]),[]),(7:Int))) (k ((f.1,l.2.2.2.2.2.2.2.2.2),(0:Int))))) (fun b=>k ((((b.1,b.2.1),b.2.2.1,b.2.2.2.1,b.2.2.2.2.1,b.2.2.2.2.2.1,b.2.2.2.2.2.2.1),b.2.2.2.2.2.2.2.1),b.2.2.2.2.2.2.2.2))))) (Ã (xA a (ByteArray.mk #[10,109,105,120,32])) fun g=>ifb (ige g 0) (ck (g+(1:Int)) fun h=>Ú ((ile 0 h)&&(ile h ((ByteArray.size a:Nat):Int))) (ck (g+(1:Int)) fun e=>Ú ((ile 0 e)&&(ile e ((ByteArray.size a:Nat):Int))) (Ã (pL (ByteArray.extract a 0 (Int.toNat h))) fun i=>ifb (ine i.2 0) (k (((((0:Int),(0:Int)),[],[],[],[],[]),[]),(7:Int))) (Ú (Ý (ByteArray.size (ByteArray.extract a (Int.toNat e) (ByteArray.size a)))&&true) (TM (ĕ) (ks (ByteArray.extract a (Int.toNat e) (ByteArray.size a))) ((0:Int),(0:Int),[],[],[],[],[],[],(0:Int),[]) (fun n=>Ã (ő (i.1,n.2.2.2.2.2.2.2.2.2)) fun o=>ifb (ine o.2 0) (k (((((0:Int),(0:Int)),[],[],[],[],[]),[]),(7:Int))) (ifb (!(o.1.toList==a.toList)) (k (((((0:Int),(0:Int)),[],[],[],[],[]),[]),(7:Int))) (k ((i.1,n.2.2.2.2.2.2.2.2.2),(0:Int))))) (fun c=>k ((((c.1,c.2.1),c.2.2.1,c.2.2.2.1,c.2.2.2.2.1,c.2.2.2.2.2.1,c.2.2.2.2.2.2.1),c.2.2.2.2.2.2.2.1),c.2.2.2.2.2.2.2.2))))))) (Ã (pL a) fun j=>ifb (ine j.2 0) (k (((((0:Int),(0:Int)),[],[],[],[],[]),[]),(7:Int))) (Ú (Ý (ByteArray.size (ByteArray.mk #[]))&&true) (TM (ĕ) (ks (ByteArray.mk #[])) ((0:Int),(0:Int),[],[],[],[],[],[],(0:Int),[]) (fun p=>Ã (ő (j.1,p.2.2.2.2.2.2.2.2.2)) fun q=>ifb (ine q.2 0) (k (((((0:Int),(0:Int)),[],[],[],[],[]),[]),(7:Int))) (ifb (!(q.1.toList==a.toList)) (k (((((0:Int),(0:Int)),[],[],[],[],[]),[]),(7:Int))) (k ((j.1,p.2.2.2.2.2.2.2.2.2),(0:Int))))) (fun d=>k ((((d.1,d.2.1),d.2.2.1,d.2.2.2.1,d.2.2.2.2.1,d.2.2.2.2.2.1,d.2.2.2.2.2.2.1),d.2.2.2.2.2.2.2.1),d.2.2.2.2.2.2.2.2))))))
def jL (a:ByteArray):w8 (nj):=Jt a some
def ud (c:an) (d:Int) (e:Int) (f:Int) (g:dx) (h:a8) (i:dy) (j:c7) (k:a8) (l:b6) (b:Int) (a:Int) (m:Int->w8 ρ) (n:Int->w8 ρ) (o:Unit->w8 ρ):w8 ρ :=
  ifb (ilt a d) (ø c a fun p=>Ã (pG (((e,f),g,h,i,j,k),l) p b (20000:Int)) fun q=>ifb (ine q b) (n a) (ck (a+(1:Int)) fun r=>m r)) (o ())
def ue (e:an) (f:dx) (g:Int) (h:Int) (i:Int) (j:dx) (k:a8) (l:dy) (m:c7) (n:a8) (o:b6) (b:Int) (a:ag) (d:Int->ag->w8 ρ) (p:ag->w8 ρ):w8 ρ :=
  ifb (ilt b g) (ø f b fun c=>É (fun(q:Int) r=>ud e (Ô e) h i j k l m n o c.1 q (fun s=>r s) (fun t=>ifb (!(ige t 0)) (Ú (Ý ((List.length a)+(List.length ([c.1])))) (ck (b+(1:Int)) fun u=>d u (a++([c.1])))) (ck (b+(1:Int)) fun v=>d v a)) (fun _=>Ú (Ý ((List.length a)+(List.length ([c.1])))) (ck (b+(1:Int)) fun w=>d w (a++([c.1]))))) (0:Int)) (p a)
def Wn (a:a7) (k:l7->w8 ρ):w8 ρ :=
  Ã (Œ a) fun b=>ifb (ine b 0) (k ([],b)) (Ã (yp a) fun c=>ifb (ieq (Ô c) 0) (k ([],(5:Int))) (É (fun(d:ek) e=>ue c a.1.2.1 (Ô a.1.2.1) a.1.1.1 a.1.1.2 a.1.2.1 a.1.2.2.1 a.1.2.2.2.1 a.1.2.2.2.2.1 a.1.2.2.2.2.2 a.2 d.1 d.2 (fun f g=>e (f,g)) (fun h=>k (h,(0:Int)))) ((0:Int),[])))
def yq (a:a7):w8 (l7):=Wn a some
def vn (a:gf) (b:gf) (k:Bool->w8 ρ):w8 ρ :=
  Ã (Ň a.2.2.1 b.2.2.1) fun c=>Ã (Ň a.2.2.2.1 b.2.2.2.1) fun d=>ifb c (ifb d (ifb (ieq a.1 b.1) (ifb (ieq a.2.1 b.2.1) (ifb (ieq a.2.2.2.2.1 b.2.2.2.2.1) (ifb (ieq a.2.2.2.2.2.1 b.2.2.2.2.2.1) (k ((kI a.2.2.2.2.2.2.1 b.2.2.2.2.2.2.1)&&((kI a.2.2.2.2.2.2.2 b.2.2.2.2.2.2.2)&&true))) (k false)) (k false)) (k false)) (k false)) (k false)) (k false)
def jY (a:gf) (b:gf):w8 (Bool):=vn a b some
def jg (b:a8) (e:a8) (a:Int) (f:Int->w8 ρ) (g:Bool->w8 ρ) (h:Unit->w8 ρ):w8 ρ :=
  ifb (ilt a (Ô b)) (ø b a fun c=>ø e a fun d=>ifb (!((kI c.1 d.1)&&((kI c.2 d.2)&&true))) (g false) (ck (a+(1:Int)) fun i=>f i)) (h ())
def zO (a:a8) (b:a8) (k:Bool->w8 ρ):w8 ρ :=
  ifb (ine (Ô a) (Ô b)) (k false) (É (fun(c:Int) d=>jg a b c (fun e=>d e) (fun f=>k f) (fun _=>k true)) (0:Int))
def jN (a:a8) (b:a8):w8 (Bool):=zO a b some
def qR (d:dx) (e:dx) (c:Int) (f:Int->w8 ρ) (g:Bool->w8 ρ) (h:Unit->w8 ρ):w8 ρ :=
  ifb (ilt c (Ô d)) (ø d c fun a=>ø e c fun b=>ifb (!((kI a.1 b.1)&&((kI a.2.1 b.2.1)&&((kI a.2.2.1 b.2.2.1)&&((kI a.2.2.2.1.1 b.2.2.2.1.1)&&((kI a.2.2.2.1.2 b.2.2.2.1.2)&&((kI a.2.2.2.2.1.1 b.2.2.2.2.1.1)&&((kI a.2.2.2.2.1.2 b.2.2.2.2.1.2)&&((kI a.2.2.2.2.2 b.2.2.2.2.2)&&true))))))))) (g false) (ck (c+(1:Int)) fun i=>f i)) (h ())
def qQ (b:a8) (e:a8) (a:Int) (f:Int->w8 ρ) (g:Bool->w8 ρ) (h:Unit->w8 ρ):w8 ρ :=
  ifb (ilt a (Ô b)) (ø b a fun c=>ø e a fun d=>ifb (!((kI c.1 d.1)&&((kI c.2 d.2)&&true))) (g false) (ck (a+(1:Int)) fun i=>f i)) (h ())
def qP (d:dy) (e:dy) (a:Int) (f:Int->w8 ρ) (g:Bool->w8 ρ) (h:Unit->w8 ρ):w8 ρ :=
  ifb (ilt a (Ô d)) (ø d a fun b=>ø e a fun c=>ifb (!((kI b.1 c.1)&&((kI b.2.1.1 c.2.1.1)&&((kI b.2.1.2 c.2.1.2)&&((kI b.2.2 c.2.2)&&true))))) (g false) (ck (a+(1:Int)) fun i=>f i)) (h ())
def qO (b:c7) (c:c7) (a:Int) (d:Int->w8 ρ) (e:Bool->w8 ρ) (f:Unit->w8 ρ):w8 ρ :=
  ifb (ilt a (Ô b)) (ø b a fun g=>ø c a fun h=>Ã (jY g h) fun i=>ifb (!i) (e false) (ck (a+(1:Int)) fun j=>d j)) (f ())
def R0 (a:b5) (b:b5) (k:Bool->w8 ρ):w8 ρ :=
  ifb (!((kI a.1.1 b.1.1)&&((kI a.1.2 b.1.2)&&true))) (k false) (ifb (ine (Ô a.2.1) (Ô b.2.1)) (k false) (ifb (ine (Ô a.2.2.1) (Ô b.2.2.1)) (k false) (ifb (ine (Ô a.2.2.2.1) (Ô b.2.2.2.1)) (k false) (ifb (ine (Ô a.2.2.2.2.1) (Ô b.2.2.2.2.1)) (k false) (É (fun(c:Int) d=>qR a.2.1 b.2.1 c (fun e=>d e) (fun f=>k f) (fun _=>É (fun(g:Int) h=>qQ a.2.2.1 b.2.2.1 g (fun i=>h i) (fun j=>k j) (fun _=>É (fun(l:Int) m=>qP a.2.2.2.1 b.2.2.2.1 l (fun n=>m n) (fun o=>k o) (fun _=>É (fun(p:Int) q=>qO a.2.2.2.2.1 b.2.2.2.2.1 p (fun r=>q r) (fun s=>k s) (fun _=>Ã (jN a.2.2.2.2.2 b.2.2.2.2.2) fun t=>k t)) (0:Int))) (0:Int))) (0:Int))) (0:Int))))))
def D4 (a:b5) (b:b5):w8 (Bool):=R0 a b some
def qN (b:b6) (c:b6) (a:Int) (e:Int->w8 ρ) (d:Bool->w8 ρ) (f:Unit->w8 ρ):w8 ρ :=
  ifb (ilt a (Ô b)) (ø b a fun g=>ø c a fun h=>Ã (Ň g.2 h.2) fun i=>ifb (!i) (d false) (ø b a fun j=>ø c a fun k=>ifb (ine j.1 k.1) (d false) (ck (a+(1:Int)) fun l=>e l))) (f ())
def RZ (a:a7) (b:a7) (k:Bool->w8 ρ):w8 ρ :=
  Ã (D4 a.1 b.1) fun c=>ifb (!c) (k false) (ifb (ine (Ô a.2) (Ô b.2)) (k false) (É (fun(d:Int) e=>qN a.2 b.2 d (fun f=>e f) (fun g=>k g) (fun _=>k true)) (0:Int)))
def tE (a:a7) (b:a7):w8 (Bool):=RZ a b some
def ig (b:an) (c:Int) (g:Int) (h:Int) (i:dx) (j:a8) (k:dy) (l:c7) (m:a8) (n:b6) (d:Bool) (a:Int) (e:Bool->Int->w8 ρ) (o:Bool->w8 ρ) (p:Bool->w8 ρ):w8 ρ :=
  ifb (ilt a (Ô b)) (ø b a fun q=>Ã (KX (((g,h),i,j,k,l,m),n) q c (20000:Int)) fun f=>ifb (ine f.2 0) (o false) (ifb d (ck (a+(1:Int)) fun r=>e (ieq f.1 c) r) (ck (a+(1:Int)) fun s=>e false s))) (p d)
def ic (b:ag) (e:Int) (c:Bool) (a:Int) (d:Bool->Int->w8 ρ) (f:Bool->w8 ρ):w8 ρ :=
  ifb (ilt a (Ô b)) (ifb c (ck (a+(1:Int)) fun g=>d true g) (ø b a fun h=>ck (a+(1:Int)) fun i=>d (ieq h e) i)) (f c)
def ů (g:ag) (h:an) (i:Int) (j:Int) (a:dx) (k:a8) (l:dy) (m:c7) (n:a8) (o:b6) (b:Int) (p:Int->w8 ρ) (c:Bool->w8 ρ) (q:Unit->w8 ρ):w8 ρ :=
  ifb (ilt b (Ô a)) (ø a b fun d=>É (fun(e:th) r=>ig h d.1 i j a k l m n o e.1 e.2 (fun s t=>r (s,t)) (fun u=>c u) (fun v=>É (fun(f:th) w=>ic g d.1 f.1 f.2 (fun x y=>w (x,y)) (fun z=>ifb (!(z==v)) (c false) (ck (b+(1:Int)) fun A=>p A))) (false,(0:Int)))) (true,(0:Int))) (q ())
def tZ (a:a7) (d:ByteArray) (k:Bool->w8 ρ):w8 ρ :=
  Ã (yn a) fun n=>ifb (!n) (Ã Ž fun o=>k o) (ifb (igt (GP (ByteArray.size d)) 2000) (Ã Ž fun p=>k p) (Ã (jL d) fun g=>ifb (ieq g.2 0) (Ã (ő g.1) fun h=>ifb (ine h.2 0) (k false) (ifb (!(h.1.toList==d.toList)) (k false) (Ã (ő a) fun i=>ifb (ine i.2 0) (Ã Ž fun q=>k q) (Ã (jL i.1) fun j=>Ã (yq a) fun b=>Ã (BD a) fun e=>ifb (ine j.2 0) (k false) (Ã (tE j.1 a) fun r=>ifb (!r) (k false) (ifb (ine e.2 0) (k false) (ifb (!((ieq b.2 0)==(igt (Ô e.1) 0))) (k false) (ifb (ine b.2 0) (Ã Ž fun s=>ifb s (k (ieq b.2 5)) (k false)) (É (fun(t:Int) u=>ů b.1 e.1 a.1.1.1 a.1.1.2 a.1.2.1 a.1.2.2.1 a.1.2.2.2.1 a.1.2.2.2.2.1 a.1.2.2.2.2.2 a.2 t (fun v=>u v) (fun w=>k w) (fun _=>Ã Ž fun x=>k x)) (0:Int)))))))))) (Ã (ő a) fun l=>ifb (ine l.2 0) (Ã Ž fun y=>k y) (Ã (jL l.1) fun m=>Ã (yq a) fun c=>Ã (BD a) fun f=>ifb (ine m.2 0) (k false) (Ã (tE m.1 a) fun z=>ifb (!z) (k false) (ifb (ine f.2 0) (k false) (ifb (!((ieq c.2 0)==(igt (Ô f.1) 0))) (k false) (ifb (ine c.2 0) (Ã Ž fun A=>ifb A (k (ieq c.2 5)) (k false)) (É (fun(B:Int) C=>ů c.1 f.1 a.1.1.1 a.1.1.2 a.1.2.1 a.1.2.2.1 a.1.2.2.2.1 a.1.2.2.2.2.1 a.1.2.2.2.2.2 a.2 B (fun D=>C D) (fun E=>k E) (fun _=>Ã Ž fun F=>k F)) (0:Int))))))))))
def uH (a:a7) (b:ByteArray):w8 (Bool):=tZ a b some
end Go.Proofs.ZzM
end
