/- lemmas -/
import Derived.Test.YtenljaeklhlanaaGreatAmE
set_option linter.all false
noncomputable section
variable {ρ:Type}
set_option maxRecDepth 100000
namespace Go.Proofs.ZzM
open Go Go.Am
abbrev tI:Ty:=.int .i64
abbrev Ç:Ty:=(.pair tI tI)
abbrev ģ:Ty:=(.pair tI Ç)
abbrev Ģ:Ty:=(.pair tI (.slice tI))
abbrev ġ:Ty:=(.pair Ç Ç)
abbrev mA:Ty:=(.pair Ç tI)
abbrev π:Ty:=(.pair tI mA)
abbrev FW:Ty:=(.pair ġ tI)
abbrev Ó:Ty:=(.pair tI (.slice ģ))
abbrev De:Ty:=(.pair (.slice ģ) (.slice Ç))
abbrev Ú:Ty:=(.pair tI (.pair tI (.pair tI (.pair Ç mA))))
abbrev Ö:Ty:=(.pair tI (.pair tI (.pair (.slice tI) (.pair (.slice tI) (.pair tI ģ)))))
abbrev Ê:Ty:=(.pair Ç (.pair (.slice Ú) (.pair (.slice Ç) (.pair (.slice π) (.pair (.slice Ö) (.slice Ç))))))
abbrev Â:Ty:=(.pair Ê (.slice Ģ))
abbrev am8:Ty:=(.pair Ê (.pair (.slice Ç) (.pair Ó (.slice Ç))))
def Ci (l:CK Int):BY (CK Int):=à (ä l.length) (some l)
def vI:Nat->CK Int->CK (CK Int)
  |0,_=>[[]]
  |n+1,l=>if l.length=0 then[[]] else(List.range l.length).flatMap fun i=>(vI n (l.take i++l.drop (i+1))).map (l.getD i 0::·)
def χ:CK (Int×CK Int)->CK (CK (CK Int))
  |[]=>[[]]
  |m::r=>(vI m.2.length m.2).flatMap fun x=>(χ r).map (x::·)
def Cj (l:CK Int):BY (CK (CK Int)):=à (decide (l.length<=9)) (some (vI l.length l))
def om (l:CK (Int×CK Int)):BY (CK (CK (CK Int))):=à (decide (l.length<=9)&&l.all fun m=>decide (m.2.length<=9)) (some (χ l))
abbrev aa:Ty:=(.slice Ç)
abbrev ab:Ty:=(.slice tI)
abbrev ac:Ty:=(.slice Ö)
abbrev ae:Ty:=(.slice Ú)
abbrev af:Ty:=(.slice π)
abbrev ah:Ty:=(.slice ab)
abbrev ai:Ty:=(.pair tI (.pair tI (.pair ae (.pair aa (.pair af (.pair ac (.pair aa (.slice Ģ))))))))
abbrev aj:Ty:=(.slice Ģ)
abbrev ak:Ty:=(.slice ah)
abbrev am:Ty:=(.slice ģ)
abbrev ao:Ty:=(.pair tI (.pair tI (.pair ae (.pair aa (.pair af (.pair ac aa))))))
abbrev aq:Ty:=(.pair tI (.pair tI (.pair tI (.pair ae (.pair aa (.pair af (.pair ac (.pair aa (.pair tI (.pair tI (.pair tI (.pair tI (.pair tI ģ)))))))))))))
abbrev ar:Ty:=(.map tI Ú)
abbrev au:Ty:=(.map tI .bool)
abbrev aw:Ty:=(.pair tI (.pair tI (.pair ae (.pair aa (.pair af (.pair ac (.pair aa (.pair tI (.pair tI (.pair ab (.pair ab (.pair tI (.pair tI (.pair tI Ģ))))))))))))))
abbrev ax:Ty:=(.slice .bool)
abbrev ay:Ty:=(.ptr Â)
abbrev az:Ty:=(.pair tI (.pair ak ai))
abbrev aB:Ty:=(.pair tI ak)
abbrev aD:Ty:=(.pair tI (.pair tI (.pair ae (.pair aa (.pair af (.pair ac (.pair aa (.pair aj ai))))))))
abbrev aE:Ty:=(.pair ab tI)
abbrev aF:Ty:=(.pair tI ai)
abbrev aG:Ty:=(.pair tI (.pair tI (.pair ae (.pair aa (.pair af (.pair ac (.pair aa Ģ)))))))
abbrev aH:Ty:=(.pair tI (.pair tI (.pair tI (.pair ae (.pair aa (.pair af (.pair ac (.pair aa (.pair tI ģ)))))))))
abbrev aI:Ty:=(.pair tI (.pair tI (.pair ae (.pair aa (.pair af (.pair ac (.pair aa (.pair aj ak))))))))
abbrev aJ:Ty:=(.pair ab (.pair tI (.pair tI (.pair tI (.pair ae (.pair aa (.pair af (.pair ac (.pair aa (.pair tI (.pair ab (.map tI tI))))))))))))
abbrev aK:Ty:=(.ptr ah)
abbrev aL:Ty:=(.pair tI ah)
abbrev aM:Ty:=(.pair Â ah)
abbrev aO:Ty:=(.pair tI aa)
abbrev aP:Ty:=(.pair tI Ó)
abbrev aQ:Ty:=(.pair tI (.pair tI (.pair ae (.pair aa (.pair af (.pair ac (.pair aa (.pair aj ab))))))))
abbrev aR:Ty:=(.ptr am8)
abbrev aS:Ty:=(.pair tI De)
abbrev aT:Ty:=(.pair ax ab)
abbrev aU:Ty:=(.pair ab (.pair ax (.pair ab ab)))
abbrev aV:Ty:=(.pair tI (.pair tI (.pair tI (.pair tI (.pair tI az)))))
abbrev aW:Ty:=(.pair aa (.pair tI (.pair tI (.pair tI (.pair tI (.pair tI (.pair tI ģ)))))))
abbrev aX:Ty:=(.pair .bool tI)
abbrev aY:Ty:=(.map tI Ç)
abbrev aZ:Ty:=(.pair Ê Ö)
abbrev ba:Ty:=(.pair Ê Ç)
abbrev bc:Ty:=(.pair tI ac)
abbrev bf:Ty:=(.pair ab (.pair tI (.pair tI aE)))
abbrev bg:Ty:=(.pair tI Ģ)
abbrev bh:Ty:=(.pair tI (.pair tI .bool))
abbrev bi:Ty:=(.pair ab Ģ)
abbrev bj:Ty:=(.map tI tI)
abbrev bm:Ty:=(.pair ab (.pair aj ab))
abbrev bn:Ty:=(.pair tI (.pair tI aF))
abbrev bo:Ty:=(.pair tI (.pair tI ģ))
abbrev bp:Ty:=(.pair Ê (.pair ar tI))
abbrev bq:Ty:=(.pair tI (.pair tI (.pair am Ó)))
abbrev an:=Val ab
abbrev a7:=Val ak
abbrev a8:=Val Â
abbrev bl:=Val aa
abbrev bx:=Val Ç
abbrev b5:=Val ah
abbrev b6:=Val Ê
abbrev c7:=Val ac
abbrev c9:=Val aj
abbrev fx:=Val af
abbrev fy:=Val ae
abbrev f4:=Val Ģ
abbrev ge:=Val Ó
abbrev hO:=Val am
abbrev im:=Val aB
abbrev io:=Val Ö
abbrev i4:=Val (.map tI Ú)
abbrev kw:=Val ġ
abbrev ly:=Val mA
abbrev lA:=Val (.pair ab ab)
abbrev l7:=Val (.pair ah aF)
abbrev ni:=Val (.pair tI (.pair ab aT))
abbrev nj:=Val aO
abbrev nm:=Val (.pair (.int .u64) (.int .u64))
abbrev nn:=Val (.pair tI (.slice tI))
abbrev pc:=Val Ú
abbrev pi:=Val aL
abbrev px:=Val aE
abbrev py:=Val (.pair ah tI)
abbrev qs:=Val ģ
abbrev rd:=Val ar
abbrev rm:=Val (.pair Ó ab)
abbrev rn:=Val aM
abbrev rx:=Val (.pair Â (.pair ah Ç))
abbrev ry:=Val (.pair .bool Ģ)
abbrev r8:=Val (.pair π .bool)
abbrev so:=Val (.pair ah .bool)
abbrev th:=Val ai
abbrev u5:=Val (.slice tI)
abbrev u6:=Val π
abbrev u7:=Val (.slice (.slice tI))
abbrev v6:=Val az
abbrev v8:=Val aX
abbrev wk:=Val aS
abbrev wl:=Val ax
abbrev xa:=Val (.pair ab aL)
abbrev xl:=Val (.pair Â ab)
abbrev x9:=Val (.pair tI aB)
abbrev y5:=Val (.pair tI az)
abbrev y6:=Val (.pair tI af)
abbrev y8:=Val (.pair tI aT)
abbrev y9:=Val (.pair tI bc)
abbrev An:=Val (.pair ab aP)
abbrev At:=Val (.pair tI bg)
abbrev AN:=Val (.pair Ê tI)
abbrev AS:=Val (.pair ak tI)
abbrev BE:=Val (.pair ab .bool)
def Τ (d:b5) (e:Int) (b:Int) (a:Int) (f:Int->Int->BY ρ) (g:Int->BY ρ):BY ρ :=
  ifb (ilt a e) (â d a fun h=>ck (b+(Õ h)) fun c=>ifb (ilt c 0) (none) (ck (a+(1:Int)) fun i=>f c i)) (g b)
def Ħ (d:b5) (e:Int) (a:Int) (b:an) (f:Int->an->BY ρ) (g:an->BY ρ):BY ρ :=
  ifb (ilt a e) (â d a fun c=>à (ä ((List.length b)+(List.length c))) (ck (a+(1:Int)) fun h=>f h (b++c))) (g b)
def tX (a:b5) (k:an->BY ρ):BY ρ :=
  Ë (fun(c:bx) g=>Τ a (Õ a) c.1 c.2 (fun h i=>g (h,i)) (fun d=>ifb (ilt d 0) (none) (ck (d-(0:Int)) fun b=>ifb (igt b 0) (à ((ilt 0 b)&&(ä (Int.toNat b))) (à (ile 0 (î (List.replicate (Int.toNat b) (0:Int)))) (Ë (fun(e:f4) j=>Ħ a (Õ a) e.1 e.2 (fun l m=>j (l,m)) (fun n=>k n)) ((0:Int),(List.take 0 (List.replicate (Int.toNat b) (0:Int))))))) (Ë (fun(f:f4) o=>Ħ a (Õ a) f.1 f.2 (fun p q=>o (p,q)) (fun r=>k r)) ((0:Int),[]))))) ((0:Int),(0:Int))
def Ĭ (a:b5):BY (an):=tX a some
def rJ (al:b5) (rec:an->BY (b5)) (a:Int) (b:b5) (y:an) (c:b5->BY ρ):BY ρ :=
  à (ä ((List.length ([a]))+(List.length y))) (yg al (b++[(([a])++y)]) (c (b++[(([a])++y)])))
def rK (al:b5) (rec:an->BY (b5)) (e:an) (f:Int) (b:an) (a:Int) (d:b5) (g:Int->b5->BY ρ) (h:b5->BY ρ):BY ρ :=
  ifb (ilt a f) (â e a fun i=>à ((ile 0 a)&&(ile a (î b))) (ck (a+(1:Int)) fun c=>à ((ile 0 c)&&(ile c (î b))) (Å (Ĭ ([(List.take (Int.toNat a) b),(List.drop (Int.toNat c) b)])) fun j=>Å (rec j) fun k=>Bu (fun(l:b5) (m:an) n=>rJ al rec i l m (fun o=>n o)) k (d) (fun p=>ck (a+(1:Int)) fun q=>g q p)))) (h d)
def Ai (al:b5) (rec:an->BY (b5)) (mm:an) (k:(b5)×(an)->BY ρ):BY ρ :=
  ifb (ieq (Õ mm) 0) (yg al (([])++[[]]) (k ((([])++[[]]),mm))) (Ë (fun(a:pi) b=>rK al rec mm (Õ mm) mm a.1 a.2 (fun c d=>b (c,d)) (fun e=>k (e,mm))) ((0:Int),[]))
def oc (al:a7) (rec:c9->BY (a7)) (a:an) (b:a7) (y:b5) (c:a7->BY ρ):BY ρ :=
  à (ä ((List.length ([a]))+(List.length y))) (yg al (b++[(([a])++y)]) (c (b++[(([a])++y)])))
def od (al:a7) (rec:c9->BY (a7)) (a:c9) (b:a7) (y:an) (c:a7->BY ρ):BY ρ :=
  à (ile 1 (î a)) (Å (rec (List.drop 1 a)) fun d=>Bu (fun(e:a7) (f:b5) g=>oc al rec y e f (fun h=>g h)) d (b) (fun i=>c i))
def vg (al:a7) (rec:c9->BY (a7)) (mm:c9) (k:(a7)×(c9)->BY ρ):BY ρ :=
  ifb (ieq (Õ mm) 0) (yg al (([])++[[]]) (k ((([])++[[]]),mm))) (â mm (0:Int) fun a=>Å (Cj a.2) fun b=>Bu (fun(c:a7) (d:an) e=>od al rec mm c d (fun f=>e f)) b ([]) (fun g=>k (g,mm)))
def jk (al:an) (rec:an->BY (an)) (d:an) (e:Int) (a:Int) (b:an) (f:Int->an->BY ρ) (g:an->BY ρ):BY ρ :=
  ifb (ilt a e) (â d a fun c=>yg al (b++[c]) (ck (a+(1:Int)) fun h=>f h (b++[c]))) (g b)
def lE (al:an) (rec:an->BY (an)) (mm:an) (k:(an)×(an)->BY ρ):BY ρ :=
  Ë (fun(a:f4) b=>jk al rec mm (Õ mm) a.1 a.2 (fun c d=>b (c,d)) (fun e=>k (e,mm))) ((0:Int),[])
def Up (a:bx) (b:Int) (c:Int) (k:Bool->BY ρ):BY ρ :=
  ifb (ile b a.1) (ifb (ile a.1 a.2) (k (ile a.2 c)) (k false)) (k false)
def Κ (a:bx) (b:Int) (c:Int):BY (Bool):=Up a b c some
def Un (a:Int) (b:Int) (c:Int) (k:Bool->BY ρ):BY ρ :=
  ifb (ile b a) (k (ile a c)) (k false)
def ĝ (a:Int) (b:Int) (c:Int):BY (Bool):=Un a b c some
def ZT (a:Int) (k:Bool->BY ρ):BY ρ :=
  Å (ĝ a (0:Int) (20000:Int)) fun b=>k b
def np (a:Int):BY (Bool):=ZT a some
def adS (a:Int) (k:Int->BY ρ):BY ρ :=
  ifb (ilt a 0) (k (IntKind.wrap .u64 (0-(IntKind.wrap .u64 a)))) (k (IntKind.wrap .u64 a))
def uV (a:Int):BY (Int):=adS a some
def Ce (b:Int) (a:Int) (c:Int->Int->BY ρ) (d:Int->BY ρ):BY ρ :=
  ifb (ine a 0) (ifb (oQ a 0) (none) (c a (Int.tmod b a))) (d b)
def aii (b:Int) (c:Int) (k:Int->BY ρ):BY ρ :=
  Ë (fun(a:nm) d=>Ce a.1 a.2 (fun e f=>d (e,f)) (fun g=>k g)) (b,c)
def QA (a:Int) (b:Int):BY (Int):=aii a b some
def ZN (a:bx) (k:Bool->BY ρ):BY ρ :=
  ifb (ige a.2 1) (ifb (ile a.2 2147483647) (Å (uV a.1) fun b=>ifb (ile b 2147483647) (Å (uV a.1) fun c=>Å (uV a.2) fun d=>Å (QA c d) fun e=>k (ieq e 1)) (k false)) (k false)) (k false)
def wZ (a:bx):BY (Bool):=ZN a some
def FA (a:pc) (k:Bool->BY ρ):BY ρ :=
  Å (wZ a.2.2.2.2.1) fun b=>ifb b (Å (ĝ a.2.2.2.2.1.1 (-1000:Int) (1000:Int)) fun c=>ifb c (Å (ĝ a.1 (1:Int) (1099511627776:Int)) fun d=>ifb d (Å (np a.2.1) fun e=>ifb e (Å (ĝ a.2.2.1 (1:Int) (1125899906842624:Int)) fun f=>ifb f (Å (Κ a.2.2.2.1 (-1073741824:Int) (1073741824:Int)) fun g=>ifb g (ifb (ile a.2.2.2.2.1.2 100) (Å (ĝ a.2.2.2.2.2 (0:Int) (1048576:Int)) fun h=>k h) (k false)) (k false)) (k false)) (k false)) (k false)) (Å (ĝ a.1 (1:Int) (1099511627776:Int)) fun i=>ifb i (Å (np a.2.1) fun j=>ifb j (Å (ĝ a.2.2.1 (1:Int) (1125899906842624:Int)) fun l=>ifb l (Å (Κ a.2.2.2.1 (-1073741824:Int) (1073741824:Int)) fun m=>ifb m (k false) (k false)) (k false)) (k false)) (k false))) (Å (ĝ a.1 (1:Int) (1099511627776:Int)) fun n=>ifb n (Å (np a.2.1) fun o=>ifb o (Å (ĝ a.2.2.1 (1:Int) (1125899906842624:Int)) fun p=>ifb p (Å (Κ a.2.2.2.1 (-1073741824:Int) (1073741824:Int)) fun q=>ifb q (k false) (k false)) (k false)) (k false)) (k false))
def yE (a:pc):BY (Bool):=FA a some
def jP (e:fy) (f:Int) (g:fy) (a:Int) (b:Int->BY ρ) (c:Int->BY ρ) (h:Unit->BY ρ):BY ρ :=
  ifb (ilt a f) (â e a fun d=>Å (yE d) fun i=>ifb (!i) (c (1:Int)) (ifb (igt a 0) (ck (a-(1:Int)) fun j=>â g j fun k=>ifb (ile d.1 k.1) (c (6:Int)) (ck (a+(1:Int)) fun l=>b l)) (ck (a+(1:Int)) fun m=>b m))) (h ())
def Bm (a:b6) (k:Int->BY ρ):BY ρ :=
  Ë (fun(b:Int) c=>jP a.2.1 (Õ a.2.1) a.2.1 b (fun d=>c d) (fun e=>k e) (fun _=>k (0:Int))) (0:Int)
def Ż (a:b6):BY (Int):=Bm a some
def oL (d:fy) (e:Int) (a:Int) (b:rd) (f:Int->rd->BY ρ) (g:rd->BY ρ):BY ρ :=
  ifb (ilt a e) (â d a fun c=>ck (a+(1:Int)) fun h=>f h (TM (k:=tI) (v:=Ú) c.1 c b)) (g b)
def PU (a:b6) (k:rd->BY ρ):BY ρ :=
  Ë (fun(b:(Val (.pair tI ar))) c=>oL a.2.1 (Õ a.2.1) b.1 b.2 (fun d e=>c (d,e)) (fun f=>k f)) ((0:Int),[])
def Ņ (a:b6):BY (rd):=PU a some
def ψ (b:an) (c:Int) (d:Int) (a:Int) (e:Int->BY ρ) (f:Int->BY ρ) (g:Unit->BY ρ):BY ρ :=
  ifb (ilt a d) (â b a fun h=>ifb (ieq c h) (f a) (ck (a+(1:Int)) fun i=>e i)) (g ())
def wo (a:an) (b:Int) (k:Int->BY ρ):BY ρ :=
  Ë (fun(c:Int) d=>ψ a b (Õ a) c (fun e=>d e) (fun f=>k f) (fun _=>k (-1:Int))) (0:Int)
def iT (a:an) (b:Int):BY (Int):=wo a b some
def qf (a:an) (b:Int) (k:Bool->BY ρ):BY ρ :=
  Å (iT a b) fun c=>k (ige c 0)
def ç (a:an) (b:Int):BY (Bool):=qf a b some
def yj (f:c7) (g:Int) (d:Int) (a:Int) (b:an) (e:Int->an->BY ρ) (h:an->BY ρ):BY ρ :=
  ifb (ilt a g) (â f a fun c=>Å (ç c.2.2.1 d) fun i=>Å (ç c.2.2.2.1 d) fun j=>ifb (!(i==j)) (à (ä ((List.length b)+(List.length ([c.2.1])))) (ck (a+(1:Int)) fun k=>e k (b++([c.2.1])))) (ck (a+(1:Int)) fun l=>e l b)) (h b)
def yi (e:bl) (f:Int) (g:Int) (a:Int) (b:an) (d:Int->an->BY ρ) (h:an->BY ρ):BY ρ :=
  ifb (ilt a f) (â e a fun c=>ifb (ieq c.1 g) (à (ä ((List.length b)+(List.length ([c.2])))) (ck (a+(1:Int)) fun i=>d i (b++([c.2])))) (ck (a+(1:Int)) fun j=>d j b)) (h b)
def adY (a:b6) (b:pc) (k:an->BY ρ):BY ρ :=
  Ë (fun(d:f4) f=>yj a.2.2.2.2.1 (Õ a.2.2.2.2.1) b.1 d.1 d.2 (fun g h=>f (g,h)) (fun i=>Ë (fun(e:f4) j=>yi a.2.2.2.2.2 (Õ a.2.2.2.2.2) b.1 e.1 e.2 (fun l m=>j (l,m)) (fun c=>à (ä (List.length c)) (à (ä (List.length (zB c))) (k (CF (zB c)))))) ((0:Int),i))) ((0:Int),[b.2.1])
def qQ (a:b6) (b:pc):BY (an):=adY a b some
def uI (e:an) (f:Int) (c:Int) (a:Int) (b:bl) (g:Int->bl->BY ρ) (h:bl->BY ρ):BY ρ :=
  ifb (ilt a f) (â e a fun d=>à (ä ((List.length b)+(List.length ([(c,d)])))) (ck (a+(1:Int)) fun i=>g i (b++([(c,d)])))) (h b)
def uJ (f:fy) (g:Int) (h:Int) (i:Int) (j:fy) (k:bl) (l:fx) (m:c7) (n:bl) (a:Int) (b:bl) (o:Int->bl->BY ρ) (p:bl->BY ρ):BY ρ :=
  ifb (ilt a g) (â f a fun c=>Å (qQ ((h,i),j,k,l,m,n) c) fun d=>Ë (fun(e:nj) q=>uI d (Õ d) c.1 e.1 e.2 (fun r s=>q (r,s)) (fun t=>ck (a+(1:Int)) fun u=>o u t)) ((0:Int),b)) (p b)
def ZS (a:b6) (k:bl->BY ρ):BY ρ :=
  Ë (fun(b:nj) c=>uJ a.2.1 (Õ a.2.1) a.1.1 a.1.2 a.2.1 a.2.2.1 a.2.2.2.1 a.2.2.2.2.1 a.2.2.2.2.2 b.1 b.2 (fun d e=>c (d,e)) (fun f=>k f)) ((0:Int),[])
def sN (a:b6):BY (bl):=ZS a some
def Es (a:rd) (b:Int) (c:Int) (k:Int->BY ρ):BY ρ :=
  Rh (k:=tI) (v:=Ú) b a (fun d=>ifb (ilt c d.2.1) (k (4:Int)) (k (0:Int))) (k (5:Int))
def jI (a:rd) (b:Int) (c:Int):BY (Int):=Es a b c some
def PX (b:Int) (a:Int) (c:(Val (.ptr ar))) (k:Int->BY ρ):BY ρ :=
  Å (np a) fun d=>ifb (!d) (k (1:Int)) (Å (jI c b a) fun e=>k e)
def ņ (a:Int) (b:Int) (c:(Val (.ptr ar))):BY (Int):=PX a b c some
def l8 (d:fx) (e:Int) (f:Int) (g:Int) (h:Int) (a:Int) (b:Int->BY ρ) (i:Int->BY ρ) (j:Unit->BY ρ):BY ρ :=
  ifb (ilt a e) (â d a fun c=>ifb (ieq c.1 f) (ifb (ile c.2.1.1 h) (ifb (ile g c.2.1.2) (i a) (ck (a+(1:Int)) fun k=>b k)) (ck (a+(1:Int)) fun l=>b l)) (ck (a+(1:Int)) fun m=>b m)) (j ())
def Ι (d:bl) (e:Int) (f:Int) (g:Int) (h:Int) (a:Int) (b:Int->BY ρ) (i:Int->BY ρ) (j:Unit->BY ρ):BY ρ :=
  ifb (ilt a e) (â d a fun c=>ifb (ieq c.1 f) (Å (ĝ c.2 g h) fun k=>ifb k (i a) (ck (a+(1:Int)) fun l=>b l)) (ck (a+(1:Int)) fun m=>b m)) (j ())
def yk (b:b6) (e:rd) (c:Int) (k:Int->BY ρ):BY ρ :=
  â b.2.2.2.1 c fun a=>Å (Κ a.2.1 (0:Int) (20000:Int)) fun f=>ifb (!f) (k (1:Int)) (Å (ĝ a.2.2 (0:Int) (1048576:Int)) fun g=>ifb (!g) (k (1:Int)) (Å (jI e a.1 a.2.1.1) fun d=>ifb (ine d 0) (k d) (à ((ile 0 c)&&(ile c (î b.2.2.2.1))) (Ë (fun(h:Int) i=>l8 (List.take (Int.toNat c) b.2.2.2.1) (Õ (List.take (Int.toNat c) b.2.2.2.1)) a.1 a.2.1.1 a.2.1.2 h (fun j=>i j) (fun l=>ifb (ige l 0) (k (9:Int)) (Ë (fun(m:Int) n=>Ι b.2.2.1 (Õ b.2.2.1) a.1 a.2.1.1 a.2.1.2 m (fun o=>n o) (fun p=>ifb (ige p 0) (k (9:Int)) (k (0:Int))) (fun _=>k (0:Int))) (0:Int))) (fun _=>Ë (fun(q:Int) r=>Ι b.2.2.1 (Õ b.2.2.1) a.1 a.2.1.1 a.2.1.2 q (fun s=>r s) (fun t=>ifb (ige t 0) (k (9:Int)) (k (0:Int))) (fun _=>k (0:Int))) (0:Int))) (0:Int)))))
def ε (a:b6) (b:rd) (c:Int):BY (Int):=yk a b c some
def qK (e:an) (f:an) (g:Int) (a:Int) (b:Int->BY ρ) (c:Bool->BY ρ) (h:Unit->BY ρ):BY ρ :=
  ifb (ilt a g) (â f a fun d=>Å (ĝ d (1:Int) (1099511627776:Int)) fun i=>ifb (!i) (c false) (ifb (igt a 0) (ck (a-(1:Int)) fun j=>â e j fun k=>ifb (ile d k) (c false) (ck (a+(1:Int)) fun l=>b l)) (ck (a+(1:Int)) fun m=>b m))) (h ())
def Uo (a:an) (k:Bool->BY ρ):BY ρ :=
  Ë (fun(b:Int) c=>qK a a (Õ a) b (fun d=>c d) (fun e=>k e) (fun _=>k (ile (Õ a) 6))) (0:Int)
def ow (a:an):BY (Bool):=Uo a some
def yh (c:Int) (d:an) (b:an) (a:Int) (e:Int->BY ρ) (f:Int->BY ρ) (g:Unit->BY ρ):BY ρ :=
  ifb (ilt a c) (à ((ile 0 a)&&(ilt a (î b))) (Į b (Int.toNat a) fun h=>Å (ç d h) fun i=>ifb i (f a) (ck (a+(1:Int)) fun j=>e j))) (g ())
def mg (f:an) (b:Int) (c:Int) (a:an) (d:Int->Int->an->BY ρ) (g:f4->BY ρ):BY ρ :=
  ifb (ilt c (Õ a)) (à ((ile 0 c)&&(ilt c (î a))) (Į a (Int.toNat c) fun e=>Å (ç f e) fun h=>ifb (!h) (à ((ile 0 b)&&(ilt b (î a))) (Į a (Int.toNat b) fun l=>ck (b+(1:Int)) fun i=>ck (c+(1:Int)) fun j=>d i j (List.set a (Int.toNat b) e))) (ck (c+(1:Int)) fun k=>d b k a))) (g (b,a))
def adX (b:an) (e:an) (k:an->BY ρ):BY ρ :=
  à (ä (List.length b)) (Ë (fun(f:Int) g=>yh (Õ b) e b f (fun h=>g h) (fun c=>ifb (ieq c (-1:Int)) (k b) (ck (c+(1:Int)) fun i=>Ë (fun(d:Val bg) j=>mg e d.1 d.2.1 d.2.2 (fun l m n=>j (l,m,n)) (fun a=>à ((ile 0 a.1)&&(ile a.1 (î a.2))) (à ((ile 0 a.1)&&(ile a.1 (î (List.take (Int.toNat a.1) a.2++List.replicate (List.length a.2-(Int.toNat a.1)) (0:Int)++List.drop ((Int.toNat a.1)+(List.length a.2-(Int.toNat a.1))) a.2)))) (k (List.take (Int.toNat a.1) (List.drop 0 (List.take (Int.toNat a.1) a.2++List.replicate (List.length a.2-(Int.toNat a.1)) (0:Int)++List.drop ((Int.toNat a.1)+(List.length a.2-(Int.toNat a.1))) a.2))))))) (c,i,b))) (fun _=>k b)) (0:Int))
def δ (a:an) (b:an):BY (an):=adX a b some
def yl (d:fx) (e:Int) (f:Int) (g:Int) (a:Int) (c:Int->BY ρ) (h:Int->BY ρ) (i:Unit->BY ρ):BY ρ :=
  ifb (ilt a e) (â d a fun b=>ifb (ieq b.1 f) (Å (ĝ g b.2.1.1 b.2.1.2) fun j=>ifb j (h a) (ck (a+(1:Int)) fun k=>c k)) (ck (a+(1:Int)) fun l=>c l)) (i ())
def adZ (a:b6) (c:Int) (d:Int) (k:r8->BY ρ):BY ρ :=
  Ë (fun(e:Int) f=>yl a.2.2.2.1 (Õ a.2.2.2.1) c d e (fun g=>f g) (fun b=>ifb (ilt b 0) (k (((0:Int),((0:Int),(0:Int)),(0:Int)),false)) (â a.2.2.2.1 b fun h=>k (h,true))) (fun _=>k (((0:Int),((0:Int),(0:Int)),(0:Int)),false))) (0:Int)
def yF (a:b6) (b:Int) (c:Int):BY (r8):=adZ a b c some
def jn (b:c7) (c:Int) (d:Int) (a:Int) (e:Int->BY ρ) (f:Int->BY ρ) (g:Unit->BY ρ):BY ρ :=
  ifb (ilt a c) (â b a fun h=>ifb (ieq h.1 d) (f a) (ck (a+(1:Int)) fun i=>e i)) (g ())
def jm (c:rd) (b:Int) (d:an) (e:Int) (f:Int) (a:Int) (g:Int->BY ρ) (h:Int->BY ρ) (i:Unit->BY ρ):BY ρ :=
  ifb (ilt a e) (â d a fun j=>Å (jI c j f) fun k=>ifb (ieq k b) (h b) (ck (a+(1:Int)) fun l=>g l)) (i ())
def œ (d:rd) (b:an) (e:Int) (f:Int) (c:an) (a:Int) (g:Int->BY ρ) (h:Int->BY ρ) (i:Unit->BY ρ):BY ρ :=
  ifb (ilt a e) (à ((ile 0 a)&&(ilt a (î c))) (Į c (Int.toNat a) fun j=>Ë (fun(k:Int) l=>jm d j b (Õ b) f k (fun m=>l m) (fun n=>h n) (fun _=>ck (a+(1:Int)) fun o=>g o)) (0:Int))) (i ())
def Œ (b:an) (c:Int) (d:Int) (e:Int) (f:fy) (g:bl) (h:fx) (i:c7) (j:bl) (k:Int) (a:Int) (l:Int->BY ρ) (m:Int->BY ρ) (n:Unit->BY ρ):BY ρ :=
  ifb (ilt a c) (â b a fun o=>Å (yF ((d,e),f,g,h,i,j) o k) fun p=>ifb p.2 (m (9:Int)) (ck (a+(1:Int)) fun q=>l q)) (n ())
def pX (b:b6) (f:rd) (c:Int) (k:Int->BY ρ):BY ρ :=
  â b.2.2.2.2.1 c fun a=>Å (ĝ a.1 (1:Int) (1099511627776:Int)) fun l=>ifb (!l) (k (1:Int)) (Å (np a.2.1) fun m=>ifb (!m) (k (1:Int)) (Å (ĝ a.2.2.2.2.1 (-1125899906842624:Int) (1125899906842624:Int)) fun n=>ifb (!n) (k (1:Int)) (Å (ĝ a.2.2.2.2.2.1 (0:Int) (1073741824:Int)) fun o=>ifb (!o) (k (1:Int)) (Å (Κ a.2.2.2.2.2.2 (-10000:Int) (10000:Int)) fun p=>ifb (!p) (k (1:Int)) (Å (ow a.2.2.1) fun q=>ifb (!q) (k (1:Int)) (Å (ow a.2.2.2.1) fun r=>ifb (!r) (k (1:Int)) (à ((ile 0 c)&&(ile c (î b.2.2.2.2.1))) (Ë (fun(s:Int) t=>jn (List.take (Int.toNat c) b.2.2.2.2.1) (Õ (List.take (Int.toNat c) b.2.2.2.2.1)) a.1 s (fun u=>t u) (fun v=>ifb (ige v 0) (k (6:Int)) (Å (Ĭ ([a.2.2.1,a.2.2.2.1])) fun d=>Ë (fun(w:Int) x=>œ f d (Õ ([(5:Int),(4:Int)])) a.2.1 ([(5:Int),(4:Int)]) w (fun y=>x y) (fun z=>k z) (fun _=>Ë (fun(A:Int) B=>Œ d (Õ d) b.1.1 b.1.2 b.2.1 b.2.2.1 b.2.2.2.1 b.2.2.2.2.1 b.2.2.2.2.2 a.2.1 A (fun C=>B C) (fun D=>k D) (fun _=>Å (δ a.2.2.1 a.2.2.2.1) fun g=>Å (δ a.2.2.2.1 a.2.2.1) fun h=>ifb (igt (Õ g) 1) (k (1:Int)) (ifb (igt (Õ h) 1) (k (1:Int)) (ck ((Õ g)+(Õ h)) fun E=>ifb (ieq E 0) (k (1:Int)) (k (0:Int)))))) (0:Int))) (0:Int))) (fun _=>Å (Ĭ ([a.2.2.1,a.2.2.2.1])) fun e=>Ë (fun(F:Int) G=>œ f e (Õ ([(5:Int),(4:Int)])) a.2.1 ([(5:Int),(4:Int)]) F (fun H=>G H) (fun I=>k I) (fun _=>Ë (fun(J:Int) K=>Œ e (Õ e) b.1.1 b.1.2 b.2.1 b.2.2.1 b.2.2.2.1 b.2.2.2.2.1 b.2.2.2.2.2 a.2.1 J (fun L=>K L) (fun M=>k M) (fun _=>Å (δ a.2.2.1 a.2.2.2.1) fun i=>Å (δ a.2.2.2.1 a.2.2.1) fun j=>ifb (igt (Õ i) 1) (k (1:Int)) (ifb (igt (Õ j) 1) (k (1:Int)) (ck ((Õ i)+(Õ j)) fun N=>ifb (ieq N 0) (k (1:Int)) (k (0:Int)))))) (0:Int))) (0:Int))) (0:Int)))))))))
def Ō (a:b6) (b:rd) (c:Int):BY (Int):=pX a b c some
def pJ (b:b6) (s:rd):BY (CK Int) :=
  Å (N3 (fun u=>ņ u.1 u.2 s) (b.2.2.1:CK (Int×Int))) fun a=>Å (N3 (fun i=>ε b s i) (zx (b.2.2.2.1:CK u6).length)) fun c =>
    Å (N3 (fun i=>Ō b s i) (zx (b.2.2.2.2.1:CK io).length)) fun d=>Å (N3 (fun u=>ņ u.1 u.2 s) (b.2.2.2.2.2:CK (Int×Int))) fun e=>some (a++(c++(d++e)))
def P4 (a:b6) (k:Int->BY ρ):BY ρ :=
  Å (Κ a.1 (0:Int) (1000000:Int)) fun d=>ifb (!d) (k (1:Int)) (ifb (igt (Õ a.2.1) 12) (k (2:Int)) (ifb (igt (Õ a.2.2.1) 40) (k (2:Int)) (ifb (igt (Õ a.2.2.2.1) 12) (k (2:Int)) (ifb (igt (Õ a.2.2.2.2.1) 40) (k (2:Int)) (ifb (igt (Õ a.2.2.2.2.2) 10) (k (2:Int)) (Å (Ż a) fun b=>ifb (ine b 0) (k b) (Å (Ņ a) fun e=>Yc (pJ a e) (fun f=>k f) (Å (sN a) fun c=>ifb (igt (Õ c) 59) (k (2:Int)) (ck ((2:Int)*(Õ a.2.1)) fun g=>ck ((Õ c)-(Õ a.2.1)) fun h=>ck ((2:Int)*h) fun i=>ck (g+i) fun j=>ck ((2:Int)*(Õ a.2.2.2.2.1)) fun l=>ck (j+l) fun m=>ifb (igt m 300) (k (2:Int)) (k (0:Int)))))))))))
def ż (a:b6):BY (Int):=P4 a some
def IA (a:CK Int):BY (Int×Int×Int×Int×Int):=some (a.getD 0 0,a.getD 1 0,a.getD 2 0,a.getD 3 0,a.getD 4 0)
def qo (b:c7) (a:Int) (e:Int->BY ρ) (c:Bool->BY ρ) (d:Unit->BY ρ):BY ρ :=
  ifb (ilt a (Õ b)) (ifb (ilt a 60) (â b a fun f=>ifb (igt (Õ f.2.2.1) 9) (c false) (â b a fun g=>ifb (igt (Õ g.2.2.2.1) 9) (c false) (ck (a+(1:Int)) fun h=>e h))) (d ())) (d ())
def mN (b:c9) (a:Int) (d:Int->BY ρ) (e:Bool->BY ρ) (c:Unit->BY ρ):BY ρ :=
  ifb (ilt a (Õ b)) (ifb (ilt a 8) (â b a fun f=>ifb (igt (Õ f.2) 9) (e false) (ck (a+(1:Int)) fun g=>d g)) (c ())) (c ())
def TQ (a:a8) (k:Bool->BY ρ):BY ρ :=
  Ë (fun(b:Int) c=>qo a.1.2.2.2.2.1 b (fun d=>c d) (fun e=>k e) (fun _=>Ë (fun(f:Int) g=>mN a.2 f (fun h=>g h) (fun i=>k i) (fun _=>ifb (ile (Õ a.1.2.1) 6) (ifb (ile (Õ a.1.2.2.1) 20) (ifb (ile (Õ a.1.2.2.2.1) 6) (ifb (ile (Õ a.1.2.2.2.2.1) 8) (ifb (ile (Õ a.1.2.2.2.2.2) 6) (k (ile (Õ a.2) 6)) (k false)) (k false)) (k false)) (k false)) (k false))) (0:Int))) (0:Int)
def Cn (a:a8):BY (Bool):=TQ a some
def uM (b:an) (c:Int) (a:Int) (d:Int->BY ρ) (e:Int->BY ρ) (f:Unit->BY ρ):BY ρ :=
  ifb (ilt a c) (â b a fun g=>Å (np g) fun h=>ifb (!h) (e a) (ck (a+(1:Int)) fun i=>d i)) (f ())
def ZX (a:b6) (b:Int) (c:an) (k:Int->BY ρ):BY ρ :=
  Å (ż a) fun d=>ifb (ine d 0) (k d) (Ë (fun(e:Int) f=>uM c (Õ c) e (fun g=>f g) (fun h=>ifb (ige h 0) (k (1:Int)) (Å (Ņ a) fun i=>Rh (k:=tI) (v:=Ú) b i (fun l=>k (0:Int)) (k (5:Int)))) (fun _=>Å (Ņ a) fun j=>Rh (k:=tI) (v:=Ú) b j (fun m=>k (0:Int)) (k (5:Int)))) (0:Int))
def IU (a:b6) (b:Int) (c:an):BY (Int):=ZX a b c some
def ad2 (a:b6) (b:Int) (c:Int) (k:v8->BY ρ):BY ρ :=
  Å (IU a b ([c])) fun d=>ifb (ine d 0) (k (false,d)) (Å (yF a b c) fun e=>k (e.2,(0:Int)))
def CC (a:b6) (b:Int) (c:Int):BY (v8):=ad2 a b c some
def oZ (b:an) (a:Int) (c:Int->BY ρ) (d:Int->BY ρ) (e:Unit->BY ρ):BY ρ :=
  ifb (ilt a (Õ b)) (â b a fun f=>ck (a-(1:Int)) fun g=>â b g fun h=>ifb (ile f h) (d (1:Int)) (ck (a+(1:Int)) fun i=>c i)) (e ())
def oY (d:fy) (e:Int) (a:Int) (b:Val bj) (f:Int->Val bj->BY ρ) (g:Val bj->BY ρ):BY ρ :=
  ifb (ilt a e) (â d a fun c=>ck (a+(1:Int)) fun h=>f h (TM (k:=tI) (v:=tI) c.1 c.2.1 b)) (g b)
def oX (b:an) (c:Int) (d:Val bj) (a:Int) (e:Int->BY ρ) (f:Int->BY ρ) (g:Unit->BY ρ):BY ρ :=
  ifb (ilt a c) (â b a fun h=>Rh (k:=tI) (v:=tI) h d (fun j=>ck (a+(1:Int)) fun i=>e i) (f a)) (g ())
def mo (e:an) (f:Int) (b:Int) (g:Val bj) (a:Int) (c:Int->BY ρ) (d:Int->BY ρ) (h:Unit->BY ρ):BY ρ :=
  ifb (ilt a f) (â e a fun i=>Rh (k:=tI) (v:=tI) i g (fun j=>ifb (ilt b j) (d a) (ck (a+(1:Int)) fun l=>c l)) (ifb (ilt b 0) (d a) (ck (a+(1:Int)) fun m=>c m))) (h ())
def Ŋ (l:an) (m:Int) (b:Int) (c:Int) (d:fy) (e:bl) (f:fx) (g:c7) (h:bl) (i:Int) (a:Int) (n:Int->BY ρ) (j:Int->BY ρ) (o:Unit->BY ρ):BY ρ :=
  ifb (ilt a m) (â l a fun k=>Å (CC ((b,c),d,e,f,g,h) k i) fun p=>ck (i+(1:Int)) fun q=>Å (CC ((b,c),d,e,f,g,h) k q) fun r=>ifb p.1 (j a) (ifb r.1 (j a) (ck (a+(1:Int)) fun s=>n s))) (o ())
def Ot (a:b6) (d:c9) (c:Int) (k:Int->BY ρ):BY ρ :=
  â d c fun b=>ifb (ilt b.1 0) (k (1:Int)) (ifb (ige b.1 20000) (k (1:Int)) (ifb (ilt (Õ b.2) 2) (k (1:Int)) (ifb (igt (Õ b.2) 5) (k (1:Int)) (Ë (fun(g:Int) h=>oZ b.2 g (fun i=>h i) (fun j=>k j) (fun _=>Ë (fun(f:(Val (.pair tI bj))) l=>oY a.2.1 (Õ a.2.1) f.1 f.2 (fun m n=>l (m,n)) (fun e=>Ë (fun(o:Int) p=>oX b.2 (Õ b.2) e o (fun q=>p q) (fun r=>ifb (ige r 0) (k (5:Int)) (Ë (fun(s:Int) t=>mo b.2 (Õ b.2) b.1 e s (fun u=>t u) (fun v=>ifb (ige v 0) (k (4:Int)) (ifb (igt c 0) (ck (c-(1:Int)) fun w=>â d w fun x=>ifb (ile b.1 x.1) (k (6:Int)) (Ë (fun(y:Int) z=>Ŋ b.2 (Õ b.2) a.1.1 a.1.2 a.2.1 a.2.2.1 a.2.2.2.1 a.2.2.2.2.1 a.2.2.2.2.2 b.1 y (fun A=>z A) (fun B=>ifb (ige B 0) (k (9:Int)) (k (0:Int))) (fun _=>k (0:Int))) (0:Int))) (Ë (fun(C:Int) D=>Ŋ b.2 (Õ b.2) a.1.1 a.1.2 a.2.1 a.2.2.1 a.2.2.2.1 a.2.2.2.2.1 a.2.2.2.2.2 b.1 C (fun E=>D E) (fun F=>ifb (ige F 0) (k (9:Int)) (k (0:Int))) (fun _=>k (0:Int))) (0:Int)))) (fun _=>ifb (igt c 0) (ck (c-(1:Int)) fun G=>â d G fun H=>ifb (ile b.1 H.1) (k (6:Int)) (Ë (fun(I:Int) J=>Ŋ b.2 (Õ b.2) a.1.1 a.1.2 a.2.1 a.2.2.1 a.2.2.2.1 a.2.2.2.2.1 a.2.2.2.2.2 b.1 I (fun K=>J K) (fun L=>ifb (ige L 0) (k (9:Int)) (k (0:Int))) (fun _=>k (0:Int))) (0:Int))) (Ë (fun(M:Int) N=>Ŋ b.2 (Õ b.2) a.1.1 a.1.2 a.2.1 a.2.2.1 a.2.2.2.1 a.2.2.2.2.1 a.2.2.2.2.2 b.1 M (fun O=>N O) (fun P=>ifb (ige P 0) (k (9:Int)) (k (0:Int))) (fun _=>k (0:Int))) (0:Int)))) (0:Int))) (fun _=>Ë (fun(Q:Int) R=>mo b.2 (Õ b.2) b.1 e Q (fun S=>R S) (fun T=>ifb (ige T 0) (k (4:Int)) (ifb (igt c 0) (ck (c-(1:Int)) fun U=>â d U fun V=>ifb (ile b.1 V.1) (k (6:Int)) (Ë (fun(W:Int) X=>Ŋ b.2 (Õ b.2) a.1.1 a.1.2 a.2.1 a.2.2.1 a.2.2.2.1 a.2.2.2.2.1 a.2.2.2.2.2 b.1 W (fun Y=>X Y) (fun Z=>ifb (ige Z 0) (k (9:Int)) (k (0:Int))) (fun _=>k (0:Int))) (0:Int))) (Ë (fun(dc:Int) de=>Ŋ b.2 (Õ b.2) a.1.1 a.1.2 a.2.1 a.2.2.1 a.2.2.2.1 a.2.2.2.2.1 a.2.2.2.2.2 b.1 dc (fun df=>de df) (fun dg=>ifb (ige dg 0) (k (9:Int)) (k (0:Int))) (fun _=>k (0:Int))) (0:Int)))) (fun _=>ifb (igt c 0) (ck (c-(1:Int)) fun dh=>â d dh fun di=>ifb (ile b.1 di.1) (k (6:Int)) (Ë (fun(dj:Int) dk=>Ŋ b.2 (Õ b.2) a.1.1 a.1.2 a.2.1 a.2.2.1 a.2.2.2.1 a.2.2.2.2.1 a.2.2.2.2.2 b.1 dj (fun dl=>dk dl) (fun dm=>ifb (ige dm 0) (k (9:Int)) (k (0:Int))) (fun _=>k (0:Int))) (0:Int))) (Ë (fun(dp:Int) dq=>Ŋ b.2 (Õ b.2) a.1.1 a.1.2 a.2.1 a.2.2.1 a.2.2.2.1 a.2.2.2.2.1 a.2.2.2.2.2 b.1 dp (fun dr=>dq dr) (fun dt=>ifb (ige dt 0) (k (9:Int)) (k (0:Int))) (fun _=>k (0:Int))) (0:Int)))) (0:Int))) (0:Int))) ((0:Int),[]))) (1:Int)))))
def IC (a:b6) (b:c9) (c:Int):BY (Int):=Ot a b c some
def o8 (c:Int) (b:Int) (a:Int) (d:Int->Int->BY ρ) (e:Int->BY ρ):BY ρ :=
  ifb (ilt a c) (ck (a+(1:Int)) fun f=>ck (b*f) fun g=>ck (a+(1:Int)) fun h=>d g h) (e b)
def tW (e:c9) (f:Int) (g:Int) (h:Int) (i:fy) (j:bl) (k:fx) (l:c7) (m:bl) (n:c9) (b:Int) (a:Int) (o:Int->Int->BY ρ) (p:Int->BY ρ) (q:Int->BY ρ):BY ρ :=
  ifb (ilt a f) (â e a fun r=>Å (IC ((g,h),i,j,k,l,m) n a) fun c=>ifb (ine c 0) (p c) (Ë (fun(d:bx) s=>o8 (Õ r.2) d.1 d.2 (fun t u=>s (t,u)) (fun v=>ck (a+(1:Int)) fun w=>o v w)) (b,(0:Int)))) (q b)
def Zd (a:a8) (k:Int->BY ρ):BY ρ :=
  Å (ż a.1) fun b=>ifb (ine b 0) (k b) (ifb (igt (Õ a.2) 4) (k (2:Int)) (Ë (fun(c:bx) d=>tW a.2 (Õ a.2) a.1.1.1 a.1.1.2 a.1.2.1 a.1.2.2.1 a.1.2.2.2.1 a.1.2.2.2.2.1 a.1.2.2.2.2.2 a.2 c.1 c.2 (fun e f=>d (e,f)) (fun g=>k g) (fun h=>ifb (igt h 150) (k (2:Int)) (k (0:Int)))) ((1:Int),(0:Int))))
def iS (a:a8):BY (Int):=Zd a some
def Bj (a:Int) (k:Bool->BY ρ):BY ρ :=
  k (ine a a)
def nl (a:Int):BY (Bool):=Bj a some
def wD (a:Int) (b:Int) (k:Int->BY ρ):BY ρ :=
  Å (nl a) fun d=>Å (nl b) fun c=>ifb d (ifb c (k (0:Int)) (k (-1:Int))) (ifb c (k (1:Int)) (ifb (ilt a b) (k (-1:Int)) (ifb (igt a b) (k (1:Int)) (k (0:Int)))))
def iV (a:Int) (b:Int):BY (Int):=wD a b some
def qq (d:Int) (e:an) (f:Int) (g:c9) (b:Int) (a:Int) (c:Int->Int->BY ρ) (h:Int->BY ρ):BY ρ :=
  ifb (ilt a f) (â e a fun i=>â g d fun j=>â j.2 a fun k=>ifb (ine k i) (ck (b+(1:Int)) fun l=>ck (a+(1:Int)) fun m=>c l m) (ck (a+(1:Int)) fun n=>c b n)) (h b)
def qr (e:b5) (f:Int) (g:c9) (b:Int) (a:Int) (h:Int->Int->BY ρ) (i:Int->BY ρ):BY ρ :=
  ifb (ilt a f) (â e a fun c=>Ë (fun(d:bx) j=>qq a c (Õ c) g d.1 d.2 (fun k l=>j (k,l)) (fun m=>ck (a+(1:Int)) fun n=>h m n)) (b,(0:Int))) (i b)
def TS (c:a8) (a:b5) (k:Int->BY ρ):BY ρ :=
  Ë (fun(b:bx) d=>qr a (Õ a) c.2 b.1 b.2 (fun e f=>d (e,f)) (fun g=>k g)) ((0:Int),(0:Int))
def ĺ (a:a8) (b:b5):BY (Int):=TS a b some
def TT (b:b5) (c:b5) (a:Val ay) (k:Int->BY ρ):BY ρ :=
  Å (ĺ a b) fun d=>Å (ĺ a c) fun e=>Å (iV d e) fun f=>k f
def kS (a:b5) (b:b5) (c:Val ay):BY (Int):=TT a b c some
def ë (h:Int) (i:Int) (j:Int) (k:fy) (l:bl) (m:fx) (n:c7) (o:bl) (p:c9) (a:Int) (b:a7) (q:Int->a7->BY ρ) (g:a7->BY ρ):BY ρ :=
  ifb (igt a h) (à ((ile 0 a)&&(ilt a (î b))) (Į b (Int.toNat a) fun r=>ck (a-(1:Int)) fun d=>à ((ile 0 d)&&(ilt d (î b))) (Į b (Int.toNat d) fun s=>Å (kS r s (((i,j),k,l,m,n,o),p)) fun t=>ifb (ilt t 0) (ck (a-(1:Int)) fun c=>ck (a-(1:Int)) fun e=>à ((ile 0 e)&&(ilt e (î b))) (Į b (Int.toNat e) fun f=>à ((ile 0 a)&&(ilt a (î b))) (Į b (Int.toNat a) fun u=>à ((ile 0 a)&&(ilt a (î b))) (Į b (Int.toNat a) fun w=>à ((ile 0 c)&&(ilt c (î (List.set b (Int.toNat a) f)))) (Į (List.set b (Int.toNat a) f) (Int.toNat c) fun x=>ck (a-(1:Int)) fun v=>q v (List.set (List.set b (Int.toNat a) f) (Int.toNat c) u)))))) (g b)))) (g b)
def ē (d:Int) (e:Int) (f:Int) (g:Int) (h:fy) (i:bl) (j:fx) (k:c7) (l:bl) (m:c9) (a:Int) (b:a7) (n:Int->a7->BY ρ) (o:a7->BY ρ):BY ρ :=
  ifb (ilt a e) (Ë (fun(c:im) p=>ë d f g h i j k l m c.1 c.2 (fun q r=>p (q,r)) (fun s=>ck (a+(1:Int)) fun t=>n t s)) (a,b)) (o b)
def ŭ (c:a7) (a:Int) (d:Int) (mm:a8) (k:(a7)×a8->BY ρ):BY ρ :=
  ck (a+(1:Int)) fun e=>Ë (fun(b:im) f=>ē a d mm.1.1.1 mm.1.1.2 mm.1.2.1 mm.1.2.2.1 mm.1.2.2.2.1 mm.1.2.2.2.2.1 mm.1.2.2.2.2.2 mm.2 b.1 b.2 (fun g h=>f (g,h)) (fun i=>k (i,mm))) (e,c)
def ê (a:a7) (b:Int) (c:Int) (mm:a8):BY ((a7)×a8):=ŭ a b c mm some
def Ē (h:Int) (i:Int) (j:Int) (b:Int) (a:a7) (k:Int->a7->BY ρ) (l:a7->BY ρ):BY ρ :=
  ifb (ilt b j) (ck (h+b) fun c=>ck (i+b) fun d=>ck (i+b) fun e=>à ((ile 0 e)&&(ilt e (î a))) (Į a (Int.toNat e) fun f=>ck (h+b) fun g=>à ((ile 0 g)&&(ilt g (î a))) (Į a (Int.toNat g) fun m=>à ((ile 0 c)&&(ilt c (î a))) (Į a (Int.toNat c) fun o=>à ((ile 0 d)&&(ilt d (î (List.set a (Int.toNat c) f)))) (Į (List.set a (Int.toNat c) f) (Int.toNat d) fun p=>ck (b+(1:Int)) fun n=>k n (List.set (List.set a (Int.toNat c) f) (Int.toNat d) m)))))) (l a)
def iO (h:Int) (i:Int) (j:Int) (b:Int) (a:a7) (k:Int->a7->BY ρ) (l:a7->BY ρ):BY ρ :=
  ifb (ilt b j) (ck (h+b) fun c=>ck (i+b) fun d=>ck (i+b) fun e=>à ((ile 0 e)&&(ilt e (î a))) (Į a (Int.toNat e) fun f=>ck (h+b) fun g=>à ((ile 0 g)&&(ilt g (î a))) (Į a (Int.toNat g) fun m=>à ((ile 0 c)&&(ilt c (î a))) (Į a (Int.toNat c) fun o=>à ((ile 0 d)&&(ilt d (î (List.set a (Int.toNat c) f)))) (Į (List.set a (Int.toNat c) f) (Int.toNat d) fun p=>ck (b+(1:Int)) fun n=>k n (List.set (List.set a (Int.toNat c) f) (Int.toNat d) m)))))) (l a)
def ĸ (c:Int) (a:Int) (b:Int) (d:a7) (e:Int->Int->a7->BY ρ) (h:im->BY ρ):BY ρ :=
  ifb (ine a b) (ifb (igt a b) (ck (c-a) fun i=>Ë (fun(f:im) j=>Ē i c b f.1 f.2 (fun k l=>j (k,l)) (fun m=>ck (a-b) fun n=>e n b m)) ((0:Int),d)) (ck (c-a) fun o=>ck (c+b) fun p=>ck (p-a) fun q=>Ë (fun(g:im) r=>iO o q a g.1 g.2 (fun s t=>r (s,t)) (fun u=>ck (b-a) fun v=>e a v u)) ((0:Int),d))) (h (a,d))
def iN (h:Int) (i:Int) (j:Int) (b:Int) (a:a7) (k:Int->a7->BY ρ) (l:a7->BY ρ):BY ρ :=
  ifb (ilt b j) (ck (h+b) fun c=>ck (i+b) fun d=>ck (i+b) fun e=>à ((ile 0 e)&&(ilt e (î a))) (Į a (Int.toNat e) fun f=>ck (h+b) fun g=>à ((ile 0 g)&&(ilt g (î a))) (Į a (Int.toNat g) fun m=>à ((ile 0 c)&&(ilt c (î a))) (Į a (Int.toNat c) fun o=>à ((ile 0 d)&&(ilt d (î (List.set a (Int.toNat c) f)))) (Į (List.set a (Int.toNat c) f) (Int.toNat d) fun p=>ck (b+(1:Int)) fun n=>k n (List.set (List.set a (Int.toNat c) f) (Int.toNat d) m)))))) (l a)
def jY (e:a7) (f:Int) (a:Int) (g:Int) (mm:a8) (k:(a7)×a8->BY ρ):BY ρ :=
  ck (a-f) fun h=>ck (g-a) fun i=>Ë (fun(b:x9) j=>ĸ a b.1 b.2.1 b.2.2 (fun l m n=>j (l,m,n)) (fun c=>ck (a-c.1) fun o=>Ë (fun(d:im) p=>iN o a c.1 d.1 d.2 (fun q r=>p (q,r)) (fun s=>k (s,mm))) ((0:Int),c.2))) (h,i,e)
def ļ (a:a7) (b:Int) (c:Int) (d:Int) (mm:a8):BY ((a7)×a8):=jY a b c d mm some
def Ā (rec:a7->Int->Int->Int->a8->BY (a7×a8)) (d:Int) (b:a7) (g:Int) (h:Int) (i:fy) (j:bl) (k:fx) (l:c7) (m:bl) (n:c9) (c:Int) (e:Int) (f:Int->Int->BY ρ) (o:Int->BY ρ):BY ρ :=
  ifb (ilt c e) (ck (c+e) fun a=>à ((ile 0 (IntKind.wrap .i64 (jd .u64 (IntKind.wrap .u64 a) (1:Int))))&&(ilt (IntKind.wrap .i64 (jd .u64 (IntKind.wrap .u64 a) (1:Int))) (î b))) (Į b (Int.toNat (IntKind.wrap .i64 (jd .u64 (IntKind.wrap .u64 a) (1:Int)))) fun p=>à ((ile 0 d)&&(ilt d (î b))) (Į b (Int.toNat d) fun q=>Å (kS p q (((g,h),i,j,k,l,m),n)) fun r=>ifb (ilt r 0) (ck ((IntKind.wrap .i64 (jd .u64 (IntKind.wrap .u64 a) (1:Int)))+(1:Int)) fun s=>f s e) (f c (IntKind.wrap .i64 (jd .u64 (IntKind.wrap .u64 a) (1:Int))))))) (o c)
def ô (rec:a7->Int->Int->Int->a8->BY (a7×a8)) (f:Int) (a:Int) (b:a7) (g:Int->a7->BY ρ) (h:a7->BY ρ):BY ρ :=
  ck (f-(1:Int)) fun i=>ifb (ilt a i) (ck (a+(1:Int)) fun c=>ck (a+(1:Int)) fun d=>à ((ile 0 d)&&(ilt d (î b))) (Į b (Int.toNat d) fun e=>à ((ile 0 a)&&(ilt a (î b))) (Į b (Int.toNat a) fun j=>à ((ile 0 a)&&(ilt a (î b))) (Į b (Int.toNat a) fun l=>à ((ile 0 c)&&(ilt c (î (List.set b (Int.toNat a) e)))) (Į (List.set b (Int.toNat a) e) (Int.toNat c) fun m=>ck (a+(1:Int)) fun k=>g k (List.set (List.set b (Int.toNat a) e) (Int.toNat c) j)))))) (h b)
def ÿ (rec:a7->Int->Int->Int->a8->BY (a7×a8)) (d:Int) (b:a7) (g:Int) (h:Int) (i:fy) (j:bl) (k:fx) (l:c7) (m:bl) (n:c9) (c:Int) (e:Int) (f:Int->Int->BY ρ) (o:Int->BY ρ):BY ρ :=
  ifb (ilt c e) (ck (c+e) fun a=>à ((ile 0 d)&&(ilt d (î b))) (Į b (Int.toNat d) fun p=>à ((ile 0 (IntKind.wrap .i64 (jd .u64 (IntKind.wrap .u64 a) (1:Int))))&&(ilt (IntKind.wrap .i64 (jd .u64 (IntKind.wrap .u64 a) (1:Int))) (î b))) (Į b (Int.toNat (IntKind.wrap .i64 (jd .u64 (IntKind.wrap .u64 a) (1:Int)))) fun q=>Å (kS p q (((g,h),i,j,k,l,m),n)) fun r=>ifb (!(ilt r 0)) (ck ((IntKind.wrap .i64 (jd .u64 (IntKind.wrap .u64 a) (1:Int)))+(1:Int)) fun s=>f s e) (f c (IntKind.wrap .i64 (jd .u64 (IntKind.wrap .u64 a) (1:Int))))))) (o c)
def ó (rec:a7->Int->Int->Int->a8->BY (a7×a8)) (f:Int) (a:Int) (b:a7) (g:Int->a7->BY ρ) (h:a7->BY ρ):BY ρ :=
  ifb (igt a f) (ck (a-(1:Int)) fun c=>ck (a-(1:Int)) fun d=>à ((ile 0 d)&&(ilt d (î b))) (Į b (Int.toNat d) fun e=>à ((ile 0 a)&&(ilt a (î b))) (Į b (Int.toNat a) fun i=>à ((ile 0 a)&&(ilt a (î b))) (Į b (Int.toNat a) fun k=>à ((ile 0 c)&&(ilt c (î (List.set b (Int.toNat a) e)))) (Į (List.set b (Int.toNat a) e) (Int.toNat c) fun l=>ck (a-(1:Int)) fun j=>g j (List.set (List.set b (Int.toNat a) e) (Int.toNat c) i)))))) (h b)
def ã (rec:a7->Int->Int->Int->a8->BY (a7×a8)) (g:Int) (b:a7) (h:Int) (i:Int) (j:fy) (k:bl) (l:fx) (m:c7) (n:bl) (o:c9) (c:Int) (d:Int) (f:Int->Int->BY ρ) (p:Int->BY ρ):BY ρ :=
  ifb (ilt c d) (ck (c+d) fun a=>ck (g-(IntKind.wrap .i64 (jd .u64 (IntKind.wrap .u64 a) (1:Int)))) fun e=>à ((ile 0 e)&&(ilt e (î b))) (Į b (Int.toNat e) fun q=>à ((ile 0 (IntKind.wrap .i64 (jd .u64 (IntKind.wrap .u64 a) (1:Int))))&&(ilt (IntKind.wrap .i64 (jd .u64 (IntKind.wrap .u64 a) (1:Int))) (î b))) (Į b (Int.toNat (IntKind.wrap .i64 (jd .u64 (IntKind.wrap .u64 a) (1:Int)))) fun r=>Å (kS q r (((h,i),j,k,l,m,n),o)) fun s=>ifb (!(ilt s 0)) (ck ((IntKind.wrap .i64 (jd .u64 (IntKind.wrap .u64 a) (1:Int)))+(1:Int)) fun t=>f t d) (f c (IntKind.wrap .i64 (jd .u64 (IntKind.wrap .u64 a) (1:Int))))))) (p c)
def ĩ (rec:a7->Int->Int->Int->a8->BY (a7×a8)) (c:a7) (f:Int) (g:Int) (b:Int) (mm:a8) (k:(a7)×a8->BY ρ):BY ρ :=
  ck (g-f) fun R=>ifb (ieq R 1) (Ë (fun(t:bx) S=>Ā rec f c mm.1.1.1 mm.1.1.2 mm.1.2.1 mm.1.2.2.1 mm.1.2.2.2.1 mm.1.2.2.2.2.1 mm.1.2.2.2.2.2 mm.2 t.1 t.2 (fun T U=>S (T,U)) (fun V=>Ë (fun(u:im) W=>ô rec V u.1 u.2 (fun X Y=>W (X,Y)) (fun Z=>k (Z,mm))) (f,c))) (g,b)) (ck (b-g) fun dc=>ifb (ieq dc 1) (Ë (fun(v:bx) de=>ÿ rec g c mm.1.1.1 mm.1.1.2 mm.1.2.1 mm.1.2.2.1 mm.1.2.2.2.1 mm.1.2.2.2.2.1 mm.1.2.2.2.2.2 mm.2 v.1 v.2 (fun df dg=>de (df,dg)) (fun dh=>Ë (fun(w:im) di=>ó rec dh w.1 w.2 (fun dj dk=>di (dj,dk)) (fun dl=>k (dl,mm))) (g,c))) (f,g)) (ck (f+b) fun a=>ck ((IntKind.wrap .i64 (jd .u64 (IntKind.wrap .u64 a) (1:Int)))+g) fun s=>ifb (igt g (IntKind.wrap .i64 (jd .u64 (IntKind.wrap .u64 a) (1:Int)))) (ck (s-b) fun dm=>ck (s-1) fun dp=>Ë (fun(x:bx) dq=>ã rec dp c mm.1.1.1 mm.1.1.2 mm.1.2.1 mm.1.2.2.1 mm.1.2.2.2.1 mm.1.2.2.2.2.1 mm.1.2.2.2.2.2 mm.2 x.1 x.2 (fun dr dt=>dq (dr,dt)) (fun j=>ck (s-j) fun d=>ifb (ilt j g) (ifb (ilt g d) (Å (ļ c j g d mm) fun h=>ifb (ilt f j) (ifb (ilt j (IntKind.wrap .i64 (jd .u64 (IntKind.wrap .u64 a) (1:Int)))) (Å (rec h.1 f j (IntKind.wrap .i64 (jd .u64 (IntKind.wrap .u64 a) (1:Int))) h.2) fun m=>ifb (ilt (IntKind.wrap .i64 (jd .u64 (IntKind.wrap .u64 a) (1:Int))) d) (ifb (ilt d b) (Å (rec m.1 (IntKind.wrap .i64 (jd .u64 (IntKind.wrap .u64 a) (1:Int))) d b m.2) fun y=>k (y.1,y.2)) (k (m.1,m.2))) (k (m.1,m.2))) (ifb (ilt (IntKind.wrap .i64 (jd .u64 (IntKind.wrap .u64 a) (1:Int))) d) (ifb (ilt d b) (Å (rec h.1 (IntKind.wrap .i64 (jd .u64 (IntKind.wrap .u64 a) (1:Int))) d b h.2) fun z=>k (z.1,z.2)) (k (h.1,h.2))) (k (h.1,h.2)))) (ifb (ilt (IntKind.wrap .i64 (jd .u64 (IntKind.wrap .u64 a) (1:Int))) d) (ifb (ilt d b) (Å (rec h.1 (IntKind.wrap .i64 (jd .u64 (IntKind.wrap .u64 a) (1:Int))) d b h.2) fun A=>k (A.1,A.2)) (k (h.1,h.2))) (k (h.1,h.2)))) (ifb (ilt f j) (ifb (ilt j (IntKind.wrap .i64 (jd .u64 (IntKind.wrap .u64 a) (1:Int)))) (Å (rec c f j (IntKind.wrap .i64 (jd .u64 (IntKind.wrap .u64 a) (1:Int))) mm) fun n=>ifb (ilt (IntKind.wrap .i64 (jd .u64 (IntKind.wrap .u64 a) (1:Int))) d) (ifb (ilt d b) (Å (rec n.1 (IntKind.wrap .i64 (jd .u64 (IntKind.wrap .u64 a) (1:Int))) d b n.2) fun B=>k (B.1,B.2)) (k (n.1,n.2))) (k (n.1,n.2))) (ifb (ilt (IntKind.wrap .i64 (jd .u64 (IntKind.wrap .u64 a) (1:Int))) d) (ifb (ilt d b) (Å (rec c (IntKind.wrap .i64 (jd .u64 (IntKind.wrap .u64 a) (1:Int))) d b mm) fun C=>k (C.1,C.2)) (k (c,mm))) (k (c,mm)))) (ifb (ilt (IntKind.wrap .i64 (jd .u64 (IntKind.wrap .u64 a) (1:Int))) d) (ifb (ilt d b) (Å (rec c (IntKind.wrap .i64 (jd .u64 (IntKind.wrap .u64 a) (1:Int))) d b mm) fun D=>k (D.1,D.2)) (k (c,mm))) (k (c,mm))))) (ifb (ilt f j) (ifb (ilt j (IntKind.wrap .i64 (jd .u64 (IntKind.wrap .u64 a) (1:Int)))) (Å (rec c f j (IntKind.wrap .i64 (jd .u64 (IntKind.wrap .u64 a) (1:Int))) mm) fun o=>ifb (ilt (IntKind.wrap .i64 (jd .u64 (IntKind.wrap .u64 a) (1:Int))) d) (ifb (ilt d b) (Å (rec o.1 (IntKind.wrap .i64 (jd .u64 (IntKind.wrap .u64 a) (1:Int))) d b o.2) fun E=>k (E.1,E.2)) (k (o.1,o.2))) (k (o.1,o.2))) (ifb (ilt (IntKind.wrap .i64 (jd .u64 (IntKind.wrap .u64 a) (1:Int))) d) (ifb (ilt d b) (Å (rec c (IntKind.wrap .i64 (jd .u64 (IntKind.wrap .u64 a) (1:Int))) d b mm) fun F=>k (F.1,F.2)) (k (c,mm))) (k (c,mm)))) (ifb (ilt (IntKind.wrap .i64 (jd .u64 (IntKind.wrap .u64 a) (1:Int))) d) (ifb (ilt d b) (Å (rec c (IntKind.wrap .i64 (jd .u64 (IntKind.wrap .u64 a) (1:Int))) d b mm) fun G=>k (G.1,G.2)) (k (c,mm))) (k (c,mm)))))) (dm,(IntKind.wrap .i64 (jd .u64 (IntKind.wrap .u64 a) (1:Int))))) (ck (s-1) fun du=>Ë (fun(H:bx) dv=>ã rec du c mm.1.1.1 mm.1.1.2 mm.1.2.1 mm.1.2.2.1 mm.1.2.2.2.1 mm.1.2.2.2.2.1 mm.1.2.2.2.2.2 mm.2 H.1 H.2 (fun dw dz=>dv (dw,dz)) (fun l=>ck (s-l) fun e=>ifb (ilt l g) (ifb (ilt g e) (Å (ļ c l g e mm) fun i=>ifb (ilt f l) (ifb (ilt l (IntKind.wrap .i64 (jd .u64 (IntKind.wrap .u64 a) (1:Int)))) (Å (rec i.1 f l (IntKind.wrap .i64 (jd .u64 (IntKind.wrap .u64 a) (1:Int))) i.2) fun p=>ifb (ilt (IntKind.wrap .i64 (jd .u64 (IntKind.wrap .u64 a) (1:Int))) e) (ifb (ilt e b) (Å (rec p.1 (IntKind.wrap .i64 (jd .u64 (IntKind.wrap .u64 a) (1:Int))) e b p.2) fun I=>k (I.1,I.2)) (k (p.1,p.2))) (k (p.1,p.2))) (ifb (ilt (IntKind.wrap .i64 (jd .u64 (IntKind.wrap .u64 a) (1:Int))) e) (ifb (ilt e b) (Å (rec i.1 (IntKind.wrap .i64 (jd .u64 (IntKind.wrap .u64 a) (1:Int))) e b i.2) fun J=>k (J.1,J.2)) (k (i.1,i.2))) (k (i.1,i.2)))) (ifb (ilt (IntKind.wrap .i64 (jd .u64 (IntKind.wrap .u64 a) (1:Int))) e) (ifb (ilt e b) (Å (rec i.1 (IntKind.wrap .i64 (jd .u64 (IntKind.wrap .u64 a) (1:Int))) e b i.2) fun K=>k (K.1,K.2)) (k (i.1,i.2))) (k (i.1,i.2)))) (ifb (ilt f l) (ifb (ilt l (IntKind.wrap .i64 (jd .u64 (IntKind.wrap .u64 a) (1:Int)))) (Å (rec c f l (IntKind.wrap .i64 (jd .u64 (IntKind.wrap .u64 a) (1:Int))) mm) fun q=>ifb (ilt (IntKind.wrap .i64 (jd .u64 (IntKind.wrap .u64 a) (1:Int))) e) (ifb (ilt e b) (Å (rec q.1 (IntKind.wrap .i64 (jd .u64 (IntKind.wrap .u64 a) (1:Int))) e b q.2) fun L=>k (L.1,L.2)) (k (q.1,q.2))) (k (q.1,q.2))) (ifb (ilt (IntKind.wrap .i64 (jd .u64 (IntKind.wrap .u64 a) (1:Int))) e) (ifb (ilt e b) (Å (rec c (IntKind.wrap .i64 (jd .u64 (IntKind.wrap .u64 a) (1:Int))) e b mm) fun M=>k (M.1,M.2)) (k (c,mm))) (k (c,mm)))) (ifb (ilt (IntKind.wrap .i64 (jd .u64 (IntKind.wrap .u64 a) (1:Int))) e) (ifb (ilt e b) (Å (rec c (IntKind.wrap .i64 (jd .u64 (IntKind.wrap .u64 a) (1:Int))) e b mm) fun N=>k (N.1,N.2)) (k (c,mm))) (k (c,mm))))) (ifb (ilt f l) (ifb (ilt l (IntKind.wrap .i64 (jd .u64 (IntKind.wrap .u64 a) (1:Int)))) (Å (rec c f l (IntKind.wrap .i64 (jd .u64 (IntKind.wrap .u64 a) (1:Int))) mm) fun r=>ifb (ilt (IntKind.wrap .i64 (jd .u64 (IntKind.wrap .u64 a) (1:Int))) e) (ifb (ilt e b) (Å (rec r.1 (IntKind.wrap .i64 (jd .u64 (IntKind.wrap .u64 a) (1:Int))) e b r.2) fun O=>k (O.1,O.2)) (k (r.1,r.2))) (k (r.1,r.2))) (ifb (ilt (IntKind.wrap .i64 (jd .u64 (IntKind.wrap .u64 a) (1:Int))) e) (ifb (ilt e b) (Å (rec c (IntKind.wrap .i64 (jd .u64 (IntKind.wrap .u64 a) (1:Int))) e b mm) fun P=>k (P.1,P.2)) (k (c,mm))) (k (c,mm)))) (ifb (ilt (IntKind.wrap .i64 (jd .u64 (IntKind.wrap .u64 a) (1:Int))) e) (ifb (ilt e b) (Å (rec c (IntKind.wrap .i64 (jd .u64 (IntKind.wrap .u64 a) (1:Int))) e b mm) fun Q=>k (Q.1,Q.2)) (k (c,mm))) (k (c,mm)))))) (f,g))))
def Ĩ:Nat->a7->Int->Int->Int->a8->BY (a7×a8)
  |0=>fun _ _ _ _ _=>none
  |n+1=>fun a b c d mm=>ĩ (Ĩ n) a b c d mm some
def Ě (a:a7) (b:Int) (c:Int) (d:Int) (mm:a8):BY ((a7)×a8):=Ĩ 100 a b c d mm
def iM (m:Int) (n:Int) (c:Int) (b:Int) (d:a7) (e:Int) (f:Int) (g:fy) (h:bl) (i:fx) (j:c7) (k:bl) (l:c9) (o:Int->Int->a7->Int->Int->fy->bl->fx->c7->bl->c9->BY ρ) (p:v6->BY ρ):BY ρ :=
  ifb (ile b m) (Å (ê d c b (((e,f),g,h,i,j,k),l)) fun a=>ck (b+n) fun q=>o b q a.1 a.2.1.1.1 a.2.1.1.2 a.2.1.2.1 a.2.1.2.2.1 a.2.1.2.2.2.1 a.2.1.2.2.2.2.1 a.2.1.2.2.2.2.2 a.2.2) (p (c,d,e,f,g,h,i,j,k,l))
def iK (n:Int) (d:Int) (c:Int) (b:Int) (e:a7) (f:Int) (g:Int) (h:fy) (i:bl) (j:fx) (k:c7) (l:bl) (m:c9) (o:Int->Int->a7->Int->Int->fy->bl->fx->c7->bl->c9->BY ρ) (p:v6->BY ρ):BY ρ :=
  ifb (ile b n) (ck (c+d) fun q=>Å (Ě e c q b (((f,g),h,i,j,k,l),m)) fun a=>ck ((2:Int)*d) fun r=>ck (b+r) fun s=>o b s a.1 a.2.1.1.1 a.2.1.1.2 a.2.1.2.1 a.2.1.2.2.1 a.2.1.2.2.2.1 a.2.1.2.2.2.2.1 a.2.1.2.2.2.2.2 a.2.2) (p (c,e,f,g,h,i,j,k,l,m))
def iL (e:Int) (d:Int) (f:a7) (g:Int) (h:Int) (i:fy) (j:bl) (k:fx) (l:c7) (m:bl) (n:c9) (o:Int->a7->Int->Int->fy->bl->fx->c7->bl->c9->BY ρ) (q:(Val (.pair ak ai))->BY ρ):BY ρ :=
  ifb (ilt d e) (ck ((2:Int)*d) fun r=>Ë (fun(b:y5) s=>iK e d b.1 b.2.1 b.2.2.1 b.2.2.2.1 b.2.2.2.2.1 b.2.2.2.2.2.1 b.2.2.2.2.2.2.1 b.2.2.2.2.2.2.2.1 b.2.2.2.2.2.2.2.2.1 b.2.2.2.2.2.2.2.2.2.1 b.2.2.2.2.2.2.2.2.2.2 (fun t u v w x y z A B C D=>s (t,u,v,w,x,y,z,A,B,C,D)) (fun a=>ck (a.1+d) fun p=>ifb (ilt p e) (Å (Ě a.2.1 a.1 p e (((a.2.2.1,a.2.2.2.1),a.2.2.2.2.1,a.2.2.2.2.2.1,a.2.2.2.2.2.2.1,a.2.2.2.2.2.2.2.1,a.2.2.2.2.2.2.2.2.1),a.2.2.2.2.2.2.2.2.2)) fun c=>ck (d*(2:Int)) fun E=>o E c.1 c.2.1.1.1 c.2.1.1.2 c.2.1.2.1 c.2.1.2.2.1 c.2.1.2.2.2.1 c.2.1.2.2.2.2.1 c.2.1.2.2.2.2.2 c.2.2) (ck (d*(2:Int)) fun F=>o F a.2.1 a.2.2.1 a.2.2.2.1 a.2.2.2.2.1 a.2.2.2.2.2.1 a.2.2.2.2.2.2.1 a.2.2.2.2.2.2.2.1 a.2.2.2.2.2.2.2.2.1 a.2.2.2.2.2.2.2.2.2))) ((0:Int),r,f,g,h,i,j,k,l,m,n)) (q (f,g,h,i,j,k,l,m,n))
def jX (g:a7) (f:Int) (mm:a8) (k:(a7)×a8->BY ρ):BY ρ :=
  Ë (fun(a:y5) h=>iM f (20:Int) a.1 a.2.1 a.2.2.1 a.2.2.2.1 a.2.2.2.2.1 a.2.2.2.2.2.1 a.2.2.2.2.2.2.1 a.2.2.2.2.2.2.2.1 a.2.2.2.2.2.2.2.2.1 a.2.2.2.2.2.2.2.2.2.1 a.2.2.2.2.2.2.2.2.2.2 (fun i j l m n o p q r s t=>h (i,j,l,m,n,o,p,q,r,s,t)) (fun b=>Å (ê b.2.1 b.1 f (((b.2.2.1,b.2.2.2.1),b.2.2.2.2.1,b.2.2.2.2.2.1,b.2.2.2.2.2.2.1,b.2.2.2.2.2.2.2.1,b.2.2.2.2.2.2.2.2.1),b.2.2.2.2.2.2.2.2.2)) fun d=>Ë (fun(c:v6) u=>iL f c.1 c.2.1 c.2.2.1 c.2.2.2.1 c.2.2.2.2.1 c.2.2.2.2.2.1 c.2.2.2.2.2.2.1 c.2.2.2.2.2.2.2.1 c.2.2.2.2.2.2.2.2.1 c.2.2.2.2.2.2.2.2.2 (fun v w x y z A B C D E=>u (v,w,x,y,z,A,B,C,D,E)) (fun e=>k (e.1,(((e.2.1,e.2.2.1),e.2.2.2.1,e.2.2.2.2.1,e.2.2.2.2.2.1,e.2.2.2.2.2.2.1,e.2.2.2.2.2.2.2.1),e.2.2.2.2.2.2.2.2)))) ((20:Int),d.1,d.2.1.1.1,d.2.1.1.2,d.2.1.2.1,d.2.1.2.2.1,d.2.1.2.2.2.1,d.2.1.2.2.2.2.1,d.2.1.2.2.2.2.2,d.2.2))) ((0:Int),(20:Int),g,mm.1.1.1,mm.1.1.2,mm.1.2.1,mm.1.2.2.1,mm.1.2.2.2.1,mm.1.2.2.2.2.1,mm.1.2.2.2.2.2,mm.2)
def Ļ (a:a7) (b:Int) (mm:a8):BY ((a7)×a8):=jX a b mm some
def EX (a:a7) (y:b5) (b:a7->BY ρ):BY ρ :=
  à (ä ((List.length a)+(List.length ([y])))) (b (a++([y])))
def VW (a:a8) (k:a7->BY ρ):BY ρ :=
  Å (om a.2) fun c=>Bu (fun(d:a7) (e:b5) f=>EX d e (fun g=>f g)) c ([]) (fun b=>Å (Ļ b (Õ b) a) fun h=>k h.1)
def uR (a:a8):BY (a7):=VW a some
def B8 (f:b5) (g:Int) (d:c9) (b:Int) (a:Int) (c:Int->Int->BY ρ) (h:Int->BY ρ):BY ρ :=
  ifb (ige a 0) (â f a fun i=>Å (iT i b) fun e=>ifb (ige e 0) (â d a fun j=>ifb (ilt j.1 g) (â d a fun k=>â k.2 e fun l=>ck (a-(1:Int)) fun m=>c l m) (ck (a-(1:Int)) fun n=>c b n)) (ck (a-(1:Int)) fun o=>c b o)) (h b)
def ah8 (a:a8) (c:b5) (d:Int) (e:Int) (k:Int->BY ρ):BY ρ :=
  ck ((Õ a.2)-(1:Int)) fun f=>Ë (fun(b:bx) g=>B8 c e a.2 b.1 b.2 (fun h i=>g (h,i)) (fun j=>k j)) (d,f)
def vr (a:a8) (b:b5) (c:Int) (d:Int):BY (Int):=ah8 a b c d some
def jO (d:Int) (e:Val ay) (f:Val aK) (g:an) (h:Int) (a:Int) (b:an) (i:Int->an->BY ρ) (j:an->BY ρ):BY ρ :=
  ifb (ilt a h) (â g a fun k=>Å (vr e f k d) fun c=>à (ä ((List.length b)+(List.length ([c])))) (ck (a+(1:Int)) fun l=>i l (b++([c])))) (j b)
def Ag (a:an) (d:Int) (e:Val ay) (f:Val aK) (k:an->BY ρ):BY ρ :=
  Ë (fun(b:f4) g=>jO d e f a (Õ a) b.1 b.2 (fun h i=>g (h,i)) (fun c=>à (ä (List.length c)) (k (zB c)))) ((0:Int),[])
def kg (a:an) (b:Int) (c:Val ay) (d:Val aK):BY (an):=Ag a b c d some
def lX (e:Val ay) (f:Val aK) (g:bl) (h:Int) (b:Int) (c:bl) (i:Int->bl->BY ρ) (j:bl->BY ρ):BY ρ :=
  ifb (ilt b h) (â g b fun a=>Å (vr e f a.1 a.2) fun d=>à (ä ((List.length c)+(List.length ([(d,a.2)])))) (ck (b+(1:Int)) fun k=>i k (c++([(d,a.2)])))) (j c)
def lW (e:Val ay) (f:Val aK) (g:fx) (h:Int) (b:Int) (c:fx) (i:Int->fx->BY ρ) (j:fx->BY ρ):BY ρ :=
  ifb (ilt b h) (â g b fun a=>Å (vr e f a.1 a.2.1.1) fun d=>à (ä ((List.length c)+(List.length ([(d,a.2)])))) (ck (b+(1:Int)) fun k=>i k (c++([(d,a.2)])))) (j c)
def lV (d:Val ay) (e:Val aK) (h:c7) (i:Int) (b:Int) (c:c7) (j:Int->c7->BY ρ) (k:c7->BY ρ):BY ρ :=
  ifb (ilt b i) (â h b fun a=>Å (kg a.2.2.1 a.2.1 d e) fun f=>Å (kg a.2.2.2.1 a.2.1 d e) fun g=>à (ä ((List.length c)+(List.length ([(a.1,a.2.1,f,g,a.2.2.2.2)])))) (ck (b+(1:Int)) fun l=>j l (c++([(a.1,a.2.1,f,g,a.2.2.2.2)])))) (k c)
def lU (e:Val ay) (f:Val aK) (g:bl) (h:Int) (b:Int) (c:bl) (i:Int->bl->BY ρ) (j:bl->BY ρ):BY ρ :=
  ifb (ilt b h) (â g b fun a=>Å (vr e f a.1 a.2) fun d=>à (ä ((List.length c)+(List.length ([(d,a.2)])))) (ck (b+(1:Int)) fun k=>i k (c++([(d,a.2)])))) (j c)
def xE (a:a8) (b:b5) (k:b6->BY ρ):BY ρ :=
  à (ä (List.length a.1.2.1)) (Ë (fun(c:nj) g=>lX a b a.1.2.2.1 (Õ a.1.2.2.1) c.1 c.2 (fun h i=>g (h,i)) (fun j=>Ë (fun(d:y6) l=>lW a b a.1.2.2.2.1 (Õ a.1.2.2.2.1) d.1 d.2 (fun m n=>l (m,n)) (fun o=>Ë (fun(e:Val bc) p=>lV a b a.1.2.2.2.2.1 (Õ a.1.2.2.2.2.1) e.1 e.2 (fun q r=>p (q,r)) (fun s=>Ë (fun(f:nj) t=>lU a b a.1.2.2.2.2.2 (Õ a.1.2.2.2.2.2) f.1 f.2 (fun u v=>t (u,v)) (fun w=>k (a.1.1,a.1.2.1,j,o,s,w))) ((0:Int),[]))) ((0:Int),[]))) ((0:Int),[]))) ((0:Int),[]))
def Φ (a:a8) (b:b5):BY b6:=xE a b some
def ī (c:bl) (d:Int) (e:Int) (f:Int) (a:Int) (g:Int->BY ρ) (h:Int->BY ρ) (i:Unit->BY ρ):BY ρ :=
  ifb (ilt a d) (â c a fun b=>ifb ((oQ e b.1)&&((oQ f b.2)&&true)) (h a) (ck (a+(1:Int)) fun j=>g j)) (i ())
def jZ (a:bl) (b:bx) (k:Int->BY ρ):BY ρ :=
  Ë (fun(c:Int) d=>ī a (Õ a) b.1 b.2 c (fun e=>d e) (fun f=>k f) (fun _=>k (-1:Int))) (0:Int)
def ü (a:bl) (b:bx):BY (Int):=jZ a b some
def K4 (b:Val aR) (a:an) (c:Int) (k:Int->BY ρ):BY ρ :=
  ifb (ieq (Õ a) 0) (k (0:Int)) (â a (0:Int) fun d=>Å (ü b.2.1 (d,c)) fun e=>ck (e+(1:Int)) fun f=>k f)
def mw (a:Val aR) (b:an) (c:Int):BY (Int):=K4 a b c some
def yf (f:Int) (g:Int) (h:fx) (i:Int) (j:Int) (b:Int) (a:Int) (d:Int->Int->BY ρ) (k:Int->BY ρ):BY ρ :=
  ifb (ilt a i) (â h a fun c=>ck (g-(1:Int)) fun l=>ck ((abZ c.2.1.2 l)-(SP c.2.1.1 f)) fun m=>ck (m+1) fun e=>ifb (ieq c.1 j) (ifb (igt e 0) (ck (e*c.2.2) fun n=>ck (b+n) fun o=>ck (a+(1:Int)) fun p=>d o p) (ck (a+(1:Int)) fun q=>d b q)) (ck (a+(1:Int)) fun r=>d b r)) (k b)
def ye (e:Int) (f:Int) (g:bl) (h:Int) (i:Int) (a:Int) (b:an) (d:Int->an->BY ρ) (j:an->BY ρ):BY ρ :=
  ifb (ilt a h) (â g a fun c=>ifb (ieq c.1 i) (ck (f-(1:Int)) fun k=>Å (ĝ c.2 e k) fun l=>ifb l (à (ä ((List.length b)+(List.length ([c.2])))) (ck (a+(1:Int)) fun m=>d m (b++([c.2])))) (ck (a+(1:Int)) fun n=>d n b)) (ck (a+(1:Int)) fun o=>d o b)) (j b)
def adW (a:b6) (b:pc) (d:Int) (e:Int) (k:Int->BY ρ):BY ρ :=
  Ë (fun(f:bx) h=>yf d e a.2.2.2.1 (Õ a.2.2.2.1) b.1 f.1 f.2 (fun i j=>h (i,j)) (fun l=>Ë (fun(g:f4) m=>ye d e a.2.2.1 (Õ a.2.2.1) b.1 g.1 g.2 (fun n o=>m (n,o)) (fun c=>à (ä (List.length c)) (à (ä (List.length (zB c))) (ck ((Õ (CF (zB c)))*b.2.2.2.2.2) fun p=>ck (l+p) fun q=>k q)))) ((0:Int),[]))) ((0:Int),(0:Int))
def CB (a:b6) (b:pc) (c:Int) (d:Int):BY (Int):=adW a b c d some
def zc (b:rd) (a:an) (k:bx->BY ρ):BY ρ :=
  ifb (ieq (Õ a) 0) (k ((0:Int),(1:Int))) (â a (0:Int) fun c=>Rh (k:=tI) (v:=Ú) c b (fun d=>k d.2.2.2.2.1) (k ((0:Int),(0:Int))))
def jy (a:rd) (b:an):BY bx:=zc a b some
def uH (b:bl) (c:Int) (a:Int) (d:Int->BY ρ) (e:Int->BY ρ) (f:Unit->BY ρ):BY ρ :=
  ifb (ilt a c) (â b a fun g=>Å (wZ g) fun h=>ifb (!h) (e (1:Int)) (ck (a+(1:Int)) fun i=>d i)) (f ())
def ZK (a:bl) (k:Int->BY ρ):BY ρ :=
  Ë (fun(b:Int) c=>uH a (Õ a) b (fun d=>c d) (fun e=>k e) (fun _=>k (0:Int))) (0:Int)
def lP (a:bl):BY (Int):=ZK a some
def PR (d:Int) (e:Int) (k:ly->BY ρ):BY ρ :=
  Å (uV d) fun b=>Å (uV e) fun c=>Å (QA b c) fun a=>ifb (oQ a 0) (none) (ifb (oQ a 0) (none) (ifb (igt (IntKind.wrap .u64 (Int.tdiv b a)) 2147483647) (k (((0:Int),(0:Int)),(3:Int))) (ifb (igt (IntKind.wrap .u64 (Int.tdiv c a)) 2147483647) (k (((0:Int),(0:Int)),(3:Int))) (ifb (!((ilt d 0)==(ilt e 0))) (ck (0-(IntKind.wrap .i64 (IntKind.wrap .u64 (Int.tdiv b a)))) fun f=>k ((f,(IntKind.wrap .i64 (IntKind.wrap .u64 (Int.tdiv c a)))),(0:Int))) (k (((IntKind.wrap .i64 (IntKind.wrap .u64 (Int.tdiv b a))),(IntKind.wrap .i64 (IntKind.wrap .u64 (Int.tdiv c a)))),(0:Int)))))))
def sM (a:Int) (b:Int):BY ly:=PR a b some
def aim (a:bx) (b:bx) (k:ly->BY ρ):BY ρ :=
  Å (lP ([a,b])) fun c=>ifb (ine c 0) (k (((0:Int),(0:Int)),c)) (ck (a.1*b.2) fun e=>ck (b.1*a.2) fun f=>ck (e-f) fun g=>ck (a.2*b.2) fun h=>Å (sM g h) fun d=>k (d.1,d.2))
def W9 (a:bx) (b:bx):BY ly:=aim a b some
def HM (a:bx) (b:bx) (k:bx->BY ρ):BY ρ :=
  Å (W9 a b) fun c=>k c.1
def yD (a:bx) (b:bx):BY bx:=HM a b some
def aik (a:bx) (b:bx) (k:Int->BY ρ):BY ρ :=
  ck (a.1*b.2) fun c=>ck (b.1*a.2) fun d=>ifb ((oQ a.1 b.1)&&((oQ a.2 b.2)&&true)) (k (0:Int)) (ifb (ilt c d) (k (-1:Int)) (ifb (igt c d) (k (1:Int)) (k (0:Int))))
def QB (a:bx) (b:bx):BY (Int):=aik a b some
def Er (a:kw) (k:Bool->BY ρ):BY ρ :=
  Å (lP ([a.1,a.2])) fun b=>ifb (ieq b 0) (Å (QB a.1 a.2) fun c=>k (ile c 0)) (k false)
def vt (a:kw):BY (Bool):=Er a some
def aio (a:bx) (b:bx) (k:ly->BY ρ):BY ρ :=
  Å (lP ([a,b])) fun c=>ifb (ine c 0) (k (((0:Int),(0:Int)),c)) (ck (a.1*b.1) fun e=>ck (a.2*b.2) fun f=>Å (sM e f) fun d=>k (d.1,d.2))
def QD (a:bx) (b:bx):BY ly:=aio a b some
def PT (c:kw) (d:bx) (k:Val FW->BY ρ):BY ρ :=
  Å (vt c) fun e=>ifb (!e) (k ((((0:Int),(0:Int)),(0:Int),(0:Int)),(1:Int))) (Å (wZ d) fun f=>ifb (!f) (k ((((0:Int),(0:Int)),(0:Int),(0:Int)),(1:Int))) (Å (QD d c.1) fun a=>ifb (ine a.2 0) (k ((((0:Int),(0:Int)),(0:Int),(0:Int)),a.2)) (Å (QD d c.2) fun b=>ifb (ine b.2 0) (k ((((0:Int),(0:Int)),(0:Int),(0:Int)),b.2)) (Å (QB a.1 b.1) fun g=>ifb (igt g 0) (k ((b.1,a.1),(0:Int))) (k ((a.1,b.1),(0:Int)))))))
def QC (a:kw) (b:bx):BY (Val FW):=PT a b some
def HL (b:bx) (a:bx) (k:kw->BY ρ):BY ρ :=
  Å (QC ((a.1,(1:Int)),a.2,(1:Int)) b) fun c=>k c.1
def qP (a:bx) (b:bx):BY kw:=HL a b some
def Uq (c:b6) (a:io) (k:kw->BY ρ):BY ρ :=
  Å (Ņ c) fun b=>Å (δ a.2.2.1 a.2.2.2.1) fun d=>Å (jy b d) fun e=>Å (δ a.2.2.2.1 a.2.2.1) fun f=>Å (jy b f) fun g=>Å (yD e g) fun h=>Å (qP h a.2.2.2.2.2.2) fun i=>k i
def xb (a:b6) (b:io):BY kw:=Uq a b some
def ZW (a:b6) (b:io) (k:bx->BY ρ):BY ρ :=
  ck ((Õ b.2.2.1)-(1:Int)) fun c=>ck ((Õ b.2.2.2.1)-(1:Int)) fun d=>ck ((SP (0:Int) c)*a.1.1) fun e=>ck ((SP (0:Int) d)*a.1.2) fun f=>ck (e-f) fun g=>ck ((SP (0:Int) c)*a.1.2) fun h=>ck ((SP (0:Int) d)*a.1.1) fun i=>ck (h-i) fun j=>k (g,j)
def BB (a:b6) (b:io):BY bx:=ZW a b some
def PS (b:Int) (a:Int) (k:Int->BY ρ):BY ρ :=
  ifb (oQ a 0) (none) (ck (Int.tdiv b a) fun c=>ifb (oQ a 0) (none) (ifb (ilt (Int.tmod b a) 0) (ck (c-1) fun d=>k d) (k c)))
def wY (a:Int) (b:Int):BY (Int):=PS a b some
def ZQ (a:bx) (k:bx->BY ρ):BY ρ :=
  Å (lP ([a])) fun b=>ifb (ine b 0) (k ((0:Int),b)) (Å (wY a.1 a.2) fun c=>k (c,(0:Int)))
def IQ (a:bx):BY bx:=ZQ a some
def adT (a:bx) (k:bx->BY ρ):BY ρ :=
  Å (lP ([a])) fun b=>ifb (ine b 0) (k ((0:Int),b)) (ck (0-a.1) fun c=>Å (wY c a.2) fun d=>ck (0-d) fun e=>k (e,(0:Int)))
def MT (a:bx):BY bx:=adT a some
def adU (b:b6) (a:io) (k:bx->BY ρ):BY ρ :=
  Å (xb b a) fun c=>Å (BB b a) fun d=>Å (IQ c.2) fun e=>Å (MT c.1) fun f=>ck (a.2.2.2.2.1-a.2.2.2.2.2.1) fun g=>ck (g-d.2) fun h=>ck (h-e.1) fun i=>ck (a.2.2.2.2.1+a.2.2.2.2.2.1) fun j=>ck (j-d.1) fun l=>ck (l-f.1) fun m=>k (i,m)
def CA (a:b6) (b:io):BY bx:=adU a b some
def yc (b:Int) (e:an) (h:Int) (j:Int) (k:Int) (l:fy) (m:bl) (n:fx) (o:c7) (p:bl) (q:Int) (r:Int) (s:Int) (t:Int) (u:Int) (v:Int) (w:Int) (x:Int) (a:Int) (f:hO) (g:bl) (y:Int->hO->bl->BY ρ) (z:Val De->BY ρ):BY ρ :=
  ifb (ilt a (Õ e)) (ck (h+a) fun A=>ck (A-1) fun c=>ck (h+a) fun d=>ck (a-(1:Int)) fun B=>â e B fun C=>â e a fun D=>Å (CB ((j,k),l,m,n,o,p) (q,r,s,(t,u),(v,w),x) C D) fun E=>ck (0-E) fun F=>ck (0-F) fun i=>à (ä ((List.length f)+(List.length ([(c,d,(0:Int)),(d,c,i)])))) (à (ä ((List.length g)+(List.length ([((2:Int),b),((2:Int),b)])))) (ck (a+(1:Int)) fun G=>y G (f++([(c,d,(0:Int)),(d,c,i)])) (g++([((2:Int),b),((2:Int),b)]))))) (z (f,g))
def yd (q:fy) (r:Int) (f:Int) (g:Int) (h:fy) (i:bl) (j:fx) (k:c7) (l:bl) (s:bl) (t:Int) (b:Int) (d:hO) (e:bl) (u:Int->hO->bl->BY ρ) (v:Val De->BY ρ):BY ρ :=
  ifb (ilt b r) (â q b fun a=>Å (qQ ((f,g),h,i,j,k,l) a) fun w=>Å (mw (((f,g),h,i,j,k,l),s,(t,d),e) ([a.1]) a.2.1) fun c=>ck (a.2.2.1+a.2.2.2.1.1) fun x=>ck (a.2.2.1+a.2.2.2.1.2) fun n=>ck (0-x) fun o=>à (ä ((List.length d)+(List.length ([((0:Int),c,n),(c,(0:Int),o)])))) (à (ä ((List.length e)+(List.length ([((1:Int),b),((1:Int),b)])))) (Ë (fun(m:wk) y=>yc b w c f g h i j k l a.1 a.2.1 a.2.2.1 a.2.2.2.1.1 a.2.2.2.1.2 a.2.2.2.2.1.1 a.2.2.2.2.1.2 a.2.2.2.2.2 m.1 m.2.1 m.2.2 (fun z A B=>y (z,A,B)) (fun p=>ck (b+(1:Int)) fun C=>u C p.1 p.2)) ((1:Int),(d++([((0:Int),c,n),(c,(0:Int),o)])),(e++([((1:Int),b),((1:Int),b)])))))) (v (d,e))
def yb (r:c7) (s:Int) (g:Int) (h:Int) (i:fy) (j:bl) (k:fx) (l:c7) (m:bl) (o:bl) (p:Int) (a:Int) (c:hO) (d:bl) (t:Int->hO->bl->BY ρ) (u:Val De->BY ρ):BY ρ :=
  ifb (ilt a s) (â r a fun b=>Å (δ b.2.2.2.1 b.2.2.1) fun v=>Å (mw (((g,h),i,j,k,l,m),o,(p,c),d) v b.2.1) fun e=>Å (δ b.2.2.1 b.2.2.2.1) fun w=>Å (mw (((g,h),i,j,k,l,m),o,(p,c),d) w b.2.1) fun f=>Å (CA ((g,h),i,j,k,l,m) b) fun n=>ck (0-n.1) fun q=>à (ä ((List.length c)+(List.length ([(e,f,n.2),(f,e,q)])))) (à (ä ((List.length d)+(List.length ([((3:Int),a),((3:Int),a)])))) (ck (a+(1:Int)) fun x=>t x (c++([(e,f,n.2),(f,e,q)])) (d++([((3:Int),a),((3:Int),a)]))))) (u (c,d))
def adV (a:b6) (k:Val aR->BY ρ):BY ρ :=
  Å (sN a) fun b=>ck ((Õ b)+(1:Int)) fun c=>Ë (fun(d:wk) h=>yd a.2.1 (Õ a.2.1) a.1.1 a.1.2 a.2.1 a.2.2.1 a.2.2.2.1 a.2.2.2.2.1 a.2.2.2.2.2 b c d.1 d.2.1 d.2.2 (fun i j l=>h (i,j,l)) (fun f=>Ë (fun(e:wk) m=>yb a.2.2.2.2.1 (Õ a.2.2.2.2.1) a.1.1 a.1.2 a.2.1 a.2.2.1 a.2.2.2.1 a.2.2.2.2.1 a.2.2.2.2.2 b c e.1 e.2.1 e.2.2 (fun n o p=>m (n,o,p)) (fun g=>k (a,b,(c,g.1),g.2))) ((0:Int),f.1,f.2))) ((0:Int),[],[])
def IR (a:b6):BY ((Val aR)):=adV a some
def Us (a:b6) (k:(Val (.pair Ó (.pair aa tI)))->BY ρ):BY ρ :=
  Å (ż a) fun b=>ifb (ine b 0) (k (((0:Int),[]),[],b)) (Å (IR a) fun c=>k (c.2.2.1,c.2.2.2,(0:Int)))
def jJ (a:b6):BY ((Val (.pair Ó (.pair aa tI)))):=Us a some
def adQ (b:ge) (a:Int) (k:Bool->BY ρ):BY ρ :=
  ifb (ige a 0) (k (ilt a b.1)) (k false)
def Cz (a:ge) (b:Int):BY (Bool):=adQ a b some
def uG (f:hO) (g:Int) (d:Int) (e:hO) (a:Int) (h:Int->BY ρ) (c:bx->BY ρ) (i:Unit->BY ρ):BY ρ :=
  ifb (ilt a g) (â f a fun b=>Å (Cz (d,e) b.1) fun j=>ifb (!j) (c ((1:Int),a)) (Å (Cz (d,e) b.2.1) fun k=>ifb (!k) (c ((1:Int),a)) (ifb (ieq b.1 b.2.1) (c ((1:Int),a)) (ifb (ilt b.2.2 (-4503599627370496:Int)) (c ((1:Int),a)) (ifb (igt b.2.2 4503599627370496) (c ((1:Int),a)) (ck (a+(1:Int)) fun l=>h l)))))) (i ())
def ZJ (a:ge) (k:bx->BY ρ):BY ρ :=
  ifb (ilt a.1 1) (k ((1:Int),(-1:Int))) (ifb (igt a.1 60) (k ((1:Int),(-1:Int))) (ifb (igt (Õ a.2) 300) (k ((2:Int),(-1:Int))) (Ë (fun(c:Int) d=>uG a.2 (Õ a.2) a.1 a.2 c (fun e=>d e) (fun b=>k (b.1,b.2)) (fun _=>k ((0:Int),(-1:Int)))) (0:Int))))
def pL (a:ge):BY bx:=ZJ a some
def iP (c:hO) (d:Int) (b:Int) (a:Int) (e:Int->Int->BY ρ) (f:Int->BY ρ):BY ρ :=
  ifb (ilt a d) (â c a fun g=>ck (b+(abZ g.2.2 (0:Int))) fun h=>ck (a+(1:Int)) fun i=>e h i) (f b)
def ş (f:Int) (d:an) (a:Int) (b:wl) (c:an) (e:Int->wl->an->BY ρ) (g:Val aT->BY ρ):BY ρ :=
  ifb (ilt a f) (à ((ile 0 a)&&(ilt a (î d))) (Į d (Int.toNat a) fun h=>ifb (ine h 1152921504606846976) (à (ä ((List.length c)+(List.length ([a])))) (à ((ile 0 a)&&(ilt a (î b))) (Į b (Int.toNat a) fun k=>ck (a+(1:Int)) fun i=>e i (List.set b (Int.toNat a) true) (c++([a]))))) (ck (a+(1:Int)) fun j=>e j b c))) (g (b,c))
def j9 (m:Val au) (j:Int) (d:Int) (n:hO) (o:Int) (f:Int) (b:an) (c:wl) (e:an) (g:Int->an->wl->an->BY ρ) (l:(Val (.pair .bool (.pair ab aT)))->BY ρ) (p:(Val (.pair ab aT))->BY ρ):BY ρ :=
  ifb (ilt f o) (â n f fun a=>ifb (ine a.1 d) (ck (f+(1:Int)) fun q=>g q b c e) (Rh (k:=tI) (v:=.bool) f m (fun r=>ifb r (ck (f+(1:Int)) fun s=>g s b c e) (à ((ile 0 d)&&(ilt d (î b))) (Į b (Int.toNat d) fun t=>ck (t+a.2.2) fun u=>à ((ile 0 a.2.1)&&(ilt a.2.1 (î b))) (Į b (Int.toNat a.2.1) fun w=>ifb (ige u w) (ck (f+(1:Int)) fun x=>g x b c e) (à ((ile 0 d)&&(ilt d (î b))) (Į b (Int.toNat d) fun y=>ck (y+a.2.2) fun h=>à ((ile 0 a.2.1)&&(ilt a.2.1 (î b))) (Į b (Int.toNat a.2.1) fun M=>à ((ile 0 a.2.1)&&(ilt a.2.1 (î (List.set b (Int.toNat a.2.1) h)))) (Į (List.set b (Int.toNat a.2.1) h) (Int.toNat a.2.1) fun z=>ifb (ilt z j) (l (false,(List.set b (Int.toNat a.2.1) h),c,e)) (à ((ile 0 a.2.1)&&(ilt a.2.1 (î c))) (Į c (Int.toNat a.2.1) fun A=>ifb (!A) (à (ä ((List.length e)+(List.length ([a.2.1])))) (à ((ile 0 a.2.1)&&(ilt a.2.1 (î c))) (Į c (Int.toNat a.2.1) fun N=>ck (f+(1:Int)) fun B=>g B (List.set b (Int.toNat a.2.1) h) (List.set c (Int.toNat a.2.1) true) (e++([a.2.1]))))) (ck (f+(1:Int)) fun C=>g C (List.set b (Int.toNat a.2.1) h) c e))))))))))) (à ((ile 0 d)&&(ilt d (î b))) (Į b (Int.toNat d) fun D=>ck (D+a.2.2) fun E=>à ((ile 0 a.2.1)&&(ilt a.2.1 (î b))) (Į b (Int.toNat a.2.1) fun F=>ifb (ige E F) (ck (f+(1:Int)) fun G=>g G b c e) (à ((ile 0 d)&&(ilt d (î b))) (Į b (Int.toNat d) fun H=>ck (H+a.2.2) fun i=>à ((ile 0 a.2.1)&&(ilt a.2.1 (î b))) (Į b (Int.toNat a.2.1) fun O=>à ((ile 0 a.2.1)&&(ilt a.2.1 (î (List.set b (Int.toNat a.2.1) i)))) (Į (List.set b (Int.toNat a.2.1) i) (Int.toNat a.2.1) fun I=>ifb (ilt I j) (l (false,(List.set b (Int.toNat a.2.1) i),c,e)) (à ((ile 0 a.2.1)&&(ilt a.2.1 (î c))) (Į c (Int.toNat a.2.1) fun J=>ifb (!J) (à (ä ((List.length e)+(List.length ([a.2.1])))) (à ((ile 0 a.2.1)&&(ilt a.2.1 (î c))) (Į c (Int.toNat a.2.1) fun P=>ck (f+(1:Int)) fun K=>g K (List.set b (Int.toNat a.2.1) i) (List.set c (Int.toNat a.2.1) true) (e++([a.2.1]))))) (ck (f+(1:Int)) fun L=>g L (List.set b (Int.toNat a.2.1) i) c e)))))))))))) (p (b,c,e))
def ĭ (l:Val au) (m:Int) (n:Int) (k:hO) (h:an) (d:wl) (b:an) (c:an) (o:an->wl->an->an->BY ρ) (i:(Val (.pair .bool aU))->BY ρ):BY ρ :=
  ifb (ieq (Õ c) 0) (i (true,h,d,b,c)) (à (ilt 0 (î c)) (Į c 0 fun a=>à (ile 1 (î c)) (à (decide (1+(List.length c-1)=List.length c)) (à ((ile 0 a)&&(ilt a (î d))) (Į d (Int.toNat a) fun x=>à ((ile 0 a)&&(ilt a (î b))) (Į b (Int.toNat a) fun p=>ck (p+(1:Int)) fun e=>à ((ile 0 a)&&(ilt a (î b))) (Į b (Int.toNat a) fun y=>à ((ile 0 a)&&(ilt a (î (List.set b (Int.toNat a) e)))) (Į (List.set b (Int.toNat a) e) (Int.toNat a) fun q=>ck (n+(1:Int)) fun r=>ifb (igt q r) (i (false,h,(List.set d (Int.toNat a) false),(List.set b (Int.toNat a) e),(List.drop 1 c))) (Ë (fun(f:ni) s=>j9 l m a k (Õ k) f.1 f.2.1 f.2.2.1 f.2.2.2 (fun t u v w=>s (t,u,v,w)) (fun g=>i (g.1,g.2.1,g.2.2.1,(List.set b (Int.toNat a) e),g.2.2.2)) (fun j=>o j.1 j.2.1 (List.set b (Int.toNat a) e) j.2.2)) ((0:Int),h,(List.set d (Int.toNat a) false),(List.drop 1 c)))))))))))
def j8 (c:Int) (d:Int) (a:Int) (b:an) (e:Int->an->BY ρ) (f:an->BY ρ):BY ρ :=
  ifb (ilt a d) (à ((ile 0 a)&&(ilt a (î b))) (Į b (Int.toNat a) fun g=>ck (g-c) fun h=>à ((ile 0 a)&&(ilt a (î b))) (Į b (Int.toNat a) fun j=>ck (a+(1:Int)) fun i=>e i (List.set b (Int.toNat a) h)))) (f b)
def A7 (a:ge) (h:Val au) (k:BE->BY ρ):BY ρ :=
  à ((ile 0 a.1)&&(ä (Int.toNat a.1))) (à ((ile 0 a.1)&&(ä (Int.toNat a.1))) (à ((ile 0 a.1)&&(ä (Int.toNat a.1))) (Ë (fun(e:bx) i=>iP a.2 (Õ a.2) e.1 e.2 (fun j l=>i (j,l)) (fun m=>Ë (fun(d:y8) n=>ş a.1 (List.replicate (Int.toNat a.1) (0:Int)) d.1 d.2.1 d.2.2 (fun o p q=>n (o,p,q)) (fun f=>Ë (fun(c:Val aU) r=>ĭ h m a.1 a.2 c.1 c.2.1 c.2.2.1 c.2.2.2 (fun s t u v=>r (s,t,u,v)) (fun b=>ifb (!b.1) (k ([],false)) (à (ilt 0 (î b.2.1)) (Į b.2.1 0 fun w=>Ë (fun(g:f4) x=>j8 w (Õ b.2.1) g.1 g.2 (fun y z=>x (y,z)) (fun A=>k (A,true))) ((0:Int),b.2.1))))) ((List.replicate (Int.toNat a.1) (0:Int)),f.1,(List.replicate (Int.toNat a.1) (0:Int)),f.2))) ((0:Int),(List.replicate (Int.toNat a.1) false),[]))) ((0:Int),(0:Int)))))
def mu (a:ge) (b:Val au):BY (BE):=A7 a b some
def Ed (a:ge) (k:v8->BY ρ):BY ρ :=
  Å (pL a) fun b=>ifb (ine b.1 0) (k (false,b.1)) (Å (mu a ([])) fun c=>k (c.2,(0:Int)))
def oN (a:ge):BY (v8):=Ed a some
def KP (a:a8) (b:b5) (k:Bool->BY ρ):BY ρ :=
  Å (Φ a b) fun c=>Å (jJ c) fun d=>Å (oN d.1) fun e=>k e.1
def Χ (a:a8) (b:b5):BY (Bool):=KP a b some
def lY (c:a7) (d:Int) (e:Int) (f:Int) (g:fy) (h:bl) (i:fx) (j:c7) (k:bl) (l:c9) (a:Int) (m:Int->BY ρ) (n:so->BY ρ) (o:Unit->BY ρ):BY ρ :=
  ifb (ilt a d) (â c a fun b=>Å (Χ (((e,f),g,h,i,j,k),l) b) fun p=>ifb p (n (b,true)) (ck (a+(1:Int)) fun q=>m q)) (o ())
def GQ (a:a8) (k:so->BY ρ):BY ρ :=
  Å (uR a) fun b=>Ë (fun(d:Int) e=>lY b (Õ b) a.1.1.1 a.1.1.2 a.1.2.1 a.1.2.2.1 a.1.2.2.2.1 a.1.2.2.2.2.1 a.1.2.2.2.2.2 a.2 d (fun f=>e f) (fun c=>k (c.1,c.2)) (fun _=>k ([],false))) (0:Int)
def Ć (a:a8):BY (so):=GQ a some
def tN (b:fy) (c:Int) (d:Int) (a:Int) (e:Int->BY ρ) (f:Int->BY ρ) (g:Unit->BY ρ):BY ρ :=
  ifb (ilt a c) (â b a fun h=>ifb (ieq h.1 d) (f a) (ck (a+(1:Int)) fun i=>e i)) (g ())
def Y8 (a:a8) (c:Int) (b:Int) (k:Int->BY ρ):BY ρ :=
  ifb (ilt b 0) (k (1:Int)) (ifb (igt b 20000) (k (1:Int)) (Ë (fun(d:Int) e=>tN a.1.2.1 (Õ a.1.2.1) c d (fun f=>e f) (fun g=>ifb (!(ige g 0)) (k (5:Int)) (k (0:Int))) (fun _=>k (5:Int))) (0:Int)))
def wO (a:a8) (b:Int) (c:Int):BY (Int):=Y8 a b c some
def Uu (a:an) (b:an) (k:(Val (.pair ab aE))->BY ρ):BY ρ :=
  Å (ow a) fun c=>ifb (!c) (k ([],[],(1:Int))) (Å (ow b) fun d=>ifb (!d) (k ([],[],(1:Int))) (Å (δ a b) fun e=>Å (δ b a) fun f=>k (e,f,(0:Int))))
def ro (a:an) (b:an):BY ((Val (.pair ab aE))):=Uu a b some
def lZ (g:Int) (b:Int) (c:c7) (a:Int) (d:Int->BY ρ) (h:Int->BY ρ) (i:Unit->BY ρ):BY ρ :=
  ifb (ilt a g) (à ((ile 0 a)&&(ilt a (î c))) (Į c (Int.toNat a) fun e=>Å (ro e.2.2.1 e.2.2.2.1) fun f=>Å (ç f.1 b) fun j=>ifb j (ck (a+(1:Int)) fun k=>d k) (Å (ç f.2.1 b) fun l=>ifb (!l) (h a) (ck (a+(1:Int)) fun m=>d m)))) (i ())
def Δ (f:Int) (a:Int) (c:Int) (b:c7) (e:Int->Int->c7->BY ρ) (h:Val bc->BY ρ):BY ρ :=
  ifb (ilt c (Õ b)) (à ((ile 0 c)&&(ilt c (î b))) (Į b (Int.toNat c) fun d=>Å (ro d.2.2.1 d.2.2.2.1) fun g=>Å (ç g.1 f) fun i=>ifb i (à ((ile 0 a)&&(ilt a (î b))) (Į b (Int.toNat a) fun p=>ck (a+(1:Int)) fun j=>ck (c+(1:Int)) fun k=>e j k (List.set b (Int.toNat a) d))) (Å (ç g.2.1 f) fun l=>ifb (!(!l)) (à ((ile 0 a)&&(ilt a (î b))) (Į b (Int.toNat a) fun q=>ck (a+(1:Int)) fun m=>ck (c+(1:Int)) fun n=>e m n (List.set b (Int.toNat a) d))) (ck (c+(1:Int)) fun o=>e a o b)))) (h (a,b))
def xH (b:a8) (c:Int) (k:v8->BY ρ):BY ρ :=
  Å (iS b) fun f=>ifb (ine f 0) (k (false,f)) (Å (wO b c (0:Int)) fun g=>ifb (ine g 0) (k (false,g)) (à (ä (List.length b.1.2.2.2.2.1)) (Ë (fun(h:Int) i=>lZ (Õ b.1.2.2.2.2.1) c b.1.2.2.2.2.1 h (fun j=>i j) (fun d=>ifb (ieq d (-1:Int)) (Å (Ć b) fun l=>k ((!l.2),(0:Int))) (ck (d+(1:Int)) fun m=>Ë (fun(e:y9) n=>Δ c e.1 e.2.1 e.2.2 (fun o p q=>n (o,p,q)) (fun a=>à ((ile 0 a.1)&&(ile a.1 (î a.2))) (à ((ile 0 a.1)&&(ile a.1 (î (List.take (Int.toNat a.1) a.2++List.replicate (List.length a.2-(Int.toNat a.1)) ((0:Int),(0:Int),[],[],(0:Int),(0:Int),(0:Int),(0:Int))++List.drop ((Int.toNat a.1)+(List.length a.2-(Int.toNat a.1))) a.2)))) (Å (Ć ((b.1.1,b.1.2.1,b.1.2.2.1,b.1.2.2.2.1,(List.take (Int.toNat a.1) (List.drop 0 (List.take (Int.toNat a.1) a.2++List.replicate (List.length a.2-(Int.toNat a.1)) ((0:Int),(0:Int),[],[],(0:Int),(0:Int),(0:Int),(0:Int))++List.drop ((Int.toNat a.1)+(List.length a.2-(Int.toNat a.1))) a.2))),b.1.2.2.2.2.2),b.2)) fun r=>k ((!r.2),(0:Int)))))) (d,m,b.1.2.2.2.2.1))) (fun _=>Å (Ć b) fun s=>k ((!s.2),(0:Int)))) (0:Int))))
def qN (a:a8) (b:Int):BY (v8):=xH a b some
def xF (c:Int) (d:an) (b:c7) (a:Int) (e:Int->BY ρ) (f:Int->BY ρ) (g:Unit->BY ρ):BY ρ :=
  ifb (ilt a c) (à ((ile 0 a)&&(ilt a (î b))) (Į b (Int.toNat a) fun h=>Å (ç d h.1) fun i=>ifb (!i) (f a) (ck (a+(1:Int)) fun j=>e j))) (g ())
def oa (f:an) (b:Int) (c:Int) (a:c7) (d:Int->Int->c7->BY ρ) (g:Val bc->BY ρ):BY ρ :=
  ifb (ilt c (Õ a)) (à ((ile 0 c)&&(ilt c (î a))) (Į a (Int.toNat c) fun e=>Å (ç f e.1) fun h=>ifb (!(!h)) (à ((ile 0 b)&&(ilt b (î a))) (Į a (Int.toNat b) fun l=>ck (b+(1:Int)) fun i=>ck (c+(1:Int)) fun j=>d i j (List.set a (Int.toNat b) e))) (ck (c+(1:Int)) fun k=>d b k a))) (g (b,a))
def VX (b:a8) (e:an) (k:a8->BY ρ):BY ρ :=
  à (ä (List.length b.1.2.2.2.2.1)) (Ë (fun(f:Int) g=>xF (Õ b.1.2.2.2.2.1) e b.1.2.2.2.2.1 f (fun h=>g h) (fun c=>ifb (ieq c (-1:Int)) (k b) (ck (c+(1:Int)) fun i=>Ë (fun(d:y9) j=>oa e d.1 d.2.1 d.2.2 (fun l m n=>j (l,m,n)) (fun a=>à ((ile 0 a.1)&&(ile a.1 (î a.2))) (à ((ile 0 a.1)&&(ile a.1 (î (List.take (Int.toNat a.1) a.2++List.replicate (List.length a.2-(Int.toNat a.1)) ((0:Int),(0:Int),[],[],(0:Int),(0:Int),(0:Int),(0:Int))++List.drop ((Int.toNat a.1)+(List.length a.2-(Int.toNat a.1))) a.2)))) (k ((b.1.1,b.1.2.1,b.1.2.2.1,b.1.2.2.2.1,(List.take (Int.toNat a.1) (List.drop 0 (List.take (Int.toNat a.1) a.2++List.replicate (List.length a.2-(Int.toNat a.1)) ((0:Int),(0:Int),[],[],(0:Int),(0:Int),(0:Int),(0:Int))++List.drop ((Int.toNat a.1)+(List.length a.2-(Int.toNat a.1))) a.2))),b.1.2.2.2.2.2),b.2))))) (c,i,b.1.2.2.2.2.1))) (fun _=>k b)) (0:Int))
def Co (a:a8) (b:an):BY a8:=VX a b some
def xI (d:c7) (e:Int) (a:Int) (b:an) (f:Int->an->BY ρ) (g:an->BY ρ):BY ρ :=
  ifb (ilt a e) (â d a fun c=>à (ä ((List.length b)+(List.length ([c.1])))) (ck (a+(1:Int)) fun h=>f h (b++([c.1])))) (g b)
def rL (f:Int) (g:Int) (h:fy) (i:bl) (j:fx) (k:c7) (l:bl) (m:c9) (b:an) (a:Int) (d:an->Int->BY ρ) (n:an->BY ρ):BY ρ :=
  ifb (ige a 0) (à ((ile 0 a)&&(ile a (î b))) (ck (a+(1:Int)) fun c=>à ((ile 0 c)&&(ile c (î b))) (Å (Ĭ ([(List.take (Int.toNat a) b),(List.drop (Int.toNat c) b)])) fun e=>Å (Co (((f,g),h,i,j,k,l),m) e) fun o=>Å (Ć o) fun p=>ifb (!p.2) (ck (a-(1:Int)) fun q=>d e q) (ck (a-(1:Int)) fun r=>d b r)))) (n b)
def adC (a:a8) (k:px->BY ρ):BY ρ :=
  Å (iS a) fun b=>ifb (ine b 0) (k ([],b)) (Å (Ć a) fun f=>ifb f.2 (k ([],(5:Int))) (Ë (fun(c:f4) g=>xI a.1.2.2.2.2.1 (Õ a.1.2.2.2.2.1) c.1 c.2 (fun h i=>g (h,i)) (fun d=>ck ((Õ d)-(1:Int)) fun j=>Ë (fun(e:px) l=>rL a.1.1.1 a.1.1.2 a.1.2.1 a.1.2.2.1 a.1.2.2.2.1 a.1.2.2.2.2.1 a.1.2.2.2.2.2 a.2 e.1 e.2 (fun m n=>l (m,n)) (fun o=>k (o,(0:Int)))) (d,j))) ((0:Int),[])))
def MN (a:a8):BY (px):=adC a some
def qv (e:Int) (f:an) (g:Int) (a:Int) (b:an) (c:Int->an->BY ρ) (h:an->BY ρ):BY ρ :=
  ifb (ilt a g) (â f a fun d=>à (ile 0 a) (ifb (ieq (andI .i64 (jd .i64 e a) (1:Int)) 1) (à (ä ((List.length b)+(List.length ([d])))) (ck (a+(1:Int)) fun i=>c i (b++([d])))) (ck (a+(1:Int)) fun j=>c j b))) (h b)
def TV (a:an) (c:Int) (k:an->BY ρ):BY ρ :=
  Ë (fun(b:f4) d=>qv c a (Õ a) b.1 b.2 (fun e f=>d (e,f)) (fun g=>k g)) ((0:Int),[])
def jE (a:an) (b:Int):BY (an):=TV a b some
def mR (b:c7) (c:Int) (d:Int) (a:Int) (e:Int->BY ρ) (f:Int->BY ρ) (g:Unit->BY ρ):BY ρ :=
  ifb (ilt a c) (â b a fun h=>ifb (ieq h.1 d) (f a) (ck (a+(1:Int)) fun i=>e i)) (g ())
def iJ (d:an) (e:Int) (b:c7) (a:Int) (f:Int->BY ρ) (c:Int->BY ρ) (g:Unit->BY ρ):BY ρ :=
  ifb (ilt a e) (â d a fun h=>Ë (fun(i:Int) j=>mR b (Õ b) h i (fun k=>j k) (fun l=>ifb (!(ige l 0)) (c (5:Int)) (ck (a+(1:Int)) fun m=>f m)) (fun _=>c (5:Int))) (0:Int)) (g ())
def jV (b:an) (a:Int) (c:Int->BY ρ) (d:Int->BY ρ) (e:Unit->BY ρ):BY ρ :=
  ifb (ilt a (Õ b)) (â b a fun f=>ck (a-(1:Int)) fun g=>â b g fun h=>ifb (ile f h) (d (6:Int)) (ck (a+(1:Int)) fun i=>c i)) (e ())
def jU (c:a7) (d:Int) (e:Int) (f:Int) (g:fy) (h:bl) (i:fx) (j:c7) (k:bl) (l:c9) (m:an) (n:Int) (a:Int) (o:Int->BY ρ) (p:so->BY ρ) (q:Unit->BY ρ):BY ρ :=
  ifb (ilt a d) (â c a fun b=>Å (jE m n) fun r=>Å (Co (((e,f),g,h,i,j,k),l) r) fun s=>Å (Χ s b) fun t=>ifb (!(!t)) (p (b,true)) (ck (a+(1:Int)) fun u=>o u)) (q ())
def ŷ (b:an) (e:an) (f:Int) (a:Int) (g:Int->BY ρ) (c:Int->BY ρ) (h:Unit->BY ρ):BY ρ :=
  ifb (ilt a f) (â e a fun i=>ifb (ige a (Õ b)) (c (1:Int)) (â b a fun j=>Å (iV i j) fun d=>ifb (ine d 0) (c d) (ck (a+(1:Int)) fun k=>g k))) (h ())
def Ş (c:Int) (d:Int) (b:an) (a:Int) (e:Int->BY ρ) (f:Unit->BY ρ) (g:Unit->BY ρ):BY ρ :=
  ifb (ilt a d) (à ((ile 0 a)&&(ilt a (î b))) (Į b (Int.toNat a) fun h=>ifb (ieq (Ko .i64 c h) 0) (f ()) (ck (a+(1:Int)) fun i=>e i))) (g ())
def ŝ (b:Int) (d:a7) (e:Int) (f:an) (g:Int) (h:Int) (i:fy) (j:bl) (k:fx) (l:c7) (m:bl) (n:c9) (c:Int) (a:an) (o:Int->an->BY ρ) (p:an->BY ρ) (q:an->BY ρ):BY ρ :=
  ifb (ilt c e) (â d c fun r=>Å (jE f b) fun s=>Å (Co (((g,h),i,j,k,l,m),n) s) fun t=>Å (Χ t r) fun u=>ifb (!(!u)) (à (ä ((List.length a)+(List.length ([b])))) (p (a++([b])))) (ck (c+(1:Int)) fun v=>o v a)) (q a)
def Ÿ (g:a7) (t:Int) (h:an) (i:Int) (j:Int) (k:fy) (l:bl) (m:fx) (n:c7) (o:bl) (p:c9) (c:an) (e:Int) (a:Int) (b:an) (d:an->Int->Int->an->BY ρ) (u:f4->BY ρ):BY ρ :=
  ifb (ilt a t) (Å (jE h a) fun f=>ifb (igt (Õ f) (Õ c)) (ck (a+(1:Int)) fun v=>d c e v b) (ifb (ieq (Õ f) (Õ c)) (Ë (fun(w:Int) x=>ŷ c f (Õ f) w (fun y=>x y) (fun z=>ifb (ige z 0) (ck (a+(1:Int)) fun A=>d c e A b) (Ë (fun(B:Int) C=>Ş a (Õ b) b B (fun D=>C D) (fun _=>ck (a+(1:Int)) fun E=>d c e E b) (fun _=>Ë (fun(q:f4) F=>ŝ a g (Õ g) h i j k l m n o p q.1 q.2 (fun G H=>F (G,H)) (fun I=>ck (a+(1:Int)) fun J=>d c e J I) (fun K=>ck (a+(1:Int)) fun L=>d f a L K)) ((0:Int),b))) (0:Int))) (fun _=>ifb (ilt (Õ f) (Õ c)) (Ë (fun(M:Int) N=>Ş a (Õ b) b M (fun O=>N O) (fun _=>ck (a+(1:Int)) fun P=>d c e P b) (fun _=>Ë (fun(r:f4) Q=>ŝ a g (Õ g) h i j k l m n o p r.1 r.2 (fun R S=>Q (R,S)) (fun T=>ck (a+(1:Int)) fun U=>d c e U T) (fun V=>ck (a+(1:Int)) fun W=>d f a W V)) ((0:Int),b))) (0:Int)) (ck (a+(1:Int)) fun X=>d c e X b))) (0:Int)) (Ë (fun(Y:Int) Z=>Ş a (Õ b) b Y (fun dc=>Z dc) (fun _=>ck (a+(1:Int)) fun de=>d c e de b) (fun _=>Ë (fun(s:f4) df=>ŝ a g (Õ g) h i j k l m n o p s.1 s.2 (fun dg dh=>df (dg,dh)) (fun di=>ck (a+(1:Int)) fun dj=>d c e dj di) (fun dk=>ck (a+(1:Int)) fun dl=>d f a dl dk)) ((0:Int),b))) (0:Int)))) (u (e,b))
def As (a:a8) (b:an) (k:px->BY ρ):BY ρ :=
  Å (iS a) fun g=>ifb (ine g 0) (k ([],g)) (ifb (igt (Õ b) 8) (k ([],(2:Int))) (Ë (fun(h:Int) i=>iJ b (Õ b) a.1.2.2.2.2.1 h (fun j=>i j) (fun l=>k ([],l)) (fun _=>Ë (fun(m:Int) n=>jV b m (fun o=>n o) (fun p=>k ([],p)) (fun _=>Å (uR a) fun d=>à (ile 0 (Õ b)) (ck ((shlI .i64 (1:Int) (Õ b))-(1:Int)) fun c=>Ë (fun(q:Int) r=>jU d (Õ d) a.1.1.1 a.1.1.2 a.1.2.1 a.1.2.2.1 a.1.2.2.2.1 a.1.2.2.2.2.1 a.1.2.2.2.2.2 a.2 b c q (fun s=>r s) (fun t=>ifb t.2 (k ([],(5:Int))) (Ë (fun(e:(Val (.pair ab bg))) u=>Ÿ d c b a.1.1.1 a.1.1.2 a.1.2.1 a.1.2.2.1 a.1.2.2.2.1 a.1.2.2.2.2.1 a.1.2.2.2.2.2 a.2 e.1 e.2.1 e.2.2.1 e.2.2.2 (fun v w x y=>u (v,w,x,y)) (fun z=>Å (jE b z.1) fun A=>k (A,(0:Int)))) (b,c,(0:Int),[]))) (fun _=>Ë (fun(f:(Val (.pair ab bg))) B=>Ÿ d c b a.1.1.1 a.1.1.2 a.1.2.1 a.1.2.2.1 a.1.2.2.2.1 a.1.2.2.2.2.1 a.1.2.2.2.2.2 a.2 f.1 f.2.1 f.2.2.1 f.2.2.2 (fun C D E F=>B (C,D,E,F)) (fun G=>Å (jE b G.1) fun H=>k (H,(0:Int)))) (b,c,(0:Int),[]))) (0:Int)))) (1:Int))) (0:Int)))
def uS (a:a8) (b:an):BY (px):=As a b some
def l6 (b:an) (c:an) (a:Int) (d:Int->BY ρ) (e:Bool->BY ρ) (f:Unit->BY ρ):BY ρ :=
  ifb (ilt a (Õ b)) (â b a fun g=>â c a fun h=>ifb (ine g h) (e false) (ck (a+(1:Int)) fun i=>d i)) (f ())
def Hu (a:an) (b:an) (k:Bool->BY ρ):BY ρ :=
  ifb (ine (Õ a) (Õ b)) (k false) (Ë (fun(c:Int) d=>l6 a b c (fun e=>d e) (fun f=>k f) (fun _=>k true)) (0:Int))
def Ω (a:an) (b:an):BY (Bool):=Hu a b some
def Fc (a:a7) (y:b5) (b:a7->BY ρ):BY ρ :=
  à (ä ((List.length a)+(List.length ([y])))) (b (a++([y])))
def xG (c:Int) (d:Int) (e:Int) (f:fy) (g:bl) (h:fx) (i:c7) (j:bl) (k:c9) (b:a7) (a:Int) (l:Int->BY ρ) (m:Int->BY ρ) (n:Unit->BY ρ):BY ρ :=
  ifb (ilt a c) (à ((ile 0 a)&&(ilt a (î b))) (Į b (Int.toNat a) fun o=>Å (Χ (((d,e),f,g,h,i,j),k) o) fun p=>ifb (!p) (m a) (ck (a+(1:Int)) fun q=>l q))) (n ())
def ob (f:Int) (g:Int) (h:fy) (i:bl) (j:fx) (k:c7) (l:bl) (m:c9) (b:Int) (c:Int) (a:a7) (d:Int->Int->a7->BY ρ) (n:im->BY ρ):BY ρ :=
  ifb (ilt c (Õ a)) (à ((ile 0 c)&&(ilt c (î a))) (Į a (Int.toNat c) fun e=>Å (Χ (((f,g),h,i,j,k,l),m) e) fun o=>ifb (!(!o)) (à ((ile 0 b)&&(ilt b (î a))) (Į a (Int.toNat b) fun s=>ck (b+(1:Int)) fun p=>ck (c+(1:Int)) fun q=>d p q (List.set a (Int.toNat b) e))) (ck (c+(1:Int)) fun r=>d b r a))) (n (b,a))
def V4 (b:a8) (k:a7->BY ρ):BY ρ :=
  Å (om b.2) fun g=>Bu (fun(h:a7) (i:b5) j=>Fc h i (fun l=>j l)) g ([]) (fun f=>Å (Ļ f (Õ f) b) fun c=>Ë (fun(m:Int) n=>xG (Õ c.1) b.1.1.1 b.1.1.2 b.1.2.1 b.1.2.2.1 b.1.2.2.2.1 b.1.2.2.2.2.1 b.1.2.2.2.2.2 b.2 c.1 m (fun o=>n o) (fun d=>ifb (ieq d (-1:Int)) (k c.1) (ck (d+(1:Int)) fun p=>Ë (fun(e:x9) q=>ob b.1.1.1 b.1.1.2 b.1.2.1 b.1.2.2.1 b.1.2.2.2.1 b.1.2.2.2.2.1 b.1.2.2.2.2.2 b.2 e.1 e.2.1 e.2.2 (fun r s t=>q (r,s,t)) (fun a=>à ((ile 0 a.1)&&(ile a.1 (î a.2))) (à ((ile 0 a.1)&&(ile a.1 (î (List.take (Int.toNat a.1) a.2++List.replicate (List.length a.2-(Int.toNat a.1)) ([])++List.drop ((Int.toNat a.1)+(List.length a.2-(Int.toNat a.1))) a.2)))) (k (List.take (Int.toNat a.1) (List.drop 0 (List.take (Int.toNat a.1) a.2++List.replicate (List.length a.2-(Int.toNat a.1)) ([])++List.drop ((Int.toNat a.1)+(List.length a.2-(Int.toNat a.1))) a.2))))))) (d,p,c.1))) (fun _=>k c.1)) (0:Int))
def IE (a:a8):BY (a7):=V4 a some
def ZZ (a:b6) (d:bx) (k:bx->BY ρ):BY ρ :=
  Å (ż a) fun b=>ifb (ine b 0) (k ((0:Int),b)) (Å (sN a) fun e=>Å (ü e d) fun c=>ifb (ilt c 0) (k ((0:Int),(5:Int))) (ck (c+(1:Int)) fun f=>k (f,(0:Int))))
def sO (a:b6) (b:bx):BY bx:=ZZ a b some
def ym (f:Int) (a:Int) (c:c7) (g:Int->c7->BY ρ) (h:c7->BY ρ):BY ρ :=
  ifb (ilt a f) (à ((ile 0 a)&&(ilt a (î c))) (Į c (Int.toNat a) fun d=>à (ä (List.length d.2.2.1)) (à (ä (List.length d.2.2.2.1)) (à ((ile 0 a)&&(ilt a (î c))) (Į c (Int.toNat a) fun b=>à ((ile 0 a)&&(ilt a (î (List.set c (Int.toNat a) (b.1,b.2.1,d.2.2.1,b.2.2.2))))) (Į (List.set c (Int.toNat a) (b.1,b.2.1,d.2.2.1,b.2.2.2)) (Int.toNat a) fun e=>ck (a+(1:Int)) fun i=>g i (List.set (List.set c (Int.toNat a) (b.1,b.2.1,d.2.2.1,b.2.2.2)) (Int.toNat a) (e.1,e.2.1,e.2.2.1,d.2.2.2.1,e.2.2.2.2)))))))) (h c)
def ad0 (a:b6) (b:bx) (k:AN->BY ρ):BY ρ :=
  Å (ż a) fun c=>ifb (ine c 0) (k ((((0:Int),(0:Int)),[],[],[],[],[]),c)) (à (ä (List.length a.2.1)) (à (ä (List.length a.2.2.1)) (à (ä (List.length a.2.2.2.1)) (à (ä (List.length a.2.2.2.2.2)) (à (ä (List.length a.2.2.2.2.1)) (Ë (fun(d:Val bc) g=>ym (Õ a.2.2.2.2.1) d.1 d.2 (fun h i=>g (h,i)) (fun e=>à (ä ((List.length a.2.2.2.2.2)+(List.length ([b])))) (Å (ż (a.1,a.2.1,a.2.2.1,a.2.2.2.1,e,(a.2.2.2.2.2++([b])))) fun f=>ifb (ine f 0) (k ((((0:Int),(0:Int)),[],[],[],[],[]),f)) (k ((a.1,a.2.1,a.2.2.1,a.2.2.2.1,e,(a.2.2.2.2.2++([b]))),(0:Int)))))) ((0:Int),a.2.2.2.2.1)))))))
def MU (a:b6) (b:bx):BY (AN):=ad0 a b some
def uC (b:an) (c:Int) (d:Int) (e:hO) (a:Int) (f:Int->BY ρ) (g:Int->BY ρ) (h:Unit->BY ρ):BY ρ :=
  ifb (ilt a c) (â b a fun i=>Å (Cz (d,e) i) fun j=>ifb (!j) (g (1:Int)) (ck (a+(1:Int)) fun k=>f k)) (h ())
def ZH (a:ge) (b:an) (k:Int->BY ρ):BY ρ :=
  Å (pL a) fun c=>ifb (ine c.1 0) (k c.1) (Ë (fun(d:Int) e=>uC b (Õ b) a.1 a.2 d (fun f=>e f) (fun g=>k g) (fun _=>Å (mu a ([])) fun h=>ifb (!h.2) (k (9:Int)) (k (0:Int)))) (0:Int))
def IP (a:ge) (b:an):BY (Int):=ZH a b some
def qJ (c:Int) (a:Int) (b:an) (d:Int->an->BY ρ) (e:an->BY ρ):BY ρ :=
  ifb (ilt a c) (à ((ile 0 a)&&(ilt a (î b))) (Į b (Int.toNat a) fun g=>ck (a+(1:Int)) fun f=>d f (List.set b (Int.toNat a) (1152921504606846976:Int)))) (e b)
def xX (c:hO) (d:Int) (b:Int) (a:Int) (e:Int->Int->BY ρ) (f:Int->BY ρ):BY ρ :=
  ifb (ilt a d) (â c a fun g=>ck (b+(abZ g.2.2 (0:Int))) fun h=>ck (a+(1:Int)) fun i=>e h i) (f b)
def xW (f:Int) (d:an) (a:Int) (b:wl) (c:an) (e:Int->wl->an->BY ρ) (g:Val aT->BY ρ):BY ρ :=
  ifb (ilt a f) (à ((ile 0 a)&&(ilt a (î d))) (Į d (Int.toNat a) fun h=>ifb (ine h 1152921504606846976) (à (ä ((List.length c)+(List.length ([a])))) (à ((ile 0 a)&&(ilt a (î b))) (Į b (Int.toNat a) fun k=>ck (a+(1:Int)) fun i=>e i (List.set b (Int.toNat a) true) (c++([a]))))) (ck (a+(1:Int)) fun j=>e j b c))) (g (b,c))
def HF (m:Val au) (j:Int) (d:Int) (n:hO) (o:Int) (f:Int) (b:an) (c:wl) (e:an) (g:Int->an->wl->an->BY ρ) (l:(Val (.pair .bool (.pair ab aT)))->BY ρ) (p:(Val (.pair ab aT))->BY ρ):BY ρ :=
  ifb (ilt f o) (â n f fun a=>ifb (ine a.1 d) (ck (f+(1:Int)) fun q=>g q b c e) (Rh (k:=tI) (v:=.bool) f m (fun r=>ifb r (ck (f+(1:Int)) fun s=>g s b c e) (à ((ile 0 d)&&(ilt d (î b))) (Į b (Int.toNat d) fun t=>ck (t+a.2.2) fun u=>à ((ile 0 a.2.1)&&(ilt a.2.1 (î b))) (Į b (Int.toNat a.2.1) fun w=>ifb (ige u w) (ck (f+(1:Int)) fun x=>g x b c e) (à ((ile 0 d)&&(ilt d (î b))) (Į b (Int.toNat d) fun y=>ck (y+a.2.2) fun h=>à ((ile 0 a.2.1)&&(ilt a.2.1 (î b))) (Į b (Int.toNat a.2.1) fun M=>à ((ile 0 a.2.1)&&(ilt a.2.1 (î (List.set b (Int.toNat a.2.1) h)))) (Į (List.set b (Int.toNat a.2.1) h) (Int.toNat a.2.1) fun z=>ifb (ilt z j) (l (false,(List.set b (Int.toNat a.2.1) h),c,e)) (à ((ile 0 a.2.1)&&(ilt a.2.1 (î c))) (Į c (Int.toNat a.2.1) fun A=>ifb (!A) (à (ä ((List.length e)+(List.length ([a.2.1])))) (à ((ile 0 a.2.1)&&(ilt a.2.1 (î c))) (Į c (Int.toNat a.2.1) fun N=>ck (f+(1:Int)) fun B=>g B (List.set b (Int.toNat a.2.1) h) (List.set c (Int.toNat a.2.1) true) (e++([a.2.1]))))) (ck (f+(1:Int)) fun C=>g C (List.set b (Int.toNat a.2.1) h) c e))))))))))) (à ((ile 0 d)&&(ilt d (î b))) (Į b (Int.toNat d) fun D=>ck (D+a.2.2) fun E=>à ((ile 0 a.2.1)&&(ilt a.2.1 (î b))) (Į b (Int.toNat a.2.1) fun F=>ifb (ige E F) (ck (f+(1:Int)) fun G=>g G b c e) (à ((ile 0 d)&&(ilt d (î b))) (Į b (Int.toNat d) fun H=>ck (H+a.2.2) fun i=>à ((ile 0 a.2.1)&&(ilt a.2.1 (î b))) (Į b (Int.toNat a.2.1) fun O=>à ((ile 0 a.2.1)&&(ilt a.2.1 (î (List.set b (Int.toNat a.2.1) i)))) (Į (List.set b (Int.toNat a.2.1) i) (Int.toNat a.2.1) fun I=>ifb (ilt I j) (l (false,(List.set b (Int.toNat a.2.1) i),c,e)) (à ((ile 0 a.2.1)&&(ilt a.2.1 (î c))) (Į c (Int.toNat a.2.1) fun J=>ifb (!J) (à (ä ((List.length e)+(List.length ([a.2.1])))) (à ((ile 0 a.2.1)&&(ilt a.2.1 (î c))) (Į c (Int.toNat a.2.1) fun P=>ck (f+(1:Int)) fun K=>g K (List.set b (Int.toNat a.2.1) i) (List.set c (Int.toNat a.2.1) true) (e++([a.2.1]))))) (ck (f+(1:Int)) fun L=>g L (List.set b (Int.toNat a.2.1) i) c e)))))))))))) (p (b,c,e))
def xV (l:Val au) (m:Int) (n:Int) (k:hO) (h:an) (d:wl) (b:an) (c:an) (o:an->wl->an->an->BY ρ) (i:(Val (.pair .bool aU))->BY ρ):BY ρ :=
  ifb (ieq (Õ c) 0) (i (true,h,d,b,c)) (à (ilt 0 (î c)) (Į c 0 fun a=>à (ile 1 (î c)) (à (decide (1+(List.length c-1)=List.length c)) (à ((ile 0 a)&&(ilt a (î d))) (Į d (Int.toNat a) fun x=>à ((ile 0 a)&&(ilt a (î b))) (Į b (Int.toNat a) fun p=>ck (p+(1:Int)) fun e=>à ((ile 0 a)&&(ilt a (î b))) (Į b (Int.toNat a) fun y=>à ((ile 0 a)&&(ilt a (î (List.set b (Int.toNat a) e)))) (Į (List.set b (Int.toNat a) e) (Int.toNat a) fun q=>ck (n+(1:Int)) fun r=>ifb (igt q r) (i (false,h,(List.set d (Int.toNat a) false),(List.set b (Int.toNat a) e),(List.drop 1 c))) (Ë (fun(f:ni) s=>HF l m a k (Õ k) f.1 f.2.1 f.2.2.1 f.2.2.2 (fun t u v w=>s (t,u,v,w)) (fun g=>i (g.1,g.2.1,g.2.2.1,(List.set b (Int.toNat a) e),g.2.2.2)) (fun j=>o j.1 j.2.1 (List.set b (Int.toNat a) e) j.2.2)) ((0:Int),h,(List.set d (Int.toNat a) false),(List.drop 1 c)))))))))))
def JP (a:ge) (i:Val au) (b:Int) (k:an->BY ρ):BY ρ :=
  à ((ile 0 a.1)&&(ä (Int.toNat a.1))) (Ë (fun(f:f4) j=>qJ (Õ (List.replicate (Int.toNat a.1) (0:Int))) f.1 f.2 (fun l m=>j (l,m)) (fun c=>à ((ile 0 b)&&(ilt b (î c))) (Į c (Int.toNat b) fun B=>à ((ile 0 a.1)&&(ä (Int.toNat a.1))) (à ((ile 0 a.1)&&(ä (Int.toNat a.1))) (Ë (fun(g:bx) n=>xX a.2 (Õ a.2) g.1 g.2 (fun o p=>n (o,p)) (fun q=>Ë (fun(e:y8) r=>xW a.1 (List.set c (Int.toNat b) (0:Int)) e.1 e.2.1 e.2.2 (fun s t u=>r (s,t,u)) (fun h=>Ë (fun(d:Val aU) v=>xV i q a.1 a.2 d.1 d.2.1 d.2.2.1 d.2.2.2 (fun w x y z=>v (w,x,y,z)) (fun A=>k A.2.1)) ((List.set c (Int.toNat b) (0:Int)),h.1,(List.replicate (Int.toNat a.1) (0:Int)),h.2))) ((0:Int),(List.replicate (Int.toNat a.1) false),[]))) ((0:Int),(0:Int))))))) ((0:Int),(List.replicate (Int.toNat a.1) (0:Int))))
def wW (a:ge) (b:Val au) (c:Int):BY (an):=JP a b c some
def uE (c:Int) (d:Int) (e:hO) (a:Int) (b:an) (f:Int->an->BY ρ) (g:an->BY ρ):BY ρ :=
  ifb (ilt a c) (Å (wW (d,e) ([]) a) fun h=>â h (0:Int) fun i=>à ((ile 0 a)&&(ilt a (î b))) (Į b (Int.toNat a) fun k=>ck (a+(1:Int)) fun j=>f j (List.set b (Int.toNat a) i))) (g b)
def uD (f:an) (g:Int) (c:an) (a:Int) (b:bl) (h:Int->bl->BY ρ) (i:bl->BY ρ):BY ρ :=
  ifb (ilt a g) (à ((ile 0 a)&&(ilt a (î c))) (Į c (Int.toNat a) fun j=>ck (0-j) fun d=>â f a fun e=>à (ä ((List.length b)+(List.length ([(d,e)])))) (ck (a+(1:Int)) fun k=>h k (b++([(d,e)]))))) (i b)
def ZI (a:ge) (k:(Val (.pair aa tI))->BY ρ):BY ρ :=
  Å (IP a ([])) fun b=>ifb (ine b 0) (k ([],b)) (Å (wW a ([]) (0:Int)) fun c=>à ((ile 0 a.1)&&(ä (Int.toNat a.1))) (Ë (fun(d:f4) f=>uE (Õ (List.replicate (Int.toNat a.1) (0:Int))) a.1 a.2 d.1 d.2 (fun g h=>f (g,h)) (fun i=>Ë (fun(e:nj) j=>uD c (Õ c) i e.1 e.2 (fun l m=>j (l,m)) (fun n=>k (n,(0:Int)))) ((0:Int),[]))) ((0:Int),(List.replicate (Int.toNat a.1) (0:Int)))))
def wX (a:ge):BY ((Val (.pair aa tI))):=ZI a some
def TU (a:b6) (b:bx) (k:ly->BY ρ):BY ρ :=
  Å (sO a b) fun f=>ifb (ine f.2 0) (Å (MU a b) fun c=>ifb (ine c.2 0) (k (((0:Int),(0:Int)),c.2)) (Å (sO c.1 b) fun g=>Å (jJ c.1) fun h=>Å (wX h.1) fun d=>ifb (ine d.2 0) (k (((0:Int),(0:Int)),d.2)) (â d.1 g.1 fun i=>k (i,(0:Int))))) (Å (sO a b) fun j=>Å (jJ a) fun l=>Å (wX l.1) fun e=>ifb (ine e.2 0) (k (((0:Int),(0:Int)),e.2)) (â e.1 j.1 fun m=>k (m,(0:Int))))
def Cp (a:b6) (b:bx):BY ly:=TU a b some
def qx (r:Int) (e:Int) (s:a7) (t:Int) (f:Int) (g:Int) (h:fy) (i:bl) (j:fx) (l:c7) (m:bl) (n:c9) (c:Int) (a:Val aY) (o:Int->Val aY->BY ρ) (u:(Val (.pair tI aY))->BY ρ) (w:Val aY->BY ρ):BY ρ :=
  ifb (ilt c t) (â s c fun p=>Å (vr (((f,g),h,i,j,l,m),n) p r e) fun d=>Å (Φ (((f,g),h,i,j,l,m),n) p) fun x=>Å (Cp x (d,e)) fun b=>ifb (ine b.2 0) (u (b.2,a)) (Rh (k:=tI) (v:=Ç) d a (fun q=>ck (c+(1:Int)) fun y=>o y (TM (k:=tI) (v:=Ç) d ((abZ b.1.1 q.1),(SP b.1.2 q.2)) a)) (ck (c+(1:Int)) fun z=>o z (TM (k:=tI) (v:=Ç) d b.1 a)))) (w a)
def qw (f:fy) (g:Int) (h:Val aY) (a:Int) (b:hO) (d:Int->hO->BY ρ) (i:hO->BY ρ):BY ρ :=
  ifb (ilt a g) (â f a fun c=>Rh (k:=tI) (v:=Ç) c.1 h (fun e=>à (ä ((List.length b)+(List.length ([(c.1,e)])))) (ck (a+(1:Int)) fun j=>d j (b++([(c.1,e)])))) (ck (a+(1:Int)) fun l=>d l b)) (i b)
def TW (a:a8) (c:Int) (d:Int) (k:(Val (.pair am tI))->BY ρ):BY ρ :=
  Å (iS a) fun e=>ifb (ine e 0) (k ([],e)) (Å (wO a c d) fun f=>ifb (ine f 0) (k ([],f)) (Å (IE a) fun b=>ifb (ieq (Õ b) 0) (k ([],(5:Int))) (Ë (fun(g:(Val (.pair tI aY))) i=>qx c d b (Õ b) a.1.1.1 a.1.1.2 a.1.2.1 a.1.2.2.1 a.1.2.2.2.1 a.1.2.2.2.2.1 a.1.2.2.2.2.2 a.2 g.1 g.2 (fun j l=>i (j,l)) (fun m=>k ([],m.1)) (fun n=>Ë (fun(h:ge) o=>qw a.1.2.1 (Õ a.1.2.1) n h.1 h.2 (fun p q=>o (p,q)) (fun r=>k (r,(0:Int)))) ((0:Int),[]))) ((0:Int),[]))))
def Cq (a:a8) (b:Int) (c:Int):BY ((Val (.pair am tI))):=TW a b c some
def Cd (c:Int) (a:Int) (b:an) (d:Int->an->BY ρ) (e:an->BY ρ):BY ρ :=
  ifb (ilt a c) (à ((ile 0 a)&&(ilt a (î b))) (Į b (Int.toNat a) fun g=>ck (a+(1:Int)) fun f=>d f (List.set b (Int.toNat a) (1152921504606846976:Int)))) (e b)
def Wq (c:Int) (a:Int) (b:an) (d:Int->an->BY ρ) (e:an->BY ρ):BY ρ :=
  ifb (ilt a c) (à ((ile 0 a)&&(ilt a (î b))) (Į b (Int.toNat a) fun g=>ck (a+(1:Int)) fun f=>d f (List.set b (Int.toNat a) (1152921504606846976:Int)))) (e b)
def HE (d:an) (f:hO) (g:Int) (c:Int) (b:an) (e:Int->an->BY ρ) (h:an->BY ρ):BY ρ :=
  ifb (ilt c g) (â f c fun a=>â d a.2.1 fun i=>ifb (ine i 1152921504606846976) (à ((ile 0 a.1)&&(ilt a.1 (î b))) (Į b (Int.toNat a.1) fun j=>â d a.2.1 fun k=>ck (a.2.2+k) fun l=>à ((ile 0 a.1)&&(ilt a.1 (î b))) (Į b (Int.toNat a.1) fun o=>ck (c+(1:Int)) fun m=>e m (List.set b (Int.toNat a.1) (abZ j l))))) (ck (c+(1:Int)) fun n=>e n b)) (h b)
def MD (i:Int) (b:Int) (d:hO) (e:Int) (a:b5) (j:Int->b5->BY ρ) (k:b5->BY ρ):BY ρ :=
  ifb (ilt e i) (ck ((Õ a)-(1:Int)) fun c=>à ((ile 0 c)&&(ilt c (î a))) (Į a (Int.toNat c) fun l=>à ((ile 0 b)&&(ä (Int.toNat b))) (Ë (fun(f:f4) m=>Wq (Õ (List.replicate (Int.toNat b) (0:Int))) f.1 f.2 (fun n o=>m (n,o)) (fun p=>Ë (fun(g:f4) q=>HE l d (Õ d) g.1 g.2 (fun r s=>q (r,s)) (fun h=>à (ä ((List.length a)+(List.length ([h])))) (ck (e+(1:Int)) fun t=>j t (a++([h]))))) ((0:Int),p))) ((0:Int),(List.replicate (Int.toNat b) (0:Int)))))) (k a)
def ZG (a:ge) (b:Int) (f:Int) (k:b5->BY ρ):BY ρ :=
  à ((ile 0 a.1)&&(ä (Int.toNat a.1))) (Ë (fun(d:f4) g=>Cd (Õ (List.replicate (Int.toNat a.1) (0:Int))) d.1 d.2 (fun h i=>g (h,i)) (fun c=>à ((ile 0 b)&&(ilt b (î c))) (Į c (Int.toNat b) fun o=>Ë (fun(e:pi) j=>MD f a.1 a.2 e.1 e.2 (fun l m=>j (l,m)) (fun n=>k n)) ((0:Int),[(List.set c (Int.toNat b) (0:Int))])))) ((0:Int),(List.replicate (Int.toNat a.1) (0:Int))))
def IM (a:ge) (b:Int) (c:Int):BY (b5):=ZG a b c some
def pz (d:Int) (c:Int) (e:hO) (a:Int) (b:a7) (f:Int->a7->BY ρ) (g:a7->BY ρ):BY ρ :=
  ifb (ilt a d) (Å (IM (c,e) a c) fun h=>à ((ile 0 a)&&(ilt a (î b))) (Į b (Int.toNat a) fun j=>ck (a+(1:Int)) fun i=>f i (List.set b (Int.toNat a) h))) (g b)
def KX (g:Int) (h:b5) (j:hO) (k:Int) (e:Int) (b:Int) (a:Int) (c:an) (f:Int->Int->Int->an->BY ρ) (i:Val bg->BY ρ):BY ρ :=
  ifb (ilt a k) (â j a fun d=>ifb (ieq d.1 e) (ck (g-(1:Int)) fun l=>â h l fun m=>â m d.2.1 fun n=>ifb (ine n 1152921504606846976) (ck (b+d.2.2) fun o=>ck (g-(1:Int)) fun p=>â h p fun q=>â q d.2.1 fun r=>ck (o+r) fun s=>ifb (ilt s 0) (à (ä ((List.length c)+(List.length ([a])))) (ck (b+d.2.2) fun t=>i (d.2.1,t,(c++([a]))))) (ck (a+(1:Int)) fun u=>f e b u c)) (ck (a+(1:Int)) fun v=>f e b v c)) (ck (a+(1:Int)) fun w=>f e b w c)) (i (e,b,c))
def Bi (f:b5) (d:hO) (g:Int) (b:Int) (h:Int) (e:an) (i:Int->Int->Int->an->BY ρ) (j:an->BY ρ):BY ρ :=
  ifb (igt b 0) (Ë (fun(a:At) k=>KX b f d (Õ d) a.1 a.2.1 a.2.2.1 a.2.2.2 (fun l m n o=>k (l,m,n,o)) (fun c=>ck (b-(1:Int)) fun p=>i c.1 p c.2.1 c.2.2)) (g,h,(0:Int),e)) (j e)
def pw (e:Int) (h:hO) (i:Int) (j:Int) (k:hO) (b:a7) (c:Int) (f:Int->BY ρ) (l:Unit->BY ρ) (m:f4->BY ρ) (n:Unit->BY ρ):BY ρ :=
  ifb (ilt c i) (â h c fun a=>à ((ile 0 a.1)&&(ilt a.1 (î b))) (Į b (Int.toNat a.1) fun o=>ck (e-(1:Int)) fun p=>â o p fun q=>â q a.2.1 fun g=>ifb (ieq g 1152921504606846976) (ck (c+(1:Int)) fun r=>f r) (ck (a.2.2+g) fun s=>ifb (ige s 0) (ck (c+(1:Int)) fun t=>f t) (ifb (igt e j) (l ()) (à ((ile 0 a.1)&&(ilt a.1 (î b))) (Į b (Int.toNat a.1) fun u=>Ë (fun(d:At) v=>Bi u k d.1 d.2.1 d.2.2.1 d.2.2.2 (fun w x y z=>v (w,x,y,z)) (fun A=>m ((0:Int),A))) (a.1,e,(0:Int),[]))))))) (n ())
def uF (d:Int) (a:hO) (e:a7) (b:Int) (f:Int->BY ρ) (g:Unit->BY ρ) (h:f4->BY ρ):BY ρ :=
  Ë (fun(i:Int) j=>pw b a (Õ a) d a e i (fun k=>j k) (fun _=>g ()) (fun c=>h (c.1,c.2)) (fun _=>ck (b+(1:Int)) fun l=>f l)) (0:Int)
def PM (a:ge) (k:px->BY ρ):BY ρ :=
  Å (pL a) fun b=>ifb (ine b.1 0) (k ([],b.1)) (Å (mu a ([])) fun e=>ifb e.2 (k ([],(5:Int))) (à ((ile 0 a.1)&&(ä (Int.toNat a.1))) (Ë (fun(c:im) f=>pz (Õ (List.replicate (Int.toNat a.1) ([]:b5))) a.1 a.2 c.1 c.2 (fun g h=>f (g,h)) (fun i=>Ë (fun(j:Int) l=>uF a.1 a.2 i j (fun m=>l m) (fun _=>k ([],(5:Int))) (fun d=>k (d.2,d.1))) (1:Int))) ((0:Int),(List.replicate (Int.toNat a.1) ([]:b5))))))
def nk (a:ge):BY (px):=PM a some
def tV (d:a7) (e:Int) (f:Int) (g:Int) (h:fy) (i:bl) (j:fx) (k:c7) (l:bl) (m:c9) (b:Int) (a:b5) (n:Int->b5->BY ρ) (o:pi->BY ρ) (p:b5->BY ρ):BY ρ :=
  ifb (ilt b e) (â d b fun q=>Å (Φ (((f,g),h,i,j,k,l),m) q) fun r=>Å (jJ r) fun s=>Å (nk s.1) fun c=>ifb (ine c.2 0) (o ((5:Int),a)) (à (ä ((List.length a)+(List.length ([c.1])))) (ck (b+(1:Int)) fun t=>n t (a++([c.1]))))) (p a)
def Zb (a:a8) (k:py->BY ρ):BY ρ :=
  Å (iS a) fun b=>ifb (ine b 0) (k ([],b)) (Å (uR a) fun c=>Ë (fun(d:pi) e=>tV c (Õ c) a.1.1.1 a.1.1.2 a.1.2.1 a.1.2.2.1 a.1.2.2.2.1 a.1.2.2.2.2.1 a.1.2.2.2.2.2 a.2 d.1 d.2 (fun f g=>e (f,g)) (fun h=>k ([],h.1)) (fun i=>k (i,(0:Int)))) ((0:Int),[]))
def Bw (a:a8):BY (py):=Zb a some
def oK (d:an) (e:Int) (f:hO) (a:Int) (g:Int->BY ρ) (b:Int->BY ρ) (h:Unit->BY ρ):BY ρ :=
  ifb (ilt a e) (â d a fun c=>ifb (ilt c 0) (b a) (ifb (ige c (Õ f)) (b a) (ck (a+(1:Int)) fun i=>g i))) (h ())
def PA (b:ge) (a:an) (k:Int->BY ρ):BY ρ :=
  ifb (igt (Õ a) 80) (k (2:Int)) (Ë (fun(c:Int) d=>oK a (Õ a) b.2 c (fun e=>d e) (fun f=>ifb (ige f 0) (k (1:Int)) (k (0:Int))) (fun _=>k (0:Int))) (0:Int))
def yC (a:ge) (b:an):BY (Int):=PA a b some
def xU (e:an) (f:Int) (g:hO) (c:Int) (d:Int) (a:Int) (h:Int->Int->Int->BY ρ) (i:Val bh->BY ρ) (j:bx->BY ρ):BY ρ :=
  ifb (ilt a f) (â e a fun k=>â g k fun b=>ifb (ine b.1 c) (i ((0:Int),(0:Int),false)) (ck (d+b.2.2) fun l=>ck (a+(1:Int)) fun m=>h b.2.1 l m)) (j (c,d))
def adP (e:ge) (f:Int) (c:an) (k:Val bh->BY ρ):BY ρ :=
  Ë (fun(a:qs) g=>xU c (Õ c) e.2 a.1 a.2.1 a.2.2 (fun h i j=>g (h,i,j)) (fun b=>k (b.1,b.2.1,b.2.2)) (fun d=>k (d.1,d.2,true))) (f,(0:Int),(0:Int))
def MR (a:ge) (b:Int) (c:an):BY ((Val bh)):=adP a b c some
def Eo (a:ge) (b:an) (k:Int->BY ρ):BY ρ :=
  Å (pL a) fun d=>ifb (ine d.1 0) (k d.1) (Å (yC a b) fun e=>ifb (ine e 0) (k e) (ifb (ieq (Õ b) 0) (k (8:Int)) (â b (0:Int) fun g=>â a.2 g fun f=>Å (MR a f.1 b) fun c=>ifb (!c.2.2) (k (8:Int)) (ifb (ine c.1 f.1) (k (8:Int)) (ifb (ige c.2.1 0) (k (8:Int)) (k (0:Int)))))))
def oO (a:ge) (b:an):BY (Int):=Eo a b some
def kE (b:b5) (c:a7) (d:Int) (e:Int) (f:Int) (g:fy) (h:bl) (i:fx) (j:c7) (k:bl) (l:c9) (a:Int) (m:Int->BY ρ) (n:Int->BY ρ) (o:Unit->BY ρ):BY ρ :=
  ifb (ilt a d) (â c a fun p=>Å (Φ (((e,f),g,h,i,j,k),l) p) fun q=>Å (jJ q) fun r=>â b a fun s=>Å (oO r.1 s) fun t=>ifb (ine t 0) (n (8:Int)) (ck (a+(1:Int)) fun u=>m u)) (o ())
def DC (a:a8) (c:b5) (k:Int->BY ρ):BY ρ :=
  Å (iS a) fun d=>ifb (ine d 0) (k d) (Å (uR a) fun b=>ifb (ine (Õ c) (Õ b)) (k (8:Int)) (Ë (fun(e:Int) f=>kE c b (Õ b) a.1.1.1 a.1.1.2 a.1.2.1 a.1.2.2.1 a.1.2.2.2.1 a.1.2.2.2.2.1 a.1.2.2.2.2.2 a.2 e (fun g=>f g) (fun h=>k h) (fun _=>k (0:Int))) (0:Int)))
def jF (a:a8) (b:b5):BY (Int):=DC a b some
def adB (a:a8) (k:AS->BY ρ):BY ρ :=
  Å (iS a) fun b=>ifb (ine b 0) (k ([],b)) (Å (uR a) fun c=>k (c,(0:Int)))
def MM (a:a8):BY (AS):=adB a some
def YZ (a:c7) (k:a8->BY ρ):BY ρ :=
  à (ä ((List.length ([((7:Int),(10:Int),[(1:Int)],[(2:Int)],(-20:Int),(1:Int),(100:Int),(200:Int))]))+(List.length a))) (k ((((0:Int),(2:Int)),[((1:Int),(0:Int),(1000:Int),((-5:Int),(5:Int)),((1:Int),(10:Int)),(1:Int)),((2:Int),(0:Int),(1000:Int),((-50:Int),(50:Int)),((1:Int),(4:Int)),(0:Int)),((3:Int),(0:Int),(1100:Int),((-1:Int),(1:Int)),((0:Int),(1:Int)),(0:Int))],[((1:Int),(10:Int))],[((1:Int),((20:Int),(29:Int)),(3:Int))],(([((7:Int),(10:Int),[(1:Int)],[(2:Int)],(-20:Int),(1:Int),(100:Int),(200:Int))])++a),[]),[((12:Int),[(2:Int),(3:Int)])]))
def Ű (a:c7):BY a8:=YZ a some
def aic (a:a8) (k:AS->BY ρ):BY ρ :=
  Å (iS a) fun b=>ifb (ine b 0) (k ([],b)) (Å (IE a) fun c=>k (c,(0:Int)))
def W6 (a:a8):BY (AS):=aic a some
def Zc (a:a8) (k:py->BY ρ):BY ρ :=
  Å (iS a) fun b=>ifb (ine b 0) (k ([],b)) (Å (Ć a) fun c=>ifb (!c.2) (k ([],(5:Int))) (k (c.1,(0:Int))))
def IF (a:a8):BY (py):=Zc a some
def Aj (a:an) (y:Int) (b:an->BY ρ):BY ρ :=
  à (ä ((List.length a)+(List.length ([y])))) (b (a++([y])))
def tO (h:b5) (i:Int) (j:c9) (c:Int) (k:Int->BY ρ) (d:Bool->BY ρ) (l:Unit->BY ρ):BY ρ :=
  ifb (ilt c i) (â h c fun e=>â j c fun f=>ifb (ine (Õ e) (Õ f.2)) (d false) (Å (Ci e) fun m=>Bu (fun(n:an) (o:Int) p=>Aj n o (fun q=>p q)) m ([]) (fun g=>à (ä (List.length g)) (Å (IA (zB g)) fun a=>Å (IA f.2) fun b=>ifb (!((oQ a.1 b.1)&&((oQ a.2.1 b.2.1)&&((oQ a.2.2.1 b.2.2.1)&&((oQ a.2.2.2.1 b.2.2.2.1)&&((oQ a.2.2.2.2 b.2.2.2.2)&&true)))))) (d false) (ck (c+(1:Int)) fun r=>k r))))) (l ())
def Oj (b:a8) (a:b5) (k:Bool->BY ρ):BY ρ :=
  ifb (ine (Õ a) (Õ b.2)) (k false) (Ë (fun(c:Int) d=>tO a (Õ a) b.2 c (fun e=>d e) (fun f=>k f) (fun _=>k true)) (0:Int))
def IB (a:a8) (b:b5):BY (Bool):=Oj a b some
def Za (a:a8) (c:b5) (k:Int->BY ρ):BY ρ :=
  Å (iS a) fun b=>ifb (ine b 0) (k b) (Å (IB a c) fun d=>ifb (!d) (k (1:Int)) (k (0:Int)))
def Bv (a:a8) (b:b5):BY (Int):=Za a b some
def aia (a:a8) (b:b5) (c:Int) (d:Int) (k:bx->BY ρ):BY ρ :=
  Å (Bv a b) fun e=>ifb (ine e 0) (k ((0:Int),e)) (Å (wO a c d) fun f=>ifb (ine f 0) (k ((0:Int),f)) (Å (vr a b c d) fun g=>k (g,(0:Int))))
def W5 (a:a8) (b:b5) (c:Int) (d:Int):BY bx:=aia a b c d some
def mY (b:b5) (c:b5) (a:Int) (d:Int->BY ρ) (e:Bool->BY ρ) (f:Unit->BY ρ):BY ρ :=
  ifb (ilt a (Õ b)) (â b a fun g=>â c a fun h=>Å (Ω g h) fun i=>ifb (!i) (e false) (ck (a+(1:Int)) fun j=>d j)) (f ())
def KT (a:b5) (b:b5) (k:Bool->BY ρ):BY ρ :=
  ifb (ine (Õ a) (Õ b)) (k false) (Ë (fun(c:Int) d=>mY a b c (fun e=>d e) (fun f=>k f) (fun _=>k true)) (0:Int))
def uU (a:b5) (b:b5):BY (Bool):=KT a b some
def EV (k:Bool->BY ρ):BY ρ :=
  Å (Ű ([])) fun m=>Å (MM m) fun b=>Å (Ű ([])) fun n=>Å (W6 n) fun f=>Å (Ű ([((8:Int),(15:Int),[(2:Int)],[(1:Int)],(100:Int),(1:Int),(0:Int),(0:Int))])) fun o=>Å (IF o) fun g=>Å (Ű ([((8:Int),(15:Int),[(2:Int)],[(1:Int)],(100:Int),(1:Int),(0:Int),(0:Int))])) fun p=>Å (Cq p (2:Int) (15:Int)) fun c=>Å (Ű ([((8:Int),(15:Int),[(2:Int)],[(1:Int)],(100:Int),(1:Int),(0:Int),(0:Int)),((9:Int),(15:Int),[(3:Int)],[],(1100:Int),(0:Int),(0:Int),(0:Int))])) fun a=>Å (MN a) fun h=>Å (uS a ([(7:Int),(8:Int),(9:Int)])) fun i=>Å (qN a (2:Int)) fun j=>ifb (ine b.2 0) (k false) (ifb (ine f.2 0) (k false) (ifb (ine g.2 0) (k false) (ifb (ine c.2 0) (k false) (ifb (ine h.2 0) (k false) (ifb (ine i.2 0) (k false) (ifb (ine j.2 0) (k false) (ifb (ine (Õ b.1) 2) (k false) (ifb (ine (Õ f.1) 2) (k false) (ifb j.1 (k false) (Å (Bw a) fun d=>â b.1 (1:Int) fun q=>Å (W5 a q (2:Int) (13:Int)) fun l=>ifb (ine d.2 0) (k false) (ifb (ine l.2 0) (k false) (ifb (ine l.1 3) (k false) (Å (jF a d.1) fun r=>ifb (ine r 0) (k false) (Å (Ű ([])) fun s=>Å (jF s d.1) fun t=>ifb (ine t 8) (k false) (Å (uU g.1 ([[(3:Int),(2:Int)]])) fun u=>ifb u (ifb (ieq (Õ c.1) 1) (â c.1 (0:Int) fun e=>ifb ((oQ e.1 (3:Int))&&((oQ e.2.1 (1099:Int))&&((oQ e.2.2 (1101:Int))&&true))) (Å (Ω h.1 ([(8:Int),(9:Int)])) fun v=>ifb v (Å (Ω i.1 ([(8:Int),(9:Int)])) fun w=>k w) (k false)) (k false)) (k false)) (k false))))))))))))))))
def ξ:BY (Bool):=EV some
def aif (a:Int) (b:Int) (c:Int) (k:Bool->BY ρ):BY ρ :=
  ifb (ige a b) (k (ile a c)) (k false)
def jM (a:Int) (b:Int) (c:Int):BY (Bool):=aif a b c some
def adI (a:Int) (k:Bool->BY ρ):BY ρ :=
  Å (jM a (0:Int) (20000:Int)) fun b=>k b
def yA (a:Int):BY (Bool):=adI a some
def xS (b:an) (c:Int) (a:Int) (d:Int->BY ρ) (e:Bool->BY ρ) (f:Unit->BY ρ):BY ρ :=
  ifb (ilt a (Õ b)) (â b a fun g=>ifb (ieq g c) (e true) (ck (a+(1:Int)) fun h=>d h)) (f ())
def adH (a:an) (b:Int) (k:Bool->BY ρ):BY ρ :=
  Ë (fun(c:Int) d=>xS a b c (fun e=>d e) (fun f=>k f) (fun _=>k false)) (0:Int)
def MP (a:an) (b:Int):BY (Bool):=adH a b some
def uw (c:an) (f:an) (a:Int) (b:an) (d:Int->an->BY ρ) (g:an->BY ρ):BY ρ :=
  ifb (ilt a (Õ c)) (â c a fun h=>Å (MP f h) fun i=>ifb (!i) (â c a fun e=>à (ä ((List.length b)+(List.length ([e])))) (ck (a+(1:Int)) fun j=>d j (b++([e])))) (ck (a+(1:Int)) fun k=>d k b)) (g b)
def Zw (b:an) (c:an) (k:an->BY ρ):BY ρ :=
  Ë (fun(a:f4) d=>uw b c a.1 a.2 (fun e f=>d (e,f)) (fun g=>k g)) ((0:Int),[])
def lO (a:an) (b:an):BY (an):=Zw a b some
def adF (b:an) (c:an) (k:Int->BY ρ):BY ρ :=
  Å (lO b c) fun a=>ifb (ieq (Õ a) 0) (k (0:Int)) (â a (0:Int) fun d=>k d)
def ng (a:an) (b:an):BY (Int):=adF a b some
def uk (g:Int) (c:c7) (d:Int) (b:Int) (e:Int->BY ρ) (f:Bool->BY ρ) (h:Unit->BY ρ):BY ρ :=
  ifb (ilt b (Õ c)) (â c b fun a=>ifb (ieq a.2.1 g) (Å (ng a.2.2.1 a.2.2.2.1) fun i=>ifb (ieq i d) (f true) (Å (ng a.2.2.2.1 a.2.2.1) fun j=>ifb (ieq j d) (f true) (ck (b+(1:Int)) fun k=>e k))) (ck (b+(1:Int)) fun l=>e l)) (h ())
def pr (d:Int) (b:bl) (e:Int) (a:Int) (c:Int->BY ρ) (f:Bool->BY ρ) (g:Unit->BY ρ):BY ρ :=
  ifb (ilt a (Õ b)) (â b a fun h=>ifb (ieq h.1 e) (â b a fun i=>ifb (ieq i.2 d) (f true) (ck (a+(1:Int)) fun j=>c j)) (ck (a+(1:Int)) fun k=>c k)) (g ())
def Zn (c:b6) (a:pc) (b:Int) (k:Bool->BY ρ):BY ρ :=
  ifb (ieq a.2.1 b) (k true) (Ë (fun(d:Int) e=>uk b c.2.2.2.2.1 a.1 d (fun f=>e f) (fun g=>k g) (fun _=>Ë (fun(h:Int) i=>pr b c.2.2.2.2.2 a.1 h (fun j=>i j) (fun l=>k l) (fun _=>k false)) (0:Int))) (0:Int))
def IH (a:b6) (b:pc) (c:Int):BY (Bool):=Zn a b c some
def qF (c:fy) (a:Int) (b:an) (e:Int->an->BY ρ) (f:an->BY ρ):BY ρ :=
  ifb (ilt a (Õ c)) (â c a fun d=>à (ä ((List.length b)+(List.length ([d.2.1])))) (ck (a+(1:Int)) fun g=>e g (b++([d.2.1])))) (f b)
def qE (c:c7) (a:Int) (b:an) (e:Int->an->BY ρ) (f:an->BY ρ):BY ρ :=
  ifb (ilt a (Õ c)) (â c a fun d=>à (ä ((List.length b)+(List.length ([d.2.1])))) (ck (a+(1:Int)) fun g=>e g (b++([d.2.1])))) (f b)
def qD (c:bl) (a:Int) (b:an) (e:Int->an->BY ρ) (f:an->BY ρ):BY ρ :=
  ifb (ilt a (Õ c)) (â c a fun d=>à (ä ((List.length b)+(List.length ([d.2])))) (ck (a+(1:Int)) fun g=>e g (b++([d.2])))) (f b)
def m8 (e:Int) (b:an) (c:Int) (a:Int) (d:Int->Int->BY ρ) (f:Int->BY ρ):BY ρ :=
  ifb (ilt a (Õ b)) (à ((ile 0 a)&&(ilt a (î b))) (Į b (Int.toNat a) fun g=>ifb (igt g e) (à ((ile 0 a)&&(ilt a (î b))) (Į b (Int.toNat a) fun h=>ck (a+(1:Int)) fun i=>d (abZ c h) i)) (ck (a+(1:Int)) fun j=>d c j))) (f c)
def m9 (e:Int) (i:Int) (j:Int) (c:fy) (k:bl) (l:fx) (m:c7) (n:bl) (o:an) (f:Int) (b:bl) (d:Int->bl->BY ρ) (p:bl->BY ρ):BY ρ :=
  ifb (ilt f 20001) (Ë (fun(g:bx) q=>m8 f o g.1 g.2 (fun r s=>q (r,s)) (fun a=>ifb (ilt a 20001) (â c e fun t=>Å (IH ((i,j),c,k,l,m,n) t a) fun u=>ifb u (â c e fun h=>à (ä ((List.length b)+(List.length ([(h.1,a)])))) (d a (b++([(h.1,a)])))) (d a b)) (d a b))) ((20001:Int),(0:Int))) (p b)
def qC (e:Int) (f:Int) (b:fy) (g:bl) (h:fx) (i:c7) (j:bl) (k:an) (a:Int) (c:bl) (l:Int->bl->BY ρ) (m:bl->BY ρ):BY ρ :=
  ifb (ilt a (Õ b)) (Ë (fun(d:nj) n=>m9 a e f b g h i j k d.1 d.2 (fun o p=>n (o,p)) (fun q=>ck (a+(1:Int)) fun r=>l r q)) ((-1:Int),c)) (m c)
def T7 (a:b6) (k:bl->BY ρ):BY ρ :=
  Ë (fun(b:f4) f=>qF a.2.1 b.1 b.2 (fun g h=>f (g,h)) (fun i=>Ë (fun(c:f4) j=>qE a.2.2.2.2.1 c.1 c.2 (fun l m=>j (l,m)) (fun n=>Ë (fun(d:f4) o=>qD a.2.2.2.2.2 d.1 d.2 (fun p q=>o (p,q)) (fun r=>Ë (fun(e:nj) s=>qC a.1.1 a.1.2 a.2.1 a.2.2.1 a.2.2.2.1 a.2.2.2.2.1 a.2.2.2.2.2 r e.1 e.2 (fun t u=>s (t,u)) (fun v=>k v)) ((0:Int),[]))) ((0:Int),n))) ((0:Int),i))) ((0:Int),[])
def iU (a:b6):BY (bl):=T7 a some
def qG (b:bl) (d:Int) (e:Int) (a:Int) (f:Int->BY ρ) (g:Int->BY ρ) (h:Unit->BY ρ):BY ρ :=
  ifb (ilt a (Õ b)) (â b a fun c=>ifb ((oQ c.1 d)&&((oQ c.2 e)&&true)) (ck (a+(1:Int)) fun i=>g i) (ck (a+(1:Int)) fun j=>f j)) (h ())
def T8 (b:b6) (a:bx) (k:Int->BY ρ):BY ρ :=
  Å (iU b) fun c=>Ë (fun(d:Int) e=>qG c a.1 a.2 d (fun f=>e f) (fun g=>k g) (fun _=>k (0:Int))) (0:Int)
def jH (a:b6) (b:bx):BY (Int):=T8 a b some
def uB (c:Int) (b:fy) (a:Int) (d:Int->BY ρ) (e:Int->BY ρ) (f:Unit->BY ρ):BY ρ :=
  ifb (ilt a (Õ b)) (â b a fun g=>ifb (ieq g.1 c) (e a) (ck (a+(1:Int)) fun h=>d h)) (f ())
def Zy (a:b6) (b:Int) (k:Int->BY ρ):BY ρ :=
  Ë (fun(c:Int) d=>uB b a.2.1 c (fun e=>d e) (fun f=>k f) (fun _=>k (-1:Int))) (0:Int)
def kj (a:b6) (b:Int):BY (Int):=Zy a b some
def uu (j:Int) (h:Int) (i:fx) (b:Int) (c:Int) (d:Int) (e:Int) (f:Int) (g:Int->Int->Int->Int->Int->BY ρ) (k:(Val (.pair .bool (.pair tI ģ)))->BY ρ) (l:(Val (.pair tI ģ))->BY ρ):BY ρ :=
  ifb (ilt b (Õ i)) (â i b fun a=>ifb (ieq a.1 j) (ifb (ile a.2.1.1 h) (ifb (ile h a.2.1.2) (k (true,a.1,a.2.1.1,a.2.1.2,a.2.2)) (ck (b+(1:Int)) fun m=>g m c d e f)) (ck (b+(1:Int)) fun n=>g n c d e f)) (ck (b+(1:Int)) fun o=>g o c d e f)) (l (c,d,e,f))
def Zv (c:b6) (d:Int) (e:Int) (k:r8->BY ρ):BY ρ :=
  Ë (fun(a:Val bo) f=>uu d e c.2.2.2.1 a.1 a.2.1 a.2.2.1 a.2.2.2.1 a.2.2.2.2 (fun g h i j l=>f (g,h,i,j,l)) (fun b=>k ((b.2.1,(b.2.2.1,b.2.2.2.1),b.2.2.2.2),b.1)) (fun m=>k (((0:Int),((0:Int),(0:Int)),(0:Int)),false))) ((0:Int),(0:Int),(0:Int),(0:Int),(0:Int))
def ki (a:b6) (b:Int) (c:Int):BY (r8):=Zv a b c some
def un (d:Int) (e:Int) (b:bl) (a:Int) (c:Int->BY ρ) (f:Bool->BY ρ) (g:Unit->BY ρ):BY ρ :=
  ifb (ilt a (Õ b)) (â b a fun h=>ifb (ieq h.1 d) (â b a fun i=>ifb (ieq i.2 e) (f true) (ck (a+(1:Int)) fun j=>c j)) (ck (a+(1:Int)) fun k=>c k)) (g ())
def Zo (a:b6) (b:Int) (c:Int) (k:Bool->BY ρ):BY ρ :=
  Ë (fun(d:Int) e=>un b c a.2.2.1 d (fun f=>e f) (fun g=>k g) (fun _=>k false)) (0:Int)
def II (a:b6) (b:Int) (c:Int):BY (Bool):=Zo a b c some
def ut (d:Int) (m:Int) (n:Int) (e:Int) (f:Int) (g:fy) (h:bl) (i:fx) (j:c7) (k:bl) (b:Int) (a:Int) (c:Int->Int->BY ρ) (o:Int->BY ρ):BY ρ :=
  ifb (ilt a m) (Å (ki ((e,f),g,h,i,j,k) d a) fun l=>ifb l.2 (ck (b+l.1.2.2) fun p=>ck (a+(1:Int)) fun q=>c p q) (Å (II ((e,f),g,h,i,j,k) d a) fun r=>ifb r (ck (b+n) fun s=>ck (a+(1:Int)) fun t=>c s t) (ck (a+(1:Int)) fun u=>c b u))) (o b)
def Zu (a:b6) (b:Int) (d:Int) (e:Int) (k:Int->BY ρ):BY ρ :=
  Å (kj a b) fun f=>â a.2.1 f fun g=>Ë (fun(c:bx) h=>ut b e g.2.2.2.2.2 a.1.1 a.1.2 a.2.1 a.2.2.1 a.2.2.2.1 a.2.2.2.2.1 a.2.2.2.2.2 c.1 c.2 (fun i j=>h (i,j)) (fun l=>k l)) ((0:Int),d)
def nh (a:b6) (b:Int) (c:Int) (d:Int):BY (Int):=Zu a b c d some
def xT (b:Int) (a:Int) (c:Int->Int->BY ρ) (d:Int->BY ρ):BY ρ :=
  ifb (ine a 0) (ifb (oQ a 0) (none) (c a (Int.tmod b a))) (d b)
def adM (b:Int) (c:Int) (k:Int->BY ρ):BY ρ :=
  Ë (fun(a:bx) d=>xT a.1 a.2 (fun e f=>d (e,f)) (fun g=>k g)) (b,c)
def Cy (a:Int) (b:Int):BY (Int):=adM a b some
def adO (a:Int) (k:Int->BY ρ):BY ρ :=
  ifb (ilt a 0) (ck ((0:Int)-a) fun b=>k b) (k a)
def IL (a:Int):BY (Int):=adO a some
def Pz (b:Int) (a:Int) (k:ly->BY ρ):BY ρ :=
  ifb (ine b 0) (ifb (oQ a 0) (none) (Å (IL (Int.tmod b a)) fun h=>Å (Cy h a) fun c=>ifb (oQ c 0) (none) (ck (Int.tdiv b c) fun d=>ifb (oQ c 0) (none) (ck (Int.tdiv a c) fun f=>ifb (igt f 2147483647) (k (((0:Int),(0:Int)),(3:Int))) (ifb (ilt d (-2147483647:Int)) (k (((0:Int),(0:Int)),(3:Int))) (ifb (igt d 2147483647) (k (((0:Int),(0:Int)),(3:Int))) (k ((d,f),(0:Int))))))))) (ifb (oQ a 0) (none) (ck (Int.tdiv b a) fun e=>ifb (oQ a 0) (none) (ck (Int.tdiv a a) fun g=>ifb (igt g 2147483647) (k (((0:Int),(0:Int)),(3:Int))) (ifb (ilt e (-2147483647:Int)) (k (((0:Int),(0:Int)),(3:Int))) (ifb (igt e 2147483647) (k (((0:Int),(0:Int)),(3:Int))) (k ((e,g),(0:Int))))))))
def sL (a:Int) (b:Int):BY ly:=Pz a b some
def adN (a:bx) (b:bx) (k:ly->BY ρ):BY ρ :=
  ck (a.1*b.2) fun c=>ck (b.1*a.2) fun d=>ck (c+d) fun e=>ck (a.2*b.2) fun f=>Å (sL e f) fun g=>k g
def W8 (a:bx) (b:bx):BY ly:=adN a b some
def adK (a:bx) (k:bx->BY ρ):BY ρ :=
  ck ((0:Int)-a.1) fun b=>k (b,a.2)
def W7 (a:bx):BY bx:=adK a some
def adJ (a:bx) (b:bx) (k:ly->BY ρ):BY ρ :=
  Å (W7 b) fun c=>Å (W8 a c) fun d=>k d
def MQ (a:bx) (b:bx):BY ly:=adJ a b some
def T3 (a:b6) (b:Int) (k:bx->BY ρ):BY ρ :=
  ifb (ieq b 0) (k ((0:Int),(1:Int))) (Å (kj a b) fun c=>â a.2.1 c fun d=>k d.2.2.2.2.1)
def wR (a:b6) (b:Int):BY bx:=T3 a b some
def ZB (a:ly) (b:ly) (k:Val FW->BY ρ):BY ρ :=
  ifb (ine a.2 0) (k ((((0:Int),(0:Int)),(0:Int),(0:Int)),a.2)) (ifb (ine b.2 0) (k ((((0:Int),(0:Int)),(0:Int),(0:Int)),b.2)) (k ((a.1,b.1),(0:Int))))
def IK (a:ly) (b:ly):BY (Val FW):=ZB a b some
def adL (a:bx) (b:bx) (k:ly->BY ρ):BY ρ :=
  ck (a.1*b.1) fun c=>ck (a.2*b.2) fun d=>Å (sL c d) fun e=>k e
def yB (a:bx) (b:bx):BY ly:=adL a b some
def Uc (b:kw) (a:bx) (k:Val FW->BY ρ):BY ρ :=
  ifb (ilt a.1 0) (Å (yB b.2 a) fun c=>Å (yB b.1 a) fun d=>Å (IK c d) fun e=>k e) (Å (yB b.1 a) fun f=>Å (yB b.2 a) fun g=>Å (IK f g) fun h=>k h)
def Cx (a:kw) (b:bx):BY (Val FW):=Uc a b some
def Pp (b:b6) (a:io) (k:kw->BY ρ):BY ρ :=
  Å (ng a.2.2.1 a.2.2.2.1) fun c=>Å (wR b c) fun d=>Å (ng a.2.2.2.1 a.2.2.1) fun e=>Å (wR b e) fun f=>Å (MQ d f) fun g=>Å (Cx ((a.2.2.2.2.2.2.1,(1:Int)),a.2.2.2.2.2.2.2,(1:Int)) g.1) fun h=>k h.1
def sK (a:b6) (b:io):BY kw:=Pp a b some
def Ua (a:b6) (b:io) (k:bx->BY ρ):BY ρ :=
  ck ((Õ b.2.2.1)-(1:Int)) fun c=>ck ((Õ b.2.2.2.1)-(1:Int)) fun d=>ck ((SP (0:Int) c)*a.1.1) fun e=>ck ((SP (0:Int) d)*a.1.2) fun f=>ck (e-f) fun g=>ck ((SP (0:Int) c)*a.1.2) fun h=>ck ((SP (0:Int) d)*a.1.1) fun i=>ck (h-i) fun j=>k (g,j)
def wU (a:b6) (b:io):BY bx:=Ua a b some
def aih (b:Int) (a:Int) (k:Int->BY ρ):BY ρ :=
  ifb (oQ a 0) (none) (ck (Int.tdiv b a) fun c=>ifb (oQ a 0) (none) (ifb (igt (Int.tmod b a) 0) (ck (c+1) fun d=>k d) (k c)))
def ab8 (a:Int) (b:Int):BY (Int):=aih a b some
def ZF (a:bx) (k:Int->BY ρ):BY ρ :=
  Å (ab8 a.1 a.2) fun b=>k b
def BA (a:bx):BY (Int):=ZF a some
def ZA (b:Int) (a:Int) (k:Int->BY ρ):BY ρ :=
  ifb (oQ a 0) (none) (ck (Int.tdiv b a) fun c=>ifb (oQ a 0) (none) (ifb (ilt (Int.tmod b a) 0) (ck (c-1) fun d=>k d) (k c)))
def Qz (a:Int) (b:Int):BY (Int):=ZA a b some
def Ue (a:bx) (k:Int->BY ρ):BY ρ :=
  Å (Qz a.1 a.2) fun b=>k b
def wV (a:bx):BY (Int):=Ue a some
def Zr (b:b6) (a:io) (k:bx->BY ρ):BY ρ :=
  Å (sK b a) fun c=>Å (wU b a) fun d=>ck (a.2.2.2.2.1-a.2.2.2.2.2.1) fun e=>ck (e-d.2) fun f=>Å (wV c.2) fun g=>ck (f-g) fun h=>ck (a.2.2.2.2.1+a.2.2.2.2.2.1) fun i=>ck (i-d.1) fun j=>Å (BA c.1) fun l=>ck (j-l) fun m=>k (h,m)
def wS (a:b6) (b:io):BY bx:=Zr a b some
def sj (e:bl) (b:Int) (p:Int) (q:Int) (r:fy) (s:bl) (t:fx) (u:c7) (v:bl) (g:Int) (w:Int) (h:Int) (x:Int) (y:Int) (a:Int) (c:hO) (d:bl) (f:Int->hO->bl->BY ρ) (z:Val De->BY ρ):BY ρ :=
  ifb (ilt a (Õ e)) (â e a fun A=>ifb (ine A.1 g) (ck (a+(1:Int)) fun B=>f B c d) (â e a fun C=>ifb (ieq C.2 w) (ck (a+(1:Int)) fun i=>ck (h+y) fun j=>ck (a+(1:Int)) fun k=>ck ((0:Int)-h) fun D=>ck (D-x) fun l=>à (ä ((List.length c)+(List.length ([((0:Int),i,j),(k,(0:Int),l)])))) (à (ä ((List.length d)+(List.length ([((1:Int),b),((1:Int),b)])))) (ck (a+(1:Int)) fun E=>f E (c++([((0:Int),i,j),(k,(0:Int),l)])) (d++([((1:Int),b),((1:Int),b)]))))) (ck (a-(1:Int)) fun F=>â e F fun G=>â e a fun H=>Å (nh ((p,q),r,s,t,u,v) g G.2 H.2) fun m=>ck (a+(1:Int)) fun n=>ck (a+(1:Int)) fun o=>à (ä ((List.length c)+(List.length ([(a,n,(0:Int)),(o,a,m)])))) (à (ä ((List.length d)+(List.length ([((2:Int),b),((2:Int),b)])))) (ck (a+(1:Int)) fun I=>f I (c++([(a,n,(0:Int)),(o,a,m)])) (d++([((2:Int),b),((2:Int),b)]))))))) (z (c,d))
def xR (h:bl) (i:Int) (j:Int) (c:fy) (k:bl) (l:fx) (m:c7) (n:bl) (b:Int) (e:hO) (f:bl) (o:Int->hO->bl->BY ρ) (p:Val De->BY ρ):BY ρ :=
  ifb (ilt b (Õ c)) (â c b fun a=>Ë (fun(d:wk) q=>sj h b i j c k l m n a.1 a.2.1 a.2.2.1 a.2.2.2.1.1 a.2.2.2.1.2 d.1 d.2.1 d.2.2 (fun r s t=>q (r,s,t)) (fun g=>ck (b+(1:Int)) fun u=>o u g.1 g.2)) ((0:Int),e,f)) (p (e,f))
def xQ (f:Int) (g:Int) (h:fy) (i:bl) (j:fx) (c:c7) (k:bl) (a:Int) (l:hO) (m:bl) (p:Int->hO->bl->BY ρ) (q:Val De->BY ρ):BY ρ :=
  ifb (ilt a (Õ c)) (â c a fun b=>Å (ng b.2.2.1 b.2.2.2.1) fun r=>Å (jH ((f,g),h,i,j,c,k) (r,b.2.1)) fun d=>Å (ng b.2.2.2.1 b.2.2.1) fun s=>Å (jH ((f,g),h,i,j,c,k) (s,b.2.1)) fun e=>Å (wS ((f,g),h,i,j,c,k) b) fun n=>ck ((0:Int)-n.1) fun o=>à (ä ((List.length l)+(List.length ([(e,d,n.2),(d,e,o)])))) (à (ä ((List.length m)+(List.length ([((3:Int),a),((3:Int),a)])))) (ck (a+(1:Int)) fun t=>p t (l++([(e,d,n.2),(d,e,o)])) (m++([((3:Int),a),((3:Int),a)]))))) (q (l,m))
def adG (a:b6) (k:Val De->BY ρ):BY ρ :=
  Å (iU a) fun e=>Ë (fun(b:wk) f=>xR e a.1.1 a.1.2 a.2.1 a.2.2.1 a.2.2.2.1 a.2.2.2.2.1 a.2.2.2.2.2 b.1 b.2.1 b.2.2 (fun g h i=>f (g,h,i)) (fun d=>Ë (fun(c:wk) j=>xQ a.1.1 a.1.2 a.2.1 a.2.2.1 a.2.2.2.1 a.2.2.2.2.1 a.2.2.2.2.2 c.1 c.2.1 c.2.2 (fun l m n=>j (l,m,n)) (fun o=>k o)) ((0:Int),d.1,d.2))) ((0:Int),[],[])
def yz (a:b6):BY (Val De):=adG a some
def KV (a:bx) (b:Int) (c:Int) (k:Bool->BY ρ):BY ρ :=
  ifb (ile b a.1) (ifb (ile a.1 a.2) (k (ile a.2 c)) (k false)) (k false)
def kh (a:bx) (b:Int) (c:Int):BY (Bool):=KV a b c some
def Ub (a:bx) (k:Bool->BY ρ):BY ρ :=
  ifb (ilt a.2 1) (k false) (ifb (igt a.2 2147483647) (k false) (ifb (ilt a.1 (-2147483647:Int)) (k false) (ifb (igt a.1 2147483647) (k false) (Å (IL a.1) fun b=>Å (Cy b a.2) fun c=>k (ieq c 1)))))
def Cw (a:bx):BY (Bool):=Ub a some
def T4 (a:pc) (k:Bool->BY ρ):BY ρ :=
  Å (Cw a.2.2.2.2.1) fun b=>ifb (!b) (k false) (Å (jM a.2.2.2.2.1.1 (-1000:Int) (1000:Int)) fun c=>ifb (!c) (k false) (ifb (igt a.2.2.2.2.1.2 100) (k false) (Å (jM a.1 (1:Int) (1099511627776:Int)) fun d=>ifb d (Å (yA a.2.1) fun e=>ifb e (Å (jM a.2.2.1 (1:Int) (1125899906842624:Int)) fun f=>ifb f (Å (kh a.2.2.2.1 (-1073741824:Int) (1073741824:Int)) fun g=>ifb g (Å (jM a.2.2.2.2.2 (0:Int) (1048576:Int)) fun h=>k h) (k false)) (k false)) (k false)) (k false))))
def Cu (a:pc):BY (Bool):=T4 a some
def T5 (a:b6) (c:Int) (d:Int) (k:Int->BY ρ):BY ρ :=
  Å (kj a c) fun b=>ifb (ilt b 0) (k (5:Int)) (â a.2.1 b fun e=>ifb (ilt d e.2.1) (k (4:Int)) (k (0:Int)))
def jG (a:b6) (b:Int) (c:Int):BY (Int):=T5 a b c some
def ud (e:Int) (f:Int) (g:fy) (a:bl) (h:fx) (i:c7) (j:bl) (b:Int) (k:Int->BY ρ) (c:Int->BY ρ) (l:Unit->BY ρ):BY ρ :=
  ifb (ilt b (Õ a)) (â a b fun m=>Å (yA m.2) fun n=>ifb (!n) (c (1:Int)) (â a b fun o=>â a b fun p=>Å (jG ((e,f),g,a,h,i,j) o.1 p.2) fun d=>ifb (ine d 0) (c d) (ck (b+(1:Int)) fun q=>k q))) (l ())
def Zj (a:b6) (k:Int->BY ρ):BY ρ :=
  Ë (fun(b:Int) c=>ud a.1.1 a.1.2 a.2.1 a.2.2.1 a.2.2.2.1 a.2.2.2.2.1 a.2.2.2.2.2 b (fun d=>c d) (fun e=>k e) (fun _=>k (0:Int))) (0:Int)
def IG (a:b6):BY (Int):=Zj a some
def qA (d:Int) (b:fx) (e:Int) (f:Int) (g:Int) (a:Int) (c:Int->BY ρ) (h:Int->BY ρ) (i:Unit->BY ρ):BY ρ :=
  ifb (ilt a d) (â b a fun j=>ifb (ieq j.1 e) (â b a fun k=>ifb (ile k.2.1.1 g) (â b a fun l=>ifb (ile f l.2.1.2) (h (9:Int)) (ck (a+(1:Int)) fun m=>c m)) (ck (a+(1:Int)) fun n=>c n)) (ck (a+(1:Int)) fun o=>c o)) (i ())
def mZ (b:bl) (d:Int) (e:Int) (f:Int) (a:Int) (c:Int->BY ρ) (g:Int->BY ρ) (h:Unit->BY ρ):BY ρ :=
  ifb (ilt a (Õ b)) (â b a fun i=>ifb (ieq i.1 d) (â b a fun j=>Å (jM j.2 e f) fun k=>ifb k (g (9:Int)) (ck (a+(1:Int)) fun l=>c l)) (ck (a+(1:Int)) fun m=>c m)) (h ())
def qB (g:Int) (h:Int) (i:fy) (e:bl) (c:fx) (j:c7) (k:bl) (d:Int) (l:Int->BY ρ) (b:Int->BY ρ) (m:Unit->BY ρ):BY ρ :=
  ifb (ilt d (Õ c)) (â c d fun a=>Å (kh a.2.1 (0:Int) (20000:Int)) fun n=>ifb (!n) (b (1:Int)) (Å (jM a.2.2 (0:Int) (1048576:Int)) fun o=>ifb (!o) (b (1:Int)) (Å (jG ((g,h),i,e,c,j,k) a.1 a.2.1.1) fun f=>ifb (ine f 0) (b f) (Ë (fun(p:Int) q=>qA d c a.1 a.2.1.1 a.2.1.2 p (fun r=>q r) (fun s=>b s) (fun _=>Ë (fun(t:Int) u=>mZ e a.1 a.2.1.1 a.2.1.2 t (fun v=>u v) (fun w=>b w) (fun _=>ck (d+(1:Int)) fun x=>l x)) (0:Int))) (0:Int))))) (m ())
def T2 (a:b6) (k:Int->BY ρ):BY ρ :=
  Ë (fun(b:Int) c=>qB a.1.1 a.1.2 a.2.1 a.2.2.1 a.2.2.2.1 a.2.2.2.2.1 a.2.2.2.2.2 b (fun d=>c d) (fun e=>k e) (fun _=>k (0:Int))) (0:Int)
def Ct (a:b6):BY (Int):=T2 a some
def ur (b:an) (a:Int) (c:Int->BY ρ) (d:Bool->BY ρ) (e:Unit->BY ρ):BY ρ :=
  ifb (ilt a (Õ b)) (â b a fun f=>Å (jM f (1:Int) (1099511627776:Int)) fun g=>ifb (!g) (d false) (ifb (igt a 0) (â b a fun h=>ck (a-(1:Int)) fun i=>â b i fun j=>ifb (ile h j) (d false) (ck (a+(1:Int)) fun k=>c k)) (ck (a+(1:Int)) fun l=>c l))) (e ())
def Zs (a:an) (k:Bool->BY ρ):BY ρ :=
  Ë (fun(b:Int) c=>ur a b (fun d=>c d) (fun e=>k e) (fun _=>k (ile (Õ a) 6))) (0:Int)
def Bz (a:an):BY (Bool):=Zs a some
def T1 (a:io) (k:Bool->BY ρ):BY ρ :=
  Å (Bz a.2.2.1) fun b=>Å (Bz a.2.2.2.1) fun c=>ifb b (ifb c (Å (jM a.1 (1:Int) (1099511627776:Int)) fun d=>ifb d (Å (yA a.2.1) fun e=>ifb e (Å (jM a.2.2.2.2.1 (-1125899906842624:Int) (1125899906842624:Int)) fun f=>ifb f (Å (jM a.2.2.2.2.2.1 (0:Int) (1073741824:Int)) fun g=>ifb g (Å (kh a.2.2.2.2.2.2 (-10000:Int) (10000:Int)) fun h=>k h) (k false)) (k false)) (k false)) (k false)) (k false)) (k false)
def Cs (a:io):BY (Bool):=T1 a some
def l5 (c:Int) (d:Int) (e:fy) (f:bl) (g:fx) (h:c7) (i:bl) (b:an) (a:Int) (j:Int->BY ρ) (k:Int->BY ρ) (l:Unit->BY ρ):BY ρ :=
  ifb (ilt a (Õ b)) (à ((ile 0 a)&&(ilt a (î b))) (Į b (Int.toNat a) fun m=>Å (kj ((c,d),e,f,g,h,i) m) fun n=>ifb (ilt n 0) (k (5:Int)) (ck (a+(1:Int)) fun o=>j o))) (l ())
def jx (c:Int) (d:Int) (e:fy) (f:bl) (g:fx) (h:c7) (i:bl) (j:Int) (b:an) (a:Int) (k:Int->BY ρ) (l:Int->BY ρ) (m:Unit->BY ρ):BY ρ :=
  ifb (ilt a (Õ b)) (à ((ile 0 a)&&(ilt a (î b))) (Į b (Int.toNat a) fun n=>Å (jG ((c,d),e,f,g,h,i) n j) fun o=>ifb (ine o 0) (l (4:Int)) (ck (a+(1:Int)) fun p=>k p))) (m ())
def Θ (c:Int) (d:Int) (e:fy) (f:bl) (g:fx) (h:c7) (i:bl) (j:Int) (b:an) (a:Int) (k:Int->BY ρ) (l:Int->BY ρ) (m:Unit->BY ρ):BY ρ :=
  ifb (ilt a (Õ b)) (à ((ile 0 a)&&(ilt a (î b))) (Į b (Int.toNat a) fun n=>Å (ki ((c,d),e,f,g,h,i) n j) fun o=>ifb o.2 (l (9:Int)) (ck (a+(1:Int)) fun p=>k p))) (m ())
def xP (a:b6) (b:io) (k:Int->BY ρ):BY ρ :=
  à (ä (0+(List.length b.2.2.1))) (à (ä ((List.length (([])++b.2.2.1))+(List.length b.2.2.2.1))) (Ë (fun(e:Int) f=>l5 a.1.1 a.1.2 a.2.1 a.2.2.1 a.2.2.2.1 a.2.2.2.2.1 a.2.2.2.2.2 ((([])++b.2.2.1)++b.2.2.2.1) e (fun g=>f g) (fun h=>k h) (fun _=>Ë (fun(i:Int) j=>jx a.1.1 a.1.2 a.2.1 a.2.2.1 a.2.2.2.1 a.2.2.2.2.1 a.2.2.2.2.2 b.2.1 ((([])++b.2.2.1)++b.2.2.2.1) i (fun l=>j l) (fun m=>k m) (fun _=>Ë (fun(n:Int) o=>Θ a.1.1 a.1.2 a.2.1 a.2.2.1 a.2.2.2.1 a.2.2.2.2.1 a.2.2.2.2.2 b.2.1 ((([])++b.2.2.1)++b.2.2.2.1) n (fun p=>o p) (fun q=>k q) (fun _=>Å (lO b.2.2.1 b.2.2.2.1) fun c=>Å (lO b.2.2.2.1 b.2.2.1) fun d=>ifb (igt (Õ c) 1) (k (1:Int)) (ifb (igt (Õ d) 1) (k (1:Int)) (ck ((Õ c)+(Õ d)) fun r=>ifb (ieq r 0) (k (1:Int)) (k (0:Int)))))) (0:Int))) (0:Int))) (0:Int)))
def kT (a:b6) (b:io):BY (Int):=xP a b some
def qI (b:fy) (a:Int) (c:Int->BY ρ) (d:Int->BY ρ) (e:Unit->BY ρ):BY ρ :=
  ifb (ilt a (Õ b)) (â b a fun f=>Å (Cu f) fun g=>ifb (!g) (d (1:Int)) (ifb (igt a 0) (â b a fun h=>ck (a-(1:Int)) fun i=>â b i fun j=>ifb (ile h.1 j.1) (d (6:Int)) (ck (a+(1:Int)) fun k=>c k)) (ck (a+(1:Int)) fun l=>c l))) (e ())
def qH (b:Int) (c:c7) (a:Int) (d:Int->BY ρ) (e:Int->BY ρ) (f:Unit->BY ρ):BY ρ :=
  ifb (ilt a b) (â c a fun g=>â c b fun h=>ifb (ieq g.1 h.1) (e (6:Int)) (ck (a+(1:Int)) fun i=>d i)) (f ())
def kM (e:Int) (f:Int) (g:fy) (h:bl) (i:fx) (a:c7) (j:bl) (b:Int) (k:Int->BY ρ) (c:Int->BY ρ) (l:Unit->BY ρ):BY ρ :=
  ifb (ilt b (Õ a)) (â a b fun m=>Å (Cs m) fun n=>ifb (!n) (c (1:Int)) (Ë (fun(o:Int) p=>qH b a o (fun q=>p q) (fun r=>c r) (fun _=>â a b fun s=>Å (kT ((e,f),g,h,i,a,j) s) fun d=>ifb (ine d 0) (c d) (ck (b+(1:Int)) fun t=>k t))) (0:Int))) (l ())
def kL (e:Int) (f:Int) (g:fy) (h:bl) (i:fx) (j:c7) (a:bl) (b:Int) (k:Int->BY ρ) (c:Int->BY ρ) (l:Unit->BY ρ):BY ρ :=
  ifb (ilt b (Õ a)) (â a b fun m=>Å (yA m.2) fun n=>ifb (!n) (c (1:Int)) (â a b fun o=>â a b fun p=>Å (jG ((e,f),g,h,i,j,a) o.1 p.2) fun d=>ifb (ine d 0) (c d) (ck (b+(1:Int)) fun q=>k q))) (l ())
def JL (a:b6) (k:Int->BY ρ):BY ρ :=
  Å (kh a.1 (0:Int) (1000000:Int)) fun d=>ifb (!d) (k (1:Int)) (ifb (igt (Õ a.2.1) 12) (k (2:Int)) (ifb (igt (Õ a.2.2.1) 40) (k (2:Int)) (ifb (igt (Õ a.2.2.2.1) 12) (k (2:Int)) (ifb (igt (Õ a.2.2.2.2.1) 40) (k (2:Int)) (ifb (igt (Õ a.2.2.2.2.2) 10) (k (2:Int)) (Ë (fun(e:Int) f=>qI a.2.1 e (fun g=>f g) (fun h=>k h) (fun _=>Å (IG a) fun b=>ifb (ieq b 0) (Å (Ct a) fun c=>ifb (ine c 0) (k c) (Ë (fun(i:Int) j=>kM a.1.1 a.1.2 a.2.1 a.2.2.1 a.2.2.2.1 a.2.2.2.2.1 a.2.2.2.2.2 i (fun l=>j l) (fun m=>k m) (fun _=>Ë (fun(n:Int) o=>kL a.1.1 a.1.2 a.2.1 a.2.2.1 a.2.2.2.1 a.2.2.2.2.1 a.2.2.2.2.2 n (fun p=>o p) (fun q=>k q) (fun _=>Å (iU a) fun r=>ifb (igt (Õ r) 59) (k (2:Int)) (Å (yz a) fun s=>ifb (igt (Õ s.1) 300) (k (2:Int)) (k (0:Int))))) (0:Int))) (0:Int))) (ifb (ine b 0) (k b) (Ë (fun(t:Int) u=>kM a.1.1 a.1.2 a.2.1 a.2.2.1 a.2.2.2.1 a.2.2.2.2.1 a.2.2.2.2.2 t (fun v=>u v) (fun w=>k w) (fun _=>Ë (fun(x:Int) y=>kL a.1.1 a.1.2 a.2.1 a.2.2.1 a.2.2.2.1 a.2.2.2.2.1 a.2.2.2.2.2 x (fun z=>y z) (fun A=>k A) (fun _=>Å (iU a) fun B=>ifb (igt (Õ B) 59) (k (2:Int)) (Å (yz a) fun C=>ifb (igt (Õ C.1) 300) (k (2:Int)) (k (0:Int))))) (0:Int))) (0:Int))))) (0:Int)))))))
def Cv (a:b6):BY (Int):=JL a some
def xM (b:an) (a:Int) (c:Int->BY ρ) (d:Int->BY ρ) (e:Unit->BY ρ):BY ρ :=
  ifb (ilt a (Õ b)) (â b a fun f=>ck (a-(1:Int)) fun g=>â b g fun h=>ifb (ile f h) (d (1:Int)) (ck (a+(1:Int)) fun i=>c i)) (e ())
def Fm (c:Int) (d:Int) (e:fy) (f:bl) (g:fx) (h:c7) (i:bl) (b:an) (a:Int) (j:Int->BY ρ) (k:Int->BY ρ) (l:Unit->BY ρ):BY ρ :=
  ifb (ilt a (Õ b)) (â b a fun m=>Å (kj ((c,d),e,f,g,h,i) m) fun n=>ifb (ilt n 0) (k (5:Int)) (ck (a+(1:Int)) fun o=>j o)) (l ())
def Fl (c:Int) (d:Int) (e:fy) (f:bl) (g:fx) (h:c7) (i:bl) (j:Int) (b:an) (a:Int) (k:Int->BY ρ) (l:Int->BY ρ) (m:Unit->BY ρ):BY ρ :=
  ifb (ilt a (Õ b)) (â b a fun n=>Å (jG ((c,d),e,f,g,h,i) n j) fun o=>ifb (ine o 0) (l (4:Int)) (ck (a+(1:Int)) fun p=>k p)) (m ())
def adD (a:b6) (b:f4) (k:Int->BY ρ):BY ρ :=
  Å (jM b.1 (0:Int) (19999:Int)) fun c=>ifb (!c) (k (1:Int)) (Å (jM (Õ b.2) (2:Int) (5:Int)) fun d=>ifb (!d) (k (1:Int)) (Ë (fun(e:Int) f=>xM b.2 e (fun g=>f g) (fun h=>k h) (fun _=>Ë (fun(i:Int) j=>Fm a.1.1 a.1.2 a.2.1 a.2.2.1 a.2.2.2.1 a.2.2.2.2.1 a.2.2.2.2.2 b.2 i (fun l=>j l) (fun m=>k m) (fun _=>Ë (fun(n:Int) o=>Fl a.1.1 a.1.2 a.2.1 a.2.2.1 a.2.2.2.1 a.2.2.2.2.1 a.2.2.2.2.2 b.1 b.2 n (fun p=>o p) (fun q=>k q) (fun _=>k (0:Int))) (0:Int))) (0:Int))) (1:Int)))
def MO (a:b6) (b:f4):BY (Int):=adD a b some
def jl (c:Int) (d:Int) (e:fy) (f:bl) (g:fx) (h:c7) (i:bl) (j:Int) (b:an) (k:Int) (a:Int) (m:Int->Int->BY ρ) (l:Int->BY ρ) (n:Int->BY ρ):BY ρ :=
  ifb (ilt a (Õ b)) (â b a fun o=>Å (ki ((c,d),e,f,g,h,i) o j) fun p=>â b a fun q=>ck (j+(1:Int)) fun r=>Å (ki ((c,d),e,f,g,h,i) q r) fun s=>ifb p.2 (l (9:Int)) (ifb s.2 (l (9:Int)) (ck (a+(1:Int)) fun t=>ck (k*t) fun u=>ck (a+(1:Int)) fun v=>m u v))) (n k)
def qz (d:Int) (e:Int) (f:fy) (g:bl) (h:fx) (i:c7) (j:bl) (k:c9) (l:Int) (a:Int) (m:Int->Int->BY ρ) (c:Int->BY ρ) (q:Int->BY ρ):BY ρ :=
  ifb (ilt a (Õ k)) (â k a fun b=>Å (MO ((d,e),f,g,h,i,j) b) fun n=>ifb (ine n 0) (c n) (ifb (igt a 0) (ck (a-(1:Int)) fun r=>â k r fun s=>ifb (ile b.1 s.1) (c (6:Int)) (Ë (fun(o:bx) t=>jl d e f g h i j b.1 b.2 o.1 o.2 (fun u v=>t (u,v)) (fun w=>c w) (fun x=>ck (a+(1:Int)) fun y=>m x y)) (l,(0:Int)))) (Ë (fun(p:bx) z=>jl d e f g h i j b.1 b.2 p.1 p.2 (fun A B=>z (A,B)) (fun C=>c C) (fun D=>ck (a+(1:Int)) fun E=>m D E)) (l,(0:Int))))) (q l)
def T0 (a:a8) (k:Int->BY ρ):BY ρ :=
  Å (Cv a.1) fun b=>ifb (ine b 0) (k b) (ifb (igt (Õ a.2) 4) (k (2:Int)) (Ë (fun(c:bx) d=>qz a.1.1.1 a.1.1.2 a.1.2.1 a.1.2.2.1 a.1.2.2.2.1 a.1.2.2.2.2.1 a.1.2.2.2.2.2 a.2 c.1 c.2 (fun e f=>d (e,f)) (fun g=>k g) (fun h=>ifb (igt h 150) (k (2:Int)) (k (0:Int)))) ((1:Int),(0:Int))))
def Cr (a:a8):BY (Int):=T0 a some
def lL (rec:an->BY b5) (f:an) (g:Int) (e:b5) (a:Int) (b:b5) (h:Int->b5->BY ρ) (i:b5->BY ρ):BY ρ :=
  ifb (ilt a (Õ e)) (â f g fun c=>â e a fun d=>à (ä ((List.length ([c]))+(List.length d))) (à (ä ((List.length b)+(List.length ([(([c])++d)])))) (ck (a+(1:Int)) fun j=>h j (b++([(([c])++d)]))))) (i b)
def oF (rec:an->BY b5) (a:an) (b:Int) (d:b5) (f:Int->b5->BY ρ) (g:b5->BY ρ):BY ρ :=
  ifb (ilt b (Õ a)) (à ((ile 0 b)&&(ile b (î a))) (à (ä (0+(List.length (List.take (Int.toNat b) a)))) (ck (b+(1:Int)) fun c=>à ((ile 0 c)&&(ile c (î a))) (à (ä ((List.length (([])++(List.take (Int.toNat b) a)))+(List.length (List.drop (Int.toNat c) a)))) (Å (rec ((([])++(List.take (Int.toNat b) a))++(List.drop (Int.toNat c) a))) fun h=>Ë (fun(e:pi) i=>lL rec a b h e.1 e.2 (fun j k=>i (j,k)) (fun l=>ck (b+(1:Int)) fun m=>f m l)) ((0:Int),d)))))) (g d)
def oe (rec:an->BY b5) (a:an) (k:b5->BY ρ):BY ρ :=
  ifb (ieq (Õ a) 0) (k ([[]])) (Ë (fun(b:pi) c=>oF rec a b.1 b.2 (fun d e=>c (d,e)) (fun f=>k f)) ((0:Int),[]))
def rC:Nat->an->BY b5
  |0=>fun _=>none
  |n+1=>fun a=>oe (rC n) a some
def FJ (a:an):BY (b5):=rC 100 a
def oG (d:b5) (b:Int) (f:c9) (c:Int) (a:Int) (e:Int->Int->BY ρ) (g:Int->BY ρ):BY ρ :=
  â d b fun h=>ifb (ilt a (Õ h)) (â d b fun i=>â i a fun j=>â f b fun k=>â k.2 a fun l=>ifb (ine j l) (ck (c+(1:Int)) fun m=>ck (a+(1:Int)) fun n=>e m n) (ck (a+(1:Int)) fun o=>e c o)) (g c)
def oH (b:b5) (e:c9) (c:Int) (a:Int) (f:Int->Int->BY ρ) (g:Int->BY ρ):BY ρ :=
  ifb (ilt a (Õ b)) (Ë (fun(d:bx) h=>oG b a e d.1 d.2 (fun i j=>h (i,j)) (fun k=>ck (a+(1:Int)) fun l=>f k l)) (c,(0:Int))) (g c)
def OG (b:a8) (c:b5) (k:Int->BY ρ):BY ρ :=
  Ë (fun(a:bx) d=>oH c b.2 a.1 a.2 (fun e f=>d (e,f)) (fun g=>k g)) ((0:Int),(0:Int))
def yw (a:a8) (b:b5):BY (Int):=OG a b some
def pp (f:b5) (b:Int) (g:a7) (c:Int) (d:a7) (h:Int->a7->BY ρ) (i:a7->BY ρ):BY ρ :=
  ifb (ilt c (Õ f)) (à ((ile 0 b)&&(ilt b (î g))) (Į g (Int.toNat b) fun a=>à (ä (0+(List.length a))) (â f c fun e=>à (ä ((List.length (([])++a))+(List.length ([e])))) (à (ä ((List.length d)+(List.length ([((([])++a)++([e]))])))) (ck (c+(1:Int)) fun j=>h j (d++([((([])++a)++([e]))]))))))) (i d)
def pq (e:b5) (b:a7) (a:Int) (c:a7) (f:Int->a7->BY ρ) (g:a7->BY ρ):BY ρ :=
  ifb (ilt a (Õ b)) (Ë (fun(d:im) h=>pp e a b d.1 d.2 (fun i j=>h (i,j)) (fun k=>ck (a+(1:Int)) fun l=>f l k)) ((0:Int),c)) (g c)
def t7 (b:c9) (a:Int) (c:a7) (e:Int->a7->BY ρ) (f:a7->BY ρ):BY ρ :=
  ifb (ilt a (Õ b)) (â b a fun g=>Å (FJ g.2) fun h=>Ë (fun(d:im) i=>pq h c d.1 d.2 (fun j k=>i (j,k)) (fun l=>ck (a+(1:Int)) fun m=>e m l)) ((0:Int),[])) (f c)
def po (f:Int) (g:Int) (h:Int) (i:fy) (j:bl) (k:fx) (l:c7) (m:bl) (n:c9) (b:a7) (a:Int) (c:a7) (d:Int->a7->BY ρ) (o:a7->BY ρ):BY ρ :=
  ifb (ilt a (Õ b)) (à ((ile 0 a)&&(ilt a (î b))) (Į b (Int.toNat a) fun p=>Å (yw (((g,h),i,j,k,l,m),n) p) fun q=>ifb (ieq q f) (à ((ile 0 a)&&(ilt a (î b))) (Į b (Int.toNat a) fun e=>à (ä ((List.length c)+(List.length ([e])))) (ck (a+(1:Int)) fun r=>d r (c++([e]))))) (ck (a+(1:Int)) fun s=>d s c))) (o c)
def tZ (d:Int) (e:Int) (f:fy) (g:bl) (h:fx) (i:c7) (j:bl) (k:c9) (l:a7) (a:Int) (b:a7) (m:Int->a7->BY ρ) (n:a7->BY ρ):BY ρ :=
  ifb (ile a 20) (Ë (fun(c:im) o=>po a d e f g h i j k l c.1 c.2 (fun p q=>o (p,q)) (fun r=>ck (a+(1:Int)) fun s=>m s r)) ((0:Int),b)) (n b)
def Zf (a:a8) (k:a7->BY ρ):BY ρ :=
  Ë (fun(b:im) d=>t7 a.2 b.1 b.2 (fun e f=>d (e,f)) (fun g=>Ë (fun(c:im) h=>tZ a.1.1.1 a.1.1.2 a.1.2.1 a.1.2.2.1 a.1.2.2.2.1 a.1.2.2.2.2.1 a.1.2.2.2.2.2 a.2 g c.1 c.2 (fun i j=>h (i,j)) (fun l=>k l)) ((0:Int),[]))) ((0:Int),[[]])
def sJ (a:a8):BY (a7):=Zf a some
def O9 (a:b6) (k:ge->BY ρ):BY ρ :=
  Å (iU a) fun b=>ck ((Õ b)+(1:Int)) fun c=>Å (yz a) fun d=>k (c,d.1)
def ov (a:b6):BY ge:=O9 a some
def Cb (b:an) (c:Int) (a:Int) (d:Int->BY ρ) (e:Int->BY ρ) (f:Unit->BY ρ):BY ρ :=
  ifb (ilt a (Õ b)) (â b a fun g=>ifb (ieq g c) (e a) (ck (a+(1:Int)) fun h=>d h)) (f ())
def aid (a:an) (b:Int) (k:Int->BY ρ):BY ρ :=
  Ë (fun(c:Int) d=>Cb a b c (fun e=>d e) (fun f=>k f) (fun _=>k (-1:Int))) (0:Int)
def J7 (a:an) (b:Int):BY (Int):=aid a b some
def xN (f:b5) (g:Int) (d:c9) (b:Int) (a:Int) (c:Int->Int->BY ρ) (h:Int->BY ρ):BY ρ :=
  ifb (ige a 0) (â d a fun i=>ifb (ilt i.1 g) (â f a fun j=>Å (J7 j b) fun e=>ifb (ige e 0) (â d a fun k=>â k.2 e fun l=>ck (a-(1:Int)) fun m=>c l m) (ck (a-(1:Int)) fun n=>c b n)) (ck (a-(1:Int)) fun o=>c b o)) (h b)
def adE (a:a8) (c:b5) (d:Int) (e:Int) (k:Int->BY ρ):BY ρ :=
  ck ((Õ a.2)-(1:Int)) fun f=>Ë (fun(b:bx) g=>xN c e a.2 b.1 b.2 (fun h i=>g (h,i)) (fun j=>k j)) (d,f)
def yv (a:a8) (b:b5) (c:Int) (d:Int):BY (Int):=adE a b c d some
def pn (d:Int) (b:an) (a:Int) (e:Int->BY ρ) (c:Int->BY ρ):BY ρ :=
  ifb (ilt a (Õ b)) (à ((ile 0 a)&&(ilt a (î b))) (Į b (Int.toNat a) fun f=>ifb (ilt f d) (ck (a+(1:Int)) fun g=>e g) (c a))) (c a)
def tY (f:b5) (e:an) (g:Int) (h:Int) (i:Int) (j:fy) (k:bl) (l:fx) (m:c7) (n:bl) (o:c9) (d:Int) (a:an) (p:Int->an->BY ρ) (q:an->BY ρ):BY ρ :=
  ifb (ilt d (Õ e)) (â e d fun r=>Å (yv (((h,i),j,k,l,m,n),o) f r g) fun c=>Ë (fun(s:Int) t=>pn c a s (fun u=>t u) (fun b=>à ((ile 0 b)&&(ile b (î a))) (à (ä (List.length (List.take (Int.toNat b) (List.drop 0 a)))) (à (ä ((List.length (List.take (Int.toNat b) (List.drop 0 a)))+(List.length ([c])))) (à ((ile 0 b)&&(ile b (î a))) (à (ä ((List.length ((List.take (Int.toNat b) (List.drop 0 a))++([c])))+(List.length (List.take (List.length a-(Int.toNat b)) (List.drop (Int.toNat b) a))))) (ck (d+(1:Int)) fun v=>p v (((List.take (Int.toNat b) (List.drop 0 a))++([c]))++(List.take (List.length a-(Int.toNat b)) (List.drop (Int.toNat b) a)))))))))) (0:Int)) (q a)
def Ze (a:a8) (c:b5) (d:an) (e:Int) (k:an->BY ρ):BY ρ :=
  Ë (fun(b:f4) f=>tY c d e a.1.1.1 a.1.1.2 a.1.2.1 a.1.2.2.1 a.1.2.2.2.1 a.1.2.2.2.2.1 a.1.2.2.2.2.2 a.2 b.1 b.2 (fun g h=>f (g,h)) (fun i=>k i)) ((0:Int),[])
def Bx (a:a8) (b:b5) (c:an) (d:Int):BY (an):=Ze a b c d some
def kI (f:b5) (g:Int) (h:Int) (i:fy) (b:bl) (j:fx) (k:c7) (l:bl) (m:c9) (c:Int) (d:bl) (n:Int->bl->BY ρ) (o:bl->BY ρ):BY ρ :=
  ifb (ilt c (Õ b)) (â b c fun a=>Å (yv (((g,h),i,b,j,k,l),m) f a.1 a.2) fun e=>à (ä ((List.length d)+(List.length ([(e,a.2)])))) (ck (c+(1:Int)) fun p=>n p (d++([(e,a.2)])))) (o d)
def kH (f:b5) (g:Int) (h:Int) (i:fy) (j:bl) (b:fx) (k:c7) (l:bl) (m:c9) (c:Int) (d:fx) (n:Int->fx->BY ρ) (o:fx->BY ρ):BY ρ :=
  ifb (ilt c (Õ b)) (â b c fun a=>Å (yv (((g,h),i,j,b,k,l),m) f a.1 a.2.1.1) fun e=>à (ä ((List.length d)+(List.length ([(e,a.2)])))) (ck (c+(1:Int)) fun p=>n p (d++([(e,a.2)])))) (o d)
def kG (e:b5) (f:Int) (g:Int) (h:fy) (i:bl) (j:fx) (b:c7) (k:bl) (l:c9) (c:Int) (d:c7) (o:Int->c7->BY ρ) (p:c7->BY ρ):BY ρ :=
  ifb (ilt c (Õ b)) (â b c fun a=>Å (Bx (((f,g),h,i,j,b,k),l) e a.2.2.1 a.2.1) fun m=>Å (Bx (((f,g),h,i,j,b,k),l) e a.2.2.2.1 a.2.1) fun n=>à (ä ((List.length d)+(List.length ([(a.1,a.2.1,m,n,a.2.2.2.2)])))) (ck (c+(1:Int)) fun q=>o q (d++([(a.1,a.2.1,m,n,a.2.2.2.2)])))) (p d)
def kF (f:b5) (g:Int) (h:Int) (i:fy) (j:bl) (k:fx) (l:c7) (b:bl) (m:c9) (c:Int) (d:bl) (n:Int->bl->BY ρ) (o:bl->BY ρ):BY ρ :=
  ifb (ilt c (Õ b)) (â b c fun a=>Å (yv (((g,h),i,j,k,l,b),m) f a.1 a.2) fun e=>à (ä ((List.length d)+(List.length ([(e,a.2)])))) (ck (c+(1:Int)) fun p=>n p (d++([(e,a.2)])))) (o d)
def vl (a:a8) (b:b5) (k:b6->BY ρ):BY ρ :=
  Ë (fun(c:nj) g=>kI b a.1.1.1 a.1.1.2 a.1.2.1 a.1.2.2.1 a.1.2.2.2.1 a.1.2.2.2.2.1 a.1.2.2.2.2.2 a.2 c.1 c.2 (fun h i=>g (h,i)) (fun j=>Ë (fun(d:y6) l=>kH b a.1.1.1 a.1.1.2 a.1.2.1 a.1.2.2.1 a.1.2.2.2.1 a.1.2.2.2.2.1 a.1.2.2.2.2.2 a.2 d.1 d.2 (fun m n=>l (m,n)) (fun o=>Ë (fun(e:Val bc) p=>kG b a.1.1.1 a.1.1.2 a.1.2.1 a.1.2.2.1 a.1.2.2.2.1 a.1.2.2.2.2.1 a.1.2.2.2.2.2 a.2 e.1 e.2 (fun q r=>p (q,r)) (fun s=>Ë (fun(f:nj) t=>kF b a.1.1.1 a.1.1.2 a.1.2.1 a.1.2.2.1 a.1.2.2.2.1 a.1.2.2.2.2.1 a.1.2.2.2.2.2 a.2 f.1 f.2 (fun u v=>t (u,v)) (fun w=>k (a.1.1,a.1.2.1,j,o,s,w))) ((0:Int),[]))) ((0:Int),[]))) ((0:Int),[]))) ((0:Int),[])
def ο (a:a8) (b:b5):BY b6:=vl a b some
def pu (d:hO) (e:Bool) (c:Int) (b:an) (f:Bool->Int->an->BY ρ) (g:(Val (.pair .bool ab))->BY ρ):BY ρ :=
  ifb (ilt c (Õ d)) (â d c fun a=>à ((ile 0 a.1)&&(ilt a.1 (î b))) (Į b (Int.toNat a.1) fun h=>ck (h+a.2.2) fun i=>à ((ile 0 a.2.1)&&(ilt a.2.1 (î b))) (Į b (Int.toNat a.2.1) fun j=>ifb (ilt i j) (à ((ile 0 a.1)&&(ilt a.1 (î b))) (Į b (Int.toNat a.1) fun k=>ck (k+a.2.2) fun l=>à ((ile 0 a.2.1)&&(ilt a.2.1 (î b))) (Į b (Int.toNat a.2.1) fun o=>ck (c+(1:Int)) fun m=>f true m (List.set b (Int.toNat a.2.1) l)))) (ck (c+(1:Int)) fun n=>f e n b)))) (g (e,b))
def pv (g:Int) (h:hO) (a:Bool) (d:Int) (b:an) (i:Bool->Int->an->BY ρ) (e:(Val (.pair .bool ab))->BY ρ):BY ρ :=
  ifb (ile d g) (ifb a (Ë (fun(c:ry) j=>pu h c.1 c.2.1 c.2.2 (fun k l m=>j (k,l,m)) (fun f=>ck (d+(1:Int)) fun n=>i f.1 n f.2)) (false,(0:Int),b)) (e (a,b))) (e (a,b))
def Zt (a:ge) (k:Bool->BY ρ):BY ρ :=
  à ((ile 0 a.1)&&(ä (Int.toNat a.1))) (Ë (fun(b:ry) c=>pv a.1 a.2 b.1 b.2.1 b.2.2 (fun d e f=>c (d,e,f)) (fun g=>k (!g.1))) (true,(0:Int),(List.replicate (Int.toNat a.1) (0:Int))))
def IJ (a:ge):BY (Bool):=Zt a some
def Hk (a:a8) (b:b5) (k:Bool->BY ρ):BY ρ :=
  Å (ο a b) fun c=>Å (ov c) fun d=>Å (IJ d) fun e=>k e
def qO (a:a8) (b:b5):BY (Bool):=Hk a b some
def t8 (b:a7) (c:Int) (d:Int) (e:fy) (f:bl) (g:fx) (h:c7) (i:bl) (j:c9) (a:Int) (k:Int->BY ρ) (l:Bool->BY ρ) (m:Unit->BY ρ):BY ρ :=
  ifb (ilt a (Õ b)) (â b a fun n=>Å (qO (((c,d),e,f,g,h,i),j) n) fun o=>ifb o (l true) (ck (a+(1:Int)) fun p=>k p)) (m ())
def Zg (a:a8) (k:Bool->BY ρ):BY ρ :=
  Å (sJ a) fun b=>Ë (fun(c:Int) d=>t8 b a.1.1.1 a.1.1.2 a.1.2.1 a.1.2.2.1 a.1.2.2.2.1 a.1.2.2.2.2.1 a.1.2.2.2.2.2 a.2 c (fun e=>d e) (fun f=>k f) (fun _=>k false)) (0:Int)
def By (a:a8):BY (Bool):=Zg a some
def qp (b:b5) (a:Int) (c:Int->BY ρ) (d:Bool->BY ρ) (e:Unit->BY ρ):BY ρ :=
  ifb (ilt a (Õ b)) (â b a fun f=>ifb (igt (Õ f) 100) (d false) (ck (a+(1:Int)) fun g=>c g)) (e ())
def TR (a:b5) (b:Int) (k:Bool->BY ρ):BY ρ :=
  ifb (igt (Õ a) b) (k false) (Ë (fun(c:Int) d=>qp a c (fun e=>d e) (fun f=>k f) (fun _=>k true)) (0:Int))
def wN (a:b5) (b:Int):BY (Bool):=TR a b some
def ω (b:an) (c:Int) (a:Int) (d:Int->BY ρ) (e:Int->BY ρ) (f:Unit->BY ρ):BY ρ :=
  ifb (ilt a c) (â b a fun g=>Å (ĝ g (-4503599627370496:Int) (4503599627370496:Int)) fun h=>ifb (!h) (e a) (ck (a+(1:Int)) fun i=>d i)) (f ())
def wE (b:Val aR) (a:an) (k:Int->BY ρ):BY ρ :=
  ifb (ine (Õ a) (Õ b.2.1)) (k (1:Int)) (Ë (fun(c:Int) d=>ω a (Õ a) c (fun e=>d e) (fun f=>ifb (ige f 0) (k (1:Int)) (k (0:Int))) (fun _=>k (0:Int))) (0:Int))
def kX (a:Val aR) (b:an):BY (Int):=wE a b some
def xY (d:an) (e:Int) (a:Int) (f:Int->BY ρ) (b:Int->BY ρ) (g:Unit->BY ρ):BY ρ :=
  ifb (ilt a e) (â d a fun c=>ifb (ilt c (-1152921504606846976:Int)) (b a) (ifb (igt c 1152921504606846976) (b a) (ck (a+(1:Int)) fun h=>f h))) (g ())
def oh (c:an) (d:hO) (e:Int) (a:Int) (f:Int->BY ρ) (g:v8->BY ρ) (h:Unit->BY ρ):BY ρ :=
  ifb (ilt a e) (â d a fun b=>â c b.2.1 fun i=>â c b.1 fun j=>ck (j+b.2.2) fun k=>ifb (igt i k) (g (false,(0:Int))) (ck (a+(1:Int)) fun l=>f l)) (h ())
def adR (b:ge) (a:an) (k:v8->BY ρ):BY ρ :=
  Å (pL b) fun c=>ifb (ine c.1 0) (k (false,c.1)) (ifb (ine (Õ a) b.1) (k (false,(1:Int))) (Ë (fun(f:Int) g=>xY a (Õ a) f (fun h=>g h) (fun i=>ifb (ige i 0) (k (false,(1:Int))) (Ë (fun(j:Int) l=>oh a b.2 (Õ b.2) j (fun m=>l m) (fun d=>k (d.1,d.2)) (fun _=>â a (0:Int) fun n=>k (ieq n 0,(0:Int)))) (0:Int))) (fun _=>Ë (fun(o:Int) p=>oh a b.2 (Õ b.2) o (fun q=>p q) (fun e=>k (e.1,e.2)) (fun _=>â a (0:Int) fun r=>k (ieq r 0,(0:Int)))) (0:Int))) (0:Int)))
def MS (a:ge) (b:an):BY (v8):=adR a b some
def Ey (b:Val aR) (a:an) (k:Bool->BY ρ):BY ρ :=
  à (ä ((List.length ([(0:Int)]))+(List.length a))) (Å (MS b.2.2.1 (([(0:Int)])++a)) fun c=>k c.1)
def oP (a:Val aR) (b:an):BY (Bool):=Ey a b some
def ad1 (a:b6) (b:an) (k:v8->BY ρ):BY ρ :=
  Å (ż a) fun c=>ifb (ine c 0) (k (false,c)) (Å (IR a) fun d=>Å (kX d b) fun e=>ifb (ine e 0) (k (false,e)) (Å (oP d b) fun f=>k (f,(0:Int))))
def MV (a:b6) (b:an):BY (v8):=ad1 a b some
def KR (a:a8) (b:b5) (d:an) (k:Int->BY ρ):BY ρ :=
  Å (Bv a b) fun c=>ifb (ine c 0) (k c) (Å (Φ a b) fun e=>Å (MV e d) fun f=>ifb (!f.1) (k (8:Int)) (k (0:Int)))
def uT (a:a8) (b:b5) (c:an):BY (Int):=KR a b c some
def oJ (b:an) (c:hO) (e:Int) (f:Int) (a:Int) (g:Int->Int->Int->BY ρ) (d:Val bh->BY ρ) (h:bx->BY ρ):BY ρ :=
  ifb (ilt a (Õ b)) (â b a fun i=>ifb (ilt i 0) (d ((0:Int),(0:Int),false)) (â b a fun j=>ifb (ige j (Õ c)) (d ((0:Int),(0:Int),false)) (â b a fun k=>â c k fun l=>ifb (ine l.1 e) (d ((0:Int),(0:Int),false)) (â b a fun m=>â c m fun n=>â b a fun o=>â c o fun p=>ck (f+p.2.2) fun q=>ck (a+(1:Int)) fun r=>g n.2.1 q r)))) (h (e,f))
def OV (d:ge) (e:Int) (f:an) (k:Val bh->BY ρ):BY ρ :=
  Ë (fun(a:qs) g=>oJ f d.2 a.1 a.2.1 a.2.2 (fun h i j=>g (h,i,j)) (fun b=>k (b.1,b.2.1,b.2.2)) (fun c=>k (c.1,c.2,true))) (e,(0:Int),(0:Int))
def yx (a:ge) (b:Int) (c:an):BY ((Val bh)):=OV a b c some
def OX (b:ge) (a:an) (k:Bool->BY ρ):BY ρ :=
  ifb (ieq (Õ a) 0) (k false) (ifb (igt (Õ a) 80) (k false) (â a (0:Int) fun e=>ifb (ilt e 0) (k false) (â a (0:Int) fun f=>ifb (ige f (Õ b.2)) (k false) (â a (0:Int) fun g=>â b.2 g fun d=>Å (yx b d.1 a) fun c=>ifb c.2.2 (ifb (ieq c.1 d.1) (k (ilt c.2.1 0)) (k false)) (k false)))))
def yy (a:ge) (b:an):BY (Bool):=OX a b some
def oI (c:b5) (b:a7) (d:Int) (e:Int) (f:fy) (g:bl) (h:fx) (i:c7) (j:bl) (k:c9) (a:Int) (l:Int->BY ρ) (m:Bool->BY ρ) (n:Unit->BY ρ):BY ρ :=
  ifb (ilt a (Õ b)) (â b a fun o=>Å (ο (((d,e),f,g,h,i,j),k) o) fun p=>Å (ov p) fun q=>â c a fun r=>Å (yy q r) fun s=>ifb (!s) (m false) (ck (a+(1:Int)) fun t=>l t)) (n ())
def OS (a:a8) (b:b5) (k:Bool->BY ρ):BY ρ :=
  Å (sJ a) fun c=>ifb (ine (Õ c) (Õ b)) (k false) (Ë (fun(d:Int) e=>oI b c a.1.1.1 a.1.1.2 a.1.2.1 a.1.2.2.1 a.1.2.2.2.1 a.1.2.2.2.2.1 a.1.2.2.2.2.2 a.2 d (fun f=>e f) (fun g=>k g) (fun _=>k true)) (0:Int))
def ou (a:a8) (b:b5):BY (Bool):=OS a b some
def kJ (c:b5) (a:Int) (e:c9) (b:Int) (f:Int->BY ρ) (d:Bool->BY ρ) (g:Unit->BY ρ):BY ρ :=
  â c a fun h=>ifb (ilt b (Õ h)) (â e a fun i=>â c a fun j=>â j b fun k=>Å (J7 i.2 k) fun l=>ifb (ilt l 0) (d false) (â c a fun m=>â c a fun n=>â n b fun o=>Å (J7 m o) fun p=>ifb (ine p b) (d false) (ck (b+(1:Int)) fun q=>f q))) (g ())
def kK (b:b5) (c:c9) (a:Int) (e:Int->BY ρ) (d:Bool->BY ρ) (f:Unit->BY ρ):BY ρ :=
  ifb (ilt a (Õ b)) (â b a fun g=>â c a fun h=>ifb (ine (Õ g) (Õ h.2)) (d false) (Ë (fun(i:Int) j=>kJ b a c i (fun k=>j k) (fun l=>d l) (fun _=>ck (a+(1:Int)) fun m=>e m)) (0:Int))) (f ())
def TZ (a:a8) (b:b5) (k:Bool->BY ρ):BY ρ :=
  ifb (ine (Õ b) (Õ a.2)) (k false) (Ë (fun(c:Int) d=>kK b a.2 c (fun e=>d e) (fun f=>k f) (fun _=>k true)) (0:Int))
def wQ (a:a8) (b:b5):BY (Bool):=TZ a b some
def O4 (b:b6) (c:an) (d:Int) (e:Int) (k:Int->BY ρ):BY ρ :=
  Å (jH b (d,e)) fun a=>ifb (ieq a 0) (k (0:Int)) (ck (a-(1:Int)) fun f=>â c f fun g=>k g)
def jr (a:b6) (b:an) (c:Int) (d:Int):BY (Int):=O4 a b c d some
def T6 (b:b6) (a:io) (c:Int) (k:bx->BY ρ):BY ρ :=
  Å (sK b a) fun d=>Å (wU b a) fun e=>ck (c+e.1) fun f=>Å (BA d.1) fun g=>ck (f+g) fun h=>ck (h-a.2.2.2.2.2.1) fun i=>ck (c+e.2) fun j=>Å (wV d.2) fun l=>ck (j+l) fun m=>ck (m+a.2.2.2.2.2.1) fun n=>k (i,n)
def rl (a:b6) (b:io) (c:Int):BY bx:=T6 a b c some
def uA (d:an) (c:bl) (g:Int) (h:Int) (e:fy) (i:bl) (j:fx) (k:c7) (l:bl) (a:Int) (m:Int->BY ρ) (f:Bool->BY ρ) (o:Unit->BY ρ):BY ρ :=
  ifb (ilt a (Õ c)) (â c a fun p=>Å (kj ((g,h),e,i,j,k,l) p.1) fun q=>â e q fun b=>â c a fun r=>ifb (ieq r.2 b.2.1) (â d a fun s=>ck (b.2.2.1+b.2.2.2.1.1) fun t=>ck (b.2.2.1+b.2.2.2.1.2) fun u=>Å (jM s t u) fun v=>ifb (!v) (f false) (ck (a+(1:Int)) fun w=>m w)) (ck (a-(1:Int)) fun x=>â d x fun y=>â d a fun z=>ck (y-z) fun n=>ifb (ilt n 0) (f false) (ck (a-(1:Int)) fun A=>â c A fun B=>â c a fun C=>Å (nh ((g,h),e,i,j,k,l) b.1 B.2 C.2) fun D=>ifb (igt n D) (f false) (ck (a+(1:Int)) fun E=>m E)))) (o ())
def uz (j:an) (c:Int) (d:Int) (e:fy) (f:bl) (g:fx) (b:c7) (h:bl) (i:Int) (m:Int->BY ρ) (k:Bool->BY ρ) (n:Unit->BY ρ):BY ρ :=
  ifb (ilt i (Õ b)) (â b i fun a=>Å (ng a.2.2.1 a.2.2.2.1) fun o=>Å (jr ((c,d),e,f,g,b,h) j o a.2.1) fun p=>Å (ng a.2.2.2.1 a.2.2.1) fun q=>Å (jr ((c,d),e,f,g,b,h) j q a.2.1) fun r=>ck (p-r) fun s=>Å (rl ((c,d),e,f,g,b,h) a s) fun l=>ifb (igt l.1 a.2.2.2.2.1) (k false) (ifb (igt a.2.2.2.2.1 l.2) (k false) (ck (i+(1:Int)) fun t=>m t))) (n ())
def Zx (a:b6) (b:an) (k:Bool->BY ρ):BY ρ :=
  Å (iU a) fun c=>Ë (fun(d:Int) e=>uA b c a.1.1 a.1.2 a.2.1 a.2.2.1 a.2.2.2.1 a.2.2.2.2.1 a.2.2.2.2.2 d (fun f=>e f) (fun g=>k g) (fun _=>Ë (fun(h:Int) i=>uz b a.1.1 a.1.2 a.2.1 a.2.2.1 a.2.2.2.1 a.2.2.2.2.1 a.2.2.2.2.2 h (fun j=>i j) (fun l=>k l) (fun _=>k true)) (0:Int))) (0:Int)
def wT (a:b6) (b:an):BY (Bool):=Zx a b some
def qy (b:an) (a:Int) (c:Int->BY ρ) (d:Bool->BY ρ) (e:Unit->BY ρ):BY ρ :=
  ifb (ilt a (Õ b)) (â b a fun f=>Å (jM f (-4503599627370496:Int) (4503599627370496:Int)) fun g=>ifb (!g) (d false) (ck (a+(1:Int)) fun h=>c h)) (e ())
def TY (c:a8) (d:b5) (a:an) (k:Bool->BY ρ):BY ρ :=
  Å (ο c d) fun b=>Ë (fun(e:Int) f=>qy a e (fun g=>f g) (fun h=>k h) (fun _=>Å (iU b) fun i=>ifb (ieq (Õ a) (Õ i)) (Å (wT b a) fun j=>k j) (k false))) (0:Int)
def wP (a:a8) (b:b5) (c:an):BY (Bool):=TY a b c some
def Ξ (e:b5) (b:a7) (f:Int) (g:Int) (h:fy) (i:bl) (j:fx) (k:c7) (l:bl) (m:c9) (a:Int) (n:Int->BY ρ) (c:Bool->BY ρ) (o:Unit->BY ρ):BY ρ :=
  ifb (ilt a (Õ b)) (â b a fun p=>Å (ο (((f,g),h,i,j,k,l),m) p) fun q=>Å (ov q) fun r=>Å (nk r) fun d=>ifb (ine d.2 0) (c false) (â e a fun s=>Å (Ω d.1 s) fun t=>ifb (!t) (c false) (ck (a+(1:Int)) fun u=>n u))) (o ())
def rI (b:a8) (m:b5) (e:b5) (f:an) (k:Bool->BY ρ):BY ρ :=
  Å (Cn b) fun p=>ifb (!p) (Å ξ fun q=>k q) (Å (wN m (160:Int)) fun r=>ifb (!r) (Å ξ fun s=>k s) (Å (wN e (8:Int)) fun t=>ifb (!t) (Å ξ fun u=>k u) (ifb (igt (Õ f) 70) (Å ξ fun v=>k v) (Å (Bw b) fun d=>Å (jF b m) fun i=>Å (uT b e f) fun g=>Å (Cr b) fun j=>ifb (ine j 0) (Å ξ fun w=>ifb w (ifb (ieq d.2 j) (ifb (ieq i j) (ifb (ieq g j) (k (ieq (Õ d.1) 0)) (k false)) (k false)) (k false)) (k false)) (Å (ou b m) fun n=>aiM (α:=(Val (.pair ah (.pair ab (.pair ah (.pair tI aF)))))) (fun l=>ifb n (ifb (ine i 0) (k false) (ifb (!n) (ifb (ine i 8) (k false) (l (e,f,d.1,d.2,g,b.1.1.1,b.1.1.2,b.1.2.1,b.1.2.2.1,b.1.2.2.2.1,b.1.2.2.2.2.1,b.1.2.2.2.2.2,b.2))) (l (e,f,d.1,d.2,g,b.1.1.1,b.1.1.2,b.1.2.1,b.1.2.2.1,b.1.2.2.2.1,b.1.2.2.2.2.1,b.1.2.2.2.2.2,b.2)))) (ifb (!n) (ifb (ine i 8) (k false) (l (e,f,d.1,d.2,g,b.1.1.1,b.1.1.2,b.1.2.1,b.1.2.2.1,b.1.2.2.2.1,b.1.2.2.2.2.1,b.1.2.2.2.2.2,b.2))) (l (e,f,d.1,d.2,g,b.1.1.1,b.1.1.2,b.1.2.1,b.1.2.2.1,b.1.2.2.2.1,b.1.2.2.2.2.1,b.1.2.2.2.2.2,b.2)))) (fun a=>aiM (α:=l7) (fun h=>Å (wQ (((a.2.2.2.2.2.1,a.2.2.2.2.2.2.1),a.2.2.2.2.2.2.2.1,a.2.2.2.2.2.2.2.2.1,a.2.2.2.2.2.2.2.2.2.1,a.2.2.2.2.2.2.2.2.2.2.1,a.2.2.2.2.2.2.2.2.2.2.2.1),a.2.2.2.2.2.2.2.2.2.2.2.2) a.1) fun x=>ifb (!x) (ifb (ine a.2.2.2.2.1 1) (k false) (h (a.2.2.1,a.2.2.2.1,a.2.2.2.2.2.1,a.2.2.2.2.2.2.1,a.2.2.2.2.2.2.2.1,a.2.2.2.2.2.2.2.2.1,a.2.2.2.2.2.2.2.2.2.1,a.2.2.2.2.2.2.2.2.2.2.1,a.2.2.2.2.2.2.2.2.2.2.2.1,a.2.2.2.2.2.2.2.2.2.2.2.2))) (Å (wP (((a.2.2.2.2.2.1,a.2.2.2.2.2.2.1),a.2.2.2.2.2.2.2.1,a.2.2.2.2.2.2.2.2.1,a.2.2.2.2.2.2.2.2.2.1,a.2.2.2.2.2.2.2.2.2.2.1,a.2.2.2.2.2.2.2.2.2.2.2.1),a.2.2.2.2.2.2.2.2.2.2.2.2) a.1 a.2.1) fun o=>ifb o (ifb (ine a.2.2.2.2.1 0) (k false) (ifb (!o) (ifb (ine a.2.2.2.2.1 8) (k false) (h (a.2.2.1,a.2.2.2.1,a.2.2.2.2.2.1,a.2.2.2.2.2.2.1,a.2.2.2.2.2.2.2.1,a.2.2.2.2.2.2.2.2.1,a.2.2.2.2.2.2.2.2.2.1,a.2.2.2.2.2.2.2.2.2.2.1,a.2.2.2.2.2.2.2.2.2.2.2.1,a.2.2.2.2.2.2.2.2.2.2.2.2))) (h (a.2.2.1,a.2.2.2.1,a.2.2.2.2.2.1,a.2.2.2.2.2.2.1,a.2.2.2.2.2.2.2.1,a.2.2.2.2.2.2.2.2.1,a.2.2.2.2.2.2.2.2.2.1,a.2.2.2.2.2.2.2.2.2.2.1,a.2.2.2.2.2.2.2.2.2.2.2.1,a.2.2.2.2.2.2.2.2.2.2.2.2)))) (ifb (!o) (ifb (ine a.2.2.2.2.1 8) (k false) (h (a.2.2.1,a.2.2.2.1,a.2.2.2.2.2.1,a.2.2.2.2.2.2.1,a.2.2.2.2.2.2.2.1,a.2.2.2.2.2.2.2.2.1,a.2.2.2.2.2.2.2.2.2.1,a.2.2.2.2.2.2.2.2.2.2.1,a.2.2.2.2.2.2.2.2.2.2.2.1,a.2.2.2.2.2.2.2.2.2.2.2.2))) (h (a.2.2.1,a.2.2.2.1,a.2.2.2.2.2.1,a.2.2.2.2.2.2.1,a.2.2.2.2.2.2.2.1,a.2.2.2.2.2.2.2.2.1,a.2.2.2.2.2.2.2.2.2.1,a.2.2.2.2.2.2.2.2.2.2.1,a.2.2.2.2.2.2.2.2.2.2.2.1,a.2.2.2.2.2.2.2.2.2.2.2.2))))) (fun c=>Å (By (((c.2.2.1,c.2.2.2.1),c.2.2.2.2.1,c.2.2.2.2.2.1,c.2.2.2.2.2.2.1,c.2.2.2.2.2.2.2.1,c.2.2.2.2.2.2.2.2.1),c.2.2.2.2.2.2.2.2.2)) fun y=>ifb y (Å ξ fun z=>ifb z (ifb (ieq c.2.1 5) (k (ieq (Õ c.1) 0)) (k false)) (k false)) (ifb (ine c.2.1 0) (k false) (Å (ou (((c.2.2.1,c.2.2.2.1),c.2.2.2.2.1,c.2.2.2.2.2.1,c.2.2.2.2.2.2.1,c.2.2.2.2.2.2.2.1,c.2.2.2.2.2.2.2.2.1),c.2.2.2.2.2.2.2.2.2) c.1) fun A=>ifb (!A) (k false) (Å (sJ (((c.2.2.1,c.2.2.2.1),c.2.2.2.2.1,c.2.2.2.2.2.1,c.2.2.2.2.2.2.1,c.2.2.2.2.2.2.2.1,c.2.2.2.2.2.2.2.2.1),c.2.2.2.2.2.2.2.2.2)) fun B=>Ë (fun(C:Int) D=>Ξ c.1 B c.2.2.1 c.2.2.2.1 c.2.2.2.2.1 c.2.2.2.2.2.1 c.2.2.2.2.2.2.1 c.2.2.2.2.2.2.2.1 c.2.2.2.2.2.2.2.2.1 c.2.2.2.2.2.2.2.2.2 C (fun E=>D E) (fun F=>k F) (fun _=>Å ξ fun G=>k G)) (0:Int)))))))))))
def sI (a:a8) (b:b5) (c:b5) (d:an):BY (Bool):=rI a b c d some
end Go.Proofs.ZzM
end
