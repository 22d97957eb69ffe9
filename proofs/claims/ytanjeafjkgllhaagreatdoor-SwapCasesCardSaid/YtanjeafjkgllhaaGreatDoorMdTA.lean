/- lemmas -/
import Derived.Test.YtanjeafjkgllhaaGreatDoorAmC
set_option linter.all false
noncomputable section
variable {ρ:Type}
set_option maxRecDepth 100000
namespace Go.Proofs.ZzM
open Go Go.Am
variable [LC]
abbrev tI:Ty:=.int .i64
abbrev Æ:Ty:=(.pair tI tI)
abbrev ð:Ty:=(.pair tI (.slice tI))
abbrev Ę:Ty:=(.pair tI Æ)
abbrev Ą:Ty:=(.pair Æ Æ)
abbrev kX:Ty:=(.pair Æ tI)
abbrev Θ:Ty:=(.pair tI kX)
abbrev Ej:Ty:=(.pair Ą tI)
abbrev Ý:Ty:=(.pair tI (.slice Ę))
abbrev Bo:Ty:=(.pair (.slice Ę) (.slice Æ))
abbrev Ú:Ty:=(.pair tI (.pair tI (.pair tI (.pair Æ kX))))
abbrev Ò:Ty:=(.pair tI (.pair tI (.pair (.slice tI) (.pair (.slice tI) (.pair tI Ę)))))
abbrev È:Ty:=(.pair Æ (.pair (.slice Ú) (.pair (.slice Æ) (.pair (.slice Θ) (.pair (.slice Ò) (.slice Æ))))))
abbrev Ä:Ty:=(.pair È (.slice ð))
abbrev C3:Ty:=(.pair È (.pair (.slice Æ) (.pair Ý (.slice Æ))))
def GK (l:rT Int):rF (rT Int):=Ô (Î l.length) (some l)
def Vp:Nat->rT Int->rT (rT Int)
  |0,_=>[[]]
  |n+1,l=>if l.length=0 then[[]] else(List.range l.length).flatMap fun i=>(Vp n (l.take i++l.drop (i+1))).map (l.getD i 0::·)
def Bl:rT (Int×rT Int)->rT (rT (rT Int))
  |[]=>[[]]
  |m::r=>(Vp m.2.length m.2).flatMap fun x=>(Bl r).map (x::·)
def Au (l:rT Int):rF (rT (rT Int)):=Ô (decide (l.length<=9)) (some (Vp l.length l))
def uD (l:rT (Int×rT Int)):rF (rT (rT (rT Int))):=Ô (decide (l.length<=9)&&l.all fun m=>decide (m.2.length<=9)) (some (Bl l))
abbrev aa:Ty:=(.slice Æ)
abbrev ab:Ty:=(.slice tI)
abbrev ac:Ty:=(.slice Ò)
abbrev ae:Ty:=(.slice Ú)
abbrev af:Ty:=(.slice Θ)
abbrev ag:Ty:=(.slice (.slice ab))
abbrev ah:Ty:=(.pair tI (.pair tI (.pair ae (.pair aa (.pair af (.pair ac (.pair aa (.slice ð))))))))
abbrev ai:Ty:=(.slice ð)
abbrev aj:Ty:=(.pair tI (.pair tI (.pair ae (.pair aa (.pair af (.pair ac aa))))))
abbrev ak:Ty:=(.slice Ę)
abbrev am:Ty:=(.slice ab)
abbrev ao:Ty:=(.slice .str)
abbrev aq:Ty:=(.pair tI (.pair tI (.pair ae (.pair aa (.pair af (.pair ac (.pair aa (.pair tI aj))))))))
abbrev ar:Ty:=(.pair tI (.pair tI (.pair ae (.pair aa (.pair af (.pair ac (.pair aa aj)))))))
abbrev au:Ty:=(.pair tI (.pair tI (.pair tI (.pair ae (.pair aa (.pair af (.pair ac (.pair aa (.pair tI (.pair tI (.pair tI (.pair tI (.pair tI Ę)))))))))))))
abbrev aw:Ty:=(.pair tI (.pair tI (.pair ae (.pair aa (.pair af (.pair ac (.pair aa (.pair ai (.pair tI ai)))))))))
abbrev ax:Ty:=(.map tI Ú)
abbrev ay:Ty:=(.map tI .bool)
abbrev az:Ty:=(.pair tI (.pair tI (.pair ae (.pair aa (.pair af (.pair ac (.pair aa (.pair tI (.pair tI (.pair ab (.pair ab (.pair tI (.pair tI (.pair tI ð))))))))))))))
abbrev aB:Ty:=(.slice .bool)
abbrev aD:Ty:=(.pair tI (.pair tI (.pair tI Ę)))
abbrev aE:Ty:=(.ptr Ä)
abbrev aF:Ty:=(.pair tI (.pair tI (.pair ae (.pair aa (.pair af (.pair ac (.pair aa (.pair ai ah))))))))
abbrev aG:Ty:=(.pair tI (.pair ag ah))
abbrev aH:Ty:=(.pair tI (.pair tI (.pair ae (.pair aa (.pair af (.pair ac (.pair aa (.pair ai tI))))))))
abbrev aI:Ty:=(.pair .str tI)
abbrev aJ:Ty:=(.pair tI (.pair tI (.pair ae (.pair aa (.pair af (.pair ac (.pair aa ð)))))))
abbrev aK:Ty:=(.pair tI (.pair tI (.pair tI (.pair ae (.pair aa (.pair af (.pair ac (.pair aa (.pair tI Ę)))))))))
abbrev aL:Ty:=(.pair ab tI)
abbrev aM:Ty:=(.pair tI (.pair tI (.pair ae (.pair aa (.pair af (.pair ac (.pair aa tI)))))))
abbrev aO:Ty:=(.pair tI (.pair tI (.pair ae (.pair aa (.pair af (.pair ac (.pair aa (.pair ai (.pair tI ð)))))))))
abbrev aP:Ty:=(.pair tI ah)
abbrev aQ:Ty:=(.pair tI ag)
abbrev aR:Ty:=(.pair ab (.pair tI (.pair tI (.pair tI (.pair ae (.pair aa (.pair af (.pair ac (.pair aa (.pair tI (.pair ab (.map tI tI))))))))))))
abbrev aS:Ty:=(.ptr am)
abbrev aT:Ty:=(.pair ab ab)
abbrev aU:Ty:=(.pair tI ac)
abbrev aV:Ty:=(.pair tI Bo)
abbrev aW:Ty:=(.pair aB ab)
abbrev aX:Ty:=(.pair tI (.pair tI (.pair tI (.pair tI (.pair tI aG)))))
abbrev aY:Ty:=(.map tI Æ)
abbrev aZ:Ty:=(.pair È Ò)
abbrev ba:Ty:=(.pair tI Ý)
abbrev bc:Ty:=(.pair È Æ)
abbrev bf:Ty:=(.pair tI aa)
abbrev bg:Ty:=(.pair tI aj)
abbrev bh:Ty:=(.pair È tI)
abbrev bi:Ty:=(.pair tI ao)
abbrev bj:Ty:=(.pair ab (.pair tI (.pair tI aL)))
abbrev bm:Ty:=(.pair tI ð)
abbrev bn:Ty:=(.pair .str aD)
abbrev bo:Ty:=(.pair ab ð)
abbrev bp:Ty:=(.pair Ä am)
abbrev bq:Ty:=(.map tI tI)
abbrev br:Ty:=(.pair ab (.pair aB aT))
abbrev bt:Ty:=(.pair tI (.pair tI aP))
abbrev bu:Ty:=(.pair tI (.pair tI (.pair ae (.pair aa (.pair af aa)))))
abbrev bw:Ty:=(.pair Ä tI)
abbrev bz:Ty:=(.pair tI am)
abbrev bB:Ty:=(.pair ab (.pair ai ab))
abbrev bC:Ty:=(.pair aa (.pair tI (.pair tI (.pair tI aD))))
abbrev bD:Ty:=(.pair .bool tI)
abbrev bE:Ty:=(.pair tI Ę)
abbrev bG:Ty:=(.pair È (.pair ax tI))
abbrev bH:Ty:=(.pair tI (.pair tI (.pair ak Ý)))
abbrev bI:Ty:=(.pair .str ar)
abbrev an:=Val ab
abbrev a7:=Val ag
abbrev a8:=Val Ä
abbrev bl:=Val aa
abbrev bx:=Val Æ
abbrev bA:=Val È
abbrev b5:=Val am
abbrev b6:=Val ac
abbrev b8:=Val ai
abbrev c7:=Val ae
abbrev dx:=Val af
abbrev dy:=Val ð
abbrev ey:=Val ao
abbrev ez:=Val ak
abbrev fx:=Val Ò
abbrev fy:=Val Ý
abbrev ge:=Val aI
abbrev gf:=Val (.map tI Ú)
abbrev gv:=Val Ą
abbrev gx:=Val aQ
abbrev gU:=Val kX
abbrev gV:=Val (.pair tI (.pair ab aW))
abbrev hO:=Val (.pair (.int .u64) (.int .u64))
abbrev im:=Val (.pair tI aU)
abbrev io:=Val ax
abbrev js:=Val (.pair tI (.pair tI .bool))
abbrev kf:=Val Ú
abbrev kw:=Val aL
abbrev kN:=Val aj
abbrev kU:=Val (.pair am tI)
abbrev kV:=Val Ę
abbrev kW:=Val bf
abbrev ld:=Val (.pair Θ .bool)
abbrev lu:=Val (.pair am .bool)
abbrev lw:=Val ah
abbrev lx:=Val aT
abbrev ly:=Val (.pair tI .str)
abbrev lI:=Val aG
abbrev l7:=Val aV
abbrev m0:=Val aB
abbrev ni:=Val (.pair Ä ab)
abbrev nj:=Val (.pair aa tI)
abbrev nn:=Val (.pair tI aW)
abbrev nT:=Val (.pair tI aQ)
abbrev pc:=Val (.pair tI aG)
abbrev pi:=Val (.pair tI bm)
abbrev px:=Val (.pair ag tI)
abbrev py:=Val bi
abbrev qs:=Val Θ
abbrev rd:=Val bh
abbrev rm:=Val bn
abbrev rn:=Val aq
abbrev rx:=Val (.pair ab .bool)
abbrev ry:=Val aP
variable [LC]
def Ű (d:b5) (e:Int) (b:Int) (a:Int) (f:Int->Int->rF ρ) (g:Int->rF ρ):rF ρ :=
  ifb (ilt a e) (Þ d a fun h=>ck (b+(Ó h)) fun c=>ifb (ilt c 0) (none) (ck (a+(1:Int)) fun i=>f c i)) (g b)
def Ď (d:b5) (e:Int) (a:Int) (b:an) (f:Int->an->rF ρ) (g:an->rF ρ):rF ρ :=
  ifb (ilt a e) (Þ d a fun c=>Ô (Î ((List.length b)+(List.length c))) (ck (a+(1:Int)) fun h=>f h (b++c))) (g b)
def rA (a:b5) (k:an->rF ρ):rF ρ :=
  Ê (fun(c:bx) g=>Ű a (Ó a) c.1 c.2 (fun h i=>g (h,i)) (fun d=>ifb (ilt d 0) (none) (ck (d-(0:Int)) fun b=>ifb (igt b 0) (Ô ((ilt 0 b)&&(Î (Int.toNat b))) (Ô (ile 0 (ê (List.replicate (Int.toNat b) (0:Int)))) (Ê (fun(e:dy) j=>Ď a (Ó a) e.1 e.2 (fun l m=>j (l,m)) (fun n=>k n)) ((0:Int),(List.take 0 (List.replicate (Int.toNat b) (0:Int))))))) (Ê (fun(f:dy) o=>Ď a (Ó a) f.1 f.2 (fun p q=>o (p,q)) (fun r=>k r)) ((0:Int),[]))))) ((0:Int),(0:Int))
def Ė (a:b5):rF (an):=rA a some
def pN (al:b5) (rec:an->rF (b5)) (a:Int) (b:b5) (y:an) (c:b5->rF ρ):rF ρ :=
  Ô (Î ((List.length ([a]))+(List.length y))) (yg al (b++[(([a])++y)]) (c (b++[(([a])++y)])))
def pO (al:b5) (rec:an->rF (b5)) (e:an) (f:Int) (b:an) (a:Int) (d:b5) (g:Int->b5->rF ρ) (h:b5->rF ρ):rF ρ :=
  ifb (ilt a f) (Þ e a fun i=>Ô ((ile 0 a)&&(ile a (ê b))) (ck (a+(1:Int)) fun c=>Ô ((ile 0 c)&&(ile c (ê b))) (Â (Ė ([(List.take (Int.toNat a) b),(List.drop (Int.toNat c) b)])) fun j=>Â (rec j) fun k=>GZ (fun(l:b5) (m:an) n=>pN al rec i l m (fun o=>n o)) k (d) (fun p=>ck (a+(1:Int)) fun q=>g q p)))) (h d)
def xX (al:b5) (rec:an->rF (b5)) (mm:an) (k:(b5)×(an)->rF ρ):rF ρ :=
  ifb (ieq (Ó mm) 0) (yg al (([])++[[]]) (k ((([])++[[]]),mm))) (Ê (fun(a:Val bz) b=>pO al rec mm (Ó mm) mm a.1 a.2 (fun c d=>b (c,d)) (fun e=>k (e,mm))) ((0:Int),[]))
def mq (al:a7) (rec:b8->rF (a7)) (a:an) (b:a7) (y:b5) (c:a7->rF ρ):rF ρ :=
  Ô (Î ((List.length ([a]))+(List.length y))) (yg al (b++[(([a])++y)]) (c (b++[(([a])++y)])))
def mr (al:a7) (rec:b8->rF (a7)) (a:b8) (b:a7) (y:an) (c:a7->rF ρ):rF ρ :=
  Ô (ile 1 (ê a)) (Â (rec (List.drop 1 a)) fun d=>GZ (fun(e:a7) (f:b5) g=>mq al rec y e f (fun h=>g h)) d (b) (fun i=>c i))
def sI (al:a7) (rec:b8->rF (a7)) (mm:b8) (k:(a7)×(b8)->rF ρ):rF ρ :=
  ifb (ieq (Ó mm) 0) (yg al (([])++[[]]) (k ((([])++[[]]),mm))) (Þ mm (0:Int) fun a=>Â (Au a.2) fun b=>GZ (fun(c:a7) (d:an) e=>mr al rec mm c d (fun f=>e f)) b ([]) (fun g=>k (g,mm)))
def χ (al:an) (rec:an->rF (an)) (d:an) (e:Int) (a:Int) (b:an) (f:Int->an->rF ρ) (g:an->rF ρ):rF ρ :=
  ifb (ilt a e) (Þ d a fun c=>yg al (b++[c]) (ck (a+(1:Int)) fun h=>f h (b++[c]))) (g b)
def jI (al:an) (rec:an->rF (an)) (mm:an) (k:(an)×(an)->rF ρ):rF ρ :=
  Ê (fun(a:dy) b=>χ al rec mm (Ó mm) a.1 a.2 (fun c d=>b (c,d)) (fun e=>k (e,mm))) ((0:Int),[])
def Uf (a:bx) (b:Int) (c:Int) (k:Bool->rF ρ):rF ρ :=
  ifb (ile b a.1) (ifb (ile a.1 a.2) (k (ile a.2 c)) (k false)) (k false)
def Ū (a:bx) (b:Int) (c:Int):rF (Bool):=Uf a b c some
def Uc (a:Int) (b:Int) (c:Int) (k:Bool->rF ρ):rF ρ :=
  ifb (ile b a) (k (ile a c)) (k false)
def ć (a:Int) (b:Int) (c:Int):rF (Bool):=Uc a b c some
def Zg (a:Int) (k:Bool->rF ρ):rF ρ :=
  Â (ć a (0:Int) (20000:Int)) fun b=>k b
def l5 (a:Int):rF (Bool):=Zg a some
def ado (a:Int) (k:Int->rF ρ):rF ρ :=
  ifb (ilt a 0) (k (IntKind.wrap .u64 (0-(IntKind.wrap .u64 a)))) (k (IntKind.wrap .u64 a))
def sq (a:Int):rF (Int):=ado a some
def Al (b:Int) (a:Int) (c:Int->Int->rF ρ) (d:Int->rF ρ):rF ρ :=
  ifb (ine a 0) (ifb (iK a 0) (none) (c a (Int.tmod b a))) (d b)
def ahP (b:Int) (c:Int) (k:Int->rF ρ):rF ρ :=
  Ê (fun(a:hO) d=>Al a.1 a.2 (fun e f=>d (e,f)) (fun g=>k g)) (b,c)
def Qc (a:Int) (b:Int):rF (Int):=ahP a b some
def Y9 (a:bx) (k:Bool->rF ρ):rF ρ :=
  ifb (ige a.2 1) (ifb (ile a.2 2147483647) (Â (sq a.1) fun b=>ifb (ile b 2147483647) (Â (sq a.1) fun c=>Â (sq a.2) fun d=>Â (Qc c d) fun e=>k (ieq e 1)) (k false)) (k false)) (k false)
def uP (a:bx):rF (Bool):=Y9 a some
def DS (a:kf) (k:Bool->rF ρ):rF ρ :=
  Â (uP a.2.2.2.2.1) fun b=>ifb b (Â (ć a.2.2.2.2.1.1 (-1000:Int) (1000:Int)) fun c=>ifb c (Â (ć a.1 (1:Int) (1099511627776:Int)) fun d=>ifb d (Â (l5 a.2.1) fun e=>ifb e (Â (ć a.2.2.1 (1:Int) (1125899906842624:Int)) fun f=>ifb f (Â (Ū a.2.2.2.1 (-1073741824:Int) (1073741824:Int)) fun g=>ifb g (ifb (ile a.2.2.2.2.1.2 100) (Â (ć a.2.2.2.2.2 (0:Int) (1048576:Int)) fun h=>k h) (k false)) (k false)) (k false)) (k false)) (k false)) (Â (ć a.1 (1:Int) (1099511627776:Int)) fun i=>ifb i (Â (l5 a.2.1) fun j=>ifb j (Â (ć a.2.2.1 (1:Int) (1125899906842624:Int)) fun l=>ifb l (Â (Ū a.2.2.2.1 (-1073741824:Int) (1073741824:Int)) fun m=>ifb m (k false) (k false)) (k false)) (k false)) (k false))) (Â (ć a.1 (1:Int) (1099511627776:Int)) fun n=>ifb n (Â (l5 a.2.1) fun o=>ifb o (Â (ć a.2.2.1 (1:Int) (1125899906842624:Int)) fun p=>ifb p (Â (Ū a.2.2.2.1 (-1073741824:Int) (1073741824:Int)) fun q=>ifb q (k false) (k false)) (k false)) (k false)) (k false))
def vL (a:kf):rF (Bool):=DS a some
def iJ (e:c7) (f:Int) (g:c7) (a:Int) (b:Int->rF ρ) (c:Int->rF ρ) (h:Unit->rF ρ):rF ρ :=
  ifb (ilt a f) (Þ e a fun d=>Â (vL d) fun i=>ifb (!i) (c (1:Int)) (ifb (igt a 0) (ck (a-(1:Int)) fun j=>Þ g j fun k=>ifb (ile d.1 k.1) (c (6:Int)) (ck (a+(1:Int)) fun l=>b l)) (ck (a+(1:Int)) fun m=>b m))) (h ())
def zy (a:bA) (k:Int->rF ρ):rF ρ :=
  Ê (fun(b:Int) c=>iJ a.2.1 (Ó a.2.1) a.2.1 b (fun d=>c d) (fun e=>k e) (fun _=>k (0:Int))) (0:Int)
def Ś (a:bA):rF (Int):=zy a some
def mL (d:c7) (e:Int) (a:Int) (b:io) (f:Int->io->rF ρ) (g:io->rF ρ):rF ρ :=
  ifb (ilt a e) (Þ d a fun c=>ck (a+(1:Int)) fun h=>f h (Vx (k:=tI) (v:=Ú) c.1 c b)) (g b)
def O6 (a:bA) (k:io->rF ρ):rF ρ :=
  Ê (fun(b:(Val (.pair tI ax))) c=>mL a.2.1 (Ó a.2.1) b.1 b.2 (fun d e=>c (d,e)) (fun f=>k f)) ((0:Int),[])
def ģ (a:bA):rF (io):=O6 a some
def Δ (b:an) (c:Int) (d:Int) (a:Int) (e:Int->rF ρ) (f:Int->rF ρ) (g:Unit->rF ρ):rF ρ :=
  ifb (ilt a d) (Þ b a fun h=>ifb (ieq c h) (f a) (ck (a+(1:Int)) fun i=>e i)) (g ())
def tY (a:an) (b:Int) (k:Int->rF ρ):rF ρ :=
  Ê (fun(c:Int) d=>Δ a b (Ó a) c (fun e=>d e) (fun f=>k f) (fun _=>k (-1:Int))) (0:Int)
def Ξ (a:an) (b:Int):rF (Int):=tY a b some
def ot (a:an) (b:Int) (k:Bool->rF ρ):rF ρ :=
  Â (Ξ a b) fun c=>k (ige c 0)
def á (a:an) (b:Int):rF (Bool):=ot a b some
def vC (f:b6) (g:Int) (d:Int) (a:Int) (b:an) (e:Int->an->rF ρ) (h:an->rF ρ):rF ρ :=
  ifb (ilt a g) (Þ f a fun c=>Â (á c.2.2.1 d) fun i=>Â (á c.2.2.2.1 d) fun j=>ifb (!(i==j)) (Ô (Î ((List.length b)+(List.length ([c.2.1])))) (ck (a+(1:Int)) fun k=>e k (b++([c.2.1])))) (ck (a+(1:Int)) fun l=>e l b)) (h b)
def vB (e:bl) (f:Int) (g:Int) (a:Int) (b:an) (d:Int->an->rF ρ) (h:an->rF ρ):rF ρ :=
  ifb (ilt a f) (Þ e a fun c=>ifb (ieq c.1 g) (Ô (Î ((List.length b)+(List.length ([c.2])))) (ck (a+(1:Int)) fun i=>d i (b++([c.2])))) (ck (a+(1:Int)) fun j=>d j b)) (h b)
def adr (a:bA) (b:kf) (k:an->rF ρ):rF ρ :=
  Ê (fun(d:dy) f=>vC a.2.2.2.2.1 (Ó a.2.2.2.2.1) b.1 d.1 d.2 (fun g h=>f (g,h)) (fun i=>Ê (fun(e:dy) j=>vB a.2.2.2.2.2 (Ó a.2.2.2.2.2) b.1 e.1 e.2 (fun l m=>j (l,m)) (fun c=>Ô (Î (List.length c)) (Ô (Î (List.length (Km c))) (k (AW (Km c)))))) ((0:Int),i))) ((0:Int),[b.2.1])
def vM (a:bA) (b:kf):rF (an):=adr a b some
def rW (e:an) (f:Int) (c:Int) (a:Int) (b:bl) (g:Int->bl->rF ρ) (h:bl->rF ρ):rF ρ :=
  ifb (ilt a f) (Þ e a fun d=>Ô (Î ((List.length b)+(List.length ([(c,d)])))) (ck (a+(1:Int)) fun i=>g i (b++([(c,d)])))) (h b)
def rX (f:c7) (g:Int) (h:Int) (i:Int) (j:c7) (k:bl) (l:dx) (m:b6) (n:bl) (a:Int) (b:bl) (o:Int->bl->rF ρ) (p:bl->rF ρ):rF ρ :=
  ifb (ilt a g) (Þ f a fun c=>Â (vM ((h,i),j,k,l,m,n) c) fun d=>Ê (fun(e:kW) q=>rW d (Ó d) c.1 e.1 e.2 (fun r s=>q (r,s)) (fun t=>ck (a+(1:Int)) fun u=>o u t)) ((0:Int),b)) (p b)
def Ze (a:bA) (k:bl->rF ρ):rF ρ :=
  Ê (fun(b:kW) c=>rX a.2.1 (Ó a.2.1) a.1.1 a.1.2 a.2.1 a.2.2.1 a.2.2.2.1 a.2.2.2.2.1 a.2.2.2.2.2 b.1 b.2 (fun d e=>c (d,e)) (fun f=>k f)) ((0:Int),[])
def qy (a:bA):rF (bl):=Ze a some
def Cz (a:io) (b:Int) (c:Int) (k:Int->rF ρ):rF ρ :=
  Zr (k:=tI) (v:=Ú) b a (fun d=>ifb (ilt c d.2.1) (k (4:Int)) (k (0:Int))) (k (5:Int))
def iG (a:io) (b:Int) (c:Int):rF (Int):=Cz a b c some
def Pb (b:Int) (a:Int) (c:(Val (.ptr ax))) (k:Int->rF ρ):rF ρ :=
  Â (l5 a) fun d=>ifb (!d) (k (1:Int)) (Â (iG c b a) fun e=>k e)
def Ĥ (a:Int) (b:Int) (c:(Val (.ptr ax))):rF (Int):=Pb a b c some
def j9 (d:dx) (e:Int) (f:Int) (g:Int) (h:Int) (a:Int) (b:Int->rF ρ) (i:Int->rF ρ) (j:Unit->rF ρ):rF ρ :=
  ifb (ilt a e) (Þ d a fun c=>ifb (ieq c.1 f) (ifb (ile c.2.1.1 h) (ifb (ile g c.2.1.2) (i a) (ck (a+(1:Int)) fun k=>b k)) (ck (a+(1:Int)) fun l=>b l)) (ck (a+(1:Int)) fun m=>b m)) (j ())
def Ũ (d:bl) (e:Int) (f:Int) (g:Int) (h:Int) (a:Int) (b:Int->rF ρ) (i:Int->rF ρ) (j:Unit->rF ρ):rF ρ :=
  ifb (ilt a e) (Þ d a fun c=>ifb (ieq c.1 f) (Â (ć c.2 g h) fun k=>ifb k (i a) (ck (a+(1:Int)) fun l=>b l)) (ck (a+(1:Int)) fun m=>b m)) (j ())
def vD (b:bA) (e:io) (c:Int) (k:Int->rF ρ):rF ρ :=
  Þ b.2.2.2.1 c fun a=>Â (Ū a.2.1 (0:Int) (20000:Int)) fun f=>ifb (!f) (k (1:Int)) (Â (ć a.2.2 (0:Int) (1048576:Int)) fun g=>ifb (!g) (k (1:Int)) (Â (iG e a.1 a.2.1.1) fun d=>ifb (ine d 0) (k d) (Ô ((ile 0 c)&&(ile c (ê b.2.2.2.1))) (Ê (fun(h:Int) i=>j9 (List.take (Int.toNat c) b.2.2.2.1) (Ó (List.take (Int.toNat c) b.2.2.2.1)) a.1 a.2.1.1 a.2.1.2 h (fun j=>i j) (fun l=>ifb (ige l 0) (k (9:Int)) (Ê (fun(m:Int) n=>Ũ b.2.2.1 (Ó b.2.2.1) a.1 a.2.1.1 a.2.1.2 m (fun o=>n o) (fun p=>ifb (ige p 0) (k (9:Int)) (k (0:Int))) (fun _=>k (0:Int))) (0:Int))) (fun _=>Ê (fun(q:Int) r=>Ũ b.2.2.1 (Ó b.2.2.1) a.1 a.2.1.1 a.2.1.2 q (fun s=>r s) (fun t=>ifb (ige t 0) (k (9:Int)) (k (0:Int))) (fun _=>k (0:Int))) (0:Int))) (0:Int)))))
def Ų (a:bA) (b:io) (c:Int):rF (Int):=vD a b c some
def oV (e:an) (f:an) (g:Int) (a:Int) (b:Int->rF ρ) (c:Bool->rF ρ) (h:Unit->rF ρ):rF ρ :=
  ifb (ilt a g) (Þ f a fun d=>Â (ć d (1:Int) (1099511627776:Int)) fun i=>ifb (!i) (c false) (ifb (igt a 0) (ck (a-(1:Int)) fun j=>Þ e j fun k=>ifb (ile d k) (c false) (ck (a+(1:Int)) fun l=>b l)) (ck (a+(1:Int)) fun m=>b m))) (h ())
def Ue (a:an) (k:Bool->rF ρ):rF ρ :=
  Ê (fun(b:Int) c=>oV a a (Ó a) b (fun d=>c d) (fun e=>k e) (fun _=>k (ile (Ó a) 6))) (0:Int)
def mF (a:an):rF (Bool):=Ue a some
def vA (c:Int) (d:an) (b:an) (a:Int) (e:Int->rF ρ) (f:Int->rF ρ) (g:Unit->rF ρ):rF ρ :=
  ifb (ilt a c) (Ô ((ile 0 a)&&(ilt a (ê b))) (ě b (Int.toNat a) fun h=>Â (á d h) fun i=>ifb i (f a) (ck (a+(1:Int)) fun j=>e j))) (g ())
def kp (f:an) (b:Int) (c:Int) (a:an) (d:Int->Int->an->rF ρ) (g:dy->rF ρ):rF ρ :=
  ifb (ilt c (Ó a)) (Ô ((ile 0 c)&&(ilt c (ê a))) (ě a (Int.toNat c) fun e=>Â (á f e) fun h=>ifb (!h) (Ô ((ile 0 b)&&(ilt b (ê a))) (ě a (Int.toNat b) fun l=>ck (b+(1:Int)) fun i=>ck (c+(1:Int)) fun j=>d i j (List.set a (Int.toNat b) e))) (ck (c+(1:Int)) fun k=>d b k a))) (g (b,a))
def adq (b:an) (e:an) (k:an->rF ρ):rF ρ :=
  Ô (Î (List.length b)) (Ê (fun(f:Int) g=>vA (Ó b) e b f (fun h=>g h) (fun c=>ifb (ieq c (-1:Int)) (k b) (ck (c+(1:Int)) fun i=>Ê (fun(d:Val bm) j=>kp e d.1 d.2.1 d.2.2 (fun l m n=>j (l,m,n)) (fun a=>Ô ((ile 0 a.1)&&(ile a.1 (ê a.2))) (Ô ((ile 0 a.1)&&(ile a.1 (ê (List.take (Int.toNat a.1) a.2++List.replicate (List.length a.2-(Int.toNat a.1)) (0:Int)++List.drop ((Int.toNat a.1)+(List.length a.2-(Int.toNat a.1))) a.2)))) (k (List.take (Int.toNat a.1) (List.drop 0 (List.take (Int.toNat a.1) a.2++List.replicate (List.length a.2-(Int.toNat a.1)) (0:Int)++List.drop ((Int.toNat a.1)+(List.length a.2-(Int.toNat a.1))) a.2))))))) (c,i,b))) (fun _=>k b)) (0:Int))
def ű (a:an) (b:an):rF (an):=adq a b some
def vE (d:dx) (e:Int) (f:Int) (g:Int) (a:Int) (c:Int->rF ρ) (h:Int->rF ρ) (i:Unit->rF ρ):rF ρ :=
  ifb (ilt a e) (Þ d a fun b=>ifb (ieq b.1 f) (Â (ć g b.2.1.1 b.2.1.2) fun j=>ifb j (h a) (ck (a+(1:Int)) fun k=>c k)) (ck (a+(1:Int)) fun l=>c l)) (i ())
def ads (a:bA) (c:Int) (d:Int) (k:ld->rF ρ):rF ρ :=
  Ê (fun(e:Int) f=>vE a.2.2.2.1 (Ó a.2.2.2.1) c d e (fun g=>f g) (fun b=>ifb (ilt b 0) (k (((0:Int),((0:Int),(0:Int)),(0:Int)),false)) (Þ a.2.2.2.1 b fun h=>k (h,true))) (fun _=>k (((0:Int),((0:Int),(0:Int)),(0:Int)),false))) (0:Int)
def vN (a:bA) (b:Int) (c:Int):rF (ld):=ads a b c some
def ig (b:b6) (c:Int) (d:Int) (a:Int) (e:Int->rF ρ) (f:Int->rF ρ) (g:Unit->rF ρ):rF ρ :=
  ifb (ilt a c) (Þ b a fun h=>ifb (ieq h.1 d) (f a) (ck (a+(1:Int)) fun i=>e i)) (g ())
def ω (c:io) (b:Int) (d:an) (e:Int) (f:Int) (a:Int) (g:Int->rF ρ) (h:Int->rF ρ) (i:Unit->rF ρ):rF ρ :=
  ifb (ilt a e) (Þ d a fun j=>Â (iG c j f) fun k=>ifb (ieq k b) (h b) (ck (a+(1:Int)) fun l=>g l)) (i ())
def Ĵ (d:io) (b:an) (e:Int) (f:Int) (c:an) (a:Int) (g:Int->rF ρ) (h:Int->rF ρ) (i:Unit->rF ρ):rF ρ :=
  ifb (ilt a e) (Ô ((ile 0 a)&&(ilt a (ê c))) (ě c (Int.toNat a) fun j=>Ê (fun(k:Int) l=>ω d j b (Ó b) f k (fun m=>l m) (fun n=>h n) (fun _=>ck (a+(1:Int)) fun o=>g o)) (0:Int))) (i ())
def į (b:an) (c:Int) (d:Int) (e:Int) (f:c7) (g:bl) (h:dx) (i:b6) (j:bl) (k:Int) (a:Int) (l:Int->rF ρ) (m:Int->rF ρ) (n:Unit->rF ρ):rF ρ :=
  ifb (ilt a c) (Þ b a fun o=>Â (vN ((d,e),f,g,h,i,j) o k) fun p=>ifb p.2 (m (9:Int)) (ck (a+(1:Int)) fun q=>l q)) (n ())
def og (b:bA) (f:io) (c:Int) (k:Int->rF ρ):rF ρ :=
  Þ b.2.2.2.2.1 c fun a=>Â (ć a.1 (1:Int) (1099511627776:Int)) fun l=>ifb (!l) (k (1:Int)) (Â (l5 a.2.1) fun m=>ifb (!m) (k (1:Int)) (Â (ć a.2.2.2.2.1 (-1125899906842624:Int) (1125899906842624:Int)) fun n=>ifb (!n) (k (1:Int)) (Â (ć a.2.2.2.2.2.1 (0:Int) (1073741824:Int)) fun o=>ifb (!o) (k (1:Int)) (Â (Ū a.2.2.2.2.2.2 (-10000:Int) (10000:Int)) fun p=>ifb (!p) (k (1:Int)) (Â (mF a.2.2.1) fun q=>ifb (!q) (k (1:Int)) (Â (mF a.2.2.2.1) fun r=>ifb (!r) (k (1:Int)) (Ô ((ile 0 c)&&(ile c (ê b.2.2.2.2.1))) (Ê (fun(s:Int) t=>ig (List.take (Int.toNat c) b.2.2.2.2.1) (Ó (List.take (Int.toNat c) b.2.2.2.2.1)) a.1 s (fun u=>t u) (fun v=>ifb (ige v 0) (k (6:Int)) (Â (Ė ([a.2.2.1,a.2.2.2.1])) fun d=>Ê (fun(w:Int) x=>Ĵ f d (Ó ([(5:Int),(4:Int)])) a.2.1 ([(5:Int),(4:Int)]) w (fun y=>x y) (fun z=>k z) (fun _=>Ê (fun(A:Int) B=>į d (Ó d) b.1.1 b.1.2 b.2.1 b.2.2.1 b.2.2.2.1 b.2.2.2.2.1 b.2.2.2.2.2 a.2.1 A (fun C=>B C) (fun D=>k D) (fun _=>Â (ű a.2.2.1 a.2.2.2.1) fun g=>Â (ű a.2.2.2.1 a.2.2.1) fun h=>ifb (igt (Ó g) 1) (k (1:Int)) (ifb (igt (Ó h) 1) (k (1:Int)) (ck ((Ó g)+(Ó h)) fun E=>ifb (ieq E 0) (k (1:Int)) (k (0:Int)))))) (0:Int))) (0:Int))) (fun _=>Â (Ė ([a.2.2.1,a.2.2.2.1])) fun e=>Ê (fun(F:Int) G=>Ĵ f e (Ó ([(5:Int),(4:Int)])) a.2.1 ([(5:Int),(4:Int)]) F (fun H=>G H) (fun I=>k I) (fun _=>Ê (fun(J:Int) K=>į e (Ó e) b.1.1 b.1.2 b.2.1 b.2.2.1 b.2.2.2.1 b.2.2.2.2.1 b.2.2.2.2.2 a.2.1 J (fun L=>K L) (fun M=>k M) (fun _=>Â (ű a.2.2.1 a.2.2.2.1) fun i=>Â (ű a.2.2.2.1 a.2.2.1) fun j=>ifb (igt (Ó i) 1) (k (1:Int)) (ifb (igt (Ó j) 1) (k (1:Int)) (ck ((Ó i)+(Ó j)) fun N=>ifb (ieq N 0) (k (1:Int)) (k (0:Int)))))) (0:Int))) (0:Int))) (0:Int)))))))))
def ĩ (a:bA) (b:io) (c:Int):rF (Int):=og a b c some
def nN (b:bA) (s:io):rF (rT Int) :=
  Â (M6 (fun u=>Ĥ u.1 u.2 s) (b.2.2.1:rT (Int×Int))) fun a=>Â (M6 (fun i=>Ų b s i) (xl (b.2.2.2.1:rT qs).length)) fun c =>
    Â (M6 (fun i=>ĩ b s i) (xl (b.2.2.2.2.1:rT fx).length)) fun d=>Â (M6 (fun u=>Ĥ u.1 u.2 s) (b.2.2.2.2.2:rT (Int×Int))) fun e=>some (a++(c++(d++e)))
def PD (a:bA) (k:Int->rF ρ):rF ρ :=
  Â (Ū a.1 (0:Int) (1000000:Int)) fun d=>ifb (!d) (k (1:Int)) (ifb (igt (Ó a.2.1) 12) (k (2:Int)) (ifb (igt (Ó a.2.2.1) 40) (k (2:Int)) (ifb (igt (Ó a.2.2.2.1) 12) (k (2:Int)) (ifb (igt (Ó a.2.2.2.2.1) 40) (k (2:Int)) (ifb (igt (Ó a.2.2.2.2.2) 10) (k (2:Int)) (Â (Ś a) fun b=>ifb (ine b 0) (k b) (Â (ģ a) fun e=>XE (nN a e) (fun f=>k f) (Â (qy a) fun c=>ifb (igt (Ó c) 59) (k (2:Int)) (ck ((2:Int)*(Ó a.2.1)) fun g=>ck ((Ó c)-(Ó a.2.1)) fun h=>ck ((2:Int)*h) fun i=>ck (g+i) fun j=>ck ((2:Int)*(Ó a.2.2.2.2.1)) fun l=>ck (j+l) fun m=>ifb (igt m 300) (k (2:Int)) (k (0:Int)))))))))))
def ē (a:bA):rF (Int):=PD a some
def P8 (a:rT Int):rF (Int×Int×Int×Int×Int):=some (a.getD 0 0,a.getD 1 0,a.getD 2 0,a.getD 3 0,a.getD 4 0)
variable [LC]
def oC (b:b6) (a:Int) (e:Int->rF ρ) (c:Bool->rF ρ) (d:Unit->rF ρ):rF ρ :=
  ifb (ilt a (Ó b)) (ifb (ilt a 60) (Þ b a fun f=>ifb (igt (Ó f.2.2.1) 9) (c false) (Þ b a fun g=>ifb (igt (Ó g.2.2.2.1) 9) (c false) (ck (a+(1:Int)) fun h=>e h))) (d ())) (d ())
def lq (b:b8) (a:Int) (d:Int->rF ρ) (e:Bool->rF ρ) (c:Unit->rF ρ):rF ρ :=
  ifb (ilt a (Ó b)) (ifb (ilt a 8) (Þ b a fun f=>ifb (igt (Ó f.2) 9) (e false) (ck (a+(1:Int)) fun g=>d g)) (c ())) (c ())
def TF (a:a8) (k:Bool->rF ρ):rF ρ :=
  Ê (fun(b:Int) c=>oC a.1.2.2.2.2.1 b (fun d=>c d) (fun e=>k e) (fun _=>Ê (fun(f:Int) g=>lq a.2 f (fun h=>g h) (fun i=>k i) (fun _=>ifb (ile (Ó a.1.2.1) 6) (ifb (ile (Ó a.1.2.2.1) 20) (ifb (ile (Ó a.1.2.2.2.1) 6) (ifb (ile (Ó a.1.2.2.2.2.1) 8) (ifb (ile (Ó a.1.2.2.2.2.2) 6) (k (ile (Ó a.2) 6)) (k false)) (k false)) (k false)) (k false)) (k false))) (0:Int))) (0:Int)
def AB (a:a8):rF (Bool):=TF a some
def sa (b:an) (c:Int) (a:Int) (d:Int->rF ρ) (e:Int->rF ρ) (f:Unit->rF ρ):rF ρ :=
  ifb (ilt a c) (Þ b a fun g=>Â (l5 g) fun h=>ifb (!h) (e a) (ck (a+(1:Int)) fun i=>d i)) (f ())
def Zj (a:bA) (b:Int) (c:an) (k:Int->rF ρ):rF ρ :=
  Â (ē a) fun d=>ifb (ine d 0) (k d) (Ê (fun(e:Int) f=>sa c (Ó c) e (fun g=>f g) (fun h=>ifb (ige h 0) (k (1:Int)) (Â (ģ a) fun i=>Zr (k:=tI) (v:=Ú) b i (fun l=>k (0:Int)) (k (5:Int)))) (fun _=>Â (ģ a) fun j=>Zr (k:=tI) (v:=Ú) b j (fun m=>k (0:Int)) (k (5:Int)))) (0:Int))
def Hg (a:bA) (b:Int) (c:an):rF (Int):=Zj a b c some
def adt (a:bA) (b:Int) (c:Int) (k:Val bD->rF ρ):rF ρ :=
  Â (Hg a b ([c])) fun d=>ifb (ine d 0) (k (false,d)) (Â (vN a b c) fun e=>k (e.2,(0:Int)))
def AQ (a:bA) (b:Int) (c:Int):rF ((Val bD)):=adt a b c some
def mX (b:an) (a:Int) (c:Int->rF ρ) (d:Int->rF ρ) (e:Unit->rF ρ):rF ρ :=
  ifb (ilt a (Ó b)) (Þ b a fun f=>ck (a-(1:Int)) fun g=>Þ b g fun h=>ifb (ile f h) (d (1:Int)) (ck (a+(1:Int)) fun i=>c i)) (e ())
def mW (d:c7) (e:Int) (a:Int) (b:Val bq) (f:Int->Val bq->rF ρ) (g:Val bq->rF ρ):rF ρ :=
  ifb (ilt a e) (Þ d a fun c=>ck (a+(1:Int)) fun h=>f h (Vx (k:=tI) (v:=tI) c.1 c.2.1 b)) (g b)
def mV (b:an) (c:Int) (d:Val bq) (a:Int) (e:Int->rF ρ) (f:Int->rF ρ) (g:Unit->rF ρ):rF ρ :=
  ifb (ilt a c) (Þ b a fun h=>Zr (k:=tI) (v:=tI) h d (fun j=>ck (a+(1:Int)) fun i=>e i) (f a)) (g ())
def kB (e:an) (f:Int) (b:Int) (g:Val bq) (a:Int) (c:Int->rF ρ) (d:Int->rF ρ) (h:Unit->rF ρ):rF ρ :=
  ifb (ilt a f) (Þ e a fun i=>Zr (k:=tI) (v:=tI) i g (fun j=>ifb (ilt b j) (d a) (ck (a+(1:Int)) fun l=>c l)) (ifb (ilt b 0) (d a) (ck (a+(1:Int)) fun m=>c m))) (h ())
def Ĩ (l:an) (m:Int) (b:Int) (c:Int) (d:c7) (e:bl) (f:dx) (g:b6) (h:bl) (i:Int) (a:Int) (n:Int->rF ρ) (j:Int->rF ρ) (o:Unit->rF ρ):rF ρ :=
  ifb (ilt a m) (Þ l a fun k=>Â (AQ ((b,c),d,e,f,g,h) k i) fun p=>ck (i+(1:Int)) fun q=>Â (AQ ((b,c),d,e,f,g,h) k q) fun r=>ifb p.1 (j a) (ifb r.1 (j a) (ck (a+(1:Int)) fun s=>n s))) (o ())
def Nv (a:bA) (d:b8) (c:Int) (k:Int->rF ρ):rF ρ :=
  Þ d c fun b=>ifb (ilt b.1 0) (k (1:Int)) (ifb (ige b.1 20000) (k (1:Int)) (ifb (ilt (Ó b.2) 2) (k (1:Int)) (ifb (igt (Ó b.2) 5) (k (1:Int)) (Ê (fun(g:Int) h=>mX b.2 g (fun i=>h i) (fun j=>k j) (fun _=>Ê (fun(f:(Val (.pair tI bq))) l=>mW a.2.1 (Ó a.2.1) f.1 f.2 (fun m n=>l (m,n)) (fun e=>Ê (fun(o:Int) p=>mV b.2 (Ó b.2) e o (fun q=>p q) (fun r=>ifb (ige r 0) (k (5:Int)) (Ê (fun(s:Int) t=>kB b.2 (Ó b.2) b.1 e s (fun u=>t u) (fun v=>ifb (ige v 0) (k (4:Int)) (ifb (igt c 0) (ck (c-(1:Int)) fun w=>Þ d w fun x=>ifb (ile b.1 x.1) (k (6:Int)) (Ê (fun(y:Int) z=>Ĩ b.2 (Ó b.2) a.1.1 a.1.2 a.2.1 a.2.2.1 a.2.2.2.1 a.2.2.2.2.1 a.2.2.2.2.2 b.1 y (fun A=>z A) (fun B=>ifb (ige B 0) (k (9:Int)) (k (0:Int))) (fun _=>k (0:Int))) (0:Int))) (Ê (fun(C:Int) D=>Ĩ b.2 (Ó b.2) a.1.1 a.1.2 a.2.1 a.2.2.1 a.2.2.2.1 a.2.2.2.2.1 a.2.2.2.2.2 b.1 C (fun E=>D E) (fun F=>ifb (ige F 0) (k (9:Int)) (k (0:Int))) (fun _=>k (0:Int))) (0:Int)))) (fun _=>ifb (igt c 0) (ck (c-(1:Int)) fun G=>Þ d G fun H=>ifb (ile b.1 H.1) (k (6:Int)) (Ê (fun(I:Int) J=>Ĩ b.2 (Ó b.2) a.1.1 a.1.2 a.2.1 a.2.2.1 a.2.2.2.1 a.2.2.2.2.1 a.2.2.2.2.2 b.1 I (fun K=>J K) (fun L=>ifb (ige L 0) (k (9:Int)) (k (0:Int))) (fun _=>k (0:Int))) (0:Int))) (Ê (fun(M:Int) N=>Ĩ b.2 (Ó b.2) a.1.1 a.1.2 a.2.1 a.2.2.1 a.2.2.2.1 a.2.2.2.2.1 a.2.2.2.2.2 b.1 M (fun O=>N O) (fun P=>ifb (ige P 0) (k (9:Int)) (k (0:Int))) (fun _=>k (0:Int))) (0:Int)))) (0:Int))) (fun _=>Ê (fun(Q:Int) R=>kB b.2 (Ó b.2) b.1 e Q (fun S=>R S) (fun T=>ifb (ige T 0) (k (4:Int)) (ifb (igt c 0) (ck (c-(1:Int)) fun U=>Þ d U fun V=>ifb (ile b.1 V.1) (k (6:Int)) (Ê (fun(W:Int) X=>Ĩ b.2 (Ó b.2) a.1.1 a.1.2 a.2.1 a.2.2.1 a.2.2.2.1 a.2.2.2.2.1 a.2.2.2.2.2 b.1 W (fun Y=>X Y) (fun Z=>ifb (ige Z 0) (k (9:Int)) (k (0:Int))) (fun _=>k (0:Int))) (0:Int))) (Ê (fun(dt:Int) du=>Ĩ b.2 (Ó b.2) a.1.1 a.1.2 a.2.1 a.2.2.1 a.2.2.2.1 a.2.2.2.2.1 a.2.2.2.2.2 b.1 dt (fun dv=>du dv) (fun dw=>ifb (ige dw 0) (k (9:Int)) (k (0:Int))) (fun _=>k (0:Int))) (0:Int)))) (fun _=>ifb (igt c 0) (ck (c-(1:Int)) fun dz=>Þ d dz fun d8=>ifb (ile b.1 d8.1) (k (6:Int)) (Ê (fun(d9:Int) ee=>Ĩ b.2 (Ó b.2) a.1.1 a.1.2 a.2.1 a.2.2.1 a.2.2.2.1 a.2.2.2.2.1 a.2.2.2.2.2 b.1 d9 (fun eh=>ee eh) (fun ej=>ifb (ige ej 0) (k (9:Int)) (k (0:Int))) (fun _=>k (0:Int))) (0:Int))) (Ê (fun(eo:Int) fc=>Ĩ b.2 (Ó b.2) a.1.1 a.1.2 a.2.1 a.2.2.1 a.2.2.2.1 a.2.2.2.2.1 a.2.2.2.2.2 b.1 eo (fun fe=>fc fe) (fun ff=>ifb (ige ff 0) (k (9:Int)) (k (0:Int))) (fun _=>k (0:Int))) (0:Int)))) (0:Int))) (0:Int))) ((0:Int),[]))) (1:Int)))))
def G3 (a:bA) (b:b8) (c:Int):rF (Int):=Nv a b c some
def m8 (c:Int) (b:Int) (a:Int) (d:Int->Int->rF ρ) (e:Int->rF ρ):rF ρ :=
  ifb (ilt a c) (ck (a+(1:Int)) fun f=>ck (b*f) fun g=>ck (a+(1:Int)) fun h=>d g h) (e b)
def rz (e:b8) (f:Int) (g:Int) (h:Int) (i:c7) (j:bl) (k:dx) (l:b6) (m:bl) (n:b8) (b:Int) (a:Int) (o:Int->Int->rF ρ) (p:Int->rF ρ) (q:Int->rF ρ):rF ρ :=
  ifb (ilt a f) (Þ e a fun r=>Â (G3 ((g,h),i,j,k,l,m) n a) fun c=>ifb (ine c 0) (p c) (Ê (fun(d:bx) s=>m8 (Ó r.2) d.1 d.2 (fun t u=>s (t,u)) (fun v=>ck (a+(1:Int)) fun w=>o v w)) (b,(0:Int)))) (q b)
def YG (a:a8) (k:Int->rF ρ):rF ρ :=
  Â (ē a.1) fun b=>ifb (ine b 0) (k b) (ifb (igt (Ó a.2) 4) (k (2:Int)) (Ê (fun(c:bx) d=>rz a.2 (Ó a.2) a.1.1.1 a.1.1.2 a.1.2.1 a.1.2.2.1 a.1.2.2.2.1 a.1.2.2.2.2.1 a.1.2.2.2.2.2 a.2 c.1 c.2 (fun e f=>d (e,f)) (fun g=>k g) (fun h=>ifb (igt h 150) (k (2:Int)) (k (0:Int)))) ((1:Int),(0:Int))))
def Ģ (a:a8):rF (Int):=YG a some
def TG (f:b5) (g:Int) (d:b8) (b:Int) (a:Int) (c:Int->Int->rF ρ) (h:Int->rF ρ):rF ρ :=
  ifb (ige a 0) (Þ f a fun i=>Â (Ξ i b) fun e=>ifb (ige e 0) (Þ d a fun j=>ifb (ilt j.1 g) (Þ d a fun k=>Þ k.2 e fun l=>ck (a-(1:Int)) fun m=>c l m) (ck (a-(1:Int)) fun n=>c b n)) (ck (a-(1:Int)) fun o=>c b o)) (h b)
def ans (a:a8) (c:b5) (d:Int) (e:Int) (k:Int->rF ρ):rF ρ :=
  ck ((Ó a.2)-(1:Int)) fun f=>Ê (fun(b:bx) g=>TG c e a.2 b.1 b.2 (fun h i=>g (h,i)) (fun j=>k j)) (d,f)
def D6 (a:a8) (b:b5) (c:Int) (d:Int):rF (Int):=ans a b c d some
def rk (d:Int) (e:Val aE) (f:Val aS) (g:an) (h:Int) (a:Int) (b:an) (i:Int->an->rF ρ) (j:an->rF ρ):rF ρ :=
  ifb (ilt a h) (Þ g a fun k=>Â (D6 e f k d) fun c=>Ô (Î ((List.length b)+(List.length ([c])))) (ck (a+(1:Int)) fun l=>i l (b++([c])))) (j b)
def Nf (a:an) (d:Int) (e:Val aE) (f:Val aS) (k:an->rF ρ):rF ρ :=
  Ê (fun(b:dy) g=>rk d e f a (Ó a) b.1 b.2 (fun h i=>g (h,i)) (fun c=>Ô (Î (List.length c)) (k (Km c)))) ((0:Int),[])
def qu (a:an) (b:Int) (c:Val aE) (d:Val aS):rF (an):=Nf a b c d some
def ww (e:Val aE) (f:Val aS) (g:bl) (h:Int) (b:Int) (c:bl) (i:Int->bl->rF ρ) (j:bl->rF ρ):rF ρ :=
  ifb (ilt b h) (Þ g b fun a=>Â (D6 e f a.1 a.2) fun d=>Ô (Î ((List.length c)+(List.length ([(d,a.2)])))) (ck (b+(1:Int)) fun k=>i k (c++([(d,a.2)])))) (j c)
def wu (e:Val aE) (f:Val aS) (g:dx) (h:Int) (b:Int) (c:dx) (i:Int->dx->rF ρ) (j:dx->rF ρ):rF ρ :=
  ifb (ilt b h) (Þ g b fun a=>Â (D6 e f a.1 a.2.1.1) fun d=>Ô (Î ((List.length c)+(List.length ([(d,a.2)])))) (ck (b+(1:Int)) fun k=>i k (c++([(d,a.2)])))) (j c)
def wt (d:Val aE) (e:Val aS) (h:b6) (i:Int) (b:Int) (c:b6) (j:Int->b6->rF ρ) (k:b6->rF ρ):rF ρ :=
  ifb (ilt b i) (Þ h b fun a=>Â (qu a.2.2.1 a.2.1 d e) fun f=>Â (qu a.2.2.2.1 a.2.1 d e) fun g=>Ô (Î ((List.length c)+(List.length ([(a.1,a.2.1,f,g,a.2.2.2.2)])))) (ck (b+(1:Int)) fun l=>j l (c++([(a.1,a.2.1,f,g,a.2.2.2.2)])))) (k c)
def wq (e:Val aE) (f:Val aS) (g:bl) (h:Int) (b:Int) (c:bl) (i:Int->bl->rF ρ) (j:bl->rF ρ):rF ρ :=
  ifb (ilt b h) (Þ g b fun a=>Â (D6 e f a.1 a.2) fun d=>Ô (Î ((List.length c)+(List.length ([(d,a.2)])))) (ck (b+(1:Int)) fun k=>i k (c++([(d,a.2)])))) (j c)
def EV (a:a8) (b:b5) (k:bA->rF ρ):rF ρ :=
  Ô (Î (List.length a.1.2.1)) (Ê (fun(c:kW) g=>ww a b a.1.2.2.1 (Ó a.1.2.2.1) c.1 c.2 (fun h i=>g (h,i)) (fun j=>Ê (fun(d:(Val (.pair tI af))) l=>wu a b a.1.2.2.2.1 (Ó a.1.2.2.2.1) d.1 d.2 (fun m n=>l (m,n)) (fun o=>Ê (fun(e:Val aU) p=>wt a b a.1.2.2.2.2.1 (Ó a.1.2.2.2.2.1) e.1 e.2 (fun q r=>p (q,r)) (fun s=>Ê (fun(f:kW) t=>wq a b a.1.2.2.2.2.2 (Ó a.1.2.2.2.2.2) f.1 f.2 (fun u v=>t (u,v)) (fun w=>k (a.1.1,a.1.2.1,j,o,s,w))) ((0:Int),[]))) ((0:Int),[]))) ((0:Int),[]))) ((0:Int),[]))
def lY (a:a8) (b:b5):rF bA:=EV a b some
def Ω (c:bl) (d:Int) (e:Int) (f:Int) (a:Int) (g:Int->rF ρ) (h:Int->rF ρ) (i:Unit->rF ρ):rF ρ :=
  ifb (ilt a d) (Þ c a fun b=>ifb ((iK e b.1)&&((iK f b.2)&&true)) (h a) (ck (a+(1:Int)) fun j=>g j)) (i ())
def qf (a:bl) (b:bx) (k:Int->rF ρ):rF ρ :=
  Ê (fun(c:Int) d=>Ω a (Ó a) b.1 b.2 c (fun e=>d e) (fun f=>k f) (fun _=>k (-1:Int))) (0:Int)
def ř (a:bl) (b:bx):rF (Int):=qf a b some
def Zf (b:(Val (.ptr C3))) (a:an) (c:Int) (k:Int->rF ρ):rF ρ :=
  ifb (ieq (Ó a) 0) (k (0:Int)) (Þ a (0:Int) fun d=>Â (ř b.2.1 (d,c)) fun e=>ck (e+(1:Int)) fun f=>k f)
def sr (a:(Val (.ptr C3))) (b:an) (c:Int):rF (Int):=Zf a b c some
def Pk (f:Int) (g:Int) (h:dx) (i:Int) (j:Int) (b:Int) (a:Int) (d:Int->Int->rF ρ) (k:Int->rF ρ):rF ρ :=
  ifb (ilt a i) (Þ h a fun c=>ck (g-(1:Int)) fun l=>ck ((W9 c.2.1.2 l)-(Zy c.2.1.1 f)) fun m=>ck (m+1) fun e=>ifb (ieq c.1 j) (ifb (igt e 0) (ck (e*c.2.2) fun n=>ck (b+n) fun o=>ck (a+(1:Int)) fun p=>d o p) (ck (a+(1:Int)) fun q=>d b q)) (ck (a+(1:Int)) fun r=>d b r)) (k b)
def Pj (e:Int) (f:Int) (g:bl) (h:Int) (i:Int) (a:Int) (b:an) (d:Int->an->rF ρ) (j:an->rF ρ):rF ρ :=
  ifb (ilt a h) (Þ g a fun c=>ifb (ieq c.1 i) (ck (f-(1:Int)) fun k=>Â (ć c.2 e k) fun l=>ifb l (Ô (Î ((List.length b)+(List.length ([c.2])))) (ck (a+(1:Int)) fun m=>d m (b++([c.2])))) (ck (a+(1:Int)) fun n=>d n b)) (ck (a+(1:Int)) fun o=>d o b)) (j b)
def ald (a:bA) (b:kf) (d:Int) (e:Int) (k:Int->rF ρ):rF ρ :=
  Ê (fun(f:bx) h=>Pk d e a.2.2.2.1 (Ó a.2.2.2.1) b.1 f.1 f.2 (fun i j=>h (i,j)) (fun l=>Ê (fun(g:dy) m=>Pj d e a.2.2.1 (Ó a.2.2.1) b.1 g.1 g.2 (fun n o=>m (n,o)) (fun c=>Ô (Î (List.length c)) (Ô (Î (List.length (Km c))) (ck ((Ó (AW (Km c)))*b.2.2.2.2.2) fun p=>ck (l+p) fun q=>k q)))) ((0:Int),[]))) ((0:Int),(0:Int))
def adR (a:bA) (b:kf) (c:Int) (d:Int):rF (Int):=ald a b c d some
def Lr (b:io) (a:an) (k:bx->rF ρ):rF ρ :=
  ifb (ieq (Ó a) 0) (k ((0:Int),(1:Int))) (Þ a (0:Int) fun c=>Zr (k:=tI) (v:=Ú) c b (fun d=>k d.2.2.2.2.1) (k ((0:Int),(0:Int))))
def ol (a:io) (b:an):rF bx:=Lr a b some
def JY (b:bl) (c:Int) (a:Int) (d:Int->rF ρ) (e:Int->rF ρ) (f:Unit->rF ρ):rF ρ :=
  ifb (ilt a c) (Þ b a fun g=>Â (uP g) fun h=>ifb (!h) (e (1:Int)) (ck (a+(1:Int)) fun i=>d i)) (f ())
def ahO (a:bl) (k:Int->rF ρ):rF ρ :=
  Ê (fun(b:Int) c=>JY a (Ó a) b (fun d=>c d) (fun e=>k e) (fun _=>k (0:Int))) (0:Int)
def uO (a:bl):rF (Int):=ahO a some
def abp (d:Int) (e:Int) (k:gU->rF ρ):rF ρ :=
  Â (sq d) fun b=>Â (sq e) fun c=>Â (Qc b c) fun a=>ifb (iK a 0) (none) (ifb (iK a 0) (none) (ifb (igt (IntKind.wrap .u64 (Int.tdiv b a)) 2147483647) (k (((0:Int),(0:Int)),(3:Int))) (ifb (igt (IntKind.wrap .u64 (Int.tdiv c a)) 2147483647) (k (((0:Int),(0:Int)),(3:Int))) (ifb (!((ilt d 0)==(ilt e 0))) (ck (0-(IntKind.wrap .i64 (IntKind.wrap .u64 (Int.tdiv b a)))) fun f=>k ((f,(IntKind.wrap .i64 (IntKind.wrap .u64 (Int.tdiv c a)))),(0:Int))) (k (((IntKind.wrap .i64 (IntKind.wrap .u64 (Int.tdiv b a))),(IntKind.wrap .i64 (IntKind.wrap .u64 (Int.tdiv c a)))),(0:Int)))))))
def D7 (a:Int) (b:Int):rF gU:=abp a b some
def anw (a:bx) (b:bx) (k:gU->rF ρ):rF ρ :=
  Â (uO ([a,b])) fun c=>ifb (ine c 0) (k (((0:Int),(0:Int)),c)) (ck (a.1*b.2) fun e=>ck (b.1*a.2) fun f=>ck (e-f) fun g=>ck (a.2*b.2) fun h=>Â (D7 g h) fun d=>k (d.1,d.2))
def aiL (a:bx) (b:bx):rF gU:=anw a b some
def V4 (a:bx) (b:bx) (k:bx->rF ρ):rF ρ :=
  Â (aiL a b) fun c=>k c.1
def He (a:bx) (b:bx):rF bx:=V4 a b some
def anv (a:bx) (b:bx) (k:Int->rF ρ):rF ρ :=
  ck (a.1*b.2) fun c=>ck (b.1*a.2) fun d=>ifb ((iK a.1 b.1)&&((iK a.2 b.2)&&true)) (k (0:Int)) (ifb (ilt c d) (k (-1:Int)) (ifb (igt c d) (k (1:Int)) (k (0:Int))))
def abH (a:bx) (b:bx):rF (Int):=anv a b some
def RY (a:gv) (k:Bool->rF ρ):rF ρ :=
  Â (uO ([a.1,a.2])) fun b=>ifb (ieq b 0) (Â (abH a.1 a.2) fun c=>k (ile c 0)) (k false)
def CV (a:gv):rF (Bool):=RY a some
def anx (a:bx) (b:bx) (k:gU->rF ρ):rF ρ :=
  Â (uO ([a,b])) fun c=>ifb (ine c 0) (k (((0:Int),(0:Int)),c)) (ck (a.1*b.1) fun e=>ck (a.2*b.2) fun f=>Â (D7 e f) fun d=>k (d.1,d.2))
def abI (a:bx) (b:bx):rF gU:=anx a b some
def Zb (c:gv) (d:bx) (k:Val Ej->rF ρ):rF ρ :=
  Â (CV c) fun e=>ifb (!e) (k ((((0:Int),(0:Int)),(0:Int),(0:Int)),(1:Int))) (Â (uP d) fun f=>ifb (!f) (k ((((0:Int),(0:Int)),(0:Int),(0:Int)),(1:Int))) (Â (abI d c.1) fun a=>ifb (ine a.2 0) (k ((((0:Int),(0:Int)),(0:Int),(0:Int)),a.2)) (Â (abI d c.2) fun b=>ifb (ine b.2 0) (k ((((0:Int),(0:Int)),(0:Int),(0:Int)),b.2)) (Â (abH a.1 b.1) fun g=>ifb (igt g 0) (k ((b.1,a.1),(0:Int))) (k ((a.1,b.1),(0:Int)))))))
def ZT (a:gv) (b:bx):rF (Val Ej):=Zb a b some
def VZ (b:bx) (a:bx) (k:gv->rF ρ):rF ρ :=
  Â (ZT ((a.1,(1:Int)),a.2,(1:Int)) b) fun c=>k c.1
def Hd (a:bx) (b:bx):rF gv:=VZ a b some
def afd (c:bA) (a:fx) (k:gv->rF ρ):rF ρ :=
  Â (ģ c) fun b=>Â (ű a.2.2.1 a.2.2.2.1) fun d=>Â (ol b d) fun e=>Â (ű a.2.2.2.1 a.2.2.1) fun f=>Â (ol b f) fun g=>Â (He e g) fun h=>Â (Hd h a.2.2.2.2.2.2) fun i=>k i
def UB (a:bA) (b:fx):rF gv:=afd a b some
def ahV (a:bA) (b:fx) (k:bx->rF ρ):rF ρ :=
  ck ((Ó b.2.2.1)-(1:Int)) fun c=>ck ((Ó b.2.2.2.1)-(1:Int)) fun d=>ck ((Zy (0:Int) c)*a.1.1) fun e=>ck ((Zy (0:Int) d)*a.1.2) fun f=>ck (e-f) fun g=>ck ((Zy (0:Int) c)*a.1.2) fun h=>ck ((Zy (0:Int) d)*a.1.1) fun i=>ck (h-i) fun j=>k (g,j)
def ZV (a:bA) (b:fx):rF bx:=ahV a b some
def ahQ (b:Int) (a:Int) (k:Int->rF ρ):rF ρ :=
  ifb (iK a 0) (none) (ck (Int.tdiv b a) fun c=>ifb (iK a 0) (none) (ifb (ilt (Int.tmod b a) 0) (ck (c-1) fun d=>k d) (k c)))
def Qd (a:Int) (b:Int):rF (Int):=ahQ a b some
def ahU (a:bx) (k:bx->rF ρ):rF ρ :=
  Â (uO ([a])) fun b=>ifb (ine b 0) (k ((0:Int),b)) (Â (Qd a.1 a.2) fun c=>k (c,(0:Int)))
def ZU (a:bx):rF bx:=ahU a some
def ala (a:bx) (k:bx->rF ρ):rF ρ :=
  Â (uO ([a])) fun b=>ifb (ine b 0) (k ((0:Int),b)) (ck (0-a.1) fun c=>Â (Qd c a.2) fun d=>ck (0-d) fun e=>k (e,(0:Int)))
def adO (a:bx):rF bx:=ala a some
def alb (b:bA) (a:fx) (k:bx->rF ρ):rF ρ :=
  Â (UB b a) fun c=>Â (ZV b a) fun d=>Â (ZU c.2) fun e=>Â (adO c.1) fun f=>ck (a.2.2.2.2.1-a.2.2.2.2.2.1) fun g=>ck (g-d.2) fun h=>ck (h-e.1) fun i=>ck (a.2.2.2.2.1+a.2.2.2.2.2.1) fun j=>ck (j-d.1) fun l=>ck (l-f.1) fun m=>k (i,m)
def adP (a:bA) (b:fx):rF bx:=alb a b some
def Pg (b:Int) (e:an) (h:Int) (j:Int) (k:Int) (l:c7) (m:bl) (n:dx) (o:b6) (p:bl) (q:Int) (r:Int) (s:Int) (t:Int) (u:Int) (v:Int) (w:Int) (x:Int) (a:Int) (f:ez) (g:bl) (y:Int->ez->bl->rF ρ) (z:Val Bo->rF ρ):rF ρ :=
  ifb (ilt a (Ó e)) (ck (h+a) fun A=>ck (A-1) fun c=>ck (h+a) fun d=>ck (a-(1:Int)) fun B=>Þ e B fun C=>Þ e a fun D=>Â (adR ((j,k),l,m,n,o,p) (q,r,s,(t,u),(v,w),x) C D) fun E=>ck (0-E) fun F=>ck (0-F) fun i=>Ô (Î ((List.length f)+(List.length ([(c,d,(0:Int)),(d,c,i)])))) (Ô (Î ((List.length g)+(List.length ([((2:Int),b),((2:Int),b)])))) (ck (a+(1:Int)) fun G=>y G (f++([(c,d,(0:Int)),(d,c,i)])) (g++([((2:Int),b),((2:Int),b)]))))) (z (f,g))
def Ph (q:c7) (r:Int) (f:Int) (g:Int) (h:c7) (i:bl) (j:dx) (k:b6) (l:bl) (s:bl) (t:Int) (b:Int) (d:ez) (e:bl) (u:Int->ez->bl->rF ρ) (v:Val Bo->rF ρ):rF ρ :=
  ifb (ilt b r) (Þ q b fun a=>Â (vM ((f,g),h,i,j,k,l) a) fun w=>Â (sr (((f,g),h,i,j,k,l),s,(t,d),e) ([a.1]) a.2.1) fun c=>ck (a.2.2.1+a.2.2.2.1.1) fun x=>ck (a.2.2.1+a.2.2.2.1.2) fun n=>ck (0-x) fun o=>Ô (Î ((List.length d)+(List.length ([((0:Int),c,n),(c,(0:Int),o)])))) (Ô (Î ((List.length e)+(List.length ([((1:Int),b),((1:Int),b)])))) (Ê (fun(m:l7) y=>Pg b w c f g h i j k l a.1 a.2.1 a.2.2.1 a.2.2.2.1.1 a.2.2.2.1.2 a.2.2.2.2.1.1 a.2.2.2.2.1.2 a.2.2.2.2.2 m.1 m.2.1 m.2.2 (fun z A B=>y (z,A,B)) (fun p=>ck (b+(1:Int)) fun C=>u C p.1 p.2)) ((1:Int),(d++([((0:Int),c,n),(c,(0:Int),o)])),(e++([((1:Int),b),((1:Int),b)])))))) (v (d,e))
def Pf (r:b6) (s:Int) (g:Int) (h:Int) (i:c7) (j:bl) (k:dx) (l:b6) (m:bl) (o:bl) (p:Int) (a:Int) (c:ez) (d:bl) (t:Int->ez->bl->rF ρ) (u:Val Bo->rF ρ):rF ρ :=
  ifb (ilt a s) (Þ r a fun b=>Â (ű b.2.2.2.1 b.2.2.1) fun v=>Â (sr (((g,h),i,j,k,l,m),o,(p,c),d) v b.2.1) fun e=>Â (ű b.2.2.1 b.2.2.2.1) fun w=>Â (sr (((g,h),i,j,k,l,m),o,(p,c),d) w b.2.1) fun f=>Â (adP ((g,h),i,j,k,l,m) b) fun n=>ck (0-n.1) fun q=>Ô (Î ((List.length c)+(List.length ([(e,f,n.2),(f,e,q)])))) (Ô (Î ((List.length d)+(List.length ([((3:Int),a),((3:Int),a)])))) (ck (a+(1:Int)) fun x=>t x (c++([(e,f,n.2),(f,e,q)])) (d++([((3:Int),a),((3:Int),a)]))))) (u (c,d))
def alc (a:bA) (k:(Val (.ptr C3))->rF ρ):rF ρ :=
  Â (qy a) fun b=>ck ((Ó b)+(1:Int)) fun c=>Ê (fun(d:l7) h=>Ph a.2.1 (Ó a.2.1) a.1.1 a.1.2 a.2.1 a.2.2.1 a.2.2.2.1 a.2.2.2.2.1 a.2.2.2.2.2 b c d.1 d.2.1 d.2.2 (fun i j l=>h (i,j,l)) (fun f=>Ê (fun(e:l7) m=>Pf a.2.2.2.2.1 (Ó a.2.2.2.2.1) a.1.1 a.1.2 a.2.1 a.2.2.1 a.2.2.2.1 a.2.2.2.2.1 a.2.2.2.2.2 b c e.1 e.2.1 e.2.2 (fun n o p=>m (n,o,p)) (fun g=>k (a,b,(c,g.1),g.2))) ((0:Int),f.1,f.2))) ((0:Int),[],[])
def adQ (a:bA):rF ((Val (.ptr C3))):=alc a some
def afe (a:bA) (k:(Val (.pair Ý (.pair aa tI)))->rF ρ):rF ρ :=
  Â (ē a) fun b=>ifb (ine b 0) (k (((0:Int),[]),[],b)) (Â (adQ a) fun c=>k (c.2.2.1,c.2.2.2,(0:Int)))
def pA (a:bA):rF ((Val (.pair Ý (.pair aa tI)))):=afe a some
def ak9 (b:fy) (a:Int) (k:Bool->rF ρ):rF ρ :=
  ifb (ige a 0) (k (ilt a b.1)) (k false)
def Md (a:fy) (b:Int):rF (Bool):=ak9 a b some
def JX (f:ez) (g:Int) (d:Int) (e:ez) (a:Int) (h:Int->rF ρ) (c:bx->rF ρ) (i:Unit->rF ρ):rF ρ :=
  ifb (ilt a g) (Þ f a fun b=>Â (Md (d,e) b.1) fun j=>ifb (!j) (c ((1:Int),a)) (Â (Md (d,e) b.2.1) fun k=>ifb (!k) (c ((1:Int),a)) (ifb (ieq b.1 b.2.1) (c ((1:Int),a)) (ifb (ilt b.2.2 (-4503599627370496:Int)) (c ((1:Int),a)) (ifb (igt b.2.2 4503599627370496) (c ((1:Int),a)) (ck (a+(1:Int)) fun l=>h l)))))) (i ())
def ahN (a:fy) (k:bx->rF ρ):rF ρ :=
  ifb (ilt a.1 1) (k ((1:Int),(-1:Int))) (ifb (igt a.1 60) (k ((1:Int),(-1:Int))) (ifb (igt (Ó a.2) 300) (k ((2:Int),(-1:Int))) (Ê (fun(c:Int) d=>JX a.2 (Ó a.2) a.1 a.2 c (fun e=>d e) (fun b=>k (b.1,b.2)) (fun _=>k ((0:Int),(-1:Int)))) (0:Int))))
def zI (a:fy):rF bx:=ahN a some
def zj (c:ez) (d:Int) (b:Int) (a:Int) (e:Int->Int->rF ρ) (f:Int->rF ρ):rF ρ :=
  ifb (ilt a d) (Þ c a fun g=>ck (b+(W9 g.2.2 (0:Int))) fun h=>ck (a+(1:Int)) fun i=>e h i) (f b)
def zi (f:Int) (d:an) (a:Int) (b:m0) (c:an) (e:Int->m0->an->rF ρ) (g:Val aW->rF ρ):rF ρ :=
  ifb (ilt a f) (Ô ((ile 0 a)&&(ilt a (ê d))) (ě d (Int.toNat a) fun h=>ifb (ine h 1152921504606846976) (Ô (Î ((List.length c)+(List.length ([a])))) (Ô ((ile 0 a)&&(ilt a (ê b))) (ě b (Int.toNat a) fun k=>ck (a+(1:Int)) fun i=>e i (List.set b (Int.toNat a) true) (c++([a]))))) (ck (a+(1:Int)) fun j=>e j b c))) (g (b,c))
def ze (m:Val ay) (j:Int) (d:Int) (n:ez) (o:Int) (f:Int) (b:an) (c:m0) (e:an) (g:Int->an->m0->an->rF ρ) (l:(Val (.pair .bool (.pair ab aW)))->rF ρ) (p:(Val (.pair ab aW))->rF ρ):rF ρ :=
  ifb (ilt f o) (Þ n f fun a=>ifb (ine a.1 d) (ck (f+(1:Int)) fun q=>g q b c e) (Zr (k:=tI) (v:=.bool) f m (fun r=>ifb r (ck (f+(1:Int)) fun s=>g s b c e) (Ô ((ile 0 d)&&(ilt d (ê b))) (ě b (Int.toNat d) fun t=>ck (t+a.2.2) fun u=>Ô ((ile 0 a.2.1)&&(ilt a.2.1 (ê b))) (ě b (Int.toNat a.2.1) fun w=>ifb (ige u w) (ck (f+(1:Int)) fun x=>g x b c e) (Ô ((ile 0 d)&&(ilt d (ê b))) (ě b (Int.toNat d) fun y=>ck (y+a.2.2) fun h=>Ô ((ile 0 a.2.1)&&(ilt a.2.1 (ê b))) (ě b (Int.toNat a.2.1) fun M=>Ô ((ile 0 a.2.1)&&(ilt a.2.1 (ê (List.set b (Int.toNat a.2.1) h)))) (ě (List.set b (Int.toNat a.2.1) h) (Int.toNat a.2.1) fun z=>ifb (ilt z j) (l (false,(List.set b (Int.toNat a.2.1) h),c,e)) (Ô ((ile 0 a.2.1)&&(ilt a.2.1 (ê c))) (ě c (Int.toNat a.2.1) fun A=>ifb (!A) (Ô (Î ((List.length e)+(List.length ([a.2.1])))) (Ô ((ile 0 a.2.1)&&(ilt a.2.1 (ê c))) (ě c (Int.toNat a.2.1) fun N=>ck (f+(1:Int)) fun B=>g B (List.set b (Int.toNat a.2.1) h) (List.set c (Int.toNat a.2.1) true) (e++([a.2.1]))))) (ck (f+(1:Int)) fun C=>g C (List.set b (Int.toNat a.2.1) h) c e))))))))))) (Ô ((ile 0 d)&&(ilt d (ê b))) (ě b (Int.toNat d) fun D=>ck (D+a.2.2) fun E=>Ô ((ile 0 a.2.1)&&(ilt a.2.1 (ê b))) (ě b (Int.toNat a.2.1) fun F=>ifb (ige E F) (ck (f+(1:Int)) fun G=>g G b c e) (Ô ((ile 0 d)&&(ilt d (ê b))) (ě b (Int.toNat d) fun H=>ck (H+a.2.2) fun i=>Ô ((ile 0 a.2.1)&&(ilt a.2.1 (ê b))) (ě b (Int.toNat a.2.1) fun O=>Ô ((ile 0 a.2.1)&&(ilt a.2.1 (ê (List.set b (Int.toNat a.2.1) i)))) (ě (List.set b (Int.toNat a.2.1) i) (Int.toNat a.2.1) fun I=>ifb (ilt I j) (l (false,(List.set b (Int.toNat a.2.1) i),c,e)) (Ô ((ile 0 a.2.1)&&(ilt a.2.1 (ê c))) (ě c (Int.toNat a.2.1) fun J=>ifb (!J) (Ô (Î ((List.length e)+(List.length ([a.2.1])))) (Ô ((ile 0 a.2.1)&&(ilt a.2.1 (ê c))) (ě c (Int.toNat a.2.1) fun P=>ck (f+(1:Int)) fun K=>g K (List.set b (Int.toNat a.2.1) i) (List.set c (Int.toNat a.2.1) true) (e++([a.2.1]))))) (ck (f+(1:Int)) fun L=>g L (List.set b (Int.toNat a.2.1) i) c e)))))))))))) (p (b,c,e))
def zh (l:Val ay) (m:Int) (n:Int) (k:ez) (h:an) (d:m0) (b:an) (c:an) (o:an->m0->an->an->rF ρ) (i:(Val (.pair .bool br))->rF ρ):rF ρ :=
  ifb (ieq (Ó c) 0) (i (true,h,d,b,c)) (Ô (ilt 0 (ê c)) (ě c 0 fun a=>Ô (ile 1 (ê c)) (Ô (decide (1+(List.length c-1)=List.length c)) (Ô ((ile 0 a)&&(ilt a (ê d))) (ě d (Int.toNat a) fun x=>Ô ((ile 0 a)&&(ilt a (ê b))) (ě b (Int.toNat a) fun p=>ck (p+(1:Int)) fun e=>Ô ((ile 0 a)&&(ilt a (ê b))) (ě b (Int.toNat a) fun y=>Ô ((ile 0 a)&&(ilt a (ê (List.set b (Int.toNat a) e)))) (ě (List.set b (Int.toNat a) e) (Int.toNat a) fun q=>ck (n+(1:Int)) fun r=>ifb (igt q r) (i (false,h,(List.set d (Int.toNat a) false),(List.set b (Int.toNat a) e),(List.drop 1 c))) (Ê (fun(f:gV) s=>ze l m a k (Ó k) f.1 f.2.1 f.2.2.1 f.2.2.2 (fun t u v w=>s (t,u,v,w)) (fun g=>i (g.1,g.2.1,g.2.2.1,(List.set b (Int.toNat a) e),g.2.2.2)) (fun j=>o j.1 j.2.1 (List.set b (Int.toNat a) e) j.2.2)) ((0:Int),h,(List.set d (Int.toNat a) false),(List.drop 1 c)))))))))))
def zd (c:Int) (d:Int) (a:Int) (b:an) (e:Int->an->rF ρ) (f:an->rF ρ):rF ρ :=
  ifb (ilt a d) (Ô ((ile 0 a)&&(ilt a (ê b))) (ě b (Int.toNat a) fun g=>ck (g-c) fun h=>Ô ((ile 0 a)&&(ilt a (ê b))) (ě b (Int.toNat a) fun j=>ck (a+(1:Int)) fun i=>e i (List.set b (Int.toNat a) h)))) (f b)
def JO (a:fy) (h:Val ay) (k:rx->rF ρ):rF ρ :=
  Ô ((ile 0 a.1)&&(Î (Int.toNat a.1))) (Ô ((ile 0 a.1)&&(Î (Int.toNat a.1))) (Ô ((ile 0 a.1)&&(Î (Int.toNat a.1))) (Ê (fun(e:bx) i=>zj a.2 (Ó a.2) e.1 e.2 (fun j l=>i (j,l)) (fun m=>Ê (fun(d:nn) n=>zi a.1 (List.replicate (Int.toNat a.1) (0:Int)) d.1 d.2.1 d.2.2 (fun o p q=>n (o,p,q)) (fun f=>Ê (fun(c:Val br) r=>zh h m a.1 a.2 c.1 c.2.1 c.2.2.1 c.2.2.2 (fun s t u v=>r (s,t,u,v)) (fun b=>ifb (!b.1) (k ([],false)) (Ô (ilt 0 (ê b.2.1)) (ě b.2.1 0 fun w=>Ê (fun(g:dy) x=>zd w (Ó b.2.1) g.1 g.2 (fun y z=>x (y,z)) (fun A=>k (A,true))) ((0:Int),b.2.1))))) ((List.replicate (Int.toNat a.1) (0:Int)),f.1,(List.replicate (Int.toNat a.1) (0:Int)),f.2))) ((0:Int),(List.replicate (Int.toNat a.1) false),[]))) ((0:Int),(0:Int)))))
def sn (a:fy) (b:Val ay):rF (rx):=JO a b some
def RT (a:fy) (k:Val bD->rF ρ):rF ρ :=
  Â (zI a) fun b=>ifb (ine b.1 0) (k (false,b.1)) (Â (sn a ([])) fun c=>k (c.2,(0:Int)))
def CT (a:fy):rF ((Val bD)):=RT a some
def YC (a:a8) (b:b5) (k:Bool->rF ρ):rF ρ :=
  Â (lY a b) fun c=>Â (pA c) fun d=>Â (CT d.1) fun e=>k e.1
def kP (a:a8) (b:b5):rF (Bool):=YC a b some
def O5 (a:Int) (k:Bool->rF ρ):rF ρ :=
  k (ine a a)
def qx (a:Int):rF (Bool):=O5 a some
def Il (a:Int) (b:Int) (k:Int->rF ρ):rF ρ :=
  Â (qx a) fun d=>Â (qx b) fun c=>ifb d (ifb c (k (0:Int)) (k (-1:Int))) (ifb c (k (1:Int)) (ifb (ilt a b) (k (-1:Int)) (ifb (igt a b) (k (1:Int)) (k (0:Int)))))
def mE (a:Int) (b:Int):rF (Int):=Il a b some
def ET (d:Int) (e:an) (f:Int) (g:b8) (b:Int) (a:Int) (c:Int->Int->rF ρ) (h:Int->rF ρ):rF ρ :=
  ifb (ilt a f) (Þ e a fun i=>Þ g d fun j=>Þ j.2 a fun k=>ifb (ine k i) (ck (b+(1:Int)) fun l=>ck (a+(1:Int)) fun m=>c l m) (ck (a+(1:Int)) fun n=>c b n)) (h b)
def EU (e:b5) (f:Int) (g:b8) (b:Int) (a:Int) (h:Int->Int->rF ρ) (i:Int->rF ρ):rF ρ :=
  ifb (ilt a f) (Þ e a fun c=>Ê (fun(d:bx) j=>ET a c (Ó c) g d.1 d.2 (fun k l=>j (k,l)) (fun m=>ck (a+(1:Int)) fun n=>h m n)) (b,(0:Int))) (i b)
def aeV (c:a8) (a:b5) (k:Int->rF ρ):rF ρ :=
  Ê (fun(b:bx) d=>EU a (Ó a) c.2 b.1 b.2 (fun e f=>d (e,f)) (fun g=>k g)) ((0:Int),(0:Int))
def IP (a:a8) (b:b5):rF (Int):=aeV a b some
def aeW (b:b5) (c:b5) (a:Val aE) (k:Int->rF ρ):rF ρ :=
  Â (IP a b) fun d=>Â (IP a c) fun e=>Â (mE d e) fun f=>k f
def uJ (a:b5) (b:b5) (c:Val aE):rF (Int):=aeW a b c some
def Λ (h:Int) (i:Int) (j:Int) (k:c7) (l:bl) (m:dx) (n:b6) (o:bl) (p:b8) (a:Int) (b:a7) (q:Int->a7->rF ρ) (g:a7->rF ρ):rF ρ :=
  ifb (igt a h) (Ô ((ile 0 a)&&(ilt a (ê b))) (ě b (Int.toNat a) fun r=>ck (a-(1:Int)) fun d=>Ô ((ile 0 d)&&(ilt d (ê b))) (ě b (Int.toNat d) fun s=>Â (uJ r s (((i,j),k,l,m,n,o),p)) fun t=>ifb (ilt t 0) (ck (a-(1:Int)) fun c=>ck (a-(1:Int)) fun e=>Ô ((ile 0 e)&&(ilt e (ê b))) (ě b (Int.toNat e) fun f=>Ô ((ile 0 a)&&(ilt a (ê b))) (ě b (Int.toNat a) fun u=>Ô ((ile 0 a)&&(ilt a (ê b))) (ě b (Int.toNat a) fun w=>Ô ((ile 0 c)&&(ilt c (ê (List.set b (Int.toNat a) f)))) (ě (List.set b (Int.toNat a) f) (Int.toNat c) fun x=>ck (a-(1:Int)) fun v=>q v (List.set (List.set b (Int.toNat a) f) (Int.toNat c) u)))))) (g b)))) (g b)
def Μ (d:Int) (e:Int) (f:Int) (g:Int) (h:c7) (i:bl) (j:dx) (k:b6) (l:bl) (m:b8) (a:Int) (b:a7) (n:Int->a7->rF ρ) (o:a7->rF ρ):rF ρ :=
  ifb (ilt a e) (Ê (fun(c:gx) p=>Λ d f g h i j k l m c.1 c.2 (fun q r=>p (q,r)) (fun s=>ck (a+(1:Int)) fun t=>n t s)) (a,b)) (o b)
def iI (c:a7) (a:Int) (d:Int) (mm:a8) (k:(a7)×a8->rF ρ):rF ρ :=
  ck (a+(1:Int)) fun e=>Ê (fun(b:gx) f=>Μ a d mm.1.1.1 mm.1.1.2 mm.1.2.1 mm.1.2.2.1 mm.1.2.2.2.1 mm.1.2.2.2.2.1 mm.1.2.2.2.2.2 mm.2 b.1 b.2 (fun g h=>f (g,h)) (fun i=>k (i,mm))) (e,c)
def Ō (a:a7) (b:Int) (c:Int) (mm:a8):rF ((a7)×a8):=iI a b c mm some
def kJ (h:Int) (i:Int) (j:Int) (b:Int) (a:a7) (k:Int->a7->rF ρ) (l:a7->rF ρ):rF ρ :=
  ifb (ilt b j) (ck (h+b) fun c=>ck (i+b) fun d=>ck (i+b) fun e=>Ô ((ile 0 e)&&(ilt e (ê a))) (ě a (Int.toNat e) fun f=>ck (h+b) fun g=>Ô ((ile 0 g)&&(ilt g (ê a))) (ě a (Int.toNat g) fun m=>Ô ((ile 0 c)&&(ilt c (ê a))) (ě a (Int.toNat c) fun o=>Ô ((ile 0 d)&&(ilt d (ê (List.set a (Int.toNat c) f)))) (ě (List.set a (Int.toNat c) f) (Int.toNat d) fun p=>ck (b+(1:Int)) fun n=>k n (List.set (List.set a (Int.toNat c) f) (Int.toNat d) m)))))) (l a)
def kI (h:Int) (i:Int) (j:Int) (b:Int) (a:a7) (k:Int->a7->rF ρ) (l:a7->rF ρ):rF ρ :=
  ifb (ilt b j) (ck (h+b) fun c=>ck (i+b) fun d=>ck (i+b) fun e=>Ô ((ile 0 e)&&(ilt e (ê a))) (ě a (Int.toNat e) fun f=>ck (h+b) fun g=>Ô ((ile 0 g)&&(ilt g (ê a))) (ě a (Int.toNat g) fun m=>Ô ((ile 0 c)&&(ilt c (ê a))) (ě a (Int.toNat c) fun o=>Ô ((ile 0 d)&&(ilt d (ê (List.set a (Int.toNat c) f)))) (ě (List.set a (Int.toNat c) f) (Int.toNat d) fun p=>ck (b+(1:Int)) fun n=>k n (List.set (List.set a (Int.toNat c) f) (Int.toNat d) m)))))) (l a)
def kK (c:Int) (a:Int) (b:Int) (d:a7) (e:Int->Int->a7->rF ρ) (h:gx->rF ρ):rF ρ :=
  ifb (ine a b) (ifb (igt a b) (ck (c-a) fun i=>Ê (fun(f:gx) j=>kJ i c b f.1 f.2 (fun k l=>j (k,l)) (fun m=>ck (a-b) fun n=>e n b m)) ((0:Int),d)) (ck (c-a) fun o=>ck (c+b) fun p=>ck (p-a) fun q=>Ê (fun(g:gx) r=>kI o q a g.1 g.2 (fun s t=>r (s,t)) (fun u=>ck (b-a) fun v=>e a v u)) ((0:Int),d))) (h (a,d))
def kH (h:Int) (i:Int) (j:Int) (b:Int) (a:a7) (k:Int->a7->rF ρ) (l:a7->rF ρ):rF ρ :=
  ifb (ilt b j) (ck (h+b) fun c=>ck (i+b) fun d=>ck (i+b) fun e=>Ô ((ile 0 e)&&(ilt e (ê a))) (ě a (Int.toNat e) fun f=>ck (h+b) fun g=>Ô ((ile 0 g)&&(ilt g (ê a))) (ě a (Int.toNat g) fun m=>Ô ((ile 0 c)&&(ilt c (ê a))) (ě a (Int.toNat c) fun o=>Ô ((ile 0 d)&&(ilt d (ê (List.set a (Int.toNat c) f)))) (ě (List.set a (Int.toNat c) f) (Int.toNat d) fun p=>ck (b+(1:Int)) fun n=>k n (List.set (List.set a (Int.toNat c) f) (Int.toNat d) m)))))) (l a)
def nu (e:a7) (f:Int) (a:Int) (g:Int) (mm:a8) (k:(a7)×a8->rF ρ):rF ρ :=
  ck (a-f) fun h=>ck (g-a) fun i=>Ê (fun(b:nT) j=>kK a b.1 b.2.1 b.2.2 (fun l m n=>j (l,m,n)) (fun c=>ck (a-c.1) fun o=>Ê (fun(d:gx) p=>kH o a c.1 d.1 d.2 (fun q r=>p (q,r)) (fun s=>k (s,mm))) ((0:Int),c.2))) (h,i,e)
def iW (a:a7) (b:Int) (c:Int) (d:Int) (mm:a8):rF ((a7)×a8):=nu a b c d mm some
def jx (rec:a7->Int->Int->Int->a8->rF (a7×a8)) (d:Int) (b:a7) (g:Int) (h:Int) (i:c7) (j:bl) (k:dx) (l:b6) (m:bl) (n:b8) (c:Int) (e:Int) (f:Int->Int->rF ρ) (o:Int->rF ρ):rF ρ :=
  ifb (ilt c e) (ck (c+e) fun a=>Ô ((ile 0 (IntKind.wrap .i64 (iN .u64 (IntKind.wrap .u64 a) (1:Int))))&&(ilt (IntKind.wrap .i64 (iN .u64 (IntKind.wrap .u64 a) (1:Int))) (ê b))) (ě b (Int.toNat (IntKind.wrap .i64 (iN .u64 (IntKind.wrap .u64 a) (1:Int)))) fun p=>Ô ((ile 0 d)&&(ilt d (ê b))) (ě b (Int.toNat d) fun q=>Â (uJ p q (((g,h),i,j,k,l,m),n)) fun r=>ifb (ilt r 0) (ck ((IntKind.wrap .i64 (iN .u64 (IntKind.wrap .u64 a) (1:Int)))+(1:Int)) fun s=>f s e) (f c (IntKind.wrap .i64 (iN .u64 (IntKind.wrap .u64 a) (1:Int))))))) (o c)
def jw (rec:a7->Int->Int->Int->a8->rF (a7×a8)) (f:Int) (a:Int) (b:a7) (g:Int->a7->rF ρ) (h:a7->rF ρ):rF ρ :=
  ck (f-(1:Int)) fun i=>ifb (ilt a i) (ck (a+(1:Int)) fun c=>ck (a+(1:Int)) fun d=>Ô ((ile 0 d)&&(ilt d (ê b))) (ě b (Int.toNat d) fun e=>Ô ((ile 0 a)&&(ilt a (ê b))) (ě b (Int.toNat a) fun j=>Ô ((ile 0 a)&&(ilt a (ê b))) (ě b (Int.toNat a) fun l=>Ô ((ile 0 c)&&(ilt c (ê (List.set b (Int.toNat a) e)))) (ě (List.set b (Int.toNat a) e) (Int.toNat c) fun m=>ck (a+(1:Int)) fun k=>g k (List.set (List.set b (Int.toNat a) e) (Int.toNat c) j)))))) (h b)
def jv (rec:a7->Int->Int->Int->a8->rF (a7×a8)) (d:Int) (b:a7) (g:Int) (h:Int) (i:c7) (j:bl) (k:dx) (l:b6) (m:bl) (n:b8) (c:Int) (e:Int) (f:Int->Int->rF ρ) (o:Int->rF ρ):rF ρ :=
  ifb (ilt c e) (ck (c+e) fun a=>Ô ((ile 0 d)&&(ilt d (ê b))) (ě b (Int.toNat d) fun p=>Ô ((ile 0 (IntKind.wrap .i64 (iN .u64 (IntKind.wrap .u64 a) (1:Int))))&&(ilt (IntKind.wrap .i64 (iN .u64 (IntKind.wrap .u64 a) (1:Int))) (ê b))) (ě b (Int.toNat (IntKind.wrap .i64 (iN .u64 (IntKind.wrap .u64 a) (1:Int)))) fun q=>Â (uJ p q (((g,h),i,j,k,l,m),n)) fun r=>ifb (!(ilt r 0)) (ck ((IntKind.wrap .i64 (iN .u64 (IntKind.wrap .u64 a) (1:Int)))+(1:Int)) fun s=>f s e) (f c (IntKind.wrap .i64 (iN .u64 (IntKind.wrap .u64 a) (1:Int))))))) (o c)
def ju (rec:a7->Int->Int->Int->a8->rF (a7×a8)) (f:Int) (a:Int) (b:a7) (g:Int->a7->rF ρ) (h:a7->rF ρ):rF ρ :=
  ifb (igt a f) (ck (a-(1:Int)) fun c=>ck (a-(1:Int)) fun d=>Ô ((ile 0 d)&&(ilt d (ê b))) (ě b (Int.toNat d) fun e=>Ô ((ile 0 a)&&(ilt a (ê b))) (ě b (Int.toNat a) fun i=>Ô ((ile 0 a)&&(ilt a (ê b))) (ě b (Int.toNat a) fun k=>Ô ((ile 0 c)&&(ilt c (ê (List.set b (Int.toNat a) e)))) (ě (List.set b (Int.toNat a) e) (Int.toNat c) fun l=>ck (a-(1:Int)) fun j=>g j (List.set (List.set b (Int.toNat a) e) (Int.toNat c) i)))))) (h b)
def ţ (rec:a7->Int->Int->Int->a8->rF (a7×a8)) (g:Int) (b:a7) (h:Int) (i:Int) (j:c7) (k:bl) (l:dx) (m:b6) (n:bl) (o:b8) (c:Int) (d:Int) (f:Int->Int->rF ρ) (p:Int->rF ρ):rF ρ :=
  ifb (ilt c d) (ck (c+d) fun a=>ck (g-(IntKind.wrap .i64 (iN .u64 (IntKind.wrap .u64 a) (1:Int)))) fun e=>Ô ((ile 0 e)&&(ilt e (ê b))) (ě b (Int.toNat e) fun q=>Ô ((ile 0 (IntKind.wrap .i64 (iN .u64 (IntKind.wrap .u64 a) (1:Int))))&&(ilt (IntKind.wrap .i64 (iN .u64 (IntKind.wrap .u64 a) (1:Int))) (ê b))) (ě b (Int.toNat (IntKind.wrap .i64 (iN .u64 (IntKind.wrap .u64 a) (1:Int)))) fun r=>Â (uJ q r (((h,i),j,k,l,m,n),o)) fun s=>ifb (!(ilt s 0)) (ck ((IntKind.wrap .i64 (iN .u64 (IntKind.wrap .u64 a) (1:Int)))+(1:Int)) fun t=>f t d) (f c (IntKind.wrap .i64 (iN .u64 (IntKind.wrap .u64 a) (1:Int))))))) (p c)
def Ŋ (rec:a7->Int->Int->Int->a8->rF (a7×a8)) (c:a7) (f:Int) (g:Int) (b:Int) (mm:a8) (k:(a7)×a8->rF ρ):rF ρ :=
  ck (g-f) fun R=>ifb (ieq R 1) (Ê (fun(t:bx) S=>jx rec f c mm.1.1.1 mm.1.1.2 mm.1.2.1 mm.1.2.2.1 mm.1.2.2.2.1 mm.1.2.2.2.2.1 mm.1.2.2.2.2.2 mm.2 t.1 t.2 (fun T U=>S (T,U)) (fun V=>Ê (fun(u:gx) W=>jw rec V u.1 u.2 (fun X Y=>W (X,Y)) (fun Z=>k (Z,mm))) (f,c))) (g,b)) (ck (b-g) fun dt=>ifb (ieq dt 1) (Ê (fun(v:bx) du=>jv rec g c mm.1.1.1 mm.1.1.2 mm.1.2.1 mm.1.2.2.1 mm.1.2.2.2.1 mm.1.2.2.2.2.1 mm.1.2.2.2.2.2 mm.2 v.1 v.2 (fun dv dw=>du (dv,dw)) (fun dz=>Ê (fun(w:gx) d8=>ju rec dz w.1 w.2 (fun d9 ee=>d8 (d9,ee)) (fun eh=>k (eh,mm))) (g,c))) (f,g)) (ck (f+b) fun a=>ck ((IntKind.wrap .i64 (iN .u64 (IntKind.wrap .u64 a) (1:Int)))+g) fun s=>ifb (igt g (IntKind.wrap .i64 (iN .u64 (IntKind.wrap .u64 a) (1:Int)))) (ck (s-b) fun ej=>ck (s-1) fun eo=>Ê (fun(x:bx) fc=>ţ rec eo c mm.1.1.1 mm.1.1.2 mm.1.2.1 mm.1.2.2.1 mm.1.2.2.2.1 mm.1.2.2.2.2.1 mm.1.2.2.2.2.2 mm.2 x.1 x.2 (fun fe ff=>fc (fe,ff)) (fun j=>ck (s-j) fun d=>ifb (ilt j g) (ifb (ilt g d) (Â (iW c j g d mm) fun h=>ifb (ilt f j) (ifb (ilt j (IntKind.wrap .i64 (iN .u64 (IntKind.wrap .u64 a) (1:Int)))) (Â (rec h.1 f j (IntKind.wrap .i64 (iN .u64 (IntKind.wrap .u64 a) (1:Int))) h.2) fun m=>ifb (ilt (IntKind.wrap .i64 (iN .u64 (IntKind.wrap .u64 a) (1:Int))) d) (ifb (ilt d b) (Â (rec m.1 (IntKind.wrap .i64 (iN .u64 (IntKind.wrap .u64 a) (1:Int))) d b m.2) fun y=>k (y.1,y.2)) (k (m.1,m.2))) (k (m.1,m.2))) (ifb (ilt (IntKind.wrap .i64 (iN .u64 (IntKind.wrap .u64 a) (1:Int))) d) (ifb (ilt d b) (Â (rec h.1 (IntKind.wrap .i64 (iN .u64 (IntKind.wrap .u64 a) (1:Int))) d b h.2) fun z=>k (z.1,z.2)) (k (h.1,h.2))) (k (h.1,h.2)))) (ifb (ilt (IntKind.wrap .i64 (iN .u64 (IntKind.wrap .u64 a) (1:Int))) d) (ifb (ilt d b) (Â (rec h.1 (IntKind.wrap .i64 (iN .u64 (IntKind.wrap .u64 a) (1:Int))) d b h.2) fun A=>k (A.1,A.2)) (k (h.1,h.2))) (k (h.1,h.2)))) (ifb (ilt f j) (ifb (ilt j (IntKind.wrap .i64 (iN .u64 (IntKind.wrap .u64 a) (1:Int)))) (Â (rec c f j (IntKind.wrap .i64 (iN .u64 (IntKind.wrap .u64 a) (1:Int))) mm) fun n=>ifb (ilt (IntKind.wrap .i64 (iN .u64 (IntKind.wrap .u64 a) (1:Int))) d) (ifb (ilt d b) (Â (rec n.1 (IntKind.wrap .i64 (iN .u64 (IntKind.wrap .u64 a) (1:Int))) d b n.2) fun B=>k (B.1,B.2)) (k (n.1,n.2))) (k (n.1,n.2))) (ifb (ilt (IntKind.wrap .i64 (iN .u64 (IntKind.wrap .u64 a) (1:Int))) d) (ifb (ilt d b) (Â (rec c (IntKind.wrap .i64 (iN .u64 (IntKind.wrap .u64 a) (1:Int))) d b mm) fun C=>k (C.1,C.2)) (k (c,mm))) (k (c,mm)))) (ifb (ilt (IntKind.wrap .i64 (iN .u64 (IntKind.wrap .u64 a) (1:Int))) d) (ifb (ilt d b) (Â (rec c (IntKind.wrap .i64 (iN .u64 (IntKind.wrap .u64 a) (1:Int))) d b mm) fun D=>k (D.1,D.2)) (k (c,mm))) (k (c,mm))))) (ifb (ilt f j) (ifb (ilt j (IntKind.wrap .i64 (iN .u64 (IntKind.wrap .u64 a) (1:Int)))) (Â (rec c f j (IntKind.wrap .i64 (iN .u64 (IntKind.wrap .u64 a) (1:Int))) mm) fun o=>ifb (ilt (IntKind.wrap .i64 (iN .u64 (IntKind.wrap .u64 a) (1:Int))) d) (ifb (ilt d b) (Â (rec o.1 (IntKind.wrap .i64 (iN .u64 (IntKind.wrap .u64 a) (1:Int))) d b o.2) fun E=>k (E.1,E.2)) (k (o.1,o.2))) (k (o.1,o.2))) (ifb (ilt (IntKind.wrap .i64 (iN .u64 (IntKind.wrap .u64 a) (1:Int))) d) (ifb (ilt d b) (Â (rec c (IntKind.wrap .i64 (iN .u64 (IntKind.wrap .u64 a) (1:Int))) d b mm) fun F=>k (F.1,F.2)) (k (c,mm))) (k (c,mm)))) (ifb (ilt (IntKind.wrap .i64 (iN .u64 (IntKind.wrap .u64 a) (1:Int))) d) (ifb (ilt d b) (Â (rec c (IntKind.wrap .i64 (iN .u64 (IntKind.wrap .u64 a) (1:Int))) d b mm) fun G=>k (G.1,G.2)) (k (c,mm))) (k (c,mm)))))) (ej,(IntKind.wrap .i64 (iN .u64 (IntKind.wrap .u64 a) (1:Int))))) (ck (s-1) fun fg=>Ê (fun(H:bx) fh=>ţ rec fg c mm.1.1.1 mm.1.1.2 mm.1.2.1 mm.1.2.2.1 mm.1.2.2.2.1 mm.1.2.2.2.2.1 mm.1.2.2.2.2.2 mm.2 H.1 H.2 (fun fi fj=>fh (fi,fj)) (fun l=>ck (s-l) fun e=>ifb (ilt l g) (ifb (ilt g e) (Â (iW c l g e mm) fun i=>ifb (ilt f l) (ifb (ilt l (IntKind.wrap .i64 (iN .u64 (IntKind.wrap .u64 a) (1:Int)))) (Â (rec i.1 f l (IntKind.wrap .i64 (iN .u64 (IntKind.wrap .u64 a) (1:Int))) i.2) fun p=>ifb (ilt (IntKind.wrap .i64 (iN .u64 (IntKind.wrap .u64 a) (1:Int))) e) (ifb (ilt e b) (Â (rec p.1 (IntKind.wrap .i64 (iN .u64 (IntKind.wrap .u64 a) (1:Int))) e b p.2) fun I=>k (I.1,I.2)) (k (p.1,p.2))) (k (p.1,p.2))) (ifb (ilt (IntKind.wrap .i64 (iN .u64 (IntKind.wrap .u64 a) (1:Int))) e) (ifb (ilt e b) (Â (rec i.1 (IntKind.wrap .i64 (iN .u64 (IntKind.wrap .u64 a) (1:Int))) e b i.2) fun J=>k (J.1,J.2)) (k (i.1,i.2))) (k (i.1,i.2)))) (ifb (ilt (IntKind.wrap .i64 (iN .u64 (IntKind.wrap .u64 a) (1:Int))) e) (ifb (ilt e b) (Â (rec i.1 (IntKind.wrap .i64 (iN .u64 (IntKind.wrap .u64 a) (1:Int))) e b i.2) fun K=>k (K.1,K.2)) (k (i.1,i.2))) (k (i.1,i.2)))) (ifb (ilt f l) (ifb (ilt l (IntKind.wrap .i64 (iN .u64 (IntKind.wrap .u64 a) (1:Int)))) (Â (rec c f l (IntKind.wrap .i64 (iN .u64 (IntKind.wrap .u64 a) (1:Int))) mm) fun q=>ifb (ilt (IntKind.wrap .i64 (iN .u64 (IntKind.wrap .u64 a) (1:Int))) e) (ifb (ilt e b) (Â (rec q.1 (IntKind.wrap .i64 (iN .u64 (IntKind.wrap .u64 a) (1:Int))) e b q.2) fun L=>k (L.1,L.2)) (k (q.1,q.2))) (k (q.1,q.2))) (ifb (ilt (IntKind.wrap .i64 (iN .u64 (IntKind.wrap .u64 a) (1:Int))) e) (ifb (ilt e b) (Â (rec c (IntKind.wrap .i64 (iN .u64 (IntKind.wrap .u64 a) (1:Int))) e b mm) fun M=>k (M.1,M.2)) (k (c,mm))) (k (c,mm)))) (ifb (ilt (IntKind.wrap .i64 (iN .u64 (IntKind.wrap .u64 a) (1:Int))) e) (ifb (ilt e b) (Â (rec c (IntKind.wrap .i64 (iN .u64 (IntKind.wrap .u64 a) (1:Int))) e b mm) fun N=>k (N.1,N.2)) (k (c,mm))) (k (c,mm))))) (ifb (ilt f l) (ifb (ilt l (IntKind.wrap .i64 (iN .u64 (IntKind.wrap .u64 a) (1:Int)))) (Â (rec c f l (IntKind.wrap .i64 (iN .u64 (IntKind.wrap .u64 a) (1:Int))) mm) fun r=>ifb (ilt (IntKind.wrap .i64 (iN .u64 (IntKind.wrap .u64 a) (1:Int))) e) (ifb (ilt e b) (Â (rec r.1 (IntKind.wrap .i64 (iN .u64 (IntKind.wrap .u64 a) (1:Int))) e b r.2) fun O=>k (O.1,O.2)) (k (r.1,r.2))) (k (r.1,r.2))) (ifb (ilt (IntKind.wrap .i64 (iN .u64 (IntKind.wrap .u64 a) (1:Int))) e) (ifb (ilt e b) (Â (rec c (IntKind.wrap .i64 (iN .u64 (IntKind.wrap .u64 a) (1:Int))) e b mm) fun P=>k (P.1,P.2)) (k (c,mm))) (k (c,mm)))) (ifb (ilt (IntKind.wrap .i64 (iN .u64 (IntKind.wrap .u64 a) (1:Int))) e) (ifb (ilt e b) (Â (rec c (IntKind.wrap .i64 (iN .u64 (IntKind.wrap .u64 a) (1:Int))) e b mm) fun Q=>k (Q.1,Q.2)) (k (c,mm))) (k (c,mm)))))) (f,g))))
def κ:Nat->a7->Int->Int->Int->a8->rF (a7×a8)
  |0=>fun _ _ _ _ _=>none
  |n+1=>fun a b c d mm=>Ŋ (κ n) a b c d mm some
def ip (a:a7) (b:Int) (c:Int) (d:Int) (mm:a8):rF ((a7)×a8):=κ 100 a b c d mm
def kG (m:Int) (n:Int) (c:Int) (b:Int) (d:a7) (e:Int) (f:Int) (g:c7) (h:bl) (i:dx) (j:b6) (k:bl) (l:b8) (o:Int->Int->a7->Int->Int->c7->bl->dx->b6->bl->b8->rF ρ) (p:lI->rF ρ):rF ρ :=
  ifb (ile b m) (Â (Ō d c b (((e,f),g,h,i,j,k),l)) fun a=>ck (b+n) fun q=>o b q a.1 a.2.1.1.1 a.2.1.1.2 a.2.1.2.1 a.2.1.2.2.1 a.2.1.2.2.2.1 a.2.1.2.2.2.2.1 a.2.1.2.2.2.2.2 a.2.2) (p (c,d,e,f,g,h,i,j,k,l))
def kE (n:Int) (d:Int) (c:Int) (b:Int) (e:a7) (f:Int) (g:Int) (h:c7) (i:bl) (j:dx) (k:b6) (l:bl) (m:b8) (o:Int->Int->a7->Int->Int->c7->bl->dx->b6->bl->b8->rF ρ) (p:lI->rF ρ):rF ρ :=
  ifb (ile b n) (ck (c+d) fun q=>Â (ip e c q b (((f,g),h,i,j,k,l),m)) fun a=>ck ((2:Int)*d) fun r=>ck (b+r) fun s=>o b s a.1 a.2.1.1.1 a.2.1.1.2 a.2.1.2.1 a.2.1.2.2.1 a.2.1.2.2.2.1 a.2.1.2.2.2.2.1 a.2.1.2.2.2.2.2 a.2.2) (p (c,e,f,g,h,i,j,k,l,m))
def kF (e:Int) (d:Int) (f:a7) (g:Int) (h:Int) (i:c7) (j:bl) (k:dx) (l:b6) (m:bl) (n:b8) (o:Int->a7->Int->Int->c7->bl->dx->b6->bl->b8->rF ρ) (q:(Val (.pair ag ah))->rF ρ):rF ρ :=
  ifb (ilt d e) (ck ((2:Int)*d) fun r=>Ê (fun(b:pc) s=>kE e d b.1 b.2.1 b.2.2.1 b.2.2.2.1 b.2.2.2.2.1 b.2.2.2.2.2.1 b.2.2.2.2.2.2.1 b.2.2.2.2.2.2.2.1 b.2.2.2.2.2.2.2.2.1 b.2.2.2.2.2.2.2.2.2.1 b.2.2.2.2.2.2.2.2.2.2 (fun t u v w x y z A B C D=>s (t,u,v,w,x,y,z,A,B,C,D)) (fun a=>ck (a.1+d) fun p=>ifb (ilt p e) (Â (ip a.2.1 a.1 p e (((a.2.2.1,a.2.2.2.1),a.2.2.2.2.1,a.2.2.2.2.2.1,a.2.2.2.2.2.2.1,a.2.2.2.2.2.2.2.1,a.2.2.2.2.2.2.2.2.1),a.2.2.2.2.2.2.2.2.2)) fun c=>ck (d*(2:Int)) fun E=>o E c.1 c.2.1.1.1 c.2.1.1.2 c.2.1.2.1 c.2.1.2.2.1 c.2.1.2.2.2.1 c.2.1.2.2.2.2.1 c.2.1.2.2.2.2.2 c.2.2) (ck (d*(2:Int)) fun F=>o F a.2.1 a.2.2.1 a.2.2.2.1 a.2.2.2.2.1 a.2.2.2.2.2.1 a.2.2.2.2.2.2.1 a.2.2.2.2.2.2.2.1 a.2.2.2.2.2.2.2.2.1 a.2.2.2.2.2.2.2.2.2))) ((0:Int),r,f,g,h,i,j,k,l,m,n)) (q (f,g,h,i,j,k,l,m,n))
def nt (g:a7) (f:Int) (mm:a8) (k:(a7)×a8->rF ρ):rF ρ :=
  Ê (fun(a:pc) h=>kG f (20:Int) a.1 a.2.1 a.2.2.1 a.2.2.2.1 a.2.2.2.2.1 a.2.2.2.2.2.1 a.2.2.2.2.2.2.1 a.2.2.2.2.2.2.2.1 a.2.2.2.2.2.2.2.2.1 a.2.2.2.2.2.2.2.2.2.1 a.2.2.2.2.2.2.2.2.2.2 (fun i j l m n o p q r s t=>h (i,j,l,m,n,o,p,q,r,s,t)) (fun b=>Â (Ō b.2.1 b.1 f (((b.2.2.1,b.2.2.2.1),b.2.2.2.2.1,b.2.2.2.2.2.1,b.2.2.2.2.2.2.1,b.2.2.2.2.2.2.2.1,b.2.2.2.2.2.2.2.2.1),b.2.2.2.2.2.2.2.2.2)) fun d=>Ê (fun(c:lI) u=>kF f c.1 c.2.1 c.2.2.1 c.2.2.2.1 c.2.2.2.2.1 c.2.2.2.2.2.1 c.2.2.2.2.2.2.1 c.2.2.2.2.2.2.2.1 c.2.2.2.2.2.2.2.2.1 c.2.2.2.2.2.2.2.2.2 (fun v w x y z A B C D E=>u (v,w,x,y,z,A,B,C,D,E)) (fun e=>k (e.1,(((e.2.1,e.2.2.1),e.2.2.2.1,e.2.2.2.2.1,e.2.2.2.2.2.1,e.2.2.2.2.2.2.1,e.2.2.2.2.2.2.2.1),e.2.2.2.2.2.2.2.2)))) ((20:Int),d.1,d.2.1.1.1,d.2.1.1.2,d.2.1.2.1,d.2.1.2.2.1,d.2.1.2.2.2.1,d.2.1.2.2.2.2.1,d.2.1.2.2.2.2.2,d.2.2))) ((0:Int),(20:Int),g,mm.1.1.1,mm.1.1.2,mm.1.2.1,mm.1.2.2.1,mm.1.2.2.2.1,mm.1.2.2.2.2.1,mm.1.2.2.2.2.2,mm.2)
def iV (a:a7) (b:Int) (mm:a8):rF ((a7)×a8):=nt a b mm some
def Nz (a:a7) (y:b5) (b:a7->rF ρ):rF ρ :=
  Ô (Î ((List.length a)+(List.length ([y])))) (b (a++([y])))
def NB (c:Int) (d:Int) (e:Int) (f:c7) (g:bl) (h:dx) (i:b6) (j:bl) (k:b8) (b:a7) (a:Int) (l:Int->rF ρ) (m:Int->rF ρ) (n:Unit->rF ρ):rF ρ :=
  ifb (ilt a c) (Ô ((ile 0 a)&&(ilt a (ê b))) (ě b (Int.toNat a) fun o=>Â (kP (((d,e),f,g,h,i,j),k) o) fun p=>ifb (!p) (m a) (ck (a+(1:Int)) fun q=>l q))) (n ())
def NA (f:Int) (g:Int) (h:c7) (i:bl) (j:dx) (k:b6) (l:bl) (m:b8) (b:Int) (c:Int) (a:a7) (d:Int->Int->a7->rF ρ) (n:gx->rF ρ):rF ρ :=
  ifb (ilt c (Ó a)) (Ô ((ile 0 c)&&(ilt c (ê a))) (ě a (Int.toNat c) fun e=>Â (kP (((f,g),h,i,j,k,l),m) e) fun o=>ifb (!(!o)) (Ô ((ile 0 b)&&(ilt b (ê a))) (ě a (Int.toNat b) fun s=>ck (b+(1:Int)) fun p=>ck (c+(1:Int)) fun q=>d p q (List.set a (Int.toNat b) e))) (ck (c+(1:Int)) fun r=>d b r a))) (n (b,a))
def ac6 (b:a8) (k:a7->rF ρ):rF ρ :=
  Â (uD b.2) fun g=>GZ (fun(h:a7) (i:b5) j=>Nz h i (fun l=>j l)) g ([]) (fun f=>Â (iV f (Ó f) b) fun c=>Ê (fun(m:Int) n=>NB (Ó c.1) b.1.1.1 b.1.1.2 b.1.2.1 b.1.2.2.1 b.1.2.2.2.1 b.1.2.2.2.2.1 b.1.2.2.2.2.2 b.2 c.1 m (fun o=>n o) (fun d=>ifb (ieq d (-1:Int)) (k c.1) (ck (d+(1:Int)) fun p=>Ê (fun(e:nT) q=>NA b.1.1.1 b.1.1.2 b.1.2.1 b.1.2.2.1 b.1.2.2.2.1 b.1.2.2.2.2.1 b.1.2.2.2.2.2 b.2 e.1 e.2.1 e.2.2 (fun r s t=>q (r,s,t)) (fun a=>Ô ((ile 0 a.1)&&(ile a.1 (ê a.2))) (Ô ((ile 0 a.1)&&(ile a.1 (ê (List.take (Int.toNat a.1) a.2++List.replicate (List.length a.2-(Int.toNat a.1)) ([])++List.drop ((Int.toNat a.1)+(List.length a.2-(Int.toNat a.1))) a.2)))) (k (List.take (Int.toNat a.1) (List.drop 0 (List.take (Int.toNat a.1) a.2++List.replicate (List.length a.2-(Int.toNat a.1)) ([])++List.drop ((Int.toNat a.1)+(List.length a.2-(Int.toNat a.1))) a.2))))))) (d,p,c.1))) (fun _=>k c.1)) (0:Int))
def Wz (a:a8):rF (a7):=ac6 a some
def anu (a:a8) (k:px->rF ρ):rF ρ :=
  Â (Ģ a) fun b=>ifb (ine b 0) (k ([],b)) (Â (Wz a) fun c=>k (c,(0:Int)))
def aiK (a:a8):rF (px):=anu a some
def JA (a:an) (y:Int) (b:an->rF ρ):rF ρ :=
  Ô (Î ((List.length a)+(List.length ([y])))) (b (a++([y])))
def JB (h:b5) (i:Int) (j:b8) (c:Int) (k:Int->rF ρ) (d:Bool->rF ρ) (l:Unit->rF ρ):rF ρ :=
  ifb (ilt c i) (Þ h c fun e=>Þ j c fun f=>ifb (ine (Ó e) (Ó f.2)) (d false) (Â (GK e) fun m=>GZ (fun(n:an) (o:Int) p=>JA n o (fun q=>p q)) m ([]) (fun g=>Ô (Î (List.length g)) (Â (P8 (Km g)) fun a=>Â (P8 f.2) fun b=>ifb (!((iK a.1 b.1)&&((iK a.2.1 b.2.1)&&((iK a.2.2.1 b.2.2.1)&&((iK a.2.2.2.1 b.2.2.2.1)&&((iK a.2.2.2.2 b.2.2.2.2)&&true)))))) (d false) (ck (c+(1:Int)) fun r=>k r))))) (l ())
def YA (b:a8) (a:b5) (k:Bool->rF ρ):rF ρ :=
  ifb (ine (Ó a) (Ó b.2)) (k false) (Ê (fun(c:Int) d=>JB a (Ó a) b.2 c (fun e=>d e) (fun f=>k f) (fun _=>k true)) (0:Int))
def ZL (a:a8) (b:b5):rF (Bool):=YA a b some
def ahA (a:a8) (c:b5) (k:Int->rF ρ):rF ρ :=
  Â (Ģ a) fun b=>ifb (ine b 0) (k b) (Â (ZL a c) fun d=>ifb (!d) (k (1:Int)) (k (0:Int)))
def ZM (a:a8) (b:b5):rF (Int):=ahA a b some
def Jy (b:c7) (c:Int) (d:Int) (a:Int) (e:Int->rF ρ) (f:Int->rF ρ) (g:Unit->rF ρ):rF ρ :=
  ifb (ilt a c) (Þ b a fun h=>ifb (ieq h.1 d) (f a) (ck (a+(1:Int)) fun i=>e i)) (g ())
def ahz (a:a8) (c:Int) (b:Int) (k:Int->rF ρ):rF ρ :=
  ifb (ilt b 0) (k (1:Int)) (ifb (igt b 20000) (k (1:Int)) (Ê (fun(d:Int) e=>Jy a.1.2.1 (Ó a.1.2.1) c d (fun f=>e f) (fun g=>ifb (!(ige g 0)) (k (5:Int)) (k (0:Int))) (fun _=>k (5:Int))) (0:Int)))
def G0 (a:a8) (b:Int) (c:Int):rF (Int):=ahz a b c some
def ant (a:a8) (b:b5) (c:Int) (d:Int) (k:bx->rF ρ):rF ρ :=
  Â (ZM a b) fun e=>ifb (ine e 0) (k ((0:Int),e)) (Â (G0 a c d) fun f=>ifb (ine f 0) (k ((0:Int),f)) (Â (D6 a b c d) fun g=>k (g,(0:Int))))
def aiJ (a:a8) (b:b5) (c:Int) (d:Int):rF bx:=ant a b c d some
def Nd (a:a7) (y:b5) (b:a7->rF ρ):rF ρ :=
  Ô (Î ((List.length a)+(List.length ([y])))) (b (a++([y])))
def ac4 (a:a8) (k:a7->rF ρ):rF ρ :=
  Â (uD a.2) fun c=>GZ (fun(d:a7) (e:b5) f=>Nd d e (fun g=>f g)) c ([]) (fun b=>Â (iV b (Ó b) a) fun h=>k h.1)
def AC (a:a8):rF (a7):=ac4 a some
def ak6 (a:a8) (k:px->rF ρ):rF ρ :=
  Â (Ģ a) fun b=>ifb (ine b 0) (k ([],b)) (Â (AC a) fun c=>k (c,(0:Int)))
def adL (a:a8):rF (px):=ak6 a some
def Yt (a:b6) (k:a8->rF ρ):rF ρ :=
  Ô (Î ((List.length ([((7:Int),(10:Int),[(1:Int)],[(2:Int)],(-20:Int),(1:Int),(100:Int),(200:Int))]))+(List.length a))) (k ((((0:Int),(2:Int)),[((1:Int),(0:Int),(1000:Int),((-5:Int),(5:Int)),((1:Int),(10:Int)),(1:Int)),((2:Int),(0:Int),(1000:Int),((-50:Int),(50:Int)),((1:Int),(4:Int)),(0:Int)),((3:Int),(0:Int),(1100:Int),((-1:Int),(1:Int)),((0:Int),(1:Int)),(0:Int))],[((1:Int),(10:Int))],[((1:Int),((20:Int),(29:Int)),(3:Int))],(([((7:Int),(10:Int),[(1:Int)],[(2:Int)],(-20:Int),(1:Int),(100:Int),(200:Int))])++a),[]),[((12:Int),[(2:Int),(3:Int)])]))
def iU (a:b6):rF a8:=Yt a some
def wy (c:a7) (d:Int) (e:Int) (f:Int) (g:c7) (h:bl) (i:dx) (j:b6) (k:bl) (l:b8) (a:Int) (m:Int->rF ρ) (n:lu->rF ρ) (o:Unit->rF ρ):rF ρ :=
  ifb (ilt a d) (Þ c a fun b=>Â (kP (((e,f),g,h,i,j,k),l) b) fun p=>ifb p (n (b,true)) (ck (a+(1:Int)) fun q=>m q)) (o ())
def VF (a:a8) (k:lu->rF ρ):rF ρ :=
  Â (AC a) fun b=>Ê (fun(d:Int) e=>wy b (Ó b) a.1.1.1 a.1.1.2 a.1.2.1 a.1.2.2.1 a.1.2.2.2.1 a.1.2.2.2.2.1 a.1.2.2.2.2.2 a.2 d (fun f=>e f) (fun c=>k (c.1,c.2)) (fun _=>k ([],false))) (0:Int)
def ik (a:a8):rF (lu):=VF a some
def ahD (a:a8) (k:kU->rF ρ):rF ρ :=
  Â (Ģ a) fun b=>ifb (ine b 0) (k ([],b)) (Â (ik a) fun c=>ifb (!c.2) (k ([],(5:Int))) (k (c.1,(0:Int))))
def ZO (a:a8):rF (kU):=ahD a some
def ahW (a:bA) (d:bx) (k:bx->rF ρ):rF ρ :=
  Â (ē a) fun b=>ifb (ine b 0) (k ((0:Int),b)) (Â (qy a) fun e=>Â (ř e d) fun c=>ifb (ilt c 0) (k ((0:Int),(5:Int))) (ck (c+(1:Int)) fun f=>k (f,(0:Int))))
def Hj (a:bA) (b:bx):rF bx:=ahW a b some
def PC (f:Int) (a:Int) (c:b6) (g:Int->b6->rF ρ) (h:b6->rF ρ):rF ρ :=
  ifb (ilt a f) (Ô ((ile 0 a)&&(ilt a (ê c))) (ě c (Int.toNat a) fun d=>Ô (Î (List.length d.2.2.1)) (Ô (Î (List.length d.2.2.2.1)) (Ô ((ile 0 a)&&(ilt a (ê c))) (ě c (Int.toNat a) fun b=>Ô ((ile 0 a)&&(ilt a (ê (List.set c (Int.toNat a) (b.1,b.2.1,d.2.2.1,b.2.2.2))))) (ě (List.set c (Int.toNat a) (b.1,b.2.1,d.2.2.1,b.2.2.2)) (Int.toNat a) fun e=>ck (a+(1:Int)) fun i=>g i (List.set (List.set c (Int.toNat a) (b.1,b.2.1,d.2.2.1,b.2.2.2)) (Int.toNat a) (e.1,e.2.1,e.2.2.1,d.2.2.2.1,e.2.2.2.2)))))))) (h c)
def ale (a:bA) (b:bx) (k:rd->rF ρ):rF ρ :=
  Â (ē a) fun c=>ifb (ine c 0) (k ((((0:Int),(0:Int)),[],[],[],[],[]),c)) (Ô (Î (List.length a.2.1)) (Ô (Î (List.length a.2.2.1)) (Ô (Î (List.length a.2.2.2.1)) (Ô (Î (List.length a.2.2.2.2.2)) (Ô (Î (List.length a.2.2.2.2.1)) (Ê (fun(d:Val aU) g=>PC (Ó a.2.2.2.2.1) d.1 d.2 (fun h i=>g (h,i)) (fun e=>Ô (Î ((List.length a.2.2.2.2.2)+(List.length ([b])))) (Â (ē (a.1,a.2.1,a.2.2.1,a.2.2.2.1,e,(a.2.2.2.2.2++([b])))) fun f=>ifb (ine f 0) (k ((((0:Int),(0:Int)),[],[],[],[],[]),f)) (k ((a.1,a.2.1,a.2.2.1,a.2.2.2.1,e,(a.2.2.2.2.2++([b]))),(0:Int)))))) ((0:Int),a.2.2.2.2.1)))))))
def adS (a:bA) (b:bx):rF (rd):=ale a b some
def JP (b:an) (c:Int) (d:Int) (e:ez) (a:Int) (f:Int->rF ρ) (g:Int->rF ρ) (h:Unit->rF ρ):rF ρ :=
  ifb (ilt a c) (Þ b a fun i=>Â (Md (d,e) i) fun j=>ifb (!j) (g (1:Int)) (ck (a+(1:Int)) fun k=>f k)) (h ())
def ahK (a:fy) (b:an) (k:Int->rF ρ):rF ρ :=
  Â (zI a) fun c=>ifb (ine c.1 0) (k c.1) (Ê (fun(d:Int) e=>JP b (Ó b) a.1 a.2 d (fun f=>e f) (fun g=>k g) (fun _=>Â (sn a ([])) fun h=>ifb (!h.2) (k (9:Int)) (k (0:Int)))) (0:Int))
def ZR (a:fy) (b:an):rF (Int):=ahK a b some
def F9 (c:Int) (a:Int) (b:an) (d:Int->an->rF ρ) (e:an->rF ρ):rF ρ :=
  ifb (ilt a c) (Ô ((ile 0 a)&&(ilt a (ê b))) (ě b (Int.toNat a) fun g=>ck (a+(1:Int)) fun f=>d f (List.set b (Int.toNat a) (1152921504606846976:Int)))) (e b)
def F8 (c:ez) (d:Int) (b:Int) (a:Int) (e:Int->Int->rF ρ) (f:Int->rF ρ):rF ρ :=
  ifb (ilt a d) (Þ c a fun g=>ck (b+(W9 g.2.2 (0:Int))) fun h=>ck (a+(1:Int)) fun i=>e h i) (f b)
def F7 (f:Int) (d:an) (a:Int) (b:m0) (c:an) (e:Int->m0->an->rF ρ) (g:Val aW->rF ρ):rF ρ :=
  ifb (ilt a f) (Ô ((ile 0 a)&&(ilt a (ê d))) (ě d (Int.toNat a) fun h=>ifb (ine h 1152921504606846976) (Ô (Î ((List.length c)+(List.length ([a])))) (Ô ((ile 0 a)&&(ilt a (ê b))) (ě b (Int.toNat a) fun k=>ck (a+(1:Int)) fun i=>e i (List.set b (Int.toNat a) true) (c++([a]))))) (ck (a+(1:Int)) fun j=>e j b c))) (g (b,c))
def F5 (m:Val ay) (j:Int) (d:Int) (n:ez) (o:Int) (f:Int) (b:an) (c:m0) (e:an) (g:Int->an->m0->an->rF ρ) (l:(Val (.pair .bool (.pair ab aW)))->rF ρ) (p:(Val (.pair ab aW))->rF ρ):rF ρ :=
  ifb (ilt f o) (Þ n f fun a=>ifb (ine a.1 d) (ck (f+(1:Int)) fun q=>g q b c e) (Zr (k:=tI) (v:=.bool) f m (fun r=>ifb r (ck (f+(1:Int)) fun s=>g s b c e) (Ô ((ile 0 d)&&(ilt d (ê b))) (ě b (Int.toNat d) fun t=>ck (t+a.2.2) fun u=>Ô ((ile 0 a.2.1)&&(ilt a.2.1 (ê b))) (ě b (Int.toNat a.2.1) fun w=>ifb (ige u w) (ck (f+(1:Int)) fun x=>g x b c e) (Ô ((ile 0 d)&&(ilt d (ê b))) (ě b (Int.toNat d) fun y=>ck (y+a.2.2) fun h=>Ô ((ile 0 a.2.1)&&(ilt a.2.1 (ê b))) (ě b (Int.toNat a.2.1) fun M=>Ô ((ile 0 a.2.1)&&(ilt a.2.1 (ê (List.set b (Int.toNat a.2.1) h)))) (ě (List.set b (Int.toNat a.2.1) h) (Int.toNat a.2.1) fun z=>ifb (ilt z j) (l (false,(List.set b (Int.toNat a.2.1) h),c,e)) (Ô ((ile 0 a.2.1)&&(ilt a.2.1 (ê c))) (ě c (Int.toNat a.2.1) fun A=>ifb (!A) (Ô (Î ((List.length e)+(List.length ([a.2.1])))) (Ô ((ile 0 a.2.1)&&(ilt a.2.1 (ê c))) (ě c (Int.toNat a.2.1) fun N=>ck (f+(1:Int)) fun B=>g B (List.set b (Int.toNat a.2.1) h) (List.set c (Int.toNat a.2.1) true) (e++([a.2.1]))))) (ck (f+(1:Int)) fun C=>g C (List.set b (Int.toNat a.2.1) h) c e))))))))))) (Ô ((ile 0 d)&&(ilt d (ê b))) (ě b (Int.toNat d) fun D=>ck (D+a.2.2) fun E=>Ô ((ile 0 a.2.1)&&(ilt a.2.1 (ê b))) (ě b (Int.toNat a.2.1) fun F=>ifb (ige E F) (ck (f+(1:Int)) fun G=>g G b c e) (Ô ((ile 0 d)&&(ilt d (ê b))) (ě b (Int.toNat d) fun H=>ck (H+a.2.2) fun i=>Ô ((ile 0 a.2.1)&&(ilt a.2.1 (ê b))) (ě b (Int.toNat a.2.1) fun O=>Ô ((ile 0 a.2.1)&&(ilt a.2.1 (ê (List.set b (Int.toNat a.2.1) i)))) (ě (List.set b (Int.toNat a.2.1) i) (Int.toNat a.2.1) fun I=>ifb (ilt I j) (l (false,(List.set b (Int.toNat a.2.1) i),c,e)) (Ô ((ile 0 a.2.1)&&(ilt a.2.1 (ê c))) (ě c (Int.toNat a.2.1) fun J=>ifb (!J) (Ô (Î ((List.length e)+(List.length ([a.2.1])))) (Ô ((ile 0 a.2.1)&&(ilt a.2.1 (ê c))) (ě c (Int.toNat a.2.1) fun P=>ck (f+(1:Int)) fun K=>g K (List.set b (Int.toNat a.2.1) i) (List.set c (Int.toNat a.2.1) true) (e++([a.2.1]))))) (ck (f+(1:Int)) fun L=>g L (List.set b (Int.toNat a.2.1) i) c e)))))))))))) (p (b,c,e))
def F6 (l:Val ay) (m:Int) (n:Int) (k:ez) (h:an) (d:m0) (b:an) (c:an) (o:an->m0->an->an->rF ρ) (i:(Val (.pair .bool br))->rF ρ):rF ρ :=
  ifb (ieq (Ó c) 0) (i (true,h,d,b,c)) (Ô (ilt 0 (ê c)) (ě c 0 fun a=>Ô (ile 1 (ê c)) (Ô (decide (1+(List.length c-1)=List.length c)) (Ô ((ile 0 a)&&(ilt a (ê d))) (ě d (Int.toNat a) fun x=>Ô ((ile 0 a)&&(ilt a (ê b))) (ě b (Int.toNat a) fun p=>ck (p+(1:Int)) fun e=>Ô ((ile 0 a)&&(ilt a (ê b))) (ě b (Int.toNat a) fun y=>Ô ((ile 0 a)&&(ilt a (ê (List.set b (Int.toNat a) e)))) (ě (List.set b (Int.toNat a) e) (Int.toNat a) fun q=>ck (n+(1:Int)) fun r=>ifb (igt q r) (i (false,h,(List.set d (Int.toNat a) false),(List.set b (Int.toNat a) e),(List.drop 1 c))) (Ê (fun(f:gV) s=>F5 l m a k (Ó k) f.1 f.2.1 f.2.2.1 f.2.2.2 (fun t u v w=>s (t,u,v,w)) (fun g=>i (g.1,g.2.1,g.2.2.1,(List.set b (Int.toNat a) e),g.2.2.2)) (fun j=>o j.1 j.2.1 (List.set b (Int.toNat a) e) j.2.2)) ((0:Int),h,(List.set d (Int.toNat a) false),(List.drop 1 c)))))))))))
def Ub (a:fy) (i:Val ay) (b:Int) (k:an->rF ρ):rF ρ :=
  Ô ((ile 0 a.1)&&(Î (Int.toNat a.1))) (Ê (fun(f:dy) j=>F9 (Ó (List.replicate (Int.toNat a.1) (0:Int))) f.1 f.2 (fun l m=>j (l,m)) (fun c=>Ô ((ile 0 b)&&(ilt b (ê c))) (ě c (Int.toNat b) fun B=>Ô ((ile 0 a.1)&&(Î (Int.toNat a.1))) (Ô ((ile 0 a.1)&&(Î (Int.toNat a.1))) (Ê (fun(g:bx) n=>F8 a.2 (Ó a.2) g.1 g.2 (fun o p=>n (o,p)) (fun q=>Ê (fun(e:nn) r=>F7 a.1 (List.set c (Int.toNat b) (0:Int)) e.1 e.2.1 e.2.2 (fun s t u=>r (s,t,u)) (fun h=>Ê (fun(d:Val br) v=>F6 i q a.1 a.2 d.1 d.2.1 d.2.2.1 d.2.2.2 (fun w x y z=>v (w,x,y,z)) (fun A=>k A.2.1)) ((List.set c (Int.toNat b) (0:Int)),h.1,(List.replicate (Int.toNat a.1) (0:Int)),h.2))) ((0:Int),(List.replicate (Int.toNat a.1) false),[]))) ((0:Int),(0:Int))))))) ((0:Int),(List.replicate (Int.toNat a.1) (0:Int))))
def IQ (a:fy) (b:Val ay) (c:Int):rF (an):=Ub a b c some
def JR (c:Int) (d:Int) (e:ez) (a:Int) (b:an) (f:Int->an->rF ρ) (g:an->rF ρ):rF ρ :=
  ifb (ilt a c) (Â (IQ (d,e) ([]) a) fun h=>Þ h (0:Int) fun i=>Ô ((ile 0 a)&&(ilt a (ê b))) (ě b (Int.toNat a) fun k=>ck (a+(1:Int)) fun j=>f j (List.set b (Int.toNat a) i))) (g b)
def JQ (f:an) (g:Int) (c:an) (a:Int) (b:bl) (h:Int->bl->rF ρ) (i:bl->rF ρ):rF ρ :=
  ifb (ilt a g) (Ô ((ile 0 a)&&(ilt a (ê c))) (ě c (Int.toNat a) fun j=>ck (0-j) fun d=>Þ f a fun e=>Ô (Î ((List.length b)+(List.length ([(d,e)])))) (ck (a+(1:Int)) fun k=>h k (b++([(d,e)]))))) (i b)
def ahL (a:fy) (k:nj->rF ρ):rF ρ :=
  Â (ZR a ([])) fun b=>ifb (ine b 0) (k ([],b)) (Â (IQ a ([]) (0:Int)) fun c=>Ô ((ile 0 a.1)&&(Î (Int.toNat a.1))) (Ê (fun(d:dy) f=>JR (Ó (List.replicate (Int.toNat a.1) (0:Int))) a.1 a.2 d.1 d.2 (fun g h=>f (g,h)) (fun i=>Ê (fun(e:kW) j=>JQ c (Ó c) i e.1 e.2 (fun l m=>j (l,m)) (fun n=>k (n,(0:Int)))) ((0:Int),[]))) ((0:Int),(List.replicate (Int.toNat a.1) (0:Int)))))
def Qb (a:fy):rF (nj):=ahL a some
def aeX (a:bA) (b:bx) (k:gU->rF ρ):rF ρ :=
  Â (Hj a b) fun f=>ifb (ine f.2 0) (Â (adS a b) fun c=>ifb (ine c.2 0) (k (((0:Int),(0:Int)),c.2)) (Â (Hj c.1 b) fun g=>Â (pA c.1) fun h=>Â (Qb h.1) fun d=>ifb (ine d.2 0) (k (((0:Int),(0:Int)),d.2)) (Þ d.1 g.1 fun i=>k (i,(0:Int))))) (Â (Hj a b) fun j=>Â (pA a) fun l=>Â (Qb l.1) fun e=>ifb (ine e.2 0) (k (((0:Int),(0:Int)),e.2)) (Þ e.1 j.1 fun m=>k (m,(0:Int))))
def Uz (a:bA) (b:bx):rF gU:=aeX a b some
def Fy (r:Int) (e:Int) (s:a7) (t:Int) (f:Int) (g:Int) (h:c7) (i:bl) (j:dx) (l:b6) (m:bl) (n:b8) (c:Int) (a:Val aY) (o:Int->Val aY->rF ρ) (u:(Val (.pair tI aY))->rF ρ) (w:Val aY->rF ρ):rF ρ :=
  ifb (ilt c t) (Þ s c fun p=>Â (D6 (((f,g),h,i,j,l,m),n) p r e) fun d=>Â (lY (((f,g),h,i,j,l,m),n) p) fun x=>Â (Uz x (d,e)) fun b=>ifb (ine b.2 0) (u (b.2,a)) (Zr (k:=tI) (v:=Æ) d a (fun q=>ck (c+(1:Int)) fun y=>o y (Vx (k:=tI) (v:=Æ) d ((W9 b.1.1 q.1),(Zy b.1.2 q.2)) a)) (ck (c+(1:Int)) fun z=>o z (Vx (k:=tI) (v:=Æ) d b.1 a)))) (w a)
def Fx (f:c7) (g:Int) (h:Val aY) (a:Int) (b:ez) (d:Int->ez->rF ρ) (i:ez->rF ρ):rF ρ :=
  ifb (ilt a g) (Þ f a fun c=>Zr (k:=tI) (v:=Æ) c.1 h (fun e=>Ô (Î ((List.length b)+(List.length ([(c.1,e)])))) (ck (a+(1:Int)) fun j=>d j (b++([(c.1,e)])))) (ck (a+(1:Int)) fun l=>d l b)) (i b)
def ae0 (a:a8) (c:Int) (d:Int) (k:(Val (.pair ak tI))->rF ρ):rF ρ :=
  Â (Ģ a) fun e=>ifb (ine e 0) (k ([],e)) (Â (G0 a c d) fun f=>ifb (ine f 0) (k ([],f)) (Â (Wz a) fun b=>ifb (ieq (Ó b) 0) (k ([],(5:Int))) (Ê (fun(g:(Val (.pair tI aY))) i=>Fy c d b (Ó b) a.1.1.1 a.1.1.2 a.1.2.1 a.1.2.2.1 a.1.2.2.2.1 a.1.2.2.2.2.1 a.1.2.2.2.2.2 a.2 g.1 g.2 (fun j l=>i (j,l)) (fun m=>k ([],m.1)) (fun n=>Ê (fun(h:fy) o=>Fx a.1.2.1 (Ó a.1.2.1) n h.1 h.2 (fun p q=>o (p,q)) (fun r=>k (r,(0:Int)))) ((0:Int),[]))) ((0:Int),[]))))
def UA (a:a8) (b:Int) (c:Int):rF ((Val (.pair ak tI))):=ae0 a b c some
variable [LC]
def Nh (c:Int) (d:an) (b:b6) (a:Int) (e:Int->rF ρ) (f:Int->rF ρ) (g:Unit->rF ρ):rF ρ :=
  ifb (ilt a c) (Ô ((ile 0 a)&&(ilt a (ê b))) (ě b (Int.toNat a) fun h=>Â (á d h.1) fun i=>ifb (!i) (f a) (ck (a+(1:Int)) fun j=>e j))) (g ())
def Ng (f:an) (b:Int) (c:Int) (a:b6) (d:Int->Int->b6->rF ρ) (g:Val aU->rF ρ):rF ρ :=
  ifb (ilt c (Ó a)) (Ô ((ile 0 c)&&(ilt c (ê a))) (ě a (Int.toNat c) fun e=>Â (á f e.1) fun h=>ifb (!(!h)) (Ô ((ile 0 b)&&(ilt b (ê a))) (ě a (Int.toNat b) fun l=>ck (b+(1:Int)) fun i=>ck (c+(1:Int)) fun j=>d i j (List.set a (Int.toNat b) e))) (ck (c+(1:Int)) fun k=>d b k a))) (g (b,a))
def ac5 (b:a8) (e:an) (k:a8->rF ρ):rF ρ :=
  Ô (Î (List.length b.1.2.2.2.2.1)) (Ê (fun(f:Int) g=>Nh (Ó b.1.2.2.2.2.1) e b.1.2.2.2.2.1 f (fun h=>g h) (fun c=>ifb (ieq c (-1:Int)) (k b) (ck (c+(1:Int)) fun i=>Ê (fun(d:im) j=>Ng e d.1 d.2.1 d.2.2 (fun l m n=>j (l,m,n)) (fun a=>Ô ((ile 0 a.1)&&(ile a.1 (ê a.2))) (Ô ((ile 0 a.1)&&(ile a.1 (ê (List.take (Int.toNat a.1) a.2++List.replicate (List.length a.2-(Int.toNat a.1)) ((0:Int),(0:Int),[],[],(0:Int),(0:Int),(0:Int),(0:Int))++List.drop ((Int.toNat a.1)+(List.length a.2-(Int.toNat a.1))) a.2)))) (k ((b.1.1,b.1.2.1,b.1.2.2.1,b.1.2.2.2.1,(List.take (Int.toNat a.1) (List.drop 0 (List.take (Int.toNat a.1) a.2++List.replicate (List.length a.2-(Int.toNat a.1)) ((0:Int),(0:Int),[],[],(0:Int),(0:Int),(0:Int),(0:Int))++List.drop ((Int.toNat a.1)+(List.length a.2-(Int.toNat a.1))) a.2))),b.1.2.2.2.2.2),b.2))))) (c,i,b.1.2.2.2.2.1))) (fun _=>k b)) (0:Int))
def L8 (a:a8) (b:an):rF a8:=ac5 a b some
def NQ (d:b6) (e:Int) (a:Int) (b:an) (f:Int->an->rF ρ) (g:an->rF ρ):rF ρ :=
  ifb (ilt a e) (Þ d a fun c=>Ô (Î ((List.length b)+(List.length ([c.1])))) (ck (a+(1:Int)) fun h=>f h (b++([c.1])))) (g b)
def NP (f:Int) (g:Int) (h:c7) (i:bl) (j:dx) (k:b6) (l:bl) (m:b8) (b:an) (a:Int) (d:an->Int->rF ρ) (n:an->rF ρ):rF ρ :=
  ifb (ige a 0) (Ô ((ile 0 a)&&(ile a (ê b))) (ck (a+(1:Int)) fun c=>Ô ((ile 0 c)&&(ile c (ê b))) (Â (Ė ([(List.take (Int.toNat a) b),(List.drop (Int.toNat c) b)])) fun e=>Â (L8 (((f,g),h,i,j,k,l),m) e) fun o=>Â (ik o) fun p=>ifb (!p.2) (ck (a-(1:Int)) fun q=>d e q) (ck (a-(1:Int)) fun r=>d b r)))) (n b)
def ak7 (a:a8) (k:kw->rF ρ):rF ρ :=
  Â (Ģ a) fun b=>ifb (ine b 0) (k ([],b)) (Â (ik a) fun f=>ifb f.2 (k ([],(5:Int))) (Ê (fun(c:dy) g=>NQ a.1.2.2.2.2.1 (Ó a.1.2.2.2.2.1) c.1 c.2 (fun h i=>g (h,i)) (fun d=>ck ((Ó d)-(1:Int)) fun j=>Ê (fun(e:kw) l=>NP a.1.1.1 a.1.1.2 a.1.2.1 a.1.2.2.1 a.1.2.2.2.1 a.1.2.2.2.2.1 a.1.2.2.2.2.2 a.2 e.1 e.2 (fun m n=>l (m,n)) (fun o=>k (o,(0:Int)))) (d,j))) ((0:Int),[])))
def adM (a:a8):rF (kw):=ak7 a some
def Fk (e:Int) (f:an) (g:Int) (a:Int) (b:an) (c:Int->an->rF ρ) (h:an->rF ρ):rF ρ :=
  ifb (ilt a g) (Þ f a fun d=>Ô (ile 0 a) (ifb (ieq (andI .i64 (iN .i64 e a) (1:Int)) 1) (Ô (Î ((List.length b)+(List.length ([d])))) (ck (a+(1:Int)) fun i=>c i (b++([d])))) (ck (a+(1:Int)) fun j=>c j b))) (h b)
def aeY (a:an) (c:Int) (k:an->rF ρ):rF ρ :=
  Ê (fun(b:dy) d=>Fk c a (Ó a) b.1 b.2 (fun e f=>d (e,f)) (fun g=>k g)) ((0:Int),[])
def pw (a:an) (b:Int):rF (an):=aeY a b some
def yi (b:b6) (c:Int) (d:Int) (a:Int) (e:Int->rF ρ) (f:Int->rF ρ) (g:Unit->rF ρ):rF ρ :=
  ifb (ilt a c) (Þ b a fun h=>ifb (ieq h.1 d) (f a) (ck (a+(1:Int)) fun i=>e i)) (g ())
def yj (d:an) (e:Int) (b:b6) (a:Int) (f:Int->rF ρ) (c:Int->rF ρ) (g:Unit->rF ρ):rF ρ :=
  ifb (ilt a e) (Þ d a fun h=>Ê (fun(i:Int) j=>yi b (Ó b) h i (fun k=>j k) (fun l=>ifb (!(ige l 0)) (c (5:Int)) (ck (a+(1:Int)) fun m=>f m)) (fun _=>c (5:Int))) (0:Int)) (g ())
def yh (b:an) (a:Int) (c:Int->rF ρ) (d:Int->rF ρ) (e:Unit->rF ρ):rF ρ :=
  ifb (ilt a (Ó b)) (Þ b a fun f=>ck (a-(1:Int)) fun g=>Þ b g fun h=>ifb (ile f h) (d (6:Int)) (ck (a+(1:Int)) fun i=>c i)) (e ())
def yf (c:a7) (d:Int) (e:Int) (f:Int) (g:c7) (h:bl) (i:dx) (j:b6) (k:bl) (l:b8) (m:an) (n:Int) (a:Int) (o:Int->rF ρ) (p:lu->rF ρ) (q:Unit->rF ρ):rF ρ :=
  ifb (ilt a d) (Þ c a fun b=>Â (pw m n) fun r=>Â (L8 (((e,f),g,h,i,j,k),l) r) fun s=>Â (kP s b) fun t=>ifb (!(!t)) (p (b,true)) (ck (a+(1:Int)) fun u=>o u)) (q ())
def ye (b:an) (e:an) (f:Int) (a:Int) (g:Int->rF ρ) (c:Int->rF ρ) (h:Unit->rF ρ):rF ρ :=
  ifb (ilt a f) (Þ e a fun i=>ifb (ige a (Ó b)) (c (1:Int)) (Þ b a fun j=>Â (mE i j) fun d=>ifb (ine d 0) (c d) (ck (a+(1:Int)) fun k=>g k))) (h ())
def lD (c:Int) (d:Int) (b:an) (a:Int) (e:Int->rF ρ) (f:Unit->rF ρ) (g:Unit->rF ρ):rF ρ :=
  ifb (ilt a d) (Ô ((ile 0 a)&&(ilt a (ê b))) (ě b (Int.toNat a) fun h=>ifb (ieq (WY .i64 c h) 0) (f ()) (ck (a+(1:Int)) fun i=>e i))) (g ())
def lC (b:Int) (d:a7) (e:Int) (f:an) (g:Int) (h:Int) (i:c7) (j:bl) (k:dx) (l:b6) (m:bl) (n:b8) (c:Int) (a:an) (o:Int->an->rF ρ) (p:an->rF ρ) (q:an->rF ρ):rF ρ :=
  ifb (ilt c e) (Þ d c fun r=>Â (pw f b) fun s=>Â (L8 (((g,h),i,j,k,l,m),n) s) fun t=>Â (kP t r) fun u=>ifb (!(!u)) (Ô (Î ((List.length a)+(List.length ([b])))) (p (a++([b])))) (ck (c+(1:Int)) fun v=>o v a)) (q a)
def pP (g:a7) (t:Int) (h:an) (i:Int) (j:Int) (k:c7) (l:bl) (m:dx) (n:b6) (o:bl) (p:b8) (c:an) (e:Int) (a:Int) (b:an) (d:an->Int->Int->an->rF ρ) (u:dy->rF ρ):rF ρ :=
  ifb (ilt a t) (Â (pw h a) fun f=>ifb (igt (Ó f) (Ó c)) (ck (a+(1:Int)) fun v=>d c e v b) (ifb (ieq (Ó f) (Ó c)) (Ê (fun(w:Int) x=>ye c f (Ó f) w (fun y=>x y) (fun z=>ifb (ige z 0) (ck (a+(1:Int)) fun A=>d c e A b) (Ê (fun(B:Int) C=>lD a (Ó b) b B (fun D=>C D) (fun _=>ck (a+(1:Int)) fun E=>d c e E b) (fun _=>Ê (fun(q:dy) F=>lC a g (Ó g) h i j k l m n o p q.1 q.2 (fun G H=>F (G,H)) (fun I=>ck (a+(1:Int)) fun J=>d c e J I) (fun K=>ck (a+(1:Int)) fun L=>d f a L K)) ((0:Int),b))) (0:Int))) (fun _=>ifb (ilt (Ó f) (Ó c)) (Ê (fun(M:Int) N=>lD a (Ó b) b M (fun O=>N O) (fun _=>ck (a+(1:Int)) fun P=>d c e P b) (fun _=>Ê (fun(r:dy) Q=>lC a g (Ó g) h i j k l m n o p r.1 r.2 (fun R S=>Q (R,S)) (fun T=>ck (a+(1:Int)) fun U=>d c e U T) (fun V=>ck (a+(1:Int)) fun W=>d f a W V)) ((0:Int),b))) (0:Int)) (ck (a+(1:Int)) fun X=>d c e X b))) (0:Int)) (Ê (fun(Y:Int) Z=>lD a (Ó b) b Y (fun dt=>Z dt) (fun _=>ck (a+(1:Int)) fun du=>d c e du b) (fun _=>Ê (fun(s:dy) dv=>lC a g (Ó g) h i j k l m n o p s.1 s.2 (fun dw dz=>dv (dw,dz)) (fun d8=>ck (a+(1:Int)) fun d9=>d c e d9 d8) (fun ee=>ck (a+(1:Int)) fun eh=>d f a eh ee)) ((0:Int),b))) (0:Int)))) (u (e,b))
def JD (a:a8) (b:an) (k:kw->rF ρ):rF ρ :=
  Â (Ģ a) fun g=>ifb (ine g 0) (k ([],g)) (ifb (igt (Ó b) 8) (k ([],(2:Int))) (Ê (fun(h:Int) i=>yj b (Ó b) a.1.2.2.2.2.1 h (fun j=>i j) (fun l=>k ([],l)) (fun _=>Ê (fun(m:Int) n=>yh b m (fun o=>n o) (fun p=>k ([],p)) (fun _=>Â (AC a) fun d=>Ô (ile 0 (Ó b)) (ck ((shlI .i64 (1:Int) (Ó b))-(1:Int)) fun c=>Ê (fun(q:Int) r=>yf d (Ó d) a.1.1.1 a.1.1.2 a.1.2.1 a.1.2.2.1 a.1.2.2.2.1 a.1.2.2.2.2.1 a.1.2.2.2.2.2 a.2 b c q (fun s=>r s) (fun t=>ifb t.2 (k ([],(5:Int))) (Ê (fun(e:(Val (.pair ab bm))) u=>pP d c b a.1.1.1 a.1.1.2 a.1.2.1 a.1.2.2.1 a.1.2.2.2.1 a.1.2.2.2.2.1 a.1.2.2.2.2.2 a.2 e.1 e.2.1 e.2.2.1 e.2.2.2 (fun v w x y=>u (v,w,x,y)) (fun z=>Â (pw b z.1) fun A=>k (A,(0:Int)))) (b,c,(0:Int),[]))) (fun _=>Ê (fun(f:(Val (.pair ab bm))) B=>pP d c b a.1.1.1 a.1.1.2 a.1.2.1 a.1.2.2.1 a.1.2.2.2.1 a.1.2.2.2.2.1 a.1.2.2.2.2.2 a.2 f.1 f.2.1 f.2.2.1 f.2.2.2 (fun C D E F=>B (C,D,E,F)) (fun G=>Â (pw b G.1) fun H=>k (H,(0:Int)))) (b,c,(0:Int),[]))) (0:Int)))) (1:Int))) (0:Int)))
def J9 (a:a8) (b:an):rF (kw):=JD a b some
def aff (a:an) (b:an) (k:(Val (.pair ab aL))->rF ρ):rF ρ :=
  Â (mF a) fun c=>ifb (!c) (k ([],[],(1:Int))) (Â (mF b) fun d=>ifb (!d) (k ([],[],(1:Int))) (Â (ű a b) fun e=>Â (ű b a) fun f=>k (e,f,(0:Int))))
def IR (a:an) (b:an):rF ((Val (.pair ab aL))):=aff a b some
def wA (g:Int) (b:Int) (c:b6) (a:Int) (d:Int->rF ρ) (h:Int->rF ρ) (i:Unit->rF ρ):rF ρ :=
  ifb (ilt a g) (Ô ((ile 0 a)&&(ilt a (ê c))) (ě c (Int.toNat a) fun e=>Â (IR e.2.2.1 e.2.2.2.1) fun f=>Â (á f.1 b) fun j=>ifb j (ck (a+(1:Int)) fun k=>d k) (Â (á f.2.1 b) fun l=>ifb (!l) (h a) (ck (a+(1:Int)) fun m=>d m)))) (i ())
def wz (f:Int) (a:Int) (c:Int) (b:b6) (e:Int->Int->b6->rF ρ) (h:Val aU->rF ρ):rF ρ :=
  ifb (ilt c (Ó b)) (Ô ((ile 0 c)&&(ilt c (ê b))) (ě b (Int.toNat c) fun d=>Â (IR d.2.2.1 d.2.2.2.1) fun g=>Â (á g.1 f) fun i=>ifb i (Ô ((ile 0 a)&&(ilt a (ê b))) (ě b (Int.toNat a) fun p=>ck (a+(1:Int)) fun j=>ck (c+(1:Int)) fun k=>e j k (List.set b (Int.toNat a) d))) (Â (á g.2.1 f) fun l=>ifb (!(!l)) (Ô ((ile 0 a)&&(ilt a (ê b))) (ě b (Int.toNat a) fun q=>ck (a+(1:Int)) fun m=>ck (c+(1:Int)) fun n=>e m n (List.set b (Int.toNat a) d))) (ck (c+(1:Int)) fun o=>e a o b)))) (h (a,b))
def Fl (b:a8) (c:Int) (k:Val bD->rF ρ):rF ρ :=
  Â (Ģ b) fun f=>ifb (ine f 0) (k (false,f)) (Â (G0 b c (0:Int)) fun g=>ifb (ine g 0) (k (false,g)) (Ô (Î (List.length b.1.2.2.2.2.1)) (Ê (fun(h:Int) i=>wA (Ó b.1.2.2.2.2.1) c b.1.2.2.2.2.1 h (fun j=>i j) (fun d=>ifb (ieq d (-1:Int)) (Â (ik b) fun l=>k ((!l.2),(0:Int))) (ck (d+(1:Int)) fun m=>Ê (fun(e:im) n=>wz c e.1 e.2.1 e.2.2 (fun o p q=>n (o,p,q)) (fun a=>Ô ((ile 0 a.1)&&(ile a.1 (ê a.2))) (Ô ((ile 0 a.1)&&(ile a.1 (ê (List.take (Int.toNat a.1) a.2++List.replicate (List.length a.2-(Int.toNat a.1)) ((0:Int),(0:Int),[],[],(0:Int),(0:Int),(0:Int),(0:Int))++List.drop ((Int.toNat a.1)+(List.length a.2-(Int.toNat a.1))) a.2)))) (Â (ik ((b.1.1,b.1.2.1,b.1.2.2.1,b.1.2.2.2.1,(List.take (Int.toNat a.1) (List.drop 0 (List.take (Int.toNat a.1) a.2++List.replicate (List.length a.2-(Int.toNat a.1)) ((0:Int),(0:Int),[],[],(0:Int),(0:Int),(0:Int),(0:Int))++List.drop ((Int.toNat a.1)+(List.length a.2-(Int.toNat a.1))) a.2))),b.1.2.2.2.2.2),b.2)) fun r=>k ((!r.2),(0:Int)))))) (d,m,b.1.2.2.2.2.1))) (fun _=>Â (ik b) fun s=>k ((!s.2),(0:Int)))) (0:Int))))
def G4 (a:a8) (b:Int):rF ((Val bD)):=Fl a b some
def adn (c:Int) (a:Int) (b:an) (d:Int->an->rF ρ) (e:an->rF ρ):rF ρ :=
  ifb (ilt a c) (Ô ((ile 0 a)&&(ilt a (ê b))) (ě b (Int.toNat a) fun g=>ck (a+(1:Int)) fun f=>d f (List.set b (Int.toNat a) (1152921504606846976:Int)))) (e b)
def adl (c:Int) (a:Int) (b:an) (d:Int->an->rF ρ) (e:an->rF ρ):rF ρ :=
  ifb (ilt a c) (Ô ((ile 0 a)&&(ilt a (ê b))) (ě b (Int.toNat a) fun g=>ck (a+(1:Int)) fun f=>d f (List.set b (Int.toNat a) (1152921504606846976:Int)))) (e b)
def adk (d:an) (f:ez) (g:Int) (c:Int) (b:an) (e:Int->an->rF ρ) (h:an->rF ρ):rF ρ :=
  ifb (ilt c g) (Þ f c fun a=>Þ d a.2.1 fun i=>ifb (ine i 1152921504606846976) (Ô ((ile 0 a.1)&&(ilt a.1 (ê b))) (ě b (Int.toNat a.1) fun j=>Þ d a.2.1 fun k=>ck (a.2.2+k) fun l=>Ô ((ile 0 a.1)&&(ilt a.1 (ê b))) (ě b (Int.toNat a.1) fun o=>ck (c+(1:Int)) fun m=>e m (List.set b (Int.toNat a.1) (W9 j l))))) (ck (c+(1:Int)) fun n=>e n b)) (h b)
def adm (i:Int) (b:Int) (d:ez) (e:Int) (a:b5) (j:Int->b5->rF ρ) (k:b5->rF ρ):rF ρ :=
  ifb (ilt e i) (ck ((Ó a)-(1:Int)) fun c=>Ô ((ile 0 c)&&(ilt c (ê a))) (ě a (Int.toNat c) fun l=>Ô ((ile 0 b)&&(Î (Int.toNat b))) (Ê (fun(f:dy) m=>adl (Ó (List.replicate (Int.toNat b) (0:Int))) f.1 f.2 (fun n o=>m (n,o)) (fun p=>Ê (fun(g:dy) q=>adk l d (Ó d) g.1 g.2 (fun r s=>q (r,s)) (fun h=>Ô (Î ((List.length a)+(List.length ([h])))) (ck (e+(1:Int)) fun t=>j t (a++([h]))))) ((0:Int),p))) ((0:Int),(List.replicate (Int.toNat b) (0:Int)))))) (k a)
def ahJ (a:fy) (b:Int) (f:Int) (k:b5->rF ρ):rF ρ :=
  Ô ((ile 0 a.1)&&(Î (Int.toNat a.1))) (Ê (fun(d:dy) g=>adn (Ó (List.replicate (Int.toNat a.1) (0:Int))) d.1 d.2 (fun h i=>g (h,i)) (fun c=>Ô ((ile 0 b)&&(ilt b (ê c))) (ě c (Int.toNat b) fun o=>Ê (fun(e:Val bz) j=>adm f a.1 a.2 e.1 e.2 (fun l m=>j (l,m)) (fun n=>k n)) ((0:Int),[(List.set c (Int.toNat b) (0:Int))])))) ((0:Int),(List.replicate (Int.toNat a.1) (0:Int))))
def ZQ (a:fy) (b:Int) (c:Int):rF (b5):=ahJ a b c some
def JW (d:Int) (c:Int) (e:ez) (a:Int) (b:a7) (f:Int->a7->rF ρ) (g:a7->rF ρ):rF ρ :=
  ifb (ilt a d) (Â (ZQ (c,e) a c) fun h=>Ô ((ile 0 a)&&(ilt a (ê b))) (ě b (Int.toNat a) fun j=>ck (a+(1:Int)) fun i=>f i (List.set b (Int.toNat a) h))) (g b)
def JS (g:Int) (h:b5) (j:ez) (k:Int) (e:Int) (b:Int) (a:Int) (c:an) (f:Int->Int->Int->an->rF ρ) (i:Val bm->rF ρ):rF ρ :=
  ifb (ilt a k) (Þ j a fun d=>ifb (ieq d.1 e) (ck (g-(1:Int)) fun l=>Þ h l fun m=>Þ m d.2.1 fun n=>ifb (ine n 1152921504606846976) (ck (b+d.2.2) fun o=>ck (g-(1:Int)) fun p=>Þ h p fun q=>Þ q d.2.1 fun r=>ck (o+r) fun s=>ifb (ilt s 0) (Ô (Î ((List.length c)+(List.length ([a])))) (ck (b+d.2.2) fun t=>i (d.2.1,t,(c++([a]))))) (ck (a+(1:Int)) fun u=>f e b u c)) (ck (a+(1:Int)) fun v=>f e b v c)) (ck (a+(1:Int)) fun w=>f e b w c)) (i (e,b,c))
def JT (f:b5) (d:ez) (g:Int) (b:Int) (h:Int) (e:an) (i:Int->Int->Int->an->rF ρ) (j:an->rF ρ):rF ρ :=
  ifb (igt b 0) (Ê (fun(a:pi) k=>JS b f d (Ó d) a.1 a.2.1 a.2.2.1 a.2.2.2 (fun l m n o=>k (l,m,n,o)) (fun c=>ck (b-(1:Int)) fun p=>i c.1 p c.2.1 c.2.2)) (g,h,(0:Int),e)) (j e)
def JU (e:Int) (h:ez) (i:Int) (j:Int) (k:ez) (b:a7) (c:Int) (f:Int->rF ρ) (l:Unit->rF ρ) (m:dy->rF ρ) (n:Unit->rF ρ):rF ρ :=
  ifb (ilt c i) (Þ h c fun a=>Ô ((ile 0 a.1)&&(ilt a.1 (ê b))) (ě b (Int.toNat a.1) fun o=>ck (e-(1:Int)) fun p=>Þ o p fun q=>Þ q a.2.1 fun g=>ifb (ieq g 1152921504606846976) (ck (c+(1:Int)) fun r=>f r) (ck (a.2.2+g) fun s=>ifb (ige s 0) (ck (c+(1:Int)) fun t=>f t) (ifb (igt e j) (l ()) (Ô ((ile 0 a.1)&&(ilt a.1 (ê b))) (ě b (Int.toNat a.1) fun u=>Ê (fun(d:pi) v=>JT u k d.1 d.2.1 d.2.2.1 d.2.2.2 (fun w x y z=>v (w,x,y,z)) (fun A=>m ((0:Int),A))) (a.1,e,(0:Int),[]))))))) (n ())
def JV (d:Int) (a:ez) (e:a7) (b:Int) (f:Int->rF ρ) (g:Unit->rF ρ) (h:dy->rF ρ):rF ρ :=
  Ê (fun(i:Int) j=>JU b a (Ó a) d a e i (fun k=>j k) (fun _=>g ()) (fun c=>h (c.1,c.2)) (fun _=>ck (b+(1:Int)) fun l=>f l)) (0:Int)
def ahM (a:fy) (k:kw->rF ρ):rF ρ :=
  Â (zI a) fun b=>ifb (ine b.1 0) (k ([],b.1)) (Â (sn a ([])) fun e=>ifb e.2 (k ([],(5:Int))) (Ô ((ile 0 a.1)&&(Î (Int.toNat a.1))) (Ê (fun(c:gx) f=>JW (Ó (List.replicate (Int.toNat a.1) ([]:b5))) a.1 a.2 c.1 c.2 (fun g h=>f (g,h)) (fun i=>Ê (fun(j:Int) l=>JV a.1 a.2 i j (fun m=>l m) (fun _=>k ([],(5:Int))) (fun d=>k (d.2,d.1))) (1:Int))) ((0:Int),(List.replicate (Int.toNat a.1) ([]:b5))))))
def ZS (a:fy):rF (kw):=ahM a some
def JE (d:a7) (e:Int) (f:Int) (g:Int) (h:c7) (i:bl) (j:dx) (k:b6) (l:bl) (m:b8) (b:Int) (a:b5) (n:Int->b5->rF ρ) (o:Val bz->rF ρ) (p:b5->rF ρ):rF ρ :=
  ifb (ilt b e) (Þ d b fun q=>Â (lY (((f,g),h,i,j,k,l),m) q) fun r=>Â (pA r) fun s=>Â (ZS s.1) fun c=>ifb (ine c.2 0) (o ((5:Int),a)) (Ô (Î ((List.length a)+(List.length ([c.1])))) (ck (b+(1:Int)) fun t=>n t (a++([c.1]))))) (p a)
def ahC (a:a8) (k:kU->rF ρ):rF ρ :=
  Â (Ģ a) fun b=>ifb (ine b 0) (k ([],b)) (Â (AC a) fun c=>Ê (fun(d:Val bz) e=>JE c (Ó c) a.1.1.1 a.1.1.2 a.1.2.1 a.1.2.2.1 a.1.2.2.2.1 a.1.2.2.2.2.1 a.1.2.2.2.2.2 a.2 d.1 d.2 (fun f g=>e (f,g)) (fun h=>k ([],h.1)) (fun i=>k (i,(0:Int)))) ((0:Int),[]))
def ZN (a:a8):rF (kU):=ahC a some
def Ck (d:an) (e:Int) (f:ez) (a:Int) (g:Int->rF ρ) (b:Int->rF ρ) (h:Unit->rF ρ):rF ρ :=
  ifb (ilt a e) (Þ d a fun c=>ifb (ilt c 0) (b a) (ifb (ige c (Ó f)) (b a) (ck (a+(1:Int)) fun i=>g i))) (h ())
def abk (b:fy) (a:an) (k:Int->rF ρ):rF ρ :=
  ifb (igt (Ó a) 80) (k (2:Int)) (Ê (fun(c:Int) d=>Ck a (Ó a) b.2 c (fun e=>d e) (fun f=>ifb (ige f 0) (k (1:Int)) (k (0:Int))) (fun _=>k (0:Int))) (0:Int))
def Qa (a:fy) (b:an):rF (Int):=abk a b some
def OO (e:an) (f:Int) (g:ez) (c:Int) (d:Int) (a:Int) (h:Int->Int->Int->rF ρ) (i:js->rF ρ) (j:bx->rF ρ):rF ρ :=
  ifb (ilt a f) (Þ e a fun k=>Þ g k fun b=>ifb (ine b.1 c) (i ((0:Int),(0:Int),false)) (ck (d+b.2.2) fun l=>ck (a+(1:Int)) fun m=>h b.2.1 l m)) (j (c,d))
def ak8 (e:fy) (f:Int) (c:an) (k:js->rF ρ):rF ρ :=
  Ê (fun(a:kV) g=>OO c (Ó c) e.2 a.1 a.2.1 a.2.2 (fun h i j=>g (h,i,j)) (fun b=>k (b.1,b.2.1,b.2.2)) (fun d=>k (d.1,d.2,true))) (f,(0:Int),(0:Int))
def adN (a:fy) (b:Int) (c:an):rF (js):=ak8 a b c some
def RW (a:fy) (b:an) (k:Int->rF ρ):rF ρ :=
  Â (zI a) fun d=>ifb (ine d.1 0) (k d.1) (Â (Qa a b) fun e=>ifb (ine e 0) (k e) (ifb (ieq (Ó b) 0) (k (8:Int)) (Þ b (0:Int) fun g=>Þ a.2 g fun f=>Â (adN a f.1 b) fun c=>ifb (!c.2.2) (k (8:Int)) (ifb (ine c.1 f.1) (k (8:Int)) (ifb (ige c.2.1 0) (k (8:Int)) (k (0:Int)))))))
def CU (a:fy) (b:an):rF (Int):=RW a b some
def tU (b:b5) (c:a7) (d:Int) (e:Int) (f:Int) (g:c7) (h:bl) (i:dx) (j:b6) (k:bl) (l:b8) (a:Int) (m:Int->rF ρ) (n:Int->rF ρ) (o:Unit->rF ρ):rF ρ :=
  ifb (ilt a d) (Þ c a fun p=>Â (lY (((e,f),g,h,i,j,k),l) p) fun q=>Â (pA q) fun r=>Þ b a fun s=>Â (CU r.1 s) fun t=>ifb (ine t 0) (n (8:Int)) (ck (a+(1:Int)) fun u=>m u)) (o ())
def Rm (a:a8) (c:b5) (k:Int->rF ρ):rF ρ :=
  Â (Ģ a) fun d=>ifb (ine d 0) (k d) (Â (AC a) fun b=>ifb (ine (Ó c) (Ó b)) (k (8:Int)) (Ê (fun(e:Int) f=>tU c b (Ó b) a.1.1.1 a.1.1.2 a.1.2.1 a.1.2.2.1 a.1.2.2.2.1 a.1.2.2.2.2.1 a.1.2.2.2.2.2 a.2 e (fun g=>f g) (fun h=>k h) (fun _=>k (0:Int))) (0:Int)))
def sW (a:a8) (b:b5):rF (Int):=Rm a b some
def j7 (b:an) (c:an) (a:Int) (d:Int->rF ρ) (e:Bool->rF ρ) (f:Unit->rF ρ):rF ρ :=
  ifb (ilt a (Ó b)) (Þ b a fun g=>Þ c a fun h=>ifb (ine g h) (e false) (ck (a+(1:Int)) fun i=>d i)) (f ())
def FR (a:an) (b:an) (k:Bool->rF ρ):rF ρ :=
  ifb (ine (Ó a) (Ó b)) (k false) (Ê (fun(c:Int) d=>j7 a b c (fun e=>d e) (fun f=>k f) (fun _=>k true)) (0:Int))
def ĸ (a:an) (b:an):rF (Bool):=FR a b some
def yr (b:b5) (c:b5) (a:Int) (d:Int->rF ρ) (e:Bool->rF ρ) (f:Unit->rF ρ):rF ρ :=
  ifb (ilt a (Ó b)) (Þ b a fun g=>Þ c a fun h=>Â (ĸ g h) fun i=>ifb (!i) (e false) (ck (a+(1:Int)) fun j=>d j)) (f ())
def YH (a:b5) (b:b5) (k:Bool->rF ρ):rF ρ :=
  ifb (ine (Ó a) (Ó b)) (k false) (Ê (fun(c:Int) d=>yr a b c (fun e=>d e) (fun f=>k f) (fun _=>k true)) (0:Int))
def Ka (a:b5) (b:b5):rF (Bool):=YH a b some
def ER (k:Bool->rF ρ):rF ρ :=
  Â (iU ([])) fun m=>Â (adL m) fun b=>Â (iU ([])) fun n=>Â (aiK n) fun f=>Â (iU ([((8:Int),(15:Int),[(2:Int)],[(1:Int)],(100:Int),(1:Int),(0:Int),(0:Int))])) fun o=>Â (ZO o) fun g=>Â (iU ([((8:Int),(15:Int),[(2:Int)],[(1:Int)],(100:Int),(1:Int),(0:Int),(0:Int))])) fun p=>Â (UA p (2:Int) (15:Int)) fun c=>Â (iU ([((8:Int),(15:Int),[(2:Int)],[(1:Int)],(100:Int),(1:Int),(0:Int),(0:Int)),((9:Int),(15:Int),[(3:Int)],[],(1100:Int),(0:Int),(0:Int),(0:Int))])) fun a=>Â (adM a) fun h=>Â (J9 a ([(7:Int),(8:Int),(9:Int)])) fun i=>Â (G4 a (2:Int)) fun j=>ifb (ine b.2 0) (k false) (ifb (ine f.2 0) (k false) (ifb (ine g.2 0) (k false) (ifb (ine c.2 0) (k false) (ifb (ine h.2 0) (k false) (ifb (ine i.2 0) (k false) (ifb (ine j.2 0) (k false) (ifb (ine (Ó b.1) 2) (k false) (ifb (ine (Ó f.1) 2) (k false) (ifb j.1 (k false) (Â (ZN a) fun d=>Þ b.1 (1:Int) fun q=>Â (aiJ a q (2:Int) (13:Int)) fun l=>ifb (ine d.2 0) (k false) (ifb (ine l.2 0) (k false) (ifb (ine l.1 3) (k false) (Â (sW a d.1) fun r=>ifb (ine r 0) (k false) (Â (iU ([])) fun s=>Â (sW s d.1) fun t=>ifb (ine t 8) (k false) (Â (Ka g.1 ([[(3:Int),(2:Int)]])) fun u=>ifb u (ifb (ieq (Ó c.1) 1) (Þ c.1 (0:Int) fun e=>ifb ((iK e.1 (3:Int))&&((iK e.2.1 (1099:Int))&&((iK e.2.2 (1101:Int))&&true))) (Â (ĸ h.1 ([(8:Int),(9:Int)])) fun v=>ifb v (Â (ĸ i.1 ([(8:Int),(9:Int)])) fun w=>k w) (k false)) (k false)) (k false)) (k false))))))))))))))))
def vH:rF (Bool):=ER some
def Đ:rF (Bool):=some true
def vz (d:an) (e:Int) (a:ByteArray) (b:Int) (f:ByteArray->Int->rF ρ) (g:ByteArray->rF ρ):rF ρ :=
  ifb (ilt b e) (Þ d b fun h=>Â (jV h) fun c=>Ô (Î (ByteArray.size (ByteArray.mk #[32])+ByteArray.size c)) (Ô (Î (ByteArray.size a+ByteArray.size ((ByteArray.mk #[32])++c))) (ck (b+(1:Int)) fun i=>f (a++((ByteArray.mk #[32])++c)) i))) (g a)
def adp (c:ByteArray) (a:an) (k:ByteArray->rF ρ):rF ρ :=
  Ê (fun(b:ge) d=>vz a (Ó a) b.1 b.2 (fun e f=>d (e,f)) (fun g=>k g)) (c,(0:Int))
def lZ (a:ByteArray) (b:an):rF (ByteArray):=adp a b some
def sg (e:c7) (f:Int) (b:Int) (c:ey) (g:Int->ey->rF ρ) (h:ey->rF ρ):rF ρ :=
  ifb (ilt b f) (Þ e b fun a=>Â (lZ (ByteArray.mk #[103,97,117,103,101]) ([a.1,a.2.1,a.2.2.1,a.2.2.2.1.1,a.2.2.2.1.2,a.2.2.2.2.1.1,a.2.2.2.2.1.2,a.2.2.2.2.2])) fun d=>Ô (Î ((List.length c)+(List.length ([d])))) (ck (b+(1:Int)) fun i=>g i (c++([d])))) (h c)
def sf (e:bl) (f:Int) (a:Int) (b:ey) (g:Int->ey->rF ρ) (h:ey->rF ρ):rF ρ :=
  ifb (ilt a f) (Þ e a fun c=>Â (lZ (ByteArray.mk #[117,115,101]) ([c.1,c.2])) fun d=>Ô (Î ((List.length b)+(List.length ([d])))) (ck (a+(1:Int)) fun i=>g i (b++([d])))) (h b)
def se (e:dx) (f:Int) (b:Int) (c:ey) (g:Int->ey->rF ρ) (h:ey->rF ρ):rF ρ :=
  ifb (ilt b f) (Þ e b fun a=>Â (lZ (ByteArray.mk #[108,111,97,110]) ([a.1,a.2.1.1,a.2.1.2,a.2.2])) fun d=>Ô (Î ((List.length c)+(List.length ([d])))) (ck (b+(1:Int)) fun i=>g i (c++([d])))) (h c)
def sd (g:b6) (h:Int) (d:Int) (e:ey) (i:Int->ey->rF ρ) (j:ey->rF ρ):rF ρ :=
  ifb (ilt d h) (Þ g d fun a=>Â (lZ (ByteArray.mk #[99,111,109,112,97,114,101]) ([a.1,a.2.1,a.2.2.2.2.1,a.2.2.2.2.2.1,a.2.2.2.2.2.2.1,a.2.2.2.2.2.2.2])) fun b=>Â (lZ (ByteArray.mk #[32,97]) a.2.2.1) fun c=>Ô (Î (ByteArray.size b+ByteArray.size c)) (Â (lZ (ByteArray.mk #[32,98]) a.2.2.2.1) fun f=>Ô (Î (ByteArray.size (b++c)+ByteArray.size f)) (Ô (Î ((List.length e)+(List.length ([((b++c)++f)])))) (ck (d+(1:Int)) fun k=>i k (e++([((b++c)++f)])))))) (j e)
def sc (e:bl) (f:Int) (a:Int) (b:ey) (g:Int->ey->rF ρ) (h:ey->rF ρ):rF ρ :=
  ifb (ilt a f) (Þ e a fun c=>Â (lZ (ByteArray.mk #[108,111,111,107]) ([c.1,c.2])) fun d=>Ô (Î ((List.length b)+(List.length ([d])))) (ck (a+(1:Int)) fun i=>g i (b++([d])))) (h b)
def GA (a:bA) (k:ge->rF ρ):rF ρ :=
  Â (ē a) fun b=>ifb (ine b 0) (k ((ByteArray.mk #[]),b)) (Â (lZ (ByteArray.mk #[102,105,108,109]) ([a.1.1,a.1.2])) fun i=>Ê (fun(c:py) j=>sg a.2.1 (Ó a.2.1) c.1 c.2 (fun l m=>j (l,m)) (fun n=>Ê (fun(d:py) o=>sf a.2.2.1 (Ó a.2.2.1) d.1 d.2 (fun p q=>o (p,q)) (fun r=>Ê (fun(e:py) s=>se a.2.2.2.1 (Ó a.2.2.2.1) e.1 e.2 (fun t u=>s (t,u)) (fun v=>Ê (fun(f:py) w=>sd a.2.2.2.2.1 (Ó a.2.2.2.2.1) f.1 f.2 (fun x y=>w (x,y)) (fun z=>Ê (fun(g:py) A=>sc a.2.2.2.2.2 (Ó a.2.2.2.2.2) g.1 g.2 (fun B C=>A (B,C)) (fun D=>Â (sX D (ByteArray.mk #[10])) fun h=>Ô (Î (ByteArray.size h+ByteArray.size (ByteArray.mk #[10]))) (k ((h++(ByteArray.mk #[10])),(0:Int))))) ((0:Int),z))) ((0:Int),v))) ((0:Int),r))) ((0:Int),n))) ((0:Int),[i]))
def l6 (a:bA):rF (ge):=GA a some
def mY (d:an) (e:Int) (a:ByteArray) (b:Int) (f:ByteArray->Int->rF ρ) (g:ByteArray->rF ρ):rF ρ :=
  ifb (ilt b e) (Þ d b fun h=>Â (jV h) fun c=>Ô (Î (ByteArray.size (ByteArray.mk #[32])+ByteArray.size c)) (Ô (Î (ByteArray.size a+ByteArray.size ((ByteArray.mk #[32])++c))) (ck (b+(1:Int)) fun i=>f (a++((ByteArray.mk #[32])++c)) i))) (g a)
def mZ (g:b8) (h:Int) (a:ByteArray) (b:Int) (i:ByteArray->Int->rF ρ) (j:ByteArray->rF ρ):rF ρ :=
  ifb (ilt b h) (Þ g b fun c=>Â (jV c.1) fun d=>Ô (Î (ByteArray.size (ByteArray.mk #[109,105,120,32])+ByteArray.size d)) (Ô (Î (ByteArray.size a+ByteArray.size ((ByteArray.mk #[109,105,120,32])++d))) (Ê (fun(e:ge) k=>mY c.2 (Ó c.2) e.1 e.2 (fun l m=>k (l,m)) (fun f=>Ô (Î (ByteArray.size f+ByteArray.size (ByteArray.mk #[10]))) (ck (b+(1:Int)) fun n=>i (f++(ByteArray.mk #[10])) n))) ((a++((ByteArray.mk #[109,105,120,32])++d)),(0:Int))))) (j a)
def YE (a:a8) (k:ge->rF ρ):rF ρ :=
  Â (Ģ a) fun c=>ifb (ine c 0) (k ((ByteArray.mk #[]),c)) (Â (l6 a.1) fun b=>ifb (ine b.2 0) (k ((ByteArray.mk #[]),b.2)) (Ê (fun(d:ge) e=>mZ a.2 (Ó a.2) d.1 d.2 (fun f g=>e (f,g)) (fun h=>k (h,(0:Int)))) (b.1,(0:Int))))
def nQ (a:a8):rF (ge):=YE a some
def Α (b:ByteArray) (a:ByteArray) (k:Bool->rF ρ):rF ρ :=
  ifb (ige (HC (ByteArray.size b)) (HC (ByteArray.size a))) (Ô ((ile 0 (HC (ByteArray.size a)))&&(ile (HC (ByteArray.size a)) ((ByteArray.size b:Nat):Int))) (k ((ByteArray.extract b 0 (Int.toNat (HC (ByteArray.size a)))).toList==a.toList))) (k false)
def Ī (a:ByteArray) (b:ByteArray):rF (Bool):=Α a b some
def pS (a:ByteArray) (b:ByteArray) (k:Bool->rF ρ):rF ρ :=
  Â (Ī a b) fun c=>k c
def il (a:ByteArray) (b:ByteArray):rF (Bool):=pS a b some
def mM (e:ey) (f:Int) (b:Int) (a:an) (d:Int->an->rF ρ) (g:an->rF ρ):rF ρ :=
  ifb (ilt b f) (Þ e b fun h=>Â (ab7 h) fun c=>ifb c.2 (Ô (Î ((List.length a)+(List.length ([(0:Int)])))) (ck (b+(1:Int)) fun i=>d i (a++([(0:Int)])))) (Ô (Î ((List.length a)+(List.length ([c.1])))) (ck (b+(1:Int)) fun j=>d j (a++([c.1]))))) (g a)
def DQ (a:ey) (k:an->rF ρ):rF ρ :=
  Ê (fun(b:dy) c=>mM a (Ó a) b.1 b.2 (fun d e=>c (d,e)) (fun f=>k f)) ((0:Int),[])
def ľ (a:ey):rF (an):=DQ a some
def ny (b:ey) (d:ey) (e:Int) (a:Int) (f:Int->rF ρ) (g:lx->rF ρ) (h:Unit->rF ρ):rF ρ :=
  ifb (ilt a e) (Þ d a fun i=>ifb (i.toList==(ByteArray.mk #[98]).toList) (Ô ((ile 1 a)&&(ile a (ê b))) (Â (ľ (List.take (Int.toNat (a-(1:Int))) (List.drop 1 b))) fun j=>ck (a+(1:Int)) fun c=>Ô ((ile 0 c)&&(ile c (ê b))) (Â (ľ (List.drop (Int.toNat c) b)) fun k=>g (j,k)))) (ck (a+(1:Int)) fun l=>f l)) (h ())
def Zd (a:ey) (k:lx->rF ρ):rF ρ :=
  ifb (ieq (Ó a) 0) (k ([],[])) (Þ a (0:Int) fun c=>ifb (!(c.toList==(ByteArray.mk #[97]).toList)) (k ([],[])) (Ê (fun(d:Int) e=>ny a a (Ó a) d (fun f=>e f) (fun b=>k (b.1,b.2)) (fun _=>k ([],[]))) (0:Int)))
def Hf (a:ey):rF (lx):=Zd a some
def nJ (j:Int) (k:Int) (l:Int) (m:Int) (c:Int) (n:Int) (o:Int) (p:Int) (q:c7) (r:bl) (s:dx) (t:b6) (u:bl) (v:Int) (A:Int) (B:Int) (d:c7) (e:bl) (f:dx) (g:b6) (h:bl) (y:ByteArray) (w:Int->Int->c7->bl->dx->b6->bl->Int->Int->Int->c7->bl->dx->b6->bl->rF ρ) (i:Val aM->rF ρ):rF ρ :=
  Â (Η y (ByteArray.mk #[10])) fun r1=>Â (qv r1 (ByteArray.mk #[32])) fun a=>Þ a (0:Int) fun x=>ifb (aaP x (ByteArray.mk #[102,105,108,109])) (Ô (ile 1 (ê a)) (ifb (ilt (Ó (List.drop 1 a)) j) (i ((0:Int),(0:Int),[],[],[],[],[],(7:Int))) (Ô ((ile 0 j)&&(ile j (ê (List.drop 1 a)))) (Â (ľ (List.take (Int.toNat j) (List.drop 1 a))) fun E=>Ô ((ile 0 j)&&(ile j (ê (List.drop 1 a)))) (Þ E (0:Int) fun e5=>Þ E (1:Int) fun e6=>w o p q r s t u v e5 e6 d e f g h))))) (ifb (aaP x (ByteArray.mk #[103,97,117,103,101])) (Ô (ile 1 (ê a)) (ifb (ilt (Ó (List.drop 1 a)) k) (i ((0:Int),(0:Int),[],[],[],[],[],(7:Int))) (Ô ((ile 0 k)&&(ile k (ê (List.drop 1 a)))) (Â (ľ (List.take (Int.toNat k) (List.drop 1 a))) fun b=>Ô ((ile 0 k)&&(ile k (ê (List.drop 1 a)))) (Þ b (0:Int) fun F=>Þ b (1:Int) fun G=>Þ b (2:Int) fun H=>Þ b (3:Int) fun I=>Þ b (4:Int) fun J=>Þ b (5:Int) fun K=>Þ b (6:Int) fun L=>Þ b (7:Int) fun M=>Ô (Î ((List.length d)+(List.length ([(F,G,H,(I,J),(K,L),M)])))) (w o p q r s t u v A B (d++([(F,G,H,(I,J),(K,L),M)])) e f g h)))))) (ifb (aaP x (ByteArray.mk #[117,115,101])) (Ô (ile 1 (ê a)) (ifb (ilt (Ó (List.drop 1 a)) l) (i ((0:Int),(0:Int),[],[],[],[],[],(7:Int))) (Ô ((ile 0 l)&&(ile l (ê (List.drop 1 a)))) (Â (ľ (List.take (Int.toNat l) (List.drop 1 a))) fun N=>Ô ((ile 0 l)&&(ile l (ê (List.drop 1 a)))) (Þ N (0:Int) fun O=>Þ N (1:Int) fun P=>Ô (Î ((List.length e)+(List.length ([(O,P)])))) (w o p q r s t u v A B d (e++([(O,P)])) f g h)))))) (ifb (aaP x (ByteArray.mk #[108,111,97,110])) (Ô (ile 1 (ê a)) (ifb (ilt (Ó (List.drop 1 a)) m) (i ((0:Int),(0:Int),[],[],[],[],[],(7:Int))) (Ô ((ile 0 m)&&(ile m (ê (List.drop 1 a)))) (Â (ľ (List.take (Int.toNat m) (List.drop 1 a))) fun C=>Ô ((ile 0 m)&&(ile m (ê (List.drop 1 a)))) (Þ C (0:Int) fun Q=>Þ C (1:Int) fun R=>Þ C (2:Int) fun S=>Þ C (3:Int) fun T=>Ô (Î ((List.length f)+(List.length ([(Q,(R,S),T)])))) (w o p q r s t u v A B d e (f++([(Q,(R,S),T)])) g h)))))) (ifb (aaP x (ByteArray.mk #[99,111,109,112,97,114,101])) (Ô (ile 1 (ê a)) (ifb (ilt (Ó (List.drop 1 a)) c) (i ((0:Int),(0:Int),[],[],[],[],[],(7:Int))) (Ô ((ile 0 c)&&(ile c (ê (List.drop 1 a)))) (Â (ľ (List.take (Int.toNat c) (List.drop 1 a))) fun z=>Ô ((ile 0 c)&&(ile c (ê (List.drop 1 a)))) (Þ z (0:Int) fun U=>Þ z (1:Int) fun V=>Þ z (2:Int) fun W=>Þ z (3:Int) fun X=>Þ z (4:Int) fun Y=>Þ z (5:Int) fun Z=>Â (Hf (List.drop (Int.toNat c) (List.drop 1 a))) fun D=>Ô (Î ((List.length g)+(List.length ([(U,V,D.1,D.2,W,X,Y,Z)])))) (w o p q r s t u v A B d e f (g++([(U,V,D.1,D.2,W,X,Y,Z)])) h)))))) (ifb (aaP x (ByteArray.mk #[108,111,111,107])) (Ô (ile 1 (ê a)) (ifb (ilt (Ó (List.drop 1 a)) n) (i ((0:Int),(0:Int),[],[],[],[],[],(7:Int))) (Ô ((ile 0 n)&&(ile n (ê (List.drop 1 a)))) (Â (ľ (List.take (Int.toNat n) (List.drop 1 a))) fun dt=>Ô ((ile 0 n)&&(ile n (ê (List.drop 1 a)))) (Þ dt (0:Int) fun du=>Þ dt (1:Int) fun dv=>Ô (Î ((List.length h)+(List.length ([(du,dv)])))) (w o p q r s t u v A B d e f g (h++([(du,dv)])))))))) (i ((0:Int),(0:Int),[],[],[],[],[],(7:Int))))))))
def ŗ (a:Int) (b:Int) (c:Int) (d:Int) (e:Int) (f:Int) (v:rn) (y:ByteArray):rF (Sum rn (Val aM)):=nJ a b c d e f v.1 v.2.1 v.2.2.1 v.2.2.2.1 v.2.2.2.2.1 v.2.2.2.2.2.1 v.2.2.2.2.2.2.1 v.2.2.2.2.2.2.2.1 v.2.2.2.2.2.2.2.2.1 v.2.2.2.2.2.2.2.2.2.1 v.2.2.2.2.2.2.2.2.2.2.1 v.2.2.2.2.2.2.2.2.2.2.2.1 v.2.2.2.2.2.2.2.2.2.2.2.2.1 v.2.2.2.2.2.2.2.2.2.2.2.2.2.1 v.2.2.2.2.2.2.2.2.2.2.2.2.2.2 y (fun g h i j k l m n o p q r s t u=>some (.inl (g,h,i,j,k,l,m,n,o,p,q,r,s,t,u))) (fun z=>some (.inr z))
def PB (c:ByteArray) (k:rd->rF ρ):rF ρ :=
  Ô (Î (ByteArray.size c)&&true) (runX (ŗ (2:Int) (8:Int) (2:Int) (4:Int) (6:Int) (2:Int)) (kO c) ((0:Int),(0:Int),[],[],[],[],[],(0:Int),(0:Int),(0:Int),[],[],[],[],[]) (fun b=>Â (l6 ((b.2.2.2.2.2.2.2.2.1,b.2.2.2.2.2.2.2.2.2.1),b.2.2.2.2.2.2.2.2.2.2)) fun d=>ifb (ine d.2 0) (k ((((0:Int),(0:Int)),[],[],[],[],[]),(7:Int))) (ifb (!(d.1.toList==c.toList)) (k ((((0:Int),(0:Int)),[],[],[],[],[]),(7:Int))) (k (((b.2.2.2.2.2.2.2.2.1,b.2.2.2.2.2.2.2.2.2.1),b.2.2.2.2.2.2.2.2.2.2),(0:Int))))) (fun a=>k (((a.1,a.2.1),a.2.2.1,a.2.2.2.1,a.2.2.2.2.1,a.2.2.2.2.2.1,a.2.2.2.2.2.2.1),a.2.2.2.2.2.2.2)))
def qz (a:ByteArray):rF (rd):=PB a some
def kD (p:Int) (o:ey) (a:Int) (c:Int) (d:Int) (e:c7) (f:bl) (g:dx) (h:b6) (i:bl) (j:b8) (k:Int) (l:Int) (b:an) (n:Int->Int->Int->c7->bl->dx->b6->bl->b8->Int->Int->an->rF ρ) (q:Val aO->rF ρ) (r:Val aO->rF ρ):rF ρ :=
  ifb (ilt a p) (Ô ((ile 0 a)&&(ilt a (ê o))) (ě o (Int.toNat a) fun s=>Â (ab7 s) fun m=>ifb (ieq a 0) (ck (a+(1:Int)) fun t=>n t c d e f g h i j k l b) (ifb m.2 (q ((0:Int),(0:Int),[],[],[],[],[],[],(7:Int),l,b)) (ifb (ieq a 1) (ck (a+(1:Int)) fun u=>n u c d e f g h i j k m.1 b) (Ô (Î ((List.length b)+(List.length ([m.1])))) (ck (a+(1:Int)) fun v=>n v c d e f g h i j k l (b++([m.1])))))))) (r (c,d,e,f,g,h,i,j,k,l,b))
def yk (f:Int) (g:Int) (h:c7) (i:bl) (j:dx) (k:b6) (l:bl) (m:b8) (n:Int) (d:b8) (y:ByteArray) (o:Int->Int->c7->bl->dx->b6->bl->b8->Int->b8->rF ρ) (p:Val aH->rF ρ):rF ρ :=
  Â (Η y (ByteArray.mk #[10])) fun q=>Â (Bp q (ByteArray.mk #[32])) fun e=>Ê (fun(a:(Val (.pair tI aO))) r=>kD (Ó e) e a.1 a.2.1 a.2.2.1 a.2.2.2.1 a.2.2.2.2.1 a.2.2.2.2.2.1 a.2.2.2.2.2.2.1 a.2.2.2.2.2.2.2.1 a.2.2.2.2.2.2.2.2.1 a.2.2.2.2.2.2.2.2.2.1 a.2.2.2.2.2.2.2.2.2.2.1 a.2.2.2.2.2.2.2.2.2.2.2 (fun s t u v w x z A B C D E=>r (s,t,u,v,w,x,z,A,B,C,D,E)) (fun c=>p (c.1,c.2.1,c.2.2.1,c.2.2.2.1,c.2.2.2.2.1,c.2.2.2.2.2.1,c.2.2.2.2.2.2.1,c.2.2.2.2.2.2.2.1,c.2.2.2.2.2.2.2.2.1)) (fun b=>Ô (Î ((List.length d)+(List.length ([b.2.2.2.2.2.2.2.2.2])))) (o b.1 b.2.1 b.2.2.1 b.2.2.2.1 b.2.2.2.2.1 b.2.2.2.2.2.1 b.2.2.2.2.2.2.1 b.2.2.2.2.2.2.2.1 b.2.2.2.2.2.2.2.2.1 (d++([b.2.2.2.2.2.2.2.2.2]))))) ((0:Int),f,g,h,i,j,k,l,m,n,(0:Int),[])
def č (v:Val aw) (y:ByteArray) (a:Val aw->rF ρ) (b:Val aH->rF ρ):rF ρ:=yk v.1 v.2.1 v.2.2.1 v.2.2.2.1 v.2.2.2.2.1 v.2.2.2.2.2.1 v.2.2.2.2.2.2.1 v.2.2.2.2.2.2.2.1 v.2.2.2.2.2.2.2.2.1 v.2.2.2.2.2.2.2.2.2 y (fun c d e f g h i j k l=>a (c,d,e,f,g,h,i,j,k,l)) b
def NN (a:ByteArray) (k:Val bw->rF ρ):rF ρ :=
  Â (il a (ByteArray.mk #[109,105,120,32])) fun r=>ifb r (Â (qz (ByteArray.mk #[])) fun f=>ifb (ine f.2 0) (k (((((0:Int),(0:Int)),[],[],[],[],[]),[]),(7:Int))) (Ô (Î (ByteArray.size a)&&true) (aaz (č) (kO a) ((0:Int),(0:Int),[],[],[],[],[],[],(0:Int),[]) (fun l=>Â (nQ (f.1,l.2.2.2.2.2.2.2.2.2)) fun m=>ifb (ine m.2 0) (k (((((0:Int),(0:Int)),[],[],[],[],[]),[]),(7:Int))) (ifb (!(m.1.toList==a.toList)) (k (((((0:Int),(0:Int)),[],[],[],[],[]),[]),(7:Int))) (k ((f.1,l.2.2.2.2.2.2.2.2.2),(0:Int))))) (fun b=>k ((((b.1,b.2.1),b.2.2.1,b.2.2.2.1,b.2.2.2.2.1,b.2.2.2.2.2.1,b.2.2.2.2.2.2.1),b.2.2.2.2.2.2.2.1),b.2.2.2.2.2.2.2.2))))) (Â (zG a (ByteArray.mk #[10,109,105,120,32])) fun g=>ifb (ige g 0) (ck (g+(1:Int)) fun h=>Ô ((ile 0 h)&&(ile h ((ByteArray.size a:Nat):Int))) (ck (g+(1:Int)) fun e=>Ô ((ile 0 e)&&(ile e ((ByteArray.size a:Nat):Int))) (Â (qz (ByteArray.extract a 0 (Int.toNat h))) fun i=>ifb (ine i.2 0) (k (((((0:Int),(0:Int)),[],[],[],[],[]),[]),(7:Int))) (Ô (Î (ByteArray.size (ByteArray.extract a (Int.toNat e) (ByteArray.size a)))&&true) (aaz (č) (kO (ByteArray.extract a (Int.toNat e) (ByteArray.size a))) ((0:Int),(0:Int),[],[],[],[],[],[],(0:Int),[]) (fun n=>Â (nQ (i.1,n.2.2.2.2.2.2.2.2.2)) fun o=>ifb (ine o.2 0) (k (((((0:Int),(0:Int)),[],[],[],[],[]),[]),(7:Int))) (ifb (!(o.1.toList==a.toList)) (k (((((0:Int),(0:Int)),[],[],[],[],[]),[]),(7:Int))) (k ((i.1,n.2.2.2.2.2.2.2.2.2),(0:Int))))) (fun c=>k ((((c.1,c.2.1),c.2.2.1,c.2.2.2.1,c.2.2.2.2.1,c.2.2.2.2.2.1,c.2.2.2.2.2.2.1),c.2.2.2.2.2.2.2.1),c.2.2.2.2.2.2.2.2))))))) (Â (qz a) fun j=>ifb (ine j.2 0) (k (((((0:Int),(0:Int)),[],[],[],[],[]),[]),(7:Int))) (Ô (Î (ByteArray.size (ByteArray.mk #[]))&&true) (aaz (č) (kO (ByteArray.mk #[])) ((0:Int),(0:Int),[],[],[],[],[],[],(0:Int),[]) (fun p=>Â (nQ (j.1,p.2.2.2.2.2.2.2.2.2)) fun q=>ifb (ine q.2 0) (k (((((0:Int),(0:Int)),[],[],[],[],[]),[]),(7:Int))) (ifb (!(q.1.toList==a.toList)) (k (((((0:Int),(0:Int)),[],[],[],[],[]),[]),(7:Int))) (k ((j.1,p.2.2.2.2.2.2.2.2.2),(0:Int))))) (fun d=>k ((((d.1,d.2.1),d.2.2.1,d.2.2.2.1,d.2.2.2.2.1,d.2.2.2.2.2.1,d.2.2.2.2.2.2.1),d.2.2.2.2.2.2.2.1),d.2.2.2.2.2.2.2.2))))))
def G5 (a:ByteArray):rF ((Val bw)):=NN a some
def wE (a:fx) (b:fx) (k:Bool->rF ρ):rF ρ :=
  Â (ĸ a.2.2.1 b.2.2.1) fun c=>Â (ĸ a.2.2.2.1 b.2.2.2.1) fun d=>ifb c (ifb d (ifb (ieq a.1 b.1) (ifb (ieq a.2.1 b.2.1) (ifb (ieq a.2.2.2.2.1 b.2.2.2.2.1) (ifb (ieq a.2.2.2.2.2.1 b.2.2.2.2.2.1) (k ((iK a.2.2.2.2.2.2.1 b.2.2.2.2.2.2.1)&&((iK a.2.2.2.2.2.2.2 b.2.2.2.2.2.2.2)&&true))) (k false)) (k false)) (k false)) (k false)) (k false)) (k false)
def kd (a:fx) (b:fx):rF (Bool):=wE a b some
def jh (b:bl) (e:bl) (a:Int) (f:Int->rF ρ) (g:Bool->rF ρ) (h:Unit->rF ρ):rF ρ :=
  ifb (ilt a (Ó b)) (Þ b a fun c=>Þ e a fun d=>ifb (!((iK c.1 d.1)&&((iK c.2 d.2)&&true))) (g false) (ck (a+(1:Int)) fun i=>f i)) (h ())
def Cd (a:bl) (b:bl) (k:Bool->rF ρ):rF ρ :=
  ifb (ine (Ó a) (Ó b)) (k false) (Ê (fun(c:Int) d=>jh a b c (fun e=>d e) (fun f=>k f) (fun _=>k true)) (0:Int))
def jW (a:bl) (b:bl):rF (Bool):=Cd a b some
def rO (d:c7) (e:c7) (c:Int) (f:Int->rF ρ) (g:Bool->rF ρ) (h:Unit->rF ρ):rF ρ :=
  ifb (ilt c (Ó d)) (Þ d c fun a=>Þ e c fun b=>ifb (!((iK a.1 b.1)&&((iK a.2.1 b.2.1)&&((iK a.2.2.1 b.2.2.1)&&((iK a.2.2.2.1.1 b.2.2.2.1.1)&&((iK a.2.2.2.1.2 b.2.2.2.1.2)&&((iK a.2.2.2.2.1.1 b.2.2.2.2.1.1)&&((iK a.2.2.2.2.1.2 b.2.2.2.2.1.2)&&((iK a.2.2.2.2.2 b.2.2.2.2.2)&&true))))))))) (g false) (ck (c+(1:Int)) fun i=>f i)) (h ())
def rN (b:bl) (e:bl) (a:Int) (f:Int->rF ρ) (g:Bool->rF ρ) (h:Unit->rF ρ):rF ρ :=
  ifb (ilt a (Ó b)) (Þ b a fun c=>Þ e a fun d=>ifb (!((iK c.1 d.1)&&((iK c.2 d.2)&&true))) (g false) (ck (a+(1:Int)) fun i=>f i)) (h ())
def rM (d:dx) (e:dx) (a:Int) (f:Int->rF ρ) (g:Bool->rF ρ) (h:Unit->rF ρ):rF ρ :=
  ifb (ilt a (Ó d)) (Þ d a fun b=>Þ e a fun c=>ifb (!((iK b.1 c.1)&&((iK b.2.1.1 c.2.1.1)&&((iK b.2.1.2 c.2.1.2)&&((iK b.2.2 c.2.2)&&true))))) (g false) (ck (a+(1:Int)) fun i=>f i)) (h ())
def rL (b:b6) (c:b6) (a:Int) (d:Int->rF ρ) (e:Bool->rF ρ) (f:Unit->rF ρ):rF ρ :=
  ifb (ilt a (Ó b)) (Þ b a fun g=>Þ c a fun h=>Â (kd g h) fun i=>ifb (!i) (e false) (ck (a+(1:Int)) fun j=>d j)) (f ())
def YS (a:bA) (b:bA) (k:Bool->rF ρ):rF ρ :=
  ifb (!((iK a.1.1 b.1.1)&&((iK a.1.2 b.1.2)&&true))) (k false) (ifb (ine (Ó a.2.1) (Ó b.2.1)) (k false) (ifb (ine (Ó a.2.2.1) (Ó b.2.2.1)) (k false) (ifb (ine (Ó a.2.2.2.1) (Ó b.2.2.2.1)) (k false) (ifb (ine (Ó a.2.2.2.2.1) (Ó b.2.2.2.2.1)) (k false) (Ê (fun(c:Int) d=>rO a.2.1 b.2.1 c (fun e=>d e) (fun f=>k f) (fun _=>Ê (fun(g:Int) h=>rN a.2.2.1 b.2.2.1 g (fun i=>h i) (fun j=>k j) (fun _=>Ê (fun(l:Int) m=>rM a.2.2.2.1 b.2.2.2.1 l (fun n=>m n) (fun o=>k o) (fun _=>Ê (fun(p:Int) q=>rL a.2.2.2.2.1 b.2.2.2.2.1 p (fun r=>q r) (fun s=>k s) (fun _=>Â (jW a.2.2.2.2.2 b.2.2.2.2.2) fun t=>k t)) (0:Int))) (0:Int))) (0:Int))) (0:Int))))))
def G9 (a:bA) (b:bA):rF (Bool):=YS a b some
def rB (b:b8) (c:b8) (a:Int) (e:Int->rF ρ) (d:Bool->rF ρ) (f:Unit->rF ρ):rF ρ :=
  ifb (ilt a (Ó b)) (Þ b a fun g=>Þ c a fun h=>Â (ĸ g.2 h.2) fun i=>ifb (!i) (d false) (Þ b a fun j=>Þ c a fun k=>ifb (ine j.1 k.1) (d false) (ck (a+(1:Int)) fun l=>e l))) (f ())
def YI (a:a8) (b:a8) (k:Bool->rF ρ):rF ρ :=
  Â (G9 a.1 b.1) fun c=>ifb (!c) (k false) (ifb (ine (Ó a.2) (Ó b.2)) (k false) (Ê (fun(d:Int) e=>rB a.2 b.2 d (fun f=>e f) (fun g=>k g) (fun _=>k true)) (0:Int)))
def đ (a:a8) (b:a8):rF (Bool):=YI a b some
def JI (a:bx) (b:Int) (c:Int) (k:Bool->rF ρ):rF ρ :=
  ifb (ile b a.1) (ifb (ile a.1 a.2) (k (ile a.2 c)) (k false)) (k false)
def iX (a:bx) (b:Int) (c:Int):rF (Bool):=JI a b c some
def ahG (a:Int) (b:Int) (c:Int) (k:Bool->rF ρ):rF ρ :=
  ifb (ige a b) (k (ile a c)) (k false)
def jL (a:Int) (b:Int) (c:Int):rF (Bool):=ahG a b c some
def adc (a:Int) (k:Bool->rF ρ):rF ρ :=
  Â (jL a (0:Int) (20000:Int)) fun b=>k b
def vJ (a:Int):rF (Bool):=adc a some
def vx (b:Int) (a:Int) (c:Int->Int->rF ρ) (d:Int->rF ρ):rF ρ :=
  ifb (ine a 0) (ifb (iK a 0) (none) (c a (Int.tmod b a))) (d b)
def adh (b:Int) (c:Int) (k:Int->rF ρ):rF ρ :=
  Ê (fun(a:bx) d=>vx a.1 a.2 (fun e f=>d (e,f)) (fun g=>k g)) (b,c)
def AO (a:Int) (b:Int):rF (Int):=adh a b some
def adj (a:Int) (k:Int->rF ρ):rF ρ :=
  ifb (ilt a 0) (ck ((0:Int)-a) fun b=>k b) (k a)
def Hc (a:Int):rF (Int):=adj a some
def TZ (a:bx) (k:Bool->rF ρ):rF ρ :=
  ifb (ilt a.2 1) (k false) (ifb (igt a.2 2147483647) (k false) (ifb (ilt a.1 (-2147483647:Int)) (k false) (ifb (igt a.1 2147483647) (k false) (Â (Hc a.1) fun b=>Â (AO b a.2) fun c=>k (ieq c 1)))))
def AK (a:bx):rF (Bool):=TZ a some
def TQ (a:kf) (k:Bool->rF ρ):rF ρ :=
  Â (AK a.2.2.2.2.1) fun b=>ifb (!b) (k false) (Â (jL a.2.2.2.2.1.1 (-1000:Int) (1000:Int)) fun c=>ifb (!c) (k false) (ifb (igt a.2.2.2.2.1.2 100) (k false) (Â (jL a.1 (1:Int) (1099511627776:Int)) fun d=>ifb d (Â (vJ a.2.1) fun e=>ifb e (Â (jL a.2.2.1 (1:Int) (1125899906842624:Int)) fun f=>ifb f (Â (iX a.2.2.2.1 (-1073741824:Int) (1073741824:Int)) fun g=>ifb g (Â (jL a.2.2.2.2.2 (0:Int) (1048576:Int)) fun h=>k h) (k false)) (k false)) (k false)) (k false))))
def AH (a:kf):rF (Bool):=TQ a some
def rV (c:Int) (b:c7) (a:Int) (d:Int->rF ρ) (e:Int->rF ρ) (f:Unit->rF ρ):rF ρ :=
  ifb (ilt a (Ó b)) (Þ b a fun g=>ifb (ieq g.1 c) (e a) (ck (a+(1:Int)) fun h=>d h)) (f ())
def YX (a:bA) (b:Int) (k:Int->rF ρ):rF ρ :=
  Ê (fun(c:Int) d=>rV b a.2.1 c (fun e=>d e) (fun f=>k f) (fun _=>k (-1:Int))) (0:Int)
def jY (a:bA) (b:Int):rF (Int):=YX a b some
def TS (a:bA) (c:Int) (d:Int) (k:Int->rF ρ):rF ρ :=
  Â (jY a c) fun b=>ifb (ilt b 0) (k (5:Int)) (Þ a.2.1 b fun e=>ifb (ilt d e.2.1) (k (4:Int)) (k (0:Int)))
def iE (a:bA) (b:Int) (c:Int):rF (Int):=TS a b c some
def rC (e:Int) (f:Int) (g:c7) (a:bl) (h:dx) (i:b6) (j:bl) (b:Int) (k:Int->rF ρ) (c:Int->rF ρ) (l:Unit->rF ρ):rF ρ :=
  ifb (ilt b (Ó a)) (Þ a b fun m=>Â (vJ m.2) fun n=>ifb (!n) (c (1:Int)) (Þ a b fun o=>Þ a b fun p=>Â (iE ((e,f),g,a,h,i,j) o.1 p.2) fun d=>ifb (ine d 0) (c d) (ck (b+(1:Int)) fun q=>k q))) (l ())
def YJ (a:bA) (k:Int->rF ρ):rF ρ :=
  Ê (fun(b:Int) c=>rC a.1.1 a.1.2 a.2.1 a.2.2.1 a.2.2.2.1 a.2.2.2.2.1 a.2.2.2.2.2 b (fun d=>c d) (fun e=>k e) (fun _=>k (0:Int))) (0:Int)
def G6 (a:bA):rF (Int):=YJ a some
def oG (d:Int) (b:dx) (e:Int) (f:Int) (g:Int) (a:Int) (c:Int->rF ρ) (h:Int->rF ρ) (i:Unit->rF ρ):rF ρ :=
  ifb (ilt a d) (Þ b a fun j=>ifb (ieq j.1 e) (Þ b a fun k=>ifb (ile k.2.1.1 g) (Þ b a fun l=>ifb (ile f l.2.1.2) (h (9:Int)) (ck (a+(1:Int)) fun m=>c m)) (ck (a+(1:Int)) fun n=>c n)) (ck (a+(1:Int)) fun o=>c o)) (i ())
def lP (b:bl) (d:Int) (e:Int) (f:Int) (a:Int) (c:Int->rF ρ) (g:Int->rF ρ) (h:Unit->rF ρ):rF ρ :=
  ifb (ilt a (Ó b)) (Þ b a fun i=>ifb (ieq i.1 d) (Þ b a fun j=>Â (jL j.2 e f) fun k=>ifb k (g (9:Int)) (ck (a+(1:Int)) fun l=>c l)) (ck (a+(1:Int)) fun m=>c m)) (h ())
def oH (g:Int) (h:Int) (i:c7) (e:bl) (c:dx) (j:b6) (k:bl) (d:Int) (l:Int->rF ρ) (b:Int->rF ρ) (m:Unit->rF ρ):rF ρ :=
  ifb (ilt d (Ó c)) (Þ c d fun a=>Â (iX a.2.1 (0:Int) (20000:Int)) fun n=>ifb (!n) (b (1:Int)) (Â (jL a.2.2 (0:Int) (1048576:Int)) fun o=>ifb (!o) (b (1:Int)) (Â (iE ((g,h),i,e,c,j,k) a.1 a.2.1.1) fun f=>ifb (ine f 0) (b f) (Ê (fun(p:Int) q=>oG d c a.1 a.2.1.1 a.2.1.2 p (fun r=>q r) (fun s=>b s) (fun _=>Ê (fun(t:Int) u=>lP e a.1 a.2.1.1 a.2.1.2 t (fun v=>u v) (fun w=>b w) (fun _=>ck (d+(1:Int)) fun x=>l x)) (0:Int))) (0:Int))))) (m ())
def TO (a:bA) (k:Int->rF ρ):rF ρ :=
  Ê (fun(b:Int) c=>oH a.1.1 a.1.2 a.2.1 a.2.2.1 a.2.2.2.1 a.2.2.2.2.1 a.2.2.2.2.2 b (fun d=>c d) (fun e=>k e) (fun _=>k (0:Int))) (0:Int)
def AG (a:bA):rF (Int):=TO a some
def rQ (b:an) (a:Int) (c:Int->rF ρ) (d:Bool->rF ρ) (e:Unit->rF ρ):rF ρ :=
  ifb (ilt a (Ó b)) (Þ b a fun f=>Â (jL f (1:Int) (1099511627776:Int)) fun g=>ifb (!g) (d false) (ifb (igt a 0) (Þ b a fun h=>ck (a-(1:Int)) fun i=>Þ b i fun j=>ifb (ile h j) (d false) (ck (a+(1:Int)) fun k=>c k)) (ck (a+(1:Int)) fun l=>c l))) (e ())
def YT (a:an) (k:Bool->rF ρ):rF ρ :=
  Ê (fun(b:Int) c=>rQ a b (fun d=>c d) (fun e=>k e) (fun _=>k (ile (Ó a) 6))) (0:Int)
def zH (a:an):rF (Bool):=YT a some
def TM (a:fx) (k:Bool->rF ρ):rF ρ :=
  Â (zH a.2.2.1) fun b=>Â (zH a.2.2.2.1) fun c=>ifb b (ifb c (Â (jL a.1 (1:Int) (1099511627776:Int)) fun d=>ifb d (Â (vJ a.2.1) fun e=>ifb e (Â (jL a.2.2.2.2.1 (-1125899906842624:Int) (1125899906842624:Int)) fun f=>ifb f (Â (jL a.2.2.2.2.2.1 (0:Int) (1073741824:Int)) fun g=>ifb g (Â (iX a.2.2.2.2.2.2 (-10000:Int) (10000:Int)) fun h=>k h) (k false)) (k false)) (k false)) (k false)) (k false)) (k false)
def AE (a:fx):rF (Bool):=TM a some
def rS (j:Int) (h:Int) (i:dx) (b:Int) (c:Int) (d:Int) (e:Int) (f:Int) (g:Int->Int->Int->Int->Int->rF ρ) (k:(Val (.pair .bool bE))->rF ρ) (l:Val bE->rF ρ):rF ρ :=
  ifb (ilt b (Ó i)) (Þ i b fun a=>ifb (ieq a.1 j) (ifb (ile a.2.1.1 h) (ifb (ile h a.2.1.2) (k (true,a.1,a.2.1.1,a.2.1.2,a.2.2)) (ck (b+(1:Int)) fun m=>g m c d e f)) (ck (b+(1:Int)) fun n=>g n c d e f)) (ck (b+(1:Int)) fun o=>g o c d e f)) (l (c,d,e,f))
def YV (c:bA) (d:Int) (e:Int) (k:ld->rF ρ):rF ρ :=
  Ê (fun(a:(Val (.pair tI bE))) f=>rS d e c.2.2.2.1 a.1 a.2.1 a.2.2.1 a.2.2.2.1 a.2.2.2.2 (fun g h i j l=>f (g,h,i,j,l)) (fun b=>k ((b.2.1,(b.2.2.1,b.2.2.2.1),b.2.2.2.2),b.1)) (fun m=>k (((0:Int),((0:Int),(0:Int)),(0:Int)),false))) ((0:Int),(0:Int),(0:Int),(0:Int),(0:Int))
def iY (a:bA) (b:Int) (c:Int):rF (ld):=YV a b c some
def vw (b:an) (c:Int) (a:Int) (d:Int->rF ρ) (e:Bool->rF ρ) (f:Unit->rF ρ):rF ρ :=
  ifb (ilt a (Ó b)) (Þ b a fun g=>ifb (ieq g c) (e true) (ck (a+(1:Int)) fun h=>d h)) (f ())
def adb (a:an) (b:Int) (k:Bool->rF ρ):rF ρ :=
  Ê (fun(c:Int) d=>vw a b c (fun e=>d e) (fun f=>k f) (fun _=>k false)) (0:Int)
def Mb (a:an) (b:Int):rF (Bool):=adb a b some
def rU (c:an) (f:an) (a:Int) (b:an) (d:Int->an->rF ρ) (g:an->rF ρ):rF ρ :=
  ifb (ilt a (Ó c)) (Þ c a fun h=>Â (Mb f h) fun i=>ifb (!i) (Þ c a fun e=>Ô (Î ((List.length b)+(List.length ([e])))) (ck (a+(1:Int)) fun j=>d j (b++([e])))) (ck (a+(1:Int)) fun k=>d k b)) (g b)
def YW (b:an) (c:an) (k:an->rF ρ):rF ρ :=
  Ê (fun(a:dy) d=>rU b c a.1 a.2 (fun e f=>d (e,f)) (fun g=>k g)) ((0:Int),[])
def jX (a:an) (b:an):rF (an):=YW a b some
def j6 (c:Int) (d:Int) (e:c7) (f:bl) (g:dx) (h:b6) (i:bl) (b:an) (a:Int) (j:Int->rF ρ) (k:Int->rF ρ) (l:Unit->rF ρ):rF ρ :=
  ifb (ilt a (Ó b)) (Ô ((ile 0 a)&&(ilt a (ê b))) (ě b (Int.toNat a) fun m=>Â (jY ((c,d),e,f,g,h,i) m) fun n=>ifb (ilt n 0) (k (5:Int)) (ck (a+(1:Int)) fun o=>j o))) (l ())
def iv (c:Int) (d:Int) (e:c7) (f:bl) (g:dx) (h:b6) (i:bl) (j:Int) (b:an) (a:Int) (k:Int->rF ρ) (l:Int->rF ρ) (m:Unit->rF ρ):rF ρ :=
  ifb (ilt a (Ó b)) (Ô ((ile 0 a)&&(ilt a (ê b))) (ě b (Int.toNat a) fun n=>Â (iE ((c,d),e,f,g,h,i) n j) fun o=>ifb (ine o 0) (l (4:Int)) (ck (a+(1:Int)) fun p=>k p))) (m ())
def ŧ (c:Int) (d:Int) (e:c7) (f:bl) (g:dx) (h:b6) (i:bl) (j:Int) (b:an) (a:Int) (k:Int->rF ρ) (l:Int->rF ρ) (m:Unit->rF ρ):rF ρ :=
  ifb (ilt a (Ó b)) (Ô ((ile 0 a)&&(ilt a (ê b))) (ě b (Int.toNat a) fun n=>Â (iY ((c,d),e,f,g,h,i) n j) fun o=>ifb o.2 (l (9:Int)) (ck (a+(1:Int)) fun p=>k p))) (m ())
def vr (a:bA) (b:fx) (k:Int->rF ρ):rF ρ :=
  Ô (Î (0+(List.length b.2.2.1))) (Ô (Î ((List.length (([])++b.2.2.1))+(List.length b.2.2.2.1))) (Ê (fun(e:Int) f=>j6 a.1.1 a.1.2 a.2.1 a.2.2.1 a.2.2.2.1 a.2.2.2.2.1 a.2.2.2.2.2 ((([])++b.2.2.1)++b.2.2.2.1) e (fun g=>f g) (fun h=>k h) (fun _=>Ê (fun(i:Int) j=>iv a.1.1 a.1.2 a.2.1 a.2.2.1 a.2.2.2.1 a.2.2.2.2.1 a.2.2.2.2.2 b.2.1 ((([])++b.2.2.1)++b.2.2.2.1) i (fun l=>j l) (fun m=>k m) (fun _=>Ê (fun(n:Int) o=>ŧ a.1.1 a.1.2 a.2.1 a.2.2.1 a.2.2.2.1 a.2.2.2.2.1 a.2.2.2.2.2 b.2.1 ((([])++b.2.2.1)++b.2.2.2.1) n (fun p=>o p) (fun q=>k q) (fun _=>Â (jX b.2.2.1 b.2.2.2.1) fun c=>Â (jX b.2.2.2.1 b.2.2.1) fun d=>ifb (igt (Ó c) 1) (k (1:Int)) (ifb (igt (Ó d) 1) (k (1:Int)) (ck ((Ó c)+(Ó d)) fun r=>ifb (ieq r 0) (k (1:Int)) (k (0:Int)))))) (0:Int))) (0:Int))) (0:Int)))
def jn (a:bA) (b:fx):rF (Int):=vr a b some
def ac9 (b:an) (c:an) (k:Int->rF ρ):rF ρ :=
  Â (jX b c) fun a=>ifb (ieq (Ó a) 0) (k (0:Int)) (Þ a (0:Int) fun d=>k d)
def oZ (a:an) (b:an):rF (Int):=ac9 a b some
def rJ (g:Int) (c:b6) (d:Int) (b:Int) (e:Int->rF ρ) (f:Bool->rF ρ) (h:Unit->rF ρ):rF ρ :=
  ifb (ilt b (Ó c)) (Þ c b fun a=>ifb (ieq a.2.1 g) (Â (oZ a.2.2.1 a.2.2.2.1) fun i=>ifb (ieq i d) (f true) (Â (oZ a.2.2.2.1 a.2.2.1) fun j=>ifb (ieq j d) (f true) (ck (b+(1:Int)) fun k=>e k))) (ck (b+(1:Int)) fun l=>e l)) (h ())
def nw (d:Int) (b:bl) (e:Int) (a:Int) (c:Int->rF ρ) (f:Bool->rF ρ) (g:Unit->rF ρ):rF ρ :=
  ifb (ilt a (Ó b)) (Þ b a fun h=>ifb (ieq h.1 e) (Þ b a fun i=>ifb (ieq i.2 d) (f true) (ck (a+(1:Int)) fun j=>c j)) (ck (a+(1:Int)) fun k=>c k)) (g ())
def YO (c:bA) (a:kf) (b:Int) (k:Bool->rF ρ):rF ρ :=
  ifb (ieq a.2.1 b) (k true) (Ê (fun(d:Int) e=>rJ b c.2.2.2.2.1 a.1 d (fun f=>e f) (fun g=>k g) (fun _=>Ê (fun(h:Int) i=>nw b c.2.2.2.2.2 a.1 h (fun j=>i j) (fun l=>k l) (fun _=>k false)) (0:Int))) (0:Int))
def G7 (a:bA) (b:kf) (c:Int):rF (Bool):=YO a b c some
def oQ (c:c7) (a:Int) (b:an) (e:Int->an->rF ρ) (f:an->rF ρ):rF ρ :=
  ifb (ilt a (Ó c)) (Þ c a fun d=>Ô (Î ((List.length b)+(List.length ([d.2.1])))) (ck (a+(1:Int)) fun g=>e g (b++([d.2.1])))) (f b)
def oP (c:b6) (a:Int) (b:an) (e:Int->an->rF ρ) (f:an->rF ρ):rF ρ :=
  ifb (ilt a (Ó c)) (Þ c a fun d=>Ô (Î ((List.length b)+(List.length ([d.2.1])))) (ck (a+(1:Int)) fun g=>e g (b++([d.2.1])))) (f b)
def oO (c:bl) (a:Int) (b:an) (e:Int->an->rF ρ) (f:an->rF ρ):rF ρ :=
  ifb (ilt a (Ó c)) (Þ c a fun d=>Ô (Î ((List.length b)+(List.length ([d.2])))) (ck (a+(1:Int)) fun g=>e g (b++([d.2])))) (f b)
def lR (e:Int) (b:an) (c:Int) (a:Int) (d:Int->Int->rF ρ) (f:Int->rF ρ):rF ρ :=
  ifb (ilt a (Ó b)) (Ô ((ile 0 a)&&(ilt a (ê b))) (ě b (Int.toNat a) fun g=>ifb (igt g e) (Ô ((ile 0 a)&&(ilt a (ê b))) (ě b (Int.toNat a) fun h=>ck (a+(1:Int)) fun i=>d (W9 c h) i)) (ck (a+(1:Int)) fun j=>d c j))) (f c)
def lS (e:Int) (i:Int) (j:Int) (c:c7) (k:bl) (l:dx) (m:b6) (n:bl) (o:an) (f:Int) (b:bl) (d:Int->bl->rF ρ) (p:bl->rF ρ):rF ρ :=
  ifb (ilt f 20001) (Ê (fun(g:bx) q=>lR f o g.1 g.2 (fun r s=>q (r,s)) (fun a=>ifb (ilt a 20001) (Þ c e fun t=>Â (G7 ((i,j),c,k,l,m,n) t a) fun u=>ifb u (Þ c e fun h=>Ô (Î ((List.length b)+(List.length ([(h.1,a)])))) (d a (b++([(h.1,a)])))) (d a b)) (d a b))) ((20001:Int),(0:Int))) (p b)
def oN (e:Int) (f:Int) (b:c7) (g:bl) (h:dx) (i:b6) (j:bl) (k:an) (a:Int) (c:bl) (l:Int->bl->rF ρ) (m:bl->rF ρ):rF ρ :=
  ifb (ilt a (Ó b)) (Ê (fun(d:kW) n=>lS a e f b g h i j k d.1 d.2 (fun o p=>n (o,p)) (fun q=>ck (a+(1:Int)) fun r=>l r q)) ((-1:Int),c)) (m c)
def TV (a:bA) (k:bl->rF ρ):rF ρ :=
  Ê (fun(b:dy) f=>oQ a.2.1 b.1 b.2 (fun g h=>f (g,h)) (fun i=>Ê (fun(c:dy) j=>oP a.2.2.2.2.1 c.1 c.2 (fun l m=>j (l,m)) (fun n=>Ê (fun(d:dy) o=>oO a.2.2.2.2.2 d.1 d.2 (fun p q=>o (p,q)) (fun r=>Ê (fun(e:kW) s=>oN a.1.1 a.1.2 a.2.1 a.2.2.1 a.2.2.2.1 a.2.2.2.2.1 a.2.2.2.2.2 r e.1 e.2 (fun t u=>s (t,u)) (fun v=>k v)) ((0:Int),[]))) ((0:Int),n))) ((0:Int),i))) ((0:Int),[])
def kQ (a:bA):rF (bl):=TV a some
def rK (d:Int) (e:Int) (b:bl) (a:Int) (c:Int->rF ρ) (f:Bool->rF ρ) (g:Unit->rF ρ):rF ρ :=
  ifb (ilt a (Ó b)) (Þ b a fun h=>ifb (ieq h.1 d) (Þ b a fun i=>ifb (ieq i.2 e) (f true) (ck (a+(1:Int)) fun j=>c j)) (ck (a+(1:Int)) fun k=>c k)) (g ())
def YP (a:bA) (b:Int) (c:Int) (k:Bool->rF ρ):rF ρ :=
  Ê (fun(d:Int) e=>rK b c a.2.2.1 d (fun f=>e f) (fun g=>k g) (fun _=>k false)) (0:Int)
def G8 (a:bA) (b:Int) (c:Int):rF (Bool):=YP a b c some
def rR (d:Int) (m:Int) (n:Int) (e:Int) (f:Int) (g:c7) (h:bl) (i:dx) (j:b6) (k:bl) (b:Int) (a:Int) (c:Int->Int->rF ρ) (o:Int->rF ρ):rF ρ :=
  ifb (ilt a m) (Â (iY ((e,f),g,h,i,j,k) d a) fun l=>ifb l.2 (ck (b+l.1.2.2) fun p=>ck (a+(1:Int)) fun q=>c p q) (Â (G8 ((e,f),g,h,i,j,k) d a) fun r=>ifb r (ck (b+n) fun s=>ck (a+(1:Int)) fun t=>c s t) (ck (a+(1:Int)) fun u=>c b u))) (o b)
def YU (a:bA) (b:Int) (d:Int) (e:Int) (k:Int->rF ρ):rF ρ :=
  Â (jY a b) fun f=>Þ a.2.1 f fun g=>Ê (fun(c:bx) h=>rR b e g.2.2.2.2.2 a.1.1 a.1.2 a.2.1 a.2.2.1 a.2.2.2.1 a.2.2.2.2.1 a.2.2.2.2.2 c.1 c.2 (fun i j=>h (i,j)) (fun l=>k l)) ((0:Int),d)
def uN (a:bA) (b:Int) (c:Int) (d:Int):rF (Int):=YU a b c d some
def oR (b:bl) (d:Int) (e:Int) (a:Int) (f:Int->rF ρ) (g:Int->rF ρ) (h:Unit->rF ρ):rF ρ :=
  ifb (ilt a (Ó b)) (Þ b a fun c=>ifb ((iK c.1 d)&&((iK c.2 e)&&true)) (ck (a+(1:Int)) fun i=>g i) (ck (a+(1:Int)) fun j=>f j)) (h ())
def TW (b:bA) (a:bx) (k:Int->rF ρ):rF ρ :=
  Â (kQ b) fun c=>Ê (fun(d:Int) e=>oR c a.1 a.2 d (fun f=>e f) (fun g=>k g) (fun _=>k (0:Int))) (0:Int)
def jo (a:bA) (b:bx):rF (Int):=TW a b some
def OM (b:Int) (a:Int) (k:gU->rF ρ):rF ρ :=
  ifb (ine b 0) (ifb (iK a 0) (none) (Â (Hc (Int.tmod b a)) fun h=>Â (AO h a) fun c=>ifb (iK c 0) (none) (ck (Int.tdiv b c) fun d=>ifb (iK c 0) (none) (ck (Int.tdiv a c) fun f=>ifb (igt f 2147483647) (k (((0:Int),(0:Int)),(3:Int))) (ifb (ilt d (-2147483647:Int)) (k (((0:Int),(0:Int)),(3:Int))) (ifb (igt d 2147483647) (k (((0:Int),(0:Int)),(3:Int))) (k ((d,f),(0:Int))))))))) (ifb (iK a 0) (none) (ck (Int.tdiv b a) fun e=>ifb (iK a 0) (none) (ck (Int.tdiv a a) fun g=>ifb (igt g 2147483647) (k (((0:Int),(0:Int)),(3:Int))) (ifb (ilt e (-2147483647:Int)) (k (((0:Int),(0:Int)),(3:Int))) (ifb (igt e 2147483647) (k (((0:Int),(0:Int)),(3:Int))) (k ((e,g),(0:Int))))))))
def qw (a:Int) (b:Int):rF gU:=OM a b some
def adi (a:bx) (b:bx) (k:gU->rF ρ):rF ρ :=
  ck (a.1*b.2) fun c=>ck (b.1*a.2) fun d=>ck (c+d) fun e=>ck (a.2*b.2) fun f=>Â (qw e f) fun g=>k g
def WD (a:bx) (b:bx):rF gU:=adi a b some
variable [LC]
def adf (a:bx) (k:bx->rF ρ):rF ρ :=
  ck ((0:Int)-a.1) fun b=>k (b,a.2)
def WB (a:bx):rF bx:=adf a some
def ade (a:bx) (b:bx) (k:gU->rF ρ):rF ρ :=
  Â (WB b) fun c=>Â (WD a c) fun d=>k d
def Mc (a:bx) (b:bx):rF gU:=ade a b some
def TP (a:bA) (b:Int) (k:bx->rF ρ):rF ρ :=
  ifb (ieq b 0) (k ((0:Int),(1:Int))) (Â (jY a b) fun c=>Þ a.2.1 c fun d=>k d.2.2.2.2.1)
def uL (a:bA) (b:Int):rF bx:=TP a b some
def Y0 (a:gU) (b:gU) (k:Val Ej->rF ρ):rF ρ :=
  ifb (ine a.2 0) (k ((((0:Int),(0:Int)),(0:Int),(0:Int)),a.2)) (ifb (ine b.2 0) (k ((((0:Int),(0:Int)),(0:Int),(0:Int)),b.2)) (k ((a.1,b.1),(0:Int))))
def Ha (a:gU) (b:gU):rF (Val Ej):=Y0 a b some
def adg (a:bx) (b:bx) (k:gU->rF ρ):rF ρ :=
  ck (a.1*b.1) fun c=>ck (a.2*b.2) fun d=>Â (qw c d) fun e=>k e
def vK (a:bx) (b:bx):rF gU:=adg a b some
def T0 (b:gv) (a:bx) (k:Val Ej->rF ρ):rF ρ :=
  ifb (ilt a.1 0) (Â (vK b.2 a) fun c=>Â (vK b.1 a) fun d=>Â (Ha c d) fun e=>k e) (Â (vK b.1 a) fun f=>Â (vK b.2 a) fun g=>Â (Ha f g) fun h=>k h)
def AM (a:gv) (b:bx):rF (Val Ej):=T0 a b some
def OC (b:bA) (a:fx) (k:gv->rF ρ):rF ρ :=
  Â (oZ a.2.2.1 a.2.2.2.1) fun c=>Â (uL b c) fun d=>Â (oZ a.2.2.2.1 a.2.2.1) fun e=>Â (uL b e) fun f=>Â (Mc d f) fun g=>Â (AM ((a.2.2.2.2.2.2.1,(1:Int)),a.2.2.2.2.2.2.2,(1:Int)) g.1) fun h=>k h.1
def vI (a:bA) (b:fx):rF gv:=OC a b some
def TY (a:bA) (b:fx) (k:bx->rF ρ):rF ρ :=
  ck ((Ó b.2.2.1)-(1:Int)) fun c=>ck ((Ó b.2.2.2.1)-(1:Int)) fun d=>ck ((Zy (0:Int) c)*a.1.1) fun e=>ck ((Zy (0:Int) d)*a.1.2) fun f=>ck (e-f) fun g=>ck ((Zy (0:Int) c)*a.1.2) fun h=>ck ((Zy (0:Int) d)*a.1.1) fun i=>ck (h-i) fun j=>k (g,j)
def AJ (a:bA) (b:fx):rF bx:=TY a b some
def YZ (b:Int) (a:Int) (k:Int->rF ρ):rF ρ :=
  ifb (iK a 0) (none) (ck (Int.tdiv b a) fun c=>ifb (iK a 0) (none) (ifb (ilt (Int.tmod b a) 0) (ck (c-1) fun d=>k d) (k c)))
def P9 (a:Int) (b:Int):rF (Int):=YZ a b some
def T2 (a:bx) (k:Int->rF ρ):rF ρ :=
  Â (P9 a.1 a.2) fun b=>k b
def AP (a:bx):rF (Int):=T2 a some
def ahI (b:Int) (a:Int) (k:Int->rF ρ):rF ρ :=
  ifb (iK a 0) (none) (ck (Int.tdiv b a) fun c=>ifb (iK a 0) (none) (ifb (igt (Int.tmod b a) 0) (ck (c+1) fun d=>k d) (k c)))
def abG (a:Int) (b:Int):rF (Int):=ahI a b some
def Y6 (a:bx) (k:Int->rF ρ):rF ρ :=
  Â (abG a.1 a.2) fun b=>k b
def Hb (a:bx):rF (Int):=Y6 a some
def YR (b:bA) (a:fx) (k:bx->rF ρ):rF ρ :=
  Â (vI b a) fun c=>Â (AJ b a) fun d=>ck (a.2.2.2.2.1-a.2.2.2.2.2.1) fun e=>ck (e-d.2) fun f=>Â (AP c.2) fun g=>ck (f-g) fun h=>ck (a.2.2.2.2.1+a.2.2.2.2.2.1) fun i=>ck (i-d.1) fun j=>Â (Hb c.1) fun l=>ck (j-l) fun m=>k (h,m)
def uM (a:bA) (b:fx):rF bx:=YR a b some
def qj (e:bl) (b:Int) (p:Int) (q:Int) (r:c7) (s:bl) (t:dx) (u:b6) (v:bl) (g:Int) (w:Int) (h:Int) (x:Int) (y:Int) (a:Int) (c:ez) (d:bl) (f:Int->ez->bl->rF ρ) (z:Val Bo->rF ρ):rF ρ :=
  ifb (ilt a (Ó e)) (Þ e a fun A=>ifb (ine A.1 g) (ck (a+(1:Int)) fun B=>f B c d) (Þ e a fun C=>ifb (ieq C.2 w) (ck (a+(1:Int)) fun i=>ck (h+y) fun j=>ck (a+(1:Int)) fun k=>ck ((0:Int)-h) fun D=>ck (D-x) fun l=>Ô (Î ((List.length c)+(List.length ([((0:Int),i,j),(k,(0:Int),l)])))) (Ô (Î ((List.length d)+(List.length ([((1:Int),b),((1:Int),b)])))) (ck (a+(1:Int)) fun E=>f E (c++([((0:Int),i,j),(k,(0:Int),l)])) (d++([((1:Int),b),((1:Int),b)]))))) (ck (a-(1:Int)) fun F=>Þ e F fun G=>Þ e a fun H=>Â (uN ((p,q),r,s,t,u,v) g G.2 H.2) fun m=>ck (a+(1:Int)) fun n=>ck (a+(1:Int)) fun o=>Ô (Î ((List.length c)+(List.length ([(a,n,(0:Int)),(o,a,m)])))) (Ô (Î ((List.length d)+(List.length ([((2:Int),b),((2:Int),b)])))) (ck (a+(1:Int)) fun I=>f I (c++([(a,n,(0:Int)),(o,a,m)])) (d++([((2:Int),b),((2:Int),b)]))))))) (z (c,d))
def vv (h:bl) (i:Int) (j:Int) (c:c7) (k:bl) (l:dx) (m:b6) (n:bl) (b:Int) (e:ez) (f:bl) (o:Int->ez->bl->rF ρ) (p:Val Bo->rF ρ):rF ρ :=
  ifb (ilt b (Ó c)) (Þ c b fun a=>Ê (fun(d:l7) q=>qj h b i j c k l m n a.1 a.2.1 a.2.2.1 a.2.2.2.1.1 a.2.2.2.1.2 d.1 d.2.1 d.2.2 (fun r s t=>q (r,s,t)) (fun g=>ck (b+(1:Int)) fun u=>o u g.1 g.2)) ((0:Int),e,f)) (p (e,f))
def vu (f:Int) (g:Int) (h:c7) (i:bl) (j:dx) (c:b6) (k:bl) (a:Int) (l:ez) (m:bl) (p:Int->ez->bl->rF ρ) (q:Val Bo->rF ρ):rF ρ :=
  ifb (ilt a (Ó c)) (Þ c a fun b=>Â (oZ b.2.2.1 b.2.2.2.1) fun r=>Â (jo ((f,g),h,i,j,c,k) (r,b.2.1)) fun d=>Â (oZ b.2.2.2.1 b.2.2.1) fun s=>Â (jo ((f,g),h,i,j,c,k) (s,b.2.1)) fun e=>Â (uM ((f,g),h,i,j,c,k) b) fun n=>ck ((0:Int)-n.1) fun o=>Ô (Î ((List.length l)+(List.length ([(e,d,n.2),(d,e,o)])))) (Ô (Î ((List.length m)+(List.length ([((3:Int),a),((3:Int),a)])))) (ck (a+(1:Int)) fun t=>p t (l++([(e,d,n.2),(d,e,o)])) (m++([((3:Int),a),((3:Int),a)]))))) (q (l,m))
def ada (a:bA) (k:Val Bo->rF ρ):rF ρ :=
  Â (kQ a) fun e=>Ê (fun(b:l7) f=>vv e a.1.1 a.1.2 a.2.1 a.2.2.1 a.2.2.2.1 a.2.2.2.2.1 a.2.2.2.2.2 b.1 b.2.1 b.2.2 (fun g h i=>f (g,h,i)) (fun d=>Ê (fun(c:l7) j=>vu a.1.1 a.1.2 a.2.1 a.2.2.1 a.2.2.2.1 a.2.2.2.2.1 a.2.2.2.2.2 c.1 c.2.1 c.2.2 (fun l m n=>j (l,m,n)) (fun o=>k o)) ((0:Int),d.1,d.2))) ((0:Int),[],[])
def AI (a:bA):rF (Val Bo):=ada a some
def oT (b:c7) (a:Int) (c:Int->rF ρ) (d:Int->rF ρ) (e:Unit->rF ρ):rF ρ :=
  ifb (ilt a (Ó b)) (Þ b a fun f=>Â (AH f) fun g=>ifb (!g) (d (1:Int)) (ifb (igt a 0) (Þ b a fun h=>ck (a-(1:Int)) fun i=>Þ b i fun j=>ifb (ile h.1 j.1) (d (6:Int)) (ck (a+(1:Int)) fun k=>c k)) (ck (a+(1:Int)) fun l=>c l))) (e ())
def oS (b:Int) (c:b6) (a:Int) (d:Int->rF ρ) (e:Int->rF ρ) (f:Unit->rF ρ):rF ρ :=
  ifb (ilt a b) (Þ c a fun g=>Þ c b fun h=>ifb (ieq g.1 h.1) (e (6:Int)) (ck (a+(1:Int)) fun i=>d i)) (f ())
def jj (e:Int) (f:Int) (g:c7) (h:bl) (i:dx) (a:b6) (j:bl) (b:Int) (k:Int->rF ρ) (c:Int->rF ρ) (l:Unit->rF ρ):rF ρ :=
  ifb (ilt b (Ó a)) (Þ a b fun m=>Â (AE m) fun n=>ifb (!n) (c (1:Int)) (Ê (fun(o:Int) p=>oS b a o (fun q=>p q) (fun r=>c r) (fun _=>Þ a b fun s=>Â (jn ((e,f),g,h,i,a,j) s) fun d=>ifb (ine d 0) (c d) (ck (b+(1:Int)) fun t=>k t))) (0:Int))) (l ())
def ji (e:Int) (f:Int) (g:c7) (h:bl) (i:dx) (j:b6) (a:bl) (b:Int) (k:Int->rF ρ) (c:Int->rF ρ) (l:Unit->rF ρ):rF ρ :=
  ifb (ilt b (Ó a)) (Þ a b fun m=>Â (vJ m.2) fun n=>ifb (!n) (c (1:Int)) (Þ a b fun o=>Þ a b fun p=>Â (iE ((e,f),g,h,i,j,a) o.1 p.2) fun d=>ifb (ine d 0) (c d) (ck (b+(1:Int)) fun q=>k q))) (l ())
def Ig (a:bA) (k:Int->rF ρ):rF ρ :=
  Â (iX a.1 (0:Int) (1000000:Int)) fun d=>ifb (!d) (k (1:Int)) (ifb (igt (Ó a.2.1) 12) (k (2:Int)) (ifb (igt (Ó a.2.2.1) 40) (k (2:Int)) (ifb (igt (Ó a.2.2.2.1) 12) (k (2:Int)) (ifb (igt (Ó a.2.2.2.2.1) 40) (k (2:Int)) (ifb (igt (Ó a.2.2.2.2.2) 10) (k (2:Int)) (Ê (fun(e:Int) f=>oT a.2.1 e (fun g=>f g) (fun h=>k h) (fun _=>Â (G6 a) fun b=>ifb (ieq b 0) (Â (AG a) fun c=>ifb (ine c 0) (k c) (Ê (fun(i:Int) j=>jj a.1.1 a.1.2 a.2.1 a.2.2.1 a.2.2.2.1 a.2.2.2.2.1 a.2.2.2.2.2 i (fun l=>j l) (fun m=>k m) (fun _=>Ê (fun(n:Int) o=>ji a.1.1 a.1.2 a.2.1 a.2.2.1 a.2.2.2.1 a.2.2.2.2.1 a.2.2.2.2.2 n (fun p=>o p) (fun q=>k q) (fun _=>Â (kQ a) fun r=>ifb (igt (Ó r) 59) (k (2:Int)) (Â (AI a) fun s=>ifb (igt (Ó s.1) 300) (k (2:Int)) (k (0:Int))))) (0:Int))) (0:Int))) (ifb (ine b 0) (k b) (Ê (fun(t:Int) u=>jj a.1.1 a.1.2 a.2.1 a.2.2.1 a.2.2.2.1 a.2.2.2.2.1 a.2.2.2.2.2 t (fun v=>u v) (fun w=>k w) (fun _=>Ê (fun(x:Int) y=>ji a.1.1 a.1.2 a.2.1 a.2.2.1 a.2.2.2.1 a.2.2.2.2.1 a.2.2.2.2.2 x (fun z=>y z) (fun A=>k A) (fun _=>Â (kQ a) fun B=>ifb (igt (Ó B) 59) (k (2:Int)) (Â (AI a) fun C=>ifb (igt (Ó C.1) 300) (k (2:Int)) (k (0:Int))))) (0:Int))) (0:Int))))) (0:Int)))))))
def iF (a:bA):rF (Int):=Ig a some
def vp (b:an) (a:Int) (c:Int->rF ρ) (d:Int->rF ρ) (e:Unit->rF ρ):rF ρ :=
  ifb (ilt a (Ó b)) (Þ b a fun f=>ck (a-(1:Int)) fun g=>Þ b g fun h=>ifb (ile f h) (d (1:Int)) (ck (a+(1:Int)) fun i=>c i)) (e ())
def DD (c:Int) (d:Int) (e:c7) (f:bl) (g:dx) (h:b6) (i:bl) (b:an) (a:Int) (j:Int->rF ρ) (k:Int->rF ρ) (l:Unit->rF ρ):rF ρ :=
  ifb (ilt a (Ó b)) (Þ b a fun m=>Â (jY ((c,d),e,f,g,h,i) m) fun n=>ifb (ilt n 0) (k (5:Int)) (ck (a+(1:Int)) fun o=>j o)) (l ())
def DC (c:Int) (d:Int) (e:c7) (f:bl) (g:dx) (h:b6) (i:bl) (j:Int) (b:an) (a:Int) (k:Int->rF ρ) (l:Int->rF ρ) (m:Unit->rF ρ):rF ρ :=
  ifb (ilt a (Ó b)) (Þ b a fun n=>Â (iE ((c,d),e,f,g,h,i) n j) fun o=>ifb (ine o 0) (l (4:Int)) (ck (a+(1:Int)) fun p=>k p)) (m ())
def ac8 (a:bA) (b:dy) (k:Int->rF ρ):rF ρ :=
  Â (jL b.1 (0:Int) (19999:Int)) fun c=>ifb (!c) (k (1:Int)) (Â (jL (Ó b.2) (2:Int) (5:Int)) fun d=>ifb (!d) (k (1:Int)) (Ê (fun(e:Int) f=>vp b.2 e (fun g=>f g) (fun h=>k h) (fun _=>Ê (fun(i:Int) j=>DD a.1.1 a.1.2 a.2.1 a.2.2.1 a.2.2.2.1 a.2.2.2.2.1 a.2.2.2.2.2 b.2 i (fun l=>j l) (fun m=>k m) (fun _=>Ê (fun(n:Int) o=>DC a.1.1 a.1.2 a.2.1 a.2.2.1 a.2.2.2.1 a.2.2.2.2.1 a.2.2.2.2.2 b.1 b.2 n (fun p=>o p) (fun q=>k q) (fun _=>k (0:Int))) (0:Int))) (0:Int))) (1:Int)))
def Ma (a:bA) (b:dy):rF (Int):=ac8 a b some
def ψ (c:Int) (d:Int) (e:c7) (f:bl) (g:dx) (h:b6) (i:bl) (j:Int) (b:an) (k:Int) (a:Int) (m:Int->Int->rF ρ) (l:Int->rF ρ) (n:Int->rF ρ):rF ρ :=
  ifb (ilt a (Ó b)) (Þ b a fun o=>Â (iY ((c,d),e,f,g,h,i) o j) fun p=>Þ b a fun q=>ck (j+(1:Int)) fun r=>Â (iY ((c,d),e,f,g,h,i) q r) fun s=>ifb p.2 (l (9:Int)) (ifb s.2 (l (9:Int)) (ck (a+(1:Int)) fun t=>ck (k*t) fun u=>ck (a+(1:Int)) fun v=>m u v))) (n k)
def oF (d:Int) (e:Int) (f:c7) (g:bl) (h:dx) (i:b6) (j:bl) (k:b8) (l:Int) (a:Int) (m:Int->Int->rF ρ) (c:Int->rF ρ) (q:Int->rF ρ):rF ρ :=
  ifb (ilt a (Ó k)) (Þ k a fun b=>Â (Ma ((d,e),f,g,h,i,j) b) fun n=>ifb (ine n 0) (c n) (ifb (igt a 0) (ck (a-(1:Int)) fun r=>Þ k r fun s=>ifb (ile b.1 s.1) (c (6:Int)) (Ê (fun(o:bx) t=>ψ d e f g h i j b.1 b.2 o.1 o.2 (fun u v=>t (u,v)) (fun w=>c w) (fun x=>ck (a+(1:Int)) fun y=>m x y)) (l,(0:Int)))) (Ê (fun(p:bx) z=>ψ d e f g h i j b.1 b.2 p.1 p.2 (fun A B=>z (A,B)) (fun C=>c C) (fun D=>ck (a+(1:Int)) fun E=>m D E)) (l,(0:Int))))) (q l)
def TL (a:a8) (k:Int->rF ρ):rF ρ :=
  Â (iF a.1) fun b=>ifb (ine b 0) (k b) (ifb (igt (Ó a.2) 4) (k (2:Int)) (Ê (fun(c:bx) d=>oF a.1.1.1 a.1.1.2 a.1.2.1 a.1.2.2.1 a.1.2.2.2.1 a.1.2.2.2.2.1 a.1.2.2.2.2.2 a.2 c.1 c.2 (fun e f=>d (e,f)) (fun g=>k g) (fun h=>ifb (igt h 150) (k (2:Int)) (k (0:Int)))) ((1:Int),(0:Int))))
def Ο (a:a8):rF (Int):=TL a some
def mO (f:Int) (a:Int) (c:b6) (g:Int->b6->rF ρ) (h:b6->rF ρ):rF ρ :=
  ifb (ilt a f) (Ô ((ile 0 a)&&(ilt a (ê c))) (ě c (Int.toNat a) fun d=>Ô (Î (List.length d.2.2.1)) (Ô (Î (List.length d.2.2.2.1)) (Ô ((ile 0 a)&&(ilt a (ê c))) (ě c (Int.toNat a) fun b=>Ô ((ile 0 a)&&(ilt a (ê (List.set c (Int.toNat a) (b.1,b.2.1,d.2.2.1,b.2.2.2))))) (ě (List.set c (Int.toNat a) (b.1,b.2.1,d.2.2.1,b.2.2.2)) (Int.toNat a) fun e=>ck (a+(1:Int)) fun i=>g i (List.set (List.set c (Int.toNat a) (b.1,b.2.1,d.2.2.1,b.2.2.2)) (Int.toNat a) (e.1,e.2.1,e.2.2.1,d.2.2.2.1,e.2.2.2.2)))))))) (h c)
def mN (c:Int) (d:an) (b:b6) (a:Int) (e:Int->rF ρ) (f:Int->rF ρ) (g:Unit->rF ρ):rF ρ :=
  ifb (ilt a c) (Ô ((ile 0 a)&&(ilt a (ê b))) (ě b (Int.toNat a) fun h=>Â (á d h.1) fun i=>ifb i (f a) (ck (a+(1:Int)) fun j=>e j))) (g ())
def ź (f:an) (b:Int) (c:Int) (a:b6) (d:Int->Int->b6->rF ρ) (g:Val aU->rF ρ):rF ρ :=
  ifb (ilt c (Ó a)) (Ô ((ile 0 c)&&(ilt c (ê a))) (ě a (Int.toNat c) fun e=>Â (á f e.1) fun h=>ifb (!h) (Ô ((ile 0 b)&&(ilt b (ê a))) (ě a (Int.toNat b) fun l=>ck (b+(1:Int)) fun i=>ck (c+(1:Int)) fun j=>d i j (List.set a (Int.toNat b) e))) (ck (c+(1:Int)) fun k=>d b k a))) (g (b,a))
def DW (a:bA) (f:an) (k:rd->rF ρ):rF ρ :=
  Â (ē a) fun g=>ifb (ine g 0) (k ((((0:Int),(0:Int)),[],[],[],[],[]),g)) (Ô (Î (List.length a.2.1)) (Ô (Î (List.length a.2.2.1)) (Ô (Î (List.length a.2.2.2.1)) (Ô (Î (List.length a.2.2.2.2.2)) (Ô (Î (List.length a.2.2.2.2.1)) (Ê (fun(h:Val aU) m=>mO (Ó a.2.2.2.2.1) h.1 h.2 (fun n o=>m (n,o)) (fun c=>Ê (fun(p:Int) q=>mN (Ó c) f c p (fun r=>q r) (fun d=>ifb (ieq d (-1:Int)) (Â (ē (a.1,a.2.1,a.2.2.1,a.2.2.2.1,c,a.2.2.2.2.2)) fun i=>ifb (ine i 0) (k ((((0:Int),(0:Int)),[],[],[],[],[]),i)) (k ((a.1,a.2.1,a.2.2.1,a.2.2.2.1,c,a.2.2.2.2.2),(0:Int)))) (ck (d+(1:Int)) fun s=>Ê (fun(e:im) t=>ź f e.1 e.2.1 e.2.2 (fun u v w=>t (u,v,w)) (fun b=>Ô ((ile 0 b.1)&&(ile b.1 (ê b.2))) (Ô ((ile 0 b.1)&&(ile b.1 (ê (List.take (Int.toNat b.1) b.2++List.replicate (List.length b.2-(Int.toNat b.1)) ((0:Int),(0:Int),[],[],(0:Int),(0:Int),(0:Int),(0:Int))++List.drop ((Int.toNat b.1)+(List.length b.2-(Int.toNat b.1))) b.2)))) (Â (ē (a.1,a.2.1,a.2.2.1,a.2.2.2.1,(List.take (Int.toNat b.1) (List.drop 0 (List.take (Int.toNat b.1) b.2++List.replicate (List.length b.2-(Int.toNat b.1)) ((0:Int),(0:Int),[],[],(0:Int),(0:Int),(0:Int),(0:Int))++List.drop ((Int.toNat b.1)+(List.length b.2-(Int.toNat b.1))) b.2))),a.2.2.2.2.2)) fun j=>ifb (ine j 0) (k ((((0:Int),(0:Int)),[],[],[],[],[]),j)) (k ((a.1,a.2.1,a.2.2.1,a.2.2.2.1,(List.take (Int.toNat b.1) (List.drop 0 (List.take (Int.toNat b.1) b.2++List.replicate (List.length b.2-(Int.toNat b.1)) ((0:Int),(0:Int),[],[],(0:Int),(0:Int),(0:Int),(0:Int))++List.drop ((Int.toNat b.1)+(List.length b.2-(Int.toNat b.1))) b.2))),a.2.2.2.2.2),(0:Int))))))) (d,s,c))) (fun _=>Â (ē (a.1,a.2.1,a.2.2.1,a.2.2.2.1,c,a.2.2.2.2.2)) fun l=>ifb (ine l 0) (k ((((0:Int),(0:Int)),[],[],[],[],[]),l)) (k ((a.1,a.2.1,a.2.2.1,a.2.2.2.1,c,a.2.2.2.2.2),(0:Int))))) (0:Int))) ((0:Int),a.2.2.2.2.1)))))))
def vO (a:bA) (b:an):rF (rd):=DW a b some
def TH (a:bA) (k:bA->rF ρ):rF ρ :=
  Â (vO a ([])) fun b=>k b.1
def AD (a:bA):rF bA:=TH a some
def vl (e:Int) (d:b8) (a:Int) (b:b8) (f:Int->b8->rF ρ) (g:b8->rF ρ):rF ρ :=
  ifb (ilt a e) (Ô ((ile 0 a)&&(ilt a (ê d))) (ě d (Int.toNat a) fun c=>Ô (Î (List.length c.2)) (Ô (Î ((List.length b)+(List.length ([c])))) (ck (a+(1:Int)) fun h=>f h (b++([c])))))) (g b)
def ac7 (a:a8) (b:dy) (k:Val bw->rF ρ):rF ρ :=
  Â (Ģ a) fun c=>ifb (ine c 0) (k (((((0:Int),(0:Int)),[],[],[],[],[]),[]),c)) (Â (AD a.1) fun d=>Ô (Î (List.length a.2)) (Ô (Î ((List.length a.2)+(List.length ([b])))) (Ê (fun(e:(Val (.pair tI ai))) h=>vl (Ó (a.2++([b]))) (a.2++([b])) e.1 e.2 (fun i j=>h (i,j)) (fun f=>Â (Ģ (d,f)) fun g=>ifb (ine g 0) (k (((((0:Int),(0:Int)),[],[],[],[],[]),[]),g)) (k ((d,f),(0:Int))))) ((0:Int),[]))))
def L9 (a:a8) (b:dy):rF ((Val bw)):=ac7 a b some
def lT (rec:Int->rF ByteArray) (b:Int) (a:ByteArray) (e:Int->ByteArray->rF ρ) (f:ByteArray->rF ρ):rF ρ :=
  ifb (igt b 9) (ck (Int.tdiv b (10:Int)) fun c=>ck ((48:Int)+(Int.tmod c (10:Int))) fun d=>Ô (Î (ByteArray.size (sZ ([(IntKind.wrap .u8 d)]))+ByteArray.size a)) (e c ((sZ ([(IntKind.wrap .u8 d)]))++a))) (f a)
def δ (rec:Int->rF ByteArray) (a:Int) (k:ByteArray->rF ρ):rF ρ :=
  ifb (ilt a 0) (ck ((0:Int)-(Int.tmod a (10:Int))) fun b=>ifb (igt a (-10:Int)) (ck ((48:Int)+b) fun c=>Ô (Î (ByteArray.size (ByteArray.mk #[45])+ByteArray.size (sZ ([(IntKind.wrap .u8 c)])))) (k ((ByteArray.mk #[45])++(sZ ([(IntKind.wrap .u8 c)]))))) (ck (Int.tdiv a (10:Int)) fun g=>Â (rec g) fun d=>ck ((48:Int)+b) fun e=>Ô (Î (ByteArray.size d+ByteArray.size (sZ ([(IntKind.wrap .u8 e)])))) (k (d++(sZ ([(IntKind.wrap .u8 e)])))))) (ck ((48:Int)+(Int.tmod a (10:Int))) fun h=>Ê (fun(f:ly) i=>lT rec f.1 f.2 (fun j l=>i (j,l)) (fun m=>k m)) (a,(sZ ([(IntKind.wrap .u8 h)]))))
def mR:Nat->Int->rF ByteArray
  |0=>fun _=>none
  |n+1=>fun a=>δ (mR n) a some
def nS (a:Int):rF (ByteArray):=mR 100 a
def rE (c:an) (a:ByteArray) (b:Int) (e:ByteArray->Int->rF ρ) (f:ByteArray->rF ρ):rF ρ :=
  ifb (ilt b (Ó c)) (Ô (Î (ByteArray.size a+ByteArray.size (ByteArray.mk #[32]))) (Þ c b fun g=>Â (nS g) fun d=>Ô (Î (ByteArray.size (a++(ByteArray.mk #[32]))+ByteArray.size d)) (ck (b+(1:Int)) fun h=>e ((a++(ByteArray.mk #[32]))++d) h))) (f a)
def YL (b:ByteArray) (c:an) (k:ByteArray->rF ρ):rF ρ :=
  Ê (fun(a:ge) d=>rE c a.1 a.2 (fun e f=>d (e,f)) (fun g=>k g)) (b,(0:Int))
def iy (a:ByteArray) (b:an):rF (ByteArray):=YL a b some
def oM (e:c7) (b:ByteArray) (c:Int) (f:ByteArray->Int->rF ρ) (g:ByteArray->rF ρ):rF ρ :=
  ifb (ilt c (Ó e)) (Þ e c fun a=>Â (iy (ByteArray.mk #[103,97,117,103,101]) ([a.1,a.2.1,a.2.2.1,a.2.2.2.1.1,a.2.2.2.1.2,a.2.2.2.2.1.1,a.2.2.2.2.1.2,a.2.2.2.2.2])) fun d=>Ô (Î (ByteArray.size b+ByteArray.size d)) (Ô (Î (ByteArray.size (b++d)+ByteArray.size (ByteArray.mk #[10]))) (ck (c+(1:Int)) fun h=>f ((b++d)++(ByteArray.mk #[10])) h))) (g b)
def oL (c:bl) (a:ByteArray) (b:Int) (e:ByteArray->Int->rF ρ) (f:ByteArray->rF ρ):rF ρ :=
  ifb (ilt b (Ó c)) (Þ c b fun g=>Þ c b fun h=>Â (iy (ByteArray.mk #[117,115,101]) ([g.1,h.2])) fun d=>Ô (Î (ByteArray.size a+ByteArray.size d)) (Ô (Î (ByteArray.size (a++d)+ByteArray.size (ByteArray.mk #[10]))) (ck (b+(1:Int)) fun i=>e ((a++d)++(ByteArray.mk #[10])) i))) (f a)
def oK (e:dx) (a:ByteArray) (c:Int) (f:ByteArray->Int->rF ρ) (g:ByteArray->rF ρ):rF ρ :=
  ifb (ilt c (Ó e)) (Þ e c fun b=>Â (iy (ByteArray.mk #[108,111,97,110]) ([b.1,b.2.1.1,b.2.1.2,b.2.2])) fun d=>Ô (Î (ByteArray.size a+ByteArray.size d)) (Ô (Î (ByteArray.size (a++d)+ByteArray.size (ByteArray.mk #[10]))) (ck (c+(1:Int)) fun h=>f ((a++d)++(ByteArray.mk #[10])) h))) (g a)
def oJ (g:b6) (b:ByteArray) (e:Int) (h:ByteArray->Int->rF ρ) (i:ByteArray->rF ρ):rF ρ :=
  ifb (ilt e (Ó g)) (Þ g e fun a=>Â (iy (ByteArray.mk #[99,111,109,112,97,114,101]) ([a.1,a.2.1,a.2.2.2.2.1,a.2.2.2.2.2.1,a.2.2.2.2.2.2.1,a.2.2.2.2.2.2.2])) fun c=>Ô (Î (ByteArray.size b+ByteArray.size c)) (Â (iy (ByteArray.mk #[32,97]) a.2.2.1) fun d=>Ô (Î (ByteArray.size (b++c)+ByteArray.size d)) (Â (iy (ByteArray.mk #[32,98]) a.2.2.2.1) fun f=>Ô (Î (ByteArray.size ((b++c)++d)+ByteArray.size f)) (Ô (Î (ByteArray.size (((b++c)++d)++f)+ByteArray.size (ByteArray.mk #[10]))) (ck (e+(1:Int)) fun j=>h ((((b++c)++d)++f)++(ByteArray.mk #[10])) j))))) (i b)
def oI (c:bl) (a:ByteArray) (b:Int) (e:ByteArray->Int->rF ρ) (f:ByteArray->rF ρ):rF ρ :=
  ifb (ilt b (Ó c)) (Þ c b fun g=>Þ c b fun h=>Â (iy (ByteArray.mk #[108,111,111,107]) ([g.1,h.2])) fun d=>Ô (Î (ByteArray.size a+ByteArray.size d)) (Ô (Î (ByteArray.size (a++d)+ByteArray.size (ByteArray.mk #[10]))) (ck (b+(1:Int)) fun i=>e ((a++d)++(ByteArray.mk #[10])) i))) (f a)
def TT (a:bA) (k:ByteArray->rF ρ):rF ρ :=
  Â (iy (ByteArray.mk #[102,105,108,109]) ([a.1.1,a.1.2])) fun b=>Ô (Î (ByteArray.size b+ByteArray.size (ByteArray.mk #[10]))) (Ê (fun(c:ge) h=>oM a.2.1 c.1 c.2 (fun i j=>h (i,j)) (fun l=>Ê (fun(d:ge) m=>oL a.2.2.1 d.1 d.2 (fun n o=>m (n,o)) (fun p=>Ê (fun(e:ge) q=>oK a.2.2.2.1 e.1 e.2 (fun r s=>q (r,s)) (fun t=>Ê (fun(f:ge) u=>oJ a.2.2.2.2.1 f.1 f.2 (fun v w=>u (v,w)) (fun x=>Ê (fun(g:ge) y=>oI a.2.2.2.2.2 g.1 g.2 (fun z A=>y (z,A)) (fun B=>k B)) (x,(0:Int)))) (t,(0:Int)))) (p,(0:Int)))) (l,(0:Int)))) ((b++(ByteArray.mk #[10])),(0:Int)))
def Ρ (a:bA):rF (ByteArray):=TT a some
def lM (c:Int) (d:b8) (a:ByteArray) (b:Int) (f:ByteArray->Int->rF ρ) (g:ByteArray->rF ρ):rF ρ :=
  Þ d c fun h=>ifb (ilt b (Ó h.2)) (Ô (Î (ByteArray.size a+ByteArray.size (ByteArray.mk #[32]))) (Þ d c fun i=>Þ i.2 b fun j=>Â (nS j) fun e=>Ô (Î (ByteArray.size (a++(ByteArray.mk #[32]))+ByteArray.size e)) (ck (b+(1:Int)) fun k=>f ((a++(ByteArray.mk #[32]))++e) k))) (g a)
def lN (c:b8) (a:ByteArray) (b:Int) (g:ByteArray->Int->rF ρ) (h:ByteArray->rF ρ):rF ρ :=
  ifb (ilt b (Ó c)) (Ô (Î (ByteArray.size a+ByteArray.size (ByteArray.mk #[109,105,120,32]))) (Þ c b fun i=>Â (nS i.1) fun d=>Ô (Î (ByteArray.size (a++(ByteArray.mk #[109,105,120,32]))+ByteArray.size d)) (Ê (fun(e:ge) j=>lM b c e.1 e.2 (fun k l=>j (k,l)) (fun f=>Ô (Î (ByteArray.size f+ByteArray.size (ByteArray.mk #[10]))) (ck (b+(1:Int)) fun m=>g (f++(ByteArray.mk #[10])) m))) (((a++(ByteArray.mk #[109,105,120,32]))++d),(0:Int))))) (h a)
def TJ (a:a8) (k:ByteArray->rF ρ):rF ρ :=
  Â (Ρ a.1) fun c=>Ê (fun(b:ge) d=>lN a.2 b.1 b.2 (fun e f=>d (e,f)) (fun g=>k g)) (c,(0:Int))
def ĵ (a:a8):rF (ByteArray):=TJ a some
def vt (c:ByteArray) (f:Int) (b:Int) (a:Int) (d:ey) (e:Int->Int->ey->rF ρ) (g:py->rF ρ):rF ρ :=
  ifb (ilt a (HC (ByteArray.size c))) (Xw c a fun h=>ifb (ieq h f) (Ô ((ile 0 b)&&((ile b a)&&(ile a ((ByteArray.size c:Nat):Int)))) (Ô (Î ((List.length d)+(List.length ([(ByteArray.extract c (Int.toNat b) (Int.toNat a))])))) (ck (a+(1:Int)) fun i=>ck (a+(1:Int)) fun j=>e i j (d++([(ByteArray.extract c (Int.toNat b) (Int.toNat a))]))))) (ck (a+(1:Int)) fun k=>e b k d)) (g (b,d))
def TR (a:ByteArray) (d:Int) (k:ey->rF ρ):rF ρ :=
  Ê (fun(c:(Val (.pair tI bi))) e=>vt a d c.1 c.2.1 c.2.2 (fun f g h=>e (f,g,h)) (fun b=>Ô ((ile 0 b.1)&&(ile b.1 ((ByteArray.size a:Nat):Int))) (Ô (Î ((List.length b.2)+(List.length ([(ByteArray.extract a (Int.toNat b.1) (ByteArray.size a))])))) (k (b.2++([(ByteArray.extract a (Int.toNat b.1) (ByteArray.size a))])))))) ((0:Int),(0:Int),[])
def mD (a:ByteArray) (b:Int):rF (ey):=TR a b some
def lL (c:ey) (d:Int) (b:Int) (a:Int) (e:Int->Int->rF ρ) (f:Int->rF ρ):rF ρ :=
  Þ c d fun g=>ifb (ilt a (HC (ByteArray.size g))) (ifb (ilt a 18) (Þ c d fun h=>Xw h a fun i=>ifb (ige i 48) (Þ c d fun j=>Xw j a fun k=>ifb (ile k 57) (ck ((10:Int)*b) fun l=>Þ c d fun m=>Xw m a fun n=>ck (l+(IntKind.wrap .i64 (IntKind.wrap .u8 (n-(48:Int))))) fun o=>ck (a+(1:Int)) fun p=>e o p) (ck (a+(1:Int)) fun q=>e b q)) (ck (a+(1:Int)) fun r=>e b r)) (f b)) (f b)
def qg (c:ey) (a:Int) (b:an) (f:Int->an->rF ρ) (g:an->rF ρ):rF ρ :=
  ifb (ilt a (Ó c)) (Ê (fun(d:bx) h=>lL c a d.1 d.2 (fun i j=>h (i,j)) (fun e=>Ô (Î ((List.length b)+(List.length ([e])))) (ck (a+(1:Int)) fun k=>f k (b++([e]))))) ((0:Int),(0:Int))) (g b)
def JG (c:ey) (k:an->rF ρ):rF ρ :=
  Ê (fun(a:dy) d=>qg c a.1 a.2 (fun e f=>d (e,f)) (fun b=>ifb (ieq (Ó b) 0) (k ([(-1:Int)])) (k b))) ((1:Int),[])
def sl (a:ey):rF (an):=JG a some
def sO (c:ByteArray) (b:Int) (a:Int) (d:Int->Int->rF ρ) (e:Int->rF ρ):rF ρ :=
  ifb (ilt a (HC (ByteArray.size c))) (ifb (ilt a 18) (Xw c a fun f=>ifb (ige f 48) (Xw c a fun g=>ifb (ile g 57) (ck ((10:Int)*b) fun h=>Xw c a fun i=>ck (h+(IntKind.wrap .i64 (IntKind.wrap .u8 (i-(48:Int))))) fun j=>ck (a+(1:Int)) fun k=>d j k) (ck (a+(1:Int)) fun l=>d b l)) (ck (a+(1:Int)) fun m=>d b m)) (e b)) (e b)
def N1 (a:ByteArray) (k:Int->rF ρ):rF ρ :=
  Ê (fun(c:bx) d=>sO a c.1 c.2 (fun e f=>d (e,f)) (fun b=>ifb (igt (HC (ByteArray.size a)) 0) (Xw a (0:Int) fun g=>ifb (ieq g 45) (ck ((0:Int)-b) fun h=>k h) (k b)) (k b))) ((0:Int),(0:Int))
def ks (a:ByteArray):rF (Int):=N1 a some
def lO (c:ey) (a:Int) (b:an) (e:Int->an->rF ρ) (f:an->rF ρ):rF ρ :=
  ifb (ilt a (Ó c)) (Þ c a fun g=>Â (ks g) fun d=>Ô (Î ((List.length b)+(List.length ([d])))) (ck (a+(1:Int)) fun h=>e h (b++([d])))) (f b)
def qi (b:Int) (a:an) (c:an->rF ρ) (d:an->rF ρ):rF ρ :=
  ifb (ilt (Ó a) b) (Ô (Î ((List.length a)+(List.length ([(0:Int)])))) (c (a++([(0:Int)])))) (d a)
def JK (b:ey) (c:Int) (k:an->rF ρ):rF ρ :=
  Ê (fun(a:dy) d=>lO b a.1 a.2 (fun e f=>d (e,f)) (fun g=>Ê (fun(h:an) i=>qi c h (fun j=>i j) (fun l=>k l)) (g))) ((0:Int),[])
def sm (a:ey) (b:Int):rF (an):=JK a b some
def vq (c:ey) (e:Bool) (a:Int) (b:an) (d:an) (f:Bool->Int->an->an->rF ρ) (j:lx->rF ρ):rF ρ :=
  ifb (ilt a (Ó c)) (Þ c a fun k=>ifb (k.toList==(ByteArray.mk #[98]).toList) (ck (a+(1:Int)) fun l=>f true l b d) (Þ c a fun m=>ifb (!(m.toList==(ByteArray.mk #[97]).toList)) (ifb e (Þ c a fun n=>Â (ks n) fun g=>Ô (Î ((List.length d)+(List.length ([g])))) (ck (a+(1:Int)) fun o=>f e o b (d++([g])))) (Þ c a fun p=>ifb (!(p.toList==(ByteArray.mk #[97]).toList)) (Þ c a fun q=>Â (ks q) fun h=>Ô (Î ((List.length b)+(List.length ([h])))) (ck (a+(1:Int)) fun r=>f e r (b++([h])) d)) (ck (a+(1:Int)) fun s=>f e s b d))) (Þ c a fun t=>ifb (!(t.toList==(ByteArray.mk #[97]).toList)) (Þ c a fun u=>Â (ks u) fun i=>Ô (Î ((List.length b)+(List.length ([i])))) (ck (a+(1:Int)) fun v=>f e v (b++([i])) d)) (ck (a+(1:Int)) fun w=>f e w b d)))) (j (b,d))
def TN (c:ey) (k:lx->rF ρ):rF ρ :=
  Ê (fun(a:(Val (.pair .bool (.pair tI aT)))) d=>vq c a.1 a.2.1 a.2.2.1 a.2.2.2 (fun e f g h=>d (e,f,g,h)) (fun b=>k (b.1,b.2))) (false,(0:Int),[],[])
def AF (a:ey):rF (lx):=TN a some
def lQ (n:ey) (b:Int) (h:Int) (i:Int) (c:c7) (d:bl) (e:dx) (f:b6) (g:bl) (k:Int->Int->Int->c7->bl->dx->b6->bl->rF ρ) (o:kN->rF ρ):rF ρ :=
  ck ((Ó n)-(1:Int)) fun L=>ifb (ilt b L) (ifb (ilt b 120) (Þ n b fun M=>Â (mD M (32:Int)) fun j=>Ô (ile 1 (ê j)) (Â (sm (List.drop 1 j) (8:Int)) fun a=>Þ j (0:Int) fun l=>ifb (l.toList==(ByteArray.mk #[102,105,108,109]).toList) (Þ a (0:Int) fun N=>Þ a (1:Int) fun O=>ck (b+(1:Int)) fun P=>k P N O c d e f g) (ifb (l.toList==(ByteArray.mk #[103,97,117,103,101]).toList) (Þ a (0:Int) fun p=>Þ a (1:Int) fun q=>Þ a (2:Int) fun r=>Þ a (3:Int) fun s=>Þ a (4:Int) fun t=>Þ a (5:Int) fun u=>Þ a (6:Int) fun v=>Þ a (7:Int) fun w=>Ô (Î ((List.length c)+(List.length ([(p,q,r,(s,t),(u,v),w)])))) (ck (b+(1:Int)) fun Q=>k Q h i (c++([(p,q,r,(s,t),(u,v),w)])) d e f g)) (ifb (l.toList==(ByteArray.mk #[117,115,101]).toList) (Þ a (0:Int) fun x=>Þ a (1:Int) fun y=>Ô (Î ((List.length d)+(List.length ([(x,y)])))) (ck (b+(1:Int)) fun R=>k R h i c (d++([(x,y)])) e f g)) (ifb (l.toList==(ByteArray.mk #[108,111,97,110]).toList) (Þ a (0:Int) fun z=>Þ a (1:Int) fun A=>Þ a (2:Int) fun B=>Þ a (3:Int) fun C=>Ô (Î ((List.length e)+(List.length ([(z,(A,B),C)])))) (ck (b+(1:Int)) fun S=>k S h i c d (e++([(z,(A,B),C)])) f g)) (ifb (l.toList==(ByteArray.mk #[99,111,109,112,97,114,101]).toList) (Ô ((ile 0 (W9 (Ó j) (7:Int)))&&(ile (W9 (Ó j) (7:Int)) (ê j))) (Â (AF (List.drop (Int.toNat (W9 (Ó j) (7:Int))) j)) fun m=>Þ a (0:Int) fun D=>Þ a (1:Int) fun E=>Þ a (2:Int) fun F=>Þ a (3:Int) fun G=>Þ a (4:Int) fun H=>Þ a (5:Int) fun I=>Ô (Î ((List.length f)+(List.length ([(D,E,m.1,m.2,F,G,H,I)])))) (ck (b+(1:Int)) fun T=>k T h i c d e (f++([(D,E,m.1,m.2,F,G,H,I)])) g))) (ifb (l.toList==(ByteArray.mk #[108,111,111,107]).toList) (Þ a (0:Int) fun J=>Þ a (1:Int) fun K=>Ô (Î ((List.length g)+(List.length ([(J,K)])))) (ck (b+(1:Int)) fun U=>k U h i c d e f (g++([(J,K)])))) (ck (b+(1:Int)) fun V=>k V h i c d e f g)))))))) (o (h,i,c,d,e,f,g))) (o (h,i,c,d,e,f,g))
def TU (c:ByteArray) (k:(Val (.pair È .bool))->rF ρ):rF ρ :=
  Â (mD c (10:Int)) fun d=>Ê (fun(b:Val bg) e=>lQ d b.1 b.2.1 b.2.2.1 b.2.2.2.1 b.2.2.2.2.1 b.2.2.2.2.2.1 b.2.2.2.2.2.2.1 b.2.2.2.2.2.2.2 (fun f g h i j l m n=>e (f,g,h,i,j,l,m,n)) (fun a=>Â (iF ((a.1,a.2.1),a.2.2)) fun o=>ifb (ine o 0) (k ((((0:Int),(0:Int)),[],[],[],[],[]),false)) (Â (Ρ ((a.1,a.2.1),a.2.2)) fun p=>ifb (!(p.toList==c.toList)) (k ((((0:Int),(0:Int)),[],[],[],[],[]),false)) (k (((a.1,a.2.1),a.2.2),true))))) ((0:Int),(0:Int),(0:Int),[],[],[],[],[])
def pz (a:ByteArray):rF ((Val (.pair È .bool))):=TU a some
def jg (e:ey) (a:ByteArray) (b:Int) (c:b8) (g:ByteArray->Int->b8->rF ρ) (h:(Val (.pair .str ai))->rF ρ):rF ρ :=
  ck ((Ó e)-(1:Int)) fun k=>ifb (ilt b k) (ifb (ilt b 130) (Þ e b fun l=>Â (mD l (32:Int)) fun i=>Þ i (0:Int) fun m=>ifb (!(m.toList==(ByteArray.mk #[109,105,120]).toList)) (Þ e b fun f=>Ô (Î (ByteArray.size a+ByteArray.size f)) (Ô (Î (ByteArray.size (a++f)+ByteArray.size (ByteArray.mk #[10]))) (ck (b+(1:Int)) fun n=>g ((a++f)++(ByteArray.mk #[10])) n c))) (Â (sl i) fun d=>Þ d (0:Int) fun j=>Ô (ile 1 (ê d)) (Ô (Î ((List.length c)+(List.length ([(j,(List.drop 1 d))])))) (ck (b+(1:Int)) fun o=>g a o (c++([(j,(List.drop 1 d))])))))) (h (a,c))) (h (a,c))
def TK (d:ByteArray) (k:(Val (.pair Ä .bool))->rF ρ):rF ρ :=
  Â (mD d (10:Int)) fun e=>Ê (fun(c:(Val (.pair .str (.pair tI ai)))) f=>jg e c.1 c.2.1 c.2.2 (fun g h i=>f (g,h,i)) (fun a=>Â (pz a.1) fun b=>ifb (!b.2) (k (((((0:Int),(0:Int)),[],[],[],[],[]),[]),false)) (Â (Ο (b.1,a.2)) fun j=>ifb (ine j 0) (k (((((0:Int),(0:Int)),[],[],[],[],[]),[]),false)) (Â (ĵ (b.1,a.2)) fun l=>ifb (!(l.toList==d.toList)) (k (((((0:Int),(0:Int)),[],[],[],[],[]),[]),false)) (k ((b.1,a.2),true)))))) ((ByteArray.mk #[]),(0:Int),[])
def uK (a:ByteArray):rF ((Val (.pair Ä .bool))):=TK a some
def sH (a:a8) (d:dy) (h:ByteArray) (k:Bool->rF ρ):rF ρ :=
  Â (AB a) fun n=>ifb (!n) (Â Đ fun o=>k o) (ifb (igt (Ó d.2) 9) (Â Đ fun p=>k p) (ifb (igt (HC (ByteArray.size h)) 2000) (Â Đ fun q=>k q) (Â (Ο a) fun e=>Â (L9 a d) fun b=>Â (nQ a) fun c=>Â (G5 h) fun f=>Â (uK h) fun g=>Â (Ģ a) fun r=>ifb (ine r e) (k false) (Â (đ f.1 g.1) fun s=>ifb (!s) (k false) (ifb g.2 (ifb (ine f.2 0) (k false) (ifb (!g.2) (ifb (ine f.2 7) (k false) (ifb (ine e 0) (Â Đ fun t=>ifb t (ifb (ieq b.2 e) (ifb (ieq c.2 e) (ifb (c.1.toList==(ByteArray.mk #[]).toList) (Â (đ b.1 ((((0:Int),(0:Int)),[],[],[],[],[]),[])) fun u=>k u) (k false)) (k false)) (k false)) (k false)) (Ô (Î (0+(List.length a.2))) (Ô (Î ((List.length (([])++a.2))+(List.length ([d])))) (Â (Ο (a.1,((([])++a.2)++([d])))) fun i=>ifb (ine i 0) (Â Đ fun v=>ifb v (ifb (ieq c.2 0) (Â (ĵ a) fun w=>ifb (c.1.toList==w.toList) (ifb (ieq b.2 i) (Â (đ b.1 ((((0:Int),(0:Int)),[],[],[],[],[]),[])) fun x=>k x) (k false)) (k false)) (k false)) (k false)) (Â Đ fun y=>ifb y (ifb (ieq c.2 0) (Â (ĵ a) fun z=>ifb (c.1.toList==z.toList) (ifb (ieq b.2 i) (Â (đ b.1 (a.1,((([])++a.2)++([d])))) fun A=>k A) (k false)) (k false)) (k false)) (k false))))))) (ifb (ine e 0) (Â Đ fun B=>ifb B (ifb (ieq b.2 e) (ifb (ieq c.2 e) (ifb (c.1.toList==(ByteArray.mk #[]).toList) (Â (đ b.1 ((((0:Int),(0:Int)),[],[],[],[],[]),[])) fun C=>k C) (k false)) (k false)) (k false)) (k false)) (Ô (Î (0+(List.length a.2))) (Ô (Î ((List.length (([])++a.2))+(List.length ([d])))) (Â (Ο (a.1,((([])++a.2)++([d])))) fun j=>ifb (ine j 0) (Â Đ fun D=>ifb D (ifb (ieq c.2 0) (Â (ĵ a) fun E=>ifb (c.1.toList==E.toList) (ifb (ieq b.2 j) (Â (đ b.1 ((((0:Int),(0:Int)),[],[],[],[],[]),[])) fun F=>k F) (k false)) (k false)) (k false)) (k false)) (Â Đ fun G=>ifb G (ifb (ieq c.2 0) (Â (ĵ a) fun H=>ifb (c.1.toList==H.toList) (ifb (ieq b.2 j) (Â (đ b.1 (a.1,((([])++a.2)++([d])))) fun I=>k I) (k false)) (k false)) (k false)) (k false)))))))) (ifb (!g.2) (ifb (ine f.2 7) (k false) (ifb (ine e 0) (Â Đ fun J=>ifb J (ifb (ieq b.2 e) (ifb (ieq c.2 e) (ifb (c.1.toList==(ByteArray.mk #[]).toList) (Â (đ b.1 ((((0:Int),(0:Int)),[],[],[],[],[]),[])) fun K=>k K) (k false)) (k false)) (k false)) (k false)) (Ô (Î (0+(List.length a.2))) (Ô (Î ((List.length (([])++a.2))+(List.length ([d])))) (Â (Ο (a.1,((([])++a.2)++([d])))) fun l=>ifb (ine l 0) (Â Đ fun L=>ifb L (ifb (ieq c.2 0) (Â (ĵ a) fun M=>ifb (c.1.toList==M.toList) (ifb (ieq b.2 l) (Â (đ b.1 ((((0:Int),(0:Int)),[],[],[],[],[]),[])) fun N=>k N) (k false)) (k false)) (k false)) (k false)) (Â Đ fun O=>ifb O (ifb (ieq c.2 0) (Â (ĵ a) fun P=>ifb (c.1.toList==P.toList) (ifb (ieq b.2 l) (Â (đ b.1 (a.1,((([])++a.2)++([d])))) fun Q=>k Q) (k false)) (k false)) (k false)) (k false))))))) (ifb (ine e 0) (Â Đ fun R=>ifb R (ifb (ieq b.2 e) (ifb (ieq c.2 e) (ifb (c.1.toList==(ByteArray.mk #[]).toList) (Â (đ b.1 ((((0:Int),(0:Int)),[],[],[],[],[]),[])) fun S=>k S) (k false)) (k false)) (k false)) (k false)) (Ô (Î (0+(List.length a.2))) (Ô (Î ((List.length (([])++a.2))+(List.length ([d])))) (Â (Ο (a.1,((([])++a.2)++([d])))) fun m=>ifb (ine m 0) (Â Đ fun T=>ifb T (ifb (ieq c.2 0) (Â (ĵ a) fun U=>ifb (c.1.toList==U.toList) (ifb (ieq b.2 m) (Â (đ b.1 ((((0:Int),(0:Int)),[],[],[],[],[]),[])) fun V=>k V) (k false)) (k false)) (k false)) (k false)) (Â Đ fun W=>ifb W (ifb (ieq c.2 0) (Â (ĵ a) fun X=>ifb (c.1.toList==X.toList) (ifb (ieq b.2 m) (Â (đ b.1 (a.1,((([])++a.2)++([d])))) fun Y=>k Y) (k false)) (k false)) (k false)) (k false))))))))))))
def sS (a:a8) (b:dy) (c:ByteArray):rF (Bool):=sH a b c some
end Go.Proofs.ZzM
end
