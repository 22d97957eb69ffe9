/- lemmas -/
import Derived.Test.YtdmegkgjpgcfgaaGreatAmE
set_option linter.all false
set_option linter.unusedSectionVars false
set_option linter.unusedVariables false
set_option linter.unusedSimpArgs false
noncomputable section
variable {ρ:Type}
set_option maxRecDepth 100000
namespace Go.Proofs.ZzM
open Go Go.Am
abbrev tI:Ty:=.int .i64
abbrev Ã:Ty:=(.pair tI tI)
abbrev ŕ:Ty:=(.pair tI Ã)
abbrev Ī:Ty:=(.pair tI (.slice tI))
abbrev ĕ:Ty:=(.pair Ã Ã)
abbrev Ch:Ty:=(.pair Ã tI)
abbrev ic:Ty:=(.pair tI Ch)
abbrev aa6:Ty:=(.pair ĕ tI)
abbrev Ì:Ty:=(.pair tI (.slice ŕ))
abbrev Cg:Ty:=(.pair (.slice ŕ) (.slice Ã))
abbrev Ö:Ty:=(.pair tI (.pair tI (.pair tI (.pair Ã Ch))))
abbrev â:Ty:=(.pair tI (.pair tI (.pair (.slice tI) (.pair (.slice tI) (.pair tI ŕ)))))
abbrev É:Ty:=(.pair Ã (.pair (.slice Ö) (.pair (.slice Ã) (.pair (.slice ic) (.pair (.slice â) (.slice Ã))))))
abbrev Â:Ty:=(.pair É (.slice Ī))
abbrev agt:Ty:=(.pair É (.pair (.slice Ã) (.pair Ì (.slice Ã))))
def yO (l:List Int):Option (List Int):=á (è l.length) (some l)
def Ii:Nat→List Int→List (List Int)
  |0,_=>[[]]
  |n+1,l=>if l.length=0 then[[]] else(List.range l.length).flatMap fun i=>(Ii n (l.take i++l.drop (i+1))).map (l.getD i 0::·)
def jN:List (Int×List Int)→List (List (List Int))
  |[]=>[[]]
  |m::r=>(Ii m.2.length m.2).flatMap fun x=>(jN r).map (x::·)
def yP (l:List Int):Option (List (List Int)):=á (decide (l.length≤9)) (some (Ii l.length l))
def mz (l:List (Int×List Int)):Option (List (List (List Int))):=á (decide (l.length≤9)&&l.all fun m=>decide (m.2.length≤9)) (some (jN l))
abbrev aa:Ty:=(.slice Ã)
abbrev ab:Ty:=(.slice tI)
abbrev ac:Ty:=(.slice â)
abbrev ae:Ty:=(.slice Ö)
abbrev af:Ty:=(.slice ic)
abbrev ag:Ty:=(.slice (.slice ab))
abbrev ah:Ty:=(.pair tI (.pair tI (.pair ae (.pair aa (.pair af (.pair ac (.pair aa (.slice Ī))))))))
abbrev ai:Ty:=(.slice Ī)
abbrev aj:Ty:=(.slice ab)
abbrev ak:Ty:=(.slice ŕ)
abbrev am:Ty:=(.map tI Ö)
abbrev ao:Ty:=(.map tI .bool)
abbrev aq:Ty:=(.slice .bool)
abbrev ar:Ty:=(.ptr Â)
abbrev au:Ty:=(.pair tI (.pair ag ah))
abbrev aw:Ty:=(.pair tI (.pair tI (.pair tI (.pair tI (.pair tI (.pair ae (.pair aa (.pair af (.pair ac (.pair aa (.pair ai Ī)))))))))))
abbrev ax:Ty:=(.pair tI (.pair tI (.pair ae (.pair aa (.pair af (.pair ac (.pair aa (.pair ai ah))))))))
abbrev ay:Ty:=(.pair ab tI)
abbrev az:Ty:=(.pair tI (.pair tI (.pair tI (.pair tI (.pair tI ŕ)))))
abbrev aB:Ty:=(.pair tI ag)
abbrev aD:Ty:=(.pair tI ah)
abbrev aE:Ty:=(.pair tI (.pair tI (.pair ae (.pair aa (.pair af (.pair ac aa))))))
abbrev aF:Ty:=(.pair ab (.pair tI (.pair tI (.pair tI (.pair ae (.pair aa (.pair af (.pair ac (.pair aa (.pair tI (.pair ab (.map tI tI))))))))))))
abbrev aG:Ty:=(.ptr aj)
abbrev aH:Ty:=(.pair tI ac)
abbrev aI:Ty:=(.pair tI (.pair tI (.pair tI (.pair ae (.pair aa (.pair af (.pair ac (.pair aa az))))))))
abbrev aJ:Ty:=(.pair Â aj)
abbrev aK:Ty:=(.pair É Ã)
abbrev aL:Ty:=(.pair aq ab)
abbrev aM:Ty:=(.pair ab (.pair aq (.pair ab ab)))
abbrev aO:Ty:=(.pair tI (.pair tI (.pair tI (.pair tI (.pair tI au)))))
abbrev aP:Ty:=(.pair tI Ī)
abbrev aQ:Ty:=(.map tI Ã)
abbrev aR:Ty:=(.pair tI Ì)
abbrev aS:Ty:=(.pair ab (.pair tI (.pair tI ay)))
abbrev aT:Ty:=(.ptr agt)
abbrev aU:Ty:=(.pair .bool tI)
abbrev aV:Ty:=(.pair ab Ī)
abbrev aW:Ty:=(.map tI tI)
abbrev aX:Ty:=(.pair tI (.pair tI aD))
abbrev aY:Ty:=(.pair É â)
abbrev aZ:Ty:=(.pair tI (.pair tI (.pair ae (.pair aa (.pair af aa)))))
abbrev ba:Ty:=(.pair Â Ã)
abbrev bc:Ty:=(.pair tI aa)
abbrev bf:Ty:=(.pair Â (.pair aj Ã))
abbrev bg:Ty:=(.pair tI aj)
abbrev bh:Ty:=(.pair aa tI)
abbrev bi:Ty:=(.pair ab (.pair ai ab))
abbrev bj:Ty:=(.pair (.int .u64) (.int .u64))
abbrev bm:Ty:=(.pair Ì ab)
abbrev bn:Ty:=(.pair É (.pair am tI))
abbrev bo:Ty:=(.pair tI (.pair tI (.pair ak Ì)))
def Κ (d:Val aj) (e:Int) (b:Int) (a:Int) (f:Int→Int→Option ρ) (g:Int→Option ρ):Option ρ :=
  ifb (ilt a e) (Ĥ d a fun h=>ck (b+(Ù h)) fun c=>ifb (ilt c 0) (none) (ck (a+(1:Int)) fun i=>f c i)) (g b)
def Ğ (d:Val aj) (e:Int) (a:Int) (b:Val ab) (f:Int→Val ab→Option ρ) (g:Val ab→Option ρ):Option ρ :=
  ifb (ilt a e) (Ĥ d a fun c=>á (è ((List.length b)+(List.length c))) (ck (a+(1:Int)) fun h=>f h (b++c))) (g b)
def la (a:Val aj) (k:Val ab→Option ρ):Option ρ :=
  Ê (fun(c:Val Ã) g=>Κ a (Ù a) c.1 c.2 (fun h i=>g (h,i)) (fun d=>ifb (ilt d 0) (none) (ck (d-(0:Int)) fun b=>ifb (igt b 0) (á ((ilt 0 b)&&(è (Int.toNat b))) (á (ile 0 (í (List.replicate (Int.toNat b) (0:Int)))) (Ê (fun(e:Val Ī) j=>Ğ a (Ù a) e.1 e.2 (fun l m=>j (l,m)) (fun n=>k n)) ((0:Int),(List.take 0 (List.replicate (Int.toNat b) (0:Int))))))) (Ê (fun(f:Val Ī) o=>Ğ a (Ù a) f.1 f.2 (fun p q=>o (p,q)) (fun r=>k r)) ((0:Int),[]))))) ((0:Int),(0:Int))
def ħ (a:Val aj):Option ((Val ab)):=la a some
def pr (al:Val aj) (rec:Val ab→Option ((Val aj))) (a:Int) (b:Val aj) (y:Val ab) (c:Val aj→Option ρ):Option ρ :=
  á (è ((List.length ([a]))+(List.length y))) (yg al (b++[(([a])++y)]) (c (b++[(([a])++y)])))
def pu (al:Val aj) (rec:Val ab→Option ((Val aj))) (e:Val ab) (f:Int) (b:Val ab) (a:Int) (d:Val aj) (g:Int→Val aj→Option ρ) (h:Val aj→Option ρ):Option ρ :=
  ifb (ilt a f) (Ĥ e a fun i=>á ((ile 0 a)&&(ile a (í b))) (ck (a+(1:Int)) fun c=>á ((ile 0 c)&&(ile c (í b))) (Ä (ħ ([(List.take (Int.toNat a) b),(List.drop (Int.toNat c) b)])) fun j=>Ä (rec j) fun k=>yd (fun(l:Val aj) (m:Val ab) n=>pr al rec i l m (fun o=>n o)) k (d) (fun p=>ck (a+(1:Int)) fun q=>g q p)))) (h d)
def xf (al:Val aj) (rec:Val ab→Option ((Val aj))) (mm:Val ab) (k:((Val aj))×((Val ab))→Option ρ):Option ρ :=
  ifb (ieq (Ù mm) 0) (yg al (([])++[[]]) (k ((([])++[[]]),mm))) (Ê (fun(a:Val bg) b=>pu al rec mm (Ù mm) mm a.1 a.2 (fun c d=>b (c,d)) (fun e=>k (e,mm))) ((0:Int),[]))
def mh (al:Val ag) (rec:Val ai→Option ((Val ag))) (a:Val ab) (b:Val ag) (y:Val aj) (c:Val ag→Option ρ):Option ρ :=
  á (è ((List.length ([a]))+(List.length y))) (yg al (b++[(([a])++y)]) (c (b++[(([a])++y)])))
def mi (al:Val ag) (rec:Val ai→Option ((Val ag))) (a:Val ai) (b:Val ag) (y:Val ab) (c:Val ag→Option ρ):Option ρ :=
  á (ile 1 (í a)) (Ä (rec (List.drop 1 a)) fun d=>yd (fun(e:Val ag) (f:Val aj) g=>mh al rec y e f (fun h=>g h)) d (b) (fun i=>c i))
def rV (al:Val ag) (rec:Val ai→Option ((Val ag))) (mm:Val ai) (k:((Val ag))×((Val ai))→Option ρ):Option ρ :=
  ifb (ieq (Ù mm) 0) (yg al (([])++[[]]) (k ((([])++[[]]),mm))) (Ĥ mm (0:Int) fun a=>Ä (yP a.2) fun b=>yd (fun(c:Val ag) (d:Val ab) e=>mi al rec mm c d (fun f=>e f)) b ([]) (fun g=>k (g,mm)))
def iu (al:Val ab) (rec:Val ab→Option ((Val ab))) (d:Val ab) (e:Int) (a:Int) (b:Val ab) (f:Int→Val ab→Option ρ) (g:Val ab→Option ρ):Option ρ :=
  ifb (ilt a e) (Ĥ d a fun c=>yg al (b++[c]) (ck (a+(1:Int)) fun h=>f h (b++[c]))) (g b)
def jC (al:Val ab) (rec:Val ab→Option ((Val ab))) (mm:Val ab) (k:((Val ab))×((Val ab))→Option ρ):Option ρ :=
  Ê (fun(a:Val Ī) b=>iu al rec mm (Ù mm) a.1 a.2 (fun c d=>b (c,d)) (fun e=>k (e,mm))) ((0:Int),[])
def ζ (b:Val ab) (c:Int) (d:Int) (a:Int) (e:Int→Option ρ) (f:Int→Option ρ) (g:Unit→Option ρ):Option ρ :=
  ifb (ilt a d) (Ĥ b a fun h=>ifb (ieq c h) (f a) (ck (a+(1:Int)) fun i=>e i)) (g ())
def ml (a:Val ab) (b:Int) (k:Int→Option ρ):Option ρ :=
  Ê (fun(c:Int) d=>ζ a b (Ù a) c (fun e=>d e) (fun f=>k f) (fun _=>k (-1:Int))) (0:Int)
def g8 (a:Val ab) (b:Int):Option (Int):=ml a b some
def jD (a:Val ab) (b:Int) (k:Bool→Option ρ):Option ρ :=
  Ä (g8 a b) fun c=>k (ige c 0)
def Û (a:Val ab) (b:Int):Option (Bool):=jD a b some
def vk (f:Val ac) (g:Int) (d:Int) (a:Int) (b:Val ab) (e:Int→Val ab→Option ρ) (h:Val ab→Option ρ):Option ρ :=
  ifb (ilt a g) (Ĥ f a fun c=>Ä (Û c.2.2.1 d) fun i=>Ä (Û c.2.2.2.1 d) fun j=>ifb (!(i==j)) (á (è ((List.length b)+(List.length ([c.2.1])))) (ck (a+(1:Int)) fun k=>e k (b++([c.2.1])))) (ck (a+(1:Int)) fun l=>e l b)) (h b)
def vh (e:Val aa) (f:Int) (g:Int) (a:Int) (b:Val ab) (d:Int→Val ab→Option ρ) (h:Val ab→Option ρ):Option ρ :=
  ifb (ilt a f) (Ĥ e a fun c=>ifb (ieq c.1 g) (á (è ((List.length b)+(List.length ([c.2])))) (ck (a+(1:Int)) fun i=>d i (b++([c.2])))) (ck (a+(1:Int)) fun j=>d j b)) (h b)
def QZ (a:Val É) (b:Val Ö) (k:Val ab→Option ρ):Option ρ :=
  Ê (fun(d:Val Ī) f=>vk a.2.2.2.2.1 (Ù a.2.2.2.2.1) b.1 d.1 d.2 (fun g h=>f (g,h)) (fun i=>Ê (fun(e:Val Ī) j=>vh a.2.2.2.2.2 (Ù a.2.2.2.2.2) b.1 e.1 e.2 (fun l m=>j (l,m)) (fun c=>á (è (List.length c)) (á (è (List.length (wE c))) (k (zd (wE c)))))) ((0:Int),i))) ((0:Int),[b.2.1])
def oG (a:Val É) (b:Val Ö):Option ((Val ab)):=QZ a b some
def rj (e:Val ab) (f:Int) (c:Int) (a:Int) (b:Val aa) (g:Int→Val aa→Option ρ) (h:Val aa→Option ρ):Option ρ :=
  ifb (ilt a f) (Ĥ e a fun d=>á (è ((List.length b)+(List.length ([(c,d)])))) (ck (a+(1:Int)) fun i=>g i (b++([(c,d)])))) (h b)
def rk (f:Val ae) (g:Int) (h:Int) (i:Int) (j:Val ae) (k:Val aa) (l:Val af) (m:Val ac) (n:Val aa) (a:Int) (b:Val aa) (o:Int→Val aa→Option ρ) (p:Val aa→Option ρ):Option ρ :=
  ifb (ilt a g) (Ĥ f a fun c=>Ä (oG ((h,i),j,k,l,m,n) c) fun d=>Ê (fun(e:Val bc) q=>rj d (Ù d) c.1 e.1 e.2 (fun r s=>q (r,s)) (fun t=>ck (a+(1:Int)) fun u=>o u t)) ((0:Int),b)) (p b)
def KJ (a:Val É) (k:Val aa→Option ρ):Option ρ :=
  Ê (fun(b:Val bc) c=>rk a.2.1 (Ù a.2.1) a.1.1 a.1.2 a.2.1 a.2.2.1 a.2.2.2.1 a.2.2.2.2.1 a.2.2.2.2.2 b.1 b.2 (fun d e=>c (d,e)) (fun f=>k f)) ((0:Int),[])
def pV (a:Val É):Option ((Val aa)):=KJ a some
def FN (a:Val Ã) (b:Int) (c:Int) (k:Bool→Option ρ):Option ρ :=
  ifb (ile b a.1) (ifb (ile a.1 a.2) (k (ile a.2 c)) (k false)) (k false)
def Ζ (a:Val Ã) (b:Int) (c:Int):Option (Bool):=FN a b c some
def FF (a:Int) (b:Int) (c:Int) (k:Bool→Option ρ):Option ρ :=
  ifb (ile b a) (k (ile a c)) (k false)
def Ě (a:Int) (b:Int) (c:Int):Option (Bool):=FF a b c some
def KP (a:Int) (k:Bool→Option ρ):Option ρ :=
  Ä (Ě a (0:Int) (20000:Int)) fun b=>k b
def lB (a:Int):Option (Bool):=KP a some
def Qz (a:Int) (k:Int→Option ρ):Option ρ :=
  ifb (ilt a 0) (k (IntKind.wrap .u64 (0-(IntKind.wrap .u64 a)))) (k (IntKind.wrap .u64 a))
def rI (a:Int):Option (Int):=Qz a some
def yI (b:Int) (a:Int) (c:Int→Int→Option ρ) (d:Int→Option ρ):Option ρ :=
  ifb (ine a 0) (ifb (yk a 0) (none) (c a (Int.tmod b a))) (d b)
def Ww (b:Int) (c:Int) (k:Int→Option ρ):Option ρ :=
  Ê (fun(a:Val bj) d=>yI a.1 a.2 (fun e f=>d (e,f)) (fun g=>k g)) (b,c)
def Lz (a:Int) (b:Int):Option (Int):=Ww a b some
def Kx (a:Val Ã) (k:Bool→Option ρ):Option ρ :=
  ifb (ige a.2 1) (ifb (ile a.2 2147483647) (Ä (rI a.1) fun b=>ifb (ile b 2147483647) (Ä (rI a.1) fun c=>Ä (rI a.2) fun d=>Ä (Lz c d) fun e=>k (ieq e 1)) (k false)) (k false)) (k false)
def tU (a:Val Ã):Option (Bool):=Kx a some
def BM (a:Val Ö) (k:Bool→Option ρ):Option ρ :=
  Ä (tU a.2.2.2.2.1) fun b=>ifb b (Ä (Ě a.2.2.2.2.1.1 (-1000:Int) (1000:Int)) fun c=>ifb c (Ä (Ě a.1 (1:Int) (1099511627776:Int)) fun d=>ifb d (Ä (lB a.2.1) fun e=>ifb e (Ä (Ě a.2.2.1 (1:Int) (1125899906842624:Int)) fun f=>ifb f (Ä (Ζ a.2.2.2.1 (-1073741824:Int) (1073741824:Int)) fun g=>ifb g (ifb (ile a.2.2.2.2.1.2 100) (Ä (Ě a.2.2.2.2.2 (0:Int) (1048576:Int)) fun h=>k h) (k false)) (k false)) (k false)) (k false)) (k false)) (Ä (Ě a.1 (1:Int) (1099511627776:Int)) fun i=>ifb i (Ä (lB a.2.1) fun j=>ifb j (Ä (Ě a.2.2.1 (1:Int) (1125899906842624:Int)) fun l=>ifb l (Ä (Ζ a.2.2.2.1 (-1073741824:Int) (1073741824:Int)) fun m=>ifb m (k false) (k false)) (k false)) (k false)) (k false))) (Ä (Ě a.1 (1:Int) (1099511627776:Int)) fun n=>ifb n (Ä (lB a.2.1) fun o=>ifb o (Ä (Ě a.2.2.1 (1:Int) (1125899906842624:Int)) fun p=>ifb p (Ä (Ζ a.2.2.2.1 (-1073741824:Int) (1073741824:Int)) fun q=>ifb q (k false) (k false)) (k false)) (k false)) (k false))
def vz (a:Val Ö):Option (Bool):=BM a some
def iP (e:Val ae) (f:Int) (g:Val ae) (a:Int) (b:Int→Option ρ) (c:Int→Option ρ) (h:Unit→Option ρ):Option ρ :=
  ifb (ilt a f) (Ĥ e a fun d=>Ä (vz d) fun i=>ifb (!i) (c (1:Int)) (ifb (igt a 0) (ck (a-(1:Int)) fun j=>Ĥ g j fun k=>ifb (ile d.1 k.1) (c (6:Int)) (ck (a+(1:Int)) fun l=>b l)) (ck (a+(1:Int)) fun m=>b m))) (h ())
def pO (a:Val É) (k:Int→Option ρ):Option ρ :=
  Ê (fun(b:Int) c=>iP a.2.1 (Ù a.2.1) a.2.1 b (fun d=>c d) (fun e=>k e) (fun _=>k (0:Int))) (0:Int)
def ź (a:Val É):Option (Int):=pO a some
def mN (d:Val ae) (e:Int) (a:Int) (b:Val am) (f:Int→Val am→Option ρ) (g:Val am→Option ρ):Option ρ :=
  ifb (ilt a e) (Ĥ d a fun c=>ck (a+(1:Int)) fun h=>f h (Jj (k:=tI) (v:=Ö) c.1 c b)) (g b)
def BJ (a:Val É) (k:Val am→Option ρ):Option ρ :=
  Ê (fun(b:(Val (.pair tI am))) c=>mN a.2.1 (Ù a.2.1) b.1 b.2 (fun d e=>c (d,e)) (fun f=>k f)) ((0:Int),[])
def Ł (a:Val É):Option ((Val am)):=BJ a some
def se (a:Val am) (b:Int) (c:Int) (k:Int→Option ρ):Option ρ :=
  Mh (k:=tI) (v:=Ö) b a (fun d=>ifb (ilt c d.2.1) (k (4:Int)) (k (0:Int))) (k (5:Int))
def iF (a:Val am) (b:Int) (c:Int):Option (Int):=se a b c some
def BL (b:Int) (a:Int) (c:(Val (.ptr am))) (k:Int→Option ρ):Option ρ :=
  Ä (lB a) fun d=>ifb (!d) (k (1:Int)) (Ä (iF c b a) fun e=>k e)
def ł (a:Int) (b:Int) (c:(Val (.ptr am))):Option (Int):=BL a b c some
def jZ (d:Val af) (e:Int) (f:Int) (g:Int) (h:Int) (a:Int) (b:Int→Option ρ) (i:Int→Option ρ) (j:Unit→Option ρ):Option ρ :=
  ifb (ilt a e) (Ĥ d a fun c=>ifb (ieq c.1 f) (ifb (ile c.2.1.1 h) (ifb (ile g c.2.1.2) (i a) (ck (a+(1:Int)) fun k=>b k)) (ck (a+(1:Int)) fun l=>b l)) (ck (a+(1:Int)) fun m=>b m)) (j ())
def Ε (d:Val aa) (e:Int) (f:Int) (g:Int) (h:Int) (a:Int) (b:Int→Option ρ) (i:Int→Option ρ) (j:Unit→Option ρ):Option ρ :=
  ifb (ilt a e) (Ĥ d a fun c=>ifb (ieq c.1 f) (Ä (Ě c.2 g h) fun k=>ifb k (i a) (ck (a+(1:Int)) fun l=>b l)) (ck (a+(1:Int)) fun m=>b m)) (j ())
def vl (b:Val É) (e:Val am) (c:Int) (k:Int→Option ρ):Option ρ :=
  Ĥ b.2.2.2.1 c fun a=>Ä (Ζ a.2.1 (0:Int) (20000:Int)) fun f=>ifb (!f) (k (1:Int)) (Ä (Ě a.2.2 (0:Int) (1048576:Int)) fun g=>ifb (!g) (k (1:Int)) (Ä (iF e a.1 a.2.1.1) fun d=>ifb (ine d 0) (k d) (á ((ile 0 c)&&(ile c (í b.2.2.2.1))) (Ê (fun(h:Int) i=>jZ (List.take (Int.toNat c) b.2.2.2.1) (Ù (List.take (Int.toNat c) b.2.2.2.1)) a.1 a.2.1.1 a.2.1.2 h (fun j=>i j) (fun l=>ifb (ige l 0) (k (9:Int)) (Ê (fun(m:Int) n=>Ε b.2.2.1 (Ù b.2.2.1) a.1 a.2.1.1 a.2.1.2 m (fun o=>n o) (fun p=>ifb (ige p 0) (k (9:Int)) (k (0:Int))) (fun _=>k (0:Int))) (0:Int))) (fun _=>Ê (fun(q:Int) r=>Ε b.2.2.1 (Ù b.2.2.1) a.1 a.2.1.1 a.2.1.2 q (fun s=>r s) (fun t=>ifb (ige t 0) (k (9:Int)) (k (0:Int))) (fun _=>k (0:Int))) (0:Int))) (0:Int)))))
def Ν (a:Val É) (b:Val am) (c:Int):Option (Int):=vl a b c some
def vg (c:Int) (d:Val ab) (b:Val ab) (a:Int) (e:Int→Option ρ) (f:Int→Option ρ) (g:Unit→Option ρ):Option ρ :=
  ifb (ilt a c) (á ((ile 0 a)&&(ilt a (í b))) (Ĺ b (Int.toNat a) fun h=>Ä (Û d h) fun i=>ifb i (f a) (ck (a+(1:Int)) fun j=>e j))) (g ())
def kg (f:Val ab) (b:Int) (c:Int) (a:Val ab) (d:Int→Int→Val ab→Option ρ) (g:Val Ī→Option ρ):Option ρ :=
  ifb (ilt c (Ù a)) (á ((ile 0 c)&&(ilt c (í a))) (Ĺ a (Int.toNat c) fun e=>Ä (Û f e) fun h=>ifb (!h) (á ((ile 0 b)&&(ilt b (í a))) (Ĺ a (Int.toNat b) fun l=>ck (b+(1:Int)) fun i=>ck (c+(1:Int)) fun j=>d i j (List.set a (Int.toNat b) e))) (ck (c+(1:Int)) fun k=>d b k a))) (g (b,a))
def QQ (b:Val ab) (e:Val ab) (k:Val ab→Option ρ):Option ρ :=
  á (è (List.length b)) (Ê (fun(f:Int) g=>vg (Ù b) e b f (fun h=>g h) (fun c=>ifb (ieq c (-1:Int)) (k b) (ck (c+(1:Int)) fun i=>Ê (fun(d:Val aP) j=>kg e d.1 d.2.1 d.2.2 (fun l m n=>j (l,m,n)) (fun a=>á ((ile 0 a.1)&&(ile a.1 (í a.2))) (á ((ile 0 a.1)&&(ile a.1 (í (List.take (Int.toNat a.1) a.2++List.replicate (List.length a.2-(Int.toNat a.1)) (0:Int)++List.drop ((Int.toNat a.1)+(List.length a.2-(Int.toNat a.1))) a.2)))) (k (List.take (Int.toNat a.1) (List.drop 0 (List.take (Int.toNat a.1) a.2++List.replicate (List.length a.2-(Int.toNat a.1)) (0:Int)++List.drop ((Int.toNat a.1)+(List.length a.2-(Int.toNat a.1))) a.2))))))) (c,i,b))) (fun _=>k b)) (0:Int))
def Μ (a:Val ab) (b:Val ab):Option ((Val ab)):=QQ a b some
def oB (e:Val ab) (f:Val ab) (g:Int) (a:Int) (b:Int→Option ρ) (c:Bool→Option ρ) (h:Unit→Option ρ):Option ρ :=
  ifb (ilt a g) (Ĥ f a fun d=>Ä (Ě d (1:Int) (1099511627776:Int)) fun i=>ifb (!i) (c false) (ifb (igt a 0) (ck (a-(1:Int)) fun j=>Ĥ e j fun k=>ifb (ile d k) (c false) (ck (a+(1:Int)) fun l=>b l)) (ck (a+(1:Int)) fun m=>b m))) (h ())
def FM (a:Val ab) (k:Bool→Option ρ):Option ρ :=
  Ê (fun(b:Int) c=>oB a a (Ù a) b (fun d=>c d) (fun e=>k e) (fun _=>k (ile (Ù a) 6))) (0:Int)
def mD (a:Val ab):Option (Bool):=FM a some
def vm (d:Val af) (e:Int) (f:Int) (g:Int) (a:Int) (c:Int→Option ρ) (h:Int→Option ρ) (i:Unit→Option ρ):Option ρ :=
  ifb (ilt a e) (Ĥ d a fun b=>ifb (ieq b.1 f) (Ä (Ě g b.2.1.1 b.2.1.2) fun j=>ifb j (h a) (ck (a+(1:Int)) fun k=>c k)) (ck (a+(1:Int)) fun l=>c l)) (i ())
def Q0 (a:Val É) (c:Int) (d:Int) (k:(Val (.pair ic .bool))→Option ρ):Option ρ :=
  Ê (fun(e:Int) f=>vm a.2.2.2.1 (Ù a.2.2.2.1) c d e (fun g=>f g) (fun b=>ifb (ilt b 0) (k (((0:Int),((0:Int),(0:Int)),(0:Int)),false)) (Ĥ a.2.2.2.1 b fun h=>k (h,true))) (fun _=>k (((0:Int),((0:Int),(0:Int)),(0:Int)),false))) (0:Int)
def vA (a:Val É) (b:Int) (c:Int):Option ((Val (.pair ic .bool))):=Q0 a b c some
def iw (b:Val ac) (c:Int) (d:Int) (a:Int) (e:Int→Option ρ) (f:Int→Option ρ) (g:Unit→Option ρ):Option ρ :=
  ifb (ilt a c) (Ĥ b a fun h=>ifb (ieq h.1 d) (f a) (ck (a+(1:Int)) fun i=>e i)) (g ())
def iv (c:Val am) (b:Int) (d:Val ab) (e:Int) (f:Int) (a:Int) (g:Int→Option ρ) (h:Int→Option ρ) (i:Unit→Option ρ):Option ρ :=
  ifb (ilt a e) (Ĥ d a fun j=>Ä (iF c j f) fun k=>ifb (ieq k b) (h b) (ck (a+(1:Int)) fun l=>g l)) (i ())
def Ŏ (d:Val am) (b:Val ab) (e:Int) (f:Int) (c:Val ab) (a:Int) (g:Int→Option ρ) (h:Int→Option ρ) (i:Unit→Option ρ):Option ρ :=
  ifb (ilt a e) (á ((ile 0 a)&&(ilt a (í c))) (Ĺ c (Int.toNat a) fun j=>Ê (fun(k:Int) l=>iv d j b (Ù b) f k (fun m=>l m) (fun n=>h n) (fun _=>ck (a+(1:Int)) fun o=>g o)) (0:Int))) (i ())
def ō (b:Val ab) (c:Int) (d:Int) (e:Int) (f:Val ae) (g:Val aa) (h:Val af) (i:Val ac) (j:Val aa) (k:Int) (a:Int) (l:Int→Option ρ) (m:Int→Option ρ) (n:Unit→Option ρ):Option ρ :=
  ifb (ilt a c) (Ĥ b a fun o=>Ä (vA ((d,e),f,g,h,i,j) o k) fun p=>ifb p.2 (m (9:Int)) (ck (a+(1:Int)) fun q=>l q)) (n ())
def oc (b:Val É) (f:Val am) (c:Int) (k:Int→Option ρ):Option ρ :=
  Ĥ b.2.2.2.2.1 c fun a=>Ä (Ě a.1 (1:Int) (1099511627776:Int)) fun l=>ifb (!l) (k (1:Int)) (Ä (lB a.2.1) fun m=>ifb (!m) (k (1:Int)) (Ä (Ě a.2.2.2.2.1 (-1125899906842624:Int) (1125899906842624:Int)) fun n=>ifb (!n) (k (1:Int)) (Ä (Ě a.2.2.2.2.2.1 (0:Int) (1073741824:Int)) fun o=>ifb (!o) (k (1:Int)) (Ä (Ζ a.2.2.2.2.2.2 (-10000:Int) (10000:Int)) fun p=>ifb (!p) (k (1:Int)) (Ä (mD a.2.2.1) fun q=>ifb (!q) (k (1:Int)) (Ä (mD a.2.2.2.1) fun r=>ifb (!r) (k (1:Int)) (á ((ile 0 c)&&(ile c (í b.2.2.2.2.1))) (Ê (fun(s:Int) t=>iw (List.take (Int.toNat c) b.2.2.2.2.1) (Ù (List.take (Int.toNat c) b.2.2.2.2.1)) a.1 s (fun u=>t u) (fun v=>ifb (ige v 0) (k (6:Int)) (Ä (ħ ([a.2.2.1,a.2.2.2.1])) fun d=>Ê (fun(w:Int) x=>Ŏ f d (Ù ([(5:Int),(4:Int)])) a.2.1 ([(5:Int),(4:Int)]) w (fun y=>x y) (fun z=>k z) (fun _=>Ê (fun(A:Int) B=>ō d (Ù d) b.1.1 b.1.2 b.2.1 b.2.2.1 b.2.2.2.1 b.2.2.2.2.1 b.2.2.2.2.2 a.2.1 A (fun C=>B C) (fun D=>k D) (fun _=>Ä (Μ a.2.2.1 a.2.2.2.1) fun g=>Ä (Μ a.2.2.2.1 a.2.2.1) fun h=>ifb (igt (Ù g) 1) (k (1:Int)) (ifb (igt (Ù h) 1) (k (1:Int)) (ck ((Ù g)+(Ù h)) fun E=>ifb (ieq E 0) (k (1:Int)) (k (0:Int)))))) (0:Int))) (0:Int))) (fun _=>Ä (ħ ([a.2.2.1,a.2.2.2.1])) fun e=>Ê (fun(F:Int) G=>Ŏ f e (Ù ([(5:Int),(4:Int)])) a.2.1 ([(5:Int),(4:Int)]) F (fun H=>G H) (fun I=>k I) (fun _=>Ê (fun(J:Int) K=>ō e (Ù e) b.1.1 b.1.2 b.2.1 b.2.2.1 b.2.2.2.1 b.2.2.2.2.1 b.2.2.2.2.2 a.2.1 J (fun L=>K L) (fun M=>k M) (fun _=>Ä (Μ a.2.2.1 a.2.2.2.1) fun i=>Ä (Μ a.2.2.2.1 a.2.2.1) fun j=>ifb (igt (Ù i) 1) (k (1:Int)) (ifb (igt (Ù j) 1) (k (1:Int)) (ck ((Ù i)+(Ù j)) fun N=>ifb (ieq N 0) (k (1:Int)) (k (0:Int)))))) (0:Int))) (0:Int))) (0:Int)))))))))
def ŋ (a:Val É) (b:Val am) (c:Int):Option (Int):=oc a b c some
def nM (b:Val É) (s:Val am):Option (List Int) :=
  Ä (Jp (fun u=>ł u.1 u.2 s) (b.2.2.1:List (Int×Int))) fun a=>Ä (Jp (fun i=>Ν b s i) (wA (b.2.2.2.1:List (Val ic)).length)) fun c =>
    Ä (Jp (fun i=>ŋ b s i) (wA (b.2.2.2.2.1:List (Val â)).length)) fun d=>Ä (Jp (fun u=>ł u.1 u.2 s) (b.2.2.2.2.2:List (Int×Int))) fun e=>some (a++(c++(d++e)))
def KY (a:Val É) (k:Int→Option ρ):Option ρ :=
  Ä (Ζ a.1 (0:Int) (1000000:Int)) fun d=>ifb (!d) (k (1:Int)) (ifb (igt (Ù a.2.1) 12) (k (2:Int)) (ifb (igt (Ù a.2.2.1) 40) (k (2:Int)) (ifb (igt (Ù a.2.2.2.1) 12) (k (2:Int)) (ifb (igt (Ù a.2.2.2.2.1) 40) (k (2:Int)) (ifb (igt (Ù a.2.2.2.2.2) 10) (k (2:Int)) (Ä (ź a) fun b=>ifb (ine b 0) (k b) (Ä (Ł a) fun e=>SH (nM a e) (fun f=>k f) (Ä (pV a) fun c=>ifb (igt (Ù c) 59) (k (2:Int)) (ck ((2:Int)*(Ù a.2.1)) fun g=>ck ((Ù c)-(Ù a.2.1)) fun h=>ck ((2:Int)*h) fun i=>ck (g+i) fun j=>ck ((2:Int)*(Ù a.2.2.2.2.1)) fun l=>ck (j+l) fun m=>ifb (igt m 300) (k (2:Int)) (k (0:Int)))))))))))
def ĭ (a:Val É):Option (Int):=KY a some
def Eh (a:List Int):Option (Int×Int×Int×Int×Int):=some (a.getD 0 0,a.getD 1 0,a.getD 2 0,a.getD 3 0,a.getD 4 0)
def oq (b:Val ac) (a:Int) (e:Int→Option ρ) (c:Bool→Option ρ) (d:Unit→Option ρ):Option ρ :=
  ifb (ilt a (Ù b)) (ifb (ilt a 60) (Ĥ b a fun f=>ifb (igt (Ù f.2.2.1) 9) (c false) (Ĥ b a fun g=>ifb (igt (Ù g.2.2.2.1) 9) (c false) (ck (a+(1:Int)) fun h=>e h))) (d ())) (d ())
def kL (b:Val ai) (a:Int) (d:Int→Option ρ) (e:Bool→Option ρ) (c:Unit→Option ρ):Option ρ :=
  ifb (ilt a (Ù b)) (ifb (ilt a 8) (Ĥ b a fun f=>ifb (igt (Ù f.2) 9) (e false) (ck (a+(1:Int)) fun g=>d g)) (c ())) (c ())
def E6 (a:Val Â) (k:Bool→Option ρ):Option ρ :=
  Ê (fun(b:Int) c=>oq a.1.2.2.2.2.1 b (fun d=>c d) (fun e=>k e) (fun _=>Ê (fun(f:Int) g=>kL a.2 f (fun h=>g h) (fun i=>k i) (fun _=>ifb (ile (Ù a.1.2.1) 6) (ifb (ile (Ù a.1.2.2.1) 20) (ifb (ile (Ù a.1.2.2.2.1) 6) (ifb (ile (Ù a.1.2.2.2.2.1) 8) (ifb (ile (Ù a.1.2.2.2.2.2) 6) (k (ile (Ù a.2) 6)) (k false)) (k false)) (k false)) (k false)) (k false))) (0:Int))) (0:Int)
def yS (a:Val Â):Option (Bool):=E6 a some
def rt (b:Val ab) (c:Int) (a:Int) (d:Int→Option ρ) (e:Int→Option ρ) (f:Unit→Option ρ):Option ρ :=
  ifb (ilt a c) (Ĥ b a fun g=>Ä (lB g) fun h=>ifb (!h) (e a) (ck (a+(1:Int)) fun i=>d i)) (f ())
def KT (a:Val É) (b:Int) (c:Val ab) (k:Int→Option ρ):Option ρ :=
  Ä (ĭ a) fun d=>ifb (ine d 0) (k d) (Ê (fun(e:Int) f=>rt c (Ù c) e (fun g=>f g) (fun h=>ifb (ige h 0) (k (1:Int)) (Ä (Ł a) fun i=>Mh (k:=tI) (v:=Ö) b i (fun l=>k (0:Int)) (k (5:Int)))) (fun _=>Ä (Ł a) fun j=>Mh (k:=tI) (v:=Ö) b j (fun m=>k (0:Int)) (k (5:Int)))) (0:Int))
def Er (a:Val É) (b:Int) (c:Val ab):Option (Int):=KT a b c some
def Q9 (a:Val É) (b:Int) (c:Int) (k:Val aU→Option ρ):Option ρ :=
  Ä (Er a b ([c])) fun d=>ifb (ine d 0) (k (false,d)) (Ä (vA a b c) fun e=>k (e.2,(0:Int)))
def yZ (a:Val É) (b:Int) (c:Int):Option ((Val aU)):=Q9 a b c some
def mZ (b:Val ab) (a:Int) (c:Int→Option ρ) (d:Int→Option ρ) (e:Unit→Option ρ):Option ρ :=
  ifb (ilt a (Ù b)) (Ĥ b a fun f=>ck (a-(1:Int)) fun g=>Ĥ b g fun h=>ifb (ile f h) (d (1:Int)) (ck (a+(1:Int)) fun i=>c i)) (e ())
def mY (d:Val ae) (e:Int) (a:Int) (b:Val aW) (f:Int→Val aW→Option ρ) (g:Val aW→Option ρ):Option ρ :=
  ifb (ilt a e) (Ĥ d a fun c=>ck (a+(1:Int)) fun h=>f h (Jj (k:=tI) (v:=tI) c.1 c.2.1 b)) (g b)
def mX (b:Val ab) (c:Int) (d:Val aW) (a:Int) (e:Int→Option ρ) (f:Int→Option ρ) (g:Unit→Option ρ):Option ρ :=
  ifb (ilt a c) (Ĥ b a fun h=>Mh (k:=tI) (v:=tI) h d (fun j=>ck (a+(1:Int)) fun i=>e i) (f a)) (g ())
def kq (e:Val ab) (f:Int) (b:Int) (g:Val aW) (a:Int) (c:Int→Option ρ) (d:Int→Option ρ) (h:Unit→Option ρ):Option ρ :=
  ifb (ilt a f) (Ĥ e a fun i=>Mh (k:=tI) (v:=tI) i g (fun j=>ifb (ilt b j) (d a) (ck (a+(1:Int)) fun l=>c l)) (ifb (ilt b 0) (d a) (ck (a+(1:Int)) fun m=>c m))) (h ())
def Ň (l:Val ab) (m:Int) (b:Int) (c:Int) (d:Val ae) (e:Val aa) (f:Val af) (g:Val ac) (h:Val aa) (i:Int) (a:Int) (n:Int→Option ρ) (j:Int→Option ρ) (o:Unit→Option ρ):Option ρ :=
  ifb (ilt a m) (Ĥ l a fun k=>Ä (yZ ((b,c),d,e,f,g,h) k i) fun p=>ck (i+(1:Int)) fun q=>Ä (yZ ((b,c),d,e,f,g,h) k q) fun r=>ifb p.1 (j a) (ifb r.1 (j a) (ck (a+(1:Int)) fun s=>n s))) (o ())
def JP (a:Val É) (d:Val ai) (c:Int) (k:Int→Option ρ):Option ρ :=
  Ĥ d c fun b=>ifb (ilt b.1 0) (k (1:Int)) (ifb (ige b.1 20000) (k (1:Int)) (ifb (ilt (Ù b.2) 2) (k (1:Int)) (ifb (igt (Ù b.2) 5) (k (1:Int)) (Ê (fun(g:Int) h=>mZ b.2 g (fun i=>h i) (fun j=>k j) (fun _=>Ê (fun(f:(Val (.pair tI aW))) l=>mY a.2.1 (Ù a.2.1) f.1 f.2 (fun m n=>l (m,n)) (fun e=>Ê (fun(o:Int) p=>mX b.2 (Ù b.2) e o (fun q=>p q) (fun r=>ifb (ige r 0) (k (5:Int)) (Ê (fun(s:Int) t=>kq b.2 (Ù b.2) b.1 e s (fun u=>t u) (fun v=>ifb (ige v 0) (k (4:Int)) (ifb (igt c 0) (ck (c-(1:Int)) fun w=>Ĥ d w fun x=>ifb (ile b.1 x.1) (k (6:Int)) (Ê (fun(y:Int) z=>Ň b.2 (Ù b.2) a.1.1 a.1.2 a.2.1 a.2.2.1 a.2.2.2.1 a.2.2.2.2.1 a.2.2.2.2.2 b.1 y (fun A=>z A) (fun B=>ifb (ige B 0) (k (9:Int)) (k (0:Int))) (fun _=>k (0:Int))) (0:Int))) (Ê (fun(C:Int) D=>Ň b.2 (Ù b.2) a.1.1 a.1.2 a.2.1 a.2.2.1 a.2.2.2.1 a.2.2.2.2.1 a.2.2.2.2.2 b.1 C (fun E=>D E) (fun F=>ifb (ige F 0) (k (9:Int)) (k (0:Int))) (fun _=>k (0:Int))) (0:Int)))) (fun _=>ifb (igt c 0) (ck (c-(1:Int)) fun G=>Ĥ d G fun H=>ifb (ile b.1 H.1) (k (6:Int)) (Ê (fun(I:Int) J=>Ň b.2 (Ù b.2) a.1.1 a.1.2 a.2.1 a.2.2.1 a.2.2.2.1 a.2.2.2.2.1 a.2.2.2.2.2 b.1 I (fun K=>J K) (fun L=>ifb (ige L 0) (k (9:Int)) (k (0:Int))) (fun _=>k (0:Int))) (0:Int))) (Ê (fun(M:Int) N=>Ň b.2 (Ù b.2) a.1.1 a.1.2 a.2.1 a.2.2.1 a.2.2.2.1 a.2.2.2.2.1 a.2.2.2.2.2 b.1 M (fun O=>N O) (fun P=>ifb (ige P 0) (k (9:Int)) (k (0:Int))) (fun _=>k (0:Int))) (0:Int)))) (0:Int))) (fun _=>Ê (fun(Q:Int) R=>kq b.2 (Ù b.2) b.1 e Q (fun S=>R S) (fun T=>ifb (ige T 0) (k (4:Int)) (ifb (igt c 0) (ck (c-(1:Int)) fun U=>Ĥ d U fun V=>ifb (ile b.1 V.1) (k (6:Int)) (Ê (fun(W:Int) X=>Ň b.2 (Ù b.2) a.1.1 a.1.2 a.2.1 a.2.2.1 a.2.2.2.1 a.2.2.2.2.1 a.2.2.2.2.2 b.1 W (fun Y=>X Y) (fun Z=>ifb (ige Z 0) (k (9:Int)) (k (0:Int))) (fun _=>k (0:Int))) (0:Int))) (Ê (fun(dc:Int) df=>Ň b.2 (Ù b.2) a.1.1 a.1.2 a.2.1 a.2.2.1 a.2.2.2.1 a.2.2.2.2.1 a.2.2.2.2.2 b.1 dc (fun dg=>df dg) (fun dh=>ifb (ige dh 0) (k (9:Int)) (k (0:Int))) (fun _=>k (0:Int))) (0:Int)))) (fun _=>ifb (igt c 0) (ck (c-(1:Int)) fun di=>Ĥ d di fun dj=>ifb (ile b.1 dj.1) (k (6:Int)) (Ê (fun(dk:Int) dl=>Ň b.2 (Ù b.2) a.1.1 a.1.2 a.2.1 a.2.2.1 a.2.2.2.1 a.2.2.2.2.1 a.2.2.2.2.2 b.1 dk (fun dm=>dl dm) (fun dt=>ifb (ige dt 0) (k (9:Int)) (k (0:Int))) (fun _=>k (0:Int))) (0:Int))) (Ê (fun(du:Int) dv=>Ň b.2 (Ù b.2) a.1.1 a.1.2 a.2.1 a.2.2.1 a.2.2.2.1 a.2.2.2.2.1 a.2.2.2.2.2 b.1 du (fun dw=>dv dw) (fun dz=>ifb (ige dz 0) (k (9:Int)) (k (0:Int))) (fun _=>k (0:Int))) (0:Int)))) (0:Int))) (0:Int))) ((0:Int),[]))) (1:Int)))))
def Ej (a:Val É) (b:Val ai) (c:Int):Option (Int):=JP a b c some
def m8 (c:Int) (b:Int) (a:Int) (d:Int→Int→Option ρ) (e:Int→Option ρ):Option ρ :=
  ifb (ilt a c) (ck (a+(1:Int)) fun f=>ck (b*f) fun g=>ck (a+(1:Int)) fun h=>d g h) (e b)
def qV (e:Val ai) (f:Int) (g:Int) (h:Int) (i:Val ae) (j:Val aa) (k:Val af) (l:Val ac) (m:Val aa) (n:Val ai) (b:Int) (a:Int) (o:Int→Int→Option ρ) (p:Int→Option ρ) (q:Int→Option ρ):Option ρ :=
  ifb (ilt a f) (Ĥ e a fun r=>Ä (Ej ((g,h),i,j,k,l,m) n a) fun c=>ifb (ine c 0) (p c) (Ê (fun(d:Val Ã) s=>m8 (Ù r.2) d.1 d.2 (fun t u=>s (t,u)) (fun v=>ck (a+(1:Int)) fun w=>o v w)) (b,(0:Int)))) (q b)
def J4 (a:Val Â) (k:Int→Option ρ):Option ρ :=
  Ä (ĭ a.1) fun b=>ifb (ine b 0) (k b) (ifb (igt (Ù a.2) 4) (k (2:Int)) (Ê (fun(c:Val Ã) d=>qV a.2 (Ù a.2) a.1.1.1 a.1.1.2 a.1.2.1 a.1.2.2.1 a.1.2.2.2.1 a.1.2.2.2.2.1 a.1.2.2.2.2.2 a.2 c.1 c.2 (fun e f=>d (e,f)) (fun g=>k g) (fun h=>ifb (igt h 150) (k (2:Int)) (k (0:Int)))) ((1:Int),(0:Int))))
def š (a:Val Â):Option (Int):=J4 a some
def Ħ (c:Val aa) (d:Int) (e:Int) (f:Int) (a:Int) (g:Int→Option ρ) (h:Int→Option ρ) (i:Unit→Option ρ):Option ρ :=
  ifb (ilt a d) (Ĥ c a fun b=>ifb ((yk e b.1)&&((yk f b.2)&&true)) (h a) (ck (a+(1:Int)) fun j=>g j)) (i ())
def ŷ (a:Val aa) (b:Val Ã) (k:Int→Option ρ):Option ρ :=
  Ê (fun(c:Int) d=>Ħ a (Ù a) b.1 b.2 c (fun e=>d e) (fun f=>k f) (fun _=>k (-1:Int))) (0:Int)
def ñ (a:Val aa) (b:Val Ã):Option (Int):=ŷ a b some
def xR (b:Val aT) (a:Val ab) (c:Int) (k:Int→Option ρ):Option ρ :=
  ifb (ieq (Ù a) 0) (k (0:Int)) (Ĥ a (0:Int) fun d=>Ä (ñ b.2.1 (d,c)) fun e=>ck (e+(1:Int)) fun f=>k f)
def ku (a:Val aT) (b:Val ab) (c:Int):Option (Int):=xR a b c some
def vf (f:Int) (g:Int) (h:Val af) (i:Int) (j:Int) (b:Int) (a:Int) (d:Int→Int→Option ρ) (k:Int→Option ρ):Option ρ :=
  ifb (ilt a i) (Ĥ h a fun c=>ck (g-(1:Int)) fun l=>ck ((YH c.2.1.2 l)-(WX c.2.1.1 f)) fun m=>ck (m+1) fun e=>ifb (ieq c.1 j) (ifb (igt e 0) (ck (e*c.2.2) fun n=>ck (b+n) fun o=>ck (a+(1:Int)) fun p=>d o p) (ck (a+(1:Int)) fun q=>d b q)) (ck (a+(1:Int)) fun r=>d b r)) (k b)
def vd (e:Int) (f:Int) (g:Val aa) (h:Int) (i:Int) (a:Int) (b:Val ab) (d:Int→Val ab→Option ρ) (j:Val ab→Option ρ):Option ρ :=
  ifb (ilt a h) (Ĥ g a fun c=>ifb (ieq c.1 i) (ck (f-(1:Int)) fun k=>Ä (Ě c.2 e k) fun l=>ifb l (á (è ((List.length b)+(List.length ([c.2])))) (ck (a+(1:Int)) fun m=>d m (b++([c.2])))) (ck (a+(1:Int)) fun n=>d n b)) (ck (a+(1:Int)) fun o=>d o b)) (j b)
def QO (a:Val É) (b:Val Ö) (d:Int) (e:Int) (k:Int→Option ρ):Option ρ :=
  Ê (fun(f:Val Ã) h=>vf d e a.2.2.2.1 (Ù a.2.2.2.1) b.1 f.1 f.2 (fun i j=>h (i,j)) (fun l=>Ê (fun(g:Val Ī) m=>vd d e a.2.2.1 (Ù a.2.2.1) b.1 g.1 g.2 (fun n o=>m (n,o)) (fun c=>á (è (List.length c)) (á (è (List.length (wE c))) (ck ((Ù (zd (wE c)))*b.2.2.2.2.2) fun p=>ck (l+p) fun q=>k q)))) ((0:Int),[]))) ((0:Int),(0:Int))
def yY (a:Val É) (b:Val Ö) (c:Int) (d:Int):Option (Int):=QO a b c d some
def ob (b:Val am) (a:Val ab) (k:Val Ã→Option ρ):Option ρ :=
  ifb (ieq (Ù a) 0) (k ((0:Int),(1:Int))) (Ĥ a (0:Int) fun c=>Mh (k:=tI) (v:=Ö) c b (fun d=>k d.2.2.2.2.1) (k ((0:Int),(0:Int))))
def iC (a:Val am) (b:Val ab):Option (Val Ã):=ob a b some
def rh (b:Val aa) (c:Int) (a:Int) (d:Int→Option ρ) (e:Int→Option ρ) (f:Unit→Option ρ):Option ρ :=
  ifb (ilt a c) (Ĥ b a fun g=>Ä (tU g) fun h=>ifb (!h) (e (1:Int)) (ck (a+(1:Int)) fun i=>d i)) (f ())
def Kq (a:Val aa) (k:Int→Option ρ):Option ρ :=
  Ê (fun(b:Int) c=>rh a (Ù a) b (fun d=>c d) (fun e=>k e) (fun _=>k (0:Int))) (0:Int)
def jM (a:Val aa):Option (Int):=Kq a some
def BF (d:Int) (e:Int) (k:Val Ch→Option ρ):Option ρ :=
  Ä (rI d) fun b=>Ä (rI e) fun c=>Ä (Lz b c) fun a=>ifb (yk a 0) (none) (ifb (yk a 0) (none) (ifb (igt (IntKind.wrap .u64 (Int.tdiv b a)) 2147483647) (k (((0:Int),(0:Int)),(3:Int))) (ifb (igt (IntKind.wrap .u64 (Int.tdiv c a)) 2147483647) (k (((0:Int),(0:Int)),(3:Int))) (ifb (!((ilt d 0)==(ilt e 0))) (ck (0-(IntKind.wrap .i64 (IntKind.wrap .u64 (Int.tdiv b a)))) fun f=>k ((f,(IntKind.wrap .i64 (IntKind.wrap .u64 (Int.tdiv c a)))),(0:Int))) (k (((IntKind.wrap .i64 (IntKind.wrap .u64 (Int.tdiv b a))),(IntKind.wrap .i64 (IntKind.wrap .u64 (Int.tdiv c a)))),(0:Int)))))))
def pU (a:Int) (b:Int):Option (Val Ch):=BF a b some
def WE (a:Val Ã) (b:Val Ã) (k:Val Ch→Option ρ):Option ρ :=
  Ä (jM ([a,b])) fun c=>ifb (ine c 0) (k (((0:Int),(0:Int)),c)) (ck (a.1*b.2) fun e=>ck (b.1*a.2) fun f=>ck (e-f) fun g=>ck (a.2*b.2) fun h=>Ä (pU g h) fun d=>k (d.1,d.2))
def Ru (a:Val Ã) (b:Val Ã):Option (Val Ch):=WE a b some
def uW (a:Val Ã) (b:Val Ã) (k:Val Ã→Option ρ):Option ρ :=
  Ä (Ru a b) fun c=>k c.1
def vy (a:Val Ã) (b:Val Ã):Option (Val Ã):=uW a b some
def Wz (a:Val Ã) (b:Val Ã) (k:Int→Option ρ):Option ρ :=
  ck (a.1*b.2) fun c=>ck (b.1*a.2) fun d=>ifb ((yk a.1 b.1)&&((yk a.2 b.2)&&true)) (k (0:Int)) (ifb (ilt c d) (k (-1:Int)) (ifb (igt c d) (k (1:Int)) (k (0:Int))))
def LA (a:Val Ã) (b:Val Ã):Option (Int):=Wz a b some
def sd (a:Val ĕ) (k:Bool→Option ρ):Option ρ :=
  Ä (jM ([a.1,a.2])) fun b=>ifb (ieq b 0) (Ä (LA a.1 a.2) fun c=>k (ile c 0)) (k false)
def sl (a:Val ĕ):Option (Bool):=sd a some
def WH (a:Val Ã) (b:Val Ã) (k:Val Ch→Option ρ):Option ρ :=
  Ä (jM ([a,b])) fun c=>ifb (ine c 0) (k (((0:Int),(0:Int)),c)) (ck (a.1*b.1) fun e=>ck (a.2*b.2) fun f=>Ä (pU e f) fun d=>k (d.1,d.2))
def LC (a:Val Ã) (b:Val Ã):Option (Val Ch):=WH a b some
def Ky (c:Val ĕ) (d:Val Ã) (k:Val aa6→Option ρ):Option ρ :=
  Ä (sl c) fun e=>ifb (!e) (k ((((0:Int),(0:Int)),(0:Int),(0:Int)),(1:Int))) (Ä (tU d) fun f=>ifb (!f) (k ((((0:Int),(0:Int)),(0:Int),(0:Int)),(1:Int))) (Ä (LC d c.1) fun a=>ifb (ine a.2 0) (k ((((0:Int),(0:Int)),(0:Int),(0:Int)),a.2)) (Ä (LC d c.2) fun b=>ifb (ine b.2 0) (k ((((0:Int),(0:Int)),(0:Int),(0:Int)),b.2)) (Ä (LA a.1 b.1) fun g=>ifb (igt g 0) (k ((b.1,a.1),(0:Int))) (k ((a.1,b.1),(0:Int)))))))
def LB (a:Val ĕ) (b:Val Ã):Option (Val aa6):=Ky a b some
def uV (b:Val Ã) (a:Val Ã) (k:Val ĕ→Option ρ):Option ρ :=
  Ä (LB ((a.1,(1:Int)),a.2,(1:Int)) b) fun c=>k c.1
def oF (a:Val Ã) (b:Val Ã):Option (Val ĕ):=uV a b some
def FO (c:Val É) (a:Val â) (k:Val ĕ→Option ρ):Option ρ :=
  Ä (Ł c) fun b=>Ä (Μ a.2.2.1 a.2.2.2.1) fun d=>Ä (iC b d) fun e=>Ä (Μ a.2.2.2.1 a.2.2.1) fun f=>Ä (iC b f) fun g=>Ä (vy e g) fun h=>Ä (oF h a.2.2.2.2.2.2) fun i=>k i
def tV (a:Val É) (b:Val â):Option (Val ĕ):=FO a b some
def KR (a:Val É) (b:Val â) (k:Val Ã→Option ρ):Option ρ :=
  ck ((Ù b.2.2.1)-(1:Int)) fun c=>ck ((Ù b.2.2.2.1)-(1:Int)) fun d=>ck ((WX (0:Int) c)*a.1.1) fun e=>ck ((WX (0:Int) d)*a.1.2) fun f=>ck (e-f) fun g=>ck ((WX (0:Int) c)*a.1.2) fun h=>ck ((WX (0:Int) d)*a.1.1) fun i=>ck (h-i) fun j=>k (g,j)
def yh (a:Val É) (b:Val â):Option (Val Ã):=KR a b some
def Kv (b:Int) (a:Int) (k:Int→Option ρ):Option ρ :=
  ifb (yk a 0) (none) (ck (Int.tdiv b a) fun c=>ifb (yk a 0) (none) (ifb (ilt (Int.tmod b a) 0) (ck (c-1) fun d=>k d) (k c)))
def yf (a:Int) (b:Int):Option (Int):=Kv a b some
def QI (a:Val Ã) (k:Val Ã→Option ρ):Option ρ :=
  Ä (jM ([a])) fun b=>ifb (ine b 0) (k ((0:Int),b)) (ck (0-a.1) fun c=>Ä (yf c a.2) fun d=>ck (0-d) fun e=>k (e,(0:Int)))
def IA (a:Val Ã):Option (Val Ã):=QI a some
def KA (a:Val Ã) (k:Val Ã→Option ρ):Option ρ :=
  Ä (jM ([a])) fun b=>ifb (ine b 0) (k ((0:Int),b)) (Ä (yf a.1 a.2) fun c=>k (c,(0:Int)))
def Ep (a:Val Ã):Option (Val Ã):=KA a some
def QK (b:Val É) (a:Val â) (k:Val Ã→Option ρ):Option ρ :=
  Ä (tV b a) fun c=>Ä (yh b a) fun d=>Ä (Ep c.2) fun e=>Ä (IA c.1) fun f=>ck (a.2.2.2.2.1-a.2.2.2.2.2.1) fun g=>ck (g-d.2) fun h=>ck (h-e.1) fun i=>ck (a.2.2.2.2.1+a.2.2.2.2.2.1) fun j=>ck (j-d.1) fun l=>ck (l-f.1) fun m=>k (i,m)
def yX (a:Val É) (b:Val â):Option (Val Ã):=QK a b some
def uZ (b:Int) (e:Val ab) (h:Int) (j:Int) (k:Int) (l:Val ae) (m:Val aa) (n:Val af) (o:Val ac) (p:Val aa) (q:Int) (r:Int) (s:Int) (t:Int) (u:Int) (v:Int) (w:Int) (x:Int) (a:Int) (f:Val ak) (g:Val aa) (y:Int→Val ak→Val aa→Option ρ) (z:Val Cg→Option ρ):Option ρ :=
  ifb (ilt a (Ù e)) (ck (h+a) fun A=>ck (A-1) fun c=>ck (h+a) fun d=>ck (a-(1:Int)) fun B=>Ĥ e B fun C=>Ĥ e a fun D=>Ä (yY ((j,k),l,m,n,o,p) (q,r,s,(t,u),(v,w),x) C D) fun E=>ck (0-E) fun F=>ck (0-F) fun i=>á (è ((List.length f)+(List.length ([(c,d,(0:Int)),(d,c,i)])))) (á (è ((List.length g)+(List.length ([((2:Int),b),((2:Int),b)])))) (ck (a+(1:Int)) fun G=>y G (f++([(c,d,(0:Int)),(d,c,i)])) (g++([((2:Int),b),((2:Int),b)]))))) (z (f,g))
def vc (q:Val ae) (r:Int) (f:Int) (g:Int) (h:Val ae) (i:Val aa) (j:Val af) (k:Val ac) (l:Val aa) (s:Val aa) (t:Int) (b:Int) (d:Val ak) (e:Val aa) (u:Int→Val ak→Val aa→Option ρ) (v:Val Cg→Option ρ):Option ρ :=
  ifb (ilt b r) (Ĥ q b fun a=>Ä (oG ((f,g),h,i,j,k,l) a) fun w=>Ä (ku (((f,g),h,i,j,k,l),s,(t,d),e) ([a.1]) a.2.1) fun c=>ck (a.2.2.1+a.2.2.2.1.1) fun x=>ck (a.2.2.1+a.2.2.2.1.2) fun n=>ck (0-x) fun o=>á (è ((List.length d)+(List.length ([((0:Int),c,n),(c,(0:Int),o)])))) (á (è ((List.length e)+(List.length ([((1:Int),b),((1:Int),b)])))) (Ê (fun(m:(Val (.pair tI Cg))) y=>uZ b w c f g h i j k l a.1 a.2.1 a.2.2.1 a.2.2.2.1.1 a.2.2.2.1.2 a.2.2.2.2.1.1 a.2.2.2.2.1.2 a.2.2.2.2.2 m.1 m.2.1 m.2.2 (fun z A B=>y (z,A,B)) (fun p=>ck (b+(1:Int)) fun C=>u C p.1 p.2)) ((1:Int),(d++([((0:Int),c,n),(c,(0:Int),o)])),(e++([((1:Int),b),((1:Int),b)])))))) (v (d,e))
def uY (r:Val ac) (s:Int) (g:Int) (h:Int) (i:Val ae) (j:Val aa) (k:Val af) (l:Val ac) (m:Val aa) (o:Val aa) (p:Int) (a:Int) (c:Val ak) (d:Val aa) (t:Int→Val ak→Val aa→Option ρ) (u:Val Cg→Option ρ):Option ρ :=
  ifb (ilt a s) (Ĥ r a fun b=>Ä (Μ b.2.2.2.1 b.2.2.1) fun v=>Ä (ku (((g,h),i,j,k,l,m),o,(p,c),d) v b.2.1) fun e=>Ä (Μ b.2.2.1 b.2.2.2.1) fun w=>Ä (ku (((g,h),i,j,k,l,m),o,(p,c),d) w b.2.1) fun f=>Ä (yX ((g,h),i,j,k,l,m) b) fun n=>ck (0-n.1) fun q=>á (è ((List.length c)+(List.length ([(e,f,n.2),(f,e,q)])))) (á (è ((List.length d)+(List.length ([((3:Int),a),((3:Int),a)])))) (ck (a+(1:Int)) fun x=>t x (c++([(e,f,n.2),(f,e,q)])) (d++([((3:Int),a),((3:Int),a)]))))) (u (c,d))
def QN (a:Val É) (k:Val aT→Option ρ):Option ρ :=
  Ä (pV a) fun b=>ck ((Ù b)+(1:Int)) fun c=>Ê (fun(d:(Val (.pair tI Cg))) h=>vc a.2.1 (Ù a.2.1) a.1.1 a.1.2 a.2.1 a.2.2.1 a.2.2.2.1 a.2.2.2.2.1 a.2.2.2.2.2 b c d.1 d.2.1 d.2.2 (fun i j l=>h (i,j,l)) (fun f=>Ê (fun(e:(Val (.pair tI Cg))) m=>uY a.2.2.2.2.1 (Ù a.2.2.2.2.1) a.1.1 a.1.2 a.2.1 a.2.2.1 a.2.2.2.1 a.2.2.2.2.1 a.2.2.2.2.2 b c e.1 e.2.1 e.2.2 (fun n o p=>m (n,o,p)) (fun g=>k (a,b,(c,g.1),g.2))) ((0:Int),f.1,f.2))) ((0:Int),[],[])
def IB (a:Val É):Option ((Val aT)):=QN a some
def FV (a:Val É) (k:(Val (.pair Ì bh))→Option ρ):Option ρ :=
  Ä (ĭ a) fun b=>ifb (ine b 0) (k (((0:Int),[]),[],b)) (Ä (IB a) fun c=>k (c.2.2.1,c.2.2.2,(0:Int)))
def iG (a:Val É):Option ((Val (.pair Ì bh))):=FV a some
def yE (f:Val aj) (g:Int) (d:Val ai) (b:Int) (a:Int) (c:Int→Int→Option ρ) (h:Int→Option ρ):Option ρ :=
  ifb (ige a 0) (Ĥ f a fun i=>Ä (g8 i b) fun e=>ifb (ige e 0) (Ĥ d a fun j=>ifb (ilt j.1 g) (Ĥ d a fun k=>Ĥ k.2 e fun l=>ck (a-(1:Int)) fun m=>c l m) (ck (a-(1:Int)) fun n=>c b n)) (ck (a-(1:Int)) fun o=>c b o)) (h b)
def V5 (a:Val Â) (c:Val aj) (d:Int) (e:Int) (k:Int→Option ρ):Option ρ :=
  ck ((Ù a.2)-(1:Int)) fun f=>Ê (fun(b:Val Ã) g=>yE c e a.2 b.1 b.2 (fun h i=>g (h,i)) (fun j=>k j)) (d,f)
def sk (a:Val Â) (b:Val aj) (c:Int) (d:Int):Option (Int):=V5 a b c d some
def iO (d:Int) (e:Val ar) (f:Val aG) (g:Val ab) (h:Int) (a:Int) (b:Val ab) (i:Int→Val ab→Option ρ) (j:Val ab→Option ρ):Option ρ :=
  ifb (ilt a h) (Ĥ g a fun k=>Ä (sk e f k d) fun c=>á (è ((List.length b)+(List.length ([c])))) (ck (a+(1:Int)) fun l=>i l (b++([c])))) (j b)
def pq (a:Val ab) (d:Int) (e:Val ar) (f:Val aG) (k:Val ab→Option ρ):Option ρ :=
  Ê (fun(b:Val Ī) g=>iO d e f a (Ù a) b.1 b.2 (fun h i=>g (h,i)) (fun c=>á (è (List.length c)) (k (wE c)))) ((0:Int),[])
def i8 (a:Val ab) (b:Int) (c:Val ar) (d:Val aG):Option ((Val ab)):=pq a b c d some
def jV (e:Val ar) (f:Val aG) (g:Val aa) (h:Int) (b:Int) (c:Val aa) (i:Int→Val aa→Option ρ) (j:Val aa→Option ρ):Option ρ :=
  ifb (ilt b h) (Ĥ g b fun a=>Ä (sk e f a.1 a.2) fun d=>á (è ((List.length c)+(List.length ([(d,a.2)])))) (ck (b+(1:Int)) fun k=>i k (c++([(d,a.2)])))) (j c)
def jU (e:Val ar) (f:Val aG) (g:Val af) (h:Int) (b:Int) (c:Val af) (i:Int→Val af→Option ρ) (j:Val af→Option ρ):Option ρ :=
  ifb (ilt b h) (Ĥ g b fun a=>Ä (sk e f a.1 a.2.1.1) fun d=>á (è ((List.length c)+(List.length ([(d,a.2)])))) (ck (b+(1:Int)) fun k=>i k (c++([(d,a.2)])))) (j c)
def jT (d:Val ar) (e:Val aG) (h:Val ac) (i:Int) (b:Int) (c:Val ac) (j:Int→Val ac→Option ρ) (k:Val ac→Option ρ):Option ρ :=
  ifb (ilt b i) (Ĥ h b fun a=>Ä (i8 a.2.2.1 a.2.1 d e) fun f=>Ä (i8 a.2.2.2.1 a.2.1 d e) fun g=>á (è ((List.length c)+(List.length ([(a.1,a.2.1,f,g,a.2.2.2.2)])))) (ck (b+(1:Int)) fun l=>j l (c++([(a.1,a.2.1,f,g,a.2.2.2.2)])))) (k c)
def jS (e:Val ar) (f:Val aG) (g:Val aa) (h:Int) (b:Int) (c:Val aa) (i:Int→Val aa→Option ρ) (j:Val aa→Option ρ):Option ρ :=
  ifb (ilt b h) (Ĥ g b fun a=>Ä (sk e f a.1 a.2) fun d=>á (è ((List.length c)+(List.length ([(d,a.2)])))) (ck (b+(1:Int)) fun k=>i k (c++([(d,a.2)])))) (j c)
def uA (a:Val Â) (b:Val aj) (k:Val É→Option ρ):Option ρ :=
  á (è (List.length a.1.2.1)) (Ê (fun(c:Val bc) g=>jV a b a.1.2.2.1 (Ù a.1.2.2.1) c.1 c.2 (fun h i=>g (h,i)) (fun j=>Ê (fun(d:(Val (.pair tI af))) l=>jU a b a.1.2.2.2.1 (Ù a.1.2.2.2.1) d.1 d.2 (fun m n=>l (m,n)) (fun o=>Ê (fun(e:Val aH) p=>jT a b a.1.2.2.2.2.1 (Ù a.1.2.2.2.2.1) e.1 e.2 (fun q r=>p (q,r)) (fun s=>Ê (fun(f:Val bc) t=>jS a b a.1.2.2.2.2.2 (Ù a.1.2.2.2.2.2) f.1 f.2 (fun u v=>t (u,v)) (fun w=>k (a.1.1,a.1.2.1,j,o,s,w))) ((0:Int),[]))) ((0:Int),[]))) ((0:Int),[]))) ((0:Int),[]))
def ix (a:Val Â) (b:Val aj):Option (Val É):=uA a b some
def Qm (b:Val Ì) (a:Int) (k:Bool→Option ρ):Option ρ :=
  ifb (ige a 0) (k (ilt a b.1)) (k false)
def yW (a:Val Ì) (b:Int):Option (Bool):=Qm a b some
def rg (f:Val ak) (g:Int) (d:Int) (e:Val ak) (a:Int) (h:Int→Option ρ) (c:Val Ã→Option ρ) (i:Unit→Option ρ):Option ρ :=
  ifb (ilt a g) (Ĥ f a fun b=>Ä (yW (d,e) b.1) fun j=>ifb (!j) (c ((1:Int),a)) (Ä (yW (d,e) b.2.1) fun k=>ifb (!k) (c ((1:Int),a)) (ifb (ieq b.1 b.2.1) (c ((1:Int),a)) (ifb (ilt b.2.2 (-4503599627370496:Int)) (c ((1:Int),a)) (ifb (igt b.2.2 4503599627370496) (c ((1:Int),a)) (ck (a+(1:Int)) fun l=>h l)))))) (i ())
def Kn (a:Val Ì) (k:Val Ã→Option ρ):Option ρ :=
  ifb (ilt a.1 1) (k ((1:Int),(-1:Int))) (ifb (igt a.1 60) (k ((1:Int),(-1:Int))) (ifb (igt (Ù a.2) 300) (k ((2:Int),(-1:Int))) (Ê (fun(c:Int) d=>rg a.2 (Ù a.2) a.1 a.2 c (fun e=>d e) (fun b=>k (b.1,b.2)) (fun _=>k ((0:Int),(-1:Int)))) (0:Int))))
def pT (a:Val Ì):Option (Val Ã):=Kn a some
def gY (c:Val ak) (d:Int) (b:Int) (a:Int) (e:Int→Int→Option ρ) (f:Int→Option ρ):Option ρ :=
  ifb (ilt a d) (Ĥ c a fun g=>ck (b+(YH g.2.2 (0:Int))) fun h=>ck (a+(1:Int)) fun i=>e h i) (f b)
def Ř (f:Int) (d:Val ab) (a:Int) (b:Val aq) (c:Val ab) (e:Int→Val aq→Val ab→Option ρ) (g:Val aL→Option ρ):Option ρ :=
  ifb (ilt a f) (á ((ile 0 a)&&(ilt a (í d))) (Ĺ d (Int.toNat a) fun h=>ifb (ine h 1152921504606846976) (á (è ((List.length c)+(List.length ([a])))) (á ((ile 0 a)&&(ilt a (í b))) (Ĺ b (Int.toNat a) fun k=>ck (a+(1:Int)) fun i=>e i (List.set b (Int.toNat a) true) (c++([a]))))) (ck (a+(1:Int)) fun j=>e j b c))) (g (b,c))
def iY (m:Val ao) (j:Int) (d:Int) (n:Val ak) (o:Int) (f:Int) (b:Val ab) (c:Val aq) (e:Val ab) (g:Int→Val ab→Val aq→Val ab→Option ρ) (l:(Val (.pair .bool (.pair ab aL)))→Option ρ) (p:(Val (.pair ab aL))→Option ρ):Option ρ :=
  ifb (ilt f o) (Ĥ n f fun a=>ifb (ine a.1 d) (ck (f+(1:Int)) fun q=>g q b c e) (Mh (k:=tI) (v:=.bool) f m (fun r=>ifb r (ck (f+(1:Int)) fun s=>g s b c e) (á ((ile 0 d)&&(ilt d (í b))) (Ĺ b (Int.toNat d) fun t=>ck (t+a.2.2) fun u=>á ((ile 0 a.2.1)&&(ilt a.2.1 (í b))) (Ĺ b (Int.toNat a.2.1) fun w=>ifb (ige u w) (ck (f+(1:Int)) fun x=>g x b c e) (á ((ile 0 d)&&(ilt d (í b))) (Ĺ b (Int.toNat d) fun y=>ck (y+a.2.2) fun h=>á ((ile 0 a.2.1)&&(ilt a.2.1 (í b))) (Ĺ b (Int.toNat a.2.1) fun M=>á ((ile 0 a.2.1)&&(ilt a.2.1 (í (List.set b (Int.toNat a.2.1) h)))) (Ĺ (List.set b (Int.toNat a.2.1) h) (Int.toNat a.2.1) fun z=>ifb (ilt z j) (l (false,(List.set b (Int.toNat a.2.1) h),c,e)) (á ((ile 0 a.2.1)&&(ilt a.2.1 (í c))) (Ĺ c (Int.toNat a.2.1) fun A=>ifb (!A) (á (è ((List.length e)+(List.length ([a.2.1])))) (á ((ile 0 a.2.1)&&(ilt a.2.1 (í c))) (Ĺ c (Int.toNat a.2.1) fun N=>ck (f+(1:Int)) fun B=>g B (List.set b (Int.toNat a.2.1) h) (List.set c (Int.toNat a.2.1) true) (e++([a.2.1]))))) (ck (f+(1:Int)) fun C=>g C (List.set b (Int.toNat a.2.1) h) c e))))))))))) (á ((ile 0 d)&&(ilt d (í b))) (Ĺ b (Int.toNat d) fun D=>ck (D+a.2.2) fun E=>á ((ile 0 a.2.1)&&(ilt a.2.1 (í b))) (Ĺ b (Int.toNat a.2.1) fun F=>ifb (ige E F) (ck (f+(1:Int)) fun G=>g G b c e) (á ((ile 0 d)&&(ilt d (í b))) (Ĺ b (Int.toNat d) fun H=>ck (H+a.2.2) fun i=>á ((ile 0 a.2.1)&&(ilt a.2.1 (í b))) (Ĺ b (Int.toNat a.2.1) fun O=>á ((ile 0 a.2.1)&&(ilt a.2.1 (í (List.set b (Int.toNat a.2.1) i)))) (Ĺ (List.set b (Int.toNat a.2.1) i) (Int.toNat a.2.1) fun I=>ifb (ilt I j) (l (false,(List.set b (Int.toNat a.2.1) i),c,e)) (á ((ile 0 a.2.1)&&(ilt a.2.1 (í c))) (Ĺ c (Int.toNat a.2.1) fun J=>ifb (!J) (á (è ((List.length e)+(List.length ([a.2.1])))) (á ((ile 0 a.2.1)&&(ilt a.2.1 (í c))) (Ĺ c (Int.toNat a.2.1) fun P=>ck (f+(1:Int)) fun K=>g K (List.set b (Int.toNat a.2.1) i) (List.set c (Int.toNat a.2.1) true) (e++([a.2.1]))))) (ck (f+(1:Int)) fun L=>g L (List.set b (Int.toNat a.2.1) i) c e)))))))))))) (p (b,c,e))
def ī (l:Val ao) (m:Int) (n:Int) (k:Val ak) (h:Val ab) (d:Val aq) (b:Val ab) (c:Val ab) (o:Val ab→Val aq→Val ab→Val ab→Option ρ) (i:(Val (.pair .bool aM))→Option ρ):Option ρ :=
  ifb (ieq (Ù c) 0) (i (true,h,d,b,c)) (á (ilt 0 (í c)) (Ĺ c 0 fun a=>á (ile 1 (í c)) (á (decide (1+(List.length c-1)=List.length c)) (á ((ile 0 a)&&(ilt a (í d))) (Ĺ d (Int.toNat a) fun x=>á ((ile 0 a)&&(ilt a (í b))) (Ĺ b (Int.toNat a) fun p=>ck (p+(1:Int)) fun e=>á ((ile 0 a)&&(ilt a (í b))) (Ĺ b (Int.toNat a) fun y=>á ((ile 0 a)&&(ilt a (í (List.set b (Int.toNat a) e)))) (Ĺ (List.set b (Int.toNat a) e) (Int.toNat a) fun q=>ck (n+(1:Int)) fun r=>ifb (igt q r) (i (false,h,(List.set d (Int.toNat a) false),(List.set b (Int.toNat a) e),(List.drop 1 c))) (Ê (fun(f:(Val (.pair tI (.pair ab aL)))) s=>iY l m a k (Ù k) f.1 f.2.1 f.2.2.1 f.2.2.2 (fun t u v w=>s (t,u,v,w)) (fun g=>i (g.1,g.2.1,g.2.2.1,(List.set b (Int.toNat a) e),g.2.2.2)) (fun j=>o j.1 j.2.1 (List.set b (Int.toNat a) e) j.2.2)) ((0:Int),h,(List.set d (Int.toNat a) false),(List.drop 1 c)))))))))))
def iX (c:Int) (d:Int) (a:Int) (b:Val ab) (e:Int→Val ab→Option ρ) (f:Val ab→Option ρ):Option ρ :=
  ifb (ilt a d) (á ((ile 0 a)&&(ilt a (í b))) (Ĺ b (Int.toNat a) fun g=>ck (g-c) fun h=>á ((ile 0 a)&&(ilt a (í b))) (Ĺ b (Int.toNat a) fun j=>ck (a+(1:Int)) fun i=>e i (List.set b (Int.toNat a) h)))) (f b)
def xB (a:Val Ì) (h:Val ao) (k:(Val (.pair ab .bool))→Option ρ):Option ρ :=
  á ((ile 0 a.1)&&(è (Int.toNat a.1))) (á ((ile 0 a.1)&&(è (Int.toNat a.1))) (á ((ile 0 a.1)&&(è (Int.toNat a.1))) (Ê (fun(e:Val Ã) i=>gY a.2 (Ù a.2) e.1 e.2 (fun j l=>i (j,l)) (fun m=>Ê (fun(d:(Val (.pair tI aL))) n=>Ř a.1 (List.replicate (Int.toNat a.1) (0:Int)) d.1 d.2.1 d.2.2 (fun o p q=>n (o,p,q)) (fun f=>Ê (fun(c:Val aM) r=>ī h m a.1 a.2 c.1 c.2.1 c.2.2.1 c.2.2.2 (fun s t u v=>r (s,t,u,v)) (fun b=>ifb (!b.1) (k ([],false)) (á (ilt 0 (í b.2.1)) (Ĺ b.2.1 0 fun w=>Ê (fun(g:Val Ī) x=>iX w (Ù b.2.1) g.1 g.2 (fun y z=>x (y,z)) (fun A=>k (A,true))) ((0:Int),b.2.1))))) ((List.replicate (Int.toNat a.1) (0:Int)),f.1,(List.replicate (Int.toNat a.1) (0:Int)),f.2))) ((0:Int),(List.replicate (Int.toNat a.1) false),[]))) ((0:Int),(0:Int)))))
def ks (a:Val Ì) (b:Val ao):Option ((Val (.pair ab .bool))):=xB a b some
def sa (a:Val Ì) (k:Val aU→Option ρ):Option ρ :=
  Ä (pT a) fun b=>ifb (ine b.1 0) (k (false,b.1)) (Ä (ks a ([])) fun c=>k (c.2,(0:Int)))
def mR (a:Val Ì):Option ((Val aU)):=sa a some
def xh (a:Val Â) (b:Val aj) (k:Bool→Option ρ):Option ρ :=
  Ä (ix a b) fun c=>Ä (iG c) fun d=>Ä (mR d.1) fun e=>k e.1
def Λ (a:Val Â) (b:Val aj):Option (Bool):=xh a b some
def ot (d:Int) (e:Val ab) (f:Int) (g:Val ai) (b:Int) (a:Int) (c:Int→Int→Option ρ) (h:Int→Option ρ):Option ρ :=
  ifb (ilt a f) (Ĥ e a fun i=>Ĥ g d fun j=>Ĥ j.2 a fun k=>ifb (ine k i) (ck (b+(1:Int)) fun l=>ck (a+(1:Int)) fun m=>c l m) (ck (a+(1:Int)) fun n=>c b n)) (h b)
def ou (e:Val aj) (f:Int) (g:Val ai) (b:Int) (a:Int) (h:Int→Int→Option ρ) (i:Int→Option ρ):Option ρ :=
  ifb (ilt a f) (Ĥ e a fun c=>Ê (fun(d:Val Ã) j=>ot a c (Ù c) g d.1 d.2 (fun k l=>j (k,l)) (fun m=>ck (a+(1:Int)) fun n=>h m n)) (b,(0:Int))) (i b)
def E8 (c:Val Â) (a:Val aj) (k:Int→Option ρ):Option ρ :=
  Ê (fun(b:Val Ã) d=>ou a (Ù a) c.2 b.1 b.2 (fun e f=>d (e,f)) (fun g=>k g)) ((0:Int),(0:Int))
def ĵ (a:Val Â) (b:Val aj):Option (Int):=E8 a b some
def pM (a:Int) (k:Bool→Option ρ):Option ρ :=
  k (ine a a)
def lz (a:Int):Option (Bool):=pM a some
def mq (a:Int) (b:Int) (k:Int→Option ρ):Option ρ :=
  Ä (lz a) fun d=>Ä (lz b) fun c=>ifb d (ifb c (k (0:Int)) (k (-1:Int))) (ifb c (k (1:Int)) (ifb (ilt a b) (k (-1:Int)) (ifb (igt a b) (k (1:Int)) (k (0:Int)))))
def g9 (a:Int) (b:Int):Option (Int):=mq a b some
def E9 (b:Val aj) (c:Val aj) (a:Val ar) (k:Int→Option ρ):Option ρ :=
  Ä (ĵ a b) fun d=>Ä (ĵ a c) fun e=>Ä (g9 d e) fun f=>k f
def jo (a:Val aj) (b:Val aj) (c:Val ar):Option (Int):=E9 a b c some
def æ (h:Int) (i:Int) (j:Int) (k:Val ae) (l:Val aa) (m:Val af) (n:Val ac) (o:Val aa) (p:Val ai) (a:Int) (b:Val ag) (q:Int→Val ag→Option ρ) (g:Val ag→Option ρ):Option ρ :=
  ifb (igt a h) (á ((ile 0 a)&&(ilt a (í b))) (Ĺ b (Int.toNat a) fun r=>ck (a-(1:Int)) fun d=>á ((ile 0 d)&&(ilt d (í b))) (Ĺ b (Int.toNat d) fun s=>Ä (jo r s (((i,j),k,l,m,n,o),p)) fun t=>ifb (ilt t 0) (ck (a-(1:Int)) fun c=>ck (a-(1:Int)) fun e=>á ((ile 0 e)&&(ilt e (í b))) (Ĺ b (Int.toNat e) fun f=>á ((ile 0 a)&&(ilt a (í b))) (Ĺ b (Int.toNat a) fun u=>á ((ile 0 a)&&(ilt a (í b))) (Ĺ b (Int.toNat a) fun w=>á ((ile 0 c)&&(ilt c (í (List.set b (Int.toNat a) f)))) (Ĺ (List.set b (Int.toNat a) f) (Int.toNat c) fun x=>ck (a-(1:Int)) fun v=>q v (List.set (List.set b (Int.toNat a) f) (Int.toNat c) u)))))) (g b)))) (g b)
def ĉ (d:Int) (e:Int) (f:Int) (g:Int) (h:Val ae) (i:Val aa) (j:Val af) (k:Val ac) (l:Val aa) (m:Val ai) (a:Int) (b:Val ag) (n:Int→Val ag→Option ρ) (o:Val ag→Option ρ):Option ρ :=
  ifb (ilt a e) (Ê (fun(c:Val aB) p=>æ d f g h i j k l m c.1 c.2 (fun q r=>p (q,r)) (fun s=>ck (a+(1:Int)) fun t=>n t s)) (a,b)) (o b)
def ũ (c:Val ag) (a:Int) (d:Int) (mm:Val Â) (k:((Val ag))×(Val Â)→Option ρ):Option ρ :=
  ck (a+(1:Int)) fun e=>Ê (fun(b:Val aB) f=>ĉ a d mm.1.1.1 mm.1.1.2 mm.1.2.1 mm.1.2.2.1 mm.1.2.2.2.1 mm.1.2.2.2.2.1 mm.1.2.2.2.2.2 mm.2 b.1 b.2 (fun g h=>f (g,h)) (fun i=>k (i,mm))) (e,c)
def å (a:Val ag) (b:Int) (c:Int) (mm:Val Â):Option (((Val ag))×(Val Â)):=ũ a b c mm some
def Ĉ (h:Int) (i:Int) (j:Int) (b:Int) (a:Val ag) (k:Int→Val ag→Option ρ) (l:Val ag→Option ρ):Option ρ :=
  ifb (ilt b j) (ck (h+b) fun c=>ck (i+b) fun d=>ck (i+b) fun e=>á ((ile 0 e)&&(ilt e (í a))) (Ĺ a (Int.toNat e) fun f=>ck (h+b) fun g=>á ((ile 0 g)&&(ilt g (í a))) (Ĺ a (Int.toNat g) fun m=>á ((ile 0 c)&&(ilt c (í a))) (Ĺ a (Int.toNat c) fun o=>á ((ile 0 d)&&(ilt d (í (List.set a (Int.toNat c) f)))) (Ĺ (List.set a (Int.toNat c) f) (Int.toNat d) fun p=>ck (b+(1:Int)) fun n=>k n (List.set (List.set a (Int.toNat c) f) (Int.toNat d) m)))))) (l a)
def ω (h:Int) (i:Int) (j:Int) (b:Int) (a:Val ag) (k:Int→Val ag→Option ρ) (l:Val ag→Option ρ):Option ρ :=
  ifb (ilt b j) (ck (h+b) fun c=>ck (i+b) fun d=>ck (i+b) fun e=>á ((ile 0 e)&&(ilt e (í a))) (Ĺ a (Int.toNat e) fun f=>ck (h+b) fun g=>á ((ile 0 g)&&(ilt g (í a))) (Ĺ a (Int.toNat g) fun m=>á ((ile 0 c)&&(ilt c (í a))) (Ĺ a (Int.toNat c) fun o=>á ((ile 0 d)&&(ilt d (í (List.set a (Int.toNat c) f)))) (Ĺ (List.set a (Int.toNat c) f) (Int.toNat d) fun p=>ck (b+(1:Int)) fun n=>k n (List.set (List.set a (Int.toNat c) f) (Int.toNat d) m)))))) (l a)
def Ĵ (c:Int) (a:Int) (b:Int) (d:Val ag) (e:Int→Int→Val ag→Option ρ) (h:Val aB→Option ρ):Option ρ :=
  ifb (ine a b) (ifb (igt a b) (ck (c-a) fun i=>Ê (fun(f:Val aB) j=>Ĉ i c b f.1 f.2 (fun k l=>j (k,l)) (fun m=>ck (a-b) fun n=>e n b m)) ((0:Int),d)) (ck (c-a) fun o=>ck (c+b) fun p=>ck (p-a) fun q=>Ê (fun(g:Val aB) r=>ω o q a g.1 g.2 (fun s t=>r (s,t)) (fun u=>ck (b-a) fun v=>e a v u)) ((0:Int),d))) (h (a,d))
def ψ (h:Int) (i:Int) (j:Int) (b:Int) (a:Val ag) (k:Int→Val ag→Option ρ) (l:Val ag→Option ρ):Option ρ :=
  ifb (ilt b j) (ck (h+b) fun c=>ck (i+b) fun d=>ck (i+b) fun e=>á ((ile 0 e)&&(ilt e (í a))) (Ĺ a (Int.toNat e) fun f=>ck (h+b) fun g=>á ((ile 0 g)&&(ilt g (í a))) (Ĺ a (Int.toNat g) fun m=>á ((ile 0 c)&&(ilt c (í a))) (Ĺ a (Int.toNat c) fun o=>á ((ile 0 d)&&(ilt d (í (List.set a (Int.toNat c) f)))) (Ĺ (List.set a (Int.toNat c) f) (Int.toNat d) fun p=>ck (b+(1:Int)) fun n=>k n (List.set (List.set a (Int.toNat c) f) (Int.toNat d) m)))))) (l a)
def iW (e:Val ag) (f:Int) (a:Int) (g:Int) (mm:Val Â) (k:((Val ag))×(Val Â)→Option ρ):Option ρ :=
  ck (a-f) fun h=>ck (g-a) fun i=>Ê (fun(b:(Val (.pair tI aB))) j=>Ĵ a b.1 b.2.1 b.2.2 (fun l m n=>j (l,m,n)) (fun c=>ck (a-c.1) fun o=>Ê (fun(d:Val aB) p=>ψ o a c.1 d.1 d.2 (fun q r=>p (q,r)) (fun s=>k (s,mm))) ((0:Int),c.2))) (h,i,e)
def ķ (a:Val ag) (b:Int) (c:Int) (d:Int) (mm:Val Â):Option (((Val ag))×(Val Â)):=iW a b c d mm some
def ô (rec:Val ag→Int→Int→Int→Val Â→Option ((Val ag)×(Val Â))) (d:Int) (b:Val ag) (g:Int) (h:Int) (i:Val ae) (j:Val aa) (k:Val af) (l:Val ac) (m:Val aa) (n:Val ai) (c:Int) (e:Int) (f:Int→Int→Option ρ) (o:Int→Option ρ):Option ρ :=
  ifb (ilt c e) (ck (c+e) fun a=>á ((ile 0 (IntKind.wrap .i64 (ij .u64 (IntKind.wrap .u64 a) (1:Int))))&&(ilt (IntKind.wrap .i64 (ij .u64 (IntKind.wrap .u64 a) (1:Int))) (í b))) (Ĺ b (Int.toNat (IntKind.wrap .i64 (ij .u64 (IntKind.wrap .u64 a) (1:Int)))) fun p=>á ((ile 0 d)&&(ilt d (í b))) (Ĺ b (Int.toNat d) fun q=>Ä (jo p q (((g,h),i,j,k,l,m),n)) fun r=>ifb (ilt r 0) (ck ((IntKind.wrap .i64 (ij .u64 (IntKind.wrap .u64 a) (1:Int)))+(1:Int)) fun s=>f s e) (f c (IntKind.wrap .i64 (ij .u64 (IntKind.wrap .u64 a) (1:Int))))))) (o c)
def ì (rec:Val ag→Int→Int→Int→Val Â→Option ((Val ag)×(Val Â))) (f:Int) (a:Int) (b:Val ag) (g:Int→Val ag→Option ρ) (h:Val ag→Option ρ):Option ρ :=
  ck (f-(1:Int)) fun i=>ifb (ilt a i) (ck (a+(1:Int)) fun c=>ck (a+(1:Int)) fun d=>á ((ile 0 d)&&(ilt d (í b))) (Ĺ b (Int.toNat d) fun e=>á ((ile 0 a)&&(ilt a (í b))) (Ĺ b (Int.toNat a) fun j=>á ((ile 0 a)&&(ilt a (í b))) (Ĺ b (Int.toNat a) fun l=>á ((ile 0 c)&&(ilt c (í (List.set b (Int.toNat a) e)))) (Ĺ (List.set b (Int.toNat a) e) (Int.toNat c) fun m=>ck (a+(1:Int)) fun k=>g k (List.set (List.set b (Int.toNat a) e) (Int.toNat c) j)))))) (h b)
def ó (rec:Val ag→Int→Int→Int→Val Â→Option ((Val ag)×(Val Â))) (d:Int) (b:Val ag) (g:Int) (h:Int) (i:Val ae) (j:Val aa) (k:Val af) (l:Val ac) (m:Val aa) (n:Val ai) (c:Int) (e:Int) (f:Int→Int→Option ρ) (o:Int→Option ρ):Option ρ :=
  ifb (ilt c e) (ck (c+e) fun a=>á ((ile 0 d)&&(ilt d (í b))) (Ĺ b (Int.toNat d) fun p=>á ((ile 0 (IntKind.wrap .i64 (ij .u64 (IntKind.wrap .u64 a) (1:Int))))&&(ilt (IntKind.wrap .i64 (ij .u64 (IntKind.wrap .u64 a) (1:Int))) (í b))) (Ĺ b (Int.toNat (IntKind.wrap .i64 (ij .u64 (IntKind.wrap .u64 a) (1:Int)))) fun q=>Ä (jo p q (((g,h),i,j,k,l,m),n)) fun r=>ifb (!(ilt r 0)) (ck ((IntKind.wrap .i64 (ij .u64 (IntKind.wrap .u64 a) (1:Int)))+(1:Int)) fun s=>f s e) (f c (IntKind.wrap .i64 (ij .u64 (IntKind.wrap .u64 a) (1:Int))))))) (o c)
def ë (rec:Val ag→Int→Int→Int→Val Â→Option ((Val ag)×(Val Â))) (f:Int) (a:Int) (b:Val ag) (g:Int→Val ag→Option ρ) (h:Val ag→Option ρ):Option ρ :=
  ifb (igt a f) (ck (a-(1:Int)) fun c=>ck (a-(1:Int)) fun d=>á ((ile 0 d)&&(ilt d (í b))) (Ĺ b (Int.toNat d) fun e=>á ((ile 0 a)&&(ilt a (í b))) (Ĺ b (Int.toNat a) fun i=>á ((ile 0 a)&&(ilt a (í b))) (Ĺ b (Int.toNat a) fun k=>á ((ile 0 c)&&(ilt c (í (List.set b (Int.toNat a) e)))) (Ĺ (List.set b (Int.toNat a) e) (Int.toNat c) fun l=>ck (a-(1:Int)) fun j=>g j (List.set (List.set b (Int.toNat a) e) (Int.toNat c) i)))))) (h b)
def Þ (rec:Val ag→Int→Int→Int→Val Â→Option ((Val ag)×(Val Â))) (g:Int) (b:Val ag) (h:Int) (i:Int) (j:Val ae) (k:Val aa) (l:Val af) (m:Val ac) (n:Val aa) (o:Val ai) (c:Int) (d:Int) (f:Int→Int→Option ρ) (p:Int→Option ρ):Option ρ :=
  ifb (ilt c d) (ck (c+d) fun a=>ck (g-(IntKind.wrap .i64 (ij .u64 (IntKind.wrap .u64 a) (1:Int)))) fun e=>á ((ile 0 e)&&(ilt e (í b))) (Ĺ b (Int.toNat e) fun q=>á ((ile 0 (IntKind.wrap .i64 (ij .u64 (IntKind.wrap .u64 a) (1:Int))))&&(ilt (IntKind.wrap .i64 (ij .u64 (IntKind.wrap .u64 a) (1:Int))) (í b))) (Ĺ b (Int.toNat (IntKind.wrap .i64 (ij .u64 (IntKind.wrap .u64 a) (1:Int)))) fun r=>Ä (jo q r (((h,i),j,k,l,m,n),o)) fun s=>ifb (!(ilt s 0)) (ck ((IntKind.wrap .i64 (ij .u64 (IntKind.wrap .u64 a) (1:Int)))+(1:Int)) fun t=>f t d) (f c (IntKind.wrap .i64 (ij .u64 (IntKind.wrap .u64 a) (1:Int))))))) (p c)
def Ģ (rec:Val ag→Int→Int→Int→Val Â→Option ((Val ag)×(Val Â))) (c:Val ag) (f:Int) (g:Int) (b:Int) (mm:Val Â) (k:((Val ag))×(Val Â)→Option ρ):Option ρ :=
  ck (g-f) fun R=>ifb (ieq R 1) (Ê (fun(t:Val Ã) S=>ô rec f c mm.1.1.1 mm.1.1.2 mm.1.2.1 mm.1.2.2.1 mm.1.2.2.2.1 mm.1.2.2.2.2.1 mm.1.2.2.2.2.2 mm.2 t.1 t.2 (fun T U=>S (T,U)) (fun V=>Ê (fun(u:Val aB) W=>ì rec V u.1 u.2 (fun X Y=>W (X,Y)) (fun Z=>k (Z,mm))) (f,c))) (g,b)) (ck (b-g) fun dc=>ifb (ieq dc 1) (Ê (fun(v:Val Ã) df=>ó rec g c mm.1.1.1 mm.1.1.2 mm.1.2.1 mm.1.2.2.1 mm.1.2.2.2.1 mm.1.2.2.2.2.1 mm.1.2.2.2.2.2 mm.2 v.1 v.2 (fun dg dh=>df (dg,dh)) (fun di=>Ê (fun(w:Val aB) dj=>ë rec di w.1 w.2 (fun dk dl=>dj (dk,dl)) (fun dm=>k (dm,mm))) (g,c))) (f,g)) (ck (f+b) fun a=>ck ((IntKind.wrap .i64 (ij .u64 (IntKind.wrap .u64 a) (1:Int)))+g) fun s=>ifb (igt g (IntKind.wrap .i64 (ij .u64 (IntKind.wrap .u64 a) (1:Int)))) (ck (s-b) fun dt=>ck (s-1) fun du=>Ê (fun(x:Val Ã) dv=>Þ rec du c mm.1.1.1 mm.1.1.2 mm.1.2.1 mm.1.2.2.1 mm.1.2.2.2.1 mm.1.2.2.2.2.1 mm.1.2.2.2.2.2 mm.2 x.1 x.2 (fun dw dz=>dv (dw,dz)) (fun j=>ck (s-j) fun d=>ifb (ilt j g) (ifb (ilt g d) (Ä (ķ c j g d mm) fun h=>ifb (ilt f j) (ifb (ilt j (IntKind.wrap .i64 (ij .u64 (IntKind.wrap .u64 a) (1:Int)))) (Ä (rec h.1 f j (IntKind.wrap .i64 (ij .u64 (IntKind.wrap .u64 a) (1:Int))) h.2) fun m=>ifb (ilt (IntKind.wrap .i64 (ij .u64 (IntKind.wrap .u64 a) (1:Int))) d) (ifb (ilt d b) (Ä (rec m.1 (IntKind.wrap .i64 (ij .u64 (IntKind.wrap .u64 a) (1:Int))) d b m.2) fun y=>k (y.1,y.2)) (k (m.1,m.2))) (k (m.1,m.2))) (ifb (ilt (IntKind.wrap .i64 (ij .u64 (IntKind.wrap .u64 a) (1:Int))) d) (ifb (ilt d b) (Ä (rec h.1 (IntKind.wrap .i64 (ij .u64 (IntKind.wrap .u64 a) (1:Int))) d b h.2) fun z=>k (z.1,z.2)) (k (h.1,h.2))) (k (h.1,h.2)))) (ifb (ilt (IntKind.wrap .i64 (ij .u64 (IntKind.wrap .u64 a) (1:Int))) d) (ifb (ilt d b) (Ä (rec h.1 (IntKind.wrap .i64 (ij .u64 (IntKind.wrap .u64 a) (1:Int))) d b h.2) fun A=>k (A.1,A.2)) (k (h.1,h.2))) (k (h.1,h.2)))) (ifb (ilt f j) (ifb (ilt j (IntKind.wrap .i64 (ij .u64 (IntKind.wrap .u64 a) (1:Int)))) (Ä (rec c f j (IntKind.wrap .i64 (ij .u64 (IntKind.wrap .u64 a) (1:Int))) mm) fun n=>ifb (ilt (IntKind.wrap .i64 (ij .u64 (IntKind.wrap .u64 a) (1:Int))) d) (ifb (ilt d b) (Ä (rec n.1 (IntKind.wrap .i64 (ij .u64 (IntKind.wrap .u64 a) (1:Int))) d b n.2) fun B=>k (B.1,B.2)) (k (n.1,n.2))) (k (n.1,n.2))) (ifb (ilt (IntKind.wrap .i64 (ij .u64 (IntKind.wrap .u64 a) (1:Int))) d) (ifb (ilt d b) (Ä (rec c (IntKind.wrap .i64 (ij .u64 (IntKind.wrap .u64 a) (1:Int))) d b mm) fun C=>k (C.1,C.2)) (k (c,mm))) (k (c,mm)))) (ifb (ilt (IntKind.wrap .i64 (ij .u64 (IntKind.wrap .u64 a) (1:Int))) d) (ifb (ilt d b) (Ä (rec c (IntKind.wrap .i64 (ij .u64 (IntKind.wrap .u64 a) (1:Int))) d b mm) fun D=>k (D.1,D.2)) (k (c,mm))) (k (c,mm))))) (ifb (ilt f j) (ifb (ilt j (IntKind.wrap .i64 (ij .u64 (IntKind.wrap .u64 a) (1:Int)))) (Ä (rec c f j (IntKind.wrap .i64 (ij .u64 (IntKind.wrap .u64 a) (1:Int))) mm) fun o=>ifb (ilt (IntKind.wrap .i64 (ij .u64 (IntKind.wrap .u64 a) (1:Int))) d) (ifb (ilt d b) (Ä (rec o.1 (IntKind.wrap .i64 (ij .u64 (IntKind.wrap .u64 a) (1:Int))) d b o.2) fun E=>k (E.1,E.2)) (k (o.1,o.2))) (k (o.1,o.2))) (ifb (ilt (IntKind.wrap .i64 (ij .u64 (IntKind.wrap .u64 a) (1:Int))) d) (ifb (ilt d b) (Ä (rec c (IntKind.wrap .i64 (ij .u64 (IntKind.wrap .u64 a) (1:Int))) d b mm) fun F=>k (F.1,F.2)) (k (c,mm))) (k (c,mm)))) (ifb (ilt (IntKind.wrap .i64 (ij .u64 (IntKind.wrap .u64 a) (1:Int))) d) (ifb (ilt d b) (Ä (rec c (IntKind.wrap .i64 (ij .u64 (IntKind.wrap .u64 a) (1:Int))) d b mm) fun G=>k (G.1,G.2)) (k (c,mm))) (k (c,mm)))))) (dt,(IntKind.wrap .i64 (ij .u64 (IntKind.wrap .u64 a) (1:Int))))) (ck (s-1) fun d8=>Ê (fun(H:Val Ã) d9=>Þ rec d8 c mm.1.1.1 mm.1.1.2 mm.1.2.1 mm.1.2.2.1 mm.1.2.2.2.1 mm.1.2.2.2.2.1 mm.1.2.2.2.2.2 mm.2 H.1 H.2 (fun ee eh=>d9 (ee,eh)) (fun l=>ck (s-l) fun e=>ifb (ilt l g) (ifb (ilt g e) (Ä (ķ c l g e mm) fun i=>ifb (ilt f l) (ifb (ilt l (IntKind.wrap .i64 (ij .u64 (IntKind.wrap .u64 a) (1:Int)))) (Ä (rec i.1 f l (IntKind.wrap .i64 (ij .u64 (IntKind.wrap .u64 a) (1:Int))) i.2) fun p=>ifb (ilt (IntKind.wrap .i64 (ij .u64 (IntKind.wrap .u64 a) (1:Int))) e) (ifb (ilt e b) (Ä (rec p.1 (IntKind.wrap .i64 (ij .u64 (IntKind.wrap .u64 a) (1:Int))) e b p.2) fun I=>k (I.1,I.2)) (k (p.1,p.2))) (k (p.1,p.2))) (ifb (ilt (IntKind.wrap .i64 (ij .u64 (IntKind.wrap .u64 a) (1:Int))) e) (ifb (ilt e b) (Ä (rec i.1 (IntKind.wrap .i64 (ij .u64 (IntKind.wrap .u64 a) (1:Int))) e b i.2) fun J=>k (J.1,J.2)) (k (i.1,i.2))) (k (i.1,i.2)))) (ifb (ilt (IntKind.wrap .i64 (ij .u64 (IntKind.wrap .u64 a) (1:Int))) e) (ifb (ilt e b) (Ä (rec i.1 (IntKind.wrap .i64 (ij .u64 (IntKind.wrap .u64 a) (1:Int))) e b i.2) fun K=>k (K.1,K.2)) (k (i.1,i.2))) (k (i.1,i.2)))) (ifb (ilt f l) (ifb (ilt l (IntKind.wrap .i64 (ij .u64 (IntKind.wrap .u64 a) (1:Int)))) (Ä (rec c f l (IntKind.wrap .i64 (ij .u64 (IntKind.wrap .u64 a) (1:Int))) mm) fun q=>ifb (ilt (IntKind.wrap .i64 (ij .u64 (IntKind.wrap .u64 a) (1:Int))) e) (ifb (ilt e b) (Ä (rec q.1 (IntKind.wrap .i64 (ij .u64 (IntKind.wrap .u64 a) (1:Int))) e b q.2) fun L=>k (L.1,L.2)) (k (q.1,q.2))) (k (q.1,q.2))) (ifb (ilt (IntKind.wrap .i64 (ij .u64 (IntKind.wrap .u64 a) (1:Int))) e) (ifb (ilt e b) (Ä (rec c (IntKind.wrap .i64 (ij .u64 (IntKind.wrap .u64 a) (1:Int))) e b mm) fun M=>k (M.1,M.2)) (k (c,mm))) (k (c,mm)))) (ifb (ilt (IntKind.wrap .i64 (ij .u64 (IntKind.wrap .u64 a) (1:Int))) e) (ifb (ilt e b) (Ä (rec c (IntKind.wrap .i64 (ij .u64 (IntKind.wrap .u64 a) (1:Int))) e b mm) fun N=>k (N.1,N.2)) (k (c,mm))) (k (c,mm))))) (ifb (ilt f l) (ifb (ilt l (IntKind.wrap .i64 (ij .u64 (IntKind.wrap .u64 a) (1:Int)))) (Ä (rec c f l (IntKind.wrap .i64 (ij .u64 (IntKind.wrap .u64 a) (1:Int))) mm) fun r=>ifb (ilt (IntKind.wrap .i64 (ij .u64 (IntKind.wrap .u64 a) (1:Int))) e) (ifb (ilt e b) (Ä (rec r.1 (IntKind.wrap .i64 (ij .u64 (IntKind.wrap .u64 a) (1:Int))) e b r.2) fun O=>k (O.1,O.2)) (k (r.1,r.2))) (k (r.1,r.2))) (ifb (ilt (IntKind.wrap .i64 (ij .u64 (IntKind.wrap .u64 a) (1:Int))) e) (ifb (ilt e b) (Ä (rec c (IntKind.wrap .i64 (ij .u64 (IntKind.wrap .u64 a) (1:Int))) e b mm) fun P=>k (P.1,P.2)) (k (c,mm))) (k (c,mm)))) (ifb (ilt (IntKind.wrap .i64 (ij .u64 (IntKind.wrap .u64 a) (1:Int))) e) (ifb (ilt e b) (Ä (rec c (IntKind.wrap .i64 (ij .u64 (IntKind.wrap .u64 a) (1:Int))) e b mm) fun Q=>k (Q.1,Q.2)) (k (c,mm))) (k (c,mm)))))) (f,g))))
def ġ:Nat→Val ag→Int→Int→Int→Val Â→Option ((Val ag)×(Val Â))
  |0=>fun _ _ _ _ _=>none
  |n+1=>fun a b c d mm=>Ģ (ġ n) a b c d mm some
def Đ (a:Val ag) (b:Int) (c:Int) (d:Int) (mm:Val Â):Option (((Val ag))×(Val Â)):=ġ 100 a b c d mm
def χ (m:Int) (n:Int) (c:Int) (b:Int) (d:Val ag) (e:Int) (f:Int) (g:Val ae) (h:Val aa) (i:Val af) (j:Val ac) (k:Val aa) (l:Val ai) (o:Int→Int→Val ag→Int→Int→Val ae→Val aa→Val af→Val ac→Val aa→Val ai→Option ρ) (p:Val au→Option ρ):Option ρ :=
  ifb (ile b m) (Ä (å d c b (((e,f),g,h,i,j,k),l)) fun a=>ck (b+n) fun q=>o b q a.1 a.2.1.1.1 a.2.1.1.2 a.2.1.2.1 a.2.1.2.2.1 a.2.1.2.2.2.1 a.2.1.2.2.2.2.1 a.2.1.2.2.2.2.2 a.2.2) (p (c,d,e,f,g,h,i,j,k,l))
def ς (n:Int) (d:Int) (c:Int) (b:Int) (e:Val ag) (f:Int) (g:Int) (h:Val ae) (i:Val aa) (j:Val af) (k:Val ac) (l:Val aa) (m:Val ai) (o:Int→Int→Val ag→Int→Int→Val ae→Val aa→Val af→Val ac→Val aa→Val ai→Option ρ) (p:Val au→Option ρ):Option ρ :=
  ifb (ile b n) (ck (c+d) fun q=>Ä (Đ e c q b (((f,g),h,i,j,k,l),m)) fun a=>ck ((2:Int)*d) fun r=>ck (b+r) fun s=>o b s a.1 a.2.1.1.1 a.2.1.1.2 a.2.1.2.1 a.2.1.2.2.1 a.2.1.2.2.2.1 a.2.1.2.2.2.2.1 a.2.1.2.2.2.2.2 a.2.2) (p (c,e,f,g,h,i,j,k,l,m))
def υ (e:Int) (d:Int) (f:Val ag) (g:Int) (h:Int) (i:Val ae) (j:Val aa) (k:Val af) (l:Val ac) (m:Val aa) (n:Val ai) (o:Int→Val ag→Int→Int→Val ae→Val aa→Val af→Val ac→Val aa→Val ai→Option ρ) (q:(Val (.pair ag ah))→Option ρ):Option ρ :=
  ifb (ilt d e) (ck ((2:Int)*d) fun r=>Ê (fun(b:(Val (.pair tI au))) s=>ς e d b.1 b.2.1 b.2.2.1 b.2.2.2.1 b.2.2.2.2.1 b.2.2.2.2.2.1 b.2.2.2.2.2.2.1 b.2.2.2.2.2.2.2.1 b.2.2.2.2.2.2.2.2.1 b.2.2.2.2.2.2.2.2.2.1 b.2.2.2.2.2.2.2.2.2.2 (fun t u v w x y z A B C D=>s (t,u,v,w,x,y,z,A,B,C,D)) (fun a=>ck (a.1+d) fun p=>ifb (ilt p e) (Ä (Đ a.2.1 a.1 p e (((a.2.2.1,a.2.2.2.1),a.2.2.2.2.1,a.2.2.2.2.2.1,a.2.2.2.2.2.2.1,a.2.2.2.2.2.2.2.1,a.2.2.2.2.2.2.2.2.1),a.2.2.2.2.2.2.2.2.2)) fun c=>ck (d*(2:Int)) fun E=>o E c.1 c.2.1.1.1 c.2.1.1.2 c.2.1.2.1 c.2.1.2.2.1 c.2.1.2.2.2.1 c.2.1.2.2.2.2.1 c.2.1.2.2.2.2.2 c.2.2) (ck (d*(2:Int)) fun F=>o F a.2.1 a.2.2.1 a.2.2.2.1 a.2.2.2.2.1 a.2.2.2.2.2.1 a.2.2.2.2.2.2.1 a.2.2.2.2.2.2.2.1 a.2.2.2.2.2.2.2.2.1 a.2.2.2.2.2.2.2.2.2))) ((0:Int),r,f,g,h,i,j,k,l,m,n)) (q (f,g,h,i,j,k,l,m,n))
def iV (g:Val ag) (f:Int) (mm:Val Â) (k:((Val ag))×(Val Â)→Option ρ):Option ρ :=
  Ê (fun(a:(Val (.pair tI au))) h=>χ f (20:Int) a.1 a.2.1 a.2.2.1 a.2.2.2.1 a.2.2.2.2.1 a.2.2.2.2.2.1 a.2.2.2.2.2.2.1 a.2.2.2.2.2.2.2.1 a.2.2.2.2.2.2.2.2.1 a.2.2.2.2.2.2.2.2.2.1 a.2.2.2.2.2.2.2.2.2.2 (fun i j l m n o p q r s t=>h (i,j,l,m,n,o,p,q,r,s,t)) (fun b=>Ä (å b.2.1 b.1 f (((b.2.2.1,b.2.2.2.1),b.2.2.2.2.1,b.2.2.2.2.2.1,b.2.2.2.2.2.2.1,b.2.2.2.2.2.2.2.1,b.2.2.2.2.2.2.2.2.1),b.2.2.2.2.2.2.2.2.2)) fun d=>Ê (fun(c:Val au) u=>υ f c.1 c.2.1 c.2.2.1 c.2.2.2.1 c.2.2.2.2.1 c.2.2.2.2.2.1 c.2.2.2.2.2.2.1 c.2.2.2.2.2.2.2.1 c.2.2.2.2.2.2.2.2.1 c.2.2.2.2.2.2.2.2.2 (fun v w x y z A B C D E=>u (v,w,x,y,z,A,B,C,D,E)) (fun e=>k (e.1,(((e.2.1,e.2.2.1),e.2.2.2.1,e.2.2.2.2.1,e.2.2.2.2.2.1,e.2.2.2.2.2.2.1,e.2.2.2.2.2.2.2.1),e.2.2.2.2.2.2.2.2)))) ((20:Int),d.1,d.2.1.1.1,d.2.1.1.2,d.2.1.2.1,d.2.1.2.2.1,d.2.1.2.2.2.1,d.2.1.2.2.2.2.1,d.2.1.2.2.2.2.2,d.2.2))) ((0:Int),(20:Int),g,mm.1.1.1,mm.1.1.2,mm.1.2.1,mm.1.2.2.1,mm.1.2.2.2.1,mm.1.2.2.2.2.1,mm.1.2.2.2.2.2,mm.2)
def Ķ (a:Val ag) (b:Int) (mm:Val Â):Option (((Val ag))×(Val Â)):=iV a b mm some
def Bu (a:Val ag) (y:Val aj) (b:Val ag→Option ρ):Option ρ :=
  á (è ((List.length a)+(List.length ([y])))) (b (a++([y])))
def uC (c:Int) (d:Int) (e:Int) (f:Val ae) (g:Val aa) (h:Val af) (i:Val ac) (j:Val aa) (k:Val ai) (b:Val ag) (a:Int) (l:Int→Option ρ) (m:Int→Option ρ) (n:Unit→Option ρ):Option ρ :=
  ifb (ilt a c) (á ((ile 0 a)&&(ilt a (í b))) (Ĺ b (Int.toNat a) fun o=>Ä (Λ (((d,e),f,g,h,i,j),k) o) fun p=>ifb (!p) (m a) (ck (a+(1:Int)) fun q=>l q))) (n ())
def mg (f:Int) (g:Int) (h:Val ae) (i:Val aa) (j:Val af) (k:Val ac) (l:Val aa) (m:Val ai) (b:Int) (c:Int) (a:Val ag) (d:Int→Int→Val ag→Option ρ) (n:Val aB→Option ρ):Option ρ :=
  ifb (ilt c (Ù a)) (á ((ile 0 c)&&(ilt c (í a))) (Ĺ a (Int.toNat c) fun e=>Ä (Λ (((f,g),h,i,j,k,l),m) e) fun o=>ifb (!(!o)) (á ((ile 0 b)&&(ilt b (í a))) (Ĺ a (Int.toNat b) fun s=>ck (b+(1:Int)) fun p=>ck (c+(1:Int)) fun q=>d p q (List.set a (Int.toNat b) e))) (ck (c+(1:Int)) fun r=>d b r a))) (n (b,a))
def P2 (b:Val Â) (k:Val ag→Option ρ):Option ρ :=
  Ä (mz b.2) fun g=>yd (fun(h:Val ag) (i:Val aj) j=>Bu h i (fun l=>j l)) g ([]) (fun f=>Ä (Ķ f (Ù f) b) fun c=>Ê (fun(m:Int) n=>uC (Ù c.1) b.1.1.1 b.1.1.2 b.1.2.1 b.1.2.2.1 b.1.2.2.2.1 b.1.2.2.2.2.1 b.1.2.2.2.2.2 b.2 c.1 m (fun o=>n o) (fun d=>ifb (ieq d (-1:Int)) (k c.1) (ck (d+(1:Int)) fun p=>Ê (fun(e:(Val (.pair tI aB))) q=>mg b.1.1.1 b.1.1.2 b.1.2.1 b.1.2.2.1 b.1.2.2.2.1 b.1.2.2.2.2.1 b.1.2.2.2.2.2 b.2 e.1 e.2.1 e.2.2 (fun r s t=>q (r,s,t)) (fun a=>á ((ile 0 a.1)&&(ile a.1 (í a.2))) (á ((ile 0 a.1)&&(ile a.1 (í (List.take (Int.toNat a.1) a.2++List.replicate (List.length a.2-(Int.toNat a.1)) ([])++List.drop ((Int.toNat a.1)+(List.length a.2-(Int.toNat a.1))) a.2)))) (k (List.take (Int.toNat a.1) (List.drop 0 (List.take (Int.toNat a.1) a.2++List.replicate (List.length a.2-(Int.toNat a.1)) ([])++List.drop ((Int.toNat a.1)+(List.length a.2-(Int.toNat a.1))) a.2))))))) (d,p,c.1))) (fun _=>k c.1)) (0:Int))
def Ek (a:Val Â):Option ((Val ag)):=P2 a some
def Wm (a:Val Â) (k:(Val (.pair ag tI))→Option ρ):Option ρ :=
  Ä (š a) fun b=>ifb (ine b 0) (k ([],b)) (Ä (Ek a) fun c=>k (c,(0:Int)))
def Rt (a:Val Â):Option ((Val (.pair ag tI))):=Wm a some
def Bi (a:Val ag) (y:Val aj) (b:Val ag→Option ρ):Option ρ :=
  á (è ((List.length a)+(List.length ([y])))) (b (a++([y])))
def PU (a:Val Â) (k:Val ag→Option ρ):Option ρ :=
  Ä (mz a.2) fun c=>yd (fun(d:Val ag) (e:Val aj) f=>Bi d e (fun g=>f g)) c ([]) (fun b=>Ä (Ķ b (Ù b) a) fun h=>k h.1)
def rE (a:Val Â):Option ((Val ag)):=PU a some
def jW (c:Val ag) (d:Int) (e:Int) (f:Int) (g:Val ae) (h:Val aa) (i:Val af) (j:Val ac) (k:Val aa) (l:Val ai) (a:Int) (m:Int→Option ρ) (n:(Val (.pair aj .bool))→Option ρ) (o:Unit→Option ρ):Option ρ :=
  ifb (ilt a d) (Ĥ c a fun b=>Ä (Λ (((e,f),g,h,i,j,k),l) b) fun p=>ifb p (n (b,true)) (ck (a+(1:Int)) fun q=>m q)) (o ())
def uD (a:Val Â) (k:(Val (.pair aj .bool))→Option ρ):Option ρ :=
  Ä (rE a) fun b=>Ê (fun(d:Int) e=>jW b (Ù b) a.1.1.1 a.1.1.2 a.1.2.1 a.1.2.2.1 a.1.2.2.2.1 a.1.2.2.2.2.1 a.1.2.2.2.2.2 a.2 d (fun f=>e f) (fun c=>k (c.1,c.2)) (fun _=>k ([],false))) (0:Int)
def ü (a:Val Â):Option ((Val (.pair aj .bool))):=uD a some
def J1 (a:Val Â) (k:(Val (.pair aj tI))→Option ρ):Option ρ :=
  Ä (š a) fun b=>ifb (ine b 0) (k ([],b)) (Ä (ü a) fun c=>ifb (!c.2) (k ([],(5:Int))) (k (c.1,(0:Int))))
def tR (a:Val Â):Option ((Val (.pair aj tI))):=J1 a some
def jY (b:Val ab) (c:Val ab) (a:Int) (d:Int→Option ρ) (e:Bool→Option ρ) (f:Unit→Option ρ):Option ρ :=
  ifb (ilt a (Ù b)) (Ĥ b a fun g=>Ĥ c a fun h=>ifb (ine g h) (e false) (ck (a+(1:Int)) fun i=>d i)) (f ())
def uM (a:Val ab) (b:Val ab) (k:Bool→Option ρ):Option ρ :=
  ifb (ine (Ù a) (Ù b)) (k false) (Ê (fun(c:Int) d=>jY a b c (fun e=>d e) (fun f=>k f) (fun _=>k true)) (0:Int))
def jp (a:Val ab) (b:Val ab):Option (Bool):=uM a b some
def lf (b:Val aj) (c:Val aj) (a:Int) (d:Int→Option ρ) (e:Bool→Option ρ) (f:Unit→Option ρ):Option ρ :=
  ifb (ilt a (Ù b)) (Ĥ b a fun g=>Ĥ c a fun h=>Ä (jp g h) fun i=>ifb (!i) (e false) (ck (a+(1:Int)) fun j=>d j)) (f ())
def xA (a:Val aj) (b:Val aj) (k:Bool→Option ρ):Option ρ :=
  ifb (ine (Ù a) (Ù b)) (k false) (Ê (fun(c:Int) d=>lf a b c (fun e=>d e) (fun f=>k f) (fun _=>k true)) (0:Int))
def rH (a:Val aj) (b:Val aj):Option (Bool):=xA a b some
def qL (b:Val ae) (c:Int) (d:Int) (a:Int) (e:Int→Option ρ) (f:Int→Option ρ) (g:Unit→Option ρ):Option ρ :=
  ifb (ilt a c) (Ĥ b a fun h=>ifb (ieq h.1 d) (f a) (ck (a+(1:Int)) fun i=>e i)) (g ())
def JD (a:Val Â) (c:Int) (b:Int) (k:Int→Option ρ):Option ρ :=
  ifb (ilt b 0) (k (1:Int)) (ifb (igt b 20000) (k (1:Int)) (Ê (fun(d:Int) e=>qL a.1.2.1 (Ù a.1.2.1) c d (fun f=>e f) (fun g=>ifb (!(ige g 0)) (k (5:Int)) (k (0:Int))) (fun _=>k (5:Int))) (0:Int)))
def tQ (a:Val Â) (b:Int) (c:Int):Option (Int):=JD a b c some
def FX (a:Val ab) (b:Val ab) (k:(Val (.pair ab ay))→Option ρ):Option ρ :=
  Ä (mD a) fun c=>ifb (!c) (k ([],[],(1:Int))) (Ä (mD b) fun d=>ifb (!d) (k ([],[],(1:Int))) (Ä (Μ a b) fun e=>Ä (Μ b a) fun f=>k (e,f,(0:Int))))
def oZ (a:Val ab) (b:Val ab):Option ((Val (.pair ab ay))):=FX a b some
def jX (g:Int) (b:Int) (c:Val ac) (a:Int) (d:Int→Option ρ) (h:Int→Option ρ) (i:Unit→Option ρ):Option ρ :=
  ifb (ilt a g) (á ((ile 0 a)&&(ilt a (í c))) (Ĺ c (Int.toNat a) fun e=>Ä (oZ e.2.2.1 e.2.2.2.1) fun f=>Ä (Û f.1 b) fun j=>ifb j (ck (a+(1:Int)) fun k=>d k) (Ä (Û f.2.1 b) fun l=>ifb (!l) (h a) (ck (a+(1:Int)) fun m=>d m)))) (i ())
def Δ (f:Int) (a:Int) (c:Int) (b:Val ac) (e:Int→Int→Val ac→Option ρ) (h:Val aH→Option ρ):Option ρ :=
  ifb (ilt c (Ù b)) (á ((ile 0 c)&&(ilt c (í b))) (Ĺ b (Int.toNat c) fun d=>Ä (oZ d.2.2.1 d.2.2.2.1) fun g=>Ä (Û g.1 f) fun i=>ifb i (á ((ile 0 a)&&(ilt a (í b))) (Ĺ b (Int.toNat a) fun p=>ck (a+(1:Int)) fun j=>ck (c+(1:Int)) fun k=>e j k (List.set b (Int.toNat a) d))) (Ä (Û g.2.1 f) fun l=>ifb (!(!l)) (á ((ile 0 a)&&(ilt a (í b))) (Ĺ b (Int.toNat a) fun q=>ck (a+(1:Int)) fun m=>ck (c+(1:Int)) fun n=>e m n (List.set b (Int.toNat a) d))) (ck (c+(1:Int)) fun o=>e a o b)))) (h (a,b))
def uE (b:Val Â) (c:Int) (k:Val aU→Option ρ):Option ρ :=
  Ä (š b) fun f=>ifb (ine f 0) (k (false,f)) (Ä (tQ b c (0:Int)) fun g=>ifb (ine g 0) (k (false,g)) (á (è (List.length b.1.2.2.2.2.1)) (Ê (fun(h:Int) i=>jX (Ù b.1.2.2.2.2.1) c b.1.2.2.2.2.1 h (fun j=>i j) (fun d=>ifb (ieq d (-1:Int)) (Ä (ü b) fun l=>k ((!l.2),(0:Int))) (ck (d+(1:Int)) fun m=>Ê (fun(e:(Val (.pair tI aH))) n=>Δ c e.1 e.2.1 e.2.2 (fun o p q=>n (o,p,q)) (fun a=>á ((ile 0 a.1)&&(ile a.1 (í a.2))) (á ((ile 0 a.1)&&(ile a.1 (í (List.take (Int.toNat a.1) a.2++List.replicate (List.length a.2-(Int.toNat a.1)) ((0:Int),(0:Int),[],[],(0:Int),(0:Int),(0:Int),(0:Int))++List.drop ((Int.toNat a.1)+(List.length a.2-(Int.toNat a.1))) a.2)))) (Ä (ü ((b.1.1,b.1.2.1,b.1.2.2.1,b.1.2.2.2.1,(List.take (Int.toNat a.1) (List.drop 0 (List.take (Int.toNat a.1) a.2++List.replicate (List.length a.2-(Int.toNat a.1)) ((0:Int),(0:Int),[],[],(0:Int),(0:Int),(0:Int),(0:Int))++List.drop ((Int.toNat a.1)+(List.length a.2-(Int.toNat a.1))) a.2))),b.1.2.2.2.2.2),b.2)) fun r=>k ((!r.2),(0:Int)))))) (d,m,b.1.2.2.2.2.1))) (fun _=>Ä (ü b) fun s=>k ((!s.2),(0:Int)))) (0:Int))))
def oE (a:Val Â) (b:Int):Option ((Val aU)):=uE a b some
def uB (c:Int) (d:Val ab) (b:Val ac) (a:Int) (e:Int→Option ρ) (f:Int→Option ρ) (g:Unit→Option ρ):Option ρ :=
  ifb (ilt a c) (á ((ile 0 a)&&(ilt a (í b))) (Ĺ b (Int.toNat a) fun h=>Ä (Û d h.1) fun i=>ifb (!i) (f a) (ck (a+(1:Int)) fun j=>e j))) (g ())
def mf (f:Val ab) (b:Int) (c:Int) (a:Val ac) (d:Int→Int→Val ac→Option ρ) (g:Val aH→Option ρ):Option ρ :=
  ifb (ilt c (Ù a)) (á ((ile 0 c)&&(ilt c (í a))) (Ĺ a (Int.toNat c) fun e=>Ä (Û f e.1) fun h=>ifb (!(!h)) (á ((ile 0 b)&&(ilt b (í a))) (Ĺ a (Int.toNat b) fun l=>ck (b+(1:Int)) fun i=>ck (c+(1:Int)) fun j=>d i j (List.set a (Int.toNat b) e))) (ck (c+(1:Int)) fun k=>d b k a))) (g (b,a))
def PV (b:Val Â) (e:Val ab) (k:Val Â→Option ρ):Option ρ :=
  á (è (List.length b.1.2.2.2.2.1)) (Ê (fun(f:Int) g=>uB (Ù b.1.2.2.2.2.1) e b.1.2.2.2.2.1 f (fun h=>g h) (fun c=>ifb (ieq c (-1:Int)) (k b) (ck (c+(1:Int)) fun i=>Ê (fun(d:(Val (.pair tI aH))) j=>mf e d.1 d.2.1 d.2.2 (fun l m n=>j (l,m,n)) (fun a=>á ((ile 0 a.1)&&(ile a.1 (í a.2))) (á ((ile 0 a.1)&&(ile a.1 (í (List.take (Int.toNat a.1) a.2++List.replicate (List.length a.2-(Int.toNat a.1)) ((0:Int),(0:Int),[],[],(0:Int),(0:Int),(0:Int),(0:Int))++List.drop ((Int.toNat a.1)+(List.length a.2-(Int.toNat a.1))) a.2)))) (k ((b.1.1,b.1.2.1,b.1.2.2.1,b.1.2.2.2.1,(List.take (Int.toNat a.1) (List.drop 0 (List.take (Int.toNat a.1) a.2++List.replicate (List.length a.2-(Int.toNat a.1)) ((0:Int),(0:Int),[],[],(0:Int),(0:Int),(0:Int),(0:Int))++List.drop ((Int.toNat a.1)+(List.length a.2-(Int.toNat a.1))) a.2))),b.1.2.2.2.2.2),b.2))))) (c,i,b.1.2.2.2.2.1))) (fun _=>k b)) (0:Int))
def yT (a:Val Â) (b:Val ab):Option (Val Â):=PV a b some
def uG (d:Val ac) (e:Int) (a:Int) (b:Val ab) (f:Int→Val ab→Option ρ) (g:Val ab→Option ρ):Option ρ :=
  ifb (ilt a e) (Ĥ d a fun c=>á (è ((List.length b)+(List.length ([c.1])))) (ck (a+(1:Int)) fun h=>f h (b++([c.1])))) (g b)
def pw (f:Int) (g:Int) (h:Val ae) (i:Val aa) (j:Val af) (k:Val ac) (l:Val aa) (m:Val ai) (b:Val ab) (a:Int) (d:Val ab→Int→Option ρ) (n:Val ab→Option ρ):Option ρ :=
  ifb (ige a 0) (á ((ile 0 a)&&(ile a (í b))) (ck (a+(1:Int)) fun c=>á ((ile 0 c)&&(ile c (í b))) (Ä (ħ ([(List.take (Int.toNat a) b),(List.drop (Int.toNat c) b)])) fun e=>Ä (yT (((f,g),h,i,j,k,l),m) e) fun o=>Ä (ü o) fun p=>ifb (!p.2) (ck (a-(1:Int)) fun q=>d e q) (ck (a-(1:Int)) fun r=>d b r)))) (n b)
def Qh (a:Val Â) (k:Val ay→Option ρ):Option ρ :=
  Ä (š a) fun b=>ifb (ine b 0) (k ([],b)) (Ä (ü a) fun f=>ifb f.2 (k ([],(5:Int))) (Ê (fun(c:Val Ī) g=>uG a.1.2.2.2.2.1 (Ù a.1.2.2.2.2.1) c.1 c.2 (fun h i=>g (h,i)) (fun d=>ck ((Ù d)-(1:Int)) fun j=>Ê (fun(e:Val ay) l=>pw a.1.1.1 a.1.1.2 a.1.2.1 a.1.2.2.1 a.1.2.2.2.1 a.1.2.2.2.2.1 a.1.2.2.2.2.2 a.2 e.1 e.2 (fun m n=>l (m,n)) (fun o=>k (o,(0:Int)))) (d,j))) ((0:Int),[])))
def Iy (a:Val Â):Option ((Val ay)):=Qh a some
def ox (e:Int) (f:Val ab) (g:Int) (a:Int) (b:Val ab) (c:Int→Val ab→Option ρ) (h:Val ab→Option ρ):Option ρ :=
  ifb (ilt a g) (Ĥ f a fun d=>á (ile 0 a) (ifb (ieq (andI .i64 (ij .i64 e a) (1:Int)) 1) (á (è ((List.length b)+(List.length ([d])))) (ck (a+(1:Int)) fun i=>c i (b++([d])))) (ck (a+(1:Int)) fun j=>c j b))) (h b)
def Fl (a:Val ab) (c:Int) (k:Val ab→Option ρ):Option ρ :=
  Ê (fun(b:Val Ī) d=>ox c a (Ù a) b.1 b.2 (fun e f=>d (e,f)) (fun g=>k g)) ((0:Int),[])
def iE (a:Val ab) (b:Int):Option ((Val ab)):=Fl a b some
def kQ (b:Val ac) (c:Int) (d:Int) (a:Int) (e:Int→Option ρ) (f:Int→Option ρ) (g:Unit→Option ρ):Option ρ :=
  ifb (ilt a c) (Ĥ b a fun h=>ifb (ieq h.1 d) (f a) (ck (a+(1:Int)) fun i=>e i)) (g ())
def π (d:Val ab) (e:Int) (b:Val ac) (a:Int) (f:Int→Option ρ) (c:Int→Option ρ) (g:Unit→Option ρ):Option ρ :=
  ifb (ilt a e) (Ĥ d a fun h=>Ê (fun(i:Int) j=>kQ b (Ù b) h i (fun k=>j k) (fun l=>ifb (!(ige l 0)) (c (5:Int)) (ck (a+(1:Int)) fun m=>f m)) (fun _=>c (5:Int))) (0:Int)) (g ())
def iT (b:Val ab) (a:Int) (c:Int→Option ρ) (d:Int→Option ρ) (e:Unit→Option ρ):Option ρ :=
  ifb (ilt a (Ù b)) (Ĥ b a fun f=>ck (a-(1:Int)) fun g=>Ĥ b g fun h=>ifb (ile f h) (d (6:Int)) (ck (a+(1:Int)) fun i=>c i)) (e ())
def iS (c:Val ag) (d:Int) (e:Int) (f:Int) (g:Val ae) (h:Val aa) (i:Val af) (j:Val ac) (k:Val aa) (l:Val ai) (m:Val ab) (n:Int) (a:Int) (o:Int→Option ρ) (p:(Val (.pair aj .bool))→Option ρ) (q:Unit→Option ρ):Option ρ :=
  ifb (ilt a d) (Ĥ c a fun b=>Ä (iE m n) fun r=>Ä (yT (((e,f),g,h,i,j,k),l) r) fun s=>Ä (Λ s b) fun t=>ifb (!(!t)) (p (b,true)) (ck (a+(1:Int)) fun u=>o u)) (q ())
def ŵ (b:Val ab) (e:Val ab) (f:Int) (a:Int) (g:Int→Option ρ) (c:Int→Option ρ) (h:Unit→Option ρ):Option ρ :=
  ifb (ilt a f) (Ĥ e a fun i=>ifb (ige a (Ù b)) (c (1:Int)) (Ĥ b a fun j=>Ä (g9 i j) fun d=>ifb (ine d 0) (c d) (ck (a+(1:Int)) fun k=>g k))) (h ())
def ŗ (c:Int) (d:Int) (b:Val ab) (a:Int) (e:Int→Option ρ) (f:Unit→Option ρ) (g:Unit→Option ρ):Option ρ :=
  ifb (ilt a d) (á ((ile 0 a)&&(ilt a (í b))) (Ĺ b (Int.toNat a) fun h=>ifb (ieq (Gq .i64 c h) 0) (f ()) (ck (a+(1:Int)) fun i=>e i))) (g ())
def Ŗ (b:Int) (d:Val ag) (e:Int) (f:Val ab) (g:Int) (h:Int) (i:Val ae) (j:Val aa) (k:Val af) (l:Val ac) (m:Val aa) (n:Val ai) (c:Int) (a:Val ab) (o:Int→Val ab→Option ρ) (p:Val ab→Option ρ) (q:Val ab→Option ρ):Option ρ :=
  ifb (ilt c e) (Ĥ d c fun r=>Ä (iE f b) fun s=>Ä (yT (((g,h),i,j,k,l,m),n) s) fun t=>Ä (Λ t r) fun u=>ifb (!(!u)) (á (è ((List.length a)+(List.length ([b])))) (p (a++([b])))) (ck (c+(1:Int)) fun v=>o v a)) (q a)
def Ŷ (g:Val ag) (t:Int) (h:Val ab) (i:Int) (j:Int) (k:Val ae) (l:Val aa) (m:Val af) (n:Val ac) (o:Val aa) (p:Val ai) (c:Val ab) (e:Int) (a:Int) (b:Val ab) (d:Val ab→Int→Int→Val ab→Option ρ) (u:Val Ī→Option ρ):Option ρ :=
  ifb (ilt a t) (Ä (iE h a) fun f=>ifb (igt (Ù f) (Ù c)) (ck (a+(1:Int)) fun v=>d c e v b) (ifb (ieq (Ù f) (Ù c)) (Ê (fun(w:Int) x=>ŵ c f (Ù f) w (fun y=>x y) (fun z=>ifb (ige z 0) (ck (a+(1:Int)) fun A=>d c e A b) (Ê (fun(B:Int) C=>ŗ a (Ù b) b B (fun D=>C D) (fun _=>ck (a+(1:Int)) fun E=>d c e E b) (fun _=>Ê (fun(q:Val Ī) F=>Ŗ a g (Ù g) h i j k l m n o p q.1 q.2 (fun G H=>F (G,H)) (fun I=>ck (a+(1:Int)) fun J=>d c e J I) (fun K=>ck (a+(1:Int)) fun L=>d f a L K)) ((0:Int),b))) (0:Int))) (fun _=>ifb (ilt (Ù f) (Ù c)) (Ê (fun(M:Int) N=>ŗ a (Ù b) b M (fun O=>N O) (fun _=>ck (a+(1:Int)) fun P=>d c e P b) (fun _=>Ê (fun(r:Val Ī) Q=>Ŗ a g (Ù g) h i j k l m n o p r.1 r.2 (fun R S=>Q (R,S)) (fun T=>ck (a+(1:Int)) fun U=>d c e U T) (fun V=>ck (a+(1:Int)) fun W=>d f a W V)) ((0:Int),b))) (0:Int)) (ck (a+(1:Int)) fun X=>d c e X b))) (0:Int)) (Ê (fun(Y:Int) Z=>ŗ a (Ù b) b Y (fun dc=>Z dc) (fun _=>ck (a+(1:Int)) fun df=>d c e df b) (fun _=>Ê (fun(s:Val Ī) dg=>Ŗ a g (Ù g) h i j k l m n o p s.1 s.2 (fun dh di=>dg (dh,di)) (fun dj=>ck (a+(1:Int)) fun dk=>d c e dk dj) (fun dl=>ck (a+(1:Int)) fun dm=>d f a dm dl)) ((0:Int),b))) (0:Int)))) (u (e,b))
def xq (a:Val Â) (b:Val ab) (k:Val ay→Option ρ):Option ρ :=
  Ä (š a) fun g=>ifb (ine g 0) (k ([],g)) (ifb (igt (Ù b) 8) (k ([],(2:Int))) (Ê (fun(h:Int) i=>π b (Ù b) a.1.2.2.2.2.1 h (fun j=>i j) (fun l=>k ([],l)) (fun _=>Ê (fun(m:Int) n=>iT b m (fun o=>n o) (fun p=>k ([],p)) (fun _=>Ä (rE a) fun d=>á (ile 0 (Ù b)) (ck ((shlI .i64 (1:Int) (Ù b))-(1:Int)) fun c=>Ê (fun(q:Int) r=>iS d (Ù d) a.1.1.1 a.1.1.2 a.1.2.1 a.1.2.2.1 a.1.2.2.2.1 a.1.2.2.2.2.1 a.1.2.2.2.2.2 a.2 b c q (fun s=>r s) (fun t=>ifb t.2 (k ([],(5:Int))) (Ê (fun(e:(Val (.pair ab aP))) u=>Ŷ d c b a.1.1.1 a.1.1.2 a.1.2.1 a.1.2.2.1 a.1.2.2.2.1 a.1.2.2.2.2.1 a.1.2.2.2.2.2 a.2 e.1 e.2.1 e.2.2.1 e.2.2.2 (fun v w x y=>u (v,w,x,y)) (fun z=>Ä (iE b z.1) fun A=>k (A,(0:Int)))) (b,c,(0:Int),[]))) (fun _=>Ê (fun(f:(Val (.pair ab aP))) B=>Ŷ d c b a.1.1.1 a.1.1.2 a.1.2.1 a.1.2.2.1 a.1.2.2.2.1 a.1.2.2.2.2.1 a.1.2.2.2.2.2 a.2 f.1 f.2.1 f.2.2.1 f.2.2.2 (fun C D E F=>B (C,D,E,F)) (fun G=>Ä (iE b G.1) fun H=>k (H,(0:Int)))) (b,c,(0:Int),[]))) (0:Int)))) (1:Int))) (0:Int)))
def rG (a:Val Â) (b:Val ab):Option ((Val ay)):=xq a b some
def P9 (a:Val Â) (k:(Val (.pair ag tI))→Option ρ):Option ρ :=
  Ä (š a) fun b=>ifb (ine b 0) (k ([],b)) (Ä (rE a) fun c=>k (c,(0:Int)))
def Ix (a:Val Â):Option ((Val (.pair ag tI))):=P9 a some
def KX (a:Val É) (d:Val Ã) (k:Val Ã→Option ρ):Option ρ :=
  Ä (ĭ a) fun b=>ifb (ine b 0) (k ((0:Int),b)) (Ä (pV a) fun e=>Ä (ñ e d) fun c=>ifb (ilt c 0) (k ((0:Int),(5:Int))) (ck (c+(1:Int)) fun f=>k (f,(0:Int))))
def pW (a:Val É) (b:Val Ã):Option (Val Ã):=KX a b some
def vn (f:Int) (a:Int) (c:Val ac) (g:Int→Val ac→Option ρ) (h:Val ac→Option ρ):Option ρ :=
  ifb (ilt a f) (á ((ile 0 a)&&(ilt a (í c))) (Ĺ c (Int.toNat a) fun d=>á (è (List.length d.2.2.1)) (á (è (List.length d.2.2.2.1)) (á ((ile 0 a)&&(ilt a (í c))) (Ĺ c (Int.toNat a) fun b=>á ((ile 0 a)&&(ilt a (í (List.set c (Int.toNat a) (b.1,b.2.1,d.2.2.1,b.2.2.2))))) (Ĺ (List.set c (Int.toNat a) (b.1,b.2.1,d.2.2.1,b.2.2.2)) (Int.toNat a) fun e=>ck (a+(1:Int)) fun i=>g i (List.set (List.set c (Int.toNat a) (b.1,b.2.1,d.2.2.1,b.2.2.2)) (Int.toNat a) (e.1,e.2.1,e.2.2.1,d.2.2.2.1,e.2.2.2.2)))))))) (h c)
def Q5 (a:Val É) (b:Val Ã) (k:(Val (.pair É tI))→Option ρ):Option ρ :=
  Ä (ĭ a) fun c=>ifb (ine c 0) (k ((((0:Int),(0:Int)),[],[],[],[],[]),c)) (á (è (List.length a.2.1)) (á (è (List.length a.2.2.1)) (á (è (List.length a.2.2.2.1)) (á (è (List.length a.2.2.2.2.2)) (á (è (List.length a.2.2.2.2.1)) (Ê (fun(d:Val aH) g=>vn (Ù a.2.2.2.2.1) d.1 d.2 (fun h i=>g (h,i)) (fun e=>á (è ((List.length a.2.2.2.2.2)+(List.length ([b])))) (Ä (ĭ (a.1,a.2.1,a.2.2.1,a.2.2.2.1,e,(a.2.2.2.2.2++([b])))) fun f=>ifb (ine f 0) (k ((((0:Int),(0:Int)),[],[],[],[],[]),f)) (k ((a.1,a.2.1,a.2.2.1,a.2.2.2.1,e,(a.2.2.2.2.2++([b]))),(0:Int)))))) ((0:Int),a.2.2.2.2.1)))))))
def IC (a:Val É) (b:Val Ã):Option ((Val (.pair É tI))):=Q5 a b some
def qX (b:Val ab) (c:Int) (d:Int) (e:Val ak) (a:Int) (f:Int→Option ρ) (g:Int→Option ρ) (h:Unit→Option ρ):Option ρ :=
  ifb (ilt a c) (Ĥ b a fun i=>Ä (yW (d,e) i) fun j=>ifb (!j) (g (1:Int)) (ck (a+(1:Int)) fun k=>f k)) (h ())
def Kc (a:Val Ì) (b:Val ab) (k:Int→Option ρ):Option ρ :=
  Ä (pT a) fun c=>ifb (ine c.1 0) (k c.1) (Ê (fun(d:Int) e=>qX b (Ù b) a.1 a.2 d (fun f=>e f) (fun g=>k g) (fun _=>Ä (ks a ([])) fun h=>ifb (!h.2) (k (9:Int)) (k (0:Int)))) (0:Int))
def Eo (a:Val Ì) (b:Val ab):Option (Int):=Kc a b some
def oA (c:Int) (a:Int) (b:Val ab) (d:Int→Val ab→Option ρ) (e:Val ab→Option ρ):Option ρ :=
  ifb (ilt a c) (á ((ile 0 a)&&(ilt a (í b))) (Ĺ b (Int.toNat a) fun g=>ck (a+(1:Int)) fun f=>d f (List.set b (Int.toNat a) (1152921504606846976:Int)))) (e b)
def uR (c:Val ak) (d:Int) (b:Int) (a:Int) (e:Int→Int→Option ρ) (f:Int→Option ρ):Option ρ :=
  ifb (ilt a d) (Ĥ c a fun g=>ck (b+(YH g.2.2 (0:Int))) fun h=>ck (a+(1:Int)) fun i=>e h i) (f b)
def uQ (f:Int) (d:Val ab) (a:Int) (b:Val aq) (c:Val ab) (e:Int→Val aq→Val ab→Option ρ) (g:Val aL→Option ρ):Option ρ :=
  ifb (ilt a f) (á ((ile 0 a)&&(ilt a (í d))) (Ĺ d (Int.toNat a) fun h=>ifb (ine h 1152921504606846976) (á (è ((List.length c)+(List.length ([a])))) (á ((ile 0 a)&&(ilt a (í b))) (Ĺ b (Int.toNat a) fun k=>ck (a+(1:Int)) fun i=>e i (List.set b (Int.toNat a) true) (c++([a]))))) (ck (a+(1:Int)) fun j=>e j b c))) (g (b,c))
def Dn (m:Val ao) (j:Int) (d:Int) (n:Val ak) (o:Int) (f:Int) (b:Val ab) (c:Val aq) (e:Val ab) (g:Int→Val ab→Val aq→Val ab→Option ρ) (l:(Val (.pair .bool (.pair ab aL)))→Option ρ) (p:(Val (.pair ab aL))→Option ρ):Option ρ :=
  ifb (ilt f o) (Ĥ n f fun a=>ifb (ine a.1 d) (ck (f+(1:Int)) fun q=>g q b c e) (Mh (k:=tI) (v:=.bool) f m (fun r=>ifb r (ck (f+(1:Int)) fun s=>g s b c e) (á ((ile 0 d)&&(ilt d (í b))) (Ĺ b (Int.toNat d) fun t=>ck (t+a.2.2) fun u=>á ((ile 0 a.2.1)&&(ilt a.2.1 (í b))) (Ĺ b (Int.toNat a.2.1) fun w=>ifb (ige u w) (ck (f+(1:Int)) fun x=>g x b c e) (á ((ile 0 d)&&(ilt d (í b))) (Ĺ b (Int.toNat d) fun y=>ck (y+a.2.2) fun h=>á ((ile 0 a.2.1)&&(ilt a.2.1 (í b))) (Ĺ b (Int.toNat a.2.1) fun M=>á ((ile 0 a.2.1)&&(ilt a.2.1 (í (List.set b (Int.toNat a.2.1) h)))) (Ĺ (List.set b (Int.toNat a.2.1) h) (Int.toNat a.2.1) fun z=>ifb (ilt z j) (l (false,(List.set b (Int.toNat a.2.1) h),c,e)) (á ((ile 0 a.2.1)&&(ilt a.2.1 (í c))) (Ĺ c (Int.toNat a.2.1) fun A=>ifb (!A) (á (è ((List.length e)+(List.length ([a.2.1])))) (á ((ile 0 a.2.1)&&(ilt a.2.1 (í c))) (Ĺ c (Int.toNat a.2.1) fun N=>ck (f+(1:Int)) fun B=>g B (List.set b (Int.toNat a.2.1) h) (List.set c (Int.toNat a.2.1) true) (e++([a.2.1]))))) (ck (f+(1:Int)) fun C=>g C (List.set b (Int.toNat a.2.1) h) c e))))))))))) (á ((ile 0 d)&&(ilt d (í b))) (Ĺ b (Int.toNat d) fun D=>ck (D+a.2.2) fun E=>á ((ile 0 a.2.1)&&(ilt a.2.1 (í b))) (Ĺ b (Int.toNat a.2.1) fun F=>ifb (ige E F) (ck (f+(1:Int)) fun G=>g G b c e) (á ((ile 0 d)&&(ilt d (í b))) (Ĺ b (Int.toNat d) fun H=>ck (H+a.2.2) fun i=>á ((ile 0 a.2.1)&&(ilt a.2.1 (í b))) (Ĺ b (Int.toNat a.2.1) fun O=>á ((ile 0 a.2.1)&&(ilt a.2.1 (í (List.set b (Int.toNat a.2.1) i)))) (Ĺ (List.set b (Int.toNat a.2.1) i) (Int.toNat a.2.1) fun I=>ifb (ilt I j) (l (false,(List.set b (Int.toNat a.2.1) i),c,e)) (á ((ile 0 a.2.1)&&(ilt a.2.1 (í c))) (Ĺ c (Int.toNat a.2.1) fun J=>ifb (!J) (á (è ((List.length e)+(List.length ([a.2.1])))) (á ((ile 0 a.2.1)&&(ilt a.2.1 (í c))) (Ĺ c (Int.toNat a.2.1) fun P=>ck (f+(1:Int)) fun K=>g K (List.set b (Int.toNat a.2.1) i) (List.set c (Int.toNat a.2.1) true) (e++([a.2.1]))))) (ck (f+(1:Int)) fun L=>g L (List.set b (Int.toNat a.2.1) i) c e)))))))))))) (p (b,c,e))
def uP (l:Val ao) (m:Int) (n:Int) (k:Val ak) (h:Val ab) (d:Val aq) (b:Val ab) (c:Val ab) (o:Val ab→Val aq→Val ab→Val ab→Option ρ) (i:(Val (.pair .bool aM))→Option ρ):Option ρ :=
  ifb (ieq (Ù c) 0) (i (true,h,d,b,c)) (á (ilt 0 (í c)) (Ĺ c 0 fun a=>á (ile 1 (í c)) (á (decide (1+(List.length c-1)=List.length c)) (á ((ile 0 a)&&(ilt a (í d))) (Ĺ d (Int.toNat a) fun x=>á ((ile 0 a)&&(ilt a (í b))) (Ĺ b (Int.toNat a) fun p=>ck (p+(1:Int)) fun e=>á ((ile 0 a)&&(ilt a (í b))) (Ĺ b (Int.toNat a) fun y=>á ((ile 0 a)&&(ilt a (í (List.set b (Int.toNat a) e)))) (Ĺ (List.set b (Int.toNat a) e) (Int.toNat a) fun q=>ck (n+(1:Int)) fun r=>ifb (igt q r) (i (false,h,(List.set d (Int.toNat a) false),(List.set b (Int.toNat a) e),(List.drop 1 c))) (Ê (fun(f:(Val (.pair tI (.pair ab aL)))) s=>Dn l m a k (Ù k) f.1 f.2.1 f.2.2.1 f.2.2.2 (fun t u v w=>s (t,u,v,w)) (fun g=>i (g.1,g.2.1,g.2.2.1,(List.set b (Int.toNat a) e),g.2.2.2)) (fun j=>o j.1 j.2.1 (List.set b (Int.toNat a) e) j.2.2)) ((0:Int),h,(List.set d (Int.toNat a) false),(List.drop 1 c)))))))))))
def FB (a:Val Ì) (i:Val ao) (b:Int) (k:Val ab→Option ρ):Option ρ :=
  á ((ile 0 a.1)&&(è (Int.toNat a.1))) (Ê (fun(f:Val Ī) j=>oA (Ù (List.replicate (Int.toNat a.1) (0:Int))) f.1 f.2 (fun l m=>j (l,m)) (fun c=>á ((ile 0 b)&&(ilt b (í c))) (Ĺ c (Int.toNat b) fun B=>á ((ile 0 a.1)&&(è (Int.toNat a.1))) (á ((ile 0 a.1)&&(è (Int.toNat a.1))) (Ê (fun(g:Val Ã) n=>uR a.2 (Ù a.2) g.1 g.2 (fun o p=>n (o,p)) (fun q=>Ê (fun(e:(Val (.pair tI aL))) r=>uQ a.1 (List.set c (Int.toNat b) (0:Int)) e.1 e.2.1 e.2.2 (fun s t u=>r (s,t,u)) (fun h=>Ê (fun(d:Val aM) v=>uP i q a.1 a.2 d.1 d.2.1 d.2.2.1 d.2.2.2 (fun w x y z=>v (w,x,y,z)) (fun A=>k A.2.1)) ((List.set c (Int.toNat b) (0:Int)),h.1,(List.replicate (Int.toNat a.1) (0:Int)),h.2))) ((0:Int),(List.replicate (Int.toNat a.1) false),[]))) ((0:Int),(0:Int))))))) ((0:Int),(List.replicate (Int.toNat a.1) (0:Int))))
def tS (a:Val Ì) (b:Val ao) (c:Int):Option ((Val ab)):=FB a b c some
def qZ (c:Int) (d:Int) (e:Val ak) (a:Int) (b:Val ab) (f:Int→Val ab→Option ρ) (g:Val ab→Option ρ):Option ρ :=
  ifb (ilt a c) (Ä (tS (d,e) ([]) a) fun h=>Ĥ h (0:Int) fun i=>á ((ile 0 a)&&(ilt a (í b))) (Ĺ b (Int.toNat a) fun k=>ck (a+(1:Int)) fun j=>f j (List.set b (Int.toNat a) i))) (g b)
def qY (f:Val ab) (g:Int) (c:Val ab) (a:Int) (b:Val aa) (h:Int→Val aa→Option ρ) (i:Val aa→Option ρ):Option ρ :=
  ifb (ilt a g) (á ((ile 0 a)&&(ilt a (í c))) (Ĺ c (Int.toNat a) fun j=>ck (0-j) fun d=>Ĥ f a fun e=>á (è ((List.length b)+(List.length ([(d,e)])))) (ck (a+(1:Int)) fun k=>h k (b++([(d,e)]))))) (i b)
def Kg (a:Val Ì) (k:Val bh→Option ρ):Option ρ :=
  Ä (Eo a ([])) fun b=>ifb (ine b 0) (k ([],b)) (Ä (tS a ([]) (0:Int)) fun c=>á ((ile 0 a.1)&&(è (Int.toNat a.1))) (Ê (fun(d:Val Ī) f=>qZ (Ù (List.replicate (Int.toNat a.1) (0:Int))) a.1 a.2 d.1 d.2 (fun g h=>f (g,h)) (fun i=>Ê (fun(e:Val bc) j=>qY c (Ù c) i e.1 e.2 (fun l m=>j (l,m)) (fun n=>k (n,(0:Int)))) ((0:Int),[]))) ((0:Int),(List.replicate (Int.toNat a.1) (0:Int)))))
def tT (a:Val Ì):Option ((Val bh)):=Kg a some
def Fe (a:Val É) (b:Val Ã) (k:Val Ch→Option ρ):Option ρ :=
  Ä (pW a b) fun f=>ifb (ine f.2 0) (Ä (IC a b) fun c=>ifb (ine c.2 0) (k (((0:Int),(0:Int)),c.2)) (Ä (pW c.1 b) fun g=>Ä (iG c.1) fun h=>Ä (tT h.1) fun d=>ifb (ine d.2 0) (k (((0:Int),(0:Int)),d.2)) (Ĥ d.1 g.1 fun i=>k (i,(0:Int))))) (Ä (pW a b) fun j=>Ä (iG a) fun l=>Ä (tT l.1) fun e=>ifb (ine e.2 0) (k (((0:Int),(0:Int)),e.2)) (Ĥ e.1 j.1 fun m=>k (m,(0:Int))))
def yU (a:Val É) (b:Val Ã):Option (Val Ch):=Fe a b some
def oz (r:Int) (e:Int) (s:Val ag) (t:Int) (f:Int) (g:Int) (h:Val ae) (i:Val aa) (j:Val af) (l:Val ac) (m:Val aa) (n:Val ai) (c:Int) (a:Val aQ) (o:Int→Val aQ→Option ρ) (u:(Val (.pair tI aQ))→Option ρ) (w:Val aQ→Option ρ):Option ρ :=
  ifb (ilt c t) (Ĥ s c fun p=>Ä (sk (((f,g),h,i,j,l,m),n) p r e) fun d=>Ä (ix (((f,g),h,i,j,l,m),n) p) fun x=>Ä (yU x (d,e)) fun b=>ifb (ine b.2 0) (u (b.2,a)) (Mh (k:=tI) (v:=Ã) d a (fun q=>ck (c+(1:Int)) fun y=>o y (Jj (k:=tI) (v:=Ã) d ((YH b.1.1 q.1),(WX b.1.2 q.2)) a)) (ck (c+(1:Int)) fun z=>o z (Jj (k:=tI) (v:=Ã) d b.1 a)))) (w a)
def oy (f:Val ae) (g:Int) (h:Val aQ) (a:Int) (b:Val ak) (d:Int→Val ak→Option ρ) (i:Val ak→Option ρ):Option ρ :=
  ifb (ilt a g) (Ĥ f a fun c=>Mh (k:=tI) (v:=Ã) c.1 h (fun e=>á (è ((List.length b)+(List.length ([(c.1,e)])))) (ck (a+(1:Int)) fun j=>d j (b++([(c.1,e)])))) (ck (a+(1:Int)) fun l=>d l b)) (i b)
def Fq (a:Val Â) (c:Int) (d:Int) (k:(Val (.pair ak tI))→Option ρ):Option ρ :=
  Ä (š a) fun e=>ifb (ine e 0) (k ([],e)) (Ä (tQ a c d) fun f=>ifb (ine f 0) (k ([],f)) (Ä (Ek a) fun b=>ifb (ieq (Ù b) 0) (k ([],(5:Int))) (Ê (fun(g:(Val (.pair tI aQ))) i=>oz c d b (Ù b) a.1.1.1 a.1.1.2 a.1.2.1 a.1.2.2.1 a.1.2.2.2.1 a.1.2.2.2.2.1 a.1.2.2.2.2.2 a.2 g.1 g.2 (fun j l=>i (j,l)) (fun m=>k ([],m.1)) (fun n=>Ê (fun(h:Val Ì) o=>oy a.1.2.1 (Ù a.1.2.1) n h.1 h.2 (fun p q=>o (p,q)) (fun r=>k (r,(0:Int)))) ((0:Int),[]))) ((0:Int),[]))))
def oY (a:Val Â) (b:Int) (c:Int):Option ((Val (.pair ak tI))):=Fq a b c some
def xg (a:Val ab) (y:Int) (b:Val ab→Option ρ):Option ρ :=
  á (è ((List.length a)+(List.length ([y])))) (b (a++([y])))
def qM (h:Val aj) (i:Int) (j:Val ai) (c:Int) (k:Int→Option ρ) (d:Bool→Option ρ) (l:Unit→Option ρ):Option ρ :=
  ifb (ilt c i) (Ĥ h c fun e=>Ĥ j c fun f=>ifb (ine (Ù e) (Ù f.2)) (d false) (Ä (yO e) fun m=>yd (fun(n:Val ab) (o:Int) p=>xg n o (fun q=>p q)) m ([]) (fun g=>á (è (List.length g)) (Ä (Eh (wE g)) fun a=>Ä (Eh f.2) fun b=>ifb (!((yk a.1 b.1)&&((yk a.2.1 b.2.1)&&((yk a.2.2.1 b.2.2.1)&&((yk a.2.2.2.1 b.2.2.2.1)&&((yk a.2.2.2.2 b.2.2.2.2)&&true)))))) (d false) (ck (c+(1:Int)) fun r=>k r))))) (l ())
def JJ (b:Val Â) (a:Val aj) (k:Bool→Option ρ):Option ρ :=
  ifb (ine (Ù a) (Ù b.2)) (k false) (Ê (fun(c:Int) d=>qM a (Ù a) b.2 c (fun e=>d e) (fun f=>k f) (fun _=>k true)) (0:Int))
def Ei (a:Val Â) (b:Val aj):Option (Bool):=JJ a b some
def JW (a:Val Â) (c:Val aj) (k:Int→Option ρ):Option ρ :=
  Ä (š a) fun b=>ifb (ine b 0) (k b) (Ä (Ei a c) fun d=>ifb (!d) (k (1:Int)) (k (0:Int)))
def El (a:Val Â) (b:Val aj):Option (Int):=JW a b some
def Wf (a:Val Â) (b:Val aj) (c:Int) (d:Int) (k:Val Ã→Option ρ):Option ρ :=
  Ä (El a b) fun e=>ifb (ine e 0) (k ((0:Int),e)) (Ä (tQ a c d) fun f=>ifb (ine f 0) (k ((0:Int),f)) (Ä (sk a b c d) fun g=>k (g,(0:Int))))
def Rs (a:Val Â) (b:Val aj) (c:Int) (d:Int):Option (Val Ã):=Wf a b c d some
def yH (c:Int) (a:Int) (b:Val ab) (d:Int→Val ab→Option ρ) (e:Val ab→Option ρ):Option ρ :=
  ifb (ilt a c) (á ((ile 0 a)&&(ilt a (í b))) (Ĺ b (Int.toNat a) fun g=>ck (a+(1:Int)) fun f=>d f (List.set b (Int.toNat a) (1152921504606846976:Int)))) (e b)
def Qn (c:Int) (a:Int) (b:Val ab) (d:Int→Val ab→Option ρ) (e:Val ab→Option ρ):Option ρ :=
  ifb (ilt a c) (á ((ile 0 a)&&(ilt a (í b))) (Ĺ b (Int.toNat a) fun g=>ck (a+(1:Int)) fun f=>d f (List.set b (Int.toNat a) (1152921504606846976:Int)))) (e b)
def Dm (d:Val ab) (f:Val ak) (g:Int) (c:Int) (b:Val ab) (e:Int→Val ab→Option ρ) (h:Val ab→Option ρ):Option ρ :=
  ifb (ilt c g) (Ĥ f c fun a=>Ĥ d a.2.1 fun i=>ifb (ine i 1152921504606846976) (á ((ile 0 a.1)&&(ilt a.1 (í b))) (Ĺ b (Int.toNat a.1) fun j=>Ĥ d a.2.1 fun k=>ck (a.2.2+k) fun l=>á ((ile 0 a.1)&&(ilt a.1 (í b))) (Ĺ b (Int.toNat a.1) fun o=>ck (c+(1:Int)) fun m=>e m (List.set b (Int.toNat a.1) (YH j l))))) (ck (c+(1:Int)) fun n=>e n b)) (h b)
def Il (i:Int) (b:Int) (d:Val ak) (e:Int) (a:Val aj) (j:Int→Val aj→Option ρ) (k:Val aj→Option ρ):Option ρ :=
  ifb (ilt e i) (ck ((Ù a)-(1:Int)) fun c=>á ((ile 0 c)&&(ilt c (í a))) (Ĺ a (Int.toNat c) fun l=>á ((ile 0 b)&&(è (Int.toNat b))) (Ê (fun(f:Val Ī) m=>Qn (Ù (List.replicate (Int.toNat b) (0:Int))) f.1 f.2 (fun n o=>m (n,o)) (fun p=>Ê (fun(g:Val Ī) q=>Dm l d (Ù d) g.1 g.2 (fun r s=>q (r,s)) (fun h=>á (è ((List.length a)+(List.length ([h])))) (ck (e+(1:Int)) fun t=>j t (a++([h]))))) ((0:Int),p))) ((0:Int),(List.replicate (Int.toNat b) (0:Int)))))) (k a)
def J9 (a:Val Ì) (b:Int) (f:Int) (k:Val aj→Option ρ):Option ρ :=
  á ((ile 0 a.1)&&(è (Int.toNat a.1))) (Ê (fun(d:Val Ī) g=>yH (Ù (List.replicate (Int.toNat a.1) (0:Int))) d.1 d.2 (fun h i=>g (h,i)) (fun c=>á ((ile 0 b)&&(ilt b (í c))) (Ĺ c (Int.toNat b) fun o=>Ê (fun(e:Val bg) j=>Il f a.1 a.2 e.1 e.2 (fun l m=>j (l,m)) (fun n=>k n)) ((0:Int),[(List.set c (Int.toNat b) (0:Int))])))) ((0:Int),(List.replicate (Int.toNat a.1) (0:Int))))
def En (a:Val Ì) (b:Int) (c:Int):Option ((Val aj)):=J9 a b c some
def nw (d:Int) (c:Int) (e:Val ak) (a:Int) (b:Val ag) (f:Int→Val ag→Option ρ) (g:Val ag→Option ρ):Option ρ :=
  ifb (ilt a d) (Ä (En (c,e) a c) fun h=>á ((ile 0 a)&&(ilt a (í b))) (Ĺ b (Int.toNat a) fun j=>ck (a+(1:Int)) fun i=>f i (List.set b (Int.toNat a) h))) (g b)
def GU (g:Int) (h:Val aj) (j:Val ak) (k:Int) (e:Int) (b:Int) (a:Int) (c:Val ab) (f:Int→Int→Int→Val ab→Option ρ) (i:Val aP→Option ρ):Option ρ :=
  ifb (ilt a k) (Ĥ j a fun d=>ifb (ieq d.1 e) (ck (g-(1:Int)) fun l=>Ĥ h l fun m=>Ĥ m d.2.1 fun n=>ifb (ine n 1152921504606846976) (ck (b+d.2.2) fun o=>ck (g-(1:Int)) fun p=>Ĥ h p fun q=>Ĥ q d.2.1 fun r=>ck (o+r) fun s=>ifb (ilt s 0) (á (è ((List.length c)+(List.length ([a])))) (ck (b+d.2.2) fun t=>i (d.2.1,t,(c++([a]))))) (ck (a+(1:Int)) fun u=>f e b u c)) (ck (a+(1:Int)) fun v=>f e b v c)) (ck (a+(1:Int)) fun w=>f e b w c)) (i (e,b,c))
def xM (f:Val aj) (d:Val ak) (g:Int) (b:Int) (h:Int) (e:Val ab) (i:Int→Int→Int→Val ab→Option ρ) (j:Val ab→Option ρ):Option ρ :=
  ifb (igt b 0) (Ê (fun(a:(Val (.pair tI aP))) k=>GU b f d (Ù d) a.1 a.2.1 a.2.2.1 a.2.2.2 (fun l m n o=>k (l,m,n,o)) (fun c=>ck (b-(1:Int)) fun p=>i c.1 p c.2.1 c.2.2)) (g,h,(0:Int),e)) (j e)
def nu (e:Int) (h:Val ak) (i:Int) (j:Int) (k:Val ak) (b:Val ag) (c:Int) (f:Int→Option ρ) (l:Unit→Option ρ) (m:Val Ī→Option ρ) (n:Unit→Option ρ):Option ρ :=
  ifb (ilt c i) (Ĥ h c fun a=>á ((ile 0 a.1)&&(ilt a.1 (í b))) (Ĺ b (Int.toNat a.1) fun o=>ck (e-(1:Int)) fun p=>Ĥ o p fun q=>Ĥ q a.2.1 fun g=>ifb (ieq g 1152921504606846976) (ck (c+(1:Int)) fun r=>f r) (ck (a.2.2+g) fun s=>ifb (ige s 0) (ck (c+(1:Int)) fun t=>f t) (ifb (igt e j) (l ()) (á ((ile 0 a.1)&&(ilt a.1 (í b))) (Ĺ b (Int.toNat a.1) fun u=>Ê (fun(d:(Val (.pair tI aP))) v=>xM u k d.1 d.2.1 d.2.2.1 d.2.2.2 (fun w x y z=>v (w,x,y,z)) (fun A=>m ((0:Int),A))) (a.1,e,(0:Int),[]))))))) (n ())
def rc (d:Int) (a:Val ak) (e:Val ag) (b:Int) (f:Int→Option ρ) (g:Unit→Option ρ) (h:Val Ī→Option ρ):Option ρ :=
  Ê (fun(i:Int) j=>nu b a (Ù a) d a e i (fun k=>j k) (fun _=>g ()) (fun c=>h (c.1,c.2)) (fun _=>ck (b+(1:Int)) fun l=>f l)) (0:Int)
def Dr (a:Val Ì) (k:Val ay→Option ρ):Option ρ :=
  Ä (pT a) fun b=>ifb (ine b.1 0) (k ([],b.1)) (Ä (ks a ([])) fun e=>ifb e.2 (k ([],(5:Int))) (á ((ile 0 a.1)&&(è (Int.toNat a.1))) (Ê (fun(c:Val aB) f=>nw (Ù (List.replicate (Int.toNat a.1) ([]:Val aj))) a.1 a.2 c.1 c.2 (fun g h=>f (g,h)) (fun i=>Ê (fun(j:Int) l=>rc a.1 a.2 i j (fun m=>l m) (fun _=>k ([],(5:Int))) (fun d=>k (d.2,d.1))) (1:Int))) ((0:Int),(List.replicate (Int.toNat a.1) ([]:Val aj))))))
def nP (a:Val Ì):Option ((Val ay)):=Dr a some
def qT (d:Val ag) (e:Int) (f:Int) (g:Int) (h:Val ae) (i:Val aa) (j:Val af) (k:Val ac) (l:Val aa) (m:Val ai) (b:Int) (a:Val aj) (n:Int→Val aj→Option ρ) (o:Val bg→Option ρ) (p:Val aj→Option ρ):Option ρ :=
  ifb (ilt b e) (Ĥ d b fun q=>Ä (ix (((f,g),h,i,j,k,l),m) q) fun r=>Ä (iG r) fun s=>Ä (nP s.1) fun c=>ifb (ine c.2 0) (o ((5:Int),a)) (á (è ((List.length a)+(List.length ([c.1])))) (ck (b+(1:Int)) fun t=>n t (a++([c.1]))))) (p a)
def JZ (a:Val Â) (k:(Val (.pair aj tI))→Option ρ):Option ρ :=
  Ä (š a) fun b=>ifb (ine b 0) (k ([],b)) (Ä (rE a) fun c=>Ê (fun(d:Val bg) e=>qT c (Ù c) a.1.1.1 a.1.1.2 a.1.2.1 a.1.2.2.1 a.1.2.2.2.1 a.1.2.2.2.2.1 a.1.2.2.2.2.2 a.2 d.1 d.2 (fun f g=>e (f,g)) (fun h=>k ([],h.1)) (fun i=>k (i,(0:Int)))) ((0:Int),[]))
def Em (a:Val Â):Option ((Val (.pair aj tI))):=JZ a some
def mM (d:Val ab) (e:Int) (f:Val ak) (a:Int) (g:Int→Option ρ) (b:Int→Option ρ) (h:Unit→Option ρ):Option ρ :=
  ifb (ilt a e) (Ĥ d a fun c=>ifb (ilt c 0) (b a) (ifb (ige c (Ù f)) (b a) (ck (a+(1:Int)) fun i=>g i))) (h ())
def BA (b:Val Ì) (a:Val ab) (k:Int→Option ρ):Option ρ :=
  ifb (igt (Ù a) 80) (k (2:Int)) (Ê (fun(c:Int) d=>mM a (Ù a) b.2 c (fun e=>d e) (fun f=>ifb (ige f 0) (k (1:Int)) (k (0:Int))) (fun _=>k (0:Int))) (0:Int))
def vx (a:Val Ì) (b:Val ab):Option (Int):=BA a b some
def uN (e:Val ab) (f:Int) (g:Val ak) (c:Int) (d:Int) (a:Int) (h:Int→Int→Int→Option ρ) (i:(Val (.pair tI (.pair tI .bool)))→Option ρ) (j:Val Ã→Option ρ):Option ρ :=
  ifb (ilt a f) (Ĥ e a fun k=>Ĥ g k fun b=>ifb (ine b.1 c) (i ((0:Int),(0:Int),false)) (ck (d+b.2.2) fun l=>ck (a+(1:Int)) fun m=>h b.2.1 l m)) (j (c,d))
def Ql (e:Val Ì) (f:Int) (c:Val ab) (k:(Val (.pair tI (.pair tI .bool)))→Option ρ):Option ρ :=
  Ê (fun(a:Val ŕ) g=>uN c (Ù c) e.2 a.1 a.2.1 a.2.2 (fun h i j=>g (h,i,j)) (fun b=>k (b.1,b.2.1,b.2.2)) (fun d=>k (d.1,d.2,true))) (f,(0:Int),(0:Int))
def Iz (a:Val Ì) (b:Int) (c:Val ab):Option ((Val (.pair tI (.pair tI .bool)))):=Ql a b c some
def sc (a:Val Ì) (b:Val ab) (k:Int→Option ρ):Option ρ :=
  Ä (pT a) fun d=>ifb (ine d.1 0) (k d.1) (Ä (vx a b) fun e=>ifb (ine e 0) (k e) (ifb (ieq (Ù b) 0) (k (8:Int)) (Ĥ b (0:Int) fun g=>Ĥ a.2 g fun f=>Ä (Iz a f.1 b) fun c=>ifb (!c.2.2) (k (8:Int)) (ifb (ine c.1 f.1) (k (8:Int)) (ifb (ige c.2.1 0) (k (8:Int)) (k (0:Int)))))))
def mS (a:Val Ì) (b:Val ab):Option (Int):=sc a b some
def jl (b:Val aj) (c:Val ag) (d:Int) (e:Int) (f:Int) (g:Val ae) (h:Val aa) (i:Val af) (j:Val ac) (k:Val aa) (l:Val ai) (a:Int) (m:Int→Option ρ) (n:Int→Option ρ) (o:Unit→Option ρ):Option ρ :=
  ifb (ilt a d) (Ĥ c a fun p=>Ä (ix (((e,f),g,h,i,j,k),l) p) fun q=>Ä (iG q) fun r=>Ĥ b a fun s=>Ä (mS r.1 s) fun t=>ifb (ine t 0) (n (8:Int)) (ck (a+(1:Int)) fun u=>m u)) (o ())
def rW (a:Val Â) (c:Val aj) (k:Int→Option ρ):Option ρ :=
  Ä (š a) fun d=>ifb (ine d 0) (k d) (Ä (rE a) fun b=>ifb (ine (Ù c) (Ù b)) (k (8:Int)) (Ê (fun(e:Int) f=>jl c b (Ù b) a.1.1.1 a.1.1.2 a.1.2.1 a.1.2.2.1 a.1.2.2.2.1 a.1.2.2.2.2.1 a.1.2.2.2.2.2 a.2 e (fun g=>f g) (fun h=>k h) (fun _=>k (0:Int))) (0:Int)))
def jL (a:Val Â) (b:Val aj):Option (Int):=rW a b some
def GK (a:Val ac) (k:Val Â→Option ρ):Option ρ :=
  á (è ((List.length ([((7:Int),(10:Int),[(1:Int)],[(2:Int)],(-20:Int),(1:Int),(100:Int),(200:Int))]))+(List.length a))) (k ((((0:Int),(2:Int)),[((1:Int),(0:Int),(1000:Int),((-5:Int),(5:Int)),((1:Int),(10:Int)),(1:Int)),((2:Int),(0:Int),(1000:Int),((-50:Int),(50:Int)),((1:Int),(4:Int)),(0:Int)),((3:Int),(0:Int),(1100:Int),((-1:Int),(1:Int)),((0:Int),(1:Int)),(0:Int))],[((1:Int),(10:Int))],[((1:Int),((20:Int),(29:Int)),(3:Int))],(([((7:Int),(10:Int),[(1:Int)],[(2:Int)],(-20:Int),(1:Int),(100:Int),(200:Int))])++a),[]),[((12:Int),[(2:Int),(3:Int)])]))
def Ŭ (a:Val ac):Option (Val Â):=GK a some
def Bb (k:Bool→Option ρ):Option ρ :=
  Ä (Ŭ ([])) fun m=>Ä (Ix m) fun b=>Ä (Ŭ ([])) fun n=>Ä (Rt n) fun f=>Ä (Ŭ ([((8:Int),(15:Int),[(2:Int)],[(1:Int)],(100:Int),(1:Int),(0:Int),(0:Int))])) fun o=>Ä (tR o) fun g=>Ä (Ŭ ([((8:Int),(15:Int),[(2:Int)],[(1:Int)],(100:Int),(1:Int),(0:Int),(0:Int))])) fun p=>Ä (oY p (2:Int) (15:Int)) fun c=>Ä (Ŭ ([((8:Int),(15:Int),[(2:Int)],[(1:Int)],(100:Int),(1:Int),(0:Int),(0:Int)),((9:Int),(15:Int),[(3:Int)],[],(1100:Int),(0:Int),(0:Int),(0:Int))])) fun a=>Ä (Iy a) fun h=>Ä (rG a ([(7:Int),(8:Int),(9:Int)])) fun i=>Ä (oE a (2:Int)) fun j=>ifb (ine b.2 0) (k false) (ifb (ine f.2 0) (k false) (ifb (ine g.2 0) (k false) (ifb (ine c.2 0) (k false) (ifb (ine h.2 0) (k false) (ifb (ine i.2 0) (k false) (ifb (ine j.2 0) (k false) (ifb (ine (Ù b.1) 2) (k false) (ifb (ine (Ù f.1) 2) (k false) (ifb j.1 (k false) (Ä (Em a) fun d=>Ĥ b.1 (1:Int) fun q=>Ä (Rs a q (2:Int) (13:Int)) fun l=>ifb (ine d.2 0) (k false) (ifb (ine l.2 0) (k false) (ifb (ine l.1 3) (k false) (Ä (jL a d.1) fun r=>ifb (ine r 0) (k false) (Ä (Ŭ ([])) fun s=>Ä (jL s d.1) fun t=>ifb (ine t 8) (k false) (Ä (rH g.1 ([[(3:Int),(2:Int)]])) fun u=>ifb u (ifb (ieq (Ù c.1) 1) (Ĥ c.1 (0:Int) fun e=>ifb ((yk e.1 (3:Int))&&((yk e.2.1 (1099:Int))&&((yk e.2.2 (1101:Int))&&true))) (Ä (jp h.1 ([(8:Int),(9:Int)])) fun v=>ifb v (Ä (jp i.1 ([(8:Int),(9:Int)])) fun w=>k w) (k false)) (k false)) (k false)) (k false))))))))))))))))
def Ş:Option (Bool):=Bb some
def mP (f:Int) (a:Int) (c:Val ac) (g:Int→Val ac→Option ρ) (h:Val ac→Option ρ):Option ρ :=
  ifb (ilt a f) (á ((ile 0 a)&&(ilt a (í c))) (Ĺ c (Int.toNat a) fun d=>á (è (List.length d.2.2.1)) (á (è (List.length d.2.2.2.1)) (á ((ile 0 a)&&(ilt a (í c))) (Ĺ c (Int.toNat a) fun b=>á ((ile 0 a)&&(ilt a (í (List.set c (Int.toNat a) (b.1,b.2.1,d.2.2.1,b.2.2.2))))) (Ĺ (List.set c (Int.toNat a) (b.1,b.2.1,d.2.2.1,b.2.2.2)) (Int.toNat a) fun e=>ck (a+(1:Int)) fun i=>g i (List.set (List.set c (Int.toNat a) (b.1,b.2.1,d.2.2.1,b.2.2.2)) (Int.toNat a) (e.1,e.2.1,e.2.2.1,d.2.2.2.1,e.2.2.2.2)))))))) (h c)
def mO (c:Int) (d:Val ab) (b:Val ac) (a:Int) (e:Int→Option ρ) (f:Int→Option ρ) (g:Unit→Option ρ):Option ρ :=
  ifb (ilt a c) (á ((ile 0 a)&&(ilt a (í b))) (Ĺ b (Int.toNat a) fun h=>Ä (Û d h.1) fun i=>ifb i (f a) (ck (a+(1:Int)) fun j=>e j))) (g ())
def Υ (f:Val ab) (b:Int) (c:Int) (a:Val ac) (d:Int→Int→Val ac→Option ρ) (g:Val aH→Option ρ):Option ρ :=
  ifb (ilt c (Ù a)) (á ((ile 0 c)&&(ilt c (í a))) (Ĺ a (Int.toNat c) fun e=>Ä (Û f e.1) fun h=>ifb (!h) (á ((ile 0 b)&&(ilt b (í a))) (Ĺ a (Int.toNat b) fun l=>ck (b+(1:Int)) fun i=>ck (c+(1:Int)) fun j=>d i j (List.set a (Int.toNat b) e))) (ck (c+(1:Int)) fun k=>d b k a))) (g (b,a))
def BU (a:Val É) (f:Val ab) (k:(Val (.pair É tI))→Option ρ):Option ρ :=
  Ä (ĭ a) fun g=>ifb (ine g 0) (k ((((0:Int),(0:Int)),[],[],[],[],[]),g)) (á (è (List.length a.2.1)) (á (è (List.length a.2.2.1)) (á (è (List.length a.2.2.2.1)) (á (è (List.length a.2.2.2.2.2)) (á (è (List.length a.2.2.2.2.1)) (Ê (fun(h:Val aH) m=>mP (Ù a.2.2.2.2.1) h.1 h.2 (fun n o=>m (n,o)) (fun c=>Ê (fun(p:Int) q=>mO (Ù c) f c p (fun r=>q r) (fun d=>ifb (ieq d (-1:Int)) (Ä (ĭ (a.1,a.2.1,a.2.2.1,a.2.2.2.1,c,a.2.2.2.2.2)) fun i=>ifb (ine i 0) (k ((((0:Int),(0:Int)),[],[],[],[],[]),i)) (k ((a.1,a.2.1,a.2.2.1,a.2.2.2.1,c,a.2.2.2.2.2),(0:Int)))) (ck (d+(1:Int)) fun s=>Ê (fun(e:(Val (.pair tI aH))) t=>Υ f e.1 e.2.1 e.2.2 (fun u v w=>t (u,v,w)) (fun b=>á ((ile 0 b.1)&&(ile b.1 (í b.2))) (á ((ile 0 b.1)&&(ile b.1 (í (List.take (Int.toNat b.1) b.2++List.replicate (List.length b.2-(Int.toNat b.1)) ((0:Int),(0:Int),[],[],(0:Int),(0:Int),(0:Int),(0:Int))++List.drop ((Int.toNat b.1)+(List.length b.2-(Int.toNat b.1))) b.2)))) (Ä (ĭ (a.1,a.2.1,a.2.2.1,a.2.2.2.1,(List.take (Int.toNat b.1) (List.drop 0 (List.take (Int.toNat b.1) b.2++List.replicate (List.length b.2-(Int.toNat b.1)) ((0:Int),(0:Int),[],[],(0:Int),(0:Int),(0:Int),(0:Int))++List.drop ((Int.toNat b.1)+(List.length b.2-(Int.toNat b.1))) b.2))),a.2.2.2.2.2)) fun j=>ifb (ine j 0) (k ((((0:Int),(0:Int)),[],[],[],[],[]),j)) (k ((a.1,a.2.1,a.2.2.1,a.2.2.2.1,(List.take (Int.toNat b.1) (List.drop 0 (List.take (Int.toNat b.1) b.2++List.replicate (List.length b.2-(Int.toNat b.1)) ((0:Int),(0:Int),[],[],(0:Int),(0:Int),(0:Int),(0:Int))++List.drop ((Int.toNat b.1)+(List.length b.2-(Int.toNat b.1))) b.2))),a.2.2.2.2.2),(0:Int))))))) (d,s,c))) (fun _=>Ä (ĭ (a.1,a.2.1,a.2.2.1,a.2.2.2.1,c,a.2.2.2.2.2)) fun l=>ifb (ine l 0) (k ((((0:Int),(0:Int)),[],[],[],[],[]),l)) (k ((a.1,a.2.1,a.2.2.1,a.2.2.2.1,c,a.2.2.2.2.2),(0:Int))))) (0:Int))) ((0:Int),a.2.2.2.2.1)))))))
def vB (a:Val É) (b:Val ab):Option ((Val (.pair É tI))):=BU a b some
def Fh (a:Val É) (k:Val É→Option ρ):Option ρ :=
  Ä (vB a ([])) fun b=>k b.1
def yV (a:Val É):Option (Val É):=Fh a some
def uF (e:Int) (d:Val ai) (a:Int) (b:Val ai) (f:Int→Val ai→Option ρ) (g:Val ai→Option ρ):Option ρ :=
  ifb (ilt a e) (á ((ile 0 a)&&(ilt a (í d))) (Ĺ d (Int.toNat a) fun c=>á (è (List.length c.2)) (á (è ((List.length b)+(List.length ([c])))) (ck (a+(1:Int)) fun h=>f h (b++([c])))))) (g b)
def P8 (a:Val Â) (b:Val Ī) (k:(Val (.pair Â tI))→Option ρ):Option ρ :=
  Ä (š a) fun c=>ifb (ine c 0) (k (((((0:Int),(0:Int)),[],[],[],[],[]),[]),c)) (Ä (yV a.1) fun d=>á (è (List.length a.2)) (á (è ((List.length a.2)+(List.length ([b])))) (Ê (fun(e:(Val (.pair tI ai))) h=>uF (Ù (a.2++([b]))) (a.2++([b])) e.1 e.2 (fun i j=>h (i,j)) (fun f=>Ä (š (d,f)) fun g=>ifb (ine g 0) (k (((((0:Int),(0:Int)),[],[],[],[],[]),[]),g)) (k ((d,f),(0:Int))))) ((0:Int),[]))))
def Iw (a:Val Â) (b:Val Ī):Option ((Val (.pair Â tI))):=P8 a b some
def ji (c:Int) (b:Val aa) (a:Int) (d:Int→Option ρ) (e:Bool→Option ρ) (f:Unit→Option ρ):Option ρ :=
  ifb (ilt a (Ù b)) (Ĥ b a fun g=>ifb (ieq g.2 c) (Ä Ş fun h=>e h) (ck (a+(1:Int)) fun i=>d i)) (f ())
def jh (c:Int) (b:Val ac) (a:Int) (d:Int→Option ρ) (e:Bool→Option ρ) (f:Unit→Option ρ):Option ρ :=
  ifb (ilt a (Ù b)) (Ĥ b a fun g=>ifb (ieq g.2.1 c) (Ä Ş fun h=>e h) (ck (a+(1:Int)) fun i=>d i)) (f ())
def jg (c:Int) (b:Val aa) (a:Int) (d:Int→Option ρ) (e:Bool→Option ρ) (f:Unit→Option ρ):Option ρ :=
  ifb (ilt a (Ù b)) (Ĥ b a fun g=>ifb (ieq g.2 c) (Ä Ş fun h=>e h) (ck (a+(1:Int)) fun i=>d i)) (f ())
def jf (c:Int) (b:Val af) (a:Int) (d:Int→Option ρ) (e:Bool→Option ρ) (f:Unit→Option ρ):Option ρ :=
  ifb (ilt a (Ù b)) (Ĥ b a fun g=>ck (c+(1:Int)) fun h=>ifb (ile g.2.1.1 h) (Ĥ b a fun i=>ifb (ile c i.2.1.2) (Ä Ş fun j=>e j) (ck (a+(1:Int)) fun k=>d k)) (ck (a+(1:Int)) fun l=>d l)) (f ())
def je (d:Val ak) (e:Val ak) (a:Int) (f:Int→Option ρ) (g:Bool→Option ρ) (h:Unit→Option ρ):Option ρ :=
  ifb (ilt a (Ù d)) (Ĥ d a fun b=>Ĥ e a fun c=>ifb (!((yk b.1 c.1)&&((yk b.2.1 c.2.1)&&((yk b.2.2 c.2.2)&&true)))) (g false) (ck (a+(1:Int)) fun i=>f i)) (h ())
def rU (a:Val Â) (g:Int) (c:Int) (k:Bool→Option ρ):Option ρ :=
  Ä (yS a) fun i=>ifb (!i) (Ä Ş fun j=>k j) (ifb (ine (Ù a.2) 1) (Ä Ş fun l=>k l) (Ĥ a.2 (0:Int) fun h=>ck (h.1+(1:Int)) fun b=>Ê (fun(m:Int) n=>ji b a.1.2.2.1 m (fun o=>n o) (fun p=>k p) (fun _=>Ê (fun(q:Int) r=>jh b a.1.2.2.2.2.1 q (fun s=>r s) (fun t=>k t) (fun _=>Ê (fun(u:Int) v=>jg b a.1.2.2.2.2.2 u (fun w=>v w) (fun x=>k x) (fun _=>Ê (fun(y:Int) z=>jf b a.1.2.2.2.1 y (fun A=>z A) (fun B=>k B) (fun _=>Ä (Iw a (b,h.2)) fun d=>ifb (ine d.2 0) (Ä Ş fun C=>k C) (Ä (tR a) fun D=>Ä (tR d.1) fun E=>ifb (ine D.2 E.2) (k false) (ifb (ile c b) (Ä Ş fun F=>k F) (Ä (oY a g c) fun e=>Ä (oY d.1 g c) fun f=>ifb (ine e.2 f.2) (k false) (ifb (ine (Ù e.1) (Ù f.1)) (k false) (Ê (fun(G:Int) H=>je e.1 f.1 G (fun I=>H I) (fun J=>k J) (fun _=>Ä Ş fun K=>k K)) (0:Int)))))))) (0:Int))) (0:Int))) (0:Int))) (0:Int)))
def sj (a:Val Â) (b:Int) (c:Int):Option (Bool):=rU a b c some
end Go.Proofs.ZzM
end
