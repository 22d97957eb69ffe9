/- lemmas -/
import Derived.Test.YtdmegkgjpgcfgaaGreatAmE
set_option linter.all false
set_option linter.unusedSectionVars false
set_option linter.unusedVariables false
set_option linter.unusedSimpArgs false
noncomputable section
variable {ρ:Type}
set_option maxRecDepth 100000
namespace Go.Proofs.ZzM
open Go Go.Am
abbrev tI:Ty:=.int .i64
abbrev Ã:Ty:=(.pair tI tI)
abbrev Ō:Ty:=(.pair tI Ã)
abbrev ŋ:Ty:=(.pair tI (.slice tI))
abbrev Ĕ:Ty:=(.pair Ã Ã)
abbrev Bs:Ty:=(.pair Ã tI)
abbrev ik:Ty:=(.pair tI Bs)
abbrev Z4:Ty:=(.pair Ĕ tI)
abbrev Ì:Ty:=(.pair tI (.slice Ō))
abbrev Br:Ty:=(.pair (.slice Ō) (.slice Ã))
abbrev Ô:Ty:=(.pair tI (.pair tI (.pair tI (.pair Ã Bs))))
abbrev å:Ty:=(.pair tI (.pair tI (.pair (.slice tI) (.pair (.slice tI) (.pair tI Ō)))))
abbrev É:Ty:=(.pair Ã (.pair (.slice Ô) (.pair (.slice Ã) (.pair (.slice ik) (.pair (.slice å) (.slice Ã))))))
abbrev Â:Ty:=(.pair É (.slice ŋ))
abbrev ae7:Ty:=(.pair É (.pair (.slice Ã) (.pair Ì (.slice Ã))))
def xX (l:List Int):Option (List Int):=ç (î l.length) (some l)
def Ei:Nat→List Int→List (List Int)
  |0,_=>[[]]
  |n+1,l=>if l.length=0 then[[]] else(List.range l.length).flatMap fun i=>(Ei n (l.take i++l.drop (i+1))).map (l.getD i 0::·)
def iw:List (Int×List Int)→List (List (List Int))
  |[]=>[[]]
  |m::r=>(Ei m.2.length m.2).flatMap fun x=>(iw r).map (x::·)
def xY (l:List Int):Option (List (List Int)):=ç (decide (l.length≤9)) (some (Ei l.length l))
def lW (l:List (Int×List Int)):Option (List (List (List Int))):=ç (decide (l.length≤9)&&l.all fun m=>decide (m.2.length≤9)) (some (iw l))
abbrev aa:Ty:=(.slice tI)
abbrev ab:Ty:=(.slice Ã)
abbrev ac:Ty:=(.slice å)
abbrev ae:Ty:=(.pair tI (.pair tI (.pair (.slice Ô) (.pair ab (.pair (.slice ik) (.pair ac (.pair ab (.slice ŋ))))))))
abbrev af:Ty:=(.slice (.slice aa))
abbrev ag:Ty:=(.slice Ô)
abbrev ah:Ty:=(.slice ik)
abbrev ai:Ty:=(.slice ŋ)
abbrev aj:Ty:=(.slice aa)
abbrev ak:Ty:=(.slice Ō)
abbrev am:Ty:=(.map tI Ô)
abbrev ao:Ty:=(.map tI .bool)
abbrev aq:Ty:=(.slice .bool)
abbrev ar:Ty:=(.ptr Â)
abbrev au:Ty:=(.pair tI (.pair tI (.pair ag (.pair ab (.pair ah (.pair ac (.pair ab (.pair ai (.pair tI (.pair tI (.pair ag (.pair ab (.pair ah (.pair ac ab))))))))))))))
abbrev aw:Ty:=(.pair tI (.pair af ae))
abbrev ax:Ty:=(.pair tI (.pair tI (.pair ag (.pair ab (.pair ah (.pair ac (.pair ab (.pair ai ae))))))))
abbrev ay:Ty:=(.pair aa tI)
abbrev az:Ty:=(.pair tI (.pair tI (.pair tI (.pair tI (.pair tI Ō)))))
abbrev aB:Ty:=(.pair tI af)
abbrev aD:Ty:=(.pair tI ae)
abbrev aE:Ty:=(.pair aa (.pair tI (.pair tI (.pair tI (.pair ag (.pair ab (.pair ah (.pair ac (.pair ab (.pair tI (.pair aa (.map tI tI))))))))))))
abbrev aF:Ty:=(.ptr aj)
abbrev aG:Ty:=(.pair Â aj)
abbrev aH:Ty:=(.pair .bool tI)
abbrev aI:Ty:=(.pair tI (.pair tI (.pair tI (.pair ag (.pair ab (.pair ah (.pair ac (.pair ab az))))))))
abbrev aJ:Ty:=(.pair É Ã)
abbrev aK:Ty:=(.pair aq aa)
abbrev aL:Ty:=(.pair aa (.pair aq (.pair aa aa)))
abbrev aM:Ty:=(.pair tI (.pair tI (.pair tI (.pair tI (.pair tI aw)))))
abbrev aO:Ty:=(.pair tI ŋ)
abbrev aP:Ty:=(.map tI Ã)
abbrev aQ:Ty:=(.pair tI (.pair tI (.pair tI (.pair ag (.pair ab (.pair ah (.pair ac ab)))))))
abbrev aR:Ty:=(.pair tI Ì)
abbrev aS:Ty:=(.pair aa (.pair tI (.pair tI ay)))
abbrev aT:Ty:=(.pair tI ac)
abbrev aU:Ty:=(.ptr ae7)
abbrev aV:Ty:=(.pair aa ŋ)
abbrev aW:Ty:=(.map tI tI)
abbrev aX:Ty:=(.pair É å)
abbrev aY:Ty:=(.pair tI ab)
abbrev aZ:Ty:=(.pair Â (.pair aj Ã))
abbrev ba:Ty:=(.pair tI aj)
abbrev bc:Ty:=(.pair ab tI)
abbrev bf:Ty:=(.pair aa (.pair ai aa))
abbrev bg:Ty:=(.pair tI (.pair tI aD))
abbrev bh:Ty:=(.pair (.int .u64) (.int .u64))
abbrev bi:Ty:=(.pair Ì aa)
abbrev bj:Ty:=(.pair É (.pair am tI))
abbrev bm:Ty:=(.pair tI (.pair tI (.pair ak Ì)))
def ž (d:Val aj) (e:Int) (b:Int) (a:Int) (f:Int→Int→Option ρ) (g:Int→Option ρ):Option ρ :=
  ifb (ilt a e) (ğ d a fun h=>ck (b+(Ø h)) fun c=>ifb (ilt c 0) (none) (ck (a+(1:Int)) fun i=>f c i)) (g b)
def Ĝ (d:Val aj) (e:Int) (a:Int) (b:Val aa) (f:Int→Val aa→Option ρ) (g:Val aa→Option ρ):Option ρ :=
  ifb (ilt a e) (ğ d a fun c=>ç (î ((List.length b)+(List.length c))) (ck (a+(1:Int)) fun h=>f h (b++c))) (g b)
def kD (a:Val aj) (k:Val aa→Option ρ):Option ρ :=
  Ê (fun(c:Val Ã) g=>ž a (Ø a) c.1 c.2 (fun h i=>g (h,i)) (fun d=>ifb (ilt d 0) (none) (ck (d-(0:Int)) fun b=>ifb (igt b 0) (ç ((ilt 0 b)&&(î (Int.toNat b))) (ç (ile 0 (ñ (List.replicate (Int.toNat b) (0:Int)))) (Ê (fun(e:Val ŋ) j=>Ĝ a (Ø a) e.1 e.2 (fun l m=>j (l,m)) (fun n=>k n)) ((0:Int),(List.take 0 (List.replicate (Int.toNat b) (0:Int))))))) (Ê (fun(f:Val ŋ) o=>Ĝ a (Ø a) f.1 f.2 (fun p q=>o (p,q)) (fun r=>k r)) ((0:Int),[]))))) ((0:Int),(0:Int))
def ģ (a:Val aj):Option ((Val aa)):=kD a some
def oQ (al:Val aj) (rec:Val aa→Option ((Val aj))) (a:Int) (b:Val aj) (y:Val aa) (c:Val aj→Option ρ):Option ρ :=
  ç (î ((List.length ([a]))+(List.length y))) (yg al (b++[(([a])++y)]) (c (b++[(([a])++y)])))
def oR (al:Val aj) (rec:Val aa→Option ((Val aj))) (e:Val aa) (f:Int) (b:Val aa) (a:Int) (d:Val aj) (g:Int→Val aj→Option ρ) (h:Val aj→Option ρ):Option ρ :=
  ifb (ilt a f) (ğ e a fun i=>ç ((ile 0 a)&&(ile a (ñ b))) (ck (a+(1:Int)) fun c=>ç ((ile 0 c)&&(ile c (ñ b))) (Ä (ģ ([(List.take (Int.toNat a) b),(List.drop (Int.toNat c) b)])) fun j=>Ä (rec j) fun k=>xn (fun(l:Val aj) (m:Val aa) n=>oQ al rec i l m (fun o=>n o)) k (d) (fun p=>ck (a+(1:Int)) fun q=>g q p)))) (h d)
def wp (al:Val aj) (rec:Val aa→Option ((Val aj))) (mm:Val aa) (k:((Val aj))×((Val aa))→Option ρ):Option ρ :=
  ifb (ieq (Ø mm) 0) (yg al (([])++[[]]) (k ((([])++[[]]),mm))) (Ê (fun(a:Val ba) b=>oR al rec mm (Ø mm) mm a.1 a.2 (fun c d=>b (c,d)) (fun e=>k (e,mm))) ((0:Int),[]))
def lM (al:Val af) (rec:Val ai→Option ((Val af))) (a:Val aa) (b:Val af) (y:Val aj) (c:Val af→Option ρ):Option ρ :=
  ç (î ((List.length ([a]))+(List.length y))) (yg al (b++[(([a])++y)]) (c (b++[(([a])++y)])))
def lN (al:Val af) (rec:Val ai→Option ((Val af))) (a:Val ai) (b:Val af) (y:Val aa) (c:Val af→Option ρ):Option ρ :=
  ç (ile 1 (ñ a)) (Ä (rec (List.drop 1 a)) fun d=>xn (fun(e:Val af) (f:Val aj) g=>lM al rec y e f (fun h=>g h)) d (b) (fun i=>c i))
def rl (al:Val af) (rec:Val ai→Option ((Val af))) (mm:Val ai) (k:((Val af))×((Val ai))→Option ρ):Option ρ :=
  ifb (ieq (Ø mm) 0) (yg al (([])++[[]]) (k ((([])++[[]]),mm))) (ğ mm (0:Int) fun a=>Ä (xY a.2) fun b=>xn (fun(c:Val af) (d:Val aa) e=>lN al rec mm c d (fun f=>e f)) b ([]) (fun g=>k (g,mm)))
def gQ (al:Val aa) (rec:Val aa→Option ((Val aa))) (d:Val aa) (e:Int) (a:Int) (b:Val aa) (f:Int→Val aa→Option ρ) (g:Val aa→Option ρ):Option ρ :=
  ifb (ilt a e) (ğ d a fun c=>yg al (b++[c]) (ck (a+(1:Int)) fun h=>f h (b++[c]))) (g b)
def jj (al:Val aa) (rec:Val aa→Option ((Val aa))) (mm:Val aa) (k:((Val aa))×((Val aa))→Option ρ):Option ρ :=
  Ê (fun(a:Val ŋ) b=>gQ al rec mm (Ø mm) a.1 a.2 (fun c d=>b (c,d)) (fun e=>k (e,mm))) ((0:Int),[])
def Ξ (b:Val aa) (c:Int) (d:Int) (a:Int) (e:Int→Option ρ) (f:Int→Option ρ) (g:Unit→Option ρ):Option ρ :=
  ifb (ilt a d) (ğ b a fun h=>ifb (ieq c h) (f a) (ck (a+(1:Int)) fun i=>e i)) (g ())
def lP (a:Val aa) (b:Int) (k:Int→Option ρ):Option ρ :=
  Ê (fun(c:Int) d=>Ξ a b (Ø a) c (fun e=>d e) (fun f=>k f) (fun _=>k (-1:Int))) (0:Int)
def π (a:Val aa) (b:Int):Option (Int):=lP a b some
def jk (a:Val aa) (b:Int) (k:Bool→Option ρ):Option ρ :=
  Ä (π a b) fun c=>k (ige c 0)
def Þ (a:Val aa) (b:Int):Option (Bool):=jk a b some
def uD (f:Val ac) (g:Int) (d:Int) (a:Int) (b:Val aa) (e:Int→Val aa→Option ρ) (h:Val aa→Option ρ):Option ρ :=
  ifb (ilt a g) (ğ f a fun c=>Ä (Þ c.2.2.1 d) fun i=>Ä (Þ c.2.2.2.1 d) fun j=>ifb (!(i==j)) (ç (î ((List.length b)+(List.length ([c.2.1])))) (ck (a+(1:Int)) fun k=>e k (b++([c.2.1])))) (ck (a+(1:Int)) fun l=>e l b)) (h b)
def uC (e:Val ab) (f:Int) (g:Int) (a:Int) (b:Val aa) (d:Int→Val aa→Option ρ) (h:Val aa→Option ρ):Option ρ :=
  ifb (ilt a f) (ğ e a fun c=>ifb (ieq c.1 g) (ç (î ((List.length b)+(List.length ([c.2])))) (ck (a+(1:Int)) fun i=>d i (b++([c.2])))) (ck (a+(1:Int)) fun j=>d j b)) (h b)
def P9 (a:Val É) (b:Val Ô) (k:Val aa→Option ρ):Option ρ :=
  Ê (fun(d:Val ŋ) f=>uD a.2.2.2.2.1 (Ø a.2.2.2.2.1) b.1 d.1 d.2 (fun g h=>f (g,h)) (fun i=>Ê (fun(e:Val ŋ) j=>uC a.2.2.2.2.2 (Ø a.2.2.2.2.2) b.1 e.1 e.2 (fun l m=>j (l,m)) (fun c=>ç (î (List.length c)) (ç (î (List.length (vI c))) (k (yo (vI c)))))) ((0:Int),i))) ((0:Int),[b.2.1])
def oj (a:Val É) (b:Val Ô):Option ((Val aa)):=P9 a b some
def qG (e:Val aa) (f:Int) (c:Int) (a:Int) (b:Val ab) (g:Int→Val ab→Option ρ) (h:Val ab→Option ρ):Option ρ :=
  ifb (ilt a f) (ğ e a fun d=>ç (î ((List.length b)+(List.length ([(c,d)])))) (ck (a+(1:Int)) fun i=>g i (b++([(c,d)])))) (h b)
def qH (f:Val ag) (g:Int) (h:Int) (i:Int) (j:Val ag) (k:Val ab) (l:Val ah) (m:Val ac) (n:Val ab) (a:Int) (b:Val ab) (o:Int→Val ab→Option ρ) (p:Val ab→Option ρ):Option ρ :=
  ifb (ilt a g) (ğ f a fun c=>Ä (oj ((h,i),j,k,l,m,n) c) fun d=>Ê (fun(e:Val aY) q=>qG d (Ø d) c.1 e.1 e.2 (fun r s=>q (r,s)) (fun t=>ck (a+(1:Int)) fun u=>o u t)) ((0:Int),b)) (p b)
def JU (a:Val É) (k:Val ab→Option ρ):Option ρ :=
  Ê (fun(b:Val aY) c=>qH a.2.1 (Ø a.2.1) a.1.1 a.1.2 a.2.1 a.2.2.1 a.2.2.2.1 a.2.2.2.2.1 a.2.2.2.2.2 b.1 b.2 (fun d e=>c (d,e)) (fun f=>k f)) ((0:Int),[])
def pu (a:Val É):Option ((Val ab)):=JU a some
def EX (a:Val Ã) (b:Int) (c:Int) (k:Bool→Option ρ):Option ρ :=
  ifb (ile b a.1) (ifb (ile a.1 a.2) (k (ile a.2 c)) (k false)) (k false)
def ź (a:Val Ã) (b:Int) (c:Int):Option (Bool):=EX a b c some
def EP (a:Int) (b:Int) (c:Int) (k:Bool→Option ρ):Option ρ :=
  ifb (ile b a) (k (ile a c)) (k false)
def ė (a:Int) (b:Int) (c:Int):Option (Bool):=EP a b c some
def J0 (a:Int) (k:Bool→Option ρ):Option ρ :=
  Ä (ė a (0:Int) (20000:Int)) fun b=>k b
def kL (a:Int):Option (Bool):=J0 a some
def PJ (a:Int) (k:Int→Option ρ):Option ρ :=
  ifb (ilt a 0) (k (IntKind.wrap .u64 (0-(IntKind.wrap .u64 a)))) (k (IntKind.wrap .u64 a))
def qW (a:Int):Option (Int):=PJ a some
def xR (b:Int) (a:Int) (c:Int→Int→Option ρ) (d:Int→Option ρ):Option ρ :=
  ifb (ine a 0) (ifb (zV a 0) (none) (c a (Int.tmod b a))) (d b)
def Vw (b:Int) (c:Int) (k:Int→Option ρ):Option ρ :=
  Ê (fun(a:Val bh) d=>xR a.1 a.2 (fun e f=>d (e,f)) (fun g=>k g)) (b,c)
def KH (a:Int) (b:Int):Option (Int):=Vw a b some
def JK (a:Val Ã) (k:Bool→Option ρ):Option ρ :=
  ifb (ige a.2 1) (ifb (ile a.2 2147483647) (Ä (qW a.1) fun b=>ifb (ile b 2147483647) (Ä (qW a.1) fun c=>Ä (qW a.2) fun d=>Ä (KH c d) fun e=>k (ieq e 1)) (k false)) (k false)) (k false)
def tg (a:Val Ã):Option (Bool):=JK a some
def A2 (a:Val Ô) (k:Bool→Option ρ):Option ρ :=
  Ä (tg a.2.2.2.2.1) fun b=>ifb b (Ä (ė a.2.2.2.2.1.1 (-1000:Int) (1000:Int)) fun c=>ifb c (Ä (ė a.1 (1:Int) (1099511627776:Int)) fun d=>ifb d (Ä (kL a.2.1) fun e=>ifb e (Ä (ė a.2.2.1 (1:Int) (1125899906842624:Int)) fun f=>ifb f (Ä (ź a.2.2.2.1 (-1073741824:Int) (1073741824:Int)) fun g=>ifb g (ifb (ile a.2.2.2.2.1.2 100) (Ä (ė a.2.2.2.2.2 (0:Int) (1048576:Int)) fun h=>k h) (k false)) (k false)) (k false)) (k false)) (k false)) (Ä (ė a.1 (1:Int) (1099511627776:Int)) fun i=>ifb i (Ä (kL a.2.1) fun j=>ifb j (Ä (ė a.2.2.1 (1:Int) (1125899906842624:Int)) fun l=>ifb l (Ä (ź a.2.2.2.1 (-1073741824:Int) (1073741824:Int)) fun m=>ifb m (k false) (k false)) (k false)) (k false)) (k false))) (Ä (ė a.1 (1:Int) (1099511627776:Int)) fun n=>ifb n (Ä (kL a.2.1) fun o=>ifb o (Ä (ė a.2.2.1 (1:Int) (1125899906842624:Int)) fun p=>ifb p (Ä (ź a.2.2.2.1 (-1073741824:Int) (1073741824:Int)) fun q=>ifb q (k false) (k false)) (k false)) (k false)) (k false))
def uQ (a:Val Ô):Option (Bool):=A2 a some
def iu (e:Val ag) (f:Int) (g:Val ag) (a:Int) (b:Int→Option ρ) (c:Int→Option ρ) (h:Unit→Option ρ):Option ρ :=
  ifb (ilt a f) (ğ e a fun d=>Ä (uQ d) fun i=>ifb (!i) (c (1:Int)) (ifb (igt a 0) (ck (a-(1:Int)) fun j=>ğ g j fun k=>ifb (ile d.1 k.1) (c (6:Int)) (ck (a+(1:Int)) fun l=>b l)) (ck (a+(1:Int)) fun m=>b m))) (h ())
def pl (a:Val É) (k:Int→Option ρ):Option ρ :=
  Ê (fun(b:Int) c=>iu a.2.1 (Ø a.2.1) a.2.1 b (fun d=>c d) (fun e=>k e) (fun _=>k (0:Int))) (0:Int)
def Ű (a:Val É):Option (Int):=pl a some
def mh (d:Val ag) (e:Int) (a:Int) (b:Val am) (f:Int→Val am→Option ρ) (g:Val am→Option ρ):Option ρ :=
  ifb (ilt a e) (ğ d a fun c=>ck (a+(1:Int)) fun h=>f h (Ny (k:=tI) (v:=Ô) c.1 c b)) (g b)
def AY (a:Val É) (k:Val am→Option ρ):Option ρ :=
  Ê (fun(b:(Val (.pair tI am))) c=>mh a.2.1 (Ø a.2.1) b.1 b.2 (fun d e=>c (d,e)) (fun f=>k f)) ((0:Int),[])
def ĸ (a:Val É):Option ((Val am)):=AY a some
def rB (a:Val am) (b:Int) (c:Int) (k:Int→Option ρ):Option ρ :=
  Lq (k:=tI) (v:=Ô) b a (fun d=>ifb (ilt c d.2.1) (k (4:Int)) (k (0:Int))) (k (5:Int))
def hZ (a:Val am) (b:Int) (c:Int):Option (Int):=rB a b c some
def A0 (b:Int) (a:Int) (c:(Val (.ptr am))) (k:Int→Option ρ):Option ρ :=
  Ä (kL a) fun d=>ifb (!d) (k (1:Int)) (Ä (hZ c b a) fun e=>k e)
def Ĺ (a:Int) (b:Int) (c:(Val (.ptr am))):Option (Int):=A0 a b c some
def jI (d:Val ah) (e:Int) (f:Int) (g:Int) (h:Int) (a:Int) (b:Int→Option ρ) (i:Int→Option ρ) (j:Unit→Option ρ):Option ρ :=
  ifb (ilt a e) (ğ d a fun c=>ifb (ieq c.1 f) (ifb (ile c.2.1.1 h) (ifb (ile g c.2.1.2) (i a) (ck (a+(1:Int)) fun k=>b k)) (ck (a+(1:Int)) fun l=>b l)) (ck (a+(1:Int)) fun m=>b m)) (j ())
def Ź (d:Val ab) (e:Int) (f:Int) (g:Int) (h:Int) (a:Int) (b:Int→Option ρ) (i:Int→Option ρ) (j:Unit→Option ρ):Option ρ :=
  ifb (ilt a e) (ğ d a fun c=>ifb (ieq c.1 f) (Ä (ė c.2 g h) fun k=>ifb k (i a) (ck (a+(1:Int)) fun l=>b l)) (ck (a+(1:Int)) fun m=>b m)) (j ())
def uE (b:Val É) (e:Val am) (c:Int) (k:Int→Option ρ):Option ρ :=
  ğ b.2.2.2.1 c fun a=>Ä (ź a.2.1 (0:Int) (20000:Int)) fun f=>ifb (!f) (k (1:Int)) (Ä (ė a.2.2 (0:Int) (1048576:Int)) fun g=>ifb (!g) (k (1:Int)) (Ä (hZ e a.1 a.2.1.1) fun d=>ifb (ine d 0) (k d) (ç ((ile 0 c)&&(ile c (ñ b.2.2.2.1))) (Ê (fun(h:Int) i=>jI (List.take (Int.toNat c) b.2.2.2.1) (Ø (List.take (Int.toNat c) b.2.2.2.1)) a.1 a.2.1.1 a.2.1.2 h (fun j=>i j) (fun l=>ifb (ige l 0) (k (9:Int)) (Ê (fun(m:Int) n=>Ź b.2.2.1 (Ø b.2.2.1) a.1 a.2.1.1 a.2.1.2 m (fun o=>n o) (fun p=>ifb (ige p 0) (k (9:Int)) (k (0:Int))) (fun _=>k (0:Int))) (0:Int))) (fun _=>Ê (fun(q:Int) r=>Ź b.2.2.1 (Ø b.2.2.1) a.1 a.2.1.1 a.2.1.2 q (fun s=>r s) (fun t=>ifb (ige t 0) (k (9:Int)) (k (0:Int))) (fun _=>k (0:Int))) (0:Int))) (0:Int)))))
def Γ (a:Val É) (b:Val am) (c:Int):Option (Int):=uE a b c some
def uB (c:Int) (d:Val aa) (b:Val aa) (a:Int) (e:Int→Option ρ) (f:Int→Option ρ) (g:Unit→Option ρ):Option ρ :=
  ifb (ilt a c) (ç ((ile 0 a)&&(ilt a (ñ b))) (Ľ b (Int.toNat a) fun h=>Ä (Þ d h) fun i=>ifb i (f a) (ck (a+(1:Int)) fun j=>e j))) (g ())
def jP (f:Val aa) (b:Int) (c:Int) (a:Val aa) (d:Int→Int→Val aa→Option ρ) (g:Val ŋ→Option ρ):Option ρ :=
  ifb (ilt c (Ø a)) (ç ((ile 0 c)&&(ilt c (ñ a))) (Ľ a (Int.toNat c) fun e=>Ä (Þ f e) fun h=>ifb (!h) (ç ((ile 0 b)&&(ilt b (ñ a))) (Ľ a (Int.toNat b) fun l=>ck (b+(1:Int)) fun i=>ck (c+(1:Int)) fun j=>d i j (List.set a (Int.toNat b) e))) (ck (c+(1:Int)) fun k=>d b k a))) (g (b,a))
def P0 (b:Val aa) (e:Val aa) (k:Val aa→Option ρ):Option ρ :=
  ç (î (List.length b)) (Ê (fun(f:Int) g=>uB (Ø b) e b f (fun h=>g h) (fun c=>ifb (ieq c (-1:Int)) (k b) (ck (c+(1:Int)) fun i=>Ê (fun(d:Val aO) j=>jP e d.1 d.2.1 d.2.2 (fun l m n=>j (l,m,n)) (fun a=>ç ((ile 0 a.1)&&(ile a.1 (ñ a.2))) (ç ((ile 0 a.1)&&(ile a.1 (ñ (List.take (Int.toNat a.1) a.2++List.replicate (List.length a.2-(Int.toNat a.1)) (0:Int)++List.drop ((Int.toNat a.1)+(List.length a.2-(Int.toNat a.1))) a.2)))) (k (List.take (Int.toNat a.1) (List.drop 0 (List.take (Int.toNat a.1) a.2++List.replicate (List.length a.2-(Int.toNat a.1)) (0:Int)++List.drop ((Int.toNat a.1)+(List.length a.2-(Int.toNat a.1))) a.2))))))) (c,i,b))) (fun _=>k b)) (0:Int))
def Β (a:Val aa) (b:Val aa):Option ((Val aa)):=P0 a b some
def oc (e:Val aa) (f:Val aa) (g:Int) (a:Int) (b:Int→Option ρ) (c:Bool→Option ρ) (h:Unit→Option ρ):Option ρ :=
  ifb (ilt a g) (ğ f a fun d=>Ä (ė d (1:Int) (1099511627776:Int)) fun i=>ifb (!i) (c false) (ifb (igt a 0) (ck (a-(1:Int)) fun j=>ğ e j fun k=>ifb (ile d k) (c false) (ck (a+(1:Int)) fun l=>b l)) (ck (a+(1:Int)) fun m=>b m))) (h ())
def EW (a:Val aa) (k:Bool→Option ρ):Option ρ :=
  Ê (fun(b:Int) c=>oc a a (Ø a) b (fun d=>c d) (fun e=>k e) (fun _=>k (ile (Ø a) 6))) (0:Int)
def lZ (a:Val aa):Option (Bool):=EW a some
def uF (d:Val ah) (e:Int) (f:Int) (g:Int) (a:Int) (c:Int→Option ρ) (h:Int→Option ρ) (i:Unit→Option ρ):Option ρ :=
  ifb (ilt a e) (ğ d a fun b=>ifb (ieq b.1 f) (Ä (ė g b.2.1.1 b.2.1.2) fun j=>ifb j (h a) (ck (a+(1:Int)) fun k=>c k)) (ck (a+(1:Int)) fun l=>c l)) (i ())
def Qa (a:Val É) (c:Int) (d:Int) (k:(Val (.pair ik .bool))→Option ρ):Option ρ :=
  Ê (fun(e:Int) f=>uF a.2.2.2.1 (Ø a.2.2.2.1) c d e (fun g=>f g) (fun b=>ifb (ilt b 0) (k (((0:Int),((0:Int),(0:Int)),(0:Int)),false)) (ğ a.2.2.2.1 b fun h=>k (h,true))) (fun _=>k (((0:Int),((0:Int),(0:Int)),(0:Int)),false))) (0:Int)
def uR (a:Val É) (b:Int) (c:Int):Option ((Val (.pair ik .bool))):=Qa a b c some
def gS (b:Val ac) (c:Int) (d:Int) (a:Int) (e:Int→Option ρ) (f:Int→Option ρ) (g:Unit→Option ρ):Option ρ :=
  ifb (ilt a c) (ğ b a fun h=>ifb (ieq h.1 d) (f a) (ck (a+(1:Int)) fun i=>e i)) (g ())
def gR (c:Val am) (b:Int) (d:Val aa) (e:Int) (f:Int) (a:Int) (g:Int→Option ρ) (h:Int→Option ρ) (i:Unit→Option ρ):Option ρ :=
  ifb (ilt a e) (ğ d a fun j=>Ä (hZ c j f) fun k=>ifb (ieq k b) (h b) (ck (a+(1:Int)) fun l=>g l)) (i ())
def Ņ (d:Val am) (b:Val aa) (e:Int) (f:Int) (c:Val aa) (a:Int) (g:Int→Option ρ) (h:Int→Option ρ) (i:Unit→Option ρ):Option ρ :=
  ifb (ilt a e) (ç ((ile 0 a)&&(ilt a (ñ c))) (Ľ c (Int.toNat a) fun j=>Ê (fun(k:Int) l=>gR d j b (Ø b) f k (fun m=>l m) (fun n=>h n) (fun _=>ck (a+(1:Int)) fun o=>g o)) (0:Int))) (i ())
def ń (b:Val aa) (c:Int) (d:Int) (e:Int) (f:Val ag) (g:Val ab) (h:Val ah) (i:Val ac) (j:Val ab) (k:Int) (a:Int) (l:Int→Option ρ) (m:Int→Option ρ) (n:Unit→Option ρ):Option ρ :=
  ifb (ilt a c) (ğ b a fun o=>Ä (uR ((d,e),f,g,h,i,j) o k) fun p=>ifb p.2 (m (9:Int)) (ck (a+(1:Int)) fun q=>l q)) (n ())
def nA (b:Val É) (f:Val am) (c:Int) (k:Int→Option ρ):Option ρ :=
  ğ b.2.2.2.2.1 c fun a=>Ä (ė a.1 (1:Int) (1099511627776:Int)) fun l=>ifb (!l) (k (1:Int)) (Ä (kL a.2.1) fun m=>ifb (!m) (k (1:Int)) (Ä (ė a.2.2.2.2.1 (-1125899906842624:Int) (1125899906842624:Int)) fun n=>ifb (!n) (k (1:Int)) (Ä (ė a.2.2.2.2.2.1 (0:Int) (1073741824:Int)) fun o=>ifb (!o) (k (1:Int)) (Ä (ź a.2.2.2.2.2.2 (-10000:Int) (10000:Int)) fun p=>ifb (!p) (k (1:Int)) (Ä (lZ a.2.2.1) fun q=>ifb (!q) (k (1:Int)) (Ä (lZ a.2.2.2.1) fun r=>ifb (!r) (k (1:Int)) (ç ((ile 0 c)&&(ile c (ñ b.2.2.2.2.1))) (Ê (fun(s:Int) t=>gS (List.take (Int.toNat c) b.2.2.2.2.1) (Ø (List.take (Int.toNat c) b.2.2.2.2.1)) a.1 s (fun u=>t u) (fun v=>ifb (ige v 0) (k (6:Int)) (Ä (ģ ([a.2.2.1,a.2.2.2.1])) fun d=>Ê (fun(w:Int) x=>Ņ f d (Ø ([(5:Int),(4:Int)])) a.2.1 ([(5:Int),(4:Int)]) w (fun y=>x y) (fun z=>k z) (fun _=>Ê (fun(A:Int) B=>ń d (Ø d) b.1.1 b.1.2 b.2.1 b.2.2.1 b.2.2.2.1 b.2.2.2.2.1 b.2.2.2.2.2 a.2.1 A (fun C=>B C) (fun D=>k D) (fun _=>Ä (Β a.2.2.1 a.2.2.2.1) fun g=>Ä (Β a.2.2.2.1 a.2.2.1) fun h=>ifb (igt (Ø g) 1) (k (1:Int)) (ifb (igt (Ø h) 1) (k (1:Int)) (ck ((Ø g)+(Ø h)) fun E=>ifb (ieq E 0) (k (1:Int)) (k (0:Int)))))) (0:Int))) (0:Int))) (fun _=>Ä (ģ ([a.2.2.1,a.2.2.2.1])) fun e=>Ê (fun(F:Int) G=>Ņ f e (Ø ([(5:Int),(4:Int)])) a.2.1 ([(5:Int),(4:Int)]) F (fun H=>G H) (fun I=>k I) (fun _=>Ê (fun(J:Int) K=>ń e (Ø e) b.1.1 b.1.2 b.2.1 b.2.2.1 b.2.2.2.1 b.2.2.2.2.1 b.2.2.2.2.2 a.2.1 J (fun L=>K L) (fun M=>k M) (fun _=>Ä (Β a.2.2.1 a.2.2.2.1) fun i=>Ä (Β a.2.2.2.1 a.2.2.1) fun j=>ifb (igt (Ø i) 1) (k (1:Int)) (ifb (igt (Ø j) 1) (k (1:Int)) (ck ((Ø i)+(Ø j)) fun N=>ifb (ieq N 0) (k (1:Int)) (k (0:Int)))))) (0:Int))) (0:Int))) (0:Int)))))))))
def Ń (a:Val É) (b:Val am) (c:Int):Option (Int):=nA a b c some
def m9 (b:Val É) (s:Val am):Option (List Int) :=
  Ä (Iw (fun u=>Ĺ u.1 u.2 s) (b.2.2.1:List (Int×Int))) fun a=>Ä (Iw (fun i=>Γ b s i) (vE (b.2.2.2.1:List (Val ik)).length)) fun c =>
    Ä (Iw (fun i=>Ń b s i) (vE (b.2.2.2.2.1:List (Val å)).length)) fun d=>Ä (Iw (fun u=>Ĺ u.1 u.2 s) (b.2.2.2.2.2:List (Int×Int))) fun e=>some (a++(c++(d++e)))
def J7 (a:Val É) (k:Int→Option ρ):Option ρ :=
  Ä (ź a.1 (0:Int) (1000000:Int)) fun d=>ifb (!d) (k (1:Int)) (ifb (igt (Ø a.2.1) 12) (k (2:Int)) (ifb (igt (Ø a.2.2.1) 40) (k (2:Int)) (ifb (igt (Ø a.2.2.2.1) 12) (k (2:Int)) (ifb (igt (Ø a.2.2.2.2.1) 40) (k (2:Int)) (ifb (igt (Ø a.2.2.2.2.2) 10) (k (2:Int)) (Ä (Ű a) fun b=>ifb (ine b 0) (k b) (Ä (ĸ a) fun e=>RE (m9 a e) (fun f=>k f) (Ä (pu a) fun c=>ifb (igt (Ø c) 59) (k (2:Int)) (ck ((2:Int)*(Ø a.2.1)) fun g=>ck ((Ø c)-(Ø a.2.1)) fun h=>ck ((2:Int)*h) fun i=>ck (g+i) fun j=>ck ((2:Int)*(Ø a.2.2.2.2.1)) fun l=>ck (j+l) fun m=>ifb (igt m 300) (k (2:Int)) (k (0:Int)))))))))))
def Δ (a:Val É):Option (Int):=J7 a some
def Dx (a:List Int):Option (Int×Int×Int×Int×Int):=some (a.getD 0 0,a.getD 1 0,a.getD 2 0,a.getD 3 0,a.getD 4 0)
def nR (b:Val ac) (a:Int) (e:Int→Option ρ) (c:Bool→Option ρ) (d:Unit→Option ρ):Option ρ :=
  ifb (ilt a (Ø b)) (ifb (ilt a 60) (ğ b a fun f=>ifb (igt (Ø f.2.2.1) 9) (c false) (ğ b a fun g=>ifb (igt (Ø g.2.2.2.1) 9) (c false) (ck (a+(1:Int)) fun h=>e h))) (d ())) (d ())
def kj (b:Val ai) (a:Int) (d:Int→Option ρ) (e:Bool→Option ρ) (c:Unit→Option ρ):Option ρ :=
  ifb (ilt a (Ø b)) (ifb (ilt a 8) (ğ b a fun f=>ifb (igt (Ø f.2) 9) (e false) (ck (a+(1:Int)) fun g=>d g)) (c ())) (c ())
def El (a:Val Â) (k:Bool→Option ρ):Option ρ :=
  Ê (fun(b:Int) c=>nR a.1.2.2.2.2.1 b (fun d=>c d) (fun e=>k e) (fun _=>Ê (fun(f:Int) g=>kj a.2 f (fun h=>g h) (fun i=>k i) (fun _=>ifb (ile (Ø a.1.2.1) 6) (ifb (ile (Ø a.1.2.2.1) 20) (ifb (ile (Ø a.1.2.2.2.1) 6) (ifb (ile (Ø a.1.2.2.2.2.1) 8) (ifb (ile (Ø a.1.2.2.2.2.2) 6) (k (ile (Ø a.2) 6)) (k false)) (k false)) (k false)) (k false)) (k false))) (0:Int))) (0:Int)
def yb (a:Val Â):Option (Bool):=El a some
def qM (b:Val aa) (c:Int) (a:Int) (d:Int→Option ρ) (e:Int→Option ρ) (f:Unit→Option ρ):Option ρ :=
  ifb (ilt a c) (ğ b a fun g=>Ä (kL g) fun h=>ifb (!h) (e a) (ck (a+(1:Int)) fun i=>d i)) (f ())
def J4 (a:Val É) (b:Int) (c:Val aa) (k:Int→Option ρ):Option ρ :=
  Ä (Δ a) fun d=>ifb (ine d 0) (k d) (Ê (fun(e:Int) f=>qM c (Ø c) e (fun g=>f g) (fun h=>ifb (ige h 0) (k (1:Int)) (Ä (ĸ a) fun i=>Lq (k:=tI) (v:=Ô) b i (fun l=>k (0:Int)) (k (5:Int)))) (fun _=>Ä (ĸ a) fun j=>Lq (k:=tI) (v:=Ô) b j (fun m=>k (0:Int)) (k (5:Int)))) (0:Int))
def DH (a:Val É) (b:Int) (c:Val aa):Option (Int):=J4 a b c some
def Qi (a:Val É) (b:Int) (c:Int) (k:Val aH→Option ρ):Option ρ :=
  Ä (DH a b ([c])) fun d=>ifb (ine d 0) (k (false,d)) (Ä (uR a b c) fun e=>k (e.2,(0:Int)))
def yj (a:Val É) (b:Int) (c:Int):Option ((Val aH)):=Qi a b c some
def mC (b:Val aa) (a:Int) (c:Int→Option ρ) (d:Int→Option ρ) (e:Unit→Option ρ):Option ρ :=
  ifb (ilt a (Ø b)) (ğ b a fun f=>ck (a-(1:Int)) fun g=>ğ b g fun h=>ifb (ile f h) (d (1:Int)) (ck (a+(1:Int)) fun i=>c i)) (e ())
def mB (d:Val ag) (e:Int) (a:Int) (b:Val aW) (f:Int→Val aW→Option ρ) (g:Val aW→Option ρ):Option ρ :=
  ifb (ilt a e) (ğ d a fun c=>ck (a+(1:Int)) fun h=>f h (Ny (k:=tI) (v:=tI) c.1 c.2.1 b)) (g b)
def mA (b:Val aa) (c:Int) (d:Val aW) (a:Int) (e:Int→Option ρ) (f:Int→Option ρ) (g:Unit→Option ρ):Option ρ :=
  ifb (ilt a c) (ğ b a fun h=>Lq (k:=tI) (v:=tI) h d (fun j=>ck (a+(1:Int)) fun i=>e i) (f a)) (g ())
def jV (e:Val aa) (f:Int) (b:Int) (g:Val aW) (a:Int) (c:Int→Option ρ) (d:Int→Option ρ) (h:Unit→Option ρ):Option ρ :=
  ifb (ilt a f) (ğ e a fun i=>Lq (k:=tI) (v:=tI) i g (fun j=>ifb (ilt b j) (d a) (ck (a+(1:Int)) fun l=>c l)) (ifb (ilt b 0) (d a) (ck (a+(1:Int)) fun m=>c m))) (h ())
def ľ (l:Val aa) (m:Int) (b:Int) (c:Int) (d:Val ag) (e:Val ab) (f:Val ah) (g:Val ac) (h:Val ab) (i:Int) (a:Int) (n:Int→Option ρ) (j:Int→Option ρ) (o:Unit→Option ρ):Option ρ :=
  ifb (ilt a m) (ğ l a fun k=>Ä (yj ((b,c),d,e,f,g,h) k i) fun p=>ck (i+(1:Int)) fun q=>Ä (yj ((b,c),d,e,f,g,h) k q) fun r=>ifb p.1 (j a) (ifb r.1 (j a) (ck (a+(1:Int)) fun s=>n s))) (o ())
def I2 (a:Val É) (d:Val ai) (c:Int) (k:Int→Option ρ):Option ρ :=
  ğ d c fun b=>ifb (ilt b.1 0) (k (1:Int)) (ifb (ige b.1 20000) (k (1:Int)) (ifb (ilt (Ø b.2) 2) (k (1:Int)) (ifb (igt (Ø b.2) 5) (k (1:Int)) (Ê (fun(g:Int) h=>mC b.2 g (fun i=>h i) (fun j=>k j) (fun _=>Ê (fun(f:(Val (.pair tI aW))) l=>mB a.2.1 (Ø a.2.1) f.1 f.2 (fun m n=>l (m,n)) (fun e=>Ê (fun(o:Int) p=>mA b.2 (Ø b.2) e o (fun q=>p q) (fun r=>ifb (ige r 0) (k (5:Int)) (Ê (fun(s:Int) t=>jV b.2 (Ø b.2) b.1 e s (fun u=>t u) (fun v=>ifb (ige v 0) (k (4:Int)) (ifb (igt c 0) (ck (c-(1:Int)) fun w=>ğ d w fun x=>ifb (ile b.1 x.1) (k (6:Int)) (Ê (fun(y:Int) z=>ľ b.2 (Ø b.2) a.1.1 a.1.2 a.2.1 a.2.2.1 a.2.2.2.1 a.2.2.2.2.1 a.2.2.2.2.2 b.1 y (fun A=>z A) (fun B=>ifb (ige B 0) (k (9:Int)) (k (0:Int))) (fun _=>k (0:Int))) (0:Int))) (Ê (fun(C:Int) D=>ľ b.2 (Ø b.2) a.1.1 a.1.2 a.2.1 a.2.2.1 a.2.2.2.1 a.2.2.2.2.1 a.2.2.2.2.2 b.1 C (fun E=>D E) (fun F=>ifb (ige F 0) (k (9:Int)) (k (0:Int))) (fun _=>k (0:Int))) (0:Int)))) (fun _=>ifb (igt c 0) (ck (c-(1:Int)) fun G=>ğ d G fun H=>ifb (ile b.1 H.1) (k (6:Int)) (Ê (fun(I:Int) J=>ľ b.2 (Ø b.2) a.1.1 a.1.2 a.2.1 a.2.2.1 a.2.2.2.1 a.2.2.2.2.1 a.2.2.2.2.2 b.1 I (fun K=>J K) (fun L=>ifb (ige L 0) (k (9:Int)) (k (0:Int))) (fun _=>k (0:Int))) (0:Int))) (Ê (fun(M:Int) N=>ľ b.2 (Ø b.2) a.1.1 a.1.2 a.2.1 a.2.2.1 a.2.2.2.1 a.2.2.2.2.1 a.2.2.2.2.2 b.1 M (fun O=>N O) (fun P=>ifb (ige P 0) (k (9:Int)) (k (0:Int))) (fun _=>k (0:Int))) (0:Int)))) (0:Int))) (fun _=>Ê (fun(Q:Int) R=>jV b.2 (Ø b.2) b.1 e Q (fun S=>R S) (fun T=>ifb (ige T 0) (k (4:Int)) (ifb (igt c 0) (ck (c-(1:Int)) fun U=>ğ d U fun V=>ifb (ile b.1 V.1) (k (6:Int)) (Ê (fun(W:Int) X=>ľ b.2 (Ø b.2) a.1.1 a.1.2 a.2.1 a.2.2.1 a.2.2.2.1 a.2.2.2.2.1 a.2.2.2.2.2 b.1 W (fun Y=>X Y) (fun Z=>ifb (ige Z 0) (k (9:Int)) (k (0:Int))) (fun _=>k (0:Int))) (0:Int))) (Ê (fun(cw:Int) cz=>ľ b.2 (Ø b.2) a.1.1 a.1.2 a.2.1 a.2.2.1 a.2.2.2.1 a.2.2.2.2.1 a.2.2.2.2.2 b.1 cw (fun dc=>cz dc) (fun df=>ifb (ige df 0) (k (9:Int)) (k (0:Int))) (fun _=>k (0:Int))) (0:Int)))) (fun _=>ifb (igt c 0) (ck (c-(1:Int)) fun dg=>ğ d dg fun dh=>ifb (ile b.1 dh.1) (k (6:Int)) (Ê (fun(di:Int) dj=>ľ b.2 (Ø b.2) a.1.1 a.1.2 a.2.1 a.2.2.1 a.2.2.2.1 a.2.2.2.2.1 a.2.2.2.2.2 b.1 di (fun dk=>dj dk) (fun dl=>ifb (ige dl 0) (k (9:Int)) (k (0:Int))) (fun _=>k (0:Int))) (0:Int))) (Ê (fun(dm:Int) dt=>ľ b.2 (Ø b.2) a.1.1 a.1.2 a.2.1 a.2.2.1 a.2.2.2.1 a.2.2.2.2.1 a.2.2.2.2.2 b.1 dm (fun du=>dt du) (fun dv=>ifb (ige dv 0) (k (9:Int)) (k (0:Int))) (fun _=>k (0:Int))) (0:Int)))) (0:Int))) (0:Int))) ((0:Int),[]))) (1:Int)))))
def Dz (a:Val É) (b:Val ai) (c:Int):Option (Int):=I2 a b c some
def mD (c:Int) (b:Int) (a:Int) (d:Int→Int→Option ρ) (e:Int→Option ρ):Option ρ :=
  ifb (ilt a c) (ck (a+(1:Int)) fun f=>ck (b*f) fun g=>ck (a+(1:Int)) fun h=>d g h) (e b)
def qx (e:Val ai) (f:Int) (g:Int) (h:Int) (i:Val ag) (j:Val ab) (k:Val ah) (l:Val ac) (m:Val ab) (n:Val ai) (b:Int) (a:Int) (o:Int→Int→Option ρ) (p:Int→Option ρ) (q:Int→Option ρ):Option ρ :=
  ifb (ilt a f) (ğ e a fun r=>Ä (Dz ((g,h),i,j,k,l,m) n a) fun c=>ifb (ine c 0) (p c) (Ê (fun(d:Val Ã) s=>mD (Ø r.2) d.1 d.2 (fun t u=>s (t,u)) (fun v=>ck (a+(1:Int)) fun w=>o v w)) (b,(0:Int)))) (q b)
def Ji (a:Val Â) (k:Int→Option ρ):Option ρ :=
  Ä (Δ a.1) fun b=>ifb (ine b 0) (k b) (ifb (igt (Ø a.2) 4) (k (2:Int)) (Ê (fun(c:Val Ã) d=>qx a.2 (Ø a.2) a.1.1.1 a.1.1.2 a.1.2.1 a.1.2.2.1 a.1.2.2.2.1 a.1.2.2.2.2.1 a.1.2.2.2.2.2 a.2 c.1 c.2 (fun e f=>d (e,f)) (fun g=>k g) (fun h=>ifb (igt h 150) (k (2:Int)) (k (0:Int)))) ((1:Int),(0:Int))))
def ο (a:Val Â):Option (Int):=Ji a some
def Ģ (c:Val ab) (d:Int) (e:Int) (f:Int) (a:Int) (g:Int→Option ρ) (h:Int→Option ρ) (i:Unit→Option ρ):Option ρ :=
  ifb (ilt a d) (ğ c a fun b=>ifb ((zV e b.1)&&((zV f b.2)&&true)) (h a) (ck (a+(1:Int)) fun j=>g j)) (i ())
def Ů (a:Val ab) (b:Val Ã) (k:Int→Option ρ):Option ρ :=
  Ê (fun(c:Int) d=>Ģ a (Ø a) b.1 b.2 c (fun e=>d e) (fun f=>k f) (fun _=>k (-1:Int))) (0:Int)
def ï (a:Val ab) (b:Val Ã):Option (Int):=Ů a b some
def xb (b:Val aU) (a:Val aa) (c:Int) (k:Int→Option ρ):Option ρ :=
  ifb (ieq (Ø a) 0) (k (0:Int)) (ğ a (0:Int) fun d=>Ä (ï b.2.1 (d,c)) fun e=>ck (e+(1:Int)) fun f=>k f)
def jY (a:Val aU) (b:Val aa) (c:Int):Option (Int):=xb a b c some
def uA (f:Int) (g:Int) (h:Val ah) (i:Int) (j:Int) (b:Int) (a:Int) (d:Int→Int→Option ρ) (k:Int→Option ρ):Option ρ :=
  ifb (ilt a i) (ğ h a fun c=>ck (g-(1:Int)) fun l=>ck ((XD c.2.1.2 l)-(VX c.2.1.1 f)) fun m=>ck (m+1) fun e=>ifb (ieq c.1 j) (ifb (igt e 0) (ck (e*c.2.2) fun n=>ck (b+n) fun o=>ck (a+(1:Int)) fun p=>d o p) (ck (a+(1:Int)) fun q=>d b q)) (ck (a+(1:Int)) fun r=>d b r)) (k b)
def uz (e:Int) (f:Int) (g:Val ab) (h:Int) (i:Int) (a:Int) (b:Val aa) (d:Int→Val aa→Option ρ) (j:Val aa→Option ρ):Option ρ :=
  ifb (ilt a h) (ğ g a fun c=>ifb (ieq c.1 i) (ck (f-(1:Int)) fun k=>Ä (ė c.2 e k) fun l=>ifb l (ç (î ((List.length b)+(List.length ([c.2])))) (ck (a+(1:Int)) fun m=>d m (b++([c.2])))) (ck (a+(1:Int)) fun n=>d n b)) (ck (a+(1:Int)) fun o=>d o b)) (j b)
def PY (a:Val É) (b:Val Ô) (d:Int) (e:Int) (k:Int→Option ρ):Option ρ :=
  Ê (fun(f:Val Ã) h=>uA d e a.2.2.2.1 (Ø a.2.2.2.1) b.1 f.1 f.2 (fun i j=>h (i,j)) (fun l=>Ê (fun(g:Val ŋ) m=>uz d e a.2.2.1 (Ø a.2.2.1) b.1 g.1 g.2 (fun n o=>m (n,o)) (fun c=>ç (î (List.length c)) (ç (î (List.length (vI c))) (ck ((Ø (yo (vI c)))*b.2.2.2.2.2) fun p=>ck (l+p) fun q=>k q)))) ((0:Int),[]))) ((0:Int),(0:Int))
def yi (a:Val É) (b:Val Ô) (c:Int) (d:Int):Option (Int):=PY a b c d some
def nz (b:Val am) (a:Val aa) (k:Val Ã→Option ρ):Option ρ :=
  ifb (ieq (Ø a) 0) (k ((0:Int),(1:Int))) (ğ a (0:Int) fun c=>Lq (k:=tI) (v:=Ô) c b (fun d=>k d.2.2.2.2.1) (k ((0:Int),(0:Int))))
def gZ (a:Val am) (b:Val aa):Option (Val Ã):=nz a b some
def qE (b:Val ab) (c:Int) (a:Int) (d:Int→Option ρ) (e:Int→Option ρ) (f:Unit→Option ρ):Option ρ :=
  ifb (ilt a c) (ğ b a fun g=>Ä (tg g) fun h=>ifb (!h) (e (1:Int)) (ck (a+(1:Int)) fun i=>d i)) (f ())
def JD (a:Val ab) (k:Int→Option ρ):Option ρ :=
  Ê (fun(b:Int) c=>qE a (Ø a) b (fun d=>c d) (fun e=>k e) (fun _=>k (0:Int))) (0:Int)
def ju (a:Val ab):Option (Int):=JD a some
def AR (d:Int) (e:Int) (k:Val Bs→Option ρ):Option ρ :=
  Ä (qW d) fun b=>Ä (qW e) fun c=>Ä (KH b c) fun a=>ifb (zV a 0) (none) (ifb (zV a 0) (none) (ifb (igt (IntKind.wrap .u64 (Int.tdiv b a)) 2147483647) (k (((0:Int),(0:Int)),(3:Int))) (ifb (igt (IntKind.wrap .u64 (Int.tdiv c a)) 2147483647) (k (((0:Int),(0:Int)),(3:Int))) (ifb (!((ilt d 0)==(ilt e 0))) (ck (0-(IntKind.wrap .i64 (IntKind.wrap .u64 (Int.tdiv b a)))) fun f=>k ((f,(IntKind.wrap .i64 (IntKind.wrap .u64 (Int.tdiv c a)))),(0:Int))) (k (((IntKind.wrap .i64 (IntKind.wrap .u64 (Int.tdiv b a))),(IntKind.wrap .i64 (IntKind.wrap .u64 (Int.tdiv c a)))),(0:Int)))))))
def pr (a:Int) (b:Int):Option (Val Bs):=AR a b some
def VC (a:Val Ã) (b:Val Ã) (k:Val Bs→Option ρ):Option ρ :=
  Ä (ju ([a,b])) fun c=>ifb (ine c 0) (k (((0:Int),(0:Int)),c)) (ck (a.1*b.2) fun e=>ck (b.1*a.2) fun f=>ck (e-f) fun g=>ck (a.2*b.2) fun h=>Ä (pr g h) fun d=>k (d.1,d.2))
def QC (a:Val Ã) (b:Val Ã):Option (Val Bs):=VC a b some
def uq (a:Val Ã) (b:Val Ã) (k:Val Ã→Option ρ):Option ρ :=
  Ä (QC a b) fun c=>k c.1
def uP (a:Val Ã) (b:Val Ã):Option (Val Ã):=uq a b some
def Vz (a:Val Ã) (b:Val Ã) (k:Int→Option ρ):Option ρ :=
  ck (a.1*b.2) fun c=>ck (b.1*a.2) fun d=>ifb ((zV a.1 b.1)&&((zV a.2 b.2)&&true)) (k (0:Int)) (ifb (ilt c d) (k (-1:Int)) (ifb (igt c d) (k (1:Int)) (k (0:Int))))
def KI (a:Val Ã) (b:Val Ã):Option (Int):=Vz a b some
def rA (a:Val Ĕ) (k:Bool→Option ρ):Option ρ :=
  Ä (ju ([a.1,a.2])) fun b=>ifb (ieq b 0) (Ä (KI a.1 a.2) fun c=>k (ile c 0)) (k false)
def rK (a:Val Ĕ):Option (Bool):=rA a some
def VF (a:Val Ã) (b:Val Ã) (k:Val Bs→Option ρ):Option ρ :=
  Ä (ju ([a,b])) fun c=>ifb (ine c 0) (k (((0:Int),(0:Int)),c)) (ck (a.1*b.1) fun e=>ck (a.2*b.2) fun f=>Ä (pr e f) fun d=>k (d.1,d.2))
def KK (a:Val Ã) (b:Val Ã):Option (Val Bs):=VF a b some
def JL (c:Val Ĕ) (d:Val Ã) (k:Val Z4→Option ρ):Option ρ :=
  Ä (rK c) fun e=>ifb (!e) (k ((((0:Int),(0:Int)),(0:Int),(0:Int)),(1:Int))) (Ä (tg d) fun f=>ifb (!f) (k ((((0:Int),(0:Int)),(0:Int),(0:Int)),(1:Int))) (Ä (KK d c.1) fun a=>ifb (ine a.2 0) (k ((((0:Int),(0:Int)),(0:Int),(0:Int)),a.2)) (Ä (KK d c.2) fun b=>ifb (ine b.2 0) (k ((((0:Int),(0:Int)),(0:Int),(0:Int)),b.2)) (Ä (KI a.1 b.1) fun g=>ifb (igt g 0) (k ((b.1,a.1),(0:Int))) (k ((a.1,b.1),(0:Int)))))))
def KJ (a:Val Ĕ) (b:Val Ã):Option (Val Z4):=JL a b some
def un (b:Val Ã) (a:Val Ã) (k:Val Ĕ→Option ρ):Option ρ :=
  Ä (KJ ((a.1,(1:Int)),a.2,(1:Int)) b) fun c=>k c.1
def oi (a:Val Ã) (b:Val Ã):Option (Val Ĕ):=un a b some
def EY (c:Val É) (a:Val å) (k:Val Ĕ→Option ρ):Option ρ :=
  Ä (ĸ c) fun b=>Ä (Β a.2.2.1 a.2.2.2.1) fun d=>Ä (gZ b d) fun e=>Ä (Β a.2.2.2.1 a.2.2.1) fun f=>Ä (gZ b f) fun g=>Ä (uP e g) fun h=>Ä (oi h a.2.2.2.2.2.2) fun i=>k i
def tj (a:Val É) (b:Val å):Option (Val Ĕ):=EY a b some
def J2 (a:Val É) (b:Val å) (k:Val Ã→Option ρ):Option ρ :=
  ck ((Ø b.2.2.1)-(1:Int)) fun c=>ck ((Ø b.2.2.2.1)-(1:Int)) fun d=>ck ((VX (0:Int) c)*a.1.1) fun e=>ck ((VX (0:Int) d)*a.1.2) fun f=>ck (e-f) fun g=>ck ((VX (0:Int) c)*a.1.2) fun h=>ck ((VX (0:Int) d)*a.1.1) fun i=>ck (h-i) fun j=>k (g,j)
def xq (a:Val É) (b:Val å):Option (Val Ã):=J2 a b some
def JI (b:Int) (a:Int) (k:Int→Option ρ):Option ρ :=
  ifb (zV a 0) (none) (ck (Int.tdiv b a) fun c=>ifb (zV a 0) (none) (ifb (ilt (Int.tmod b a) 0) (ck (c-1) fun d=>k d) (k c)))
def xp (a:Int) (b:Int):Option (Int):=JI a b some
def PS (a:Val Ã) (k:Val Ã→Option ρ):Option ρ :=
  Ä (ju ([a])) fun b=>ifb (ine b 0) (k ((0:Int),b)) (ck (0-a.1) fun c=>Ä (xp c a.2) fun d=>ck (0-d) fun e=>k (e,(0:Int)))
def HK (a:Val Ã):Option (Val Ã):=PS a some
def JN (a:Val Ã) (k:Val Ã→Option ρ):Option ρ :=
  Ä (ju ([a])) fun b=>ifb (ine b 0) (k ((0:Int),b)) (Ä (xp a.1 a.2) fun c=>k (c,(0:Int)))
def DG (a:Val Ã):Option (Val Ã):=JN a some
def PU (b:Val É) (a:Val å) (k:Val Ã→Option ρ):Option ρ :=
  Ä (tj b a) fun c=>Ä (xq b a) fun d=>Ä (DG c.2) fun e=>Ä (HK c.1) fun f=>ck (a.2.2.2.2.1-a.2.2.2.2.2.1) fun g=>ck (g-d.2) fun h=>ck (h-e.1) fun i=>ck (a.2.2.2.2.1+a.2.2.2.2.2.1) fun j=>ck (j-d.1) fun l=>ck (l-f.1) fun m=>k (i,m)
def yh (a:Val É) (b:Val å):Option (Val Ã):=PU a b some
def uu (b:Int) (e:Val aa) (h:Int) (j:Int) (k:Int) (l:Val ag) (m:Val ab) (n:Val ah) (o:Val ac) (p:Val ab) (q:Int) (r:Int) (s:Int) (t:Int) (u:Int) (v:Int) (w:Int) (x:Int) (a:Int) (f:Val ak) (g:Val ab) (y:Int→Val ak→Val ab→Option ρ) (z:Val Br→Option ρ):Option ρ :=
  ifb (ilt a (Ø e)) (ck (h+a) fun A=>ck (A-1) fun c=>ck (h+a) fun d=>ck (a-(1:Int)) fun B=>ğ e B fun C=>ğ e a fun D=>Ä (yi ((j,k),l,m,n,o,p) (q,r,s,(t,u),(v,w),x) C D) fun E=>ck (0-E) fun F=>ck (0-F) fun i=>ç (î ((List.length f)+(List.length ([(c,d,(0:Int)),(d,c,i)])))) (ç (î ((List.length g)+(List.length ([((2:Int),b),((2:Int),b)])))) (ck (a+(1:Int)) fun G=>y G (f++([(c,d,(0:Int)),(d,c,i)])) (g++([((2:Int),b),((2:Int),b)]))))) (z (f,g))
def uw (q:Val ag) (r:Int) (f:Int) (g:Int) (h:Val ag) (i:Val ab) (j:Val ah) (k:Val ac) (l:Val ab) (s:Val ab) (t:Int) (b:Int) (d:Val ak) (e:Val ab) (u:Int→Val ak→Val ab→Option ρ) (v:Val Br→Option ρ):Option ρ :=
  ifb (ilt b r) (ğ q b fun a=>Ä (oj ((f,g),h,i,j,k,l) a) fun w=>Ä (jY (((f,g),h,i,j,k,l),s,(t,d),e) ([a.1]) a.2.1) fun c=>ck (a.2.2.1+a.2.2.2.1.1) fun x=>ck (a.2.2.1+a.2.2.2.1.2) fun n=>ck (0-x) fun o=>ç (î ((List.length d)+(List.length ([((0:Int),c,n),(c,(0:Int),o)])))) (ç (î ((List.length e)+(List.length ([((1:Int),b),((1:Int),b)])))) (Ê (fun(m:(Val (.pair tI Br))) y=>uu b w c f g h i j k l a.1 a.2.1 a.2.2.1 a.2.2.2.1.1 a.2.2.2.1.2 a.2.2.2.2.1.1 a.2.2.2.2.1.2 a.2.2.2.2.2 m.1 m.2.1 m.2.2 (fun z A B=>y (z,A,B)) (fun p=>ck (b+(1:Int)) fun C=>u C p.1 p.2)) ((1:Int),(d++([((0:Int),c,n),(c,(0:Int),o)])),(e++([((1:Int),b),((1:Int),b)])))))) (v (d,e))
def ut (r:Val ac) (s:Int) (g:Int) (h:Int) (i:Val ag) (j:Val ab) (k:Val ah) (l:Val ac) (m:Val ab) (o:Val ab) (p:Int) (a:Int) (c:Val ak) (d:Val ab) (t:Int→Val ak→Val ab→Option ρ) (u:Val Br→Option ρ):Option ρ :=
  ifb (ilt a s) (ğ r a fun b=>Ä (Β b.2.2.2.1 b.2.2.1) fun v=>Ä (jY (((g,h),i,j,k,l,m),o,(p,c),d) v b.2.1) fun e=>Ä (Β b.2.2.1 b.2.2.2.1) fun w=>Ä (jY (((g,h),i,j,k,l,m),o,(p,c),d) w b.2.1) fun f=>Ä (yh ((g,h),i,j,k,l,m) b) fun n=>ck (0-n.1) fun q=>ç (î ((List.length c)+(List.length ([(e,f,n.2),(f,e,q)])))) (ç (î ((List.length d)+(List.length ([((3:Int),a),((3:Int),a)])))) (ck (a+(1:Int)) fun x=>t x (c++([(e,f,n.2),(f,e,q)])) (d++([((3:Int),a),((3:Int),a)]))))) (u (c,d))
def PX (a:Val É) (k:Val aU→Option ρ):Option ρ :=
  Ä (pu a) fun b=>ck ((Ø b)+(1:Int)) fun c=>Ê (fun(d:(Val (.pair tI Br))) h=>uw a.2.1 (Ø a.2.1) a.1.1 a.1.2 a.2.1 a.2.2.1 a.2.2.2.1 a.2.2.2.2.1 a.2.2.2.2.2 b c d.1 d.2.1 d.2.2 (fun i j l=>h (i,j,l)) (fun f=>Ê (fun(e:(Val (.pair tI Br))) m=>ut a.2.2.2.2.1 (Ø a.2.2.2.2.1) a.1.1 a.1.2 a.2.1 a.2.2.1 a.2.2.2.1 a.2.2.2.2.1 a.2.2.2.2.2 b c e.1 e.2.1 e.2.2 (fun n o p=>m (n,o,p)) (fun g=>k (a,b,(c,g.1),g.2))) ((0:Int),f.1,f.2))) ((0:Int),[],[])
def HL (a:Val É):Option ((Val aU)):=PX a some
def E6 (a:Val É) (k:(Val (.pair Ì bc))→Option ρ):Option ρ :=
  Ä (Δ a) fun b=>ifb (ine b 0) (k (((0:Int),[]),[],b)) (Ä (HL a) fun c=>k (c.2.2.1,c.2.2.2,(0:Int)))
def ic (a:Val É):Option ((Val (.pair Ì bc))):=E6 a some
def xN (f:Val aj) (g:Int) (d:Val ai) (b:Int) (a:Int) (c:Int→Int→Option ρ) (h:Int→Option ρ):Option ρ :=
  ifb (ige a 0) (ğ f a fun i=>Ä (π i b) fun e=>ifb (ige e 0) (ğ d a fun j=>ifb (ilt j.1 g) (ğ d a fun k=>ğ k.2 e fun l=>ck (a-(1:Int)) fun m=>c l m) (ck (a-(1:Int)) fun n=>c b n)) (ck (a-(1:Int)) fun o=>c b o)) (h b)
def U9 (a:Val Â) (c:Val aj) (d:Int) (e:Int) (k:Int→Option ρ):Option ρ :=
  ck ((Ø a.2)-(1:Int)) fun f=>Ê (fun(b:Val Ã) g=>xN c e a.2 b.1 b.2 (fun h i=>g (h,i)) (fun j=>k j)) (d,f)
def rJ (a:Val Â) (b:Val aj) (c:Int) (d:Int):Option (Int):=U9 a b c d some
def ir (d:Int) (e:Val ar) (f:Val aF) (g:Val aa) (h:Int) (a:Int) (b:Val aa) (i:Int→Val aa→Option ρ) (j:Val aa→Option ρ):Option ρ :=
  ifb (ilt a h) (ğ g a fun k=>Ä (rJ e f k d) fun c=>ç (î ((List.length b)+(List.length ([c])))) (ck (a+(1:Int)) fun l=>i l (b++([c])))) (j b)
def oP (a:Val aa) (d:Int) (e:Val ar) (f:Val aF) (k:Val aa→Option ρ):Option ρ :=
  Ê (fun(b:Val ŋ) g=>ir d e f a (Ø a) b.1 b.2 (fun h i=>g (h,i)) (fun c=>ç (î (List.length c)) (k (vI c)))) ((0:Int),[])
def iN (a:Val aa) (b:Int) (c:Val ar) (d:Val aF):Option ((Val aa)):=oP a b c d some
def jE (e:Val ar) (f:Val aF) (g:Val ab) (h:Int) (b:Int) (c:Val ab) (i:Int→Val ab→Option ρ) (j:Val ab→Option ρ):Option ρ :=
  ifb (ilt b h) (ğ g b fun a=>Ä (rJ e f a.1 a.2) fun d=>ç (î ((List.length c)+(List.length ([(d,a.2)])))) (ck (b+(1:Int)) fun k=>i k (c++([(d,a.2)])))) (j c)
def jD (e:Val ar) (f:Val aF) (g:Val ah) (h:Int) (b:Int) (c:Val ah) (i:Int→Val ah→Option ρ) (j:Val ah→Option ρ):Option ρ :=
  ifb (ilt b h) (ğ g b fun a=>Ä (rJ e f a.1 a.2.1.1) fun d=>ç (î ((List.length c)+(List.length ([(d,a.2)])))) (ck (b+(1:Int)) fun k=>i k (c++([(d,a.2)])))) (j c)
def jC (d:Val ar) (e:Val aF) (h:Val ac) (i:Int) (b:Int) (c:Val ac) (j:Int→Val ac→Option ρ) (k:Val ac→Option ρ):Option ρ :=
  ifb (ilt b i) (ğ h b fun a=>Ä (iN a.2.2.1 a.2.1 d e) fun f=>Ä (iN a.2.2.2.1 a.2.1 d e) fun g=>ç (î ((List.length c)+(List.length ([(a.1,a.2.1,f,g,a.2.2.2.2)])))) (ck (b+(1:Int)) fun l=>j l (c++([(a.1,a.2.1,f,g,a.2.2.2.2)])))) (k c)
def jB (e:Val ar) (f:Val aF) (g:Val ab) (h:Int) (b:Int) (c:Val ab) (i:Int→Val ab→Option ρ) (j:Val ab→Option ρ):Option ρ :=
  ifb (ilt b h) (ğ g b fun a=>Ä (rJ e f a.1 a.2) fun d=>ç (î ((List.length c)+(List.length ([(d,a.2)])))) (ck (b+(1:Int)) fun k=>i k (c++([(d,a.2)])))) (j c)
def tN (a:Val Â) (b:Val aj) (k:Val É→Option ρ):Option ρ :=
  ç (î (List.length a.1.2.1)) (Ê (fun(c:Val aY) g=>jE a b a.1.2.2.1 (Ø a.1.2.2.1) c.1 c.2 (fun h i=>g (h,i)) (fun j=>Ê (fun(d:(Val (.pair tI ah))) l=>jD a b a.1.2.2.2.1 (Ø a.1.2.2.2.1) d.1 d.2 (fun m n=>l (m,n)) (fun o=>Ê (fun(e:Val aT) p=>jC a b a.1.2.2.2.2.1 (Ø a.1.2.2.2.2.1) e.1 e.2 (fun q r=>p (q,r)) (fun s=>Ê (fun(f:Val aY) t=>jB a b a.1.2.2.2.2.2 (Ø a.1.2.2.2.2.2) f.1 f.2 (fun u v=>t (u,v)) (fun w=>k (a.1.1,a.1.2.1,j,o,s,w))) ((0:Int),[]))) ((0:Int),[]))) ((0:Int),[]))) ((0:Int),[]))
def Α (a:Val Â) (b:Val aj):Option (Val É):=tN a b some
def Pw (b:Val Ì) (a:Int) (k:Bool→Option ρ):Option ρ :=
  ifb (ige a 0) (k (ilt a b.1)) (k false)
def yf (a:Val Ì) (b:Int):Option (Bool):=Pw a b some
def qD (f:Val ak) (g:Int) (d:Int) (e:Val ak) (a:Int) (h:Int→Option ρ) (c:Val Ã→Option ρ) (i:Unit→Option ρ):Option ρ :=
  ifb (ilt a g) (ğ f a fun b=>Ä (yf (d,e) b.1) fun j=>ifb (!j) (c ((1:Int),a)) (Ä (yf (d,e) b.2.1) fun k=>ifb (!k) (c ((1:Int),a)) (ifb (ieq b.1 b.2.1) (c ((1:Int),a)) (ifb (ilt b.2.2 (-4503599627370496:Int)) (c ((1:Int),a)) (ifb (igt b.2.2 4503599627370496) (c ((1:Int),a)) (ck (a+(1:Int)) fun l=>h l)))))) (i ())
def JB (a:Val Ì) (k:Val Ã→Option ρ):Option ρ :=
  ifb (ilt a.1 1) (k ((1:Int),(-1:Int))) (ifb (igt a.1 60) (k ((1:Int),(-1:Int))) (ifb (igt (Ø a.2) 300) (k ((2:Int),(-1:Int))) (Ê (fun(c:Int) d=>qD a.2 (Ø a.2) a.1 a.2 c (fun e=>d e) (fun b=>k (b.1,b.2)) (fun _=>k ((0:Int),(-1:Int)))) (0:Int))))
def pq (a:Val Ì):Option (Val Ã):=JB a some
def ξ (c:Val ak) (d:Int) (b:Int) (a:Int) (e:Int→Int→Option ρ) (f:Int→Option ρ):Option ρ :=
  ifb (ilt a d) (ğ c a fun g=>ck (b+(XD g.2.2 (0:Int))) fun h=>ck (a+(1:Int)) fun i=>e h i) (f b)
def ŏ (f:Int) (d:Val aa) (a:Int) (b:Val aq) (c:Val aa) (e:Int→Val aq→Val aa→Option ρ) (g:Val aK→Option ρ):Option ρ :=
  ifb (ilt a f) (ç ((ile 0 a)&&(ilt a (ñ d))) (Ľ d (Int.toNat a) fun h=>ifb (ine h 1152921504606846976) (ç (î ((List.length c)+(List.length ([a])))) (ç ((ile 0 a)&&(ilt a (ñ b))) (Ľ b (Int.toNat a) fun k=>ck (a+(1:Int)) fun i=>e i (List.set b (Int.toNat a) true) (c++([a]))))) (ck (a+(1:Int)) fun j=>e j b c))) (g (b,c))
def iH (m:Val ao) (j:Int) (d:Int) (n:Val ak) (o:Int) (f:Int) (b:Val aa) (c:Val aq) (e:Val aa) (g:Int→Val aa→Val aq→Val aa→Option ρ) (l:(Val (.pair .bool (.pair aa aK)))→Option ρ) (p:(Val (.pair aa aK))→Option ρ):Option ρ :=
  ifb (ilt f o) (ğ n f fun a=>ifb (ine a.1 d) (ck (f+(1:Int)) fun q=>g q b c e) (Lq (k:=tI) (v:=.bool) f m (fun r=>ifb r (ck (f+(1:Int)) fun s=>g s b c e) (ç ((ile 0 d)&&(ilt d (ñ b))) (Ľ b (Int.toNat d) fun t=>ck (t+a.2.2) fun u=>ç ((ile 0 a.2.1)&&(ilt a.2.1 (ñ b))) (Ľ b (Int.toNat a.2.1) fun w=>ifb (ige u w) (ck (f+(1:Int)) fun x=>g x b c e) (ç ((ile 0 d)&&(ilt d (ñ b))) (Ľ b (Int.toNat d) fun y=>ck (y+a.2.2) fun h=>ç ((ile 0 a.2.1)&&(ilt a.2.1 (ñ b))) (Ľ b (Int.toNat a.2.1) fun M=>ç ((ile 0 a.2.1)&&(ilt a.2.1 (ñ (List.set b (Int.toNat a.2.1) h)))) (Ľ (List.set b (Int.toNat a.2.1) h) (Int.toNat a.2.1) fun z=>ifb (ilt z j) (l (false,(List.set b (Int.toNat a.2.1) h),c,e)) (ç ((ile 0 a.2.1)&&(ilt a.2.1 (ñ c))) (Ľ c (Int.toNat a.2.1) fun A=>ifb (!A) (ç (î ((List.length e)+(List.length ([a.2.1])))) (ç ((ile 0 a.2.1)&&(ilt a.2.1 (ñ c))) (Ľ c (Int.toNat a.2.1) fun N=>ck (f+(1:Int)) fun B=>g B (List.set b (Int.toNat a.2.1) h) (List.set c (Int.toNat a.2.1) true) (e++([a.2.1]))))) (ck (f+(1:Int)) fun C=>g C (List.set b (Int.toNat a.2.1) h) c e))))))))))) (ç ((ile 0 d)&&(ilt d (ñ b))) (Ľ b (Int.toNat d) fun D=>ck (D+a.2.2) fun E=>ç ((ile 0 a.2.1)&&(ilt a.2.1 (ñ b))) (Ľ b (Int.toNat a.2.1) fun F=>ifb (ige E F) (ck (f+(1:Int)) fun G=>g G b c e) (ç ((ile 0 d)&&(ilt d (ñ b))) (Ľ b (Int.toNat d) fun H=>ck (H+a.2.2) fun i=>ç ((ile 0 a.2.1)&&(ilt a.2.1 (ñ b))) (Ľ b (Int.toNat a.2.1) fun O=>ç ((ile 0 a.2.1)&&(ilt a.2.1 (ñ (List.set b (Int.toNat a.2.1) i)))) (Ľ (List.set b (Int.toNat a.2.1) i) (Int.toNat a.2.1) fun I=>ifb (ilt I j) (l (false,(List.set b (Int.toNat a.2.1) i),c,e)) (ç ((ile 0 a.2.1)&&(ilt a.2.1 (ñ c))) (Ľ c (Int.toNat a.2.1) fun J=>ifb (!J) (ç (î ((List.length e)+(List.length ([a.2.1])))) (ç ((ile 0 a.2.1)&&(ilt a.2.1 (ñ c))) (Ľ c (Int.toNat a.2.1) fun P=>ck (f+(1:Int)) fun K=>g K (List.set b (Int.toNat a.2.1) i) (List.set c (Int.toNat a.2.1) true) (e++([a.2.1]))))) (ck (f+(1:Int)) fun L=>g L (List.set b (Int.toNat a.2.1) i) c e)))))))))))) (p (b,c,e))
def Ĥ (l:Val ao) (m:Int) (n:Int) (k:Val ak) (h:Val aa) (d:Val aq) (b:Val aa) (c:Val aa) (o:Val aa→Val aq→Val aa→Val aa→Option ρ) (i:(Val (.pair .bool aL))→Option ρ):Option ρ :=
  ifb (ieq (Ø c) 0) (i (true,h,d,b,c)) (ç (ilt 0 (ñ c)) (Ľ c 0 fun a=>ç (ile 1 (ñ c)) (ç (decide (1+(List.length c-1)=List.length c)) (ç ((ile 0 a)&&(ilt a (ñ d))) (Ľ d (Int.toNat a) fun x=>ç ((ile 0 a)&&(ilt a (ñ b))) (Ľ b (Int.toNat a) fun p=>ck (p+(1:Int)) fun e=>ç ((ile 0 a)&&(ilt a (ñ b))) (Ľ b (Int.toNat a) fun y=>ç ((ile 0 a)&&(ilt a (ñ (List.set b (Int.toNat a) e)))) (Ľ (List.set b (Int.toNat a) e) (Int.toNat a) fun q=>ck (n+(1:Int)) fun r=>ifb (igt q r) (i (false,h,(List.set d (Int.toNat a) false),(List.set b (Int.toNat a) e),(List.drop 1 c))) (Ê (fun(f:(Val (.pair tI (.pair aa aK)))) s=>iH l m a k (Ø k) f.1 f.2.1 f.2.2.1 f.2.2.2 (fun t u v w=>s (t,u,v,w)) (fun g=>i (g.1,g.2.1,g.2.2.1,(List.set b (Int.toNat a) e),g.2.2.2)) (fun j=>o j.1 j.2.1 (List.set b (Int.toNat a) e) j.2.2)) ((0:Int),h,(List.set d (Int.toNat a) false),(List.drop 1 c)))))))))))
def iG (c:Int) (d:Int) (a:Int) (b:Val aa) (e:Int→Val aa→Option ρ) (f:Val aa→Option ρ):Option ρ :=
  ifb (ilt a d) (ç ((ile 0 a)&&(ilt a (ñ b))) (Ľ b (Int.toNat a) fun g=>ck (g-c) fun h=>ç ((ile 0 a)&&(ilt a (ñ b))) (Ľ b (Int.toNat a) fun j=>ck (a+(1:Int)) fun i=>e i (List.set b (Int.toNat a) h)))) (f b)
def wM (a:Val Ì) (h:Val ao) (k:(Val (.pair aa .bool))→Option ρ):Option ρ :=
  ç ((ile 0 a.1)&&(î (Int.toNat a.1))) (ç ((ile 0 a.1)&&(î (Int.toNat a.1))) (ç ((ile 0 a.1)&&(î (Int.toNat a.1))) (Ê (fun(e:Val Ã) i=>ξ a.2 (Ø a.2) e.1 e.2 (fun j l=>i (j,l)) (fun m=>Ê (fun(d:(Val (.pair tI aK))) n=>ŏ a.1 (List.replicate (Int.toNat a.1) (0:Int)) d.1 d.2.1 d.2.2 (fun o p q=>n (o,p,q)) (fun f=>Ê (fun(c:Val aL) r=>Ĥ h m a.1 a.2 c.1 c.2.1 c.2.2.1 c.2.2.2 (fun s t u v=>r (s,t,u,v)) (fun b=>ifb (!b.1) (k ([],false)) (ç (ilt 0 (ñ b.2.1)) (Ľ b.2.1 0 fun w=>Ê (fun(g:Val ŋ) x=>iG w (Ø b.2.1) g.1 g.2 (fun y z=>x (y,z)) (fun A=>k (A,true))) ((0:Int),b.2.1))))) ((List.replicate (Int.toNat a.1) (0:Int)),f.1,(List.replicate (Int.toNat a.1) (0:Int)),f.2))) ((0:Int),(List.replicate (Int.toNat a.1) false),[]))) ((0:Int),(0:Int)))))
def jX (a:Val Ì) (b:Val ao):Option ((Val (.pair aa .bool))):=wM a b some
def ru (a:Val Ì) (k:Val aH→Option ρ):Option ρ :=
  Ä (pq a) fun b=>ifb (ine b.1 0) (k (false,b.1)) (Ä (jX a ([])) fun c=>k (c.2,(0:Int)))
def mj (a:Val Ì):Option ((Val aH)):=ru a some
def wt (a:Val Â) (b:Val aj) (k:Bool→Option ρ):Option ρ :=
  Ä (Α a b) fun c=>Ä (ic c) fun d=>Ä (mj d.1) fun e=>k e.1
def ţ (a:Val Â) (b:Val aj):Option (Bool):=wt a b some
def nS (d:Int) (e:Val aa) (f:Int) (g:Val ai) (b:Int) (a:Int) (c:Int→Int→Option ρ) (h:Int→Option ρ):Option ρ :=
  ifb (ilt a f) (ğ e a fun i=>ğ g d fun j=>ğ j.2 a fun k=>ifb (ine k i) (ck (b+(1:Int)) fun l=>ck (a+(1:Int)) fun m=>c l m) (ck (a+(1:Int)) fun n=>c b n)) (h b)
def nV (e:Val aj) (f:Int) (g:Val ai) (b:Int) (a:Int) (h:Int→Int→Option ρ) (i:Int→Option ρ):Option ρ :=
  ifb (ilt a f) (ğ e a fun c=>Ê (fun(d:Val Ã) j=>nS a c (Ø c) g d.1 d.2 (fun k l=>j (k,l)) (fun m=>ck (a+(1:Int)) fun n=>h m n)) (b,(0:Int))) (i b)
def En (c:Val Â) (a:Val aj) (k:Int→Option ρ):Option ρ :=
  Ê (fun(b:Val Ã) d=>nV a (Ø a) c.2 b.1 b.2 (fun e f=>d (e,f)) (fun g=>k g)) ((0:Int),(0:Int))
def ĩ (a:Val Â) (b:Val aj):Option (Int):=En a b some
def pj (a:Int) (k:Bool→Option ρ):Option ρ :=
  k (ine a a)
def kK (a:Int):Option (Bool):=pj a some
def lS (a:Int) (b:Int) (k:Int→Option ρ):Option ρ :=
  Ä (kK a) fun d=>Ä (kK b) fun c=>ifb d (ifb c (k (0:Int)) (k (-1:Int))) (ifb c (k (1:Int)) (ifb (ilt a b) (k (-1:Int)) (ifb (igt a b) (k (1:Int)) (k (0:Int)))))
def ς (a:Int) (b:Int):Option (Int):=lS a b some
def Eo (b:Val aj) (c:Val aj) (a:Val ar) (k:Int→Option ρ):Option ρ :=
  Ä (ĩ a b) fun d=>Ä (ĩ a c) fun e=>Ä (ς d e) fun f=>k f
def i6 (a:Val aj) (b:Val aj) (c:Val ar):Option (Int):=Eo a b c some
def ã (h:Int) (i:Int) (j:Int) (k:Val ag) (l:Val ab) (m:Val ah) (n:Val ac) (o:Val ab) (p:Val ai) (a:Int) (b:Val af) (q:Int→Val af→Option ρ) (g:Val af→Option ρ):Option ρ :=
  ifb (igt a h) (ç ((ile 0 a)&&(ilt a (ñ b))) (Ľ b (Int.toNat a) fun r=>ck (a-(1:Int)) fun d=>ç ((ile 0 d)&&(ilt d (ñ b))) (Ľ b (Int.toNat d) fun s=>Ä (i6 r s (((i,j),k,l,m,n,o),p)) fun t=>ifb (ilt t 0) (ck (a-(1:Int)) fun c=>ck (a-(1:Int)) fun e=>ç ((ile 0 e)&&(ilt e (ñ b))) (Ľ b (Int.toNat e) fun f=>ç ((ile 0 a)&&(ilt a (ñ b))) (Ľ b (Int.toNat a) fun u=>ç ((ile 0 a)&&(ilt a (ñ b))) (Ľ b (Int.toNat a) fun w=>ç ((ile 0 c)&&(ilt c (ñ (List.set b (Int.toNat a) f)))) (Ľ (List.set b (Int.toNat a) f) (Int.toNat c) fun x=>ck (a-(1:Int)) fun v=>q v (List.set (List.set b (Int.toNat a) f) (Int.toNat c) u)))))) (g b)))) (g b)
def Ć (d:Int) (e:Int) (f:Int) (g:Int) (h:Val ag) (i:Val ab) (j:Val ah) (k:Val ac) (l:Val ab) (m:Val ai) (a:Int) (b:Val af) (n:Int→Val af→Option ρ) (o:Val af→Option ρ):Option ρ :=
  ifb (ilt a e) (Ê (fun(c:Val aB) p=>ã d f g h i j k l m c.1 c.2 (fun q r=>p (q,r)) (fun s=>ck (a+(1:Int)) fun t=>n t s)) (a,b)) (o b)
def Ş (c:Val af) (a:Int) (d:Int) (mm:Val Â) (k:((Val af))×(Val Â)→Option ρ):Option ρ :=
  ck (a+(1:Int)) fun e=>Ê (fun(b:Val aB) f=>Ć a d mm.1.1.1 mm.1.1.2 mm.1.2.1 mm.1.2.2.1 mm.1.2.2.2.1 mm.1.2.2.2.2.1 mm.1.2.2.2.2.2 mm.2 b.1 b.2 (fun g h=>f (g,h)) (fun i=>k (i,mm))) (e,c)
def â (a:Val af) (b:Int) (c:Int) (mm:Val Â):Option (((Val af))×(Val Â)):=Ş a b c mm some
def ą (h:Int) (i:Int) (j:Int) (b:Int) (a:Val af) (k:Int→Val af→Option ρ) (l:Val af→Option ρ):Option ρ :=
  ifb (ilt b j) (ck (h+b) fun c=>ck (i+b) fun d=>ck (i+b) fun e=>ç ((ile 0 e)&&(ilt e (ñ a))) (Ľ a (Int.toNat e) fun f=>ck (h+b) fun g=>ç ((ile 0 g)&&(ilt g (ñ a))) (Ľ a (Int.toNat g) fun m=>ç ((ile 0 c)&&(ilt c (ñ a))) (Ľ a (Int.toNat c) fun o=>ç ((ile 0 d)&&(ilt d (ñ (List.set a (Int.toNat c) f)))) (Ľ (List.set a (Int.toNat c) f) (Int.toNat d) fun p=>ck (b+(1:Int)) fun n=>k n (List.set (List.set a (Int.toNat c) f) (Int.toNat d) m)))))) (l a)
def κ (h:Int) (i:Int) (j:Int) (b:Int) (a:Val af) (k:Int→Val af→Option ρ) (l:Val af→Option ρ):Option ρ :=
  ifb (ilt b j) (ck (h+b) fun c=>ck (i+b) fun d=>ck (i+b) fun e=>ç ((ile 0 e)&&(ilt e (ñ a))) (Ľ a (Int.toNat e) fun f=>ck (h+b) fun g=>ç ((ile 0 g)&&(ilt g (ñ a))) (Ľ a (Int.toNat g) fun m=>ç ((ile 0 c)&&(ilt c (ñ a))) (Ľ a (Int.toNat c) fun o=>ç ((ile 0 d)&&(ilt d (ñ (List.set a (Int.toNat c) f)))) (Ľ (List.set a (Int.toNat c) f) (Int.toNat d) fun p=>ck (b+(1:Int)) fun n=>k n (List.set (List.set a (Int.toNat c) f) (Int.toNat d) m)))))) (l a)
def Ĩ (c:Int) (a:Int) (b:Int) (d:Val af) (e:Int→Int→Val af→Option ρ) (h:Val aB→Option ρ):Option ρ :=
  ifb (ine a b) (ifb (igt a b) (ck (c-a) fun i=>Ê (fun(f:Val aB) j=>ą i c b f.1 f.2 (fun k l=>j (k,l)) (fun m=>ck (a-b) fun n=>e n b m)) ((0:Int),d)) (ck (c-a) fun o=>ck (c+b) fun p=>ck (p-a) fun q=>Ê (fun(g:Val aB) r=>κ o q a g.1 g.2 (fun s t=>r (s,t)) (fun u=>ck (b-a) fun v=>e a v u)) ((0:Int),d))) (h (a,d))
def ι (h:Int) (i:Int) (j:Int) (b:Int) (a:Val af) (k:Int→Val af→Option ρ) (l:Val af→Option ρ):Option ρ :=
  ifb (ilt b j) (ck (h+b) fun c=>ck (i+b) fun d=>ck (i+b) fun e=>ç ((ile 0 e)&&(ilt e (ñ a))) (Ľ a (Int.toNat e) fun f=>ck (h+b) fun g=>ç ((ile 0 g)&&(ilt g (ñ a))) (Ľ a (Int.toNat g) fun m=>ç ((ile 0 c)&&(ilt c (ñ a))) (Ľ a (Int.toNat c) fun o=>ç ((ile 0 d)&&(ilt d (ñ (List.set a (Int.toNat c) f)))) (Ľ (List.set a (Int.toNat c) f) (Int.toNat d) fun p=>ck (b+(1:Int)) fun n=>k n (List.set (List.set a (Int.toNat c) f) (Int.toNat d) m)))))) (l a)
def iF (e:Val af) (f:Int) (a:Int) (g:Int) (mm:Val Â) (k:((Val af))×(Val Â)→Option ρ):Option ρ :=
  ck (a-f) fun h=>ck (g-a) fun i=>Ê (fun(b:(Val (.pair tI aB))) j=>Ĩ a b.1 b.2.1 b.2.2 (fun l m n=>j (l,m,n)) (fun c=>ck (a-c.1) fun o=>Ê (fun(d:Val aB) p=>ι o a c.1 d.1 d.2 (fun q r=>p (q,r)) (fun s=>k (s,mm))) ((0:Int),c.2))) (h,i,e)
def ī (a:Val af) (b:Int) (c:Int) (d:Int) (mm:Val Â):Option (((Val af))×(Val Â)):=iF a b c d mm some
def ó (rec:Val af→Int→Int→Int→Val Â→Option ((Val af)×(Val Â))) (d:Int) (b:Val af) (g:Int) (h:Int) (i:Val ag) (j:Val ab) (k:Val ah) (l:Val ac) (m:Val ab) (n:Val ai) (c:Int) (e:Int) (f:Int→Int→Option ρ) (o:Int→Option ρ):Option ρ :=
  ifb (ilt c e) (ck (c+e) fun a=>ç ((ile 0 (IntKind.wrap .i64 (gK .u64 (IntKind.wrap .u64 a) (1:Int))))&&(ilt (IntKind.wrap .i64 (gK .u64 (IntKind.wrap .u64 a) (1:Int))) (ñ b))) (Ľ b (Int.toNat (IntKind.wrap .i64 (gK .u64 (IntKind.wrap .u64 a) (1:Int)))) fun p=>ç ((ile 0 d)&&(ilt d (ñ b))) (Ľ b (Int.toNat d) fun q=>Ä (i6 p q (((g,h),i,j,k,l,m),n)) fun r=>ifb (ilt r 0) (ck ((IntKind.wrap .i64 (gK .u64 (IntKind.wrap .u64 a) (1:Int)))+(1:Int)) fun s=>f s e) (f c (IntKind.wrap .i64 (gK .u64 (IntKind.wrap .u64 a) (1:Int))))))) (o c)
def ë (rec:Val af→Int→Int→Int→Val Â→Option ((Val af)×(Val Â))) (f:Int) (a:Int) (b:Val af) (g:Int→Val af→Option ρ) (h:Val af→Option ρ):Option ρ :=
  ck (f-(1:Int)) fun i=>ifb (ilt a i) (ck (a+(1:Int)) fun c=>ck (a+(1:Int)) fun d=>ç ((ile 0 d)&&(ilt d (ñ b))) (Ľ b (Int.toNat d) fun e=>ç ((ile 0 a)&&(ilt a (ñ b))) (Ľ b (Int.toNat a) fun j=>ç ((ile 0 a)&&(ilt a (ñ b))) (Ľ b (Int.toNat a) fun l=>ç ((ile 0 c)&&(ilt c (ñ (List.set b (Int.toNat a) e)))) (Ľ (List.set b (Int.toNat a) e) (Int.toNat c) fun m=>ck (a+(1:Int)) fun k=>g k (List.set (List.set b (Int.toNat a) e) (Int.toNat c) j)))))) (h b)
def ò (rec:Val af→Int→Int→Int→Val Â→Option ((Val af)×(Val Â))) (d:Int) (b:Val af) (g:Int) (h:Int) (i:Val ag) (j:Val ab) (k:Val ah) (l:Val ac) (m:Val ab) (n:Val ai) (c:Int) (e:Int) (f:Int→Int→Option ρ) (o:Int→Option ρ):Option ρ :=
  ifb (ilt c e) (ck (c+e) fun a=>ç ((ile 0 d)&&(ilt d (ñ b))) (Ľ b (Int.toNat d) fun p=>ç ((ile 0 (IntKind.wrap .i64 (gK .u64 (IntKind.wrap .u64 a) (1:Int))))&&(ilt (IntKind.wrap .i64 (gK .u64 (IntKind.wrap .u64 a) (1:Int))) (ñ b))) (Ľ b (Int.toNat (IntKind.wrap .i64 (gK .u64 (IntKind.wrap .u64 a) (1:Int)))) fun q=>Ä (i6 p q (((g,h),i,j,k,l,m),n)) fun r=>ifb (!(ilt r 0)) (ck ((IntKind.wrap .i64 (gK .u64 (IntKind.wrap .u64 a) (1:Int)))+(1:Int)) fun s=>f s e) (f c (IntKind.wrap .i64 (gK .u64 (IntKind.wrap .u64 a) (1:Int))))))) (o c)
def ê (rec:Val af→Int→Int→Int→Val Â→Option ((Val af)×(Val Â))) (f:Int) (a:Int) (b:Val af) (g:Int→Val af→Option ρ) (h:Val af→Option ρ):Option ρ :=
  ifb (igt a f) (ck (a-(1:Int)) fun c=>ck (a-(1:Int)) fun d=>ç ((ile 0 d)&&(ilt d (ñ b))) (Ľ b (Int.toNat d) fun e=>ç ((ile 0 a)&&(ilt a (ñ b))) (Ľ b (Int.toNat a) fun i=>ç ((ile 0 a)&&(ilt a (ñ b))) (Ľ b (Int.toNat a) fun k=>ç ((ile 0 c)&&(ilt c (ñ (List.set b (Int.toNat a) e)))) (Ľ (List.set b (Int.toNat a) e) (Int.toNat c) fun l=>ck (a-(1:Int)) fun j=>g j (List.set (List.set b (Int.toNat a) e) (Int.toNat c) i)))))) (h b)
def Ü (rec:Val af→Int→Int→Int→Val Â→Option ((Val af)×(Val Â))) (g:Int) (b:Val af) (h:Int) (i:Int) (j:Val ag) (k:Val ab) (l:Val ah) (m:Val ac) (n:Val ab) (o:Val ai) (c:Int) (d:Int) (f:Int→Int→Option ρ) (p:Int→Option ρ):Option ρ :=
  ifb (ilt c d) (ck (c+d) fun a=>ck (g-(IntKind.wrap .i64 (gK .u64 (IntKind.wrap .u64 a) (1:Int)))) fun e=>ç ((ile 0 e)&&(ilt e (ñ b))) (Ľ b (Int.toNat e) fun q=>ç ((ile 0 (IntKind.wrap .i64 (gK .u64 (IntKind.wrap .u64 a) (1:Int))))&&(ilt (IntKind.wrap .i64 (gK .u64 (IntKind.wrap .u64 a) (1:Int))) (ñ b))) (Ľ b (Int.toNat (IntKind.wrap .i64 (gK .u64 (IntKind.wrap .u64 a) (1:Int)))) fun r=>Ä (i6 q r (((h,i),j,k,l,m,n),o)) fun s=>ifb (!(ilt s 0)) (ck ((IntKind.wrap .i64 (gK .u64 (IntKind.wrap .u64 a) (1:Int)))+(1:Int)) fun t=>f t d) (f c (IntKind.wrap .i64 (gK .u64 (IntKind.wrap .u64 a) (1:Int))))))) (p c)
def Ğ (rec:Val af→Int→Int→Int→Val Â→Option ((Val af)×(Val Â))) (c:Val af) (f:Int) (g:Int) (b:Int) (mm:Val Â) (k:((Val af))×(Val Â)→Option ρ):Option ρ :=
  ck (g-f) fun R=>ifb (ieq R 1) (Ê (fun(t:Val Ã) S=>ó rec f c mm.1.1.1 mm.1.1.2 mm.1.2.1 mm.1.2.2.1 mm.1.2.2.2.1 mm.1.2.2.2.2.1 mm.1.2.2.2.2.2 mm.2 t.1 t.2 (fun T U=>S (T,U)) (fun V=>Ê (fun(u:Val aB) W=>ë rec V u.1 u.2 (fun X Y=>W (X,Y)) (fun Z=>k (Z,mm))) (f,c))) (g,b)) (ck (b-g) fun cw=>ifb (ieq cw 1) (Ê (fun(v:Val Ã) cz=>ò rec g c mm.1.1.1 mm.1.1.2 mm.1.2.1 mm.1.2.2.1 mm.1.2.2.2.1 mm.1.2.2.2.2.1 mm.1.2.2.2.2.2 mm.2 v.1 v.2 (fun dc df=>cz (dc,df)) (fun dg=>Ê (fun(w:Val aB) dh=>ê rec dg w.1 w.2 (fun di dj=>dh (di,dj)) (fun dk=>k (dk,mm))) (g,c))) (f,g)) (ck (f+b) fun a=>ck ((IntKind.wrap .i64 (gK .u64 (IntKind.wrap .u64 a) (1:Int)))+g) fun s=>ifb (igt g (IntKind.wrap .i64 (gK .u64 (IntKind.wrap .u64 a) (1:Int)))) (ck (s-b) fun dl=>ck (s-1) fun dm=>Ê (fun(x:Val Ã) dt=>Ü rec dm c mm.1.1.1 mm.1.1.2 mm.1.2.1 mm.1.2.2.1 mm.1.2.2.2.1 mm.1.2.2.2.2.1 mm.1.2.2.2.2.2 mm.2 x.1 x.2 (fun du dv=>dt (du,dv)) (fun j=>ck (s-j) fun d=>ifb (ilt j g) (ifb (ilt g d) (Ä (ī c j g d mm) fun h=>ifb (ilt f j) (ifb (ilt j (IntKind.wrap .i64 (gK .u64 (IntKind.wrap .u64 a) (1:Int)))) (Ä (rec h.1 f j (IntKind.wrap .i64 (gK .u64 (IntKind.wrap .u64 a) (1:Int))) h.2) fun m=>ifb (ilt (IntKind.wrap .i64 (gK .u64 (IntKind.wrap .u64 a) (1:Int))) d) (ifb (ilt d b) (Ä (rec m.1 (IntKind.wrap .i64 (gK .u64 (IntKind.wrap .u64 a) (1:Int))) d b m.2) fun y=>k (y.1,y.2)) (k (m.1,m.2))) (k (m.1,m.2))) (ifb (ilt (IntKind.wrap .i64 (gK .u64 (IntKind.wrap .u64 a) (1:Int))) d) (ifb (ilt d b) (Ä (rec h.1 (IntKind.wrap .i64 (gK .u64 (IntKind.wrap .u64 a) (1:Int))) d b h.2) fun z=>k (z.1,z.2)) (k (h.1,h.2))) (k (h.1,h.2)))) (ifb (ilt (IntKind.wrap .i64 (gK .u64 (IntKind.wrap .u64 a) (1:Int))) d) (ifb (ilt d b) (Ä (rec h.1 (IntKind.wrap .i64 (gK .u64 (IntKind.wrap .u64 a) (1:Int))) d b h.2) fun A=>k (A.1,A.2)) (k (h.1,h.2))) (k (h.1,h.2)))) (ifb (ilt f j) (ifb (ilt j (IntKind.wrap .i64 (gK .u64 (IntKind.wrap .u64 a) (1:Int)))) (Ä (rec c f j (IntKind.wrap .i64 (gK .u64 (IntKind.wrap .u64 a) (1:Int))) mm) fun n=>ifb (ilt (IntKind.wrap .i64 (gK .u64 (IntKind.wrap .u64 a) (1:Int))) d) (ifb (ilt d b) (Ä (rec n.1 (IntKind.wrap .i64 (gK .u64 (IntKind.wrap .u64 a) (1:Int))) d b n.2) fun B=>k (B.1,B.2)) (k (n.1,n.2))) (k (n.1,n.2))) (ifb (ilt (IntKind.wrap .i64 (gK .u64 (IntKind.wrap .u64 a) (1:Int))) d) (ifb (ilt d b) (Ä (rec c (IntKind.wrap .i64 (gK .u64 (IntKind.wrap .u64 a) (1:Int))) d b mm) fun C=>k (C.1,C.2)) (k (c,mm))) (k (c,mm)))) (ifb (ilt (IntKind.wrap .i64 (gK .u64 (IntKind.wrap .u64 a) (1:Int))) d) (ifb (ilt d b) (Ä (rec c (IntKind.wrap .i64 (gK .u64 (IntKind.wrap .u64 a) (1:Int))) d b mm) fun D=>k (D.1,D.2)) (k (c,mm))) (k (c,mm))))) (ifb (ilt f j) (ifb (ilt j (IntKind.wrap .i64 (gK .u64 (IntKind.wrap .u64 a) (1:Int)))) (Ä (rec c f j (IntKind.wrap .i64 (gK .u64 (IntKind.wrap .u64 a) (1:Int))) mm) fun o=>ifb (ilt (IntKind.wrap .i64 (gK .u64 (IntKind.wrap .u64 a) (1:Int))) d) (ifb (ilt d b) (Ä (rec o.1 (IntKind.wrap .i64 (gK .u64 (IntKind.wrap .u64 a) (1:Int))) d b o.2) fun E=>k (E.1,E.2)) (k (o.1,o.2))) (k (o.1,o.2))) (ifb (ilt (IntKind.wrap .i64 (gK .u64 (IntKind.wrap .u64 a) (1:Int))) d) (ifb (ilt d b) (Ä (rec c (IntKind.wrap .i64 (gK .u64 (IntKind.wrap .u64 a) (1:Int))) d b mm) fun F=>k (F.1,F.2)) (k (c,mm))) (k (c,mm)))) (ifb (ilt (IntKind.wrap .i64 (gK .u64 (IntKind.wrap .u64 a) (1:Int))) d) (ifb (ilt d b) (Ä (rec c (IntKind.wrap .i64 (gK .u64 (IntKind.wrap .u64 a) (1:Int))) d b mm) fun G=>k (G.1,G.2)) (k (c,mm))) (k (c,mm)))))) (dl,(IntKind.wrap .i64 (gK .u64 (IntKind.wrap .u64 a) (1:Int))))) (ck (s-1) fun dw=>Ê (fun(H:Val Ã) dz=>Ü rec dw c mm.1.1.1 mm.1.1.2 mm.1.2.1 mm.1.2.2.1 mm.1.2.2.2.1 mm.1.2.2.2.2.1 mm.1.2.2.2.2.2 mm.2 H.1 H.2 (fun d8 d9=>dz (d8,d9)) (fun l=>ck (s-l) fun e=>ifb (ilt l g) (ifb (ilt g e) (Ä (ī c l g e mm) fun i=>ifb (ilt f l) (ifb (ilt l (IntKind.wrap .i64 (gK .u64 (IntKind.wrap .u64 a) (1:Int)))) (Ä (rec i.1 f l (IntKind.wrap .i64 (gK .u64 (IntKind.wrap .u64 a) (1:Int))) i.2) fun p=>ifb (ilt (IntKind.wrap .i64 (gK .u64 (IntKind.wrap .u64 a) (1:Int))) e) (ifb (ilt e b) (Ä (rec p.1 (IntKind.wrap .i64 (gK .u64 (IntKind.wrap .u64 a) (1:Int))) e b p.2) fun I=>k (I.1,I.2)) (k (p.1,p.2))) (k (p.1,p.2))) (ifb (ilt (IntKind.wrap .i64 (gK .u64 (IntKind.wrap .u64 a) (1:Int))) e) (ifb (ilt e b) (Ä (rec i.1 (IntKind.wrap .i64 (gK .u64 (IntKind.wrap .u64 a) (1:Int))) e b i.2) fun J=>k (J.1,J.2)) (k (i.1,i.2))) (k (i.1,i.2)))) (ifb (ilt (IntKind.wrap .i64 (gK .u64 (IntKind.wrap .u64 a) (1:Int))) e) (ifb (ilt e b) (Ä (rec i.1 (IntKind.wrap .i64 (gK .u64 (IntKind.wrap .u64 a) (1:Int))) e b i.2) fun K=>k (K.1,K.2)) (k (i.1,i.2))) (k (i.1,i.2)))) (ifb (ilt f l) (ifb (ilt l (IntKind.wrap .i64 (gK .u64 (IntKind.wrap .u64 a) (1:Int)))) (Ä (rec c f l (IntKind.wrap .i64 (gK .u64 (IntKind.wrap .u64 a) (1:Int))) mm) fun q=>ifb (ilt (IntKind.wrap .i64 (gK .u64 (IntKind.wrap .u64 a) (1:Int))) e) (ifb (ilt e b) (Ä (rec q.1 (IntKind.wrap .i64 (gK .u64 (IntKind.wrap .u64 a) (1:Int))) e b q.2) fun L=>k (L.1,L.2)) (k (q.1,q.2))) (k (q.1,q.2))) (ifb (ilt (IntKind.wrap .i64 (gK .u64 (IntKind.wrap .u64 a) (1:Int))) e) (ifb (ilt e b) (Ä (rec c (IntKind.wrap .i64 (gK .u64 (IntKind.wrap .u64 a) (1:Int))) e b mm) fun M=>k (M.1,M.2)) (k (c,mm))) (k (c,mm)))) (ifb (ilt (IntKind.wrap .i64 (gK .u64 (IntKind.wrap .u64 a) (1:Int))) e) (ifb (ilt e b) (Ä (rec c (IntKind.wrap .i64 (gK .u64 (IntKind.wrap .u64 a) (1:Int))) e b mm) fun N=>k (N.1,N.2)) (k (c,mm))) (k (c,mm))))) (ifb (ilt f l) (ifb (ilt l (IntKind.wrap .i64 (gK .u64 (IntKind.wrap .u64 a) (1:Int)))) (Ä (rec c f l (IntKind.wrap .i64 (gK .u64 (IntKind.wrap .u64 a) (1:Int))) mm) fun r=>ifb (ilt (IntKind.wrap .i64 (gK .u64 (IntKind.wrap .u64 a) (1:Int))) e) (ifb (ilt e b) (Ä (rec r.1 (IntKind.wrap .i64 (gK .u64 (IntKind.wrap .u64 a) (1:Int))) e b r.2) fun O=>k (O.1,O.2)) (k (r.1,r.2))) (k (r.1,r.2))) (ifb (ilt (IntKind.wrap .i64 (gK .u64 (IntKind.wrap .u64 a) (1:Int))) e) (ifb (ilt e b) (Ä (rec c (IntKind.wrap .i64 (gK .u64 (IntKind.wrap .u64 a) (1:Int))) e b mm) fun P=>k (P.1,P.2)) (k (c,mm))) (k (c,mm)))) (ifb (ilt (IntKind.wrap .i64 (gK .u64 (IntKind.wrap .u64 a) (1:Int))) e) (ifb (ilt e b) (Ä (rec c (IntKind.wrap .i64 (gK .u64 (IntKind.wrap .u64 a) (1:Int))) e b mm) fun Q=>k (Q.1,Q.2)) (k (c,mm))) (k (c,mm)))))) (f,g))))
def ĝ:Nat→Val af→Int→Int→Int→Val Â→Option ((Val af)×(Val Â))
  |0=>fun _ _ _ _ _=>none
  |n+1=>fun a b c d mm=>Ğ (ĝ n) a b c d mm some
def Ď (a:Val af) (b:Int) (c:Int) (d:Int) (mm:Val Â):Option (((Val af))×(Val Â)):=ĝ 100 a b c d mm
def θ (m:Int) (n:Int) (c:Int) (b:Int) (d:Val af) (e:Int) (f:Int) (g:Val ag) (h:Val ab) (i:Val ah) (j:Val ac) (k:Val ab) (l:Val ai) (o:Int→Int→Val af→Int→Int→Val ag→Val ab→Val ah→Val ac→Val ab→Val ai→Option ρ) (p:Val aw→Option ρ):Option ρ :=
  ifb (ile b m) (Ä (â d c b (((e,f),g,h,i,j,k),l)) fun a=>ck (b+n) fun q=>o b q a.1 a.2.1.1.1 a.2.1.1.2 a.2.1.2.1 a.2.1.2.2.1 a.2.1.2.2.2.1 a.2.1.2.2.2.2.1 a.2.1.2.2.2.2.2 a.2.2) (p (c,d,e,f,g,h,i,j,k,l))
def ζ (n:Int) (d:Int) (c:Int) (b:Int) (e:Val af) (f:Int) (g:Int) (h:Val ag) (i:Val ab) (j:Val ah) (k:Val ac) (l:Val ab) (m:Val ai) (o:Int→Int→Val af→Int→Int→Val ag→Val ab→Val ah→Val ac→Val ab→Val ai→Option ρ) (p:Val aw→Option ρ):Option ρ :=
  ifb (ile b n) (ck (c+d) fun q=>Ä (Ď e c q b (((f,g),h,i,j,k,l),m)) fun a=>ck ((2:Int)*d) fun r=>ck (b+r) fun s=>o b s a.1 a.2.1.1.1 a.2.1.1.2 a.2.1.2.1 a.2.1.2.2.1 a.2.1.2.2.2.1 a.2.1.2.2.2.2.1 a.2.1.2.2.2.2.2 a.2.2) (p (c,e,f,g,h,i,j,k,l,m))
def η (e:Int) (d:Int) (f:Val af) (g:Int) (h:Int) (i:Val ag) (j:Val ab) (k:Val ah) (l:Val ac) (m:Val ab) (n:Val ai) (o:Int→Val af→Int→Int→Val ag→Val ab→Val ah→Val ac→Val ab→Val ai→Option ρ) (q:(Val (.pair af ae))→Option ρ):Option ρ :=
  ifb (ilt d e) (ck ((2:Int)*d) fun r=>Ê (fun(b:(Val (.pair tI aw))) s=>ζ e d b.1 b.2.1 b.2.2.1 b.2.2.2.1 b.2.2.2.2.1 b.2.2.2.2.2.1 b.2.2.2.2.2.2.1 b.2.2.2.2.2.2.2.1 b.2.2.2.2.2.2.2.2.1 b.2.2.2.2.2.2.2.2.2.1 b.2.2.2.2.2.2.2.2.2.2 (fun t u v w x y z A B C D=>s (t,u,v,w,x,y,z,A,B,C,D)) (fun a=>ck (a.1+d) fun p=>ifb (ilt p e) (Ä (Ď a.2.1 a.1 p e (((a.2.2.1,a.2.2.2.1),a.2.2.2.2.1,a.2.2.2.2.2.1,a.2.2.2.2.2.2.1,a.2.2.2.2.2.2.2.1,a.2.2.2.2.2.2.2.2.1),a.2.2.2.2.2.2.2.2.2)) fun c=>ck (d*(2:Int)) fun E=>o E c.1 c.2.1.1.1 c.2.1.1.2 c.2.1.2.1 c.2.1.2.2.1 c.2.1.2.2.2.1 c.2.1.2.2.2.2.1 c.2.1.2.2.2.2.2 c.2.2) (ck (d*(2:Int)) fun F=>o F a.2.1 a.2.2.1 a.2.2.2.1 a.2.2.2.2.1 a.2.2.2.2.2.1 a.2.2.2.2.2.2.1 a.2.2.2.2.2.2.2.1 a.2.2.2.2.2.2.2.2.1 a.2.2.2.2.2.2.2.2.2))) ((0:Int),r,f,g,h,i,j,k,l,m,n)) (q (f,g,h,i,j,k,l,m,n))
def iE (g:Val af) (f:Int) (mm:Val Â) (k:((Val af))×(Val Â)→Option ρ):Option ρ :=
  Ê (fun(a:(Val (.pair tI aw))) h=>θ f (20:Int) a.1 a.2.1 a.2.2.1 a.2.2.2.1 a.2.2.2.2.1 a.2.2.2.2.2.1 a.2.2.2.2.2.2.1 a.2.2.2.2.2.2.2.1 a.2.2.2.2.2.2.2.2.1 a.2.2.2.2.2.2.2.2.2.1 a.2.2.2.2.2.2.2.2.2.2 (fun i j l m n o p q r s t=>h (i,j,l,m,n,o,p,q,r,s,t)) (fun b=>Ä (â b.2.1 b.1 f (((b.2.2.1,b.2.2.2.1),b.2.2.2.2.1,b.2.2.2.2.2.1,b.2.2.2.2.2.2.1,b.2.2.2.2.2.2.2.1,b.2.2.2.2.2.2.2.2.1),b.2.2.2.2.2.2.2.2.2)) fun d=>Ê (fun(c:Val aw) u=>η f c.1 c.2.1 c.2.2.1 c.2.2.2.1 c.2.2.2.2.1 c.2.2.2.2.2.1 c.2.2.2.2.2.2.1 c.2.2.2.2.2.2.2.1 c.2.2.2.2.2.2.2.2.1 c.2.2.2.2.2.2.2.2.2 (fun v w x y z A B C D E=>u (v,w,x,y,z,A,B,C,D,E)) (fun e=>k (e.1,(((e.2.1,e.2.2.1),e.2.2.2.1,e.2.2.2.2.1,e.2.2.2.2.2.1,e.2.2.2.2.2.2.1,e.2.2.2.2.2.2.2.1),e.2.2.2.2.2.2.2.2)))) ((20:Int),d.1,d.2.1.1.1,d.2.1.1.2,d.2.1.2.1,d.2.1.2.2.1,d.2.1.2.2.2.1,d.2.1.2.2.2.2.1,d.2.1.2.2.2.2.2,d.2.2))) ((0:Int),(20:Int),g,mm.1.1.1,mm.1.1.2,mm.1.2.1,mm.1.2.2.1,mm.1.2.2.2.1,mm.1.2.2.2.2.1,mm.1.2.2.2.2.2,mm.2)
def Ī (a:Val af) (b:Int) (mm:Val Â):Option (((Val af))×(Val Â)):=iE a b mm some
def AF (a:Val af) (y:Val aj) (b:Val af→Option ρ):Option ρ :=
  ç (î ((List.length a)+(List.length ([y])))) (b (a++([y])))
def tP (c:Int) (d:Int) (e:Int) (f:Val ag) (g:Val ab) (h:Val ah) (i:Val ac) (j:Val ab) (k:Val ai) (b:Val af) (a:Int) (l:Int→Option ρ) (m:Int→Option ρ) (n:Unit→Option ρ):Option ρ :=
  ifb (ilt a c) (ç ((ile 0 a)&&(ilt a (ñ b))) (Ľ b (Int.toNat a) fun o=>Ä (ţ (((d,e),f,g,h,i,j),k) o) fun p=>ifb (!p) (m a) (ck (a+(1:Int)) fun q=>l q))) (n ())
def lL (f:Int) (g:Int) (h:Val ag) (i:Val ab) (j:Val ah) (k:Val ac) (l:Val ab) (m:Val ai) (b:Int) (c:Int) (a:Val af) (d:Int→Int→Val af→Option ρ) (n:Val aB→Option ρ):Option ρ :=
  ifb (ilt c (Ø a)) (ç ((ile 0 c)&&(ilt c (ñ a))) (Ľ a (Int.toNat c) fun e=>Ä (ţ (((f,g),h,i,j,k,l),m) e) fun o=>ifb (!(!o)) (ç ((ile 0 b)&&(ilt b (ñ a))) (Ľ a (Int.toNat b) fun s=>ck (b+(1:Int)) fun p=>ck (c+(1:Int)) fun q=>d p q (List.set a (Int.toNat b) e))) (ck (c+(1:Int)) fun r=>d b r a))) (n (b,a))
def Pd (b:Val Â) (k:Val af→Option ρ):Option ρ :=
  Ä (lW b.2) fun g=>xn (fun(h:Val af) (i:Val aj) j=>AF h i (fun l=>j l)) g ([]) (fun f=>Ä (Ī f (Ø f) b) fun c=>Ê (fun(m:Int) n=>tP (Ø c.1) b.1.1.1 b.1.1.2 b.1.2.1 b.1.2.2.1 b.1.2.2.2.1 b.1.2.2.2.2.1 b.1.2.2.2.2.2 b.2 c.1 m (fun o=>n o) (fun d=>ifb (ieq d (-1:Int)) (k c.1) (ck (d+(1:Int)) fun p=>Ê (fun(e:(Val (.pair tI aB))) q=>lL b.1.1.1 b.1.1.2 b.1.2.1 b.1.2.2.1 b.1.2.2.2.1 b.1.2.2.2.2.1 b.1.2.2.2.2.2 b.2 e.1 e.2.1 e.2.2 (fun r s t=>q (r,s,t)) (fun a=>ç ((ile 0 a.1)&&(ile a.1 (ñ a.2))) (ç ((ile 0 a.1)&&(ile a.1 (ñ (List.take (Int.toNat a.1) a.2++List.replicate (List.length a.2-(Int.toNat a.1)) ([])++List.drop ((Int.toNat a.1)+(List.length a.2-(Int.toNat a.1))) a.2)))) (k (List.take (Int.toNat a.1) (List.drop 0 (List.take (Int.toNat a.1) a.2++List.replicate (List.length a.2-(Int.toNat a.1)) ([])++List.drop ((Int.toNat a.1)+(List.length a.2-(Int.toNat a.1))) a.2))))))) (d,p,c.1))) (fun _=>k c.1)) (0:Int))
def DA (a:Val Â):Option ((Val af)):=Pd a some
def Vm (a:Val Â) (k:(Val (.pair af tI))→Option ρ):Option ρ :=
  Ä (ο a) fun b=>ifb (ine b 0) (k ([],b)) (Ä (DA a) fun c=>k (c,(0:Int)))
def KE (a:Val Â):Option ((Val (.pair af tI))):=Vm a some
def Ar (a:Val af) (y:Val aj) (b:Val af→Option ρ):Option ρ :=
  ç (î ((List.length a)+(List.length ([y])))) (b (a++([y])))
def O5 (a:Val Â) (k:Val af→Option ρ):Option ρ :=
  Ä (lW a.2) fun c=>xn (fun(d:Val af) (e:Val aj) f=>Ar d e (fun g=>f g)) c ([]) (fun b=>Ä (Ī b (Ø b) a) fun h=>k h.1)
def qT (a:Val Â):Option ((Val af)):=O5 a some
def jF (c:Val af) (d:Int) (e:Int) (f:Int) (g:Val ag) (h:Val ab) (i:Val ah) (j:Val ac) (k:Val ab) (l:Val ai) (a:Int) (m:Int→Option ρ) (n:(Val (.pair aj .bool))→Option ρ) (o:Unit→Option ρ):Option ρ :=
  ifb (ilt a d) (ğ c a fun b=>Ä (ţ (((e,f),g,h,i,j,k),l) b) fun p=>ifb p (n (b,true)) (ck (a+(1:Int)) fun q=>m q)) (o ())
def tQ (a:Val Â) (k:(Val (.pair aj .bool))→Option ρ):Option ρ :=
  Ä (qT a) fun b=>Ê (fun(d:Int) e=>jF b (Ø b) a.1.1.1 a.1.1.2 a.1.2.1 a.1.2.2.1 a.1.2.2.2.1 a.1.2.2.2.2.1 a.1.2.2.2.2.2 a.2 d (fun f=>e f) (fun c=>k (c.1,c.2)) (fun _=>k ([],false))) (0:Int)
def ú (a:Val Â):Option ((Val (.pair aj .bool))):=tQ a some
def Je (a:Val Â) (k:(Val (.pair aj tI))→Option ρ):Option ρ :=
  Ä (ο a) fun b=>ifb (ine b 0) (k ([],b)) (Ä (ú a) fun c=>ifb (!c.2) (k ([],(5:Int))) (k (c.1,(0:Int))))
def DD (a:Val Â):Option ((Val (.pair aj tI))):=Je a some
def jH (b:Val aa) (c:Val aa) (a:Int) (d:Int→Option ρ) (e:Bool→Option ρ) (f:Unit→Option ρ):Option ρ :=
  ifb (ilt a (Ø b)) (ğ b a fun g=>ğ c a fun h=>ifb (ine g h) (e false) (ck (a+(1:Int)) fun i=>d i)) (f ())
def tZ (a:Val aa) (b:Val aa) (k:Bool→Option ρ):Option ρ :=
  ifb (ine (Ø a) (Ø b)) (k false) (Ê (fun(c:Int) d=>jH a b c (fun e=>d e) (fun f=>k f) (fun _=>k true)) (0:Int))
def i7 (a:Val aa) (b:Val aa):Option (Bool):=tZ a b some
def kE (b:Val aj) (c:Val aj) (a:Int) (d:Int→Option ρ) (e:Bool→Option ρ) (f:Unit→Option ρ):Option ρ :=
  ifb (ilt a (Ø b)) (ğ b a fun g=>ğ c a fun h=>Ä (i7 g h) fun i=>ifb (!i) (e false) (ck (a+(1:Int)) fun j=>d j)) (f ())
def wL (a:Val aj) (b:Val aj) (k:Bool→Option ρ):Option ρ :=
  ifb (ine (Ø a) (Ø b)) (k false) (Ê (fun(c:Int) d=>kE a b c (fun e=>d e) (fun f=>k f) (fun _=>k true)) (0:Int))
def nf (a:Val aj) (b:Val aj):Option (Bool):=wL a b some
def qm (b:Val ag) (c:Int) (d:Int) (a:Int) (e:Int→Option ρ) (f:Int→Option ρ) (g:Unit→Option ρ):Option ρ :=
  ifb (ilt a c) (ğ b a fun h=>ifb (ieq h.1 d) (f a) (ck (a+(1:Int)) fun i=>e i)) (g ())
def IM (a:Val Â) (c:Int) (b:Int) (k:Int→Option ρ):Option ρ :=
  ifb (ilt b 0) (k (1:Int)) (ifb (igt b 20000) (k (1:Int)) (Ê (fun(d:Int) e=>qm a.1.2.1 (Ø a.1.2.1) c d (fun f=>e f) (fun g=>ifb (!(ige g 0)) (k (5:Int)) (k (0:Int))) (fun _=>k (5:Int))) (0:Int)))
def ta (a:Val Â) (b:Int) (c:Int):Option (Int):=IM a b c some
def E8 (a:Val aa) (b:Val aa) (k:(Val (.pair aa ay))→Option ρ):Option ρ :=
  Ä (lZ a) fun c=>ifb (!c) (k ([],[],(1:Int))) (Ä (lZ b) fun d=>ifb (!d) (k ([],[],(1:Int))) (Ä (Β a b) fun e=>Ä (Β b a) fun f=>k (e,f,(0:Int))))
def oE (a:Val aa) (b:Val aa):Option ((Val (.pair aa ay))):=E8 a b some
def jG (g:Int) (b:Int) (c:Val ac) (a:Int) (d:Int→Option ρ) (h:Int→Option ρ) (i:Unit→Option ρ):Option ρ :=
  ifb (ilt a g) (ç ((ile 0 a)&&(ilt a (ñ c))) (Ľ c (Int.toNat a) fun e=>Ä (oE e.2.2.1 e.2.2.2.1) fun f=>Ä (Þ f.1 b) fun j=>ifb j (ck (a+(1:Int)) fun k=>d k) (Ä (Þ f.2.1 b) fun l=>ifb (!l) (h a) (ck (a+(1:Int)) fun m=>d m)))) (i ())
def Ÿ (f:Int) (a:Int) (c:Int) (b:Val ac) (e:Int→Int→Val ac→Option ρ) (h:Val aT→Option ρ):Option ρ :=
  ifb (ilt c (Ø b)) (ç ((ile 0 c)&&(ilt c (ñ b))) (Ľ b (Int.toNat c) fun d=>Ä (oE d.2.2.1 d.2.2.2.1) fun g=>Ä (Þ g.1 f) fun i=>ifb i (ç ((ile 0 a)&&(ilt a (ñ b))) (Ľ b (Int.toNat a) fun p=>ck (a+(1:Int)) fun j=>ck (c+(1:Int)) fun k=>e j k (List.set b (Int.toNat a) d))) (Ä (Þ g.2.1 f) fun l=>ifb (!(!l)) (ç ((ile 0 a)&&(ilt a (ñ b))) (Ľ b (Int.toNat a) fun q=>ck (a+(1:Int)) fun m=>ck (c+(1:Int)) fun n=>e m n (List.set b (Int.toNat a) d))) (ck (c+(1:Int)) fun o=>e a o b)))) (h (a,b))
def tR (b:Val Â) (c:Int) (k:Val aH→Option ρ):Option ρ :=
  Ä (ο b) fun f=>ifb (ine f 0) (k (false,f)) (Ä (ta b c (0:Int)) fun g=>ifb (ine g 0) (k (false,g)) (ç (î (List.length b.1.2.2.2.2.1)) (Ê (fun(h:Int) i=>jG (Ø b.1.2.2.2.2.1) c b.1.2.2.2.2.1 h (fun j=>i j) (fun d=>ifb (ieq d (-1:Int)) (Ä (ú b) fun l=>k ((!l.2),(0:Int))) (ck (d+(1:Int)) fun m=>Ê (fun(e:(Val (.pair tI aT))) n=>Ÿ c e.1 e.2.1 e.2.2 (fun o p q=>n (o,p,q)) (fun a=>ç ((ile 0 a.1)&&(ile a.1 (ñ a.2))) (ç ((ile 0 a.1)&&(ile a.1 (ñ (List.take (Int.toNat a.1) a.2++List.replicate (List.length a.2-(Int.toNat a.1)) ((0:Int),(0:Int),[],[],(0:Int),(0:Int),(0:Int),(0:Int))++List.drop ((Int.toNat a.1)+(List.length a.2-(Int.toNat a.1))) a.2)))) (Ä (ú ((b.1.1,b.1.2.1,b.1.2.2.1,b.1.2.2.2.1,(List.take (Int.toNat a.1) (List.drop 0 (List.take (Int.toNat a.1) a.2++List.replicate (List.length a.2-(Int.toNat a.1)) ((0:Int),(0:Int),[],[],(0:Int),(0:Int),(0:Int),(0:Int))++List.drop ((Int.toNat a.1)+(List.length a.2-(Int.toNat a.1))) a.2))),b.1.2.2.2.2.2),b.2)) fun r=>k ((!r.2),(0:Int)))))) (d,m,b.1.2.2.2.2.1))) (fun _=>Ä (ú b) fun s=>k ((!s.2),(0:Int)))) (0:Int))))
def og (a:Val Â) (b:Int):Option ((Val aH)):=tR a b some
def tO (c:Int) (d:Val aa) (b:Val ac) (a:Int) (e:Int→Option ρ) (f:Int→Option ρ) (g:Unit→Option ρ):Option ρ :=
  ifb (ilt a c) (ç ((ile 0 a)&&(ilt a (ñ b))) (Ľ b (Int.toNat a) fun h=>Ä (Þ d h.1) fun i=>ifb (!i) (f a) (ck (a+(1:Int)) fun j=>e j))) (g ())
def lK (f:Val aa) (b:Int) (c:Int) (a:Val ac) (d:Int→Int→Val ac→Option ρ) (g:Val aT→Option ρ):Option ρ :=
  ifb (ilt c (Ø a)) (ç ((ile 0 c)&&(ilt c (ñ a))) (Ľ a (Int.toNat c) fun e=>Ä (Þ f e.1) fun h=>ifb (!(!h)) (ç ((ile 0 b)&&(ilt b (ñ a))) (Ľ a (Int.toNat b) fun l=>ck (b+(1:Int)) fun i=>ck (c+(1:Int)) fun j=>d i j (List.set a (Int.toNat b) e))) (ck (c+(1:Int)) fun k=>d b k a))) (g (b,a))
def O6 (b:Val Â) (e:Val aa) (k:Val Â→Option ρ):Option ρ :=
  ç (î (List.length b.1.2.2.2.2.1)) (Ê (fun(f:Int) g=>tO (Ø b.1.2.2.2.2.1) e b.1.2.2.2.2.1 f (fun h=>g h) (fun c=>ifb (ieq c (-1:Int)) (k b) (ck (c+(1:Int)) fun i=>Ê (fun(d:(Val (.pair tI aT))) j=>lK e d.1 d.2.1 d.2.2 (fun l m n=>j (l,m,n)) (fun a=>ç ((ile 0 a.1)&&(ile a.1 (ñ a.2))) (ç ((ile 0 a.1)&&(ile a.1 (ñ (List.take (Int.toNat a.1) a.2++List.replicate (List.length a.2-(Int.toNat a.1)) ((0:Int),(0:Int),[],[],(0:Int),(0:Int),(0:Int),(0:Int))++List.drop ((Int.toNat a.1)+(List.length a.2-(Int.toNat a.1))) a.2)))) (k ((b.1.1,b.1.2.1,b.1.2.2.1,b.1.2.2.2.1,(List.take (Int.toNat a.1) (List.drop 0 (List.take (Int.toNat a.1) a.2++List.replicate (List.length a.2-(Int.toNat a.1)) ((0:Int),(0:Int),[],[],(0:Int),(0:Int),(0:Int),(0:Int))++List.drop ((Int.toNat a.1)+(List.length a.2-(Int.toNat a.1))) a.2))),b.1.2.2.2.2.2),b.2))))) (c,i,b.1.2.2.2.2.1))) (fun _=>k b)) (0:Int))
def yc (a:Val Â) (b:Val aa):Option (Val Â):=O6 a b some
def tT (d:Val ac) (e:Int) (a:Int) (b:Val aa) (f:Int→Val aa→Option ρ) (g:Val aa→Option ρ):Option ρ :=
  ifb (ilt a e) (ğ d a fun c=>ç (î ((List.length b)+(List.length ([c.1])))) (ck (a+(1:Int)) fun h=>f h (b++([c.1])))) (g b)
def oT (f:Int) (g:Int) (h:Val ag) (i:Val ab) (j:Val ah) (k:Val ac) (l:Val ab) (m:Val ai) (b:Val aa) (a:Int) (d:Val aa→Int→Option ρ) (n:Val aa→Option ρ):Option ρ :=
  ifb (ige a 0) (ç ((ile 0 a)&&(ile a (ñ b))) (ck (a+(1:Int)) fun c=>ç ((ile 0 c)&&(ile c (ñ b))) (Ä (ģ ([(List.take (Int.toNat a) b),(List.drop (Int.toNat c) b)])) fun e=>Ä (yc (((f,g),h,i,j,k,l),m) e) fun o=>Ä (ú o) fun p=>ifb (!p.2) (ck (a-(1:Int)) fun q=>d e q) (ck (a-(1:Int)) fun r=>d b r)))) (n b)
def Pq (a:Val Â) (k:Val ay→Option ρ):Option ρ :=
  Ä (ο a) fun b=>ifb (ine b 0) (k ([],b)) (Ä (ú a) fun f=>ifb f.2 (k ([],(5:Int))) (Ê (fun(c:Val ŋ) g=>tT a.1.2.2.2.2.1 (Ø a.1.2.2.2.2.1) c.1 c.2 (fun h i=>g (h,i)) (fun d=>ck ((Ø d)-(1:Int)) fun j=>Ê (fun(e:Val ay) l=>oT a.1.1.1 a.1.1.2 a.1.2.1 a.1.2.2.1 a.1.2.2.2.1 a.1.2.2.2.2.1 a.1.2.2.2.2.2 a.2 e.1 e.2 (fun m n=>l (m,n)) (fun o=>k (o,(0:Int)))) (d,j))) ((0:Int),[])))
def HI (a:Val Â):Option ((Val ay)):=Pq a some
def nY (e:Int) (f:Val aa) (g:Int) (a:Int) (b:Val aa) (c:Int→Val aa→Option ρ) (h:Val aa→Option ρ):Option ρ :=
  ifb (ilt a g) (ğ f a fun d=>ç (ile 0 a) (ifb (ieq (andI .i64 (gK .i64 e a) (1:Int)) 1) (ç (î ((List.length b)+(List.length ([d])))) (ck (a+(1:Int)) fun i=>c i (b++([d])))) (ck (a+(1:Int)) fun j=>c j b))) (h b)
def Ew (a:Val aa) (c:Int) (k:Val aa→Option ρ):Option ρ :=
  Ê (fun(b:Val ŋ) d=>nY c a (Ø a) b.1 b.2 (fun e f=>d (e,f)) (fun g=>k g)) ((0:Int),[])
def g9 (a:Val aa) (b:Int):Option ((Val aa)):=Ew a b some
def kr (b:Val ac) (c:Int) (d:Int) (a:Int) (e:Int→Option ρ) (f:Int→Option ρ) (g:Unit→Option ρ):Option ρ :=
  ifb (ilt a c) (ğ b a fun h=>ifb (ieq h.1 d) (f a) (ck (a+(1:Int)) fun i=>e i)) (g ())
def ε (d:Val aa) (e:Int) (b:Val ac) (a:Int) (f:Int→Option ρ) (c:Int→Option ρ) (g:Unit→Option ρ):Option ρ :=
  ifb (ilt a e) (ğ d a fun h=>Ê (fun(i:Int) j=>kr b (Ø b) h i (fun k=>j k) (fun l=>ifb (!(ige l 0)) (c (5:Int)) (ck (a+(1:Int)) fun m=>f m)) (fun _=>c (5:Int))) (0:Int)) (g ())
def iC (b:Val aa) (a:Int) (c:Int→Option ρ) (d:Int→Option ρ) (e:Unit→Option ρ):Option ρ :=
  ifb (ilt a (Ø b)) (ğ b a fun f=>ck (a-(1:Int)) fun g=>ğ b g fun h=>ifb (ile f h) (d (6:Int)) (ck (a+(1:Int)) fun i=>c i)) (e ())
def iB (c:Val af) (d:Int) (e:Int) (f:Int) (g:Val ag) (h:Val ab) (i:Val ah) (j:Val ac) (k:Val ab) (l:Val ai) (m:Val aa) (n:Int) (a:Int) (o:Int→Option ρ) (p:(Val (.pair aj .bool))→Option ρ) (q:Unit→Option ρ):Option ρ :=
  ifb (ilt a d) (ğ c a fun b=>Ä (g9 m n) fun r=>Ä (yc (((e,f),g,h,i,j,k),l) r) fun s=>Ä (ţ s b) fun t=>ifb (!(!t)) (p (b,true)) (ck (a+(1:Int)) fun u=>o u)) (q ())
def Ŭ (b:Val aa) (e:Val aa) (f:Int) (a:Int) (g:Int→Option ρ) (c:Int→Option ρ) (h:Unit→Option ρ):Option ρ :=
  ifb (ilt a f) (ğ e a fun i=>ifb (ige a (Ø b)) (c (1:Int)) (ğ b a fun j=>Ä (ς i j) fun d=>ifb (ine d 0) (c d) (ck (a+(1:Int)) fun k=>g k))) (h ())
def Ŏ (c:Int) (d:Int) (b:Val aa) (a:Int) (e:Int→Option ρ) (f:Unit→Option ρ) (g:Unit→Option ρ):Option ρ :=
  ifb (ilt a d) (ç ((ile 0 a)&&(ilt a (ñ b))) (Ľ b (Int.toNat a) fun h=>ifb (ieq (FC .i64 c h) 0) (f ()) (ck (a+(1:Int)) fun i=>e i))) (g ())
def ō (b:Int) (d:Val af) (e:Int) (f:Val aa) (g:Int) (h:Int) (i:Val ag) (j:Val ab) (k:Val ah) (l:Val ac) (m:Val ab) (n:Val ai) (c:Int) (a:Val aa) (o:Int→Val aa→Option ρ) (p:Val aa→Option ρ) (q:Val aa→Option ρ):Option ρ :=
  ifb (ilt c e) (ğ d c fun r=>Ä (g9 f b) fun s=>Ä (yc (((g,h),i,j,k,l,m),n) s) fun t=>Ä (ţ t r) fun u=>ifb (!(!u)) (ç (î ((List.length a)+(List.length ([b])))) (p (a++([b])))) (ck (c+(1:Int)) fun v=>o v a)) (q a)
def ŭ (g:Val af) (t:Int) (h:Val aa) (i:Int) (j:Int) (k:Val ag) (l:Val ab) (m:Val ah) (n:Val ac) (o:Val ab) (p:Val ai) (c:Val aa) (e:Int) (a:Int) (b:Val aa) (d:Val aa→Int→Int→Val aa→Option ρ) (u:Val ŋ→Option ρ):Option ρ :=
  ifb (ilt a t) (Ä (g9 h a) fun f=>ifb (igt (Ø f) (Ø c)) (ck (a+(1:Int)) fun v=>d c e v b) (ifb (ieq (Ø f) (Ø c)) (Ê (fun(w:Int) x=>Ŭ c f (Ø f) w (fun y=>x y) (fun z=>ifb (ige z 0) (ck (a+(1:Int)) fun A=>d c e A b) (Ê (fun(B:Int) C=>Ŏ a (Ø b) b B (fun D=>C D) (fun _=>ck (a+(1:Int)) fun E=>d c e E b) (fun _=>Ê (fun(q:Val ŋ) F=>ō a g (Ø g) h i j k l m n o p q.1 q.2 (fun G H=>F (G,H)) (fun I=>ck (a+(1:Int)) fun J=>d c e J I) (fun K=>ck (a+(1:Int)) fun L=>d f a L K)) ((0:Int),b))) (0:Int))) (fun _=>ifb (ilt (Ø f) (Ø c)) (Ê (fun(M:Int) N=>Ŏ a (Ø b) b M (fun O=>N O) (fun _=>ck (a+(1:Int)) fun P=>d c e P b) (fun _=>Ê (fun(r:Val ŋ) Q=>ō a g (Ø g) h i j k l m n o p r.1 r.2 (fun R S=>Q (R,S)) (fun T=>ck (a+(1:Int)) fun U=>d c e U T) (fun V=>ck (a+(1:Int)) fun W=>d f a W V)) ((0:Int),b))) (0:Int)) (ck (a+(1:Int)) fun X=>d c e X b))) (0:Int)) (Ê (fun(Y:Int) Z=>Ŏ a (Ø b) b Y (fun cw=>Z cw) (fun _=>ck (a+(1:Int)) fun cz=>d c e cz b) (fun _=>Ê (fun(s:Val ŋ) dc=>ō a g (Ø g) h i j k l m n o p s.1 s.2 (fun df dg=>dc (df,dg)) (fun dh=>ck (a+(1:Int)) fun di=>d c e di dh) (fun dj=>ck (a+(1:Int)) fun dk=>d f a dk dj)) ((0:Int),b))) (0:Int)))) (u (e,b))
def wC (a:Val Â) (b:Val aa) (k:Val ay→Option ρ):Option ρ :=
  Ä (ο a) fun g=>ifb (ine g 0) (k ([],g)) (ifb (igt (Ø b) 8) (k ([],(2:Int))) (Ê (fun(h:Int) i=>ε b (Ø b) a.1.2.2.2.2.1 h (fun j=>i j) (fun l=>k ([],l)) (fun _=>Ê (fun(m:Int) n=>iC b m (fun o=>n o) (fun p=>k ([],p)) (fun _=>Ä (qT a) fun d=>ç (ile 0 (Ø b)) (ck ((shlI .i64 (1:Int) (Ø b))-(1:Int)) fun c=>Ê (fun(q:Int) r=>iB d (Ø d) a.1.1.1 a.1.1.2 a.1.2.1 a.1.2.2.1 a.1.2.2.2.1 a.1.2.2.2.2.1 a.1.2.2.2.2.2 a.2 b c q (fun s=>r s) (fun t=>ifb t.2 (k ([],(5:Int))) (Ê (fun(e:(Val (.pair aa aO))) u=>ŭ d c b a.1.1.1 a.1.1.2 a.1.2.1 a.1.2.2.1 a.1.2.2.2.1 a.1.2.2.2.2.1 a.1.2.2.2.2.2 a.2 e.1 e.2.1 e.2.2.1 e.2.2.2 (fun v w x y=>u (v,w,x,y)) (fun z=>Ä (g9 b z.1) fun A=>k (A,(0:Int)))) (b,c,(0:Int),[]))) (fun _=>Ê (fun(f:(Val (.pair aa aO))) B=>ŭ d c b a.1.1.1 a.1.1.2 a.1.2.1 a.1.2.2.1 a.1.2.2.2.1 a.1.2.2.2.2.1 a.1.2.2.2.2.2 a.2 f.1 f.2.1 f.2.2.1 f.2.2.2 (fun C D E F=>B (C,D,E,F)) (fun G=>Ä (g9 b G.1) fun H=>k (H,(0:Int)))) (b,c,(0:Int),[]))) (0:Int)))) (1:Int))) (0:Int)))
def qU (a:Val Â) (b:Val aa):Option ((Val ay)):=wC a b some
def Ph (a:Val Â) (k:(Val (.pair af tI))→Option ρ):Option ρ :=
  Ä (ο a) fun b=>ifb (ine b 0) (k ([],b)) (Ä (qT a) fun c=>k (c,(0:Int)))
def DB (a:Val Â):Option ((Val (.pair af tI))):=Ph a some
def J6 (a:Val É) (d:Val Ã) (k:Val Ã→Option ρ):Option ρ :=
  Ä (Δ a) fun b=>ifb (ine b 0) (k ((0:Int),b)) (Ä (pu a) fun e=>Ä (ï e d) fun c=>ifb (ilt c 0) (k ((0:Int),(5:Int))) (ck (c+(1:Int)) fun f=>k (f,(0:Int))))
def pv (a:Val É) (b:Val Ã):Option (Val Ã):=J6 a b some
def uG (f:Int) (a:Int) (c:Val ac) (g:Int→Val ac→Option ρ) (h:Val ac→Option ρ):Option ρ :=
  ifb (ilt a f) (ç ((ile 0 a)&&(ilt a (ñ c))) (Ľ c (Int.toNat a) fun d=>ç (î (List.length d.2.2.1)) (ç (î (List.length d.2.2.2.1)) (ç ((ile 0 a)&&(ilt a (ñ c))) (Ľ c (Int.toNat a) fun b=>ç ((ile 0 a)&&(ilt a (ñ (List.set c (Int.toNat a) (b.1,b.2.1,d.2.2.1,b.2.2.2))))) (Ľ (List.set c (Int.toNat a) (b.1,b.2.1,d.2.2.1,b.2.2.2)) (Int.toNat a) fun e=>ck (a+(1:Int)) fun i=>g i (List.set (List.set c (Int.toNat a) (b.1,b.2.1,d.2.2.1,b.2.2.2)) (Int.toNat a) (e.1,e.2.1,e.2.2.1,d.2.2.2.1,e.2.2.2.2)))))))) (h c)
def Qe (a:Val É) (b:Val Ã) (k:(Val (.pair É tI))→Option ρ):Option ρ :=
  Ä (Δ a) fun c=>ifb (ine c 0) (k ((((0:Int),(0:Int)),[],[],[],[],[]),c)) (ç (î (List.length a.2.1)) (ç (î (List.length a.2.2.1)) (ç (î (List.length a.2.2.2.1)) (ç (î (List.length a.2.2.2.2.2)) (ç (î (List.length a.2.2.2.2.1)) (Ê (fun(d:Val aT) g=>uG (Ø a.2.2.2.2.1) d.1 d.2 (fun h i=>g (h,i)) (fun e=>ç (î ((List.length a.2.2.2.2.2)+(List.length ([b])))) (Ä (Δ (a.1,a.2.1,a.2.2.1,a.2.2.2.1,e,(a.2.2.2.2.2++([b])))) fun f=>ifb (ine f 0) (k ((((0:Int),(0:Int)),[],[],[],[],[]),f)) (k ((a.1,a.2.1,a.2.2.1,a.2.2.2.1,e,(a.2.2.2.2.2++([b]))),(0:Int)))))) ((0:Int),a.2.2.2.2.1)))))))
def HM (a:Val É) (b:Val Ã):Option ((Val (.pair É tI))):=Qe a b some
def qz (b:Val aa) (c:Int) (d:Int) (e:Val ak) (a:Int) (f:Int→Option ρ) (g:Int→Option ρ) (h:Unit→Option ρ):Option ρ :=
  ifb (ilt a c) (ğ b a fun i=>Ä (yf (d,e) i) fun j=>ifb (!j) (g (1:Int)) (ck (a+(1:Int)) fun k=>f k)) (h ())
def Jq (a:Val Ì) (b:Val aa) (k:Int→Option ρ):Option ρ :=
  Ä (pq a) fun c=>ifb (ine c.1 0) (k c.1) (Ê (fun(d:Int) e=>qz b (Ø b) a.1 a.2 d (fun f=>e f) (fun g=>k g) (fun _=>Ä (jX a ([])) fun h=>ifb (!h.2) (k (9:Int)) (k (0:Int)))) (0:Int))
def DF (a:Val Ì) (b:Val aa):Option (Int):=Jq a b some
def ob (c:Int) (a:Int) (b:Val aa) (d:Int→Val aa→Option ρ) (e:Val aa→Option ρ):Option ρ :=
  ifb (ilt a c) (ç ((ile 0 a)&&(ilt a (ñ b))) (Ľ b (Int.toNat a) fun g=>ck (a+(1:Int)) fun f=>d f (List.set b (Int.toNat a) (1152921504606846976:Int)))) (e b)
def ug (c:Val ak) (d:Int) (b:Int) (a:Int) (e:Int→Int→Option ρ) (f:Int→Option ρ):Option ρ :=
  ifb (ilt a d) (ğ c a fun g=>ck (b+(XD g.2.2 (0:Int))) fun h=>ck (a+(1:Int)) fun i=>e h i) (f b)
def ue (f:Int) (d:Val aa) (a:Int) (b:Val aq) (c:Val aa) (e:Int→Val aq→Val aa→Option ρ) (g:Val aK→Option ρ):Option ρ :=
  ifb (ilt a f) (ç ((ile 0 a)&&(ilt a (ñ d))) (Ľ d (Int.toNat a) fun h=>ifb (ine h 1152921504606846976) (ç (î ((List.length c)+(List.length ([a])))) (ç ((ile 0 a)&&(ilt a (ñ b))) (Ľ b (Int.toNat a) fun k=>ck (a+(1:Int)) fun i=>e i (List.set b (Int.toNat a) true) (c++([a]))))) (ck (a+(1:Int)) fun j=>e j b c))) (g (b,c))
def CE (m:Val ao) (j:Int) (d:Int) (n:Val ak) (o:Int) (f:Int) (b:Val aa) (c:Val aq) (e:Val aa) (g:Int→Val aa→Val aq→Val aa→Option ρ) (l:(Val (.pair .bool (.pair aa aK)))→Option ρ) (p:(Val (.pair aa aK))→Option ρ):Option ρ :=
  ifb (ilt f o) (ğ n f fun a=>ifb (ine a.1 d) (ck (f+(1:Int)) fun q=>g q b c e) (Lq (k:=tI) (v:=.bool) f m (fun r=>ifb r (ck (f+(1:Int)) fun s=>g s b c e) (ç ((ile 0 d)&&(ilt d (ñ b))) (Ľ b (Int.toNat d) fun t=>ck (t+a.2.2) fun u=>ç ((ile 0 a.2.1)&&(ilt a.2.1 (ñ b))) (Ľ b (Int.toNat a.2.1) fun w=>ifb (ige u w) (ck (f+(1:Int)) fun x=>g x b c e) (ç ((ile 0 d)&&(ilt d (ñ b))) (Ľ b (Int.toNat d) fun y=>ck (y+a.2.2) fun h=>ç ((ile 0 a.2.1)&&(ilt a.2.1 (ñ b))) (Ľ b (Int.toNat a.2.1) fun M=>ç ((ile 0 a.2.1)&&(ilt a.2.1 (ñ (List.set b (Int.toNat a.2.1) h)))) (Ľ (List.set b (Int.toNat a.2.1) h) (Int.toNat a.2.1) fun z=>ifb (ilt z j) (l (false,(List.set b (Int.toNat a.2.1) h),c,e)) (ç ((ile 0 a.2.1)&&(ilt a.2.1 (ñ c))) (Ľ c (Int.toNat a.2.1) fun A=>ifb (!A) (ç (î ((List.length e)+(List.length ([a.2.1])))) (ç ((ile 0 a.2.1)&&(ilt a.2.1 (ñ c))) (Ľ c (Int.toNat a.2.1) fun N=>ck (f+(1:Int)) fun B=>g B (List.set b (Int.toNat a.2.1) h) (List.set c (Int.toNat a.2.1) true) (e++([a.2.1]))))) (ck (f+(1:Int)) fun C=>g C (List.set b (Int.toNat a.2.1) h) c e))))))))))) (ç ((ile 0 d)&&(ilt d (ñ b))) (Ľ b (Int.toNat d) fun D=>ck (D+a.2.2) fun E=>ç ((ile 0 a.2.1)&&(ilt a.2.1 (ñ b))) (Ľ b (Int.toNat a.2.1) fun F=>ifb (ige E F) (ck (f+(1:Int)) fun G=>g G b c e) (ç ((ile 0 d)&&(ilt d (ñ b))) (Ľ b (Int.toNat d) fun H=>ck (H+a.2.2) fun i=>ç ((ile 0 a.2.1)&&(ilt a.2.1 (ñ b))) (Ľ b (Int.toNat a.2.1) fun O=>ç ((ile 0 a.2.1)&&(ilt a.2.1 (ñ (List.set b (Int.toNat a.2.1) i)))) (Ľ (List.set b (Int.toNat a.2.1) i) (Int.toNat a.2.1) fun I=>ifb (ilt I j) (l (false,(List.set b (Int.toNat a.2.1) i),c,e)) (ç ((ile 0 a.2.1)&&(ilt a.2.1 (ñ c))) (Ľ c (Int.toNat a.2.1) fun J=>ifb (!J) (ç (î ((List.length e)+(List.length ([a.2.1])))) (ç ((ile 0 a.2.1)&&(ilt a.2.1 (ñ c))) (Ľ c (Int.toNat a.2.1) fun P=>ck (f+(1:Int)) fun K=>g K (List.set b (Int.toNat a.2.1) i) (List.set c (Int.toNat a.2.1) true) (e++([a.2.1]))))) (ck (f+(1:Int)) fun L=>g L (List.set b (Int.toNat a.2.1) i) c e)))))))))))) (p (b,c,e))
def ud (l:Val ao) (m:Int) (n:Int) (k:Val ak) (h:Val aa) (d:Val aq) (b:Val aa) (c:Val aa) (o:Val aa→Val aq→Val aa→Val aa→Option ρ) (i:(Val (.pair .bool aL))→Option ρ):Option ρ :=
  ifb (ieq (Ø c) 0) (i (true,h,d,b,c)) (ç (ilt 0 (ñ c)) (Ľ c 0 fun a=>ç (ile 1 (ñ c)) (ç (decide (1+(List.length c-1)=List.length c)) (ç ((ile 0 a)&&(ilt a (ñ d))) (Ľ d (Int.toNat a) fun x=>ç ((ile 0 a)&&(ilt a (ñ b))) (Ľ b (Int.toNat a) fun p=>ck (p+(1:Int)) fun e=>ç ((ile 0 a)&&(ilt a (ñ b))) (Ľ b (Int.toNat a) fun y=>ç ((ile 0 a)&&(ilt a (ñ (List.set b (Int.toNat a) e)))) (Ľ (List.set b (Int.toNat a) e) (Int.toNat a) fun q=>ck (n+(1:Int)) fun r=>ifb (igt q r) (i (false,h,(List.set d (Int.toNat a) false),(List.set b (Int.toNat a) e),(List.drop 1 c))) (Ê (fun(f:(Val (.pair tI (.pair aa aK)))) s=>CE l m a k (Ø k) f.1 f.2.1 f.2.2.1 f.2.2.2 (fun t u v w=>s (t,u,v,w)) (fun g=>i (g.1,g.2.1,g.2.2.1,(List.set b (Int.toNat a) e),g.2.2.2)) (fun j=>o j.1 j.2.1 (List.set b (Int.toNat a) e) j.2.2)) ((0:Int),h,(List.set d (Int.toNat a) false),(List.drop 1 c)))))))))))
def EL (a:Val Ì) (i:Val ao) (b:Int) (k:Val aa→Option ρ):Option ρ :=
  ç ((ile 0 a.1)&&(î (Int.toNat a.1))) (Ê (fun(f:Val ŋ) j=>ob (Ø (List.replicate (Int.toNat a.1) (0:Int))) f.1 f.2 (fun l m=>j (l,m)) (fun c=>ç ((ile 0 b)&&(ilt b (ñ c))) (Ľ c (Int.toNat b) fun B=>ç ((ile 0 a.1)&&(î (Int.toNat a.1))) (ç ((ile 0 a.1)&&(î (Int.toNat a.1))) (Ê (fun(g:Val Ã) n=>ug a.2 (Ø a.2) g.1 g.2 (fun o p=>n (o,p)) (fun q=>Ê (fun(e:(Val (.pair tI aK))) r=>ue a.1 (List.set c (Int.toNat b) (0:Int)) e.1 e.2.1 e.2.2 (fun s t u=>r (s,t,u)) (fun h=>Ê (fun(d:Val aL) v=>ud i q a.1 a.2 d.1 d.2.1 d.2.2.1 d.2.2.2 (fun w x y z=>v (w,x,y,z)) (fun A=>k A.2.1)) ((List.set c (Int.toNat b) (0:Int)),h.1,(List.replicate (Int.toNat a.1) (0:Int)),h.2))) ((0:Int),(List.replicate (Int.toNat a.1) false),[]))) ((0:Int),(0:Int))))))) ((0:Int),(List.replicate (Int.toNat a.1) (0:Int))))
def td (a:Val Ì) (b:Val ao) (c:Int):Option ((Val aa)):=EL a b c some
def qB (c:Int) (d:Int) (e:Val ak) (a:Int) (b:Val aa) (f:Int→Val aa→Option ρ) (g:Val aa→Option ρ):Option ρ :=
  ifb (ilt a c) (Ä (td (d,e) ([]) a) fun h=>ğ h (0:Int) fun i=>ç ((ile 0 a)&&(ilt a (ñ b))) (Ľ b (Int.toNat a) fun k=>ck (a+(1:Int)) fun j=>f j (List.set b (Int.toNat a) i))) (g b)
def qA (f:Val aa) (g:Int) (c:Val aa) (a:Int) (b:Val ab) (h:Int→Val ab→Option ρ) (i:Val ab→Option ρ):Option ρ :=
  ifb (ilt a g) (ç ((ile 0 a)&&(ilt a (ñ c))) (Ľ c (Int.toNat a) fun j=>ck (0-j) fun d=>ğ f a fun e=>ç (î ((List.length b)+(List.length ([(d,e)])))) (ck (a+(1:Int)) fun k=>h k (b++([(d,e)]))))) (i b)
def Jt (a:Val Ì) (k:Val bc→Option ρ):Option ρ :=
  Ä (DF a ([])) fun b=>ifb (ine b 0) (k ([],b)) (Ä (td a ([]) (0:Int)) fun c=>ç ((ile 0 a.1)&&(î (Int.toNat a.1))) (Ê (fun(d:Val ŋ) f=>qB (Ø (List.replicate (Int.toNat a.1) (0:Int))) a.1 a.2 d.1 d.2 (fun g h=>f (g,h)) (fun i=>Ê (fun(e:Val aY) j=>qA c (Ø c) i e.1 e.2 (fun l m=>j (l,m)) (fun n=>k (n,(0:Int)))) ((0:Int),[]))) ((0:Int),(List.replicate (Int.toNat a.1) (0:Int)))))
def tf (a:Val Ì):Option ((Val bc)):=Jt a some
def Er (a:Val É) (b:Val Ã) (k:Val Bs→Option ρ):Option ρ :=
  Ä (pv a b) fun f=>ifb (ine f.2 0) (Ä (HM a b) fun c=>ifb (ine c.2 0) (k (((0:Int),(0:Int)),c.2)) (Ä (pv c.1 b) fun g=>Ä (ic c.1) fun h=>Ä (tf h.1) fun d=>ifb (ine d.2 0) (k (((0:Int),(0:Int)),d.2)) (ğ d.1 g.1 fun i=>k (i,(0:Int))))) (Ä (pv a b) fun j=>Ä (ic a) fun l=>Ä (tf l.1) fun e=>ifb (ine e.2 0) (k (((0:Int),(0:Int)),e.2)) (ğ e.1 j.1 fun m=>k (m,(0:Int))))
def yd (a:Val É) (b:Val Ã):Option (Val Bs):=Er a b some
def oa (r:Int) (e:Int) (s:Val af) (t:Int) (f:Int) (g:Int) (h:Val ag) (i:Val ab) (j:Val ah) (l:Val ac) (m:Val ab) (n:Val ai) (c:Int) (a:Val aP) (o:Int→Val aP→Option ρ) (u:(Val (.pair tI aP))→Option ρ) (w:Val aP→Option ρ):Option ρ :=
  ifb (ilt c t) (ğ s c fun p=>Ä (rJ (((f,g),h,i,j,l,m),n) p r e) fun d=>Ä (Α (((f,g),h,i,j,l,m),n) p) fun x=>Ä (yd x (d,e)) fun b=>ifb (ine b.2 0) (u (b.2,a)) (Lq (k:=tI) (v:=Ã) d a (fun q=>ck (c+(1:Int)) fun y=>o y (Ny (k:=tI) (v:=Ã) d ((XD b.1.1 q.1),(VX b.1.2 q.2)) a)) (ck (c+(1:Int)) fun z=>o z (Ny (k:=tI) (v:=Ã) d b.1 a)))) (w a)
def nZ (f:Val ag) (g:Int) (h:Val aP) (a:Int) (b:Val ak) (d:Int→Val ak→Option ρ) (i:Val ak→Option ρ):Option ρ :=
  ifb (ilt a g) (ğ f a fun c=>Lq (k:=tI) (v:=Ã) c.1 h (fun e=>ç (î ((List.length b)+(List.length ([(c.1,e)])))) (ck (a+(1:Int)) fun j=>d j (b++([(c.1,e)])))) (ck (a+(1:Int)) fun l=>d l b)) (i b)
def EB (a:Val Â) (c:Int) (d:Int) (k:(Val (.pair ak tI))→Option ρ):Option ρ :=
  Ä (ο a) fun e=>ifb (ine e 0) (k ([],e)) (Ä (ta a c d) fun f=>ifb (ine f 0) (k ([],f)) (Ä (DA a) fun b=>ifb (ieq (Ø b) 0) (k ([],(5:Int))) (Ê (fun(g:(Val (.pair tI aP))) i=>oa c d b (Ø b) a.1.1.1 a.1.1.2 a.1.2.1 a.1.2.2.1 a.1.2.2.2.1 a.1.2.2.2.2.1 a.1.2.2.2.2.2 a.2 g.1 g.2 (fun j l=>i (j,l)) (fun m=>k ([],m.1)) (fun n=>Ê (fun(h:Val Ì) o=>nZ a.1.2.1 (Ø a.1.2.1) n h.1 h.2 (fun p q=>o (p,q)) (fun r=>k (r,(0:Int)))) ((0:Int),[]))) ((0:Int),[]))))
def ye (a:Val Â) (b:Int) (c:Int):Option ((Val (.pair ak tI))):=EB a b c some
def wq (a:Val aa) (y:Int) (b:Val aa→Option ρ):Option ρ :=
  ç (î ((List.length a)+(List.length ([y])))) (b (a++([y])))
def qn (h:Val aj) (i:Int) (j:Val ai) (c:Int) (k:Int→Option ρ) (d:Bool→Option ρ) (l:Unit→Option ρ):Option ρ :=
  ifb (ilt c i) (ğ h c fun e=>ğ j c fun f=>ifb (ine (Ø e) (Ø f.2)) (d false) (Ä (xX e) fun m=>xn (fun(n:Val aa) (o:Int) p=>wq n o (fun q=>p q)) m ([]) (fun g=>ç (î (List.length g)) (Ä (Dx (vI g)) fun a=>Ä (Dx f.2) fun b=>ifb (!((zV a.1 b.1)&&((zV a.2.1 b.2.1)&&((zV a.2.2.1 b.2.2.1)&&((zV a.2.2.2.1 b.2.2.2.1)&&((zV a.2.2.2.2 b.2.2.2.2)&&true)))))) (d false) (ck (c+(1:Int)) fun r=>k r))))) (l ())
def IW (b:Val Â) (a:Val aj) (k:Bool→Option ρ):Option ρ :=
  ifb (ine (Ø a) (Ø b.2)) (k false) (Ê (fun(c:Int) d=>qn a (Ø a) b.2 c (fun e=>d e) (fun f=>k f) (fun _=>k true)) (0:Int))
def Dy (a:Val Â) (b:Val aj):Option (Bool):=IW a b some
def I9 (a:Val Â) (c:Val aj) (k:Int→Option ρ):Option ρ :=
  Ä (ο a) fun b=>ifb (ine b 0) (k b) (Ä (Dy a c) fun d=>ifb (!d) (k (1:Int)) (k (0:Int)))
def tc (a:Val Â) (b:Val aj):Option (Int):=I9 a b some
def Vh (a:Val Â) (b:Val aj) (c:Int) (d:Int) (k:Val Ã→Option ρ):Option ρ :=
  Ä (tc a b) fun e=>ifb (ine e 0) (k ((0:Int),e)) (Ä (ta a c d) fun f=>ifb (ine f 0) (k ((0:Int),f)) (Ä (rJ a b c d) fun g=>k (g,(0:Int))))
def QB (a:Val Â) (b:Val aj) (c:Int) (d:Int):Option (Val Ã):=Vh a b c d some
def xQ (c:Int) (a:Int) (b:Val aa) (d:Int→Val aa→Option ρ) (e:Val aa→Option ρ):Option ρ :=
  ifb (ilt a c) (ç ((ile 0 a)&&(ilt a (ñ b))) (Ľ b (Int.toNat a) fun g=>ck (a+(1:Int)) fun f=>d f (List.set b (Int.toNat a) (1152921504606846976:Int)))) (e b)
def Px (c:Int) (a:Int) (b:Val aa) (d:Int→Val aa→Option ρ) (e:Val aa→Option ρ):Option ρ :=
  ifb (ilt a c) (ç ((ile 0 a)&&(ilt a (ñ b))) (Ľ b (Int.toNat a) fun g=>ck (a+(1:Int)) fun f=>d f (List.set b (Int.toNat a) (1152921504606846976:Int)))) (e b)
def CD (d:Val aa) (f:Val ak) (g:Int) (c:Int) (b:Val aa) (e:Int→Val aa→Option ρ) (h:Val aa→Option ρ):Option ρ :=
  ifb (ilt c g) (ğ f c fun a=>ğ d a.2.1 fun i=>ifb (ine i 1152921504606846976) (ç ((ile 0 a.1)&&(ilt a.1 (ñ b))) (Ľ b (Int.toNat a.1) fun j=>ğ d a.2.1 fun k=>ck (a.2.2+k) fun l=>ç ((ile 0 a.1)&&(ilt a.1 (ñ b))) (Ľ b (Int.toNat a.1) fun o=>ck (c+(1:Int)) fun m=>e m (List.set b (Int.toNat a.1) (XD j l))))) (ck (c+(1:Int)) fun n=>e n b)) (h b)
def Hz (i:Int) (b:Int) (d:Val ak) (e:Int) (a:Val aj) (j:Int→Val aj→Option ρ) (k:Val aj→Option ρ):Option ρ :=
  ifb (ilt e i) (ck ((Ø a)-(1:Int)) fun c=>ç ((ile 0 c)&&(ilt c (ñ a))) (Ľ a (Int.toNat c) fun l=>ç ((ile 0 b)&&(î (Int.toNat b))) (Ê (fun(f:Val ŋ) m=>Px (Ø (List.replicate (Int.toNat b) (0:Int))) f.1 f.2 (fun n o=>m (n,o)) (fun p=>Ê (fun(g:Val ŋ) q=>CD l d (Ø d) g.1 g.2 (fun r s=>q (r,s)) (fun h=>ç (î ((List.length a)+(List.length ([h])))) (ck (e+(1:Int)) fun t=>j t (a++([h]))))) ((0:Int),p))) ((0:Int),(List.replicate (Int.toNat b) (0:Int)))))) (k a)
def Jn (a:Val Ì) (b:Int) (f:Int) (k:Val aj→Option ρ):Option ρ :=
  ç ((ile 0 a.1)&&(î (Int.toNat a.1))) (Ê (fun(d:Val ŋ) g=>xQ (Ø (List.replicate (Int.toNat a.1) (0:Int))) d.1 d.2 (fun h i=>g (h,i)) (fun c=>ç ((ile 0 b)&&(ilt b (ñ c))) (Ľ c (Int.toNat b) fun o=>Ê (fun(e:Val ba) j=>Hz f a.1 a.2 e.1 e.2 (fun l m=>j (l,m)) (fun n=>k n)) ((0:Int),[(List.set c (Int.toNat b) (0:Int))])))) ((0:Int),(List.replicate (Int.toNat a.1) (0:Int))))
def DE (a:Val Ì) (b:Int) (c:Int):Option ((Val aj)):=Jn a b c some
def mQ (d:Int) (c:Int) (e:Val ak) (a:Int) (b:Val af) (f:Int→Val af→Option ρ) (g:Val af→Option ρ):Option ρ :=
  ifb (ilt a d) (Ä (DE (c,e) a c) fun h=>ç ((ile 0 a)&&(ilt a (ñ b))) (Ľ b (Int.toNat a) fun j=>ck (a+(1:Int)) fun i=>f i (List.set b (Int.toNat a) h))) (g b)
def F4 (g:Int) (h:Val aj) (j:Val ak) (k:Int) (e:Int) (b:Int) (a:Int) (c:Val aa) (f:Int→Int→Int→Val aa→Option ρ) (i:Val aO→Option ρ):Option ρ :=
  ifb (ilt a k) (ğ j a fun d=>ifb (ieq d.1 e) (ck (g-(1:Int)) fun l=>ğ h l fun m=>ğ m d.2.1 fun n=>ifb (ine n 1152921504606846976) (ck (b+d.2.2) fun o=>ck (g-(1:Int)) fun p=>ğ h p fun q=>ğ q d.2.1 fun r=>ck (o+r) fun s=>ifb (ilt s 0) (ç (î ((List.length c)+(List.length ([a])))) (ck (b+d.2.2) fun t=>i (d.2.1,t,(c++([a]))))) (ck (a+(1:Int)) fun u=>f e b u c)) (ck (a+(1:Int)) fun v=>f e b v c)) (ck (a+(1:Int)) fun w=>f e b w c)) (i (e,b,c))
def wW (f:Val aj) (d:Val ak) (g:Int) (b:Int) (h:Int) (e:Val aa) (i:Int→Int→Int→Val aa→Option ρ) (j:Val aa→Option ρ):Option ρ :=
  ifb (igt b 0) (Ê (fun(a:(Val (.pair tI aO))) k=>F4 b f d (Ø d) a.1 a.2.1 a.2.2.1 a.2.2.2 (fun l m n o=>k (l,m,n,o)) (fun c=>ck (b-(1:Int)) fun p=>i c.1 p c.2.1 c.2.2)) (g,h,(0:Int),e)) (j e)
def mP (e:Int) (h:Val ak) (i:Int) (j:Int) (k:Val ak) (b:Val af) (c:Int) (f:Int→Option ρ) (l:Unit→Option ρ) (m:Val ŋ→Option ρ) (n:Unit→Option ρ):Option ρ :=
  ifb (ilt c i) (ğ h c fun a=>ç ((ile 0 a.1)&&(ilt a.1 (ñ b))) (Ľ b (Int.toNat a.1) fun o=>ck (e-(1:Int)) fun p=>ğ o p fun q=>ğ q a.2.1 fun g=>ifb (ieq g 1152921504606846976) (ck (c+(1:Int)) fun r=>f r) (ck (a.2.2+g) fun s=>ifb (ige s 0) (ck (c+(1:Int)) fun t=>f t) (ifb (igt e j) (l ()) (ç ((ile 0 a.1)&&(ilt a.1 (ñ b))) (Ľ b (Int.toNat a.1) fun u=>Ê (fun(d:(Val (.pair tI aO))) v=>wW u k d.1 d.2.1 d.2.2.1 d.2.2.2 (fun w x y z=>v (w,x,y,z)) (fun A=>m ((0:Int),A))) (a.1,e,(0:Int),[]))))))) (n ())
def qC (d:Int) (a:Val ak) (e:Val af) (b:Int) (f:Int→Option ρ) (g:Unit→Option ρ) (h:Val ŋ→Option ρ):Option ρ :=
  Ê (fun(i:Int) j=>mP b a (Ø a) d a e i (fun k=>j k) (fun _=>g ()) (fun c=>h (c.1,c.2)) (fun _=>ck (b+(1:Int)) fun l=>f l)) (0:Int)
def CH (a:Val Ì) (k:Val ay→Option ρ):Option ρ :=
  Ä (pq a) fun b=>ifb (ine b.1 0) (k ([],b.1)) (Ä (jX a ([])) fun e=>ifb e.2 (k ([],(5:Int))) (ç ((ile 0 a.1)&&(î (Int.toNat a.1))) (Ê (fun(c:Val aB) f=>mQ (Ø (List.replicate (Int.toNat a.1) ([]:Val aj))) a.1 a.2 c.1 c.2 (fun g h=>f (g,h)) (fun i=>Ê (fun(j:Int) l=>qC a.1 a.2 i j (fun m=>l m) (fun _=>k ([],(5:Int))) (fun d=>k (d.2,d.1))) (1:Int))) ((0:Int),(List.replicate (Int.toNat a.1) ([]:Val aj))))))
def ng (a:Val Ì):Option ((Val ay)):=CH a some
def qv (d:Val af) (e:Int) (f:Int) (g:Int) (h:Val ag) (i:Val ab) (j:Val ah) (k:Val ac) (l:Val ab) (m:Val ai) (b:Int) (a:Val aj) (n:Int→Val aj→Option ρ) (o:Val ba→Option ρ) (p:Val aj→Option ρ):Option ρ :=
  ifb (ilt b e) (ğ d b fun q=>Ä (Α (((f,g),h,i,j,k,l),m) q) fun r=>Ä (ic r) fun s=>Ä (ng s.1) fun c=>ifb (ine c.2 0) (o ((5:Int),a)) (ç (î ((List.length a)+(List.length ([c.1])))) (ck (b+(1:Int)) fun t=>n t (a++([c.1]))))) (p a)
def Jc (a:Val Â) (k:(Val (.pair aj tI))→Option ρ):Option ρ :=
  Ä (ο a) fun b=>ifb (ine b 0) (k ([],b)) (Ä (qT a) fun c=>Ê (fun(d:Val ba) e=>qv c (Ø c) a.1.1.1 a.1.1.2 a.1.2.1 a.1.2.2.1 a.1.2.2.2.1 a.1.2.2.2.2.1 a.1.2.2.2.2.2 a.2 d.1 d.2 (fun f g=>e (f,g)) (fun h=>k ([],h.1)) (fun i=>k (i,(0:Int)))) ((0:Int),[]))
def DC (a:Val Â):Option ((Val (.pair aj tI))):=Jc a some
def mg (d:Val aa) (e:Int) (f:Val ak) (a:Int) (g:Int→Option ρ) (b:Int→Option ρ) (h:Unit→Option ρ):Option ρ :=
  ifb (ilt a e) (ğ d a fun c=>ifb (ilt c 0) (b a) (ifb (ige c (Ø f)) (b a) (ck (a+(1:Int)) fun i=>g i))) (h ())
def AM (b:Val Ì) (a:Val aa) (k:Int→Option ρ):Option ρ :=
  ifb (igt (Ø a) 80) (k (2:Int)) (Ê (fun(c:Int) d=>mg a (Ø a) b.2 c (fun e=>d e) (fun f=>ifb (ige f 0) (k (1:Int)) (k (0:Int))) (fun _=>k (0:Int))) (0:Int))
def uO (a:Val Ì) (b:Val aa):Option (Int):=AM a b some
def t7 (e:Val aa) (f:Int) (g:Val ak) (c:Int) (d:Int) (a:Int) (h:Int→Int→Int→Option ρ) (i:(Val (.pair tI (.pair tI .bool)))→Option ρ) (j:Val Ã→Option ρ):Option ρ :=
  ifb (ilt a f) (ğ e a fun k=>ğ g k fun b=>ifb (ine b.1 c) (i ((0:Int),(0:Int),false)) (ck (d+b.2.2) fun l=>ck (a+(1:Int)) fun m=>h b.2.1 l m)) (j (c,d))
def Pv (e:Val Ì) (f:Int) (c:Val aa) (k:(Val (.pair tI (.pair tI .bool)))→Option ρ):Option ρ :=
  Ê (fun(a:Val Ō) g=>t7 c (Ø c) e.2 a.1 a.2.1 a.2.2 (fun h i j=>g (h,i,j)) (fun b=>k (b.1,b.2.1,b.2.2)) (fun d=>k (d.1,d.2,true))) (f,(0:Int),(0:Int))
def HJ (a:Val Ì) (b:Int) (c:Val aa):Option ((Val (.pair tI (.pair tI .bool)))):=Pv a b c some
def rz (a:Val Ì) (b:Val aa) (k:Int→Option ρ):Option ρ :=
  Ä (pq a) fun d=>ifb (ine d.1 0) (k d.1) (Ä (uO a b) fun e=>ifb (ine e 0) (k e) (ifb (ieq (Ø b) 0) (k (8:Int)) (ğ b (0:Int) fun g=>ğ a.2 g fun f=>Ä (HJ a f.1 b) fun c=>ifb (!c.2.2) (k (8:Int)) (ifb (ine c.1 f.1) (k (8:Int)) (ifb (ige c.2.1 0) (k (8:Int)) (k (0:Int)))))))
def ml (a:Val Ì) (b:Val aa):Option (Int):=rz a b some
def iX (b:Val aj) (c:Val af) (d:Int) (e:Int) (f:Int) (g:Val ag) (h:Val ab) (i:Val ah) (j:Val ac) (k:Val ab) (l:Val ai) (a:Int) (m:Int→Option ρ) (n:Int→Option ρ) (o:Unit→Option ρ):Option ρ :=
  ifb (ilt a d) (ğ c a fun p=>Ä (Α (((e,f),g,h,i,j,k),l) p) fun q=>Ä (ic q) fun r=>ğ b a fun s=>Ä (ml r.1 s) fun t=>ifb (ine t 0) (n (8:Int)) (ck (a+(1:Int)) fun u=>m u)) (o ())
def ro (a:Val Â) (c:Val aj) (k:Int→Option ρ):Option ρ :=
  Ä (ο a) fun d=>ifb (ine d 0) (k d) (Ä (qT a) fun b=>ifb (ine (Ø c) (Ø b)) (k (8:Int)) (Ê (fun(e:Int) f=>iX c b (Ø b) a.1.1.1 a.1.1.2 a.1.2.1 a.1.2.2.1 a.1.2.2.2.1 a.1.2.2.2.2.1 a.1.2.2.2.2.2 a.2 e (fun g=>f g) (fun h=>k h) (fun _=>k (0:Int))) (0:Int)))
def jt (a:Val Â) (b:Val aj):Option (Int):=ro a b some
def FV (a:Val ac) (k:Val Â→Option ρ):Option ρ :=
  ç (î ((List.length ([((7:Int),(10:Int),[(1:Int)],[(2:Int)],(-20:Int),(1:Int),(100:Int),(200:Int))]))+(List.length a))) (k ((((0:Int),(2:Int)),[((1:Int),(0:Int),(1000:Int),((-5:Int),(5:Int)),((1:Int),(10:Int)),(1:Int)),((2:Int),(0:Int),(1000:Int),((-50:Int),(50:Int)),((1:Int),(4:Int)),(0:Int)),((3:Int),(0:Int),(1100:Int),((-1:Int),(1:Int)),((0:Int),(1:Int)),(0:Int))],[((1:Int),(10:Int))],[((1:Int),((20:Int),(29:Int)),(3:Int))],(([((7:Int),(10:Int),[(1:Int)],[(2:Int)],(-20:Int),(1:Int),(100:Int),(200:Int))])++a),[]),[((12:Int),[(2:Int),(3:Int)])]))
def Ţ (a:Val ac):Option (Val Â):=FV a some
def Ap (k:Bool→Option ρ):Option ρ :=
  Ä (Ţ ([])) fun m=>Ä (DB m) fun b=>Ä (Ţ ([])) fun n=>Ä (KE n) fun f=>Ä (Ţ ([((8:Int),(15:Int),[(2:Int)],[(1:Int)],(100:Int),(1:Int),(0:Int),(0:Int))])) fun o=>Ä (DD o) fun g=>Ä (Ţ ([((8:Int),(15:Int),[(2:Int)],[(1:Int)],(100:Int),(1:Int),(0:Int),(0:Int))])) fun p=>Ä (ye p (2:Int) (15:Int)) fun c=>Ä (Ţ ([((8:Int),(15:Int),[(2:Int)],[(1:Int)],(100:Int),(1:Int),(0:Int),(0:Int)),((9:Int),(15:Int),[(3:Int)],[],(1100:Int),(0:Int),(0:Int),(0:Int))])) fun a=>Ä (HI a) fun h=>Ä (qU a ([(7:Int),(8:Int),(9:Int)])) fun i=>Ä (og a (2:Int)) fun j=>ifb (ine b.2 0) (k false) (ifb (ine f.2 0) (k false) (ifb (ine g.2 0) (k false) (ifb (ine c.2 0) (k false) (ifb (ine h.2 0) (k false) (ifb (ine i.2 0) (k false) (ifb (ine j.2 0) (k false) (ifb (ine (Ø b.1) 2) (k false) (ifb (ine (Ø f.1) 2) (k false) (ifb j.1 (k false) (Ä (DC a) fun d=>ğ b.1 (1:Int) fun q=>Ä (QB a q (2:Int) (13:Int)) fun l=>ifb (ine d.2 0) (k false) (ifb (ine l.2 0) (k false) (ifb (ine l.1 3) (k false) (Ä (jt a d.1) fun r=>ifb (ine r 0) (k false) (Ä (Ţ ([])) fun s=>Ä (jt s d.1) fun t=>ifb (ine t 8) (k false) (Ä (nf g.1 ([[(3:Int),(2:Int)]])) fun u=>ifb u (ifb (ieq (Ø c.1) 1) (ğ c.1 (0:Int) fun e=>ifb ((zV e.1 (3:Int))&&((zV e.2.1 (1099:Int))&&((zV e.2.2 (1101:Int))&&true))) (Ä (i7 h.1 ([(8:Int),(9:Int)])) fun v=>ifb v (Ä (i7 i.1 ([(8:Int),(9:Int)])) fun w=>k w) (k false)) (k false)) (k false)) (k false))))))))))))))))
def gT:Option (Bool):=Ap some
def wD (a:Val Â) (b:Val aj) (k:Val aH→Option ρ):Option ρ :=
  Ä (tc a b) fun c=>ifb (ine c 0) (k (false,c)) (Ä (ţ a b) fun d=>k (d,(0:Int)))
def qV (a:Val Â) (b:Val aj):Option ((Val aH)):=wD a b some
def tS (a:Val Â) (b:Val aj) (k:(Val (.pair É tI))→Option ρ):Option ρ :=
  Ä (tc a b) fun c=>ifb (ine c 0) (k ((((0:Int),(0:Int)),[],[],[],[],[]),c)) (Ä (Α a b) fun d=>k (d,(0:Int)))
def oh (a:Val Â) (b:Val aj):Option ((Val (.pair É tI))):=tS a b some
def Χ (b:Val af) (e:Val aj) (c:Bool) (a:Int) (d:Bool→Int→Option ρ) (f:Bool→Option ρ):Option ρ :=
  ifb (ilt a (Ø b)) (ifb c (ck (a+(1:Int)) fun g=>d true g) (ğ b a fun h=>Ä (nf h e) fun i=>ck (a+(1:Int)) fun j=>d i j)) (f c)
def iU (c:Val ac) (b:Val ac) (a:Int) (e:Int→Option ρ) (d:Bool→Option ρ) (f:Unit→Option ρ):Option ρ :=
  ifb (ilt a (Ø b)) (ğ b a fun g=>ğ c a fun h=>ifb (ine g.1 h.1) (d false) (ğ b a fun i=>ğ c a fun j=>ifb (ine (Ø i.2.2.1) (Ø j.2.2.1)) (d false) (ğ b a fun k=>ğ c a fun l=>ifb (ine (Ø k.2.2.2.1) (Ø l.2.2.2.1)) (d false) (ck (a+(1:Int)) fun m=>e m)))) (f ())
def rk (a:Val Â) (e:Int) (k:Bool→Option ρ):Option ρ :=
  Ä (yb a) fun i=>ifb (!i) (Ä gT fun j=>k j) (ifb (ilt e 0) (Ä gT fun l=>k l) (Ä (KE a) fun b=>Ä (DB a) fun c=>ifb (ine b.2 0) (Ä gT fun m=>ifb m (k (ine b.2 0)) (k false)) (ifb (ine c.2 0) (Ä gT fun n=>ifb n (k (ine b.2 0)) (k false)) (ifb (ieq (Ø c.1) 0) (Ä gT fun o=>ifb o (k (ine b.2 0)) (k false)) (ifb (zV (Ø c.1) 0) (none) (ğ c.1 (Int.tmod e (Ø c.1)) fun f=>Ä (oh a f) fun d=>ifb (ine d.2 0) (k false) (Ä (qV (d.1,[]) ([])) fun g=>Ê (fun(h:Val aH) p=>Χ b.1 f h.1 h.2 (fun q r=>p (q,r)) (fun s=>ifb (ine g.2 0) (k false) (ifb (!(g.1==s)) (k false) (ifb (ine (Ø d.1.2.2.2.2.1) (Ø a.1.2.2.2.2.1)) (k false) (Ê (fun(t:Int) u=>iU a.1.2.2.2.2.1 d.1.2.2.2.2.1 t (fun v=>u v) (fun w=>k w) (fun _=>Ä gT fun x=>k x)) (0:Int)))))) (false,(0:Int)))))))))
def rI (a:Val Â) (b:Int):Option (Bool):=rk a b some
end Go.Proofs.ZzM
end
