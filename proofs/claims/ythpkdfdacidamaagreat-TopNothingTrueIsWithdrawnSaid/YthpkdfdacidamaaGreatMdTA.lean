/- lemmas -/
import Derived.Test.YthpkdfdacidamaaGreatAmE
set_option linter.all false
set_option linter.unusedSectionVars false
set_option linter.unusedVariables false
set_option linter.unusedSimpArgs false
noncomputable section
variable {ρ:Type}
set_option maxRecDepth 100000
namespace Go.Proofs.ZzM
open Go Go.Am
abbrev tI:Ty:=.int .i64
abbrev Ã:Ty:=(.pair tI tI)
abbrev Ŋ:Ty:=(.pair tI (.slice tI))
abbrev Ĥ:Ty:=(.pair tI Ã)
abbrev Ę:Ty:=(.pair Ã Ã)
abbrev iZ:Ty:=(.pair tI (.pair Ã tI))
abbrev Ö:Ty:=(.pair tI (.slice Ĥ))
abbrev Ù:Ty:=(.pair tI (.pair tI (.pair tI (.pair Ã (.pair Ã tI)))))
abbrev Þ:Ty:=(.pair tI (.pair tI (.pair (.slice tI) (.pair (.slice tI) (.pair tI Ĥ)))))
abbrev Ê:Ty:=(.pair Ã (.pair (.slice Ù) (.pair (.slice Ã) (.pair (.slice iZ) (.pair (.slice Þ) (.slice Ã))))))
abbrev Â:Ty:=(.pair Ê (.slice Ŋ))
abbrev ah2:Ty:=(.pair Ê (.pair (.slice Ã) (.pair Ö (.slice Ã))))
abbrev tyroom:Ty:=(.pair Ê Ö)
def BC (l:List Int):Option (List Int):=è (ñ l.length) (some l)
def Kv:Nat→List Int→List (List Int)
  |0,_=>[[]]
  |n+1,l=>if l.length=0 then[[]] else(List.range l.length).flatMap fun i=>(Kv n (l.take i++l.drop (i+1))).map (l.getD i 0::·)
def lT:List (Int×List Int)→List (List (List Int))
  |[]=>[[]]
  |m::r=>(Kv m.2.length m.2).flatMap fun x=>(lT r).map (x::·)
def BD (l:List Int):Option (List (List Int)):=è (decide (l.length≤9)) (some (Kv l.length l))
def oM (l:List (Int×List Int)):Option (List (List (List Int))):=è (decide (l.length≤9)&&l.all fun m=>decide (m.2.length≤9)) (some (lT l))
abbrev aa:Ty:=(.slice Ã)
abbrev ab:Ty:=(.slice tI)
abbrev ac:Ty:=(.slice Þ)
abbrev ae:Ty:=(.slice Ù)
abbrev af:Ty:=(.slice iZ)
abbrev ah:Ty:=(.slice ab)
abbrev ai:Ty:=(.slice Ŋ)
abbrev aj:Ty:=(.pair tI (.pair tI (.pair ae (.pair aa (.pair af (.pair ac (.pair aa ai)))))))
abbrev ak:Ty:=(.slice Ĥ)
abbrev am:Ty:=(.slice ah)
abbrev ao:Ty:=(.pair tI (.pair tI (.pair ae (.pair aa (.pair af (.pair ac aa))))))
abbrev aq:Ty:=(.map tI Ù)
abbrev ar:Ty:=(.map tI .bool)
abbrev au:Ty:=(.pair tI (.pair tI (.pair ae (.pair aa (.pair af (.pair ac (.pair aa (.pair ai (.pair tI (.pair tI (.pair ae (.pair aa (.pair af (.pair ac (.pair aa ao)))))))))))))))
abbrev aw:Ty:=(.slice .bool)
abbrev ax:Ty:=(.ptr Â)
abbrev ay:Ty:=(.pair tI (.pair am aj))
abbrev az:Ty:=(.pair tI (.pair tI (.pair tI (.pair tI (.pair tI Ĥ)))))
abbrev aB:Ty:=(.pair tI (.pair tI (.pair ae (.pair aa (.pair af (.pair ac (.pair aa (.pair ai aj))))))))
abbrev aD:Ty:=(.pair ab tI)
abbrev aE:Ty:=(.ptr tyroom)
abbrev aF:Ty:=(.pair tI am)
abbrev aG:Ty:=(.pair tI aj)
abbrev aH:Ty:=(.pair ab (.pair tI (.pair tI (.pair tI (.pair ae (.pair aa (.pair af (.pair ac (.pair aa (.pair tI (.pair ab (.map tI tI))))))))))))
abbrev aI:Ty:=(.ptr ah)
abbrev aJ:Ty:=(.pair Â ah)
abbrev aK:Ty:=(.pair .bool tI)
abbrev aL:Ty:=(.pair Ã tI)
abbrev aM:Ty:=(.pair Ê Ã)
abbrev aO:Ty:=(.pair tI (.pair tI (.pair tI (.pair ae (.pair aa (.pair af (.pair ac (.pair aa az))))))))
abbrev aP:Ty:=(.pair tI (.pair tI Ŋ))
abbrev aQ:Ty:=(.pair aw ab)
abbrev aR:Ty:=(.pair ab (.pair aw (.pair ab ab)))
abbrev aS:Ty:=(.pair tI (.pair tI (.pair tI (.pair tI (.pair tI ay)))))
abbrev aT:Ty:=(.map tI Ã)
abbrev aU:Ty:=(.pair tI ac)
abbrev aV:Ty:=(.pair aE Ã)
abbrev aW:Ty:=(.pair tI aa)
abbrev aX:Ty:=(.pair ab (.pair tI (.pair tI aD)))
abbrev aY:Ty:=(.ptr ah2)
abbrev aZ:Ty:=(.pair tI Ö)
abbrev ba:Ty:=(.pair ab Ŋ)
abbrev bc:Ty:=(.map tI tI)
abbrev bf:Ty:=(.pair tI (.pair ak aa))
abbrev bg:Ty:=(.pair Ê Þ)
abbrev bh:Ty:=(.pair tI ah)
abbrev bi:Ty:=(.pair aa tI)
abbrev bj:Ty:=(.pair ah tI)
abbrev bm:Ty:=(.pair ab (.pair ai ab))
abbrev bn:Ty:=(.pair tI (.pair tI aG))
abbrev bo:Ty:=(.pair (.int .u64) (.int .u64))
abbrev bp:Ty:=(.pair Ê (.pair aq tI))
abbrev bq:Ty:=(.pair tI (.pair tI (.pair ak Ö)))
def il (d:Val ah) (e:Int) (b:Int) (a:Int) (f:Int→Int→Option ρ) (g:Int→Option ρ):Option ρ :=
  ifb (ilt a e) (ą d a fun h=>ck (b+(à h)) fun c=>ifb (ilt c 0) (none) (ck (a+(1:Int)) fun i=>f c i)) (g b)
def Ĩ (d:Val ah) (e:Int) (a:Int) (b:Val ab) (f:Int→Val ab→Option ρ) (g:Val ab→Option ρ):Option ρ :=
  ifb (ilt a e) (ą d a fun c=>è (ñ ((List.length b)+(List.length c))) (ck (a+(1:Int)) fun h=>f h (b++c))) (g b)
def ny (a:Val ah) (k:Val ab→Option ρ):Option ρ :=
  Í (fun(c:Val Ã) g=>il a (à a) c.1 c.2 (fun h i=>g (h,i)) (fun d=>ifb (ilt d 0) (none) (ck (d-(0:Int)) fun b=>ifb (igt b 0) (è ((ilt 0 b)&&(ñ (Int.toNat b))) (è (ile 0 (ú (List.replicate (Int.toNat b) (0:Int)))) (Í (fun(e:Val Ŋ) j=>Ĩ a (à a) e.1 e.2 (fun l m=>j (l,m)) (fun n=>k n)) ((0:Int),(List.take 0 (List.replicate (Int.toNat b) (0:Int))))))) (Í (fun(f:Val Ŋ) o=>Ĩ a (à a) f.1 f.2 (fun p q=>o (p,q)) (fun r=>k r)) ((0:Int),[]))))) ((0:Int),(0:Int))
def ĸ (a:Val ah):Option ((Val ab)):=ny a some
def rJ (al:Val ah) (rec:Val ab→Option ((Val ah))) (a:Int) (b:Val ah) (y:Val ab) (c:Val ah→Option ρ):Option ρ :=
  è (ñ ((List.length ([a]))+(List.length y))) (yg al (b++[(([a])++y)]) (c (b++[(([a])++y)])))
def rK (al:Val ah) (rec:Val ab→Option ((Val ah))) (e:Val ab) (f:Int) (b:Val ab) (a:Int) (d:Val ah) (g:Int→Val ah→Option ρ) (h:Val ah→Option ρ):Option ρ :=
  ifb (ilt a f) (ą e a fun i=>è ((ile 0 a)&&(ile a (ú b))) (ck (a+(1:Int)) fun c=>è ((ile 0 c)&&(ile c (ú b))) (Ä (ĸ ([(List.take (Int.toNat a) b),(List.drop (Int.toNat c) b)])) fun j=>Ä (rec j) fun k=>AQ (fun(l:Val ah) (m:Val ab) n=>rJ al rec i l m (fun o=>n o)) k (d) (fun p=>ck (a+(1:Int)) fun q=>g q p)))) (h d)
def zP (al:Val ah) (rec:Val ab→Option ((Val ah))) (mm:Val ab) (k:((Val ah))×((Val ab))→Option ρ):Option ρ :=
  ifb (ieq (à mm) 0) (yg al (([])++[[]]) (k ((([])++[[]]),mm))) (Í (fun(a:Val bh) b=>rK al rec mm (à mm) mm a.1 a.2 (fun c d=>b (c,d)) (fun e=>k (e,mm))) ((0:Int),[]))
def oB (al:Val am) (rec:Val ai→Option ((Val am))) (a:Val ab) (b:Val am) (y:Val ah) (c:Val am→Option ρ):Option ρ :=
  è (ñ ((List.length ([a]))+(List.length y))) (yg al (b++[(([a])++y)]) (c (b++[(([a])++y)])))
def oC (al:Val am) (rec:Val ai→Option ((Val am))) (a:Val ai) (b:Val am) (y:Val ab) (c:Val am→Option ρ):Option ρ :=
  è (ile 1 (ú a)) (Ä (rec (List.drop 1 a)) fun d=>AQ (fun(e:Val am) (f:Val ah) g=>oB al rec y e f (fun h=>g h)) d (b) (fun i=>c i))
def uW (al:Val am) (rec:Val ai→Option ((Val am))) (mm:Val ai) (k:((Val am))×((Val ai))→Option ρ):Option ρ :=
  ifb (ieq (à mm) 0) (yg al (([])++[[]]) (k ((([])++[[]]),mm))) (ą mm (0:Int) fun a=>Ä (BD a.2) fun b=>AQ (fun(c:Val am) (d:Val ab) e=>oC al rec mm c d (fun f=>e f)) b ([]) (fun g=>k (g,mm)))
def jf (al:Val ab) (rec:Val ab→Option ((Val ab))) (d:Val ab) (e:Int) (a:Int) (b:Val ab) (f:Int→Val ab→Option ρ) (g:Val ab→Option ρ):Option ρ :=
  ifb (ilt a e) (ą d a fun c=>yg al (b++[c]) (ck (a+(1:Int)) fun h=>f h (b++[c]))) (g b)
def lq (al:Val ab) (rec:Val ab→Option ((Val ab))) (mm:Val ab) (k:((Val ab))×((Val ab))→Option ρ):Option ρ :=
  Í (fun(a:Val Ŋ) b=>jf al rec mm (à mm) a.1 a.2 (fun c d=>b (c,d)) (fun e=>k (e,mm))) ((0:Int),[])
def Ib (a:Val Ã) (b:Int) (c:Int) (k:Bool→Option ρ):Option ρ :=
  ifb (ile b a.1) (ifb (ile a.1 a.2) (k (ile a.2 c)) (k false)) (k false)
def gZ (a:Val Ã) (b:Int) (c:Int):Option (Bool):=Ib a b c some
def H4 (a:Int) (b:Int) (c:Int) (k:Bool→Option ρ):Option ρ :=
  ifb (ile b a) (k (ile a c)) (k false)
def Ģ (a:Int) (b:Int) (c:Int):Option (Bool):=H4 a b c some
def M6 (a:Int) (k:Bool→Option ρ):Option ρ :=
  Ä (Ģ a (0:Int) (20000:Int)) fun b=>k b
def nM (a:Int):Option (Bool):=M6 a some
def Sw (a:Int) (k:Int→Option ρ):Option ρ :=
  ifb (ilt a 0) (k (IntKind.wrap .u64 (0-(IntKind.wrap .u64 a)))) (k (IntKind.wrap .u64 a))
def uu (a:Int):Option (Int):=Sw a some
def Bu (b:Int) (a:Int) (c:Int→Int→Option ρ) (d:Int→Option ρ):Option ρ :=
  ifb (ine a 0) (ifb (A5 a 0) (none) (c a (Int.tmod b a))) (d b)
def Yl (b:Int) (c:Int) (k:Int→Option ρ):Option ρ :=
  Í (fun(a:Val bo) d=>Bu a.1 a.2 (fun e f=>d (e,f)) (fun g=>k g)) (b,c)
def NG (a:Int) (b:Int):Option (Int):=Yl a b some
def MN (a:Val Ã) (k:Bool→Option ρ):Option ρ :=
  ifb (ige a.2 1) (ifb (ile a.2 2147483647) (Ä (uu a.1) fun b=>ifb (ile b 2147483647) (Ä (uu a.1) fun c=>Ä (uu a.2) fun d=>Ä (NG c d) fun e=>k (ieq e 1)) (k false)) (k false)) (k false)
def wO (a:Val Ã):Option (Bool):=MN a some
def D4 (a:Val Ù) (k:Bool→Option ρ):Option ρ :=
  Ä (wO a.2.2.2.2.1) fun b=>ifb b (Ä (Ģ a.2.2.2.2.1.1 (-1000:Int) (1000:Int)) fun c=>ifb c (Ä (Ģ a.1 (1:Int) (1099511627776:Int)) fun d=>ifb d (Ä (nM a.2.1) fun e=>ifb e (Ä (Ģ a.2.2.1 (1:Int) (1125899906842624:Int)) fun f=>ifb f (Ä (gZ a.2.2.2.1 (-1073741824:Int) (1073741824:Int)) fun g=>ifb g (ifb (ile a.2.2.2.2.1.2 100) (Ä (Ģ a.2.2.2.2.2 (0:Int) (1048576:Int)) fun h=>k h) (k false)) (k false)) (k false)) (k false)) (k false)) (Ä (Ģ a.1 (1:Int) (1099511627776:Int)) fun i=>ifb i (Ä (nM a.2.1) fun j=>ifb j (Ä (Ģ a.2.2.1 (1:Int) (1125899906842624:Int)) fun l=>ifb l (Ä (gZ a.2.2.2.1 (-1073741824:Int) (1073741824:Int)) fun m=>ifb m (k false) (k false)) (k false)) (k false)) (k false))) (Ä (Ģ a.1 (1:Int) (1099511627776:Int)) fun n=>ifb n (Ä (nM a.2.1) fun o=>ifb o (Ä (Ģ a.2.2.1 (1:Int) (1125899906842624:Int)) fun p=>ifb p (Ä (gZ a.2.2.2.1 (-1073741824:Int) (1073741824:Int)) fun q=>ifb q (k false) (k false)) (k false)) (k false)) (k false))
def ym (a:Val Ù):Option (Bool):=D4 a some
def jK (e:Val ae) (f:Int) (g:Val ae) (a:Int) (b:Int→Option ρ) (c:Int→Option ρ) (h:Unit→Option ρ):Option ρ :=
  ifb (ilt a f) (ą e a fun d=>Ä (ym d) fun i=>ifb (!i) (c (1:Int)) (ifb (igt a 0) (ck (a-(1:Int)) fun j=>ą g j fun k=>ifb (ile d.1 k.1) (c (6:Int)) (ck (a+(1:Int)) fun l=>b l)) (ck (a+(1:Int)) fun m=>b m))) (h ())
def sc (a:Val Ê) (k:Int→Option ρ):Option ρ :=
  Í (fun(b:Int) c=>jK a.2.1 (à a.2.1) a.2.1 b (fun d=>c d) (fun e=>k e) (fun _=>k (0:Int))) (0:Int)
def δ (a:Val Ê):Option (Int):=sc a some
def oX (d:Val ae) (e:Int) (a:Int) (b:Val aq) (f:Int→Val aq→Option ρ) (g:Val aq→Option ρ):Option ρ :=
  ifb (ilt a e) (ą d a fun c=>ck (a+(1:Int)) fun h=>f h (Lw (k:=tI) (v:=Ù) c.1 c b)) (g b)
def D0 (a:Val Ê) (k:Val aq→Option ρ):Option ρ :=
  Í (fun(b:(Val (.pair tI aq))) c=>oX a.2.1 (à a.2.1) b.1 b.2 (fun d e=>c (d,e)) (fun f=>k f)) ((0:Int),[])
def Ł (a:Val Ê):Option ((Val aq)):=D0 a some
def iF (b:Val ab) (c:Int) (d:Int) (a:Int) (e:Int→Option ρ) (f:Int→Option ρ) (g:Unit→Option ρ):Option ρ :=
  ifb (ilt a d) (ą b a fun h=>ifb (ieq c h) (f a) (ck (a+(1:Int)) fun i=>e i)) (g ())
def oE (a:Val ab) (b:Int) (k:Int→Option ρ):Option ρ :=
  Í (fun(c:Int) d=>iF a b (à a) c (fun e=>d e) (fun f=>k f) (fun _=>k (-1:Int))) (0:Int)
def iW (a:Val ab) (b:Int):Option (Int):=oE a b some
def lr (a:Val ab) (b:Int) (k:Bool→Option ρ):Option ρ :=
  Ä (iW a b) fun c=>k (ige c 0)
def æ (a:Val ab) (b:Int):Option (Bool):=lr a b some
def yd (f:Val ac) (g:Int) (d:Int) (a:Int) (b:Val ab) (e:Int→Val ab→Option ρ) (h:Val ab→Option ρ):Option ρ :=
  ifb (ilt a g) (ą f a fun c=>Ä (æ c.2.2.1 d) fun i=>Ä (æ c.2.2.2.1 d) fun j=>ifb (!(i==j)) (è (ñ ((List.length b)+(List.length ([c.2.1])))) (ck (a+(1:Int)) fun k=>e k (b++([c.2.1])))) (ck (a+(1:Int)) fun l=>e l b)) (h b)
def yc (e:Val aa) (f:Int) (g:Int) (a:Int) (b:Val ab) (d:Int→Val ab→Option ρ) (h:Val ab→Option ρ):Option ρ :=
  ifb (ilt a f) (ą e a fun c=>ifb (ieq c.1 g) (è (ñ ((List.length b)+(List.length ([c.2])))) (ck (a+(1:Int)) fun i=>d i (b++([c.2])))) (ck (a+(1:Int)) fun j=>d j b)) (h b)
def S0 (a:Val Ê) (b:Val Ù) (k:Val ab→Option ρ):Option ρ :=
  Í (fun(d:Val Ŋ) f=>yd a.2.2.2.2.1 (à a.2.2.2.2.1) b.1 d.1 d.2 (fun g h=>f (g,h)) (fun i=>Í (fun(e:Val Ŋ) j=>yc a.2.2.2.2.2 (à a.2.2.2.2.2) b.1 e.1 e.2 (fun l m=>j (l,m)) (fun c=>è (ñ (List.length c)) (è (ñ (List.length (zp c))) (k (BQ (zp c)))))) ((0:Int),i))) ((0:Int),[b.2.1])
def qH (a:Val Ê) (b:Val Ù):Option ((Val ab)):=S0 a b some
def tY (e:Val ab) (f:Int) (c:Int) (a:Int) (b:Val aa) (g:Int→Val aa→Option ρ) (h:Val aa→Option ρ):Option ρ :=
  ifb (ilt a f) (ą e a fun d=>è (ñ ((List.length b)+(List.length ([(c,d)])))) (ck (a+(1:Int)) fun i=>g i (b++([(c,d)])))) (h b)
def tZ (f:Val ae) (g:Int) (h:Int) (i:Int) (j:Val ae) (k:Val aa) (l:Val af) (m:Val ac) (n:Val aa) (a:Int) (b:Val aa) (o:Int→Val aa→Option ρ) (p:Val aa→Option ρ):Option ρ :=
  ifb (ilt a g) (ą f a fun c=>Ä (qH ((h,i),j,k,l,m,n) c) fun d=>Í (fun(e:Val aW) q=>tY d (à d) c.1 e.1 e.2 (fun r s=>q (r,s)) (fun t=>ck (a+(1:Int)) fun u=>o u t)) ((0:Int),b)) (p b)
def MX (a:Val Ê) (k:Val aa→Option ρ):Option ρ :=
  Í (fun(b:Val aW) c=>tZ a.2.1 (à a.2.1) a.1.1 a.1.2 a.2.1 a.2.2.1 a.2.2.2.1 a.2.2.2.2.1 a.2.2.2.2.2 b.1 b.2 (fun d e=>c (d,e)) (fun f=>k f)) ((0:Int),[])
def sq (a:Val Ê):Option ((Val aa)):=MX a some
def vh (a:Val aq) (b:Int) (c:Int) (k:Int→Option ρ):Option ρ :=
  KD (k:=tI) (v:=Ù) b a (fun d=>ifb (ilt c d.2.1) (k (4:Int)) (k (0:Int))) (k (5:Int))
def jx (a:Val aq) (b:Int) (c:Int):Option (Int):=vh a b c some
def D3 (b:Int) (a:Int) (c:(Val (.ptr aq))) (k:Int→Option ρ):Option ρ :=
  Ä (nM a) fun d=>ifb (!d) (k (1:Int)) (Ä (jx c b a) fun e=>k e)
def ŗ (a:Int) (b:Int) (c:(Val (.ptr aq))):Option (Int):=D3 a b c some
def mc (d:Val af) (e:Int) (f:Int) (g:Int) (h:Int) (a:Int) (b:Int→Option ρ) (i:Int→Option ρ) (j:Unit→Option ρ):Option ρ :=
  ifb (ilt a e) (ą d a fun c=>ifb (ieq c.1 f) (ifb (ile c.2.1.1 h) (ifb (ile g c.2.1.2) (i a) (ck (a+(1:Int)) fun k=>b k)) (ck (a+(1:Int)) fun l=>b l)) (ck (a+(1:Int)) fun m=>b m)) (j ())
def ω (d:Val aa) (e:Int) (f:Int) (g:Int) (h:Int) (a:Int) (b:Int→Option ρ) (i:Int→Option ρ) (j:Unit→Option ρ):Option ρ :=
  ifb (ilt a e) (ą d a fun c=>ifb (ieq c.1 f) (Ä (Ģ c.2 g h) fun k=>ifb k (i a) (ck (a+(1:Int)) fun l=>b l)) (ck (a+(1:Int)) fun m=>b m)) (j ())
def ye (b:Val Ê) (e:Val aq) (c:Int) (k:Int→Option ρ):Option ρ :=
  ą b.2.2.2.1 c fun a=>Ä (gZ a.2.1 (0:Int) (20000:Int)) fun f=>ifb (!f) (k (1:Int)) (Ä (Ģ a.2.2 (0:Int) (1048576:Int)) fun g=>ifb (!g) (k (1:Int)) (Ä (jx e a.1 a.2.1.1) fun d=>ifb (ine d 0) (k d) (è ((ile 0 c)&&(ile c (ú b.2.2.2.1))) (Í (fun(h:Int) i=>mc (List.take (Int.toNat c) b.2.2.2.1) (à (List.take (Int.toNat c) b.2.2.2.1)) a.1 a.2.1.1 a.2.1.2 h (fun j=>i j) (fun l=>ifb (ige l 0) (k (9:Int)) (Í (fun(m:Int) n=>ω b.2.2.1 (à b.2.2.1) a.1 a.2.1.1 a.2.1.2 m (fun o=>n o) (fun p=>ifb (ige p 0) (k (9:Int)) (k (0:Int))) (fun _=>k (0:Int))) (0:Int))) (fun _=>Í (fun(q:Int) r=>ω b.2.2.1 (à b.2.2.1) a.1 a.2.1.1 a.2.1.2 q (fun s=>r s) (fun t=>ifb (ige t 0) (k (9:Int)) (k (0:Int))) (fun _=>k (0:Int))) (0:Int))) (0:Int)))))
def ir (a:Val Ê) (b:Val aq) (c:Int):Option (Int):=ye a b c some
def jg (e:Val ab) (f:Val ab) (g:Int) (a:Int) (b:Int→Option ρ) (c:Bool→Option ρ) (h:Unit→Option ρ):Option ρ :=
  ifb (ilt a g) (ą f a fun d=>Ä (Ģ d (1:Int) (1099511627776:Int)) fun i=>ifb (!i) (c false) (ifb (igt a 0) (ck (a-(1:Int)) fun j=>ą e j fun k=>ifb (ile d k) (c false) (ck (a+(1:Int)) fun l=>b l)) (ck (a+(1:Int)) fun m=>b m))) (h ())
def Bx (a:Val ab) (k:Bool→Option ρ):Option ρ :=
  Í (fun(b:Int) c=>jg a a (à a) b (fun d=>c d) (fun e=>k e) (fun _=>k (ile (à a) 6))) (0:Int)
def kE (a:Val ab):Option (Bool):=Bx a some
def yb (c:Int) (d:Val ab) (b:Val ab) (a:Int) (e:Int→Option ρ) (f:Int→Option ρ) (g:Unit→Option ρ):Option ρ :=
  ifb (ilt a c) (è ((ile 0 a)&&(ilt a (ú b))) (Ŝ b (Int.toNat a) fun h=>Ä (æ d h) fun i=>ifb i (f a) (ck (a+(1:Int)) fun j=>e j))) (g ())
def mu (f:Val ab) (b:Int) (c:Int) (a:Val ab) (d:Int→Int→Val ab→Option ρ) (g:Val Ŋ→Option ρ):Option ρ :=
  ifb (ilt c (à a)) (è ((ile 0 c)&&(ilt c (ú a))) (Ŝ a (Int.toNat c) fun e=>Ä (æ f e) fun h=>ifb (!h) (è ((ile 0 b)&&(ilt b (ú a))) (Ŝ a (Int.toNat b) fun l=>ck (b+(1:Int)) fun i=>ck (c+(1:Int)) fun j=>d i j (List.set a (Int.toNat b) e))) (ck (c+(1:Int)) fun k=>d b k a))) (g (b,a))
def SP (b:Val ab) (e:Val ab) (k:Val ab→Option ρ):Option ρ :=
  è (ñ (List.length b)) (Í (fun(f:Int) g=>yb (à b) e b f (fun h=>g h) (fun c=>ifb (ieq c (-1:Int)) (k b) (ck (c+(1:Int)) fun i=>Í (fun(d:(Val (.pair tI Ŋ))) j=>mu e d.1 d.2.1 d.2.2 (fun l m n=>j (l,m,n)) (fun a=>è ((ile 0 a.1)&&(ile a.1 (ú a.2))) (è ((ile 0 a.1)&&(ile a.1 (ú (List.take (Int.toNat a.1) a.2++List.replicate (List.length a.2-(Int.toNat a.1)) (0:Int)++List.drop ((Int.toNat a.1)+(List.length a.2-(Int.toNat a.1))) a.2)))) (k (List.take (Int.toNat a.1) (List.drop 0 (List.take (Int.toNat a.1) a.2++List.replicate (List.length a.2-(Int.toNat a.1)) (0:Int)++List.drop ((Int.toNat a.1)+(List.length a.2-(Int.toNat a.1))) a.2))))))) (c,i,b))) (fun _=>k b)) (0:Int))
def iq (a:Val ab) (b:Val ab):Option ((Val ab)):=SP a b some
def yf (d:Val af) (e:Int) (f:Int) (g:Int) (a:Int) (c:Int→Option ρ) (h:Int→Option ρ) (i:Unit→Option ρ):Option ρ :=
  ifb (ilt a e) (ą d a fun b=>ifb (ieq b.1 f) (Ä (Ģ g b.2.1.1 b.2.1.2) fun j=>ifb j (h a) (ck (a+(1:Int)) fun k=>c k)) (ck (a+(1:Int)) fun l=>c l)) (i ())
def S6 (a:Val Ê) (c:Int) (d:Int) (k:(Val (.pair iZ .bool))→Option ρ):Option ρ :=
  Í (fun(e:Int) f=>yf a.2.2.2.1 (à a.2.2.2.1) c d e (fun g=>f g) (fun b=>ifb (ilt b 0) (k (((0:Int),((0:Int),(0:Int)),(0:Int)),false)) (ą a.2.2.2.1 b fun h=>k (h,true))) (fun _=>k (((0:Int),((0:Int),(0:Int)),(0:Int)),false))) (0:Int)
def yn (a:Val Ê) (b:Int) (c:Int):Option ((Val (.pair iZ .bool))):=S6 a b c some
def ji (b:Val ac) (c:Int) (d:Int) (a:Int) (e:Int→Option ρ) (f:Int→Option ρ) (g:Unit→Option ρ):Option ρ :=
  ifb (ilt a c) (ą b a fun h=>ifb (ieq h.1 d) (f a) (ck (a+(1:Int)) fun i=>e i)) (g ())
def jh (c:Val aq) (b:Int) (d:Val ab) (e:Int) (f:Int) (a:Int) (g:Int→Option ρ) (h:Int→Option ρ) (i:Unit→Option ρ):Option ρ :=
  ifb (ilt a e) (ą d a fun j=>Ä (jx c j f) fun k=>ifb (ieq k b) (h b) (ck (a+(1:Int)) fun l=>g l)) (i ())
def Ŧ (d:Val aq) (b:Val ab) (e:Int) (f:Int) (c:Val ab) (a:Int) (g:Int→Option ρ) (h:Int→Option ρ) (i:Unit→Option ρ):Option ρ :=
  ifb (ilt a e) (è ((ile 0 a)&&(ilt a (ú c))) (Ŝ c (Int.toNat a) fun j=>Í (fun(k:Int) l=>jh d j b (à b) f k (fun m=>l m) (fun n=>h n) (fun _=>ck (a+(1:Int)) fun o=>g o)) (0:Int))) (i ())
def ť (b:Val ab) (c:Int) (d:Int) (e:Int) (f:Val ae) (g:Val aa) (h:Val af) (i:Val ac) (j:Val aa) (k:Int) (a:Int) (l:Int→Option ρ) (m:Int→Option ρ) (n:Unit→Option ρ):Option ρ :=
  ifb (ilt a c) (ą b a fun o=>Ä (yn ((d,e),f,g,h,i,j) o k) fun p=>ifb p.2 (m (9:Int)) (ck (a+(1:Int)) fun q=>l q)) (n ())
def jr (b:Val Ê) (f:Val aq) (c:Int) (k:Int→Option ρ):Option ρ :=
  ą b.2.2.2.2.1 c fun a=>Ä (Ģ a.1 (1:Int) (1099511627776:Int)) fun l=>ifb (!l) (k (1:Int)) (Ä (nM a.2.1) fun m=>ifb (!m) (k (1:Int)) (Ä (Ģ a.2.2.2.2.1 (-1125899906842624:Int) (1125899906842624:Int)) fun n=>ifb (!n) (k (1:Int)) (Ä (Ģ a.2.2.2.2.2.1 (0:Int) (1073741824:Int)) fun o=>ifb (!o) (k (1:Int)) (Ä (gZ a.2.2.2.2.2.2 (-10000:Int) (10000:Int)) fun p=>ifb (!p) (k (1:Int)) (Ä (kE a.2.2.1) fun q=>ifb (!q) (k (1:Int)) (Ä (kE a.2.2.2.1) fun r=>ifb (!r) (k (1:Int)) (è ((ile 0 c)&&(ile c (ú b.2.2.2.2.1))) (Í (fun(s:Int) t=>ji (List.take (Int.toNat c) b.2.2.2.2.1) (à (List.take (Int.toNat c) b.2.2.2.2.1)) a.1 s (fun u=>t u) (fun v=>ifb (ige v 0) (k (6:Int)) (Ä (ĸ ([a.2.2.1,a.2.2.2.1])) fun d=>Í (fun(w:Int) x=>Ŧ f d (à ([(5:Int),(4:Int)])) a.2.1 ([(5:Int),(4:Int)]) w (fun y=>x y) (fun z=>k z) (fun _=>Í (fun(A:Int) B=>ť d (à d) b.1.1 b.1.2 b.2.1 b.2.2.1 b.2.2.2.1 b.2.2.2.2.1 b.2.2.2.2.2 a.2.1 A (fun C=>B C) (fun D=>k D) (fun _=>Ä (iq a.2.2.1 a.2.2.2.1) fun g=>Ä (iq a.2.2.2.1 a.2.2.1) fun h=>ifb (igt (à g) 1) (k (1:Int)) (ifb (igt (à h) 1) (k (1:Int)) (ck ((à g)+(à h)) fun E=>ifb (ieq E 0) (k (1:Int)) (k (0:Int)))))) (0:Int))) (0:Int))) (fun _=>Ä (ĸ ([a.2.2.1,a.2.2.2.1])) fun e=>Í (fun(F:Int) G=>Ŧ f e (à ([(5:Int),(4:Int)])) a.2.1 ([(5:Int),(4:Int)]) F (fun H=>G H) (fun I=>k I) (fun _=>Í (fun(J:Int) K=>ť e (à e) b.1.1 b.1.2 b.2.1 b.2.2.1 b.2.2.2.1 b.2.2.2.2.1 b.2.2.2.2.2 a.2.1 J (fun L=>K L) (fun M=>k M) (fun _=>Ä (iq a.2.2.1 a.2.2.2.1) fun i=>Ä (iq a.2.2.2.1 a.2.2.1) fun j=>ifb (igt (à i) 1) (k (1:Int)) (ifb (igt (à j) 1) (k (1:Int)) (ck ((à i)+(à j)) fun N=>ifb (ieq N 0) (k (1:Int)) (k (0:Int)))))) (0:Int))) (0:Int))) (0:Int)))))))))
def Ĝ (a:Val Ê) (b:Val aq) (c:Int):Option (Int):=jr a b c some
def lP (b:Val Ê) (s:Val aq):Option (List Int) :=
  Ä (LC (fun u=>ŗ u.1 u.2 s) (b.2.2.1:List (Int×Int))) fun a=>Ä (LC (fun i=>ir b s i) (zj (b.2.2.2.1:List (Val iZ)).length)) fun c =>
    Ä (LC (fun i=>Ĝ b s i) (zj (b.2.2.2.2.1:List (Val Þ)).length)) fun d=>Ä (LC (fun u=>ŗ u.1 u.2 s) (b.2.2.2.2.2:List (Int×Int))) fun e=>some (a++(c++(d++e)))
def Gp (a:Val Ê) (k:Int→Option ρ):Option ρ :=
  Ä (gZ a.1 (0:Int) (1000000:Int)) fun d=>ifb (!d) (k (1:Int)) (ifb (igt (à a.2.1) 12) (k (2:Int)) (ifb (igt (à a.2.2.1) 40) (k (2:Int)) (ifb (igt (à a.2.2.2.1) 12) (k (2:Int)) (ifb (igt (à a.2.2.2.2.1) 40) (k (2:Int)) (ifb (igt (à a.2.2.2.2.2) 10) (k (2:Int)) (Ä (δ a) fun b=>ifb (ine b 0) (k b) (Ä (Ł a) fun e=>PW (lP a e) (fun f=>k f) (Ä (sq a) fun c=>ifb (igt (à c) 59) (k (2:Int)) (ck ((2:Int)*(à a.2.1)) fun g=>ck ((à c)-(à a.2.1)) fun h=>ck ((2:Int)*h) fun i=>ck (g+i) fun j=>ck ((2:Int)*(à a.2.2.2.2.1)) fun l=>ck (j+l) fun m=>ifb (igt m 300) (k (2:Int)) (k (0:Int)))))))))))
def Ř (a:Val Ê):Option (Int):=Gp a some
def GJ (a:List Int):Option (Int×Int×Int×Int×Int):=some (a.getD 0 0,a.getD 1 0,a.getD 2 0,a.getD 3 0,a.getD 4 0)
def ug (b:Val ab) (c:Int) (a:Int) (d:Int→Option ρ) (e:Int→Option ρ) (f:Unit→Option ρ):Option ρ :=
  ifb (ilt a c) (ą b a fun g=>Ä (nM g) fun h=>ifb (!h) (e a) (ck (a+(1:Int)) fun i=>d i)) (f ())
def Na (a:Val Ê) (b:Int) (c:Val ab) (k:Int→Option ρ):Option ρ :=
  Ä (Ř a) fun d=>ifb (ine d 0) (k d) (Í (fun(e:Int) f=>ug c (à c) e (fun g=>f g) (fun h=>ifb (ige h 0) (k (1:Int)) (Ä (Ł a) fun i=>KD (k:=tI) (v:=Ù) b i (fun l=>k (0:Int)) (k (5:Int)))) (fun _=>Ä (Ł a) fun j=>KD (k:=tI) (v:=Ù) b j (fun m=>k (0:Int)) (k (5:Int)))) (0:Int))
def A2 (a:Val Ê) (b:Int) (c:Val ab):Option (Int):=Na a b c some
def Tf (a:Val Ê) (b:Int) (c:Int) (k:Val aK→Option ρ):Option ρ :=
  Ä (A2 a b ([c])) fun d=>ifb (ine d 0) (k (false,d)) (Ä (yn a b c) fun e=>k (e.2,(0:Int)))
def BL (a:Val Ê) (b:Int) (c:Int):Option ((Val aK)):=Tf a b c some
def pm (b:Val ab) (a:Int) (c:Int→Option ρ) (d:Int→Option ρ) (e:Unit→Option ρ):Option ρ :=
  ifb (ilt a (à b)) (ą b a fun f=>ck (a-(1:Int)) fun g=>ą b g fun h=>ifb (ile f h) (d (1:Int)) (ck (a+(1:Int)) fun i=>c i)) (e ())
def pl (d:Val ae) (e:Int) (a:Int) (b:Val bc) (f:Int→Val bc→Option ρ) (g:Val bc→Option ρ):Option ρ :=
  ifb (ilt a e) (ą d a fun c=>ck (a+(1:Int)) fun h=>f h (Lw (k:=tI) (v:=tI) c.1 c.2.1 b)) (g b)
def pk (b:Val ab) (c:Int) (d:Val bc) (a:Int) (e:Int→Option ρ) (f:Int→Option ρ) (g:Unit→Option ρ):Option ρ :=
  ifb (ilt a c) (ą b a fun h=>KD (k:=tI) (v:=tI) h d (fun j=>ck (a+(1:Int)) fun i=>e i) (f a)) (g ())
def mO (e:Val ab) (f:Int) (b:Int) (g:Val bc) (a:Int) (c:Int→Option ρ) (d:Int→Option ρ) (h:Unit→Option ρ):Option ρ :=
  ifb (ilt a f) (ą e a fun i=>KD (k:=tI) (v:=tI) i g (fun j=>ifb (ilt b j) (d a) (ck (a+(1:Int)) fun l=>c l)) (ifb (ilt b 0) (d a) (ck (a+(1:Int)) fun m=>c m))) (h ())
def Ş (l:Val ab) (m:Int) (b:Int) (c:Int) (d:Val ae) (e:Val aa) (f:Val af) (g:Val ac) (h:Val aa) (i:Int) (a:Int) (n:Int→Option ρ) (j:Int→Option ρ) (o:Unit→Option ρ):Option ρ :=
  ifb (ilt a m) (ą l a fun k=>Ä (BL ((b,c),d,e,f,g,h) k i) fun p=>ck (i+(1:Int)) fun q=>Ä (BL ((b,c),d,e,f,g,h) k q) fun r=>ifb p.1 (j a) (ifb r.1 (j a) (ck (a+(1:Int)) fun s=>n s))) (o ())
def L4 (a:Val Ê) (d:Val ai) (c:Int) (k:Int→Option ρ):Option ρ :=
  ą d c fun b=>ifb (ilt b.1 0) (k (1:Int)) (ifb (ige b.1 20000) (k (1:Int)) (ifb (ilt (à b.2) 2) (k (1:Int)) (ifb (igt (à b.2) 5) (k (1:Int)) (Í (fun(g:Int) h=>pm b.2 g (fun i=>h i) (fun j=>k j) (fun _=>Í (fun(f:(Val (.pair tI bc))) l=>pl a.2.1 (à a.2.1) f.1 f.2 (fun m n=>l (m,n)) (fun e=>Í (fun(o:Int) p=>pk b.2 (à b.2) e o (fun q=>p q) (fun r=>ifb (ige r 0) (k (5:Int)) (Í (fun(s:Int) t=>mO b.2 (à b.2) b.1 e s (fun u=>t u) (fun v=>ifb (ige v 0) (k (4:Int)) (ifb (igt c 0) (ck (c-(1:Int)) fun w=>ą d w fun x=>ifb (ile b.1 x.1) (k (6:Int)) (Í (fun(y:Int) z=>Ş b.2 (à b.2) a.1.1 a.1.2 a.2.1 a.2.2.1 a.2.2.2.1 a.2.2.2.2.1 a.2.2.2.2.2 b.1 y (fun A=>z A) (fun B=>ifb (ige B 0) (k (9:Int)) (k (0:Int))) (fun _=>k (0:Int))) (0:Int))) (Í (fun(C:Int) D=>Ş b.2 (à b.2) a.1.1 a.1.2 a.2.1 a.2.2.1 a.2.2.2.1 a.2.2.2.2.1 a.2.2.2.2.2 b.1 C (fun E=>D E) (fun F=>ifb (ige F 0) (k (9:Int)) (k (0:Int))) (fun _=>k (0:Int))) (0:Int)))) (fun _=>ifb (igt c 0) (ck (c-(1:Int)) fun G=>ą d G fun H=>ifb (ile b.1 H.1) (k (6:Int)) (Í (fun(I:Int) J=>Ş b.2 (à b.2) a.1.1 a.1.2 a.2.1 a.2.2.1 a.2.2.2.1 a.2.2.2.2.1 a.2.2.2.2.2 b.1 I (fun K=>J K) (fun L=>ifb (ige L 0) (k (9:Int)) (k (0:Int))) (fun _=>k (0:Int))) (0:Int))) (Í (fun(M:Int) N=>Ş b.2 (à b.2) a.1.1 a.1.2 a.2.1 a.2.2.1 a.2.2.2.1 a.2.2.2.2.1 a.2.2.2.2.2 b.1 M (fun O=>N O) (fun P=>ifb (ige P 0) (k (9:Int)) (k (0:Int))) (fun _=>k (0:Int))) (0:Int)))) (0:Int))) (fun _=>Í (fun(Q:Int) R=>mO b.2 (à b.2) b.1 e Q (fun S=>R S) (fun T=>ifb (ige T 0) (k (4:Int)) (ifb (igt c 0) (ck (c-(1:Int)) fun U=>ą d U fun V=>ifb (ile b.1 V.1) (k (6:Int)) (Í (fun(W:Int) X=>Ş b.2 (à b.2) a.1.1 a.1.2 a.2.1 a.2.2.1 a.2.2.2.1 a.2.2.2.2.1 a.2.2.2.2.2 b.1 W (fun Y=>X Y) (fun Z=>ifb (ige Z 0) (k (9:Int)) (k (0:Int))) (fun _=>k (0:Int))) (0:Int))) (Í (fun(dc:Int) df=>Ş b.2 (à b.2) a.1.1 a.1.2 a.2.1 a.2.2.1 a.2.2.2.1 a.2.2.2.2.1 a.2.2.2.2.2 b.1 dc (fun dg=>df dg) (fun dh=>ifb (ige dh 0) (k (9:Int)) (k (0:Int))) (fun _=>k (0:Int))) (0:Int)))) (fun _=>ifb (igt c 0) (ck (c-(1:Int)) fun di=>ą d di fun dj=>ifb (ile b.1 dj.1) (k (6:Int)) (Í (fun(dk:Int) dl=>Ş b.2 (à b.2) a.1.1 a.1.2 a.2.1 a.2.2.1 a.2.2.2.1 a.2.2.2.2.1 a.2.2.2.2.2 b.1 dk (fun dm=>dl dm) (fun dt=>ifb (ige dt 0) (k (9:Int)) (k (0:Int))) (fun _=>k (0:Int))) (0:Int))) (Í (fun(du:Int) dv=>Ş b.2 (à b.2) a.1.1 a.1.2 a.2.1 a.2.2.1 a.2.2.2.1 a.2.2.2.2.1 a.2.2.2.2.2 b.1 du (fun dw=>dv dw) (fun dz=>ifb (ige dz 0) (k (9:Int)) (k (0:Int))) (fun _=>k (0:Int))) (0:Int)))) (0:Int))) (0:Int))) ((0:Int),[]))) (1:Int)))))
def GN (a:Val Ê) (b:Val ai) (c:Int):Option (Int):=L4 a b c some
def pn (c:Int) (b:Int) (a:Int) (d:Int→Int→Option ρ) (e:Int→Option ρ):Option ρ :=
  ifb (ilt a c) (ck (a+(1:Int)) fun f=>ck (b*f) fun g=>ck (a+(1:Int)) fun h=>d g h) (e b)
def tQ (e:Val ai) (f:Int) (g:Int) (h:Int) (i:Val ae) (j:Val aa) (k:Val af) (l:Val ac) (m:Val aa) (n:Val ai) (b:Int) (a:Int) (o:Int→Int→Option ρ) (p:Int→Option ρ) (q:Int→Option ρ):Option ρ :=
  ifb (ilt a f) (ą e a fun r=>Ä (GN ((g,h),i,j,k,l,m) n a) fun c=>ifb (ine c 0) (p c) (Í (fun(d:Val Ã) s=>pn (à r.2) d.1 d.2 (fun t u=>s (t,u)) (fun v=>ck (a+(1:Int)) fun w=>o v w)) (b,(0:Int)))) (q b)
def FA (a:Val Â) (k:Int→Option ρ):Option ρ :=
  Ä (Ř a.1) fun b=>ifb (ine b 0) (k b) (ifb (igt (à a.2) 4) (k (2:Int)) (Í (fun(c:Val Ã) d=>tQ a.2 (à a.2) a.1.1.1 a.1.1.2 a.1.2.1 a.1.2.2.1 a.1.2.2.2.1 a.1.2.2.2.2.1 a.1.2.2.2.2.2 a.2 c.1 c.2 (fun e f=>d (e,f)) (fun g=>k g) (fun h=>ifb (igt h 150) (k (2:Int)) (k (0:Int)))) ((1:Int),(0:Int))))
def Ω (a:Val Â):Option (Int):=FA a some
def Ĭ (b:Val ai) (c:Val ah) (a:Int) (e:Int→Option ρ) (f:Bool→Option ρ) (d:Unit→Option ρ):Option ρ :=
  ifb (ilt a (à b)) (ifb (ieq (à c) (à b)) (ą c a fun g=>ą b a fun h=>ifb (ine (à g) (à h.2)) (f false) (ck (a+(1:Int)) fun i=>e i)) (d ())) (d ())
def lg (a:Val ai) (b:Val ah) (k:Bool→Option ρ):Option ρ :=
  Í (fun(c:Int) d=>Ĭ a b c (fun e=>d e) (fun f=>k f) (fun _=>k (ieq (à b) (à a)))) (0:Int)
def Ź (a:Val ai) (b:Val ah):Option (Bool):=lg a b some
def tD (b:Val ae) (c:Int) (d:Int) (a:Int) (e:Int→Option ρ) (f:Int→Option ρ) (g:Unit→Option ρ):Option ρ :=
  ifb (ilt a c) (ą b a fun h=>ifb (ieq h.1 d) (f a) (ck (a+(1:Int)) fun i=>e i)) (g ())
def LO (a:Val Â) (c:Int) (b:Int) (k:Int→Option ρ):Option ρ :=
  ifb (ilt b 0) (k (1:Int)) (ifb (igt b 20000) (k (1:Int)) (Í (fun(d:Int) e=>tD a.1.2.1 (à a.1.2.1) c d (fun f=>e f) (fun g=>ifb (!(ige g 0)) (k (5:Int)) (k (0:Int))) (fun _=>k (5:Int))) (0:Int)))
def AU (a:Val Â) (b:Int) (c:Int):Option (Int):=LO a b c some
def Bp (f:Val ah) (g:Int) (d:Val ai) (b:Int) (a:Int) (c:Int→Int→Option ρ) (h:Int→Option ρ):Option ρ :=
  ifb (ige a 0) (ą f a fun i=>Ä (iW i b) fun e=>ifb (ige e 0) (ą d a fun j=>ifb (ilt j.1 g) (ą d a fun k=>ą k.2 e fun l=>ck (a-(1:Int)) fun m=>c l m) (ck (a-(1:Int)) fun n=>c b n)) (ck (a-(1:Int)) fun o=>c b o)) (h b)
def X5 (a:Val Â) (c:Val ah) (d:Int) (e:Int) (k:Int→Option ρ):Option ρ :=
  ck ((à a.2)-(1:Int)) fun f=>Í (fun(b:Val Ã) g=>Bp c e a.2 b.1 b.2 (fun h i=>g (h,i)) (fun j=>k j)) (d,f)
def vr (a:Val Â) (b:Val ah) (c:Int) (d:Int):Option (Int):=X5 a b c d some
def jJ (d:Int) (e:Val ax) (f:Val aI) (g:Val ab) (h:Int) (a:Int) (b:Val ab) (i:Int→Val ab→Option ρ) (j:Val ab→Option ρ):Option ρ :=
  ifb (ilt a h) (ą g a fun k=>Ä (vr e f k d) fun c=>è (ñ ((List.length b)+(List.length ([c])))) (ck (a+(1:Int)) fun l=>i l (b++([c])))) (j b)
def rI (a:Val ab) (d:Int) (e:Val ax) (f:Val aI) (k:Val ab→Option ρ):Option ρ :=
  Í (fun(b:Val Ŋ) g=>jJ d e f a (à a) b.1 b.2 (fun h i=>g (h,i)) (fun c=>è (ñ (List.length c)) (k (zp c)))) ((0:Int),[])
def j8 (a:Val ab) (b:Int) (c:Val ax) (d:Val aI):Option ((Val ab)):=rI a b c d some
def l6 (e:Val ax) (f:Val aI) (g:Val aa) (h:Int) (b:Int) (c:Val aa) (i:Int→Val aa→Option ρ) (j:Val aa→Option ρ):Option ρ :=
  ifb (ilt b h) (ą g b fun a=>Ä (vr e f a.1 a.2) fun d=>è (ñ ((List.length c)+(List.length ([(d,a.2)])))) (ck (b+(1:Int)) fun k=>i k (c++([(d,a.2)])))) (j c)
def l5 (e:Val ax) (f:Val aI) (g:Val af) (h:Int) (b:Int) (c:Val af) (i:Int→Val af→Option ρ) (j:Val af→Option ρ):Option ρ :=
  ifb (ilt b h) (ą g b fun a=>Ä (vr e f a.1 a.2.1.1) fun d=>è (ñ ((List.length c)+(List.length ([(d,a.2)])))) (ck (b+(1:Int)) fun k=>i k (c++([(d,a.2)])))) (j c)
def lZ (d:Val ax) (e:Val aI) (h:Val ac) (i:Int) (b:Int) (c:Val ac) (j:Int→Val ac→Option ρ) (k:Val ac→Option ρ):Option ρ :=
  ifb (ilt b i) (ą h b fun a=>Ä (j8 a.2.2.1 a.2.1 d e) fun f=>Ä (j8 a.2.2.2.1 a.2.1 d e) fun g=>è (ñ ((List.length c)+(List.length ([(a.1,a.2.1,f,g,a.2.2.2.2)])))) (ck (b+(1:Int)) fun l=>j l (c++([(a.1,a.2.1,f,g,a.2.2.2.2)])))) (k c)
def lY (e:Val ax) (f:Val aI) (g:Val aa) (h:Int) (b:Int) (c:Val aa) (i:Int→Val aa→Option ρ) (j:Val aa→Option ρ):Option ρ :=
  ifb (ilt b h) (ą g b fun a=>Ä (vr e f a.1 a.2) fun d=>è (ñ ((List.length c)+(List.length ([(d,a.2)])))) (ck (b+(1:Int)) fun k=>i k (c++([(d,a.2)])))) (j c)
def xx (a:Val Â) (b:Val ah) (k:Val Ê→Option ρ):Option ρ :=
  è (ñ (List.length a.1.2.1)) (Í (fun(c:Val aW) g=>l6 a b a.1.2.2.1 (à a.1.2.2.1) c.1 c.2 (fun h i=>g (h,i)) (fun j=>Í (fun(d:(Val (.pair tI af))) l=>l5 a b a.1.2.2.2.1 (à a.1.2.2.2.1) d.1 d.2 (fun m n=>l (m,n)) (fun o=>Í (fun(e:Val aU) p=>lZ a b a.1.2.2.2.2.1 (à a.1.2.2.2.2.1) e.1 e.2 (fun q r=>p (q,r)) (fun s=>Í (fun(f:Val aW) t=>lY a b a.1.2.2.2.2.2 (à a.1.2.2.2.2.2) f.1 f.2 (fun u v=>t (u,v)) (fun w=>k (a.1.1,a.1.2.1,j,o,s,w))) ((0:Int),[]))) ((0:Int),[]))) ((0:Int),[]))) ((0:Int),[]))
def ky (a:Val Â) (b:Val ah):Option (Val Ê):=xx a b some
def ya (f:Int) (g:Int) (h:Val af) (i:Int) (j:Int) (b:Int) (a:Int) (d:Int→Int→Option ρ) (k:Int→Option ρ):Option ρ :=
  ifb (ilt a i) (ą h a fun c=>ck (g-(1:Int)) fun l=>ck ((aai c.2.1.2 l)-(PG c.2.1.1 f)) fun m=>ck (m+1) fun e=>ifb (ieq c.1 j) (ifb (igt e 0) (ck (e*c.2.2) fun n=>ck (b+n) fun o=>ck (a+(1:Int)) fun p=>d o p) (ck (a+(1:Int)) fun q=>d b q)) (ck (a+(1:Int)) fun r=>d b r)) (k b)
def xZ (e:Int) (f:Int) (g:Val aa) (h:Int) (i:Int) (a:Int) (b:Val ab) (d:Int→Val ab→Option ρ) (j:Val ab→Option ρ):Option ρ :=
  ifb (ilt a h) (ą g a fun c=>ifb (ieq c.1 i) (ck (f-(1:Int)) fun k=>Ä (Ģ c.2 e k) fun l=>ifb l (è (ñ ((List.length b)+(List.length ([c.2])))) (ck (a+(1:Int)) fun m=>d m (b++([c.2])))) (ck (a+(1:Int)) fun n=>d n b)) (ck (a+(1:Int)) fun o=>d o b)) (j b)
def SN (a:Val Ê) (b:Val Ù) (d:Int) (e:Int) (k:Int→Option ρ):Option ρ :=
  Í (fun(f:Val Ã) h=>ya d e a.2.2.2.1 (à a.2.2.2.1) b.1 f.1 f.2 (fun i j=>h (i,j)) (fun l=>Í (fun(g:Val Ŋ) m=>xZ d e a.2.2.1 (à a.2.2.1) b.1 g.1 g.2 (fun n o=>m (n,o)) (fun c=>è (ñ (List.length c)) (è (ñ (List.length (zp c))) (ck ((à (BQ (zp c)))*b.2.2.2.2.2) fun p=>ck (l+p) fun q=>k q)))) ((0:Int),[]))) ((0:Int),(0:Int))
def uw (a:Val Ê) (b:Val Ù) (c:Int) (d:Int):Option (Int):=SN a b c d some
def Ĵ (c:Val aa) (d:Int) (e:Int) (f:Int) (a:Int) (g:Int→Option ρ) (h:Int→Option ρ) (i:Unit→Option ρ):Option ρ :=
  ifb (ilt a d) (ą c a fun b=>ifb ((A5 e b.1)&&((A5 f b.2)&&true)) (h a) (ck (a+(1:Int)) fun j=>g j)) (i ())
def Ο (a:Val aa) (b:Val Ã) (k:Int→Option ρ):Option ρ :=
  Í (fun(c:Int) d=>Ĵ a (à a) b.1 b.2 c (fun e=>d e) (fun f=>k f) (fun _=>k (-1:Int))) (0:Int)
def û (a:Val aa) (b:Val Ã):Option (Int):=Ο a b some
def AC (b:Val aY) (a:Val ab) (c:Int) (k:Int→Option ρ):Option ρ :=
  ifb (ieq (à a) 0) (k (0:Int)) (ą a (0:Int) fun d=>Ä (û b.2.1 (d,c)) fun e=>ck (e+(1:Int)) fun f=>k f)
def mS (a:Val aY) (b:Val ab) (c:Int):Option (Int):=AC a b c some
def qe (b:Val aq) (a:Val ab) (k:Val Ã→Option ρ):Option ρ :=
  ifb (ieq (à a) 0) (k ((0:Int),(1:Int))) (ą a (0:Int) fun c=>KD (k:=tI) (v:=Ù) c b (fun d=>k d.2.2.2.2.1) (k ((0:Int),(0:Int))))
def jt (a:Val aq) (b:Val ab):Option (Val Ã):=qe a b some
def tW (b:Val aa) (c:Int) (a:Int) (d:Int→Option ρ) (e:Int→Option ρ) (f:Unit→Option ρ):Option ρ :=
  ifb (ilt a c) (ą b a fun g=>Ä (wO g) fun h=>ifb (!h) (e (1:Int)) (ck (a+(1:Int)) fun i=>d i)) (f ())
def MG (a:Val aa) (k:Int→Option ρ):Option ρ :=
  Í (fun(b:Int) c=>tW a (à a) b (fun d=>c d) (fun e=>k e) (fun _=>k (0:Int))) (0:Int)
def lS (a:Val aa):Option (Int):=MG a some
def DW (d:Int) (e:Int) (k:Val aL→Option ρ):Option ρ :=
  Ä (uu d) fun b=>Ä (uu e) fun c=>Ä (NG b c) fun a=>ifb (A5 a 0) (none) (ifb (A5 a 0) (none) (ifb (igt (IntKind.wrap .u64 (Int.tdiv b a)) 2147483647) (k (((0:Int),(0:Int)),(3:Int))) (ifb (igt (IntKind.wrap .u64 (Int.tdiv c a)) 2147483647) (k (((0:Int),(0:Int)),(3:Int))) (ifb (!((ilt d 0)==(ilt e 0))) (ck (0-(IntKind.wrap .i64 (IntKind.wrap .u64 (Int.tdiv b a)))) fun f=>k ((f,(IntKind.wrap .i64 (IntKind.wrap .u64 (Int.tdiv c a)))),(0:Int))) (k (((IntKind.wrap .i64 (IntKind.wrap .u64 (Int.tdiv b a))),(IntKind.wrap .i64 (IntKind.wrap .u64 (Int.tdiv c a)))),(0:Int)))))))
def sn (a:Int) (b:Int):Option ((Val aL)):=DW a b some
def Yr (a:Val Ã) (b:Val Ã) (k:Val aL→Option ρ):Option ρ :=
  Ä (lS ([a,b])) fun c=>ifb (ine c 0) (k (((0:Int),(0:Int)),c)) (ck (a.1*b.2) fun e=>ck (b.1*a.2) fun f=>ck (e-f) fun g=>ck (a.2*b.2) fun h=>Ä (sn g h) fun d=>k (d.1,d.2))
def TA (a:Val Ã) (b:Val Ã):Option ((Val aL)):=Yr a b some
def xU (a:Val Ã) (b:Val Ã) (k:Val Ã→Option ρ):Option ρ :=
  Ä (TA a b) fun c=>k c.1
def yl (a:Val Ã) (b:Val Ã):Option (Val Ã):=xU a b some
def Yo (a:Val Ã) (b:Val Ã) (k:Int→Option ρ):Option ρ :=
  ck (a.1*b.2) fun c=>ck (b.1*a.2) fun d=>ifb ((A5 a.1 b.1)&&((A5 a.2 b.2)&&true)) (k (0:Int)) (ifb (ilt c d) (k (-1:Int)) (ifb (igt c d) (k (1:Int)) (k (0:Int))))
def NH (a:Val Ã) (b:Val Ã):Option (Int):=Yo a b some
def vg (a:Val Ę) (k:Bool→Option ρ):Option ρ :=
  Ä (lS ([a.1,a.2])) fun b=>ifb (ieq b 0) (Ä (NH a.1 a.2) fun c=>k (ile c 0)) (k false)
def vt (a:Val Ę):Option (Bool):=vg a some
def Yu (a:Val Ã) (b:Val Ã) (k:Val aL→Option ρ):Option ρ :=
  Ä (lS ([a,b])) fun c=>ifb (ine c 0) (k (((0:Int),(0:Int)),c)) (ck (a.1*b.1) fun e=>ck (a.2*b.2) fun f=>Ä (sn e f) fun d=>k (d.1,d.2))
def NJ (a:Val Ã) (b:Val Ã):Option ((Val aL)):=Yu a b some
def MO (c:Val Ę) (d:Val Ã) (k:(Val (.pair Ę tI))→Option ρ):Option ρ :=
  Ä (vt c) fun e=>ifb (!e) (k ((((0:Int),(0:Int)),(0:Int),(0:Int)),(1:Int))) (Ä (wO d) fun f=>ifb (!f) (k ((((0:Int),(0:Int)),(0:Int),(0:Int)),(1:Int))) (Ä (NJ d c.1) fun a=>ifb (ine a.2 0) (k ((((0:Int),(0:Int)),(0:Int),(0:Int)),a.2)) (Ä (NJ d c.2) fun b=>ifb (ine b.2 0) (k ((((0:Int),(0:Int)),(0:Int),(0:Int)),b.2)) (Ä (NH a.1 b.1) fun g=>ifb (igt g 0) (k ((b.1,a.1),(0:Int))) (k ((a.1,b.1),(0:Int)))))))
def NI (a:Val Ę) (b:Val Ã):Option ((Val (.pair Ę tI))):=MO a b some
def xT (b:Val Ã) (a:Val Ã) (k:Val Ę→Option ρ):Option ρ :=
  Ä (NI ((a.1,(1:Int)),a.2,(1:Int)) b) fun c=>k c.1
def qG (a:Val Ã) (b:Val Ã):Option (Val Ę):=xT a b some
def Ic (c:Val Ê) (a:Val Þ) (k:Val Ę→Option ρ):Option ρ :=
  Ä (Ł c) fun b=>Ä (iq a.2.2.1 a.2.2.2.1) fun d=>Ä (jt b d) fun e=>Ä (iq a.2.2.2.1 a.2.2.1) fun f=>Ä (jt b f) fun g=>Ä (yl e g) fun h=>Ä (qG h a.2.2.2.2.2.2) fun i=>k i
def wP (a:Val Ê) (b:Val Þ):Option (Val Ę):=Ic a b some
def M8 (a:Val Ê) (b:Val Þ) (k:Val Ã→Option ρ):Option ρ :=
  ck ((à b.2.2.1)-(1:Int)) fun c=>ck ((à b.2.2.2.1)-(1:Int)) fun d=>ck ((PG (0:Int) c)*a.1.1) fun e=>ck ((PG (0:Int) d)*a.1.2) fun f=>ck (e-f) fun g=>ck ((PG (0:Int) c)*a.1.2) fun h=>ck ((PG (0:Int) d)*a.1.1) fun i=>ck (h-i) fun j=>k (g,j)
def A0 (a:Val Ê) (b:Val Þ):Option (Val Ã):=M8 a b some
def ML (b:Int) (a:Int) (k:Int→Option ρ):Option ρ :=
  ifb (A5 a 0) (none) (ck (Int.tdiv b a) fun c=>ifb (A5 a 0) (none) (ifb (ilt (Int.tmod b a) 0) (ck (c-1) fun d=>k d) (k c)))
def AZ (a:Int) (b:Int):Option (Int):=ML a b some
def MQ (a:Val Ã) (k:Val Ã→Option ρ):Option ρ :=
  Ä (lS ([a])) fun b=>ifb (ine b 0) (k ((0:Int),b)) (Ä (AZ a.1 a.2) fun c=>k (c,(0:Int)))
def GU (a:Val Ã):Option (Val Ã):=MQ a some
def SH (a:Val Ã) (k:Val Ã→Option ρ):Option ρ :=
  Ä (lS ([a])) fun b=>ifb (ine b 0) (k ((0:Int),b)) (ck (0-a.1) fun c=>Ä (AZ c a.2) fun d=>ck (0-d) fun e=>k (e,(0:Int)))
def KL (a:Val Ã):Option (Val Ã):=SH a some
def SJ (b:Val Ê) (a:Val Þ) (k:Val Ã→Option ρ):Option ρ :=
  Ä (wP b a) fun c=>Ä (A0 b a) fun d=>Ä (GU c.2) fun e=>Ä (KL c.1) fun f=>ck (a.2.2.2.2.1-a.2.2.2.2.2.1) fun g=>ck (g-d.2) fun h=>ck (h-e.1) fun i=>ck (a.2.2.2.2.1+a.2.2.2.2.2.1) fun j=>ck (j-d.1) fun l=>ck (l-f.1) fun m=>k (i,m)
def BK (a:Val Ê) (b:Val Þ):Option (Val Ã):=SJ a b some
def xX (b:Int) (e:Val ab) (h:Int) (j:Int) (k:Int) (l:Val ae) (m:Val aa) (n:Val af) (o:Val ac) (p:Val aa) (q:Int) (r:Int) (s:Int) (t:Int) (u:Int) (v:Int) (w:Int) (x:Int) (a:Int) (f:Val ak) (g:Val aa) (y:Int→Val ak→Val aa→Option ρ) (z:(Val (.pair ak aa))→Option ρ):Option ρ :=
  ifb (ilt a (à e)) (ck (h+a) fun A=>ck (A-1) fun c=>ck (h+a) fun d=>ck (a-(1:Int)) fun B=>ą e B fun C=>ą e a fun D=>Ä (uw ((j,k),l,m,n,o,p) (q,r,s,(t,u),(v,w),x) C D) fun E=>ck (0-E) fun F=>ck (0-F) fun i=>è (ñ ((List.length f)+(List.length ([(c,d,(0:Int)),(d,c,i)])))) (è (ñ ((List.length g)+(List.length ([((2:Int),b),((2:Int),b)])))) (ck (a+(1:Int)) fun G=>y G (f++([(c,d,(0:Int)),(d,c,i)])) (g++([((2:Int),b),((2:Int),b)]))))) (z (f,g))
def xY (q:Val ae) (r:Int) (f:Int) (g:Int) (h:Val ae) (i:Val aa) (j:Val af) (k:Val ac) (l:Val aa) (s:Val aa) (t:Int) (b:Int) (d:Val ak) (e:Val aa) (u:Int→Val ak→Val aa→Option ρ) (v:(Val (.pair ak aa))→Option ρ):Option ρ :=
  ifb (ilt b r) (ą q b fun a=>Ä (qH ((f,g),h,i,j,k,l) a) fun w=>Ä (mS (((f,g),h,i,j,k,l),s,(t,d),e) ([a.1]) a.2.1) fun c=>ck (a.2.2.1+a.2.2.2.1.1) fun x=>ck (a.2.2.1+a.2.2.2.1.2) fun n=>ck (0-x) fun o=>è (ñ ((List.length d)+(List.length ([((0:Int),c,n),(c,(0:Int),o)])))) (è (ñ ((List.length e)+(List.length ([((1:Int),b),((1:Int),b)])))) (Í (fun(m:Val bf) y=>xX b w c f g h i j k l a.1 a.2.1 a.2.2.1 a.2.2.2.1.1 a.2.2.2.1.2 a.2.2.2.2.1.1 a.2.2.2.2.1.2 a.2.2.2.2.2 m.1 m.2.1 m.2.2 (fun z A B=>y (z,A,B)) (fun p=>ck (b+(1:Int)) fun C=>u C p.1 p.2)) ((1:Int),(d++([((0:Int),c,n),(c,(0:Int),o)])),(e++([((1:Int),b),((1:Int),b)])))))) (v (d,e))
def xW (r:Val ac) (s:Int) (g:Int) (h:Int) (i:Val ae) (j:Val aa) (k:Val af) (l:Val ac) (m:Val aa) (o:Val aa) (p:Int) (a:Int) (c:Val ak) (d:Val aa) (t:Int→Val ak→Val aa→Option ρ) (u:(Val (.pair ak aa))→Option ρ):Option ρ :=
  ifb (ilt a s) (ą r a fun b=>Ä (iq b.2.2.2.1 b.2.2.1) fun v=>Ä (mS (((g,h),i,j,k,l,m),o,(p,c),d) v b.2.1) fun e=>Ä (iq b.2.2.1 b.2.2.2.1) fun w=>Ä (mS (((g,h),i,j,k,l,m),o,(p,c),d) w b.2.1) fun f=>Ä (BK ((g,h),i,j,k,l,m) b) fun n=>ck (0-n.1) fun q=>è (ñ ((List.length c)+(List.length ([(e,f,n.2),(f,e,q)])))) (è (ñ ((List.length d)+(List.length ([((3:Int),a),((3:Int),a)])))) (ck (a+(1:Int)) fun x=>t x (c++([(e,f,n.2),(f,e,q)])) (d++([((3:Int),a),((3:Int),a)]))))) (u (c,d))
def SM (a:Val Ê) (k:Val aY→Option ρ):Option ρ :=
  Ä (sq a) fun b=>ck ((à b)+(1:Int)) fun c=>Í (fun(d:Val bf) h=>xY a.2.1 (à a.2.1) a.1.1 a.1.2 a.2.1 a.2.2.1 a.2.2.2.1 a.2.2.2.2.1 a.2.2.2.2.2 b c d.1 d.2.1 d.2.2 (fun i j l=>h (i,j,l)) (fun f=>Í (fun(e:Val bf) m=>xW a.2.2.2.2.1 (à a.2.2.2.2.1) a.1.1 a.1.2 a.2.1 a.2.2.1 a.2.2.2.1 a.2.2.2.2.1 a.2.2.2.2.2 b c e.1 e.2.1 e.2.2 (fun n o p=>m (n,o,p)) (fun g=>k (a,b,(c,g.1),g.2))) ((0:Int),f.1,f.2))) ((0:Int),[],[])
def KM (a:Val Ê):Option ((Val aY)):=SM a some
def Ih (a:Val Ê) (k:(Val (.pair Ö bi))→Option ρ):Option ρ :=
  Ä (Ř a) fun b=>ifb (ine b 0) (k (((0:Int),[]),[],b)) (Ä (KM a) fun c=>k (c.2.2.1,c.2.2.2,(0:Int)))
def iX (a:Val Ê):Option ((Val (.pair Ö bi))):=Ih a some
def Sc (b:Val Ö) (a:Int) (k:Bool→Option ρ):Option ρ :=
  ifb (ige a 0) (k (ilt a b.1)) (k false)
def BJ (a:Val Ö) (b:Int):Option (Bool):=Sc a b some
def tV (f:Val ak) (g:Int) (d:Int) (e:Val ak) (a:Int) (h:Int→Option ρ) (c:Val Ã→Option ρ) (i:Unit→Option ρ):Option ρ :=
  ifb (ilt a g) (ą f a fun b=>Ä (BJ (d,e) b.1) fun j=>ifb (!j) (c ((1:Int),a)) (Ä (BJ (d,e) b.2.1) fun k=>ifb (!k) (c ((1:Int),a)) (ifb (ieq b.1 b.2.1) (c ((1:Int),a)) (ifb (ilt b.2.2 (-4503599627370496:Int)) (c ((1:Int),a)) (ifb (igt b.2.2 4503599627370496) (c ((1:Int),a)) (ck (a+(1:Int)) fun l=>h l)))))) (i ())
def MC (a:Val Ö) (k:Val Ã→Option ρ):Option ρ :=
  ifb (ilt a.1 1) (k ((1:Int),(-1:Int))) (ifb (igt a.1 60) (k ((1:Int),(-1:Int))) (ifb (igt (à a.2) 300) (k ((2:Int),(-1:Int))) (Í (fun(c:Int) d=>tV a.2 (à a.2) a.1 a.2 c (fun e=>d e) (fun b=>k (b.1,b.2)) (fun _=>k ((0:Int),(-1:Int)))) (0:Int))))
def wN (a:Val Ö):Option (Val Ã):=MC a some
def iV (c:Val ak) (d:Int) (b:Int) (a:Int) (e:Int→Int→Option ρ) (f:Int→Option ρ):Option ρ :=
  ifb (ilt a d) (ą c a fun g=>ck (b+(aai g.2.2 (0:Int))) fun h=>ck (a+(1:Int)) fun i=>e h i) (f b)
def ū (f:Int) (d:Val ab) (a:Int) (b:Val aw) (c:Val ab) (e:Int→Val aw→Val ab→Option ρ) (g:Val aQ→Option ρ):Option ρ :=
  ifb (ilt a f) (è ((ile 0 a)&&(ilt a (ú d))) (Ŝ d (Int.toNat a) fun h=>ifb (ine h 1152921504606846976) (è (ñ ((List.length c)+(List.length ([a])))) (è ((ile 0 a)&&(ilt a (ú b))) (Ŝ b (Int.toNat a) fun k=>ck (a+(1:Int)) fun i=>e i (List.set b (Int.toNat a) true) (c++([a]))))) (ck (a+(1:Int)) fun j=>e j b c))) (g (b,c))
def jZ (m:Val ar) (j:Int) (d:Int) (n:Val ak) (o:Int) (f:Int) (b:Val ab) (c:Val aw) (e:Val ab) (g:Int→Val ab→Val aw→Val ab→Option ρ) (l:(Val (.pair .bool (.pair ab aQ)))→Option ρ) (p:(Val (.pair ab aQ))→Option ρ):Option ρ :=
  ifb (ilt f o) (ą n f fun a=>ifb (ine a.1 d) (ck (f+(1:Int)) fun q=>g q b c e) (KD (k:=tI) (v:=.bool) f m (fun r=>ifb r (ck (f+(1:Int)) fun s=>g s b c e) (è ((ile 0 d)&&(ilt d (ú b))) (Ŝ b (Int.toNat d) fun t=>ck (t+a.2.2) fun u=>è ((ile 0 a.2.1)&&(ilt a.2.1 (ú b))) (Ŝ b (Int.toNat a.2.1) fun w=>ifb (ige u w) (ck (f+(1:Int)) fun x=>g x b c e) (è ((ile 0 d)&&(ilt d (ú b))) (Ŝ b (Int.toNat d) fun y=>ck (y+a.2.2) fun h=>è ((ile 0 a.2.1)&&(ilt a.2.1 (ú b))) (Ŝ b (Int.toNat a.2.1) fun M=>è ((ile 0 a.2.1)&&(ilt a.2.1 (ú (List.set b (Int.toNat a.2.1) h)))) (Ŝ (List.set b (Int.toNat a.2.1) h) (Int.toNat a.2.1) fun z=>ifb (ilt z j) (l (false,(List.set b (Int.toNat a.2.1) h),c,e)) (è ((ile 0 a.2.1)&&(ilt a.2.1 (ú c))) (Ŝ c (Int.toNat a.2.1) fun A=>ifb (!A) (è (ñ ((List.length e)+(List.length ([a.2.1])))) (è ((ile 0 a.2.1)&&(ilt a.2.1 (ú c))) (Ŝ c (Int.toNat a.2.1) fun N=>ck (f+(1:Int)) fun B=>g B (List.set b (Int.toNat a.2.1) h) (List.set c (Int.toNat a.2.1) true) (e++([a.2.1]))))) (ck (f+(1:Int)) fun C=>g C (List.set b (Int.toNat a.2.1) h) c e))))))))))) (è ((ile 0 d)&&(ilt d (ú b))) (Ŝ b (Int.toNat d) fun D=>ck (D+a.2.2) fun E=>è ((ile 0 a.2.1)&&(ilt a.2.1 (ú b))) (Ŝ b (Int.toNat a.2.1) fun F=>ifb (ige E F) (ck (f+(1:Int)) fun G=>g G b c e) (è ((ile 0 d)&&(ilt d (ú b))) (Ŝ b (Int.toNat d) fun H=>ck (H+a.2.2) fun i=>è ((ile 0 a.2.1)&&(ilt a.2.1 (ú b))) (Ŝ b (Int.toNat a.2.1) fun O=>è ((ile 0 a.2.1)&&(ilt a.2.1 (ú (List.set b (Int.toNat a.2.1) i)))) (Ŝ (List.set b (Int.toNat a.2.1) i) (Int.toNat a.2.1) fun I=>ifb (ilt I j) (l (false,(List.set b (Int.toNat a.2.1) i),c,e)) (è ((ile 0 a.2.1)&&(ilt a.2.1 (ú c))) (Ŝ c (Int.toNat a.2.1) fun J=>ifb (!J) (è (ñ ((List.length e)+(List.length ([a.2.1])))) (è ((ile 0 a.2.1)&&(ilt a.2.1 (ú c))) (Ŝ c (Int.toNat a.2.1) fun P=>ck (f+(1:Int)) fun K=>g K (List.set b (Int.toNat a.2.1) i) (List.set c (Int.toNat a.2.1) true) (e++([a.2.1]))))) (ck (f+(1:Int)) fun L=>g L (List.set b (Int.toNat a.2.1) i) c e)))))))))))) (p (b,c,e))
def ļ (l:Val ar) (m:Int) (n:Int) (k:Val ak) (h:Val ab) (d:Val aw) (b:Val ab) (c:Val ab) (o:Val ab→Val aw→Val ab→Val ab→Option ρ) (i:(Val (.pair .bool aR))→Option ρ):Option ρ :=
  ifb (ieq (à c) 0) (i (true,h,d,b,c)) (è (ilt 0 (ú c)) (Ŝ c 0 fun a=>è (ile 1 (ú c)) (è (decide (1+(List.length c-1)=List.length c)) (è ((ile 0 a)&&(ilt a (ú d))) (Ŝ d (Int.toNat a) fun x=>è ((ile 0 a)&&(ilt a (ú b))) (Ŝ b (Int.toNat a) fun p=>ck (p+(1:Int)) fun e=>è ((ile 0 a)&&(ilt a (ú b))) (Ŝ b (Int.toNat a) fun y=>è ((ile 0 a)&&(ilt a (ú (List.set b (Int.toNat a) e)))) (Ŝ (List.set b (Int.toNat a) e) (Int.toNat a) fun q=>ck (n+(1:Int)) fun r=>ifb (igt q r) (i (false,h,(List.set d (Int.toNat a) false),(List.set b (Int.toNat a) e),(List.drop 1 c))) (Í (fun(f:(Val (.pair tI (.pair ab aQ)))) s=>jZ l m a k (à k) f.1 f.2.1 f.2.2.1 f.2.2.2 (fun t u v w=>s (t,u,v,w)) (fun g=>i (g.1,g.2.1,g.2.2.1,(List.set b (Int.toNat a) e),g.2.2.2)) (fun j=>o j.1 j.2.1 (List.set b (Int.toNat a) e) j.2.2)) ((0:Int),h,(List.set d (Int.toNat a) false),(List.drop 1 c)))))))))))
def jY (c:Int) (d:Int) (a:Int) (b:Val ab) (e:Int→Val ab→Option ρ) (f:Val ab→Option ρ):Option ρ :=
  ifb (ilt a d) (è ((ile 0 a)&&(ilt a (ú b))) (Ŝ b (Int.toNat a) fun g=>ck (g-c) fun h=>è ((ile 0 a)&&(ilt a (ú b))) (Ŝ b (Int.toNat a) fun j=>ck (a+(1:Int)) fun i=>e i (List.set b (Int.toNat a) h)))) (f b)
def Aj (a:Val Ö) (h:Val ar) (k:(Val (.pair ab .bool))→Option ρ):Option ρ :=
  è ((ile 0 a.1)&&(ñ (Int.toNat a.1))) (è ((ile 0 a.1)&&(ñ (Int.toNat a.1))) (è ((ile 0 a.1)&&(ñ (Int.toNat a.1))) (Í (fun(e:Val Ã) i=>iV a.2 (à a.2) e.1 e.2 (fun j l=>i (j,l)) (fun m=>Í (fun(d:(Val (.pair tI aQ))) n=>ū a.1 (List.replicate (Int.toNat a.1) (0:Int)) d.1 d.2.1 d.2.2 (fun o p q=>n (o,p,q)) (fun f=>Í (fun(c:Val aR) r=>ļ h m a.1 a.2 c.1 c.2.1 c.2.2.1 c.2.2.2 (fun s t u v=>r (s,t,u,v)) (fun b=>ifb (!b.1) (k ([],false)) (è (ilt 0 (ú b.2.1)) (Ŝ b.2.1 0 fun w=>Í (fun(g:Val Ŋ) x=>jY w (à b.2.1) g.1 g.2 (fun y z=>x (y,z)) (fun A=>k (A,true))) ((0:Int),b.2.1))))) ((List.replicate (Int.toNat a.1) (0:Int)),f.1,(List.replicate (Int.toNat a.1) (0:Int)),f.2))) ((0:Int),(List.replicate (Int.toNat a.1) false),[]))) ((0:Int),(0:Int)))))
def mR (a:Val Ö) (b:Val ar):Option ((Val (.pair ab .bool))):=Aj a b some
def vf (a:Val Ö) (k:Val aK→Option ρ):Option ρ :=
  Ä (wN a) fun b=>ifb (ine b.1 0) (k (false,b.1)) (Ä (mR a ([])) fun c=>k (c.2,(0:Int)))
def jw (a:Val Ö):Option ((Val aK)):=vf a some
def zR (a:Val Â) (b:Val ah) (k:Bool→Option ρ):Option ρ :=
  Ä (ky a b) fun c=>Ä (iX c) fun d=>Ä (jw d.1) fun e=>k e.1
def j9 (a:Val Â) (b:Val ah):Option (Bool):=zR a b some
def qv (d:Int) (e:Val ab) (f:Int) (g:Val ai) (b:Int) (a:Int) (c:Int→Int→Option ρ) (h:Int→Option ρ):Option ρ :=
  ifb (ilt a f) (ą e a fun i=>ą g d fun j=>ą j.2 a fun k=>ifb (ine k i) (ck (b+(1:Int)) fun l=>ck (a+(1:Int)) fun m=>c l m) (ck (a+(1:Int)) fun n=>c b n)) (h b)
def qw (e:Val ah) (f:Int) (g:Val ai) (b:Int) (a:Int) (h:Int→Int→Option ρ) (i:Int→Option ρ):Option ρ :=
  ifb (ilt a f) (ą e a fun c=>Í (fun(d:Val Ã) j=>qv a c (à c) g d.1 d.2 (fun k l=>j (k,l)) (fun m=>ck (a+(1:Int)) fun n=>h m n)) (b,(0:Int))) (i b)
def HE (c:Val Â) (a:Val ah) (k:Int→Option ρ):Option ρ :=
  Í (fun(b:Val Ã) d=>qw a (à a) c.2 b.1 b.2 (fun e f=>d (e,f)) (fun g=>k g)) ((0:Int),(0:Int))
def Ĺ (a:Val Â) (b:Val ah):Option (Int):=HE a b some
def rZ (a:Int) (k:Bool→Option ρ):Option ρ :=
  k (ine a a)
def nJ (a:Int):Option (Bool):=rZ a some
def oJ (a:Int) (b:Int) (k:Int→Option ρ):Option ρ :=
  Ä (nJ a) fun d=>Ä (nJ b) fun c=>ifb d (ifb c (k (0:Int)) (k (-1:Int))) (ifb c (k (1:Int)) (ifb (ilt a b) (k (-1:Int)) (ifb (igt a b) (k (1:Int)) (k (0:Int)))))
def kD (a:Int) (b:Int):Option (Int):=oJ a b some
def HF (b:Val ah) (c:Val ah) (a:Val ax) (k:Int→Option ρ):Option ρ :=
  Ä (Ĺ a b) fun d=>Ä (Ĺ a c) fun e=>Ä (kD d e) fun f=>k f
def kv (a:Val ah) (b:Val ah) (c:Val ax):Option (Int):=HF a b c some
def î (h:Int) (i:Int) (j:Int) (k:Val ae) (l:Val aa) (m:Val af) (n:Val ac) (o:Val aa) (p:Val ai) (a:Int) (b:Val am) (q:Int→Val am→Option ρ) (g:Val am→Option ρ):Option ρ :=
  ifb (igt a h) (è ((ile 0 a)&&(ilt a (ú b))) (Ŝ b (Int.toNat a) fun r=>ck (a-(1:Int)) fun d=>è ((ile 0 d)&&(ilt d (ú b))) (Ŝ b (Int.toNat d) fun s=>Ä (kv r s (((i,j),k,l,m,n,o),p)) fun t=>ifb (ilt t 0) (ck (a-(1:Int)) fun c=>ck (a-(1:Int)) fun e=>è ((ile 0 e)&&(ilt e (ú b))) (Ŝ b (Int.toNat e) fun f=>è ((ile 0 a)&&(ilt a (ú b))) (Ŝ b (Int.toNat a) fun u=>è ((ile 0 a)&&(ilt a (ú b))) (Ŝ b (Int.toNat a) fun w=>è ((ile 0 c)&&(ilt c (ú (List.set b (Int.toNat a) f)))) (Ŝ (List.set b (Int.toNat a) f) (Int.toNat c) fun x=>ck (a-(1:Int)) fun v=>q v (List.set (List.set b (Int.toNat a) f) (Int.toNat c) u)))))) (g b)))) (g b)
def ē (d:Int) (e:Int) (f:Int) (g:Int) (h:Val ae) (i:Val aa) (j:Val af) (k:Val ac) (l:Val aa) (m:Val ai) (a:Int) (b:Val am) (n:Int→Val am→Option ρ) (o:Val am→Option ρ):Option ρ :=
  ifb (ilt a e) (Í (fun(c:Val aF) p=>î d f g h i j k l m c.1 c.2 (fun q r=>p (q,r)) (fun s=>ck (a+(1:Int)) fun t=>n t s)) (a,b)) (o b)
def Δ (c:Val am) (a:Int) (d:Int) (mm:Val Â) (k:((Val am))×(Val Â)→Option ρ):Option ρ :=
  ck (a+(1:Int)) fun e=>Í (fun(b:Val aF) f=>ē a d mm.1.1.1 mm.1.1.2 mm.1.2.1 mm.1.2.2.1 mm.1.2.2.2.1 mm.1.2.2.2.2.1 mm.1.2.2.2.2.2 mm.2 b.1 b.2 (fun g h=>f (g,h)) (fun i=>k (i,mm))) (e,c)
def í (a:Val am) (b:Int) (c:Int) (mm:Val Â):Option (((Val am))×(Val Â)):=Δ a b c mm some
def Ē (h:Int) (i:Int) (j:Int) (b:Int) (a:Val am) (k:Int→Val am→Option ρ) (l:Val am→Option ρ):Option ρ :=
  ifb (ilt b j) (ck (h+b) fun c=>ck (i+b) fun d=>ck (i+b) fun e=>è ((ile 0 e)&&(ilt e (ú a))) (Ŝ a (Int.toNat e) fun f=>ck (h+b) fun g=>è ((ile 0 g)&&(ilt g (ú a))) (Ŝ a (Int.toNat g) fun m=>è ((ile 0 c)&&(ilt c (ú a))) (Ŝ a (Int.toNat c) fun o=>è ((ile 0 d)&&(ilt d (ú (List.set a (Int.toNat c) f)))) (Ŝ (List.set a (Int.toNat c) f) (Int.toNat d) fun p=>ck (b+(1:Int)) fun n=>k n (List.set (List.set a (Int.toNat c) f) (Int.toNat d) m)))))) (l a)
def iU (h:Int) (i:Int) (j:Int) (b:Int) (a:Val am) (k:Int→Val am→Option ρ) (l:Val am→Option ρ):Option ρ :=
  ifb (ilt b j) (ck (h+b) fun c=>ck (i+b) fun d=>ck (i+b) fun e=>è ((ile 0 e)&&(ilt e (ú a))) (Ŝ a (Int.toNat e) fun f=>ck (h+b) fun g=>è ((ile 0 g)&&(ilt g (ú a))) (Ŝ a (Int.toNat g) fun m=>è ((ile 0 c)&&(ilt c (ú a))) (Ŝ a (Int.toNat c) fun o=>è ((ile 0 d)&&(ilt d (ú (List.set a (Int.toNat c) f)))) (Ŝ (List.set a (Int.toNat c) f) (Int.toNat d) fun p=>ck (b+(1:Int)) fun n=>k n (List.set (List.set a (Int.toNat c) f) (Int.toNat d) m)))))) (l a)
def Ń (c:Int) (a:Int) (b:Int) (d:Val am) (e:Int→Int→Val am→Option ρ) (h:Val aF→Option ρ):Option ρ :=
  ifb (ine a b) (ifb (igt a b) (ck (c-a) fun i=>Í (fun(f:Val aF) j=>Ē i c b f.1 f.2 (fun k l=>j (k,l)) (fun m=>ck (a-b) fun n=>e n b m)) ((0:Int),d)) (ck (c-a) fun o=>ck (c+b) fun p=>ck (p-a) fun q=>Í (fun(g:Val aF) r=>iU o q a g.1 g.2 (fun s t=>r (s,t)) (fun u=>ck (b-a) fun v=>e a v u)) ((0:Int),d))) (h (a,d))
def iT (h:Int) (i:Int) (j:Int) (b:Int) (a:Val am) (k:Int→Val am→Option ρ) (l:Val am→Option ρ):Option ρ :=
  ifb (ilt b j) (ck (h+b) fun c=>ck (i+b) fun d=>ck (i+b) fun e=>è ((ile 0 e)&&(ilt e (ú a))) (Ŝ a (Int.toNat e) fun f=>ck (h+b) fun g=>è ((ile 0 g)&&(ilt g (ú a))) (Ŝ a (Int.toNat g) fun m=>è ((ile 0 c)&&(ilt c (ú a))) (Ŝ a (Int.toNat c) fun o=>è ((ile 0 d)&&(ilt d (ú (List.set a (Int.toNat c) f)))) (Ŝ (List.set a (Int.toNat c) f) (Int.toNat d) fun p=>ck (b+(1:Int)) fun n=>k n (List.set (List.set a (Int.toNat c) f) (Int.toNat d) m)))))) (l a)
def jW (e:Val am) (f:Int) (a:Int) (g:Int) (mm:Val Â) (k:((Val am))×(Val Â)→Option ρ):Option ρ :=
  ck (a-f) fun h=>ck (g-a) fun i=>Í (fun(b:(Val (.pair tI aF))) j=>Ń a b.1 b.2.1 b.2.2 (fun l m n=>j (l,m,n)) (fun c=>ck (a-c.1) fun o=>Í (fun(d:Val aF) p=>iT o a c.1 d.1 d.2 (fun q r=>p (q,r)) (fun s=>k (s,mm))) ((0:Int),c.2))) (h,i,e)
def Ņ (a:Val am) (b:Int) (c:Int) (d:Int) (mm:Val Â):Option (((Val am))×(Val Â)):=jW a b c d mm some
def ā (rec:Val am→Int→Int→Int→Val Â→Option ((Val am)×(Val Â))) (d:Int) (b:Val am) (g:Int) (h:Int) (i:Val ae) (j:Val aa) (k:Val af) (l:Val ac) (m:Val aa) (n:Val ai) (c:Int) (e:Int) (f:Int→Int→Option ρ) (o:Int→Option ρ):Option ρ :=
  ifb (ilt c e) (ck (c+e) fun a=>è ((ile 0 (IntKind.wrap .i64 (jy .u64 (IntKind.wrap .u64 a) (1:Int))))&&(ilt (IntKind.wrap .i64 (jy .u64 (IntKind.wrap .u64 a) (1:Int))) (ú b))) (Ŝ b (Int.toNat (IntKind.wrap .i64 (jy .u64 (IntKind.wrap .u64 a) (1:Int)))) fun p=>è ((ile 0 d)&&(ilt d (ú b))) (Ŝ b (Int.toNat d) fun q=>Ä (kv p q (((g,h),i,j,k,l,m),n)) fun r=>ifb (ilt r 0) (ck ((IntKind.wrap .i64 (jy .u64 (IntKind.wrap .u64 a) (1:Int)))+(1:Int)) fun s=>f s e) (f c (IntKind.wrap .i64 (jy .u64 (IntKind.wrap .u64 a) (1:Int))))))) (o c)
def ô (rec:Val am→Int→Int→Int→Val Â→Option ((Val am)×(Val Â))) (f:Int) (a:Int) (b:Val am) (g:Int→Val am→Option ρ) (h:Val am→Option ρ):Option ρ :=
  ck (f-(1:Int)) fun i=>ifb (ilt a i) (ck (a+(1:Int)) fun c=>ck (a+(1:Int)) fun d=>è ((ile 0 d)&&(ilt d (ú b))) (Ŝ b (Int.toNat d) fun e=>è ((ile 0 a)&&(ilt a (ú b))) (Ŝ b (Int.toNat a) fun j=>è ((ile 0 a)&&(ilt a (ú b))) (Ŝ b (Int.toNat a) fun l=>è ((ile 0 c)&&(ilt c (ú (List.set b (Int.toNat a) e)))) (Ŝ (List.set b (Int.toNat a) e) (Int.toNat c) fun m=>ck (a+(1:Int)) fun k=>g k (List.set (List.set b (Int.toNat a) e) (Int.toNat c) j)))))) (h b)
def Ā (rec:Val am→Int→Int→Int→Val Â→Option ((Val am)×(Val Â))) (d:Int) (b:Val am) (g:Int) (h:Int) (i:Val ae) (j:Val aa) (k:Val af) (l:Val ac) (m:Val aa) (n:Val ai) (c:Int) (e:Int) (f:Int→Int→Option ρ) (o:Int→Option ρ):Option ρ :=
  ifb (ilt c e) (ck (c+e) fun a=>è ((ile 0 d)&&(ilt d (ú b))) (Ŝ b (Int.toNat d) fun p=>è ((ile 0 (IntKind.wrap .i64 (jy .u64 (IntKind.wrap .u64 a) (1:Int))))&&(ilt (IntKind.wrap .i64 (jy .u64 (IntKind.wrap .u64 a) (1:Int))) (ú b))) (Ŝ b (Int.toNat (IntKind.wrap .i64 (jy .u64 (IntKind.wrap .u64 a) (1:Int)))) fun q=>Ä (kv p q (((g,h),i,j,k,l,m),n)) fun r=>ifb (!(ilt r 0)) (ck ((IntKind.wrap .i64 (jy .u64 (IntKind.wrap .u64 a) (1:Int)))+(1:Int)) fun s=>f s e) (f c (IntKind.wrap .i64 (jy .u64 (IntKind.wrap .u64 a) (1:Int))))))) (o c)
def ó (rec:Val am→Int→Int→Int→Val Â→Option ((Val am)×(Val Â))) (f:Int) (a:Int) (b:Val am) (g:Int→Val am→Option ρ) (h:Val am→Option ρ):Option ρ :=
  ifb (igt a f) (ck (a-(1:Int)) fun c=>ck (a-(1:Int)) fun d=>è ((ile 0 d)&&(ilt d (ú b))) (Ŝ b (Int.toNat d) fun e=>è ((ile 0 a)&&(ilt a (ú b))) (Ŝ b (Int.toNat a) fun i=>è ((ile 0 a)&&(ilt a (ú b))) (Ŝ b (Int.toNat a) fun k=>è ((ile 0 c)&&(ilt c (ú (List.set b (Int.toNat a) e)))) (Ŝ (List.set b (Int.toNat a) e) (Int.toNat c) fun l=>ck (a-(1:Int)) fun j=>g j (List.set (List.set b (Int.toNat a) e) (Int.toNat c) i)))))) (h b)
def á (rec:Val am→Int→Int→Int→Val Â→Option ((Val am)×(Val Â))) (g:Int) (b:Val am) (h:Int) (i:Int) (j:Val ae) (k:Val aa) (l:Val af) (m:Val ac) (n:Val aa) (o:Val ai) (c:Int) (d:Int) (f:Int→Int→Option ρ) (p:Int→Option ρ):Option ρ :=
  ifb (ilt c d) (ck (c+d) fun a=>ck (g-(IntKind.wrap .i64 (jy .u64 (IntKind.wrap .u64 a) (1:Int)))) fun e=>è ((ile 0 e)&&(ilt e (ú b))) (Ŝ b (Int.toNat e) fun q=>è ((ile 0 (IntKind.wrap .i64 (jy .u64 (IntKind.wrap .u64 a) (1:Int))))&&(ilt (IntKind.wrap .i64 (jy .u64 (IntKind.wrap .u64 a) (1:Int))) (ú b))) (Ŝ b (Int.toNat (IntKind.wrap .i64 (jy .u64 (IntKind.wrap .u64 a) (1:Int)))) fun r=>Ä (kv q r (((h,i),j,k,l,m,n),o)) fun s=>ifb (!(ilt s 0)) (ck ((IntKind.wrap .i64 (jy .u64 (IntKind.wrap .u64 a) (1:Int)))+(1:Int)) fun t=>f t d) (f c (IntKind.wrap .i64 (jy .u64 (IntKind.wrap .u64 a) (1:Int))))))) (p c)
def ĭ (rec:Val am→Int→Int→Int→Val Â→Option ((Val am)×(Val Â))) (c:Val am) (f:Int) (g:Int) (b:Int) (mm:Val Â) (k:((Val am))×(Val Â)→Option ρ):Option ρ :=
  ck (g-f) fun R=>ifb (ieq R 1) (Í (fun(t:Val Ã) S=>ā rec f c mm.1.1.1 mm.1.1.2 mm.1.2.1 mm.1.2.2.1 mm.1.2.2.2.1 mm.1.2.2.2.2.1 mm.1.2.2.2.2.2 mm.2 t.1 t.2 (fun T U=>S (T,U)) (fun V=>Í (fun(u:Val aF) W=>ô rec V u.1 u.2 (fun X Y=>W (X,Y)) (fun Z=>k (Z,mm))) (f,c))) (g,b)) (ck (b-g) fun dc=>ifb (ieq dc 1) (Í (fun(v:Val Ã) df=>Ā rec g c mm.1.1.1 mm.1.1.2 mm.1.2.1 mm.1.2.2.1 mm.1.2.2.2.1 mm.1.2.2.2.2.1 mm.1.2.2.2.2.2 mm.2 v.1 v.2 (fun dg dh=>df (dg,dh)) (fun di=>Í (fun(w:Val aF) dj=>ó rec di w.1 w.2 (fun dk dl=>dj (dk,dl)) (fun dm=>k (dm,mm))) (g,c))) (f,g)) (ck (f+b) fun a=>ck ((IntKind.wrap .i64 (jy .u64 (IntKind.wrap .u64 a) (1:Int)))+g) fun s=>ifb (igt g (IntKind.wrap .i64 (jy .u64 (IntKind.wrap .u64 a) (1:Int)))) (ck (s-b) fun dt=>ck (s-1) fun du=>Í (fun(x:Val Ã) dv=>á rec du c mm.1.1.1 mm.1.1.2 mm.1.2.1 mm.1.2.2.1 mm.1.2.2.2.1 mm.1.2.2.2.2.1 mm.1.2.2.2.2.2 mm.2 x.1 x.2 (fun dw dz=>dv (dw,dz)) (fun j=>ck (s-j) fun d=>ifb (ilt j g) (ifb (ilt g d) (Ä (Ņ c j g d mm) fun h=>ifb (ilt f j) (ifb (ilt j (IntKind.wrap .i64 (jy .u64 (IntKind.wrap .u64 a) (1:Int)))) (Ä (rec h.1 f j (IntKind.wrap .i64 (jy .u64 (IntKind.wrap .u64 a) (1:Int))) h.2) fun m=>ifb (ilt (IntKind.wrap .i64 (jy .u64 (IntKind.wrap .u64 a) (1:Int))) d) (ifb (ilt d b) (Ä (rec m.1 (IntKind.wrap .i64 (jy .u64 (IntKind.wrap .u64 a) (1:Int))) d b m.2) fun y=>k (y.1,y.2)) (k (m.1,m.2))) (k (m.1,m.2))) (ifb (ilt (IntKind.wrap .i64 (jy .u64 (IntKind.wrap .u64 a) (1:Int))) d) (ifb (ilt d b) (Ä (rec h.1 (IntKind.wrap .i64 (jy .u64 (IntKind.wrap .u64 a) (1:Int))) d b h.2) fun z=>k (z.1,z.2)) (k (h.1,h.2))) (k (h.1,h.2)))) (ifb (ilt (IntKind.wrap .i64 (jy .u64 (IntKind.wrap .u64 a) (1:Int))) d) (ifb (ilt d b) (Ä (rec h.1 (IntKind.wrap .i64 (jy .u64 (IntKind.wrap .u64 a) (1:Int))) d b h.2) fun A=>k (A.1,A.2)) (k (h.1,h.2))) (k (h.1,h.2)))) (ifb (ilt f j) (ifb (ilt j (IntKind.wrap .i64 (jy .u64 (IntKind.wrap .u64 a) (1:Int)))) (Ä (rec c f j (IntKind.wrap .i64 (jy .u64 (IntKind.wrap .u64 a) (1:Int))) mm) fun n=>ifb (ilt (IntKind.wrap .i64 (jy .u64 (IntKind.wrap .u64 a) (1:Int))) d) (ifb (ilt d b) (Ä (rec n.1 (IntKind.wrap .i64 (jy .u64 (IntKind.wrap .u64 a) (1:Int))) d b n.2) fun B=>k (B.1,B.2)) (k (n.1,n.2))) (k (n.1,n.2))) (ifb (ilt (IntKind.wrap .i64 (jy .u64 (IntKind.wrap .u64 a) (1:Int))) d) (ifb (ilt d b) (Ä (rec c (IntKind.wrap .i64 (jy .u64 (IntKind.wrap .u64 a) (1:Int))) d b mm) fun C=>k (C.1,C.2)) (k (c,mm))) (k (c,mm)))) (ifb (ilt (IntKind.wrap .i64 (jy .u64 (IntKind.wrap .u64 a) (1:Int))) d) (ifb (ilt d b) (Ä (rec c (IntKind.wrap .i64 (jy .u64 (IntKind.wrap .u64 a) (1:Int))) d b mm) fun D=>k (D.1,D.2)) (k (c,mm))) (k (c,mm))))) (ifb (ilt f j) (ifb (ilt j (IntKind.wrap .i64 (jy .u64 (IntKind.wrap .u64 a) (1:Int)))) (Ä (rec c f j (IntKind.wrap .i64 (jy .u64 (IntKind.wrap .u64 a) (1:Int))) mm) fun o=>ifb (ilt (IntKind.wrap .i64 (jy .u64 (IntKind.wrap .u64 a) (1:Int))) d) (ifb (ilt d b) (Ä (rec o.1 (IntKind.wrap .i64 (jy .u64 (IntKind.wrap .u64 a) (1:Int))) d b o.2) fun E=>k (E.1,E.2)) (k (o.1,o.2))) (k (o.1,o.2))) (ifb (ilt (IntKind.wrap .i64 (jy .u64 (IntKind.wrap .u64 a) (1:Int))) d) (ifb (ilt d b) (Ä (rec c (IntKind.wrap .i64 (jy .u64 (IntKind.wrap .u64 a) (1:Int))) d b mm) fun F=>k (F.1,F.2)) (k (c,mm))) (k (c,mm)))) (ifb (ilt (IntKind.wrap .i64 (jy .u64 (IntKind.wrap .u64 a) (1:Int))) d) (ifb (ilt d b) (Ä (rec c (IntKind.wrap .i64 (jy .u64 (IntKind.wrap .u64 a) (1:Int))) d b mm) fun G=>k (G.1,G.2)) (k (c,mm))) (k (c,mm)))))) (dt,(IntKind.wrap .i64 (jy .u64 (IntKind.wrap .u64 a) (1:Int))))) (ck (s-1) fun d9=>Í (fun(H:Val Ã) ee=>á rec d9 c mm.1.1.1 mm.1.1.2 mm.1.2.1 mm.1.2.2.1 mm.1.2.2.2.1 mm.1.2.2.2.2.1 mm.1.2.2.2.2.2 mm.2 H.1 H.2 (fun eh ej=>ee (eh,ej)) (fun l=>ck (s-l) fun e=>ifb (ilt l g) (ifb (ilt g e) (Ä (Ņ c l g e mm) fun i=>ifb (ilt f l) (ifb (ilt l (IntKind.wrap .i64 (jy .u64 (IntKind.wrap .u64 a) (1:Int)))) (Ä (rec i.1 f l (IntKind.wrap .i64 (jy .u64 (IntKind.wrap .u64 a) (1:Int))) i.2) fun p=>ifb (ilt (IntKind.wrap .i64 (jy .u64 (IntKind.wrap .u64 a) (1:Int))) e) (ifb (ilt e b) (Ä (rec p.1 (IntKind.wrap .i64 (jy .u64 (IntKind.wrap .u64 a) (1:Int))) e b p.2) fun I=>k (I.1,I.2)) (k (p.1,p.2))) (k (p.1,p.2))) (ifb (ilt (IntKind.wrap .i64 (jy .u64 (IntKind.wrap .u64 a) (1:Int))) e) (ifb (ilt e b) (Ä (rec i.1 (IntKind.wrap .i64 (jy .u64 (IntKind.wrap .u64 a) (1:Int))) e b i.2) fun J=>k (J.1,J.2)) (k (i.1,i.2))) (k (i.1,i.2)))) (ifb (ilt (IntKind.wrap .i64 (jy .u64 (IntKind.wrap .u64 a) (1:Int))) e) (ifb (ilt e b) (Ä (rec i.1 (IntKind.wrap .i64 (jy .u64 (IntKind.wrap .u64 a) (1:Int))) e b i.2) fun K=>k (K.1,K.2)) (k (i.1,i.2))) (k (i.1,i.2)))) (ifb (ilt f l) (ifb (ilt l (IntKind.wrap .i64 (jy .u64 (IntKind.wrap .u64 a) (1:Int)))) (Ä (rec c f l (IntKind.wrap .i64 (jy .u64 (IntKind.wrap .u64 a) (1:Int))) mm) fun q=>ifb (ilt (IntKind.wrap .i64 (jy .u64 (IntKind.wrap .u64 a) (1:Int))) e) (ifb (ilt e b) (Ä (rec q.1 (IntKind.wrap .i64 (jy .u64 (IntKind.wrap .u64 a) (1:Int))) e b q.2) fun L=>k (L.1,L.2)) (k (q.1,q.2))) (k (q.1,q.2))) (ifb (ilt (IntKind.wrap .i64 (jy .u64 (IntKind.wrap .u64 a) (1:Int))) e) (ifb (ilt e b) (Ä (rec c (IntKind.wrap .i64 (jy .u64 (IntKind.wrap .u64 a) (1:Int))) e b mm) fun M=>k (M.1,M.2)) (k (c,mm))) (k (c,mm)))) (ifb (ilt (IntKind.wrap .i64 (jy .u64 (IntKind.wrap .u64 a) (1:Int))) e) (ifb (ilt e b) (Ä (rec c (IntKind.wrap .i64 (jy .u64 (IntKind.wrap .u64 a) (1:Int))) e b mm) fun N=>k (N.1,N.2)) (k (c,mm))) (k (c,mm))))) (ifb (ilt f l) (ifb (ilt l (IntKind.wrap .i64 (jy .u64 (IntKind.wrap .u64 a) (1:Int)))) (Ä (rec c f l (IntKind.wrap .i64 (jy .u64 (IntKind.wrap .u64 a) (1:Int))) mm) fun r=>ifb (ilt (IntKind.wrap .i64 (jy .u64 (IntKind.wrap .u64 a) (1:Int))) e) (ifb (ilt e b) (Ä (rec r.1 (IntKind.wrap .i64 (jy .u64 (IntKind.wrap .u64 a) (1:Int))) e b r.2) fun O=>k (O.1,O.2)) (k (r.1,r.2))) (k (r.1,r.2))) (ifb (ilt (IntKind.wrap .i64 (jy .u64 (IntKind.wrap .u64 a) (1:Int))) e) (ifb (ilt e b) (Ä (rec c (IntKind.wrap .i64 (jy .u64 (IntKind.wrap .u64 a) (1:Int))) e b mm) fun P=>k (P.1,P.2)) (k (c,mm))) (k (c,mm)))) (ifb (ilt (IntKind.wrap .i64 (jy .u64 (IntKind.wrap .u64 a) (1:Int))) e) (ifb (ilt e b) (Ä (rec c (IntKind.wrap .i64 (jy .u64 (IntKind.wrap .u64 a) (1:Int))) e b mm) fun Q=>k (Q.1,Q.2)) (k (c,mm))) (k (c,mm)))))) (f,g))))
def ī:Nat→Val am→Int→Int→Int→Val Â→Option ((Val am)×(Val Â))
  |0=>fun _ _ _ _ _=>none
  |n+1=>fun a b c d mm=>ĭ (ī n) a b c d mm some
def Ě (a:Val am) (b:Int) (c:Int) (d:Int) (mm:Val Â):Option (((Val am))×(Val Â)):=ī 100 a b c d mm
def iS (m:Int) (n:Int) (c:Int) (b:Int) (d:Val am) (e:Int) (f:Int) (g:Val ae) (h:Val aa) (i:Val af) (j:Val ac) (k:Val aa) (l:Val ai) (o:Int→Int→Val am→Int→Int→Val ae→Val aa→Val af→Val ac→Val aa→Val ai→Option ρ) (p:Val ay→Option ρ):Option ρ :=
  ifb (ile b m) (Ä (í d c b (((e,f),g,h,i,j,k),l)) fun a=>ck (b+n) fun q=>o b q a.1 a.2.1.1.1 a.2.1.1.2 a.2.1.2.1 a.2.1.2.2.1 a.2.1.2.2.2.1 a.2.1.2.2.2.2.1 a.2.1.2.2.2.2.2 a.2.2) (p (c,d,e,f,g,h,i,j,k,l))
def iQ (n:Int) (d:Int) (c:Int) (b:Int) (e:Val am) (f:Int) (g:Int) (h:Val ae) (i:Val aa) (j:Val af) (k:Val ac) (l:Val aa) (m:Val ai) (o:Int→Int→Val am→Int→Int→Val ae→Val aa→Val af→Val ac→Val aa→Val ai→Option ρ) (p:Val ay→Option ρ):Option ρ :=
  ifb (ile b n) (ck (c+d) fun q=>Ä (Ě e c q b (((f,g),h,i,j,k,l),m)) fun a=>ck ((2:Int)*d) fun r=>ck (b+r) fun s=>o b s a.1 a.2.1.1.1 a.2.1.1.2 a.2.1.2.1 a.2.1.2.2.1 a.2.1.2.2.2.1 a.2.1.2.2.2.2.1 a.2.1.2.2.2.2.2 a.2.2) (p (c,e,f,g,h,i,j,k,l,m))
def iR (e:Int) (d:Int) (f:Val am) (g:Int) (h:Int) (i:Val ae) (j:Val aa) (k:Val af) (l:Val ac) (m:Val aa) (n:Val ai) (o:Int→Val am→Int→Int→Val ae→Val aa→Val af→Val ac→Val aa→Val ai→Option ρ) (q:(Val (.pair am aj))→Option ρ):Option ρ :=
  ifb (ilt d e) (ck ((2:Int)*d) fun r=>Í (fun(b:(Val (.pair tI ay))) s=>iQ e d b.1 b.2.1 b.2.2.1 b.2.2.2.1 b.2.2.2.2.1 b.2.2.2.2.2.1 b.2.2.2.2.2.2.1 b.2.2.2.2.2.2.2.1 b.2.2.2.2.2.2.2.2.1 b.2.2.2.2.2.2.2.2.2.1 b.2.2.2.2.2.2.2.2.2.2 (fun t u v w x y z A B C D=>s (t,u,v,w,x,y,z,A,B,C,D)) (fun a=>ck (a.1+d) fun p=>ifb (ilt p e) (Ä (Ě a.2.1 a.1 p e (((a.2.2.1,a.2.2.2.1),a.2.2.2.2.1,a.2.2.2.2.2.1,a.2.2.2.2.2.2.1,a.2.2.2.2.2.2.2.1,a.2.2.2.2.2.2.2.2.1),a.2.2.2.2.2.2.2.2.2)) fun c=>ck (d*(2:Int)) fun E=>o E c.1 c.2.1.1.1 c.2.1.1.2 c.2.1.2.1 c.2.1.2.2.1 c.2.1.2.2.2.1 c.2.1.2.2.2.2.1 c.2.1.2.2.2.2.2 c.2.2) (ck (d*(2:Int)) fun F=>o F a.2.1 a.2.2.1 a.2.2.2.1 a.2.2.2.2.1 a.2.2.2.2.2.1 a.2.2.2.2.2.2.1 a.2.2.2.2.2.2.2.1 a.2.2.2.2.2.2.2.2.1 a.2.2.2.2.2.2.2.2.2))) ((0:Int),r,f,g,h,i,j,k,l,m,n)) (q (f,g,h,i,j,k,l,m,n))
def jV (g:Val am) (f:Int) (mm:Val Â) (k:((Val am))×(Val Â)→Option ρ):Option ρ :=
  Í (fun(a:(Val (.pair tI ay))) h=>iS f (20:Int) a.1 a.2.1 a.2.2.1 a.2.2.2.1 a.2.2.2.2.1 a.2.2.2.2.2.1 a.2.2.2.2.2.2.1 a.2.2.2.2.2.2.2.1 a.2.2.2.2.2.2.2.2.1 a.2.2.2.2.2.2.2.2.2.1 a.2.2.2.2.2.2.2.2.2.2 (fun i j l m n o p q r s t=>h (i,j,l,m,n,o,p,q,r,s,t)) (fun b=>Ä (í b.2.1 b.1 f (((b.2.2.1,b.2.2.2.1),b.2.2.2.2.1,b.2.2.2.2.2.1,b.2.2.2.2.2.2.1,b.2.2.2.2.2.2.2.1,b.2.2.2.2.2.2.2.2.1),b.2.2.2.2.2.2.2.2.2)) fun d=>Í (fun(c:Val ay) u=>iR f c.1 c.2.1 c.2.2.1 c.2.2.2.1 c.2.2.2.2.1 c.2.2.2.2.2.1 c.2.2.2.2.2.2.1 c.2.2.2.2.2.2.2.1 c.2.2.2.2.2.2.2.2.1 c.2.2.2.2.2.2.2.2.2 (fun v w x y z A B C D E=>u (v,w,x,y,z,A,B,C,D,E)) (fun e=>k (e.1,(((e.2.1,e.2.2.1),e.2.2.2.1,e.2.2.2.2.1,e.2.2.2.2.2.1,e.2.2.2.2.2.2.1,e.2.2.2.2.2.2.2.1),e.2.2.2.2.2.2.2.2)))) ((20:Int),d.1,d.2.1.1.1,d.2.1.1.2,d.2.1.2.1,d.2.1.2.2.1,d.2.1.2.2.2.1,d.2.1.2.2.2.2.1,d.2.1.2.2.2.2.2,d.2.2))) ((0:Int),(20:Int),g,mm.1.1.1,mm.1.1.2,mm.1.2.1,mm.1.2.2.1,mm.1.2.2.2.1,mm.1.2.2.2.2.1,mm.1.2.2.2.2.2,mm.2)
def ń (a:Val am) (b:Int) (mm:Val Â):Option (((Val am))×(Val Â)):=jV a b mm some
def DL (a:Val am) (y:Val ah) (b:Val am→Option ρ):Option ρ :=
  è (ñ ((List.length a)+(List.length ([y])))) (b (a++([y])))
def xz (c:Int) (d:Int) (e:Int) (f:Val ae) (g:Val aa) (h:Val af) (i:Val ac) (j:Val aa) (k:Val ai) (b:Val am) (a:Int) (l:Int→Option ρ) (m:Int→Option ρ) (n:Unit→Option ρ):Option ρ :=
  ifb (ilt a c) (è ((ile 0 a)&&(ilt a (ú b))) (Ŝ b (Int.toNat a) fun o=>Ä (j9 (((d,e),f,g,h,i,j),k) o) fun p=>ifb (!p) (m a) (ck (a+(1:Int)) fun q=>l q))) (n ())
def oA (f:Int) (g:Int) (h:Val ae) (i:Val aa) (j:Val af) (k:Val ac) (l:Val aa) (m:Val ai) (b:Int) (c:Int) (a:Val am) (d:Int→Int→Val am→Option ρ) (n:Val aF→Option ρ):Option ρ :=
  ifb (ilt c (à a)) (è ((ile 0 c)&&(ilt c (ú a))) (Ŝ a (Int.toNat c) fun e=>Ä (j9 (((f,g),h,i,j,k,l),m) e) fun o=>ifb (!(!o)) (è ((ile 0 b)&&(ilt b (ú a))) (Ŝ a (Int.toNat b) fun s=>ck (b+(1:Int)) fun p=>ck (c+(1:Int)) fun q=>d p q (List.set a (Int.toNat b) e))) (ck (c+(1:Int)) fun r=>d b r a))) (n (b,a))
def RN (b:Val Â) (k:Val am→Option ρ):Option ρ :=
  Ä (oM b.2) fun g=>AQ (fun(h:Val am) (i:Val ah) j=>DL h i (fun l=>j l)) g ([]) (fun f=>Ä (ń f (à f) b) fun c=>Í (fun(m:Int) n=>xz (à c.1) b.1.1.1 b.1.1.2 b.1.2.1 b.1.2.2.1 b.1.2.2.2.1 b.1.2.2.2.2.1 b.1.2.2.2.2.2 b.2 c.1 m (fun o=>n o) (fun d=>ifb (ieq d (-1:Int)) (k c.1) (ck (d+(1:Int)) fun p=>Í (fun(e:(Val (.pair tI aF))) q=>oA b.1.1.1 b.1.1.2 b.1.2.1 b.1.2.2.1 b.1.2.2.2.1 b.1.2.2.2.2.1 b.1.2.2.2.2.2 b.2 e.1 e.2.1 e.2.2 (fun r s t=>q (r,s,t)) (fun a=>è ((ile 0 a.1)&&(ile a.1 (ú a.2))) (è ((ile 0 a.1)&&(ile a.1 (ú (List.take (Int.toNat a.1) a.2++List.replicate (List.length a.2-(Int.toNat a.1)) ([])++List.drop ((Int.toNat a.1)+(List.length a.2-(Int.toNat a.1))) a.2)))) (k (List.take (Int.toNat a.1) (List.drop 0 (List.take (Int.toNat a.1) a.2++List.replicate (List.length a.2-(Int.toNat a.1)) ([])++List.drop ((Int.toNat a.1)+(List.length a.2-(Int.toNat a.1))) a.2))))))) (d,p,c.1))) (fun _=>k c.1)) (0:Int))
def GO (a:Val Â):Option ((Val am)):=RN a some
def Nc (a:Val Ê) (d:Val Ã) (k:Val Ã→Option ρ):Option ρ :=
  Ä (Ř a) fun b=>ifb (ine b 0) (k ((0:Int),b)) (Ä (sq a) fun e=>Ä (û e d) fun c=>ifb (ilt c 0) (k ((0:Int),(5:Int))) (ck (c+(1:Int)) fun f=>k (f,(0:Int))))
def iY (a:Val Ê) (b:Val Ã):Option (Val Ã):=Nc a b some
def yh (f:Int) (a:Int) (c:Val ac) (g:Int→Val ac→Option ρ) (h:Val ac→Option ρ):Option ρ :=
  ifb (ilt a f) (è ((ile 0 a)&&(ilt a (ú c))) (Ŝ c (Int.toNat a) fun d=>è (ñ (List.length d.2.2.1)) (è (ñ (List.length d.2.2.2.1)) (è ((ile 0 a)&&(ilt a (ú c))) (Ŝ c (Int.toNat a) fun b=>è ((ile 0 a)&&(ilt a (ú (List.set c (Int.toNat a) (b.1,b.2.1,d.2.2.1,b.2.2.2))))) (Ŝ (List.set c (Int.toNat a) (b.1,b.2.1,d.2.2.1,b.2.2.2)) (Int.toNat a) fun e=>ck (a+(1:Int)) fun i=>g i (List.set (List.set c (Int.toNat a) (b.1,b.2.1,d.2.2.1,b.2.2.2)) (Int.toNat a) (e.1,e.2.1,e.2.2.1,d.2.2.2.1,e.2.2.2.2)))))))) (h c)
def Tb (a:Val Ê) (b:Val Ã) (k:(Val (.pair Ê tI))→Option ρ):Option ρ :=
  Ä (Ř a) fun c=>ifb (ine c 0) (k ((((0:Int),(0:Int)),[],[],[],[],[]),c)) (è (ñ (List.length a.2.1)) (è (ñ (List.length a.2.2.1)) (è (ñ (List.length a.2.2.2.1)) (è (ñ (List.length a.2.2.2.2.2)) (è (ñ (List.length a.2.2.2.2.1)) (Í (fun(d:Val aU) g=>yh (à a.2.2.2.2.1) d.1 d.2 (fun h i=>g (h,i)) (fun e=>è (ñ ((List.length a.2.2.2.2.2)+(List.length ([b])))) (Ä (Ř (a.1,a.2.1,a.2.2.1,a.2.2.2.1,e,(a.2.2.2.2.2++([b])))) fun f=>ifb (ine f 0) (k ((((0:Int),(0:Int)),[],[],[],[],[]),f)) (k ((a.1,a.2.1,a.2.2.1,a.2.2.2.1,e,(a.2.2.2.2.2++([b]))),(0:Int)))))) ((0:Int),a.2.2.2.2.1)))))))
def yo (a:Val Ê) (b:Val Ã):Option ((Val (.pair Ê tI))):=Tb a b some
def tR (b:Val ab) (c:Int) (d:Int) (e:Val ak) (a:Int) (f:Int→Option ρ) (g:Int→Option ρ) (h:Unit→Option ρ):Option ρ :=
  ifb (ilt a c) (ą b a fun i=>Ä (BJ (d,e) i) fun j=>ifb (!j) (g (1:Int)) (ck (a+(1:Int)) fun k=>f k)) (h ())
def Mq (a:Val Ö) (b:Val ab) (k:Int→Option ρ):Option ρ :=
  Ä (wN a) fun c=>ifb (ine c.1 0) (k c.1) (Í (fun(d:Int) e=>tR b (à b) a.1 a.2 d (fun f=>e f) (fun g=>k g) (fun _=>Ä (mR a ([])) fun h=>ifb (!h.2) (k (9:Int)) (k (0:Int)))) (0:Int))
def AY (a:Val Ö) (b:Val ab):Option (Int):=Mq a b some
def qB (c:Int) (a:Int) (b:Val ab) (d:Int→Val ab→Option ρ) (e:Val ab→Option ρ):Option ρ :=
  ifb (ilt a c) (è ((ile 0 a)&&(ilt a (ú b))) (Ŝ b (Int.toNat a) fun g=>ck (a+(1:Int)) fun f=>d f (List.set b (Int.toNat a) (1152921504606846976:Int)))) (e b)
def xP (c:Val ak) (d:Int) (b:Int) (a:Int) (e:Int→Int→Option ρ) (f:Int→Option ρ):Option ρ :=
  ifb (ilt a d) (ą c a fun g=>ck (b+(aai g.2.2 (0:Int))) fun h=>ck (a+(1:Int)) fun i=>e h i) (f b)
def xO (f:Int) (d:Val ab) (a:Int) (b:Val aw) (c:Val ab) (e:Int→Val aw→Val ab→Option ρ) (g:Val aQ→Option ρ):Option ρ :=
  ifb (ilt a f) (è ((ile 0 a)&&(ilt a (ú d))) (Ŝ d (Int.toNat a) fun h=>ifb (ine h 1152921504606846976) (è (ñ ((List.length c)+(List.length ([a])))) (è ((ile 0 a)&&(ilt a (ú b))) (Ŝ b (Int.toNat a) fun k=>ck (a+(1:Int)) fun i=>e i (List.set b (Int.toNat a) true) (c++([a]))))) (ck (a+(1:Int)) fun j=>e j b c))) (g (b,c))
def FN (m:Val ar) (j:Int) (d:Int) (n:Val ak) (o:Int) (f:Int) (b:Val ab) (c:Val aw) (e:Val ab) (g:Int→Val ab→Val aw→Val ab→Option ρ) (l:(Val (.pair .bool (.pair ab aQ)))→Option ρ) (p:(Val (.pair ab aQ))→Option ρ):Option ρ :=
  ifb (ilt f o) (ą n f fun a=>ifb (ine a.1 d) (ck (f+(1:Int)) fun q=>g q b c e) (KD (k:=tI) (v:=.bool) f m (fun r=>ifb r (ck (f+(1:Int)) fun s=>g s b c e) (è ((ile 0 d)&&(ilt d (ú b))) (Ŝ b (Int.toNat d) fun t=>ck (t+a.2.2) fun u=>è ((ile 0 a.2.1)&&(ilt a.2.1 (ú b))) (Ŝ b (Int.toNat a.2.1) fun w=>ifb (ige u w) (ck (f+(1:Int)) fun x=>g x b c e) (è ((ile 0 d)&&(ilt d (ú b))) (Ŝ b (Int.toNat d) fun y=>ck (y+a.2.2) fun h=>è ((ile 0 a.2.1)&&(ilt a.2.1 (ú b))) (Ŝ b (Int.toNat a.2.1) fun M=>è ((ile 0 a.2.1)&&(ilt a.2.1 (ú (List.set b (Int.toNat a.2.1) h)))) (Ŝ (List.set b (Int.toNat a.2.1) h) (Int.toNat a.2.1) fun z=>ifb (ilt z j) (l (false,(List.set b (Int.toNat a.2.1) h),c,e)) (è ((ile 0 a.2.1)&&(ilt a.2.1 (ú c))) (Ŝ c (Int.toNat a.2.1) fun A=>ifb (!A) (è (ñ ((List.length e)+(List.length ([a.2.1])))) (è ((ile 0 a.2.1)&&(ilt a.2.1 (ú c))) (Ŝ c (Int.toNat a.2.1) fun N=>ck (f+(1:Int)) fun B=>g B (List.set b (Int.toNat a.2.1) h) (List.set c (Int.toNat a.2.1) true) (e++([a.2.1]))))) (ck (f+(1:Int)) fun C=>g C (List.set b (Int.toNat a.2.1) h) c e))))))))))) (è ((ile 0 d)&&(ilt d (ú b))) (Ŝ b (Int.toNat d) fun D=>ck (D+a.2.2) fun E=>è ((ile 0 a.2.1)&&(ilt a.2.1 (ú b))) (Ŝ b (Int.toNat a.2.1) fun F=>ifb (ige E F) (ck (f+(1:Int)) fun G=>g G b c e) (è ((ile 0 d)&&(ilt d (ú b))) (Ŝ b (Int.toNat d) fun H=>ck (H+a.2.2) fun i=>è ((ile 0 a.2.1)&&(ilt a.2.1 (ú b))) (Ŝ b (Int.toNat a.2.1) fun O=>è ((ile 0 a.2.1)&&(ilt a.2.1 (ú (List.set b (Int.toNat a.2.1) i)))) (Ŝ (List.set b (Int.toNat a.2.1) i) (Int.toNat a.2.1) fun I=>ifb (ilt I j) (l (false,(List.set b (Int.toNat a.2.1) i),c,e)) (è ((ile 0 a.2.1)&&(ilt a.2.1 (ú c))) (Ŝ c (Int.toNat a.2.1) fun J=>ifb (!J) (è (ñ ((List.length e)+(List.length ([a.2.1])))) (è ((ile 0 a.2.1)&&(ilt a.2.1 (ú c))) (Ŝ c (Int.toNat a.2.1) fun P=>ck (f+(1:Int)) fun K=>g K (List.set b (Int.toNat a.2.1) i) (List.set c (Int.toNat a.2.1) true) (e++([a.2.1]))))) (ck (f+(1:Int)) fun L=>g L (List.set b (Int.toNat a.2.1) i) c e)))))))))))) (p (b,c,e))
def xN (l:Val ar) (m:Int) (n:Int) (k:Val ak) (h:Val ab) (d:Val aw) (b:Val ab) (c:Val ab) (o:Val ab→Val aw→Val ab→Val ab→Option ρ) (i:(Val (.pair .bool aR))→Option ρ):Option ρ :=
  ifb (ieq (à c) 0) (i (true,h,d,b,c)) (è (ilt 0 (ú c)) (Ŝ c 0 fun a=>è (ile 1 (ú c)) (è (decide (1+(List.length c-1)=List.length c)) (è ((ile 0 a)&&(ilt a (ú d))) (Ŝ d (Int.toNat a) fun x=>è ((ile 0 a)&&(ilt a (ú b))) (Ŝ b (Int.toNat a) fun p=>ck (p+(1:Int)) fun e=>è ((ile 0 a)&&(ilt a (ú b))) (Ŝ b (Int.toNat a) fun y=>è ((ile 0 a)&&(ilt a (ú (List.set b (Int.toNat a) e)))) (Ŝ (List.set b (Int.toNat a) e) (Int.toNat a) fun q=>ck (n+(1:Int)) fun r=>ifb (igt q r) (i (false,h,(List.set d (Int.toNat a) false),(List.set b (Int.toNat a) e),(List.drop 1 c))) (Í (fun(f:(Val (.pair tI (.pair ab aQ)))) s=>FN l m a k (à k) f.1 f.2.1 f.2.2.1 f.2.2.2 (fun t u v w=>s (t,u,v,w)) (fun g=>i (g.1,g.2.1,g.2.2.1,(List.set b (Int.toNat a) e),g.2.2.2)) (fun j=>o j.1 j.2.1 (List.set b (Int.toNat a) e) j.2.2)) ((0:Int),h,(List.set d (Int.toNat a) false),(List.drop 1 c)))))))))))
def HX (a:Val Ö) (i:Val ar) (b:Int) (k:Val ab→Option ρ):Option ρ :=
  è ((ile 0 a.1)&&(ñ (Int.toNat a.1))) (Í (fun(f:Val Ŋ) j=>qB (à (List.replicate (Int.toNat a.1) (0:Int))) f.1 f.2 (fun l m=>j (l,m)) (fun c=>è ((ile 0 b)&&(ilt b (ú c))) (Ŝ c (Int.toNat b) fun B=>è ((ile 0 a.1)&&(ñ (Int.toNat a.1))) (è ((ile 0 a.1)&&(ñ (Int.toNat a.1))) (Í (fun(g:Val Ã) n=>xP a.2 (à a.2) g.1 g.2 (fun o p=>n (o,p)) (fun q=>Í (fun(e:(Val (.pair tI aQ))) r=>xO a.1 (List.set c (Int.toNat b) (0:Int)) e.1 e.2.1 e.2.2 (fun s t u=>r (s,t,u)) (fun h=>Í (fun(d:Val aR) v=>xN i q a.1 a.2 d.1 d.2.1 d.2.2.1 d.2.2.2 (fun w x y z=>v (w,x,y,z)) (fun A=>k A.2.1)) ((List.set c (Int.toNat b) (0:Int)),h.1,(List.replicate (Int.toNat a.1) (0:Int)),h.2))) ((0:Int),(List.replicate (Int.toNat a.1) false),[]))) ((0:Int),(0:Int))))))) ((0:Int),(List.replicate (Int.toNat a.1) (0:Int))))
def qZ (a:Val Ö) (b:Val ar) (c:Int):Option ((Val ab)):=HX a b c some
def tT (c:Int) (d:Int) (e:Val ak) (a:Int) (b:Val ab) (f:Int→Val ab→Option ρ) (g:Val ab→Option ρ):Option ρ :=
  ifb (ilt a c) (Ä (qZ (d,e) ([]) a) fun h=>ą h (0:Int) fun i=>è ((ile 0 a)&&(ilt a (ú b))) (Ŝ b (Int.toNat a) fun k=>ck (a+(1:Int)) fun j=>f j (List.set b (Int.toNat a) i))) (g b)
def tS (f:Val ab) (g:Int) (c:Val ab) (a:Int) (b:Val aa) (h:Int→Val aa→Option ρ) (i:Val aa→Option ρ):Option ρ :=
  ifb (ilt a g) (è ((ile 0 a)&&(ilt a (ú c))) (Ŝ c (Int.toNat a) fun j=>ck (0-j) fun d=>ą f a fun e=>è (ñ ((List.length b)+(List.length ([(d,e)])))) (ck (a+(1:Int)) fun k=>h k (b++([(d,e)]))))) (i b)
def Mu (a:Val Ö) (k:Val bi→Option ρ):Option ρ :=
  Ä (AY a ([])) fun b=>ifb (ine b 0) (k ([],b)) (Ä (qZ a ([]) (0:Int)) fun c=>è ((ile 0 a.1)&&(ñ (Int.toNat a.1))) (Í (fun(d:Val Ŋ) f=>tT (à (List.replicate (Int.toNat a.1) (0:Int))) a.1 a.2 d.1 d.2 (fun g h=>f (g,h)) (fun i=>Í (fun(e:Val aW) j=>tS c (à c) i e.1 e.2 (fun l m=>j (l,m)) (fun n=>k (n,(0:Int)))) ((0:Int),[]))) ((0:Int),(List.replicate (Int.toNat a.1) (0:Int)))))
def wM (a:Val Ö):Option ((Val bi)):=Mu a some
def HH (a:Val Ê) (b:Val Ã) (k:Val aL→Option ρ):Option ρ :=
  Ä (iY a b) fun f=>ifb (ine f.2 0) (Ä (yo a b) fun c=>ifb (ine c.2 0) (k (((0:Int),(0:Int)),c.2)) (Ä (iY c.1 b) fun g=>Ä (iX c.1) fun h=>Ä (wM h.1) fun d=>ifb (ine d.2 0) (k (((0:Int),(0:Int)),d.2)) (ą d.1 g.1 fun i=>k (i,(0:Int))))) (Ä (iY a b) fun j=>Ä (iX a) fun l=>Ä (wM l.1) fun e=>ifb (ine e.2 0) (k (((0:Int),(0:Int)),e.2)) (ą e.1 j.1 fun m=>k (m,(0:Int))))
def BI (a:Val Ê) (b:Val Ã):Option ((Val aL)):=HH a b some
def qA (r:Int) (e:Int) (s:Val am) (t:Int) (f:Int) (g:Int) (h:Val ae) (i:Val aa) (j:Val af) (l:Val ac) (m:Val aa) (n:Val ai) (c:Int) (a:Val aT) (o:Int→Val aT→Option ρ) (u:(Val (.pair tI aT))→Option ρ) (w:Val aT→Option ρ):Option ρ :=
  ifb (ilt c t) (ą s c fun p=>Ä (vr (((f,g),h,i,j,l,m),n) p r e) fun d=>Ä (ky (((f,g),h,i,j,l,m),n) p) fun x=>Ä (BI x (d,e)) fun b=>ifb (ine b.2 0) (u (b.2,a)) (KD (k:=tI) (v:=Ã) d a (fun q=>ck (c+(1:Int)) fun y=>o y (Lw (k:=tI) (v:=Ã) d ((aai b.1.1 q.1),(PG b.1.2 q.2)) a)) (ck (c+(1:Int)) fun z=>o z (Lw (k:=tI) (v:=Ã) d b.1 a)))) (w a)
def qz (f:Val ae) (g:Int) (h:Val aT) (a:Int) (b:Val ak) (d:Int→Val ak→Option ρ) (i:Val ak→Option ρ):Option ρ :=
  ifb (ilt a g) (ą f a fun c=>KD (k:=tI) (v:=Ã) c.1 h (fun e=>è (ñ ((List.length b)+(List.length ([(c.1,e)])))) (ck (a+(1:Int)) fun j=>d j (b++([(c.1,e)])))) (ck (a+(1:Int)) fun l=>d l b)) (i b)
def HQ (a:Val Â) (c:Int) (d:Int) (k:(Val (.pair ak tI))→Option ρ):Option ρ :=
  Ä (Ω a) fun e=>ifb (ine e 0) (k ([],e)) (Ä (AU a c d) fun f=>ifb (ine f 0) (k ([],f)) (Ä (GO a) fun b=>ifb (ieq (à b) 0) (k ([],(5:Int))) (Í (fun(g:(Val (.pair tI aT))) i=>qA c d b (à b) a.1.1.1 a.1.1.2 a.1.2.1 a.1.2.2.1 a.1.2.2.2.1 a.1.2.2.2.2.1 a.1.2.2.2.2.2 a.2 g.1 g.2 (fun j l=>i (j,l)) (fun m=>k ([],m.1)) (fun n=>Í (fun(h:Val Ö) o=>qz a.1.2.1 (à a.1.2.1) n h.1 h.2 (fun p q=>o (p,q)) (fun r=>k (r,(0:Int)))) ((0:Int),[]))) ((0:Int),[]))))
def oQ (a:Val Â) (b:Int) (c:Int):Option ((Val (.pair ak tI))):=HQ a b c some
def xC (c:Val am) (d:Int) (e:Int) (f:Int) (g:Val ae) (h:Val aa) (i:Val af) (j:Val ac) (k:Val aa) (l:Val ai) (b:Int) (a:Int) (m:Int→Option ρ) (n:Int→Option ρ) (o:Unit→Option ρ):Option ρ :=
  ifb (ilt a d) (ą c a fun p=>Ä (vr (((e,f),g,h,i,j,k),l) p b (20000:Int)) fun q=>ifb (ine q b) (n a) (ck (a+(1:Int)) fun r=>m r)) (o ())
def xD (e:Val am) (f:Val ae) (g:Int) (h:Int) (i:Int) (j:Val ae) (k:Val aa) (l:Val af) (m:Val ac) (n:Val aa) (o:Val ai) (b:Int) (a:Val ab) (d:Int→Val ab→Option ρ) (p:Val ab→Option ρ):Option ρ :=
  ifb (ilt b g) (ą f b fun c=>Í (fun(q:Int) r=>xC e (à e) h i j k l m n o c.1 q (fun s=>r s) (fun t=>ifb (!(ige t 0)) (è (ñ ((List.length a)+(List.length ([c.1])))) (ck (b+(1:Int)) fun u=>d u (a++([c.1])))) (ck (b+(1:Int)) fun v=>d v a)) (fun _=>è (ñ ((List.length a)+(List.length ([c.1])))) (ck (b+(1:Int)) fun w=>d w (a++([c.1]))))) (0:Int)) (p a)
def RS (a:Val Â) (k:Val aD→Option ρ):Option ρ :=
  Ä (Ω a) fun b=>ifb (ine b 0) (k ([],b)) (Ä (GO a) fun c=>ifb (ieq (à c) 0) (k ([],(5:Int))) (Í (fun(d:Val Ŋ) e=>xD c a.1.2.1 (à a.1.2.1) a.1.1.1 a.1.1.2 a.1.2.1 a.1.2.2.1 a.1.2.2.2.1 a.1.2.2.2.2.1 a.1.2.2.2.2.2 a.2 d.1 d.2 (fun f g=>e (f,g)) (fun h=>k (h,(0:Int)))) ((0:Int),[])))
def jL (a:Val Â):Option ((Val aD)):=RS a some
def Dz (a:Val am) (y:Val ah) (b:Val am→Option ρ):Option ρ :=
  è (ñ ((List.length a)+(List.length ([y])))) (b (a++([y])))
def RE (a:Val Â) (k:Val am→Option ρ):Option ρ :=
  Ä (oM a.2) fun c=>AQ (fun(d:Val am) (e:Val ah) f=>Dz d e (fun g=>f g)) c ([]) (fun b=>Ä (ń b (à b) a) fun h=>k h.1)
def GI (a:Val Â):Option ((Val am)):=RE a some
def l8 (c:Val am) (d:Int) (e:Int) (f:Int) (g:Val ae) (h:Val aa) (i:Val af) (j:Val ac) (k:Val aa) (l:Val ai) (a:Int) (m:Int→Option ρ) (n:(Val (.pair ah .bool))→Option ρ) (o:Unit→Option ρ):Option ρ :=
  ifb (ilt a d) (ą c a fun b=>Ä (j9 (((e,f),g,h,i,j,k),l) b) fun p=>ifb p (n (b,true)) (ck (a+(1:Int)) fun q=>m q)) (o ())
def xA (a:Val Â) (k:(Val (.pair ah .bool))→Option ρ):Option ρ :=
  Ä (GI a) fun b=>Í (fun(d:Int) e=>l8 b (à b) a.1.1.1 a.1.1.2 a.1.2.1 a.1.2.2.1 a.1.2.2.2.1 a.1.2.2.2.2.1 a.1.2.2.2.2.2 a.2 d (fun f=>e f) (fun c=>k (c.1,c.2)) (fun _=>k ([],false))) (0:Int)
def ü (a:Val Â):Option ((Val (.pair ah .bool))):=xA a some
def Me (a:Val Â) (k:Val bj→Option ρ):Option ρ :=
  Ä (Ω a) fun b=>ifb (ine b 0) (k ([],b)) (Ä (ü a) fun c=>ifb (!c.2) (k ([],(5:Int))) (k (c.1,(0:Int))))
def GP (a:Val Â):Option ((Val bj)):=Me a some
def mi (k:Bool→Option ρ):Option ρ :=
  Ä (GP ((((0:Int),(0:Int)),(([((3:Int),(0:Int),(1000:Int),((-9:Int),(9:Int)),((1:Int),(2:Int)),(2:Int))])++([((5:Int),(0:Int),(2000:Int),((0:Int),(0:Int)),((0:Int),(1:Int)),(0:Int))])),[((3:Int),(2:Int))],[],(([((1:Int),(4:Int),[(3:Int)],[],(1002:Int),(1:Int),(0:Int),(0:Int))])++([((2:Int),(7:Int),[(3:Int)],[],(2000:Int),(0:Int),(0:Int),(0:Int))])),[]),[((5:Int),[(3:Int),(5:Int)])])) fun a=>Ä (oQ ((((0:Int),(0:Int)),(([((3:Int),(0:Int),(1000:Int),((-9:Int),(9:Int)),((1:Int),(2:Int)),(2:Int))])++([((5:Int),(0:Int),(2000:Int),((0:Int),(0:Int)),((0:Int),(1:Int)),(0:Int))])),[((3:Int),(2:Int))],[],(([((1:Int),(4:Int),[(3:Int)],[],(1002:Int),(1:Int),(0:Int),(0:Int))])++([((2:Int),(7:Int),[(3:Int)],[],(2000:Int),(0:Int),(0:Int),(0:Int))])),[]),[((5:Int),[(3:Int),(5:Int)])]) (3:Int) (7:Int)) fun b=>Ä (jL ((((0:Int),(0:Int)),(([((3:Int),(0:Int),(1000:Int),((-9:Int),(9:Int)),((1:Int),(2:Int)),(2:Int))])++([((5:Int),(0:Int),(2000:Int),((0:Int),(0:Int)),((0:Int),(1:Int)),(0:Int))])),[((3:Int),(2:Int))],[],(([((1:Int),(4:Int),[(3:Int)],[],(1002:Int),(1:Int),(0:Int),(0:Int))])++([((2:Int),(7:Int),[(3:Int)],[],(2000:Int),(0:Int),(0:Int),(0:Int))])),[]),[((5:Int),[(3:Int),(5:Int)])])) fun d=>ifb (ieq a.2 0) (ifb (ieq b.2 0) (ifb (ieq d.2 0) (ifb (ieq (à a.1) 1) (ą a.1 (0:Int) fun e=>ifb (ieq (à e) 2) (ą a.1 (0:Int) fun f=>ą f (0:Int) fun g=>ifb (ieq g 5) (ifb (ieq (à b.1) 1) (ą b.1 (0:Int) fun c=>ifb ((A5 c.1 (5:Int))&&((A5 c.2.1 (2000:Int))&&((A5 c.2.2 (2000:Int))&&true))) (k (ieq (à d.1) 0)) (k false)) (k false)) (k false)) (k false)) (k false)) (k false)) (k false)) (k false)
def É:Option (Bool):=mi some
def zQ (a:Val ab) (y:Int) (b:Val ab→Option ρ):Option ρ :=
  è (ñ ((List.length a)+(List.length ([y])))) (b (a++([y])))
def tE (h:Val ah) (i:Int) (j:Val ai) (c:Int) (k:Int→Option ρ) (d:Bool→Option ρ) (l:Unit→Option ρ):Option ρ :=
  ifb (ilt c i) (ą h c fun e=>ą j c fun f=>ifb (ine (à e) (à f.2)) (d false) (Ä (BC e) fun m=>AQ (fun(n:Val ab) (o:Int) p=>zQ n o (fun q=>p q)) m ([]) (fun g=>è (ñ (List.length g)) (Ä (GJ (zp g)) fun a=>Ä (GJ f.2) fun b=>ifb (!((A5 a.1 b.1)&&((A5 a.2.1 b.2.1)&&((A5 a.2.2.1 b.2.2.1)&&((A5 a.2.2.2.1 b.2.2.2.1)&&((A5 a.2.2.2.2 b.2.2.2.2)&&true)))))) (d false) (ck (c+(1:Int)) fun r=>k r))))) (l ())
def LV (b:Val Â) (a:Val ah) (k:Bool→Option ρ):Option ρ :=
  ifb (ine (à a) (à b.2)) (k false) (Í (fun(c:Int) d=>tE a (à a) b.2 c (fun e=>d e) (fun f=>k f) (fun _=>k true)) (0:Int))
def GM (a:Val Â) (b:Val ah):Option (Bool):=LV a b some
def Ma (a:Val Â) (c:Val ah) (k:Int→Option ρ):Option ρ :=
  Ä (Ω a) fun b=>ifb (ine b 0) (k b) (Ä (GM a c) fun d=>ifb (!d) (k (1:Int)) (k (0:Int)))
def AW (a:Val Â) (b:Val ah):Option (Int):=Ma a b some
def HN (a:Val Â) (b:Val ah) (k:Val Ã→Option ρ):Option ρ :=
  Ä (AW a b) fun c=>ifb (ine c 0) (k ((0:Int),c)) (Ä (Ĺ a b) fun d=>k (d,(0:Int)))
def wL (a:Val Â) (b:Val ah):Option (Val Ã):=HN a b some
def ŕ (f:Val ai) (d:Val ah) (b:Int) (c:Int) (a:Int) (g:Int→Int→Option ρ) (e:Int→Option ρ):Option ρ :=
  ą d b fun h=>ifb (ilt a (à h)) (ą d b fun i=>ą i a fun j=>ifb (ieq j c) (ą f b fun k=>ą k.2 a fun l=>e l) (ck (a+(1:Int)) fun m=>g c m)) (e c)
def ż (c:Val ai) (f:Val ah) (g:Int) (b:Int) (a:Int) (d:Int→Int→Option ρ) (h:Int→Option ρ):Option ρ :=
  ifb (ige a 0) (ą c a fun i=>ifb (ige i.1 g) (ck (a-(1:Int)) fun j=>d b j) (Í (fun(e:Val Ã) k=>ŕ c f a e.1 e.2 (fun l m=>k (l,m)) (fun n=>ck (a-(1:Int)) fun o=>d n o)) (b,(0:Int)))) (h b)
def ln (a:Val ai) (c:Val ah) (d:Int) (e:Int) (k:Int→Option ρ):Option ρ :=
  ck ((à a)-(1:Int)) fun f=>Í (fun(b:Val Ã) g=>ż a c e b.1 b.2 (fun h i=>g (h,i)) (fun j=>k j)) (d,f)
def õ (a:Val ai) (b:Val ah) (c:Int) (d:Int):Option (Int):=ln a b c d some
def Ţ (d:Int) (b:Val ab) (a:Int) (e:Int→Option ρ) (c:Int→Option ρ):Option ρ :=
  ifb (ilt a (à b)) (è ((ile 0 a)&&(ilt a (ú b))) (Ŝ b (Int.toNat a) fun f=>ifb (ilt f d) (ck (a+(1:Int)) fun g=>e g) (c a))) (c a)
def ι (f:Val ah) (e:Val ab) (g:Int) (h:Val ai) (d:Int) (a:Val ab) (i:Int→Val ab→Option ρ) (j:Val ab→Option ρ):Option ρ :=
  ifb (ilt d (à e)) (ą e d fun k=>Ä (õ h f k g) fun c=>Í (fun(l:Int) m=>Ţ c a l (fun n=>m n) (fun b=>è ((ile 0 b)&&(ile b (ú a))) (è (ñ (0+(List.length (List.take (Int.toNat b) (List.drop 0 a))))) (è (ñ ((List.length (([])++(List.take (Int.toNat b) (List.drop 0 a))))+(List.length ([c])))) (è ((ile 0 b)&&(ile b (ú a))) (è (ñ ((List.length ((([])++(List.take (Int.toNat b) (List.drop 0 a)))++([c])))+(List.length (List.take (List.length a-(Int.toNat b)) (List.drop (Int.toNat b) a))))) (ck (d+(1:Int)) fun o=>i o (((([])++(List.take (Int.toNat b) (List.drop 0 a)))++([c]))++(List.take (List.length a-(Int.toNat b)) (List.drop (Int.toNat b) a)))))))))) (0:Int)) (j a)
def ml (b:Val Â) (c:Val ah) (d:Val ab) (e:Int) (k:Val ab→Option ρ):Option ρ :=
  Í (fun(a:Val Ŋ) f=>ι c d e b.2 a.1 a.2 (fun g h=>f (g,h)) (fun i=>k i)) ((0:Int),[])
def Χ (a:Val Â) (b:Val ah) (c:Val ab) (d:Int):Option ((Val ab)):=ml a b c d some
def ų (f:Val ah) (d:Val aa) (g:Val ai) (b:Int) (c:Val aa) (h:Int→Val aa→Option ρ) (i:Val aa→Option ρ):Option ρ :=
  ifb (ilt b (à d)) (ą d b fun a=>Ä (õ g f a.1 a.2) fun e=>è (ñ ((List.length c)+(List.length ([(e,a.2)])))) (ck (b+(1:Int)) fun j=>h j (c++([(e,a.2)])))) (i c)
def Ų (f:Val ah) (d:Val af) (g:Val ai) (b:Int) (c:Val af) (h:Int→Val af→Option ρ) (i:Val af→Option ρ):Option ρ :=
  ifb (ilt b (à d)) (ą d b fun a=>Ä (õ g f a.1 a.2.1.1) fun e=>è (ñ ((List.length c)+(List.length ([(e,a.2)])))) (ck (b+(1:Int)) fun j=>h j (c++([(e,a.2)])))) (i c)
def ű (e:Val ah) (f:Int) (g:Int) (h:Val ae) (i:Val aa) (j:Val af) (b:Val ac) (k:Val aa) (l:Val ai) (c:Int) (d:Val ac) (o:Int→Val ac→Option ρ) (p:Val ac→Option ρ):Option ρ :=
  ifb (ilt c (à b)) (ą b c fun a=>Ä (Χ (((f,g),h,i,j,b,k),l) e a.2.2.1 a.2.1) fun m=>Ä (Χ (((f,g),h,i,j,b,k),l) e a.2.2.2.1 a.2.1) fun n=>è (ñ ((List.length d)+(List.length ([(a.1,a.2.1,m,n,a.2.2.2.2)])))) (ck (c+(1:Int)) fun q=>o q (d++([(a.1,a.2.1,m,n,a.2.2.2.2)])))) (p d)
def jP (a:Val Â) (b:Val ah) (k:Val Ê→Option ρ):Option ρ :=
  Í (fun(c:Val aW) f=>ų b a.1.2.2.1 a.2 c.1 c.2 (fun g h=>f (g,h)) (fun i=>Í (fun(d:(Val (.pair tI af))) j=>Ų b a.1.2.2.2.1 a.2 d.1 d.2 (fun l m=>j (l,m)) (fun n=>Í (fun(e:Val aU) o=>ű b a.1.1.1 a.1.1.2 a.1.2.1 a.1.2.2.1 a.1.2.2.2.1 a.1.2.2.2.2.1 a.1.2.2.2.2.2 a.2 e.1 e.2 (fun p q=>o (p,q)) (fun r=>k (a.1.1,a.1.2.1,i,n,r,[]))) ((0:Int),[]))) ((0:Int),[]))) ((0:Int),[])
def ŭ (a:Val Â) (b:Val ah):Option (Val Ê):=jP a b some
def Ŕ (d:Val ae) (b:Int) (e:Int→Option ρ) (c:Bool→Option ρ) (f:Unit→Option ρ):Option ρ :=
  ifb (ilt b (à d)) (ą d b fun a=>ifb (igt a.2.2.1 1099511627776) (c false) (ifb (igt a.2.2.2.2.1.2 10) (c false) (ifb (A5 a.2.2.2.2.1.2 0) (none) (ifb (ine (Int.tmod (2520:Int) a.2.2.2.2.1.2) 0) (c false) (ck (b+(1:Int)) fun g=>e g))))) (f ())
def lh (a:Val Ê) (k:Bool→Option ρ):Option ρ :=
  ifb (igt (à a.2.1) 12) (k false) (ifb (igt (à a.2.2.2.2.1) 40) (k false) (Ä (Ř a) fun b=>ifb (ine b 0) (k false) (Í (fun(c:Int) d=>Ŕ a.2.1 c (fun e=>d e) (fun f=>k f) (fun _=>k true)) (0:Int))))
def ź (a:Val Ê):Option (Bool):=lh a some
def Ta (c:Val Ê) (d:Int) (a:Int) (b:Int) (k:Val Ã→Option ρ):Option ρ :=
  Ä (A2 c d ([a,b])) fun e=>ifb (ine e 0) (k ((0:Int),e)) (Ä (Ł c) fun g=>KD (k:=tI) (v:=Ù) d g (fun f=>ifb (igt a b) (k ((0:Int),(3:Int))) (ifb (ilt a f.2.1) (k ((0:Int),(3:Int))) (Ä (uw c f a b) fun h=>k (h,(0:Int))))) (ifb (igt a b) (k ((0:Int),(3:Int))) (ifb (ilt a 0) (k ((0:Int),(3:Int))) (Ä (uw c ((0:Int),(0:Int),(0:Int),((0:Int),(0:Int)),((0:Int),(0:Int)),(0:Int)) a b) fun i=>k (i,(0:Int))))))
def KN (a:Val Ê) (b:Int) (c:Int) (d:Int):Option (Val Ã):=Ta a b c d some
def η (f:Int) (g:Int) (h:Val ae) (i:Val aa) (j:Val af) (k:Val ac) (l:Val aa) (m:Int) (d:Int) (b:Val ab) (a:Int) (n:Int→Option ρ) (c:Bool→Option ρ) (o:Unit→Option ρ):Option ρ :=
  ifb (ilt a (à b)) (ck (d+a) fun p=>ck (d+a) fun q=>ck (q+1) fun r=>Ä (KN ((f,g),h,i,j,k,l) m p r) fun e=>ifb (ine e.2 0) (c false) (ą b a fun s=>ifb (ilt s 0) (c false) (ą b a fun t=>ifb (igt t e.1) (c false) (ck (a+(1:Int)) fun u=>n u)))) (o ())
def θ (e:Val ai) (g:Int) (h:Int) (f:Val ae) (i:Val aa) (j:Val af) (k:Val ac) (l:Val aa) (b:Int) (m:Int→Option ρ) (c:Bool→Option ρ) (n:Unit→Option ρ):Option ρ :=
  ifb (ilt b (à e)) (ą f b fun a=>ą e b fun d=>ck (a.2.2.1+a.2.2.2.1.1) fun o=>ifb (ilt d.1 o) (c false) (ck (a.2.2.1+a.2.2.2.1.2) fun p=>ifb (igt d.1 p) (c false) (ifb (igt (à d.2) 60) (c false) (Í (fun(q:Int) r=>η g h f i j k l a.1 a.2.1 d.2 q (fun s=>r s) (fun t=>c t) (fun _=>ck (b+(1:Int)) fun u=>m u)) (0:Int))))) (n ())
def mj (a:Val Ê) (b:Val ai) (k:Bool→Option ρ):Option ρ :=
  ifb (ine (à b) (à a.2.1)) (k false) (Í (fun(c:Int) d=>θ b a.1.1 a.1.2 a.2.1 a.2.2.1 a.2.2.2.1 a.2.2.2.2.1 a.2.2.2.2.2 c (fun e=>d e) (fun f=>k f) (fun _=>k true)) (0:Int))
def jj (a:Val Ê) (b:Val ai):Option (Bool):=mj a b some
def ig (c:Int) (b:Val ae) (a:Int) (d:Int→Option ρ) (e:Int→Option ρ) (f:Unit→Option ρ):Option ρ :=
  ifb (ilt a (à b)) (ą b a fun g=>ifb (ieq g.1 c) (e a) (ck (a+(1:Int)) fun h=>d h)) (f ())
def nh (a:Val Ê) (b:Int) (k:Int→Option ρ):Option ρ :=
  Í (fun(c:Int) d=>ig b a.2.1 c (fun e=>d e) (fun f=>k f) (fun _=>k (-1:Int))) (0:Int)
def ķ (a:Val Ê) (b:Int):Option (Int):=nh a b some
def Ļ (e:Int) (f:Int) (c:Val ab) (b:Int) (a:Int) (g:Int→Int→Option ρ) (d:Int→Option ρ):Option ρ :=
  ifb (ilt a (à c)) (ck (f+a) fun h=>ifb (ilt h e) (ą c a fun i=>ck (b-i) fun j=>ck (a+(1:Int)) fun k=>g j k) (d b)) (d b)
def jE (c:Val Ù) (a:Val Ŋ) (d:Int) (k:Int→Option ρ):Option ρ :=
  Í (fun(b:Val Ã) e=>Ļ d c.2.1 a.2 b.1 b.2 (fun f g=>e (f,g)) (fun h=>k h)) (a.1,(0:Int))
def Ì (a:Val Ù) (b:Val Ŋ) (c:Int):Option (Int):=jE a b c some
def Ż (h:Val ai) (d:Val ab) (i:Int) (j:Int) (k:Int) (b:Val ae) (l:Val aa) (m:Val af) (n:Val ac) (o:Val aa) (e:Int) (f:Int) (c:Int) (p:Int→Int→Int→Option ρ) (q:(Val (.pair tI (.pair tI .bool)))→Option ρ) (r:Val Ã→Option ρ):Option ρ :=
  ifb (ilt c (à d)) (ą d c fun s=>Ä (ķ ((j,k),b,l,m,n,o) s) fun a=>ifb (ilt a 0) (q ((0:Int),(0:Int),false)) (ą b a fun t=>ą h a fun u=>Ä (Ì t u i) fun v=>ck (e+v) fun w=>ą b a fun x=>ą b a fun g=>ifb (A5 g.2.2.2.2.1.2 0) (none) (ck (Int.tdiv (2520:Int) g.2.2.2.2.1.2) fun y=>ck (x.2.2.2.2.1.1*y) fun z=>ck (f+z) fun A=>ck (c+(1:Int)) fun B=>p w A B))) (r (e,f))
def lf (a:Val Ê) (e:Val ai) (f:Val ab) (g:Int) (k:(Val (.pair tI (.pair tI .bool)))→Option ρ):Option ρ :=
  Í (fun(b:Val Ĥ) h=>Ż e f g a.1.1 a.1.2 a.2.1 a.2.2.1 a.2.2.2.1 a.2.2.2.2.1 a.2.2.2.2.2 b.1 b.2.1 b.2.2 (fun i j l=>h (i,j,l)) (fun c=>k (c.1,c.2.1,c.2.2)) (fun d=>k (d.1,d.2,true))) ((0:Int),(0:Int),(0:Int))
def Ÿ (a:Val Ê) (b:Val ai) (c:Val ab) (d:Int):Option ((Val (.pair tI (.pair tI .bool)))):=lf a b c d some
def jR (c:Val Ê) (f:Val ai) (a:Val Þ) (b:Val Ĥ) (k:Bool→Option ρ):Option ρ :=
  Ä (Ÿ c f a.2.2.1 a.2.1) fun d=>Ä (Ÿ c f a.2.2.2.1 a.2.1) fun e=>ck ((à a.2.2.1)-(1:Int)) fun g=>ck ((à a.2.2.2.1)-(1:Int)) fun h=>ifb (!d.2.2) (k false) (ifb (!e.2.2) (k false) (ifb (ilt a.2.2.2.2.1 (-1125899906842624:Int)) (k false) (ifb (igt a.2.2.2.2.1 1125899906842624) (k false) (ifb (ilt a.2.2.2.2.2.1 0) (k false) (ifb (igt a.2.2.2.2.2.1 1073741824) (k false) (ifb (ilt a.2.2.2.2.2.2.1 (-10000:Int)) (k false) (ifb (igt a.2.2.2.2.2.2.2 10000) (k false) (ifb (ilt b.1 a.2.2.2.2.2.2.1) (k false) (ifb (igt b.1 a.2.2.2.2.2.2.2) (k false) (ck ((PG (0:Int) g)*c.1.1) fun j=>ifb (ilt b.2.1 j) (k false) (ck ((PG (0:Int) g)*c.1.2) fun l=>ifb (igt b.2.1 l) (k false) (ck ((PG (0:Int) h)*c.1.1) fun m=>ifb (ilt b.2.2 m) (k false) (ck ((PG (0:Int) h)*c.1.2) fun n=>ifb (igt b.2.2 n) (k false) (ck (d.1+b.2.1) fun o=>ck (o-e.1) fun p=>ck (p-b.2.2) fun q=>ck (a.2.2.2.2.1-q) fun r=>ck ((2520:Int)*r) fun s=>ck (d.2.1-e.2.1) fun t=>ck (t*b.1) fun u=>ck (s-u) fun i=>ck ((2520:Int)*a.2.2.2.2.2.1) fun v=>ifb (ile i v) (ck ((2520:Int)*a.2.2.2.2.2.1) fun w=>ck ((0:Int)-w) fun x=>k (ige i x)) (k false)))))))))))))))
def ĩ (a:Val Ê) (b:Val ai) (c:Val Þ) (d:Val Ĥ):Option (Bool):=jR a b c d some
def š (d:Val ai) (b:Val ak) (e:Int) (f:Int) (g:Val ae) (h:Val aa) (i:Val af) (c:Val ac) (j:Val aa) (a:Int) (k:Int→Option ρ) (l:Bool→Option ρ) (m:Unit→Option ρ):Option ρ :=
  ifb (ilt a (à b)) (ą c a fun n=>ą b a fun o=>Ä (ĩ ((e,f),g,h,i,c,j) d n o) fun p=>ifb (!p) (l false) (ck (a+(1:Int)) fun q=>k q)) (m ())
def mh (a:Val Ê) (b:Val ai) (c:Val ak) (k:Bool→Option ρ):Option ρ :=
  Ä (jj a b) fun d=>ifb (!d) (k false) (ifb (ine (à c) (à a.2.2.2.2.1)) (k false) (Í (fun(e:Int) f=>š b c a.1.1 a.1.2 a.2.1 a.2.2.1 a.2.2.2.1 a.2.2.2.2.1 a.2.2.2.2.2 e (fun g=>f g) (fun h=>k h) (fun _=>k true)) (0:Int)))
def Φ (a:Val Ê) (b:Val ai) (c:Val ak):Option (Bool):=mh a b c some
def zW (a:Val Â) (b:Val ah) (k:Val aK→Option ρ):Option ρ :=
  Ä (AW a b) fun c=>ifb (ine c 0) (k (false,c)) (Ä (j9 a b) fun d=>k (d,(0:Int)))
def pQ (a:Val Â) (b:Val ah):Option ((Val aK)):=zW a b some
def xy (c:Int) (d:Val ab) (b:Val ac) (a:Int) (e:Int→Option ρ) (f:Int→Option ρ) (g:Unit→Option ρ):Option ρ :=
  ifb (ilt a c) (è ((ile 0 a)&&(ilt a (ú b))) (Ŝ b (Int.toNat a) fun h=>Ä (æ d h.1) fun i=>ifb (!i) (f a) (ck (a+(1:Int)) fun j=>e j))) (g ())
def oz (f:Val ab) (b:Int) (c:Int) (a:Val ac) (d:Int→Int→Val ac→Option ρ) (g:Val aU→Option ρ):Option ρ :=
  ifb (ilt c (à a)) (è ((ile 0 c)&&(ilt c (ú a))) (Ŝ a (Int.toNat c) fun e=>Ä (æ f e.1) fun h=>ifb (!(!h)) (è ((ile 0 b)&&(ilt b (ú a))) (Ŝ a (Int.toNat b) fun l=>ck (b+(1:Int)) fun i=>ck (c+(1:Int)) fun j=>d i j (List.set a (Int.toNat b) e))) (ck (c+(1:Int)) fun k=>d b k a))) (g (b,a))
def RF (b:Val Â) (e:Val ab) (k:Val Â→Option ρ):Option ρ :=
  è (ñ (List.length b.1.2.2.2.2.1)) (Í (fun(f:Int) g=>xy (à b.1.2.2.2.2.1) e b.1.2.2.2.2.1 f (fun h=>g h) (fun c=>ifb (ieq c (-1:Int)) (k b) (ck (c+(1:Int)) fun i=>Í (fun(d:(Val (.pair tI aU))) j=>oz e d.1 d.2.1 d.2.2 (fun l m n=>j (l,m,n)) (fun a=>è ((ile 0 a.1)&&(ile a.1 (ú a.2))) (è ((ile 0 a.1)&&(ile a.1 (ú (List.take (Int.toNat a.1) a.2++List.replicate (List.length a.2-(Int.toNat a.1)) ((0:Int),(0:Int),[],[],(0:Int),(0:Int),(0:Int),(0:Int))++List.drop ((Int.toNat a.1)+(List.length a.2-(Int.toNat a.1))) a.2)))) (k ((b.1.1,b.1.2.1,b.1.2.2.1,b.1.2.2.2.1,(List.take (Int.toNat a.1) (List.drop 0 (List.take (Int.toNat a.1) a.2++List.replicate (List.length a.2-(Int.toNat a.1)) ((0:Int),(0:Int),[],[],(0:Int),(0:Int),(0:Int),(0:Int))++List.drop ((Int.toNat a.1)+(List.length a.2-(Int.toNat a.1))) a.2))),b.1.2.2.2.2.2),b.2))))) (c,i,b.1.2.2.2.2.1))) (fun _=>k b)) (0:Int))
def GK (a:Val Â) (b:Val ab):Option (Val Â):=RF a b some
def xE (a:Val Â) (c:Val ab) (k:Val aK→Option ρ):Option ρ :=
  Ä (Ω a) fun b=>ifb (ine b 0) (k (false,b)) (Ä (GK a c) fun d=>Ä (ü d) fun e=>k (e.2,(0:Int)))
def nI (a:Val Â) (b:Val ab):Option ((Val aK)):=xE a b some
def Ij (a:Val ab) (b:Val ab) (k:(Val (.pair ab aD))→Option ρ):Option ρ :=
  Ä (kE a) fun c=>ifb (!c) (k ([],[],(1:Int))) (Ä (kE b) fun d=>ifb (!d) (k ([],[],(1:Int))) (Ä (iq a b) fun e=>Ä (iq b a) fun f=>k (e,f,(0:Int))))
def rc (a:Val ab) (b:Val ab):Option ((Val (.pair ab aD))):=Ij a b some
def mb (g:Int) (b:Int) (c:Val ac) (a:Int) (d:Int→Option ρ) (h:Int→Option ρ) (i:Unit→Option ρ):Option ρ :=
  ifb (ilt a g) (è ((ile 0 a)&&(ilt a (ú c))) (Ŝ c (Int.toNat a) fun e=>Ä (rc e.2.2.1 e.2.2.2.1) fun f=>Ä (æ f.1 b) fun j=>ifb j (ck (a+(1:Int)) fun k=>d k) (Ä (æ f.2.1 b) fun l=>ifb (!l) (h a) (ck (a+(1:Int)) fun m=>d m)))) (i ())
def ψ (f:Int) (a:Int) (c:Int) (b:Val ac) (e:Int→Int→Val ac→Option ρ) (h:Val aU→Option ρ):Option ρ :=
  ifb (ilt c (à b)) (è ((ile 0 c)&&(ilt c (ú b))) (Ŝ b (Int.toNat c) fun d=>Ä (rc d.2.2.1 d.2.2.2.1) fun g=>Ä (æ g.1 f) fun i=>ifb i (è ((ile 0 a)&&(ilt a (ú b))) (Ŝ b (Int.toNat a) fun p=>ck (a+(1:Int)) fun j=>ck (c+(1:Int)) fun k=>e j k (List.set b (Int.toNat a) d))) (Ä (æ g.2.1 f) fun l=>ifb (!(!l)) (è ((ile 0 a)&&(ilt a (ú b))) (Ŝ b (Int.toNat a) fun q=>ck (a+(1:Int)) fun m=>ck (c+(1:Int)) fun n=>e m n (List.set b (Int.toNat a) d))) (ck (c+(1:Int)) fun o=>e a o b)))) (h (a,b))
def xB (b:Val Â) (c:Int) (k:Val aK→Option ρ):Option ρ :=
  Ä (Ω b) fun f=>ifb (ine f 0) (k (false,f)) (Ä (AU b c (0:Int)) fun g=>ifb (ine g 0) (k (false,g)) (è (ñ (List.length b.1.2.2.2.2.1)) (Í (fun(h:Int) i=>mb (à b.1.2.2.2.2.1) c b.1.2.2.2.2.1 h (fun j=>i j) (fun d=>ifb (ieq d (-1:Int)) (Ä (ü b) fun l=>k ((!l.2),(0:Int))) (ck (d+(1:Int)) fun m=>Í (fun(e:(Val (.pair tI aU))) n=>ψ c e.1 e.2.1 e.2.2 (fun o p q=>n (o,p,q)) (fun a=>è ((ile 0 a.1)&&(ile a.1 (ú a.2))) (è ((ile 0 a.1)&&(ile a.1 (ú (List.take (Int.toNat a.1) a.2++List.replicate (List.length a.2-(Int.toNat a.1)) ((0:Int),(0:Int),[],[],(0:Int),(0:Int),(0:Int),(0:Int))++List.drop ((Int.toNat a.1)+(List.length a.2-(Int.toNat a.1))) a.2)))) (Ä (ü ((b.1.1,b.1.2.1,b.1.2.2.1,b.1.2.2.2.1,(List.take (Int.toNat a.1) (List.drop 0 (List.take (Int.toNat a.1) a.2++List.replicate (List.length a.2-(Int.toNat a.1)) ((0:Int),(0:Int),[],[],(0:Int),(0:Int),(0:Int),(0:Int))++List.drop ((Int.toNat a.1)+(List.length a.2-(Int.toNat a.1))) a.2))),b.1.2.2.2.2.2),b.2)) fun r=>k ((!r.2),(0:Int)))))) (d,m,b.1.2.2.2.2.1))) (fun _=>Ä (ü b) fun s=>k ((!s.2),(0:Int)))) (0:Int))))
def nH (a:Val Â) (b:Int):Option ((Val aK)):=xB a b some
def xF (d:Val ac) (e:Int) (a:Int) (b:Val ab) (f:Int→Val ab→Option ρ) (g:Val ab→Option ρ):Option ρ :=
  ifb (ilt a e) (ą d a fun c=>è (ñ ((List.length b)+(List.length ([c.1])))) (ck (a+(1:Int)) fun h=>f h (b++([c.1])))) (g b)
def rM (f:Int) (g:Int) (h:Val ae) (i:Val aa) (j:Val af) (k:Val ac) (l:Val aa) (m:Val ai) (b:Val ab) (a:Int) (d:Val ab→Int→Option ρ) (n:Val ab→Option ρ):Option ρ :=
  ifb (ige a 0) (è ((ile 0 a)&&(ile a (ú b))) (ck (a+(1:Int)) fun c=>è ((ile 0 c)&&(ile c (ú b))) (Ä (ĸ ([(List.take (Int.toNat a) b),(List.drop (Int.toNat c) b)])) fun e=>Ä (GK (((f,g),h,i,j,k,l),m) e) fun o=>Ä (ü o) fun p=>ifb (!p.2) (ck (a-(1:Int)) fun q=>d e q) (ck (a-(1:Int)) fun r=>d b r)))) (n b)
def R0 (a:Val Â) (k:Val aD→Option ρ):Option ρ :=
  Ä (Ω a) fun b=>ifb (ine b 0) (k ([],b)) (Ä (ü a) fun f=>ifb f.2 (k ([],(5:Int))) (Í (fun(c:Val Ŋ) g=>xF a.1.2.2.2.2.1 (à a.1.2.2.2.2.1) c.1 c.2 (fun h i=>g (h,i)) (fun d=>ck ((à d)-(1:Int)) fun j=>Í (fun(e:Val aD) l=>rM a.1.1.1 a.1.1.2 a.1.2.1 a.1.2.2.1 a.1.2.2.2.1 a.1.2.2.2.2.1 a.1.2.2.2.2.2 a.2 e.1 e.2 (fun m n=>l (m,n)) (fun o=>k (o,(0:Int)))) (d,j))) ((0:Int),[])))
def GQ (a:Val Â):Option ((Val aD)):=R0 a some
def Bt (c:Int) (a:Int) (b:Val ab) (d:Int→Val ab→Option ρ) (e:Val ab→Option ρ):Option ρ :=
  ifb (ilt a c) (è ((ile 0 a)&&(ilt a (ú b))) (Ŝ b (Int.toNat a) fun g=>ck (a+(1:Int)) fun f=>d f (List.set b (Int.toNat a) (1152921504606846976:Int)))) (e b)
def Sd (c:Int) (a:Int) (b:Val ab) (d:Int→Val ab→Option ρ) (e:Val ab→Option ρ):Option ρ :=
  ifb (ilt a c) (è ((ile 0 a)&&(ilt a (ú b))) (Ŝ b (Int.toNat a) fun g=>ck (a+(1:Int)) fun f=>d f (List.set b (Int.toNat a) (1152921504606846976:Int)))) (e b)
def FM (d:Val ab) (f:Val ak) (g:Int) (c:Int) (b:Val ab) (e:Int→Val ab→Option ρ) (h:Val ab→Option ρ):Option ρ :=
  ifb (ilt c g) (ą f c fun a=>ą d a.2.1 fun i=>ifb (ine i 1152921504606846976) (è ((ile 0 a.1)&&(ilt a.1 (ú b))) (Ŝ b (Int.toNat a.1) fun j=>ą d a.2.1 fun k=>ck (a.2.2+k) fun l=>è ((ile 0 a.1)&&(ilt a.1 (ú b))) (Ŝ b (Int.toNat a.1) fun o=>ck (c+(1:Int)) fun m=>e m (List.set b (Int.toNat a.1) (aai j l))))) (ck (c+(1:Int)) fun n=>e n b)) (h b)
def Kz (i:Int) (b:Int) (d:Val ak) (e:Int) (a:Val ah) (j:Int→Val ah→Option ρ) (k:Val ah→Option ρ):Option ρ :=
  ifb (ilt e i) (ck ((à a)-(1:Int)) fun c=>è ((ile 0 c)&&(ilt c (ú a))) (Ŝ a (Int.toNat c) fun l=>è ((ile 0 b)&&(ñ (Int.toNat b))) (Í (fun(f:Val Ŋ) m=>Sd (à (List.replicate (Int.toNat b) (0:Int))) f.1 f.2 (fun n o=>m (n,o)) (fun p=>Í (fun(g:Val Ŋ) q=>FM l d (à d) g.1 g.2 (fun r s=>q (r,s)) (fun h=>è (ñ ((List.length a)+(List.length ([h])))) (ck (e+(1:Int)) fun t=>j t (a++([h]))))) ((0:Int),p))) ((0:Int),(List.replicate (Int.toNat b) (0:Int)))))) (k a)
def Mn (a:Val Ö) (b:Int) (f:Int) (k:Val ah→Option ρ):Option ρ :=
  è ((ile 0 a.1)&&(ñ (Int.toNat a.1))) (Í (fun(d:Val Ŋ) g=>Bt (à (List.replicate (Int.toNat a.1) (0:Int))) d.1 d.2 (fun h i=>g (h,i)) (fun c=>è ((ile 0 b)&&(ilt b (ú c))) (Ŝ c (Int.toNat b) fun o=>Í (fun(e:Val bh) j=>Kz f a.1 a.2 e.1 e.2 (fun l m=>j (l,m)) (fun n=>k n)) ((0:Int),[(List.set c (Int.toNat b) (0:Int))])))) ((0:Int),(List.replicate (Int.toNat a.1) (0:Int))))
def GR (a:Val Ö) (b:Int) (c:Int):Option ((Val ah)):=Mn a b c some
def pF (d:Int) (c:Int) (e:Val ak) (a:Int) (b:Val am) (f:Int→Val am→Option ρ) (g:Val am→Option ρ):Option ρ :=
  ifb (ilt a d) (Ä (GR (c,e) a c) fun h=>è ((ile 0 a)&&(ilt a (ú b))) (Ŝ b (Int.toNat a) fun j=>ck (a+(1:Int)) fun i=>f i (List.set b (Int.toNat a) h))) (g b)
def Jk (g:Int) (h:Val ah) (j:Val ak) (k:Int) (e:Int) (b:Int) (a:Int) (c:Val ab) (f:Int→Int→Int→Val ab→Option ρ) (i:(Val (.pair tI Ŋ))→Option ρ):Option ρ :=
  ifb (ilt a k) (ą j a fun d=>ifb (ieq d.1 e) (ck (g-(1:Int)) fun l=>ą h l fun m=>ą m d.2.1 fun n=>ifb (ine n 1152921504606846976) (ck (b+d.2.2) fun o=>ck (g-(1:Int)) fun p=>ą h p fun q=>ą q d.2.1 fun r=>ck (o+r) fun s=>ifb (ilt s 0) (è (ñ ((List.length c)+(List.length ([a])))) (ck (b+d.2.2) fun t=>i (d.2.1,t,(c++([a]))))) (ck (a+(1:Int)) fun u=>f e b u c)) (ck (a+(1:Int)) fun v=>f e b v c)) (ck (a+(1:Int)) fun w=>f e b w c)) (i (e,b,c))
def Ax (f:Val ah) (d:Val ak) (g:Int) (b:Int) (h:Int) (e:Val ab) (i:Int→Int→Int→Val ab→Option ρ) (j:Val ab→Option ρ):Option ρ :=
  ifb (igt b 0) (Í (fun(a:Val aP) k=>Jk b f d (à d) a.1 a.2.1 a.2.2.1 a.2.2.2 (fun l m n o=>k (l,m,n,o)) (fun c=>ck (b-(1:Int)) fun p=>i c.1 p c.2.1 c.2.2)) (g,h,(0:Int),e)) (j e)
def pE (e:Int) (h:Val ak) (i:Int) (j:Int) (k:Val ak) (b:Val am) (c:Int) (f:Int→Option ρ) (l:Unit→Option ρ) (m:Val Ŋ→Option ρ) (n:Unit→Option ρ):Option ρ :=
  ifb (ilt c i) (ą h c fun a=>è ((ile 0 a.1)&&(ilt a.1 (ú b))) (Ŝ b (Int.toNat a.1) fun o=>ck (e-(1:Int)) fun p=>ą o p fun q=>ą q a.2.1 fun g=>ifb (ieq g 1152921504606846976) (ck (c+(1:Int)) fun r=>f r) (ck (a.2.2+g) fun s=>ifb (ige s 0) (ck (c+(1:Int)) fun t=>f t) (ifb (igt e j) (l ()) (è ((ile 0 a.1)&&(ilt a.1 (ú b))) (Ŝ b (Int.toNat a.1) fun u=>Í (fun(d:Val aP) v=>Ax u k d.1 d.2.1 d.2.2.1 d.2.2.2 (fun w x y z=>v (w,x,y,z)) (fun A=>m ((0:Int),A))) (a.1,e,(0:Int),[]))))))) (n ())
def tU (d:Int) (a:Val ak) (e:Val am) (b:Int) (f:Int→Option ρ) (g:Unit→Option ρ) (h:Val Ŋ→Option ρ):Option ρ :=
  Í (fun(i:Int) j=>pE b a (à a) d a e i (fun k=>j k) (fun _=>g ()) (fun c=>h (c.1,c.2)) (fun _=>ck (b+(1:Int)) fun l=>f l)) (0:Int)
def FQ (a:Val Ö) (k:Val aD→Option ρ):Option ρ :=
  Ä (wN a) fun b=>ifb (ine b.1 0) (k ([],b.1)) (Ä (mR a ([])) fun e=>ifb e.2 (k ([],(5:Int))) (è ((ile 0 a.1)&&(ñ (Int.toNat a.1))) (Í (fun(c:Val aF) f=>pF (à (List.replicate (Int.toNat a.1) ([]:Val ah))) a.1 a.2 c.1 c.2 (fun g h=>f (g,h)) (fun i=>Í (fun(j:Int) l=>tU a.1 a.2 i j (fun m=>l m) (fun _=>k ([],(5:Int))) (fun d=>k (d.2,d.1))) (1:Int))) ((0:Int),(List.replicate (Int.toNat a.1) ([]:Val ah))))))
def pR (a:Val Ö):Option ((Val aD)):=FQ a some
def tO (d:Val am) (e:Int) (f:Int) (g:Int) (h:Val ae) (i:Val aa) (j:Val af) (k:Val ac) (l:Val aa) (m:Val ai) (b:Int) (a:Val ah) (n:Int→Val ah→Option ρ) (o:Val bh→Option ρ) (p:Val ah→Option ρ):Option ρ :=
  ifb (ilt b e) (ą d b fun q=>Ä (ky (((f,g),h,i,j,k,l),m) q) fun r=>Ä (iX r) fun s=>Ä (pR s.1) fun c=>ifb (ine c.2 0) (o ((5:Int),a)) (è (ñ ((List.length a)+(List.length ([c.1])))) (ck (b+(1:Int)) fun t=>n t (a++([c.1]))))) (p a)
def Mc (a:Val Â) (k:Val bj→Option ρ):Option ρ :=
  Ä (Ω a) fun b=>ifb (ine b 0) (k ([],b)) (Ä (GI a) fun c=>Í (fun(d:Val bh) e=>tO c (à c) a.1.1.1 a.1.1.2 a.1.2.1 a.1.2.2.1 a.1.2.2.2.1 a.1.2.2.2.2.1 a.1.2.2.2.2.2 a.2 d.1 d.2 (fun f g=>e (f,g)) (fun h=>k ([],h.1)) (fun i=>k (i,(0:Int)))) ((0:Int),[]))
def AX (a:Val Â):Option ((Val bj)):=Mc a some
def ME (a:Val Ö) (b:Int) (c:Int) (k:Val Ã→Option ρ):Option ρ :=
  Ä (AY a ([b,c])) fun d=>ifb (ine d 0) (k ((0:Int),d)) (Ä (qZ a ([]) b) fun f=>ą f c fun e=>ifb (ieq e 1152921504606846976) (k ((0:Int),(5:Int))) (k (e,(0:Int))))
def GS (a:Val Ö) (b:Int) (c:Int):Option (Val Ã):=ME a b c some
def vc (a:Val aE) (b:Int) (c:Int) (k:Int→Option ρ):Option ρ :=
  Ä (GS a.2 c b) fun d=>k d.1
def jv (a:Val aE) (b:Int) (c:Int):Option (Int):=vc a b c some
def DR (a:Val aE) (b:Val Ã) (k:Int→Option ρ):Option ρ :=
  Ä (iY a.1 b) fun c=>k c.1
def sm (a:Val aE) (b:Val Ã):Option (Int):=DR a b some
def uZ (a:Val aE) (b:Val Ã) (k:Int→Option ρ):Option ρ :=
  Ä (sm a b) fun c=>Ä (jv a (0:Int) c) fun d=>ck (0-d) fun e=>k e
def oY (a:Val aE) (b:Val Ã):Option (Int):=uZ a b some
def oI (a:Val aE) (b:Val Ã) (k:Int→Option ρ):Option ρ :=
  Ä (sm a b) fun c=>Ä (jv a c (0:Int)) fun d=>k d
def kB (a:Val aE) (b:Val Ã):Option (Int):=oI a b some
def oH (a:Val aE) (b:Val Ã) (k:Val Ã→Option ρ):Option ρ :=
  Ä (oY a b) fun c=>Ä (kB a b) fun d=>k (c,d)
def kz (a:Val aE) (b:Val Ã):Option (Val Ã):=oH a b some
def jX (m:Int) (j:Val aa) (b:Int) (c:Int) (d:Int) (e:Val ae) (f:Val aa) (g:Val af) (h:Val ac) (i:Val aa) (k:Int→Int→Int→Val ae→Val aa→Val af→Val ac→Val aa→Option ρ) (n:(Val (.pair tI ao))→Option ρ) (o:Val ao→Option ρ):Option ρ :=
  ifb (ilt b m) (è ((ile 0 b)&&(ilt b (ú j))) (Ŝ j (Int.toNat b) fun l=>Ä (iY ((c,d),e,f,g,h,i) l) fun p=>ifb (ieq p.2 0) (ck (b+(1:Int)) fun q=>k q c d e f g h i) (Ä (yo ((c,d),e,f,g,h,i) l) fun a=>ifb (ine a.2 0) (n (a.2,c,d,e,f,g,h,i)) (ck (b+(1:Int)) fun r=>k r a.1.1.1 a.1.1.2 a.1.2.1 a.1.2.2.1 a.1.2.2.2.1 a.1.2.2.2.2.1 a.1.2.2.2.2.2)))) (o (c,d,e,f,g,h,i))
def Ai (a:Val Ê) (e:Val Ã) (k:Val aL→Option ρ):Option ρ :=
  Ä (Ř a) fun f=>ifb (ine f 0) (è (ine f 0) (k (((0:Int),(0:Int)),f))) (Í (fun(b:(Val (.pair tI ao))) h=>jX (à ([e])) ([e]) b.1 b.2.1 b.2.2.1 b.2.2.2.1 b.2.2.2.2.1 b.2.2.2.2.2.1 b.2.2.2.2.2.2.1 b.2.2.2.2.2.2.2 (fun i j l m n o p q=>h (i,j,l,m,n,o,p,q)) (fun g=>è (ine g.1 0) (k (((0:Int),(0:Int)),g.1))) (fun c=>Ä (iX ((c.1,c.2.1),c.2.2)) fun d=>ifb (ine d.2.2 0) (è (ine d.2.2 0) (k (((0:Int),(0:Int)),d.2.2))) (Ä (jw d.1) fun r=>ifb (!r.1) (k (((0:Int),(0:Int)),(9:Int))) (Ä (kz (((c.1,c.2.1),c.2.2),d.1) e) fun s=>k (s,(0:Int)))))) ((0:Int),a.1.1,a.1.2,a.2.1,a.2.2.1,a.2.2.2.1,a.2.2.2.2.1,a.2.2.2.2.2))
def ņ (a:Val Ê) (b:Val Ã):Option ((Val aL)):=Ai a b some
def Ï (h:Val ai) (i:Int) (j:Int) (d:Int) (b:Val ak) (k:Val ae) (e:Bool) (a:Int) (c:Bool→Int→Option ρ) (f:Bool→Option ρ):Option ρ :=
  ifb (ilt a (à b)) (ifb (ige d 0) (ą k d fun l=>ą h d fun m=>Ä (Ì l m i) fun g=>ifb e (ck (a+(1:Int)) fun n=>c true n) (ą b a fun o=>ifb (ieq o.1 j) (ą b a fun p=>ifb (ige g p.2.1) (ą b a fun q=>ck (a+(1:Int)) fun r=>c (ile g q.2.2) r) (ck (a+(1:Int)) fun s=>c false s)) (ck (a+(1:Int)) fun t=>c false t))) (f e)) (f e)
def Ë (c:Val ah) (b:Val ab) (d:Val ai) (a:Int) (e:Int→Option ρ) (f:Bool→Option ρ) (g:Unit→Option ρ):Option ρ :=
  ifb (ilt a (à b)) (ą b a fun h=>Ä (õ d c h (20000:Int)) fun i=>ą b a fun j=>ifb (ine i j) (f false) (ck (a+(1:Int)) fun k=>e k)) (g ())
def ħ (c:Val Â) (f:Val ah) (i:Val ai) (x:Val ak) (j:Int) (n:Int) (o:Val ab) (k:Bool→Option ρ):Option ρ :=
  ifb (igt (à c.1.2.1) 12) (Ä É fun y=>k y) (ifb (igt (à c.1.2.2.2.2.1) 12) (Ä É fun z=>k z) (ifb (igt (à c.1.2.2.1) 40) (Ä É fun A=>k A) (ifb (igt (à c.1.2.2.2.1) 12) (Ä É fun B=>k B) (ifb (igt (à c.1.2.2.2.2.2) 10) (Ä É fun C=>k C) (ifb (igt (à c.2) 3) (Ä É fun D=>k D) (ifb (igt (à f) 3) (Ä É fun E=>k E) (ifb (igt (à o) 8) (Ä É fun F=>k F) (Ä (Ω c) fun G=>ifb (ine G 0) (Ä É fun H=>k H) (Ä (Ź c.2 f) fun I=>ifb (!I) (Ä É fun J=>k J) (Ä (wL c f) fun K=>ifb (ine K.2 0) (Ä É fun L=>k L) (Ä (ŭ c f) fun e=>Ä (ź e) fun M=>ifb (!M) (Ä É fun N=>k N) (Ä (Φ e i x) fun O=>ifb (!O) (Ä É fun P=>k P) (Ä (pQ c f) fun p=>Ä (nI c o) fun q=>Ä (nH c j) fun g=>Ä (GQ c) fun Q=>Ä (AX c) fun R=>ad7 (α:=(Val (.pair ah (.pair ai (.pair tI (.pair tI (.pair tI au))))))) (fun r=>ifb (ine p.2 0) (k false) (ifb (ine q.2 0) (k false) (ifb (!p.1) (k false) (ifb (!q.1) (k false) (ifb g.1 (k false) (ifb (ine Q.2 5) (k false) (ifb (ine R.2 5) (k false) (ifb (ine g.2 0) (ifb (ine g.2 5) (k false) (r (f,i,j,n,g.2,c.1.1.1,c.1.1.2,c.1.2.1,c.1.2.2.1,c.1.2.2.2.1,c.1.2.2.2.2.1,c.1.2.2.2.2.2,c.2,c.1.1.1,c.1.1.2,c.1.2.1,c.1.2.2.1,c.1.2.2.2.1,c.1.2.2.2.2.1,c.1.2.2.2.2.2,e.1.1,e.1.2,e.2.1,e.2.2.1,e.2.2.2.1,e.2.2.2.2.1,e.2.2.2.2.2))) (r (f,i,j,n,g.2,c.1.1.1,c.1.1.2,c.1.2.1,c.1.2.2.1,c.1.2.2.2.1,c.1.2.2.2.2.1,c.1.2.2.2.2.2,c.2,c.1.1.1,c.1.1.2,c.1.2.1,c.1.2.2.1,c.1.2.2.2.1,c.1.2.2.2.2.1,c.1.2.2.2.2.2,e.1.1,e.1.2,e.2.1,e.2.2.1,e.2.2.2.1,e.2.2.2.2.1,e.2.2.2.2.2)))))))))) (fun a=>Ä (õ a.2.2.2.2.2.2.2.2.2.2.2.2.1 a.1 a.2.2.1 a.2.2.2.1) fun l=>Ä (ķ ((a.2.2.2.2.2.2.2.2.2.2.2.2.2.1,a.2.2.2.2.2.2.2.2.2.2.2.2.2.2.1),a.2.2.2.2.2.2.2.2.2.2.2.2.2.2.2.1,a.2.2.2.2.2.2.2.2.2.2.2.2.2.2.2.2.1,a.2.2.2.2.2.2.2.2.2.2.2.2.2.2.2.2.2.1,a.2.2.2.2.2.2.2.2.2.2.2.2.2.2.2.2.2.2.1,a.2.2.2.2.2.2.2.2.2.2.2.2.2.2.2.2.2.2.2.1) l) fun s=>Ä (oQ (((a.2.2.2.2.2.1,a.2.2.2.2.2.2.1),a.2.2.2.2.2.2.2.1,a.2.2.2.2.2.2.2.2.1,a.2.2.2.2.2.2.2.2.2.1,a.2.2.2.2.2.2.2.2.2.2.1,a.2.2.2.2.2.2.2.2.2.2.2.1),a.2.2.2.2.2.2.2.2.2.2.2.2.1) a.2.2.1 a.2.2.2.1) fun h=>ad7 (α:=(Val (.pair ah (.pair ai (.pair tI (.pair tI (.pair tI (.pair ak (.pair tI au))))))))) (fun t=>ifb (ieq h.2 5) (ifb (ieq a.2.2.2.2.1 0) (k false) (t (a.1,a.2.1,a.2.2.2.1,l,s,h.1,h.2,a.2.2.2.2.2.1,a.2.2.2.2.2.2.1,a.2.2.2.2.2.2.2.1,a.2.2.2.2.2.2.2.2.1,a.2.2.2.2.2.2.2.2.2.1,a.2.2.2.2.2.2.2.2.2.2.1,a.2.2.2.2.2.2.2.2.2.2.2.1,a.2.2.2.2.2.2.2.2.2.2.2.2.1,a.2.2.2.2.2.2.2.2.2.2.2.2.2.1,a.2.2.2.2.2.2.2.2.2.2.2.2.2.2.1,a.2.2.2.2.2.2.2.2.2.2.2.2.2.2.2.1,a.2.2.2.2.2.2.2.2.2.2.2.2.2.2.2.2.1,a.2.2.2.2.2.2.2.2.2.2.2.2.2.2.2.2.2.1,a.2.2.2.2.2.2.2.2.2.2.2.2.2.2.2.2.2.2.1,a.2.2.2.2.2.2.2.2.2.2.2.2.2.2.2.2.2.2.2.1,a.2.2.2.2.2.2.2.2.2.2.2.2.2.2.2.2.2.2.2.2.1,a.2.2.2.2.2.2.2.2.2.2.2.2.2.2.2.2.2.2.2.2.2.1,a.2.2.2.2.2.2.2.2.2.2.2.2.2.2.2.2.2.2.2.2.2.2.1,a.2.2.2.2.2.2.2.2.2.2.2.2.2.2.2.2.2.2.2.2.2.2.2.1,a.2.2.2.2.2.2.2.2.2.2.2.2.2.2.2.2.2.2.2.2.2.2.2.2.1,a.2.2.2.2.2.2.2.2.2.2.2.2.2.2.2.2.2.2.2.2.2.2.2.2.2.1,a.2.2.2.2.2.2.2.2.2.2.2.2.2.2.2.2.2.2.2.2.2.2.2.2.2.2))) (t (a.1,a.2.1,a.2.2.2.1,l,s,h.1,h.2,a.2.2.2.2.2.1,a.2.2.2.2.2.2.1,a.2.2.2.2.2.2.2.1,a.2.2.2.2.2.2.2.2.1,a.2.2.2.2.2.2.2.2.2.1,a.2.2.2.2.2.2.2.2.2.2.1,a.2.2.2.2.2.2.2.2.2.2.2.1,a.2.2.2.2.2.2.2.2.2.2.2.2.1,a.2.2.2.2.2.2.2.2.2.2.2.2.2.1,a.2.2.2.2.2.2.2.2.2.2.2.2.2.2.1,a.2.2.2.2.2.2.2.2.2.2.2.2.2.2.2.1,a.2.2.2.2.2.2.2.2.2.2.2.2.2.2.2.2.1,a.2.2.2.2.2.2.2.2.2.2.2.2.2.2.2.2.2.1,a.2.2.2.2.2.2.2.2.2.2.2.2.2.2.2.2.2.2.1,a.2.2.2.2.2.2.2.2.2.2.2.2.2.2.2.2.2.2.2.1,a.2.2.2.2.2.2.2.2.2.2.2.2.2.2.2.2.2.2.2.2.1,a.2.2.2.2.2.2.2.2.2.2.2.2.2.2.2.2.2.2.2.2.2.1,a.2.2.2.2.2.2.2.2.2.2.2.2.2.2.2.2.2.2.2.2.2.2.1,a.2.2.2.2.2.2.2.2.2.2.2.2.2.2.2.2.2.2.2.2.2.2.2.1,a.2.2.2.2.2.2.2.2.2.2.2.2.2.2.2.2.2.2.2.2.2.2.2.2.1,a.2.2.2.2.2.2.2.2.2.2.2.2.2.2.2.2.2.2.2.2.2.2.2.2.2.1,a.2.2.2.2.2.2.2.2.2.2.2.2.2.2.2.2.2.2.2.2.2.2.2.2.2.2))) (fun b=>ad7 (α:=(Val (.pair ah (.pair ai (.pair tI (.pair tI (.pair tI au))))))) (fun u=>ifb (ieq b.2.2.2.2.2.2.1 0) (Í (fun(v:Val aK) S=>Ï b.2.1 b.2.2.1 b.2.2.2.1 b.2.2.2.2.1 b.2.2.2.2.2.1 b.2.2.2.2.2.2.2.2.2.2.2.2.2.2.2.2.2.1 v.1 v.2 (fun T U=>S (T,U)) (fun V=>ifb (!V) (k false) (u (b.1,b.2.1,b.2.2.1,b.2.2.2.1,b.2.2.2.2.1,b.2.2.2.2.2.2.2.1,b.2.2.2.2.2.2.2.2.1,b.2.2.2.2.2.2.2.2.2.1,b.2.2.2.2.2.2.2.2.2.2.1,b.2.2.2.2.2.2.2.2.2.2.2.1,b.2.2.2.2.2.2.2.2.2.2.2.2.1,b.2.2.2.2.2.2.2.2.2.2.2.2.2.1,b.2.2.2.2.2.2.2.2.2.2.2.2.2.2.1,b.2.2.2.2.2.2.2.2.2.2.2.2.2.2.2.1,b.2.2.2.2.2.2.2.2.2.2.2.2.2.2.2.2.1,b.2.2.2.2.2.2.2.2.2.2.2.2.2.2.2.2.2.1,b.2.2.2.2.2.2.2.2.2.2.2.2.2.2.2.2.2.2.1,b.2.2.2.2.2.2.2.2.2.2.2.2.2.2.2.2.2.2.2.1,b.2.2.2.2.2.2.2.2.2.2.2.2.2.2.2.2.2.2.2.2.1,b.2.2.2.2.2.2.2.2.2.2.2.2.2.2.2.2.2.2.2.2.2.1,b.2.2.2.2.2.2.2.2.2.2.2.2.2.2.2.2.2.2.2.2.2.2.1,b.2.2.2.2.2.2.2.2.2.2.2.2.2.2.2.2.2.2.2.2.2.2.2.1,b.2.2.2.2.2.2.2.2.2.2.2.2.2.2.2.2.2.2.2.2.2.2.2.2.1,b.2.2.2.2.2.2.2.2.2.2.2.2.2.2.2.2.2.2.2.2.2.2.2.2.2.1,b.2.2.2.2.2.2.2.2.2.2.2.2.2.2.2.2.2.2.2.2.2.2.2.2.2.2.1,b.2.2.2.2.2.2.2.2.2.2.2.2.2.2.2.2.2.2.2.2.2.2.2.2.2.2.2.1,b.2.2.2.2.2.2.2.2.2.2.2.2.2.2.2.2.2.2.2.2.2.2.2.2.2.2.2.2)))) (false,(0:Int))) (u (b.1,b.2.1,b.2.2.1,b.2.2.2.1,b.2.2.2.2.1,b.2.2.2.2.2.2.2.1,b.2.2.2.2.2.2.2.2.1,b.2.2.2.2.2.2.2.2.2.1,b.2.2.2.2.2.2.2.2.2.2.1,b.2.2.2.2.2.2.2.2.2.2.2.1,b.2.2.2.2.2.2.2.2.2.2.2.2.1,b.2.2.2.2.2.2.2.2.2.2.2.2.2.1,b.2.2.2.2.2.2.2.2.2.2.2.2.2.2.1,b.2.2.2.2.2.2.2.2.2.2.2.2.2.2.2.1,b.2.2.2.2.2.2.2.2.2.2.2.2.2.2.2.2.1,b.2.2.2.2.2.2.2.2.2.2.2.2.2.2.2.2.2.1,b.2.2.2.2.2.2.2.2.2.2.2.2.2.2.2.2.2.2.1,b.2.2.2.2.2.2.2.2.2.2.2.2.2.2.2.2.2.2.2.1,b.2.2.2.2.2.2.2.2.2.2.2.2.2.2.2.2.2.2.2.2.1,b.2.2.2.2.2.2.2.2.2.2.2.2.2.2.2.2.2.2.2.2.2.1,b.2.2.2.2.2.2.2.2.2.2.2.2.2.2.2.2.2.2.2.2.2.2.1,b.2.2.2.2.2.2.2.2.2.2.2.2.2.2.2.2.2.2.2.2.2.2.2.1,b.2.2.2.2.2.2.2.2.2.2.2.2.2.2.2.2.2.2.2.2.2.2.2.2.1,b.2.2.2.2.2.2.2.2.2.2.2.2.2.2.2.2.2.2.2.2.2.2.2.2.2.1,b.2.2.2.2.2.2.2.2.2.2.2.2.2.2.2.2.2.2.2.2.2.2.2.2.2.2.1,b.2.2.2.2.2.2.2.2.2.2.2.2.2.2.2.2.2.2.2.2.2.2.2.2.2.2.2.1,b.2.2.2.2.2.2.2.2.2.2.2.2.2.2.2.2.2.2.2.2.2.2.2.2.2.2.2.2))) (fun d=>Ä (jL (((d.2.2.2.2.2.1,d.2.2.2.2.2.2.1),d.2.2.2.2.2.2.2.1,d.2.2.2.2.2.2.2.2.1,d.2.2.2.2.2.2.2.2.2.1,d.2.2.2.2.2.2.2.2.2.2.1,d.2.2.2.2.2.2.2.2.2.2.2.1),d.2.2.2.2.2.2.2.2.2.2.2.2.1)) fun w=>Í (fun(W:Int) X=>Ë d.1 w.1 d.2.2.2.2.2.2.2.2.2.2.2.2.1 W (fun Y=>X Y) (fun Z=>k Z) (fun _=>Ä (ņ ((d.2.2.2.2.2.2.2.2.2.2.2.2.2.2.2.2.2.2.2.2.1,d.2.2.2.2.2.2.2.2.2.2.2.2.2.2.2.2.2.2.2.2.2.1),d.2.2.2.2.2.2.2.2.2.2.2.2.2.2.2.2.2.2.2.2.2.2) (d.2.2.2.1,d.2.2.1)) fun m=>Ä É fun dc=>ifb dc (ifb (ieq w.2 0) (ifb (ine m.2 0) (k true) (ifb (ilt d.2.2.2.2.1 0) (k true) (ą d.2.2.2.2.2.2.2.2.2.2.2.2.2.2.2.1 d.2.2.2.2.1 fun df=>ą d.2.1 d.2.2.2.2.1 fun dg=>Ä (Ì df dg d.2.2.1) fun dh=>ifb (ige dh m.1.1) (ą d.2.2.2.2.2.2.2.2.2.2.2.2.2.2.2.1 d.2.2.2.2.1 fun di=>ą d.2.1 d.2.2.2.2.1 fun dj=>Ä (Ì di dj d.2.2.1) fun dk=>k (ile dk m.1.2)) (k false)))) (k false)) (k false))) (0:Int)))))))))))))))))
def Ī (a:Val Â) (b:Val ah) (c:Val ai) (d:Val ak) (e:Int) (f:Int) (g:Val ab):Option (Bool):=ħ a b c d e f g some
end Go.Proofs.ZzM
end
