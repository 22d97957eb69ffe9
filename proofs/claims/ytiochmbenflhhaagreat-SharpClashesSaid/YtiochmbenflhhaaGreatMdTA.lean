/- lemmas -/
import Derived.Test.YtiochmbenflhhaaGreatAmF
set_option linter.all false
set_option linter.unusedSectionVars false
set_option linter.unusedVariables false
set_option linter.unusedSimpArgs false
noncomputable section
variable {ρ:Type}
set_option maxRecDepth 100000
namespace Go.Proofs.ZzM
open Go Go.Am
abbrev tI:Ty:=.int .i64
abbrev Â:Ty:=(.pair tI tI)
abbrev Ĉ:Ty:=(.pair tI Â)
abbrev å:Ty:=(.pair Â Â)
abbrev ķ:Ty:=(.pair Â tI)
abbrev Ń:Ty:=(.pair tI ķ)
abbrev tG:Ty:=(.pair å tI)
abbrev É:Ty:=(.pair tI (.slice Ĉ))
abbrev w9:Ty:=(.pair (.slice Ĉ) (.slice Â))
abbrev ũ:Ty:=(.pair Â (.pair Ĉ Ĉ))
abbrev Ï:Ty:=(.pair tI (.pair tI (.pair tI (.pair Â ķ))))
abbrev È:Ty:=(.pair tI (.pair tI (.pair (.slice tI) (.pair (.slice tI) (.pair tI Ĉ)))))
abbrev Ã:Ty:=(.pair Â (.pair (.slice Ï) (.pair (.slice Â) (.pair (.slice Ń) (.pair (.slice È) (.slice Â))))))
abbrev Ow:Ty:=(.pair Ã (.pair É (.pair (.slice (.slice tI)) tI)))
abbrev ü:Ty:=(.pair Ã (.pair Â (.pair .bool (.pair tI (.slice tI)))))
abbrev tyroom:Ty:=(.pair Ã É)
abbrev arN:Ty:=(.pair Ã (.pair (.slice Â) (.pair É (.slice Â))))
abbrev aa:Ty:=(.slice Â)
abbrev ab:Ty:=(.slice È)
abbrev ac:Ty:=(.slice Ï)
abbrev ae:Ty:=(.slice tI)
abbrev af:Ty:=(.slice Ń)
abbrev ah:Ty:=(.slice Ĉ)
abbrev ai:Ty:=(.pair tI (.pair tI (.pair ac (.pair aa (.pair af (.pair ab aa))))))
abbrev aj:Ty:=(.pair tI (.pair tI (.pair ac (.pair aa (.pair af (.pair ab (.pair aa (.pair tI (.pair tI (.pair ac (.pair aa (.pair af (.pair ab (.pair aa (.pair tI (.pair tI (.pair ac (.pair aa (.pair af (.pair ab (.pair aa (.pair (.map tI .bool) (.pair (.map tI .bool) ac)))))))))))))))))))))))
abbrev ak:Ty:=(.slice ae)
abbrev am:Ty:=(.map tI .bool)
abbrev ao:Ty:=(.pair ae (.pair tI (.pair tI (.pair tI (.pair ac (.pair aa (.pair af (.pair ab (.pair aa (.pair tI (.pair tI (.pair tI (.pair tI (.pair tI (.pair tI (.pair ae (.pair ae (.pair tI (.pair tI (.pair tI (.pair tI (.pair aa (.pair tI (.pair tI (.pair ac (.pair aa (.pair af (.pair ab (.pair aa (.pair tI (.pair ah (.pair tI (.pair tI (.pair tI (.pair tI (.pair tI (.pair tI (.pair tI (.pair tI (.pair ak (.pair ak ak)))))))))))))))))))))))))))))))))))))))))
abbrev aq:Ty:=(.pair tI (.pair tI (.pair ac (.pair aa (.pair af (.pair ab (.pair aa ai)))))))
abbrev ar:Ty:=(.pair tI (.pair tI (.pair tI (.pair tI (.pair tI Ĉ)))))
abbrev au:Ty:=(.map tI Ï)
abbrev aw:Ty:=(.pair tI ae)
abbrev ax:Ty:=(.pair tI (.pair tI (.pair tI (.pair ac (.pair aa (.pair af (.pair ab (.pair aa (.pair tI (.pair tI (.pair tI (.pair tI (.pair tI (.pair tI (.pair ae (.pair ae (.pair tI (.pair tI (.pair tI (.pair tI aa))))))))))))))))))))
abbrev ay:Ty:=(.pair tI (.pair tI (.pair ac (.pair aa (.pair af (.pair ab (.pair aa (.pair tI Ĉ))))))))
abbrev az:Ty:=(.ptr tyroom)
abbrev aA:Ty:=(.pair tI (.pair tI (.pair ac (.pair aa (.pair af (.pair ab (.pair aa (.pair tI (.pair tI (.pair ae (.pair ae (.pair tI (.pair tI (.pair tI aw))))))))))))))
abbrev aB:Ty:=(.slice .bool)
abbrev aC:Ty:=(.slice ak)
abbrev aD:Ty:=(.pair tI (.pair tI (.pair ac (.pair aa (.pair af (.pair ab (.pair aa ar)))))))
abbrev aE:Ty:=(.pair Ã È)
abbrev aF:Ty:=(.pair tI ai)
abbrev aG:Ty:=(.pair Ã Â)
abbrev aH:Ty:=(.pair tI É)
abbrev aI:Ty:=(.pair tI aa)
abbrev aJ:Ty:=(.pair Ã tI)
abbrev aK:Ty:=(.pair tI (.pair tI aw))
abbrev aL:Ty:=(.pair ae tI)
abbrev aM:Ty:=(.pair tI ak)
abbrev aO:Ty:=(.pair ae ae)
abbrev aP:Ty:=(.pair tI (.pair tI (.pair ac (.pair aa (.pair af (.pair ab (.pair aa aq)))))))
abbrev aQ:Ty:=(.pair .bool tI)
abbrev aR:Ty:=(.pair tI (.pair tI .bool))
abbrev aS:Ty:=(.pair aB ae)
abbrev aT:Ty:=(.pair tI w9)
abbrev aU:Ty:=(.pair É ae)
abbrev aV:Ty:=(.pair az Â)
abbrev aW:Ty:=(.pair Ã Ã)
abbrev aX:Ty:=(.pair tI aI)
abbrev aY:Ty:=(.ptr Â)
abbrev aZ:Ty:=(.ptr arN)
abbrev ba:Ty:=(.pair ae (.pair aB aO))
abbrev bc:Ty:=(.pair Â È)
abbrev bf:Ty:=(.pair tI Ĉ)
abbrev bg:Ty:=(.pair aa Â)
abbrev bh:Ty:=(.pair É Â)
abbrev bi:Ty:=(.pair ü (.pair (.int .u8) tI))
abbrev bj:Ty:=(.pair Ń .bool)
abbrev bm:Ty:=(.pair tI (.pair ah aC))
abbrev bn:Ty:=(.pair (.int .u64) (.int .u64))
abbrev bo:Ty:=(.pair Ã (.pair au tI))
def Kx (a:Val Â) (b:Int) (c:Int) (k:Bool→Option ρ):Option ρ :=
  ifb (ile b a.1) (ifb (ile a.1 a.2) (k (ile a.2 c)) (k false)) (k false)
def Ζ (a:Val Â) (b:Int) (c:Int):Option (Bool):=Kx a b c some
def Ko (a:Int) (b:Int) (c:Int) (k:Bool→Option ρ):Option ρ :=
  ifb (ile b a) (k (ile a c)) (k false)
def Ě (a:Int) (b:Int) (c:Int):Option (Bool):=Ko a b c some
def RM (a:Int) (k:Bool→Option ρ):Option ρ :=
  Å (Ě a (0:Int) (20000:Int)) fun b=>k b
def oi (a:Int):Option (Bool):=RM a some
def aai (a:Int) (k:Int→Option ρ):Option ρ :=
  ifb (ilt a 0) (k (IntKind.wrap .u64 (0-(IntKind.wrap .u64 a)))) (k (IntKind.wrap .u64 a))
def sw (a:Int):Option (Int):=aai a some
def AY (b:Int) (a:Int) (c:Int→Int→Option ρ) (d:Int→Option ρ):Option ρ :=
  ifb (ine a 0) (ifb (õ a 0) (none) (c a (Int.tmod b a))) (d b)
def ahd (b:Int) (c:Int) (k:Int→Option ρ):Option ρ :=
  Í (fun(a:Val bn) d=>AY a.1 a.2 (fun e f=>d (e,f)) (fun g=>k g)) (b,c)
def SE (a:Int) (b:Int):Option (Int):=ahd a b some
def Rs (a:Val Â) (k:Bool→Option ρ):Option ρ :=
  ifb (ige a.2 1) (ifb (ile a.2 2147483647) (Å (sw a.1) fun b=>ifb (ile b 2147483647) (Å (sw a.1) fun c=>Å (sw a.2) fun d=>Å (SE c d) fun e=>k (ieq e 1)) (k false)) (k false)) (k false)
def uV (a:Val Â):Option (Bool):=Rs a some
def Er (a:Val Ï) (k:Bool→Option ρ):Option ρ :=
  Å (uV a.2.2.2.2.1) fun b=>ifb b (Å (Ě a.2.2.2.2.1.1 (-1000:Int) (1000:Int)) fun c=>ifb c (Å (Ě a.1 (1:Int) (1099511627776:Int)) fun d=>ifb d (Å (oi a.2.1) fun e=>ifb e (Å (Ě a.2.2.1 (1:Int) (1125899906842624:Int)) fun f=>ifb f (Å (Ζ a.2.2.2.1 (-1073741824:Int) (1073741824:Int)) fun g=>ifb g (ifb (ile a.2.2.2.2.1.2 100) (Å (Ě a.2.2.2.2.2 (0:Int) (1048576:Int)) fun h=>k h) (k false)) (k false)) (k false)) (k false)) (k false)) (Å (Ě a.1 (1:Int) (1099511627776:Int)) fun i=>ifb i (Å (oi a.2.1) fun j=>ifb j (Å (Ě a.2.2.1 (1:Int) (1125899906842624:Int)) fun l=>ifb l (Å (Ζ a.2.2.2.1 (-1073741824:Int) (1073741824:Int)) fun m=>ifb m (k false) (k false)) (k false)) (k false)) (k false))) (Å (Ě a.1 (1:Int) (1099511627776:Int)) fun n=>ifb n (Å (oi a.2.1) fun o=>ifb o (Å (Ě a.2.2.1 (1:Int) (1125899906842624:Int)) fun p=>ifb p (Å (Ζ a.2.2.2.1 (-1073741824:Int) (1073741824:Int)) fun q=>ifb q (k false) (k false)) (k false)) (k false)) (k false))
def wV (a:Val Ï):Option (Bool):=Er a some
def jn (e:Val ac) (f:Int) (g:Val ac) (a:Int) (b:Int→Option ρ) (c:Int→Option ρ) (h:Unit→Option ρ):Option ρ :=
  ifb (ilt a f) (ï e a fun d=>Å (wV d) fun i=>ifb (!i) (c (1:Int)) (ifb (igt a 0) (ck (a-(1:Int)) fun j=>ï g j fun k=>ifb (ile d.1 k.1) (c (6:Int)) (ck (a+(1:Int)) fun l=>b l)) (ck (a+(1:Int)) fun m=>b m))) (h ())
def qu (a:Val Ã) (k:Int→Option ρ):Option ρ :=
  Í (fun(b:Int) c=>jn a.2.1 (Ö a.2.1) a.2.1 b (fun d=>c d) (fun e=>k e) (fun _=>k (0:Int))) (0:Int)
def ų (a:Val Ã):Option (Int):=qu a some
def nv (d:Val ac) (e:Int) (a:Int) (b:Val au) (f:Int→Val au→Option ρ) (g:Val au→Option ρ):Option ρ :=
  ifb (ilt a e) (ï d a fun c=>ck (a+(1:Int)) fun h=>f h (N1 (k:=tI) (v:=Ï) c.1 c b)) (g b)
def En (a:Val Ã) (k:Val au→Option ρ):Option ρ :=
  Í (fun(b:(Val (.pair tI au))) c=>nv a.2.1 (Ö a.2.1) b.1 b.2 (fun d e=>c (d,e)) (fun f=>k f)) ((0:Int),[])
def η (a:Val Ã):Option ((Val au)):=En a some
def χ (b:Val ae) (c:Int) (d:Int) (a:Int) (e:Int→Option ρ) (f:Int→Option ρ) (g:Unit→Option ρ):Option ρ :=
  ifb (ilt a d) (ï b a fun h=>ifb (ieq c h) (f a) (ck (a+(1:Int)) fun i=>e i)) (g ())
def mM (a:Val ae) (b:Int) (k:Int→Option ρ):Option ρ :=
  Í (fun(c:Int) d=>χ a b (Ö a) c (fun e=>d e) (fun f=>k f) (fun _=>k (-1:Int))) (0:Int)
def jR (a:Val ae) (b:Int):Option (Int):=mM a b some
def j4 (a:Val ae) (b:Int) (k:Bool→Option ρ):Option ρ :=
  Å (jR a b) fun c=>k (ige c 0)
def Ĥ (a:Val ae) (b:Int):Option (Bool):=j4 a b some
def ww (f:Val ab) (g:Int) (d:Int) (a:Int) (b:Val ae) (e:Int→Val ae→Option ρ) (h:Val ae→Option ρ):Option ρ :=
  ifb (ilt a g) (ï f a fun c=>Å (Ĥ c.2.2.1 d) fun i=>Å (Ĥ c.2.2.2.1 d) fun j=>ifb (!(i==j)) (è (ã ((List.length b)+(List.length ([c.2.1])))) (ck (a+(1:Int)) fun k=>e k (b++([c.2.1])))) (ck (a+(1:Int)) fun l=>e l b)) (h b)
def wu (e:Val aa) (f:Int) (g:Int) (a:Int) (b:Val ae) (d:Int→Val ae→Option ρ) (h:Val ae→Option ρ):Option ρ :=
  ifb (ilt a f) (ï e a fun c=>ifb (ieq c.1 g) (è (ã ((List.length b)+(List.length ([c.2])))) (ck (a+(1:Int)) fun i=>d i (b++([c.2])))) (ck (a+(1:Int)) fun j=>d j b)) (h b)
def aaM (a:Val Ã) (b:Val Ï) (k:Val ae→Option ρ):Option ρ :=
  Í (fun(d:Val aw) f=>ww a.2.2.2.2.1 (Ö a.2.2.2.2.1) b.1 d.1 d.2 (fun g h=>f (g,h)) (fun i=>Í (fun(e:Val aw) j=>wu a.2.2.2.2.2 (Ö a.2.2.2.2.2) b.1 e.1 e.2 (fun l m=>j (l,m)) (fun c=>è (ã (List.length c)) (è (ã (List.length (EO c))) (k (Br (EO c)))))) ((0:Int),i))) ((0:Int),[b.2.1])
def pl (a:Val Ã) (b:Val Ï):Option ((Val ae)):=aaM a b some
def sh (e:Val ae) (f:Int) (c:Int) (a:Int) (b:Val aa) (g:Int→Val aa→Option ρ) (h:Val aa→Option ρ):Option ρ :=
  ifb (ilt a f) (ï e a fun d=>è (ã ((List.length b)+(List.length ([(c,d)])))) (ck (a+(1:Int)) fun i=>g i (b++([(c,d)])))) (h b)
def si (f:Val ac) (g:Int) (h:Int) (i:Int) (j:Val ac) (k:Val aa) (l:Val af) (m:Val ab) (n:Val aa) (a:Int) (b:Val aa) (o:Int→Val aa→Option ρ) (p:Val aa→Option ρ):Option ρ :=
  ifb (ilt a g) (ï f a fun c=>Å (pl ((h,i),j,k,l,m,n) c) fun d=>Í (fun(e:Val aI) q=>sh d (Ö d) c.1 e.1 e.2 (fun r s=>q (r,s)) (fun t=>ck (a+(1:Int)) fun u=>o u t)) ((0:Int),b)) (p b)
def RG (a:Val Ã) (k:Val aa→Option ρ):Option ρ :=
  Í (fun(b:Val aI) c=>si a.2.1 (Ö a.2.1) a.1.1 a.1.2 a.2.1 a.2.2.1 a.2.2.2.1 a.2.2.2.2.1 a.2.2.2.2.2 b.1 b.2 (fun d e=>c (d,e)) (fun f=>k f)) ((0:Int),[])
def qL (a:Val Ã):Option ((Val aa)):=RG a some
def tg (a:Val au) (b:Int) (c:Int) (k:Int→Option ρ):Option ρ :=
  abR (k:=tI) (v:=Ï) b a (fun d=>ifb (ilt c d.2.1) (k (4:Int)) (k (0:Int))) (k (5:Int))
def je (a:Val au) (b:Int) (c:Int):Option (Int):=tg a b c some
def Ep (b:Int) (a:Int) (c:(Val (.ptr au))) (k:Int→Option ρ):Option ρ :=
  Å (oi a) fun d=>ifb (!d) (k (1:Int)) (Å (je c b a) fun e=>k e)
def ĺ (a:Int) (b:Int) (c:(Val (.ptr au))):Option (Int):=Ep a b c some
def kG (d:Val af) (e:Int) (f:Int) (g:Int) (h:Int) (a:Int) (b:Int→Option ρ) (i:Int→Option ρ) (j:Unit→Option ρ):Option ρ :=
  ifb (ilt a e) (ï d a fun c=>ifb (ieq c.1 f) (ifb (ile c.2.1.1 h) (ifb (ile g c.2.1.2) (i a) (ck (a+(1:Int)) fun k=>b k)) (ck (a+(1:Int)) fun l=>b l)) (ck (a+(1:Int)) fun m=>b m)) (j ())
def Δ (d:Val aa) (e:Int) (f:Int) (g:Int) (h:Int) (a:Int) (b:Int→Option ρ) (i:Int→Option ρ) (j:Unit→Option ρ):Option ρ :=
  ifb (ilt a e) (ï d a fun c=>ifb (ieq c.1 f) (Å (Ě c.2 g h) fun k=>ifb k (i a) (ck (a+(1:Int)) fun l=>b l)) (ck (a+(1:Int)) fun m=>b m)) (j ())
def wx (b:Val Ã) (e:Val au) (c:Int) (k:Int→Option ρ):Option ρ :=
  ï b.2.2.2.1 c fun a=>Å (Ζ a.2.1 (0:Int) (20000:Int)) fun f=>ifb (!f) (k (1:Int)) (Å (Ě a.2.2 (0:Int) (1048576:Int)) fun g=>ifb (!g) (k (1:Int)) (Å (je e a.1 a.2.1.1) fun d=>ifb (ine d 0) (k d) (è ((ile 0 c)&&(ile c (ā b.2.2.2.1))) (Í (fun(h:Int) i=>kG (List.take (Int.toNat c) b.2.2.2.1) (Ö (List.take (Int.toNat c) b.2.2.2.1)) a.1 a.2.1.1 a.2.1.2 h (fun j=>i j) (fun l=>ifb (ige l 0) (k (9:Int)) (Í (fun(m:Int) n=>Δ b.2.2.1 (Ö b.2.2.1) a.1 a.2.1.1 a.2.1.2 m (fun o=>n o) (fun p=>ifb (ige p 0) (k (9:Int)) (k (0:Int))) (fun _=>k (0:Int))) (0:Int))) (fun _=>Í (fun(q:Int) r=>Δ b.2.2.1 (Ö b.2.2.1) a.1 a.2.1.1 a.2.1.2 q (fun s=>r s) (fun t=>ifb (ige t 0) (k (9:Int)) (k (0:Int))) (fun _=>k (0:Int))) (0:Int))) (0:Int)))))
def Λ (a:Val Ã) (b:Val au) (c:Int):Option (Int):=wx a b c some
def ĵ (d:Val ak) (e:Int) (b:Int) (a:Int) (f:Int→Int→Option ρ) (g:Int→Option ρ):Option ρ :=
  ifb (ilt a e) (ï d a fun h=>ck (b+(Ö h)) fun c=>ifb (ilt c 0) (none) (ck (a+(1:Int)) fun i=>f c i)) (g b)
def ð (d:Val ak) (e:Int) (a:Int) (b:Val ae) (f:Int→Val ae→Option ρ) (g:Val ae→Option ρ):Option ρ :=
  ifb (ilt a e) (ï d a fun c=>è (ã ((List.length b)+(List.length c))) (ck (a+(1:Int)) fun h=>f h (b++c))) (g b)
def jl (a:Val ak) (k:Val ae→Option ρ):Option ρ :=
  Í (fun(c:Val Â) g=>ĵ a (Ö a) c.1 c.2 (fun h i=>g (h,i)) (fun d=>ifb (ilt d 0) (none) (ck (d-(0:Int)) fun b=>ifb (igt b 0) (è ((ilt 0 b)&&(ã (Int.toNat b))) (è (ile 0 (ā (List.replicate (Int.toNat b) (0:Int)))) (Í (fun(e:Val aw) j=>ð a (Ö a) e.1 e.2 (fun l m=>j (l,m)) (fun n=>k n)) ((0:Int),(List.take 0 (List.replicate (Int.toNat b) (0:Int))))))) (Í (fun(f:Val aw) o=>ð a (Ö a) f.1 f.2 (fun p q=>o (p,q)) (fun r=>k r)) ((0:Int),[]))))) ((0:Int),(0:Int))
def í (a:Val ak):Option ((Val ae)):=jl a some
def pd (e:Val ae) (f:Val ae) (g:Int) (a:Int) (b:Int→Option ρ) (c:Bool→Option ρ) (h:Unit→Option ρ):Option ρ :=
  ifb (ilt a g) (ï f a fun d=>Å (Ě d (1:Int) (1099511627776:Int)) fun i=>ifb (!i) (c false) (ifb (igt a 0) (ck (a-(1:Int)) fun j=>ï e j fun k=>ifb (ile d k) (c false) (ck (a+(1:Int)) fun l=>b l)) (ck (a+(1:Int)) fun m=>b m))) (h ())
def Kw (a:Val ae) (k:Bool→Option ρ):Option ρ :=
  Í (fun(b:Int) c=>pd a a (Ö a) b (fun d=>c d) (fun e=>k e) (fun _=>k (ile (Ö a) 6))) (0:Int)
def nf (a:Val ae):Option (Bool):=Kw a some
def wt (c:Int) (d:Val ae) (b:Val ae) (a:Int) (e:Int→Option ρ) (f:Int→Option ρ) (g:Unit→Option ρ):Option ρ :=
  ifb (ilt a c) (è ((ile 0 a)&&(ilt a (ā b))) (Ĩ b (Int.toNat a) fun h=>Å (Ĥ d h) fun i=>ifb i (f a) (ck (a+(1:Int)) fun j=>e j))) (g ())
def kX (f:Val ae) (b:Int) (c:Int) (a:Val ae) (d:Int→Int→Val ae→Option ρ) (g:Val aw→Option ρ):Option ρ :=
  ifb (ilt c (Ö a)) (è ((ile 0 c)&&(ilt c (ā a))) (Ĩ a (Int.toNat c) fun e=>Å (Ĥ f e) fun h=>ifb (!h) (è ((ile 0 b)&&(ilt b (ā a))) (Ĩ a (Int.toNat b) fun l=>ck (b+(1:Int)) fun i=>ck (c+(1:Int)) fun j=>d i j (List.set a (Int.toNat b) e))) (ck (c+(1:Int)) fun k=>d b k a))) (g (b,a))
def aaE (b:Val ae) (e:Val ae) (k:Val ae→Option ρ):Option ρ :=
  è (ã (List.length b)) (Í (fun(f:Int) g=>wt (Ö b) e b f (fun h=>g h) (fun c=>ifb (ieq c (-1:Int)) (k b) (ck (c+(1:Int)) fun i=>Í (fun(d:(Val (.pair tI aw))) j=>kX e d.1 d.2.1 d.2.2 (fun l m n=>j (l,m,n)) (fun a=>è ((ile 0 a.1)&&(ile a.1 (ā a.2))) (è ((ile 0 a.1)&&(ile a.1 (ā (List.take (Int.toNat a.1) a.2++List.replicate (List.length a.2-(Int.toNat a.1)) (0:Int)++List.drop ((Int.toNat a.1)+(List.length a.2-(Int.toNat a.1))) a.2)))) (k (List.take (Int.toNat a.1) (List.drop 0 (List.take (Int.toNat a.1) a.2++List.replicate (List.length a.2-(Int.toNat a.1)) (0:Int)++List.drop ((Int.toNat a.1)+(List.length a.2-(Int.toNat a.1))) a.2))))))) (c,i,b))) (fun _=>k b)) (0:Int))
def Š (a:Val ae) (b:Val ae):Option ((Val ae)):=aaE a b some
def wy (d:Val af) (e:Int) (f:Int) (g:Int) (a:Int) (c:Int→Option ρ) (h:Int→Option ρ) (i:Unit→Option ρ):Option ρ :=
  ifb (ilt a e) (ï d a fun b=>ifb (ieq b.1 f) (Å (Ě g b.2.1.1 b.2.1.2) fun j=>ifb j (h a) (ck (a+(1:Int)) fun k=>c k)) (ck (a+(1:Int)) fun l=>c l)) (i ())
def aaN (a:Val Ã) (c:Int) (d:Int) (k:Val bj→Option ρ):Option ρ :=
  Í (fun(e:Int) f=>wy a.2.2.2.1 (Ö a.2.2.2.1) c d e (fun g=>f g) (fun b=>ifb (ilt b 0) (k (((0:Int),((0:Int),(0:Int)),(0:Int)),false)) (ï a.2.2.2.1 b fun h=>k (h,true))) (fun _=>k (((0:Int),((0:Int),(0:Int)),(0:Int)),false))) (0:Int)
def Bm (a:Val Ã) (b:Int) (c:Int):Option ((Val bj)):=aaN a b c some
def iM (b:Val ab) (c:Int) (d:Int) (a:Int) (e:Int→Option ρ) (f:Int→Option ρ) (g:Unit→Option ρ):Option ρ :=
  ifb (ilt a c) (ï b a fun h=>ifb (ieq h.1 d) (f a) (ck (a+(1:Int)) fun i=>e i)) (g ())
def iL (c:Val au) (b:Int) (d:Val ae) (e:Int) (f:Int) (a:Int) (g:Int→Option ρ) (h:Int→Option ρ) (i:Unit→Option ρ):Option ρ :=
  ifb (ilt a e) (ï d a fun j=>Å (je c j f) fun k=>ifb (ieq k b) (h b) (ck (a+(1:Int)) fun l=>g l)) (i ())
def ň (d:Val au) (b:Val ae) (e:Int) (f:Int) (c:Val ae) (a:Int) (g:Int→Option ρ) (h:Int→Option ρ) (i:Unit→Option ρ):Option ρ :=
  ifb (ilt a e) (è ((ile 0 a)&&(ilt a (ā c))) (Ĩ c (Int.toNat a) fun j=>Í (fun(k:Int) l=>iL d j b (Ö b) f k (fun m=>l m) (fun n=>h n) (fun _=>ck (a+(1:Int)) fun o=>g o)) (0:Int))) (i ())
def Ň (b:Val ae) (c:Int) (d:Int) (e:Int) (f:Val ac) (g:Val aa) (h:Val af) (i:Val ab) (j:Val aa) (k:Int) (a:Int) (l:Int→Option ρ) (m:Int→Option ρ) (n:Unit→Option ρ):Option ρ :=
  ifb (ilt a c) (ï b a fun o=>Å (Bm ((d,e),f,g,h,i,j) o k) fun p=>ifb p.2 (m (9:Int)) (ck (a+(1:Int)) fun q=>l q)) (n ())
def oC (b:Val Ã) (f:Val au) (c:Int) (k:Int→Option ρ):Option ρ :=
  ï b.2.2.2.2.1 c fun a=>Å (Ě a.1 (1:Int) (1099511627776:Int)) fun l=>ifb (!l) (k (1:Int)) (Å (oi a.2.1) fun m=>ifb (!m) (k (1:Int)) (Å (Ě a.2.2.2.2.1 (-1125899906842624:Int) (1125899906842624:Int)) fun n=>ifb (!n) (k (1:Int)) (Å (Ě a.2.2.2.2.2.1 (0:Int) (1073741824:Int)) fun o=>ifb (!o) (k (1:Int)) (Å (Ζ a.2.2.2.2.2.2 (-10000:Int) (10000:Int)) fun p=>ifb (!p) (k (1:Int)) (Å (nf a.2.2.1) fun q=>ifb (!q) (k (1:Int)) (Å (nf a.2.2.2.1) fun r=>ifb (!r) (k (1:Int)) (è ((ile 0 c)&&(ile c (ā b.2.2.2.2.1))) (Í (fun(s:Int) t=>iM (List.take (Int.toNat c) b.2.2.2.2.1) (Ö (List.take (Int.toNat c) b.2.2.2.2.1)) a.1 s (fun u=>t u) (fun v=>ifb (ige v 0) (k (6:Int)) (Å (í ([a.2.2.1,a.2.2.2.1])) fun d=>Í (fun(w:Int) x=>ň f d (Ö ([(5:Int),(4:Int)])) a.2.1 ([(5:Int),(4:Int)]) w (fun y=>x y) (fun z=>k z) (fun _=>Í (fun(A:Int) B=>Ň d (Ö d) b.1.1 b.1.2 b.2.1 b.2.2.1 b.2.2.2.1 b.2.2.2.2.1 b.2.2.2.2.2 a.2.1 A (fun C=>B C) (fun D=>k D) (fun _=>Å (Š a.2.2.1 a.2.2.2.1) fun g=>Å (Š a.2.2.2.1 a.2.2.1) fun h=>ifb (igt (Ö g) 1) (k (1:Int)) (ifb (igt (Ö h) 1) (k (1:Int)) (ck ((Ö g)+(Ö h)) fun E=>ifb (ieq E 0) (k (1:Int)) (k (0:Int)))))) (0:Int))) (0:Int))) (fun _=>Å (í ([a.2.2.1,a.2.2.2.1])) fun e=>Í (fun(F:Int) G=>ň f e (Ö ([(5:Int),(4:Int)])) a.2.1 ([(5:Int),(4:Int)]) F (fun H=>G H) (fun I=>k I) (fun _=>Í (fun(J:Int) K=>Ň e (Ö e) b.1.1 b.1.2 b.2.1 b.2.2.1 b.2.2.2.1 b.2.2.2.2.1 b.2.2.2.2.2 a.2.1 J (fun L=>K L) (fun M=>k M) (fun _=>Å (Š a.2.2.1 a.2.2.2.1) fun i=>Å (Š a.2.2.2.1 a.2.2.1) fun j=>ifb (igt (Ö i) 1) (k (1:Int)) (ifb (igt (Ö j) 1) (k (1:Int)) (ck ((Ö i)+(Ö j)) fun N=>ifb (ieq N 0) (k (1:Int)) (k (0:Int)))))) (0:Int))) (0:Int))) (0:Int)))))))))
def Ľ (a:Val Ã) (b:Val au) (c:Int):Option (Int):=oC a b c some
def oc (b:Val Ã) (s:Val au):Option (List Int) :=
  Å (Pe (fun u=>ĺ u.1 u.2 s) (b.2.2.1:List (Int×Int))) fun a=>Å (Pe (fun i=>Λ b s i) (xV (b.2.2.2.1:List (Val Ń)).length)) fun c =>
    Å (Pe (fun i=>Ľ b s i) (xV (b.2.2.2.2.1:List (Val È)).length)) fun d=>Å (Pe (fun u=>ĺ u.1 u.2 s) (b.2.2.2.2.2:List (Int×Int))) fun e=>some (a++(c++(d++e)))
def RU (a:Val Ã) (k:Int→Option ρ):Option ρ :=
  Å (Ζ a.1 (0:Int) (1000000:Int)) fun d=>ifb (!d) (k (1:Int)) (ifb (igt (Ö a.2.1) 12) (k (2:Int)) (ifb (igt (Ö a.2.2.1) 40) (k (2:Int)) (ifb (igt (Ö a.2.2.2.1) 12) (k (2:Int)) (ifb (igt (Ö a.2.2.2.2.1) 40) (k (2:Int)) (ifb (igt (Ö a.2.2.2.2.2) 10) (k (2:Int)) (Å (ų a) fun b=>ifb (ine b 0) (k b) (Å (η a) fun e=>acn (oc a e) (fun f=>k f) (Å (qL a) fun c=>ifb (igt (Ö c) 59) (k (2:Int)) (ck ((2:Int)*(Ö a.2.1)) fun g=>ck ((Ö c)-(Ö a.2.1)) fun h=>ck ((2:Int)*h) fun i=>ck (g+i) fun j=>ck ((2:Int)*(Ö a.2.2.2.2.1)) fun l=>ck (j+l) fun m=>ifb (igt m 300) (k (2:Int)) (k (0:Int)))))))))))
def û (a:Val Ã):Option (Int):=RU a some
def A4 (l:List (Val Ï)) (m:List (Int×Bool)):Option (List (Val Ï)) :=
  è (ã l.length) (some (l.filter fun g=>(tV (k:=tI) (v:=.bool) g.1 m).getD false))
def un (c:Val ae) (d:Int) (a:Int) (b:Val am) (e:Int→Val am→Option ρ) (f:Val am→Option ρ):Option ρ :=
  ifb (ilt a d) (ï c a fun g=>ck (a+(1:Int)) fun h=>e h (N1 (k:=tI) (v:=.bool) g true b)) (f b)
def AU (j:Val aa) (l:Int) (f:Val ac) (g:Val ab) (b:Int) (c:Val am) (d:Val am) (e:Int→Val am→Val am→Option ρ) (m:(Val (.pair am am))→Option ρ):Option ρ :=
  ifb (ilt b l) (ï j b fun a=>ifb (õ a.1 0) (none) (ifb (õ a.1 1) (ï f a.2 fun n=>ck (b+(1:Int)) fun o=>e o (N1 (k:=tI) (v:=.bool) n.1 true c) d) (ifb (õ a.1 2) (ï f a.2 fun p=>ck (b+(1:Int)) fun q=>e q (N1 (k:=tI) (v:=.bool) p.1 true c) d) (è (õ a.1 3) (ï g a.2 fun r=>ï g a.2 fun s=>Å (í ([r.2.2.1,s.2.2.2.1])) fun h=>Í (fun(i:(Val (.pair tI am))) t=>un h (Ö h) i.1 i.2 (fun u w=>t (u,w)) (fun x=>ck (b+(1:Int)) fun y=>e y x (N1 (k:=tI) (v:=.bool) a.2 true d))) ((0:Int),c)))))) (m (c,d))
def uk (c:Val aa) (d:Int) (a:Int) (b:Val am) (e:Int→Val am→Option ρ) (f:Val am→Option ρ):Option ρ :=
  ifb (ilt a d) (ï c a fun g=>ck (a+(1:Int)) fun h=>e h (N1 (k:=tI) (v:=.bool) g.1 true b)) (f b)
def uj (e:Val aa) (f:Int) (g:Val am) (a:Int) (b:Val aa) (c:Int→Val aa→Option ρ) (h:Val aa→Option ρ):Option ρ :=
  ifb (ilt a f) (ï e a fun d=>abR (k:=tI) (v:=.bool) d.1 g (fun i=>ifb i (è (ã ((List.length b)+(List.length ([d])))) (ck (a+(1:Int)) fun j=>c j (b++([d])))) (ck (a+(1:Int)) fun l=>c l b)) (ck (a+(1:Int)) fun m=>c m b)) (h b)
def uh (e:Val af) (f:Int) (g:Val am) (a:Int) (b:Val af) (c:Int→Val af→Option ρ) (h:Val af→Option ρ):Option ρ :=
  ifb (ilt a f) (ï e a fun d=>abR (k:=tI) (v:=.bool) d.1 g (fun i=>ifb i (è (ã ((List.length b)+(List.length ([d])))) (ck (a+(1:Int)) fun j=>c j (b++([d])))) (ck (a+(1:Int)) fun l=>c l b)) (ck (a+(1:Int)) fun m=>c m b)) (h b)
def ug (e:Val ab) (f:Int) (g:Val am) (a:Int) (b:Val ab) (d:Int→Val ab→Option ρ) (h:Val ab→Option ρ):Option ρ :=
  ifb (ilt a f) (ï e a fun c=>abR (k:=tI) (v:=.bool) a g (fun i=>ifb i (è (ã (List.length c.2.2.1)) (è (ã (List.length c.2.2.2.1)) (è (ã ((List.length b)+(List.length ([c])))) (ck (a+(1:Int)) fun j=>d j (b++([c])))))) (ck (a+(1:Int)) fun l=>d l b)) (ck (a+(1:Int)) fun m=>d m b)) (h b)
def nO (p:Val aX) (v:Val aj) (k:Val Ã→Option ρ):Option ρ :=
  Í (fun(a:Val aI) d=>uj v.2.2.2.1 (Ö v.2.2.2.1) v.2.2.2.2.2.2.2.2.2.2.2.2.2.2.2.2.2.2.2.2.2.1 a.1 a.2 (fun e f=>d (e,f)) (fun g=>Í (fun(b:(Val (.pair tI af))) h=>uh v.2.2.2.2.1 (Ö v.2.2.2.2.1) v.2.2.2.2.2.2.2.2.2.2.2.2.2.2.2.2.2.2.2.2.2.1 b.1 b.2 (fun i j=>h (i,j)) (fun l=>Í (fun(c:(Val (.pair tI ab))) m=>ug v.2.2.2.2.2.1 (Ö v.2.2.2.2.2.1) v.2.2.2.2.2.2.2.2.2.2.2.2.2.2.2.2.2.2.2.2.2.2.1 c.1 c.2 (fun n o=>m (n,o)) (fun q=>k ((p.1,p.2.1),v.2.2.2.2.2.2.2.2.2.2.2.2.2.2.2.2.2.2.2.2.2.2.2,g,l,q,p.2.2))) ((0:Int),[]))) ((0:Int),[]))) ((0:Int),[])
def Gu (a:Val Ã) (d:Val aa) (b:Val aa) (kA:Val aX→Val aj→Option ρ):Option ρ :=
  Í (fun(c:(Val (.pair tI (.pair am am)))) g=>AU d (Ö d) a.2.1 a.2.2.2.2.1 c.1 c.2.1 c.2.2 (fun h i j=>g (h,i,j)) (fun e=>Í (fun(f:(Val (.pair tI am))) k=>uk b (Ö b) f.1 f.2 (fun l m=>k (l,m)) (fun n=>kA (a.1.1,a.1.2,b) (a.1.1,a.1.2,a.2.1,a.2.2.1,a.2.2.2.1,a.2.2.2.2.1,a.2.2.2.2.2,(0:Int),(0:Int),[],[],[],[],[],a.1.1,a.1.2,a.2.1,a.2.2.1,a.2.2.2.1,a.2.2.2.2.1,a.2.2.2.2.2,n,e.2,[]))) ((0:Int),e.1))) ((0:Int),[],[])
def amQ (a:Val Ã) (b:Val aa) (c:Val aa) (k:Val Ã→Option ρ):Option ρ :=
  Gu a b c fun p v=>Å (A4 v.2.2.2.2.2.2.2.2.2.2.2.2.2.2.2.2.1 v.2.2.2.2.2.2.2.2.2.2.2.2.2.2.2.2.2.2.2.2.2.1) fun z=>nO p (v.1,v.2.1,v.2.2.1,v.2.2.2.1,v.2.2.2.2.1,v.2.2.2.2.2.1,v.2.2.2.2.2.2.1,v.2.2.2.2.2.2.2.1,v.2.2.2.2.2.2.2.2.1,v.2.2.2.2.2.2.2.2.2.1,v.2.2.2.2.2.2.2.2.2.2.1,v.2.2.2.2.2.2.2.2.2.2.2.1,v.2.2.2.2.2.2.2.2.2.2.2.2.1,v.2.2.2.2.2.2.2.2.2.2.2.2.2.1,v.2.2.2.2.2.2.2.2.2.2.2.2.2.2.1,v.2.2.2.2.2.2.2.2.2.2.2.2.2.2.2.1,v.2.2.2.2.2.2.2.2.2.2.2.2.2.2.2.2.1,v.2.2.2.2.2.2.2.2.2.2.2.2.2.2.2.2.2.1,v.2.2.2.2.2.2.2.2.2.2.2.2.2.2.2.2.2.2.1,v.2.2.2.2.2.2.2.2.2.2.2.2.2.2.2.2.2.2.2.1,v.2.2.2.2.2.2.2.2.2.2.2.2.2.2.2.2.2.2.2.2.1,v.2.2.2.2.2.2.2.2.2.2.2.2.2.2.2.2.2.2.2.2.2.1,v.2.2.2.2.2.2.2.2.2.2.2.2.2.2.2.2.2.2.2.2.2.2.1,z) k
def SD (a:Val Ã) (b:Val aa) (c:Val aa):Option (Val Ã):=amQ a b c some
def Je (a:Val È) (k:Bool→Option ρ):Option ρ :=
  ifb (ile (Ö a.2.2.1) 10) (k (ile (Ö a.2.2.2.1) 10)) (k false)
def A9 (a:Val È):Option (Bool):=Je a some
def vw (b:Val ab) (a:Int) (d:Int→Option ρ) (e:Bool→Option ρ) (c:Unit→Option ρ):Option ρ :=
  ifb (ilt a (Ö b)) (ifb (ilt a 50) (ï b a fun f=>Å (A9 f) fun g=>ifb (!g) (e false) (ck (a+(1:Int)) fun h=>d h)) (c ())) (c ())
def Yu (a:Val Ã) (k:Bool→Option ρ):Option ρ :=
  Í (fun(b:Int) c=>vw a.2.2.2.2.1 b (fun d=>c d) (fun e=>k e) (fun _=>ifb (ile (Ö a.2.1) 14) (ifb (ile (Ö a.2.2.1) 45) (ifb (ile (Ö a.2.2.2.1) 14) (ifb (ile (Ö a.2.2.2.2.1) 42) (k (ile (Ö a.2.2.2.2.2) 12)) (k false)) (k false)) (k false)) (k false))) (0:Int)
def HP (a:Val Ã):Option (Bool):=Yu a some
def Ħ (c:Val aa) (d:Int) (e:Int) (f:Int) (a:Int) (g:Int→Option ρ) (h:Int→Option ρ) (i:Unit→Option ρ):Option ρ :=
  ifb (ilt a d) (ï c a fun b=>ifb ((õ e b.1)&&((õ f b.2)&&true)) (h a) (ck (a+(1:Int)) fun j=>g j)) (i ())
def Ů (a:Val aa) (b:Val Â) (k:Int→Option ρ):Option ρ :=
  Í (fun(c:Int) d=>Ħ a (Ö a) b.1 b.2 c (fun e=>d e) (fun f=>k f) (fun _=>k (-1:Int))) (0:Int)
def ù (a:Val aa) (b:Val Â):Option (Int):=Ů a b some
def RT (a:Val Ã) (d:Val Â) (k:Val Â→Option ρ):Option ρ :=
  Å (û a) fun b=>ifb (ine b 0) (k ((0:Int),b)) (Å (qL a) fun e=>Å (ù e d) fun c=>ifb (ilt c 0) (k ((0:Int),(5:Int))) (ck (c+(1:Int)) fun f=>k (f,(0:Int))))
def Ŝ (a:Val Ã) (b:Val Â):Option (Val Â):=RT a b some
def D8 (a:Val az) (b:Val Â) (k:Int→Option ρ):Option ρ :=
  Å (Ŝ a.1 b) fun c=>k c.1
def ζ (a:Val az) (b:Val Â):Option (Int):=D8 a b some
def Z3 (b:Val É) (a:Int) (k:Bool→Option ρ):Option ρ :=
  ifb (ige a 0) (k (ilt a b.1)) (k false)
def sv (a:Val É) (b:Int):Option (Bool):=Z3 a b some
def sc (f:Val ah) (g:Int) (d:Int) (e:Val ah) (a:Int) (h:Int→Option ρ) (c:Val Â→Option ρ) (i:Unit→Option ρ):Option ρ :=
  ifb (ilt a g) (ï f a fun b=>Å (sv (d,e) b.1) fun j=>ifb (!j) (c ((1:Int),a)) (Å (sv (d,e) b.2.1) fun k=>ifb (!k) (c ((1:Int),a)) (ifb (ieq b.1 b.2.1) (c ((1:Int),a)) (ifb (ilt b.2.2 (-4503599627370496:Int)) (c ((1:Int),a)) (ifb (igt b.2.2 4503599627370496) (c ((1:Int),a)) (ck (a+(1:Int)) fun l=>h l)))))) (i ())
def Re (a:Val É) (k:Val Â→Option ρ):Option ρ :=
  ifb (ilt a.1 1) (k ((1:Int),(-1:Int))) (ifb (igt a.1 60) (k ((1:Int),(-1:Int))) (ifb (igt (Ö a.2) 300) (k ((2:Int),(-1:Int))) (Í (fun(c:Int) d=>sc a.2 (Ö a.2) a.1 a.2 c (fun e=>d e) (fun b=>k (b.1,b.2)) (fun _=>k ((0:Int),(-1:Int)))) (0:Int))))
def oh (a:Val É):Option (Val Â):=Re a some
def ig (c:Val ah) (d:Int) (b:Int) (a:Int) (e:Int→Int→Option ρ) (f:Int→Option ρ):Option ρ :=
  ifb (ilt a d) (ï c a fun g=>ck (b+(Xh g.2.2 (0:Int))) fun h=>ck (a+(1:Int)) fun i=>e h i) (f b)
def ŏ (f:Int) (d:Val ae) (a:Int) (b:Val aB) (c:Val ae) (e:Int→Val aB→Val ae→Option ρ) (g:Val aS→Option ρ):Option ρ :=
  ifb (ilt a f) (è ((ile 0 a)&&(ilt a (ā d))) (Ĩ d (Int.toNat a) fun h=>ifb (ine h 1152921504606846976) (è (ã ((List.length c)+(List.length ([a])))) (è ((ile 0 a)&&(ilt a (ā b))) (Ĩ b (Int.toNat a) fun k=>ck (a+(1:Int)) fun i=>e i (List.set b (Int.toNat a) true) (c++([a]))))) (ck (a+(1:Int)) fun j=>e j b c))) (g (b,c))
def jw (m:Val am) (j:Int) (d:Int) (n:Val ah) (o:Int) (f:Int) (b:Val ae) (c:Val aB) (e:Val ae) (g:Int→Val ae→Val aB→Val ae→Option ρ) (l:(Val (.pair .bool (.pair ae aS)))→Option ρ) (p:(Val (.pair ae aS))→Option ρ):Option ρ :=
  ifb (ilt f o) (ï n f fun a=>ifb (ine a.1 d) (ck (f+(1:Int)) fun q=>g q b c e) (abR (k:=tI) (v:=.bool) f m (fun r=>ifb r (ck (f+(1:Int)) fun s=>g s b c e) (è ((ile 0 d)&&(ilt d (ā b))) (Ĩ b (Int.toNat d) fun t=>ck (t+a.2.2) fun u=>è ((ile 0 a.2.1)&&(ilt a.2.1 (ā b))) (Ĩ b (Int.toNat a.2.1) fun w=>ifb (ige u w) (ck (f+(1:Int)) fun x=>g x b c e) (è ((ile 0 d)&&(ilt d (ā b))) (Ĩ b (Int.toNat d) fun y=>ck (y+a.2.2) fun h=>è ((ile 0 a.2.1)&&(ilt a.2.1 (ā b))) (Ĩ b (Int.toNat a.2.1) fun M=>è ((ile 0 a.2.1)&&(ilt a.2.1 (ā (List.set b (Int.toNat a.2.1) h)))) (Ĩ (List.set b (Int.toNat a.2.1) h) (Int.toNat a.2.1) fun z=>ifb (ilt z j) (l (false,(List.set b (Int.toNat a.2.1) h),c,e)) (è ((ile 0 a.2.1)&&(ilt a.2.1 (ā c))) (Ĩ c (Int.toNat a.2.1) fun A=>ifb (!A) (è (ã ((List.length e)+(List.length ([a.2.1])))) (è ((ile 0 a.2.1)&&(ilt a.2.1 (ā c))) (Ĩ c (Int.toNat a.2.1) fun N=>ck (f+(1:Int)) fun B=>g B (List.set b (Int.toNat a.2.1) h) (List.set c (Int.toNat a.2.1) true) (e++([a.2.1]))))) (ck (f+(1:Int)) fun C=>g C (List.set b (Int.toNat a.2.1) h) c e))))))))))) (è ((ile 0 d)&&(ilt d (ā b))) (Ĩ b (Int.toNat d) fun D=>ck (D+a.2.2) fun E=>è ((ile 0 a.2.1)&&(ilt a.2.1 (ā b))) (Ĩ b (Int.toNat a.2.1) fun F=>ifb (ige E F) (ck (f+(1:Int)) fun G=>g G b c e) (è ((ile 0 d)&&(ilt d (ā b))) (Ĩ b (Int.toNat d) fun H=>ck (H+a.2.2) fun i=>è ((ile 0 a.2.1)&&(ilt a.2.1 (ā b))) (Ĩ b (Int.toNat a.2.1) fun O=>è ((ile 0 a.2.1)&&(ilt a.2.1 (ā (List.set b (Int.toNat a.2.1) i)))) (Ĩ (List.set b (Int.toNat a.2.1) i) (Int.toNat a.2.1) fun I=>ifb (ilt I j) (l (false,(List.set b (Int.toNat a.2.1) i),c,e)) (è ((ile 0 a.2.1)&&(ilt a.2.1 (ā c))) (Ĩ c (Int.toNat a.2.1) fun J=>ifb (!J) (è (ã ((List.length e)+(List.length ([a.2.1])))) (è ((ile 0 a.2.1)&&(ilt a.2.1 (ā c))) (Ĩ c (Int.toNat a.2.1) fun P=>ck (f+(1:Int)) fun K=>g K (List.set b (Int.toNat a.2.1) i) (List.set c (Int.toNat a.2.1) true) (e++([a.2.1]))))) (ck (f+(1:Int)) fun L=>g L (List.set b (Int.toNat a.2.1) i) c e)))))))))))) (p (b,c,e))
def ī (l:Val am) (m:Int) (n:Int) (k:Val ah) (h:Val ae) (d:Val aB) (b:Val ae) (c:Val ae) (o:Val ae→Val aB→Val ae→Val ae→Option ρ) (i:(Val (.pair .bool ba))→Option ρ):Option ρ :=
  ifb (ieq (Ö c) 0) (i (true,h,d,b,c)) (è (ilt 0 (ā c)) (Ĩ c 0 fun a=>è (ile 1 (ā c)) (è (decide (1+(List.length c-1)=List.length c)) (è ((ile 0 a)&&(ilt a (ā d))) (Ĩ d (Int.toNat a) fun x=>è ((ile 0 a)&&(ilt a (ā b))) (Ĩ b (Int.toNat a) fun p=>ck (p+(1:Int)) fun e=>è ((ile 0 a)&&(ilt a (ā b))) (Ĩ b (Int.toNat a) fun y=>è ((ile 0 a)&&(ilt a (ā (List.set b (Int.toNat a) e)))) (Ĩ (List.set b (Int.toNat a) e) (Int.toNat a) fun q=>ck (n+(1:Int)) fun r=>ifb (igt q r) (i (false,h,(List.set d (Int.toNat a) false),(List.set b (Int.toNat a) e),(List.drop 1 c))) (Í (fun(f:(Val (.pair tI (.pair ae aS)))) s=>jw l m a k (Ö k) f.1 f.2.1 f.2.2.1 f.2.2.2 (fun t u v w=>s (t,u,v,w)) (fun g=>i (g.1,g.2.1,g.2.2.1,(List.set b (Int.toNat a) e),g.2.2.2)) (fun j=>o j.1 j.2.1 (List.set b (Int.toNat a) e) j.2.2)) ((0:Int),h,(List.set d (Int.toNat a) false),(List.drop 1 c)))))))))))
def jv (c:Int) (d:Int) (a:Int) (b:Val ae) (e:Int→Val ae→Option ρ) (f:Val ae→Option ρ):Option ρ :=
  ifb (ilt a d) (è ((ile 0 a)&&(ilt a (ā b))) (Ĩ b (Int.toNat a) fun g=>ck (g-c) fun h=>è ((ile 0 a)&&(ilt a (ā b))) (Ĩ b (Int.toNat a) fun j=>ck (a+(1:Int)) fun i=>e i (List.set b (Int.toNat a) h)))) (f b)
def zE (a:Val É) (h:Val am) (k:(Val (.pair ae .bool))→Option ρ):Option ρ :=
  è ((ile 0 a.1)&&(ã (Int.toNat a.1))) (è ((ile 0 a.1)&&(ã (Int.toNat a.1))) (è ((ile 0 a.1)&&(ã (Int.toNat a.1))) (Í (fun(e:Val Â) i=>ig a.2 (Ö a.2) e.1 e.2 (fun j l=>i (j,l)) (fun m=>Í (fun(d:(Val (.pair tI aS))) n=>ŏ a.1 (List.replicate (Int.toNat a.1) (0:Int)) d.1 d.2.1 d.2.2 (fun o p q=>n (o,p,q)) (fun f=>Í (fun(c:Val ba) r=>ī h m a.1 a.2 c.1 c.2.1 c.2.2.1 c.2.2.2 (fun s t u v=>r (s,t,u,v)) (fun b=>ifb (!b.1) (k ([],false)) (è (ilt 0 (ā b.2.1)) (Ĩ b.2.1 0 fun w=>Í (fun(g:Val aw) x=>jv w (Ö b.2.1) g.1 g.2 (fun y z=>x (y,z)) (fun A=>k (A,true))) ((0:Int),b.2.1))))) ((List.replicate (Int.toNat a.1) (0:Int)),f.1,(List.replicate (Int.toNat a.1) (0:Int)),f.2))) ((0:Int),(List.replicate (Int.toNat a.1) false),[]))) ((0:Int),(0:Int)))))
def lr (a:Val É) (b:Val am):Option ((Val (.pair ae .bool))):=zE a b some
def rZ (b:Val ae) (c:Int) (d:Int) (e:Val ah) (a:Int) (f:Int→Option ρ) (g:Int→Option ρ) (h:Unit→Option ρ):Option ρ :=
  ifb (ilt a c) (ï b a fun i=>Å (sv (d,e) i) fun j=>ifb (!j) (g (1:Int)) (ck (a+(1:Int)) fun k=>f k)) (h ())
def Q6 (a:Val É) (b:Val ae) (k:Int→Option ρ):Option ρ :=
  Å (oh a) fun c=>ifb (ine c.1 0) (k c.1) (Í (fun(d:Int) e=>rZ b (Ö b) a.1 a.2 d (fun f=>e f) (fun g=>k g) (fun _=>Å (lr a ([])) fun h=>ifb (!h.2) (k (9:Int)) (k (0:Int)))) (0:Int))
def Ia (a:Val É) (b:Val ae):Option (Int):=Q6 a b some
def pb (c:Int) (a:Int) (b:Val ae) (d:Int→Val ae→Option ρ) (e:Val ae→Option ρ):Option ρ :=
  ifb (ilt a c) (è ((ile 0 a)&&(ilt a (ā b))) (Ĩ b (Int.toNat a) fun g=>ck (a+(1:Int)) fun f=>d f (List.set b (Int.toNat a) (1152921504606846976:Int)))) (e b)
def wd (c:Val ah) (d:Int) (b:Int) (a:Int) (e:Int→Int→Option ρ) (f:Int→Option ρ):Option ρ :=
  ifb (ilt a d) (ï c a fun g=>ck (b+(Xh g.2.2 (0:Int))) fun h=>ck (a+(1:Int)) fun i=>e h i) (f b)
def wc (f:Int) (d:Val ae) (a:Int) (b:Val aB) (c:Val ae) (e:Int→Val aB→Val ae→Option ρ) (g:Val aS→Option ρ):Option ρ :=
  ifb (ilt a f) (è ((ile 0 a)&&(ilt a (ā d))) (Ĩ d (Int.toNat a) fun h=>ifb (ine h 1152921504606846976) (è (ã ((List.length c)+(List.length ([a])))) (è ((ile 0 a)&&(ilt a (ā b))) (Ĩ b (Int.toNat a) fun k=>ck (a+(1:Int)) fun i=>e i (List.set b (Int.toNat a) true) (c++([a]))))) (ck (a+(1:Int)) fun j=>e j b c))) (g (b,c))
def GP (m:Val am) (j:Int) (d:Int) (n:Val ah) (o:Int) (f:Int) (b:Val ae) (c:Val aB) (e:Val ae) (g:Int→Val ae→Val aB→Val ae→Option ρ) (l:(Val (.pair .bool (.pair ae aS)))→Option ρ) (p:(Val (.pair ae aS))→Option ρ):Option ρ :=
  ifb (ilt f o) (ï n f fun a=>ifb (ine a.1 d) (ck (f+(1:Int)) fun q=>g q b c e) (abR (k:=tI) (v:=.bool) f m (fun r=>ifb r (ck (f+(1:Int)) fun s=>g s b c e) (è ((ile 0 d)&&(ilt d (ā b))) (Ĩ b (Int.toNat d) fun t=>ck (t+a.2.2) fun u=>è ((ile 0 a.2.1)&&(ilt a.2.1 (ā b))) (Ĩ b (Int.toNat a.2.1) fun w=>ifb (ige u w) (ck (f+(1:Int)) fun x=>g x b c e) (è ((ile 0 d)&&(ilt d (ā b))) (Ĩ b (Int.toNat d) fun y=>ck (y+a.2.2) fun h=>è ((ile 0 a.2.1)&&(ilt a.2.1 (ā b))) (Ĩ b (Int.toNat a.2.1) fun M=>è ((ile 0 a.2.1)&&(ilt a.2.1 (ā (List.set b (Int.toNat a.2.1) h)))) (Ĩ (List.set b (Int.toNat a.2.1) h) (Int.toNat a.2.1) fun z=>ifb (ilt z j) (l (false,(List.set b (Int.toNat a.2.1) h),c,e)) (è ((ile 0 a.2.1)&&(ilt a.2.1 (ā c))) (Ĩ c (Int.toNat a.2.1) fun A=>ifb (!A) (è (ã ((List.length e)+(List.length ([a.2.1])))) (è ((ile 0 a.2.1)&&(ilt a.2.1 (ā c))) (Ĩ c (Int.toNat a.2.1) fun N=>ck (f+(1:Int)) fun B=>g B (List.set b (Int.toNat a.2.1) h) (List.set c (Int.toNat a.2.1) true) (e++([a.2.1]))))) (ck (f+(1:Int)) fun C=>g C (List.set b (Int.toNat a.2.1) h) c e))))))))))) (è ((ile 0 d)&&(ilt d (ā b))) (Ĩ b (Int.toNat d) fun D=>ck (D+a.2.2) fun E=>è ((ile 0 a.2.1)&&(ilt a.2.1 (ā b))) (Ĩ b (Int.toNat a.2.1) fun F=>ifb (ige E F) (ck (f+(1:Int)) fun G=>g G b c e) (è ((ile 0 d)&&(ilt d (ā b))) (Ĩ b (Int.toNat d) fun H=>ck (H+a.2.2) fun i=>è ((ile 0 a.2.1)&&(ilt a.2.1 (ā b))) (Ĩ b (Int.toNat a.2.1) fun O=>è ((ile 0 a.2.1)&&(ilt a.2.1 (ā (List.set b (Int.toNat a.2.1) i)))) (Ĩ (List.set b (Int.toNat a.2.1) i) (Int.toNat a.2.1) fun I=>ifb (ilt I j) (l (false,(List.set b (Int.toNat a.2.1) i),c,e)) (è ((ile 0 a.2.1)&&(ilt a.2.1 (ā c))) (Ĩ c (Int.toNat a.2.1) fun J=>ifb (!J) (è (ã ((List.length e)+(List.length ([a.2.1])))) (è ((ile 0 a.2.1)&&(ilt a.2.1 (ā c))) (Ĩ c (Int.toNat a.2.1) fun P=>ck (f+(1:Int)) fun K=>g K (List.set b (Int.toNat a.2.1) i) (List.set c (Int.toNat a.2.1) true) (e++([a.2.1]))))) (ck (f+(1:Int)) fun L=>g L (List.set b (Int.toNat a.2.1) i) c e)))))))))))) (p (b,c,e))
def wa (l:Val am) (m:Int) (n:Int) (k:Val ah) (h:Val ae) (d:Val aB) (b:Val ae) (c:Val ae) (o:Val ae→Val aB→Val ae→Val ae→Option ρ) (i:(Val (.pair .bool ba))→Option ρ):Option ρ :=
  ifb (ieq (Ö c) 0) (i (true,h,d,b,c)) (è (ilt 0 (ā c)) (Ĩ c 0 fun a=>è (ile 1 (ā c)) (è (decide (1+(List.length c-1)=List.length c)) (è ((ile 0 a)&&(ilt a (ā d))) (Ĩ d (Int.toNat a) fun x=>è ((ile 0 a)&&(ilt a (ā b))) (Ĩ b (Int.toNat a) fun p=>ck (p+(1:Int)) fun e=>è ((ile 0 a)&&(ilt a (ā b))) (Ĩ b (Int.toNat a) fun y=>è ((ile 0 a)&&(ilt a (ā (List.set b (Int.toNat a) e)))) (Ĩ (List.set b (Int.toNat a) e) (Int.toNat a) fun q=>ck (n+(1:Int)) fun r=>ifb (igt q r) (i (false,h,(List.set d (Int.toNat a) false),(List.set b (Int.toNat a) e),(List.drop 1 c))) (Í (fun(f:(Val (.pair tI (.pair ae aS)))) s=>GP l m a k (Ö k) f.1 f.2.1 f.2.2.1 f.2.2.2 (fun t u v w=>s (t,u,v,w)) (fun g=>i (g.1,g.2.1,g.2.2.1,(List.set b (Int.toNat a) e),g.2.2.2)) (fun j=>o j.1 j.2.1 (List.set b (Int.toNat a) e) j.2.2)) ((0:Int),h,(List.set d (Int.toNat a) false),(List.drop 1 c)))))))))))
def Kj (a:Val É) (i:Val am) (b:Int) (k:Val ae→Option ρ):Option ρ :=
  è ((ile 0 a.1)&&(ã (Int.toNat a.1))) (Í (fun(f:Val aw) j=>pb (Ö (List.replicate (Int.toNat a.1) (0:Int))) f.1 f.2 (fun l m=>j (l,m)) (fun c=>è ((ile 0 b)&&(ilt b (ā c))) (Ĩ c (Int.toNat b) fun B=>è ((ile 0 a.1)&&(ã (Int.toNat a.1))) (è ((ile 0 a.1)&&(ã (Int.toNat a.1))) (Í (fun(g:Val Â) n=>wd a.2 (Ö a.2) g.1 g.2 (fun o p=>n (o,p)) (fun q=>Í (fun(e:(Val (.pair tI aS))) r=>wc a.1 (List.set c (Int.toNat b) (0:Int)) e.1 e.2.1 e.2.2 (fun s t u=>r (s,t,u)) (fun h=>Í (fun(d:Val ba) v=>wa i q a.1 a.2 d.1 d.2.1 d.2.2.1 d.2.2.2 (fun w x y z=>v (w,x,y,z)) (fun A=>k A.2.1)) ((List.set c (Int.toNat b) (0:Int)),h.1,(List.replicate (Int.toNat a.1) (0:Int)),h.2))) ((0:Int),(List.replicate (Int.toNat a.1) false),[]))) ((0:Int),(0:Int))))))) ((0:Int),(List.replicate (Int.toNat a.1) (0:Int))))
def Bk (a:Val É) (b:Val am) (c:Int):Option ((Val ae)):=Kj a b c some
def Rk (a:Val É) (b:Int) (c:Int) (k:Val Â→Option ρ):Option ρ :=
  Å (Ia a ([b,c])) fun d=>ifb (ine d 0) (k ((0:Int),d)) (Å (Bk a ([]) b) fun f=>ï f c fun e=>ifb (ieq e 1152921504606846976) (k ((0:Int),(5:Int))) (k (e,(0:Int))))
def qJ (a:Val É) (b:Int) (c:Int):Option (Val Â):=Rk a b c some
def sV (a:Val az) (b:Int) (c:Int) (k:Int→Option ρ):Option ρ :=
  Å (qJ a.2 c b) fun d=>k d.1
def ĉ (a:Val az) (b:Int) (c:Int):Option (Int):=sV a b c some
def sU (a:Val az) (b:Val Â) (k:Int→Option ρ):Option ρ :=
  Å (ζ a b) fun c=>Å (ĉ a (0:Int) c) fun d=>ck (0-d) fun e=>k e
def ε (a:Val az) (b:Val Â):Option (Int):=sU a b some
def mX (a:Val az) (b:Val Â) (k:Int→Option ρ):Option ρ :=
  Å (ζ a b) fun c=>Å (ĉ a c (0:Int)) fun d=>k d
def iu (a:Val az) (b:Val Â):Option (Int):=mX a b some
def mW (a:Val az) (b:Val Â) (k:Val Â→Option ρ):Option ρ :=
  Å (ε a b) fun c=>Å (iu a b) fun d=>k (c,d)
def ŧ (a:Val az) (b:Val Â):Option (Val Â):=mW a b some
def wA (f:Int) (a:Int) (c:Val ab) (g:Int→Val ab→Option ρ) (h:Val ab→Option ρ):Option ρ :=
  ifb (ilt a f) (è ((ile 0 a)&&(ilt a (ā c))) (Ĩ c (Int.toNat a) fun d=>è (ã (List.length d.2.2.1)) (è (ã (List.length d.2.2.2.1)) (è ((ile 0 a)&&(ilt a (ā c))) (Ĩ c (Int.toNat a) fun b=>è ((ile 0 a)&&(ilt a (ā (List.set c (Int.toNat a) (b.1,b.2.1,d.2.2.1,b.2.2.2))))) (Ĩ (List.set c (Int.toNat a) (b.1,b.2.1,d.2.2.1,b.2.2.2)) (Int.toNat a) fun e=>ck (a+(1:Int)) fun i=>g i (List.set (List.set c (Int.toNat a) (b.1,b.2.1,d.2.2.1,b.2.2.2)) (Int.toNat a) (e.1,e.2.1,e.2.2.1,d.2.2.2.1,e.2.2.2.2)))))))) (h c)
def aaR (a:Val Ã) (b:Val Â) (k:Val aJ→Option ρ):Option ρ :=
  Å (û a) fun c=>ifb (ine c 0) (k ((((0:Int),(0:Int)),[],[],[],[],[]),c)) (è (ã (List.length a.2.1)) (è (ã (List.length a.2.2.1)) (è (ã (List.length a.2.2.2.1)) (è (ã (List.length a.2.2.2.2.2)) (è (ã (List.length a.2.2.2.2.1)) (Í (fun(d:(Val (.pair tI ab))) g=>wA (Ö a.2.2.2.2.1) d.1 d.2 (fun h i=>g (h,i)) (fun e=>è (ã ((List.length a.2.2.2.2.2)+(List.length ([b])))) (Å (û (a.1,a.2.1,a.2.2.1,a.2.2.2.1,e,(a.2.2.2.2.2++([b])))) fun f=>ifb (ine f 0) (k ((((0:Int),(0:Int)),[],[],[],[],[]),f)) (k ((a.1,a.2.1,a.2.2.1,a.2.2.2.1,e,(a.2.2.2.2.2++([b]))),(0:Int)))))) ((0:Int),a.2.2.2.2.1)))))))
def kJ (a:Val Ã) (b:Val Â):Option ((Val aJ)):=aaR a b some
def zS (b:Val aZ) (a:Val ae) (c:Int) (k:Int→Option ρ):Option ρ :=
  ifb (ieq (Ö a) 0) (k (0:Int)) (ï a (0:Int) fun d=>Å (ù b.2.1 (d,c)) fun e=>ck (e+(1:Int)) fun f=>k f)
def iE (a:Val aZ) (b:Val ae) (c:Int):Option (Int):=zS a b c some
def wq (f:Int) (g:Int) (h:Val af) (i:Int) (j:Int) (b:Int) (a:Int) (d:Int→Int→Option ρ) (k:Int→Option ρ):Option ρ :=
  ifb (ilt a i) (ï h a fun c=>ck (g-(1:Int)) fun l=>ck ((Xh c.2.1.2 l)-(TC c.2.1.1 f)) fun m=>ck (m+1) fun e=>ifb (ieq c.1 j) (ifb (igt e 0) (ck (e*c.2.2) fun n=>ck (b+n) fun o=>ck (a+(1:Int)) fun p=>d o p) (ck (a+(1:Int)) fun q=>d b q)) (ck (a+(1:Int)) fun r=>d b r)) (k b)
def wp (e:Int) (f:Int) (g:Val aa) (h:Int) (i:Int) (a:Int) (b:Val ae) (d:Int→Val ae→Option ρ) (j:Val ae→Option ρ):Option ρ :=
  ifb (ilt a h) (ï g a fun c=>ifb (ieq c.1 i) (ck (f-(1:Int)) fun k=>Å (Ě c.2 e k) fun l=>ifb l (è (ã ((List.length b)+(List.length ([c.2])))) (ck (a+(1:Int)) fun m=>d m (b++([c.2])))) (ck (a+(1:Int)) fun n=>d n b)) (ck (a+(1:Int)) fun o=>d o b)) (j b)
def aaB (a:Val Ã) (b:Val Ï) (d:Int) (e:Int) (k:Int→Option ρ):Option ρ :=
  Í (fun(f:Val Â) h=>wq d e a.2.2.2.1 (Ö a.2.2.2.1) b.1 f.1 f.2 (fun i j=>h (i,j)) (fun l=>Í (fun(g:Val aw) m=>wp d e a.2.2.1 (Ö a.2.2.1) b.1 g.1 g.2 (fun n o=>m (n,o)) (fun c=>è (ã (List.length c)) (è (ã (List.length (EO c))) (ck ((Ö (Br (EO c)))*b.2.2.2.2.2) fun p=>ck (l+p) fun q=>k q)))) ((0:Int),[]))) ((0:Int),(0:Int))
def Bl (a:Val Ã) (b:Val Ï) (c:Int) (d:Int):Option (Int):=aaB a b c d some
def oB (b:Val au) (a:Val ae) (k:Val Â→Option ρ):Option ρ :=
  ifb (ieq (Ö a) 0) (k ((0:Int),(1:Int))) (ï a (0:Int) fun c=>abR (k:=tI) (v:=Ï) c b (fun d=>k d.2.2.2.2.1) (k ((0:Int),(0:Int))))
def i7 (a:Val au) (b:Val ae):Option (Val Â):=oB a b some
def sf (b:Val aa) (c:Int) (a:Int) (d:Int→Option ρ) (e:Int→Option ρ) (f:Unit→Option ρ):Option ρ :=
  ifb (ilt a c) (ï b a fun g=>Å (uV g) fun h=>ifb (!h) (e (1:Int)) (ck (a+(1:Int)) fun i=>d i)) (f ())
def Rm (a:Val aa) (k:Int→Option ρ):Option ρ :=
  Í (fun(b:Int) c=>sf a (Ö a) b (fun d=>c d) (fun e=>k e) (fun _=>k (0:Int))) (0:Int)
def kr (a:Val aa):Option (Int):=Rm a some
def El (d:Int) (e:Int) (k:Val ķ→Option ρ):Option ρ :=
  Å (sw d) fun b=>Å (sw e) fun c=>Å (SE b c) fun a=>ifb (õ a 0) (none) (ifb (õ a 0) (none) (ifb (igt (IntKind.wrap .u64 (Int.tdiv b a)) 2147483647) (k (((0:Int),(0:Int)),(3:Int))) (ifb (igt (IntKind.wrap .u64 (Int.tdiv c a)) 2147483647) (k (((0:Int),(0:Int)),(3:Int))) (ifb (!((ilt d 0)==(ilt e 0))) (ck (0-(IntKind.wrap .i64 (IntKind.wrap .u64 (Int.tdiv b a)))) fun f=>k ((f,(IntKind.wrap .i64 (IntKind.wrap .u64 (Int.tdiv c a)))),(0:Int))) (k (((IntKind.wrap .i64 (IntKind.wrap .u64 (Int.tdiv b a))),(IntKind.wrap .i64 (IntKind.wrap .u64 (Int.tdiv c a)))),(0:Int)))))))
def qK (a:Int) (b:Int):Option (Val ķ):=El a b some
def ahj (a:Val Â) (b:Val Â) (k:Val ķ→Option ρ):Option ρ :=
  Å (kr ([a,b])) fun c=>ifb (ine c 0) (k (((0:Int),(0:Int)),c)) (ck (a.1*b.2) fun e=>ck (b.1*a.2) fun f=>ck (e-f) fun g=>ck (a.2*b.2) fun h=>Å (qK g h) fun d=>k (d.1,d.2))
def abf (a:Val Â) (b:Val Â):Option (Val ķ):=ahj a b some
def wi (a:Val Â) (b:Val Â) (k:Val Â→Option ρ):Option ρ :=
  Å (abf a b) fun c=>k c.1
def wU (a:Val Â) (b:Val Â):Option (Val Â):=wi a b some
def ahg (a:Val Â) (b:Val Â) (k:Int→Option ρ):Option ρ :=
  ck (a.1*b.2) fun c=>ck (b.1*a.2) fun d=>ifb ((õ a.1 b.1)&&((õ a.2 b.2)&&true)) (k (0:Int)) (ifb (ilt c d) (k (-1:Int)) (ifb (igt c d) (k (1:Int)) (k (0:Int))))
def SF (a:Val Â) (b:Val Â):Option (Int):=ahg a b some
def tf (a:Val å) (k:Bool→Option ρ):Option ρ :=
  Å (kr ([a.1,a.2])) fun b=>ifb (ieq b 0) (Å (SF a.1 a.2) fun c=>k (ile c 0)) (k false)
def tv (a:Val å):Option (Bool):=tf a some
def ahm (a:Val Â) (b:Val Â) (k:Val ķ→Option ρ):Option ρ :=
  Å (kr ([a,b])) fun c=>ifb (ine c 0) (k (((0:Int),(0:Int)),c)) (ck (a.1*b.1) fun e=>ck (a.2*b.2) fun f=>Å (qK e f) fun d=>k (d.1,d.2))
def SH (a:Val Â) (b:Val Â):Option (Val ķ):=ahm a b some
def Rt (c:Val å) (d:Val Â) (k:Val tG→Option ρ):Option ρ :=
  Å (tv c) fun e=>ifb (!e) (k ((((0:Int),(0:Int)),(0:Int),(0:Int)),(1:Int))) (Å (uV d) fun f=>ifb (!f) (k ((((0:Int),(0:Int)),(0:Int),(0:Int)),(1:Int))) (Å (SH d c.1) fun a=>ifb (ine a.2 0) (k ((((0:Int),(0:Int)),(0:Int),(0:Int)),a.2)) (Å (SH d c.2) fun b=>ifb (ine b.2 0) (k ((((0:Int),(0:Int)),(0:Int),(0:Int)),b.2)) (Å (SF a.1 b.1) fun g=>ifb (igt g 0) (k ((b.1,a.1),(0:Int))) (k ((a.1,b.1),(0:Int)))))))
def SG (a:Val å) (b:Val Â):Option (Val tG):=Rt a b some
def wh (b:Val Â) (a:Val Â) (k:Val å→Option ρ):Option ρ :=
  Å (SG ((a.1,(1:Int)),a.2,(1:Int)) b) fun c=>k c.1
def pk (a:Val Â) (b:Val Â):Option (Val å):=wh a b some
def Ky (c:Val Ã) (a:Val È) (k:Val å→Option ρ):Option ρ :=
  Å (η c) fun b=>Å (Š a.2.2.1 a.2.2.2.1) fun d=>Å (i7 b d) fun e=>Å (Š a.2.2.2.1 a.2.2.1) fun f=>Å (i7 b f) fun g=>Å (wU e g) fun h=>Å (pk h a.2.2.2.2.2.2) fun i=>k i
def pI (a:Val Ã) (b:Val È):Option (Val å):=Ky a b some
def RO (a:Val Ã) (b:Val È) (k:Val Â→Option ρ):Option ρ :=
  ck ((Ö b.2.2.1)-(1:Int)) fun c=>ck ((Ö b.2.2.2.1)-(1:Int)) fun d=>ck ((TC (0:Int) c)*a.1.1) fun e=>ck ((TC (0:Int) d)*a.1.2) fun f=>ck (e-f) fun g=>ck ((TC (0:Int) c)*a.1.2) fun h=>ck ((TC (0:Int) d)*a.1.1) fun i=>ck (h-i) fun j=>k (g,j)
def uX (a:Val Ã) (b:Val È):Option (Val Â):=RO a b some
def GZ (b:Int) (a:Int) (k:Int→Option ρ):Option ρ :=
  ifb (õ a 0) (none) (ck (Int.tdiv b a) fun c=>ifb (õ a 0) (none) (ifb (ilt (Int.tmod b a) 0) (ck (c-1) fun d=>k d) (k c)))
def uU (a:Int) (b:Int):Option (Int):=GZ a b some
def Rv (a:Val Â) (k:Val Â→Option ρ):Option ρ :=
  Å (kr ([a])) fun b=>ifb (ine b 0) (k ((0:Int),b)) (Å (uU a.1 a.2) fun c=>k (c,(0:Int)))
def Ap (a:Val Â):Option (Val Â):=Rv a some
def aar (a:Val Â) (k:Val Â→Option ρ):Option ρ :=
  Å (kr ([a])) fun b=>ifb (ine b 0) (k ((0:Int),b)) (ck (0-a.1) fun c=>Å (uU c a.2) fun d=>ck (0-d) fun e=>k (e,(0:Int)))
def Ib (a:Val Â):Option (Val Â):=aar a some
def aax (b:Val Ã) (a:Val È) (k:Val Â→Option ρ):Option ρ :=
  Å (pI b a) fun c=>Å (uX b a) fun d=>Å (Ap c.2) fun e=>Å (Ib c.1) fun f=>ck (a.2.2.2.2.1-a.2.2.2.2.2.1) fun g=>ck (g-d.2) fun h=>ck (h-e.1) fun i=>ck (a.2.2.2.2.1+a.2.2.2.2.2.1) fun j=>ck (j-d.1) fun l=>ck (l-f.1) fun m=>k (i,m)
def wT (a:Val Ã) (b:Val È):Option (Val Â):=aax a b some
def wn (b:Int) (e:Val ae) (h:Int) (j:Int) (k:Int) (l:Val ac) (m:Val aa) (n:Val af) (o:Val ab) (p:Val aa) (q:Int) (r:Int) (s:Int) (t:Int) (u:Int) (v:Int) (w:Int) (x:Int) (a:Int) (f:Val ah) (g:Val aa) (y:Int→Val ah→Val aa→Option ρ) (z:Val w9→Option ρ):Option ρ :=
  ifb (ilt a (Ö e)) (ck (h+a) fun A=>ck (A-1) fun c=>ck (h+a) fun d=>ck (a-(1:Int)) fun B=>ï e B fun C=>ï e a fun D=>Å (Bl ((j,k),l,m,n,o,p) (q,r,s,(t,u),(v,w),x) C D) fun E=>ck (0-E) fun F=>ck (0-F) fun i=>è (ã ((List.length f)+(List.length ([(c,d,(0:Int)),(d,c,i)])))) (è (ã ((List.length g)+(List.length ([((2:Int),b),((2:Int),b)])))) (ck (a+(1:Int)) fun G=>y G (f++([(c,d,(0:Int)),(d,c,i)])) (g++([((2:Int),b),((2:Int),b)]))))) (z (f,g))
def wo (q:Val ac) (r:Int) (f:Int) (g:Int) (h:Val ac) (i:Val aa) (j:Val af) (k:Val ab) (l:Val aa) (s:Val aa) (t:Int) (b:Int) (d:Val ah) (e:Val aa) (u:Int→Val ah→Val aa→Option ρ) (v:Val w9→Option ρ):Option ρ :=
  ifb (ilt b r) (ï q b fun a=>Å (pl ((f,g),h,i,j,k,l) a) fun w=>Å (iE (((f,g),h,i,j,k,l),s,(t,d),e) ([a.1]) a.2.1) fun c=>ck (a.2.2.1+a.2.2.2.1.1) fun x=>ck (a.2.2.1+a.2.2.2.1.2) fun n=>ck (0-x) fun o=>è (ã ((List.length d)+(List.length ([((0:Int),c,n),(c,(0:Int),o)])))) (è (ã ((List.length e)+(List.length ([((1:Int),b),((1:Int),b)])))) (Í (fun(m:Val aT) y=>wn b w c f g h i j k l a.1 a.2.1 a.2.2.1 a.2.2.2.1.1 a.2.2.2.1.2 a.2.2.2.2.1.1 a.2.2.2.2.1.2 a.2.2.2.2.2 m.1 m.2.1 m.2.2 (fun z A B=>y (z,A,B)) (fun p=>ck (b+(1:Int)) fun C=>u C p.1 p.2)) ((1:Int),(d++([((0:Int),c,n),(c,(0:Int),o)])),(e++([((1:Int),b),((1:Int),b)])))))) (v (d,e))
def wm (r:Val ab) (s:Int) (g:Int) (h:Int) (i:Val ac) (j:Val aa) (k:Val af) (l:Val ab) (m:Val aa) (o:Val aa) (p:Int) (a:Int) (c:Val ah) (d:Val aa) (t:Int→Val ah→Val aa→Option ρ) (u:Val w9→Option ρ):Option ρ :=
  ifb (ilt a s) (ï r a fun b=>Å (Š b.2.2.2.1 b.2.2.1) fun v=>Å (iE (((g,h),i,j,k,l,m),o,(p,c),d) v b.2.1) fun e=>Å (Š b.2.2.1 b.2.2.2.1) fun w=>Å (iE (((g,h),i,j,k,l,m),o,(p,c),d) w b.2.1) fun f=>Å (wT ((g,h),i,j,k,l,m) b) fun n=>ck (0-n.1) fun q=>è (ã ((List.length c)+(List.length ([(e,f,n.2),(f,e,q)])))) (è (ã ((List.length d)+(List.length ([((3:Int),a),((3:Int),a)])))) (ck (a+(1:Int)) fun x=>t x (c++([(e,f,n.2),(f,e,q)])) (d++([((3:Int),a),((3:Int),a)]))))) (u (c,d))
def aaA (a:Val Ã) (k:Val aZ→Option ρ):Option ρ :=
  Å (qL a) fun b=>ck ((Ö b)+(1:Int)) fun c=>Í (fun(d:Val aT) h=>wo a.2.1 (Ö a.2.1) a.1.1 a.1.2 a.2.1 a.2.2.1 a.2.2.2.1 a.2.2.2.2.1 a.2.2.2.2.2 b c d.1 d.2.1 d.2.2 (fun i j l=>h (i,j,l)) (fun f=>Í (fun(e:Val aT) m=>wm a.2.2.2.2.1 (Ö a.2.2.2.2.1) a.1.1 a.1.2 a.2.1 a.2.2.1 a.2.2.2.1 a.2.2.2.2.1 a.2.2.2.2.2 b c e.1 e.2.1 e.2.2 (fun n o p=>m (n,o,p)) (fun g=>k (a,b,(c,g.1),g.2))) ((0:Int),f.1,f.2))) ((0:Int),[],[])
def Ie (a:Val Ã):Option ((Val aZ)):=aaA a some
def KD (a:Val Ã) (k:(Val (.pair É (.pair aa tI)))→Option ρ):Option ρ :=
  Å (û a) fun b=>ifb (ine b 0) (k (((0:Int),[]),[],b)) (Å (Ie a) fun c=>k (c.2.2.1,c.2.2.2,(0:Int)))
def ĩ (a:Val Ã):Option ((Val (.pair É (.pair aa tI)))):=KD a some
def ta (a:Val É) (k:Val aQ→Option ρ):Option ρ :=
  Å (oh a) fun b=>ifb (ine b.1 0) (k (false,b.1)) (Å (lr a ([])) fun c=>k (c.2,(0:Int)))
def Ġ (a:Val É):Option ((Val aQ)):=ta a some
def Đ (m:Int) (j:Val aa) (b:Int) (c:Int) (d:Int) (e:Val ac) (f:Val aa) (g:Val af) (h:Val ab) (i:Val aa) (k:Int→Int→Int→Val ac→Val aa→Val af→Val ab→Val aa→Option ρ) (n:Val aF→Option ρ) (o:Val ai→Option ρ):Option ρ :=
  ifb (ilt b m) (è ((ile 0 b)&&(ilt b (ā j))) (Ĩ j (Int.toNat b) fun l=>Å (Ŝ ((c,d),e,f,g,h,i) l) fun p=>ifb (ieq p.2 0) (ck (b+(1:Int)) fun q=>k q c d e f g h i) (Å (kJ ((c,d),e,f,g,h,i) l) fun a=>ifb (ine a.2 0) (n (a.2,c,d,e,f,g,h,i)) (ck (b+(1:Int)) fun r=>k r a.1.1.1 a.1.1.2 a.1.2.1 a.1.2.2.1 a.1.2.2.2.1 a.1.2.2.2.2.1 a.1.2.2.2.2.2)))) (o (c,d,e,f,g,h,i))
def zy (a:Val Ã) (e:Val Â) (k:Val ķ→Option ρ):Option ρ :=
  Å (û a) fun f=>ifb (ine f 0) (è (ine f 0) (k (((0:Int),(0:Int)),f))) (Í (fun(b:Val aF) h=>Đ (Ö ([e])) ([e]) b.1 b.2.1 b.2.2.1 b.2.2.2.1 b.2.2.2.2.1 b.2.2.2.2.2.1 b.2.2.2.2.2.2.1 b.2.2.2.2.2.2.2 (fun i j l m n o p q=>h (i,j,l,m,n,o,p,q)) (fun g=>è (ine g.1 0) (k (((0:Int),(0:Int)),g.1))) (fun c=>Å (ĩ ((c.1,c.2.1),c.2.2)) fun d=>ifb (ine d.2.2 0) (è (ine d.2.2 0) (k (((0:Int),(0:Int)),d.2.2))) (Å (Ġ d.1) fun r=>ifb (!r.1) (k (((0:Int),(0:Int)),(9:Int))) (Å (ŧ (((c.1,c.2.1),c.2.2),d.1) e) fun s=>k (s,(0:Int)))))) ((0:Int),a.1.1,a.1.2,a.2.1,a.2.2.1,a.2.2.2.1,a.2.2.2.2.1,a.2.2.2.2.2))
def og (a:Val Ã) (b:Val Â):Option (Val ķ):=zy a b some
def KG (a:Val ae) (b:Val ae) (k:(Val (.pair ae aL))→Option ρ):Option ρ :=
  Å (nf a) fun c=>ifb (!c) (k ([],[],(1:Int))) (Å (nf b) fun d=>ifb (!d) (k ([],[],(1:Int))) (Å (Š a b) fun e=>Å (Š b a) fun f=>k (e,f,(0:Int))))
def uY (a:Val ae) (b:Val ae):Option ((Val (.pair ae aL))):=KG a b some
def ZE (a:Val ae) (b:Int) (k:Bool→Option ρ):Option ρ :=
  Å (uY a ([])) fun c=>ifb (ieq c.2.2 0) (k (ile (Ö a) b)) (k false)
def Og (a:Val ae) (b:Int):Option (Bool):=ZE a b some
def QO (a:Int) (k:Bool→Option ρ):Option ρ :=
  ifb (ige a 0) (k (ile a 20000)) (k false)
def H7 (a:Int):Option (Bool):=QO a some
def rR (c:Int) (e:Val ae) (f:Int) (a:Int) (b:Val aa) (g:Int→Val aa→Option ρ) (h:Val aa→Option ρ):Option ρ :=
  ifb (ilt a f) (ï e a fun d=>è (ã ((List.length b)+(List.length ([(d,c)])))) (ck (a+(1:Int)) fun i=>g i (b++([(d,c)])))) (h b)
def QK (c:Int) (d:Val ak) (k:Val aa→Option ρ):Option ρ :=
  Å (í d) fun a=>Í (fun(b:Val aI) e=>rR c a (Ö a) b.1 b.2 (fun f g=>e (f,g)) (fun h=>k h)) ((0:Int),[])
def H6 (a:Int) (b:Val ak):Option ((Val aa)):=QK a b some
def vU (l:Val aa) (m:Int) (i:Int) (b:Int) (c:Int) (d:Val ac) (e:Val aa) (f:Val af) (g:Val ab) (h:Val aa) (j:Int→Int→Int→Val ac→Val aa→Val af→Val ab→Val aa→Option ρ) (n:Val aF→Option ρ) (o:Val ai→Option ρ):Option ρ :=
  ifb (ilt i m) (ï l i fun k=>Å (Ŝ ((b,c),d,e,f,g,h) k) fun p=>ifb (ieq p.2 0) (ck (i+(1:Int)) fun q=>j q b c d e f g h) (Å (kJ ((b,c),d,e,f,g,h) k) fun a=>ifb (ine a.2 0) (n (a.2,b,c,d,e,f,g,h)) (ck (i+(1:Int)) fun r=>j r a.1.1.1 a.1.1.2 a.1.2.1 a.1.2.2.1 a.1.2.2.2.1 a.1.2.2.2.2.1 a.1.2.2.2.2.2))) (o (b,c,d,e,f,g,h))
def vT (e:Val az) (f:Val aa) (g:Int) (a:Int) (b:Int) (c:Int) (h:Int→Int→Int→Option ρ) (i:Val Â→Option ρ):Option ρ :=
  ifb (ilt a g) (ï f a fun j=>Å (ŧ e j) fun d=>ck (b+d.1) fun k=>ck (c+d.2) fun l=>ck (a+(1:Int)) fun m=>h m k l) (i (b,c))
def ZW (a:Val Ã) (i:Int) (c:Val ae) (k:Val ķ→Option ρ):Option ρ :=
  Å (û a) fun j=>ifb (ine j 0) (k (((0:Int),(0:Int)),j)) (ifb (ieq (Ö c) 0) (k (((0:Int),(0:Int)),(1:Int))) (Å (Og c (6:Int)) fun q=>ifb (!q) (k (((0:Int),(0:Int)),(1:Int))) (Å (H7 i) fun r=>ifb (!r) (k (((0:Int),(0:Int)),(1:Int))) (Å (H6 i ([c])) fun f=>Å (û a) fun g=>ifb (ine g 0) (ifb (ine g 0) (k (((0:Int),(0:Int)),g)) (ck ((Ö c)-(1:Int)) fun l=>ck (l*a.1.1) fun J=>ck (l*a.1.2) fun K=>none)) (Í (fun(b:Val aF) s=>vU f (Ö f) b.1 b.2.1 b.2.2.1 b.2.2.2.1 b.2.2.2.2.1 b.2.2.2.2.2.1 b.2.2.2.2.2.2.1 b.2.2.2.2.2.2.2 (fun t u v w x y z A=>s (t,u,v,w,x,y,z,A)) (fun m=>ifb (ine m.1 0) (k (((0:Int),(0:Int)),m.1)) (ck ((Ö c)-(1:Int)) fun n=>ck (n*a.1.1) fun L=>ck (n*a.1.2) fun M=>none)) (fun d=>Å (ĩ ((d.1,d.2.1),d.2.2)) fun e=>ifb (ine e.2.2 0) (ifb (ine e.2.2 0) (k (((0:Int),(0:Int)),e.2.2)) (ck ((Ö c)-(1:Int)) fun o=>ck (o*a.1.1) fun N=>ck (o*a.1.2) fun O=>none)) (Å (Ġ e.1) fun B=>ifb (!B.1) (k (((0:Int),(0:Int)),(9:Int))) (ck ((Ö c)-(1:Int)) fun p=>ck (p*a.1.1) fun C=>ck (p*a.1.2) fun D=>Í (fun(h:Val Ĉ) E=>vT (((d.1,d.2.1),d.2.2),e.1) f (Ö f) h.1 h.2.1 h.2.2 (fun F G H=>E (F,G,H)) (fun I=>k (I,(0:Int)))) ((0:Int),C,D))))) ((0:Int),a.1.1,a.1.2,a.2.1,a.2.2.1,a.2.2.2.1,a.2.2.2.2.1,a.2.2.2.2.2))))))
def Oh (a:Val Ã) (b:Int) (c:Val ae):Option (Val ķ):=ZW a b c some
def s9 (m:Int) (j:Val aa) (b:Int) (c:Int) (d:Int) (e:Val ac) (f:Val aa) (g:Val af) (h:Val ab) (i:Val aa) (k:Int→Int→Int→Val ac→Val aa→Val af→Val ab→Val aa→Option ρ) (n:Val aF→Option ρ) (o:Val ai→Option ρ):Option ρ :=
  ifb (ilt b m) (è ((ile 0 b)&&(ilt b (ā j))) (Ĩ j (Int.toNat b) fun l=>Å (Ŝ ((c,d),e,f,g,h,i) l) fun p=>ifb (ieq p.2 0) (ck (b+(1:Int)) fun q=>k q c d e f g h i) (Å (kJ ((c,d),e,f,g,h,i) l) fun a=>ifb (ine a.2 0) (n (a.2,c,d,e,f,g,h,i)) (ck (b+(1:Int)) fun r=>k r a.1.1.1 a.1.1.2 a.1.2.1 a.1.2.2.1 a.1.2.2.2.1 a.1.2.2.2.2.1 a.1.2.2.2.2.2)))) (o (c,d,e,f,g,h,i))
def Eg (b:Val Ã) (e:Val Â) (f:Val Â) (k:Val ķ→Option ρ):Option ρ :=
  Å (û b) fun g=>ifb (ine g 0) (è (ine g 0) (k (((0:Int),(0:Int)),g))) (Í (fun(c:Val aF) l=>s9 (Ö ([e,f])) ([e,f]) c.1 c.2.1 c.2.2.1 c.2.2.2.1 c.2.2.2.2.1 c.2.2.2.2.2.1 c.2.2.2.2.2.2.1 c.2.2.2.2.2.2.2 (fun m n o p q r s t=>l (m,n,o,p,q,r,s,t)) (fun h=>è (ine h.1 0) (k (((0:Int),(0:Int)),h.1))) (fun a=>Å (ĩ ((a.1,a.2.1),a.2.2)) fun d=>ifb (ine d.2.2 0) (è (ine d.2.2 0) (k (((0:Int),(0:Int)),d.2.2))) (Å (Ġ d.1) fun u=>ifb (!u.1) (k (((0:Int),(0:Int)),(9:Int))) (Å (ζ (((a.1,a.2.1),a.2.2),d.1) e) fun i=>Å (ζ (((a.1,a.2.1),a.2.2),d.1) f) fun j=>Å (ĉ (((a.1,a.2.1),a.2.2),d.1) j i) fun v=>ck (0-v) fun w=>Å (ĉ (((a.1,a.2.1),a.2.2),d.1) i j) fun x=>k ((w,x),(0:Int)))))) ((0:Int),b.1.1,b.1.2,b.2.1,b.2.2.1,b.2.2.2.1,b.2.2.2.2.1,b.2.2.2.2.2))
def wS (a:Val Ã) (b:Val Â) (c:Val Â):Option (Val ķ):=Eg a b c some
def AX (c:Int) (a:Int) (b:Val ae) (d:Int→Val ae→Option ρ) (e:Val ae→Option ρ):Option ρ :=
  ifb (ilt a c) (è ((ile 0 a)&&(ilt a (ā b))) (Ĩ b (Int.toNat a) fun g=>ck (a+(1:Int)) fun f=>d f (List.set b (Int.toNat a) (1152921504606846976:Int)))) (e b)
def Z4 (c:Int) (a:Int) (b:Val ae) (d:Int→Val ae→Option ρ) (e:Val ae→Option ρ):Option ρ :=
  ifb (ilt a c) (è ((ile 0 a)&&(ilt a (ā b))) (Ĩ b (Int.toNat a) fun g=>ck (a+(1:Int)) fun f=>d f (List.set b (Int.toNat a) (1152921504606846976:Int)))) (e b)
def GO (d:Val ae) (f:Val ah) (g:Int) (c:Int) (b:Val ae) (e:Int→Val ae→Option ρ) (h:Val ae→Option ρ):Option ρ :=
  ifb (ilt c g) (ï f c fun a=>ï d a.2.1 fun i=>ifb (ine i 1152921504606846976) (è ((ile 0 a.1)&&(ilt a.1 (ā b))) (Ĩ b (Int.toNat a.1) fun j=>ï d a.2.1 fun k=>ck (a.2.2+k) fun l=>è ((ile 0 a.1)&&(ilt a.1 (ā b))) (Ĩ b (Int.toNat a.1) fun o=>ck (c+(1:Int)) fun m=>e m (List.set b (Int.toNat a.1) (Xh j l))))) (ck (c+(1:Int)) fun n=>e n b)) (h b)
def N5 (i:Int) (b:Int) (d:Val ah) (e:Int) (a:Val ak) (j:Int→Val ak→Option ρ) (k:Val ak→Option ρ):Option ρ :=
  ifb (ilt e i) (ck ((Ö a)-(1:Int)) fun c=>è ((ile 0 c)&&(ilt c (ā a))) (Ĩ a (Int.toNat c) fun l=>è ((ile 0 b)&&(ã (Int.toNat b))) (Í (fun(f:Val aw) m=>Z4 (Ö (List.replicate (Int.toNat b) (0:Int))) f.1 f.2 (fun n o=>m (n,o)) (fun p=>Í (fun(g:Val aw) q=>GO l d (Ö d) g.1 g.2 (fun r s=>q (r,s)) (fun h=>è (ã ((List.length a)+(List.length ([h])))) (ck (e+(1:Int)) fun t=>j t (a++([h]))))) ((0:Int),p))) ((0:Int),(List.replicate (Int.toNat b) (0:Int)))))) (k a)
def Q4 (a:Val É) (b:Int) (f:Int) (k:Val ak→Option ρ):Option ρ :=
  è ((ile 0 a.1)&&(ã (Int.toNat a.1))) (Í (fun(d:Val aw) g=>AX (Ö (List.replicate (Int.toNat a.1) (0:Int))) d.1 d.2 (fun h i=>g (h,i)) (fun c=>è ((ile 0 b)&&(ilt b (ā c))) (Ĩ c (Int.toNat b) fun o=>Í (fun(e:Val aM) j=>N5 f a.1 a.2 e.1 e.2 (fun l m=>j (l,m)) (fun n=>k n)) ((0:Int),[(List.set c (Int.toNat b) (0:Int))])))) ((0:Int),(List.replicate (Int.toNat a.1) (0:Int))))
def Al (a:Val É) (b:Int) (c:Int):Option ((Val ak)):=Q4 a b c some
def nQ (d:Int) (c:Int) (e:Val ah) (a:Int) (b:Val aC) (f:Int→Val aC→Option ρ) (g:Val aC→Option ρ):Option ρ :=
  ifb (ilt a d) (Å (Al (c,e) a c) fun h=>è ((ile 0 a)&&(ilt a (ā b))) (Ĩ b (Int.toNat a) fun j=>ck (a+(1:Int)) fun i=>f i (List.set b (Int.toNat a) h))) (g b)
def LR (g:Int) (h:Val ak) (j:Val ah) (k:Int) (e:Int) (b:Int) (a:Int) (c:Val ae) (f:Int→Int→Int→Val ae→Option ρ) (i:(Val (.pair tI aw))→Option ρ):Option ρ :=
  ifb (ilt a k) (ï j a fun d=>ifb (ieq d.1 e) (ck (g-(1:Int)) fun l=>ï h l fun m=>ï m d.2.1 fun n=>ifb (ine n 1152921504606846976) (ck (b+d.2.2) fun o=>ck (g-(1:Int)) fun p=>ï h p fun q=>ï q d.2.1 fun r=>ck (o+r) fun s=>ifb (ilt s 0) (è (ã ((List.length c)+(List.length ([a])))) (ck (b+d.2.2) fun t=>i (d.2.1,t,(c++([a]))))) (ck (a+(1:Int)) fun u=>f e b u c)) (ck (a+(1:Int)) fun v=>f e b v c)) (ck (a+(1:Int)) fun w=>f e b w c)) (i (e,b,c))
def zP (f:Val ak) (d:Val ah) (g:Int) (b:Int) (h:Int) (e:Val ae) (i:Int→Int→Int→Val ae→Option ρ) (j:Val ae→Option ρ):Option ρ :=
  ifb (igt b 0) (Í (fun(a:Val aK) k=>LR b f d (Ö d) a.1 a.2.1 a.2.2.1 a.2.2.2 (fun l m n o=>k (l,m,n,o)) (fun c=>ck (b-(1:Int)) fun p=>i c.1 p c.2.1 c.2.2)) (g,h,(0:Int),e)) (j e)
def nP (e:Int) (h:Val ah) (i:Int) (j:Int) (k:Val ah) (b:Val aC) (c:Int) (f:Int→Option ρ) (l:Unit→Option ρ) (m:Val aw→Option ρ) (n:Unit→Option ρ):Option ρ :=
  ifb (ilt c i) (ï h c fun a=>è ((ile 0 a.1)&&(ilt a.1 (ā b))) (Ĩ b (Int.toNat a.1) fun o=>ck (e-(1:Int)) fun p=>ï o p fun q=>ï q a.2.1 fun g=>ifb (ieq g 1152921504606846976) (ck (c+(1:Int)) fun r=>f r) (ck (a.2.2+g) fun s=>ifb (ige s 0) (ck (c+(1:Int)) fun t=>f t) (ifb (igt e j) (l ()) (è ((ile 0 a.1)&&(ilt a.1 (ā b))) (Ĩ b (Int.toNat a.1) fun u=>Í (fun(d:Val aK) v=>zP u k d.1 d.2.1 d.2.2.1 d.2.2.2 (fun w x y z=>v (w,x,y,z)) (fun A=>m ((0:Int),A))) (a.1,e,(0:Int),[]))))))) (n ())
def sa (d:Int) (a:Val ah) (e:Val aC) (b:Int) (f:Int→Option ρ) (g:Unit→Option ρ) (h:Val aw→Option ρ):Option ρ :=
  Í (fun(i:Int) j=>nP b a (Ö a) d a e i (fun k=>j k) (fun _=>g ()) (fun c=>h (c.1,c.2)) (fun _=>ck (b+(1:Int)) fun l=>f l)) (0:Int)
def GS (a:Val É) (k:Val aL→Option ρ):Option ρ :=
  Å (oh a) fun b=>ifb (ine b.1 0) (k ([],b.1)) (Å (lr a ([])) fun e=>ifb e.2 (k ([],(5:Int))) (è ((ile 0 a.1)&&(ã (Int.toNat a.1))) (Í (fun(c:(Val (.pair tI aC))) f=>nQ (Ö (List.replicate (Int.toNat a.1) ([]:Val ak))) a.1 a.2 c.1 c.2 (fun g h=>f (g,h)) (fun i=>Í (fun(j:Int) l=>sa a.1 a.2 i j (fun m=>l m) (fun _=>k ([],(5:Int))) (fun d=>k (d.2,d.1))) (1:Int))) ((0:Int),(List.replicate (Int.toNat a.1) ([]:Val ak))))))
def mh (a:Val É):Option ((Val aL)):=GS a some
def nr (d:Val aa) (e:Val ae) (f:Int) (a:Int) (b:Val aa) (g:Int→Val aa→Option ρ) (h:Val aa→Option ρ):Option ρ :=
  ifb (ilt a f) (ï e a fun i=>ï d i fun c=>è (ã ((List.length b)+(List.length ([c])))) (ck (a+(1:Int)) fun j=>g j (b++([c])))) (h b)
def D7 (c:Val Ã) (a:Val ae) (k:Val aa→Option ρ):Option ρ :=
  Å (ĩ c) fun d=>Í (fun(b:Val aI) e=>nr d.2.1 a (Ö a) b.1 b.2 (fun f g=>e (f,g)) (fun h=>k h)) ((0:Int),[])
def qG (a:Val Ã) (b:Val ae):Option ((Val aa)):=D7 a b some
def zz (a:Val Ã) (k:(Val (.pair ü tI))→Option ρ):Option ρ :=
  Å (ĩ a) fun b=>ifb (ine b.2.2 0) (k (((((0:Int),(0:Int)),[],[],[],[],[]),((0:Int),(0:Int)),false,(0:Int),[]),b.2.2)) (Å (mh b.1) fun c=>ifb (ine c.2 0) (k (((((0:Int),(0:Int)),[],[],[],[],[]),((0:Int),(0:Int)),false,(0:Int),[]),c.2)) (Å (qG a c.1) fun f=>Å (SD a f ([])) fun e=>Å (ĩ e) fun g=>Å (mh g.1) fun d=>ifb (ine d.2 0) (k (((((0:Int),(0:Int)),[],[],[],[],[]),((0:Int),(0:Int)),false,(0:Int),[]),d.2)) (k ((e,((0:Int),(0:Int)),false,(0:Int),d.1),(0:Int)))))
def me (a:Val Ã):Option ((Val (.pair ü tI))):=zz a some
def yq (k:Val Ã→Option ρ):Option ρ :=
  k (((0:Int),(2:Int)),[((1:Int),(0:Int),(1000:Int),((-5:Int),(5:Int)),((1:Int),(10:Int)),(1:Int)),((2:Int),(0:Int),(1000:Int),((-50:Int),(50:Int)),((1:Int),(4:Int)),(0:Int))],[((1:Int),(10:Int))],[((1:Int),((20:Int),(29:Int)),(3:Int))],[((7:Int),(10:Int),[(1:Int)],[(2:Int)],(-20:Int),(1:Int),(100:Int),(200:Int))],[])
def Ag:Option (Val Ã):=yq some
def D6 (a:Val Â) (b:Val Â) (k:Int→Option ρ):Option ρ :=
  ifb (ile b.1 a.1) (ifb (ile a.2 b.2) (k (1:Int)) (ifb (ilt a.2 b.1) (k (2:Int)) (ifb (ilt b.2 a.1) (k (2:Int)) (k (3:Int))))) (ifb (ilt a.2 b.1) (k (2:Int)) (ifb (ilt b.2 a.1) (k (2:Int)) (k (3:Int))))
def qF (a:Val Â) (b:Val Â):Option (Int):=D6 a b some
def zx (m:Int) (j:Val aa) (b:Int) (c:Int) (d:Int) (e:Val ac) (f:Val aa) (g:Val af) (h:Val ab) (i:Val aa) (k:Int→Int→Int→Val ac→Val aa→Val af→Val ab→Val aa→Option ρ) (n:Val aF→Option ρ) (o:Val ai→Option ρ):Option ρ :=
  ifb (ilt b m) (è ((ile 0 b)&&(ilt b (ā j))) (Ĩ j (Int.toNat b) fun l=>Å (Ŝ ((c,d),e,f,g,h,i) l) fun p=>ifb (ieq p.2 0) (ck (b+(1:Int)) fun q=>k q c d e f g h i) (Å (kJ ((c,d),e,f,g,h,i) l) fun a=>ifb (ine a.2 0) (n (a.2,c,d,e,f,g,h,i)) (ck (b+(1:Int)) fun r=>k r a.1.1.1 a.1.1.2 a.1.2.1 a.1.2.2.1 a.1.2.2.2.1 a.1.2.2.2.2.1 a.1.2.2.2.2.2)))) (o (c,d,e,f,g,h,i))
def QV (b:Val Ã) (f:Val Â) (a:Val Â) (k:Val Â→Option ρ):Option ρ :=
  Å (û b) fun g=>ifb (ine g 0) (ifb (ine g 0) (k ((0:Int),g)) (è (igt a.1 a.2) (k ((0:Int),(1:Int))))) (Í (fun(c:Val aF) i=>zx (Ö ([f])) ([f]) c.1 c.2.1 c.2.2.1 c.2.2.2.1 c.2.2.2.2.1 c.2.2.2.2.2.1 c.2.2.2.2.2.2.1 c.2.2.2.2.2.2.2 (fun j l m n o p q r=>i (j,l,m,n,o,p,q,r)) (fun h=>ifb (ine h.1 0) (k ((0:Int),h.1)) (è (igt a.1 a.2) (k ((0:Int),(1:Int))))) (fun d=>Å (ĩ ((d.1,d.2.1),d.2.2)) fun e=>ifb (ine e.2.2 0) (ifb (ine e.2.2 0) (k ((0:Int),e.2.2)) (è (igt a.1 a.2) (k ((0:Int),(1:Int))))) (Å (Ġ e.1) fun s=>ifb (!s.1) (k ((0:Int),(9:Int))) (ifb (igt a.1 a.2) (k ((0:Int),(1:Int))) (Å (ŧ (((d.1,d.2.1),d.2.2),e.1) f) fun t=>Å (qF t a) fun u=>k (u,(0:Int))))))) ((0:Int),b.1.1,b.1.2,b.2.1,b.2.2.1,b.2.2.2.1,b.2.2.2.2.1,b.2.2.2.2.2))
def H8 (a:Val Ã) (b:Val Â) (c:Val Â):Option (Val Â):=QV a b c some
def se (b:Val ak) (c:Int) (d:Int) (e:Int) (a:Int) (f:Int→Option ρ) (g:Int→Option ρ) (h:Unit→Option ρ):Option ρ :=
  ifb (ilt a c) (ï b a fun i=>ï i d fun j=>ifb (ieq j e) (g a) (ck (a+(1:Int)) fun k=>f k)) (h ())
def LS (g:Int) (h:Val ak) (j:Val ah) (k:Int) (l:Int) (e:Int) (b:Int) (a:Int) (c:Val ae) (f:Int→Int→Int→Val ae→Option ρ) (i:(Val (.pair tI aw))→Option ρ):Option ρ :=
  ifb (ilt a k) (ï j a fun d=>ifb (ieq d.1 e) (ck (g-(1:Int)) fun m=>ï h m fun n=>ï n d.2.1 fun o=>ifb (ine o 1152921504606846976) (ck (b+d.2.2) fun p=>ck (g-(1:Int)) fun q=>ï h q fun r=>ï r d.2.1 fun s=>ck (p+s) fun t=>ifb (ieq t l) (è (ã ((List.length c)+(List.length ([a])))) (ck (b+d.2.2) fun u=>i (d.2.1,u,(c++([a]))))) (ck (a+(1:Int)) fun v=>f e b v c)) (ck (a+(1:Int)) fun w=>f e b w c)) (ck (a+(1:Int)) fun x=>f e b x c)) (i (e,b,c))
def sd (f:Val ak) (g:Int) (d:Val ah) (h:Int) (b:Int) (i:Int) (e:Val ae) (j:Int→Int→Int→Val ae→Option ρ) (k:Val ae→Option ρ):Option ρ :=
  ifb (igt b 0) (Í (fun(a:Val aK) l=>LS b f d (Ö d) g a.1 a.2.1 a.2.2.1 a.2.2.2 (fun m n o p=>l (m,n,o,p)) (fun c=>ck (b-(1:Int)) fun q=>j c.1 q c.2.1 c.2.2)) (h,i,(0:Int),e)) (k e)
def Ri (a:Val É) (c:Int) (g:Int) (k:Val aL→Option ρ):Option ρ :=
  Å (qJ a c g) fun b=>ifb (ine b.2 0) (k ([],b.2)) (Å (Al a g a.1) fun d=>Í (fun(h:Int) i=>se d (Ö d) c b.1 h (fun j=>i j) (fun l=>Í (fun(e:Val aK) m=>sd d b.1 a.2 e.1 e.2.1 e.2.2.1 e.2.2.2 (fun n o p q=>m (n,o,p,q)) (fun r=>k (r,(0:Int)))) (c,l,(0:Int),[])) (fun _=>Í (fun(f:Val aK) s=>sd d b.1 a.2 f.1 f.2.1 f.2.2.1 f.2.2.2 (fun t u v w=>s (t,u,v,w)) (fun x=>k (x,(0:Int)))) (c,(-1:Int),(0:Int),[]))) (0:Int))
def Ao (a:Val É) (b:Int) (c:Int):Option ((Val aL)):=Ri a b c some
def vW (a:Val az) (c:Val aY) (d:(Val (.ptr .bool))) (k:Val ae→Option ρ):Option ρ :=
  Å (ζ a c) fun b=>ifb d (Å (Ao a.2 (0:Int) b) fun e=>k e.1) (Å (Ao a.2 b (0:Int)) fun f=>k f.1)
def mg (a:Val az) (b:Val aY) (c:(Val (.ptr .bool))):Option ((Val ae)):=vW a b c some
def s8 (m:Int) (j:Val aa) (b:Int) (c:Int) (d:Int) (e:Val ac) (f:Val aa) (g:Val af) (h:Val ab) (i:Val aa) (k:Int→Int→Int→Val ac→Val aa→Val af→Val ab→Val aa→Option ρ) (n:Val aF→Option ρ) (o:Val ai→Option ρ):Option ρ :=
  ifb (ilt b m) (è ((ile 0 b)&&(ilt b (ā j))) (Ĩ j (Int.toNat b) fun l=>Å (Ŝ ((c,d),e,f,g,h,i) l) fun p=>ifb (ieq p.2 0) (ck (b+(1:Int)) fun q=>k q c d e f g h i) (Å (kJ ((c,d),e,f,g,h,i) l) fun a=>ifb (ine a.2 0) (n (a.2,c,d,e,f,g,h,i)) (ck (b+(1:Int)) fun r=>k r a.1.1.1 a.1.1.2 a.1.2.1 a.1.2.2.1 a.1.2.2.2.1 a.1.2.2.2.2.1 a.1.2.2.2.2.2)))) (o (c,d,e,f,g,h,i))
def s7 (a:Int) (b:Int) (d:Int→Option ρ) (c:Unit→Option ρ):Option ρ :=
  ifb (ilt b a) (none) (c ())
def Ef (d:Val Ã) (b:Val Â) (f:Bool) (k:(Val (.pair ü tI))→Option ρ):Option ρ :=
  Å (û d) fun i=>ifb (ine i 0) (è (ine i 0) (k (((((0:Int),(0:Int)),[],[],[],[],[]),((0:Int),(0:Int)),false,(0:Int),[]),i))) (Í (fun(e:Val aF) n=>s8 (Ö ([b])) ([b]) e.1 e.2.1 e.2.2.1 e.2.2.2.1 e.2.2.2.2.1 e.2.2.2.2.2.1 e.2.2.2.2.2.2.1 e.2.2.2.2.2.2.2 (fun o p q r s t u v=>n (o,p,q,r,s,t,u,v)) (fun l=>è (ine l.1 0) (k (((((0:Int),(0:Int)),[],[],[],[],[]),((0:Int),(0:Int)),false,(0:Int),[]),l.1))) (fun a=>Å (ĩ ((a.1,a.2.1),a.2.2)) fun c=>ifb (ine c.2.2 0) (è (ine c.2.2 0) (k (((((0:Int),(0:Int)),[],[],[],[],[]),((0:Int),(0:Int)),false,(0:Int),[]),c.2.2))) (Å (Ġ c.1) fun w=>ifb (!w.1) (k (((((0:Int),(0:Int)),[],[],[],[],[]),((0:Int),(0:Int)),false,(0:Int),[]),(9:Int))) (Å (mg (((a.1,a.2.1),a.2.2),c.1) b f) fun x=>Å (qG ((a.1,a.2.1),a.2.2) x) fun y=>Å (SD ((a.1,a.2.1),a.2.2) y ([b])) fun g=>Å (û g) fun j=>ifb (ine j 0) (ifb (ine j 0) (k (((((0:Int),(0:Int)),[],[],[],[],[]),((0:Int),(0:Int)),false,(0:Int),[]),j)) (Å (ε (((a.1,a.2.1),a.2.2),c.1) b) fun F=>none)) (Í (fun(z:Int) A=>s7 (0:Int) z (fun B=>A B) (fun _=>Å (ĩ g) fun h=>ifb (ine h.2.2 0) (ifb (ine h.2.2 0) (k (((((0:Int),(0:Int)),[],[],[],[],[]),((0:Int),(0:Int)),false,(0:Int),[]),h.2.2)) (Å (ε (((a.1,a.2.1),a.2.2),c.1) b) fun G=>none)) (Å (Ġ h.1) fun C=>ifb (!C.1) (k (((((0:Int),(0:Int)),[],[],[],[],[]),((0:Int),(0:Int)),false,(0:Int),[]),(9:Int))) (Å (ε (((a.1,a.2.1),a.2.2),c.1) b) fun D=>Å (mg (g,h.1) b f) fun m=>ifb f (Å (iu (((a.1,a.2.1),a.2.2),c.1) b) fun E=>k ((g,b,f,E,m),(0:Int))) (k ((g,b,f,D,m),(0:Int))))))) (0:Int)))))) ((0:Int),d.1.1,d.1.2,d.2.1,d.2.2.1,d.2.2.2.1,d.2.2.2.2.1,d.2.2.2.2.2))
def wR (a:Val Ã) (b:Val Â) (c:Bool):Option ((Val (.pair ü tI))):=Ef a b c some
def wz (f:Int) (a:Int) (c:Val ab) (g:Int→Val ab→Option ρ) (h:Val ab→Option ρ):Option ρ :=
  ifb (ilt a f) (è ((ile 0 a)&&(ilt a (ā c))) (Ĩ c (Int.toNat a) fun d=>è (ã (List.length d.2.2.1)) (è (ã (List.length d.2.2.2.1)) (è ((ile 0 a)&&(ilt a (ā c))) (Ĩ c (Int.toNat a) fun b=>è ((ile 0 a)&&(ilt a (ā (List.set c (Int.toNat a) (b.1,b.2.1,d.2.2.1,b.2.2.2))))) (Ĩ (List.set c (Int.toNat a) (b.1,b.2.1,d.2.2.1,b.2.2.2)) (Int.toNat a) fun e=>ck (a+(1:Int)) fun i=>g i (List.set (List.set c (Int.toNat a) (b.1,b.2.1,d.2.2.1,b.2.2.2)) (Int.toNat a) (e.1,e.2.1,e.2.2.1,d.2.2.2.1,e.2.2.2.2)))))))) (h c)
def aaO (a:Val Ã) (b:Val È) (k:Val aJ→Option ρ):Option ρ :=
  è (ã (List.length b.2.2.1)) (è (ã (List.length b.2.2.2.1)) (Å (û a) fun d=>ifb (ine d 0) (k ((((0:Int),(0:Int)),[],[],[],[],[]),d)) (è (ã (List.length a.2.1)) (è (ã (List.length a.2.2.1)) (è (ã (List.length a.2.2.2.1)) (è (ã (List.length a.2.2.2.2.2)) (è (ã (List.length a.2.2.2.2.1)) (Í (fun(e:(Val (.pair tI ab))) g=>wz (Ö a.2.2.2.2.1) e.1 e.2 (fun h i=>g (h,i)) (fun c=>è (ã ((List.length c)+(List.length ([b])))) (Å (û (a.1,a.2.1,a.2.2.1,a.2.2.2.1,(c++([b])),a.2.2.2.2.2)) fun f=>ifb (ine f 0) (k ((((0:Int),(0:Int)),[],[],[],[],[]),f)) (k ((a.1,a.2.1,a.2.2.1,a.2.2.2.1,(c++([b])),a.2.2.2.2.2),(0:Int)))))) ((0:Int),a.2.2.2.2.1)))))))))
def pm (a:Val Ã) (b:Val È):Option ((Val aJ)):=aaO a b some
def Rz (b:Val Ã) (a:Val È) (c:Val Â) (k:Val ķ→Option ρ):Option ρ :=
  Å (pI b a) fun d=>Å (uX b a) fun e=>Å (Ib d.1) fun h=>Å (Ap d.2) fun i=>ck (h.1+e.1) fun j=>ck (j-a.2.2.2.2.2.1) fun f=>ck (i.1+e.2) fun l=>ck (l+a.2.2.2.2.2.1) fun g=>ifb (igt f g) (k (((0:Int),(0:Int)),(5:Int))) (ck (c.1+f) fun m=>ck (c.2+g) fun n=>k ((m,n),(0:Int)))
def uW (a:Val Ã) (b:Val È) (c:Val Â):Option (Val ķ):=Rz a b c some
def Ey (g:Val Ã) (a:Val È) (k:Val ķ→Option ρ):Option ρ :=
  Å (pm g (a.1,a.2.1,a.2.2.1,a.2.2.2.1,(0:Int),a.2.2.2.2.2)) fun d=>ifb (ine d.2 0) (k (((0:Int),(0:Int)),d.2)) (Å (Ie d.1) fun b=>ck ((Ö b.2.2.1.2)-(2:Int)) fun c=>è ((ile 0 c)&&(ile c (ā b.2.2.1.2))) (Å (Š a.2.2.1 a.2.2.2.1) fun l=>Å (iE b l a.2.1) fun h=>Å (Š a.2.2.2.1 a.2.2.1) fun m=>Å (iE b m a.2.1) fun i=>Å (qJ (b.2.2.1.1,(List.take (Int.toNat c) b.2.2.1.2)) i h) fun e=>ifb (ine e.2 0) (k (((0:Int),(0:Int)),e.2)) (Å (qJ (b.2.2.1.1,(List.take (Int.toNat c) b.2.2.1.2)) h i) fun f=>ifb (ine f.2 0) (k (((0:Int),(0:Int)),f.2)) (ck (0-f.1) fun n=>Å (uW g (a.1,a.2.1,a.2.2.1,a.2.2.2.1,(0:Int),a.2.2.2.2.2) (n,e.1)) fun j=>k (j.1,j.2)))))
def wW (a:Val Ã) (b:Val È):Option (Val ķ):=Ey a b some
def Rx (a:Val Ã) (b:Int) (k:(Val (.pair È tI))→Option ρ):Option ρ :=
  Å (û a) fun c=>ifb (ine c 0) (k (((0:Int),(0:Int),[],[],(0:Int),(0:Int),(0:Int),(0:Int)),c)) (ifb (ilt b 0) (k (((0:Int),(0:Int),[],[],(0:Int),(0:Int),(0:Int),(0:Int)),(1:Int))) (ifb (ige b (Ö a.2.2.2.2.1)) (k (((0:Int),(0:Int),[],[],(0:Int),(0:Int),(0:Int),(0:Int)),(1:Int))) (ï a.2.2.2.2.1 b fun d=>k (d,(0:Int)))))
def Ic (a:Val Ã) (b:Int):Option ((Val (.pair È tI))):=Rx a b some
def aaQ (b:Val Ã) (c:Int) (k:Val ķ→Option ρ):Option ρ :=
  Å (Ic b c) fun a=>ifb (ine a.2 0) (k (((0:Int),(0:Int)),a.2)) (Å (wT b a.1) fun d=>k (d,(0:Int)))
def Oi (a:Val Ã) (b:Int):Option (Val ķ):=aaQ a b some
def zp (a:Val ae) (b:Val az) (c:(Val (.ptr È))) (k:Int→Option ρ):Option ρ :=
  ifb (ieq (Ö a) 0) (k (0:Int)) (ï a (0:Int) fun d=>Å (ζ b (d,c.2.1)) fun e=>k e)
def oe (a:Val ae) (b:Val az) (c:(Val (.ptr È))):Option (Int):=zp a b c some
def zo (b:Int) (c:Int) (a:Val az) (d:(Val (.ptr tI))) (e:Val aY) (f:(Val (.ptr tI))) (k:Val Ĉ→Option ρ):Option ρ :=
  Å (ĉ a b c) fun g=>Å (ĉ a d c) fun h=>ck (h+e.2) fun i=>Å (ĉ a b f) fun j=>ck (i+j) fun l=>Å (ĉ a f c) fun m=>ck (m-e.1) fun n=>Å (ĉ a b d) fun o=>ck (n+o) fun p=>k (g,l,p)
def od (a:Int) (b:Int) (c:Val az) (d:(Val (.ptr tI))) (e:Val aY) (f:(Val (.ptr tI))):Option (Val Ĉ):=zo a b c d e f some
def lZ (f:Int) (g:Val aa) (h:Val ah) (i:Int) (a:Int) (b:Val ah) (c:Int→Val ah→Option ρ) (j:Val ah→Option ρ):Option ρ :=
  ifb (ilt a i) (ï h a fun d=>ï g a fun e=>ifb (!((õ e.1 (3:Int))&&((õ e.2 f)&&true))) (è (ã ((List.length b)+(List.length ([d])))) (ck (a+(1:Int)) fun k=>c k (b++([d])))) (ck (a+(1:Int)) fun l=>c l b)) (j b)
def JV (f:Val az) (o:Val Â) (a:Val È) (k:(Val (.pair ũ tI))→Option ρ):Option ρ :=
  Å (wW f.1 a) fun e=>ifb (ine e.2 0) (k ((((0:Int),(0:Int)),((0:Int),(0:Int),(0:Int)),(0:Int),(0:Int),(0:Int)),e.2)) (Å (pm f.1 (a.1,a.2.1,a.2.2.1,a.2.2.2.1,(0:Int),a.2.2.2.2.2)) fun b=>ifb (ine b.2 0) (k ((((0:Int),(0:Int)),((0:Int),(0:Int),(0:Int)),(0:Int),(0:Int),(0:Int)),b.2)) (ck ((Ö b.1.2.2.2.2.1)-(1:Int)) fun g=>Å (Oi b.1 g) fun h=>Å (uY a.2.2.1 a.2.2.2.1) fun i=>Å (ĩ b.1) fun c=>Í (fun(j:Val É) p=>lZ g c.2.1 c.1.2 (Ö c.1.2) j.1 j.2 (fun q r=>p (q,r)) (fun d=>Å (oe i.1 (b.1,c.1.1,d) (a.1,a.2.1,a.2.2.1,a.2.2.2.1,(0:Int),a.2.2.2.2.2)) fun l=>Å (oe i.2.1 (b.1,c.1.1,d) (a.1,a.2.1,a.2.2.1,a.2.2.2.1,(0:Int),a.2.2.2.2.2)) fun m=>Å (ζ (b.1,c.1.1,d) o) fun n=>Å (od n (0:Int) (b.1,c.1.1,d) m h.1 l) fun s=>Å (od (0:Int) n (b.1,c.1.1,d) m h.1 l) fun t=>k ((e.1,s,t),(0:Int)))) ((0:Int),[])))
def uS (a:Val az) (b:Val Â) (c:Val È):Option ((Val (.pair ũ tI))):=JV a b c some
def vO (a:Val Ĉ) (k:Val ae→Option ρ):Option ρ :=
  ck (a.2.2-a.2.1) fun c=>ck (Int.tdiv c (2:Int)) fun b=>ck (a.1-a.2.1) fun d=>ck (a.2.2-a.1) fun e=>ck (b-1) fun f=>ck (b+1) fun g=>k ([d,e,b,f,g])
def iR (a:Val Ĉ):Option ((Val ae)):=vO a some
def J0 (a:Val Ĉ) (b:Int) (k:Int→Option ρ):Option ρ :=
  ck (a.2.1+b) fun c=>ck (a.2.2-b) fun d=>k (Xh (Xh a.1 c) d)
def uT (a:Val Ĉ) (b:Int):Option (Int):=J0 a b some
def sS (a:Val ũ) (b:Int) (k:Val Â→Option ρ):Option ρ :=
  Å (uT a.2.2 b) fun c=>ck (0-c) fun d=>Å (uT a.2.1 b) fun e=>k (d,e)
def Ō (a:Val ũ) (b:Int):Option (Val Â):=sS a b some
def ic (d:Int) (e:Int) (f:Int) (a:Int) (b:Val ae) (c:Int→Val ae→Option ρ) (g:Val ae→Option ρ):Option ρ :=
  ck (d+(2:Int)) fun h=>ifb (ile a h) (ifb (igt a e) (ifb (ilt a f) (è (ã ((List.length b)+(List.length ([a])))) (ck (a+(1:Int)) fun i=>c i (b++([a])))) (ck (a+(1:Int)) fun j=>c j b)) (ck (a+(1:Int)) fun k=>c k b)) (g b)
def jN (e:Val ae) (f:Int) (g:Int) (h:Int) (a:Int) (b:Val ae) (i:Int→Val ae→Option ρ) (j:Val ae→Option ρ):Option ρ :=
  ifb (ilt a f) (ï e a fun c=>ck (c-(2:Int)) fun k=>Í (fun(d:Val aw) l=>ic c g h d.1 d.2 (fun m n=>l (m,n)) (fun o=>ck (a+(1:Int)) fun p=>i p o)) (k,b)) (j b)
def sT (a:Val ũ) (b:Val ae) (k:Val ae→Option ρ):Option ρ :=
  Í (fun(c:Val aw) d=>jN b (Ö b) a.1.1 a.1.2 c.1 c.2 (fun e f=>d (e,f)) (fun g=>k g)) ((0:Int),[a.1.1,a.1.2])
def kp (a:Val ũ) (b:Val ae):Option ((Val ae)):=sT a b some
def jm (d:Val ae) (e:Int) (f:Int) (g:Int) (h:Int) (i:Int) (j:Int) (k:Int) (l:Int) (m:Int) (b:Int) (a:Int) (n:Int→Int→Option ρ) (o:Int→Option ρ):Option ρ :=
  ifb (ilt a e) (ï d a fun p=>Å (Ō ((f,g),(h,i,j),k,l,m) p) fun c=>ck (c.2-c.1) fun q=>ck (a+(1:Int)) fun r=>n (TC b q) r) (o b)
def qg (a:Val ũ) (k:Int→Option ρ):Option ρ :=
  Å (iR a.2.1) fun d=>Å (iR a.2.2) fun e=>Å (í ([d,e])) fun f=>Å (kp a f) fun b=>Í (fun(c:Val Â) g=>jm b (Ö b) a.1.1 a.1.2 a.2.1.1 a.2.1.2.1 a.2.1.2.2 a.2.2.1 a.2.2.2.1 a.2.2.2.2 c.1 c.2 (fun h i=>g (h,i)) (fun j=>k j)) ((-1:Int),(0:Int))
def mc (a:Val ũ):Option (Int):=qg a some
def zu (m:Int) (j:Val aa) (b:Int) (c:Int) (d:Int) (e:Val ac) (f:Val aa) (g:Val af) (h:Val ab) (i:Val aa) (k:Int→Int→Int→Val ac→Val aa→Val af→Val ab→Val aa→Option ρ) (n:Val aF→Option ρ) (o:Val ai→Option ρ):Option ρ :=
  ifb (ilt b m) (è ((ile 0 b)&&(ilt b (ā j))) (Ĩ j (Int.toNat b) fun l=>Å (Ŝ ((c,d),e,f,g,h,i) l) fun p=>ifb (ieq p.2 0) (ck (b+(1:Int)) fun q=>k q c d e f g h i) (Å (kJ ((c,d),e,f,g,h,i) l) fun a=>ifb (ine a.2 0) (n (a.2,c,d,e,f,g,h,i)) (ck (b+(1:Int)) fun r=>k r a.1.1.1 a.1.1.2 a.1.2.1 a.1.2.2.1 a.1.2.2.2.1 a.1.2.2.2.2.1 a.1.2.2.2.2.2)))) (o (c,d,e,f,g,h,i))
def QS (a:Val Ã) (e:Val Â) (i:Val È) (k:Val Â→Option ρ):Option ρ :=
  Å (û a) fun f=>ifb (ine f 0) (è (ine f 0) (k ((0:Int),f))) (Í (fun(b:Val aF) j=>zu (Ö ([e])) ([e]) b.1 b.2.1 b.2.2.1 b.2.2.2.1 b.2.2.2.2.1 b.2.2.2.2.2.1 b.2.2.2.2.2.2.1 b.2.2.2.2.2.2.2 (fun l m n o p q r s=>j (l,m,n,o,p,q,r,s)) (fun h=>è (ine h.1 0) (k ((0:Int),h.1))) (fun c=>Å (ĩ ((c.1,c.2.1),c.2.2)) fun d=>ifb (ine d.2.2 0) (è (ine d.2.2 0) (k ((0:Int),d.2.2))) (Å (Ġ d.1) fun t=>ifb (!t.1) (k ((0:Int),(9:Int))) (Å (uS (((c.1,c.2.1),c.2.2),d.1) e i) fun g=>ifb (ine g.2 0) (k ((0:Int),g.2)) (Å (mc g.1) fun u=>k (u,(0:Int))))))) ((0:Int),a.1.1,a.1.2,a.2.1,a.2.2.1,a.2.2.2.1,a.2.2.2.2.1,a.2.2.2.2.2))
def Ak (a:Val Ã) (b:Val Â) (c:Val È):Option (Val Â):=QS a b c some
def vS (a:Int) (k:Int→Option ρ):Option ρ :=
  k (TC (-288230376151711744:Int) (Xh a (288230376151711744:Int)))
def md (a:Int):Option (Int):=vS a some
def vP (a:Val Ĉ) (b:Int) (k:Val ae→Option ρ):Option ρ :=
  ck (b-a.2.1) fun c=>ck (a.2.2-b) fun d=>k ([c,d])
def iS (a:Val Ĉ) (b:Int):Option ((Val ae)):=vP a b some
def sX (m:Int) (j:Val aa) (b:Int) (c:Int) (d:Int) (e:Val ac) (f:Val aa) (g:Val af) (h:Val ab) (i:Val aa) (k:Int→Int→Int→Val ac→Val aa→Val af→Val ab→Val aa→Option ρ) (n:Val aF→Option ρ) (o:Val ai→Option ρ):Option ρ :=
  ifb (ilt b m) (è ((ile 0 b)&&(ilt b (ā j))) (Ĩ j (Int.toNat b) fun l=>Å (Ŝ ((c,d),e,f,g,h,i) l) fun p=>ifb (ieq p.2 0) (ck (b+(1:Int)) fun q=>k q c d e f g h i) (Å (kJ ((c,d),e,f,g,h,i) l) fun a=>ifb (ine a.2 0) (n (a.2,c,d,e,f,g,h,i)) (ck (b+(1:Int)) fun r=>k r a.1.1.1 a.1.1.2 a.1.2.1 a.1.2.2.1 a.1.2.2.2.1 a.1.2.2.2.2.1 a.1.2.2.2.2.2)))) (o (c,d,e,f,g,h,i))
def nt (b:Val ae) (c:Int) (d:Int) (e:Int) (f:Int) (g:Int) (h:Int) (i:Int) (j:Int) (k:Int) (l:Int) (m:Int) (a:Int) (n:Int→Option ρ) (o:Int→Option ρ) (p:Unit→Option ρ):Option ρ :=
  ifb (ilt a c) (ï b a fun q=>Å (Ō ((f,g),(h,i,j),k,l,m) q) fun r=>Å (qF r (d,e)) fun s=>ifb (ieq s 3) (o a) (ck (a+(1:Int)) fun t=>n t)) (p ())
def Ed (c:Val Ã) (g:Val Â) (b:Val Â) (n:Val È) (k:Val aQ→Option ρ):Option ρ :=
  Å (û c) fun h=>ifb (ine h 0) (ifb (ine h 0) (k (false,h)) (è (igt b.1 b.2) (k (false,(1:Int))))) (Í (fun(d:Val aF) o=>sX (Ö ([g])) ([g]) d.1 d.2.1 d.2.2.1 d.2.2.2.1 d.2.2.2.2.1 d.2.2.2.2.2.1 d.2.2.2.2.2.2.1 d.2.2.2.2.2.2.2 (fun p q r s t u v w=>o (p,q,r,s,t,u,v,w)) (fun l=>ifb (ine l.1 0) (k (false,l.1)) (è (igt b.1 b.2) (k (false,(1:Int))))) (fun e=>Å (ĩ ((e.1,e.2.1),e.2.2)) fun f=>ifb (ine f.2.2 0) (ifb (ine f.2.2 0) (k (false,f.2.2)) (è (igt b.1 b.2) (k (false,(1:Int))))) (Å (Ġ f.1) fun x=>ifb (!x.1) (k (false,(9:Int))) (ifb (igt b.1 b.2) (k (false,(1:Int))) (Å (uS (((e.1,e.2.1),e.2.2),f.1) g n) fun a=>ifb (ine a.2 0) (k (false,a.2)) (Å (iR a.1.2.1) fun y=>Å (iR a.1.2.2) fun z=>Å (í ([y,z])) fun A=>Å (md b.1) fun i=>Å (md b.2) fun j=>Å (iS a.1.2.1 i) fun B=>ck (0-i) fun C=>Å (iS a.1.2.2 C) fun D=>Å (í ([A,B,D])) fun E=>Å (iS a.1.2.1 j) fun F=>ck (0-j) fun G=>Å (iS a.1.2.2 G) fun H=>Å (í ([E,F,H])) fun I=>Å (kp a.1 I) fun m=>Í (fun(J:Int) K=>nt m (Ö m) i j a.1.1.1 a.1.1.2 a.1.2.1.1 a.1.2.1.2.1 a.1.2.1.2.2 a.1.2.2.1 a.1.2.2.2.1 a.1.2.2.2.2 J (fun L=>K L) (fun M=>k ((!(ige M 0)),(0:Int))) (fun _=>k (true,(0:Int)))) (0:Int))))))) ((0:Int),c.1.1,c.1.2,c.2.1,c.2.2.1,c.2.2.2.1,c.2.2.2.2.1,c.2.2.2.2.2))
def qH (a:Val Ã) (b:Val Â) (c:Val Â) (d:Val È):Option ((Val aQ)):=Ed a b c d some
def nu (d:Val ae) (e:Int) (f:Val ah) (a:Int) (g:Int→Option ρ) (b:Int→Option ρ) (h:Unit→Option ρ):Option ρ :=
  ifb (ilt a e) (ï d a fun c=>ifb (ilt c 0) (b a) (ifb (ige c (Ö f)) (b a) (ck (a+(1:Int)) fun i=>g i))) (h ())
def Eh (b:Val É) (a:Val ae) (k:Int→Option ρ):Option ρ :=
  ifb (igt (Ö a) 80) (k (2:Int)) (Í (fun(c:Int) d=>nu a (Ö a) b.2 c (fun e=>d e) (fun f=>ifb (ige f 0) (k (1:Int)) (k (0:Int))) (fun _=>k (0:Int))) (0:Int))
def qI (a:Val É) (b:Val ae):Option (Int):=Eh a b some
def vY (e:Val ae) (f:Int) (g:Val ah) (c:Int) (d:Int) (a:Int) (h:Int→Int→Int→Option ρ) (i:Val aR→Option ρ) (j:Val Â→Option ρ):Option ρ :=
  ifb (ilt a f) (ï e a fun k=>ï g k fun b=>ifb (ine b.1 c) (i ((0:Int),(0:Int),false)) (ck (d+b.2.2) fun l=>ck (a+(1:Int)) fun m=>h b.2.1 l m)) (j (c,d))
def Z2 (e:Val É) (f:Int) (c:Val ae) (k:Val aR→Option ρ):Option ρ :=
  Í (fun(a:Val Ĉ) g=>vY c (Ö c) e.2 a.1 a.2.1 a.2.2 (fun h i j=>g (h,i,j)) (fun b=>k (b.1,b.2.1,b.2.2)) (fun d=>k (d.1,d.2,true))) (f,(0:Int),(0:Int))
def H9 (a:Val É) (b:Int) (c:Val ae):Option ((Val aR)):=Z2 a b c some
def tc (a:Val É) (b:Val ae) (k:Int→Option ρ):Option ρ :=
  Å (oh a) fun d=>ifb (ine d.1 0) (k d.1) (Å (qI a b) fun e=>ifb (ine e 0) (k e) (ifb (ieq (Ö b) 0) (k (8:Int)) (ï b (0:Int) fun g=>ï a.2 g fun f=>Å (H9 a f.1 b) fun c=>ifb (!c.2.2) (k (8:Int)) (ifb (ine c.1 f.1) (k (8:Int)) (ifb (ige c.2.1 0) (k (8:Int)) (k (0:Int)))))))
def ny (a:Val É) (b:Val ae):Option (Int):=tc a b some
def sZ (a:Val ü) (k:Int→Option ρ):Option ρ :=
  Å (û a.1) fun b=>ifb (ine b 0) (k b) (ifb (!((õ a.2.1.1 (0:Int))&&((õ a.2.1.2 (0:Int))&&true))) (k (1:Int)) (ifb a.2.2.1 (k (1:Int)) (ifb (ine a.2.2.2.1 0) (k (1:Int)) (Å (ĩ a.1) fun c=>Å (ny c.1 a.2.2.2.2) fun d=>ifb (ine d 0) (k (8:Int)) (k (0:Int))))))
def jd (a:Val ü):Option (Int):=sZ a some
def td (a:Val É) (c:Int) (d:Int) (e:Val ae) (k:Val Â→Option ρ):Option ρ :=
  Å (oh a) fun f=>ifb (ine f.1 0) (k ((0:Int),f.1)) (Å (sv a c) fun h=>ifb (!h) (k ((0:Int),(1:Int))) (Å (sv a d) fun i=>ifb (!i) (k ((0:Int),(1:Int))) (Å (qI a e) fun g=>ifb (ine g 0) (k ((0:Int),g)) (Å (H9 a c e) fun b=>ifb (!b.2.2) (k ((0:Int),(8:Int))) (ifb (ine b.1 d) (k ((0:Int),(8:Int))) (k (b.2.1,(0:Int))))))))
def kq (a:Val É) (b:Int) (c:Int) (d:Val ae):Option (Val Â):=td a b c d some
def vV (a:Val ü) (k:Int→Option ρ):Option ρ :=
  Å (û a.1) fun c=>ifb (ine c 0) (k c) (Å (Ŝ a.1 a.2.1) fun b=>ifb (ine b.2 0) (k (5:Int)) (Å (ĩ a.1) fun d=>ck (0-a.2.2.2.1) fun g=>ifb a.2.2.1 (Å (kq d.1 (0:Int) b.1 a.2.2.2.2) fun e=>ifb (ine e.2 0) (k (8:Int)) (ifb (ine e.1 a.2.2.2.1) (k (8:Int)) (k (0:Int)))) (Å (kq d.1 b.1 (0:Int) a.2.2.2.2) fun f=>ifb (ine f.2 0) (k (8:Int)) (ifb (ine f.1 g) (k (8:Int)) (k (0:Int))))))
def mf (a:Val ü):Option (Int):=vV a some
def Ā (c:Val ac) (d:Int) (e:Int) (f:Int) (g:Int) (h:Int) (i:Int) (j:Int) (k:Int) (l:Int) (b:Int) (m:Int→Option ρ) (n:Int→Option ρ) (o:Unit→Option ρ):Option ρ :=
  ifb (ilt b d) (ï c b fun a=>ifb ((õ e a.1)&&((õ f a.2.1)&&((õ g a.2.2.1)&&((õ h a.2.2.2.1.1)&&((õ i a.2.2.2.1.2)&&((õ j a.2.2.2.2.1.1)&&((õ k a.2.2.2.2.1.2)&&((õ l a.2.2.2.2.2)&&true)))))))) (n b) (ck (b+(1:Int)) fun p=>m p)) (o ())
def Ř (b:Val ac) (a:Val Ï) (k:Int→Option ρ):Option ρ :=
  Í (fun(c:Int) d=>Ā b (Ö b) a.1 a.2.1 a.2.2.1 a.2.2.2.1.1 a.2.2.2.1.2 a.2.2.2.2.1.1 a.2.2.2.2.1.2 a.2.2.2.2.2 c (fun e=>d e) (fun f=>k f) (fun _=>k (-1:Int))) (0:Int)
def ř (a:Val ac) (b:Val Ï):Option (Int):=Ř a b some
def Ł (a:Val ac) (b:Val Ï) (k:Bool→Option ρ):Option ρ :=
  Å (ř a b) fun c=>k (ige c 0)
def Ĝ (a:Val ac) (b:Val Ï):Option (Bool):=Ł a b some
def ĕ (c:Val aa) (d:Int) (e:Int) (f:Int) (a:Int) (g:Int→Option ρ) (h:Int→Option ρ) (i:Unit→Option ρ):Option ρ :=
  ifb (ilt a d) (ï c a fun b=>ifb ((õ e b.1)&&((õ f b.2)&&true)) (h a) (ck (a+(1:Int)) fun j=>g j)) (i ())
def Υ (a:Val aa) (b:Val Â) (k:Int→Option ρ):Option ρ :=
  Í (fun(c:Int) d=>ĕ a (Ö a) b.1 b.2 c (fun e=>d e) (fun f=>k f) (fun _=>k (-1:Int))) (0:Int)
def δ (a:Val aa) (b:Val Â):Option (Int):=Υ a b some
def Ş (a:Val aa) (b:Val Â) (k:Bool→Option ρ):Option ρ :=
  Å (δ a b) fun c=>k (ige c 0)
def Ę (a:Val aa) (b:Val Â):Option (Bool):=Ş a b some
def ċ (c:Val af) (d:Int) (e:Int) (f:Int) (g:Int) (h:Int) (a:Int) (i:Int→Option ρ) (j:Int→Option ρ) (k:Unit→Option ρ):Option ρ :=
  ifb (ilt a d) (ï c a fun b=>ifb ((õ e b.1)&&((õ f b.2.1.1)&&((õ g b.2.1.2)&&((õ h b.2.2)&&true)))) (j a) (ck (a+(1:Int)) fun l=>i l)) (k ())
def ů (b:Val af) (a:Val Ń) (k:Int→Option ρ):Option ρ :=
  Í (fun(c:Int) d=>ċ b (Ö b) a.1 a.2.1.1 a.2.1.2 a.2.2 c (fun e=>d e) (fun f=>k f) (fun _=>k (-1:Int))) (0:Int)
def Ų (a:Val af) (b:Val Ń):Option (Int):=ů a b some
def Ŏ (a:Val af) (b:Val Ń) (k:Bool→Option ρ):Option ρ :=
  Å (Ų a b) fun c=>k (ige c 0)
def č (a:Val af) (b:Val Ń):Option (Bool):=Ŏ a b some
def vN (c:Val ac) (d:Int) (a:Int) (b:Val am) (e:Int→Val am→Option ρ) (f:Val am→Option ρ):Option ρ :=
  ifb (ilt a d) (ï c a fun g=>ck (a+(1:Int)) fun h=>e h (N1 (k:=tI) (v:=.bool) g.1 true b)) (f b)
def mZ (b:Val ae) (c:Val ae) (d:Int) (a:Int) (e:Int→Option ρ) (f:Bool→Option ρ) (g:Unit→Option ρ):Option ρ :=
  ifb (ilt a d) (ï b a fun h=>ï c a fun i=>ifb (ine h i) (f false) (ck (a+(1:Int)) fun j=>e j)) (g ())
def vM (b:Val ae) (c:Val ae) (d:Int) (a:Int) (e:Int→Option ρ) (f:Bool→Option ρ) (g:Unit→Option ρ):Option ρ :=
  ifb (ilt a d) (ï b a fun h=>ï c a fun i=>ifb (ine h i) (f false) (ck (a+(1:Int)) fun j=>e j)) (g ())
def qo (g:Val ab) (h:Int) (i:Int) (j:Int) (f:Val ae) (d:Val ae) (k:Int) (l:Int) (m:Int) (n:Int) (a:Int) (c:Int→Option ρ) (e:Int→Option ρ) (o:Unit→Option ρ):Option ρ :=
  ifb (ilt a h) (ï g a fun b=>ifb (ieq i b.1) (ifb (ieq j b.2.1) (ifb (ieq k b.2.2.2.2.1) (ifb (ieq l b.2.2.2.2.2.1) (ifb ((õ m b.2.2.2.2.2.2.1)&&((õ n b.2.2.2.2.2.2.2)&&true)) (ifb (ine (Ö f) (Ö b.2.2.1)) (ck (a+(1:Int)) fun p=>c p) (Í (fun(q:Int) r=>mZ f b.2.2.1 (Ö f) q (fun s=>r s) (fun t=>ifb t (ifb (ine (Ö d) (Ö b.2.2.2.1)) (ck (a+(1:Int)) fun u=>c u) (Í (fun(v:Int) w=>vM d b.2.2.2.1 (Ö d) v (fun x=>w x) (fun y=>ifb y (e a) (ck (a+(1:Int)) fun z=>c z)) (fun _=>e a)) (0:Int))) (ck (a+(1:Int)) fun A=>c A)) (fun _=>ifb (ine (Ö d) (Ö b.2.2.2.1)) (ck (a+(1:Int)) fun B=>c B) (Í (fun(C:Int) D=>vM d b.2.2.2.1 (Ö d) C (fun E=>D E) (fun F=>ifb F (e a) (ck (a+(1:Int)) fun G=>c G)) (fun _=>e a)) (0:Int)))) (0:Int))) (ck (a+(1:Int)) fun H=>c H)) (ck (a+(1:Int)) fun I=>c I)) (ck (a+(1:Int)) fun J=>c J)) (ck (a+(1:Int)) fun K=>c K)) (ck (a+(1:Int)) fun L=>c L)) (o ())
def qp (e:Val ab) (f:Int) (c:Val ab) (b:Int) (g:Int→Option ρ) (d:Bool→Option ρ) (h:Unit→Option ρ):Option ρ :=
  ifb (ilt b f) (ï e b fun a=>Í (fun(i:Int) j=>qo c (Ö c) a.1 a.2.1 a.2.2.1 a.2.2.2.1 a.2.2.2.2.1 a.2.2.2.2.2.1 a.2.2.2.2.2.2.1 a.2.2.2.2.2.2.2 i (fun k=>j k) (fun l=>ifb (!(ige l 0)) (d false) (ck (b+(1:Int)) fun m=>g m)) (fun _=>d false)) (0:Int)) (h ())
def qn (b:Val ac) (c:Int) (d:Val ac) (a:Int) (e:Int→Option ρ) (f:Int→Option ρ) (g:Unit→Option ρ):Option ρ :=
  ifb (ilt a c) (ï b a fun h=>Å (Ĝ d h) fun i=>ifb (!i) (f a) (ck (a+(1:Int)) fun j=>e j)) (g ())
def kV (d:Val aa) (e:Int) (f:Val am) (g:Val aa) (a:Int) (b:Int→Option ρ) (h:Int→Option ρ) (i:Unit→Option ρ):Option ρ :=
  ifb (ilt a e) (ï d a fun c=>abR (k:=tI) (v:=.bool) c.1 f (fun j=>ifb j (Å (Ę g c) fun l=>ifb (!l) (h a) (ck (a+(1:Int)) fun m=>b m)) (ck (a+(1:Int)) fun n=>b n)) (ck (a+(1:Int)) fun o=>b o)) (i ())
def mY (d:Val aa) (e:Int) (f:Val am) (g:Val aa) (a:Int) (b:Int→Option ρ) (h:Int→Option ρ) (i:Unit→Option ρ):Option ρ :=
  ifb (ilt a e) (ï d a fun c=>abR (k:=tI) (v:=.bool) c.1 f (fun j=>ifb j (Å (Ę g c) fun l=>ifb (!l) (h a) (ck (a+(1:Int)) fun m=>b m)) (ck (a+(1:Int)) fun n=>b n)) (ck (a+(1:Int)) fun o=>b o)) (i ())
def Ĺ (d:Val af) (e:Int) (f:Val am) (g:Val af) (a:Int) (b:Int→Option ρ) (h:Int→Option ρ) (i:Unit→Option ρ):Option ρ :=
  ifb (ilt a e) (ï d a fun c=>abR (k:=tI) (v:=.bool) c.1 f (fun j=>ifb j (Å (č g c) fun l=>ifb (!l) (h a) (ck (a+(1:Int)) fun m=>b m)) (ck (a+(1:Int)) fun n=>b n)) (ck (a+(1:Int)) fun o=>b o)) (i ())
def Ē (d:Val af) (e:Int) (f:Val am) (g:Val af) (a:Int) (b:Int→Option ρ) (h:Int→Option ρ) (i:Unit→Option ρ):Option ρ :=
  ifb (ilt a e) (ï d a fun c=>abR (k:=tI) (v:=.bool) c.1 f (fun j=>ifb j (Å (č g c) fun l=>ifb (!l) (h a) (ck (a+(1:Int)) fun m=>b m)) (ck (a+(1:Int)) fun n=>b n)) (ck (a+(1:Int)) fun o=>b o)) (i ())
def ZF (b:Val Ã) (a:Val Ã) (k:Bool→Option ρ):Option ρ :=
  Í (fun(d:(Val (.pair tI am))) e=>vN b.2.1 (Ö b.2.1) d.1 d.2 (fun f g=>e (f,g)) (fun c=>Í (fun(h:Int) i=>qp b.2.2.2.2.1 (Ö b.2.2.2.2.1) a.2.2.2.2.1 h (fun j=>i j) (fun l=>k l) (fun _=>ifb ((õ b.1.1 a.1.1)&&((õ b.1.2 a.1.2)&&true)) (Í (fun(m:Int) n=>qn b.2.1 (Ö b.2.1) a.2.1 m (fun o=>n o) (fun p=>ifb (!(ige p 0)) (Í (fun(q:Int) r=>kV b.2.2.1 (Ö b.2.2.1) c a.2.2.1 q (fun s=>r s) (fun t=>ifb (!(ige t 0)) (Í (fun(u:Int) v=>mY a.2.2.1 (Ö a.2.2.1) c b.2.2.1 u (fun w=>v w) (fun x=>ifb (!(ige x 0)) (Í (fun(y:Int) z=>Ĺ b.2.2.2.1 (Ö b.2.2.2.1) c a.2.2.2.1 y (fun A=>z A) (fun B=>ifb (!(ige B 0)) (Í (fun(C:Int) D=>Ē a.2.2.2.1 (Ö a.2.2.2.1) c b.2.2.2.1 C (fun E=>D E) (fun F=>k (!(ige F 0))) (fun _=>k true)) (0:Int)) (k false)) (fun _=>Í (fun(G:Int) H=>Ē a.2.2.2.1 (Ö a.2.2.2.1) c b.2.2.2.1 G (fun I=>H I) (fun J=>k (!(ige J 0))) (fun _=>k true)) (0:Int))) (0:Int)) (k false)) (fun _=>Í (fun(K:Int) L=>Ĺ b.2.2.2.1 (Ö b.2.2.2.1) c a.2.2.2.1 K (fun M=>L M) (fun N=>ifb (!(ige N 0)) (Í (fun(O:Int) P=>Ē a.2.2.2.1 (Ö a.2.2.2.1) c b.2.2.2.1 O (fun Q=>P Q) (fun R=>k (!(ige R 0))) (fun _=>k true)) (0:Int)) (k false)) (fun _=>Í (fun(S:Int) T=>Ē a.2.2.2.1 (Ö a.2.2.2.1) c b.2.2.2.1 S (fun U=>T U) (fun V=>k (!(ige V 0))) (fun _=>k true)) (0:Int))) (0:Int))) (0:Int)) (k false)) (fun _=>Í (fun(W:Int) X=>mY a.2.2.1 (Ö a.2.2.1) c b.2.2.1 W (fun Y=>X Y) (fun Z=>ifb (!(ige Z 0)) (Í (fun(dc:Int) df=>Ĺ b.2.2.2.1 (Ö b.2.2.2.1) c a.2.2.2.1 dc (fun dg=>df dg) (fun dh=>ifb (!(ige dh 0)) (Í (fun(di:Int) dj=>Ē a.2.2.2.1 (Ö a.2.2.2.1) c b.2.2.2.1 di (fun dk=>dj dk) (fun dl=>k (!(ige dl 0))) (fun _=>k true)) (0:Int)) (k false)) (fun _=>Í (fun(dm:Int) dn=>Ē a.2.2.2.1 (Ö a.2.2.2.1) c b.2.2.2.1 dm (fun dt=>dn dt) (fun du=>k (!(ige du 0))) (fun _=>k true)) (0:Int))) (0:Int)) (k false)) (fun _=>Í (fun(dv:Int) dw=>Ĺ b.2.2.2.1 (Ö b.2.2.2.1) c a.2.2.2.1 dv (fun dz=>dw dz) (fun d8=>ifb (!(ige d8 0)) (Í (fun(d9:Int) ee=>Ē a.2.2.2.1 (Ö a.2.2.2.1) c b.2.2.2.1 d9 (fun eh=>ee eh) (fun ej=>k (!(ige ej 0))) (fun _=>k true)) (0:Int)) (k false)) (fun _=>Í (fun(eo:Int) er=>Ē a.2.2.2.1 (Ö a.2.2.2.1) c b.2.2.2.1 eo (fun ew=>er ew) (fun ez=>k (!(ige ez 0))) (fun _=>k true)) (0:Int))) (0:Int))) (0:Int))) (0:Int)) (k false)) (fun _=>Í (fun(fc:Int) fe=>kV b.2.2.1 (Ö b.2.2.1) c a.2.2.1 fc (fun ff=>fe ff) (fun fg=>ifb (!(ige fg 0)) (Í (fun(fh:Int) fi=>mY a.2.2.1 (Ö a.2.2.1) c b.2.2.1 fh (fun fj=>fi fj) (fun fk=>ifb (!(ige fk 0)) (Í (fun(fm:Int) fo=>Ĺ b.2.2.2.1 (Ö b.2.2.2.1) c a.2.2.2.1 fm (fun fp=>fo fp) (fun fq=>ifb (!(ige fq 0)) (Í (fun(ft:Int) fu=>Ē a.2.2.2.1 (Ö a.2.2.2.1) c b.2.2.2.1 ft (fun f0=>fu f0) (fun f5=>k (!(ige f5 0))) (fun _=>k true)) (0:Int)) (k false)) (fun _=>Í (fun(f7:Int) f8=>Ē a.2.2.2.1 (Ö a.2.2.2.1) c b.2.2.2.1 f7 (fun f9=>f8 f9) (fun gc=>k (!(ige gc 0))) (fun _=>k true)) (0:Int))) (0:Int)) (k false)) (fun _=>Í (fun(gd:Int) gg=>Ĺ b.2.2.2.1 (Ö b.2.2.2.1) c a.2.2.2.1 gd (fun gh=>gg gh) (fun gi=>ifb (!(ige gi 0)) (Í (fun(gj:Int) gk=>Ē a.2.2.2.1 (Ö a.2.2.2.1) c b.2.2.2.1 gj (fun gn=>gk gn) (fun gp=>k (!(ige gp 0))) (fun _=>k true)) (0:Int)) (k false)) (fun _=>Í (fun(gq:Int) gr=>Ē a.2.2.2.1 (Ö a.2.2.2.1) c b.2.2.2.1 gq (fun gu=>gr gu) (fun gw=>k (!(ige gw 0))) (fun _=>k true)) (0:Int))) (0:Int))) (0:Int)) (k false)) (fun _=>Í (fun(gx:Int) gy=>mY a.2.2.1 (Ö a.2.2.1) c b.2.2.1 gx (fun g8=>gy g8) (fun g9=>ifb (!(ige g9 0)) (Í (fun(ic:Int) ig=>Ĺ b.2.2.2.1 (Ö b.2.2.2.1) c a.2.2.2.1 ic (fun ii=>ig ii) (fun ij=>ifb (!(ige ij 0)) (Í (fun(ik:Int) il=>Ē a.2.2.2.1 (Ö a.2.2.2.1) c b.2.2.2.1 ik (fun ip=>il ip) (fun iq=>k (!(ige iq 0))) (fun _=>k true)) (0:Int)) (k false)) (fun _=>Í (fun(ir:Int) iu=>Ē a.2.2.2.1 (Ö a.2.2.2.1) c b.2.2.2.1 ir (fun iv=>iu iv) (fun iw=>k (!(ige iw 0))) (fun _=>k true)) (0:Int))) (0:Int)) (k false)) (fun _=>Í (fun(ix:Int) iy=>Ĺ b.2.2.2.1 (Ö b.2.2.2.1) c a.2.2.2.1 ix (fun iz=>iy iz) (fun i5=>ifb (!(ige i5 0)) (Í (fun(i6:Int) i7=>Ē a.2.2.2.1 (Ö a.2.2.2.1) c b.2.2.2.1 i6 (fun i8=>i7 i8) (fun i9=>k (!(ige i9 0))) (fun _=>k true)) (0:Int)) (k false)) (fun _=>Í (fun(ja:Int) jb=>Ē a.2.2.2.1 (Ö a.2.2.2.1) c b.2.2.2.1 ja (fun jc=>jb jc) (fun jd=>k (!(ige jd 0))) (fun _=>k true)) (0:Int))) (0:Int))) (0:Int))) (0:Int))) (0:Int)) (k false))) (0:Int))) ((0:Int),[])
def H5 (a:Val Ã) (b:Val Ã):Option (Bool):=ZF a b some
def J2 (b:Val Ã) (a:Val ü) (k:Val aQ→Option ρ):Option ρ :=
  Å (û b) fun c=>ifb (ine c 0) (k (false,c)) (ifb ((õ a.2.1.1 (0:Int))&&((õ a.2.1.2 (0:Int))&&true)) (Å (jd a) fun d=>ifb (ine d 0) (k (false,d)) (Å (H5 a.1 b) fun f=>k (f,(0:Int)))) (Å (mf a) fun e=>ifb (ine e 0) (k (false,e)) (Å (H5 a.1 b) fun g=>k (g,(0:Int)))))
def Bj (a:Val Ã) (b:Val ü):Option ((Val aQ)):=J2 a b some
def DE (k:Bool→Option ρ):Option ρ :=
  Å Ag fun a=>Å (og a ((2:Int),(10:Int))) fun c=>Å (og a ((1:Int),(30:Int))) fun d=>Å (wS a ((1:Int),(10:Int)) ((2:Int),(10:Int))) fun e=>Å (Oh a (10:Int) ([(1:Int),(2:Int)])) fun f=>Å (H8 a ((2:Int),(0:Int)) ((990:Int),(1010:Int))) fun g=>Å (wR a ((2:Int),(10:Int)) true) fun b=>ifb (ine c.2 0) (k false) (ifb (ine d.2 0) (k false) (ifb (ine e.2 0) (k false) (ifb (ine f.2 0) (k false) (ifb (ine g.2 0) (k false) (ifb (ine b.2 0) (k false) (ifb (!((õ c.1.1 (984:Int))&&((õ c.1.2 (1011:Int))&&true))) (k false) (ifb (!((õ d.1.1 (964:Int))&&((õ d.1.2 (1005:Int))&&true))) (k false) (ifb (!((õ e.1.1 (-6:Int))&&((õ e.1.2 (11:Int))&&true))) (k false) (ifb (!((õ f.1.1 (1979:Int))&&((õ f.1.2 (2018:Int))&&true))) (k false) (ifb (ine g.1 3) (k false) (ifb (ine b.1.2.2.2.1 1011) (k false) (Å (Ak a ((2:Int),(10:Int)) ((8:Int),(10:Int),[(1:Int)],[(2:Int)],(0:Int),(0:Int),(0:Int),(0:Int))) fun h=>Å (qH a ((2:Int),(10:Int)) ((900:Int),(1100:Int)) ((8:Int),(10:Int),[(1:Int)],[(2:Int)],(0:Int),(0:Int),(0:Int),(0:Int))) fun i=>Å (Bj a b.1) fun j=>Å (me a) fun l=>ifb (ieq h.2 0) (ifb (ieq i.2 0) (ifb (ieq j.2 0) (ifb (ieq l.2 5) (ifb (ieq h.1 10) (ifb i.1 (ifb j.1 (Å (mf b.1) fun m=>k (ieq m 0)) (k false)) (k false)) (k false)) (k false)) (k false)) (k false)) (k false)))))))))))))
def iQ:Option (Bool):=DE some
def yD (a:Val Â) (b:Int) (c:Int) (k:Bool→Option ρ):Option ρ :=
  ifb (ile b a.1) (ifb (ile a.1 a.2) (k (ile a.2 c)) (k false)) (k false)
def jB (a:Val Â) (b:Int) (c:Int):Option (Bool):=yD a b c some
def agL (a:Int) (b:Int) (c:Int) (k:Bool→Option ρ):Option ρ :=
  ifb (ige a b) (k (ile a c)) (k false)
def l9 (a:Int) (b:Int) (c:Int):Option (Bool):=agL a b c some
def Zg (a:Int) (k:Bool→Option ρ):Option ρ :=
  Å (l9 a (0:Int) (20000:Int)) fun b=>k b
def wO (a:Int):Option (Bool):=Zg a some
def vK (b:Int) (a:Int) (c:Int→Int→Option ρ) (d:Int→Option ρ):Option ρ :=
  ifb (ine a 0) (ifb (õ a 0) (none) (c a (Int.tmod b a))) (d b)
def Zy (b:Int) (c:Int) (k:Int→Option ρ):Option ρ :=
  Í (fun(a:Val Â) d=>vK a.1 a.2 (fun e f=>d (e,f)) (fun g=>k g)) (b,c)
def Bh (a:Int) (b:Int):Option (Int):=Zy a b some
def ZD (a:Int) (k:Int→Option ρ):Option ρ :=
  ifb (ilt a 0) (ck ((0:Int)-a) fun b=>k b) (k a)
def H4 (a:Int):Option (Int):=ZD a some
def JM (a:Val Â) (k:Bool→Option ρ):Option ρ :=
  ifb (ilt a.2 1) (k false) (ifb (igt a.2 2147483647) (k false) (ifb (ilt a.1 (-2147483647:Int)) (k false) (ifb (igt a.1 2147483647) (k false) (Å (H4 a.1) fun b=>Å (Bh b a.2) fun c=>k (ieq c 1)))))
def Bf (a:Val Â):Option (Bool):=JM a some
def Jm (a:Val Ï) (k:Bool→Option ρ):Option ρ :=
  Å (Bf a.2.2.2.2.1) fun b=>ifb (!b) (k false) (Å (l9 a.2.2.2.2.1.1 (-1000:Int) (1000:Int)) fun c=>ifb (!c) (k false) (ifb (igt a.2.2.2.2.1.2 100) (k false) (Å (l9 a.1 (1:Int) (1099511627776:Int)) fun d=>ifb d (Å (wO a.2.1) fun e=>ifb e (Å (l9 a.2.2.1 (1:Int) (1125899906842624:Int)) fun f=>ifb f (Å (jB a.2.2.2.1 (-1073741824:Int) (1073741824:Int)) fun g=>ifb g (Å (l9 a.2.2.2.2.2 (0:Int) (1048576:Int)) fun h=>k h) (k false)) (k false)) (k false)) (k false))))
def Bc (a:Val Ï):Option (Bool):=Jm a some
def rN (c:Int) (b:Val ac) (a:Int) (d:Int→Option ρ) (e:Int→Option ρ) (f:Unit→Option ρ):Option ρ :=
  ifb (ilt a (Ö b)) (ï b a fun g=>ifb (ieq g.1 c) (e a) (ck (a+(1:Int)) fun h=>d h)) (f ())
def Qb (a:Val Ã) (b:Int) (k:Int→Option ρ):Option ρ :=
  Í (fun(c:Int) d=>rN b a.2.1 c (fun e=>d e) (fun f=>k f) (fun _=>k (-1:Int))) (0:Int)
def qD (a:Val Ã) (b:Int):Option (Int):=Qb a b some
def Jp (a:Val Ã) (c:Int) (d:Int) (k:Int→Option ρ):Option ρ :=
  Å (qD a c) fun b=>ifb (ilt b 0) (k (5:Int)) (ï a.2.1 b fun e=>ifb (ilt d e.2.1) (k (4:Int)) (k (0:Int)))
def nc (a:Val Ã) (b:Int) (c:Int):Option (Int):=Jp a b c some
def rr (e:Int) (f:Int) (g:Val ac) (a:Val aa) (h:Val af) (i:Val ab) (j:Val aa) (b:Int) (k:Int→Option ρ) (c:Int→Option ρ) (l:Unit→Option ρ):Option ρ :=
  ifb (ilt b (Ö a)) (ï a b fun m=>Å (wO m.2) fun n=>ifb (!n) (c (1:Int)) (ï a b fun o=>ï a b fun p=>Å (nc ((e,f),g,a,h,i,j) o.1 p.2) fun d=>ifb (ine d 0) (c d) (ck (b+(1:Int)) fun q=>k q))) (l ())
def PB (a:Val Ã) (k:Int→Option ρ):Option ρ :=
  Í (fun(b:Int) c=>rr a.1.1 a.1.2 a.2.1 a.2.2.1 a.2.2.2.1 a.2.2.2.2.1 a.2.2.2.2.2 b (fun d=>c d) (fun e=>k e) (fun _=>k (0:Int))) (0:Int)
def HU (a:Val Ã):Option (Int):=PB a some
def oS (d:Int) (b:Val af) (e:Int) (f:Int) (g:Int) (a:Int) (c:Int→Option ρ) (h:Int→Option ρ) (i:Unit→Option ρ):Option ρ :=
  ifb (ilt a d) (ï b a fun j=>ifb (ieq j.1 e) (ï b a fun k=>ifb (ile k.2.1.1 g) (ï b a fun l=>ifb (ile f l.2.1.2) (h (9:Int)) (ck (a+(1:Int)) fun m=>c m)) (ck (a+(1:Int)) fun n=>c n)) (ck (a+(1:Int)) fun o=>c o)) (i ())
def lQ (b:Val aa) (d:Int) (e:Int) (f:Int) (a:Int) (c:Int→Option ρ) (g:Int→Option ρ) (h:Unit→Option ρ):Option ρ :=
  ifb (ilt a (Ö b)) (ï b a fun i=>ifb (ieq i.1 d) (ï b a fun j=>Å (l9 j.2 e f) fun k=>ifb k (g (9:Int)) (ck (a+(1:Int)) fun l=>c l)) (ck (a+(1:Int)) fun m=>c m)) (h ())
def oT (g:Int) (h:Int) (i:Val ac) (e:Val aa) (c:Val af) (j:Val ab) (k:Val aa) (d:Int) (l:Int→Option ρ) (b:Int→Option ρ) (m:Unit→Option ρ):Option ρ :=
  ifb (ilt d (Ö c)) (ï c d fun a=>Å (jB a.2.1 (0:Int) (20000:Int)) fun n=>ifb (!n) (b (1:Int)) (Å (l9 a.2.2 (0:Int) (1048576:Int)) fun o=>ifb (!o) (b (1:Int)) (Å (nc ((g,h),i,e,c,j,k) a.1 a.2.1.1) fun f=>ifb (ine f 0) (b f) (Í (fun(p:Int) q=>oS d c a.1 a.2.1.1 a.2.1.2 p (fun r=>q r) (fun s=>b s) (fun _=>Í (fun(t:Int) u=>lQ e a.1 a.2.1.1 a.2.1.2 t (fun v=>u v) (fun w=>b w) (fun _=>ck (d+(1:Int)) fun x=>l x)) (0:Int))) (0:Int))))) (m ())
def Jk (a:Val Ã) (k:Int→Option ρ):Option ρ :=
  Í (fun(b:Int) c=>oT a.1.1 a.1.2 a.2.1 a.2.2.1 a.2.2.2.1 a.2.2.2.2.1 a.2.2.2.2.2 b (fun d=>c d) (fun e=>k e) (fun _=>k (0:Int))) (0:Int)
def Bb (a:Val Ã):Option (Int):=Jk a some
def rJ (b:Val ae) (a:Int) (c:Int→Option ρ) (d:Bool→Option ρ) (e:Unit→Option ρ):Option ρ :=
  ifb (ilt a (Ö b)) (ï b a fun f=>Å (l9 f (1:Int) (1099511627776:Int)) fun g=>ifb (!g) (d false) (ifb (igt a 0) (ï b a fun h=>ck (a-(1:Int)) fun i=>ï b i fun j=>ifb (ile h j) (d false) (ck (a+(1:Int)) fun k=>c k)) (ck (a+(1:Int)) fun l=>c l))) (e ())
def PV (a:Val ae) (k:Bool→Option ρ):Option ρ :=
  Í (fun(b:Int) c=>rJ a b (fun d=>c d) (fun e=>k e) (fun _=>k (ile (Ö a) 6))) (0:Int)
def Ai (a:Val ae):Option (Bool):=PV a some
def Jj (a:Val È) (k:Bool→Option ρ):Option ρ :=
  Å (Ai a.2.2.1) fun b=>Å (Ai a.2.2.2.1) fun c=>ifb b (ifb c (Å (l9 a.1 (1:Int) (1099511627776:Int)) fun d=>ifb d (Å (wO a.2.1) fun e=>ifb e (Å (l9 a.2.2.2.2.1 (-1125899906842624:Int) (1125899906842624:Int)) fun f=>ifb f (Å (l9 a.2.2.2.2.2.1 (0:Int) (1073741824:Int)) fun g=>ifb g (Å (jB a.2.2.2.2.2.2 (-10000:Int) (10000:Int)) fun h=>k h) (k false)) (k false)) (k false)) (k false)) (k false)) (k false)
def Ba (a:Val È):Option (Bool):=Jj a some
def rL (j:Int) (h:Int) (i:Val af) (b:Int) (c:Int) (d:Int) (e:Int) (f:Int) (g:Int→Int→Int→Int→Int→Option ρ) (k:(Val (.pair .bool bf))→Option ρ) (l:Val bf→Option ρ):Option ρ :=
  ifb (ilt b (Ö i)) (ï i b fun a=>ifb (ieq a.1 j) (ifb (ile a.2.1.1 h) (ifb (ile h a.2.1.2) (k (true,a.1,a.2.1.1,a.2.1.2,a.2.2)) (ck (b+(1:Int)) fun m=>g m c d e f)) (ck (b+(1:Int)) fun n=>g n c d e f)) (ck (b+(1:Int)) fun o=>g o c d e f)) (l (c,d,e,f))
def P4 (c:Val Ã) (d:Int) (e:Int) (k:Val bj→Option ρ):Option ρ :=
  Í (fun(a:(Val (.pair tI bf))) f=>rL d e c.2.2.2.1 a.1 a.2.1 a.2.2.1 a.2.2.2.1 a.2.2.2.2 (fun g h i j l=>f (g,h,i,j,l)) (fun b=>k ((b.2.1,(b.2.2.1,b.2.2.2.1),b.2.2.2.2),b.1)) (fun m=>k (((0:Int),((0:Int),(0:Int)),(0:Int)),false))) ((0:Int),(0:Int),(0:Int),(0:Int),(0:Int))
def Aj (a:Val Ã) (b:Int) (c:Int):Option ((Val bj)):=P4 a b c some
def vG (b:Val ae) (c:Int) (a:Int) (d:Int→Option ρ) (e:Bool→Option ρ) (f:Unit→Option ρ):Option ρ :=
  ifb (ilt a (Ö b)) (ï b a fun g=>ifb (ieq g c) (e true) (ck (a+(1:Int)) fun h=>d h)) (f ())
def Zc (a:Val ae) (b:Int) (k:Bool→Option ρ):Option ρ :=
  Í (fun(c:Int) d=>vG a b c (fun e=>d e) (fun f=>k f) (fun _=>k false)) (0:Int)
def Oc (a:Val ae) (b:Int):Option (Bool):=Zc a b some
def rM (c:Val ae) (f:Val ae) (a:Int) (b:Val ae) (d:Int→Val ae→Option ρ) (g:Val ae→Option ρ):Option ρ :=
  ifb (ilt a (Ö c)) (ï c a fun h=>Å (Oc f h) fun i=>ifb (!i) (ï c a fun e=>è (ã ((List.length b)+(List.length ([e])))) (ck (a+(1:Int)) fun j=>d j (b++([e])))) (ck (a+(1:Int)) fun k=>d k b)) (g b)
def P6 (b:Val ae) (c:Val ae) (k:Val ae→Option ρ):Option ρ :=
  Í (fun(a:Val aw) d=>rM b c a.1 a.2 (fun e f=>d (e,f)) (fun g=>k g)) ((0:Int),[])
def km (a:Val ae) (b:Val ae):Option ((Val ae)):=P6 a b some
def kB (c:Int) (d:Int) (e:Val ac) (f:Val aa) (g:Val af) (h:Val ab) (i:Val aa) (b:Val ae) (a:Int) (j:Int→Option ρ) (k:Int→Option ρ) (l:Unit→Option ρ):Option ρ :=
  ifb (ilt a (Ö b)) (è ((ile 0 a)&&(ilt a (ā b))) (Ĩ b (Int.toNat a) fun m=>Å (qD ((c,d),e,f,g,h,i) m) fun n=>ifb (ilt n 0) (k (5:Int)) (ck (a+(1:Int)) fun o=>j o))) (l ())
def iZ (c:Int) (d:Int) (e:Val ac) (f:Val aa) (g:Val af) (h:Val ab) (i:Val aa) (j:Int) (b:Val ae) (a:Int) (k:Int→Option ρ) (l:Int→Option ρ) (m:Unit→Option ρ):Option ρ :=
  ifb (ilt a (Ö b)) (è ((ile 0 a)&&(ilt a (ā b))) (Ĩ b (Int.toNat a) fun n=>Å (nc ((c,d),e,f,g,h,i) n j) fun o=>ifb (ine o 0) (l (4:Int)) (ck (a+(1:Int)) fun p=>k p))) (m ())
def ž (c:Int) (d:Int) (e:Val ac) (f:Val aa) (g:Val af) (h:Val ab) (i:Val aa) (j:Int) (b:Val ae) (a:Int) (k:Int→Option ρ) (l:Int→Option ρ) (m:Unit→Option ρ):Option ρ :=
  ifb (ilt a (Ö b)) (è ((ile 0 a)&&(ilt a (ā b))) (Ĩ b (Int.toNat a) fun n=>Å (Aj ((c,d),e,f,g,h,i) n j) fun o=>ifb o.2 (l (9:Int)) (ck (a+(1:Int)) fun p=>k p))) (m ())
def vB (a:Val Ã) (b:Val È) (k:Int→Option ρ):Option ρ :=
  è (ã (0+(List.length b.2.2.1))) (è (ã ((List.length (([])++b.2.2.1))+(List.length b.2.2.2.1))) (Í (fun(e:Int) f=>kB a.1.1 a.1.2 a.2.1 a.2.2.1 a.2.2.2.1 a.2.2.2.2.1 a.2.2.2.2.2 ((([])++b.2.2.1)++b.2.2.2.1) e (fun g=>f g) (fun h=>k h) (fun _=>Í (fun(i:Int) j=>iZ a.1.1 a.1.2 a.2.1 a.2.2.1 a.2.2.2.1 a.2.2.2.2.1 a.2.2.2.2.2 b.2.1 ((([])++b.2.2.1)++b.2.2.2.1) i (fun l=>j l) (fun m=>k m) (fun _=>Í (fun(n:Int) o=>ž a.1.1 a.1.2 a.2.1 a.2.2.1 a.2.2.2.1 a.2.2.2.2.1 a.2.2.2.2.2 b.2.1 ((([])++b.2.2.1)++b.2.2.2.1) n (fun p=>o p) (fun q=>k q) (fun _=>Å (km b.2.2.1 b.2.2.2.1) fun c=>Å (km b.2.2.2.1 b.2.2.1) fun d=>ifb (igt (Ö c) 1) (k (1:Int)) (ifb (igt (Ö d) 1) (k (1:Int)) (ck ((Ö c)+(Ö d)) fun r=>ifb (ieq r 0) (k (1:Int)) (k (0:Int)))))) (0:Int))) (0:Int))) (0:Int)))
def jU (a:Val Ã) (b:Val È):Option (Int):=vB a b some
def YJ (b:Val ae) (c:Val ae) (k:Int→Option ρ):Option ρ :=
  Å (km b c) fun a=>ifb (ieq (Ö a) 0) (k (0:Int)) (ï a (0:Int) fun d=>k d)
def pj (a:Val ae) (b:Val ae):Option (Int):=YJ a b some
def rA (g:Int) (c:Val ab) (d:Int) (b:Int) (e:Int→Option ρ) (f:Bool→Option ρ) (h:Unit→Option ρ):Option ρ :=
  ifb (ilt b (Ö c)) (ï c b fun a=>ifb (ieq a.2.1 g) (Å (pj a.2.2.1 a.2.2.2.1) fun i=>ifb (ieq i d) (f true) (Å (pj a.2.2.2.1 a.2.2.1) fun j=>ifb (ieq j d) (f true) (ck (b+(1:Int)) fun k=>e k))) (ck (b+(1:Int)) fun l=>e l)) (h ())
def nM (d:Int) (b:Val aa) (e:Int) (a:Int) (c:Int→Option ρ) (f:Bool→Option ρ) (g:Unit→Option ρ):Option ρ :=
  ifb (ilt a (Ö b)) (ï b a fun h=>ifb (ieq h.1 e) (ï b a fun i=>ifb (ieq i.2 d) (f true) (ck (a+(1:Int)) fun j=>c j)) (ck (a+(1:Int)) fun k=>c k)) (g ())
def PI (c:Val Ã) (a:Val Ï) (b:Int) (k:Bool→Option ρ):Option ρ :=
  ifb (ieq a.2.1 b) (k true) (Í (fun(d:Int) e=>rA b c.2.2.2.2.1 a.1 d (fun f=>e f) (fun g=>k g) (fun _=>Í (fun(h:Int) i=>nM b c.2.2.2.2.2 a.1 h (fun j=>i j) (fun l=>k l) (fun _=>k false)) (0:Int))) (0:Int))
def HV (a:Val Ã) (b:Val Ï) (c:Int):Option (Bool):=PI a b c some
def oX (c:Val ac) (a:Int) (b:Val ae) (e:Int→Val ae→Option ρ) (f:Val ae→Option ρ):Option ρ :=
  ifb (ilt a (Ö c)) (ï c a fun d=>è (ã ((List.length b)+(List.length ([d.2.1])))) (ck (a+(1:Int)) fun g=>e g (b++([d.2.1])))) (f b)
def oW (c:Val ab) (a:Int) (b:Val ae) (e:Int→Val ae→Option ρ) (f:Val ae→Option ρ):Option ρ :=
  ifb (ilt a (Ö c)) (ï c a fun d=>è (ã ((List.length b)+(List.length ([d.2.1])))) (ck (a+(1:Int)) fun g=>e g (b++([d.2.1])))) (f b)
def oV (c:Val aa) (a:Int) (b:Val ae) (e:Int→Val ae→Option ρ) (f:Val ae→Option ρ):Option ρ :=
  ifb (ilt a (Ö c)) (ï c a fun d=>è (ã ((List.length b)+(List.length ([d.2])))) (ck (a+(1:Int)) fun g=>e g (b++([d.2])))) (f b)
def lR (e:Int) (b:Val ae) (c:Int) (a:Int) (d:Int→Int→Option ρ) (f:Int→Option ρ):Option ρ :=
  ifb (ilt a (Ö b)) (è ((ile 0 a)&&(ilt a (ā b))) (Ĩ b (Int.toNat a) fun g=>ifb (igt g e) (è ((ile 0 a)&&(ilt a (ā b))) (Ĩ b (Int.toNat a) fun h=>ck (a+(1:Int)) fun i=>d (Xh c h) i)) (ck (a+(1:Int)) fun j=>d c j))) (f c)
def lS (e:Int) (i:Int) (j:Int) (c:Val ac) (k:Val aa) (l:Val af) (m:Val ab) (n:Val aa) (o:Val ae) (f:Int) (b:Val aa) (d:Int→Val aa→Option ρ) (p:Val aa→Option ρ):Option ρ :=
  ifb (ilt f 20001) (Í (fun(g:Val Â) q=>lR f o g.1 g.2 (fun r s=>q (r,s)) (fun a=>ifb (ilt a 20001) (ï c e fun t=>Å (HV ((i,j),c,k,l,m,n) t a) fun u=>ifb u (ï c e fun h=>è (ã ((List.length b)+(List.length ([(h.1,a)])))) (d a (b++([(h.1,a)])))) (d a b)) (d a b))) ((20001:Int),(0:Int))) (p b)
def oU (e:Int) (f:Int) (b:Val ac) (g:Val aa) (h:Val af) (i:Val ab) (j:Val aa) (k:Val ae) (a:Int) (c:Val aa) (l:Int→Val aa→Option ρ) (m:Val aa→Option ρ):Option ρ :=
  ifb (ilt a (Ö b)) (Í (fun(d:Val aI) n=>lS a e f b g h i j k d.1 d.2 (fun o p=>n (o,p)) (fun q=>ck (a+(1:Int)) fun r=>l r q)) ((-1:Int),c)) (m c)
def Jt (a:Val Ã) (k:Val aa→Option ρ):Option ρ :=
  Í (fun(b:Val aw) f=>oX a.2.1 b.1 b.2 (fun g h=>f (g,h)) (fun i=>Í (fun(c:Val aw) j=>oW a.2.2.2.2.1 c.1 c.2 (fun l m=>j (l,m)) (fun n=>Í (fun(d:Val aw) o=>oV a.2.2.2.2.2 d.1 d.2 (fun p q=>o (p,q)) (fun r=>Í (fun(e:Val aI) s=>oU a.1.1 a.1.2 a.2.1 a.2.2.1 a.2.2.2.1 a.2.2.2.2.1 a.2.2.2.2.2 r e.1 e.2 (fun t u=>s (t,u)) (fun v=>k v)) ((0:Int),[]))) ((0:Int),n))) ((0:Int),i))) ((0:Int),[])
def jW (a:Val Ã):Option ((Val aa)):=Jt a some
def oY (b:Val aa) (d:Int) (e:Int) (a:Int) (f:Int→Option ρ) (g:Int→Option ρ) (h:Unit→Option ρ):Option ρ :=
  ifb (ilt a (Ö b)) (ï b a fun c=>ifb ((õ c.1 d)&&((õ c.2 e)&&true)) (ck (a+(1:Int)) fun i=>g i) (ck (a+(1:Int)) fun j=>f j)) (h ())
def Ju (b:Val Ã) (a:Val Â) (k:Int→Option ρ):Option ρ :=
  Å (jW b) fun c=>Í (fun(d:Int) e=>oY c a.1 a.2 d (fun f=>e f) (fun g=>k g) (fun _=>k (0:Int))) (0:Int)
def Ε (a:Val Ã) (b:Val Â):Option (Int):=Ju a b some
def rB (d:Int) (e:Int) (b:Val aa) (a:Int) (c:Int→Option ρ) (f:Bool→Option ρ) (g:Unit→Option ρ):Option ρ :=
  ifb (ilt a (Ö b)) (ï b a fun h=>ifb (ieq h.1 d) (ï b a fun i=>ifb (ieq i.2 e) (f true) (ck (a+(1:Int)) fun j=>c j)) (ck (a+(1:Int)) fun k=>c k)) (g ())
def PK (a:Val Ã) (b:Int) (c:Int) (k:Bool→Option ρ):Option ρ :=
  Í (fun(d:Int) e=>rB b c a.2.2.1 d (fun f=>e f) (fun g=>k g) (fun _=>k false)) (0:Int)
def HW (a:Val Ã) (b:Int) (c:Int):Option (Bool):=PK a b c some
def rK (d:Int) (m:Int) (n:Int) (e:Int) (f:Int) (g:Val ac) (h:Val aa) (i:Val af) (j:Val ab) (k:Val aa) (b:Int) (a:Int) (c:Int→Int→Option ρ) (o:Int→Option ρ):Option ρ :=
  ifb (ilt a m) (Å (Aj ((e,f),g,h,i,j,k) d a) fun l=>ifb l.2 (ck (b+l.1.2.2) fun p=>ck (a+(1:Int)) fun q=>c p q) (Å (HW ((e,f),g,h,i,j,k) d a) fun r=>ifb r (ck (b+n) fun s=>ck (a+(1:Int)) fun t=>c s t) (ck (a+(1:Int)) fun u=>c b u))) (o b)
def P0 (a:Val Ã) (b:Int) (d:Int) (e:Int) (k:Int→Option ρ):Option ρ :=
  Å (qD a b) fun f=>ï a.2.1 f fun g=>Í (fun(c:Val Â) h=>rK b e g.2.2.2.2.2 a.1.1 a.1.2 a.2.1 a.2.2.1 a.2.2.2.1 a.2.2.2.2.1 a.2.2.2.2.2 c.1 c.2 (fun i j=>h (i,j)) (fun l=>k l)) ((0:Int),d)
def uP (a:Val Ã) (b:Int) (c:Int) (d:Int):Option (Int):=P0 a b c d some
def D3 (b:Int) (a:Int) (k:Val ķ→Option ρ):Option ρ :=
  ifb (ine b 0) (ifb (õ a 0) (none) (Å (H4 (Int.tmod b a)) fun h=>Å (Bh h a) fun c=>ifb (õ c 0) (none) (ck (Int.tdiv b c) fun d=>ifb (õ c 0) (none) (ck (Int.tdiv a c) fun f=>ifb (igt f 2147483647) (k (((0:Int),(0:Int)),(3:Int))) (ifb (ilt d (-2147483647:Int)) (k (((0:Int),(0:Int)),(3:Int))) (ifb (igt d 2147483647) (k (((0:Int),(0:Int)),(3:Int))) (k ((d,f),(0:Int))))))))) (ifb (õ a 0) (none) (ck (Int.tdiv b a) fun e=>ifb (õ a 0) (none) (ck (Int.tdiv a a) fun g=>ifb (igt g 2147483647) (k (((0:Int),(0:Int)),(3:Int))) (ifb (ilt e (-2147483647:Int)) (k (((0:Int),(0:Int)),(3:Int))) (ifb (igt e 2147483647) (k (((0:Int),(0:Int)),(3:Int))) (k ((e,g),(0:Int))))))))
def qE (a:Int) (b:Int):Option (Val ķ):=D3 a b some
def ZC (a:Val Â) (b:Val Â) (k:Val ķ→Option ρ):Option ρ :=
  ck (a.1*b.2) fun c=>ck (b.1*a.2) fun d=>ck (c+d) fun e=>ck (a.2*b.2) fun f=>Å (qE e f) fun g=>k g
def abe (a:Val Â) (b:Val Â):Option (Val ķ):=ZC a b some
def Zv (a:Val Â) (k:Val Â→Option ρ):Option ρ :=
  ck ((0:Int)-a.1) fun b=>k (b,a.2)
def abd (a:Val Â):Option (Val Â):=Zv a some
def Zt (a:Val Â) (b:Val Â) (k:Val ķ→Option ρ):Option ρ :=
  Å (abd b) fun c=>Å (abe a c) fun d=>k d
def Oe (a:Val Â) (b:Val Â):Option (Val ķ):=Zt a b some
def Jl (a:Val Ã) (b:Int) (k:Val Â→Option ρ):Option ρ :=
  ifb (ieq b 0) (k ((0:Int),(1:Int))) (Å (qD a b) fun c=>ï a.2.1 c fun d=>k d.2.2.2.2.1)
def uN (a:Val Ã) (b:Int):Option (Val Â):=Jl a b some
def QA (a:Val ķ) (b:Val ķ) (k:Val tG→Option ρ):Option ρ :=
  ifb (ine a.2 0) (k ((((0:Int),(0:Int)),(0:Int),(0:Int)),a.2)) (ifb (ine b.2 0) (k ((((0:Int),(0:Int)),(0:Int),(0:Int)),b.2)) (k ((a.1,b.1),(0:Int))))
def HY (a:Val ķ) (b:Val ķ):Option (Val tG):=QA a b some
def Zw (a:Val Â) (b:Val Â) (k:Val ķ→Option ρ):Option ρ :=
  ck (a.1*b.1) fun c=>ck (a.2*b.2) fun d=>Å (qE c d) fun e=>k e
def wQ (a:Val Â) (b:Val Â):Option (Val ķ):=Zw a b some
def JN (b:Val å) (a:Val Â) (k:Val tG→Option ρ):Option ρ :=
  ifb (ilt a.1 0) (Å (wQ b.2 a) fun c=>Å (wQ b.1 a) fun d=>Å (HY c d) fun e=>k e) (Å (wQ b.1 a) fun f=>Å (wQ b.2 a) fun g=>Å (HY f g) fun h=>k h)
def Bg (a:Val å) (b:Val Â):Option (Val tG):=JN a b some
def DY (b:Val Ã) (a:Val È) (k:Val å→Option ρ):Option ρ :=
  Å (pj a.2.2.1 a.2.2.2.1) fun c=>Å (uN b c) fun d=>Å (pj a.2.2.2.1 a.2.2.1) fun e=>Å (uN b e) fun f=>Å (Oe d f) fun g=>Å (Bg ((a.2.2.2.2.2.2.1,(1:Int)),a.2.2.2.2.2.2.2,(1:Int)) g.1) fun h=>k h.1
def wN (a:Val Ã) (b:Val È):Option (Val å):=DY a b some
def Jw (a:Val Ã) (b:Val È) (k:Val Â→Option ρ):Option ρ :=
  ck ((Ö b.2.2.1)-(1:Int)) fun c=>ck ((Ö b.2.2.2.1)-(1:Int)) fun d=>ck ((TC (0:Int) c)*a.1.1) fun e=>ck ((TC (0:Int) d)*a.1.2) fun f=>ck (e-f) fun g=>ck ((TC (0:Int) c)*a.1.2) fun h=>ck ((TC (0:Int) d)*a.1.1) fun i=>ck (h-i) fun j=>k (g,j)
def Be (a:Val Ã) (b:Val È):Option (Val Â):=Jw a b some
def Qy (b:Int) (a:Int) (k:Int→Option ρ):Option ρ :=
  ifb (õ a 0) (none) (ck (Int.tdiv b a) fun c=>ifb (õ a 0) (none) (ifb (ilt (Int.tmod b a) 0) (ck (c-1) fun d=>k d) (k c)))
def SC (a:Int) (b:Int):Option (Int):=Qy a b some
def JP (a:Val Â) (k:Int→Option ρ):Option ρ :=
  Å (SC a.1 a.2) fun b=>k b
def Bi (a:Val Â):Option (Int):=JP a some
def agR (b:Int) (a:Int) (k:Int→Option ρ):Option ρ :=
  ifb (õ a 0) (none) (ck (Int.tdiv b a) fun c=>ifb (õ a 0) (none) (ifb (igt (Int.tmod b a) 0) (ck (c+1) fun d=>k d) (k c)))
def ahH (a:Int) (b:Int):Option (Int):=agR a b some
def QC (a:Val Â) (k:Int→Option ρ):Option ρ :=
  Å (ahH a.1 a.2) fun b=>k b
def HZ (a:Val Â):Option (Int):=QC a some
def PO (b:Val Ã) (a:Val È) (k:Val Â→Option ρ):Option ρ :=
  Å (wN b a) fun c=>Å (Be b a) fun d=>ck (a.2.2.2.2.1-a.2.2.2.2.2.1) fun e=>ck (e-d.2) fun f=>Å (Bi c.2) fun g=>ck (f-g) fun h=>ck (a.2.2.2.2.1+a.2.2.2.2.2.1) fun i=>ck (i-d.1) fun j=>Å (HZ c.1) fun l=>ck (j-l) fun m=>k (h,m)
def uO (a:Val Ã) (b:Val È):Option (Val Â):=PO a b some
def pZ (e:Val aa) (b:Int) (p:Int) (q:Int) (r:Val ac) (s:Val aa) (t:Val af) (u:Val ab) (v:Val aa) (g:Int) (w:Int) (h:Int) (x:Int) (y:Int) (a:Int) (c:Val ah) (d:Val aa) (f:Int→Val ah→Val aa→Option ρ) (z:Val w9→Option ρ):Option ρ :=
  ifb (ilt a (Ö e)) (ï e a fun A=>ifb (ine A.1 g) (ck (a+(1:Int)) fun B=>f B c d) (ï e a fun C=>ifb (ieq C.2 w) (ck (a+(1:Int)) fun i=>ck (h+y) fun j=>ck (a+(1:Int)) fun k=>ck ((0:Int)-h) fun D=>ck (D-x) fun l=>è (ã ((List.length c)+(List.length ([((0:Int),i,j),(k,(0:Int),l)])))) (è (ã ((List.length d)+(List.length ([((1:Int),b),((1:Int),b)])))) (ck (a+(1:Int)) fun E=>f E (c++([((0:Int),i,j),(k,(0:Int),l)])) (d++([((1:Int),b),((1:Int),b)]))))) (ck (a-(1:Int)) fun F=>ï e F fun G=>ï e a fun H=>Å (uP ((p,q),r,s,t,u,v) g G.2 H.2) fun m=>ck (a+(1:Int)) fun n=>ck (a+(1:Int)) fun o=>è (ã ((List.length c)+(List.length ([(a,n,(0:Int)),(o,a,m)])))) (è (ã ((List.length d)+(List.length ([((2:Int),b),((2:Int),b)])))) (ck (a+(1:Int)) fun I=>f I (c++([(a,n,(0:Int)),(o,a,m)])) (d++([((2:Int),b),((2:Int),b)]))))))) (z (c,d))
def vE (h:Val aa) (i:Int) (j:Int) (c:Val ac) (k:Val aa) (l:Val af) (m:Val ab) (n:Val aa) (b:Int) (e:Val ah) (f:Val aa) (o:Int→Val ah→Val aa→Option ρ) (p:Val w9→Option ρ):Option ρ :=
  ifb (ilt b (Ö c)) (ï c b fun a=>Í (fun(d:Val aT) q=>pZ h b i j c k l m n a.1 a.2.1 a.2.2.1 a.2.2.2.1.1 a.2.2.2.1.2 d.1 d.2.1 d.2.2 (fun r s t=>q (r,s,t)) (fun g=>ck (b+(1:Int)) fun u=>o u g.1 g.2)) ((0:Int),e,f)) (p (e,f))
def vD (f:Int) (g:Int) (h:Val ac) (i:Val aa) (j:Val af) (c:Val ab) (k:Val aa) (a:Int) (l:Val ah) (m:Val aa) (p:Int→Val ah→Val aa→Option ρ) (q:Val w9→Option ρ):Option ρ :=
  ifb (ilt a (Ö c)) (ï c a fun b=>Å (pj b.2.2.1 b.2.2.2.1) fun r=>Å (Ε ((f,g),h,i,j,c,k) (r,b.2.1)) fun d=>Å (pj b.2.2.2.1 b.2.2.1) fun s=>Å (Ε ((f,g),h,i,j,c,k) (s,b.2.1)) fun e=>Å (uO ((f,g),h,i,j,c,k) b) fun n=>ck ((0:Int)-n.1) fun o=>è (ã ((List.length l)+(List.length ([(e,d,n.2),(d,e,o)])))) (è (ã ((List.length m)+(List.length ([((3:Int),a),((3:Int),a)])))) (ck (a+(1:Int)) fun t=>p t (l++([(e,d,n.2),(d,e,o)])) (m++([((3:Int),a),((3:Int),a)]))))) (q (l,m))
def YT (a:Val Ã) (k:Val w9→Option ρ):Option ρ :=
  Å (jW a) fun e=>Í (fun(b:Val aT) f=>vE e a.1.1 a.1.2 a.2.1 a.2.2.1 a.2.2.2.1 a.2.2.2.2.1 a.2.2.2.2.2 b.1 b.2.1 b.2.2 (fun g h i=>f (g,h,i)) (fun d=>Í (fun(c:Val aT) j=>vD a.1.1 a.1.2 a.2.1 a.2.2.1 a.2.2.2.1 a.2.2.2.2.1 a.2.2.2.2.2 c.1 c.2.1 c.2.2 (fun l m n=>j (l,m,n)) (fun o=>k o)) ((0:Int),d.1,d.2))) ((0:Int),[],[])
def wM (a:Val Ã):Option (Val w9):=YT a some
def o8 (b:Val ac) (a:Int) (c:Int→Option ρ) (d:Int→Option ρ) (e:Unit→Option ρ):Option ρ :=
  ifb (ilt a (Ö b)) (ï b a fun f=>Å (Bc f) fun g=>ifb (!g) (d (1:Int)) (ifb (igt a 0) (ï b a fun h=>ck (a-(1:Int)) fun i=>ï b i fun j=>ifb (ile h.1 j.1) (d (6:Int)) (ck (a+(1:Int)) fun k=>c k)) (ck (a+(1:Int)) fun l=>c l))) (e ())
def oZ (b:Int) (c:Val ab) (a:Int) (d:Int→Option ρ) (e:Int→Option ρ) (f:Unit→Option ρ):Option ρ :=
  ifb (ilt a b) (ï c a fun g=>ï c b fun h=>ifb (ieq g.1 h.1) (e (6:Int)) (ck (a+(1:Int)) fun i=>d i)) (f ())
def jL (e:Int) (f:Int) (g:Val ac) (h:Val aa) (i:Val af) (a:Val ab) (j:Val aa) (b:Int) (k:Int→Option ρ) (c:Int→Option ρ) (l:Unit→Option ρ):Option ρ :=
  ifb (ilt b (Ö a)) (ï a b fun m=>Å (Ba m) fun n=>ifb (!n) (c (1:Int)) (Í (fun(o:Int) p=>oZ b a o (fun q=>p q) (fun r=>c r) (fun _=>ï a b fun s=>Å (jU ((e,f),g,h,i,a,j) s) fun d=>ifb (ine d 0) (c d) (ck (b+(1:Int)) fun t=>k t))) (0:Int))) (l ())
def jK (e:Int) (f:Int) (g:Val ac) (h:Val aa) (i:Val af) (j:Val ab) (a:Val aa) (b:Int) (k:Int→Option ρ) (c:Int→Option ρ) (l:Unit→Option ρ):Option ρ :=
  ifb (ilt b (Ö a)) (ï a b fun m=>Å (wO m.2) fun n=>ifb (!n) (c (1:Int)) (ï a b fun o=>ï a b fun p=>Å (nc ((e,f),g,h,i,j,a) o.1 p.2) fun d=>ifb (ine d 0) (c d) (ck (b+(1:Int)) fun q=>k q))) (l ())
def Jy (a:Val Ã) (k:Int→Option ρ):Option ρ :=
  Å (jB a.1 (0:Int) (1000000:Int)) fun d=>ifb (!d) (k (1:Int)) (ifb (igt (Ö a.2.1) 12) (k (2:Int)) (ifb (igt (Ö a.2.2.1) 40) (k (2:Int)) (ifb (igt (Ö a.2.2.2.1) 12) (k (2:Int)) (ifb (igt (Ö a.2.2.2.2.1) 40) (k (2:Int)) (ifb (igt (Ö a.2.2.2.2.2) 10) (k (2:Int)) (Í (fun(e:Int) f=>o8 a.2.1 e (fun g=>f g) (fun h=>k h) (fun _=>Å (HU a) fun b=>ifb (ieq b 0) (Å (Bb a) fun c=>ifb (ine c 0) (k c) (Í (fun(i:Int) j=>jL a.1.1 a.1.2 a.2.1 a.2.2.1 a.2.2.2.1 a.2.2.2.2.1 a.2.2.2.2.2 i (fun l=>j l) (fun m=>k m) (fun _=>Í (fun(n:Int) o=>jK a.1.1 a.1.2 a.2.1 a.2.2.1 a.2.2.2.1 a.2.2.2.2.1 a.2.2.2.2.2 n (fun p=>o p) (fun q=>k q) (fun _=>Å (jW a) fun r=>ifb (igt (Ö r) 59) (k (2:Int)) (Å (wM a) fun s=>ifb (igt (Ö s.1) 300) (k (2:Int)) (k (0:Int))))) (0:Int))) (0:Int))) (ifb (ine b 0) (k b) (Í (fun(t:Int) u=>jL a.1.1 a.1.2 a.2.1 a.2.2.1 a.2.2.2.1 a.2.2.2.2.1 a.2.2.2.2.2 t (fun v=>u v) (fun w=>k w) (fun _=>Í (fun(x:Int) y=>jK a.1.1 a.1.2 a.2.1 a.2.2.1 a.2.2.2.1 a.2.2.2.2.1 a.2.2.2.2.2 x (fun z=>y z) (fun A=>k A) (fun _=>Å (jW a) fun B=>ifb (igt (Ö B) 59) (k (2:Int)) (Å (wM a) fun C=>ifb (igt (Ö C.1) 300) (k (2:Int)) (k (0:Int))))) (0:Int))) (0:Int))))) (0:Int)))))))
def jX (a:Val Ã):Option (Int):=Jy a some
def DP (a:Val Ã) (k:Val É→Option ρ):Option ρ :=
  Å (jW a) fun b=>ck ((Ö b)+(1:Int)) fun c=>Å (wM a) fun d=>k (c,d.1)
def la (a:Val Ã):Option (Val É):=DP a some
def lX (b:Val ae) (d:Val ah) (a:Int) (e:Int→Option ρ) (c:Bool→Option ρ) (f:Unit→Option ρ):Option ρ :=
  ifb (ilt a (Ö b)) (ï b a fun g=>ifb (ilt g 0) (c false) (ï b a fun h=>ifb (ige h (Ö d)) (c false) (ck (a+(1:Int)) fun i=>e i))) (f ())
def ze (a:Val É) (b:Val ae) (k:Bool→Option ρ):Option ρ :=
  Í (fun(c:Int) d=>lX b a.2 c (fun e=>d e) (fun f=>k f) (fun _=>k true)) (0:Int)
def su (a:Val É) (b:Val ae):Option (Bool):=ze a b some
def vI (b:Val ae) (c:Val ah) (e:Int) (f:Int) (a:Int) (g:Int→Int→Int→Option ρ) (d:Val aR→Option ρ) (h:Val Â→Option ρ):Option ρ :=
  ifb (ilt a (Ö b)) (ï b a fun i=>ifb (ilt i 0) (d ((0:Int),(0:Int),false)) (ï b a fun j=>ifb (ige j (Ö c)) (d ((0:Int),(0:Int),false)) (ï b a fun k=>ï c k fun l=>ifb (ine l.1 e) (d ((0:Int),(0:Int),false)) (ï b a fun m=>ï c m fun n=>ck (f+n.2.2) fun o=>ï b a fun p=>ï c p fun q=>ck (a+(1:Int)) fun r=>g q.2.1 o r)))) (h (e,f))
def Zm (d:Val É) (e:Int) (f:Val ae) (k:Val aR→Option ρ):Option ρ :=
  Í (fun(a:Val Ĉ) g=>vI f d.2 a.1 a.2.1 a.2.2 (fun h i j=>g (h,i,j)) (fun b=>k (b.1,b.2.1,b.2.2)) (fun c=>k (c.2,c.1,true))) (e,(0:Int),(0:Int))
def Od (a:Val É) (b:Int) (c:Val ae):Option ((Val aR)):=Zm a b c some
def D2 (b:Val É) (a:Val ae) (k:Bool→Option ρ):Option ρ :=
  ifb (ieq (Ö a) 0) (k false) (Å (su b a) fun e=>ifb (!e) (k false) (ï a (0:Int) fun f=>ï b.2 f fun d=>Å (Od b d.1 a) fun c=>ifb c.2.2 (ifb (ieq c.2.1 d.1) (k (ilt c.1 0)) (k false)) (k false)))
def EF (a:Val É) (b:Val ae):Option (Bool):=D2 a b some
def pY (a:Val ü) (k:Int→Option ρ):Option ρ :=
  Å (jX a.1) fun b=>ifb (ine b 0) (k b) (ifb (!((õ a.2.1.1 (0:Int))&&((õ a.2.1.2 (0:Int))&&true))) (k (1:Int)) (ifb a.2.2.1 (k (1:Int)) (ifb (ine a.2.2.2.1 0) (k (1:Int)) (ifb (igt (Ö a.2.2.2.2) 80) (k (8:Int)) (Å (la a.1) fun c=>Å (EF c a.2.2.2.2) fun d=>ifb (!d) (k (8:Int)) (k (0:Int)))))))
def ir (a:Val ü):Option (Int):=pY a some
def kD (b:Val ae) (c:Val ae) (a:Int) (d:Int→Option ρ) (e:Bool→Option ρ) (f:Unit→Option ρ):Option ρ :=
  ifb (ilt a (Ö b)) (ï b a fun g=>ï c a fun h=>ifb (ine g h) (e false) (ck (a+(1:Int)) fun i=>d i)) (f ())
def vF (a:Val ae) (b:Val ae) (k:Bool→Option ρ):Option ρ :=
  ifb (ine (Ö a) (Ö b)) (k false) (Í (fun(c:Int) d=>kD a b c (fun e=>d e) (fun f=>k f) (fun _=>k true)) (0:Int))
def jV (a:Val ae) (b:Val ae):Option (Bool):=vF a b some
def oy (a:Val È) (b:Val È) (k:Bool→Option ρ):Option ρ :=
  Å (jV a.2.2.1 b.2.2.1) fun c=>Å (jV a.2.2.2.1 b.2.2.2.1) fun d=>ifb c (ifb d (ifb (ieq a.1 b.1) (ifb (ieq a.2.1 b.2.1) (ifb (ieq a.2.2.2.2.1 b.2.2.2.2.1) (ifb (ieq a.2.2.2.2.2.1 b.2.2.2.2.2.1) (k ((õ a.2.2.2.2.2.2.1 b.2.2.2.2.2.2.1)&&((õ a.2.2.2.2.2.2.2 b.2.2.2.2.2.2.2)&&true))) (k false)) (k false)) (k false)) (k false)) (k false)) (k false)
def kI (a:Val È) (b:Val È):Option (Bool):=oy a b some
def jJ (b:Val aa) (e:Val aa) (a:Int) (f:Int→Option ρ) (g:Bool→Option ρ) (h:Unit→Option ρ):Option ρ :=
  ifb (ilt a (Ö b)) (ï b a fun c=>ï e a fun d=>ifb (!((õ c.1 d.1)&&((õ c.2 d.2)&&true))) (g false) (ck (a+(1:Int)) fun i=>f i)) (h ())
def sO (a:Val aa) (b:Val aa) (k:Bool→Option ρ):Option ρ :=
  ifb (ine (Ö a) (Ö b)) (k false) (Í (fun(c:Int) d=>jJ a b c (fun e=>d e) (fun f=>k f) (fun _=>k true)) (0:Int))
def kj (a:Val aa) (b:Val aa):Option (Bool):=sO a b some
def rG (d:Val ac) (e:Val ac) (c:Int) (f:Int→Option ρ) (g:Bool→Option ρ) (h:Unit→Option ρ):Option ρ :=
  ifb (ilt c (Ö d)) (ï d c fun a=>ï e c fun b=>ifb (!((õ a.1 b.1)&&((õ a.2.1 b.2.1)&&((õ a.2.2.1 b.2.2.1)&&((õ a.2.2.2.1.1 b.2.2.2.1.1)&&((õ a.2.2.2.1.2 b.2.2.2.1.2)&&((õ a.2.2.2.2.1.1 b.2.2.2.2.1.1)&&((õ a.2.2.2.2.1.2 b.2.2.2.2.1.2)&&((õ a.2.2.2.2.2 b.2.2.2.2.2)&&true))))))))) (g false) (ck (c+(1:Int)) fun i=>f i)) (h ())
def rE (b:Val aa) (e:Val aa) (a:Int) (f:Int→Option ρ) (g:Bool→Option ρ) (h:Unit→Option ρ):Option ρ :=
  ifb (ilt a (Ö b)) (ï b a fun c=>ï e a fun d=>ifb (!((õ c.1 d.1)&&((õ c.2 d.2)&&true))) (g false) (ck (a+(1:Int)) fun i=>f i)) (h ())
def rD (d:Val af) (e:Val af) (a:Int) (f:Int→Option ρ) (g:Bool→Option ρ) (h:Unit→Option ρ):Option ρ :=
  ifb (ilt a (Ö d)) (ï d a fun b=>ï e a fun c=>ifb (!((õ b.1 c.1)&&((õ b.2.1.1 c.2.1.1)&&((õ b.2.1.2 c.2.1.2)&&((õ b.2.2 c.2.2)&&true))))) (g false) (ck (a+(1:Int)) fun i=>f i)) (h ())
def rC (b:Val ab) (c:Val ab) (a:Int) (d:Int→Option ρ) (e:Bool→Option ρ) (f:Unit→Option ρ):Option ρ :=
  ifb (ilt a (Ö b)) (ï b a fun g=>ï c a fun h=>Å (kI g h) fun i=>ifb (!i) (e false) (ck (a+(1:Int)) fun j=>d j)) (f ())
def PT (a:Val Ã) (b:Val Ã) (k:Bool→Option ρ):Option ρ :=
  ifb (!((õ a.1.1 b.1.1)&&((õ a.1.2 b.1.2)&&true))) (k false) (ifb (ine (Ö a.2.1) (Ö b.2.1)) (k false) (ifb (ine (Ö a.2.2.1) (Ö b.2.2.1)) (k false) (ifb (ine (Ö a.2.2.2.1) (Ö b.2.2.2.1)) (k false) (ifb (ine (Ö a.2.2.2.2.1) (Ö b.2.2.2.2.1)) (k false) (Í (fun(c:Int) d=>rG a.2.1 b.2.1 c (fun e=>d e) (fun f=>k f) (fun _=>Í (fun(g:Int) h=>rE a.2.2.1 b.2.2.1 g (fun i=>h i) (fun j=>k j) (fun _=>Í (fun(l:Int) m=>rD a.2.2.2.1 b.2.2.2.1 l (fun n=>m n) (fun o=>k o) (fun _=>Í (fun(p:Int) q=>rC a.2.2.2.2.1 b.2.2.2.2.1 p (fun r=>q r) (fun s=>k s) (fun _=>Å (kj a.2.2.2.2.2 b.2.2.2.2.2) fun t=>k t)) (0:Int))) (0:Int))) (0:Int))) (0:Int))))))
def qC (a:Val Ã) (b:Val Ã):Option (Bool):=PT a b some
def kE (b:Val ae) (c:Val ae) (a:Int) (d:Int→Option ρ) (e:Bool→Option ρ) (f:Unit→Option ρ):Option ρ :=
  ifb (ilt a (Ö b)) (ï b a fun g=>ï c a fun h=>ifb (ine g h) (e false) (ck (a+(1:Int)) fun i=>d i)) (f ())
def vJ (a:Val ae) (b:Val ae) (k:Bool→Option ρ):Option ρ :=
  ifb (ine (Ö a) (Ö b)) (k false) (Í (fun(c:Int) d=>kE a b c (fun e=>d e) (fun f=>k f) (fun _=>k true)) (0:Int))
def Κ (a:Val ae) (b:Val ae):Option (Bool):=vJ a b some
def vA (a:Val ü) (b:Val ü) (k:Bool→Option ρ):Option ρ :=
  Å (qC a.1 b.1) fun c=>ifb c (ifb ((õ a.2.1.1 b.2.1.1)&&((õ a.2.1.2 b.2.1.2)&&true)) (ifb (a.2.2.1==b.2.2.1) (ifb (ieq a.2.2.2.1 b.2.2.2.1) (Å (Κ a.2.2.2.2 b.2.2.2.2) fun d=>k d) (k false)) (k false)) (k false)) (k false)
def jT (a:Val ü) (b:Val ü):Option (Bool):=vA a b some
def P2 (a:Val Ã) (b:Val Â) (k:Val aJ→Option ρ):Option ρ :=
  è (ã (0+(List.length a.2.2.2.2.2))) (è (ã ((List.length (([])++a.2.2.2.2.2))+(List.length ([b])))) (Å (jX (a.1,a.2.1,a.2.2.1,a.2.2.2.1,a.2.2.2.2.1,((([])++a.2.2.2.2.2)++([b])))) fun c=>ifb (ine c 0) (k ((((0:Int),(0:Int)),[],[],[],[],[]),c)) (k ((a.1,a.2.1,a.2.2.1,a.2.2.2.1,a.2.2.2.2.1,((([])++a.2.2.2.2.2)++([b]))),(0:Int)))))
def uQ (a:Val Ã) (b:Val Â):Option ((Val aJ)):=P2 a b some
def lW (d:Int) (e:Int) (a:Int) (b:Val ae) (c:Int→Val ae→Option ρ) (f:Val ae→Option ρ):Option ρ :=
  ifb (ilt a d) (è ((ile 0 a)&&(ilt a (ā b))) (Ĩ b (Int.toNat a) fun i=>ifb (ieq e a) (è ((ile 0 a)&&(ilt a (ā (List.set b (Int.toNat a) (1152921504606846976:Int))))) (Ĩ (List.set b (Int.toNat a) (1152921504606846976:Int)) (Int.toNat a) fun j=>ck (a+(1:Int)) fun g=>c g (List.set (List.set b (Int.toNat a) (1152921504606846976:Int)) (Int.toNat a) (0:Int)))) (ck (a+(1:Int)) fun h=>c h (List.set b (Int.toNat a) (1152921504606846976:Int))))) (f b)
def iK (a:Int) (b:Int) (c:Val ak) (f:Int→Val ak→Option ρ) (g:Val ak→Option ρ):Option ρ :=
  ifb (ilt b a) (è ((ile 0 a)&&(ã (Int.toNat a))) (Í (fun(d:Val aw) h=>lW a b d.1 d.2 (fun i j=>h (i,j)) (fun e=>è (ã ((List.length c)+(List.length ([e])))) (ck (b+(1:Int)) fun k=>f k (c++([e]))))) ((0:Int),(List.replicate (Int.toNat a) (0:Int))))) (g c)
def lV (d:Val ah) (c:Int) (b:Val ak) (f:Int→Val ak→Option ρ) (g:Val ak→Option ρ):Option ρ :=
  ifb (ilt c (Ö d)) (ï d c fun a=>è ((ile 0 a.1)&&(ilt a.1 (ā b))) (è ((ile 0 a.1)&&(ilt a.1 (ā b))) (Ĩ b (Int.toNat a.1) fun h=>è ((ile 0 a.2.1)&&(ilt a.2.1 (ā h))) (Ĩ b (Int.toNat a.1) fun i=>Ĩ i (Int.toNat a.2.1) fun j=>Ĩ b (Int.toNat a.1) fun k=>è ((ile 0 a.2.1)&&(ilt a.2.1 (ā k))) (Ĩ b (Int.toNat a.1) fun e=>Ĩ e (Int.toNat a.2.1) fun m=>ck (c+(1:Int)) fun l=>f l (List.set b (Int.toNat a.1) (List.set e (Int.toNat a.2.1) (Xh j a.2.2)))))))) (g b)
def lT (d:Int) (c:Int) (g:Int) (b:Int) (a:Val ak) (e:Int→Val ak→Option ρ) (h:Val ak→Option ρ):Option ρ :=
  ifb (ilt b g) (è ((ile 0 d)&&(ilt d (ā a))) (Ĩ a (Int.toNat d) fun i=>è ((ile 0 b)&&(ilt b (ā i))) (Ĩ a (Int.toNat d) fun j=>Ĩ j (Int.toNat b) fun k=>ifb (ine k 1152921504606846976) (è ((ile 0 c)&&(ilt c (ā a))) (è ((ile 0 c)&&(ilt c (ā a))) (Ĩ a (Int.toNat c) fun l=>è ((ile 0 b)&&(ilt b (ā l))) (Ĩ a (Int.toNat c) fun m=>Ĩ m (Int.toNat b) fun n=>è ((ile 0 c)&&(ilt c (ā a))) (Ĩ a (Int.toNat c) fun o=>è ((ile 0 d)&&(ilt d (ā o))) (Ĩ a (Int.toNat c) fun p=>Ĩ p (Int.toNat d) fun q=>è ((ile 0 d)&&(ilt d (ā a))) (Ĩ a (Int.toNat d) fun r=>è ((ile 0 b)&&(ilt b (ā r))) (Ĩ a (Int.toNat d) fun s=>Ĩ s (Int.toNat b) fun t=>ck (q+t) fun u=>Ĩ a (Int.toNat c) fun v=>è ((ile 0 b)&&(ilt b (ā v))) (Ĩ a (Int.toNat c) fun f=>Ĩ f (Int.toNat b) fun y=>ck (b+(1:Int)) fun w=>e w (List.set a (Int.toNat c) (List.set f (Int.toNat b) (Xh n u)))))))))))) (ck (b+(1:Int)) fun x=>e x a)))) (h a)
def lU (c:Int) (d:Int) (a:Int) (b:Val ak) (e:Int→Val ak→Option ρ) (g:Val ak→Option ρ):Option ρ :=
  ifb (ilt a d) (è ((ile 0 a)&&(ilt a (ā b))) (Ĩ b (Int.toNat a) fun h=>è ((ile 0 c)&&(ilt c (ā h))) (Ĩ b (Int.toNat a) fun i=>Ĩ i (Int.toNat c) fun j=>ifb (ieq j 1152921504606846976) (ck (a+(1:Int)) fun k=>e k b) (Í (fun(f:Val aM) l=>lT c a d f.1 f.2 (fun m n=>l (m,n)) (fun o=>ck (a+(1:Int)) fun p=>e p o)) ((0:Int),b))))) (g b)
def iJ (c:Int) (b:Val ak) (a:Int) (d:Int→Option ρ) (e:Bool→Option ρ) (f:Unit→Option ρ):Option ρ :=
  ifb (ilt a c) (è ((ile 0 a)&&(ilt a (ā b))) (Ĩ b (Int.toNat a) fun g=>è ((ile 0 a)&&(ilt a (ā g))) (Ĩ b (Int.toNat a) fun h=>Ĩ h (Int.toNat a) fun i=>ifb (ilt i 0) (e false) (ck (a+(1:Int)) fun j=>d j)))) (f ())
def jM (a:Int) (b:Int) (d:Val ak) (f:Int→Val ak→Option ρ) (g:(Val (.pair .bool ak))→Option ρ) (h:Val ak→Option ρ):Option ρ :=
  ifb (ilt b a) (Í (fun(e:Val aM) i=>lU b a e.1 e.2 (fun j k=>i (j,k)) (fun c=>Í (fun(l:Int) m=>iJ a c l (fun n=>m n) (fun o=>g (o,c)) (fun _=>ck (b+(1:Int)) fun p=>f p c)) (0:Int))) ((0:Int),d)) (h d)
def Jz (a:Val É) (k:(Val (.pair ak .bool))→Option ρ):Option ρ :=
  Í (fun(b:Val aM) e=>iK a.1 b.1 b.2 (fun f g=>e (f,g)) (fun h=>Í (fun(c:Val aM) i=>lV a.2 c.1 c.2 (fun j l=>i (j,l)) (fun m=>Í (fun(d:Val aM) n=>jM a.1 d.1 d.2 (fun o p=>n (o,p)) (fun q=>k ([],q.1)) (fun r=>k (r,true))) ((0:Int),m))) ((0:Int),h))) ((0:Int),[])
def pH (a:Val É):Option ((Val (.pair ak .bool))):=Jz a some
def nI (j:Val aa) (b:Int) (c:Int) (d:Int) (e:Val ac) (f:Val aa) (g:Val af) (h:Val ab) (i:Val aa) (k:Int) (l:Int) (m:Int) (n:Int) (o:Int→Int→Int→Val ac→Val aa→Val af→Val ab→Val aa→Int→Int→Int→Int→Option ρ) (p:Val ay→Option ρ) (q:Val ay→Option ρ):Option ρ :=
  ifb (ilt b (Ö j)) (ï j b fun r=>Å (Ε ((c,d),e,f,g,h,i) r) fun s=>ifb (igt s 0) (ck (b+(1:Int)) fun t=>o t c d e f g h i k l m n) (ï j b fun u=>Å (uQ ((c,d),e,f,g,h,i) u) fun a=>ifb (ine a.2 0) (p (c,d,e,f,g,h,i,(0:Int),(0:Int),(0:Int),a.2)) (ck (b+(1:Int)) fun v=>o v a.1.1.1 a.1.1.2 a.1.2.1 a.1.2.2.1 a.1.2.2.2.1 a.1.2.2.2.2.1 a.1.2.2.2.2.2 k l m n))) (q (c,d,e,f,g,h,i,k,l,m,n))
def Pz (c:Val Ã) (h:Val aa) (k:Val Ow→Option ρ):Option ρ :=
  Å (jX c) fun e=>ifb (ine e 0) (k ((((0:Int),(0:Int)),[],[],[],[],[]),((0:Int),[]),[],e)) (Í (fun(b:(Val (.pair tI ay))) i=>nI h b.1 b.2.1 b.2.2.1 b.2.2.2.1 b.2.2.2.2.1 b.2.2.2.2.2.1 b.2.2.2.2.2.2.1 b.2.2.2.2.2.2.2.1 b.2.2.2.2.2.2.2.2.1 b.2.2.2.2.2.2.2.2.2.1 b.2.2.2.2.2.2.2.2.2.2.1 b.2.2.2.2.2.2.2.2.2.2.2 (fun j l m n o p q r s t u v=>i (j,l,m,n,o,p,q,r,s,t,u,v)) (fun d=>k (((d.2.2.2.2.2.2.2.1,d.2.2.2.2.2.2.2.2.1),[],[],[],[],[]),(d.2.2.2.2.2.2.2.2.2.1,[]),[],d.2.2.2.2.2.2.2.2.2.2)) (fun a=>Å (la ((a.1,a.2.1),a.2.2.1,a.2.2.2.1,a.2.2.2.2.1,a.2.2.2.2.2.1,a.2.2.2.2.2.2.1)) fun f=>Å (pH f) fun g=>ifb (!g.2) (k ((((0:Int),(0:Int)),[],[],[],[],[]),((0:Int),[]),[],(9:Int))) (k (((a.1,a.2.1),a.2.2.1,a.2.2.2.1,a.2.2.2.2.1,a.2.2.2.2.2.1,a.2.2.2.2.2.2.1),f,g.1,(0:Int))))) ((0:Int),c.1.1,c.1.2,c.2.1,c.2.2.1,c.2.2.2.1,c.2.2.2.2.1,c.2.2.2.2.2,(0:Int),(0:Int),(0:Int),(0:Int)))
def HT (a:Val Ã) (b:Val aa):Option (Val Ow):=Pz a b some
def oR (c:Val ac) (d:Int) (e:Int) (f:Int) (g:Int) (h:Int) (i:Int) (j:Int) (k:Int) (b:Int) (l:Int→Option ρ) (m:Bool→Option ρ) (n:Unit→Option ρ):Option ρ :=
  ifb (ilt b (Ö c)) (ï c b fun a=>ifb ((õ a.1 d)&&((õ a.2.1 e)&&((õ a.2.2.1 f)&&((õ a.2.2.2.1.1 g)&&((õ a.2.2.2.1.2 h)&&((õ a.2.2.2.2.1.1 i)&&((õ a.2.2.2.2.1.2 j)&&((õ a.2.2.2.2.2 k)&&true)))))))) (m true) (ck (b+(1:Int)) fun o=>l o)) (n ())
def Jg (b:Val Ã) (a:Val Ï) (k:Bool→Option ρ):Option ρ :=
  Í (fun(c:Int) d=>oR b.2.1 a.1 a.2.1 a.2.2.1 a.2.2.2.1.1 a.2.2.2.1.2 a.2.2.2.2.1.1 a.2.2.2.2.1.2 a.2.2.2.2.2 c (fun e=>d e) (fun f=>k f) (fun _=>k false)) (0:Int)
def pG (a:Val Ã) (b:Val Ï):Option (Bool):=Jg a b some
def ow (a:Val È) (b:Val È) (k:Bool→Option ρ):Option ρ :=
  ifb (ieq a.1 b.1) (ifb (ieq a.2.1 b.2.1) (ifb (ieq a.2.2.2.2.1 b.2.2.2.2.1) (ifb (ieq a.2.2.2.2.2.1 b.2.2.2.2.2.1) (ifb ((õ a.2.2.2.2.2.2.1 b.2.2.2.2.2.2.1)&&((õ a.2.2.2.2.2.2.2 b.2.2.2.2.2.2.2)&&true)) (Å (Κ a.2.2.1 b.2.2.1) fun c=>ifb c (Å (Κ a.2.2.2.1 b.2.2.2.1) fun d=>k d) (k false)) (k false)) (k false)) (k false)) (k false)) (k false)
def kH (a:Val È) (b:Val È):Option (Bool):=ow a b some
def oQ (c:Int) (b:Val ac) (a:Int) (d:Int→Option ρ) (e:Bool→Option ρ) (f:Unit→Option ρ):Option ρ :=
  ifb (ilt a (Ö b)) (ï b a fun g=>ifb (ieq g.1 c) (e true) (ck (a+(1:Int)) fun h=>d h)) (f ())
def Jf (a:Val Ã) (b:Int) (k:Bool→Option ρ):Option ρ :=
  Í (fun(c:Int) d=>oQ b a.2.1 c (fun e=>d e) (fun f=>k f) (fun _=>k false)) (0:Int)
def jS (a:Val Ã) (b:Int):Option (Bool):=Jf a b some
def ri (g:Int) (h:Val aa) (b:Val aa) (c:Bool) (a:Int) (d:Bool→Int→Option ρ) (i:Bool→Option ρ):Option ρ :=
  ifb (ilt a (Ö b)) (ifb c (ck (a+(1:Int)) fun j=>d true j) (ï b a fun e=>ï h g fun f=>ck (a+(1:Int)) fun k=>d ((õ e.1 f.1)&&((õ e.2 f.2)&&true)) k)) (i c)
def rj (b:Val aa) (d:Val aa) (e:Int) (f:Int) (g:Val ac) (h:Val aa) (i:Val af) (j:Val ab) (k:Val aa) (a:Int) (l:Int→Option ρ) (m:Bool→Option ρ) (n:Unit→Option ρ):Option ρ :=
  ifb (ilt a (Ö b)) (ï b a fun o=>Å (jS ((e,f),g,h,i,j,k) o.1) fun p=>Í (fun(c:Val aQ) q=>ri a b d c.1 c.2 (fun r s=>q (r,s)) (fun t=>ifb (!t) (m false) (ck (a+(1:Int)) fun u=>l u))) ((!p),(0:Int))) (n ())
def rg (g:Int) (h:Val af) (d:Val af) (e:Bool) (a:Int) (f:Bool→Int→Option ρ) (i:Bool→Option ρ):Option ρ :=
  ifb (ilt a (Ö d)) (ifb e (ck (a+(1:Int)) fun j=>f true j) (ï d a fun b=>ï h g fun c=>ck (a+(1:Int)) fun k=>f ((õ b.1 c.1)&&((õ b.2.1.1 c.2.1.1)&&((õ b.2.1.2 c.2.1.2)&&((õ b.2.2 c.2.2)&&true)))) k)) (i e)
def rh (b:Val af) (d:Val af) (e:Int) (f:Int) (g:Val ac) (h:Val aa) (i:Val af) (j:Val ab) (k:Val aa) (a:Int) (l:Int→Option ρ) (m:Bool→Option ρ) (n:Unit→Option ρ):Option ρ :=
  ifb (ilt a (Ö b)) (ï b a fun o=>Å (jS ((e,f),g,h,i,j,k) o.1) fun p=>Í (fun(c:Val aQ) q=>rg a b d c.1 c.2 (fun r s=>q (r,s)) (fun t=>ifb (!t) (m false) (ck (a+(1:Int)) fun u=>l u))) ((!p),(0:Int))) (n ())
def Pq (b:Val Ã) (c:Val Ã) (a:Val Ã) (k:Bool→Option ρ):Option ρ :=
  Í (fun(d:Int) e=>rj b.2.2.1 c.2.2.1 a.1.1 a.1.2 a.2.1 a.2.2.1 a.2.2.2.1 a.2.2.2.2.1 a.2.2.2.2.2 d (fun f=>e f) (fun g=>k g) (fun _=>Í (fun(h:Int) i=>rh b.2.2.2.1 c.2.2.2.1 a.1.1 a.1.2 a.2.1 a.2.2.1 a.2.2.2.1 a.2.2.2.2.1 a.2.2.2.2.2 h (fun j=>i j) (fun l=>k l) (fun _=>k true)) (0:Int))) (0:Int)
def Ah (a:Val Ã) (b:Val Ã) (c:Val Ã):Option (Bool):=Pq a b c some
def rq (b:Val ac) (c:Int) (d:Int) (e:Val ac) (f:Val aa) (g:Val af) (h:Val ab) (i:Val aa) (a:Int) (j:Int→Option ρ) (k:Bool→Option ρ) (l:Unit→Option ρ):Option ρ :=
  ifb (ilt a (Ö b)) (ï b a fun m=>Å (pG ((c,d),e,f,g,h,i) m) fun n=>ifb (!n) (k false) (ck (a+(1:Int)) fun o=>j o)) (l ())
def rl (e:Int) (f:Val ab) (b:Val ab) (c:Bool) (a:Int) (d:Bool→Int→Option ρ) (g:Bool→Option ρ):Option ρ :=
  ifb (ilt a (Ö b)) (ifb c (ck (a+(1:Int)) fun h=>d true h) (ï f e fun i=>ï b a fun j=>Å (kH i j) fun k=>ck (a+(1:Int)) fun l=>d k l)) (g c)
def ro (b:Val ab) (d:Val ab) (a:Int) (e:Int→Option ρ) (f:Bool→Option ρ) (g:Unit→Option ρ):Option ρ :=
  ifb (ilt a (Ö b)) (Í (fun(c:Val aQ) h=>rl a b d c.1 c.2 (fun i j=>h (i,j)) (fun k=>ifb (!k) (f false) (ck (a+(1:Int)) fun l=>e l))) (false,(0:Int))) (g ())
def Px (b:Val Ã) (a:Val Ã) (k:Bool→Option ρ):Option ρ :=
  ifb (!((õ b.1.1 a.1.1)&&((õ b.1.2 a.1.2)&&true))) (k false) (Í (fun(c:Int) d=>rq b.2.1 a.1.1 a.1.2 a.2.1 a.2.2.1 a.2.2.2.1 a.2.2.2.2.1 a.2.2.2.2.2 c (fun e=>d e) (fun f=>k f) (fun _=>Í (fun(g:Int) h=>ro b.2.2.2.2.1 a.2.2.2.2.1 g (fun i=>h i) (fun j=>k j) (fun _=>Å (Ah b a b) fun l=>ifb l (Å (Ah a b b) fun m=>k m) (k false))) (0:Int))) (0:Int))
def HS (a:Val Ã) (b:Val Ã):Option (Bool):=Px a b some
def CE (d:Int) (e:Int) (a:Int) (b:Val ae) (c:Int→Val ae→Option ρ) (f:Val ae→Option ρ):Option ρ :=
  ifb (ilt a d) (è ((ile 0 a)&&(ilt a (ā b))) (Ĩ b (Int.toNat a) fun i=>ifb (ieq e a) (è ((ile 0 a)&&(ilt a (ā (List.set b (Int.toNat a) (1152921504606846976:Int))))) (Ĩ (List.set b (Int.toNat a) (1152921504606846976:Int)) (Int.toNat a) fun j=>ck (a+(1:Int)) fun g=>c g (List.set (List.set b (Int.toNat a) (1152921504606846976:Int)) (Int.toNat a) (0:Int)))) (ck (a+(1:Int)) fun h=>c h (List.set b (Int.toNat a) (1152921504606846976:Int))))) (f b)
def sQ (a:Int) (b:Int) (c:Val ak) (f:Int→Val ak→Option ρ) (g:Val ak→Option ρ):Option ρ :=
  ifb (ilt b a) (è ((ile 0 a)&&(ã (Int.toNat a))) (Í (fun(d:Val aw) h=>CE a b d.1 d.2 (fun i j=>h (i,j)) (fun e=>è (ã ((List.length c)+(List.length ([e])))) (ck (b+(1:Int)) fun k=>f k (c++([e]))))) ((0:Int),(List.replicate (Int.toNat a) (0:Int))))) (g c)
def CD (d:Int) (e:Int) (a:Int) (b:Val ae) (c:Int→Val ae→Option ρ) (f:Val ae→Option ρ):Option ρ :=
  ifb (ilt a d) (è ((ile 0 a)&&(ilt a (ā b))) (Ĩ b (Int.toNat a) fun i=>ifb (ieq e a) (è ((ile 0 a)&&(ilt a (ā (List.set b (Int.toNat a) (1152921504606846976:Int))))) (Ĩ (List.set b (Int.toNat a) (1152921504606846976:Int)) (Int.toNat a) fun j=>ck (a+(1:Int)) fun g=>c g (List.set (List.set b (Int.toNat a) (1152921504606846976:Int)) (Int.toNat a) (0:Int)))) (ck (a+(1:Int)) fun h=>c h (List.set b (Int.toNat a) (1152921504606846976:Int))))) (f b)
def sP (a:Int) (b:Int) (c:Val ak) (f:Int→Val ak→Option ρ) (g:Val ak→Option ρ):Option ρ :=
  ifb (ilt b a) (è ((ile 0 a)&&(ã (Int.toNat a))) (Í (fun(d:Val aw) h=>CD a b d.1 d.2 (fun i j=>h (i,j)) (fun e=>è (ã ((List.length c)+(List.length ([e])))) (ck (b+(1:Int)) fun k=>f k (c++([e]))))) ((0:Int),(List.replicate (Int.toNat a) (0:Int))))) (g c)
def kg (e:Val ak) (a:Int) (f:Val ah) (d:Int) (c:Val ak) (g:Int→Val ak→Option ρ) (i:Val ak→Option ρ):Option ρ :=
  ifb (ilt d (Ö f)) (ï f d fun b=>ï e a fun j=>ï j b.1 fun k=>ifb (ine k 1152921504606846976) (è ((ile 0 a)&&(ilt a (ā c))) (è ((ile 0 a)&&(ilt a (ā c))) (Ĩ c (Int.toNat a) fun l=>è ((ile 0 b.2.1)&&(ilt b.2.1 (ā l))) (Ĩ c (Int.toNat a) fun m=>Ĩ m (Int.toNat b.2.1) fun n=>ï e a fun o=>ï o b.1 fun p=>ck (p+b.2.2) fun q=>Ĩ c (Int.toNat a) fun r=>è ((ile 0 b.2.1)&&(ilt b.2.1 (ā r))) (Ĩ c (Int.toNat a) fun h=>Ĩ h (Int.toNat b.2.1) fun u=>ck (d+(1:Int)) fun s=>g s (List.set c (Int.toNat a) (List.set h (Int.toNat b.2.1) (Xh n q)))))))) (ck (d+(1:Int)) fun t=>g t c)) (i c)
def kh (e:Val ak) (f:Int) (g:Val ah) (a:Int) (b:Val ak) (h:Int→Val ak→Option ρ) (i:Val ak→Option ρ):Option ρ :=
  ifb (ilt a f) (è ((ile 0 a)&&(ilt a (ā b))) (Ĩ b (Int.toNat a) fun j=>è ((ile 0 a)&&(ilt a (ā j))) (Ĩ b (Int.toNat a) fun c=>Ĩ c (Int.toNat a) fun p=>Í (fun(d:Val aM) k=>kg e a g d.1 d.2 (fun l m=>k (l,m)) (fun n=>ck (a+(1:Int)) fun o=>h o n)) ((0:Int),(List.set b (Int.toNat a) (List.set c (Int.toNat a) (1152921504606846976:Int))))))) (i b)
def nq (h:Int) (d:Int) (i:Val ah) (b:Int) (a:Val aC) (j:Int→Val aC→Option ρ) (k:Val aC→Option ρ):Option ρ :=
  ifb (ile b h) (ck (b-(1:Int)) fun c=>è ((ile 0 c)&&(ilt c (ā a))) (Ĩ a (Int.toNat c) fun l=>Í (fun(e:Val aM) m=>sP d e.1 e.2 (fun n o=>m (n,o)) (fun p=>Í (fun(f:Val aM) q=>kh l d i f.1 f.2 (fun r s=>q (r,s)) (fun g=>è (ã ((List.length a)+(List.length ([g])))) (ck (b+(1:Int)) fun t=>j t (a++([g]))))) ((0:Int),p))) ((0:Int),[]))) (k a)
def D0 (a:Val É) (d:Int) (k:Val aC→Option ρ):Option ρ :=
  Í (fun(b:Val aM) e=>sQ a.1 b.1 b.2 (fun f g=>e (f,g)) (fun h=>Í (fun(c:(Val (.pair tI aC))) i=>nq d a.1 a.2 c.1 c.2 (fun j l=>i (j,l)) (fun m=>k m)) ((1:Int),[h]))) ((0:Int),[])
def wP (a:Val É) (b:Int):Option ((Val aC)):=D0 a b some
def ln (j:Val aC) (k:Int) (l:Int) (g:Val ah) (b:Int) (d:Int) (a:Int) (c:Val ae) (f:Int→Int→Int→Val ae→Option ρ) (h:(Val (.pair tI aw))→Option ρ):Option ρ :=
  ifb (ilt a (Ö g)) (ï g a fun e=>ck (k-(1:Int)) fun m=>ï j m fun n=>ï n e.2.1 fun o=>ï o l fun i=>ifb (ieq e.1 d) (ifb (ine i 1152921504606846976) (ck (e.2.2+i) fun p=>ifb (ile p b) (è (ã ((List.length c)+(List.length ([a])))) (ck (b-e.2.2) fun q=>h (q,e.2.1,(c++([a]))))) (ck (a+(1:Int)) fun r=>f b d r c)) (ck (a+(1:Int)) fun s=>f b d s c)) (ck (a+(1:Int)) fun t=>f b d t c)) (h (b,d,c))
def rO (e:Val aC) (f:Int) (g:Val ah) (b:Int) (h:Int) (i:Int) (d:Val ae) (j:Int→Int→Int→Val ae→Option ρ) (k:Val ae→Option ρ):Option ρ :=
  ifb (igt b 0) (Í (fun(a:Val aK) l=>ln e b f g a.1 a.2.1 a.2.2.1 a.2.2.2 (fun m n o p=>l (m,n,o,p)) (fun c=>ck (b-(1:Int)) fun q=>j q c.1 c.2.1 c.2.2)) (h,i,(0:Int),d)) (k d)
def Qi (b:Val É) (c:Val aC) (d:Int) (e:Int) (f:Int) (g:Int) (k:Val ae→Option ρ):Option ρ :=
  Í (fun(a:Val aK) h=>rO c f b.2 a.1 a.2.1 a.2.2.1 a.2.2.2 (fun i j l m=>h (i,j,l,m)) (fun n=>k n)) (d,g,e,[])
def HX (a:Val É) (b:Val aC) (c:Int) (d:Int) (e:Int) (f:Int):Option ((Val ae)):=Qi a b c d e f some
def lY (d:Val aC) (e:Int) (i:Int) (c:Val ah) (a:Int) (f:Int→Option ρ) (j:Val ae→Option ρ) (k:Unit→Option ρ):Option ρ :=
  ifb (ilt a (Ö c)) (ï c a fun b=>ck (e-(1:Int)) fun l=>ï d l fun m=>ï m b.2.1 fun n=>ï n b.1 fun g=>ifb (ine g 1152921504606846976) (ck (b.2.2+g) fun o=>ifb (ilt o 0) (ck (e-(1:Int)) fun p=>ck ((-1:Int)-b.2.2) fun q=>Å (HX (i,c) d p b.2.1 b.1 q) fun h=>è (ã ((List.length ([a]))+(List.length h))) (j (([a])++h))) (ck (a+(1:Int)) fun r=>f r)) (ck (a+(1:Int)) fun s=>f s)) (k ())
def o9 (c:Val aC) (b:Int) (d:Val ah) (a:Int) (e:Int→Option ρ) (f:Val ae→Option ρ) (g:Unit→Option ρ):Option ρ :=
  ifb (ile a b) (Í (fun(h:Int) i=>lY c a b d h (fun j=>i j) (fun k=>f k) (fun _=>ck (a+(1:Int)) fun l=>e l)) (0:Int)) (g ())
def JL (a:Val É) (k:Val ae→Option ρ):Option ρ :=
  Å (pH a) fun b=>ifb b.2 (k ([])) (Å (wP a a.1) fun c=>Í (fun(d:Int) e=>o9 c a.1 a.2 d (fun f=>e f) (fun g=>k g) (fun _=>k ([]))) (1:Int))
def uR (a:Val É):Option ((Val ae)):=JL a some
def Pl (a:Val ü) (b:Int) (c:Int) (k:Val ü→Option ρ):Option ρ :=
  ifb (ieq (Int.tmod b (5:Int)) 0) (ck (a.2.2.2.1+(Int.tmod c (50:Int))) fun d=>k (a.1,a.2.1,a.2.2.1,d,a.2.2.2.2)) (ifb (ieq (Int.tmod b (5:Int)) 1) (k (a.1,a.2.1,(!a.2.2.1),a.2.2.2)) (ifb (ieq (Int.tmod b (5:Int)) 2) (ck (a.2.1.2+(Int.tmod c (3:Int))) fun e=>k (a.1,(a.2.1.1,e),a.2.2)) (ifb (ieq (Int.tmod b (5:Int)) 3) (ifb (igt (Ö a.2.2.2.2) 0) (è (ã (0+(List.length a.2.2.2.2))) (ifb (õ (Ö (([])++a.2.2.2.2)) 0) (none) (è ((ile 0 (Int.tmod (IntKind.wrap .i64 (IntKind.wrap .u8 (Int.tdiv b (5:Int)))) (Ö (([])++a.2.2.2.2))))&&(ilt (Int.tmod (IntKind.wrap .i64 (IntKind.wrap .u8 (Int.tdiv b (5:Int)))) (Ö (([])++a.2.2.2.2))) (ā (([])++a.2.2.2.2)))) (Ĩ (([])++a.2.2.2.2) (Int.toNat (Int.tmod (IntKind.wrap .i64 (IntKind.wrap .u8 (Int.tdiv b (5:Int)))) (Ö (([])++a.2.2.2.2)))) fun f=>ck (f+(Int.tmod c (3:Int))) fun g=>è ((ile 0 (Int.tmod (IntKind.wrap .i64 (IntKind.wrap .u8 (Int.tdiv b (5:Int)))) (Ö (([])++a.2.2.2.2))))&&(ilt (Int.tmod (IntKind.wrap .i64 (IntKind.wrap .u8 (Int.tdiv b (5:Int)))) (Ö (([])++a.2.2.2.2))) (ā (([])++a.2.2.2.2)))) (Ĩ (([])++a.2.2.2.2) (Int.toNat (Int.tmod (IntKind.wrap .i64 (IntKind.wrap .u8 (Int.tdiv b (5:Int)))) (Ö (([])++a.2.2.2.2)))) fun h=>k (a.1,a.2.1,a.2.2.1,a.2.2.2.1,(List.set (([])++a.2.2.2.2) (Int.toNat (Int.tmod (IntKind.wrap .i64 (IntKind.wrap .u8 (Int.tdiv b (5:Int)))) (Ö (([])++a.2.2.2.2)))) g))))))) (k a)) (ifb (igt (Ö a.2.2.2.2) 0) (è (ile 1 (ā a.2.2.2.2)) (k (a.1,a.2.1,a.2.2.1,a.2.2.2.1,(List.drop 1 a.2.2.2.2)))) (k a)))))
def HQ (a:Val ü) (b:Int) (c:Int):Option (Val ü):=Pl a b c some
def mL (b:Val Ã) (c:Val ü) (f:Int) (g:Int) (k:Bool→Option ρ):Option ρ :=
  Å (HP b) fun h=>ifb (!h) (Å iQ fun i=>k i) (Å (HP c.1) fun j=>ifb (!j) (Å iQ fun l=>k l) (ifb (igt (Ö c.2.2.2.2) 90) (Å iQ fun m=>k m) (Å (me b) fun a=>Å (jd c) fun n=>Å (ir c) fun o=>ifb (ine n o) (k false) (Å (jX b) fun d=>ifb (ine d 0) (Å iQ fun p=>ifb p (ifb (ieq a.2 d) (Å (jT a.1 ((((0:Int),(0:Int)),[],[],[],[],[]),((0:Int),(0:Int)),false,(0:Int),[])) fun q=>k q) (k false)) (k false)) (Å (HT b ([])) fun r=>ifb (ieq r.2.2.2 0) (Å iQ fun s=>ifb s (ifb (ieq a.2 5) (Å (jT a.1 ((((0:Int),(0:Int)),[],[],[],[],[]),((0:Int),(0:Int)),false,(0:Int),[])) fun t=>k t) (k false)) (k false)) (ifb (ine a.2 0) (k false) (Å (ir a.1) fun u=>ifb (ine u 0) (k false) (Å (HS a.1.1 b) fun v=>ifb (!v) (k false) (Å (la a.1.1) fun w=>Å (uR w) fun x=>ifb (ine (Ö a.1.2.2.2.2) (Ö x)) (k false) (Å (HQ a.1 f g) fun e=>Å iQ fun y=>ifb y (Å (jd e) fun z=>Å (ir e) fun A=>k (ieq z A)) (k false)))))))))))
def m9 (a:Val Ã) (b:Val ü) (c:Int) (d:Int):Option (Bool):=mL a b c d some
end Go.Proofs.ZzM
end
