/- Part 15 of the proof: a program logic, contracts, a theorem on goroutines. -/
import Derived.Test.YtjpghiajlddegaaGreatDoorL14
set_option maxRecDepth 100000
set_option linter.all false
namespace Go.L
open Go Go.Conc Go.Proofs
variable {p:Nat→Int} {K:aZ} {cs:List bF} {f b k n bu b1 b2 bl bf br bg bt bo:Nat} {hd:List bZ} {l:List gV} {Stop:Cells→Prop} {x y:aF} {xs:List Int} {vc vh:Value}
abbrev Qe(x:Int):List Value:=[.int .u8 x]
structure bK where
 c:Nat→Nat→Bool
abbrev BP(x:bK):List Value:=[.bool (x.c 0 0),.bool (x.c 0 1),.bool (x.c 0 2),.bool (x.c 0 3),.bool (x.c 1 0),.bool (x.c 1 1),.bool (x.c 1 2),.bool (x.c 1 3),.bool (x.c 2 0),.bool (x.c 2 1),.bool (x.c 2 2),.bool (x.c 2 3),.bool (x.c 3 0),.bool (x.c 3 1),.bool (x.c 3 2),.bool (x.c 3 3)]
def my(cs:List bF):Nat→List Int
 |0=>[]
 |k+1=>my cs k++[match cs[k]? with
  |some c=>if 0≤c.under then IV .u8 (IV .u8 0 (dt .u8 1 k)) ((my cs k)[c.under.toNat]?.getD 0) else IV .u8 0 (dt .u8 1 k)
  |none=>0]
theorem n6(cs:List bF):∀k,(my cs k).length=k
 |0=>rfl
 |k+1=>by simp[my,n6 cs k]
theorem akH{c:bF}{y:Int}(h:cs[k]?=some c) (hu:0≤c.under) (hy:(my cs k)[c.under.toNat]?=some y):my cs (k+1)=my cs k++[IV .u8 (IV .u8 0 (dt .u8 1 k)) y]:=by
 simp only[my,h,if_pos hu,hy,Option.getD_some]
theorem akI{c:bF}(h:cs[k]?=some c) (hu:¬0≤c.under):my cs (k+1)=my cs k++[IV .u8 0 (dt .u8 1 k)]:=by
 simp only[my,h,if_neg hu]
def abF(s:Int):Nat→Int
 |0=> -1
 |k+1=>bif hasB s k then k else abF s k
def Ft(cs:List bF)(a b:Int):Int:=abF (RB .u8 ((my cs cs.length)[a.toNat]?.getD 0) ((my cs cs.length)[b.toNat]?.getD 0)) cs.length
def VM(hd:List bZ)(h:Int):Int:=match hd[h.toNat]? with
 |some x=>x.cls
 |none=>0
def LU(K:aZ)(x y:aF):Bool:=decide (Em K.rules x.name y.name=2)
def B0(K:aZ)(x y:aF):Bool:=if (x.head <0∨y.head <0)∨x.head=y.head then false else decide (Ft K.cs (VM K.hd x.head) (VM K.hd y.head) <0)
def Ho(on:Int)(a b:Int):List gV→Nat→Bool
 | [],_=>false
 |x::l,k=>(((hasB on k&&decide (x.a=a))&&decide (x.b=b))&& !x.same)||Ho on a b l (k+1)
def cY(K:aZ)(on:Int)(a b:Nat):Bool:=match K.before[a]?,K.after[b]? with
 |some x,some y=> !LU K x y&&(!B0 K x y&& !Ho on a b K.facts 0)
 |_,_=>false
structure fH(K:aZ):Prop where
 rules:K.rules.length≤4∧∀r∈K.rules,qU r
 before:K.before.length≤4∧∀p∈K.before,qV p.name∧ny K.hd p.head
 after:K.after.length≤4∧∀p∈K.after,qV p.name∧ny K.hd p.head
 eE:kX K.cs K.hd
 facts:K.facts.length≤4∧∀x∈K.facts,(0≤x.a∧x.a <K.before.length)∧(0≤x.b∧x.b <K.after.length)
def oX(ro:Nat→Option Obj)(f:Nat)(K:aZ)(rows:List bK):Prop:=∃(c0 c1 c2 vc vh vr vb va vf vt:Value) (hv:List bp),
 ro f=some (.cells ⟨[c0,c1,c2,vc,vh,vr,vb,va,zI K.gone,zI K.new,zI K.af,vf,vt]⟩ 116 (0,0))∧jz ro vc vh K.cs hv K.hd∧dD dq hv K.hd∧
 bI ro vr 2 jo K.rules∧bI ro vb 5 eQ K.before∧bI ro va 5 eQ K.after∧bI ro vf 3 vM K.facts∧bI ro vt 16 BP rows
theorem oX.up{ro aK:Nat→Option Obj}{rows:List bK}(h:oX ro f K rows)(hs:Sub ro aK):oX aK f K rows:=by
 obtain⟨c0,c1,c2,vc,vh,vr,vb,va,vf,vt,hv,h1,h2,h3,h4,h5,h6,h7,h8⟩:=h
 exact⟨c0,c1,c2,vc,vh,vr,vb,va,vf,vt,hv,hs _ _ h1,h2.up hs,h3,h4.up hs,h5.up hs,h6.up hs,h7.up hs,h8.up hs⟩
theorem aKn{f i:Int}{ro:Nat→Option Obj}(hi:0≤i∧i≤8):dz zT 317 [.int .u8 f,zI i] ro (.bool (hasB f i)):=by
 refine bA au [] [] bn<|zD 8<|jsr (k:= .u8) (k':= .i64) (a:=f) (b:=i) 406 (by omega)<|zD 5<|aE q0 (.bool (decide ((RB .u8 (aQ .u8 f i) 1)=1))) [] [] [] (Sub.refl _) ⟨_,_,rfl,rfl,rfl,rfl⟩
theorem av3{f i:Int}{ro:Nat→Option Obj}(hi:0≤i∧i≤8):dz zT 318 [.int .u8 f,zI i] ro (.int .u8 (IV .u8 f (dt .u8 1 i))):=by
 refine bA au [] [] bn<|zD 8<|jsh (k:= .u8) (k':= .i64) (a:=1) (b:=i) 406 (by omega)<|zD 4<|aE q0 (.int .u8 (IV .u8 f (dt .u8 1 i))) [] [] [] (Sub.refl _) ⟨_,_,rfl,rfl,rfl,rfl⟩
theorem aog{hv:List bp}{ro:Nat→Option Obj}(hR:jz ro vc vh cs hv hd)(oe:dD dq hv hd)(hT:kX cs hd):eo zT 316 [.agg ⟨[vc,vh]⟩] ro [] (fun r Y=>∃b vS LS vE,r= .tuple ⟨[zP b,zI 0]⟩∧az vS 1 406 Qe (my cs cs.length) LS∧Y=(b,.cells ⟨[vc,vh,vS,vE]⟩ 410 (0,0))::LS):=by
 obtain⟨hc,hh,cX⟩:=id hR
 obtain⟨eC,AO,AN,ek,rfl,C5,yI,yH⟩:=hc
 obtain⟨dJ,uK,uJ,dr,rfl,wZ,qB,qA⟩:=hh
 have Cq:=hT.nc
 have hnh:=hT.nh
 have hlen:=oe.len
 refine bA au [] [] bn<|zD 2<|jn fun b1=>jd 7 [0]<|jp (vs:=[.agg ⟨[.slice eC cs.length ek,.slice dJ hv.length dr]⟩]) [] [] (fun aA hs hZ=>(TU (hR.up hs) oe hT))<|jd 13 [0]<|jn fun fg=>jd 11 [1]<|pQ<|ez [1,1,1,0,1,0,0] [] (fun(zz:Nat×Value×Cells)=>[(1,zP b1),(2,.pointer none),(3,zI 0),(5,zP fg),(20,.slice eC cs.length ek),(21,zI (cs.length:Int)),(22,zI (zz.1:Int))]) (fun(zz:Nat×Value×Cells)=>[.l zz.2.2,.b fg (.cells ⟨[.slice eC cs.length ek,.slice dJ hv.length dr,zz.2.1,zS]⟩ 410 (0,0)),.b b1 (.cells ⟨[.slice eC cs.length ek,.slice dJ hv.length dr]⟩ 33 (0,0))]) (fun(zz:Nat×Value×Cells)=>zz.1≤cs.length∧az zz.2.1 1 406 Qe (my cs zz.1) zz.2.2) (fun(zz:Nat×Value×Cells)=>cs.length-zz.1) (⟨0,zS,[]⟩) ⟨by dsimp only;omega,az.nil _ _ _⟩ [0,1,2] ?_
 rintro⟨k,vS,LS⟩ hI K1 bM rest
 dsimp only at hI
 refine zD 5<|zJ 23 ((k:Int) <(cs.length:Int)) (fun h1=>?_) fun h1=>?_
 ·
  refine zD 7 ?_
  obtain⟨xN,kQ⟩:=zG cs k
  refine ij ek 2 yI kQ<|jl 0 (yH _ _ kQ)<|jn fun b7=>jd 4 [0] ?_
  have ir:=hT.cls _ _ kQ
  have IX:=n6 cs k
  refine zD 2<|jp (vs:=[.int .u8 0,zI (k:Int)]) [] [] (fun aA hs hZ=>(av3 (by omega)))<|jd 9 [0]<|zJ 31 (xN.under≥0) (fun h2=>?_) fun h2=>?_
  ·
   refine jd 9 [2,0] ?_
   obtain⟨DJ,xj⟩:=zG ((my cs k)) (xN.under.toNat) (by first|omega| (simp only[List.length_set,List.length_append,List.length_cons,List.length_nil];omega))
   refine pP xN.under 1 hI.2 xj (Int.toNat_of_nonneg (show 0≤xN.under∧xN.under <(((my cs k)).length:Int) from (by have:=ir.2;simp only[n6];omega)).1).symm (fun b39 aPV=>?_)
   refine oJ 0 [1] LS (fun s _ hZ=>cv hI.2 aPV hZ xj)<|jd 10 [2]<|jn fun b48=>ku (sz:=1) (ps:=(my cs k)) (qs:=[(IV .u8 (IV .u8 0 (dt .u8 1 (k:Int))) DJ)]) (enc:=Qe) (w:= .slice (some ⟨b48,0,none⟩) 1 1) [2] [0] [(b48,.cells ⟨([(IV .u8 (IV .u8 0 (dt .u8 1 (k:Int))) DJ)].map Qe).flatten⟩ 406 (0,0))] (hI.2) (fun s _ hZ=>bX [(IV .u8 (IV .u8 0 (dt .u8 1 (k:Int))) DJ)] (hZ _ (.head _)) (by intro p hp;rfl)) (fun p _=>an rfl) (by simp only[n6,List.length_cons,List.length_nil];omega) (fun v49 L49 FL=>?_)
   obtain⟨ahJ,ahF,adI⟩:=FL.form
   subst adI
   refine jd 5 [3]<|ja ((k:Int)+1) (by omega)<|zD 2<|bO bM (⟨k+1,(.slice ahJ (((my cs k)++[(IV .u8 (IV .u8 0 (dt .u8 1 (k:Int))) DJ)])).length ahF),L49⟩) ⟨by dsimp only;omega,by rw[akH kQ (by omega) xj];exact FL⟩ (by dsimp only;omega) [0,3,4] (Sub.refl _)
  refine jd 9 [2]<|jn fun b48=>ku (sz:=1) (ps:=(my cs k)) (qs:=[(IV .u8 0 (dt .u8 1 (k:Int)))]) (enc:=Qe) (w:= .slice (some ⟨b48,0,none⟩) 1 1) [2] [0] [(b48,.cells ⟨([(IV .u8 0 (dt .u8 1 (k:Int)))].map Qe).flatten⟩ 406 (0,0))] (hI.2) (fun s _ hZ=>bX [(IV .u8 0 (dt .u8 1 (k:Int)))] (hZ _ (.head _)) (by intro p hp;rfl)) (fun p _=>an rfl) (by simp only[n6,List.length_cons,List.length_nil];omega) (fun v49 L49 FL=>?_)
  obtain⟨ahJ,ahF,adI⟩:=FL.form
  subst adI
  refine jd 5 [3]<|ja ((k:Int)+1) (by omega)<|zD 2<|bO bM (⟨k+1,(.slice ahJ (((my cs k)++[(IV .u8 0 (dt .u8 1 (k:Int)))])).length ahF),L49⟩) ⟨by dsimp only;omega,by rw[akI kQ (by omega)];exact FL⟩ (by dsimp only;omega) [0,3,4] (Sub.refl _)
 refine jd 11 [2]<|pQ<|ez [1,1,1,1,0,1,0,0] [] (fun(zz:Nat×Value×Cells×(List Value))=>[(2,.pointer none),(3,zI 0),(5,zP fg),(54,.slice dJ hv.length dr),(55,zI (hv.length:Int)),(56,zI (zz.1:Int))]) (fun(zz:Nat×Value×Cells×(List Value))=>[.l zz.2.2.1,.b fg (.cells ⟨[.slice eC cs.length ek,.slice dJ hv.length dr,vS,zz.2.1]⟩ 410 (0,0)),.l LS,.b b1 (.cells ⟨[.slice eC cs.length ek,.slice dJ hv.length dr]⟩ 33 (0,0))]) (fun(zz:Nat×Value×Cells×(List Value))=>(zz.1≤hv.length∧zz.2.2.2.length≤zz.1)∧az zz.2.1 1 420 iQ zz.2.2.2 zz.2.2.1) (fun(zz:Nat×Value×Cells×(List Value))=>hv.length-zz.1) (⟨0,zS,[],[]⟩) ⟨⟨by omega,Nat.le_refl _⟩,az.nil _ _ _⟩ [0,2,1,3] ?_
 rintro⟨j,vE,LE,es⟩ hJ K2 mo rest
 dsimp only at hJ
 refine zD 5<|zJ 57 ((j:Int) <(hv.length:Int)) (fun h3=>?_) fun h3=>?_
 ·
  refine zD 6 ?_
  obtain⟨Ej,ajv⟩:=zG hv j
  refine ij dr 4 qB ajv<|jl 0 (qA _ _ ajv)<|jn fun rI=>jsx 0 rI 0 [.string ByteArray.empty,zI 0,zI 0,zS] [.string Ej.word,zI Ej.cls,zI Ej.nK,Ej.dQ] 133 (mi cX _ (List.mem_of_getElem? ajv)) rfl<|zD 3 ?_
  obtain⟨Zg,ba4,aND⟩:=cX.get ajv
  obtain⟨fp,rh,q9,eJ,hqe,tq,k8,me⟩:=aND.2.2.2
  refine jmw 0 [.b rI (.cells ⟨[.string Ej.word,zI Ej.cls,zI Ej.nK,.slice fp Zg.dQ.length eJ]⟩ 133 (0,0))] (L:=[(rI,.cells ⟨[.string Ej.word,zI Ej.cls,zI Ej.nK,Ej.dQ]⟩ 133 (0,0))]) (by rw[hqe];rfl) ?_
  refine jd 6 [0]<|js 73 (!decide (Ej.nK=(-1))) (fun h4=>?_) (fun h4=>?_)
  ·
   replace h4:=of_decide_eq_false (by simpa using h4)
   refine jd 11 [2,0]<|aN 9 fun sW sZ rD=>jn fun b86=>bC rD [1,2,3,4,5]<|aN 10 fun uv uw sB=>ku (sz:=1) (ps:=es) (qs:=[(.iface 413 (.agg ⟨[zI Ej.nK]⟩):Value)]) (enc:=iQ) (w:= .slice (some ⟨b86,0,none⟩) 1 1) [2] [0] [(b86,.cells ⟨([(.iface 413 (.agg ⟨[zI Ej.nK]⟩):Value)].map iQ).flatten⟩ 420 (0,0))] (hJ.2) (fun s _ hZ=>bX [(.iface 413 (.agg ⟨[zI Ej.nK]⟩):Value)] (hZ _ (.head _)) (by intro p hp;rfl)) (by intro p hp;rw[List.mem_singleton] at hp;subst hp;exact an rfl) (by simp only[List.length_cons,List.length_nil];omega) (fun v87 L87 acU=>?_)
   obtain⟨aIN,aIp,aO0⟩:=acU.form
   subst aO0
   refine iS sB [[2]]<|zD 2<|aN 13 fun CL CX Dp=>jd 1 [3]<|iS Dp []<|zD 2<|ja ((j:Int)+1) (by omega)<|zD 2<|bO mo (⟨j+1,(.slice aIN ((es++[(.iface 413 (.agg ⟨[zI Ej.nK]⟩):Value)])).length aIp),L87,(es++[(.iface 413 (.agg ⟨[zI Ej.nK]⟩):Value)])⟩) ⟨⟨by dsimp only;omega,by simp only[List.length_append,List.length_cons,List.length_nil];omega⟩,acU⟩ (by dsimp only;omega) [0,3,4,5] (Sub.refl _)
  replace h4:=of_decide_eq_true (by simpa using h4)
  refine jd 8 [0]<|js 90 (!decide (Ej.cls=(-1))) (fun h8=>?_) (fun h8=>?_)
  ·
   replace h8:=of_decide_eq_false (by simpa using h8)
   refine jd 13 [2,0,0]<|aN 11 fun ahq ahP hL6=>jn fun aEu=>bC hL6 [1,2,3,4,5]<|aN 12 fun ahp ahO Sw=>ku (sz:=1) (ps:=es) (qs:=[(.iface 415 (.agg ⟨[zI Ej.cls,.slice fp Zg.dQ.length eJ]⟩):Value)]) (enc:=iQ) (w:= .slice (some ⟨aEu,0,none⟩) 1 1) [2] [0] [(aEu,.cells ⟨([(.iface 415 (.agg ⟨[zI Ej.cls,.slice fp Zg.dQ.length eJ]⟩):Value)].map iQ).flatten⟩ 420 (0,0))] (hJ.2) (fun s _ hZ=>bX [(.iface 415 (.agg ⟨[zI Ej.cls,.slice fp Zg.dQ.length eJ]⟩):Value)] (hZ _ (.head _)) (by intro p hp;rfl)) (by intro p hp;rw[List.mem_singleton] at hp;subst hp;exact an rfl) (by simp only[List.length_cons,List.length_nil];omega) (fun aY0 aTh Vh=>?_)
   obtain⟨avw,avp,az9⟩:=Vh.form
   subst az9
   refine iS Sw [[2],[2]]<|zD 2<|aN 15 fun Za ZO hL8=>jd 1 [3]<|iS hL8 []<|zD 2<|ja ((j:Int)+1) (by omega)<|zD 2<|bO mo (⟨j+1,(.slice avw ((es++[(.iface 415 (.agg ⟨[zI Ej.cls,.slice fp Zg.dQ.length eJ]⟩):Value)])).length avp),aTh,(es++[(.iface 415 (.agg ⟨[zI Ej.cls,.slice fp Zg.dQ.length eJ]⟩):Value)])⟩) ⟨⟨by dsimp only;omega,by simp only[List.length_append,List.length_cons,List.length_nil];omega⟩,Vh⟩ (by dsimp only;omega) [0,3,4,5] (Sub.refl _)
  replace h8:=of_decide_eq_true (by simpa using h8)
  refine jd 11 [2,0]<|aN 9 fun Y6 ZN XU=>jn fun b69=>bC XU [1,2,3,4,5]<|aN 10 fun HY H4 yt=>ku (sz:=1) (ps:=es) (qs:=[(.iface 417 (.agg ⟨[.slice fp Zg.dQ.length eJ]⟩):Value)]) (enc:=iQ) (w:= .slice (some ⟨b69,0,none⟩) 1 1) [2] [0] [(b69,.cells ⟨([(.iface 417 (.agg ⟨[.slice fp Zg.dQ.length eJ]⟩):Value)].map iQ).flatten⟩ 420 (0,0))] (hJ.2) (fun s _ hZ=>bX [(.iface 417 (.agg ⟨[.slice fp Zg.dQ.length eJ]⟩):Value)] (hZ _ (.head _)) (by intro p hp;rfl)) (by intro p hp;rw[List.mem_singleton] at hp;subst hp;exact an rfl) (by simp only[List.length_cons,List.length_nil];omega) (fun v70 L70 acW=>?_)
  obtain⟨aIQ,aIs,aO3⟩:=acW.form
  subst aO3
  refine iS yt [[2]]<|zD 2<|aN 13 fun Mu ML F6=>jd 1 [3]<|iS F6 []<|zD 2<|ja ((j:Int)+1) (by omega)<|zD 2<|bO mo (⟨j+1,(.slice aIQ ((es++[(.iface 417 (.agg ⟨[.slice fp Zg.dQ.length eJ]⟩):Value)])).length aIs),L70,(es++[(.iface 417 (.agg ⟨[.slice fp Zg.dQ.length eJ]⟩):Value)])⟩) ⟨⟨by dsimp only;omega,by simp only[List.length_append,List.length_cons,List.length_nil];omega⟩,acW⟩ (by dsimp only;omega) [0,3,4,5] (Sub.refl _)
 refine zD 9<|aE q0 (.tuple ⟨[zP fg,zI 0]⟩) [] [1,2] ((fg,.cells ⟨[.slice eC cs.length ek,.slice dJ hv.length dr,vS,vE]⟩ 410 (0,0))::LS) (Sub.refl _) ⟨_,_,rfl,rfl,_,_,LS,_,rfl,by have:=hI.2;rwa[show k=cs.length by omega] at this,rfl⟩
theorem UJ{s:Int}{j:Int}(h:0≤j):abF s (j+1).toNat=bif hasB s j then j else abF s j.toNat:=by
 obtain⟨m,rfl⟩:=Int.eq_ofNat_of_zero_le h
 rfl
theorem T3{on a b:Int}{x:gV}(h:l[k]?=some x):Ho on a b (l.drop k) k=((((hasB on k&&decide (x.a=a))&&decide (x.b=b))&& !x.same)||Ho on a b (l.drop (k+1)) (k+1)):=by rw[fN h];rfl
theorem aak{on a b:Int}(h:¬k <l.length):Ho on a b (l.drop k) k=false:=by rw[eF h];rfl
theorem Vp{hv:List bp}{h:Int}{x:bp}(hS:dD dq hv hd)(hT:kX cs hd)(hk:ny hd h)(h0:0≤h)(hx:hv[h.toNat]?=some x):VM hd h=x.cls∧0≤x.cls∧x.cls <cs.length:=by
 obtain⟨y,hy,hs⟩:=hS.get hx
 rcases hk with rfl| ⟨_,z,hz,hc⟩
 ·omega
 rw[hy] at hz;cases hz
 have:=(hT.zx _ _ hy).2.1
 exact⟨by simp[VM,hy,hs.2.1],hs.2.1▸hc,by rw[hs.2.1];exact this.2⟩
theorem Vo{hv:List bp}{h:Int}(hS:dD dq hv hd)(hk:ny hd h)(h0:0≤h):h <hv.length:=by
 rcases hk with rfl| ⟨_,z,hz,_⟩
 ·omega
 have:=(List.getElem?_eq_some_iff.1 hz).1
 rw[hS.len];omega
theorem an7{hv:List bp}{a b:Int}{ro:Nat→Option Obj}(hR:jz ro vc vh cs hv hd)(oe:dD dq hv hd)(hT:kX cs hd)(ha:0≤a∧a <cs.length)(hb:0≤b∧b <cs.length):dz zT 315 [.agg ⟨[vc,vh]⟩,zI a,zI b] ro (.tuple ⟨[zI (Ft cs a b),zI 0]⟩):=by
 obtain⟨hc,hh,cX⟩:=id hR
 obtain⟨eC,AO,AN,ek,rfl,C5,yI,yH⟩:=hc
 obtain⟨dJ,uK,uJ,dr,rfl,wZ,qB,qA⟩:=hh
 have Cq:=hT.nc
 have hnh:=hT.nh
 have hlen:=oe.len
 have IX:=n6 cs cs.length
 refine bA au [] [] bn<|zD 2<|jn fun b3=>jd 6 [0]<|jc (vs:=[.agg ⟨[.slice eC cs.length ek,.slice dJ hv.length dr]⟩]) [] (aog hR oe hT) ?_
 rintro _ _ ⟨bT,vS,LS,vE,rfl,hS,rfl⟩
 refine jg 0 [.b bT (.cells ⟨[.slice eC cs.length ek,.slice dJ hv.length dr,vS,vE]⟩ 410 (0,0)),.l LS]<|zD 5<|jf [0,1] ((bT,.cells ⟨[.slice eC cs.length ek,.slice dJ hv.length dr,vS,vE]⟩ 410 (0,0))::LS) (fun AI bV iT=>?_)
 have hSS:=hS.ma iT.tail
 obtain⟨awZ,aZL,aZJ,aie,rfl,aZK,awY,awX⟩:=hSS
 refine jd 17 [0]<|ja ((cs.length:Int)-1) (by omega)<|jp (vs:=[zI a,zI 0,zI ((cs.length:Int)-1)]) [] [] (fun aA hs hZ=>iI)<|zD 3<|js 20 (!(iH a 0 ((cs.length:Int)-1))) (fun h4=>?_) (fun h4=>?_)
 ·
  try simp only[zB] at h4
  exfalso;simp only[iH,Bool.not_eq_true',Bool.and_eq_false_iff,decide_eq_false_iff_not] at h4;omega
 try simp only[zB] at h4
 refine jd 6 [0]<|ja ((cs.length:Int)-1) (by omega)<|jp (vs:=[zI b,zI 0,zI ((cs.length:Int)-1)]) [] [] (fun aA hs hZ=>iI)<|zD 3<|js 20 (!(iH b 0 ((cs.length:Int)-1))) (fun h5=>?_) (fun h5=>?_)
 ·
  try simp only[zB] at h5
  exfalso;simp only[iH,Bool.not_eq_true',Bool.and_eq_false_iff,decide_eq_false_iff_not] at h5;omega
 try simp only[zB] at h5
 refine jd 8 [0]<|ja ((cs.length:Int)-1) (by omega)<|zD 3<|ez [1,1,1,0,1,0,0] [] (fun(zz:Int)=>[(1,zI a),(2,zI b),(8,zP bT),(10,zI zz)]) (fun(zz:Int)=>[.b b3 (.cells ⟨[.slice eC cs.length ek,.slice dJ hv.length dr]⟩ 33 (0,0))]) (fun(zz:Int)=>(-1≤zz∧zz <cs.length)∧Ft cs a b=abF (RB .u8 ((my cs cs.length)[a.toNat]?.getD 0) ((my cs cs.length)[b.toNat]?.getD 0)) (zz+1).toNat) (fun(zz:Int)=>(zz+1).toNat) ((cs.length:Int)-1) ⟨by omega,by rw[Ft,show ((cs.length:Int)-1+1).toNat=cs.length by omega]⟩ [0] ?_
 rintro j hI K1 bM rest
 refine zD 6<|zJ 40 (j≥0) (fun h6=>?_) fun h6=>?_
 ·
  refine zD 9<|jl (b:=bT) (off:=0) (m:=4) (vs:=[.slice eC cs.length ek,.slice dJ hv.length dr,.slice awZ ((my cs cs.length).length) aie,vE]) 2 ⟨_,_,_,.inl (iT _ (.head _)),rfl⟩<|zD 1 ?_
  obtain⟨x48,FC⟩:=zG ((my cs cs.length)) (a.toNat) (by simp only[n6];omega)
  refine Mj a aie 1 awY FC (Int.toNat_of_nonneg (show 0≤a∧a <(((my cs cs.length)).length:Int) from (by simp only[n6];omega)).1).symm ?_
  refine jl 0 (awX _ _ FC)<|zD 3<|jl (b:=bT) (off:=0) (m:=4) (vs:=[.slice eC cs.length ek,.slice dJ hv.length dr,.slice awZ ((my cs cs.length).length) aie,vE]) 2 ⟨_,_,_,.inl (iT _ (.head _)),rfl⟩<|zD 1 ?_
  obtain⟨x55,ajw⟩:=zG ((my cs cs.length)) (b.toNat)
  refine Mj b aie 1 awY ajw (by omega)<|jl 0 (awX _ _ ajw)<|zD 2<|jp (vs:=[.int .u8 (RB .u8 x48 x55),zI j]) [] [] (fun aA hs hZ=>(aKn (by omega)))<|zD 1<|js 59 (hasB (RB .u8 x48 x55) j) (fun h7=>?_) (fun h7=>?_)
  ·
   refine zD 8<|aE q0.a (.tuple ⟨[zI j,zI 0]⟩) [] [] [] bV ⟨_,_,rfl,rfl,by rw[hI.2,UJ (by omega),FC,ajw,Option.getD_some,Option.getD_some,show hasB _ _=true from (by assumption)];rfl,rfl⟩
  refine zD 4<|ja (j-1) (by omega)<|zD 2<|bO bM (j-1) ⟨by omega,by rw[hI.2,UJ (by omega),FC,ajw,Option.getD_some,Option.getD_some,show hasB _ _=false from (by assumption),show j-1+1=j by omega];rfl⟩ (by omega) [0] (Sub.refl _)
 refine zD 8<|aE q0.a (.tuple ⟨[zI (-1),zI 0]⟩) [] [] [] bV ⟨_,_,rfl,rfl,by rw[hI.2,show j= -1 by omega];rfl,rfl⟩
theorem ax9{ro:Nat→Option Obj}:dz zT 134 [] ro (.agg ⟨[.iface 272 (.agg ⟨[]⟩),.iface 273 (.agg ⟨[]⟩),.iface 274 (.agg ⟨[]⟩)]⟩):=by
 refine bA au [] [] bn<|zD 2<|jn fun b0=>jd 13 [0]<|aE q0 (.agg ⟨[.iface 272 (.agg ⟨[]⟩),.iface 273 (.agg ⟨[]⟩),.iface 274 (.agg ⟨[]⟩)]⟩) [0] [] [] (Sub.refl _) ⟨_,_,rfl,rfl,rfl,rfl⟩
theorem apC{rows:List bK}{a:Nat}{on:Int}{ro:Nat→Option Obj}(hF:oX ro f K rows)(hV:fH K)(ha:K.before[a]?=some x) (hb:K.after[b]?=some y):dz zT 311 [.agg ⟨[]⟩,zP f,zI (a:Int),zI (b:Int),.int .u8 on] ro (.bool (LU K x y)):=by
 obtain⟨c0,c1,c2,vc,vh,vr,vb,va,vf,vt,hv,hf,rC,oe,hr,Dm,HK,I0,bL⟩:=id hF
 obtain⟨hc,hh,cX⟩:=id rC
 obtain⟨eC,AO,AN,ek,rfl,C5,yI,yH⟩:=hc
 obtain⟨dJ,uK,uJ,dr,rfl,wZ,qB,qA⟩:=hh
 obtain⟨lR,JX,JW,lQ,rfl,Ni,Is,Ir⟩:=hr
 obtain⟨k9,J2,J0,kz,rfl,J1,EN,EM⟩:=Dm
 obtain⟨ld,J5,J3,kA,rfl,J4,EP,EO⟩:=HK
 obtain⟨lS,Q4,Q1,kN,rfl,Q3,JZ,JY⟩:=I0
 obtain⟨mV,C4,C3,mE,rfl,Nf,JV,JU⟩:=bL
 have P0:=hV.rules.1
 have FR:=hV.before.1
 have HE:=hV.after.1
 have hnf:=hV.facts.1
 have I5:=(List.getElem?_eq_some_iff.1 ha).1
 have Vr:=(List.getElem?_eq_some_iff.1 hb).1
 refine bA au [] [] bn<|zD 2<|jn fun b5=>zD 8<|jl (b:=f) (off:=0) (m:=13) (vs:=[c0,c1,c2,.slice eC K.cs.length ek,.slice dJ hv.length dr,.slice lR K.rules.length lQ,.slice k9 K.before.length kz,.slice ld K.after.length kA,zI K.gone,zI K.new,zI K.af,.slice lS K.facts.length kN,.slice mV rows.length mE]) 5 ⟨_,_,_,.inl hf,rfl⟩<|zD 4<|jl (b:=f) (off:=0) (m:=13) (vs:=[c0,c1,c2,.slice eC K.cs.length ek,.slice dJ hv.length dr,.slice lR K.rules.length lQ,.slice k9 K.before.length kz,.slice ld K.after.length kA,zI K.gone,zI K.new,zI K.af,.slice lS K.facts.length kN,.slice mV rows.length mE]) 6 ⟨_,_,_,.inl hf,rfl⟩<|zD 1 ?_
 obtain⟨xN,kQ⟩:=zG K.before a
 refine ij kz 5 EN kQ<|zD 1<|jl 0 (EM _ _ kQ)<|zD 4<|jl (b:=f) (off:=0) (m:=13) (vs:=[c0,c1,c2,.slice eC K.cs.length ek,.slice dJ hv.length dr,.slice lR K.rules.length lQ,.slice k9 K.before.length kz,.slice ld K.after.length kA,zI K.gone,zI K.new,zI K.af,.slice lS K.facts.length kN,.slice mV rows.length mE]) 7 ⟨_,_,_,.inl hf,rfl⟩<|zD 1 ?_
 obtain⟨Wd,KE⟩:=zG K.after b
 refine ij kA 5 EP KE<|zD 1<|jl 0 (EO _ _ KE)<|jp (vs:=[.slice lR K.rules.length lQ,.string xN.name,.string Wd.name]) [] [] (fun aA hs hZ=>NL ((show bI _ _ _ _ _ from ⟨lR,JX,JW,lQ,rfl,Ni,Is,Ir⟩).up hs) hV.rules.2 P0 (hV.before.2 _ (List.mem_of_getElem? kQ)).1 (hV.after.2 _ (List.mem_of_getElem? KE)).1)<|zD 9<|jp (vs:=[zI 0]) [] [] (fun aA hs hZ=>zn)<|zD 8<|aE q0 (.bool (decide ((Em K.rules xN.name Wd.name)=2))) [] [] [] (Sub.refl _) ⟨_,_,rfl,rfl,by rw[ha] at kQ;cases kQ;rw[hb] at KE;cases KE;rfl,rfl⟩
theorem ach{rows:List bK}{a:Nat}{on:Int}{ro:Nat→Option Obj}(hF:oX ro f K rows)(hV:fH K)(ha:K.before[a]?=some x) (hb:K.after[b]?=some y):dz zT 313 [.agg ⟨[]⟩,zP f,zI (a:Int),zI (b:Int),.int .u8 on] ro (.bool (B0 K x y)):=by
 obtain⟨c0,c1,c2,vc,vh,vr,vb,va,vf,vt,hv,hf,rC,oe,hr,Dm,HK,I0,bL⟩:=id hF
 obtain⟨hc,hh,cX⟩:=id rC
 obtain⟨eC,AO,AN,ek,rfl,C5,yI,yH⟩:=hc
 obtain⟨dJ,uK,uJ,dr,rfl,wZ,qB,qA⟩:=hh
 obtain⟨lR,JX,JW,lQ,rfl,Ni,Is,Ir⟩:=hr
 obtain⟨k9,J2,J0,kz,rfl,J1,EN,EM⟩:=Dm
 obtain⟨ld,J5,J3,kA,rfl,J4,EP,EO⟩:=HK
 obtain⟨lS,Q4,Q1,kN,rfl,Q3,JZ,JY⟩:=I0
 obtain⟨mV,C4,C3,mE,rfl,Nf,JV,JU⟩:=bL
 have P0:=hV.rules.1
 have FR:=hV.before.1
 have HE:=hV.after.1
 have hnf:=hV.facts.1
 have I5:=(List.getElem?_eq_some_iff.1 ha).1
 have Vr:=(List.getElem?_eq_some_iff.1 hb).1
 refine bA au [] [] bn<|zD 2<|jn fun b5=>zD 8<|jl (b:=f) (off:=0) (m:=13) (vs:=[c0,c1,c2,.slice eC K.cs.length ek,.slice dJ hv.length dr,.slice lR K.rules.length lQ,.slice k9 K.before.length kz,.slice ld K.after.length kA,zI K.gone,zI K.new,zI K.af,.slice lS K.facts.length kN,.slice mV rows.length mE]) 6 ⟨_,_,_,.inl hf,rfl⟩<|zD 1 ?_
 obtain⟨xO,pS⟩:=zG K.before a
 refine ij kz 5 EN pS<|zD 1<|jl 3 (EM _ _ pS)<|zD 4<|jl (b:=f) (off:=0) (m:=13) (vs:=[c0,c1,c2,.slice eC K.cs.length ek,.slice dJ hv.length dr,.slice lR K.rules.length lQ,.slice k9 K.before.length kz,.slice ld K.after.length kA,zI K.gone,zI K.new,zI K.af,.slice lS K.facts.length kN,.slice mV rows.length mE]) 7 ⟨_,_,_,.inl hf,rfl⟩<|zD 1 ?_
 obtain⟨od,jQ⟩:=zG K.after b
 refine ij kA 5 EP jQ<|zD 1<|jl 3 (EO _ _ jQ)<|zD 9<|jj 3 [(1,zP f),(10,.bool false),(11,zI xO.head),(12,zI od.head),(38,.bool ((decide (xO.head <0))||(decide (od.head <0))))] (fun gD=>?_) (fun hj=>?_)
 rotate_left
 refine js 35 (decide (xO.head <0)) (fun h1=>?_) (fun h1=>?_)
 ·
  have fS:=h1
  replace fS:=of_decide_eq_true fS
  refine zD 3<|jw 38 (.bool ((decide (xO.head <0))||(decide (od.head <0)))) (w:= .bool true) (by rw[h1]<;>rfl) ?_
  exact hj _ (by kernel_rfl) (by kernel_rfl)
 ·
  have fS:=h1
  replace fS:=of_decide_eq_false fS
  refine zD 3<|jw 38 (.bool ((decide (xO.head <0))||(decide (od.head <0)))) (w:= .bool (decide (od.head <0))) (by rw[h1]<;>rfl) ?_
  exact hj _ (by kernel_rfl) (by kernel_rfl)
 refine zD 1<|jj 4 [(1,zP f),(10,.bool false),(11,zI xO.head),(12,zI od.head),(43,.bool (((decide (xO.head <0))||(decide (od.head <0)))||(decide (xO.head=od.head))))] (fun gD=>?_) (fun hj=>?_)
 rotate_left
 refine js 39 ((decide (xO.head <0))||(decide (od.head <0))) (fun h2=>?_) (fun h2=>?_)
 ·
  have kF:=h2
  try simp only[zB] at kF
  refine zD 4<|jw 43 (.bool (((decide (xO.head <0))||(decide (od.head <0)))||(decide (xO.head=od.head)))) (w:= .bool true) (by rw[h2]<;>rfl) ?_
  exact hj _ (by kernel_rfl) (by kernel_rfl)
 ·
  have kF:=h2
  try simp only[zB] at kF
  refine zD 4<|jw 43 (.bool (((decide (xO.head <0))||(decide (od.head <0)))||(decide (xO.head=od.head)))) (w:= .bool (decide (xO.head=od.head))) (by rw[h2]<;>rfl) ?_
  exact hj _ (by kernel_rfl) (by kernel_rfl)
 refine zD 1<|js 43 (((decide (xO.head <0))||(decide (od.head <0)))||(decide (xO.head=od.head))) (fun h3=>?_) (fun h3=>?_)
 ·
  try simp only[zB] at h3
  refine zD 6<|aE q0 (.bool false) [] [] [] (Sub.refl _) ⟨_,_,rfl,rfl,by rw[ha] at pS;cases pS;rw[hb] at jQ;cases jQ;rw[B0,if_pos (by omega)],rfl⟩
 try simp only[zB] at h3
 refine zD 8<|jl (b:=f) (off:=0) (m:=13) (vs:=[c0,c1,c2,.slice eC K.cs.length ek,.slice dJ hv.length dr,.slice lR K.rules.length lQ,.slice k9 K.before.length kz,.slice ld K.after.length kA,zI K.gone,zI K.new,zI K.af,.slice lS K.facts.length kN,.slice mV rows.length mE]) 3 ⟨_,_,_,.inl hf,rfl⟩<|zD 5<|jl (b:=f) (off:=0) (m:=13) (vs:=[c0,c1,c2,.slice eC K.cs.length ek,.slice dJ hv.length dr,.slice lR K.rules.length lQ,.slice k9 K.before.length kz,.slice ld K.after.length kA,zI K.gone,zI K.new,zI K.af,.slice lS K.facts.length kN,.slice mV rows.length mE]) 4 ⟨_,_,_,.inl hf,rfl⟩<|zD 1 ?_
 obtain⟨x57,Db⟩:=zG hv (xO.head.toNat) (by have:=Vo oe (hV.before.2 _ (List.mem_of_getElem? pS)).2 (by omega);omega)
 refine Mj xO.head dr 4 qB Db (Int.toNat_of_nonneg (show 0≤xO.head∧xO.head <((hv).length:Int) from (by have:=Vo oe (hV.before.2 _ (List.mem_of_getElem? pS)).2 (by omega);omega)).1).symm ?_
 refine zD 1<|jl 1 (qA _ _ Db)<|zD 5<|jl (b:=f) (off:=0) (m:=13) (vs:=[c0,c1,c2,.slice eC K.cs.length ek,.slice dJ hv.length dr,.slice lR K.rules.length lQ,.slice k9 K.before.length kz,.slice ld K.after.length kA,zI K.gone,zI K.new,zI K.af,.slice lS K.facts.length kN,.slice mV rows.length mE]) 4 ⟨_,_,_,.inl hf,rfl⟩<|zD 1 ?_
 obtain⟨x67,aju⟩:=zG hv (od.head.toNat) (by have:=Vo oe (hV.after.2 _ (List.mem_of_getElem? jQ)).2 (by omega);omega)
 refine Mj od.head dr 4 qB aju (Int.toNat_of_nonneg (show 0≤od.head∧od.head <((hv).length:Int) from (by have:=Vo oe (hV.after.2 _ (List.mem_of_getElem? jQ)).2 (by omega);omega)).1).symm ?_
 refine zD 1<|jl 1 (qA _ _ aju)<|jp (vs:=[.agg ⟨[.slice eC K.cs.length ek,.slice dJ hv.length dr]⟩,zI x57.cls,zI x67.cls]) [] [] (fun aA hs hZ=>an7 (rC.up hs) oe hV.eE (Vp oe hV.eE (hV.before.2 _ (List.mem_of_getElem? pS)).2 (by omega) Db).2 (Vp oe hV.eE (hV.after.2 _ (List.mem_of_getElem? jQ)).2 (by omega) aju).2)<|zD 9<|jp (vs:=[zI 0]) [] [] (fun aA hs hZ=>zn)<|zD 8<|aE q0 (.bool (decide ((Ft K.cs x57.cls x67.cls) <0))) [] [] [] (Sub.refl _) ⟨_,_,rfl,rfl,by rw[ha] at pS;cases pS;rw[hb] at jQ;cases jQ;rw[B0,if_neg (by omega),(Vp oe hV.eE (hV.before.2 _ (List.mem_of_getElem? ha)).2 (by omega) Db).1,(Vp oe hV.eE (hV.after.2 _ (List.mem_of_getElem? hb)).2 (by omega) aju).1],rfl⟩
theorem ai4{rows:List bK}{a:Nat}{on:Int}{ro:Nat→Option Obj}(hF:oX ro f K rows)(hV:fH K):dz zT 319 [.agg ⟨[]⟩,zP f,zI (a:Int),zI (b:Int),.int .u8 on] ro (.bool (Ho on a b K.facts 0)):=by
 obtain⟨c0,c1,c2,vc,vh,vr,vb,va,vf,vt,hv,hf,rC,oe,hr,Dm,HK,I0,bL⟩:=id hF
 obtain⟨hc,hh,cX⟩:=id rC
 obtain⟨eC,AO,AN,ek,rfl,C5,yI,yH⟩:=hc
 obtain⟨dJ,uK,uJ,dr,rfl,wZ,qB,qA⟩:=hh
 obtain⟨lR,JX,JW,lQ,rfl,Ni,Is,Ir⟩:=hr
 obtain⟨k9,J2,J0,kz,rfl,J1,EN,EM⟩:=Dm
 obtain⟨ld,J5,J3,kA,rfl,J4,EP,EO⟩:=HK
 obtain⟨lS,Q4,Q1,kN,rfl,Q3,JZ,JY⟩:=I0
 obtain⟨mV,C4,C3,mE,rfl,Nf,JV,JU⟩:=bL
 have P0:=hV.rules.1
 have FR:=hV.before.1
 have HE:=hV.after.1
 have hnf:=hV.facts.1
 refine bA au [] [] bn<|zD 2<|jn fun b5=>zD 9<|jl (b:=f) (off:=0) (m:=13) (vs:=[c0,c1,c2,.slice eC K.cs.length ek,.slice dJ hv.length dr,.slice lR K.rules.length lQ,.slice k9 K.before.length kz,.slice ld K.after.length kA,zI K.gone,zI K.new,zI K.af,.slice lS K.facts.length kN,.slice mV rows.length mE]) 11 ⟨_,_,_,.inl hf,rfl⟩<|zD 4<|ez [1,0,1,0,0] [] (fun(zz:Nat)=>[(2,zI (a:Int)),(3,zI (b:Int)),(4,.int .u8 on),(17,.slice lS K.facts.length kN),(18,zI (K.facts.length:Int)),(19,zI (zz:Int))]) (fun(zz:Nat)=>[]) (fun(zz:Nat)=>zz≤K.facts.length∧Ho on a b K.facts 0=Ho on a b (K.facts.drop zz) zz) (fun(zz:Nat)=>K.facts.length-zz) 0 ⟨by omega,rfl⟩ [] ?_
 rintro k hI K1 bM rest
 refine zD 5<|zJ 20 ((k:Int) <(K.facts.length:Int)) (fun h1=>?_) fun h1=>?_
 ·
  refine zD 7 ?_
  obtain⟨rG,tI⟩:=zG K.facts k
  refine ij kN 3 JZ tI<|jl 0 (JY _ _ tI)<|jn fun jq=>jd 7 [0]<|jp (vs:=[.int .u8 on,zI (k:Int)]) [] [] (fun aA hs hZ=>(apX (by omega)))<|zD 1<|jj 5 [(2,zI (a:Int)),(3,zI (b:Int)),(4,.int .u8 on),(12,zP jq),(17,.slice lS K.facts.length kN),(18,zI (K.facts.length:Int)),(19,zI (k:Int)),(32,.bool ((hasB on (k:Int))&&(decide (rG.a=(a:Int)))))] (fun gD=>?_) (fun hj=>?_)
  rotate_left
  refine js 27 (hasB on (k:Int)) (fun h2=>?_) (fun h2=>?_)
  ·
   refine jd 5 [0]<|jw 32 (.bool ((hasB on (k:Int))&&(decide (rG.a=(a:Int))))) (w:= .bool (decide (rG.a=(a:Int)))) (by rw[h2]<;>rfl) ?_
   exact hj _ (by kernel_rfl) (by kernel_rfl)
  ·
   refine zD 5<|jw 32 (.bool ((hasB on (k:Int))&&(decide (rG.a=(a:Int))))) (w:= .bool false) (by rw[h2]<;>rfl) ?_
   exact hj _ (by kernel_rfl) (by kernel_rfl)
  refine zD 1<|jj 5 [(2,zI (a:Int)),(3,zI (b:Int)),(4,.int .u8 on),(12,zP jq),(17,.slice lS K.facts.length kN),(18,zI (K.facts.length:Int)),(19,zI (k:Int)),(38,.bool (((hasB on (k:Int))&&(decide (rG.a=(a:Int))))&&(decide (rG.b=(b:Int)))))] (fun gD=>?_) (fun hj=>?_)
  rotate_left
  refine js 33 ((hasB on (k:Int))&&(decide (rG.a=(a:Int)))) (fun h3=>?_) (fun h3=>?_)
  ·
   have sC:=h3
   try simp only[zB] at sC
   refine jd 5 [0]<|jw 38 (.bool (((hasB on (k:Int))&&(decide (rG.a=(a:Int))))&&(decide (rG.b=(b:Int))))) (w:= .bool (decide (rG.b=(b:Int)))) (by rw[h3]<;>rfl) ?_
   exact hj _ (by kernel_rfl) (by kernel_rfl)
  ·
   have sC:=h3
   try simp only[zB] at sC
   refine zD 5<|jw 38 (.bool (((hasB on (k:Int))&&(decide (rG.a=(a:Int))))&&(decide (rG.b=(b:Int))))) (w:= .bool false) (by rw[h3]<;>rfl) ?_
   exact hj _ (by kernel_rfl) (by kernel_rfl)
  refine zD 1<|jj 4 [(2,zI (a:Int)),(3,zI (b:Int)),(4,.int .u8 on),(17,.slice lS K.facts.length kN),(18,zI (K.facts.length:Int)),(19,zI (k:Int)),(43,.bool ((((hasB on (k:Int))&&(decide (rG.a=(a:Int))))&&(decide (rG.b=(b:Int))))&&(!rG.same)))] (fun gD=>?_) (fun hj=>?_)
  rotate_left
  refine js 39 (((hasB on (k:Int))&&(decide (rG.a=(a:Int))))&&(decide (rG.b=(b:Int)))) (fun h4=>?_) (fun h4=>?_)
  ·
   have xC:=h4
   try simp only[zB] at xC
   refine jd 4 [0]<|jw 43 (.bool ((((hasB on (k:Int))&&(decide (rG.a=(a:Int))))&&(decide (rG.b=(b:Int))))&&(!rG.same))) (w:= .bool (!rG.same)) (by rw[h4]<;>rfl) ?_
   exact hj _ (by kernel_rfl) (by kernel_rfl)
  ·
   have xC:=h4
   try simp only[zB] at xC
   refine zD 4<|jw 43 (.bool ((((hasB on (k:Int))&&(decide (rG.a=(a:Int))))&&(decide (rG.b=(b:Int))))&&(!rG.same))) (w:= .bool false) (by rw[h4]<;>rfl) ?_
   exact hj _ (by kernel_rfl) (by kernel_rfl)
  refine zD 1<|js 43 ((((hasB on (k:Int))&&(decide (rG.a=(a:Int))))&&(decide (rG.b=(b:Int))))&&(!rG.same)) (fun h5=>?_) (fun h5=>?_)
  ·
   refine zD 6<|aE q0 (.bool true) [] [] [] (Sub.refl _) ⟨_,_,rfl,rfl,by rw[hI.2,T3 tI,show (((hasB on k&&decide (rG.a=a))&&decide (rG.b=b))&& !rG.same)=true from (by assumption)];rfl,rfl⟩
  refine zD 3<|ja ((k:Int)+1) (by omega)<|zD 2<|bO bM (k+1) ⟨by omega,by rw[hI.2,T3 tI,show (((hasB on k&&decide (rG.a=a))&&decide (rG.b=b))&& !rG.same)=false from (by assumption)];rfl⟩ (by omega) [] (Sub.refl _)
 refine zD 7<|aE q0 (.bool false) [] [] [] (Sub.refl _) ⟨_,_,rfl,rfl,by rw[hI.2,aak (by omega)],rfl⟩
theorem ayc{rows:List bK}{a:Nat}{on:Int}{ro:Nat→Option Obj}(hF:oX ro f K rows)(hV:fH K)(ha:K.before[a]?=some x) (hb:K.after[b]?=some y):dz zT 97 [zP f,zI (a:Int),zI (b:Int),.int .u8 on] ro (.bool (cY K on a b)):=by
 refine bA au [] [] bn<|zD 7<|jp [] [] (fun aA hs hZ=>ax9)<|zD 3<|ez [1,0,1,0,0] [] (fun(zz:Nat)=>[(0,zP f),(1,zI (a:Int)),(2,zI (b:Int)),(3,.int .u8 on),(11,.agg ⟨[.iface 272 (.agg ⟨[]⟩),.iface 273 (.agg ⟨[]⟩),.iface 274 (.agg ⟨[]⟩)]⟩),(12,zI (zz:Int))]) (fun(zz:Nat)=>[]) (fun(zz:Nat)=>zz≤3∧(1≤zz→LU K x y=false)∧(2≤zz→B0 K x y=false)∧(3≤zz→Ho on a b K.facts 0=false)) (fun(zz:Nat)=>3-zz) 0 ⟨by omega,nofun,nofun,nofun⟩ [] ?_
 rintro k hI K1 bM rest
 refine zD 5<|zJ 13 ((k:Int) <3) (fun h1=>?_) fun h1=>?_
 ·
  refine zD 6 ?_
  obtain rfl|rfl|rfl:k=0∨k=1∨k=2:=by omega
  ·
   refine zD 10<|jpI (vs:=[.agg ⟨[]⟩,zP f,zI (a:Int),zI (b:Int),.int .u8 on]) (fun aA hs=>apC (hF.up hs) hV ha hb)<|zD 1<|js 20 (LU K x y) (fun h2=>?_) (fun h2=>?_)
   ·
    refine zD 6<|aE q0 (.bool false) [] [] [] (Sub.refl _) ⟨_,_,rfl,rfl,by simp only[cY,ha,hb];simp[*],rfl⟩
   refine zD 6<|bO bM 1 ⟨by omega,(fun _=>by assumption),nofun,nofun⟩ (by omega) [] (Sub.refl _)
  ·
   refine zD 10<|jpI (vs:=[.agg ⟨[]⟩,zP f,zI (a:Int),zI (b:Int),.int .u8 on]) (fun aA hs=>ach (hF.up hs) hV ha hb)<|zD 1<|js 20 (B0 K x y) (fun h3=>?_) (fun h3=>?_)
   ·
    refine zD 6<|aE q0 (.bool false) [] [] [] (Sub.refl _) ⟨_,_,rfl,rfl,by simp only[cY,ha,hb];simp[*],rfl⟩
   refine zD 6<|bO bM 2 ⟨by omega,(fun _=>hI.2.1 (by omega)),(fun _=>by assumption),nofun⟩ (by omega) [] (Sub.refl _)
  refine zD 10<|jpI (vs:=[.agg ⟨[]⟩,zP f,zI (a:Int),zI (b:Int),.int .u8 on]) (fun aA hs=>ai4 (hF.up hs) hV)<|zD 1<|js 20 (Ho on a b K.facts 0) (fun h4=>?_) (fun h4=>?_)
  ·
   refine zD 6<|aE q0 (.bool false) [] [] [] (Sub.refl _) ⟨_,_,rfl,rfl,by simp only[cY,ha,hb];simp[*],rfl⟩
  refine zD 6<|bO bM 3 ⟨by omega,(fun _=>hI.2.1 (by omega)),(fun _=>hI.2.2.1 (by omega)),(fun _=>by assumption)⟩ (by omega) [] (Sub.refl _)
 refine zD 7<|aE q0 (.bool true) [] [] [] (Sub.refl _) ⟨_,_,rfl,rfl,by simp only[cY,ha,hb,hI.2.1 (by omega),hI.2.2.1 (by omega),hI.2.2.2 (by omega)];rfl,rfl⟩
abbrev eP4(p:Nat→Int):List Value:=[zI (p 0),zI (p 1),zI (p 2),zI (p 3)]
abbrev pL(p:Nat→Int):List Int:=[p 0,p 1,p 2,p 3]
def pq(p:Nat→Int)(a:Nat)(v:Int):Nat→Int:=fun i=>if i=a then v else p i
theorem Kq{a:Nat}(h:a <4):a=0∨a=1∨a=2∨a=3:=by omega
theorem ao0{a:Nat}(h:a <4):nth (eP4 p) (0+(a:Int).toNat*1)=some (zI (p a)):=by
 rcases Kq h with rfl|rfl|rfl|rfl<;>rfl
theorem aoZ{a:Nat}{v:Int}(h:a <4):de (eP4 p) (0+(a:Int).toNat*1) [zI v]=eP4 (pq p a v):=by
 rcases Kq h with rfl|rfl|rfl|rfl<;>rfl
theorem ao1{a:Nat}{v:Value}(h:a <4):Nat.ble ((0+(a:Int).toNat*1)+[v].length) (eP4 p).length=true:=by
 rcases Kq h with rfl|rfl|rfl|rfl<;>rfl
theorem T6{r:bK}{a:Nat}(h:a <4)(k:b <4):nth (BP r) (0+(a:Int).toNat*4+(b:Int).toNat*1)=some (.bool (r.c a b)):=by
 rcases Kq h with rfl|rfl|rfl|rfl<;>rcases Kq k with rfl|rfl|rfl|rfl<;>rfl
def iA(r:bK)(a b:Nat)(v:Bool):bK:=⟨fun i j=>if i=a∧j=b then v else r.c i j⟩
theorem T5{r:bK}{a:Nat}{v:Bool}(h:a <4)(k:b <4):de (BP r) (0+(a:Int).toNat*4+(b:Int).toNat*1) [.bool v]=BP (iA r a b v):=by
 rcases Kq h with rfl|rfl|rfl|rfl<;>rcases Kq k with rfl|rfl|rfl|rfl<;>rfl
theorem T7{r:bK}{a:Nat}{v:Value}(h:a <4)(k:b <4):Nat.ble ((0+(a:Int).toNat*4+(b:Int).toNat*1)+[v].length) (BP r).length=true:=by
 rcases Kq h with rfl|rfl|rfl|rfl<;>rcases Kq k with rfl|rfl|rfl|rfl<;>rfl
def ov(on:Int)(p:Nat→Int):List gV→Nat→Bool
 | [],_=>true
 |x::l,k=>bif (hasB on k&&x.same)&& !decide (p x.a.toNat=x.b+1) then false else ov on p l (k+1)
theorem wy{on:Int}{x:gV}(h:l[k]?=some x):ov on p (l.drop k) k=bif (hasB on k&&x.same)&& !decide (p x.a.toNat=x.b+1) then false else ov on p (l.drop (k+1)) (k+1):=by rw[fN h];rfl
theorem QN{on:Int}(h:¬k <l.length):ov on p (l.drop k) k=true:=by rw[eF h];rfl
def So(p:Nat→Int)(a:Nat)(v:Int):Bool:=decide (cQ (fun y=>decide (v=y)) ((pL p).take a) 0≥0)
theorem ahW{ro:Nat→Option Obj}{T:TypeId}(h:ro b=some (.cells ⟨eP4 p⟩ T (0,0)))(hn:n≤4):bI ro (.slice (some ⟨b,0,none⟩) n 4) 1 cJ ((pL p).take n):=by
 have:=bI.part (bS (enc:=cJ) (T:=T) (pL p) h (fun _ _=>rfl)) (l:=0) (h:=n) (by omega) (by simpa using hn)
 simpa [dG] using this
theorem ap6{v:Value}{n:Int}{ro:Nat→Option Obj}(hl:bI ro v 1 cJ xs)(hn:xs.length≤1000000):dz zT 135 [v,zI n] ro (zI (cQ (fun y=>decide (n=y)) xs 0)):=by
 obtain⟨fp,rh,q9,eJ,rfl,tq,k8,me⟩:=hl
 refine bA au [] [] bn<|zD 12<|ez [1,0,1,0,0] [] (fun(zz:Nat)=>[(0,.slice fp xs.length eJ),(1,zI n),(7,zI (xs.length:Int)),(8,zI (zz:Int))]) (fun(zz:Nat)=>[]) (fun(zz:Nat)=>zz≤xs.length∧cQ (fun y=>decide (n=y)) xs 0=cQ (fun y=>decide (n=y)) (xs.drop zz) zz) (fun(zz:Nat)=>xs.length-zz) 0 ⟨by omega,rfl⟩ [] ?_
 rintro k hI K1 bM rest
 refine zD 5<|zJ 9 ((k:Int) <(xs.length:Int)) (fun h1=>?_) fun h1=>?_
 ·
  refine zD 14 ?_
  obtain⟨fC,eA⟩:=zG xs k
  refine ij eJ 1 k8 eA<|jl 0 (me _ _ eA)<|zD 2<|zJ 16 (n=fC) (fun h2=>?_) fun h2=>?_
  ·
   refine zD 7<|aE q0 (zI (k:Int)) [] [] [] (Sub.refl _) ⟨_,_,rfl,rfl,by rw[hI.2,jm eA];simp[*],rfl⟩
  refine zD 3<|ja ((k:Int)+1) (by omega)<|zD 2<|bO bM (k+1) ⟨by omega,by rw[hI.2,jm eA];simp[*]⟩ (by omega) [] (Sub.refl _)
 refine zD 7<|aE q0 (zI (-1)) [] [] [] (Sub.refl _) ⟨_,_,rfl,rfl,by rw[hI.2,p8 (by omega)],rfl⟩
theorem aMM{v:Value}{n:Int}{ro:Nat→Option Obj}(hl:bI ro v 1 cJ xs)(hn:xs.length≤1000000):dz zT 101 [v,zI n] ro (.bool (decide (cQ (fun y=>decide (n=y)) xs 0≥0))):=by
 obtain⟨fp,rh,q9,eJ,rfl,tq,k8,me⟩:=hl
 refine bA au [] [] bn<|zD 8<|jp (vs:=[.slice fp xs.length eJ,zI n]) [] [] (fun aA hs hZ=>ap6 ((show bI _ _ _ _ _ from ⟨fp,rh,q9,eJ,rfl,tq,k8,me⟩).up hs) (by first|omega| (simp only[List.length_set,List.length_append,List.length_cons,List.length_nil];omega))) ?_
 refine zD 4<|aE q0 (.bool (decide ((cQ (fun y=>decide (n=y)) xs 0)≥0))) [] [] [] (Sub.refl _) ⟨_,_,rfl,rfl,rfl,rfl⟩
theorem apD{rows:List bK}{on:Int}{ro:Nat→Option Obj}(hF:oX ro f K rows)(hV:fH K)(g1:ro b1=some (.cells ⟨[zP f]⟩ 94 (0,0)))(g2:ro b2=some (.cells ⟨[.int .u8 on]⟩ 99 (0,0))):dz zT 98 [.agg ⟨[zI (p 0),zI (p 1),zI (p 2),zI (p 3)]⟩,zP b1,zP b2] ro (.bool (ov on p K.facts 0)):=by
 obtain⟨c0,c1,c2,vc,vh,vr,vb,va,vf,vt,hv,hf,rC,oe,hr,Dm,HK,I0,bL⟩:=id hF
 obtain⟨hc,hh,cX⟩:=id rC
 obtain⟨eC,AO,AN,ek,rfl,C5,yI,yH⟩:=hc
 obtain⟨dJ,uK,uJ,dr,rfl,wZ,qB,qA⟩:=hh
 obtain⟨lR,JX,JW,lQ,rfl,Ni,Is,Ir⟩:=hr
 obtain⟨k9,J2,J0,kz,rfl,J1,EN,EM⟩:=Dm
 obtain⟨ld,J5,J3,kA,rfl,J4,EP,EO⟩:=HK
 obtain⟨lS,Q4,Q1,kN,rfl,Q3,JZ,JY⟩:=I0
 obtain⟨mV,C4,C3,mE,rfl,Nf,JV,JU⟩:=bL
 have P0:=hV.rules.1
 have FR:=hV.before.1
 have HE:=hV.after.1
 have hnf:=hV.facts.1
 refine bA au [] [] bn<|zD 2<|jn fun b3=>zD 5<|jl (b:=b1) (off:=0) (m:=1) (vs:=[zP f]) 0 ⟨_,_,_,.inl g1,rfl⟩<|zD 3<|jl (b:=f) (off:=0) (m:=13) (vs:=[c0,c1,c2,.slice eC K.cs.length ek,.slice dJ hv.length dr,.slice lR K.rules.length lQ,.slice k9 K.before.length kz,.slice ld K.after.length kA,zI K.gone,zI K.new,zI K.af,.slice lS K.facts.length kN,.slice mV rows.length mE]) 11 ⟨_,_,_,.inl hf,rfl⟩<|zD 4<|ez [1,0,1,0,0] [] (fun(zz:Nat)=>[(2,zP b2),(3,zP b3),(11,.slice lS K.facts.length kN),(12,zI (K.facts.length:Int)),(13,zI (zz:Int))]) (fun(zz:Nat)=>[.b b3 (.cells ⟨[zI (p 0),zI (p 1),zI (p 2),zI (p 3)]⟩ 122 (0,0))]) (fun(zz:Nat)=>zz≤K.facts.length∧ov on p K.facts 0=ov on p (K.facts.drop zz) zz) (fun(zz:Nat)=>K.facts.length-zz) 0 ⟨by omega,rfl⟩ [0] ?_
 rintro k hI K1 bM rest
 refine zD 5<|zJ 14 ((k:Int) <(K.facts.length:Int)) (fun h1=>?_) fun h1=>?_
 ·
  refine zD 7 ?_
  obtain⟨AT,oz⟩:=zG K.facts k
  refine ij kN 3 JZ oz<|jl 0 (JY _ _ oz)<|jn fun b6=>jd 4 [0] ?_
  have hf4:=(hV.facts.2 _ (List.mem_of_getElem? oz)).1
  have hf5:=(hV.facts.2 _ (List.mem_of_getElem? oz)).2
  have hae:AT.a=(AT.a.toNat:Int):=by omega
  refine zD 1<|jl (b:=b2) (off:=0) (m:=1) (vs:=[.int .u8 on]) 0 ⟨_,_,_,.inl g2,rfl⟩<|zD 1<|jp (vs:=[.int .u8 on,zI (k:Int)]) [] [] (fun aA hs hZ=>(apX (by omega)))<|zD 1<|js 3 (hasB on (k:Int)) (fun h2=>?_) (fun h2=>?_)
  ·
   refine jd 4 [0]<|js 7 AT.same (fun h3=>?_) (fun h3=>?_)
   ·
    refine jd 2 [0]<|IS (b:=b3) (off:=0) (len:=4) (sz:=1) AT.a (by omega)<|oJ (b:=b3) (off:=0+AT.a.toNat*1) (m:=1) (vs:=[zI (p AT.a.toNat)]) 0 [1] [(b3,.cells ⟨[zI (p 0),zI (p 1),zI (p 2),zI (p 3)]⟩ 122 (0,0))] (fun s _ hZ=>rY (hZ _ (.head _)) (by rw[hae];exact ao0 (by omega))) ?_
    refine jd 2 [0]<|ja (AT.b+1) (by omega)<|zD 3<|js 34 (!decide ((p AT.a.toNat)=(AT.b+1))) (fun h4=>?_) (fun h4=>?_)
    ·
     replace h4:=of_decide_eq_false (by simpa using h4)
     refine zD 6<|aE q0 (.bool false) [] [] [] (Sub.refl _) ⟨_,_,rfl,rfl,by rw[hI.2,wy oz];simp only[h2,h3,decide_eq_false h4,Bool.and_true,Bool.true_and,Bool.not_false,Bool.not_true,Bool.and_false,Bool.false_and,cond_true,cond_false],rfl⟩
    replace h4:=of_decide_eq_true (by simpa using h4)
    refine zD 3<|ja ((k:Int)+1) (by omega)<|zD 2<|bO bM (k+1) ⟨by omega,by rw[hI.2,wy oz];simp only[h2,h3,decide_eq_true h4,Bool.and_true,Bool.true_and,Bool.not_false,Bool.not_true,Bool.and_false,Bool.false_and,cond_true,cond_false]⟩ (by omega) [1] (Sub.refl _)
   refine zD 13<|ja ((k:Int)+1) (by omega)<|zD 2<|bO bM (k+1) ⟨by omega,by rw[hI.2,wy oz];simp only[h2,h3,Bool.and_true,Bool.true_and,Bool.not_false,Bool.not_true,Bool.and_false,Bool.false_and,cond_true,cond_false]⟩ (by omega) [1] (Sub.refl _)
  refine zD 17<|ja ((k:Int)+1) (by omega)<|zD 2<|bO bM (k+1) ⟨by omega,by rw[hI.2,wy oz];simp only[h2,Bool.and_true,Bool.true_and,Bool.not_false,Bool.not_true,Bool.and_false,Bool.false_and,cond_true,cond_false]⟩ (by omega) [1] (Sub.refl _)
 refine zD 7<|aE q0 (.bool true) [] [] [] (Sub.refl _) ⟨_,_,rfl,rfl,by rw[hI.2,QN (by omega)],rfl⟩
def jk(K:aZ)(on:Int):Nat→Nat→(Nat→Int)→List (Nat→Int)
 |0,_,p=>bif ov on p K.facts 0 then [p] else []
 |n+1,a,p=>jk K on n (a+1) p++(List.range K.after.length).flatMap fun b=>bif !cY K on a b||So p a ((b:Int)+1) then [] else jk K on n (a+1) (pq p a ((b:Int)+1))
def mM(K:aZ)(on:Int)(n a:Nat)(p:Nat→Int)(b:Nat):List (Nat→Int):=bif !cY K on a b||So p a ((b:Int)+1) then [] else jk K on n (a+1) (pq p a ((b:Int)+1))
theorem p6(K:aZ)(on:Int)(n a:Nat)(p:Nat→Int):jk K on (n+1) a p=jk K on n (a+1) p++(List.range K.after.length).flatMap (mM K on n a p):=rfl
theorem Part.left{α:Type}{L x y:List α}{p:Nat}(h:Part L p (x++y)):Part L p x:=by
 obtain⟨a,b,rfl,h2⟩:=h
 exact⟨a,y++b,by simp,h2⟩
theorem Part.right{α:Type}{L x y:List α}{p:Nat}(h:Part L p (x++y)):Part L (p+x.length) y:=by
 obtain⟨a,b,rfl,rfl⟩:=h
 exact⟨a++x,b,by simp,by simp⟩
theorem WJ{j:Nat}(h:j <n):∃r,List.range n=List.range j++[j]++r:=by
 refine⟨(List.range n).drop (j+1),?_⟩
 have h1:(List.range n).take (j+1)=List.range (j+1):=by rw[List.take_range,Nat.min_eq_left h]
 rw[←List.range_succ,←h1,List.take_append_drop]
theorem Vt{q:Nat→Int}{a:Nat}{v:Int}(ha:a <4)(h:∀i,i≠a→q i=p i):So q a v=So p a v:=by
 have:(pL q).take a=(pL p).take a:=by
  rcases Kq ha with rfl|rfl|rfl|rfl
  ·rfl
  ·simp[h 0 (by omega)]
  ·simp[h 0 (by omega),h 1 (by omega)]
  simp[h 0 (by omega),h 1 (by omega),h 2 (by omega)]
 simp only[So,this]
theorem TD{q:Nat→Int}{a:Nat}{v:Int}(h:∀i,i≠a→q i=p i):pq q a v=pq p a v:=by
 funext i
 simp only[pq]
 split
 ·rfl
 rename_i hi;exact h i hi
abbrev ePs(L:List (Nat→Int)):(Nat→Option Obj)→Nat→List Value→Cells→Prop:=fun _ k vs LL=>∃p,L[k]?=some p∧vs=[.agg ⟨eP4 p⟩]∧LL=[]
structure agd(ro:Nat→Option Obj)(bl f:Nat)(K:aZ)(on:Int)(bf br bu bg bt bo:Nat):Prop where
 f:ro bf=some (.cells ⟨[zP f]⟩ 94 (0,0))
 r:ro br=some (.cells ⟨[.func (.func 98) ⟨[]⟩ ⟨[zP bf,zP bo]⟩]⟩ 187 (0,0))
 y:ro bu=some (.cells ⟨[.func (.yield bl) #[] #[]]⟩ 187 (0,0))
 g:ro bg=some (.cells ⟨[.func (.func 100) ⟨[]⟩ ⟨[zP bf,zP br,zP bu,zP bg,zP bt]⟩]⟩ 188 (0,0))
 t:ro bt=some (.cells ⟨BP ⟨cY K on⟩⟩ 139 (0,0))
 o:ro bo=some (.cells ⟨[.int .u8 on]⟩ 99 (0,0))
def anj(bl f:Nat)(K:aZ)(rows:List bK)(on:Int)(bf br bu bg bt bo:Nat)(L:List (Nat→Int))(Inv:Nat→Cells→Prop)(Stop:Cells→Prop)(n:Nat):Prop:=
 ∀(ro:Nat→Option Obj) (a:Nat) (p:Nat→Int) (q:Nat) (B:Cells),agd ro bl f K on bf br bu bg bt bo→oX ro f K rows→a+n=K.before.length→Part L q (jk K on n a p)→Inv q B→YE zT bl ro L.length (ePs L) Inv Stop→
  eo zT 100 [.agg ⟨eP4 p⟩,zI (a:Int),zP bf,zP br,zP bu,zP bg,zP bt] ro B (fun r Y=>∃c,r= .bool c∧(c=true→Inv (q+(jk K on n a p).length) Y)∧(c=false→Stop Y))
theorem apY{a q:Nat}{on:Int}{B:Cells}{L:List (Nat→Int)}{Inv:Nat→Cells→Prop}{rows:List bK}{ro:Nat→Option Obj}(ih:∀m,m <n→anj bl f K rows on bf br bu bg bt bo L Inv Stop m)(hV:fH K)(nV:agd ro bl f K on bf br bu bg bt bo)(hF:oX ro f K rows)(han:a+n=K.before.length)(hP:Part L q (jk K on n a p))(hB:Inv q B)(hy:YE zT bl ro L.length (ePs L) Inv Stop):eo zT 100 [.agg ⟨[zI (p 0),zI (p 1),zI (p 2),zI (p 3)]⟩,zI (a:Int),zP bf,zP br,zP bu,zP bg,zP bt] ro B (fun r Y=>∃c,r= .bool c∧(c=true→Inv (q+(jk K on n a p).length) Y)∧(c=false→Stop Y)):=by
 obtain⟨gf,gr,gy,gg,gt,go⟩:=id nV
 obtain⟨c0,c1,c2,vc,vh,vr,vb,va,vf,vt,hv,hf,rC,oe,hr,Dm,HK,I0,bL⟩:=id hF
 obtain⟨hc,hh,cX⟩:=id rC
 obtain⟨eC,AO,AN,ek,rfl,C5,yI,yH⟩:=hc
 obtain⟨dJ,uK,uJ,dr,rfl,wZ,qB,qA⟩:=hh
 obtain⟨lR,JX,JW,lQ,rfl,Ni,Is,Ir⟩:=hr
 obtain⟨k9,J2,J0,kz,rfl,J1,EN,EM⟩:=Dm
 obtain⟨ld,J5,J3,kA,rfl,J4,EP,EO⟩:=HK
 obtain⟨lS,Q4,Q1,kN,rfl,Q3,JZ,JY⟩:=I0
 obtain⟨mV,C4,C3,mE,rfl,Nf,JV,JU⟩:=bL
 have P0:=hV.rules.1
 have FR:=hV.before.1
 have HE:=hV.after.1
 have hnf:=hV.facts.1
 refine bA au [.l B] [] bn<|zD 2<|jn fun b7=>zD 6<|jl (b:=bf) (off:=0) (m:=1) (vs:=[zP f]) 0 ⟨_,_,_,.inl gf,rfl⟩<|zD 3<|jl (b:=f) (off:=0) (m:=13) (vs:=[c0,c1,c2,.slice eC K.cs.length ek,.slice dJ hv.length dr,.slice lR K.rules.length lQ,.slice k9 K.before.length kz,.slice ld K.after.length kA,zI K.gone,zI K.new,zI K.af,.slice lS K.facts.length kN,.slice mV rows.length mE]) 6 ⟨_,_,_,.inl hf,rfl⟩<|zD 3<|zJ 18 ((a:Int)=(K.before.length:Int)) (fun h1=>?_) fun h1=>?_
 ·
  refine zD 2 ?_
  obtain rfl:n=0:=by omega
  refine zD 1<|jl (b:=br) (off:=0) (m:=1) (vs:=[.func (.func 98) ⟨[]⟩ ⟨[zP bf,zP bo]⟩]) 0 ⟨_,_,_,.inl gr,rfl⟩<|jd 1 [0]<|jp (vs:=[.agg ⟨[zI (p 0),zI (p 1),zI (p 2),zI (p 3)]⟩,zP bf,zP bo]) [] [] (fun aA hs hZ=>apD (hF.up hs) hV (hs _ _ gf) (hs _ _ go))<|zD 2<|js 23 (!(ov on p K.facts 0)) (fun h2=>?_) (fun h2=>?_)
  ·
   have kF:=h2
   try simp only[zB] at kF
   refine zD 7<|aE q0 (.bool true) [] [1] B (Sub.refl _) ⟨_,_,rfl,rfl,_,rfl,(fun _=>by rw[show jk K on 0 a p=[] by simp only[jk,show ov on p K.facts 0=false by simpa using h2];rfl];exact hB),nofun⟩
  have kF:=h2
  try simp only[zB] at kF
  have adD:jk K on 0 a p=[p]:=by simp only[jk,show ov on p K.facts 0=true by simpa using h2];rfl
  have YV:=Part.get (i:=0) (x:=p) hP (by rw[adD];rfl)
  refine jl (b:=bu) (off:=0) (m:=1) (vs:=[(.func (.yield bl) #[] #[])]) 0 ⟨_,_,_,.inl gy,rfl⟩<|jd 1 [0]<|jyc [1] (hy q [.agg ⟨[zI (p 0),zI (p 1),zI (p 2),zI (p 3)]⟩] [] B ro YV.1 ⟨_,YV.2,rfl,rfl⟩ hB (Sub.refl _)) (Sub.refl _) ?_
  intro v26 Y26 aM0
  obtain⟨c26,rfl,aPF,aPs⟩:=yb aM0
  refine zD 4<|aE q0 (.bool c26) [] [0] Y26 (Sub.refl _) ⟨_,_,rfl,rfl,_,rfl,(fun h=>by rw[adD];exact aPF h),aPs⟩
 refine zD 4 ?_
 obtain⟨m,rfl⟩:∃m,n=m+1:=⟨n-1,by omega⟩
 rw[p6] at hP
 refine zD 1<|jl (b:=bg) (off:=0) (m:=1) (vs:=[.func (.func 100) ⟨[]⟩ ⟨[zP bf,zP br,zP bu,zP bg,zP bt]⟩]) 0 ⟨_,_,_,.inl gg,rfl⟩<|jd 2 [0]<|ja ((a:Int)+1) (by omega)<|jc (vs:=[.agg ⟨[zI (p 0),zI (p 1),zI (p 2),zI (p 3)]⟩,zI ((a:Int)+1),zP bf,zP br,zP bu,zP bg,zP bt]) [1] (ih m (by omega) _ (a+1) p q _ nV hF (by omega) (Part.left hP) hB hy) ?_
 rintro _ Y32 ⟨c32,rfl,aPC,aPp⟩
 refine zD 2<|js 33 (!c32) (fun h3=>?_) (fun h3=>?_)
 ·
  try simp only[zB] at h3
  refine zD 6<|aE q0 (.bool false) [] [0] Y32 (Sub.refl _) ⟨_,_,rfl,rfl,_,rfl,nofun,fun _=>aPp (by simp_all)⟩
 try simp only[zB] at h3
 refine zD 5<|jl (b:=bf) (off:=0) (m:=1) (vs:=[zP f]) 0 ⟨_,_,_,.inl gf,rfl⟩<|zD 3<|jl (b:=f) (off:=0) (m:=13) (vs:=[c0,c1,c2,.slice eC K.cs.length ek,.slice dJ hv.length dr,.slice lR K.rules.length lQ,.slice k9 K.before.length kz,.slice ld K.after.length kA,zI K.gone,zI K.new,zI K.af,.slice lS K.facts.length kN,.slice mV rows.length mE]) 7 ⟨_,_,_,.inl hf,rfl⟩<|zD 4<|ez [1,1,1,0,1,0,0] [] (fun(zz:Nat×(Nat→Int)×Cells)=>[(1,zI (a:Int)),(5,zP bg),(6,zP bt),(7,zP b7),(39,zI (K.after.length:Int)),(40,zI (zz.1:Int))]) (fun(zz:Nat×(Nat→Int)×Cells)=>[.b b7 (.cells ⟨[zI (zz.2.1 0),zI (zz.2.1 1),zI (zz.2.1 2),zI (zz.2.1 3)]⟩ 122 (0,0)),.l zz.2.2]) (fun(zz:Nat×(Nat→Int)×Cells)=>zz.1≤K.after.length∧Inv (q+(jk K on m (a+1) p).length+((List.range zz.1).flatMap (mM K on m a p)).length) zz.2.2∧∀i,i≠a→zz.2.1 i=p i) (fun(zz:Nat×(Nat→Int)×Cells)=>K.after.length-zz.1) (⟨0,p,Y32⟩) ⟨by dsimp only;omega,by have:=aPC (by simp_all);simpa using this,fun _ _=>rfl⟩ [1,0] ?_
 rintro⟨j,pp,B⟩ hJ K1 bM rest
 dsimp only at hJ
 refine zD 5<|zJ 41 ((j:Int) <(K.after.length:Int)) (fun h4=>?_) fun h4=>?_
 ·
  refine zD 11 ?_
  have ha4:a <4:=by omega
  have hj4:j <4:=by omega
  obtain⟨rr,hrr⟩:=WJ (show j <K.after.length by omega)
  have hPj:=Part.flat (Part.right hP) hrr
  refine zD 3<|IS (b:=bt) (off:=0) (len:=4) (sz:=4) (a:Int) (by omega)<|IS (b:=bt) (off:=0+(a:Int).toNat*4) (len:=4) (sz:=1) (j:Int) (by omega)<|jl (b:=bt) (off:=0+(a:Int).toNat*4+(j:Int).toNat*1) (m:=1) (vs:=[.bool (cY K on a j)]) 0 (rY (.inl gt) (T6 (r:=⟨cY K on⟩) ha4 hj4))<|zD 2<|js 49 (!(cY K on a j)) (fun h5=>?_) (fun h5=>?_)
  ·
   have Dq:=h5
   try simp only[zB] at Dq
   refine zD 10<|ja ((j:Int)+1) (by omega)<|zD 2<|bO bM (⟨j+1,pp,B⟩) ⟨by dsimp only;omega,by dsimp only;rw[List.range_succ,List.flatMap_append,List.length_append,List.flatMap_singleton,←Nat.add_assoc];rw[show mM K on m a p j=[] by simp only[mM,h5];rfl];exact hJ.2.1,hJ.2.2⟩ (by dsimp only;omega) [0,1] (Sub.refl _)
  have Dq:=h5
  try simp only[zB] at Dq
  refine zD 1<|jah (b:=b7) (off:=0) (len:=4) (a:Int) (by omega)<|zD 1<|ja ((j:Int)+1) (by omega)<|jp (vs:=[(.slice (some ⟨b7,0,none⟩) (a:Int).toNat 4),zI ((j:Int)+1)]) [0] [(b7,.cells ⟨[zI (pp 0),zI (pp 1),zI (pp 2),zI (pp 3)]⟩ 122 (0,0))] (fun aA hs hZ=>aMM (ahW hZ.head (by omega)) (by rw[List.length_take];omega)) ?_
  refine zD 2<|js 55 (So pp a ((j:Int)+1)) (fun h6=>?_) (fun h6=>?_)
  ·
   refine zD 3<|ja ((j:Int)+1) (by omega)<|zD 2<|bO bM (⟨j+1,pp,B⟩) ⟨by dsimp only;omega,by dsimp only;rw[List.range_succ,List.flatMap_append,List.length_append,List.flatMap_singleton,←Nat.add_assoc];rw[show mM K on m a p j=[] by simp only[mM,←Vt ha4 hJ.2.2,h5,h6];rfl];exact hJ.2.1,hJ.2.2⟩ (by dsimp only;omega) [0,1] (Sub.refl _)
  have hg0:mM K on m a p j=jk K on m (a+1) (pq p a ((j:Int)+1)):=by simp only[mM,←Vt ha4 hJ.2.2,h5,h6];rfl
  have hPg:Part L (q+(jk K on m (a+1) p).length+((List.range j).flatMap (mM K on m a p)).length) (jk K on m (a+1) (pq pp a ((j:Int)+1))):=by rw[TD hJ.2.2,←hg0];exact hPj
  refine zD 6<|ja ((j:Int)+1) (by omega)<|IS (b:=b7) (off:=0) (len:=4) (sz:=1) (a:Int) (by omega)<|jsx 0 b7 (0+(a:Int).toNat*1) [zI (pp 0),zI (pp 1),zI (pp 2),zI (pp 3)] [zI ((j:Int)+1)] 122 (by intro v hv;rw[List.mem_singleton] at hv;subst hv;rfl) (ao1 (p:=pp) ha4) ?_
  refine jmw 0 [.b b7 (.cells ⟨[zI ((pq pp a ((j:Int)+1)) 0),zI ((pq pp a ((j:Int)+1)) 1),zI ((pq pp a ((j:Int)+1)) 2),zI ((pq pp a ((j:Int)+1)) 3)]⟩ 122 (0,0))] (L:=[(b7,.cells ⟨de [zI (pp 0),zI (pp 1),zI (pp 2),zI (pp 3)] (0+(a:Int).toNat*1) [zI ((j:Int)+1)]⟩ 122 (0,0))]) (by rw[aoZ ha4];rfl) ?_
  refine zD 3<|jl (b:=bg) (off:=0) (m:=1) (vs:=[.func (.func 100) ⟨[]⟩ ⟨[zP bf,zP br,zP bu,zP bg,zP bt]⟩]) 0 ⟨_,_,_,.inl gg,rfl⟩<|jd 2 [0]<|ja ((a:Int)+1) (by omega)<|jc (vs:=[.agg ⟨[zI ((pq pp a ((j:Int)+1)) 0),zI ((pq pp a ((j:Int)+1)) 1),zI ((pq pp a ((j:Int)+1)) 2),zI ((pq pp a ((j:Int)+1)) 3)]⟩,zI ((a:Int)+1),zP bf,zP br,zP bu,zP bg,zP bt]) [1] (ih m (by omega) _ (a+1) _ (q+(jk K on m (a+1) p).length+((List.range j).flatMap (mM K on m a p)).length) _ nV hF (by omega) hPg hJ.2.1 hy) ?_
  rintro _ Y64 ⟨VT,rfl,aPz,aPn⟩
  refine zD 2<|js 65 (!VT) (fun h7=>?_) (fun h7=>?_)
  ·
   try simp only[zB] at h7
   refine zD 6<|aE q0 (.bool false) [] [0] Y64 (Sub.refl _) ⟨_,_,rfl,rfl,_,rfl,nofun,fun _=>aPn (by simp_all)⟩
  try simp only[zB] at h7
  refine zD 3<|ja ((j:Int)+1) (by omega)<|zD 2<|bO bM (⟨j+1,(pq pp a ((j:Int)+1)),Y64⟩) ⟨by dsimp only;omega,by dsimp only;rw[List.range_succ,List.flatMap_append,List.length_append,List.flatMap_singleton,←Nat.add_assoc];rw[hg0,←TD hJ.2.2];exact aPz (by simp_all),(fun i hi=>by simp only[pq,if_neg hi];exact hJ.2.2 i hi)⟩ (by dsimp only;omega) [1,0] (Sub.refl _)
 refine zD 7<|aE q0 (.bool true) [] [1] B (Sub.refl _) ⟨_,_,rfl,rfl,_,rfl,(fun _=>by rw[p6,List.length_append,←Nat.add_assoc];have:=hJ.2.1;rwa[show j=K.after.length by omega] at this),nofun⟩
theorem ayb(hV:fH K){rows:List bK}{on:Int}{L:List (Nat→Int)}{Inv:Nat→Cells→Prop}:∀n,anj bl f K rows on bf br bu bg bt bo L Inv Stop n:=by
 intro n
 induction n using Nat.strongRecOn with
 |_ n ih=>exact fun ro a p q B hc hF han hP hB hy=>apY ih hV hc hF han hP hB hy
def dA(K:aZ)(on:Int):List (Nat→Int):=jk K on K.before.length 0 fun _=>0
theorem VD{on:Int}{a:Nat}(h:¬a <K.before.length∨¬b <K.after.length):cY K on a b=false:=by
 rcases h with h|h
 ·simp[cY,List.getElem?_eq_none (Nat.le_of_not_lt h)]
 simp only[cY,List.getElem?_eq_none (Nat.le_of_not_lt h)]
 split
 ·rename_i h1;cases h1
 rfl
def Dx(K:aZ)(on:Int)(i j:Nat)(r:bK):Prop:=∀x y,r.c x y=((decide (x <i)||(decide (x=i)&&decide (y <j)))&&cY K on x y)
theorem Dx.set{on:Int}{i j:Nat}{r:bK}(h:Dx K on i j r):Dx K on i (j+1) (iA r i j (cY K on i j)):=fun x y=>by
 simp only[iA]
 split
 ·rename_i hx;obtain⟨rfl,rfl⟩:=hx;simp
 rename_i hx
 rw[h x y]
 congr 2
 by_cases e:x=i
 ·subst e
  have:y≠j:=fun e2=>hx ⟨rfl,e2⟩
  simp only[decide_true,Bool.true_and]
  congr 1
  exact propext (by omega)
 simp[e]
theorem Dx.nxt{on:Int}{i:Nat}{r:bK}(h:Dx K on i K.after.length r):Dx K on (i+1) 0 r:=fun x y=>by
 rw[h x y]
 by_cases hy:y <K.after.length
 ·congr 1
  simp only[hy,decide_true,Bool.and_true,Nat.not_lt_zero,decide_false,Bool.and_false,Bool.or_false]
  rw[Bool.eq_iff_iff];simp;omega
 rw[VD (.inr hy)];simp
theorem Dx.fin{on:Int}{r:bK}(h:Dx K on K.before.length 0 r):r=⟨cY K on⟩:=by
 rcases r with ⟨c⟩
 congr 1
 funext x y
 have:=h x y
 dsimp only at this
 rw[this]
 by_cases hx:x <K.before.length
 ·simp[hx]
 rw[VD (.inl hx)];simp
theorem aip{a:Nat}(h:a <4):nth (eP4 p) ((a:Int).toNat*1)=some (zI (p a)):=by
 rcases Kq h with rfl|rfl|rfl|rfl<;>rfl
theorem aan{r:bK}{a:Nat}{j:Int}(h:a <4)(k:0≤j∧j <4):nth (BP r) (0+(a:Int).toNat*4+j.toNat*1)=some (.bool (r.c a j.toNat)):=by
 obtain⟨m,rfl⟩:=Int.eq_ofNat_of_zero_le k.1
 exact T6 h (by omega)
def pJ(r:bK)(p:Nat→Int):Nat→Int
 |0=>0
 |k+1=>pJ r p k+bif decide (p k>0)&& !r.c k (p k-1).toNat then 1 else 0
def dv(K:aZ)(r:bK)(past:Nat)(p:Nat→Int):av:=⟨past,p 0,p 1,p 2,p 3,K.before.length-sa (pL p),K.after.length-sa (pL p),pJ r p 4⟩
theorem Uq(p:Nat→Int):0≤sa (pL p)∧sa (pL p)≤4:=by
 have:=List.length_filter_le (fun x=>decide (x>0)) (pL p)
 simp only[sa]
 exact⟨by omega,by simp only[List.length_cons,List.length_nil] at this;omega⟩
theorem UX{rows:List bK}{on:Int}{b3 b4:Nat}{ro:Nat→Option Obj}(hF:oX ro f K rows)(hV:fH K)(g1:ro b1=some (.cells ⟨[zP f]⟩ 94 (0,0)))(g2:ro b2=some (.cells ⟨[.func (.func 98) ⟨[]⟩ ⟨[zP b1,zP b4]⟩]⟩ 187 (0,0)))(g3:ro b3=some (.cells ⟨BP ⟨cY K on⟩⟩ 139 (0,0)))(g4:ro b4=some (.cells ⟨[.int .u8 on]⟩ 99 (0,0))):ItX zT 99 [] [zP b1,zP b2,zP b3] ro [] (dA K on).length (ePs (dA K on)) (fun Z=>Z=[]):=by
 intro bl aA Inv Stop hs hy B hB
 replace g1:=hs _ _ g1
 replace g2:=hs _ _ g2
 replace g3:=hs _ _ g3
 replace g4:=hs _ _ g4
 replace hF:=hF.up hs
 refine bA au [.l B] [] bn<|zD 2<|jn fun b4=>zD 3<|jn fun b5=>jd 9 [0,0]<|jf [1,0] ((b4,.cells ⟨[(.func (.yield bl) #[] #[])]⟩ 187 (0,0))::[(b5,.cells ⟨[.func (.func 100) ⟨[]⟩ ⟨[zP b1,zP b2,zP b4,zP b5,zP b3]⟩]⟩ 188 (0,0))]) fun AI bV iT=>jc (vs:=[.agg ⟨[zI 0,zI 0,zI 0,zI 0]⟩,zI 0,zP b1,zP b2,zP b4,zP b5,zP b3]) [0] (ayb (K:=K) hV (on:=on) _ _ 0 (fun _=>0) 0 _ ⟨(bV _ _ g1),(bV _ _ g2),iT _ (.head _),iT _ (.tail _ (.head _)),(bV _ _ g3),bV _ _ g4⟩ (hF.up bV) (Nat.zero_add _) ⟨[],[],by simp[dA],rfl⟩ hB (YE.up hy bV)) ?_
 rintro _ Y9 ⟨c9,rfl,hc9,hd9⟩
 refine zD 1<|aE q0.a (.tuple ⟨[]⟩) [] [0] Y9 bV ⟨_,_,rfl,rfl,[],Y9,rfl,rfl,by cases c9 with|true=>exact .inl (by simpa [dA] using hc9 rfl)|false=>exact .inr (hd9 rfl)⟩
theorem IM{rows:List bK}{on:Int}{ro:Nat→Option Obj}(hF:oX ro f K rows)(hV:fH K):eo zT 72 [zP f,.int .u8 on] ro [] (fun r Y=>∃b1 b2 b3 b4,r= .func (.func 99) ⟨[]⟩ ⟨[zP b1,zP b2,zP b3]⟩∧Y=[(b1,.cells ⟨[zP f]⟩ 94 (0,0)),(b2,.cells ⟨[.func (.func 98) ⟨[]⟩ ⟨[zP b1,zP b4]⟩]⟩ 187 (0,0)),(b3,.cells ⟨BP ⟨cY K on⟩⟩ 139 (0,0)),(b4,.cells ⟨[.int .u8 on]⟩ 99 (0,0))]):=by
 obtain⟨c0,c1,c2,vc,vh,vr,vb,va,vf,vt,hv,hf,rC,oe,hr,Dm,HK,I0,bL⟩:=id hF
 obtain⟨hc,hh,cX⟩:=id rC
 obtain⟨eC,AO,AN,ek,rfl,C5,yI,yH⟩:=hc
 obtain⟨dJ,uK,uJ,dr,rfl,wZ,qB,qA⟩:=hh
 obtain⟨lR,JX,JW,lQ,rfl,Ni,Is,Ir⟩:=hr
 obtain⟨k9,J2,J0,kz,rfl,J1,EN,EM⟩:=Dm
 obtain⟨ld,J5,J3,kA,rfl,J4,EP,EO⟩:=HK
 obtain⟨lS,Q4,Q1,kN,rfl,Q3,JZ,JY⟩:=I0
 obtain⟨mV,C4,C3,mE,rfl,Nf,JV,JU⟩:=bL
 have P0:=hV.rules.1
 have FR:=hV.before.1
 have HE:=hV.after.1
 have hnf:=hV.facts.1
 refine bA au [] [] bn<|zD 2<|jn fun b2=>jn fun b3=>zD 4<|jn fun b5=>jd 8 [2]<|jl (b:=f) (off:=0) (m:=13) (vs:=[c0,c1,c2,.slice eC K.cs.length ek,.slice dJ hv.length dr,.slice lR K.rules.length lQ,.slice k9 K.before.length kz,.slice ld K.after.length kA,zI K.gone,zI K.new,zI K.af,.slice lS K.facts.length kN,.slice mV rows.length mE]) 6 ⟨_,_,_,.inl hf,rfl⟩<|zD 4<|ez [1,1,0,1,0,0] [] (fun(zz:Nat×bK)=>[(2,zP b2),(3,zP b3),(4,.nilFunc),(5,zP b5),(14,zI (K.before.length:Int)),(15,zI (zz.1:Int))]) (fun(zz:Nat×bK)=>[.b b5 (.cells ⟨[.bool (zz.2.c 0 0),.bool (zz.2.c 0 1),.bool (zz.2.c 0 2),.bool (zz.2.c 0 3),.bool (zz.2.c 1 0),.bool (zz.2.c 1 1),.bool (zz.2.c 1 2),.bool (zz.2.c 1 3),.bool (zz.2.c 2 0),.bool (zz.2.c 2 1),.bool (zz.2.c 2 2),.bool (zz.2.c 2 3),.bool (zz.2.c 3 0),.bool (zz.2.c 3 1),.bool (zz.2.c 3 2),.bool (zz.2.c 3 3)]⟩ 139 (0,0)),.b b3 (.cells ⟨[.int .u8 on]⟩ 99 (0,0)),.b b2 (.cells ⟨[zP f]⟩ 94 (0,0))]) (fun(zz:Nat×bK)=>zz.1≤K.before.length∧Dx K on zz.1 0 zz.2) (fun(zz:Nat×bK)=>K.before.length-zz.1) (⟨0,⟨fun _ _=>false⟩⟩) ⟨by dsimp only;omega,fun x y=>by simp⟩ [0,1,2] ?_
 rintro⟨i,r⟩ hI K1 bM rest
 dsimp only at hI
 refine zD 5<|zJ 16 ((i:Int) <(K.before.length:Int)) (fun h1=>?_) fun h1=>?_
 ·
  refine jd 15 [2]<|jl (b:=f) (off:=0) (m:=13) (vs:=[c0,c1,c2,.slice eC K.cs.length ek,.slice dJ hv.length dr,.slice lR K.rules.length lQ,.slice k9 K.before.length kz,.slice ld K.after.length kA,zI K.gone,zI K.new,zI K.af,.slice lS K.facts.length kN,.slice mV rows.length mE]) 7 ⟨_,_,_,.inl hf,rfl⟩<|zD 4<|ez [1,1,0,1,0,0,1,1,0,0,1,1,0,0] [K1] (fun(zz:Nat×bK)=>[(2,zP b2),(3,zP b3),(4,.nilFunc),(5,zP b5),(6,zI (i:Int)),(14,zI (K.before.length:Int)),(15,zI (i:Int)),(23,zI (K.after.length:Int)),(24,zI (zz.1:Int))]) (fun(zz:Nat×bK)=>[.b b5 (.cells ⟨[.bool (zz.2.c 0 0),.bool (zz.2.c 0 1),.bool (zz.2.c 0 2),.bool (zz.2.c 0 3),.bool (zz.2.c 1 0),.bool (zz.2.c 1 1),.bool (zz.2.c 1 2),.bool (zz.2.c 1 3),.bool (zz.2.c 2 0),.bool (zz.2.c 2 1),.bool (zz.2.c 2 2),.bool (zz.2.c 2 3),.bool (zz.2.c 3 0),.bool (zz.2.c 3 1),.bool (zz.2.c 3 2),.bool (zz.2.c 3 3)]⟩ 139 (0,0)),.b b3 (.cells ⟨[.int .u8 on]⟩ 99 (0,0)),.b b2 (.cells ⟨[zP f]⟩ 94 (0,0))]) (fun(zz:Nat×bK)=>zz.1≤K.after.length∧Dx K on i zz.1 zz.2) (fun(zz:Nat×bK)=>K.after.length-zz.1) (⟨0,r⟩) ⟨by dsimp only;omega,hI.2⟩ [0,1,2] ?_
  rintro⟨j,r⟩ hJ K2 mo rest
  dsimp only at hJ
  refine zD 5<|zJ 25 ((j:Int) <(K.after.length:Int)) (fun h2=>?_) fun h2=>?_
  ·
   refine zD 9 ?_
   obtain⟨x,ha⟩:∃x,K.before[i]?=some x:=⟨_,List.getElem?_eq_getElem (by omega)⟩
   obtain⟨y,hb⟩:∃y,K.after[j]?=some y:=⟨_,List.getElem?_eq_getElem (by omega)⟩
   refine jd 7 [2,1]<|IS (b:=b5) (off:=0) (len:=4) (sz:=4) (i:Int) (by omega)<|jp (vs:=[zP f,zI (i:Int),zI (j:Int),.int .u8 on]) [] [] (fun aA hs hZ=>ayc (hF.up hs) hV ha hb)<|IS (b:=b5) (off:=0+(i:Int).toNat*4) (len:=4) (sz:=1) (j:Int) (by omega)<|aN 9 fun sW sZ rD=>jsx 0 b5 (0+(i:Int).toNat*4+(j:Int).toNat*1) [.bool (r.c 0 0),.bool (r.c 0 1),.bool (r.c 0 2),.bool (r.c 0 3),.bool (r.c 1 0),.bool (r.c 1 1),.bool (r.c 1 2),.bool (r.c 1 3),.bool (r.c 2 0),.bool (r.c 2 1),.bool (r.c 2 2),.bool (r.c 2 3),.bool (r.c 3 0),.bool (r.c 3 1),.bool (r.c 3 2),.bool (r.c 3 3)] [.bool (cY K on i j)] 139 (by intro v hv;rw[List.mem_singleton] at hv;subst hv;rfl) (T7 (r:=r) (by omega) (by omega)) ?_
   refine jmw 0 [.b b5 (.cells ⟨[.bool ((iA r i j (cY K on i j)).c 0 0),.bool ((iA r i j (cY K on i j)).c 0 1),.bool ((iA r i j (cY K on i j)).c 0 2),.bool ((iA r i j (cY K on i j)).c 0 3),.bool ((iA r i j (cY K on i j)).c 1 0),.bool ((iA r i j (cY K on i j)).c 1 1),.bool ((iA r i j (cY K on i j)).c 1 2),.bool ((iA r i j (cY K on i j)).c 1 3),.bool ((iA r i j (cY K on i j)).c 2 0),.bool ((iA r i j (cY K on i j)).c 2 1),.bool ((iA r i j (cY K on i j)).c 2 2),.bool ((iA r i j (cY K on i j)).c 2 3),.bool ((iA r i j (cY K on i j)).c 3 0),.bool ((iA r i j (cY K on i j)).c 3 1),.bool ((iA r i j (cY K on i j)).c 3 2),.bool ((iA r i j (cY K on i j)).c 3 3)]⟩ 139 (0,0))] (L:=[(b5,.cells ⟨de [.bool (r.c 0 0),.bool (r.c 0 1),.bool (r.c 0 2),.bool (r.c 0 3),.bool (r.c 1 0),.bool (r.c 1 1),.bool (r.c 1 2),.bool (r.c 1 3),.bool (r.c 2 0),.bool (r.c 2 1),.bool (r.c 2 2),.bool (r.c 2 3),.bool (r.c 3 0),.bool (r.c 3 1),.bool (r.c 3 2),.bool (r.c 3 3)] (0+(i:Int).toNat*4+(j:Int).toNat*1) [.bool (cY K on i j)]⟩ 139 (0,0))]) (by rw[T5 (by omega) (by omega)];rfl) ?_
   refine iS rD []<|zD 2<|ja ((j:Int)+1) (by omega)<|zD 2<|bO mo (⟨j+1,(iA r i j (cY K on i j))⟩) ⟨by dsimp only;omega,hJ.2.set⟩ (by dsimp only;omega) [0,1,2] (Sub.refl _)
  refine zD 3<|ja ((i:Int)+1) (by omega)<|zD 2<|bO bM (⟨i+1,r⟩) ⟨by dsimp only;omega,Dx.nxt (by have:=hJ.2;rwa[show j=K.after.length by omega] at this)⟩ (by dsimp only;omega) [0,1,2] (Sub.refl _)
 refine zD 5<|jn fun b8=>jd 8 [0]<|aE q0 (.func (.func 99) ⟨[]⟩ ⟨[zP b2,zP b8,zP b5]⟩) [] [3,0,1,2] ((b2,.cells ⟨[zP f]⟩ 94 (0,0))::((b8,.cells ⟨[.func (.func 98) ⟨[]⟩ ⟨[zP b2,zP b3]⟩]⟩ 187 (0,0))::((b5,.cells ⟨[.bool (r.c 0 0),.bool (r.c 0 1),.bool (r.c 0 2),.bool (r.c 0 3),.bool (r.c 1 0),.bool (r.c 1 1),.bool (r.c 1 2),.bool (r.c 1 3),.bool (r.c 2 0),.bool (r.c 2 1),.bool (r.c 2 2),.bool (r.c 2 3),.bool (r.c 3 0),.bool (r.c 3 1),.bool (r.c 3 2),.bool (r.c 3 3)]⟩ 139 (0,0))::[(b3,.cells ⟨[.int .u8 on]⟩ 99 (0,0))]))) (Sub.refl _) ⟨_,_,rfl,rfl,_,_,_,_,rfl,by have e:=Dx.fin (K:=K) (on:=on) (r:=r) (by have:=hI.2;rwa[show i=K.before.length by omega] at this);subst e;rfl⟩
theorem al0{rows:List bK}{past:Nat}{Hp:bK}{ro:Nat→Option Obj}(hF:oX ro f K rows)(hV:fH K)(By:rows[past]?=some Hp) (hp:∀i,0≤p i∧p i≤4):dz zT 74 [zP f,zI (past:Int),.agg ⟨[zI (p 0),zI (p 1),zI (p 2),zI (p 3)]⟩] ro (.agg ⟨cN (dv K Hp past p)⟩):=by
 obtain⟨c0,c1,c2,vc,vh,vr,vb,va,vf,vt,hv,hf,rC,oe,hr,Dm,HK,I0,bL⟩:=id hF
 obtain⟨hc,hh,cX⟩:=id rC
 obtain⟨eC,AO,AN,ek,rfl,C5,yI,yH⟩:=hc
 obtain⟨dJ,uK,uJ,dr,rfl,wZ,qB,qA⟩:=hh
 obtain⟨lR,JX,JW,lQ,rfl,Ni,Is,Ir⟩:=hr
 obtain⟨k9,J2,J0,kz,rfl,J1,EN,EM⟩:=Dm
 obtain⟨ld,J5,J3,kA,rfl,J4,EP,EO⟩:=HK
 obtain⟨lS,Q4,Q1,kN,rfl,Q3,JZ,JY⟩:=I0
 obtain⟨mV,C4,C3,mE,rfl,Nf,JV,JU⟩:=bL
 have P0:=hV.rules.1
 have FR:=hV.before.1
 have HE:=hV.after.1
 have hnf:=hV.facts.1
 have hpc:=Uq p
 have PY:=(List.getElem?_eq_some_iff.1 By).1
 refine bA au [] [] bn<|zD 2<|jn fun b5=>jn fun b6=>jd 4 [1]<|jp (vs:=[.agg ⟨[zI (p 0),zI (p 1),zI (p 2),zI (p 3)]⟩]) [] [] (fun aA hs hZ=>(apE (p0:=p 0) (p1:=p 1) (p2:=p 2) (p3:=p 3)))<|jd 10 [1]<|jl (b:=f) (off:=0) (m:=13) (vs:=[c0,c1,c2,.slice eC K.cs.length ek,.slice dJ hv.length dr,.slice lR K.rules.length lQ,.slice k9 K.before.length kz,.slice ld K.after.length kA,zI K.gone,zI K.new,zI K.af,.slice lS K.facts.length kN,.slice mV rows.length mE]) 6 ⟨_,_,_,.inl hf,rfl⟩<|zD 2<|ja ((K.before.length:Int)-(sa (pL p))) (by omega)<|zD 4<|jl (b:=f) (off:=0) (m:=13) (vs:=[c0,c1,c2,.slice eC K.cs.length ek,.slice dJ hv.length dr,.slice lR K.rules.length lQ,.slice k9 K.before.length kz,.slice ld K.after.length kA,zI K.gone,zI K.new,zI K.af,.slice lS K.facts.length kN,.slice mV rows.length mE]) 7 ⟨_,_,_,.inl hf,rfl⟩<|zD 2<|ja ((K.after.length:Int)-(sa (pL p))) (by omega)<|zD 1<|aN 19 fun CN CZ AQ=>jn fun b8=>bC AQ [1,2]<|aN 20 fun CM CY BG=>jd 1 [0]<|eO BG<|jd 8 [2]<|ez [1,1,1,0,1,0,0] [] (fun(zz:Nat×Int)=>[(0,zP f),(1,zI (past:Int)),(6,zP b6),(8,zP b8),(32,.agg ⟨[zI (p 0),zI (p 1),zI (p 2),zI (p 3)]⟩),(33,zI (zz.1:Int))]) (fun(zz:Nat×Int)=>[.b b8 (.cells ⟨[zI (past:Int),zI (p 0),zI (p 1),zI (p 2),zI (p 3),zI ((K.before.length:Int)-(sa (pL p))),zI ((K.after.length:Int)-(sa (pL p))),zI zz.2]⟩ 124 (0,0)),.b b6 (.cells ⟨[zI 0,zI 0,zI 0,zI 0,zI 0,zI 0,zI 0,zI 0]⟩ 124 (0,0))]) (fun(zz:Nat×Int)=>zz.1≤4∧zz.2=pJ Hp p zz.1∧(0≤zz.2∧zz.2≤zz.1)) (fun(zz:Nat×Int)=>4-zz.1) (⟨0,0⟩) ⟨by dsimp only;omega,rfl,by dsimp only;omega⟩ [0,1] ?_
 rintro⟨k,m⟩ hI K3 YZ rest
 dsimp only at hI
 refine zD 5<|zJ 34 ((k:Int) <4) (fun h3=>?_) fun h3=>?_
 ·
  refine zD 7<|jai (l:=[zI (p 0),zI (p 1),zI (p 2),zI (p 3)]) (k:Int) 4 1 false (by omega) (v:= zI (p k)) (show nth (eP4 p) _=_ from aip (by omega))<|zD 4 ?_
  have hpk:=hp k
  refine zD 4<|js 39 (decide ((p k)>0)) (fun h4=>?_) (fun h4=>?_)
  ·
   have xC:=h4
   replace xC:=of_decide_eq_true xC
   refine zD 3<|jl (b:=f) (off:=0) (m:=13) (vs:=[c0,c1,c2,.slice eC K.cs.length ek,.slice dJ hv.length dr,.slice lR K.rules.length lQ,.slice k9 K.before.length kz,.slice ld K.after.length kA,zI K.gone,zI K.new,zI K.af,.slice lS K.facts.length kN,.slice mV rows.length mE]) 12 ⟨_,_,_,.inl hf,rfl⟩<|zD 3<|ja ((p k)-1) (by omega) ?_
   obtain⟨x48,FC⟩:=zG rows past
   refine ij mE 16 JV FC<|IS (b:=C4) (off:=C3+past*16+0) (len:=4) (sz:=4) (k:Int) (by omega)<|IS (b:=C4) (off:=C3+past*16+0+(k:Int).toNat*4) (len:=4) (sz:=1) ((p k)-1) (by omega)<|jl (b:=C4) (off:=C3+past*16+0+(k:Int).toNat*4+((p k)-1).toNat*1) (m:=1) (vs:=[.bool (x48.c k ((p k)-1).toNat)]) 0 (show cg ⟨ro,[]⟩ C4 (C3+past*16+0+(k:Int).toNat*4+((p k)-1).toNat*1) 1 [.bool (x48.c k ((p k)-1).toNat)] from by have:=aay (JU _ _ FC) (aan (r:=x48) (a:=k) (j:=(p k)-1) (by omega) (by omega));simpa [Nat.add_assoc] using this) ?_
   refine zD 3<|js 53 (!(x48.c k ((p k)-1).toNat)) (fun h5=>?_) (fun h5=>?_)
   ·
    try simp only[zB] at h5
    refine jd 4 [0]<|ja (m+1) (by omega)<|jd 4 [0]<|ja ((k:Int)+1) (by omega)<|zD 2<|bO YZ (⟨k+1,(m+1)⟩) ⟨by dsimp only;omega,by dsimp only;rw[pJ,hI.2.1];rw[By] at FC;cases FC;simp only[decide_eq_true xC,h5,Bool.not_false,Bool.not_true,Bool.and_true,Bool.and_false,cond_true,cond_false,Int.add_zero],by dsimp only;omega⟩ (by dsimp only;omega) [0,1] (Sub.refl _)
   try simp only[zB] at h5
   refine zD 3<|ja ((k:Int)+1) (by omega)<|zD 2<|bO YZ (⟨k+1,m⟩) ⟨by dsimp only;omega,by dsimp only;rw[pJ,hI.2.1];rw[By] at FC;cases FC;simp only[decide_eq_true xC,h5,Bool.not_false,Bool.not_true,Bool.and_true,Bool.and_false,cond_true,cond_false,Int.add_zero],by dsimp only;omega⟩ (by dsimp only;omega) [0,1] (Sub.refl _)
  have xC:=h4
  replace xC:=of_decide_eq_false xC
  refine zD 18<|ja ((k:Int)+1) (by omega)<|zD 2<|bO YZ (⟨k+1,m⟩) ⟨by dsimp only;omega,by dsimp only;rw[pJ,hI.2.1];simp only[decide_eq_false xC,Bool.false_and,cond_false,Int.add_zero],by dsimp only;omega⟩ (by dsimp only;omega) [0,1] (Sub.refl _)
 refine jd 8 [0,1]<|aE q0 (.agg ⟨[zI (past:Int),zI (p 0),zI (p 1),zI (p 2),zI (p 3),zI ((K.before.length:Int)-(sa (pL p))),zI ((K.after.length:Int)-(sa (pL p))),zI m]⟩) [1] [] [] (Sub.refl _) ⟨_,_,rfl,rfl,by rw[hI.2.1,show k=4 by omega];rfl,rfl⟩
def wm(v:Value)(xs:List av)(Y:Cells):Prop:=∃ys,ys.Perm xs∧az v 8 124 cN ys Y
def fZ(xs:List av):Prop:=∀x∈xs,0≤x.past∧x.past≤1000
theorem fZ.perm{xs ys:List av}(h:fZ xs)(hp:ys.Perm xs):fZ ys:=fun x hx=>h x (hp.mem_iff.1 hx)
theorem D9{x:Int}(h:0≤x∧x≤1000000000):IntKind.i64.wrap (aQ .u64 (IntKind.u64.wrap x) 1)=x / 2:=by
 have h1:IntKind.u64.wrap x=x:=rK .u64 rfl _ (by omega) (by simp[IntKind.bits];omega)
 rw[h1]
 have h2:aQ .u64 x 1=x / 2:=by
  show x.fdiv 2=x / 2
  exact Int.fdiv_eq_ediv_of_nonneg _ (by decide)
 rw[h2,jV _ (by omega)]
theorem ajj{x y:av}{ro:Nat→Option Obj}(hx:0≤x.past∧x.past≤1000)(hy:0≤y.past∧y.past≤1000):dz zT 109 [.agg ⟨[zI x.past,zI x.w0,zI x.w1,zI x.w2,zI x.w3,zI x.gone,zI x.new,zI x.af]⟩,.agg ⟨[zI y.past,zI y.w0,zI y.w1,zI y.w2,zI y.w3,zI y.gone,zI y.new,zI y.af]⟩] ro (zI (x.past-y.past)):=by
 refine bA au [] [] bn<|zD 2<|jn fun b2=>jn fun b3=>jd 8 [1,0]<|ja (x.past-y.past) (by omega)<|zD 3<|aE q0 (zI (x.past-y.past)) [] [] [] (Sub.refl _) ⟨_,_,rfl,rfl,rfl,rfl⟩
theorem awo{v:Value}{xs:List av}{L:Cells}{a b:Int}{ro:Nat→Option Obj}(ho:az v 8 124 cN xs L)(hN:xs.length≤100000)(hP:fZ xs)(Ea:0≤a∧a≤b∧b≤xs.length):eo zT 187 [v,zI a,zI b,.func (.func 109) ⟨[]⟩ ⟨[]⟩] ro L (fun r Y=>wm v xs Y):=by
 refine bA au [.l L] [] bn<|zD 3<|ja (a+1) (by omega)<|zD 3<|ez [1,0,0] [] (fun(zz:Int×(List av)×Cells)=>[(0,v),(1,zI a),(2,zI b),(3,.func (.func 109) ⟨[]⟩ ⟨[]⟩),(8,zI zz.1)]) (fun(zz:Int×(List av)×Cells)=>[.l zz.2.2]) (fun(zz:Int×(List av)×Cells)=>(a+1≤zz.1)∧az v 8 124 cN zz.2.1 zz.2.2∧zz.2.1.Perm xs) (fun(zz:Int×(List av)×Cells)=>(b-zz.1).toNat) (⟨(a+1),xs,L⟩) ⟨by dsimp only;omega,ho,.refl _⟩ [0] ?_
 rintro⟨i,ys,L⟩ hI K1 bM rest
 dsimp only at hI
 have U5:=hI.2.2.length_eq
 have hyp:=hP.perm hI.2.2
 refine zD 7<|zJ 14 (i <b) (fun h1=>?_) fun h1=>?_
 ·
  refine zD 10<|ez [1,0,0,1,0,0,1,0,0] [K1] (fun(zz:Int×(List av)×Cells)=>[(0,v),(1,zI a),(2,zI b),(3,.func (.func 109) ⟨[]⟩ ⟨[]⟩),(8,zI i),(9,zI zz.1)]) (fun(zz:Int×(List av)×Cells)=>[.l zz.2.2]) (fun(zz:Int×(List av)×Cells)=>(a≤zz.1∧zz.1≤i)∧az v 8 124 cN zz.2.1 zz.2.2∧zz.2.1.Perm xs) (fun(zz:Int×(List av)×Cells)=>(zz.1-a).toNat) (⟨i,ys,L⟩) ⟨by dsimp only;omega,hI.2⟩ [0] ?_
  rintro⟨j,ys,L⟩ hJ K2 mo rest
  dsimp only at hJ
  have U5:=hJ.2.2.length_eq
  have hyp:=hP.perm hJ.2.2
  refine zD 7<|js 3 (decide (j>a)) (fun h2=>?_) (fun h2=>?_)
  ·
   have kF:=h2
   replace kF:=of_decide_eq_true kF
   refine zD 3 ?_
   obtain⟨xN,kQ⟩:=zG ys (j.toNat) (by first|omega| (simp only[List.length_set];omega))
   refine pP j 8 hJ.2.1 kQ (Int.toNat_of_nonneg (show 0≤j∧j <((ys).length:Int) from (by first|omega| (simp only[List.length_set];omega))).1).symm (fun dL adX=>?_)
   refine oJ 0 [0] L (fun s _ hZ=>cv hJ.2.1 adX hZ kQ)<|zD 2<|ja (j-1) (by omega) ?_
   obtain⟨od,jQ⟩:=zG ys ((j-1).toNat) (by first|omega| (simp only[List.length_set];omega))
   refine pP (j-1) 8 hJ.2.1 jQ (Int.toNat_of_nonneg (show 0≤(j-1)∧(j-1) <((ys).length:Int) from (by first|omega| (simp only[List.length_set];omega))).1).symm (fun b30 Sn=>?_)
   refine oJ 0 [0] L (fun s _ hZ=>cv hJ.2.1 Sn hZ jQ)<|aN 14 fun sW sZ rD=>jp (vs:=[.agg ⟨[zI xN.past,zI xN.w0,zI xN.w1,zI xN.w2,zI xN.w3,zI xN.gone,zI xN.new,zI xN.af]⟩,.agg ⟨[zI od.past,zI od.w0,zI od.w1,zI od.w2,zI od.w3,zI od.gone,zI od.new,zI od.af]⟩]) [] [] (fun aA hs hZ=>(ajj (x:=xN) (y:=od) (hyp _ (List.mem_of_getElem? kQ)) (hyp _ (List.mem_of_getElem? jQ))))<|bC rD [0]<|zD 3<|zJ 34 ((xN.past-od.past) <0) (fun h4=>?_) fun h4=>?_
   ·
    refine zD 9<|ja (j-1) (by omega)<|zD 2<|ja (j-1) (by omega) ?_
    obtain⟨wX,De⟩:=zG ys ((j-1).toNat) (by first|omega| (simp only[List.length_set];omega))
    refine pP (j-1) 8 hJ.2.1 De (Int.toNat_of_nonneg (show 0≤(j-1)∧(j-1) <((ys).length:Int) from (by first|omega| (simp only[List.length_set];omega))).1).symm (fun b45 adW=>?_)
    refine oJ 0 [0] L (fun s _ hZ=>cv hJ.2.1 adW hZ De)<|zD 2 ?_
    obtain⟨Hi,Dd⟩:=zG ys (j.toNat) (by first|omega| (simp only[List.length_set];omega))
    refine pP j 8 hJ.2.1 Dd (Int.toNat_of_nonneg (show 0≤j∧j <((ys).length:Int) from (by first|omega| (simp only[List.length_set];omega))).1).symm (fun b49 adV=>?_)
    refine oJ 0 [0] L (fun s _ hZ=>cv hJ.2.1 adV hZ Dd) ?_
    obtain⟨x51,Dc⟩:=zG ys (j.toNat) (by first|omega| (simp only[List.length_set];omega))
    refine pP j 8 hJ.2.1 Dc (Int.toNat_of_nonneg (show 0≤j∧j <((ys).length:Int) from (by first|omega| (simp only[List.length_set];omega))).1).symm (fun b51 adU=>?_)
    refine aN 15 fun uv uw sB=>PT 0 0 [zI wX.past,zI wX.w0,zI wX.w1,zI wX.w2,zI wX.w3,zI wX.gone,zI wX.new,zI wX.af] wX hJ.2.1 adU Dc rfl rfl (Nat.le_of_ble_eq_true rfl) fun L6 XG=>iS sB [] ?_
    obtain⟨x52,Bx⟩:=zG ((ys.set j.toNat wX)) ((j-1).toNat) (by first|omega| (simp only[List.length_set];omega))
    refine pP (j-1) 8 XG Bx (Int.toNat_of_nonneg (show 0≤(j-1)∧(j-1) <(((ys.set j.toNat wX)).length:Int) from (by first|omega| (simp only[List.length_set];omega))).1).symm (fun b52 adT=>?_)
    refine aN 17 fun CL CX Dp=>PT 0 0 [zI Hi.past,zI Hi.w0,zI Hi.w1,zI Hi.w2,zI Hi.w3,zI Hi.gone,zI Hi.new,zI Hi.af] Hi XG adT Bx rfl rfl (Nat.le_of_ble_eq_true rfl) fun L9 adj=>eO Dp<|zD 3<|ja (j-1) (by omega)<|zD 2<|bO mo (⟨(j-1),((ys.set j.toNat wX).set ((j-1).toNat) Hi),L9⟩) ⟨by dsimp only;omega,adj,(mW Dd De).trans hJ.2.2⟩ (by dsimp only;omega) [0] (Sub.refl _)
   refine zD 4<|ja (i+1) (by omega)<|zD 2<|bO bM (⟨(i+1),ys,L⟩) ⟨by dsimp only;omega,hJ.2⟩ (by dsimp only;omega) [0] (Sub.refl _)
  have kF:=h2
  replace kF:=of_decide_eq_false kF
  refine zD 18<|ja (i+1) (by omega)<|zD 2<|bO bM (⟨(i+1),ys,L⟩) ⟨by dsimp only;omega,hJ.2⟩ (by dsimp only;omega) [0] (Sub.refl _)
 refine zD 2<|aE q0 (.tuple ⟨[]⟩) [] [0] L (Sub.refl _) ⟨_,_,rfl,rfl,ys,hI.2.2,hI.2.1⟩
end Go.L
