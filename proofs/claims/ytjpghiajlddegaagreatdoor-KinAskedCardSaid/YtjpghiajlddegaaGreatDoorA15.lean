/- Part 15 of the proof: a program logic, contracts, a theorem on goroutines. -/
import Derived.Test.YtjpghiajlddegaaGreatDoorA14
set_option maxRecDepth 100000
set_option linter.all false
namespace Go.L
open Go Go.Conc Go.Proofs
variable {p:Nat→Int} {K:aT} {cs:List bM} {f b k n bE b1 b2 bl bf br bg bt bo:Nat} {hd:List cw} {l:List eR} {Stop:Cells→Prop} {x y:aI} {xs:List Int} {vc vh:Value}
abbrev QZ(x:Int):List Value:=[.int .u8 x]
structure bX where
 c:Nat→Nat→Bool
abbrev B0(x:bX):List Value:=[.bool (x.c 0 0),.bool (x.c 0 1),.bool (x.c 0 2),.bool (x.c 0 3),.bool (x.c 1 0),.bool (x.c 1 1),.bool (x.c 1 2),.bool (x.c 1 3),.bool (x.c 2 0),.bool (x.c 2 1),.bool (x.c 2 2),.bool (x.c 2 3),.bool (x.c 3 0),.bool (x.c 3 1),.bool (x.c 3 2),.bool (x.c 3 3)]
def mI(cs:List bM):Nat→List Int
 |0=>[]
 |k+1=>mI cs k++[match cs[k]? with
  |some c=>if 0≤c.under then Jp .u8 (Jp .u8 0 (dD .u8 1 k)) ((mI cs k)[c.under.toNat]?.getD 0) else Jp .u8 0 (dD .u8 1 k)
  |none=>0]
theorem oy(cs:List bM):∀k,(mI cs k).length=k
 |0=>rfl
 |k+1=>by simp[mI,oy cs k]
theorem alP{c:bM}{y:Int}(h:cs[k]?=some c) (hu:0≤c.under) (hy:(mI cs k)[c.under.toNat]?=some y):mI cs (k+1)=mI cs k++[Jp .u8 (Jp .u8 0 (dD .u8 1 k)) y]:=by
 simp only[mI,h,if_pos hu,hy,Option.getD_some]
theorem alQ{c:bM}(h:cs[k]?=some c) (hu:¬0≤c.under):mI cs (k+1)=mI cs k++[Jp .u8 0 (dD .u8 1 k)]:=by
 simp only[mI,h,if_neg hu]
def acT(s:Int):Nat→Int
 |0=> -1
 |k+1=>bif hasB s k then k else acT s k
def FD(cs:List bM)(a b:Int):Int:=acT (SB .u8 ((mI cs cs.length)[a.toNat]?.getD 0) ((mI cs cs.length)[b.toNat]?.getD 0)) cs.length
def Wz(hd:List cw)(h:Int):Int:=match hd[h.toNat]? with
 |some x=>x.cls
 |none=>0
def yL(K:aT)(x y:aI):Bool:=decide (Et K.rules x.name y.name=2)
def tT(K:aT)(x y:aI):Bool:=if (x.head <0∨y.head <0)∨x.head=y.head then false else decide (FD K.cs (Wz K.hd x.head) (Wz K.hd y.head) <0)
def A8(on:Int)(a b:Int):List eR→Nat→Bool
 | [],_=>false
 |x::l,k=>(((hasB on k&&decide (x.a=a))&&decide (x.b=b))&& !x.same)||A8 on a b l (k+1)
def di(K:aT)(on:Int)(a b:Nat):Bool:=match K.before[a]?,K.after[b]? with
 |some x,some y=> !yL K x y&&(!tT K x y&& !A8 on a b K.facts 0)
 |_,_=>false
structure fU(K:aT):Prop where
 rules:K.rules.length≤4∧∀r∈K.rules,qU r
 before:K.before.length≤4∧∀p∈K.before,qV p.name∧nJ K.hd p.head
 after:K.after.length≤4∧∀p∈K.after,qV p.name∧nJ K.hd p.head
 dI:lg K.cs K.hd
 facts:K.facts.length≤4∧∀x∈K.facts,(0≤x.a∧x.a <K.before.length)∧(0≤x.b∧x.b <K.after.length)
def pq(ro:Nat→Option Obj)(f:Nat)(K:aT)(rows:List bX):Prop:=∃(c0 c1 c2 vc vh vr vb va vf vt:Value) (hv:List bA),
 ro f=some (.cells ⟨[c0,c1,c2,vc,vh,vr,vb,va,zI K.gone,zI K.new,zI K.ai,vf,vt]⟩ 116 (0,0))∧iX ro vc vh K.cs hv K.hd∧du dj hv K.hd∧
 bL ro vr 2 iB K.rules∧bL ro vb 5 eJ K.before∧bL ro va 5 eJ K.after∧bL ro vf 3 oK K.facts∧bL ro vt 16 B0 rows
theorem pq.up{ro aK:Nat→Option Obj}{rows:List bX}(h:pq ro f K rows)(hs:Sub ro aK):pq aK f K rows:=by
 obtain⟨c0,c1,c2,vc,vh,vr,vb,va,vf,vt,hv,h1,h2,h3,h4,h5,h6,h7,h8⟩:=h
 exact⟨c0,c1,c2,vc,vh,vr,vb,va,vf,vt,hv,hs _ _ h1,h2.up hs,h3,h4.up hs,h5.up hs,h6.up hs,h7.up hs,h8.up hs⟩
theorem aLu{f i:Int}{ro:Nat→Option Obj}(hi:0≤i∧i≤8):dL zT 317 [.int .u8 f,zI i] ro (.bool (hasB f i)):=by
 refine bI av [] [] bB<|zD 8<|jsr (k:= .u8) (k':= .i64) (a:=f) (b:=i) 406 (by omega)<|zD 5<|aJ q0 (.bool (decide ((SB .u8 (aV .u8 f i) 1)=1))) [] [] [] (Sub.refl _) ⟨_,_,rfl,rfl,rfl,rfl⟩
theorem axr{f i:Int}{ro:Nat→Option Obj}(hi:0≤i∧i≤8):dL zT 318 [.int .u8 f,zI i] ro (.int .u8 (Jp .u8 f (dD .u8 1 i))):=by
 refine bI av [] [] bB<|zD 8<|jsh (k:= .u8) (k':= .i64) (a:=1) (b:=i) 406 (by omega)<|zD 4<|aJ q0 (.int .u8 (Jp .u8 f (dD .u8 1 i))) [] [] [] (Sub.refl _) ⟨_,_,rfl,rfl,rfl,rfl⟩
theorem apF{hv:List bA}{ro:Nat→Option Obj}(hR:iX ro vc vh cs hv hd)(nA:du dj hv hd)(hT:lg cs hd):eI zT 316 [.agg ⟨[vc,vh]⟩] ro [] (fun r Y=>∃b vS LS vE,r= .tuple ⟨[zP b,zI 0]⟩∧aD vS 1 406 QZ (mI cs cs.length) LS∧Y=(b,.cells ⟨[vc,vh,vS,vE]⟩ 410 (0,0))::LS):=by
 obtain⟨hc,hh,dr⟩:=id hR
 obtain⟨eE,zk,zi,ep,rfl,Cq,xW,xV⟩:=hc
 obtain⟨dM,uy,ux,dq,rfl,wA,qv,qu⟩:=hh
 have CE:=hT.nc
 have hnh:=hT.nh
 have hlen:=nA.len
 refine bI av [] [] bB<|zD 2<|jn fun b1=>jd 7 [0]<|jp (vs:=[.agg ⟨[.slice eE cs.length ep,.slice dM hv.length dq]⟩]) [] [] (fun aE hs hZ=>(UJ (hR.up hs) nA hT))<|jd 13 [0]<|jn fun fA=>jd 11 [1]<|oU<|eG [1,1,1,0,1,0,0] [] (fun(zz:Nat×Value×Cells)=>[(1,zP b1),(2,.pointer none),(3,zI 0),(5,zP fA),(20,.slice eE cs.length ep),(21,zI (cs.length:Int)),(22,zI (zz.1:Int))]) (fun(zz:Nat×Value×Cells)=>[.l zz.2.2,.b fA (.cells ⟨[.slice eE cs.length ep,.slice dM hv.length dq,zz.2.1,zS]⟩ 410 (0,0)),.b b1 (.cells ⟨[.slice eE cs.length ep,.slice dM hv.length dq]⟩ 33 (0,0))]) (fun(zz:Nat×Value×Cells)=>zz.1≤cs.length∧aD zz.2.1 1 406 QZ (mI cs zz.1) zz.2.2) (fun(zz:Nat×Value×Cells)=>cs.length-zz.1) (⟨0,zS,[]⟩) ⟨by dsimp only;omega,aD.nil _ _ _⟩ [0,1,2] ?_
 rintro⟨k,vS,LS⟩ hI K1 bU rest
 dsimp only at hI
 refine zD 5<|zJ 23 ((k:Int) <(cs.length:Int)) (fun h1=>?_) fun h1=>?_
 ·
  refine zD 7 ?_
  obtain⟨xH,kZ⟩:=zG cs k
  refine iE ep 2 xW kZ<|jl 0 (xV _ _ kZ)<|jn fun b7=>jd 4 [0] ?_
  have iG:=hT.cls _ _ kZ
  have Jr:=oy cs k
  refine zD 2<|jp (vs:=[.int .u8 0,zI (k:Int)]) [] [] (fun aE hs hZ=>(axr (by omega)))<|jd 9 [0]<|zJ 31 (xH.under≥0) (fun h2=>?_) fun h2=>?_
  ·
   refine jd 9 [2,0] ?_
   obtain⟨DR,xc⟩:=zG ((mI cs k)) (xH.under.toNat) (by first|omega| (simp only[List.length_set,List.length_append,List.length_cons,List.length_nil];omega))
   refine pS xH.under 1 hI.2 xc (Int.toNat_of_nonneg (show 0≤xH.under∧xH.under <(((mI cs k)).length:Int) from (by have:=iG.2;simp only[oy];omega)).1).symm (fun b39 aQX=>?_)
   refine oQ 0 [1] LS (fun s _ hZ=>cG hI.2 aQX hZ xc)<|jd 10 [2]<|jn fun b48=>jk (sz:=1) (ps:=(mI cs k)) (qs:=[(Jp .u8 (Jp .u8 0 (dD .u8 1 (k:Int))) DR)]) (enc:=QZ) (w:= .slice (some ⟨b48,0,none⟩) 1 1) [2] [0] [(b48,.cells ⟨([(Jp .u8 (Jp .u8 0 (dD .u8 1 (k:Int))) DR)].map QZ).flatten⟩ 406 (0,0))] (hI.2) (fun s _ hZ=>cg [(Jp .u8 (Jp .u8 0 (dD .u8 1 (k:Int))) DR)] (hZ _ (.head _)) (by intro p hp;rfl)) (fun p _=>aj rfl) (by simp only[oy,List.length_cons,List.length_nil];omega) (fun v49 L49 FY=>?_)
   obtain⟨aaA,aat,S3⟩:=FY.form
   subst S3
   refine jd 5 [3]<|ja ((k:Int)+1) (by omega)<|zD 2<|bO bU (⟨k+1,(.slice aaA (((mI cs k)++[(Jp .u8 (Jp .u8 0 (dD .u8 1 (k:Int))) DR)])).length aat),L49⟩) ⟨by dsimp only;omega,by rw[alP kZ (by omega) xc];exact FY⟩ (by dsimp only;omega) [0,3,4] (Sub.refl _)
  refine jd 9 [2]<|jn fun b48=>jk (sz:=1) (ps:=(mI cs k)) (qs:=[(Jp .u8 0 (dD .u8 1 (k:Int)))]) (enc:=QZ) (w:= .slice (some ⟨b48,0,none⟩) 1 1) [2] [0] [(b48,.cells ⟨([(Jp .u8 0 (dD .u8 1 (k:Int)))].map QZ).flatten⟩ 406 (0,0))] (hI.2) (fun s _ hZ=>cg [(Jp .u8 0 (dD .u8 1 (k:Int)))] (hZ _ (.head _)) (by intro p hp;rfl)) (fun p _=>aj rfl) (by simp only[oy,List.length_cons,List.length_nil];omega) (fun v49 L49 FY=>?_)
  obtain⟨aaA,aat,S3⟩:=FY.form
  subst S3
  refine jd 5 [3]<|ja ((k:Int)+1) (by omega)<|zD 2<|bO bU (⟨k+1,(.slice aaA (((mI cs k)++[(Jp .u8 0 (dD .u8 1 (k:Int)))])).length aat),L49⟩) ⟨by dsimp only;omega,by rw[alQ kZ (by omega)];exact FY⟩ (by dsimp only;omega) [0,3,4] (Sub.refl _)
 refine jd 11 [2]<|oU<|eG [1,1,1,1,0,1,0,0] [] (fun(zz:Nat×Value×Cells×(List Value))=>[(2,.pointer none),(3,zI 0),(5,zP fA),(54,.slice dM hv.length dq),(55,zI (hv.length:Int)),(56,zI (zz.1:Int))]) (fun(zz:Nat×Value×Cells×(List Value))=>[.l zz.2.2.1,.b fA (.cells ⟨[.slice eE cs.length ep,.slice dM hv.length dq,vS,zz.2.1]⟩ 410 (0,0)),.l LS,.b b1 (.cells ⟨[.slice eE cs.length ep,.slice dM hv.length dq]⟩ 33 (0,0))]) (fun(zz:Nat×Value×Cells×(List Value))=>(zz.1≤hv.length∧zz.2.2.2.length≤zz.1)∧aD zz.2.1 1 420 gN zz.2.2.2 zz.2.2.1) (fun(zz:Nat×Value×Cells×(List Value))=>hv.length-zz.1) (⟨0,zS,[],[]⟩) ⟨⟨by omega,Nat.le_refl _⟩,aD.nil _ _ _⟩ [0,2,1,3] ?_
 rintro⟨j,vE,LE,es⟩ hJ K2 lL rest
 dsimp only at hJ
 refine zD 5<|zJ 57 ((j:Int) <(hv.length:Int)) (fun h3=>?_) fun h3=>?_
 ·
  refine zD 6 ?_
  obtain⟨Ep,aky⟩:=zG hv j
  refine iE dq 4 qv aky<|jl 0 (qu _ _ aky)<|jn fun rJ=>jsx 0 rJ 0 [.string ByteArray.empty,zI 0,zI 0,zS] [.string Ep.word,zI Ep.cls,zI Ep.nY,Ep.ei] 133 (mC dr _ (List.mem_of_getElem? aky)) rfl<|zD 3 ?_
  obtain⟨y58,bbH,aOI⟩:=dr.get aky
  obtain⟨fC,rj,ri,eV,hqe,tj,lB,mz⟩:=aOI.2.2.2
  refine jmw 0 [.b rJ (.cells ⟨[.string Ep.word,zI Ep.cls,zI Ep.nY,.slice fC y58.ei.length eV]⟩ 133 (0,0))] (L:=[(rJ,.cells ⟨[.string Ep.word,zI Ep.cls,zI Ep.nY,Ep.ei]⟩ 133 (0,0))]) (by rw[hqe];rfl) ?_
  refine jd 6 [0]<|js 73 (!decide (Ep.nY=(-1))) (fun h4=>?_) (fun h4=>?_)
  ·
   replace h4:=of_decide_eq_false (by simpa using h4)
   refine jd 11 [2,0]<|aN 9 fun qZ q6 p7=>jn fun b86=>bD p7 [1,2,3,4,5]<|aN 10 fun rK rR qz=>jk (sz:=1) (ps:=es) (qs:=[(.iface 413 (.agg ⟨[zI Ep.nY]⟩):Value)]) (enc:=gN) (w:= .slice (some ⟨b86,0,none⟩) 1 1) [2] [0] [(b86,.cells ⟨([(.iface 413 (.agg ⟨[zI Ep.nY]⟩):Value)].map gN).flatten⟩ 420 (0,0))] (hJ.2) (fun s _ hZ=>cg [(.iface 413 (.agg ⟨[zI Ep.nY]⟩):Value)] (hZ _ (.head _)) (by intro p hp;rfl)) (by intro p hp;rw[List.mem_singleton] at hp;subst hp;exact aj rfl) (by simp only[List.length_cons,List.length_nil];omega) (fun v87 L87 ad4=>?_)
   obtain⟨aJS,aJw,aP7⟩:=ad4.form
   subst aP7
   refine gX qz [[2]]<|zD 2<|aN 13 fun yY y8 Ag=>jd 1 [3]<|gX Ag []<|zD 2<|ja ((j:Int)+1) (by omega)<|zD 2<|bO lL (⟨j+1,(.slice aJS ((es++[(.iface 413 (.agg ⟨[zI Ep.nY]⟩):Value)])).length aJw),L87,(es++[(.iface 413 (.agg ⟨[zI Ep.nY]⟩):Value)])⟩) ⟨⟨by dsimp only;omega,by simp only[List.length_append,List.length_cons,List.length_nil];omega⟩,ad4⟩ (by dsimp only;omega) [0,3,4,5] (Sub.refl _)
  replace h4:=of_decide_eq_true (by simpa using h4)
  refine jd 8 [0]<|js 90 (!decide (Ep.cls=(-1))) (fun h8=>?_) (fun h8=>?_)
  ·
   replace h8:=of_decide_eq_false (by simpa using h8)
   refine jd 13 [2,0,0]<|aN 11 fun Z5 aaW YL=>jn fun aFF=>bD YL [1,2,3,4,5]<|aN 12 fun aiy aiU Ti=>jk (sz:=1) (ps:=es) (qs:=[(.iface 415 (.agg ⟨[zI Ep.cls,.slice fC y58.ei.length eV]⟩):Value)]) (enc:=gN) (w:= .slice (some ⟨aFF,0,none⟩) 1 1) [2] [0] [(aFF,.cells ⟨([(.iface 415 (.agg ⟨[zI Ep.cls,.slice fC y58.ei.length eV]⟩):Value)].map gN).flatten⟩ 420 (0,0))] (hJ.2) (fun s _ hZ=>cg [(.iface 415 (.agg ⟨[zI Ep.cls,.slice fC y58.ei.length eV]⟩):Value)] (hZ _ (.head _)) (by intro p hp;rfl)) (by intro p hp;rw[List.mem_singleton] at hp;subst hp;exact aj rfl) (by simp only[List.length_cons,List.length_nil];omega) (fun aZF aT9 VX=>?_)
   obtain⟨awT,awM,aBs⟩:=VX.form
   subst aBs
   refine gX Ti [[2],[2]]<|zD 2<|aN 15 fun W8 Xj YK=>jd 1 [3]<|gX YK []<|zD 2<|ja ((j:Int)+1) (by omega)<|zD 2<|bO lL (⟨j+1,(.slice awT ((es++[(.iface 415 (.agg ⟨[zI Ep.cls,.slice fC y58.ei.length eV]⟩):Value)])).length awM),aT9,(es++[(.iface 415 (.agg ⟨[zI Ep.cls,.slice fC y58.ei.length eV]⟩):Value)])⟩) ⟨⟨by dsimp only;omega,by simp only[List.length_append,List.length_cons,List.length_nil];omega⟩,VX⟩ (by dsimp only;omega) [0,3,4,5] (Sub.refl _)
  replace h8:=of_decide_eq_true (by simpa using h8)
  refine jd 11 [2,0]<|aN 9 fun W7 Xi Tg=>jn fun b69=>bD Tg [1,2,3,4,5]<|aN 10 fun Ek EG vw=>jk (sz:=1) (ps:=es) (qs:=[(.iface 417 (.agg ⟨[.slice fC y58.ei.length eV]⟩):Value)]) (enc:=gN) (w:= .slice (some ⟨b69,0,none⟩) 1 1) [2] [0] [(b69,.cells ⟨([(.iface 417 (.agg ⟨[.slice fC y58.ei.length eV]⟩):Value)].map gN).flatten⟩ 420 (0,0))] (hJ.2) (fun s _ hZ=>cg [(.iface 417 (.agg ⟨[.slice fC y58.ei.length eV]⟩):Value)] (hZ _ (.head _)) (by intro p hp;rfl)) (by intro p hp;rw[List.mem_singleton] at hp;subst hp;exact aj rfl) (by simp only[List.length_cons,List.length_nil];omega) (fun v70 L70 ad7=>?_)
  obtain⟨aJW,aJA,aQb⟩:=ad7.form
  subst aQb
  refine gX vw [[2]]<|zD 2<|aN 13 fun Iw IB BQ=>jd 1 [3]<|gX BQ []<|zD 2<|ja ((j:Int)+1) (by omega)<|zD 2<|bO lL (⟨j+1,(.slice aJW ((es++[(.iface 417 (.agg ⟨[.slice fC y58.ei.length eV]⟩):Value)])).length aJA),L70,(es++[(.iface 417 (.agg ⟨[.slice fC y58.ei.length eV]⟩):Value)])⟩) ⟨⟨by dsimp only;omega,by simp only[List.length_append,List.length_cons,List.length_nil];omega⟩,ad7⟩ (by dsimp only;omega) [0,3,4,5] (Sub.refl _)
 refine zD 9<|aJ q0 (.tuple ⟨[zP fA,zI 0]⟩) [] [1,2] ((fA,.cells ⟨[.slice eE cs.length ep,.slice dM hv.length dq,vS,vE]⟩ 410 (0,0))::LS) (Sub.refl _) ⟨_,_,rfl,rfl,_,_,LS,_,rfl,by have:=hI.2;rwa[show k=cs.length by omega] at this,rfl⟩
theorem Vr{s:Int}{j:Int}(h:0≤j):acT s (j+1).toNat=bif hasB s j then j else acT s j.toNat:=by
 obtain⟨m,rfl⟩:=Int.eq_ofNat_of_zero_le h
 rfl
theorem US{on a b:Int}{x:eR}(h:l[k]?=some x):A8 on a b (l.drop k) k=((((hasB on k&&decide (x.a=a))&&decide (x.b=b))&& !x.same)||A8 on a b (l.drop (k+1)) (k+1)):=by rw[fT h];rfl
theorem abn{on a b:Int}(h:¬k <l.length):A8 on a b (l.drop k) k=false:=by rw[eP h];rfl
theorem V6{hv:List bA}{h:Int}{x:bA}(hS:du dj hv hd)(hT:lg cs hd)(hk:nJ hd h)(h0:0≤h)(hx:hv[h.toNat]?=some x):Wz hd h=x.cls∧0≤x.cls∧x.cls <cs.length:=by
 obtain⟨y,hy,hs⟩:=hS.get hx
 rcases hk with rfl| ⟨_,z,hz,hc⟩
 ·omega
 rw[hy] at hz;cases hz
 have:=(hT.Ad _ _ hy).2.1
 exact⟨by simp[Wz,hy,hs.2.1],hs.2.1▸hc,by rw[hs.2.1];exact this.2⟩
theorem V5{hv:List bA}{h:Int}(hS:du dj hv hd)(hk:nJ hd h)(h0:0≤h):h <hv.length:=by
 rcases hk with rfl| ⟨_,z,hz,_⟩
 ·omega
 have:=(List.getElem?_eq_some_iff.1 hz).1
 rw[hS.len];omega
theorem apw{hv:List bA}{a b:Int}{ro:Nat→Option Obj}(hR:iX ro vc vh cs hv hd)(nA:du dj hv hd)(hT:lg cs hd)(ha:0≤a∧a <cs.length)(hb:0≤b∧b <cs.length):dL zT 315 [.agg ⟨[vc,vh]⟩,zI a,zI b] ro (.tuple ⟨[zI (FD cs a b),zI 0]⟩):=by
 obtain⟨hc,hh,dr⟩:=id hR
 obtain⟨eE,zk,zi,ep,rfl,Cq,xW,xV⟩:=hc
 obtain⟨dM,uy,ux,dq,rfl,wA,qv,qu⟩:=hh
 have CE:=hT.nc
 have hnh:=hT.nh
 have hlen:=nA.len
 have Jr:=oy cs cs.length
 refine bI av [] [] bB<|zD 2<|jn fun b3=>jd 6 [0]<|jc (vs:=[.agg ⟨[.slice eE cs.length ep,.slice dM hv.length dq]⟩]) [] (apF hR nA hT) ?_
 rintro _ _ ⟨bT,vS,LS,vE,rfl,hS,rfl⟩
 refine jg 0 [.b bT (.cells ⟨[.slice eE cs.length ep,.slice dM hv.length dq,vS,vE]⟩ 410 (0,0)),.l LS]<|zD 5<|jf [0,1] ((bT,.cells ⟨[.slice eE cs.length ep,.slice dM hv.length dq,vS,vE]⟩ 410 (0,0))::LS) (fun AR cy ju=>?_)
 have hSS:=hS.lq ju.tail
 obtain⟨ayo,bas,baq,ajk,rfl,bar,ayn,aym⟩:=hSS
 refine jd 17 [0]<|ja ((cs.length:Int)-1) (by omega)<|jp (vs:=[zI a,zI 0,zI ((cs.length:Int)-1)]) [] [] (fun aE hs hZ=>iW)<|zD 3<|js 20 (!(iV a 0 ((cs.length:Int)-1))) (fun h4=>?_) (fun h4=>?_)
 ·
  try simp only[zB] at h4
  exfalso;simp only[iV,Bool.not_eq_true',Bool.and_eq_false_iff,decide_eq_false_iff_not] at h4;omega
 try simp only[zB] at h4
 refine jd 6 [0]<|ja ((cs.length:Int)-1) (by omega)<|jp (vs:=[zI b,zI 0,zI ((cs.length:Int)-1)]) [] [] (fun aE hs hZ=>iW)<|zD 3<|js 20 (!(iV b 0 ((cs.length:Int)-1))) (fun h5=>?_) (fun h5=>?_)
 ·
  try simp only[zB] at h5
  exfalso;simp only[iV,Bool.not_eq_true',Bool.and_eq_false_iff,decide_eq_false_iff_not] at h5;omega
 try simp only[zB] at h5
 refine jd 8 [0]<|ja ((cs.length:Int)-1) (by omega)<|zD 3<|eG [1,1,1,0,1,0,0] [] (fun(zz:Int)=>[(1,zI a),(2,zI b),(8,zP bT),(10,zI zz)]) (fun(zz:Int)=>[.b b3 (.cells ⟨[.slice eE cs.length ep,.slice dM hv.length dq]⟩ 33 (0,0))]) (fun(zz:Int)=>(-1≤zz∧zz <cs.length)∧FD cs a b=acT (SB .u8 ((mI cs cs.length)[a.toNat]?.getD 0) ((mI cs cs.length)[b.toNat]?.getD 0)) (zz+1).toNat) (fun(zz:Int)=>(zz+1).toNat) ((cs.length:Int)-1) ⟨by omega,by rw[FD,show ((cs.length:Int)-1+1).toNat=cs.length by omega]⟩ [0] ?_
 rintro j hI K1 bU rest
 refine zD 6<|zJ 40 (j≥0) (fun h6=>?_) fun h6=>?_
 ·
  refine zD 9<|jl (b:=bT) (off:=0) (m:=4) (vs:=[.slice eE cs.length ep,.slice dM hv.length dq,.slice ayo ((mI cs cs.length).length) ajk,vE]) 2 ⟨_,_,_,.inl (ju _ (.head _)),rfl⟩<|zD 1 ?_
  obtain⟨x48,FM⟩:=zG ((mI cs cs.length)) (a.toNat) (by simp only[oy];omega)
  refine M7 a ajk 1 ayn FM (Int.toNat_of_nonneg (show 0≤a∧a <(((mI cs cs.length)).length:Int) from (by simp only[oy];omega)).1).symm ?_
  refine jl 0 (aym _ _ FM)<|zD 3<|jl (b:=bT) (off:=0) (m:=4) (vs:=[.slice eE cs.length ep,.slice dM hv.length dq,.slice ayo ((mI cs cs.length).length) ajk,vE]) 2 ⟨_,_,_,.inl (ju _ (.head _)),rfl⟩<|zD 1 ?_
  obtain⟨x55,akz⟩:=zG ((mI cs cs.length)) (b.toNat)
  refine M7 b ajk 1 ayn akz (by omega)<|jl 0 (aym _ _ akz)<|zD 2<|jp (vs:=[.int .u8 (SB .u8 x48 x55),zI j]) [] [] (fun aE hs hZ=>(aLu (by omega)))<|zD 1<|js 59 (hasB (SB .u8 x48 x55) j) (fun h7=>?_) (fun h7=>?_)
  ·
   refine zD 8<|aJ q0.a (.tuple ⟨[zI j,zI 0]⟩) [] [] [] cy ⟨_,_,rfl,rfl,by rw[hI.2,Vr (by omega),FM,akz,Option.getD_some,Option.getD_some,show hasB _ _=true from (by assumption)];rfl,rfl⟩
  refine zD 4<|ja (j-1) (by omega)<|zD 2<|bO bU (j-1) ⟨by omega,by rw[hI.2,Vr (by omega),FM,akz,Option.getD_some,Option.getD_some,show hasB _ _=false from (by assumption),show j-1+1=j by omega];rfl⟩ (by omega) [0] (Sub.refl _)
 refine zD 8<|aJ q0.a (.tuple ⟨[zI (-1),zI 0]⟩) [] [] [] cy ⟨_,_,rfl,rfl,by rw[hI.2,show j= -1 by omega];rfl,rfl⟩
theorem azt{ro:Nat→Option Obj}:dL zT 134 [] ro (.agg ⟨[.iface 272 (.agg ⟨[]⟩),.iface 273 (.agg ⟨[]⟩),.iface 274 (.agg ⟨[]⟩)]⟩):=by
 refine bI av [] [] bB<|zD 2<|jn fun b0=>jd 13 [0]<|aJ q0 (.agg ⟨[.iface 272 (.agg ⟨[]⟩),.iface 273 (.agg ⟨[]⟩),.iface 274 (.agg ⟨[]⟩)]⟩) [0] [] [] (Sub.refl _) ⟨_,_,rfl,rfl,rfl,rfl⟩
theorem aq8{rows:List bX}{a:Nat}{on:Int}{ro:Nat→Option Obj}(hF:pq ro f K rows)(hV:fU K)(ha:K.before[a]?=some x) (hb:K.after[b]?=some y):dL zT 311 [.agg ⟨[]⟩,zP f,zI (a:Int),zI (b:Int),.int .u8 on] ro (.bool (yL K x y)):=by
 obtain⟨c0,c1,c2,vc,vh,vr,vb,va,vf,vt,hv,hf,p6,nA,hr,Dv,Ie,Jt,bS⟩:=id hF
 obtain⟨hc,hh,dr⟩:=id p6
 obtain⟨eE,zk,zi,ep,rfl,Cq,xW,xV⟩:=hc
 obtain⟨dM,uy,ux,dq,rfl,wA,qv,qu⟩:=hh
 obtain⟨kI,Hq,Hp,kH,rfl,M1,EZ,EY⟩:=hr
 obtain⟨lD,KA,Ky,kK,rfl,Kz,E1,E0⟩:=Dv
 obtain⟨lE,KG,KD,kL,rfl,KE,E4,E3⟩:=Ie
 obtain⟨mh,R3,RZ,kV,rfl,R2,Kx,Kw⟩:=Jt
 obtain⟨nq,Db,Da,mS,rfl,N9,Kt,Kr⟩:=bS
 have QL:=hV.rules.1
 have F8:=hV.before.1
 have H8:=hV.after.1
 have hnf:=hV.facts.1
 have Jy:=(List.getElem?_eq_some_iff.1 ha).1
 have V8:=(List.getElem?_eq_some_iff.1 hb).1
 refine bI av [] [] bB<|zD 2<|jn fun b5=>zD 8<|jl (b:=f) (off:=0) (m:=13) (vs:=[c0,c1,c2,.slice eE K.cs.length ep,.slice dM hv.length dq,.slice kI K.rules.length kH,.slice lD K.before.length kK,.slice lE K.after.length kL,zI K.gone,zI K.new,zI K.ai,.slice mh K.facts.length kV,.slice nq rows.length mS]) 5 ⟨_,_,_,.inl hf,rfl⟩<|zD 4<|jl (b:=f) (off:=0) (m:=13) (vs:=[c0,c1,c2,.slice eE K.cs.length ep,.slice dM hv.length dq,.slice kI K.rules.length kH,.slice lD K.before.length kK,.slice lE K.after.length kL,zI K.gone,zI K.new,zI K.ai,.slice mh K.facts.length kV,.slice nq rows.length mS]) 6 ⟨_,_,_,.inl hf,rfl⟩<|zD 1 ?_
 obtain⟨xH,kZ⟩:=zG K.before a
 refine iE kK 5 E1 kZ<|zD 1<|jl 0 (E0 _ _ kZ)<|zD 4<|jl (b:=f) (off:=0) (m:=13) (vs:=[c0,c1,c2,.slice eE K.cs.length ep,.slice dM hv.length dq,.slice kI K.rules.length kH,.slice lD K.before.length kK,.slice lE K.after.length kL,zI K.gone,zI K.new,zI K.ai,.slice mh K.facts.length kV,.slice nq rows.length mS]) 7 ⟨_,_,_,.inl hf,rfl⟩<|zD 1 ?_
 obtain⟨Xa,Ls⟩:=zG K.after b
 refine iE kL 5 E4 Ls<|zD 1<|jl 0 (E3 _ _ Ls)<|jp (vs:=[.slice kI K.rules.length kH,.string xH.name,.string Xa.name]) [] [] (fun aE hs hZ=>OH ((show bL _ _ _ _ _ from ⟨kI,Hq,Hp,kH,rfl,M1,EZ,EY⟩).up hs) hV.rules.2 QL (hV.before.2 _ (List.mem_of_getElem? kZ)).1 (hV.after.2 _ (List.mem_of_getElem? Ls)).1)<|zD 9<|jp (vs:=[zI 0]) [] [] (fun aE hs hZ=>zw)<|zD 8<|aJ q0 (.bool (decide ((Et K.rules xH.name Xa.name)=2))) [] [] [] (Sub.refl _) ⟨_,_,rfl,rfl,by rw[ha] at kZ;cases kZ;rw[hb] at Ls;cases Ls;rfl,rfl⟩
theorem adu{rows:List bX}{a:Nat}{on:Int}{ro:Nat→Option Obj}(hF:pq ro f K rows)(hV:fU K)(ha:K.before[a]?=some x) (hb:K.after[b]?=some y):dL zT 313 [.agg ⟨[]⟩,zP f,zI (a:Int),zI (b:Int),.int .u8 on] ro (.bool (tT K x y)):=by
 obtain⟨c0,c1,c2,vc,vh,vr,vb,va,vf,vt,hv,hf,p6,nA,hr,Dv,Ie,Jt,bS⟩:=id hF
 obtain⟨hc,hh,dr⟩:=id p6
 obtain⟨eE,zk,zi,ep,rfl,Cq,xW,xV⟩:=hc
 obtain⟨dM,uy,ux,dq,rfl,wA,qv,qu⟩:=hh
 obtain⟨kI,Hq,Hp,kH,rfl,M1,EZ,EY⟩:=hr
 obtain⟨lD,KA,Ky,kK,rfl,Kz,E1,E0⟩:=Dv
 obtain⟨lE,KG,KD,kL,rfl,KE,E4,E3⟩:=Ie
 obtain⟨mh,R3,RZ,kV,rfl,R2,Kx,Kw⟩:=Jt
 obtain⟨nq,Db,Da,mS,rfl,N9,Kt,Kr⟩:=bS
 have QL:=hV.rules.1
 have F8:=hV.before.1
 have H8:=hV.after.1
 have hnf:=hV.facts.1
 have Jy:=(List.getElem?_eq_some_iff.1 ha).1
 have V8:=(List.getElem?_eq_some_iff.1 hb).1
 refine bI av [] [] bB<|zD 2<|jn fun b5=>zD 8<|jl (b:=f) (off:=0) (m:=13) (vs:=[c0,c1,c2,.slice eE K.cs.length ep,.slice dM hv.length dq,.slice kI K.rules.length kH,.slice lD K.before.length kK,.slice lE K.after.length kL,zI K.gone,zI K.new,zI K.ai,.slice mh K.facts.length kV,.slice nq rows.length mS]) 6 ⟨_,_,_,.inl hf,rfl⟩<|zD 1 ?_
 obtain⟨xI,pW⟩:=zG K.before a
 refine iE kK 5 E1 pW<|zD 1<|jl 3 (E0 _ _ pW)<|zD 4<|jl (b:=f) (off:=0) (m:=13) (vs:=[c0,c1,c2,.slice eE K.cs.length ep,.slice dM hv.length dq,.slice kI K.rules.length kH,.slice lD K.before.length kK,.slice lE K.after.length kL,zI K.gone,zI K.new,zI K.ai,.slice mh K.facts.length kV,.slice nq rows.length mS]) 7 ⟨_,_,_,.inl hf,rfl⟩<|zD 1 ?_
 obtain⟨nU,iR⟩:=zG K.after b
 refine iE kL 5 E4 iR<|zD 1<|jl 3 (E3 _ _ iR)<|zD 9<|jj 3 [(1,zP f),(10,.bool false),(11,zI xI.head),(12,zI nU.head),(38,.bool ((decide (xI.head <0))||(decide (nU.head <0))))] (fun gJ=>?_) (fun hj=>?_)
 rotate_left
 refine js 35 (decide (xI.head <0)) (fun h1=>?_) (fun h1=>?_)
 ·
  have gh:=h1
  replace gh:=of_decide_eq_true gh
  refine zD 3<|jw 38 (.bool ((decide (xI.head <0))||(decide (nU.head <0)))) (w:= .bool true) (by rw[h1]<;>rfl) ?_
  exact hj _ (by kernel_rfl) (by kernel_rfl)
 ·
  have gh:=h1
  replace gh:=of_decide_eq_false gh
  refine zD 3<|jw 38 (.bool ((decide (xI.head <0))||(decide (nU.head <0)))) (w:= .bool (decide (nU.head <0))) (by rw[h1]<;>rfl) ?_
  exact hj _ (by kernel_rfl) (by kernel_rfl)
 refine zD 1<|jj 4 [(1,zP f),(10,.bool false),(11,zI xI.head),(12,zI nU.head),(43,.bool (((decide (xI.head <0))||(decide (nU.head <0)))||(decide (xI.head=nU.head))))] (fun gJ=>?_) (fun hj=>?_)
 rotate_left
 refine js 39 ((decide (xI.head <0))||(decide (nU.head <0))) (fun h2=>?_) (fun h2=>?_)
 ·
  have mr:=h2
  try simp only[zB] at mr
  refine zD 4<|jw 43 (.bool (((decide (xI.head <0))||(decide (nU.head <0)))||(decide (xI.head=nU.head)))) (w:= .bool true) (by rw[h2]<;>rfl) ?_
  exact hj _ (by kernel_rfl) (by kernel_rfl)
 ·
  have mr:=h2
  try simp only[zB] at mr
  refine zD 4<|jw 43 (.bool (((decide (xI.head <0))||(decide (nU.head <0)))||(decide (xI.head=nU.head)))) (w:= .bool (decide (xI.head=nU.head))) (by rw[h2]<;>rfl) ?_
  exact hj _ (by kernel_rfl) (by kernel_rfl)
 refine zD 1<|js 43 (((decide (xI.head <0))||(decide (nU.head <0)))||(decide (xI.head=nU.head))) (fun h3=>?_) (fun h3=>?_)
 ·
  try simp only[zB] at h3
  refine zD 6<|aJ q0 (.bool false) [] [] [] (Sub.refl _) ⟨_,_,rfl,rfl,by rw[ha] at pW;cases pW;rw[hb] at iR;cases iR;rw[tT,if_pos (by omega)],rfl⟩
 try simp only[zB] at h3
 refine zD 8<|jl (b:=f) (off:=0) (m:=13) (vs:=[c0,c1,c2,.slice eE K.cs.length ep,.slice dM hv.length dq,.slice kI K.rules.length kH,.slice lD K.before.length kK,.slice lE K.after.length kL,zI K.gone,zI K.new,zI K.ai,.slice mh K.facts.length kV,.slice nq rows.length mS]) 3 ⟨_,_,_,.inl hf,rfl⟩<|zD 5<|jl (b:=f) (off:=0) (m:=13) (vs:=[c0,c1,c2,.slice eE K.cs.length ep,.slice dM hv.length dq,.slice kI K.rules.length kH,.slice lD K.before.length kK,.slice lE K.after.length kL,zI K.gone,zI K.new,zI K.ai,.slice mh K.facts.length kV,.slice nq rows.length mS]) 4 ⟨_,_,_,.inl hf,rfl⟩<|zD 1 ?_
 obtain⟨x57,Dh⟩:=zG hv (xI.head.toNat) (by have:=V5 nA (hV.before.2 _ (List.mem_of_getElem? pW)).2 (by omega);omega)
 refine M7 xI.head dq 4 qv Dh (Int.toNat_of_nonneg (show 0≤xI.head∧xI.head <((hv).length:Int) from (by have:=V5 nA (hV.before.2 _ (List.mem_of_getElem? pW)).2 (by omega);omega)).1).symm ?_
 refine zD 1<|jl 1 (qu _ _ Dh)<|zD 5<|jl (b:=f) (off:=0) (m:=13) (vs:=[c0,c1,c2,.slice eE K.cs.length ep,.slice dM hv.length dq,.slice kI K.rules.length kH,.slice lD K.before.length kK,.slice lE K.after.length kL,zI K.gone,zI K.new,zI K.ai,.slice mh K.facts.length kV,.slice nq rows.length mS]) 4 ⟨_,_,_,.inl hf,rfl⟩<|zD 1 ?_
 obtain⟨x67,akx⟩:=zG hv (nU.head.toNat) (by have:=V5 nA (hV.after.2 _ (List.mem_of_getElem? iR)).2 (by omega);omega)
 refine M7 nU.head dq 4 qv akx (Int.toNat_of_nonneg (show 0≤nU.head∧nU.head <((hv).length:Int) from (by have:=V5 nA (hV.after.2 _ (List.mem_of_getElem? iR)).2 (by omega);omega)).1).symm ?_
 refine zD 1<|jl 1 (qu _ _ akx)<|jp (vs:=[.agg ⟨[.slice eE K.cs.length ep,.slice dM hv.length dq]⟩,zI x57.cls,zI x67.cls]) [] [] (fun aE hs hZ=>apw (p6.up hs) nA hV.dI (V6 nA hV.dI (hV.before.2 _ (List.mem_of_getElem? pW)).2 (by omega) Dh).2 (V6 nA hV.dI (hV.after.2 _ (List.mem_of_getElem? iR)).2 (by omega) akx).2)<|zD 9<|jp (vs:=[zI 0]) [] [] (fun aE hs hZ=>zw)<|zD 8<|aJ q0 (.bool (decide ((FD K.cs x57.cls x67.cls) <0))) [] [] [] (Sub.refl _) ⟨_,_,rfl,rfl,by rw[ha] at pW;cases pW;rw[hb] at iR;cases iR;rw[tT,if_neg (by omega),(V6 nA hV.dI (hV.before.2 _ (List.mem_of_getElem? ha)).2 (by omega) Dh).1,(V6 nA hV.dI (hV.after.2 _ (List.mem_of_getElem? hb)).2 (by omega) akx).1],rfl⟩
theorem aj6{rows:List bX}{a:Nat}{on:Int}{ro:Nat→Option Obj}(hF:pq ro f K rows)(hV:fU K):dL zT 319 [.agg ⟨[]⟩,zP f,zI (a:Int),zI (b:Int),.int .u8 on] ro (.bool (A8 on a b K.facts 0)):=by
 obtain⟨c0,c1,c2,vc,vh,vr,vb,va,vf,vt,hv,hf,p6,nA,hr,Dv,Ie,Jt,bS⟩:=id hF
 obtain⟨hc,hh,dr⟩:=id p6
 obtain⟨eE,zk,zi,ep,rfl,Cq,xW,xV⟩:=hc
 obtain⟨dM,uy,ux,dq,rfl,wA,qv,qu⟩:=hh
 obtain⟨kI,Hq,Hp,kH,rfl,M1,EZ,EY⟩:=hr
 obtain⟨lD,KA,Ky,kK,rfl,Kz,E1,E0⟩:=Dv
 obtain⟨lE,KG,KD,kL,rfl,KE,E4,E3⟩:=Ie
 obtain⟨mh,R3,RZ,kV,rfl,R2,Kx,Kw⟩:=Jt
 obtain⟨nq,Db,Da,mS,rfl,N9,Kt,Kr⟩:=bS
 have QL:=hV.rules.1
 have F8:=hV.before.1
 have H8:=hV.after.1
 have hnf:=hV.facts.1
 refine bI av [] [] bB<|zD 2<|jn fun b5=>zD 9<|jl (b:=f) (off:=0) (m:=13) (vs:=[c0,c1,c2,.slice eE K.cs.length ep,.slice dM hv.length dq,.slice kI K.rules.length kH,.slice lD K.before.length kK,.slice lE K.after.length kL,zI K.gone,zI K.new,zI K.ai,.slice mh K.facts.length kV,.slice nq rows.length mS]) 11 ⟨_,_,_,.inl hf,rfl⟩<|zD 4<|eG [1,0,1,0,0] [] (fun(zz:Nat)=>[(2,zI (a:Int)),(3,zI (b:Int)),(4,.int .u8 on),(17,.slice mh K.facts.length kV),(18,zI (K.facts.length:Int)),(19,zI (zz:Int))]) (fun(zz:Nat)=>[]) (fun(zz:Nat)=>zz≤K.facts.length∧A8 on a b K.facts 0=A8 on a b (K.facts.drop zz) zz) (fun(zz:Nat)=>K.facts.length-zz) 0 ⟨by omega,rfl⟩ [] ?_
 rintro k hI K1 bU rest
 refine zD 5<|zJ 20 ((k:Int) <(K.facts.length:Int)) (fun h1=>?_) fun h1=>?_
 ·
  refine zD 7 ?_
  obtain⟨rF,tG⟩:=zG K.facts k
  refine iE kV 3 Kx tG<|jl 0 (Kw _ _ tG)<|jn fun jH=>jd 7 [0]<|jp (vs:=[.int .u8 on,zI (k:Int)]) [] [] (fun aE hs hZ=>(arv (by omega)))<|zD 1<|jj 5 [(2,zI (a:Int)),(3,zI (b:Int)),(4,.int .u8 on),(12,zP jH),(17,.slice mh K.facts.length kV),(18,zI (K.facts.length:Int)),(19,zI (k:Int)),(32,.bool ((hasB on (k:Int))&&(decide (rF.a=(a:Int)))))] (fun gJ=>?_) (fun hj=>?_)
  rotate_left
  refine js 27 (hasB on (k:Int)) (fun h2=>?_) (fun h2=>?_)
  ·
   refine jd 5 [0]<|jw 32 (.bool ((hasB on (k:Int))&&(decide (rF.a=(a:Int))))) (w:= .bool (decide (rF.a=(a:Int)))) (by rw[h2]<;>rfl) ?_
   exact hj _ (by kernel_rfl) (by kernel_rfl)
  ·
   refine zD 5<|jw 32 (.bool ((hasB on (k:Int))&&(decide (rF.a=(a:Int))))) (w:= .bool false) (by rw[h2]<;>rfl) ?_
   exact hj _ (by kernel_rfl) (by kernel_rfl)
  refine zD 1<|jj 5 [(2,zI (a:Int)),(3,zI (b:Int)),(4,.int .u8 on),(12,zP jH),(17,.slice mh K.facts.length kV),(18,zI (K.facts.length:Int)),(19,zI (k:Int)),(38,.bool (((hasB on (k:Int))&&(decide (rF.a=(a:Int))))&&(decide (rF.b=(b:Int)))))] (fun gJ=>?_) (fun hj=>?_)
  rotate_left
  refine js 33 ((hasB on (k:Int))&&(decide (rF.a=(a:Int)))) (fun h3=>?_) (fun h3=>?_)
  ·
   have sD:=h3
   try simp only[zB] at sD
   refine jd 5 [0]<|jw 38 (.bool (((hasB on (k:Int))&&(decide (rF.a=(a:Int))))&&(decide (rF.b=(b:Int))))) (w:= .bool (decide (rF.b=(b:Int)))) (by rw[h3]<;>rfl) ?_
   exact hj _ (by kernel_rfl) (by kernel_rfl)
  ·
   have sD:=h3
   try simp only[zB] at sD
   refine zD 5<|jw 38 (.bool (((hasB on (k:Int))&&(decide (rF.a=(a:Int))))&&(decide (rF.b=(b:Int))))) (w:= .bool false) (by rw[h3]<;>rfl) ?_
   exact hj _ (by kernel_rfl) (by kernel_rfl)
  refine zD 1<|jj 4 [(2,zI (a:Int)),(3,zI (b:Int)),(4,.int .u8 on),(17,.slice mh K.facts.length kV),(18,zI (K.facts.length:Int)),(19,zI (k:Int)),(43,.bool ((((hasB on (k:Int))&&(decide (rF.a=(a:Int))))&&(decide (rF.b=(b:Int))))&&(!rF.same)))] (fun gJ=>?_) (fun hj=>?_)
  rotate_left
  refine js 39 (((hasB on (k:Int))&&(decide (rF.a=(a:Int))))&&(decide (rF.b=(b:Int)))) (fun h4=>?_) (fun h4=>?_)
  ·
   have xw:=h4
   try simp only[zB] at xw
   refine jd 4 [0]<|jw 43 (.bool ((((hasB on (k:Int))&&(decide (rF.a=(a:Int))))&&(decide (rF.b=(b:Int))))&&(!rF.same))) (w:= .bool (!rF.same)) (by rw[h4]<;>rfl) ?_
   exact hj _ (by kernel_rfl) (by kernel_rfl)
  ·
   have xw:=h4
   try simp only[zB] at xw
   refine zD 4<|jw 43 (.bool ((((hasB on (k:Int))&&(decide (rF.a=(a:Int))))&&(decide (rF.b=(b:Int))))&&(!rF.same))) (w:= .bool false) (by rw[h4]<;>rfl) ?_
   exact hj _ (by kernel_rfl) (by kernel_rfl)
  refine zD 1<|js 43 ((((hasB on (k:Int))&&(decide (rF.a=(a:Int))))&&(decide (rF.b=(b:Int))))&&(!rF.same)) (fun h5=>?_) (fun h5=>?_)
  ·
   refine zD 6<|aJ q0 (.bool true) [] [] [] (Sub.refl _) ⟨_,_,rfl,rfl,by rw[hI.2,US tG,show (((hasB on k&&decide (rF.a=a))&&decide (rF.b=b))&& !rF.same)=true from (by assumption)];rfl,rfl⟩
  refine zD 3<|ja ((k:Int)+1) (by omega)<|zD 2<|bO bU (k+1) ⟨by omega,by rw[hI.2,US tG,show (((hasB on k&&decide (rF.a=a))&&decide (rF.b=b))&& !rF.same)=false from (by assumption)];rfl⟩ (by omega) [] (Sub.refl _)
 refine zD 7<|aJ q0 (.bool false) [] [] [] (Sub.refl _) ⟨_,_,rfl,rfl,by rw[hI.2,abn (by omega)],rfl⟩
theorem azv{rows:List bX}{a:Nat}{on:Int}{ro:Nat→Option Obj}(hF:pq ro f K rows)(hV:fU K)(ha:K.before[a]?=some x) (hb:K.after[b]?=some y):dL zT 97 [zP f,zI (a:Int),zI (b:Int),.int .u8 on] ro (.bool (di K on a b)):=by
 refine bI av [] [] bB<|zD 7<|jp [] [] (fun aE hs hZ=>azt)<|zD 3<|eG [1,0,1,0,0] [] (fun(zz:Nat)=>[(0,zP f),(1,zI (a:Int)),(2,zI (b:Int)),(3,.int .u8 on),(11,.agg ⟨[.iface 272 (.agg ⟨[]⟩),.iface 273 (.agg ⟨[]⟩),.iface 274 (.agg ⟨[]⟩)]⟩),(12,zI (zz:Int))]) (fun(zz:Nat)=>[]) (fun(zz:Nat)=>zz≤3∧(1≤zz→yL K x y=false)∧(2≤zz→tT K x y=false)∧(3≤zz→A8 on a b K.facts 0=false)) (fun(zz:Nat)=>3-zz) 0 ⟨by omega,nofun,nofun,nofun⟩ [] ?_
 rintro k hI K1 bU rest
 refine zD 5<|zJ 13 ((k:Int) <3) (fun h1=>?_) fun h1=>?_
 ·
  refine zD 6 ?_
  obtain rfl|rfl|rfl:k=0∨k=1∨k=2:=by omega
  ·
   refine zD 10<|jpI (vs:=[.agg ⟨[]⟩,zP f,zI (a:Int),zI (b:Int),.int .u8 on]) (fun aE hs=>aq8 (hF.up hs) hV ha hb)<|zD 1<|js 20 (yL K x y) (fun h2=>?_) (fun h2=>?_)
   ·
    refine zD 6<|aJ q0 (.bool false) [] [] [] (Sub.refl _) ⟨_,_,rfl,rfl,by simp only[di,ha,hb];simp[*],rfl⟩
   refine zD 6<|bO bU 1 ⟨by omega,(fun _=>by assumption),nofun,nofun⟩ (by omega) [] (Sub.refl _)
  ·
   refine zD 10<|jpI (vs:=[.agg ⟨[]⟩,zP f,zI (a:Int),zI (b:Int),.int .u8 on]) (fun aE hs=>adu (hF.up hs) hV ha hb)<|zD 1<|js 20 (tT K x y) (fun h3=>?_) (fun h3=>?_)
   ·
    refine zD 6<|aJ q0 (.bool false) [] [] [] (Sub.refl _) ⟨_,_,rfl,rfl,by simp only[di,ha,hb];simp[*],rfl⟩
   refine zD 6<|bO bU 2 ⟨by omega,(fun _=>hI.2.1 (by omega)),(fun _=>by assumption),nofun⟩ (by omega) [] (Sub.refl _)
  refine zD 10<|jpI (vs:=[.agg ⟨[]⟩,zP f,zI (a:Int),zI (b:Int),.int .u8 on]) (fun aE hs=>aj6 (hF.up hs) hV)<|zD 1<|js 20 (A8 on a b K.facts 0) (fun h4=>?_) (fun h4=>?_)
  ·
   refine zD 6<|aJ q0 (.bool false) [] [] [] (Sub.refl _) ⟨_,_,rfl,rfl,by simp only[di,ha,hb];simp[*],rfl⟩
  refine zD 6<|bO bU 3 ⟨by omega,(fun _=>hI.2.1 (by omega)),(fun _=>hI.2.2.1 (by omega)),(fun _=>by assumption)⟩ (by omega) [] (Sub.refl _)
 refine zD 7<|aJ q0 (.bool true) [] [] [] (Sub.refl _) ⟨_,_,rfl,rfl,by simp only[di,ha,hb,hI.2.1 (by omega),hI.2.2.1 (by omega),hI.2.2.2 (by omega)];rfl,rfl⟩
abbrev eP4(p:Nat→Int):List Value:=[zI (p 0),zI (p 1),zI (p 2),zI (p 3)]
abbrev pL(p:Nat→Int):List Int:=[p 0,p 1,p 2,p 3]
def lj(p:Nat→Int)(a:Nat)(v:Int):Nat→Int:=fun i=>if i=a then v else p i
theorem Je{a:Nat}(h:a <4):a=0∨a=1∨a=2∨a=3:=by omega
theorem aqx{a:Nat}(h:a <4):nth (eP4 p) (0+(a:Int).toNat*1)=some (zI (p a)):=by
 rcases Je h with rfl|rfl|rfl|rfl<;>rfl
theorem aqw{a:Nat}{v:Int}(h:a <4):dB (eP4 p) (0+(a:Int).toNat*1) [zI v]=eP4 (lj p a v):=by
 rcases Je h with rfl|rfl|rfl|rfl<;>rfl
theorem aqy{a:Nat}{v:Value}(h:a <4):Nat.ble ((0+(a:Int).toNat*1)+[v].length) (eP4 p).length=true:=by
 rcases Je h with rfl|rfl|rfl|rfl<;>rfl
theorem UW{r:bX}{a:Nat}(h:a <4)(k:b <4):nth (B0 r) (0+(a:Int).toNat*4+(b:Int).toNat*1)=some (.bool (r.c a b)):=by
 rcases Je h with rfl|rfl|rfl|rfl<;>rcases Je k with rfl|rfl|rfl|rfl<;>rfl
def iO(r:bX)(a b:Nat)(v:Bool):bX:=⟨fun i j=>if i=a∧j=b then v else r.c i j⟩
theorem UU{r:bX}{a:Nat}{v:Bool}(h:a <4)(k:b <4):dB (B0 r) (0+(a:Int).toNat*4+(b:Int).toNat*1) [.bool v]=B0 (iO r a b v):=by
 rcases Je h with rfl|rfl|rfl|rfl<;>rcases Je k with rfl|rfl|rfl|rfl<;>rfl
theorem UX{r:bX}{a:Nat}{v:Value}(h:a <4)(k:b <4):Nat.ble ((0+(a:Int).toNat*4+(b:Int).toNat*1)+[v].length) (B0 r).length=true:=by
 rcases Je h with rfl|rfl|rfl|rfl<;>rcases Je k with rfl|rfl|rfl|rfl<;>rfl
def lv(on:Int)(p:Nat→Int):List eR→Nat→Bool
 | [],_=>true
 |x::l,k=>bif (hasB on k&&x.same)&& !decide (p x.a.toNat=x.b+1) then false else lv on p l (k+1)
theorem wx{on:Int}{x:eR}(h:l[k]?=some x):lv on p (l.drop k) k=bif (hasB on k&&x.same)&& !decide (p x.a.toNat=x.b+1) then false else lv on p (l.drop (k+1)) (k+1):=by rw[fT h];rfl
theorem RD{on:Int}(h:¬k <l.length):lv on p (l.drop k) k=true:=by rw[eP h];rfl
def Af(p:Nat→Int)(a:Nat)(v:Int):Bool:=decide (cZ (fun y=>decide (v=y)) ((pL p).take a) 0≥0)
theorem ai2{ro:Nat→Option Obj}{T:TypeId}(h:ro b=some (.cells ⟨eP4 p⟩ T (0,0)))(hn:n≤4):bL ro (.slice (some ⟨b,0,none⟩) n 4) 1 db ((pL p).take n):=by
 have:=bL.part (cb (enc:=db) (T:=T) (pL p) h (fun _ _=>rfl)) (l:=0) (h:=n) (by omega) (by simpa using hn)
 simpa [dP] using this
theorem arF{v:Value}{n:Int}{ro:Nat→Option Obj}(hl:bL ro v 1 db xs)(hn:xs.length≤1000000):dL zT 135 [v,zI n] ro (zI (cZ (fun y=>decide (n=y)) xs 0)):=by
 obtain⟨fC,rj,ri,eV,rfl,tj,lB,mz⟩:=hl
 refine bI av [] [] bB<|zD 12<|eG [1,0,1,0,0] [] (fun(zz:Nat)=>[(0,.slice fC xs.length eV),(1,zI n),(7,zI (xs.length:Int)),(8,zI (zz:Int))]) (fun(zz:Nat)=>[]) (fun(zz:Nat)=>zz≤xs.length∧cZ (fun y=>decide (n=y)) xs 0=cZ (fun y=>decide (n=y)) (xs.drop zz) zz) (fun(zz:Nat)=>xs.length-zz) 0 ⟨by omega,rfl⟩ [] ?_
 rintro k hI K1 bU rest
 refine zD 5<|zJ 9 ((k:Int) <(xs.length:Int)) (fun h1=>?_) fun h1=>?_
 ·
  refine zD 14 ?_
  obtain⟨fK,eN⟩:=zG xs k
  refine iE eV 1 lB eN<|jl 0 (mz _ _ eN)<|zD 2<|zJ 16 (n=fK) (fun h2=>?_) fun h2=>?_
  ·
   refine zD 7<|aJ q0 (zI (k:Int)) [] [] [] (Sub.refl _) ⟨_,_,rfl,rfl,by rw[hI.2,jF eN];simp[*],rfl⟩
  refine zD 3<|ja ((k:Int)+1) (by omega)<|zD 2<|bO bU (k+1) ⟨by omega,by rw[hI.2,jF eN];simp[*]⟩ (by omega) [] (Sub.refl _)
 refine zD 7<|aJ q0 (zI (-1)) [] [] [] (Sub.refl _) ⟨_,_,rfl,rfl,by rw[hI.2,qe (by omega)],rfl⟩
theorem aNP{v:Value}{n:Int}{ro:Nat→Option Obj}(hl:bL ro v 1 db xs)(hn:xs.length≤1000000):dL zT 101 [v,zI n] ro (.bool (decide (cZ (fun y=>decide (n=y)) xs 0≥0))):=by
 obtain⟨fC,rj,ri,eV,rfl,tj,lB,mz⟩:=hl
 refine bI av [] [] bB<|zD 8<|jp (vs:=[.slice fC xs.length eV,zI n]) [] [] (fun aE hs hZ=>arF ((show bL _ _ _ _ _ from ⟨fC,rj,ri,eV,rfl,tj,lB,mz⟩).up hs) (by first|omega| (simp only[List.length_set,List.length_append,List.length_cons,List.length_nil];omega))) ?_
 refine zD 4<|aJ q0 (.bool (decide ((cZ (fun y=>decide (n=y)) xs 0)≥0))) [] [] [] (Sub.refl _) ⟨_,_,rfl,rfl,rfl,rfl⟩
theorem aq9{rows:List bX}{on:Int}{ro:Nat→Option Obj}(hF:pq ro f K rows)(hV:fU K)(g1:ro b1=some (.cells ⟨[zP f]⟩ 94 (0,0)))(g2:ro b2=some (.cells ⟨[.int .u8 on]⟩ 99 (0,0))):dL zT 98 [.agg ⟨[zI (p 0),zI (p 1),zI (p 2),zI (p 3)]⟩,zP b1,zP b2] ro (.bool (lv on p K.facts 0)):=by
 obtain⟨c0,c1,c2,vc,vh,vr,vb,va,vf,vt,hv,hf,p6,nA,hr,Dv,Ie,Jt,bS⟩:=id hF
 obtain⟨hc,hh,dr⟩:=id p6
 obtain⟨eE,zk,zi,ep,rfl,Cq,xW,xV⟩:=hc
 obtain⟨dM,uy,ux,dq,rfl,wA,qv,qu⟩:=hh
 obtain⟨kI,Hq,Hp,kH,rfl,M1,EZ,EY⟩:=hr
 obtain⟨lD,KA,Ky,kK,rfl,Kz,E1,E0⟩:=Dv
 obtain⟨lE,KG,KD,kL,rfl,KE,E4,E3⟩:=Ie
 obtain⟨mh,R3,RZ,kV,rfl,R2,Kx,Kw⟩:=Jt
 obtain⟨nq,Db,Da,mS,rfl,N9,Kt,Kr⟩:=bS
 have QL:=hV.rules.1
 have F8:=hV.before.1
 have H8:=hV.after.1
 have hnf:=hV.facts.1
 refine bI av [] [] bB<|zD 2<|jn fun b3=>zD 5<|jl (b:=b1) (off:=0) (m:=1) (vs:=[zP f]) 0 ⟨_,_,_,.inl g1,rfl⟩<|zD 3<|jl (b:=f) (off:=0) (m:=13) (vs:=[c0,c1,c2,.slice eE K.cs.length ep,.slice dM hv.length dq,.slice kI K.rules.length kH,.slice lD K.before.length kK,.slice lE K.after.length kL,zI K.gone,zI K.new,zI K.ai,.slice mh K.facts.length kV,.slice nq rows.length mS]) 11 ⟨_,_,_,.inl hf,rfl⟩<|zD 4<|eG [1,0,1,0,0] [] (fun(zz:Nat)=>[(2,zP b2),(3,zP b3),(11,.slice mh K.facts.length kV),(12,zI (K.facts.length:Int)),(13,zI (zz:Int))]) (fun(zz:Nat)=>[.b b3 (.cells ⟨[zI (p 0),zI (p 1),zI (p 2),zI (p 3)]⟩ 122 (0,0))]) (fun(zz:Nat)=>zz≤K.facts.length∧lv on p K.facts 0=lv on p (K.facts.drop zz) zz) (fun(zz:Nat)=>K.facts.length-zz) 0 ⟨by omega,rfl⟩ [0] ?_
 rintro k hI K1 bU rest
 refine zD 5<|zJ 14 ((k:Int) <(K.facts.length:Int)) (fun h1=>?_) fun h1=>?_
 ·
  refine zD 7 ?_
  obtain⟨AZ,oH⟩:=zG K.facts k
  refine iE kV 3 Kx oH<|jl 0 (Kw _ _ oH)<|jn fun b6=>jd 4 [0] ?_
  have hf4:=(hV.facts.2 _ (List.mem_of_getElem? oH)).1
  have hf5:=(hV.facts.2 _ (List.mem_of_getElem? oH)).2
  have hae:AZ.a=(AZ.a.toNat:Int):=by omega
  refine zD 1<|jl (b:=b2) (off:=0) (m:=1) (vs:=[.int .u8 on]) 0 ⟨_,_,_,.inl g2,rfl⟩<|zD 1<|jp (vs:=[.int .u8 on,zI (k:Int)]) [] [] (fun aE hs hZ=>(arv (by omega)))<|zD 1<|js 3 (hasB on (k:Int)) (fun h2=>?_) (fun h2=>?_)
  ·
   refine jd 4 [0]<|js 7 AZ.same (fun h3=>?_) (fun h3=>?_)
   ·
    refine jd 2 [0]<|Jn (b:=b3) (off:=0) (len:=4) (sz:=1) AZ.a (by omega)<|oQ (b:=b3) (off:=0+AZ.a.toNat*1) (m:=1) (vs:=[zI (p AZ.a.toNat)]) 0 [1] [(b3,.cells ⟨[zI (p 0),zI (p 1),zI (p 2),zI (p 3)]⟩ 122 (0,0))] (fun s _ hZ=>r8 (hZ _ (.head _)) (by rw[hae];exact aqx (by omega))) ?_
    refine jd 2 [0]<|ja (AZ.b+1) (by omega)<|zD 3<|js 34 (!decide ((p AZ.a.toNat)=(AZ.b+1))) (fun h4=>?_) (fun h4=>?_)
    ·
     replace h4:=of_decide_eq_false (by simpa using h4)
     refine zD 6<|aJ q0 (.bool false) [] [] [] (Sub.refl _) ⟨_,_,rfl,rfl,by rw[hI.2,wx oH];simp only[h2,h3,decide_eq_false h4,Bool.and_true,Bool.true_and,Bool.not_false,Bool.not_true,Bool.and_false,Bool.false_and,cond_true,cond_false],rfl⟩
    replace h4:=of_decide_eq_true (by simpa using h4)
    refine zD 3<|ja ((k:Int)+1) (by omega)<|zD 2<|bO bU (k+1) ⟨by omega,by rw[hI.2,wx oH];simp only[h2,h3,decide_eq_true h4,Bool.and_true,Bool.true_and,Bool.not_false,Bool.not_true,Bool.and_false,Bool.false_and,cond_true,cond_false]⟩ (by omega) [1] (Sub.refl _)
   refine zD 13<|ja ((k:Int)+1) (by omega)<|zD 2<|bO bU (k+1) ⟨by omega,by rw[hI.2,wx oH];simp only[h2,h3,Bool.and_true,Bool.true_and,Bool.not_false,Bool.not_true,Bool.and_false,Bool.false_and,cond_true,cond_false]⟩ (by omega) [1] (Sub.refl _)
  refine zD 17<|ja ((k:Int)+1) (by omega)<|zD 2<|bO bU (k+1) ⟨by omega,by rw[hI.2,wx oH];simp only[h2,Bool.and_true,Bool.true_and,Bool.not_false,Bool.not_true,Bool.and_false,Bool.false_and,cond_true,cond_false]⟩ (by omega) [1] (Sub.refl _)
 refine zD 7<|aJ q0 (.bool true) [] [] [] (Sub.refl _) ⟨_,_,rfl,rfl,by rw[hI.2,RD (by omega)],rfl⟩
def iA(K:aT)(on:Int):Nat→Nat→(Nat→Int)→List (Nat→Int)
 |0,_,p=>bif lv on p K.facts 0 then [p] else []
 |n+1,a,p=>iA K on n (a+1) p++(List.range K.after.length).flatMap fun b=>bif !di K on a b||Af p a ((b:Int)+1) then [] else iA K on n (a+1) (lj p a ((b:Int)+1))
def mY(K:aT)(on:Int)(n a:Nat)(p:Nat→Int)(b:Nat):List (Nat→Int):=bif !di K on a b||Af p a ((b:Int)+1) then [] else iA K on n (a+1) (lj p a ((b:Int)+1))
theorem p9(K:aT)(on:Int)(n a:Nat)(p:Nat→Int):iA K on (n+1) a p=iA K on n (a+1) p++(List.range K.after.length).flatMap (mY K on n a p):=rfl
theorem Part.left{α:Type}{L x y:List α}{p:Nat}(h:Part L p (x++y)):Part L p x:=by
 obtain⟨a,b,rfl,h2⟩:=h
 exact⟨a,y++b,by simp,h2⟩
theorem Part.right{α:Type}{L x y:List α}{p:Nat}(h:Part L p (x++y)):Part L (p+x.length) y:=by
 obtain⟨a,b,rfl,rfl⟩:=h
 exact⟨a++x,b,by simp,by simp⟩
theorem XF{j:Nat}(h:j <n):∃r,List.range n=List.range j++[j]++r:=by
 refine⟨(List.range n).drop (j+1),?_⟩
 have h1:(List.range n).take (j+1)=List.range (j+1):=by rw[List.take_range,Nat.min_eq_left h]
 rw[←List.range_succ,←h1,List.take_append_drop]
theorem Wb{q:Nat→Int}{a:Nat}{v:Int}(ha:a <4)(h:∀i,i≠a→q i=p i):Af q a v=Af p a v:=by
 have:(pL q).take a=(pL p).take a:=by
  rcases Je ha with rfl|rfl|rfl|rfl
  ·rfl
  ·simp[h 0 (by omega)]
  ·simp[h 0 (by omega),h 1 (by omega)]
  simp[h 0 (by omega),h 1 (by omega),h 2 (by omega)]
 simp only[Af,this]
theorem Ux{q:Nat→Int}{a:Nat}{v:Int}(h:∀i,i≠a→q i=p i):lj q a v=lj p a v:=by
 funext i
 simp only[lj]
 split
 ·rfl
 rename_i hi;exact h i hi
abbrev ePs(L:List (Nat→Int)):(Nat→Option Obj)→Nat→List Value→Cells→Prop:=fun _ k vs LL=>∃p,L[k]?=some p∧vs=[.agg ⟨eP4 p⟩]∧LL=[]
structure ahs(ro:Nat→Option Obj)(bl f:Nat)(K:aT)(on:Int)(bf br bE bg bt bo:Nat):Prop where
 f:ro bf=some (.cells ⟨[zP f]⟩ 94 (0,0))
 r:ro br=some (.cells ⟨[.func (.func 98) ⟨[]⟩ ⟨[zP bf,zP bo]⟩]⟩ 187 (0,0))
 y:ro bE=some (.cells ⟨[.func (.yield bl) #[] #[]]⟩ 187 (0,0))
 g:ro bg=some (.cells ⟨[.func (.func 100) ⟨[]⟩ ⟨[zP bf,zP br,zP bE,zP bg,zP bt]⟩]⟩ 188 (0,0))
 t:ro bt=some (.cells ⟨B0 ⟨di K on⟩⟩ 139 (0,0))
 o:ro bo=some (.cells ⟨[.int .u8 on]⟩ 99 (0,0))
def aoH(bl f:Nat)(K:aT)(rows:List bX)(on:Int)(bf br bE bg bt bo:Nat)(L:List (Nat→Int))(Inv:Nat→Cells→Prop)(Stop:Cells→Prop)(n:Nat):Prop:=
 ∀(ro:Nat→Option Obj) (a:Nat) (p:Nat→Int) (q:Nat) (B:Cells),ahs ro bl f K on bf br bE bg bt bo→pq ro f K rows→a+n=K.before.length→Part L q (iA K on n a p)→Inv q B→Zx zT bl ro L.length (ePs L) Inv Stop→
  eI zT 100 [.agg ⟨eP4 p⟩,zI (a:Int),zP bf,zP br,zP bE,zP bg,zP bt] ro B (fun r Y=>∃c,r= .bool c∧(c=true→Inv (q+(iA K on n a p).length) Y)∧(c=false→Stop Y))
theorem arw{a q:Nat}{on:Int}{B:Cells}{L:List (Nat→Int)}{Inv:Nat→Cells→Prop}{rows:List bX}{ro:Nat→Option Obj}(ih:∀m,m <n→aoH bl f K rows on bf br bE bg bt bo L Inv Stop m)(hV:fU K)(og:ahs ro bl f K on bf br bE bg bt bo)(hF:pq ro f K rows)(han:a+n=K.before.length)(hP:Part L q (iA K on n a p))(hB:Inv q B)(hy:Zx zT bl ro L.length (ePs L) Inv Stop):eI zT 100 [.agg ⟨[zI (p 0),zI (p 1),zI (p 2),zI (p 3)]⟩,zI (a:Int),zP bf,zP br,zP bE,zP bg,zP bt] ro B (fun r Y=>∃c,r= .bool c∧(c=true→Inv (q+(iA K on n a p).length) Y)∧(c=false→Stop Y)):=by
 obtain⟨gf,gr,gy,gg,gt,go⟩:=id og
 obtain⟨c0,c1,c2,vc,vh,vr,vb,va,vf,vt,hv,hf,p6,nA,hr,Dv,Ie,Jt,bS⟩:=id hF
 obtain⟨hc,hh,dr⟩:=id p6
 obtain⟨eE,zk,zi,ep,rfl,Cq,xW,xV⟩:=hc
 obtain⟨dM,uy,ux,dq,rfl,wA,qv,qu⟩:=hh
 obtain⟨kI,Hq,Hp,kH,rfl,M1,EZ,EY⟩:=hr
 obtain⟨lD,KA,Ky,kK,rfl,Kz,E1,E0⟩:=Dv
 obtain⟨lE,KG,KD,kL,rfl,KE,E4,E3⟩:=Ie
 obtain⟨mh,R3,RZ,kV,rfl,R2,Kx,Kw⟩:=Jt
 obtain⟨nq,Db,Da,mS,rfl,N9,Kt,Kr⟩:=bS
 have QL:=hV.rules.1
 have F8:=hV.before.1
 have H8:=hV.after.1
 have hnf:=hV.facts.1
 refine bI av [.l B] [] bB<|zD 2<|jn fun b7=>zD 6<|jl (b:=bf) (off:=0) (m:=1) (vs:=[zP f]) 0 ⟨_,_,_,.inl gf,rfl⟩<|zD 3<|jl (b:=f) (off:=0) (m:=13) (vs:=[c0,c1,c2,.slice eE K.cs.length ep,.slice dM hv.length dq,.slice kI K.rules.length kH,.slice lD K.before.length kK,.slice lE K.after.length kL,zI K.gone,zI K.new,zI K.ai,.slice mh K.facts.length kV,.slice nq rows.length mS]) 6 ⟨_,_,_,.inl hf,rfl⟩<|zD 3<|zJ 18 ((a:Int)=(K.before.length:Int)) (fun h1=>?_) fun h1=>?_
 ·
  refine zD 2 ?_
  obtain rfl:n=0:=by omega
  refine zD 1<|jl (b:=br) (off:=0) (m:=1) (vs:=[.func (.func 98) ⟨[]⟩ ⟨[zP bf,zP bo]⟩]) 0 ⟨_,_,_,.inl gr,rfl⟩<|jd 1 [0]<|jp (vs:=[.agg ⟨[zI (p 0),zI (p 1),zI (p 2),zI (p 3)]⟩,zP bf,zP bo]) [] [] (fun aE hs hZ=>aq9 (hF.up hs) hV (hs _ _ gf) (hs _ _ go))<|zD 2<|js 23 (!(lv on p K.facts 0)) (fun h2=>?_) (fun h2=>?_)
  ·
   have mr:=h2
   try simp only[zB] at mr
   refine zD 7<|aJ q0 (.bool true) [] [1] B (Sub.refl _) ⟨_,_,rfl,rfl,_,rfl,(fun _=>by rw[show iA K on 0 a p=[] by simp only[iA,show lv on p K.facts 0=false by simpa using h2];rfl];exact hB),nofun⟩
  have mr:=h2
  try simp only[zB] at mr
  have aeK:iA K on 0 a p=[p]:=by simp only[iA,show lv on p K.facts 0=true by simpa using h2];rfl
  have ZQ:=Part.get (i:=0) (x:=p) hP (by rw[aeK];rfl)
  refine jl (b:=bE) (off:=0) (m:=1) (vs:=[(.func (.yield bl) #[] #[])]) 0 ⟨_,_,_,.inl gy,rfl⟩<|jd 1 [0]<|jyc [1] (hy q [.agg ⟨[zI (p 0),zI (p 1),zI (p 2),zI (p 3)]⟩] [] B ro ZQ.1 ⟨_,ZQ.2,rfl,rfl⟩ hB (Sub.refl _)) (Sub.refl _) ?_
  intro v26 Y26 aN3
  obtain⟨c26,rfl,aQH,aQv⟩:=yb aN3
  refine zD 4<|aJ q0 (.bool c26) [] [0] Y26 (Sub.refl _) ⟨_,_,rfl,rfl,_,rfl,(fun h=>by rw[aeK];exact aQH h),aQv⟩
 refine zD 4 ?_
 obtain⟨m,rfl⟩:∃m,n=m+1:=⟨n-1,by omega⟩
 rw[p9] at hP
 refine zD 1<|jl (b:=bg) (off:=0) (m:=1) (vs:=[.func (.func 100) ⟨[]⟩ ⟨[zP bf,zP br,zP bE,zP bg,zP bt]⟩]) 0 ⟨_,_,_,.inl gg,rfl⟩<|jd 2 [0]<|ja ((a:Int)+1) (by omega)<|jc (vs:=[.agg ⟨[zI (p 0),zI (p 1),zI (p 2),zI (p 3)]⟩,zI ((a:Int)+1),zP bf,zP br,zP bE,zP bg,zP bt]) [1] (ih m (by omega) _ (a+1) p q _ og hF (by omega) (Part.left hP) hB hy) ?_
 rintro _ Y32 ⟨c32,rfl,aQE,aQs⟩
 refine zD 2<|js 33 (!c32) (fun h3=>?_) (fun h3=>?_)
 ·
  try simp only[zB] at h3
  refine zD 6<|aJ q0 (.bool false) [] [0] Y32 (Sub.refl _) ⟨_,_,rfl,rfl,_,rfl,nofun,fun _=>aQs (by simp_all)⟩
 try simp only[zB] at h3
 refine zD 5<|jl (b:=bf) (off:=0) (m:=1) (vs:=[zP f]) 0 ⟨_,_,_,.inl gf,rfl⟩<|zD 3<|jl (b:=f) (off:=0) (m:=13) (vs:=[c0,c1,c2,.slice eE K.cs.length ep,.slice dM hv.length dq,.slice kI K.rules.length kH,.slice lD K.before.length kK,.slice lE K.after.length kL,zI K.gone,zI K.new,zI K.ai,.slice mh K.facts.length kV,.slice nq rows.length mS]) 7 ⟨_,_,_,.inl hf,rfl⟩<|zD 4<|eG [1,1,1,0,1,0,0] [] (fun(zz:Nat×(Nat→Int)×Cells)=>[(1,zI (a:Int)),(5,zP bg),(6,zP bt),(7,zP b7),(39,zI (K.after.length:Int)),(40,zI (zz.1:Int))]) (fun(zz:Nat×(Nat→Int)×Cells)=>[.b b7 (.cells ⟨[zI (zz.2.1 0),zI (zz.2.1 1),zI (zz.2.1 2),zI (zz.2.1 3)]⟩ 122 (0,0)),.l zz.2.2]) (fun(zz:Nat×(Nat→Int)×Cells)=>zz.1≤K.after.length∧Inv (q+(iA K on m (a+1) p).length+((List.range zz.1).flatMap (mY K on m a p)).length) zz.2.2∧∀i,i≠a→zz.2.1 i=p i) (fun(zz:Nat×(Nat→Int)×Cells)=>K.after.length-zz.1) (⟨0,p,Y32⟩) ⟨by dsimp only;omega,by have:=aQE (by simp_all);simpa using this,fun _ _=>rfl⟩ [1,0] ?_
 rintro⟨j,pp,B⟩ hJ K1 bU rest
 dsimp only at hJ
 refine zD 5<|zJ 41 ((j:Int) <(K.after.length:Int)) (fun h4=>?_) fun h4=>?_
 ·
  refine zD 11 ?_
  have ha4:a <4:=by omega
  have hj4:j <4:=by omega
  obtain⟨rr,hrr⟩:=XF (show j <K.after.length by omega)
  have hPj:=Part.flat (Part.right hP) hrr
  refine zD 3<|Jn (b:=bt) (off:=0) (len:=4) (sz:=4) (a:Int) (by omega)<|Jn (b:=bt) (off:=0+(a:Int).toNat*4) (len:=4) (sz:=1) (j:Int) (by omega)<|jl (b:=bt) (off:=0+(a:Int).toNat*4+(j:Int).toNat*1) (m:=1) (vs:=[.bool (di K on a j)]) 0 (r8 (.inl gt) (UW (r:=⟨di K on⟩) ha4 hj4))<|zD 2<|js 49 (!(di K on a j)) (fun h5=>?_) (fun h5=>?_)
  ·
   have Mb:=h5
   try simp only[zB] at Mb
   refine zD 10<|ja ((j:Int)+1) (by omega)<|zD 2<|bO bU (⟨j+1,pp,B⟩) ⟨by dsimp only;omega,by dsimp only;rw[List.range_succ,List.flatMap_append,List.length_append,List.flatMap_singleton,←Nat.add_assoc];rw[show mY K on m a p j=[] by simp only[mY,h5];rfl];exact hJ.2.1,hJ.2.2⟩ (by dsimp only;omega) [0,1] (Sub.refl _)
  have Mb:=h5
  try simp only[zB] at Mb
  refine zD 1<|jah (b:=b7) (off:=0) (len:=4) (a:Int) (by omega)<|zD 1<|ja ((j:Int)+1) (by omega)<|jp (vs:=[(.slice (some ⟨b7,0,none⟩) (a:Int).toNat 4),zI ((j:Int)+1)]) [0] [(b7,.cells ⟨[zI (pp 0),zI (pp 1),zI (pp 2),zI (pp 3)]⟩ 122 (0,0))] (fun aE hs hZ=>aNP (ai2 hZ.head (by omega)) (by rw[List.length_take];omega)) ?_
  refine zD 2<|js 55 (Af pp a ((j:Int)+1)) (fun h6=>?_) (fun h6=>?_)
  ·
   refine zD 3<|ja ((j:Int)+1) (by omega)<|zD 2<|bO bU (⟨j+1,pp,B⟩) ⟨by dsimp only;omega,by dsimp only;rw[List.range_succ,List.flatMap_append,List.length_append,List.flatMap_singleton,←Nat.add_assoc];rw[show mY K on m a p j=[] by simp only[mY,←Wb ha4 hJ.2.2,h5,h6];rfl];exact hJ.2.1,hJ.2.2⟩ (by dsimp only;omega) [0,1] (Sub.refl _)
  have hg0:mY K on m a p j=iA K on m (a+1) (lj p a ((j:Int)+1)):=by simp only[mY,←Wb ha4 hJ.2.2,h5,h6];rfl
  have hPg:Part L (q+(iA K on m (a+1) p).length+((List.range j).flatMap (mY K on m a p)).length) (iA K on m (a+1) (lj pp a ((j:Int)+1))):=by rw[Ux hJ.2.2,←hg0];exact hPj
  refine zD 6<|ja ((j:Int)+1) (by omega)<|Jn (b:=b7) (off:=0) (len:=4) (sz:=1) (a:Int) (by omega)<|jsx 0 b7 (0+(a:Int).toNat*1) [zI (pp 0),zI (pp 1),zI (pp 2),zI (pp 3)] [zI ((j:Int)+1)] 122 (by intro v hv;rw[List.mem_singleton] at hv;subst hv;rfl) (aqy (p:=pp) ha4) ?_
  refine jmw 0 [.b b7 (.cells ⟨[zI ((lj pp a ((j:Int)+1)) 0),zI ((lj pp a ((j:Int)+1)) 1),zI ((lj pp a ((j:Int)+1)) 2),zI ((lj pp a ((j:Int)+1)) 3)]⟩ 122 (0,0))] (L:=[(b7,.cells ⟨dB [zI (pp 0),zI (pp 1),zI (pp 2),zI (pp 3)] (0+(a:Int).toNat*1) [zI ((j:Int)+1)]⟩ 122 (0,0))]) (by rw[aqw ha4];rfl) ?_
  refine zD 3<|jl (b:=bg) (off:=0) (m:=1) (vs:=[.func (.func 100) ⟨[]⟩ ⟨[zP bf,zP br,zP bE,zP bg,zP bt]⟩]) 0 ⟨_,_,_,.inl gg,rfl⟩<|jd 2 [0]<|ja ((a:Int)+1) (by omega)<|jc (vs:=[.agg ⟨[zI ((lj pp a ((j:Int)+1)) 0),zI ((lj pp a ((j:Int)+1)) 1),zI ((lj pp a ((j:Int)+1)) 2),zI ((lj pp a ((j:Int)+1)) 3)]⟩,zI ((a:Int)+1),zP bf,zP br,zP bE,zP bg,zP bt]) [1] (ih m (by omega) _ (a+1) _ (q+(iA K on m (a+1) p).length+((List.range j).flatMap (mY K on m a p)).length) _ og hF (by omega) hPg hJ.2.1 hy) ?_
  rintro _ Y64 ⟨WG,rfl,aQC,aQq⟩
  refine zD 2<|js 65 (!WG) (fun h7=>?_) (fun h7=>?_)
  ·
   try simp only[zB] at h7
   refine zD 6<|aJ q0 (.bool false) [] [0] Y64 (Sub.refl _) ⟨_,_,rfl,rfl,_,rfl,nofun,fun _=>aQq (by simp_all)⟩
  try simp only[zB] at h7
  refine zD 3<|ja ((j:Int)+1) (by omega)<|zD 2<|bO bU (⟨j+1,(lj pp a ((j:Int)+1)),Y64⟩) ⟨by dsimp only;omega,by dsimp only;rw[List.range_succ,List.flatMap_append,List.length_append,List.flatMap_singleton,←Nat.add_assoc];rw[hg0,←Ux hJ.2.2];exact aQC (by simp_all),(fun i hi=>by simp only[lj,if_neg hi];exact hJ.2.2 i hi)⟩ (by dsimp only;omega) [1,0] (Sub.refl _)
 refine zD 7<|aJ q0 (.bool true) [] [1] B (Sub.refl _) ⟨_,_,rfl,rfl,_,rfl,(fun _=>by rw[p9,List.length_append,←Nat.add_assoc];have:=hJ.2.1;rwa[show j=K.after.length by omega] at this),nofun⟩
theorem azu(hV:fU K){rows:List bX}{on:Int}{L:List (Nat→Int)}{Inv:Nat→Cells→Prop}:∀n,aoH bl f K rows on bf br bE bg bt bo L Inv Stop n:=by
 intro n
 induction n using Nat.strongRecOn with
 |_ n ih=>exact fun ro a p q B hc hF han hP hB hy=>arw ih hV hc hF han hP hB hy
def bP(K:aT)(on:Int):List (Nat→Int):=iA K on K.before.length 0 fun _=>0
theorem Wo{on:Int}{a:Nat}(h:¬a <K.before.length∨¬b <K.after.length):di K on a b=false:=by
 rcases h with h|h
 ·simp[di,List.getElem?_eq_none (Nat.le_of_not_lt h)]
 simp only[di,List.getElem?_eq_none (Nat.le_of_not_lt h)]
 split
 ·rename_i h1;cases h1
 rfl
def DG(K:aT)(on:Int)(i j:Nat)(r:bX):Prop:=∀x y,r.c x y=((decide (x <i)||(decide (x=i)&&decide (y <j)))&&di K on x y)
theorem DG.set{on:Int}{i j:Nat}{r:bX}(h:DG K on i j r):DG K on i (j+1) (iO r i j (di K on i j)):=fun x y=>by
 simp only[iO]
 split
 ·rename_i hx;obtain⟨rfl,rfl⟩:=hx;simp
 rename_i hx
 rw[h x y]
 congr 2
 by_cases e:x=i
 ·subst e
  have:y≠j:=fun e2=>hx ⟨rfl,e2⟩
  simp only[decide_true,Bool.true_and]
  congr 1
  exact propext (by omega)
 simp[e]
theorem DG.nxt{on:Int}{i:Nat}{r:bX}(h:DG K on i K.after.length r):DG K on (i+1) 0 r:=fun x y=>by
 rw[h x y]
 by_cases hy:y <K.after.length
 ·congr 1
  simp only[hy,decide_true,Bool.and_true,Nat.not_lt_zero,decide_false,Bool.and_false,Bool.or_false]
  rw[Bool.eq_iff_iff];simp;omega
 rw[Wo (.inr hy)];simp
theorem DG.fin{on:Int}{r:bX}(h:DG K on K.before.length 0 r):r=⟨di K on⟩:=by
 rcases r with ⟨c⟩
 congr 1
 funext x y
 have:=h x y
 dsimp only at this
 rw[this]
 by_cases hx:x <K.before.length
 ·simp[hx]
 rw[Wo (.inl hx)];simp
theorem aju{a:Nat}(h:a <4):nth (eP4 p) ((a:Int).toNat*1)=some (zI (p a)):=by
 rcases Je h with rfl|rfl|rfl|rfl<;>rfl
theorem abq{r:bX}{a:Nat}{j:Int}(h:a <4)(k:0≤j∧j <4):nth (B0 r) (0+(a:Int).toNat*4+j.toNat*1)=some (.bool (r.c a j.toNat)):=by
 obtain⟨m,rfl⟩:=Int.eq_ofNat_of_zero_le k.1
 exact UW h (by omega)
def HZ(r:bX)(p:Nat→Int):Nat→Int
 |0=>0
 |k+1=>HZ r p k+bif decide (p k>0)&& !r.c k (p k-1).toNat then 1 else 0
def c8(K:aT)(r:bX)(past:Nat)(p:Nat→Int):aA:=⟨past,p 0,p 1,p 2,p 3,K.before.length-u1 (pL p),K.after.length-u1 (pL p),HZ r p 4⟩
theorem U7(p:Nat→Int):0≤u1 (pL p)∧u1 (pL p)≤4:=by
 have:=List.length_filter_le (fun x=>decide (x>0)) (pL p)
 simp only[u1]
 exact⟨by omega,by simp only[List.length_cons,List.length_nil] at this;omega⟩
theorem VD{rows:List bX}{on:Int}{b3 b4:Nat}{ro:Nat→Option Obj}(hF:pq ro f K rows)(hV:fU K)(g1:ro b1=some (.cells ⟨[zP f]⟩ 94 (0,0)))(g2:ro b2=some (.cells ⟨[.func (.func 98) ⟨[]⟩ ⟨[zP b1,zP b4]⟩]⟩ 187 (0,0)))(g3:ro b3=some (.cells ⟨B0 ⟨di K on⟩⟩ 139 (0,0)))(g4:ro b4=some (.cells ⟨[.int .u8 on]⟩ 99 (0,0))):ItX zT 99 [] [zP b1,zP b2,zP b3] ro [] (bP K on).length (ePs (bP K on)) (fun Z=>Z=[]):=by
 intro bl aE Inv Stop hs hy B hB
 replace g1:=hs _ _ g1
 replace g2:=hs _ _ g2
 replace g3:=hs _ _ g3
 replace g4:=hs _ _ g4
 replace hF:=hF.up hs
 refine bI av [.l B] [] bB<|zD 2<|jn fun b4=>zD 3<|jn fun b5=>jd 9 [0,0]<|jf [1,0] ((b4,.cells ⟨[(.func (.yield bl) #[] #[])]⟩ 187 (0,0))::[(b5,.cells ⟨[.func (.func 100) ⟨[]⟩ ⟨[zP b1,zP b2,zP b4,zP b5,zP b3]⟩]⟩ 188 (0,0))]) fun AR cy ju=>jc (vs:=[.agg ⟨[zI 0,zI 0,zI 0,zI 0]⟩,zI 0,zP b1,zP b2,zP b4,zP b5,zP b3]) [0] (azu (K:=K) hV (on:=on) _ _ 0 (fun _=>0) 0 _ ⟨(cy _ _ g1),(cy _ _ g2),ju _ (.head _),ju _ (.tail _ (.head _)),(cy _ _ g3),cy _ _ g4⟩ (hF.up cy) (Nat.zero_add _) ⟨[],[],by simp[bP],rfl⟩ hB (Zx.up hy cy)) ?_
 rintro _ Y9 ⟨c9,rfl,hc9,hd9⟩
 refine zD 1<|aJ q0.a (.tuple ⟨[]⟩) [] [0] Y9 cy ⟨_,_,rfl,rfl,[],Y9,rfl,rfl,by cases c9 with|true=>exact .inl (by simpa [bP] using hc9 rfl)|false=>exact .inr (hd9 rfl)⟩
theorem Jj{rows:List bX}{on:Int}{ro:Nat→Option Obj}(hF:pq ro f K rows)(hV:fU K):eI zT 72 [zP f,.int .u8 on] ro [] (fun r Y=>∃b1 b2 b3 b4,r= .func (.func 99) ⟨[]⟩ ⟨[zP b1,zP b2,zP b3]⟩∧Y=[(b1,.cells ⟨[zP f]⟩ 94 (0,0)),(b2,.cells ⟨[.func (.func 98) ⟨[]⟩ ⟨[zP b1,zP b4]⟩]⟩ 187 (0,0)),(b3,.cells ⟨B0 ⟨di K on⟩⟩ 139 (0,0)),(b4,.cells ⟨[.int .u8 on]⟩ 99 (0,0))]):=by
 obtain⟨c0,c1,c2,vc,vh,vr,vb,va,vf,vt,hv,hf,p6,nA,hr,Dv,Ie,Jt,bS⟩:=id hF
 obtain⟨hc,hh,dr⟩:=id p6
 obtain⟨eE,zk,zi,ep,rfl,Cq,xW,xV⟩:=hc
 obtain⟨dM,uy,ux,dq,rfl,wA,qv,qu⟩:=hh
 obtain⟨kI,Hq,Hp,kH,rfl,M1,EZ,EY⟩:=hr
 obtain⟨lD,KA,Ky,kK,rfl,Kz,E1,E0⟩:=Dv
 obtain⟨lE,KG,KD,kL,rfl,KE,E4,E3⟩:=Ie
 obtain⟨mh,R3,RZ,kV,rfl,R2,Kx,Kw⟩:=Jt
 obtain⟨nq,Db,Da,mS,rfl,N9,Kt,Kr⟩:=bS
 have QL:=hV.rules.1
 have F8:=hV.before.1
 have H8:=hV.after.1
 have hnf:=hV.facts.1
 refine bI av [] [] bB<|zD 2<|jn fun b2=>jn fun b3=>zD 4<|jn fun b5=>jd 8 [2]<|jl (b:=f) (off:=0) (m:=13) (vs:=[c0,c1,c2,.slice eE K.cs.length ep,.slice dM hv.length dq,.slice kI K.rules.length kH,.slice lD K.before.length kK,.slice lE K.after.length kL,zI K.gone,zI K.new,zI K.ai,.slice mh K.facts.length kV,.slice nq rows.length mS]) 6 ⟨_,_,_,.inl hf,rfl⟩<|zD 4<|eG [1,1,0,1,0,0] [] (fun(zz:Nat×bX)=>[(2,zP b2),(3,zP b3),(4,.nilFunc),(5,zP b5),(14,zI (K.before.length:Int)),(15,zI (zz.1:Int))]) (fun(zz:Nat×bX)=>[.b b5 (.cells ⟨[.bool (zz.2.c 0 0),.bool (zz.2.c 0 1),.bool (zz.2.c 0 2),.bool (zz.2.c 0 3),.bool (zz.2.c 1 0),.bool (zz.2.c 1 1),.bool (zz.2.c 1 2),.bool (zz.2.c 1 3),.bool (zz.2.c 2 0),.bool (zz.2.c 2 1),.bool (zz.2.c 2 2),.bool (zz.2.c 2 3),.bool (zz.2.c 3 0),.bool (zz.2.c 3 1),.bool (zz.2.c 3 2),.bool (zz.2.c 3 3)]⟩ 139 (0,0)),.b b3 (.cells ⟨[.int .u8 on]⟩ 99 (0,0)),.b b2 (.cells ⟨[zP f]⟩ 94 (0,0))]) (fun(zz:Nat×bX)=>zz.1≤K.before.length∧DG K on zz.1 0 zz.2) (fun(zz:Nat×bX)=>K.before.length-zz.1) (⟨0,⟨fun _ _=>false⟩⟩) ⟨by dsimp only;omega,fun x y=>by simp⟩ [0,1,2] ?_
 rintro⟨i,r⟩ hI K1 bU rest
 dsimp only at hI
 refine zD 5<|zJ 16 ((i:Int) <(K.before.length:Int)) (fun h1=>?_) fun h1=>?_
 ·
  refine jd 15 [2]<|jl (b:=f) (off:=0) (m:=13) (vs:=[c0,c1,c2,.slice eE K.cs.length ep,.slice dM hv.length dq,.slice kI K.rules.length kH,.slice lD K.before.length kK,.slice lE K.after.length kL,zI K.gone,zI K.new,zI K.ai,.slice mh K.facts.length kV,.slice nq rows.length mS]) 7 ⟨_,_,_,.inl hf,rfl⟩<|zD 4<|eG [1,1,0,1,0,0,1,1,0,0,1,1,0,0] [K1] (fun(zz:Nat×bX)=>[(2,zP b2),(3,zP b3),(4,.nilFunc),(5,zP b5),(6,zI (i:Int)),(14,zI (K.before.length:Int)),(15,zI (i:Int)),(23,zI (K.after.length:Int)),(24,zI (zz.1:Int))]) (fun(zz:Nat×bX)=>[.b b5 (.cells ⟨[.bool (zz.2.c 0 0),.bool (zz.2.c 0 1),.bool (zz.2.c 0 2),.bool (zz.2.c 0 3),.bool (zz.2.c 1 0),.bool (zz.2.c 1 1),.bool (zz.2.c 1 2),.bool (zz.2.c 1 3),.bool (zz.2.c 2 0),.bool (zz.2.c 2 1),.bool (zz.2.c 2 2),.bool (zz.2.c 2 3),.bool (zz.2.c 3 0),.bool (zz.2.c 3 1),.bool (zz.2.c 3 2),.bool (zz.2.c 3 3)]⟩ 139 (0,0)),.b b3 (.cells ⟨[.int .u8 on]⟩ 99 (0,0)),.b b2 (.cells ⟨[zP f]⟩ 94 (0,0))]) (fun(zz:Nat×bX)=>zz.1≤K.after.length∧DG K on i zz.1 zz.2) (fun(zz:Nat×bX)=>K.after.length-zz.1) (⟨0,r⟩) ⟨by dsimp only;omega,hI.2⟩ [0,1,2] ?_
  rintro⟨j,r⟩ hJ K2 lL rest
  dsimp only at hJ
  refine zD 5<|zJ 25 ((j:Int) <(K.after.length:Int)) (fun h2=>?_) fun h2=>?_
  ·
   refine zD 9 ?_
   obtain⟨x,ha⟩:∃x,K.before[i]?=some x:=⟨_,List.getElem?_eq_getElem (by omega)⟩
   obtain⟨y,hb⟩:∃y,K.after[j]?=some y:=⟨_,List.getElem?_eq_getElem (by omega)⟩
   refine jd 7 [2,1]<|Jn (b:=b5) (off:=0) (len:=4) (sz:=4) (i:Int) (by omega)<|jp (vs:=[zP f,zI (i:Int),zI (j:Int),.int .u8 on]) [] [] (fun aE hs hZ=>azv (hF.up hs) hV ha hb)<|Jn (b:=b5) (off:=0+(i:Int).toNat*4) (len:=4) (sz:=1) (j:Int) (by omega)<|aN 9 fun qZ q6 p7=>jsx 0 b5 (0+(i:Int).toNat*4+(j:Int).toNat*1) [.bool (r.c 0 0),.bool (r.c 0 1),.bool (r.c 0 2),.bool (r.c 0 3),.bool (r.c 1 0),.bool (r.c 1 1),.bool (r.c 1 2),.bool (r.c 1 3),.bool (r.c 2 0),.bool (r.c 2 1),.bool (r.c 2 2),.bool (r.c 2 3),.bool (r.c 3 0),.bool (r.c 3 1),.bool (r.c 3 2),.bool (r.c 3 3)] [.bool (di K on i j)] 139 (by intro v hv;rw[List.mem_singleton] at hv;subst hv;rfl) (UX (r:=r) (by omega) (by omega)) ?_
   refine jmw 0 [.b b5 (.cells ⟨[.bool ((iO r i j (di K on i j)).c 0 0),.bool ((iO r i j (di K on i j)).c 0 1),.bool ((iO r i j (di K on i j)).c 0 2),.bool ((iO r i j (di K on i j)).c 0 3),.bool ((iO r i j (di K on i j)).c 1 0),.bool ((iO r i j (di K on i j)).c 1 1),.bool ((iO r i j (di K on i j)).c 1 2),.bool ((iO r i j (di K on i j)).c 1 3),.bool ((iO r i j (di K on i j)).c 2 0),.bool ((iO r i j (di K on i j)).c 2 1),.bool ((iO r i j (di K on i j)).c 2 2),.bool ((iO r i j (di K on i j)).c 2 3),.bool ((iO r i j (di K on i j)).c 3 0),.bool ((iO r i j (di K on i j)).c 3 1),.bool ((iO r i j (di K on i j)).c 3 2),.bool ((iO r i j (di K on i j)).c 3 3)]⟩ 139 (0,0))] (L:=[(b5,.cells ⟨dB [.bool (r.c 0 0),.bool (r.c 0 1),.bool (r.c 0 2),.bool (r.c 0 3),.bool (r.c 1 0),.bool (r.c 1 1),.bool (r.c 1 2),.bool (r.c 1 3),.bool (r.c 2 0),.bool (r.c 2 1),.bool (r.c 2 2),.bool (r.c 2 3),.bool (r.c 3 0),.bool (r.c 3 1),.bool (r.c 3 2),.bool (r.c 3 3)] (0+(i:Int).toNat*4+(j:Int).toNat*1) [.bool (di K on i j)]⟩ 139 (0,0))]) (by rw[UU (by omega) (by omega)];rfl) ?_
   refine gX p7 []<|zD 2<|ja ((j:Int)+1) (by omega)<|zD 2<|bO lL (⟨j+1,(iO r i j (di K on i j))⟩) ⟨by dsimp only;omega,hJ.2.set⟩ (by dsimp only;omega) [0,1,2] (Sub.refl _)
  refine zD 3<|ja ((i:Int)+1) (by omega)<|zD 2<|bO bU (⟨i+1,r⟩) ⟨by dsimp only;omega,DG.nxt (by have:=hJ.2;rwa[show j=K.after.length by omega] at this)⟩ (by dsimp only;omega) [0,1,2] (Sub.refl _)
 refine zD 5<|jn fun b8=>jd 8 [0]<|aJ q0 (.func (.func 99) ⟨[]⟩ ⟨[zP b2,zP b8,zP b5]⟩) [] [3,0,1,2] ((b2,.cells ⟨[zP f]⟩ 94 (0,0))::((b8,.cells ⟨[.func (.func 98) ⟨[]⟩ ⟨[zP b2,zP b3]⟩]⟩ 187 (0,0))::((b5,.cells ⟨[.bool (r.c 0 0),.bool (r.c 0 1),.bool (r.c 0 2),.bool (r.c 0 3),.bool (r.c 1 0),.bool (r.c 1 1),.bool (r.c 1 2),.bool (r.c 1 3),.bool (r.c 2 0),.bool (r.c 2 1),.bool (r.c 2 2),.bool (r.c 2 3),.bool (r.c 3 0),.bool (r.c 3 1),.bool (r.c 3 2),.bool (r.c 3 3)]⟩ 139 (0,0))::[(b3,.cells ⟨[.int .u8 on]⟩ 99 (0,0))]))) (Sub.refl _) ⟨_,_,rfl,rfl,_,_,_,_,rfl,by have e:=DG.fin (K:=K) (on:=on) (r:=r) (by have:=hI.2;rwa[show i=K.before.length by omega] at this);subst e;rfl⟩
theorem ans{rows:List bX}{past:Nat}{HR:bX}{ro:Nat→Option Obj}(hF:pq ro f K rows)(hV:fU K)(BG:rows[past]?=some HR) (hp:∀i,0≤p i∧p i≤4):dL zT 74 [zP f,zI (past:Int),.agg ⟨[zI (p 0),zI (p 1),zI (p 2),zI (p 3)]⟩] ro (.agg ⟨cU (c8 K HR past p)⟩):=by
 obtain⟨c0,c1,c2,vc,vh,vr,vb,va,vf,vt,hv,hf,p6,nA,hr,Dv,Ie,Jt,bS⟩:=id hF
 obtain⟨hc,hh,dr⟩:=id p6
 obtain⟨eE,zk,zi,ep,rfl,Cq,xW,xV⟩:=hc
 obtain⟨dM,uy,ux,dq,rfl,wA,qv,qu⟩:=hh
 obtain⟨kI,Hq,Hp,kH,rfl,M1,EZ,EY⟩:=hr
 obtain⟨lD,KA,Ky,kK,rfl,Kz,E1,E0⟩:=Dv
 obtain⟨lE,KG,KD,kL,rfl,KE,E4,E3⟩:=Ie
 obtain⟨mh,R3,RZ,kV,rfl,R2,Kx,Kw⟩:=Jt
 obtain⟨nq,Db,Da,mS,rfl,N9,Kt,Kr⟩:=bS
 have QL:=hV.rules.1
 have F8:=hV.before.1
 have H8:=hV.after.1
 have hnf:=hV.facts.1
 have hpc:=U7 p
 have QJ:=(List.getElem?_eq_some_iff.1 BG).1
 refine bI av [] [] bB<|zD 2<|jn fun b5=>jn fun b6=>jd 4 [1]<|jp (vs:=[.agg ⟨[zI (p 0),zI (p 1),zI (p 2),zI (p 3)]⟩]) [] [] (fun aE hs hZ=>(ara (p0:=p 0) (p1:=p 1) (p2:=p 2) (p3:=p 3)))<|jd 10 [1]<|jl (b:=f) (off:=0) (m:=13) (vs:=[c0,c1,c2,.slice eE K.cs.length ep,.slice dM hv.length dq,.slice kI K.rules.length kH,.slice lD K.before.length kK,.slice lE K.after.length kL,zI K.gone,zI K.new,zI K.ai,.slice mh K.facts.length kV,.slice nq rows.length mS]) 6 ⟨_,_,_,.inl hf,rfl⟩<|zD 2<|ja ((K.before.length:Int)-(u1 (pL p))) (by omega)<|zD 4<|jl (b:=f) (off:=0) (m:=13) (vs:=[c0,c1,c2,.slice eE K.cs.length ep,.slice dM hv.length dq,.slice kI K.rules.length kH,.slice lD K.before.length kK,.slice lE K.after.length kL,zI K.gone,zI K.new,zI K.ai,.slice mh K.facts.length kV,.slice nq rows.length mS]) 7 ⟨_,_,_,.inl hf,rfl⟩<|zD 2<|ja ((K.after.length:Int)-(u1 (pL p))) (by omega)<|zD 1<|aN 19 fun C1 C7 AT=>jn fun b8=>bD AT [1,2]<|aN 20 fun AY A5 Ah=>jd 1 [0]<|dV Ah<|jd 8 [2]<|eG [1,1,1,0,1,0,0] [] (fun(zz:Nat×Int)=>[(0,zP f),(1,zI (past:Int)),(6,zP b6),(8,zP b8),(32,.agg ⟨[zI (p 0),zI (p 1),zI (p 2),zI (p 3)]⟩),(33,zI (zz.1:Int))]) (fun(zz:Nat×Int)=>[.b b8 (.cells ⟨[zI (past:Int),zI (p 0),zI (p 1),zI (p 2),zI (p 3),zI ((K.before.length:Int)-(u1 (pL p))),zI ((K.after.length:Int)-(u1 (pL p))),zI zz.2]⟩ 124 (0,0)),.b b6 (.cells ⟨[zI 0,zI 0,zI 0,zI 0,zI 0,zI 0,zI 0,zI 0]⟩ 124 (0,0))]) (fun(zz:Nat×Int)=>zz.1≤4∧zz.2=HZ HR p zz.1∧(0≤zz.2∧zz.2≤zz.1)) (fun(zz:Nat×Int)=>4-zz.1) (⟨0,0⟩) ⟨by dsimp only;omega,rfl,by dsimp only;omega⟩ [0,1] ?_
 rintro⟨k,m⟩ hI K3 ZW rest
 dsimp only at hI
 refine zD 5<|zJ 34 ((k:Int) <4) (fun h3=>?_) fun h3=>?_
 ·
  refine zD 7<|jai (l:=[zI (p 0),zI (p 1),zI (p 2),zI (p 3)]) (k:Int) 4 1 false (by omega) (v:= zI (p k)) (show nth (eP4 p) _=_ from aju (by omega))<|zD 4 ?_
  have hpk:=hp k
  refine zD 4<|js 39 (decide ((p k)>0)) (fun h4=>?_) (fun h4=>?_)
  ·
   have xw:=h4
   replace xw:=of_decide_eq_true xw
   refine zD 3<|jl (b:=f) (off:=0) (m:=13) (vs:=[c0,c1,c2,.slice eE K.cs.length ep,.slice dM hv.length dq,.slice kI K.rules.length kH,.slice lD K.before.length kK,.slice lE K.after.length kL,zI K.gone,zI K.new,zI K.ai,.slice mh K.facts.length kV,.slice nq rows.length mS]) 12 ⟨_,_,_,.inl hf,rfl⟩<|zD 3<|ja ((p k)-1) (by omega) ?_
   obtain⟨x48,FM⟩:=zG rows past
   refine iE mS 16 Kt FM<|Jn (b:=Db) (off:=Da+past*16+0) (len:=4) (sz:=4) (k:Int) (by omega)<|Jn (b:=Db) (off:=Da+past*16+0+(k:Int).toNat*4) (len:=4) (sz:=1) ((p k)-1) (by omega)<|jl (b:=Db) (off:=Da+past*16+0+(k:Int).toNat*4+((p k)-1).toNat*1) (m:=1) (vs:=[.bool (x48.c k ((p k)-1).toNat)]) 0 (show cA ⟨ro,[]⟩ Db (Da+past*16+0+(k:Int).toNat*4+((p k)-1).toNat*1) 1 [.bool (x48.c k ((p k)-1).toNat)] from by have:=abC (Kr _ _ FM) (abq (r:=x48) (a:=k) (j:=(p k)-1) (by omega) (by omega));simpa [Nat.add_assoc] using this) ?_
   refine zD 3<|js 53 (!(x48.c k ((p k)-1).toNat)) (fun h5=>?_) (fun h5=>?_)
   ·
    try simp only[zB] at h5
    refine jd 4 [0]<|ja (m+1) (by omega)<|jd 4 [0]<|ja ((k:Int)+1) (by omega)<|zD 2<|bO ZW (⟨k+1,(m+1)⟩) ⟨by dsimp only;omega,by dsimp only;rw[HZ,hI.2.1];rw[BG] at FM;cases FM;simp only[decide_eq_true xw,h5,Bool.not_false,Bool.not_true,Bool.and_true,Bool.and_false,cond_true,cond_false,Int.add_zero],by dsimp only;omega⟩ (by dsimp only;omega) [0,1] (Sub.refl _)
   try simp only[zB] at h5
   refine zD 3<|ja ((k:Int)+1) (by omega)<|zD 2<|bO ZW (⟨k+1,m⟩) ⟨by dsimp only;omega,by dsimp only;rw[HZ,hI.2.1];rw[BG] at FM;cases FM;simp only[decide_eq_true xw,h5,Bool.not_false,Bool.not_true,Bool.and_true,Bool.and_false,cond_true,cond_false,Int.add_zero],by dsimp only;omega⟩ (by dsimp only;omega) [0,1] (Sub.refl _)
  have xw:=h4
  replace xw:=of_decide_eq_false xw
  refine zD 18<|ja ((k:Int)+1) (by omega)<|zD 2<|bO ZW (⟨k+1,m⟩) ⟨by dsimp only;omega,by dsimp only;rw[HZ,hI.2.1];simp only[decide_eq_false xw,Bool.false_and,cond_false,Int.add_zero],by dsimp only;omega⟩ (by dsimp only;omega) [0,1] (Sub.refl _)
 refine jd 8 [0,1]<|aJ q0 (.agg ⟨[zI (past:Int),zI (p 0),zI (p 1),zI (p 2),zI (p 3),zI ((K.before.length:Int)-(u1 (pL p))),zI ((K.after.length:Int)-(u1 (pL p))),zI m]⟩) [1] [] [] (Sub.refl _) ⟨_,_,rfl,rfl,by rw[hI.2.1,show k=4 by omega];rfl,rfl⟩
def wj(v:Value)(xs:List aA)(Y:Cells):Prop:=∃ys,ys.Perm xs∧aD v 8 124 cU ys Y
def gx(xs:List aA):Prop:=∀x∈xs,0≤x.past∧x.past≤1000
theorem gx.perm{xs ys:List aA}(h:gx xs)(hp:ys.Perm xs):gx ys:=fun x hx=>h x (hp.mem_iff.1 hx)
theorem Ed{x:Int}(h:0≤x∧x≤1000000000):IntKind.i64.wrap (aV .u64 (IntKind.u64.wrap x) 1)=x / 2:=by
 have h1:IntKind.u64.wrap x=x:=rN .u64 rfl _ (by omega) (by simp[IntKind.bits];omega)
 rw[h1]
 have h2:aV .u64 x 1=x / 2:=by
  show x.fdiv 2=x / 2
  exact Int.fdiv_eq_ediv_of_nonneg _ (by decide)
 rw[h2,j8 _ (by omega)]
theorem akk{x y:aA}{ro:Nat→Option Obj}(hx:0≤x.past∧x.past≤1000)(hy:0≤y.past∧y.past≤1000):dL zT 109 [.agg ⟨[zI x.past,zI x.w0,zI x.w1,zI x.w2,zI x.w3,zI x.gone,zI x.new,zI x.ai]⟩,.agg ⟨[zI y.past,zI y.w0,zI y.w1,zI y.w2,zI y.w3,zI y.gone,zI y.new,zI y.ai]⟩] ro (zI (x.past-y.past)):=by
 refine bI av [] [] bB<|zD 2<|jn fun b2=>jn fun b3=>jd 8 [1,0]<|ja (x.past-y.past) (by omega)<|zD 3<|aJ q0 (zI (x.past-y.past)) [] [] [] (Sub.refl _) ⟨_,_,rfl,rfl,rfl,rfl⟩
theorem axM{v:Value}{xs:List aA}{L:Cells}{a b:Int}{ro:Nat→Option Obj}(ho:aD v 8 124 cU xs L)(hN:xs.length≤100000)(hP:gx xs)(Ee:0≤a∧a≤b∧b≤xs.length):eI zT 187 [v,zI a,zI b,.func (.func 109) ⟨[]⟩ ⟨[]⟩] ro L (fun r Y=>wj v xs Y):=by
 refine bI av [.l L] [] bB<|zD 3<|ja (a+1) (by omega)<|zD 3<|eG [1,0,0] [] (fun(zz:Int×(List aA)×Cells)=>[(0,v),(1,zI a),(2,zI b),(3,.func (.func 109) ⟨[]⟩ ⟨[]⟩),(8,zI zz.1)]) (fun(zz:Int×(List aA)×Cells)=>[.l zz.2.2]) (fun(zz:Int×(List aA)×Cells)=>(a+1≤zz.1)∧aD v 8 124 cU zz.2.1 zz.2.2∧zz.2.1.Perm xs) (fun(zz:Int×(List aA)×Cells)=>(b-zz.1).toNat) (⟨(a+1),xs,L⟩) ⟨by dsimp only;omega,ho,.refl _⟩ [0] ?_
 rintro⟨i,ys,L⟩ hI K1 bU rest
 dsimp only at hI
 have VK:=hI.2.2.length_eq
 have hyp:=hP.perm hI.2.2
 refine zD 7<|zJ 14 (i <b) (fun h1=>?_) fun h1=>?_
 ·
  refine zD 10<|eG [1,0,0,1,0,0,1,0,0] [K1] (fun(zz:Int×(List aA)×Cells)=>[(0,v),(1,zI a),(2,zI b),(3,.func (.func 109) ⟨[]⟩ ⟨[]⟩),(8,zI i),(9,zI zz.1)]) (fun(zz:Int×(List aA)×Cells)=>[.l zz.2.2]) (fun(zz:Int×(List aA)×Cells)=>(a≤zz.1∧zz.1≤i)∧aD v 8 124 cU zz.2.1 zz.2.2∧zz.2.1.Perm xs) (fun(zz:Int×(List aA)×Cells)=>(zz.1-a).toNat) (⟨i,ys,L⟩) ⟨by dsimp only;omega,hI.2⟩ [0] ?_
  rintro⟨j,ys,L⟩ hJ K2 lL rest
  dsimp only at hJ
  have VK:=hJ.2.2.length_eq
  have hyp:=hP.perm hJ.2.2
  refine zD 7<|js 3 (decide (j>a)) (fun h2=>?_) (fun h2=>?_)
  ·
   have mr:=h2
   replace mr:=of_decide_eq_true mr
   refine zD 3 ?_
   obtain⟨xH,kZ⟩:=zG ys (j.toNat) (by first|omega| (simp only[List.length_set];omega))
   refine pS j 8 hJ.2.1 kZ (Int.toNat_of_nonneg (show 0≤j∧j <((ys).length:Int) from (by first|omega| (simp only[List.length_set];omega))).1).symm (fun dW ae2=>?_)
   refine oQ 0 [0] L (fun s _ hZ=>cG hJ.2.1 ae2 hZ kZ)<|zD 2<|ja (j-1) (by omega) ?_
   obtain⟨nU,iR⟩:=zG ys ((j-1).toNat) (by first|omega| (simp only[List.length_set];omega))
   refine pS (j-1) 8 hJ.2.1 iR (Int.toNat_of_nonneg (show 0≤(j-1)∧(j-1) <((ys).length:Int) from (by first|omega| (simp only[List.length_set];omega))).1).symm (fun b30 Ta=>?_)
   refine oQ 0 [0] L (fun s _ hZ=>cG hJ.2.1 Ta hZ iR)<|aN 14 fun qZ q6 p7=>jp (vs:=[.agg ⟨[zI xH.past,zI xH.w0,zI xH.w1,zI xH.w2,zI xH.w3,zI xH.gone,zI xH.new,zI xH.ai]⟩,.agg ⟨[zI nU.past,zI nU.w0,zI nU.w1,zI nU.w2,zI nU.w3,zI nU.gone,zI nU.new,zI nU.ai]⟩]) [] [] (fun aE hs hZ=>(akk (x:=xH) (y:=nU) (hyp _ (List.mem_of_getElem? kZ)) (hyp _ (List.mem_of_getElem? iR))))<|bD p7 [0]<|zD 3<|zJ 34 ((xH.past-nU.past) <0) (fun h4=>?_) fun h4=>?_
   ·
    refine zD 9<|ja (j-1) (by omega)<|zD 2<|ja (j-1) (by omega) ?_
    obtain⟨wV,Dk⟩:=zG ys ((j-1).toNat) (by first|omega| (simp only[List.length_set];omega))
    refine pS (j-1) 8 hJ.2.1 Dk (Int.toNat_of_nonneg (show 0≤(j-1)∧(j-1) <((ys).length:Int) from (by first|omega| (simp only[List.length_set];omega))).1).symm (fun b45 ae1=>?_)
    refine oQ 0 [0] L (fun s _ hZ=>cG hJ.2.1 ae1 hZ Dk)<|zD 2 ?_
    obtain⟨HM,Dj⟩:=zG ys (j.toNat) (by first|omega| (simp only[List.length_set];omega))
    refine pS j 8 hJ.2.1 Dj (Int.toNat_of_nonneg (show 0≤j∧j <((ys).length:Int) from (by first|omega| (simp only[List.length_set];omega))).1).symm (fun b49 ae0=>?_)
    refine oQ 0 [0] L (fun s _ hZ=>cG hJ.2.1 ae0 hZ Dj) ?_
    obtain⟨x51,Di⟩:=zG ys (j.toNat) (by first|omega| (simp only[List.length_set];omega))
    refine pS j 8 hJ.2.1 Di (Int.toNat_of_nonneg (show 0≤j∧j <((ys).length:Int) from (by first|omega| (simp only[List.length_set];omega))).1).symm (fun b51 aeZ=>?_)
    refine aN 15 fun rK rR qz=>QF 0 0 [zI wV.past,zI wV.w0,zI wV.w1,zI wV.w2,zI wV.w3,zI wV.gone,zI wV.new,zI wV.ai] wV hJ.2.1 aeZ Di rfl rfl (Nat.le_of_ble_eq_true rfl) fun L6 Yy=>gX qz [] ?_
    obtain⟨x52,vi⟩:=zG ((ys.set j.toNat wV)) ((j-1).toNat) (by first|omega| (simp only[List.length_set];omega))
    refine pS (j-1) 8 Yy vi (Int.toNat_of_nonneg (show 0≤(j-1)∧(j-1) <(((ys.set j.toNat wV)).length:Int) from (by first|omega| (simp only[List.length_set];omega))).1).symm (fun b52 aeY=>?_)
    refine aN 17 fun yY y8 Ag=>QF 0 0 [zI HM.past,zI HM.w0,zI HM.w1,zI HM.w2,zI HM.w3,zI HM.gone,zI HM.new,zI HM.ai] HM Yy aeY vi rfl rfl (Nat.le_of_ble_eq_true rfl) fun L9 aeq=>dV Ag<|zD 3<|ja (j-1) (by omega)<|zD 2<|bO lL (⟨(j-1),((ys.set j.toNat wV).set ((j-1).toNat) HM),L9⟩) ⟨by dsimp only;omega,aeq,(nt Dj Dk).trans hJ.2.2⟩ (by dsimp only;omega) [0] (Sub.refl _)
   refine zD 4<|ja (i+1) (by omega)<|zD 2<|bO bU (⟨(i+1),ys,L⟩) ⟨by dsimp only;omega,hJ.2⟩ (by dsimp only;omega) [0] (Sub.refl _)
  have mr:=h2
  replace mr:=of_decide_eq_false mr
  refine zD 18<|ja (i+1) (by omega)<|zD 2<|bO bU (⟨(i+1),ys,L⟩) ⟨by dsimp only;omega,hJ.2⟩ (by dsimp only;omega) [0] (Sub.refl _)
 refine zD 2<|aJ q0 (.tuple ⟨[]⟩) [] [0] L (Sub.refl _) ⟨_,_,rfl,rfl,ys,hI.2.2,hI.2.1⟩
end Go.L
