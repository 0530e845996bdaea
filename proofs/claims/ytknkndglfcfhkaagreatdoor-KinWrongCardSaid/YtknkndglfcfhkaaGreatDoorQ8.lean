/- Part 8 of the proof. -/
import Derived.Test.YtknkndglfcfhkaaGreatDoorQ7
set_option maxRecDepth 100000
set_option linter.all false
namespace Go.L
open Go Go.Conc Go.Proofs
variable {ro:Nat→Option Obj} {rs:List bQ} {p:Nat→Int} {vl vc vh:Value} {K:aB} {b k f bD b1 b2 bl many bt br bg n bm b3 b4 j bf bo:Nat} {cs:List bO} {Stop:Cells→Prop} {x na nb:ByteArray} {hd:List cy} {l:List ByteArray} {y:aA} {T:TypeId} {xs:List Int}
def oT(rs:List bQ):List (ByteArray×ByteArray):=rs.flatMap fun r=>[(r.f,r.t),(r.t,r.f)]
abbrev eP2(x:ByteArray×ByteArray):List Value:=[.string x.1,.string x.2]
def jm(w:ByteArray)(ps:List (ByteArray×ByteArray)):List ByteArray:=ps.flatMap fun p=>Dz w p.1 p.2
def ng(w:ByteArray)(rs:List bQ):List ByteArray:=jm w (oT rs)
theorem Kx:∀(rs:List bQ),(oT rs).length=2*rs.length
 | []=>rfl
 |r::rs=>by have:=Kx rs;simp only[oT,List.flatMap_cons,zM] at this ⊢;omega
theorem Qw:∀ {rs:List bQ} {k q:Nat} {r:bQ} {p:ByteArray×ByteArray},rs[k]?=some r→[(r.f,r.t),(r.t,r.f)][q]?=some p→(oT rs)[2*k+q]?=some p
 | [],_,_,_,_,h,_=>by simp at h
 |r::rs,0,q,_,p,h,h2=>by
  simp only[List.getElem?_cons_zero,Option.some.injEq] at h;subst h
  simp only[oT,List.flatMap_cons,Nat.mul_zero,Nat.zero_add]
  rw[List.getElem?_append_left (by have:=(List.getElem?_eq_some_iff.1 h2).1;exact this)];exact h2
 |r::rs,k+1,q,_,p,h,h2=>by
  have:=Qw (rs:=rs) (k:=k) (by simpa using h) h2
  simp only[oT,List.flatMap_cons]
  rw[List.getElem?_append_right (by simp;omega)]
  rw[show 2*(k+1)+q- [(r.f,r.t),(r.t,r.f)].length=2*k+q by simp;omega];exact this
theorem FI{w:ByteArray}{ps:List (ByteArray×ByteArray)}{p:ByteArray×ByteArray}(h:ps[k]?=some p):jm w (ps.take (k+1))=jm w (ps.take k)++Dz w p.1 p.2:=by
 rw[jm,dZ h,List.flatMap_append];simp[jm]
theorem al7{w:ByteArray}{ps:List (ByteArray×ByteArray)}{p:ByteArray×ByteArray}(h:ps[k]?=some p) (hx:(Dz w p.1 p.2)[j]?=some x):(jm w (ps.take k)).length+j <(jm w ps).length∧(jm w ps)[(jm w (ps.take k)).length+j]?=some x:=by
 have e:jm w ps=jm w (ps.take (k+1))++jm w (ps.drop (k+1)):=by rw[jm,jm,jm,←List.flatMap_append,List.take_append_drop]
 have hj:=(List.getElem?_eq_some_iff.1 hx).1
 have:(jm w ps)[(jm w (ps.take k)).length+j]?=some x:=by
  rw[e,FI h,List.append_assoc,List.getElem?_append_right (by omega),List.getElem?_append_left (by omega),show (jm w (ps.take k)).length+j-(jm w (ps.take k)).length=j by omega]
  exact hx
 exact⟨(List.getElem?_eq_some_iff.1 this).1,this⟩
theorem amP{r:bQ}{p:ByteArray×ByteArray}{q:Nat}(h:rF r)(hp: [(r.f,r.t),(r.t,r.f)][q]?=some p):xS p.2∧(p.1.size≤100∧p.2.size≤100):=by
 have:=zL hp
 have h1:=h.f1;have h2:=h.t1
 simp only[List.mem_cons,List.not_mem_nil,or_false] at this
 rcases this with rfl|rfl
 ·exact⟨h.tl,by dsimp only;omega,by dsimp only;omega⟩
 exact⟨h.fl,by dsimp only;omega,by dsimp only;omega⟩
theorem abh{w f t:ByteArray}:dE zT 272 [.string w,.string f,.string t] ro [] (fun r Y=>∃b3 b4 b5,r= .func (.func 289) ⟨[]⟩ ⟨[zP b3,zP b4,zP b5]⟩∧Y=[(b3,.cells ⟨[.string w]⟩ 299 (0,0)),(b4,.cells ⟨[.string f]⟩ 9 (0,0)),(b5,.cells ⟨[.string t]⟩ 9 (0,0))]):=by
 refine zE<|zD 2<|jn fun b3=>jn fun b4=>jn fun b5=>zD 8<|zR (.func (.func 289) ⟨[]⟩ ⟨[zP b3,zP b4,zP b5]⟩) [] [2,1,0] ((b3,.cells ⟨[.string w]⟩ 299 (0,0))::((b4,.cells ⟨[.string f]⟩ 9 (0,0))::[(b5,.cells ⟨[.string t]⟩ 9 (0,0))])) ⟨_,_,_,rfl,rfl⟩
theorem auN{w:ByteArray}(hl:bC ro vl 2 iG rs):dE zT 248 [.string w,vl] ro [] (fun r Y=>∃b2 b3,r= .func (.func 271) ⟨[]⟩ ⟨[zP b3,zP b2]⟩∧Y=[(b2,.cells ⟨[.string w]⟩ 299 (0,0)),(b3,.cells ⟨[vl]⟩ 36 (0,0))]):=by
 obtain⟨fw,rQ,rP,eL,rfl,tO,lM,mC⟩:=hl
 refine zE<|zD 2<|jn fun b2=>jn fun b3=>zD 8<|zR (.func (.func 271) ⟨[]⟩ ⟨[zP b3,zP b2]⟩) [] [1,0] ((b2,.cells ⟨[.string w]⟩ 299 (0,0))::[(b3,.cells ⟨[.slice fw rs.length eL]⟩ 36 (0,0))]) ⟨_,_,rfl,rfl⟩
theorem am8{w:ByteArray}(g1:ro b1=some (.cells ⟨[vl]⟩ 36 (0,0)))(hl:bC ro vl 2 iG rs)(hR:∀r∈rs,rF r)(g2:ro b2=some (.cells ⟨[.string w]⟩ 299 (0,0)))(hw:xS w)(hn:w.size≤100)(hq:rs.length≤100):ItX zT 271 [] [zP b1,zP b2] ro [] (ng w rs).length (ar8 (ng w rs)) (fun Z=>Z=[]):=by
 intro bl aG Inv Stop hs hy B hB
 replace g1:=hs _ _ g1
 replace g2:=hs _ _ g2
 replace hl:=hl.up hs
 obtain⟨fw,rQ,rP,eL,rfl,tO,lM,mC⟩:=hl
 refine anO ar [.l B] [] aW<|zD 2<|jn fun b3=>jf [0] [(b3,.cells ⟨[(.func (.yield bl) #[] #[])]⟩ 366 (0,0))] fun yS cg iK=>zD 3<|jl (b:=b1) (off:=0) (m:=1) (vs:=[.slice fw rs.length eL]) 0 ⟨_,_,_,.inl (cg _ _ g1),rfl⟩<|zD 4<|n8<|aEe [1,1,0,0] [] (fun(zz:Nat×(List Nat)×Cells)=>[(2,zP b2),(3,zP b3),(9,.slice fw rs.length eL),(10,zI (rs.length:Int)),(11,zI (zz.1:Int))]) (fun zz=>[.l (mk zz.2.1),.l zz.2.2]) (fun zz=>(zz.2.1.map dW)) (fun zz=>zz.1≤rs.length∧Inv (jm w ((oT rs).take (2*zz.1))).length zz.2.2) (fun zz=>rs.length-zz.1) (⟨0,[],B⟩) ⟨by dsimp only;omega,hB⟩ [0,1] ?_
 rintro⟨k,uy,B⟩ hI K1 bF rest
 dsimp only at hI
 refine zD 5<|zJ 12 ((k:Int) <(rs.length:Int)) (fun h4=>?_) fun h4=>?_
 ·
  refine zD 6 ?_
  obtain⟨x13,an4⟩:=zG rs k
  refine gY eL 2 lM an4<|jl 0 ((mC _ _ an4).ext (ur cg))<|jn fun b5=>jd 14 [0,0,0,0,0]<|jn fun nQ=>zD 4<|aEe [1,1,0,0,1,1,0,0,1,1,0,0] [K1] (fun(zz:Nat×(List Nat)×Cells)=>[(2,zP b2),(3,zP b3),(9,.slice fw rs.length eL),(10,zI (rs.length:Int)),(11,zI (k:Int)),(25,.slice (some ⟨nQ,0,none⟩) 2 2),(26,zI 2),(27,zI (zz.1:Int))]) (fun zz=>[.l (mk zz.2.1),.l zz.2.2,.b nQ (.cells ⟨[.string x13.f,.string x13.t,.string x13.t,.string x13.f]⟩ 367 (0,0))]) (fun zz=>(zz.2.1.map dW)) (fun zz=>zz.1≤2∧Inv (jm w ((oT rs).take (2*k+zz.1))).length zz.2.2) (fun zz=>2-zz.1) (⟨0,uy,B⟩) ⟨by dsimp only;omega,hI.2⟩ [2,3,0] ?_
  rintro⟨q,uy,B⟩ hJ K2 kL rest
  dsimp only at hJ
  refine zD 5<|zJ 28 ((q:Int) <2) (fun h5=>?_) fun h5=>?_
  ·
   refine zD 6 ?_
   obtain⟨Ef,A1⟩:=zG ([(x13.f,x13.t),(x13.t,x13.f)]:List _) q (show q <2 from by omega)
   refine gY (a:=(some ⟨nQ,0,none⟩)) (b:=nQ) (off:=0) 2 2 (fun _ _=>rfl) A1<|kJ (m:=2) 0 [2] [(nQ,.cells ⟨([(x13.f,x13.t),(x13.t,x13.f)].map eP2).flatten⟩ 367 (0,0))] (fun s _ hZ=>xv (hZ _ (.head _)) (by intro p hp;rfl) A1) ?_
   refine jn fun b7=>jd 3 [0] ?_
   have hpx:=Qw an4 A1
   have hpk:=amP (hR _ (zL an4)) A1
   refine zD 1<|jl (b:=b2) (off:=0) (m:=1) (vs:=[.string w]) 0 ⟨_,_,_,.inl (cg _ _ g2),rfl⟩<|jd 4 [0,0]<|jc (vs:=[.string w,.string Ef.1,.string Ef.2]) [] (abh) ?_
   rintro _ _ ⟨aqV,aqU,aqT,rfl,rfl⟩
   refine jg 0 [.b aqV (.cells ⟨[.string w]⟩ 299 (0,0)),.b aqU (.cells ⟨[.string Ef.1]⟩ 9 (0,0)),.b aqT (.cells ⟨[.string Ef.2]⟩ 9 (0,0))]<|jf [0,1,2] ((aqV,.cells ⟨[.string w]⟩ 299 (0,0))::((aqU,.cells ⟨[.string Ef.1]⟩ 9 (0,0))::[(aqT,.cells ⟨[.string Ef.2]⟩ 9 (0,0))])) fun ro8 zb hk7=>zD 2<|jrf [] (am9 (hk7 _ (.head _)) (hk7 _ (.tail _ (.head _))) (hk7 _ (.tail _ (.tail _ (.head _)))) hw hpk.1 ⟨hn,hpk.2⟩) (by rintro _ _ _ _ ⟨_,_,rfl,_⟩;rfl) (fun(zz:Cells)=>[.l zz]) (fun kk=>(fun(zz:Cells)=>Inv ((jm w ((oT rs).take (2*k+q))).length+kk) zz)) (fun jump=>(fun(zz:Cells)=>jump= .ret∧Stop zz)) B (show Inv (_+0) _ from hJ.2) [2] ?_ ?_ ?_
   ·
    rintro bl9 bd9 kk9 vs9 LL9 B ro9 hk9 axc hL hs9
    obtain⟨x9,hx9,rfl,rfl⟩:=axc
    have hu:=al7 hpx hx9
    refine zD 3<|jbg<|zD 3<|jl (b:=b3) (off:=0) (m:=1) (vs:=[(.func (.yield bl) #[] #[])]) 0 ⟨_,_,_,.inl (hs9 _ _ (zb _ _ (iK _ (.head _)))),rfl⟩<|zD 1<|jyc [1] (hy ((jm w ((oT rs).take (2*k+q))).length+kk9) _ [] B ro9 hu.1 ⟨_,hu.2,rfl,rfl⟩ hL ((cg.trans zb).trans hs9)) (Sub.refl _) ?_
    intro v10 Z3 aOX
    obtain⟨c10,rfl,axB,axu⟩:=yb aOX
    refine zD 2<|js 41 (!c10) (fun V5=>?_) (fun V5=>?_)
    ·
     try simp only[zB] at V5
     refine zD 2<|jys qy0 (Sub.refl _) .ret Z3 ⟨rfl,axu (by simp_all)⟩ [1,0]
    try simp only[zB] at V5
    refine zD 2<|jyn qy0 (Sub.refl _) Z3 (axB (by simp_all)) [1,0]
   ·
    rintro bd9 B Z9 hL hZ9
    subst hZ9
    refine zD 1<|ja ((q:Int)+1) (by omega)<|zD 2<|jnD kL (⟨q+1,(bd9::uy),B⟩) ⟨by dsimp only;omega,by dsimp only;rw[←Nat.add_assoc,FI hpx,List.length_append];exact hL⟩ (by dsimp only;omega) [[0,4],[2],[5]] zb
   rintro bd9 B Z9 jump hS hZ9
   obtain⟨rfl,hS⟩:=hS
   subst hZ9
   exact jrM qm0.a.w.w.a.m (.tuple ⟨[]⟩) [0,4] [] [1] B (cg.trans zb) ⟨[],B,rfl,rfl,.inr hS⟩
  refine zD 3<|ja ((k:Int)+1) (by omega)<|zD 2<|jnD bF (⟨k+1,uy,B⟩) ⟨by dsimp only;omega,by have:=hJ.2;dsimp only;rwa[show 2*(k+1)=2*k+q by omega]⟩ (by dsimp only;omega) [[0],[1]] (Sub.refl _)
 refine zD 2<|jrM qm0.a.w (.tuple ⟨[]⟩) [0] [] [0] B cg ⟨[],B,rfl,rfl,.inl (by have:=hI.2;rwa[show k=rs.length by omega,List.take_of_length_le (by rw[Kx];exact Nat.le_refl _)] at this)⟩
instance:LawfulBEq ByteArray where
 eq_of_beq:=fun h=>by rw[Oz] at h;exact of_decide_eq_true h
 rfl:=fun {a}=>by rw[Oz];exact decide_eq_true rfl
def dd(l:List ByteArray):List ByteArray:=l.foldl (fun a x=>if x∈a then a else a++[x]) []
theorem Fq(l:List ByteArray)(x:ByteArray):dd (l++[x])=if x∈dd l then dd l else dd l++[x]:=by rw[dd,List.foldl_append];rfl
theorem ayK(a:List ByteArray):∀b:List ByteArray,∃r,dd (a++b)=dd a++r:=by
 intro b
 induction b generalizing a with
 |nil=>exact⟨[],by simp⟩
 |cons x b ih=>
  obtain⟨r,hr⟩:=ih (a++[x])
  rw[show a++x::b=(a++[x])++b by simp,hr,Fq]
  split
  ·exact⟨r,rfl⟩
  exact⟨x::r,by simp⟩
abbrev kvS:ByteArray→Value:=fun a=> .string a
def mF(m:List ByteArray):List (ByteArray×Value):=m.map fun x=>(x,.bool true)
theorem Wc(k:ByteArray):∀(m:List ByteArray) (i:Nat),(su k (mF m) i).map (·.2)=if k∈m then some (.bool true) else none
 | [],_=>rfl
 |x::m,i=>by
  simp only[mF,List.map_cons,su]
  by_cases h:k=x
  ·simp[h]
  have:=Wc k m (i+1)
  simp only[mF] at this
  simp[h,this]
theorem aDQ{k:ByteArray}{m:List ByteArray}:Q7 (.bool false) false k (mF m)= .bool (decide (k∈m)):=by
 simp only[Q7,lkM,Wc]
 by_cases h:k∈m<;>simp[h]
theorem atf{k:ByteArray}{m:List ByteArray}(h:decide (k∈m)=false):mi k (.bool true) (mF m)=mF (m++[k]):=by
 have h:=of_decide_eq_false h
 have:=Wc k m 0
 rw[if_neg h] at this
 simp only[mi]
 cases hf:su k (mF m) 0 with
 |none=>simp[mF]
 |some x=>rw[hf] at this;cases this
theorem ajW(hx:l[k]?=some x) (h:decide (x∈dd (l.take k))=true):dd (l.take (k+1))=dd (l.take k):=by
 rw[dZ hx,Fq,if_pos (of_decide_eq_true h)]
theorem Wv(hx:l[k]?=some x) (h:decide (x∈dd (l.take k))=false):dd (l.take (k+1))=dd (l.take k)++[x]:=by
 rw[dZ hx,Fq,if_neg (of_decide_eq_false h)]
theorem ayL(hx:l[k]?=some x) (h:decide (x∈dd (l.take k))=false):∃r,dd l=dd (l.take k)++[x]++r:=by
 obtain⟨r,hr⟩:=ayK (l.take (k+1)) (l.drop (k+1))
 rw[List.take_append_drop,Wv hx h] at hr
 exact⟨r,hr⟩
def D6(rs:List bQ)(to:ByteArray):Nat→ByteArray→List ByteArray→List (List ByteArray)
 |0,w,b=>if cR w to=true then [b++[w]] else []
 |n+1,w,b=>(dd (ng w rs)).flatMap fun s=>D6 rs to n s (b++[w])
theorem Oq{to:ByteArray}:∀ {n:Nat} {w:ByteArray} {b x:List ByteArray},x∈D6 rs to n w b→x.length=b.length+n+1
 |0,w,b,x,h=>by
  simp only[D6] at h
  split at h
  ·rw[List.mem_singleton] at h;subst h;simp
  cases h
 |n+1,w,b,x,h=>by
  simp only[D6,List.mem_flatMap] at h
  obtain⟨s,_,h2⟩:=h
  have:=Oq h2
  simp at this;omega
theorem al6{w:ByteArray}(hR:∀r∈rs,rF r)(hw:xS w)(h:x∈ng w rs):xS x∧x.size≤12:=by
 simp only[ng,jm,oT,List.mem_flatMap,Dz,u2,List.mem_filterMap,List.mem_range] at h
 obtain⟨p,⟨r,hr,hp⟩,i,_,hi⟩:=h
 have ht:xS p.2:=by
  simp only[List.mem_cons,List.not_mem_nil,or_false] at hp
  rcases hp with rfl|rfl
  ·exact(hR r hr).tl
  exact(hR r hr).fl
 simp only[p9] at hi
 split at hi
 ·rename_i hc
  cases hi
  exact⟨J7 hw ht,hc.2.2⟩
 cases hi
abbrev apb(L:List (List ByteArray)):(Nat→Option Obj)→Nat→List Value→Cells→Prop:=fun _ k vs LL=>∃x v,L[k]?=some x∧vs=[v]∧aw v 1 9 pM x LL
structure akQ(ro:Nat→Option Obj)(bl:Nat)(rs:List bQ)(to:ByteArray)(many bm bt bD br bg:Nat)(vl:Value):Prop where
 m:ro bm=some (.cells ⟨[zI (many:Int)]⟩ 3 (0,0))
 t:ro bt=some (.cells ⟨[.string to]⟩ 299 (0,0))
 y:ro bD=some (.cells ⟨[.func (.yield bl) #[] #[]]⟩ 333 (0,0))
 r:ro br=some (.cells ⟨[vl]⟩ 36 (0,0))
 g:ro bg=some (.cells ⟨[.func (.func 246) ⟨[]⟩ ⟨[zP bm,zP bt,zP bD,zP br,zP bg]⟩]⟩ 334 (0,0))
 l:bC ro vl 2 iG rs
theorem akQ.up{aD:Nat→Option Obj}{to:ByteArray}(h:akQ ro bl rs to many bm bt bD br bg vl)(hs:Sub ro aD):akQ aD bl rs to many bm bt bD br bg vl:=
 ⟨hs _ _ h.m,hs _ _ h.t,hs _ _ h.y,hs _ _ h.r,hs _ _ h.g,h.l.up hs⟩
def asD(bl:Nat)(rs:List bQ)(to:ByteArray)(many bm bt bD br bg:Nat)(vl:Value)(L:List (List ByteArray))(Inv:Nat→Cells→Prop)(Stop:Cells→Prop)(n:Nat):Prop:=
 ∀(ro:Nat→Option Obj) (w:ByteArray) (b:List ByteArray) (v:Value) (p:Nat) (B:Cells),akQ ro bl rs to many bm bt bD br bg vl→bC ro v 1 pM b→b.length+n=many→xS w→w.size≤100→Part L p (D6 rs to n w b)→Inv p B→YOK zT bl ro L.length (apb L) Inv Stop→
  dE zT 246 [.string w,v,zP bm,zP bt,zP bD,zP br,zP bg] ro B (fun r Y=>∃c,r= .bool c∧(c=true→Inv (p+(D6 rs to n w b).length) Y)∧(c=false→Stop Y))
theorem auP{w:ByteArray}{b:List ByteArray}{v:Value}{p:Nat}{B:Cells}{to:ByteArray}{L:List (List ByteArray)}{Inv:Nat→Cells→Prop}(ih:∀m,m <n→asD bl rs to many bm bt bD br bg vl L Inv Stop m)(hR:∀r∈rs,rF r)(hq:rs.length≤100)(YZ:many≤100)(R6:akQ ro bl rs to many bm bt bD br bg vl)(hb:bC ro v 1 pM b)(hbn:b.length+n=many)(hw:xS w)(rZ:w.size≤100)(hP:Part L p (D6 rs to n w b))(hB:Inv p B)(hy:YOK zT bl ro L.length (apb L) Inv Stop):dE zT 246 [.string w,v,zP bm,zP bt,zP bD,zP br,zP bg] ro B (fun r Y=>∃c,r= .bool c∧(c=true→Inv (p+(D6 rs to n w b).length) Y)∧(c=false→Stop Y)):=by
 obtain⟨gm,gt,gy,gl,gg,hl⟩:=id R6
 obtain⟨fw,rQ,rP,eL,rfl,tO,lM,mC⟩:=hl
 obtain⟨aCI,aML,aMH,aCH,rfl,aMJ,aMK,aMI⟩:=hb
 refine anO ar [.l B] [] aW<|zD 2<|jn fun b9=>zD 4<|jc (vs:=[.slice aCI b.length aCH]) [] (atF (show bC _ _ _ _ _ from ⟨aCI,aML,aMH,aCH,rfl,aMJ,aMK,aMI⟩) (by first|omega| (simp only[List.length_set,zM];omega))) ?_
 rintro v14 L14 ⟨_,Vw,rfl⟩
 refine zD 1<|jn fun b16=>iE (sz:=1) (ps:=b) (qs:=[w]) (enc:=pM) (w:= .slice (some ⟨b16,0,none⟩) 1 1) [1] [0] [(b16,.cells ⟨([w].map pM).flatten⟩ 9 (0,0))] (Vw) (fun s _ hZ=>bN [w] (hZ _ (.head _)) (by intro p hp;rfl)) (fun p _=>ai rfl) (by simp only[List.length_cons,List.length_nil];omega) (fun v17 L17 Vv=>?_)
 obtain⟨xV,xU,JA⟩:=Vv.form
 subst JA
 refine jn fun sw=>jd 7 [0,0]<|jl (b:=bm) (off:=0) (m:=1) (vs:=[zI (many:Int)]) 0 ⟨_,_,_,.inl gm,rfl⟩<|zD 2<|zJ 21 (((b++[w]).length:Int)>(many:Int)) (fun h1=>?_) fun h1=>?_
 ·
  refine zD 2 ?_
  obtain rfl:n=0:=by simp only[zM] at*;omega
  refine zD 2<|jl (b:=bt) (off:=0) (m:=1) (vs:=[.string to]) 0 ⟨_,_,_,.inl gt,rfl⟩<|zD 2<|js 25 (!(cR w to)) (fun h2=>?_) (fun h2=>?_)
  ·
   have k7:=h2
   try simp only[zB] at k7
   refine jd 7 [3]<|jrM qm0 (.bool true) [] [3] [4] B (Sub.refl _) ⟨_,rfl,(fun _=>by rw[show D6 rs to 0 w b=[] from if_neg (by simp_all)];exact hB),nofun⟩
  have k7:=h2
  try simp only[zB] at k7
  have ah5:D6 rs to 0 w b=[b++[w]]:=if_pos (by simp_all)
  have hel:=Part.get (i:=0) (x:=b++[w]) hP (by rw[ah5];rfl)
  refine jl (b:=bD) (off:=0) (m:=1) (vs:=[(.func (.yield bl) #[] #[])]) 0 ⟨_,_,_,.inl gy,rfl⟩<|jd 1 [0]<|jyc [1,4] (hy p [(.slice xV ((b++[w])).length xU)] L17 B ro hel.1 ⟨_,_,hel.2,rfl,Vv⟩ hB (Sub.refl _)) (Sub.refl _) ?_
  intro v28 Y28 aOV
  obtain⟨c28,rfl,aRA,aRo⟩:=yb aOV
  refine jd 4 [3]<|jrM qm0 (.bool c28) [] [3] [0] Y28 (Sub.refl _) ⟨_,rfl,(fun h=>by rw[ah5];exact aRA h),aRo⟩
 refine zD 3 ?_
 obtain⟨m,rfl⟩:∃m,n=m+1:=⟨n-1,by simp only[zM] at*;omega⟩
 refine zD 1<|jmk kvS fun r30 L30 aFu=>jn fun OC=>jd 5 [0]<|jf [2,0,3] ((sw,.cells ⟨[(.slice xV ((b++[w])).length xU)]⟩ 99 (0,0))::((OC,.cells ⟨[(.map (some r30))]⟩ 336 (0,0))::L17)) (fun ro5 BO hk4=>?_)
 have vw:=Vv.jW hk4.tail.tail
 replace R6:=R6.up BO
 replace hy:=hy.up BO
 refine zD 1<|jl (b:=br) (off:=0) (m:=1) (vs:=[.slice fw rs.length eL]) 0 ⟨_,_,_,.inl (BO _ _ gl),rfl⟩<|jc (vs:=[.string w,.slice fw rs.length eL]) [] (auN ((show bC _ _ _ _ _ from ⟨fw,rQ,rP,eL,rfl,tO,lM,mC⟩).up BO)) ?_
 rintro _ _ ⟨aqX,aqW,rfl,rfl⟩
 refine jg 0 [.b aqX (.cells ⟨[.string w]⟩ 299 (0,0)),.b aqW (.cells ⟨[.slice fw rs.length eL]⟩ 36 (0,0))]<|jf [0,1] ((aqX,.cells ⟨[.string w]⟩ 299 (0,0))::[(aqW,.cells ⟨[.slice fw rs.length eL]⟩ 36 (0,0))]) fun ro8 zb hk7=>zD 2<|jrf [] (am8 (hk7 _ (.tail _ (.head _))) (R6.l.up zb) hR (hk7 _ (.head _)) hw rZ hq) (by rintro _ _ _ _ ⟨_,_,rfl,_⟩;rfl) (fun(zz:Bool×Cells×Cells)=>[.b b9 (.cells ⟨[.bool zz.1]⟩ 4 (0,0)),.l zz.2.1,.l zz.2.2]) (fun kk=>(fun(zz:Bool×Cells×Cells)=>Inv (p+((dd ((ng w rs).take kk)).flatMap fun s=>D6 rs to m s (b++[w])).length) zz.2.2∧jP r30 kvS (mF (dd ((ng w rs).take kk))) zz.2.1)) (fun jump=>(fun(zz:Bool×Cells×Cells)=>jump= .ret∧(zz.1=false∧Stop zz.2.2))) (⟨false,L30,B⟩) ⟨hB,aFu⟩ [2,0,3] ?_ ?_ ?_
 ·
  rintro bl9 bd9 kk9 vs9 LL9 ⟨rv,Lm,B⟩ ro9 hk9 axc hL hs9
  obtain⟨x9,hx9,rfl,rfl⟩:=axc
  have hue:=al6 hR hw (zL hx9)
  refine zD 3<|jbg<|zD 4<|jl (b:=OC) (off:=0) (m:=1) (vs:=[(.map (some r30))]) 0 ⟨_,_,_,.inl (hs9 _ _ (zb _ _ (hk4 _ (.tail _ (.head _))))),rfl⟩<|zD 1<|jlu (kv:=kvS) (F:=(mF (dd ((ng w rs).take kk9)))) (r:=r30) (K:=299) x9 (.bool false) false [2] Lm (Ys (T:=299) (by kernel_rfl)) (fun s _ hZ=>hL.2.has hZ)<|jw 37 (.bool (decide (x9∈(dd ((ng w rs).take kk9))))) aDQ<|zD 1<|js 37 (decide (x9∈(dd ((ng w rs).take kk9)))) (fun EH=>?_) (fun EH=>?_)
  ·
   refine zD 2<|jyn qy0 (Sub.refl _) ⟨rv,Lm,B⟩ ⟨by rw[ajW hx9 (by assumption)];exact hL.1,by rw[ajW hx9 (by assumption)];exact hL.2⟩ (zN 0 4)
  have tb:decide (x9∈dd ((ng w rs).take kk9))=false:=by assumption
  obtain⟨rr,hrr⟩:=ayL hx9 tb
  have aE2:=Part.flat (G:=fun s=>D6 rs to m s (b++[w])) hP hrr
  refine zD 4<|jl (b:=OC) (off:=0) (m:=1) (vs:=[(.map (some r30))]) 0 ⟨_,_,_,.inl (hs9 _ _ (zb _ _ (hk4 _ (.tail _ (.head _))))),rfl⟩<|zD 1<|jmu (kv:=kvS) (F:=(mF (dd ((ng w rs).take kk9)))) (r:=r30) (K:=299) 2 x9 (.bool true) (Ys (T:=299) (by kernel_rfl)) hL.2 fun aIM ahS=>zD 3<|jl (b:=bg) (off:=0) (m:=1) (vs:=[.func (.func 246) ⟨[]⟩ ⟨[zP bm,zP bt,zP bD,zP br,zP bg]⟩]) 0 ⟨_,_,_,.inl (hs9 _ _ (zb _ _ (BO _ _ gg))),rfl⟩<|zD 1<|jl (b:=sw) (off:=0) (m:=1) (vs:=[(.slice xV ((b++[w])).length xU)]) 0 ⟨_,_,_,.inl (hs9 _ _ (zb _ _ (hk4 _ (.head _)))),rfl⟩<|jc (vs:=[.string x9,(.slice xV ((b++[w])).length xU),zP bm,zP bt,zP bD,zP br,zP bg]) [3] (ih m (by omega) _ _ _ _ (p+((dd ((ng w rs).take kk9)).flatMap fun s=>D6 rs to m s (b++[w])).length) _ (R6.up (zb.trans hs9)) (vw.up (zb.trans hs9)) (by simp only[zM];omega) hue.1 (by omega) aE2 hL.1 (hy.up (zb.trans hs9))) ?_
  rintro _ Y43 ⟨c43,rfl,aRx,aRl⟩
  refine zD 2<|js 44 (!c43) (fun zp=>?_) (fun zp=>?_)
  ·
   try simp only[zB] at zp
   refine jd 6 [3]<|jys qy0 (Sub.refl _) .ret ⟨false,aIM,Y43⟩ ⟨rfl,rfl,aRl (by simp_all)⟩ [2,3,1,0]
  try simp only[zB] at zp
  refine zD 2<|jyn qy0 (Sub.refl _) ⟨rv,aIM,Y43⟩ ⟨by rw[Wv hx9 tb,List.flatMap_append,List.length_append,←Nat.add_assoc];have:=aRx (by simp_all);simpa using this,by rw[Wv hx9 tb,←atf tb];exact ahS⟩ [2,3,1,0]
 ·
  rintro bd9 ⟨rv,Lm,B⟩ Z9 hL hZ9
  subst hZ9
  refine jd 5 [2]<|jrM qm0.a.a.m (.bool true) [0] [1] [3] B (BO.trans zb) ⟨_,rfl,(fun _=>by have:=hL.1;rwa[List.take_of_length_le (Nat.le_refl _)] at this),nofun⟩
 rintro bd9 ⟨rv,Lm,B⟩ Z9 jump hS hZ9
 obtain⟨rfl,hS⟩:=hS
 obtain⟨rfl,hS⟩:=hS
 subst hZ9
 exact jrM qm0.a.a.m (.bool false) [0] [1] [3] B (BO.trans zb) ⟨_,rfl,nofun,fun _=>hS⟩
theorem aDF{to:ByteArray}{L:List (List ByteArray)}{Inv:Nat→Cells→Prop}(hR:∀r∈rs,rF r)(hq:rs.length≤100)(YZ:many≤100):∀n,asD bl rs to many bm bt bD br bg vl L Inv Stop n:=by
 intro n
 induction n using Nat.strongRecOn with
 |_ n ih=>exact fun ro w b v p B hc hb hbn hw rZ hP hB hy=>auP ih hR hq YZ hc hb hbn hw rZ hP hB hy
theorem abi{w to:ByteArray}(g1:ro b1=some (.cells ⟨[zI (many:Int)]⟩ 3 (0,0)))(g2:ro b2=some (.cells ⟨[.string to]⟩ 299 (0,0)))(g3:ro b3=some (.cells ⟨[vl]⟩ 36 (0,0)))(g4:ro b4=some (.cells ⟨[.string w]⟩ 299 (0,0)))(hl:bC ro vl 2 iG rs)(hR:∀r∈rs,rF r)(hw:xS w)(rZ:w.size≤100)(hq:rs.length≤100)(YZ:many≤100):ItX zT 245 [] [zP b1,zP b2,zP b3,zP b4] ro [] (D6 rs to many w []).length (apb (D6 rs to many w [])) (fun Z=>Z=[]):=by
 intro bl aG Inv Stop hs hy B hB
 replace g1:=hs _ _ g1
 replace g2:=hs _ _ g2
 replace g3:=hs _ _ g3
 replace g4:=hs _ _ g4
 replace hl:=hl.up hs
 have hlr:=hl
 obtain⟨fw,rQ,rP,eL,rfl,tO,lM,mC⟩:=hl
 refine zC [.l B]<|zD 2<|jn fun b5=>zD 3<|jn fun b6=>jd 8 [0,0]<|jl (b:=b4) (off:=0) (m:=1) (vs:=[.string w]) 0 ⟨_,_,_,.inl g4,rfl⟩<|jf [1,0] ((b5,.cells ⟨[(.func (.yield bl) #[] #[])]⟩ 333 (0,0))::[(b6,.cells ⟨[.func (.func 246) ⟨[]⟩ ⟨[zP b1,zP b2,zP b5,zP b3,zP b6]⟩]⟩ 334 (0,0))]) fun yS cg iK=>jc (vs:=[.string w,zS,zP b1,zP b2,zP b5,zP b3,zP b6]) [0] (aDF hR hq YZ many _ _ _ _ 0 _ ⟨cg _ _ g1,cg _ _ g2,iK _ (.head _),cg _ _ g3,iK _ (.tail _ (.head _)),hlr.up cg⟩ (bC.nil _ _ _ _ _) (by simp) hw rZ ⟨[],[],by simp,rfl⟩ hB (YOK.up hy cg)) ?_
 rintro _ Z3 ⟨c10,rfl,axB,axu⟩
 refine zD 1<|aL q0.a (.tuple ⟨[]⟩) [] [0] Z3 cg ⟨_,_,rfl,rfl,[],Z3,rfl,rfl,by cases c10 with|true=>exact .inl (by simpa using axB rfl)|false=>exact .inr (axu rfl)⟩
theorem afU{w to:ByteArray}{many:Int}(hl:bC ro vl 2 iG rs):dE zT 227 [.string w,vl,.string to,zI many] ro [] (fun r Y=>∃b4 b5 b6 b7,r= .func (.func 245) ⟨[]⟩ ⟨[zP b7,zP b6,zP b5,zP b4]⟩∧Y=[(b4,.cells ⟨[.string w]⟩ 299 (0,0)),(b5,.cells ⟨[vl]⟩ 36 (0,0)),(b6,.cells ⟨[.string to]⟩ 299 (0,0)),(b7,.cells ⟨[zI many]⟩ 3 (0,0))]):=by
 obtain⟨fw,rQ,rP,eL,rfl,tO,lM,mC⟩:=hl
 refine zE<|zD 2<|jn fun b4=>jn fun b5=>jn fun b6=>jn fun b7=>zD 8<|zR (.func (.func 245) ⟨[]⟩ ⟨[zP b7,zP b6,zP b5,zP b4]⟩) [] [3,2,1,0] ((b4,.cells ⟨[.string w]⟩ 299 (0,0))::((b5,.cells ⟨[.slice fw rs.length eL]⟩ 36 (0,0))::((b6,.cells ⟨[.string to]⟩ 299 (0,0))::[(b7,.cells ⟨[zI many]⟩ 3 (0,0))]))) ⟨_,_,_,_,rfl,rfl⟩
theorem auQ{L:List (List ByteArray)}(hit:ItX zT 245 [] [zP b1,zP b2,zP b3,zP b4] ro [] L.length (apb L) (fun Z=>Z=[]))(hL:∀x∈L,x.length≤1000):dE zT 226 [.func (.func 245) ⟨[]⟩ ⟨[zP b1,zP b2,zP b3,zP b4]⟩,.func (.func 228) ⟨[]⟩ ⟨[]⟩] ro [] (fun r Y=>∃v,r= .tuple ⟨[v,.bool (decide (0 <L.length))]⟩∧∃ps,aw v 1 9 pM ps Y∧(0 <L.length→ps∈L)):=by
 refine anO ar [] [] aW<|zD 2<|jn fun b3=>zD 2<|jf [0] [(b3,.cells ⟨[.func (.func 228) ⟨[]⟩ ⟨[]⟩]⟩ 325 (0,0))] fun yS cg iK=>zD 3<|jn fun b6=>zD 3<|jn fun b7=>jd 8 [0]<|n8<|jrf [] (hit.up cg) (by rintro _ _ _ _ ⟨_,_,_,rfl,_⟩;rfl) (fun(zz:Value×(List ByteArray)×Cells×Bool)=>[.b b6 (.cells ⟨[zz.1]⟩ 99 (0,0)),.b b7 (.cells ⟨[.bool zz.2.2.2]⟩ 4 (0,0)),.l zz.2.2.1]) (fun kk=>(fun(zz:Value×(List ByteArray)×Cells×Bool)=>aw zz.1 1 9 pM zz.2.1 zz.2.2.1∧zz.2.2.2=decide (0 <kk)∧(0 <kk→zz.2.1∈L)∧zz.2.1.length≤1000)) (fun jump=>(fun(zz:Value×(List ByteArray)×Cells×Bool)=>False)) (⟨zS,[],[],false⟩) ⟨aw.nil _ _ _,rfl,nofun,by simp⟩ [2,1,0] ?_ ?_ ?_
 ·
  rintro bl4 bd4 kk4 vs4 LL4 ⟨v,ps,Lb,sm⟩ ro4 hk4 axd hI ko
  obtain⟨x4,v4,hx4,rfl,ho4⟩:=axd
  have hxl:=hL _ (zL hx4)
  have Tv:=hI.2.2.2
  refine zD 3<|jbg<|jd 6 [2]<|js 13 (!sm) (fun h5=>?_) (fun h5=>?_)
  ·
   have NZ:=h5
   try simp only[zB] at NZ
   refine zD 10 ?_
   obtain⟨va6,vc6,he6⟩:=ho4.form
   subst he6
   refine jd 3 [1,2]<|jyn qy0 (Sub.refl _) ⟨(.slice va6 (x4).length vc6),x4,LL4,true⟩ ⟨ho4,rfl,fun _=>zL hx4,hxl⟩ [0,1,2,4]
  have NZ:=h5
  try simp only[zB] at NZ
  refine jl (b:=b3) (off:=0) (m:=1) (vs:=[.func (.func 228) ⟨[]⟩ ⟨[]⟩]) 0 ⟨_,_,_,.inl (ko _ _ (iK _ (.head _))),rfl⟩<|jd 2 [1]<|jp (vs:=[v4,v]) [4,3] (LL4++Lb) (fun aG hs hZ=>aMo (ho4.jW hZ.left) (hI.1.jW hZ.right) (by first|omega| (simp only[List.length_set,zM];omega)) (by first|omega| (simp only[List.length_set,zM];omega))) ?_
  refine zD 3<|zJ 19 ((Ok x4 ps) <0) (fun h7=>?_) fun h7=>?_
  ·
   refine zD 3 ?_
   obtain⟨va8,vc8,he8⟩:=ho4.form
   subst he8
   refine jd 3 [1,2]<|jyn qy0 (Sub.refl _) ⟨(.slice va8 (x4).length vc8),x4,LL4,true⟩ ⟨ho4,rfl,fun _=>zL hx4,hxl⟩ [0,1,2,4]
  refine zD 2<|jyn qy0 (Sub.refl _) ⟨v,ps,Lb,sm⟩ ⟨hI.1,by have:=hI.2.1;simp_all,fun _=>hI.2.2.1 (by have:=hI.2.1;simp_all),Tv⟩ (zN 0 4)
 ·
  rintro bd4 ⟨v,ps,Lb,sm⟩ Z4 hI hZ4
  subst hZ4
  refine jd 8 [2,3]<|jrM qm0.a.m (.tuple ⟨[v,.bool sm]⟩) [0] [] [3] Lb cg ⟨v,by rw[←hI.2.1],ps,hI.1,hI.2.2.1⟩
 rintro bd4 ⟨v,ps,Lb,sm⟩ Z4 jump hS hZ4
 exact hS.elim
abbrev eBy(x:Int):List Value:=[.int .u8 x]
theorem aHN:EF zT 294 (Extern.BytealgMakeNoZero.makeNoZero #[3] #[355]):=⟨Tryz.f294,Tryz.func294,by kernel_rfl,by kernel_rfl,by kernel_rfl,by kernel_rfl⟩
def atm:=(ni Tryz.typeInfo355 Tryz.underlying355 rfl rfl rfl rfl rfl rfl:TF zT 355 _ 1 24 _ false)
theorem afk{l:List Value}:aw (.slice (some ⟨b,0,none⟩) 0 l.length) 1 T eBy ([]:List Int) [(b,.cells ⟨l⟩ T (0,0))]:= .inr ⟨b,l,l.length,rfl,rfl,by simp,by simp,by simp,by simp⟩
theorem amR{v:Value}{c:Int}{L:Cells}(h:aw v 1 T eBy [c] L):∃b l cap,cap≠0∧v= .slice (some ⟨b,0,none⟩) 1 cap∧L=[(b,.cells ⟨.int .u8 c::l⟩ T (0,0))]:=by
 rcases h with ⟨_,h,_⟩| ⟨b,l,cap,h1,h2,h3,h4,_,h6⟩
 ·cases h
 simp only[List.length_cons,List.length_nil] at h1 h4 h6
 cases l with
 |nil=>simp at h3;omega
 |cons x l=>
  simp at h6;subst h6
  exact⟨b,l,cap,by omega,h1,h2⟩
def acr(n:Int):ByteArray:=⟨#[n.toNat.toUInt8]⟩
theorem aHO:EF zT 293 Extern.AbiNoEscape.same:=⟨Tryz.f293,Tryz.func293,by kernel_rfl,by kernel_rfl,by kernel_rfl,by kernel_rfl⟩
theorem aId{v:Value}:dE zT 282 [zP b] ro [(b,.cells ⟨[.pointer none,v]⟩ 357 (0,0))] (fun r Y=>Y=[(b,.cells ⟨[zP b,v]⟩ 357 (0,0))]):=by
 refine zC [.b b (.cells ⟨[.pointer none,v]⟩ 357 (0,0))]<|jd 12 [0]<|jmo [0] [0,0] [(b,.cells ⟨[.pointer none,v]⟩ 357 (0,0))] (zP b)<|jg 0 [.b b (.cells ⟨[.pointer none,v]⟩ 357 (0,0))]<|aOs (v:= zP b) aHO<|jmo [0] [0,0] [(b,.cells ⟨[.pointer none,v]⟩ 357 (0,0))] (zP b)<|jg 0 [.b b (.cells ⟨[.pointer none,v]⟩ 357 (0,0))]<|jd 4 [0]<|zR (.tuple ⟨[]⟩) [] [0] [(b,.cells ⟨[zP b,v]⟩ 357 (0,0))] rfl
theorem aIc{v:Value}:dE zT 282 [zP b] ro [(b,.cells ⟨[zP b,v]⟩ 357 (0,0))] (fun r Y=>Y=[(b,.cells ⟨[zP b,v]⟩ 357 (0,0))]):=by
 refine zC [.b b (.cells ⟨[zP b,v]⟩ 357 (0,0))]<|jd 16 [0,0]<|jpn (b:=b)<|jg 0 []<|zD 3<|zR (.tuple ⟨[]⟩) [] [0] [(b,.cells ⟨[zP b,v]⟩ 357 (0,0))] rfl
theorem aH6:dE zT 283 [zP b,zI 1] ro [(b,.cells ⟨[zP b,zS]⟩ 357 (0,0))] (fun r Y=>∃v L,aw v 1 5 eBy ([]:List Int) L∧Y=(b,.cells ⟨[zP b,v]⟩ 357 (0,0))::L):=by
 refine zC [.b b (.cells ⟨[zP b,zS]⟩ 357 (0,0))]<|jd 6 [0]<|jcp (c:=0)<|jd 8 [0]<|aS 8 fun BV B3 An=>jnz (n:=1) aHN rfl atm (by omega) fun bb lz hlz=>jg 0 [.b bb (.cells ⟨lz⟩ 5 (0,0))]<|eo An [1]<|js0 (a:=⟨bb,0,none⟩) (l:=1) (c:=lz.length)<|jd 9 [1]<|jmo [] [] [] (zI 0)<|jg 0 []<|jd 8 [1]<|zR (.tuple ⟨[]⟩) [] [1,0] ((b,.cells ⟨[zP b,(.slice (some ⟨bb,0,none⟩) 0 lz.length)]⟩ 357 (0,0))::[(bb,.cells ⟨lz⟩ 5 (0,0))]) ⟨_,_,afk,rfl⟩
theorem aIb:dE zT 265 [zP b,zI 1] ro [(b,.cells ⟨[.pointer none,zS]⟩ 357 (0,0))] (fun r Y=>∃v L,aw v 1 5 eBy ([]:List Int) L∧Y=(b,.cells ⟨[zP b,v]⟩ 357 (0,0))::L):=by
 refine zC [.b b (.cells ⟨[.pointer none,zS]⟩ 357 (0,0))]<|zD 3<|jc (vs:=[zP b]) [0] (aId (v:= zS)) ?_
 rintro _ _ rfl
 refine jg 0 [.b b (.cells ⟨[zP b,zS]⟩ 357 (0,0))]<|jd 15 [0]<|jcp (c:=0)<|jd 13 [0]<|jc (vs:=[zP b,zI 1]) [0] (aH6) ?_
 rintro _ _ ⟨v,L,hv,rfl⟩
 refine jg 0 [.b b (.cells ⟨[zP b,v]⟩ 357 (0,0)),.l L]<|zD 1<|zR (.tuple ⟨[]⟩) [] [0,1] ((b,.cells ⟨[zP b,v]⟩ 357 (0,0))::L) ⟨v,L,hv,rfl⟩
theorem aIe{v:Value}{L:Cells}{c:Int}(ho:aw v 1 5 eBy ([]:List Int) L):dE zT 267 [zP b,.int .u8 c] ro ((b,.cells ⟨[zP b,v]⟩ 357 (0,0))::L) (fun r Y=>∃v' L',aw v' 1 5 eBy [c] L'∧Y=(b,.cells ⟨[zP b,v']⟩ 357 (0,0))::L'):=by
 refine zC [.b b (.cells ⟨[zP b,v]⟩ 357 (0,0)),.l L]<|zD 7<|jc (vs:=[zP b]) [0] (aIc (v:=v)) ?_
 rintro _ _ rfl
 refine jg 0 [.b b (.cells ⟨[zP b,v]⟩ 357 (0,0))]<|jd 9 [0]<|jn fun vy=>iE (sz:=1) (ps:=[]) (qs:=[c]) (enc:=eBy) (w:= .slice (some ⟨vy,0,none⟩) 1 1) [2] [0] [(vy,.cells ⟨([c].map eBy).flatten⟩ 5 (0,0))] (ho) (fun s _ hZ=>bN [c] (hZ _ (.head _)) (by intro p hp;rfl)) (fun p _=>ai rfl) (by simp) (fun v14 L14 oX=>?_)
 rw[List.nil_append] at oX
 obtain⟨B0,Au,td⟩:=oX.form
 subst td
 refine jd 9 [2]<|zR (.nilIface) [] [2,0] ((b,.cells ⟨[zP b,(.slice B0 ([c]).length Au)]⟩ 357 (0,0))::L14) ⟨_,_,oX,rfl⟩
theorem aTT{bb cap:Nat}{l:List Value}{c:Int}(oI:cap≠0):dE zT 268 [zP b] ro [(b,.cells ⟨[zP b,.slice (some ⟨bb,0,none⟩) 1 cap]⟩ 357 (0,0)),(bb,.cells ⟨.int .u8 c::l⟩ 5 (0,0))] (fun r Y=>r= .string (acr c)):=by
 refine zC [.b b (.cells ⟨[zP b,.slice (some ⟨bb,0,none⟩) 1 cap]⟩ 357 (0,0)),.b bb (.cells ⟨.int .u8 c::l⟩ 5 (0,0))]<|jd 15 [0,0]<|aS 4 fun BV B3 An=>jsd (a:=⟨bb,0,none⟩) (l:=1) oI<|jg 0 []<|eo An [0,1]<|aS 10 fun yD yK ya=>jus (b:=bb) (E:=5) [1] c l fun L9=>gx ya [[1]]<|zD 3<|zX (.string (acr c)) rfl
def tU(u:UInt8):ByteArray:=⟨#[u]⟩
theorem ao9{u:UInt8}(h:u.toNat <128):Value.string (Utf8.encode (u.toNat:Int))= .string (tU u):=by
 have hv:Utf8.valid (u.toNat:Int)=true:=by simp only[Utf8.valid];simp;omega
 simp only[Utf8.encode,hv,if_true,Int.toNat_natCast,if_pos (show u.toNat <0x80 from h),tU]
 simp
theorem aHr{u:UInt8}(hu:(97≤u.toNat∧u.toNat≤122)):dr zT 244 [.string (tU u)] ro (.string (tU u)):=by
 have u7:(tU u).size=1:=rfl
 refine zE<|zD 15<|dB [1,1,0,1,0,0] [] (fun(zz:Nat×Bool)=>[(0,.string (tU u)),(2,.string (bs [])),(3,.bool true),(4,.bool zz.2),(5,zI (zz.1:Int))]) (fun zz=>[]) (fun zz=>(zz.1=0∧zz.2=false)∨(zz.1=1∧zz.2=false)) (fun zz=>1-zz.1) (⟨0,false⟩) (.inl ⟨rfl,rfl⟩) [] ?_
 rintro⟨i,q⟩ hI K1 bF rest
 dsimp only at hI
 refine zD 8<|zJ 14 ((i:Int) <((tU u).size:Int)) (fun h1=>?_) fun h1=>?_
 ·
  refine zD 5 ?_
  obtain⟨hi0,YP⟩:i=0∧q=false:=by rcases hI with h|h;exact h;omega
  refine jw 5 (zI 0) (show Value.int .i64 (i:Int)= zI 0 by rw[hi0];rfl) ?_
  refine jw 4 (.bool false) (show Value.bool q= .bool false by rw[YP])<|zD 12<|zJ 21 ((u.toNat:Int)≥128) (fun h2=>?_) fun h2=>?_
  ·
   exfalso;omega
  refine zD 8<|js 26 (decide (65≤(u.toNat:Int))) (fun h3=>?_) (fun h3=>?_)
  ·
   have wH:=h3
   replace wH:=of_decide_eq_true wH
   refine zD 11<|bE bF (⟨1,decide ((u.toNat:Int)≤90)⟩) (.inr ⟨rfl,decide_eq_false (by omega)⟩) (by dsimp only;omega) [] (Sub.refl _)
  have wH:=h3
  replace wH:=of_decide_eq_false wH
  exfalso;omega
 refine zD 4 ?_
 obtain⟨hi1,hq1⟩:i=1∧q=false:=by rcases hI with h|h;omega;exact h
 refine jw 4 (.bool false) (show Value.bool q= .bool false by rw[hq1])<|zD 17<|zX (.string (tU u)) ⟨rfl,rfl⟩
theorem aHq{u:UInt8}(hu:(65≤u.toNat∧u.toNat≤90)):dr zT 244 [.string (tU u)] ro (.string (acr (IntKind.u8.wrap ((u.toNat:Int)+32)))):=by
 have u7:(tU u).size=1:=rfl
 refine zE<|zD 15<|dB [1,1,0,1,0,0] [] (fun(zz:Nat×Bool)=>[(0,.string (tU u)),(2,.string (bs [])),(3,.bool true),(4,.bool zz.2),(5,zI (zz.1:Int))]) (fun zz=>[]) (fun zz=>(zz.1=0∧zz.2=false)∨(zz.1=1∧zz.2=true)) (fun zz=>1-zz.1) (⟨0,false⟩) (.inl ⟨rfl,rfl⟩) [] ?_
 rintro⟨i,q⟩ hI K1 bF rest
 dsimp only at hI
 refine zD 8<|zJ 14 ((i:Int) <((tU u).size:Int)) (fun h1=>?_) fun h1=>?_
 ·
  refine zD 5 ?_
  obtain⟨hi0,YP⟩:i=0∧q=false:=by rcases hI with h|h;exact h;omega
  refine jw 5 (zI 0) (show Value.int .i64 (i:Int)= zI 0 by rw[hi0];rfl) ?_
  refine jw 4 (.bool false) (show Value.bool q= .bool false by rw[YP])<|zD 12<|zJ 21 ((u.toNat:Int)≥128) (fun h2=>?_) fun h2=>?_
  ·
   exfalso;omega
  refine zD 8<|js 26 (decide (65≤(u.toNat:Int))) (fun h3=>?_) (fun h3=>?_)
  ·
   have wH:=h3
   replace wH:=of_decide_eq_true wH
   refine zD 11<|bE bF (⟨1,decide ((u.toNat:Int)≤90)⟩) (.inr ⟨rfl,decide_eq_true (by omega)⟩) (by dsimp only;omega) [] (Sub.refl _)
  have wH:=h3
  replace wH:=of_decide_eq_false wH
  exfalso;omega
 refine zD 4 ?_
 obtain⟨hi1,hq1⟩:i=1∧q=true:=by rcases hI with h|h;omega;exact h
 refine jw 4 (.bool true) (show Value.bool q= .bool true by rw[hq1])<|zD 14<|jn fun b7=>zD 9<|jc (vs:=[zP b7,zI 1]) [0] (aIb) ?_
 rintro _ _ ⟨v,L,hv,rfl⟩
 refine jg 0 [.b b7 (.cells ⟨[zP b7,v]⟩ 357 (0,0)),.l L]<|zD 7<|dB [1,1,1,0,1,0,1,1,1,1,0,1,0,0] [] (fun(zz:Nat×Int×Value×Cells×(List Int))=>[(0,.string (tU u)),(2,.string (bs [])),(7,zP b7),(8,zI zz.2.1),(9,zI (zz.1:Int))]) (fun zz=>[.b b7 (.cells ⟨[zP b7,zz.2.2.1]⟩ 357 (0,0)),.l zz.2.2.2.1]) (fun zz=>aw zz.2.2.1 1 5 eBy zz.2.2.2.2 zz.2.2.2.1∧((zz.1=0∧zz.2.1=0∧zz.2.2.2.2=[])∨(zz.1=1∧zz.2.1=1∧zz.2.2.2.2=[(IntKind.u8.wrap ((u.toNat:Int)+32))]))) (fun zz=>1-zz.1) (⟨0,0,v,L,[]⟩) ⟨hv,.inl ⟨rfl,rfl,rfl⟩⟩ [0,1] ?_
 rintro⟨j,p,v,L,xs⟩ hJ K2 kL rest
 dsimp only at hJ
 refine zD 8<|zJ 41 ((j:Int) <((tU u).size:Int)) (fun h4=>?_) fun h4=>?_
 ·
  refine zD 5 ?_
  obtain⟨hj0,hp0,Ew⟩:j=0∧p=0∧xs=[]:=by rcases hJ.2 with h|h;exact h;omega
  refine jw 9 (zI 0) (show Value.int .i64 (j:Int)= zI 0 by rw[hj0];rfl) ?_
  refine jw 8 (zI 0) (show Value.int .i64 p= zI 0 by rw[hp0])<|zD 11<|js 49 (decide (65≤(u.toNat:Int))) (fun h5=>?_) (fun h5=>?_)
  ·
   have NZ:=h5
   replace NZ:=of_decide_eq_true NZ
   refine zD 4<|zJ 52 ((u.toNat:Int)≤90) (fun h6=>?_) fun h6=>?_
   ·
    refine zD 19<|jc (vs:=[zP b7,.int .u8 (IntKind.u8.wrap ((u.toNat:Int)+32))]) [0,1] (aIe (by have:=hJ.1;rwa[Ew] at this)) ?_
    rintro _ _ ⟨v2,L2,IW,rfl⟩
    refine jg 0 [.b b7 (.cells ⟨[zP b7,v2]⟩ 357 (0,0)),.l L2]<|zD 11<|bE kL (⟨1,1,v2,L2,[(IntKind.u8.wrap ((u.toNat:Int)+32))]⟩) ⟨IW,.inr ⟨rfl,rfl,rfl⟩⟩ (by dsimp only;omega) [0,1] (Sub.refl _)
   exfalso;omega
  have NZ:=h5
  replace NZ:=of_decide_eq_false NZ
  exfalso;omega
 refine zD 4 ?_
 obtain⟨hj1,hp1,hx1⟩:j=1∧p=1∧xs=[(IntKind.u8.wrap ((u.toNat:Int)+32))]:=by rcases hJ.2 with h|h;omega;exact h
 refine jw 8 (zI 1) (show Value.int .i64 p= zI 1 by rw[hp1])<|zD 9 ?_
 obtain⟨bb,lz,cap,oI,rfl,rfl⟩:=amR (by have:=hJ.1;rwa[hx1] at this)
 refine zD 1<|jc (vs:=[zP b7]) [0,1] (aTT (bb:=bb) (l:=lz) (c:=(IntKind.u8.wrap ((u.toNat:Int)+32))) oI) ?_
 rintro _ Yz rfl
 refine zD 3<|zX (.string (acr (IntKind.u8.wrap ((u.toNat:Int)+32)))) ⟨rfl,rfl⟩
def age(u:UInt8):ByteArray:=if u.toNat <97 then acr (IntKind.u8.wrap ((u.toNat:Int)+32)) else tU u
theorem aTj{u:UInt8}(h:G0 u=true∨GG u=true):dr zT 244 [.string (tU u)] ro (.string (age u)):=by
 unfold age
 rcases h with h|h
 ·simp only[G0,Bool.and_eq_true,Nat.ble_eq] at h
  rw[if_neg (by omega)]
  exact aHr (by omega)
 simp only[GG,Bool.and_eq_true,Nat.ble_eq] at h
 rw[if_pos (by omega)]
 exact aHq (by omega)
def uqN(rs:List bQ)(a to:ByteArray):Nat→Nat→Option Nat
 |0,_=>none
 |f+1,m=>bif decide (0 <(D6 rs to m a []).length) then some m else uqN rs a to f (m+1)
def uq(rs:List bQ)(a to:ByteArray):Option Nat:=uqN rs a to 3 0
def jE(c:UInt8):ByteArray:=if c.toNat=67 then bs [99,104] else if c.toNat=74 then bs [106,117] else if c.toNat=89 then bs [106,97] else if c.toNat=88 then bs [115,104] else if c.toNat <97 then bs [c.toNat+32] else bs [c.toNat]
def Jr:List UInt8→ByteArray→ByteArray
 | [],a=>a
 |c::l,a=>Jr l (a++jE c)
def keyOf(w:ByteArray):ByteArray:=Jr w.data.toList (bs [])
theorem anx{l:List UInt8}{c:UInt8}{a:ByteArray}(h:l[k]?=some c):Jr (l.drop k) a=Jr (l.drop (k+1)) (a++jE c):=by rw[eB h];rfl
theorem ags{l:List UInt8}{a:ByteArray}(h:l[k]?=none):Jr (l.drop k) a=a:=by rw[ep (by rw[List.getElem?_eq_none_iff] at h;omega)];rfl
def vD(rs:List bQ)(a b:ByteArray):Int:=match uq rs (keyOf a) (keyOf b) with
 |none=>2
 |some 0=>1
 |some _=>3
structure rG(w:ByteArray):Prop where
 n:1≤w.size∧w.size≤6
 s:Script w
def U0(c:UInt8):Prop:=G0 c=true∨GG c=true
theorem rG.let{w:ByteArray}(h:rG w):∀c∈w.data.toList,U0 c:=fun c hc=>h.s.elim (fun k=> .inl (k c hc)) fun k=> .inr (k c hc)
theorem aaw:((List.range 256).all fun n=> !(G0 (UInt8.ofNat n)||GG (UInt8.ofNat n))||(ano (jE (UInt8.ofNat n))&&(Nat.ble 1 (jE (UInt8.ofNat n)).size&&Nat.ble (jE (UInt8.ofNat n)).size 2)))=true:=by kernel_rfl
theorem P0{c:UInt8}(h:U0 c):xS (jE c)∧1≤(jE c).size∧(jE c).size≤2:=by
 have h2:=List.all_eq_true.1 aaw c.toNat (List.mem_range.2 c.toNat_lt)
 have hb:UInt8.ofNat c.toNat=c:=by simp
 rw[hb] at h2
 have h3:(G0 c||GG c)=true:=by rcases h with h|h<;>simp[h]
 rw[h3] at h2
 simp only[Bool.not_true,Bool.false_or,Bool.and_eq_true,Nat.ble_eq] at h2
 exact⟨GV h2.1,h2.2⟩
theorem Yt:∀ {l:List UInt8} {a:ByteArray},(∀c∈l,U0 c)→xS a→xS (Jr l a)∧(Jr l a).size≤a.size+2*l.length
 | [],a,_,ha=>⟨ha,by simp[Jr]⟩
 |c::l,a,h,ha=>by
  have h1:=P0 (h c (by simp))
  obtain⟨h2,h3⟩:=Yt (l:=l) (a:=a++jE c) (fun x hx=>h x (by simp[hx])) (ha.app h1.1)
  refine⟨h2,?_⟩
  simp only[Jr,ByteArray.size_append,List.length_cons] at h3 ⊢
  omega
theorem Rc{w:ByteArray}(h:rG w):xS (keyOf w)∧(keyOf w).size≤12:=by
 have h1:=Yt (l:=w.data.toList) (a:=bs []) h.let (fun b hb=>by cases hb)
 have h2:w.data.toList.length=w.size:=Array.length_toList
 have h3:=h.n
 exact⟨h1.1,by have:=h1.2;have e:(bs []).size=0:=rfl;unfold keyOf;omega⟩
theorem ann{c:UInt8}(h:U0 c)(h1:¬(c.toNat:Int)=67)(h2:¬(c.toNat:Int)=74)(h3:¬(c.toNat:Int)=89)(h4:¬(c.toNat:Int)=88):age c=jE c:=by
 simp only[age,jE,if_neg (show ¬c.toNat=67 by omega),if_neg (show ¬c.toNat=74 by omega),if_neg (show ¬c.toNat=89 by omega),if_neg (show ¬c.toNat=88 by omega)]
 split
 ·simp only[acr,bs]
  rw[sB .u8 rfl _ (by omega) (by simp[IntKind.bits];omega),show ((c.toNat:Int)+32).toNat=c.toNat+32 by omega]
  rfl
 simp[tU,bs]
theorem let_128{c:UInt8}(h:U0 c):c.toNat <128:=by
 rcases h with h|h
 ·simp only[G0,Bool.and_eq_true,Nat.ble_eq] at h;omega
 simp only[GG,Bool.and_eq_true,Nat.ble_eq] at h;omega
theorem auO{c:UInt8}(h:U0 c):dr zT 225 [.int .i32 (c.toNat:Int)] ro (.string (jE c)):=by
 refine zE<|zD 29<|zJ 5 ((c.toNat:Int)=67) (fun h1=>?_) fun h1=>?_
 ·
  refine zD 8<|zX (.string (bs [99,104])) ⟨by rw[jE,if_pos (by omega)]<;>rfl,rfl⟩
 refine zD 8<|zJ 7 ((c.toNat:Int)=74) (fun h2=>?_) fun h2=>?_
 ·
  refine zD 17<|jsa (a:=(bs [106])) (b:=(bs [117])) 9 (by decide)<|zD 3<|zX (.string ((bs [106])++(bs [117]))) ⟨by rw[jE,if_neg (by omega),if_pos (by omega)]<;>rfl,rfl⟩
 refine zD 8<|zJ 9 ((c.toNat:Int)=89) (fun h3=>?_) fun h3=>?_
 ·
  refine zD 16<|jsa (a:=(bs [106])) (b:=(bs [97])) 9 (by decide)<|zD 3<|zX (.string ((bs [106])++(bs [97]))) ⟨by rw[jE,if_neg (by omega),if_neg (by omega),if_pos (by omega)]<;>rfl,rfl⟩
 refine zD 7<|zJ 11 ((c.toNat:Int)=88) (fun h4=>?_) fun h4=>?_
 ·
  refine zD 8<|zX (.string (bs [115,104])) ⟨by rw[jE,if_neg (by omega),if_neg (by omega),if_neg (by omega),if_pos (by omega)]<;>rfl,rfl⟩
 refine zD 6<|je (.string (tU c)) (ao9 (let_128 h))<|jp (vs:=[.string (tU c)]) [] [] (fun aG hs hZ=>(aTj h))<|zD 3<|zX (.string (age c)) ⟨by rw[ann h (by omega) (by omega) (by omega) (by omega)],rfl⟩
theorem anc{w to:ByteArray}(hl:bC ro vl 2 iG rs)(hR:∀r∈rs,rF r)(hw:xS w)(rZ:w.size≤100)(hq:rs.length≤100):dE zT 206 [.string w,vl,.string to] ro [] (fun r Y=>(∃n v ps,uq rs w to=some n∧r= .tuple ⟨[v,.bool true]⟩∧aw v 1 9 pM ps Y∧ps.length=n+1)∨(uq rs w to=none∧r= .tuple ⟨[zS,.bool false]⟩∧Y=[])):=by
 obtain⟨fw,rQ,rP,eL,rfl,tO,lM,mC⟩:=hl
 refine zE<|zD 11<|dB [1,0,1,0,0] [] (fun(zz:Nat)=>[(0,.string w),(1,.slice fw rs.length eL),(2,.string to),(11,zI (zz:Int))]) (fun zz=>[]) (fun zz=>zz≤3∧uq rs w to=uqN rs w to (3-zz) zz) (fun zz=>3-zz) 0 ⟨by omega,rfl⟩ [] ?_
 rintro k hI K1 bF rest
 refine zD 5<|zJ 12 ((k:Int) <3) (fun h1=>?_) fun h1=>?_
 ·
  refine zD 15<|jc (vs:=[.string w,.slice fw rs.length eL,.string to,zI (k:Int)]) [] (afU (show bC _ _ _ _ _ from ⟨fw,rQ,rP,eL,rfl,tO,lM,mC⟩)) ?_
  rintro _ _ ⟨agc,agb,aga,af9,rfl,rfl⟩
  refine jg 0 [.b agc (.cells ⟨[.string w]⟩ 299 (0,0)),.b agb (.cells ⟨[.slice fw rs.length eL]⟩ 36 (0,0)),.b aga (.cells ⟨[.string to]⟩ 299 (0,0)),.b af9 (.cells ⟨[zI (k:Int)]⟩ 3 (0,0))]<|jf (zN 0 4) ((agc,.cells ⟨[.string w]⟩ 299 (0,0))::((agb,.cells ⟨[.slice fw rs.length eL]⟩ 36 (0,0))::((aga,.cells ⟨[.string to]⟩ 299 (0,0))::[(af9,.cells ⟨[zI (k:Int)]⟩ 3 (0,0))]))) fun ro4 qj hk3=>jc (vs:=[.func (.func 245) ⟨[]⟩ ⟨[zP af9,zP aga,zP agb,zP agc]⟩,.func (.func 228) ⟨[]⟩ ⟨[]⟩]) [] (auQ (abi (hk3 _ (.tail _ (.tail _ (.tail _ (.head _))))) (hk3 _ (.tail _ (.tail _ (.head _)))) (hk3 _ (.tail _ (.head _))) (hk3 _ (.head _)) ((show bC _ _ _ _ _ from ⟨fw,rQ,rP,eL,rfl,tO,lM,mC⟩).up qj) hR hw rZ hq (by omega)) (fun x hx=>by have:=Oq hx;simp at this;omega)) ?_
  rintro _ L20 ⟨v20,rfl,aNI,aP5,awG⟩
  refine zD 10<|js 23 (decide (0 <(D6 rs to k w []).length)) (fun h5=>?_) (fun h5=>?_)
  ·
   refine zD 8<|aL q0.a (.tuple ⟨[v20,.bool true]⟩) [] [0] L20 qj ⟨_,_,rfl,rfl,.inl ⟨k,v20,aNI,by rw[hI.2,show 3-k=(3-(k+1))+1 by omega,uqN,h5];rfl,rfl,aP5,by have:=Oq (awG (of_decide_eq_true h5));simpa using this⟩⟩
  refine zD 3<|ja ((k:Int)+1) (by omega)<|zD 2<|bE bF (k+1) ⟨by omega,by rw[hI.2,show 3-k=(3-(k+1))+1 by omega,uqN,h5];rfl⟩ (by omega) [] qj
 refine zD 8<|zX (.tuple ⟨[zS,.bool false]⟩) (.inr ⟨by rw[hI.2,show 3-k=0 by omega];rfl,rfl,rfl⟩)
theorem au5{c:UInt8}(h:U0 c):c.toNat <128:=by
 rcases h with h|h
 ·simp only[G0,Bool.and_eq_true,Nat.ble_eq] at h;omega
 simp only[GG,Bool.and_eq_true,Nat.ble_eq] at h;omega
theorem auR{w to:ByteArray}(hl:bC ro vl 2 iG rs)(hR:∀r∈rs,rF r)(hw:xS w)(rZ:w.size≤100)(hq:rs.length≤100):dE zT 206 [.string w,vl,.string to] ro [] (fun r Y=>∃v ps ok,r= .tuple ⟨[v,.bool ok]⟩∧aw v 1 9 pM ps Y∧(ok=true→uq rs w to=some (ps.length-1)∧1≤ps.length)∧(ok=false→uq rs w to=none)):=by
 refine(anc hl hR hw rZ hq).mono fun _ _ h=>?_
 rcases h with ⟨n,v,ps,h1,h2,h3,h4⟩| ⟨h1,h2,h3⟩
 ·exact⟨v,ps,true,h2,h3,fun _=>⟨by rw[h4];exact h1,by omega⟩,nofun⟩
 subst h3;exact⟨_,[],false,h2,aw.nil _ _ _,nofun,fun _=>h1⟩
def uN(rs:List bQ)(a b:ByteArray):Int:=match uq rs a b with
 |some n=>n
 |none=>0
def uE(rs:List bQ)(a b:ByteArray):Int:=match uq rs a b with
 |some _=>0
 |none=>11
theorem ap8{a to:ByteArray}:∀ {f m n:Nat},uqN rs a to f m=some n→n <m+f
 |0,_,_,h=>by cases h
 |f+1,m,n,h=>by
  simp only[uqN] at h
  cases hd:decide (0 <(D6 rs to m a []).length) with
  |true=>rw[hd] at h;simp only[cond_true,Option.some.injEq] at h;omega
  |false=>rw[hd] at h;simp only[cond_false] at h;have:=ap8 h;omega
theorem nOf{w:ByteArray}(hw:rG w):dr zT 205 [.string w] ro (.string (keyOf w)):=by
 refine zE<|zD 12<|jn fun r7=>zD 2<|dB [1,1,0,1,0,0] [] (fun(zz:Nat×ByteArray)=>[(2,.string (bs [])),(3,.string zz.2),(7,zP r7)]) (fun zz=>[.b r7 (.stringIter w zz.1)]) (fun zz=>(zz.1≤w.data.toList.length∧zz.2.size≤2*zz.1)∧keyOf w=Jr (w.data.toList.drop zz.1) zz.2) (fun zz=>w.data.toList.length-zz.1) (⟨0,(bs [])⟩) ⟨⟨by omega,Nat.le_refl _⟩,rfl⟩ [0] ?_
 rintro⟨p,a⟩ hI K1 bF rest
 dsimp only at hI
 refine zD 2 ?_
 cases hn8:w.data.toList[p]? with
 |some x8=>
  refine jnA r7 0 hn8 (au5 (hw.let _ (zL hn8)))<|zD 11 ?_
  have hso:=P0 (hw.let _ (zL hn8))
  have hlen:w.data.toList.length=w.size:=Array.length_toList
  have hwn:=hw.n
  refine zD 3<|jp (vs:=[.int .i32 (x8.toNat:Int)]) [] [] (fun aG hs hZ=>(auO (hw.let _ (zL hn8))))<|jsa (a:=a) (b:=(jE x8)) 9 (by omega)<|zD 2<|bE bF (⟨p+1,(a++jE x8)⟩) ⟨⟨by have:=(List.getElem?_eq_some_iff.1 hn8).1;dsimp only;omega,by dsimp only;rw[ByteArray.size_append];omega⟩,by rw[hI.2,anx hn8]⟩ (by have:=(List.getElem?_eq_some_iff.1 hn8).1;dsimp only;omega) [0] (Sub.refl _)
 |none=>
  refine jnZ r7 0 hn8<|zD 11<|zX (.string a) ⟨by rw[hI.2,ags hn8],rfl⟩
theorem anb(hl:bC ro vl 2 iG rs)(hR:∀r∈rs,rF r)(hq:rs.length≤4)(Fc:rG na)(CQ:rG nb):dE zT 165 [vl,.string na,.string nb] ro [] (fun r Y=>∃v ps e,r= .tuple ⟨[v,zI e]⟩∧aw v 1 9 pM ps Y∧ps.length≤3∧((e=0∧uq rs (keyOf na) (keyOf nb)=some (ps.length-1)∧1≤ps.length)∨(e=11∧uq rs (keyOf na) (keyOf nb)=none))):=by
 obtain⟨fw,rQ,rP,eL,rfl,tO,lM,mC⟩:=hl
 refine zE<|zD 9<|jp (vs:=[.slice fw rs.length eL]) [] [] (fun aG hs hZ=>abg ((show bC _ _ _ _ _ from ⟨fw,rQ,rP,eL,rfl,tO,lM,mC⟩).up hs) (by omega) hR)<|zD 14<|jn fun IA=>jp (vs:=[.slice (some ⟨IA,0,none⟩) 2 2]) [0] [(IA,.cells ⟨([na,nb].map pM).flatten⟩ 9 (0,0))] (fun aG hs hZ=>afT (bU [na,nb] hZ.head (by intro p hp;rfl)) (by first|omega| (simp only[List.length_set,zM];omega)) (by intro x hx;simp only[List.mem_cons,List.not_mem_nil,or_false] at hx;rcases hx with rfl|rfl;exact⟨Fc.n,Fc.s⟩;exact⟨CQ.n,CQ.s⟩)) ?_
 refine zD 12<|jp (vs:=[.string na]) [] [] (fun aG hs hZ=>(nOf Fc))<|zD 2<|jp (vs:=[.string nb]) [] [] (fun aG hs hZ=>(nOf CQ))<|jc (vs:=[.string (keyOf na),.slice fw rs.length eL,.string (keyOf nb)]) [] (auR (show bC _ _ _ _ _ from ⟨fw,rQ,rP,eL,rfl,tO,lM,mC⟩) hR (Rc Fc).1 (by have:=(Rc Fc).2;omega) (by omega)) ?_
 rintro _ L30 ⟨v30,aNH,aNR,rfl,uj,avK,aOL⟩
 refine zD 12<|js 34 (!aNR) (fun h1=>?_) (fun h1=>?_)
 ·
  try simp only[zB] at h1
  refine zD 7<|zX (.tuple ⟨[zS,zI 11]⟩) ⟨_,[],_,rfl,aw.nil _ _ _,by simp,.inr ⟨rfl,aOL (by simp_all)⟩⟩
 try simp only[zB] at h1
 refine zD 9<|zR (.tuple ⟨[v30,zI 0]⟩) [] [0] L30 ⟨_,aNH,_,rfl,uj,by have:=ap8 (avK (by simp_all)).1;have:=(avK (by simp_all)).2;omega,.inl ⟨rfl,avK (by simp_all)⟩⟩
theorem aDD(hl:bC ro vl 2 iG rs)(hR:∀r∈rs,rF r)(hq:rs.length≤4)(Fc:rG na)(CQ:rG nb):dr zT 122 [vl,.string na,.string nb] ro (.tuple ⟨[zI (uN rs (keyOf na) (keyOf nb)),zI (uE rs (keyOf na) (keyOf nb))]⟩):=by
 obtain⟨fw,rQ,rP,eL,rfl,tO,lM,mC⟩:=hl
 refine zE<|zD 10<|jc (vs:=[.slice fw rs.length eL,.string na,.string nb]) [] (anb (show bC _ _ _ _ _ from ⟨fw,rQ,rP,eL,rfl,tO,lM,mC⟩) hR hq Fc CQ) ?_
 rintro _ L14 ⟨v14,aDd,Oe,rfl,Vw,bcv,td⟩
 refine zD 12<|js 18 (!decide (Oe=0)) (fun h1=>?_) (fun h1=>?_)
 ·
  replace h1:=of_decide_eq_false (by simpa using h1)
  refine zD 8<|zX (.tuple ⟨[zI 0,zI Oe]⟩) ⟨by rcases td with ⟨h1,h2,h3⟩| ⟨h1,h2⟩<;>simp only[uN,uE,h2]<;>(subst h1;simp_all<;>omega),rfl⟩
 replace h1:=of_decide_eq_true (by simpa using h1)
 refine zD 5<|CG Vw<|ja ((aDd.length:Int)-1) (by omega)<|zD 4<|zX (.tuple ⟨[zI ((aDd.length:Int)-1),zI 0]⟩) ⟨by rcases td with ⟨h1,h2,h3⟩| ⟨h1,h2⟩<;>simp only[uN,uE,h2]<;>(subst h1;simp_all<;>omega),rfl⟩
theorem QS(hl:bC ro vl 2 iG rs)(hR:∀r∈rs,rF r)(hq:rs.length≤4)(Fc:rG na)(CQ:rG nb):dr zT 97 [vl,.string na,.string nb] ro (.tuple ⟨[zI (vD rs na nb),zI 0]⟩):=by
 obtain⟨fw,rQ,rP,eL,rfl,tO,lM,mC⟩:=hl
 refine zE<|zD 10<|jp (vs:=[.slice fw rs.length eL,.string na,.string nb]) [] [] (fun aG hs hZ=>aDD ((show bC _ _ _ _ _ from ⟨fw,rQ,rP,eL,rfl,tO,lM,mC⟩).up hs) hR hq Fc CQ)<|zD 14<|zJ 17 ((uE rs (keyOf na) (keyOf nb))=11) (fun h1=>?_) fun h1=>?_
 ·
  refine zD 7<|zX (.tuple ⟨[zI 2,zI 0]⟩) ⟨by simp only[uN,uE,vD] at*;rcases huq:uq rs (keyOf na) (keyOf nb) with _|_|n<;>simp_all<;>omega,rfl⟩
 refine zD 7<|js 20 (!decide ((uE rs (keyOf na) (keyOf nb))=0)) (fun h2=>?_) (fun h2=>?_)
 ·
  replace h2:=of_decide_eq_false (by simpa using h2)
  refine zD 8<|zX (.tuple ⟨[zI 0,zI (uE rs (keyOf na) (keyOf nb))]⟩) ⟨by simp only[uN,uE,vD] at*;rcases huq:uq rs (keyOf na) (keyOf nb) with _|_|n<;>simp_all<;>omega,rfl⟩
 replace h2:=of_decide_eq_true (by simpa using h2)
 refine zD 7<|zJ 24 ((uN rs (keyOf na) (keyOf nb))=0) (fun h3=>?_) fun h3=>?_
 ·
  refine zD 7<|zX (.tuple ⟨[zI 1,zI 0]⟩) ⟨by simp only[uN,uE,vD] at*;rcases huq:uq rs (keyOf na) (keyOf nb) with _|_|n<;>simp_all<;>omega,rfl⟩
 refine zD 8<|zX (.tuple ⟨[zI 3,zI 0]⟩) ⟨by simp only[uN,uE,vD] at*;rcases huq:uq rs (keyOf na) (keyOf nb) with _|_|n<;>simp_all<;>omega,rfl⟩
abbrev uV(x:Int):List Value:=[.int .u8 x]
structure bG where
 c:Nat→Nat→Bool
abbrev Bp(x:bG):List Value:=[.bool (x.c 0 0),.bool (x.c 0 1),.bool (x.c 0 2),.bool (x.c 0 3),.bool (x.c 1 0),.bool (x.c 1 1),.bool (x.c 1 2),.bool (x.c 1 3),.bool (x.c 2 0),.bool (x.c 2 1),.bool (x.c 2 2),.bool (x.c 2 3),.bool (x.c 3 0),.bool (x.c 3 1),.bool (x.c 3 2),.bool (x.c 3 3)]
def mQ(cs:List bO):Nat→List Int
 |0=>[]
 |k+1=>mQ cs k++[match cs[k]? with
  |some c=>if 0≤c.under then La .u8 (La .u8 0 (dv .u8 1 k)) ((mQ cs k)[c.under.toNat]?.getD 0) else La .u8 0 (dv .u8 1 k)
  |none=>0]
theorem oN(cs:List bO):∀k,(mQ cs k).length=k
 |0=>rfl
 |k+1=>by simp[mQ,oN cs k]
theorem apm{c:bO}{y:Int}(h:cs[k]?=some c) (hu:0≤c.under) (hy:(mQ cs k)[c.under.toNat]?=some y):mQ cs (k+1)=mQ cs k++[La .u8 (La .u8 0 (dv .u8 1 k)) y]:=by
 simp only[mQ,h,if_pos hu,hy,Option.getD_some]
theorem apn{c:bO}(h:cs[k]?=some c) (hu:¬0≤c.under):mQ cs (k+1)=mQ cs k++[La .u8 0 (dv .u8 1 k)]:=by
 simp only[mQ,h,if_neg hu]
def agd(s:Int):Nat→Int
 |0=> -1
 |k+1=>bif hasB s k then k else agd s k
def GZ(cs:List bO)(a b:Int):Int:=agd (Va .u8 ((mQ cs cs.length)[a.toNat]?.getD 0) ((mQ cs cs.length)[b.toNat]?.getD 0)) cs.length
def ZF(hd:List cy)(h:Int):Int:=match hd[h.toNat]? with
 |some x=>x.cls
 |none=>0
def lf(K:aB)(x y:aA):Bool:=decide (vD K.rules x.name y.name=2)
def nS(K:aB)(x y:aA):Bool:=if (x.head <0∨y.head <0)∨x.head=y.head then false else decide (GZ K.cs (ZF K.hd x.head) (ZF K.hd y.head) <0)
def u1(on:Int)(a b:Int):List bM→Nat→Bool
 | [],_=>false
 |x::l,k=>(((hasB on k&&decide (x.a=a))&&decide (x.b=b))&& !x.same)||u1 on a b l (k+1)
def dc(K:aB)(on:Int)(a b:Nat):Bool:=match K.before[a]?,K.after[b]? with
 |some x,some y=> !lf K x y&&(!nS K x y&& !u1 on a b K.facts 0)
 |_,_=>false
structure eG(K:aB):Prop where
 rules:K.rules.length≤4∧∀r∈K.rules,rF r
 before:K.before.length≤4∧∀p∈K.before,rG p.name∧nX K.hd p.head
 after:K.after.length≤4∧∀p∈K.after,rG p.name∧nX K.hd p.head
 c8:lJ K.cs K.hd
 facts:K.facts.length≤4∧∀x∈K.facts,(0≤x.a∧x.a <K.before.length)∧(0≤x.b∧x.b <K.after.length)
def nY(ro:Nat→Option Obj)(f:Nat)(K:aB)(rows:List bG):Prop:=∃(c0 c1 c2 vc vh vr vb va vf vt:Value) (hv:List bA),
 ro f=some (.cells ⟨[c0,c1,c2,vc,vh,vr,vb,va,zI K.gone,zI K.new,zI K.af,vf,vt]⟩ 150 (0,0))∧jb ro vc vh K.cs hv K.hd∧di dq hv K.hd∧
 bC ro vr 2 iG K.rules∧bC ro vb 5 eA K.before∧bC ro va 5 eA K.after∧bC ro vf 3 m8 K.facts∧bC ro vt 16 Bp rows
theorem nY.up{aD:Nat→Option Obj}{rows:List bG}(h:nY ro f K rows)(hs:Sub ro aD):nY aD f K rows:=by
 obtain⟨c0,c1,c2,vc,vh,vr,vb,va,vf,vt,hv,h1,h2,h3,h4,h5,h6,h7,h8⟩:=h
 exact⟨c0,c1,c2,vc,vh,vr,vb,va,vf,vt,hv,hs _ _ h1,h2.up hs,h3,h4.up hs,h5.up hs,h6.up hs,h7.up hs,h8.up hs⟩
theorem aL7{f i:Int}(hi:0≤i∧i≤8):dr zT 325 [.int .u8 f,zI i] ro (.bool (hasB f i)):=by
 refine zE<|zD 8<|jsr (k:= .u8) (k':= .i64) (a:=f) (b:=i) 414 (by omega)<|zD 5<|zX (.bool (decide ((Va .u8 (aT .u8 f i) 1)=1))) ⟨rfl,rfl⟩
theorem aBE{f i:Int}(hi:0≤i∧i≤8):dr zT 326 [.int .u8 f,zI i] ro (.int .u8 (La .u8 f (dv .u8 1 i))):=by
 refine zE<|zD 8<|jsh (k:= .u8) (k':= .i64) (a:=1) (b:=i) 414 (by omega)<|zD 4<|zX (.int .u8 (La .u8 f (dv .u8 1 i))) ⟨rfl,rfl⟩
theorem atA{hv:List bA}(hR:jb ro vc vh cs hv hd)(nJ:di dq hv hd)(hT:lJ cs hd):dE zT 324 [.agg ⟨[vc,vh]⟩] ro [] (fun r Y=>∃b vS LS vE,r= .tuple ⟨[zP b,zI 0]⟩∧aw vS 1 414 uV (mQ cs cs.length) LS∧Y=(b,.cells ⟨[vc,vh,vS,vE]⟩ 418 (0,0))::LS):=by
 obtain⟨hc,hh,dg⟩:=id hR
 obtain⟨eg,AJ,AI,dV,rfl,DC,yU,yT⟩:=hc
 obtain⟨dI,u4,u3,du,rfl,xw,qR,qQ⟩:=hh
 have DN:=hT.nc
 have hnh:=hT.nh
 have hlen:=nJ.len
 refine zE<|zD 2<|jn fun b1=>jd 7 [0]<|jp (vs:=[.agg ⟨[.slice eg cs.length dV,.slice dI hv.length du]⟩]) [] [] (fun aG hs hZ=>(Xt (hR.up hs) nJ hT))<|jd 13 [0]<|jn fun Ab=>jd 11 [1]<|n8<|dB [1,1,1,0,1,0,0] [] (fun(zz:Nat×Value×Cells)=>[(1,zP b1),(2,.pointer none),(3,zI 0),(5,zP Ab),(20,.slice eg cs.length dV),(21,zI (cs.length:Int)),(22,zI (zz.1:Int))]) (fun zz=>[.l zz.2.2,.b Ab (.cells ⟨[.slice eg cs.length dV,.slice dI hv.length du,zz.2.1,zS]⟩ 418 (0,0)),.b b1 (.cells ⟨[.slice eg cs.length dV,.slice dI hv.length du]⟩ 35 (0,0))]) (fun zz=>zz.1≤cs.length∧aw zz.2.1 1 414 uV (mQ cs zz.1) zz.2.2) (fun zz=>cs.length-zz.1) (⟨0,zS,[]⟩) ⟨by dsimp only;omega,aw.nil _ _ _⟩ [0,1,2] ?_
 rintro⟨k,vS,LS⟩ hI K1 bF rest
 dsimp only at hI
 refine zD 5<|zJ 23 ((k:Int) <(cs.length:Int)) (fun h1=>?_) fun h1=>?_
 ·
  refine zD 7 ?_
  obtain⟨xk,ju⟩:=zG cs k
  refine gY dV 2 yU ju<|jl 0 (yT _ _ ju)<|jn fun b7=>jd 4 [0] ?_
  have iL:=hT.cls _ _ ju
  have He:=oN cs k
  refine zD 2<|jp (vs:=[.int .u8 0,zI (k:Int)]) [] [] (fun aG hs hZ=>(aBE (by omega)))<|jd 9 [0]<|zJ 31 (xk.under≥0) (fun h2=>?_) fun h2=>?_
  ·
   refine jd 9 [2,0] ?_
   obtain⟨BK,oF⟩:=zG ((mQ cs k)) (xk.under.toNat) (by first|omega| (simp only[List.length_set,zM];omega))
   refine mW xk.under 1 hI.2 oF (Int.toNat_of_nonneg (show 0≤xk.under∧xk.under <(((mQ cs k)).length:Int) from (by have:=iL.2;simp only[oN];omega)).1).symm (fun b39 axK=>?_)
   refine kJ 0 [1] LS (fun s _ hZ=>bn hI.2 axK hZ oF)<|jd 10 [2]<|jn fun b48=>iE (sz:=1) (ps:=(mQ cs k)) (qs:=[(La .u8 (La .u8 0 (dv .u8 1 (k:Int))) BK)]) (enc:=uV) (w:= .slice (some ⟨b48,0,none⟩) 1 1) [2] [0] [(b48,.cells ⟨([(La .u8 (La .u8 0 (dv .u8 1 (k:Int))) BK)].map uV).flatten⟩ 414 (0,0))] (hI.2) (fun s _ hZ=>bN [(La .u8 (La .u8 0 (dv .u8 1 (k:Int))) BK)] (hZ _ (.head _)) (by intro p hp;rfl)) (fun p _=>ai rfl) (by simp only[oN,List.length_cons,List.length_nil];omega) (fun v49 L49 Hk=>?_)
   obtain⟨adS,adK,VD⟩:=Hk.form
   subst VD
   refine jd 5 [3]<|ja ((k:Int)+1) (by omega)<|zD 2<|bE bF (⟨k+1,(.slice adS (((mQ cs k)++[(La .u8 (La .u8 0 (dv .u8 1 (k:Int))) BK)])).length adK),L49⟩) ⟨by dsimp only;omega,by rw[apm ju (by omega) oF];exact Hk⟩ (by dsimp only;omega) [0,3,4] (Sub.refl _)
  refine jd 9 [2]<|jn fun b48=>iE (sz:=1) (ps:=(mQ cs k)) (qs:=[(La .u8 0 (dv .u8 1 (k:Int)))]) (enc:=uV) (w:= .slice (some ⟨b48,0,none⟩) 1 1) [2] [0] [(b48,.cells ⟨([(La .u8 0 (dv .u8 1 (k:Int)))].map uV).flatten⟩ 414 (0,0))] (hI.2) (fun s _ hZ=>bN [(La .u8 0 (dv .u8 1 (k:Int)))] (hZ _ (.head _)) (by intro p hp;rfl)) (fun p _=>ai rfl) (by simp only[oN,List.length_cons,List.length_nil];omega) (fun v49 L49 Hk=>?_)
  obtain⟨adS,adK,VD⟩:=Hk.form
  subst VD
  refine jd 5 [3]<|ja ((k:Int)+1) (by omega)<|zD 2<|bE bF (⟨k+1,(.slice adS (((mQ cs k)++[(La .u8 0 (dv .u8 1 (k:Int)))])).length adK),L49⟩) ⟨by dsimp only;omega,by rw[apn ju (by omega)];exact Hk⟩ (by dsimp only;omega) [0,3,4] (Sub.refl _)
 refine jd 11 [2]<|n8<|dB [1,1,1,1,0,1,0,0] [] (fun(zz:Nat×Value×Cells×(List Value))=>[(2,.pointer none),(3,zI 0),(5,zP Ab),(54,.slice dI hv.length du),(55,zI (hv.length:Int)),(56,zI (zz.1:Int))]) (fun zz=>[.l zz.2.2.1,.b Ab (.cells ⟨[.slice eg cs.length dV,.slice dI hv.length du,vS,zz.2.1]⟩ 418 (0,0)),.l LS,.b b1 (.cells ⟨[.slice eg cs.length dV,.slice dI hv.length du]⟩ 35 (0,0))]) (fun zz=>(zz.1≤hv.length∧zz.2.2.2.length≤zz.1)∧aw zz.2.1 1 428 fK zz.2.2.2 zz.2.2.1) (fun zz=>hv.length-zz.1) (⟨0,zS,[],[]⟩) ⟨⟨by omega,Nat.le_refl _⟩,aw.nil _ _ _⟩ [0,2,1,3] ?_
 rintro⟨j,vE,LE,es⟩ hJ K2 kL rest
 dsimp only at hJ
 refine zD 5<|zJ 57 ((j:Int) <(hv.length:Int)) (fun h3=>?_) fun h3=>?_
 ·
  refine zD 6 ?_
  obtain⟨FB,an2⟩:=zG hv j
  refine gY du 4 qR an2<|jl 0 (qQ _ _ an2)<|jn fun sw=>jsx 0 sw 0 [.string ByteArray.empty,zI 0,zI 0,zS] [.string FB.word,zI FB.cls,zI FB.oy,FB.dR] 145 (mJ dg _ (zL an2)) rfl<|zD 3 ?_
  obtain⟨y58,bbu,aPD⟩:=dg.get an2
  obtain⟨fw,rQ,rP,eL,hqe,tO,lM,mC⟩:=aPD.2.2.2
  refine jmw 0 [.b sw (.cells ⟨[.string FB.word,zI FB.cls,zI FB.oy,.slice fw y58.dR.length eL]⟩ 145 (0,0))] (L:=[(sw,.cells ⟨[.string FB.word,zI FB.cls,zI FB.oy,FB.dR]⟩ 145 (0,0))]) (by rw[hqe];rfl) ?_
  refine jd 6 [0]<|js 73 (!decide (FB.oy=(-1))) (fun h4=>?_) (fun h4=>?_)
  ·
   replace h4:=of_decide_eq_false (by simpa using h4)
   refine jd 11 [2,0]<|aS 9 fun oh ov mZ=>jn fun b86=>eo mZ (zN 1 5)<|aS 10 fun pX p6 oZ=>iE (sz:=1) (ps:=es) (qs:=[(.iface 421 (.agg ⟨[zI FB.oy]⟩):Value)]) (enc:=fK) (w:= .slice (some ⟨b86,0,none⟩) 1 1) [2] [0] [(b86,.cells ⟨([(.iface 421 (.agg ⟨[zI FB.oy]⟩):Value)].map fK).flatten⟩ 428 (0,0))] (hJ.2) (fun s _ hZ=>bN [(.iface 421 (.agg ⟨[zI FB.oy]⟩):Value)] (hZ _ (.head _)) (by intro p hp;rfl)) (by intro p hp;rw[List.mem_singleton] at hp;subst hp;exact ai rfl) (by simp only[List.length_cons,List.length_nil];omega) (fun v87 L87 ahr=>?_)
   obtain⟨aLB,aLh,aQ2⟩:=ahr.form
   subst aQ2
   refine gx oZ [[2]]<|zD 2<|aS 13 fun yC yJ zm=>jd 1 [3]<|gx zm []<|zD 2<|ja ((j:Int)+1) (by omega)<|zD 2<|bE kL (⟨j+1,(.slice aLB ((es++[(.iface 421 (.agg ⟨[zI FB.oy]⟩):Value)])).length aLh),L87,(es++[(.iface 421 (.agg ⟨[zI FB.oy]⟩):Value)])⟩) ⟨⟨by dsimp only;omega,by simp only[zM];omega⟩,ahr⟩ (by dsimp only;omega) [0,3,4,5] (Sub.refl _)
  replace h4:=of_decide_eq_true (by simpa using h4)
  refine jd 8 [0]<|js 90 (!decide (FB.cls=(-1))) (fun h8=>?_) (fun h8=>?_)
  ·
   replace h8:=of_decide_eq_false (by simpa using h8)
   refine jd 13 [2,0,0]<|aS 11 fun adj ad5 hL6=>jn fun aIq=>eo hL6 (zN 1 5)<|aS 12 fun alO amc Sb=>iE (sz:=1) (ps:=es) (qs:=[(.iface 423 (.agg ⟨[zI FB.cls,.slice fw y58.dR.length eL]⟩):Value)]) (enc:=fK) (w:= .slice (some ⟨aIq,0,none⟩) 1 1) [2] [0] [(aIq,.cells ⟨([(.iface 423 (.agg ⟨[zI FB.cls,.slice fw y58.dR.length eL]⟩):Value)].map fK).flatten⟩ 428 (0,0))] (hJ.2) (fun s _ hZ=>bN [(.iface 423 (.agg ⟨[zI FB.cls,.slice fw y58.dR.length eL]⟩):Value)] (hZ _ (.head _)) (by intro p hp;rfl)) (by intro p hp;rw[List.mem_singleton] at hp;subst hp;exact ai rfl) (by simp only[List.length_cons,List.length_nil];omega) (fun aZl aUW YV=>?_)
   obtain⟨aBa,aA3,aF6⟩:=YV.form
   subst aF6
   refine gx Sb [[2],[2]]<|zD 2<|aS 15 fun aae aat hL8=>jd 1 [3]<|gx hL8 []<|zD 2<|ja ((j:Int)+1) (by omega)<|zD 2<|bE kL (⟨j+1,(.slice aBa ((es++[(.iface 423 (.agg ⟨[zI FB.cls,.slice fw y58.dR.length eL]⟩):Value)])).length aA3),aUW,(es++[(.iface 423 (.agg ⟨[zI FB.cls,.slice fw y58.dR.length eL]⟩):Value)])⟩) ⟨⟨by dsimp only;omega,by simp only[zM];omega⟩,YV⟩ (by dsimp only;omega) [0,3,4,5] (Sub.refl _)
  replace h8:=of_decide_eq_true (by simpa using h8)
  refine jd 11 [2,0]<|aS 9 fun TO T5 Sa=>jn fun b69=>eo Sa (zN 1 5)<|aS 10 fun Fx FY wG=>iE (sz:=1) (ps:=es) (qs:=[(.iface 425 (.agg ⟨[.slice fw y58.dR.length eL]⟩):Value)]) (enc:=fK) (w:= .slice (some ⟨b69,0,none⟩) 1 1) [2] [0] [(b69,.cells ⟨([(.iface 425 (.agg ⟨[.slice fw y58.dR.length eL]⟩):Value)].map fK).flatten⟩ 428 (0,0))] (hJ.2) (fun s _ hZ=>bN [(.iface 425 (.agg ⟨[.slice fw y58.dR.length eL]⟩):Value)] (hZ _ (.head _)) (by intro p hp;rfl)) (by intro p hp;rw[List.mem_singleton] at hp;subst hp;exact ai rfl) (by simp only[List.length_cons,List.length_nil];omega) (fun v70 L70 aht=>?_)
  obtain⟨aLE,aLk,aQ5⟩:=aht.form
  subst aQ5
  refine gx wG [[2]]<|zD 2<|aS 13 fun Fw FX zn=>jd 1 [3]<|gx zn []<|zD 2<|ja ((j:Int)+1) (by omega)<|zD 2<|bE kL (⟨j+1,(.slice aLE ((es++[(.iface 425 (.agg ⟨[.slice fw y58.dR.length eL]⟩):Value)])).length aLk),L70,(es++[(.iface 425 (.agg ⟨[.slice fw y58.dR.length eL]⟩):Value)])⟩) ⟨⟨by dsimp only;omega,by simp only[zM];omega⟩,aht⟩ (by dsimp only;omega) [0,3,4,5] (Sub.refl _)
 refine zD 9<|zR (.tuple ⟨[zP Ab,zI 0]⟩) [] [1,2] ((Ab,.cells ⟨[.slice eg cs.length dV,.slice dI hv.length du,vS,vE]⟩ 418 (0,0))::LS) ⟨_,_,LS,_,rfl,by have:=hI.2;rwa[show k=cs.length by omega] at this,rfl⟩
theorem Yk{s:Int}{j:Int}(h:0≤j):agd s (j+1).toNat=bif hasB s j then j else agd s j.toNat:=by
 obtain⟨m,rfl⟩:=Int.eq_ofNat_of_zero_le h
 rfl
theorem XB{on a b:Int}{l:List bM}{x:bM}(h:l[k]?=some x):u1 on a b (l.drop k) k=((((hasB on k&&decide (x.a=a))&&decide (x.b=b))&& !x.same)||u1 on a b (l.drop (k+1)) (k+1)):=by rw[eB h];rfl
theorem aey{on a b:Int}{l:List bM}(h:¬k <l.length):u1 on a b (l.drop k) k=false:=by rw[ep h];rfl
theorem Zd{hv:List bA}{h:Int}{x:bA}(hS:di dq hv hd)(hT:lJ cs hd)(hk:nX hd h)(h0:0≤h)(hx:hv[h.toNat]?=some x):ZF hd h=x.cls∧0≤x.cls∧x.cls <cs.length:=by
 obtain⟨y,hy,hs⟩:=hS.get hx
 rcases hk with rfl| ⟨_,z,hz,hc⟩
 ·omega
 rw[hy] at hz;cases hz
 have:=(hT.A8 _ _ hy).2.1
 exact⟨by simp[ZF,hy,hs.2.1],hs.2.1▸hc,by rw[hs.2.1];exact this.2⟩
theorem Zc{hv:List bA}{h:Int}(hS:di dq hv hd)(hk:nX hd h)(h0:0≤h):h <hv.length:=by
 rcases hk with rfl| ⟨_,z,hz,_⟩
 ·omega
 have:=(List.getElem?_eq_some_iff.1 hz).1
 rw[hS.len];omega
theorem atq{hv:List bA}{a b:Int}(hR:jb ro vc vh cs hv hd)(nJ:di dq hv hd)(hT:lJ cs hd)(ha:0≤a∧a <cs.length)(hb:0≤b∧b <cs.length):dr zT 323 [.agg ⟨[vc,vh]⟩,zI a,zI b] ro (.tuple ⟨[zI (GZ cs a b),zI 0]⟩):=by
 obtain⟨hc,hh,dg⟩:=id hR
 obtain⟨eg,AJ,AI,dV,rfl,DC,yU,yT⟩:=hc
 obtain⟨dI,u4,u3,du,rfl,xw,qR,qQ⟩:=hh
 have DN:=hT.nc
 have hnh:=hT.nh
 have hlen:=nJ.len
 have He:=oN cs cs.length
 refine zE<|zD 2<|jn fun b3=>jd 6 [0]<|jc (vs:=[.agg ⟨[.slice eg cs.length dV,.slice dI hv.length du]⟩]) [] (atA hR nJ hT) ?_
 rintro _ _ ⟨bT,vS,LS,vE,rfl,hS,rfl⟩
 refine jg 0 [.b bT (.cells ⟨[.slice eg cs.length dV,.slice dI hv.length du,vS,vE]⟩ 418 (0,0)),.l LS]<|zD 5<|jf [0,1] ((bT,.cells ⟨[.slice eg cs.length dV,.slice dI hv.length du,vS,vE]⟩ 418 (0,0))::LS) (fun yS cg iK=>?_)
 have hSS:=hS.jW iK.tail
 obtain⟨aCL,bac,baa,amG,rfl,bab,aCK,aCJ⟩:=hSS
 refine jd 17 [0]<|ja ((cs.length:Int)-1) (by omega)<|jp (vs:=[zI a,zI 0,zI ((cs.length:Int)-1)]) [] [] (fun aG hs hZ=>iZ)<|zD 3<|js 20 (!(iI a 0 ((cs.length:Int)-1))) (fun h4=>?_) (fun h4=>?_)
 ·
  try simp only[zB] at h4
  exfalso;simp only[iI,Bool.not_eq_true',Bool.and_eq_false_iff,decide_eq_false_iff_not] at h4;omega
 try simp only[zB] at h4
 refine jd 6 [0]<|ja ((cs.length:Int)-1) (by omega)<|jp (vs:=[zI b,zI 0,zI ((cs.length:Int)-1)]) [] [] (fun aG hs hZ=>iZ)<|zD 3<|js 20 (!(iI b 0 ((cs.length:Int)-1))) (fun h5=>?_) (fun h5=>?_)
 ·
  try simp only[zB] at h5
  exfalso;simp only[iI,Bool.not_eq_true',Bool.and_eq_false_iff,decide_eq_false_iff_not] at h5;omega
 try simp only[zB] at h5
 refine jd 8 [0]<|ja ((cs.length:Int)-1) (by omega)<|zD 3<|dB [1,1,1,0,1,0,0] [] (fun(zz:Int)=>[(1,zI a),(2,zI b),(8,zP bT),(10,zI zz)]) (fun zz=>[.b b3 (.cells ⟨[.slice eg cs.length dV,.slice dI hv.length du]⟩ 35 (0,0))]) (fun zz=>(-1≤zz∧zz <cs.length)∧GZ cs a b=agd (Va .u8 ((mQ cs cs.length)[a.toNat]?.getD 0) ((mQ cs cs.length)[b.toNat]?.getD 0)) (zz+1).toNat) (fun zz=>(zz+1).toNat) ((cs.length:Int)-1) ⟨by omega,by rw[GZ,show ((cs.length:Int)-1+1).toNat=cs.length by omega]⟩ [0] ?_
 rintro j hI K1 bF rest
 refine zD 6<|zJ 40 (j≥0) (fun h6=>?_) fun h6=>?_
 ·
  refine zD 9<|jl (b:=bT) (off:=0) (m:=4) (vs:=[.slice eg cs.length dV,.slice dI hv.length du,.slice aCL ((mQ cs cs.length).length) amG,vE]) 2 ⟨_,_,_,.inl (iK _ (.head _)),rfl⟩<|zD 1 ?_
  obtain⟨x48,G8⟩:=zG ((mQ cs cs.length)) (a.toNat) (by simp only[oN];omega)
  refine IU a amG 1 aCK G8 (Int.toNat_of_nonneg (show 0≤a∧a <(((mQ cs cs.length)).length:Int) from (by simp only[oN];omega)).1).symm ?_
  refine jl 0 (aCJ _ _ G8)<|zD 3<|jl (b:=bT) (off:=0) (m:=4) (vs:=[.slice eg cs.length dV,.slice dI hv.length du,.slice aCL ((mQ cs cs.length).length) amG,vE]) 2 ⟨_,_,_,.inl (iK _ (.head _)),rfl⟩<|zD 1 ?_
  obtain⟨x55,an3⟩:=zG ((mQ cs cs.length)) (b.toNat)
  refine IU b amG 1 aCK an3 (by omega)<|jl 0 (aCJ _ _ an3)<|zD 2<|jp (vs:=[.int .u8 (Va .u8 x48 x55),zI j]) [] [] (fun aG hs hZ=>(aL7 (by omega)))<|zD 1<|js 59 (hasB (Va .u8 x48 x55) j) (fun h7=>?_) (fun h7=>?_)
  ·
   refine zD 8<|aL q0.a (.tuple ⟨[zI j,zI 0]⟩) [] [] [] cg ⟨_,_,rfl,rfl,by rw[hI.2,Yk (by omega),G8,an3,Option.getD_some,Option.getD_some,show hasB _ _=true from (by assumption)];rfl,rfl⟩
  refine zD 4<|ja (j-1) (by omega)<|zD 2<|bE bF (j-1) ⟨by omega,by rw[hI.2,Yk (by omega),G8,an3,Option.getD_some,Option.getD_some,show hasB _ _=false from (by assumption),show j-1+1=j by omega];rfl⟩ (by omega) [0] (Sub.refl _)
 refine zD 8<|aL q0.a (.tuple ⟨[zI (-1),zI 0]⟩) [] [] [] cg ⟨_,_,rfl,rfl,by rw[hI.2,show j= -1 by omega];rfl,rfl⟩
theorem aq7:dr zT 44 [] ro (.agg ⟨[.iface 166 (.agg ⟨[]⟩),.iface 167 (.agg ⟨[]⟩),.iface 168 (.agg ⟨[]⟩)]⟩):=by
 refine zE<|zD 2<|jn fun b0=>jd 13 [0]<|zR (.agg ⟨[.iface 166 (.agg ⟨[]⟩),.iface 167 (.agg ⟨[]⟩),.iface 168 (.agg ⟨[]⟩)]⟩) [0] [] [] ⟨rfl,rfl⟩
theorem agy{rows:List bG}{a:Nat}{x:aA}{on:Int}(hF:nY ro f K rows)(hV:eG K)(ha:K.before[a]?=some x) (hb:K.after[b]?=some y):dr zT 319 [.agg ⟨[]⟩,zP f,zI (a:Int),zI (b:Int),.int .u8 on] ro (.bool (lf K x y)):=by
 obtain⟨c0,c1,c2,vc,vh,vr,vb,va,vf,vt,hv,hf,qo,nJ,hr,ED,JC,Le,bW⟩:=id hF
 obtain⟨hc,hh,dg⟩:=id qo
 obtain⟨eg,AJ,AI,dV,rfl,DC,yU,yT⟩:=hc
 obtain⟨dI,u4,u3,du,rfl,xw,qR,qQ⟩:=hh
 obtain⟨kU,IP,IN,kT,rfl,OX,Gq,Gp⟩:=hr
 obtain⟨lN,MW,MT,kX,rfl,MU,Gs,Gr⟩:=ED
 obtain⟨lO,MZ,MX,kY,rfl,MY,Gu,Gt⟩:=JC
 obtain⟨mj,UF,UD,lv,rfl,UE,MP,MO⟩:=Le
 obtain⟨nE,Em,Ek,mV,rfl,Qf,MN,MM⟩:=bW
 have Ty:=hV.rules.1
 have CQ:=hV.before.1
 have Fc:=hV.after.1
 have hnf:=hV.facts.1
 have Ll:=(List.getElem?_eq_some_iff.1 ha).1
 have HB:=(List.getElem?_eq_some_iff.1 hb).1
 refine zE<|zD 2<|jn fun b5=>zD 8<|jl (b:=f) (off:=0) (m:=13) (vs:=[c0,c1,c2,.slice eg K.cs.length dV,.slice dI hv.length du,.slice kU K.rules.length kT,.slice lN K.before.length kX,.slice lO K.after.length kY,zI K.gone,zI K.new,zI K.af,.slice mj K.facts.length lv,.slice nE rows.length mV]) 5 ⟨_,_,_,.inl hf,rfl⟩<|zD 4<|jl (b:=f) (off:=0) (m:=13) (vs:=[c0,c1,c2,.slice eg K.cs.length dV,.slice dI hv.length du,.slice kU K.rules.length kT,.slice lN K.before.length kX,.slice lO K.after.length kY,zI K.gone,zI K.new,zI K.af,.slice mj K.facts.length lv,.slice nE rows.length mV]) 6 ⟨_,_,_,.inl hf,rfl⟩<|zD 1 ?_
 obtain⟨xk,ju⟩:=zG K.before a
 refine gY kX 5 Gs ju<|zD 1<|jl 0 (Gr _ _ ju)<|zD 4<|jl (b:=f) (off:=0) (m:=13) (vs:=[c0,c1,c2,.slice eg K.cs.length dV,.slice dI hv.length du,.slice kU K.rules.length kT,.slice lN K.before.length kX,.slice lO K.after.length kY,zI K.gone,zI K.new,zI K.af,.slice mj K.facts.length lv,.slice nE rows.length mV]) 7 ⟨_,_,_,.inl hf,rfl⟩<|zD 1 ?_
 obtain⟨x34,NB⟩:=zG K.after b
 refine gY kY 5 Gu NB<|zD 1<|jl 0 (Gt _ _ NB)<|jp (vs:=[.slice kU K.rules.length kT,.string xk.name,.string x34.name]) [] [] (fun aG hs hZ=>QS ((show bC _ _ _ _ _ from ⟨kU,IP,IN,kT,rfl,OX,Gq,Gp⟩).up hs) hV.rules.2 Ty (hV.before.2 _ (zL ju)).1 (hV.after.2 _ (zL NB)).1)<|zD 9<|jp (vs:=[zI 0]) [] [] (fun aG hs hZ=>AZ)<|zD 8<|zX (.bool (decide ((vD K.rules xk.name x34.name)=2))) ⟨by rw[ha] at ju;cases ju;rw[hb] at NB;cases NB;rfl,rfl⟩
theorem Rg{rows:List bG}{a:Nat}{x:aA}{on:Int}(hF:nY ro f K rows)(hV:eG K)(ha:K.before[a]?=some x) (hb:K.after[b]?=some y):dr zT 321 [.agg ⟨[]⟩,zP f,zI (a:Int),zI (b:Int),.int .u8 on] ro (.bool (nS K x y)):=by
 obtain⟨c0,c1,c2,vc,vh,vr,vb,va,vf,vt,hv,hf,qo,nJ,hr,ED,JC,Le,bW⟩:=id hF
 obtain⟨hc,hh,dg⟩:=id qo
 obtain⟨eg,AJ,AI,dV,rfl,DC,yU,yT⟩:=hc
 obtain⟨dI,u4,u3,du,rfl,xw,qR,qQ⟩:=hh
 obtain⟨kU,IP,IN,kT,rfl,OX,Gq,Gp⟩:=hr
 obtain⟨lN,MW,MT,kX,rfl,MU,Gs,Gr⟩:=ED
 obtain⟨lO,MZ,MX,kY,rfl,MY,Gu,Gt⟩:=JC
 obtain⟨mj,UF,UD,lv,rfl,UE,MP,MO⟩:=Le
 obtain⟨nE,Em,Ek,mV,rfl,Qf,MN,MM⟩:=bW
 have Ty:=hV.rules.1
 have CQ:=hV.before.1
 have Fc:=hV.after.1
 have hnf:=hV.facts.1
 have Ll:=(List.getElem?_eq_some_iff.1 ha).1
 have HB:=(List.getElem?_eq_some_iff.1 hb).1
 refine zE<|zD 2<|jn fun b5=>zD 8<|jl (b:=f) (off:=0) (m:=13) (vs:=[c0,c1,c2,.slice eg K.cs.length dV,.slice dI hv.length du,.slice kU K.rules.length kT,.slice lN K.before.length kX,.slice lO K.after.length kY,zI K.gone,zI K.new,zI K.af,.slice mj K.facts.length lv,.slice nE rows.length mV]) 6 ⟨_,_,_,.inl hf,rfl⟩<|zD 1 ?_
 obtain⟨vo,mG⟩:=zG K.before a
 refine gY kX 5 Gs mG<|zD 1<|jl 3 (Gr _ _ mG)<|zD 4<|jl (b:=f) (off:=0) (m:=13) (vs:=[c0,c1,c2,.slice eg K.cs.length dV,.slice dI hv.length du,.slice kU K.rules.length kT,.slice lN K.before.length kX,.slice lO K.after.length kY,zI K.gone,zI K.new,zI K.af,.slice mj K.facts.length lv,.slice nE rows.length mV]) 7 ⟨_,_,_,.inl hf,rfl⟩<|zD 1 ?_
 obtain⟨ku,fO⟩:=zG K.after b
 refine gY kY 5 Gu fO<|zD 1<|jl 3 (Gt _ _ fO)<|zD 9<|jj 3 [(1,zP f),(10,.bool false),(11,zI vo.head),(12,zI ku.head),(38,.bool ((decide (vo.head <0))||(decide (ku.head <0))))] (fun gH=>?_) (fun hj=>?_)
 rotate_left
 refine js 35 (decide (vo.head <0)) (fun h1=>?_) (fun h1=>?_)
 ·
  have fp:=h1
  replace fp:=of_decide_eq_true fp
  refine zD 3<|jw 38 (.bool ((decide (vo.head <0))||(decide (ku.head <0)))) (w:= .bool true) (by rw[h1]<;>rfl) ?_
  exact zK hj
 ·
  have fp:=h1
  replace fp:=of_decide_eq_false fp
  refine zD 3<|jw 38 (.bool ((decide (vo.head <0))||(decide (ku.head <0)))) (w:= .bool (decide (ku.head <0))) (by rw[h1]<;>rfl) ?_
  exact zK hj
 refine zD 1<|jj 4 [(1,zP f),(10,.bool false),(11,zI vo.head),(12,zI ku.head),(43,.bool (((decide (vo.head <0))||(decide (ku.head <0)))||(decide (vo.head=ku.head))))] (fun gH=>?_) (fun hj=>?_)
 rotate_left
 refine js 39 ((decide (vo.head <0))||(decide (ku.head <0))) (fun h2=>?_) (fun h2=>?_)
 ·
  have k7:=h2
  try simp only[zB] at k7
  refine zD 4<|jw 43 (.bool (((decide (vo.head <0))||(decide (ku.head <0)))||(decide (vo.head=ku.head)))) (w:= .bool true) (by rw[h2]<;>rfl) ?_
  exact zK hj
 ·
  have k7:=h2
  try simp only[zB] at k7
  refine zD 4<|jw 43 (.bool (((decide (vo.head <0))||(decide (ku.head <0)))||(decide (vo.head=ku.head)))) (w:= .bool (decide (vo.head=ku.head))) (by rw[h2]<;>rfl) ?_
  exact zK hj
 refine zD 1<|js 43 (((decide (vo.head <0))||(decide (ku.head <0)))||(decide (vo.head=ku.head))) (fun h3=>?_) (fun h3=>?_)
 ·
  try simp only[zB] at h3
  refine zD 6<|zX (.bool false) ⟨by rw[ha] at mG;cases mG;rw[hb] at fO;cases fO;rw[nS,if_pos (by omega)],rfl⟩
 try simp only[zB] at h3
 refine zD 8<|jl (b:=f) (off:=0) (m:=13) (vs:=[c0,c1,c2,.slice eg K.cs.length dV,.slice dI hv.length du,.slice kU K.rules.length kT,.slice lN K.before.length kX,.slice lO K.after.length kY,zI K.gone,zI K.new,zI K.af,.slice mj K.facts.length lv,.slice nE rows.length mV]) 3 ⟨_,_,_,.inl hf,rfl⟩<|zD 5<|jl (b:=f) (off:=0) (m:=13) (vs:=[c0,c1,c2,.slice eg K.cs.length dV,.slice dI hv.length du,.slice kU K.rules.length kT,.slice lN K.before.length kX,.slice lO K.after.length kY,zI K.gone,zI K.new,zI K.af,.slice mj K.facts.length lv,.slice nE rows.length mV]) 4 ⟨_,_,_,.inl hf,rfl⟩<|zD 1 ?_
 obtain⟨x57,qS⟩:=zG hv (vo.head.toNat) (by have:=Zc nJ (hV.before.2 _ (zL mG)).2 (by omega);omega)
 refine IU vo.head du 4 qR qS (Int.toNat_of_nonneg (show 0≤vo.head∧vo.head <((hv).length:Int) from (by have:=Zc nJ (hV.before.2 _ (zL mG)).2 (by omega);omega)).1).symm ?_
 refine zD 1<|jl 1 (qQ _ _ qS)<|zD 5<|jl (b:=f) (off:=0) (m:=13) (vs:=[c0,c1,c2,.slice eg K.cs.length dV,.slice dI hv.length du,.slice kU K.rules.length kT,.slice lN K.before.length kX,.slice lO K.after.length kY,zI K.gone,zI K.new,zI K.af,.slice mj K.facts.length lv,.slice nE rows.length mV]) 4 ⟨_,_,_,.inl hf,rfl⟩<|zD 1 ?_
 obtain⟨x67,an1⟩:=zG hv (ku.head.toNat) (by have:=Zc nJ (hV.after.2 _ (zL fO)).2 (by omega);omega)
 refine IU ku.head du 4 qR an1 (Int.toNat_of_nonneg (show 0≤ku.head∧ku.head <((hv).length:Int) from (by have:=Zc nJ (hV.after.2 _ (zL fO)).2 (by omega);omega)).1).symm ?_
 refine zD 1<|jl 1 (qQ _ _ an1)<|jp (vs:=[.agg ⟨[.slice eg K.cs.length dV,.slice dI hv.length du]⟩,zI x57.cls,zI x67.cls]) [] [] (fun aG hs hZ=>atq (qo.up hs) nJ hV.c8 (Zd nJ hV.c8 (hV.before.2 _ (zL mG)).2 (by omega) qS).2 (Zd nJ hV.c8 (hV.after.2 _ (zL fO)).2 (by omega) an1).2)<|zD 9<|jp (vs:=[zI 0]) [] [] (fun aG hs hZ=>AZ)<|zD 8<|zX (.bool (decide ((GZ K.cs x57.cls x67.cls) <0))) ⟨by rw[ha] at mG;cases mG;rw[hb] at fO;cases fO;rw[nS,if_neg (by omega),(Zd nJ hV.c8 (hV.before.2 _ (zL ha)).2 (by omega) qS).1,(Zd nJ hV.c8 (hV.after.2 _ (zL hb)).2 (by omega) an1).1],rfl⟩
theorem Yy{rows:List bG}{a:Nat}{on:Int}(hF:nY ro f K rows)(hV:eG K):dr zT 327 [.agg ⟨[]⟩,zP f,zI (a:Int),zI (b:Int),.int .u8 on] ro (.bool (u1 on a b K.facts 0)):=by
 obtain⟨c0,c1,c2,vc,vh,vr,vb,va,vf,vt,hv,hf,qo,nJ,hr,ED,JC,Le,bW⟩:=id hF
 obtain⟨hc,hh,dg⟩:=id qo
 obtain⟨eg,AJ,AI,dV,rfl,DC,yU,yT⟩:=hc
 obtain⟨dI,u4,u3,du,rfl,xw,qR,qQ⟩:=hh
 obtain⟨kU,IP,IN,kT,rfl,OX,Gq,Gp⟩:=hr
 obtain⟨lN,MW,MT,kX,rfl,MU,Gs,Gr⟩:=ED
 obtain⟨lO,MZ,MX,kY,rfl,MY,Gu,Gt⟩:=JC
 obtain⟨mj,UF,UD,lv,rfl,UE,MP,MO⟩:=Le
 obtain⟨nE,Em,Ek,mV,rfl,Qf,MN,MM⟩:=bW
 have Ty:=hV.rules.1
 have CQ:=hV.before.1
 have Fc:=hV.after.1
 have hnf:=hV.facts.1
 refine zE<|zD 2<|jn fun b5=>zD 9<|jl (b:=f) (off:=0) (m:=13) (vs:=[c0,c1,c2,.slice eg K.cs.length dV,.slice dI hv.length du,.slice kU K.rules.length kT,.slice lN K.before.length kX,.slice lO K.after.length kY,zI K.gone,zI K.new,zI K.af,.slice mj K.facts.length lv,.slice nE rows.length mV]) 11 ⟨_,_,_,.inl hf,rfl⟩<|zD 4<|dB [1,0,1,0,0] [] (fun(zz:Nat)=>[(2,zI (a:Int)),(3,zI (b:Int)),(4,.int .u8 on),(17,.slice mj K.facts.length lv),(18,zI (K.facts.length:Int)),(19,zI (zz:Int))]) (fun zz=>[]) (fun zz=>zz≤K.facts.length∧u1 on a b K.facts 0=u1 on a b (K.facts.drop zz) zz) (fun zz=>K.facts.length-zz) 0 ⟨by omega,rfl⟩ [] ?_
 rintro k hI K1 bF rest
 refine zD 5<|zJ 20 ((k:Int) <(K.facts.length:Int)) (fun h1=>?_) fun h1=>?_
 ·
  refine zD 7 ?_
  obtain⟨sj,uf⟩:=zG K.facts k
  refine gY lv 3 MP uf<|jl 0 (MO _ _ uf)<|jn fun wZ=>jd 7 [0]<|jp (vs:=[.int .u8 on,zI (k:Int)]) [] [] (fun aG hs hZ=>(avu (by omega)))<|zD 1<|jj 5 [(2,zI (a:Int)),(3,zI (b:Int)),(4,.int .u8 on),(12,zP wZ),(17,.slice mj K.facts.length lv),(18,zI (K.facts.length:Int)),(19,zI (k:Int)),(32,.bool ((hasB on (k:Int))&&(decide (sj.a=(a:Int)))))] (fun gH=>?_) (fun hj=>?_)
  rotate_left
  refine js 27 (hasB on (k:Int)) (fun h2=>?_) (fun h2=>?_)
  ·
   refine jd 5 [0]<|jw 32 (.bool ((hasB on (k:Int))&&(decide (sj.a=(a:Int))))) (w:= .bool (decide (sj.a=(a:Int)))) (by rw[h2]<;>rfl) ?_
   exact zK hj
  ·
   refine zD 5<|jw 32 (.bool ((hasB on (k:Int))&&(decide (sj.a=(a:Int))))) (w:= .bool false) (by rw[h2]<;>rfl) ?_
   exact zK hj
  refine zD 1<|jj 5 [(2,zI (a:Int)),(3,zI (b:Int)),(4,.int .u8 on),(12,zP wZ),(17,.slice mj K.facts.length lv),(18,zI (K.facts.length:Int)),(19,zI (k:Int)),(38,.bool (((hasB on (k:Int))&&(decide (sj.a=(a:Int))))&&(decide (sj.b=(b:Int)))))] (fun gH=>?_) (fun hj=>?_)
  rotate_left
  refine js 33 ((hasB on (k:Int))&&(decide (sj.a=(a:Int)))) (fun h3=>?_) (fun h3=>?_)
  ·
   have wH:=h3
   try simp only[zB] at wH
   refine jd 5 [0]<|jw 38 (.bool (((hasB on (k:Int))&&(decide (sj.a=(a:Int))))&&(decide (sj.b=(b:Int))))) (w:= .bool (decide (sj.b=(b:Int)))) (by rw[h3]<;>rfl) ?_
   exact zK hj
  ·
   have wH:=h3
   try simp only[zB] at wH
   refine zD 5<|jw 38 (.bool (((hasB on (k:Int))&&(decide (sj.a=(a:Int))))&&(decide (sj.b=(b:Int))))) (w:= .bool false) (by rw[h3]<;>rfl) ?_
   exact zK hj
  refine zD 1<|jj 4 [(2,zI (a:Int)),(3,zI (b:Int)),(4,.int .u8 on),(17,.slice mj K.facts.length lv),(18,zI (K.facts.length:Int)),(19,zI (k:Int)),(43,.bool ((((hasB on (k:Int))&&(decide (sj.a=(a:Int))))&&(decide (sj.b=(b:Int))))&&(!sj.same)))] (fun gH=>?_) (fun hj=>?_)
  rotate_left
  refine js 39 (((hasB on (k:Int))&&(decide (sj.a=(a:Int))))&&(decide (sj.b=(b:Int)))) (fun h4=>?_) (fun h4=>?_)
  ·
   have uR:=h4
   try simp only[zB] at uR
   refine jd 4 [0]<|jw 43 (.bool ((((hasB on (k:Int))&&(decide (sj.a=(a:Int))))&&(decide (sj.b=(b:Int))))&&(!sj.same))) (w:= .bool (!sj.same)) (by rw[h4]<;>rfl) ?_
   exact zK hj
  ·
   have uR:=h4
   try simp only[zB] at uR
   refine zD 4<|jw 43 (.bool ((((hasB on (k:Int))&&(decide (sj.a=(a:Int))))&&(decide (sj.b=(b:Int))))&&(!sj.same))) (w:= .bool false) (by rw[h4]<;>rfl) ?_
   exact zK hj
  refine zD 1<|js 43 ((((hasB on (k:Int))&&(decide (sj.a=(a:Int))))&&(decide (sj.b=(b:Int))))&&(!sj.same)) (fun h5=>?_) (fun h5=>?_)
  ·
   refine zD 6<|zX (.bool true) ⟨by rw[hI.2,XB uf,show (((hasB on k&&decide (sj.a=a))&&decide (sj.b=b))&& !sj.same)=true from (by assumption)];rfl,rfl⟩
  refine zD 3<|ja ((k:Int)+1) (by omega)<|zD 2<|bE bF (k+1) ⟨by omega,by rw[hI.2,XB uf,show (((hasB on k&&decide (sj.a=a))&&decide (sj.b=b))&& !sj.same)=false from (by assumption)];rfl⟩ (by omega) [] (Sub.refl _)
 refine zD 7<|zX (.bool false) ⟨by rw[hI.2,aey (by omega)],rfl⟩
theorem aD5{rows:List bG}{a:Nat}{x:aA}{on:Int}(hF:nY ro f K rows)(hV:eG K)(ha:K.before[a]?=some x) (hb:K.after[b]?=some y):dr zT 115 [zP f,zI (a:Int),zI (b:Int),.int .u8 on] ro (.bool (dc K on a b)):=by
 refine zE<|zD 7<|jp [] [] (fun aG hs hZ=>aq7)<|zD 3<|dB [1,0,1,0,0] [] (fun(zz:Nat)=>[(0,zP f),(1,zI (a:Int)),(2,zI (b:Int)),(3,.int .u8 on),(11,.agg ⟨[.iface 166 (.agg ⟨[]⟩),.iface 167 (.agg ⟨[]⟩),.iface 168 (.agg ⟨[]⟩)]⟩),(12,zI (zz:Int))]) (fun zz=>[]) (fun zz=>zz≤3∧(1≤zz→lf K x y=false)∧(2≤zz→nS K x y=false)∧(3≤zz→u1 on a b K.facts 0=false)) (fun zz=>3-zz) 0 ⟨by omega,nofun,nofun,nofun⟩ [] ?_
 rintro k hI K1 bF rest
 refine zD 5<|zJ 13 ((k:Int) <3) (fun h1=>?_) fun h1=>?_
 ·
  refine zD 6 ?_
  obtain rfl|rfl|rfl:k=0∨k=1∨k=2:=by omega
  ·
   refine zD 10<|jpI (vs:=[.agg ⟨[]⟩,zP f,zI (a:Int),zI (b:Int),.int .u8 on]) (fun aG hs=>agy (hF.up hs) hV ha hb)<|zD 1<|js 20 (lf K x y) (fun h2=>?_) (fun h2=>?_)
   ·
    refine zD 6<|zX (.bool false) ⟨by simp only[dc,ha,hb];simp[*],rfl⟩
   refine zD 6<|bE bF 1 ⟨by omega,(fun _=>by assumption),nofun,nofun⟩ (by omega) [] (Sub.refl _)
  ·
   refine zD 10<|jpI (vs:=[.agg ⟨[]⟩,zP f,zI (a:Int),zI (b:Int),.int .u8 on]) (fun aG hs=>Rg (hF.up hs) hV ha hb)<|zD 1<|js 20 (nS K x y) (fun h3=>?_) (fun h3=>?_)
   ·
    refine zD 6<|zX (.bool false) ⟨by simp only[dc,ha,hb];simp[*],rfl⟩
   refine zD 6<|bE bF 2 ⟨by omega,(fun _=>hI.2.1 (by omega)),(fun _=>by assumption),nofun⟩ (by omega) [] (Sub.refl _)
  refine zD 10<|jpI (vs:=[.agg ⟨[]⟩,zP f,zI (a:Int),zI (b:Int),.int .u8 on]) (fun aG hs=>Yy (hF.up hs) hV)<|zD 1<|js 20 (u1 on a b K.facts 0) (fun h4=>?_) (fun h4=>?_)
  ·
   refine zD 6<|zX (.bool false) ⟨by simp only[dc,ha,hb];simp[*],rfl⟩
  refine zD 6<|bE bF 3 ⟨by omega,(fun _=>hI.2.1 (by omega)),(fun _=>hI.2.2.1 (by omega)),(fun _=>by assumption)⟩ (by omega) [] (Sub.refl _)
 refine zD 7<|zX (.bool true) ⟨by simp only[dc,ha,hb,hI.2.1 (by omega),hI.2.2.1 (by omega),hI.2.2.2 (by omega)];rfl,rfl⟩
abbrev eP4(p:Nat→Int):List Value:=[zI (p 0),zI (p 1),zI (p 2),zI (p 3)]
abbrev pL(p:Nat→Int):List Int:=[p 0,p 1,p 2,p 3]
def ig(p:Nat→Int)(a:Nat)(v:Int):Nat→Int:=fun i=>if i=a then v else p i
theorem AV{a:Nat}(h:a <4):a=0∨a=1∨a=2∨a=3:=by omega
theorem auz{a:Nat}(h:a <4):nth (eP4 p) (0+(a:Int).toNat*1)=some (zI (p a)):=by
 rcases AV h with rfl|rfl|rfl|rfl<;>rfl
theorem auy{a:Nat}{v:Int}(h:a <4):dA (eP4 p) (0+(a:Int).toNat*1) [zI v]=eP4 (ig p a v):=by
 rcases AV h with rfl|rfl|rfl|rfl<;>rfl
theorem auA{a:Nat}{v:Value}(h:a <4):Nat.ble ((0+(a:Int).toNat*1)+[v].length) (eP4 p).length=true:=by
 rcases AV h with rfl|rfl|rfl|rfl<;>rfl
theorem XG{r:bG}{a:Nat}(h:a <4)(k:b <4):nth (Bp r) (0+(a:Int).toNat*4+(b:Int).toNat*1)=some (.bool (r.c a b)):=by
 rcases AV h with rfl|rfl|rfl|rfl<;>rcases AV k with rfl|rfl|rfl|rfl<;>rfl
def iT(r:bG)(a b:Nat)(v:Bool):bG:=⟨fun i j=>if i=a∧j=b then v else r.c i j⟩
theorem XF{r:bG}{a:Nat}{v:Bool}(h:a <4)(k:b <4):dA (Bp r) (0+(a:Int).toNat*4+(b:Int).toNat*1) [.bool v]=Bp (iT r a b v):=by
 rcases AV h with rfl|rfl|rfl|rfl<;>rcases AV k with rfl|rfl|rfl|rfl<;>rfl
theorem XH{r:bG}{a:Nat}{v:Value}(h:a <4)(k:b <4):Nat.ble ((0+(a:Int).toNat*4+(b:Int).toNat*1)+[v].length) (Bp r).length=true:=by
 rcases AV h with rfl|rfl|rfl|rfl<;>rcases AV k with rfl|rfl|rfl|rfl<;>rfl
def jY(on:Int)(p:Nat→Int):List bM→Nat→Bool
 | [],_=>true
 |x::l,k=>bif (hasB on k&&x.same)&& !decide (p x.a.toNat=x.b+1) then false else jY on p l (k+1)
theorem xq{on:Int}{l:List bM}{x:bM}(h:l[k]?=some x):jY on p (l.drop k) k=bif (hasB on k&&x.same)&& !decide (p x.a.toNat=x.b+1) then false else jY on p (l.drop (k+1)) (k+1):=by rw[eB h];rfl
theorem Us{on:Int}{l:List bM}(h:¬k <l.length):jY on p (l.drop k) k=true:=by rw[ep h];rfl
def qn(p:Nat→Int)(a:Nat)(v:Int):Bool:=decide (bR (fun y=>decide (v=y)) ((pL p).take a) 0≥0)
theorem amj(h:ro b=some (.cells ⟨eP4 p⟩ T (0,0)))(hn:n≤4):bC ro (.slice (some ⟨b,0,none⟩) n 4) 1 cm ((pL p).take n):=by
 have:=bC.part (bU (enc:=cm) (T:=T) (pL p) h (fun _ _=>rfl)) (l:=0) (h:=n) (by omega) (by simpa using hn)
 simpa [dJ] using this
theorem avH{v:Value}{n:Int}(hl:bC ro v 1 cm xs)(hn:xs.length≤1000000):dr zT 162 [v,zI n] ro (zI (bR (fun y=>decide (n=y)) xs 0)):=by
 obtain⟨fw,rQ,rP,eL,rfl,tO,lM,mC⟩:=hl
 refine zE<|zD 12<|dB [1,0,1,0,0] [] (fun(zz:Nat)=>[(0,.slice fw xs.length eL),(1,zI n),(7,zI (xs.length:Int)),(8,zI (zz:Int))]) (fun zz=>[]) (fun zz=>zz≤xs.length∧bR (fun y=>decide (n=y)) xs 0=bR (fun y=>decide (n=y)) (xs.drop zz) zz) (fun zz=>xs.length-zz) 0 ⟨by omega,rfl⟩ [] ?_
 rintro k hI K1 bF rest
 refine zD 5<|zJ 9 ((k:Int) <(xs.length:Int)) (fun h1=>?_) fun h1=>?_
 ·
  refine zD 14 ?_
  obtain⟨fG,eE⟩:=zG xs k
  refine gY eL 1 lM eE<|jl 0 (mC _ _ eE)<|zD 2<|zJ 16 (n=fG) (fun h2=>?_) fun h2=>?_
  ·
   refine zD 7<|zX (zI (k:Int)) ⟨by rw[hI.2,jJ eE];simp[*],rfl⟩
  refine zD 3<|ja ((k:Int)+1) (by omega)<|zD 2<|bE bF (k+1) ⟨by omega,by rw[hI.2,jJ eE];simp[*]⟩ (by omega) [] (Sub.refl _)
 refine zD 7<|zX (zI (-1)) ⟨by rw[hI.2,qy (by omega)],rfl⟩
theorem aOJ{v:Value}{n:Int}(hl:bC ro v 1 cm xs)(hn:xs.length≤1000000):dr zT 119 [v,zI n] ro (.bool (decide (bR (fun y=>decide (n=y)) xs 0≥0))):=by
 obtain⟨fw,rQ,rP,eL,rfl,tO,lM,mC⟩:=hl
 refine zE<|zD 8<|jp (vs:=[.slice fw xs.length eL,zI n]) [] [] (fun aG hs hZ=>avH ((show bC _ _ _ _ _ from ⟨fw,rQ,rP,eL,rfl,tO,lM,mC⟩).up hs) (by first|omega| (simp only[List.length_set,zM];omega))) ?_
 refine zD 4<|zX (.bool (decide ((bR (fun y=>decide (n=y)) xs 0)≥0))) ⟨rfl,rfl⟩
theorem avd{rows:List bG}{on:Int}(hF:nY ro f K rows)(hV:eG K)(g1:ro b1=some (.cells ⟨[zP f]⟩ 100 (0,0)))(g2:ro b2=some (.cells ⟨[.int .u8 on]⟩ 105 (0,0))):dr zT 116 [.agg ⟨[zI (p 0),zI (p 1),zI (p 2),zI (p 3)]⟩,zP b1,zP b2] ro (.bool (jY on p K.facts 0)):=by
 obtain⟨c0,c1,c2,vc,vh,vr,vb,va,vf,vt,hv,hf,qo,nJ,hr,ED,JC,Le,bW⟩:=id hF
 obtain⟨hc,hh,dg⟩:=id qo
 obtain⟨eg,AJ,AI,dV,rfl,DC,yU,yT⟩:=hc
 obtain⟨dI,u4,u3,du,rfl,xw,qR,qQ⟩:=hh
 obtain⟨kU,IP,IN,kT,rfl,OX,Gq,Gp⟩:=hr
 obtain⟨lN,MW,MT,kX,rfl,MU,Gs,Gr⟩:=ED
 obtain⟨lO,MZ,MX,kY,rfl,MY,Gu,Gt⟩:=JC
 obtain⟨mj,UF,UD,lv,rfl,UE,MP,MO⟩:=Le
 obtain⟨nE,Em,Ek,mV,rfl,Qf,MN,MM⟩:=bW
 have Ty:=hV.rules.1
 have CQ:=hV.before.1
 have Fc:=hV.after.1
 have hnf:=hV.facts.1
 refine zE<|zD 2<|jn fun b3=>zD 5<|jl (b:=b1) (off:=0) (m:=1) (vs:=[zP f]) 0 ⟨_,_,_,.inl g1,rfl⟩<|zD 3<|jl (b:=f) (off:=0) (m:=13) (vs:=[c0,c1,c2,.slice eg K.cs.length dV,.slice dI hv.length du,.slice kU K.rules.length kT,.slice lN K.before.length kX,.slice lO K.after.length kY,zI K.gone,zI K.new,zI K.af,.slice mj K.facts.length lv,.slice nE rows.length mV]) 11 ⟨_,_,_,.inl hf,rfl⟩<|zD 4<|dB [1,0,1,0,0] [] (fun(zz:Nat)=>[(2,zP b2),(3,zP b3),(11,.slice mj K.facts.length lv),(12,zI (K.facts.length:Int)),(13,zI (zz:Int))]) (fun zz=>[.b b3 (.cells ⟨[zI (p 0),zI (p 1),zI (p 2),zI (p 3)]⟩ 126 (0,0))]) (fun zz=>zz≤K.facts.length∧jY on p K.facts 0=jY on p (K.facts.drop zz) zz) (fun zz=>K.facts.length-zz) 0 ⟨by omega,rfl⟩ [0] ?_
 rintro k hI K1 bF rest
 refine zD 5<|zJ 14 ((k:Int) <(K.facts.length:Int)) (fun h1=>?_) fun h1=>?_
 ·
  refine zD 7 ?_
  obtain⟨BL,mH⟩:=zG K.facts k
  refine gY lv 3 MP mH<|jl 0 (MO _ _ mH)<|jn fun b6=>jd 4 [0] ?_
  have hf4:=(hV.facts.2 _ (zL mH)).1
  have hf5:=(hV.facts.2 _ (zL mH)).2
  have hae:BL.a=(BL.a.toNat:Int):=by omega
  refine zD 1<|jl (b:=b2) (off:=0) (m:=1) (vs:=[.int .u8 on]) 0 ⟨_,_,_,.inl g2,rfl⟩<|zD 1<|jp (vs:=[.int .u8 on,zI (k:Int)]) [] [] (fun aG hs hZ=>(avu (by omega)))<|zD 1<|js 3 (hasB on (k:Int)) (fun h2=>?_) (fun h2=>?_)
  ·
   refine jd 4 [0]<|js 7 BL.same (fun h3=>?_) (fun h3=>?_)
   ·
    refine jd 2 [0]<|KZ (b:=b3) (off:=0) (len:=4) (sz:=1) BL.a (by omega)<|kJ (b:=b3) (off:=0+BL.a.toNat*1) (m:=1) (vs:=[zI (p BL.a.toNat)]) 0 [1] [(b3,.cells ⟨[zI (p 0),zI (p 1),zI (p 2),zI (p 3)]⟩ 126 (0,0))] (fun s _ hZ=>sP (hZ _ (.head _)) (by rw[hae];exact auz (by omega))) ?_
    refine jd 2 [0]<|ja (BL.b+1) (by omega)<|zD 3<|js 34 (!decide ((p BL.a.toNat)=(BL.b+1))) (fun h4=>?_) (fun h4=>?_)
    ·
     replace h4:=of_decide_eq_false (by simpa using h4)
     refine zD 6<|zX (.bool false) ⟨by rw[hI.2,xq mH];simp only[h2,h3,decide_eq_false h4,Bool.and_true,Bool.true_and,Bool.not_false,Bool.not_true,Bool.and_false,Bool.false_and,cond_true,cond_false],rfl⟩
    replace h4:=of_decide_eq_true (by simpa using h4)
    refine zD 3<|ja ((k:Int)+1) (by omega)<|zD 2<|bE bF (k+1) ⟨by omega,by rw[hI.2,xq mH];simp only[h2,h3,decide_eq_true h4,Bool.and_true,Bool.true_and,Bool.not_false,Bool.not_true,Bool.and_false,Bool.false_and,cond_true,cond_false]⟩ (by omega) [1] (Sub.refl _)
   refine zD 13<|ja ((k:Int)+1) (by omega)<|zD 2<|bE bF (k+1) ⟨by omega,by rw[hI.2,xq mH];simp only[h2,h3,Bool.and_true,Bool.true_and,Bool.not_false,Bool.not_true,Bool.and_false,Bool.false_and,cond_true,cond_false]⟩ (by omega) [1] (Sub.refl _)
  refine zD 17<|ja ((k:Int)+1) (by omega)<|zD 2<|bE bF (k+1) ⟨by omega,by rw[hI.2,xq mH];simp only[h2,Bool.and_true,Bool.true_and,Bool.not_false,Bool.not_true,Bool.and_false,Bool.false_and,cond_true,cond_false]⟩ (by omega) [1] (Sub.refl _)
 refine zD 7<|zX (.bool true) ⟨by rw[hI.2,Us (by omega)],rfl⟩
def gA(K:aB)(on:Int):Nat→Nat→(Nat→Int)→List (Nat→Int)
 |0,_,p=>bif jY on p K.facts 0 then [p] else []
 |n+1,a,p=>gA K on n (a+1) p++(List.range K.after.length).flatMap fun b=>bif !dc K on a b||qn p a ((b:Int)+1) then [] else gA K on n (a+1) (ig p a ((b:Int)+1))
def nt(K:aB)(on:Int)(n a:Nat)(p:Nat→Int)(b:Nat):List (Nat→Int):=bif !dc K on a b||qn p a ((b:Int)+1) then [] else gA K on n (a+1) (ig p a ((b:Int)+1))
theorem qu(K:aB)(on:Int)(n a:Nat)(p:Nat→Int):gA K on (n+1) a p=gA K on n (a+1) p++(List.range K.after.length).flatMap (nt K on n a p):=rfl
theorem Part.left{α:Type}{L x y:List α}{p:Nat}(h:Part L p (x++y)):Part L p x:=by
 obtain⟨a,b,rfl,h2⟩:=h
 exact⟨a,y++b,by simp,h2⟩
theorem Part.right{α:Type}{L x y:List α}{p:Nat}(h:Part L p (x++y)):Part L (p+x.length) y:=by
 obtain⟨a,b,rfl,rfl⟩:=h
 exact⟨a++x,b,by simp,by simp⟩
theorem aaQ(h:j <n):∃r,List.range n=List.range j++[j]++r:=by
 refine⟨(List.range n).drop (j+1),?_⟩
 have h1:(List.range n).take (j+1)=List.range (j+1):=by rw[List.take_range,Nat.min_eq_left h]
 rw[←List.range_succ,←h1,List.take_append_drop]
theorem Zh{q:Nat→Int}{a:Nat}{v:Int}(ha:a <4)(h:∀i,i≠a→q i=p i):qn q a v=qn p a v:=by
 have:(pL q).take a=(pL p).take a:=by
  rcases AV ha with rfl|rfl|rfl|rfl
  ·rfl
  ·simp[h 0 (by omega)]
  ·simp[h 0 (by omega),h 1 (by omega)]
  simp[h 0 (by omega),h 1 (by omega),h 2 (by omega)]
 simp only[qn,this]
theorem Xi{q:Nat→Int}{a:Nat}{v:Int}(h:∀i,i≠a→q i=p i):ig q a v=ig p a v:=by
 funext i
 simp only[ig]
 split
 ·rfl
 rename_i hi;exact h i hi
abbrev ePs(L:List (Nat→Int)):(Nat→Option Obj)→Nat→List Value→Cells→Prop:=fun _ k vs LL=>∃p,L[k]?=some p∧vs=[.agg ⟨eP4 p⟩]∧LL=[]
structure akF(ro:Nat→Option Obj)(bl f:Nat)(K:aB)(on:Int)(bf br bD bg bt bo:Nat):Prop where
 f:ro bf=some (.cells ⟨[zP f]⟩ 100 (0,0))
 r:ro br=some (.cells ⟨[.func (.func 116) ⟨[]⟩ ⟨[zP bf,zP bo]⟩]⟩ 218 (0,0))
 y:ro bD=some (.cells ⟨[.func (.yield bl) #[] #[]]⟩ 218 (0,0))
 g:ro bg=some (.cells ⟨[.func (.func 118) ⟨[]⟩ ⟨[zP bf,zP br,zP bD,zP bg,zP bt]⟩]⟩ 219 (0,0))
 t:ro bt=some (.cells ⟨Bp ⟨dc K on⟩⟩ 153 (0,0))
 o:ro bo=some (.cells ⟨[.int .u8 on]⟩ 105 (0,0))
def asz(bl f:Nat)(K:aB)(rows:List bG)(on:Int)(bf br bD bg bt bo:Nat)(L:List (Nat→Int))(Inv:Nat→Cells→Prop)(Stop:Cells→Prop)(n:Nat):Prop:=
 ∀(ro:Nat→Option Obj) (a:Nat) (p:Nat→Int) (q:Nat) (B:Cells),akF ro bl f K on bf br bD bg bt bo→nY ro f K rows→a+n=K.before.length→Part L q (gA K on n a p)→Inv q B→YOK zT bl ro L.length (ePs L) Inv Stop→
  dE zT 118 [.agg ⟨eP4 p⟩,zI (a:Int),zP bf,zP br,zP bD,zP bg,zP bt] ro B (fun r Y=>∃c,r= .bool c∧(c=true→Inv (q+(gA K on n a p).length) Y)∧(c=false→Stop Y))
theorem avv{a q:Nat}{on:Int}{B:Cells}{L:List (Nat→Int)}{Inv:Nat→Cells→Prop}{rows:List bG}(ih:∀m,m <n→asz bl f K rows on bf br bD bg bt bo L Inv Stop m)(hV:eG K)(oI:akF ro bl f K on bf br bD bg bt bo)(hF:nY ro f K rows)(han:a+n=K.before.length)(hP:Part L q (gA K on n a p))(hB:Inv q B)(hy:YOK zT bl ro L.length (ePs L) Inv Stop):dE zT 118 [.agg ⟨[zI (p 0),zI (p 1),zI (p 2),zI (p 3)]⟩,zI (a:Int),zP bf,zP br,zP bD,zP bg,zP bt] ro B (fun r Y=>∃c,r= .bool c∧(c=true→Inv (q+(gA K on n a p).length) Y)∧(c=false→Stop Y)):=by
 obtain⟨gf,gr,gy,gg,gt,go⟩:=id oI
 obtain⟨c0,c1,c2,vc,vh,vr,vb,va,vf,vt,hv,hf,qo,nJ,hr,ED,JC,Le,bW⟩:=id hF
 obtain⟨hc,hh,dg⟩:=id qo
 obtain⟨eg,AJ,AI,dV,rfl,DC,yU,yT⟩:=hc
 obtain⟨dI,u4,u3,du,rfl,xw,qR,qQ⟩:=hh
 obtain⟨kU,IP,IN,kT,rfl,OX,Gq,Gp⟩:=hr
 obtain⟨lN,MW,MT,kX,rfl,MU,Gs,Gr⟩:=ED
 obtain⟨lO,MZ,MX,kY,rfl,MY,Gu,Gt⟩:=JC
 obtain⟨mj,UF,UD,lv,rfl,UE,MP,MO⟩:=Le
 obtain⟨nE,Em,Ek,mV,rfl,Qf,MN,MM⟩:=bW
 have Ty:=hV.rules.1
 have CQ:=hV.before.1
 have Fc:=hV.after.1
 have hnf:=hV.facts.1
 refine zC [.l B]<|zD 2<|jn fun b7=>zD 6<|jl (b:=bf) (off:=0) (m:=1) (vs:=[zP f]) 0 ⟨_,_,_,.inl gf,rfl⟩<|zD 3<|jl (b:=f) (off:=0) (m:=13) (vs:=[c0,c1,c2,.slice eg K.cs.length dV,.slice dI hv.length du,.slice kU K.rules.length kT,.slice lN K.before.length kX,.slice lO K.after.length kY,zI K.gone,zI K.new,zI K.af,.slice mj K.facts.length lv,.slice nE rows.length mV]) 6 ⟨_,_,_,.inl hf,rfl⟩<|zD 3<|zJ 18 ((a:Int)=(K.before.length:Int)) (fun h1=>?_) fun h1=>?_
 ·
  refine zD 2 ?_
  obtain rfl:n=0:=by omega
  refine zD 1<|jl (b:=br) (off:=0) (m:=1) (vs:=[.func (.func 116) ⟨[]⟩ ⟨[zP bf,zP bo]⟩]) 0 ⟨_,_,_,.inl gr,rfl⟩<|jd 1 [0]<|jp (vs:=[.agg ⟨[zI (p 0),zI (p 1),zI (p 2),zI (p 3)]⟩,zP bf,zP bo]) [] [] (fun aG hs hZ=>avd (hF.up hs) hV (hs _ _ gf) (hs _ _ go))<|zD 2<|js 23 (!(jY on p K.facts 0)) (fun h2=>?_) (fun h2=>?_)
  ·
   have k7:=h2
   try simp only[zB] at k7
   refine zD 7<|zR (.bool true) [] [1] B ⟨_,rfl,(fun _=>by rw[show gA K on 0 a p=[] by simp only[gA,show jY on p K.facts 0=false by simpa using h2];rfl];exact hB),nofun⟩
  have k7:=h2
  try simp only[zB] at k7
  have ah5:gA K on 0 a p=[p]:=by simp only[gA,show jY on p K.facts 0=true by simpa using h2];rfl
  have hel:=Part.get (i:=0) (x:=p) hP (by rw[ah5];rfl)
  refine jl (b:=bD) (off:=0) (m:=1) (vs:=[(.func (.yield bl) #[] #[])]) 0 ⟨_,_,_,.inl gy,rfl⟩<|jd 1 [0]<|jyc [1] (hy q [.agg ⟨[zI (p 0),zI (p 1),zI (p 2),zI (p 3)]⟩] [] B ro hel.1 ⟨_,hel.2,rfl,rfl⟩ hB (Sub.refl _)) (Sub.refl _) ?_
  intro v26 Y26 aOW
  obtain⟨c26,rfl,aRB,aRp⟩:=yb aOW
  refine zD 4<|zR (.bool c26) [] [0] Y26 ⟨_,rfl,(fun h=>by rw[ah5];exact aRB h),aRp⟩
 refine zD 4 ?_
 obtain⟨m,rfl⟩:∃m,n=m+1:=⟨n-1,by omega⟩
 rw[qu] at hP
 refine zD 1<|jl (b:=bg) (off:=0) (m:=1) (vs:=[.func (.func 118) ⟨[]⟩ ⟨[zP bf,zP br,zP bD,zP bg,zP bt]⟩]) 0 ⟨_,_,_,.inl gg,rfl⟩<|jd 2 [0]<|ja ((a:Int)+1) (by omega)<|jc (vs:=[.agg ⟨[zI (p 0),zI (p 1),zI (p 2),zI (p 3)]⟩,zI ((a:Int)+1),zP bf,zP br,zP bD,zP bg,zP bt]) [1] (ih m (by omega) _ (a+1) p q _ oI hF (by omega) (Part.left hP) hB hy) ?_
 rintro _ Y32 ⟨c32,rfl,aRy,aRm⟩
 refine zD 2<|js 33 (!c32) (fun h3=>?_) (fun h3=>?_)
 ·
  try simp only[zB] at h3
  refine zD 6<|zR (.bool false) [] [0] Y32 ⟨_,rfl,nofun,fun _=>aRm (by simp_all)⟩
 try simp only[zB] at h3
 refine zD 5<|jl (b:=bf) (off:=0) (m:=1) (vs:=[zP f]) 0 ⟨_,_,_,.inl gf,rfl⟩<|zD 3<|jl (b:=f) (off:=0) (m:=13) (vs:=[c0,c1,c2,.slice eg K.cs.length dV,.slice dI hv.length du,.slice kU K.rules.length kT,.slice lN K.before.length kX,.slice lO K.after.length kY,zI K.gone,zI K.new,zI K.af,.slice mj K.facts.length lv,.slice nE rows.length mV]) 7 ⟨_,_,_,.inl hf,rfl⟩<|zD 4<|dB [1,1,1,0,1,0,0] [] (fun(zz:Nat×(Nat→Int)×Cells)=>[(1,zI (a:Int)),(5,zP bg),(6,zP bt),(7,zP b7),(39,zI (K.after.length:Int)),(40,zI (zz.1:Int))]) (fun zz=>[.b b7 (.cells ⟨[zI (zz.2.1 0),zI (zz.2.1 1),zI (zz.2.1 2),zI (zz.2.1 3)]⟩ 126 (0,0)),.l zz.2.2]) (fun zz=>zz.1≤K.after.length∧Inv (q+(gA K on m (a+1) p).length+((List.range zz.1).flatMap (nt K on m a p)).length) zz.2.2∧∀i,i≠a→zz.2.1 i=p i) (fun zz=>K.after.length-zz.1) (⟨0,p,Y32⟩) ⟨by dsimp only;omega,by have:=aRy (by simp_all);simpa using this,fun _ _=>rfl⟩ [1,0] ?_
 rintro⟨j,pp,B⟩ hJ K1 bF rest
 dsimp only at hJ
 refine zD 5<|zJ 41 ((j:Int) <(K.after.length:Int)) (fun h4=>?_) fun h4=>?_
 ·
  refine zD 11 ?_
  have ha4:a <4:=by omega
  have hj4:j <4:=by omega
  obtain⟨rr,hrr⟩:=aaQ (show j <K.after.length by omega)
  have hPj:=Part.flat (Part.right hP) hrr
  refine zD 3<|KZ (b:=bt) (off:=0) (len:=4) (sz:=4) (a:Int) (by omega)<|KZ (b:=bt) (off:=0+(a:Int).toNat*4) (len:=4) (sz:=1) (j:Int) (by omega)<|jl (b:=bt) (off:=0+(a:Int).toNat*4+(j:Int).toNat*1) (m:=1) (vs:=[.bool (dc K on a j)]) 0 (sP (.inl gt) (XG (r:=⟨dc K on⟩) ha4 hj4))<|zD 2<|js 49 (!(dc K on a j)) (fun h5=>?_) (fun h5=>?_)
  ·
   have NZ:=h5
   try simp only[zB] at NZ
   refine zD 10<|ja ((j:Int)+1) (by omega)<|zD 2<|bE bF (⟨j+1,pp,B⟩) ⟨by dsimp only;omega,by dsimp only;rw[List.range_succ,List.flatMap_append,List.length_append,List.flatMap_singleton,←Nat.add_assoc];rw[show nt K on m a p j=[] by simp only[nt,h5];rfl];exact hJ.2.1,hJ.2.2⟩ (by dsimp only;omega) [0,1] (Sub.refl _)
  have NZ:=h5
  try simp only[zB] at NZ
  refine zD 1<|jah (b:=b7) (off:=0) (len:=4) (a:Int) (by omega)<|zD 1<|ja ((j:Int)+1) (by omega)<|jp (vs:=[(.slice (some ⟨b7,0,none⟩) (a:Int).toNat 4),zI ((j:Int)+1)]) [0] [(b7,.cells ⟨[zI (pp 0),zI (pp 1),zI (pp 2),zI (pp 3)]⟩ 126 (0,0))] (fun aG hs hZ=>aOJ (amj hZ.head (by omega)) (by rw[List.length_take];omega)) ?_
  refine zD 2<|js 55 (qn pp a ((j:Int)+1)) (fun h6=>?_) (fun h6=>?_)
  ·
   refine zD 3<|ja ((j:Int)+1) (by omega)<|zD 2<|bE bF (⟨j+1,pp,B⟩) ⟨by dsimp only;omega,by dsimp only;rw[List.range_succ,List.flatMap_append,List.length_append,List.flatMap_singleton,←Nat.add_assoc];rw[show nt K on m a p j=[] by simp only[nt,←Zh ha4 hJ.2.2,h5,h6];rfl];exact hJ.2.1,hJ.2.2⟩ (by dsimp only;omega) [0,1] (Sub.refl _)
  have hg0:nt K on m a p j=gA K on m (a+1) (ig p a ((j:Int)+1)):=by simp only[nt,←Zh ha4 hJ.2.2,h5,h6];rfl
  have hPg:Part L (q+(gA K on m (a+1) p).length+((List.range j).flatMap (nt K on m a p)).length) (gA K on m (a+1) (ig pp a ((j:Int)+1))):=by rw[Xi hJ.2.2,←hg0];exact hPj
  refine zD 6<|ja ((j:Int)+1) (by omega)<|KZ (b:=b7) (off:=0) (len:=4) (sz:=1) (a:Int) (by omega)<|jsx 0 b7 (0+(a:Int).toNat*1) [zI (pp 0),zI (pp 1),zI (pp 2),zI (pp 3)] [zI ((j:Int)+1)] 126 (by intro v hv;rw[List.mem_singleton] at hv;subst hv;rfl) (auA (p:=pp) ha4) ?_
  refine jmw 0 [.b b7 (.cells ⟨[zI ((ig pp a ((j:Int)+1)) 0),zI ((ig pp a ((j:Int)+1)) 1),zI ((ig pp a ((j:Int)+1)) 2),zI ((ig pp a ((j:Int)+1)) 3)]⟩ 126 (0,0))] (L:=[(b7,.cells ⟨dA [zI (pp 0),zI (pp 1),zI (pp 2),zI (pp 3)] (0+(a:Int).toNat*1) [zI ((j:Int)+1)]⟩ 126 (0,0))]) (by rw[auy ha4];rfl) ?_
  refine zD 3<|jl (b:=bg) (off:=0) (m:=1) (vs:=[.func (.func 118) ⟨[]⟩ ⟨[zP bf,zP br,zP bD,zP bg,zP bt]⟩]) 0 ⟨_,_,_,.inl gg,rfl⟩<|jd 2 [0]<|ja ((a:Int)+1) (by omega)<|jc (vs:=[.agg ⟨[zI ((ig pp a ((j:Int)+1)) 0),zI ((ig pp a ((j:Int)+1)) 1),zI ((ig pp a ((j:Int)+1)) 2),zI ((ig pp a ((j:Int)+1)) 3)]⟩,zI ((a:Int)+1),zP bf,zP br,zP bD,zP bg,zP bt]) [1] (ih m (by omega) _ (a+1) _ (q+(gA K on m (a+1) p).length+((List.range j).flatMap (nt K on m a p)).length) _ oI hF (by omega) hPg hJ.2.1 hy) ?_
  rintro _ Y64 ⟨ZK,rfl,aRw,aRk⟩
  refine zD 2<|js 65 (!ZK) (fun h7=>?_) (fun h7=>?_)
  ·
   try simp only[zB] at h7
   refine zD 6<|zR (.bool false) [] [0] Y64 ⟨_,rfl,nofun,fun _=>aRk (by simp_all)⟩
  try simp only[zB] at h7
  refine zD 3<|ja ((j:Int)+1) (by omega)<|zD 2<|bE bF (⟨j+1,(ig pp a ((j:Int)+1)),Y64⟩) ⟨by dsimp only;omega,by dsimp only;rw[List.range_succ,List.flatMap_append,List.length_append,List.flatMap_singleton,←Nat.add_assoc];rw[hg0,←Xi hJ.2.2];exact aRw (by simp_all),(fun i hi=>by simp only[ig,if_neg hi];exact hJ.2.2 i hi)⟩ (by dsimp only;omega) [1,0] (Sub.refl _)
 refine zD 7<|zR (.bool true) [] [1] B ⟨_,rfl,(fun _=>by rw[qu,List.length_append,←Nat.add_assoc];have:=hJ.2.1;rwa[show j=K.after.length by omega] at this),nofun⟩
theorem aD4(hV:eG K){rows:List bG}{on:Int}{L:List (Nat→Int)}{Inv:Nat→Cells→Prop}:∀n,asz bl f K rows on bf br bD bg bt bo L Inv Stop n:=by
 intro n
 induction n using Nat.strongRecOn with
 |_ n ih=>exact fun ro a p q B hc hF han hP hB hy=>avv ih hV hc hF han hP hB hy
def aJ(K:aB)(on:Int):List (Nat→Int):=gA K on K.before.length 0 fun _=>0
theorem Zr{on:Int}{a:Nat}(h:¬a <K.before.length∨¬b <K.after.length):dc K on a b=false:=by
 rcases h with h|h
 ·simp[dc,List.getElem?_eq_none (Nat.le_of_not_lt h)]
 simp only[dc,List.getElem?_eq_none (Nat.le_of_not_lt h)]
 split
 ·rename_i h1;cases h1
 rfl
def EP(K:aB)(on:Int)(i j:Nat)(r:bG):Prop:=∀x y,r.c x y=((decide (x <i)||(decide (x=i)&&decide (y <j)))&&dc K on x y)
theorem EP.set{on:Int}{i:Nat}{r:bG}(h:EP K on i j r):EP K on i (j+1) (iT r i j (dc K on i j)):=fun x y=>by
 simp only[iT]
 split
 ·rename_i hx;obtain⟨rfl,rfl⟩:=hx;simp
 rename_i hx
 rw[h x y]
 congr 2
 by_cases e:x=i
 ·subst e
  have:y≠j:=fun e2=>hx ⟨rfl,e2⟩
  simp only[decide_true,Bool.true_and]
  congr 1
  exact propext (by omega)
 simp[e]
theorem EP.nxt{on:Int}{i:Nat}{r:bG}(h:EP K on i K.after.length r):EP K on (i+1) 0 r:=fun x y=>by
 rw[h x y]
 by_cases hy:y <K.after.length
 ·congr 1
  simp only[hy,decide_true,Bool.and_true,Nat.not_lt_zero,decide_false,Bool.and_false,Bool.or_false]
  rw[Bool.eq_iff_iff];simp;omega
 rw[Zr (.inr hy)];simp
theorem EP.fin{on:Int}{r:bG}(h:EP K on K.before.length 0 r):r=⟨dc K on⟩:=by
 rcases r with ⟨c⟩
 congr 1
 funext x y
 have:=h x y
 dsimp only at this
 rw[this]
 by_cases hx:x <K.before.length
 ·simp[hx]
 rw[Zr (.inl hx)];simp
theorem amQ{a:Nat}(h:a <4):nth (eP4 p) ((a:Int).toNat*1)=some (zI (p a)):=by
 rcases AV h with rfl|rfl|rfl|rfl<;>rfl
theorem aeC{r:bG}{a:Nat}{j:Int}(h:a <4)(k:0≤j∧j <4):nth (Bp r) (0+(a:Int).toNat*4+j.toNat*1)=some (.bool (r.c a j.toNat)):=by
 obtain⟨m,rfl⟩:=Int.eq_ofNat_of_zero_le k.1
 exact XG h (by omega)
def Cp(r:bG)(p:Nat→Int):Nat→Int
 |0=>0
 |k+1=>Cp r p k+bif decide (p k>0)&& !r.c k (p k-1).toNat then 1 else 0
def cu(K:aB)(r:bG)(past:Nat)(p:Nat→Int):aj:=⟨past,p 0,p 1,p 2,p 3,K.before.length-rR (pL p),K.after.length-rR (pL p),Cp r p 4⟩
theorem XW(p:Nat→Int):0≤rR (pL p)∧rR (pL p)≤4:=by
 have:=List.length_filter_le (fun x=>decide (x>0)) (pL p)
 simp only[rR]
 exact⟨by omega,by simp only[List.length_cons,List.length_nil] at this;omega⟩
theorem YA{rows:List bG}{on:Int}(hF:nY ro f K rows)(hV:eG K)(g1:ro b1=some (.cells ⟨[zP f]⟩ 100 (0,0)))(g2:ro b2=some (.cells ⟨[.func (.func 116) ⟨[]⟩ ⟨[zP b1,zP b4]⟩]⟩ 218 (0,0)))(g3:ro b3=some (.cells ⟨Bp ⟨dc K on⟩⟩ 153 (0,0)))(g4:ro b4=some (.cells ⟨[.int .u8 on]⟩ 105 (0,0))):ItX zT 117 [] [zP b1,zP b2,zP b3] ro [] (aJ K on).length (ePs (aJ K on)) (fun Z=>Z=[]):=by
 intro bl aG Inv Stop hs hy B hB
 replace g1:=hs _ _ g1
 replace g2:=hs _ _ g2
 replace g3:=hs _ _ g3
 replace g4:=hs _ _ g4
 replace hF:=hF.up hs
 refine zC [.l B]<|zD 2<|jn fun b4=>zD 3<|jn fun b5=>jd 9 [0,0]<|jf [1,0] ((b4,.cells ⟨[(.func (.yield bl) #[] #[])]⟩ 218 (0,0))::[(b5,.cells ⟨[.func (.func 118) ⟨[]⟩ ⟨[zP b1,zP b2,zP b4,zP b5,zP b3]⟩]⟩ 219 (0,0))]) fun yS cg iK=>jc (vs:=[.agg ⟨[zI 0,zI 0,zI 0,zI 0]⟩,zI 0,zP b1,zP b2,zP b4,zP b5,zP b3]) [0] (aD4 (K:=K) hV (on:=on) _ _ 0 (fun _=>0) 0 _ ⟨(cg _ _ g1),(cg _ _ g2),iK _ (.head _),iK _ (.tail _ (.head _)),(cg _ _ g3),cg _ _ g4⟩ (hF.up cg) (Nat.zero_add _) ⟨[],[],by simp[aJ],rfl⟩ hB (YOK.up hy cg)) ?_
 rintro _ Y9 ⟨c9,rfl,hc9,hd9⟩
 refine zD 1<|aL q0.a (.tuple ⟨[]⟩) [] [0] Y9 cg ⟨_,_,rfl,rfl,[],Y9,rfl,rfl,by cases c9 with|true=>exact .inl (by simpa [aJ] using hc9 rfl)|false=>exact .inr (hd9 rfl)⟩
theorem KU{rows:List bG}{on:Int}(hF:nY ro f K rows)(hV:eG K):dE zT 92 [zP f,.int .u8 on] ro [] (fun r Y=>∃b1 b2 b3 b4,r= .func (.func 117) ⟨[]⟩ ⟨[zP b1,zP b2,zP b3]⟩∧Y=[(b1,.cells ⟨[zP f]⟩ 100 (0,0)),(b2,.cells ⟨[.func (.func 116) ⟨[]⟩ ⟨[zP b1,zP b4]⟩]⟩ 218 (0,0)),(b3,.cells ⟨Bp ⟨dc K on⟩⟩ 153 (0,0)),(b4,.cells ⟨[.int .u8 on]⟩ 105 (0,0))]):=by
 obtain⟨c0,c1,c2,vc,vh,vr,vb,va,vf,vt,hv,hf,qo,nJ,hr,ED,JC,Le,bW⟩:=id hF
 obtain⟨hc,hh,dg⟩:=id qo
 obtain⟨eg,AJ,AI,dV,rfl,DC,yU,yT⟩:=hc
 obtain⟨dI,u4,u3,du,rfl,xw,qR,qQ⟩:=hh
 obtain⟨kU,IP,IN,kT,rfl,OX,Gq,Gp⟩:=hr
 obtain⟨lN,MW,MT,kX,rfl,MU,Gs,Gr⟩:=ED
 obtain⟨lO,MZ,MX,kY,rfl,MY,Gu,Gt⟩:=JC
 obtain⟨mj,UF,UD,lv,rfl,UE,MP,MO⟩:=Le
 obtain⟨nE,Em,Ek,mV,rfl,Qf,MN,MM⟩:=bW
 have Ty:=hV.rules.1
 have CQ:=hV.before.1
 have Fc:=hV.after.1
 have hnf:=hV.facts.1
 refine zE<|zD 2<|jn fun b2=>jn fun b3=>zD 4<|jn fun b5=>jd 8 [2]<|jl (b:=f) (off:=0) (m:=13) (vs:=[c0,c1,c2,.slice eg K.cs.length dV,.slice dI hv.length du,.slice kU K.rules.length kT,.slice lN K.before.length kX,.slice lO K.after.length kY,zI K.gone,zI K.new,zI K.af,.slice mj K.facts.length lv,.slice nE rows.length mV]) 6 ⟨_,_,_,.inl hf,rfl⟩<|zD 4<|dB [1,1,0,1,0,0] [] (fun(zz:Nat×bG)=>[(2,zP b2),(3,zP b3),(4,.nilFunc),(5,zP b5),(14,zI (K.before.length:Int)),(15,zI (zz.1:Int))]) (fun zz=>[.b b5 (.cells ⟨[.bool (zz.2.c 0 0),.bool (zz.2.c 0 1),.bool (zz.2.c 0 2),.bool (zz.2.c 0 3),.bool (zz.2.c 1 0),.bool (zz.2.c 1 1),.bool (zz.2.c 1 2),.bool (zz.2.c 1 3),.bool (zz.2.c 2 0),.bool (zz.2.c 2 1),.bool (zz.2.c 2 2),.bool (zz.2.c 2 3),.bool (zz.2.c 3 0),.bool (zz.2.c 3 1),.bool (zz.2.c 3 2),.bool (zz.2.c 3 3)]⟩ 153 (0,0)),.b b3 (.cells ⟨[.int .u8 on]⟩ 105 (0,0)),.b b2 (.cells ⟨[zP f]⟩ 100 (0,0))]) (fun zz=>zz.1≤K.before.length∧EP K on zz.1 0 zz.2) (fun zz=>K.before.length-zz.1) (⟨0,⟨fun _ _=>false⟩⟩) ⟨by dsimp only;omega,fun x y=>by simp⟩ [0,1,2] ?_
 rintro⟨i,r⟩ hI K1 bF rest
 dsimp only at hI
 refine zD 5<|zJ 16 ((i:Int) <(K.before.length:Int)) (fun h1=>?_) fun h1=>?_
 ·
  refine jd 15 [2]<|jl (b:=f) (off:=0) (m:=13) (vs:=[c0,c1,c2,.slice eg K.cs.length dV,.slice dI hv.length du,.slice kU K.rules.length kT,.slice lN K.before.length kX,.slice lO K.after.length kY,zI K.gone,zI K.new,zI K.af,.slice mj K.facts.length lv,.slice nE rows.length mV]) 7 ⟨_,_,_,.inl hf,rfl⟩<|zD 4<|dB [1,1,0,1,0,0,1,1,0,0,1,1,0,0] [K1] (fun(zz:Nat×bG)=>[(2,zP b2),(3,zP b3),(4,.nilFunc),(5,zP b5),(6,zI (i:Int)),(14,zI (K.before.length:Int)),(15,zI (i:Int)),(23,zI (K.after.length:Int)),(24,zI (zz.1:Int))]) (fun zz=>[.b b5 (.cells ⟨[.bool (zz.2.c 0 0),.bool (zz.2.c 0 1),.bool (zz.2.c 0 2),.bool (zz.2.c 0 3),.bool (zz.2.c 1 0),.bool (zz.2.c 1 1),.bool (zz.2.c 1 2),.bool (zz.2.c 1 3),.bool (zz.2.c 2 0),.bool (zz.2.c 2 1),.bool (zz.2.c 2 2),.bool (zz.2.c 2 3),.bool (zz.2.c 3 0),.bool (zz.2.c 3 1),.bool (zz.2.c 3 2),.bool (zz.2.c 3 3)]⟩ 153 (0,0)),.b b3 (.cells ⟨[.int .u8 on]⟩ 105 (0,0)),.b b2 (.cells ⟨[zP f]⟩ 100 (0,0))]) (fun zz=>zz.1≤K.after.length∧EP K on i zz.1 zz.2) (fun zz=>K.after.length-zz.1) (⟨0,r⟩) ⟨by dsimp only;omega,hI.2⟩ [0,1,2] ?_
  rintro⟨j,r⟩ hJ K2 kL rest
  dsimp only at hJ
  refine zD 5<|zJ 25 ((j:Int) <(K.after.length:Int)) (fun h2=>?_) fun h2=>?_
  ·
   refine zD 9 ?_
   obtain⟨x,ha⟩:∃x,K.before[i]?=some x:=⟨_,List.getElem?_eq_getElem (by omega)⟩
   obtain⟨y,hb⟩:∃y,K.after[j]?=some y:=⟨_,List.getElem?_eq_getElem (by omega)⟩
   refine jd 7 [2,1]<|KZ (b:=b5) (off:=0) (len:=4) (sz:=4) (i:Int) (by omega)<|jp (vs:=[zP f,zI (i:Int),zI (j:Int),.int .u8 on]) [] [] (fun aG hs hZ=>aD5 (hF.up hs) hV ha hb)<|KZ (b:=b5) (off:=0+(i:Int).toNat*4) (len:=4) (sz:=1) (j:Int) (by omega)<|aS 9 fun oh ov mZ=>jsx 0 b5 (0+(i:Int).toNat*4+(j:Int).toNat*1) [.bool (r.c 0 0),.bool (r.c 0 1),.bool (r.c 0 2),.bool (r.c 0 3),.bool (r.c 1 0),.bool (r.c 1 1),.bool (r.c 1 2),.bool (r.c 1 3),.bool (r.c 2 0),.bool (r.c 2 1),.bool (r.c 2 2),.bool (r.c 2 3),.bool (r.c 3 0),.bool (r.c 3 1),.bool (r.c 3 2),.bool (r.c 3 3)] [.bool (dc K on i j)] 153 (by intro v hv;rw[List.mem_singleton] at hv;subst hv;rfl) (XH (r:=r) (by omega) (by omega)) ?_
   refine jmw 0 [.b b5 (.cells ⟨[.bool ((iT r i j (dc K on i j)).c 0 0),.bool ((iT r i j (dc K on i j)).c 0 1),.bool ((iT r i j (dc K on i j)).c 0 2),.bool ((iT r i j (dc K on i j)).c 0 3),.bool ((iT r i j (dc K on i j)).c 1 0),.bool ((iT r i j (dc K on i j)).c 1 1),.bool ((iT r i j (dc K on i j)).c 1 2),.bool ((iT r i j (dc K on i j)).c 1 3),.bool ((iT r i j (dc K on i j)).c 2 0),.bool ((iT r i j (dc K on i j)).c 2 1),.bool ((iT r i j (dc K on i j)).c 2 2),.bool ((iT r i j (dc K on i j)).c 2 3),.bool ((iT r i j (dc K on i j)).c 3 0),.bool ((iT r i j (dc K on i j)).c 3 1),.bool ((iT r i j (dc K on i j)).c 3 2),.bool ((iT r i j (dc K on i j)).c 3 3)]⟩ 153 (0,0))] (L:=[(b5,.cells ⟨dA [.bool (r.c 0 0),.bool (r.c 0 1),.bool (r.c 0 2),.bool (r.c 0 3),.bool (r.c 1 0),.bool (r.c 1 1),.bool (r.c 1 2),.bool (r.c 1 3),.bool (r.c 2 0),.bool (r.c 2 1),.bool (r.c 2 2),.bool (r.c 2 3),.bool (r.c 3 0),.bool (r.c 3 1),.bool (r.c 3 2),.bool (r.c 3 3)] (0+(i:Int).toNat*4+(j:Int).toNat*1) [.bool (dc K on i j)]⟩ 153 (0,0))]) (by rw[XF (by omega) (by omega)];rfl) ?_
   refine gx mZ []<|zD 2<|ja ((j:Int)+1) (by omega)<|zD 2<|bE kL (⟨j+1,(iT r i j (dc K on i j))⟩) ⟨by dsimp only;omega,hJ.2.set⟩ (by dsimp only;omega) [0,1,2] (Sub.refl _)
  refine zD 3<|ja ((i:Int)+1) (by omega)<|zD 2<|bE bF (⟨i+1,r⟩) ⟨by dsimp only;omega,EP.nxt (by have:=hJ.2;rwa[show j=K.after.length by omega] at this)⟩ (by dsimp only;omega) [0,1,2] (Sub.refl _)
 refine zD 5<|jn fun b8=>jd 8 [0]<|zR (.func (.func 117) ⟨[]⟩ ⟨[zP b2,zP b8,zP b5]⟩) [] [3,0,1,2] ((b2,.cells ⟨[zP f]⟩ 100 (0,0))::((b8,.cells ⟨[.func (.func 116) ⟨[]⟩ ⟨[zP b2,zP b3]⟩]⟩ 218 (0,0))::((b5,.cells ⟨[.bool (r.c 0 0),.bool (r.c 0 1),.bool (r.c 0 2),.bool (r.c 0 3),.bool (r.c 1 0),.bool (r.c 1 1),.bool (r.c 1 2),.bool (r.c 1 3),.bool (r.c 2 0),.bool (r.c 2 1),.bool (r.c 2 2),.bool (r.c 2 3),.bool (r.c 3 0),.bool (r.c 3 1),.bool (r.c 3 2),.bool (r.c 3 3)]⟩ 153 (0,0))::[(b3,.cells ⟨[.int .u8 on]⟩ 105 (0,0))]))) ⟨_,_,_,_,rfl,by have e:=EP.fin (K:=K) (on:=on) (r:=r) (by have:=hI.2;rwa[show i=K.before.length by omega] at this);subst e;rfl⟩
theorem aq8{rows:List bG}{past:Nat}{Jg:bG}(hF:nY ro f K rows)(hV:eG K)(CM:rows[past]?=some Jg) (hp:∀i,0≤p i∧p i≤4):dr zT 93 [zP f,zI (past:Int),.agg ⟨[zI (p 0),zI (p 1),zI (p 2),zI (p 3)]⟩] ro (.agg ⟨cQ (cu K Jg past p)⟩):=by
 obtain⟨c0,c1,c2,vc,vh,vr,vb,va,vf,vt,hv,hf,qo,nJ,hr,ED,JC,Le,bW⟩:=id hF
 obtain⟨hc,hh,dg⟩:=id qo
 obtain⟨eg,AJ,AI,dV,rfl,DC,yU,yT⟩:=hc
 obtain⟨dI,u4,u3,du,rfl,xw,qR,qQ⟩:=hh
 obtain⟨kU,IP,IN,kT,rfl,OX,Gq,Gp⟩:=hr
 obtain⟨lN,MW,MT,kX,rfl,MU,Gs,Gr⟩:=ED
 obtain⟨lO,MZ,MX,kY,rfl,MY,Gu,Gt⟩:=JC
 obtain⟨mj,UF,UD,lv,rfl,UE,MP,MO⟩:=Le
 obtain⟨nE,Em,Ek,mV,rfl,Qf,MN,MM⟩:=bW
 have Ty:=hV.rules.1
 have CQ:=hV.before.1
 have Fc:=hV.after.1
 have hnf:=hV.facts.1
 have hpc:=XW p
 have Tv:=(List.getElem?_eq_some_iff.1 CM).1
 refine zE<|zD 2<|jn fun b5=>jn fun b6=>jd 4 [1]<|jp (vs:=[.agg ⟨[zI (p 0),zI (p 1),zI (p 2),zI (p 3)]⟩]) [] [] (fun aG hs hZ=>(ave (p0:=p 0) (p1:=p 1) (p2:=p 2) (p3:=p 3)))<|jd 10 [1]<|jl (b:=f) (off:=0) (m:=13) (vs:=[c0,c1,c2,.slice eg K.cs.length dV,.slice dI hv.length du,.slice kU K.rules.length kT,.slice lN K.before.length kX,.slice lO K.after.length kY,zI K.gone,zI K.new,zI K.af,.slice mj K.facts.length lv,.slice nE rows.length mV]) 6 ⟨_,_,_,.inl hf,rfl⟩<|zD 2<|ja ((K.before.length:Int)-(rR (pL p))) (by omega)<|zD 4<|jl (b:=f) (off:=0) (m:=13) (vs:=[c0,c1,c2,.slice eg K.cs.length dV,.slice dI hv.length du,.slice kU K.rules.length kT,.slice lN K.before.length kX,.slice lO K.after.length kY,zI K.gone,zI K.new,zI K.af,.slice mj K.facts.length lv,.slice nE rows.length mV]) 7 ⟨_,_,_,.inl hf,rfl⟩<|zD 2<|ja ((K.after.length:Int)-(rR (pL p))) (by omega)<|zD 1<|aS 19 fun BV B3 An=>jn fun b8=>eo An [1,2]<|aS 20 fun yD yK ya=>jd 1 [0]<|fU ya<|jd 8 [2]<|dB [1,1,1,0,1,0,0] [] (fun(zz:Nat×Int)=>[(0,zP f),(1,zI (past:Int)),(6,zP b6),(8,zP b8),(32,.agg ⟨[zI (p 0),zI (p 1),zI (p 2),zI (p 3)]⟩),(33,zI (zz.1:Int))]) (fun zz=>[.b b8 (.cells ⟨[zI (past:Int),zI (p 0),zI (p 1),zI (p 2),zI (p 3),zI ((K.before.length:Int)-(rR (pL p))),zI ((K.after.length:Int)-(rR (pL p))),zI zz.2]⟩ 128 (0,0)),.b b6 (.cells ⟨[zI 0,zI 0,zI 0,zI 0,zI 0,zI 0,zI 0,zI 0]⟩ 128 (0,0))]) (fun zz=>zz.1≤4∧zz.2=Cp Jg p zz.1∧(0≤zz.2∧zz.2≤zz.1)) (fun zz=>4-zz.1) (⟨0,0⟩) ⟨by dsimp only;omega,rfl,by dsimp only;omega⟩ [0,1] ?_
 rintro⟨k,m⟩ hI K3 hK3 rest
 dsimp only at hI
 refine zD 5<|zJ 34 ((k:Int) <4) (fun h3=>?_) fun h3=>?_
 ·
  refine zD 7<|jai (l:=[zI (p 0),zI (p 1),zI (p 2),zI (p 3)]) (k:Int) 4 1 false (by omega) (v:= zI (p k)) (show nth (eP4 p) _=_ from amQ (by omega))<|zD 4 ?_
  have hpk:=hp k
  refine zD 4<|js 39 (decide ((p k)>0)) (fun h4=>?_) (fun h4=>?_)
  ·
   have uR:=h4
   replace uR:=of_decide_eq_true uR
   refine zD 3<|jl (b:=f) (off:=0) (m:=13) (vs:=[c0,c1,c2,.slice eg K.cs.length dV,.slice dI hv.length du,.slice kU K.rules.length kT,.slice lN K.before.length kX,.slice lO K.after.length kY,zI K.gone,zI K.new,zI K.af,.slice mj K.facts.length lv,.slice nE rows.length mV]) 12 ⟨_,_,_,.inl hf,rfl⟩<|zD 3<|ja ((p k)-1) (by omega) ?_
   obtain⟨x48,G8⟩:=zG rows past
   refine gY mV 16 MN G8<|KZ (b:=Em) (off:=Ek+past*16+0) (len:=4) (sz:=4) (k:Int) (by omega)<|KZ (b:=Em) (off:=Ek+past*16+0+(k:Int).toNat*4) (len:=4) (sz:=1) ((p k)-1) (by omega)<|jl (b:=Em) (off:=Ek+past*16+0+(k:Int).toNat*4+((p k)-1).toNat*1) (m:=1) (vs:=[.bool (x48.c k ((p k)-1).toNat)]) 0 (show cA ⟨ro,[]⟩ Em (Ek+past*16+0+(k:Int).toNat*4+((p k)-1).toNat*1) 1 [.bool (x48.c k ((p k)-1).toNat)] from by have:=aeP (MM _ _ G8) (aeC (r:=x48) (a:=k) (j:=(p k)-1) (by omega) (by omega));simpa [Nat.add_assoc] using this) ?_
   refine zD 3<|js 53 (!(x48.c k ((p k)-1).toNat)) (fun h5=>?_) (fun h5=>?_)
   ·
    try simp only[zB] at h5
    refine jd 4 [0]<|ja (m+1) (by omega)<|jd 4 [0]<|ja ((k:Int)+1) (by omega)<|zD 2<|bE hK3 (⟨k+1,(m+1)⟩) ⟨by dsimp only;omega,by dsimp only;rw[Cp,hI.2.1];rw[CM] at G8;cases G8;simp only[decide_eq_true uR,h5,Bool.not_false,Bool.not_true,Bool.and_true,Bool.and_false,cond_true,cond_false,Int.add_zero],by dsimp only;omega⟩ (by dsimp only;omega) [0,1] (Sub.refl _)
   try simp only[zB] at h5
   refine zD 3<|ja ((k:Int)+1) (by omega)<|zD 2<|bE hK3 (⟨k+1,m⟩) ⟨by dsimp only;omega,by dsimp only;rw[Cp,hI.2.1];rw[CM] at G8;cases G8;simp only[decide_eq_true uR,h5,Bool.not_false,Bool.not_true,Bool.and_true,Bool.and_false,cond_true,cond_false,Int.add_zero],by dsimp only;omega⟩ (by dsimp only;omega) [0,1] (Sub.refl _)
  have uR:=h4
  replace uR:=of_decide_eq_false uR
  refine zD 18<|ja ((k:Int)+1) (by omega)<|zD 2<|bE hK3 (⟨k+1,m⟩) ⟨by dsimp only;omega,by dsimp only;rw[Cp,hI.2.1];simp only[decide_eq_false uR,Bool.false_and,cond_false,Int.add_zero],by dsimp only;omega⟩ (by dsimp only;omega) [0,1] (Sub.refl _)
 refine jd 8 [0,1]<|zR (.agg ⟨[zI (past:Int),zI (p 0),zI (p 1),zI (p 2),zI (p 3),zI ((K.before.length:Int)-(rR (pL p))),zI ((K.after.length:Int)-(rR (pL p))),zI m]⟩) [1] [] [] ⟨by rw[hI.2.1,show k=4 by omega];rfl,rfl⟩
def xe(v:Value)(xs:List aj)(Y:Cells):Prop:=∃ys,ys.Perm xs∧aw v 8 128 cQ ys Y
def gq(xs:List aj):Prop:=∀x∈xs,0≤x.past∧x.past≤1000
theorem gq.perm{xs ys:List aj}(h:gq xs)(hp:ys.Perm xs):gq ys:=fun x hx=>h x (hp.mem_iff.1 hx)
theorem Fh{x:Int}(h:0≤x∧x≤1000000000):IntKind.i64.wrap (aT .u64 (IntKind.u64.wrap x) 1)=x / 2:=by
 have h1:IntKind.u64.wrap x=x:=sB .u64 rfl _ (by omega) (by simp[IntKind.bits];omega)
 rw[h1]
 have h2:aT .u64 x 1=x / 2:=by
  show x.fdiv 2=x / 2
  exact Int.fdiv_eq_ediv_of_nonneg _ (by decide)
 rw[h2,ky _ (by omega)]
theorem anN{x y:aj}(hx:0≤x.past∧x.past≤1000)(hy:0≤y.past∧y.past≤1000):dr zT 109 [.agg ⟨[zI x.past,zI x.w0,zI x.w1,zI x.w2,zI x.w3,zI x.gone,zI x.new,zI x.af]⟩,.agg ⟨[zI y.past,zI y.w0,zI y.w1,zI y.w2,zI y.w3,zI y.gone,zI y.new,zI y.af]⟩] ro (zI (x.past-y.past)):=by
 refine zE<|zD 2<|jn fun b2=>jn fun b3=>jd 8 [1,0]<|ja (x.past-y.past) (by omega)<|zD 3<|zX (zI (x.past-y.past)) ⟨rfl,rfl⟩
theorem aB0{v:Value}{xs:List aj}{L:Cells}{a b:Int}(ho:aw v 8 128 cQ xs L)(hN:xs.length≤100000)(hP:gq xs)(xG:0≤a∧a≤b∧b≤xs.length):dE zT 190 [v,zI a,zI b,.func (.func 109) ⟨[]⟩ ⟨[]⟩] ro L (fun r Y=>xe v xs Y):=by
 refine zC [.l L]<|zD 3<|ja (a+1) (by omega)<|zD 3<|dB [1,0,0] [] (fun(zz:Int×(List aj)×Cells)=>[(0,v),(1,zI a),(2,zI b),(3,.func (.func 109) ⟨[]⟩ ⟨[]⟩),(8,zI zz.1)]) (fun zz=>[.l zz.2.2]) (fun zz=>(a+1≤zz.1)∧aw v 8 128 cQ zz.2.1 zz.2.2∧zz.2.1.Perm xs) (fun zz=>(b-zz.1).toNat) (⟨(a+1),xs,L⟩) ⟨by dsimp only;omega,ho,.refl _⟩ [0] ?_
 rintro⟨i,ys,L⟩ hI K1 bF rest
 dsimp only at hI
 have Rn:=hI.2.2.length_eq
 have hyp:=hP.perm hI.2.2
 refine zD 7<|zJ 14 (i <b) (fun h1=>?_) fun h1=>?_
 ·
  refine zD 10<|dB [1,0,0,1,0,0,1,0,0] [K1] (fun(zz:Int×(List aj)×Cells)=>[(0,v),(1,zI a),(2,zI b),(3,.func (.func 109) ⟨[]⟩ ⟨[]⟩),(8,zI i),(9,zI zz.1)]) (fun zz=>[.l zz.2.2]) (fun zz=>(a≤zz.1∧zz.1≤i)∧aw v 8 128 cQ zz.2.1 zz.2.2∧zz.2.1.Perm xs) (fun zz=>(zz.1-a).toNat) (⟨i,ys,L⟩) ⟨by dsimp only;omega,hI.2⟩ [0] ?_
  rintro⟨j,ys,L⟩ hJ K2 kL rest
  dsimp only at hJ
  have Rn:=hJ.2.2.length_eq
  have hyp:=hP.perm hJ.2.2
  refine zD 7<|js 3 (decide (j>a)) (fun h2=>?_) (fun h2=>?_)
  ·
   have k7:=h2
   replace k7:=of_decide_eq_true k7
   refine zD 3 ?_
   obtain⟨xk,ju⟩:=zG ys (j.toNat) (by first|omega| (simp only[List.length_set];omega))
   refine mW j 8 hJ.2.1 ju (Int.toNat_of_nonneg (show 0≤j∧j <((ys).length:Int) from (by first|omega| (simp only[List.length_set];omega))).1).symm (fun nQ VP=>?_)
   refine kJ 0 [0] L (fun s _ hZ=>bn hJ.2.1 VP hZ ju)<|zD 2<|ja (j-1) (by omega) ?_
   obtain⟨ku,fO⟩:=zG ys ((j-1).toNat) (by first|omega| (simp only[List.length_set];omega))
   refine mW (j-1) 8 hJ.2.1 fO (Int.toNat_of_nonneg (show 0≤(j-1)∧(j-1) <((ys).length:Int) from (by first|omega| (simp only[List.length_set];omega))).1).symm (fun b30 NQ=>?_)
   refine kJ 0 [0] L (fun s _ hZ=>bn hJ.2.1 NQ hZ fO)<|aS 14 fun oh ov mZ=>jp (vs:=[.agg ⟨[zI xk.past,zI xk.w0,zI xk.w1,zI xk.w2,zI xk.w3,zI xk.gone,zI xk.new,zI xk.af]⟩,.agg ⟨[zI ku.past,zI ku.w0,zI ku.w1,zI ku.w2,zI ku.w3,zI ku.gone,zI ku.new,zI ku.af]⟩]) [] [] (fun aG hs hZ=>(anN (x:=xk) (y:=ku) (hyp _ (zL ju)) (hyp _ (zL fO))))<|eo mZ [0]<|zD 3<|zJ 34 ((xk.past-ku.past) <0) (fun h4=>?_) fun h4=>?_
   ·
    refine zD 9<|ja (j-1) (by omega)<|zD 2<|ja (j-1) (by omega) ?_
    obtain⟨tC,wB⟩:=zG ys ((j-1).toNat) (by first|omega| (simp only[List.length_set];omega))
    refine mW (j-1) 8 hJ.2.1 wB (Int.toNat_of_nonneg (show 0≤(j-1)∧(j-1) <((ys).length:Int) from (by first|omega| (simp only[List.length_set];omega))).1).symm (fun b45 VN=>?_)
    refine kJ 0 [0] L (fun s _ hZ=>bn hJ.2.1 VN hZ wB)<|zD 2 ?_
    obtain⟨Ee,wA⟩:=zG ys (j.toNat) (by first|omega| (simp only[List.length_set];omega))
    refine mW j 8 hJ.2.1 wA (Int.toNat_of_nonneg (show 0≤j∧j <((ys).length:Int) from (by first|omega| (simp only[List.length_set];omega))).1).symm (fun b49 VM=>?_)
    refine kJ 0 [0] L (fun s _ hZ=>bn hJ.2.1 VM hZ wA) ?_
    obtain⟨x51,y9⟩:=zG ys (j.toNat) (by first|omega| (simp only[List.length_set];omega))
    refine mW j 8 hJ.2.1 y9 (Int.toNat_of_nonneg (show 0≤j∧j <((ys).length:Int) from (by first|omega| (simp only[List.length_set];omega))).1).symm (fun b51 VL=>?_)
    refine aS 15 fun pX p6 oZ=>E8 0 0 [zI tC.past,zI tC.w0,zI tC.w1,zI tC.w2,zI tC.w3,zI tC.gone,zI tC.new,zI tC.af] tC hJ.2.1 VL y9 rfl rfl (Nat.le_of_ble_eq_true rfl) fun L6 Tx=>gx oZ [] ?_
    obtain⟨x52,sY⟩:=zG ((ys.set j.toNat tC)) ((j-1).toNat) (by first|omega| (simp only[List.length_set];omega))
    refine mW (j-1) 8 Tx sY (Int.toNat_of_nonneg (show 0≤(j-1)∧(j-1) <(((ys.set j.toNat tC)).length:Int) from (by first|omega| (simp only[List.length_set];omega))).1).symm (fun b52 VK=>?_)
    refine aS 17 fun yC yJ zm=>E8 0 0 [zI Ee.past,zI Ee.w0,zI Ee.w1,zI Ee.w2,zI Ee.w3,zI Ee.gone,zI Ee.new,zI Ee.af] Ee Tx VK sY rfl rfl (Nat.le_of_ble_eq_true rfl) fun L9 NI=>fU zm<|zD 3<|ja (j-1) (by omega)<|zD 2<|bE kL (⟨(j-1),((ys.set j.toNat tC).set ((j-1).toNat) Ee),L9⟩) ⟨by dsimp only;omega,NI,(lZ wA wB).trans hJ.2.2⟩ (by dsimp only;omega) [0] (Sub.refl _)
   refine zD 4<|ja (i+1) (by omega)<|zD 2<|bE bF (⟨(i+1),ys,L⟩) ⟨by dsimp only;omega,hJ.2⟩ (by dsimp only;omega) [0] (Sub.refl _)
  have k7:=h2
  replace k7:=of_decide_eq_false k7
  refine zD 18<|ja (i+1) (by omega)<|zD 2<|bE bF (⟨(i+1),ys,L⟩) ⟨by dsimp only;omega,hJ.2⟩ (by dsimp only;omega) [0] (Sub.refl _)
 refine zD 2<|zR (.tuple ⟨[]⟩) [] [0] L ⟨ys,hI.2.2,hI.2.1⟩
end Go.L
