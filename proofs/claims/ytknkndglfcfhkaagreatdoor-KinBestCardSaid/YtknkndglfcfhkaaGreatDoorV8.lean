/- Part 8 of the proof. -/
import Derived.Test.YtknkndglfcfhkaaGreatDoorV7
set_option maxRecDepth 100000
set_option linter.all false
namespace Go.L
open Go Go.Conc Go.Proofs
variable {ro:Nat→Option Obj} {rs:List bQ} {p:Nat→Int} {vl vc vh:Value} {K:aB} {b k f bC b1 b2 bl many bt br bg n bm b3 b4 j bf bo:Nat} {cs:List bO} {Stop:Cells→Prop} {x na nb:ByteArray} {hd:List cy} {l:List ByteArray} {y:aA} {T:TypeId} {xs:List Int}
def oP(rs:List bQ):List (ByteArray×ByteArray):=rs.flatMap fun r=>[(r.f,r.t),(r.t,r.f)]
abbrev eP2(x:ByteArray×ByteArray):List Value:=[.string x.1,.string x.2]
def jm(w:ByteArray)(ps:List (ByteArray×ByteArray)):List ByteArray:=ps.flatMap fun p=>Dw w p.1 p.2
def mZ(w:ByteArray)(rs:List bQ):List ByteArray:=jm w (oP rs)
theorem Lc:∀(rs:List bQ),(oP rs).length=2*rs.length
 | []=>rfl
 |r::rs=>by have:=Lc rs;simp only[oP,List.flatMap_cons,zM] at this ⊢;omega
theorem Qv:∀ {rs:List bQ} {k q:Nat} {r:bQ} {p:ByteArray×ByteArray},rs[k]?=some r→[(r.f,r.t),(r.t,r.f)][q]?=some p→(oP rs)[2*k+q]?=some p
 | [],_,_,_,_,h,_=>by simp at h
 |r::rs,0,q,_,p,h,h2=>by
  simp only[List.getElem?_cons_zero,Option.some.injEq] at h;subst h
  simp only[oP,List.flatMap_cons,Nat.mul_zero,Nat.zero_add]
  rw[List.getElem?_append_left (by have:=(List.getElem?_eq_some_iff.1 h2).1;exact this)];exact h2
 |r::rs,k+1,q,_,p,h,h2=>by
  have:=Qv (rs:=rs) (k:=k) (by simpa using h) h2
  simp only[oP,List.flatMap_cons]
  rw[List.getElem?_append_right (by simp;omega)]
  rw[show 2*(k+1)+q- [(r.f,r.t),(r.t,r.f)].length=2*k+q by simp;omega];exact this
theorem FU{w:ByteArray}{ps:List (ByteArray×ByteArray)}{p:ByteArray×ByteArray}(h:ps[k]?=some p):jm w (ps.take (k+1))=jm w (ps.take k)++Dw w p.1 p.2:=by
 rw[jm,dF h,List.flatMap_append];simp[jm]
theorem amx{w:ByteArray}{ps:List (ByteArray×ByteArray)}{p:ByteArray×ByteArray}(h:ps[k]?=some p) (hx:(Dw w p.1 p.2)[j]?=some x):(jm w (ps.take k)).length+j <(jm w ps).length∧(jm w ps)[(jm w (ps.take k)).length+j]?=some x:=by
 have e:jm w ps=jm w (ps.take (k+1))++jm w (ps.drop (k+1)):=by rw[jm,jm,jm,←List.flatMap_append,List.take_append_drop]
 have hj:=(List.getElem?_eq_some_iff.1 hx).1
 have:(jm w ps)[(jm w (ps.take k)).length+j]?=some x:=by
  rw[e,FU h,List.append_assoc,List.getElem?_append_right (by omega),List.getElem?_append_left (by omega),show (jm w (ps.take k)).length+j-(jm w (ps.take k)).length=j by omega]
  exact hx
 exact⟨(List.getElem?_eq_some_iff.1 this).1,this⟩
theorem ang{r:bQ}{p:ByteArray×ByteArray}{q:Nat}(h:rD r)(hp: [(r.f,r.t),(r.t,r.f)][q]?=some p):xP p.2∧(p.1.size≤100∧p.2.size≤100):=by
 have:=zL hp
 have h1:=h.f1;have h2:=h.t1
 simp only[List.mem_cons,List.not_mem_nil,or_false] at this
 rcases this with rfl|rfl
 ·exact⟨h.tl,by dsimp only;omega,by dsimp only;omega⟩
 exact⟨h.fl,by dsimp only;omega,by dsimp only;omega⟩
theorem aa6{w f t:ByteArray}:dO zT 272 [.string w,.string f,.string t] ro [] (fun r Y=>∃b3 b4 b5,r= .func (.func 289) ⟨[]⟩ ⟨[zP b3,zP b4,zP b5]⟩∧Y=[(b3,.cells ⟨[.string w]⟩ 299 (0,0)),(b4,.cells ⟨[.string f]⟩ 9 (0,0)),(b5,.cells ⟨[.string t]⟩ 9 (0,0))]):=by
 refine zE<|zD 2<|jn fun b3=>jn fun b4=>jn fun b5=>zD 8<|zR (.func (.func 289) ⟨[]⟩ ⟨[zP b3,zP b4,zP b5]⟩) [] [2,1,0] ((b3,.cells ⟨[.string w]⟩ 299 (0,0))::((b4,.cells ⟨[.string f]⟩ 9 (0,0))::[(b5,.cells ⟨[.string t]⟩ 9 (0,0))])) ⟨_,_,_,rfl,rfl⟩
theorem auP{w:ByteArray}(hl:bD ro vl 2 iF rs):dO zT 248 [.string w,vl] ro [] (fun r Y=>∃b2 b3,r= .func (.func 271) ⟨[]⟩ ⟨[zP b3,zP b2]⟩∧Y=[(b2,.cells ⟨[.string w]⟩ 299 (0,0)),(b3,.cells ⟨[vl]⟩ 36 (0,0))]):=by
 obtain⟨fA,rQ,rP,eP,rfl,tQ,lJ,mE⟩:=hl
 refine zE<|zD 2<|jn fun b2=>jn fun b3=>zD 8<|zR (.func (.func 271) ⟨[]⟩ ⟨[zP b3,zP b2]⟩) [] [1,0] ((b2,.cells ⟨[.string w]⟩ 299 (0,0))::[(b3,.cells ⟨[.slice fA rs.length eP]⟩ 36 (0,0))]) ⟨_,_,rfl,rfl⟩
theorem anx{w:ByteArray}(g1:ro b1=some (.cells ⟨[vl]⟩ 36 (0,0)))(hl:bD ro vl 2 iF rs)(hR:∀r∈rs,rD r)(g2:ro b2=some (.cells ⟨[.string w]⟩ 299 (0,0)))(hw:xP w)(hn:w.size≤100)(hq:rs.length≤100):ItX zT 271 [] [zP b1,zP b2] ro [] (mZ w rs).length (ase (mZ w rs)) (fun Z=>Z=[]):=by
 intro bl aI Inv Stop hs hy B hB
 replace g1:=hs _ _ g1
 replace g2:=hs _ _ g2
 replace hl:=hl.up hs
 obtain⟨fA,rQ,rP,eP,rfl,tQ,lJ,mE⟩:=hl
 refine aoc au [.l B] [] ba<|zD 2<|jn fun b3=>jf [0] [(b3,.cells ⟨[(.func (.yield bl) #[] #[])]⟩ 366 (0,0))] fun z0 bZ iQ=>zD 3<|jl (b:=b1) (off:=0) (m:=1) (vs:=[.slice fA rs.length eP]) 0 ⟨_,_,_,.inl (bZ _ _ g1),rfl⟩<|zD 4<|nY<|aEZ [1,1,0,0] [] (fun(zz:Nat×(List Nat)×Cells)=>[(2,zP b2),(3,zP b3),(9,.slice fA rs.length eP),(10,zI (rs.length:Int)),(11,zI (zz.1:Int))]) (fun zz=>[.l (mk zz.2.1),.l zz.2.2]) (fun zz=>(zz.2.1.map ee)) (fun zz=>zz.1≤rs.length∧Inv (jm w ((oP rs).take (2*zz.1))).length zz.2.2) (fun zz=>rs.length-zz.1) (⟨0,[],B⟩) ⟨by dsimp only;omega,hB⟩ [0,1] ?_
 rintro⟨k,uA,B⟩ hI K1 bH rest
 dsimp only at hI
 refine zD 5<|zJ 12 ((k:Int) <(rs.length:Int)) (fun h4=>?_) fun h4=>?_
 ·
  refine zD 6 ?_
  obtain⟨x13,aor⟩:=zG rs k
  refine ek eP 2 lJ aor<|jl 0 ((mE _ _ aor).ext (n5 bZ))<|jn fun b5=>jd 14 [0,0,0,0,0]<|jn fun n8=>zD 4<|aEZ [1,1,0,0,1,1,0,0,1,1,0,0] [K1] (fun(zz:Nat×(List Nat)×Cells)=>[(2,zP b2),(3,zP b3),(9,.slice fA rs.length eP),(10,zI (rs.length:Int)),(11,zI (k:Int)),(25,.slice (some ⟨n8,0,none⟩) 2 2),(26,zI 2),(27,zI (zz.1:Int))]) (fun zz=>[.l (mk zz.2.1),.l zz.2.2,.b n8 (.cells ⟨[.string x13.f,.string x13.t,.string x13.t,.string x13.f]⟩ 367 (0,0))]) (fun zz=>(zz.2.1.map ee)) (fun zz=>zz.1≤2∧Inv (jm w ((oP rs).take (2*k+zz.1))).length zz.2.2) (fun zz=>2-zz.1) (⟨0,uA,B⟩) ⟨by dsimp only;omega,hI.2⟩ [2,3,0] ?_
  rintro⟨q,uA,B⟩ hJ K2 mr rest
  dsimp only at hJ
  refine zD 5<|zJ 28 ((q:Int) <2) (fun h5=>?_) fun h5=>?_
  ·
   refine zD 6 ?_
   obtain⟨Ed,A0⟩:=zG ([(x13.f,x13.t),(x13.t,x13.f)]:List _) q (show q <2 from by omega)
   refine ek (a:=(some ⟨n8,0,none⟩)) (b:=n8) (off:=0) 2 2 (fun _ _=>rfl) A0<|pg (m:=2) 0 [2] [(n8,.cells ⟨([(x13.f,x13.t),(x13.t,x13.f)].map eP2).flatten⟩ 367 (0,0))] (fun s _ hZ=>xo (hZ _ (.head _)) (by intro p hp;rfl) A0) ?_
   refine jn fun b7=>jd 3 [0] ?_
   have hpx:=Qv aor A0
   have hpk:=ang (hR _ (zL aor)) A0
   refine zD 1<|jl (b:=b2) (off:=0) (m:=1) (vs:=[.string w]) 0 ⟨_,_,_,.inl (bZ _ _ g2),rfl⟩<|jd 4 [0,0]<|jc (vs:=[.string w,.string Ed.1,.string Ed.2]) [] (aa6) ?_
   rintro _ _ ⟨aq5,aq4,aq3,rfl,rfl⟩
   refine jg 0 [.b aq5 (.cells ⟨[.string w]⟩ 299 (0,0)),.b aq4 (.cells ⟨[.string Ed.1]⟩ 9 (0,0)),.b aq3 (.cells ⟨[.string Ed.2]⟩ 9 (0,0))]<|jf [0,1,2] ((aq5,.cells ⟨[.string w]⟩ 299 (0,0))::((aq4,.cells ⟨[.string Ed.1]⟩ 9 (0,0))::[(aq3,.cells ⟨[.string Ed.2]⟩ 9 (0,0))])) fun ro8 y7 hk7=>zD 2<|jrf [] (anz (hk7 _ (.head _)) (hk7 _ (.tail _ (.head _))) (hk7 _ (.tail _ (.tail _ (.head _)))) hw hpk.1 ⟨hn,hpk.2⟩) (by rintro _ _ _ _ ⟨_,_,rfl,_⟩;rfl) (fun(zz:Cells)=>[.l zz]) (fun kk=>(fun(zz:Cells)=>Inv ((jm w ((oP rs).take (2*k+q))).length+kk) zz)) (fun jump=>(fun(zz:Cells)=>jump= .ret∧Stop zz)) B (show Inv (_+0) _ from hJ.2) [2] ?_ ?_ ?_
   ·
    rintro bl9 bd9 kk9 vs9 LL9 B ro9 hk9 axq hL hs9
    obtain⟨x9,Rj,rfl,rfl⟩:=axq
    have hu:=amx hpx Rj
    refine zD 3<|jbg<|zD 3<|jl (b:=b3) (off:=0) (m:=1) (vs:=[(.func (.yield bl) #[] #[])]) 0 ⟨_,_,_,.inl (hs9 _ _ (y7 _ _ (iQ _ (.head _)))),rfl⟩<|zD 1<|jyc [1] (hy ((jm w ((oP rs).take (2*k+q))).length+kk9) _ [] B ro9 hu.1 ⟨_,hu.2,rfl,rfl⟩ hL ((bZ.trans y7).trans hs9)) (Sub.refl _) ?_
    intro v10 Y10 aPG
    obtain⟨c10,rfl,axR,axK⟩:=yb aPG
    refine zD 2<|js 41 (!c10) (fun h11=>?_) (fun h11=>?_)
    ·
     try simp only[zB] at h11
     refine zD 2<|jys qy0 (Sub.refl _) .ret Y10 ⟨rfl,axK (by simp_all)⟩ [1,0]
    try simp only[zB] at h11
    refine zD 2<|jyn qy0 (Sub.refl _) Y10 (axR (by simp_all)) [1,0]
   ·
    rintro bd9 B Z9 hL hZ9
    subst hZ9
    refine zD 1<|ja ((q:Int)+1) (by omega)<|zD 2<|jnD mr (⟨q+1,(bd9::uA),B⟩) ⟨by dsimp only;omega,by dsimp only;rw[←Nat.add_assoc,FU hpx,List.length_append];exact hL⟩ (by dsimp only;omega) [[0,4],[2],[5]] y7
   rintro bd9 B Z9 jump hS hZ9
   obtain⟨rfl,hS⟩:=hS
   subst hZ9
   exact jrM qm0.a.w.w.a.m (.tuple ⟨[]⟩) [0,4] [] [1] B (bZ.trans y7) ⟨[],B,rfl,rfl,.inr hS⟩
  refine zD 3<|ja ((k:Int)+1) (by omega)<|zD 2<|jnD bH (⟨k+1,uA,B⟩) ⟨by dsimp only;omega,by have:=hJ.2;dsimp only;rwa[show 2*(k+1)=2*k+q by omega]⟩ (by dsimp only;omega) [[0],[1]] (Sub.refl _)
 refine zD 2<|jrM qm0.a.w (.tuple ⟨[]⟩) [0] [] [0] B bZ ⟨[],B,rfl,rfl,.inl (by have:=hI.2;rwa[show k=rs.length by omega,List.take_of_length_le (by rw[Lc];exact Nat.le_refl _)] at this)⟩
instance:LawfulBEq ByteArray where
 eq_of_beq:=fun h=>by rw[OJ] at h;exact of_decide_eq_true h
 rfl:=fun {a}=>by rw[OJ];exact decide_eq_true rfl
def dd(l:List ByteArray):List ByteArray:=l.foldl (fun a x=>if x∈a then a else a++[x]) []
theorem Fz(l:List ByteArray)(x:ByteArray):dd (l++[x])=if x∈dd l then dd l else dd l++[x]:=by rw[dd,List.foldl_append];rfl
theorem ayV(a:List ByteArray):∀b:List ByteArray,∃r,dd (a++b)=dd a++r:=by
 intro b
 induction b generalizing a with
 |nil=>exact⟨[],by simp⟩
 |cons x b ih=>
  obtain⟨r,hr⟩:=ih (a++[x])
  rw[show a++x::b=(a++[x])++b by simp,hr,Fz]
  split
  ·exact⟨r,rfl⟩
  exact⟨x::r,by simp⟩
abbrev kvS:ByteArray→Value:=fun a=> .string a
def mF(m:List ByteArray):List (ByteArray×Value):=m.map fun x=>(x,.bool true)
theorem Wb(k:ByteArray):∀(m:List ByteArray) (i:Nat),(sB k (mF m) i).map (·.2)=if k∈m then some (.bool true) else none
 | [],_=>rfl
 |x::m,i=>by
  simp only[mF,List.map_cons,sB]
  by_cases h:k=x
  ·simp[h]
  have:=Wb k m (i+1)
  simp only[mF] at this
  simp[h,this]
theorem aEv{k:ByteArray}{m:List ByteArray}:Q1 (.bool false) false k (mF m)= .bool (decide (k∈m)):=by
 simp only[Q1,lkM,Wb]
 by_cases h:k∈m<;>simp[h]
theorem atk{k:ByteArray}{m:List ByteArray}(h:decide (k∈m)=false):mg k (.bool true) (mF m)=mF (m++[k]):=by
 have h:=of_decide_eq_false h
 have:=Wb k m 0
 rw[if_neg h] at this
 simp only[mg]
 cases hf:sB k (mF m) 0 with
 |none=>simp[mF]
 |some x=>rw[hf] at this;cases this
theorem akk(hx:l[k]?=some x) (h:decide (x∈dd (l.take k))=true):dd (l.take (k+1))=dd (l.take k):=by
 rw[dF hx,Fz,if_pos (of_decide_eq_true h)]
theorem Wt(hx:l[k]?=some x) (h:decide (x∈dd (l.take k))=false):dd (l.take (k+1))=dd (l.take k)++[x]:=by
 rw[dF hx,Fz,if_neg (of_decide_eq_false h)]
theorem ayW(hx:l[k]?=some x) (h:decide (x∈dd (l.take k))=false):∃r,dd l=dd (l.take k)++[x]++r:=by
 obtain⟨r,hr⟩:=ayV (l.take (k+1)) (l.drop (k+1))
 rw[List.take_append_drop,Wt hx h] at hr
 exact⟨r,hr⟩
def D6(rs:List bQ)(to:ByteArray):Nat→ByteArray→List ByteArray→List (List ByteArray)
 |0,w,b=>if cT w to=true then [b++[w]] else []
 |n+1,w,b=>(dd (mZ w rs)).flatMap fun s=>D6 rs to n s (b++[w])
theorem OC{to:ByteArray}:∀ {n:Nat} {w:ByteArray} {b x:List ByteArray},x∈D6 rs to n w b→x.length=b.length+n+1
 |0,w,b,x,h=>by
  simp only[D6] at h
  split at h
  ·rw[List.mem_singleton] at h;subst h;simp
  cases h
 |n+1,w,b,x,h=>by
  simp only[D6,List.mem_flatMap] at h
  obtain⟨s,_,h2⟩:=h
  have:=OC h2
  simp at this;omega
theorem amw{w:ByteArray}(hR:∀r∈rs,rD r)(hw:xP w)(h:x∈mZ w rs):xP x∧x.size≤12:=by
 simp only[mZ,jm,oP,List.mem_flatMap,Dw,u3,List.mem_filterMap,List.mem_range] at h
 obtain⟨p,⟨r,hr,hp⟩,i,_,hi⟩:=h
 have ht:xP p.2:=by
  simp only[List.mem_cons,List.not_mem_nil,or_false] at hp
  rcases hp with rfl|rfl
  ·exact(hR r hr).tl
  exact(hR r hr).fl
 simp only[p8] at hi
 split at hi
 ·rename_i hc
  cases hi
  exact⟨KD hw ht,hc.2.2⟩
 cases hi
abbrev apq(L:List (List ByteArray)):(Nat→Option Obj)→Nat→List Value→Cells→Prop:=fun _ k vs LL=>∃x v,L[k]?=some x∧vs=[v]∧ax v 1 9 pK x LL
structure alg(ro:Nat→Option Obj)(bl:Nat)(rs:List bQ)(to:ByteArray)(many bm bt bC br bg:Nat)(vl:Value):Prop where
 m:ro bm=some (.cells ⟨[zI (many:Int)]⟩ 3 (0,0))
 t:ro bt=some (.cells ⟨[.string to]⟩ 299 (0,0))
 y:ro bC=some (.cells ⟨[.func (.yield bl) #[] #[]]⟩ 333 (0,0))
 r:ro br=some (.cells ⟨[vl]⟩ 36 (0,0))
 g:ro bg=some (.cells ⟨[.func (.func 246) ⟨[]⟩ ⟨[zP bm,zP bt,zP bC,zP br,zP bg]⟩]⟩ 334 (0,0))
 l:bD ro vl 2 iF rs
theorem alg.up{aG:Nat→Option Obj}{to:ByteArray}(h:alg ro bl rs to many bm bt bC br bg vl)(hs:Sub ro aG):alg aG bl rs to many bm bt bC br bg vl:=
 ⟨hs _ _ h.m,hs _ _ h.t,hs _ _ h.y,hs _ _ h.r,hs _ _ h.g,h.l.up hs⟩
def asE(bl:Nat)(rs:List bQ)(to:ByteArray)(many bm bt bC br bg:Nat)(vl:Value)(L:List (List ByteArray))(Inv:Nat→Cells→Prop)(Stop:Cells→Prop)(n:Nat):Prop:=
 ∀(ro:Nat→Option Obj) (w:ByteArray) (b:List ByteArray) (v:Value) (p:Nat) (B:Cells),alg ro bl rs to many bm bt bC br bg vl→bD ro v 1 pK b→b.length+n=many→xP w→w.size≤100→Part L p (D6 rs to n w b)→Inv p B→YOK zT bl ro L.length (apq L) Inv Stop→
  dO zT 246 [.string w,v,zP bm,zP bt,zP bC,zP br,zP bg] ro B (fun r Y=>∃c,r= .bool c∧(c=true→Inv (p+(D6 rs to n w b).length) Y)∧(c=false→Stop Y))
theorem auR{w:ByteArray}{b:List ByteArray}{v:Value}{p:Nat}{B:Cells}{to:ByteArray}{L:List (List ByteArray)}{Inv:Nat→Cells→Prop}(ih:∀m,m <n→asE bl rs to many bm bt bC br bg vl L Inv Stop m)(hR:∀r∈rs,rD r)(hq:rs.length≤100)(YN:many≤100)(R5:alg ro bl rs to many bm bt bC br bg vl)(hb:bD ro v 1 pK b)(hbn:b.length+n=many)(hw:xP w)(rY:w.size≤100)(hP:Part L p (D6 rs to n w b))(hB:Inv p B)(hy:YOK zT bl ro L.length (apq L) Inv Stop):dO zT 246 [.string w,v,zP bm,zP bt,zP bC,zP br,zP bg] ro B (fun r Y=>∃c,r= .bool c∧(c=true→Inv (p+(D6 rs to n w b).length) Y)∧(c=false→Stop Y)):=by
 obtain⟨gm,gt,gy,gl,gg,hl⟩:=id R5
 obtain⟨fA,rQ,rP,eP,rfl,tQ,lJ,mE⟩:=hl
 obtain⟨aCV,aNx,aNt,aCU,rfl,aNv,aNw,aNu⟩:=hb
 refine aoc au [.l B] [] ba<|zD 2<|jn fun b9=>zD 4<|jc (vs:=[.slice aCV b.length aCU]) [] (atK (show bD _ _ _ _ _ from ⟨aCV,aNx,aNt,aCU,rfl,aNv,aNw,aNu⟩) (by first|omega| (simp only[List.length_set,zM];omega))) ?_
 rintro v14 L14 ⟨_,NY,rfl⟩
 refine zD 1<|jn fun b16=>iC (sz:=1) (ps:=b) (qs:=[w]) (enc:=pK) (w:= .slice (some ⟨b16,0,none⟩) 1 1) [1] [0] [(b16,.cells ⟨([w].map pK).flatten⟩ 9 (0,0))] (NY) (fun s _ hZ=>bK [w] (hZ _ (.head _)) (by intro p hp;rfl)) (fun p _=>aj rfl) (by simp only[List.length_cons,List.length_nil];omega) (fun v17 L17 Vn=>?_)
 obtain⟨xT,xS,J3⟩:=Vn.form
 subst J3
 refine jn fun sC=>jd 7 [0,0]<|jl (b:=bm) (off:=0) (m:=1) (vs:=[zI (many:Int)]) 0 ⟨_,_,_,.inl gm,rfl⟩<|zD 2<|zJ 21 (((b++[w]).length:Int)>(many:Int)) (fun h1=>?_) fun h1=>?_
 ·
  refine zD 2 ?_
  obtain rfl:n=0:=by simp only[zM] at*;omega
  refine zD 2<|jl (b:=bt) (off:=0) (m:=1) (vs:=[.string to]) 0 ⟨_,_,_,.inl gt,rfl⟩<|zD 2<|js 25 (!(cT w to)) (fun h2=>?_) (fun h2=>?_)
  ·
   have mv:=h2
   try simp only[zB] at mv
   refine jd 7 [3]<|jrM qm0 (.bool true) [] [3] [4] B (Sub.refl _) ⟨_,rfl,(fun _=>by rw[show D6 rs to 0 w b=[] from if_neg (by simp_all)];exact hB),nofun⟩
  have mv:=h2
  try simp only[zB] at mv
  have aim:D6 rs to 0 w b=[b++[w]]:=if_pos (by simp_all)
  have hel:=Part.get (i:=0) (x:=b++[w]) hP (by rw[aim];rfl)
  refine jl (b:=bC) (off:=0) (m:=1) (vs:=[(.func (.yield bl) #[] #[])]) 0 ⟨_,_,_,.inl gy,rfl⟩<|jd 1 [0]<|jyc [1,4] (hy p [(.slice xT ((b++[w])).length xS)] L17 B ro hel.1 ⟨_,_,hel.2,rfl,Vn⟩ hB (Sub.refl _)) (Sub.refl _) ?_
  intro v28 Y28 aPE
  obtain⟨c28,rfl,aSp,aSe⟩:=yb aPE
  refine jd 4 [3]<|jrM qm0 (.bool c28) [] [3] [0] Y28 (Sub.refl _) ⟨_,rfl,(fun h=>by rw[aim];exact aSp h),aSe⟩
 refine zD 3 ?_
 obtain⟨m,rfl⟩:∃m,n=m+1:=⟨n-1,by simp only[zM] at*;omega⟩
 refine zD 1<|jmk kvS fun r30 L30 aGd=>jn fun S2=>jd 5 [0]<|jf [2,0,3] ((sC,.cells ⟨[(.slice xT ((b++[w])).length xS)]⟩ 99 (0,0))::((S2,.cells ⟨[(.map (some r30))]⟩ 336 (0,0))::L17)) (fun ro5 Jd hk4=>?_)
 have vu:=Vn.kg hk4.tail.tail
 replace R5:=R5.up Jd
 replace hy:=hy.up Jd
 refine zD 1<|jl (b:=br) (off:=0) (m:=1) (vs:=[.slice fA rs.length eP]) 0 ⟨_,_,_,.inl (Jd _ _ gl),rfl⟩<|jc (vs:=[.string w,.slice fA rs.length eP]) [] (auP ((show bD _ _ _ _ _ from ⟨fA,rQ,rP,eP,rfl,tQ,lJ,mE⟩).up Jd)) ?_
 rintro _ _ ⟨aq7,aq6,rfl,rfl⟩
 refine jg 0 [.b aq7 (.cells ⟨[.string w]⟩ 299 (0,0)),.b aq6 (.cells ⟨[.slice fA rs.length eP]⟩ 36 (0,0))]<|jf [0,1] ((aq7,.cells ⟨[.string w]⟩ 299 (0,0))::[(aq6,.cells ⟨[.slice fA rs.length eP]⟩ 36 (0,0))]) fun ro8 y7 hk7=>zD 2<|jrf [] (anx (hk7 _ (.tail _ (.head _))) (R5.l.up y7) hR (hk7 _ (.head _)) hw rY hq) (by rintro _ _ _ _ ⟨_,_,rfl,_⟩;rfl) (fun(zz:Bool×Cells×Cells)=>[.b b9 (.cells ⟨[.bool zz.1]⟩ 4 (0,0)),.l zz.2.1,.l zz.2.2]) (fun kk=>(fun(zz:Bool×Cells×Cells)=>Inv (p+((dd ((mZ w rs).take kk)).flatMap fun s=>D6 rs to m s (b++[w])).length) zz.2.2∧jQ r30 kvS (mF (dd ((mZ w rs).take kk))) zz.2.1)) (fun jump=>(fun(zz:Bool×Cells×Cells)=>jump= .ret∧(zz.1=false∧Stop zz.2.2))) (⟨false,L30,B⟩) ⟨hB,aGd⟩ [2,0,3] ?_ ?_ ?_
 ·
  rintro bl9 bd9 kk9 vs9 LL9 ⟨rv,Lm,B⟩ ro9 hk9 axq hL hs9
  obtain⟨x9,Rj,rfl,rfl⟩:=axq
  have hue:=amw hR hw (zL Rj)
  refine zD 3<|jbg<|zD 4<|jl (b:=S2) (off:=0) (m:=1) (vs:=[(.map (some r30))]) 0 ⟨_,_,_,.inl (hs9 _ _ (y7 _ _ (hk4 _ (.tail _ (.head _))))),rfl⟩<|zD 1<|jlu (kv:=kvS) (F:=(mF (dd ((mZ w rs).take kk9)))) (r:=r30) (K:=299) x9 (.bool false) false [2] Lm (Ym (T:=299) (by kernel_rfl)) (fun s _ hZ=>hL.2.has hZ)<|jw 37 (.bool (decide (x9∈(dd ((mZ w rs).take kk9))))) aEv<|zD 1<|js 37 (decide (x9∈(dd ((mZ w rs).take kk9)))) (fun Jo=>?_) (fun Jo=>?_)
  ·
   refine zD 2<|jyn qy0 (Sub.refl _) ⟨rv,Lm,B⟩ ⟨by rw[akk Rj (by assumption)];exact hL.1,by rw[akk Rj (by assumption)];exact hL.2⟩ (zN 0 4)
  have tj:decide (x9∈dd ((mZ w rs).take kk9))=false:=by assumption
  obtain⟨rr,hrr⟩:=ayW Rj tj
  have aFM:=Part.flat (G:=fun s=>D6 rs to m s (b++[w])) hP hrr
  refine zD 4<|jl (b:=S2) (off:=0) (m:=1) (vs:=[(.map (some r30))]) 0 ⟨_,_,_,.inl (hs9 _ _ (y7 _ _ (hk4 _ (.tail _ (.head _))))),rfl⟩<|zD 1<|jmu (kv:=kvS) (F:=(mF (dd ((mZ w rs).take kk9)))) (r:=r30) (K:=299) 2 x9 (.bool true) (Ym (T:=299) (by kernel_rfl)) hL.2 fun aJs ah2=>zD 3<|jl (b:=bg) (off:=0) (m:=1) (vs:=[.func (.func 246) ⟨[]⟩ ⟨[zP bm,zP bt,zP bC,zP br,zP bg]⟩]) 0 ⟨_,_,_,.inl (hs9 _ _ (y7 _ _ (Jd _ _ gg))),rfl⟩<|zD 1<|jl (b:=sC) (off:=0) (m:=1) (vs:=[(.slice xT ((b++[w])).length xS)]) 0 ⟨_,_,_,.inl (hs9 _ _ (y7 _ _ (hk4 _ (.head _)))),rfl⟩<|jc (vs:=[.string x9,(.slice xT ((b++[w])).length xS),zP bm,zP bt,zP bC,zP br,zP bg]) [3] (ih m (by omega) _ _ _ _ (p+((dd ((mZ w rs).take kk9)).flatMap fun s=>D6 rs to m s (b++[w])).length) _ (R5.up (y7.trans hs9)) (vu.up (y7.trans hs9)) (by simp only[zM];omega) hue.1 (by omega) aFM hL.1 (hy.up (y7.trans hs9))) ?_
  rintro _ Y43 ⟨c43,rfl,aSm,aSb⟩
  refine zD 2<|js 44 (!c43) (fun BQ=>?_) (fun BQ=>?_)
  ·
   try simp only[zB] at BQ
   refine jd 6 [3]<|jys qy0 (Sub.refl _) .ret ⟨false,aJs,Y43⟩ ⟨rfl,rfl,aSb (by simp_all)⟩ [2,3,1,0]
  try simp only[zB] at BQ
  refine zD 2<|jyn qy0 (Sub.refl _) ⟨rv,aJs,Y43⟩ ⟨by rw[Wt Rj tj,List.flatMap_append,List.length_append,←Nat.add_assoc];have:=aSm (by simp_all);simpa using this,by rw[Wt Rj tj,←atk tj];exact ah2⟩ [2,3,1,0]
 ·
  rintro bd9 ⟨rv,Lm,B⟩ Z9 hL hZ9
  subst hZ9
  refine jd 5 [2]<|jrM qm0.a.a.m (.bool true) [0] [1] [3] B (Jd.trans y7) ⟨_,rfl,(fun _=>by have:=hL.1;rwa[List.take_of_length_le (Nat.le_refl _)] at this),nofun⟩
 rintro bd9 ⟨rv,Lm,B⟩ Z9 jump hS hZ9
 obtain⟨rfl,hS⟩:=hS
 obtain⟨rfl,hS⟩:=hS
 subst hZ9
 exact jrM qm0.a.a.m (.bool false) [0] [1] [3] B (Jd.trans y7) ⟨_,rfl,nofun,fun _=>hS⟩
theorem aEo{to:ByteArray}{L:List (List ByteArray)}{Inv:Nat→Cells→Prop}(hR:∀r∈rs,rD r)(hq:rs.length≤100)(YN:many≤100):∀n,asE bl rs to many bm bt bC br bg vl L Inv Stop n:=by
 intro n
 induction n using Nat.strongRecOn with
 |_ n ih=>exact fun ro w b v p B hc hb hbn hw rY hP hB hy=>auR ih hR hq YN hc hb hbn hw rY hP hB hy
theorem aa7{w to:ByteArray}(g1:ro b1=some (.cells ⟨[zI (many:Int)]⟩ 3 (0,0)))(g2:ro b2=some (.cells ⟨[.string to]⟩ 299 (0,0)))(g3:ro b3=some (.cells ⟨[vl]⟩ 36 (0,0)))(g4:ro b4=some (.cells ⟨[.string w]⟩ 299 (0,0)))(hl:bD ro vl 2 iF rs)(hR:∀r∈rs,rD r)(hw:xP w)(rY:w.size≤100)(hq:rs.length≤100)(YN:many≤100):ItX zT 245 [] [zP b1,zP b2,zP b3,zP b4] ro [] (D6 rs to many w []).length (apq (D6 rs to many w [])) (fun Z=>Z=[]):=by
 intro bl aI Inv Stop hs hy B hB
 replace g1:=hs _ _ g1
 replace g2:=hs _ _ g2
 replace g3:=hs _ _ g3
 replace g4:=hs _ _ g4
 replace hl:=hl.up hs
 have hlr:=hl
 obtain⟨fA,rQ,rP,eP,rfl,tQ,lJ,mE⟩:=hl
 refine zC [.l B]<|zD 2<|jn fun b5=>zD 3<|jn fun b6=>jd 8 [0,0]<|jl (b:=b4) (off:=0) (m:=1) (vs:=[.string w]) 0 ⟨_,_,_,.inl g4,rfl⟩<|jf [1,0] ((b5,.cells ⟨[(.func (.yield bl) #[] #[])]⟩ 333 (0,0))::[(b6,.cells ⟨[.func (.func 246) ⟨[]⟩ ⟨[zP b1,zP b2,zP b5,zP b3,zP b6]⟩]⟩ 334 (0,0))]) fun z0 bZ iQ=>jc (vs:=[.string w,zS,zP b1,zP b2,zP b5,zP b3,zP b6]) [0] (aEo hR hq YN many _ _ _ _ 0 _ ⟨bZ _ _ g1,bZ _ _ g2,iQ _ (.head _),bZ _ _ g3,iQ _ (.tail _ (.head _)),hlr.up bZ⟩ (bD.nil _ _ _ _ _) (by simp) hw rY ⟨[],[],by simp,rfl⟩ hB (YOK.up hy bZ)) ?_
 rintro _ Y10 ⟨c10,rfl,axR,axK⟩
 refine zD 1<|aL q0.a (.tuple ⟨[]⟩) [] [0] Y10 bZ ⟨_,_,rfl,rfl,[],Y10,rfl,rfl,by cases c10 with|true=>exact .inl (by simpa using axR rfl)|false=>exact .inr (axK rfl)⟩
theorem afS{w to:ByteArray}{many:Int}(hl:bD ro vl 2 iF rs):dO zT 227 [.string w,vl,.string to,zI many] ro [] (fun r Y=>∃b4 b5 b6 b7,r= .func (.func 245) ⟨[]⟩ ⟨[zP b7,zP b6,zP b5,zP b4]⟩∧Y=[(b4,.cells ⟨[.string w]⟩ 299 (0,0)),(b5,.cells ⟨[vl]⟩ 36 (0,0)),(b6,.cells ⟨[.string to]⟩ 299 (0,0)),(b7,.cells ⟨[zI many]⟩ 3 (0,0))]):=by
 obtain⟨fA,rQ,rP,eP,rfl,tQ,lJ,mE⟩:=hl
 refine zE<|zD 2<|jn fun b4=>jn fun b5=>jn fun b6=>jn fun b7=>zD 8<|zR (.func (.func 245) ⟨[]⟩ ⟨[zP b7,zP b6,zP b5,zP b4]⟩) [] [3,2,1,0] ((b4,.cells ⟨[.string w]⟩ 299 (0,0))::((b5,.cells ⟨[.slice fA rs.length eP]⟩ 36 (0,0))::((b6,.cells ⟨[.string to]⟩ 299 (0,0))::[(b7,.cells ⟨[zI many]⟩ 3 (0,0))]))) ⟨_,_,_,_,rfl,rfl⟩
theorem auS{L:List (List ByteArray)}(hit:ItX zT 245 [] [zP b1,zP b2,zP b3,zP b4] ro [] L.length (apq L) (fun Z=>Z=[]))(hL:∀x∈L,x.length≤1000):dO zT 226 [.func (.func 245) ⟨[]⟩ ⟨[zP b1,zP b2,zP b3,zP b4]⟩,.func (.func 228) ⟨[]⟩ ⟨[]⟩] ro [] (fun r Y=>∃v,r= .tuple ⟨[v,.bool (decide (0 <L.length))]⟩∧∃ps,ax v 1 9 pK ps Y∧(0 <L.length→ps∈L)):=by
 refine aoc au [] [] ba<|zD 2<|jn fun b3=>zD 2<|jf [0] [(b3,.cells ⟨[.func (.func 228) ⟨[]⟩ ⟨[]⟩]⟩ 325 (0,0))] fun z0 bZ iQ=>zD 3<|jn fun b6=>zD 3<|jn fun b7=>jd 8 [0]<|nY<|jrf [] (hit.up bZ) (by rintro _ _ _ _ ⟨_,_,_,rfl,_⟩;rfl) (fun(zz:Value×(List ByteArray)×Cells×Bool)=>[.b b6 (.cells ⟨[zz.1]⟩ 99 (0,0)),.b b7 (.cells ⟨[.bool zz.2.2.2]⟩ 4 (0,0)),.l zz.2.2.1]) (fun kk=>(fun(zz:Value×(List ByteArray)×Cells×Bool)=>ax zz.1 1 9 pK zz.2.1 zz.2.2.1∧zz.2.2.2=decide (0 <kk)∧(0 <kk→zz.2.1∈L)∧zz.2.1.length≤1000)) (fun jump=>(fun(zz:Value×(List ByteArray)×Cells×Bool)=>False)) (⟨zS,[],[],false⟩) ⟨ax.nil _ _ _,rfl,nofun,by simp⟩ [2,1,0] ?_ ?_ ?_
 ·
  rintro bl4 bd4 kk4 vs4 LL4 ⟨v,ps,Lb,sm⟩ ro4 hk4 axr hI ki
  obtain⟨x4,v4,hx4,rfl,ho4⟩:=axr
  have hxl:=hL _ (zL hx4)
  have Rx:=hI.2.2.2
  refine zD 3<|jbg<|jd 6 [2]<|js 13 (!sm) (fun h5=>?_) (fun h5=>?_)
  ·
   have EO:=h5
   try simp only[zB] at EO
   refine zD 10 ?_
   obtain⟨va6,vc6,he6⟩:=ho4.form
   subst he6
   refine jd 3 [1,2]<|jyn qy0 (Sub.refl _) ⟨(.slice va6 (x4).length vc6),x4,LL4,true⟩ ⟨ho4,rfl,fun _=>zL hx4,hxl⟩ [0,1,2,4]
  have EO:=h5
  try simp only[zB] at EO
  refine jl (b:=b3) (off:=0) (m:=1) (vs:=[.func (.func 228) ⟨[]⟩ ⟨[]⟩]) 0 ⟨_,_,_,.inl (ki _ _ (iQ _ (.head _))),rfl⟩<|jd 2 [1]<|jp (vs:=[v4,v]) [4,3] (LL4++Lb) (fun aI hs hZ=>aNc (ho4.kg hZ.left) (hI.1.kg hZ.right) (by first|omega| (simp only[List.length_set,zM];omega)) (by first|omega| (simp only[List.length_set,zM];omega))) ?_
  refine zD 3<|zJ 19 ((Oy x4 ps) <0) (fun h7=>?_) fun h7=>?_
  ·
   refine zD 3 ?_
   obtain⟨va8,vc8,he8⟩:=ho4.form
   subst he8
   refine jd 3 [1,2]<|jyn qy0 (Sub.refl _) ⟨(.slice va8 (x4).length vc8),x4,LL4,true⟩ ⟨ho4,rfl,fun _=>zL hx4,hxl⟩ [0,1,2,4]
  refine zD 2<|jyn qy0 (Sub.refl _) ⟨v,ps,Lb,sm⟩ ⟨hI.1,by have:=hI.2.1;simp_all,fun _=>hI.2.2.1 (by have:=hI.2.1;simp_all),Rx⟩ (zN 0 4)
 ·
  rintro bd4 ⟨v,ps,Lb,sm⟩ Z4 hI hZ4
  subst hZ4
  refine jd 8 [2,3]<|jrM qm0.a.m (.tuple ⟨[v,.bool sm]⟩) [0] [] [3] Lb bZ ⟨v,by rw[←hI.2.1],ps,hI.1,hI.2.2.1⟩
 rintro bd4 ⟨v,ps,Lb,sm⟩ Z4 jump hS hZ4
 exact hS.elim
abbrev eBy(x:Int):List Value:=[.int .u8 x]
theorem aIt:EF zT 294 (Extern.BytealgMakeNoZero.makeNoZero #[3] #[355]):=⟨Tryz.f294,Tryz.func294,by kernel_rfl,by kernel_rfl,by kernel_rfl,by kernel_rfl⟩
def atr:=(m8 Tryz.typeInfo355 Tryz.underlying355 rfl rfl rfl rfl rfl rfl:TF zT 355 _ 1 24 _ false)
theorem afl{l:List Value}:ax (.slice (some ⟨b,0,none⟩) 0 l.length) 1 T eBy ([]:List Int) [(b,.cells ⟨l⟩ T (0,0))]:= .inr ⟨b,l,l.length,rfl,rfl,by simp,by simp,by simp,by simp⟩
theorem ani{v:Value}{c:Int}{L:Cells}(h:ax v 1 T eBy [c] L):∃b l cap,cap≠0∧v= .slice (some ⟨b,0,none⟩) 1 cap∧L=[(b,.cells ⟨.int .u8 c::l⟩ T (0,0))]:=by
 rcases h with ⟨_,h,_⟩| ⟨b,l,cap,h1,h2,h3,h4,_,h6⟩
 ·cases h
 simp only[List.length_cons,List.length_nil] at h1 h4 h6
 cases l with
 |nil=>simp at h3;omega
 |cons x l=>
  simp at h6;subst h6
  exact⟨b,l,cap,by omega,h1,h2⟩
def ace(n:Int):ByteArray:=⟨#[n.toNat.toUInt8]⟩
theorem aIu:EF zT 293 Extern.AbiNoEscape.same:=⟨Tryz.f293,Tryz.func293,by kernel_rfl,by kernel_rfl,by kernel_rfl,by kernel_rfl⟩
theorem aIR{v:Value}:dO zT 282 [zP b] ro [(b,.cells ⟨[.pointer none,v]⟩ 357 (0,0))] (fun r Y=>Y=[(b,.cells ⟨[zP b,v]⟩ 357 (0,0))]):=by
 refine zC [.b b (.cells ⟨[.pointer none,v]⟩ 357 (0,0))]<|jd 12 [0]<|jmo [0] [0,0] [(b,.cells ⟨[.pointer none,v]⟩ 357 (0,0))] (zP b)<|jg 0 [.b b (.cells ⟨[.pointer none,v]⟩ 357 (0,0))]<|aPa (v:= zP b) aIu<|jmo [0] [0,0] [(b,.cells ⟨[.pointer none,v]⟩ 357 (0,0))] (zP b)<|jg 0 [.b b (.cells ⟨[.pointer none,v]⟩ 357 (0,0))]<|jd 4 [0]<|zR (.tuple ⟨[]⟩) [] [0] [(b,.cells ⟨[zP b,v]⟩ 357 (0,0))] rfl
theorem aIQ{v:Value}:dO zT 282 [zP b] ro [(b,.cells ⟨[zP b,v]⟩ 357 (0,0))] (fun r Y=>Y=[(b,.cells ⟨[zP b,v]⟩ 357 (0,0))]):=by
 refine zC [.b b (.cells ⟨[zP b,v]⟩ 357 (0,0))]<|jd 16 [0,0]<|jpn (b:=b)<|jg 0 []<|zD 3<|zR (.tuple ⟨[]⟩) [] [0] [(b,.cells ⟨[zP b,v]⟩ 357 (0,0))] rfl
theorem aIK:dO zT 283 [zP b,zI 1] ro [(b,.cells ⟨[zP b,zS]⟩ 357 (0,0))] (fun r Y=>∃v L,ax v 1 5 eBy ([]:List Int) L∧Y=(b,.cells ⟨[zP b,v]⟩ 357 (0,0))::L):=by
 refine zC [.b b (.cells ⟨[zP b,zS]⟩ 357 (0,0))]<|jd 6 [0]<|jcp (c:=0)<|jd 8 [0]<|aV 8 fun BU B0 Ah=>jnz (n:=1) aIt rfl atr (by omega) fun bb lz hlz=>jg 0 [.b bb (.cells ⟨lz⟩ 5 (0,0))]<|eH Ah [1]<|js0 (a:=⟨bb,0,none⟩) (l:=1) (c:=lz.length)<|jd 9 [1]<|jmo [] [] [] (zI 0)<|jg 0 []<|jd 8 [1]<|zR (.tuple ⟨[]⟩) [] [1,0] ((b,.cells ⟨[zP b,(.slice (some ⟨bb,0,none⟩) 0 lz.length)]⟩ 357 (0,0))::[(bb,.cells ⟨lz⟩ 5 (0,0))]) ⟨_,_,afl,rfl⟩
theorem aIP:dO zT 265 [zP b,zI 1] ro [(b,.cells ⟨[.pointer none,zS]⟩ 357 (0,0))] (fun r Y=>∃v L,ax v 1 5 eBy ([]:List Int) L∧Y=(b,.cells ⟨[zP b,v]⟩ 357 (0,0))::L):=by
 refine zC [.b b (.cells ⟨[.pointer none,zS]⟩ 357 (0,0))]<|zD 3<|jc (vs:=[zP b]) [0] (aIR (v:= zS)) ?_
 rintro _ _ rfl
 refine jg 0 [.b b (.cells ⟨[zP b,zS]⟩ 357 (0,0))]<|jd 15 [0]<|jcp (c:=0)<|jd 13 [0]<|jc (vs:=[zP b,zI 1]) [0] (aIK) ?_
 rintro _ _ ⟨v,L,hv,rfl⟩
 refine jg 0 [.b b (.cells ⟨[zP b,v]⟩ 357 (0,0)),.l L]<|zD 1<|zR (.tuple ⟨[]⟩) [] [0,1] ((b,.cells ⟨[zP b,v]⟩ 357 (0,0))::L) ⟨v,L,hv,rfl⟩
theorem aIS{v:Value}{L:Cells}{c:Int}(ho:ax v 1 5 eBy ([]:List Int) L):dO zT 267 [zP b,.int .u8 c] ro ((b,.cells ⟨[zP b,v]⟩ 357 (0,0))::L) (fun r Y=>∃v' L',ax v' 1 5 eBy [c] L'∧Y=(b,.cells ⟨[zP b,v']⟩ 357 (0,0))::L'):=by
 refine zC [.b b (.cells ⟨[zP b,v]⟩ 357 (0,0)),.l L]<|zD 7<|jc (vs:=[zP b]) [0] (aIQ (v:=v)) ?_
 rintro _ _ rfl
 refine jg 0 [.b b (.cells ⟨[zP b,v]⟩ 357 (0,0))]<|jd 9 [0]<|jn fun Ak=>iC (sz:=1) (ps:=[]) (qs:=[c]) (enc:=eBy) (w:= .slice (some ⟨Ak,0,none⟩) 1 1) [2] [0] [(Ak,.cells ⟨([c].map eBy).flatten⟩ 5 (0,0))] (ho) (fun s _ hZ=>bK [c] (hZ _ (.head _)) (by intro p hp;rfl)) (fun p _=>aj rfl) (by simp) (fun v14 L14 uo=>?_)
 rw[List.nil_append] at uo
 obtain⟨FT,Eh,u7⟩:=uo.form
 subst u7
 refine jd 9 [2]<|zR (.nilIface) [] [2,0] ((b,.cells ⟨[zP b,(.slice FT ([c]).length Eh)]⟩ 357 (0,0))::L14) ⟨_,_,uo,rfl⟩
theorem aUR{bb cap:Nat}{l:List Value}{c:Int}(oC:cap≠0):dO zT 268 [zP b] ro [(b,.cells ⟨[zP b,.slice (some ⟨bb,0,none⟩) 1 cap]⟩ 357 (0,0)),(bb,.cells ⟨.int .u8 c::l⟩ 5 (0,0))] (fun r Y=>r= .string (ace c)):=by
 refine zC [.b b (.cells ⟨[zP b,.slice (some ⟨bb,0,none⟩) 1 cap]⟩ 357 (0,0)),.b bb (.cells ⟨.int .u8 c::l⟩ 5 (0,0))]<|jd 15 [0,0]<|aV 4 fun BU B0 Ah=>jsd (a:=⟨bb,0,none⟩) (l:=1) oC<|jg 0 []<|eH Ah [0,1]<|aV 10 fun yA yI x6=>jus (b:=bb) (E:=5) [1] c l fun L9=>gM x6 [[1]]<|zD 3<|zX (.string (ace c)) rfl
def tW(u:UInt8):ByteArray:=⟨#[u]⟩
theorem apn{u:UInt8}(h:u.toNat <128):Value.string (Utf8.encode (u.toNat:Int))= .string (tW u):=by
 have hv:Utf8.valid (u.toNat:Int)=true:=by simp only[Utf8.valid];simp;omega
 simp only[Utf8.encode,hv,if_true,Int.toNat_natCast,if_pos (show u.toNat <0x80 from h),tW]
 simp
theorem aH7{u:UInt8}(hu:(97≤u.toNat∧u.toNat≤122)):dv zT 244 [.string (tW u)] ro (.string (tW u)):=by
 have u6:(tW u).size=1:=rfl
 refine zE<|zD 15<|dP [1,1,0,1,0,0] [] (fun(zz:Nat×Bool)=>[(0,.string (tW u)),(2,.string (bs [])),(3,.bool true),(4,.bool zz.2),(5,zI (zz.1:Int))]) (fun zz=>[]) (fun zz=>(zz.1=0∧zz.2=false)∨(zz.1=1∧zz.2=false)) (fun zz=>1-zz.1) (⟨0,false⟩) (.inl ⟨rfl,rfl⟩) [] ?_
 rintro⟨i,q⟩ hI K1 bH rest
 dsimp only at hI
 refine zD 8<|zJ 14 ((i:Int) <((tW u).size:Int)) (fun h1=>?_) fun h1=>?_
 ·
  refine zD 5 ?_
  obtain⟨hi0,YF⟩:i=0∧q=false:=by rcases hI with h|h;exact h;omega
  refine jw 5 (zI 0) (show Value.int .i64 (i:Int)= zI 0 by rw[hi0];rfl) ?_
  refine jw 4 (.bool false) (show Value.bool q= .bool false by rw[YF])<|zD 12<|zJ 21 ((u.toNat:Int)≥128) (fun h2=>?_) fun h2=>?_
  ·
   exfalso;omega
  refine zD 8<|js 26 (decide (65≤(u.toNat:Int))) (fun h3=>?_) (fun h3=>?_)
  ·
   have wC:=h3
   replace wC:=of_decide_eq_true wC
   refine zD 11<|bI bH (⟨1,decide ((u.toNat:Int)≤90)⟩) (.inr ⟨rfl,decide_eq_false (by omega)⟩) (by dsimp only;omega) [] (Sub.refl _)
  have wC:=h3
  replace wC:=of_decide_eq_false wC
  exfalso;omega
 refine zD 4 ?_
 obtain⟨hi1,hq1⟩:i=1∧q=false:=by rcases hI with h|h;omega;exact h
 refine jw 4 (.bool false) (show Value.bool q= .bool false by rw[hq1])<|zD 17<|zX (.string (tW u)) ⟨rfl,rfl⟩
theorem aH6{u:UInt8}(hu:(65≤u.toNat∧u.toNat≤90)):dv zT 244 [.string (tW u)] ro (.string (ace (IntKind.u8.wrap ((u.toNat:Int)+32)))):=by
 have u6:(tW u).size=1:=rfl
 refine zE<|zD 15<|dP [1,1,0,1,0,0] [] (fun(zz:Nat×Bool)=>[(0,.string (tW u)),(2,.string (bs [])),(3,.bool true),(4,.bool zz.2),(5,zI (zz.1:Int))]) (fun zz=>[]) (fun zz=>(zz.1=0∧zz.2=false)∨(zz.1=1∧zz.2=true)) (fun zz=>1-zz.1) (⟨0,false⟩) (.inl ⟨rfl,rfl⟩) [] ?_
 rintro⟨i,q⟩ hI K1 bH rest
 dsimp only at hI
 refine zD 8<|zJ 14 ((i:Int) <((tW u).size:Int)) (fun h1=>?_) fun h1=>?_
 ·
  refine zD 5 ?_
  obtain⟨hi0,YF⟩:i=0∧q=false:=by rcases hI with h|h;exact h;omega
  refine jw 5 (zI 0) (show Value.int .i64 (i:Int)= zI 0 by rw[hi0];rfl) ?_
  refine jw 4 (.bool false) (show Value.bool q= .bool false by rw[YF])<|zD 12<|zJ 21 ((u.toNat:Int)≥128) (fun h2=>?_) fun h2=>?_
  ·
   exfalso;omega
  refine zD 8<|js 26 (decide (65≤(u.toNat:Int))) (fun h3=>?_) (fun h3=>?_)
  ·
   have wC:=h3
   replace wC:=of_decide_eq_true wC
   refine zD 11<|bI bH (⟨1,decide ((u.toNat:Int)≤90)⟩) (.inr ⟨rfl,decide_eq_true (by omega)⟩) (by dsimp only;omega) [] (Sub.refl _)
  have wC:=h3
  replace wC:=of_decide_eq_false wC
  exfalso;omega
 refine zD 4 ?_
 obtain⟨hi1,hq1⟩:i=1∧q=true:=by rcases hI with h|h;omega;exact h
 refine jw 4 (.bool true) (show Value.bool q= .bool true by rw[hq1])<|zD 14<|jn fun b7=>zD 9<|jc (vs:=[zP b7,zI 1]) [0] (aIP) ?_
 rintro _ _ ⟨v,L,hv,rfl⟩
 refine jg 0 [.b b7 (.cells ⟨[zP b7,v]⟩ 357 (0,0)),.l L]<|zD 7<|dP [1,1,1,0,1,0,1,1,1,1,0,1,0,0] [] (fun(zz:Nat×Int×Value×Cells×(List Int))=>[(0,.string (tW u)),(2,.string (bs [])),(7,zP b7),(8,zI zz.2.1),(9,zI (zz.1:Int))]) (fun zz=>[.b b7 (.cells ⟨[zP b7,zz.2.2.1]⟩ 357 (0,0)),.l zz.2.2.2.1]) (fun zz=>ax zz.2.2.1 1 5 eBy zz.2.2.2.2 zz.2.2.2.1∧((zz.1=0∧zz.2.1=0∧zz.2.2.2.2=[])∨(zz.1=1∧zz.2.1=1∧zz.2.2.2.2=[(IntKind.u8.wrap ((u.toNat:Int)+32))]))) (fun zz=>1-zz.1) (⟨0,0,v,L,[]⟩) ⟨hv,.inl ⟨rfl,rfl,rfl⟩⟩ [0,1] ?_
 rintro⟨j,p,v,L,xs⟩ hJ K2 mr rest
 dsimp only at hJ
 refine zD 8<|zJ 41 ((j:Int) <((tW u).size:Int)) (fun h4=>?_) fun h4=>?_
 ·
  refine zD 5 ?_
  obtain⟨hj0,hp0,Hn⟩:j=0∧p=0∧xs=[]:=by rcases hJ.2 with h|h;exact h;omega
  refine jw 9 (zI 0) (show Value.int .i64 (j:Int)= zI 0 by rw[hj0];rfl) ?_
  refine jw 8 (zI 0) (show Value.int .i64 p= zI 0 by rw[hp0])<|zD 11<|js 49 (decide (65≤(u.toNat:Int))) (fun h5=>?_) (fun h5=>?_)
  ·
   have EO:=h5
   replace EO:=of_decide_eq_true EO
   refine zD 4<|zJ 52 ((u.toNat:Int)≤90) (fun h6=>?_) fun h6=>?_
   ·
    refine zD 19<|jc (vs:=[zP b7,.int .u8 (IntKind.u8.wrap ((u.toNat:Int)+32))]) [0,1] (aIS (by have:=hJ.1;rwa[Hn] at this)) ?_
    rintro _ _ ⟨v2,L2,Je,rfl⟩
    refine jg 0 [.b b7 (.cells ⟨[zP b7,v2]⟩ 357 (0,0)),.l L2]<|zD 11<|bI mr (⟨1,1,v2,L2,[(IntKind.u8.wrap ((u.toNat:Int)+32))]⟩) ⟨Je,.inr ⟨rfl,rfl,rfl⟩⟩ (by dsimp only;omega) [0,1] (Sub.refl _)
   exfalso;omega
  have EO:=h5
  replace EO:=of_decide_eq_false EO
  exfalso;omega
 refine zD 4 ?_
 obtain⟨hj1,hp1,hx1⟩:j=1∧p=1∧xs=[(IntKind.u8.wrap ((u.toNat:Int)+32))]:=by rcases hJ.2 with h|h;omega;exact h
 refine jw 8 (zI 1) (show Value.int .i64 p= zI 1 by rw[hp1])<|zD 9 ?_
 obtain⟨bb,lz,cap,oC,rfl,rfl⟩:=ani (by have:=hJ.1;rwa[hx1] at this)
 refine zD 1<|jc (vs:=[zP b7]) [0,1] (aUR (bb:=bb) (l:=lz) (c:=(IntKind.u8.wrap ((u.toNat:Int)+32))) oC) ?_
 rintro _ Yz rfl
 refine zD 3<|zX (.string (ace (IntKind.u8.wrap ((u.toNat:Int)+32)))) ⟨rfl,rfl⟩
def agb(u:UInt8):ByteArray:=if u.toNat <97 then ace (IntKind.u8.wrap ((u.toNat:Int)+32)) else tW u
theorem aUd{u:UInt8}(h:G5 u=true∨GK u=true):dv zT 244 [.string (tW u)] ro (.string (agb u)):=by
 unfold agb
 rcases h with h|h
 ·simp only[G5,Bool.and_eq_true,Nat.ble_eq] at h
  rw[if_neg (by omega)]
  exact aH7 (by omega)
 simp only[GK,Bool.and_eq_true,Nat.ble_eq] at h
 rw[if_pos (by omega)]
 exact aH6 (by omega)
def uqN(rs:List bQ)(a to:ByteArray):Nat→Nat→Option Nat
 |0,_=>none
 |f+1,m=>bif decide (0 <(D6 rs to m a []).length) then some m else uqN rs a to f (m+1)
def uq(rs:List bQ)(a to:ByteArray):Option Nat:=uqN rs a to 3 0
def jD(c:UInt8):ByteArray:=if c.toNat=67 then bs [99,104] else if c.toNat=74 then bs [106,117] else if c.toNat=89 then bs [106,97] else if c.toNat=88 then bs [115,104] else if c.toNat <97 then bs [c.toNat+32] else bs [c.toNat]
def JQ:List UInt8→ByteArray→ByteArray
 | [],a=>a
 |c::l,a=>JQ l (a++jD c)
def keyOf(w:ByteArray):ByteArray:=JQ w.data.toList (bs [])
theorem anU{l:List UInt8}{c:UInt8}{a:ByteArray}(h:l[k]?=some c):JQ (l.drop k) a=JQ (l.drop (k+1)) (a++jD c):=by rw[fx h];rfl
theorem agw{l:List UInt8}{a:ByteArray}(h:l[k]?=none):JQ (l.drop k) a=a:=by rw[eA (by rw[List.getElem?_eq_none_iff] at h;omega)];rfl
def vw(rs:List bQ)(a b:ByteArray):Int:=match uq rs (keyOf a) (keyOf b) with
 |none=>2
 |some 0=>1
 |some _=>3
structure rE(w:ByteArray):Prop where
 n:1≤w.size∧w.size≤6
 s:Script w
def UR(c:UInt8):Prop:=G5 c=true∨GK c=true
theorem rE.let{w:ByteArray}(h:rE w):∀c∈w.data.toList,UR c:=fun c hc=>h.s.elim (fun k=> .inl (k c hc)) fun k=> .inr (k c hc)
theorem aal:((List.range 256).all fun n=> !(G5 (UInt8.ofNat n)||GK (UInt8.ofNat n))||(anL (jD (UInt8.ofNat n))&&(Nat.ble 1 (jD (UInt8.ofNat n)).size&&Nat.ble (jD (UInt8.ofNat n)).size 2)))=true:=by kernel_rfl
theorem P7{c:UInt8}(h:UR c):xP (jD c)∧1≤(jD c).size∧(jD c).size≤2:=by
 have h2:=List.all_eq_true.1 aal c.toNat (List.mem_range.2 c.toNat_lt)
 have hb:UInt8.ofNat c.toNat=c:=by simp
 rw[hb] at h2
 have h3:(G5 c||GK c)=true:=by rcases h with h|h<;>simp[h]
 rw[h3] at h2
 simp only[Bool.not_true,Bool.false_or,Bool.and_eq_true,Nat.ble_eq] at h2
 exact⟨G0 h2.1,h2.2⟩
theorem Yn:∀ {l:List UInt8} {a:ByteArray},(∀c∈l,UR c)→xP a→xP (JQ l a)∧(JQ l a).size≤a.size+2*l.length
 | [],a,_,ha=>⟨ha,by simp[JQ]⟩
 |c::l,a,h,ha=>by
  have h1:=P7 (h c (by simp))
  obtain⟨h2,h3⟩:=Yn (l:=l) (a:=a++jD c) (fun x hx=>h x (by simp[hx])) (ha.app h1.1)
  refine⟨h2,?_⟩
  simp only[JQ,ByteArray.size_append,List.length_cons] at h3 ⊢
  omega
theorem Q8{w:ByteArray}(h:rE w):xP (keyOf w)∧(keyOf w).size≤12:=by
 have h1:=Yn (l:=w.data.toList) (a:=bs []) h.let (fun b hb=>by cases hb)
 have h2:w.data.toList.length=w.size:=Array.length_toList
 have h3:=h.n
 exact⟨h1.1,by have:=h1.2;have e:(bs []).size=0:=rfl;unfold keyOf;omega⟩
theorem anK{c:UInt8}(h:UR c)(h1:¬(c.toNat:Int)=67)(h2:¬(c.toNat:Int)=74)(h3:¬(c.toNat:Int)=89)(h4:¬(c.toNat:Int)=88):agb c=jD c:=by
 simp only[agb,jD,if_neg (show ¬c.toNat=67 by omega),if_neg (show ¬c.toNat=74 by omega),if_neg (show ¬c.toNat=89 by omega),if_neg (show ¬c.toNat=88 by omega)]
 split
 ·simp only[ace,bs]
  rw[sE .u8 rfl _ (by omega) (by simp[IntKind.bits];omega),show ((c.toNat:Int)+32).toNat=c.toNat+32 by omega]
  rfl
 simp[tW,bs]
theorem let_128{c:UInt8}(h:UR c):c.toNat <128:=by
 rcases h with h|h
 ·simp only[G5,Bool.and_eq_true,Nat.ble_eq] at h;omega
 simp only[GK,Bool.and_eq_true,Nat.ble_eq] at h;omega
theorem auQ{c:UInt8}(h:UR c):dv zT 225 [.int .i32 (c.toNat:Int)] ro (.string (jD c)):=by
 refine zE<|zD 29<|zJ 5 ((c.toNat:Int)=67) (fun h1=>?_) fun h1=>?_
 ·
  refine zD 8<|zX (.string (bs [99,104])) ⟨by rw[jD,if_pos (by omega)]<;>rfl,rfl⟩
 refine zD 8<|zJ 7 ((c.toNat:Int)=74) (fun h2=>?_) fun h2=>?_
 ·
  refine zD 17<|jsa (a:=(bs [106])) (b:=(bs [117])) 9 (by decide)<|zD 3<|zX (.string ((bs [106])++(bs [117]))) ⟨by rw[jD,if_neg (by omega),if_pos (by omega)]<;>rfl,rfl⟩
 refine zD 8<|zJ 9 ((c.toNat:Int)=89) (fun h3=>?_) fun h3=>?_
 ·
  refine zD 16<|jsa (a:=(bs [106])) (b:=(bs [97])) 9 (by decide)<|zD 3<|zX (.string ((bs [106])++(bs [97]))) ⟨by rw[jD,if_neg (by omega),if_neg (by omega),if_pos (by omega)]<;>rfl,rfl⟩
 refine zD 7<|zJ 11 ((c.toNat:Int)=88) (fun h4=>?_) fun h4=>?_
 ·
  refine zD 8<|zX (.string (bs [115,104])) ⟨by rw[jD,if_neg (by omega),if_neg (by omega),if_neg (by omega),if_pos (by omega)]<;>rfl,rfl⟩
 refine zD 6<|je (.string (tW c)) (apn (let_128 h))<|jp (vs:=[.string (tW c)]) [] [] (fun aI hs hZ=>(aUd h))<|zD 3<|zX (.string (agb c)) ⟨by rw[anK h (by omega) (by omega) (by omega) (by omega)],rfl⟩
theorem anC{w to:ByteArray}(hl:bD ro vl 2 iF rs)(hR:∀r∈rs,rD r)(hw:xP w)(rY:w.size≤100)(hq:rs.length≤100):dO zT 206 [.string w,vl,.string to] ro [] (fun r Y=>(∃n v ps,uq rs w to=some n∧r= .tuple ⟨[v,.bool true]⟩∧ax v 1 9 pK ps Y∧ps.length=n+1)∨(uq rs w to=none∧r= .tuple ⟨[zS,.bool false]⟩∧Y=[])):=by
 obtain⟨fA,rQ,rP,eP,rfl,tQ,lJ,mE⟩:=hl
 refine zE<|zD 11<|dP [1,0,1,0,0] [] (fun(zz:Nat)=>[(0,.string w),(1,.slice fA rs.length eP),(2,.string to),(11,zI (zz:Int))]) (fun zz=>[]) (fun zz=>zz≤3∧uq rs w to=uqN rs w to (3-zz) zz) (fun zz=>3-zz) 0 ⟨by omega,rfl⟩ [] ?_
 rintro k hI K1 bH rest
 refine zD 5<|zJ 12 ((k:Int) <3) (fun h1=>?_) fun h1=>?_
 ·
  refine zD 15<|jc (vs:=[.string w,.slice fA rs.length eP,.string to,zI (k:Int)]) [] (afS (show bD _ _ _ _ _ from ⟨fA,rQ,rP,eP,rfl,tQ,lJ,mE⟩)) ?_
  rintro _ _ ⟨af9,af8,af7,af6,rfl,rfl⟩
  refine jg 0 [.b af9 (.cells ⟨[.string w]⟩ 299 (0,0)),.b af8 (.cells ⟨[.slice fA rs.length eP]⟩ 36 (0,0)),.b af7 (.cells ⟨[.string to]⟩ 299 (0,0)),.b af6 (.cells ⟨[zI (k:Int)]⟩ 3 (0,0))]<|jf (zN 0 4) ((af9,.cells ⟨[.string w]⟩ 299 (0,0))::((af8,.cells ⟨[.slice fA rs.length eP]⟩ 36 (0,0))::((af7,.cells ⟨[.string to]⟩ 299 (0,0))::[(af6,.cells ⟨[zI (k:Int)]⟩ 3 (0,0))]))) fun ro4 mw Pe=>jc (vs:=[.func (.func 245) ⟨[]⟩ ⟨[zP af6,zP af7,zP af8,zP af9]⟩,.func (.func 228) ⟨[]⟩ ⟨[]⟩]) [] (auS (aa7 (Pe _ (.tail _ (.tail _ (.tail _ (.head _))))) (Pe _ (.tail _ (.tail _ (.head _)))) (Pe _ (.tail _ (.head _))) (Pe _ (.head _)) ((show bD _ _ _ _ _ from ⟨fA,rQ,rP,eP,rfl,tQ,lJ,mE⟩).up mw) hR hw rY hq (by omega)) (fun x hx=>by have:=OC hx;simp at this;omega)) ?_
  rintro _ L20 ⟨v20,rfl,aOr,aQV,awU⟩
  refine zD 10<|js 23 (decide (0 <(D6 rs to k w []).length)) (fun h5=>?_) (fun h5=>?_)
  ·
   refine zD 8<|aL q0.a (.tuple ⟨[v20,.bool true]⟩) [] [0] L20 mw ⟨_,_,rfl,rfl,.inl ⟨k,v20,aOr,by rw[hI.2,show 3-k=(3-(k+1))+1 by omega,uqN,h5];rfl,rfl,aQV,by have:=OC (awU (of_decide_eq_true h5));simpa using this⟩⟩
  refine zD 3<|ja ((k:Int)+1) (by omega)<|zD 2<|bI bH (k+1) ⟨by omega,by rw[hI.2,show 3-k=(3-(k+1))+1 by omega,uqN,h5];rfl⟩ (by omega) [] mw
 refine zD 8<|zX (.tuple ⟨[zS,.bool false]⟩) (.inr ⟨by rw[hI.2,show 3-k=0 by omega];rfl,rfl,rfl⟩)
theorem au6{c:UInt8}(h:UR c):c.toNat <128:=by
 rcases h with h|h
 ·simp only[G5,Bool.and_eq_true,Nat.ble_eq] at h;omega
 simp only[GK,Bool.and_eq_true,Nat.ble_eq] at h;omega
theorem auT{w to:ByteArray}(hl:bD ro vl 2 iF rs)(hR:∀r∈rs,rD r)(hw:xP w)(rY:w.size≤100)(hq:rs.length≤100):dO zT 206 [.string w,vl,.string to] ro [] (fun r Y=>∃v ps ok,r= .tuple ⟨[v,.bool ok]⟩∧ax v 1 9 pK ps Y∧(ok=true→uq rs w to=some (ps.length-1)∧1≤ps.length)∧(ok=false→uq rs w to=none)):=by
 refine(anC hl hR hw rY hq).mono fun _ _ h=>?_
 rcases h with ⟨n,v,ps,h1,h2,h3,h4⟩| ⟨h1,h2,h3⟩
 ·exact⟨v,ps,true,h2,h3,fun _=>⟨by rw[h4];exact h1,by omega⟩,nofun⟩
 subst h3;exact⟨_,[],false,h2,ax.nil _ _ _,nofun,fun _=>h1⟩
def uN(rs:List bQ)(a b:ByteArray):Int:=match uq rs a b with
 |some n=>n
 |none=>0
def uE(rs:List bQ)(a b:ByteArray):Int:=match uq rs a b with
 |some _=>0
 |none=>11
theorem aqk{a to:ByteArray}:∀ {f m n:Nat},uqN rs a to f m=some n→n <m+f
 |0,_,_,h=>by cases h
 |f+1,m,n,h=>by
  simp only[uqN] at h
  cases hd:decide (0 <(D6 rs to m a []).length) with
  |true=>rw[hd] at h;simp only[cond_true,Option.some.injEq] at h;omega
  |false=>rw[hd] at h;simp only[cond_false] at h;have:=aqk h;omega
theorem nOf{w:ByteArray}(hw:rE w):dv zT 205 [.string w] ro (.string (keyOf w)):=by
 refine zE<|zD 12<|jn fun r7=>zD 2<|dP [1,1,0,1,0,0] [] (fun(zz:Nat×ByteArray)=>[(2,.string (bs [])),(3,.string zz.2),(7,zP r7)]) (fun zz=>[.b r7 (.stringIter w zz.1)]) (fun zz=>(zz.1≤w.data.toList.length∧zz.2.size≤2*zz.1)∧keyOf w=JQ (w.data.toList.drop zz.1) zz.2) (fun zz=>w.data.toList.length-zz.1) (⟨0,(bs [])⟩) ⟨⟨by omega,Nat.le_refl _⟩,rfl⟩ [0] ?_
 rintro⟨p,a⟩ hI K1 bH rest
 dsimp only at hI
 refine zD 2 ?_
 cases hn8:w.data.toList[p]? with
 |some x8=>
  refine jnA r7 0 hn8 (au6 (hw.let _ (zL hn8)))<|zD 11 ?_
  have hso:=P7 (hw.let _ (zL hn8))
  have hlen:w.data.toList.length=w.size:=Array.length_toList
  have hwn:=hw.n
  refine zD 3<|jp (vs:=[.int .i32 (x8.toNat:Int)]) [] [] (fun aI hs hZ=>(auQ (hw.let _ (zL hn8))))<|jsa (a:=a) (b:=(jD x8)) 9 (by omega)<|zD 2<|bI bH (⟨p+1,(a++jD x8)⟩) ⟨⟨by have:=(List.getElem?_eq_some_iff.1 hn8).1;dsimp only;omega,by dsimp only;rw[ByteArray.size_append];omega⟩,by rw[hI.2,anU hn8]⟩ (by have:=(List.getElem?_eq_some_iff.1 hn8).1;dsimp only;omega) [0] (Sub.refl _)
 |none=>
  refine jnZ r7 0 hn8<|zD 11<|zX (.string a) ⟨by rw[hI.2,agw hn8],rfl⟩
theorem anB(hl:bD ro vl 2 iF rs)(hR:∀r∈rs,rD r)(hq:rs.length≤4)(EJ:rE na)(BK:rE nb):dO zT 165 [vl,.string na,.string nb] ro [] (fun r Y=>∃v ps e,r= .tuple ⟨[v,zI e]⟩∧ax v 1 9 pK ps Y∧ps.length≤3∧((e=0∧uq rs (keyOf na) (keyOf nb)=some (ps.length-1)∧1≤ps.length)∨(e=11∧uq rs (keyOf na) (keyOf nb)=none))):=by
 obtain⟨fA,rQ,rP,eP,rfl,tQ,lJ,mE⟩:=hl
 refine zE<|zD 9<|jp (vs:=[.slice fA rs.length eP]) [] [] (fun aI hs hZ=>aa5 ((show bD _ _ _ _ _ from ⟨fA,rQ,rP,eP,rfl,tQ,lJ,mE⟩).up hs) (by omega) hR)<|zD 14<|jn fun IT=>jp (vs:=[.slice (some ⟨IT,0,none⟩) 2 2]) [0] [(IT,.cells ⟨([na,nb].map pK).flatten⟩ 9 (0,0))] (fun aI hs hZ=>afR (bU [na,nb] hZ.head (by intro p hp;rfl)) (by first|omega| (simp only[List.length_set,zM];omega)) (by intro x hx;simp only[List.mem_cons,List.not_mem_nil,or_false] at hx;rcases hx with rfl|rfl;exact⟨EJ.n,EJ.s⟩;exact⟨BK.n,BK.s⟩)) ?_
 refine zD 12<|jp (vs:=[.string na]) [] [] (fun aI hs hZ=>(nOf EJ))<|zD 2<|jp (vs:=[.string nb]) [] [] (fun aI hs hZ=>(nOf BK))<|jc (vs:=[.string (keyOf na),.slice fA rs.length eP,.string (keyOf nb)]) [] (auT (show bD _ _ _ _ _ from ⟨fA,rQ,rP,eP,rfl,tQ,lJ,mE⟩) hR (Q8 EJ).1 (by have:=(Q8 EJ).2;omega) (by omega)) ?_
 rintro _ L30 ⟨v30,aOq,aOA,rfl,CG,avM,aPt⟩
 refine zD 12<|js 34 (!aOA) (fun h1=>?_) (fun h1=>?_)
 ·
  try simp only[zB] at h1
  refine zD 7<|zX (.tuple ⟨[zS,zI 11]⟩) ⟨_,[],_,rfl,ax.nil _ _ _,by simp,.inr ⟨rfl,aPt (by simp_all)⟩⟩
 try simp only[zB] at h1
 refine zD 9<|zR (.tuple ⟨[v30,zI 0]⟩) [] [0] L30 ⟨_,aOq,_,rfl,CG,by have:=aqk (avM (by simp_all)).1;have:=(avM (by simp_all)).2;omega,.inl ⟨rfl,avM (by simp_all)⟩⟩
theorem aEm(hl:bD ro vl 2 iF rs)(hR:∀r∈rs,rD r)(hq:rs.length≤4)(EJ:rE na)(BK:rE nb):dv zT 122 [vl,.string na,.string nb] ro (.tuple ⟨[zI (uN rs (keyOf na) (keyOf nb)),zI (uE rs (keyOf na) (keyOf nb))]⟩):=by
 obtain⟨fA,rQ,rP,eP,rfl,tQ,lJ,mE⟩:=hl
 refine zE<|zD 10<|jc (vs:=[.slice fA rs.length eP,.string na,.string nb]) [] (anB (show bD _ _ _ _ _ from ⟨fA,rQ,rP,eP,rfl,tQ,lJ,mE⟩) hR hq EJ BK) ?_
 rintro _ L14 ⟨v14,aDW,Fy,rfl,NY,bd2,u7⟩
 refine zD 12<|js 18 (!decide (Fy=0)) (fun h1=>?_) (fun h1=>?_)
 ·
  replace h1:=of_decide_eq_false (by simpa using h1)
  refine zD 8<|zX (.tuple ⟨[zI 0,zI Fy]⟩) ⟨by rcases u7 with ⟨h1,h2,h3⟩| ⟨h1,h2⟩<;>simp only[uN,uE,h2]<;>(subst h1;simp_all<;>omega),rfl⟩
 replace h1:=of_decide_eq_true (by simpa using h1)
 refine zD 5<|DL NY<|ja ((aDW.length:Int)-1) (by omega)<|zD 4<|zX (.tuple ⟨[zI ((aDW.length:Int)-1),zI 0]⟩) ⟨by rcases u7 with ⟨h1,h2,h3⟩| ⟨h1,h2⟩<;>simp only[uN,uE,h2]<;>(subst h1;simp_all<;>omega),rfl⟩
theorem QP(hl:bD ro vl 2 iF rs)(hR:∀r∈rs,rD r)(hq:rs.length≤4)(EJ:rE na)(BK:rE nb):dv zT 97 [vl,.string na,.string nb] ro (.tuple ⟨[zI (vw rs na nb),zI 0]⟩):=by
 obtain⟨fA,rQ,rP,eP,rfl,tQ,lJ,mE⟩:=hl
 refine zE<|zD 10<|jp (vs:=[.slice fA rs.length eP,.string na,.string nb]) [] [] (fun aI hs hZ=>aEm ((show bD _ _ _ _ _ from ⟨fA,rQ,rP,eP,rfl,tQ,lJ,mE⟩).up hs) hR hq EJ BK)<|zD 14<|zJ 17 ((uE rs (keyOf na) (keyOf nb))=11) (fun h1=>?_) fun h1=>?_
 ·
  refine zD 7<|zX (.tuple ⟨[zI 2,zI 0]⟩) ⟨by simp only[uN,uE,vw] at*;rcases huq:uq rs (keyOf na) (keyOf nb) with _|_|n<;>simp_all<;>omega,rfl⟩
 refine zD 7<|js 20 (!decide ((uE rs (keyOf na) (keyOf nb))=0)) (fun h2=>?_) (fun h2=>?_)
 ·
  replace h2:=of_decide_eq_false (by simpa using h2)
  refine zD 8<|zX (.tuple ⟨[zI 0,zI (uE rs (keyOf na) (keyOf nb))]⟩) ⟨by simp only[uN,uE,vw] at*;rcases huq:uq rs (keyOf na) (keyOf nb) with _|_|n<;>simp_all<;>omega,rfl⟩
 replace h2:=of_decide_eq_true (by simpa using h2)
 refine zD 7<|zJ 24 ((uN rs (keyOf na) (keyOf nb))=0) (fun h3=>?_) fun h3=>?_
 ·
  refine zD 7<|zX (.tuple ⟨[zI 1,zI 0]⟩) ⟨by simp only[uN,uE,vw] at*;rcases huq:uq rs (keyOf na) (keyOf nb) with _|_|n<;>simp_all<;>omega,rfl⟩
 refine zD 8<|zX (.tuple ⟨[zI 3,zI 0]⟩) ⟨by simp only[uN,uE,vw] at*;rcases huq:uq rs (keyOf na) (keyOf nb) with _|_|n<;>simp_all<;>omega,rfl⟩
abbrev Ty(x:Int):List Value:=[.int .u8 x]
structure bE where
 c:Nat→Nat→Bool
abbrev Bo(x:bE):List Value:=[.bool (x.c 0 0),.bool (x.c 0 1),.bool (x.c 0 2),.bool (x.c 0 3),.bool (x.c 1 0),.bool (x.c 1 1),.bool (x.c 1 2),.bool (x.c 1 3),.bool (x.c 2 0),.bool (x.c 2 1),.bool (x.c 2 2),.bool (x.c 2 3),.bool (x.c 3 0),.bool (x.c 3 1),.bool (x.c 3 2),.bool (x.c 3 3)]
def mO(cs:List bO):Nat→List Int
 |0=>[]
 |k+1=>mO cs k++[match cs[k]? with
  |some c=>if 0≤c.under then LX .u8 (LX .u8 0 (dC .u8 1 k)) ((mO cs k)[c.under.toNat]?.getD 0) else LX .u8 0 (dC .u8 1 k)
  |none=>0]
theorem oI(cs:List bO):∀k,(mO cs k).length=k
 |0=>rfl
 |k+1=>by simp[mO,oI cs k]
theorem apB{c:bO}{y:Int}(h:cs[k]?=some c) (hu:0≤c.under) (hy:(mO cs k)[c.under.toNat]?=some y):mO cs (k+1)=mO cs k++[LX .u8 (LX .u8 0 (dC .u8 1 k)) y]:=by
 simp only[mO,h,if_pos hu,hy,Option.getD_some]
theorem apC{c:bO}(h:cs[k]?=some c) (hu:¬0≤c.under):mO cs (k+1)=mO cs k++[LX .u8 0 (dC .u8 1 k)]:=by
 simp only[mO,h,if_neg hu]
def aga(s:Int):Nat→Int
 |0=> -1
 |k+1=>bif hasB s k then k else aga s k
def G4(cs:List bO)(a b:Int):Int:=aga (U3 .u8 ((mO cs cs.length)[a.toNat]?.getD 0) ((mO cs cs.length)[b.toNat]?.getD 0)) cs.length
def Zv(hd:List cy)(h:Int):Int:=match hd[h.toNat]? with
 |some x=>x.cls
 |none=>0
def j7(K:aB)(x y:aA):Bool:=decide (vw K.rules x.name y.name=2)
def mP(K:aB)(x y:aA):Bool:=if (x.head <0∨y.head <0)∨x.head=y.head then false else decide (G4 K.cs (Zv K.hd x.head) (Zv K.hd y.head) <0)
def xV(on:Int)(a b:Int):List cu→Nat→Bool
 | [],_=>false
 |x::l,k=>(((hasB on k&&decide (x.a=a))&&decide (x.b=b))&& !x.same)||xV on a b l (k+1)
def dj(K:aB)(on:Int)(a b:Nat):Bool:=match K.before[a]?,K.after[b]? with
 |some x,some y=> !j7 K x y&&(!mP K x y&& !xV on a b K.facts 0)
 |_,_=>false
structure eE(K:aB):Prop where
 rules:K.rules.length≤4∧∀r∈K.rules,rD r
 before:K.before.length≤4∧∀p∈K.before,rE p.name∧nT K.hd p.head
 after:K.after.length≤4∧∀p∈K.after,rE p.name∧nT K.hd p.head
 da:lG K.cs K.hd
 facts:K.facts.length≤4∧∀x∈K.facts,(0≤x.a∧x.a <K.before.length)∧(0≤x.b∧x.b <K.after.length)
def oX(ro:Nat→Option Obj)(f:Nat)(K:aB)(rows:List bE):Prop:=∃(c0 c1 c2 vc vh vr vb va vf vt:Value) (hv:List bw),
 ro f=some (.cells ⟨[c0,c1,c2,vc,vh,vr,vb,va,zI K.gone,zI K.new,zI K.af,vf,vt]⟩ 150 (0,0))∧jh ro vc vh K.cs hv K.hd∧de dr hv K.hd∧
 bD ro vr 2 iF K.rules∧bD ro vb 5 eF K.before∧bD ro va 5 eF K.after∧bD ro vf 3 mX K.facts∧bD ro vt 16 Bo rows
theorem oX.up{aG:Nat→Option Obj}{rows:List bE}(h:oX ro f K rows)(hs:Sub ro aG):oX aG f K rows:=by
 obtain⟨c0,c1,c2,vc,vh,vr,vb,va,vf,vt,hv,h1,h2,h3,h4,h5,h6,h7,h8⟩:=h
 exact⟨c0,c1,c2,vc,vh,vr,vb,va,vf,vt,hv,hs _ _ h1,h2.up hs,h3,h4.up hs,h5.up hs,h6.up hs,h7.up hs,h8.up hs⟩
theorem aMV{f i:Int}(hi:0≤i∧i≤8):dv zT 325 [.int .u8 f,zI i] ro (.bool (hasB f i)):=by
 refine zE<|zD 8<|jsr (k:= .u8) (k':= .i64) (a:=f) (b:=i) 414 (by omega)<|zD 5<|zX (.bool (decide ((U3 .u8 (aS .u8 f i) 1)=1))) ⟨rfl,rfl⟩
theorem aBW{f i:Int}(hi:0≤i∧i≤8):dv zT 326 [.int .u8 f,zI i] ro (.int .u8 (LX .u8 f (dC .u8 1 i))):=by
 refine zE<|zD 8<|jsh (k:= .u8) (k':= .i64) (a:=1) (b:=i) 414 (by omega)<|zD 4<|zX (.int .u8 (LX .u8 f (dC .u8 1 i))) ⟨rfl,rfl⟩
theorem atF{hv:List bw}(hR:jh ro vc vh cs hv hd)(nj:de dr hv hd)(hT:lG cs hd):dO zT 324 [.agg ⟨[vc,vh]⟩] ro [] (fun r Y=>∃b vS LS vE,r= .tuple ⟨[zP b,zI 0]⟩∧ax vS 1 414 Ty (mO cs cs.length) LS∧Y=(b,.cells ⟨[vc,vh,vS,vE]⟩ 418 (0,0))::LS):=by
 obtain⟨hc,hh,di⟩:=id hR
 obtain⟨ep,AK,AJ,dZ,rfl,Dx,yR,yQ⟩:=hc
 obtain⟨dH,u5,u4,du,rfl,xp,qR,qQ⟩:=hh
 have DO:=hT.nc
 have hnh:=hT.nh
 have hlen:=nj.len
 refine zE<|zD 2<|jn fun b1=>jd 7 [0]<|jp (vs:=[.agg ⟨[.slice ep cs.length dZ,.slice dH hv.length du]⟩]) [] [] (fun aI hs hZ=>(Xp (hR.up hs) nj hT))<|jd 13 [0]<|jn fun xN=>jd 11 [1]<|nY<|dP [1,1,1,0,1,0,0] [] (fun(zz:Nat×Value×Cells)=>[(1,zP b1),(2,.pointer none),(3,zI 0),(5,zP xN),(20,.slice ep cs.length dZ),(21,zI (cs.length:Int)),(22,zI (zz.1:Int))]) (fun zz=>[.l zz.2.2,.b xN (.cells ⟨[.slice ep cs.length dZ,.slice dH hv.length du,zz.2.1,zS]⟩ 418 (0,0)),.b b1 (.cells ⟨[.slice ep cs.length dZ,.slice dH hv.length du]⟩ 35 (0,0))]) (fun zz=>zz.1≤cs.length∧ax zz.2.1 1 414 Ty (mO cs zz.1) zz.2.2) (fun zz=>cs.length-zz.1) (⟨0,zS,[]⟩) ⟨by dsimp only;omega,ax.nil _ _ _⟩ [0,1,2] ?_
 rintro⟨k,vS,LS⟩ hI K1 bH rest
 dsimp only at hI
 refine zD 5<|zJ 23 ((k:Int) <(cs.length:Int)) (fun h1=>?_) fun h1=>?_
 ·
  refine zD 7 ?_
  obtain⟨yB,lv⟩:=zG cs k
  refine ek dZ 2 yR lv<|jl 0 (yQ _ _ lv)<|jn fun b7=>jd 4 [0] ?_
  have iJ:=hT.cls _ _ lv
  have LZ:=oI cs k
  refine zD 2<|jp (vs:=[.int .u8 0,zI (k:Int)]) [] [] (fun aI hs hZ=>(aBW (by omega)))<|jd 9 [0]<|zJ 31 (yB.under≥0) (fun h2=>?_) fun h2=>?_
  ·
   refine jd 9 [2,0] ?_
   obtain⟨E7,xZ⟩:=zG ((mO cs k)) (yB.under.toNat) (by first|omega| (simp only[List.length_set,zM];omega))
   refine qi yB.under 1 hI.2 xZ (Int.toNat_of_nonneg (show 0≤yB.under∧yB.under <(((mO cs k)).length:Int) from (by have:=iJ.2;simp only[oI];omega)).1).symm (fun b39 aSH=>?_)
   refine pg 0 [1] LS (fun s _ hZ=>cK hI.2 aSH hZ xZ)<|jd 10 [2]<|jn fun b48=>iC (sz:=1) (ps:=(mO cs k)) (qs:=[(LX .u8 (LX .u8 0 (dC .u8 1 (k:Int))) E7)]) (enc:=Ty) (w:= .slice (some ⟨b48,0,none⟩) 1 1) [2] [0] [(b48,.cells ⟨([(LX .u8 (LX .u8 0 (dC .u8 1 (k:Int))) E7)].map Ty).flatten⟩ 414 (0,0))] (hI.2) (fun s _ hZ=>bK [(LX .u8 (LX .u8 0 (dC .u8 1 (k:Int))) E7)] (hZ _ (.head _)) (by intro p hp;rfl)) (fun p _=>aj rfl) (by simp only[oI,List.length_cons,List.length_nil];omega) (fun v49 L49 Hw=>?_)
   obtain⟨adE,ady,Vx⟩:=Hw.form
   subst Vx
   refine jd 5 [3]<|ja ((k:Int)+1) (by omega)<|zD 2<|bI bH (⟨k+1,(.slice adE (((mO cs k)++[(LX .u8 (LX .u8 0 (dC .u8 1 (k:Int))) E7)])).length ady),L49⟩) ⟨by dsimp only;omega,by rw[apB lv (by omega) xZ];exact Hw⟩ (by dsimp only;omega) [0,3,4] (Sub.refl _)
  refine jd 9 [2]<|jn fun b48=>iC (sz:=1) (ps:=(mO cs k)) (qs:=[(LX .u8 0 (dC .u8 1 (k:Int)))]) (enc:=Ty) (w:= .slice (some ⟨b48,0,none⟩) 1 1) [2] [0] [(b48,.cells ⟨([(LX .u8 0 (dC .u8 1 (k:Int)))].map Ty).flatten⟩ 414 (0,0))] (hI.2) (fun s _ hZ=>bK [(LX .u8 0 (dC .u8 1 (k:Int)))] (hZ _ (.head _)) (by intro p hp;rfl)) (fun p _=>aj rfl) (by simp only[oI,List.length_cons,List.length_nil];omega) (fun v49 L49 Hw=>?_)
  obtain⟨adE,ady,Vx⟩:=Hw.form
  subst Vx
  refine jd 5 [3]<|ja ((k:Int)+1) (by omega)<|zD 2<|bI bH (⟨k+1,(.slice adE (((mO cs k)++[(LX .u8 0 (dC .u8 1 (k:Int)))])).length ady),L49⟩) ⟨by dsimp only;omega,by rw[apC lv (by omega)];exact Hw⟩ (by dsimp only;omega) [0,3,4] (Sub.refl _)
 refine jd 11 [2]<|nY<|dP [1,1,1,1,0,1,0,0] [] (fun(zz:Nat×Value×Cells×(List Value))=>[(2,.pointer none),(3,zI 0),(5,zP xN),(54,.slice dH hv.length du),(55,zI (hv.length:Int)),(56,zI (zz.1:Int))]) (fun zz=>[.l zz.2.2.1,.b xN (.cells ⟨[.slice ep cs.length dZ,.slice dH hv.length du,vS,zz.2.1]⟩ 418 (0,0)),.l LS,.b b1 (.cells ⟨[.slice ep cs.length dZ,.slice dH hv.length du]⟩ 35 (0,0))]) (fun zz=>(zz.1≤hv.length∧zz.2.2.2.length≤zz.1)∧ax zz.2.1 1 428 fH zz.2.2.2 zz.2.2.1) (fun zz=>hv.length-zz.1) (⟨0,zS,[],[]⟩) ⟨⟨by omega,Nat.le_refl _⟩,ax.nil _ _ _⟩ [0,2,1,3] ?_
 rintro⟨j,vE,LE,es⟩ hJ K2 mr rest
 dsimp only at hJ
 refine zD 5<|zJ 57 ((j:Int) <(hv.length:Int)) (fun h3=>?_) fun h3=>?_
 ·
  refine zD 6 ?_
  obtain⟨FI,aoo⟩:=zG hv j
  refine ek du 4 qR aoo<|jl 0 (qQ _ _ aoo)<|jn fun sC=>jsx 0 sC 0 [.string ByteArray.empty,zI 0,zI 0,zS] [.string FI.word,zI FI.cls,zI FI.oh,FI.dX] 145 (mI di _ (zL aoo)) rfl<|zD 3 ?_
  obtain⟨y58,bdb,aQl⟩:=di.get aoo
  obtain⟨fA,rQ,rP,eP,hqe,tQ,lJ,mE⟩:=aQl.2.2.2
  refine jmw 0 [.b sC (.cells ⟨[.string FI.word,zI FI.cls,zI FI.oh,.slice fA y58.dX.length eP]⟩ 145 (0,0))] (L:=[(sC,.cells ⟨[.string FI.word,zI FI.cls,zI FI.oh,FI.dX]⟩ 145 (0,0))]) (by rw[hqe];rfl) ?_
  refine jd 6 [0]<|js 73 (!decide (FI.oh=(-1))) (fun h4=>?_) (fun h4=>?_)
  ·
   replace h4:=of_decide_eq_false (by simpa using h4)
   refine jd 11 [2,0]<|aV 9 fun pW pZ oU=>jn fun b86=>eH oU (zN 1 5)<|aV 10 fun rI rK qu=>iC (sz:=1) (ps:=es) (qs:=[(.iface 421 (.agg ⟨[zI FI.oh]⟩):Value)]) (enc:=fH) (w:= .slice (some ⟨b86,0,none⟩) 1 1) [2] [0] [(b86,.cells ⟨([(.iface 421 (.agg ⟨[zI FI.oh]⟩):Value)].map fH).flatten⟩ 428 (0,0))] (hJ.2) (fun s _ hZ=>bK [(.iface 421 (.agg ⟨[zI FI.oh]⟩):Value)] (hZ _ (.head _)) (by intro p hp;rfl)) (by intro p hp;rw[List.mem_singleton] at hp;subst hp;exact aj rfl) (by simp only[List.length_cons,List.length_nil];omega) (fun v87 L87 ahF=>?_)
   obtain⟨aMp,aL6,aRU⟩:=ahF.form
   subst aRU
   refine gM qu [[2]]<|zD 2<|aV 13 fun An Ay Ba=>jd 1 [3]<|gM Ba []<|zD 2<|ja ((j:Int)+1) (by omega)<|zD 2<|bI mr (⟨j+1,(.slice aMp ((es++[(.iface 421 (.agg ⟨[zI FI.oh]⟩):Value)])).length aL6),L87,(es++[(.iface 421 (.agg ⟨[zI FI.oh]⟩):Value)])⟩) ⟨⟨by dsimp only;omega,by simp only[zM];omega⟩,ahF⟩ (by dsimp only;omega) [0,3,4,5] (Sub.refl _)
  replace h4:=of_decide_eq_true (by simpa using h4)
  refine jd 8 [0]<|js 90 (!decide (FI.cls=(-1))) (fun h8=>?_) (fun h8=>?_)
  ·
   replace h8:=of_decide_eq_false (by simpa using h8)
   refine jd 13 [2,0,0]<|aV 11 fun ZY aai VN=>jn fun aI3=>eH VN (zN 1 5)<|aV 12 fun amc amC VM=>iC (sz:=1) (ps:=es) (qs:=[(.iface 423 (.agg ⟨[zI FI.cls,.slice fA y58.dX.length eP]⟩):Value)]) (enc:=fH) (w:= .slice (some ⟨aI3,0,none⟩) 1 1) [2] [0] [(aI3,.cells ⟨([(.iface 423 (.agg ⟨[zI FI.cls,.slice fA y58.dX.length eP]⟩):Value)].map fH).flatten⟩ 428 (0,0))] (hJ.2) (fun s _ hZ=>bK [(.iface 423 (.agg ⟨[zI FI.cls,.slice fA y58.dX.length eP]⟩):Value)] (hZ _ (.head _)) (by intro p hp;rfl)) (by intro p hp;rw[List.mem_singleton] at hp;subst hp;exact aj rfl) (by simp only[List.length_cons,List.length_nil];omega) (fun baP aVO YL=>?_)
   obtain⟨aBp,aBi,aGT⟩:=YL.form
   subst aGT
   refine gM VM [[2],[2]]<|zD 2<|aV 15 fun TD TZ VL=>jd 1 [3]<|gM VL []<|zD 2<|ja ((j:Int)+1) (by omega)<|zD 2<|bI mr (⟨j+1,(.slice aBp ((es++[(.iface 423 (.agg ⟨[zI FI.cls,.slice fA y58.dX.length eP]⟩):Value)])).length aBi),aVO,(es++[(.iface 423 (.agg ⟨[zI FI.cls,.slice fA y58.dX.length eP]⟩):Value)])⟩) ⟨⟨by dsimp only;omega,by simp only[zM];omega⟩,YL⟩ (by dsimp only;omega) [0,3,4,5] (Sub.refl _)
  replace h8:=of_decide_eq_true (by simpa using h8)
  refine jd 11 [2,0]<|aV 9 fun TB TY R9=>jn fun b69=>eH R9 (zN 1 5)<|aV 10 fun Dj Ds uv=>iC (sz:=1) (ps:=es) (qs:=[(.iface 425 (.agg ⟨[.slice fA y58.dX.length eP]⟩):Value)]) (enc:=fH) (w:= .slice (some ⟨b69,0,none⟩) 1 1) [2] [0] [(b69,.cells ⟨([(.iface 425 (.agg ⟨[.slice fA y58.dX.length eP]⟩):Value)].map fH).flatten⟩ 428 (0,0))] (hJ.2) (fun s _ hZ=>bK [(.iface 425 (.agg ⟨[.slice fA y58.dX.length eP]⟩):Value)] (hZ _ (.head _)) (by intro p hp;rfl)) (by intro p hp;rw[List.mem_singleton] at hp;subst hp;exact aj rfl) (by simp only[List.length_cons,List.length_nil];omega) (fun v70 L70 ahH=>?_)
  obtain⟨aMs,aL9,aRX⟩:=ahH.form
  subst aRX
  refine gM uv [[2]]<|zD 2<|aV 13 fun FD Gc zi=>jd 1 [3]<|gM zi []<|zD 2<|ja ((j:Int)+1) (by omega)<|zD 2<|bI mr (⟨j+1,(.slice aMs ((es++[(.iface 425 (.agg ⟨[.slice fA y58.dX.length eP]⟩):Value)])).length aL9),L70,(es++[(.iface 425 (.agg ⟨[.slice fA y58.dX.length eP]⟩):Value)])⟩) ⟨⟨by dsimp only;omega,by simp only[zM];omega⟩,ahH⟩ (by dsimp only;omega) [0,3,4,5] (Sub.refl _)
 refine zD 9<|zR (.tuple ⟨[zP xN,zI 0]⟩) [] [1,2] ((xN,.cells ⟨[.slice ep cs.length dZ,.slice dH hv.length du,vS,vE]⟩ 418 (0,0))::LS) ⟨_,_,LS,_,rfl,by have:=hI.2;rwa[show k=cs.length by omega] at this,rfl⟩
theorem Ye{s:Int}{j:Int}(h:0≤j):aga s (j+1).toNat=bif hasB s j then j else aga s j.toNat:=by
 obtain⟨m,rfl⟩:=Int.eq_ofNat_of_zero_le h
 rfl
theorem Xw{on a b:Int}{l:List cu}{x:cu}(h:l[k]?=some x):xV on a b (l.drop k) k=((((hasB on k&&decide (x.a=a))&&decide (x.b=b))&& !x.same)||xV on a b (l.drop (k+1)) (k+1)):=by rw[fx h];rfl
theorem ael{on a b:Int}{l:List cu}(h:¬k <l.length):xV on a b (l.drop k) k=false:=by rw[eA h];rfl
theorem YW{hv:List bw}{h:Int}{x:bw}(hS:de dr hv hd)(hT:lG cs hd)(hk:nT hd h)(h0:0≤h)(hx:hv[h.toNat]?=some x):Zv hd h=x.cls∧0≤x.cls∧x.cls <cs.length:=by
 obtain⟨y,hy,hs⟩:=hS.get hx
 rcases hk with rfl| ⟨_,z,hz,hc⟩
 ·omega
 rw[hy] at hz;cases hz
 have:=(hT.A8 _ _ hy).2.1
 exact⟨by simp[Zv,hy,hs.2.1],hs.2.1▸hc,by rw[hs.2.1];exact this.2⟩
theorem YV{hv:List bw}{h:Int}(hS:de dr hv hd)(hk:nT hd h)(h0:0≤h):h <hv.length:=by
 rcases hk with rfl| ⟨_,z,hz,_⟩
 ·omega
 have:=(List.getElem?_eq_some_iff.1 hz).1
 rw[hS.len];omega
theorem atw{hv:List bw}{a b:Int}(hR:jh ro vc vh cs hv hd)(nj:de dr hv hd)(hT:lG cs hd)(ha:0≤a∧a <cs.length)(hb:0≤b∧b <cs.length):dv zT 323 [.agg ⟨[vc,vh]⟩,zI a,zI b] ro (.tuple ⟨[zI (G4 cs a b),zI 0]⟩):=by
 obtain⟨hc,hh,di⟩:=id hR
 obtain⟨ep,AK,AJ,dZ,rfl,Dx,yR,yQ⟩:=hc
 obtain⟨dH,u5,u4,du,rfl,xp,qR,qQ⟩:=hh
 have DO:=hT.nc
 have hnh:=hT.nh
 have hlen:=nj.len
 have LZ:=oI cs cs.length
 refine zE<|zD 2<|jn fun b3=>jd 6 [0]<|jc (vs:=[.agg ⟨[.slice ep cs.length dZ,.slice dH hv.length du]⟩]) [] (atF hR nj hT) ?_
 rintro _ _ ⟨bT,vS,LS,vE,rfl,hS,rfl⟩
 refine jg 0 [.b bT (.cells ⟨[.slice ep cs.length dZ,.slice dH hv.length du,vS,vE]⟩ 418 (0,0)),.l LS]<|zD 5<|jf [0,1] ((bT,.cells ⟨[.slice ep cs.length dZ,.slice dH hv.length du,vS,vE]⟩ 418 (0,0))::LS) (fun z0 bZ iQ=>?_)
 have hSS:=hS.kg iQ.tail
 obtain⟨aCY,bbC,bbA,am5,rfl,bbB,aCX,aCW⟩:=hSS
 refine jd 17 [0]<|ja ((cs.length:Int)-1) (by omega)<|jp (vs:=[zI a,zI 0,zI ((cs.length:Int)-1)]) [] [] (fun aI hs hZ=>jb)<|zD 3<|js 20 (!(iH a 0 ((cs.length:Int)-1))) (fun h4=>?_) (fun h4=>?_)
 ·
  try simp only[zB] at h4
  exfalso;simp only[iH,Bool.not_eq_true',Bool.and_eq_false_iff,decide_eq_false_iff_not] at h4;omega
 try simp only[zB] at h4
 refine jd 6 [0]<|ja ((cs.length:Int)-1) (by omega)<|jp (vs:=[zI b,zI 0,zI ((cs.length:Int)-1)]) [] [] (fun aI hs hZ=>jb)<|zD 3<|js 20 (!(iH b 0 ((cs.length:Int)-1))) (fun h5=>?_) (fun h5=>?_)
 ·
  try simp only[zB] at h5
  exfalso;simp only[iH,Bool.not_eq_true',Bool.and_eq_false_iff,decide_eq_false_iff_not] at h5;omega
 try simp only[zB] at h5
 refine jd 8 [0]<|ja ((cs.length:Int)-1) (by omega)<|zD 3<|dP [1,1,1,0,1,0,0] [] (fun(zz:Int)=>[(1,zI a),(2,zI b),(8,zP bT),(10,zI zz)]) (fun zz=>[.b b3 (.cells ⟨[.slice ep cs.length dZ,.slice dH hv.length du]⟩ 35 (0,0))]) (fun zz=>(-1≤zz∧zz <cs.length)∧G4 cs a b=aga (U3 .u8 ((mO cs cs.length)[a.toNat]?.getD 0) ((mO cs cs.length)[b.toNat]?.getD 0)) (zz+1).toNat) (fun zz=>(zz+1).toNat) ((cs.length:Int)-1) ⟨by omega,by rw[G4,show ((cs.length:Int)-1+1).toNat=cs.length by omega]⟩ [0] ?_
 rintro j hI K1 bH rest
 refine zD 6<|zJ 40 (j≥0) (fun h6=>?_) fun h6=>?_
 ·
  refine zD 9<|jl (b:=bT) (off:=0) (m:=4) (vs:=[.slice ep cs.length dZ,.slice dH hv.length du,.slice aCY ((mO cs cs.length).length) am5,vE]) 2 ⟨_,_,_,.inl (iQ _ (.head _)),rfl⟩<|zD 1 ?_
  obtain⟨x48,Hb⟩:=zG ((mO cs cs.length)) (a.toNat) (by simp only[oI];omega)
  refine NI a am5 1 aCX Hb (Int.toNat_of_nonneg (show 0≤a∧a <(((mO cs cs.length)).length:Int) from (by simp only[oI];omega)).1).symm ?_
  refine jl 0 (aCW _ _ Hb)<|zD 3<|jl (b:=bT) (off:=0) (m:=4) (vs:=[.slice ep cs.length dZ,.slice dH hv.length du,.slice aCY ((mO cs cs.length).length) am5,vE]) 2 ⟨_,_,_,.inl (iQ _ (.head _)),rfl⟩<|zD 1 ?_
  obtain⟨x55,aop⟩:=zG ((mO cs cs.length)) (b.toNat)
  refine NI b am5 1 aCX aop (by omega)<|jl 0 (aCW _ _ aop)<|zD 2<|jp (vs:=[.int .u8 (U3 .u8 x48 x55),zI j]) [] [] (fun aI hs hZ=>(aMV (by omega)))<|zD 1<|js 59 (hasB (U3 .u8 x48 x55) j) (fun h7=>?_) (fun h7=>?_)
  ·
   refine zD 8<|aL q0.a (.tuple ⟨[zI j,zI 0]⟩) [] [] [] bZ ⟨_,_,rfl,rfl,by rw[hI.2,Ye (by omega),Hb,aop,Option.getD_some,Option.getD_some,show hasB _ _=true from (by assumption)];rfl,rfl⟩
  refine zD 4<|ja (j-1) (by omega)<|zD 2<|bI bH (j-1) ⟨by omega,by rw[hI.2,Ye (by omega),Hb,aop,Option.getD_some,Option.getD_some,show hasB _ _=false from (by assumption),show j-1+1=j by omega];rfl⟩ (by omega) [0] (Sub.refl _)
 refine zD 8<|aL q0.a (.tuple ⟨[zI (-1),zI 0]⟩) [] [] [] bZ ⟨_,_,rfl,rfl,by rw[hI.2,show j= -1 by omega];rfl,rfl⟩
theorem are:dv zT 44 [] ro (.agg ⟨[.iface 166 (.agg ⟨[]⟩),.iface 167 (.agg ⟨[]⟩),.iface 168 (.agg ⟨[]⟩)]⟩):=by
 refine zE<|zD 2<|jn fun b0=>jd 13 [0]<|zR (.agg ⟨[.iface 166 (.agg ⟨[]⟩),.iface 167 (.agg ⟨[]⟩),.iface 168 (.agg ⟨[]⟩)]⟩) [0] [] [] ⟨rfl,rfl⟩
theorem agC{rows:List bE}{a:Nat}{x:aA}{on:Int}(hF:oX ro f K rows)(hV:eE K)(ha:K.before[a]?=some x) (hb:K.after[b]?=some y):dv zT 319 [.agg ⟨[]⟩,zP f,zI (a:Int),zI (b:Int),.int .u8 on] ro (.bool (j7 K x y)):=by
 obtain⟨c0,c1,c2,vc,vh,vr,vb,va,vf,vt,hv,hf,pR,nj,hr,CN,HR,J2,bV⟩:=id hF
 obtain⟨hc,hh,di⟩:=id pR
 obtain⟨ep,AK,AJ,dZ,rfl,Dx,yR,yQ⟩:=hc
 obtain⟨dH,u5,u4,du,rfl,xp,qR,qQ⟩:=hh
 obtain⟨kR,I8,I7,kQ,rfl,O3,Gw,Gv⟩:=hr
 obtain⟨lg,JD,JB,ky,rfl,JC,Eo,En⟩:=CN
 obtain⟨lj,JI,JG,kz,rfl,JH,Es,Ep⟩:=HR
 obtain⟨mi,UA,Uy,lf,rfl,Uz,Ni,Nh⟩:=J2
 obtain⟨nC,Em,Ek,mW,rfl,Qk,Nd,Nc⟩:=bV
 have Tn:=hV.rules.1
 have BK:=hV.before.1
 have EJ:=hV.after.1
 have hnf:=hV.facts.1
 have Mg:=(List.getElem?_eq_some_iff.1 ha).1
 have BO:=(List.getElem?_eq_some_iff.1 hb).1
 refine zE<|zD 2<|jn fun b5=>zD 8<|jl (b:=f) (off:=0) (m:=13) (vs:=[c0,c1,c2,.slice ep K.cs.length dZ,.slice dH hv.length du,.slice kR K.rules.length kQ,.slice lg K.before.length ky,.slice lj K.after.length kz,zI K.gone,zI K.new,zI K.af,.slice mi K.facts.length lf,.slice nC rows.length mW]) 5 ⟨_,_,_,.inl hf,rfl⟩<|zD 4<|jl (b:=f) (off:=0) (m:=13) (vs:=[c0,c1,c2,.slice ep K.cs.length dZ,.slice dH hv.length du,.slice kR K.rules.length kQ,.slice lg K.before.length ky,.slice lj K.after.length kz,zI K.gone,zI K.new,zI K.af,.slice mi K.facts.length lf,.slice nC rows.length mW]) 6 ⟨_,_,_,.inl hf,rfl⟩<|zD 1 ?_
 obtain⟨yB,lv⟩:=zG K.before a
 refine ek ky 5 Eo lv<|zD 1<|jl 0 (En _ _ lv)<|zD 4<|jl (b:=f) (off:=0) (m:=13) (vs:=[c0,c1,c2,.slice ep K.cs.length dZ,.slice dH hv.length du,.slice kR K.rules.length kQ,.slice lg K.before.length ky,.slice lj K.after.length kz,zI K.gone,zI K.new,zI K.af,.slice mi K.facts.length lf,.slice nC rows.length mW]) 7 ⟨_,_,_,.inl hf,rfl⟩<|zD 1 ?_
 obtain⟨Z0,NR⟩:=zG K.after b
 refine ek kz 5 Es NR<|zD 1<|jl 0 (Ep _ _ NR)<|jp (vs:=[.slice kR K.rules.length kQ,.string yB.name,.string Z0.name]) [] [] (fun aI hs hZ=>QP ((show bD _ _ _ _ _ from ⟨kR,I8,I7,kQ,rfl,O3,Gw,Gv⟩).up hs) hV.rules.2 Tn (hV.before.2 _ (zL lv)).1 (hV.after.2 _ (zL NR)).1)<|zD 9<|jp (vs:=[zI 0]) [] [] (fun aI hs hZ=>AY)<|zD 8<|zX (.bool (decide ((vw K.rules yB.name Z0.name)=2))) ⟨by rw[ha] at lv;cases lv;rw[hb] at NR;cases NR;rfl,rfl⟩
theorem Rb{rows:List bE}{a:Nat}{x:aA}{on:Int}(hF:oX ro f K rows)(hV:eE K)(ha:K.before[a]?=some x) (hb:K.after[b]?=some y):dv zT 321 [.agg ⟨[]⟩,zP f,zI (a:Int),zI (b:Int),.int .u8 on] ro (.bool (mP K x y)):=by
 obtain⟨c0,c1,c2,vc,vh,vr,vb,va,vf,vt,hv,hf,pR,nj,hr,CN,HR,J2,bV⟩:=id hF
 obtain⟨hc,hh,di⟩:=id pR
 obtain⟨ep,AK,AJ,dZ,rfl,Dx,yR,yQ⟩:=hc
 obtain⟨dH,u5,u4,du,rfl,xp,qR,qQ⟩:=hh
 obtain⟨kR,I8,I7,kQ,rfl,O3,Gw,Gv⟩:=hr
 obtain⟨lg,JD,JB,ky,rfl,JC,Eo,En⟩:=CN
 obtain⟨lj,JI,JG,kz,rfl,JH,Es,Ep⟩:=HR
 obtain⟨mi,UA,Uy,lf,rfl,Uz,Ni,Nh⟩:=J2
 obtain⟨nC,Em,Ek,mW,rfl,Qk,Nd,Nc⟩:=bV
 have Tn:=hV.rules.1
 have BK:=hV.before.1
 have EJ:=hV.after.1
 have hnf:=hV.facts.1
 have Mg:=(List.getElem?_eq_some_iff.1 ha).1
 have BO:=(List.getElem?_eq_some_iff.1 hb).1
 refine zE<|zD 2<|jn fun b5=>zD 8<|jl (b:=f) (off:=0) (m:=13) (vs:=[c0,c1,c2,.slice ep K.cs.length dZ,.slice dH hv.length du,.slice kR K.rules.length kQ,.slice lg K.before.length ky,.slice lj K.after.length kz,zI K.gone,zI K.new,zI K.af,.slice mi K.facts.length lf,.slice nC rows.length mW]) 6 ⟨_,_,_,.inl hf,rfl⟩<|zD 1 ?_
 obtain⟨yC,qk⟩:=zG K.before a
 refine ek ky 5 Eo qk<|zD 1<|jl 3 (En _ _ qk)<|zD 4<|jl (b:=f) (off:=0) (m:=13) (vs:=[c0,c1,c2,.slice ep K.cs.length dZ,.slice dH hv.length du,.slice kR K.rules.length kQ,.slice lg K.before.length ky,.slice lj K.after.length kz,zI K.gone,zI K.new,zI K.af,.slice mi K.facts.length lf,.slice nC rows.length mW]) 7 ⟨_,_,_,.inl hf,rfl⟩<|zD 1 ?_
 obtain⟨od,iW⟩:=zG K.after b
 refine ek kz 5 Es iW<|zD 1<|jl 3 (Ep _ _ iW)<|zD 9<|jj 3 [(1,zP f),(10,.bool false),(11,zI yC.head),(12,zI od.head),(38,.bool ((decide (yC.head <0))||(decide (od.head <0))))] (fun gG=>?_) (fun hj=>?_)
 rotate_left
 refine js 35 (decide (yC.head <0)) (fun h1=>?_) (fun h1=>?_)
 ·
  have fW:=h1
  replace fW:=of_decide_eq_true fW
  refine zD 3<|jw 38 (.bool ((decide (yC.head <0))||(decide (od.head <0)))) (w:= .bool true) (by rw[h1]<;>rfl) ?_
  exact zK hj
 ·
  have fW:=h1
  replace fW:=of_decide_eq_false fW
  refine zD 3<|jw 38 (.bool ((decide (yC.head <0))||(decide (od.head <0)))) (w:= .bool (decide (od.head <0))) (by rw[h1]<;>rfl) ?_
  exact zK hj
 refine zD 1<|jj 4 [(1,zP f),(10,.bool false),(11,zI yC.head),(12,zI od.head),(43,.bool (((decide (yC.head <0))||(decide (od.head <0)))||(decide (yC.head=od.head))))] (fun gG=>?_) (fun hj=>?_)
 rotate_left
 refine js 39 ((decide (yC.head <0))||(decide (od.head <0))) (fun h2=>?_) (fun h2=>?_)
 ·
  have mv:=h2
  try simp only[zB] at mv
  refine zD 4<|jw 43 (.bool (((decide (yC.head <0))||(decide (od.head <0)))||(decide (yC.head=od.head)))) (w:= .bool true) (by rw[h2]<;>rfl) ?_
  exact zK hj
 ·
  have mv:=h2
  try simp only[zB] at mv
  refine zD 4<|jw 43 (.bool (((decide (yC.head <0))||(decide (od.head <0)))||(decide (yC.head=od.head)))) (w:= .bool (decide (yC.head=od.head))) (by rw[h2]<;>rfl) ?_
  exact zK hj
 refine zD 1<|js 43 (((decide (yC.head <0))||(decide (od.head <0)))||(decide (yC.head=od.head))) (fun h3=>?_) (fun h3=>?_)
 ·
  try simp only[zB] at h3
  refine zD 6<|zX (.bool false) ⟨by rw[ha] at qk;cases qk;rw[hb] at iW;cases iW;rw[mP,if_pos (by omega)],rfl⟩
 try simp only[zB] at h3
 refine zD 8<|jl (b:=f) (off:=0) (m:=13) (vs:=[c0,c1,c2,.slice ep K.cs.length dZ,.slice dH hv.length du,.slice kR K.rules.length kQ,.slice lg K.before.length ky,.slice lj K.after.length kz,zI K.gone,zI K.new,zI K.af,.slice mi K.facts.length lf,.slice nC rows.length mW]) 3 ⟨_,_,_,.inl hf,rfl⟩<|zD 5<|jl (b:=f) (off:=0) (m:=13) (vs:=[c0,c1,c2,.slice ep K.cs.length dZ,.slice dH hv.length du,.slice kR K.rules.length kQ,.slice lg K.before.length ky,.slice lj K.after.length kz,zI K.gone,zI K.new,zI K.af,.slice mi K.facts.length lf,.slice nC rows.length mW]) 4 ⟨_,_,_,.inl hf,rfl⟩<|zD 1 ?_
 obtain⟨x57,EA⟩:=zG hv (yC.head.toNat) (by have:=YV nj (hV.before.2 _ (zL qk)).2 (by omega);omega)
 refine NI yC.head du 4 qR EA (Int.toNat_of_nonneg (show 0≤yC.head∧yC.head <((hv).length:Int) from (by have:=YV nj (hV.before.2 _ (zL qk)).2 (by omega);omega)).1).symm ?_
 refine zD 1<|jl 1 (qQ _ _ EA)<|zD 5<|jl (b:=f) (off:=0) (m:=13) (vs:=[c0,c1,c2,.slice ep K.cs.length dZ,.slice dH hv.length du,.slice kR K.rules.length kQ,.slice lg K.before.length ky,.slice lj K.after.length kz,zI K.gone,zI K.new,zI K.af,.slice mi K.facts.length lf,.slice nC rows.length mW]) 4 ⟨_,_,_,.inl hf,rfl⟩<|zD 1 ?_
 obtain⟨x67,aon⟩:=zG hv (od.head.toNat) (by have:=YV nj (hV.after.2 _ (zL iW)).2 (by omega);omega)
 refine NI od.head du 4 qR aon (Int.toNat_of_nonneg (show 0≤od.head∧od.head <((hv).length:Int) from (by have:=YV nj (hV.after.2 _ (zL iW)).2 (by omega);omega)).1).symm ?_
 refine zD 1<|jl 1 (qQ _ _ aon)<|jp (vs:=[.agg ⟨[.slice ep K.cs.length dZ,.slice dH hv.length du]⟩,zI x57.cls,zI x67.cls]) [] [] (fun aI hs hZ=>atw (pR.up hs) nj hV.da (YW nj hV.da (hV.before.2 _ (zL qk)).2 (by omega) EA).2 (YW nj hV.da (hV.after.2 _ (zL iW)).2 (by omega) aon).2)<|zD 9<|jp (vs:=[zI 0]) [] [] (fun aI hs hZ=>AY)<|zD 8<|zX (.bool (decide ((G4 K.cs x57.cls x67.cls) <0))) ⟨by rw[ha] at qk;cases qk;rw[hb] at iW;cases iW;rw[mP,if_neg (by omega),(YW nj hV.da (hV.before.2 _ (zL ha)).2 (by omega) EA).1,(YW nj hV.da (hV.after.2 _ (zL hb)).2 (by omega) aon).1],rfl⟩
theorem Yq{rows:List bE}{a:Nat}{on:Int}(hF:oX ro f K rows)(hV:eE K):dv zT 327 [.agg ⟨[]⟩,zP f,zI (a:Int),zI (b:Int),.int .u8 on] ro (.bool (xV on a b K.facts 0)):=by
 obtain⟨c0,c1,c2,vc,vh,vr,vb,va,vf,vt,hv,hf,pR,nj,hr,CN,HR,J2,bV⟩:=id hF
 obtain⟨hc,hh,di⟩:=id pR
 obtain⟨ep,AK,AJ,dZ,rfl,Dx,yR,yQ⟩:=hc
 obtain⟨dH,u5,u4,du,rfl,xp,qR,qQ⟩:=hh
 obtain⟨kR,I8,I7,kQ,rfl,O3,Gw,Gv⟩:=hr
 obtain⟨lg,JD,JB,ky,rfl,JC,Eo,En⟩:=CN
 obtain⟨lj,JI,JG,kz,rfl,JH,Es,Ep⟩:=HR
 obtain⟨mi,UA,Uy,lf,rfl,Uz,Ni,Nh⟩:=J2
 obtain⟨nC,Em,Ek,mW,rfl,Qk,Nd,Nc⟩:=bV
 have Tn:=hV.rules.1
 have BK:=hV.before.1
 have EJ:=hV.after.1
 have hnf:=hV.facts.1
 refine zE<|zD 2<|jn fun b5=>zD 9<|jl (b:=f) (off:=0) (m:=13) (vs:=[c0,c1,c2,.slice ep K.cs.length dZ,.slice dH hv.length du,.slice kR K.rules.length kQ,.slice lg K.before.length ky,.slice lj K.after.length kz,zI K.gone,zI K.new,zI K.af,.slice mi K.facts.length lf,.slice nC rows.length mW]) 11 ⟨_,_,_,.inl hf,rfl⟩<|zD 4<|dP [1,0,1,0,0] [] (fun(zz:Nat)=>[(2,zI (a:Int)),(3,zI (b:Int)),(4,.int .u8 on),(17,.slice mi K.facts.length lf),(18,zI (K.facts.length:Int)),(19,zI (zz:Int))]) (fun zz=>[]) (fun zz=>zz≤K.facts.length∧xV on a b K.facts 0=xV on a b (K.facts.drop zz) zz) (fun zz=>K.facts.length-zz) 0 ⟨by omega,rfl⟩ [] ?_
 rintro k hI K1 bH rest
 refine zD 5<|zJ 20 ((k:Int) <(K.facts.length:Int)) (fun h1=>?_) fun h1=>?_
 ·
  refine zD 7 ?_
  obtain⟨su,uh⟩:=zG K.facts k
  refine ek lf 3 Ni uh<|jl 0 (Nh _ _ uh)<|jn fun wW=>jd 7 [0]<|jp (vs:=[.int .u8 on,zI (k:Int)]) [] [] (fun aI hs hZ=>(avv (by omega)))<|zD 1<|jj 5 [(2,zI (a:Int)),(3,zI (b:Int)),(4,.int .u8 on),(12,zP wW),(17,.slice mi K.facts.length lf),(18,zI (K.facts.length:Int)),(19,zI (k:Int)),(32,.bool ((hasB on (k:Int))&&(decide (su.a=(a:Int)))))] (fun gG=>?_) (fun hj=>?_)
  rotate_left
  refine js 27 (hasB on (k:Int)) (fun h2=>?_) (fun h2=>?_)
  ·
   refine jd 5 [0]<|jw 32 (.bool ((hasB on (k:Int))&&(decide (su.a=(a:Int))))) (w:= .bool (decide (su.a=(a:Int)))) (by rw[h2]<;>rfl) ?_
   exact zK hj
  ·
   refine zD 5<|jw 32 (.bool ((hasB on (k:Int))&&(decide (su.a=(a:Int))))) (w:= .bool false) (by rw[h2]<;>rfl) ?_
   exact zK hj
  refine zD 1<|jj 5 [(2,zI (a:Int)),(3,zI (b:Int)),(4,.int .u8 on),(12,zP wW),(17,.slice mi K.facts.length lf),(18,zI (K.facts.length:Int)),(19,zI (k:Int)),(38,.bool (((hasB on (k:Int))&&(decide (su.a=(a:Int))))&&(decide (su.b=(b:Int)))))] (fun gG=>?_) (fun hj=>?_)
  rotate_left
  refine js 33 ((hasB on (k:Int))&&(decide (su.a=(a:Int)))) (fun h3=>?_) (fun h3=>?_)
  ·
   have wC:=h3
   try simp only[zB] at wC
   refine jd 5 [0]<|jw 38 (.bool (((hasB on (k:Int))&&(decide (su.a=(a:Int))))&&(decide (su.b=(b:Int))))) (w:= .bool (decide (su.b=(b:Int)))) (by rw[h3]<;>rfl) ?_
   exact zK hj
  ·
   have wC:=h3
   try simp only[zB] at wC
   refine zD 5<|jw 38 (.bool (((hasB on (k:Int))&&(decide (su.a=(a:Int))))&&(decide (su.b=(b:Int))))) (w:= .bool false) (by rw[h3]<;>rfl) ?_
   exact zK hj
  refine zD 1<|jj 4 [(2,zI (a:Int)),(3,zI (b:Int)),(4,.int .u8 on),(17,.slice mi K.facts.length lf),(18,zI (K.facts.length:Int)),(19,zI (k:Int)),(43,.bool ((((hasB on (k:Int))&&(decide (su.a=(a:Int))))&&(decide (su.b=(b:Int))))&&(!su.same)))] (fun gG=>?_) (fun hj=>?_)
  rotate_left
  refine js 39 (((hasB on (k:Int))&&(decide (su.a=(a:Int))))&&(decide (su.b=(b:Int)))) (fun h4=>?_) (fun h4=>?_)
  ·
   have yn:=h4
   try simp only[zB] at yn
   refine jd 4 [0]<|jw 43 (.bool ((((hasB on (k:Int))&&(decide (su.a=(a:Int))))&&(decide (su.b=(b:Int))))&&(!su.same))) (w:= .bool (!su.same)) (by rw[h4]<;>rfl) ?_
   exact zK hj
  ·
   have yn:=h4
   try simp only[zB] at yn
   refine zD 4<|jw 43 (.bool ((((hasB on (k:Int))&&(decide (su.a=(a:Int))))&&(decide (su.b=(b:Int))))&&(!su.same))) (w:= .bool false) (by rw[h4]<;>rfl) ?_
   exact zK hj
  refine zD 1<|js 43 ((((hasB on (k:Int))&&(decide (su.a=(a:Int))))&&(decide (su.b=(b:Int))))&&(!su.same)) (fun h5=>?_) (fun h5=>?_)
  ·
   refine zD 6<|zX (.bool true) ⟨by rw[hI.2,Xw uh,show (((hasB on k&&decide (su.a=a))&&decide (su.b=b))&& !su.same)=true from (by assumption)];rfl,rfl⟩
  refine zD 3<|ja ((k:Int)+1) (by omega)<|zD 2<|bI bH (k+1) ⟨by omega,by rw[hI.2,Xw uh,show (((hasB on k&&decide (su.a=a))&&decide (su.b=b))&& !su.same)=false from (by assumption)];rfl⟩ (by omega) [] (Sub.refl _)
 refine zD 7<|zX (.bool false) ⟨by rw[hI.2,ael (by omega)],rfl⟩
theorem aEP{rows:List bE}{a:Nat}{x:aA}{on:Int}(hF:oX ro f K rows)(hV:eE K)(ha:K.before[a]?=some x) (hb:K.after[b]?=some y):dv zT 115 [zP f,zI (a:Int),zI (b:Int),.int .u8 on] ro (.bool (dj K on a b)):=by
 refine zE<|zD 7<|jp [] [] (fun aI hs hZ=>are)<|zD 3<|dP [1,0,1,0,0] [] (fun(zz:Nat)=>[(0,zP f),(1,zI (a:Int)),(2,zI (b:Int)),(3,.int .u8 on),(11,.agg ⟨[.iface 166 (.agg ⟨[]⟩),.iface 167 (.agg ⟨[]⟩),.iface 168 (.agg ⟨[]⟩)]⟩),(12,zI (zz:Int))]) (fun zz=>[]) (fun zz=>zz≤3∧(1≤zz→j7 K x y=false)∧(2≤zz→mP K x y=false)∧(3≤zz→xV on a b K.facts 0=false)) (fun zz=>3-zz) 0 ⟨by omega,nofun,nofun,nofun⟩ [] ?_
 rintro k hI K1 bH rest
 refine zD 5<|zJ 13 ((k:Int) <3) (fun h1=>?_) fun h1=>?_
 ·
  refine zD 6 ?_
  obtain rfl|rfl|rfl:k=0∨k=1∨k=2:=by omega
  ·
   refine zD 10<|jpI (vs:=[.agg ⟨[]⟩,zP f,zI (a:Int),zI (b:Int),.int .u8 on]) (fun aI hs=>agC (hF.up hs) hV ha hb)<|zD 1<|js 20 (j7 K x y) (fun h2=>?_) (fun h2=>?_)
   ·
    refine zD 6<|zX (.bool false) ⟨by simp only[dj,ha,hb];simp[*],rfl⟩
   refine zD 6<|bI bH 1 ⟨by omega,(fun _=>by assumption),nofun,nofun⟩ (by omega) [] (Sub.refl _)
  ·
   refine zD 10<|jpI (vs:=[.agg ⟨[]⟩,zP f,zI (a:Int),zI (b:Int),.int .u8 on]) (fun aI hs=>Rb (hF.up hs) hV ha hb)<|zD 1<|js 20 (mP K x y) (fun h3=>?_) (fun h3=>?_)
   ·
    refine zD 6<|zX (.bool false) ⟨by simp only[dj,ha,hb];simp[*],rfl⟩
   refine zD 6<|bI bH 2 ⟨by omega,(fun _=>hI.2.1 (by omega)),(fun _=>by assumption),nofun⟩ (by omega) [] (Sub.refl _)
  refine zD 10<|jpI (vs:=[.agg ⟨[]⟩,zP f,zI (a:Int),zI (b:Int),.int .u8 on]) (fun aI hs=>Yq (hF.up hs) hV)<|zD 1<|js 20 (xV on a b K.facts 0) (fun h4=>?_) (fun h4=>?_)
  ·
   refine zD 6<|zX (.bool false) ⟨by simp only[dj,ha,hb];simp[*],rfl⟩
  refine zD 6<|bI bH 3 ⟨by omega,(fun _=>hI.2.1 (by omega)),(fun _=>hI.2.2.1 (by omega)),(fun _=>by assumption)⟩ (by omega) [] (Sub.refl _)
 refine zD 7<|zX (.bool true) ⟨by simp only[dj,ha,hb,hI.2.1 (by omega),hI.2.2.1 (by omega),hI.2.2.2 (by omega)];rfl,rfl⟩
abbrev eP4(p:Nat→Int):List Value:=[zI (p 0),zI (p 1),zI (p 2),zI (p 3)]
abbrev pL(p:Nat→Int):List Int:=[p 0,p 1,p 2,p 3]
def ig(p:Nat→Int)(a:Nat)(v:Int):Nat→Int:=fun i=>if i=a then v else p i
theorem Aa{a:Nat}(h:a <4):a=0∨a=1∨a=2∨a=3:=by omega
theorem auB{a:Nat}(h:a <4):nth (eP4 p) (0+(a:Int).toNat*1)=some (zI (p a)):=by
 rcases Aa h with rfl|rfl|rfl|rfl<;>rfl
theorem auA{a:Nat}{v:Int}(h:a <4):dB (eP4 p) (0+(a:Int).toNat*1) [zI v]=eP4 (ig p a v):=by
 rcases Aa h with rfl|rfl|rfl|rfl<;>rfl
theorem auC{a:Nat}{v:Value}(h:a <4):Nat.ble ((0+(a:Int).toNat*1)+[v].length) (eP4 p).length=true:=by
 rcases Aa h with rfl|rfl|rfl|rfl<;>rfl
theorem Xz{r:bE}{a:Nat}(h:a <4)(k:b <4):nth (Bo r) (0+(a:Int).toNat*4+(b:Int).toNat*1)=some (.bool (r.c a b)):=by
 rcases Aa h with rfl|rfl|rfl|rfl<;>rcases Aa k with rfl|rfl|rfl|rfl<;>rfl
def iT(r:bE)(a b:Nat)(v:Bool):bE:=⟨fun i j=>if i=a∧j=b then v else r.c i j⟩
theorem Xy{r:bE}{a:Nat}{v:Bool}(h:a <4)(k:b <4):dB (Bo r) (0+(a:Int).toNat*4+(b:Int).toNat*1) [.bool v]=Bo (iT r a b v):=by
 rcases Aa h with rfl|rfl|rfl|rfl<;>rcases Aa k with rfl|rfl|rfl|rfl<;>rfl
theorem XA{r:bE}{a:Nat}{v:Value}(h:a <4)(k:b <4):Nat.ble ((0+(a:Int).toNat*4+(b:Int).toNat*1)+[v].length) (Bo r).length=true:=by
 rcases Aa h with rfl|rfl|rfl|rfl<;>rcases Aa k with rfl|rfl|rfl|rfl<;>rfl
def lI(on:Int)(p:Nat→Int):List cu→Nat→Bool
 | [],_=>true
 |x::l,k=>bif (hasB on k&&x.same)&& !decide (p x.a.toNat=x.b+1) then false else lI on p l (k+1)
theorem xk{on:Int}{l:List cu}{x:cu}(h:l[k]?=some x):lI on p (l.drop k) k=bif (hasB on k&&x.same)&& !decide (p x.a.toNat=x.b+1) then false else lI on p (l.drop (k+1)) (k+1):=by rw[fx h];rfl
theorem Um{on:Int}{l:List cu}(h:¬k <l.length):lI on p (l.drop k) k=true:=by rw[eA h];rfl
def qt(p:Nat→Int)(a:Nat)(v:Int):Bool:=decide (cv (fun y=>decide (v=y)) ((pL p).take a) 0≥0)
theorem amJ(h:ro b=some (.cells ⟨eP4 p⟩ T (0,0)))(hn:n≤4):bD ro (.slice (some ⟨b,0,none⟩) n 4) 1 cm ((pL p).take n):=by
 have:=bD.part (bU (enc:=cm) (T:=T) (pL p) h (fun _ _=>rfl)) (l:=0) (h:=n) (by omega) (by simpa using hn)
 simpa [dI] using this
theorem avJ{v:Value}{n:Int}(hl:bD ro v 1 cm xs)(hn:xs.length≤1000000):dv zT 162 [v,zI n] ro (zI (cv (fun y=>decide (n=y)) xs 0)):=by
 obtain⟨fA,rQ,rP,eP,rfl,tQ,lJ,mE⟩:=hl
 refine zE<|zD 12<|dP [1,0,1,0,0] [] (fun(zz:Nat)=>[(0,.slice fA xs.length eP),(1,zI n),(7,zI (xs.length:Int)),(8,zI (zz:Int))]) (fun zz=>[]) (fun zz=>zz≤xs.length∧cv (fun y=>decide (n=y)) xs 0=cv (fun y=>decide (n=y)) (xs.drop zz) zz) (fun zz=>xs.length-zz) 0 ⟨by omega,rfl⟩ [] ?_
 rintro k hI K1 bH rest
 refine zD 5<|zJ 9 ((k:Int) <(xs.length:Int)) (fun h1=>?_) fun h1=>?_
 ·
  refine zD 14 ?_
  obtain⟨fJ,eI⟩:=zG xs k
  refine ek eP 1 lJ eI<|jl 0 (mE _ _ eI)<|zD 2<|zJ 16 (n=fJ) (fun h2=>?_) fun h2=>?_
  ·
   refine zD 7<|zX (zI (k:Int)) ⟨by rw[hI.2,jJ eI];simp[*],rfl⟩
  refine zD 3<|ja ((k:Int)+1) (by omega)<|zD 2<|bI bH (k+1) ⟨by omega,by rw[hI.2,jJ eI];simp[*]⟩ (by omega) [] (Sub.refl _)
 refine zD 7<|zX (zI (-1)) ⟨by rw[hI.2,qD (by omega)],rfl⟩
theorem aPr{v:Value}{n:Int}(hl:bD ro v 1 cm xs)(hn:xs.length≤1000000):dv zT 119 [v,zI n] ro (.bool (decide (cv (fun y=>decide (n=y)) xs 0≥0))):=by
 obtain⟨fA,rQ,rP,eP,rfl,tQ,lJ,mE⟩:=hl
 refine zE<|zD 8<|jp (vs:=[.slice fA xs.length eP,zI n]) [] [] (fun aI hs hZ=>avJ ((show bD _ _ _ _ _ from ⟨fA,rQ,rP,eP,rfl,tQ,lJ,mE⟩).up hs) (by first|omega| (simp only[List.length_set,zM];omega))) ?_
 refine zD 4<|zX (.bool (decide ((cv (fun y=>decide (n=y)) xs 0)≥0))) ⟨rfl,rfl⟩
theorem avd{rows:List bE}{on:Int}(hF:oX ro f K rows)(hV:eE K)(g1:ro b1=some (.cells ⟨[zP f]⟩ 100 (0,0)))(g2:ro b2=some (.cells ⟨[.int .u8 on]⟩ 105 (0,0))):dv zT 116 [.agg ⟨[zI (p 0),zI (p 1),zI (p 2),zI (p 3)]⟩,zP b1,zP b2] ro (.bool (lI on p K.facts 0)):=by
 obtain⟨c0,c1,c2,vc,vh,vr,vb,va,vf,vt,hv,hf,pR,nj,hr,CN,HR,J2,bV⟩:=id hF
 obtain⟨hc,hh,di⟩:=id pR
 obtain⟨ep,AK,AJ,dZ,rfl,Dx,yR,yQ⟩:=hc
 obtain⟨dH,u5,u4,du,rfl,xp,qR,qQ⟩:=hh
 obtain⟨kR,I8,I7,kQ,rfl,O3,Gw,Gv⟩:=hr
 obtain⟨lg,JD,JB,ky,rfl,JC,Eo,En⟩:=CN
 obtain⟨lj,JI,JG,kz,rfl,JH,Es,Ep⟩:=HR
 obtain⟨mi,UA,Uy,lf,rfl,Uz,Ni,Nh⟩:=J2
 obtain⟨nC,Em,Ek,mW,rfl,Qk,Nd,Nc⟩:=bV
 have Tn:=hV.rules.1
 have BK:=hV.before.1
 have EJ:=hV.after.1
 have hnf:=hV.facts.1
 refine zE<|zD 2<|jn fun b3=>zD 5<|jl (b:=b1) (off:=0) (m:=1) (vs:=[zP f]) 0 ⟨_,_,_,.inl g1,rfl⟩<|zD 3<|jl (b:=f) (off:=0) (m:=13) (vs:=[c0,c1,c2,.slice ep K.cs.length dZ,.slice dH hv.length du,.slice kR K.rules.length kQ,.slice lg K.before.length ky,.slice lj K.after.length kz,zI K.gone,zI K.new,zI K.af,.slice mi K.facts.length lf,.slice nC rows.length mW]) 11 ⟨_,_,_,.inl hf,rfl⟩<|zD 4<|dP [1,0,1,0,0] [] (fun(zz:Nat)=>[(2,zP b2),(3,zP b3),(11,.slice mi K.facts.length lf),(12,zI (K.facts.length:Int)),(13,zI (zz:Int))]) (fun zz=>[.b b3 (.cells ⟨[zI (p 0),zI (p 1),zI (p 2),zI (p 3)]⟩ 126 (0,0))]) (fun zz=>zz≤K.facts.length∧lI on p K.facts 0=lI on p (K.facts.drop zz) zz) (fun zz=>K.facts.length-zz) 0 ⟨by omega,rfl⟩ [0] ?_
 rintro k hI K1 bH rest
 refine zD 5<|zJ 14 ((k:Int) <(K.facts.length:Int)) (fun h1=>?_) fun h1=>?_
 ·
  refine zD 7 ?_
  obtain⟨tE,iK⟩:=zG K.facts k
  refine ek lf 3 Ni iK<|jl 0 (Nh _ _ iK)<|jn fun b6=>jd 4 [0] ?_
  have hf4:=(hV.facts.2 _ (zL iK)).1
  have hf5:=(hV.facts.2 _ (zL iK)).2
  have hae:tE.a=(tE.a.toNat:Int):=by omega
  refine zD 1<|jl (b:=b2) (off:=0) (m:=1) (vs:=[.int .u8 on]) 0 ⟨_,_,_,.inl g2,rfl⟩<|zD 1<|jp (vs:=[.int .u8 on,zI (k:Int)]) [] [] (fun aI hs hZ=>(avv (by omega)))<|zD 1<|js 3 (hasB on (k:Int)) (fun h2=>?_) (fun h2=>?_)
  ·
   refine jd 4 [0]<|js 7 tE.same (fun h3=>?_) (fun h3=>?_)
   ·
    refine jd 2 [0]<|LV (b:=b3) (off:=0) (len:=4) (sz:=1) tE.a (by omega)<|pg (b:=b3) (off:=0+tE.a.toNat*1) (m:=1) (vs:=[zI (p tE.a.toNat)]) 0 [1] [(b3,.cells ⟨[zI (p 0),zI (p 1),zI (p 2),zI (p 3)]⟩ 126 (0,0))] (fun s _ hZ=>sR (hZ _ (.head _)) (by rw[hae];exact auB (by omega))) ?_
    refine jd 2 [0]<|ja (tE.b+1) (by omega)<|zD 3<|js 34 (!decide ((p tE.a.toNat)=(tE.b+1))) (fun h4=>?_) (fun h4=>?_)
    ·
     replace h4:=of_decide_eq_false (by simpa using h4)
     refine zD 6<|zX (.bool false) ⟨by rw[hI.2,xk iK];simp only[h2,h3,decide_eq_false h4,Bool.and_true,Bool.true_and,Bool.not_false,Bool.not_true,Bool.and_false,Bool.false_and,cond_true,cond_false],rfl⟩
    replace h4:=of_decide_eq_true (by simpa using h4)
    refine zD 3<|ja ((k:Int)+1) (by omega)<|zD 2<|bI bH (k+1) ⟨by omega,by rw[hI.2,xk iK];simp only[h2,h3,decide_eq_true h4,Bool.and_true,Bool.true_and,Bool.not_false,Bool.not_true,Bool.and_false,Bool.false_and,cond_true,cond_false]⟩ (by omega) [1] (Sub.refl _)
   refine zD 13<|ja ((k:Int)+1) (by omega)<|zD 2<|bI bH (k+1) ⟨by omega,by rw[hI.2,xk iK];simp only[h2,h3,Bool.and_true,Bool.true_and,Bool.not_false,Bool.not_true,Bool.and_false,Bool.false_and,cond_true,cond_false]⟩ (by omega) [1] (Sub.refl _)
  refine zD 17<|ja ((k:Int)+1) (by omega)<|zD 2<|bI bH (k+1) ⟨by omega,by rw[hI.2,xk iK];simp only[h2,Bool.and_true,Bool.true_and,Bool.not_false,Bool.not_true,Bool.and_false,Bool.false_and,cond_true,cond_false]⟩ (by omega) [1] (Sub.refl _)
 refine zD 7<|zX (.bool true) ⟨by rw[hI.2,Um (by omega)],rfl⟩
def iE(K:aB)(on:Int):Nat→Nat→(Nat→Int)→List (Nat→Int)
 |0,_,p=>bif lI on p K.facts 0 then [p] else []
 |n+1,a,p=>iE K on n (a+1) p++(List.range K.after.length).flatMap fun b=>bif !dj K on a b||qt p a ((b:Int)+1) then [] else iE K on n (a+1) (ig p a ((b:Int)+1))
def nn(K:aB)(on:Int)(n a:Nat)(p:Nat→Int)(b:Nat):List (Nat→Int):=bif !dj K on a b||qt p a ((b:Int)+1) then [] else iE K on n (a+1) (ig p a ((b:Int)+1))
theorem qy(K:aB)(on:Int)(n a:Nat)(p:Nat→Int):iE K on (n+1) a p=iE K on n (a+1) p++(List.range K.after.length).flatMap (nn K on n a p):=rfl
theorem Part.left{α:Type}{L x y:List α}{p:Nat}(h:Part L p (x++y)):Part L p x:=by
 obtain⟨a,b,rfl,h2⟩:=h
 exact⟨a,y++b,by simp,h2⟩
theorem Part.right{α:Type}{L x y:List α}{p:Nat}(h:Part L p (x++y)):Part L (p+x.length) y:=by
 obtain⟨a,b,rfl,rfl⟩:=h
 exact⟨a++x,b,by simp,by simp⟩
theorem aaD(h:j <n):∃r,List.range n=List.range j++[j]++r:=by
 refine⟨(List.range n).drop (j+1),?_⟩
 have h1:(List.range n).take (j+1)=List.range (j+1):=by rw[List.take_range,Nat.min_eq_left h]
 rw[←List.range_succ,←h1,List.take_append_drop]
theorem Y3{q:Nat→Int}{a:Nat}{v:Int}(ha:a <4)(h:∀i,i≠a→q i=p i):qt q a v=qt p a v:=by
 have:(pL q).take a=(pL p).take a:=by
  rcases Aa ha with rfl|rfl|rfl|rfl
  ·rfl
  ·simp[h 0 (by omega)]
  ·simp[h 0 (by omega),h 1 (by omega)]
  simp[h 0 (by omega),h 1 (by omega),h 2 (by omega)]
 simp only[qt,this]
theorem Xf{q:Nat→Int}{a:Nat}{v:Int}(h:∀i,i≠a→q i=p i):ig q a v=ig p a v:=by
 funext i
 simp only[ig]
 split
 ·rfl
 rename_i hi;exact h i hi
abbrev ePs(L:List (Nat→Int)):(Nat→Option Obj)→Nat→List Value→Cells→Prop:=fun _ k vs LL=>∃p,L[k]?=some p∧vs=[.agg ⟨eP4 p⟩]∧LL=[]
structure ak4(ro:Nat→Option Obj)(bl f:Nat)(K:aB)(on:Int)(bf br bC bg bt bo:Nat):Prop where
 f:ro bf=some (.cells ⟨[zP f]⟩ 100 (0,0))
 r:ro br=some (.cells ⟨[.func (.func 116) ⟨[]⟩ ⟨[zP bf,zP bo]⟩]⟩ 218 (0,0))
 y:ro bC=some (.cells ⟨[.func (.yield bl) #[] #[]]⟩ 218 (0,0))
 g:ro bg=some (.cells ⟨[.func (.func 118) ⟨[]⟩ ⟨[zP bf,zP br,zP bC,zP bg,zP bt]⟩]⟩ 219 (0,0))
 t:ro bt=some (.cells ⟨Bo ⟨dj K on⟩⟩ 153 (0,0))
 o:ro bo=some (.cells ⟨[.int .u8 on]⟩ 105 (0,0))
def asC(bl f:Nat)(K:aB)(rows:List bE)(on:Int)(bf br bC bg bt bo:Nat)(L:List (Nat→Int))(Inv:Nat→Cells→Prop)(Stop:Cells→Prop)(n:Nat):Prop:=
 ∀(ro:Nat→Option Obj) (a:Nat) (p:Nat→Int) (q:Nat) (B:Cells),ak4 ro bl f K on bf br bC bg bt bo→oX ro f K rows→a+n=K.before.length→Part L q (iE K on n a p)→Inv q B→YOK zT bl ro L.length (ePs L) Inv Stop→
  dO zT 118 [.agg ⟨eP4 p⟩,zI (a:Int),zP bf,zP br,zP bC,zP bg,zP bt] ro B (fun r Y=>∃c,r= .bool c∧(c=true→Inv (q+(iE K on n a p).length) Y)∧(c=false→Stop Y))
theorem avw{a q:Nat}{on:Int}{B:Cells}{L:List (Nat→Int)}{Inv:Nat→Cells→Prop}{rows:List bE}(ih:∀m,m <n→asC bl f K rows on bf br bC bg bt bo L Inv Stop m)(hV:eE K)(oC:ak4 ro bl f K on bf br bC bg bt bo)(hF:oX ro f K rows)(han:a+n=K.before.length)(hP:Part L q (iE K on n a p))(hB:Inv q B)(hy:YOK zT bl ro L.length (ePs L) Inv Stop):dO zT 118 [.agg ⟨[zI (p 0),zI (p 1),zI (p 2),zI (p 3)]⟩,zI (a:Int),zP bf,zP br,zP bC,zP bg,zP bt] ro B (fun r Y=>∃c,r= .bool c∧(c=true→Inv (q+(iE K on n a p).length) Y)∧(c=false→Stop Y)):=by
 obtain⟨gf,gr,gy,gg,gt,go⟩:=id oC
 obtain⟨c0,c1,c2,vc,vh,vr,vb,va,vf,vt,hv,hf,pR,nj,hr,CN,HR,J2,bV⟩:=id hF
 obtain⟨hc,hh,di⟩:=id pR
 obtain⟨ep,AK,AJ,dZ,rfl,Dx,yR,yQ⟩:=hc
 obtain⟨dH,u5,u4,du,rfl,xp,qR,qQ⟩:=hh
 obtain⟨kR,I8,I7,kQ,rfl,O3,Gw,Gv⟩:=hr
 obtain⟨lg,JD,JB,ky,rfl,JC,Eo,En⟩:=CN
 obtain⟨lj,JI,JG,kz,rfl,JH,Es,Ep⟩:=HR
 obtain⟨mi,UA,Uy,lf,rfl,Uz,Ni,Nh⟩:=J2
 obtain⟨nC,Em,Ek,mW,rfl,Qk,Nd,Nc⟩:=bV
 have Tn:=hV.rules.1
 have BK:=hV.before.1
 have EJ:=hV.after.1
 have hnf:=hV.facts.1
 refine zC [.l B]<|zD 2<|jn fun b7=>zD 6<|jl (b:=bf) (off:=0) (m:=1) (vs:=[zP f]) 0 ⟨_,_,_,.inl gf,rfl⟩<|zD 3<|jl (b:=f) (off:=0) (m:=13) (vs:=[c0,c1,c2,.slice ep K.cs.length dZ,.slice dH hv.length du,.slice kR K.rules.length kQ,.slice lg K.before.length ky,.slice lj K.after.length kz,zI K.gone,zI K.new,zI K.af,.slice mi K.facts.length lf,.slice nC rows.length mW]) 6 ⟨_,_,_,.inl hf,rfl⟩<|zD 3<|zJ 18 ((a:Int)=(K.before.length:Int)) (fun h1=>?_) fun h1=>?_
 ·
  refine zD 2 ?_
  obtain rfl:n=0:=by omega
  refine zD 1<|jl (b:=br) (off:=0) (m:=1) (vs:=[.func (.func 116) ⟨[]⟩ ⟨[zP bf,zP bo]⟩]) 0 ⟨_,_,_,.inl gr,rfl⟩<|jd 1 [0]<|jp (vs:=[.agg ⟨[zI (p 0),zI (p 1),zI (p 2),zI (p 3)]⟩,zP bf,zP bo]) [] [] (fun aI hs hZ=>avd (hF.up hs) hV (hs _ _ gf) (hs _ _ go))<|zD 2<|js 23 (!(lI on p K.facts 0)) (fun h2=>?_) (fun h2=>?_)
  ·
   have mv:=h2
   try simp only[zB] at mv
   refine zD 7<|zR (.bool true) [] [1] B ⟨_,rfl,(fun _=>by rw[show iE K on 0 a p=[] by simp only[iE,show lI on p K.facts 0=false by simpa using h2];rfl];exact hB),nofun⟩
  have mv:=h2
  try simp only[zB] at mv
  have aim:iE K on 0 a p=[p]:=by simp only[iE,show lI on p K.facts 0=true by simpa using h2];rfl
  have hel:=Part.get (i:=0) (x:=p) hP (by rw[aim];rfl)
  refine jl (b:=bC) (off:=0) (m:=1) (vs:=[(.func (.yield bl) #[] #[])]) 0 ⟨_,_,_,.inl gy,rfl⟩<|jd 1 [0]<|jyc [1] (hy q [.agg ⟨[zI (p 0),zI (p 1),zI (p 2),zI (p 3)]⟩] [] B ro hel.1 ⟨_,hel.2,rfl,rfl⟩ hB (Sub.refl _)) (Sub.refl _) ?_
  intro v26 Y26 aPF
  obtain⟨c26,rfl,aSq,aSf⟩:=yb aPF
  refine zD 4<|zR (.bool c26) [] [0] Y26 ⟨_,rfl,(fun h=>by rw[aim];exact aSq h),aSf⟩
 refine zD 4 ?_
 obtain⟨m,rfl⟩:∃m,n=m+1:=⟨n-1,by omega⟩
 rw[qy] at hP
 refine zD 1<|jl (b:=bg) (off:=0) (m:=1) (vs:=[.func (.func 118) ⟨[]⟩ ⟨[zP bf,zP br,zP bC,zP bg,zP bt]⟩]) 0 ⟨_,_,_,.inl gg,rfl⟩<|jd 2 [0]<|ja ((a:Int)+1) (by omega)<|jc (vs:=[.agg ⟨[zI (p 0),zI (p 1),zI (p 2),zI (p 3)]⟩,zI ((a:Int)+1),zP bf,zP br,zP bC,zP bg,zP bt]) [1] (ih m (by omega) _ (a+1) p q _ oC hF (by omega) (Part.left hP) hB hy) ?_
 rintro _ Y32 ⟨c32,rfl,aSn,aSc⟩
 refine zD 2<|js 33 (!c32) (fun h3=>?_) (fun h3=>?_)
 ·
  try simp only[zB] at h3
  refine zD 6<|zR (.bool false) [] [0] Y32 ⟨_,rfl,nofun,fun _=>aSc (by simp_all)⟩
 try simp only[zB] at h3
 refine zD 5<|jl (b:=bf) (off:=0) (m:=1) (vs:=[zP f]) 0 ⟨_,_,_,.inl gf,rfl⟩<|zD 3<|jl (b:=f) (off:=0) (m:=13) (vs:=[c0,c1,c2,.slice ep K.cs.length dZ,.slice dH hv.length du,.slice kR K.rules.length kQ,.slice lg K.before.length ky,.slice lj K.after.length kz,zI K.gone,zI K.new,zI K.af,.slice mi K.facts.length lf,.slice nC rows.length mW]) 7 ⟨_,_,_,.inl hf,rfl⟩<|zD 4<|dP [1,1,1,0,1,0,0] [] (fun(zz:Nat×(Nat→Int)×Cells)=>[(1,zI (a:Int)),(5,zP bg),(6,zP bt),(7,zP b7),(39,zI (K.after.length:Int)),(40,zI (zz.1:Int))]) (fun zz=>[.b b7 (.cells ⟨[zI (zz.2.1 0),zI (zz.2.1 1),zI (zz.2.1 2),zI (zz.2.1 3)]⟩ 126 (0,0)),.l zz.2.2]) (fun zz=>zz.1≤K.after.length∧Inv (q+(iE K on m (a+1) p).length+((List.range zz.1).flatMap (nn K on m a p)).length) zz.2.2∧∀i,i≠a→zz.2.1 i=p i) (fun zz=>K.after.length-zz.1) (⟨0,p,Y32⟩) ⟨by dsimp only;omega,by have:=aSn (by simp_all);simpa using this,fun _ _=>rfl⟩ [1,0] ?_
 rintro⟨j,pp,B⟩ hJ K1 bH rest
 dsimp only at hJ
 refine zD 5<|zJ 41 ((j:Int) <(K.after.length:Int)) (fun h4=>?_) fun h4=>?_
 ·
  refine zD 11 ?_
  have ha4:a <4:=by omega
  have hj4:j <4:=by omega
  obtain⟨rr,hrr⟩:=aaD (show j <K.after.length by omega)
  have hPj:=Part.flat (Part.right hP) hrr
  refine zD 3<|LV (b:=bt) (off:=0) (len:=4) (sz:=4) (a:Int) (by omega)<|LV (b:=bt) (off:=0+(a:Int).toNat*4) (len:=4) (sz:=1) (j:Int) (by omega)<|jl (b:=bt) (off:=0+(a:Int).toNat*4+(j:Int).toNat*1) (m:=1) (vs:=[.bool (dj K on a j)]) 0 (sR (.inl gt) (Xz (r:=⟨dj K on⟩) ha4 hj4))<|zD 2<|js 49 (!(dj K on a j)) (fun h5=>?_) (fun h5=>?_)
  ·
   have EO:=h5
   try simp only[zB] at EO
   refine zD 10<|ja ((j:Int)+1) (by omega)<|zD 2<|bI bH (⟨j+1,pp,B⟩) ⟨by dsimp only;omega,by dsimp only;rw[List.range_succ,List.flatMap_append,List.length_append,List.flatMap_singleton,←Nat.add_assoc];rw[show nn K on m a p j=[] by simp only[nn,h5];rfl];exact hJ.2.1,hJ.2.2⟩ (by dsimp only;omega) [0,1] (Sub.refl _)
  have EO:=h5
  try simp only[zB] at EO
  refine zD 1<|jah (b:=b7) (off:=0) (len:=4) (a:Int) (by omega)<|zD 1<|ja ((j:Int)+1) (by omega)<|jp (vs:=[(.slice (some ⟨b7,0,none⟩) (a:Int).toNat 4),zI ((j:Int)+1)]) [0] [(b7,.cells ⟨[zI (pp 0),zI (pp 1),zI (pp 2),zI (pp 3)]⟩ 126 (0,0))] (fun aI hs hZ=>aPr (amJ hZ.head (by omega)) (by rw[List.length_take];omega)) ?_
  refine zD 2<|js 55 (qt pp a ((j:Int)+1)) (fun h6=>?_) (fun h6=>?_)
  ·
   refine zD 3<|ja ((j:Int)+1) (by omega)<|zD 2<|bI bH (⟨j+1,pp,B⟩) ⟨by dsimp only;omega,by dsimp only;rw[List.range_succ,List.flatMap_append,List.length_append,List.flatMap_singleton,←Nat.add_assoc];rw[show nn K on m a p j=[] by simp only[nn,←Y3 ha4 hJ.2.2,h5,h6];rfl];exact hJ.2.1,hJ.2.2⟩ (by dsimp only;omega) [0,1] (Sub.refl _)
  have hg0:nn K on m a p j=iE K on m (a+1) (ig p a ((j:Int)+1)):=by simp only[nn,←Y3 ha4 hJ.2.2,h5,h6];rfl
  have hPg:Part L (q+(iE K on m (a+1) p).length+((List.range j).flatMap (nn K on m a p)).length) (iE K on m (a+1) (ig pp a ((j:Int)+1))):=by rw[Xf hJ.2.2,←hg0];exact hPj
  refine zD 6<|ja ((j:Int)+1) (by omega)<|LV (b:=b7) (off:=0) (len:=4) (sz:=1) (a:Int) (by omega)<|jsx 0 b7 (0+(a:Int).toNat*1) [zI (pp 0),zI (pp 1),zI (pp 2),zI (pp 3)] [zI ((j:Int)+1)] 126 (by intro v hv;rw[List.mem_singleton] at hv;subst hv;rfl) (auC (p:=pp) ha4) ?_
  refine jmw 0 [.b b7 (.cells ⟨[zI ((ig pp a ((j:Int)+1)) 0),zI ((ig pp a ((j:Int)+1)) 1),zI ((ig pp a ((j:Int)+1)) 2),zI ((ig pp a ((j:Int)+1)) 3)]⟩ 126 (0,0))] (L:=[(b7,.cells ⟨dB [zI (pp 0),zI (pp 1),zI (pp 2),zI (pp 3)] (0+(a:Int).toNat*1) [zI ((j:Int)+1)]⟩ 126 (0,0))]) (by rw[auA ha4];rfl) ?_
  refine zD 3<|jl (b:=bg) (off:=0) (m:=1) (vs:=[.func (.func 118) ⟨[]⟩ ⟨[zP bf,zP br,zP bC,zP bg,zP bt]⟩]) 0 ⟨_,_,_,.inl gg,rfl⟩<|jd 2 [0]<|ja ((a:Int)+1) (by omega)<|jc (vs:=[.agg ⟨[zI ((ig pp a ((j:Int)+1)) 0),zI ((ig pp a ((j:Int)+1)) 1),zI ((ig pp a ((j:Int)+1)) 2),zI ((ig pp a ((j:Int)+1)) 3)]⟩,zI ((a:Int)+1),zP bf,zP br,zP bC,zP bg,zP bt]) [1] (ih m (by omega) _ (a+1) _ (q+(iE K on m (a+1) p).length+((List.range j).flatMap (nn K on m a p)).length) _ oC hF (by omega) hPg hJ.2.1 hy) ?_
  rintro _ Y64 ⟨ZA,rfl,aSl,aSa⟩
  refine zD 2<|js 65 (!ZA) (fun h7=>?_) (fun h7=>?_)
  ·
   try simp only[zB] at h7
   refine zD 6<|zR (.bool false) [] [0] Y64 ⟨_,rfl,nofun,fun _=>aSa (by simp_all)⟩
  try simp only[zB] at h7
  refine zD 3<|ja ((j:Int)+1) (by omega)<|zD 2<|bI bH (⟨j+1,(ig pp a ((j:Int)+1)),Y64⟩) ⟨by dsimp only;omega,by dsimp only;rw[List.range_succ,List.flatMap_append,List.length_append,List.flatMap_singleton,←Nat.add_assoc];rw[hg0,←Xf hJ.2.2];exact aSl (by simp_all),(fun i hi=>by simp only[ig,if_neg hi];exact hJ.2.2 i hi)⟩ (by dsimp only;omega) [1,0] (Sub.refl _)
 refine zD 7<|zR (.bool true) [] [1] B ⟨_,rfl,(fun _=>by rw[qy,List.length_append,←Nat.add_assoc];have:=hJ.2.1;rwa[show j=K.after.length by omega] at this),nofun⟩
theorem aEO(hV:eE K){rows:List bE}{on:Int}{L:List (Nat→Int)}{Inv:Nat→Cells→Prop}:∀n,asC bl f K rows on bf br bC bg bt bo L Inv Stop n:=by
 intro n
 induction n using Nat.strongRecOn with
 |_ n ih=>exact fun ro a p q B hc hF han hP hB hy=>avw ih hV hc hF han hP hB hy
def aN(K:aB)(on:Int):List (Nat→Int):=iE K on K.before.length 0 fun _=>0
theorem Zk{on:Int}{a:Nat}(h:¬a <K.before.length∨¬b <K.after.length):dj K on a b=false:=by
 rcases h with h|h
 ·simp[dj,List.getElem?_eq_none (Nat.le_of_not_lt h)]
 simp only[dj,List.getElem?_eq_none (Nat.le_of_not_lt h)]
 split
 ·rename_i h1;cases h1
 rfl
def EY(K:aB)(on:Int)(i j:Nat)(r:bE):Prop:=∀x y,r.c x y=((decide (x <i)||(decide (x=i)&&decide (y <j)))&&dj K on x y)
theorem EY.set{on:Int}{i:Nat}{r:bE}(h:EY K on i j r):EY K on i (j+1) (iT r i j (dj K on i j)):=fun x y=>by
 simp only[iT]
 split
 ·rename_i hx;obtain⟨rfl,rfl⟩:=hx;simp
 rename_i hx
 rw[h x y]
 congr 2
 by_cases e:x=i
 ·subst e
  have:y≠j:=fun e2=>hx ⟨rfl,e2⟩
  simp only[decide_true,Bool.true_and]
  congr 1
  exact propext (by omega)
 simp[e]
theorem EY.nxt{on:Int}{i:Nat}{r:bE}(h:EY K on i K.after.length r):EY K on (i+1) 0 r:=fun x y=>by
 rw[h x y]
 by_cases hy:y <K.after.length
 ·congr 1
  simp only[hy,decide_true,Bool.and_true,Nat.not_lt_zero,decide_false,Bool.and_false,Bool.or_false]
  rw[Bool.eq_iff_iff];simp;omega
 rw[Zk (.inr hy)];simp
theorem EY.fin{on:Int}{r:bE}(h:EY K on K.before.length 0 r):r=⟨dj K on⟩:=by
 rcases r with ⟨c⟩
 congr 1
 funext x y
 have:=h x y
 dsimp only at this
 rw[this]
 by_cases hx:x <K.before.length
 ·simp[hx]
 rw[Zk (.inl hx)];simp
theorem anh{a:Nat}(h:a <4):nth (eP4 p) ((a:Int).toNat*1)=some (zI (p a)):=by
 rcases Aa h with rfl|rfl|rfl|rfl<;>rfl
theorem aeo{r:bE}{a:Nat}{j:Int}(h:a <4)(k:0≤j∧j <4):nth (Bo r) (0+(a:Int).toNat*4+j.toNat*1)=some (.bool (r.c a j.toNat)):=by
 obtain⟨m,rfl⟩:=Int.eq_ofNat_of_zero_le k.1
 exact Xz h (by omega)
def Cn(r:bE)(p:Nat→Int):Nat→Int
 |0=>0
 |k+1=>Cn r p k+bif decide (p k>0)&& !r.c k (p k-1).toNat then 1 else 0
def bx(K:aB)(r:bE)(past:Nat)(p:Nat→Int):ah:=⟨past,p 0,p 1,p 2,p 3,K.before.length-qS (pL p),K.after.length-qS (pL p),Cn r p 4⟩
theorem XQ(p:Nat→Int):0≤qS (pL p)∧qS (pL p)≤4:=by
 have:=List.length_filter_le (fun x=>decide (x>0)) (pL p)
 simp only[qS]
 exact⟨by omega,by simp only[List.length_cons,List.length_nil] at this;omega⟩
theorem Yr{rows:List bE}{on:Int}(hF:oX ro f K rows)(hV:eE K)(g1:ro b1=some (.cells ⟨[zP f]⟩ 100 (0,0)))(g2:ro b2=some (.cells ⟨[.func (.func 116) ⟨[]⟩ ⟨[zP b1,zP b4]⟩]⟩ 218 (0,0)))(g3:ro b3=some (.cells ⟨Bo ⟨dj K on⟩⟩ 153 (0,0)))(g4:ro b4=some (.cells ⟨[.int .u8 on]⟩ 105 (0,0))):ItX zT 117 [] [zP b1,zP b2,zP b3] ro [] (aN K on).length (ePs (aN K on)) (fun Z=>Z=[]):=by
 intro bl aI Inv Stop hs hy B hB
 replace g1:=hs _ _ g1
 replace g2:=hs _ _ g2
 replace g3:=hs _ _ g3
 replace g4:=hs _ _ g4
 replace hF:=hF.up hs
 refine zC [.l B]<|zD 2<|jn fun b4=>zD 3<|jn fun b5=>jd 9 [0,0]<|jf [1,0] ((b4,.cells ⟨[(.func (.yield bl) #[] #[])]⟩ 218 (0,0))::[(b5,.cells ⟨[.func (.func 118) ⟨[]⟩ ⟨[zP b1,zP b2,zP b4,zP b5,zP b3]⟩]⟩ 219 (0,0))]) fun z0 bZ iQ=>jc (vs:=[.agg ⟨[zI 0,zI 0,zI 0,zI 0]⟩,zI 0,zP b1,zP b2,zP b4,zP b5,zP b3]) [0] (aEO (K:=K) hV (on:=on) _ _ 0 (fun _=>0) 0 _ ⟨(bZ _ _ g1),(bZ _ _ g2),iQ _ (.head _),iQ _ (.tail _ (.head _)),(bZ _ _ g3),bZ _ _ g4⟩ (hF.up bZ) (Nat.zero_add _) ⟨[],[],by simp[aN],rfl⟩ hB (YOK.up hy bZ)) ?_
 rintro _ Y9 ⟨c9,rfl,hc9,hd9⟩
 refine zD 1<|aL q0.a (.tuple ⟨[]⟩) [] [0] Y9 bZ ⟨_,_,rfl,rfl,[],Y9,rfl,rfl,by cases c9 with|true=>exact .inl (by simpa [aN] using hc9 rfl)|false=>exact .inr (hd9 rfl)⟩
theorem LJ{rows:List bE}{on:Int}(hF:oX ro f K rows)(hV:eE K):dO zT 92 [zP f,.int .u8 on] ro [] (fun r Y=>∃b1 b2 b3 b4,r= .func (.func 117) ⟨[]⟩ ⟨[zP b1,zP b2,zP b3]⟩∧Y=[(b1,.cells ⟨[zP f]⟩ 100 (0,0)),(b2,.cells ⟨[.func (.func 116) ⟨[]⟩ ⟨[zP b1,zP b4]⟩]⟩ 218 (0,0)),(b3,.cells ⟨Bo ⟨dj K on⟩⟩ 153 (0,0)),(b4,.cells ⟨[.int .u8 on]⟩ 105 (0,0))]):=by
 obtain⟨c0,c1,c2,vc,vh,vr,vb,va,vf,vt,hv,hf,pR,nj,hr,CN,HR,J2,bV⟩:=id hF
 obtain⟨hc,hh,di⟩:=id pR
 obtain⟨ep,AK,AJ,dZ,rfl,Dx,yR,yQ⟩:=hc
 obtain⟨dH,u5,u4,du,rfl,xp,qR,qQ⟩:=hh
 obtain⟨kR,I8,I7,kQ,rfl,O3,Gw,Gv⟩:=hr
 obtain⟨lg,JD,JB,ky,rfl,JC,Eo,En⟩:=CN
 obtain⟨lj,JI,JG,kz,rfl,JH,Es,Ep⟩:=HR
 obtain⟨mi,UA,Uy,lf,rfl,Uz,Ni,Nh⟩:=J2
 obtain⟨nC,Em,Ek,mW,rfl,Qk,Nd,Nc⟩:=bV
 have Tn:=hV.rules.1
 have BK:=hV.before.1
 have EJ:=hV.after.1
 have hnf:=hV.facts.1
 refine zE<|zD 2<|jn fun b2=>jn fun b3=>zD 4<|jn fun b5=>jd 8 [2]<|jl (b:=f) (off:=0) (m:=13) (vs:=[c0,c1,c2,.slice ep K.cs.length dZ,.slice dH hv.length du,.slice kR K.rules.length kQ,.slice lg K.before.length ky,.slice lj K.after.length kz,zI K.gone,zI K.new,zI K.af,.slice mi K.facts.length lf,.slice nC rows.length mW]) 6 ⟨_,_,_,.inl hf,rfl⟩<|zD 4<|dP [1,1,0,1,0,0] [] (fun(zz:Nat×bE)=>[(2,zP b2),(3,zP b3),(4,.nilFunc),(5,zP b5),(14,zI (K.before.length:Int)),(15,zI (zz.1:Int))]) (fun zz=>[.b b5 (.cells ⟨[.bool (zz.2.c 0 0),.bool (zz.2.c 0 1),.bool (zz.2.c 0 2),.bool (zz.2.c 0 3),.bool (zz.2.c 1 0),.bool (zz.2.c 1 1),.bool (zz.2.c 1 2),.bool (zz.2.c 1 3),.bool (zz.2.c 2 0),.bool (zz.2.c 2 1),.bool (zz.2.c 2 2),.bool (zz.2.c 2 3),.bool (zz.2.c 3 0),.bool (zz.2.c 3 1),.bool (zz.2.c 3 2),.bool (zz.2.c 3 3)]⟩ 153 (0,0)),.b b3 (.cells ⟨[.int .u8 on]⟩ 105 (0,0)),.b b2 (.cells ⟨[zP f]⟩ 100 (0,0))]) (fun zz=>zz.1≤K.before.length∧EY K on zz.1 0 zz.2) (fun zz=>K.before.length-zz.1) (⟨0,⟨fun _ _=>false⟩⟩) ⟨by dsimp only;omega,fun x y=>by simp⟩ [0,1,2] ?_
 rintro⟨i,r⟩ hI K1 bH rest
 dsimp only at hI
 refine zD 5<|zJ 16 ((i:Int) <(K.before.length:Int)) (fun h1=>?_) fun h1=>?_
 ·
  refine jd 15 [2]<|jl (b:=f) (off:=0) (m:=13) (vs:=[c0,c1,c2,.slice ep K.cs.length dZ,.slice dH hv.length du,.slice kR K.rules.length kQ,.slice lg K.before.length ky,.slice lj K.after.length kz,zI K.gone,zI K.new,zI K.af,.slice mi K.facts.length lf,.slice nC rows.length mW]) 7 ⟨_,_,_,.inl hf,rfl⟩<|zD 4<|dP [1,1,0,1,0,0,1,1,0,0,1,1,0,0] [K1] (fun(zz:Nat×bE)=>[(2,zP b2),(3,zP b3),(4,.nilFunc),(5,zP b5),(6,zI (i:Int)),(14,zI (K.before.length:Int)),(15,zI (i:Int)),(23,zI (K.after.length:Int)),(24,zI (zz.1:Int))]) (fun zz=>[.b b5 (.cells ⟨[.bool (zz.2.c 0 0),.bool (zz.2.c 0 1),.bool (zz.2.c 0 2),.bool (zz.2.c 0 3),.bool (zz.2.c 1 0),.bool (zz.2.c 1 1),.bool (zz.2.c 1 2),.bool (zz.2.c 1 3),.bool (zz.2.c 2 0),.bool (zz.2.c 2 1),.bool (zz.2.c 2 2),.bool (zz.2.c 2 3),.bool (zz.2.c 3 0),.bool (zz.2.c 3 1),.bool (zz.2.c 3 2),.bool (zz.2.c 3 3)]⟩ 153 (0,0)),.b b3 (.cells ⟨[.int .u8 on]⟩ 105 (0,0)),.b b2 (.cells ⟨[zP f]⟩ 100 (0,0))]) (fun zz=>zz.1≤K.after.length∧EY K on i zz.1 zz.2) (fun zz=>K.after.length-zz.1) (⟨0,r⟩) ⟨by dsimp only;omega,hI.2⟩ [0,1,2] ?_
  rintro⟨j,r⟩ hJ K2 mr rest
  dsimp only at hJ
  refine zD 5<|zJ 25 ((j:Int) <(K.after.length:Int)) (fun h2=>?_) fun h2=>?_
  ·
   refine zD 9 ?_
   obtain⟨x,ha⟩:∃x,K.before[i]?=some x:=⟨_,List.getElem?_eq_getElem (by omega)⟩
   obtain⟨y,hb⟩:∃y,K.after[j]?=some y:=⟨_,List.getElem?_eq_getElem (by omega)⟩
   refine jd 7 [2,1]<|LV (b:=b5) (off:=0) (len:=4) (sz:=4) (i:Int) (by omega)<|jp (vs:=[zP f,zI (i:Int),zI (j:Int),.int .u8 on]) [] [] (fun aI hs hZ=>aEP (hF.up hs) hV ha hb)<|LV (b:=b5) (off:=0+(i:Int).toNat*4) (len:=4) (sz:=1) (j:Int) (by omega)<|aV 9 fun pW pZ oU=>jsx 0 b5 (0+(i:Int).toNat*4+(j:Int).toNat*1) [.bool (r.c 0 0),.bool (r.c 0 1),.bool (r.c 0 2),.bool (r.c 0 3),.bool (r.c 1 0),.bool (r.c 1 1),.bool (r.c 1 2),.bool (r.c 1 3),.bool (r.c 2 0),.bool (r.c 2 1),.bool (r.c 2 2),.bool (r.c 2 3),.bool (r.c 3 0),.bool (r.c 3 1),.bool (r.c 3 2),.bool (r.c 3 3)] [.bool (dj K on i j)] 153 (by intro v hv;rw[List.mem_singleton] at hv;subst hv;rfl) (XA (r:=r) (by omega) (by omega)) ?_
   refine jmw 0 [.b b5 (.cells ⟨[.bool ((iT r i j (dj K on i j)).c 0 0),.bool ((iT r i j (dj K on i j)).c 0 1),.bool ((iT r i j (dj K on i j)).c 0 2),.bool ((iT r i j (dj K on i j)).c 0 3),.bool ((iT r i j (dj K on i j)).c 1 0),.bool ((iT r i j (dj K on i j)).c 1 1),.bool ((iT r i j (dj K on i j)).c 1 2),.bool ((iT r i j (dj K on i j)).c 1 3),.bool ((iT r i j (dj K on i j)).c 2 0),.bool ((iT r i j (dj K on i j)).c 2 1),.bool ((iT r i j (dj K on i j)).c 2 2),.bool ((iT r i j (dj K on i j)).c 2 3),.bool ((iT r i j (dj K on i j)).c 3 0),.bool ((iT r i j (dj K on i j)).c 3 1),.bool ((iT r i j (dj K on i j)).c 3 2),.bool ((iT r i j (dj K on i j)).c 3 3)]⟩ 153 (0,0))] (L:=[(b5,.cells ⟨dB [.bool (r.c 0 0),.bool (r.c 0 1),.bool (r.c 0 2),.bool (r.c 0 3),.bool (r.c 1 0),.bool (r.c 1 1),.bool (r.c 1 2),.bool (r.c 1 3),.bool (r.c 2 0),.bool (r.c 2 1),.bool (r.c 2 2),.bool (r.c 2 3),.bool (r.c 3 0),.bool (r.c 3 1),.bool (r.c 3 2),.bool (r.c 3 3)] (0+(i:Int).toNat*4+(j:Int).toNat*1) [.bool (dj K on i j)]⟩ 153 (0,0))]) (by rw[Xy (by omega) (by omega)];rfl) ?_
   refine gM oU []<|zD 2<|ja ((j:Int)+1) (by omega)<|zD 2<|bI mr (⟨j+1,(iT r i j (dj K on i j))⟩) ⟨by dsimp only;omega,hJ.2.set⟩ (by dsimp only;omega) [0,1,2] (Sub.refl _)
  refine zD 3<|ja ((i:Int)+1) (by omega)<|zD 2<|bI bH (⟨i+1,r⟩) ⟨by dsimp only;omega,EY.nxt (by have:=hJ.2;rwa[show j=K.after.length by omega] at this)⟩ (by dsimp only;omega) [0,1,2] (Sub.refl _)
 refine zD 5<|jn fun b8=>jd 8 [0]<|zR (.func (.func 117) ⟨[]⟩ ⟨[zP b2,zP b8,zP b5]⟩) [] [3,0,1,2] ((b2,.cells ⟨[zP f]⟩ 100 (0,0))::((b8,.cells ⟨[.func (.func 116) ⟨[]⟩ ⟨[zP b2,zP b3]⟩]⟩ 218 (0,0))::((b5,.cells ⟨[.bool (r.c 0 0),.bool (r.c 0 1),.bool (r.c 0 2),.bool (r.c 0 3),.bool (r.c 1 0),.bool (r.c 1 1),.bool (r.c 1 2),.bool (r.c 1 3),.bool (r.c 2 0),.bool (r.c 2 1),.bool (r.c 2 2),.bool (r.c 2 3),.bool (r.c 3 0),.bool (r.c 3 1),.bool (r.c 3 2),.bool (r.c 3 3)]⟩ 153 (0,0))::[(b3,.cells ⟨[.int .u8 on]⟩ 105 (0,0))]))) ⟨_,_,_,_,rfl,by have e:=EY.fin (K:=K) (on:=on) (r:=r) (by have:=hI.2;rwa[show i=K.before.length by omega] at this);subst e;rfl⟩
theorem arf{rows:List bE}{past:Nat}{Jx:bE}(hF:oX ro f K rows)(hV:eE K)(CC:rows[past]?=some Jx) (hp:∀i,0≤p i∧p i≤4):dv zT 93 [zP f,zI (past:Int),.agg ⟨[zI (p 0),zI (p 1),zI (p 2),zI (p 3)]⟩] ro (.agg ⟨cE (bx K Jx past p)⟩):=by
 obtain⟨c0,c1,c2,vc,vh,vr,vb,va,vf,vt,hv,hf,pR,nj,hr,CN,HR,J2,bV⟩:=id hF
 obtain⟨hc,hh,di⟩:=id pR
 obtain⟨ep,AK,AJ,dZ,rfl,Dx,yR,yQ⟩:=hc
 obtain⟨dH,u5,u4,du,rfl,xp,qR,qQ⟩:=hh
 obtain⟨kR,I8,I7,kQ,rfl,O3,Gw,Gv⟩:=hr
 obtain⟨lg,JD,JB,ky,rfl,JC,Eo,En⟩:=CN
 obtain⟨lj,JI,JG,kz,rfl,JH,Es,Ep⟩:=HR
 obtain⟨mi,UA,Uy,lf,rfl,Uz,Ni,Nh⟩:=J2
 obtain⟨nC,Em,Ek,mW,rfl,Qk,Nd,Nc⟩:=bV
 have Tn:=hV.rules.1
 have BK:=hV.before.1
 have EJ:=hV.after.1
 have hnf:=hV.facts.1
 have hpc:=XQ p
 have Rx:=(List.getElem?_eq_some_iff.1 CC).1
 refine zE<|zD 2<|jn fun b5=>jn fun b6=>jd 4 [1]<|jp (vs:=[.agg ⟨[zI (p 0),zI (p 1),zI (p 2),zI (p 3)]⟩]) [] [] (fun aI hs hZ=>(ave (p0:=p 0) (p1:=p 1) (p2:=p 2) (p3:=p 3)))<|jd 10 [1]<|jl (b:=f) (off:=0) (m:=13) (vs:=[c0,c1,c2,.slice ep K.cs.length dZ,.slice dH hv.length du,.slice kR K.rules.length kQ,.slice lg K.before.length ky,.slice lj K.after.length kz,zI K.gone,zI K.new,zI K.af,.slice mi K.facts.length lf,.slice nC rows.length mW]) 6 ⟨_,_,_,.inl hf,rfl⟩<|zD 2<|ja ((K.before.length:Int)-(qS (pL p))) (by omega)<|zD 4<|jl (b:=f) (off:=0) (m:=13) (vs:=[c0,c1,c2,.slice ep K.cs.length dZ,.slice dH hv.length du,.slice kR K.rules.length kQ,.slice lg K.before.length ky,.slice lj K.after.length kz,zI K.gone,zI K.new,zI K.af,.slice mi K.facts.length lf,.slice nC rows.length mW]) 7 ⟨_,_,_,.inl hf,rfl⟩<|zD 2<|ja ((K.after.length:Int)-(qS (pL p))) (by omega)<|zD 1<|aV 19 fun BU B0 Ah=>jn fun b8=>eH Ah [1,2]<|aV 20 fun yA yI x6=>jd 1 [0]<|gq x6<|jd 8 [2]<|dP [1,1,1,0,1,0,0] [] (fun(zz:Nat×Int)=>[(0,zP f),(1,zI (past:Int)),(6,zP b6),(8,zP b8),(32,.agg ⟨[zI (p 0),zI (p 1),zI (p 2),zI (p 3)]⟩),(33,zI (zz.1:Int))]) (fun zz=>[.b b8 (.cells ⟨[zI (past:Int),zI (p 0),zI (p 1),zI (p 2),zI (p 3),zI ((K.before.length:Int)-(qS (pL p))),zI ((K.after.length:Int)-(qS (pL p))),zI zz.2]⟩ 128 (0,0)),.b b6 (.cells ⟨[zI 0,zI 0,zI 0,zI 0,zI 0,zI 0,zI 0,zI 0]⟩ 128 (0,0))]) (fun zz=>zz.1≤4∧zz.2=Cn Jx p zz.1∧(0≤zz.2∧zz.2≤zz.1)) (fun zz=>4-zz.1) (⟨0,0⟩) ⟨by dsimp only;omega,rfl,by dsimp only;omega⟩ [0,1] ?_
 rintro⟨k,m⟩ hI K3 hK3 rest
 dsimp only at hI
 refine zD 5<|zJ 34 ((k:Int) <4) (fun h3=>?_) fun h3=>?_
 ·
  refine zD 7<|jai (l:=[zI (p 0),zI (p 1),zI (p 2),zI (p 3)]) (k:Int) 4 1 false (by omega) (v:= zI (p k)) (show nth (eP4 p) _=_ from anh (by omega))<|zD 4 ?_
  have hpk:=hp k
  refine zD 4<|js 39 (decide ((p k)>0)) (fun h4=>?_) (fun h4=>?_)
  ·
   have yn:=h4
   replace yn:=of_decide_eq_true yn
   refine zD 3<|jl (b:=f) (off:=0) (m:=13) (vs:=[c0,c1,c2,.slice ep K.cs.length dZ,.slice dH hv.length du,.slice kR K.rules.length kQ,.slice lg K.before.length ky,.slice lj K.after.length kz,zI K.gone,zI K.new,zI K.af,.slice mi K.facts.length lf,.slice nC rows.length mW]) 12 ⟨_,_,_,.inl hf,rfl⟩<|zD 3<|ja ((p k)-1) (by omega) ?_
   obtain⟨x48,Hb⟩:=zG rows past
   refine ek mW 16 Nd Hb<|LV (b:=Em) (off:=Ek+past*16+0) (len:=4) (sz:=4) (k:Int) (by omega)<|LV (b:=Em) (off:=Ek+past*16+0+(k:Int).toNat*4) (len:=4) (sz:=1) ((p k)-1) (by omega)<|jl (b:=Em) (off:=Ek+past*16+0+(k:Int).toNat*4+((p k)-1).toNat*1) (m:=1) (vs:=[.bool (x48.c k ((p k)-1).toNat)]) 0 (show cB ⟨ro,[]⟩ Em (Ek+past*16+0+(k:Int).toNat*4+((p k)-1).toNat*1) 1 [.bool (x48.c k ((p k)-1).toNat)] from by have:=aeB (Nc _ _ Hb) (aeo (r:=x48) (a:=k) (j:=(p k)-1) (by omega) (by omega));simpa [Nat.add_assoc] using this) ?_
   refine zD 3<|js 53 (!(x48.c k ((p k)-1).toNat)) (fun h5=>?_) (fun h5=>?_)
   ·
    try simp only[zB] at h5
    refine jd 4 [0]<|ja (m+1) (by omega)<|jd 4 [0]<|ja ((k:Int)+1) (by omega)<|zD 2<|bI hK3 (⟨k+1,(m+1)⟩) ⟨by dsimp only;omega,by dsimp only;rw[Cn,hI.2.1];rw[CC] at Hb;cases Hb;simp only[decide_eq_true yn,h5,Bool.not_false,Bool.not_true,Bool.and_true,Bool.and_false,cond_true,cond_false,Int.add_zero],by dsimp only;omega⟩ (by dsimp only;omega) [0,1] (Sub.refl _)
   try simp only[zB] at h5
   refine zD 3<|ja ((k:Int)+1) (by omega)<|zD 2<|bI hK3 (⟨k+1,m⟩) ⟨by dsimp only;omega,by dsimp only;rw[Cn,hI.2.1];rw[CC] at Hb;cases Hb;simp only[decide_eq_true yn,h5,Bool.not_false,Bool.not_true,Bool.and_true,Bool.and_false,cond_true,cond_false,Int.add_zero],by dsimp only;omega⟩ (by dsimp only;omega) [0,1] (Sub.refl _)
  have yn:=h4
  replace yn:=of_decide_eq_false yn
  refine zD 18<|ja ((k:Int)+1) (by omega)<|zD 2<|bI hK3 (⟨k+1,m⟩) ⟨by dsimp only;omega,by dsimp only;rw[Cn,hI.2.1];simp only[decide_eq_false yn,Bool.false_and,cond_false,Int.add_zero],by dsimp only;omega⟩ (by dsimp only;omega) [0,1] (Sub.refl _)
 refine jd 8 [0,1]<|zR (.agg ⟨[zI (past:Int),zI (p 0),zI (p 1),zI (p 2),zI (p 3),zI ((K.before.length:Int)-(qS (pL p))),zI ((K.after.length:Int)-(qS (pL p))),zI m]⟩) [1] [] [] ⟨by rw[hI.2.1,show k=4 by omega];rfl,rfl⟩
def xb(v:Value)(xs:List ah)(Y:Cells):Prop:=∃ys,ys.Perm xs∧ax v 8 128 cE ys Y
def gp(xs:List ah):Prop:=∀x∈xs,0≤x.past∧x.past≤1000
theorem gp.perm{xs ys:List ah}(h:gp xs)(hp:ys.Perm xs):gp ys:=fun x hx=>h x (hp.mem_iff.1 hx)
theorem Fw{x:Int}(h:0≤x∧x≤1000000000):IntKind.i64.wrap (aS .u64 (IntKind.u64.wrap x) 1)=x / 2:=by
 have h1:IntKind.u64.wrap x=x:=sE .u64 rfl _ (by omega) (by simp[IntKind.bits];omega)
 rw[h1]
 have h2:aS .u64 x 1=x / 2:=by
  show x.fdiv 2=x / 2
  exact Int.fdiv_eq_ediv_of_nonneg _ (by decide)
 rw[h2,ko _ (by omega)]
theorem an9{x y:ah}(hx:0≤x.past∧x.past≤1000)(hy:0≤y.past∧y.past≤1000):dv zT 109 [.agg ⟨[zI x.past,zI x.w0,zI x.w1,zI x.w2,zI x.w3,zI x.gone,zI x.new,zI x.af]⟩,.agg ⟨[zI y.past,zI y.w0,zI y.w1,zI y.w2,zI y.w3,zI y.gone,zI y.new,zI y.af]⟩] ro (zI (x.past-y.past)):=by
 refine zE<|zD 2<|jn fun b2=>jn fun b3=>jd 8 [1,0]<|ja (x.past-y.past) (by omega)<|zD 3<|zX (zI (x.past-y.past)) ⟨rfl,rfl⟩
theorem aCi{v:Value}{xs:List ah}{L:Cells}{a b:Int}(ho:ax v 8 128 cE xs L)(hN:xs.length≤100000)(hP:gp xs)(zh:0≤a∧a≤b∧b≤xs.length):dO zT 190 [v,zI a,zI b,.func (.func 109) ⟨[]⟩ ⟨[]⟩] ro L (fun r Y=>xb v xs Y):=by
 refine zC [.l L]<|zD 3<|ja (a+1) (by omega)<|zD 3<|dP [1,0,0] [] (fun(zz:Int×(List ah)×Cells)=>[(0,v),(1,zI a),(2,zI b),(3,.func (.func 109) ⟨[]⟩ ⟨[]⟩),(8,zI zz.1)]) (fun zz=>[.l zz.2.2]) (fun zz=>(a+1≤zz.1)∧ax v 8 128 cE zz.2.1 zz.2.2∧zz.2.1.Perm xs) (fun zz=>(b-zz.1).toNat) (⟨(a+1),xs,L⟩) ⟨by dsimp only;omega,ho,.refl _⟩ [0] ?_
 rintro⟨i,ys,L⟩ hI K1 bH rest
 dsimp only at hI
 have YA:=hI.2.2.length_eq
 have hyp:=hP.perm hI.2.2
 refine zD 7<|zJ 14 (i <b) (fun h1=>?_) fun h1=>?_
 ·
  refine zD 10<|dP [1,0,0,1,0,0,1,0,0] [K1] (fun(zz:Int×(List ah)×Cells)=>[(0,v),(1,zI a),(2,zI b),(3,.func (.func 109) ⟨[]⟩ ⟨[]⟩),(8,zI i),(9,zI zz.1)]) (fun zz=>[.l zz.2.2]) (fun zz=>(a≤zz.1∧zz.1≤i)∧ax v 8 128 cE zz.2.1 zz.2.2∧zz.2.1.Perm xs) (fun zz=>(zz.1-a).toNat) (⟨i,ys,L⟩) ⟨by dsimp only;omega,hI.2⟩ [0] ?_
  rintro⟨j,ys,L⟩ hJ K2 mr rest
  dsimp only at hJ
  have YA:=hJ.2.2.length_eq
  have hyp:=hP.perm hJ.2.2
  refine zD 7<|js 3 (decide (j>a)) (fun h2=>?_) (fun h2=>?_)
  ·
   have mv:=h2
   replace mv:=of_decide_eq_true mv
   refine zD 3 ?_
   obtain⟨yB,lv⟩:=zG ys (j.toNat) (by first|omega| (simp only[List.length_set];omega))
   refine qi j 8 hJ.2.1 lv (Int.toNat_of_nonneg (show 0≤j∧j <((ys).length:Int) from (by first|omega| (simp only[List.length_set];omega))).1).symm (fun n8 aiD=>?_)
   refine pg 0 [0] L (fun s _ hZ=>cK hJ.2.1 aiD hZ lv)<|zD 2<|ja (j-1) (by omega) ?_
   obtain⟨od,iW⟩:=zG ys ((j-1).toNat) (by first|omega| (simp only[List.length_set];omega))
   refine qi (j-1) 8 hJ.2.1 iW (Int.toNat_of_nonneg (show 0≤(j-1)∧(j-1) <((ys).length:Int) from (by first|omega| (simp only[List.length_set];omega))).1).symm (fun b30 VF=>?_)
   refine pg 0 [0] L (fun s _ hZ=>cK hJ.2.1 VF hZ iW)<|aV 14 fun pW pZ oU=>jp (vs:=[.agg ⟨[zI yB.past,zI yB.w0,zI yB.w1,zI yB.w2,zI yB.w3,zI yB.gone,zI yB.new,zI yB.af]⟩,.agg ⟨[zI od.past,zI od.w0,zI od.w1,zI od.w2,zI od.w3,zI od.gone,zI od.new,zI od.af]⟩]) [] [] (fun aI hs hZ=>(an9 (x:=yB) (y:=od) (hyp _ (zL lv)) (hyp _ (zL iW))))<|eH oU [0]<|zD 3<|zJ 34 ((yB.past-od.past) <0) (fun h4=>?_) fun h4=>?_
   ·
    refine zD 9<|ja (j-1) (by omega)<|zD 2<|ja (j-1) (by omega) ?_
    obtain⟨xR,ED⟩:=zG ys ((j-1).toNat) (by first|omega| (simp only[List.length_set];omega))
    refine qi (j-1) 8 hJ.2.1 ED (Int.toNat_of_nonneg (show 0≤(j-1)∧(j-1) <((ys).length:Int) from (by first|omega| (simp only[List.length_set];omega))).1).symm (fun b45 aiC=>?_)
    refine pg 0 [0] L (fun s _ hZ=>cK hJ.2.1 aiC hZ ED)<|zD 2 ?_
    obtain⟨Ju,EC⟩:=zG ys (j.toNat) (by first|omega| (simp only[List.length_set];omega))
    refine qi j 8 hJ.2.1 EC (Int.toNat_of_nonneg (show 0≤j∧j <((ys).length:Int) from (by first|omega| (simp only[List.length_set];omega))).1).symm (fun b49 aiB=>?_)
    refine pg 0 [0] L (fun s _ hZ=>cK hJ.2.1 aiB hZ EC) ?_
    obtain⟨x51,EB⟩:=zG ys (j.toNat) (by first|omega| (simp only[List.length_set];omega))
    refine qi j 8 hJ.2.1 EB (Int.toNat_of_nonneg (show 0≤j∧j <((ys).length:Int) from (by first|omega| (simp only[List.length_set];omega))).1).symm (fun b51 aiA=>?_)
    refine aV 15 fun rI rK qu=>Tj 0 0 [zI xR.past,zI xR.w0,zI xR.w1,zI xR.w2,zI xR.w3,zI xR.gone,zI xR.new,zI xR.af] xR hJ.2.1 aiA EB rfl rfl (Nat.le_of_ble_eq_true rfl) fun L6 ho7=>gM qu [] ?_
    obtain⟨x52,wq⟩:=zG ((ys.set j.toNat xR)) ((j-1).toNat) (by first|omega| (simp only[List.length_set];omega))
    refine qi (j-1) 8 ho7 wq (Int.toNat_of_nonneg (show 0≤(j-1)∧(j-1) <(((ys.set j.toNat xR)).length:Int) from (by first|omega| (simp only[List.length_set];omega))).1).symm (fun b52 aiz=>?_)
    refine aV 17 fun An Ay Ba=>Tj 0 0 [zI Ju.past,zI Ju.w0,zI Ju.w1,zI Ju.w2,zI Ju.w3,zI Ju.gone,zI Ju.new,zI Ju.af] Ju ho7 aiz wq rfl rfl (Nat.le_of_ble_eq_true rfl) fun L9 ahW=>gq Ba<|zD 3<|ja (j-1) (by omega)<|zD 2<|bI mr (⟨(j-1),((ys.set j.toNat xR).set ((j-1).toNat) Ju),L9⟩) ⟨by dsimp only;omega,ahW,(nD EC ED).trans hJ.2.2⟩ (by dsimp only;omega) [0] (Sub.refl _)
   refine zD 4<|ja (i+1) (by omega)<|zD 2<|bI bH (⟨(i+1),ys,L⟩) ⟨by dsimp only;omega,hJ.2⟩ (by dsimp only;omega) [0] (Sub.refl _)
  have mv:=h2
  replace mv:=of_decide_eq_false mv
  refine zD 18<|ja (i+1) (by omega)<|zD 2<|bI bH (⟨(i+1),ys,L⟩) ⟨by dsimp only;omega,hJ.2⟩ (by dsimp only;omega) [0] (Sub.refl _)
 refine zD 2<|zR (.tuple ⟨[]⟩) [] [0] L ⟨ys,hI.2.2,hI.2.1⟩
end Go.L
