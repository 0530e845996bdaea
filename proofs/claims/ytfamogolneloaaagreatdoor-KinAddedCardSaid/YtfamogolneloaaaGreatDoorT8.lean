/- Part 8 of the proof. -/
import Derived.Test.YtfamogolneloaaaGreatDoorT7
set_option maxRecDepth 100000
set_option linter.all false
namespace Go.L
open Go Go.Conc Go.Proofs
variable {ro:Nat→Option Obj} {rs:List cR} {p:Nat→Int} {vl vc vh:Value} {K:aE} {b k f bG b1 b2 bl many bt br bg n bm b3 b4 j bf bo:Nat} {cs:List bO} {Stop:Cells→Prop} {x na nb:ByteArray} {hd:List cy} {l:List ByteArray} {y:aB} {T:TypeId} {xs:List Int}
def qv(rs:List cR):List (ByteArray×ByteArray):=rs.flatMap fun r=>[(r.f,r.t),(r.t,r.f)]
abbrev eP2(x:ByteArray×ByteArray):List Value:=[.string x.1,.string x.2]
def ki(w:ByteArray)(ps:List (ByteArray×ByteArray)):List ByteArray:=ps.flatMap fun p=>Eu w p.1 p.2
def sP(w:ByteArray)(rs:List cR):List ByteArray:=ki w (qv rs)
theorem LX:∀(rs:List cR),(qv rs).length=2*rs.length
 | []=>rfl
 |r::rs=>by have:=LX rs;simp only[qv,List.flatMap_cons,zM] at this ⊢;omega
theorem Ri:∀ {rs:List cR} {k q:Nat} {r:cR} {p:ByteArray×ByteArray},rs[k]?=some r→[(r.f,r.t),(r.t,r.f)][q]?=some p→(qv rs)[2*k+q]?=some p
 | [],_,_,_,_,h,_=>by simp at h
 |r::rs,0,q,_,p,h,h2=>by
  simp only[List.getElem?_cons_zero,Option.some.injEq] at h;subst h
  simp only[qv,List.flatMap_cons,Nat.mul_zero,Nat.zero_add]
  rw[List.getElem?_append_left (by have:=(List.getElem?_eq_some_iff.1 h2).1;exact this)];exact h2
 |r::rs,k+1,q,_,p,h,h2=>by
  have:=Ri (rs:=rs) (k:=k) (by simpa using h) h2
  simp only[qv,List.flatMap_cons]
  rw[List.getElem?_append_right (by simp;omega)]
  rw[show 2*(k+1)+q- [(r.f,r.t),(r.t,r.f)].length=2*k+q by simp;omega];exact this
theorem GN{w:ByteArray}{ps:List (ByteArray×ByteArray)}{p:ByteArray×ByteArray}(h:ps[k]?=some p):ki w (ps.take (k+1))=ki w (ps.take k)++Eu w p.1 p.2:=by
 rw[ki,e8 h,List.flatMap_append];simp[ki]
theorem amg{w:ByteArray}{ps:List (ByteArray×ByteArray)}{p:ByteArray×ByteArray}(h:ps[k]?=some p) (hx:(Eu w p.1 p.2)[j]?=some x):(ki w (ps.take k)).length+j <(ki w ps).length∧(ki w ps)[(ki w (ps.take k)).length+j]?=some x:=by
 have e:ki w ps=ki w (ps.take (k+1))++ki w (ps.drop (k+1)):=by rw[ki,ki,ki,←List.flatMap_append,List.take_append_drop]
 have hj:=(List.getElem?_eq_some_iff.1 hx).1
 have:(ki w ps)[(ki w (ps.take k)).length+j]?=some x:=by
  rw[e,GN h,List.append_assoc,List.getElem?_append_right (by omega),List.getElem?_append_left (by omega),show (ki w (ps.take k)).length+j-(ki w (ps.take k)).length=j by omega]
  exact hx
 exact⟨(List.getElem?_eq_some_iff.1 this).1,this⟩
theorem amT{r:cR}{p:ByteArray×ByteArray}{q:Nat}(h:rS r)(hp: [(r.f,r.t),(r.t,r.f)][q]?=some p):yh p.2∧(p.1.size≤100∧p.2.size≤100):=by
 have:=zL hp
 have h1:=h.f1;have h2:=h.t1
 simp only[List.mem_cons,List.not_mem_nil,or_false] at this
 rcases this with rfl|rfl
 ·exact⟨h.tl,by dsimp only;omega,by dsimp only;omega⟩
 exact⟨h.fl,by dsimp only;omega,by dsimp only;omega⟩
theorem abl{w f t:ByteArray}:dQ zT 281 [.string w,.string f,.string t] ro [] (fun r Y=>∃b3 b4 b5,r= .func (.func 298) ⟨[]⟩ ⟨[zP b3,zP b4,zP b5]⟩∧Y=[(b3,.cells ⟨[.string w]⟩ 308 (0,0)),(b4,.cells ⟨[.string f]⟩ 9 (0,0)),(b5,.cells ⟨[.string t]⟩ 9 (0,0))]):=by
 refine zE<|zD 2<|jn fun b3=>jn fun b4=>jn fun b5=>zD 8<|zR (.func (.func 298) ⟨[]⟩ ⟨[zP b3,zP b4,zP b5]⟩) [] [2,1,0] ((b3,.cells ⟨[.string w]⟩ 308 (0,0))::((b4,.cells ⟨[.string f]⟩ 9 (0,0))::[(b5,.cells ⟨[.string t]⟩ 9 (0,0))])) ⟨_,_,_,rfl,rfl⟩
theorem auJ{w:ByteArray}(hl:a8 ro vl 2 fW rs):dQ zT 257 [.string w,vl] ro [] (fun r Y=>∃b2 b3,r= .func (.func 280) ⟨[]⟩ ⟨[zP b3,zP b2]⟩∧Y=[(b2,.cells ⟨[.string w]⟩ 308 (0,0)),(b3,.cells ⟨[vl]⟩ 36 (0,0))]):=by
 obtain⟨dB,mP,mO,dz,rfl,qd,gY,jV⟩:=hl
 refine zE<|zD 2<|jn fun b2=>jn fun b3=>zD 8<|zR (.func (.func 280) ⟨[]⟩ ⟨[zP b3,zP b2]⟩) [] [1,0] ((b2,.cells ⟨[.string w]⟩ 308 (0,0))::[(b3,.cells ⟨[.slice dB rs.length dz]⟩ 36 (0,0))]) ⟨_,_,rfl,rfl⟩
theorem ana{w:ByteArray}(g1:ro b1=some (.cells ⟨[vl]⟩ 36 (0,0)))(hl:a8 ro vl 2 fW rs)(hR:∀r∈rs,rS r)(g2:ro b2=some (.cells ⟨[.string w]⟩ 308 (0,0)))(hw:yh w)(hn:w.size≤100)(hq:rs.length≤100):ItX zT 280 [] [zP b1,zP b2] ro [] (sP w rs).length (ar9 (sP w rs)) (fun Z=>Z=[]):=by
 intro bl aF Inv Stop hs hy B hB
 replace g1:=hs _ _ g1
 replace g2:=hs _ _ g2
 replace hl:=hl.up hs
 obtain⟨dB,mP,mO,dz,rfl,qd,gY,jV⟩:=hl
 refine agP ar [.l B] [] aU<|zD 2<|jn fun b3=>jf [0] [(b3,.cells ⟨[(.func (.yield bl) #[] #[])]⟩ 374 (0,0))] fun yt bL iJ=>zD 3<|jl (b:=b1) (off:=0) (m:=1) (vs:=[.slice dB rs.length dz]) 0 ⟨_,_,_,.inl (bL _ _ g1),rfl⟩<|zD 4<|nB<|aD2 [1,1,0,0] [] (fun(zz:Nat×(List Nat)×Cells)=>[(2,zP b2),(3,zP b3),(9,.slice dB rs.length dz),(10,zI (rs.length:Int)),(11,zI (zz.1:Int))]) (fun zz=>[.l (mk zz.2.1),.l zz.2.2]) (fun zz=>(zz.2.1.map eF)) (fun zz=>zz.1≤rs.length∧Inv (ki w ((qv rs).take (2*zz.1))).length zz.2.2) (fun zz=>rs.length-zz.1) (⟨0,[],B⟩) ⟨by dsimp only;omega,hB⟩ [0,1] ?_
 rintro⟨k,uK,B⟩ hI K1 bE rest
 dsimp only at hI
 refine zD 5<|zJ 12 ((k:Int) <(rs.length:Int)) (fun h4=>?_) fun h4=>?_
 ·
  refine zD 6 ?_
  obtain⟨x13,an4⟩:=zG rs k
  refine fL dz 2 gY an4<|jl 0 ((jV _ _ an4).ext (uD bL))<|jn fun b5=>jd 14 [0,0,0,0,0]<|jn fun oF=>zD 4<|aD2 [1,1,0,0,1,1,0,0,1,1,0,0] [K1] (fun(zz:Nat×(List Nat)×Cells)=>[(2,zP b2),(3,zP b3),(9,.slice dB rs.length dz),(10,zI (rs.length:Int)),(11,zI (k:Int)),(25,.slice (some ⟨oF,0,none⟩) 2 2),(26,zI 2),(27,zI (zz.1:Int))]) (fun zz=>[.l (mk zz.2.1),.l zz.2.2,.b oF (.cells ⟨[.string x13.f,.string x13.t,.string x13.t,.string x13.f]⟩ 375 (0,0))]) (fun zz=>(zz.2.1.map eF)) (fun zz=>zz.1≤2∧Inv (ki w ((qv rs).take (2*k+zz.1))).length zz.2.2) (fun zz=>2-zz.1) (⟨0,uK,B⟩) ⟨by dsimp only;omega,hI.2⟩ [2,3,0] ?_
  rintro⟨q,uK,B⟩ hJ K2 lG rest
  dsimp only at hJ
  refine zD 5<|zJ 28 ((q:Int) <2) (fun h5=>?_) fun h5=>?_
  ·
   refine zD 6 ?_
   obtain⟨E6,BK⟩:=zG ([(x13.f,x13.t),(x13.t,x13.f)]:List _) q (show q <2 from by omega)
   refine fL (a:=(some ⟨oF,0,none⟩)) (b:=oF) (off:=0) 2 2 (fun _ _=>rfl) BK<|oQ (m:=2) 0 [2] [(oF,.cells ⟨([(x13.f,x13.t),(x13.t,x13.f)].map eP2).flatten⟩ 375 (0,0))] (fun s _ hZ=>xL (hZ _ (.head _)) (by intro p hp;rfl) BK) ?_
   refine jn fun b7=>jd 3 [0] ?_
   have hpx:=Ri an4 BK
   have hpk:=amT (hR _ (zL an4)) BK
   refine zD 1<|jl (b:=b2) (off:=0) (m:=1) (vs:=[.string w]) 0 ⟨_,_,_,.inl (bL _ _ g2),rfl⟩<|jd 4 [0,0]<|jc (vs:=[.string w,.string E6.1,.string E6.2]) [] (abl) ?_
   rintro _ _ ⟨aqZ,aqY,aqX,rfl,rfl⟩
   refine jg 0 [.b aqZ (.cells ⟨[.string w]⟩ 308 (0,0)),.b aqY (.cells ⟨[.string E6.1]⟩ 9 (0,0)),.b aqX (.cells ⟨[.string E6.2]⟩ 9 (0,0))]<|jf [0,1,2] ((aqZ,.cells ⟨[.string w]⟩ 308 (0,0))::((aqY,.cells ⟨[.string E6.1]⟩ 9 (0,0))::[(aqX,.cells ⟨[.string E6.2]⟩ 9 (0,0))])) fun ro8 Ah hk7=>zD 2<|jrf [] (anb (hk7 _ (.head _)) (hk7 _ (.tail _ (.head _))) (hk7 _ (.tail _ (.tail _ (.head _)))) hw hpk.1 ⟨hn,hpk.2⟩) (by rintro _ _ _ _ ⟨_,_,rfl,_⟩;rfl) (fun(zz:Cells)=>[.l zz]) (fun kk=>(fun(zz:Cells)=>Inv ((ki w ((qv rs).take (2*k+q))).length+kk) zz)) (fun jump=>(fun(zz:Cells)=>jump= .ret∧Stop zz)) B (show Inv (_+0) _ from hJ.2) [2] ?_ ?_ ?_
   ·
    rintro bl9 bd9 kk9 vs9 LL9 B ro9 hk9 axd hL hs9
    obtain⟨x9,hx9,rfl,rfl⟩:=axd
    have hu:=amg hpx hx9
    refine zD 3<|jbg<|zD 3<|jl (b:=b3) (off:=0) (m:=1) (vs:=[(.func (.yield bl) #[] #[])]) 0 ⟨_,_,_,.inl (hs9 _ _ (Ah _ _ (iJ _ (.head _)))),rfl⟩<|zD 1<|jyc [1] (hy ((ki w ((qv rs).take (2*k+q))).length+kk9) _ [] B ro9 hu.1 ⟨_,hu.2,rfl,rfl⟩ hL ((bL.trans Ah).trans hs9)) (Sub.refl _) ?_
    intro v10 Y10 aPm
    obtain⟨c10,rfl,axA,axu⟩:=yb aPm
    refine zD 2<|js 41 (!c10) (fun BT=>?_) (fun BT=>?_)
    ·
     try simp only[zB] at BT
     refine zD 2<|jys qy0 (Sub.refl _) .ret Y10 ⟨rfl,axu (by simp_all)⟩ [1,0]
    try simp only[zB] at BT
    refine zD 2<|jyn qy0 (Sub.refl _) Y10 (axA (by simp_all)) [1,0]
   ·
    rintro bd9 B Z9 hL hZ9
    subst hZ9
    refine zD 1<|ja ((q:Int)+1) (by omega)<|zD 2<|jnD lG (⟨q+1,(bd9::uK),B⟩) ⟨by dsimp only;omega,by dsimp only;rw[←Nat.add_assoc,GN hpx,List.length_append];exact hL⟩ (by dsimp only;omega) [[0,4],[2],[5]] Ah
   rintro bd9 B Z9 jump hS hZ9
   obtain⟨rfl,hS⟩:=hS
   subst hZ9
   exact jrM qm0.a.w.w.a.m (.tuple ⟨[]⟩) [0,4] [] [1] B (bL.trans Ah) ⟨[],B,rfl,rfl,.inr hS⟩
  refine zD 3<|ja ((k:Int)+1) (by omega)<|zD 2<|jnD bE (⟨k+1,uK,B⟩) ⟨by dsimp only;omega,by have:=hJ.2;dsimp only;rwa[show 2*(k+1)=2*k+q by omega]⟩ (by dsimp only;omega) [[0],[1]] (Sub.refl _)
 refine zD 2<|jrM qm0.a.w (.tuple ⟨[]⟩) [0] [] [0] B bL ⟨[],B,rfl,rfl,.inl (by have:=hI.2;rwa[show k=rs.length by omega,List.take_of_length_le (by rw[LX];exact Nat.le_refl _)] at this)⟩
instance:LawfulBEq ByteArray where
 eq_of_beq:=fun h=>by rw[Ps] at h;exact of_decide_eq_true h
 rfl:=fun {a}=>by rw[Ps];exact decide_eq_true rfl
def dd(l:List ByteArray):List ByteArray:=l.foldl (fun a x=>if x∈a then a else a++[x]) []
theorem Pc(l:List ByteArray)(x:ByteArray):dd (l++[x])=if x∈dd l then dd l else dd l++[x]:=by rw[dd,List.foldl_append];rfl
theorem ayA(a:List ByteArray):∀b:List ByteArray,∃r,dd (a++b)=dd a++r:=by
 intro b
 induction b generalizing a with
 |nil=>exact⟨[],by simp⟩
 |cons x b ih=>
  obtain⟨r,hr⟩:=ih (a++[x])
  rw[show a++x::b=(a++[x])++b by simp,hr,Pc]
  split
  ·exact⟨r,rfl⟩
  exact⟨x::r,by simp⟩
abbrev kvS:ByteArray→Value:=fun a=> .string a
def mF(m:List ByteArray):List (ByteArray×Value):=m.map fun x=>(x,.bool true)
theorem Ww(k:ByteArray):∀(m:List ByteArray) (i:Nat),(sI k (mF m) i).map (·.2)=if k∈m then some (.bool true) else none
 | [],_=>rfl
 |x::m,i=>by
  simp only[mF,List.map_cons,sI]
  by_cases h:k=x
  ·simp[h]
  have:=Ww k m (i+1)
  simp only[mF] at this
  simp[h,this]
theorem aDC{k:ByteArray}{m:List ByteArray}:RS (.bool false) false k (mF m)= .bool (decide (k∈m)):=by
 simp only[RS,lkM,Ww]
 by_cases h:k∈m<;>simp[h]
theorem ati{k:ByteArray}{m:List ByteArray}(h:decide (k∈m)=false):mN k (.bool true) (mF m)=mF (m++[k]):=by
 have h:=of_decide_eq_false h
 have:=Ww k m 0
 rw[if_neg h] at this
 simp only[mN]
 cases hf:sI k (mF m) 0 with
 |none=>simp[mF]
 |some x=>rw[hf] at this;cases this
theorem akd(hx:l[k]?=some x) (h:decide (x∈dd (l.take k))=true):dd (l.take (k+1))=dd (l.take k):=by
 rw[e8 hx,Pc,if_pos (of_decide_eq_true h)]
theorem WN(hx:l[k]?=some x) (h:decide (x∈dd (l.take k))=false):dd (l.take (k+1))=dd (l.take k)++[x]:=by
 rw[e8 hx,Pc,if_neg (of_decide_eq_false h)]
theorem ayB(hx:l[k]?=some x) (h:decide (x∈dd (l.take k))=false):∃r,dd l=dd (l.take k)++[x]++r:=by
 obtain⟨r,hr⟩:=ayA (l.take (k+1)) (l.drop (k+1))
 rw[List.take_append_drop,WN hx h] at hr
 exact⟨r,hr⟩
def P3(rs:List cR)(to:ByteArray):Nat→ByteArray→List ByteArray→List (List ByteArray)
 |0,w,b=>if cI w to=true then [b++[w]] else []
 |n+1,w,b=>(dd (sP w rs)).flatMap fun s=>P3 rs to n s (b++[w])
theorem Pj{to:ByteArray}:∀ {n:Nat} {w:ByteArray} {b x:List ByteArray},x∈P3 rs to n w b→x.length=b.length+n+1
 |0,w,b,x,h=>by
  simp only[P3] at h
  split at h
  ·rw[List.mem_singleton] at h;subst h;simp
  cases h
 |n+1,w,b,x,h=>by
  simp only[P3,List.mem_flatMap] at h
  obtain⟨s,_,h2⟩:=h
  have:=Pj h2
  simp at this;omega
theorem amf{w:ByteArray}(hR:∀r∈rs,rS r)(hw:yh w)(h:x∈sP w rs):yh x∧x.size≤12:=by
 simp only[sP,ki,qv,List.mem_flatMap,Eu,vu,List.mem_filterMap,List.mem_range] at h
 obtain⟨p,⟨r,hr,hp⟩,i,_,hi⟩:=h
 have ht:yh p.2:=by
  simp only[List.mem_cons,List.not_mem_nil,or_false] at hp
  rcases hp with rfl|rfl
  ·exact(hR r hr).tl
  exact(hR r hr).fl
 simp only[qo] at hi
 split at hi
 ·rename_i hc
  cases hi
  exact⟨Lq hw ht,hc.2.2⟩
 cases hi
abbrev apb(L:List (List ByteArray)):(Nat→Option Obj)→Nat→List Value→Cells→Prop:=fun _ k vs LL=>∃x v,L[k]?=some x∧vs=[v]∧aw v 1 9 p6 x LL
structure ak7(ro:Nat→Option Obj)(bl:Nat)(rs:List cR)(to:ByteArray)(many bm bt bG br bg:Nat)(vl:Value):Prop where
 m:ro bm=some (.cells ⟨[zI (many:Int)]⟩ 3 (0,0))
 t:ro bt=some (.cells ⟨[.string to]⟩ 308 (0,0))
 y:ro bG=some (.cells ⟨[.func (.yield bl) #[] #[]]⟩ 341 (0,0))
 r:ro br=some (.cells ⟨[vl]⟩ 36 (0,0))
 g:ro bg=some (.cells ⟨[.func (.func 255) ⟨[]⟩ ⟨[zP bm,zP bt,zP bG,zP br,zP bg]⟩]⟩ 342 (0,0))
 l:a8 ro vl 2 fW rs
theorem ak7.up{aC:Nat→Option Obj}{to:ByteArray}(h:ak7 ro bl rs to many bm bt bG br bg vl)(hs:Sub ro aC):ak7 aC bl rs to many bm bt bG br bg vl:=
 ⟨hs _ _ h.m,hs _ _ h.t,hs _ _ h.y,hs _ _ h.r,hs _ _ h.g,h.l.up hs⟩
def asz(bl:Nat)(rs:List cR)(to:ByteArray)(many bm bt bG br bg:Nat)(vl:Value)(L:List (List ByteArray))(Inv:Nat→Cells→Prop)(Stop:Cells→Prop)(n:Nat):Prop:=
 ∀(ro:Nat→Option Obj) (w:ByteArray) (b:List ByteArray) (v:Value) (p:Nat) (B:Cells),ak7 ro bl rs to many bm bt bG br bg vl→a8 ro v 1 p6 b→b.length+n=many→yh w→w.size≤100→Part L p (P3 rs to n w b)→Inv p B→YOK zT bl ro L.length (apb L) Inv Stop→
  dQ zT 255 [.string w,v,zP bm,zP bt,zP bG,zP br,zP bg] ro B (fun r Y=>∃c,r= .bool c∧(c=true→Inv (p+(P3 rs to n w b).length) Y)∧(c=false→Stop Y))
theorem auL{w:ByteArray}{b:List ByteArray}{v:Value}{p:Nat}{B:Cells}{to:ByteArray}{L:List (List ByteArray)}{Inv:Nat→Cells→Prop}(ih:∀m,m <n→asz bl rs to many bm bt bG br bg vl L Inv Stop m)(hR:∀r∈rs,rS r)(hq:rs.length≤100)(Zj:many≤100)(SK:ak7 ro bl rs to many bm bt bG br bg vl)(hb:a8 ro v 1 p6 b)(hbn:b.length+n=many)(hw:yh w)(su:w.size≤100)(hP:Part L p (P3 rs to n w b))(hB:Inv p B)(hy:YOK zT bl ro L.length (apb L) Inv Stop):dQ zT 255 [.string w,v,zP bm,zP bt,zP bG,zP br,zP bg] ro B (fun r Y=>∃c,r= .bool c∧(c=true→Inv (p+(P3 rs to n w b).length) Y)∧(c=false→Stop Y)):=by
 obtain⟨gm,gt,gy,gl,gg,hl⟩:=id SK
 obtain⟨dB,mP,mO,dz,rfl,qd,gY,jV⟩:=hl
 obtain⟨aCt,aMX,aMT,aCs,rfl,aMV,aMW,aMU⟩:=hb
 refine agP ar [.l B] [] aU<|zD 2<|jn fun b9=>zD 4<|jc (vs:=[.slice aCt b.length aCs]) [] (atI (show a8 _ _ _ _ _ from ⟨aCt,aMX,aMT,aCs,rfl,aMV,aMW,aMU⟩) (by first|omega| (simp only[List.length_set,zM];omega))) ?_
 rintro v14 L14 ⟨_,Oz,rfl⟩
 refine zD 1<|jn fun b16=>gL (sz:=1) (ps:=b) (qs:=[w]) (enc:=p6) (w:= .slice (some ⟨b16,0,none⟩) 1 1) [1] [0] [(b16,.cells ⟨([w].map p6).flatten⟩ 9 (0,0))] (Oz) (fun s _ hZ=>bN [w] (hZ _ (.head _)) (by intro p hp;rfl)) (fun p _=>ah rfl) (by simp only[List.length_cons,List.length_nil];omega) (fun v17 L17 VV=>?_)
 obtain⟨vo,vk,FK⟩:=VV.form
 subst FK
 refine jn fun lV=>jd 7 [0,0]<|jl (b:=bm) (off:=0) (m:=1) (vs:=[zI (many:Int)]) 0 ⟨_,_,_,.inl gm,rfl⟩<|zD 2<|zJ 21 (((b++[w]).length:Int)>(many:Int)) (fun h1=>?_) fun h1=>?_
 ·
  refine zD 2 ?_
  obtain rfl:n=0:=by simp only[zM] at*;omega
  refine zD 2<|jl (b:=bt) (off:=0) (m:=1) (vs:=[.string to]) 0 ⟨_,_,_,.inl gt,rfl⟩<|zD 2<|js 25 (!(cI w to)) (fun h2=>?_) (fun h2=>?_)
  ·
   have kI:=h2
   try simp only[zB] at kI
   refine jd 7 [3]<|jrM qm0 (.bool true) [] [3] [4] B (Sub.refl _) ⟨_,rfl,(fun _=>by rw[show P3 rs to 0 w b=[] from if_neg (by simp_all)];exact hB),nofun⟩
  have kI:=h2
  try simp only[zB] at kI
  have aih:P3 rs to 0 w b=[b++[w]]:=if_pos (by simp_all)
  have Zq:=Part.get (i:=0) (x:=b++[w]) hP (by rw[aih];rfl)
  refine jl (b:=bG) (off:=0) (m:=1) (vs:=[(.func (.yield bl) #[] #[])]) 0 ⟨_,_,_,.inl gy,rfl⟩<|jd 1 [0]<|jyc [1,4] (hy p [(.slice vo ((b++[w])).length vk)] L17 B ro Zq.1 ⟨_,_,Zq.2,rfl,VV⟩ hB (Sub.refl _)) (Sub.refl _) ?_
  intro v28 Y28 aPk
  obtain⟨c28,rfl,aR4,aRS⟩:=yb aPk
  refine jd 4 [3]<|jrM qm0 (.bool c28) [] [3] [0] Y28 (Sub.refl _) ⟨_,rfl,(fun h=>by rw[aih];exact aR4 h),aRS⟩
 refine zD 3 ?_
 obtain⟨m,rfl⟩:∃m,n=m+1:=⟨n-1,by simp only[zM] at*;omega⟩
 refine zD 1<|jmk kvS fun r30 L30 aFh=>jn fun Uh=>jd 5 [0]<|jf [2,0,3] ((lV,.cells ⟨[(.slice vo ((b++[w])).length vk)]⟩ 137 (0,0))::((Uh,.cells ⟨[(.map (some r30))]⟩ 344 (0,0))::L17)) (fun ro5 JG hk4=>?_)
 have vL:=VV.jC hk4.tail.tail
 replace SK:=SK.up JG
 replace hy:=hy.up JG
 refine zD 1<|jl (b:=br) (off:=0) (m:=1) (vs:=[.slice dB rs.length dz]) 0 ⟨_,_,_,.inl (JG _ _ gl),rfl⟩<|jc (vs:=[.string w,.slice dB rs.length dz]) [] (auJ ((show a8 _ _ _ _ _ from ⟨dB,mP,mO,dz,rfl,qd,gY,jV⟩).up JG)) ?_
 rintro _ _ ⟨aq1,aq0,rfl,rfl⟩
 refine jg 0 [.b aq1 (.cells ⟨[.string w]⟩ 308 (0,0)),.b aq0 (.cells ⟨[.slice dB rs.length dz]⟩ 36 (0,0))]<|jf [0,1] ((aq1,.cells ⟨[.string w]⟩ 308 (0,0))::[(aq0,.cells ⟨[.slice dB rs.length dz]⟩ 36 (0,0))]) fun ro8 Ah hk7=>zD 2<|jrf [] (ana (hk7 _ (.tail _ (.head _))) (SK.l.up Ah) hR (hk7 _ (.head _)) hw su hq) (by rintro _ _ _ _ ⟨_,_,rfl,_⟩;rfl) (fun(zz:Bool×Cells×Cells)=>[.b b9 (.cells ⟨[.bool zz.1]⟩ 4 (0,0)),.l zz.2.1,.l zz.2.2]) (fun kk=>(fun(zz:Bool×Cells×Cells)=>Inv (p+((dd ((sP w rs).take kk)).flatMap fun s=>P3 rs to m s (b++[w])).length) zz.2.2∧kK r30 kvS (mF (dd ((sP w rs).take kk))) zz.2.1)) (fun jump=>(fun(zz:Bool×Cells×Cells)=>jump= .ret∧(zz.1=false∧Stop zz.2.2))) (⟨false,L30,B⟩) ⟨hB,aFh⟩ [2,0,3] ?_ ?_ ?_
 ·
  rintro bl9 bd9 kk9 vs9 LL9 ⟨rv,Lm,B⟩ ro9 hk9 axd hL hs9
  obtain⟨x9,hx9,rfl,rfl⟩:=axd
  have hue:=amf hR hw (zL hx9)
  refine zD 3<|jbg<|zD 4<|jl (b:=Uh) (off:=0) (m:=1) (vs:=[(.map (some r30))]) 0 ⟨_,_,_,.inl (hs9 _ _ (Ah _ _ (hk4 _ (.tail _ (.head _))))),rfl⟩<|zD 1<|jlu (kv:=kvS) (F:=(mF (dd ((sP w rs).take kk9)))) (r:=r30) (K:=308) x9 (.bool false) false [2] Lm (YK (T:=308) (by kernel_rfl)) (fun s _ hZ=>hL.2.has hZ)<|jw 37 (.bool (decide (x9∈(dd ((sP w rs).take kk9))))) aDC<|zD 1<|js 37 (decide (x9∈(dd ((sP w rs).take kk9)))) (fun DM=>?_) (fun DM=>?_)
  ·
   refine zD 2<|jyn qy0 (Sub.refl _) ⟨rv,Lm,B⟩ ⟨by rw[akd hx9 (by assumption)];exact hL.1,by rw[akd hx9 (by assumption)];exact hL.2⟩ (zN 0 4)
  have tA:decide (x9∈dd ((sP w rs).take kk9))=false:=by assumption
  obtain⟨rr,hrr⟩:=ayB hx9 tA
  have aEL:=Part.flat (G:=fun s=>P3 rs to m s (b++[w])) hP hrr
  refine zD 4<|jl (b:=Uh) (off:=0) (m:=1) (vs:=[(.map (some r30))]) 0 ⟨_,_,_,.inl (hs9 _ _ (Ah _ _ (hk4 _ (.tail _ (.head _))))),rfl⟩<|zD 1<|jmu (kv:=kvS) (F:=(mF (dd ((sP w rs).take kk9)))) (r:=r30) (K:=308) 2 x9 (.bool true) (YK (T:=308) (by kernel_rfl)) hL.2 fun aIA ah0=>zD 3<|jl (b:=bg) (off:=0) (m:=1) (vs:=[.func (.func 255) ⟨[]⟩ ⟨[zP bm,zP bt,zP bG,zP br,zP bg]⟩]) 0 ⟨_,_,_,.inl (hs9 _ _ (Ah _ _ (JG _ _ gg))),rfl⟩<|zD 1<|jl (b:=lV) (off:=0) (m:=1) (vs:=[(.slice vo ((b++[w])).length vk)]) 0 ⟨_,_,_,.inl (hs9 _ _ (Ah _ _ (hk4 _ (.head _)))),rfl⟩<|jc (vs:=[.string x9,(.slice vo ((b++[w])).length vk),zP bm,zP bt,zP bG,zP br,zP bg]) [3] (ih m (by omega) _ _ _ _ (p+((dd ((sP w rs).take kk9)).flatMap fun s=>P3 rs to m s (b++[w])).length) _ (SK.up (Ah.trans hs9)) (vL.up (Ah.trans hs9)) (by simp only[zM];omega) hue.1 (by omega) aEL hL.1 (hy.up (Ah.trans hs9))) ?_
  rintro _ Y43 ⟨c43,rfl,aR1,aRP⟩
  refine zD 2<|js 44 (!c43) (fun EP=>?_) (fun EP=>?_)
  ·
   try simp only[zB] at EP
   refine jd 6 [3]<|jys qy0 (Sub.refl _) .ret ⟨false,aIA,Y43⟩ ⟨rfl,rfl,aRP (by simp_all)⟩ [2,3,1,0]
  try simp only[zB] at EP
  refine zD 2<|jyn qy0 (Sub.refl _) ⟨rv,aIA,Y43⟩ ⟨by rw[WN hx9 tA,List.flatMap_append,List.length_append,←Nat.add_assoc];have:=aR1 (by simp_all);simpa using this,by rw[WN hx9 tA,←ati tA];exact ah0⟩ [2,3,1,0]
 ·
  rintro bd9 ⟨rv,Lm,B⟩ Z9 hL hZ9
  subst hZ9
  refine jd 5 [2]<|jrM qm0.a.a.m (.bool true) [0] [1] [3] B (JG.trans Ah) ⟨_,rfl,(fun _=>by have:=hL.1;rwa[List.take_of_length_le (Nat.le_refl _)] at this),nofun⟩
 rintro bd9 ⟨rv,Lm,B⟩ Z9 jump hS hZ9
 obtain⟨rfl,hS⟩:=hS
 obtain⟨rfl,hS⟩:=hS
 subst hZ9
 exact jrM qm0.a.a.m (.bool false) [0] [1] [3] B (JG.trans Ah) ⟨_,rfl,nofun,fun _=>hS⟩
theorem aDv{to:ByteArray}{L:List (List ByteArray)}{Inv:Nat→Cells→Prop}(hR:∀r∈rs,rS r)(hq:rs.length≤100)(Zj:many≤100):∀n,asz bl rs to many bm bt bG br bg vl L Inv Stop n:=by
 intro n
 induction n using Nat.strongRecOn with
 |_ n ih=>exact fun ro w b v p B hc hb hbn hw su hP hB hy=>auL ih hR hq Zj hc hb hbn hw su hP hB hy
theorem abm{w to:ByteArray}(g1:ro b1=some (.cells ⟨[zI (many:Int)]⟩ 3 (0,0)))(g2:ro b2=some (.cells ⟨[.string to]⟩ 308 (0,0)))(g3:ro b3=some (.cells ⟨[vl]⟩ 36 (0,0)))(g4:ro b4=some (.cells ⟨[.string w]⟩ 308 (0,0)))(hl:a8 ro vl 2 fW rs)(hR:∀r∈rs,rS r)(hw:yh w)(su:w.size≤100)(hq:rs.length≤100)(Zj:many≤100):ItX zT 254 [] [zP b1,zP b2,zP b3,zP b4] ro [] (P3 rs to many w []).length (apb (P3 rs to many w [])) (fun Z=>Z=[]):=by
 intro bl aF Inv Stop hs hy B hB
 replace g1:=hs _ _ g1
 replace g2:=hs _ _ g2
 replace g3:=hs _ _ g3
 replace g4:=hs _ _ g4
 replace hl:=hl.up hs
 have hlr:=hl
 obtain⟨dB,mP,mO,dz,rfl,qd,gY,jV⟩:=hl
 refine zC [.l B]<|zD 2<|jn fun b5=>zD 3<|jn fun b6=>jd 8 [0,0]<|jl (b:=b4) (off:=0) (m:=1) (vs:=[.string w]) 0 ⟨_,_,_,.inl g4,rfl⟩<|jf [1,0] ((b5,.cells ⟨[(.func (.yield bl) #[] #[])]⟩ 341 (0,0))::[(b6,.cells ⟨[.func (.func 255) ⟨[]⟩ ⟨[zP b1,zP b2,zP b5,zP b3,zP b6]⟩]⟩ 342 (0,0))]) fun yt bL iJ=>jc (vs:=[.string w,zS,zP b1,zP b2,zP b5,zP b3,zP b6]) [0] (aDv hR hq Zj many _ _ _ _ 0 _ ⟨bL _ _ g1,bL _ _ g2,iJ _ (.head _),bL _ _ g3,iJ _ (.tail _ (.head _)),hlr.up bL⟩ (a8.nil _ _ _ _ _) (by simp) hw su ⟨[],[],by simp,rfl⟩ hB (YOK.up hy bL)) ?_
 rintro _ Y10 ⟨c10,rfl,axA,axu⟩
 refine zD 1<|aI q0.a (.tuple ⟨[]⟩) [] [0] Y10 bL ⟨_,_,rfl,rfl,[],Y10,rfl,rfl,by cases c10 with|true=>exact .inl (by simpa using axA rfl)|false=>exact .inr (axu rfl)⟩
theorem afS{w to:ByteArray}{many:Int}(hl:a8 ro vl 2 fW rs):dQ zT 237 [.string w,vl,.string to,zI many] ro [] (fun r Y=>∃b4 b5 b6 b7,r= .func (.func 254) ⟨[]⟩ ⟨[zP b7,zP b6,zP b5,zP b4]⟩∧Y=[(b4,.cells ⟨[.string w]⟩ 308 (0,0)),(b5,.cells ⟨[vl]⟩ 36 (0,0)),(b6,.cells ⟨[.string to]⟩ 308 (0,0)),(b7,.cells ⟨[zI many]⟩ 3 (0,0))]):=by
 obtain⟨dB,mP,mO,dz,rfl,qd,gY,jV⟩:=hl
 refine zE<|zD 2<|jn fun b4=>jn fun b5=>jn fun b6=>jn fun b7=>zD 8<|zR (.func (.func 254) ⟨[]⟩ ⟨[zP b7,zP b6,zP b5,zP b4]⟩) [] [3,2,1,0] ((b4,.cells ⟨[.string w]⟩ 308 (0,0))::((b5,.cells ⟨[.slice dB rs.length dz]⟩ 36 (0,0))::((b6,.cells ⟨[.string to]⟩ 308 (0,0))::[(b7,.cells ⟨[zI many]⟩ 3 (0,0))]))) ⟨_,_,_,_,rfl,rfl⟩
theorem auM{L:List (List ByteArray)}(hit:ItX zT 254 [] [zP b1,zP b2,zP b3,zP b4] ro [] L.length (apb L) (fun Z=>Z=[]))(hL:∀x∈L,x.length≤1000):dQ zT 236 [.func (.func 254) ⟨[]⟩ ⟨[zP b1,zP b2,zP b3,zP b4]⟩,.func (.func 238) ⟨[]⟩ ⟨[]⟩] ro [] (fun r Y=>∃v,r= .tuple ⟨[v,.bool (decide (0 <L.length))]⟩∧∃ps,aw v 1 9 p6 ps Y∧(0 <L.length→ps∈L)):=by
 refine agP ar [] [] aU<|zD 2<|jn fun b3=>zD 2<|jf [0] [(b3,.cells ⟨[.func (.func 238) ⟨[]⟩ ⟨[]⟩]⟩ 333 (0,0))] fun yt bL iJ=>zD 3<|jn fun b6=>zD 3<|jn fun b7=>jd 8 [0]<|nB<|jrf [] (hit.up bL) (by rintro _ _ _ _ ⟨_,_,_,rfl,_⟩;rfl) (fun(zz:Value×(List ByteArray)×Cells×Bool)=>[.b b6 (.cells ⟨[zz.1]⟩ 137 (0,0)),.b b7 (.cells ⟨[.bool zz.2.2.2]⟩ 4 (0,0)),.l zz.2.2.1]) (fun kk=>(fun(zz:Value×(List ByteArray)×Cells×Bool)=>aw zz.1 1 9 p6 zz.2.1 zz.2.2.1∧zz.2.2.2=decide (0 <kk)∧(0 <kk→zz.2.1∈L)∧zz.2.1.length≤1000)) (fun jump=>(fun(zz:Value×(List ByteArray)×Cells×Bool)=>False)) (⟨zS,[],[],false⟩) ⟨aw.nil _ _ _,rfl,nofun,by simp⟩ [2,1,0] ?_ ?_ ?_
 ·
  rintro bl4 bd4 kk4 vs4 LL4 ⟨v,ps,Lb,sm⟩ ro4 hk4 axe hI kV
  obtain⟨x4,v4,hx4,rfl,ho4⟩:=axe
  have hxl:=hL _ (zL hx4)
  have T5:=hI.2.2.2
  refine zD 3<|jbg<|jd 6 [2]<|js 13 (!sm) (fun h5=>?_) (fun h5=>?_)
  ·
   have yU:=h5
   try simp only[zB] at yU
   refine zD 10 ?_
   obtain⟨va6,vc6,he6⟩:=ho4.form
   subst he6
   refine jd 3 [1,2]<|jyn qy0 (Sub.refl _) ⟨(.slice va6 (x4).length vc6),x4,LL4,true⟩ ⟨ho4,rfl,fun _=>zL hx4,hxl⟩ [0,1,2,4]
  have yU:=h5
  try simp only[zB] at yU
  refine jl (b:=b3) (off:=0) (m:=1) (vs:=[.func (.func 238) ⟨[]⟩ ⟨[]⟩]) 0 ⟨_,_,_,.inl (kV _ _ (iJ _ (.head _))),rfl⟩<|jd 2 [1]<|jp (vs:=[v4,v]) [4,3] (LL4++Lb) (fun aF hs hZ=>aMw (ho4.jC hZ.left) (hI.1.jC hZ.right) (by first|omega| (simp only[List.length_set,zM];omega)) (by first|omega| (simp only[List.length_set,zM];omega))) ?_
  refine zD 3<|zJ 19 ((Pe x4 ps) <0) (fun h7=>?_) fun h7=>?_
  ·
   refine zD 3 ?_
   obtain⟨va8,vc8,he8⟩:=ho4.form
   subst he8
   refine jd 3 [1,2]<|jyn qy0 (Sub.refl _) ⟨(.slice va8 (x4).length vc8),x4,LL4,true⟩ ⟨ho4,rfl,fun _=>zL hx4,hxl⟩ [0,1,2,4]
  refine zD 2<|jyn qy0 (Sub.refl _) ⟨v,ps,Lb,sm⟩ ⟨hI.1,by have:=hI.2.1;simp_all,fun _=>hI.2.2.1 (by have:=hI.2.1;simp_all),T5⟩ (zN 0 4)
 ·
  rintro bd4 ⟨v,ps,Lb,sm⟩ Z4 hI hZ4
  subst hZ4
  refine jd 8 [2,3]<|jrM qm0.a.m (.tuple ⟨[v,.bool sm]⟩) [0] [] [3] Lb bL ⟨v,by rw[←hI.2.1],ps,hI.1,hI.2.2.1⟩
 rintro bd4 ⟨v,ps,Lb,sm⟩ Z4 jump hS hZ4
 exact hS.elim
abbrev eBy(x:Int):List Value:=[.int .u8 x]
theorem aHz:EF zT 303 (Extern.BytealgMakeNoZero.makeNoZero #[3] #[363]):=⟨Tryz.f303,Tryz.func303,by kernel_rfl,by kernel_rfl,by kernel_rfl,by kernel_rfl⟩
def atp:=(ig Tryz.typeInfo363 Tryz.underlying363 rfl rfl rfl rfl rfl rfl:TF zT 363 _ 1 24 _ false)
theorem afm{l:List Value}:aw (.slice (some ⟨b,0,none⟩) 0 l.length) 1 T eBy ([]:List Int) [(b,.cells ⟨l⟩ T (0,0))]:= .inr ⟨b,l,l.length,rfl,rfl,by simp,by simp,by simp,by simp⟩
theorem amV{v:Value}{c:Int}{L:Cells}(h:aw v 1 T eBy [c] L):∃b l cap,cap≠0∧v= .slice (some ⟨b,0,none⟩) 1 cap∧L=[(b,.cells ⟨.int .u8 c::l⟩ T (0,0))]:=by
 rcases h with ⟨_,h,_⟩| ⟨b,l,cap,h1,h2,h3,h4,_,h6⟩
 ·cases h
 simp only[List.length_cons,List.length_nil] at h1 h4 h6
 cases l with
 |nil=>simp at h3;omega
 |cons x l=>
  simp at h6;subst h6
  exact⟨b,l,cap,by omega,h1,h2⟩
def acu(n:Int):ByteArray:=⟨#[n.toNat.toUInt8]⟩
theorem aHA:EF zT 302 Extern.AbiNoEscape.same:=⟨Tryz.f302,Tryz.func302,by kernel_rfl,by kernel_rfl,by kernel_rfl,by kernel_rfl⟩
theorem aH0{v:Value}:dQ zT 291 [zP b] ro [(b,.cells ⟨[.pointer none,v]⟩ 365 (0,0))] (fun r Y=>Y=[(b,.cells ⟨[zP b,v]⟩ 365 (0,0))]):=by
 refine zC [.b b (.cells ⟨[.pointer none,v]⟩ 365 (0,0))]<|jd 12 [0]<|jmo [0] [0,0] [(b,.cells ⟨[.pointer none,v]⟩ 365 (0,0))] (zP b)<|jg 0 [.b b (.cells ⟨[.pointer none,v]⟩ 365 (0,0))]<|aOP (v:= zP b) aHA<|jmo [0] [0,0] [(b,.cells ⟨[.pointer none,v]⟩ 365 (0,0))] (zP b)<|jg 0 [.b b (.cells ⟨[.pointer none,v]⟩ 365 (0,0))]<|jd 4 [0]<|zR (.tuple ⟨[]⟩) [] [0] [(b,.cells ⟨[zP b,v]⟩ 365 (0,0))] rfl
theorem aHZ{v:Value}:dQ zT 291 [zP b] ro [(b,.cells ⟨[zP b,v]⟩ 365 (0,0))] (fun r Y=>Y=[(b,.cells ⟨[zP b,v]⟩ 365 (0,0))]):=by
 refine zC [.b b (.cells ⟨[zP b,v]⟩ 365 (0,0))]<|jd 16 [0,0]<|jpn (b:=b)<|jg 0 []<|zD 3<|zR (.tuple ⟨[]⟩) [] [0] [(b,.cells ⟨[zP b,v]⟩ 365 (0,0))] rfl
theorem aHT:dQ zT 292 [zP b,zI 1] ro [(b,.cells ⟨[zP b,zS]⟩ 365 (0,0))] (fun r Y=>∃v L,aw v 1 5 eBy ([]:List Int) L∧Y=(b,.cells ⟨[zP b,v]⟩ 365 (0,0))::L):=by
 refine zC [.b b (.cells ⟨[zP b,zS]⟩ 365 (0,0))]<|jd 6 [0]<|jcp (c:=0)<|jd 8 [0]<|aS 8 fun E5 E9 Cy=>jnz (n:=1) aHz rfl atp (by omega) fun bb lz hlz=>jg 0 [.b bb (.cells ⟨lz⟩ 5 (0,0))]<|ep Cy [1]<|js0 (a:=⟨bb,0,none⟩) (l:=1) (c:=lz.length)<|jd 9 [1]<|jmo [] [] [] (zI 0)<|jg 0 []<|jd 8 [1]<|zR (.tuple ⟨[]⟩) [] [1,0] ((b,.cells ⟨[zP b,(.slice (some ⟨bb,0,none⟩) 0 lz.length)]⟩ 365 (0,0))::[(bb,.cells ⟨lz⟩ 5 (0,0))]) ⟨_,_,afm,rfl⟩
theorem aHY:dQ zT 274 [zP b,zI 1] ro [(b,.cells ⟨[.pointer none,zS]⟩ 365 (0,0))] (fun r Y=>∃v L,aw v 1 5 eBy ([]:List Int) L∧Y=(b,.cells ⟨[zP b,v]⟩ 365 (0,0))::L):=by
 refine zC [.b b (.cells ⟨[.pointer none,zS]⟩ 365 (0,0))]<|zD 3<|jc (vs:=[zP b]) [0] (aH0 (v:= zS)) ?_
 rintro _ _ rfl
 refine jg 0 [.b b (.cells ⟨[zP b,zS]⟩ 365 (0,0))]<|jd 15 [0]<|jcp (c:=0)<|jd 13 [0]<|jc (vs:=[zP b,zI 1]) [0] (aHT) ?_
 rintro _ _ ⟨v,L,hv,rfl⟩
 refine jg 0 [.b b (.cells ⟨[zP b,v]⟩ 365 (0,0)),.l L]<|zD 1<|zR (.tuple ⟨[]⟩) [] [0,1] ((b,.cells ⟨[zP b,v]⟩ 365 (0,0))::L) ⟨v,L,hv,rfl⟩
theorem aH1{v:Value}{L:Cells}{c:Int}(ho:aw v 1 5 eBy ([]:List Int) L):dQ zT 276 [zP b,.int .u8 c] ro ((b,.cells ⟨[zP b,v]⟩ 365 (0,0))::L) (fun r Y=>∃v' L',aw v' 1 5 eBy [c] L'∧Y=(b,.cells ⟨[zP b,v']⟩ 365 (0,0))::L'):=by
 refine zC [.b b (.cells ⟨[zP b,v]⟩ 365 (0,0)),.l L]<|zD 7<|jc (vs:=[zP b]) [0] (aHZ (v:=v)) ?_
 rintro _ _ rfl
 refine jg 0 [.b b (.cells ⟨[zP b,v]⟩ 365 (0,0))]<|jd 9 [0]<|jn fun AY=>gL (sz:=1) (ps:=[]) (qs:=[c]) (enc:=eBy) (w:= .slice (some ⟨AY,0,none⟩) 1 1) [2] [0] [(AY,.cells ⟨([c].map eBy).flatten⟩ 5 (0,0))] (ho) (fun s _ hZ=>bN [c] (hZ _ (.head _)) (by intro p hp;rfl)) (fun p _=>ah rfl) (by simp) (fun v14 L14 uy=>?_)
 rw[List.nil_append] at uy
 obtain⟨rh,qj,rj⟩:=uy.form
 subst rj
 refine jd 9 [2]<|zR (.nilIface) [] [2,0] ((b,.cells ⟨[zP b,(.slice rh ([c]).length qj)]⟩ 365 (0,0))::L14) ⟨_,_,uy,rfl⟩
theorem aUq{bb cap:Nat}{l:List Value}{c:Int}(oU:cap≠0):dQ zT 277 [zP b] ro [(b,.cells ⟨[zP b,.slice (some ⟨bb,0,none⟩) 1 cap]⟩ 365 (0,0)),(bb,.cells ⟨.int .u8 c::l⟩ 5 (0,0))] (fun r Y=>r= .string (acu c)):=by
 refine zC [.b b (.cells ⟨[zP b,.slice (some ⟨bb,0,none⟩) 1 cap]⟩ 365 (0,0)),.b bb (.cells ⟨.int .u8 c::l⟩ 5 (0,0))]<|jd 15 [0,0]<|aS 4 fun E5 E9 Cy=>jsd (a:=⟨bb,0,none⟩) (l:=1) oU<|jg 0 []<|ep Cy [0,1]<|aS 10 fun A1 Bn Av=>jus (b:=bb) (E:=5) [1] c l fun L9=>fR Av [[1]]<|zD 3<|zX (.string (acu c)) rfl
def ug(u:UInt8):ByteArray:=⟨#[u]⟩
theorem ao9{u:UInt8}(h:u.toNat <128):Value.string (Utf8.encode (u.toNat:Int))= .string (ug u):=by
 have hv:Utf8.valid (u.toNat:Int)=true:=by simp only[Utf8.valid];simp;omega
 simp only[Utf8.encode,hv,if_true,Int.toNat_natCast,if_pos (show u.toNat <0x80 from h),ug]
 simp
theorem aHa{u:UInt8}(hu:(97≤u.toNat∧u.toNat≤122)):dv zT 253 [.string (ug u)] ro (.string (ug u)):=by
 have vw:(ug u).size=1:=rfl
 refine zE<|zD 15<|dL [1,1,0,1,0,0] [] (fun(zz:Nat×Bool)=>[(0,.string (ug u)),(2,.string (bs [])),(3,.bool true),(4,.bool zz.2),(5,zI (zz.1:Int))]) (fun zz=>[]) (fun zz=>(zz.1=0∧zz.2=false)∨(zz.1=1∧zz.2=false)) (fun zz=>1-zz.1) (⟨0,false⟩) (.inl ⟨rfl,rfl⟩) [] ?_
 rintro⟨i,q⟩ hI K1 bE rest
 dsimp only at hI
 refine zD 8<|zJ 14 ((i:Int) <((ug u).size:Int)) (fun h1=>?_) fun h1=>?_
 ·
  refine zD 5 ?_
  obtain⟨hi0,Za⟩:i=0∧q=false:=by rcases hI with h|h;exact h;omega
  refine jw 5 (zI 0) (show Value.int .i64 (i:Int)= zI 0 by rw[hi0];rfl) ?_
  refine jw 4 (.bool false) (show Value.bool q= .bool false by rw[Za])<|zD 12<|zJ 21 ((u.toNat:Int)≥128) (fun h2=>?_) fun h2=>?_
  ·
   exfalso;omega
  refine zD 8<|js 26 (decide (65≤(u.toNat:Int))) (fun h3=>?_) (fun h3=>?_)
  ·
   have wR:=h3
   replace wR:=of_decide_eq_true wR
   refine zD 11<|bF bE (⟨1,decide ((u.toNat:Int)≤90)⟩) (.inr ⟨rfl,decide_eq_false (by omega)⟩) (by dsimp only;omega) [] (Sub.refl _)
  have wR:=h3
  replace wR:=of_decide_eq_false wR
  exfalso;omega
 refine zD 4 ?_
 obtain⟨hi1,hq1⟩:i=1∧q=false:=by rcases hI with h|h;omega;exact h
 refine jw 4 (.bool false) (show Value.bool q= .bool false by rw[hq1])<|zD 17<|zX (.string (ug u)) ⟨rfl,rfl⟩
theorem aG9{u:UInt8}(hu:(65≤u.toNat∧u.toNat≤90)):dv zT 253 [.string (ug u)] ro (.string (acu (IntKind.u8.wrap ((u.toNat:Int)+32)))):=by
 have vw:(ug u).size=1:=rfl
 refine zE<|zD 15<|dL [1,1,0,1,0,0] [] (fun(zz:Nat×Bool)=>[(0,.string (ug u)),(2,.string (bs [])),(3,.bool true),(4,.bool zz.2),(5,zI (zz.1:Int))]) (fun zz=>[]) (fun zz=>(zz.1=0∧zz.2=false)∨(zz.1=1∧zz.2=true)) (fun zz=>1-zz.1) (⟨0,false⟩) (.inl ⟨rfl,rfl⟩) [] ?_
 rintro⟨i,q⟩ hI K1 bE rest
 dsimp only at hI
 refine zD 8<|zJ 14 ((i:Int) <((ug u).size:Int)) (fun h1=>?_) fun h1=>?_
 ·
  refine zD 5 ?_
  obtain⟨hi0,Za⟩:i=0∧q=false:=by rcases hI with h|h;exact h;omega
  refine jw 5 (zI 0) (show Value.int .i64 (i:Int)= zI 0 by rw[hi0];rfl) ?_
  refine jw 4 (.bool false) (show Value.bool q= .bool false by rw[Za])<|zD 12<|zJ 21 ((u.toNat:Int)≥128) (fun h2=>?_) fun h2=>?_
  ·
   exfalso;omega
  refine zD 8<|js 26 (decide (65≤(u.toNat:Int))) (fun h3=>?_) (fun h3=>?_)
  ·
   have wR:=h3
   replace wR:=of_decide_eq_true wR
   refine zD 11<|bF bE (⟨1,decide ((u.toNat:Int)≤90)⟩) (.inr ⟨rfl,decide_eq_true (by omega)⟩) (by dsimp only;omega) [] (Sub.refl _)
  have wR:=h3
  replace wR:=of_decide_eq_false wR
  exfalso;omega
 refine zD 4 ?_
 obtain⟨hi1,hq1⟩:i=1∧q=true:=by rcases hI with h|h;omega;exact h
 refine jw 4 (.bool true) (show Value.bool q= .bool true by rw[hq1])<|zD 14<|jn fun b7=>zD 9<|jc (vs:=[zP b7,zI 1]) [0] (aHY) ?_
 rintro _ _ ⟨v,L,hv,rfl⟩
 refine jg 0 [.b b7 (.cells ⟨[zP b7,v]⟩ 365 (0,0)),.l L]<|zD 7<|dL [1,1,1,0,1,0,1,1,1,1,0,1,0,0] [] (fun(zz:Nat×Int×Value×Cells×(List Int))=>[(0,.string (ug u)),(2,.string (bs [])),(7,zP b7),(8,zI zz.2.1),(9,zI (zz.1:Int))]) (fun zz=>[.b b7 (.cells ⟨[zP b7,zz.2.2.1]⟩ 365 (0,0)),.l zz.2.2.2.1]) (fun zz=>aw zz.2.2.1 1 5 eBy zz.2.2.2.2 zz.2.2.2.1∧((zz.1=0∧zz.2.1=0∧zz.2.2.2.2=[])∨(zz.1=1∧zz.2.1=1∧zz.2.2.2.2=[(IntKind.u8.wrap ((u.toNat:Int)+32))]))) (fun zz=>1-zz.1) (⟨0,0,v,L,[]⟩) ⟨hv,.inl ⟨rfl,rfl,rfl⟩⟩ [0,1] ?_
 rintro⟨j,p,v,L,xs⟩ hJ K2 lG rest
 dsimp only at hJ
 refine zD 8<|zJ 41 ((j:Int) <((ug u).size:Int)) (fun h4=>?_) fun h4=>?_
 ·
  refine zD 5 ?_
  obtain⟨hj0,hp0,HW⟩:j=0∧p=0∧xs=[]:=by rcases hJ.2 with h|h;exact h;omega
  refine jw 9 (zI 0) (show Value.int .i64 (j:Int)= zI 0 by rw[hj0];rfl) ?_
  refine jw 8 (zI 0) (show Value.int .i64 p= zI 0 by rw[hp0])<|zD 11<|js 49 (decide (65≤(u.toNat:Int))) (fun h5=>?_) (fun h5=>?_)
  ·
   have yU:=h5
   replace yU:=of_decide_eq_true yU
   refine zD 4<|zJ 52 ((u.toNat:Int)≤90) (fun h6=>?_) fun h6=>?_
   ·
    refine zD 19<|jc (vs:=[zP b7,.int .u8 (IntKind.u8.wrap ((u.toNat:Int)+32))]) [0,1] (aH1 (by have:=hJ.1;rwa[HW] at this)) ?_
    rintro _ _ ⟨v2,L2,JH,rfl⟩
    refine jg 0 [.b b7 (.cells ⟨[zP b7,v2]⟩ 365 (0,0)),.l L2]<|zD 11<|bF lG (⟨1,1,v2,L2,[(IntKind.u8.wrap ((u.toNat:Int)+32))]⟩) ⟨JH,.inr ⟨rfl,rfl,rfl⟩⟩ (by dsimp only;omega) [0,1] (Sub.refl _)
   exfalso;omega
  have yU:=h5
  replace yU:=of_decide_eq_false yU
  exfalso;omega
 refine zD 4 ?_
 obtain⟨hj1,hp1,hx1⟩:j=1∧p=1∧xs=[(IntKind.u8.wrap ((u.toNat:Int)+32))]:=by rcases hJ.2 with h|h;omega;exact h
 refine jw 8 (zI 1) (show Value.int .i64 p= zI 1 by rw[hp1])<|zD 9 ?_
 obtain⟨bb,lz,cap,oU,rfl,rfl⟩:=amV (by have:=hJ.1;rwa[hx1] at this)
 refine zD 1<|jc (vs:=[zP b7]) [0,1] (aUq (bb:=bb) (l:=lz) (c:=(IntKind.u8.wrap ((u.toNat:Int)+32))) oU) ?_
 rintro _ Yz rfl
 refine zD 3<|zX (.string (acu (IntKind.u8.wrap ((u.toNat:Int)+32)))) ⟨rfl,rfl⟩
def af9(u:UInt8):ByteArray:=if u.toNat <97 then acu (IntKind.u8.wrap ((u.toNat:Int)+32)) else ug u
theorem aTR{u:UInt8}(h:HI u=true∨Hq u=true):dv zT 253 [.string (ug u)] ro (.string (af9 u)):=by
 unfold af9
 rcases h with h|h
 ·simp only[HI,Bool.and_eq_true,Nat.ble_eq] at h
  rw[if_neg (by omega)]
  exact aHa (by omega)
 simp only[Hq,Bool.and_eq_true,Nat.ble_eq] at h
 rw[if_pos (by omega)]
 exact aG9 (by omega)
def uqN(rs:List cR)(a to:ByteArray):Nat→Nat→Option Nat
 |0,_=>none
 |f+1,m=>bif decide (0 <(P3 rs to m a []).length) then some m else uqN rs a to f (m+1)
def uq(rs:List cR)(a to:ByteArray):Option Nat:=uqN rs a to 3 0
def j9(c:UInt8):ByteArray:=if c.toNat=67 then bs [99,104] else if c.toNat=74 then bs [106,117] else if c.toNat=89 then bs [106,97] else if c.toNat=88 then bs [115,104] else if c.toNat <97 then bs [c.toNat+32] else bs [c.toNat]
def Kp:List UInt8→ByteArray→ByteArray
 | [],a=>a
 |c::l,a=>Kp l (a++j9 c)
def keyOf(w:ByteArray):ByteArray:=Kp w.data.toList (bs [])
theorem anx{l:List UInt8}{c:UInt8}{a:ByteArray}(h:l[k]?=some c):Kp (l.drop k) a=Kp (l.drop (k+1)) (a++j9 c):=by rw[fG h];rfl
theorem agn{l:List UInt8}{a:ByteArray}(h:l[k]?=none):Kp (l.drop k) a=a:=by rw[eO (by rw[List.getElem?_eq_none_iff] at h;omega)];rfl
def GI(rs:List cR)(a b:ByteArray):Int:=match uq rs (keyOf a) (keyOf b) with
 |none=>2
 |some 0=>1
 |some _=>3
structure rV(w:ByteArray):Prop where
 n:1≤w.size∧w.size≤6
 s:Script w
def Vt(c:UInt8):Prop:=HI c=true∨Hq c=true
theorem rV.let{w:ByteArray}(h:rV w):∀c∈w.data.toList,Vt c:=fun c hc=>h.s.elim (fun k=> .inl (k c hc)) fun k=> .inr (k c hc)
theorem aaA:((List.range 256).all fun n=> !(HI (UInt8.ofNat n)||Hq (UInt8.ofNat n))||(ano (j9 (UInt8.ofNat n))&&(Nat.ble 1 (j9 (UInt8.ofNat n)).size&&Nat.ble (j9 (UInt8.ofNat n)).size 2)))=true:=by kernel_rfl
theorem QL{c:UInt8}(h:Vt c):yh (j9 c)∧1≤(j9 c).size∧(j9 c).size≤2:=by
 have h2:=List.all_eq_true.1 aaA c.toNat (List.mem_range.2 c.toNat_lt)
 have hb:UInt8.ofNat c.toNat=c:=by simp
 rw[hb] at h2
 have h3:(HI c||Hq c)=true:=by rcases h with h|h<;>simp[h]
 rw[h3] at h2
 simp only[Bool.not_true,Bool.false_or,Bool.and_eq_true,Nat.ble_eq] at h2
 exact⟨HD h2.1,h2.2⟩
theorem YL:∀ {l:List UInt8} {a:ByteArray},(∀c∈l,Vt c)→yh a→yh (Kp l a)∧(Kp l a).size≤a.size+2*l.length
 | [],a,_,ha=>⟨ha,by simp[Kp]⟩
 |c::l,a,h,ha=>by
  have h1:=QL (h c (by simp))
  obtain⟨h2,h3⟩:=YL (l:=l) (a:=a++j9 c) (fun x hx=>h x (by simp[hx])) (ha.app h1.1)
  refine⟨h2,?_⟩
  simp only[Kp,ByteArray.size_append,List.length_cons] at h3 ⊢
  omega
theorem R3{w:ByteArray}(h:rV w):yh (keyOf w)∧(keyOf w).size≤12:=by
 have h1:=YL (l:=w.data.toList) (a:=bs []) h.let (fun b hb=>by cases hb)
 have h2:w.data.toList.length=w.size:=Array.length_toList
 have h3:=h.n
 exact⟨h1.1,by have:=h1.2;have e:(bs []).size=0:=rfl;unfold keyOf;omega⟩
theorem ann{c:UInt8}(h:Vt c)(h1:¬(c.toNat:Int)=67)(h2:¬(c.toNat:Int)=74)(h3:¬(c.toNat:Int)=89)(h4:¬(c.toNat:Int)=88):af9 c=j9 c:=by
 simp only[af9,j9,if_neg (show ¬c.toNat=67 by omega),if_neg (show ¬c.toNat=74 by omega),if_neg (show ¬c.toNat=89 by omega),if_neg (show ¬c.toNat=88 by omega)]
 split
 ·simp only[acu,bs]
  rw[sN .u8 rfl _ (by omega) (by simp[IntKind.bits];omega),show ((c.toNat:Int)+32).toNat=c.toNat+32 by omega]
  rfl
 simp[ug,bs]
theorem let_128{c:UInt8}(h:Vt c):c.toNat <128:=by
 rcases h with h|h
 ·simp only[HI,Bool.and_eq_true,Nat.ble_eq] at h;omega
 simp only[Hq,Bool.and_eq_true,Nat.ble_eq] at h;omega
theorem auK{c:UInt8}(h:Vt c):dv zT 235 [.int .i32 (c.toNat:Int)] ro (.string (j9 c)):=by
 refine zE<|zD 29<|zJ 5 ((c.toNat:Int)=67) (fun h1=>?_) fun h1=>?_
 ·
  refine zD 8<|zX (.string (bs [99,104])) ⟨by rw[j9,if_pos (by omega)]<;>rfl,rfl⟩
 refine zD 8<|zJ 7 ((c.toNat:Int)=74) (fun h2=>?_) fun h2=>?_
 ·
  refine zD 17<|jsa (a:=(bs [106])) (b:=(bs [117])) 9 (by decide)<|zD 3<|zX (.string ((bs [106])++(bs [117]))) ⟨by rw[j9,if_neg (by omega),if_pos (by omega)]<;>rfl,rfl⟩
 refine zD 8<|zJ 9 ((c.toNat:Int)=89) (fun h3=>?_) fun h3=>?_
 ·
  refine zD 16<|jsa (a:=(bs [106])) (b:=(bs [97])) 9 (by decide)<|zD 3<|zX (.string ((bs [106])++(bs [97]))) ⟨by rw[j9,if_neg (by omega),if_neg (by omega),if_pos (by omega)]<;>rfl,rfl⟩
 refine zD 7<|zJ 11 ((c.toNat:Int)=88) (fun h4=>?_) fun h4=>?_
 ·
  refine zD 8<|zX (.string (bs [115,104])) ⟨by rw[j9,if_neg (by omega),if_neg (by omega),if_neg (by omega),if_pos (by omega)]<;>rfl,rfl⟩
 refine zD 6<|je (.string (ug c)) (ao9 (let_128 h))<|jp (vs:=[.string (ug c)]) [] [] (fun aF hs hZ=>(aTR h))<|zD 3<|zX (.string (af9 c)) ⟨by rw[ann h (by omega) (by omega) (by omega) (by omega)],rfl⟩
theorem anf{w to:ByteArray}(hl:a8 ro vl 2 fW rs)(hR:∀r∈rs,rS r)(hw:yh w)(su:w.size≤100)(hq:rs.length≤100):dQ zT 217 [.string w,vl,.string to] ro [] (fun r Y=>(∃n v ps,uq rs w to=some n∧r= .tuple ⟨[v,.bool true]⟩∧aw v 1 9 p6 ps Y∧ps.length=n+1)∨(uq rs w to=none∧r= .tuple ⟨[zS,.bool false]⟩∧Y=[])):=by
 obtain⟨dB,mP,mO,dz,rfl,qd,gY,jV⟩:=hl
 refine zE<|zD 11<|dL [1,0,1,0,0] [] (fun(zz:Nat)=>[(0,.string w),(1,.slice dB rs.length dz),(2,.string to),(11,zI (zz:Int))]) (fun zz=>[]) (fun zz=>zz≤3∧uq rs w to=uqN rs w to (3-zz) zz) (fun zz=>3-zz) 0 ⟨by omega,rfl⟩ [] ?_
 rintro k hI K1 bE rest
 refine zD 5<|zJ 12 ((k:Int) <3) (fun h1=>?_) fun h1=>?_
 ·
  refine zD 15<|jc (vs:=[.string w,.slice dB rs.length dz,.string to,zI (k:Int)]) [] (afS (show a8 _ _ _ _ _ from ⟨dB,mP,mO,dz,rfl,qd,gY,jV⟩)) ?_
  rintro _ _ ⟨af7,af6,af5,af4,rfl,rfl⟩
  refine jg 0 [.b af7 (.cells ⟨[.string w]⟩ 308 (0,0)),.b af6 (.cells ⟨[.slice dB rs.length dz]⟩ 36 (0,0)),.b af5 (.cells ⟨[.string to]⟩ 308 (0,0)),.b af4 (.cells ⟨[zI (k:Int)]⟩ 3 (0,0))]<|jf (zN 0 4) ((af7,.cells ⟨[.string w]⟩ 308 (0,0))::((af6,.cells ⟨[.slice dB rs.length dz]⟩ 36 (0,0))::((af5,.cells ⟨[.string to]⟩ 308 (0,0))::[(af4,.cells ⟨[zI (k:Int)]⟩ 3 (0,0))]))) fun ro4 oC Zn=>jc (vs:=[.func (.func 254) ⟨[]⟩ ⟨[zP af4,zP af5,zP af6,zP af7]⟩,.func (.func 238) ⟨[]⟩ ⟨[]⟩]) [] (auM (abm (Zn _ (.tail _ (.tail _ (.tail _ (.head _))))) (Zn _ (.tail _ (.tail _ (.head _)))) (Zn _ (.tail _ (.head _))) (Zn _ (.head _)) ((show a8 _ _ _ _ _ from ⟨dB,mP,mO,dz,rfl,qd,gY,jV⟩).up oC) hR hw su hq (by omega)) (fun x hx=>by have:=Pj hx;simp at this;omega)) ?_
  rintro _ L20 ⟨v20,rfl,aN3,aQw,awI⟩
  refine zD 10<|js 23 (decide (0 <(P3 rs to k w []).length)) (fun h5=>?_) (fun h5=>?_)
  ·
   refine zD 8<|aI q0.a (.tuple ⟨[v20,.bool true]⟩) [] [0] L20 oC ⟨_,_,rfl,rfl,.inl ⟨k,v20,aN3,by rw[hI.2,show 3-k=(3-(k+1))+1 by omega,uqN,h5];rfl,rfl,aQw,by have:=Pj (awI (of_decide_eq_true h5));simpa using this⟩⟩
  refine zD 3<|ja ((k:Int)+1) (by omega)<|zD 2<|bF bE (k+1) ⟨by omega,by rw[hI.2,show 3-k=(3-(k+1))+1 by omega,uqN,h5];rfl⟩ (by omega) [] oC
 refine zD 8<|zX (.tuple ⟨[zS,.bool false]⟩) (.inr ⟨by rw[hI.2,show 3-k=0 by omega];rfl,rfl,rfl⟩)
theorem auZ{c:UInt8}(h:Vt c):c.toNat <128:=by
 rcases h with h|h
 ·simp only[HI,Bool.and_eq_true,Nat.ble_eq] at h;omega
 simp only[Hq,Bool.and_eq_true,Nat.ble_eq] at h;omega
theorem auN{w to:ByteArray}(hl:a8 ro vl 2 fW rs)(hR:∀r∈rs,rS r)(hw:yh w)(su:w.size≤100)(hq:rs.length≤100):dQ zT 217 [.string w,vl,.string to] ro [] (fun r Y=>∃v ps ok,r= .tuple ⟨[v,.bool ok]⟩∧aw v 1 9 p6 ps Y∧(ok=true→uq rs w to=some (ps.length-1)∧1≤ps.length)∧(ok=false→uq rs w to=none)):=by
 refine(anf hl hR hw su hq).mono fun _ _ h=>?_
 rcases h with ⟨n,v,ps,h1,h2,h3,h4⟩| ⟨h1,h2,h3⟩
 ·exact⟨v,ps,true,h2,h3,fun _=>⟨by rw[h4];exact h1,by omega⟩,nofun⟩
 subst h3;exact⟨_,[],false,h2,aw.nil _ _ _,nofun,fun _=>h1⟩
def uN(rs:List cR)(a b:ByteArray):Int:=match uq rs a b with
 |some n=>n
 |none=>0
def uE(rs:List cR)(a b:ByteArray):Int:=match uq rs a b with
 |some _=>0
 |none=>11
theorem aqb{a to:ByteArray}:∀ {f m n:Nat},uqN rs a to f m=some n→n <m+f
 |0,_,_,h=>by cases h
 |f+1,m,n,h=>by
  simp only[uqN] at h
  cases hd:decide (0 <(P3 rs to m a []).length) with
  |true=>rw[hd] at h;simp only[cond_true,Option.some.injEq] at h;omega
  |false=>rw[hd] at h;simp only[cond_false] at h;have:=aqb h;omega
theorem nOf{w:ByteArray}(hw:rV w):dv zT 216 [.string w] ro (.string (keyOf w)):=by
 refine zE<|zD 12<|jn fun r7=>zD 2<|dL [1,1,0,1,0,0] [] (fun(zz:Nat×ByteArray)=>[(2,.string (bs [])),(3,.string zz.2),(7,zP r7)]) (fun zz=>[.b r7 (.stringIter w zz.1)]) (fun zz=>(zz.1≤w.data.toList.length∧zz.2.size≤2*zz.1)∧keyOf w=Kp (w.data.toList.drop zz.1) zz.2) (fun zz=>w.data.toList.length-zz.1) (⟨0,(bs [])⟩) ⟨⟨by omega,Nat.le_refl _⟩,rfl⟩ [0] ?_
 rintro⟨p,a⟩ hI K1 bE rest
 dsimp only at hI
 refine zD 2 ?_
 cases hn8:w.data.toList[p]? with
 |some x8=>
  refine jnA r7 0 hn8 (auZ (hw.let _ (zL hn8)))<|zD 11 ?_
  have hso:=QL (hw.let _ (zL hn8))
  have hlen:w.data.toList.length=w.size:=Array.length_toList
  have hwn:=hw.n
  refine zD 3<|jp (vs:=[.int .i32 (x8.toNat:Int)]) [] [] (fun aF hs hZ=>(auK (hw.let _ (zL hn8))))<|jsa (a:=a) (b:=(j9 x8)) 9 (by omega)<|zD 2<|bF bE (⟨p+1,(a++j9 x8)⟩) ⟨⟨by have:=(List.getElem?_eq_some_iff.1 hn8).1;dsimp only;omega,by dsimp only;rw[ByteArray.size_append];omega⟩,by rw[hI.2,anx hn8]⟩ (by have:=(List.getElem?_eq_some_iff.1 hn8).1;dsimp only;omega) [0] (Sub.refl _)
 |none=>
  refine jnZ r7 0 hn8<|zD 11<|zX (.string a) ⟨by rw[hI.2,agn hn8],rfl⟩
theorem ane(hl:a8 ro vl 2 fW rs)(hR:∀r∈rs,rS r)(hq:rs.length≤4)(EM:rV na)(BO:rV nb):dQ zT 184 [vl,.string na,.string nb] ro [] (fun r Y=>∃v ps e,r= .tuple ⟨[v,zI e]⟩∧aw v 1 9 p6 ps Y∧ps.length≤3∧((e=0∧uq rs (keyOf na) (keyOf nb)=some (ps.length-1)∧1≤ps.length)∨(e=11∧uq rs (keyOf na) (keyOf nb)=none))):=by
 obtain⟨dB,mP,mO,dz,rfl,qd,gY,jV⟩:=hl
 refine zE<|zD 9<|jp (vs:=[.slice dB rs.length dz]) [] [] (fun aF hs hZ=>abk ((show a8 _ _ _ _ _ from ⟨dB,mP,mO,dz,rfl,qd,gY,jV⟩).up hs) (by omega) hR)<|zD 14<|jn fun Jq=>jp (vs:=[.slice (some ⟨Jq,0,none⟩) 2 2]) [0] [(Jq,.cells ⟨([na,nb].map p6).flatten⟩ 9 (0,0))] (fun aF hs hZ=>afR (bV [na,nb] hZ.head (by intro p hp;rfl)) (by first|omega| (simp only[List.length_set,zM];omega)) (by intro x hx;simp only[List.mem_cons,List.not_mem_nil,or_false] at hx;rcases hx with rfl|rfl;exact⟨EM.n,EM.s⟩;exact⟨BO.n,BO.s⟩)) ?_
 refine zD 12<|jp (vs:=[.string na]) [] [] (fun aF hs hZ=>(nOf EM))<|zD 2<|jp (vs:=[.string nb]) [] [] (fun aF hs hZ=>(nOf BO))<|jc (vs:=[.string (keyOf na),.slice dB rs.length dz,.string (keyOf nb)]) [] (auN (show a8 _ _ _ _ _ from ⟨dB,mP,mO,dz,rfl,qd,gY,jV⟩) hR (R3 EM).1 (by have:=(R3 EM).2;omega) (by omega)) ?_
 rintro _ L30 ⟨v30,aN2,aOc,rfl,wN,avG,aO8⟩
 refine zD 12<|js 34 (!aOc) (fun h1=>?_) (fun h1=>?_)
 ·
  try simp only[zB] at h1
  refine zD 7<|zX (.tuple ⟨[zS,zI 11]⟩) ⟨_,[],_,rfl,aw.nil _ _ _,by simp,.inr ⟨rfl,aO8 (by simp_all)⟩⟩
 try simp only[zB] at h1
 refine zD 9<|zR (.tuple ⟨[v30,zI 0]⟩) [] [0] L30 ⟨_,aN2,_,rfl,wN,by have:=aqb (avG (by simp_all)).1;have:=(avG (by simp_all)).2;omega,.inl ⟨rfl,avG (by simp_all)⟩⟩
theorem aDt(hl:a8 ro vl 2 fW rs)(hR:∀r∈rs,rS r)(hq:rs.length≤4)(EM:rV na)(BO:rV nb):dv zT 155 [vl,.string na,.string nb] ro (.tuple ⟨[zI (uN rs (keyOf na) (keyOf nb)),zI (uE rs (keyOf na) (keyOf nb))]⟩):=by
 obtain⟨dB,mP,mO,dz,rfl,qd,gY,jV⟩:=hl
 refine zE<|zD 10<|jc (vs:=[.slice dB rs.length dz,.string na,.string nb]) [] (ane (show a8 _ _ _ _ _ from ⟨dB,mP,mO,dz,rfl,qd,gY,jV⟩) hR hq EM BO) ?_
 rintro _ L14 ⟨v14,aC2,O9,rfl,Oz,bc2,rj⟩
 refine zD 12<|js 18 (!decide (O9=0)) (fun h1=>?_) (fun h1=>?_)
 ·
  replace h1:=of_decide_eq_false (by simpa using h1)
  refine zD 8<|zX (.tuple ⟨[zI 0,zI O9]⟩) ⟨by rcases rj with ⟨h1,h2,h3⟩| ⟨h1,h2⟩<;>simp only[uN,uE,h2]<;>(subst h1;simp_all<;>omega),rfl⟩
 replace h1:=of_decide_eq_true (by simpa using h1)
 refine zD 5<|Fy Oz<|ja ((aC2.length:Int)-1) (by omega)<|zD 4<|zX (.tuple ⟨[zI ((aC2.length:Int)-1),zI 0]⟩) ⟨by rcases rj with ⟨h1,h2,h3⟩| ⟨h1,h2⟩<;>simp only[uN,uE,h2]<;>(subst h1;simp_all<;>omega),rfl⟩
theorem RE(hl:a8 ro vl 2 fW rs)(hR:∀r∈rs,rS r)(hq:rs.length≤4)(EM:rV na)(BO:rV nb):dv zT 120 [vl,.string na,.string nb] ro (.tuple ⟨[zI (GI rs na nb),zI 0]⟩):=by
 obtain⟨dB,mP,mO,dz,rfl,qd,gY,jV⟩:=hl
 refine zE<|zD 10<|jp (vs:=[.slice dB rs.length dz,.string na,.string nb]) [] [] (fun aF hs hZ=>aDt ((show a8 _ _ _ _ _ from ⟨dB,mP,mO,dz,rfl,qd,gY,jV⟩).up hs) hR hq EM BO)<|zD 14<|zJ 17 ((uE rs (keyOf na) (keyOf nb))=11) (fun h1=>?_) fun h1=>?_
 ·
  refine zD 7<|zX (.tuple ⟨[zI 2,zI 0]⟩) ⟨by simp only[uN,uE,GI] at*;rcases huq:uq rs (keyOf na) (keyOf nb) with _|_|n<;>simp_all<;>omega,rfl⟩
 refine zD 7<|js 20 (!decide ((uE rs (keyOf na) (keyOf nb))=0)) (fun h2=>?_) (fun h2=>?_)
 ·
  replace h2:=of_decide_eq_false (by simpa using h2)
  refine zD 8<|zX (.tuple ⟨[zI 0,zI (uE rs (keyOf na) (keyOf nb))]⟩) ⟨by simp only[uN,uE,GI] at*;rcases huq:uq rs (keyOf na) (keyOf nb) with _|_|n<;>simp_all<;>omega,rfl⟩
 replace h2:=of_decide_eq_true (by simpa using h2)
 refine zD 7<|zJ 24 ((uN rs (keyOf na) (keyOf nb))=0) (fun h3=>?_) fun h3=>?_
 ·
  refine zD 7<|zX (.tuple ⟨[zI 1,zI 0]⟩) ⟨by simp only[uN,uE,GI] at*;rcases huq:uq rs (keyOf na) (keyOf nb) with _|_|n<;>simp_all<;>omega,rfl⟩
 refine zD 8<|zX (.tuple ⟨[zI 3,zI 0]⟩) ⟨by simp only[uN,uE,GI] at*;rcases huq:uq rs (keyOf na) (keyOf nb) with _|_|n<;>simp_all<;>omega,rfl⟩
abbrev Ug(x:Int):List Value:=[.int .u8 x]
structure bD where
 c:Nat→Nat→Bool
abbrev B6(x:bD):List Value:=[.bool (x.c 0 0),.bool (x.c 0 1),.bool (x.c 0 2),.bool (x.c 0 3),.bool (x.c 1 0),.bool (x.c 1 1),.bool (x.c 1 2),.bool (x.c 1 3),.bool (x.c 2 0),.bool (x.c 2 1),.bool (x.c 2 2),.bool (x.c 2 3),.bool (x.c 3 0),.bool (x.c 3 1),.bool (x.c 3 2),.bool (x.c 3 3)]
def nv(cs:List bO):Nat→List Int
 |0=>[]
 |k+1=>nv cs k++[match cs[k]? with
  |some c=>if 0≤c.under then Mx .u8 (Mx .u8 0 (dM .u8 1 k)) ((nv cs k)[c.under.toNat]?.getD 0) else Mx .u8 0 (dM .u8 1 k)
  |none=>0]
theorem pd(cs:List bO):∀k,(nv cs k).length=k
 |0=>rfl
 |k+1=>by simp[nv,pd cs k]
theorem apo{c:bO}{y:Int}(h:cs[k]?=some c) (hu:0≤c.under) (hy:(nv cs k)[c.under.toNat]?=some y):nv cs (k+1)=nv cs k++[Mx .u8 (Mx .u8 0 (dM .u8 1 k)) y]:=by
 simp only[nv,h,if_pos hu,hy,Option.getD_some]
theorem apq{c:bO}(h:cs[k]?=some c) (hu:¬0≤c.under):nv cs (k+1)=nv cs k++[Mx .u8 0 (dM .u8 1 k)]:=by
 simp only[nv,h,if_neg hu]
def af8(s:Int):Nat→Int
 |0=> -1
 |k+1=>bif hasB s k then k else af8 s k
def HH(cs:List bO)(a b:Int):Int:=af8 (VC .u8 ((nv cs cs.length)[a.toNat]?.getD 0) ((nv cs cs.length)[b.toNat]?.getD 0)) cs.length
def ZS(hd:List cy)(h:Int):Int:=match hd[h.toNat]? with
 |some x=>x.cls
 |none=>0
def AM(K:aE)(x y:aB):Bool:=decide (GI K.rules x.name y.name=2)
def uM(K:aE)(x y:aB):Bool:=if (x.head <0∨y.head <0)∨x.head=y.head then false else decide (HH K.cs (ZS K.hd x.head) (ZS K.hd y.head) <0)
def CV(on:Int)(a b:Int):List bK→Nat→Bool
 | [],_=>false
 |x::l,k=>(((hasB on k&&decide (x.a=a))&&decide (x.b=b))&& !x.same)||CV on a b l (k+1)
def dF(K:aE)(on:Int)(a b:Nat):Bool:=match K.before[a]?,K.after[b]? with
 |some x,some y=> !AM K x y&&(!uM K x y&& !CV on a b K.facts 0)
 |_,_=>false
structure eH(K:aE):Prop where
 rules:K.rules.length≤4∧∀r∈K.rules,rS r
 before:K.before.length≤4∧∀p∈K.before,rV p.name∧ou K.hd p.head
 after:K.after.length≤4∧∀p∈K.after,rV p.name∧ou K.hd p.head
 cX:mb K.cs K.hd
 facts:K.facts.length≤4∧∀x∈K.facts,(0≤x.a∧x.a <K.before.length)∧(0≤x.b∧x.b <K.after.length)
def ov(ro:Nat→Option Obj)(f:Nat)(K:aE)(rows:List bD):Prop:=∃(c0 c1 c2 vc vh vr vb va vf vt:Value) (hv:List aY),
 ro f=some (.cells ⟨[c0,c1,c2,vc,vh,vr,vb,va,zI K.gone,zI K.new,zI K.ab,vf,vt]⟩ 128 (0,0))∧iv ro vc vh K.cs hv K.hd∧dc du hv K.hd∧
 a8 ro vr 2 fW K.rules∧a8 ro vb 5 di K.before∧a8 ro va 5 di K.after∧a8 ro vf 3 kJ K.facts∧a8 ro vt 16 B6 rows
theorem ov.up{aC:Nat→Option Obj}{rows:List bD}(h:ov ro f K rows)(hs:Sub ro aC):ov aC f K rows:=by
 obtain⟨c0,c1,c2,vc,vh,vr,vb,va,vf,vt,hv,h1,h2,h3,h4,h5,h6,h7,h8⟩:=h
 exact⟨c0,c1,c2,vc,vh,vr,vb,va,vf,vt,hv,hs _ _ h1,h2.up hs,h3,h4.up hs,h5.up hs,h6.up hs,h7.up hs,h8.up hs⟩
theorem aMf{f i:Int}(hi:0≤i∧i≤8):dv zT 334 [.int .u8 f,zI i] ro (.bool (hasB f i)):=by
 refine zE<|zD 8<|jsr (k:= .u8) (k':= .i64) (a:=f) (b:=i) 422 (by omega)<|zD 5<|zX (.bool (decide ((VC .u8 (aV .u8 f i) 1)=1))) ⟨rfl,rfl⟩
theorem aBw{f i:Int}(hi:0≤i∧i≤8):dv zT 335 [.int .u8 f,zI i] ro (.int .u8 (Mx .u8 f (dM .u8 1 i))):=by
 refine zE<|zD 8<|jsh (k:= .u8) (k':= .i64) (a:=1) (b:=i) 422 (by omega)<|zD 4<|zX (.int .u8 (Mx .u8 f (dM .u8 1 i))) ⟨rfl,rfl⟩
theorem atD{hv:List aY}(hR:iv ro vc vh cs hv hd)(mH:dc du hv hd)(hT:mb cs hd):dQ zT 333 [.agg ⟨[vc,vh]⟩] ro [] (fun r Y=>∃b vS LS vE,r= .tuple ⟨[zP b,zI 0]⟩∧aw vS 1 422 Ug (nv cs cs.length) LS∧Y=(b,.cells ⟨[vc,vh,vS,vE]⟩ 426 (0,0))::LS):=by
 obtain⟨hc,hh,dr⟩:=id hR
 obtain⟨dS,yw,yu,dP,rfl,AR,vK,vJ⟩:=hc
 obtain⟨dC,s9,s8,de,rfl,uX,pJ,pH⟩:=hh
 have Dy:=hT.nc
 have hnh:=hT.nh
 have hlen:=mH.len
 refine zE<|zD 2<|jn fun b1=>jd 7 [0]<|jp (vs:=[.agg ⟨[.slice dS cs.length dP,.slice dC hv.length de]⟩]) [] [] (fun aF hs hZ=>(XN (hR.up hs) mH hT))<|jd 13 [0]<|jn fun AJ=>jd 11 [1]<|nB<|dL [1,1,1,0,1,0,0] [] (fun(zz:Nat×Value×Cells)=>[(1,zP b1),(2,.pointer none),(3,zI 0),(5,zP AJ),(20,.slice dS cs.length dP),(21,zI (cs.length:Int)),(22,zI (zz.1:Int))]) (fun zz=>[.l zz.2.2,.b AJ (.cells ⟨[.slice dS cs.length dP,.slice dC hv.length de,zz.2.1,zS]⟩ 426 (0,0)),.b b1 (.cells ⟨[.slice dS cs.length dP,.slice dC hv.length de]⟩ 35 (0,0))]) (fun zz=>zz.1≤cs.length∧aw zz.2.1 1 422 Ug (nv cs zz.1) zz.2.2) (fun zz=>cs.length-zz.1) (⟨0,zS,[]⟩) ⟨by dsimp only;omega,aw.nil _ _ _⟩ [0,1,2] ?_
 rintro⟨k,vS,LS⟩ hI K1 bE rest
 dsimp only at hI
 refine zD 5<|zJ 23 ((k:Int) <(cs.length:Int)) (fun h1=>?_) fun h1=>?_
 ·
  refine zD 7 ?_
  obtain⟨zc,lS⟩:=zG cs k
  refine fL dP 2 vK lS<|jl 0 (vJ _ _ lS)<|jn fun b7=>jd 4 [0] ?_
  have iZ:=hT.cls _ _ lS
  have Mz:=pd cs k
  refine zD 2<|jp (vs:=[.int .u8 0,zI (k:Int)]) [] [] (fun aF hs hZ=>(aBw (by omega)))<|jd 9 [0]<|zJ 31 (zc.under≥0) (fun h2=>?_) fun h2=>?_
  ·
   refine jd 9 [2,0] ?_
   obtain⟨Ga,yB⟩:=zG ((nv cs k)) (zc.under.toNat) (by first|omega| (simp only[List.length_set,zM];omega))
   refine qA zc.under 1 hI.2 yB (Int.toNat_of_nonneg (show 0≤zc.under∧zc.under <(((nv cs k)).length:Int) from (by have:=iZ.2;simp only[pd];omega)).1).symm (fun b39 aSo=>?_)
   refine oQ 0 [1] LS (fun s _ hZ=>cJ hI.2 aSo hZ yB)<|jd 10 [2]<|jn fun b48=>gL (sz:=1) (ps:=(nv cs k)) (qs:=[(Mx .u8 (Mx .u8 0 (dM .u8 1 (k:Int))) Ga)]) (enc:=Ug) (w:= .slice (some ⟨b48,0,none⟩) 1 1) [2] [0] [(b48,.cells ⟨([(Mx .u8 (Mx .u8 0 (dM .u8 1 (k:Int))) Ga)].map Ug).flatten⟩ 422 (0,0))] (hI.2) (fun s _ hZ=>bN [(Mx .u8 (Mx .u8 0 (dM .u8 1 (k:Int))) Ga)] (hZ _ (.head _)) (by intro p hp;rfl)) (fun p _=>ah rfl) (by simp only[pd,List.length_cons,List.length_nil];omega) (fun v49 L49 qG=>?_)
   obtain⟨Np,Nm,Il⟩:=qG.form
   subst Il
   refine jd 5 [3]<|ja ((k:Int)+1) (by omega)<|zD 2<|bF bE (⟨k+1,(.slice Np (((nv cs k)++[(Mx .u8 (Mx .u8 0 (dM .u8 1 (k:Int))) Ga)])).length Nm),L49⟩) ⟨by dsimp only;omega,by rw[apo lS (by omega) yB];exact qG⟩ (by dsimp only;omega) [0,3,4] (Sub.refl _)
  refine jd 9 [2]<|jn fun b48=>gL (sz:=1) (ps:=(nv cs k)) (qs:=[(Mx .u8 0 (dM .u8 1 (k:Int)))]) (enc:=Ug) (w:= .slice (some ⟨b48,0,none⟩) 1 1) [2] [0] [(b48,.cells ⟨([(Mx .u8 0 (dM .u8 1 (k:Int)))].map Ug).flatten⟩ 422 (0,0))] (hI.2) (fun s _ hZ=>bN [(Mx .u8 0 (dM .u8 1 (k:Int)))] (hZ _ (.head _)) (by intro p hp;rfl)) (fun p _=>ah rfl) (by simp only[pd,List.length_cons,List.length_nil];omega) (fun v49 L49 qG=>?_)
  obtain⟨Np,Nm,Il⟩:=qG.form
  subst Il
  refine jd 5 [3]<|ja ((k:Int)+1) (by omega)<|zD 2<|bF bE (⟨k+1,(.slice Np (((nv cs k)++[(Mx .u8 0 (dM .u8 1 (k:Int)))])).length Nm),L49⟩) ⟨by dsimp only;omega,by rw[apq lS (by omega)];exact qG⟩ (by dsimp only;omega) [0,3,4] (Sub.refl _)
 refine jd 11 [2]<|nB<|dL [1,1,1,1,0,1,0,0] [] (fun(zz:Nat×Value×Cells×(List Value))=>[(2,.pointer none),(3,zI 0),(5,zP AJ),(54,.slice dC hv.length de),(55,zI (hv.length:Int)),(56,zI (zz.1:Int))]) (fun zz=>[.l zz.2.2.1,.b AJ (.cells ⟨[.slice dS cs.length dP,.slice dC hv.length de,vS,zz.2.1]⟩ 426 (0,0)),.l LS,.b b1 (.cells ⟨[.slice dS cs.length dP,.slice dC hv.length de]⟩ 35 (0,0))]) (fun zz=>(zz.1≤hv.length∧zz.2.2.2.length≤zz.1)∧aw zz.2.1 1 436 fB zz.2.2.2 zz.2.2.1) (fun zz=>hv.length-zz.1) (⟨0,zS,[],[]⟩) ⟨⟨by omega,Nat.le_refl _⟩,aw.nil _ _ _⟩ [0,2,1,3] ?_
 rintro⟨j,vE,LE,es⟩ hJ K2 lG rest
 dsimp only at hJ
 refine zD 5<|zJ 57 ((j:Int) <(hv.length:Int)) (fun h3=>?_) fun h3=>?_
 ·
  refine zD 6 ?_
  obtain⟨q7,HS⟩:=zG hv j
  refine fL de 4 pJ HS<|jl 0 (pH _ _ HS)<|jn fun lV=>PS 0 lV 0 [.string ByteArray.empty,zI 0,zI 0,zS] [.string q7.word,zI q7.cls,zI q7.lE,q7.dt] 143 (eX dr _ (zL HS)) rfl<|zD 3 ?_
  obtain⟨y58,bcc,aP2⟩:=dr.get HS
  obtain⟨dB,mP,mO,dz,hqe,qd,gY,jV⟩:=aP2.2.2.2
  refine jmw 0 [.b lV (.cells ⟨[.string q7.word,zI q7.cls,zI q7.lE,.slice dB y58.dt.length dz]⟩ 143 (0,0))] (L:=[(lV,.cells ⟨[.string q7.word,zI q7.cls,zI q7.lE,q7.dt]⟩ 143 (0,0))]) (by rw[hqe];rfl) ?_
  refine jd 6 [0]<|js 73 (!decide (q7.lE=(-1))) (fun h4=>?_) (fun h4=>?_)
  ·
   replace h4:=of_decide_eq_false (by simpa using h4)
   refine jd 11 [2,0]<|aS 9 fun rZ r8 qM=>jn fun b86=>ep qM (zN 1 5)<|aS 10 fun sL sR qL=>gL (sz:=1) (ps:=es) (qs:=[(.iface 429 (.agg ⟨[zI q7.lE]⟩):Value)]) (enc:=fB) (w:= .slice (some ⟨b86,0,none⟩) 1 1) [2] [0] [(b86,.cells ⟨([(.iface 429 (.agg ⟨[zI q7.lE]⟩):Value)].map fB).flatten⟩ 436 (0,0))] (hJ.2) (fun s _ hZ=>bN [(.iface 429 (.agg ⟨[zI q7.lE]⟩):Value)] (hZ _ (.head _)) (by intro p hp;rfl)) (by intro p hp;rw[List.mem_singleton] at hp;subst hp;exact ah rfl) (by simp only[List.length_cons,List.length_nil];omega) (fun v87 L87 ahy=>?_)
   obtain⟨aLF,aLe,aRs⟩:=ahy.form
   subst aRs
   refine fR qL [[2]]<|zD 2<|aS 13 fun A0 Bm Au=>jd 1 [3]<|fR Au []<|zD 2<|ja ((j:Int)+1) (by omega)<|zD 2<|bF lG (⟨j+1,(.slice aLF ((es++[(.iface 429 (.agg ⟨[zI q7.lE]⟩):Value)])).length aLe),L87,(es++[(.iface 429 (.agg ⟨[zI q7.lE]⟩):Value)])⟩) ⟨⟨by dsimp only;omega,by simp only[zM];omega⟩,ahy⟩ (by dsimp only;omega) [0,3,4,5] (Sub.refl _)
  replace h4:=of_decide_eq_true (by simpa using h4)
  refine jd 8 [0]<|js 90 (!decide (q7.cls=(-1))) (fun h8=>?_) (fun h8=>?_)
  ·
   replace h8:=of_decide_eq_false (by simpa using h8)
   refine jd 13 [2,0,0]<|aS 11 fun adl aeb hL6=>jn fun aId=>ep hL6 (zN 1 5)<|aS 12 fun adk aea OI=>gL (sz:=1) (ps:=es) (qs:=[(.iface 431 (.agg ⟨[zI q7.cls,.slice dB y58.dt.length dz]⟩):Value)]) (enc:=fB) (w:= .slice (some ⟨aId,0,none⟩) 1 1) [2] [0] [(aId,.cells ⟨([(.iface 431 (.agg ⟨[zI q7.cls,.slice dB y58.dt.length dz]⟩):Value)].map fB).flatten⟩ 436 (0,0))] (hJ.2) (fun s _ hZ=>bN [(.iface 431 (.agg ⟨[zI q7.cls,.slice dB y58.dt.length dz]⟩):Value)] (hZ _ (.head _)) (by intro p hp;rfl)) (by intro p hp;rw[List.mem_singleton] at hp;subst hp;exact ah rfl) (by simp only[List.length_cons,List.length_nil];omega) (fun aZO aVp Zg=>?_)
   obtain⟨aA2,aAU,aFV⟩:=Zg.form
   subst aFV
   refine fR OI [[2],[2]]<|zD 2<|aS 15 fun P8 Qv OH=>jd 1 [3]<|fR OH []<|zD 2<|ja ((j:Int)+1) (by omega)<|zD 2<|bF lG (⟨j+1,(.slice aA2 ((es++[(.iface 431 (.agg ⟨[zI q7.cls,.slice dB y58.dt.length dz]⟩):Value)])).length aAU),aVp,(es++[(.iface 431 (.agg ⟨[zI q7.cls,.slice dB y58.dt.length dz]⟩):Value)])⟩) ⟨⟨by dsimp only;omega,by simp only[zM];omega⟩,Zg⟩ (by dsimp only;omega) [0,3,4,5] (Sub.refl _)
  replace h8:=of_decide_eq_true (by simpa using h8)
  refine jd 11 [2,0]<|aS 9 fun Ni Nt KD=>jn fun b69=>ep KD (zN 1 5)<|aS 10 fun yG yI qN=>gL (sz:=1) (ps:=es) (qs:=[(.iface 433 (.agg ⟨[.slice dB y58.dt.length dz]⟩):Value)]) (enc:=fB) (w:= .slice (some ⟨b69,0,none⟩) 1 1) [2] [0] [(b69,.cells ⟨([(.iface 433 (.agg ⟨[.slice dB y58.dt.length dz]⟩):Value)].map fB).flatten⟩ 436 (0,0))] (hJ.2) (fun s _ hZ=>bN [(.iface 433 (.agg ⟨[.slice dB y58.dt.length dz]⟩):Value)] (hZ _ (.head _)) (by intro p hp;rfl)) (by intro p hp;rw[List.mem_singleton] at hp;subst hp;exact ah rfl) (by simp only[List.length_cons,List.length_nil];omega) (fun v70 L70 ahA=>?_)
  obtain⟨aLI,aLh,aRv⟩:=ahA.form
  subst aRv
  refine fR qN [[2]]<|zD 2<|aS 13 fun Eh Eo wQ=>jd 1 [3]<|fR wQ []<|zD 2<|ja ((j:Int)+1) (by omega)<|zD 2<|bF lG (⟨j+1,(.slice aLI ((es++[(.iface 433 (.agg ⟨[.slice dB y58.dt.length dz]⟩):Value)])).length aLh),L70,(es++[(.iface 433 (.agg ⟨[.slice dB y58.dt.length dz]⟩):Value)])⟩) ⟨⟨by dsimp only;omega,by simp only[zM];omega⟩,ahA⟩ (by dsimp only;omega) [0,3,4,5] (Sub.refl _)
 refine zD 9<|zR (.tuple ⟨[zP AJ,zI 0]⟩) [] [1,2] ((AJ,.cells ⟨[.slice dS cs.length dP,.slice dC hv.length de,vS,vE]⟩ 426 (0,0))::LS) ⟨_,_,LS,_,rfl,by have:=hI.2;rwa[show k=cs.length by omega] at this,rfl⟩
theorem YC{s:Int}{j:Int}(h:0≤j):af8 s (j+1).toNat=bif hasB s j then j else af8 s j.toNat:=by
 obtain⟨m,rfl⟩:=Int.eq_ofNat_of_zero_le h
 rfl
theorem XW{on a b:Int}{l:List bK}{x:bK}(h:l[k]?=some x):CV on a b (l.drop k) k=((((hasB on k&&decide (x.a=a))&&decide (x.b=b))&& !x.same)||CV on a b (l.drop (k+1)) (k+1)):=by rw[fG h];rfl
theorem aeF{on a b:Int}{l:List bK}(h:¬k <l.length):CV on a b (l.drop k) k=false:=by rw[eO h];rfl
theorem Zt{hv:List aY}{h:Int}{x:aY}(hS:dc du hv hd)(hT:mb cs hd)(hk:ou hd h)(h0:0≤h)(hx:hv[h.toNat]?=some x):ZS hd h=x.cls∧0≤x.cls∧x.cls <cs.length:=by
 obtain⟨y,hy,hs⟩:=hS.get hx
 rcases hk with rfl| ⟨_,z,hz,hc⟩
 ·omega
 rw[hy] at hz;cases hz
 have:=(hT.u4 _ _ hy).2.1
 exact⟨by simp[ZS,hy,hs.2.1],hs.2.1▸hc,by rw[hs.2.1];exact this.2⟩
theorem Zs{hv:List aY}{h:Int}(hS:dc du hv hd)(hk:ou hd h)(h0:0≤h):h <hv.length:=by
 rcases hk with rfl| ⟨_,z,hz,_⟩
 ·omega
 have:=(List.getElem?_eq_some_iff.1 hz).1
 rw[hS.len];omega
theorem atu{hv:List aY}{a b:Int}(hR:iv ro vc vh cs hv hd)(mH:dc du hv hd)(hT:mb cs hd)(ha:0≤a∧a <cs.length)(hb:0≤b∧b <cs.length):dv zT 332 [.agg ⟨[vc,vh]⟩,zI a,zI b] ro (.tuple ⟨[zI (HH cs a b),zI 0]⟩):=by
 obtain⟨hc,hh,dr⟩:=id hR
 obtain⟨dS,yw,yu,dP,rfl,AR,vK,vJ⟩:=hc
 obtain⟨dC,s9,s8,de,rfl,uX,pJ,pH⟩:=hh
 have Dy:=hT.nc
 have hnh:=hT.nh
 have hlen:=mH.len
 have Mz:=pd cs cs.length
 refine zE<|zD 2<|jn fun b3=>jd 6 [0]<|jc (vs:=[.agg ⟨[.slice dS cs.length dP,.slice dC hv.length de]⟩]) [] (atD hR mH hT) ?_
 rintro _ _ ⟨bT,vS,LS,vE,rfl,hS,rfl⟩
 refine jg 0 [.b bT (.cells ⟨[.slice dS cs.length dP,.slice dC hv.length de,vS,vE]⟩ 426 (0,0)),.l LS]<|zD 5<|jf [0,1] ((bT,.cells ⟨[.slice dS cs.length dP,.slice dC hv.length de,vS,vE]⟩ 426 (0,0))::LS) (fun yt bL iJ=>?_)
 have hSS:=hS.jC iJ.tail
 obtain⟨aCw,baN,baL,amI,rfl,baM,aCv,aCu⟩:=hSS
 refine jd 17 [0]<|ja ((cs.length:Int)-1) (by omega)<|jp (vs:=[zI a,zI 0,zI ((cs.length:Int)-1)]) [] [] (fun aF hs hZ=>jQ)<|zD 3<|js 20 (!(gT a 0 ((cs.length:Int)-1))) (fun h4=>?_) (fun h4=>?_)
 ·
  try simp only[zB] at h4
  exfalso;simp only[gT,Bool.not_eq_true',Bool.and_eq_false_iff,decide_eq_false_iff_not] at h4;omega
 try simp only[zB] at h4
 refine jd 6 [0]<|ja ((cs.length:Int)-1) (by omega)<|jp (vs:=[zI b,zI 0,zI ((cs.length:Int)-1)]) [] [] (fun aF hs hZ=>jQ)<|zD 3<|js 20 (!(gT b 0 ((cs.length:Int)-1))) (fun h5=>?_) (fun h5=>?_)
 ·
  try simp only[zB] at h5
  exfalso;simp only[gT,Bool.not_eq_true',Bool.and_eq_false_iff,decide_eq_false_iff_not] at h5;omega
 try simp only[zB] at h5
 refine jd 8 [0]<|ja ((cs.length:Int)-1) (by omega)<|zD 3<|dL [1,1,1,0,1,0,0] [] (fun(zz:Int)=>[(1,zI a),(2,zI b),(8,zP bT),(10,zI zz)]) (fun zz=>[.b b3 (.cells ⟨[.slice dS cs.length dP,.slice dC hv.length de]⟩ 35 (0,0))]) (fun zz=>(-1≤zz∧zz <cs.length)∧HH cs a b=af8 (VC .u8 ((nv cs cs.length)[a.toNat]?.getD 0) ((nv cs cs.length)[b.toNat]?.getD 0)) (zz+1).toNat) (fun zz=>(zz+1).toNat) ((cs.length:Int)-1) ⟨by omega,by rw[HH,show ((cs.length:Int)-1+1).toNat=cs.length by omega]⟩ [0] ?_
 rintro j hI K1 bE rest
 refine zD 6<|zJ 40 (j≥0) (fun h6=>?_) fun h6=>?_
 ·
  refine zD 9<|jl (b:=bT) (off:=0) (m:=4) (vs:=[.slice dS cs.length dP,.slice dC hv.length de,.slice aCw ((nv cs cs.length).length) amI,vE]) 2 ⟨_,_,_,.inl (iJ _ (.head _)),rfl⟩<|zD 1 ?_
  obtain⟨x48,HT⟩:=zG ((nv cs cs.length)) (a.toNat) (by simp only[pd];omega)
  refine PT a amI 1 aCv HT (Int.toNat_of_nonneg (show 0≤a∧a <(((nv cs cs.length)).length:Int) from (by simp only[pd];omega)).1).symm ?_
  refine jl 0 (aCu _ _ HT)<|zD 3<|jl (b:=bT) (off:=0) (m:=4) (vs:=[.slice dS cs.length dP,.slice dC hv.length de,.slice aCw ((nv cs cs.length).length) amI,vE]) 2 ⟨_,_,_,.inl (iJ _ (.head _)),rfl⟩<|zD 1 ?_
  obtain⟨x55,an2⟩:=zG ((nv cs cs.length)) (b.toNat)
  refine PT b amI 1 aCv an2 (by omega)<|jl 0 (aCu _ _ an2)<|zD 2<|jp (vs:=[.int .u8 (VC .u8 x48 x55),zI j]) [] [] (fun aF hs hZ=>(aMf (by omega)))<|zD 1<|js 59 (hasB (VC .u8 x48 x55) j) (fun h7=>?_) (fun h7=>?_)
  ·
   refine zD 8<|aI q0.a (.tuple ⟨[zI j,zI 0]⟩) [] [] [] bL ⟨_,_,rfl,rfl,by rw[hI.2,YC (by omega),HT,an2,Option.getD_some,Option.getD_some,show hasB _ _=true from (by assumption)];rfl,rfl⟩
  refine zD 4<|ja (j-1) (by omega)<|zD 2<|bF bE (j-1) ⟨by omega,by rw[hI.2,YC (by omega),HT,an2,Option.getD_some,Option.getD_some,show hasB _ _=false from (by assumption),show j-1+1=j by omega];rfl⟩ (by omega) [0] (Sub.refl _)
 refine zD 8<|aI q0.a (.tuple ⟨[zI (-1),zI 0]⟩) [] [] [] bL ⟨_,_,rfl,rfl,by rw[hI.2,show j= -1 by omega];rfl,rfl⟩
theorem aDO:dv zT 163 [] ro (.agg ⟨[.iface 292 (.agg ⟨[]⟩),.iface 293 (.agg ⟨[]⟩),.iface 294 (.agg ⟨[]⟩)]⟩):=by
 refine zE<|zD 2<|jn fun b0=>jd 13 [0]<|zR (.agg ⟨[.iface 292 (.agg ⟨[]⟩),.iface 293 (.agg ⟨[]⟩),.iface 294 (.agg ⟨[]⟩)]⟩) [0] [] [] ⟨rfl,rfl⟩
theorem au8{rows:List bD}{a:Nat}{x:aB}{on:Int}(hF:ov ro f K rows)(hV:eH K)(ha:K.before[a]?=some x) (hb:K.after[b]?=some y):dv zT 328 [.agg ⟨[]⟩,zP f,zI (a:Int),zI (b:Int),.int .u8 on] ro (.bool (AM K x y)):=by
 obtain⟨c0,c1,c2,vc,vh,vr,vb,va,vf,vt,hv,hf,nF,mH,hr,DG,It,KA,bX⟩:=id hF
 obtain⟨hc,hh,dr⟩:=id nF
 obtain⟨dS,yw,yu,dP,rfl,AR,vK,vJ⟩:=hc
 obtain⟨dC,s9,s8,de,rfl,uX,pJ,pH⟩:=hh
 obtain⟨ju,Fg,Ff,jq,rfl,Kb,Ey,Ex⟩:=hr
 obtain⟨k7,Kh,Kc,kF,rfl,Kg,Fi,Fh⟩:=DG
 obtain⟨k8,Kk,Ki,kG,rfl,Kj,Fq,Fp⟩:=It
 obtain⟨mQ,Vb,U9,lO,rfl,Va,NQ,NP⟩:=KA
 obtain⟨nW,Fe,Fc,nD,rfl,Q4,NM,NL⟩:=bX
 have T7:=hV.rules.1
 have BO:=hV.before.1
 have EM:=hV.after.1
 have hnf:=hV.facts.1
 have MI:=(List.getElem?_eq_some_iff.1 ha).1
 have Ir:=(List.getElem?_eq_some_iff.1 hb).1
 refine zE<|zD 2<|jn fun b5=>zD 8<|jl (b:=f) (off:=0) (m:=13) (vs:=[c0,c1,c2,.slice dS K.cs.length dP,.slice dC hv.length de,.slice ju K.rules.length jq,.slice k7 K.before.length kF,.slice k8 K.after.length kG,zI K.gone,zI K.new,zI K.ab,.slice mQ K.facts.length lO,.slice nW rows.length nD]) 5 ⟨_,_,_,.inl hf,rfl⟩<|zD 4<|jl (b:=f) (off:=0) (m:=13) (vs:=[c0,c1,c2,.slice dS K.cs.length dP,.slice dC hv.length de,.slice ju K.rules.length jq,.slice k7 K.before.length kF,.slice k8 K.after.length kG,zI K.gone,zI K.new,zI K.ab,.slice mQ K.facts.length lO,.slice nW rows.length nD]) 6 ⟨_,_,_,.inl hf,rfl⟩<|zD 1 ?_
 obtain⟨zc,lS⟩:=zG K.before a
 refine fL kF 5 Fi lS<|zD 1<|jl 0 (Fh _ _ lS)<|zD 4<|jl (b:=f) (off:=0) (m:=13) (vs:=[c0,c1,c2,.slice dS K.cs.length dP,.slice dC hv.length de,.slice ju K.rules.length jq,.slice k7 K.before.length kF,.slice k8 K.after.length kG,zI K.gone,zI K.new,zI K.ab,.slice mQ K.facts.length lO,.slice nW rows.length nD]) 7 ⟨_,_,_,.inl hf,rfl⟩<|zD 1 ?_
 obtain⟨x34,Oq⟩:=zG K.after b
 refine fL kG 5 Fq Oq<|zD 1<|jl 0 (Fp _ _ Oq)<|jp (vs:=[.slice ju K.rules.length jq,.string zc.name,.string x34.name]) [] [] (fun aF hs hZ=>RE ((show a8 _ _ _ _ _ from ⟨ju,Fg,Ff,jq,rfl,Kb,Ey,Ex⟩).up hs) hV.rules.2 T7 (hV.before.2 _ (zL lS)).1 (hV.after.2 _ (zL Oq)).1)<|zD 9<|jp (vs:=[zI 0]) [] [] (fun aF hs hZ=>BI)<|zD 8<|zX (.bool (decide ((GI K.rules zc.name x34.name)=2))) ⟨by rw[ha] at lS;cases lS;rw[hb] at Oq;cases Oq;rfl,rfl⟩
theorem agM{rows:List bD}{a:Nat}{x:aB}{on:Int}(hF:ov ro f K rows)(hV:eH K)(ha:K.before[a]?=some x) (hb:K.after[b]?=some y):dv zT 330 [.agg ⟨[]⟩,zP f,zI (a:Int),zI (b:Int),.int .u8 on] ro (.bool (uM K x y)):=by
 obtain⟨c0,c1,c2,vc,vh,vr,vb,va,vf,vt,hv,hf,nF,mH,hr,DG,It,KA,bX⟩:=id hF
 obtain⟨hc,hh,dr⟩:=id nF
 obtain⟨dS,yw,yu,dP,rfl,AR,vK,vJ⟩:=hc
 obtain⟨dC,s9,s8,de,rfl,uX,pJ,pH⟩:=hh
 obtain⟨ju,Fg,Ff,jq,rfl,Kb,Ey,Ex⟩:=hr
 obtain⟨k7,Kh,Kc,kF,rfl,Kg,Fi,Fh⟩:=DG
 obtain⟨k8,Kk,Ki,kG,rfl,Kj,Fq,Fp⟩:=It
 obtain⟨mQ,Vb,U9,lO,rfl,Va,NQ,NP⟩:=KA
 obtain⟨nW,Fe,Fc,nD,rfl,Q4,NM,NL⟩:=bX
 have T7:=hV.rules.1
 have BO:=hV.before.1
 have EM:=hV.after.1
 have hnf:=hV.facts.1
 have MI:=(List.getElem?_eq_some_iff.1 ha).1
 have Ir:=(List.getElem?_eq_some_iff.1 hb).1
 refine zE<|zD 2<|jn fun b5=>zD 8<|jl (b:=f) (off:=0) (m:=13) (vs:=[c0,c1,c2,.slice dS K.cs.length dP,.slice dC hv.length de,.slice ju K.rules.length jq,.slice k7 K.before.length kF,.slice k8 K.after.length kG,zI K.gone,zI K.new,zI K.ab,.slice mQ K.facts.length lO,.slice nW rows.length nD]) 6 ⟨_,_,_,.inl hf,rfl⟩<|zD 1 ?_
 obtain⟨zd,qD⟩:=zG K.before a
 refine fL kF 5 Fi qD<|zD 1<|jl 3 (Fh _ _ qD)<|zD 4<|jl (b:=f) (off:=0) (m:=13) (vs:=[c0,c1,c2,.slice dS K.cs.length dP,.slice dC hv.length de,.slice ju K.rules.length jq,.slice k7 K.before.length kF,.slice k8 K.after.length kG,zI K.gone,zI K.new,zI K.ab,.slice mQ K.facts.length lO,.slice nW rows.length nD]) 7 ⟨_,_,_,.inl hf,rfl⟩<|zD 1 ?_
 obtain⟨oH,jL⟩:=zG K.after b
 refine fL kG 5 Fq jL<|zD 1<|jl 3 (Fp _ _ jL)<|zD 9<|jj 3 [(1,zP f),(10,.bool false),(11,zI zd.head),(12,zI oH.head),(38,.bool ((decide (zd.head <0))||(decide (oH.head <0))))] (fun gN=>?_) (fun hj=>?_)
 rotate_left
 refine js 35 (decide (zd.head <0)) (fun h1=>?_) (fun h1=>?_)
 ·
  have fH:=h1
  replace fH:=of_decide_eq_true fH
  refine zD 3<|jw 38 (.bool ((decide (zd.head <0))||(decide (oH.head <0)))) (w:= .bool true) (by rw[h1]<;>rfl) ?_
  exact zK hj
 ·
  have fH:=h1
  replace fH:=of_decide_eq_false fH
  refine zD 3<|jw 38 (.bool ((decide (zd.head <0))||(decide (oH.head <0)))) (w:= .bool (decide (oH.head <0))) (by rw[h1]<;>rfl) ?_
  exact zK hj
 refine zD 1<|jj 4 [(1,zP f),(10,.bool false),(11,zI zd.head),(12,zI oH.head),(43,.bool (((decide (zd.head <0))||(decide (oH.head <0)))||(decide (zd.head=oH.head))))] (fun gN=>?_) (fun hj=>?_)
 rotate_left
 refine js 39 ((decide (zd.head <0))||(decide (oH.head <0))) (fun h2=>?_) (fun h2=>?_)
 ·
  have kI:=h2
  try simp only[zB] at kI
  refine zD 4<|jw 43 (.bool (((decide (zd.head <0))||(decide (oH.head <0)))||(decide (zd.head=oH.head)))) (w:= .bool true) (by rw[h2]<;>rfl) ?_
  exact zK hj
 ·
  have kI:=h2
  try simp only[zB] at kI
  refine zD 4<|jw 43 (.bool (((decide (zd.head <0))||(decide (oH.head <0)))||(decide (zd.head=oH.head)))) (w:= .bool (decide (zd.head=oH.head))) (by rw[h2]<;>rfl) ?_
  exact zK hj
 refine zD 1<|js 43 (((decide (zd.head <0))||(decide (oH.head <0)))||(decide (zd.head=oH.head))) (fun h3=>?_) (fun h3=>?_)
 ·
  try simp only[zB] at h3
  refine zD 6<|zX (.bool false) ⟨by rw[ha] at qD;cases qD;rw[hb] at jL;cases jL;rw[uM,if_pos (by omega)],rfl⟩
 try simp only[zB] at h3
 refine zD 8<|jl (b:=f) (off:=0) (m:=13) (vs:=[c0,c1,c2,.slice dS K.cs.length dP,.slice dC hv.length de,.slice ju K.rules.length jq,.slice k7 K.before.length kF,.slice k8 K.after.length kG,zI K.gone,zI K.new,zI K.ab,.slice mQ K.facts.length lO,.slice nW rows.length nD]) 3 ⟨_,_,_,.inl hf,rfl⟩<|zD 5<|jl (b:=f) (off:=0) (m:=13) (vs:=[c0,c1,c2,.slice dS K.cs.length dP,.slice dC hv.length de,.slice ju K.rules.length jq,.slice k7 K.before.length kF,.slice k8 K.after.length kG,zI K.gone,zI K.new,zI K.ab,.slice mQ K.facts.length lO,.slice nW rows.length nD]) 4 ⟨_,_,_,.inl hf,rfl⟩<|zD 1 ?_
 obtain⟨x57,FB⟩:=zG hv (zd.head.toNat) (by have:=Zs mH (hV.before.2 _ (zL qD)).2 (by omega);omega)
 refine PT zd.head de 4 pJ FB (Int.toNat_of_nonneg (show 0≤zd.head∧zd.head <((hv).length:Int) from (by have:=Zs mH (hV.before.2 _ (zL qD)).2 (by omega);omega)).1).symm ?_
 refine zD 1<|jl 1 (pH _ _ FB)<|zD 5<|jl (b:=f) (off:=0) (m:=13) (vs:=[c0,c1,c2,.slice dS K.cs.length dP,.slice dC hv.length de,.slice ju K.rules.length jq,.slice k7 K.before.length kF,.slice k8 K.after.length kG,zI K.gone,zI K.new,zI K.ab,.slice mQ K.facts.length lO,.slice nW rows.length nD]) 4 ⟨_,_,_,.inl hf,rfl⟩<|zD 1 ?_
 obtain⟨x67,an1⟩:=zG hv (oH.head.toNat) (by have:=Zs mH (hV.after.2 _ (zL jL)).2 (by omega);omega)
 refine PT oH.head de 4 pJ an1 (Int.toNat_of_nonneg (show 0≤oH.head∧oH.head <((hv).length:Int) from (by have:=Zs mH (hV.after.2 _ (zL jL)).2 (by omega);omega)).1).symm ?_
 refine zD 1<|jl 1 (pH _ _ an1)<|jp (vs:=[.agg ⟨[.slice dS K.cs.length dP,.slice dC hv.length de]⟩,zI x57.cls,zI x67.cls]) [] [] (fun aF hs hZ=>atu (nF.up hs) mH hV.cX (Zt mH hV.cX (hV.before.2 _ (zL qD)).2 (by omega) FB).2 (Zt mH hV.cX (hV.after.2 _ (zL jL)).2 (by omega) an1).2)<|zD 9<|jp (vs:=[zI 0]) [] [] (fun aF hs hZ=>BI)<|zD 8<|zX (.bool (decide ((HH K.cs x57.cls x67.cls) <0))) ⟨by rw[ha] at qD;cases qD;rw[hb] at jL;cases jL;rw[uM,if_neg (by omega),(Zt mH hV.cX (hV.before.2 _ (zL ha)).2 (by omega) FB).1,(Zt mH hV.cX (hV.after.2 _ (zL hb)).2 (by omega) an1).1],rfl⟩
theorem anz{rows:List bD}{a:Nat}{on:Int}(hF:ov ro f K rows)(hV:eH K):dv zT 336 [.agg ⟨[]⟩,zP f,zI (a:Int),zI (b:Int),.int .u8 on] ro (.bool (CV on a b K.facts 0)):=by
 obtain⟨c0,c1,c2,vc,vh,vr,vb,va,vf,vt,hv,hf,nF,mH,hr,DG,It,KA,bX⟩:=id hF
 obtain⟨hc,hh,dr⟩:=id nF
 obtain⟨dS,yw,yu,dP,rfl,AR,vK,vJ⟩:=hc
 obtain⟨dC,s9,s8,de,rfl,uX,pJ,pH⟩:=hh
 obtain⟨ju,Fg,Ff,jq,rfl,Kb,Ey,Ex⟩:=hr
 obtain⟨k7,Kh,Kc,kF,rfl,Kg,Fi,Fh⟩:=DG
 obtain⟨k8,Kk,Ki,kG,rfl,Kj,Fq,Fp⟩:=It
 obtain⟨mQ,Vb,U9,lO,rfl,Va,NQ,NP⟩:=KA
 obtain⟨nW,Fe,Fc,nD,rfl,Q4,NM,NL⟩:=bX
 have T7:=hV.rules.1
 have BO:=hV.before.1
 have EM:=hV.after.1
 have hnf:=hV.facts.1
 refine zE<|zD 2<|jn fun b5=>zD 9<|jl (b:=f) (off:=0) (m:=13) (vs:=[c0,c1,c2,.slice dS K.cs.length dP,.slice dC hv.length de,.slice ju K.rules.length jq,.slice k7 K.before.length kF,.slice k8 K.after.length kG,zI K.gone,zI K.new,zI K.ab,.slice mQ K.facts.length lO,.slice nW rows.length nD]) 11 ⟨_,_,_,.inl hf,rfl⟩<|zD 4<|dL [1,0,1,0,0] [] (fun(zz:Nat)=>[(2,zI (a:Int)),(3,zI (b:Int)),(4,.int .u8 on),(17,.slice mQ K.facts.length lO),(18,zI (K.facts.length:Int)),(19,zI (zz:Int))]) (fun zz=>[]) (fun zz=>zz≤K.facts.length∧CV on a b K.facts 0=CV on a b (K.facts.drop zz) zz) (fun zz=>K.facts.length-zz) 0 ⟨by omega,rfl⟩ [] ?_
 rintro k hI K1 bE rest
 refine zD 5<|zJ 20 ((k:Int) <(K.facts.length:Int)) (fun h1=>?_) fun h1=>?_
 ·
  refine zD 7 ?_
  obtain⟨sH,uv⟩:=zG K.facts k
  refine fL lO 3 NQ uv<|jl 0 (NP _ _ uv)<|jn fun xv=>jd 7 [0]<|jp (vs:=[.int .u8 on,zI (k:Int)]) [] [] (fun aF hs hZ=>(avt (by omega)))<|zD 1<|jj 5 [(2,zI (a:Int)),(3,zI (b:Int)),(4,.int .u8 on),(12,zP xv),(17,.slice mQ K.facts.length lO),(18,zI (K.facts.length:Int)),(19,zI (k:Int)),(32,.bool ((hasB on (k:Int))&&(decide (sH.a=(a:Int)))))] (fun gN=>?_) (fun hj=>?_)
  rotate_left
  refine js 27 (hasB on (k:Int)) (fun h2=>?_) (fun h2=>?_)
  ·
   refine jd 5 [0]<|jw 32 (.bool ((hasB on (k:Int))&&(decide (sH.a=(a:Int))))) (w:= .bool (decide (sH.a=(a:Int)))) (by rw[h2]<;>rfl) ?_
   exact zK hj
  ·
   refine zD 5<|jw 32 (.bool ((hasB on (k:Int))&&(decide (sH.a=(a:Int))))) (w:= .bool false) (by rw[h2]<;>rfl) ?_
   exact zK hj
  refine zD 1<|jj 5 [(2,zI (a:Int)),(3,zI (b:Int)),(4,.int .u8 on),(12,zP xv),(17,.slice mQ K.facts.length lO),(18,zI (K.facts.length:Int)),(19,zI (k:Int)),(38,.bool (((hasB on (k:Int))&&(decide (sH.a=(a:Int))))&&(decide (sH.b=(b:Int)))))] (fun gN=>?_) (fun hj=>?_)
  rotate_left
  refine js 33 ((hasB on (k:Int))&&(decide (sH.a=(a:Int)))) (fun h3=>?_) (fun h3=>?_)
  ·
   have wR:=h3
   try simp only[zB] at wR
   refine jd 5 [0]<|jw 38 (.bool (((hasB on (k:Int))&&(decide (sH.a=(a:Int))))&&(decide (sH.b=(b:Int))))) (w:= .bool (decide (sH.b=(b:Int)))) (by rw[h3]<;>rfl) ?_
   exact zK hj
  ·
   have wR:=h3
   try simp only[zB] at wR
   refine zD 5<|jw 38 (.bool (((hasB on (k:Int))&&(decide (sH.a=(a:Int))))&&(decide (sH.b=(b:Int))))) (w:= .bool false) (by rw[h3]<;>rfl) ?_
   exact zK hj
  refine zD 1<|jj 4 [(2,zI (a:Int)),(3,zI (b:Int)),(4,.int .u8 on),(17,.slice mQ K.facts.length lO),(18,zI (K.facts.length:Int)),(19,zI (k:Int)),(43,.bool ((((hasB on (k:Int))&&(decide (sH.a=(a:Int))))&&(decide (sH.b=(b:Int))))&&(!sH.same)))] (fun gN=>?_) (fun hj=>?_)
  rotate_left
  refine js 39 (((hasB on (k:Int))&&(decide (sH.a=(a:Int))))&&(decide (sH.b=(b:Int)))) (fun h4=>?_) (fun h4=>?_)
  ·
   have uC:=h4
   try simp only[zB] at uC
   refine jd 4 [0]<|jw 43 (.bool ((((hasB on (k:Int))&&(decide (sH.a=(a:Int))))&&(decide (sH.b=(b:Int))))&&(!sH.same))) (w:= .bool (!sH.same)) (by rw[h4]<;>rfl) ?_
   exact zK hj
  ·
   have uC:=h4
   try simp only[zB] at uC
   refine zD 4<|jw 43 (.bool ((((hasB on (k:Int))&&(decide (sH.a=(a:Int))))&&(decide (sH.b=(b:Int))))&&(!sH.same))) (w:= .bool false) (by rw[h4]<;>rfl) ?_
   exact zK hj
  refine zD 1<|js 43 ((((hasB on (k:Int))&&(decide (sH.a=(a:Int))))&&(decide (sH.b=(b:Int))))&&(!sH.same)) (fun h5=>?_) (fun h5=>?_)
  ·
   refine zD 6<|zX (.bool true) ⟨by rw[hI.2,XW uv,show (((hasB on k&&decide (sH.a=a))&&decide (sH.b=b))&& !sH.same)=true from (by assumption)];rfl,rfl⟩
  refine zD 3<|ja ((k:Int)+1) (by omega)<|zD 2<|bF bE (k+1) ⟨by omega,by rw[hI.2,XW uv,show (((hasB on k&&decide (sH.a=a))&&decide (sH.b=b))&& !sH.same)=false from (by assumption)];rfl⟩ (by omega) [] (Sub.refl _)
 refine zD 7<|zX (.bool false) ⟨by rw[hI.2,aeF (by omega)],rfl⟩
theorem aDQ{rows:List bD}{a:Nat}{x:aB}{on:Int}(hF:ov ro f K rows)(hV:eH K)(ha:K.before[a]?=some x) (hb:K.after[b]?=some y):dv zT 126 [zP f,zI (a:Int),zI (b:Int),.int .u8 on] ro (.bool (dF K on a b)):=by
 refine zE<|zD 7<|jp [] [] (fun aF hs hZ=>aDO)<|zD 3<|dL [1,0,1,0,0] [] (fun(zz:Nat)=>[(0,zP f),(1,zI (a:Int)),(2,zI (b:Int)),(3,.int .u8 on),(11,.agg ⟨[.iface 292 (.agg ⟨[]⟩),.iface 293 (.agg ⟨[]⟩),.iface 294 (.agg ⟨[]⟩)]⟩),(12,zI (zz:Int))]) (fun zz=>[]) (fun zz=>zz≤3∧(1≤zz→AM K x y=false)∧(2≤zz→uM K x y=false)∧(3≤zz→CV on a b K.facts 0=false)) (fun zz=>3-zz) 0 ⟨by omega,nofun,nofun,nofun⟩ [] ?_
 rintro k hI K1 bE rest
 refine zD 5<|zJ 13 ((k:Int) <3) (fun h1=>?_) fun h1=>?_
 ·
  refine zD 6 ?_
  obtain rfl|rfl|rfl:k=0∨k=1∨k=2:=by omega
  ·
   refine zD 10<|jpI (vs:=[.agg ⟨[]⟩,zP f,zI (a:Int),zI (b:Int),.int .u8 on]) (fun aF hs=>au8 (hF.up hs) hV ha hb)<|zD 1<|js 20 (AM K x y) (fun h2=>?_) (fun h2=>?_)
   ·
    refine zD 6<|zX (.bool false) ⟨by simp only[dF,ha,hb];simp[*],rfl⟩
   refine zD 6<|bF bE 1 ⟨by omega,(fun _=>by assumption),nofun,nofun⟩ (by omega) [] (Sub.refl _)
  ·
   refine zD 10<|jpI (vs:=[.agg ⟨[]⟩,zP f,zI (a:Int),zI (b:Int),.int .u8 on]) (fun aF hs=>agM (hF.up hs) hV ha hb)<|zD 1<|js 20 (uM K x y) (fun h3=>?_) (fun h3=>?_)
   ·
    refine zD 6<|zX (.bool false) ⟨by simp only[dF,ha,hb];simp[*],rfl⟩
   refine zD 6<|bF bE 2 ⟨by omega,(fun _=>hI.2.1 (by omega)),(fun _=>by assumption),nofun⟩ (by omega) [] (Sub.refl _)
  refine zD 10<|jpI (vs:=[.agg ⟨[]⟩,zP f,zI (a:Int),zI (b:Int),.int .u8 on]) (fun aF hs=>anz (hF.up hs) hV)<|zD 1<|js 20 (CV on a b K.facts 0) (fun h4=>?_) (fun h4=>?_)
  ·
   refine zD 6<|zX (.bool false) ⟨by simp only[dF,ha,hb];simp[*],rfl⟩
  refine zD 6<|bF bE 3 ⟨by omega,(fun _=>hI.2.1 (by omega)),(fun _=>hI.2.2.1 (by omega)),(fun _=>by assumption)⟩ (by omega) [] (Sub.refl _)
 refine zD 7<|zX (.bool true) ⟨by simp only[dF,ha,hb,hI.2.1 (by omega),hI.2.2.1 (by omega),hI.2.2.2 (by omega)];rfl,rfl⟩
abbrev eP4(p:Nat→Int):List Value:=[zI (p 0),zI (p 1),zI (p 2),zI (p 3)]
abbrev pL(p:Nat→Int):List Int:=[p 0,p 1,p 2,p 3]
def iK(p:Nat→Int)(a:Nat)(v:Int):Nat→Int:=fun i=>if i=a then v else p i
theorem BE{a:Nat}(h:a <4):a=0∨a=1∨a=2∨a=3:=by omega
theorem auv{a:Nat}(h:a <4):nth (eP4 p) (0+(a:Int).toNat*1)=some (zI (p a)):=by
 rcases BE h with rfl|rfl|rfl|rfl<;>rfl
theorem auu{a:Nat}{v:Int}(h:a <4):dK (eP4 p) (0+(a:Int).toNat*1) [zI v]=eP4 (iK p a v):=by
 rcases BE h with rfl|rfl|rfl|rfl<;>rfl
theorem auw{a:Nat}{v:Value}(h:a <4):Nat.ble ((0+(a:Int).toNat*1)+[v].length) (eP4 p).length=true:=by
 rcases BE h with rfl|rfl|rfl|rfl<;>rfl
theorem XZ{r:bD}{a:Nat}(h:a <4)(k:b <4):nth (B6 r) (0+(a:Int).toNat*4+(b:Int).toNat*1)=some (.bool (r.c a b)):=by
 rcases BE h with rfl|rfl|rfl|rfl<;>rcases BE k with rfl|rfl|rfl|rfl<;>rfl
def jI(r:bD)(a b:Nat)(v:Bool):bD:=⟨fun i j=>if i=a∧j=b then v else r.c i j⟩
theorem XY{r:bD}{a:Nat}{v:Bool}(h:a <4)(k:b <4):dK (B6 r) (0+(a:Int).toNat*4+(b:Int).toNat*1) [.bool v]=B6 (jI r a b v):=by
 rcases BE h with rfl|rfl|rfl|rfl<;>rcases BE k with rfl|rfl|rfl|rfl<;>rfl
theorem X3{r:bD}{a:Nat}{v:Value}(h:a <4)(k:b <4):Nat.ble ((0+(a:Int).toNat*4+(b:Int).toNat*1)+[v].length) (B6 r).length=true:=by
 rcases BE h with rfl|rfl|rfl|rfl<;>rcases BE k with rfl|rfl|rfl|rfl<;>rfl
def mf(on:Int)(p:Nat→Int):List bK→Nat→Bool
 | [],_=>true
 |x::l,k=>bif (hasB on k&&x.same)&& !decide (p x.a.toNat=x.b+1) then false else mf on p l (k+1)
theorem xJ{on:Int}{l:List bK}{x:bK}(h:l[k]?=some x):mf on p (l.drop k) k=bif (hasB on k&&x.same)&& !decide (p x.a.toNat=x.b+1) then false else mf on p (l.drop (k+1)) (k+1):=by rw[fG h];rfl
theorem U0{on:Int}{l:List bK}(h:¬k <l.length):mf on p (l.drop k) k=true:=by rw[eO h];rfl
def qK(p:Nat→Int)(a:Nat)(v:Int):Bool:=decide (bJ (fun y=>decide (v=y)) ((pL p).take a) 0≥0)
theorem amr(h:ro b=some (.cells ⟨eP4 p⟩ T (0,0)))(hn:n≤4):a8 ro (.slice (some ⟨b,0,none⟩) n 4) 1 cD ((pL p).take n):=by
 have:=a8.part (bV (enc:=cD) (T:=T) (pL p) h (fun _ _=>rfl)) (l:=0) (h:=n) (by omega) (by simpa using hn)
 simpa [dZ] using this
theorem agX{v:Value}{n:Int}(hl:a8 ro v 1 cD xs)(hn:xs.length≤1000000):dv zT 67 [v,zI n] ro (zI (bJ (fun y=>decide (n=y)) xs 0)):=by
 obtain⟨dB,mP,mO,dz,rfl,qd,gY,jV⟩:=hl
 refine zE<|zD 12<|dL [1,0,1,0,0] [] (fun(zz:Nat)=>[(0,.slice dB xs.length dz),(1,zI n),(7,zI (xs.length:Int)),(8,zI (zz:Int))]) (fun zz=>[]) (fun zz=>zz≤xs.length∧bJ (fun y=>decide (n=y)) xs 0=bJ (fun y=>decide (n=y)) (xs.drop zz) zz) (fun zz=>xs.length-zz) 0 ⟨by omega,rfl⟩ [] ?_
 rintro k hI K1 bE rest
 refine zD 5<|zJ 9 ((k:Int) <(xs.length:Int)) (fun h1=>?_) fun h1=>?_
 ·
  refine zD 14 ?_
  obtain⟨eE,dN⟩:=zG xs k
  refine fL dz 1 gY dN<|jl 0 (jV _ _ dN)<|zD 2<|zJ 16 (n=eE) (fun h2=>?_) fun h2=>?_
  ·
   refine zD 7<|zX (zI (k:Int)) ⟨by rw[hI.2,gJ dN];simp[*],rfl⟩
  refine zD 3<|ja ((k:Int)+1) (by omega)<|zD 2<|bF bE (k+1) ⟨by omega,by rw[hI.2,gJ dN];simp[*]⟩ (by omega) [] (Sub.refl _)
 refine zD 7<|zX (zI (-1)) ⟨by rw[hI.2,nu (by omega)],rfl⟩
theorem aO6{v:Value}{n:Int}(hl:a8 ro v 1 cD xs)(hn:xs.length≤1000000):dv zT 130 [v,zI n] ro (.bool (decide (bJ (fun y=>decide (n=y)) xs 0≥0))):=by
 obtain⟨dB,mP,mO,dz,rfl,qd,gY,jV⟩:=hl
 refine zE<|zD 8<|jp (vs:=[.slice dB xs.length dz,zI n]) [] [] (fun aF hs hZ=>agX ((show a8 _ _ _ _ _ from ⟨dB,mP,mO,dz,rfl,qd,gY,jV⟩).up hs) (by first|omega| (simp only[List.length_set,zM];omega))) ?_
 refine zD 4<|zX (.bool (decide ((bJ (fun y=>decide (n=y)) xs 0)≥0))) ⟨rfl,rfl⟩
theorem au9{rows:List bD}{on:Int}(hF:ov ro f K rows)(hV:eH K)(g1:ro b1=some (.cells ⟨[zP f]⟩ 104 (0,0)))(g2:ro b2=some (.cells ⟨[.int .u8 on]⟩ 120 (0,0))):dv zT 127 [.agg ⟨[zI (p 0),zI (p 1),zI (p 2),zI (p 3)]⟩,zP b1,zP b2] ro (.bool (mf on p K.facts 0)):=by
 obtain⟨c0,c1,c2,vc,vh,vr,vb,va,vf,vt,hv,hf,nF,mH,hr,DG,It,KA,bX⟩:=id hF
 obtain⟨hc,hh,dr⟩:=id nF
 obtain⟨dS,yw,yu,dP,rfl,AR,vK,vJ⟩:=hc
 obtain⟨dC,s9,s8,de,rfl,uX,pJ,pH⟩:=hh
 obtain⟨ju,Fg,Ff,jq,rfl,Kb,Ey,Ex⟩:=hr
 obtain⟨k7,Kh,Kc,kF,rfl,Kg,Fi,Fh⟩:=DG
 obtain⟨k8,Kk,Ki,kG,rfl,Kj,Fq,Fp⟩:=It
 obtain⟨mQ,Vb,U9,lO,rfl,Va,NQ,NP⟩:=KA
 obtain⟨nW,Fe,Fc,nD,rfl,Q4,NM,NL⟩:=bX
 have T7:=hV.rules.1
 have BO:=hV.before.1
 have EM:=hV.after.1
 have hnf:=hV.facts.1
 refine zE<|zD 2<|jn fun b3=>zD 5<|jl (b:=b1) (off:=0) (m:=1) (vs:=[zP f]) 0 ⟨_,_,_,.inl g1,rfl⟩<|zD 3<|jl (b:=f) (off:=0) (m:=13) (vs:=[c0,c1,c2,.slice dS K.cs.length dP,.slice dC hv.length de,.slice ju K.rules.length jq,.slice k7 K.before.length kF,.slice k8 K.after.length kG,zI K.gone,zI K.new,zI K.ab,.slice mQ K.facts.length lO,.slice nW rows.length nD]) 11 ⟨_,_,_,.inl hf,rfl⟩<|zD 4<|dL [1,0,1,0,0] [] (fun(zz:Nat)=>[(2,zP b2),(3,zP b3),(11,.slice mQ K.facts.length lO),(12,zI (K.facts.length:Int)),(13,zI (zz:Int))]) (fun zz=>[.b b3 (.cells ⟨[zI (p 0),zI (p 1),zI (p 2),zI (p 3)]⟩ 113 (0,0))]) (fun zz=>zz≤K.facts.length∧mf on p K.facts 0=mf on p (K.facts.drop zz) zz) (fun zz=>K.facts.length-zz) 0 ⟨by omega,rfl⟩ [0] ?_
 rintro k hI K1 bE rest
 refine zD 5<|zJ 14 ((k:Int) <(K.facts.length:Int)) (fun h1=>?_) fun h1=>?_
 ·
  refine zD 7 ?_
  obtain⟨Cr,nj⟩:=zG K.facts k
  refine fL lO 3 NQ nj<|jl 0 (NP _ _ nj)<|jn fun b6=>jd 4 [0] ?_
  have hf4:=(hV.facts.2 _ (zL nj)).1
  have hf5:=(hV.facts.2 _ (zL nj)).2
  have hae:Cr.a=(Cr.a.toNat:Int):=by omega
  refine zD 1<|jl (b:=b2) (off:=0) (m:=1) (vs:=[.int .u8 on]) 0 ⟨_,_,_,.inl g2,rfl⟩<|zD 1<|jp (vs:=[.int .u8 on,zI (k:Int)]) [] [] (fun aF hs hZ=>(avt (by omega)))<|zD 1<|js 3 (hasB on (k:Int)) (fun h2=>?_) (fun h2=>?_)
  ·
   refine jd 4 [0]<|js 7 Cr.same (fun h3=>?_) (fun h3=>?_)
   ·
    refine jd 2 [0]<|HN (b:=b3) (off:=0) (len:=4) (sz:=1) Cr.a (by omega)<|oQ (b:=b3) (off:=0+Cr.a.toNat*1) (m:=1) (vs:=[zI (p Cr.a.toNat)]) 0 [1] [(b3,.cells ⟨[zI (p 0),zI (p 1),zI (p 2),zI (p 3)]⟩ 113 (0,0))] (fun s _ hZ=>oN (hZ _ (.head _)) (by rw[hae];exact auv (by omega))) ?_
    refine jd 2 [0]<|ja (Cr.b+1) (by omega)<|zD 3<|js 34 (!decide ((p Cr.a.toNat)=(Cr.b+1))) (fun h4=>?_) (fun h4=>?_)
    ·
     replace h4:=of_decide_eq_false (by simpa using h4)
     refine zD 6<|zX (.bool false) ⟨by rw[hI.2,xJ nj];simp only[h2,h3,decide_eq_false h4,Bool.and_true,Bool.true_and,Bool.not_false,Bool.not_true,Bool.and_false,Bool.false_and,cond_true,cond_false],rfl⟩
    replace h4:=of_decide_eq_true (by simpa using h4)
    refine zD 3<|ja ((k:Int)+1) (by omega)<|zD 2<|bF bE (k+1) ⟨by omega,by rw[hI.2,xJ nj];simp only[h2,h3,decide_eq_true h4,Bool.and_true,Bool.true_and,Bool.not_false,Bool.not_true,Bool.and_false,Bool.false_and,cond_true,cond_false]⟩ (by omega) [1] (Sub.refl _)
   refine zD 13<|ja ((k:Int)+1) (by omega)<|zD 2<|bF bE (k+1) ⟨by omega,by rw[hI.2,xJ nj];simp only[h2,h3,Bool.and_true,Bool.true_and,Bool.not_false,Bool.not_true,Bool.and_false,Bool.false_and,cond_true,cond_false]⟩ (by omega) [1] (Sub.refl _)
  refine zD 17<|ja ((k:Int)+1) (by omega)<|zD 2<|bF bE (k+1) ⟨by omega,by rw[hI.2,xJ nj];simp only[h2,Bool.and_true,Bool.true_and,Bool.not_false,Bool.not_true,Bool.and_false,Bool.false_and,cond_true,cond_false]⟩ (by omega) [1] (Sub.refl _)
 refine zD 7<|zX (.bool true) ⟨by rw[hI.2,U0 (by omega)],rfl⟩
def jb(K:aE)(on:Int):Nat→Nat→(Nat→Int)→List (Nat→Int)
 |0,_,p=>bif mf on p K.facts 0 then [p] else []
 |n+1,a,p=>jb K on n (a+1) p++(List.range K.after.length).flatMap fun b=>bif !dF K on a b||qK p a ((b:Int)+1) then [] else jb K on n (a+1) (iK p a ((b:Int)+1))
def nM(K:aE)(on:Int)(n a:Nat)(p:Nat→Int)(b:Nat):List (Nat→Int):=bif !dF K on a b||qK p a ((b:Int)+1) then [] else jb K on n (a+1) (iK p a ((b:Int)+1))
theorem qR(K:aE)(on:Int)(n a:Nat)(p:Nat→Int):jb K on (n+1) a p=jb K on n (a+1) p++(List.range K.after.length).flatMap (nM K on n a p):=rfl
theorem Part.left{α:Type}{L x y:List α}{p:Nat}(h:Part L p (x++y)):Part L p x:=by
 obtain⟨a,b,rfl,h2⟩:=h
 exact⟨a,y++b,by simp,h2⟩
theorem Part.right{α:Type}{L x y:List α}{p:Nat}(h:Part L p (x++y)):Part L (p+x.length) y:=by
 obtain⟨a,b,rfl,rfl⟩:=h
 exact⟨a++x,b,by simp,by simp⟩
theorem aaS(h:j <n):∃r,List.range n=List.range j++[j]++r:=by
 refine⟨(List.range n).drop (j+1),?_⟩
 have h1:(List.range n).take (j+1)=List.range (j+1):=by rw[List.take_range,Nat.min_eq_left h]
 rw[←List.range_succ,←h1,List.take_append_drop]
theorem Zx{q:Nat→Int}{a:Nat}{v:Int}(ha:a <4)(h:∀i,i≠a→q i=p i):qK q a v=qK p a v:=by
 have:(pL q).take a=(pL p).take a:=by
  rcases BE ha with rfl|rfl|rfl|rfl
  ·rfl
  ·simp[h 0 (by omega)]
  ·simp[h 0 (by omega),h 1 (by omega)]
  simp[h 0 (by omega),h 1 (by omega),h 2 (by omega)]
 simp only[qK,this]
theorem Xx{q:Nat→Int}{a:Nat}{v:Int}(h:∀i,i≠a→q i=p i):iK q a v=iK p a v:=by
 funext i
 simp only[iK]
 split
 ·rfl
 rename_i hi;exact h i hi
abbrev ePs(L:List (Nat→Int)):(Nat→Option Obj)→Nat→List Value→Cells→Prop:=fun _ k vs LL=>∃p,L[k]?=some p∧vs=[.agg ⟨eP4 p⟩]∧LL=[]
structure akV(ro:Nat→Option Obj)(bl f:Nat)(K:aE)(on:Int)(bf br bG bg bt bo:Nat):Prop where
 f:ro bf=some (.cells ⟨[zP f]⟩ 104 (0,0))
 r:ro br=some (.cells ⟨[.func (.func 127) ⟨[]⟩ ⟨[zP bf,zP bo]⟩]⟩ 221 (0,0))
 y:ro bG=some (.cells ⟨[.func (.yield bl) #[] #[]]⟩ 221 (0,0))
 g:ro bg=some (.cells ⟨[.func (.func 129) ⟨[]⟩ ⟨[zP bf,zP br,zP bG,zP bg,zP bt]⟩]⟩ 222 (0,0))
 t:ro bt=some (.cells ⟨B6 ⟨dF K on⟩⟩ 159 (0,0))
 o:ro bo=some (.cells ⟨[.int .u8 on]⟩ 120 (0,0))
def asx(bl f:Nat)(K:aE)(rows:List bD)(on:Int)(bf br bG bg bt bo:Nat)(L:List (Nat→Int))(Inv:Nat→Cells→Prop)(Stop:Cells→Prop)(n:Nat):Prop:=
 ∀(ro:Nat→Option Obj) (a:Nat) (p:Nat→Int) (q:Nat) (B:Cells),akV ro bl f K on bf br bG bg bt bo→ov ro f K rows→a+n=K.before.length→Part L q (jb K on n a p)→Inv q B→YOK zT bl ro L.length (ePs L) Inv Stop→
  dQ zT 129 [.agg ⟨eP4 p⟩,zI (a:Int),zP bf,zP br,zP bG,zP bg,zP bt] ro B (fun r Y=>∃c,r= .bool c∧(c=true→Inv (q+(jb K on n a p).length) Y)∧(c=false→Stop Y))
theorem avu{a q:Nat}{on:Int}{B:Cells}{L:List (Nat→Int)}{Inv:Nat→Cells→Prop}{rows:List bD}(ih:∀m,m <n→asx bl f K rows on bf br bG bg bt bo L Inv Stop m)(hV:eH K)(oU:akV ro bl f K on bf br bG bg bt bo)(hF:ov ro f K rows)(han:a+n=K.before.length)(hP:Part L q (jb K on n a p))(hB:Inv q B)(hy:YOK zT bl ro L.length (ePs L) Inv Stop):dQ zT 129 [.agg ⟨[zI (p 0),zI (p 1),zI (p 2),zI (p 3)]⟩,zI (a:Int),zP bf,zP br,zP bG,zP bg,zP bt] ro B (fun r Y=>∃c,r= .bool c∧(c=true→Inv (q+(jb K on n a p).length) Y)∧(c=false→Stop Y)):=by
 obtain⟨gf,gr,gy,gg,gt,go⟩:=id oU
 obtain⟨c0,c1,c2,vc,vh,vr,vb,va,vf,vt,hv,hf,nF,mH,hr,DG,It,KA,bX⟩:=id hF
 obtain⟨hc,hh,dr⟩:=id nF
 obtain⟨dS,yw,yu,dP,rfl,AR,vK,vJ⟩:=hc
 obtain⟨dC,s9,s8,de,rfl,uX,pJ,pH⟩:=hh
 obtain⟨ju,Fg,Ff,jq,rfl,Kb,Ey,Ex⟩:=hr
 obtain⟨k7,Kh,Kc,kF,rfl,Kg,Fi,Fh⟩:=DG
 obtain⟨k8,Kk,Ki,kG,rfl,Kj,Fq,Fp⟩:=It
 obtain⟨mQ,Vb,U9,lO,rfl,Va,NQ,NP⟩:=KA
 obtain⟨nW,Fe,Fc,nD,rfl,Q4,NM,NL⟩:=bX
 have T7:=hV.rules.1
 have BO:=hV.before.1
 have EM:=hV.after.1
 have hnf:=hV.facts.1
 refine zC [.l B]<|zD 2<|jn fun b7=>zD 6<|jl (b:=bf) (off:=0) (m:=1) (vs:=[zP f]) 0 ⟨_,_,_,.inl gf,rfl⟩<|zD 3<|jl (b:=f) (off:=0) (m:=13) (vs:=[c0,c1,c2,.slice dS K.cs.length dP,.slice dC hv.length de,.slice ju K.rules.length jq,.slice k7 K.before.length kF,.slice k8 K.after.length kG,zI K.gone,zI K.new,zI K.ab,.slice mQ K.facts.length lO,.slice nW rows.length nD]) 6 ⟨_,_,_,.inl hf,rfl⟩<|zD 3<|zJ 18 ((a:Int)=(K.before.length:Int)) (fun h1=>?_) fun h1=>?_
 ·
  refine zD 2 ?_
  obtain rfl:n=0:=by omega
  refine zD 1<|jl (b:=br) (off:=0) (m:=1) (vs:=[.func (.func 127) ⟨[]⟩ ⟨[zP bf,zP bo]⟩]) 0 ⟨_,_,_,.inl gr,rfl⟩<|jd 1 [0]<|jp (vs:=[.agg ⟨[zI (p 0),zI (p 1),zI (p 2),zI (p 3)]⟩,zP bf,zP bo]) [] [] (fun aF hs hZ=>au9 (hF.up hs) hV (hs _ _ gf) (hs _ _ go))<|zD 2<|js 23 (!(mf on p K.facts 0)) (fun h2=>?_) (fun h2=>?_)
  ·
   have kI:=h2
   try simp only[zB] at kI
   refine zD 7<|zR (.bool true) [] [1] B ⟨_,rfl,(fun _=>by rw[show jb K on 0 a p=[] by simp only[jb,show mf on p K.facts 0=false by simpa using h2];rfl];exact hB),nofun⟩
  have kI:=h2
  try simp only[zB] at kI
  have aih:jb K on 0 a p=[p]:=by simp only[jb,show mf on p K.facts 0=true by simpa using h2];rfl
  have Zq:=Part.get (i:=0) (x:=p) hP (by rw[aih];rfl)
  refine jl (b:=bG) (off:=0) (m:=1) (vs:=[(.func (.yield bl) #[] #[])]) 0 ⟨_,_,_,.inl gy,rfl⟩<|jd 1 [0]<|jyc [1] (hy q [.agg ⟨[zI (p 0),zI (p 1),zI (p 2),zI (p 3)]⟩] [] B ro Zq.1 ⟨_,Zq.2,rfl,rfl⟩ hB (Sub.refl _)) (Sub.refl _) ?_
  intro v26 Y26 aPl
  obtain⟨c26,rfl,aR5,aRT⟩:=yb aPl
  refine zD 4<|zR (.bool c26) [] [0] Y26 ⟨_,rfl,(fun h=>by rw[aih];exact aR5 h),aRT⟩
 refine zD 4 ?_
 obtain⟨m,rfl⟩:∃m,n=m+1:=⟨n-1,by omega⟩
 rw[qR] at hP
 refine zD 1<|jl (b:=bg) (off:=0) (m:=1) (vs:=[.func (.func 129) ⟨[]⟩ ⟨[zP bf,zP br,zP bG,zP bg,zP bt]⟩]) 0 ⟨_,_,_,.inl gg,rfl⟩<|jd 2 [0]<|ja ((a:Int)+1) (by omega)<|jc (vs:=[.agg ⟨[zI (p 0),zI (p 1),zI (p 2),zI (p 3)]⟩,zI ((a:Int)+1),zP bf,zP br,zP bG,zP bg,zP bt]) [1] (ih m (by omega) _ (a+1) p q _ oU hF (by omega) (Part.left hP) hB hy) ?_
 rintro _ Y32 ⟨c32,rfl,aR2,aRQ⟩
 refine zD 2<|js 33 (!c32) (fun h3=>?_) (fun h3=>?_)
 ·
  try simp only[zB] at h3
  refine zD 6<|zR (.bool false) [] [0] Y32 ⟨_,rfl,nofun,fun _=>aRQ (by simp_all)⟩
 try simp only[zB] at h3
 refine zD 5<|jl (b:=bf) (off:=0) (m:=1) (vs:=[zP f]) 0 ⟨_,_,_,.inl gf,rfl⟩<|zD 3<|jl (b:=f) (off:=0) (m:=13) (vs:=[c0,c1,c2,.slice dS K.cs.length dP,.slice dC hv.length de,.slice ju K.rules.length jq,.slice k7 K.before.length kF,.slice k8 K.after.length kG,zI K.gone,zI K.new,zI K.ab,.slice mQ K.facts.length lO,.slice nW rows.length nD]) 7 ⟨_,_,_,.inl hf,rfl⟩<|zD 4<|dL [1,1,1,0,1,0,0] [] (fun(zz:Nat×(Nat→Int)×Cells)=>[(1,zI (a:Int)),(5,zP bg),(6,zP bt),(7,zP b7),(39,zI (K.after.length:Int)),(40,zI (zz.1:Int))]) (fun zz=>[.b b7 (.cells ⟨[zI (zz.2.1 0),zI (zz.2.1 1),zI (zz.2.1 2),zI (zz.2.1 3)]⟩ 113 (0,0)),.l zz.2.2]) (fun zz=>zz.1≤K.after.length∧Inv (q+(jb K on m (a+1) p).length+((List.range zz.1).flatMap (nM K on m a p)).length) zz.2.2∧∀i,i≠a→zz.2.1 i=p i) (fun zz=>K.after.length-zz.1) (⟨0,p,Y32⟩) ⟨by dsimp only;omega,by have:=aR2 (by simp_all);simpa using this,fun _ _=>rfl⟩ [1,0] ?_
 rintro⟨j,pp,B⟩ hJ K1 bE rest
 dsimp only at hJ
 refine zD 5<|zJ 41 ((j:Int) <(K.after.length:Int)) (fun h4=>?_) fun h4=>?_
 ·
  refine zD 11 ?_
  have ha4:a <4:=by omega
  have hj4:j <4:=by omega
  obtain⟨rr,hrr⟩:=aaS (show j <K.after.length by omega)
  have hPj:=Part.flat (Part.right hP) hrr
  refine zD 3<|HN (b:=bt) (off:=0) (len:=4) (sz:=4) (a:Int) (by omega)<|HN (b:=bt) (off:=0+(a:Int).toNat*4) (len:=4) (sz:=1) (j:Int) (by omega)<|jl (b:=bt) (off:=0+(a:Int).toNat*4+(j:Int).toNat*1) (m:=1) (vs:=[.bool (dF K on a j)]) 0 (oN (.inl gt) (XZ (r:=⟨dF K on⟩) ha4 hj4))<|zD 2<|js 49 (!(dF K on a j)) (fun h5=>?_) (fun h5=>?_)
  ·
   have yU:=h5
   try simp only[zB] at yU
   refine zD 10<|ja ((j:Int)+1) (by omega)<|zD 2<|bF bE (⟨j+1,pp,B⟩) ⟨by dsimp only;omega,by dsimp only;rw[List.range_succ,List.flatMap_append,List.length_append,List.flatMap_singleton,←Nat.add_assoc];rw[show nM K on m a p j=[] by simp only[nM,h5];rfl];exact hJ.2.1,hJ.2.2⟩ (by dsimp only;omega) [0,1] (Sub.refl _)
  have yU:=h5
  try simp only[zB] at yU
  refine zD 1<|jah (b:=b7) (off:=0) (len:=4) (a:Int) (by omega)<|zD 1<|ja ((j:Int)+1) (by omega)<|jp (vs:=[(.slice (some ⟨b7,0,none⟩) (a:Int).toNat 4),zI ((j:Int)+1)]) [0] [(b7,.cells ⟨[zI (pp 0),zI (pp 1),zI (pp 2),zI (pp 3)]⟩ 113 (0,0))] (fun aF hs hZ=>aO6 (amr hZ.head (by omega)) (by rw[List.length_take];omega)) ?_
  refine zD 2<|js 55 (qK pp a ((j:Int)+1)) (fun h6=>?_) (fun h6=>?_)
  ·
   refine zD 3<|ja ((j:Int)+1) (by omega)<|zD 2<|bF bE (⟨j+1,pp,B⟩) ⟨by dsimp only;omega,by dsimp only;rw[List.range_succ,List.flatMap_append,List.length_append,List.flatMap_singleton,←Nat.add_assoc];rw[show nM K on m a p j=[] by simp only[nM,←Zx ha4 hJ.2.2,h5,h6];rfl];exact hJ.2.1,hJ.2.2⟩ (by dsimp only;omega) [0,1] (Sub.refl _)
  have hg0:nM K on m a p j=jb K on m (a+1) (iK p a ((j:Int)+1)):=by simp only[nM,←Zx ha4 hJ.2.2,h5,h6];rfl
  have hPg:Part L (q+(jb K on m (a+1) p).length+((List.range j).flatMap (nM K on m a p)).length) (jb K on m (a+1) (iK pp a ((j:Int)+1))):=by rw[Xx hJ.2.2,←hg0];exact hPj
  refine zD 6<|ja ((j:Int)+1) (by omega)<|HN (b:=b7) (off:=0) (len:=4) (sz:=1) (a:Int) (by omega)<|PS 0 b7 (0+(a:Int).toNat*1) [zI (pp 0),zI (pp 1),zI (pp 2),zI (pp 3)] [zI ((j:Int)+1)] 113 (by intro v hv;rw[List.mem_singleton] at hv;subst hv;rfl) (auw (p:=pp) ha4) ?_
  refine jmw 0 [.b b7 (.cells ⟨[zI ((iK pp a ((j:Int)+1)) 0),zI ((iK pp a ((j:Int)+1)) 1),zI ((iK pp a ((j:Int)+1)) 2),zI ((iK pp a ((j:Int)+1)) 3)]⟩ 113 (0,0))] (L:=[(b7,.cells ⟨dK [zI (pp 0),zI (pp 1),zI (pp 2),zI (pp 3)] (0+(a:Int).toNat*1) [zI ((j:Int)+1)]⟩ 113 (0,0))]) (by rw[auu ha4];rfl) ?_
  refine zD 3<|jl (b:=bg) (off:=0) (m:=1) (vs:=[.func (.func 129) ⟨[]⟩ ⟨[zP bf,zP br,zP bG,zP bg,zP bt]⟩]) 0 ⟨_,_,_,.inl gg,rfl⟩<|jd 2 [0]<|ja ((a:Int)+1) (by omega)<|jc (vs:=[.agg ⟨[zI ((iK pp a ((j:Int)+1)) 0),zI ((iK pp a ((j:Int)+1)) 1),zI ((iK pp a ((j:Int)+1)) 2),zI ((iK pp a ((j:Int)+1)) 3)]⟩,zI ((a:Int)+1),zP bf,zP br,zP bG,zP bg,zP bt]) [1] (ih m (by omega) _ (a+1) _ (q+(jb K on m (a+1) p).length+((List.range j).flatMap (nM K on m a p)).length) _ oU hF (by omega) hPg hJ.2.1 hy) ?_
  rintro _ Y64 ⟨ZZ,rfl,aR0,aRO⟩
  refine zD 2<|js 65 (!ZZ) (fun h7=>?_) (fun h7=>?_)
  ·
   try simp only[zB] at h7
   refine zD 6<|zR (.bool false) [] [0] Y64 ⟨_,rfl,nofun,fun _=>aRO (by simp_all)⟩
  try simp only[zB] at h7
  refine zD 3<|ja ((j:Int)+1) (by omega)<|zD 2<|bF bE (⟨j+1,(iK pp a ((j:Int)+1)),Y64⟩) ⟨by dsimp only;omega,by dsimp only;rw[List.range_succ,List.flatMap_append,List.length_append,List.flatMap_singleton,←Nat.add_assoc];rw[hg0,←Xx hJ.2.2];exact aR0 (by simp_all),(fun i hi=>by simp only[iK,if_neg hi];exact hJ.2.2 i hi)⟩ (by dsimp only;omega) [1,0] (Sub.refl _)
 refine zD 7<|zR (.bool true) [] [1] B ⟨_,rfl,(fun _=>by rw[qR,List.length_append,←Nat.add_assoc];have:=hJ.2.1;rwa[show j=K.after.length by omega] at this),nofun⟩
theorem aDP(hV:eH K){rows:List bD}{on:Int}{L:List (Nat→Int)}{Inv:Nat→Cells→Prop}:∀n,asx bl f K rows on bf br bG bg bt bo L Inv Stop n:=by
 intro n
 induction n using Nat.strongRecOn with
 |_ n ih=>exact fun ro a p q B hc hF han hP hB hy=>avu ih hV hc hF han hP hB hy
def aN(K:aE)(on:Int):List (Nat→Int):=jb K on K.before.length 0 fun _=>0
theorem ZH{on:Int}{a:Nat}(h:¬a <K.before.length∨¬b <K.after.length):dF K on a b=false:=by
 rcases h with h|h
 ·simp[dF,List.getElem?_eq_none (Nat.le_of_not_lt h)]
 simp only[dF,List.getElem?_eq_none (Nat.le_of_not_lt h)]
 split
 ·rename_i h1;cases h1
 rfl
def FY(K:aE)(on:Int)(i j:Nat)(r:bD):Prop:=∀x y,r.c x y=((decide (x <i)||(decide (x=i)&&decide (y <j)))&&dF K on x y)
theorem FY.set{on:Int}{i:Nat}{r:bD}(h:FY K on i j r):FY K on i (j+1) (jI r i j (dF K on i j)):=fun x y=>by
 simp only[jI]
 split
 ·rename_i hx;obtain⟨rfl,rfl⟩:=hx;simp
 rename_i hx
 rw[h x y]
 congr 2
 by_cases e:x=i
 ·subst e
  have:y≠j:=fun e2=>hx ⟨rfl,e2⟩
  simp only[decide_true,Bool.true_and]
  congr 1
  exact propext (by omega)
 simp[e]
theorem FY.nxt{on:Int}{i:Nat}{r:bD}(h:FY K on i K.after.length r):FY K on (i+1) 0 r:=fun x y=>by
 rw[h x y]
 by_cases hy:y <K.after.length
 ·congr 1
  simp only[hy,decide_true,Bool.and_true,Nat.not_lt_zero,decide_false,Bool.and_false,Bool.or_false]
  rw[Bool.eq_iff_iff];simp;omega
 rw[ZH (.inr hy)];simp
theorem FY.fin{on:Int}{r:bD}(h:FY K on K.before.length 0 r):r=⟨dF K on⟩:=by
 rcases r with ⟨c⟩
 congr 1
 funext x y
 have:=h x y
 dsimp only at this
 rw[this]
 by_cases hx:x <K.before.length
 ·simp[hx]
 rw[ZH (.inl hx)];simp
theorem amU{a:Nat}(h:a <4):nth (eP4 p) ((a:Int).toNat*1)=some (zI (p a)):=by
 rcases BE h with rfl|rfl|rfl|rfl<;>rfl
theorem aeJ{r:bD}{a:Nat}{j:Int}(h:a <4)(k:0≤j∧j <4):nth (B6 r) (0+(a:Int).toNat*4+j.toNat*1)=some (.bool (r.c a j.toNat)):=by
 obtain⟨m,rfl⟩:=Int.eq_ofNat_of_zero_le k.1
 exact XZ h (by omega)
def Di(r:bD)(p:Nat→Int):Nat→Int
 |0=>0
 |k+1=>Di r p k+bif decide (p k>0)&& !r.c k (p k-1).toNat then 1 else 0
def cB(K:aE)(r:bD)(past:Nat)(p:Nat→Int):aj:=⟨past,p 0,p 1,p 2,p 3,K.before.length-si (pL p),K.after.length-si (pL p),Di r p 4⟩
theorem Yg(p:Nat→Int):0≤si (pL p)∧si (pL p)≤4:=by
 have:=List.length_filter_le (fun x=>decide (x>0)) (pL p)
 simp only[si]
 exact⟨by omega,by simp only[List.length_cons,List.length_nil] at this;omega⟩
theorem YO{rows:List bD}{on:Int}(hF:ov ro f K rows)(hV:eH K)(g1:ro b1=some (.cells ⟨[zP f]⟩ 104 (0,0)))(g2:ro b2=some (.cells ⟨[.func (.func 127) ⟨[]⟩ ⟨[zP b1,zP b4]⟩]⟩ 221 (0,0)))(g3:ro b3=some (.cells ⟨B6 ⟨dF K on⟩⟩ 159 (0,0)))(g4:ro b4=some (.cells ⟨[.int .u8 on]⟩ 120 (0,0))):ItX zT 128 [] [zP b1,zP b2,zP b3] ro [] (aN K on).length (ePs (aN K on)) (fun Z=>Z=[]):=by
 intro bl aF Inv Stop hs hy B hB
 replace g1:=hs _ _ g1
 replace g2:=hs _ _ g2
 replace g3:=hs _ _ g3
 replace g4:=hs _ _ g4
 replace hF:=hF.up hs
 refine zC [.l B]<|zD 2<|jn fun b4=>zD 3<|jn fun b5=>jd 9 [0,0]<|jf [1,0] ((b4,.cells ⟨[(.func (.yield bl) #[] #[])]⟩ 221 (0,0))::[(b5,.cells ⟨[.func (.func 129) ⟨[]⟩ ⟨[zP b1,zP b2,zP b4,zP b5,zP b3]⟩]⟩ 222 (0,0))]) fun yt bL iJ=>jc (vs:=[.agg ⟨[zI 0,zI 0,zI 0,zI 0]⟩,zI 0,zP b1,zP b2,zP b4,zP b5,zP b3]) [0] (aDP (K:=K) hV (on:=on) _ _ 0 (fun _=>0) 0 _ ⟨(bL _ _ g1),(bL _ _ g2),iJ _ (.head _),iJ _ (.tail _ (.head _)),(bL _ _ g3),bL _ _ g4⟩ (hF.up bL) (Nat.zero_add _) ⟨[],[],by simp[aN],rfl⟩ hB (YOK.up hy bL)) ?_
 rintro _ Y9 ⟨c9,rfl,hc9,hd9⟩
 refine zD 1<|aI q0.a (.tuple ⟨[]⟩) [] [0] Y9 bL ⟨_,_,rfl,rfl,[],Y9,rfl,rfl,by cases c9 with|true=>exact .inl (by simpa [aN] using hc9 rfl)|false=>exact .inr (hd9 rfl)⟩
theorem Ms{rows:List bD}{on:Int}(hF:ov ro f K rows)(hV:eH K):dQ zT 94 [zP f,.int .u8 on] ro [] (fun r Y=>∃b1 b2 b3 b4,r= .func (.func 128) ⟨[]⟩ ⟨[zP b1,zP b2,zP b3]⟩∧Y=[(b1,.cells ⟨[zP f]⟩ 104 (0,0)),(b2,.cells ⟨[.func (.func 127) ⟨[]⟩ ⟨[zP b1,zP b4]⟩]⟩ 221 (0,0)),(b3,.cells ⟨B6 ⟨dF K on⟩⟩ 159 (0,0)),(b4,.cells ⟨[.int .u8 on]⟩ 120 (0,0))]):=by
 obtain⟨c0,c1,c2,vc,vh,vr,vb,va,vf,vt,hv,hf,nF,mH,hr,DG,It,KA,bX⟩:=id hF
 obtain⟨hc,hh,dr⟩:=id nF
 obtain⟨dS,yw,yu,dP,rfl,AR,vK,vJ⟩:=hc
 obtain⟨dC,s9,s8,de,rfl,uX,pJ,pH⟩:=hh
 obtain⟨ju,Fg,Ff,jq,rfl,Kb,Ey,Ex⟩:=hr
 obtain⟨k7,Kh,Kc,kF,rfl,Kg,Fi,Fh⟩:=DG
 obtain⟨k8,Kk,Ki,kG,rfl,Kj,Fq,Fp⟩:=It
 obtain⟨mQ,Vb,U9,lO,rfl,Va,NQ,NP⟩:=KA
 obtain⟨nW,Fe,Fc,nD,rfl,Q4,NM,NL⟩:=bX
 have T7:=hV.rules.1
 have BO:=hV.before.1
 have EM:=hV.after.1
 have hnf:=hV.facts.1
 refine zE<|zD 2<|jn fun b2=>jn fun b3=>zD 4<|jn fun b5=>jd 8 [2]<|jl (b:=f) (off:=0) (m:=13) (vs:=[c0,c1,c2,.slice dS K.cs.length dP,.slice dC hv.length de,.slice ju K.rules.length jq,.slice k7 K.before.length kF,.slice k8 K.after.length kG,zI K.gone,zI K.new,zI K.ab,.slice mQ K.facts.length lO,.slice nW rows.length nD]) 6 ⟨_,_,_,.inl hf,rfl⟩<|zD 4<|dL [1,1,0,1,0,0] [] (fun(zz:Nat×bD)=>[(2,zP b2),(3,zP b3),(4,.nilFunc),(5,zP b5),(14,zI (K.before.length:Int)),(15,zI (zz.1:Int))]) (fun zz=>[.b b5 (.cells ⟨[.bool (zz.2.c 0 0),.bool (zz.2.c 0 1),.bool (zz.2.c 0 2),.bool (zz.2.c 0 3),.bool (zz.2.c 1 0),.bool (zz.2.c 1 1),.bool (zz.2.c 1 2),.bool (zz.2.c 1 3),.bool (zz.2.c 2 0),.bool (zz.2.c 2 1),.bool (zz.2.c 2 2),.bool (zz.2.c 2 3),.bool (zz.2.c 3 0),.bool (zz.2.c 3 1),.bool (zz.2.c 3 2),.bool (zz.2.c 3 3)]⟩ 159 (0,0)),.b b3 (.cells ⟨[.int .u8 on]⟩ 120 (0,0)),.b b2 (.cells ⟨[zP f]⟩ 104 (0,0))]) (fun zz=>zz.1≤K.before.length∧FY K on zz.1 0 zz.2) (fun zz=>K.before.length-zz.1) (⟨0,⟨fun _ _=>false⟩⟩) ⟨by dsimp only;omega,fun x y=>by simp⟩ [0,1,2] ?_
 rintro⟨i,r⟩ hI K1 bE rest
 dsimp only at hI
 refine zD 5<|zJ 16 ((i:Int) <(K.before.length:Int)) (fun h1=>?_) fun h1=>?_
 ·
  refine jd 15 [2]<|jl (b:=f) (off:=0) (m:=13) (vs:=[c0,c1,c2,.slice dS K.cs.length dP,.slice dC hv.length de,.slice ju K.rules.length jq,.slice k7 K.before.length kF,.slice k8 K.after.length kG,zI K.gone,zI K.new,zI K.ab,.slice mQ K.facts.length lO,.slice nW rows.length nD]) 7 ⟨_,_,_,.inl hf,rfl⟩<|zD 4<|dL [1,1,0,1,0,0,1,1,0,0,1,1,0,0] [K1] (fun(zz:Nat×bD)=>[(2,zP b2),(3,zP b3),(4,.nilFunc),(5,zP b5),(6,zI (i:Int)),(14,zI (K.before.length:Int)),(15,zI (i:Int)),(23,zI (K.after.length:Int)),(24,zI (zz.1:Int))]) (fun zz=>[.b b5 (.cells ⟨[.bool (zz.2.c 0 0),.bool (zz.2.c 0 1),.bool (zz.2.c 0 2),.bool (zz.2.c 0 3),.bool (zz.2.c 1 0),.bool (zz.2.c 1 1),.bool (zz.2.c 1 2),.bool (zz.2.c 1 3),.bool (zz.2.c 2 0),.bool (zz.2.c 2 1),.bool (zz.2.c 2 2),.bool (zz.2.c 2 3),.bool (zz.2.c 3 0),.bool (zz.2.c 3 1),.bool (zz.2.c 3 2),.bool (zz.2.c 3 3)]⟩ 159 (0,0)),.b b3 (.cells ⟨[.int .u8 on]⟩ 120 (0,0)),.b b2 (.cells ⟨[zP f]⟩ 104 (0,0))]) (fun zz=>zz.1≤K.after.length∧FY K on i zz.1 zz.2) (fun zz=>K.after.length-zz.1) (⟨0,r⟩) ⟨by dsimp only;omega,hI.2⟩ [0,1,2] ?_
  rintro⟨j,r⟩ hJ K2 lG rest
  dsimp only at hJ
  refine zD 5<|zJ 25 ((j:Int) <(K.after.length:Int)) (fun h2=>?_) fun h2=>?_
  ·
   refine zD 9 ?_
   obtain⟨x,ha⟩:∃x,K.before[i]?=some x:=⟨_,List.getElem?_eq_getElem (by omega)⟩
   obtain⟨y,hb⟩:∃y,K.after[j]?=some y:=⟨_,List.getElem?_eq_getElem (by omega)⟩
   refine jd 7 [2,1]<|HN (b:=b5) (off:=0) (len:=4) (sz:=4) (i:Int) (by omega)<|jp (vs:=[zP f,zI (i:Int),zI (j:Int),.int .u8 on]) [] [] (fun aF hs hZ=>aDQ (hF.up hs) hV ha hb)<|HN (b:=b5) (off:=0+(i:Int).toNat*4) (len:=4) (sz:=1) (j:Int) (by omega)<|aS 9 fun rZ r8 qM=>PS 0 b5 (0+(i:Int).toNat*4+(j:Int).toNat*1) [.bool (r.c 0 0),.bool (r.c 0 1),.bool (r.c 0 2),.bool (r.c 0 3),.bool (r.c 1 0),.bool (r.c 1 1),.bool (r.c 1 2),.bool (r.c 1 3),.bool (r.c 2 0),.bool (r.c 2 1),.bool (r.c 2 2),.bool (r.c 2 3),.bool (r.c 3 0),.bool (r.c 3 1),.bool (r.c 3 2),.bool (r.c 3 3)] [.bool (dF K on i j)] 159 (by intro v hv;rw[List.mem_singleton] at hv;subst hv;rfl) (X3 (r:=r) (by omega) (by omega)) ?_
   refine jmw 0 [.b b5 (.cells ⟨[.bool ((jI r i j (dF K on i j)).c 0 0),.bool ((jI r i j (dF K on i j)).c 0 1),.bool ((jI r i j (dF K on i j)).c 0 2),.bool ((jI r i j (dF K on i j)).c 0 3),.bool ((jI r i j (dF K on i j)).c 1 0),.bool ((jI r i j (dF K on i j)).c 1 1),.bool ((jI r i j (dF K on i j)).c 1 2),.bool ((jI r i j (dF K on i j)).c 1 3),.bool ((jI r i j (dF K on i j)).c 2 0),.bool ((jI r i j (dF K on i j)).c 2 1),.bool ((jI r i j (dF K on i j)).c 2 2),.bool ((jI r i j (dF K on i j)).c 2 3),.bool ((jI r i j (dF K on i j)).c 3 0),.bool ((jI r i j (dF K on i j)).c 3 1),.bool ((jI r i j (dF K on i j)).c 3 2),.bool ((jI r i j (dF K on i j)).c 3 3)]⟩ 159 (0,0))] (L:=[(b5,.cells ⟨dK [.bool (r.c 0 0),.bool (r.c 0 1),.bool (r.c 0 2),.bool (r.c 0 3),.bool (r.c 1 0),.bool (r.c 1 1),.bool (r.c 1 2),.bool (r.c 1 3),.bool (r.c 2 0),.bool (r.c 2 1),.bool (r.c 2 2),.bool (r.c 2 3),.bool (r.c 3 0),.bool (r.c 3 1),.bool (r.c 3 2),.bool (r.c 3 3)] (0+(i:Int).toNat*4+(j:Int).toNat*1) [.bool (dF K on i j)]⟩ 159 (0,0))]) (by rw[XY (by omega) (by omega)];rfl) ?_
   refine fR qM []<|zD 2<|ja ((j:Int)+1) (by omega)<|zD 2<|bF lG (⟨j+1,(jI r i j (dF K on i j))⟩) ⟨by dsimp only;omega,hJ.2.set⟩ (by dsimp only;omega) [0,1,2] (Sub.refl _)
  refine zD 3<|ja ((i:Int)+1) (by omega)<|zD 2<|bF bE (⟨i+1,r⟩) ⟨by dsimp only;omega,FY.nxt (by have:=hJ.2;rwa[show j=K.after.length by omega] at this)⟩ (by dsimp only;omega) [0,1,2] (Sub.refl _)
 refine zD 5<|jn fun b8=>jd 8 [0]<|zR (.func (.func 128) ⟨[]⟩ ⟨[zP b2,zP b8,zP b5]⟩) [] [3,0,1,2] ((b2,.cells ⟨[zP f]⟩ 104 (0,0))::((b8,.cells ⟨[.func (.func 127) ⟨[]⟩ ⟨[zP b2,zP b3]⟩]⟩ 221 (0,0))::((b5,.cells ⟨[.bool (r.c 0 0),.bool (r.c 0 1),.bool (r.c 0 2),.bool (r.c 0 3),.bool (r.c 1 0),.bool (r.c 1 1),.bool (r.c 1 2),.bool (r.c 1 3),.bool (r.c 2 0),.bool (r.c 2 1),.bool (r.c 2 2),.bool (r.c 2 3),.bool (r.c 3 0),.bool (r.c 3 1),.bool (r.c 3 2),.bool (r.c 3 3)]⟩ 159 (0,0))::[(b3,.cells ⟨[.int .u8 on]⟩ 120 (0,0))]))) ⟨_,_,_,_,rfl,by have e:=FY.fin (K:=K) (on:=on) (r:=r) (by have:=hI.2;rwa[show i=K.before.length by omega] at this);subst e;rfl⟩
theorem arb{rows:List bD}{past:Nat}{J6:bD}(hF:ov ro f K rows)(hV:eH K)(Dv:rows[past]?=some J6) (hp:∀i,0≤p i∧p i≤4):dv zT 95 [zP f,zI (past:Int),.agg ⟨[zI (p 0),zI (p 1),zI (p 2),zI (p 3)]⟩] ro (.agg ⟨cG (cB K J6 past p)⟩):=by
 obtain⟨c0,c1,c2,vc,vh,vr,vb,va,vf,vt,hv,hf,nF,mH,hr,DG,It,KA,bX⟩:=id hF
 obtain⟨hc,hh,dr⟩:=id nF
 obtain⟨dS,yw,yu,dP,rfl,AR,vK,vJ⟩:=hc
 obtain⟨dC,s9,s8,de,rfl,uX,pJ,pH⟩:=hh
 obtain⟨ju,Fg,Ff,jq,rfl,Kb,Ey,Ex⟩:=hr
 obtain⟨k7,Kh,Kc,kF,rfl,Kg,Fi,Fh⟩:=DG
 obtain⟨k8,Kk,Ki,kG,rfl,Kj,Fq,Fp⟩:=It
 obtain⟨mQ,Vb,U9,lO,rfl,Va,NQ,NP⟩:=KA
 obtain⟨nW,Fe,Fc,nD,rfl,Q4,NM,NL⟩:=bX
 have T7:=hV.rules.1
 have BO:=hV.before.1
 have EM:=hV.after.1
 have hnf:=hV.facts.1
 have hpc:=Yg p
 have T5:=(List.getElem?_eq_some_iff.1 Dv).1
 refine zE<|zD 2<|jn fun b5=>jn fun b6=>jd 4 [1]<|jp (vs:=[.agg ⟨[zI (p 0),zI (p 1),zI (p 2),zI (p 3)]⟩]) [] [] (fun aF hs hZ=>(ava (p0:=p 0) (p1:=p 1) (p2:=p 2) (p3:=p 3)))<|jd 10 [1]<|jl (b:=f) (off:=0) (m:=13) (vs:=[c0,c1,c2,.slice dS K.cs.length dP,.slice dC hv.length de,.slice ju K.rules.length jq,.slice k7 K.before.length kF,.slice k8 K.after.length kG,zI K.gone,zI K.new,zI K.ab,.slice mQ K.facts.length lO,.slice nW rows.length nD]) 6 ⟨_,_,_,.inl hf,rfl⟩<|zD 2<|ja ((K.before.length:Int)-(si (pL p))) (by omega)<|zD 4<|jl (b:=f) (off:=0) (m:=13) (vs:=[c0,c1,c2,.slice dS K.cs.length dP,.slice dC hv.length de,.slice ju K.rules.length jq,.slice k7 K.before.length kF,.slice k8 K.after.length kG,zI K.gone,zI K.new,zI K.ab,.slice mQ K.facts.length lO,.slice nW rows.length nD]) 7 ⟨_,_,_,.inl hf,rfl⟩<|zD 2<|ja ((K.after.length:Int)-(si (pL p))) (by omega)<|zD 1<|aS 19 fun E5 E9 Cy=>jn fun b8=>ep Cy [1,2]<|aS 20 fun A1 Bn Av=>jd 1 [0]<|gA Av<|jd 8 [2]<|dL [1,1,1,0,1,0,0] [] (fun(zz:Nat×Int)=>[(0,zP f),(1,zI (past:Int)),(6,zP b6),(8,zP b8),(32,.agg ⟨[zI (p 0),zI (p 1),zI (p 2),zI (p 3)]⟩),(33,zI (zz.1:Int))]) (fun zz=>[.b b8 (.cells ⟨[zI (past:Int),zI (p 0),zI (p 1),zI (p 2),zI (p 3),zI ((K.before.length:Int)-(si (pL p))),zI ((K.after.length:Int)-(si (pL p))),zI zz.2]⟩ 115 (0,0)),.b b6 (.cells ⟨[zI 0,zI 0,zI 0,zI 0,zI 0,zI 0,zI 0,zI 0]⟩ 115 (0,0))]) (fun zz=>zz.1≤4∧zz.2=Di J6 p zz.1∧(0≤zz.2∧zz.2≤zz.1)) (fun zz=>4-zz.1) (⟨0,0⟩) ⟨by dsimp only;omega,rfl,by dsimp only;omega⟩ [0,1] ?_
 rintro⟨k,m⟩ hI K3 Zy rest
 dsimp only at hI
 refine zD 5<|zJ 34 ((k:Int) <4) (fun h3=>?_) fun h3=>?_
 ·
  refine zD 7<|jai (l:=[zI (p 0),zI (p 1),zI (p 2),zI (p 3)]) (k:Int) 4 1 false (by omega) (v:= zI (p k)) (show nth (eP4 p) _=_ from amU (by omega))<|zD 4 ?_
  have hpk:=hp k
  refine zD 4<|js 39 (decide ((p k)>0)) (fun h4=>?_) (fun h4=>?_)
  ·
   have uC:=h4
   replace uC:=of_decide_eq_true uC
   refine zD 3<|jl (b:=f) (off:=0) (m:=13) (vs:=[c0,c1,c2,.slice dS K.cs.length dP,.slice dC hv.length de,.slice ju K.rules.length jq,.slice k7 K.before.length kF,.slice k8 K.after.length kG,zI K.gone,zI K.new,zI K.ab,.slice mQ K.facts.length lO,.slice nW rows.length nD]) 12 ⟨_,_,_,.inl hf,rfl⟩<|zD 3<|ja ((p k)-1) (by omega) ?_
   obtain⟨x48,HT⟩:=zG rows past
   refine fL nD 16 NM HT<|HN (b:=Fe) (off:=Fc+past*16+0) (len:=4) (sz:=4) (k:Int) (by omega)<|HN (b:=Fe) (off:=Fc+past*16+0+(k:Int).toNat*4) (len:=4) (sz:=1) ((p k)-1) (by omega)<|jl (b:=Fe) (off:=Fc+past*16+0+(k:Int).toNat*4+((p k)-1).toNat*1) (m:=1) (vs:=[.bool (x48.c k ((p k)-1).toNat)]) 0 (show cb ⟨ro,[]⟩ Fe (Fc+past*16+0+(k:Int).toNat*4+((p k)-1).toNat*1) 1 [.bool (x48.c k ((p k)-1).toNat)] from by have:=aeW (NL _ _ HT) (aeJ (r:=x48) (a:=k) (j:=(p k)-1) (by omega) (by omega));simpa [Nat.add_assoc] using this) ?_
   refine zD 3<|js 53 (!(x48.c k ((p k)-1).toNat)) (fun h5=>?_) (fun h5=>?_)
   ·
    try simp only[zB] at h5
    refine jd 4 [0]<|ja (m+1) (by omega)<|jd 4 [0]<|ja ((k:Int)+1) (by omega)<|zD 2<|bF Zy (⟨k+1,(m+1)⟩) ⟨by dsimp only;omega,by dsimp only;rw[Di,hI.2.1];rw[Dv] at HT;cases HT;simp only[decide_eq_true uC,h5,Bool.not_false,Bool.not_true,Bool.and_true,Bool.and_false,cond_true,cond_false,Int.add_zero],by dsimp only;omega⟩ (by dsimp only;omega) [0,1] (Sub.refl _)
   try simp only[zB] at h5
   refine zD 3<|ja ((k:Int)+1) (by omega)<|zD 2<|bF Zy (⟨k+1,m⟩) ⟨by dsimp only;omega,by dsimp only;rw[Di,hI.2.1];rw[Dv] at HT;cases HT;simp only[decide_eq_true uC,h5,Bool.not_false,Bool.not_true,Bool.and_true,Bool.and_false,cond_true,cond_false,Int.add_zero],by dsimp only;omega⟩ (by dsimp only;omega) [0,1] (Sub.refl _)
  have uC:=h4
  replace uC:=of_decide_eq_false uC
  refine zD 18<|ja ((k:Int)+1) (by omega)<|zD 2<|bF Zy (⟨k+1,m⟩) ⟨by dsimp only;omega,by dsimp only;rw[Di,hI.2.1];simp only[decide_eq_false uC,Bool.false_and,cond_false,Int.add_zero],by dsimp only;omega⟩ (by dsimp only;omega) [0,1] (Sub.refl _)
 refine jd 8 [0,1]<|zR (.agg ⟨[zI (past:Int),zI (p 0),zI (p 1),zI (p 2),zI (p 3),zI ((K.before.length:Int)-(si (pL p))),zI ((K.after.length:Int)-(si (pL p))),zI m]⟩) [1] [] [] ⟨by rw[hI.2.1,show k=4 by omega];rfl,rfl⟩
def xC(v:Value)(xs:List aj)(Y:Cells):Prop:=∃ys,ys.Perm xs∧aw v 8 115 cG ys Y
def gH(xs:List aj):Prop:=∀x∈xs,0≤x.past∧x.past≤1000
theorem gH.perm{xs ys:List aj}(h:gH xs)(hp:ys.Perm xs):gH ys:=fun x hx=>h x (hp.mem_iff.1 hx)
theorem Gv{x:Int}(h:0≤x∧x≤1000000000):IntKind.i64.wrap (aV .u64 (IntKind.u64.wrap x) 1)=x / 2:=by
 have h1:IntKind.u64.wrap x=x:=sN .u64 rfl _ (by omega) (by simp[IntKind.bits];omega)
 rw[h1]
 have h2:aV .u64 x 1=x / 2:=by
  show x.fdiv 2=x / 2
  exact Int.fdiv_eq_ediv_of_nonneg _ (by decide)
 rw[h2,kX _ (by omega)]
theorem anQ{x y:aj}(hx:0≤x.past∧x.past≤1000)(hy:0≤y.past∧y.past≤1000):dv zT 110 [.agg ⟨[zI x.past,zI x.w0,zI x.w1,zI x.w2,zI x.w3,zI x.gone,zI x.new,zI x.ab]⟩,.agg ⟨[zI y.past,zI y.w0,zI y.w1,zI y.w2,zI y.w3,zI y.gone,zI y.new,zI y.ab]⟩] ro (zI (x.past-y.past)):=by
 refine zE<|zD 2<|jn fun b2=>jn fun b3=>jd 8 [1,0]<|ja (x.past-y.past) (by omega)<|zD 3<|zX (zI (x.past-y.past)) ⟨rfl,rfl⟩
theorem aBR{v:Value}{xs:List aj}{L:Cells}{a b:Int}(ho:aw v 8 115 cG xs L)(hN:xs.length≤100000)(hP:gH xs)(Cw:0≤a∧a≤b∧b≤xs.length):dQ zT 169 [v,zI a,zI b,.func (.func 110) ⟨[]⟩ ⟨[]⟩] ro L (fun r Y=>xC v xs Y):=by
 refine zC [.l L]<|zD 3<|ja (a+1) (by omega)<|zD 3<|dL [1,0,0] [] (fun(zz:Int×(List aj)×Cells)=>[(0,v),(1,zI a),(2,zI b),(3,.func (.func 110) ⟨[]⟩ ⟨[]⟩),(8,zI zz.1)]) (fun zz=>[.l zz.2.2]) (fun zz=>(a+1≤zz.1)∧aw v 8 115 cG zz.2.1 zz.2.2∧zz.2.1.Perm xs) (fun zz=>(b-zz.1).toNat) (⟨(a+1),xs,L⟩) ⟨by dsimp only;omega,ho,.refl _⟩ [0] ?_
 rintro⟨i,ys,L⟩ hI K1 bE rest
 dsimp only at hI
 have T3:=hI.2.2.length_eq
 have hyp:=hP.perm hI.2.2
 refine zD 7<|zJ 14 (i <b) (fun h1=>?_) fun h1=>?_
 ·
  refine zD 10<|dL [1,0,0,1,0,0,1,0,0] [K1] (fun(zz:Int×(List aj)×Cells)=>[(0,v),(1,zI a),(2,zI b),(3,.func (.func 110) ⟨[]⟩ ⟨[]⟩),(8,zI i),(9,zI zz.1)]) (fun zz=>[.l zz.2.2]) (fun zz=>(a≤zz.1∧zz.1≤i)∧aw v 8 115 cG zz.2.1 zz.2.2∧zz.2.1.Perm xs) (fun zz=>(zz.1-a).toNat) (⟨i,ys,L⟩) ⟨by dsimp only;omega,hI.2⟩ [0] ?_
  rintro⟨j,ys,L⟩ hJ K2 lG rest
  dsimp only at hJ
  have T3:=hJ.2.2.length_eq
  have hyp:=hP.perm hJ.2.2
  refine zD 7<|js 3 (decide (j>a)) (fun h2=>?_) (fun h2=>?_)
  ·
   have kI:=h2
   replace kI:=of_decide_eq_true kI
   refine zD 3 ?_
   obtain⟨zc,lS⟩:=zG ys (j.toNat) (by first|omega| (simp only[List.length_set];omega))
   refine qA j 8 hJ.2.1 lS (Int.toNat_of_nonneg (show 0≤j∧j <((ys).length:Int) from (by first|omega| (simp only[List.length_set];omega))).1).symm (fun oF aiB=>?_)
   refine oQ 0 [0] L (fun s _ hZ=>cJ hJ.2.1 aiB hZ lS)<|zD 2<|ja (j-1) (by omega) ?_
   obtain⟨oH,jL⟩:=zG ys ((j-1).toNat) (by first|omega| (simp only[List.length_set];omega))
   refine qA (j-1) 8 hJ.2.1 jL (Int.toNat_of_nonneg (show 0≤(j-1)∧(j-1) <((ys).length:Int) from (by first|omega| (simp only[List.length_set];omega))).1).symm (fun b30 V9=>?_)
   refine oQ 0 [0] L (fun s _ hZ=>cJ hJ.2.1 V9 hZ jL)<|aS 14 fun rZ r8 qM=>jp (vs:=[.agg ⟨[zI zc.past,zI zc.w0,zI zc.w1,zI zc.w2,zI zc.w3,zI zc.gone,zI zc.new,zI zc.ab]⟩,.agg ⟨[zI oH.past,zI oH.w0,zI oH.w1,zI oH.w2,zI oH.w3,zI oH.gone,zI oH.new,zI oH.ab]⟩]) [] [] (fun aF hs hZ=>(anQ (x:=zc) (y:=oH) (hyp _ (zL lS)) (hyp _ (zL jL))))<|ep qM [0]<|zD 3<|zJ 34 ((zc.past-oH.past) <0) (fun h4=>?_) fun h4=>?_
   ·
    refine zD 9<|ja (j-1) (by omega)<|zD 2<|ja (j-1) (by omega) ?_
    obtain⟨yl,FE⟩:=zG ys ((j-1).toNat) (by first|omega| (simp only[List.length_set];omega))
    refine qA (j-1) 8 hJ.2.1 FE (Int.toNat_of_nonneg (show 0≤(j-1)∧(j-1) <((ys).length:Int) from (by first|omega| (simp only[List.length_set];omega))).1).symm (fun b45 aiA=>?_)
    refine oQ 0 [0] L (fun s _ hZ=>cJ hJ.2.1 aiA hZ FE)<|zD 2 ?_
    obtain⟨J1,FD⟩:=zG ys (j.toNat) (by first|omega| (simp only[List.length_set];omega))
    refine qA j 8 hJ.2.1 FD (Int.toNat_of_nonneg (show 0≤j∧j <((ys).length:Int) from (by first|omega| (simp only[List.length_set];omega))).1).symm (fun b49 aiz=>?_)
    refine oQ 0 [0] L (fun s _ hZ=>cJ hJ.2.1 aiz hZ FD) ?_
    obtain⟨x51,FC⟩:=zG ys (j.toNat) (by first|omega| (simp only[List.length_set];omega))
    refine qA j 8 hJ.2.1 FC (Int.toNat_of_nonneg (show 0≤j∧j <((ys).length:Int) from (by first|omega| (simp only[List.length_set];omega))).1).symm (fun b51 aiy=>?_)
    refine aS 15 fun sL sR qL=>R6 0 0 [zI yl.past,zI yl.w0,zI yl.w1,zI yl.w2,zI yl.w3,zI yl.gone,zI yl.new,zI yl.ab] yl hJ.2.1 aiy FC rfl rfl (Nat.le_of_ble_eq_true rfl) fun L6 ho7=>fR qL [] ?_
    obtain⟨x52,wI⟩:=zG ((ys.set j.toNat yl)) ((j-1).toNat) (by first|omega| (simp only[List.length_set];omega))
    refine qA (j-1) 8 ho7 wI (Int.toNat_of_nonneg (show 0≤(j-1)∧(j-1) <(((ys.set j.toNat yl)).length:Int) from (by first|omega| (simp only[List.length_set];omega))).1).symm (fun b52 aix=>?_)
    refine aS 17 fun A0 Bm Au=>R6 0 0 [zI J1.past,zI J1.w0,zI J1.w1,zI J1.w2,zI J1.w3,zI J1.gone,zI J1.new,zI J1.ab] J1 ho7 aix wI rfl rfl (Nat.le_of_ble_eq_true rfl) fun L9 ahT=>gA Au<|zD 3<|ja (j-1) (by omega)<|zD 2<|bF lG (⟨(j-1),((ys.set j.toNat yl).set ((j-1).toNat) J1),L9⟩) ⟨by dsimp only;omega,ahT,(nX FD FE).trans hJ.2.2⟩ (by dsimp only;omega) [0] (Sub.refl _)
   refine zD 4<|ja (i+1) (by omega)<|zD 2<|bF bE (⟨(i+1),ys,L⟩) ⟨by dsimp only;omega,hJ.2⟩ (by dsimp only;omega) [0] (Sub.refl _)
  have kI:=h2
  replace kI:=of_decide_eq_false kI
  refine zD 18<|ja (i+1) (by omega)<|zD 2<|bF bE (⟨(i+1),ys,L⟩) ⟨by dsimp only;omega,hJ.2⟩ (by dsimp only;omega) [0] (Sub.refl _)
 refine zD 2<|zR (.tuple ⟨[]⟩) [] [0] L ⟨ys,hI.2.2,hI.2.1⟩
end Go.L
