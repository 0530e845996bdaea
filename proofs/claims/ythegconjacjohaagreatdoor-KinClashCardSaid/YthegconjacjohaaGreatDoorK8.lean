/- Part 8 of the proof. -/
import Derived.Test.YthegconjacjohaaGreatDoorK7
set_option maxRecDepth 100000
set_option linter.all false
namespace Go.L
open Go Go.Conc Go.Proofs
variable {ro:Nat→Option Obj} {rs:List bP} {p:Nat→Int} {vl vc vh:Value} {K:aC} {b k f bE b1 b2 bl many bt br bg n bm b3 b4 j bf bo:Nat} {cs:List bN} {Stop:Cells→Prop} {x na nb:ByteArray} {hd:List cA} {l:List ByteArray} {y:aB} {T:TypeId} {xs:List Int}
def oU(rs:List bP):List (ByteArray×ByteArray):=rs.flatMap fun r=>[(r.f,r.t),(r.t,r.f)]
abbrev eP2(x:ByteArray×ByteArray):List Value:=[.string x.1,.string x.2]
def jm(w:ByteArray)(ps:List (ByteArray×ByteArray)):List ByteArray:=ps.flatMap fun p=>DJ w p.1 p.2
def m8(w:ByteArray)(rs:List bP):List ByteArray:=jm w (oU rs)
theorem KS:∀(rs:List bP),(oU rs).length=2*rs.length
 | []=>rfl
 |r::rs=>by have:=KS rs;simp only[oU,List.flatMap_cons,zM] at this ⊢;omega
theorem QI:∀ {rs:List bP} {k q:Nat} {r:bP} {p:ByteArray×ByteArray},rs[k]?=some r→[(r.f,r.t),(r.t,r.f)][q]?=some p→(oU rs)[2*k+q]?=some p
 | [],_,_,_,_,h,_=>by simp at h
 |r::rs,0,q,_,p,h,h2=>by
  simp only[List.getElem?_cons_zero,Option.some.injEq] at h;subst h
  simp only[oU,List.flatMap_cons,Nat.mul_zero,Nat.zero_add]
  rw[List.getElem?_append_left (by have:=(List.getElem?_eq_some_iff.1 h2).1;exact this)];exact h2
 |r::rs,k+1,q,_,p,h,h2=>by
  have:=QI (rs:=rs) (k:=k) (by simpa using h) h2
  simp only[oU,List.flatMap_cons]
  rw[List.getElem?_append_right (by simp;omega)]
  rw[show 2*(k+1)+q- [(r.f,r.t),(r.t,r.f)].length=2*k+q by simp;omega];exact this
theorem FV{w:ByteArray}{ps:List (ByteArray×ByteArray)}{p:ByteArray×ByteArray}(h:ps[k]?=some p):jm w (ps.take (k+1))=jm w (ps.take k)++DJ w p.1 p.2:=by
 rw[jm,dP h,List.flatMap_append];simp[jm]
theorem amr{w:ByteArray}{ps:List (ByteArray×ByteArray)}{p:ByteArray×ByteArray}(h:ps[k]?=some p) (hx:(DJ w p.1 p.2)[j]?=some x):(jm w (ps.take k)).length+j <(jm w ps).length∧(jm w ps)[(jm w (ps.take k)).length+j]?=some x:=by
 have e:jm w ps=jm w (ps.take (k+1))++jm w (ps.drop (k+1)):=by rw[jm,jm,jm,←List.flatMap_append,List.take_append_drop]
 have hj:=(List.getElem?_eq_some_iff.1 hx).1
 have:(jm w ps)[(jm w (ps.take k)).length+j]?=some x:=by
  rw[e,FV h,List.append_assoc,List.getElem?_append_right (by omega),List.getElem?_append_left (by omega),show (jm w (ps.take k)).length+j-(jm w (ps.take k)).length=j by omega]
  exact hx
 exact⟨(List.getElem?_eq_some_iff.1 this).1,this⟩
theorem am8{r:bP}{p:ByteArray×ByteArray}{q:Nat}(h:rJ r)(hp: [(r.f,r.t),(r.t,r.f)][q]?=some p):xR p.2∧(p.1.size≤100∧p.2.size≤100):=by
 have:=zL hp
 have h1:=h.f1;have h2:=h.t1
 simp only[List.mem_cons,List.not_mem_nil,or_false] at this
 rcases this with rfl|rfl
 ·exact⟨h.tl,by dsimp only;omega,by dsimp only;omega⟩
 exact⟨h.fl,by dsimp only;omega,by dsimp only;omega⟩
theorem abv{w f t:ByteArray}:dG zT 323 [.string w,.string f,.string t] ro [] (fun r Y=>∃b3 b4 b5,r= .func (.func 338) ⟨[]⟩ ⟨[zP b3,zP b4,zP b5]⟩∧Y=[(b3,.cells ⟨[.string w]⟩ 356 (0,0)),(b4,.cells ⟨[.string f]⟩ 9 (0,0)),(b5,.cells ⟨[.string t]⟩ 9 (0,0))]):=by
 refine zE<|zD 2<|jn fun b3=>jn fun b4=>jn fun b5=>zD 8<|zR (.func (.func 338) ⟨[]⟩ ⟨[zP b3,zP b4,zP b5]⟩) [] [2,1,0] ((b3,.cells ⟨[.string w]⟩ 356 (0,0))::((b4,.cells ⟨[.string f]⟩ 9 (0,0))::[(b5,.cells ⟨[.string t]⟩ 9 (0,0))])) ⟨_,_,_,rfl,rfl⟩
theorem au8{w:ByteArray}(hl:bB ro vl 2 iG rs):dG zT 308 [.string w,vl] ro [] (fun r Y=>∃b2 b3,r= .func (.func 322) ⟨[]⟩ ⟨[zP b3,zP b2]⟩∧Y=[(b2,.cells ⟨[.string w]⟩ 356 (0,0)),(b3,.cells ⟨[vl]⟩ 34 (0,0))]):=by
 obtain⟨fy,rX,rV,eO,rfl,tT,lN,mC⟩:=hl
 refine zE<|zD 2<|jn fun b2=>jn fun b3=>zD 8<|zR (.func (.func 322) ⟨[]⟩ ⟨[zP b3,zP b2]⟩) [] [1,0] ((b2,.cells ⟨[.string w]⟩ 356 (0,0))::[(b3,.cells ⟨[.slice fy rs.length eO]⟩ 34 (0,0))]) ⟨_,_,rfl,rfl⟩
theorem ans{w:ByteArray}(g1:ro b1=some (.cells ⟨[vl]⟩ 34 (0,0)))(hl:bB ro vl 2 iG rs)(hR:∀r∈rs,rJ r)(g2:ro b2=some (.cells ⟨[.string w]⟩ 356 (0,0)))(hw:xR w)(hn:w.size≤100)(hq:rs.length≤100):ItX zT 322 [] [zP b1,zP b2] ro [] (m8 w rs).length (asn (m8 w rs)) (fun Z=>Z=[]):=by
 intro bl aG Inv Stop hs hy B hB
 replace g1:=hs _ _ g1
 replace g2:=hs _ _ g2
 replace hl:=hl.up hs
 obtain⟨fy,rX,rV,eO,rfl,tT,lN,mC⟩:=hl
 refine an8 ar [.l B] [] aW<|zD 2<|jn fun b3=>jf [0] [(b3,.cells ⟨[(.func (.yield bl) #[] #[])]⟩ 425 (0,0))] fun yN bZ iL=>zD 3<|jl (b:=b1) (off:=0) (m:=1) (vs:=[.slice fy rs.length eO]) 0 ⟨_,_,_,.inl (bZ _ _ g1),rfl⟩<|zD 4<|nI<|aEH [1,1,0,0] [] (fun(zz:Nat×(List Nat)×Cells)=>[(2,zP b2),(3,zP b3),(9,.slice fy rs.length eO),(10,zI (rs.length:Int)),(11,zI (zz.1:Int))]) (fun zz=>[.l (mk zz.2.1),.l zz.2.2]) (fun zz=>(zz.2.1.map dY)) (fun zz=>zz.1≤rs.length∧Inv (jm w ((oU rs).take (2*zz.1))).length zz.2.2) (fun zz=>rs.length-zz.1) (⟨0,[],B⟩) ⟨by dsimp only;omega,hB⟩ [0,1] ?_
 rintro⟨k,uC,B⟩ hI K1 bG rest
 dsimp only at hI
 refine zD 5<|zJ 12 ((k:Int) <(rs.length:Int)) (fun h4=>?_) fun h4=>?_
 ·
  refine zD 6 ?_
  obtain⟨x13,aoo⟩:=zG rs k
  refine gX eO 2 lN aoo<|jl 0 ((mC _ _ aoo).ext (ux bZ))<|jn fun b5=>jd 14 [0,0,0,0,0]<|jn fun nS=>zD 4<|aEH [1,1,0,0,1,1,0,0,1,1,0,0] [K1] (fun(zz:Nat×(List Nat)×Cells)=>[(2,zP b2),(3,zP b3),(9,.slice fy rs.length eO),(10,zI (rs.length:Int)),(11,zI (k:Int)),(25,.slice (some ⟨nS,0,none⟩) 2 2),(26,zI 2),(27,zI (zz.1:Int))]) (fun zz=>[.l (mk zz.2.1),.l zz.2.2,.b nS (.cells ⟨[.string x13.f,.string x13.t,.string x13.t,.string x13.f]⟩ 426 (0,0))]) (fun zz=>(zz.2.1.map dY)) (fun zz=>zz.1≤2∧Inv (jm w ((oU rs).take (2*k+zz.1))).length zz.2.2) (fun zz=>2-zz.1) (⟨0,uC,B⟩) ⟨by dsimp only;omega,hI.2⟩ [2,3,0] ?_
  rintro⟨q,uC,B⟩ hJ K2 jV rest
  dsimp only at hJ
  refine zD 5<|zJ 28 ((q:Int) <2) (fun h5=>?_) fun h5=>?_
  ·
   refine zD 6 ?_
   obtain⟨En,A5⟩:=zG ([(x13.f,x13.t),(x13.t,x13.f)]:List _) q (show q <2 from by omega)
   refine gX (a:=(some ⟨nS,0,none⟩)) (b:=nS) (off:=0) 2 2 (fun _ _=>rfl) A5<|ki (m:=2) 0 [2] [(nS,.cells ⟨([(x13.f,x13.t),(x13.t,x13.f)].map eP2).flatten⟩ 426 (0,0))] (fun s _ hZ=>xp (hZ _ (.head _)) (by intro p hp;rfl) A5) ?_
   refine jn fun b7=>jd 3 [0] ?_
   have hpx:=QI aoo A5
   have hpk:=am8 (hR _ (zL aoo)) A5
   refine zD 1<|jl (b:=b2) (off:=0) (m:=1) (vs:=[.string w]) 0 ⟨_,_,_,.inl (bZ _ _ g2),rfl⟩<|jd 4 [0,0]<|jc (vs:=[.string w,.string En.1,.string En.2]) [] (abv) ?_
   rintro _ _ ⟨arb,ara,aq9,rfl,rfl⟩
   refine jg 0 [.b arb (.cells ⟨[.string w]⟩ 356 (0,0)),.b ara (.cells ⟨[.string En.1]⟩ 9 (0,0)),.b aq9 (.cells ⟨[.string En.2]⟩ 9 (0,0))]<|jf [0,1,2] ((arb,.cells ⟨[.string w]⟩ 356 (0,0))::((ara,.cells ⟨[.string En.1]⟩ 9 (0,0))::[(aq9,.cells ⟨[.string En.2]⟩ 9 (0,0))])) fun ro8 y6 hk7=>zD 2<|jrf [] (ant (hk7 _ (.head _)) (hk7 _ (.tail _ (.head _))) (hk7 _ (.tail _ (.tail _ (.head _)))) hw hpk.1 ⟨hn,hpk.2⟩) (by rintro _ _ _ _ ⟨_,_,rfl,_⟩;rfl) (fun(zz:Cells)=>[.l zz]) (fun kk=>(fun(zz:Cells)=>Inv ((jm w ((oU rs).take (2*k+q))).length+kk) zz)) (fun jump=>(fun(zz:Cells)=>jump= .ret∧Stop zz)) B (show Inv (_+0) _ from hJ.2) [2] ?_ ?_ ?_
   ·
    rintro bl9 bd9 kk9 vs9 LL9 B ro9 hk9 axw hL Y6
    obtain⟨x9,hx9,rfl,rfl⟩:=axw
    have hu:=amr hpx hx9
    refine zD 3<|jbg<|zD 3<|jl (b:=b3) (off:=0) (m:=1) (vs:=[(.func (.yield bl) #[] #[])]) 0 ⟨_,_,_,.inl (Y6 _ _ (y6 _ _ (iL _ (.head _)))),rfl⟩<|zD 1<|jyc [1] (hy ((jm w ((oU rs).take (2*k+q))).length+kk9) _ [] B ro9 hu.1 ⟨_,hu.2,rfl,rfl⟩ hL ((bZ.trans y6).trans Y6)) (Sub.refl _) ?_
    intro v10 TU aQe
    obtain⟨c10,rfl,axU,axO⟩:=yb aQe
    refine zD 2<|js 41 (!c10) (fun h11=>?_) (fun h11=>?_)
    ·
     try simp only[zB] at h11
     refine zD 2<|jys qy0 (Sub.refl _) .ret TU ⟨rfl,axO (by simp_all)⟩ [1,0]
    try simp only[zB] at h11
    refine zD 2<|jyn qy0 (Sub.refl _) TU (axU (by simp_all)) [1,0]
   ·
    rintro bd9 B Z9 hL hZ9
    subst hZ9
    refine zD 1<|ja ((q:Int)+1) (by omega)<|zD 2<|jnD jV (⟨q+1,(bd9::uC),B⟩) ⟨by dsimp only;omega,by dsimp only;rw[←Nat.add_assoc,FV hpx,List.length_append];exact hL⟩ (by dsimp only;omega) [[0,4],[2],[5]] y6
   rintro bd9 B Z9 jump hS hZ9
   obtain⟨rfl,hS⟩:=hS
   subst hZ9
   exact jrM qm0.a.w.w.a.m (.tuple ⟨[]⟩) [0,4] [] [1] B (bZ.trans y6) ⟨[],B,rfl,rfl,.inr hS⟩
  refine zD 3<|ja ((k:Int)+1) (by omega)<|zD 2<|jnD bG (⟨k+1,uC,B⟩) ⟨by dsimp only;omega,by have:=hJ.2;dsimp only;rwa[show 2*(k+1)=2*k+q by omega]⟩ (by dsimp only;omega) [[0],[1]] (Sub.refl _)
 refine zD 2<|jrM qm0.a.w (.tuple ⟨[]⟩) [0] [] [0] B bZ ⟨[],B,rfl,rfl,.inl (by have:=hI.2;rwa[show k=rs.length by omega,List.take_of_length_le (by rw[KS];exact Nat.le_refl _)] at this)⟩
instance:LawfulBEq ByteArray where
 eq_of_beq:=fun h=>by rw[OG] at h;exact of_decide_eq_true h
 rfl:=fun {a}=>by rw[OG];exact decide_eq_true rfl
def dd(l:List ByteArray):List ByteArray:=l.foldl (fun a x=>if x∈a then a else a++[x]) []
theorem FB(l:List ByteArray)(x:ByteArray):dd (l++[x])=if x∈dd l then dd l else dd l++[x]:=by rw[dd,List.foldl_append];rfl
theorem ayZ(a:List ByteArray):∀b:List ByteArray,∃r,dd (a++b)=dd a++r:=by
 intro b
 induction b generalizing a with
 |nil=>exact⟨[],by simp⟩
 |cons x b ih=>
  obtain⟨r,hr⟩:=ih (a++[x])
  rw[show a++x::b=(a++[x])++b by simp,hr,FB]
  split
  ·exact⟨r,rfl⟩
  exact⟨x::r,by simp⟩
abbrev kvS:ByteArray→Value:=fun a=> .string a
def mF(m:List ByteArray):List (ByteArray×Value):=m.map fun x=>(x,.bool true)
theorem Wo(k:ByteArray):∀(m:List ByteArray) (i:Nat),(sH k (mF m) i).map (·.2)=if k∈m then some (.bool true) else none
 | [],_=>rfl
 |x::m,i=>by
  simp only[mF,List.map_cons,sH]
  by_cases h:k=x
  ·simp[h]
  have:=Wo k m (i+1)
  simp only[mF] at this
  simp[h,this]
theorem aEh{k:ByteArray}{m:List ByteArray}:Rj (.bool false) false k (mF m)= .bool (decide (k∈m)):=by
 simp only[Rj,lkM,Wo]
 by_cases h:k∈m<;>simp[h]
theorem atu{k:ByteArray}{m:List ByteArray}(h:decide (k∈m)=false):mi k (.bool true) (mF m)=mF (m++[k]):=by
 have h:=of_decide_eq_false h
 have:=Wo k m 0
 rw[if_neg h] at this
 simp only[mi]
 cases hf:sH k (mF m) 0 with
 |none=>simp[mF]
 |some x=>rw[hf] at this;cases this
theorem akk(hx:l[k]?=some x) (h:decide (x∈dd (l.take k))=true):dd (l.take (k+1))=dd (l.take k):=by
 rw[dP hx,FB,if_pos (of_decide_eq_true h)]
theorem WH(hx:l[k]?=some x) (h:decide (x∈dd (l.take k))=false):dd (l.take (k+1))=dd (l.take k)++[x]:=by
 rw[dP hx,FB,if_neg (of_decide_eq_false h)]
theorem ay0(hx:l[k]?=some x) (h:decide (x∈dd (l.take k))=false):∃r,dd l=dd (l.take k)++[x]++r:=by
 obtain⟨r,hr⟩:=ayZ (l.take (k+1)) (l.drop (k+1))
 rw[List.take_append_drop,WH hx h] at hr
 exact⟨r,hr⟩
def Ed(rs:List bP)(to:ByteArray):Nat→ByteArray→List ByteArray→List (List ByteArray)
 |0,w,b=>if cS w to=true then [b++[w]] else []
 |n+1,w,b=>(dd (m8 w rs)).flatMap fun s=>Ed rs to n s (b++[w])
theorem Oz{to:ByteArray}:∀ {n:Nat} {w:ByteArray} {b x:List ByteArray},x∈Ed rs to n w b→x.length=b.length+n+1
 |0,w,b,x,h=>by
  simp only[Ed] at h
  split at h
  ·rw[List.mem_singleton] at h;subst h;simp
  cases h
 |n+1,w,b,x,h=>by
  simp only[Ed,List.mem_flatMap] at h
  obtain⟨s,_,h2⟩:=h
  have:=Oz h2
  simp at this;omega
theorem amq{w:ByteArray}(hR:∀r∈rs,rJ r)(hw:xR w)(h:x∈m8 w rs):xR x∧x.size≤12:=by
 simp only[m8,jm,oU,List.mem_flatMap,DJ,u3,List.mem_filterMap,List.mem_range] at h
 obtain⟨p,⟨r,hr,hp⟩,i,_,hi⟩:=h
 have ht:xR p.2:=by
  simp only[List.mem_cons,List.not_mem_nil,or_false] at hp
  rcases hp with rfl|rfl
  ·exact(hR r hr).tl
  exact(hR r hr).fl
 simp only[qg] at hi
 split at hi
 ·rename_i hc
  cases hi
  exact⟨Ku hw ht,hc.2.2⟩
 cases hi
abbrev aps(L:List (List ByteArray)):(Nat→Option Obj)→Nat→List Value→Cells→Prop:=fun _ k vs LL=>∃x v,L[k]?=some x∧vs=[v]∧aw v 1 9 pQ x LL
structure ald(ro:Nat→Option Obj)(bl:Nat)(rs:List bP)(to:ByteArray)(many bm bt bE br bg:Nat)(vl:Value):Prop where
 m:ro bm=some (.cells ⟨[zI (many:Int)]⟩ 3 (0,0))
 t:ro bt=some (.cells ⟨[.string to]⟩ 356 (0,0))
 y:ro bE=some (.cells ⟨[.func (.yield bl) #[] #[]]⟩ 401 (0,0))
 r:ro br=some (.cells ⟨[vl]⟩ 34 (0,0))
 g:ro bg=some (.cells ⟨[.func (.func 306) ⟨[]⟩ ⟨[zP bm,zP bt,zP bE,zP br,zP bg]⟩]⟩ 402 (0,0))
 l:bB ro vl 2 iG rs
theorem ald.up{aD:Nat→Option Obj}{to:ByteArray}(h:ald ro bl rs to many bm bt bE br bg vl)(hs:Sub ro aD):ald aD bl rs to many bm bt bE br bg vl:=
 ⟨hs _ _ h.m,hs _ _ h.t,hs _ _ h.y,hs _ _ h.r,hs _ _ h.g,h.l.up hs⟩
def asP(bl:Nat)(rs:List bP)(to:ByteArray)(many bm bt bE br bg:Nat)(vl:Value)(L:List (List ByteArray))(Inv:Nat→Cells→Prop)(Stop:Cells→Prop)(n:Nat):Prop:=
 ∀(ro:Nat→Option Obj) (w:ByteArray) (b:List ByteArray) (v:Value) (p:Nat) (B:Cells),ald ro bl rs to many bm bt bE br bg vl→bB ro v 1 pQ b→b.length+n=many→xR w→w.size≤100→Part L p (Ed rs to n w b)→Inv p B→YOK zT bl ro L.length (aps L) Inv Stop→
  dG zT 306 [.string w,v,zP bm,zP bt,zP bE,zP br,zP bg] ro B (fun r Y=>∃c,r= .bool c∧(c=true→Inv (p+(Ed rs to n w b).length) Y)∧(c=false→Stop Y))
theorem ava{w:ByteArray}{b:List ByteArray}{v:Value}{p:Nat}{B:Cells}{to:ByteArray}{L:List (List ByteArray)}{Inv:Nat→Cells→Prop}(ih:∀m,m <n→asP bl rs to many bm bt bE br bg vl L Inv Stop m)(hR:∀r∈rs,rJ r)(hq:rs.length≤100)(Zi:many≤100)(Sj:ald ro bl rs to many bm bt bE br bg vl)(hb:bB ro v 1 pQ b)(hbn:b.length+n=many)(hw:xR w)(si:w.size≤100)(hP:Part L p (Ed rs to n w b))(hB:Inv p B)(hy:YOK zT bl ro L.length (aps L) Inv Stop):dG zT 306 [.string w,v,zP bm,zP bt,zP bE,zP br,zP bg] ro B (fun r Y=>∃c,r= .bool c∧(c=true→Inv (p+(Ed rs to n w b).length) Y)∧(c=false→Stop Y)):=by
 obtain⟨gm,gt,gy,gl,gg,hl⟩:=id Sj
 obtain⟨fy,rX,rV,eO,rfl,tT,lN,mC⟩:=hl
 obtain⟨aC9,aNw,aNs,aC8,rfl,aNu,aNv,aNt⟩:=hb
 refine an8 ar [.l B] [] aW<|zD 2<|jn fun b9=>zD 4<|jc (vs:=[.slice aC9 b.length aC8]) [] (atU (show bB _ _ _ _ _ from ⟨aC9,aNw,aNs,aC8,rfl,aNu,aNv,aNt⟩) (by first|omega| (simp only[List.length_set,zM];omega))) ?_
 rintro v14 L14 ⟨_,VB,rfl⟩
 refine zD 1<|jn fun b16=>iK (sz:=1) (ps:=b) (qs:=[w]) (enc:=pQ) (w:= .slice (some ⟨b16,0,none⟩) 1 1) [1] [0] [(b16,.cells ⟨([w].map pQ).flatten⟩ 9 (0,0))] (VB) (fun s _ hZ=>bV [w] (hZ _ (.head _)) (by intro p hp;rfl)) (fun p _=>ai rfl) (by simp only[List.length_cons,List.length_nil];omega) (fun v17 Ts Vz=>?_)
 obtain⟨xU,xT,JV⟩:=Vz.form
 subst JV
 refine jn fun pf=>jd 7 [0,0]<|jl (b:=bm) (off:=0) (m:=1) (vs:=[zI (many:Int)]) 0 ⟨_,_,_,.inl gm,rfl⟩<|zD 2<|zJ 21 (((b++[w]).length:Int)>(many:Int)) (fun h1=>?_) fun h1=>?_
 ·
  refine zD 2 ?_
  obtain rfl:n=0:=by simp only[zM] at*;omega
  refine zD 2<|jl (b:=bt) (off:=0) (m:=1) (vs:=[.string to]) 0 ⟨_,_,_,.inl gt,rfl⟩<|zD 2<|js 25 (!(cS w to)) (fun h2=>?_) (fun h2=>?_)
  ·
   have k9:=h2
   try simp only[zB] at k9
   refine jd 7 [3]<|jrM qm0 (.bool true) [] [3] [4] B (Sub.refl _) ⟨_,rfl,(fun _=>by rw[show Ed rs to 0 w b=[] from if_neg (by simp_all)];exact hB),nofun⟩
  have k9:=h2
  try simp only[zB] at k9
  have ail:Ed rs to 0 w b=[b++[w]]:=if_pos (by simp_all)
  have VI:=Part.get (i:=0) (x:=b++[w]) hP (by rw[ail];rfl)
  refine jl (b:=bE) (off:=0) (m:=1) (vs:=[(.func (.yield bl) #[] #[])]) 0 ⟨_,_,_,.inl gy,rfl⟩<|jd 1 [0]<|jyc [1,4] (hy p [(.slice xU ((b++[w])).length xT)] Ts B ro VI.1 ⟨_,_,VI.2,rfl,Vz⟩ hB (Sub.refl _)) (Sub.refl _) ?_
  intro v28 Y28 aQc
  obtain⟨c28,rfl,aST,aSH⟩:=yb aQc
  refine jd 4 [3]<|jrM qm0 (.bool c28) [] [3] [0] Y28 (Sub.refl _) ⟨_,rfl,(fun h=>by rw[ail];exact aST h),aSH⟩
 refine zD 3 ?_
 obtain⟨m,rfl⟩:∃m,n=m+1:=⟨n-1,by simp only[zM] at*;omega⟩
 refine zD 1<|jmk kvS fun r30 L30 aFX=>jn fun OJ=>jd 5 [0]<|jf [2,0,3] ((pf,.cells ⟨[(.slice xU ((b++[w])).length xT)]⟩ 167 (0,0))::((OJ,.cells ⟨[(.map (some r30))]⟩ 404 (0,0))::Ts)) (fun ro5 BR hk4=>?_)
 have vw:=Vz.jF hk4.tail.tail
 replace Sj:=Sj.up BR
 replace hy:=hy.up BR
 refine zD 1<|jl (b:=br) (off:=0) (m:=1) (vs:=[.slice fy rs.length eO]) 0 ⟨_,_,_,.inl (BR _ _ gl),rfl⟩<|jc (vs:=[.string w,.slice fy rs.length eO]) [] (au8 ((show bB _ _ _ _ _ from ⟨fy,rX,rV,eO,rfl,tT,lN,mC⟩).up BR)) ?_
 rintro _ _ ⟨ard,arc,rfl,rfl⟩
 refine jg 0 [.b ard (.cells ⟨[.string w]⟩ 356 (0,0)),.b arc (.cells ⟨[.slice fy rs.length eO]⟩ 34 (0,0))]<|jf [0,1] ((ard,.cells ⟨[.string w]⟩ 356 (0,0))::[(arc,.cells ⟨[.slice fy rs.length eO]⟩ 34 (0,0))]) fun ro8 y6 hk7=>zD 2<|jrf [] (ans (hk7 _ (.tail _ (.head _))) (Sj.l.up y6) hR (hk7 _ (.head _)) hw si hq) (by rintro _ _ _ _ ⟨_,_,rfl,_⟩;rfl) (fun(zz:Bool×Cells×Cells)=>[.b b9 (.cells ⟨[.bool zz.1]⟩ 4 (0,0)),.l zz.2.1,.l zz.2.2]) (fun kk=>(fun(zz:Bool×Cells×Cells)=>Inv (p+((dd ((m8 w rs).take kk)).flatMap fun s=>Ed rs to m s (b++[w])).length) zz.2.2∧jU r30 kvS (mF (dd ((m8 w rs).take kk))) zz.2.1)) (fun jump=>(fun(zz:Bool×Cells×Cells)=>jump= .ret∧(zz.1=false∧Stop zz.2.2))) (⟨false,L30,B⟩) ⟨hB,aFX⟩ [2,0,3] ?_ ?_ ?_
 ·
  rintro bl9 bd9 kk9 vs9 LL9 ⟨rv,Lm,B⟩ ro9 hk9 axw hL Y6
  obtain⟨x9,hx9,rfl,rfl⟩:=axw
  have hue:=amq hR hw (zL hx9)
  refine zD 3<|jbg<|zD 4<|jl (b:=OJ) (off:=0) (m:=1) (vs:=[(.map (some r30))]) 0 ⟨_,_,_,.inl (Y6 _ _ (y6 _ _ (hk4 _ (.tail _ (.head _))))),rfl⟩<|zD 1<|jlu (kv:=kvS) (F:=(mF (dd ((m8 w rs).take kk9)))) (r:=r30) (K:=356) x9 (.bool false) false [2] Lm (YF (T:=356) (by kernel_rfl)) (fun s _ hZ=>hL.2.has hZ)<|jw 37 (.bool (decide (x9∈(dd ((m8 w rs).take kk9))))) aEh<|zD 1<|js 37 (decide (x9∈(dd ((m8 w rs).take kk9)))) (fun EV=>?_) (fun EV=>?_)
  ·
   refine zD 2<|jyn qy0 (Sub.refl _) ⟨rv,Lm,B⟩ ⟨by rw[akk hx9 (by assumption)];exact hL.1,by rw[akk hx9 (by assumption)];exact hL.2⟩ (zN 0 4)
  have tq:decide (x9∈dd ((m8 w rs).take kk9))=false:=by assumption
  obtain⟨rr,hrr⟩:=ay0 hx9 tq
  have aFu:=Part.flat (G:=fun s=>Ed rs to m s (b++[w])) hP hrr
  refine zD 4<|jl (b:=OJ) (off:=0) (m:=1) (vs:=[(.map (some r30))]) 0 ⟨_,_,_,.inl (Y6 _ _ (y6 _ _ (hk4 _ (.tail _ (.head _))))),rfl⟩<|zD 1<|jmu (kv:=kvS) (F:=(mF (dd ((m8 w rs).take kk9)))) (r:=r30) (K:=356) 2 x9 (.bool true) (YF (T:=356) (by kernel_rfl)) hL.2 fun aJn ah4=>zD 3<|jl (b:=bg) (off:=0) (m:=1) (vs:=[.func (.func 306) ⟨[]⟩ ⟨[zP bm,zP bt,zP bE,zP br,zP bg]⟩]) 0 ⟨_,_,_,.inl (Y6 _ _ (y6 _ _ (BR _ _ gg))),rfl⟩<|zD 1<|jl (b:=pf) (off:=0) (m:=1) (vs:=[(.slice xU ((b++[w])).length xT)]) 0 ⟨_,_,_,.inl (Y6 _ _ (y6 _ _ (hk4 _ (.head _)))),rfl⟩<|jc (vs:=[.string x9,(.slice xU ((b++[w])).length xT),zP bm,zP bt,zP bE,zP br,zP bg]) [3] (ih m (by omega) _ _ _ _ (p+((dd ((m8 w rs).take kk9)).flatMap fun s=>Ed rs to m s (b++[w])).length) _ (Sj.up (y6.trans Y6)) (vw.up (y6.trans Y6)) (by simp only[zM];omega) hue.1 (by omega) aFu hL.1 (hy.up (y6.trans Y6))) ?_
  rintro _ Y43 ⟨c43,rfl,aSQ,aSE⟩
  refine zD 2<|js 44 (!c43) (fun C8=>?_) (fun C8=>?_)
  ·
   try simp only[zB] at C8
   refine jd 6 [3]<|jys qy0 (Sub.refl _) .ret ⟨false,aJn,Y43⟩ ⟨rfl,rfl,aSE (by simp_all)⟩ [2,3,1,0]
  try simp only[zB] at C8
  refine zD 2<|jyn qy0 (Sub.refl _) ⟨rv,aJn,Y43⟩ ⟨by rw[WH hx9 tq,List.flatMap_append,List.length_append,←Nat.add_assoc];have:=aSQ (by simp_all);simpa using this,by rw[WH hx9 tq,←atu tq];exact ah4⟩ [2,3,1,0]
 ·
  rintro bd9 ⟨rv,Lm,B⟩ Z9 hL hZ9
  subst hZ9
  refine jd 5 [2]<|jrM qm0.a.a.m (.bool true) [0] [1] [3] B (BR.trans y6) ⟨_,rfl,(fun _=>by have:=hL.1;rwa[List.take_of_length_le (Nat.le_refl _)] at this),nofun⟩
 rintro bd9 ⟨rv,Lm,B⟩ Z9 jump hS hZ9
 obtain⟨rfl,hS⟩:=hS
 obtain⟨rfl,hS⟩:=hS
 subst hZ9
 exact jrM qm0.a.a.m (.bool false) [0] [1] [3] B (BR.trans y6) ⟨_,rfl,nofun,fun _=>hS⟩
theorem aD6{to:ByteArray}{L:List (List ByteArray)}{Inv:Nat→Cells→Prop}(hR:∀r∈rs,rJ r)(hq:rs.length≤100)(Zi:many≤100):∀n,asP bl rs to many bm bt bE br bg vl L Inv Stop n:=by
 intro n
 induction n using Nat.strongRecOn with
 |_ n ih=>exact fun ro w b v p B hc hb hbn hw si hP hB hy=>ava ih hR hq Zi hc hb hbn hw si hP hB hy
theorem abw{w to:ByteArray}(g1:ro b1=some (.cells ⟨[zI (many:Int)]⟩ 3 (0,0)))(g2:ro b2=some (.cells ⟨[.string to]⟩ 356 (0,0)))(g3:ro b3=some (.cells ⟨[vl]⟩ 34 (0,0)))(g4:ro b4=some (.cells ⟨[.string w]⟩ 356 (0,0)))(hl:bB ro vl 2 iG rs)(hR:∀r∈rs,rJ r)(hw:xR w)(si:w.size≤100)(hq:rs.length≤100)(Zi:many≤100):ItX zT 305 [] [zP b1,zP b2,zP b3,zP b4] ro [] (Ed rs to many w []).length (aps (Ed rs to many w [])) (fun Z=>Z=[]):=by
 intro bl aG Inv Stop hs hy B hB
 replace g1:=hs _ _ g1
 replace g2:=hs _ _ g2
 replace g3:=hs _ _ g3
 replace g4:=hs _ _ g4
 replace hl:=hl.up hs
 have hlr:=hl
 obtain⟨fy,rX,rV,eO,rfl,tT,lN,mC⟩:=hl
 refine zC [.l B]<|zD 2<|jn fun b5=>zD 3<|jn fun b6=>jd 8 [0,0]<|jl (b:=b4) (off:=0) (m:=1) (vs:=[.string w]) 0 ⟨_,_,_,.inl g4,rfl⟩<|jf [1,0] ((b5,.cells ⟨[(.func (.yield bl) #[] #[])]⟩ 401 (0,0))::[(b6,.cells ⟨[.func (.func 306) ⟨[]⟩ ⟨[zP b1,zP b2,zP b5,zP b3,zP b6]⟩]⟩ 402 (0,0))]) fun yN bZ iL=>jc (vs:=[.string w,zS,zP b1,zP b2,zP b5,zP b3,zP b6]) [0] (aD6 hR hq Zi many _ _ _ _ 0 _ ⟨bZ _ _ g1,bZ _ _ g2,iL _ (.head _),bZ _ _ g3,iL _ (.tail _ (.head _)),hlr.up bZ⟩ (bB.nil _ _ _ _ _) (by simp) hw si ⟨[],[],by simp,rfl⟩ hB (YOK.up hy bZ)) ?_
 rintro _ TU ⟨c10,rfl,axU,axO⟩
 refine zD 1<|aK q0.a (.tuple ⟨[]⟩) [] [0] TU bZ ⟨_,_,rfl,rfl,[],TU,rfl,rfl,by cases c10 with|true=>exact .inl (by simpa using axU rfl)|false=>exact .inr (axO rfl)⟩
theorem af7{w to:ByteArray}{many:Int}(hl:bB ro vl 2 iG rs):dG zT 281 [.string w,vl,.string to,zI many] ro [] (fun r Y=>∃b4 b5 b6 b7,r= .func (.func 305) ⟨[]⟩ ⟨[zP b7,zP b6,zP b5,zP b4]⟩∧Y=[(b4,.cells ⟨[.string w]⟩ 356 (0,0)),(b5,.cells ⟨[vl]⟩ 34 (0,0)),(b6,.cells ⟨[.string to]⟩ 356 (0,0)),(b7,.cells ⟨[zI many]⟩ 3 (0,0))]):=by
 obtain⟨fy,rX,rV,eO,rfl,tT,lN,mC⟩:=hl
 refine zE<|zD 2<|jn fun b4=>jn fun b5=>jn fun b6=>jn fun b7=>zD 8<|zR (.func (.func 305) ⟨[]⟩ ⟨[zP b7,zP b6,zP b5,zP b4]⟩) [] [3,2,1,0] ((b4,.cells ⟨[.string w]⟩ 356 (0,0))::((b5,.cells ⟨[.slice fy rs.length eO]⟩ 34 (0,0))::((b6,.cells ⟨[.string to]⟩ 356 (0,0))::[(b7,.cells ⟨[zI many]⟩ 3 (0,0))]))) ⟨_,_,_,_,rfl,rfl⟩
theorem avb{L:List (List ByteArray)}(hit:ItX zT 305 [] [zP b1,zP b2,zP b3,zP b4] ro [] L.length (aps L) (fun Z=>Z=[]))(hL:∀x∈L,x.length≤1000):dG zT 280 [.func (.func 305) ⟨[]⟩ ⟨[zP b1,zP b2,zP b3,zP b4]⟩,.func (.func 282) ⟨[]⟩ ⟨[]⟩] ro [] (fun r Y=>∃v,r= .tuple ⟨[v,.bool (decide (0 <L.length))]⟩∧∃ps,aw v 1 9 pQ ps Y∧(0 <L.length→ps∈L)):=by
 refine an8 ar [] [] aW<|zD 2<|jn fun b3=>zD 2<|jf [0] [(b3,.cells ⟨[.func (.func 282) ⟨[]⟩ ⟨[]⟩]⟩ 383 (0,0))] fun yN bZ iL=>zD 3<|jn fun b6=>zD 3<|jn fun b7=>jd 8 [0]<|nI<|jrf [] (hit.up bZ) (by rintro _ _ _ _ ⟨_,_,_,rfl,_⟩;rfl) (fun(zz:Value×(List ByteArray)×Cells×Bool)=>[.b b6 (.cells ⟨[zz.1]⟩ 167 (0,0)),.b b7 (.cells ⟨[.bool zz.2.2.2]⟩ 4 (0,0)),.l zz.2.2.1]) (fun kk=>(fun(zz:Value×(List ByteArray)×Cells×Bool)=>aw zz.1 1 9 pQ zz.2.1 zz.2.2.1∧zz.2.2.2=decide (0 <kk)∧(0 <kk→zz.2.1∈L)∧zz.2.1.length≤1000)) (fun jump=>(fun(zz:Value×(List ByteArray)×Cells×Bool)=>False)) (⟨zS,[],[],false⟩) ⟨aw.nil _ _ _,rfl,nofun,by simp⟩ [2,1,0] ?_ ?_ ?_
 ·
  rintro bl4 bd4 kk4 vs4 LL4 ⟨v,ps,Lb,sm⟩ ro4 hk4 axx hI kA
  obtain⟨x4,v4,hx4,rfl,ho4⟩:=axx
  have hxl:=hL _ (zL hx4)
  have TG:=hI.2.2.2
  refine zD 3<|jbg<|jd 6 [2]<|js 13 (!sm) (fun h5=>?_) (fun h5=>?_)
  ·
   have N7:=h5
   try simp only[zB] at N7
   refine zD 10 ?_
   obtain⟨va6,vc6,he6⟩:=ho4.form
   subst he6
   refine jd 3 [1,2]<|jyn qy0 (Sub.refl _) ⟨(.slice va6 (x4).length vc6),x4,LL4,true⟩ ⟨ho4,rfl,fun _=>zL hx4,hxl⟩ [0,1,2,4]
  have N7:=h5
  try simp only[zB] at N7
  refine jl (b:=b3) (off:=0) (m:=1) (vs:=[.func (.func 282) ⟨[]⟩ ⟨[]⟩]) 0 ⟨_,_,_,.inl (kA _ _ (iL _ (.head _))),rfl⟩<|jd 2 [1]<|jp (vs:=[v4,v]) [4,3] (LL4++Lb) (fun aG hs hZ=>aM4 (ho4.jF hZ.left) (hI.1.jF hZ.right) (by first|omega| (simp only[List.length_set,zM];omega)) (by first|omega| (simp only[List.length_set,zM];omega))) ?_
  refine zD 3<|zJ 19 ((Ov x4 ps) <0) (fun h7=>?_) fun h7=>?_
  ·
   refine zD 3 ?_
   obtain⟨va8,vc8,he8⟩:=ho4.form
   subst he8
   refine jd 3 [1,2]<|jyn qy0 (Sub.refl _) ⟨(.slice va8 (x4).length vc8),x4,LL4,true⟩ ⟨ho4,rfl,fun _=>zL hx4,hxl⟩ [0,1,2,4]
  refine zD 2<|jyn qy0 (Sub.refl _) ⟨v,ps,Lb,sm⟩ ⟨hI.1,by have:=hI.2.1;simp_all,fun _=>hI.2.2.1 (by have:=hI.2.1;simp_all),TG⟩ (zN 0 4)
 ·
  rintro bd4 ⟨v,ps,Lb,sm⟩ Z4 hI hZ4
  subst hZ4
  refine jd 8 [2,3]<|jrM qm0.a.m (.tuple ⟨[v,.bool sm]⟩) [0] [] [3] Lb bZ ⟨v,by rw[←hI.2.1],ps,hI.1,hI.2.2.1⟩
 rintro bd4 ⟨v,ps,Lb,sm⟩ Z4 jump hS hZ4
 exact hS.elim
abbrev eBy(x:Int):List Value:=[.int .u8 x]
theorem aIn:EF zT 342 (Extern.BytealgMakeNoZero.makeNoZero #[3] #[364]):=⟨Tryz.f342,Tryz.func342,by kernel_rfl,by kernel_rfl,by kernel_rfl,by kernel_rfl⟩
def atB:=(m9 Tryz.typeInfo364 Tryz.underlying364 rfl rfl rfl rfl rfl rfl:TF zT 364 _ 1 24 _ false)
theorem afx{l:List Value}:aw (.slice (some ⟨b,0,none⟩) 0 l.length) 1 T eBy ([]:List Int) [(b,.cells ⟨l⟩ T (0,0))]:= .inr ⟨b,l,l.length,rfl,rfl,by simp,by simp,by simp,by simp⟩
theorem ana{v:Value}{c:Int}{L:Cells}(h:aw v 1 T eBy [c] L):∃b l cap,cap≠0∧v= .slice (some ⟨b,0,none⟩) 1 cap∧L=[(b,.cells ⟨.int .u8 c::l⟩ T (0,0))]:=by
 rcases h with ⟨_,h,_⟩| ⟨b,l,cap,h1,h2,h3,h4,_,h6⟩
 ·cases h
 simp only[List.length_cons,List.length_nil] at h1 h4 h6
 cases l with
 |nil=>simp at h3;omega
 |cons x l=>
  simp at h6;subst h6
  exact⟨b,l,cap,by omega,h1,h2⟩
def acH(n:Int):ByteArray:=⟨#[n.toNat.toUInt8]⟩
theorem aIo:EF zT 341 Extern.AbiNoEscape.same:=⟨Tryz.f341,Tryz.func341,by kernel_rfl,by kernel_rfl,by kernel_rfl,by kernel_rfl⟩
theorem aIN{v:Value}:dG zT 331 [zP b] ro [(b,.cells ⟨[.pointer none,v]⟩ 416 (0,0))] (fun r Y=>Y=[(b,.cells ⟨[zP b,v]⟩ 416 (0,0))]):=by
 refine zC [.b b (.cells ⟨[.pointer none,v]⟩ 416 (0,0))]<|jd 12 [0]<|jmo [0] [0,0] [(b,.cells ⟨[.pointer none,v]⟩ 416 (0,0))] (zP b)<|jg 0 [.b b (.cells ⟨[.pointer none,v]⟩ 416 (0,0))]<|aPK (v:= zP b) aIo<|jmo [0] [0,0] [(b,.cells ⟨[.pointer none,v]⟩ 416 (0,0))] (zP b)<|jg 0 [.b b (.cells ⟨[.pointer none,v]⟩ 416 (0,0))]<|jd 4 [0]<|zR (.tuple ⟨[]⟩) [] [0] [(b,.cells ⟨[zP b,v]⟩ 416 (0,0))] rfl
theorem aIM{v:Value}:dG zT 331 [zP b] ro [(b,.cells ⟨[zP b,v]⟩ 416 (0,0))] (fun r Y=>Y=[(b,.cells ⟨[zP b,v]⟩ 416 (0,0))]):=by
 refine zC [.b b (.cells ⟨[zP b,v]⟩ 416 (0,0))]<|jd 16 [0,0]<|jpn (b:=b)<|jg 0 []<|zD 3<|zR (.tuple ⟨[]⟩) [] [0] [(b,.cells ⟨[zP b,v]⟩ 416 (0,0))] rfl
theorem aIG:dG zT 332 [zP b,zI 1] ro [(b,.cells ⟨[zP b,zS]⟩ 416 (0,0))] (fun r Y=>∃v L,aw v 1 5 eBy ([]:List Int) L∧Y=(b,.cells ⟨[zP b,v]⟩ 416 (0,0))::L):=by
 refine zC [.b b (.cells ⟨[zP b,zS]⟩ 416 (0,0))]<|jd 6 [0]<|jcp (c:=0)<|jd 8 [0]<|aS 8 fun BX B6 An=>jnz (n:=1) aIn rfl atB (by omega) fun bb lz hlz=>jg 0 [.b bb (.cells ⟨lz⟩ 5 (0,0))]<|eG An [1]<|js0 (a:=⟨bb,0,none⟩) (l:=1) (c:=lz.length)<|jd 9 [1]<|jmo [] [] [] (zI 0)<|jg 0 []<|jd 8 [1]<|zR (.tuple ⟨[]⟩) [] [1,0] ((b,.cells ⟨[zP b,(.slice (some ⟨bb,0,none⟩) 0 lz.length)]⟩ 416 (0,0))::[(bb,.cells ⟨lz⟩ 5 (0,0))]) ⟨_,_,afx,rfl⟩
theorem aIL:dG zT 316 [zP b,zI 1] ro [(b,.cells ⟨[.pointer none,zS]⟩ 416 (0,0))] (fun r Y=>∃v L,aw v 1 5 eBy ([]:List Int) L∧Y=(b,.cells ⟨[zP b,v]⟩ 416 (0,0))::L):=by
 refine zC [.b b (.cells ⟨[.pointer none,zS]⟩ 416 (0,0))]<|zD 3<|jc (vs:=[zP b]) [0] (aIN (v:= zS)) ?_
 rintro _ _ rfl
 refine jg 0 [.b b (.cells ⟨[zP b,zS]⟩ 416 (0,0))]<|jd 15 [0]<|jcp (c:=0)<|jd 13 [0]<|jc (vs:=[zP b,zI 1]) [0] (aIG) ?_
 rintro _ _ ⟨v,L,hv,rfl⟩
 refine jg 0 [.b b (.cells ⟨[zP b,v]⟩ 416 (0,0)),.l L]<|zD 1<|zR (.tuple ⟨[]⟩) [] [0,1] ((b,.cells ⟨[zP b,v]⟩ 416 (0,0))::L) ⟨v,L,hv,rfl⟩
theorem aIO{v:Value}{L:Cells}{c:Int}(ho:aw v 1 5 eBy ([]:List Int) L):dG zT 318 [zP b,.int .u8 c] ro ((b,.cells ⟨[zP b,v]⟩ 416 (0,0))::L) (fun r Y=>∃v' L',aw v' 1 5 eBy [c] L'∧Y=(b,.cells ⟨[zP b,v']⟩ 416 (0,0))::L'):=by
 refine zC [.b b (.cells ⟨[zP b,v]⟩ 416 (0,0)),.l L]<|zD 7<|jc (vs:=[zP b]) [0] (aIM (v:=v)) ?_
 rintro _ _ rfl
 refine jg 0 [.b b (.cells ⟨[zP b,v]⟩ 416 (0,0))]<|jd 9 [0]<|jn fun vz=>iK (sz:=1) (ps:=[]) (qs:=[c]) (enc:=eBy) (w:= .slice (some ⟨vz,0,none⟩) 1 1) [2] [0] [(vz,.cells ⟨([c].map eBy).flatten⟩ 5 (0,0))] (ho) (fun s _ hZ=>bV [c] (hZ _ (.head _)) (by intro p hp;rfl)) (fun p _=>ai rfl) (by simp) (fun v14 L14 oZ=>?_)
 rw[List.nil_append] at oZ
 obtain⟨B3,Ax,tt⟩:=oZ.form
 subst tt
 refine jd 9 [2]<|zR (.nilIface) [] [2,0] ((b,.cells ⟨[zP b,(.slice B3 ([c]).length Ax)]⟩ 416 (0,0))::L14) ⟨_,_,oZ,rfl⟩
theorem aVb{bb cap:Nat}{l:List Value}{c:Int}(oF:cap≠0):dG zT 319 [zP b] ro [(b,.cells ⟨[zP b,.slice (some ⟨bb,0,none⟩) 1 cap]⟩ 416 (0,0)),(bb,.cells ⟨.int .u8 c::l⟩ 5 (0,0))] (fun r Y=>r= .string (acH c)):=by
 refine zC [.b b (.cells ⟨[zP b,.slice (some ⟨bb,0,none⟩) 1 cap]⟩ 416 (0,0)),.b bb (.cells ⟨.int .u8 c::l⟩ 5 (0,0))]<|jd 15 [0,0]<|aS 4 fun BX B6 An=>jsd (a:=⟨bb,0,none⟩) (l:=1) oF<|jg 0 []<|eG An [0,1]<|aS 10 fun As AA zi=>jus (b:=bb) (E:=5) [1] c l fun L9=>gx zi [[1]]<|zD 3<|zX (.string (acH c)) rfl
def tZ(u:UInt8):ByteArray:=⟨#[u]⟩
theorem apq{u:UInt8}(h:u.toNat <128):Value.string (Utf8.encode (u.toNat:Int))= .string (tZ u):=by
 have hv:Utf8.valid (u.toNat:Int)=true:=by simp only[Utf8.valid];simp;omega
 simp only[Utf8.encode,hv,if_true,Int.toNat_natCast,if_pos (show u.toNat <0x80 from h),tZ]
 simp
theorem aH2{u:UInt8}(hu:(97≤u.toNat∧u.toNat≤122)):du zT 304 [.string (tZ u)] ro (.string (tZ u)):=by
 have u9:(tZ u).size=1:=rfl
 refine zE<|zD 15<|dw [1,1,0,1,0,0] [] (fun(zz:Nat×Bool)=>[(0,.string (tZ u)),(2,.string (bs [])),(3,.bool true),(4,.bool zz.2),(5,zI (zz.1:Int))]) (fun zz=>[]) (fun zz=>(zz.1=0∧zz.2=false)∨(zz.1=1∧zz.2=false)) (fun zz=>1-zz.1) (⟨0,false⟩) (.inl ⟨rfl,rfl⟩) [] ?_
 rintro⟨i,q⟩ hI K1 bG rest
 dsimp only at hI
 refine zD 8<|zJ 14 ((i:Int) <((tZ u).size:Int)) (fun h1=>?_) fun h1=>?_
 ·
  refine zD 5 ?_
  obtain⟨hi0,Za⟩:i=0∧q=false:=by rcases hI with h|h;exact h;omega
  refine jw 5 (zI 0) (show Value.int .i64 (i:Int)= zI 0 by rw[hi0];rfl) ?_
  refine jw 4 (.bool false) (show Value.bool q= .bool false by rw[Za])<|zD 12<|zJ 21 ((u.toNat:Int)≥128) (fun h2=>?_) fun h2=>?_
  ·
   exfalso;omega
  refine zD 8<|js 26 (decide (65≤(u.toNat:Int))) (fun h3=>?_) (fun h3=>?_)
  ·
   have wD:=h3
   replace wD:=of_decide_eq_true wD
   refine zD 11<|bF bG (⟨1,decide ((u.toNat:Int)≤90)⟩) (.inr ⟨rfl,decide_eq_false (by omega)⟩) (by dsimp only;omega) [] (Sub.refl _)
  have wD:=h3
  replace wD:=of_decide_eq_false wD
  exfalso;omega
 refine zD 4 ?_
 obtain⟨hi1,hq1⟩:i=1∧q=false:=by rcases hI with h|h;omega;exact h
 refine jw 4 (.bool false) (show Value.bool q= .bool false by rw[hq1])<|zD 17<|zX (.string (tZ u)) ⟨rfl,rfl⟩
theorem aH1{u:UInt8}(hu:(65≤u.toNat∧u.toNat≤90)):du zT 304 [.string (tZ u)] ro (.string (acH (IntKind.u8.wrap ((u.toNat:Int)+32)))):=by
 have u9:(tZ u).size=1:=rfl
 refine zE<|zD 15<|dw [1,1,0,1,0,0] [] (fun(zz:Nat×Bool)=>[(0,.string (tZ u)),(2,.string (bs [])),(3,.bool true),(4,.bool zz.2),(5,zI (zz.1:Int))]) (fun zz=>[]) (fun zz=>(zz.1=0∧zz.2=false)∨(zz.1=1∧zz.2=true)) (fun zz=>1-zz.1) (⟨0,false⟩) (.inl ⟨rfl,rfl⟩) [] ?_
 rintro⟨i,q⟩ hI K1 bG rest
 dsimp only at hI
 refine zD 8<|zJ 14 ((i:Int) <((tZ u).size:Int)) (fun h1=>?_) fun h1=>?_
 ·
  refine zD 5 ?_
  obtain⟨hi0,Za⟩:i=0∧q=false:=by rcases hI with h|h;exact h;omega
  refine jw 5 (zI 0) (show Value.int .i64 (i:Int)= zI 0 by rw[hi0];rfl) ?_
  refine jw 4 (.bool false) (show Value.bool q= .bool false by rw[Za])<|zD 12<|zJ 21 ((u.toNat:Int)≥128) (fun h2=>?_) fun h2=>?_
  ·
   exfalso;omega
  refine zD 8<|js 26 (decide (65≤(u.toNat:Int))) (fun h3=>?_) (fun h3=>?_)
  ·
   have wD:=h3
   replace wD:=of_decide_eq_true wD
   refine zD 11<|bF bG (⟨1,decide ((u.toNat:Int)≤90)⟩) (.inr ⟨rfl,decide_eq_true (by omega)⟩) (by dsimp only;omega) [] (Sub.refl _)
  have wD:=h3
  replace wD:=of_decide_eq_false wD
  exfalso;omega
 refine zD 4 ?_
 obtain⟨hi1,hq1⟩:i=1∧q=true:=by rcases hI with h|h;omega;exact h
 refine jw 4 (.bool true) (show Value.bool q= .bool true by rw[hq1])<|zD 14<|jn fun b7=>zD 9<|jc (vs:=[zP b7,zI 1]) [0] (aIL) ?_
 rintro _ _ ⟨v,L,hv,rfl⟩
 refine jg 0 [.b b7 (.cells ⟨[zP b7,v]⟩ 416 (0,0)),.l L]<|zD 7<|dw [1,1,1,0,1,0,1,1,1,1,0,1,0,0] [] (fun(zz:Nat×Int×Value×Cells×(List Int))=>[(0,.string (tZ u)),(2,.string (bs [])),(7,zP b7),(8,zI zz.2.1),(9,zI (zz.1:Int))]) (fun zz=>[.b b7 (.cells ⟨[zP b7,zz.2.2.1]⟩ 416 (0,0)),.l zz.2.2.2.1]) (fun zz=>aw zz.2.2.1 1 5 eBy zz.2.2.2.2 zz.2.2.2.1∧((zz.1=0∧zz.2.1=0∧zz.2.2.2.2=[])∨(zz.1=1∧zz.2.1=1∧zz.2.2.2.2=[(IntKind.u8.wrap ((u.toNat:Int)+32))]))) (fun zz=>1-zz.1) (⟨0,0,v,L,[]⟩) ⟨hv,.inl ⟨rfl,rfl,rfl⟩⟩ [0,1] ?_
 rintro⟨j,p,v,L,xs⟩ hJ K2 jV rest
 dsimp only at hJ
 refine zD 8<|zJ 41 ((j:Int) <((tZ u).size:Int)) (fun h4=>?_) fun h4=>?_
 ·
  refine zD 5 ?_
  obtain⟨hj0,hp0,EK⟩:j=0∧p=0∧xs=[]:=by rcases hJ.2 with h|h;exact h;omega
  refine jw 9 (zI 0) (show Value.int .i64 (j:Int)= zI 0 by rw[hj0];rfl) ?_
  refine jw 8 (zI 0) (show Value.int .i64 p= zI 0 by rw[hp0])<|zD 11<|js 49 (decide (65≤(u.toNat:Int))) (fun h5=>?_) (fun h5=>?_)
  ·
   have N7:=h5
   replace N7:=of_decide_eq_true N7
   refine zD 4<|zJ 52 ((u.toNat:Int)≤90) (fun h6=>?_) fun h6=>?_
   ·
    refine zD 19<|jc (vs:=[zP b7,.int .u8 (IntKind.u8.wrap ((u.toNat:Int)+32))]) [0,1] (aIO (by have:=hJ.1;rwa[EK] at this)) ?_
    rintro _ _ ⟨v2,L2,I7,rfl⟩
    refine jg 0 [.b b7 (.cells ⟨[zP b7,v2]⟩ 416 (0,0)),.l L2]<|zD 11<|bF jV (⟨1,1,v2,L2,[(IntKind.u8.wrap ((u.toNat:Int)+32))]⟩) ⟨I7,.inr ⟨rfl,rfl,rfl⟩⟩ (by dsimp only;omega) [0,1] (Sub.refl _)
   exfalso;omega
  have N7:=h5
  replace N7:=of_decide_eq_false N7
  exfalso;omega
 refine zD 4 ?_
 obtain⟨hj1,hp1,hx1⟩:j=1∧p=1∧xs=[(IntKind.u8.wrap ((u.toNat:Int)+32))]:=by rcases hJ.2 with h|h;omega;exact h
 refine jw 8 (zI 1) (show Value.int .i64 p= zI 1 by rw[hp1])<|zD 9 ?_
 obtain⟨bb,lz,cap,oF,rfl,rfl⟩:=ana (by have:=hJ.1;rwa[hx1] at this)
 refine zD 1<|jc (vs:=[zP b7]) [0,1] (aVb (bb:=bb) (l:=lz) (c:=(IntKind.u8.wrap ((u.toNat:Int)+32))) oF) ?_
 rintro _ Yz rfl
 refine zD 3<|zX (.string (acH (IntKind.u8.wrap ((u.toNat:Int)+32)))) ⟨rfl,rfl⟩
def agt(u:UInt8):ByteArray:=if u.toNat <97 then acH (IntKind.u8.wrap ((u.toNat:Int)+32)) else tZ u
theorem aUB{u:UInt8}(h:Hc u=true∨GR u=true):du zT 304 [.string (tZ u)] ro (.string (agt u)):=by
 unfold agt
 rcases h with h|h
 ·simp only[Hc,Bool.and_eq_true,Nat.ble_eq] at h
  rw[if_neg (by omega)]
  exact aH2 (by omega)
 simp only[GR,Bool.and_eq_true,Nat.ble_eq] at h
 rw[if_pos (by omega)]
 exact aH1 (by omega)
def uqN(rs:List bP)(a to:ByteArray):Nat→Nat→Option Nat
 |0,_=>none
 |f+1,m=>bif decide (0 <(Ed rs to m a []).length) then some m else uqN rs a to f (m+1)
def uq(rs:List bP)(a to:ByteArray):Option Nat:=uqN rs a to 3 0
def jE(c:UInt8):ByteArray:=if c.toNat=67 then bs [99,104] else if c.toNat=74 then bs [106,117] else if c.toNat=89 then bs [106,97] else if c.toNat=88 then bs [115,104] else if c.toNat <97 then bs [c.toNat+32] else bs [c.toNat]
def JF:List UInt8→ByteArray→ByteArray
 | [],a=>a
 |c::l,a=>JF l (a++jE c)
def keyOf(w:ByteArray):ByteArray:=JF w.data.toList (bs [])
theorem anR{l:List UInt8}{c:UInt8}{a:ByteArray}(h:l[k]?=some c):JF (l.drop k) a=JF (l.drop (k+1)) (a++jE c):=by rw[eE h];rfl
theorem agF{l:List UInt8}{a:ByteArray}(h:l[k]?=none):JF (l.drop k) a=a:=by rw[eA (by rw[List.getElem?_eq_none_iff] at h;omega)];rfl
def vD(rs:List bP)(a b:ByteArray):Int:=match uq rs (keyOf a) (keyOf b) with
 |none=>2
 |some 0=>1
 |some _=>3
structure rK(w:ByteArray):Prop where
 n:1≤w.size∧w.size≤6
 s:Script w
def U5(c:UInt8):Prop:=Hc c=true∨GR c=true
theorem rK.let{w:ByteArray}(h:rK w):∀c∈w.data.toList,U5 c:=fun c hc=>h.s.elim (fun k=> .inl (k c hc)) fun k=> .inr (k c hc)
theorem aaI:((List.range 256).all fun n=> !(Hc (UInt8.ofNat n)||GR (UInt8.ofNat n))||(anI (jE (UInt8.ofNat n))&&(Nat.ble 1 (jE (UInt8.ofNat n)).size&&Nat.ble (jE (UInt8.ofNat n)).size 2)))=true:=by kernel_rfl
theorem Qc{c:UInt8}(h:U5 c):xR (jE c)∧1≤(jE c).size∧(jE c).size≤2:=by
 have h2:=List.all_eq_true.1 aaI c.toNat (List.mem_range.2 c.toNat_lt)
 have hb:UInt8.ofNat c.toNat=c:=by simp
 rw[hb] at h2
 have h3:(Hc c||GR c)=true:=by rcases h with h|h<;>simp[h]
 rw[h3] at h2
 simp only[Bool.not_true,Bool.false_or,Bool.and_eq_true,Nat.ble_eq] at h2
 exact⟨G7 h2.1,h2.2⟩
theorem YG:∀ {l:List UInt8} {a:ByteArray},(∀c∈l,U5 c)→xR a→xR (JF l a)∧(JF l a).size≤a.size+2*l.length
 | [],a,_,ha=>⟨ha,by simp[JF]⟩
 |c::l,a,h,ha=>by
  have h1:=Qc (h c (by simp))
  obtain⟨h2,h3⟩:=YG (l:=l) (a:=a++jE c) (fun x hx=>h x (by simp[hx])) (ha.app h1.1)
  refine⟨h2,?_⟩
  simp only[JF,ByteArray.size_append,List.length_cons] at h3 ⊢
  omega
theorem Rp{w:ByteArray}(h:rK w):xR (keyOf w)∧(keyOf w).size≤12:=by
 have h1:=YG (l:=w.data.toList) (a:=bs []) h.let (fun b hb=>by cases hb)
 have h2:w.data.toList.length=w.size:=Array.length_toList
 have h3:=h.n
 exact⟨h1.1,by have:=h1.2;have e:(bs []).size=0:=rfl;unfold keyOf;omega⟩
theorem anH{c:UInt8}(h:U5 c)(h1:¬(c.toNat:Int)=67)(h2:¬(c.toNat:Int)=74)(h3:¬(c.toNat:Int)=89)(h4:¬(c.toNat:Int)=88):agt c=jE c:=by
 simp only[agt,jE,if_neg (show ¬c.toNat=67 by omega),if_neg (show ¬c.toNat=74 by omega),if_neg (show ¬c.toNat=89 by omega),if_neg (show ¬c.toNat=88 by omega)]
 split
 ·simp only[acH,bs]
  rw[sL .u8 rfl _ (by omega) (by simp[IntKind.bits];omega),show ((c.toNat:Int)+32).toNat=c.toNat+32 by omega]
  rfl
 simp[tZ,bs]
theorem let_128{c:UInt8}(h:U5 c):c.toNat <128:=by
 rcases h with h|h
 ·simp only[Hc,Bool.and_eq_true,Nat.ble_eq] at h;omega
 simp only[GR,Bool.and_eq_true,Nat.ble_eq] at h;omega
theorem au9{c:UInt8}(h:U5 c):du zT 279 [.int .i32 (c.toNat:Int)] ro (.string (jE c)):=by
 refine zE<|zD 29<|zJ 5 ((c.toNat:Int)=67) (fun h1=>?_) fun h1=>?_
 ·
  refine zD 8<|zX (.string (bs [99,104])) ⟨by rw[jE,if_pos (by omega)]<;>rfl,rfl⟩
 refine zD 8<|zJ 7 ((c.toNat:Int)=74) (fun h2=>?_) fun h2=>?_
 ·
  refine zD 17<|jsa (a:=(bs [106])) (b:=(bs [117])) 9 (by decide)<|zD 3<|zX (.string ((bs [106])++(bs [117]))) ⟨by rw[jE,if_neg (by omega),if_pos (by omega)]<;>rfl,rfl⟩
 refine zD 8<|zJ 9 ((c.toNat:Int)=89) (fun h3=>?_) fun h3=>?_
 ·
  refine zD 16<|jsa (a:=(bs [106])) (b:=(bs [97])) 9 (by decide)<|zD 3<|zX (.string ((bs [106])++(bs [97]))) ⟨by rw[jE,if_neg (by omega),if_neg (by omega),if_pos (by omega)]<;>rfl,rfl⟩
 refine zD 7<|zJ 11 ((c.toNat:Int)=88) (fun h4=>?_) fun h4=>?_
 ·
  refine zD 8<|zX (.string (bs [115,104])) ⟨by rw[jE,if_neg (by omega),if_neg (by omega),if_neg (by omega),if_pos (by omega)]<;>rfl,rfl⟩
 refine zD 6<|je (.string (tZ c)) (apq (let_128 h))<|jp (vs:=[.string (tZ c)]) [] [] (fun aG hs hZ=>(aUB h))<|zD 3<|zX (.string (agt c)) ⟨by rw[anH h (by omega) (by omega) (by omega) (by omega)],rfl⟩
theorem anw{w to:ByteArray}(hl:bB ro vl 2 iG rs)(hR:∀r∈rs,rJ r)(hw:xR w)(si:w.size≤100)(hq:rs.length≤100):dG zT 248 [.string w,vl,.string to] ro [] (fun r Y=>(∃n v ps,uq rs w to=some n∧r= .tuple ⟨[v,.bool true]⟩∧aw v 1 9 pQ ps Y∧ps.length=n+1)∨(uq rs w to=none∧r= .tuple ⟨[zS,.bool false]⟩∧Y=[])):=by
 obtain⟨fy,rX,rV,eO,rfl,tT,lN,mC⟩:=hl
 refine zE<|zD 11<|dw [1,0,1,0,0] [] (fun(zz:Nat)=>[(0,.string w),(1,.slice fy rs.length eO),(2,.string to),(11,zI (zz:Int))]) (fun zz=>[]) (fun zz=>zz≤3∧uq rs w to=uqN rs w to (3-zz) zz) (fun zz=>3-zz) 0 ⟨by omega,rfl⟩ [] ?_
 rintro k hI K1 bG rest
 refine zD 5<|zJ 12 ((k:Int) <3) (fun h1=>?_) fun h1=>?_
 ·
  refine zD 15<|jc (vs:=[.string w,.slice fy rs.length eO,.string to,zI (k:Int)]) [] (af7 (show bB _ _ _ _ _ from ⟨fy,rX,rV,eO,rfl,tT,lN,mC⟩)) ?_
  rintro _ _ ⟨agq,agp,ago,agn,rfl,rfl⟩
  refine jg 0 [.b agq (.cells ⟨[.string w]⟩ 356 (0,0)),.b agp (.cells ⟨[.slice fy rs.length eO]⟩ 34 (0,0)),.b ago (.cells ⟨[.string to]⟩ 356 (0,0)),.b agn (.cells ⟨[zI (k:Int)]⟩ 3 (0,0))]<|jf (zN 0 4) ((agq,.cells ⟨[.string w]⟩ 356 (0,0))::((agp,.cells ⟨[.slice fy rs.length eO]⟩ 34 (0,0))::((ago,.cells ⟨[.string to]⟩ 356 (0,0))::[(agn,.cells ⟨[zI (k:Int)]⟩ 3 (0,0))]))) fun ro4 oO Zm=>jc (vs:=[.func (.func 305) ⟨[]⟩ ⟨[zP agn,zP ago,zP agp,zP agq]⟩,.func (.func 282) ⟨[]⟩ ⟨[]⟩]) [] (avb (abw (Zm _ (.tail _ (.tail _ (.tail _ (.head _))))) (Zm _ (.tail _ (.tail _ (.head _)))) (Zm _ (.tail _ (.head _))) (Zm _ (.head _)) ((show bB _ _ _ _ _ from ⟨fy,rX,rV,eO,rfl,tT,lN,mC⟩).up oO) hR hw si hq (by omega)) (fun x hx=>by have:=Oz hx;simp at this;omega)) ?_
  rintro _ L20 ⟨v20,rfl,aOH,aRp,aw0⟩
  refine zD 10<|js 23 (decide (0 <(Ed rs to k w []).length)) (fun h5=>?_) (fun h5=>?_)
  ·
   refine zD 8<|aK q0.a (.tuple ⟨[v20,.bool true]⟩) [] [0] L20 oO ⟨_,_,rfl,rfl,.inl ⟨k,v20,aOH,by rw[hI.2,show 3-k=(3-(k+1))+1 by omega,uqN,h5];rfl,rfl,aRp,by have:=Oz (aw0 (of_decide_eq_true h5));simpa using this⟩⟩
  refine zD 3<|ja ((k:Int)+1) (by omega)<|zD 2<|bF bG (k+1) ⟨by omega,by rw[hI.2,show 3-k=(3-(k+1))+1 by omega,uqN,h5];rfl⟩ (by omega) [] oO
 refine zD 8<|zX (.tuple ⟨[zS,.bool false]⟩) (.inr ⟨by rw[hI.2,show 3-k=0 by omega];rfl,rfl,rfl⟩)
theorem avq{c:UInt8}(h:U5 c):c.toNat <128:=by
 rcases h with h|h
 ·simp only[Hc,Bool.and_eq_true,Nat.ble_eq] at h;omega
 simp only[GR,Bool.and_eq_true,Nat.ble_eq] at h;omega
theorem avc{w to:ByteArray}(hl:bB ro vl 2 iG rs)(hR:∀r∈rs,rJ r)(hw:xR w)(si:w.size≤100)(hq:rs.length≤100):dG zT 248 [.string w,vl,.string to] ro [] (fun r Y=>∃v ps ok,r= .tuple ⟨[v,.bool ok]⟩∧aw v 1 9 pQ ps Y∧(ok=true→uq rs w to=some (ps.length-1)∧1≤ps.length)∧(ok=false→uq rs w to=none)):=by
 refine(anw hl hR hw si hq).mono fun _ _ h=>?_
 rcases h with ⟨n,v,ps,h1,h2,h3,h4⟩| ⟨h1,h2,h3⟩
 ·exact⟨v,ps,true,h2,h3,fun _=>⟨by rw[h4];exact h1,by omega⟩,nofun⟩
 subst h3;exact⟨_,[],false,h2,aw.nil _ _ _,nofun,fun _=>h1⟩
def uN(rs:List bP)(a b:ByteArray):Int:=match uq rs a b with
 |some n=>n
 |none=>0
def uE(rs:List bP)(a b:ByteArray):Int:=match uq rs a b with
 |some _=>0
 |none=>11
theorem aqn{a to:ByteArray}:∀ {f m n:Nat},uqN rs a to f m=some n→n <m+f
 |0,_,_,h=>by cases h
 |f+1,m,n,h=>by
  simp only[uqN] at h
  cases hd:decide (0 <(Ed rs to m a []).length) with
  |true=>rw[hd] at h;simp only[cond_true,Option.some.injEq] at h;omega
  |false=>rw[hd] at h;simp only[cond_false] at h;have:=aqn h;omega
theorem nOf{w:ByteArray}(hw:rK w):du zT 247 [.string w] ro (.string (keyOf w)):=by
 refine zE<|zD 12<|jn fun r7=>zD 2<|dw [1,1,0,1,0,0] [] (fun(zz:Nat×ByteArray)=>[(2,.string (bs [])),(3,.string zz.2),(7,zP r7)]) (fun zz=>[.b r7 (.stringIter w zz.1)]) (fun zz=>(zz.1≤w.data.toList.length∧zz.2.size≤2*zz.1)∧keyOf w=JF (w.data.toList.drop zz.1) zz.2) (fun zz=>w.data.toList.length-zz.1) (⟨0,(bs [])⟩) ⟨⟨by omega,Nat.le_refl _⟩,rfl⟩ [0] ?_
 rintro⟨p,a⟩ hI K1 bG rest
 dsimp only at hI
 refine zD 2 ?_
 cases hn8:w.data.toList[p]? with
 |some x8=>
  refine jnA r7 0 hn8 (avq (hw.let _ (zL hn8)))<|zD 11 ?_
  have hso:=Qc (hw.let _ (zL hn8))
  have hlen:w.data.toList.length=w.size:=Array.length_toList
  have hwn:=hw.n
  refine zD 3<|jp (vs:=[.int .i32 (x8.toNat:Int)]) [] [] (fun aG hs hZ=>(au9 (hw.let _ (zL hn8))))<|jsa (a:=a) (b:=(jE x8)) 9 (by omega)<|zD 2<|bF bG (⟨p+1,(a++jE x8)⟩) ⟨⟨by have:=(List.getElem?_eq_some_iff.1 hn8).1;dsimp only;omega,by dsimp only;rw[ByteArray.size_append];omega⟩,by rw[hI.2,anR hn8]⟩ (by have:=(List.getElem?_eq_some_iff.1 hn8).1;dsimp only;omega) [0] (Sub.refl _)
 |none=>
  refine jnZ r7 0 hn8<|zD 11<|zX (.string a) ⟨by rw[hI.2,agF hn8],rfl⟩
theorem anv(hl:bB ro vl 2 iG rs)(hR:∀r∈rs,rJ r)(hq:rs.length≤4)(Fu:rK na)(CX:rK nb):dG zT 209 [vl,.string na,.string nb] ro [] (fun r Y=>∃v ps e,r= .tuple ⟨[v,zI e]⟩∧aw v 1 9 pQ ps Y∧ps.length≤3∧((e=0∧uq rs (keyOf na) (keyOf nb)=some (ps.length-1)∧1≤ps.length)∨(e=11∧uq rs (keyOf na) (keyOf nb)=none))):=by
 obtain⟨fy,rX,rV,eO,rfl,tT,lN,mC⟩:=hl
 refine zE<|zD 9<|jp (vs:=[.slice fy rs.length eO]) [] [] (fun aG hs hZ=>abu ((show bB _ _ _ _ _ from ⟨fy,rX,rV,eO,rfl,tT,lN,mC⟩).up hs) (by omega) hR)<|zD 14<|jn fun IM=>jp (vs:=[.slice (some ⟨IM,0,none⟩) 2 2]) [0] [(IM,.cells ⟨([na,nb].map pQ).flatten⟩ 9 (0,0))] (fun aG hs hZ=>af6 (bU [na,nb] hZ.head (by intro p hp;rfl)) (by first|omega| (simp only[List.length_set,zM];omega)) (by intro x hx;simp only[List.mem_cons,List.not_mem_nil,or_false] at hx;rcases hx with rfl|rfl;exact⟨Fu.n,Fu.s⟩;exact⟨CX.n,CX.s⟩)) ?_
 refine zD 12<|jp (vs:=[.string na]) [] [] (fun aG hs hZ=>(nOf Fu))<|zD 2<|jp (vs:=[.string nb]) [] [] (fun aG hs hZ=>(nOf CX))<|jc (vs:=[.string (keyOf na),.slice fy rs.length eO,.string (keyOf nb)]) [] (avc (show bB _ _ _ _ _ from ⟨fy,rX,rV,eO,rfl,tT,lN,mC⟩) hR (Rp Fu).1 (by have:=(Rp Fu).2;omega) (by omega)) ?_
 rintro _ L30 ⟨v30,aOG,aPa,rfl,uv,av4,aP2⟩
 refine zD 12<|js 34 (!aPa) (fun h1=>?_) (fun h1=>?_)
 ·
  try simp only[zB] at h1
  refine zD 7<|zX (.tuple ⟨[zS,zI 11]⟩) ⟨_,[],_,rfl,aw.nil _ _ _,by simp,.inr ⟨rfl,aP2 (by simp_all)⟩⟩
 try simp only[zB] at h1
 refine zD 9<|zR (.tuple ⟨[v30,zI 0]⟩) [] [0] L30 ⟨_,aOG,_,rfl,uv,by have:=aqn (av4 (by simp_all)).1;have:=(av4 (by simp_all)).2;omega,.inl ⟨rfl,av4 (by simp_all)⟩⟩
theorem aD4(hl:bB ro vl 2 iG rs)(hR:∀r∈rs,rJ r)(hq:rs.length≤4)(Fu:rK na)(CX:rK nb):du zT 144 [vl,.string na,.string nb] ro (.tuple ⟨[zI (uN rs (keyOf na) (keyOf nb)),zI (uE rs (keyOf na) (keyOf nb))]⟩):=by
 obtain⟨fy,rX,rV,eO,rfl,tT,lN,mC⟩:=hl
 refine zE<|zD 10<|jc (vs:=[.slice fy rs.length eO,.string na,.string nb]) [] (anv (show bB _ _ _ _ _ from ⟨fy,rX,rV,eO,rfl,tT,lN,mC⟩) hR hq Fu CX) ?_
 rintro _ L14 ⟨v14,aDE,Oo,rfl,VB,bdS,tt⟩
 refine zD 12<|js 18 (!decide (Oo=0)) (fun h1=>?_) (fun h1=>?_)
 ·
  replace h1:=of_decide_eq_false (by simpa using h1)
  refine zD 8<|zX (.tuple ⟨[zI 0,zI Oo]⟩) ⟨by rcases tt with ⟨h1,h2,h3⟩| ⟨h1,h2⟩<;>simp only[uN,uE,h2]<;>(subst h1;simp_all<;>omega),rfl⟩
 replace h1:=of_decide_eq_true (by simpa using h1)
 refine zD 5<|BQ VB<|ja ((aDE.length:Int)-1) (by omega)<|zD 4<|zX (.tuple ⟨[zI ((aDE.length:Int)-1),zI 0]⟩) ⟨by rcases tt with ⟨h1,h2,h3⟩| ⟨h1,h2⟩<;>simp only[uN,uE,h2]<;>(subst h1;simp_all<;>omega),rfl⟩
theorem Q5(hl:bB ro vl 2 iG rs)(hR:∀r∈rs,rJ r)(hq:rs.length≤4)(Fu:rK na)(CX:rK nb):du zT 109 [vl,.string na,.string nb] ro (.tuple ⟨[zI (vD rs na nb),zI 0]⟩):=by
 obtain⟨fy,rX,rV,eO,rfl,tT,lN,mC⟩:=hl
 refine zE<|zD 10<|jp (vs:=[.slice fy rs.length eO,.string na,.string nb]) [] [] (fun aG hs hZ=>aD4 ((show bB _ _ _ _ _ from ⟨fy,rX,rV,eO,rfl,tT,lN,mC⟩).up hs) hR hq Fu CX)<|zD 14<|zJ 17 ((uE rs (keyOf na) (keyOf nb))=11) (fun h1=>?_) fun h1=>?_
 ·
  refine zD 7<|zX (.tuple ⟨[zI 2,zI 0]⟩) ⟨by simp only[uN,uE,vD] at*;rcases huq:uq rs (keyOf na) (keyOf nb) with _|_|n<;>simp_all<;>omega,rfl⟩
 refine zD 7<|js 20 (!decide ((uE rs (keyOf na) (keyOf nb))=0)) (fun h2=>?_) (fun h2=>?_)
 ·
  replace h2:=of_decide_eq_false (by simpa using h2)
  refine zD 8<|zX (.tuple ⟨[zI 0,zI (uE rs (keyOf na) (keyOf nb))]⟩) ⟨by simp only[uN,uE,vD] at*;rcases huq:uq rs (keyOf na) (keyOf nb) with _|_|n<;>simp_all<;>omega,rfl⟩
 replace h2:=of_decide_eq_true (by simpa using h2)
 refine zD 7<|zJ 24 ((uN rs (keyOf na) (keyOf nb))=0) (fun h3=>?_) fun h3=>?_
 ·
  refine zD 7<|zX (.tuple ⟨[zI 1,zI 0]⟩) ⟨by simp only[uN,uE,vD] at*;rcases huq:uq rs (keyOf na) (keyOf nb) with _|_|n<;>simp_all<;>omega,rfl⟩
 refine zD 8<|zX (.tuple ⟨[zI 3,zI 0]⟩) ⟨by simp only[uN,uE,vD] at*;rcases huq:uq rs (keyOf na) (keyOf nb) with _|_|n<;>simp_all<;>omega,rfl⟩
abbrev uX(x:Int):List Value:=[.int .u8 x]
structure bD where
 c:Nat→Nat→Bool
abbrev Bt(x:bD):List Value:=[.bool (x.c 0 0),.bool (x.c 0 1),.bool (x.c 0 2),.bool (x.c 0 3),.bool (x.c 1 0),.bool (x.c 1 1),.bool (x.c 1 2),.bool (x.c 1 3),.bool (x.c 2 0),.bool (x.c 2 1),.bool (x.c 2 2),.bool (x.c 2 3),.bool (x.c 3 0),.bool (x.c 3 1),.bool (x.c 3 2),.bool (x.c 3 3)]
def mO(cs:List bN):Nat→List Int
 |0=>[]
 |k+1=>mO cs k++[match cs[k]? with
  |some c=>if 0≤c.under then Ly .u8 (Ly .u8 0 (dz .u8 1 k)) ((mO cs k)[c.under.toNat]?.getD 0) else Ly .u8 0 (dz .u8 1 k)
  |none=>0]
theorem oK(cs:List bN):∀k,(mO cs k).length=k
 |0=>rfl
 |k+1=>by simp[mO,oK cs k]
theorem apE{c:bN}{y:Int}(h:cs[k]?=some c) (hu:0≤c.under) (hy:(mO cs k)[c.under.toNat]?=some y):mO cs (k+1)=mO cs k++[Ly .u8 (Ly .u8 0 (dz .u8 1 k)) y]:=by
 simp only[mO,h,if_pos hu,hy,Option.getD_some]
theorem apF{c:bN}(h:cs[k]?=some c) (hu:¬0≤c.under):mO cs (k+1)=mO cs k++[Ly .u8 0 (dz .u8 1 k)]:=by
 simp only[mO,h,if_neg hu]
def ags(s:Int):Nat→Int
 |0=> -1
 |k+1=>bif hasB s k then k else ags s k
def Hb(cs:List bN)(a b:Int):Int:=ags (Vg .u8 ((mO cs cs.length)[a.toNat]?.getD 0) ((mO cs cs.length)[b.toNat]?.getD 0)) cs.length
def ZR(hd:List cA)(h:Int):Int:=match hd[h.toNat]? with
 |some x=>x.cls
 |none=>0
def mP(K:aC)(x y:aB):Bool:=decide (vD K.rules x.name y.name=2)
def qK(K:aC)(x y:aB):Bool:=if (x.head <0∨y.head <0)∨x.head=y.head then false else decide (Hb K.cs (ZR K.hd x.head) (ZR K.hd y.head) <0)
def xW(on:Int)(a b:Int):List bM→Nat→Bool
 | [],_=>false
 |x::l,k=>(((hasB on k&&decide (x.a=a))&&decide (x.b=b))&& !x.same)||xW on a b l (k+1)
def dc(K:aC)(on:Int)(a b:Nat):Bool:=match K.before[a]?,K.after[b]? with
 |some x,some y=> !mP K x y&&(!qK K x y&& !xW on a b K.facts 0)
 |_,_=>false
structure ee(K:aC):Prop where
 rules:K.rules.length≤4∧∀r∈K.rules,rJ r
 before:K.before.length≤4∧∀p∈K.before,rK p.name∧nX K.hd p.head
 after:K.after.length≤4∧∀p∈K.after,rK p.name∧nX K.hd p.head
 c8:lK K.cs K.hd
 facts:K.facts.length≤4∧∀x∈K.facts,(0≤x.a∧x.a <K.before.length)∧(0≤x.b∧x.b <K.after.length)
def nY(ro:Nat→Option Obj)(f:Nat)(K:aC)(rows:List bD):Prop:=∃(c0 c1 c2 vc vh vr vb va vf vt:Value) (hv:List bx),
 ro f=some (.cells ⟨[c0,c1,c2,vc,vh,vr,vb,va,zI K.gone,zI K.new,zI K.af,vf,vt]⟩ 165 (0,0))∧jh ro vc vh K.cs hv K.hd∧de dq hv K.hd∧
 bB ro vr 2 iG K.rules∧bB ro vb 5 eC K.before∧bB ro va 5 eC K.after∧bB ro vf 3 mY K.facts∧bB ro vt 16 Bt rows
theorem nY.up{aD:Nat→Option Obj}{rows:List bD}(h:nY ro f K rows)(hs:Sub ro aD):nY aD f K rows:=by
 obtain⟨c0,c1,c2,vc,vh,vr,vb,va,vf,vt,hv,h1,h2,h3,h4,h5,h6,h7,h8⟩:=h
 exact⟨c0,c1,c2,vc,vh,vr,vb,va,vf,vt,hv,hs _ _ h1,h2.up hs,h3,h4.up hs,h5.up hs,h6.up hs,h7.up hs,h8.up hs⟩
theorem aMN{f i:Int}(hi:0≤i∧i≤8):du zT 147 [.int .u8 f,zI i] ro (.bool (hasB f i)):=by
 refine zE<|zD 8<|jsr (k:= .u8) (k':= .i64) (a:=f) (b:=i) 251 (by omega)<|zD 5<|zX (.bool (decide ((Vg .u8 (aT .u8 f i) 1)=1))) ⟨rfl,rfl⟩
theorem aBX{f i:Int}(hi:0≤i∧i≤8):du zT 210 [.int .u8 f,zI i] ro (.int .u8 (Ly .u8 f (dz .u8 1 i))):=by
 refine zE<|zD 8<|jsh (k:= .u8) (k':= .i64) (a:=1) (b:=i) 251 (by omega)<|zD 4<|zX (.int .u8 (Ly .u8 f (dz .u8 1 i))) ⟨rfl,rfl⟩
theorem atO{hv:List bx}(hR:jh ro vc vh cs hv hd)(nn:de dq hv hd)(hT:lK cs hd):dG zT 145 [.agg ⟨[vc,vh]⟩] ro [] (fun r Y=>∃b vS LS vE,r= .tuple ⟨[zP b,zI 0]⟩∧aw vS 1 251 uX (mO cs cs.length) LS∧Y=(b,.cells ⟨[vc,vh,vS,vE]⟩ 255 (0,0))::LS):=by
 obtain⟨hc,hh,di⟩:=id hR
 obtain⟨eo,AO,AN,dX,rfl,DK,yP,yO⟩:=hc
 obtain⟨dJ,u5,u4,dv,rfl,xq,qX,qW⟩:=hh
 have DX:=hT.nc
 have hnh:=hT.nh
 have hlen:=nn.len
 refine zE<|zD 2<|jn fun b1=>jd 7 [0]<|jp (vs:=[.agg ⟨[.slice eo cs.length dX,.slice dJ hv.length dv]⟩]) [] [] (fun aG hs hZ=>(XF (hR.up hs) nn hT))<|jd 13 [0]<|jn fun z0=>jd 11 [1]<|nI<|dw [1,1,1,0,1,0,0] [] (fun(zz:Nat×Value×Cells)=>[(1,zP b1),(2,.pointer none),(3,zI 0),(5,zP z0),(20,.slice eo cs.length dX),(21,zI (cs.length:Int)),(22,zI (zz.1:Int))]) (fun zz=>[.l zz.2.2,.b z0 (.cells ⟨[.slice eo cs.length dX,.slice dJ hv.length dv,zz.2.1,zS]⟩ 255 (0,0)),.b b1 (.cells ⟨[.slice eo cs.length dX,.slice dJ hv.length dv]⟩ 33 (0,0))]) (fun zz=>zz.1≤cs.length∧aw zz.2.1 1 251 uX (mO cs zz.1) zz.2.2) (fun zz=>cs.length-zz.1) (⟨0,zS,[]⟩) ⟨by dsimp only;omega,aw.nil _ _ _⟩ [0,1,2] ?_
 rintro⟨k,vS,LS⟩ hI K1 bG rest
 dsimp only at hI
 refine zD 5<|zJ 23 ((k:Int) <(cs.length:Int)) (fun h1=>?_) fun h1=>?_
 ·
  refine zD 7 ?_
  obtain⟨xf,ju⟩:=zG cs k
  refine gX dX 2 yP ju<|jl 0 (yO _ _ ju)<|jn fun b7=>jd 4 [0] ?_
  have iM:=hT.cls _ _ ju
  have Hq:=oK cs k
  refine zD 2<|jp (vs:=[.int .u8 0,zI (k:Int)]) [] [] (fun aG hs hZ=>(aBX (by omega)))<|jd 9 [0]<|zJ 31 (xf.under≥0) (fun h2=>?_) fun h2=>?_
  ·
   refine jd 9 [2,0] ?_
   obtain⟨BO,oC⟩:=zG ((mO cs k)) (xf.under.toNat) (by first|omega| (simp only[List.length_set,zM];omega))
   refine mW xf.under 1 hI.2 oC (Int.toNat_of_nonneg (show 0≤xf.under∧xf.under <(((mO cs k)).length:Int) from (by have:=iM.2;simp only[oK];omega)).1).symm (fun b39 ax3=>?_)
   refine ki 0 [1] LS (fun s _ hZ=>bh hI.2 ax3 hZ oC)<|jd 10 [2]<|jn fun b48=>iK (sz:=1) (ps:=(mO cs k)) (qs:=[(Ly .u8 (Ly .u8 0 (dz .u8 1 (k:Int))) BO)]) (enc:=uX) (w:= .slice (some ⟨b48,0,none⟩) 1 1) [2] [0] [(b48,.cells ⟨([(Ly .u8 (Ly .u8 0 (dz .u8 1 (k:Int))) BO)].map uX).flatten⟩ 251 (0,0))] (hI.2) (fun s _ hZ=>bV [(Ly .u8 (Ly .u8 0 (dz .u8 1 (k:Int))) BO)] (hZ _ (.head _)) (by intro p hp;rfl)) (fun p _=>ai rfl) (by simp only[oK,List.length_cons,List.length_nil];omega) (fun v49 L49 Hw=>?_)
   obtain⟨ad6,adZ,VL⟩:=Hw.form
   subst VL
   refine jd 5 [3]<|ja ((k:Int)+1) (by omega)<|zD 2<|bF bG (⟨k+1,(.slice ad6 (((mO cs k)++[(Ly .u8 (Ly .u8 0 (dz .u8 1 (k:Int))) BO)])).length adZ),L49⟩) ⟨by dsimp only;omega,by rw[apE ju (by omega) oC];exact Hw⟩ (by dsimp only;omega) [0,3,4] (Sub.refl _)
  refine jd 9 [2]<|jn fun b48=>iK (sz:=1) (ps:=(mO cs k)) (qs:=[(Ly .u8 0 (dz .u8 1 (k:Int)))]) (enc:=uX) (w:= .slice (some ⟨b48,0,none⟩) 1 1) [2] [0] [(b48,.cells ⟨([(Ly .u8 0 (dz .u8 1 (k:Int)))].map uX).flatten⟩ 251 (0,0))] (hI.2) (fun s _ hZ=>bV [(Ly .u8 0 (dz .u8 1 (k:Int)))] (hZ _ (.head _)) (by intro p hp;rfl)) (fun p _=>ai rfl) (by simp only[oK,List.length_cons,List.length_nil];omega) (fun v49 L49 Hw=>?_)
  obtain⟨ad6,adZ,VL⟩:=Hw.form
  subst VL
  refine jd 5 [3]<|ja ((k:Int)+1) (by omega)<|zD 2<|bF bG (⟨k+1,(.slice ad6 (((mO cs k)++[(Ly .u8 0 (dz .u8 1 (k:Int)))])).length adZ),L49⟩) ⟨by dsimp only;omega,by rw[apF ju (by omega)];exact Hw⟩ (by dsimp only;omega) [0,3,4] (Sub.refl _)
 refine jd 11 [2]<|nI<|dw [1,1,1,1,0,1,0,0] [] (fun(zz:Nat×Value×Cells×(List Value))=>[(2,.pointer none),(3,zI 0),(5,zP z0),(54,.slice dJ hv.length dv),(55,zI (hv.length:Int)),(56,zI (zz.1:Int))]) (fun zz=>[.l zz.2.2.1,.b z0 (.cells ⟨[.slice eo cs.length dX,.slice dJ hv.length dv,vS,zz.2.1]⟩ 255 (0,0)),.l LS,.b b1 (.cells ⟨[.slice eo cs.length dX,.slice dJ hv.length dv]⟩ 33 (0,0))]) (fun zz=>(zz.1≤hv.length∧zz.2.2.2.length≤zz.1)∧aw zz.2.1 1 468 fw zz.2.2.2 zz.2.2.1) (fun zz=>hv.length-zz.1) (⟨0,zS,[],[]⟩) ⟨⟨by omega,Nat.le_refl _⟩,aw.nil _ _ _⟩ [0,2,1,3] ?_
 rintro⟨j,vE,LE,es⟩ hJ K2 jV rest
 dsimp only at hJ
 refine zD 5<|zJ 57 ((j:Int) <(hv.length:Int)) (fun h3=>?_) fun h3=>?_
 ·
  refine zD 6 ?_
  obtain⟨FM,aom⟩:=zG hv j
  refine gX dv 4 qX aom<|jl 0 (qW _ _ aom)<|jn fun pf=>jsx 0 pf 0 [.string ByteArray.empty,zI 0,zI 0,zS] [.string FM.word,zI FM.cls,zI FM.ou,FM.dV] 173 (mH di _ (zL aom)) rfl<|zD 3 ?_
  obtain⟨y58,bcR,aQW⟩:=di.get aom
  obtain⟨fy,rX,rV,eO,hqe,tT,lN,mC⟩:=aQW.2.2.2
  refine jmw 0 [.b pf (.cells ⟨[.string FM.word,zI FM.cls,zI FM.ou,.slice fy y58.dV.length eO]⟩ 173 (0,0))] (L:=[(pf,.cells ⟨[.string FM.word,zI FM.cls,zI FM.ou,FM.dV]⟩ 173 (0,0))]) (by rw[hqe];rfl) ?_
  refine jd 6 [0]<|js 73 (!decide (FM.ou=(-1))) (fun h4=>?_) (fun h4=>?_)
  ·
   replace h4:=of_decide_eq_false (by simpa using h4)
   refine jd 11 [2,0]<|aS 9 fun oP oR nK=>jn fun b86=>eG nK (zN 1 5)<|aS 10 fun qU qV pK=>iK (sz:=1) (ps:=es) (qs:=[(.iface 313 (.agg ⟨[zI FM.ou]⟩):Value)]) (enc:=fw) (w:= .slice (some ⟨b86,0,none⟩) 1 1) [2] [0] [(b86,.cells ⟨([(.iface 313 (.agg ⟨[zI FM.ou]⟩):Value)].map fw).flatten⟩ 468 (0,0))] (hJ.2) (fun s _ hZ=>bV [(.iface 313 (.agg ⟨[zI FM.ou]⟩):Value)] (hZ _ (.head _)) (by intro p hp;rfl)) (by intro p hp;rw[List.mem_singleton] at hp;subst hp;exact ai rfl) (by simp only[List.length_cons,List.length_nil];omega) (fun v87 L87 ahD=>?_)
   obtain⟨aMh,aLX,aSl⟩:=ahD.form
   subst aSl
   refine gx pK [[2]]<|zD 2<|aS 13 fun yz yF zh=>jd 1 [3]<|gx zh []<|zD 2<|ja ((j:Int)+1) (by omega)<|zD 2<|bF jV (⟨j+1,(.slice aMh ((es++[(.iface 313 (.agg ⟨[zI FM.ou]⟩):Value)])).length aLX),L87,(es++[(.iface 313 (.agg ⟨[zI FM.ou]⟩):Value)])⟩) ⟨⟨by dsimp only;omega,by simp only[zM];omega⟩,ahD⟩ (by dsimp only;omega) [0,3,4,5] (Sub.refl _)
  replace h4:=of_decide_eq_true (by simpa using h4)
  refine jd 8 [0]<|js 90 (!decide (FM.cls=(-1))) (fun h8=>?_) (fun h8=>?_)
  ·
   replace h8:=of_decide_eq_false (by simpa using h8)
   refine jd 13 [2,0,0]<|aS 11 fun aap aaD V5=>jn fun aI1=>eG V5 (zN 1 5)<|aS 12 fun ady aej N1=>iK (sz:=1) (ps:=es) (qs:=[(.iface 315 (.agg ⟨[zI FM.cls,.slice fy y58.dV.length eO]⟩):Value)]) (enc:=fw) (w:= .slice (some ⟨aI1,0,none⟩) 1 1) [2] [0] [(aI1,.cells ⟨([(.iface 315 (.agg ⟨[zI FM.cls,.slice fy y58.dV.length eO]⟩):Value)].map fw).flatten⟩ 468 (0,0))] (hJ.2) (fun s _ hZ=>bV [(.iface 315 (.agg ⟨[zI FM.cls,.slice fy y58.dV.length eO]⟩):Value)] (hZ _ (.head _)) (by intro p hp;rfl)) (by intro p hp;rw[List.mem_singleton] at hp;subst hp;exact ai rfl) (by simp only[List.length_cons,List.length_nil];omega) (fun baI aWe Zg=>?_)
   obtain⟨aBs,aBl,aGE⟩:=Zg.form
   subst aGE
   refine gx N1 [[2],[2]]<|zD 2<|aS 15 fun aao aaC hL8=>jd 1 [3]<|gx hL8 []<|zD 2<|ja ((j:Int)+1) (by omega)<|zD 2<|bF jV (⟨j+1,(.slice aBs ((es++[(.iface 315 (.agg ⟨[zI FM.cls,.slice fy y58.dV.length eO]⟩):Value)])).length aBl),aWe,(es++[(.iface 315 (.agg ⟨[zI FM.cls,.slice fy y58.dV.length eO]⟩):Value)])⟩) ⟨⟨by dsimp only;omega,by simp only[zM];omega⟩,Zg⟩ (by dsimp only;omega) [0,3,4,5] (Sub.refl _)
  replace h8:=of_decide_eq_true (by simpa using h8)
  refine jd 11 [2,0]<|aS 9 fun TX Ub Sn=>jn fun b69=>eG Sn (zN 1 5)<|aS 10 fun FI Ge wC=>iK (sz:=1) (ps:=es) (qs:=[(.iface 317 (.agg ⟨[.slice fy y58.dV.length eO]⟩):Value)]) (enc:=fw) (w:= .slice (some ⟨b69,0,none⟩) 1 1) [2] [0] [(b69,.cells ⟨([(.iface 317 (.agg ⟨[.slice fy y58.dV.length eO]⟩):Value)].map fw).flatten⟩ 468 (0,0))] (hJ.2) (fun s _ hZ=>bV [(.iface 317 (.agg ⟨[.slice fy y58.dV.length eO]⟩):Value)] (hZ _ (.head _)) (by intro p hp;rfl)) (by intro p hp;rw[List.mem_singleton] at hp;subst hp;exact ai rfl) (by simp only[List.length_cons,List.length_nil];omega) (fun v70 L70 ahG=>?_)
  obtain⟨aMk,aL0,aSo⟩:=ahG.form
  subst aSo
  refine gx wC [[2]]<|zD 2<|aS 13 fun FH Gd zk=>jd 1 [3]<|gx zk []<|zD 2<|ja ((j:Int)+1) (by omega)<|zD 2<|bF jV (⟨j+1,(.slice aMk ((es++[(.iface 317 (.agg ⟨[.slice fy y58.dV.length eO]⟩):Value)])).length aL0),L70,(es++[(.iface 317 (.agg ⟨[.slice fy y58.dV.length eO]⟩):Value)])⟩) ⟨⟨by dsimp only;omega,by simp only[zM];omega⟩,ahG⟩ (by dsimp only;omega) [0,3,4,5] (Sub.refl _)
 refine zD 9<|zR (.tuple ⟨[zP z0,zI 0]⟩) [] [1,2] ((z0,.cells ⟨[.slice eo cs.length dX,.slice dJ hv.length dv,vS,vE]⟩ 255 (0,0))::LS) ⟨_,_,LS,_,rfl,by have:=hI.2;rwa[show k=cs.length by omega] at this,rfl⟩
theorem Yw{s:Int}{j:Int}(h:0≤j):ags s (j+1).toNat=bif hasB s j then j else ags s j.toNat:=by
 obtain⟨m,rfl⟩:=Int.eq_ofNat_of_zero_le h
 rfl
theorem XN{on a b:Int}{l:List bM}{x:bM}(h:l[k]?=some x):xW on a b (l.drop k) k=((((hasB on k&&decide (x.a=a))&&decide (x.b=b))&& !x.same)||xW on a b (l.drop (k+1)) (k+1)):=by rw[eE h];rfl
theorem aeN{on a b:Int}{l:List bM}(h:¬k <l.length):xW on a b (l.drop k) k=false:=by rw[eA h];rfl
theorem Zr{hv:List bx}{h:Int}{x:bx}(hS:de dq hv hd)(hT:lK cs hd)(hk:nX hd h)(h0:0≤h)(hx:hv[h.toNat]?=some x):ZR hd h=x.cls∧0≤x.cls∧x.cls <cs.length:=by
 obtain⟨y,hy,hs⟩:=hS.get hx
 rcases hk with rfl| ⟨_,z,hz,hc⟩
 ·omega
 rw[hy] at hz;cases hz
 have:=(hT.Bc _ _ hy).2.1
 exact⟨by simp[ZR,hy,hs.2.1],hs.2.1▸hc,by rw[hs.2.1];exact this.2⟩
theorem Zq{hv:List bx}{h:Int}(hS:de dq hv hd)(hk:nX hd h)(h0:0≤h):h <hv.length:=by
 rcases hk with rfl| ⟨_,z,hz,_⟩
 ·omega
 have:=(List.getElem?_eq_some_iff.1 hz).1
 rw[hS.len];omega
theorem atF{hv:List bx}{a b:Int}(hR:jh ro vc vh cs hv hd)(nn:de dq hv hd)(hT:lK cs hd)(ha:0≤a∧a <cs.length)(hb:0≤b∧b <cs.length):du zT 110 [.agg ⟨[vc,vh]⟩,zI a,zI b] ro (.tuple ⟨[zI (Hb cs a b),zI 0]⟩):=by
 obtain⟨hc,hh,di⟩:=id hR
 obtain⟨eo,AO,AN,dX,rfl,DK,yP,yO⟩:=hc
 obtain⟨dJ,u5,u4,dv,rfl,xq,qX,qW⟩:=hh
 have DX:=hT.nc
 have hnh:=hT.nh
 have hlen:=nn.len
 have Hq:=oK cs cs.length
 refine zE<|zD 2<|jn fun b3=>jd 6 [0]<|jc (vs:=[.agg ⟨[.slice eo cs.length dX,.slice dJ hv.length dv]⟩]) [] (atO hR nn hT) ?_
 rintro _ _ ⟨bT,vS,LS,vE,rfl,hS,rfl⟩
 refine jg 0 [.b bT (.cells ⟨[.slice eo cs.length dX,.slice dJ hv.length dv,vS,vE]⟩ 255 (0,0)),.l LS]<|zD 5<|jf [0,1] ((bT,.cells ⟨[.slice eo cs.length dX,.slice dJ hv.length dv,vS,vE]⟩ 255 (0,0))::LS) (fun yN bZ iL=>?_)
 have hSS:=hS.jF iL.tail
 obtain⟨aDc,bby,bbw,amZ,rfl,bbx,aDb,aDa⟩:=hSS
 refine jd 17 [0]<|ja ((cs.length:Int)-1) (by omega)<|jp (vs:=[zI a,zI 0,zI ((cs.length:Int)-1)]) [] [] (fun aG hs hZ=>jb)<|zD 3<|js 20 (!(iI a 0 ((cs.length:Int)-1))) (fun h4=>?_) (fun h4=>?_)
 ·
  try simp only[zB] at h4
  exfalso;simp only[iI,Bool.not_eq_true',Bool.and_eq_false_iff,decide_eq_false_iff_not] at h4;omega
 try simp only[zB] at h4
 refine jd 6 [0]<|ja ((cs.length:Int)-1) (by omega)<|jp (vs:=[zI b,zI 0,zI ((cs.length:Int)-1)]) [] [] (fun aG hs hZ=>jb)<|zD 3<|js 20 (!(iI b 0 ((cs.length:Int)-1))) (fun h5=>?_) (fun h5=>?_)
 ·
  try simp only[zB] at h5
  exfalso;simp only[iI,Bool.not_eq_true',Bool.and_eq_false_iff,decide_eq_false_iff_not] at h5;omega
 try simp only[zB] at h5
 refine jd 8 [0]<|ja ((cs.length:Int)-1) (by omega)<|zD 3<|dw [1,1,1,0,1,0,0] [] (fun(zz:Int)=>[(1,zI a),(2,zI b),(8,zP bT),(10,zI zz)]) (fun zz=>[.b b3 (.cells ⟨[.slice eo cs.length dX,.slice dJ hv.length dv]⟩ 33 (0,0))]) (fun zz=>(-1≤zz∧zz <cs.length)∧Hb cs a b=ags (Vg .u8 ((mO cs cs.length)[a.toNat]?.getD 0) ((mO cs cs.length)[b.toNat]?.getD 0)) (zz+1).toNat) (fun zz=>(zz+1).toNat) ((cs.length:Int)-1) ⟨by omega,by rw[Hb,show ((cs.length:Int)-1+1).toNat=cs.length by omega]⟩ [0] ?_
 rintro j hI K1 bG rest
 refine zD 6<|zJ 40 (j≥0) (fun h6=>?_) fun h6=>?_
 ·
  refine zD 9<|jl (b:=bT) (off:=0) (m:=4) (vs:=[.slice eo cs.length dX,.slice dJ hv.length dv,.slice aDc ((mO cs cs.length).length) amZ,vE]) 2 ⟨_,_,_,.inl (iL _ (.head _)),rfl⟩<|zD 1 ?_
  obtain⟨x48,Hk⟩:=zG ((mO cs cs.length)) (a.toNat) (by simp only[oK];omega)
  refine I4 a amZ 1 aDb Hk (Int.toNat_of_nonneg (show 0≤a∧a <(((mO cs cs.length)).length:Int) from (by simp only[oK];omega)).1).symm ?_
  refine jl 0 (aDa _ _ Hk)<|zD 3<|jl (b:=bT) (off:=0) (m:=4) (vs:=[.slice eo cs.length dX,.slice dJ hv.length dv,.slice aDc ((mO cs cs.length).length) amZ,vE]) 2 ⟨_,_,_,.inl (iL _ (.head _)),rfl⟩<|zD 1 ?_
  obtain⟨x55,aon⟩:=zG ((mO cs cs.length)) (b.toNat)
  refine I4 b amZ 1 aDb aon (by omega)<|jl 0 (aDa _ _ aon)<|zD 2<|jp (vs:=[.int .u8 (Vg .u8 x48 x55),zI j]) [] [] (fun aG hs hZ=>(aMN (by omega)))<|zD 1<|js 59 (hasB (Vg .u8 x48 x55) j) (fun h7=>?_) (fun h7=>?_)
  ·
   refine zD 8<|aK q0.a (.tuple ⟨[zI j,zI 0]⟩) [] [] [] bZ ⟨_,_,rfl,rfl,by rw[hI.2,Yw (by omega),Hk,aon,Option.getD_some,Option.getD_some,show hasB _ _=true from (by assumption)];rfl,rfl⟩
  refine zD 4<|ja (j-1) (by omega)<|zD 2<|bF bG (j-1) ⟨by omega,by rw[hI.2,Yw (by omega),Hk,aon,Option.getD_some,Option.getD_some,show hasB _ _=false from (by assumption),show j-1+1=j by omega];rfl⟩ (by omega) [0] (Sub.refl _)
 refine zD 8<|aK q0.a (.tuple ⟨[zI (-1),zI 0]⟩) [] [] [] bZ ⟨_,_,rfl,rfl,by rw[hI.2,show j= -1 by omega];rfl,rfl⟩
theorem aEv:du zT 195 [] ro (.agg ⟨[.iface 348 (.agg ⟨[]⟩),.iface 349 (.agg ⟨[]⟩),.iface 350 (.agg ⟨[]⟩)]⟩):=by
 refine zE<|zD 2<|jn fun b0=>jd 13 [0]<|zR (.agg ⟨[.iface 348 (.agg ⟨[]⟩),.iface 349 (.agg ⟨[]⟩),.iface 350 (.agg ⟨[]⟩)]⟩) [0] [] [] ⟨rfl,rfl⟩
theorem avy{rows:List bD}{a:Nat}{x:aB}{on:Int}(hF:nY ro f K rows)(hV:ee K)(ha:K.before[a]?=some x) (hb:K.after[b]?=some y):du zT 371 [.agg ⟨[]⟩,zP f,zI (a:Int),zI (b:Int),.int .u8 on] ro (.bool (mP K x y)):=by
 obtain⟨c0,c1,c2,vc,vh,vr,vb,va,vf,vt,hv,hf,pY,nn,hr,C3,HR,JU,bW⟩:=id hF
 obtain⟨hc,hh,di⟩:=id pY
 obtain⟨eo,AO,AN,dX,rfl,DK,yP,yO⟩:=hc
 obtain⟨dJ,u5,u4,dv,rfl,xq,qX,qW⟩:=hh
 obtain⟨kZ,I1,I0,kY,rfl,O4,GD,GC⟩:=hr
 obtain⟨kI,Jy,Jw,jP,rfl,Jx,Ez,Ey⟩:=C3
 obtain⟨kJ,JB,Jz,jQ,rfl,JA,EB,EA⟩:=HR
 obtain⟨mj,UO,UL,lA,rfl,UN,M6,M5⟩:=JU
 obtain⟨nE,Ex,Ew,mV,rfl,Qp,M4,M3⟩:=bW
 have TK:=hV.rules.1
 have CX:=hV.before.1
 have Fu:=hV.after.1
 have hnf:=hV.facts.1
 have LV:=(List.getElem?_eq_some_iff.1 ha).1
 have HO:=(List.getElem?_eq_some_iff.1 hb).1
 refine zE<|zD 2<|jn fun b5=>zD 8<|jl (b:=f) (off:=0) (m:=13) (vs:=[c0,c1,c2,.slice eo K.cs.length dX,.slice dJ hv.length dv,.slice kZ K.rules.length kY,.slice kI K.before.length jP,.slice kJ K.after.length jQ,zI K.gone,zI K.new,zI K.af,.slice mj K.facts.length lA,.slice nE rows.length mV]) 5 ⟨_,_,_,.inl hf,rfl⟩<|zD 4<|jl (b:=f) (off:=0) (m:=13) (vs:=[c0,c1,c2,.slice eo K.cs.length dX,.slice dJ hv.length dv,.slice kZ K.rules.length kY,.slice kI K.before.length jP,.slice kJ K.after.length jQ,zI K.gone,zI K.new,zI K.af,.slice mj K.facts.length lA,.slice nE rows.length mV]) 6 ⟨_,_,_,.inl hf,rfl⟩<|zD 1 ?_
 obtain⟨xf,ju⟩:=zG K.before a
 refine gX jP 5 Ez ju<|zD 1<|jl 0 (Ey _ _ ju)<|zD 4<|jl (b:=f) (off:=0) (m:=13) (vs:=[c0,c1,c2,.slice eo K.cs.length dX,.slice dJ hv.length dv,.slice kZ K.rules.length kY,.slice kI K.before.length jP,.slice kJ K.after.length jQ,zI K.gone,zI K.new,zI K.af,.slice mj K.facts.length lA,.slice nE rows.length mV]) 7 ⟨_,_,_,.inl hf,rfl⟩<|zD 1 ?_
 obtain⟨x34,NL⟩:=zG K.after b
 refine gX jQ 5 EB NL<|zD 1<|jl 0 (EA _ _ NL)<|jp (vs:=[.slice kZ K.rules.length kY,.string xf.name,.string x34.name]) [] [] (fun aG hs hZ=>Q5 ((show bB _ _ _ _ _ from ⟨kZ,I1,I0,kY,rfl,O4,GD,GC⟩).up hs) hV.rules.2 TK (hV.before.2 _ (zL ju)).1 (hV.after.2 _ (zL NL)).1)<|zD 9<|jp (vs:=[zI 0]) [] [] (fun aG hs hZ=>A4)<|zD 8<|zX (.bool (decide ((vD K.rules xf.name x34.name)=2))) ⟨by rw[ha] at ju;cases ju;rw[hb] at NL;cases NL;rfl,rfl⟩
theorem ag3{rows:List bD}{a:Nat}{x:aB}{on:Int}(hF:nY ro f K rows)(hV:ee K)(ha:K.before[a]?=some x) (hb:K.after[b]?=some y):du zT 373 [.agg ⟨[]⟩,zP f,zI (a:Int),zI (b:Int),.int .u8 on] ro (.bool (qK K x y)):=by
 obtain⟨c0,c1,c2,vc,vh,vr,vb,va,vf,vt,hv,hf,pY,nn,hr,C3,HR,JU,bW⟩:=id hF
 obtain⟨hc,hh,di⟩:=id pY
 obtain⟨eo,AO,AN,dX,rfl,DK,yP,yO⟩:=hc
 obtain⟨dJ,u5,u4,dv,rfl,xq,qX,qW⟩:=hh
 obtain⟨kZ,I1,I0,kY,rfl,O4,GD,GC⟩:=hr
 obtain⟨kI,Jy,Jw,jP,rfl,Jx,Ez,Ey⟩:=C3
 obtain⟨kJ,JB,Jz,jQ,rfl,JA,EB,EA⟩:=HR
 obtain⟨mj,UO,UL,lA,rfl,UN,M6,M5⟩:=JU
 obtain⟨nE,Ex,Ew,mV,rfl,Qp,M4,M3⟩:=bW
 have TK:=hV.rules.1
 have CX:=hV.before.1
 have Fu:=hV.after.1
 have hnf:=hV.facts.1
 have LV:=(List.getElem?_eq_some_iff.1 ha).1
 have HO:=(List.getElem?_eq_some_iff.1 hb).1
 refine zE<|zD 2<|jn fun b5=>zD 8<|jl (b:=f) (off:=0) (m:=13) (vs:=[c0,c1,c2,.slice eo K.cs.length dX,.slice dJ hv.length dv,.slice kZ K.rules.length kY,.slice kI K.before.length jP,.slice kJ K.after.length jQ,zI K.gone,zI K.new,zI K.af,.slice mj K.facts.length lA,.slice nE rows.length mV]) 6 ⟨_,_,_,.inl hf,rfl⟩<|zD 1 ?_
 obtain⟨tH,ko⟩:=zG K.before a
 refine gX jP 5 Ez ko<|zD 1<|jl 3 (Ey _ _ ko)<|zD 4<|jl (b:=f) (off:=0) (m:=13) (vs:=[c0,c1,c2,.slice eo K.cs.length dX,.slice dJ hv.length dv,.slice kZ K.rules.length kY,.slice kI K.before.length jP,.slice kJ K.after.length jQ,zI K.gone,zI K.new,zI K.af,.slice mj K.facts.length lA,.slice nE rows.length mV]) 7 ⟨_,_,_,.inl hf,rfl⟩<|zD 1 ?_
 obtain⟨kB,fS⟩:=zG K.after b
 refine gX jQ 5 EB fS<|zD 1<|jl 3 (EA _ _ fS)<|zD 9<|jj 3 [(1,zP f),(10,.bool false),(11,zI tH.head),(12,zI kB.head),(38,.bool ((decide (tH.head <0))||(decide (kB.head <0))))] (fun gI=>?_) (fun hj=>?_)
 rotate_left
 refine js 35 (decide (tH.head <0)) (fun h1=>?_) (fun h1=>?_)
 ·
  have fq:=h1
  replace fq:=of_decide_eq_true fq
  refine zD 3<|jw 38 (.bool ((decide (tH.head <0))||(decide (kB.head <0)))) (w:= .bool true) (by rw[h1]<;>rfl) ?_
  exact zK hj
 ·
  have fq:=h1
  replace fq:=of_decide_eq_false fq
  refine zD 3<|jw 38 (.bool ((decide (tH.head <0))||(decide (kB.head <0)))) (w:= .bool (decide (kB.head <0))) (by rw[h1]<;>rfl) ?_
  exact zK hj
 refine zD 1<|jj 4 [(1,zP f),(10,.bool false),(11,zI tH.head),(12,zI kB.head),(43,.bool (((decide (tH.head <0))||(decide (kB.head <0)))||(decide (tH.head=kB.head))))] (fun gI=>?_) (fun hj=>?_)
 rotate_left
 refine js 39 ((decide (tH.head <0))||(decide (kB.head <0))) (fun h2=>?_) (fun h2=>?_)
 ·
  have k9:=h2
  try simp only[zB] at k9
  refine zD 4<|jw 43 (.bool (((decide (tH.head <0))||(decide (kB.head <0)))||(decide (tH.head=kB.head)))) (w:= .bool true) (by rw[h2]<;>rfl) ?_
  exact zK hj
 ·
  have k9:=h2
  try simp only[zB] at k9
  refine zD 4<|jw 43 (.bool (((decide (tH.head <0))||(decide (kB.head <0)))||(decide (tH.head=kB.head)))) (w:= .bool (decide (tH.head=kB.head))) (by rw[h2]<;>rfl) ?_
  exact zK hj
 refine zD 1<|js 43 (((decide (tH.head <0))||(decide (kB.head <0)))||(decide (tH.head=kB.head))) (fun h3=>?_) (fun h3=>?_)
 ·
  try simp only[zB] at h3
  refine zD 6<|zX (.bool false) ⟨by rw[ha] at ko;cases ko;rw[hb] at fS;cases fS;rw[qK,if_pos (by omega)],rfl⟩
 try simp only[zB] at h3
 refine zD 8<|jl (b:=f) (off:=0) (m:=13) (vs:=[c0,c1,c2,.slice eo K.cs.length dX,.slice dJ hv.length dv,.slice kZ K.rules.length kY,.slice kI K.before.length jP,.slice kJ K.after.length jQ,zI K.gone,zI K.new,zI K.af,.slice mj K.facts.length lA,.slice nE rows.length mV]) 3 ⟨_,_,_,.inl hf,rfl⟩<|zD 5<|jl (b:=f) (off:=0) (m:=13) (vs:=[c0,c1,c2,.slice eo K.cs.length dX,.slice dJ hv.length dv,.slice kZ K.rules.length kY,.slice kI K.before.length jP,.slice kJ K.after.length jQ,zI K.gone,zI K.new,zI K.af,.slice mj K.facts.length lA,.slice nE rows.length mV]) 4 ⟨_,_,_,.inl hf,rfl⟩<|zD 1 ?_
 obtain⟨x57,u7⟩:=zG hv (tH.head.toNat) (by have:=Zq nn (hV.before.2 _ (zL ko)).2 (by omega);omega)
 refine I4 tH.head dv 4 qX u7 (Int.toNat_of_nonneg (show 0≤tH.head∧tH.head <((hv).length:Int) from (by have:=Zq nn (hV.before.2 _ (zL ko)).2 (by omega);omega)).1).symm ?_
 refine zD 1<|jl 1 (qW _ _ u7)<|zD 5<|jl (b:=f) (off:=0) (m:=13) (vs:=[c0,c1,c2,.slice eo K.cs.length dX,.slice dJ hv.length dv,.slice kZ K.rules.length kY,.slice kI K.before.length jP,.slice kJ K.after.length jQ,zI K.gone,zI K.new,zI K.af,.slice mj K.facts.length lA,.slice nE rows.length mV]) 4 ⟨_,_,_,.inl hf,rfl⟩<|zD 1 ?_
 obtain⟨x67,aol⟩:=zG hv (kB.head.toNat) (by have:=Zq nn (hV.after.2 _ (zL fS)).2 (by omega);omega)
 refine I4 kB.head dv 4 qX aol (Int.toNat_of_nonneg (show 0≤kB.head∧kB.head <((hv).length:Int) from (by have:=Zq nn (hV.after.2 _ (zL fS)).2 (by omega);omega)).1).symm ?_
 refine zD 1<|jl 1 (qW _ _ aol)<|jp (vs:=[.agg ⟨[.slice eo K.cs.length dX,.slice dJ hv.length dv]⟩,zI x57.cls,zI x67.cls]) [] [] (fun aG hs hZ=>atF (pY.up hs) nn hV.c8 (Zr nn hV.c8 (hV.before.2 _ (zL ko)).2 (by omega) u7).2 (Zr nn hV.c8 (hV.after.2 _ (zL fS)).2 (by omega) aol).2)<|zD 9<|jp (vs:=[zI 0]) [] [] (fun aG hs hZ=>A4)<|zD 8<|zX (.bool (decide ((Hb K.cs x57.cls x67.cls) <0))) ⟨by rw[ha] at ko;cases ko;rw[hb] at fS;cases fS;rw[qK,if_neg (by omega),(Zr nn hV.c8 (hV.before.2 _ (zL ha)).2 (by omega) u7).1,(Zr nn hV.c8 (hV.after.2 _ (zL hb)).2 (by omega) aol).1],rfl⟩
theorem anS{rows:List bD}{a:Nat}{on:Int}(hF:nY ro f K rows)(hV:ee K):du zT 375 [.agg ⟨[]⟩,zP f,zI (a:Int),zI (b:Int),.int .u8 on] ro (.bool (xW on a b K.facts 0)):=by
 obtain⟨c0,c1,c2,vc,vh,vr,vb,va,vf,vt,hv,hf,pY,nn,hr,C3,HR,JU,bW⟩:=id hF
 obtain⟨hc,hh,di⟩:=id pY
 obtain⟨eo,AO,AN,dX,rfl,DK,yP,yO⟩:=hc
 obtain⟨dJ,u5,u4,dv,rfl,xq,qX,qW⟩:=hh
 obtain⟨kZ,I1,I0,kY,rfl,O4,GD,GC⟩:=hr
 obtain⟨kI,Jy,Jw,jP,rfl,Jx,Ez,Ey⟩:=C3
 obtain⟨kJ,JB,Jz,jQ,rfl,JA,EB,EA⟩:=HR
 obtain⟨mj,UO,UL,lA,rfl,UN,M6,M5⟩:=JU
 obtain⟨nE,Ex,Ew,mV,rfl,Qp,M4,M3⟩:=bW
 have TK:=hV.rules.1
 have CX:=hV.before.1
 have Fu:=hV.after.1
 have hnf:=hV.facts.1
 refine zE<|zD 2<|jn fun b5=>zD 9<|jl (b:=f) (off:=0) (m:=13) (vs:=[c0,c1,c2,.slice eo K.cs.length dX,.slice dJ hv.length dv,.slice kZ K.rules.length kY,.slice kI K.before.length jP,.slice kJ K.after.length jQ,zI K.gone,zI K.new,zI K.af,.slice mj K.facts.length lA,.slice nE rows.length mV]) 11 ⟨_,_,_,.inl hf,rfl⟩<|zD 4<|dw [1,0,1,0,0] [] (fun(zz:Nat)=>[(2,zI (a:Int)),(3,zI (b:Int)),(4,.int .u8 on),(17,.slice mj K.facts.length lA),(18,zI (K.facts.length:Int)),(19,zI (zz:Int))]) (fun zz=>[]) (fun zz=>zz≤K.facts.length∧xW on a b K.facts 0=xW on a b (K.facts.drop zz) zz) (fun zz=>K.facts.length-zz) 0 ⟨by omega,rfl⟩ [] ?_
 rintro k hI K1 bG rest
 refine zD 5<|zJ 20 ((k:Int) <(K.facts.length:Int)) (fun h1=>?_) fun h1=>?_
 ·
  refine zD 7 ?_
  obtain⟨sD,uk⟩:=zG K.facts k
  refine gX lA 3 M6 uk<|jl 0 (M5 _ _ uk)<|jn fun wX=>jd 7 [0]<|jp (vs:=[.int .u8 on,zI (k:Int)]) [] [] (fun aG hs hZ=>(avS (by omega)))<|zD 1<|jj 5 [(2,zI (a:Int)),(3,zI (b:Int)),(4,.int .u8 on),(12,zP wX),(17,.slice mj K.facts.length lA),(18,zI (K.facts.length:Int)),(19,zI (k:Int)),(32,.bool ((hasB on (k:Int))&&(decide (sD.a=(a:Int)))))] (fun gI=>?_) (fun hj=>?_)
  rotate_left
  refine js 27 (hasB on (k:Int)) (fun h2=>?_) (fun h2=>?_)
  ·
   refine jd 5 [0]<|jw 32 (.bool ((hasB on (k:Int))&&(decide (sD.a=(a:Int))))) (w:= .bool (decide (sD.a=(a:Int)))) (by rw[h2]<;>rfl) ?_
   exact zK hj
  ·
   refine zD 5<|jw 32 (.bool ((hasB on (k:Int))&&(decide (sD.a=(a:Int))))) (w:= .bool false) (by rw[h2]<;>rfl) ?_
   exact zK hj
  refine zD 1<|jj 5 [(2,zI (a:Int)),(3,zI (b:Int)),(4,.int .u8 on),(12,zP wX),(17,.slice mj K.facts.length lA),(18,zI (K.facts.length:Int)),(19,zI (k:Int)),(38,.bool (((hasB on (k:Int))&&(decide (sD.a=(a:Int))))&&(decide (sD.b=(b:Int)))))] (fun gI=>?_) (fun hj=>?_)
  rotate_left
  refine js 33 ((hasB on (k:Int))&&(decide (sD.a=(a:Int)))) (fun h3=>?_) (fun h3=>?_)
  ·
   have wD:=h3
   try simp only[zB] at wD
   refine jd 5 [0]<|jw 38 (.bool (((hasB on (k:Int))&&(decide (sD.a=(a:Int))))&&(decide (sD.b=(b:Int))))) (w:= .bool (decide (sD.b=(b:Int)))) (by rw[h3]<;>rfl) ?_
   exact zK hj
  ·
   have wD:=h3
   try simp only[zB] at wD
   refine zD 5<|jw 38 (.bool (((hasB on (k:Int))&&(decide (sD.a=(a:Int))))&&(decide (sD.b=(b:Int))))) (w:= .bool false) (by rw[h3]<;>rfl) ?_
   exact zK hj
  refine zD 1<|jj 4 [(2,zI (a:Int)),(3,zI (b:Int)),(4,.int .u8 on),(17,.slice mj K.facts.length lA),(18,zI (K.facts.length:Int)),(19,zI (k:Int)),(43,.bool ((((hasB on (k:Int))&&(decide (sD.a=(a:Int))))&&(decide (sD.b=(b:Int))))&&(!sD.same)))] (fun gI=>?_) (fun hj=>?_)
  rotate_left
  refine js 39 (((hasB on (k:Int))&&(decide (sD.a=(a:Int))))&&(decide (sD.b=(b:Int)))) (fun h4=>?_) (fun h4=>?_)
  ·
   have uW:=h4
   try simp only[zB] at uW
   refine jd 4 [0]<|jw 43 (.bool ((((hasB on (k:Int))&&(decide (sD.a=(a:Int))))&&(decide (sD.b=(b:Int))))&&(!sD.same))) (w:= .bool (!sD.same)) (by rw[h4]<;>rfl) ?_
   exact zK hj
  ·
   have uW:=h4
   try simp only[zB] at uW
   refine zD 4<|jw 43 (.bool ((((hasB on (k:Int))&&(decide (sD.a=(a:Int))))&&(decide (sD.b=(b:Int))))&&(!sD.same))) (w:= .bool false) (by rw[h4]<;>rfl) ?_
   exact zK hj
  refine zD 1<|js 43 ((((hasB on (k:Int))&&(decide (sD.a=(a:Int))))&&(decide (sD.b=(b:Int))))&&(!sD.same)) (fun h5=>?_) (fun h5=>?_)
  ·
   refine zD 6<|zX (.bool true) ⟨by rw[hI.2,XN uk,show (((hasB on k&&decide (sD.a=a))&&decide (sD.b=b))&& !sD.same)=true from (by assumption)];rfl,rfl⟩
  refine zD 3<|ja ((k:Int)+1) (by omega)<|zD 2<|bF bG (k+1) ⟨by omega,by rw[hI.2,XN uk,show (((hasB on k&&decide (sD.a=a))&&decide (sD.b=b))&& !sD.same)=false from (by assumption)];rfl⟩ (by omega) [] (Sub.refl _)
 refine zD 7<|zX (.bool false) ⟨by rw[hI.2,aeN (by omega)],rfl⟩
theorem aEx{rows:List bD}{a:Nat}{x:aB}{on:Int}(hF:nY ro f K rows)(hV:ee K)(ha:K.before[a]?=some x) (hb:K.after[b]?=some y):du zT 136 [zP f,zI (a:Int),zI (b:Int),.int .u8 on] ro (.bool (dc K on a b)):=by
 refine zE<|zD 7<|jp [] [] (fun aG hs hZ=>aEv)<|zD 3<|dw [1,0,1,0,0] [] (fun(zz:Nat)=>[(0,zP f),(1,zI (a:Int)),(2,zI (b:Int)),(3,.int .u8 on),(11,.agg ⟨[.iface 348 (.agg ⟨[]⟩),.iface 349 (.agg ⟨[]⟩),.iface 350 (.agg ⟨[]⟩)]⟩),(12,zI (zz:Int))]) (fun zz=>[]) (fun zz=>zz≤3∧(1≤zz→mP K x y=false)∧(2≤zz→qK K x y=false)∧(3≤zz→xW on a b K.facts 0=false)) (fun zz=>3-zz) 0 ⟨by omega,nofun,nofun,nofun⟩ [] ?_
 rintro k hI K1 bG rest
 refine zD 5<|zJ 13 ((k:Int) <3) (fun h1=>?_) fun h1=>?_
 ·
  refine zD 6 ?_
  obtain rfl|rfl|rfl:k=0∨k=1∨k=2:=by omega
  ·
   refine zD 10<|jpI (vs:=[.agg ⟨[]⟩,zP f,zI (a:Int),zI (b:Int),.int .u8 on]) (fun aG hs=>avy (hF.up hs) hV ha hb)<|zD 1<|js 20 (mP K x y) (fun h2=>?_) (fun h2=>?_)
   ·
    refine zD 6<|zX (.bool false) ⟨by simp only[dc,ha,hb];simp[*],rfl⟩
   refine zD 6<|bF bG 1 ⟨by omega,(fun _=>by assumption),nofun,nofun⟩ (by omega) [] (Sub.refl _)
  ·
   refine zD 10<|jpI (vs:=[.agg ⟨[]⟩,zP f,zI (a:Int),zI (b:Int),.int .u8 on]) (fun aG hs=>ag3 (hF.up hs) hV ha hb)<|zD 1<|js 20 (qK K x y) (fun h3=>?_) (fun h3=>?_)
   ·
    refine zD 6<|zX (.bool false) ⟨by simp only[dc,ha,hb];simp[*],rfl⟩
   refine zD 6<|bF bG 2 ⟨by omega,(fun _=>hI.2.1 (by omega)),(fun _=>by assumption),nofun⟩ (by omega) [] (Sub.refl _)
  refine zD 10<|jpI (vs:=[.agg ⟨[]⟩,zP f,zI (a:Int),zI (b:Int),.int .u8 on]) (fun aG hs=>anS (hF.up hs) hV)<|zD 1<|js 20 (xW on a b K.facts 0) (fun h4=>?_) (fun h4=>?_)
  ·
   refine zD 6<|zX (.bool false) ⟨by simp only[dc,ha,hb];simp[*],rfl⟩
  refine zD 6<|bF bG 3 ⟨by omega,(fun _=>hI.2.1 (by omega)),(fun _=>hI.2.2.1 (by omega)),(fun _=>by assumption)⟩ (by omega) [] (Sub.refl _)
 refine zD 7<|zX (.bool true) ⟨by simp only[dc,ha,hb,hI.2.1 (by omega),hI.2.2.1 (by omega),hI.2.2.2 (by omega)];rfl,rfl⟩
abbrev eP4(p:Nat→Int):List Value:=[zI (p 0),zI (p 1),zI (p 2),zI (p 3)]
abbrev pL(p:Nat→Int):List Int:=[p 0,p 1,p 2,p 3]
def ij(p:Nat→Int)(a:Nat)(v:Int):Nat→Int:=fun i=>if i=a then v else p i
theorem A0{a:Nat}(h:a <4):a=0∨a=1∨a=2∨a=3:=by omega
theorem auU{a:Nat}(h:a <4):nth (eP4 p) (0+(a:Int).toNat*1)=some (zI (p a)):=by
 rcases A0 h with rfl|rfl|rfl|rfl<;>rfl
theorem auT{a:Nat}{v:Int}(h:a <4):dD (eP4 p) (0+(a:Int).toNat*1) [zI v]=eP4 (ij p a v):=by
 rcases A0 h with rfl|rfl|rfl|rfl<;>rfl
theorem auV{a:Nat}{v:Value}(h:a <4):Nat.ble ((0+(a:Int).toNat*1)+[v].length) (eP4 p).length=true:=by
 rcases A0 h with rfl|rfl|rfl|rfl<;>rfl
theorem XQ{r:bD}{a:Nat}(h:a <4)(k:b <4):nth (Bt r) (0+(a:Int).toNat*4+(b:Int).toNat*1)=some (.bool (r.c a b)):=by
 rcases A0 h with rfl|rfl|rfl|rfl<;>rcases A0 k with rfl|rfl|rfl|rfl<;>rfl
def iU(r:bD)(a b:Nat)(v:Bool):bD:=⟨fun i j=>if i=a∧j=b then v else r.c i j⟩
theorem XP{r:bD}{a:Nat}{v:Bool}(h:a <4)(k:b <4):dD (Bt r) (0+(a:Int).toNat*4+(b:Int).toNat*1) [.bool v]=Bt (iU r a b v):=by
 rcases A0 h with rfl|rfl|rfl|rfl<;>rcases A0 k with rfl|rfl|rfl|rfl<;>rfl
theorem XS{r:bD}{a:Nat}{v:Value}(h:a <4)(k:b <4):Nat.ble ((0+(a:Int).toNat*4+(b:Int).toNat*1)+[v].length) (Bt r).length=true:=by
 rcases A0 h with rfl|rfl|rfl|rfl<;>rcases A0 k with rfl|rfl|rfl|rfl<;>rfl
def j7(on:Int)(p:Nat→Int):List bM→Nat→Bool
 | [],_=>true
 |x::l,k=>bif (hasB on k&&x.same)&& !decide (p x.a.toNat=x.b+1) then false else j7 on p l (k+1)
theorem xm{on:Int}{l:List bM}{x:bM}(h:l[k]?=some x):j7 on p (l.drop k) k=bif (hasB on k&&x.same)&& !decide (p x.a.toNat=x.b+1) then false else j7 on p (l.drop (k+1)) (k+1):=by rw[eE h];rfl
theorem Uy{on:Int}{l:List bM}(h:¬k <l.length):j7 on p (l.drop k) k=true:=by rw[eA h];rfl
def qx(p:Nat→Int)(a:Nat)(v:Int):Bool:=decide (bQ (fun y=>decide (v=y)) ((pL p).take a) 0≥0)
theorem amC(h:ro b=some (.cells ⟨eP4 p⟩ T (0,0)))(hn:n≤4):bB ro (.slice (some ⟨b,0,none⟩) n 4) 1 cy ((pL p).take n):=by
 have:=bB.part (bU (enc:=cy) (T:=T) (pL p) h (fun _ _=>rfl)) (l:=0) (h:=n) (by omega) (by simpa using hn)
 simpa [dK] using this
theorem av1{v:Value}{n:Int}(hl:bB ro v 1 cy xs)(hn:xs.length≤1000000):du zT 196 [v,zI n] ro (zI (bQ (fun y=>decide (n=y)) xs 0)):=by
 obtain⟨fy,rX,rV,eO,rfl,tT,lN,mC⟩:=hl
 refine zE<|zD 12<|dw [1,0,1,0,0] [] (fun(zz:Nat)=>[(0,.slice fy xs.length eO),(1,zI n),(7,zI (xs.length:Int)),(8,zI (zz:Int))]) (fun zz=>[]) (fun zz=>zz≤xs.length∧bQ (fun y=>decide (n=y)) xs 0=bQ (fun y=>decide (n=y)) (xs.drop zz) zz) (fun zz=>xs.length-zz) 0 ⟨by omega,rfl⟩ [] ?_
 rintro k hI K1 bG rest
 refine zD 5<|zJ 9 ((k:Int) <(xs.length:Int)) (fun h1=>?_) fun h1=>?_
 ·
  refine zD 14 ?_
  obtain⟨fI,eH⟩:=zG xs k
  refine gX eO 1 lN eH<|jl 0 (mC _ _ eH)<|zD 2<|zJ 16 (n=fI) (fun h2=>?_) fun h2=>?_
  ·
   refine zD 7<|zX (zI (k:Int)) ⟨by rw[hI.2,jK eH];simp[*],rfl⟩
  refine zD 3<|ja ((k:Int)+1) (by omega)<|zD 2<|bF bG (k+1) ⟨by omega,by rw[hI.2,jK eH];simp[*]⟩ (by omega) [] (Sub.refl _)
 refine zD 7<|zX (zI (-1)) ⟨by rw[hI.2,qE (by omega)],rfl⟩
theorem aP0{v:Value}{n:Int}(hl:bB ro v 1 cy xs)(hn:xs.length≤1000000):du zT 140 [v,zI n] ro (.bool (decide (bQ (fun y=>decide (n=y)) xs 0≥0))):=by
 obtain⟨fy,rX,rV,eO,rfl,tT,lN,mC⟩:=hl
 refine zE<|zD 8<|jp (vs:=[.slice fy xs.length eO,zI n]) [] [] (fun aG hs hZ=>av1 ((show bB _ _ _ _ _ from ⟨fy,rX,rV,eO,rfl,tT,lN,mC⟩).up hs) (by first|omega| (simp only[List.length_set,zM];omega))) ?_
 refine zD 4<|zX (.bool (decide ((bQ (fun y=>decide (n=y)) xs 0)≥0))) ⟨rfl,rfl⟩
theorem avz{rows:List bD}{on:Int}(hF:nY ro f K rows)(hV:ee K)(g1:ro b1=some (.cells ⟨[zP f]⟩ 106 (0,0)))(g2:ro b2=some (.cells ⟨[.int .u8 on]⟩ 111 (0,0))):du zT 137 [.agg ⟨[zI (p 0),zI (p 1),zI (p 2),zI (p 3)]⟩,zP b1,zP b2] ro (.bool (j7 on p K.facts 0)):=by
 obtain⟨c0,c1,c2,vc,vh,vr,vb,va,vf,vt,hv,hf,pY,nn,hr,C3,HR,JU,bW⟩:=id hF
 obtain⟨hc,hh,di⟩:=id pY
 obtain⟨eo,AO,AN,dX,rfl,DK,yP,yO⟩:=hc
 obtain⟨dJ,u5,u4,dv,rfl,xq,qX,qW⟩:=hh
 obtain⟨kZ,I1,I0,kY,rfl,O4,GD,GC⟩:=hr
 obtain⟨kI,Jy,Jw,jP,rfl,Jx,Ez,Ey⟩:=C3
 obtain⟨kJ,JB,Jz,jQ,rfl,JA,EB,EA⟩:=HR
 obtain⟨mj,UO,UL,lA,rfl,UN,M6,M5⟩:=JU
 obtain⟨nE,Ex,Ew,mV,rfl,Qp,M4,M3⟩:=bW
 have TK:=hV.rules.1
 have CX:=hV.before.1
 have Fu:=hV.after.1
 have hnf:=hV.facts.1
 refine zE<|zD 2<|jn fun b3=>zD 5<|jl (b:=b1) (off:=0) (m:=1) (vs:=[zP f]) 0 ⟨_,_,_,.inl g1,rfl⟩<|zD 3<|jl (b:=f) (off:=0) (m:=13) (vs:=[c0,c1,c2,.slice eo K.cs.length dX,.slice dJ hv.length dv,.slice kZ K.rules.length kY,.slice kI K.before.length jP,.slice kJ K.after.length jQ,zI K.gone,zI K.new,zI K.af,.slice mj K.facts.length lA,.slice nE rows.length mV]) 11 ⟨_,_,_,.inl hf,rfl⟩<|zD 4<|dw [1,0,1,0,0] [] (fun(zz:Nat)=>[(2,zP b2),(3,zP b3),(11,.slice mj K.facts.length lA),(12,zI (K.facts.length:Int)),(13,zI (zz:Int))]) (fun zz=>[.b b3 (.cells ⟨[zI (p 0),zI (p 1),zI (p 2),zI (p 3)]⟩ 136 (0,0))]) (fun zz=>zz≤K.facts.length∧j7 on p K.facts 0=j7 on p (K.facts.drop zz) zz) (fun zz=>K.facts.length-zz) 0 ⟨by omega,rfl⟩ [0] ?_
 rintro k hI K1 bG rest
 refine zD 5<|zJ 14 ((k:Int) <(K.facts.length:Int)) (fun h1=>?_) fun h1=>?_
 ·
  refine zD 7 ?_
  obtain⟨BZ,oX⟩:=zG K.facts k
  refine gX lA 3 M6 oX<|jl 0 (M5 _ _ oX)<|jn fun b6=>jd 4 [0] ?_
  have hf4:=(hV.facts.2 _ (zL oX)).1
  have hf5:=(hV.facts.2 _ (zL oX)).2
  have hae:BZ.a=(BZ.a.toNat:Int):=by omega
  refine zD 1<|jl (b:=b2) (off:=0) (m:=1) (vs:=[.int .u8 on]) 0 ⟨_,_,_,.inl g2,rfl⟩<|zD 1<|jp (vs:=[.int .u8 on,zI (k:Int)]) [] [] (fun aG hs hZ=>(avS (by omega)))<|zD 1<|js 3 (hasB on (k:Int)) (fun h2=>?_) (fun h2=>?_)
  ·
   refine jd 4 [0]<|js 7 BZ.same (fun h3=>?_) (fun h3=>?_)
   ·
    refine jd 2 [0]<|I6 (b:=b3) (off:=0) (len:=4) (sz:=1) BZ.a (by omega)<|ki (b:=b3) (off:=0+BZ.a.toNat*1) (m:=1) (vs:=[zI (p BZ.a.toNat)]) 0 [1] [(b3,.cells ⟨[zI (p 0),zI (p 1),zI (p 2),zI (p 3)]⟩ 136 (0,0))] (fun s _ hZ=>qh (hZ _ (.head _)) (by rw[hae];exact auU (by omega))) ?_
    refine jd 2 [0]<|ja (BZ.b+1) (by omega)<|zD 3<|js 34 (!decide ((p BZ.a.toNat)=(BZ.b+1))) (fun h4=>?_) (fun h4=>?_)
    ·
     replace h4:=of_decide_eq_false (by simpa using h4)
     refine zD 6<|zX (.bool false) ⟨by rw[hI.2,xm oX];simp only[h2,h3,decide_eq_false h4,Bool.and_true,Bool.true_and,Bool.not_false,Bool.not_true,Bool.and_false,Bool.false_and,cond_true,cond_false],rfl⟩
    replace h4:=of_decide_eq_true (by simpa using h4)
    refine zD 3<|ja ((k:Int)+1) (by omega)<|zD 2<|bF bG (k+1) ⟨by omega,by rw[hI.2,xm oX];simp only[h2,h3,decide_eq_true h4,Bool.and_true,Bool.true_and,Bool.not_false,Bool.not_true,Bool.and_false,Bool.false_and,cond_true,cond_false]⟩ (by omega) [1] (Sub.refl _)
   refine zD 13<|ja ((k:Int)+1) (by omega)<|zD 2<|bF bG (k+1) ⟨by omega,by rw[hI.2,xm oX];simp only[h2,h3,Bool.and_true,Bool.true_and,Bool.not_false,Bool.not_true,Bool.and_false,Bool.false_and,cond_true,cond_false]⟩ (by omega) [1] (Sub.refl _)
  refine zD 17<|ja ((k:Int)+1) (by omega)<|zD 2<|bF bG (k+1) ⟨by omega,by rw[hI.2,xm oX];simp only[h2,Bool.and_true,Bool.true_and,Bool.not_false,Bool.not_true,Bool.and_false,Bool.false_and,cond_true,cond_false]⟩ (by omega) [1] (Sub.refl _)
 refine zD 7<|zX (.bool true) ⟨by rw[hI.2,Uy (by omega)],rfl⟩
def gB(K:aC)(on:Int):Nat→Nat→(Nat→Int)→List (Nat→Int)
 |0,_,p=>bif j7 on p K.facts 0 then [p] else []
 |n+1,a,p=>gB K on n (a+1) p++(List.range K.after.length).flatMap fun b=>bif !dc K on a b||qx p a ((b:Int)+1) then [] else gB K on n (a+1) (ij p a ((b:Int)+1))
def nq(K:aC)(on:Int)(n a:Nat)(p:Nat→Int)(b:Nat):List (Nat→Int):=bif !dc K on a b||qx p a ((b:Int)+1) then [] else gB K on n (a+1) (ij p a ((b:Int)+1))
theorem qA(K:aC)(on:Int)(n a:Nat)(p:Nat→Int):gB K on (n+1) a p=gB K on n (a+1) p++(List.range K.after.length).flatMap (nq K on n a p):=rfl
theorem Part.left{α:Type}{L x y:List α}{p:Nat}(h:Part L p (x++y)):Part L p x:=by
 obtain⟨a,b,rfl,h2⟩:=h
 exact⟨a,y++b,by simp,h2⟩
theorem Part.right{α:Type}{L x y:List α}{p:Nat}(h:Part L p (x++y)):Part L (p+x.length) y:=by
 obtain⟨a,b,rfl,rfl⟩:=h
 exact⟨a++x,b,by simp,by simp⟩
theorem aa2(h:j <n):∃r,List.range n=List.range j++[j]++r:=by
 refine⟨(List.range n).drop (j+1),?_⟩
 have h1:(List.range n).take (j+1)=List.range (j+1):=by rw[List.take_range,Nat.min_eq_left h]
 rw[←List.range_succ,←h1,List.take_append_drop]
theorem Zv{q:Nat→Int}{a:Nat}{v:Int}(ha:a <4)(h:∀i,i≠a→q i=p i):qx q a v=qx p a v:=by
 have:(pL q).take a=(pL p).take a:=by
  rcases A0 ha with rfl|rfl|rfl|rfl
  ·rfl
  ·simp[h 0 (by omega)]
  ·simp[h 0 (by omega),h 1 (by omega)]
  simp[h 0 (by omega),h 1 (by omega),h 2 (by omega)]
 simp only[qx,this]
theorem Xs{q:Nat→Int}{a:Nat}{v:Int}(h:∀i,i≠a→q i=p i):ij q a v=ij p a v:=by
 funext i
 simp only[ij]
 split
 ·rfl
 rename_i hi;exact h i hi
abbrev ePs(L:List (Nat→Int)):(Nat→Option Obj)→Nat→List Value→Cells→Prop:=fun _ k vs LL=>∃p,L[k]?=some p∧vs=[.agg ⟨eP4 p⟩]∧LL=[]
structure ak2(ro:Nat→Option Obj)(bl f:Nat)(K:aC)(on:Int)(bf br bE bg bt bo:Nat):Prop where
 f:ro bf=some (.cells ⟨[zP f]⟩ 106 (0,0))
 r:ro br=some (.cells ⟨[.func (.func 137) ⟨[]⟩ ⟨[zP bf,zP bo]⟩]⟩ 239 (0,0))
 y:ro bE=some (.cells ⟨[.func (.yield bl) #[] #[]]⟩ 239 (0,0))
 g:ro bg=some (.cells ⟨[.func (.func 139) ⟨[]⟩ ⟨[zP bf,zP br,zP bE,zP bg,zP bt]⟩]⟩ 240 (0,0))
 t:ro bt=some (.cells ⟨Bt ⟨dc K on⟩⟩ 162 (0,0))
 o:ro bo=some (.cells ⟨[.int .u8 on]⟩ 111 (0,0))
def asL(bl f:Nat)(K:aC)(rows:List bD)(on:Int)(bf br bE bg bt bo:Nat)(L:List (Nat→Int))(Inv:Nat→Cells→Prop)(Stop:Cells→Prop)(n:Nat):Prop:=
 ∀(ro:Nat→Option Obj) (a:Nat) (p:Nat→Int) (q:Nat) (B:Cells),ak2 ro bl f K on bf br bE bg bt bo→nY ro f K rows→a+n=K.before.length→Part L q (gB K on n a p)→Inv q B→YOK zT bl ro L.length (ePs L) Inv Stop→
  dG zT 139 [.agg ⟨eP4 p⟩,zI (a:Int),zP bf,zP br,zP bE,zP bg,zP bt] ro B (fun r Y=>∃c,r= .bool c∧(c=true→Inv (q+(gB K on n a p).length) Y)∧(c=false→Stop Y))
theorem avT{a q:Nat}{on:Int}{B:Cells}{L:List (Nat→Int)}{Inv:Nat→Cells→Prop}{rows:List bD}(ih:∀m,m <n→asL bl f K rows on bf br bE bg bt bo L Inv Stop m)(hV:ee K)(oF:ak2 ro bl f K on bf br bE bg bt bo)(hF:nY ro f K rows)(han:a+n=K.before.length)(hP:Part L q (gB K on n a p))(hB:Inv q B)(hy:YOK zT bl ro L.length (ePs L) Inv Stop):dG zT 139 [.agg ⟨[zI (p 0),zI (p 1),zI (p 2),zI (p 3)]⟩,zI (a:Int),zP bf,zP br,zP bE,zP bg,zP bt] ro B (fun r Y=>∃c,r= .bool c∧(c=true→Inv (q+(gB K on n a p).length) Y)∧(c=false→Stop Y)):=by
 obtain⟨gf,gr,gy,gg,gt,go⟩:=id oF
 obtain⟨c0,c1,c2,vc,vh,vr,vb,va,vf,vt,hv,hf,pY,nn,hr,C3,HR,JU,bW⟩:=id hF
 obtain⟨hc,hh,di⟩:=id pY
 obtain⟨eo,AO,AN,dX,rfl,DK,yP,yO⟩:=hc
 obtain⟨dJ,u5,u4,dv,rfl,xq,qX,qW⟩:=hh
 obtain⟨kZ,I1,I0,kY,rfl,O4,GD,GC⟩:=hr
 obtain⟨kI,Jy,Jw,jP,rfl,Jx,Ez,Ey⟩:=C3
 obtain⟨kJ,JB,Jz,jQ,rfl,JA,EB,EA⟩:=HR
 obtain⟨mj,UO,UL,lA,rfl,UN,M6,M5⟩:=JU
 obtain⟨nE,Ex,Ew,mV,rfl,Qp,M4,M3⟩:=bW
 have TK:=hV.rules.1
 have CX:=hV.before.1
 have Fu:=hV.after.1
 have hnf:=hV.facts.1
 refine zC [.l B]<|zD 2<|jn fun b7=>zD 6<|jl (b:=bf) (off:=0) (m:=1) (vs:=[zP f]) 0 ⟨_,_,_,.inl gf,rfl⟩<|zD 3<|jl (b:=f) (off:=0) (m:=13) (vs:=[c0,c1,c2,.slice eo K.cs.length dX,.slice dJ hv.length dv,.slice kZ K.rules.length kY,.slice kI K.before.length jP,.slice kJ K.after.length jQ,zI K.gone,zI K.new,zI K.af,.slice mj K.facts.length lA,.slice nE rows.length mV]) 6 ⟨_,_,_,.inl hf,rfl⟩<|zD 3<|zJ 18 ((a:Int)=(K.before.length:Int)) (fun h1=>?_) fun h1=>?_
 ·
  refine zD 2 ?_
  obtain rfl:n=0:=by omega
  refine zD 1<|jl (b:=br) (off:=0) (m:=1) (vs:=[.func (.func 137) ⟨[]⟩ ⟨[zP bf,zP bo]⟩]) 0 ⟨_,_,_,.inl gr,rfl⟩<|jd 1 [0]<|jp (vs:=[.agg ⟨[zI (p 0),zI (p 1),zI (p 2),zI (p 3)]⟩,zP bf,zP bo]) [] [] (fun aG hs hZ=>avz (hF.up hs) hV (hs _ _ gf) (hs _ _ go))<|zD 2<|js 23 (!(j7 on p K.facts 0)) (fun h2=>?_) (fun h2=>?_)
  ·
   have k9:=h2
   try simp only[zB] at k9
   refine zD 7<|zR (.bool true) [] [1] B ⟨_,rfl,(fun _=>by rw[show gB K on 0 a p=[] by simp only[gB,show j7 on p K.facts 0=false by simpa using h2];rfl];exact hB),nofun⟩
  have k9:=h2
  try simp only[zB] at k9
  have ail:gB K on 0 a p=[p]:=by simp only[gB,show j7 on p K.facts 0=true by simpa using h2];rfl
  have VI:=Part.get (i:=0) (x:=p) hP (by rw[ail];rfl)
  refine jl (b:=bE) (off:=0) (m:=1) (vs:=[(.func (.yield bl) #[] #[])]) 0 ⟨_,_,_,.inl gy,rfl⟩<|jd 1 [0]<|jyc [1] (hy q [.agg ⟨[zI (p 0),zI (p 1),zI (p 2),zI (p 3)]⟩] [] B ro VI.1 ⟨_,VI.2,rfl,rfl⟩ hB (Sub.refl _)) (Sub.refl _) ?_
  intro v26 Y26 aQd
  obtain⟨c26,rfl,aSU,aSI⟩:=yb aQd
  refine zD 4<|zR (.bool c26) [] [0] Y26 ⟨_,rfl,(fun h=>by rw[ail];exact aSU h),aSI⟩
 refine zD 4 ?_
 obtain⟨m,rfl⟩:∃m,n=m+1:=⟨n-1,by omega⟩
 rw[qA] at hP
 refine zD 1<|jl (b:=bg) (off:=0) (m:=1) (vs:=[.func (.func 139) ⟨[]⟩ ⟨[zP bf,zP br,zP bE,zP bg,zP bt]⟩]) 0 ⟨_,_,_,.inl gg,rfl⟩<|jd 2 [0]<|ja ((a:Int)+1) (by omega)<|jc (vs:=[.agg ⟨[zI (p 0),zI (p 1),zI (p 2),zI (p 3)]⟩,zI ((a:Int)+1),zP bf,zP br,zP bE,zP bg,zP bt]) [1] (ih m (by omega) _ (a+1) p q _ oF hF (by omega) (Part.left hP) hB hy) ?_
 rintro _ Y32 ⟨c32,rfl,aSR,aSF⟩
 refine zD 2<|js 33 (!c32) (fun h3=>?_) (fun h3=>?_)
 ·
  try simp only[zB] at h3
  refine zD 6<|zR (.bool false) [] [0] Y32 ⟨_,rfl,nofun,fun _=>aSF (by simp_all)⟩
 try simp only[zB] at h3
 refine zD 5<|jl (b:=bf) (off:=0) (m:=1) (vs:=[zP f]) 0 ⟨_,_,_,.inl gf,rfl⟩<|zD 3<|jl (b:=f) (off:=0) (m:=13) (vs:=[c0,c1,c2,.slice eo K.cs.length dX,.slice dJ hv.length dv,.slice kZ K.rules.length kY,.slice kI K.before.length jP,.slice kJ K.after.length jQ,zI K.gone,zI K.new,zI K.af,.slice mj K.facts.length lA,.slice nE rows.length mV]) 7 ⟨_,_,_,.inl hf,rfl⟩<|zD 4<|dw [1,1,1,0,1,0,0] [] (fun(zz:Nat×(Nat→Int)×Cells)=>[(1,zI (a:Int)),(5,zP bg),(6,zP bt),(7,zP b7),(39,zI (K.after.length:Int)),(40,zI (zz.1:Int))]) (fun zz=>[.b b7 (.cells ⟨[zI (zz.2.1 0),zI (zz.2.1 1),zI (zz.2.1 2),zI (zz.2.1 3)]⟩ 136 (0,0)),.l zz.2.2]) (fun zz=>zz.1≤K.after.length∧Inv (q+(gB K on m (a+1) p).length+((List.range zz.1).flatMap (nq K on m a p)).length) zz.2.2∧∀i,i≠a→zz.2.1 i=p i) (fun zz=>K.after.length-zz.1) (⟨0,p,Y32⟩) ⟨by dsimp only;omega,by have:=aSR (by simp_all);simpa using this,fun _ _=>rfl⟩ [1,0] ?_
 rintro⟨j,pp,B⟩ hJ K1 bG rest
 dsimp only at hJ
 refine zD 5<|zJ 41 ((j:Int) <(K.after.length:Int)) (fun h4=>?_) fun h4=>?_
 ·
  refine zD 11 ?_
  have ha4:a <4:=by omega
  have hj4:j <4:=by omega
  obtain⟨rr,hrr⟩:=aa2 (show j <K.after.length by omega)
  have hPj:=Part.flat (Part.right hP) hrr
  refine zD 3<|I6 (b:=bt) (off:=0) (len:=4) (sz:=4) (a:Int) (by omega)<|I6 (b:=bt) (off:=0+(a:Int).toNat*4) (len:=4) (sz:=1) (j:Int) (by omega)<|jl (b:=bt) (off:=0+(a:Int).toNat*4+(j:Int).toNat*1) (m:=1) (vs:=[.bool (dc K on a j)]) 0 (qh (.inl gt) (XQ (r:=⟨dc K on⟩) ha4 hj4))<|zD 2<|js 49 (!(dc K on a j)) (fun h5=>?_) (fun h5=>?_)
  ·
   have N7:=h5
   try simp only[zB] at N7
   refine zD 10<|ja ((j:Int)+1) (by omega)<|zD 2<|bF bG (⟨j+1,pp,B⟩) ⟨by dsimp only;omega,by dsimp only;rw[List.range_succ,List.flatMap_append,List.length_append,List.flatMap_singleton,←Nat.add_assoc];rw[show nq K on m a p j=[] by simp only[nq,h5];rfl];exact hJ.2.1,hJ.2.2⟩ (by dsimp only;omega) [0,1] (Sub.refl _)
  have N7:=h5
  try simp only[zB] at N7
  refine zD 1<|jah (b:=b7) (off:=0) (len:=4) (a:Int) (by omega)<|zD 1<|ja ((j:Int)+1) (by omega)<|jp (vs:=[(.slice (some ⟨b7,0,none⟩) (a:Int).toNat 4),zI ((j:Int)+1)]) [0] [(b7,.cells ⟨[zI (pp 0),zI (pp 1),zI (pp 2),zI (pp 3)]⟩ 136 (0,0))] (fun aG hs hZ=>aP0 (amC hZ.head (by omega)) (by rw[List.length_take];omega)) ?_
  refine zD 2<|js 55 (qx pp a ((j:Int)+1)) (fun h6=>?_) (fun h6=>?_)
  ·
   refine zD 3<|ja ((j:Int)+1) (by omega)<|zD 2<|bF bG (⟨j+1,pp,B⟩) ⟨by dsimp only;omega,by dsimp only;rw[List.range_succ,List.flatMap_append,List.length_append,List.flatMap_singleton,←Nat.add_assoc];rw[show nq K on m a p j=[] by simp only[nq,←Zv ha4 hJ.2.2,h5,h6];rfl];exact hJ.2.1,hJ.2.2⟩ (by dsimp only;omega) [0,1] (Sub.refl _)
  have hg0:nq K on m a p j=gB K on m (a+1) (ij p a ((j:Int)+1)):=by simp only[nq,←Zv ha4 hJ.2.2,h5,h6];rfl
  have hPg:Part L (q+(gB K on m (a+1) p).length+((List.range j).flatMap (nq K on m a p)).length) (gB K on m (a+1) (ij pp a ((j:Int)+1))):=by rw[Xs hJ.2.2,←hg0];exact hPj
  refine zD 6<|ja ((j:Int)+1) (by omega)<|I6 (b:=b7) (off:=0) (len:=4) (sz:=1) (a:Int) (by omega)<|jsx 0 b7 (0+(a:Int).toNat*1) [zI (pp 0),zI (pp 1),zI (pp 2),zI (pp 3)] [zI ((j:Int)+1)] 136 (by intro v hv;rw[List.mem_singleton] at hv;subst hv;rfl) (auV (p:=pp) ha4) ?_
  refine jmw 0 [.b b7 (.cells ⟨[zI ((ij pp a ((j:Int)+1)) 0),zI ((ij pp a ((j:Int)+1)) 1),zI ((ij pp a ((j:Int)+1)) 2),zI ((ij pp a ((j:Int)+1)) 3)]⟩ 136 (0,0))] (L:=[(b7,.cells ⟨dD [zI (pp 0),zI (pp 1),zI (pp 2),zI (pp 3)] (0+(a:Int).toNat*1) [zI ((j:Int)+1)]⟩ 136 (0,0))]) (by rw[auT ha4];rfl) ?_
  refine zD 3<|jl (b:=bg) (off:=0) (m:=1) (vs:=[.func (.func 139) ⟨[]⟩ ⟨[zP bf,zP br,zP bE,zP bg,zP bt]⟩]) 0 ⟨_,_,_,.inl gg,rfl⟩<|jd 2 [0]<|ja ((a:Int)+1) (by omega)<|jc (vs:=[.agg ⟨[zI ((ij pp a ((j:Int)+1)) 0),zI ((ij pp a ((j:Int)+1)) 1),zI ((ij pp a ((j:Int)+1)) 2),zI ((ij pp a ((j:Int)+1)) 3)]⟩,zI ((a:Int)+1),zP bf,zP br,zP bE,zP bg,zP bt]) [1] (ih m (by omega) _ (a+1) _ (q+(gB K on m (a+1) p).length+((List.range j).flatMap (nq K on m a p)).length) _ oF hF (by omega) hPg hJ.2.1 hy) ?_
  rintro _ Y64 ⟨ZX,rfl,aSP,aSD⟩
  refine zD 2<|js 65 (!ZX) (fun h7=>?_) (fun h7=>?_)
  ·
   try simp only[zB] at h7
   refine zD 6<|zR (.bool false) [] [0] Y64 ⟨_,rfl,nofun,fun _=>aSD (by simp_all)⟩
  try simp only[zB] at h7
  refine zD 3<|ja ((j:Int)+1) (by omega)<|zD 2<|bF bG (⟨j+1,(ij pp a ((j:Int)+1)),Y64⟩) ⟨by dsimp only;omega,by dsimp only;rw[List.range_succ,List.flatMap_append,List.length_append,List.flatMap_singleton,←Nat.add_assoc];rw[hg0,←Xs hJ.2.2];exact aSP (by simp_all),(fun i hi=>by simp only[ij,if_neg hi];exact hJ.2.2 i hi)⟩ (by dsimp only;omega) [1,0] (Sub.refl _)
 refine zD 7<|zR (.bool true) [] [1] B ⟨_,rfl,(fun _=>by rw[qA,List.length_append,←Nat.add_assoc];have:=hJ.2.1;rwa[show j=K.after.length by omega] at this),nofun⟩
theorem aEw(hV:ee K){rows:List bD}{on:Int}{L:List (Nat→Int)}{Inv:Nat→Cells→Prop}:∀n,asL bl f K rows on bf br bE bg bt bo L Inv Stop n:=by
 intro n
 induction n using Nat.strongRecOn with
 |_ n ih=>exact fun ro a p q B hc hF han hP hB hy=>avT ih hV hc hF han hP hB hy
def aI(K:aC)(on:Int):List (Nat→Int):=gB K on K.before.length 0 fun _=>0
theorem ZG{on:Int}{a:Nat}(h:¬a <K.before.length∨¬b <K.after.length):dc K on a b=false:=by
 rcases h with h|h
 ·simp[dc,List.getElem?_eq_none (Nat.le_of_not_lt h)]
 simp only[dc,List.getElem?_eq_none (Nat.le_of_not_lt h)]
 split
 ·rename_i h1;cases h1
 rfl
def E4(K:aC)(on:Int)(i j:Nat)(r:bD):Prop:=∀x y,r.c x y=((decide (x <i)||(decide (x=i)&&decide (y <j)))&&dc K on x y)
theorem E4.set{on:Int}{i:Nat}{r:bD}(h:E4 K on i j r):E4 K on i (j+1) (iU r i j (dc K on i j)):=fun x y=>by
 simp only[iU]
 split
 ·rename_i hx;obtain⟨rfl,rfl⟩:=hx;simp
 rename_i hx
 rw[h x y]
 congr 2
 by_cases e:x=i
 ·subst e
  have:y≠j:=fun e2=>hx ⟨rfl,e2⟩
  simp only[decide_true,Bool.true_and]
  congr 1
  exact propext (by omega)
 simp[e]
theorem E4.nxt{on:Int}{i:Nat}{r:bD}(h:E4 K on i K.after.length r):E4 K on (i+1) 0 r:=fun x y=>by
 rw[h x y]
 by_cases hy:y <K.after.length
 ·congr 1
  simp only[hy,decide_true,Bool.and_true,Nat.not_lt_zero,decide_false,Bool.and_false,Bool.or_false]
  rw[Bool.eq_iff_iff];simp;omega
 rw[ZG (.inr hy)];simp
theorem E4.fin{on:Int}{r:bD}(h:E4 K on K.before.length 0 r):r=⟨dc K on⟩:=by
 rcases r with ⟨c⟩
 congr 1
 funext x y
 have:=h x y
 dsimp only at this
 rw[this]
 by_cases hx:x <K.before.length
 ·simp[hx]
 rw[ZG (.inl hx)];simp
theorem am9{a:Nat}(h:a <4):nth (eP4 p) ((a:Int).toNat*1)=some (zI (p a)):=by
 rcases A0 h with rfl|rfl|rfl|rfl<;>rfl
theorem aeR{r:bD}{a:Nat}{j:Int}(h:a <4)(k:0≤j∧j <4):nth (Bt r) (0+(a:Int).toNat*4+j.toNat*1)=some (.bool (r.c a j.toNat)):=by
 obtain⟨m,rfl⟩:=Int.eq_ofNat_of_zero_le k.1
 exact XQ h (by omega)
def Cs(r:bD)(p:Nat→Int):Nat→Int
 |0=>0
 |k+1=>Cs r p k+bif decide (p k>0)&& !r.c k (p k-1).toNat then 1 else 0
def cv(K:aC)(r:bD)(past:Nat)(p:Nat→Int):aj:=⟨past,p 0,p 1,p 2,p 3,K.before.length-rZ (pL p),K.after.length-rZ (pL p),Cs r p 4⟩
theorem X9(p:Nat→Int):0≤rZ (pL p)∧rZ (pL p)≤4:=by
 have:=List.length_filter_le (fun x=>decide (x>0)) (pL p)
 simp only[rZ]
 exact⟨by omega,by simp only[List.length_cons,List.length_nil] at this;omega⟩
theorem YL{rows:List bD}{on:Int}(hF:nY ro f K rows)(hV:ee K)(g1:ro b1=some (.cells ⟨[zP f]⟩ 106 (0,0)))(g2:ro b2=some (.cells ⟨[.func (.func 137) ⟨[]⟩ ⟨[zP b1,zP b4]⟩]⟩ 239 (0,0)))(g3:ro b3=some (.cells ⟨Bt ⟨dc K on⟩⟩ 162 (0,0)))(g4:ro b4=some (.cells ⟨[.int .u8 on]⟩ 111 (0,0))):ItX zT 138 [] [zP b1,zP b2,zP b3] ro [] (aI K on).length (ePs (aI K on)) (fun Z=>Z=[]):=by
 intro bl aG Inv Stop hs hy B hB
 replace g1:=hs _ _ g1
 replace g2:=hs _ _ g2
 replace g3:=hs _ _ g3
 replace g4:=hs _ _ g4
 replace hF:=hF.up hs
 refine zC [.l B]<|zD 2<|jn fun b4=>zD 3<|jn fun b5=>jd 9 [0,0]<|jf [1,0] ((b4,.cells ⟨[(.func (.yield bl) #[] #[])]⟩ 239 (0,0))::[(b5,.cells ⟨[.func (.func 139) ⟨[]⟩ ⟨[zP b1,zP b2,zP b4,zP b5,zP b3]⟩]⟩ 240 (0,0))]) fun yN bZ iL=>jc (vs:=[.agg ⟨[zI 0,zI 0,zI 0,zI 0]⟩,zI 0,zP b1,zP b2,zP b4,zP b5,zP b3]) [0] (aEw (K:=K) hV (on:=on) _ _ 0 (fun _=>0) 0 _ ⟨(bZ _ _ g1),(bZ _ _ g2),iL _ (.head _),iL _ (.tail _ (.head _)),(bZ _ _ g3),bZ _ _ g4⟩ (hF.up bZ) (Nat.zero_add _) ⟨[],[],by simp[aI],rfl⟩ hB (YOK.up hy bZ)) ?_
 rintro _ Y9 ⟨c9,rfl,hc9,hd9⟩
 refine zD 1<|aK q0.a (.tuple ⟨[]⟩) [] [0] Y9 bZ ⟨_,_,rfl,rfl,[],Y9,rfl,rfl,by cases c9 with|true=>exact .inl (by simpa [aI] using hc9 rfl)|false=>exact .inr (hd9 rfl)⟩
theorem Lq{rows:List bD}{on:Int}(hF:nY ro f K rows)(hV:ee K):dG zT 97 [zP f,.int .u8 on] ro [] (fun r Y=>∃b1 b2 b3 b4,r= .func (.func 138) ⟨[]⟩ ⟨[zP b1,zP b2,zP b3]⟩∧Y=[(b1,.cells ⟨[zP f]⟩ 106 (0,0)),(b2,.cells ⟨[.func (.func 137) ⟨[]⟩ ⟨[zP b1,zP b4]⟩]⟩ 239 (0,0)),(b3,.cells ⟨Bt ⟨dc K on⟩⟩ 162 (0,0)),(b4,.cells ⟨[.int .u8 on]⟩ 111 (0,0))]):=by
 obtain⟨c0,c1,c2,vc,vh,vr,vb,va,vf,vt,hv,hf,pY,nn,hr,C3,HR,JU,bW⟩:=id hF
 obtain⟨hc,hh,di⟩:=id pY
 obtain⟨eo,AO,AN,dX,rfl,DK,yP,yO⟩:=hc
 obtain⟨dJ,u5,u4,dv,rfl,xq,qX,qW⟩:=hh
 obtain⟨kZ,I1,I0,kY,rfl,O4,GD,GC⟩:=hr
 obtain⟨kI,Jy,Jw,jP,rfl,Jx,Ez,Ey⟩:=C3
 obtain⟨kJ,JB,Jz,jQ,rfl,JA,EB,EA⟩:=HR
 obtain⟨mj,UO,UL,lA,rfl,UN,M6,M5⟩:=JU
 obtain⟨nE,Ex,Ew,mV,rfl,Qp,M4,M3⟩:=bW
 have TK:=hV.rules.1
 have CX:=hV.before.1
 have Fu:=hV.after.1
 have hnf:=hV.facts.1
 refine zE<|zD 2<|jn fun b2=>jn fun b3=>zD 4<|jn fun b5=>jd 8 [2]<|jl (b:=f) (off:=0) (m:=13) (vs:=[c0,c1,c2,.slice eo K.cs.length dX,.slice dJ hv.length dv,.slice kZ K.rules.length kY,.slice kI K.before.length jP,.slice kJ K.after.length jQ,zI K.gone,zI K.new,zI K.af,.slice mj K.facts.length lA,.slice nE rows.length mV]) 6 ⟨_,_,_,.inl hf,rfl⟩<|zD 4<|dw [1,1,0,1,0,0] [] (fun(zz:Nat×bD)=>[(2,zP b2),(3,zP b3),(4,.nilFunc),(5,zP b5),(14,zI (K.before.length:Int)),(15,zI (zz.1:Int))]) (fun zz=>[.b b5 (.cells ⟨[.bool (zz.2.c 0 0),.bool (zz.2.c 0 1),.bool (zz.2.c 0 2),.bool (zz.2.c 0 3),.bool (zz.2.c 1 0),.bool (zz.2.c 1 1),.bool (zz.2.c 1 2),.bool (zz.2.c 1 3),.bool (zz.2.c 2 0),.bool (zz.2.c 2 1),.bool (zz.2.c 2 2),.bool (zz.2.c 2 3),.bool (zz.2.c 3 0),.bool (zz.2.c 3 1),.bool (zz.2.c 3 2),.bool (zz.2.c 3 3)]⟩ 162 (0,0)),.b b3 (.cells ⟨[.int .u8 on]⟩ 111 (0,0)),.b b2 (.cells ⟨[zP f]⟩ 106 (0,0))]) (fun zz=>zz.1≤K.before.length∧E4 K on zz.1 0 zz.2) (fun zz=>K.before.length-zz.1) (⟨0,⟨fun _ _=>false⟩⟩) ⟨by dsimp only;omega,fun x y=>by simp⟩ [0,1,2] ?_
 rintro⟨i,r⟩ hI K1 bG rest
 dsimp only at hI
 refine zD 5<|zJ 16 ((i:Int) <(K.before.length:Int)) (fun h1=>?_) fun h1=>?_
 ·
  refine jd 15 [2]<|jl (b:=f) (off:=0) (m:=13) (vs:=[c0,c1,c2,.slice eo K.cs.length dX,.slice dJ hv.length dv,.slice kZ K.rules.length kY,.slice kI K.before.length jP,.slice kJ K.after.length jQ,zI K.gone,zI K.new,zI K.af,.slice mj K.facts.length lA,.slice nE rows.length mV]) 7 ⟨_,_,_,.inl hf,rfl⟩<|zD 4<|dw [1,1,0,1,0,0,1,1,0,0,1,1,0,0] [K1] (fun(zz:Nat×bD)=>[(2,zP b2),(3,zP b3),(4,.nilFunc),(5,zP b5),(6,zI (i:Int)),(14,zI (K.before.length:Int)),(15,zI (i:Int)),(23,zI (K.after.length:Int)),(24,zI (zz.1:Int))]) (fun zz=>[.b b5 (.cells ⟨[.bool (zz.2.c 0 0),.bool (zz.2.c 0 1),.bool (zz.2.c 0 2),.bool (zz.2.c 0 3),.bool (zz.2.c 1 0),.bool (zz.2.c 1 1),.bool (zz.2.c 1 2),.bool (zz.2.c 1 3),.bool (zz.2.c 2 0),.bool (zz.2.c 2 1),.bool (zz.2.c 2 2),.bool (zz.2.c 2 3),.bool (zz.2.c 3 0),.bool (zz.2.c 3 1),.bool (zz.2.c 3 2),.bool (zz.2.c 3 3)]⟩ 162 (0,0)),.b b3 (.cells ⟨[.int .u8 on]⟩ 111 (0,0)),.b b2 (.cells ⟨[zP f]⟩ 106 (0,0))]) (fun zz=>zz.1≤K.after.length∧E4 K on i zz.1 zz.2) (fun zz=>K.after.length-zz.1) (⟨0,r⟩) ⟨by dsimp only;omega,hI.2⟩ [0,1,2] ?_
  rintro⟨j,r⟩ hJ K2 jV rest
  dsimp only at hJ
  refine zD 5<|zJ 25 ((j:Int) <(K.after.length:Int)) (fun h2=>?_) fun h2=>?_
  ·
   refine zD 9 ?_
   obtain⟨x,ha⟩:∃x,K.before[i]?=some x:=⟨_,List.getElem?_eq_getElem (by omega)⟩
   obtain⟨y,hb⟩:∃y,K.after[j]?=some y:=⟨_,List.getElem?_eq_getElem (by omega)⟩
   refine jd 7 [2,1]<|I6 (b:=b5) (off:=0) (len:=4) (sz:=4) (i:Int) (by omega)<|jp (vs:=[zP f,zI (i:Int),zI (j:Int),.int .u8 on]) [] [] (fun aG hs hZ=>aEx (hF.up hs) hV ha hb)<|I6 (b:=b5) (off:=0+(i:Int).toNat*4) (len:=4) (sz:=1) (j:Int) (by omega)<|aS 9 fun oP oR nK=>jsx 0 b5 (0+(i:Int).toNat*4+(j:Int).toNat*1) [.bool (r.c 0 0),.bool (r.c 0 1),.bool (r.c 0 2),.bool (r.c 0 3),.bool (r.c 1 0),.bool (r.c 1 1),.bool (r.c 1 2),.bool (r.c 1 3),.bool (r.c 2 0),.bool (r.c 2 1),.bool (r.c 2 2),.bool (r.c 2 3),.bool (r.c 3 0),.bool (r.c 3 1),.bool (r.c 3 2),.bool (r.c 3 3)] [.bool (dc K on i j)] 162 (by intro v hv;rw[List.mem_singleton] at hv;subst hv;rfl) (XS (r:=r) (by omega) (by omega)) ?_
   refine jmw 0 [.b b5 (.cells ⟨[.bool ((iU r i j (dc K on i j)).c 0 0),.bool ((iU r i j (dc K on i j)).c 0 1),.bool ((iU r i j (dc K on i j)).c 0 2),.bool ((iU r i j (dc K on i j)).c 0 3),.bool ((iU r i j (dc K on i j)).c 1 0),.bool ((iU r i j (dc K on i j)).c 1 1),.bool ((iU r i j (dc K on i j)).c 1 2),.bool ((iU r i j (dc K on i j)).c 1 3),.bool ((iU r i j (dc K on i j)).c 2 0),.bool ((iU r i j (dc K on i j)).c 2 1),.bool ((iU r i j (dc K on i j)).c 2 2),.bool ((iU r i j (dc K on i j)).c 2 3),.bool ((iU r i j (dc K on i j)).c 3 0),.bool ((iU r i j (dc K on i j)).c 3 1),.bool ((iU r i j (dc K on i j)).c 3 2),.bool ((iU r i j (dc K on i j)).c 3 3)]⟩ 162 (0,0))] (L:=[(b5,.cells ⟨dD [.bool (r.c 0 0),.bool (r.c 0 1),.bool (r.c 0 2),.bool (r.c 0 3),.bool (r.c 1 0),.bool (r.c 1 1),.bool (r.c 1 2),.bool (r.c 1 3),.bool (r.c 2 0),.bool (r.c 2 1),.bool (r.c 2 2),.bool (r.c 2 3),.bool (r.c 3 0),.bool (r.c 3 1),.bool (r.c 3 2),.bool (r.c 3 3)] (0+(i:Int).toNat*4+(j:Int).toNat*1) [.bool (dc K on i j)]⟩ 162 (0,0))]) (by rw[XP (by omega) (by omega)];rfl) ?_
   refine gx nK []<|zD 2<|ja ((j:Int)+1) (by omega)<|zD 2<|bF jV (⟨j+1,(iU r i j (dc K on i j))⟩) ⟨by dsimp only;omega,hJ.2.set⟩ (by dsimp only;omega) [0,1,2] (Sub.refl _)
  refine zD 3<|ja ((i:Int)+1) (by omega)<|zD 2<|bF bG (⟨i+1,r⟩) ⟨by dsimp only;omega,E4.nxt (by have:=hJ.2;rwa[show j=K.after.length by omega] at this)⟩ (by dsimp only;omega) [0,1,2] (Sub.refl _)
 refine zD 5<|jn fun b8=>jd 8 [0]<|zR (.func (.func 138) ⟨[]⟩ ⟨[zP b2,zP b8,zP b5]⟩) [] [3,0,1,2] ((b2,.cells ⟨[zP f]⟩ 106 (0,0))::((b8,.cells ⟨[.func (.func 137) ⟨[]⟩ ⟨[zP b2,zP b3]⟩]⟩ 239 (0,0))::((b5,.cells ⟨[.bool (r.c 0 0),.bool (r.c 0 1),.bool (r.c 0 2),.bool (r.c 0 3),.bool (r.c 1 0),.bool (r.c 1 1),.bool (r.c 1 2),.bool (r.c 1 3),.bool (r.c 2 0),.bool (r.c 2 1),.bool (r.c 2 2),.bool (r.c 2 3),.bool (r.c 3 0),.bool (r.c 3 1),.bool (r.c 3 2),.bool (r.c 3 3)]⟩ 162 (0,0))::[(b3,.cells ⟨[.int .u8 on]⟩ 111 (0,0))]))) ⟨_,_,_,_,rfl,by have e:=E4.fin (K:=K) (on:=on) (r:=r) (by have:=hI.2;rwa[show i=K.before.length by omega] at this);subst e;rfl⟩
theorem arp{rows:List bD}{past:Nat}{Jq:bD}(hF:nY ro f K rows)(hV:ee K)(CU:rows[past]?=some Jq) (hp:∀i,0≤p i∧p i≤4):du zT 99 [zP f,zI (past:Int),.agg ⟨[zI (p 0),zI (p 1),zI (p 2),zI (p 3)]⟩] ro (.agg ⟨cR (cv K Jq past p)⟩):=by
 obtain⟨c0,c1,c2,vc,vh,vr,vb,va,vf,vt,hv,hf,pY,nn,hr,C3,HR,JU,bW⟩:=id hF
 obtain⟨hc,hh,di⟩:=id pY
 obtain⟨eo,AO,AN,dX,rfl,DK,yP,yO⟩:=hc
 obtain⟨dJ,u5,u4,dv,rfl,xq,qX,qW⟩:=hh
 obtain⟨kZ,I1,I0,kY,rfl,O4,GD,GC⟩:=hr
 obtain⟨kI,Jy,Jw,jP,rfl,Jx,Ez,Ey⟩:=C3
 obtain⟨kJ,JB,Jz,jQ,rfl,JA,EB,EA⟩:=HR
 obtain⟨mj,UO,UL,lA,rfl,UN,M6,M5⟩:=JU
 obtain⟨nE,Ex,Ew,mV,rfl,Qp,M4,M3⟩:=bW
 have TK:=hV.rules.1
 have CX:=hV.before.1
 have Fu:=hV.after.1
 have hnf:=hV.facts.1
 have hpc:=X9 p
 have TG:=(List.getElem?_eq_some_iff.1 CU).1
 refine zE<|zD 2<|jn fun b5=>jn fun b6=>jd 4 [1]<|jp (vs:=[.agg ⟨[zI (p 0),zI (p 1),zI (p 2),zI (p 3)]⟩]) [] [] (fun aG hs hZ=>(avA (p0:=p 0) (p1:=p 1) (p2:=p 2) (p3:=p 3)))<|jd 10 [1]<|jl (b:=f) (off:=0) (m:=13) (vs:=[c0,c1,c2,.slice eo K.cs.length dX,.slice dJ hv.length dv,.slice kZ K.rules.length kY,.slice kI K.before.length jP,.slice kJ K.after.length jQ,zI K.gone,zI K.new,zI K.af,.slice mj K.facts.length lA,.slice nE rows.length mV]) 6 ⟨_,_,_,.inl hf,rfl⟩<|zD 2<|ja ((K.before.length:Int)-(rZ (pL p))) (by omega)<|zD 4<|jl (b:=f) (off:=0) (m:=13) (vs:=[c0,c1,c2,.slice eo K.cs.length dX,.slice dJ hv.length dv,.slice kZ K.rules.length kY,.slice kI K.before.length jP,.slice kJ K.after.length jQ,zI K.gone,zI K.new,zI K.af,.slice mj K.facts.length lA,.slice nE rows.length mV]) 7 ⟨_,_,_,.inl hf,rfl⟩<|zD 2<|ja ((K.after.length:Int)-(rZ (pL p))) (by omega)<|zD 1<|aS 19 fun BX B6 An=>jn fun b8=>eG An [1,2]<|aS 20 fun As AA zi=>jd 1 [0]<|fW zi<|jd 8 [2]<|dw [1,1,1,0,1,0,0] [] (fun(zz:Nat×Int)=>[(0,zP f),(1,zI (past:Int)),(6,zP b6),(8,zP b8),(32,.agg ⟨[zI (p 0),zI (p 1),zI (p 2),zI (p 3)]⟩),(33,zI (zz.1:Int))]) (fun zz=>[.b b8 (.cells ⟨[zI (past:Int),zI (p 0),zI (p 1),zI (p 2),zI (p 3),zI ((K.before.length:Int)-(rZ (pL p))),zI ((K.after.length:Int)-(rZ (pL p))),zI zz.2]⟩ 138 (0,0)),.b b6 (.cells ⟨[zI 0,zI 0,zI 0,zI 0,zI 0,zI 0,zI 0,zI 0]⟩ 138 (0,0))]) (fun zz=>zz.1≤4∧zz.2=Cs Jq p zz.1∧(0≤zz.2∧zz.2≤zz.1)) (fun zz=>4-zz.1) (⟨0,0⟩) ⟨by dsimp only;omega,rfl,by dsimp only;omega⟩ [0,1] ?_
 rintro⟨k,m⟩ hI K3 hK3 rest
 dsimp only at hI
 refine zD 5<|zJ 34 ((k:Int) <4) (fun h3=>?_) fun h3=>?_
 ·
  refine zD 7<|jai (l:=[zI (p 0),zI (p 1),zI (p 2),zI (p 3)]) (k:Int) 4 1 false (by omega) (v:= zI (p k)) (show nth (eP4 p) _=_ from am9 (by omega))<|zD 4 ?_
  have hpk:=hp k
  refine zD 4<|js 39 (decide ((p k)>0)) (fun h4=>?_) (fun h4=>?_)
  ·
   have uW:=h4
   replace uW:=of_decide_eq_true uW
   refine zD 3<|jl (b:=f) (off:=0) (m:=13) (vs:=[c0,c1,c2,.slice eo K.cs.length dX,.slice dJ hv.length dv,.slice kZ K.rules.length kY,.slice kI K.before.length jP,.slice kJ K.after.length jQ,zI K.gone,zI K.new,zI K.af,.slice mj K.facts.length lA,.slice nE rows.length mV]) 12 ⟨_,_,_,.inl hf,rfl⟩<|zD 3<|ja ((p k)-1) (by omega) ?_
   obtain⟨x48,Hk⟩:=zG rows past
   refine gX mV 16 M4 Hk<|I6 (b:=Ex) (off:=Ew+past*16+0) (len:=4) (sz:=4) (k:Int) (by omega)<|I6 (b:=Ex) (off:=Ew+past*16+0+(k:Int).toNat*4) (len:=4) (sz:=1) ((p k)-1) (by omega)<|jl (b:=Ex) (off:=Ew+past*16+0+(k:Int).toNat*4+((p k)-1).toNat*1) (m:=1) (vs:=[.bool (x48.c k ((p k)-1).toNat)]) 0 (show cD ⟨ro,[]⟩ Ex (Ew+past*16+0+(k:Int).toNat*4+((p k)-1).toNat*1) 1 [.bool (x48.c k ((p k)-1).toNat)] from by have:=ae4 (M3 _ _ Hk) (aeR (r:=x48) (a:=k) (j:=(p k)-1) (by omega) (by omega));simpa [Nat.add_assoc] using this) ?_
   refine zD 3<|js 53 (!(x48.c k ((p k)-1).toNat)) (fun h5=>?_) (fun h5=>?_)
   ·
    try simp only[zB] at h5
    refine jd 4 [0]<|ja (m+1) (by omega)<|jd 4 [0]<|ja ((k:Int)+1) (by omega)<|zD 2<|bF hK3 (⟨k+1,(m+1)⟩) ⟨by dsimp only;omega,by dsimp only;rw[Cs,hI.2.1];rw[CU] at Hk;cases Hk;simp only[decide_eq_true uW,h5,Bool.not_false,Bool.not_true,Bool.and_true,Bool.and_false,cond_true,cond_false,Int.add_zero],by dsimp only;omega⟩ (by dsimp only;omega) [0,1] (Sub.refl _)
   try simp only[zB] at h5
   refine zD 3<|ja ((k:Int)+1) (by omega)<|zD 2<|bF hK3 (⟨k+1,m⟩) ⟨by dsimp only;omega,by dsimp only;rw[Cs,hI.2.1];rw[CU] at Hk;cases Hk;simp only[decide_eq_true uW,h5,Bool.not_false,Bool.not_true,Bool.and_true,Bool.and_false,cond_true,cond_false,Int.add_zero],by dsimp only;omega⟩ (by dsimp only;omega) [0,1] (Sub.refl _)
  have uW:=h4
  replace uW:=of_decide_eq_false uW
  refine zD 18<|ja ((k:Int)+1) (by omega)<|zD 2<|bF hK3 (⟨k+1,m⟩) ⟨by dsimp only;omega,by dsimp only;rw[Cs,hI.2.1];simp only[decide_eq_false uW,Bool.false_and,cond_false,Int.add_zero],by dsimp only;omega⟩ (by dsimp only;omega) [0,1] (Sub.refl _)
 refine jd 8 [0,1]<|zR (.agg ⟨[zI (past:Int),zI (p 0),zI (p 1),zI (p 2),zI (p 3),zI ((K.before.length:Int)-(rZ (pL p))),zI ((K.after.length:Int)-(rZ (pL p))),zI m]⟩) [1] [] [] ⟨by rw[hI.2.1,show k=4 by omega];rfl,rfl⟩
def xc(v:Value)(xs:List aj)(Y:Cells):Prop:=∃ys,ys.Perm xs∧aw v 8 138 cR ys Y
def gu(xs:List aj):Prop:=∀x∈xs,0≤x.past∧x.past≤1000
theorem gu.perm{xs ys:List aj}(h:gu xs)(hp:ys.Perm xs):gu ys:=fun x hx=>h x (hp.mem_iff.1 hx)
theorem Fy{x:Int}(h:0≤x∧x≤1000000000):IntKind.i64.wrap (aT .u64 (IntKind.u64.wrap x) 1)=x / 2:=by
 have h1:IntKind.u64.wrap x=x:=sL .u64 rfl _ (by omega) (by simp[IntKind.bits];omega)
 rw[h1]
 have h2:aT .u64 x 1=x / 2:=by
  show x.fdiv 2=x / 2
  exact Int.fdiv_eq_ediv_of_nonneg _ (by decide)
 rw[h2,kD _ (by omega)]
theorem an6{x y:aj}(hx:0≤x.past∧x.past≤1000)(hy:0≤y.past∧y.past≤1000):du zT 119 [.agg ⟨[zI x.past,zI x.w0,zI x.w1,zI x.w2,zI x.w3,zI x.gone,zI x.new,zI x.af]⟩,.agg ⟨[zI y.past,zI y.w0,zI y.w1,zI y.w2,zI y.w3,zI y.gone,zI y.new,zI y.af]⟩] ro (zI (x.past-y.past)):=by
 refine zE<|zD 2<|jn fun b2=>jn fun b3=>jd 8 [1,0]<|ja (x.past-y.past) (by omega)<|zD 3<|zX (zI (x.past-y.past)) ⟨rfl,rfl⟩
theorem aCj{v:Value}{xs:List aj}{L:Cells}{a b:Int}(ho:aw v 8 138 cR xs L)(hN:xs.length≤100000)(hP:gu xs)(zg:0≤a∧a≤b∧b≤xs.length):dG zT 218 [v,zI a,zI b,.func (.func 119) ⟨[]⟩ ⟨[]⟩] ro L (fun r Y=>xc v xs Y):=by
 refine zC [.l L]<|zD 3<|ja (a+1) (by omega)<|zD 3<|dw [1,0,0] [] (fun(zz:Int×(List aj)×Cells)=>[(0,v),(1,zI a),(2,zI b),(3,.func (.func 119) ⟨[]⟩ ⟨[]⟩),(8,zI zz.1)]) (fun zz=>[.l zz.2.2]) (fun zz=>(a+1≤zz.1)∧aw v 8 138 cR zz.2.1 zz.2.2∧zz.2.1.Perm xs) (fun zz=>(b-zz.1).toNat) (⟨(a+1),xs,L⟩) ⟨by dsimp only;omega,ho,.refl _⟩ [0] ?_
 rintro⟨i,ys,L⟩ hI K1 bG rest
 dsimp only at hI
 have Rz:=hI.2.2.length_eq
 have hyp:=hP.perm hI.2.2
 refine zD 7<|zJ 14 (i <b) (fun h1=>?_) fun h1=>?_
 ·
  refine zD 10<|dw [1,0,0,1,0,0,1,0,0] [K1] (fun(zz:Int×(List aj)×Cells)=>[(0,v),(1,zI a),(2,zI b),(3,.func (.func 119) ⟨[]⟩ ⟨[]⟩),(8,zI i),(9,zI zz.1)]) (fun zz=>[.l zz.2.2]) (fun zz=>(a≤zz.1∧zz.1≤i)∧aw v 8 138 cR zz.2.1 zz.2.2∧zz.2.1.Perm xs) (fun zz=>(zz.1-a).toNat) (⟨i,ys,L⟩) ⟨by dsimp only;omega,hI.2⟩ [0] ?_
  rintro⟨j,ys,L⟩ hJ K2 jV rest
  dsimp only at hJ
  have Rz:=hJ.2.2.length_eq
  have hyp:=hP.perm hJ.2.2
  refine zD 7<|js 3 (decide (j>a)) (fun h2=>?_) (fun h2=>?_)
  ·
   have k9:=h2
   replace k9:=of_decide_eq_true k9
   refine zD 3 ?_
   obtain⟨xf,ju⟩:=zG ys (j.toNat) (by first|omega| (simp only[List.length_set];omega))
   refine mW j 8 hJ.2.1 ju (Int.toNat_of_nonneg (show 0≤j∧j <((ys).length:Int) from (by first|omega| (simp only[List.length_set];omega))).1).symm (fun nS VZ=>?_)
   refine ki 0 [0] L (fun s _ hZ=>bh hJ.2.1 VZ hZ ju)<|zD 2<|ja (j-1) (by omega) ?_
   obtain⟨kB,fS⟩:=zG ys ((j-1).toNat) (by first|omega| (simp only[List.length_set];omega))
   refine mW (j-1) 8 hJ.2.1 fS (Int.toNat_of_nonneg (show 0≤(j-1)∧(j-1) <((ys).length:Int) from (by first|omega| (simp only[List.length_set];omega))).1).symm (fun b30 NZ=>?_)
   refine ki 0 [0] L (fun s _ hZ=>bh hJ.2.1 NZ hZ fS)<|aS 14 fun oP oR nK=>jp (vs:=[.agg ⟨[zI xf.past,zI xf.w0,zI xf.w1,zI xf.w2,zI xf.w3,zI xf.gone,zI xf.new,zI xf.af]⟩,.agg ⟨[zI kB.past,zI kB.w0,zI kB.w1,zI kB.w2,zI kB.w3,zI kB.gone,zI kB.new,zI kB.af]⟩]) [] [] (fun aG hs hZ=>(an6 (x:=xf) (y:=kB) (hyp _ (zL ju)) (hyp _ (zL fS))))<|eG nK [0]<|zD 3<|zJ 34 ((xf.past-kB.past) <0) (fun h4=>?_) fun h4=>?_
   ·
    refine zD 9<|ja (j-1) (by omega)<|zD 2<|ja (j-1) (by omega) ?_
    obtain⟨sJ,sa⟩:=zG ys ((j-1).toNat) (by first|omega| (simp only[List.length_set];omega))
    refine mW (j-1) 8 hJ.2.1 sa (Int.toNat_of_nonneg (show 0≤(j-1)∧(j-1) <((ys).length:Int) from (by first|omega| (simp only[List.length_set];omega))).1).symm (fun b45 VY=>?_)
    refine ki 0 [0] L (fun s _ hZ=>bh hJ.2.1 VY hZ sa)<|zD 2 ?_
    obtain⟨Em,wy⟩:=zG ys (j.toNat) (by first|omega| (simp only[List.length_set];omega))
    refine mW j 8 hJ.2.1 wy (Int.toNat_of_nonneg (show 0≤j∧j <((ys).length:Int) from (by first|omega| (simp only[List.length_set];omega))).1).symm (fun b49 VX=>?_)
    refine ki 0 [0] L (fun s _ hZ=>bh hJ.2.1 VX hZ wy) ?_
    obtain⟨x51,y4⟩:=zG ys (j.toNat) (by first|omega| (simp only[List.length_set];omega))
    refine mW j 8 hJ.2.1 y4 (Int.toNat_of_nonneg (show 0≤j∧j <((ys).length:Int) from (by first|omega| (simp only[List.length_set];omega))).1).symm (fun b51 VW=>?_)
    refine aS 15 fun qU qV pK=>Fp 0 0 [zI sJ.past,zI sJ.w0,zI sJ.w1,zI sJ.w2,zI sJ.w3,zI sJ.gone,zI sJ.new,zI sJ.af] sJ hJ.2.1 VW y4 rfl rfl (Nat.le_of_ble_eq_true rfl) fun L6 TJ=>gx pK [] ?_
    obtain⟨x52,th⟩:=zG ((ys.set j.toNat sJ)) ((j-1).toNat) (by first|omega| (simp only[List.length_set];omega))
    refine mW (j-1) 8 TJ th (Int.toNat_of_nonneg (show 0≤(j-1)∧(j-1) <(((ys.set j.toNat sJ)).length:Int) from (by first|omega| (simp only[List.length_set];omega))).1).symm (fun b52 VV=>?_)
    refine aS 17 fun yz yF zh=>Fp 0 0 [zI Em.past,zI Em.w0,zI Em.w1,zI Em.w2,zI Em.w3,zI Em.gone,zI Em.new,zI Em.af] Em TJ VV th rfl rfl (Nat.le_of_ble_eq_true rfl) fun L9 NR=>fW zh<|zD 3<|ja (j-1) (by omega)<|zD 2<|bF jV (⟨(j-1),((ys.set j.toNat sJ).set ((j-1).toNat) Em),L9⟩) ⟨by dsimp only;omega,NR,(lY wy sa).trans hJ.2.2⟩ (by dsimp only;omega) [0] (Sub.refl _)
   refine zD 4<|ja (i+1) (by omega)<|zD 2<|bF bG (⟨(i+1),ys,L⟩) ⟨by dsimp only;omega,hJ.2⟩ (by dsimp only;omega) [0] (Sub.refl _)
  have k9:=h2
  replace k9:=of_decide_eq_false k9
  refine zD 18<|ja (i+1) (by omega)<|zD 2<|bF bG (⟨(i+1),ys,L⟩) ⟨by dsimp only;omega,hJ.2⟩ (by dsimp only;omega) [0] (Sub.refl _)
 refine zD 2<|zR (.tuple ⟨[]⟩) [] [0] L ⟨ys,hI.2.2,hI.2.1⟩
end Go.L
