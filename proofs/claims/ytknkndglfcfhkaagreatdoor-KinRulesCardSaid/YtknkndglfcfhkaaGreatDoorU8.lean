/- Part 8 of the proof. -/
import Derived.Test.YtknkndglfcfhkaaGreatDoorU7
set_option maxRecDepth 100000
set_option linter.all false
namespace Go.L
open Go Go.Conc Go.Proofs
variable {ro:Nat→Option Obj} {K:aC} {p:Nat→Int} {f k b n past bB b1 b2 bl bf br bg bt bo b3 b4:Nat} {rs:List aU} {cs:List bO} {hd:List cm} {l:List cY} {vl vc vh:Value} {fi ca:List Value} {na nb:ByteArray} {Stop:Cells→Prop} {x y:aA} {α:Type} {g:FuncId} {xs:List Int}
def uqN(rs:List aU)(a to:ByteArray):Nat→Nat→Option Nat
 |0,_=>none
 |f+1,m=>bif decide (0 <(DE rs to m a []).length) then some m else uqN rs a to f (m+1)
def uq(rs:List aU)(a to:ByteArray):Option Nat:=uqN rs a to 3 0
def jq(c:UInt8):ByteArray:=if c.toNat=67 then bs [99,104] else if c.toNat=74 then bs [106,117] else if c.toNat=89 then bs [106,97] else if c.toNat=88 then bs [115,104] else if c.toNat <97 then bs [c.toNat+32] else bs [c.toNat]
def IW:List UInt8→ByteArray→ByteArray
 | [],a=>a
 |c::l,a=>IW l (a++jq c)
def keyOf(w:ByteArray):ByteArray:=IW w.data.toList (bs [])
theorem al7{l:List UInt8}{c:UInt8}{a:ByteArray}(h:l[k]?=some c):IW (l.drop k) a=IW (l.drop (k+1)) (a++jq c):=by rw[fo h];rfl
theorem aeY{l:List UInt8}{a:ByteArray}(h:l[k]?=none):IW (l.drop k) a=a:=by rw[eo (by rw[List.getElem?_eq_none_iff] at h;omega)];rfl
def uX(rs:List aU)(a b:ByteArray):Int:=match uq rs (keyOf a) (keyOf b) with
 |none=>2
 |some 0=>1
 |some _=>3
structure q5(w:ByteArray):Prop where
 n:1≤w.size∧w.size≤6
 s:Script w
def T4(c:UInt8):Prop:=Gz c=true∨Gg c=true
theorem q5.let{w:ByteArray}(h:q5 w):∀c∈w.data.toList,T4 c:=fun c hc=>h.s.elim (fun k=> .inl (k c hc)) fun k=> .inr (k c hc)
theorem Zi:((List.range 256).all fun n=> !(Gz (UInt8.ofNat n)||Gg (UInt8.ofNat n))||(alY (jq (UInt8.ofNat n))&&(Nat.ble 1 (jq (UInt8.ofNat n)).size&&Nat.ble (jq (UInt8.ofNat n)).size 2)))=true:=by kernel_rfl
theorem Pp{c:UInt8}(h:T4 c):xk (jq c)∧1≤(jq c).size∧(jq c).size≤2:=by
 have h2:=List.all_eq_true.1 Zi c.toNat (List.mem_range.2 c.toNat_lt)
 have hb:UInt8.ofNat c.toNat=c:=by simp
 rw[hb] at h2
 have h3:(Gz c||Gg c)=true:=by rcases h with h|h<;>simp[h]
 rw[h3] at h2
 simp only[Bool.not_true,Bool.false_or,Bool.and_eq_true,Nat.ble_eq] at h2
 exact⟨yD h2.1,h2.2⟩
theorem Xl:∀ {l:List UInt8} {a:ByteArray},(∀c∈l,T4 c)→xk a→xk (IW l a)∧(IW l a).size≤a.size+2*l.length
 | [],a,_,ha=>⟨ha,by simp[IW]⟩
 |c::l,a,h,ha=>by
  have h1:=Pp (h c (by simp))
  obtain⟨h2,h3⟩:=Xl (l:=l) (a:=a++jq c) (fun x hx=>h x (by simp[hx])) (ha.app h1.1)
  refine⟨h2,?_⟩
  simp only[IW,ByteArray.size_append,List.length_cons] at h3 ⊢
  omega
theorem Qs{w:ByteArray}(h:q5 w):xk (keyOf w)∧(keyOf w).size≤12:=by
 have h1:=Xl (l:=w.data.toList) (a:=bs []) h.let (fun b hb=>by cases hb)
 have h2:w.data.toList.length=w.size:=Array.length_toList
 have h3:=h.n
 exact⟨h1.1,by have:=h1.2;have e:(bs []).size=0:=rfl;unfold keyOf;omega⟩
theorem alX{c:UInt8}(h:T4 c)(h1:¬(c.toNat:Int)=67)(h2:¬(c.toNat:Int)=74)(h3:¬(c.toNat:Int)=89)(h4:¬(c.toNat:Int)=88):aeL c=jq c:=by
 simp only[aeL,jq,if_neg (show ¬c.toNat=67 by omega),if_neg (show ¬c.toNat=74 by omega),if_neg (show ¬c.toNat=89 by omega),if_neg (show ¬c.toNat=88 by omega)]
 split
 ·simp only[abb,bs]
  rw[r5 .u8 rfl _ (by omega) (by simp[IntKind.bits];omega),show ((c.toNat:Int)+32).toNat=c.toNat+32 by omega]
  rfl
 simp[tE,bs]
theorem let_128{c:UInt8}(h:T4 c):c.toNat <128:=by
 rcases h with h|h
 ·simp only[Gz,Bool.and_eq_true,Nat.ble_eq] at h;omega
 simp only[Gg,Bool.and_eq_true,Nat.ble_eq] at h;omega
theorem asW{c:UInt8}(h:T4 c):dD zT 225 [.int .i32 (c.toNat:Int)] ro (.string (jq c)):=by
 refine zE<|zD 29<|zJ 5 ((c.toNat:Int)=67) (fun h1=>?_) fun h1=>?_
 ·
  refine zD 8<|zX (.string (bs [99,104])) ⟨by rw[jq,if_pos (by omega)]<;>rfl,rfl⟩
 refine zD 8<|zJ 7 ((c.toNat:Int)=74) (fun h2=>?_) fun h2=>?_
 ·
  refine zD 17<|jsa (a:=(bs [106])) (b:=(bs [117])) 9 (by decide)<|zD 3<|zX (.string ((bs [106])++(bs [117]))) ⟨by rw[jq,if_neg (by omega),if_pos (by omega)]<;>rfl,rfl⟩
 refine zD 8<|zJ 9 ((c.toNat:Int)=89) (fun h3=>?_) fun h3=>?_
 ·
  refine zD 16<|jsa (a:=(bs [106])) (b:=(bs [97])) 9 (by decide)<|zD 3<|zX (.string ((bs [106])++(bs [97]))) ⟨by rw[jq,if_neg (by omega),if_neg (by omega),if_pos (by omega)]<;>rfl,rfl⟩
 refine zD 7<|zJ 11 ((c.toNat:Int)=88) (fun h4=>?_) fun h4=>?_
 ·
  refine zD 8<|zX (.string (bs [115,104])) ⟨by rw[jq,if_neg (by omega),if_neg (by omega),if_neg (by omega),if_pos (by omega)]<;>rfl,rfl⟩
 refine zD 6<|je (.string (tE c)) (anL (let_128 h))<|jp (vs:=[.string (tE c)]) [] [] (fun aH hs hZ=>(aQB h))<|zD 3<|zX (.string (aeL c)) ⟨by rw[alX h (by omega) (by omega) (by omega) (by omega)],rfl⟩
theorem alP{w to:ByteArray}(hl:bI ro vl 2 e9 rs)(hR:∀r∈rs,mY r)(hw:xk w)(rE:w.size≤100)(hq:rs.length≤100):dR zT 206 [.string w,vl,.string to] ro [] (fun r Y=>(∃n v ps,uq rs w to=some n∧r= .tuple ⟨[v,.bool true]⟩∧ay v 1 9 mf ps Y∧ps.length=n+1)∨(uq rs w to=none∧r= .tuple ⟨[zS,.bool false]⟩∧Y=[])):=by
 obtain⟨fu,ry,rq,eI,rfl,tx,lv,mj⟩:=hl
 refine zE<|zD 11<|dS [1,0,1,0,0] [] (fun(zz:Nat)=>[(0,.string w),(1,.slice fu rs.length eI),(2,.string to),(11,zI (zz:Int))]) (fun zz=>[]) (fun zz=>zz≤3∧uq rs w to=uqN rs w to (3-zz) zz) (fun zz=>3-zz) 0 ⟨by omega,rfl⟩ [] ?_
 rintro k hI K1 bL rest
 refine zD 5<|zJ 12 ((k:Int) <3) (fun h1=>?_) fun h1=>?_
 ·
  refine zD 15<|jc (vs:=[.string w,.slice fu rs.length eI,.string to,zI (k:Int)]) [] (aes (show bI _ _ _ _ _ from ⟨fu,ry,rq,eI,rfl,tx,lv,mj⟩)) ?_
  rintro _ _ ⟨aeJ,aeI,aeH,aeG,rfl,rfl⟩
  refine jg 0 [.b aeJ (.cells ⟨[.string w]⟩ 299 (0,0)),.b aeI (.cells ⟨[.slice fu rs.length eI]⟩ 36 (0,0)),.b aeH (.cells ⟨[.string to]⟩ 299 (0,0)),.b aeG (.cells ⟨[zI (k:Int)]⟩ 3 (0,0))]<|jf (zN 0 4) ((aeJ,.cells ⟨[.string w]⟩ 299 (0,0))::((aeI,.cells ⟨[.slice fu rs.length eI]⟩ 36 (0,0))::((aeH,.cells ⟨[.string to]⟩ 299 (0,0))::[(aeG,.cells ⟨[zI (k:Int)]⟩ 3 (0,0))]))) fun ro4 pU hk3=>jc (vs:=[.func (.func 245) ⟨[]⟩ ⟨[zP aeG,zP aeH,zP aeI,zP aeJ]⟩,.func (.func 228) ⟨[]⟩ ⟨[]⟩]) [] (asY (Z5 (hk3 _ (.tail _ (.tail _ (.tail _ (.head _))))) (hk3 _ (.tail _ (.tail _ (.head _)))) (hk3 _ (.tail _ (.head _))) (hk3 _ (.head _)) ((show bI _ _ _ _ _ from ⟨fu,ry,rq,eI,rfl,tx,lv,mj⟩).up pU) hR hw rE hq (by omega)) (fun x hx=>by have:=N2 hx;simp at this;omega)) ?_
  rintro _ L20 ⟨v20,rfl,aK0,aNk,auP⟩
  refine zD 10<|js 23 (decide (0 <(DE rs to k w []).length)) (fun h5=>?_) (fun h5=>?_)
  ·
   refine zD 8<|aM q0.a (.tuple ⟨[v20,.bool true]⟩) [] [0] L20 pU ⟨_,_,rfl,rfl,.inl ⟨k,v20,aK0,by rw[hI.2,show 3-k=(3-(k+1))+1 by omega,uqN,h5];rfl,rfl,aNk,by have:=N2 (auP (of_decide_eq_true h5));simpa using this⟩⟩
  refine zD 3<|ja ((k:Int)+1) (by omega)<|zD 2<|bJ bL (k+1) ⟨by omega,by rw[hI.2,show 3-k=(3-(k+1))+1 by omega,uqN,h5];rfl⟩ (by omega) [] pU
 refine zD 8<|zX (.tuple ⟨[zS,.bool false]⟩) (.inr ⟨by rw[hI.2,show 3-k=0 by omega];rfl,rfl,rfl⟩)
theorem atb{c:UInt8}(h:T4 c):c.toNat <128:=by
 rcases h with h|h
 ·simp only[Gz,Bool.and_eq_true,Nat.ble_eq] at h;omega
 simp only[Gg,Bool.and_eq_true,Nat.ble_eq] at h;omega
theorem asZ{w to:ByteArray}(hl:bI ro vl 2 e9 rs)(hR:∀r∈rs,mY r)(hw:xk w)(rE:w.size≤100)(hq:rs.length≤100):dR zT 206 [.string w,vl,.string to] ro [] (fun r Y=>∃v ps ok,r= .tuple ⟨[v,.bool ok]⟩∧ay v 1 9 mf ps Y∧(ok=true→uq rs w to=some (ps.length-1)∧1≤ps.length)∧(ok=false→uq rs w to=none)):=by
 refine(alP hl hR hw rE hq).mono fun _ _ h=>?_
 rcases h with ⟨n,v,ps,h1,h2,h3,h4⟩| ⟨h1,h2,h3⟩
 ·exact⟨v,ps,true,h2,h3,fun _=>⟨by rw[h4];exact h1,by omega⟩,nofun⟩
 subst h3;exact⟨_,[],false,h2,ay.nil _ _ _,nofun,fun _=>h1⟩
def uN(rs:List aU)(a b:ByteArray):Int:=match uq rs a b with
 |some n=>n
 |none=>0
def uE(rs:List aU)(a b:ByteArray):Int:=match uq rs a b with
 |some _=>0
 |none=>11
theorem aoE{a to:ByteArray}:∀ {f m n:Nat},uqN rs a to f m=some n→n <m+f
 |0,_,_,h=>by cases h
 |f+1,m,n,h=>by
  simp only[uqN] at h
  cases hd:decide (0 <(DE rs to m a []).length) with
  |true=>rw[hd] at h;simp only[cond_true,Option.some.injEq] at h;omega
  |false=>rw[hd] at h;simp only[cond_false] at h;have:=aoE h;omega
theorem nOf{w:ByteArray}(hw:q5 w):dD zT 205 [.string w] ro (.string (keyOf w)):=by
 refine zE<|zD 12<|jn fun r7=>zD 2<|dS [1,1,0,1,0,0] [] (fun(zz:Nat×ByteArray)=>[(2,.string (bs [])),(3,.string zz.2),(7,zP r7)]) (fun zz=>[.b r7 (.stringIter w zz.1)]) (fun zz=>(zz.1≤w.data.toList.length∧zz.2.size≤2*zz.1)∧keyOf w=IW (w.data.toList.drop zz.1) zz.2) (fun zz=>w.data.toList.length-zz.1) (⟨0,(bs [])⟩) ⟨⟨by omega,Nat.le_refl _⟩,rfl⟩ [0] ?_
 rintro⟨p,a⟩ hI K1 bL rest
 dsimp only at hI
 refine zD 2 ?_
 cases hn8:w.data.toList[p]? with
 |some x8=>
  refine jnA r7 0 hn8 (atb (hw.let _ (zL hn8)))<|zD 11 ?_
  have hso:=Pp (hw.let _ (zL hn8))
  have hlen:w.data.toList.length=w.size:=Array.length_toList
  have hwn:=hw.n
  refine zD 3<|jp (vs:=[.int .i32 (x8.toNat:Int)]) [] [] (fun aH hs hZ=>(asW (hw.let _ (zL hn8))))<|jsa (a:=a) (b:=(jq x8)) 9 (by omega)<|zD 2<|bJ bL (⟨p+1,(a++jq x8)⟩) ⟨⟨by have:=(List.getElem?_eq_some_iff.1 hn8).1;dsimp only;omega,by dsimp only;rw[ByteArray.size_append];omega⟩,by rw[hI.2,al7 hn8]⟩ (by have:=(List.getElem?_eq_some_iff.1 hn8).1;dsimp only;omega) [0] (Sub.refl _)
 |none=>
  refine jnZ r7 0 hn8<|zD 11<|zX (.string a) ⟨by rw[hI.2,aeY hn8],rfl⟩
theorem alO(hl:bI ro vl 2 e9 rs)(hR:∀r∈rs,mY r)(hq:rs.length≤4)(EX:q5 na)(B6:q5 nb):dR zT 165 [vl,.string na,.string nb] ro [] (fun r Y=>∃v ps e,r= .tuple ⟨[v,zI e]⟩∧ay v 1 9 mf ps Y∧ps.length≤3∧((e=0∧uq rs (keyOf na) (keyOf nb)=some (ps.length-1)∧1≤ps.length)∨(e=11∧uq rs (keyOf na) (keyOf nb)=none))):=by
 obtain⟨fu,ry,rq,eI,rfl,tx,lv,mj⟩:=hl
 refine zE<|zD 9<|jp (vs:=[.slice fu rs.length eI]) [] [] (fun aH hs hZ=>Z0 ((show bI _ _ _ _ _ from ⟨fu,ry,rq,eI,rfl,tx,lv,mj⟩).up hs) (by omega) hR)<|zD 14<|jn fun H5=>jp (vs:=[.slice (some ⟨H5,0,none⟩) 2 2]) [0] [(H5,.cells ⟨([na,nb].map mf).flatten⟩ 9 (0,0))] (fun aH hs hZ=>aer (bC [na,nb] hZ.head (by intro p hp;rfl)) (by first|omega| (simp only[List.length_set,zM];omega)) (by intro x hx;simp only[List.mem_cons,List.not_mem_nil,or_false] at hx;rcases hx with rfl|rfl;exact⟨EX.n,EX.s⟩;exact⟨B6.n,B6.s⟩)) ?_
 refine zD 12<|jp (vs:=[.string na]) [] [] (fun aH hs hZ=>(nOf EX))<|zD 2<|jp (vs:=[.string nb]) [] [] (fun aH hs hZ=>(nOf B6))<|jc (vs:=[.string (keyOf na),.slice fu rs.length eI,.string (keyOf nb)]) [] (asZ (show bI _ _ _ _ _ from ⟨fu,ry,rq,eI,rfl,tx,lv,mj⟩) hR (Qs EX).1 (by have:=(Qs EX).2;omega) (by omega)) ?_
 rintro _ L30 ⟨v30,aKZ,aK9,rfl,B4,atS,aL1⟩
 refine zD 12<|js 34 (!aK9) (fun h1=>?_) (fun h1=>?_)
 ·
  try simp only[zB] at h1
  refine zD 7<|zX (.tuple ⟨[zS,zI 11]⟩) ⟨_,[],_,rfl,ay.nil _ _ _,by simp,.inr ⟨rfl,aL1 (by simp_all)⟩⟩
 try simp only[zB] at h1
 refine zD 9<|zR (.tuple ⟨[v30,zI 0]⟩) [] [0] L30 ⟨_,aKZ,_,rfl,B4,by have:=aoE (atS (by simp_all)).1;have:=(atS (by simp_all)).2;omega,.inl ⟨rfl,atS (by simp_all)⟩⟩
theorem aBo(hl:bI ro vl 2 e9 rs)(hR:∀r∈rs,mY r)(hq:rs.length≤4)(EX:q5 na)(B6:q5 nb):dD zT 122 [vl,.string na,.string nb] ro (.tuple ⟨[zI (uN rs (keyOf na) (keyOf nb)),zI (uE rs (keyOf na) (keyOf nb))]⟩):=by
 obtain⟨fu,ry,rq,eI,rfl,tx,lv,mj⟩:=hl
 refine zE<|zD 10<|jc (vs:=[.slice fu rs.length eI,.string na,.string nb]) [] (alO (show bI _ _ _ _ _ from ⟨fu,ry,rq,eI,rfl,tx,lv,mj⟩) hR hq EX B6) ?_
 rintro _ L14 ⟨v14,aAY,NR,rfl,Uz,aZk,uJ⟩
 refine zD 12<|js 18 (!decide (NR=0)) (fun h1=>?_) (fun h1=>?_)
 ·
  replace h1:=of_decide_eq_false (by simpa using h1)
  refine zD 8<|zX (.tuple ⟨[zI 0,zI NR]⟩) ⟨by rcases uJ with ⟨h1,h2,h3⟩| ⟨h1,h2⟩<;>simp only[uN,uE,h2]<;>(subst h1;simp_all<;>omega),rfl⟩
 replace h1:=of_decide_eq_true (by simpa using h1)
 refine zD 5<|B0 Uz<|ja ((aAY.length:Int)-1) (by omega)<|zD 4<|zX (.tuple ⟨[zI ((aAY.length:Int)-1),zI 0]⟩) ⟨by rcases uJ with ⟨h1,h2,h3⟩| ⟨h1,h2⟩<;>simp only[uN,uE,h2]<;>(subst h1;simp_all<;>omega),rfl⟩
theorem Qc(hl:bI ro vl 2 e9 rs)(hR:∀r∈rs,mY r)(hq:rs.length≤4)(EX:q5 na)(B6:q5 nb):dD zT 97 [vl,.string na,.string nb] ro (.tuple ⟨[zI (uX rs na nb),zI 0]⟩):=by
 obtain⟨fu,ry,rq,eI,rfl,tx,lv,mj⟩:=hl
 refine zE<|zD 10<|jp (vs:=[.slice fu rs.length eI,.string na,.string nb]) [] [] (fun aH hs hZ=>aBo ((show bI _ _ _ _ _ from ⟨fu,ry,rq,eI,rfl,tx,lv,mj⟩).up hs) hR hq EX B6)<|zD 14<|zJ 17 ((uE rs (keyOf na) (keyOf nb))=11) (fun h1=>?_) fun h1=>?_
 ·
  refine zD 7<|zX (.tuple ⟨[zI 2,zI 0]⟩) ⟨by simp only[uN,uE,uX] at*;rcases huq:uq rs (keyOf na) (keyOf nb) with _|_|n<;>simp_all<;>omega,rfl⟩
 refine zD 7<|js 20 (!decide ((uE rs (keyOf na) (keyOf nb))=0)) (fun h2=>?_) (fun h2=>?_)
 ·
  replace h2:=of_decide_eq_false (by simpa using h2)
  refine zD 8<|zX (.tuple ⟨[zI 0,zI (uE rs (keyOf na) (keyOf nb))]⟩) ⟨by simp only[uN,uE,uX] at*;rcases huq:uq rs (keyOf na) (keyOf nb) with _|_|n<;>simp_all<;>omega,rfl⟩
 replace h2:=of_decide_eq_true (by simpa using h2)
 refine zD 7<|zJ 24 ((uN rs (keyOf na) (keyOf nb))=0) (fun h3=>?_) fun h3=>?_
 ·
  refine zD 7<|zX (.tuple ⟨[zI 1,zI 0]⟩) ⟨by simp only[uN,uE,uX] at*;rcases huq:uq rs (keyOf na) (keyOf nb) with _|_|n<;>simp_all<;>omega,rfl⟩
 refine zD 8<|zX (.tuple ⟨[zI 3,zI 0]⟩) ⟨by simp only[uN,uE,uX] at*;rcases huq:uq rs (keyOf na) (keyOf nb) with _|_|n<;>simp_all<;>omega,rfl⟩
abbrev SH(x:Int):List Value:=[.int .u8 x]
structure bG where
 c:Nat→Nat→Bool
abbrev AS(x:bG):List Value:=[.bool (x.c 0 0),.bool (x.c 0 1),.bool (x.c 0 2),.bool (x.c 0 3),.bool (x.c 1 0),.bool (x.c 1 1),.bool (x.c 1 2),.bool (x.c 1 3),.bool (x.c 2 0),.bool (x.c 2 1),.bool (x.c 2 2),.bool (x.c 2 3),.bool (x.c 3 0),.bool (x.c 3 1),.bool (x.c 3 2),.bool (x.c 3 3)]
def mC(cs:List bO):Nat→List Int
 |0=>[]
 |k+1=>mC cs k++[match cs[k]? with
  |some c=>if 0≤c.under then KB .u8 (KB .u8 0 (dz .u8 1 k)) ((mC cs k)[c.under.toNat]?.getD 0) else KB .u8 0 (dz .u8 1 k)
  |none=>0]
theorem ov(cs:List bO):∀k,(mC cs k).length=k
 |0=>rfl
 |k+1=>by simp[mC,ov cs k]
theorem anY{c:bO}{y:Int}(h:cs[k]?=some c) (hu:0≤c.under) (hy:(mC cs k)[c.under.toNat]?=some y):mC cs (k+1)=mC cs k++[KB .u8 (KB .u8 0 (dz .u8 1 k)) y]:=by
 simp only[mC,h,if_pos hu,hy,Option.getD_some]
theorem anZ{c:bO}(h:cs[k]?=some c) (hu:¬0≤c.under):mC cs (k+1)=mC cs k++[KB .u8 0 (dz .u8 1 k)]:=by
 simp only[mC,h,if_neg hu]
def aeK(s:Int):Nat→Int
 |0=> -1
 |k+1=>bif hasB s k then k else aeK s k
def Gy(cs:List bO)(a b:Int):Int:=aeK (Ug .u8 ((mC cs cs.length)[a.toNat]?.getD 0) ((mC cs cs.length)[b.toNat]?.getD 0)) cs.length
def Yo(hd:List cm)(h:Int):Int:=match hd[h.toNat]? with
 |some x=>x.cls
 |none=>0
def kP(K:aC)(x y:aA):Bool:=decide (uX K.rules x.name y.name=2)
def nD(K:aC)(x y:aA):Bool:=if (x.head <0∨y.head <0)∨x.head=y.head then false else decide (Gy K.cs (Yo K.hd x.head) (Yo K.hd y.head) <0)
def xv(on:Int)(a b:Int):List cY→Nat→Bool
 | [],_=>false
 |x::l,k=>(((hasB on k&&decide (x.a=a))&&decide (x.b=b))&& !x.same)||xv on a b l (k+1)
def di(K:aC)(on:Int)(a b:Nat):Bool:=match K.before[a]?,K.after[b]? with
 |some x,some y=> !kP K x y&&(!nD K x y&& !xv on a b K.facts 0)
 |_,_=>false
structure eN(K:aC):Prop where
 rules:K.rules.length≤4∧∀r∈K.rules,mY r
 before:K.before.length≤4∧∀p∈K.before,q5 p.name∧nH K.hd p.head
 after:K.after.length≤4∧∀p∈K.after,q5 p.name∧nH K.hd p.head
 cZ:lj K.cs K.hd
 facts:K.facts.length≤4∧∀x∈K.facts,(0≤x.a∧x.a <K.before.length)∧(0≤x.b∧x.b <K.after.length)
def oL(ro:Nat→Option Obj)(f:Nat)(K:aC)(rows:List bG):Prop:=∃(c0 c1 c2 vc vh vr vb va vf vt:Value) (hv:List bx),
 ro f=some (.cells ⟨[c0,c1,c2,vc,vh,vr,vb,va,zI K.gone,zI K.new,zI K.af,vf,vt]⟩ 150 (0,0))∧iT ro vc vh K.cs hv K.hd∧dq dj hv K.hd∧
 bI ro vr 2 e9 K.rules∧bI ro vb 5 eA K.before∧bI ro va 5 eA K.after∧bI ro vf 3 rM K.facts∧bI ro vt 16 AS rows
theorem oL.up{aI:Nat→Option Obj}{rows:List bG}(h:oL ro f K rows)(hs:Sub ro aI):oL aI f K rows:=by
 obtain⟨c0,c1,c2,vc,vh,vr,vb,va,vf,vt,hv,h1,h2,h3,h4,h5,h6,h7,h8⟩:=h
 exact⟨c0,c1,c2,vc,vh,vr,vb,va,vf,vt,hv,hs _ _ h1,h2.up hs,h3,h4.up hs,h5.up hs,h6.up hs,h7.up hs,h8.up hs⟩
theorem aJD{f i:Int}(hi:0≤i∧i≤8):dD zT 325 [.int .u8 f,zI i] ro (.bool (hasB f i)):=by
 refine zE<|zD 8<|jsr (k:= .u8) (k':= .i64) (a:=f) (b:=i) 414 (by omega)<|zD 5<|zX (.bool (decide ((Ug .u8 (aT .u8 f i) 1)=1))) ⟨rfl,rfl⟩
theorem azz{f i:Int}(hi:0≤i∧i≤8):dD zT 326 [.int .u8 f,zI i] ro (.int .u8 (KB .u8 f (dz .u8 1 i))):=by
 refine zE<|zD 8<|jsh (k:= .u8) (k':= .i64) (a:=1) (b:=i) 414 (by omega)<|zD 4<|zX (.int .u8 (KB .u8 f (dz .u8 1 i))) ⟨rfl,rfl⟩
theorem arP{hv:List bx}(hR:iT ro vc vh cs hv hd)(nv:dq dj hv hd)(hT:lj cs hd):dR zT 324 [.agg ⟨[vc,vh]⟩] ro [] (fun r Y=>∃b vS LS vE,r= .tuple ⟨[zP b,zI 0]⟩∧ay vS 1 414 SH (mC cs cs.length) LS∧Y=(b,.cells ⟨[vc,vh,vS,vE]⟩ 418 (0,0))::LS):=by
 obtain⟨hc,hh,dc⟩:=id hR
 obtain⟨ei,Ae,Ad,dW,rfl,De,yq,yp⟩:=hc
 obtain⟨dG,uD,uC,dr,rfl,wP,qB,qA⟩:=hh
 have Ds:=hT.nc
 have hnh:=hT.nh
 have hlen:=nv.len
 refine zE<|zD 2<|jn fun b1=>jd 7 [0]<|jp (vs:=[.agg ⟨[.slice ei cs.length dW,.slice dG hv.length dr]⟩]) [] [] (fun aH hs hZ=>(Wl (hR.up hs) nv hT))<|jd 13 [0]<|jn fun y5=>jd 11 [1]<|oR<|dS [1,1,1,0,1,0,0] [] (fun(zz:Nat×Value×Cells)=>[(1,zP b1),(2,.pointer none),(3,zI 0),(5,zP y5),(20,.slice ei cs.length dW),(21,zI (cs.length:Int)),(22,zI (zz.1:Int))]) (fun zz=>[.l zz.2.2,.b y5 (.cells ⟨[.slice ei cs.length dW,.slice dG hv.length dr,zz.2.1,zS]⟩ 418 (0,0)),.b b1 (.cells ⟨[.slice ei cs.length dW,.slice dG hv.length dr]⟩ 35 (0,0))]) (fun zz=>zz.1≤cs.length∧ay zz.2.1 1 414 SH (mC cs zz.1) zz.2.2) (fun zz=>cs.length-zz.1) (⟨0,zS,[]⟩) ⟨by dsimp only;omega,ay.nil _ _ _⟩ [0,1,2] ?_
 rintro⟨k,vS,LS⟩ hI K1 bL rest
 dsimp only at hI
 refine zD 5<|zJ 23 ((k:Int) <(cs.length:Int)) (fun h1=>?_) fun h1=>?_
 ·
  refine zD 7 ?_
  obtain⟨x5,k8⟩:=zG cs k
  refine iB dW 2 yq k8<|jl 0 (yp _ _ k8)<|jn fun b7=>jd 4 [0] ?_
  have iD:=hT.cls _ _ k8
  have KD:=ov cs k
  refine zD 2<|jp (vs:=[.int .u8 0,zI (k:Int)]) [] [] (fun aH hs hZ=>(azz (by omega)))<|jd 9 [0]<|zJ 31 (x5.under≥0) (fun h2=>?_) fun h2=>?_
  ·
   refine jd 9 [2,0] ?_
   obtain⟨EH,xB⟩:=zG ((mC cs k)) (x5.under.toNat) (by first|omega| (simp only[List.length_set,zM];omega))
   refine pP x5.under 1 hI.2 xB (Int.toNat_of_nonneg (show 0≤x5.under∧x5.under <(((mC cs k)).length:Int) from (by have:=iD.2;simp only[ov];omega)).1).symm (fun b39 aO6=>?_)
   refine oH 0 [1] LS (fun s _ hZ=>cw hI.2 aO6 hZ xB)<|jd 10 [2]<|jn fun b48=>iC (sz:=1) (ps:=(mC cs k)) (qs:=[(KB .u8 (KB .u8 0 (dz .u8 1 (k:Int))) EH)]) (enc:=SH) (w:= .slice (some ⟨b48,0,none⟩) 1 1) [2] [0] [(b48,.cells ⟨([(KB .u8 (KB .u8 0 (dz .u8 1 (k:Int))) EH)].map SH).flatten⟩ 414 (0,0))] (hI.2) (fun s _ hZ=>bN [(KB .u8 (KB .u8 0 (dz .u8 1 (k:Int))) EH)] (hZ _ (.head _)) (by intro p hp;rfl)) (fun p _=>ai rfl) (by simp only[ov,List.length_cons,List.length_nil];omega) (fun v49 L49 GW=>?_)
   obtain⟨acx,acp,UI⟩:=GW.form
   subst UI
   refine jd 5 [3]<|ja ((k:Int)+1) (by omega)<|zD 2<|bJ bL (⟨k+1,(.slice acx (((mC cs k)++[(KB .u8 (KB .u8 0 (dz .u8 1 (k:Int))) EH)])).length acp),L49⟩) ⟨by dsimp only;omega,by rw[anY k8 (by omega) xB];exact GW⟩ (by dsimp only;omega) [0,3,4] (Sub.refl _)
  refine jd 9 [2]<|jn fun b48=>iC (sz:=1) (ps:=(mC cs k)) (qs:=[(KB .u8 0 (dz .u8 1 (k:Int)))]) (enc:=SH) (w:= .slice (some ⟨b48,0,none⟩) 1 1) [2] [0] [(b48,.cells ⟨([(KB .u8 0 (dz .u8 1 (k:Int)))].map SH).flatten⟩ 414 (0,0))] (hI.2) (fun s _ hZ=>bN [(KB .u8 0 (dz .u8 1 (k:Int)))] (hZ _ (.head _)) (by intro p hp;rfl)) (fun p _=>ai rfl) (by simp only[ov,List.length_cons,List.length_nil];omega) (fun v49 L49 GW=>?_)
  obtain⟨acx,acp,UI⟩:=GW.form
  subst UI
  refine jd 5 [3]<|ja ((k:Int)+1) (by omega)<|zD 2<|bJ bL (⟨k+1,(.slice acx (((mC cs k)++[(KB .u8 0 (dz .u8 1 (k:Int)))])).length acp),L49⟩) ⟨by dsimp only;omega,by rw[anZ k8 (by omega)];exact GW⟩ (by dsimp only;omega) [0,3,4] (Sub.refl _)
 refine jd 11 [2]<|oR<|dS [1,1,1,1,0,1,0,0] [] (fun(zz:Nat×Value×Cells×(List Value))=>[(2,.pointer none),(3,zI 0),(5,zP y5),(54,.slice dG hv.length dr),(55,zI (hv.length:Int)),(56,zI (zz.1:Int))]) (fun zz=>[.l zz.2.2.1,.b y5 (.cells ⟨[.slice ei cs.length dW,.slice dG hv.length dr,vS,zz.2.1]⟩ 418 (0,0)),.l LS,.b b1 (.cells ⟨[.slice ei cs.length dW,.slice dG hv.length dr]⟩ 35 (0,0))]) (fun zz=>(zz.1≤hv.length∧zz.2.2.2.length≤zz.1)∧ay zz.2.1 1 428 gv zz.2.2.2 zz.2.2.1) (fun zz=>hv.length-zz.1) (⟨0,zS,[],[]⟩) ⟨⟨by omega,Nat.le_refl _⟩,ay.nil _ _ _⟩ [0,2,1,3] ?_
 rintro⟨j,vE,LE,es⟩ hJ K2 mb rest
 dsimp only at hJ
 refine zD 5<|zJ 57 ((j:Int) <(hv.length:Int)) (fun h3=>?_) fun h3=>?_
 ·
  refine zD 6 ?_
  obtain⟨Fh,amB⟩:=zG hv j
  refine iB dr 4 qB amB<|jl 0 (qA _ _ amB)<|jn fun rX=>jsx 0 rX 0 [.string ByteArray.empty,zI 0,zI 0,zS] [.string Fh.word,zI Fh.cls,zI Fh.nW,Fh.dQ] 145 (mw dc _ (zL amB)) rfl<|zD 3 ?_
  obtain⟨y58,aYu,aMR⟩:=dc.get amB
  obtain⟨fu,ry,rq,eI,hqe,tx,lv,mj⟩:=aMR.2.2.2
  refine jmw 0 [.b rX (.cells ⟨[.string Fh.word,zI Fh.cls,zI Fh.nW,.slice fu y58.dQ.length eI]⟩ 145 (0,0))] (L:=[(rX,.cells ⟨[.string Fh.word,zI Fh.cls,zI Fh.nW,Fh.dQ]⟩ 145 (0,0))]) (by rw[hqe];rfl) ?_
  refine jd 6 [0]<|js 73 (!decide (Fh.nW=(-1))) (fun h4=>?_) (fun h4=>?_)
  ·
   replace h4:=of_decide_eq_false (by simpa using h4)
   refine jd 11 [2,0]<|aS 9 fun q9 ri p8=>jn fun b86=>ez p8 (zN 1 5)<|aS 10 fun rY sb qE=>iC (sz:=1) (ps:=es) (qs:=[(.iface 421 (.agg ⟨[zI Fh.nW]⟩):Value)]) (enc:=gv) (w:= .slice (some ⟨b86,0,none⟩) 1 1) [2] [0] [(b86,.cells ⟨([(.iface 421 (.agg ⟨[zI Fh.nW]⟩):Value)].map gv).flatten⟩ 428 (0,0))] (hJ.2) (fun s _ hZ=>bN [(.iface 421 (.agg ⟨[zI Fh.nW]⟩):Value)] (hZ _ (.head _)) (by intro p hp;rfl)) (by intro p hp;rw[List.mem_singleton] at hp;subst hp;exact ai rfl) (by simp only[List.length_cons,List.length_nil];omega) (fun v87 L87 afX=>?_)
   obtain⟨aI6,aIM,aOg⟩:=afX.form
   subst aOg
   refine fS qE [[2]]<|zD 2<|aS 13 fun Bo Bu Cc=>jd 1 [3]<|fS Cc []<|zD 2<|ja ((j:Int)+1) (by omega)<|zD 2<|bJ mb (⟨j+1,(.slice aI6 ((es++[(.iface 421 (.agg ⟨[zI Fh.nW]⟩):Value)])).length aIM),L87,(es++[(.iface 421 (.agg ⟨[zI Fh.nW]⟩):Value)])⟩) ⟨⟨by dsimp only;omega,by simp only[zM];omega⟩,afX⟩ (by dsimp only;omega) [0,3,4,5] (Sub.refl _)
  replace h4:=of_decide_eq_true (by simpa using h4)
  refine jd 8 [0]<|js 90 (!decide (Fh.cls=(-1))) (fun h8=>?_) (fun h8=>?_)
  ·
   replace h8:=of_decide_eq_false (by simpa using h8)
   refine jd 13 [2,0,0]<|aS 11 fun abZ acJ hL6=>jn fun aFS=>ez hL6 (zN 1 5)<|aS 12 fun aku akR Ra=>iC (sz:=1) (ps:=es) (qs:=[(.iface 423 (.agg ⟨[zI Fh.cls,.slice fu y58.dQ.length eI]⟩):Value)]) (enc:=gv) (w:= .slice (some ⟨aFS,0,none⟩) 1 1) [2] [0] [(aFS,.cells ⟨([(.iface 423 (.agg ⟨[zI Fh.cls,.slice fu y58.dQ.length eI]⟩):Value)].map gv).flatten⟩ 428 (0,0))] (hJ.2) (fun s _ hZ=>bN [(.iface 423 (.agg ⟨[zI Fh.cls,.slice fu y58.dQ.length eI]⟩):Value)] (hZ _ (.head _)) (by intro p hp;rfl)) (by intro p hp;rw[List.mem_singleton] at hp;subst hp;exact ai rfl) (by simp only[List.length_cons,List.length_nil];omega) (fun aWs aSb XJ=>?_)
   obtain⟨ay3,ayW,aDI⟩:=XJ.form
   subst aDI
   refine fS Ra [[2],[2]]<|zD 2<|aS 15 fun YT Zf hL8=>jd 1 [3]<|fS hL8 []<|zD 2<|ja ((j:Int)+1) (by omega)<|zD 2<|bJ mb (⟨j+1,(.slice ay3 ((es++[(.iface 423 (.agg ⟨[zI Fh.cls,.slice fu y58.dQ.length eI]⟩):Value)])).length ayW),aSb,(es++[(.iface 423 (.agg ⟨[zI Fh.cls,.slice fu y58.dQ.length eI]⟩):Value)])⟩) ⟨⟨by dsimp only;omega,by simp only[zM];omega⟩,XJ⟩ (by dsimp only;omega) [0,3,4,5] (Sub.refl _)
  replace h8:=of_decide_eq_true (by simpa using h8)
  refine jd 11 [2,0]<|aS 9 fun YS Ze UY=>jn fun b69=>ez UY (zN 1 5)<|aS 10 fun Fc FA tS=>iC (sz:=1) (ps:=es) (qs:=[(.iface 425 (.agg ⟨[.slice fu y58.dQ.length eI]⟩):Value)]) (enc:=gv) (w:= .slice (some ⟨b69,0,none⟩) 1 1) [2] [0] [(b69,.cells ⟨([(.iface 425 (.agg ⟨[.slice fu y58.dQ.length eI]⟩):Value)].map gv).flatten⟩ 428 (0,0))] (hJ.2) (fun s _ hZ=>bN [(.iface 425 (.agg ⟨[.slice fu y58.dQ.length eI]⟩):Value)] (hZ _ (.head _)) (by intro p hp;rfl)) (by intro p hp;rw[List.mem_singleton] at hp;subst hp;exact ai rfl) (by simp only[List.length_cons,List.length_nil];omega) (fun v70 L70 afZ=>?_)
  obtain⟨aI9,aIP,aOj⟩:=afZ.form
  subst aOj
  refine fS tS [[2]]<|zD 2<|aS 13 fun Jn Jv Cj=>jd 1 [3]<|fS Cj []<|zD 2<|ja ((j:Int)+1) (by omega)<|zD 2<|bJ mb (⟨j+1,(.slice aI9 ((es++[(.iface 425 (.agg ⟨[.slice fu y58.dQ.length eI]⟩):Value)])).length aIP),L70,(es++[(.iface 425 (.agg ⟨[.slice fu y58.dQ.length eI]⟩):Value)])⟩) ⟨⟨by dsimp only;omega,by simp only[zM];omega⟩,afZ⟩ (by dsimp only;omega) [0,3,4,5] (Sub.refl _)
 refine zD 9<|zR (.tuple ⟨[zP y5,zI 0]⟩) [] [1,2] ((y5,.cells ⟨[.slice ei cs.length dW,.slice dG hv.length dr,vS,vE]⟩ 418 (0,0))::LS) ⟨_,_,LS,_,rfl,by have:=hI.2;rwa[show k=cs.length by omega] at this,rfl⟩
theorem Xc{s:Int}{j:Int}(h:0≤j):aeK s (j+1).toNat=bif hasB s j then j else aeK s j.toNat:=by
 obtain⟨m,rfl⟩:=Int.eq_ofNat_of_zero_le h
 rfl
theorem Wv{on a b:Int}{x:cY}(h:l[k]?=some x):xv on a b (l.drop k) k=((((hasB on k&&decide (x.a=a))&&decide (x.b=b))&& !x.same)||xv on a b (l.drop (k+1)) (k+1)):=by rw[fo h];rfl
theorem adb{on a b:Int}(h:¬k <l.length):xv on a b (l.drop k) k=false:=by rw[eo h];rfl
theorem XV{hv:List bx}{h:Int}{x:bx}(hS:dq dj hv hd)(hT:lj cs hd)(hk:nH hd h)(h0:0≤h)(hx:hv[h.toNat]?=some x):Yo hd h=x.cls∧0≤x.cls∧x.cls <cs.length:=by
 obtain⟨y,hy,hs⟩:=hS.get hx
 rcases hk with rfl| ⟨_,z,hz,hc⟩
 ·omega
 rw[hy] at hz;cases hz
 have:=(hT.AD _ _ hy).2.1
 exact⟨by simp[Yo,hy,hs.2.1],hs.2.1▸hc,by rw[hs.2.1];exact this.2⟩
theorem XU{hv:List bx}{h:Int}(hS:dq dj hv hd)(hk:nH hd h)(h0:0≤h):h <hv.length:=by
 rcases hk with rfl| ⟨_,z,hz,_⟩
 ·omega
 have:=(List.getElem?_eq_some_iff.1 hz).1
 rw[hS.len];omega
theorem arG{hv:List bx}{a b:Int}(hR:iT ro vc vh cs hv hd)(nv:dq dj hv hd)(hT:lj cs hd)(ha:0≤a∧a <cs.length)(hb:0≤b∧b <cs.length):dD zT 323 [.agg ⟨[vc,vh]⟩,zI a,zI b] ro (.tuple ⟨[zI (Gy cs a b),zI 0]⟩):=by
 obtain⟨hc,hh,dc⟩:=id hR
 obtain⟨ei,Ae,Ad,dW,rfl,De,yq,yp⟩:=hc
 obtain⟨dG,uD,uC,dr,rfl,wP,qB,qA⟩:=hh
 have Ds:=hT.nc
 have hnh:=hT.nh
 have hlen:=nv.len
 have KD:=ov cs cs.length
 refine zE<|zD 2<|jn fun b3=>jd 6 [0]<|jc (vs:=[.agg ⟨[.slice ei cs.length dW,.slice dG hv.length dr]⟩]) [] (arP hR nv hT) ?_
 rintro _ _ ⟨bT,vS,LS,vE,rfl,hS,rfl⟩
 refine jg 0 [.b bT (.cells ⟨[.slice ei cs.length dW,.slice dG hv.length dr,vS,vE]⟩ 418 (0,0)),.l LS]<|zD 5<|jf [0,1] ((bT,.cells ⟨[.slice ei cs.length dW,.slice dG hv.length dr,vS,vE]⟩ 418 (0,0))::LS) (fun za bX iI=>?_)
 have hSS:=hS.kQ iI.tail
 obtain⟨aAA,aXf,aXd,alj,rfl,aXe,aAz,aAy⟩:=hSS
 refine jd 17 [0]<|ja ((cs.length:Int)-1) (by omega)<|jp (vs:=[zI a,zI 0,zI ((cs.length:Int)-1)]) [] [] (fun aH hs hZ=>iS)<|zD 3<|js 20 (!(iy a 0 ((cs.length:Int)-1))) (fun h4=>?_) (fun h4=>?_)
 ·
  try simp only[zB] at h4
  exfalso;simp only[iy,Bool.not_eq_true',Bool.and_eq_false_iff,decide_eq_false_iff_not] at h4;omega
 try simp only[zB] at h4
 refine jd 6 [0]<|ja ((cs.length:Int)-1) (by omega)<|jp (vs:=[zI b,zI 0,zI ((cs.length:Int)-1)]) [] [] (fun aH hs hZ=>iS)<|zD 3<|js 20 (!(iy b 0 ((cs.length:Int)-1))) (fun h5=>?_) (fun h5=>?_)
 ·
  try simp only[zB] at h5
  exfalso;simp only[iy,Bool.not_eq_true',Bool.and_eq_false_iff,decide_eq_false_iff_not] at h5;omega
 try simp only[zB] at h5
 refine jd 8 [0]<|ja ((cs.length:Int)-1) (by omega)<|zD 3<|dS [1,1,1,0,1,0,0] [] (fun(zz:Int)=>[(1,zI a),(2,zI b),(8,zP bT),(10,zI zz)]) (fun zz=>[.b b3 (.cells ⟨[.slice ei cs.length dW,.slice dG hv.length dr]⟩ 35 (0,0))]) (fun zz=>(-1≤zz∧zz <cs.length)∧Gy cs a b=aeK (Ug .u8 ((mC cs cs.length)[a.toNat]?.getD 0) ((mC cs cs.length)[b.toNat]?.getD 0)) (zz+1).toNat) (fun zz=>(zz+1).toNat) ((cs.length:Int)-1) ⟨by omega,by rw[Gy,show ((cs.length:Int)-1+1).toNat=cs.length by omega]⟩ [0] ?_
 rintro j hI K1 bL rest
 refine zD 6<|zJ 40 (j≥0) (fun h6=>?_) fun h6=>?_
 ·
  refine zD 9<|jl (b:=bT) (off:=0) (m:=4) (vs:=[.slice ei cs.length dW,.slice dG hv.length dr,.slice aAA ((mC cs cs.length).length) alj,vE]) 2 ⟨_,_,_,.inl (iI _ (.head _)),rfl⟩<|zD 1 ?_
  obtain⟨x48,GK⟩:=zG ((mC cs cs.length)) (a.toNat) (by simp only[ov];omega)
  refine Oz a alj 1 aAz GK (Int.toNat_of_nonneg (show 0≤a∧a <(((mC cs cs.length)).length:Int) from (by simp only[ov];omega)).1).symm ?_
  refine jl 0 (aAy _ _ GK)<|zD 3<|jl (b:=bT) (off:=0) (m:=4) (vs:=[.slice ei cs.length dW,.slice dG hv.length dr,.slice aAA ((mC cs cs.length).length) alj,vE]) 2 ⟨_,_,_,.inl (iI _ (.head _)),rfl⟩<|zD 1 ?_
  obtain⟨x55,amC⟩:=zG ((mC cs cs.length)) (b.toNat)
  refine Oz b alj 1 aAz amC (by omega)<|jl 0 (aAy _ _ amC)<|zD 2<|jp (vs:=[.int .u8 (Ug .u8 x48 x55),zI j]) [] [] (fun aH hs hZ=>(aJD (by omega)))<|zD 1<|js 59 (hasB (Ug .u8 x48 x55) j) (fun h7=>?_) (fun h7=>?_)
  ·
   refine zD 8<|aM q0.a (.tuple ⟨[zI j,zI 0]⟩) [] [] [] bX ⟨_,_,rfl,rfl,by rw[hI.2,Xc (by omega),GK,amC,Option.getD_some,Option.getD_some,show hasB _ _=true from (by assumption)];rfl,rfl⟩
  refine zD 4<|ja (j-1) (by omega)<|zD 2<|bJ bL (j-1) ⟨by omega,by rw[hI.2,Xc (by omega),GK,amC,Option.getD_some,Option.getD_some,show hasB _ _=false from (by assumption),show j-1+1=j by omega];rfl⟩ (by omega) [0] (Sub.refl _)
 refine zD 8<|aM q0.a (.tuple ⟨[zI (-1),zI 0]⟩) [] [] [] bX ⟨_,_,rfl,rfl,by rw[hI.2,show j= -1 by omega];rfl,rfl⟩
theorem apy:dD zT 44 [] ro (.agg ⟨[.iface 166 (.agg ⟨[]⟩),.iface 167 (.agg ⟨[]⟩),.iface 168 (.agg ⟨[]⟩)]⟩):=by
 refine zE<|zD 2<|jn fun b0=>jd 13 [0]<|zR (.agg ⟨[.iface 166 (.agg ⟨[]⟩),.iface 167 (.agg ⟨[]⟩),.iface 168 (.agg ⟨[]⟩)]⟩) [0] [] [] ⟨rfl,rfl⟩
theorem ae4{rows:List bG}{a:Nat}{on:Int}(hF:oL ro f K rows)(hV:eN K)(ha:K.before[a]?=some x) (hb:K.after[b]?=some y):dD zT 319 [.agg ⟨[]⟩,zP f,zI (a:Int),zI (b:Int),.int .u8 on] ro (.bool (kP K x y)):=by
 obtain⟨c0,c1,c2,vc,vh,vr,vb,va,vf,vt,hv,hf,p7,nv,hr,Ek,I7,KG,bS⟩:=id hF
 obtain⟨hc,hh,dc⟩:=id p7
 obtain⟨ei,Ae,Ad,dW,rfl,De,yq,yp⟩:=hc
 obtain⟨dG,uD,uC,dr,rfl,wP,qB,qA⟩:=hh
 obtain⟨kH,Ik,Ij,kG,rfl,Ou,FW,FV⟩:=hr
 obtain⟨lA,Mw,Mu,kI,rfl,Mv,FY,FX⟩:=Ek
 obtain⟨lD,Mz,Mx,kJ,rfl,My,F3,FZ⟩:=I7
 obtain⟨lY,TE,TB,kY,rfl,TD,Mr,Mq⟩:=KG
 obtain⟨ni,DZ,DY,mH,rfl,PD,Mn,Mm⟩:=bS
 have Sx:=hV.rules.1
 have B6:=hV.before.1
 have EX:=hV.after.1
 have hnf:=hV.facts.1
 have KO:=(List.getElem?_eq_some_iff.1 ha).1
 have E3:=(List.getElem?_eq_some_iff.1 hb).1
 refine zE<|zD 2<|jn fun b5=>zD 8<|jl (b:=f) (off:=0) (m:=13) (vs:=[c0,c1,c2,.slice ei K.cs.length dW,.slice dG hv.length dr,.slice kH K.rules.length kG,.slice lA K.before.length kI,.slice lD K.after.length kJ,zI K.gone,zI K.new,zI K.af,.slice lY K.facts.length kY,.slice ni rows.length mH]) 5 ⟨_,_,_,.inl hf,rfl⟩<|zD 4<|jl (b:=f) (off:=0) (m:=13) (vs:=[c0,c1,c2,.slice ei K.cs.length dW,.slice dG hv.length dr,.slice kH K.rules.length kG,.slice lA K.before.length kI,.slice lD K.after.length kJ,zI K.gone,zI K.new,zI K.af,.slice lY K.facts.length kY,.slice ni rows.length mH]) 6 ⟨_,_,_,.inl hf,rfl⟩<|zD 1 ?_
 obtain⟨x5,k8⟩:=zG K.before a
 refine iB kI 5 FY k8<|zD 1<|jl 0 (FX _ _ k8)<|zD 4<|jl (b:=f) (off:=0) (m:=13) (vs:=[c0,c1,c2,.slice ei K.cs.length dW,.slice dG hv.length dr,.slice kH K.rules.length kG,.slice lA K.before.length kI,.slice lD K.after.length kJ,zI K.gone,zI K.new,zI K.af,.slice lY K.facts.length kY,.slice ni rows.length mH]) 7 ⟨_,_,_,.inl hf,rfl⟩<|zD 1 ?_
 obtain⟨YV,Nd⟩:=zG K.after b
 refine iB kJ 5 F3 Nd<|zD 1<|jl 0 (FZ _ _ Nd)<|jp (vs:=[.slice kH K.rules.length kG,.string x5.name,.string YV.name]) [] [] (fun aH hs hZ=>Qc ((show bI _ _ _ _ _ from ⟨kH,Ik,Ij,kG,rfl,Ou,FW,FV⟩).up hs) hV.rules.2 Sx (hV.before.2 _ (zL k8)).1 (hV.after.2 _ (zL Nd)).1)<|zD 9<|jp (vs:=[zI 0]) [] [] (fun aH hs hZ=>Av)<|zD 8<|zX (.bool (decide ((uX K.rules x5.name YV.name)=2))) ⟨by rw[ha] at k8;cases k8;rw[hb] at Nd;cases Nd;rfl,rfl⟩
theorem Qt{rows:List bG}{a:Nat}{on:Int}(hF:oL ro f K rows)(hV:eN K)(ha:K.before[a]?=some x) (hb:K.after[b]?=some y):dD zT 321 [.agg ⟨[]⟩,zP f,zI (a:Int),zI (b:Int),.int .u8 on] ro (.bool (nD K x y)):=by
 obtain⟨c0,c1,c2,vc,vh,vr,vb,va,vf,vt,hv,hf,p7,nv,hr,Ek,I7,KG,bS⟩:=id hF
 obtain⟨hc,hh,dc⟩:=id p7
 obtain⟨ei,Ae,Ad,dW,rfl,De,yq,yp⟩:=hc
 obtain⟨dG,uD,uC,dr,rfl,wP,qB,qA⟩:=hh
 obtain⟨kH,Ik,Ij,kG,rfl,Ou,FW,FV⟩:=hr
 obtain⟨lA,Mw,Mu,kI,rfl,Mv,FY,FX⟩:=Ek
 obtain⟨lD,Mz,Mx,kJ,rfl,My,F3,FZ⟩:=I7
 obtain⟨lY,TE,TB,kY,rfl,TD,Mr,Mq⟩:=KG
 obtain⟨ni,DZ,DY,mH,rfl,PD,Mn,Mm⟩:=bS
 have Sx:=hV.rules.1
 have B6:=hV.before.1
 have EX:=hV.after.1
 have hnf:=hV.facts.1
 have KO:=(List.getElem?_eq_some_iff.1 ha).1
 have E3:=(List.getElem?_eq_some_iff.1 hb).1
 refine zE<|zD 2<|jn fun b5=>zD 8<|jl (b:=f) (off:=0) (m:=13) (vs:=[c0,c1,c2,.slice ei K.cs.length dW,.slice dG hv.length dr,.slice kH K.rules.length kG,.slice lA K.before.length kI,.slice lD K.after.length kJ,zI K.gone,zI K.new,zI K.af,.slice lY K.facts.length kY,.slice ni rows.length mH]) 6 ⟨_,_,_,.inl hf,rfl⟩<|zD 1 ?_
 obtain⟨x6,pR⟩:=zG K.before a
 refine iB kI 5 FY pR<|zD 1<|jl 3 (FX _ _ pR)<|zD 4<|jl (b:=f) (off:=0) (m:=13) (vs:=[c0,c1,c2,.slice ei K.cs.length dW,.slice dG hv.length dr,.slice kH K.rules.length kG,.slice lA K.before.length kI,.slice lD K.after.length kJ,zI K.gone,zI K.new,zI K.af,.slice lY K.facts.length kY,.slice ni rows.length mH]) 7 ⟨_,_,_,.inl hf,rfl⟩<|zD 1 ?_
 obtain⟨nT,iO⟩:=zG K.after b
 refine iB kJ 5 F3 iO<|zD 1<|jl 3 (FZ _ _ iO)<|zD 9<|jj 3 [(1,zP f),(10,.bool false),(11,zI x6.head),(12,zI nT.head),(38,.bool ((decide (x6.head <0))||(decide (nT.head <0))))] (fun gB=>?_) (fun hj=>?_)
 rotate_left
 refine js 35 (decide (x6.head <0)) (fun h1=>?_) (fun h1=>?_)
 ·
  have fQ:=h1
  replace fQ:=of_decide_eq_true fQ
  refine zD 3<|jw 38 (.bool ((decide (x6.head <0))||(decide (nT.head <0)))) (w:= .bool true) (by rw[h1]<;>rfl) ?_
  exact zK hj
 ·
  have fQ:=h1
  replace fQ:=of_decide_eq_false fQ
  refine zD 3<|jw 38 (.bool ((decide (x6.head <0))||(decide (nT.head <0)))) (w:= .bool (decide (nT.head <0))) (by rw[h1]<;>rfl) ?_
  exact zK hj
 refine zD 1<|jj 4 [(1,zP f),(10,.bool false),(11,zI x6.head),(12,zI nT.head),(43,.bool (((decide (x6.head <0))||(decide (nT.head <0)))||(decide (x6.head=nT.head))))] (fun gB=>?_) (fun hj=>?_)
 rotate_left
 refine js 39 ((decide (x6.head <0))||(decide (nT.head <0))) (fun h2=>?_) (fun h2=>?_)
 ·
  have me:=h2
  try simp only[zB] at me
  refine zD 4<|jw 43 (.bool (((decide (x6.head <0))||(decide (nT.head <0)))||(decide (x6.head=nT.head)))) (w:= .bool true) (by rw[h2]<;>rfl) ?_
  exact zK hj
 ·
  have me:=h2
  try simp only[zB] at me
  refine zD 4<|jw 43 (.bool (((decide (x6.head <0))||(decide (nT.head <0)))||(decide (x6.head=nT.head)))) (w:= .bool (decide (x6.head=nT.head))) (by rw[h2]<;>rfl) ?_
  exact zK hj
 refine zD 1<|js 43 (((decide (x6.head <0))||(decide (nT.head <0)))||(decide (x6.head=nT.head))) (fun h3=>?_) (fun h3=>?_)
 ·
  try simp only[zB] at h3
  refine zD 6<|zX (.bool false) ⟨by rw[ha] at pR;cases pR;rw[hb] at iO;cases iO;rw[nD,if_pos (by omega)],rfl⟩
 try simp only[zB] at h3
 refine zD 8<|jl (b:=f) (off:=0) (m:=13) (vs:=[c0,c1,c2,.slice ei K.cs.length dW,.slice dG hv.length dr,.slice kH K.rules.length kG,.slice lA K.before.length kI,.slice lD K.after.length kJ,zI K.gone,zI K.new,zI K.af,.slice lY K.facts.length kY,.slice ni rows.length mH]) 3 ⟨_,_,_,.inl hf,rfl⟩<|zD 5<|jl (b:=f) (off:=0) (m:=13) (vs:=[c0,c1,c2,.slice ei K.cs.length dW,.slice dG hv.length dr,.slice kH K.rules.length kG,.slice lA K.before.length kI,.slice lD K.after.length kJ,zI K.gone,zI K.new,zI K.af,.slice lY K.facts.length kY,.slice ni rows.length mH]) 4 ⟨_,_,_,.inl hf,rfl⟩<|zD 1 ?_
 obtain⟨x57,Ea⟩:=zG hv (x6.head.toNat) (by have:=XU nv (hV.before.2 _ (zL pR)).2 (by omega);omega)
 refine Oz x6.head dr 4 qB Ea (Int.toNat_of_nonneg (show 0≤x6.head∧x6.head <((hv).length:Int) from (by have:=XU nv (hV.before.2 _ (zL pR)).2 (by omega);omega)).1).symm ?_
 refine zD 1<|jl 1 (qA _ _ Ea)<|zD 5<|jl (b:=f) (off:=0) (m:=13) (vs:=[c0,c1,c2,.slice ei K.cs.length dW,.slice dG hv.length dr,.slice kH K.rules.length kG,.slice lA K.before.length kI,.slice lD K.after.length kJ,zI K.gone,zI K.new,zI K.af,.slice lY K.facts.length kY,.slice ni rows.length mH]) 4 ⟨_,_,_,.inl hf,rfl⟩<|zD 1 ?_
 obtain⟨x67,amA⟩:=zG hv (nT.head.toNat) (by have:=XU nv (hV.after.2 _ (zL iO)).2 (by omega);omega)
 refine Oz nT.head dr 4 qB amA (Int.toNat_of_nonneg (show 0≤nT.head∧nT.head <((hv).length:Int) from (by have:=XU nv (hV.after.2 _ (zL iO)).2 (by omega);omega)).1).symm ?_
 refine zD 1<|jl 1 (qA _ _ amA)<|jp (vs:=[.agg ⟨[.slice ei K.cs.length dW,.slice dG hv.length dr]⟩,zI x57.cls,zI x67.cls]) [] [] (fun aH hs hZ=>arG (p7.up hs) nv hV.cZ (XV nv hV.cZ (hV.before.2 _ (zL pR)).2 (by omega) Ea).2 (XV nv hV.cZ (hV.after.2 _ (zL iO)).2 (by omega) amA).2)<|zD 9<|jp (vs:=[zI 0]) [] [] (fun aH hs hZ=>Av)<|zD 8<|zX (.bool (decide ((Gy K.cs x57.cls x67.cls) <0))) ⟨by rw[ha] at pR;cases pR;rw[hb] at iO;cases iO;rw[nD,if_neg (by omega),(XV nv hV.cZ (hV.before.2 _ (zL ha)).2 (by omega) Ea).1,(XV nv hV.cZ (hV.after.2 _ (zL hb)).2 (by omega) amA).1],rfl⟩
theorem Xo{rows:List bG}{a:Nat}{on:Int}(hF:oL ro f K rows)(hV:eN K):dD zT 327 [.agg ⟨[]⟩,zP f,zI (a:Int),zI (b:Int),.int .u8 on] ro (.bool (xv on a b K.facts 0)):=by
 obtain⟨c0,c1,c2,vc,vh,vr,vb,va,vf,vt,hv,hf,p7,nv,hr,Ek,I7,KG,bS⟩:=id hF
 obtain⟨hc,hh,dc⟩:=id p7
 obtain⟨ei,Ae,Ad,dW,rfl,De,yq,yp⟩:=hc
 obtain⟨dG,uD,uC,dr,rfl,wP,qB,qA⟩:=hh
 obtain⟨kH,Ik,Ij,kG,rfl,Ou,FW,FV⟩:=hr
 obtain⟨lA,Mw,Mu,kI,rfl,Mv,FY,FX⟩:=Ek
 obtain⟨lD,Mz,Mx,kJ,rfl,My,F3,FZ⟩:=I7
 obtain⟨lY,TE,TB,kY,rfl,TD,Mr,Mq⟩:=KG
 obtain⟨ni,DZ,DY,mH,rfl,PD,Mn,Mm⟩:=bS
 have Sx:=hV.rules.1
 have B6:=hV.before.1
 have EX:=hV.after.1
 have hnf:=hV.facts.1
 refine zE<|zD 2<|jn fun b5=>zD 9<|jl (b:=f) (off:=0) (m:=13) (vs:=[c0,c1,c2,.slice ei K.cs.length dW,.slice dG hv.length dr,.slice kH K.rules.length kG,.slice lA K.before.length kI,.slice lD K.after.length kJ,zI K.gone,zI K.new,zI K.af,.slice lY K.facts.length kY,.slice ni rows.length mH]) 11 ⟨_,_,_,.inl hf,rfl⟩<|zD 4<|dS [1,0,1,0,0] [] (fun(zz:Nat)=>[(2,zI (a:Int)),(3,zI (b:Int)),(4,.int .u8 on),(17,.slice lY K.facts.length kY),(18,zI (K.facts.length:Int)),(19,zI (zz:Int))]) (fun zz=>[]) (fun zz=>zz≤K.facts.length∧xv on a b K.facts 0=xv on a b (K.facts.drop zz) zz) (fun zz=>K.facts.length-zz) 0 ⟨by omega,rfl⟩ [] ?_
 rintro k hI K1 bL rest
 refine zD 5<|zJ 20 ((k:Int) <(K.facts.length:Int)) (fun h1=>?_) fun h1=>?_
 ·
  refine zD 7 ?_
  obtain⟨rP,tN⟩:=zG K.facts k
  refine iB kY 3 Mr tN<|jl 0 (Mq _ _ tN)<|jn fun wz=>jd 7 [0]<|jp (vs:=[.int .u8 on,zI (k:Int)]) [] [] (fun aH hs hZ=>(atB (by omega)))<|zD 1<|jj 5 [(2,zI (a:Int)),(3,zI (b:Int)),(4,.int .u8 on),(12,zP wz),(17,.slice lY K.facts.length kY),(18,zI (K.facts.length:Int)),(19,zI (k:Int)),(32,.bool ((hasB on (k:Int))&&(decide (rP.a=(a:Int)))))] (fun gB=>?_) (fun hj=>?_)
  rotate_left
  refine js 27 (hasB on (k:Int)) (fun h2=>?_) (fun h2=>?_)
  ·
   refine jd 5 [0]<|jw 32 (.bool ((hasB on (k:Int))&&(decide (rP.a=(a:Int))))) (w:= .bool (decide (rP.a=(a:Int)))) (by rw[h2]<;>rfl) ?_
   exact zK hj
  ·
   refine zD 5<|jw 32 (.bool ((hasB on (k:Int))&&(decide (rP.a=(a:Int))))) (w:= .bool false) (by rw[h2]<;>rfl) ?_
   exact zK hj
  refine zD 1<|jj 5 [(2,zI (a:Int)),(3,zI (b:Int)),(4,.int .u8 on),(12,zP wz),(17,.slice lY K.facts.length kY),(18,zI (K.facts.length:Int)),(19,zI (k:Int)),(38,.bool (((hasB on (k:Int))&&(decide (rP.a=(a:Int))))&&(decide (rP.b=(b:Int)))))] (fun gB=>?_) (fun hj=>?_)
  rotate_left
  refine js 33 ((hasB on (k:Int))&&(decide (rP.a=(a:Int)))) (fun h3=>?_) (fun h3=>?_)
  ·
   have vK:=h3
   try simp only[zB] at vK
   refine jd 5 [0]<|jw 38 (.bool (((hasB on (k:Int))&&(decide (rP.a=(a:Int))))&&(decide (rP.b=(b:Int))))) (w:= .bool (decide (rP.b=(b:Int)))) (by rw[h3]<;>rfl) ?_
   exact zK hj
  ·
   have vK:=h3
   try simp only[zB] at vK
   refine zD 5<|jw 38 (.bool (((hasB on (k:Int))&&(decide (rP.a=(a:Int))))&&(decide (rP.b=(b:Int))))) (w:= .bool false) (by rw[h3]<;>rfl) ?_
   exact zK hj
  refine zD 1<|jj 4 [(2,zI (a:Int)),(3,zI (b:Int)),(4,.int .u8 on),(17,.slice lY K.facts.length kY),(18,zI (K.facts.length:Int)),(19,zI (k:Int)),(43,.bool ((((hasB on (k:Int))&&(decide (rP.a=(a:Int))))&&(decide (rP.b=(b:Int))))&&(!rP.same)))] (fun gB=>?_) (fun hj=>?_)
  rotate_left
  refine js 39 (((hasB on (k:Int))&&(decide (rP.a=(a:Int))))&&(decide (rP.b=(b:Int)))) (fun h4=>?_) (fun h4=>?_)
  ·
   have xQ:=h4
   try simp only[zB] at xQ
   refine jd 4 [0]<|jw 43 (.bool ((((hasB on (k:Int))&&(decide (rP.a=(a:Int))))&&(decide (rP.b=(b:Int))))&&(!rP.same))) (w:= .bool (!rP.same)) (by rw[h4]<;>rfl) ?_
   exact zK hj
  ·
   have xQ:=h4
   try simp only[zB] at xQ
   refine zD 4<|jw 43 (.bool ((((hasB on (k:Int))&&(decide (rP.a=(a:Int))))&&(decide (rP.b=(b:Int))))&&(!rP.same))) (w:= .bool false) (by rw[h4]<;>rfl) ?_
   exact zK hj
  refine zD 1<|js 43 ((((hasB on (k:Int))&&(decide (rP.a=(a:Int))))&&(decide (rP.b=(b:Int))))&&(!rP.same)) (fun h5=>?_) (fun h5=>?_)
  ·
   refine zD 6<|zX (.bool true) ⟨by rw[hI.2,Wv tN,show (((hasB on k&&decide (rP.a=a))&&decide (rP.b=b))&& !rP.same)=true from (by assumption)];rfl,rfl⟩
  refine zD 3<|ja ((k:Int)+1) (by omega)<|zD 2<|bJ bL (k+1) ⟨by omega,by rw[hI.2,Wv tN,show (((hasB on k&&decide (rP.a=a))&&decide (rP.b=b))&& !rP.same)=false from (by assumption)];rfl⟩ (by omega) [] (Sub.refl _)
 refine zD 7<|zX (.bool false) ⟨by rw[hI.2,adb (by omega)],rfl⟩
theorem aBM{rows:List bG}{a:Nat}{on:Int}(hF:oL ro f K rows)(hV:eN K)(ha:K.before[a]?=some x) (hb:K.after[b]?=some y):dD zT 115 [zP f,zI (a:Int),zI (b:Int),.int .u8 on] ro (.bool (di K on a b)):=by
 refine zE<|zD 7<|jp [] [] (fun aH hs hZ=>apy)<|zD 3<|dS [1,0,1,0,0] [] (fun(zz:Nat)=>[(0,zP f),(1,zI (a:Int)),(2,zI (b:Int)),(3,.int .u8 on),(11,.agg ⟨[.iface 166 (.agg ⟨[]⟩),.iface 167 (.agg ⟨[]⟩),.iface 168 (.agg ⟨[]⟩)]⟩),(12,zI (zz:Int))]) (fun zz=>[]) (fun zz=>zz≤3∧(1≤zz→kP K x y=false)∧(2≤zz→nD K x y=false)∧(3≤zz→xv on a b K.facts 0=false)) (fun zz=>3-zz) 0 ⟨by omega,nofun,nofun,nofun⟩ [] ?_
 rintro k hI K1 bL rest
 refine zD 5<|zJ 13 ((k:Int) <3) (fun h1=>?_) fun h1=>?_
 ·
  refine zD 6 ?_
  obtain rfl|rfl|rfl:k=0∨k=1∨k=2:=by omega
  ·
   refine zD 10<|jpI (vs:=[.agg ⟨[]⟩,zP f,zI (a:Int),zI (b:Int),.int .u8 on]) (fun aH hs=>ae4 (hF.up hs) hV ha hb)<|zD 1<|js 20 (kP K x y) (fun h2=>?_) (fun h2=>?_)
   ·
    refine zD 6<|zX (.bool false) ⟨by simp only[di,ha,hb];simp[*],rfl⟩
   refine zD 6<|bJ bL 1 ⟨by omega,(fun _=>by assumption),nofun,nofun⟩ (by omega) [] (Sub.refl _)
  ·
   refine zD 10<|jpI (vs:=[.agg ⟨[]⟩,zP f,zI (a:Int),zI (b:Int),.int .u8 on]) (fun aH hs=>Qt (hF.up hs) hV ha hb)<|zD 1<|js 20 (nD K x y) (fun h3=>?_) (fun h3=>?_)
   ·
    refine zD 6<|zX (.bool false) ⟨by simp only[di,ha,hb];simp[*],rfl⟩
   refine zD 6<|bJ bL 2 ⟨by omega,(fun _=>hI.2.1 (by omega)),(fun _=>by assumption),nofun⟩ (by omega) [] (Sub.refl _)
  refine zD 10<|jpI (vs:=[.agg ⟨[]⟩,zP f,zI (a:Int),zI (b:Int),.int .u8 on]) (fun aH hs=>Xo (hF.up hs) hV)<|zD 1<|js 20 (xv on a b K.facts 0) (fun h4=>?_) (fun h4=>?_)
  ·
   refine zD 6<|zX (.bool false) ⟨by simp only[di,ha,hb];simp[*],rfl⟩
  refine zD 6<|bJ bL 3 ⟨by omega,(fun _=>hI.2.1 (by omega)),(fun _=>hI.2.2.1 (by omega)),(fun _=>by assumption)⟩ (by omega) [] (Sub.refl _)
 refine zD 7<|zX (.bool true) ⟨by simp only[di,ha,hb,hI.2.1 (by omega),hI.2.2.1 (by omega),hI.2.2.2 (by omega)];rfl,rfl⟩
abbrev eP4(p:Nat→Int):List Value:=[zI (p 0),zI (p 1),zI (p 2),zI (p 3)]
abbrev pL(p:Nat→Int):List Int:=[p 0,p 1,p 2,p 3]
def gT(p:Nat→Int)(a:Nat)(v:Int):Nat→Int:=fun i=>if i=a then v else p i
theorem Ap{a:Nat}(h:a <4):a=0∨a=1∨a=2∨a=3:=by omega
theorem asI{a:Nat}(h:a <4):nth (eP4 p) (0+(a:Int).toNat*1)=some (zI (p a)):=by
 rcases Ap h with rfl|rfl|rfl|rfl<;>rfl
theorem asH{a:Nat}{v:Int}(h:a <4):dw (eP4 p) (0+(a:Int).toNat*1) [zI v]=eP4 (gT p a v):=by
 rcases Ap h with rfl|rfl|rfl|rfl<;>rfl
theorem asJ{a:Nat}{v:Value}(h:a <4):Nat.ble ((0+(a:Int).toNat*1)+[v].length) (eP4 p).length=true:=by
 rcases Ap h with rfl|rfl|rfl|rfl<;>rfl
theorem Wx{r:bG}{a:Nat}(h:a <4)(k:b <4):nth (AS r) (0+(a:Int).toNat*4+(b:Int).toNat*1)=some (.bool (r.c a b)):=by
 rcases Ap h with rfl|rfl|rfl|rfl<;>rcases Ap k with rfl|rfl|rfl|rfl<;>rfl
def iL(r:bG)(a b:Nat)(v:Bool):bG:=⟨fun i j=>if i=a∧j=b then v else r.c i j⟩
theorem Ww{r:bG}{a:Nat}{v:Bool}(h:a <4)(k:b <4):dw (AS r) (0+(a:Int).toNat*4+(b:Int).toNat*1) [.bool v]=AS (iL r a b v):=by
 rcases Ap h with rfl|rfl|rfl|rfl<;>rcases Ap k with rfl|rfl|rfl|rfl<;>rfl
theorem Wy{r:bG}{a:Nat}{v:Value}(h:a <4)(k:b <4):Nat.ble ((0+(a:Int).toNat*4+(b:Int).toNat*1)+[v].length) (AS r).length=true:=by
 rcases Ap h with rfl|rfl|rfl|rfl<;>rcases Ap k with rfl|rfl|rfl|rfl<;>rfl
def lu(on:Int)(p:Nat→Int):List cY→Nat→Bool
 | [],_=>true
 |x::l,k=>bif (hasB on k&&x.same)&& !decide (p x.a.toNat=x.b+1) then false else lu on p l (k+1)
theorem wM{on:Int}{x:cY}(h:l[k]?=some x):lu on p (l.drop k) k=bif (hasB on k&&x.same)&& !decide (p x.a.toNat=x.b+1) then false else lu on p (l.drop (k+1)) (k+1):=by rw[fo h];rfl
theorem Tn{on:Int}(h:¬k <l.length):lu on p (l.drop k) k=true:=by rw[eo h];rfl
def p6(p:Nat→Int)(a:Nat)(v:Int):Bool:=decide (cb (fun y=>decide (v=y)) ((pL p).take a) 0≥0)
theorem akY{T:TypeId}(h:ro b=some (.cells ⟨eP4 p⟩ T (0,0)))(hn:n≤4):bI ro (.slice (some ⟨b,0,none⟩) n 4) 1 cz ((pL p).take n):=by
 have:=bI.part (bC (enc:=cz) (T:=T) (pL p) h (fun _ _=>rfl)) (l:=0) (h:=n) (by omega) (by simpa using hn)
 simpa [dH] using this
theorem atO{v:Value}{n:Int}(hl:bI ro v 1 cz xs)(hn:xs.length≤1000000):dD zT 162 [v,zI n] ro (zI (cb (fun y=>decide (n=y)) xs 0)):=by
 obtain⟨fu,ry,rq,eI,rfl,tx,lv,mj⟩:=hl
 refine zE<|zD 12<|dS [1,0,1,0,0] [] (fun(zz:Nat)=>[(0,.slice fu xs.length eI),(1,zI n),(7,zI (xs.length:Int)),(8,zI (zz:Int))]) (fun zz=>[]) (fun zz=>zz≤xs.length∧cb (fun y=>decide (n=y)) xs 0=cb (fun y=>decide (n=y)) (xs.drop zz) zz) (fun zz=>xs.length-zz) 0 ⟨by omega,rfl⟩ [] ?_
 rintro k hI K1 bL rest
 refine zD 5<|zJ 9 ((k:Int) <(xs.length:Int)) (fun h1=>?_) fun h1=>?_
 ·
  refine zD 14 ?_
  obtain⟨fD,eC⟩:=zG xs k
  refine iB eI 1 lv eC<|jl 0 (mj _ _ eC)<|zD 2<|zJ 16 (n=fD) (fun h2=>?_) fun h2=>?_
  ·
   refine zD 7<|zX (zI (k:Int)) ⟨by rw[hI.2,jB eC];simp[*],rfl⟩
  refine zD 3<|ja ((k:Int)+1) (by omega)<|zD 2<|bJ bL (k+1) ⟨by omega,by rw[hI.2,jB eC];simp[*]⟩ (by omega) [] (Sub.refl _)
 refine zD 7<|zX (zI (-1)) ⟨by rw[hI.2,qi (by omega)],rfl⟩
theorem aLZ{v:Value}{n:Int}(hl:bI ro v 1 cz xs)(hn:xs.length≤1000000):dD zT 119 [v,zI n] ro (.bool (decide (cb (fun y=>decide (n=y)) xs 0≥0))):=by
 obtain⟨fu,ry,rq,eI,rfl,tx,lv,mj⟩:=hl
 refine zE<|zD 8<|jp (vs:=[.slice fu xs.length eI,zI n]) [] [] (fun aH hs hZ=>atO ((show bI _ _ _ _ _ from ⟨fu,ry,rq,eI,rfl,tx,lv,mj⟩).up hs) (by first|omega| (simp only[List.length_set,zM];omega))) ?_
 refine zD 4<|zX (.bool (decide ((cb (fun y=>decide (n=y)) xs 0)≥0))) ⟨rfl,rfl⟩
theorem atj{rows:List bG}{on:Int}(hF:oL ro f K rows)(hV:eN K)(g1:ro b1=some (.cells ⟨[zP f]⟩ 100 (0,0)))(g2:ro b2=some (.cells ⟨[.int .u8 on]⟩ 105 (0,0))):dD zT 116 [.agg ⟨[zI (p 0),zI (p 1),zI (p 2),zI (p 3)]⟩,zP b1,zP b2] ro (.bool (lu on p K.facts 0)):=by
 obtain⟨c0,c1,c2,vc,vh,vr,vb,va,vf,vt,hv,hf,p7,nv,hr,Ek,I7,KG,bS⟩:=id hF
 obtain⟨hc,hh,dc⟩:=id p7
 obtain⟨ei,Ae,Ad,dW,rfl,De,yq,yp⟩:=hc
 obtain⟨dG,uD,uC,dr,rfl,wP,qB,qA⟩:=hh
 obtain⟨kH,Ik,Ij,kG,rfl,Ou,FW,FV⟩:=hr
 obtain⟨lA,Mw,Mu,kI,rfl,Mv,FY,FX⟩:=Ek
 obtain⟨lD,Mz,Mx,kJ,rfl,My,F3,FZ⟩:=I7
 obtain⟨lY,TE,TB,kY,rfl,TD,Mr,Mq⟩:=KG
 obtain⟨ni,DZ,DY,mH,rfl,PD,Mn,Mm⟩:=bS
 have Sx:=hV.rules.1
 have B6:=hV.before.1
 have EX:=hV.after.1
 have hnf:=hV.facts.1
 refine zE<|zD 2<|jn fun b3=>zD 5<|jl (b:=b1) (off:=0) (m:=1) (vs:=[zP f]) 0 ⟨_,_,_,.inl g1,rfl⟩<|zD 3<|jl (b:=f) (off:=0) (m:=13) (vs:=[c0,c1,c2,.slice ei K.cs.length dW,.slice dG hv.length dr,.slice kH K.rules.length kG,.slice lA K.before.length kI,.slice lD K.after.length kJ,zI K.gone,zI K.new,zI K.af,.slice lY K.facts.length kY,.slice ni rows.length mH]) 11 ⟨_,_,_,.inl hf,rfl⟩<|zD 4<|dS [1,0,1,0,0] [] (fun(zz:Nat)=>[(2,zP b2),(3,zP b3),(11,.slice lY K.facts.length kY),(12,zI (K.facts.length:Int)),(13,zI (zz:Int))]) (fun zz=>[.b b3 (.cells ⟨[zI (p 0),zI (p 1),zI (p 2),zI (p 3)]⟩ 126 (0,0))]) (fun zz=>zz≤K.facts.length∧lu on p K.facts 0=lu on p (K.facts.drop zz) zz) (fun zz=>K.facts.length-zz) 0 ⟨by omega,rfl⟩ [0] ?_
 rintro k hI K1 bL rest
 refine zD 5<|zJ 14 ((k:Int) <(K.facts.length:Int)) (fun h1=>?_) fun h1=>?_
 ·
  refine zD 7 ?_
  obtain⟨Bc,mv⟩:=zG K.facts k
  refine iB kY 3 Mr mv<|jl 0 (Mq _ _ mv)<|jn fun b6=>jd 4 [0] ?_
  have hf4:=(hV.facts.2 _ (zL mv)).1
  have hf5:=(hV.facts.2 _ (zL mv)).2
  have hae:Bc.a=(Bc.a.toNat:Int):=by omega
  refine zD 1<|jl (b:=b2) (off:=0) (m:=1) (vs:=[.int .u8 on]) 0 ⟨_,_,_,.inl g2,rfl⟩<|zD 1<|jp (vs:=[.int .u8 on,zI (k:Int)]) [] [] (fun aH hs hZ=>(atB (by omega)))<|zD 1<|js 3 (hasB on (k:Int)) (fun h2=>?_) (fun h2=>?_)
  ·
   refine jd 4 [0]<|js 7 Bc.same (fun h3=>?_) (fun h3=>?_)
   ·
    refine jd 2 [0]<|Kz (b:=b3) (off:=0) (len:=4) (sz:=1) Bc.a (by omega)<|oH (b:=b3) (off:=0+Bc.a.toNat*1) (m:=1) (vs:=[zI (p Bc.a.toNat)]) 0 [1] [(b3,.cells ⟨[zI (p 0),zI (p 1),zI (p 2),zI (p 3)]⟩ 126 (0,0))] (fun s _ hZ=>sA (hZ _ (.head _)) (by rw[hae];exact asI (by omega))) ?_
    refine jd 2 [0]<|ja (Bc.b+1) (by omega)<|zD 3<|js 34 (!decide ((p Bc.a.toNat)=(Bc.b+1))) (fun h4=>?_) (fun h4=>?_)
    ·
     replace h4:=of_decide_eq_false (by simpa using h4)
     refine zD 6<|zX (.bool false) ⟨by rw[hI.2,wM mv];simp only[h2,h3,decide_eq_false h4,Bool.and_true,Bool.true_and,Bool.not_false,Bool.not_true,Bool.and_false,Bool.false_and,cond_true,cond_false],rfl⟩
    replace h4:=of_decide_eq_true (by simpa using h4)
    refine zD 3<|ja ((k:Int)+1) (by omega)<|zD 2<|bJ bL (k+1) ⟨by omega,by rw[hI.2,wM mv];simp only[h2,h3,decide_eq_true h4,Bool.and_true,Bool.true_and,Bool.not_false,Bool.not_true,Bool.and_false,Bool.false_and,cond_true,cond_false]⟩ (by omega) [1] (Sub.refl _)
   refine zD 13<|ja ((k:Int)+1) (by omega)<|zD 2<|bJ bL (k+1) ⟨by omega,by rw[hI.2,wM mv];simp only[h2,h3,Bool.and_true,Bool.true_and,Bool.not_false,Bool.not_true,Bool.and_false,Bool.false_and,cond_true,cond_false]⟩ (by omega) [1] (Sub.refl _)
  refine zD 17<|ja ((k:Int)+1) (by omega)<|zD 2<|bJ bL (k+1) ⟨by omega,by rw[hI.2,wM mv];simp only[h2,Bool.and_true,Bool.true_and,Bool.not_false,Bool.not_true,Bool.and_false,Bool.false_and,cond_true,cond_false]⟩ (by omega) [1] (Sub.refl _)
 refine zD 7<|zX (.bool true) ⟨by rw[hI.2,Tn (by omega)],rfl⟩
def iu(K:aC)(on:Int):Nat→Nat→(Nat→Int)→List (Nat→Int)
 |0,_,p=>bif lu on p K.facts 0 then [p] else []
 |n+1,a,p=>iu K on n (a+1) p++(List.range K.after.length).flatMap fun b=>bif !di K on a b||p6 p a ((b:Int)+1) then [] else iu K on n (a+1) (gT p a ((b:Int)+1))
def mT(K:aC)(on:Int)(n a:Nat)(p:Nat→Int)(b:Nat):List (Nat→Int):=bif !di K on a b||p6 p a ((b:Int)+1) then [] else iu K on n (a+1) (gT p a ((b:Int)+1))
theorem qe(K:aC)(on:Int)(n a:Nat)(p:Nat→Int):iu K on (n+1) a p=iu K on n (a+1) p++(List.range K.after.length).flatMap (mT K on n a p):=rfl
theorem Part.left{L x y:List α}{p:Nat}(h:Part L p (x++y)):Part L p x:=by
 obtain⟨a,b,rfl,h2⟩:=h
 exact⟨a,y++b,by simp,h2⟩
theorem Part.right{L x y:List α}{p:Nat}(h:Part L p (x++y)):Part L (p+x.length) y:=by
 obtain⟨a,b,rfl,rfl⟩:=h
 exact⟨a++x,b,by simp,by simp⟩
theorem ZA{j:Nat}(h:j <n):∃r,List.range n=List.range j++[j]++r:=by
 refine⟨(List.range n).drop (j+1),?_⟩
 have h1:(List.range n).take (j+1)=List.range (j+1):=by rw[List.take_range,Nat.min_eq_left h]
 rw[←List.range_succ,←h1,List.take_append_drop]
theorem XZ{q:Nat→Int}{a:Nat}{v:Int}(ha:a <4)(h:∀i,i≠a→q i=p i):p6 q a v=p6 p a v:=by
 have:(pL q).take a=(pL p).take a:=by
  rcases Ap ha with rfl|rfl|rfl|rfl
  ·rfl
  ·simp[h 0 (by omega)]
  ·simp[h 0 (by omega),h 1 (by omega)]
  simp[h 0 (by omega),h 1 (by omega),h 2 (by omega)]
 simp only[p6,this]
theorem V5{q:Nat→Int}{a:Nat}{v:Int}(h:∀i,i≠a→q i=p i):gT q a v=gT p a v:=by
 funext i
 simp only[gT]
 split
 ·rfl
 rename_i hi;exact h i hi
abbrev ePs(L:List (Nat→Int)):(Nat→Option Obj)→Nat→List Value→Cells→Prop:=fun _ k vs LL=>∃p,L[k]?=some p∧vs=[.agg ⟨eP4 p⟩]∧LL=[]
structure ajn(ro:Nat→Option Obj)(bl f:Nat)(K:aC)(on:Int)(bf br bB bg bt bo:Nat):Prop where
 f:ro bf=some (.cells ⟨[zP f]⟩ 100 (0,0))
 r:ro br=some (.cells ⟨[.func (.func 116) ⟨[]⟩ ⟨[zP bf,zP bo]⟩]⟩ 218 (0,0))
 y:ro bB=some (.cells ⟨[.func (.yield bl) #[] #[]]⟩ 218 (0,0))
 g:ro bg=some (.cells ⟨[.func (.func 118) ⟨[]⟩ ⟨[zP bf,zP br,zP bB,zP bg,zP bt]⟩]⟩ 219 (0,0))
 t:ro bt=some (.cells ⟨AS ⟨di K on⟩⟩ 153 (0,0))
 o:ro bo=some (.cells ⟨[.int .u8 on]⟩ 105 (0,0))
def aqS(bl f:Nat)(K:aC)(rows:List bG)(on:Int)(bf br bB bg bt bo:Nat)(L:List (Nat→Int))(Inv:Nat→Cells→Prop)(Stop:Cells→Prop)(n:Nat):Prop:=
 ∀(ro:Nat→Option Obj) (a:Nat) (p:Nat→Int) (q:Nat) (B:Cells),ajn ro bl f K on bf br bB bg bt bo→oL ro f K rows→a+n=K.before.length→Part L q (iu K on n a p)→Inv q B→YOK zT bl ro L.length (ePs L) Inv Stop→
  dR zT 118 [.agg ⟨eP4 p⟩,zI (a:Int),zP bf,zP br,zP bB,zP bg,zP bt] ro B (fun r Y=>∃c,r= .bool c∧(c=true→Inv (q+(iu K on n a p).length) Y)∧(c=false→Stop Y))
theorem atC{a q:Nat}{on:Int}{B:Cells}{L:List (Nat→Int)}{Inv:Nat→Cells→Prop}{rows:List bG}(ih:∀m,m <n→aqS bl f K rows on bf br bB bg bt bo L Inv Stop m)(hV:eN K)(n9:ajn ro bl f K on bf br bB bg bt bo)(hF:oL ro f K rows)(han:a+n=K.before.length)(hP:Part L q (iu K on n a p))(hB:Inv q B)(hy:YOK zT bl ro L.length (ePs L) Inv Stop):dR zT 118 [.agg ⟨[zI (p 0),zI (p 1),zI (p 2),zI (p 3)]⟩,zI (a:Int),zP bf,zP br,zP bB,zP bg,zP bt] ro B (fun r Y=>∃c,r= .bool c∧(c=true→Inv (q+(iu K on n a p).length) Y)∧(c=false→Stop Y)):=by
 obtain⟨gf,gr,gy,gg,gt,go⟩:=id n9
 obtain⟨c0,c1,c2,vc,vh,vr,vb,va,vf,vt,hv,hf,p7,nv,hr,Ek,I7,KG,bS⟩:=id hF
 obtain⟨hc,hh,dc⟩:=id p7
 obtain⟨ei,Ae,Ad,dW,rfl,De,yq,yp⟩:=hc
 obtain⟨dG,uD,uC,dr,rfl,wP,qB,qA⟩:=hh
 obtain⟨kH,Ik,Ij,kG,rfl,Ou,FW,FV⟩:=hr
 obtain⟨lA,Mw,Mu,kI,rfl,Mv,FY,FX⟩:=Ek
 obtain⟨lD,Mz,Mx,kJ,rfl,My,F3,FZ⟩:=I7
 obtain⟨lY,TE,TB,kY,rfl,TD,Mr,Mq⟩:=KG
 obtain⟨ni,DZ,DY,mH,rfl,PD,Mn,Mm⟩:=bS
 have Sx:=hV.rules.1
 have B6:=hV.before.1
 have EX:=hV.after.1
 have hnf:=hV.facts.1
 refine zC [.l B]<|zD 2<|jn fun b7=>zD 6<|jl (b:=bf) (off:=0) (m:=1) (vs:=[zP f]) 0 ⟨_,_,_,.inl gf,rfl⟩<|zD 3<|jl (b:=f) (off:=0) (m:=13) (vs:=[c0,c1,c2,.slice ei K.cs.length dW,.slice dG hv.length dr,.slice kH K.rules.length kG,.slice lA K.before.length kI,.slice lD K.after.length kJ,zI K.gone,zI K.new,zI K.af,.slice lY K.facts.length kY,.slice ni rows.length mH]) 6 ⟨_,_,_,.inl hf,rfl⟩<|zD 3<|zJ 18 ((a:Int)=(K.before.length:Int)) (fun h1=>?_) fun h1=>?_
 ·
  refine zD 2 ?_
  obtain rfl:n=0:=by omega
  refine zD 1<|jl (b:=br) (off:=0) (m:=1) (vs:=[.func (.func 116) ⟨[]⟩ ⟨[zP bf,zP bo]⟩]) 0 ⟨_,_,_,.inl gr,rfl⟩<|jd 1 [0]<|jp (vs:=[.agg ⟨[zI (p 0),zI (p 1),zI (p 2),zI (p 3)]⟩,zP bf,zP bo]) [] [] (fun aH hs hZ=>atj (hF.up hs) hV (hs _ _ gf) (hs _ _ go))<|zD 2<|js 23 (!(lu on p K.facts 0)) (fun h2=>?_) (fun h2=>?_)
  ·
   have me:=h2
   try simp only[zB] at me
   refine zD 7<|zR (.bool true) [] [1] B ⟨_,rfl,(fun _=>by rw[show iu K on 0 a p=[] by simp only[iu,show lu on p K.facts 0=false by simpa using h2];rfl];exact hB),nofun⟩
  have me:=h2
  try simp only[zB] at me
  have agD:iu K on 0 a p=[p]:=by simp only[iu,show lu on p K.facts 0=true by simpa using h2];rfl
  have hel:=Part.get (i:=0) (x:=p) hP (by rw[agD];rfl)
  refine jl (b:=bB) (off:=0) (m:=1) (vs:=[(.func (.yield bl) #[] #[])]) 0 ⟨_,_,_,.inl gy,rfl⟩<|jd 1 [0]<|jyc [1] (hy q [.agg ⟨[zI (p 0),zI (p 1),zI (p 2),zI (p 3)]⟩] [] B ro hel.1 ⟨_,hel.2,rfl,rfl⟩ hB (Sub.refl _)) (Sub.refl _) ?_
  intro v26 Y26 aMd
  obtain⟨c26,rfl,aOP,aOC⟩:=yb aMd
  refine zD 4<|zR (.bool c26) [] [0] Y26 ⟨_,rfl,(fun h=>by rw[agD];exact aOP h),aOC⟩
 refine zD 4 ?_
 obtain⟨m,rfl⟩:∃m,n=m+1:=⟨n-1,by omega⟩
 rw[qe] at hP
 refine zD 1<|jl (b:=bg) (off:=0) (m:=1) (vs:=[.func (.func 118) ⟨[]⟩ ⟨[zP bf,zP br,zP bB,zP bg,zP bt]⟩]) 0 ⟨_,_,_,.inl gg,rfl⟩<|jd 2 [0]<|ja ((a:Int)+1) (by omega)<|jc (vs:=[.agg ⟨[zI (p 0),zI (p 1),zI (p 2),zI (p 3)]⟩,zI ((a:Int)+1),zP bf,zP br,zP bB,zP bg,zP bt]) [1] (ih m (by omega) _ (a+1) p q _ n9 hF (by omega) (Part.left hP) hB hy) ?_
 rintro _ Y32 ⟨c32,rfl,aOM,aOz⟩
 refine zD 2<|js 33 (!c32) (fun h3=>?_) (fun h3=>?_)
 ·
  try simp only[zB] at h3
  refine zD 6<|zR (.bool false) [] [0] Y32 ⟨_,rfl,nofun,fun _=>aOz (by simp_all)⟩
 try simp only[zB] at h3
 refine zD 5<|jl (b:=bf) (off:=0) (m:=1) (vs:=[zP f]) 0 ⟨_,_,_,.inl gf,rfl⟩<|zD 3<|jl (b:=f) (off:=0) (m:=13) (vs:=[c0,c1,c2,.slice ei K.cs.length dW,.slice dG hv.length dr,.slice kH K.rules.length kG,.slice lA K.before.length kI,.slice lD K.after.length kJ,zI K.gone,zI K.new,zI K.af,.slice lY K.facts.length kY,.slice ni rows.length mH]) 7 ⟨_,_,_,.inl hf,rfl⟩<|zD 4<|dS [1,1,1,0,1,0,0] [] (fun(zz:Nat×(Nat→Int)×Cells)=>[(1,zI (a:Int)),(5,zP bg),(6,zP bt),(7,zP b7),(39,zI (K.after.length:Int)),(40,zI (zz.1:Int))]) (fun zz=>[.b b7 (.cells ⟨[zI (zz.2.1 0),zI (zz.2.1 1),zI (zz.2.1 2),zI (zz.2.1 3)]⟩ 126 (0,0)),.l zz.2.2]) (fun zz=>zz.1≤K.after.length∧Inv (q+(iu K on m (a+1) p).length+((List.range zz.1).flatMap (mT K on m a p)).length) zz.2.2∧∀i,i≠a→zz.2.1 i=p i) (fun zz=>K.after.length-zz.1) (⟨0,p,Y32⟩) ⟨by dsimp only;omega,by have:=aOM (by simp_all);simpa using this,fun _ _=>rfl⟩ [1,0] ?_
 rintro⟨j,pp,B⟩ hJ K1 bL rest
 dsimp only at hJ
 refine zD 5<|zJ 41 ((j:Int) <(K.after.length:Int)) (fun h4=>?_) fun h4=>?_
 ·
  refine zD 11 ?_
  have ha4:a <4:=by omega
  have hj4:j <4:=by omega
  obtain⟨rr,hrr⟩:=ZA (show j <K.after.length by omega)
  have hPj:=Part.flat (Part.right hP) hrr
  refine zD 3<|Kz (b:=bt) (off:=0) (len:=4) (sz:=4) (a:Int) (by omega)<|Kz (b:=bt) (off:=0+(a:Int).toNat*4) (len:=4) (sz:=1) (j:Int) (by omega)<|jl (b:=bt) (off:=0+(a:Int).toNat*4+(j:Int).toNat*1) (m:=1) (vs:=[.bool (di K on a j)]) 0 (sA (.inl gt) (Wx (r:=⟨di K on⟩) ha4 hj4))<|zD 2<|js 49 (!(di K on a j)) (fun h5=>?_) (fun h5=>?_)
  ·
   have NA:=h5
   try simp only[zB] at NA
   refine zD 10<|ja ((j:Int)+1) (by omega)<|zD 2<|bJ bL (⟨j+1,pp,B⟩) ⟨by dsimp only;omega,by dsimp only;rw[List.range_succ,List.flatMap_append,List.length_append,List.flatMap_singleton,←Nat.add_assoc];rw[show mT K on m a p j=[] by simp only[mT,h5];rfl];exact hJ.2.1,hJ.2.2⟩ (by dsimp only;omega) [0,1] (Sub.refl _)
  have NA:=h5
  try simp only[zB] at NA
  refine zD 1<|jah (b:=b7) (off:=0) (len:=4) (a:Int) (by omega)<|zD 1<|ja ((j:Int)+1) (by omega)<|jp (vs:=[(.slice (some ⟨b7,0,none⟩) (a:Int).toNat 4),zI ((j:Int)+1)]) [0] [(b7,.cells ⟨[zI (pp 0),zI (pp 1),zI (pp 2),zI (pp 3)]⟩ 126 (0,0))] (fun aH hs hZ=>aLZ (akY hZ.head (by omega)) (by rw[List.length_take];omega)) ?_
  refine zD 2<|js 55 (p6 pp a ((j:Int)+1)) (fun h6=>?_) (fun h6=>?_)
  ·
   refine zD 3<|ja ((j:Int)+1) (by omega)<|zD 2<|bJ bL (⟨j+1,pp,B⟩) ⟨by dsimp only;omega,by dsimp only;rw[List.range_succ,List.flatMap_append,List.length_append,List.flatMap_singleton,←Nat.add_assoc];rw[show mT K on m a p j=[] by simp only[mT,←XZ ha4 hJ.2.2,h5,h6];rfl];exact hJ.2.1,hJ.2.2⟩ (by dsimp only;omega) [0,1] (Sub.refl _)
  have hg0:mT K on m a p j=iu K on m (a+1) (gT p a ((j:Int)+1)):=by simp only[mT,←XZ ha4 hJ.2.2,h5,h6];rfl
  have hPg:Part L (q+(iu K on m (a+1) p).length+((List.range j).flatMap (mT K on m a p)).length) (iu K on m (a+1) (gT pp a ((j:Int)+1))):=by rw[V5 hJ.2.2,←hg0];exact hPj
  refine zD 6<|ja ((j:Int)+1) (by omega)<|Kz (b:=b7) (off:=0) (len:=4) (sz:=1) (a:Int) (by omega)<|jsx 0 b7 (0+(a:Int).toNat*1) [zI (pp 0),zI (pp 1),zI (pp 2),zI (pp 3)] [zI ((j:Int)+1)] 126 (by intro v hv;rw[List.mem_singleton] at hv;subst hv;rfl) (asJ (p:=pp) ha4) ?_
  refine jmw 0 [.b b7 (.cells ⟨[zI ((gT pp a ((j:Int)+1)) 0),zI ((gT pp a ((j:Int)+1)) 1),zI ((gT pp a ((j:Int)+1)) 2),zI ((gT pp a ((j:Int)+1)) 3)]⟩ 126 (0,0))] (L:=[(b7,.cells ⟨dw [zI (pp 0),zI (pp 1),zI (pp 2),zI (pp 3)] (0+(a:Int).toNat*1) [zI ((j:Int)+1)]⟩ 126 (0,0))]) (by rw[asH ha4];rfl) ?_
  refine zD 3<|jl (b:=bg) (off:=0) (m:=1) (vs:=[.func (.func 118) ⟨[]⟩ ⟨[zP bf,zP br,zP bB,zP bg,zP bt]⟩]) 0 ⟨_,_,_,.inl gg,rfl⟩<|jd 2 [0]<|ja ((a:Int)+1) (by omega)<|jc (vs:=[.agg ⟨[zI ((gT pp a ((j:Int)+1)) 0),zI ((gT pp a ((j:Int)+1)) 1),zI ((gT pp a ((j:Int)+1)) 2),zI ((gT pp a ((j:Int)+1)) 3)]⟩,zI ((a:Int)+1),zP bf,zP br,zP bB,zP bg,zP bt]) [1] (ih m (by omega) _ (a+1) _ (q+(iu K on m (a+1) p).length+((List.range j).flatMap (mT K on m a p)).length) _ n9 hF (by omega) hPg hJ.2.1 hy) ?_
  rintro _ Y64 ⟨Yt,rfl,aOK,aOx⟩
  refine zD 2<|js 65 (!Yt) (fun h7=>?_) (fun h7=>?_)
  ·
   try simp only[zB] at h7
   refine zD 6<|zR (.bool false) [] [0] Y64 ⟨_,rfl,nofun,fun _=>aOx (by simp_all)⟩
  try simp only[zB] at h7
  refine zD 3<|ja ((j:Int)+1) (by omega)<|zD 2<|bJ bL (⟨j+1,(gT pp a ((j:Int)+1)),Y64⟩) ⟨by dsimp only;omega,by dsimp only;rw[List.range_succ,List.flatMap_append,List.length_append,List.flatMap_singleton,←Nat.add_assoc];rw[hg0,←V5 hJ.2.2];exact aOK (by simp_all),(fun i hi=>by simp only[gT,if_neg hi];exact hJ.2.2 i hi)⟩ (by dsimp only;omega) [1,0] (Sub.refl _)
 refine zD 7<|zR (.bool true) [] [1] B ⟨_,rfl,(fun _=>by rw[qe,List.length_append,←Nat.add_assoc];have:=hJ.2.1;rwa[show j=K.after.length by omega] at this),nofun⟩
theorem aBL(hV:eN K){rows:List bG}{on:Int}{L:List (Nat→Int)}{Inv:Nat→Cells→Prop}:∀n,aqS bl f K rows on bf br bB bg bt bo L Inv Stop n:=by
 intro n
 induction n using Nat.strongRecOn with
 |_ n ih=>exact fun ro a p q B hc hF han hP hB hy=>atC ih hV hc hF han hP hB hy
def aO(K:aC)(on:Int):List (Nat→Int):=iu K on K.before.length 0 fun _=>0
theorem Ye{on:Int}{a:Nat}(h:¬a <K.before.length∨¬b <K.after.length):di K on a b=false:=by
 rcases h with h|h
 ·simp[di,List.getElem?_eq_none (Nat.le_of_not_lt h)]
 simp only[di,List.getElem?_eq_none (Nat.le_of_not_lt h)]
 split
 ·rename_i h1;cases h1
 rfl
def Ey(K:aC)(on:Int)(i j:Nat)(r:bG):Prop:=∀x y,r.c x y=((decide (x <i)||(decide (x=i)&&decide (y <j)))&&di K on x y)
theorem Ey.set{on:Int}{i j:Nat}{r:bG}(h:Ey K on i j r):Ey K on i (j+1) (iL r i j (di K on i j)):=fun x y=>by
 simp only[iL]
 split
 ·rename_i hx;obtain⟨rfl,rfl⟩:=hx;simp
 rename_i hx
 rw[h x y]
 congr 2
 by_cases e:x=i
 ·subst e
  have:y≠j:=fun e2=>hx ⟨rfl,e2⟩
  simp only[decide_true,Bool.true_and]
  congr 1
  exact propext (by omega)
 simp[e]
theorem Ey.nxt{on:Int}{i:Nat}{r:bG}(h:Ey K on i K.after.length r):Ey K on (i+1) 0 r:=fun x y=>by
 rw[h x y]
 by_cases hy:y <K.after.length
 ·congr 1
  simp only[hy,decide_true,Bool.and_true,Nat.not_lt_zero,decide_false,Bool.and_false,Bool.or_false]
  rw[Bool.eq_iff_iff];simp;omega
 rw[Ye (.inr hy)];simp
theorem Ey.fin{on:Int}{r:bG}(h:Ey K on K.before.length 0 r):r=⟨di K on⟩:=by
 rcases r with ⟨c⟩
 congr 1
 funext x y
 have:=h x y
 dsimp only at this
 rw[this]
 by_cases hx:x <K.before.length
 ·simp[hx]
 rw[Ye (.inl hx)];simp
theorem alv{a:Nat}(h:a <4):nth (eP4 p) ((a:Int).toNat*1)=some (zI (p a)):=by
 rcases Ap h with rfl|rfl|rfl|rfl<;>rfl
theorem adg{r:bG}{a:Nat}{j:Int}(h:a <4)(k:0≤j∧j <4):nth (AS r) (0+(a:Int).toNat*4+j.toNat*1)=some (.bool (r.c a j.toNat)):=by
 obtain⟨m,rfl⟩:=Int.eq_ofNat_of_zero_le k.1
 exact Wx h (by omega)
def BP(r:bG)(p:Nat→Int):Nat→Int
 |0=>0
 |k+1=>BP r p k+bif decide (p k>0)&& !r.c k (p k-1).toNat then 1 else 0
def cq(K:aC)(r:bG)(past:Nat)(p:Nat→Int):aj:=⟨past,p 0,p 1,p 2,p 3,K.before.length-rz (pL p),K.after.length-rz (pL p),BP r p 4⟩
theorem WN(p:Nat→Int):0≤rz (pL p)∧rz (pL p)≤4:=by
 have:=List.length_filter_le (fun x=>decide (x>0)) (pL p)
 simp only[rz]
 exact⟨by omega,by simp only[List.length_cons,List.length_nil] at this;omega⟩
theorem Xp{rows:List bG}{on:Int}(hF:oL ro f K rows)(hV:eN K)(g1:ro b1=some (.cells ⟨[zP f]⟩ 100 (0,0)))(g2:ro b2=some (.cells ⟨[.func (.func 116) ⟨[]⟩ ⟨[zP b1,zP b4]⟩]⟩ 218 (0,0)))(g3:ro b3=some (.cells ⟨AS ⟨di K on⟩⟩ 153 (0,0)))(g4:ro b4=some (.cells ⟨[.int .u8 on]⟩ 105 (0,0))):ItX zT 117 [] [zP b1,zP b2,zP b3] ro [] (aO K on).length (ePs (aO K on)) (fun Z=>Z=[]):=by
 intro bl aH Inv Stop hs hy B hB
 replace g1:=hs _ _ g1
 replace g2:=hs _ _ g2
 replace g3:=hs _ _ g3
 replace g4:=hs _ _ g4
 replace hF:=hF.up hs
 refine zC [.l B]<|zD 2<|jn fun b4=>zD 3<|jn fun b5=>jd 9 [0,0]<|jf [1,0] ((b4,.cells ⟨[(.func (.yield bl) #[] #[])]⟩ 218 (0,0))::[(b5,.cells ⟨[.func (.func 118) ⟨[]⟩ ⟨[zP b1,zP b2,zP b4,zP b5,zP b3]⟩]⟩ 219 (0,0))]) fun za bX iI=>jc (vs:=[.agg ⟨[zI 0,zI 0,zI 0,zI 0]⟩,zI 0,zP b1,zP b2,zP b4,zP b5,zP b3]) [0] (aBL (K:=K) hV (on:=on) _ _ 0 (fun _=>0) 0 _ ⟨(bX _ _ g1),(bX _ _ g2),iI _ (.head _),iI _ (.tail _ (.head _)),(bX _ _ g3),bX _ _ g4⟩ (hF.up bX) (Nat.zero_add _) ⟨[],[],by simp[aO],rfl⟩ hB (YOK.up hy bX)) ?_
 rintro _ Y9 ⟨c9,rfl,hc9,hd9⟩
 refine zD 1<|aM q0.a (.tuple ⟨[]⟩) [] [0] Y9 bX ⟨_,_,rfl,rfl,[],Y9,rfl,rfl,by cases c9 with|true=>exact .inl (by simpa [aO] using hc9 rfl)|false=>exact .inr (hd9 rfl)⟩
theorem Kv{rows:List bG}{on:Int}(hF:oL ro f K rows)(hV:eN K):dR zT 92 [zP f,.int .u8 on] ro [] (fun r Y=>∃b1 b2 b3 b4,r= .func (.func 117) ⟨[]⟩ ⟨[zP b1,zP b2,zP b3]⟩∧Y=[(b1,.cells ⟨[zP f]⟩ 100 (0,0)),(b2,.cells ⟨[.func (.func 116) ⟨[]⟩ ⟨[zP b1,zP b4]⟩]⟩ 218 (0,0)),(b3,.cells ⟨AS ⟨di K on⟩⟩ 153 (0,0)),(b4,.cells ⟨[.int .u8 on]⟩ 105 (0,0))]):=by
 obtain⟨c0,c1,c2,vc,vh,vr,vb,va,vf,vt,hv,hf,p7,nv,hr,Ek,I7,KG,bS⟩:=id hF
 obtain⟨hc,hh,dc⟩:=id p7
 obtain⟨ei,Ae,Ad,dW,rfl,De,yq,yp⟩:=hc
 obtain⟨dG,uD,uC,dr,rfl,wP,qB,qA⟩:=hh
 obtain⟨kH,Ik,Ij,kG,rfl,Ou,FW,FV⟩:=hr
 obtain⟨lA,Mw,Mu,kI,rfl,Mv,FY,FX⟩:=Ek
 obtain⟨lD,Mz,Mx,kJ,rfl,My,F3,FZ⟩:=I7
 obtain⟨lY,TE,TB,kY,rfl,TD,Mr,Mq⟩:=KG
 obtain⟨ni,DZ,DY,mH,rfl,PD,Mn,Mm⟩:=bS
 have Sx:=hV.rules.1
 have B6:=hV.before.1
 have EX:=hV.after.1
 have hnf:=hV.facts.1
 refine zE<|zD 2<|jn fun b2=>jn fun b3=>zD 4<|jn fun b5=>jd 8 [2]<|jl (b:=f) (off:=0) (m:=13) (vs:=[c0,c1,c2,.slice ei K.cs.length dW,.slice dG hv.length dr,.slice kH K.rules.length kG,.slice lA K.before.length kI,.slice lD K.after.length kJ,zI K.gone,zI K.new,zI K.af,.slice lY K.facts.length kY,.slice ni rows.length mH]) 6 ⟨_,_,_,.inl hf,rfl⟩<|zD 4<|dS [1,1,0,1,0,0] [] (fun(zz:Nat×bG)=>[(2,zP b2),(3,zP b3),(4,.nilFunc),(5,zP b5),(14,zI (K.before.length:Int)),(15,zI (zz.1:Int))]) (fun zz=>[.b b5 (.cells ⟨[.bool (zz.2.c 0 0),.bool (zz.2.c 0 1),.bool (zz.2.c 0 2),.bool (zz.2.c 0 3),.bool (zz.2.c 1 0),.bool (zz.2.c 1 1),.bool (zz.2.c 1 2),.bool (zz.2.c 1 3),.bool (zz.2.c 2 0),.bool (zz.2.c 2 1),.bool (zz.2.c 2 2),.bool (zz.2.c 2 3),.bool (zz.2.c 3 0),.bool (zz.2.c 3 1),.bool (zz.2.c 3 2),.bool (zz.2.c 3 3)]⟩ 153 (0,0)),.b b3 (.cells ⟨[.int .u8 on]⟩ 105 (0,0)),.b b2 (.cells ⟨[zP f]⟩ 100 (0,0))]) (fun zz=>zz.1≤K.before.length∧Ey K on zz.1 0 zz.2) (fun zz=>K.before.length-zz.1) (⟨0,⟨fun _ _=>false⟩⟩) ⟨by dsimp only;omega,fun x y=>by simp⟩ [0,1,2] ?_
 rintro⟨i,r⟩ hI K1 bL rest
 dsimp only at hI
 refine zD 5<|zJ 16 ((i:Int) <(K.before.length:Int)) (fun h1=>?_) fun h1=>?_
 ·
  refine jd 15 [2]<|jl (b:=f) (off:=0) (m:=13) (vs:=[c0,c1,c2,.slice ei K.cs.length dW,.slice dG hv.length dr,.slice kH K.rules.length kG,.slice lA K.before.length kI,.slice lD K.after.length kJ,zI K.gone,zI K.new,zI K.af,.slice lY K.facts.length kY,.slice ni rows.length mH]) 7 ⟨_,_,_,.inl hf,rfl⟩<|zD 4<|dS [1,1,0,1,0,0,1,1,0,0,1,1,0,0] [K1] (fun(zz:Nat×bG)=>[(2,zP b2),(3,zP b3),(4,.nilFunc),(5,zP b5),(6,zI (i:Int)),(14,zI (K.before.length:Int)),(15,zI (i:Int)),(23,zI (K.after.length:Int)),(24,zI (zz.1:Int))]) (fun zz=>[.b b5 (.cells ⟨[.bool (zz.2.c 0 0),.bool (zz.2.c 0 1),.bool (zz.2.c 0 2),.bool (zz.2.c 0 3),.bool (zz.2.c 1 0),.bool (zz.2.c 1 1),.bool (zz.2.c 1 2),.bool (zz.2.c 1 3),.bool (zz.2.c 2 0),.bool (zz.2.c 2 1),.bool (zz.2.c 2 2),.bool (zz.2.c 2 3),.bool (zz.2.c 3 0),.bool (zz.2.c 3 1),.bool (zz.2.c 3 2),.bool (zz.2.c 3 3)]⟩ 153 (0,0)),.b b3 (.cells ⟨[.int .u8 on]⟩ 105 (0,0)),.b b2 (.cells ⟨[zP f]⟩ 100 (0,0))]) (fun zz=>zz.1≤K.after.length∧Ey K on i zz.1 zz.2) (fun zz=>K.after.length-zz.1) (⟨0,r⟩) ⟨by dsimp only;omega,hI.2⟩ [0,1,2] ?_
  rintro⟨j,r⟩ hJ K2 mb rest
  dsimp only at hJ
  refine zD 5<|zJ 25 ((j:Int) <(K.after.length:Int)) (fun h2=>?_) fun h2=>?_
  ·
   refine zD 9 ?_
   obtain⟨x,ha⟩:∃x,K.before[i]?=some x:=⟨_,List.getElem?_eq_getElem (by omega)⟩
   obtain⟨y,hb⟩:∃y,K.after[j]?=some y:=⟨_,List.getElem?_eq_getElem (by omega)⟩
   refine jd 7 [2,1]<|Kz (b:=b5) (off:=0) (len:=4) (sz:=4) (i:Int) (by omega)<|jp (vs:=[zP f,zI (i:Int),zI (j:Int),.int .u8 on]) [] [] (fun aH hs hZ=>aBM (hF.up hs) hV ha hb)<|Kz (b:=b5) (off:=0+(i:Int).toNat*4) (len:=4) (sz:=1) (j:Int) (by omega)<|aS 9 fun q9 ri p8=>jsx 0 b5 (0+(i:Int).toNat*4+(j:Int).toNat*1) [.bool (r.c 0 0),.bool (r.c 0 1),.bool (r.c 0 2),.bool (r.c 0 3),.bool (r.c 1 0),.bool (r.c 1 1),.bool (r.c 1 2),.bool (r.c 1 3),.bool (r.c 2 0),.bool (r.c 2 1),.bool (r.c 2 2),.bool (r.c 2 3),.bool (r.c 3 0),.bool (r.c 3 1),.bool (r.c 3 2),.bool (r.c 3 3)] [.bool (di K on i j)] 153 (by intro v hv;rw[List.mem_singleton] at hv;subst hv;rfl) (Wy (r:=r) (by omega) (by omega)) ?_
   refine jmw 0 [.b b5 (.cells ⟨[.bool ((iL r i j (di K on i j)).c 0 0),.bool ((iL r i j (di K on i j)).c 0 1),.bool ((iL r i j (di K on i j)).c 0 2),.bool ((iL r i j (di K on i j)).c 0 3),.bool ((iL r i j (di K on i j)).c 1 0),.bool ((iL r i j (di K on i j)).c 1 1),.bool ((iL r i j (di K on i j)).c 1 2),.bool ((iL r i j (di K on i j)).c 1 3),.bool ((iL r i j (di K on i j)).c 2 0),.bool ((iL r i j (di K on i j)).c 2 1),.bool ((iL r i j (di K on i j)).c 2 2),.bool ((iL r i j (di K on i j)).c 2 3),.bool ((iL r i j (di K on i j)).c 3 0),.bool ((iL r i j (di K on i j)).c 3 1),.bool ((iL r i j (di K on i j)).c 3 2),.bool ((iL r i j (di K on i j)).c 3 3)]⟩ 153 (0,0))] (L:=[(b5,.cells ⟨dw [.bool (r.c 0 0),.bool (r.c 0 1),.bool (r.c 0 2),.bool (r.c 0 3),.bool (r.c 1 0),.bool (r.c 1 1),.bool (r.c 1 2),.bool (r.c 1 3),.bool (r.c 2 0),.bool (r.c 2 1),.bool (r.c 2 2),.bool (r.c 2 3),.bool (r.c 3 0),.bool (r.c 3 1),.bool (r.c 3 2),.bool (r.c 3 3)] (0+(i:Int).toNat*4+(j:Int).toNat*1) [.bool (di K on i j)]⟩ 153 (0,0))]) (by rw[Ww (by omega) (by omega)];rfl) ?_
   refine fS p8 []<|zD 2<|ja ((j:Int)+1) (by omega)<|zD 2<|bJ mb (⟨j+1,(iL r i j (di K on i j))⟩) ⟨by dsimp only;omega,hJ.2.set⟩ (by dsimp only;omega) [0,1,2] (Sub.refl _)
  refine zD 3<|ja ((i:Int)+1) (by omega)<|zD 2<|bJ bL (⟨i+1,r⟩) ⟨by dsimp only;omega,Ey.nxt (by have:=hJ.2;rwa[show j=K.after.length by omega] at this)⟩ (by dsimp only;omega) [0,1,2] (Sub.refl _)
 refine zD 5<|jn fun b8=>jd 8 [0]<|zR (.func (.func 117) ⟨[]⟩ ⟨[zP b2,zP b8,zP b5]⟩) [] [3,0,1,2] ((b2,.cells ⟨[zP f]⟩ 100 (0,0))::((b8,.cells ⟨[.func (.func 116) ⟨[]⟩ ⟨[zP b2,zP b3]⟩]⟩ 218 (0,0))::((b5,.cells ⟨[.bool (r.c 0 0),.bool (r.c 0 1),.bool (r.c 0 2),.bool (r.c 0 3),.bool (r.c 1 0),.bool (r.c 1 1),.bool (r.c 1 2),.bool (r.c 1 3),.bool (r.c 2 0),.bool (r.c 2 1),.bool (r.c 2 2),.bool (r.c 2 3),.bool (r.c 3 0),.bool (r.c 3 1),.bool (r.c 3 2),.bool (r.c 3 3)]⟩ 153 (0,0))::[(b3,.cells ⟨[.int .u8 on]⟩ 105 (0,0))]))) ⟨_,_,_,_,rfl,by have e:=Ey.fin (K:=K) (on:=on) (r:=r) (by have:=hI.2;rwa[show i=K.before.length by omega] at this);subst e;rfl⟩
theorem apz{rows:List bG}{IL:bG}(hF:oL ro f K rows)(hV:eN K)(B2:rows[past]?=some IL) (hp:∀i,0≤p i∧p i≤4):dD zT 93 [zP f,zI (past:Int),.agg ⟨[zI (p 0),zI (p 1),zI (p 2),zI (p 3)]⟩] ro (.agg ⟨cP (cq K IL past p)⟩):=by
 obtain⟨c0,c1,c2,vc,vh,vr,vb,va,vf,vt,hv,hf,p7,nv,hr,Ek,I7,KG,bS⟩:=id hF
 obtain⟨hc,hh,dc⟩:=id p7
 obtain⟨ei,Ae,Ad,dW,rfl,De,yq,yp⟩:=hc
 obtain⟨dG,uD,uC,dr,rfl,wP,qB,qA⟩:=hh
 obtain⟨kH,Ik,Ij,kG,rfl,Ou,FW,FV⟩:=hr
 obtain⟨lA,Mw,Mu,kI,rfl,Mv,FY,FX⟩:=Ek
 obtain⟨lD,Mz,Mx,kJ,rfl,My,F3,FZ⟩:=I7
 obtain⟨lY,TE,TB,kY,rfl,TD,Mr,Mq⟩:=KG
 obtain⟨ni,DZ,DY,mH,rfl,PD,Mn,Mm⟩:=bS
 have Sx:=hV.rules.1
 have B6:=hV.before.1
 have EX:=hV.after.1
 have hnf:=hV.facts.1
 have hpc:=WN p
 have Sv:=(List.getElem?_eq_some_iff.1 B2).1
 refine zE<|zD 2<|jn fun b5=>jn fun b6=>jd 4 [1]<|jp (vs:=[.agg ⟨[zI (p 0),zI (p 1),zI (p 2),zI (p 3)]⟩]) [] [] (fun aH hs hZ=>(atk (p0:=p 0) (p1:=p 1) (p2:=p 2) (p3:=p 3)))<|jd 10 [1]<|jl (b:=f) (off:=0) (m:=13) (vs:=[c0,c1,c2,.slice ei K.cs.length dW,.slice dG hv.length dr,.slice kH K.rules.length kG,.slice lA K.before.length kI,.slice lD K.after.length kJ,zI K.gone,zI K.new,zI K.af,.slice lY K.facts.length kY,.slice ni rows.length mH]) 6 ⟨_,_,_,.inl hf,rfl⟩<|zD 2<|ja ((K.before.length:Int)-(rz (pL p))) (by omega)<|zD 4<|jl (b:=f) (off:=0) (m:=13) (vs:=[c0,c1,c2,.slice ei K.cs.length dW,.slice dG hv.length dr,.slice kH K.rules.length kG,.slice lA K.before.length kI,.slice lD K.after.length kJ,zI K.gone,zI K.new,zI K.af,.slice lY K.facts.length kY,.slice ni rows.length mH]) 7 ⟨_,_,_,.inl hf,rfl⟩<|zD 2<|ja ((K.after.length:Int)-(rz (pL p))) (by omega)<|zD 1<|aS 19 fun DM DW Bh=>jn fun b8=>ez Bh [1,2]<|aS 20 fun zl zt yR=>jd 1 [0]<|fT yR<|jd 8 [2]<|dS [1,1,1,0,1,0,0] [] (fun(zz:Nat×Int)=>[(0,zP f),(1,zI (past:Int)),(6,zP b6),(8,zP b8),(32,.agg ⟨[zI (p 0),zI (p 1),zI (p 2),zI (p 3)]⟩),(33,zI (zz.1:Int))]) (fun zz=>[.b b8 (.cells ⟨[zI (past:Int),zI (p 0),zI (p 1),zI (p 2),zI (p 3),zI ((K.before.length:Int)-(rz (pL p))),zI ((K.after.length:Int)-(rz (pL p))),zI zz.2]⟩ 128 (0,0)),.b b6 (.cells ⟨[zI 0,zI 0,zI 0,zI 0,zI 0,zI 0,zI 0,zI 0]⟩ 128 (0,0))]) (fun zz=>zz.1≤4∧zz.2=BP IL p zz.1∧(0≤zz.2∧zz.2≤zz.1)) (fun zz=>4-zz.1) (⟨0,0⟩) ⟨by dsimp only;omega,rfl,by dsimp only;omega⟩ [0,1] ?_
 rintro⟨k,m⟩ hI K3 X3 rest
 dsimp only at hI
 refine zD 5<|zJ 34 ((k:Int) <4) (fun h3=>?_) fun h3=>?_
 ·
  refine zD 7<|jai (l:=[zI (p 0),zI (p 1),zI (p 2),zI (p 3)]) (k:Int) 4 1 false (by omega) (v:= zI (p k)) (show nth (eP4 p) _=_ from alv (by omega))<|zD 4 ?_
  have hpk:=hp k
  refine zD 4<|js 39 (decide ((p k)>0)) (fun h4=>?_) (fun h4=>?_)
  ·
   have xQ:=h4
   replace xQ:=of_decide_eq_true xQ
   refine zD 3<|jl (b:=f) (off:=0) (m:=13) (vs:=[c0,c1,c2,.slice ei K.cs.length dW,.slice dG hv.length dr,.slice kH K.rules.length kG,.slice lA K.before.length kI,.slice lD K.after.length kJ,zI K.gone,zI K.new,zI K.af,.slice lY K.facts.length kY,.slice ni rows.length mH]) 12 ⟨_,_,_,.inl hf,rfl⟩<|zD 3<|ja ((p k)-1) (by omega) ?_
   obtain⟨x48,GK⟩:=zG rows past
   refine iB mH 16 Mn GK<|Kz (b:=DZ) (off:=DY+past*16+0) (len:=4) (sz:=4) (k:Int) (by omega)<|Kz (b:=DZ) (off:=DY+past*16+0+(k:Int).toNat*4) (len:=4) (sz:=1) ((p k)-1) (by omega)<|jl (b:=DZ) (off:=DY+past*16+0+(k:Int).toNat*4+((p k)-1).toNat*1) (m:=1) (vs:=[.bool (x48.c k ((p k)-1).toNat)]) 0 (show cv ⟨ro,[]⟩ DZ (DY+past*16+0+(k:Int).toNat*4+((p k)-1).toNat*1) 1 [.bool (x48.c k ((p k)-1).toNat)] from by have:=adt (Mm _ _ GK) (adg (r:=x48) (a:=k) (j:=(p k)-1) (by omega) (by omega));simpa [Nat.add_assoc] using this) ?_
   refine zD 3<|js 53 (!(x48.c k ((p k)-1).toNat)) (fun h5=>?_) (fun h5=>?_)
   ·
    try simp only[zB] at h5
    refine jd 4 [0]<|ja (m+1) (by omega)<|jd 4 [0]<|ja ((k:Int)+1) (by omega)<|zD 2<|bJ X3 (⟨k+1,(m+1)⟩) ⟨by dsimp only;omega,by dsimp only;rw[BP,hI.2.1];rw[B2] at GK;cases GK;simp only[decide_eq_true xQ,h5,Bool.not_false,Bool.not_true,Bool.and_true,Bool.and_false,cond_true,cond_false,Int.add_zero],by dsimp only;omega⟩ (by dsimp only;omega) [0,1] (Sub.refl _)
   try simp only[zB] at h5
   refine zD 3<|ja ((k:Int)+1) (by omega)<|zD 2<|bJ X3 (⟨k+1,m⟩) ⟨by dsimp only;omega,by dsimp only;rw[BP,hI.2.1];rw[B2] at GK;cases GK;simp only[decide_eq_true xQ,h5,Bool.not_false,Bool.not_true,Bool.and_true,Bool.and_false,cond_true,cond_false,Int.add_zero],by dsimp only;omega⟩ (by dsimp only;omega) [0,1] (Sub.refl _)
  have xQ:=h4
  replace xQ:=of_decide_eq_false xQ
  refine zD 18<|ja ((k:Int)+1) (by omega)<|zD 2<|bJ X3 (⟨k+1,m⟩) ⟨by dsimp only;omega,by dsimp only;rw[BP,hI.2.1];simp only[decide_eq_false xQ,Bool.false_and,cond_false,Int.add_zero],by dsimp only;omega⟩ (by dsimp only;omega) [0,1] (Sub.refl _)
 refine jd 8 [0,1]<|zR (.agg ⟨[zI (past:Int),zI (p 0),zI (p 1),zI (p 2),zI (p 3),zI ((K.before.length:Int)-(rz (pL p))),zI ((K.after.length:Int)-(rz (pL p))),zI m]⟩) [1] [] [] ⟨by rw[hI.2.1,show k=4 by omega];rfl,rfl⟩
def wF(v:Value)(xs:List aj)(Y:Cells):Prop:=∃ys,ys.Perm xs∧ay v 8 128 cP ys Y
def gh(xs:List aj):Prop:=∀x∈xs,0≤x.past∧x.past≤1000
theorem gh.perm{xs ys:List aj}(h:gh xs)(hp:ys.Perm xs):gh ys:=fun x hx=>h x (hp.mem_iff.1 hx)
theorem E4{x:Int}(h:0≤x∧x≤1000000000):IntKind.i64.wrap (aT .u64 (IntKind.u64.wrap x) 1)=x / 2:=by
 have h1:IntKind.u64.wrap x=x:=r5 .u64 rfl _ (by omega) (by simp[IntKind.bits];omega)
 rw[h1]
 have h2:aT .u64 x 1=x / 2:=by
  show x.fdiv 2=x / 2
  exact Int.fdiv_eq_ediv_of_nonneg _ (by decide)
 rw[h2,j6 _ (by omega)]
theorem aml{x y:aj}(hx:0≤x.past∧x.past≤1000)(hy:0≤y.past∧y.past≤1000):dD zT 109 [.agg ⟨[zI x.past,zI x.w0,zI x.w1,zI x.w2,zI x.w3,zI x.gone,zI x.new,zI x.af]⟩,.agg ⟨[zI y.past,zI y.w0,zI y.w1,zI y.w2,zI y.w3,zI y.gone,zI y.new,zI y.af]⟩] ro (zI (x.past-y.past)):=by
 refine zE<|zD 2<|jn fun b2=>jn fun b3=>jd 8 [1,0]<|ja (x.past-y.past) (by omega)<|zD 3<|zX (zI (x.past-y.past)) ⟨rfl,rfl⟩
theorem azV{v:Value}{xs:List aj}{L:Cells}{a b:Int}(ho:ay v 8 128 cP xs L)(hN:xs.length≤100000)(hP:gh xs)(zh:0≤a∧a≤b∧b≤xs.length):dR zT 190 [v,zI a,zI b,.func (.func 109) ⟨[]⟩ ⟨[]⟩] ro L (fun r Y=>wF v xs Y):=by
 refine zC [.l L]<|zD 3<|ja (a+1) (by omega)<|zD 3<|dS [1,0,0] [] (fun(zz:Int×(List aj)×Cells)=>[(0,v),(1,zI a),(2,zI b),(3,.func (.func 109) ⟨[]⟩ ⟨[]⟩),(8,zI zz.1)]) (fun zz=>[.l zz.2.2]) (fun zz=>(a+1≤zz.1)∧ay v 8 128 cP zz.2.1 zz.2.2∧zz.2.1.Perm xs) (fun zz=>(b-zz.1).toNat) (⟨(a+1),xs,L⟩) ⟨by dsimp only;omega,ho,.refl _⟩ [0] ?_
 rintro⟨i,ys,L⟩ hI K1 bL rest
 dsimp only at hI
 have Xw:=hI.2.2.length_eq
 have hyp:=hP.perm hI.2.2
 refine zD 7<|zJ 14 (i <b) (fun h1=>?_) fun h1=>?_
 ·
  refine zD 10<|dS [1,0,0,1,0,0,1,0,0] [K1] (fun(zz:Int×(List aj)×Cells)=>[(0,v),(1,zI a),(2,zI b),(3,.func (.func 109) ⟨[]⟩ ⟨[]⟩),(8,zI i),(9,zI zz.1)]) (fun zz=>[.l zz.2.2]) (fun zz=>(a≤zz.1∧zz.1≤i)∧ay v 8 128 cP zz.2.1 zz.2.2∧zz.2.1.Perm xs) (fun zz=>(zz.1-a).toNat) (⟨i,ys,L⟩) ⟨by dsimp only;omega,hI.2⟩ [0] ?_
  rintro⟨j,ys,L⟩ hJ K2 mb rest
  dsimp only at hJ
  have Xw:=hJ.2.2.length_eq
  have hyp:=hP.perm hJ.2.2
  refine zD 7<|js 3 (decide (j>a)) (fun h2=>?_) (fun h2=>?_)
  ·
   have me:=h2
   replace me:=of_decide_eq_true me
   refine zD 3 ?_
   obtain⟨x5,k8⟩:=zG ys (j.toNat) (by first|omega| (simp only[List.length_set];omega))
   refine pP j 8 hJ.2.1 k8 (Int.toNat_of_nonneg (show 0≤j∧j <((ys).length:Int) from (by first|omega| (simp only[List.length_set];omega))).1).symm (fun nQ agW=>?_)
   refine oH 0 [0] L (fun s _ hZ=>cw hJ.2.1 agW hZ k8)<|zD 2<|ja (j-1) (by omega) ?_
   obtain⟨nT,iO⟩:=zG ys ((j-1).toNat) (by first|omega| (simp only[List.length_set];omega))
   refine pP (j-1) 8 hJ.2.1 iO (Int.toNat_of_nonneg (show 0≤(j-1)∧(j-1) <((ys).length:Int) from (by first|omega| (simp only[List.length_set];omega))).1).symm (fun b30 UR=>?_)
   refine oH 0 [0] L (fun s _ hZ=>cw hJ.2.1 UR hZ iO)<|aS 14 fun q9 ri p8=>jp (vs:=[.agg ⟨[zI x5.past,zI x5.w0,zI x5.w1,zI x5.w2,zI x5.w3,zI x5.gone,zI x5.new,zI x5.af]⟩,.agg ⟨[zI nT.past,zI nT.w0,zI nT.w1,zI nT.w2,zI nT.w3,zI nT.gone,zI nT.new,zI nT.af]⟩]) [] [] (fun aH hs hZ=>(aml (x:=x5) (y:=nT) (hyp _ (zL k8)) (hyp _ (zL iO))))<|ez p8 [0]<|zD 3<|zJ 34 ((x5.past-nT.past) <0) (fun h4=>?_) fun h4=>?_
   ·
    refine zD 9<|ja (j-1) (by omega)<|zD 2<|ja (j-1) (by omega) ?_
    obtain⟨xo,Ed⟩:=zG ys ((j-1).toNat) (by first|omega| (simp only[List.length_set];omega))
    refine pP (j-1) 8 hJ.2.1 Ed (Int.toNat_of_nonneg (show 0≤(j-1)∧(j-1) <((ys).length:Int) from (by first|omega| (simp only[List.length_set];omega))).1).symm (fun b45 agV=>?_)
    refine oH 0 [0] L (fun s _ hZ=>cw hJ.2.1 agV hZ Ed)<|zD 2 ?_
    obtain⟨IF,Ec⟩:=zG ys (j.toNat) (by first|omega| (simp only[List.length_set];omega))
    refine pP j 8 hJ.2.1 Ec (Int.toNat_of_nonneg (show 0≤j∧j <((ys).length:Int) from (by first|omega| (simp only[List.length_set];omega))).1).symm (fun b49 agS=>?_)
    refine oH 0 [0] L (fun s _ hZ=>cw hJ.2.1 agS hZ Ec) ?_
    obtain⟨x51,Eb⟩:=zG ys (j.toNat) (by first|omega| (simp only[List.length_set];omega))
    refine pP j 8 hJ.2.1 Eb (Int.toNat_of_nonneg (show 0≤j∧j <((ys).length:Int) from (by first|omega| (simp only[List.length_set];omega))).1).symm (fun b51 agR=>?_)
    refine aS 15 fun rY sb qE=>So 0 0 [zI xo.past,zI xo.w0,zI xo.w1,zI xo.w2,zI xo.w3,zI xo.gone,zI xo.new,zI xo.af] xo hJ.2.1 agR Eb rfl rfl (Nat.le_of_ble_eq_true rfl) fun L6 ho7=>fS qE [] ?_
    obtain⟨x52,vy⟩:=zG ((ys.set j.toNat xo)) ((j-1).toNat) (by first|omega| (simp only[List.length_set];omega))
    refine pP (j-1) 8 ho7 vy (Int.toNat_of_nonneg (show 0≤(j-1)∧(j-1) <(((ys.set j.toNat xo)).length:Int) from (by first|omega| (simp only[List.length_set];omega))).1).symm (fun b52 agQ=>?_)
    refine aS 17 fun Bo Bu Cc=>So 0 0 [zI IF.past,zI IF.w0,zI IF.w1,zI IF.w2,zI IF.w3,zI IF.gone,zI IF.new,zI IF.af] IF ho7 agQ vy rfl rfl (Nat.le_of_ble_eq_true rfl) fun L9 agh=>fT Cc<|zD 3<|ja (j-1) (by omega)<|zD 2<|bJ mb (⟨(j-1),((ys.set j.toNat xo).set ((j-1).toNat) IF),L9⟩) ⟨by dsimp only;omega,agh,(nj Ec Ed).trans hJ.2.2⟩ (by dsimp only;omega) [0] (Sub.refl _)
   refine zD 4<|ja (i+1) (by omega)<|zD 2<|bJ bL (⟨(i+1),ys,L⟩) ⟨by dsimp only;omega,hJ.2⟩ (by dsimp only;omega) [0] (Sub.refl _)
  have me:=h2
  replace me:=of_decide_eq_false me
  refine zD 18<|ja (i+1) (by omega)<|zD 2<|bJ bL (⟨(i+1),ys,L⟩) ⟨by dsimp only;omega,hJ.2⟩ (by dsimp only;omega) [0] (Sub.refl _)
 refine zD 2<|zR (.tuple ⟨[]⟩) [] [0] L ⟨ys,hI.2.2,hI.2.1⟩
def aGc(n:Nat):Prop:=∀(ro:Nat→Option Obj) (v:Value) (xs:List aj) (L:Cells) (a m b:Int),ay v 8 128 cP xs L→xs.length≤100000→gh xs→(0≤a∧a <m∧m <b∧b≤xs.length)→(b-a).toNat=n→
 dR zT 191 [v,zI a,zI m,zI b,.func (.func 109) ⟨[]⟩ ⟨[]⟩] ro L (fun _ Y=>wF v xs Y)
theorem ade{v:Value}{xs:List aj}{L:Cells}{a b n:Int}(ho:ay v 8 128 cP xs L)(hN:xs.length≤100000)(hP:gh xs)(zh:(0≤a∧0≤b∧0≤n)∧a+n≤xs.length∧b+n≤xs.length∧a≠b):dR zT 241 [v,zI a,zI b,zI n,.func (.func 109) ⟨[]⟩ ⟨[]⟩] ro L (fun r Y=>wF v xs Y):=by
 refine zC [.l L]<|zD 5<|dS [1,0,0] [] (fun(zz:Int×(List aj)×Cells)=>[(0,v),(1,zI a),(2,zI b),(3,zI n),(10,zI zz.1)]) (fun zz=>[.l zz.2.2]) (fun zz=>(0≤zz.1∧zz.1≤n)∧ay v 8 128 cP zz.2.1 zz.2.2∧zz.2.1.Perm xs) (fun zz=>(n-zz.1).toNat) (⟨0,xs,L⟩) ⟨by dsimp only;omega,ho,.refl _⟩ [0] ?_
 rintro⟨i,ys,L⟩ hI K1 bL rest
 dsimp only at hI
 have Xw:=hI.2.2.length_eq
 have hyp:=hP.perm hI.2.2
 refine zD 7<|zJ 13 (i <n) (fun h1=>?_) fun h1=>?_
 ·
  refine zD 8<|ja (a+i) (by omega)<|zD 3<|ja (b+i) (by omega)<|zD 3<|ja (b+i) (by omega) ?_
  obtain⟨YW,at2⟩:=zG ys ((b+i).toNat) (by first|omega| (simp only[List.length_set];omega))
  refine pP (b+i) 8 hI.2.1 at2 (Int.toNat_of_nonneg (show 0≤(b+i)∧(b+i) <((ys).length:Int) from (by first|omega| (simp only[List.length_set];omega))).1).symm (fun b28 aPd=>?_)
  refine oH 0 [0] L (fun s _ hZ=>cw hI.2.1 aPd hZ at2)<|zD 3<|ja (a+i) (by omega) ?_
  obtain⟨YV,Nd⟩:=zG ys ((a+i).toNat) (by first|omega| (simp only[List.length_set];omega))
  refine pP (a+i) 8 hI.2.1 Nd (Int.toNat_of_nonneg (show 0≤(a+i)∧(a+i) <((ys).length:Int) from (by first|omega| (simp only[List.length_set];omega))).1).symm (fun b34 aPa=>?_)
  refine oH 0 [0] L (fun s _ hZ=>cw hI.2.1 aPa hZ Nd) ?_
  obtain⟨x36,yG⟩:=zG ys ((a+i).toNat) (by first|omega| (simp only[List.length_set];omega))
  refine pP (a+i) 8 hI.2.1 yG (Int.toNat_of_nonneg (show 0≤(a+i)∧(a+i) <((ys).length:Int) from (by first|omega| (simp only[List.length_set];omega))).1).symm (fun rN avQ=>?_)
  refine aS 21 fun zl zt yR=>So 0 0 [zI YW.past,zI YW.w0,zI YW.w1,zI YW.w2,zI YW.w3,zI YW.gone,zI YW.new,zI YW.af] YW hI.2.1 avQ yG rfl rfl (Nat.le_of_ble_eq_true rfl) fun L3 ho4=>fS yR [] ?_
  obtain⟨x37,aap⟩:=zG ((ys.set ((a+i).toNat) YW)) ((b+i).toNat) (by first|omega| (simp only[List.length_set];omega))
  refine pP (b+i) 8 ho4 aap (Int.toNat_of_nonneg (show 0≤(b+i)∧(b+i) <(((ys.set ((a+i).toNat) YW)).length:Int) from (by first|omega| (simp only[List.length_set];omega))).1).symm (fun b37 aO8=>?_)
  refine aS 23 fun q9 ri p8=>So 0 0 [zI YV.past,zI YV.w0,zI YV.w1,zI YV.w2,zI YV.w3,zI YV.gone,zI YV.new,zI YV.af] YV ho4 aO8 aap rfl rfl (Nat.le_of_ble_eq_true rfl) fun L6 ho7=>fT p8<|zD 3<|ja (i+1) (by omega)<|zD 2<|bJ bL (⟨(i+1),((ys.set ((a+i).toNat) YW).set ((b+i).toNat) YV),L6⟩) ⟨by dsimp only;omega,ho7,(nj Nd at2).trans hI.2.2⟩ (by dsimp only;omega) [0] (Sub.refl _)
 refine zD 2<|zR (.tuple ⟨[]⟩) [] [0] L ⟨ys,hI.2.2,hI.2.1⟩
theorem aJQ{v:Value}{xs:List aj}{L:Cells}{a m b:Int}(ho:ay v 8 128 cP xs L)(hN:xs.length≤100000)(hP:gh xs)(zh:0≤a∧a <m∧m <b∧b≤xs.length):dR zT 220 [v,zI a,zI m,zI b,.func (.func 109) ⟨[]⟩ ⟨[]⟩] ro L (fun r Y=>wF v xs Y):=by
 refine zC [.l L]<|zD 4<|ja (m-a) (by omega)<|zD 6<|ja (b-m) (by omega)<|zD 4<|dS [1,1,0,0,0] [] (fun(zz:Int×Int×(List aj)×Cells)=>[(0,v),(2,zI m),(4,.func (.func 109) ⟨[]⟩ ⟨[]⟩),(10,zI zz.1),(11,zI zz.2.1)]) (fun zz=>[.l zz.2.2.2]) (fun zz=>((0 <zz.1∧zz.1≤m-a)∧0 <zz.2.1∧zz.2.1≤b-m)∧ay v 8 128 cP zz.2.2.1 zz.2.2.2∧zz.2.2.1.Perm xs) (fun zz=>(zz.1+zz.2.1).toNat) (⟨(m-a),(b-m),xs,L⟩) ⟨by dsimp only;omega,ho,.refl _⟩ [0] ?_
 rintro⟨i,j,ys,L⟩ hI K1 bL rest
 dsimp only at hI
 have Xw:=hI.2.2.length_eq
 have hyp:=hP.perm hI.2.2
 refine zD 7<|js 20 (!decide (i=j)) (fun h1=>?_) (fun h1=>?_)
 ·
  replace h1:=of_decide_eq_false (by simpa using h1)
  refine zD 9<|zJ 23 (i>j) (fun h2=>?_) fun h2=>?_
  ·
   refine zD 6<|ja (m-i) (by omega)<|zD 3<|jc (vs:=[v,zI (m-i),zI m,zI j,.func (.func 109) ⟨[]⟩ ⟨[]⟩]) [0] (ade hI.2.1 (by omega) hyp (by omega)) ?_
   rintro aWD Y31 ⟨aIn,auu,aNh⟩
   have aTV:=auu.length_eq
   have aTO:=gh.perm hyp auu
   refine zD 4<|ja (i-j) (by omega)<|zD 2<|bJ bL (⟨(i-j),j,aIn,Y31⟩) ⟨by dsimp only;omega,aNh,(auu.trans hI.2.2)⟩ (by dsimp only;omega) [0] (Sub.refl _)
  refine zD 6<|ja (m-i) (by omega)<|zD 2<|ja (m+j) (by omega)<|zD 1<|ja ((m+j)-i) (by omega)<|zD 2<|jc (vs:=[v,zI (m-i),zI ((m+j)-i),zI i,.func (.func 109) ⟨[]⟩ ⟨[]⟩]) [0] (ade hI.2.1 (by omega) hyp (by omega)) ?_
  rintro aWB Y46 ⟨aIl,aus,aNd⟩
  have aTT:=aus.length_eq
  have aTM:=gh.perm hyp aus
  refine zD 4<|ja (j-i) (by omega)<|zD 2<|bJ bL (⟨i,(j-i),aIl,Y46⟩) ⟨by dsimp only;omega,aNd,(aus.trans hI.2.2)⟩ (by dsimp only;omega) [0] (Sub.refl _)
 replace h1:=of_decide_eq_true (by simpa using h1)
 refine zD 6<|ja (m-i) (by omega)<|zD 3<|jc (vs:=[v,zI (m-i),zI m,zI i,.func (.func 109) ⟨[]⟩ ⟨[]⟩]) [0] (ade hI.2.1 (by omega) hyp (by omega)) ?_
 rintro aWA Y57 ⟨aVP,auq,amN⟩
 have aTS:=auq.length_eq
 have aTL:=gh.perm hyp auq
 refine zD 1<|zR (.tuple ⟨[]⟩) [] [0] Y57 ⟨_,(auq.trans hI.2.2),amN⟩
theorem azS{v:Value}{xs:List aj}{L:Cells}{a m b:Int}(ih:∀k,k <n→aGc k)(ho:ay v 8 128 cP xs L)(hN:xs.length≤100000)(hP:gh xs)(zh:0≤a∧a <m∧m <b∧b≤xs.length)(hn:(b-a).toNat=n):dR zT 191 [v,zI a,zI m,zI b,.func (.func 109) ⟨[]⟩ ⟨[]⟩] ro L (fun r Y=>wF v xs Y):=by
 refine zC [.l L]<|zD 5<|ja (m-a) (by omega)<|zD 2<|zJ 28 ((m-a)=1) (fun h1=>?_) fun h1=>?_
 ·
  refine zD 13<|dS [0,1,0,1,1,0,0,0] [] (fun(zz:Int×Int)=>[(0,v),(1,zI a),(2,zI m),(3,zI b),(4,.func (.func 109) ⟨[]⟩ ⟨[]⟩),(10,zI zz.1),(11,zI zz.2)]) (fun zz=>[.l L]) (fun zz=>(m≤zz.1∧zz.1≤zz.2)∧zz.2≤b) (fun zz=>(zz.2-zz.1).toNat) (⟨m,b⟩) (by dsimp only;omega) [0] ?_
  rintro⟨i,j⟩ hI K1 bL rest
  dsimp only at hI
  refine zD 7<|zJ 33 (i <j) (fun h2=>?_) fun h2=>?_
  ·
   refine zD 7<|ja (i+j) (by omega)<|zD 6 ?_
   have hh:=E4 (x:=i+j) (by omega)
   refine zD 4 ?_
   obtain⟨x43,atZ⟩:=zG xs ((IntKind.i64.wrap (aT .u64 (IntKind.u64.wrap (i+j)) 1)).toNat) (by first|omega| (simp only[List.length_set];omega))
   refine pP (IntKind.i64.wrap (aT .u64 (IntKind.u64.wrap (i+j)) 1)) 8 ho atZ (Int.toNat_of_nonneg (show 0≤(IntKind.i64.wrap (aT .u64 (IntKind.u64.wrap (i+j)) 1))∧(IntKind.i64.wrap (aT .u64 (IntKind.u64.wrap (i+j)) 1)) <((xs).length:Int) from (by first|omega| (simp only[List.length_set];omega))).1).symm (fun b43 aO4=>?_)
   refine oH 0 [0] L (fun s _ hZ=>cw ho aO4 hZ atZ)<|zD 2 ?_
   obtain⟨x47,Ul⟩:=zG xs (a.toNat) (by first|omega| (simp only[List.length_set];omega))
   refine pP a 8 ho Ul (Int.toNat_of_nonneg (show 0≤a∧a <((xs).length:Int) from (by first|omega| (simp only[List.length_set];omega))).1).symm (fun b47 aO3=>?_)
   refine oH 0 [0] L (fun s _ hZ=>cw ho aO3 hZ Ul)<|aS 9 fun zl zt yR=>jp (vs:=[.agg ⟨[zI x43.past,zI x43.w0,zI x43.w1,zI x43.w2,zI x43.w3,zI x43.gone,zI x43.new,zI x43.af]⟩,.agg ⟨[zI x47.past,zI x47.w0,zI x47.w1,zI x47.w2,zI x47.w3,zI x47.gone,zI x47.new,zI x47.af]⟩]) [] [] (fun aH hs hZ=>(aml (x:=x43) (y:=x47) (hP _ (zL atZ)) (hP _ (zL Ul))))<|ez yR [0]<|zD 2<|zJ 50 ((x43.past-x47.past) <0) (fun h4=>?_) fun h4=>?_
   ·
    refine zD 3<|ja ((IntKind.i64.wrap (aT .u64 (IntKind.u64.wrap (i+j)) 1))+1) (by omega)<|zD 2<|bJ bL (⟨((IntKind.i64.wrap (aT .u64 (IntKind.u64.wrap (i+j)) 1))+1),j⟩) (by dsimp only;omega) (by dsimp only;omega) [0] (Sub.refl _)
   refine zD 5<|bJ bL (⟨i,(IntKind.i64.wrap (aT .u64 (IntKind.u64.wrap (i+j)) 1))⟩) (by dsimp only;omega) (by dsimp only;omega) [0] (Sub.refl _)
  refine zD 9<|dS [0,1,0,1,1,1,0,1,0,0] [] (fun(zz:Int×(List aj)×Cells)=>[(0,v),(1,zI a),(2,zI m),(3,zI b),(4,.func (.func 109) ⟨[]⟩ ⟨[]⟩),(10,zI i),(13,zI zz.1)]) (fun zz=>[.l zz.2.2]) (fun zz=>a≤zz.1∧ay v 8 128 cP zz.2.1 zz.2.2∧zz.2.1.Perm xs) (fun zz=>(i-zz.1).toNat) (⟨a,xs,L⟩) ⟨by dsimp only;omega,ho,.refl _⟩ [0] ?_
  rintro⟨k,ys,L⟩ hJ K3 X3 rest
  dsimp only at hJ
  have Xw:=hJ.2.2.length_eq
  have hyp:=hP.perm hJ.2.2
  refine zD 5<|ja (i-1) (by omega)<|zD 2<|zJ 58 (k <(i-1)) (fun h5=>?_) fun h5=>?_
  ·
   refine zD 9<|ja (k+1) (by omega)<|zD 2<|ja (k+1) (by omega) ?_
   obtain⟨SL,aao⟩:=zG ys ((k+1).toNat) (by first|omega| (simp only[List.length_set];omega))
   refine pP (k+1) 8 hJ.2.1 aao (Int.toNat_of_nonneg (show 0≤(k+1)∧(k+1) <((ys).length:Int) from (by first|omega| (simp only[List.length_set];omega))).1).symm (fun b69 avO=>?_)
   refine oH 0 [0] L (fun s _ hZ=>cw hJ.2.1 avO hZ aao)<|zD 2 ?_
   obtain⟨x73,aan⟩:=zG ys (k.toNat) (by first|omega| (simp only[List.length_set];omega))
   refine pP k 8 hJ.2.1 aan (Int.toNat_of_nonneg (show 0≤k∧k <((ys).length:Int) from (by first|omega| (simp only[List.length_set];omega))).1).symm (fun b73 aOY=>?_)
   refine oH 0 [0] L (fun s _ hZ=>cw hJ.2.1 aOY hZ aan) ?_
   obtain⟨x75,Uk⟩:=zG ys (k.toNat) (by first|omega| (simp only[List.length_set];omega))
   refine pP k 8 hJ.2.1 Uk (Int.toNat_of_nonneg (show 0≤k∧k <((ys).length:Int) from (by first|omega| (simp only[List.length_set];omega))).1).symm (fun b75 aOW=>?_)
   refine aS 15 fun rY sb qE=>So 0 0 [zI SL.past,zI SL.w0,zI SL.w1,zI SL.w2,zI SL.w3,zI SL.gone,zI SL.new,zI SL.af] SL hJ.2.1 aOW Uk rfl rfl (Nat.le_of_ble_eq_true rfl) fun L7 ho8=>fS qE [] ?_
   obtain⟨x76,aB5⟩:=zG ((ys.set k.toNat SL)) ((k+1).toNat) (by first|omega| (simp only[List.length_set];omega))
   refine pP (k+1) 8 ho8 aB5 (Int.toNat_of_nonneg (show 0≤(k+1)∧(k+1) <(((ys.set k.toNat SL)).length:Int) from (by first|omega| (simp only[List.length_set];omega))).1).symm (fun b76 aOV=>?_)
   refine aS 17 fun Bo Bu Cc=>So 0 0 [zI x73.past,zI x73.w0,zI x73.w1,zI x73.w2,zI x73.w3,zI x73.gone,zI x73.new,zI x73.af] x73 ho8 aOV aB5 rfl rfl (Nat.le_of_ble_eq_true rfl) fun L10 auE=>fT Cc<|zD 3<|ja (k+1) (by omega)<|zD 2<|bJ X3 (⟨(k+1),((ys.set k.toNat SL).set ((k+1).toNat) x73),L10⟩) ⟨by dsimp only;omega,auE,(nj aan aao).trans hJ.2.2⟩ (by dsimp only;omega) [0] (Sub.refl _)
  refine zD 3<|zR (.tuple ⟨[]⟩) [] [0] L ⟨_,hJ.2.2,hJ.2.1⟩
 refine zD 7<|ja (b-m) (by omega)<|zD 2<|zJ 80 ((b-m)=1) (fun Ix=>?_) fun Ix=>?_
 ·
  refine zD 13<|dS [1,0,1,0,1,1,0,0,0] [] (fun(zz:Int×Int)=>[(0,v),(1,zI a),(2,zI m),(3,zI b),(4,.func (.func 109) ⟨[]⟩ ⟨[]⟩),(14,zI zz.1),(15,zI zz.2)]) (fun zz=>[.l L]) (fun zz=>(a≤zz.1∧zz.1≤zz.2)∧zz.2≤m) (fun zz=>(zz.2-zz.1).toNat) (⟨a,m⟩) (by dsimp only;omega) [0] ?_
  rintro⟨i,j⟩ hI K6 hK6 rest
  dsimp only at hI
  refine zD 7<|zJ 85 (i <j) (fun Bi=>?_) fun Bi=>?_
  ·
   refine zD 7<|ja (i+j) (by omega)<|zD 6 ?_
   have hh:=E4 (x:=i+j) (by omega)
   refine zD 4 ?_
   obtain⟨x95,atX⟩:=zG xs (m.toNat) (by first|omega| (simp only[List.length_set];omega))
   refine pP m 8 ho atX (Int.toNat_of_nonneg (show 0≤m∧m <((xs).length:Int) from (by first|omega| (simp only[List.length_set];omega))).1).symm (fun b95 aOT=>?_)
   refine oH 0 [0] L (fun s _ hZ=>cw ho aOT hZ atX)<|zD 2 ?_
   obtain⟨x99,atW⟩:=zG xs ((IntKind.i64.wrap (aT .u64 (IntKind.u64.wrap (i+j)) 1)).toNat) (by first|omega| (simp only[List.length_set];omega))
   refine pP (IntKind.i64.wrap (aT .u64 (IntKind.u64.wrap (i+j)) 1)) 8 ho atW (Int.toNat_of_nonneg (show 0≤(IntKind.i64.wrap (aT .u64 (IntKind.u64.wrap (i+j)) 1))∧(IntKind.i64.wrap (aT .u64 (IntKind.u64.wrap (i+j)) 1)) <((xs).length:Int) from (by first|omega| (simp only[List.length_set];omega))).1).symm (fun b99 aOS=>?_)
   refine oH 0 [0] L (fun s _ hZ=>cw ho aOS hZ atW)<|aS 9 fun aku akR Ra=>jp (vs:=[.agg ⟨[zI x95.past,zI x95.w0,zI x95.w1,zI x95.w2,zI x95.w3,zI x95.gone,zI x95.new,zI x95.af]⟩,.agg ⟨[zI x99.past,zI x99.w0,zI x99.w1,zI x99.w2,zI x99.w3,zI x99.gone,zI x99.new,zI x99.af]⟩]) [] [] (fun aH hs hZ=>(aml (x:=x95) (y:=x99) (hP _ (zL atX)) (hP _ (zL atW))))<|ez Ra [0]<|zD 3<|js 103 (!(decide ((x95.past-x99.past) <0))) (fun NB=>?_) (fun NB=>?_)
   ·
    try simp only[zB] at NB
    refine zD 3<|ja ((IntKind.i64.wrap (aT .u64 (IntKind.u64.wrap (i+j)) 1))+1) (by omega)<|zD 2<|bJ hK6 (⟨((IntKind.i64.wrap (aT .u64 (IntKind.u64.wrap (i+j)) 1))+1),j⟩) (by dsimp only;omega) (by dsimp only;omega) [0] (Sub.refl _)
   try simp only[zB] at NB
   refine zD 5<|bJ hK6 (⟨i,(IntKind.i64.wrap (aT .u64 (IntKind.u64.wrap (i+j)) 1))⟩) (by dsimp only;omega) (by dsimp only;omega) [0] (Sub.refl _)
  refine zD 9<|dS [1,0,1,0,1,1,1,0,1,0,0] [] (fun(zz:Int×(List aj)×Cells)=>[(0,v),(1,zI a),(2,zI m),(3,zI b),(4,.func (.func 109) ⟨[]⟩ ⟨[]⟩),(14,zI i),(17,zI zz.1)]) (fun zz=>[.l zz.2.2]) (fun zz=>(a≤i∧zz.1≤m)∧ay v 8 128 cP zz.2.1 zz.2.2∧zz.2.1.Perm xs) (fun zz=>(zz.1-i).toNat) (⟨m,xs,L⟩) ⟨by dsimp only;omega,ho,.refl _⟩ [0] ?_
  rintro⟨k,ys,L⟩ hJ K8 hK8 rest
  dsimp only at hJ
  have Xw:=hJ.2.2.length_eq
  have hyp:=hP.perm hJ.2.2
  refine zD 7<|zJ 110 (k>i) (fun U3=>?_) fun U3=>?_
  ·
   refine zD 9<|ja (k-1) (by omega)<|zD 2<|ja (k-1) (by omega) ?_
   obtain⟨Bp,afD⟩:=zG ys ((k-1).toNat) (by first|omega| (simp only[List.length_set];omega))
   refine pP (k-1) 8 hJ.2.1 afD (Int.toNat_of_nonneg (show 0≤(k-1)∧(k-1) <((ys).length:Int) from (by first|omega| (simp only[List.length_set];omega))).1).symm (fun bba aD5=>?_)
   refine oH 0 [0] L (fun s _ hZ=>cw hJ.2.1 aD5 hZ afD)<|zD 2 ?_
   obtain⟨IJ,afC⟩:=zG ys (k.toNat) (by first|omega| (simp only[List.length_set];omega))
   refine pP k 8 hJ.2.1 afC (Int.toNat_of_nonneg (show 0≤k∧k <((ys).length:Int) from (by first|omega| (simp only[List.length_set];omega))).1).symm (fun ba9 aD4=>?_)
   refine oH 0 [0] L (fun s _ hZ=>cw hJ.2.1 aD4 hZ afC) ?_
   obtain⟨aVW,apC⟩:=zG ys (k.toNat) (by first|omega| (simp only[List.length_set];omega))
   refine pP k 8 hJ.2.1 apC (Int.toNat_of_nonneg (show 0≤k∧k <((ys).length:Int) from (by first|omega| (simp only[List.length_set];omega))).1).symm (fun ba8 aD3=>?_)
   refine aS 15 fun YS Ze UY=>So 0 0 [zI Bp.past,zI Bp.w0,zI Bp.w1,zI Bp.w2,zI Bp.w3,zI Bp.gone,zI Bp.new,zI Bp.af] Bp hJ.2.1 aD3 apC rfl rfl (Nat.le_of_ble_eq_true rfl) fun L18 aCU=>fS UY [] ?_
   obtain⟨aVV,afB⟩:=zG ((ys.set k.toNat Bp)) ((k-1).toNat) (by first|omega| (simp only[List.length_set];omega))
   refine pP (k-1) 8 aCU afB (Int.toNat_of_nonneg (show 0≤(k-1)∧(k-1) <(((ys.set k.toNat Bp)).length:Int) from (by first|omega| (simp only[List.length_set];omega))).1).symm (fun Ob aD2=>?_)
   refine aS 17 fun Fc FA tS=>So 0 0 [zI IJ.past,zI IJ.w0,zI IJ.w1,zI IJ.w2,zI IJ.w3,zI IJ.gone,zI IJ.new,zI IJ.af] IJ aCU aD2 afB rfl rfl (Nat.le_of_ble_eq_true rfl) fun L21 aaz=>fT tS<|zD 3<|ja (k-1) (by omega)<|zD 2<|bJ hK8 (⟨(k-1),((ys.set k.toNat Bp).set ((k-1).toNat) IJ),L21⟩) ⟨by dsimp only;omega,aaz,(nj afC afD).trans hJ.2.2⟩ (by dsimp only;omega) [0] (Sub.refl _)
  refine zD 3<|zR (.tuple ⟨[]⟩) [] [0] L ⟨_,hJ.2.2,hJ.2.1⟩
 refine zD 6<|ja (a+b) (by omega)<|zD 6 ?_
 have aZm:=E4 (x:=a+b) (by omega)
 refine zD 3<|ja ((IntKind.i64.wrap (aT .u64 (IntKind.u64.wrap (a+b)) 1))+m) (by omega)<|zD 14<|GF [1,1,1,1,1,1] [] (fun(zz:Int×Int)=>[(0,v),(1,zI a),(2,zI m),(3,zI b),(4,.func (.func 109) ⟨[]⟩ ⟨[]⟩),(18,zI (IntKind.i64.wrap (aT .u64 (IntKind.u64.wrap (a+b)) 1))),(19,zI ((IntKind.i64.wrap (aT .u64 (IntKind.u64.wrap (a+b)) 1))+m)),(20,zI zz.1),(21,zI zz.2)]) (fun zz=>[.l L]) (fun zz=>(a≤zz.1∧zz.1≤zz.2)∧zz.2≤b∧a≤((IntKind.i64.wrap (aT .u64 (IntKind.u64.wrap (a+b)) 1))+m)-zz.2∧((IntKind.i64.wrap (aT .u64 (IntKind.u64.wrap (a+b)) 1))+m)-zz.1≤b) ?_ (fun K11 aEl=>?_)
 ·
  rintro⟨s0,r0⟩ hC rest
  dsimp only at hC
  refine zD 3<|ja (((IntKind.i64.wrap (aT .u64 (IntKind.u64.wrap (a+b)) 1))+m)-1) (by omega)<|zD 4<|dS [1,1,1,1,1,1,1,0,0,0] [] (fun(zz:Int×Int)=>[(0,v),(1,zI a),(2,zI m),(3,zI b),(4,.func (.func 109) ⟨[]⟩ ⟨[]⟩),(18,zI (IntKind.i64.wrap (aT .u64 (IntKind.u64.wrap (a+b)) 1))),(19,zI ((IntKind.i64.wrap (aT .u64 (IntKind.u64.wrap (a+b)) 1))+m)),(20,zI zz.1),(21,zI zz.2),(22,zI (((IntKind.i64.wrap (aT .u64 (IntKind.u64.wrap (a+b)) 1))+m)-1))]) (fun zz=>[.l L]) (fun zz=>(a≤zz.1∧zz.1≤zz.2)∧zz.2≤b∧a≤((IntKind.i64.wrap (aT .u64 (IntKind.u64.wrap (a+b)) 1))+m)-zz.2∧((IntKind.i64.wrap (aT .u64 (IntKind.u64.wrap (a+b)) 1))+m)-zz.1≤b) (fun zz=>(zz.2-zz.1).toNat) (⟨s0,r0⟩) hC [0] ?_
  rintro⟨sx,r⟩ hK K12 aEk rest
  dsimp only at hK
  refine zD 7<|zJ 151 (sx <r) (fun E5=>?_) fun E5=>?_
  ·
   refine zD 7<|ja (sx+r) (by omega)<|zD 6 ?_
   have hsr:=E4 (x:=sx+r) (by omega)
   refine zD 5<|ja ((((IntKind.i64.wrap (aT .u64 (IntKind.u64.wrap (a+b)) 1))+m)-1)-(IntKind.i64.wrap (aT .u64 (IntKind.u64.wrap (sx+r)) 1))) (by omega) ?_
   obtain⟨II,afy⟩:=zG xs (((((IntKind.i64.wrap (aT .u64 (IntKind.u64.wrap (a+b)) 1))+m)-1)-(IntKind.i64.wrap (aT .u64 (IntKind.u64.wrap (sx+r)) 1))).toNat) (by first|omega| (simp only[List.length_set];omega))
   refine pP ((((IntKind.i64.wrap (aT .u64 (IntKind.u64.wrap (a+b)) 1))+m)-1)-(IntKind.i64.wrap (aT .u64 (IntKind.u64.wrap (sx+r)) 1))) 8 ho afy (Int.toNat_of_nonneg (show 0≤((((IntKind.i64.wrap (aT .u64 (IntKind.u64.wrap (a+b)) 1))+m)-1)-(IntKind.i64.wrap (aT .u64 (IntKind.u64.wrap (sx+r)) 1)))∧((((IntKind.i64.wrap (aT .u64 (IntKind.u64.wrap (a+b)) 1))+m)-1)-(IntKind.i64.wrap (aT .u64 (IntKind.u64.wrap (sx+r)) 1))) <((xs).length:Int) from (by first|omega| (simp only[List.length_set];omega))).1).symm (fun ba6 aD0=>?_)
   refine oH 0 [0] L (fun s _ hZ=>cw ho aD0 hZ afy)<|zD 2 ?_
   obtain⟨IG,afx⟩:=zG xs ((IntKind.i64.wrap (aT .u64 (IntKind.u64.wrap (sx+r)) 1)).toNat) (by first|omega| (simp only[List.length_set];omega))
   refine pP (IntKind.i64.wrap (aT .u64 (IntKind.u64.wrap (sx+r)) 1)) 8 ho afx (Int.toNat_of_nonneg (show 0≤(IntKind.i64.wrap (aT .u64 (IntKind.u64.wrap (sx+r)) 1))∧(IntKind.i64.wrap (aT .u64 (IntKind.u64.wrap (sx+r)) 1)) <((xs).length:Int) from (by first|omega| (simp only[List.length_set];omega))).1).symm (fun ba5 aDZ=>?_)
   refine oH 0 [0] L (fun s _ hZ=>cw ho aDZ hZ afx)<|aS 11 fun ayC azv Nx=>jp (vs:=[.agg ⟨[zI II.past,zI II.w0,zI II.w1,zI II.w2,zI II.w3,zI II.gone,zI II.new,zI II.af]⟩,.agg ⟨[zI IG.past,zI IG.w0,zI IG.w1,zI IG.w2,zI IG.w3,zI IG.gone,zI IG.new,zI IG.af]⟩]) [] [] (fun aH hs hZ=>(aml (x:=II) (y:=IG) (hP _ (zL afy)) (hP _ (zL afx))))<|ez Nx [0]<|zD 3<|js 171 (!(decide ((II.past-IG.past) <0))) (fun h25=>?_) (fun h25=>?_)
   ·
    try simp only[zB] at h25
    refine zD 3<|ja ((IntKind.i64.wrap (aT .u64 (IntKind.u64.wrap (sx+r)) 1))+1) (by omega)<|zD 2<|bJ aEk (⟨((IntKind.i64.wrap (aT .u64 (IntKind.u64.wrap (sx+r)) 1))+1),r⟩) (by dsimp only;omega) (by dsimp only;omega) [0] (Sub.refl _)
   try simp only[zB] at h25
   refine zD 5<|bJ aEk (⟨sx,(IntKind.i64.wrap (aT .u64 (IntKind.u64.wrap (sx+r)) 1))⟩) (by dsimp only;omega) (by dsimp only;omega) [0] (Sub.refl _)
  refine zD 6<|ja (((IntKind.i64.wrap (aT .u64 (IntKind.u64.wrap (a+b)) 1))+m)-sx) (by omega)<|zD 9<|jj 4 [(0,v),(1,zI a),(2,zI m),(3,zI b),(4,.func (.func 109) ⟨[]⟩ ⟨[]⟩),(18,zI (IntKind.i64.wrap (aT .u64 (IntKind.u64.wrap (a+b)) 1))),(20,zI sx),(24,zI (((IntKind.i64.wrap (aT .u64 (IntKind.u64.wrap (a+b)) 1))+m)-sx)),(185,.bool ((decide (sx <m))&&(decide (m <(((IntKind.i64.wrap (aT .u64 (IntKind.u64.wrap (a+b)) 1))+m)-sx)))))] (fun gB=>?_) (fun hj=>?_)
  rotate_left
  refine js 181 (decide (sx <m)) (fun h26=>?_) (fun h26=>?_)
  ·
   have ahG:=h26
   replace ahG:=of_decide_eq_true ahG
   refine zD 4<|jw 185 (.bool ((decide (sx <m))&&(decide (m <(((IntKind.i64.wrap (aT .u64 (IntKind.u64.wrap (a+b)) 1))+m)-sx))))) (w:= .bool (decide (m <(((IntKind.i64.wrap (aT .u64 (IntKind.u64.wrap (a+b)) 1))+m)-sx)))) (by rw[h26]<;>rfl) ?_
   exact zK hj
  ·
   have ahG:=h26
   replace ahG:=of_decide_eq_false ahG
   refine zD 4<|jw 185 (.bool ((decide (sx <m))&&(decide (m <(((IntKind.i64.wrap (aT .u64 (IntKind.u64.wrap (a+b)) 1))+m)-sx))))) (w:= .bool false) (by rw[h26]<;>rfl) ?_
   exact zK hj
  refine zD 1<|GF [1,1,1,1,1,1,1,1,1,1] [] (fun(zz:(List aj)×Cells)=>[(0,v),(1,zI a),(3,zI b),(4,.func (.func 109) ⟨[]⟩ ⟨[]⟩),(18,zI (IntKind.i64.wrap (aT .u64 (IntKind.u64.wrap (a+b)) 1))),(20,zI sx),(24,zI (((IntKind.i64.wrap (aT .u64 (IntKind.u64.wrap (a+b)) 1))+m)-sx))]) (fun zz=>[.l zz.2]) (fun zz=>zz.1.Perm xs∧ay v 8 128 cP zz.1 zz.2) ?_ (fun K14 I9=>?_)
  ·
   rintro⟨ys,L⟩ hA rest
   dsimp only at hA
   have Xw:=hA.1.length_eq
   have hyp:=hP.perm hA.1
   refine zD 7<|jj 4 [(0,v),(1,zI a),(3,zI b),(4,.func (.func 109) ⟨[]⟩ ⟨[]⟩),(18,zI (IntKind.i64.wrap (aT .u64 (IntKind.u64.wrap (a+b)) 1))),(20,zI sx),(24,zI (((IntKind.i64.wrap (aT .u64 (IntKind.u64.wrap (a+b)) 1))+m)-sx)),(199,.bool ((decide (a <sx))&&(decide (sx <(IntKind.i64.wrap (aT .u64 (IntKind.u64.wrap (a+b)) 1))))))] (fun gB=>?_) (fun hj=>?_)
   rotate_left
   refine js 195 (decide (a <sx)) (fun h27=>?_) (fun h27=>?_)
   ·
    have ahF:=h27
    replace ahF:=of_decide_eq_true ahF
    refine zD 4<|jw 199 (.bool ((decide (a <sx))&&(decide (sx <(IntKind.i64.wrap (aT .u64 (IntKind.u64.wrap (a+b)) 1)))))) (w:= .bool (decide (sx <(IntKind.i64.wrap (aT .u64 (IntKind.u64.wrap (a+b)) 1))))) (by rw[h27]<;>rfl) ?_
    exact zK hj
   ·
    have ahF:=h27
    replace ahF:=of_decide_eq_false ahF
    refine zD 4<|jw 199 (.bool ((decide (a <sx))&&(decide (sx <(IntKind.i64.wrap (aT .u64 (IntKind.u64.wrap (a+b)) 1)))))) (w:= .bool false) (by rw[h27]<;>rfl) ?_
    exact zK hj
   refine zD 1<|GF [1,1,1,1,1,1,1,1,1,1,1] [] (fun(zz:(List aj)×Cells)=>[(0,v),(3,zI b),(4,.func (.func 109) ⟨[]⟩ ⟨[]⟩),(18,zI (IntKind.i64.wrap (aT .u64 (IntKind.u64.wrap (a+b)) 1))),(24,zI (((IntKind.i64.wrap (aT .u64 (IntKind.u64.wrap (a+b)) 1))+m)-sx))]) (fun zz=>[.l zz.2]) (fun zz=>zz.1.Perm xs∧ay v 8 128 cP zz.1 zz.2) ?_ (fun K15 aEj=>?_)
   ·
    rintro⟨ys,L⟩ hB rest
    dsimp only at hB
    have Xw:=hB.1.length_eq
    have hyp:=hP.perm hB.1
    refine zD 6<|jj 4 [(0,v),(3,zI b),(4,.func (.func 109) ⟨[]⟩ ⟨[]⟩),(18,zI (IntKind.i64.wrap (aT .u64 (IntKind.u64.wrap (a+b)) 1))),(24,zI (((IntKind.i64.wrap (aT .u64 (IntKind.u64.wrap (a+b)) 1))+m)-sx)),(213,.bool ((decide ((IntKind.i64.wrap (aT .u64 (IntKind.u64.wrap (a+b)) 1)) <(((IntKind.i64.wrap (aT .u64 (IntKind.u64.wrap (a+b)) 1))+m)-sx)))&&(decide ((((IntKind.i64.wrap (aT .u64 (IntKind.u64.wrap (a+b)) 1))+m)-sx) <b))))] (fun gB=>?_) (fun hj=>?_)
    rotate_left
    refine js 209 (decide ((IntKind.i64.wrap (aT .u64 (IntKind.u64.wrap (a+b)) 1)) <(((IntKind.i64.wrap (aT .u64 (IntKind.u64.wrap (a+b)) 1))+m)-sx))) (fun h28=>?_) (fun h28=>?_)
    ·
     have ahE:=h28
     replace ahE:=of_decide_eq_true ahE
     refine zD 4<|jw 213 (.bool ((decide ((IntKind.i64.wrap (aT .u64 (IntKind.u64.wrap (a+b)) 1)) <(((IntKind.i64.wrap (aT .u64 (IntKind.u64.wrap (a+b)) 1))+m)-sx)))&&(decide ((((IntKind.i64.wrap (aT .u64 (IntKind.u64.wrap (a+b)) 1))+m)-sx) <b)))) (w:= .bool (decide ((((IntKind.i64.wrap (aT .u64 (IntKind.u64.wrap (a+b)) 1))+m)-sx) <b))) (by rw[h28]<;>rfl) ?_
     exact zK hj
    ·
     have ahE:=h28
     replace ahE:=of_decide_eq_false ahE
     refine zD 4<|jw 213 (.bool ((decide ((IntKind.i64.wrap (aT .u64 (IntKind.u64.wrap (a+b)) 1)) <(((IntKind.i64.wrap (aT .u64 (IntKind.u64.wrap (a+b)) 1))+m)-sx)))&&(decide ((((IntKind.i64.wrap (aT .u64 (IntKind.u64.wrap (a+b)) 1))+m)-sx) <b)))) (w:= .bool false) (by rw[h28]<;>rfl) ?_
     exact zK hj
    refine zD 1<|js 213 ((decide ((IntKind.i64.wrap (aT .u64 (IntKind.u64.wrap (a+b)) 1)) <(((IntKind.i64.wrap (aT .u64 (IntKind.u64.wrap (a+b)) 1))+m)-sx)))&&(decide ((((IntKind.i64.wrap (aT .u64 (IntKind.u64.wrap (a+b)) 1))+m)-sx) <b))) (fun h29=>?_) (fun h29=>?_)
    ·
     try simp only[zB] at h29
     refine zD 7<|jc (vs:=[v,zI (IntKind.i64.wrap (aT .u64 (IntKind.u64.wrap (a+b)) 1)),zI (((IntKind.i64.wrap (aT .u64 (IntKind.u64.wrap (a+b)) 1))+m)-sx),zI b,.func (.func 109) ⟨[]⟩ ⟨[]⟩]) [0] (ih _ (show (b-(IntKind.i64.wrap (aT .u64 (IntKind.u64.wrap (a+b)) 1))).toNat <n by omega) _ _ _ _ _ _ _ hB.2 (by omega) hyp (by omega) rfl) ?_
     rintro aS0 aRu ⟨aSu,afT,aCQ⟩
     have aL7:=afT.length_eq
     have aL3:=gh.perm hyp afT
     refine zD 1<|zR (.tuple ⟨[]⟩) [] [0] aRu ⟨_,(afT.trans hB.1),aCQ⟩
    try simp only[zB] at h29
    refine zD 2<|zR (.tuple ⟨[]⟩) [] [0] L ⟨_,hB.1,hB.2⟩
   refine js 199 ((decide (a <sx))&&(decide (sx <(IntKind.i64.wrap (aT .u64 (IntKind.u64.wrap (a+b)) 1))))) (fun h30=>?_) (fun h30=>?_)
   ·
    try simp only[zB] at h30
    refine zD 7<|jc (vs:=[v,zI a,zI sx,zI (IntKind.i64.wrap (aT .u64 (IntKind.u64.wrap (a+b)) 1)),.func (.func 109) ⟨[]⟩ ⟨[]⟩]) [0] (ih _ (show ((IntKind.i64.wrap (aT .u64 (IntKind.u64.wrap (a+b)) 1))-a).toNat <n by omega) _ _ _ _ _ _ _ hA.2 (by omega) hyp (by omega) rfl) ?_
    rintro aS1 aRv ⟨ayD,afU,aCS⟩
    have aL8:=afU.length_eq
    have aL4:=gh.perm hyp afU
    refine zD 1<|bJ aEj ⟨ayD,aRv⟩ ⟨(afU.trans hA.1),aCS⟩ Nat.zero_lt_one [0] (Sub.refl _)
   try simp only[zB] at h30
   refine zD 2<|bJ aEj ⟨ys,L⟩ ⟨hA.1,hA.2⟩ Nat.zero_lt_one [0] (Sub.refl _)
  refine js 185 ((decide (sx <m))&&(decide (m <(((IntKind.i64.wrap (aT .u64 (IntKind.u64.wrap (a+b)) 1))+m)-sx)))) (fun h31=>?_) (fun h31=>?_)
  ·
   try simp only[zB] at h31
   refine zD 7<|jc (vs:=[v,zI sx,zI m,zI (((IntKind.i64.wrap (aT .u64 (IntKind.u64.wrap (a+b)) 1))+m)-sx),.func (.func 109) ⟨[]⟩ ⟨[]⟩]) [0] (aJQ ho (by omega) hP (by omega)) ?_
   rintro aS2 aRw ⟨ayE,afV,aCT⟩
   have aL9:=afV.length_eq
   have aL5:=gh.perm hP afV
   refine zD 1<|bJ I9 ⟨ayE,aRw⟩ ⟨(afV.trans (.refl _)),aCT⟩ Nat.zero_lt_one [0] (Sub.refl _)
  try simp only[zB] at h31
  refine zD 2<|bJ I9 ⟨xs,L⟩ ⟨(.refl _),ho⟩ Nat.zero_lt_one [0] (Sub.refl _)
 refine zJ 140 (m>(IntKind.i64.wrap (aT .u64 (IntKind.u64.wrap (a+b)) 1))) (fun h32=>?_) fun h32=>?_
 ·
  refine zD 5<|ja (((IntKind.i64.wrap (aT .u64 (IntKind.u64.wrap (a+b)) 1))+m)-b) (by omega)<|zD 6<|bJ aEl ⟨(((IntKind.i64.wrap (aT .u64 (IntKind.u64.wrap (a+b)) 1))+m)-b),(IntKind.i64.wrap (aT .u64 (IntKind.u64.wrap (a+b)) 1))⟩ (by dsimp only;omega) Nat.zero_lt_one [0] (Sub.refl _)
 refine zD 10<|bJ aEl ⟨a,m⟩ (by dsimp only;omega) Nat.zero_lt_one [0] (Sub.refl _)
theorem aJP:∀n,aGc n:=by
 intro n
 induction n using Nat.strongRecOn with
 |_ n ih=>exact fun ro v xs L a m b ho hN hP zh hn=>azS ih ho hN hP zh hn
theorem ao2{v:Value}{xs:List aj}{L:Cells}{a m b:Int}(ho:ay v 8 128 cP xs L)(hN:xs.length≤100000)(hP:gh xs)(zh:0≤a∧a <m∧m <b∧b≤xs.length):dR zT 191 [v,zI a,zI m,zI b,.func (.func 109) ⟨[]⟩ ⟨[]⟩] ro L (fun _ Y=>wF v xs Y):=
 aJP _ ro v xs L a m b ho hN hP zh rfl
theorem azT{v:Value}{xs:List aj}{L:Cells}{n:Int}(ho:ay v 8 128 cP xs L)(hN:xs.length≤100000)(hP:gh xs)(hn:n=xs.length):dR zT 150 [v,zI n,.func (.func 109) ⟨[]⟩ ⟨[]⟩] ro L (fun r Y=>wF v xs Y):=by
 refine zC [.l L]<|zD 12<|dS [1,1,0,0,0] [] (fun(zz:Int×Int×(List aj)×Cells)=>[(0,v),(1,zI n),(2,.func (.func 109) ⟨[]⟩ ⟨[]⟩),(6,zI 20),(7,zI zz.1),(8,zI zz.2.1)]) (fun zz=>[.l zz.2.2.2]) (fun zz=>(zz.2.1=zz.1+20∧0≤zz.1∧zz.1≤n)∧ay v 8 128 cP zz.2.2.1 zz.2.2.2∧zz.2.2.1.Perm xs) (fun zz=>(n-zz.1).toNat) (⟨0,20,xs,L⟩) ⟨by dsimp only;omega,ho,.refl _⟩ [0] ?_
 rintro⟨a,b,ys,L⟩ hI K1 bL rest
 dsimp only at hI
 have Xw:=hI.2.2.length_eq
 have hyp:=hP.perm hI.2.2
 refine zD 7<|zJ 13 (b≤n) (fun h1=>?_) fun h1=>?_
 ·
  refine zD 9<|jc (vs:=[v,zI a,zI b,.func (.func 109) ⟨[]⟩ ⟨[]⟩]) [0] (azV hI.2.1 (by omega) hyp (by omega)) ?_
  rintro aWF Y18 ⟨aIp,QI,aaA⟩
  have aTX:=QI.length_eq
  have aTQ:=gh.perm hyp QI
  refine zD 9<|ja (b+20) (by omega)<|zD 2<|bJ bL (⟨b,(b+20),aIp,Y18⟩) ⟨by dsimp only;omega,aaA,(QI.trans hI.2.2)⟩ (by dsimp only;omega) [0] (Sub.refl _)
 refine zD 8<|jc (vs:=[v,zI a,zI n,.func (.func 109) ⟨[]⟩ ⟨[]⟩]) [0] (azV hI.2.1 (by omega) hyp (by omega)) ?_
 rintro aWE Y27 ⟨aVQ,auw,aNi⟩
 have aTW:=auw.length_eq
 have aTP:=gh.perm hyp auw
 refine zD 2<|dS [1,1,1,1,0,0] [] (fun(zz:Int×(List aj)×Cells)=>[(0,v),(1,zI n),(2,.func (.func 109) ⟨[]⟩ ⟨[]⟩),(6,zI zz.1)]) (fun zz=>[.l zz.2.2]) (fun zz=>(20≤zz.1∧zz.1≤1000000)∧ay v 8 128 cP zz.2.1 zz.2.2∧zz.2.1.Perm xs) (fun zz=>(n-zz.1).toNat) (⟨20,_,_⟩) ⟨by dsimp only;omega,aNi,auw.trans hI.2.2⟩ [0] ?_
 rintro⟨bz,ys,L⟩ hJ K2 mb rest
 dsimp only at hJ
 have Xw:=hJ.2.2.length_eq
 have hyp:=hP.perm hJ.2.2
 refine zD 7<|zJ 30 (bz <n) (fun h2=>?_) fun h2=>?_
 ·
  refine zD 6<|ja (2*bz) (by omega)<|zD 5<|dS [1,1,1,1,0,0,1,0,1,0,0,0] [K2] (fun(zz:Int×Int×(List aj)×Cells)=>[(0,v),(1,zI n),(2,.func (.func 109) ⟨[]⟩ ⟨[]⟩),(6,zI bz),(7,zI zz.1),(8,zI zz.2.1)]) (fun zz=>[.l zz.2.2.2]) (fun zz=>(zz.2.1=zz.1+2*bz∧0≤zz.1∧zz.1≤n)∧ay v 8 128 cP zz.2.2.1 zz.2.2.2∧zz.2.2.1.Perm xs) (fun zz=>(n-zz.1).toNat) (⟨0,(2*bz),ys,L⟩) ⟨by dsimp only;omega,hJ.2⟩ [0] ?_
  rintro⟨a,b,ys,L⟩ hK K3 X3 rest
  dsimp only at hK
  have Xw:=hK.2.2.length_eq
  have hyp:=hP.perm hK.2.2
  refine zD 7<|zJ 35 (b≤n) (fun h3=>?_) fun h3=>?_
  ·
   refine zD 9<|ja (a+bz) (by omega)<|zD 2<|jc (vs:=[v,zI a,zI (a+bz),zI b,.func (.func 109) ⟨[]⟩ ⟨[]⟩]) [0] (ao2 hK.2.1 (by omega) hyp (by omega)) ?_
   rintro aWC Y43 ⟨aIm,aut,aNe⟩
   have aTU:=aut.length_eq
   have aTN:=gh.perm hyp aut
   refine zD 9<|ja (2*bz) (by omega)<|ja (b+(2*bz)) (by omega)<|zD 2<|bJ X3 (⟨b,(b+(2*bz)),aIm,Y43⟩) ⟨by dsimp only;omega,aNe,(aut.trans hK.2.2)⟩ (by dsimp only;omega) [0] (Sub.refl _)
  refine zD 7<|ja (a+bz) (by omega)<|zD 8<|zJ 54 ((a+bz) <n) (fun h4=>?_) fun h4=>?_
  ·
   refine zD 7<|jc (vs:=[v,zI a,zI (a+bz),zI n,.func (.func 109) ⟨[]⟩ ⟨[]⟩]) [0] (ao2 hK.2.1 (by omega) hyp (by omega)) ?_
   rintro aWz Y60 ⟨aIk,afS,Ni⟩
   have aTR:=afS.length_eq
   have aTK:=gh.perm hyp afS
   refine zD 3<|ja (bz*2) (by omega)<|zD 2<|bJ mb (⟨(bz*2),aIk,Y60⟩) ⟨by dsimp only;omega,Ni,(afS.trans hK.2.2)⟩ (by dsimp only;omega) [0] (Sub.refl _)
  refine zD 4<|ja (bz*2) (by omega)<|zD 2<|bJ mb (⟨(bz*2),ys,L⟩) ⟨by dsimp only;omega,hK.2.1,hK.2.2⟩ (by dsimp only;omega) [0] (Sub.refl _)
 refine zD 2<|zR (.tuple ⟨[]⟩) [] [0] L ⟨_,hJ.2.2,hJ.2.1⟩
theorem Pw{v:Value}{xs:List aj}{L:Cells}(ho:ay v 8 128 cP xs L)(hN:xs.length≤100000)(hP:gh xs):dR zT 108 [v,.func (.func 109) ⟨[]⟩ ⟨[]⟩] ro L (fun r Y=>wF v xs Y):=by
 refine zC [.l L]<|zD 3<|B0 ho<|zD 1<|jc (vs:=[v,zI (xs.length:Int),.func (.func 109) ⟨[]⟩ ⟨[]⟩]) [0] (azT ho (by omega) hP rfl) ?_
 rintro rv8 Y8 ⟨ys8,hp8,ho8⟩
 have aYr:=hp8.length_eq
 have aYq:=gh.perm hP hp8
 refine zD 1<|zR (.tuple ⟨[]⟩) [] [0] Y8 ⟨_,hp8,ho8⟩
open Go.ConcR (KK wgBlock WgAt stA smA rd wr)
def ai9(o:Oper):Array TypeId:=match o.op with
 | .call c=>c.argTypes
 | .go c=>c.argTypes
 | .defer c=>c.argTypes
 |_=> #[]
noncomputable def kE:q8:=awE zT 76 2
theorem aBP:kE.cl.OK zT 210 where
 ff:=by kernel_rfl
 fn:=⟨(Tryz.prog.funcs[106]?).getD default,by kernel_rfl,by kernel_rfl,by kernel_rfl⟩
 bf:=⟨by kernel_rfl,by kernel_rfl,by kernel_rfl⟩
 enter:=fun p1 p2=>by kernel_rfl
 op0:=by kernel_rfl
 rest:=⟨1,by kernel_rfl⟩
 size:=by kernel_rfl
 op:=⟨by kernel_rfl,by kernel_rfl,ai9 kE.cl.oc,by kernel_rfl⟩
theorem atD:∀v,v <2→∀W,∃k,HO zT 210 v (Frame.enter zT 103 #[zP W,zI 1] .normal)=some (List.replicate k W):=by
 intro v hv W
 match v,hv with
 |0,_=>exact⟨7,by kernel_rfl⟩
 |1,_=>exact⟨4,by kernel_rfl⟩
theorem amk:∀W,∃k,xd zT 210 2 (Frame.enter zT 105 #[zP W] .deferred)=some (List.replicate k W):=fun W=>⟨27,by kernel_rfl⟩
theorem amj:∀W,∃k,AW zT 210 2 (Frame.enter zT 107 #[zP W] .normal)=some (List.replicate k W):=fun W=>⟨164,by kernel_rfl⟩
noncomputable def mV(Wg Ch:Nat)(gD:Os)(cu:Array (Nat×ByteArray)):dM (List aj):=⟨zT,210,Wg,Ch,2,zS,gD,cu,fun l v X=>ay v 8 128 cP l X⟩
theorem Hk(K:aC)(on:Int)(hb:K.after.length≤4):∀(n a:Nat) (p:Nat→Int),(∀i,0≤p i∧p i≤4)→(iu K on n a p).length≤5^n∧∀q∈iu K on n a p,∀i,0≤q i∧q i≤4
 |0,a,p,hp=>by
  simp only[iu]
  cases lu on p K.facts 0 with
  |true=>exact⟨by simp,fun q hq=>by simp only[cond_true,List.mem_singleton] at hq;subst hq;exact hp⟩
  |false=>exact⟨by simp,fun q hq=>by simp at hq⟩
 |n+1,a,p,hp=>by
  obtain⟨h1,h2⟩:=Hk K on hb n (a+1) p hp
  have hg:∀b,b <K.after.length→(mT K on n a p b).length≤5^n∧∀q∈mT K on n a p b,∀i,0≤q i∧q i≤4:=fun b cK=>by
   simp only[mT]
   cases !di K on a b||p6 p a ((b:Int)+1) with
   |true=>exact⟨by simp,fun q hq=>by simp at hq⟩
   |false=>
    simp only[cond_false]
    refine Hk K on hb n (a+1) _ fun i=>?_
    simp only[gT]
    split
    ·omega
    exact hp i
  rw[qe]
  refine⟨?_,fun q hq=>?_⟩
  ·rw[List.length_append,List.length_flatMap]
   have:((List.range K.after.length).map fun b=>(mT K on n a p b).length).sum≤K.after.length*5^n:=by
    have key:∀l:List Nat,(∀b∈l,b <K.after.length)→(l.map fun b=>(mT K on n a p b).length).sum≤l.length*5^n:=by
     intro l
     induction l with
     |nil=>intro _;simp
     |cons b l ih=>
      intro hl
      have:=ih fun x hx=>hl x (List.mem_cons_of_mem _ hx)
      have:=(hg b (hl b List.mem_cons_self)).1
      simp only[List.map_cons,List.sum_cons,List.length_cons,Nat.succ_mul]
      omega
    have:=key (List.range K.after.length) fun b hb=>List.mem_range.1 hb
    simpa using this
   have h5:K.after.length*5^n≤4*5^n:=Nat.mul_le_mul_right _ hb
   rw[Nat.pow_succ]
   omega
  rcases List.mem_append.1 hq with hq|hq
  ·exact h2 q hq
  obtain⟨b,ma,hq⟩:=List.mem_flatMap.1 hq
  exact(hg b (List.mem_range.1 ma)).2 q hq
theorem jT(hV:eN K)(on:Int):(aO K on).length≤625∧∀q∈aO K on,∀i,0≤q i∧q i≤4:=by
 obtain⟨h1,h2⟩:=Hk K on hV.after.1 K.before.length 0 (fun _=>0) fun _=>by omega
 refine⟨Nat.le_trans h1 ?_,h2⟩
 have:=Nat.pow_le_pow_right (n:=5) (by omega) hV.before.1
 omega
abbrev pV(b:Nat):Value:= zP b
noncomputable def D6(f i:Nat):Array Oper:=cN (codeOf zT f) i
noncomputable def aQ0(f i:Nat):Code:=((codeOf zT f)[i]?).getD .skip
def mO(K:aC)(on:Int)(keep:aj→Bool)(r:bG)(past:Nat):List aj:=((aO K on).map (cq K r past)).filter keep
noncomputable def Yv(f:Nat):Code:=(((Tryz.prog.funcs[f]?).getD default).body).getD .skip
theorem jh{l:List α}{x:α}(h:l[k]?=some x):l.take (k+1)=l.take k++[x]:=by rw[List.take_succ,h];rfl
theorem awx:gu [Yv 104]=[.region 0 (D6 104 0) false,.region 1 (D6 104 1) false,.region 2 (D6 104 2) false,aQ0 104 3,.region 7 (D6 104 4) false]:=by kernel_rfl
theorem aBH{rows:List bG}{on:Int}{IL:bG}{keep:aj→Bool}{Wg Ch:Nat}{gD:Os}{cu:Array (Nat×ByteArray)}{b5 b7 b9:Nat}(hV:eN K)(hF:oL ro f K rows)(B2:rows[past]?=some IL) (G6:Bj zT g=true)
 (gP:∀aI,Sub ro aI→∀p∈aO K on,dD zT g (fi++[.agg ⟨cP (cq K IL past p)⟩]++ca) aI (.bool (keep (cq K IL past p))))
 (g3:ro b3=some (.cells ⟨[pV f]⟩ 100 (0,0))) (g4:ro b4=some (.cells ⟨[.int .u8 on]⟩ 105 (0,0))) (g9:ro b9=some (.cells ⟨[zI (past:Int)]⟩ 3 (0,0))) (g5:ro b5=some (.cells ⟨[.func (.func g) ⟨fi⟩ ⟨ca⟩]⟩ 163 (0,0))) (g7:ro b7=some (.cells ⟨[.chan (some Ch)]⟩ 202 (0,0))):
 eF zT false ((mV Wg Ch gD cu).Jj (mO K on keep IL past)) (born zT {target:= .fn (.func 104) ⟨[pV Wg,pV b3,pV b4,pV b9,pV b5,pV b7]⟩,args:= #[]}) ⟨ro,[]⟩:=by
 have hT:Closed zT false (eF zT false ((mV Wg Ch gD cu).Jj (mO K on keep IL past))):=dN _ _ _
 refine azK (fn:=(Tryz.prog.funcs[104]?).getD default) (c:=Yv 104) (n:=26) (by kernel_rfl) (by kernel_rfl) (by kernel_rfl) (by kernel_rfl) (by rfl)<|pF hT awx fun l1 Ca=>?_
 refine arJ hT (a:=eB (D6 104 0) 0) (f:=105) (xs:= #[.tmp 0]) (vs:=[pV Wg]) (ats:=ai9 (eB (D6 104 0) 0)) (by kernel_rfl) (by kernel_rfl) (by kernel_rfl) (by decide) rfl<|pF hT Ca fun l2 qy=>?_
 refine u3 au hT<|jn fun b6=>zD 1<|xu<|pF hT qy fun l3 OG=>?_
 refine u3 au hT<|jl (b:=b3) (off:=0) (m:=1) (vs:=[pV f]) 0 ⟨_,_,_,.inl g3,rfl⟩<|jl (b:=b4) (off:=0) (m:=1) (vs:=[.int .u8 on]) 0 ⟨_,_,_,.inl g4,rfl⟩<|jc [] (Kv (on:=on) hF hV) ?_
 rintro _ _ ⟨q1,q2,q3,q4,rfl,rfl⟩
 refine jf [0] [(q1,.cells ⟨[pV f]⟩ 100 (0,0)),(q2,.cells ⟨[.func (.func 116) ⟨[]⟩ ⟨[pV q1,pV q4]⟩]⟩ 218 (0,0)),(q3,.cells ⟨AS ⟨di K on⟩⟩ 153 (0,0)),(q4,.cells ⟨[.int .u8 on]⟩ 105 (0,0))] fun aH bX hk1=>zD 1<|azI<|aoX hT OG fun l4 OF=>?_
 refine azJ au hT ?_
 have En:=hF.up bX
 refine zD 1<|oR ?_
 refine jrf [] (Xp (on:=on) En hV (hk1 _ (.head _)) (hk1 _ (.tail _ (.head _))) (hk1 _ (.tail _ (.tail _ (.head _)))) (hk1 _ (.tail _ (.tail _ (.tail _ (.head _)))))) (by rintro _ _ _ _ ⟨_,_,rfl,_⟩;rfl)
  (fun(zz:Value×Cells)=>[.b b6 (.cells ⟨[zz.1]⟩ 103 (0,0)),.l zz.2]) (fun kk=>(fun(zz:Value×Cells)=>ay zz.1 8 128 cP ((((aO K on).take kk).map (cq K IL past)).filter keep) zz.2)) (fun jump=>(fun(zz:Value×Cells)=>False)) (⟨zS,[]⟩) (ay.nil _ _ _) [1,0] ?_ ?_ ?_
 ·rintro bl bd kk vs LL ⟨v,Lb⟩ kU iI ⟨p,hp,rfl,rfl⟩ hI pU
  dsimp only at hI
  have aCE:=zL hp
  have hp4:=(jT hV on).2 p aCE
  have afL:=Sub.trans bX pU
  have hlen:((((aO K on).take kk).map (cq K IL past)).filter keep).length≤625:=by
   refine Nat.le_trans (List.length_filter_le _ _) ?_
   rw[List.length_map,List.length_take]
   have:=(jT hV on).1
   omega
  refine zD 1<|jn fun wz=>jd 2 [0]<|jbI 1<|zD 3<|jl (b:=b3) (off:=0) (m:=1) (vs:=[pV f]) 0 ⟨_,_,_,.inl (afL _ _ g3),rfl⟩<|jl (b:=b9) (off:=0) (m:=1) (vs:=[zI (past:Int)]) 0 ⟨_,_,_,.inl (afL _ _ g9),rfl⟩<|jd 1 [0]<|jp (vs:=[pV f,zI (past:Int),.agg ⟨eP4 p⟩]) [] [] (fun za hs hZ=>apz (hF.up (Sub.trans afL hs)) hV B2 hp4)<|jn fun zi=>jd 4 [0]<|jl (b:=b5) (off:=0) (m:=1) (vs:=[.func (.func g) ⟨fi⟩ ⟨ca⟩]) 0 ⟨_,_,_,.inl (afL _ _ g5),rfl⟩<|jd 1 [0]<|jpF (f:=g) (V:= .bool (keep (cq K IL past p))) (vs:=fi++[Value.agg ⟨cP (cq K IL past p)⟩]++ca) [] [] G6 (fun za hs hZ=>gP _ (Sub.trans afL hs) p aCE)<|zD 1<|js 19 (keep (cq K IL past p)) (fun h5=>?_) (fun h5=>?_)
  ·refine jd 4 [3,0]<|jn fun Oa=>iC (sz:=8) (ps:=(((aO K on).take kk).map (cq K IL past)).filter keep) (qs:=[cq K IL past p]) (enc:=cP) (w:= .slice (some ⟨Oa,0,none⟩) 1 1) [5] [0] [(Oa,.cells ⟨([cq K IL past p].map cP).flatten⟩ 128 (0,0))] hI (fun s _ hZ=>bN [cq K IL past p] (hZ _ (.head _)) (by intro p hp;rfl)) (fun p _=>ai rfl) (by simp only[List.length_cons,List.length_nil];omega) (fun v23 L23 yK=>?_)
   obtain⟨va,vc,he⟩:=yK.form
   subst he
   refine jd 2 [5]<|jyn ZF (Sub.refl _) ⟨.slice va _ vc,L23⟩ (by dsimp only;rw[jh hp,List.map_append,List.filter_append,List.map_cons,List.map_nil,List.filter_cons_of_pos h5,List.filter_nil];exact yK) [4,5,0]
  refine zD 2<|jyn ZF (Sub.refl _) ⟨v,Lb⟩ (by dsimp only;rw[jh hp,List.map_append,List.filter_append,List.map_cons,List.map_nil,List.filter_cons_of_neg (by rw[h5];simp),List.filter_nil,List.append_nil];exact hI) [2,3,4]
 ·rintro bd ⟨v,Lb⟩ Z hI rfl
  dsimp only at hI
  rw[List.take_length] at hI
  refine azH<|pF hT OF fun l5 OE=>?_
  have:=fX OE
  subst this
  show TT _ _ (.inRegion (D6 104 4) (0::[1,2])::[]) _ _ _ _ _
  refine tLd hT (.chan (some Ch)) (a:=eB (D6 104 4) 0) (x:= .tmp 5) (U:=202) (q:=b7) (by kernel_rfl) (by kernel_rfl) (by kernel_rfl) (by kernel_rfl) (by decide) rfl (fun _ _ _ _=> .inl (bX _ _ g7))<|aJB hT v (a:=eB (D6 104 4) 1) (x:= .tmp 6) (U:=103) (q:=b6) (by kernel_rfl) (by kernel_rfl) (by kernel_rfl) (by kernel_rfl) (by decide) rfl [2] 103<|azC (E:=mV Wg Ch gD cu) (a:=eB (D6 104 4) 2) (sc:= .tmp 24) (sv:= .tmp 25) (v:=v) (Y:=Lb) [3] (by kernel_rfl) (by kernel_rfl) (fun ρ=>by kernel_rfl) (by decide) rfl hI<|Wj (dN _ _ _)<|arF (E:=mV Wg Ch gD cu) (fn:=(Tryz.prog.funcs[104]?).getD default) (dn:=105) (bd:=bd) (by kernel_rfl) (by kernel_rfl) (by kernel_rfl) (amk Wg).choose_spec wN [0] rfl rfl
 rintro bd ⟨v,Lb⟩ Z jump hS hZ
 exact hS.elim
theorem f26:gu [Yv 76]=[.region 0 kE.o0 false,.region 1 kE.o1 false,.region 2 kE.o2 false,.region 3 kE.o3 false,.block 0 (.loop kE.lb),.region 9 kE.o9 false,.region 10 kE.o10 false,.region 11 kE.o11 false,.block 2 (.loop kE.rb),.region 15 (D6 76 9) false,.region 16 (D6 76 10) false,.ret]:=by kernel_rfl
theorem aE8:gu [kE.lb]=[.region 4 kE.o4 false,.cond (.tmp 19) .skip (.exit 0),.block 1 kE.Dm,.region 8 kE.o8 false]:=by kernel_rfl
theorem aQM:gu [kE.Dm]=[.region 5 kE.o5 false,.region 6 kE.o6 false,.region 7 kE.o7 false]:=by kernel_rfl
theorem aE7:gu [kE.rb]=[.region 12 kE.BM false,.cond (.tmp 27) .skip (.exit 2),.block 3 kE.ui]:=by kernel_rfl
theorem aQL:gu [kE.ui]=[.region 13 kE.o13 false,.region 14 kE.o14 false]:=by kernel_rfl
def ig(K:aC)(on:Int)(keep:aj→Bool)(rows:List bG)(n:Nat):List (List aj):=(List.range n).map fun i=>mO K on keep ((rows[i]?).getD ⟨fun _ _=>false⟩) i
theorem OW{on:Int}{keep:aj→Bool}{rows:List bG}{r:bG}(h:rows[n]?=some r):ig K on keep rows (n+1)=ig K on keep rows n++[mO K on keep r n]:=by
 simp only[ig,List.range_succ,List.map_append,List.map_cons,List.map_nil,h,Option.getD_some]
theorem ya(K:aC)(on:Int)(keep:aj→Bool)(rows:List bG)(n:Nat):(ig K on keep rows n).length=n:=by simp[ig]
def cW(K:aC)(on:Int)(keep:aj→Bool)(rows:List bG):List aj:=(ig K on keep rows rows.length).flatten
theorem qp(hV:eN K)(on:Int)(keep:aj→Bool){rows:List bG}(hR:rows.length≤2):(cW K on keep rows).length≤1250:=by
 have h1:∀r i,(mO K on keep r i).length≤625:=fun r i=>Nat.le_trans (List.length_filter_le _ _) (by rw[List.length_map];exact(jT hV on).1)
 have key:∀n,(ig K on keep rows n).flatten.length≤n*625:=by
  intro n
  induction n with
  |zero=>simp[ig]
  |succ n ih=>
   have:=h1 ((rows[n]?).getD ⟨fun _ _=>false⟩) n
   simp only[ig,List.range_succ,List.map_append,List.map_cons,List.map_nil,List.flatten_append,List.length_append,List.flatten_cons,List.flatten_nil,List.append_nil] at ih ⊢
   omega
 have:=key rows.length
 have h2:rows.length*625≤2*625:=Nat.mul_le_mul_right _ hR
 exact Nat.le_trans this h2
theorem abt{on:Int}{keep:aj→Bool}{rows:List bG}(hR:rows.length≤2):gh (cW K on keep rows):=by
 intro x hx
 obtain⟨l,hl,hx⟩:=List.mem_flatten.1 hx
 obtain⟨i,hi,rfl⟩:=List.mem_map.1 hl
 have hi:=List.mem_range.1 hi
 obtain⟨p,_,rfl⟩:=List.mem_map.1 (List.mem_filter.1 hx).1
 simp only[cq]
 omega
theorem ah4(a:List (List α))(o:List α)(b:List (List α))(zs:List α):((zs++o)++(a++b).flatten).Perm (zs++(a++o::b).flatten):=by
 simp only[List.flatten_append,List.flatten_cons,List.append_assoc]
 refine .append_left _ ?_
 rw[←List.append_assoc,←List.append_assoc]
 exact .append_right _ List.perm_append_comm
theorem aBO{rows:List bG}{on:Int}{keep:aj→Bool}{fr:Cells}(hV:eN K)(hF:oL ro f K rows)(hR:rows.length≤2)(G6:Bj zT g=true)
 (gP:∀i r,rows[i]?=some r→∀aI,Sub ro aI→∀p∈aO K on,dD zT g (fi++[.agg ⟨cP (cq K r i p)⟩]++ca) aI (.bool (keep (cq K r i p)))):
 Fn (C0 zT) zT 76 ⟨[pV f,.int .u8 on,.func (.func g) ⟨fi⟩ ⟨ca⟩]⟩ ⟨ro,fr⟩ (fun en s'=>∃v Y zs,en= .returned v∧s'=⟨ro,Y++fr⟩∧zs.Perm (cW K on keep rows)∧ay v 8 128 cP zs Y):=by
 rintro main T ⟨rfl,gD,cu,Post,rfl⟩ cl NU kr _
 have hT:=sj zT gD cu Post
 obtain⟨c0,c1,c2,vc,vh,vr,vb,va,vf,vt,hv,hf,p7,nv,hr,Ek,I7,KG,bS⟩:=id hF
 obtain⟨ni,DZ,DY,mH,rfl,PD,Mn,Mm⟩:=bS
 refine arE (fn:=(Tryz.prog.funcs[76]?).getD default) (c:=Yv 76) (n:=35) (by kernel_rfl) (by kernel_rfl) (by kernel_rfl) (by rfl)<|pF hT f26 fun l1 Ca=>?_
 refine u3 au hT<|jn fun b3=>jn fun b4=>jn fun b5=>zD 2<|xu<|pF hT Ca fun l2 qy=>?_
 show TT _ _ (.inRegion kE.o1 (0::[1,2])::_) _ _ _ _ _
 refine azD hT (a:=kE.a1) (f:=fun q=> .chan (some q)) (ob:= .chan 0 #[] false 0 0 false) (by kernel_rfl) (by kernel_rfl) (fun e q=>by kernel_rfl) (by decide) rfl fun Ch=>?_
 refine u3 au hT<|jn fun b7=>jd 2 [0]<|xu<|pF hT qy fun l3 OG=>?_
 show TT _ _ (.inRegion kE.o2 (0::[])::_) _ _ _ _ _
 refine azD hT (a:=kE.a2) (f:=fun q=> zP q) (ob:=wgBlock 210 0 0) (by kernel_rfl) (by kernel_rfl) (fun e q=>by kernel_rfl) (by decide) rfl fun Wg=>?_
 refine Wj hT<|arI (E:=mV Wg Ch gD cu) (Q:=Good zT Post) (tm:=false) 0 2 ((b7,.cells ⟨[.chan (some Ch)]⟩ 202 (0,0))::(b5,.cells ⟨[.func (.func g) ⟨fi⟩ ⟨ca⟩]⟩ 163 (0,0))::(b4,.cells ⟨[.int .u8 on]⟩ 105 (0,0))::(b3,.cells ⟨[pV f]⟩ 100 (0,0))::fr) hT (fun L aH hl dK UX=>?_)
 have h7:=hl.kn _ (.head _)
 have h5:=hl.kn _ (.tail _ (.head _))
 have h4:=hl.kn _ (.tail _ (.tail _ (.head _)))
 have h3:=hl.kn _ (.tail _ (.tail _ (.tail _ (.head _))))
 dsimp only at h7 h5 h4 h3
 have hM:∀pend os,Closed zT true (TM (mV Wg Ch gD cu) L (Good zT Post) pend false os 0):=fun pend os=>eX (E:=mV Wg Ch gD cu) false os (fun e=>(by cases e))
 have hC:∀os,Closed zT true (TM (mV Wg Ch gD cu) L (Good zT Post) 0 true os 0):=fun os=>eX (E:=mV Wg Ch gD cu) true os (fun _=>rfl)
 refine pF (hM 0 []) OG fun l4 OF=>?_
 refine u3 au (hM 0 [])<|jl (b:=b3) (off:=0) (m:=1) (vs:=[pV f]) 0 ⟨_,_,_,.inl h3,rfl⟩<|zD 2<|jl (b:=f) (off:=0) (m:=13) (vs:=[c0,c1,c2,vc,vh,vr,vb,va,zI K.gone,zI K.new,zI K.af,vf,.slice ni rows.length mH]) 12 ⟨_,_,_,.inl (hl.sub _ _ hf),rfl⟩<|zD 3<|xu<|LW (hM 0 []) OF fun l5 OE=>?_
 refine aoW (hM 0 []) (rest:=[]) rfl fun l6 Iq=>?_
 have:=fX Iq
 subst this
 have loop:∀m i kU,m+i=rows.length→Sub aH kU→(∀kU rest,Sub aH kU→TT (TM (mV Wg Ch gD cu) L (Good zT Post) 0 false (ig K on keep rows rows.length) 0) (fr0 76 .normal) (l5.map .code++[]) (cl::NU) 35 [] kU (some ⟨.fin .normal,[(7,pV b7),(8,pV Wg)]++rest,[],⟨[],[]⟩⟩))→
  ∀rest,TT (TM (mV Wg Ch gD cu) L (Good zT Post) 0 false (ig K on keep rows i) 0) (fr0 76 .normal) ([kE.lb].map .code++(.inLoop kE.lb::(.inBlock 0::(l5.map .code++[])))) (cl::NU) 35 [] kU (some ⟨.fin .normal,[(3,pV b3),(4,pV b4),(5,pV b5),(7,pV b7),(8,pV Wg),(17,zI (rows.length:Int)),(18,zI (i:Int))]++rest,[],⟨[],[]⟩⟩):=by
  intro m
  induction m with
  |zero=>
   intro i kU hi hs pZ rest
   refine pF (hM 0 _) aE8 fun m1 hm1=>?_
   refine u3 au (hM 0 _)<|zD 2<|xu<|Wk (hM 0 _) (t:=false) (q:=decide ((i:Int) <(rows.length:Int))) hm1 (by simp;omega) fun m2 EY=>?_
   refine aoY (hM 0 _) (k':=l5.map .code++[]) (by rw[qj];simp[exitTo]) ?_
   have:i=rows.length:=by omega
   subst this
   exact tSt (hM 0 _) [(7,pV b7),(8,pV Wg)] [] [] fun rest=>pZ kU rest hs
  |succ m ih=>
   intro i kU hi hs pZ rest
   obtain⟨r,B2⟩:∃r,rows[i]?=some r:=⟨_,List.getElem?_eq_getElem (by omega)⟩
   refine pF (hM 0 _) aE8 fun m1 hm1=>?_
   refine u3 au (hM 0 _)<|zD 2<|xu<|Wk (hM 0 _) (t:=true) (q:=decide ((i:Int) <(rows.length:Int))) hm1 (by simp;omega) fun m2 EY=>?_
   refine aoU (hM 0 _)<|LW (hM 0 _) EY fun m3 hm3=>?_
   refine pF (hM 0 _) aQM fun m4 hm4=>?_
   refine u3 au (hM 0 _)<|zD 1<|jn fun b9=>jd 2 [0]<|xu<|pF (hM 0 _) hm4 fun m5 hm5=>?_
   show TT _ _ (.inRegion kE.o6 [0]::_) _ _ _ _ _
   refine aJE (E:=mV Wg Ch gD cu) (a:=kE.a6) (f:=103) (x:= .tmp 8) (ats:=ai9 kE.a6) ?_ (by kernel_rfl) (by kernel_rfl) (by kernel_rfl) (kM (by kernel_rfl)) (by decide) rfl (by show _ <2;rw[ya];omega) (by show HO zT 210 _ _=_;rw[ya];exact(atD i (by omega) Wg).choose_spec) wN
   refine pF (hM 1 _) hm5 fun m6 hm6=>?_
   have:=fX hm6
   subst this
   show TT _ _ (.inRegion kE.o7 (0::[1])::_) _ _ _ _ _
   refine azA (hM 1 _) (a:=eB kE.o7 0) (.func (.func 104) ⟨[]⟩ ⟨[pV Wg,pV b3,pV b4,pV b9,pV b5,pV b7]⟩) (by kernel_rfl) (by kernel_rfl) (by decide) rfl<|tGo (E:=mV Wg Ch gD cu) (mO K on keep r i) (a:=kE.a7) (f:=104) (y:= .tmp 22) (ca:=[pV Wg,pV b3,pV b4,pV b9,pV b5,pV b7]) (ats:=ai9 kE.a7) [(b9,.cells ⟨[zI (i:Int)]⟩ 3 (0,0))] (by kernel_rfl) (by kernel_rfl) (by kernel_rfl) (by decide) rfl (fun za Dr hk3=>⟨?_,?_⟩)
   ·have Bi:=Sub.trans hs Dr
    have h03:=Sub.trans hl.sub Bi
    exact aBH hV (hF.up h03) B2 G6 (fun aI mI=>gP i r B2 aI (Sub.trans h03 mI)) (Bi _ _ h3) (Bi _ _ h4) (hk3 _ (.head _)) (Bi _ _ h5) (Bi _ _ h7)
   rw[←OW B2]
   refine Wj (hM 0 _) (aoZ (hM 0 _) ?_)
   refine pF (hM 0 _) hm3 fun m7 hm7=>?_
   have:=fX hm7
   subst this
   refine u3 au (hM 0 _)<|ja ((i:Int)+1) (by omega)<|zD 2<|xu<|acT (hM 0 _)<|tSt (hM 0 _) [(3,pV b3),(4,pV b4),(5,pV b5),(7,pV b7),(8,pV Wg),(17,zI (rows.length:Int)),(18,zI ((i+1:Nat):Int))] [] [] fun rest=>ih (i+1) za (by omega) (Sub.trans hs Dr) pZ rest
 refine tSt (hM 0 _) [(3,pV b3),(4,pV b4),(5,pV b5),(7,pV b7),(8,pV Wg),(17,zI (rows.length:Int)),(18,zI (((0:Nat)):Int))] [] [] fun rest=>loop rows.length 0 aH (by omega) (Sub.refl _) (fun kU rest pU=>?_) rest
 refine pF (hM 0 _) OE fun l7 Ei=>?_
 show TT _ _ (.inRegion kE.o9 (0::[1])::_) _ _ _ _ _
 refine azA (hM 0 _) (a:=eB kE.o9 0) (.func (.func 106) ⟨[]⟩ ⟨[pV Wg,pV b7]⟩) (by kernel_rfl) (by kernel_rfl) (by decide) rfl<|arM (E:=mV Wg Ch gD cu) (a:=kE.a9) (f:=106) (y:= .tmp 24) (ca:=[pV Wg,pV b7]) (ats:=ai9 kE.a9) [] (by kernel_rfl) (by kernel_rfl) (by kernel_rfl) (by decide) rfl (fun za Dr _=>?_)
 have Bi:=Sub.trans pU Dr
 refine⟨akV (E:=mV Wg Ch gD cu) (x:=kE.cl) aBP (amj Wg).choose_spec wN (q:=b7) (t:=202) (fz:=(0,0)) (a:=eB kE.cl.q1 0) (y:= .tmp 1) (U:=202) (Bi _ _ h7) (by kernel_rfl) (by kernel_rfl) (by kernel_rfl) (by kernel_rfl) (by kernel_rfl) (by kernel_rfl),?_⟩
 refine Wj (hC _)<|pF (hC _) Ei fun l8 XN=>?_
 refine u3 au (hC _)<|zD 2<|xu<|pF (hC _) XN fun l9 hl9=>?_
 refine u3 au (hC _)<|jl (b:=b7) (off:=0) (m:=1) (vs:=[.chan (some Ch)]) 0 ⟨_,_,_,.inl (Bi _ _ h7),rfl⟩<|zD 1<|xu<|LW (hC _) hl9 fun l10 au1=>?_
 refine aoW (hC _) (rest:=[]) rfl fun l11 au0=>?_
 have:=fX au0
 subst this
 have hlen:=qp hV on keep hR
 have recv:∀m (os:List (List aj)) (v:Value) (L1:Cells) (zs:List aj),os.length=m→ay v 8 128 cP zs L1→(zs++os.flatten).Perm (cW K on keep rows)→∀rest,
  TT (TM (mV Wg Ch gD cu) L (Good zT Post) 0 true os 0) (fr0 76 .normal) ([kE.rb].map .code++(.inLoop kE.rb::(.inBlock 2::(l10.map .code++[])))) (cl::NU) 35 [] za (some ⟨.fin .normal,[(10,v),(25,.chan (some Ch))]++rest,[.l L1],⟨[],[]⟩⟩):=by
  intro m
  induction m with
  |zero=>
   intro os v L1 zs s9 ho hp rest
   have s9:=List.eq_nil_of_length_eq_zero s9
   subst s9
   refine pF (hC _) aE7 fun m1 hm1=>?_
   show TT _ _ (.inRegion kE.BM (0::[1])::_) _ _ _ _ _
   refine aoV (E:=mV Wg Ch gD cu) (a:=kE.Sa) (rc:= .tmp 25) (z:= zS) hl Bi UX (by kernel_rfl) (by kernel_rfl) (fun ρ=>by kernel_rfl) (by decide) rfl (fun a' oo b' v' Y he _=>by simp at he) fun _=>?_
   refine u3 au hT<|zD 2<|xu<|Wk hT (t:=false) (q:=false) hm1 rfl fun m2 EY=>?_
   refine aoY hT (k':=l10.map .code++[]) (by rw[qj];simp[exitTo]) ?_
   refine pF hT au1 fun m3 hm3=>?_
   refine u3 au hT<|zD 1 ?_
   have hp':zs.Perm (cW K on keep rows):=by simpa using hp
   refine jc (vs:=[v,.func (.func 109) ⟨[]⟩ ⟨[]⟩]) [1] (Pw ho (by rw[hp'.length_eq];omega) ((abt hR).perm hp')) ?_
   rintro _ Y ⟨ys,hys,hoY⟩
   refine zD 1<|xu<|pF hT hm3 fun m4 hm4=>?_
   refine u3 au hT<|zD 3<|xu<|aoX hT hm4 fun m5 hm5=>?_
   refine aJA au hT (fn:=(Tryz.prog.funcs[76]?).getD default) v [] [0,1] (Y++((b7,.cells ⟨[.chan (some Ch)]⟩ 202 (0,0))::(b5,.cells ⟨[.func (.func g) ⟨fi⟩ ⟨ca⟩]⟩ 163 (0,0))::(b4,.cells ⟨[.int .u8 on]⟩ 105 (0,0))::(b3,.cells ⟨[pV f]⟩ 100 (0,0))::fr)) (by kernel_rfl)<|hT.mono _ ⟨ro,Y++fr⟩ _ (dI (J:=[(b7,.cells ⟨[.chan (some Ch)]⟩ 202 (0,0)),(b5,.cells ⟨[.func (.func g) ⟨fi⟩ ⟨ca⟩]⟩ 163 (0,0)),(b4,.cells ⟨[.int .u8 on]⟩ 105 (0,0)),(b3,.cells ⟨[pV f]⟩ 100 (0,0))]) ?_ (Sub.refl _)) (kr v _ ⟨v,Y,ys,rfl,rfl,hys.trans hp',hoY⟩)
   rw[List.append_assoc]
   exact .append_left _ (List.perm_append_comm (l₁:=[_,_,_,_]))
  |succ m ih=>
   intro os v L1 zs s9 ho hp rest
   refine pF (hC _) aE7 fun m1 hm1=>?_
   show TT _ _ (.inRegion kE.BM (0::[1])::_) _ _ _ _ _
   refine aoV (E:=mV Wg Ch gD cu) (a:=kE.Sa) (rc:= .tmp 25) (z:= zS) hl Bi UX (by kernel_rfl) (by kernel_rfl) (fun ρ=>by kernel_rfl) (by decide) rfl (fun a' oo b' v' Y he n7=>?_) fun he=>by simp[he] at s9
   subst he
   have n7:ay v' 8 128 cP oo Y:=n7
   refine u3 au (hC _)<|zD 2<|xu<|Wk (hC _) (t:=true) (q:=true) hm1 rfl fun m2 EY=>?_
   refine aoU (hC _)<|LW (hC _) EY fun m3 hm3=>?_
   have:=fX hm3
   subst this
   refine pF (hC _) aQL fun m4 hm4=>?_
   refine u3 au (hC _)<|zD 3<|xu<|pF (hC _) hm4 fun m5 hm5=>?_
   have:=fX hm5
   subst this
   refine u3 au (hC _)<|zD 2 ?_
   have Sw:((zs++oo)++(a'++b').flatten).Perm (cW K on keep rows):=(ah4 a' oo b' zs).trans hp
   have hlz:zs.length+oo.length≤1250:=by
    have:=Sw.length_eq
    simp only[List.length_append] at this
    omega
   refine iC (sz:=8) (ps:=zs) (qs:=oo) (enc:=cP) (w:=v') [1] [0] Y ho (fun s _ hZ=>n7.sl hZ) (fun p _=>ai rfl) (by omega) fun v23 L23 yK=>zD 2<|xu<|aoZ (hC _) (acT (hC _) ?_)
   exact tSt (hC _) [(10,v23),(25,.chan (some Ch))] [.l L23] [0] fun rest=>ih (a'++b') v23 L23 (zs++oo) (by simp at s9 ⊢;omega) yK Sw rest
 refine tGe<|tSt (hC _) [(10,zS),(25,.chan (some Ch))] [.l []] [0] fun rest=>recv rows.length (ig K on keep rows rows.length) (zS) [] [] (ya _ _ _ _ _) (ay.nil _ _ _) (by simp[cW]) rest
theorem afi{rows:List bG}{on:Int}{keep:aj→Bool}(hV:eN K)(hF:oL ro f K rows)(hR:rows.length≤2)(G6:Bj zT g=true)
 (gP:∀i r,rows[i]?=some r→∀aI,Sub ro aI→∀p∈aO K on,dD zT g (fi++[.agg ⟨cP (cq K r i p)⟩]++ca) aI (.bool (keep (cq K r i p)))):
 Fb zT 76 [pV f,.int .u8 on,.func (.func g) ⟨fi⟩ ⟨ca⟩] ro [] (fun v Y=>∃zs,zs.Perm (cW K on keep rows)∧ay v 8 128 cP zs Y):=
 fun fr=>Fn.mono (aBO (fr:=fr) hV hF hR G6 gP) fun en s' ⟨v,Y,zs,h1,h2,h3,h4⟩=>⟨v,Y,h1,by rw[h2];exact St.le_refl _,zs,h3,h4⟩
theorem Xn{rows:List bG}{on:Int}(hV:eN K)(hF:oL ro f K rows)(hR:rows.length≤2):
 Fb zT 41 [pV f,.int .u8 on] ro [] (fun v Y=>∃zs,zs.Perm (cW K on (cE K.gone K.new K.af) rows)∧ay v 8 128 cP zs Y):=by
 refine GD au [] [] bn fun fr=>zD 10<|Sq (vs:=[pV f,.int .u8 on,.func (.func 77) ⟨[pV f]⟩ ⟨[]⟩]) [] (fun _ _ h=>h) (afi (keep:=cE K.gone K.new K.af) hV hF hR (by kernel_rfl) fun i r hr aI hs p hp=>?_) ?_
 ·obtain⟨c0,c1,c2,vc,vh,vr,vb,va,vf,vt,hv,hf,_⟩:=hF.up hs
  exact afe hf
 rintro v Y ⟨zs,hz,ho⟩
 refine zD 3<|Ub qC v [0,1] Y (Sub.refl _) ⟨zs,hz,ho⟩
end Go.L
