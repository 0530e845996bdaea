/- Part 8 of the proof. -/
import Derived.Test.YtfamogolneloaaaGreatDoorG7
set_option maxRecDepth 100000
set_option linter.all false
namespace Go.L
open Go Go.Conc Go.Proofs
variable {p:Nat→Int} {K:aM} {rs:List cM} {f k b n past bw b1 b2 bl bf br bg bt bo b3 b4:Nat} {cs:List bM} {hd:List cq} {l:List fF} {vl vc vh:Value} {na nb:ByteArray} {Stop:Cells→Prop} {x y:aG} {xs:List Int} {α:Type}
def uqN(rs:List cM)(a to:ByteArray):Nat→Nat→Option Nat
 |0,_=>none
 |f+1,m=>bif decide (0 <(Nr rs to m a []).length) then some m else uqN rs a to f (m+1)
def uq(rs:List cM)(a to:ByteArray):Option Nat:=uqN rs a to 3 0
def jC(c:UInt8):ByteArray:=if c.toNat=67 then bs [99,104] else if c.toNat=74 then bs [106,117] else if c.toNat=89 then bs [106,97] else if c.toNat=88 then bs [115,104] else if c.toNat <97 then bs [c.toNat+32] else bs [c.toNat]
def Il:List UInt8→ByteArray→ByteArray
 | [],a=>a
 |c::l,a=>Il l (a++jC c)
def keyOf(w:ByteArray):ByteArray:=Il w.data.toList (bs [])
theorem akC{l:List UInt8}{c:UInt8}{a:ByteArray}(h:l[k]?=some c):Il (l.drop k) a=Il (l.drop (k+1)) (a++jC c):=by rw[fN h];rfl
theorem adr{l:List UInt8}{a:ByteArray}(h:l[k]?=none):Il (l.drop k) a=a:=by rw[eA (by rw[List.getElem?_eq_none_iff] at h;omega)];rfl
def E5(rs:List cM)(a b:ByteArray):Int:=match uq rs (keyOf a) (keyOf b) with
 |none=>2
 |some 0=>1
 |some _=>3
structure rC(w:ByteArray):Prop where
 n:1≤w.size∧w.size≤6
 s:Script w
def SP(c:UInt8):Prop:=F8 c=true∨FK c=true
theorem rC.let{w:ByteArray}(h:rC w):∀c∈w.data.toList,SP c:=fun c hc=>h.s.elim (fun k=> .inl (k c hc)) fun k=> .inr (k c hc)
theorem XP:((List.range 256).all fun n=> !(F8 (UInt8.ofNat n)||FK (UInt8.ofNat n))||(aks (jC (UInt8.ofNat n))&&(Nat.ble 1 (jC (UInt8.ofNat n)).size&&Nat.ble (jC (UInt8.ofNat n)).size 2)))=true:=by kernel_rfl
theorem N5{c:UInt8}(h:SP c):xz (jC c)∧1≤(jC c).size∧(jC c).size≤2:=by
 have h2:=List.all_eq_true.1 XP c.toNat (List.mem_range.2 c.toNat_lt)
 have hb:UInt8.ofNat c.toNat=c:=by simp
 rw[hb] at h2
 have h3:(F8 c||FK c)=true:=by rcases h with h|h<;>simp[h]
 rw[h3] at h2
 simp only[Bool.not_true,Bool.false_or,Bool.and_eq_true,Nat.ble_eq] at h2
 exact⟨F3 h2.1,h2.2⟩
theorem V5:∀ {l:List UInt8} {a:ByteArray},(∀c∈l,SP c)→xz a→xz (Il l a)∧(Il l a).size≤a.size+2*l.length
 | [],a,_,ha=>⟨ha,by simp[Il]⟩
 |c::l,a,h,ha=>by
  have h1:=N5 (h c (by simp))
  obtain⟨h2,h3⟩:=V5 (l:=l) (a:=a++jC c) (fun x hx=>h x (by simp[hx])) (ha.app h1.1)
  refine⟨h2,?_⟩
  simp only[Il,ByteArray.size_append,List.length_cons] at h3 ⊢
  omega
theorem Pf{w:ByteArray}(h:rC w):xz (keyOf w)∧(keyOf w).size≤12:=by
 have h1:=V5 (l:=w.data.toList) (a:=bs []) h.let (fun b hb=>by cases hb)
 have h2:w.data.toList.length=w.size:=Array.length_toList
 have h3:=h.n
 exact⟨h1.1,by have:=h1.2;have e:(bs []).size=0:=rfl;unfold keyOf;omega⟩
theorem akr{c:UInt8}(h:SP c)(h1:¬(c.toNat:Int)=67)(h2:¬(c.toNat:Int)=74)(h3:¬(c.toNat:Int)=89)(h4:¬(c.toNat:Int)=88):ade c=jC c:=by
 simp only[ade,jC,if_neg (show ¬c.toNat=67 by omega),if_neg (show ¬c.toNat=74 by omega),if_neg (show ¬c.toNat=89 by omega),if_neg (show ¬c.toNat=88 by omega)]
 split
 ·simp only[ZO,bs]
  rw[sg .u8 rfl _ (by omega) (by simp[IntKind.bits];omega),show ((c.toNat:Int)+32).toNat=c.toNat+32 by omega]
  rfl
 simp[tN,bs]
theorem let_128{c:UInt8}(h:SP c):c.toNat <128:=by
 rcases h with h|h
 ·simp only[F8,Bool.and_eq_true,Nat.ble_eq] at h;omega
 simp only[FK,Bool.and_eq_true,Nat.ble_eq] at h;omega
theorem aq4{c:UInt8}{ro:Nat→Option Obj}(h:SP c):de zT 235 [.int .i32 (c.toNat:Int)] ro (.string (jC c)):=by
 refine bA au [] [] a8<|zD 29<|zJ 5 ((c.toNat:Int)=67) (fun h1=>?_) fun h1=>?_
 ·
  refine zD 8<|aE q0 (.string (bs [99,104])) [] [] [] (Sub.refl _) ⟨_,_,rfl,rfl,by rw[jC,if_pos (by omega)]<;>rfl,rfl⟩
 refine zD 8<|zJ 7 ((c.toNat:Int)=74) (fun h2=>?_) fun h2=>?_
 ·
  refine zD 17<|jsa (a:=(bs [106])) (b:=(bs [117])) 9 (by decide)<|zD 3<|aE q0 (.string ((bs [106])++(bs [117]))) [] [] [] (Sub.refl _) ⟨_,_,rfl,rfl,by rw[jC,if_neg (by omega),if_pos (by omega)]<;>rfl,rfl⟩
 refine zD 8<|zJ 9 ((c.toNat:Int)=89) (fun h3=>?_) fun h3=>?_
 ·
  refine zD 16<|jsa (a:=(bs [106])) (b:=(bs [97])) 9 (by decide)<|zD 3<|aE q0 (.string ((bs [106])++(bs [97]))) [] [] [] (Sub.refl _) ⟨_,_,rfl,rfl,by rw[jC,if_neg (by omega),if_neg (by omega),if_pos (by omega)]<;>rfl,rfl⟩
 refine zD 7<|zJ 11 ((c.toNat:Int)=88) (fun h4=>?_) fun h4=>?_
 ·
  refine zD 8<|aE q0 (.string (bs [115,104])) [] [] [] (Sub.refl _) ⟨_,_,rfl,rfl,by rw[jC,if_neg (by omega),if_neg (by omega),if_neg (by omega),if_pos (by omega)]<;>rfl,rfl⟩
 refine zD 6<|je (.string (tN c)) (amf (let_128 h))<|jp (vs:=[.string (tN c)]) [] [] (fun aB hs hZ=>(aTK h))<|zD 3<|aE q0 (.string (ade c)) [] [] [] (Sub.refl _) ⟨_,_,rfl,rfl,by rw[akr h (by omega) (by omega) (by omega) (by omega)],rfl⟩
theorem akj{w to:ByteArray}{ro:Nat→Option Obj}(hl:bE ro vl 2 jI rs)(hR:∀r∈rs,rB r)(hw:xz w)(rR:w.size≤100)(hq:rs.length≤100):eE zT 217 [.string w,vl,.string to] ro [] (fun r Y=>(∃n v ps,uq rs w to=some n∧r= .tuple ⟨[v,.bool true]⟩∧aA v 1 9 pN ps Y∧ps.length=n+1)∨(uq rs w to=none∧r= .tuple ⟨[zS,.bool false]⟩∧Y=[])):=by
 obtain⟨fI,rM,rK,eX,rfl,tG,lG,mH⟩:=hl
 refine bA au [] [] a8<|zD 11<|dW [1,0,1,0,0] [] (fun(zz:Nat)=>[(0,.string w),(1,.slice fI rs.length eX),(2,.string to),(11,zI (zz:Int))]) (fun(zz:Nat)=>[]) (fun(zz:Nat)=>zz≤3∧uq rs w to=uqN rs w to (3-zz) zz) (fun(zz:Nat)=>3-zz) 0 ⟨by omega,rfl⟩ [] ?_
 rintro k hI K1 bK rest
 refine zD 5<|zJ 12 ((k:Int) <3) (fun h1=>?_) fun h1=>?_
 ·
  refine zD 15<|jc (vs:=[.string w,.slice fI rs.length eX,.string to,zI (k:Int)]) [] (acV (show bE _ _ _ _ _ from ⟨fI,rM,rK,eX,rfl,tG,lG,mH⟩)) ?_
  rintro _ _ ⟨ada,ac9,ac8,ac7,rfl,rfl⟩
  refine jg 0 [.b ada (.cells ⟨[.string w]⟩ 308 (0,0)),.b ac9 (.cells ⟨[.slice fI rs.length eX]⟩ 36 (0,0)),.b ac8 (.cells ⟨[.string to]⟩ 308 (0,0)),.b ac7 (.cells ⟨[zI (k:Int)]⟩ 3 (0,0))]<|jf [0,1,2,3] ((ada,.cells ⟨[.string w]⟩ 308 (0,0))::((ac9,.cells ⟨[.slice fI rs.length eX]⟩ 36 (0,0))::((ac8,.cells ⟨[.string to]⟩ 308 (0,0))::[(ac7,.cells ⟨[zI (k:Int)]⟩ 3 (0,0))]))) fun ro4 n6 PO=>jc (vs:=[.func (.func 254) ⟨[]⟩ ⟨[zP ac7,zP ac8,zP ac9,zP ada]⟩,.func (.func 238) ⟨[]⟩ ⟨[]⟩]) [] (aq6 (YB (PO _ (.tail _ (.tail _ (.tail _ (.head _))))) (PO _ (.tail _ (.tail _ (.head _)))) (PO _ (.tail _ (.head _))) (PO _ (.head _)) ((show bE _ _ _ _ _ from ⟨fI,rM,rK,eX,rfl,tG,lG,mH⟩).up n6) hR hw rR hq (by omega)) (fun x hx=>by have:=MS hx;simp at this;omega)) ?_
  rintro _ L20 ⟨v20,rfl,aNL,aP8,asW⟩
  refine zD 10<|js 23 (decide (0 <(Nr rs to k w []).length)) (fun h5=>?_) (fun h5=>?_)
  ·
   refine zD 8<|aE q0.a (.tuple ⟨[v20,.bool true]⟩) [] [0] L20 n6 ⟨_,_,rfl,rfl,.inl ⟨k,v20,aNL,by rw[hI.2,show 3-k=(3-(k+1))+1 by omega,uqN,h5];rfl,rfl,aP8,by have:=MS (asW (of_decide_eq_true h5));simpa using this⟩⟩
  refine zD 3<|ja ((k:Int)+1) (by omega)<|zD 2<|bO bK (k+1) ⟨by omega,by rw[hI.2,show 3-k=(3-(k+1))+1 by omega,uqN,h5];rfl⟩ (by omega) [] n6
 refine zD 8<|aE q0 (.tuple ⟨[zS,.bool false]⟩) [] [] [] (Sub.refl _) ⟨_,_,rfl,rfl,.inr ⟨by rw[hI.2,show 3-k=0 by omega];rfl,rfl,rfl⟩⟩
theorem ark{c:UInt8}(h:SP c):c.toNat <128:=by
 rcases h with h|h
 ·simp only[F8,Bool.and_eq_true,Nat.ble_eq] at h;omega
 simp only[FK,Bool.and_eq_true,Nat.ble_eq] at h;omega
theorem aq7{w to:ByteArray}{ro:Nat→Option Obj}(hl:bE ro vl 2 jI rs)(hR:∀r∈rs,rB r)(hw:xz w)(rR:w.size≤100)(hq:rs.length≤100):eE zT 217 [.string w,vl,.string to] ro [] (fun r Y=>∃v ps ok,r= .tuple ⟨[v,.bool ok]⟩∧aA v 1 9 pN ps Y∧(ok=true→uq rs w to=some (ps.length-1)∧1≤ps.length)∧(ok=false→uq rs w to=none)):=by
 refine(akj hl hR hw rR hq).mono fun _ _ h=>?_
 rcases h with ⟨n,v,ps,h1,h2,h3,h4⟩| ⟨h1,h2,h3⟩
 ·exact⟨v,ps,true,h2,h3,fun _=>⟨by rw[h4];exact h1,by omega⟩,nofun⟩
 subst h3;exact⟨_,[],false,h2,aA.nil _ _ _,nofun,fun _=>h1⟩
def uN(rs:List cM)(a b:ByteArray):Int:=match uq rs a b with
 |some n=>n
 |none=>0
def uE(rs:List cM)(a b:ByteArray):Int:=match uq rs a b with
 |some _=>0
 |none=>11
theorem am7{a to:ByteArray}:∀ {f m n:Nat},uqN rs a to f m=some n→n <m+f
 |0,_,_,h=>by cases h
 |f+1,m,n,h=>by
  simp only[uqN] at h
  cases hd:decide (0 <(Nr rs to m a []).length) with
  |true=>rw[hd] at h;simp only[cond_true,Option.some.injEq] at h;omega
  |false=>rw[hd] at h;simp only[cond_false] at h;have:=am7 h;omega
theorem nOf{w:ByteArray}{ro:Nat→Option Obj}(hw:rC w):de zT 216 [.string w] ro (.string (keyOf w)):=by
 refine bA au [] [] a8<|zD 12<|jn fun r7=>zD 2<|dW [1,1,0,1,0,0] [] (fun(zz:Nat×ByteArray)=>[(2,.string (bs [])),(3,.string zz.2),(7,zP r7)]) (fun(zz:Nat×ByteArray)=>[.b r7 (.stringIter w zz.1)]) (fun(zz:Nat×ByteArray)=>(zz.1≤w.data.toList.length∧zz.2.size≤2*zz.1)∧keyOf w=Il (w.data.toList.drop zz.1) zz.2) (fun(zz:Nat×ByteArray)=>w.data.toList.length-zz.1) (⟨0,(bs [])⟩) ⟨⟨by omega,Nat.le_refl _⟩,rfl⟩ [0] ?_
 rintro⟨p,a⟩ hI K1 bK rest
 dsimp only at hI
 refine zD 2 ?_
 cases hn8:w.data.toList[p]? with
 |some x8=>
  refine jnA r7 0 hn8 (ark (hw.let _ (List.mem_of_getElem? hn8)))<|zD 11 ?_
  have hso:=N5 (hw.let _ (List.mem_of_getElem? hn8))
  have hlen:w.data.toList.length=w.size:=Array.length_toList
  have hwn:=hw.n
  refine zD 3<|jp (vs:=[.int .i32 (x8.toNat:Int)]) [] [] (fun aB hs hZ=>(aq4 (hw.let _ (List.mem_of_getElem? hn8))))<|jsa (a:=a) (b:=(jC x8)) 9 (by omega)<|zD 2<|bO bK (⟨p+1,(a++jC x8)⟩) ⟨⟨by have:=(List.getElem?_eq_some_iff.1 hn8).1;dsimp only;omega,by dsimp only;rw[ByteArray.size_append];omega⟩,by rw[hI.2,akC hn8]⟩ (by have:=(List.getElem?_eq_some_iff.1 hn8).1;dsimp only;omega) [0] (Sub.refl _)
 |none=>
  refine jnZ r7 0 hn8<|zD 11<|aE q0 (.string a) [] [] [] (Sub.refl _) ⟨_,_,rfl,rfl,by rw[hI.2,adr hn8],rfl⟩
theorem aki{ro:Nat→Option Obj}(hl:bE ro vl 2 jI rs)(hR:∀r∈rs,rB r)(hq:rs.length≤4)(Dg:rC na)(Av:rC nb):eE zT 184 [vl,.string na,.string nb] ro [] (fun r Y=>∃v ps e,r= .tuple ⟨[v,zI e]⟩∧aA v 1 9 pN ps Y∧ps.length≤3∧((e=0∧uq rs (keyOf na) (keyOf nb)=some (ps.length-1)∧1≤ps.length)∨(e=11∧uq rs (keyOf na) (keyOf nb)=none))):=by
 obtain⟨fI,rM,rK,eX,rfl,tG,lG,mH⟩:=hl
 refine bA au [] [] a8<|zD 9<|jp (vs:=[.slice fI rs.length eX]) [] [] (fun aB hs hZ=>Yy ((show bE _ _ _ _ _ from ⟨fI,rM,rK,eX,rfl,tG,lG,mH⟩).up hs) (by omega) hR)<|zD 14<|jn fun Hu=>jp (vs:=[.slice (some ⟨Hu,0,none⟩) 2 2]) [0] [(Hu,.cells ⟨([na,nb].map pN).flatten⟩ 9 (0,0))] (fun aB hs hZ=>acU (bQ [na,nb] hZ.head (by intro p hp;rfl)) (by first|omega| (simp only[List.length_set,List.length_append,List.length_cons,List.length_nil];omega)) (by intro x hx;simp only[List.mem_cons,List.not_mem_nil,or_false] at hx;rcases hx with rfl|rfl;exact⟨Dg.n,Dg.s⟩;exact⟨Av.n,Av.s⟩)) ?_
 refine zD 12<|jp (vs:=[.string na]) [] [] (fun aB hs hZ=>(nOf Dg))<|zD 2<|jp (vs:=[.string nb]) [] [] (fun aB hs hZ=>(nOf Av))<|jc (vs:=[.string (keyOf na),.slice fI rs.length eX,.string (keyOf nb)]) [] (aq7 (show bE _ _ _ _ _ from ⟨fI,rM,rK,eX,rfl,tG,lG,mH⟩) hR (Pf Dg).1 (by have:=(Pf Dg).2;omega) (by omega)) ?_
 rintro _ L30 ⟨v30,aNK,aNV,rfl,vZ,arZ,aOP⟩
 refine zD 12<|js 34 (!aNV) (fun h1=>?_) (fun h1=>?_)
 ·
  try simp only[zB] at h1
  refine zD 7<|aE q0 (.tuple ⟨[zS,zI 11]⟩) [] [] [] (Sub.refl _) ⟨_,_,rfl,rfl,_,[],_,rfl,aA.nil _ _ _,by simp,.inr ⟨rfl,aOP (by simp_all)⟩⟩
 try simp only[zB] at h1
 refine zD 9<|aE q0 (.tuple ⟨[v30,zI 0]⟩) [] [0] L30 (Sub.refl _) ⟨_,_,rfl,rfl,_,aNK,_,rfl,vZ,by have:=am7 (arZ (by simp_all)).1;have:=(arZ (by simp_all)).2;omega,.inl ⟨rfl,arZ (by simp_all)⟩⟩
theorem azG{ro:Nat→Option Obj}(hl:bE ro vl 2 jI rs)(hR:∀r∈rs,rB r)(hq:rs.length≤4)(Dg:rC na)(Av:rC nb):de zT 155 [vl,.string na,.string nb] ro (.tuple ⟨[zI (uN rs (keyOf na) (keyOf nb)),zI (uE rs (keyOf na) (keyOf nb))]⟩):=by
 obtain⟨fI,rM,rK,eX,rfl,tG,lG,mH⟩:=hl
 refine bA au [] [] a8<|zD 10<|jc (vs:=[.slice fI rs.length eX,.string na,.string nb]) [] (aki (show bE _ _ _ _ _ from ⟨fI,rM,rK,eX,rfl,tG,lG,mH⟩) hR hq Dg Av) ?_
 rintro _ L14 ⟨v14,azh,MI,rfl,Tm,bec,xK⟩
 refine zD 12<|js 18 (!decide (MI=0)) (fun h1=>?_) (fun h1=>?_)
 ·
  replace h1:=of_decide_eq_false (by simpa using h1)
  refine zD 8<|aE q0 (.tuple ⟨[zI 0,zI MI]⟩) [] [] [] (Sub.refl _) ⟨_,_,rfl,rfl,by rcases xK with ⟨h1,h2,h3⟩| ⟨h1,h2⟩<;>simp only[uN,uE,h2]<;>(subst h1;simp_all<;>omega),rfl⟩
 replace h1:=of_decide_eq_true (by simpa using h1)
 refine zD 5<|Ao Tm<|ja ((azh.length:Int)-1) (by omega)<|zD 4<|aE q0 (.tuple ⟨[zI ((azh.length:Int)-1),zI 0]⟩) [] [] [] (Sub.refl _) ⟨_,_,rfl,rfl,by rcases xK with ⟨h1,h2,h3⟩| ⟨h1,h2⟩<;>simp only[uN,uE,h2]<;>(subst h1;simp_all<;>omega),rfl⟩
theorem O0{ro:Nat→Option Obj}(hl:bE ro vl 2 jI rs)(hR:∀r∈rs,rB r)(hq:rs.length≤4)(Dg:rC na)(Av:rC nb):de zT 120 [vl,.string na,.string nb] ro (.tuple ⟨[zI (E5 rs na nb),zI 0]⟩):=by
 obtain⟨fI,rM,rK,eX,rfl,tG,lG,mH⟩:=hl
 refine bA au [] [] a8<|zD 10<|jp (vs:=[.slice fI rs.length eX,.string na,.string nb]) [] [] (fun aB hs hZ=>azG ((show bE _ _ _ _ _ from ⟨fI,rM,rK,eX,rfl,tG,lG,mH⟩).up hs) hR hq Dg Av)<|zD 14<|zJ 17 ((uE rs (keyOf na) (keyOf nb))=11) (fun h1=>?_) fun h1=>?_
 ·
  refine zD 7<|aE q0 (.tuple ⟨[zI 2,zI 0]⟩) [] [] [] (Sub.refl _) ⟨_,_,rfl,rfl,by simp only[uN,uE,E5] at*;rcases huq:uq rs (keyOf na) (keyOf nb) with _|_|n<;>simp_all<;>omega,rfl⟩
 refine zD 7<|js 20 (!decide ((uE rs (keyOf na) (keyOf nb))=0)) (fun h2=>?_) (fun h2=>?_)
 ·
  replace h2:=of_decide_eq_false (by simpa using h2)
  refine zD 8<|aE q0 (.tuple ⟨[zI 0,zI (uE rs (keyOf na) (keyOf nb))]⟩) [] [] [] (Sub.refl _) ⟨_,_,rfl,rfl,by simp only[uN,uE,E5] at*;rcases huq:uq rs (keyOf na) (keyOf nb) with _|_|n<;>simp_all<;>omega,rfl⟩
 replace h2:=of_decide_eq_true (by simpa using h2)
 refine zD 7<|zJ 24 ((uN rs (keyOf na) (keyOf nb))=0) (fun h3=>?_) fun h3=>?_
 ·
  refine zD 7<|aE q0 (.tuple ⟨[zI 1,zI 0]⟩) [] [] [] (Sub.refl _) ⟨_,_,rfl,rfl,by simp only[uN,uE,E5] at*;rcases huq:uq rs (keyOf na) (keyOf nb) with _|_|n<;>simp_all<;>omega,rfl⟩
 refine zD 8<|aE q0 (.tuple ⟨[zI 3,zI 0]⟩) [] [] [] (Sub.refl _) ⟨_,_,rfl,rfl,by simp only[uN,uE,E5] at*;rcases huq:uq rs (keyOf na) (keyOf nb) with _|_|n<;>simp_all<;>omega,rfl⟩
abbrev Rx(x:Int):List Value:=[.int .u8 x]
structure bH where
 c:Nat→Nat→Bool
abbrev Cv(x:bH):List Value:=[.bool (x.c 0 0),.bool (x.c 0 1),.bool (x.c 0 2),.bool (x.c 0 3),.bool (x.c 1 0),.bool (x.c 1 1),.bool (x.c 1 2),.bool (x.c 1 3),.bool (x.c 2 0),.bool (x.c 2 1),.bool (x.c 2 2),.bool (x.c 2 3),.bool (x.c 3 0),.bool (x.c 3 1),.bool (x.c 3 2),.bool (x.c 3 3)]
def mW(cs:List bM):Nat→List Int
 |0=>[]
 |k+1=>mW cs k++[match cs[k]? with
  |some c=>if 0≤c.under then JR .u8 (JR .u8 0 (dv .u8 1 k)) ((mW cs k)[c.under.toNat]?.getD 0) else JR .u8 0 (dv .u8 1 k)
  |none=>0]
theorem oM(cs:List bM):∀k,(mW cs k).length=k
 |0=>rfl
 |k+1=>by simp[mW,oM cs k]
theorem amv{c:bM}{y:Int}(h:cs[k]?=some c) (hu:0≤c.under) (hy:(mW cs k)[c.under.toNat]?=some y):mW cs (k+1)=mW cs k++[JR .u8 (JR .u8 0 (dv .u8 1 k)) y]:=by
 simp only[mW,h,if_pos hu,hy,Option.getD_some]
theorem amw{c:bM}(h:cs[k]?=some c) (hu:¬0≤c.under):mW cs (k+1)=mW cs k++[JR .u8 0 (dv .u8 1 k)]:=by
 simp only[mW,h,if_neg hu]
def adb(s:Int):Nat→Int
 |0=> -1
 |k+1=>bif hasB s k then k else adb s k
def F7(cs:List bM)(a b:Int):Int:=adb (S0 .u8 ((mW cs cs.length)[a.toNat]?.getD 0) ((mW cs cs.length)[b.toNat]?.getD 0)) cs.length
def Xd(hd:List cq)(h:Int):Int:=match hd[h.toNat]? with
 |some x=>x.cls
 |none=>0
def y5(K:aM)(x y:aG):Bool:=decide (E5 K.rules x.name y.name=2)
def uj(K:aM)(x y:aG):Bool:=if (x.head <0∨y.head <0)∨x.head=y.head then false else decide (F7 K.cs (Xd K.hd x.head) (Xd K.hd y.head) <0)
def BA(on:Int)(a b:Int):List fF→Nat→Bool
 | [],_=>false
 |x::l,k=>(((hasB on k&&decide (x.a=a))&&decide (x.b=b))&& !x.same)||BA on a b l (k+1)
def db(K:aM)(on:Int)(a b:Nat):Bool:=match K.before[a]?,K.after[b]? with
 |some x,some y=> !y5 K x y&&(!uj K x y&& !BA on a b K.facts 0)
 |_,_=>false
structure fy(K:aM):Prop where
 rules:K.rules.length≤4∧∀r∈K.rules,rB r
 before:K.before.length≤4∧∀p∈K.before,rC p.name∧nW K.hd p.head
 after:K.after.length≤4∧∀p∈K.after,rC p.name∧nW K.hd p.head
 ee:lA K.cs K.hd
 facts:K.facts.length≤4∧∀x∈K.facts,(0≤x.a∧x.a <K.before.length)∧(0≤x.b∧x.b <K.after.length)
def pd(ro:Nat→Option Obj)(f:Nat)(K:aM)(rows:List bH):Prop:=∃(c0 c1 c2 vc vh vr vb va vf vt:Value) (hv:List bu),
 ro f=some (.cells ⟨[c0,c1,c2,vc,vh,vr,vb,va,zI K.gone,zI K.new,zI K.af,vf,vt]⟩ 128 (0,0))∧jM ro vc vh K.cs hv K.hd∧dj dC hv K.hd∧
 bE ro vr 2 jI K.rules∧bE ro vb 5 fe K.before∧bE ro va 5 fe K.after∧bE ro vf 3 wA K.facts∧bE ro vt 16 Cv rows
theorem pd.up{ro aI:Nat→Option Obj}{rows:List bH}(h:pd ro f K rows)(hs:Sub ro aI):pd aI f K rows:=by
 obtain⟨c0,c1,c2,vc,vh,vr,vb,va,vf,vt,hv,h1,h2,h3,h4,h5,h6,h7,h8⟩:=h
 exact⟨c0,c1,c2,vc,vh,vr,vb,va,vf,vt,hv,hs _ _ h1,h2.up hs,h3,h4.up hs,h5.up hs,h6.up hs,h7.up hs,h8.up hs⟩
theorem aMi{f i:Int}{ro:Nat→Option Obj}(hi:0≤i∧i≤8):de zT 334 [.int .u8 f,zI i] ro (.bool (hasB f i)):=by
 refine bA au [] [] a8<|zD 8<|jsr (k:= .u8) (k':= .i64) (a:=f) (b:=i) 422 (by omega)<|zD 5<|aE q0 (.bool (decide ((S0 .u8 (aR .u8 f i) 1)=1))) [] [] [] (Sub.refl _) ⟨_,_,rfl,rfl,rfl,rfl⟩
theorem axS{f i:Int}{ro:Nat→Option Obj}(hi:0≤i∧i≤8):de zT 335 [.int .u8 f,zI i] ro (.int .u8 (JR .u8 f (dv .u8 1 i))):=by
 refine bA au [] [] a8<|zD 8<|jsh (k:= .u8) (k':= .i64) (a:=1) (b:=i) 422 (by omega)<|zD 4<|aE q0 (.int .u8 (JR .u8 f (dv .u8 1 i))) [] [] [] (Sub.refl _) ⟨_,_,rfl,rfl,rfl,rfl⟩
theorem ap9{hv:List bu}{ro:Nat→Option Obj}(hR:jM ro vc vh cs hv hd)(oF:dj dC hv hd)(hT:lA cs hd):eE zT 333 [.agg ⟨[vc,vh]⟩] ro [] (fun r Y=>∃b vS LS vE,r= .tuple ⟨[zP b,zI 0]⟩∧aA vS 1 422 Rx (mW cs cs.length) LS∧Y=(b,.cells ⟨[vc,vh,vS,vE]⟩ 426 (0,0))::LS):=by
 obtain⟨hc,hh,cY⟩:=id hR
 obtain⟨eL,Bh,Bg,eH,rfl,DO,zb,za⟩:=hc
 obtain⟨dN,u4,u3,dD,rfl,xD,qV,qU⟩:=hh
 have Df:=hT.nc
 have hnh:=hT.nh
 have hlen:=oF.len
 refine bA au [] [] a8<|zD 2<|jn fun b1=>jd 7 [0]<|jp (vs:=[.agg ⟨[.slice eL cs.length eH,.slice dN hv.length dD]⟩]) [] [] (fun aB hs hZ=>(U9 (hR.up hs) oF hT))<|jd 13 [0]<|jn fun fE=>jd 11 [1]<|pE<|dW [1,1,1,0,1,0,0] [] (fun(zz:Nat×Value×Cells)=>[(1,zP b1),(2,.pointer none),(3,zI 0),(5,zP fE),(20,.slice eL cs.length eH),(21,zI (cs.length:Int)),(22,zI (zz.1:Int))]) (fun(zz:Nat×Value×Cells)=>[.l zz.2.2,.b fE (.cells ⟨[.slice eL cs.length eH,.slice dN hv.length dD,zz.2.1,zS]⟩ 426 (0,0)),.b b1 (.cells ⟨[.slice eL cs.length eH,.slice dN hv.length dD]⟩ 35 (0,0))]) (fun(zz:Nat×Value×Cells)=>zz.1≤cs.length∧aA zz.2.1 1 422 Rx (mW cs zz.1) zz.2.2) (fun(zz:Nat×Value×Cells)=>cs.length-zz.1) (⟨0,zS,[]⟩) ⟨by dsimp only;omega,aA.nil _ _ _⟩ [0,1,2] ?_
 rintro⟨k,vS,LS⟩ hI K1 bK rest
 dsimp only at hI
 refine zD 5<|zJ 23 ((k:Int) <(cs.length:Int)) (fun h1=>?_) fun h1=>?_
 ·
  refine zD 7 ?_
  obtain⟨yd,lf⟩:=zG cs k
  refine iK eH 2 zb lf<|jl 0 (za _ _ lf)<|jn fun b7=>jd 4 [0] ?_
  have iM:=hT.cls _ _ lf
  have JV:=oM cs k
  refine zD 2<|jp (vs:=[.int .u8 0,zI (k:Int)]) [] [] (fun aB hs hZ=>(axS (by omega)))<|jd 9 [0]<|zJ 31 (yd.under≥0) (fun h2=>?_) fun h2=>?_
  ·
   refine jd 9 [2,0] ?_
   obtain⟨EA,xG⟩:=zG ((mW cs k)) (yd.under.toNat) (by first|omega| (simp only[List.length_set,List.length_append,List.length_cons,List.length_nil];omega))
   refine qh yd.under 1 hI.2 xG (Int.toNat_of_nonneg (show 0≤yd.under∧yd.under <(((mW cs k)).length:Int) from (by have:=iM.2;simp only[oM];omega)).1).symm (fun b39 aRY=>?_)
   refine oQ 0 [1] LS (fun s _ hZ=>cD hI.2 aRY hZ xG)<|jd 10 [2]<|jn fun b48=>kL (sz:=1) (ps:=(mW cs k)) (qs:=[(JR .u8 (JR .u8 0 (dv .u8 1 (k:Int))) EA)]) (enc:=Rx) (w:= .slice (some ⟨b48,0,none⟩) 1 1) [2] [0] [(b48,.cells ⟨([(JR .u8 (JR .u8 0 (dv .u8 1 (k:Int))) EA)].map Rx).flatten⟩ 422 (0,0))] (hI.2) (fun s _ hZ=>cb [(JR .u8 (JR .u8 0 (dv .u8 1 (k:Int))) EA)] (hZ _ (.head _)) (by intro p hp;rfl)) (fun p _=>ar rfl) (by simp only[oM,List.length_cons,List.length_nil];omega) (fun v49 L49 qn=>?_)
   obtain⟨NH,ND,Mm⟩:=qn.form
   subst Mm
   refine jd 5 [3]<|ja ((k:Int)+1) (by omega)<|zD 2<|bO bK (⟨k+1,(.slice NH (((mW cs k)++[(JR .u8 (JR .u8 0 (dv .u8 1 (k:Int))) EA)])).length ND),L49⟩) ⟨by dsimp only;omega,by rw[amv lf (by omega) xG];exact qn⟩ (by dsimp only;omega) [0,3,4] (Sub.refl _)
  refine jd 9 [2]<|jn fun b48=>kL (sz:=1) (ps:=(mW cs k)) (qs:=[(JR .u8 0 (dv .u8 1 (k:Int)))]) (enc:=Rx) (w:= .slice (some ⟨b48,0,none⟩) 1 1) [2] [0] [(b48,.cells ⟨([(JR .u8 0 (dv .u8 1 (k:Int)))].map Rx).flatten⟩ 422 (0,0))] (hI.2) (fun s _ hZ=>cb [(JR .u8 0 (dv .u8 1 (k:Int)))] (hZ _ (.head _)) (by intro p hp;rfl)) (fun p _=>ar rfl) (by simp only[oM,List.length_cons,List.length_nil];omega) (fun v49 L49 qn=>?_)
  obtain⟨NH,ND,Mm⟩:=qn.form
  subst Mm
  refine jd 5 [3]<|ja ((k:Int)+1) (by omega)<|zD 2<|bO bK (⟨k+1,(.slice NH (((mW cs k)++[(JR .u8 0 (dv .u8 1 (k:Int)))])).length ND),L49⟩) ⟨by dsimp only;omega,by rw[amw lf (by omega)];exact qn⟩ (by dsimp only;omega) [0,3,4] (Sub.refl _)
 refine jd 11 [2]<|pE<|dW [1,1,1,1,0,1,0,0] [] (fun(zz:Nat×Value×Cells×(List Value))=>[(2,.pointer none),(3,zI 0),(5,zP fE),(54,.slice dN hv.length dD),(55,zI (hv.length:Int)),(56,zI (zz.1:Int))]) (fun(zz:Nat×Value×Cells×(List Value))=>[.l zz.2.2.1,.b fE (.cells ⟨[.slice eL cs.length eH,.slice dN hv.length dD,vS,zz.2.1]⟩ 426 (0,0)),.l LS,.b b1 (.cells ⟨[.slice eL cs.length eH,.slice dN hv.length dD]⟩ 35 (0,0))]) (fun(zz:Nat×Value×Cells×(List Value))=>(zz.1≤hv.length∧zz.2.2.2.length≤zz.1)∧aA zz.2.1 1 436 ir zz.2.2.2 zz.2.2.1) (fun(zz:Nat×Value×Cells×(List Value))=>hv.length-zz.1) (⟨0,zS,[],[]⟩) ⟨⟨by omega,Nat.le_refl _⟩,aA.nil _ _ _⟩ [0,2,1,3] ?_
 rintro⟨j,vE,LE,es⟩ hJ K2 lg rest
 dsimp only at hJ
 refine zD 5<|zJ 57 ((j:Int) <(hv.length:Int)) (fun h3=>?_) fun h3=>?_
 ·
  refine zD 6 ?_
  obtain⟨E3,alb⟩:=zG hv j
  refine iK dD 4 qV alb<|jl 0 (qU _ _ alb)<|jn fun lP=>jsx 0 lP 0 [.string ByteArray.empty,zI 0,zI 0,zS] [.string E3.word,zI E3.cls,zI E3.ou,E3.dX] 143 (mP cY _ (List.mem_of_getElem? alb)) rfl<|zD 3 ?_
  obtain⟨y58,bdd,aPE⟩:=cY.get alb
  obtain⟨fI,rM,rK,eX,hqe,tG,lG,mH⟩:=aPE.2.2.2
  refine jmw 0 [.b lP (.cells ⟨[.string E3.word,zI E3.cls,zI E3.ou,.slice fI y58.dX.length eX]⟩ 143 (0,0))] (L:=[(lP,.cells ⟨[.string E3.word,zI E3.cls,zI E3.ou,E3.dX]⟩ 143 (0,0))]) (by rw[hqe];rfl) ?_
  refine jd 6 [0]<|js 73 (!decide (E3.ou=(-1))) (fun h4=>?_) (fun h4=>?_)
  ·
   replace h4:=of_decide_eq_false (by simpa using h4)
   refine jd 11 [2,0]<|aO 9 fun tv tx rY=>jn fun b86=>bI rY [1,2,3,4,5]<|aO 10 fun uM uO sR=>kL (sz:=1) (ps:=es) (qs:=[(.iface 429 (.agg ⟨[zI E3.ou]⟩):Value)]) (enc:=ir) (w:= .slice (some ⟨b86,0,none⟩) 1 1) [2] [0] [(b86,.cells ⟨([(.iface 429 (.agg ⟨[zI E3.ou]⟩):Value)].map ir).flatten⟩ 436 (0,0))] (hJ.2) (fun s _ hZ=>cb [(.iface 429 (.agg ⟨[zI E3.ou]⟩):Value)] (hZ _ (.head _)) (by intro p hp;rfl)) (by intro p hp;rw[List.mem_singleton] at hp;subst hp;exact ar rfl) (by simp only[List.length_cons,List.length_nil];omega) (fun v87 L87 aet=>?_)
   obtain⟨aKD,aKe,aQ2⟩:=aet.form
   subst aQ2
   refine jA sR [[2]]<|zD 2<|aO 13 fun Dx DG Ef=>jd 1 [3]<|jA Ef []<|zD 2<|ja ((j:Int)+1) (by omega)<|zD 2<|bO lg (⟨j+1,(.slice aKD ((es++[(.iface 429 (.agg ⟨[zI E3.ou]⟩):Value)])).length aKe),L87,(es++[(.iface 429 (.agg ⟨[zI E3.ou]⟩):Value)])⟩) ⟨⟨by dsimp only;omega,by simp only[List.length_append,List.length_cons,List.length_nil];omega⟩,aet⟩ (by dsimp only;omega) [0,3,4,5] (Sub.refl _)
  replace h4:=of_decide_eq_true (by simpa using h4)
  refine jd 8 [0]<|js 90 (!decide (E3.cls=(-1))) (fun h8=>?_) (fun h8=>?_)
  ·
   replace h8:=of_decide_eq_false (by simpa using h8)
   refine jd 13 [2,0,0]<|aO 11 fun ai1 ajp hL6=>jn fun aGo=>bI hL6 [1,2,3,4,5]<|aO 12 fun ai0 ajo TO=>kL (sz:=1) (ps:=es) (qs:=[(.iface 431 (.agg ⟨[zI E3.cls,.slice fI y58.dX.length eX]⟩):Value)]) (enc:=ir) (w:= .slice (some ⟨aGo,0,none⟩) 1 1) [2] [0] [(aGo,.cells ⟨([(.iface 431 (.agg ⟨[zI E3.cls,.slice fI y58.dX.length eX]⟩):Value)].map ir).flatten⟩ 436 (0,0))] (hJ.2) (fun s _ hZ=>cb [(.iface 431 (.agg ⟨[zI E3.cls,.slice fI y58.dX.length eX]⟩):Value)] (hZ _ (.head _)) (by intro p hp;rfl)) (by intro p hp;rw[List.mem_singleton] at hp;subst hp;exact ar rfl) (by simp only[List.length_cons,List.length_nil];omega) (fun ba8 aVk Wv=>?_)
   obtain⟨axk,axd,aB5⟩:=Wv.form
   subst aB5
   refine jA TO [[2],[2]]<|zD 2<|aO 15 fun aaG abk hL8=>jd 1 [3]<|jA hL8 []<|zD 2<|ja ((j:Int)+1) (by omega)<|zD 2<|bO lg (⟨j+1,(.slice axk ((es++[(.iface 431 (.agg ⟨[zI E3.cls,.slice fI y58.dX.length eX]⟩):Value)])).length axd),aVk,(es++[(.iface 431 (.agg ⟨[zI E3.cls,.slice fI y58.dX.length eX]⟩):Value)])⟩) ⟨⟨by dsimp only;omega,by simp only[List.length_append,List.length_cons,List.length_nil];omega⟩,Wv⟩ (by dsimp only;omega) [0,3,4,5] (Sub.refl _)
  replace h8:=of_decide_eq_true (by simpa using h8)
  refine jd 11 [2,0]<|aO 9 fun aaF abj Zo=>jn fun b69=>bI Zo [1,2,3,4,5]<|aO 10 fun IN IV yS=>kL (sz:=1) (ps:=es) (qs:=[(.iface 433 (.agg ⟨[.slice fI y58.dX.length eX]⟩):Value)]) (enc:=ir) (w:= .slice (some ⟨b69,0,none⟩) 1 1) [2] [0] [(b69,.cells ⟨([(.iface 433 (.agg ⟨[.slice fI y58.dX.length eX]⟩):Value)].map ir).flatten⟩ 436 (0,0))] (hJ.2) (fun s _ hZ=>cb [(.iface 433 (.agg ⟨[.slice fI y58.dX.length eX]⟩):Value)] (hZ _ (.head _)) (by intro p hp;rfl)) (by intro p hp;rw[List.mem_singleton] at hp;subst hp;exact ar rfl) (by simp only[List.length_cons,List.length_nil];omega) (fun v70 L70 aev=>?_)
  obtain⟨aKG,aKh,aQ5⟩:=aev.form
  subst aQ5
  refine jA yS [[2]]<|zD 2<|aO 13 fun Nv NR GH=>jd 1 [3]<|jA GH []<|zD 2<|ja ((j:Int)+1) (by omega)<|zD 2<|bO lg (⟨j+1,(.slice aKG ((es++[(.iface 433 (.agg ⟨[.slice fI y58.dX.length eX]⟩):Value)])).length aKh),L70,(es++[(.iface 433 (.agg ⟨[.slice fI y58.dX.length eX]⟩):Value)])⟩) ⟨⟨by dsimp only;omega,by simp only[List.length_append,List.length_cons,List.length_nil];omega⟩,aev⟩ (by dsimp only;omega) [0,3,4,5] (Sub.refl _)
 refine zD 9<|aE q0 (.tuple ⟨[zP fE,zI 0]⟩) [] [1,2] ((fE,.cells ⟨[.slice eL cs.length eH,.slice dN hv.length dD,vS,vE]⟩ 426 (0,0))::LS) (Sub.refl _) ⟨_,_,rfl,rfl,_,_,LS,_,rfl,by have:=hI.2;rwa[show k=cs.length by omega] at this,rfl⟩
theorem VW{s:Int}{j:Int}(h:0≤j):adb s (j+1).toNat=bif hasB s j then j else adb s j.toNat:=by
 obtain⟨m,rfl⟩:=Int.eq_ofNat_of_zero_le h
 rfl
theorem Vi{on a b:Int}{x:fF}(h:l[k]?=some x):BA on a b (l.drop k) k=((((hasB on k&&decide (x.a=a))&&decide (x.b=b))&& !x.same)||BA on a b (l.drop (k+1)) (k+1)):=by rw[fN h];rfl
theorem abM{on a b:Int}(h:¬k <l.length):BA on a b (l.drop k) k=false:=by rw[eA h];rfl
theorem WH{hv:List bu}{h:Int}{x:bu}(hS:dj dC hv hd)(hT:lA cs hd)(hk:nW hd h)(h0:0≤h)(hx:hv[h.toNat]?=some x):Xd hd h=x.cls∧0≤x.cls∧x.cls <cs.length:=by
 obtain⟨y,hy,hs⟩:=hS.get hx
 rcases hk with rfl| ⟨_,z,hz,hc⟩
 ·omega
 rw[hy] at hz;cases hz
 have:=(hT.Ay _ _ hy).2.1
 exact⟨by simp[Xd,hy,hs.2.1],hs.2.1▸hc,by rw[hs.2.1];exact this.2⟩
theorem WG{hv:List bu}{h:Int}(hS:dj dC hv hd)(hk:nW hd h)(h0:0≤h):h <hv.length:=by
 rcases hk with rfl| ⟨_,z,hz,_⟩
 ·omega
 have:=(List.getElem?_eq_some_iff.1 hz).1
 rw[hS.len];omega
theorem ap0{hv:List bu}{a b:Int}{ro:Nat→Option Obj}(hR:jM ro vc vh cs hv hd)(oF:dj dC hv hd)(hT:lA cs hd)(ha:0≤a∧a <cs.length)(hb:0≤b∧b <cs.length):de zT 332 [.agg ⟨[vc,vh]⟩,zI a,zI b] ro (.tuple ⟨[zI (F7 cs a b),zI 0]⟩):=by
 obtain⟨hc,hh,cY⟩:=id hR
 obtain⟨eL,Bh,Bg,eH,rfl,DO,zb,za⟩:=hc
 obtain⟨dN,u4,u3,dD,rfl,xD,qV,qU⟩:=hh
 have Df:=hT.nc
 have hnh:=hT.nh
 have hlen:=oF.len
 have JV:=oM cs cs.length
 refine bA au [] [] a8<|zD 2<|jn fun b3=>jd 6 [0]<|jc (vs:=[.agg ⟨[.slice eL cs.length eH,.slice dN hv.length dD]⟩]) [] (ap9 hR oF hT) ?_
 rintro _ _ ⟨bT,vS,LS,vE,rfl,hS,rfl⟩
 refine jg 0 [.b bT (.cells ⟨[.slice eL cs.length eH,.slice dN hv.length dD,vS,vE]⟩ 426 (0,0)),.l LS]<|zD 5<|jf [0,1] ((bT,.cells ⟨[.slice eL cs.length eH,.slice dN hv.length dD,vS,vE]⟩ 426 (0,0))::LS) (fun yp bW iL=>?_)
 have hSS:=hS.lR iL.tail
 obtain⟨ayP,bbT,bbR,ajP,rfl,bbS,ayO,ayN⟩:=hSS
 refine jd 17 [0]<|ja ((cs.length:Int)-1) (by omega)<|jp (vs:=[zI a,zI 0,zI ((cs.length:Int)-1)]) [] [] (fun aB hs hZ=>jb)<|zD 3<|js 20 (!(iu a 0 ((cs.length:Int)-1))) (fun h4=>?_) (fun h4=>?_)
 ·
  try simp only[zB] at h4
  exfalso;simp only[iu,Bool.not_eq_true',Bool.and_eq_false_iff,decide_eq_false_iff_not] at h4;omega
 try simp only[zB] at h4
 refine jd 6 [0]<|ja ((cs.length:Int)-1) (by omega)<|jp (vs:=[zI b,zI 0,zI ((cs.length:Int)-1)]) [] [] (fun aB hs hZ=>jb)<|zD 3<|js 20 (!(iu b 0 ((cs.length:Int)-1))) (fun h5=>?_) (fun h5=>?_)
 ·
  try simp only[zB] at h5
  exfalso;simp only[iu,Bool.not_eq_true',Bool.and_eq_false_iff,decide_eq_false_iff_not] at h5;omega
 try simp only[zB] at h5
 refine jd 8 [0]<|ja ((cs.length:Int)-1) (by omega)<|zD 3<|dW [1,1,1,0,1,0,0] [] (fun(zz:Int)=>[(1,zI a),(2,zI b),(8,zP bT),(10,zI zz)]) (fun(zz:Int)=>[.b b3 (.cells ⟨[.slice eL cs.length eH,.slice dN hv.length dD]⟩ 35 (0,0))]) (fun(zz:Int)=>(-1≤zz∧zz <cs.length)∧F7 cs a b=adb (S0 .u8 ((mW cs cs.length)[a.toNat]?.getD 0) ((mW cs cs.length)[b.toNat]?.getD 0)) (zz+1).toNat) (fun(zz:Int)=>(zz+1).toNat) ((cs.length:Int)-1) ⟨by omega,by rw[F7,show ((cs.length:Int)-1+1).toNat=cs.length by omega]⟩ [0] ?_
 rintro j hI K1 bK rest
 refine zD 6<|zJ 40 (j≥0) (fun h6=>?_) fun h6=>?_
 ·
  refine zD 9<|jl (b:=bT) (off:=0) (m:=4) (vs:=[.slice eL cs.length eH,.slice dN hv.length dD,.slice ayP ((mW cs cs.length).length) ajP,vE]) 2 ⟨_,_,_,.inl (iL _ (.head _)),rfl⟩<|zD 1 ?_
  obtain⟨x48,Gi⟩:=zG ((mW cs cs.length)) (a.toNat) (by simp only[oM];omega)
  refine Nk a ajP 1 ayO Gi (Int.toNat_of_nonneg (show 0≤a∧a <(((mW cs cs.length)).length:Int) from (by simp only[oM];omega)).1).symm ?_
  refine jl 0 (ayN _ _ Gi)<|zD 3<|jl (b:=bT) (off:=0) (m:=4) (vs:=[.slice eL cs.length eH,.slice dN hv.length dD,.slice ayP ((mW cs cs.length).length) ajP,vE]) 2 ⟨_,_,_,.inl (iL _ (.head _)),rfl⟩<|zD 1 ?_
  obtain⟨x55,alc⟩:=zG ((mW cs cs.length)) (b.toNat)
  refine Nk b ajP 1 ayO alc (by omega)<|jl 0 (ayN _ _ alc)<|zD 2<|jp (vs:=[.int .u8 (S0 .u8 x48 x55),zI j]) [] [] (fun aB hs hZ=>(aMi (by omega)))<|zD 1<|js 59 (hasB (S0 .u8 x48 x55) j) (fun h7=>?_) (fun h7=>?_)
  ·
   refine zD 8<|aE q0.a (.tuple ⟨[zI j,zI 0]⟩) [] [] [] bW ⟨_,_,rfl,rfl,by rw[hI.2,VW (by omega),Gi,alc,Option.getD_some,Option.getD_some,show hasB _ _=true from (by assumption)];rfl,rfl⟩
  refine zD 4<|ja (j-1) (by omega)<|zD 2<|bO bK (j-1) ⟨by omega,by rw[hI.2,VW (by omega),Gi,alc,Option.getD_some,Option.getD_some,show hasB _ _=false from (by assumption),show j-1+1=j by omega];rfl⟩ (by omega) [0] (Sub.refl _)
 refine zD 8<|aE q0.a (.tuple ⟨[zI (-1),zI 0]⟩) [] [] [] bW ⟨_,_,rfl,rfl,by rw[hI.2,show j= -1 by omega];rfl,rfl⟩
theorem az2{ro:Nat→Option Obj}:de zT 163 [] ro (.agg ⟨[.iface 292 (.agg ⟨[]⟩),.iface 293 (.agg ⟨[]⟩),.iface 294 (.agg ⟨[]⟩)]⟩):=by
 refine bA au [] [] a8<|zD 2<|jn fun b0=>jd 13 [0]<|aE q0 (.agg ⟨[.iface 292 (.agg ⟨[]⟩),.iface 293 (.agg ⟨[]⟩),.iface 294 (.agg ⟨[]⟩)]⟩) [0] [] [] (Sub.refl _) ⟨_,_,rfl,rfl,rfl,rfl⟩
theorem arv{rows:List bH}{a:Nat}{on:Int}{ro:Nat→Option Obj}(hF:pd ro f K rows)(hV:fy K)(ha:K.before[a]?=some x) (hb:K.after[b]?=some y):de zT 328 [.agg ⟨[]⟩,zP f,zI (a:Int),zI (b:Int),.int .u8 on] ro (.bool (y5 K x y)):=by
 obtain⟨c0,c1,c2,vc,vh,vr,vb,va,vf,vt,hv,hf,rh,oF,hr,Ci,GD,Ix,bS⟩:=id hF
 obtain⟨hc,hh,cY⟩:=id rh
 obtain⟨eL,Bh,Bg,eH,rfl,DO,zb,za⟩:=hc
 obtain⟨dN,u4,u3,dD,rfl,xD,qV,qU⟩:=hh
 obtain⟨mj,Ld,Lc,mi,rfl,Om,Jh,Jg⟩:=hr
 obtain⟨kB,Ia,H8,jR,rfl,H9,DT,DR⟩:=Ci
 obtain⟨kD,Ie,Ib,jT,rfl,Ic,DV,DU⟩:=GD
 obtain⟨mo,SA,Sx,k8,rfl,Sz,Lf,Le⟩:=Ix
 obtain⟨nF,DM,DL,ng,rfl,Oj,La,K0⟩:=bS
 have Rj:=hV.rules.1
 have Av:=hV.before.1
 have Dg:=hV.after.1
 have hnf:=hV.facts.1
 have J2:=(List.getElem?_eq_some_iff.1 ha).1
 have Rt:=(List.getElem?_eq_some_iff.1 hb).1
 refine bA au [] [] a8<|zD 2<|jn fun b5=>zD 8<|jl (b:=f) (off:=0) (m:=13) (vs:=[c0,c1,c2,.slice eL K.cs.length eH,.slice dN hv.length dD,.slice mj K.rules.length mi,.slice kB K.before.length jR,.slice kD K.after.length jT,zI K.gone,zI K.new,zI K.af,.slice mo K.facts.length k8,.slice nF rows.length ng]) 5 ⟨_,_,_,.inl hf,rfl⟩<|zD 4<|jl (b:=f) (off:=0) (m:=13) (vs:=[c0,c1,c2,.slice eL K.cs.length eH,.slice dN hv.length dD,.slice mj K.rules.length mi,.slice kB K.before.length jR,.slice kD K.after.length jT,zI K.gone,zI K.new,zI K.af,.slice mo K.facts.length k8,.slice nF rows.length ng]) 6 ⟨_,_,_,.inl hf,rfl⟩<|zD 1 ?_
 obtain⟨yd,lf⟩:=zG K.before a
 refine iK jR 5 DT lf<|zD 1<|jl 0 (DR _ _ lf)<|zD 4<|jl (b:=f) (off:=0) (m:=13) (vs:=[c0,c1,c2,.slice eL K.cs.length eH,.slice dN hv.length dD,.slice mj K.rules.length mi,.slice kB K.before.length jR,.slice kD K.after.length jT,zI K.gone,zI K.new,zI K.af,.slice mo K.facts.length k8,.slice nF rows.length ng]) 7 ⟨_,_,_,.inl hf,rfl⟩<|zD 1 ?_
 obtain⟨XG,Mf⟩:=zG K.after b
 refine iK jT 5 DV Mf<|zD 1<|jl 0 (DU _ _ Mf)<|jp (vs:=[.slice mj K.rules.length mi,.string yd.name,.string XG.name]) [] [] (fun aB hs hZ=>O0 ((show bE _ _ _ _ _ from ⟨mj,Ld,Lc,mi,rfl,Om,Jh,Jg⟩).up hs) hV.rules.2 Rj (hV.before.2 _ (List.mem_of_getElem? lf)).1 (hV.after.2 _ (List.mem_of_getElem? Mf)).1)<|zD 9<|jp (vs:=[zI 0]) [] [] (fun aB hs hZ=>An)<|zD 8<|aE q0 (.bool (decide ((E5 K.rules yd.name XG.name)=2))) [] [] [] (Sub.refl _) ⟨_,_,rfl,rfl,by rw[ha] at lf;cases lf;rw[hb] at Mf;cases Mf;rfl,rfl⟩
theorem adS{rows:List bH}{a:Nat}{on:Int}{ro:Nat→Option Obj}(hF:pd ro f K rows)(hV:fy K)(ha:K.before[a]?=some x) (hb:K.after[b]?=some y):de zT 330 [.agg ⟨[]⟩,zP f,zI (a:Int),zI (b:Int),.int .u8 on] ro (.bool (uj K x y)):=by
 obtain⟨c0,c1,c2,vc,vh,vr,vb,va,vf,vt,hv,hf,rh,oF,hr,Ci,GD,Ix,bS⟩:=id hF
 obtain⟨hc,hh,cY⟩:=id rh
 obtain⟨eL,Bh,Bg,eH,rfl,DO,zb,za⟩:=hc
 obtain⟨dN,u4,u3,dD,rfl,xD,qV,qU⟩:=hh
 obtain⟨mj,Ld,Lc,mi,rfl,Om,Jh,Jg⟩:=hr
 obtain⟨kB,Ia,H8,jR,rfl,H9,DT,DR⟩:=Ci
 obtain⟨kD,Ie,Ib,jT,rfl,Ic,DV,DU⟩:=GD
 obtain⟨mo,SA,Sx,k8,rfl,Sz,Lf,Le⟩:=Ix
 obtain⟨nF,DM,DL,ng,rfl,Oj,La,K0⟩:=bS
 have Rj:=hV.rules.1
 have Av:=hV.before.1
 have Dg:=hV.after.1
 have hnf:=hV.facts.1
 have J2:=(List.getElem?_eq_some_iff.1 ha).1
 have Rt:=(List.getElem?_eq_some_iff.1 hb).1
 refine bA au [] [] a8<|zD 2<|jn fun b5=>zD 8<|jl (b:=f) (off:=0) (m:=13) (vs:=[c0,c1,c2,.slice eL K.cs.length eH,.slice dN hv.length dD,.slice mj K.rules.length mi,.slice kB K.before.length jR,.slice kD K.after.length jT,zI K.gone,zI K.new,zI K.af,.slice mo K.facts.length k8,.slice nF rows.length ng]) 6 ⟨_,_,_,.inl hf,rfl⟩<|zD 1 ?_
 obtain⟨ye,qj⟩:=zG K.before a
 refine iK jR 5 DT qj<|zD 1<|jl 3 (DR _ _ qj)<|zD 4<|jl (b:=f) (off:=0) (m:=13) (vs:=[c0,c1,c2,.slice eL K.cs.length eH,.slice dN hv.length dD,.slice mj K.rules.length mi,.slice kB K.before.length jR,.slice kD K.after.length jT,zI K.gone,zI K.new,zI K.af,.slice mo K.facts.length k8,.slice nF rows.length ng]) 7 ⟨_,_,_,.inl hf,rfl⟩<|zD 1 ?_
 obtain⟨oP,ki⟩:=zG K.after b
 refine iK jT 5 DV ki<|zD 1<|jl 3 (DU _ _ ki)<|zD 9<|jj 3 [(1,zP f),(10,.bool false),(11,zI ye.head),(12,zI oP.head),(38,.bool ((decide (ye.head <0))||(decide (oP.head <0))))] (fun gT=>?_) (fun hj=>?_)
 rotate_left
 refine js 35 (decide (ye.head <0)) (fun h1=>?_) (fun h1=>?_)
 ·
  have gx:=h1
  replace gx:=of_decide_eq_true gx
  refine zD 3<|jw 38 (.bool ((decide (ye.head <0))||(decide (oP.head <0)))) (w:= .bool true) (by rw[h1]<;>rfl) ?_
  exact hj _ (by kernel_rfl) (by kernel_rfl)
 ·
  have gx:=h1
  replace gx:=of_decide_eq_false gx
  refine zD 3<|jw 38 (.bool ((decide (ye.head <0))||(decide (oP.head <0)))) (w:= .bool (decide (oP.head <0))) (by rw[h1]<;>rfl) ?_
  exact hj _ (by kernel_rfl) (by kernel_rfl)
 refine zD 1<|jj 4 [(1,zP f),(10,.bool false),(11,zI ye.head),(12,zI oP.head),(43,.bool (((decide (ye.head <0))||(decide (oP.head <0)))||(decide (ye.head=oP.head))))] (fun gT=>?_) (fun hj=>?_)
 rotate_left
 refine js 39 ((decide (ye.head <0))||(decide (oP.head <0))) (fun h2=>?_) (fun h2=>?_)
 ·
  have my:=h2
  try simp only[zB] at my
  refine zD 4<|jw 43 (.bool (((decide (ye.head <0))||(decide (oP.head <0)))||(decide (ye.head=oP.head)))) (w:= .bool true) (by rw[h2]<;>rfl) ?_
  exact hj _ (by kernel_rfl) (by kernel_rfl)
 ·
  have my:=h2
  try simp only[zB] at my
  refine zD 4<|jw 43 (.bool (((decide (ye.head <0))||(decide (oP.head <0)))||(decide (ye.head=oP.head)))) (w:= .bool (decide (ye.head=oP.head))) (by rw[h2]<;>rfl) ?_
  exact hj _ (by kernel_rfl) (by kernel_rfl)
 refine zD 1<|js 43 (((decide (ye.head <0))||(decide (oP.head <0)))||(decide (ye.head=oP.head))) (fun h3=>?_) (fun h3=>?_)
 ·
  try simp only[zB] at h3
  refine zD 6<|aE q0 (.bool false) [] [] [] (Sub.refl _) ⟨_,_,rfl,rfl,by rw[ha] at qj;cases qj;rw[hb] at ki;cases ki;rw[uj,if_pos (by omega)],rfl⟩
 try simp only[zB] at h3
 refine zD 8<|jl (b:=f) (off:=0) (m:=13) (vs:=[c0,c1,c2,.slice eL K.cs.length eH,.slice dN hv.length dD,.slice mj K.rules.length mi,.slice kB K.before.length jR,.slice kD K.after.length jT,zI K.gone,zI K.new,zI K.af,.slice mo K.facts.length k8,.slice nF rows.length ng]) 3 ⟨_,_,_,.inl hf,rfl⟩<|zD 5<|jl (b:=f) (off:=0) (m:=13) (vs:=[c0,c1,c2,.slice eL K.cs.length eH,.slice dN hv.length dD,.slice mj K.rules.length mi,.slice kB K.before.length jR,.slice kD K.after.length jT,zI K.gone,zI K.new,zI K.af,.slice mo K.facts.length k8,.slice nF rows.length ng]) 4 ⟨_,_,_,.inl hf,rfl⟩<|zD 1 ?_
 obtain⟨x57,D6⟩:=zG hv (ye.head.toNat) (by have:=WG oF (hV.before.2 _ (List.mem_of_getElem? qj)).2 (by omega);omega)
 refine Nk ye.head dD 4 qV D6 (Int.toNat_of_nonneg (show 0≤ye.head∧ye.head <((hv).length:Int) from (by have:=WG oF (hV.before.2 _ (List.mem_of_getElem? qj)).2 (by omega);omega)).1).symm ?_
 refine zD 1<|jl 1 (qU _ _ D6)<|zD 5<|jl (b:=f) (off:=0) (m:=13) (vs:=[c0,c1,c2,.slice eL K.cs.length eH,.slice dN hv.length dD,.slice mj K.rules.length mi,.slice kB K.before.length jR,.slice kD K.after.length jT,zI K.gone,zI K.new,zI K.af,.slice mo K.facts.length k8,.slice nF rows.length ng]) 4 ⟨_,_,_,.inl hf,rfl⟩<|zD 1 ?_
 obtain⟨x67,ala⟩:=zG hv (oP.head.toNat) (by have:=WG oF (hV.after.2 _ (List.mem_of_getElem? ki)).2 (by omega);omega)
 refine Nk oP.head dD 4 qV ala (Int.toNat_of_nonneg (show 0≤oP.head∧oP.head <((hv).length:Int) from (by have:=WG oF (hV.after.2 _ (List.mem_of_getElem? ki)).2 (by omega);omega)).1).symm ?_
 refine zD 1<|jl 1 (qU _ _ ala)<|jp (vs:=[.agg ⟨[.slice eL K.cs.length eH,.slice dN hv.length dD]⟩,zI x57.cls,zI x67.cls]) [] [] (fun aB hs hZ=>ap0 (rh.up hs) oF hV.ee (WH oF hV.ee (hV.before.2 _ (List.mem_of_getElem? qj)).2 (by omega) D6).2 (WH oF hV.ee (hV.after.2 _ (List.mem_of_getElem? ki)).2 (by omega) ala).2)<|zD 9<|jp (vs:=[zI 0]) [] [] (fun aB hs hZ=>An)<|zD 8<|aE q0 (.bool (decide ((F7 K.cs x57.cls x67.cls) <0))) [] [] [] (Sub.refl _) ⟨_,_,rfl,rfl,by rw[ha] at qj;cases qj;rw[hb] at ki;cases ki;rw[uj,if_neg (by omega),(WH oF hV.ee (hV.before.2 _ (List.mem_of_getElem? ha)).2 (by omega) D6).1,(WH oF hV.ee (hV.after.2 _ (List.mem_of_getElem? hb)).2 (by omega) ala).1],rfl⟩
theorem akD{rows:List bH}{a:Nat}{on:Int}{ro:Nat→Option Obj}(hF:pd ro f K rows)(hV:fy K):de zT 336 [.agg ⟨[]⟩,zP f,zI (a:Int),zI (b:Int),.int .u8 on] ro (.bool (BA on a b K.facts 0)):=by
 obtain⟨c0,c1,c2,vc,vh,vr,vb,va,vf,vt,hv,hf,rh,oF,hr,Ci,GD,Ix,bS⟩:=id hF
 obtain⟨hc,hh,cY⟩:=id rh
 obtain⟨eL,Bh,Bg,eH,rfl,DO,zb,za⟩:=hc
 obtain⟨dN,u4,u3,dD,rfl,xD,qV,qU⟩:=hh
 obtain⟨mj,Ld,Lc,mi,rfl,Om,Jh,Jg⟩:=hr
 obtain⟨kB,Ia,H8,jR,rfl,H9,DT,DR⟩:=Ci
 obtain⟨kD,Ie,Ib,jT,rfl,Ic,DV,DU⟩:=GD
 obtain⟨mo,SA,Sx,k8,rfl,Sz,Lf,Le⟩:=Ix
 obtain⟨nF,DM,DL,ng,rfl,Oj,La,K0⟩:=bS
 have Rj:=hV.rules.1
 have Av:=hV.before.1
 have Dg:=hV.after.1
 have hnf:=hV.facts.1
 refine bA au [] [] a8<|zD 2<|jn fun b5=>zD 9<|jl (b:=f) (off:=0) (m:=13) (vs:=[c0,c1,c2,.slice eL K.cs.length eH,.slice dN hv.length dD,.slice mj K.rules.length mi,.slice kB K.before.length jR,.slice kD K.after.length jT,zI K.gone,zI K.new,zI K.af,.slice mo K.facts.length k8,.slice nF rows.length ng]) 11 ⟨_,_,_,.inl hf,rfl⟩<|zD 4<|dW [1,0,1,0,0] [] (fun(zz:Nat)=>[(2,zI (a:Int)),(3,zI (b:Int)),(4,.int .u8 on),(17,.slice mo K.facts.length k8),(18,zI (K.facts.length:Int)),(19,zI (zz:Int))]) (fun(zz:Nat)=>[]) (fun(zz:Nat)=>zz≤K.facts.length∧BA on a b K.facts 0=BA on a b (K.facts.drop zz) zz) (fun(zz:Nat)=>K.facts.length-zz) 0 ⟨by omega,rfl⟩ [] ?_
 rintro k hI K1 bK rest
 refine zD 5<|zJ 20 ((k:Int) <(K.facts.length:Int)) (fun h1=>?_) fun h1=>?_
 ·
  refine zD 7 ?_
  obtain⟨r8,tU⟩:=zG K.facts k
  refine iK k8 3 Lf tU<|jl 0 (Le _ _ tU)<|jn fun jJ=>jd 7 [0]<|jp (vs:=[.int .u8 on,zI (k:Int)]) [] [] (fun aB hs hZ=>(arO (by omega)))<|zD 1<|jj 5 [(2,zI (a:Int)),(3,zI (b:Int)),(4,.int .u8 on),(12,zP jJ),(17,.slice mo K.facts.length k8),(18,zI (K.facts.length:Int)),(19,zI (k:Int)),(32,.bool ((hasB on (k:Int))&&(decide (r8.a=(a:Int)))))] (fun gT=>?_) (fun hj=>?_)
  rotate_left
  refine js 27 (hasB on (k:Int)) (fun h2=>?_) (fun h2=>?_)
  ·
   refine jd 5 [0]<|jw 32 (.bool ((hasB on (k:Int))&&(decide (r8.a=(a:Int))))) (w:= .bool (decide (r8.a=(a:Int)))) (by rw[h2]<;>rfl) ?_
   exact hj _ (by kernel_rfl) (by kernel_rfl)
  ·
   refine zD 5<|jw 32 (.bool ((hasB on (k:Int))&&(decide (r8.a=(a:Int))))) (w:= .bool false) (by rw[h2]<;>rfl) ?_
   exact hj _ (by kernel_rfl) (by kernel_rfl)
  refine zD 1<|jj 5 [(2,zI (a:Int)),(3,zI (b:Int)),(4,.int .u8 on),(12,zP jJ),(17,.slice mo K.facts.length k8),(18,zI (K.facts.length:Int)),(19,zI (k:Int)),(38,.bool (((hasB on (k:Int))&&(decide (r8.a=(a:Int))))&&(decide (r8.b=(b:Int)))))] (fun gT=>?_) (fun hj=>?_)
  rotate_left
  refine js 33 ((hasB on (k:Int))&&(decide (r8.a=(a:Int)))) (fun h3=>?_) (fun h3=>?_)
  ·
   have v9:=h3
   try simp only[zB] at v9
   refine jd 5 [0]<|jw 38 (.bool (((hasB on (k:Int))&&(decide (r8.a=(a:Int))))&&(decide (r8.b=(b:Int))))) (w:= .bool (decide (r8.b=(b:Int)))) (by rw[h3]<;>rfl) ?_
   exact hj _ (by kernel_rfl) (by kernel_rfl)
  ·
   have v9:=h3
   try simp only[zB] at v9
   refine zD 5<|jw 38 (.bool (((hasB on (k:Int))&&(decide (r8.a=(a:Int))))&&(decide (r8.b=(b:Int))))) (w:= .bool false) (by rw[h3]<;>rfl) ?_
   exact hj _ (by kernel_rfl) (by kernel_rfl)
  refine zD 1<|jj 4 [(2,zI (a:Int)),(3,zI (b:Int)),(4,.int .u8 on),(17,.slice mo K.facts.length k8),(18,zI (K.facts.length:Int)),(19,zI (k:Int)),(43,.bool ((((hasB on (k:Int))&&(decide (r8.a=(a:Int))))&&(decide (r8.b=(b:Int))))&&(!r8.same)))] (fun gT=>?_) (fun hj=>?_)
  rotate_left
  refine js 39 (((hasB on (k:Int))&&(decide (r8.a=(a:Int))))&&(decide (r8.b=(b:Int)))) (fun h4=>?_) (fun h4=>?_)
  ·
   have xV:=h4
   try simp only[zB] at xV
   refine jd 4 [0]<|jw 43 (.bool ((((hasB on (k:Int))&&(decide (r8.a=(a:Int))))&&(decide (r8.b=(b:Int))))&&(!r8.same))) (w:= .bool (!r8.same)) (by rw[h4]<;>rfl) ?_
   exact hj _ (by kernel_rfl) (by kernel_rfl)
  ·
   have xV:=h4
   try simp only[zB] at xV
   refine zD 4<|jw 43 (.bool ((((hasB on (k:Int))&&(decide (r8.a=(a:Int))))&&(decide (r8.b=(b:Int))))&&(!r8.same))) (w:= .bool false) (by rw[h4]<;>rfl) ?_
   exact hj _ (by kernel_rfl) (by kernel_rfl)
  refine zD 1<|js 43 ((((hasB on (k:Int))&&(decide (r8.a=(a:Int))))&&(decide (r8.b=(b:Int))))&&(!r8.same)) (fun h5=>?_) (fun h5=>?_)
  ·
   refine zD 6<|aE q0 (.bool true) [] [] [] (Sub.refl _) ⟨_,_,rfl,rfl,by rw[hI.2,Vi tU,show (((hasB on k&&decide (r8.a=a))&&decide (r8.b=b))&& !r8.same)=true from (by assumption)];rfl,rfl⟩
  refine zD 3<|ja ((k:Int)+1) (by omega)<|zD 2<|bO bK (k+1) ⟨by omega,by rw[hI.2,Vi tU,show (((hasB on k&&decide (r8.a=a))&&decide (r8.b=b))&& !r8.same)=false from (by assumption)];rfl⟩ (by omega) [] (Sub.refl _)
 refine zD 7<|aE q0 (.bool false) [] [] [] (Sub.refl _) ⟨_,_,rfl,rfl,by rw[hI.2,abM (by omega)],rfl⟩
theorem az4{rows:List bH}{a:Nat}{on:Int}{ro:Nat→Option Obj}(hF:pd ro f K rows)(hV:fy K)(ha:K.before[a]?=some x) (hb:K.after[b]?=some y):de zT 126 [zP f,zI (a:Int),zI (b:Int),.int .u8 on] ro (.bool (db K on a b)):=by
 refine bA au [] [] a8<|zD 7<|jp [] [] (fun aB hs hZ=>az2)<|zD 3<|dW [1,0,1,0,0] [] (fun(zz:Nat)=>[(0,zP f),(1,zI (a:Int)),(2,zI (b:Int)),(3,.int .u8 on),(11,.agg ⟨[.iface 292 (.agg ⟨[]⟩),.iface 293 (.agg ⟨[]⟩),.iface 294 (.agg ⟨[]⟩)]⟩),(12,zI (zz:Int))]) (fun(zz:Nat)=>[]) (fun(zz:Nat)=>zz≤3∧(1≤zz→y5 K x y=false)∧(2≤zz→uj K x y=false)∧(3≤zz→BA on a b K.facts 0=false)) (fun(zz:Nat)=>3-zz) 0 ⟨by omega,nofun,nofun,nofun⟩ [] ?_
 rintro k hI K1 bK rest
 refine zD 5<|zJ 13 ((k:Int) <3) (fun h1=>?_) fun h1=>?_
 ·
  refine zD 6 ?_
  obtain rfl|rfl|rfl:k=0∨k=1∨k=2:=by omega
  ·
   refine zD 10<|jpI (vs:=[.agg ⟨[]⟩,zP f,zI (a:Int),zI (b:Int),.int .u8 on]) (fun aB hs=>arv (hF.up hs) hV ha hb)<|zD 1<|js 20 (y5 K x y) (fun h2=>?_) (fun h2=>?_)
   ·
    refine zD 6<|aE q0 (.bool false) [] [] [] (Sub.refl _) ⟨_,_,rfl,rfl,by simp only[db,ha,hb];simp[*],rfl⟩
   refine zD 6<|bO bK 1 ⟨by omega,(fun _=>by assumption),nofun,nofun⟩ (by omega) [] (Sub.refl _)
  ·
   refine zD 10<|jpI (vs:=[.agg ⟨[]⟩,zP f,zI (a:Int),zI (b:Int),.int .u8 on]) (fun aB hs=>adS (hF.up hs) hV ha hb)<|zD 1<|js 20 (uj K x y) (fun h3=>?_) (fun h3=>?_)
   ·
    refine zD 6<|aE q0 (.bool false) [] [] [] (Sub.refl _) ⟨_,_,rfl,rfl,by simp only[db,ha,hb];simp[*],rfl⟩
   refine zD 6<|bO bK 2 ⟨by omega,(fun _=>hI.2.1 (by omega)),(fun _=>by assumption),nofun⟩ (by omega) [] (Sub.refl _)
  refine zD 10<|jpI (vs:=[.agg ⟨[]⟩,zP f,zI (a:Int),zI (b:Int),.int .u8 on]) (fun aB hs=>akD (hF.up hs) hV)<|zD 1<|js 20 (BA on a b K.facts 0) (fun h4=>?_) (fun h4=>?_)
  ·
   refine zD 6<|aE q0 (.bool false) [] [] [] (Sub.refl _) ⟨_,_,rfl,rfl,by simp only[db,ha,hb];simp[*],rfl⟩
  refine zD 6<|bO bK 3 ⟨by omega,(fun _=>hI.2.1 (by omega)),(fun _=>hI.2.2.1 (by omega)),(fun _=>by assumption)⟩ (by omega) [] (Sub.refl _)
 refine zD 7<|aE q0 (.bool true) [] [] [] (Sub.refl _) ⟨_,_,rfl,rfl,by simp only[db,ha,hb,hI.2.1 (by omega),hI.2.2.1 (by omega),hI.2.2.2 (by omega)];rfl,rfl⟩
abbrev eP4(p:Nat→Int):List Value:=[zI (p 0),zI (p 1),zI (p 2),zI (p 3)]
abbrev pL(p:Nat→Int):List Int:=[p 0,p 1,p 2,p 3]
def iy(p:Nat→Int)(a:Nat)(v:Int):Nat→Int:=fun i=>if i=a then v else p i
theorem Ai{a:Nat}(h:a <4):a=0∨a=1∨a=2∨a=3:=by omega
theorem aqQ{a:Nat}(h:a <4):nth (eP4 p) (0+(a:Int).toNat*1)=some (zI (p a)):=by
 rcases Ai h with rfl|rfl|rfl|rfl<;>rfl
theorem aqP{a:Nat}{v:Int}(h:a <4):du (eP4 p) (0+(a:Int).toNat*1) [zI v]=eP4 (iy p a v):=by
 rcases Ai h with rfl|rfl|rfl|rfl<;>rfl
theorem aqR{a:Nat}{v:Value}(h:a <4):Nat.ble ((0+(a:Int).toNat*1)+[v].length) (eP4 p).length=true:=by
 rcases Ai h with rfl|rfl|rfl|rfl<;>rfl
theorem Vl{r:bH}{a:Nat}(h:a <4)(k:b <4):nth (Cv r) (0+(a:Int).toNat*4+(b:Int).toNat*1)=some (.bool (r.c a b)):=by
 rcases Ai h with rfl|rfl|rfl|rfl<;>rcases Ai k with rfl|rfl|rfl|rfl<;>rfl
def iU(r:bH)(a b:Nat)(v:Bool):bH:=⟨fun i j=>if i=a∧j=b then v else r.c i j⟩
theorem Vk{r:bH}{a:Nat}{v:Bool}(h:a <4)(k:b <4):du (Cv r) (0+(a:Int).toNat*4+(b:Int).toNat*1) [.bool v]=Cv (iU r a b v):=by
 rcases Ai h with rfl|rfl|rfl|rfl<;>rcases Ai k with rfl|rfl|rfl|rfl<;>rfl
theorem Vm{r:bH}{a:Nat}{v:Value}(h:a <4)(k:b <4):Nat.ble ((0+(a:Int).toNat*4+(b:Int).toNat*1)+[v].length) (Cv r).length=true:=by
 rcases Ai h with rfl|rfl|rfl|rfl<;>rcases Ai k with rfl|rfl|rfl|rfl<;>rfl
def lE(on:Int)(p:Nat→Int):List fF→Nat→Bool
 | [],_=>true
 |x::l,k=>bif (hasB on k&&x.same)&& !decide (p x.a.toNat=x.b+1) then false else lE on p l (k+1)
theorem wU{on:Int}{x:fF}(h:l[k]?=some x):lE on p (l.drop k) k=bif (hasB on k&&x.same)&& !decide (p x.a.toNat=x.b+1) then false else lE on p (l.drop (k+1)) (k+1):=by rw[fN h];rfl
theorem Sk{on:Int}(h:¬k <l.length):lE on p (l.drop k) k=true:=by rw[eA h];rfl
def qu(p:Nat→Int)(a:Nat)(v:Int):Bool:=decide (bG (fun y=>decide (v=y)) ((pL p).take a) 0≥0)
theorem ajw{ro:Nat→Option Obj}{T:TypeId}(h:ro b=some (.cells ⟨eP4 p⟩ T (0,0)))(hn:n≤4):bE ro (.slice (some ⟨b,0,none⟩) n 4) 1 cv ((pL p).take n):=by
 have:=bE.part (bQ (enc:=cv) (T:=T) (pL p) h (fun _ _=>rfl)) (l:=0) (h:=n) (by omega) (by simpa using hn)
 simpa [dK] using this
theorem adZ{v:Value}{n:Int}{ro:Nat→Option Obj}(hl:bE ro v 1 cv xs)(hn:xs.length≤1000000):de zT 67 [v,zI n] ro (zI (bG (fun y=>decide (n=y)) xs 0)):=by
 obtain⟨fI,rM,rK,eX,rfl,tG,lG,mH⟩:=hl
 refine bA au [] [] a8<|zD 12<|dW [1,0,1,0,0] [] (fun(zz:Nat)=>[(0,.slice fI xs.length eX),(1,zI n),(7,zI (xs.length:Int)),(8,zI (zz:Int))]) (fun(zz:Nat)=>[]) (fun(zz:Nat)=>zz≤xs.length∧bG (fun y=>decide (n=y)) xs 0=bG (fun y=>decide (n=y)) (xs.drop zz) zz) (fun(zz:Nat)=>xs.length-zz) 0 ⟨by omega,rfl⟩ [] ?_
 rintro k hI K1 bK rest
 refine zD 5<|zJ 9 ((k:Int) <(xs.length:Int)) (fun h1=>?_) fun h1=>?_
 ·
  refine zD 14 ?_
  obtain⟨dZ,dw⟩:=zG xs k
  refine iK eX 1 lG dw<|jl 0 (mH _ _ dw)<|zD 2<|zJ 16 (n=dZ) (fun h2=>?_) fun h2=>?_
  ·
   refine zD 7<|aE q0 (zI (k:Int)) [] [] [] (Sub.refl _) ⟨_,_,rfl,rfl,by rw[hI.2,gH dw];simp[*],rfl⟩
  refine zD 3<|ja ((k:Int)+1) (by omega)<|zD 2<|bO bK (k+1) ⟨by omega,by rw[hI.2,gH dw];simp[*]⟩ (by omega) [] (Sub.refl _)
 refine zD 7<|aE q0 (zI (-1)) [] [] [] (Sub.refl _) ⟨_,_,rfl,rfl,by rw[hI.2,mU (by omega)],rfl⟩
theorem aOL{v:Value}{n:Int}{ro:Nat→Option Obj}(hl:bE ro v 1 cv xs)(hn:xs.length≤1000000):de zT 130 [v,zI n] ro (.bool (decide (bG (fun y=>decide (n=y)) xs 0≥0))):=by
 obtain⟨fI,rM,rK,eX,rfl,tG,lG,mH⟩:=hl
 refine bA au [] [] a8<|zD 8<|jp (vs:=[.slice fI xs.length eX,zI n]) [] [] (fun aB hs hZ=>adZ ((show bE _ _ _ _ _ from ⟨fI,rM,rK,eX,rfl,tG,lG,mH⟩).up hs) (by first|omega| (simp only[List.length_set,List.length_append,List.length_cons,List.length_nil];omega))) ?_
 refine zD 4<|aE q0 (.bool (decide ((bG (fun y=>decide (n=y)) xs 0)≥0))) [] [] [] (Sub.refl _) ⟨_,_,rfl,rfl,rfl,rfl⟩
theorem arw{rows:List bH}{on:Int}{ro:Nat→Option Obj}(hF:pd ro f K rows)(hV:fy K)(g1:ro b1=some (.cells ⟨[zP f]⟩ 104 (0,0)))(g2:ro b2=some (.cells ⟨[.int .u8 on]⟩ 120 (0,0))):de zT 127 [.agg ⟨[zI (p 0),zI (p 1),zI (p 2),zI (p 3)]⟩,zP b1,zP b2] ro (.bool (lE on p K.facts 0)):=by
 obtain⟨c0,c1,c2,vc,vh,vr,vb,va,vf,vt,hv,hf,rh,oF,hr,Ci,GD,Ix,bS⟩:=id hF
 obtain⟨hc,hh,cY⟩:=id rh
 obtain⟨eL,Bh,Bg,eH,rfl,DO,zb,za⟩:=hc
 obtain⟨dN,u4,u3,dD,rfl,xD,qV,qU⟩:=hh
 obtain⟨mj,Ld,Lc,mi,rfl,Om,Jh,Jg⟩:=hr
 obtain⟨kB,Ia,H8,jR,rfl,H9,DT,DR⟩:=Ci
 obtain⟨kD,Ie,Ib,jT,rfl,Ic,DV,DU⟩:=GD
 obtain⟨mo,SA,Sx,k8,rfl,Sz,Lf,Le⟩:=Ix
 obtain⟨nF,DM,DL,ng,rfl,Oj,La,K0⟩:=bS
 have Rj:=hV.rules.1
 have Av:=hV.before.1
 have Dg:=hV.after.1
 have hnf:=hV.facts.1
 refine bA au [] [] a8<|zD 2<|jn fun b3=>zD 5<|jl (b:=b1) (off:=0) (m:=1) (vs:=[zP f]) 0 ⟨_,_,_,.inl g1,rfl⟩<|zD 3<|jl (b:=f) (off:=0) (m:=13) (vs:=[c0,c1,c2,.slice eL K.cs.length eH,.slice dN hv.length dD,.slice mj K.rules.length mi,.slice kB K.before.length jR,.slice kD K.after.length jT,zI K.gone,zI K.new,zI K.af,.slice mo K.facts.length k8,.slice nF rows.length ng]) 11 ⟨_,_,_,.inl hf,rfl⟩<|zD 4<|dW [1,0,1,0,0] [] (fun(zz:Nat)=>[(2,zP b2),(3,zP b3),(11,.slice mo K.facts.length k8),(12,zI (K.facts.length:Int)),(13,zI (zz:Int))]) (fun(zz:Nat)=>[.b b3 (.cells ⟨[zI (p 0),zI (p 1),zI (p 2),zI (p 3)]⟩ 113 (0,0))]) (fun(zz:Nat)=>zz≤K.facts.length∧lE on p K.facts 0=lE on p (K.facts.drop zz) zz) (fun(zz:Nat)=>K.facts.length-zz) 0 ⟨by omega,rfl⟩ [0] ?_
 rintro k hI K1 bK rest
 refine zD 5<|zJ 14 ((k:Int) <(K.facts.length:Int)) (fun h1=>?_) fun h1=>?_
 ·
  refine zD 7 ?_
  obtain⟨A8,mO⟩:=zG K.facts k
  refine iK k8 3 Lf mO<|jl 0 (Le _ _ mO)<|jn fun b6=>jd 4 [0] ?_
  have hf4:=(hV.facts.2 _ (List.mem_of_getElem? mO)).1
  have hf5:=(hV.facts.2 _ (List.mem_of_getElem? mO)).2
  have hae:A8.a=(A8.a.toNat:Int):=by omega
  refine zD 1<|jl (b:=b2) (off:=0) (m:=1) (vs:=[.int .u8 on]) 0 ⟨_,_,_,.inl g2,rfl⟩<|zD 1<|jp (vs:=[.int .u8 on,zI (k:Int)]) [] [] (fun aB hs hZ=>(arO (by omega)))<|zD 1<|js 3 (hasB on (k:Int)) (fun h2=>?_) (fun h2=>?_)
  ·
   refine jd 4 [0]<|js 7 A8.same (fun h3=>?_) (fun h3=>?_)
   ·
    refine jd 2 [0]<|Gc (b:=b3) (off:=0) (len:=4) (sz:=1) A8.a (by omega)<|oQ (b:=b3) (off:=0+A8.a.toNat*1) (m:=1) (vs:=[zI (p A8.a.toNat)]) 0 [1] [(b3,.cells ⟨[zI (p 0),zI (p 1),zI (p 2),zI (p 3)]⟩ 113 (0,0))] (fun s _ hZ=>oy (hZ _ (.head _)) (by rw[hae];exact aqQ (by omega))) ?_
    refine jd 2 [0]<|ja (A8.b+1) (by omega)<|zD 3<|js 34 (!decide ((p A8.a.toNat)=(A8.b+1))) (fun h4=>?_) (fun h4=>?_)
    ·
     replace h4:=of_decide_eq_false (by simpa using h4)
     refine zD 6<|aE q0 (.bool false) [] [] [] (Sub.refl _) ⟨_,_,rfl,rfl,by rw[hI.2,wU mO];simp only[h2,h3,decide_eq_false h4,Bool.and_true,Bool.true_and,Bool.not_false,Bool.not_true,Bool.and_false,Bool.false_and,cond_true,cond_false],rfl⟩
    replace h4:=of_decide_eq_true (by simpa using h4)
    refine zD 3<|ja ((k:Int)+1) (by omega)<|zD 2<|bO bK (k+1) ⟨by omega,by rw[hI.2,wU mO];simp only[h2,h3,decide_eq_true h4,Bool.and_true,Bool.true_and,Bool.not_false,Bool.not_true,Bool.and_false,Bool.false_and,cond_true,cond_false]⟩ (by omega) [1] (Sub.refl _)
   refine zD 13<|ja ((k:Int)+1) (by omega)<|zD 2<|bO bK (k+1) ⟨by omega,by rw[hI.2,wU mO];simp only[h2,h3,Bool.and_true,Bool.true_and,Bool.not_false,Bool.not_true,Bool.and_false,Bool.false_and,cond_true,cond_false]⟩ (by omega) [1] (Sub.refl _)
  refine zD 17<|ja ((k:Int)+1) (by omega)<|zD 2<|bO bK (k+1) ⟨by omega,by rw[hI.2,wU mO];simp only[h2,Bool.and_true,Bool.true_and,Bool.not_false,Bool.not_true,Bool.and_false,Bool.false_and,cond_true,cond_false]⟩ (by omega) [1] (Sub.refl _)
 refine zD 7<|aE q0 (.bool true) [] [] [] (Sub.refl _) ⟨_,_,rfl,rfl,by rw[hI.2,Sk (by omega)],rfl⟩
def iH(K:aM)(on:Int):Nat→Nat→(Nat→Int)→List (Nat→Int)
 |0,_,p=>bif lE on p K.facts 0 then [p] else []
 |n+1,a,p=>iH K on n (a+1) p++(List.range K.after.length).flatMap fun b=>bif !db K on a b||qu p a ((b:Int)+1) then [] else iH K on n (a+1) (iy p a ((b:Int)+1))
def nv(K:aM)(on:Int)(n a:Nat)(p:Nat→Int)(b:Nat):List (Nat→Int):=bif !db K on a b||qu p a ((b:Int)+1) then [] else iH K on n (a+1) (iy p a ((b:Int)+1))
theorem qy(K:aM)(on:Int)(n a:Nat)(p:Nat→Int):iH K on (n+1) a p=iH K on n (a+1) p++(List.range K.after.length).flatMap (nv K on n a p):=rfl
theorem Part.left{L x y:List α}{p:Nat}(h:Part L p (x++y)):Part L p x:=by
 obtain⟨a,b,rfl,h2⟩:=h
 exact⟨a,y++b,by simp,h2⟩
theorem Part.right{L x y:List α}{p:Nat}(h:Part L p (x++y)):Part L (p+x.length) y:=by
 obtain⟨a,b,rfl,rfl⟩:=h
 exact⟨a++x,b,by simp,by simp⟩
theorem Yb{j:Nat}(h:j <n):∃r,List.range n=List.range j++[j]++r:=by
 refine⟨(List.range n).drop (j+1),?_⟩
 have h1:(List.range n).take (j+1)=List.range (j+1):=by rw[List.take_range,Nat.min_eq_left h]
 rw[←List.range_succ,←h1,List.take_append_drop]
theorem WM{q:Nat→Int}{a:Nat}{v:Int}(ha:a <4)(h:∀i,i≠a→q i=p i):qu q a v=qu p a v:=by
 have:(pL q).take a=(pL p).take a:=by
  rcases Ai ha with rfl|rfl|rfl|rfl
  ·rfl
  ·simp[h 0 (by omega)]
  ·simp[h 0 (by omega),h 1 (by omega)]
  simp[h 0 (by omega),h 1 (by omega),h 2 (by omega)]
 simp only[qu,this]
theorem UX{q:Nat→Int}{a:Nat}{v:Int}(h:∀i,i≠a→q i=p i):iy q a v=iy p a v:=by
 funext i
 simp only[iy]
 split
 ·rfl
 rename_i hi;exact h i hi
abbrev ePs(L:List (Nat→Int)):(Nat→Option Obj)→Nat→List Value→Cells→Prop:=fun _ k vs LL=>∃p,L[k]?=some p∧vs=[.agg ⟨eP4 p⟩]∧LL=[]
structure ahS(ro:Nat→Option Obj)(bl f:Nat)(K:aM)(on:Int)(bf br bw bg bt bo:Nat):Prop where
 f:ro bf=some (.cells ⟨[zP f]⟩ 104 (0,0))
 r:ro br=some (.cells ⟨[.func (.func 127) ⟨[]⟩ ⟨[zP bf,zP bo]⟩]⟩ 221 (0,0))
 y:ro bw=some (.cells ⟨[.func (.yield bl) #[] #[]]⟩ 221 (0,0))
 g:ro bg=some (.cells ⟨[.func (.func 129) ⟨[]⟩ ⟨[zP bf,zP br,zP bw,zP bg,zP bt]⟩]⟩ 222 (0,0))
 t:ro bt=some (.cells ⟨Cv ⟨db K on⟩⟩ 159 (0,0))
 o:ro bo=some (.cells ⟨[.int .u8 on]⟩ 120 (0,0))
def ao9(bl f:Nat)(K:aM)(rows:List bH)(on:Int)(bf br bw bg bt bo:Nat)(L:List (Nat→Int))(Inv:Nat→Cells→Prop)(Stop:Cells→Prop)(n:Nat):Prop:=
 ∀(ro:Nat→Option Obj) (a:Nat) (p:Nat→Int) (q:Nat) (B:Cells),ahS ro bl f K on bf br bw bg bt bo→pd ro f K rows→a+n=K.before.length→Part L q (iH K on n a p)→Inv q B→YOK zT bl ro L.length (ePs L) Inv Stop→
  eE zT 129 [.agg ⟨eP4 p⟩,zI (a:Int),zP bf,zP br,zP bw,zP bg,zP bt] ro B (fun r Y=>∃c,r= .bool c∧(c=true→Inv (q+(iH K on n a p).length) Y)∧(c=false→Stop Y))
theorem arP{a q:Nat}{on:Int}{B:Cells}{L:List (Nat→Int)}{Inv:Nat→Cells→Prop}{rows:List bH}{ro:Nat→Option Obj}(ih:∀m,m <n→ao9 bl f K rows on bf br bw bg bt bo L Inv Stop m)(hV:fy K)(oE:ahS ro bl f K on bf br bw bg bt bo)(hF:pd ro f K rows)(han:a+n=K.before.length)(hP:Part L q (iH K on n a p))(hB:Inv q B)(hy:YOK zT bl ro L.length (ePs L) Inv Stop):eE zT 129 [.agg ⟨[zI (p 0),zI (p 1),zI (p 2),zI (p 3)]⟩,zI (a:Int),zP bf,zP br,zP bw,zP bg,zP bt] ro B (fun r Y=>∃c,r= .bool c∧(c=true→Inv (q+(iH K on n a p).length) Y)∧(c=false→Stop Y)):=by
 obtain⟨gf,gr,gy,gg,gt,go⟩:=id oE
 obtain⟨c0,c1,c2,vc,vh,vr,vb,va,vf,vt,hv,hf,rh,oF,hr,Ci,GD,Ix,bS⟩:=id hF
 obtain⟨hc,hh,cY⟩:=id rh
 obtain⟨eL,Bh,Bg,eH,rfl,DO,zb,za⟩:=hc
 obtain⟨dN,u4,u3,dD,rfl,xD,qV,qU⟩:=hh
 obtain⟨mj,Ld,Lc,mi,rfl,Om,Jh,Jg⟩:=hr
 obtain⟨kB,Ia,H8,jR,rfl,H9,DT,DR⟩:=Ci
 obtain⟨kD,Ie,Ib,jT,rfl,Ic,DV,DU⟩:=GD
 obtain⟨mo,SA,Sx,k8,rfl,Sz,Lf,Le⟩:=Ix
 obtain⟨nF,DM,DL,ng,rfl,Oj,La,K0⟩:=bS
 have Rj:=hV.rules.1
 have Av:=hV.before.1
 have Dg:=hV.after.1
 have hnf:=hV.facts.1
 refine bA au [.l B] [] a8<|zD 2<|jn fun b7=>zD 6<|jl (b:=bf) (off:=0) (m:=1) (vs:=[zP f]) 0 ⟨_,_,_,.inl gf,rfl⟩<|zD 3<|jl (b:=f) (off:=0) (m:=13) (vs:=[c0,c1,c2,.slice eL K.cs.length eH,.slice dN hv.length dD,.slice mj K.rules.length mi,.slice kB K.before.length jR,.slice kD K.after.length jT,zI K.gone,zI K.new,zI K.af,.slice mo K.facts.length k8,.slice nF rows.length ng]) 6 ⟨_,_,_,.inl hf,rfl⟩<|zD 3<|zJ 18 ((a:Int)=(K.before.length:Int)) (fun h1=>?_) fun h1=>?_
 ·
  refine zD 2 ?_
  obtain rfl:n=0:=by omega
  refine zD 1<|jl (b:=br) (off:=0) (m:=1) (vs:=[.func (.func 127) ⟨[]⟩ ⟨[zP bf,zP bo]⟩]) 0 ⟨_,_,_,.inl gr,rfl⟩<|jd 1 [0]<|jp (vs:=[.agg ⟨[zI (p 0),zI (p 1),zI (p 2),zI (p 3)]⟩,zP bf,zP bo]) [] [] (fun aB hs hZ=>arw (hF.up hs) hV (hs _ _ gf) (hs _ _ go))<|zD 2<|js 23 (!(lE on p K.facts 0)) (fun h2=>?_) (fun h2=>?_)
  ·
   have my:=h2
   try simp only[zB] at my
   refine zD 7<|aE q0 (.bool true) [] [1] B (Sub.refl _) ⟨_,_,rfl,rfl,_,rfl,(fun _=>by rw[show iH K on 0 a p=[] by simp only[iH,show lE on p K.facts 0=false by simpa using h2];rfl];exact hB),nofun⟩
  have my:=h2
  try simp only[zB] at my
  have afc:iH K on 0 a p=[p]:=by simp only[iH,show lE on p K.facts 0=true by simpa using h2];rfl
  have WC:=Part.get (i:=0) (x:=p) hP (by rw[afc];rfl)
  refine jl (b:=bw) (off:=0) (m:=1) (vs:=[(.func (.yield bl) #[] #[])]) 0 ⟨_,_,_,.inl gy,rfl⟩<|jd 1 [0]<|jyc [1] (hy q [.agg ⟨[zI (p 0),zI (p 1),zI (p 2),zI (p 3)]⟩] [] B ro WC.1 ⟨_,WC.2,rfl,rfl⟩ hB (Sub.refl _)) (Sub.refl _) ?_
  intro v26 Y26 aO1
  obtain⟨c26,rfl,aRI,aRv⟩:=yb aO1
  refine zD 4<|aE q0 (.bool c26) [] [0] Y26 (Sub.refl _) ⟨_,_,rfl,rfl,_,rfl,(fun h=>by rw[afc];exact aRI h),aRv⟩
 refine zD 4 ?_
 obtain⟨m,rfl⟩:∃m,n=m+1:=⟨n-1,by omega⟩
 rw[qy] at hP
 refine zD 1<|jl (b:=bg) (off:=0) (m:=1) (vs:=[.func (.func 129) ⟨[]⟩ ⟨[zP bf,zP br,zP bw,zP bg,zP bt]⟩]) 0 ⟨_,_,_,.inl gg,rfl⟩<|jd 2 [0]<|ja ((a:Int)+1) (by omega)<|jc (vs:=[.agg ⟨[zI (p 0),zI (p 1),zI (p 2),zI (p 3)]⟩,zI ((a:Int)+1),zP bf,zP br,zP bw,zP bg,zP bt]) [1] (ih m (by omega) _ (a+1) p q _ oE hF (by omega) (Part.left hP) hB hy) ?_
 rintro _ Y32 ⟨c32,rfl,aRF,aRs⟩
 refine zD 2<|js 33 (!c32) (fun h3=>?_) (fun h3=>?_)
 ·
  try simp only[zB] at h3
  refine zD 6<|aE q0 (.bool false) [] [0] Y32 (Sub.refl _) ⟨_,_,rfl,rfl,_,rfl,nofun,fun _=>aRs (by simp_all)⟩
 try simp only[zB] at h3
 refine zD 5<|jl (b:=bf) (off:=0) (m:=1) (vs:=[zP f]) 0 ⟨_,_,_,.inl gf,rfl⟩<|zD 3<|jl (b:=f) (off:=0) (m:=13) (vs:=[c0,c1,c2,.slice eL K.cs.length eH,.slice dN hv.length dD,.slice mj K.rules.length mi,.slice kB K.before.length jR,.slice kD K.after.length jT,zI K.gone,zI K.new,zI K.af,.slice mo K.facts.length k8,.slice nF rows.length ng]) 7 ⟨_,_,_,.inl hf,rfl⟩<|zD 4<|dW [1,1,1,0,1,0,0] [] (fun(zz:Nat×(Nat→Int)×Cells)=>[(1,zI (a:Int)),(5,zP bg),(6,zP bt),(7,zP b7),(39,zI (K.after.length:Int)),(40,zI (zz.1:Int))]) (fun(zz:Nat×(Nat→Int)×Cells)=>[.b b7 (.cells ⟨[zI (zz.2.1 0),zI (zz.2.1 1),zI (zz.2.1 2),zI (zz.2.1 3)]⟩ 113 (0,0)),.l zz.2.2]) (fun(zz:Nat×(Nat→Int)×Cells)=>zz.1≤K.after.length∧Inv (q+(iH K on m (a+1) p).length+((List.range zz.1).flatMap (nv K on m a p)).length) zz.2.2∧∀i,i≠a→zz.2.1 i=p i) (fun(zz:Nat×(Nat→Int)×Cells)=>K.after.length-zz.1) (⟨0,p,Y32⟩) ⟨by dsimp only;omega,by have:=aRF (by simp_all);simpa using this,fun _ _=>rfl⟩ [1,0] ?_
 rintro⟨j,pp,B⟩ hJ K1 bK rest
 dsimp only at hJ
 refine zD 5<|zJ 41 ((j:Int) <(K.after.length:Int)) (fun h4=>?_) fun h4=>?_
 ·
  refine zD 11 ?_
  have ha4:a <4:=by omega
  have hj4:j <4:=by omega
  obtain⟨rr,hrr⟩:=Yb (show j <K.after.length by omega)
  have hPj:=Part.flat (Part.right hP) hrr
  refine zD 3<|Gc (b:=bt) (off:=0) (len:=4) (sz:=4) (a:Int) (by omega)<|Gc (b:=bt) (off:=0+(a:Int).toNat*4) (len:=4) (sz:=1) (j:Int) (by omega)<|jl (b:=bt) (off:=0+(a:Int).toNat*4+(j:Int).toNat*1) (m:=1) (vs:=[.bool (db K on a j)]) 0 (oy (.inl gt) (Vl (r:=⟨db K on⟩) ha4 hj4))<|zD 2<|js 49 (!(db K on a j)) (fun h5=>?_) (fun h5=>?_)
  ·
   have Eg:=h5
   try simp only[zB] at Eg
   refine zD 10<|ja ((j:Int)+1) (by omega)<|zD 2<|bO bK (⟨j+1,pp,B⟩) ⟨by dsimp only;omega,by dsimp only;rw[List.range_succ,List.flatMap_append,List.length_append,List.flatMap_singleton,←Nat.add_assoc];rw[show nv K on m a p j=[] by simp only[nv,h5];rfl];exact hJ.2.1,hJ.2.2⟩ (by dsimp only;omega) [0,1] (Sub.refl _)
  have Eg:=h5
  try simp only[zB] at Eg
  refine zD 1<|jah (b:=b7) (off:=0) (len:=4) (a:Int) (by omega)<|zD 1<|ja ((j:Int)+1) (by omega)<|jp (vs:=[(.slice (some ⟨b7,0,none⟩) (a:Int).toNat 4),zI ((j:Int)+1)]) [0] [(b7,.cells ⟨[zI (pp 0),zI (pp 1),zI (pp 2),zI (pp 3)]⟩ 113 (0,0))] (fun aB hs hZ=>aOL (ajw hZ.head (by omega)) (by rw[List.length_take];omega)) ?_
  refine zD 2<|js 55 (qu pp a ((j:Int)+1)) (fun h6=>?_) (fun h6=>?_)
  ·
   refine zD 3<|ja ((j:Int)+1) (by omega)<|zD 2<|bO bK (⟨j+1,pp,B⟩) ⟨by dsimp only;omega,by dsimp only;rw[List.range_succ,List.flatMap_append,List.length_append,List.flatMap_singleton,←Nat.add_assoc];rw[show nv K on m a p j=[] by simp only[nv,←WM ha4 hJ.2.2,h5,h6];rfl];exact hJ.2.1,hJ.2.2⟩ (by dsimp only;omega) [0,1] (Sub.refl _)
  have hg0:nv K on m a p j=iH K on m (a+1) (iy p a ((j:Int)+1)):=by simp only[nv,←WM ha4 hJ.2.2,h5,h6];rfl
  have hPg:Part L (q+(iH K on m (a+1) p).length+((List.range j).flatMap (nv K on m a p)).length) (iH K on m (a+1) (iy pp a ((j:Int)+1))):=by rw[UX hJ.2.2,←hg0];exact hPj
  refine zD 6<|ja ((j:Int)+1) (by omega)<|Gc (b:=b7) (off:=0) (len:=4) (sz:=1) (a:Int) (by omega)<|jsx 0 b7 (0+(a:Int).toNat*1) [zI (pp 0),zI (pp 1),zI (pp 2),zI (pp 3)] [zI ((j:Int)+1)] 113 (by intro v hv;rw[List.mem_singleton] at hv;subst hv;rfl) (aqR (p:=pp) ha4) ?_
  refine jmw 0 [.b b7 (.cells ⟨[zI ((iy pp a ((j:Int)+1)) 0),zI ((iy pp a ((j:Int)+1)) 1),zI ((iy pp a ((j:Int)+1)) 2),zI ((iy pp a ((j:Int)+1)) 3)]⟩ 113 (0,0))] (L:=[(b7,.cells ⟨du [zI (pp 0),zI (pp 1),zI (pp 2),zI (pp 3)] (0+(a:Int).toNat*1) [zI ((j:Int)+1)]⟩ 113 (0,0))]) (by rw[aqP ha4];rfl) ?_
  refine zD 3<|jl (b:=bg) (off:=0) (m:=1) (vs:=[.func (.func 129) ⟨[]⟩ ⟨[zP bf,zP br,zP bw,zP bg,zP bt]⟩]) 0 ⟨_,_,_,.inl gg,rfl⟩<|jd 2 [0]<|ja ((a:Int)+1) (by omega)<|jc (vs:=[.agg ⟨[zI ((iy pp a ((j:Int)+1)) 0),zI ((iy pp a ((j:Int)+1)) 1),zI ((iy pp a ((j:Int)+1)) 2),zI ((iy pp a ((j:Int)+1)) 3)]⟩,zI ((a:Int)+1),zP bf,zP br,zP bw,zP bg,zP bt]) [1] (ih m (by omega) _ (a+1) _ (q+(iH K on m (a+1) p).length+((List.range j).flatMap (nv K on m a p)).length) _ oE hF (by omega) hPg hJ.2.1 hy) ?_
  rintro _ Y64 ⟨Xi,rfl,aRC,aRq⟩
  refine zD 2<|js 65 (!Xi) (fun h7=>?_) (fun h7=>?_)
  ·
   try simp only[zB] at h7
   refine zD 6<|aE q0 (.bool false) [] [0] Y64 (Sub.refl _) ⟨_,_,rfl,rfl,_,rfl,nofun,fun _=>aRq (by simp_all)⟩
  try simp only[zB] at h7
  refine zD 3<|ja ((j:Int)+1) (by omega)<|zD 2<|bO bK (⟨j+1,(iy pp a ((j:Int)+1)),Y64⟩) ⟨by dsimp only;omega,by dsimp only;rw[List.range_succ,List.flatMap_append,List.length_append,List.flatMap_singleton,←Nat.add_assoc];rw[hg0,←UX hJ.2.2];exact aRC (by simp_all),(fun i hi=>by simp only[iy,if_neg hi];exact hJ.2.2 i hi)⟩ (by dsimp only;omega) [1,0] (Sub.refl _)
 refine zD 7<|aE q0 (.bool true) [] [1] B (Sub.refl _) ⟨_,_,rfl,rfl,_,rfl,(fun _=>by rw[qy,List.length_append,←Nat.add_assoc];have:=hJ.2.1;rwa[show j=K.after.length by omega] at this),nofun⟩
theorem az3(hV:fy K){rows:List bH}{on:Int}{L:List (Nat→Int)}{Inv:Nat→Cells→Prop}:∀n,ao9 bl f K rows on bf br bw bg bt bo L Inv Stop n:=by
 intro n
 induction n using Nat.strongRecOn with
 |_ n ih=>exact fun ro a p q B hc hF han hP hB hy=>arP ih hV hc hF han hP hB hy
def bp(K:aM)(on:Int):List (Nat→Int):=iH K on K.before.length 0 fun _=>0
theorem WZ{on:Int}{a:Nat}(h:¬a <K.before.length∨¬b <K.after.length):db K on a b=false:=by
 rcases h with h|h
 ·simp[db,List.getElem?_eq_none (Nat.le_of_not_lt h)]
 simp only[db,List.getElem?_eq_none (Nat.le_of_not_lt h)]
 split
 ·rename_i h1;cases h1
 rfl
def Ep(K:aM)(on:Int)(i j:Nat)(r:bH):Prop:=∀x y,r.c x y=((decide (x <i)||(decide (x=i)&&decide (y <j)))&&db K on x y)
theorem Ep.set{on:Int}{i j:Nat}{r:bH}(h:Ep K on i j r):Ep K on i (j+1) (iU r i j (db K on i j)):=fun x y=>by
 simp only[iU]
 split
 ·rename_i hx;obtain⟨rfl,rfl⟩:=hx;simp
 rename_i hx
 rw[h x y]
 congr 2
 by_cases e:x=i
 ·subst e
  have:y≠j:=fun e2=>hx ⟨rfl,e2⟩
  simp only[decide_true,Bool.true_and]
  congr 1
  exact propext (by omega)
 simp[e]
theorem Ep.nxt{on:Int}{i:Nat}{r:bH}(h:Ep K on i K.after.length r):Ep K on (i+1) 0 r:=fun x y=>by
 rw[h x y]
 by_cases hy:y <K.after.length
 ·congr 1
  simp only[hy,decide_true,Bool.and_true,Nat.not_lt_zero,decide_false,Bool.and_false,Bool.or_false]
  rw[Bool.eq_iff_iff];simp;omega
 rw[WZ (.inr hy)];simp
theorem Ep.fin{on:Int}{r:bH}(h:Ep K on K.before.length 0 r):r=⟨db K on⟩:=by
 rcases r with ⟨c⟩
 congr 1
 funext x y
 have:=h x y
 dsimp only at this
 rw[this]
 by_cases hx:x <K.before.length
 ·simp[hx]
 rw[WZ (.inl hx)];simp
theorem ajZ{a:Nat}(h:a <4):nth (eP4 p) ((a:Int).toNat*1)=some (zI (p a)):=by
 rcases Ai h with rfl|rfl|rfl|rfl<;>rfl
theorem abP{r:bH}{a:Nat}{j:Int}(h:a <4)(k:0≤j∧j <4):nth (Cv r) (0+(a:Int).toNat*4+j.toNat*1)=some (.bool (r.c a j.toNat)):=by
 obtain⟨m,rfl⟩:=Int.eq_ofNat_of_zero_le k.1
 exact Vl h (by omega)
def Ij(r:bH)(p:Nat→Int):Nat→Int
 |0=>0
 |k+1=>Ij r p k+bif decide (p k>0)&& !r.c k (p k-1).toNat then 1 else 0
def cW(K:aM)(r:bH)(past:Nat)(p:Nat→Int):ai:=⟨past,p 0,p 1,p 2,p 3,K.before.length-vz (pL p),K.after.length-vz (pL p),Ij r p 4⟩
theorem VA(p:Nat→Int):0≤vz (pL p)∧vz (pL p)≤4:=by
 have:=List.length_filter_le (fun x=>decide (x>0)) (pL p)
 simp only[vz]
 exact⟨by omega,by simp only[List.length_cons,List.length_nil] at this;omega⟩
theorem V8{rows:List bH}{on:Int}{ro:Nat→Option Obj}(hF:pd ro f K rows)(hV:fy K)(g1:ro b1=some (.cells ⟨[zP f]⟩ 104 (0,0)))(g2:ro b2=some (.cells ⟨[.func (.func 127) ⟨[]⟩ ⟨[zP b1,zP b4]⟩]⟩ 221 (0,0)))(g3:ro b3=some (.cells ⟨Cv ⟨db K on⟩⟩ 159 (0,0)))(g4:ro b4=some (.cells ⟨[.int .u8 on]⟩ 120 (0,0))):ItX zT 128 [] [zP b1,zP b2,zP b3] ro [] (bp K on).length (ePs (bp K on)) (fun Z=>Z=[]):=by
 intro bl aB Inv Stop hs hy B hB
 replace g1:=hs _ _ g1
 replace g2:=hs _ _ g2
 replace g3:=hs _ _ g3
 replace g4:=hs _ _ g4
 replace hF:=hF.up hs
 refine bA au [.l B] [] a8<|zD 2<|jn fun b4=>zD 3<|jn fun b5=>jd 9 [0,0]<|jf [1,0] ((b4,.cells ⟨[(.func (.yield bl) #[] #[])]⟩ 221 (0,0))::[(b5,.cells ⟨[.func (.func 129) ⟨[]⟩ ⟨[zP b1,zP b2,zP b4,zP b5,zP b3]⟩]⟩ 222 (0,0))]) fun yp bW iL=>jc (vs:=[.agg ⟨[zI 0,zI 0,zI 0,zI 0]⟩,zI 0,zP b1,zP b2,zP b4,zP b5,zP b3]) [0] (az3 (K:=K) hV (on:=on) _ _ 0 (fun _=>0) 0 _ ⟨(bW _ _ g1),(bW _ _ g2),iL _ (.head _),iL _ (.tail _ (.head _)),(bW _ _ g3),bW _ _ g4⟩ (hF.up bW) (Nat.zero_add _) ⟨[],[],by simp[bp],rfl⟩ hB (YOK.up hy bW)) ?_
 rintro _ Y9 ⟨c9,rfl,hc9,hd9⟩
 refine zD 1<|aE q0.a (.tuple ⟨[]⟩) [] [0] Y9 bW ⟨_,_,rfl,rfl,[],Y9,rfl,rfl,by cases c9 with|true=>exact .inl (by simpa [bp] using hc9 rfl)|false=>exact .inr (hd9 rfl)⟩
theorem JK{rows:List bH}{on:Int}{ro:Nat→Option Obj}(hF:pd ro f K rows)(hV:fy K):eE zT 94 [zP f,.int .u8 on] ro [] (fun r Y=>∃b1 b2 b3 b4,r= .func (.func 128) ⟨[]⟩ ⟨[zP b1,zP b2,zP b3]⟩∧Y=[(b1,.cells ⟨[zP f]⟩ 104 (0,0)),(b2,.cells ⟨[.func (.func 127) ⟨[]⟩ ⟨[zP b1,zP b4]⟩]⟩ 221 (0,0)),(b3,.cells ⟨Cv ⟨db K on⟩⟩ 159 (0,0)),(b4,.cells ⟨[.int .u8 on]⟩ 120 (0,0))]):=by
 obtain⟨c0,c1,c2,vc,vh,vr,vb,va,vf,vt,hv,hf,rh,oF,hr,Ci,GD,Ix,bS⟩:=id hF
 obtain⟨hc,hh,cY⟩:=id rh
 obtain⟨eL,Bh,Bg,eH,rfl,DO,zb,za⟩:=hc
 obtain⟨dN,u4,u3,dD,rfl,xD,qV,qU⟩:=hh
 obtain⟨mj,Ld,Lc,mi,rfl,Om,Jh,Jg⟩:=hr
 obtain⟨kB,Ia,H8,jR,rfl,H9,DT,DR⟩:=Ci
 obtain⟨kD,Ie,Ib,jT,rfl,Ic,DV,DU⟩:=GD
 obtain⟨mo,SA,Sx,k8,rfl,Sz,Lf,Le⟩:=Ix
 obtain⟨nF,DM,DL,ng,rfl,Oj,La,K0⟩:=bS
 have Rj:=hV.rules.1
 have Av:=hV.before.1
 have Dg:=hV.after.1
 have hnf:=hV.facts.1
 refine bA au [] [] a8<|zD 2<|jn fun b2=>jn fun b3=>zD 4<|jn fun b5=>jd 8 [2]<|jl (b:=f) (off:=0) (m:=13) (vs:=[c0,c1,c2,.slice eL K.cs.length eH,.slice dN hv.length dD,.slice mj K.rules.length mi,.slice kB K.before.length jR,.slice kD K.after.length jT,zI K.gone,zI K.new,zI K.af,.slice mo K.facts.length k8,.slice nF rows.length ng]) 6 ⟨_,_,_,.inl hf,rfl⟩<|zD 4<|dW [1,1,0,1,0,0] [] (fun(zz:Nat×bH)=>[(2,zP b2),(3,zP b3),(4,.nilFunc),(5,zP b5),(14,zI (K.before.length:Int)),(15,zI (zz.1:Int))]) (fun(zz:Nat×bH)=>[.b b5 (.cells ⟨[.bool (zz.2.c 0 0),.bool (zz.2.c 0 1),.bool (zz.2.c 0 2),.bool (zz.2.c 0 3),.bool (zz.2.c 1 0),.bool (zz.2.c 1 1),.bool (zz.2.c 1 2),.bool (zz.2.c 1 3),.bool (zz.2.c 2 0),.bool (zz.2.c 2 1),.bool (zz.2.c 2 2),.bool (zz.2.c 2 3),.bool (zz.2.c 3 0),.bool (zz.2.c 3 1),.bool (zz.2.c 3 2),.bool (zz.2.c 3 3)]⟩ 159 (0,0)),.b b3 (.cells ⟨[.int .u8 on]⟩ 120 (0,0)),.b b2 (.cells ⟨[zP f]⟩ 104 (0,0))]) (fun(zz:Nat×bH)=>zz.1≤K.before.length∧Ep K on zz.1 0 zz.2) (fun(zz:Nat×bH)=>K.before.length-zz.1) (⟨0,⟨fun _ _=>false⟩⟩) ⟨by dsimp only;omega,fun x y=>by simp⟩ [0,1,2] ?_
 rintro⟨i,r⟩ hI K1 bK rest
 dsimp only at hI
 refine zD 5<|zJ 16 ((i:Int) <(K.before.length:Int)) (fun h1=>?_) fun h1=>?_
 ·
  refine jd 15 [2]<|jl (b:=f) (off:=0) (m:=13) (vs:=[c0,c1,c2,.slice eL K.cs.length eH,.slice dN hv.length dD,.slice mj K.rules.length mi,.slice kB K.before.length jR,.slice kD K.after.length jT,zI K.gone,zI K.new,zI K.af,.slice mo K.facts.length k8,.slice nF rows.length ng]) 7 ⟨_,_,_,.inl hf,rfl⟩<|zD 4<|dW [1,1,0,1,0,0,1,1,0,0,1,1,0,0] [K1] (fun(zz:Nat×bH)=>[(2,zP b2),(3,zP b3),(4,.nilFunc),(5,zP b5),(6,zI (i:Int)),(14,zI (K.before.length:Int)),(15,zI (i:Int)),(23,zI (K.after.length:Int)),(24,zI (zz.1:Int))]) (fun(zz:Nat×bH)=>[.b b5 (.cells ⟨[.bool (zz.2.c 0 0),.bool (zz.2.c 0 1),.bool (zz.2.c 0 2),.bool (zz.2.c 0 3),.bool (zz.2.c 1 0),.bool (zz.2.c 1 1),.bool (zz.2.c 1 2),.bool (zz.2.c 1 3),.bool (zz.2.c 2 0),.bool (zz.2.c 2 1),.bool (zz.2.c 2 2),.bool (zz.2.c 2 3),.bool (zz.2.c 3 0),.bool (zz.2.c 3 1),.bool (zz.2.c 3 2),.bool (zz.2.c 3 3)]⟩ 159 (0,0)),.b b3 (.cells ⟨[.int .u8 on]⟩ 120 (0,0)),.b b2 (.cells ⟨[zP f]⟩ 104 (0,0))]) (fun(zz:Nat×bH)=>zz.1≤K.after.length∧Ep K on i zz.1 zz.2) (fun(zz:Nat×bH)=>K.after.length-zz.1) (⟨0,r⟩) ⟨by dsimp only;omega,hI.2⟩ [0,1,2] ?_
  rintro⟨j,r⟩ hJ K2 lg rest
  dsimp only at hJ
  refine zD 5<|zJ 25 ((j:Int) <(K.after.length:Int)) (fun h2=>?_) fun h2=>?_
  ·
   refine zD 9 ?_
   obtain⟨x,ha⟩:∃x,K.before[i]?=some x:=⟨_,List.getElem?_eq_getElem (by omega)⟩
   obtain⟨y,hb⟩:∃y,K.after[j]?=some y:=⟨_,List.getElem?_eq_getElem (by omega)⟩
   refine jd 7 [2,1]<|Gc (b:=b5) (off:=0) (len:=4) (sz:=4) (i:Int) (by omega)<|jp (vs:=[zP f,zI (i:Int),zI (j:Int),.int .u8 on]) [] [] (fun aB hs hZ=>az4 (hF.up hs) hV ha hb)<|Gc (b:=b5) (off:=0+(i:Int).toNat*4) (len:=4) (sz:=1) (j:Int) (by omega)<|aO 9 fun tv tx rY=>jsx 0 b5 (0+(i:Int).toNat*4+(j:Int).toNat*1) [.bool (r.c 0 0),.bool (r.c 0 1),.bool (r.c 0 2),.bool (r.c 0 3),.bool (r.c 1 0),.bool (r.c 1 1),.bool (r.c 1 2),.bool (r.c 1 3),.bool (r.c 2 0),.bool (r.c 2 1),.bool (r.c 2 2),.bool (r.c 2 3),.bool (r.c 3 0),.bool (r.c 3 1),.bool (r.c 3 2),.bool (r.c 3 3)] [.bool (db K on i j)] 159 (by intro v hv;rw[List.mem_singleton] at hv;subst hv;rfl) (Vm (r:=r) (by omega) (by omega)) ?_
   refine jmw 0 [.b b5 (.cells ⟨[.bool ((iU r i j (db K on i j)).c 0 0),.bool ((iU r i j (db K on i j)).c 0 1),.bool ((iU r i j (db K on i j)).c 0 2),.bool ((iU r i j (db K on i j)).c 0 3),.bool ((iU r i j (db K on i j)).c 1 0),.bool ((iU r i j (db K on i j)).c 1 1),.bool ((iU r i j (db K on i j)).c 1 2),.bool ((iU r i j (db K on i j)).c 1 3),.bool ((iU r i j (db K on i j)).c 2 0),.bool ((iU r i j (db K on i j)).c 2 1),.bool ((iU r i j (db K on i j)).c 2 2),.bool ((iU r i j (db K on i j)).c 2 3),.bool ((iU r i j (db K on i j)).c 3 0),.bool ((iU r i j (db K on i j)).c 3 1),.bool ((iU r i j (db K on i j)).c 3 2),.bool ((iU r i j (db K on i j)).c 3 3)]⟩ 159 (0,0))] (L:=[(b5,.cells ⟨du [.bool (r.c 0 0),.bool (r.c 0 1),.bool (r.c 0 2),.bool (r.c 0 3),.bool (r.c 1 0),.bool (r.c 1 1),.bool (r.c 1 2),.bool (r.c 1 3),.bool (r.c 2 0),.bool (r.c 2 1),.bool (r.c 2 2),.bool (r.c 2 3),.bool (r.c 3 0),.bool (r.c 3 1),.bool (r.c 3 2),.bool (r.c 3 3)] (0+(i:Int).toNat*4+(j:Int).toNat*1) [.bool (db K on i j)]⟩ 159 (0,0))]) (by rw[Vk (by omega) (by omega)];rfl) ?_
   refine jA rY []<|zD 2<|ja ((j:Int)+1) (by omega)<|zD 2<|bO lg (⟨j+1,(iU r i j (db K on i j))⟩) ⟨by dsimp only;omega,hJ.2.set⟩ (by dsimp only;omega) [0,1,2] (Sub.refl _)
  refine zD 3<|ja ((i:Int)+1) (by omega)<|zD 2<|bO bK (⟨i+1,r⟩) ⟨by dsimp only;omega,Ep.nxt (by have:=hJ.2;rwa[show j=K.after.length by omega] at this)⟩ (by dsimp only;omega) [0,1,2] (Sub.refl _)
 refine zD 5<|jn fun b8=>jd 8 [0]<|aE q0 (.func (.func 128) ⟨[]⟩ ⟨[zP b2,zP b8,zP b5]⟩) [] [3,0,1,2] ((b2,.cells ⟨[zP f]⟩ 104 (0,0))::((b8,.cells ⟨[.func (.func 127) ⟨[]⟩ ⟨[zP b2,zP b3]⟩]⟩ 221 (0,0))::((b5,.cells ⟨[.bool (r.c 0 0),.bool (r.c 0 1),.bool (r.c 0 2),.bool (r.c 0 3),.bool (r.c 1 0),.bool (r.c 1 1),.bool (r.c 1 2),.bool (r.c 1 3),.bool (r.c 2 0),.bool (r.c 2 1),.bool (r.c 2 2),.bool (r.c 2 3),.bool (r.c 3 0),.bool (r.c 3 1),.bool (r.c 3 2),.bool (r.c 3 3)]⟩ 159 (0,0))::[(b3,.cells ⟨[.int .u8 on]⟩ 120 (0,0))]))) (Sub.refl _) ⟨_,_,rfl,rfl,_,_,_,_,rfl,by have e:=Ep.fin (K:=K) (on:=on) (r:=r) (by have:=hI.2;rwa[show i=K.before.length by omega] at this);subst e;rfl⟩
theorem anY{rows:List bH}{H4:bH}{ro:Nat→Option Obj}(hF:pd ro f K rows)(hV:fy K)(Cb:rows[past]?=some H4) (hp:∀i,0≤p i∧p i≤4):de zT 95 [zP f,zI (past:Int),.agg ⟨[zI (p 0),zI (p 1),zI (p 2),zI (p 3)]⟩] ro (.agg ⟨cm (cW K H4 past p)⟩):=by
 obtain⟨c0,c1,c2,vc,vh,vr,vb,va,vf,vt,hv,hf,rh,oF,hr,Ci,GD,Ix,bS⟩:=id hF
 obtain⟨hc,hh,cY⟩:=id rh
 obtain⟨eL,Bh,Bg,eH,rfl,DO,zb,za⟩:=hc
 obtain⟨dN,u4,u3,dD,rfl,xD,qV,qU⟩:=hh
 obtain⟨mj,Ld,Lc,mi,rfl,Om,Jh,Jg⟩:=hr
 obtain⟨kB,Ia,H8,jR,rfl,H9,DT,DR⟩:=Ci
 obtain⟨kD,Ie,Ib,jT,rfl,Ic,DV,DU⟩:=GD
 obtain⟨mo,SA,Sx,k8,rfl,Sz,Lf,Le⟩:=Ix
 obtain⟨nF,DM,DL,ng,rfl,Oj,La,K0⟩:=bS
 have Rj:=hV.rules.1
 have Av:=hV.before.1
 have Dg:=hV.after.1
 have hnf:=hV.facts.1
 have hpc:=VA p
 have Px:=(List.getElem?_eq_some_iff.1 Cb).1
 refine bA au [] [] a8<|zD 2<|jn fun b5=>jn fun b6=>jd 4 [1]<|jp (vs:=[.agg ⟨[zI (p 0),zI (p 1),zI (p 2),zI (p 3)]⟩]) [] [] (fun aB hs hZ=>(arx (p0:=p 0) (p1:=p 1) (p2:=p 2) (p3:=p 3)))<|jd 10 [1]<|jl (b:=f) (off:=0) (m:=13) (vs:=[c0,c1,c2,.slice eL K.cs.length eH,.slice dN hv.length dD,.slice mj K.rules.length mi,.slice kB K.before.length jR,.slice kD K.after.length jT,zI K.gone,zI K.new,zI K.af,.slice mo K.facts.length k8,.slice nF rows.length ng]) 6 ⟨_,_,_,.inl hf,rfl⟩<|zD 2<|ja ((K.before.length:Int)-(vz (pL p))) (by omega)<|zD 4<|jl (b:=f) (off:=0) (m:=13) (vs:=[c0,c1,c2,.slice eL K.cs.length eH,.slice dN hv.length dD,.slice mj K.rules.length mi,.slice kB K.before.length jR,.slice kD K.after.length jT,zI K.gone,zI K.new,zI K.af,.slice mo K.facts.length k8,.slice nF rows.length ng]) 7 ⟨_,_,_,.inl hf,rfl⟩<|zD 2<|ja ((K.after.length:Int)-(vz (pL p))) (by omega)<|zD 1<|aO 19 fun Dz DJ Bn=>jn fun b8=>bI Bn [1,2]<|aO 20 fun Dy DI Ck=>jd 1 [0]<|e8 Ck<|jd 8 [2]<|dW [1,1,1,0,1,0,0] [] (fun(zz:Nat×Int)=>[(0,zP f),(1,zI (past:Int)),(6,zP b6),(8,zP b8),(32,.agg ⟨[zI (p 0),zI (p 1),zI (p 2),zI (p 3)]⟩),(33,zI (zz.1:Int))]) (fun(zz:Nat×Int)=>[.b b8 (.cells ⟨[zI (past:Int),zI (p 0),zI (p 1),zI (p 2),zI (p 3),zI ((K.before.length:Int)-(vz (pL p))),zI ((K.after.length:Int)-(vz (pL p))),zI zz.2]⟩ 115 (0,0)),.b b6 (.cells ⟨[zI 0,zI 0,zI 0,zI 0,zI 0,zI 0,zI 0,zI 0]⟩ 115 (0,0))]) (fun(zz:Nat×Int)=>zz.1≤4∧zz.2=Ij H4 p zz.1∧(0≤zz.2∧zz.2≤zz.1)) (fun(zz:Nat×Int)=>4-zz.1) (⟨0,0⟩) ⟨by dsimp only;omega,rfl,by dsimp only;omega⟩ [0,1] ?_
 rintro⟨k,m⟩ hI K3 hK3 rest
 dsimp only at hI
 refine zD 5<|zJ 34 ((k:Int) <4) (fun h3=>?_) fun h3=>?_
 ·
  refine zD 7<|jai (l:=[zI (p 0),zI (p 1),zI (p 2),zI (p 3)]) (k:Int) 4 1 false (by omega) (v:= zI (p k)) (show nth (eP4 p) _=_ from ajZ (by omega))<|zD 4 ?_
  have hpk:=hp k
  refine zD 4<|js 39 (decide ((p k)>0)) (fun h4=>?_) (fun h4=>?_)
  ·
   have xV:=h4
   replace xV:=of_decide_eq_true xV
   refine zD 3<|jl (b:=f) (off:=0) (m:=13) (vs:=[c0,c1,c2,.slice eL K.cs.length eH,.slice dN hv.length dD,.slice mj K.rules.length mi,.slice kB K.before.length jR,.slice kD K.after.length jT,zI K.gone,zI K.new,zI K.af,.slice mo K.facts.length k8,.slice nF rows.length ng]) 12 ⟨_,_,_,.inl hf,rfl⟩<|zD 3<|ja ((p k)-1) (by omega) ?_
   obtain⟨x48,Gi⟩:=zG rows past
   refine iK ng 16 La Gi<|Gc (b:=DM) (off:=DL+past*16+0) (len:=4) (sz:=4) (k:Int) (by omega)<|Gc (b:=DM) (off:=DL+past*16+0+(k:Int).toNat*4) (len:=4) (sz:=1) ((p k)-1) (by omega)<|jl (b:=DM) (off:=DL+past*16+0+(k:Int).toNat*4+((p k)-1).toNat*1) (m:=1) (vs:=[.bool (x48.c k ((p k)-1).toNat)]) 0 (show cy ⟨ro,[]⟩ DM (DL+past*16+0+(k:Int).toNat*4+((p k)-1).toNat*1) 1 [.bool (x48.c k ((p k)-1).toNat)] from by have:=ab0 (K0 _ _ Gi) (abP (r:=x48) (a:=k) (j:=(p k)-1) (by omega) (by omega));simpa [Nat.add_assoc] using this) ?_
   refine zD 3<|js 53 (!(x48.c k ((p k)-1).toNat)) (fun h5=>?_) (fun h5=>?_)
   ·
    try simp only[zB] at h5
    refine jd 4 [0]<|ja (m+1) (by omega)<|jd 4 [0]<|ja ((k:Int)+1) (by omega)<|zD 2<|bO hK3 (⟨k+1,(m+1)⟩) ⟨by dsimp only;omega,by dsimp only;rw[Ij,hI.2.1];rw[Cb] at Gi;cases Gi;simp only[decide_eq_true xV,h5,Bool.not_false,Bool.not_true,Bool.and_true,Bool.and_false,cond_true,cond_false,Int.add_zero],by dsimp only;omega⟩ (by dsimp only;omega) [0,1] (Sub.refl _)
   try simp only[zB] at h5
   refine zD 3<|ja ((k:Int)+1) (by omega)<|zD 2<|bO hK3 (⟨k+1,m⟩) ⟨by dsimp only;omega,by dsimp only;rw[Ij,hI.2.1];rw[Cb] at Gi;cases Gi;simp only[decide_eq_true xV,h5,Bool.not_false,Bool.not_true,Bool.and_true,Bool.and_false,cond_true,cond_false,Int.add_zero],by dsimp only;omega⟩ (by dsimp only;omega) [0,1] (Sub.refl _)
  have xV:=h4
  replace xV:=of_decide_eq_false xV
  refine zD 18<|ja ((k:Int)+1) (by omega)<|zD 2<|bO hK3 (⟨k+1,m⟩) ⟨by dsimp only;omega,by dsimp only;rw[Ij,hI.2.1];simp only[decide_eq_false xV,Bool.false_and,cond_false,Int.add_zero],by dsimp only;omega⟩ (by dsimp only;omega) [0,1] (Sub.refl _)
 refine jd 8 [0,1]<|aE q0 (.agg ⟨[zI (past:Int),zI (p 0),zI (p 1),zI (p 2),zI (p 3),zI ((K.before.length:Int)-(vz (pL p))),zI ((K.after.length:Int)-(vz (pL p))),zI m]⟩) [1] [] [] (Sub.refl _) ⟨_,_,rfl,rfl,by rw[hI.2.1,show k=4 by omega];rfl,rfl⟩
def wO(v:Value)(xs:List ai)(Y:Cells):Prop:=∃ys,ys.Perm xs∧aA v 8 115 cm ys Y
def gF(xs:List ai):Prop:=∀x∈xs,0≤x.past∧x.past≤1000
theorem gF.perm{xs ys:List ai}(h:gF xs)(hp:ys.Perm xs):gF ys:=fun x hx=>h x (hp.mem_iff.1 hx)
theorem ET{x:Int}(h:0≤x∧x≤1000000000):IntKind.i64.wrap (aR .u64 (IntKind.u64.wrap x) 1)=x / 2:=by
 have h1:IntKind.u64.wrap x=x:=sg .u64 rfl _ (by omega) (by simp[IntKind.bits];omega)
 rw[h1]
 have h2:aR .u64 x 1=x / 2:=by
  show x.fdiv 2=x / 2
  exact Int.fdiv_eq_ediv_of_nonneg _ (by decide)
 rw[h2,kz _ (by omega)]
theorem akX{x y:ai}{ro:Nat→Option Obj}(hx:0≤x.past∧x.past≤1000)(hy:0≤y.past∧y.past≤1000):de zT 110 [.agg ⟨[zI x.past,zI x.w0,zI x.w1,zI x.w2,zI x.w3,zI x.gone,zI x.new,zI x.af]⟩,.agg ⟨[zI y.past,zI y.w0,zI y.w1,zI y.w2,zI y.w3,zI y.gone,zI y.new,zI y.af]⟩] ro (zI (x.past-y.past)):=by
 refine bA au [] [] a8<|zD 2<|jn fun b2=>jn fun b3=>jd 8 [1,0]<|ja (x.past-y.past) (by omega)<|zD 3<|aE q0 (zI (x.past-y.past)) [] [] [] (Sub.refl _) ⟨_,_,rfl,rfl,rfl,rfl⟩
theorem ayd{v:Value}{xs:List ai}{L:Cells}{a b:Int}{ro:Nat→Option Obj}(ho:aA v 8 115 cm xs L)(hN:xs.length≤100000)(hP:gF xs)(Bm:0≤a∧a≤b∧b≤xs.length):eE zT 169 [v,zI a,zI b,.func (.func 110) ⟨[]⟩ ⟨[]⟩] ro L (fun r Y=>wO v xs Y):=by
 refine bA au [.l L] [] a8<|zD 3<|ja (a+1) (by omega)<|zD 3<|dW [1,0,0] [] (fun(zz:Int×(List ai)×Cells)=>[(0,v),(1,zI a),(2,zI b),(3,.func (.func 110) ⟨[]⟩ ⟨[]⟩),(8,zI zz.1)]) (fun(zz:Int×(List ai)×Cells)=>[.l zz.2.2]) (fun(zz:Int×(List ai)×Cells)=>(a+1≤zz.1)∧aA v 8 115 cm zz.2.1 zz.2.2∧zz.2.1.Perm xs) (fun(zz:Int×(List ai)×Cells)=>(b-zz.1).toNat) (⟨(a+1),xs,L⟩) ⟨by dsimp only;omega,ho,.refl _⟩ [0] ?_
 rintro⟨i,ys,L⟩ hI K1 bK rest
 dsimp only at hI
 have Wi:=hI.2.2.length_eq
 have hyp:=hP.perm hI.2.2
 refine zD 7<|zJ 14 (i <b) (fun h1=>?_) fun h1=>?_
 ·
  refine zD 10<|dW [1,0,0,1,0,0,1,0,0] [K1] (fun(zz:Int×(List ai)×Cells)=>[(0,v),(1,zI a),(2,zI b),(3,.func (.func 110) ⟨[]⟩ ⟨[]⟩),(8,zI i),(9,zI zz.1)]) (fun(zz:Int×(List ai)×Cells)=>[.l zz.2.2]) (fun(zz:Int×(List ai)×Cells)=>(a≤zz.1∧zz.1≤i)∧aA v 8 115 cm zz.2.1 zz.2.2∧zz.2.1.Perm xs) (fun(zz:Int×(List ai)×Cells)=>(zz.1-a).toNat) (⟨i,ys,L⟩) ⟨by dsimp only;omega,hI.2⟩ [0] ?_
  rintro⟨j,ys,L⟩ hJ K2 lg rest
  dsimp only at hJ
  have Wi:=hJ.2.2.length_eq
  have hyp:=hP.perm hJ.2.2
  refine zD 7<|js 3 (decide (j>a)) (fun h2=>?_) (fun h2=>?_)
  ·
   have my:=h2
   replace my:=of_decide_eq_true my
   refine zD 3 ?_
   obtain⟨yd,lf⟩:=zG ys (j.toNat) (by first|omega| (simp only[List.length_set];omega))
   refine qh j 8 hJ.2.1 lf (Int.toNat_of_nonneg (show 0≤j∧j <((ys).length:Int) from (by first|omega| (simp only[List.length_set];omega))).1).symm (fun dP afs=>?_)
   refine oQ 0 [0] L (fun s _ hZ=>cD hJ.2.1 afs hZ lf)<|zD 2<|ja (j-1) (by omega) ?_
   obtain⟨oP,ki⟩:=zG ys ((j-1).toNat) (by first|omega| (simp only[List.length_set];omega))
   refine qh (j-1) 8 hJ.2.1 ki (Int.toNat_of_nonneg (show 0≤(j-1)∧(j-1) <((ys).length:Int) from (by first|omega| (simp only[List.length_set];omega))).1).symm (fun b30 TD=>?_)
   refine oQ 0 [0] L (fun s _ hZ=>cD hJ.2.1 TD hZ ki)<|aO 14 fun tv tx rY=>jp (vs:=[.agg ⟨[zI yd.past,zI yd.w0,zI yd.w1,zI yd.w2,zI yd.w3,zI yd.gone,zI yd.new,zI yd.af]⟩,.agg ⟨[zI oP.past,zI oP.w0,zI oP.w1,zI oP.w2,zI oP.w3,zI oP.gone,zI oP.new,zI oP.af]⟩]) [] [] (fun aB hs hZ=>(akX (x:=yd) (y:=oP) (hyp _ (List.mem_of_getElem? lf)) (hyp _ (List.mem_of_getElem? ki))))<|bI rY [0]<|zD 3<|zJ 34 ((yd.past-oP.past) <0) (fun h4=>?_) fun h4=>?_
   ·
    refine zD 9<|ja (j-1) (by omega)<|zD 2<|ja (j-1) (by omega) ?_
    obtain⟨xB,D9⟩:=zG ys ((j-1).toNat) (by first|omega| (simp only[List.length_set];omega))
    refine qh (j-1) 8 hJ.2.1 D9 (Int.toNat_of_nonneg (show 0≤(j-1)∧(j-1) <((ys).length:Int) from (by first|omega| (simp only[List.length_set];omega))).1).symm (fun b45 afr=>?_)
    refine oQ 0 [0] L (fun s _ hZ=>cD hJ.2.1 afr hZ D9)<|zD 2 ?_
    obtain⟨HX,D8⟩:=zG ys (j.toNat) (by first|omega| (simp only[List.length_set];omega))
    refine qh j 8 hJ.2.1 D8 (Int.toNat_of_nonneg (show 0≤j∧j <((ys).length:Int) from (by first|omega| (simp only[List.length_set];omega))).1).symm (fun b49 afq=>?_)
    refine oQ 0 [0] L (fun s _ hZ=>cD hJ.2.1 afq hZ D8) ?_
    obtain⟨x51,D7⟩:=zG ys (j.toNat) (by first|omega| (simp only[List.length_set];omega))
    refine qh j 8 hJ.2.1 D7 (Int.toNat_of_nonneg (show 0≤j∧j <((ys).length:Int) from (by first|omega| (simp only[List.length_set];omega))).1).symm (fun b51 afp=>?_)
    refine aO 15 fun uM uO sR=>Re 0 0 [zI xB.past,zI xB.w0,zI xB.w1,zI xB.w2,zI xB.w3,zI xB.gone,zI xB.new,zI xB.af] xB hJ.2.1 afp D7 rfl rfl (Nat.le_of_ble_eq_true rfl) fun L6 Za=>jA sR [] ?_
    obtain⟨x52,Ca⟩:=zG ((ys.set j.toNat xB)) ((j-1).toNat) (by first|omega| (simp only[List.length_set];omega))
    refine qh (j-1) 8 Za Ca (Int.toNat_of_nonneg (show 0≤(j-1)∧(j-1) <(((ys.set j.toNat xB)).length:Int) from (by first|omega| (simp only[List.length_set];omega))).1).symm (fun b52 afo=>?_)
    refine aO 17 fun Dx DG Ef=>Re 0 0 [zI HX.past,zI HX.w0,zI HX.w1,zI HX.w2,zI HX.w3,zI HX.gone,zI HX.new,zI HX.af] HX Za afo Ca rfl rfl (Nat.le_of_ble_eq_true rfl) fun L9 aeS=>e8 Ef<|zD 3<|ja (j-1) (by omega)<|zD 2<|bO lg (⟨(j-1),((ys.set j.toNat xB).set ((j-1).toNat) HX),L9⟩) ⟨by dsimp only;omega,aeS,(nG D8 D9).trans hJ.2.2⟩ (by dsimp only;omega) [0] (Sub.refl _)
   refine zD 4<|ja (i+1) (by omega)<|zD 2<|bO bK (⟨(i+1),ys,L⟩) ⟨by dsimp only;omega,hJ.2⟩ (by dsimp only;omega) [0] (Sub.refl _)
  have my:=h2
  replace my:=of_decide_eq_false my
  refine zD 18<|ja (i+1) (by omega)<|zD 2<|bO bK (⟨(i+1),ys,L⟩) ⟨by dsimp only;omega,hJ.2⟩ (by dsimp only;omega) [0] (Sub.refl _)
 refine zD 2<|aE q0 (.tuple ⟨[]⟩) [] [0] L (Sub.refl _) ⟨_,_,rfl,rfl,ys,hI.2.2,hI.2.1⟩
def aGH(n:Nat):Prop:=∀(ro:Nat→Option Obj) (v:Value) (xs:List ai) (L:Cells) (a m b:Int),aA v 8 115 cm xs L→xs.length≤100000→gF xs→(0≤a∧a <m∧m <b∧b≤xs.length)→(b-a).toNat=n→
 eE zT 170 [v,zI a,zI m,zI b,.func (.func 110) ⟨[]⟩ ⟨[]⟩] ro L (fun _ Y=>wO v xs Y)
theorem abN{v:Value}{xs:List ai}{L:Cells}{a b n:Int}{ro:Nat→Option Obj}(ho:aA v 8 115 cm xs L)(hN:xs.length≤100000)(hP:gF xs)(Bm:(0≤a∧0≤b∧0≤n)∧a+n≤xs.length∧b+n≤xs.length∧a≠b):eE zT 230 [v,zI a,zI b,zI n,.func (.func 110) ⟨[]⟩ ⟨[]⟩] ro L (fun r Y=>wO v xs Y):=by
 refine bA au [.l L] [] a8<|zD 5<|dW [1,0,0] [] (fun(zz:Int×(List ai)×Cells)=>[(0,v),(1,zI a),(2,zI b),(3,zI n),(10,zI zz.1)]) (fun(zz:Int×(List ai)×Cells)=>[.l zz.2.2]) (fun(zz:Int×(List ai)×Cells)=>(0≤zz.1∧zz.1≤n)∧aA v 8 115 cm zz.2.1 zz.2.2∧zz.2.1.Perm xs) (fun(zz:Int×(List ai)×Cells)=>(n-zz.1).toNat) (⟨0,xs,L⟩) ⟨by dsimp only;omega,ho,.refl _⟩ [0] ?_
 rintro⟨i,ys,L⟩ hI K1 bK rest
 dsimp only at hI
 have Wi:=hI.2.2.length_eq
 have hyp:=hP.perm hI.2.2
 refine zD 7<|zJ 13 (i <n) (fun h1=>?_) fun h1=>?_
 ·
  refine zD 8<|ja (a+i) (by omega)<|zD 3<|ja (b+i) (by omega)<|zD 3<|ja (b+i) (by omega) ?_
  obtain⟨XH,ar9⟩:=zG ys ((b+i).toNat) (by first|omega| (simp only[List.length_set];omega))
  refine qh (b+i) 8 hI.2.1 ar9 (Int.toNat_of_nonneg (show 0≤(b+i)∧(b+i) <((ys).length:Int) from (by first|omega| (simp only[List.length_set];omega))).1).symm (fun b28 aR5=>?_)
  refine oQ 0 [0] L (fun s _ hZ=>cD hI.2.1 aR5 hZ ar9)<|zD 3<|ja (a+i) (by omega) ?_
  obtain⟨XG,Mf⟩:=zG ys ((a+i).toNat) (by first|omega| (simp only[List.length_set];omega))
  refine qh (a+i) 8 hI.2.1 Mf (Int.toNat_of_nonneg (show 0≤(a+i)∧(a+i) <((ys).length:Int) from (by first|omega| (simp only[List.length_set];omega))).1).symm (fun b34 aR2=>?_)
  refine oQ 0 [0] L (fun s _ hZ=>cD hI.2.1 aR2 hZ Mf) ?_
  obtain⟨x36,yJ⟩:=zG ys ((a+i).toNat) (by first|omega| (simp only[List.length_set];omega))
  refine qh (a+i) 8 hI.2.1 yJ (Int.toNat_of_nonneg (show 0≤(a+i)∧(a+i) <((ys).length:Int) from (by first|omega| (simp only[List.length_set];omega))).1).symm (fun dH atX=>?_)
  refine aO 21 fun Dy DI Ck=>Re 0 0 [zI XH.past,zI XH.w0,zI XH.w1,zI XH.w2,zI XH.w3,zI XH.gone,zI XH.new,zI XH.af] XH hI.2.1 atX yJ rfl rfl (Nat.le_of_ble_eq_true rfl) fun L3 ho4=>jA Ck [] ?_
  obtain⟨x37,YV⟩:=zG ((ys.set ((a+i).toNat) XH)) ((b+i).toNat) (by first|omega| (simp only[List.length_set];omega))
  refine qh (b+i) 8 ho4 YV (Int.toNat_of_nonneg (show 0≤(b+i)∧(b+i) <(((ys.set ((a+i).toNat) XH)).length:Int) from (by first|omega| (simp only[List.length_set];omega))).1).symm (fun b37 aR0=>?_)
  refine aO 23 fun tv tx rY=>Re 0 0 [zI XG.past,zI XG.w0,zI XG.w1,zI XG.w2,zI XG.w3,zI XG.gone,zI XG.new,zI XG.af] XG ho4 aR0 YV rfl rfl (Nat.le_of_ble_eq_true rfl) fun L6 Za=>e8 rY<|zD 3<|ja (i+1) (by omega)<|zD 2<|bO bK (⟨(i+1),((ys.set ((a+i).toNat) XH).set ((b+i).toNat) XG),L6⟩) ⟨by dsimp only;omega,Za,(nG Mf ar9).trans hI.2.2⟩ (by dsimp only;omega) [0] (Sub.refl _)
 refine zD 2<|aE q0 (.tuple ⟨[]⟩) [] [0] L (Sub.refl _) ⟨_,_,rfl,rfl,ys,hI.2.2,hI.2.1⟩
theorem aMv{v:Value}{xs:List ai}{L:Cells}{a m b:Int}{ro:Nat→Option Obj}(ho:aA v 8 115 cm xs L)(hN:xs.length≤100000)(hP:gF xs)(Bm:0≤a∧a <m∧m <b∧b≤xs.length):eE zT 202 [v,zI a,zI m,zI b,.func (.func 110) ⟨[]⟩ ⟨[]⟩] ro L (fun r Y=>wO v xs Y):=by
 refine bA au [.l L] [] a8<|zD 4<|ja (m-a) (by omega)<|zD 6<|ja (b-m) (by omega)<|zD 4<|dW [1,1,0,0,0] [] (fun(zz:Int×Int×(List ai)×Cells)=>[(0,v),(2,zI m),(4,.func (.func 110) ⟨[]⟩ ⟨[]⟩),(10,zI zz.1),(11,zI zz.2.1)]) (fun(zz:Int×Int×(List ai)×Cells)=>[.l zz.2.2.2]) (fun(zz:Int×Int×(List ai)×Cells)=>((0 <zz.1∧zz.1≤m-a)∧0 <zz.2.1∧zz.2.1≤b-m)∧aA v 8 115 cm zz.2.2.1 zz.2.2.2∧zz.2.2.1.Perm xs) (fun(zz:Int×Int×(List ai)×Cells)=>(zz.1+zz.2.1).toNat) (⟨(m-a),(b-m),xs,L⟩) ⟨by dsimp only;omega,ho,.refl _⟩ [0] ?_
 rintro⟨i,j,ys,L⟩ hI K1 bK rest
 dsimp only at hI
 have Wi:=hI.2.2.length_eq
 have hyp:=hP.perm hI.2.2
 refine zD 7<|js 20 (!decide (i=j)) (fun h1=>?_) (fun h1=>?_)
 ·
  replace h1:=of_decide_eq_false (by simpa using h1)
  refine zD 9<|zJ 23 (i>j) (fun h2=>?_) fun h2=>?_
  ·
   refine zD 6<|ja (m-i) (by omega)<|zD 3<|jc (vs:=[v,zI (m-i),zI m,zI j,.func (.func 110) ⟨[]⟩ ⟨[]⟩]) [0] (abN hI.2.1 (by omega) hyp (by omega)) ?_
   rintro bbj Y31 ⟨aJO,asD,aP4⟩
   have aXD:=asD.length_eq
   have aXw:=gF.perm hyp asD
   refine zD 4<|ja (i-j) (by omega)<|zD 2<|bO bK (⟨(i-j),j,aJO,Y31⟩) ⟨by dsimp only;omega,aP4,(asD.trans hI.2.2)⟩ (by dsimp only;omega) [0] (Sub.refl _)
  refine zD 6<|ja (m-i) (by omega)<|zD 2<|ja (m+j) (by omega)<|zD 1<|ja ((m+j)-i) (by omega)<|zD 2<|jc (vs:=[v,zI (m-i),zI ((m+j)-i),zI i,.func (.func 110) ⟨[]⟩ ⟨[]⟩]) [0] (abN hI.2.1 (by omega) hyp (by omega)) ?_
  rintro bbh Y46 ⟨aJM,asB,aP0⟩
  have aXB:=asB.length_eq
  have aXu:=gF.perm hyp asB
  refine zD 4<|ja (j-i) (by omega)<|zD 2<|bO bK (⟨i,(j-i),aJM,Y46⟩) ⟨by dsimp only;omega,aP0,(asB.trans hI.2.2)⟩ (by dsimp only;omega) [0] (Sub.refl _)
 replace h1:=of_decide_eq_true (by simpa using h1)
 refine zD 6<|ja (m-i) (by omega)<|zD 3<|jc (vs:=[v,zI (m-i),zI m,zI i,.func (.func 110) ⟨[]⟩ ⟨[]⟩]) [0] (abN hI.2.1 (by omega) hyp (by omega)) ?_
 rintro bbg Y57 ⟨bav,asz,alk⟩
 have aXA:=asz.length_eq
 have aXt:=gF.perm hyp asz
 refine zD 1<|aE q0 (.tuple ⟨[]⟩) [] [0] Y57 (Sub.refl _) ⟨_,_,rfl,rfl,_,(asz.trans hI.2.2),alk⟩
theorem aya{v:Value}{xs:List ai}{L:Cells}{a m b:Int}{ro:Nat→Option Obj}(ih:∀k,k <n→aGH k)(ho:aA v 8 115 cm xs L)(hN:xs.length≤100000)(hP:gF xs)(Bm:0≤a∧a <m∧m <b∧b≤xs.length)(hn:(b-a).toNat=n):eE zT 170 [v,zI a,zI m,zI b,.func (.func 110) ⟨[]⟩ ⟨[]⟩] ro L (fun r Y=>wO v xs Y):=by
 refine bA au [.l L] [] a8<|zD 5<|ja (m-a) (by omega)<|zD 2<|zJ 28 ((m-a)=1) (fun h1=>?_) fun h1=>?_
 ·
  refine zD 13<|dW [0,1,0,1,1,0,0,0] [] (fun(zz:Int×Int)=>[(0,v),(1,zI a),(2,zI m),(3,zI b),(4,.func (.func 110) ⟨[]⟩ ⟨[]⟩),(10,zI zz.1),(11,zI zz.2)]) (fun(zz:Int×Int)=>[.l L]) (fun(zz:Int×Int)=>(m≤zz.1∧zz.1≤zz.2)∧zz.2≤b) (fun(zz:Int×Int)=>(zz.2-zz.1).toNat) (⟨m,b⟩) (by dsimp only;omega) [0] ?_
  rintro⟨i,j⟩ hI K1 bK rest
  dsimp only at hI
  refine zD 7<|zJ 33 (i <j) (fun h2=>?_) fun h2=>?_
  ·
   refine zD 7<|ja (i+j) (by omega)<|zD 6 ?_
   have hh:=ET (x:=i+j) (by omega)
   refine zD 4 ?_
   obtain⟨x43,ar6⟩:=zG xs ((IntKind.i64.wrap (aR .u64 (IntKind.u64.wrap (i+j)) 1)).toNat) (by first|omega| (simp only[List.length_set];omega))
   refine qh (IntKind.i64.wrap (aR .u64 (IntKind.u64.wrap (i+j)) 1)) 8 ho ar6 (Int.toNat_of_nonneg (show 0≤(IntKind.i64.wrap (aR .u64 (IntKind.u64.wrap (i+j)) 1))∧(IntKind.i64.wrap (aR .u64 (IntKind.u64.wrap (i+j)) 1)) <((xs).length:Int) from (by first|omega| (simp only[List.length_set];omega))).1).symm (fun b43 aRW=>?_)
   refine oQ 0 [0] L (fun s _ hZ=>cD ho aRW hZ ar6)<|zD 2 ?_
   obtain⟨x47,S6⟩:=zG xs (a.toNat) (by first|omega| (simp only[List.length_set];omega))
   refine qh a 8 ho S6 (Int.toNat_of_nonneg (show 0≤a∧a <((xs).length:Int) from (by first|omega| (simp only[List.length_set];omega))).1).symm (fun b47 aRV=>?_)
   refine oQ 0 [0] L (fun s _ hZ=>cD ho aRV hZ S6)<|aO 9 fun Dy DI Ck=>jp (vs:=[.agg ⟨[zI x43.past,zI x43.w0,zI x43.w1,zI x43.w2,zI x43.w3,zI x43.gone,zI x43.new,zI x43.af]⟩,.agg ⟨[zI x47.past,zI x47.w0,zI x47.w1,zI x47.w2,zI x47.w3,zI x47.gone,zI x47.new,zI x47.af]⟩]) [] [] (fun aB hs hZ=>(akX (x:=x43) (y:=x47) (hP _ (List.mem_of_getElem? ar6)) (hP _ (List.mem_of_getElem? S6))))<|bI Ck [0]<|zD 2<|zJ 50 ((x43.past-x47.past) <0) (fun h4=>?_) fun h4=>?_
   ·
    refine zD 3<|ja ((IntKind.i64.wrap (aR .u64 (IntKind.u64.wrap (i+j)) 1))+1) (by omega)<|zD 2<|bO bK (⟨((IntKind.i64.wrap (aR .u64 (IntKind.u64.wrap (i+j)) 1))+1),j⟩) (by dsimp only;omega) (by dsimp only;omega) [0] (Sub.refl _)
   refine zD 5<|bO bK (⟨i,(IntKind.i64.wrap (aR .u64 (IntKind.u64.wrap (i+j)) 1))⟩) (by dsimp only;omega) (by dsimp only;omega) [0] (Sub.refl _)
  refine zD 9<|dW [0,1,0,1,1,1,0,1,0,0] [] (fun(zz:Int×(List ai)×Cells)=>[(0,v),(1,zI a),(2,zI m),(3,zI b),(4,.func (.func 110) ⟨[]⟩ ⟨[]⟩),(10,zI i),(13,zI zz.1)]) (fun(zz:Int×(List ai)×Cells)=>[.l zz.2.2]) (fun(zz:Int×(List ai)×Cells)=>a≤zz.1∧aA v 8 115 cm zz.2.1 zz.2.2∧zz.2.1.Perm xs) (fun(zz:Int×(List ai)×Cells)=>(i-zz.1).toNat) (⟨a,xs,L⟩) ⟨by dsimp only;omega,ho,.refl _⟩ [0] ?_
  rintro⟨k,ys,L⟩ hJ K3 hK3 rest
  dsimp only at hJ
  have Wi:=hJ.2.2.length_eq
  have hyp:=hP.perm hJ.2.2
  refine zD 5<|ja (i-1) (by omega)<|zD 2<|zJ 58 (k <(i-1)) (fun h5=>?_) fun h5=>?_
  ·
   refine zD 9<|ja (k+1) (by omega)<|zD 2<|ja (k+1) (by omega) ?_
   obtain⟨RB,YU⟩:=zG ys ((k+1).toNat) (by first|omega| (simp only[List.length_set];omega))
   refine qh (k+1) 8 hJ.2.1 YU (Int.toNat_of_nonneg (show 0≤(k+1)∧(k+1) <((ys).length:Int) from (by first|omega| (simp only[List.length_set];omega))).1).symm (fun b69 atV=>?_)
   refine oQ 0 [0] L (fun s _ hZ=>cD hJ.2.1 atV hZ YU)<|zD 2 ?_
   obtain⟨x73,YT⟩:=zG ys (k.toNat) (by first|omega| (simp only[List.length_set];omega))
   refine qh k 8 hJ.2.1 YT (Int.toNat_of_nonneg (show 0≤k∧k <((ys).length:Int) from (by first|omega| (simp only[List.length_set];omega))).1).symm (fun b73 aRQ=>?_)
   refine oQ 0 [0] L (fun s _ hZ=>cD hJ.2.1 aRQ hZ YT) ?_
   obtain⟨x75,S5⟩:=zG ys (k.toNat) (by first|omega| (simp only[List.length_set];omega))
   refine qh k 8 hJ.2.1 S5 (Int.toNat_of_nonneg (show 0≤k∧k <((ys).length:Int) from (by first|omega| (simp only[List.length_set];omega))).1).symm (fun b75 aRO=>?_)
   refine aO 15 fun uM uO sR=>Re 0 0 [zI RB.past,zI RB.w0,zI RB.w1,zI RB.w2,zI RB.w3,zI RB.gone,zI RB.new,zI RB.af] RB hJ.2.1 aRO S5 rfl rfl (Nat.le_of_ble_eq_true rfl) fun L7 ho8=>jA sR [] ?_
   obtain⟨x76,aAp⟩:=zG ((ys.set k.toNat RB)) ((k+1).toNat) (by first|omega| (simp only[List.length_set];omega))
   refine qh (k+1) 8 ho8 aAp (Int.toNat_of_nonneg (show 0≤(k+1)∧(k+1) <(((ys.set k.toNat RB)).length:Int) from (by first|omega| (simp only[List.length_set];omega))).1).symm (fun b76 aRN=>?_)
   refine aO 17 fun Dx DG Ef=>Re 0 0 [zI x73.past,zI x73.w0,zI x73.w1,zI x73.w2,zI x73.w3,zI x73.gone,zI x73.new,zI x73.af] x73 ho8 aRN aAp rfl rfl (Nat.le_of_ble_eq_true rfl) fun L10 asL=>e8 Ef<|zD 3<|ja (k+1) (by omega)<|zD 2<|bO hK3 (⟨(k+1),((ys.set k.toNat RB).set ((k+1).toNat) x73),L10⟩) ⟨by dsimp only;omega,asL,(nG YT YU).trans hJ.2.2⟩ (by dsimp only;omega) [0] (Sub.refl _)
  refine zD 3<|aE q0 (.tuple ⟨[]⟩) [] [0] L (Sub.refl _) ⟨_,_,rfl,rfl,_,hJ.2.2,hJ.2.1⟩
 refine zD 7<|ja (b-m) (by omega)<|zD 2<|zJ 80 ((b-m)=1) (fun Bp=>?_) fun Bp=>?_
 ·
  refine zD 13<|dW [1,0,1,0,1,1,0,0,0] [] (fun(zz:Int×Int)=>[(0,v),(1,zI a),(2,zI m),(3,zI b),(4,.func (.func 110) ⟨[]⟩ ⟨[]⟩),(14,zI zz.1),(15,zI zz.2)]) (fun(zz:Int×Int)=>[.l L]) (fun(zz:Int×Int)=>(a≤zz.1∧zz.1≤zz.2)∧zz.2≤m) (fun(zz:Int×Int)=>(zz.2-zz.1).toNat) (⟨a,m⟩) (by dsimp only;omega) [0] ?_
  rintro⟨i,j⟩ hI K6 hK6 rest
  dsimp only at hI
  refine zD 7<|zJ 85 (i <j) (fun xe=>?_) fun xe=>?_
  ·
   refine zD 7<|ja (i+j) (by omega)<|zD 6 ?_
   have hh:=ET (x:=i+j) (by omega)
   refine zD 4 ?_
   obtain⟨x95,ar4⟩:=zG xs (m.toNat) (by first|omega| (simp only[List.length_set];omega))
   refine qh m 8 ho ar4 (Int.toNat_of_nonneg (show 0≤m∧m <((xs).length:Int) from (by first|omega| (simp only[List.length_set];omega))).1).symm (fun b95 aRL=>?_)
   refine oQ 0 [0] L (fun s _ hZ=>cD ho aRL hZ ar4)<|zD 2 ?_
   obtain⟨x99,ar3⟩:=zG xs ((IntKind.i64.wrap (aR .u64 (IntKind.u64.wrap (i+j)) 1)).toNat) (by first|omega| (simp only[List.length_set];omega))
   refine qh (IntKind.i64.wrap (aR .u64 (IntKind.u64.wrap (i+j)) 1)) 8 ho ar3 (Int.toNat_of_nonneg (show 0≤(IntKind.i64.wrap (aR .u64 (IntKind.u64.wrap (i+j)) 1))∧(IntKind.i64.wrap (aR .u64 (IntKind.u64.wrap (i+j)) 1)) <((xs).length:Int) from (by first|omega| (simp only[List.length_set];omega))).1).symm (fun b99 aRK=>?_)
   refine oQ 0 [0] L (fun s _ hZ=>cD ho aRK hZ ar3)<|aO 9 fun ai0 ajo TO=>jp (vs:=[.agg ⟨[zI x95.past,zI x95.w0,zI x95.w1,zI x95.w2,zI x95.w3,zI x95.gone,zI x95.new,zI x95.af]⟩,.agg ⟨[zI x99.past,zI x99.w0,zI x99.w1,zI x99.w2,zI x99.w3,zI x99.gone,zI x99.new,zI x99.af]⟩]) [] [] (fun aB hs hZ=>(akX (x:=x95) (y:=x99) (hP _ (List.mem_of_getElem? ar4)) (hP _ (List.mem_of_getElem? ar3))))<|bI TO [0]<|zD 3<|js 103 (!(decide ((x95.past-x99.past) <0))) (fun GK=>?_) (fun GK=>?_)
   ·
    try simp only[zB] at GK
    refine zD 3<|ja ((IntKind.i64.wrap (aR .u64 (IntKind.u64.wrap (i+j)) 1))+1) (by omega)<|zD 2<|bO hK6 (⟨((IntKind.i64.wrap (aR .u64 (IntKind.u64.wrap (i+j)) 1))+1),j⟩) (by dsimp only;omega) (by dsimp only;omega) [0] (Sub.refl _)
   try simp only[zB] at GK
   refine zD 5<|bO hK6 (⟨i,(IntKind.i64.wrap (aR .u64 (IntKind.u64.wrap (i+j)) 1))⟩) (by dsimp only;omega) (by dsimp only;omega) [0] (Sub.refl _)
  refine zD 9<|dW [1,0,1,0,1,1,1,0,1,0,0] [] (fun(zz:Int×(List ai)×Cells)=>[(0,v),(1,zI a),(2,zI m),(3,zI b),(4,.func (.func 110) ⟨[]⟩ ⟨[]⟩),(14,zI i),(17,zI zz.1)]) (fun(zz:Int×(List ai)×Cells)=>[.l zz.2.2]) (fun(zz:Int×(List ai)×Cells)=>(a≤i∧zz.1≤m)∧aA v 8 115 cm zz.2.1 zz.2.2∧zz.2.1.Perm xs) (fun(zz:Int×(List ai)×Cells)=>(zz.1-i).toNat) (⟨m,xs,L⟩) ⟨by dsimp only;omega,ho,.refl _⟩ [0] ?_
  rintro⟨k,ys,L⟩ hJ K8 hK8 rest
  dsimp only at hJ
  have Wi:=hJ.2.2.length_eq
  have hyp:=hP.perm hJ.2.2
  refine zD 7<|zJ 110 (k>i) (fun IA=>?_) fun IA=>?_
  ·
   refine zD 9<|ja (k-1) (by omega)<|zD 2<|ja (k-1) (by omega) ?_
   obtain⟨Bt,aea⟩:=zG ys ((k-1).toNat) (by first|omega| (simp only[List.length_set];omega))
   refine qh (k-1) 8 hJ.2.1 aea (Int.toNat_of_nonneg (show 0≤(k-1)∧(k-1) <((ys).length:Int) from (by first|omega| (simp only[List.length_set];omega))).1).symm (fun bf4 aCu=>?_)
   refine oQ 0 [0] L (fun s _ hZ=>cD hJ.2.1 aCu hZ aea)<|zD 2 ?_
   obtain⟨H0,ad9⟩:=zG ys (k.toNat) (by first|omega| (simp only[List.length_set];omega))
   refine qh k 8 hJ.2.1 ad9 (Int.toNat_of_nonneg (show 0≤k∧k <((ys).length:Int) from (by first|omega| (simp only[List.length_set];omega))).1).symm (fun bf3 aCt=>?_)
   refine oQ 0 [0] L (fun s _ hZ=>cD hJ.2.1 aCt hZ ad9) ?_
   obtain⟨baC,an2⟩:=zG ys (k.toNat) (by first|omega| (simp only[List.length_set];omega))
   refine qh k 8 hJ.2.1 an2 (Int.toNat_of_nonneg (show 0≤k∧k <((ys).length:Int) from (by first|omega| (simp only[List.length_set];omega))).1).symm (fun bf2 aCs=>?_)
   refine aO 15 fun aaF abj Zo=>Re 0 0 [zI Bt.past,zI Bt.w0,zI Bt.w1,zI Bt.w2,zI Bt.w3,zI Bt.gone,zI Bt.new,zI Bt.af] Bt hJ.2.1 aCs an2 rfl rfl (Nat.le_of_ble_eq_true rfl) fun L18 aBf=>jA Zo [] ?_
   obtain⟨baB,ad8⟩:=zG ((ys.set k.toNat Bt)) ((k-1).toNat) (by first|omega| (simp only[List.length_set];omega))
   refine qh (k-1) 8 aBf ad8 (Int.toNat_of_nonneg (show 0≤(k-1)∧(k-1) <(((ys.set k.toNat Bt)).length:Int) from (by first|omega| (simp only[List.length_set];omega))).1).symm (fun M1 aCr=>?_)
   refine aO 17 fun IN IV yS=>Re 0 0 [zI H0.past,zI H0.w0,zI H0.w1,zI H0.w2,zI H0.w3,zI H0.gone,zI H0.new,zI H0.af] H0 aBf aCr ad8 rfl rfl (Nat.le_of_ble_eq_true rfl) fun L21 aP7=>e8 yS<|zD 3<|ja (k-1) (by omega)<|zD 2<|bO hK8 (⟨(k-1),((ys.set k.toNat Bt).set ((k-1).toNat) H0),L21⟩) ⟨by dsimp only;omega,aP7,(nG ad9 aea).trans hJ.2.2⟩ (by dsimp only;omega) [0] (Sub.refl _)
  refine zD 3<|aE q0 (.tuple ⟨[]⟩) [] [0] L (Sub.refl _) ⟨_,_,rfl,rfl,_,hJ.2.2,hJ.2.1⟩
 refine zD 6<|ja (a+b) (by omega)<|zD 6 ?_
 have bee:=ET (x:=a+b) (by omega)
 refine zD 3<|ja ((IntKind.i64.wrap (aR .u64 (IntKind.u64.wrap (a+b)) 1))+m) (by omega)<|zD 14<|JO [1,1,1,1,1,1] [] (fun(zz:Int×Int)=>[(0,v),(1,zI a),(2,zI m),(3,zI b),(4,.func (.func 110) ⟨[]⟩ ⟨[]⟩),(18,zI (IntKind.i64.wrap (aR .u64 (IntKind.u64.wrap (a+b)) 1))),(19,zI ((IntKind.i64.wrap (aR .u64 (IntKind.u64.wrap (a+b)) 1))+m)),(20,zI zz.1),(21,zI zz.2)]) (fun(zz:Int×Int)=>[.l L]) (fun(zz:Int×Int)=>(a≤zz.1∧zz.1≤zz.2)∧zz.2≤b∧a≤((IntKind.i64.wrap (aR .u64 (IntKind.u64.wrap (a+b)) 1))+m)-zz.2∧((IntKind.i64.wrap (aR .u64 (IntKind.u64.wrap (a+b)) 1))+m)-zz.1≤b) ?_ (fun K11 aEO=>?_)
 ·
  rintro⟨s0,r0⟩ hC rest
  dsimp only at hC
  refine zD 3<|ja (((IntKind.i64.wrap (aR .u64 (IntKind.u64.wrap (a+b)) 1))+m)-1) (by omega)<|zD 4<|dW [1,1,1,1,1,1,1,0,0,0] [] (fun(zz:Int×Int)=>[(0,v),(1,zI a),(2,zI m),(3,zI b),(4,.func (.func 110) ⟨[]⟩ ⟨[]⟩),(18,zI (IntKind.i64.wrap (aR .u64 (IntKind.u64.wrap (a+b)) 1))),(19,zI ((IntKind.i64.wrap (aR .u64 (IntKind.u64.wrap (a+b)) 1))+m)),(20,zI zz.1),(21,zI zz.2),(22,zI (((IntKind.i64.wrap (aR .u64 (IntKind.u64.wrap (a+b)) 1))+m)-1))]) (fun(zz:Int×Int)=>[.l L]) (fun(zz:Int×Int)=>(a≤zz.1∧zz.1≤zz.2)∧zz.2≤b∧a≤((IntKind.i64.wrap (aR .u64 (IntKind.u64.wrap (a+b)) 1))+m)-zz.2∧((IntKind.i64.wrap (aR .u64 (IntKind.u64.wrap (a+b)) 1))+m)-zz.1≤b) (fun(zz:Int×Int)=>(zz.2-zz.1).toNat) (⟨s0,r0⟩) hC [0] ?_
  rintro⟨sx,r⟩ hK K12 aEN rest
  dsimp only at hK
  refine zD 7<|zJ 151 (sx <r) (fun EU=>?_) fun EU=>?_
  ·
   refine zD 7<|ja (sx+r) (by omega)<|zD 6 ?_
   have hsr:=ET (x:=sx+r) (by omega)
   refine zD 5<|ja ((((IntKind.i64.wrap (aR .u64 (IntKind.u64.wrap (a+b)) 1))+m)-1)-(IntKind.i64.wrap (aR .u64 (IntKind.u64.wrap (sx+r)) 1))) (by omega) ?_
   obtain⟨HZ,ad5⟩:=zG xs (((((IntKind.i64.wrap (aR .u64 (IntKind.u64.wrap (a+b)) 1))+m)-1)-(IntKind.i64.wrap (aR .u64 (IntKind.u64.wrap (sx+r)) 1))).toNat) (by first|omega| (simp only[List.length_set];omega))
   refine qh ((((IntKind.i64.wrap (aR .u64 (IntKind.u64.wrap (a+b)) 1))+m)-1)-(IntKind.i64.wrap (aR .u64 (IntKind.u64.wrap (sx+r)) 1))) 8 ho ad5 (Int.toNat_of_nonneg (show 0≤((((IntKind.i64.wrap (aR .u64 (IntKind.u64.wrap (a+b)) 1))+m)-1)-(IntKind.i64.wrap (aR .u64 (IntKind.u64.wrap (sx+r)) 1)))∧((((IntKind.i64.wrap (aR .u64 (IntKind.u64.wrap (a+b)) 1))+m)-1)-(IntKind.i64.wrap (aR .u64 (IntKind.u64.wrap (sx+r)) 1))) <((xs).length:Int) from (by first|omega| (simp only[List.length_set];omega))).1).symm (fun bf0 aCp=>?_)
   refine oQ 0 [0] L (fun s _ hZ=>cD ho aCp hZ ad5)<|zD 2 ?_
   obtain⟨HY,ad4⟩:=zG xs ((IntKind.i64.wrap (aR .u64 (IntKind.u64.wrap (sx+r)) 1)).toNat) (by first|omega| (simp only[List.length_set];omega))
   refine qh (IntKind.i64.wrap (aR .u64 (IntKind.u64.wrap (sx+r)) 1)) 8 ho ad4 (Int.toNat_of_nonneg (show 0≤(IntKind.i64.wrap (aR .u64 (IntKind.u64.wrap (sx+r)) 1))∧(IntKind.i64.wrap (aR .u64 (IntKind.u64.wrap (sx+r)) 1)) <((xs).length:Int) from (by first|omega| (simp only[List.length_set];omega))).1).symm (fun bfZ aCo=>?_)
   refine oQ 0 [0] L (fun s _ hZ=>cD ho aCo hZ ad4)<|aO 11 fun am1 ani Ms=>jp (vs:=[.agg ⟨[zI HZ.past,zI HZ.w0,zI HZ.w1,zI HZ.w2,zI HZ.w3,zI HZ.gone,zI HZ.new,zI HZ.af]⟩,.agg ⟨[zI HY.past,zI HY.w0,zI HY.w1,zI HY.w2,zI HY.w3,zI HY.gone,zI HY.new,zI HY.af]⟩]) [] [] (fun aB hs hZ=>(akX (x:=HZ) (y:=HY) (hP _ (List.mem_of_getElem? ad5)) (hP _ (List.mem_of_getElem? ad4))))<|bI Ms [0]<|zD 3<|js 171 (!(decide ((HZ.past-HY.past) <0))) (fun h25=>?_) (fun h25=>?_)
   ·
    try simp only[zB] at h25
    refine zD 3<|ja ((IntKind.i64.wrap (aR .u64 (IntKind.u64.wrap (sx+r)) 1))+1) (by omega)<|zD 2<|bO aEN (⟨((IntKind.i64.wrap (aR .u64 (IntKind.u64.wrap (sx+r)) 1))+1),r⟩) (by dsimp only;omega) (by dsimp only;omega) [0] (Sub.refl _)
   try simp only[zB] at h25
   refine zD 5<|bO aEN (⟨sx,(IntKind.i64.wrap (aR .u64 (IntKind.u64.wrap (sx+r)) 1))⟩) (by dsimp only;omega) (by dsimp only;omega) [0] (Sub.refl _)
  refine zD 6<|ja (((IntKind.i64.wrap (aR .u64 (IntKind.u64.wrap (a+b)) 1))+m)-sx) (by omega)<|zD 9<|jj 4 [(0,v),(1,zI a),(2,zI m),(3,zI b),(4,.func (.func 110) ⟨[]⟩ ⟨[]⟩),(18,zI (IntKind.i64.wrap (aR .u64 (IntKind.u64.wrap (a+b)) 1))),(20,zI sx),(24,zI (((IntKind.i64.wrap (aR .u64 (IntKind.u64.wrap (a+b)) 1))+m)-sx)),(185,.bool ((decide (sx <m))&&(decide (m <(((IntKind.i64.wrap (aR .u64 (IntKind.u64.wrap (a+b)) 1))+m)-sx)))))] (fun gT=>?_) (fun hj=>?_)
  rotate_left
  refine js 181 (decide (sx <m)) (fun Zv=>?_) (fun Zv=>?_)
  ·
   have agb:=Zv
   replace agb:=of_decide_eq_true agb
   refine zD 4<|jw 185 (.bool ((decide (sx <m))&&(decide (m <(((IntKind.i64.wrap (aR .u64 (IntKind.u64.wrap (a+b)) 1))+m)-sx))))) (w:= .bool (decide (m <(((IntKind.i64.wrap (aR .u64 (IntKind.u64.wrap (a+b)) 1))+m)-sx)))) (by rw[Zv]<;>rfl) ?_
   exact hj _ (by kernel_rfl) (by kernel_rfl)
  ·
   have agb:=Zv
   replace agb:=of_decide_eq_false agb
   refine zD 4<|jw 185 (.bool ((decide (sx <m))&&(decide (m <(((IntKind.i64.wrap (aR .u64 (IntKind.u64.wrap (a+b)) 1))+m)-sx))))) (w:= .bool false) (by rw[Zv]<;>rfl) ?_
   exact hj _ (by kernel_rfl) (by kernel_rfl)
  refine zD 1<|JO [1,1,1,1,1,1,1,1,1,1] [] (fun(zz:(List ai)×Cells)=>[(0,v),(1,zI a),(3,zI b),(4,.func (.func 110) ⟨[]⟩ ⟨[]⟩),(18,zI (IntKind.i64.wrap (aR .u64 (IntKind.u64.wrap (a+b)) 1))),(20,zI sx),(24,zI (((IntKind.i64.wrap (aR .u64 (IntKind.u64.wrap (a+b)) 1))+m)-sx))]) (fun(zz:(List ai)×Cells)=>[.l zz.2]) (fun(zz:(List ai)×Cells)=>zz.1.Perm xs∧aA v 8 115 cm zz.1 zz.2) ?_ (fun K14 Zr=>?_)
  ·
   rintro⟨ys,L⟩ hA rest
   dsimp only at hA
   have Wi:=hA.1.length_eq
   have hyp:=hP.perm hA.1
   refine zD 7<|jj 4 [(0,v),(1,zI a),(3,zI b),(4,.func (.func 110) ⟨[]⟩ ⟨[]⟩),(18,zI (IntKind.i64.wrap (aR .u64 (IntKind.u64.wrap (a+b)) 1))),(20,zI sx),(24,zI (((IntKind.i64.wrap (aR .u64 (IntKind.u64.wrap (a+b)) 1))+m)-sx)),(199,.bool ((decide (a <sx))&&(decide (sx <(IntKind.i64.wrap (aR .u64 (IntKind.u64.wrap (a+b)) 1))))))] (fun gT=>?_) (fun hj=>?_)
   rotate_left
   refine js 195 (decide (a <sx)) (fun h27=>?_) (fun h27=>?_)
   ·
    have aga:=h27
    replace aga:=of_decide_eq_true aga
    refine zD 4<|jw 199 (.bool ((decide (a <sx))&&(decide (sx <(IntKind.i64.wrap (aR .u64 (IntKind.u64.wrap (a+b)) 1)))))) (w:= .bool (decide (sx <(IntKind.i64.wrap (aR .u64 (IntKind.u64.wrap (a+b)) 1))))) (by rw[h27]<;>rfl) ?_
    exact hj _ (by kernel_rfl) (by kernel_rfl)
   ·
    have aga:=h27
    replace aga:=of_decide_eq_false aga
    refine zD 4<|jw 199 (.bool ((decide (a <sx))&&(decide (sx <(IntKind.i64.wrap (aR .u64 (IntKind.u64.wrap (a+b)) 1)))))) (w:= .bool false) (by rw[h27]<;>rfl) ?_
    exact hj _ (by kernel_rfl) (by kernel_rfl)
   refine zD 1<|JO [1,1,1,1,1,1,1,1,1,1,1] [] (fun(zz:(List ai)×Cells)=>[(0,v),(3,zI b),(4,.func (.func 110) ⟨[]⟩ ⟨[]⟩),(18,zI (IntKind.i64.wrap (aR .u64 (IntKind.u64.wrap (a+b)) 1))),(24,zI (((IntKind.i64.wrap (aR .u64 (IntKind.u64.wrap (a+b)) 1))+m)-sx))]) (fun(zz:(List ai)×Cells)=>[.l zz.2]) (fun(zz:(List ai)×Cells)=>zz.1.Perm xs∧aA v 8 115 cm zz.1 zz.2) ?_ (fun K15 aEM=>?_)
   ·
    rintro⟨ys,L⟩ hB rest
    dsimp only at hB
    have Wi:=hB.1.length_eq
    have hyp:=hP.perm hB.1
    refine zD 6<|jj 4 [(0,v),(3,zI b),(4,.func (.func 110) ⟨[]⟩ ⟨[]⟩),(18,zI (IntKind.i64.wrap (aR .u64 (IntKind.u64.wrap (a+b)) 1))),(24,zI (((IntKind.i64.wrap (aR .u64 (IntKind.u64.wrap (a+b)) 1))+m)-sx)),(213,.bool ((decide ((IntKind.i64.wrap (aR .u64 (IntKind.u64.wrap (a+b)) 1)) <(((IntKind.i64.wrap (aR .u64 (IntKind.u64.wrap (a+b)) 1))+m)-sx)))&&(decide ((((IntKind.i64.wrap (aR .u64 (IntKind.u64.wrap (a+b)) 1))+m)-sx) <b))))] (fun gT=>?_) (fun hj=>?_)
    rotate_left
    refine js 209 (decide ((IntKind.i64.wrap (aR .u64 (IntKind.u64.wrap (a+b)) 1)) <(((IntKind.i64.wrap (aR .u64 (IntKind.u64.wrap (a+b)) 1))+m)-sx))) (fun Zu=>?_) (fun Zu=>?_)
    ·
     have af9:=Zu
     replace af9:=of_decide_eq_true af9
     refine zD 4<|jw 213 (.bool ((decide ((IntKind.i64.wrap (aR .u64 (IntKind.u64.wrap (a+b)) 1)) <(((IntKind.i64.wrap (aR .u64 (IntKind.u64.wrap (a+b)) 1))+m)-sx)))&&(decide ((((IntKind.i64.wrap (aR .u64 (IntKind.u64.wrap (a+b)) 1))+m)-sx) <b)))) (w:= .bool (decide ((((IntKind.i64.wrap (aR .u64 (IntKind.u64.wrap (a+b)) 1))+m)-sx) <b))) (by rw[Zu]<;>rfl) ?_
     exact hj _ (by kernel_rfl) (by kernel_rfl)
    ·
     have af9:=Zu
     replace af9:=of_decide_eq_false af9
     refine zD 4<|jw 213 (.bool ((decide ((IntKind.i64.wrap (aR .u64 (IntKind.u64.wrap (a+b)) 1)) <(((IntKind.i64.wrap (aR .u64 (IntKind.u64.wrap (a+b)) 1))+m)-sx)))&&(decide ((((IntKind.i64.wrap (aR .u64 (IntKind.u64.wrap (a+b)) 1))+m)-sx) <b)))) (w:= .bool false) (by rw[Zu]<;>rfl) ?_
     exact hj _ (by kernel_rfl) (by kernel_rfl)
    refine zD 1<|js 213 ((decide ((IntKind.i64.wrap (aR .u64 (IntKind.u64.wrap (a+b)) 1)) <(((IntKind.i64.wrap (aR .u64 (IntKind.u64.wrap (a+b)) 1))+m)-sx)))&&(decide ((((IntKind.i64.wrap (aR .u64 (IntKind.u64.wrap (a+b)) 1))+m)-sx) <b))) (fun h29=>?_) (fun h29=>?_)
    ·
     try simp only[zB] at h29
     refine zD 7<|jc (vs:=[v,zI (IntKind.i64.wrap (aR .u64 (IntKind.u64.wrap (a+b)) 1)),zI (((IntKind.i64.wrap (aR .u64 (IntKind.u64.wrap (a+b)) 1))+m)-sx),zI b,.func (.func 110) ⟨[]⟩ ⟨[]⟩]) [0] (ih _ (show (b-(IntKind.i64.wrap (aR .u64 (IntKind.u64.wrap (a+b)) 1))).toNat <n by omega) _ _ _ _ _ _ _ hB.2 (by omega) hyp (by omega) rfl) ?_
     rintro aWF aUG ⟨aVR,aep,aBb⟩
     have aOV:=aep.length_eq
     have aOR:=gF.perm hyp aep
     refine zD 1<|aE q0 (.tuple ⟨[]⟩) [] [0] aUG (Sub.refl _) ⟨_,_,rfl,rfl,_,(aep.trans hB.1),aBb⟩
    try simp only[zB] at h29
    refine zD 2<|aE q0 (.tuple ⟨[]⟩) [] [0] L (Sub.refl _) ⟨_,_,rfl,rfl,_,hB.1,hB.2⟩
   refine js 199 ((decide (a <sx))&&(decide (sx <(IntKind.i64.wrap (aR .u64 (IntKind.u64.wrap (a+b)) 1))))) (fun Zt=>?_) (fun Zt=>?_)
   ·
    try simp only[zB] at Zt
    refine zD 7<|jc (vs:=[v,zI a,zI sx,zI (IntKind.i64.wrap (aR .u64 (IntKind.u64.wrap (a+b)) 1)),.func (.func 110) ⟨[]⟩ ⟨[]⟩]) [0] (ih _ (show ((IntKind.i64.wrap (aR .u64 (IntKind.u64.wrap (a+b)) 1))-a).toNat <n by omega) _ _ _ _ _ _ _ hA.2 (by omega) hyp (by omega) rfl) ?_
    rintro aWG aUH ⟨awV,aeq,aBd⟩
    have aOW:=aeq.length_eq
    have aOS:=gF.perm hyp aeq
    refine zD 1<|bO aEM ⟨awV,aUH⟩ ⟨(aeq.trans hA.1),aBd⟩ Nat.zero_lt_one [0] (Sub.refl _)
   try simp only[zB] at Zt
   refine zD 2<|bO aEM ⟨ys,L⟩ ⟨hA.1,hA.2⟩ Nat.zero_lt_one [0] (Sub.refl _)
  refine js 185 ((decide (sx <m))&&(decide (m <(((IntKind.i64.wrap (aR .u64 (IntKind.u64.wrap (a+b)) 1))+m)-sx)))) (fun h31=>?_) (fun h31=>?_)
  ·
   try simp only[zB] at h31
   refine zD 7<|jc (vs:=[v,zI sx,zI m,zI (((IntKind.i64.wrap (aR .u64 (IntKind.u64.wrap (a+b)) 1))+m)-sx),.func (.func 110) ⟨[]⟩ ⟨[]⟩]) [0] (aMv ho (by omega) hP (by omega)) ?_
   rintro aWH aUI ⟨awW,aer,aBe⟩
   have aOX:=aer.length_eq
   have aOT:=gF.perm hP aer
   refine zD 1<|bO Zr ⟨awW,aUI⟩ ⟨(aer.trans (.refl _)),aBe⟩ Nat.zero_lt_one [0] (Sub.refl _)
  try simp only[zB] at h31
  refine zD 2<|bO Zr ⟨xs,L⟩ ⟨(.refl _),ho⟩ Nat.zero_lt_one [0] (Sub.refl _)
 refine zJ 140 (m>(IntKind.i64.wrap (aR .u64 (IntKind.u64.wrap (a+b)) 1))) (fun h32=>?_) fun h32=>?_
 ·
  refine zD 5<|ja (((IntKind.i64.wrap (aR .u64 (IntKind.u64.wrap (a+b)) 1))+m)-b) (by omega)<|zD 6<|bO aEO ⟨(((IntKind.i64.wrap (aR .u64 (IntKind.u64.wrap (a+b)) 1))+m)-b),(IntKind.i64.wrap (aR .u64 (IntKind.u64.wrap (a+b)) 1))⟩ (by dsimp only;omega) Nat.zero_lt_one [0] (Sub.refl _)
 refine zD 10<|bO aEO ⟨a,m⟩ (by dsimp only;omega) Nat.zero_lt_one [0] (Sub.refl _)
theorem aMu:∀n,aGH n:=by
 intro n
 induction n using Nat.strongRecOn with
 |_ n ih=>exact fun ro v xs L a m b ho hN hP Bm hn=>aya ih ho hN hP Bm hn
theorem anr{v:Value}{xs:List ai}{L:Cells}{a m b:Int}{ro:Nat→Option Obj}(ho:aA v 8 115 cm xs L)(hN:xs.length≤100000)(hP:gF xs)(Bm:0≤a∧a <m∧m <b∧b≤xs.length):eE zT 170 [v,zI a,zI m,zI b,.func (.func 110) ⟨[]⟩ ⟨[]⟩] ro L (fun _ Y=>wO v xs Y):=
 aMu _ ro v xs L a m b ho hN hP Bm rfl
theorem ayb{v:Value}{xs:List ai}{L:Cells}{n:Int}{ro:Nat→Option Obj}(ho:aA v 8 115 cm xs L)(hN:xs.length≤100000)(hP:gF xs)(hn:n=xs.length):eE zT 150 [v,zI n,.func (.func 110) ⟨[]⟩ ⟨[]⟩] ro L (fun r Y=>wO v xs Y):=by
 refine bA au [.l L] [] a8<|zD 12<|dW [1,1,0,0,0] [] (fun(zz:Int×Int×(List ai)×Cells)=>[(0,v),(1,zI n),(2,.func (.func 110) ⟨[]⟩ ⟨[]⟩),(6,zI 20),(7,zI zz.1),(8,zI zz.2.1)]) (fun(zz:Int×Int×(List ai)×Cells)=>[.l zz.2.2.2]) (fun(zz:Int×Int×(List ai)×Cells)=>(zz.2.1=zz.1+20∧0≤zz.1∧zz.1≤n)∧aA v 8 115 cm zz.2.2.1 zz.2.2.2∧zz.2.2.1.Perm xs) (fun(zz:Int×Int×(List ai)×Cells)=>(n-zz.1).toNat) (⟨0,20,xs,L⟩) ⟨by dsimp only;omega,ho,.refl _⟩ [0] ?_
 rintro⟨a,b,ys,L⟩ hI K1 bK rest
 dsimp only at hI
 have Wi:=hI.2.2.length_eq
 have hyp:=hP.perm hI.2.2
 refine zD 7<|zJ 13 (b≤n) (fun h1=>?_) fun h1=>?_
 ·
  refine zD 9<|jc (vs:=[v,zI a,zI b,.func (.func 110) ⟨[]⟩ ⟨[]⟩]) [0] (ayd hI.2.1 (by omega) hyp (by omega)) ?_
  rintro bbl Y18 ⟨aJQ,Py,Zb⟩
  have aXF:=Py.length_eq
  have aXy:=gF.perm hyp Py
  refine zD 9<|ja (b+20) (by omega)<|zD 2<|bO bK (⟨b,(b+20),aJQ,Y18⟩) ⟨by dsimp only;omega,Zb,(Py.trans hI.2.2)⟩ (by dsimp only;omega) [0] (Sub.refl _)
 refine zD 8<|jc (vs:=[v,zI a,zI n,.func (.func 110) ⟨[]⟩ ⟨[]⟩]) [0] (ayd hI.2.1 (by omega) hyp (by omega)) ?_
 rintro bbk Y27 ⟨baw,asF,aP5⟩
 have aXE:=asF.length_eq
 have aXx:=gF.perm hyp asF
 refine zD 2<|dW [1,1,1,1,0,0] [] (fun(zz:Int×(List ai)×Cells)=>[(0,v),(1,zI n),(2,.func (.func 110) ⟨[]⟩ ⟨[]⟩),(6,zI zz.1)]) (fun(zz:Int×(List ai)×Cells)=>[.l zz.2.2]) (fun(zz:Int×(List ai)×Cells)=>(20≤zz.1∧zz.1≤1000000)∧aA v 8 115 cm zz.2.1 zz.2.2∧zz.2.1.Perm xs) (fun(zz:Int×(List ai)×Cells)=>(n-zz.1).toNat) (⟨20,_,_⟩) ⟨by dsimp only;omega,aP5,asF.trans hI.2.2⟩ [0] ?_
 rintro⟨bz,ys,L⟩ hJ K2 lg rest
 dsimp only at hJ
 have Wi:=hJ.2.2.length_eq
 have hyp:=hP.perm hJ.2.2
 refine zD 7<|zJ 30 (bz <n) (fun h2=>?_) fun h2=>?_
 ·
  refine zD 6<|ja (2*bz) (by omega)<|zD 5<|dW [1,1,1,1,0,0,1,0,1,0,0,0] [K2] (fun(zz:Int×Int×(List ai)×Cells)=>[(0,v),(1,zI n),(2,.func (.func 110) ⟨[]⟩ ⟨[]⟩),(6,zI bz),(7,zI zz.1),(8,zI zz.2.1)]) (fun(zz:Int×Int×(List ai)×Cells)=>[.l zz.2.2.2]) (fun(zz:Int×Int×(List ai)×Cells)=>(zz.2.1=zz.1+2*bz∧0≤zz.1∧zz.1≤n)∧aA v 8 115 cm zz.2.2.1 zz.2.2.2∧zz.2.2.1.Perm xs) (fun(zz:Int×Int×(List ai)×Cells)=>(n-zz.1).toNat) (⟨0,(2*bz),ys,L⟩) ⟨by dsimp only;omega,hJ.2⟩ [0] ?_
  rintro⟨a,b,ys,L⟩ hK K3 hK3 rest
  dsimp only at hK
  have Wi:=hK.2.2.length_eq
  have hyp:=hP.perm hK.2.2
  refine zD 7<|zJ 35 (b≤n) (fun h3=>?_) fun h3=>?_
  ·
   refine zD 9<|ja (a+bz) (by omega)<|zD 2<|jc (vs:=[v,zI a,zI (a+bz),zI b,.func (.func 110) ⟨[]⟩ ⟨[]⟩]) [0] (anr hK.2.1 (by omega) hyp (by omega)) ?_
   rintro bbi Y43 ⟨aJN,asC,aP1⟩
   have aXC:=asC.length_eq
   have aXv:=gF.perm hyp asC
   refine zD 9<|ja (2*bz) (by omega)<|ja (b+(2*bz)) (by omega)<|zD 2<|bO hK3 (⟨b,(b+(2*bz)),aJN,Y43⟩) ⟨by dsimp only;omega,aP1,(asC.trans hK.2.2)⟩ (by dsimp only;omega) [0] (Sub.refl _)
  refine zD 7<|ja (a+bz) (by omega)<|zD 8<|zJ 54 ((a+bz) <n) (fun h4=>?_) fun h4=>?_
  ·
   refine zD 7<|jc (vs:=[v,zI a,zI (a+bz),zI n,.func (.func 110) ⟨[]⟩ ⟨[]⟩]) [0] (anr hK.2.1 (by omega) hyp (by omega)) ?_
   rintro bbf Y60 ⟨aJL,aeo,Mj⟩
   have aXz:=aeo.length_eq
   have aXs:=gF.perm hyp aeo
   refine zD 3<|ja (bz*2) (by omega)<|zD 2<|bO lg (⟨(bz*2),aJL,Y60⟩) ⟨by dsimp only;omega,Mj,(aeo.trans hK.2.2)⟩ (by dsimp only;omega) [0] (Sub.refl _)
  refine zD 4<|ja (bz*2) (by omega)<|zD 2<|bO lg (⟨(bz*2),ys,L⟩) ⟨by dsimp only;omega,hK.2.1,hK.2.2⟩ (by dsimp only;omega) [0] (Sub.refl _)
 refine zD 2<|aE q0 (.tuple ⟨[]⟩) [] [0] L (Sub.refl _) ⟨_,_,rfl,rfl,_,hJ.2.2,hJ.2.1⟩
theorem Oc{v:Value}{xs:List ai}{L:Cells}{ro:Nat→Option Obj}(ho:aA v 8 115 cm xs L)(hN:xs.length≤100000)(hP:gF xs):eE zT 109 [v,.func (.func 110) ⟨[]⟩ ⟨[]⟩] ro L (fun r Y=>wO v xs Y):=by
 refine bA au [.l L] [] a8<|zD 3<|Ao ho<|zD 1<|jc (vs:=[v,zI (xs.length:Int),.func (.func 110) ⟨[]⟩ ⟨[]⟩]) [0] (ayb ho (by omega) hP rfl) ?_
 rintro rv8 Y8 ⟨ys8,hp8,ho8⟩
 have bda:=hp8.length_eq
 have bc9:=gF.perm hP hp8
 refine zD 1<|aE q0 (.tuple ⟨[]⟩) [] [0] Y8 (Sub.refl _) ⟨_,_,rfl,rfl,_,hp8,ho8⟩
open Go.ConcR (KK wgBlock WgAt stA smA rd wr)
def ahF(o:Oper):Array TypeId:=match o.op with
 | .call c=>c.argTypes
 | .go c=>c.argTypes
 | .defer c=>c.argTypes
 |_=> #[]
noncomputable def kE:rF:=auW zT 77 2
theorem az8:kE.cl.OK zT 194 where
 ff:=by kernel_rfl
 fn:=⟨(Tryz.prog.funcs[107]?).getD default,by kernel_rfl,by kernel_rfl,by kernel_rfl⟩
 bf:=⟨by kernel_rfl,by kernel_rfl,by kernel_rfl⟩
 enter:=fun p1 p2=>by kernel_rfl
 op0:=by kernel_rfl
 rest:=⟨1,by kernel_rfl⟩
 size:=by kernel_rfl
 op:=⟨by kernel_rfl,by kernel_rfl,ahF kE.cl.oc,by kernel_rfl⟩
theorem arQ:∀v,v <2→∀W,∃k,Hf zT 194 v (Frame.enter zT 104 #[zP W,zI 1] .normal)=some (List.replicate k W):=by
 intro v hv W
 match v,hv with
 |0,_=>exact⟨7,by kernel_rfl⟩
 |1,_=>exact⟨4,by kernel_rfl⟩
theorem akW:∀W,∃k,xp zT 194 2 (Frame.enter zT 106 #[zP W] .deferred)=some (List.replicate k W):=fun W=>⟨27,by kernel_rfl⟩
theorem akV:∀W,∃k,AT zT 194 2 (Frame.enter zT 108 #[zP W] .normal)=some (List.replicate k W):=fun W=>⟨164,by kernel_rfl⟩
noncomputable def nz(Wg Ch:Nat)(gV:Os)(cu:Array (Nat×ByteArray)):dO (List ai):=⟨zT,194,Wg,Ch,2,zS,gV,cu,fun l v X=>aA v 8 115 cm l X⟩
theorem GM(K:aM)(on:Int)(hb:K.after.length≤4):∀(n a:Nat) (p:Nat→Int),(∀i,0≤p i∧p i≤4)→(iH K on n a p).length≤5^n∧∀q∈iH K on n a p,∀i,0≤q i∧q i≤4
 |0,a,p,hp=>by
  simp only[iH]
  cases lE on p K.facts 0 with
  |true=>exact⟨by simp,fun q hq=>by simp only[cond_true,List.mem_singleton] at hq;subst hq;exact hp⟩
  |false=>exact⟨by simp,fun q hq=>by simp at hq⟩
 |n+1,a,p,hp=>by
  obtain⟨h1,h2⟩:=GM K on hb n (a+1) p hp
  have hg:∀b,b <K.after.length→(nv K on n a p b).length≤5^n∧∀q∈nv K on n a p b,∀i,0≤q i∧q i≤4:=fun b cG=>by
   simp only[nv]
   cases !db K on a b||qu p a ((b:Int)+1) with
   |true=>exact⟨by simp,fun q hq=>by simp at hq⟩
   |false=>
    simp only[cond_false]
    refine GM K on hb n (a+1) _ fun i=>?_
    simp only[iy]
    split
    ·omega
    exact hp i
  rw[qy]
  refine⟨?_,fun q hq=>?_⟩
  ·rw[List.length_append,List.length_flatMap]
   have:((List.range K.after.length).map fun b=>(nv K on n a p b).length).sum≤K.after.length*5^n:=by
    have key:∀l:List Nat,(∀b∈l,b <K.after.length)→(l.map fun b=>(nv K on n a p b).length).sum≤l.length*5^n:=by
     intro l
     induction l with
     |nil=>intro _;simp
     |cons b l ih=>
      intro hl
      have:=ih fun x hx=>hl x (List.mem_cons_of_mem _ hx)
      have:=(hg b (hl b List.mem_cons_self)).1
      simp only[List.map_cons,List.sum_cons,List.length_cons,Nat.succ_mul]
      omega
    have:=key (List.range K.after.length) fun b hb=>List.mem_range.1 hb
    simpa using this
   have h5:K.after.length*5^n≤4*5^n:=Nat.mul_le_mul_right _ hb
   rw[Nat.pow_succ]
   omega
  rcases List.mem_append.1 hq with hq|hq
  ·exact h2 q hq
  obtain⟨b,mw,hq⟩:=List.mem_flatMap.1 hq
  exact(hg b (List.mem_range.1 mw)).2 q hq
theorem gp(hV:fy K)(on:Int):(bp K on).length≤625∧∀q∈bp K on,∀i,0≤q i∧q i≤4:=by
 obtain⟨h1,h2⟩:=GM K on hV.after.1 K.before.length 0 (fun _=>0) fun _=>by omega
 refine⟨Nat.le_trans h1 ?_,h2⟩
 have:=Nat.pow_le_pow_right (n:=5) (by omega) hV.before.1
 omega
abbrev pV(b:Nat):Value:= zP b
noncomputable def DX(f i:Nat):Array Oper:=cK (codeOf zT f) i
noncomputable def aT9(f i:Nat):Code:=((codeOf zT f)[i]?).getD .skip
def oh(K:aM)(on:Int)(keep:ai→Bool)(r:bH)(past:Nat):List ai:=((bp K on).map (cW K r past)).filter keep
noncomputable def Xk(f:Nat):Code:=(((Tryz.prog.funcs[f]?).getD default).body).getD .skip
theorem jz{l:List α}{x:α}(h:l[k]?=some x):l.take (k+1)=l.take k++[x]:=by rw[List.take_succ,h];rfl
theorem auQ:gN [Xk 105]=[.region 0 (DX 105 0) false,.region 1 (DX 105 1) false,.region 2 (DX 105 2) false,aT9 105 3,.region 7 (DX 105 4) false]:=by kernel_rfl
theorem azZ{rows:List bH}{on:Int}{H4:bH}{g:FuncId}{fi ca:List Value}{keep:ai→Bool}{ro:Nat→Option Obj}{Wg Ch:Nat}{gV:Os}{cu:Array (Nat×ByteArray)}{b5 b7 b9:Nat}(hV:fy K)(hF:pd ro f K rows)(Cb:rows[past]?=some H4) (Gy:Bq zT g=true)
 (iv:∀aI,Sub ro aI→∀p∈bp K on,de zT g (fi++[.agg ⟨cm (cW K H4 past p)⟩]++ca) aI (.bool (keep (cW K H4 past p))))
 (g3:ro b3=some (.cells ⟨[pV f]⟩ 104 (0,0))) (g4:ro b4=some (.cells ⟨[.int .u8 on]⟩ 120 (0,0))) (g9:ro b9=some (.cells ⟨[zI (past:Int)]⟩ 3 (0,0))) (g5:ro b5=some (.cells ⟨[.func (.func g) ⟨fi⟩ ⟨ca⟩]⟩ 116 (0,0))) (g7:ro b7=some (.cells ⟨[.chan (some Ch)]⟩ 185 (0,0))):
 eS zT false ((nz Wg Ch gV cu).IM (oh K on keep H4 past)) (born zT {target:= .fn (.func 105) ⟨[pV Wg,pV b3,pV b4,pV b9,pV b5,pV b7]⟩,args:= #[]}) ⟨ro,[]⟩:=by
 have hT:Closed zT false (eS zT false ((nz Wg Ch gV cu).IM (oh K on keep H4 past))):=dQ _ _ _
 refine ax3 (fn:=(Tryz.prog.funcs[105]?).getD default) (c:=Xk 105) (n:=26) (by kernel_rfl) (by kernel_rfl) (by kernel_rfl) (by kernel_rfl) (by rfl)<|pY hT auQ fun l1 Dh=>?_
 refine ap3 hT (a:=eI (DX 105 0) 0) (f:=106) (xs:= #[.tmp 0]) (vs:=[pV Wg]) (ats:=ahF (eI (DX 105 0) 0)) (by kernel_rfl) (by kernel_rfl) (by kernel_rfl) (by decide) rfl<|pY hT Dh fun l2 qO=>?_
 refine vq au hT<|jn fun b6=>zD 1<|xC<|pY hT qO fun l3 PN=>?_
 refine vq au hT<|jl (b:=b3) (off:=0) (m:=1) (vs:=[pV f]) 0 ⟨_,_,_,.inl g3,rfl⟩<|jl (b:=b4) (off:=0) (m:=1) (vs:=[.int .u8 on]) 0 ⟨_,_,_,.inl g4,rfl⟩<|jc [] (JK (on:=on) hF hV) ?_
 rintro _ _ ⟨q1,q2,q3,q4,rfl,rfl⟩
 refine jf [0] [(q1,.cells ⟨[pV f]⟩ 104 (0,0)),(q2,.cells ⟨[.func (.func 127) ⟨[]⟩ ⟨[pV q1,pV q4]⟩]⟩ 221 (0,0)),(q3,.cells ⟨Cv ⟨db K on⟩⟩ 159 (0,0)),(q4,.cells ⟨[.int .u8 on]⟩ 120 (0,0))] fun aB bW hk1=>zD 1<|ax1<|anm hT PN fun l4 PM=>?_
 refine ax2 au hT ?_
 have Bo:=hF.up bW
 refine zD 1<|pE ?_
 refine jrf [] (V8 (on:=on) Bo hV (hk1 _ (.head _)) (hk1 _ (.tail _ (.head _))) (hk1 _ (.tail _ (.tail _ (.head _)))) (hk1 _ (.tail _ (.tail _ (.tail _ (.head _)))))) (by rintro _ _ _ _ ⟨_,_,rfl,_⟩;rfl)
  (fun(zz:Value×Cells)=>[.b b6 (.cells ⟨[zz.1]⟩ 108 (0,0)),.l zz.2]) (fun kk=>(fun(zz:Value×Cells)=>aA zz.1 8 115 cm ((((bp K on).take kk).map (cW K H4 past)).filter keep) zz.2)) (fun jump=>(fun(zz:Value×Cells)=>False)) (⟨zS,[]⟩) (aA.nil _ _ _) [1,0] ?_ ?_ ?_
 ·rintro bl bd kk vs LL ⟨v,Lb⟩ lT iL ⟨p,hp,rfl,rfl⟩ hI n6
  dsimp only at hI
  have aAY:=List.mem_of_getElem? hp
  have hp4:=(gp hV on).2 p aAY
  have aei:=Sub.trans bW n6
  have hlen:((((bp K on).take kk).map (cW K H4 past)).filter keep).length≤625:=by
   refine Nat.le_trans (List.length_filter_le _ _) ?_
   rw[List.length_map,List.length_take]
   have:=(gp hV on).1
   omega
  refine zD 1<|jn fun jJ=>jd 2 [0]<|jbI 1<|zD 3<|jl (b:=b3) (off:=0) (m:=1) (vs:=[pV f]) 0 ⟨_,_,_,.inl (aei _ _ g3),rfl⟩<|jl (b:=b9) (off:=0) (m:=1) (vs:=[zI (past:Int)]) 0 ⟨_,_,_,.inl (aei _ _ g9),rfl⟩<|jd 1 [0]<|jp (vs:=[pV f,zI (past:Int),.agg ⟨eP4 p⟩]) [] [] (fun yp hs hZ=>anY (hF.up (Sub.trans aei hs)) hV Cb hp4)<|jn fun zi=>jd 4 [0]<|jl (b:=b5) (off:=0) (m:=1) (vs:=[.func (.func g) ⟨fi⟩ ⟨ca⟩]) 0 ⟨_,_,_,.inl (aei _ _ g5),rfl⟩<|jd 1 [0]<|jpF (f:=g) (V:= .bool (keep (cW K H4 past p))) (vs:=fi++[Value.agg ⟨cm (cW K H4 past p)⟩]++ca) [] [] Gy (fun yp hs hZ=>iv _ (Sub.trans aei hs) p aAY)<|zD 1<|js 19 (keep (cW K H4 past p)) (fun h5=>?_) (fun h5=>?_)
  ·refine jd 4 [3,0]<|jn fun m9=>kL (sz:=8) (ps:=(((bp K on).take kk).map (cW K H4 past)).filter keep) (qs:=[cW K H4 past p]) (enc:=cm) (w:= .slice (some ⟨m9,0,none⟩) 1 1) [5] [0] [(m9,.cells ⟨([cW K H4 past p].map cm).flatten⟩ 115 (0,0))] hI (fun s _ hZ=>cb [cW K H4 past p] (hZ _ (.head _)) (by intro p hp;rfl)) (fun p _=>ar rfl) (by simp only[List.length_cons,List.length_nil];omega) (fun v23 L23 yM=>?_)
   obtain⟨va,vc,he⟩:=yM.form
   subst he
   refine jd 2 [5]<|jyn Yg (Sub.refl _) ⟨.slice va _ vc,L23⟩ (by dsimp only;rw[jz hp,List.map_append,List.filter_append,List.map_cons,List.map_nil,List.filter_cons_of_pos h5,List.filter_nil];exact yM) [4,5,0]
  refine zD 2<|jyn Yg (Sub.refl _) ⟨v,Lb⟩ (by dsimp only;rw[jz hp,List.map_append,List.filter_append,List.map_cons,List.map_nil,List.filter_cons_of_neg (by rw[h5];simp),List.filter_nil,List.append_nil];exact hI) [2,3,4]
 ·rintro bd ⟨v,Lb⟩ Z hI rfl
  dsimp only at hI
  rw[List.take_length] at hI
  refine ax0<|pY hT PM fun l5 PK=>?_
  have:=gB PK
  subst this
  show TT _ _ (.inRegion (DX 105 4) (0::[1,2])::[]) _ _ _ _ _
  refine tLd hT (.chan (some Ch)) (a:=eI (DX 105 4) 0) (x:= .tmp 5) (U:=185) (q:=b7) (by kernel_rfl) (by kernel_rfl) (by kernel_rfl) (by kernel_rfl) (by decide) rfl (fun _ _ _ _=> .inl (bW _ _ g7))<|aMg hT v (a:=eI (DX 105 4) 1) (x:= .tmp 6) (U:=108) (q:=b6) (by kernel_rfl) (by kernel_rfl) (by kernel_rfl) (by kernel_rfl) (by decide) rfl [2] 108<|axV (E:=nz Wg Ch gV cu) (a:=eI (DX 105 4) 2) (sc:= .tmp 24) (sv:= .tmp 25) (v:=v) (Y:=Lb) [3] (by kernel_rfl) (by kernel_rfl) (fun ρ=>by kernel_rfl) (by decide) rfl hI<|U7 (dQ _ _ _)<|apZ (E:=nz Wg Ch gV cu) (fn:=(Tryz.prog.funcs[105]?).getD default) (dn:=106) (bd:=bd) (by kernel_rfl) (by kernel_rfl) (by kernel_rfl) (akW Wg).choose_spec wV [0] rfl rfl
 rintro bd ⟨v,Lb⟩ Z jump hS hZ
 exact hS.elim
end Go.L
