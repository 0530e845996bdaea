/- Part 8 of the proof. -/
import Derived.Test.YtjpghiajlddegaaGreatDoorF7
set_option maxRecDepth 100000
set_option linter.all false
namespace Go.L
open Go Go.Conc Go.Proofs
variable {p:Nat→Int} {K:aP} {b f k n bx b1 b2 bl bf br bg bt bo:Nat} {rs:List cM} {cs:List bK} {hd:List cq} {l:List ez} {vl vc vh:Value} {na nb:ByteArray} {Stop:Cells→Prop} {x y:aI} {T:TypeId} {xs:List Int}
abbrev eBy(x:Int):List Value:=[.int .u8 x]
theorem aGS:EF zT 286 (Extern.BytealgMakeNoZero.makeNoZero #[3] #[347]):=⟨Tryz.f286,Tryz.func286,by kernel_rfl,by kernel_rfl,by kernel_rfl,by kernel_rfl⟩
def aqX:=(nJ Tryz.typeInfo347 Tryz.underlying347 rfl rfl rfl rfl rfl rfl:TF zT 347 _ 1 24 _ false)
theorem adb{l:List Value}:ax (.slice (some ⟨b,0,none⟩) 0 l.length) 1 T eBy ([]:List Int) [(b,.cells ⟨l⟩ T (0,0))]:= .inr ⟨b,l,l.length,rfl,rfl,by simp,by simp,by simp,by simp⟩
theorem akN{v:Value}{c:Int}{L:Cells}(h:ax v 1 T eBy [c] L):∃b l cap,cap≠0∧v= .slice (some ⟨b,0,none⟩) 1 cap∧L=[(b,.cells ⟨.int .u8 c::l⟩ T (0,0))]:=by
 rcases h with ⟨_,h,_⟩| ⟨b,l,cap,h1,h2,h3,h4,_,h6⟩
 ·cases h
 simp only[List.length_cons,List.length_nil] at h1 h4 h6
 cases l with
 |nil=>simp at h3;omega
 |cons x l=>
  simp at h6;subst h6
  exact⟨b,l,cap,by omega,h1,h2⟩
def aau(n:Int):ByteArray:=⟨#[n.toNat.toUInt8]⟩
theorem aGT:EF zT 285 Extern.AbiNoEscape.same:=⟨Tryz.f285,Tryz.func285,by kernel_rfl,by kernel_rfl,by kernel_rfl,by kernel_rfl⟩
theorem aHi{v:Value}{ro:Nat→Option Obj}:eS zT 274 [zP b] ro [(b,.cells ⟨[.pointer none,v]⟩ 349 (0,0))] (fun r Y=>Y=[(b,.cells ⟨[zP b,v]⟩ 349 (0,0))]):=by
 refine bC au [.b b (.cells ⟨[.pointer none,v]⟩ 349 (0,0))] [] bu<|jd 12 [0]<|jmo [0] [0,0] [(b,.cells ⟨[.pointer none,v]⟩ 349 (0,0))] (zP b)<|jg 0 [.b b (.cells ⟨[.pointer none,v]⟩ 349 (0,0))]<|aPo (v:= zP b) aGT<|jmo [0] [0,0] [(b,.cells ⟨[.pointer none,v]⟩ 349 (0,0))] (zP b)<|jg 0 [.b b (.cells ⟨[.pointer none,v]⟩ 349 (0,0))]<|jd 4 [0]<|aH q0 (.tuple ⟨[]⟩) [] [0] [(b,.cells ⟨[zP b,v]⟩ 349 (0,0))] (Sub.refl _) ⟨_,_,rfl,rfl,rfl⟩
theorem aHh{v:Value}{ro:Nat→Option Obj}:eS zT 274 [zP b] ro [(b,.cells ⟨[zP b,v]⟩ 349 (0,0))] (fun r Y=>Y=[(b,.cells ⟨[zP b,v]⟩ 349 (0,0))]):=by
 refine bC au [.b b (.cells ⟨[zP b,v]⟩ 349 (0,0))] [] bu<|jd 16 [0,0]<|jpn (b:=b)<|jg 0 []<|zD 3<|aH q0 (.tuple ⟨[]⟩) [] [0] [(b,.cells ⟨[zP b,v]⟩ 349 (0,0))] (Sub.refl _) ⟨_,_,rfl,rfl,rfl⟩
theorem aHb{ro:Nat→Option Obj}:eS zT 275 [zP b,zI 1] ro [(b,.cells ⟨[zP b,zS]⟩ 349 (0,0))] (fun r Y=>∃v L,ax v 1 5 eBy ([]:List Int) L∧Y=(b,.cells ⟨[zP b,v]⟩ 349 (0,0))::L):=by
 refine bC au [.b b (.cells ⟨[zP b,zS]⟩ 349 (0,0))] [] bu<|jd 6 [0]<|jcp (c:=0)<|jd 8 [0]<|aD 8 fun D5 Eb BG=>jnz (n:=1) aGS rfl aqX (by omega) fun bb lz hlz=>jg 0 [.b bb (.cells ⟨lz⟩ 5 (0,0))]<|ba BG [1]<|js0 (a:=⟨bb,0,none⟩) (l:=1) (c:=lz.length)<|jd 9 [1]<|jmo [] [] [] (zI 0)<|jg 0 []<|jd 8 [1]<|aH q0 (.tuple ⟨[]⟩) [] [1,0] ((b,.cells ⟨[zP b,(.slice (some ⟨bb,0,none⟩) 0 lz.length)]⟩ 349 (0,0))::[(bb,.cells ⟨lz⟩ 5 (0,0))]) (Sub.refl _) ⟨_,_,rfl,rfl,_,_,adb,rfl⟩
theorem aHg{ro:Nat→Option Obj}:eS zT 257 [zP b,zI 1] ro [(b,.cells ⟨[.pointer none,zS]⟩ 349 (0,0))] (fun r Y=>∃v L,ax v 1 5 eBy ([]:List Int) L∧Y=(b,.cells ⟨[zP b,v]⟩ 349 (0,0))::L):=by
 refine bC au [.b b (.cells ⟨[.pointer none,zS]⟩ 349 (0,0))] [] bu<|zD 3<|jc (vs:=[zP b]) [0] (aHi (v:= zS)) ?_
 rintro _ _ rfl
 refine jg 0 [.b b (.cells ⟨[zP b,zS]⟩ 349 (0,0))]<|jd 15 [0]<|jcp (c:=0)<|jd 13 [0]<|jc (vs:=[zP b,zI 1]) [0] (aHb) ?_
 rintro _ _ ⟨v,L,hv,rfl⟩
 refine jg 0 [.b b (.cells ⟨[zP b,v]⟩ 349 (0,0)),.l L]<|zD 1<|aH q0 (.tuple ⟨[]⟩) [] [0,1] ((b,.cells ⟨[zP b,v]⟩ 349 (0,0))::L) (Sub.refl _) ⟨_,_,rfl,rfl,v,L,hv,rfl⟩
theorem aHj{v:Value}{L:Cells}{c:Int}{ro:Nat→Option Obj}(ho:ax v 1 5 eBy ([]:List Int) L):eS zT 259 [zP b,.int .u8 c] ro ((b,.cells ⟨[zP b,v]⟩ 349 (0,0))::L) (fun r Y=>∃v' L',ax v' 1 5 eBy [c] L'∧Y=(b,.cells ⟨[zP b,v']⟩ 349 (0,0))::L'):=by
 refine bC au [.b b (.cells ⟨[zP b,v]⟩ 349 (0,0)),.l L] [] bu<|zD 7<|jc (vs:=[zP b]) [0] (aHh (v:=v)) ?_
 rintro _ _ rfl
 refine jg 0 [.b b (.cells ⟨[zP b,v]⟩ 349 (0,0))]<|jd 9 [0]<|jn fun Ah=>jE (sz:=1) (ps:=[]) (qs:=[c]) (enc:=eBy) (w:= .slice (some ⟨Ah,0,none⟩) 1 1) [2] [0] [(Ah,.cells ⟨([c].map eBy).flatten⟩ 5 (0,0))] (ho) (fun s _ hZ=>bS [c] (hZ _ (.head _)) (by intro p hp;rfl)) (fun p _=>ai rfl) (by simp) (fun v14 L14 uy=>?_)
 rw[List.nil_append] at uy
 obtain⟨FK,D9,vw⟩:=uy.form
 subst vw
 refine jd 9 [2]<|aH q0 (.nilIface) [] [2,0] ((b,.cells ⟨[zP b,(.slice FK ([c]).length D9)]⟩ 349 (0,0))::L14) (Sub.refl _) ⟨_,_,rfl,rfl,_,_,uy,rfl⟩
theorem aVa{bb cap:Nat}{l:List Value}{c:Int}{ro:Nat→Option Obj}(oS:cap≠0):eS zT 260 [zP b] ro [(b,.cells ⟨[zP b,.slice (some ⟨bb,0,none⟩) 1 cap]⟩ 349 (0,0)),(bb,.cells ⟨.int .u8 c::l⟩ 5 (0,0))] (fun r Y=>r= .string (aau c)):=by
 refine bC au [.b b (.cells ⟨[zP b,.slice (some ⟨bb,0,none⟩) 1 cap]⟩ 349 (0,0)),.b bb (.cells ⟨.int .u8 c::l⟩ 5 (0,0))] [] bu<|jd 15 [0,0]<|aD 4 fun D5 Eb BG=>jsd (a:=⟨bb,0,none⟩) (l:=1) oS<|jg 0 []<|ba BG [0,1]<|aD 10 fun BK BR A6=>jus (b:=bb) (E:=5) [1] c l fun L9=>iB A6 [[1]]<|zD 3<|aH q0 (.string (aau c)) [] [] [] (Sub.refl _) ⟨_,_,rfl,rfl,rfl⟩
def ug(u:UInt8):ByteArray:=⟨#[u]⟩
theorem amY{u:UInt8}(h:u.toNat <128):Value.string (Utf8.encode (u.toNat:Int))= .string (ug u):=by
 have hv:Utf8.valid (u.toNat:Int)=true:=by simp only[Utf8.valid];simp;omega
 simp only[Utf8.encode,hv,if_true,Int.toNat_natCast,if_pos (show u.toNat <0x80 from h),ug]
 simp
theorem aGx{u:UInt8}{ro:Nat→Option Obj}(hu:(97≤u.toNat∧u.toNat≤122)):dO zT 236 [.string (ug u)] ro (.string (ug u)):=by
 have vu:(ug u).size=1:=rfl
 refine bC au [] [] bu<|zD 15<|eO [1,1,0,1,0,0] [] (fun(zz:Nat×Bool)=>[(0,.string (ug u)),(2,.string (bs [])),(3,.bool true),(4,.bool zz.2),(5,zI (zz.1:Int))]) (fun(zz:Nat×Bool)=>[]) (fun(zz:Nat×Bool)=>(zz.1=0∧zz.2=false)∨(zz.1=1∧zz.2=false)) (fun(zz:Nat×Bool)=>1-zz.1) (⟨0,false⟩) (.inl ⟨rfl,rfl⟩) [] ?_
 rintro⟨i,q⟩ hI K1 bG rest
 dsimp only at hI
 refine zD 8<|zJ 14 ((i:Int) <((ug u).size:Int)) (fun h1=>?_) fun h1=>?_
 ·
  refine zD 5 ?_
  obtain⟨hi0,Xf⟩:i=0∧q=false:=by rcases hI with h|h;exact h;omega
  refine jw 5 (zI 0) (show Value.int .i64 (i:Int)= zI 0 by rw[hi0];rfl) ?_
  refine jw 4 (.bool false) (show Value.bool q= .bool false by rw[Xf])<|zD 12<|zJ 21 ((u.toNat:Int)≥128) (fun h2=>?_) fun h2=>?_
  ·
   exfalso;omega
  refine zD 8<|js 26 (decide (65≤(u.toNat:Int))) (fun h3=>?_) (fun h3=>?_)
  ·
   have wK:=h3
   replace wK:=of_decide_eq_true wK
   refine zD 11<|bF bG (⟨1,decide ((u.toNat:Int)≤90)⟩) (.inr ⟨rfl,decide_eq_false (by omega)⟩) (by dsimp only;omega) [] (Sub.refl _)
  have wK:=h3
  replace wK:=of_decide_eq_false wK
  exfalso;omega
 refine zD 4 ?_
 obtain⟨hi1,hq1⟩:i=1∧q=false:=by rcases hI with h|h;omega;exact h
 refine jw 4 (.bool false) (show Value.bool q= .bool false by rw[hq1])<|zD 17<|aH q0 (.string (ug u)) [] [] [] (Sub.refl _) ⟨_,_,rfl,rfl,rfl,rfl⟩
theorem aGw{u:UInt8}{ro:Nat→Option Obj}(hu:(65≤u.toNat∧u.toNat≤90)):dO zT 236 [.string (ug u)] ro (.string (aau (IntKind.u8.wrap ((u.toNat:Int)+32)))):=by
 have vu:(ug u).size=1:=rfl
 refine bC au [] [] bu<|zD 15<|eO [1,1,0,1,0,0] [] (fun(zz:Nat×Bool)=>[(0,.string (ug u)),(2,.string (bs [])),(3,.bool true),(4,.bool zz.2),(5,zI (zz.1:Int))]) (fun(zz:Nat×Bool)=>[]) (fun(zz:Nat×Bool)=>(zz.1=0∧zz.2=false)∨(zz.1=1∧zz.2=true)) (fun(zz:Nat×Bool)=>1-zz.1) (⟨0,false⟩) (.inl ⟨rfl,rfl⟩) [] ?_
 rintro⟨i,q⟩ hI K1 bG rest
 dsimp only at hI
 refine zD 8<|zJ 14 ((i:Int) <((ug u).size:Int)) (fun h1=>?_) fun h1=>?_
 ·
  refine zD 5 ?_
  obtain⟨hi0,Xf⟩:i=0∧q=false:=by rcases hI with h|h;exact h;omega
  refine jw 5 (zI 0) (show Value.int .i64 (i:Int)= zI 0 by rw[hi0];rfl) ?_
  refine jw 4 (.bool false) (show Value.bool q= .bool false by rw[Xf])<|zD 12<|zJ 21 ((u.toNat:Int)≥128) (fun h2=>?_) fun h2=>?_
  ·
   exfalso;omega
  refine zD 8<|js 26 (decide (65≤(u.toNat:Int))) (fun h3=>?_) (fun h3=>?_)
  ·
   have wK:=h3
   replace wK:=of_decide_eq_true wK
   refine zD 11<|bF bG (⟨1,decide ((u.toNat:Int)≤90)⟩) (.inr ⟨rfl,decide_eq_true (by omega)⟩) (by dsimp only;omega) [] (Sub.refl _)
  have wK:=h3
  replace wK:=of_decide_eq_false wK
  exfalso;omega
 refine zD 4 ?_
 obtain⟨hi1,hq1⟩:i=1∧q=true:=by rcases hI with h|h;omega;exact h
 refine jw 4 (.bool true) (show Value.bool q= .bool true by rw[hq1])<|zD 14<|jn fun b7=>zD 9<|jc (vs:=[zP b7,zI 1]) [0] (aHg) ?_
 rintro _ _ ⟨v,L,hv,rfl⟩
 refine jg 0 [.b b7 (.cells ⟨[zP b7,v]⟩ 349 (0,0)),.l L]<|zD 7<|eO [1,1,1,0,1,0,1,1,1,1,0,1,0,0] [] (fun(zz:Nat×Int×Value×Cells×(List Int))=>[(0,.string (ug u)),(2,.string (bs [])),(7,zP b7),(8,zI zz.2.1),(9,zI (zz.1:Int))]) (fun(zz:Nat×Int×Value×Cells×(List Int))=>[.b b7 (.cells ⟨[zP b7,zz.2.2.1]⟩ 349 (0,0)),.l zz.2.2.2.1]) (fun(zz:Nat×Int×Value×Cells×(List Int))=>ax zz.2.2.1 1 5 eBy zz.2.2.2.2 zz.2.2.2.1∧((zz.1=0∧zz.2.1=0∧zz.2.2.2.2=[])∨(zz.1=1∧zz.2.1=1∧zz.2.2.2.2=[(IntKind.u8.wrap ((u.toNat:Int)+32))]))) (fun(zz:Nat×Int×Value×Cells×(List Int))=>1-zz.1) (⟨0,0,v,L,[]⟩) ⟨hv,.inl ⟨rfl,rfl,rfl⟩⟩ [0,1] ?_
 rintro⟨j,p,v,L,xs⟩ hJ K2 mg rest
 dsimp only at hJ
 refine zD 8<|zJ 41 ((j:Int) <((ug u).size:Int)) (fun h4=>?_) fun h4=>?_
 ·
  refine zD 5 ?_
  obtain⟨hj0,hp0,GQ⟩:j=0∧p=0∧xs=[]:=by rcases hJ.2 with h|h;exact h;omega
  refine jw 9 (zI 0) (show Value.int .i64 (j:Int)= zI 0 by rw[hj0];rfl) ?_
  refine jw 8 (zI 0) (show Value.int .i64 p= zI 0 by rw[hp0])<|zD 11<|js 49 (decide (65≤(u.toNat:Int))) (fun h5=>?_) (fun h5=>?_)
  ·
   have M9:=h5
   replace M9:=of_decide_eq_true M9
   refine zD 4<|zJ 52 ((u.toNat:Int)≤90) (fun h6=>?_) fun h6=>?_
   ·
    refine zD 19<|jc (vs:=[zP b7,.int .u8 (IntKind.u8.wrap ((u.toNat:Int)+32))]) [0,1] (aHj (by have:=hJ.1;rwa[GQ] at this)) ?_
    rintro _ _ ⟨v2,L2,Ij,rfl⟩
    refine jg 0 [.b b7 (.cells ⟨[zP b7,v2]⟩ 349 (0,0)),.l L2]<|zD 11<|bF mg (⟨1,1,v2,L2,[(IntKind.u8.wrap ((u.toNat:Int)+32))]⟩) ⟨Ij,.inr ⟨rfl,rfl,rfl⟩⟩ (by dsimp only;omega) [0,1] (Sub.refl _)
   exfalso;omega
  have M9:=h5
  replace M9:=of_decide_eq_false M9
  exfalso;omega
 refine zD 4 ?_
 obtain⟨hj1,hp1,hx1⟩:j=1∧p=1∧xs=[(IntKind.u8.wrap ((u.toNat:Int)+32))]:=by rcases hJ.2 with h|h;omega;exact h
 refine jw 8 (zI 1) (show Value.int .i64 p= zI 1 by rw[hp1])<|zD 9 ?_
 obtain⟨bb,lz,cap,oS,rfl,rfl⟩:=akN (by have:=hJ.1;rwa[hx1] at this)
 refine zD 1<|jc (vs:=[zP b7]) [0,1] (aVa (bb:=bb) (l:=lz) (c:=(IntKind.u8.wrap ((u.toNat:Int)+32))) oS) ?_
 rintro _ Yz rfl
 refine zD 3<|aH q0 (.string (aau (IntKind.u8.wrap ((u.toNat:Int)+32)))) [] [] [] (Sub.refl _) ⟨_,_,rfl,rfl,rfl,rfl⟩
def adY(u:UInt8):ByteArray:=if u.toNat <97 then aau (IntKind.u8.wrap ((u.toNat:Int)+32)) else ug u
theorem aUA{u:UInt8}{ro:Nat→Option Obj}(h:GI u=true∨Gn u=true):dO zT 236 [.string (ug u)] ro (.string (adY u)):=by
 unfold adY
 rcases h with h|h
 ·simp only[GI,Bool.and_eq_true,Nat.ble_eq] at h
  rw[if_neg (by omega)]
  exact aGx (by omega)
 simp only[Gn,Bool.and_eq_true,Nat.ble_eq] at h
 rw[if_pos (by omega)]
 exact aGw (by omega)
def uqN(rs:List cM)(a to:ByteArray):Nat→Nat→Option Nat
 |0,_=>none
 |f+1,m=>bif decide (0 <(Oe rs to m a []).length) then some m else uqN rs a to f (m+1)
def uq(rs:List cM)(a to:ByteArray):Option Nat:=uqN rs a to 3 0
def jZ(c:UInt8):ByteArray:=if c.toNat=67 then bs [99,104] else if c.toNat=74 then bs [106,117] else if c.toNat=89 then bs [106,97] else if c.toNat=88 then bs [115,104] else if c.toNat <97 then bs [c.toNat+32] else bs [c.toNat]
def IZ:List UInt8→ByteArray→ByteArray
 | [],a=>a
 |c::l,a=>IZ l (a++jZ c)
def keyOf(w:ByteArray):ByteArray:=IZ w.data.toList (bs [])
theorem alo{l:List UInt8}{c:UInt8}{a:ByteArray}(h:l[k]?=some c):IZ (l.drop k) a=IZ (l.drop (k+1)) (a++jZ c):=by rw[gE h];rfl
theorem aeb{l:List UInt8}{a:ByteArray}(h:l[k]?=none):IZ (l.drop k) a=a:=by rw[eY (by rw[List.getElem?_eq_none_iff] at h;omega)];rfl
def FH(rs:List cM)(a b:ByteArray):Int:=match uq rs (keyOf a) (keyOf b) with
 |none=>2
 |some 0=>1
 |some _=>3
structure rS(w:ByteArray):Prop where
 n:1≤w.size∧w.size≤6
 s:Script w
def Ts(c:UInt8):Prop:=GI c=true∨Gn c=true
theorem rS.let{w:ByteArray}(h:rS w):∀c∈w.data.toList,Ts c:=fun c hc=>h.s.elim (fun k=> .inl (k c hc)) fun k=> .inr (k c hc)
theorem YK:((List.range 256).all fun n=> !(GI (UInt8.ofNat n)||Gn (UInt8.ofNat n))||(ale (jZ (UInt8.ofNat n))&&(Nat.ble 1 (jZ (UInt8.ofNat n)).size&&Nat.ble (jZ (UInt8.ofNat n)).size 2)))=true:=by kernel_rfl
theorem OX{c:UInt8}(h:Ts c):xQ (jZ c)∧1≤(jZ c).size∧(jZ c).size≤2:=by
 have h2:=List.all_eq_true.1 YK c.toNat (List.mem_range.2 c.toNat_lt)
 have hb:UInt8.ofNat c.toNat=c:=by simp
 rw[hb] at h2
 have h3:(GI c||Gn c)=true:=by rcases h with h|h<;>simp[h]
 rw[h3] at h2
 simp only[Bool.not_true,Bool.false_or,Bool.and_eq_true,Nat.ble_eq] at h2
 exact⟨GC h2.1,h2.2⟩
theorem WT:∀ {l:List UInt8} {a:ByteArray},(∀c∈l,Ts c)→xQ a→xQ (IZ l a)∧(IZ l a).size≤a.size+2*l.length
 | [],a,_,ha=>⟨ha,by simp[IZ]⟩
 |c::l,a,h,ha=>by
  have h1:=OX (h c (by simp))
  obtain⟨h2,h3⟩:=WT (l:=l) (a:=a++jZ c) (fun x hx=>h x (by simp[hx])) (ha.app h1.1)
  refine⟨h2,?_⟩
  simp only[IZ,ByteArray.size_append,List.length_cons] at h3 ⊢
  omega
theorem P2{w:ByteArray}(h:rS w):xQ (keyOf w)∧(keyOf w).size≤12:=by
 have h1:=WT (l:=w.data.toList) (a:=bs []) h.let (fun b hb=>by cases hb)
 have h2:w.data.toList.length=w.size:=Array.length_toList
 have h3:=h.n
 exact⟨h1.1,by have:=h1.2;have e:(bs []).size=0:=rfl;unfold keyOf;omega⟩
theorem ald{c:UInt8}(h:Ts c)(h1:¬(c.toNat:Int)=67)(h2:¬(c.toNat:Int)=74)(h3:¬(c.toNat:Int)=89)(h4:¬(c.toNat:Int)=88):adY c=jZ c:=by
 simp only[adY,jZ,if_neg (show ¬c.toNat=67 by omega),if_neg (show ¬c.toNat=74 by omega),if_neg (show ¬c.toNat=89 by omega),if_neg (show ¬c.toNat=88 by omega)]
 split
 ·simp only[aau,bs]
  rw[sP .u8 rfl _ (by omega) (by simp[IntKind.bits];omega),show ((c.toNat:Int)+32).toNat=c.toNat+32 by omega]
  rfl
 simp[ug,bs]
theorem let_128{c:UInt8}(h:Ts c):c.toNat <128:=by
 rcases h with h|h
 ·simp only[GI,Bool.and_eq_true,Nat.ble_eq] at h;omega
 simp only[Gn,Bool.and_eq_true,Nat.ble_eq] at h;omega
theorem asj{c:UInt8}{ro:Nat→Option Obj}(h:Ts c):dO zT 217 [.int .i32 (c.toNat:Int)] ro (.string (jZ c)):=by
 refine bC au [] [] bu<|zD 29<|zJ 5 ((c.toNat:Int)=67) (fun h1=>?_) fun h1=>?_
 ·
  refine zD 8<|aH q0 (.string (bs [99,104])) [] [] [] (Sub.refl _) ⟨_,_,rfl,rfl,by rw[jZ,if_pos (by omega)]<;>rfl,rfl⟩
 refine zD 8<|zJ 7 ((c.toNat:Int)=74) (fun h2=>?_) fun h2=>?_
 ·
  refine zD 17<|jsa (a:=(bs [106])) (b:=(bs [117])) 9 (by decide)<|zD 3<|aH q0 (.string ((bs [106])++(bs [117]))) [] [] [] (Sub.refl _) ⟨_,_,rfl,rfl,by rw[jZ,if_neg (by omega),if_pos (by omega)]<;>rfl,rfl⟩
 refine zD 8<|zJ 9 ((c.toNat:Int)=89) (fun h3=>?_) fun h3=>?_
 ·
  refine zD 16<|jsa (a:=(bs [106])) (b:=(bs [97])) 9 (by decide)<|zD 3<|aH q0 (.string ((bs [106])++(bs [97]))) [] [] [] (Sub.refl _) ⟨_,_,rfl,rfl,by rw[jZ,if_neg (by omega),if_neg (by omega),if_pos (by omega)]<;>rfl,rfl⟩
 refine zD 7<|zJ 11 ((c.toNat:Int)=88) (fun h4=>?_) fun h4=>?_
 ·
  refine zD 8<|aH q0 (.string (bs [115,104])) [] [] [] (Sub.refl _) ⟨_,_,rfl,rfl,by rw[jZ,if_neg (by omega),if_neg (by omega),if_neg (by omega),if_pos (by omega)]<;>rfl,rfl⟩
 refine zD 6<|je (.string (ug c)) (amY (let_128 h))<|jp (vs:=[.string (ug c)]) [] [] (fun aB hs hZ=>(aUA h))<|zD 3<|aH q0 (.string (adY c)) [] [] [] (Sub.refl _) ⟨_,_,rfl,rfl,by rw[ald h (by omega) (by omega) (by omega) (by omega)],rfl⟩
theorem ak6{w to:ByteArray}{ro:Nat→Option Obj}(hl:bE ro vl 2 iW rs)(hR:∀r∈rs,rR r)(hw:xQ w)(sw:w.size≤100)(hq:rs.length≤100):eS zT 198 [.string w,vl,.string to] ro [] (fun r Y=>(∃n v ps,uq rs w to=some n∧r= .tuple ⟨[v,.bool true]⟩∧ax v 1 9 p7 ps Y∧ps.length=n+1)∨(uq rs w to=none∧r= .tuple ⟨[zS,.bool false]⟩∧Y=[])):=by
 obtain⟨fS,sj,si,fe,rfl,tY,mw,nj⟩:=hl
 refine bC au [] [] bu<|zD 11<|eO [1,0,1,0,0] [] (fun(zz:Nat)=>[(0,.string w),(1,.slice fS rs.length fe),(2,.string to),(11,zI (zz:Int))]) (fun(zz:Nat)=>[]) (fun(zz:Nat)=>zz≤3∧uq rs w to=uqN rs w to (3-zz) zz) (fun(zz:Nat)=>3-zz) 0 ⟨by omega,rfl⟩ [] ?_
 rintro k hI K1 bG rest
 refine zD 5<|zJ 12 ((k:Int) <3) (fun h1=>?_) fun h1=>?_
 ·
  refine zD 15<|jc (vs:=[.string w,.slice fS rs.length fe,.string to,zI (k:Int)]) [] (adG (show bE _ _ _ _ _ from ⟨fS,sj,si,fe,rfl,tY,mw,nj⟩)) ?_
  rintro _ _ ⟨adW,adV,adU,adT,rfl,rfl⟩
  refine jg 0 [.b adW (.cells ⟨[.string w]⟩ 291 (0,0)),.b adV (.cells ⟨[.slice fS rs.length fe]⟩ 34 (0,0)),.b adU (.cells ⟨[.string to]⟩ 291 (0,0)),.b adT (.cells ⟨[zI (k:Int)]⟩ 3 (0,0))]<|jf [0,1,2,3] ((adW,.cells ⟨[.string w]⟩ 291 (0,0))::((adV,.cells ⟨[.slice fS rs.length fe]⟩ 34 (0,0))::((adU,.cells ⟨[.string to]⟩ 291 (0,0))::[(adT,.cells ⟨[zI (k:Int)]⟩ 3 (0,0))]))) fun ro4 pe Xq=>jc (vs:=[.func (.func 237) ⟨[]⟩ ⟨[zP adT,zP adU,zP adV,zP adW]⟩,.func (.func 220) ⟨[]⟩ ⟨[]⟩]) [] (asm (Zy (Xq _ (.tail _ (.tail _ (.tail _ (.head _))))) (Xq _ (.tail _ (.tail _ (.head _)))) (Xq _ (.tail _ (.head _))) (Xq _ (.head _)) ((show bE _ _ _ _ _ from ⟨fS,sj,si,fe,rfl,tY,mw,nj⟩).up pe) hR hw sw hq (by omega)) (fun x hx=>by have:=NA hx;simp at this;omega)) ?_
  rintro _ L20 ⟨v20,rfl,aOG,aQ3,aua⟩
  refine zD 10<|js 23 (decide (0 <(Oe rs to k w []).length)) (fun h5=>?_) (fun h5=>?_)
  ·
   refine zD 8<|aH q0.a (.tuple ⟨[v20,.bool true]⟩) [] [0] L20 pe ⟨_,_,rfl,rfl,.inl ⟨k,v20,aOG,by rw[hI.2,show 3-k=(3-(k+1))+1 by omega,uqN,h5];rfl,rfl,aQ3,by have:=NA (aua (of_decide_eq_true h5));simpa using this⟩⟩
  refine zD 3<|ja ((k:Int)+1) (by omega)<|zD 2<|bF bG (k+1) ⟨by omega,by rw[hI.2,show 3-k=(3-(k+1))+1 by omega,uqN,h5];rfl⟩ (by omega) [] pe
 refine zD 8<|aH q0 (.tuple ⟨[zS,.bool false]⟩) [] [] [] (Sub.refl _) ⟨_,_,rfl,rfl,.inr ⟨by rw[hI.2,show 3-k=0 by omega];rfl,rfl,rfl⟩⟩
theorem asz{c:UInt8}(h:Ts c):c.toNat <128:=by
 rcases h with h|h
 ·simp only[GI,Bool.and_eq_true,Nat.ble_eq] at h;omega
 simp only[Gn,Bool.and_eq_true,Nat.ble_eq] at h;omega
theorem asn{w to:ByteArray}{ro:Nat→Option Obj}(hl:bE ro vl 2 iW rs)(hR:∀r∈rs,rR r)(hw:xQ w)(sw:w.size≤100)(hq:rs.length≤100):eS zT 198 [.string w,vl,.string to] ro [] (fun r Y=>∃v ps ok,r= .tuple ⟨[v,.bool ok]⟩∧ax v 1 9 p7 ps Y∧(ok=true→uq rs w to=some (ps.length-1)∧1≤ps.length)∧(ok=false→uq rs w to=none)):=by
 refine(ak6 hl hR hw sw hq).mono fun _ _ h=>?_
 rcases h with ⟨n,v,ps,h1,h2,h3,h4⟩| ⟨h1,h2,h3⟩
 ·exact⟨v,ps,true,h2,h3,fun _=>⟨by rw[h4];exact h1,by omega⟩,nofun⟩
 subst h3;exact⟨_,[],false,h2,ax.nil _ _ _,nofun,fun _=>h1⟩
def uN(rs:List cM)(a b:ByteArray):Int:=match uq rs a b with
 |some n=>n
 |none=>0
def uE(rs:List cM)(a b:ByteArray):Int:=match uq rs a b with
 |some _=>0
 |none=>11
theorem an0{a to:ByteArray}:∀ {f m n:Nat},uqN rs a to f m=some n→n <m+f
 |0,_,_,h=>by cases h
 |f+1,m,n,h=>by
  simp only[uqN] at h
  cases hd:decide (0 <(Oe rs to m a []).length) with
  |true=>rw[hd] at h;simp only[cond_true,Option.some.injEq] at h;omega
  |false=>rw[hd] at h;simp only[cond_false] at h;have:=an0 h;omega
theorem nOf{w:ByteArray}{ro:Nat→Option Obj}(hw:rS w):dO zT 197 [.string w] ro (.string (keyOf w)):=by
 refine bC au [] [] bu<|zD 12<|jn fun r7=>zD 2<|eO [1,1,0,1,0,0] [] (fun(zz:Nat×ByteArray)=>[(2,.string (bs [])),(3,.string zz.2),(7,zP r7)]) (fun(zz:Nat×ByteArray)=>[.b r7 (.stringIter w zz.1)]) (fun(zz:Nat×ByteArray)=>(zz.1≤w.data.toList.length∧zz.2.size≤2*zz.1)∧keyOf w=IZ (w.data.toList.drop zz.1) zz.2) (fun(zz:Nat×ByteArray)=>w.data.toList.length-zz.1) (⟨0,(bs [])⟩) ⟨⟨by omega,Nat.le_refl _⟩,rfl⟩ [0] ?_
 rintro⟨p,a⟩ hI K1 bG rest
 dsimp only at hI
 refine zD 2 ?_
 cases hn8:w.data.toList[p]? with
 |some x8=>
  refine jnA r7 0 hn8 (asz (hw.let _ (List.mem_of_getElem? hn8)))<|zD 11 ?_
  have hso:=OX (hw.let _ (List.mem_of_getElem? hn8))
  have hlen:w.data.toList.length=w.size:=Array.length_toList
  have hwn:=hw.n
  refine zD 3<|jp (vs:=[.int .i32 (x8.toNat:Int)]) [] [] (fun aB hs hZ=>(asj (hw.let _ (List.mem_of_getElem? hn8))))<|jsa (a:=a) (b:=(jZ x8)) 9 (by omega)<|zD 2<|bF bG (⟨p+1,(a++jZ x8)⟩) ⟨⟨by have:=(List.getElem?_eq_some_iff.1 hn8).1;dsimp only;omega,by dsimp only;rw[ByteArray.size_append];omega⟩,by rw[hI.2,alo hn8]⟩ (by have:=(List.getElem?_eq_some_iff.1 hn8).1;dsimp only;omega) [0] (Sub.refl _)
 |none=>
  refine jnZ r7 0 hn8<|zD 11<|aH q0 (.string a) [] [] [] (Sub.refl _) ⟨_,_,rfl,rfl,by rw[hI.2,aeb hn8],rfl⟩
theorem ak5{ro:Nat→Option Obj}(hl:bE ro vl 2 iW rs)(hR:∀r∈rs,rR r)(hq:rs.length≤4)(Ik:rS na)(Fj:rS nb):eS zT 157 [vl,.string na,.string nb] ro [] (fun r Y=>∃v ps e,r= .tuple ⟨[v,zI e]⟩∧ax v 1 9 p7 ps Y∧ps.length≤3∧((e=0∧uq rs (keyOf na) (keyOf nb)=some (ps.length-1)∧1≤ps.length)∨(e=11∧uq rs (keyOf na) (keyOf nb)=none))):=by
 obtain⟨fS,sj,si,fe,rfl,tY,mw,nj⟩:=hl
 refine bC au [] [] bu<|zD 9<|jp (vs:=[.slice fS rs.length fe]) [] [] (fun aB hs hZ=>Zw ((show bE _ _ _ _ _ from ⟨fS,sj,si,fe,rfl,tY,mw,nj⟩).up hs) (by omega) hR)<|zD 14<|jn fun H0=>jp (vs:=[.slice (some ⟨H0,0,none⟩) 2 2]) [0] [(H0,.cells ⟨([na,nb].map p7).flatten⟩ 9 (0,0))] (fun aB hs hZ=>adF (bV [na,nb] hZ.head (by intro p hp;rfl)) (by first|omega| (simp only[List.length_set,List.length_append,List.length_cons,List.length_nil];omega)) (by intro x hx;simp only[List.mem_cons,List.not_mem_nil,or_false] at hx;rcases hx with rfl|rfl;exact⟨Ik.n,Ik.s⟩;exact⟨Fj.n,Fj.s⟩)) ?_
 refine zD 12<|jp (vs:=[.string na]) [] [] (fun aB hs hZ=>(nOf Ik))<|zD 2<|jp (vs:=[.string nb]) [] [] (fun aB hs hZ=>(nOf Fj))<|jc (vs:=[.string (keyOf na),.slice fS rs.length fe,.string (keyOf nb)]) [] (asn (show bE _ _ _ _ _ from ⟨fS,sj,si,fe,rfl,tY,mw,nj⟩) hR (P2 Ik).1 (by have:=(P2 Ik).2;omega) (by omega)) ?_
 rintro _ L30 ⟨v30,aOF,aOQ,rfl,Cw,atd,aPK⟩
 refine zD 12<|js 34 (!aOQ) (fun h1=>?_) (fun h1=>?_)
 ·
  try simp only[zB] at h1
  refine zD 7<|aH q0 (.tuple ⟨[zS,zI 11]⟩) [] [] [] (Sub.refl _) ⟨_,_,rfl,rfl,_,[],_,rfl,ax.nil _ _ _,by simp,.inr ⟨rfl,aPK (by simp_all)⟩⟩
 try simp only[zB] at h1
 refine zD 9<|aH q0 (.tuple ⟨[v30,zI 0]⟩) [] [0] L30 (Sub.refl _) ⟨_,_,rfl,rfl,_,aOF,_,rfl,Cw,by have:=an0 (atd (by simp_all)).1;have:=(atd (by simp_all)).2;omega,.inl ⟨rfl,atd (by simp_all)⟩⟩
theorem aAX{ro:Nat→Option Obj}(hl:bE ro vl 2 iW rs)(hR:∀r∈rs,rR r)(hq:rs.length≤4)(Ik:rS na)(Fj:rS nb):dO zT 113 [vl,.string na,.string nb] ro (.tuple ⟨[zI (uN rs (keyOf na) (keyOf nb)),zI (uE rs (keyOf na) (keyOf nb))]⟩):=by
 obtain⟨fS,sj,si,fe,rfl,tY,mw,nj⟩:=hl
 refine bC au [] [] bu<|zD 10<|jc (vs:=[.slice fS rs.length fe,.string na,.string nb]) [] (ak5 (show bE _ _ _ _ _ from ⟨fS,sj,si,fe,rfl,tY,mw,nj⟩) hR hq Ik Fj) ?_
 rintro _ L14 ⟨v14,aAx,Nq,rfl,T1,beT,vw⟩
 refine zD 12<|js 18 (!decide (Nq=0)) (fun h1=>?_) (fun h1=>?_)
 ·
  replace h1:=of_decide_eq_false (by simpa using h1)
  refine zD 8<|aH q0 (.tuple ⟨[zI 0,zI Nq]⟩) [] [] [] (Sub.refl _) ⟨_,_,rfl,rfl,by rcases vw with ⟨h1,h2,h3⟩| ⟨h1,h2⟩<;>simp only[uN,uE,h2]<;>(subst h1;simp_all<;>omega),rfl⟩
 replace h1:=of_decide_eq_true (by simpa using h1)
 refine zD 5<|Fe T1<|ja ((aAx.length:Int)-1) (by omega)<|zD 4<|aH q0 (.tuple ⟨[zI ((aAx.length:Int)-1),zI 0]⟩) [] [] [] (Sub.refl _) ⟨_,_,rfl,rfl,by rcases vw with ⟨h1,h2,h3⟩| ⟨h1,h2⟩<;>simp only[uN,uE,h2]<;>(subst h1;simp_all<;>omega),rfl⟩
theorem PJ{ro:Nat→Option Obj}(hl:bE ro vl 2 iW rs)(hR:∀r∈rs,rR r)(hq:rs.length≤4)(Ik:rS na)(Fj:rS nb):dO zT 87 [vl,.string na,.string nb] ro (.tuple ⟨[zI (FH rs na nb),zI 0]⟩):=by
 obtain⟨fS,sj,si,fe,rfl,tY,mw,nj⟩:=hl
 refine bC au [] [] bu<|zD 10<|jp (vs:=[.slice fS rs.length fe,.string na,.string nb]) [] [] (fun aB hs hZ=>aAX ((show bE _ _ _ _ _ from ⟨fS,sj,si,fe,rfl,tY,mw,nj⟩).up hs) hR hq Ik Fj)<|zD 14<|zJ 17 ((uE rs (keyOf na) (keyOf nb))=11) (fun h1=>?_) fun h1=>?_
 ·
  refine zD 7<|aH q0 (.tuple ⟨[zI 2,zI 0]⟩) [] [] [] (Sub.refl _) ⟨_,_,rfl,rfl,by simp only[uN,uE,FH] at*;rcases huq:uq rs (keyOf na) (keyOf nb) with _|_|n<;>simp_all<;>omega,rfl⟩
 refine zD 7<|js 20 (!decide ((uE rs (keyOf na) (keyOf nb))=0)) (fun h2=>?_) (fun h2=>?_)
 ·
  replace h2:=of_decide_eq_false (by simpa using h2)
  refine zD 8<|aH q0 (.tuple ⟨[zI 0,zI (uE rs (keyOf na) (keyOf nb))]⟩) [] [] [] (Sub.refl _) ⟨_,_,rfl,rfl,by simp only[uN,uE,FH] at*;rcases huq:uq rs (keyOf na) (keyOf nb) with _|_|n<;>simp_all<;>omega,rfl⟩
 replace h2:=of_decide_eq_true (by simpa using h2)
 refine zD 7<|zJ 24 ((uN rs (keyOf na) (keyOf nb))=0) (fun h3=>?_) fun h3=>?_
 ·
  refine zD 7<|aH q0 (.tuple ⟨[zI 1,zI 0]⟩) [] [] [] (Sub.refl _) ⟨_,_,rfl,rfl,by simp only[uN,uE,FH] at*;rcases huq:uq rs (keyOf na) (keyOf nb) with _|_|n<;>simp_all<;>omega,rfl⟩
 refine zD 8<|aH q0 (.tuple ⟨[zI 3,zI 0]⟩) [] [] [] (Sub.refl _) ⟨_,_,rfl,rfl,by simp only[uN,uE,FH] at*;rcases huq:uq rs (keyOf na) (keyOf nb) with _|_|n<;>simp_all<;>omega,rfl⟩
abbrev R9(x:Int):List Value:=[.int .u8 x]
structure bP where
 c:Nat→Nat→Bool
abbrev C2(x:bP):List Value:=[.bool (x.c 0 0),.bool (x.c 0 1),.bool (x.c 0 2),.bool (x.c 0 3),.bool (x.c 1 0),.bool (x.c 1 1),.bool (x.c 1 2),.bool (x.c 1 3),.bool (x.c 2 0),.bool (x.c 2 1),.bool (x.c 2 2),.bool (x.c 2 3),.bool (x.c 3 0),.bool (x.c 3 1),.bool (x.c 3 2),.bool (x.c 3 3)]
def nz(cs:List bK):Nat→List Int
 |0=>[]
 |k+1=>nz cs k++[match cs[k]? with
  |some c=>if 0≤c.under then Kp .u8 (Kp .u8 0 (dJ .u8 1 k)) ((nz cs k)[c.under.toNat]?.getD 0) else Kp .u8 0 (dJ .u8 1 k)
  |none=>0]
theorem oY(cs:List bK):∀k,(nz cs k).length=k
 |0=>rfl
 |k+1=>by simp[nz,oY cs k]
theorem anb{c:bK}{y:Int}(h:cs[k]?=some c) (hu:0≤c.under) (hy:(nz cs k)[c.under.toNat]?=some y):nz cs (k+1)=nz cs k++[Kp .u8 (Kp .u8 0 (dJ .u8 1 k)) y]:=by
 simp only[nz,h,if_pos hu,hy,Option.getD_some]
theorem anc{c:bK}(h:cs[k]?=some c) (hu:¬0≤c.under):nz cs (k+1)=nz cs k++[Kp .u8 0 (dJ .u8 1 k)]:=by
 simp only[nz,h,if_neg hu]
def adX(s:Int):Nat→Int
 |0=> -1
 |k+1=>bif hasB s k then k else adX s k
def GH(cs:List bK)(a b:Int):Int:=adX (TD .u8 ((nz cs cs.length)[a.toNat]?.getD 0) ((nz cs cs.length)[b.toNat]?.getD 0)) cs.length
def XZ(hd:List cq)(h:Int):Int:=match hd[h.toNat]? with
 |some x=>x.cls
 |none=>0
def zv(K:aP)(x y:aI):Bool:=decide (FH K.rules x.name y.name=2)
def uK(K:aP)(x y:aI):Bool:=if (x.head <0∨y.head <0)∨x.head=y.head then false else decide (GH K.cs (XZ K.hd x.head) (XZ K.hd y.head) <0)
def BU(on:Int)(a b:Int):List ez→Nat→Bool
 | [],_=>false
 |x::l,k=>(((hasB on k&&decide (x.a=a))&&decide (x.b=b))&& !x.same)||BU on a b l (k+1)
def dc(K:aP)(on:Int)(a b:Nat):Bool:=match K.before[a]?,K.after[b]? with
 |some x,some y=> !zv K x y&&(!uK K x y&& !BU on a b K.facts 0)
 |_,_=>false
structure gh(K:aP):Prop where
 rules:K.rules.length≤4∧∀r∈K.rules,rR r
 before:K.before.length≤4∧∀p∈K.before,rS p.name∧ox K.hd p.head
 after:K.after.length≤4∧∀p∈K.after,rS p.name∧ox K.hd p.head
 dP:mi K.cs K.hd
 facts:K.facts.length≤4∧∀x∈K.facts,(0≤x.a∧x.a <K.before.length)∧(0≤x.b∧x.b <K.after.length)
def qd(ro:Nat→Option Obj)(f:Nat)(K:aP)(rows:List bP):Prop:=∃(c0 c1 c2 vc vh vr vb va vf vt:Value) (hv:List bp),
 ro f=some (.cells ⟨[c0,c1,c2,vc,vh,vr,vb,va,zI K.gone,zI K.new,zI K.af,vf,vt]⟩ 116 (0,0))∧jM ro vc vh K.cs hv K.hd∧dg de hv K.hd∧
 bE ro vr 2 iW K.rules∧bE ro vb 5 eT K.before∧bE ro va 5 eT K.after∧bE ro vf 3 lP K.facts∧bE ro vt 16 C2 rows
theorem qd.up{ro aF:Nat→Option Obj}{rows:List bP}(h:qd ro f K rows)(hs:Sub ro aF):qd aF f K rows:=by
 obtain⟨c0,c1,c2,vc,vh,vr,vb,va,vf,vt,hv,h1,h2,h3,h4,h5,h6,h7,h8⟩:=h
 exact⟨c0,c1,c2,vc,vh,vr,vb,va,vf,vt,hv,hs _ _ h1,h2.up hs,h3,h4.up hs,h5.up hs,h6.up hs,h7.up hs,h8.up hs⟩
theorem aNo{f i:Int}{ro:Nat→Option Obj}(hi:0≤i∧i≤8):dO zT 317 [.int .u8 f,zI i] ro (.bool (hasB f i)):=by
 refine bC au [] [] bu<|zD 8<|jsr (k:= .u8) (k':= .i64) (a:=f) (b:=i) 406 (by omega)<|zD 5<|aH q0 (.bool (decide ((TD .u8 (aR .u8 f i) 1)=1))) [] [] [] (Sub.refl _) ⟨_,_,rfl,rfl,rfl,rfl⟩
theorem aze{f i:Int}{ro:Nat→Option Obj}(hi:0≤i∧i≤8):dO zT 318 [.int .u8 f,zI i] ro (.int .u8 (Kp .u8 f (dJ .u8 1 i))):=by
 refine bC au [] [] bu<|zD 8<|jsh (k:= .u8) (k':= .i64) (a:=1) (b:=i) 406 (by omega)<|zD 4<|aH q0 (.int .u8 (Kp .u8 f (dJ .u8 1 i))) [] [] [] (Sub.refl _) ⟨_,_,rfl,rfl,rfl,rfl⟩
theorem ara{hv:List bp}{ro:Nat→Option Obj}(hR:jM ro vc vh cs hv hd)(nN:dg de hv hd)(hT:mi cs hd):eS zT 316 [.agg ⟨[vc,vh]⟩] ro [] (fun r Y=>∃b vS LS vE,r= .tuple ⟨[zP b,zI 0]⟩∧ax vS 1 406 R9 (nz cs cs.length) LS∧Y=(b,.cells ⟨[vc,vh,vS,vE]⟩ 410 (0,0))::LS):=by
 obtain⟨hc,hh,dC⟩:=id hR
 obtain⟨eL,AH,AG,eF,rfl,Dt,yQ,yP⟩:=hc
 obtain⟨dS,vk,vi,dB,rfl,xw,q8,q7⟩:=hh
 have DG:=hT.nc
 have hnh:=hT.nh
 have hlen:=nN.len
 refine bC au [] [] bu<|zD 2<|jn fun b1=>jd 7 [0]<|jp (vs:=[.agg ⟨[.slice eL cs.length eF,.slice dS hv.length dB]⟩]) [] [] (fun aB hs hZ=>(VV (hR.up hs) nN hT))<|jd 13 [0]<|jn fun fQ=>jd 11 [1]<|py<|eO [1,1,1,0,1,0,0] [] (fun(zz:Nat×Value×Cells)=>[(1,zP b1),(2,.pointer none),(3,zI 0),(5,zP fQ),(20,.slice eL cs.length eF),(21,zI (cs.length:Int)),(22,zI (zz.1:Int))]) (fun(zz:Nat×Value×Cells)=>[.l zz.2.2,.b fQ (.cells ⟨[.slice eL cs.length eF,.slice dS hv.length dB,zz.2.1,zS]⟩ 410 (0,0)),.b b1 (.cells ⟨[.slice eL cs.length eF,.slice dS hv.length dB]⟩ 33 (0,0))]) (fun(zz:Nat×Value×Cells)=>zz.1≤cs.length∧ax zz.2.1 1 406 R9 (nz cs zz.1) zz.2.2) (fun(zz:Nat×Value×Cells)=>cs.length-zz.1) (⟨0,zS,[]⟩) ⟨by dsimp only;omega,ax.nil _ _ _⟩ [0,1,2] ?_
 rintro⟨k,vS,LS⟩ hI K1 bG rest
 dsimp only at hI
 refine zD 5<|zJ 23 ((k:Int) <(cs.length:Int)) (fun h1=>?_) fun h1=>?_
 ·
  refine zD 7 ?_
  obtain⟨yD,ma⟩:=zG cs k
  refine jb eF 2 yQ ma<|jl 0 (yP _ _ ma)<|jn fun b7=>jd 4 [0] ?_
  have iZ:=hT.cls _ _ ma
  have Kr:=oY cs k
  refine zD 2<|jp (vs:=[.int .u8 0,zI (k:Int)]) [] [] (fun aB hs hZ=>(aze (by omega)))<|jd 9 [0]<|zJ 31 (yD.under≥0) (fun h2=>?_) fun h2=>?_
  ·
   refine jd 9 [2,0] ?_
   obtain⟨E3,x3⟩:=zG ((nz cs k)) (yD.under.toNat) (by first|omega| (simp only[List.length_set,List.length_append,List.length_cons,List.length_nil];omega))
   refine qD yD.under 1 hI.2 x3 (Int.toNat_of_nonneg (show 0≤yD.under∧yD.under <(((nz cs k)).length:Int) from (by have:=iZ.2;simp only[oY];omega)).1).symm (fun b39 aSV=>?_)
   refine px 0 [1] LS (fun s _ hZ=>cD hI.2 aSV hZ x3)<|jd 10 [2]<|jn fun b48=>jE (sz:=1) (ps:=(nz cs k)) (qs:=[(Kp .u8 (Kp .u8 0 (dJ .u8 1 (k:Int))) E3)]) (enc:=R9) (w:= .slice (some ⟨b48,0,none⟩) 1 1) [2] [0] [(b48,.cells ⟨([(Kp .u8 (Kp .u8 0 (dJ .u8 1 (k:Int))) E3)].map R9).flatten⟩ 406 (0,0))] (hI.2) (fun s _ hZ=>bS [(Kp .u8 (Kp .u8 0 (dJ .u8 1 (k:Int))) E3)] (hZ _ (.head _)) (by intro p hp;rfl)) (fun p _=>ai rfl) (by simp only[oY,List.length_cons,List.length_nil];omega) (fun v49 L49 G0=>?_)
   obtain⟨abM,abF,Ud⟩:=G0.form
   subst Ud
   refine jd 5 [3]<|ja ((k:Int)+1) (by omega)<|zD 2<|bF bG (⟨k+1,(.slice abM (((nz cs k)++[(Kp .u8 (Kp .u8 0 (dJ .u8 1 (k:Int))) E3)])).length abF),L49⟩) ⟨by dsimp only;omega,by rw[anb ma (by omega) x3];exact G0⟩ (by dsimp only;omega) [0,3,4] (Sub.refl _)
  refine jd 9 [2]<|jn fun b48=>jE (sz:=1) (ps:=(nz cs k)) (qs:=[(Kp .u8 0 (dJ .u8 1 (k:Int)))]) (enc:=R9) (w:= .slice (some ⟨b48,0,none⟩) 1 1) [2] [0] [(b48,.cells ⟨([(Kp .u8 0 (dJ .u8 1 (k:Int)))].map R9).flatten⟩ 406 (0,0))] (hI.2) (fun s _ hZ=>bS [(Kp .u8 0 (dJ .u8 1 (k:Int)))] (hZ _ (.head _)) (by intro p hp;rfl)) (fun p _=>ai rfl) (by simp only[oY,List.length_cons,List.length_nil];omega) (fun v49 L49 G0=>?_)
  obtain⟨abM,abF,Ud⟩:=G0.form
  subst Ud
  refine jd 5 [3]<|ja ((k:Int)+1) (by omega)<|zD 2<|bF bG (⟨k+1,(.slice abM (((nz cs k)++[(Kp .u8 0 (dJ .u8 1 (k:Int)))])).length abF),L49⟩) ⟨by dsimp only;omega,by rw[anc ma (by omega)];exact G0⟩ (by dsimp only;omega) [0,3,4] (Sub.refl _)
 refine jd 11 [2]<|py<|eO [1,1,1,1,0,1,0,0] [] (fun(zz:Nat×Value×Cells×(List Value))=>[(2,.pointer none),(3,zI 0),(5,zP fQ),(54,.slice dS hv.length dB),(55,zI (hv.length:Int)),(56,zI (zz.1:Int))]) (fun(zz:Nat×Value×Cells×(List Value))=>[.l zz.2.2.1,.b fQ (.cells ⟨[.slice eL cs.length eF,.slice dS hv.length dB,vS,zz.2.1]⟩ 410 (0,0)),.l LS,.b b1 (.cells ⟨[.slice eL cs.length eF,.slice dS hv.length dB]⟩ 33 (0,0))]) (fun(zz:Nat×Value×Cells×(List Value))=>(zz.1≤hv.length∧zz.2.2.2.length≤zz.1)∧ax zz.2.1 1 420 gJ zz.2.2.2 zz.2.2.1) (fun(zz:Nat×Value×Cells×(List Value))=>hv.length-zz.1) (⟨0,zS,[],[]⟩) ⟨⟨by omega,Nat.le_refl _⟩,ax.nil _ _ _⟩ [0,2,1,3] ?_
 rintro⟨j,vE,LE,es⟩ hJ K2 mg rest
 dsimp only at hJ
 refine zD 5<|zJ 57 ((j:Int) <(hv.length:Int)) (fun h3=>?_) fun h3=>?_
 ·
  refine zD 6 ?_
  obtain⟨FE,alS⟩:=zG hv j
  refine jb dB 4 q8 alS<|jl 0 (q7 _ _ alS)<|jn fun pH=>yh 0 pH 0 [.string ByteArray.empty,zI 0,zI 0,zS] [.string FE.word,zI FE.cls,zI FE.oK,FE.eC] 133 (nq dC _ (List.mem_of_getElem? alS)) rfl<|zD 3 ?_
  obtain⟨y58,bdX,aQA⟩:=dC.get alS
  obtain⟨fS,sj,si,fe,hqe,tY,mw,nj⟩:=aQA.2.2.2
  refine jmw 0 [.b pH (.cells ⟨[.string FE.word,zI FE.cls,zI FE.oK,.slice fS y58.eC.length fe]⟩ 133 (0,0))] (L:=[(pH,.cells ⟨[.string FE.word,zI FE.cls,zI FE.oK,FE.eC]⟩ 133 (0,0))]) (by rw[hqe];rfl) ?_
  refine jd 6 [0]<|js 73 (!decide (FE.oK=(-1))) (fun h4=>?_) (fun h4=>?_)
  ·
   replace h4:=of_decide_eq_false (by simpa using h4)
   refine jd 11 [2,0]<|aD 9 fun rZ r8 qL=>jn fun b86=>ba qL [1,2,3,4,5]<|aD 10 fun sN sU ri=>jE (sz:=1) (ps:=es) (qs:=[(.iface 413 (.agg ⟨[zI FE.oK]⟩):Value)]) (enc:=gJ) (w:= .slice (some ⟨b86,0,none⟩) 1 1) [2] [0] [(b86,.cells ⟨([(.iface 413 (.agg ⟨[zI FE.oK]⟩):Value)].map gJ).flatten⟩ 420 (0,0))] (hJ.2) (fun s _ hZ=>bS [(.iface 413 (.agg ⟨[zI FE.oK]⟩):Value)] (hZ _ (.head _)) (by intro p hp;rfl)) (by intro p hp;rw[List.mem_singleton] at hp;subst hp;exact ai rfl) (by simp only[List.length_cons,List.length_nil];omega) (fun v87 L87 ae3=>?_)
   obtain⟨aj3,ajW,auJ⟩:=ae3.form
   subst auJ
   refine iB ri [[2]]<|zD 2<|aD 13 fun Aj Av A5=>jd 1 [3]<|iB A5 []<|zD 2<|ja ((j:Int)+1) (by omega)<|zD 2<|bF mg (⟨j+1,(.slice aj3 ((es++[(.iface 413 (.agg ⟨[zI FE.oK]⟩):Value)])).length ajW),L87,(es++[(.iface 413 (.agg ⟨[zI FE.oK]⟩):Value)])⟩) ⟨⟨by dsimp only;omega,by simp only[List.length_append,List.length_cons,List.length_nil];omega⟩,ae3⟩ (by dsimp only;omega) [0,3,4,5] (Sub.refl _)
  replace h4:=of_decide_eq_true (by simpa using h4)
  refine jd 8 [0]<|js 90 (!decide (FE.cls=(-1))) (fun h8=>?_) (fun h8=>?_)
  ·
   replace h8:=of_decide_eq_false (by simpa using h8)
   refine jd 13 [2,0,0]<|aD 11 fun Yt YH Uq=>jn fun aHv=>ba Uq [1,2,3,4,5]<|aD 12 fun abg abY QG=>jE (sz:=1) (ps:=es) (qs:=[(.iface 415 (.agg ⟨[zI FE.cls,.slice fS y58.eC.length fe]⟩):Value)]) (enc:=gJ) (w:= .slice (some ⟨aHv,0,none⟩) 1 1) [2] [0] [(aHv,.cells ⟨([(.iface 415 (.agg ⟨[zI FE.cls,.slice fS y58.eC.length fe]⟩):Value)].map gJ).flatten⟩ 420 (0,0))] (hJ.2) (fun s _ hZ=>bS [(.iface 415 (.agg ⟨[zI FE.cls,.slice fS y58.eC.length fe]⟩):Value)] (hZ _ (.head _)) (by intro p hp;rfl)) (by intro p hp;rw[List.mem_singleton] at hp;subst hp;exact ai rfl) (by simp only[List.length_cons,List.length_nil];omega) (fun bbT aV5 Xl=>?_)
   obtain⟨VE,VC,afY⟩:=Xl.form
   subst afY
   refine iB QG [[2],[2]]<|zD 2<|aD 15 fun Sd Su Up=>jd 1 [3]<|iB Up []<|zD 2<|ja ((j:Int)+1) (by omega)<|zD 2<|bF mg (⟨j+1,(.slice VE ((es++[(.iface 415 (.agg ⟨[zI FE.cls,.slice fS y58.eC.length fe]⟩):Value)])).length VC),aV5,(es++[(.iface 415 (.agg ⟨[zI FE.cls,.slice fS y58.eC.length fe]⟩):Value)])⟩) ⟨⟨by dsimp only;omega,by simp only[List.length_append,List.length_cons,List.length_nil];omega⟩,Xl⟩ (by dsimp only;omega) [0,3,4,5] (Sub.refl _)
  replace h8:=of_decide_eq_true (by simpa using h8)
  refine jd 11 [2,0]<|aD 9 fun Ys YG Uo=>jn fun b69=>ba Uo [1,2,3,4,5]<|aD 10 fun FA FQ wJ=>jE (sz:=1) (ps:=es) (qs:=[(.iface 417 (.agg ⟨[.slice fS y58.eC.length fe]⟩):Value)]) (enc:=gJ) (w:= .slice (some ⟨b69,0,none⟩) 1 1) [2] [0] [(b69,.cells ⟨([(.iface 417 (.agg ⟨[.slice fS y58.eC.length fe]⟩):Value)].map gJ).flatten⟩ 420 (0,0))] (hJ.2) (fun s _ hZ=>bS [(.iface 417 (.agg ⟨[.slice fS y58.eC.length fe]⟩):Value)] (hZ _ (.head _)) (by intro p hp;rfl)) (by intro p hp;rw[List.mem_singleton] at hp;subst hp;exact ai rfl) (by simp only[List.length_cons,List.length_nil];omega) (fun v70 L70 ae5=>?_)
  obtain⟨aLL,aLt,aR6⟩:=ae5.form
  subst aR6
  refine iB wJ [[2]]<|zD 2<|aD 13 fun Jp Ju zh=>jd 1 [3]<|iB zh []<|zD 2<|ja ((j:Int)+1) (by omega)<|zD 2<|bF mg (⟨j+1,(.slice aLL ((es++[(.iface 417 (.agg ⟨[.slice fS y58.eC.length fe]⟩):Value)])).length aLt),L70,(es++[(.iface 417 (.agg ⟨[.slice fS y58.eC.length fe]⟩):Value)])⟩) ⟨⟨by dsimp only;omega,by simp only[List.length_append,List.length_cons,List.length_nil];omega⟩,ae5⟩ (by dsimp only;omega) [0,3,4,5] (Sub.refl _)
 refine zD 9<|aH q0 (.tuple ⟨[zP fQ,zI 0]⟩) [] [1,2] ((fQ,.cells ⟨[.slice eL cs.length eF,.slice dS hv.length dB,vS,vE]⟩ 410 (0,0))::LS) (Sub.refl _) ⟨_,_,rfl,rfl,_,_,LS,_,rfl,by have:=hI.2;rwa[show k=cs.length by omega] at this,rfl⟩
theorem WI{s:Int}{j:Int}(h:0≤j):adX s (j+1).toNat=bif hasB s j then j else adX s j.toNat:=by
 obtain⟨m,rfl⟩:=Int.eq_ofNat_of_zero_le h
 rfl
theorem V3{on a b:Int}{x:ez}(h:l[k]?=some x):BU on a b (l.drop k) k=((((hasB on k&&decide (x.a=a))&&decide (x.b=b))&& !x.same)||BU on a b (l.drop (k+1)) (k+1)):=by rw[gE h];rfl
theorem acv{on a b:Int}(h:¬k <l.length):BU on a b (l.drop k) k=false:=by rw[eY h];rfl
theorem Xw{hv:List bp}{h:Int}{x:bp}(hS:dg de hv hd)(hT:mi cs hd)(hk:ox hd h)(h0:0≤h)(hx:hv[h.toNat]?=some x):XZ hd h=x.cls∧0≤x.cls∧x.cls <cs.length:=by
 obtain⟨y,hy,hs⟩:=hS.get hx
 rcases hk with rfl| ⟨_,z,hz,hc⟩
 ·omega
 rw[hy] at hz;cases hz
 have:=(hT.A3 _ _ hy).2.1
 exact⟨by simp[XZ,hy,hs.2.1],hs.2.1▸hc,by rw[hs.2.1];exact this.2⟩
theorem Xv{hv:List bp}{h:Int}(hS:dg de hv hd)(hk:ox hd h)(h0:0≤h):h <hv.length:=by
 rcases hk with rfl| ⟨_,z,hz,_⟩
 ·omega
 have:=(List.getElem?_eq_some_iff.1 hz).1
 rw[hS.len];omega
theorem aq1{hv:List bp}{a b:Int}{ro:Nat→Option Obj}(hR:jM ro vc vh cs hv hd)(nN:dg de hv hd)(hT:mi cs hd)(ha:0≤a∧a <cs.length)(hb:0≤b∧b <cs.length):dO zT 315 [.agg ⟨[vc,vh]⟩,zI a,zI b] ro (.tuple ⟨[zI (GH cs a b),zI 0]⟩):=by
 obtain⟨hc,hh,dC⟩:=id hR
 obtain⟨eL,AH,AG,eF,rfl,Dt,yQ,yP⟩:=hc
 obtain⟨dS,vk,vi,dB,rfl,xw,q8,q7⟩:=hh
 have DG:=hT.nc
 have hnh:=hT.nh
 have hlen:=nN.len
 have Kr:=oY cs cs.length
 refine bC au [] [] bu<|zD 2<|jn fun b3=>jd 6 [0]<|jc (vs:=[.agg ⟨[.slice eL cs.length eF,.slice dS hv.length dB]⟩]) [] (ara hR nN hT) ?_
 rintro _ _ ⟨bT,vS,LS,vE,rfl,hS,rfl⟩
 refine jg 0 [.b bT (.cells ⟨[.slice eL cs.length eF,.slice dS hv.length dB,vS,vE]⟩ 410 (0,0)),.l LS]<|zD 5<|jf [0,1] ((bT,.cells ⟨[.slice eL cs.length eF,.slice dS hv.length dB,vS,vE]⟩ 410 (0,0))::LS) (fun BE cd jW=>?_)
 have hSS:=hS.lR jW.tail
 obtain⟨aAb,bcH,bcF,akC,rfl,bcG,aAa,az9⟩:=hSS
 refine jd 17 [0]<|ja ((cs.length:Int)-1) (by omega)<|jp (vs:=[zI a,zI 0,zI ((cs.length:Int)-1)]) [] [] (fun aB hs hZ=>jL)<|zD 3<|js 20 (!(jK a 0 ((cs.length:Int)-1))) (fun h4=>?_) (fun h4=>?_)
 ·
  try simp only[zB] at h4
  exfalso;simp only[jK,Bool.not_eq_true',Bool.and_eq_false_iff,decide_eq_false_iff_not] at h4;omega
 try simp only[zB] at h4
 refine jd 6 [0]<|ja ((cs.length:Int)-1) (by omega)<|jp (vs:=[zI b,zI 0,zI ((cs.length:Int)-1)]) [] [] (fun aB hs hZ=>jL)<|zD 3<|js 20 (!(jK b 0 ((cs.length:Int)-1))) (fun h5=>?_) (fun h5=>?_)
 ·
  try simp only[zB] at h5
  exfalso;simp only[jK,Bool.not_eq_true',Bool.and_eq_false_iff,decide_eq_false_iff_not] at h5;omega
 try simp only[zB] at h5
 refine jd 8 [0]<|ja ((cs.length:Int)-1) (by omega)<|zD 3<|eO [1,1,1,0,1,0,0] [] (fun(zz:Int)=>[(1,zI a),(2,zI b),(8,zP bT),(10,zI zz)]) (fun(zz:Int)=>[.b b3 (.cells ⟨[.slice eL cs.length eF,.slice dS hv.length dB]⟩ 33 (0,0))]) (fun(zz:Int)=>(-1≤zz∧zz <cs.length)∧GH cs a b=adX (TD .u8 ((nz cs cs.length)[a.toNat]?.getD 0) ((nz cs cs.length)[b.toNat]?.getD 0)) (zz+1).toNat) (fun(zz:Int)=>(zz+1).toNat) ((cs.length:Int)-1) ⟨by omega,by rw[GH,show ((cs.length:Int)-1+1).toNat=cs.length by omega]⟩ [0] ?_
 rintro j hI K1 bG rest
 refine zD 6<|zJ 40 (j≥0) (fun h6=>?_) fun h6=>?_
 ·
  refine zD 9<|jl (b:=bT) (off:=0) (m:=4) (vs:=[.slice eL cs.length eF,.slice dS hv.length dB,.slice aAb ((nz cs cs.length).length) akC,vE]) 2 ⟨_,_,_,.inl (jW _ (.head _)),rfl⟩<|zD 1 ?_
  obtain⟨x48,GO⟩:=zG ((nz cs cs.length)) (a.toNat) (by simp only[oY];omega)
  refine N3 a akC 1 aAa GO (Int.toNat_of_nonneg (show 0≤a∧a <(((nz cs cs.length)).length:Int) from (by simp only[oY];omega)).1).symm ?_
  refine jl 0 (az9 _ _ GO)<|zD 3<|jl (b:=bT) (off:=0) (m:=4) (vs:=[.slice eL cs.length eF,.slice dS hv.length dB,.slice aAb ((nz cs cs.length).length) akC,vE]) 2 ⟨_,_,_,.inl (jW _ (.head _)),rfl⟩<|zD 1 ?_
  obtain⟨x55,alT⟩:=zG ((nz cs cs.length)) (b.toNat)
  refine N3 b akC 1 aAa alT (by omega)<|jl 0 (az9 _ _ alT)<|zD 2<|jp (vs:=[.int .u8 (TD .u8 x48 x55),zI j]) [] [] (fun aB hs hZ=>(aNo (by omega)))<|zD 1<|js 59 (hasB (TD .u8 x48 x55) j) (fun h7=>?_) (fun h7=>?_)
  ·
   refine zD 8<|aH q0.a (.tuple ⟨[zI j,zI 0]⟩) [] [] [] cd ⟨_,_,rfl,rfl,by rw[hI.2,WI (by omega),GO,alT,Option.getD_some,Option.getD_some,show hasB _ _=true from (by assumption)];rfl,rfl⟩
  refine zD 4<|ja (j-1) (by omega)<|zD 2<|bF bG (j-1) ⟨by omega,by rw[hI.2,WI (by omega),GO,alT,Option.getD_some,Option.getD_some,show hasB _ _=false from (by assumption),show j-1+1=j by omega];rfl⟩ (by omega) [0] (Sub.refl _)
 refine zD 8<|aH q0.a (.tuple ⟨[zI (-1),zI 0]⟩) [] [] [] cd ⟨_,_,rfl,rfl,by rw[hI.2,show j= -1 by omega];rfl,rfl⟩
theorem aBh{ro:Nat→Option Obj}:dO zT 134 [] ro (.agg ⟨[.iface 272 (.agg ⟨[]⟩),.iface 273 (.agg ⟨[]⟩),.iface 274 (.agg ⟨[]⟩)]⟩):=by
 refine bC au [] [] bu<|zD 2<|jn fun b0=>jd 13 [0]<|aH q0 (.agg ⟨[.iface 272 (.agg ⟨[]⟩),.iface 273 (.agg ⟨[]⟩),.iface 274 (.agg ⟨[]⟩)]⟩) [0] [] [] (Sub.refl _) ⟨_,_,rfl,rfl,rfl,rfl⟩
theorem asH{rows:List bP}{a:Nat}{on:Int}{ro:Nat→Option Obj}(hF:qd ro f K rows)(hV:gh K)(ha:K.before[a]?=some x) (hb:K.after[b]?=some y):dO zT 311 [.agg ⟨[]⟩,zP f,zI (a:Int),zI (b:Int),.int .u8 on] ro (.bool (zv K x y)):=by
 obtain⟨c0,c1,c2,vc,vh,vr,vb,va,vf,vt,hv,hf,qj,nN,hr,CI,Hf,I8,bO⟩:=id hF
 obtain⟨hc,hh,dC⟩:=id qj
 obtain⟨eL,AH,AG,eF,rfl,Dt,yQ,yP⟩:=hc
 obtain⟨dS,vk,vi,dB,rfl,xw,q8,q7⟩:=hh
 obtain⟨lG,Ic,Ib,lF,rfl,NZ,Gc,Gb⟩:=hr
 obtain⟨kV,IQ,IN,kz,rfl,IP,Ei,Eh⟩:=CI
 obtain⟨kX,IU,IS,kA,rfl,IT,Ek,Ej⟩:=Hf
 obtain⟨mX,S8,S6,lX,rfl,S7,LZ,LY⟩:=I8
 obtain⟨nX,Eg,Ef,nF,rfl,Pa,LV,LU⟩:=bO
 have RR:=hV.rules.1
 have Fj:=hV.before.1
 have Ik:=hV.after.1
 have hnf:=hV.facts.1
 have Kz:=(List.getElem?_eq_some_iff.1 ha).1
 have Xy:=(List.getElem?_eq_some_iff.1 hb).1
 refine bC au [] [] bu<|zD 2<|jn fun b5=>zD 8<|jl (b:=f) (off:=0) (m:=13) (vs:=[c0,c1,c2,.slice eL K.cs.length eF,.slice dS hv.length dB,.slice lG K.rules.length lF,.slice kV K.before.length kz,.slice kX K.after.length kA,zI K.gone,zI K.new,zI K.af,.slice mX K.facts.length lX,.slice nX rows.length nF]) 5 ⟨_,_,_,.inl hf,rfl⟩<|zD 4<|jl (b:=f) (off:=0) (m:=13) (vs:=[c0,c1,c2,.slice eL K.cs.length eF,.slice dS hv.length dB,.slice lG K.rules.length lF,.slice kV K.before.length kz,.slice kX K.after.length kA,zI K.gone,zI K.new,zI K.af,.slice mX K.facts.length lX,.slice nX rows.length nF]) 6 ⟨_,_,_,.inl hf,rfl⟩<|zD 1 ?_
 obtain⟨yD,ma⟩:=zG K.before a
 refine jb kz 5 Ei ma<|zD 1<|jl 0 (Eh _ _ ma)<|zD 4<|jl (b:=f) (off:=0) (m:=13) (vs:=[c0,c1,c2,.slice eL K.cs.length eF,.slice dS hv.length dB,.slice lG K.rules.length lF,.slice kV K.before.length kz,.slice kX K.after.length kA,zI K.gone,zI K.new,zI K.af,.slice mX K.facts.length lX,.slice nX rows.length nF]) 7 ⟨_,_,_,.inl hf,rfl⟩<|zD 1 ?_
 obtain⟨Yv,MI⟩:=zG K.after b
 refine jb kA 5 Ek MI<|zD 1<|jl 0 (Ej _ _ MI)<|jp (vs:=[.slice lG K.rules.length lF,.string yD.name,.string Yv.name]) [] [] (fun aB hs hZ=>PJ ((show bE _ _ _ _ _ from ⟨lG,Ic,Ib,lF,rfl,NZ,Gc,Gb⟩).up hs) hV.rules.2 RR (hV.before.2 _ (List.mem_of_getElem? ma)).1 (hV.after.2 _ (List.mem_of_getElem? MI)).1)<|zD 9<|jp (vs:=[zI 0]) [] [] (fun aB hs hZ=>AW)<|zD 8<|aH q0 (.bool (decide ((FH K.rules yD.name Yv.name)=2))) [] [] [] (Sub.refl _) ⟨_,_,rfl,rfl,by rw[ha] at ma;cases ma;rw[hb] at MI;cases MI;rfl,rfl⟩
theorem aev{rows:List bP}{a:Nat}{on:Int}{ro:Nat→Option Obj}(hF:qd ro f K rows)(hV:gh K)(ha:K.before[a]?=some x) (hb:K.after[b]?=some y):dO zT 313 [.agg ⟨[]⟩,zP f,zI (a:Int),zI (b:Int),.int .u8 on] ro (.bool (uK K x y)):=by
 obtain⟨c0,c1,c2,vc,vh,vr,vb,va,vf,vt,hv,hf,qj,nN,hr,CI,Hf,I8,bO⟩:=id hF
 obtain⟨hc,hh,dC⟩:=id qj
 obtain⟨eL,AH,AG,eF,rfl,Dt,yQ,yP⟩:=hc
 obtain⟨dS,vk,vi,dB,rfl,xw,q8,q7⟩:=hh
 obtain⟨lG,Ic,Ib,lF,rfl,NZ,Gc,Gb⟩:=hr
 obtain⟨kV,IQ,IN,kz,rfl,IP,Ei,Eh⟩:=CI
 obtain⟨kX,IU,IS,kA,rfl,IT,Ek,Ej⟩:=Hf
 obtain⟨mX,S8,S6,lX,rfl,S7,LZ,LY⟩:=I8
 obtain⟨nX,Eg,Ef,nF,rfl,Pa,LV,LU⟩:=bO
 have RR:=hV.rules.1
 have Fj:=hV.before.1
 have Ik:=hV.after.1
 have hnf:=hV.facts.1
 have Kz:=(List.getElem?_eq_some_iff.1 ha).1
 have Xy:=(List.getElem?_eq_some_iff.1 hb).1
 refine bC au [] [] bu<|zD 2<|jn fun b5=>zD 8<|jl (b:=f) (off:=0) (m:=13) (vs:=[c0,c1,c2,.slice eL K.cs.length eF,.slice dS hv.length dB,.slice lG K.rules.length lF,.slice kV K.before.length kz,.slice kX K.after.length kA,zI K.gone,zI K.new,zI K.af,.slice mX K.facts.length lX,.slice nX rows.length nF]) 6 ⟨_,_,_,.inl hf,rfl⟩<|zD 1 ?_
 obtain⟨yE,qF⟩:=zG K.before a
 refine jb kz 5 Ei qF<|zD 1<|jl 3 (Eh _ _ qF)<|zD 4<|jl (b:=f) (off:=0) (m:=13) (vs:=[c0,c1,c2,.slice eL K.cs.length eF,.slice dS hv.length dB,.slice lG K.rules.length lF,.slice kV K.before.length kz,.slice kX K.after.length kA,zI K.gone,zI K.new,zI K.af,.slice mX K.facts.length lX,.slice nX rows.length nF]) 7 ⟨_,_,_,.inl hf,rfl⟩<|zD 1 ?_
 obtain⟨oG,jF⟩:=zG K.after b
 refine jb kA 5 Ek jF<|zD 1<|jl 3 (Ej _ _ jF)<|zD 9<|jj 3 [(1,zP f),(10,.bool false),(11,zI yE.head),(12,zI oG.head),(38,.bool ((decide (yE.head <0))||(decide (oG.head <0))))] (fun gQ=>?_) (fun hj=>?_)
 rotate_left
 refine js 35 (decide (yE.head <0)) (fun h1=>?_) (fun h1=>?_)
 ·
  have gN:=h1
  replace gN:=of_decide_eq_true gN
  refine zD 3<|jw 38 (.bool ((decide (yE.head <0))||(decide (oG.head <0)))) (w:= .bool true) (by rw[h1]<;>rfl) ?_
  exact hj _ (by kernel_rfl) (by kernel_rfl)
 ·
  have gN:=h1
  replace gN:=of_decide_eq_false gN
  refine zD 3<|jw 38 (.bool ((decide (yE.head <0))||(decide (oG.head <0)))) (w:= .bool (decide (oG.head <0))) (by rw[h1]<;>rfl) ?_
  exact hj _ (by kernel_rfl) (by kernel_rfl)
 refine zD 1<|jj 4 [(1,zP f),(10,.bool false),(11,zI yE.head),(12,zI oG.head),(43,.bool (((decide (yE.head <0))||(decide (oG.head <0)))||(decide (yE.head=oG.head))))] (fun gQ=>?_) (fun hj=>?_)
 rotate_left
 refine js 39 ((decide (yE.head <0))||(decide (oG.head <0))) (fun h2=>?_) (fun h2=>?_)
 ·
  have lM:=h2
  try simp only[zB] at lM
  refine zD 4<|jw 43 (.bool (((decide (yE.head <0))||(decide (oG.head <0)))||(decide (yE.head=oG.head)))) (w:= .bool true) (by rw[h2]<;>rfl) ?_
  exact hj _ (by kernel_rfl) (by kernel_rfl)
 ·
  have lM:=h2
  try simp only[zB] at lM
  refine zD 4<|jw 43 (.bool (((decide (yE.head <0))||(decide (oG.head <0)))||(decide (yE.head=oG.head)))) (w:= .bool (decide (yE.head=oG.head))) (by rw[h2]<;>rfl) ?_
  exact hj _ (by kernel_rfl) (by kernel_rfl)
 refine zD 1<|js 43 (((decide (yE.head <0))||(decide (oG.head <0)))||(decide (yE.head=oG.head))) (fun h3=>?_) (fun h3=>?_)
 ·
  try simp only[zB] at h3
  refine zD 6<|aH q0 (.bool false) [] [] [] (Sub.refl _) ⟨_,_,rfl,rfl,by rw[ha] at qF;cases qF;rw[hb] at jF;cases jF;rw[uK,if_pos (by omega)],rfl⟩
 try simp only[zB] at h3
 refine zD 8<|jl (b:=f) (off:=0) (m:=13) (vs:=[c0,c1,c2,.slice eL K.cs.length eF,.slice dS hv.length dB,.slice lG K.rules.length lF,.slice kV K.before.length kz,.slice kX K.after.length kA,zI K.gone,zI K.new,zI K.af,.slice mX K.facts.length lX,.slice nX rows.length nF]) 3 ⟨_,_,_,.inl hf,rfl⟩<|zD 5<|jl (b:=f) (off:=0) (m:=13) (vs:=[c0,c1,c2,.slice eL K.cs.length eF,.slice dS hv.length dB,.slice lG K.rules.length lF,.slice kV K.before.length kz,.slice kX K.after.length kA,zI K.gone,zI K.new,zI K.af,.slice mX K.facts.length lX,.slice nX rows.length nF]) 4 ⟨_,_,_,.inl hf,rfl⟩<|zD 1 ?_
 obtain⟨x57,Eu⟩:=zG hv (yE.head.toNat) (by have:=Xv nN (hV.before.2 _ (List.mem_of_getElem? qF)).2 (by omega);omega)
 refine N3 yE.head dB 4 q8 Eu (Int.toNat_of_nonneg (show 0≤yE.head∧yE.head <((hv).length:Int) from (by have:=Xv nN (hV.before.2 _ (List.mem_of_getElem? qF)).2 (by omega);omega)).1).symm ?_
 refine zD 1<|jl 1 (q7 _ _ Eu)<|zD 5<|jl (b:=f) (off:=0) (m:=13) (vs:=[c0,c1,c2,.slice eL K.cs.length eF,.slice dS hv.length dB,.slice lG K.rules.length lF,.slice kV K.before.length kz,.slice kX K.after.length kA,zI K.gone,zI K.new,zI K.af,.slice mX K.facts.length lX,.slice nX rows.length nF]) 4 ⟨_,_,_,.inl hf,rfl⟩<|zD 1 ?_
 obtain⟨x67,alR⟩:=zG hv (oG.head.toNat) (by have:=Xv nN (hV.after.2 _ (List.mem_of_getElem? jF)).2 (by omega);omega)
 refine N3 oG.head dB 4 q8 alR (Int.toNat_of_nonneg (show 0≤oG.head∧oG.head <((hv).length:Int) from (by have:=Xv nN (hV.after.2 _ (List.mem_of_getElem? jF)).2 (by omega);omega)).1).symm ?_
 refine zD 1<|jl 1 (q7 _ _ alR)<|jp (vs:=[.agg ⟨[.slice eL K.cs.length eF,.slice dS hv.length dB]⟩,zI x57.cls,zI x67.cls]) [] [] (fun aB hs hZ=>aq1 (qj.up hs) nN hV.dP (Xw nN hV.dP (hV.before.2 _ (List.mem_of_getElem? qF)).2 (by omega) Eu).2 (Xw nN hV.dP (hV.after.2 _ (List.mem_of_getElem? jF)).2 (by omega) alR).2)<|zD 9<|jp (vs:=[zI 0]) [] [] (fun aB hs hZ=>AW)<|zD 8<|aH q0 (.bool (decide ((GH K.cs x57.cls x67.cls) <0))) [] [] [] (Sub.refl _) ⟨_,_,rfl,rfl,by rw[ha] at qF;cases qF;rw[hb] at jF;cases jF;rw[uK,if_neg (by omega),(Xw nN hV.dP (hV.before.2 _ (List.mem_of_getElem? ha)).2 (by omega) Eu).1,(Xw nN hV.dP (hV.after.2 _ (List.mem_of_getElem? hb)).2 (by omega) alR).1],rfl⟩
theorem alp{rows:List bP}{a:Nat}{on:Int}{ro:Nat→Option Obj}(hF:qd ro f K rows)(hV:gh K):dO zT 319 [.agg ⟨[]⟩,zP f,zI (a:Int),zI (b:Int),.int .u8 on] ro (.bool (BU on a b K.facts 0)):=by
 obtain⟨c0,c1,c2,vc,vh,vr,vb,va,vf,vt,hv,hf,qj,nN,hr,CI,Hf,I8,bO⟩:=id hF
 obtain⟨hc,hh,dC⟩:=id qj
 obtain⟨eL,AH,AG,eF,rfl,Dt,yQ,yP⟩:=hc
 obtain⟨dS,vk,vi,dB,rfl,xw,q8,q7⟩:=hh
 obtain⟨lG,Ic,Ib,lF,rfl,NZ,Gc,Gb⟩:=hr
 obtain⟨kV,IQ,IN,kz,rfl,IP,Ei,Eh⟩:=CI
 obtain⟨kX,IU,IS,kA,rfl,IT,Ek,Ej⟩:=Hf
 obtain⟨mX,S8,S6,lX,rfl,S7,LZ,LY⟩:=I8
 obtain⟨nX,Eg,Ef,nF,rfl,Pa,LV,LU⟩:=bO
 have RR:=hV.rules.1
 have Fj:=hV.before.1
 have Ik:=hV.after.1
 have hnf:=hV.facts.1
 refine bC au [] [] bu<|zD 2<|jn fun b5=>zD 9<|jl (b:=f) (off:=0) (m:=13) (vs:=[c0,c1,c2,.slice eL K.cs.length eF,.slice dS hv.length dB,.slice lG K.rules.length lF,.slice kV K.before.length kz,.slice kX K.after.length kA,zI K.gone,zI K.new,zI K.af,.slice mX K.facts.length lX,.slice nX rows.length nF]) 11 ⟨_,_,_,.inl hf,rfl⟩<|zD 4<|eO [1,0,1,0,0] [] (fun(zz:Nat)=>[(2,zI (a:Int)),(3,zI (b:Int)),(4,.int .u8 on),(17,.slice mX K.facts.length lX),(18,zI (K.facts.length:Int)),(19,zI (zz:Int))]) (fun(zz:Nat)=>[]) (fun(zz:Nat)=>zz≤K.facts.length∧BU on a b K.facts 0=BU on a b (K.facts.drop zz) zz) (fun(zz:Nat)=>K.facts.length-zz) 0 ⟨by omega,rfl⟩ [] ?_
 rintro k hI K1 bG rest
 refine zD 5<|zJ 20 ((k:Int) <(K.facts.length:Int)) (fun h1=>?_) fun h1=>?_
 ·
  refine zD 7 ?_
  obtain⟨sI,uv⟩:=zG K.facts k
  refine jb lX 3 LZ uv<|jl 0 (LY _ _ uv)<|jn fun kg=>jd 7 [0]<|jp (vs:=[.int .u8 on,zI (k:Int)]) [] [] (fun aB hs hZ=>(as1 (by omega)))<|zD 1<|jj 5 [(2,zI (a:Int)),(3,zI (b:Int)),(4,.int .u8 on),(12,zP kg),(17,.slice mX K.facts.length lX),(18,zI (K.facts.length:Int)),(19,zI (k:Int)),(32,.bool ((hasB on (k:Int))&&(decide (sI.a=(a:Int)))))] (fun gQ=>?_) (fun hj=>?_)
  rotate_left
  refine js 27 (hasB on (k:Int)) (fun h2=>?_) (fun h2=>?_)
  ·
   refine jd 5 [0]<|jw 32 (.bool ((hasB on (k:Int))&&(decide (sI.a=(a:Int))))) (w:= .bool (decide (sI.a=(a:Int)))) (by rw[h2]<;>rfl) ?_
   exact hj _ (by kernel_rfl) (by kernel_rfl)
  ·
   refine zD 5<|jw 32 (.bool ((hasB on (k:Int))&&(decide (sI.a=(a:Int))))) (w:= .bool false) (by rw[h2]<;>rfl) ?_
   exact hj _ (by kernel_rfl) (by kernel_rfl)
  refine zD 1<|jj 5 [(2,zI (a:Int)),(3,zI (b:Int)),(4,.int .u8 on),(12,zP kg),(17,.slice mX K.facts.length lX),(18,zI (K.facts.length:Int)),(19,zI (k:Int)),(38,.bool (((hasB on (k:Int))&&(decide (sI.a=(a:Int))))&&(decide (sI.b=(b:Int)))))] (fun gQ=>?_) (fun hj=>?_)
  rotate_left
  refine js 33 ((hasB on (k:Int))&&(decide (sI.a=(a:Int)))) (fun h3=>?_) (fun h3=>?_)
  ·
   have wK:=h3
   try simp only[zB] at wK
   refine jd 5 [0]<|jw 38 (.bool (((hasB on (k:Int))&&(decide (sI.a=(a:Int))))&&(decide (sI.b=(b:Int))))) (w:= .bool (decide (sI.b=(b:Int)))) (by rw[h3]<;>rfl) ?_
   exact hj _ (by kernel_rfl) (by kernel_rfl)
  ·
   have wK:=h3
   try simp only[zB] at wK
   refine zD 5<|jw 38 (.bool (((hasB on (k:Int))&&(decide (sI.a=(a:Int))))&&(decide (sI.b=(b:Int))))) (w:= .bool false) (by rw[h3]<;>rfl) ?_
   exact hj _ (by kernel_rfl) (by kernel_rfl)
  refine zD 1<|jj 4 [(2,zI (a:Int)),(3,zI (b:Int)),(4,.int .u8 on),(17,.slice mX K.facts.length lX),(18,zI (K.facts.length:Int)),(19,zI (k:Int)),(43,.bool ((((hasB on (k:Int))&&(decide (sI.a=(a:Int))))&&(decide (sI.b=(b:Int))))&&(!sI.same)))] (fun gQ=>?_) (fun hj=>?_)
  rotate_left
  refine js 39 (((hasB on (k:Int))&&(decide (sI.a=(a:Int))))&&(decide (sI.b=(b:Int)))) (fun h4=>?_) (fun h4=>?_)
  ·
   have yq:=h4
   try simp only[zB] at yq
   refine jd 4 [0]<|jw 43 (.bool ((((hasB on (k:Int))&&(decide (sI.a=(a:Int))))&&(decide (sI.b=(b:Int))))&&(!sI.same))) (w:= .bool (!sI.same)) (by rw[h4]<;>rfl) ?_
   exact hj _ (by kernel_rfl) (by kernel_rfl)
  ·
   have yq:=h4
   try simp only[zB] at yq
   refine zD 4<|jw 43 (.bool ((((hasB on (k:Int))&&(decide (sI.a=(a:Int))))&&(decide (sI.b=(b:Int))))&&(!sI.same))) (w:= .bool false) (by rw[h4]<;>rfl) ?_
   exact hj _ (by kernel_rfl) (by kernel_rfl)
  refine zD 1<|js 43 ((((hasB on (k:Int))&&(decide (sI.a=(a:Int))))&&(decide (sI.b=(b:Int))))&&(!sI.same)) (fun h5=>?_) (fun h5=>?_)
  ·
   refine zD 6<|aH q0 (.bool true) [] [] [] (Sub.refl _) ⟨_,_,rfl,rfl,by rw[hI.2,V3 uv,show (((hasB on k&&decide (sI.a=a))&&decide (sI.b=b))&& !sI.same)=true from (by assumption)];rfl,rfl⟩
  refine zD 3<|ja ((k:Int)+1) (by omega)<|zD 2<|bF bG (k+1) ⟨by omega,by rw[hI.2,V3 uv,show (((hasB on k&&decide (sI.a=a))&&decide (sI.b=b))&& !sI.same)=false from (by assumption)];rfl⟩ (by omega) [] (Sub.refl _)
 refine zD 7<|aH q0 (.bool false) [] [] [] (Sub.refl _) ⟨_,_,rfl,rfl,by rw[hI.2,acv (by omega)],rfl⟩
theorem aBj{rows:List bP}{a:Nat}{on:Int}{ro:Nat→Option Obj}(hF:qd ro f K rows)(hV:gh K)(ha:K.before[a]?=some x) (hb:K.after[b]?=some y):dO zT 97 [zP f,zI (a:Int),zI (b:Int),.int .u8 on] ro (.bool (dc K on a b)):=by
 refine bC au [] [] bu<|zD 7<|jp [] [] (fun aB hs hZ=>aBh)<|zD 3<|eO [1,0,1,0,0] [] (fun(zz:Nat)=>[(0,zP f),(1,zI (a:Int)),(2,zI (b:Int)),(3,.int .u8 on),(11,.agg ⟨[.iface 272 (.agg ⟨[]⟩),.iface 273 (.agg ⟨[]⟩),.iface 274 (.agg ⟨[]⟩)]⟩),(12,zI (zz:Int))]) (fun(zz:Nat)=>[]) (fun(zz:Nat)=>zz≤3∧(1≤zz→zv K x y=false)∧(2≤zz→uK K x y=false)∧(3≤zz→BU on a b K.facts 0=false)) (fun(zz:Nat)=>3-zz) 0 ⟨by omega,nofun,nofun,nofun⟩ [] ?_
 rintro k hI K1 bG rest
 refine zD 5<|zJ 13 ((k:Int) <3) (fun h1=>?_) fun h1=>?_
 ·
  refine zD 6 ?_
  obtain rfl|rfl|rfl:k=0∨k=1∨k=2:=by omega
  ·
   refine zD 10<|jpI (vs:=[.agg ⟨[]⟩,zP f,zI (a:Int),zI (b:Int),.int .u8 on]) (fun aB hs=>asH (hF.up hs) hV ha hb)<|zD 1<|js 20 (zv K x y) (fun h2=>?_) (fun h2=>?_)
   ·
    refine zD 6<|aH q0 (.bool false) [] [] [] (Sub.refl _) ⟨_,_,rfl,rfl,by simp only[dc,ha,hb];simp[*],rfl⟩
   refine zD 6<|bF bG 1 ⟨by omega,(fun _=>by assumption),nofun,nofun⟩ (by omega) [] (Sub.refl _)
  ·
   refine zD 10<|jpI (vs:=[.agg ⟨[]⟩,zP f,zI (a:Int),zI (b:Int),.int .u8 on]) (fun aB hs=>aev (hF.up hs) hV ha hb)<|zD 1<|js 20 (uK K x y) (fun h3=>?_) (fun h3=>?_)
   ·
    refine zD 6<|aH q0 (.bool false) [] [] [] (Sub.refl _) ⟨_,_,rfl,rfl,by simp only[dc,ha,hb];simp[*],rfl⟩
   refine zD 6<|bF bG 2 ⟨by omega,(fun _=>hI.2.1 (by omega)),(fun _=>by assumption),nofun⟩ (by omega) [] (Sub.refl _)
  refine zD 10<|jpI (vs:=[.agg ⟨[]⟩,zP f,zI (a:Int),zI (b:Int),.int .u8 on]) (fun aB hs=>alp (hF.up hs) hV)<|zD 1<|js 20 (BU on a b K.facts 0) (fun h4=>?_) (fun h4=>?_)
  ·
   refine zD 6<|aH q0 (.bool false) [] [] [] (Sub.refl _) ⟨_,_,rfl,rfl,by simp only[dc,ha,hb];simp[*],rfl⟩
  refine zD 6<|bF bG 3 ⟨by omega,(fun _=>hI.2.1 (by omega)),(fun _=>hI.2.2.1 (by omega)),(fun _=>by assumption)⟩ (by omega) [] (Sub.refl _)
 refine zD 7<|aH q0 (.bool true) [] [] [] (Sub.refl _) ⟨_,_,rfl,rfl,by simp only[dc,ha,hb,hI.2.1 (by omega),hI.2.2.1 (by omega),hI.2.2.2 (by omega)];rfl,rfl⟩
abbrev eP4(p:Nat→Int):List Value:=[zI (p 0),zI (p 1),zI (p 2),zI (p 3)]
abbrev pL(p:Nat→Int):List Int:=[p 0,p 1,p 2,p 3]
def m9(p:Nat→Int)(a:Nat)(v:Int):Nat→Int:=fun i=>if i=a then v else p i
theorem Ka{a:Nat}(h:a <4):a=0∨a=1∨a=2∨a=3:=by omega
theorem ar4{a:Nat}(h:a <4):nth (eP4 p) (0+(a:Int).toNat*1)=some (zI (p a)):=by
 rcases Ka h with rfl|rfl|rfl|rfl<;>rfl
theorem ar3{a:Nat}{v:Int}(h:a <4):dI (eP4 p) (0+(a:Int).toNat*1) [zI v]=eP4 (m9 p a v):=by
 rcases Ka h with rfl|rfl|rfl|rfl<;>rfl
theorem ar5{a:Nat}{v:Value}(h:a <4):Nat.ble ((0+(a:Int).toNat*1)+[v].length) (eP4 p).length=true:=by
 rcases Ka h with rfl|rfl|rfl|rfl<;>rfl
theorem V6{r:bP}{a:Nat}(h:a <4)(k:b <4):nth (C2 r) (0+(a:Int).toNat*4+(b:Int).toNat*1)=some (.bool (r.c a b)):=by
 rcases Ka h with rfl|rfl|rfl|rfl<;>rcases Ka k with rfl|rfl|rfl|rfl<;>rfl
def jA(r:bP)(a b:Nat)(v:Bool):bP:=⟨fun i j=>if i=a∧j=b then v else r.c i j⟩
theorem V5{r:bP}{a:Nat}{v:Bool}(h:a <4)(k:b <4):dI (C2 r) (0+(a:Int).toNat*4+(b:Int).toNat*1) [.bool v]=C2 (jA r a b v):=by
 rcases Ka h with rfl|rfl|rfl|rfl<;>rcases Ka k with rfl|rfl|rfl|rfl<;>rfl
theorem V7{r:bP}{a:Nat}{v:Value}(h:a <4)(k:b <4):Nat.ble ((0+(a:Int).toNat*4+(b:Int).toNat*1)+[v].length) (C2 r).length=true:=by
 rcases Ka h with rfl|rfl|rfl|rfl<;>rcases Ka k with rfl|rfl|rfl|rfl<;>rfl
def mr(on:Int)(p:Nat→Int):List ez→Nat→Bool
 | [],_=>true
 |x::l,k=>bif (hasB on k&&x.same)&& !decide (p x.a.toNat=x.b+1) then false else mr on p l (k+1)
theorem xq{on:Int}{x:ez}(h:l[k]?=some x):mr on p (l.drop k) k=bif (hasB on k&&x.same)&& !decide (p x.a.toNat=x.b+1) then false else mr on p (l.drop (k+1)) (k+1):=by rw[gE h];rfl
theorem SQ{on:Int}(h:¬k <l.length):mr on p (l.drop k) k=true:=by rw[eY h];rfl
def EH(p:Nat→Int)(a:Nat)(v:Int):Bool:=decide (cX (fun y=>decide (v=y)) ((pL p).take a) 0≥0)
theorem akk{ro:Nat→Option Obj}(h:ro b=some (.cells ⟨eP4 p⟩ T (0,0)))(hn:n≤4):bE ro (.slice (some ⟨b,0,none⟩) n 4) 1 cT ((pL p).take n):=by
 have:=bE.part (bV (enc:=cT) (T:=T) (pL p) h (fun _ _=>rfl)) (l:=0) (h:=n) (by omega) (by simpa using hn)
 simpa [dX] using this
theorem ata{v:Value}{n:Int}{ro:Nat→Option Obj}(hl:bE ro v 1 cT xs)(hn:xs.length≤1000000):dO zT 135 [v,zI n] ro (zI (cX (fun y=>decide (n=y)) xs 0)):=by
 obtain⟨fS,sj,si,fe,rfl,tY,mw,nj⟩:=hl
 refine bC au [] [] bu<|zD 12<|eO [1,0,1,0,0] [] (fun(zz:Nat)=>[(0,.slice fS xs.length fe),(1,zI n),(7,zI (xs.length:Int)),(8,zI (zz:Int))]) (fun(zz:Nat)=>[]) (fun(zz:Nat)=>zz≤xs.length∧cX (fun y=>decide (n=y)) xs 0=cX (fun y=>decide (n=y)) (xs.drop zz) zz) (fun(zz:Nat)=>xs.length-zz) 0 ⟨by omega,rfl⟩ [] ?_
 rintro k hI K1 bG rest
 refine zD 5<|zJ 9 ((k:Int) <(xs.length:Int)) (fun h1=>?_) fun h1=>?_
 ·
  refine zD 14 ?_
  obtain⟨gi,eW⟩:=zG xs k
  refine jb fe 1 mw eW<|jl 0 (nj _ _ eW)<|zD 2<|zJ 16 (n=gi) (fun h2=>?_) fun h2=>?_
  ·
   refine zD 7<|aH q0 (zI (k:Int)) [] [] [] (Sub.refl _) ⟨_,_,rfl,rfl,by rw[hI.2,j9 eW];simp[*],rfl⟩
  refine zD 3<|ja ((k:Int)+1) (by omega)<|zD 2<|bF bG (k+1) ⟨by omega,by rw[hI.2,j9 eW];simp[*]⟩ (by omega) [] (Sub.refl _)
 refine zD 7<|aH q0 (zI (-1)) [] [] [] (Sub.refl _) ⟨_,_,rfl,rfl,by rw[hI.2,qP (by omega)],rfl⟩
theorem aPG{v:Value}{n:Int}{ro:Nat→Option Obj}(hl:bE ro v 1 cT xs)(hn:xs.length≤1000000):dO zT 101 [v,zI n] ro (.bool (decide (cX (fun y=>decide (n=y)) xs 0≥0))):=by
 obtain⟨fS,sj,si,fe,rfl,tY,mw,nj⟩:=hl
 refine bC au [] [] bu<|zD 8<|jp (vs:=[.slice fS xs.length fe,zI n]) [] [] (fun aB hs hZ=>ata ((show bE _ _ _ _ _ from ⟨fS,sj,si,fe,rfl,tY,mw,nj⟩).up hs) (by first|omega| (simp only[List.length_set,List.length_append,List.length_cons,List.length_nil];omega))) ?_
 refine zD 4<|aH q0 (.bool (decide ((cX (fun y=>decide (n=y)) xs 0)≥0))) [] [] [] (Sub.refl _) ⟨_,_,rfl,rfl,rfl,rfl⟩
theorem asI{rows:List bP}{on:Int}{ro:Nat→Option Obj}(hF:qd ro f K rows)(hV:gh K)(g1:ro b1=some (.cells ⟨[zP f]⟩ 94 (0,0)))(g2:ro b2=some (.cells ⟨[.int .u8 on]⟩ 99 (0,0))):dO zT 98 [.agg ⟨[zI (p 0),zI (p 1),zI (p 2),zI (p 3)]⟩,zP b1,zP b2] ro (.bool (mr on p K.facts 0)):=by
 obtain⟨c0,c1,c2,vc,vh,vr,vb,va,vf,vt,hv,hf,qj,nN,hr,CI,Hf,I8,bO⟩:=id hF
 obtain⟨hc,hh,dC⟩:=id qj
 obtain⟨eL,AH,AG,eF,rfl,Dt,yQ,yP⟩:=hc
 obtain⟨dS,vk,vi,dB,rfl,xw,q8,q7⟩:=hh
 obtain⟨lG,Ic,Ib,lF,rfl,NZ,Gc,Gb⟩:=hr
 obtain⟨kV,IQ,IN,kz,rfl,IP,Ei,Eh⟩:=CI
 obtain⟨kX,IU,IS,kA,rfl,IT,Ek,Ej⟩:=Hf
 obtain⟨mX,S8,S6,lX,rfl,S7,LZ,LY⟩:=I8
 obtain⟨nX,Eg,Ef,nF,rfl,Pa,LV,LU⟩:=bO
 have RR:=hV.rules.1
 have Fj:=hV.before.1
 have Ik:=hV.after.1
 have hnf:=hV.facts.1
 refine bC au [] [] bu<|zD 2<|jn fun b3=>zD 5<|jl (b:=b1) (off:=0) (m:=1) (vs:=[zP f]) 0 ⟨_,_,_,.inl g1,rfl⟩<|zD 3<|jl (b:=f) (off:=0) (m:=13) (vs:=[c0,c1,c2,.slice eL K.cs.length eF,.slice dS hv.length dB,.slice lG K.rules.length lF,.slice kV K.before.length kz,.slice kX K.after.length kA,zI K.gone,zI K.new,zI K.af,.slice mX K.facts.length lX,.slice nX rows.length nF]) 11 ⟨_,_,_,.inl hf,rfl⟩<|zD 4<|eO [1,0,1,0,0] [] (fun(zz:Nat)=>[(2,zP b2),(3,zP b3),(11,.slice mX K.facts.length lX),(12,zI (K.facts.length:Int)),(13,zI (zz:Int))]) (fun(zz:Nat)=>[.b b3 (.cells ⟨[zI (p 0),zI (p 1),zI (p 2),zI (p 3)]⟩ 122 (0,0))]) (fun(zz:Nat)=>zz≤K.facts.length∧mr on p K.facts 0=mr on p (K.facts.drop zz) zz) (fun(zz:Nat)=>K.facts.length-zz) 0 ⟨by omega,rfl⟩ [0] ?_
 rintro k hI K1 bG rest
 refine zD 5<|zJ 14 ((k:Int) <(K.facts.length:Int)) (fun h1=>?_) fun h1=>?_
 ·
  refine zD 7 ?_
  obtain⟨BL,pz⟩:=zG K.facts k
  refine jb lX 3 LZ pz<|jl 0 (LY _ _ pz)<|jn fun b6=>jd 4 [0] ?_
  have hf4:=(hV.facts.2 _ (List.mem_of_getElem? pz)).1
  have hf5:=(hV.facts.2 _ (List.mem_of_getElem? pz)).2
  have hae:BL.a=(BL.a.toNat:Int):=by omega
  refine zD 1<|jl (b:=b2) (off:=0) (m:=1) (vs:=[.int .u8 on]) 0 ⟨_,_,_,.inl g2,rfl⟩<|zD 1<|jp (vs:=[.int .u8 on,zI (k:Int)]) [] [] (fun aB hs hZ=>(as1 (by omega)))<|zD 1<|js 3 (hasB on (k:Int)) (fun h2=>?_) (fun h2=>?_)
  ·
   refine jd 4 [0]<|js 7 BL.same (fun h3=>?_) (fun h3=>?_)
   ·
    refine jd 2 [0]<|Ig (b:=b3) (off:=0) (len:=4) (sz:=1) BL.a (by omega)<|px (b:=b3) (off:=0+BL.a.toNat*1) (m:=1) (vs:=[zI (p BL.a.toNat)]) 0 [1] [(b3,.cells ⟨[zI (p 0),zI (p 1),zI (p 2),zI (p 3)]⟩ 122 (0,0))] (fun s _ hZ=>qu (hZ _ (.head _)) (by rw[hae];exact ar4 (by omega))) ?_
    refine jd 2 [0]<|ja (BL.b+1) (by omega)<|zD 3<|js 34 (!decide ((p BL.a.toNat)=(BL.b+1))) (fun h4=>?_) (fun h4=>?_)
    ·
     replace h4:=of_decide_eq_false (by simpa using h4)
     refine zD 6<|aH q0 (.bool false) [] [] [] (Sub.refl _) ⟨_,_,rfl,rfl,by rw[hI.2,xq pz];simp only[h2,h3,decide_eq_false h4,Bool.and_true,Bool.true_and,Bool.not_false,Bool.not_true,Bool.and_false,Bool.false_and,cond_true,cond_false],rfl⟩
    replace h4:=of_decide_eq_true (by simpa using h4)
    refine zD 3<|ja ((k:Int)+1) (by omega)<|zD 2<|bF bG (k+1) ⟨by omega,by rw[hI.2,xq pz];simp only[h2,h3,decide_eq_true h4,Bool.and_true,Bool.true_and,Bool.not_false,Bool.not_true,Bool.and_false,Bool.false_and,cond_true,cond_false]⟩ (by omega) [1] (Sub.refl _)
   refine zD 13<|ja ((k:Int)+1) (by omega)<|zD 2<|bF bG (k+1) ⟨by omega,by rw[hI.2,xq pz];simp only[h2,h3,Bool.and_true,Bool.true_and,Bool.not_false,Bool.not_true,Bool.and_false,Bool.false_and,cond_true,cond_false]⟩ (by omega) [1] (Sub.refl _)
  refine zD 17<|ja ((k:Int)+1) (by omega)<|zD 2<|bF bG (k+1) ⟨by omega,by rw[hI.2,xq pz];simp only[h2,Bool.and_true,Bool.true_and,Bool.not_false,Bool.not_true,Bool.and_false,Bool.false_and,cond_true,cond_false]⟩ (by omega) [1] (Sub.refl _)
 refine zD 7<|aH q0 (.bool true) [] [] [] (Sub.refl _) ⟨_,_,rfl,rfl,by rw[hI.2,SQ (by omega)],rfl⟩
def iV(K:aP)(on:Int):Nat→Nat→(Nat→Int)→List (Nat→Int)
 |0,_,p=>bif mr on p K.facts 0 then [p] else []
 |n+1,a,p=>iV K on n (a+1) p++(List.range K.after.length).flatMap fun b=>bif !dc K on a b||EH p a ((b:Int)+1) then [] else iV K on n (a+1) (m9 p a ((b:Int)+1))
def nO(K:aP)(on:Int)(n a:Nat)(p:Nat→Int)(b:Nat):List (Nat→Int):=bif !dc K on a b||EH p a ((b:Int)+1) then [] else iV K on n (a+1) (m9 p a ((b:Int)+1))
theorem qN(K:aP)(on:Int)(n a:Nat)(p:Nat→Int):iV K on (n+1) a p=iV K on n (a+1) p++(List.range K.after.length).flatMap (nO K on n a p):=rfl
theorem Part.left{α:Type}{L x y:List α}{p:Nat}(h:Part L p (x++y)):Part L p x:=by
 obtain⟨a,b,rfl,h2⟩:=h
 exact⟨a,y++b,by simp,h2⟩
theorem Part.right{α:Type}{L x y:List α}{p:Nat}(h:Part L p (x++y)):Part L (p+x.length) y:=by
 obtain⟨a,b,rfl,rfl⟩:=h
 exact⟨a++x,b,by simp,by simp⟩
theorem Za{j:Nat}(h:j <n):∃r,List.range n=List.range j++[j]++r:=by
 refine⟨(List.range n).drop (j+1),?_⟩
 have h1:(List.range n).take (j+1)=List.range (j+1):=by rw[List.take_range,Nat.min_eq_left h]
 rw[←List.range_succ,←h1,List.take_append_drop]
theorem XB{q:Nat→Int}{a:Nat}{v:Int}(ha:a <4)(h:∀i,i≠a→q i=p i):EH q a v=EH p a v:=by
 have:(pL q).take a=(pL p).take a:=by
  rcases Ka ha with rfl|rfl|rfl|rfl
  ·rfl
  ·simp[h 0 (by omega)]
  ·simp[h 0 (by omega),h 1 (by omega)]
  simp[h 0 (by omega),h 1 (by omega),h 2 (by omega)]
 simp only[EH,this]
theorem VG{q:Nat→Int}{a:Nat}{v:Int}(h:∀i,i≠a→q i=p i):m9 q a v=m9 p a v:=by
 funext i
 simp only[m9]
 split
 ·rfl
 rename_i hi;exact h i hi
abbrev ePs(L:List (Nat→Int)):(Nat→Option Obj)→Nat→List Value→Cells→Prop:=fun _ k vs LL=>∃p,L[k]?=some p∧vs=[.agg ⟨eP4 p⟩]∧LL=[]
structure aiF(ro:Nat→Option Obj)(bl f:Nat)(K:aP)(on:Int)(bf br bx bg bt bo:Nat):Prop where
 f:ro bf=some (.cells ⟨[zP f]⟩ 94 (0,0))
 r:ro br=some (.cells ⟨[.func (.func 98) ⟨[]⟩ ⟨[zP bf,zP bo]⟩]⟩ 187 (0,0))
 y:ro bx=some (.cells ⟨[.func (.yield bl) #[] #[]]⟩ 187 (0,0))
 g:ro bg=some (.cells ⟨[.func (.func 100) ⟨[]⟩ ⟨[zP bf,zP br,zP bx,zP bg,zP bt]⟩]⟩ 188 (0,0))
 t:ro bt=some (.cells ⟨C2 ⟨dc K on⟩⟩ 139 (0,0))
 o:ro bo=some (.cells ⟨[.int .u8 on]⟩ 99 (0,0))
def aqe(bl f:Nat)(K:aP)(rows:List bP)(on:Int)(bf br bx bg bt bo:Nat)(L:List (Nat→Int))(Inv:Nat→Cells→Prop)(Stop:Cells→Prop)(n:Nat):Prop:=
 ∀(ro:Nat→Option Obj) (a:Nat) (p:Nat→Int) (q:Nat) (B:Cells),aiF ro bl f K on bf br bx bg bt bo→qd ro f K rows→a+n=K.before.length→Part L q (iV K on n a p)→Inv q B→YOK zT bl ro L.length (ePs L) Inv Stop→
  eS zT 100 [.agg ⟨eP4 p⟩,zI (a:Int),zP bf,zP br,zP bx,zP bg,zP bt] ro B (fun r Y=>∃c,r= .bool c∧(c=true→Inv (q+(iV K on n a p).length) Y)∧(c=false→Stop Y))
theorem as2{a q:Nat}{on:Int}{B:Cells}{L:List (Nat→Int)}{Inv:Nat→Cells→Prop}{rows:List bP}{ro:Nat→Option Obj}(ih:∀m,m <n→aqe bl f K rows on bf br bx bg bt bo L Inv Stop m)(hV:gh K)(oS:aiF ro bl f K on bf br bx bg bt bo)(hF:qd ro f K rows)(han:a+n=K.before.length)(hP:Part L q (iV K on n a p))(hB:Inv q B)(hy:YOK zT bl ro L.length (ePs L) Inv Stop):eS zT 100 [.agg ⟨[zI (p 0),zI (p 1),zI (p 2),zI (p 3)]⟩,zI (a:Int),zP bf,zP br,zP bx,zP bg,zP bt] ro B (fun r Y=>∃c,r= .bool c∧(c=true→Inv (q+(iV K on n a p).length) Y)∧(c=false→Stop Y)):=by
 obtain⟨gf,gr,gy,gg,gt,go⟩:=id oS
 obtain⟨c0,c1,c2,vc,vh,vr,vb,va,vf,vt,hv,hf,qj,nN,hr,CI,Hf,I8,bO⟩:=id hF
 obtain⟨hc,hh,dC⟩:=id qj
 obtain⟨eL,AH,AG,eF,rfl,Dt,yQ,yP⟩:=hc
 obtain⟨dS,vk,vi,dB,rfl,xw,q8,q7⟩:=hh
 obtain⟨lG,Ic,Ib,lF,rfl,NZ,Gc,Gb⟩:=hr
 obtain⟨kV,IQ,IN,kz,rfl,IP,Ei,Eh⟩:=CI
 obtain⟨kX,IU,IS,kA,rfl,IT,Ek,Ej⟩:=Hf
 obtain⟨mX,S8,S6,lX,rfl,S7,LZ,LY⟩:=I8
 obtain⟨nX,Eg,Ef,nF,rfl,Pa,LV,LU⟩:=bO
 have RR:=hV.rules.1
 have Fj:=hV.before.1
 have Ik:=hV.after.1
 have hnf:=hV.facts.1
 refine bC au [.l B] [] bu<|zD 2<|jn fun b7=>zD 6<|jl (b:=bf) (off:=0) (m:=1) (vs:=[zP f]) 0 ⟨_,_,_,.inl gf,rfl⟩<|zD 3<|jl (b:=f) (off:=0) (m:=13) (vs:=[c0,c1,c2,.slice eL K.cs.length eF,.slice dS hv.length dB,.slice lG K.rules.length lF,.slice kV K.before.length kz,.slice kX K.after.length kA,zI K.gone,zI K.new,zI K.af,.slice mX K.facts.length lX,.slice nX rows.length nF]) 6 ⟨_,_,_,.inl hf,rfl⟩<|zD 3<|zJ 18 ((a:Int)=(K.before.length:Int)) (fun h1=>?_) fun h1=>?_
 ·
  refine zD 2 ?_
  obtain rfl:n=0:=by omega
  refine zD 1<|jl (b:=br) (off:=0) (m:=1) (vs:=[.func (.func 98) ⟨[]⟩ ⟨[zP bf,zP bo]⟩]) 0 ⟨_,_,_,.inl gr,rfl⟩<|jd 1 [0]<|jp (vs:=[.agg ⟨[zI (p 0),zI (p 1),zI (p 2),zI (p 3)]⟩,zP bf,zP bo]) [] [] (fun aB hs hZ=>asI (hF.up hs) hV (hs _ _ gf) (hs _ _ go))<|zD 2<|js 23 (!(mr on p K.facts 0)) (fun h2=>?_) (fun h2=>?_)
  ·
   have lM:=h2
   try simp only[zB] at lM
   refine zD 7<|aH q0 (.bool true) [] [1] B (Sub.refl _) ⟨_,_,rfl,rfl,_,rfl,(fun _=>by rw[show iV K on 0 a p=[] by simp only[iV,show mr on p K.facts 0=false by simpa using h2];rfl];exact hB),nofun⟩
  have lM:=h2
  try simp only[zB] at lM
  have afM:iV K on 0 a p=[p]:=by simp only[iV,show mr on p K.facts 0=true by simpa using h2];rfl
  have Xt:=Part.get (i:=0) (x:=p) hP (by rw[afM];rfl)
  refine jl (b:=bx) (off:=0) (m:=1) (vs:=[(.func (.yield bl) #[] #[])]) 0 ⟨_,_,_,.inl gy,rfl⟩<|jd 1 [0]<|jyc [1] (hy q [.agg ⟨[zI (p 0),zI (p 1),zI (p 2),zI (p 3)]⟩] [] B ro Xt.1 ⟨_,Xt.2,rfl,rfl⟩ hB (Sub.refl _)) (Sub.refl _) ?_
  intro v26 Y26 aPW
  obtain⟨c26,rfl,aSF,aSt⟩:=yb aPW
  refine zD 4<|aH q0 (.bool c26) [] [0] Y26 (Sub.refl _) ⟨_,_,rfl,rfl,_,rfl,(fun h=>by rw[afM];exact aSF h),aSt⟩
 refine zD 4 ?_
 obtain⟨m,rfl⟩:∃m,n=m+1:=⟨n-1,by omega⟩
 rw[qN] at hP
 refine zD 1<|jl (b:=bg) (off:=0) (m:=1) (vs:=[.func (.func 100) ⟨[]⟩ ⟨[zP bf,zP br,zP bx,zP bg,zP bt]⟩]) 0 ⟨_,_,_,.inl gg,rfl⟩<|jd 2 [0]<|ja ((a:Int)+1) (by omega)<|jc (vs:=[.agg ⟨[zI (p 0),zI (p 1),zI (p 2),zI (p 3)]⟩,zI ((a:Int)+1),zP bf,zP br,zP bx,zP bg,zP bt]) [1] (ih m (by omega) _ (a+1) p q _ oS hF (by omega) (Part.left hP) hB hy) ?_
 rintro _ Y32 ⟨c32,rfl,aSC,aSq⟩
 refine zD 2<|js 33 (!c32) (fun h3=>?_) (fun h3=>?_)
 ·
  try simp only[zB] at h3
  refine zD 6<|aH q0 (.bool false) [] [0] Y32 (Sub.refl _) ⟨_,_,rfl,rfl,_,rfl,nofun,fun _=>aSq (by simp_all)⟩
 try simp only[zB] at h3
 refine zD 5<|jl (b:=bf) (off:=0) (m:=1) (vs:=[zP f]) 0 ⟨_,_,_,.inl gf,rfl⟩<|zD 3<|jl (b:=f) (off:=0) (m:=13) (vs:=[c0,c1,c2,.slice eL K.cs.length eF,.slice dS hv.length dB,.slice lG K.rules.length lF,.slice kV K.before.length kz,.slice kX K.after.length kA,zI K.gone,zI K.new,zI K.af,.slice mX K.facts.length lX,.slice nX rows.length nF]) 7 ⟨_,_,_,.inl hf,rfl⟩<|zD 4<|eO [1,1,1,0,1,0,0] [] (fun(zz:Nat×(Nat→Int)×Cells)=>[(1,zI (a:Int)),(5,zP bg),(6,zP bt),(7,zP b7),(39,zI (K.after.length:Int)),(40,zI (zz.1:Int))]) (fun(zz:Nat×(Nat→Int)×Cells)=>[.b b7 (.cells ⟨[zI (zz.2.1 0),zI (zz.2.1 1),zI (zz.2.1 2),zI (zz.2.1 3)]⟩ 122 (0,0)),.l zz.2.2]) (fun(zz:Nat×(Nat→Int)×Cells)=>zz.1≤K.after.length∧Inv (q+(iV K on m (a+1) p).length+((List.range zz.1).flatMap (nO K on m a p)).length) zz.2.2∧∀i,i≠a→zz.2.1 i=p i) (fun(zz:Nat×(Nat→Int)×Cells)=>K.after.length-zz.1) (⟨0,p,Y32⟩) ⟨by dsimp only;omega,by have:=aSC (by simp_all);simpa using this,fun _ _=>rfl⟩ [1,0] ?_
 rintro⟨j,pp,B⟩ hJ K1 bG rest
 dsimp only at hJ
 refine zD 5<|zJ 41 ((j:Int) <(K.after.length:Int)) (fun h4=>?_) fun h4=>?_
 ·
  refine zD 11 ?_
  have ha4:a <4:=by omega
  have hj4:j <4:=by omega
  obtain⟨rr,hrr⟩:=Za (show j <K.after.length by omega)
  have hPj:=Part.flat (Part.right hP) hrr
  refine zD 3<|Ig (b:=bt) (off:=0) (len:=4) (sz:=4) (a:Int) (by omega)<|Ig (b:=bt) (off:=0+(a:Int).toNat*4) (len:=4) (sz:=1) (j:Int) (by omega)<|jl (b:=bt) (off:=0+(a:Int).toNat*4+(j:Int).toNat*1) (m:=1) (vs:=[.bool (dc K on a j)]) 0 (qu (.inl gt) (V6 (r:=⟨dc K on⟩) ha4 hj4))<|zD 2<|js 49 (!(dc K on a j)) (fun h5=>?_) (fun h5=>?_)
  ·
   have M9:=h5
   try simp only[zB] at M9
   refine zD 10<|ja ((j:Int)+1) (by omega)<|zD 2<|bF bG (⟨j+1,pp,B⟩) ⟨by dsimp only;omega,by dsimp only;rw[List.range_succ,List.flatMap_append,List.length_append,List.flatMap_singleton,←Nat.add_assoc];rw[show nO K on m a p j=[] by simp only[nO,h5];rfl];exact hJ.2.1,hJ.2.2⟩ (by dsimp only;omega) [0,1] (Sub.refl _)
  have M9:=h5
  try simp only[zB] at M9
  refine zD 1<|jah (b:=b7) (off:=0) (len:=4) (a:Int) (by omega)<|zD 1<|ja ((j:Int)+1) (by omega)<|jp (vs:=[(.slice (some ⟨b7,0,none⟩) (a:Int).toNat 4),zI ((j:Int)+1)]) [0] [(b7,.cells ⟨[zI (pp 0),zI (pp 1),zI (pp 2),zI (pp 3)]⟩ 122 (0,0))] (fun aB hs hZ=>aPG (akk hZ.head (by omega)) (by rw[List.length_take];omega)) ?_
  refine zD 2<|js 55 (EH pp a ((j:Int)+1)) (fun h6=>?_) (fun h6=>?_)
  ·
   refine zD 3<|ja ((j:Int)+1) (by omega)<|zD 2<|bF bG (⟨j+1,pp,B⟩) ⟨by dsimp only;omega,by dsimp only;rw[List.range_succ,List.flatMap_append,List.length_append,List.flatMap_singleton,←Nat.add_assoc];rw[show nO K on m a p j=[] by simp only[nO,←XB ha4 hJ.2.2,h5,h6];rfl];exact hJ.2.1,hJ.2.2⟩ (by dsimp only;omega) [0,1] (Sub.refl _)
  have hg0:nO K on m a p j=iV K on m (a+1) (m9 p a ((j:Int)+1)):=by simp only[nO,←XB ha4 hJ.2.2,h5,h6];rfl
  have hPg:Part L (q+(iV K on m (a+1) p).length+((List.range j).flatMap (nO K on m a p)).length) (iV K on m (a+1) (m9 pp a ((j:Int)+1))):=by rw[VG hJ.2.2,←hg0];exact hPj
  refine zD 6<|ja ((j:Int)+1) (by omega)<|Ig (b:=b7) (off:=0) (len:=4) (sz:=1) (a:Int) (by omega)<|yh 0 b7 (0+(a:Int).toNat*1) [zI (pp 0),zI (pp 1),zI (pp 2),zI (pp 3)] [zI ((j:Int)+1)] 122 (by intro v hv;rw[List.mem_singleton] at hv;subst hv;rfl) (ar5 (p:=pp) ha4) ?_
  refine jmw 0 [.b b7 (.cells ⟨[zI ((m9 pp a ((j:Int)+1)) 0),zI ((m9 pp a ((j:Int)+1)) 1),zI ((m9 pp a ((j:Int)+1)) 2),zI ((m9 pp a ((j:Int)+1)) 3)]⟩ 122 (0,0))] (L:=[(b7,.cells ⟨dI [zI (pp 0),zI (pp 1),zI (pp 2),zI (pp 3)] (0+(a:Int).toNat*1) [zI ((j:Int)+1)]⟩ 122 (0,0))]) (by rw[ar3 ha4];rfl) ?_
  refine zD 3<|jl (b:=bg) (off:=0) (m:=1) (vs:=[.func (.func 100) ⟨[]⟩ ⟨[zP bf,zP br,zP bx,zP bg,zP bt]⟩]) 0 ⟨_,_,_,.inl gg,rfl⟩<|jd 2 [0]<|ja ((a:Int)+1) (by omega)<|jc (vs:=[.agg ⟨[zI ((m9 pp a ((j:Int)+1)) 0),zI ((m9 pp a ((j:Int)+1)) 1),zI ((m9 pp a ((j:Int)+1)) 2),zI ((m9 pp a ((j:Int)+1)) 3)]⟩,zI ((a:Int)+1),zP bf,zP br,zP bx,zP bg,zP bt]) [1] (ih m (by omega) _ (a+1) _ (q+(iV K on m (a+1) p).length+((List.range j).flatMap (nO K on m a p)).length) _ oS hF (by omega) hPg hJ.2.1 hy) ?_
  rintro _ Y64 ⟨X7,rfl,aSA,aSo⟩
  refine zD 2<|js 65 (!X7) (fun h7=>?_) (fun h7=>?_)
  ·
   try simp only[zB] at h7
   refine zD 6<|aH q0 (.bool false) [] [0] Y64 (Sub.refl _) ⟨_,_,rfl,rfl,_,rfl,nofun,fun _=>aSo (by simp_all)⟩
  try simp only[zB] at h7
  refine zD 3<|ja ((j:Int)+1) (by omega)<|zD 2<|bF bG (⟨j+1,(m9 pp a ((j:Int)+1)),Y64⟩) ⟨by dsimp only;omega,by dsimp only;rw[List.range_succ,List.flatMap_append,List.length_append,List.flatMap_singleton,←Nat.add_assoc];rw[hg0,←VG hJ.2.2];exact aSA (by simp_all),(fun i hi=>by simp only[m9,if_neg hi];exact hJ.2.2 i hi)⟩ (by dsimp only;omega) [1,0] (Sub.refl _)
 refine zD 7<|aH q0 (.bool true) [] [1] B (Sub.refl _) ⟨_,_,rfl,rfl,_,rfl,(fun _=>by rw[qN,List.length_append,←Nat.add_assoc];have:=hJ.2.1;rwa[show j=K.after.length by omega] at this),nofun⟩
theorem aBi(hV:gh K){rows:List bP}{on:Int}{L:List (Nat→Int)}{Inv:Nat→Cells→Prop}:∀n,aqe bl f K rows on bf br bx bg bt bo L Inv Stop n:=by
 intro n
 induction n using Nat.strongRecOn with
 |_ n ih=>exact fun ro a p q B hc hF han hP hB hy=>as2 ih hV hc hF han hP hB hy
def bU(K:aP)(on:Int):List (Nat→Int):=iV K on K.before.length 0 fun _=>0
theorem XP{on:Int}{a:Nat}(h:¬a <K.before.length∨¬b <K.after.length):dc K on a b=false:=by
 rcases h with h|h
 ·simp[dc,List.getElem?_eq_none (Nat.le_of_not_lt h)]
 simp only[dc,List.getElem?_eq_none (Nat.le_of_not_lt h)]
 split
 ·rename_i h1;cases h1
 rfl
def ES(K:aP)(on:Int)(i j:Nat)(r:bP):Prop:=∀x y,r.c x y=((decide (x <i)||(decide (x=i)&&decide (y <j)))&&dc K on x y)
theorem ES.set{on:Int}{i j:Nat}{r:bP}(h:ES K on i j r):ES K on i (j+1) (jA r i j (dc K on i j)):=fun x y=>by
 simp only[jA]
 split
 ·rename_i hx;obtain⟨rfl,rfl⟩:=hx;simp
 rename_i hx
 rw[h x y]
 congr 2
 by_cases e:x=i
 ·subst e
  have:y≠j:=fun e2=>hx ⟨rfl,e2⟩
  simp only[decide_true,Bool.true_and]
  congr 1
  exact propext (by omega)
 simp[e]
theorem ES.nxt{on:Int}{i:Nat}{r:bP}(h:ES K on i K.after.length r):ES K on (i+1) 0 r:=fun x y=>by
 rw[h x y]
 by_cases hy:y <K.after.length
 ·congr 1
  simp only[hy,decide_true,Bool.and_true,Nat.not_lt_zero,decide_false,Bool.and_false,Bool.or_false]
  rw[Bool.eq_iff_iff];simp;omega
 rw[XP (.inr hy)];simp
theorem ES.fin{on:Int}{r:bP}(h:ES K on K.before.length 0 r):r=⟨dc K on⟩:=by
 rcases r with ⟨c⟩
 congr 1
 funext x y
 have:=h x y
 dsimp only at this
 rw[this]
 by_cases hx:x <K.before.length
 ·simp[hx]
 rw[XP (.inl hx)];simp
theorem akM{a:Nat}(h:a <4):nth (eP4 p) ((a:Int).toNat*1)=some (zI (p a)):=by
 rcases Ka h with rfl|rfl|rfl|rfl<;>rfl
theorem acy{r:bP}{a:Nat}{j:Int}(h:a <4)(k:0≤j∧j <4):nth (C2 r) (0+(a:Int).toNat*4+j.toNat*1)=some (.bool (r.c a j.toNat)):=by
 obtain⟨m,rfl⟩:=Int.eq_ofNat_of_zero_le k.1
 exact V6 h (by omega)
def IY(r:bP)(p:Nat→Int):Nat→Int
 |0=>0
 |k+1=>IY r p k+bif decide (p k>0)&& !r.c k (p k-1).toNat then 1 else 0
def cY(K:aP)(r:bP)(past:Nat)(p:Nat→Int):aw:=⟨past,p 0,p 1,p 2,p 3,K.before.length-wo (pL p),K.after.length-wo (pL p),IY r p 4⟩
theorem Wj(p:Nat→Int):0≤wo (pL p)∧wo (pL p)≤4:=by
 have:=List.length_filter_le (fun x=>decide (x>0)) (pL p)
 simp only[wo]
 exact⟨by omega,by simp only[List.length_cons,List.length_nil] at this;omega⟩
theorem WY{rows:List bP}{on:Int}{b3 b4:Nat}{ro:Nat→Option Obj}(hF:qd ro f K rows)(hV:gh K)(g1:ro b1=some (.cells ⟨[zP f]⟩ 94 (0,0)))(g2:ro b2=some (.cells ⟨[.func (.func 98) ⟨[]⟩ ⟨[zP b1,zP b4]⟩]⟩ 187 (0,0)))(g3:ro b3=some (.cells ⟨C2 ⟨dc K on⟩⟩ 139 (0,0)))(g4:ro b4=some (.cells ⟨[.int .u8 on]⟩ 99 (0,0))):ItX zT 99 [] [zP b1,zP b2,zP b3] ro [] (bU K on).length (ePs (bU K on)) (fun Z=>Z=[]):=by
 intro bl aB Inv Stop hs hy B hB
 replace g1:=hs _ _ g1
 replace g2:=hs _ _ g2
 replace g3:=hs _ _ g3
 replace g4:=hs _ _ g4
 replace hF:=hF.up hs
 refine bC au [.l B] [] bu<|zD 2<|jn fun b4=>zD 3<|jn fun b5=>jd 9 [0,0]<|jf [1,0] ((b4,.cells ⟨[(.func (.yield bl) #[] #[])]⟩ 187 (0,0))::[(b5,.cells ⟨[.func (.func 100) ⟨[]⟩ ⟨[zP b1,zP b2,zP b4,zP b5,zP b3]⟩]⟩ 188 (0,0))]) fun BE cd jW=>jc (vs:=[.agg ⟨[zI 0,zI 0,zI 0,zI 0]⟩,zI 0,zP b1,zP b2,zP b4,zP b5,zP b3]) [0] (aBi (K:=K) hV (on:=on) _ _ 0 (fun _=>0) 0 _ ⟨(cd _ _ g1),(cd _ _ g2),jW _ (.head _),jW _ (.tail _ (.head _)),(cd _ _ g3),cd _ _ g4⟩ (hF.up cd) (Nat.zero_add _) ⟨[],[],by simp[bU],rfl⟩ hB (YOK.up hy cd)) ?_
 rintro _ Y9 ⟨c9,rfl,hc9,hd9⟩
 refine zD 1<|aH q0.a (.tuple ⟨[]⟩) [] [0] Y9 cd ⟨_,_,rfl,rfl,[],Y9,rfl,rfl,by cases c9 with|true=>exact .inl (by simpa [bU] using hc9 rfl)|false=>exact .inr (hd9 rfl)⟩
theorem Ki{rows:List bP}{on:Int}{ro:Nat→Option Obj}(hF:qd ro f K rows)(hV:gh K):eS zT 72 [zP f,.int .u8 on] ro [] (fun r Y=>∃b1 b2 b3 b4,r= .func (.func 99) ⟨[]⟩ ⟨[zP b1,zP b2,zP b3]⟩∧Y=[(b1,.cells ⟨[zP f]⟩ 94 (0,0)),(b2,.cells ⟨[.func (.func 98) ⟨[]⟩ ⟨[zP b1,zP b4]⟩]⟩ 187 (0,0)),(b3,.cells ⟨C2 ⟨dc K on⟩⟩ 139 (0,0)),(b4,.cells ⟨[.int .u8 on]⟩ 99 (0,0))]):=by
 obtain⟨c0,c1,c2,vc,vh,vr,vb,va,vf,vt,hv,hf,qj,nN,hr,CI,Hf,I8,bO⟩:=id hF
 obtain⟨hc,hh,dC⟩:=id qj
 obtain⟨eL,AH,AG,eF,rfl,Dt,yQ,yP⟩:=hc
 obtain⟨dS,vk,vi,dB,rfl,xw,q8,q7⟩:=hh
 obtain⟨lG,Ic,Ib,lF,rfl,NZ,Gc,Gb⟩:=hr
 obtain⟨kV,IQ,IN,kz,rfl,IP,Ei,Eh⟩:=CI
 obtain⟨kX,IU,IS,kA,rfl,IT,Ek,Ej⟩:=Hf
 obtain⟨mX,S8,S6,lX,rfl,S7,LZ,LY⟩:=I8
 obtain⟨nX,Eg,Ef,nF,rfl,Pa,LV,LU⟩:=bO
 have RR:=hV.rules.1
 have Fj:=hV.before.1
 have Ik:=hV.after.1
 have hnf:=hV.facts.1
 refine bC au [] [] bu<|zD 2<|jn fun b2=>jn fun b3=>zD 4<|jn fun b5=>jd 8 [2]<|jl (b:=f) (off:=0) (m:=13) (vs:=[c0,c1,c2,.slice eL K.cs.length eF,.slice dS hv.length dB,.slice lG K.rules.length lF,.slice kV K.before.length kz,.slice kX K.after.length kA,zI K.gone,zI K.new,zI K.af,.slice mX K.facts.length lX,.slice nX rows.length nF]) 6 ⟨_,_,_,.inl hf,rfl⟩<|zD 4<|eO [1,1,0,1,0,0] [] (fun(zz:Nat×bP)=>[(2,zP b2),(3,zP b3),(4,.nilFunc),(5,zP b5),(14,zI (K.before.length:Int)),(15,zI (zz.1:Int))]) (fun(zz:Nat×bP)=>[.b b5 (.cells ⟨[.bool (zz.2.c 0 0),.bool (zz.2.c 0 1),.bool (zz.2.c 0 2),.bool (zz.2.c 0 3),.bool (zz.2.c 1 0),.bool (zz.2.c 1 1),.bool (zz.2.c 1 2),.bool (zz.2.c 1 3),.bool (zz.2.c 2 0),.bool (zz.2.c 2 1),.bool (zz.2.c 2 2),.bool (zz.2.c 2 3),.bool (zz.2.c 3 0),.bool (zz.2.c 3 1),.bool (zz.2.c 3 2),.bool (zz.2.c 3 3)]⟩ 139 (0,0)),.b b3 (.cells ⟨[.int .u8 on]⟩ 99 (0,0)),.b b2 (.cells ⟨[zP f]⟩ 94 (0,0))]) (fun(zz:Nat×bP)=>zz.1≤K.before.length∧ES K on zz.1 0 zz.2) (fun(zz:Nat×bP)=>K.before.length-zz.1) (⟨0,⟨fun _ _=>false⟩⟩) ⟨by dsimp only;omega,fun x y=>by simp⟩ [0,1,2] ?_
 rintro⟨i,r⟩ hI K1 bG rest
 dsimp only at hI
 refine zD 5<|zJ 16 ((i:Int) <(K.before.length:Int)) (fun h1=>?_) fun h1=>?_
 ·
  refine jd 15 [2]<|jl (b:=f) (off:=0) (m:=13) (vs:=[c0,c1,c2,.slice eL K.cs.length eF,.slice dS hv.length dB,.slice lG K.rules.length lF,.slice kV K.before.length kz,.slice kX K.after.length kA,zI K.gone,zI K.new,zI K.af,.slice mX K.facts.length lX,.slice nX rows.length nF]) 7 ⟨_,_,_,.inl hf,rfl⟩<|zD 4<|eO [1,1,0,1,0,0,1,1,0,0,1,1,0,0] [K1] (fun(zz:Nat×bP)=>[(2,zP b2),(3,zP b3),(4,.nilFunc),(5,zP b5),(6,zI (i:Int)),(14,zI (K.before.length:Int)),(15,zI (i:Int)),(23,zI (K.after.length:Int)),(24,zI (zz.1:Int))]) (fun(zz:Nat×bP)=>[.b b5 (.cells ⟨[.bool (zz.2.c 0 0),.bool (zz.2.c 0 1),.bool (zz.2.c 0 2),.bool (zz.2.c 0 3),.bool (zz.2.c 1 0),.bool (zz.2.c 1 1),.bool (zz.2.c 1 2),.bool (zz.2.c 1 3),.bool (zz.2.c 2 0),.bool (zz.2.c 2 1),.bool (zz.2.c 2 2),.bool (zz.2.c 2 3),.bool (zz.2.c 3 0),.bool (zz.2.c 3 1),.bool (zz.2.c 3 2),.bool (zz.2.c 3 3)]⟩ 139 (0,0)),.b b3 (.cells ⟨[.int .u8 on]⟩ 99 (0,0)),.b b2 (.cells ⟨[zP f]⟩ 94 (0,0))]) (fun(zz:Nat×bP)=>zz.1≤K.after.length∧ES K on i zz.1 zz.2) (fun(zz:Nat×bP)=>K.after.length-zz.1) (⟨0,r⟩) ⟨by dsimp only;omega,hI.2⟩ [0,1,2] ?_
  rintro⟨j,r⟩ hJ K2 mg rest
  dsimp only at hJ
  refine zD 5<|zJ 25 ((j:Int) <(K.after.length:Int)) (fun h2=>?_) fun h2=>?_
  ·
   refine zD 9 ?_
   obtain⟨x,ha⟩:∃x,K.before[i]?=some x:=⟨_,List.getElem?_eq_getElem (by omega)⟩
   obtain⟨y,hb⟩:∃y,K.after[j]?=some y:=⟨_,List.getElem?_eq_getElem (by omega)⟩
   refine jd 7 [2,1]<|Ig (b:=b5) (off:=0) (len:=4) (sz:=4) (i:Int) (by omega)<|jp (vs:=[zP f,zI (i:Int),zI (j:Int),.int .u8 on]) [] [] (fun aB hs hZ=>aBj (hF.up hs) hV ha hb)<|Ig (b:=b5) (off:=0+(i:Int).toNat*4) (len:=4) (sz:=1) (j:Int) (by omega)<|aD 9 fun rZ r8 qL=>yh 0 b5 (0+(i:Int).toNat*4+(j:Int).toNat*1) [.bool (r.c 0 0),.bool (r.c 0 1),.bool (r.c 0 2),.bool (r.c 0 3),.bool (r.c 1 0),.bool (r.c 1 1),.bool (r.c 1 2),.bool (r.c 1 3),.bool (r.c 2 0),.bool (r.c 2 1),.bool (r.c 2 2),.bool (r.c 2 3),.bool (r.c 3 0),.bool (r.c 3 1),.bool (r.c 3 2),.bool (r.c 3 3)] [.bool (dc K on i j)] 139 (by intro v hv;rw[List.mem_singleton] at hv;subst hv;rfl) (V7 (r:=r) (by omega) (by omega)) ?_
   refine jmw 0 [.b b5 (.cells ⟨[.bool ((jA r i j (dc K on i j)).c 0 0),.bool ((jA r i j (dc K on i j)).c 0 1),.bool ((jA r i j (dc K on i j)).c 0 2),.bool ((jA r i j (dc K on i j)).c 0 3),.bool ((jA r i j (dc K on i j)).c 1 0),.bool ((jA r i j (dc K on i j)).c 1 1),.bool ((jA r i j (dc K on i j)).c 1 2),.bool ((jA r i j (dc K on i j)).c 1 3),.bool ((jA r i j (dc K on i j)).c 2 0),.bool ((jA r i j (dc K on i j)).c 2 1),.bool ((jA r i j (dc K on i j)).c 2 2),.bool ((jA r i j (dc K on i j)).c 2 3),.bool ((jA r i j (dc K on i j)).c 3 0),.bool ((jA r i j (dc K on i j)).c 3 1),.bool ((jA r i j (dc K on i j)).c 3 2),.bool ((jA r i j (dc K on i j)).c 3 3)]⟩ 139 (0,0))] (L:=[(b5,.cells ⟨dI [.bool (r.c 0 0),.bool (r.c 0 1),.bool (r.c 0 2),.bool (r.c 0 3),.bool (r.c 1 0),.bool (r.c 1 1),.bool (r.c 1 2),.bool (r.c 1 3),.bool (r.c 2 0),.bool (r.c 2 1),.bool (r.c 2 2),.bool (r.c 2 3),.bool (r.c 3 0),.bool (r.c 3 1),.bool (r.c 3 2),.bool (r.c 3 3)] (0+(i:Int).toNat*4+(j:Int).toNat*1) [.bool (dc K on i j)]⟩ 139 (0,0))]) (by rw[V5 (by omega) (by omega)];rfl) ?_
   refine iB qL []<|zD 2<|ja ((j:Int)+1) (by omega)<|zD 2<|bF mg (⟨j+1,(jA r i j (dc K on i j))⟩) ⟨by dsimp only;omega,hJ.2.set⟩ (by dsimp only;omega) [0,1,2] (Sub.refl _)
  refine zD 3<|ja ((i:Int)+1) (by omega)<|zD 2<|bF bG (⟨i+1,r⟩) ⟨by dsimp only;omega,ES.nxt (by have:=hJ.2;rwa[show j=K.after.length by omega] at this)⟩ (by dsimp only;omega) [0,1,2] (Sub.refl _)
 refine zD 5<|jn fun b8=>jd 8 [0]<|aH q0 (.func (.func 99) ⟨[]⟩ ⟨[zP b2,zP b8,zP b5]⟩) [] [3,0,1,2] ((b2,.cells ⟨[zP f]⟩ 94 (0,0))::((b8,.cells ⟨[.func (.func 98) ⟨[]⟩ ⟨[zP b2,zP b3]⟩]⟩ 187 (0,0))::((b5,.cells ⟨[.bool (r.c 0 0),.bool (r.c 0 1),.bool (r.c 0 2),.bool (r.c 0 3),.bool (r.c 1 0),.bool (r.c 1 1),.bool (r.c 1 2),.bool (r.c 1 3),.bool (r.c 2 0),.bool (r.c 2 1),.bool (r.c 2 2),.bool (r.c 2 3),.bool (r.c 3 0),.bool (r.c 3 1),.bool (r.c 3 2),.bool (r.c 3 3)]⟩ 139 (0,0))::[(b3,.cells ⟨[.int .u8 on]⟩ 99 (0,0))]))) (Sub.refl _) ⟨_,_,rfl,rfl,_,_,_,_,rfl,by have e:=ES.fin (K:=K) (on:=on) (r:=r) (by have:=hI.2;rwa[show i=K.before.length by omega] at this);subst e;rfl⟩
theorem aoX{rows:List bP}{past:Nat}{II:bP}{ro:Nat→Option Obj}(hF:qd ro f K rows)(hV:gh K)(Cu:rows[past]?=some II) (hp:∀i,0≤p i∧p i≤4):dO zT 74 [zP f,zI (past:Int),.agg ⟨[zI (p 0),zI (p 1),zI (p 2),zI (p 3)]⟩] ro (.agg ⟨cR (cY K II past p)⟩):=by
 obtain⟨c0,c1,c2,vc,vh,vr,vb,va,vf,vt,hv,hf,qj,nN,hr,CI,Hf,I8,bO⟩:=id hF
 obtain⟨hc,hh,dC⟩:=id qj
 obtain⟨eL,AH,AG,eF,rfl,Dt,yQ,yP⟩:=hc
 obtain⟨dS,vk,vi,dB,rfl,xw,q8,q7⟩:=hh
 obtain⟨lG,Ic,Ib,lF,rfl,NZ,Gc,Gb⟩:=hr
 obtain⟨kV,IQ,IN,kz,rfl,IP,Ei,Eh⟩:=CI
 obtain⟨kX,IU,IS,kA,rfl,IT,Ek,Ej⟩:=Hf
 obtain⟨mX,S8,S6,lX,rfl,S7,LZ,LY⟩:=I8
 obtain⟨nX,Eg,Ef,nF,rfl,Pa,LV,LU⟩:=bO
 have RR:=hV.rules.1
 have Fj:=hV.before.1
 have Ik:=hV.after.1
 have hnf:=hV.facts.1
 have hpc:=Wj p
 have Qj:=(List.getElem?_eq_some_iff.1 Cu).1
 refine bC au [] [] bu<|zD 2<|jn fun b5=>jn fun b6=>jd 4 [1]<|jp (vs:=[.agg ⟨[zI (p 0),zI (p 1),zI (p 2),zI (p 3)]⟩]) [] [] (fun aB hs hZ=>(asJ (p0:=p 0) (p1:=p 1) (p2:=p 2) (p3:=p 3)))<|jd 10 [1]<|jl (b:=f) (off:=0) (m:=13) (vs:=[c0,c1,c2,.slice eL K.cs.length eF,.slice dS hv.length dB,.slice lG K.rules.length lF,.slice kV K.before.length kz,.slice kX K.after.length kA,zI K.gone,zI K.new,zI K.af,.slice mX K.facts.length lX,.slice nX rows.length nF]) 6 ⟨_,_,_,.inl hf,rfl⟩<|zD 2<|ja ((K.before.length:Int)-(wo (pL p))) (by omega)<|zD 4<|jl (b:=f) (off:=0) (m:=13) (vs:=[c0,c1,c2,.slice eL K.cs.length eF,.slice dS hv.length dB,.slice lG K.rules.length lF,.slice kV K.before.length kz,.slice kX K.after.length kA,zI K.gone,zI K.new,zI K.af,.slice mX K.facts.length lX,.slice nX rows.length nF]) 7 ⟨_,_,_,.inl hf,rfl⟩<|zD 2<|ja ((K.after.length:Int)-(wo (pL p))) (by omega)<|zD 1<|aD 19 fun D5 Eb BG=>jn fun b8=>ba BG [1,2]<|aD 20 fun BK BR A6=>jd 1 [0]<|cw A6<|jd 8 [2]<|eO [1,1,1,0,1,0,0] [] (fun(zz:Nat×Int)=>[(0,zP f),(1,zI (past:Int)),(6,zP b6),(8,zP b8),(32,.agg ⟨[zI (p 0),zI (p 1),zI (p 2),zI (p 3)]⟩),(33,zI (zz.1:Int))]) (fun(zz:Nat×Int)=>[.b b8 (.cells ⟨[zI (past:Int),zI (p 0),zI (p 1),zI (p 2),zI (p 3),zI ((K.before.length:Int)-(wo (pL p))),zI ((K.after.length:Int)-(wo (pL p))),zI zz.2]⟩ 124 (0,0)),.b b6 (.cells ⟨[zI 0,zI 0,zI 0,zI 0,zI 0,zI 0,zI 0,zI 0]⟩ 124 (0,0))]) (fun(zz:Nat×Int)=>zz.1≤4∧zz.2=IY II p zz.1∧(0≤zz.2∧zz.2≤zz.1)) (fun(zz:Nat×Int)=>4-zz.1) (⟨0,0⟩) ⟨by dsimp only;omega,rfl,by dsimp only;omega⟩ [0,1] ?_
 rintro⟨k,m⟩ hI K3 hK3 rest
 dsimp only at hI
 refine zD 5<|zJ 34 ((k:Int) <4) (fun h3=>?_) fun h3=>?_
 ·
  refine zD 7<|jai (l:=[zI (p 0),zI (p 1),zI (p 2),zI (p 3)]) (k:Int) 4 1 false (by omega) (v:= zI (p k)) (show nth (eP4 p) _=_ from akM (by omega))<|zD 4 ?_
  have hpk:=hp k
  refine zD 4<|js 39 (decide ((p k)>0)) (fun h4=>?_) (fun h4=>?_)
  ·
   have yq:=h4
   replace yq:=of_decide_eq_true yq
   refine zD 3<|jl (b:=f) (off:=0) (m:=13) (vs:=[c0,c1,c2,.slice eL K.cs.length eF,.slice dS hv.length dB,.slice lG K.rules.length lF,.slice kV K.before.length kz,.slice kX K.after.length kA,zI K.gone,zI K.new,zI K.af,.slice mX K.facts.length lX,.slice nX rows.length nF]) 12 ⟨_,_,_,.inl hf,rfl⟩<|zD 3<|ja ((p k)-1) (by omega) ?_
   obtain⟨x48,GO⟩:=zG rows past
   refine jb nF 16 LV GO<|Ig (b:=Eg) (off:=Ef+past*16+0) (len:=4) (sz:=4) (k:Int) (by omega)<|Ig (b:=Eg) (off:=Ef+past*16+0+(k:Int).toNat*4) (len:=4) (sz:=1) ((p k)-1) (by omega)<|jl (b:=Eg) (off:=Ef+past*16+0+(k:Int).toNat*4+((p k)-1).toNat*1) (m:=1) (vs:=[.bool (x48.c k ((p k)-1).toNat)]) 0 (show cv ⟨ro,[]⟩ Eg (Ef+past*16+0+(k:Int).toNat*4+((p k)-1).toNat*1) 1 [.bool (x48.c k ((p k)-1).toNat)] from by have:=acJ (LU _ _ GO) (acy (r:=x48) (a:=k) (j:=(p k)-1) (by omega) (by omega));simpa [Nat.add_assoc] using this) ?_
   refine zD 3<|js 53 (!(x48.c k ((p k)-1).toNat)) (fun h5=>?_) (fun h5=>?_)
   ·
    try simp only[zB] at h5
    refine jd 4 [0]<|ja (m+1) (by omega)<|jd 4 [0]<|ja ((k:Int)+1) (by omega)<|zD 2<|bF hK3 (⟨k+1,(m+1)⟩) ⟨by dsimp only;omega,by dsimp only;rw[IY,hI.2.1];rw[Cu] at GO;cases GO;simp only[decide_eq_true yq,h5,Bool.not_false,Bool.not_true,Bool.and_true,Bool.and_false,cond_true,cond_false,Int.add_zero],by dsimp only;omega⟩ (by dsimp only;omega) [0,1] (Sub.refl _)
   try simp only[zB] at h5
   refine zD 3<|ja ((k:Int)+1) (by omega)<|zD 2<|bF hK3 (⟨k+1,m⟩) ⟨by dsimp only;omega,by dsimp only;rw[IY,hI.2.1];rw[Cu] at GO;cases GO;simp only[decide_eq_true yq,h5,Bool.not_false,Bool.not_true,Bool.and_true,Bool.and_false,cond_true,cond_false,Int.add_zero],by dsimp only;omega⟩ (by dsimp only;omega) [0,1] (Sub.refl _)
  have yq:=h4
  replace yq:=of_decide_eq_false yq
  refine zD 18<|ja ((k:Int)+1) (by omega)<|zD 2<|bF hK3 (⟨k+1,m⟩) ⟨by dsimp only;omega,by dsimp only;rw[IY,hI.2.1];simp only[decide_eq_false yq,Bool.false_and,cond_false,Int.add_zero],by dsimp only;omega⟩ (by dsimp only;omega) [0,1] (Sub.refl _)
 refine jd 8 [0,1]<|aH q0 (.agg ⟨[zI (past:Int),zI (p 0),zI (p 1),zI (p 2),zI (p 3),zI ((K.before.length:Int)-(wo (pL p))),zI ((K.after.length:Int)-(wo (pL p))),zI m]⟩) [1] [] [] (Sub.refl _) ⟨_,_,rfl,rfl,by rw[hI.2.1,show k=4 by omega];rfl,rfl⟩
def xj(v:Value)(xs:List aw)(Y:Cells):Prop:=∃ys,ys.Perm xs∧ax v 8 124 cR ys Y
def ia(xs:List aw):Prop:=∀x∈xs,0≤x.past∧x.past≤1000
theorem ia.perm{xs ys:List aw}(h:ia xs)(hp:ys.Perm xs):ia ys:=fun x hx=>h x (hp.mem_iff.1 hx)
theorem Fs{x:Int}(h:0≤x∧x≤1000000000):IntKind.i64.wrap (aR .u64 (IntKind.u64.wrap x) 1)=x / 2:=by
 have h1:IntKind.u64.wrap x=x:=sP .u64 rfl _ (by omega) (by simp[IntKind.bits];omega)
 rw[h1]
 have h2:aR .u64 x 1=x / 2:=by
  show x.fdiv 2=x / 2
  exact Int.fdiv_eq_ediv_of_nonneg _ (by decide)
 rw[h2,kT _ (by omega)]
theorem alE{x y:aw}{ro:Nat→Option Obj}(hx:0≤x.past∧x.past≤1000)(hy:0≤y.past∧y.past≤1000):dO zT 109 [.agg ⟨[zI x.past,zI x.w0,zI x.w1,zI x.w2,zI x.w3,zI x.gone,zI x.new,zI x.af]⟩,.agg ⟨[zI y.past,zI y.w0,zI y.w1,zI y.w2,zI y.w3,zI y.gone,zI y.new,zI y.af]⟩] ro (zI (x.past-y.past)):=by
 refine bC au [] [] bu<|zD 2<|jn fun b2=>jn fun b3=>jd 8 [1,0]<|ja (x.past-y.past) (by omega)<|zD 3<|aH q0 (zI (x.past-y.past)) [] [] [] (Sub.refl _) ⟨_,_,rfl,rfl,rfl,rfl⟩
theorem azz{v:Value}{xs:List aw}{L:Cells}{a b:Int}{ro:Nat→Option Obj}(ho:ax v 8 124 cR xs L)(hN:xs.length≤100000)(hP:ia xs)(Ft:0≤a∧a≤b∧b≤xs.length):eS zT 187 [v,zI a,zI b,.func (.func 109) ⟨[]⟩ ⟨[]⟩] ro L (fun r Y=>xj v xs Y):=by
 refine bC au [.l L] [] bu<|zD 3<|ja (a+1) (by omega)<|zD 3<|eO [1,0,0] [] (fun(zz:Int×(List aw)×Cells)=>[(0,v),(1,zI a),(2,zI b),(3,.func (.func 109) ⟨[]⟩ ⟨[]⟩),(8,zI zz.1)]) (fun(zz:Int×(List aw)×Cells)=>[.l zz.2.2]) (fun(zz:Int×(List aw)×Cells)=>(a+1≤zz.1)∧ax v 8 124 cR zz.2.1 zz.2.2∧zz.2.1.Perm xs) (fun(zz:Int×(List aw)×Cells)=>(b-zz.1).toNat) (⟨(a+1),xs,L⟩) ⟨by dsimp only;omega,ho,.refl _⟩ [0] ?_
 rintro⟨i,ys,L⟩ hI K1 bG rest
 dsimp only at hI
 have Xa:=hI.2.2.length_eq
 have hyp:=hP.perm hI.2.2
 refine zD 7<|zJ 14 (i <b) (fun h1=>?_) fun h1=>?_
 ·
  refine zD 10<|eO [1,0,0,1,0,0,1,0,0] [K1] (fun(zz:Int×(List aw)×Cells)=>[(0,v),(1,zI a),(2,zI b),(3,.func (.func 109) ⟨[]⟩ ⟨[]⟩),(8,zI i),(9,zI zz.1)]) (fun(zz:Int×(List aw)×Cells)=>[.l zz.2.2]) (fun(zz:Int×(List aw)×Cells)=>(a≤zz.1∧zz.1≤i)∧ax v 8 124 cR zz.2.1 zz.2.2∧zz.2.1.Perm xs) (fun(zz:Int×(List aw)×Cells)=>(zz.1-a).toNat) (⟨i,ys,L⟩) ⟨by dsimp only;omega,hI.2⟩ [0] ?_
  rintro⟨j,ys,L⟩ hJ K2 mg rest
  dsimp only at hJ
  have Xa:=hJ.2.2.length_eq
  have hyp:=hP.perm hJ.2.2
  refine zD 7<|js 3 (decide (j>a)) (fun h2=>?_) (fun h2=>?_)
  ·
   have lM:=h2
   replace lM:=of_decide_eq_true lM
   refine zD 3 ?_
   obtain⟨yD,ma⟩:=zG ys (j.toNat) (by first|omega| (simp only[List.length_set];omega))
   refine qD j 8 hJ.2.1 ma (Int.toNat_of_nonneg (show 0≤j∧j <((ys).length:Int) from (by first|omega| (simp only[List.length_set];omega))).1).symm (fun eg af9=>?_)
   refine px 0 [0] L (fun s _ hZ=>cD hJ.2.1 af9 hZ ma)<|zD 2<|ja (j-1) (by omega) ?_
   obtain⟨oG,jF⟩:=zG ys ((j-1).toNat) (by first|omega| (simp only[List.length_set];omega))
   refine qD (j-1) 8 hJ.2.1 jF (Int.toNat_of_nonneg (show 0≤(j-1)∧(j-1) <((ys).length:Int) from (by first|omega| (simp only[List.length_set];omega))).1).symm (fun b30 Ui=>?_)
   refine px 0 [0] L (fun s _ hZ=>cD hJ.2.1 Ui hZ jF)<|aD 14 fun rZ r8 qL=>jp (vs:=[.agg ⟨[zI yD.past,zI yD.w0,zI yD.w1,zI yD.w2,zI yD.w3,zI yD.gone,zI yD.new,zI yD.af]⟩,.agg ⟨[zI oG.past,zI oG.w0,zI oG.w1,zI oG.w2,zI oG.w3,zI oG.gone,zI oG.new,zI oG.af]⟩]) [] [] (fun aB hs hZ=>(alE (x:=yD) (y:=oG) (hyp _ (List.mem_of_getElem? ma)) (hyp _ (List.mem_of_getElem? jF))))<|ba qL [0]<|zD 3<|zJ 34 ((yD.past-oG.past) <0) (fun h4=>?_) fun h4=>?_
   ·
    refine zD 9<|ja (j-1) (by omega)<|zD 2<|ja (j-1) (by omega) ?_
    obtain⟨xS,Ey⟩:=zG ys ((j-1).toNat) (by first|omega| (simp only[List.length_set];omega))
    refine qD (j-1) 8 hJ.2.1 Ey (Int.toNat_of_nonneg (show 0≤(j-1)∧(j-1) <((ys).length:Int) from (by first|omega| (simp only[List.length_set];omega))).1).symm (fun b45 af8=>?_)
    refine px 0 [0] L (fun s _ hZ=>cD hJ.2.1 af8 hZ Ey)<|zD 2 ?_
    obtain⟨Iy,Ex⟩:=zG ys (j.toNat) (by first|omega| (simp only[List.length_set];omega))
    refine qD j 8 hJ.2.1 Ex (Int.toNat_of_nonneg (show 0≤j∧j <((ys).length:Int) from (by first|omega| (simp only[List.length_set];omega))).1).symm (fun b49 af7=>?_)
    refine px 0 [0] L (fun s _ hZ=>cD hJ.2.1 af7 hZ Ex) ?_
    obtain⟨x51,Ew⟩:=zG ys (j.toNat) (by first|omega| (simp only[List.length_set];omega))
    refine qD j 8 hJ.2.1 Ew (Int.toNat_of_nonneg (show 0≤j∧j <((ys).length:Int) from (by first|omega| (simp only[List.length_set];omega))).1).symm (fun b51 af6=>?_)
    refine aD 15 fun sN sU ri=>RL 0 0 [zI xS.past,zI xS.w0,zI xS.w1,zI xS.w2,zI xS.w3,zI xS.gone,zI xS.new,zI xS.af] xS hJ.2.1 af6 Ew rfl rfl (Nat.le_of_ble_eq_true rfl) fun L6 ZW=>iB ri [] ?_
    obtain⟨x52,wE⟩:=zG ((ys.set j.toNat xS)) ((j-1).toNat) (by first|omega| (simp only[List.length_set];omega))
    refine qD (j-1) 8 ZW wE (Int.toNat_of_nonneg (show 0≤(j-1)∧(j-1) <(((ys.set j.toNat xS)).length:Int) from (by first|omega| (simp only[List.length_set];omega))).1).symm (fun b52 af5=>?_)
    refine aD 17 fun Aj Av A5=>RL 0 0 [zI Iy.past,zI Iy.w0,zI Iy.w1,zI Iy.w2,zI Iy.w3,zI Iy.gone,zI Iy.new,zI Iy.af] Iy ZW af5 wE rfl rfl (Nat.le_of_ble_eq_true rfl) fun L9 afr=>cw A5<|zD 3<|ja (j-1) (by omega)<|zD 2<|bF mg (⟨(j-1),((ys.set j.toNat xS).set ((j-1).toNat) Iy),L9⟩) ⟨by dsimp only;omega,afr,(nY Ex Ey).trans hJ.2.2⟩ (by dsimp only;omega) [0] (Sub.refl _)
   refine zD 4<|ja (i+1) (by omega)<|zD 2<|bF bG (⟨(i+1),ys,L⟩) ⟨by dsimp only;omega,hJ.2⟩ (by dsimp only;omega) [0] (Sub.refl _)
  have lM:=h2
  replace lM:=of_decide_eq_false lM
  refine zD 18<|ja (i+1) (by omega)<|zD 2<|bF bG (⟨(i+1),ys,L⟩) ⟨by dsimp only;omega,hJ.2⟩ (by dsimp only;omega) [0] (Sub.refl _)
 refine zD 2<|aH q0 (.tuple ⟨[]⟩) [] [0] L (Sub.refl _) ⟨_,_,rfl,rfl,ys,hI.2.2,hI.2.1⟩
def aHN(n:Nat):Prop:=∀(ro:Nat→Option Obj) (v:Value) (xs:List aw) (L:Cells) (a m b:Int),ax v 8 124 cR xs L→xs.length≤100000→ia xs→(0≤a∧a <m∧m <b∧b≤xs.length)→(b-a).toNat=n→
 eS zT 188 [v,zI a,zI m,zI b,.func (.func 109) ⟨[]⟩ ⟨[]⟩] ro L (fun _ Y=>xj v xs Y)
theorem acw{v:Value}{xs:List aw}{L:Cells}{a b n:Int}{ro:Nat→Option Obj}(ho:ax v 8 124 cR xs L)(hN:xs.length≤100000)(hP:ia xs)(Ft:(0≤a∧0≤b∧0≤n)∧a+n≤xs.length∧b+n≤xs.length∧a≠b):eS zT 233 [v,zI a,zI b,zI n,.func (.func 109) ⟨[]⟩ ⟨[]⟩] ro L (fun r Y=>xj v xs Y):=by
 refine bC au [.l L] [] bu<|zD 5<|eO [1,0,0] [] (fun(zz:Int×(List aw)×Cells)=>[(0,v),(1,zI a),(2,zI b),(3,zI n),(10,zI zz.1)]) (fun(zz:Int×(List aw)×Cells)=>[.l zz.2.2]) (fun(zz:Int×(List aw)×Cells)=>(0≤zz.1∧zz.1≤n)∧ax v 8 124 cR zz.2.1 zz.2.2∧zz.2.1.Perm xs) (fun(zz:Int×(List aw)×Cells)=>(n-zz.1).toNat) (⟨0,xs,L⟩) ⟨by dsimp only;omega,ho,.refl _⟩ [0] ?_
 rintro⟨i,ys,L⟩ hI K1 bG rest
 dsimp only at hI
 have Xa:=hI.2.2.length_eq
 have hyp:=hP.perm hI.2.2
 refine zD 7<|zJ 13 (i <n) (fun h1=>?_) fun h1=>?_
 ·
  refine zD 8<|ja (a+i) (by omega)<|zD 3<|ja (b+i) (by omega)<|zD 3<|ja (b+i) (by omega) ?_
  obtain⟨Yw,atm⟩:=zG ys ((b+i).toNat) (by first|omega| (simp only[List.length_set];omega))
  refine qD (b+i) 8 hI.2.1 atm (Int.toNat_of_nonneg (show 0≤(b+i)∧(b+i) <((ys).length:Int) from (by first|omega| (simp only[List.length_set];omega))).1).symm (fun b28 aS2=>?_)
  refine px 0 [0] L (fun s _ hZ=>cD hI.2.1 aS2 hZ atm)<|zD 3<|ja (a+i) (by omega) ?_
  obtain⟨Yv,MI⟩:=zG ys ((a+i).toNat) (by first|omega| (simp only[List.length_set];omega))
  refine qD (a+i) 8 hI.2.1 MI (Int.toNat_of_nonneg (show 0≤(a+i)∧(a+i) <((ys).length:Int) from (by first|omega| (simp only[List.length_set];omega))).1).symm (fun b34 aSZ=>?_)
  refine px 0 [0] L (fun s _ hZ=>cD hI.2.1 aSZ hZ MI) ?_
  obtain⟨x36,y6⟩:=zG ys ((a+i).toNat) (by first|omega| (simp only[List.length_set];omega))
  refine qD (a+i) 8 hI.2.1 y6 (Int.toNat_of_nonneg (show 0≤(a+i)∧(a+i) <((ys).length:Int) from (by first|omega| (simp only[List.length_set];omega))).1).symm (fun dR amq=>?_)
  refine aD 21 fun BK BR A6=>RL 0 0 [zI Yw.past,zI Yw.w0,zI Yw.w1,zI Yw.w2,zI Yw.w3,zI Yw.gone,zI Yw.new,zI Yw.af] Yw hI.2.1 amq y6 rfl rfl (Nat.le_of_ble_eq_true rfl) fun L3 ho4=>iB A6 [] ?_
  obtain⟨x37,ZN⟩:=zG ((ys.set ((a+i).toNat) Yw)) ((b+i).toNat) (by first|omega| (simp only[List.length_set];omega))
  refine qD (b+i) 8 ho4 ZN (Int.toNat_of_nonneg (show 0≤(b+i)∧(b+i) <(((ys.set ((a+i).toNat) Yw)).length:Int) from (by first|omega| (simp only[List.length_set];omega))).1).symm (fun b37 aSX=>?_)
  refine aD 23 fun rZ r8 qL=>RL 0 0 [zI Yv.past,zI Yv.w0,zI Yv.w1,zI Yv.w2,zI Yv.w3,zI Yv.gone,zI Yv.new,zI Yv.af] Yv ho4 aSX ZN rfl rfl (Nat.le_of_ble_eq_true rfl) fun L6 ZW=>cw qL<|zD 3<|ja (i+1) (by omega)<|zD 2<|bF bG (⟨(i+1),((ys.set ((a+i).toNat) Yw).set ((b+i).toNat) Yv),L6⟩) ⟨by dsimp only;omega,ZW,(nY MI atm).trans hI.2.2⟩ (by dsimp only;omega) [0] (Sub.refl _)
 refine zD 2<|aH q0 (.tuple ⟨[]⟩) [] [0] L (Sub.refl _) ⟨_,_,rfl,rfl,ys,hI.2.2,hI.2.1⟩
theorem aNB{v:Value}{xs:List aw}{L:Cells}{a m b:Int}{ro:Nat→Option Obj}(ho:ax v 8 124 cR xs L)(hN:xs.length≤100000)(hP:ia xs)(Ft:0≤a∧a <m∧m <b∧b≤xs.length):eS zT 213 [v,zI a,zI m,zI b,.func (.func 109) ⟨[]⟩ ⟨[]⟩] ro L (fun r Y=>xj v xs Y):=by
 refine bC au [.l L] [] bu<|zD 4<|ja (m-a) (by omega)<|zD 6<|ja (b-m) (by omega)<|zD 4<|eO [1,1,0,0,0] [] (fun(zz:Int×Int×(List aw)×Cells)=>[(0,v),(2,zI m),(4,.func (.func 109) ⟨[]⟩ ⟨[]⟩),(10,zI zz.1),(11,zI zz.2.1)]) (fun(zz:Int×Int×(List aw)×Cells)=>[.l zz.2.2.2]) (fun(zz:Int×Int×(List aw)×Cells)=>((0 <zz.1∧zz.1≤m-a)∧0 <zz.2.1∧zz.2.1≤b-m)∧ax v 8 124 cR zz.2.2.1 zz.2.2.2∧zz.2.2.1.Perm xs) (fun(zz:Int×Int×(List aw)×Cells)=>(zz.1+zz.2.1).toNat) (⟨(m-a),(b-m),xs,L⟩) ⟨by dsimp only;omega,ho,.refl _⟩ [0] ?_
 rintro⟨i,j,ys,L⟩ hI K1 bG rest
 dsimp only at hI
 have Xa:=hI.2.2.length_eq
 have hyp:=hP.perm hI.2.2
 refine zD 7<|js 20 (!decide (i=j)) (fun h1=>?_) (fun h1=>?_)
 ·
  replace h1:=of_decide_eq_false (by simpa using h1)
  refine zD 9<|zJ 23 (i>j) (fun h2=>?_) fun h2=>?_
  ·
   refine zD 6<|ja (m-i) (by omega)<|zD 3<|jc (vs:=[v,zI (m-i),zI m,zI j,.func (.func 109) ⟨[]⟩ ⟨[]⟩]) [0] (acw hI.2.1 (by omega) hyp (by omega)) ?_
   rintro bb6 Y31 ⟨aK3,atO,aQ0⟩
   have aYk:=atO.length_eq
   have aYd:=ia.perm hyp atO
   refine zD 4<|ja (i-j) (by omega)<|zD 2<|bF bG (⟨(i-j),j,aK3,Y31⟩) ⟨by dsimp only;omega,aQ0,(atO.trans hI.2.2)⟩ (by dsimp only;omega) [0] (Sub.refl _)
  refine zD 6<|ja (m-i) (by omega)<|zD 2<|ja (m+j) (by omega)<|zD 1<|ja ((m+j)-i) (by omega)<|zD 2<|jc (vs:=[v,zI (m-i),zI ((m+j)-i),zI i,.func (.func 109) ⟨[]⟩ ⟨[]⟩]) [0] (acw hI.2.1 (by omega) hyp (by omega)) ?_
  rintro bb4 Y46 ⟨aK1,atM,aQW⟩
  have aYi:=atM.length_eq
  have aYb:=ia.perm hyp atM
  refine zD 4<|ja (j-i) (by omega)<|zD 2<|bF bG (⟨i,(j-i),aK1,Y46⟩) ⟨by dsimp only;omega,aQW,(atM.trans hI.2.2)⟩ (by dsimp only;omega) [0] (Sub.refl _)
 replace h1:=of_decide_eq_true (by simpa using h1)
 refine zD 6<|ja (m-i) (by omega)<|zD 3<|jc (vs:=[v,zI (m-i),zI m,zI i,.func (.func 109) ⟨[]⟩ ⟨[]⟩]) [0] (acw hI.2.1 (by omega) hyp (by omega)) ?_
 rintro bb3 Y57 ⟨bbg,atK,al2⟩
 have aYh:=atK.length_eq
 have aYa:=ia.perm hyp atK
 refine zD 1<|aH q0 (.tuple ⟨[]⟩) [] [0] Y57 (Sub.refl _) ⟨_,_,rfl,rfl,_,(atK.trans hI.2.2),al2⟩
theorem azw{v:Value}{xs:List aw}{L:Cells}{a m b:Int}{ro:Nat→Option Obj}(ih:∀k,k <n→aHN k)(ho:ax v 8 124 cR xs L)(hN:xs.length≤100000)(hP:ia xs)(Ft:0≤a∧a <m∧m <b∧b≤xs.length)(hn:(b-a).toNat=n):eS zT 188 [v,zI a,zI m,zI b,.func (.func 109) ⟨[]⟩ ⟨[]⟩] ro L (fun r Y=>xj v xs Y):=by
 refine bC au [.l L] [] bu<|zD 5<|ja (m-a) (by omega)<|zD 2<|zJ 28 ((m-a)=1) (fun h1=>?_) fun h1=>?_
 ·
  refine zD 13<|eO [0,1,0,1,1,0,0,0] [] (fun(zz:Int×Int)=>[(0,v),(1,zI a),(2,zI m),(3,zI b),(4,.func (.func 109) ⟨[]⟩ ⟨[]⟩),(10,zI zz.1),(11,zI zz.2)]) (fun(zz:Int×Int)=>[.l L]) (fun(zz:Int×Int)=>(m≤zz.1∧zz.1≤zz.2)∧zz.2≤b) (fun(zz:Int×Int)=>(zz.2-zz.1).toNat) (⟨m,b⟩) (by dsimp only;omega) [0] ?_
  rintro⟨i,j⟩ hI K1 bG rest
  dsimp only at hI
  refine zD 7<|zJ 33 (i <j) (fun h2=>?_) fun h2=>?_
  ·
   refine zD 7<|ja (i+j) (by omega)<|zD 6 ?_
   have hh:=Fs (x:=i+j) (by omega)
   refine zD 4 ?_
   obtain⟨x43,atj⟩:=zG xs ((IntKind.i64.wrap (aR .u64 (IntKind.u64.wrap (i+j)) 1)).toNat) (by first|omega| (simp only[List.length_set];omega))
   refine qD (IntKind.i64.wrap (aR .u64 (IntKind.u64.wrap (i+j)) 1)) 8 ho atj (Int.toNat_of_nonneg (show 0≤(IntKind.i64.wrap (aR .u64 (IntKind.u64.wrap (i+j)) 1))∧(IntKind.i64.wrap (aR .u64 (IntKind.u64.wrap (i+j)) 1)) <((xs).length:Int) from (by first|omega| (simp only[List.length_set];omega))).1).symm (fun b43 aST=>?_)
   refine px 0 [0] L (fun s _ hZ=>cD ho aST hZ atj)<|zD 2 ?_
   obtain⟨x47,TK⟩:=zG xs (a.toNat) (by first|omega| (simp only[List.length_set];omega))
   refine qD a 8 ho TK (Int.toNat_of_nonneg (show 0≤a∧a <((xs).length:Int) from (by first|omega| (simp only[List.length_set];omega))).1).symm (fun b47 aSS=>?_)
   refine px 0 [0] L (fun s _ hZ=>cD ho aSS hZ TK)<|aD 9 fun BK BR A6=>jp (vs:=[.agg ⟨[zI x43.past,zI x43.w0,zI x43.w1,zI x43.w2,zI x43.w3,zI x43.gone,zI x43.new,zI x43.af]⟩,.agg ⟨[zI x47.past,zI x47.w0,zI x47.w1,zI x47.w2,zI x47.w3,zI x47.gone,zI x47.new,zI x47.af]⟩]) [] [] (fun aB hs hZ=>(alE (x:=x43) (y:=x47) (hP _ (List.mem_of_getElem? atj)) (hP _ (List.mem_of_getElem? TK))))<|ba A6 [0]<|zD 2<|zJ 50 ((x43.past-x47.past) <0) (fun h4=>?_) fun h4=>?_
   ·
    refine zD 3<|ja ((IntKind.i64.wrap (aR .u64 (IntKind.u64.wrap (i+j)) 1))+1) (by omega)<|zD 2<|bF bG (⟨((IntKind.i64.wrap (aR .u64 (IntKind.u64.wrap (i+j)) 1))+1),j⟩) (by dsimp only;omega) (by dsimp only;omega) [0] (Sub.refl _)
   refine zD 5<|bF bG (⟨i,(IntKind.i64.wrap (aR .u64 (IntKind.u64.wrap (i+j)) 1))⟩) (by dsimp only;omega) (by dsimp only;omega) [0] (Sub.refl _)
  refine zD 9<|eO [0,1,0,1,1,1,0,1,0,0] [] (fun(zz:Int×(List aw)×Cells)=>[(0,v),(1,zI a),(2,zI m),(3,zI b),(4,.func (.func 109) ⟨[]⟩ ⟨[]⟩),(10,zI i),(13,zI zz.1)]) (fun(zz:Int×(List aw)×Cells)=>[.l zz.2.2]) (fun(zz:Int×(List aw)×Cells)=>a≤zz.1∧ax v 8 124 cR zz.2.1 zz.2.2∧zz.2.1.Perm xs) (fun(zz:Int×(List aw)×Cells)=>(i-zz.1).toNat) (⟨a,xs,L⟩) ⟨by dsimp only;omega,ho,.refl _⟩ [0] ?_
  rintro⟨k,ys,L⟩ hJ K3 hK3 rest
  dsimp only at hJ
  have Xa:=hJ.2.2.length_eq
  have hyp:=hP.perm hJ.2.2
  refine zD 5<|ja (i-1) (by omega)<|zD 2<|zJ 58 (k <(i-1)) (fun h5=>?_) fun h5=>?_
  ·
   refine zD 9<|ja (k+1) (by omega)<|zD 2<|ja (k+1) (by omega) ?_
   obtain⟨Se,ZM⟩:=zG ys ((k+1).toNat) (by first|omega| (simp only[List.length_set];omega))
   refine qD (k+1) 8 hJ.2.1 ZM (Int.toNat_of_nonneg (show 0≤(k+1)∧(k+1) <((ys).length:Int) from (by first|omega| (simp only[List.length_set];omega))).1).symm (fun b69 avc=>?_)
   refine px 0 [0] L (fun s _ hZ=>cD hJ.2.1 avc hZ ZM)<|zD 2 ?_
   obtain⟨x73,ZL⟩:=zG ys (k.toNat) (by first|omega| (simp only[List.length_set];omega))
   refine qD k 8 hJ.2.1 ZL (Int.toNat_of_nonneg (show 0≤k∧k <((ys).length:Int) from (by first|omega| (simp only[List.length_set];omega))).1).symm (fun b73 aSN=>?_)
   refine px 0 [0] L (fun s _ hZ=>cD hJ.2.1 aSN hZ ZL) ?_
   obtain⟨x75,TJ⟩:=zG ys (k.toNat) (by first|omega| (simp only[List.length_set];omega))
   refine qD k 8 hJ.2.1 TJ (Int.toNat_of_nonneg (show 0≤k∧k <((ys).length:Int) from (by first|omega| (simp only[List.length_set];omega))).1).symm (fun b75 aSL=>?_)
   refine aD 15 fun sN sU ri=>RL 0 0 [zI Se.past,zI Se.w0,zI Se.w1,zI Se.w2,zI Se.w3,zI Se.gone,zI Se.new,zI Se.af] Se hJ.2.1 aSL TJ rfl rfl (Nat.le_of_ble_eq_true rfl) fun L7 ho8=>iB ri [] ?_
   obtain⟨x76,aBE⟩:=zG ((ys.set k.toNat Se)) ((k+1).toNat) (by first|omega| (simp only[List.length_set];omega))
   refine qD (k+1) 8 ho8 aBE (Int.toNat_of_nonneg (show 0≤(k+1)∧(k+1) <(((ys.set k.toNat Se)).length:Int) from (by first|omega| (simp only[List.length_set];omega))).1).symm (fun b76 aSK=>?_)
   refine aD 17 fun Aj Av A5=>RL 0 0 [zI x73.past,zI x73.w0,zI x73.w1,zI x73.w2,zI x73.w3,zI x73.gone,zI x73.new,zI x73.af] x73 ho8 aSK aBE rfl rfl (Nat.le_of_ble_eq_true rfl) fun L10 atX=>cw A5<|zD 3<|ja (k+1) (by omega)<|zD 2<|bF hK3 (⟨(k+1),((ys.set k.toNat Se).set ((k+1).toNat) x73),L10⟩) ⟨by dsimp only;omega,atX,(nY ZL ZM).trans hJ.2.2⟩ (by dsimp only;omega) [0] (Sub.refl _)
  refine zD 3<|aH q0 (.tuple ⟨[]⟩) [] [0] L (Sub.refl _) ⟨_,_,rfl,rfl,_,hJ.2.2,hJ.2.1⟩
 refine zD 7<|ja (b-m) (by omega)<|zD 2<|zJ 80 ((b-m)=1) (fun DL=>?_) fun DL=>?_
 ·
  refine zD 13<|eO [1,0,1,0,1,1,0,0,0] [] (fun(zz:Int×Int)=>[(0,v),(1,zI a),(2,zI m),(3,zI b),(4,.func (.func 109) ⟨[]⟩ ⟨[]⟩),(14,zI zz.1),(15,zI zz.2)]) (fun(zz:Int×Int)=>[.l L]) (fun(zz:Int×Int)=>(a≤zz.1∧zz.1≤zz.2)∧zz.2≤m) (fun(zz:Int×Int)=>(zz.2-zz.1).toNat) (⟨a,m⟩) (by dsimp only;omega) [0] ?_
  rintro⟨i,j⟩ hI K6 hK6 rest
  dsimp only at hI
  refine zD 7<|zJ 85 (i <j) (fun BH=>?_) fun BH=>?_
  ·
   refine zD 7<|ja (i+j) (by omega)<|zD 6 ?_
   have hh:=Fs (x:=i+j) (by omega)
   refine zD 4 ?_
   obtain⟨x95,ath⟩:=zG xs (m.toNat) (by first|omega| (simp only[List.length_set];omega))
   refine qD m 8 ho ath (Int.toNat_of_nonneg (show 0≤m∧m <((xs).length:Int) from (by first|omega| (simp only[List.length_set];omega))).1).symm (fun b95 aSI=>?_)
   refine px 0 [0] L (fun s _ hZ=>cD ho aSI hZ ath)<|zD 2 ?_
   obtain⟨x99,atg⟩:=zG xs ((IntKind.i64.wrap (aR .u64 (IntKind.u64.wrap (i+j)) 1)).toNat) (by first|omega| (simp only[List.length_set];omega))
   refine qD (IntKind.i64.wrap (aR .u64 (IntKind.u64.wrap (i+j)) 1)) 8 ho atg (Int.toNat_of_nonneg (show 0≤(IntKind.i64.wrap (aR .u64 (IntKind.u64.wrap (i+j)) 1))∧(IntKind.i64.wrap (aR .u64 (IntKind.u64.wrap (i+j)) 1)) <((xs).length:Int) from (by first|omega| (simp only[List.length_set];omega))).1).symm (fun b99 aSH=>?_)
   refine px 0 [0] L (fun s _ hZ=>cD ho aSH hZ atg)<|aD 9 fun abg abY QG=>jp (vs:=[.agg ⟨[zI x95.past,zI x95.w0,zI x95.w1,zI x95.w2,zI x95.w3,zI x95.gone,zI x95.new,zI x95.af]⟩,.agg ⟨[zI x99.past,zI x99.w0,zI x99.w1,zI x99.w2,zI x99.w3,zI x99.gone,zI x99.new,zI x99.af]⟩]) [] [] (fun aB hs hZ=>(alE (x:=x95) (y:=x99) (hP _ (List.mem_of_getElem? ath)) (hP _ (List.mem_of_getElem? atg))))<|ba QG [0]<|zD 3<|js 103 (!(decide ((x95.past-x99.past) <0))) (fun Nb=>?_) (fun Nb=>?_)
   ·
    try simp only[zB] at Nb
    refine zD 3<|ja ((IntKind.i64.wrap (aR .u64 (IntKind.u64.wrap (i+j)) 1))+1) (by omega)<|zD 2<|bF hK6 (⟨((IntKind.i64.wrap (aR .u64 (IntKind.u64.wrap (i+j)) 1))+1),j⟩) (by dsimp only;omega) (by dsimp only;omega) [0] (Sub.refl _)
   try simp only[zB] at Nb
   refine zD 5<|bF hK6 (⟨i,(IntKind.i64.wrap (aR .u64 (IntKind.u64.wrap (i+j)) 1))⟩) (by dsimp only;omega) (by dsimp only;omega) [0] (Sub.refl _)
  refine zD 9<|eO [1,0,1,0,1,1,1,0,1,0,0] [] (fun(zz:Int×(List aw)×Cells)=>[(0,v),(1,zI a),(2,zI m),(3,zI b),(4,.func (.func 109) ⟨[]⟩ ⟨[]⟩),(14,zI i),(17,zI zz.1)]) (fun(zz:Int×(List aw)×Cells)=>[.l zz.2.2]) (fun(zz:Int×(List aw)×Cells)=>(a≤i∧zz.1≤m)∧ax v 8 124 cR zz.2.1 zz.2.2∧zz.2.1.Perm xs) (fun(zz:Int×(List aw)×Cells)=>(zz.1-i).toNat) (⟨m,xs,L⟩) ⟨by dsimp only;omega,ho,.refl _⟩ [0] ?_
  rintro⟨k,ys,L⟩ hJ K8 hK8 rest
  dsimp only at hJ
  have Xa:=hJ.2.2.length_eq
  have hyp:=hP.perm hJ.2.2
  refine zD 7<|zJ 110 (k>i) (fun Na=>?_) fun Na=>?_
  ·
   refine zD 9<|ja (k-1) (by omega)<|zD 2<|ja (k-1) (by omega) ?_
   obtain⟨BM,aeL⟩:=zG ys ((k-1).toNat) (by first|omega| (simp only[List.length_set];omega))
   refine qD (k-1) 8 hJ.2.1 aeL (Int.toNat_of_nonneg (show 0≤(k-1)∧(k-1) <((ys).length:Int) from (by first|omega| (simp only[List.length_set];omega))).1).symm (fun bgM aDD=>?_)
   refine px 0 [0] L (fun s _ hZ=>cD hJ.2.1 aDD hZ aeL)<|zD 2 ?_
   obtain⟨IB,aeK⟩:=zG ys (k.toNat) (by first|omega| (simp only[List.length_set];omega))
   refine qD k 8 hJ.2.1 aeK (Int.toNat_of_nonneg (show 0≤k∧k <((ys).length:Int) from (by first|omega| (simp only[List.length_set];omega))).1).symm (fun bgL aDC=>?_)
   refine px 0 [0] L (fun s _ hZ=>cD hJ.2.1 aDC hZ aeK) ?_
   obtain⟨bbn,ao0⟩:=zG ys (k.toNat) (by first|omega| (simp only[List.length_set];omega))
   refine qD k 8 hJ.2.1 ao0 (Int.toNat_of_nonneg (show 0≤k∧k <((ys).length:Int) from (by first|omega| (simp only[List.length_set];omega))).1).symm (fun bgK aDB=>?_)
   refine aD 15 fun Ys YG Uo=>RL 0 0 [zI BM.past,zI BM.w0,zI BM.w1,zI BM.w2,zI BM.w3,zI BM.gone,zI BM.new,zI BM.af] BM hJ.2.1 aDB ao0 rfl rfl (Nat.le_of_ble_eq_true rfl) fun L18 aCt=>iB Uo [] ?_
   obtain⟨bbm,aeJ⟩:=zG ((ys.set k.toNat BM)) ((k-1).toNat) (by first|omega| (simp only[List.length_set];omega))
   refine qD (k-1) 8 aCt aeJ (Int.toNat_of_nonneg (show 0≤(k-1)∧(k-1) <(((ys.set k.toNat BM)).length:Int) from (by first|omega| (simp only[List.length_set];omega))).1).symm (fun NJ aDA=>?_)
   refine aD 17 fun FA FQ wJ=>RL 0 0 [zI IB.past,zI IB.w0,zI IB.w1,zI IB.w2,zI IB.w3,zI IB.gone,zI IB.new,zI IB.af] IB aCt aDA aeJ rfl rfl (Nat.le_of_ble_eq_true rfl) fun L21 aQ2=>cw wJ<|zD 3<|ja (k-1) (by omega)<|zD 2<|bF hK8 (⟨(k-1),((ys.set k.toNat BM).set ((k-1).toNat) IB),L21⟩) ⟨by dsimp only;omega,aQ2,(nY aeK aeL).trans hJ.2.2⟩ (by dsimp only;omega) [0] (Sub.refl _)
  refine zD 3<|aH q0 (.tuple ⟨[]⟩) [] [0] L (Sub.refl _) ⟨_,_,rfl,rfl,_,hJ.2.2,hJ.2.1⟩
 refine zD 6<|ja (a+b) (by omega)<|zD 6 ?_
 have beV:=Fs (x:=a+b) (by omega)
 refine zD 3<|ja ((IntKind.i64.wrap (aR .u64 (IntKind.u64.wrap (a+b)) 1))+m) (by omega)<|zD 14<|Ff [1,1,1,1,1,1] [] (fun(zz:Int×Int)=>[(0,v),(1,zI a),(2,zI m),(3,zI b),(4,.func (.func 109) ⟨[]⟩ ⟨[]⟩),(18,zI (IntKind.i64.wrap (aR .u64 (IntKind.u64.wrap (a+b)) 1))),(19,zI ((IntKind.i64.wrap (aR .u64 (IntKind.u64.wrap (a+b)) 1))+m)),(20,zI zz.1),(21,zI zz.2)]) (fun(zz:Int×Int)=>[.l L]) (fun(zz:Int×Int)=>(a≤zz.1∧zz.1≤zz.2)∧zz.2≤b∧a≤((IntKind.i64.wrap (aR .u64 (IntKind.u64.wrap (a+b)) 1))+m)-zz.2∧((IntKind.i64.wrap (aR .u64 (IntKind.u64.wrap (a+b)) 1))+m)-zz.1≤b) ?_ (fun K11 aFW=>?_)
 ·
  rintro⟨s0,r0⟩ hC rest
  dsimp only at hC
  refine zD 3<|ja (((IntKind.i64.wrap (aR .u64 (IntKind.u64.wrap (a+b)) 1))+m)-1) (by omega)<|zD 4<|eO [1,1,1,1,1,1,1,0,0,0] [] (fun(zz:Int×Int)=>[(0,v),(1,zI a),(2,zI m),(3,zI b),(4,.func (.func 109) ⟨[]⟩ ⟨[]⟩),(18,zI (IntKind.i64.wrap (aR .u64 (IntKind.u64.wrap (a+b)) 1))),(19,zI ((IntKind.i64.wrap (aR .u64 (IntKind.u64.wrap (a+b)) 1))+m)),(20,zI zz.1),(21,zI zz.2),(22,zI (((IntKind.i64.wrap (aR .u64 (IntKind.u64.wrap (a+b)) 1))+m)-1))]) (fun(zz:Int×Int)=>[.l L]) (fun(zz:Int×Int)=>(a≤zz.1∧zz.1≤zz.2)∧zz.2≤b∧a≤((IntKind.i64.wrap (aR .u64 (IntKind.u64.wrap (a+b)) 1))+m)-zz.2∧((IntKind.i64.wrap (aR .u64 (IntKind.u64.wrap (a+b)) 1))+m)-zz.1≤b) (fun(zz:Int×Int)=>(zz.2-zz.1).toNat) (⟨s0,r0⟩) hC [0] ?_
  rintro⟨sx,r⟩ hK K12 aFV rest
  dsimp only at hK
  refine zD 7<|zJ 151 (sx <r) (fun Fu=>?_) fun Fu=>?_
  ·
   refine zD 7<|ja (sx+r) (by omega)<|zD 6 ?_
   have hsr:=Fs (x:=sx+r) (by omega)
   refine zD 5<|ja ((((IntKind.i64.wrap (aR .u64 (IntKind.u64.wrap (a+b)) 1))+m)-1)-(IntKind.i64.wrap (aR .u64 (IntKind.u64.wrap (sx+r)) 1))) (by omega) ?_
   obtain⟨IA,aeG⟩:=zG xs (((((IntKind.i64.wrap (aR .u64 (IntKind.u64.wrap (a+b)) 1))+m)-1)-(IntKind.i64.wrap (aR .u64 (IntKind.u64.wrap (sx+r)) 1))).toNat) (by first|omega| (simp only[List.length_set];omega))
   refine qD ((((IntKind.i64.wrap (aR .u64 (IntKind.u64.wrap (a+b)) 1))+m)-1)-(IntKind.i64.wrap (aR .u64 (IntKind.u64.wrap (sx+r)) 1))) 8 ho aeG (Int.toNat_of_nonneg (show 0≤((((IntKind.i64.wrap (aR .u64 (IntKind.u64.wrap (a+b)) 1))+m)-1)-(IntKind.i64.wrap (aR .u64 (IntKind.u64.wrap (sx+r)) 1)))∧((((IntKind.i64.wrap (aR .u64 (IntKind.u64.wrap (a+b)) 1))+m)-1)-(IntKind.i64.wrap (aR .u64 (IntKind.u64.wrap (sx+r)) 1))) <((xs).length:Int) from (by first|omega| (simp only[List.length_set];omega))).1).symm (fun bgH aDy=>?_)
   refine px 0 [0] L (fun s _ hZ=>cD ho aDy hZ aeG)<|zD 2 ?_
   obtain⟨Iz,aeF⟩:=zG xs ((IntKind.i64.wrap (aR .u64 (IntKind.u64.wrap (sx+r)) 1)).toNat) (by first|omega| (simp only[List.length_set];omega))
   refine qD (IntKind.i64.wrap (aR .u64 (IntKind.u64.wrap (sx+r)) 1)) 8 ho aeF (Int.toNat_of_nonneg (show 0≤(IntKind.i64.wrap (aR .u64 (IntKind.u64.wrap (sx+r)) 1))∧(IntKind.i64.wrap (aR .u64 (IntKind.u64.wrap (sx+r)) 1)) <((xs).length:Int) from (by first|omega| (simp only[List.length_set];omega))).1).symm (fun bgG aDx=>?_)
   refine px 0 [0] L (fun s _ hZ=>cD ho aDx hZ aeF)<|aD 11 fun anS aol M5=>jp (vs:=[.agg ⟨[zI IA.past,zI IA.w0,zI IA.w1,zI IA.w2,zI IA.w3,zI IA.gone,zI IA.new,zI IA.af]⟩,.agg ⟨[zI Iz.past,zI Iz.w0,zI Iz.w1,zI Iz.w2,zI Iz.w3,zI Iz.gone,zI Iz.new,zI Iz.af]⟩]) [] [] (fun aB hs hZ=>(alE (x:=IA) (y:=Iz) (hP _ (List.mem_of_getElem? aeG)) (hP _ (List.mem_of_getElem? aeF))))<|ba M5 [0]<|zD 3<|js 171 (!(decide ((IA.past-Iz.past) <0))) (fun h25=>?_) (fun h25=>?_)
   ·
    try simp only[zB] at h25
    refine zD 3<|ja ((IntKind.i64.wrap (aR .u64 (IntKind.u64.wrap (sx+r)) 1))+1) (by omega)<|zD 2<|bF aFV (⟨((IntKind.i64.wrap (aR .u64 (IntKind.u64.wrap (sx+r)) 1))+1),r⟩) (by dsimp only;omega) (by dsimp only;omega) [0] (Sub.refl _)
   try simp only[zB] at h25
   refine zD 5<|bF aFV (⟨sx,(IntKind.i64.wrap (aR .u64 (IntKind.u64.wrap (sx+r)) 1))⟩) (by dsimp only;omega) (by dsimp only;omega) [0] (Sub.refl _)
  refine zD 6<|ja (((IntKind.i64.wrap (aR .u64 (IntKind.u64.wrap (a+b)) 1))+m)-sx) (by omega)<|zD 9<|jj 4 [(0,v),(1,zI a),(2,zI m),(3,zI b),(4,.func (.func 109) ⟨[]⟩ ⟨[]⟩),(18,zI (IntKind.i64.wrap (aR .u64 (IntKind.u64.wrap (a+b)) 1))),(20,zI sx),(24,zI (((IntKind.i64.wrap (aR .u64 (IntKind.u64.wrap (a+b)) 1))+m)-sx)),(185,.bool ((decide (sx <m))&&(decide (m <(((IntKind.i64.wrap (aR .u64 (IntKind.u64.wrap (a+b)) 1))+m)-sx)))))] (fun gQ=>?_) (fun hj=>?_)
  rotate_left
  refine js 181 (decide (sx <m)) (fun h26=>?_) (fun h26=>?_)
  ·
   have ag3:=h26
   replace ag3:=of_decide_eq_true ag3
   refine zD 4<|jw 185 (.bool ((decide (sx <m))&&(decide (m <(((IntKind.i64.wrap (aR .u64 (IntKind.u64.wrap (a+b)) 1))+m)-sx))))) (w:= .bool (decide (m <(((IntKind.i64.wrap (aR .u64 (IntKind.u64.wrap (a+b)) 1))+m)-sx)))) (by rw[h26]<;>rfl) ?_
   exact hj _ (by kernel_rfl) (by kernel_rfl)
  ·
   have ag3:=h26
   replace ag3:=of_decide_eq_false ag3
   refine zD 4<|jw 185 (.bool ((decide (sx <m))&&(decide (m <(((IntKind.i64.wrap (aR .u64 (IntKind.u64.wrap (a+b)) 1))+m)-sx))))) (w:= .bool false) (by rw[h26]<;>rfl) ?_
   exact hj _ (by kernel_rfl) (by kernel_rfl)
  refine zD 1<|Ff [1,1,1,1,1,1,1,1,1,1] [] (fun(zz:(List aw)×Cells)=>[(0,v),(1,zI a),(3,zI b),(4,.func (.func 109) ⟨[]⟩ ⟨[]⟩),(18,zI (IntKind.i64.wrap (aR .u64 (IntKind.u64.wrap (a+b)) 1))),(20,zI sx),(24,zI (((IntKind.i64.wrap (aR .u64 (IntKind.u64.wrap (a+b)) 1))+m)-sx))]) (fun(zz:(List aw)×Cells)=>[.l zz.2]) (fun(zz:(List aw)×Cells)=>zz.1.Perm xs∧ax v 8 124 cR zz.1 zz.2) ?_ (fun K14 Jb=>?_)
  ·
   rintro⟨ys,L⟩ hA rest
   dsimp only at hA
   have Xa:=hA.1.length_eq
   have hyp:=hP.perm hA.1
   refine zD 7<|jj 4 [(0,v),(1,zI a),(3,zI b),(4,.func (.func 109) ⟨[]⟩ ⟨[]⟩),(18,zI (IntKind.i64.wrap (aR .u64 (IntKind.u64.wrap (a+b)) 1))),(20,zI sx),(24,zI (((IntKind.i64.wrap (aR .u64 (IntKind.u64.wrap (a+b)) 1))+m)-sx)),(199,.bool ((decide (a <sx))&&(decide (sx <(IntKind.i64.wrap (aR .u64 (IntKind.u64.wrap (a+b)) 1))))))] (fun gQ=>?_) (fun hj=>?_)
   rotate_left
   refine js 195 (decide (a <sx)) (fun h27=>?_) (fun h27=>?_)
   ·
    have ag1:=h27
    replace ag1:=of_decide_eq_true ag1
    refine zD 4<|jw 199 (.bool ((decide (a <sx))&&(decide (sx <(IntKind.i64.wrap (aR .u64 (IntKind.u64.wrap (a+b)) 1)))))) (w:= .bool (decide (sx <(IntKind.i64.wrap (aR .u64 (IntKind.u64.wrap (a+b)) 1))))) (by rw[h27]<;>rfl) ?_
    exact hj _ (by kernel_rfl) (by kernel_rfl)
   ·
    have ag1:=h27
    replace ag1:=of_decide_eq_false ag1
    refine zD 4<|jw 199 (.bool ((decide (a <sx))&&(decide (sx <(IntKind.i64.wrap (aR .u64 (IntKind.u64.wrap (a+b)) 1)))))) (w:= .bool false) (by rw[h27]<;>rfl) ?_
    exact hj _ (by kernel_rfl) (by kernel_rfl)
   refine zD 1<|Ff [1,1,1,1,1,1,1,1,1,1,1] [] (fun(zz:(List aw)×Cells)=>[(0,v),(3,zI b),(4,.func (.func 109) ⟨[]⟩ ⟨[]⟩),(18,zI (IntKind.i64.wrap (aR .u64 (IntKind.u64.wrap (a+b)) 1))),(24,zI (((IntKind.i64.wrap (aR .u64 (IntKind.u64.wrap (a+b)) 1))+m)-sx))]) (fun(zz:(List aw)×Cells)=>[.l zz.2]) (fun(zz:(List aw)×Cells)=>zz.1.Perm xs∧ax v 8 124 cR zz.1 zz.2) ?_ (fun K15 aFU=>?_)
   ·
    rintro⟨ys,L⟩ hB rest
    dsimp only at hB
    have Xa:=hB.1.length_eq
    have hyp:=hP.perm hB.1
    refine zD 6<|jj 4 [(0,v),(3,zI b),(4,.func (.func 109) ⟨[]⟩ ⟨[]⟩),(18,zI (IntKind.i64.wrap (aR .u64 (IntKind.u64.wrap (a+b)) 1))),(24,zI (((IntKind.i64.wrap (aR .u64 (IntKind.u64.wrap (a+b)) 1))+m)-sx)),(213,.bool ((decide ((IntKind.i64.wrap (aR .u64 (IntKind.u64.wrap (a+b)) 1)) <(((IntKind.i64.wrap (aR .u64 (IntKind.u64.wrap (a+b)) 1))+m)-sx)))&&(decide ((((IntKind.i64.wrap (aR .u64 (IntKind.u64.wrap (a+b)) 1))+m)-sx) <b))))] (fun gQ=>?_) (fun hj=>?_)
    rotate_left
    refine js 209 (decide ((IntKind.i64.wrap (aR .u64 (IntKind.u64.wrap (a+b)) 1)) <(((IntKind.i64.wrap (aR .u64 (IntKind.u64.wrap (a+b)) 1))+m)-sx))) (fun h28=>?_) (fun h28=>?_)
    ·
     have ag0:=h28
     replace ag0:=of_decide_eq_true ag0
     refine zD 4<|jw 213 (.bool ((decide ((IntKind.i64.wrap (aR .u64 (IntKind.u64.wrap (a+b)) 1)) <(((IntKind.i64.wrap (aR .u64 (IntKind.u64.wrap (a+b)) 1))+m)-sx)))&&(decide ((((IntKind.i64.wrap (aR .u64 (IntKind.u64.wrap (a+b)) 1))+m)-sx) <b)))) (w:= .bool (decide ((((IntKind.i64.wrap (aR .u64 (IntKind.u64.wrap (a+b)) 1))+m)-sx) <b))) (by rw[h28]<;>rfl) ?_
     exact hj _ (by kernel_rfl) (by kernel_rfl)
    ·
     have ag0:=h28
     replace ag0:=of_decide_eq_false ag0
     refine zD 4<|jw 213 (.bool ((decide ((IntKind.i64.wrap (aR .u64 (IntKind.u64.wrap (a+b)) 1)) <(((IntKind.i64.wrap (aR .u64 (IntKind.u64.wrap (a+b)) 1))+m)-sx)))&&(decide ((((IntKind.i64.wrap (aR .u64 (IntKind.u64.wrap (a+b)) 1))+m)-sx) <b)))) (w:= .bool false) (by rw[h28]<;>rfl) ?_
     exact hj _ (by kernel_rfl) (by kernel_rfl)
    refine zD 1<|js 213 ((decide ((IntKind.i64.wrap (aR .u64 (IntKind.u64.wrap (a+b)) 1)) <(((IntKind.i64.wrap (aR .u64 (IntKind.u64.wrap (a+b)) 1))+m)-sx)))&&(decide ((((IntKind.i64.wrap (aR .u64 (IntKind.u64.wrap (a+b)) 1))+m)-sx) <b))) (fun h29=>?_) (fun h29=>?_)
    ·
     try simp only[zB] at h29
     refine zD 7<|jc (vs:=[v,zI (IntKind.i64.wrap (aR .u64 (IntKind.u64.wrap (a+b)) 1)),zI (((IntKind.i64.wrap (aR .u64 (IntKind.u64.wrap (a+b)) 1))+m)-sx),zI b,.func (.func 109) ⟨[]⟩ ⟨[]⟩]) [0] (ih _ (show (b-(IntKind.i64.wrap (aR .u64 (IntKind.u64.wrap (a+b)) 1))).toNat <n by omega) _ _ _ _ _ _ _ hB.2 (by omega) hyp (by omega) rfl) ?_
     rintro aXn aVr ⟨aWE,aeZ,aCp⟩
     have aPQ:=aeZ.length_eq
     have aPM:=ia.perm hyp aeZ
     refine zD 1<|aH q0 (.tuple ⟨[]⟩) [] [0] aVr (Sub.refl _) ⟨_,_,rfl,rfl,_,(aeZ.trans hB.1),aCp⟩
    try simp only[zB] at h29
    refine zD 2<|aH q0 (.tuple ⟨[]⟩) [] [0] L (Sub.refl _) ⟨_,_,rfl,rfl,_,hB.1,hB.2⟩
   refine js 199 ((decide (a <sx))&&(decide (sx <(IntKind.i64.wrap (aR .u64 (IntKind.u64.wrap (a+b)) 1))))) (fun h30=>?_) (fun h30=>?_)
   ·
    try simp only[zB] at h30
    refine zD 7<|jc (vs:=[v,zI a,zI sx,zI (IntKind.i64.wrap (aR .u64 (IntKind.u64.wrap (a+b)) 1)),.func (.func 109) ⟨[]⟩ ⟨[]⟩]) [0] (ih _ (show ((IntKind.i64.wrap (aR .u64 (IntKind.u64.wrap (a+b)) 1))-a).toNat <n by omega) _ _ _ _ _ _ _ hA.2 (by omega) hyp (by omega) rfl) ?_
    rintro aXo aVs ⟨ax5,ae0,aCr⟩
    have aPR:=ae0.length_eq
    have aPN:=ia.perm hyp ae0
    refine zD 1<|bF aFU ⟨ax5,aVs⟩ ⟨(ae0.trans hA.1),aCr⟩ Nat.zero_lt_one [0] (Sub.refl _)
   try simp only[zB] at h30
   refine zD 2<|bF aFU ⟨ys,L⟩ ⟨hA.1,hA.2⟩ Nat.zero_lt_one [0] (Sub.refl _)
  refine js 185 ((decide (sx <m))&&(decide (m <(((IntKind.i64.wrap (aR .u64 (IntKind.u64.wrap (a+b)) 1))+m)-sx)))) (fun h31=>?_) (fun h31=>?_)
  ·
   try simp only[zB] at h31
   refine zD 7<|jc (vs:=[v,zI sx,zI m,zI (((IntKind.i64.wrap (aR .u64 (IntKind.u64.wrap (a+b)) 1))+m)-sx),.func (.func 109) ⟨[]⟩ ⟨[]⟩]) [0] (aNB ho (by omega) hP (by omega)) ?_
   rintro aXp aVt ⟨ax6,ae1,aCs⟩
   have aPS:=ae1.length_eq
   have aPO:=ia.perm hP ae1
   refine zD 1<|bF Jb ⟨ax6,aVt⟩ ⟨(ae1.trans (.refl _)),aCs⟩ Nat.zero_lt_one [0] (Sub.refl _)
  try simp only[zB] at h31
  refine zD 2<|bF Jb ⟨xs,L⟩ ⟨(.refl _),ho⟩ Nat.zero_lt_one [0] (Sub.refl _)
 refine zJ 140 (m>(IntKind.i64.wrap (aR .u64 (IntKind.u64.wrap (a+b)) 1))) (fun h32=>?_) fun h32=>?_
 ·
  refine zD 5<|ja (((IntKind.i64.wrap (aR .u64 (IntKind.u64.wrap (a+b)) 1))+m)-b) (by omega)<|zD 6<|bF aFW ⟨(((IntKind.i64.wrap (aR .u64 (IntKind.u64.wrap (a+b)) 1))+m)-b),(IntKind.i64.wrap (aR .u64 (IntKind.u64.wrap (a+b)) 1))⟩ (by dsimp only;omega) Nat.zero_lt_one [0] (Sub.refl _)
 refine zD 10<|bF aFW ⟨a,m⟩ (by dsimp only;omega) Nat.zero_lt_one [0] (Sub.refl _)
theorem aNA:∀n,aHN n:=by
 intro n
 induction n using Nat.strongRecOn with
 |_ n ih=>exact fun ro v xs L a m b ho hN hP Ft hn=>azw ih ho hN hP Ft hn
theorem aou{v:Value}{xs:List aw}{L:Cells}{a m b:Int}{ro:Nat→Option Obj}(ho:ax v 8 124 cR xs L)(hN:xs.length≤100000)(hP:ia xs)(Ft:0≤a∧a <m∧m <b∧b≤xs.length):eS zT 188 [v,zI a,zI m,zI b,.func (.func 109) ⟨[]⟩ ⟨[]⟩] ro L (fun _ Y=>xj v xs Y):=
 aNA _ ro v xs L a m b ho hN hP Ft rfl
theorem azx{v:Value}{xs:List aw}{L:Cells}{n:Int}{ro:Nat→Option Obj}(ho:ax v 8 124 cR xs L)(hN:xs.length≤100000)(hP:ia xs)(hn:n=xs.length):eS zT 154 [v,zI n,.func (.func 109) ⟨[]⟩ ⟨[]⟩] ro L (fun r Y=>xj v xs Y):=by
 refine bC au [.l L] [] bu<|zD 12<|eO [1,1,0,0,0] [] (fun(zz:Int×Int×(List aw)×Cells)=>[(0,v),(1,zI n),(2,.func (.func 109) ⟨[]⟩ ⟨[]⟩),(6,zI 20),(7,zI zz.1),(8,zI zz.2.1)]) (fun(zz:Int×Int×(List aw)×Cells)=>[.l zz.2.2.2]) (fun(zz:Int×Int×(List aw)×Cells)=>(zz.2.1=zz.1+20∧0≤zz.1∧zz.1≤n)∧ax v 8 124 cR zz.2.2.1 zz.2.2.2∧zz.2.2.1.Perm xs) (fun(zz:Int×Int×(List aw)×Cells)=>(n-zz.1).toNat) (⟨0,20,xs,L⟩) ⟨by dsimp only;omega,ho,.refl _⟩ [0] ?_
 rintro⟨a,b,ys,L⟩ hI K1 bG rest
 dsimp only at hI
 have Xa:=hI.2.2.length_eq
 have hyp:=hP.perm hI.2.2
 refine zD 7<|zJ 13 (b≤n) (fun h1=>?_) fun h1=>?_
 ·
  refine zD 9<|jc (vs:=[v,zI a,zI b,.func (.func 109) ⟨[]⟩ ⟨[]⟩]) [0] (azz hI.2.1 (by omega) hyp (by omega)) ?_
  rintro bb8 Y18 ⟨aK5,Qk,ZX⟩
  have aYm:=Qk.length_eq
  have aYf:=ia.perm hyp Qk
  refine zD 9<|ja (b+20) (by omega)<|zD 2<|bF bG (⟨b,(b+20),aK5,Y18⟩) ⟨by dsimp only;omega,ZX,(Qk.trans hI.2.2)⟩ (by dsimp only;omega) [0] (Sub.refl _)
 refine zD 8<|jc (vs:=[v,zI a,zI n,.func (.func 109) ⟨[]⟩ ⟨[]⟩]) [0] (azz hI.2.1 (by omega) hyp (by omega)) ?_
 rintro bb7 Y27 ⟨bbh,atQ,aQ1⟩
 have aYl:=atQ.length_eq
 have aYe:=ia.perm hyp atQ
 refine zD 2<|eO [1,1,1,1,0,0] [] (fun(zz:Int×(List aw)×Cells)=>[(0,v),(1,zI n),(2,.func (.func 109) ⟨[]⟩ ⟨[]⟩),(6,zI zz.1)]) (fun(zz:Int×(List aw)×Cells)=>[.l zz.2.2]) (fun(zz:Int×(List aw)×Cells)=>(20≤zz.1∧zz.1≤1000000)∧ax v 8 124 cR zz.2.1 zz.2.2∧zz.2.1.Perm xs) (fun(zz:Int×(List aw)×Cells)=>(n-zz.1).toNat) (⟨20,_,_⟩) ⟨by dsimp only;omega,aQ1,atQ.trans hI.2.2⟩ [0] ?_
 rintro⟨bz,ys,L⟩ hJ K2 mg rest
 dsimp only at hJ
 have Xa:=hJ.2.2.length_eq
 have hyp:=hP.perm hJ.2.2
 refine zD 7<|zJ 30 (bz <n) (fun h2=>?_) fun h2=>?_
 ·
  refine zD 6<|ja (2*bz) (by omega)<|zD 5<|eO [1,1,1,1,0,0,1,0,1,0,0,0] [K2] (fun(zz:Int×Int×(List aw)×Cells)=>[(0,v),(1,zI n),(2,.func (.func 109) ⟨[]⟩ ⟨[]⟩),(6,zI bz),(7,zI zz.1),(8,zI zz.2.1)]) (fun(zz:Int×Int×(List aw)×Cells)=>[.l zz.2.2.2]) (fun(zz:Int×Int×(List aw)×Cells)=>(zz.2.1=zz.1+2*bz∧0≤zz.1∧zz.1≤n)∧ax v 8 124 cR zz.2.2.1 zz.2.2.2∧zz.2.2.1.Perm xs) (fun(zz:Int×Int×(List aw)×Cells)=>(n-zz.1).toNat) (⟨0,(2*bz),ys,L⟩) ⟨by dsimp only;omega,hJ.2⟩ [0] ?_
  rintro⟨a,b,ys,L⟩ hK K3 hK3 rest
  dsimp only at hK
  have Xa:=hK.2.2.length_eq
  have hyp:=hP.perm hK.2.2
  refine zD 7<|zJ 35 (b≤n) (fun h3=>?_) fun h3=>?_
  ·
   refine zD 9<|ja (a+bz) (by omega)<|zD 2<|jc (vs:=[v,zI a,zI (a+bz),zI b,.func (.func 109) ⟨[]⟩ ⟨[]⟩]) [0] (aou hK.2.1 (by omega) hyp (by omega)) ?_
   rintro bb5 Y43 ⟨aK2,atN,aQX⟩
   have aYj:=atN.length_eq
   have aYc:=ia.perm hyp atN
   refine zD 9<|ja (2*bz) (by omega)<|ja (b+(2*bz)) (by omega)<|zD 2<|bF hK3 (⟨b,(b+(2*bz)),aK2,Y43⟩) ⟨by dsimp only;omega,aQX,(atN.trans hK.2.2)⟩ (by dsimp only;omega) [0] (Sub.refl _)
  refine zD 7<|ja (a+bz) (by omega)<|zD 8<|zJ 54 ((a+bz) <n) (fun h4=>?_) fun h4=>?_
  ·
   refine zD 7<|jc (vs:=[v,zI a,zI (a+bz),zI n,.func (.func 109) ⟨[]⟩ ⟨[]⟩]) [0] (aou hK.2.1 (by omega) hyp (by omega)) ?_
   rintro bb0 Y60 ⟨aK0,aeY,MN⟩
   have aYg:=aeY.length_eq
   have aX9:=ia.perm hyp aeY
   refine zD 3<|ja (bz*2) (by omega)<|zD 2<|bF mg (⟨(bz*2),aK0,Y60⟩) ⟨by dsimp only;omega,MN,(aeY.trans hK.2.2)⟩ (by dsimp only;omega) [0] (Sub.refl _)
  refine zD 4<|ja (bz*2) (by omega)<|zD 2<|bF mg (⟨(bz*2),ys,L⟩) ⟨by dsimp only;omega,hK.2.1,hK.2.2⟩ (by dsimp only;omega) [0] (Sub.refl _)
 refine zD 2<|aH q0 (.tuple ⟨[]⟩) [] [0] L (Sub.refl _) ⟨_,_,rfl,rfl,_,hJ.2.2,hJ.2.1⟩
theorem O4{v:Value}{xs:List aw}{L:Cells}{ro:Nat→Option Obj}(ho:ax v 8 124 cR xs L)(hN:xs.length≤100000)(hP:ia xs):eS zT 108 [v,.func (.func 109) ⟨[]⟩ ⟨[]⟩] ro L (fun r Y=>xj v xs Y):=by
 refine bC au [.l L] [] bu<|zD 3<|Fe ho<|zD 1<|jc (vs:=[v,zI (xs.length:Int),.func (.func 109) ⟨[]⟩ ⟨[]⟩]) [0] (azx ho (by omega) hP rfl) ?_
 rintro rv8 Y8 ⟨ys8,hp8,ho8⟩
 have bdU:=hp8.length_eq
 have bdT:=ia.perm hP hp8
 refine zD 1<|aH q0 (.tuple ⟨[]⟩) [] [0] Y8 (Sub.refl _) ⟨_,_,rfl,rfl,_,hp8,ho8⟩
open Go.ConcR (KK wgBlock WgAt stA smA rd wr)
def air(o:Oper):Array TypeId:=match o.op with
 | .call c=>c.argTypes
 | .go c=>c.argTypes
 | .defer c=>c.argTypes
 |_=> #[]
noncomputable def kE:rY:=av7 zT 76 2
theorem aBm:kE.cl.OK zT 200 where
 ff:=by kernel_rfl
 fn:=⟨(Tryz.prog.funcs[106]?).getD default,by kernel_rfl,by kernel_rfl,by kernel_rfl⟩
 bf:=⟨by kernel_rfl,by kernel_rfl,by kernel_rfl⟩
 enter:=fun p1 p2=>by kernel_rfl
 op0:=by kernel_rfl
 rest:=⟨1,by kernel_rfl⟩
 size:=by kernel_rfl
 op:=⟨by kernel_rfl,by kernel_rfl,air kE.cl.oc,by kernel_rfl⟩
theorem as3:∀v,v <2→∀W,∃k,HL zT 200 v (Frame.enter zT 103 #[zP W,zI 1] .normal)=some (List.replicate k W):=by
 intro v hv W
 match v,hv with
 |0,_=>exact⟨7,by kernel_rfl⟩
 |1,_=>exact⟨4,by kernel_rfl⟩
theorem alD:∀W,∃k,xL zT 200 2 (Frame.enter zT 105 #[zP W] .deferred)=some (List.replicate k W):=fun W=>⟨27,by kernel_rfl⟩
theorem alC:∀W,∃k,Bp zT 200 2 (Frame.enter zT 107 #[zP W] .normal)=some (List.replicate k W):=fun W=>⟨164,by kernel_rfl⟩
noncomputable def nQ(Wg Ch:Nat)(iC:Os)(cu:Array (Nat×ByteArray)):ee (List aw):=⟨zT,200,Wg,Ch,2,zS,iC,cu,fun l v X=>ax v 8 124 cR l X⟩
theorem Ho(K:aP)(on:Int)(hb:K.after.length≤4):∀(n a:Nat) (p:Nat→Int),(∀i,0≤p i∧p i≤4)→(iV K on n a p).length≤5^n∧∀q∈iV K on n a p,∀i,0≤q i∧q i≤4
 |0,a,p,hp=>by
  simp only[iV]
  cases mr on p K.facts 0 with
  |true=>exact⟨by simp,fun q hq=>by simp only[cond_true,List.mem_singleton] at hq;subst hq;exact hp⟩
  |false=>exact⟨by simp,fun q hq=>by simp at hq⟩
 |n+1,a,p,hp=>by
  obtain⟨h1,h2⟩:=Ho K on hb n (a+1) p hp
  have hg:∀b,b <K.after.length→(nO K on n a p b).length≤5^n∧∀q∈nO K on n a p b,∀i,0≤q i∧q i≤4:=fun b cH=>by
   simp only[nO]
   cases !dc K on a b||EH p a ((b:Int)+1) with
   |true=>exact⟨by simp,fun q hq=>by simp at hq⟩
   |false=>
    simp only[cond_false]
    refine Ho K on hb n (a+1) _ fun i=>?_
    simp only[m9]
    split
    ·omega
    exact hp i
  rw[qN]
  refine⟨?_,fun q hq=>?_⟩
  ·rw[List.length_append,List.length_flatMap]
   have:((List.range K.after.length).map fun b=>(nO K on n a p b).length).sum≤K.after.length*5^n:=by
    have key:∀l:List Nat,(∀b∈l,b <K.after.length)→(l.map fun b=>(nO K on n a p b).length).sum≤l.length*5^n:=by
     intro l
     induction l with
     |nil=>intro _;simp
     |cons b l ih=>
      intro hl
      have:=ih fun x hx=>hl x (List.mem_cons_of_mem _ hx)
      have:=(hg b (hl b List.mem_cons_self)).1
      simp only[List.map_cons,List.sum_cons,List.length_cons,Nat.succ_mul]
      omega
    have:=key (List.range K.after.length) fun b hb=>List.mem_range.1 hb
    simpa using this
   have h5:K.after.length*5^n≤4*5^n:=Nat.mul_le_mul_right _ hb
   rw[Nat.pow_succ]
   omega
  rcases List.mem_append.1 hq with hq|hq
  ·exact h2 q hq
  obtain⟨b,mZ,hq⟩:=List.mem_flatMap.1 hq
  exact(hg b (List.mem_range.1 mZ)).2 q hq
theorem kO(hV:gh K)(on:Int):(bU K on).length≤625∧∀q∈bU K on,∀i,0≤q i∧q i≤4:=by
 obtain⟨h1,h2⟩:=Ho K on hV.after.1 K.before.length 0 (fun _=>0) fun _=>by omega
 refine⟨Nat.le_trans h1 ?_,h2⟩
 have:=Nat.pow_le_pow_right (n:=5) (by omega) hV.before.1
 omega
end Go.L
