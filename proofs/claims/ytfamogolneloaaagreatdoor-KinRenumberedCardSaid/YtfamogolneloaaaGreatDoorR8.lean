/- Part 8 of the proof. -/
import Derived.Test.YtfamogolneloaaaGreatDoorR7
set_option maxRecDepth 100000
set_option linter.all false
namespace Go.L
open Go Go.Conc Go.Proofs
variable {p:Nat→Int} {K:aI} {b f k n bC b1 b2 bl bf br bg bt bo:Nat} {rs:List cQ} {cs:List bO} {hd:List cv} {l:List cU} {vl vc vh:Value} {na nb:ByteArray} {Stop:Cells→Prop} {x y:ay} {T:TypeId} {xs:List Int}
abbrev eBy(x:Int):List Value:=[.int .u8 x]
theorem aHq:EF zT 303 (Extern.BytealgMakeNoZero.makeNoZero #[3] #[363]):=⟨Tryz.f303,Tryz.func303,by kernel_rfl,by kernel_rfl,by kernel_rfl,by kernel_rfl⟩
def ary:=(ny Tryz.typeInfo363 Tryz.underlying363 rfl rfl rfl rfl rfl rfl:TF zT 363 _ 1 24 _ false)
theorem adV{l:List Value}:az (.slice (some ⟨b,0,none⟩) 0 l.length) 1 T eBy ([]:List Int) [(b,.cells ⟨l⟩ T (0,0))]:= .inr ⟨b,l,l.length,rfl,rfl,by simp,by simp,by simp,by simp⟩
theorem aln{v:Value}{c:Int}{L:Cells}(h:az v 1 T eBy [c] L):∃b l cap,cap≠0∧v= .slice (some ⟨b,0,none⟩) 1 cap∧L=[(b,.cells ⟨.int .u8 c::l⟩ T (0,0))]:=by
 rcases h with ⟨_,h,_⟩| ⟨b,l,cap,h1,h2,h3,h4,_,h6⟩
 ·cases h
 simp only[List.length_cons,List.length_nil] at h1 h4 h6
 cases l with
 |nil=>simp at h3;omega
 |cons x l=>
  simp at h6;subst h6
  exact⟨b,l,cap,by omega,h1,h2⟩
def aa8(n:Int):ByteArray:=⟨#[n.toNat.toUInt8]⟩
theorem aHr:EF zT 302 Extern.AbiNoEscape.same:=⟨Tryz.f302,Tryz.func302,by kernel_rfl,by kernel_rfl,by kernel_rfl,by kernel_rfl⟩
theorem aHQ{v:Value}{ro:Nat→Option Obj}:eG zT 291 [zP b] ro [(b,.cells ⟨[.pointer none,v]⟩ 365 (0,0))] (fun r Y=>Y=[(b,.cells ⟨[zP b,v]⟩ 365 (0,0))]):=by
 refine bD au [.b b (.cells ⟨[.pointer none,v]⟩ 365 (0,0))] [] ba<|jd 12 [0]<|jmo [0] [0,0] [(b,.cells ⟨[.pointer none,v]⟩ 365 (0,0))] (zP b)<|jg 0 [.b b (.cells ⟨[.pointer none,v]⟩ 365 (0,0))]<|aP4 (v:= zP b) aHr<|jmo [0] [0,0] [(b,.cells ⟨[.pointer none,v]⟩ 365 (0,0))] (zP b)<|jg 0 [.b b (.cells ⟨[.pointer none,v]⟩ 365 (0,0))]<|jd 4 [0]<|aF q0 (.tuple ⟨[]⟩) [] [0] [(b,.cells ⟨[zP b,v]⟩ 365 (0,0))] (Sub.refl _) ⟨_,_,rfl,rfl,rfl⟩
theorem aHP{v:Value}{ro:Nat→Option Obj}:eG zT 291 [zP b] ro [(b,.cells ⟨[zP b,v]⟩ 365 (0,0))] (fun r Y=>Y=[(b,.cells ⟨[zP b,v]⟩ 365 (0,0))]):=by
 refine bD au [.b b (.cells ⟨[zP b,v]⟩ 365 (0,0))] [] ba<|jd 16 [0,0]<|jpn (b:=b)<|jg 0 []<|zD 3<|aF q0 (.tuple ⟨[]⟩) [] [0] [(b,.cells ⟨[zP b,v]⟩ 365 (0,0))] (Sub.refl _) ⟨_,_,rfl,rfl,rfl⟩
theorem aHJ{ro:Nat→Option Obj}:eG zT 292 [zP b,zI 1] ro [(b,.cells ⟨[zP b,zS]⟩ 365 (0,0))] (fun r Y=>∃v L,az v 1 5 eBy ([]:List Int) L∧Y=(b,.cells ⟨[zP b,v]⟩ 365 (0,0))::L):=by
 refine bD au [.b b (.cells ⟨[zP b,zS]⟩ 365 (0,0))] [] ba<|jd 6 [0]<|jcp (c:=0)<|jd 8 [0]<|aL 8 fun Ea Eg BB=>jnz (n:=1) aHq rfl ary (by omega) fun bb lz hlz=>jg 0 [.b bb (.cells ⟨lz⟩ 5 (0,0))]<|bB BB [1]<|js0 (a:=⟨bb,0,none⟩) (l:=1) (c:=lz.length)<|jd 9 [1]<|jmo [] [] [] (zI 0)<|jg 0 []<|jd 8 [1]<|aF q0 (.tuple ⟨[]⟩) [] [1,0] ((b,.cells ⟨[zP b,(.slice (some ⟨bb,0,none⟩) 0 lz.length)]⟩ 365 (0,0))::[(bb,.cells ⟨lz⟩ 5 (0,0))]) (Sub.refl _) ⟨_,_,rfl,rfl,_,_,adV,rfl⟩
theorem aHO{ro:Nat→Option Obj}:eG zT 274 [zP b,zI 1] ro [(b,.cells ⟨[.pointer none,zS]⟩ 365 (0,0))] (fun r Y=>∃v L,az v 1 5 eBy ([]:List Int) L∧Y=(b,.cells ⟨[zP b,v]⟩ 365 (0,0))::L):=by
 refine bD au [.b b (.cells ⟨[.pointer none,zS]⟩ 365 (0,0))] [] ba<|zD 3<|jc (vs:=[zP b]) [0] (aHQ (v:= zS)) ?_
 rintro _ _ rfl
 refine jg 0 [.b b (.cells ⟨[zP b,zS]⟩ 365 (0,0))]<|jd 15 [0]<|jcp (c:=0)<|jd 13 [0]<|jc (vs:=[zP b,zI 1]) [0] (aHJ) ?_
 rintro _ _ ⟨v,L,hv,rfl⟩
 refine jg 0 [.b b (.cells ⟨[zP b,v]⟩ 365 (0,0)),.l L]<|zD 1<|aF q0 (.tuple ⟨[]⟩) [] [0,1] ((b,.cells ⟨[zP b,v]⟩ 365 (0,0))::L) (Sub.refl _) ⟨_,_,rfl,rfl,v,L,hv,rfl⟩
theorem aHR{v:Value}{L:Cells}{c:Int}{ro:Nat→Option Obj}(ho:az v 1 5 eBy ([]:List Int) L):eG zT 276 [zP b,.int .u8 c] ro ((b,.cells ⟨[zP b,v]⟩ 365 (0,0))::L) (fun r Y=>∃v' L',az v' 1 5 eBy [c] L'∧Y=(b,.cells ⟨[zP b,v']⟩ 365 (0,0))::L'):=by
 refine bD au [.b b (.cells ⟨[zP b,v]⟩ 365 (0,0)),.l L] [] ba<|zD 7<|jc (vs:=[zP b]) [0] (aHP (v:=v)) ?_
 rintro _ _ rfl
 refine jg 0 [.b b (.cells ⟨[zP b,v]⟩ 365 (0,0))]<|jd 9 [0]<|jn fun Aa=>jq (sz:=1) (ps:=[]) (qs:=[c]) (enc:=eBy) (w:= .slice (some ⟨Aa,0,none⟩) 1 1) [2] [0] [(Aa,.cells ⟨([c].map eBy).flatten⟩ 5 (0,0))] (ho) (fun s _ hZ=>bX [c] (hZ _ (.head _)) (by intro p hp;rfl)) (fun p _=>aj rfl) (by simp) (fun v14 L14 uk=>?_)
 rw[List.nil_append] at uk
 obtain⟨FE,Ee,u7⟩:=uk.form
 subst u7
 refine jd 9 [2]<|aF q0 (.nilIface) [] [2,0] ((b,.cells ⟨[zP b,(.slice FE ([c]).length Ee)]⟩ 365 (0,0))::L14) (Sub.refl _) ⟨_,_,rfl,rfl,_,_,uk,rfl⟩
theorem aVQ{bb cap:Nat}{l:List Value}{c:Int}{ro:Nat→Option Obj}(oL:cap≠0):eG zT 277 [zP b] ro [(b,.cells ⟨[zP b,.slice (some ⟨bb,0,none⟩) 1 cap]⟩ 365 (0,0)),(bb,.cells ⟨.int .u8 c::l⟩ 5 (0,0))] (fun r Y=>r= .string (aa8 c)):=by
 refine bD au [.b b (.cells ⟨[zP b,.slice (some ⟨bb,0,none⟩) 1 cap]⟩ 365 (0,0)),.b bb (.cells ⟨.int .u8 c::l⟩ 5 (0,0))] [] ba<|jd 15 [0,0]<|aL 4 fun Ea Eg BB=>jsd (a:=⟨bb,0,none⟩) (l:=1) oL<|jg 0 []<|bB BB [0,1]<|aL 10 fun Ac Aj zd=>jus (b:=bb) (E:=5) [1] c l fun L9=>iu zd [[1]]<|zD 3<|aF q0 (.string (aa8 c)) [] [] [] (Sub.refl _) ⟨_,_,rfl,rfl,rfl⟩
def tX(u:UInt8):ByteArray:=⟨#[u]⟩
theorem anD{u:UInt8}(h:u.toNat <128):Value.string (Utf8.encode (u.toNat:Int))= .string (tX u):=by
 have hv:Utf8.valid (u.toNat:Int)=true:=by simp only[Utf8.valid];simp;omega
 simp only[Utf8.encode,hv,if_true,Int.toNat_natCast,if_pos (show u.toNat <0x80 from h),tX]
 simp
theorem aG4{u:UInt8}{ro:Nat→Option Obj}(hu:(97≤u.toNat∧u.toNat≤122)):dt zT 253 [.string (tX u)] ro (.string (tX u)):=by
 have u5:(tX u).size=1:=rfl
 refine bD au [] [] ba<|zD 15<|dW [1,1,0,1,0,0] [] (fun(zz:Nat×Bool)=>[(0,.string (tX u)),(2,.string (bs [])),(3,.bool true),(4,.bool zz.2),(5,zI (zz.1:Int))]) (fun(zz:Nat×Bool)=>[]) (fun(zz:Nat×Bool)=>(zz.1=0∧zz.2=false)∨(zz.1=1∧zz.2=false)) (fun(zz:Nat×Bool)=>1-zz.1) (⟨0,false⟩) (.inl ⟨rfl,rfl⟩) [] ?_
 rintro⟨i,q⟩ hI K1 bK rest
 dsimp only at hI
 refine zD 8<|zJ 14 ((i:Int) <((tX u).size:Int)) (fun h1=>?_) fun h1=>?_
 ·
  refine zD 5 ?_
  obtain⟨hi0,XE⟩:i=0∧q=false:=by rcases hI with h|h;exact h;omega
  refine jw 5 (zI 0) (show Value.int .i64 (i:Int)= zI 0 by rw[hi0];rfl) ?_
  refine jw 4 (.bool false) (show Value.bool q= .bool false by rw[XE])<|zD 12<|zJ 21 ((u.toNat:Int)≥128) (fun h2=>?_) fun h2=>?_
  ·
   exfalso;omega
  refine zD 8<|js 26 (decide (65≤(u.toNat:Int))) (fun h3=>?_) (fun h3=>?_)
  ·
   have wz:=h3
   replace wz:=of_decide_eq_true wz
   refine zD 11<|bJ bK (⟨1,decide ((u.toNat:Int)≤90)⟩) (.inr ⟨rfl,decide_eq_false (by omega)⟩) (by dsimp only;omega) [] (Sub.refl _)
  have wz:=h3
  replace wz:=of_decide_eq_false wz
  exfalso;omega
 refine zD 4 ?_
 obtain⟨hi1,hq1⟩:i=1∧q=false:=by rcases hI with h|h;omega;exact h
 refine jw 4 (.bool false) (show Value.bool q= .bool false by rw[hq1])<|zD 17<|aF q0 (.string (tX u)) [] [] [] (Sub.refl _) ⟨_,_,rfl,rfl,rfl,rfl⟩
theorem aG3{u:UInt8}{ro:Nat→Option Obj}(hu:(65≤u.toNat∧u.toNat≤90)):dt zT 253 [.string (tX u)] ro (.string (aa8 (IntKind.u8.wrap ((u.toNat:Int)+32)))):=by
 have u5:(tX u).size=1:=rfl
 refine bD au [] [] ba<|zD 15<|dW [1,1,0,1,0,0] [] (fun(zz:Nat×Bool)=>[(0,.string (tX u)),(2,.string (bs [])),(3,.bool true),(4,.bool zz.2),(5,zI (zz.1:Int))]) (fun(zz:Nat×Bool)=>[]) (fun(zz:Nat×Bool)=>(zz.1=0∧zz.2=false)∨(zz.1=1∧zz.2=true)) (fun(zz:Nat×Bool)=>1-zz.1) (⟨0,false⟩) (.inl ⟨rfl,rfl⟩) [] ?_
 rintro⟨i,q⟩ hI K1 bK rest
 dsimp only at hI
 refine zD 8<|zJ 14 ((i:Int) <((tX u).size:Int)) (fun h1=>?_) fun h1=>?_
 ·
  refine zD 5 ?_
  obtain⟨hi0,XE⟩:i=0∧q=false:=by rcases hI with h|h;exact h;omega
  refine jw 5 (zI 0) (show Value.int .i64 (i:Int)= zI 0 by rw[hi0];rfl) ?_
  refine jw 4 (.bool false) (show Value.bool q= .bool false by rw[XE])<|zD 12<|zJ 21 ((u.toNat:Int)≥128) (fun h2=>?_) fun h2=>?_
  ·
   exfalso;omega
  refine zD 8<|js 26 (decide (65≤(u.toNat:Int))) (fun h3=>?_) (fun h3=>?_)
  ·
   have wz:=h3
   replace wz:=of_decide_eq_true wz
   refine zD 11<|bJ bK (⟨1,decide ((u.toNat:Int)≤90)⟩) (.inr ⟨rfl,decide_eq_true (by omega)⟩) (by dsimp only;omega) [] (Sub.refl _)
  have wz:=h3
  replace wz:=of_decide_eq_false wz
  exfalso;omega
 refine zD 4 ?_
 obtain⟨hi1,hq1⟩:i=1∧q=true:=by rcases hI with h|h;omega;exact h
 refine jw 4 (.bool true) (show Value.bool q= .bool true by rw[hq1])<|zD 14<|jn fun b7=>zD 9<|jc (vs:=[zP b7,zI 1]) [0] (aHO) ?_
 rintro _ _ ⟨v,L,hv,rfl⟩
 refine jg 0 [.b b7 (.cells ⟨[zP b7,v]⟩ 365 (0,0)),.l L]<|zD 7<|dW [1,1,1,0,1,0,1,1,1,1,0,1,0,0] [] (fun(zz:Nat×Int×Value×Cells×(List Int))=>[(0,.string (tX u)),(2,.string (bs [])),(7,zP b7),(8,zI zz.2.1),(9,zI (zz.1:Int))]) (fun(zz:Nat×Int×Value×Cells×(List Int))=>[.b b7 (.cells ⟨[zP b7,zz.2.2.1]⟩ 365 (0,0)),.l zz.2.2.2.1]) (fun(zz:Nat×Int×Value×Cells×(List Int))=>az zz.2.2.1 1 5 eBy zz.2.2.2.2 zz.2.2.2.1∧((zz.1=0∧zz.2.1=0∧zz.2.2.2.2=[])∨(zz.1=1∧zz.2.1=1∧zz.2.2.2.2=[(IntKind.u8.wrap ((u.toNat:Int)+32))]))) (fun(zz:Nat×Int×Value×Cells×(List Int))=>1-zz.1) (⟨0,0,v,L,[]⟩) ⟨hv,.inl ⟨rfl,rfl,rfl⟩⟩ [0,1] ?_
 rintro⟨j,p,v,L,xs⟩ hJ K2 mr rest
 dsimp only at hJ
 refine zD 8<|zJ 41 ((j:Int) <((tX u).size:Int)) (fun h4=>?_) fun h4=>?_
 ·
  refine zD 5 ?_
  obtain⟨hj0,hp0,GU⟩:j=0∧p=0∧xs=[]:=by rcases hJ.2 with h|h;exact h;omega
  refine jw 9 (zI 0) (show Value.int .i64 (j:Int)= zI 0 by rw[hj0];rfl) ?_
  refine jw 8 (zI 0) (show Value.int .i64 p= zI 0 by rw[hp0])<|zD 11<|js 49 (decide (65≤(u.toNat:Int))) (fun h5=>?_) (fun h5=>?_)
  ·
   have Nz:=h5
   replace Nz:=of_decide_eq_true Nz
   refine zD 4<|zJ 52 ((u.toNat:Int)≤90) (fun h6=>?_) fun h6=>?_
   ·
    refine zD 19<|jc (vs:=[zP b7,.int .u8 (IntKind.u8.wrap ((u.toNat:Int)+32))]) [0,1] (aHR (by have:=hJ.1;rwa[GU] at this)) ?_
    rintro _ _ ⟨v2,L2,Iw,rfl⟩
    refine jg 0 [.b b7 (.cells ⟨[zP b7,v2]⟩ 365 (0,0)),.l L2]<|zD 11<|bJ mr (⟨1,1,v2,L2,[(IntKind.u8.wrap ((u.toNat:Int)+32))]⟩) ⟨Iw,.inr ⟨rfl,rfl,rfl⟩⟩ (by dsimp only;omega) [0,1] (Sub.refl _)
   exfalso;omega
  have Nz:=h5
  replace Nz:=of_decide_eq_false Nz
  exfalso;omega
 refine zD 4 ?_
 obtain⟨hj1,hp1,hx1⟩:j=1∧p=1∧xs=[(IntKind.u8.wrap ((u.toNat:Int)+32))]:=by rcases hJ.2 with h|h;omega;exact h
 refine jw 8 (zI 1) (show Value.int .i64 p= zI 1 by rw[hp1])<|zD 9 ?_
 obtain⟨bb,lz,cap,oL,rfl,rfl⟩:=aln (by have:=hJ.1;rwa[hx1] at this)
 refine zD 1<|jc (vs:=[zP b7]) [0,1] (aVQ (bb:=bb) (l:=lz) (c:=(IntKind.u8.wrap ((u.toNat:Int)+32))) oL) ?_
 rintro _ Yz rfl
 refine zD 3<|aF q0 (.string (aa8 (IntKind.u8.wrap ((u.toNat:Int)+32)))) [] [] [] (Sub.refl _) ⟨_,_,rfl,rfl,rfl,rfl⟩
def aeH(u:UInt8):ByteArray:=if u.toNat <97 then aa8 (IntKind.u8.wrap ((u.toNat:Int)+32)) else tX u
theorem aVf{u:UInt8}{ro:Nat→Option Obj}(h:GJ u=true∨Gn u=true):dt zT 253 [.string (tX u)] ro (.string (aeH u)):=by
 unfold aeH
 rcases h with h|h
 ·simp only[GJ,Bool.and_eq_true,Nat.ble_eq] at h
  rw[if_neg (by omega)]
  exact aG4 (by omega)
 simp only[Gn,Bool.and_eq_true,Nat.ble_eq] at h
 rw[if_pos (by omega)]
 exact aG3 (by omega)
def uqN(rs:List cQ)(a to:ByteArray):Nat→Nat→Option Nat
 |0,_=>none
 |f+1,m=>bif decide (0 <(OC rs to m a []).length) then some m else uqN rs a to f (m+1)
def uq(rs:List cQ)(a to:ByteArray):Option Nat:=uqN rs a to 3 0
def jL(c:UInt8):ByteArray:=if c.toNat=67 then bs [99,104] else if c.toNat=74 then bs [106,117] else if c.toNat=89 then bs [106,97] else if c.toNat=88 then bs [115,104] else if c.toNat <97 then bs [c.toNat+32] else bs [c.toNat]
def I9:List UInt8→ByteArray→ByteArray
 | [],a=>a
 |c::l,a=>I9 l (a++jL c)
def keyOf(w:ByteArray):ByteArray:=I9 w.data.toList (bs [])
theorem al0{l:List UInt8}{c:UInt8}{a:ByteArray}(h:l[k]?=some c):I9 (l.drop k) a=I9 (l.drop (k+1)) (a++jL c):=by rw[fF h];rfl
theorem aeU{l:List UInt8}{a:ByteArray}(h:l[k]?=none):I9 (l.drop k) a=a:=by rw[eL (by rw[List.getElem?_eq_none_iff] at h;omega)];rfl
def Fz(rs:List cQ)(a b:ByteArray):Int:=match uq rs (keyOf a) (keyOf b) with
 |none=>2
 |some 0=>1
 |some _=>3
structure rJ(w:ByteArray):Prop where
 n:1≤w.size∧w.size≤6
 s:Script w
def TW(c:UInt8):Prop:=GJ c=true∨Gn c=true
theorem rJ.let{w:ByteArray}(h:rJ w):∀c∈w.data.toList,TW c:=fun c hc=>h.s.elim (fun k=> .inl (k c hc)) fun k=> .inr (k c hc)
theorem Zg:((List.range 256).all fun n=> !(GJ (UInt8.ofNat n)||Gn (UInt8.ofNat n))||(alR (jL (UInt8.ofNat n))&&(Nat.ble 1 (jL (UInt8.ofNat n)).size&&Nat.ble (jL (UInt8.ofNat n)).size 2)))=true:=by kernel_rfl
theorem Pg{c:UInt8}(h:TW c):xI (jL c)∧1≤(jL c).size∧(jL c).size≤2:=by
 have h2:=List.all_eq_true.1 Zg c.toNat (List.mem_range.2 c.toNat_lt)
 have hb:UInt8.ofNat c.toNat=c:=by simp
 rw[hb] at h2
 have h3:(GJ c||Gn c)=true:=by rcases h with h|h<;>simp[h]
 rw[h3] at h2
 simp only[Bool.not_true,Bool.false_or,Bool.and_eq_true,Nat.ble_eq] at h2
 exact⟨GD h2.1,h2.2⟩
theorem Xl:∀ {l:List UInt8} {a:ByteArray},(∀c∈l,TW c)→xI a→xI (I9 l a)∧(I9 l a).size≤a.size+2*l.length
 | [],a,_,ha=>⟨ha,by simp[I9]⟩
 |c::l,a,h,ha=>by
  have h1:=Pg (h c (by simp))
  obtain⟨h2,h3⟩:=Xl (l:=l) (a:=a++jL c) (fun x hx=>h x (by simp[hx])) (ha.app h1.1)
  refine⟨h2,?_⟩
  simp only[I9,ByteArray.size_append,List.length_cons] at h3 ⊢
  omega
theorem Qp{w:ByteArray}(h:rJ w):xI (keyOf w)∧(keyOf w).size≤12:=by
 have h1:=Xl (l:=w.data.toList) (a:=bs []) h.let (fun b hb=>by cases hb)
 have h2:w.data.toList.length=w.size:=Array.length_toList
 have h3:=h.n
 exact⟨h1.1,by have:=h1.2;have e:(bs []).size=0:=rfl;unfold keyOf;omega⟩
theorem alQ{c:UInt8}(h:TW c)(h1:¬(c.toNat:Int)=67)(h2:¬(c.toNat:Int)=74)(h3:¬(c.toNat:Int)=89)(h4:¬(c.toNat:Int)=88):aeH c=jL c:=by
 simp only[aeH,jL,if_neg (show ¬c.toNat=67 by omega),if_neg (show ¬c.toNat=74 by omega),if_neg (show ¬c.toNat=89 by omega),if_neg (show ¬c.toNat=88 by omega)]
 split
 ·simp only[aa8,bs]
  rw[sD .u8 rfl _ (by omega) (by simp[IntKind.bits];omega),show ((c.toNat:Int)+32).toNat=c.toNat+32 by omega]
  rfl
 simp[tX,bs]
theorem let_128{c:UInt8}(h:TW c):c.toNat <128:=by
 rcases h with h|h
 ·simp only[GJ,Bool.and_eq_true,Nat.ble_eq] at h;omega
 simp only[Gn,Bool.and_eq_true,Nat.ble_eq] at h;omega
theorem asQ{c:UInt8}{ro:Nat→Option Obj}(h:TW c):dt zT 235 [.int .i32 (c.toNat:Int)] ro (.string (jL c)):=by
 refine bD au [] [] ba<|zD 29<|zJ 5 ((c.toNat:Int)=67) (fun h1=>?_) fun h1=>?_
 ·
  refine zD 8<|aF q0 (.string (bs [99,104])) [] [] [] (Sub.refl _) ⟨_,_,rfl,rfl,by rw[jL,if_pos (by omega)]<;>rfl,rfl⟩
 refine zD 8<|zJ 7 ((c.toNat:Int)=74) (fun h2=>?_) fun h2=>?_
 ·
  refine zD 17<|jsa (a:=(bs [106])) (b:=(bs [117])) 9 (by decide)<|zD 3<|aF q0 (.string ((bs [106])++(bs [117]))) [] [] [] (Sub.refl _) ⟨_,_,rfl,rfl,by rw[jL,if_neg (by omega),if_pos (by omega)]<;>rfl,rfl⟩
 refine zD 8<|zJ 9 ((c.toNat:Int)=89) (fun h3=>?_) fun h3=>?_
 ·
  refine zD 16<|jsa (a:=(bs [106])) (b:=(bs [97])) 9 (by decide)<|zD 3<|aF q0 (.string ((bs [106])++(bs [97]))) [] [] [] (Sub.refl _) ⟨_,_,rfl,rfl,by rw[jL,if_neg (by omega),if_neg (by omega),if_pos (by omega)]<;>rfl,rfl⟩
 refine zD 7<|zJ 11 ((c.toNat:Int)=88) (fun h4=>?_) fun h4=>?_
 ·
  refine zD 8<|aF q0 (.string (bs [115,104])) [] [] [] (Sub.refl _) ⟨_,_,rfl,rfl,by rw[jL,if_neg (by omega),if_neg (by omega),if_neg (by omega),if_pos (by omega)]<;>rfl,rfl⟩
 refine zD 6<|je (.string (tX c)) (anD (let_128 h))<|jp (vs:=[.string (tX c)]) [] [] (fun aC hs hZ=>(aVf h))<|zD 3<|aF q0 (.string (aeH c)) [] [] [] (Sub.refl _) ⟨_,_,rfl,rfl,by rw[alQ h (by omega) (by omega) (by omega) (by omega)],rfl⟩
theorem alI{w to:ByteArray}{ro:Nat→Option Obj}(hl:bE ro vl 2 iP rs)(hR:∀r∈rs,rI r)(hw:xI w)(r8:w.size≤100)(hq:rs.length≤100):eG zT 217 [.string w,vl,.string to] ro [] (fun r Y=>(∃n v ps,uq rs w to=some n∧r= .tuple ⟨[v,.bool true]⟩∧az v 1 9 pY ps Y∧ps.length=n+1)∨(uq rs w to=none∧r= .tuple ⟨[zS,.bool false]⟩∧Y=[])):=by
 obtain⟨fI,rV,rS,eZ,rfl,tR,lQ,mO⟩:=hl
 refine bD au [] [] ba<|zD 11<|dW [1,0,1,0,0] [] (fun(zz:Nat)=>[(0,.string w),(1,.slice fI rs.length eZ),(2,.string to),(11,zI (zz:Int))]) (fun(zz:Nat)=>[]) (fun(zz:Nat)=>zz≤3∧uq rs w to=uqN rs w to (3-zz) zz) (fun(zz:Nat)=>3-zz) 0 ⟨by omega,rfl⟩ [] ?_
 rintro k hI K1 bK rest
 refine zD 5<|zJ 12 ((k:Int) <3) (fun h1=>?_) fun h1=>?_
 ·
  refine zD 15<|jc (vs:=[.string w,.slice fI rs.length eZ,.string to,zI (k:Int)]) [] (aeq (show bE _ _ _ _ _ from ⟨fI,rV,rS,eZ,rfl,tR,lQ,mO⟩)) ?_
  rintro _ _ ⟨aeF,aeE,aeD,aeC,rfl,rfl⟩
  refine jg 0 [.b aeF (.cells ⟨[.string w]⟩ 308 (0,0)),.b aeE (.cells ⟨[.slice fI rs.length eZ]⟩ 36 (0,0)),.b aeD (.cells ⟨[.string to]⟩ 308 (0,0)),.b aeC (.cells ⟨[zI (k:Int)]⟩ 3 (0,0))]<|jf [0,1,2,3] ((aeF,.cells ⟨[.string w]⟩ 308 (0,0))::((aeE,.cells ⟨[.slice fI rs.length eZ]⟩ 36 (0,0))::((aeD,.cells ⟨[.string to]⟩ 308 (0,0))::[(aeC,.cells ⟨[zI (k:Int)]⟩ 3 (0,0))]))) fun ro4 oU XS=>jc (vs:=[.func (.func 254) ⟨[]⟩ ⟨[zP aeC,zP aeD,zP aeE,zP aeF]⟩,.func (.func 238) ⟨[]⟩ ⟨[]⟩]) [] (asS (Z3 (XS _ (.tail _ (.tail _ (.tail _ (.head _))))) (XS _ (.tail _ (.tail _ (.head _)))) (XS _ (.tail _ (.head _))) (XS _ (.head _)) ((show bE _ _ _ _ _ from ⟨fI,rV,rS,eZ,rfl,tR,lQ,mO⟩).up oU) hR hw r8 hq (by omega)) (fun x hx=>by have:=NY hx;simp at this;omega)) ?_
  rintro _ L20 ⟨v20,rfl,aPm,aRH,auH⟩
  refine zD 10<|js 23 (decide (0 <(OC rs to k w []).length)) (fun h5=>?_) (fun h5=>?_)
  ·
   refine zD 8<|aF q0.a (.tuple ⟨[v20,.bool true]⟩) [] [0] L20 oU ⟨_,_,rfl,rfl,.inl ⟨k,v20,aPm,by rw[hI.2,show 3-k=(3-(k+1))+1 by omega,uqN,h5];rfl,rfl,aRH,by have:=NY (auH (of_decide_eq_true h5));simpa using this⟩⟩
  refine zD 3<|ja ((k:Int)+1) (by omega)<|zD 2<|bJ bK (k+1) ⟨by omega,by rw[hI.2,show 3-k=(3-(k+1))+1 by omega,uqN,h5];rfl⟩ (by omega) [] oU
 refine zD 8<|aF q0 (.tuple ⟨[zS,.bool false]⟩) [] [] [] (Sub.refl _) ⟨_,_,rfl,rfl,.inr ⟨by rw[hI.2,show 3-k=0 by omega];rfl,rfl,rfl⟩⟩
theorem as5{c:UInt8}(h:TW c):c.toNat <128:=by
 rcases h with h|h
 ·simp only[GJ,Bool.and_eq_true,Nat.ble_eq] at h;omega
 simp only[Gn,Bool.and_eq_true,Nat.ble_eq] at h;omega
theorem asT{w to:ByteArray}{ro:Nat→Option Obj}(hl:bE ro vl 2 iP rs)(hR:∀r∈rs,rI r)(hw:xI w)(r8:w.size≤100)(hq:rs.length≤100):eG zT 217 [.string w,vl,.string to] ro [] (fun r Y=>∃v ps ok,r= .tuple ⟨[v,.bool ok]⟩∧az v 1 9 pY ps Y∧(ok=true→uq rs w to=some (ps.length-1)∧1≤ps.length)∧(ok=false→uq rs w to=none)):=by
 refine(alI hl hR hw r8 hq).mono fun _ _ h=>?_
 rcases h with ⟨n,v,ps,h1,h2,h3,h4⟩| ⟨h1,h2,h3⟩
 ·exact⟨v,ps,true,h2,h3,fun _=>⟨by rw[h4];exact h1,by omega⟩,nofun⟩
 subst h3;exact⟨_,[],false,h2,az.nil _ _ _,nofun,fun _=>h1⟩
def uN(rs:List cQ)(a b:ByteArray):Int:=match uq rs a b with
 |some n=>n
 |none=>0
def uE(rs:List cQ)(a b:ByteArray):Int:=match uq rs a b with
 |some _=>0
 |none=>11
theorem aoB{a to:ByteArray}:∀ {f m n:Nat},uqN rs a to f m=some n→n <m+f
 |0,_,_,h=>by cases h
 |f+1,m,n,h=>by
  simp only[uqN] at h
  cases hd:decide (0 <(OC rs to m a []).length) with
  |true=>rw[hd] at h;simp only[cond_true,Option.some.injEq] at h;omega
  |false=>rw[hd] at h;simp only[cond_false] at h;have:=aoB h;omega
theorem nOf{w:ByteArray}{ro:Nat→Option Obj}(hw:rJ w):dt zT 216 [.string w] ro (.string (keyOf w)):=by
 refine bD au [] [] ba<|zD 12<|jn fun r7=>zD 2<|dW [1,1,0,1,0,0] [] (fun(zz:Nat×ByteArray)=>[(2,.string (bs [])),(3,.string zz.2),(7,zP r7)]) (fun(zz:Nat×ByteArray)=>[.b r7 (.stringIter w zz.1)]) (fun(zz:Nat×ByteArray)=>(zz.1≤w.data.toList.length∧zz.2.size≤2*zz.1)∧keyOf w=I9 (w.data.toList.drop zz.1) zz.2) (fun(zz:Nat×ByteArray)=>w.data.toList.length-zz.1) (⟨0,(bs [])⟩) ⟨⟨by omega,Nat.le_refl _⟩,rfl⟩ [0] ?_
 rintro⟨p,a⟩ hI K1 bK rest
 dsimp only at hI
 refine zD 2 ?_
 cases hn8:w.data.toList[p]? with
 |some x8=>
  refine jnA r7 0 hn8 (as5 (hw.let _ (List.mem_of_getElem? hn8)))<|zD 11 ?_
  have hso:=Pg (hw.let _ (List.mem_of_getElem? hn8))
  have hlen:w.data.toList.length=w.size:=Array.length_toList
  have hwn:=hw.n
  refine zD 3<|jp (vs:=[.int .i32 (x8.toNat:Int)]) [] [] (fun aC hs hZ=>(asQ (hw.let _ (List.mem_of_getElem? hn8))))<|jsa (a:=a) (b:=(jL x8)) 9 (by omega)<|zD 2<|bJ bK (⟨p+1,(a++jL x8)⟩) ⟨⟨by have:=(List.getElem?_eq_some_iff.1 hn8).1;dsimp only;omega,by dsimp only;rw[ByteArray.size_append];omega⟩,by rw[hI.2,al0 hn8]⟩ (by have:=(List.getElem?_eq_some_iff.1 hn8).1;dsimp only;omega) [0] (Sub.refl _)
 |none=>
  refine jnZ r7 0 hn8<|zD 11<|aF q0 (.string a) [] [] [] (Sub.refl _) ⟨_,_,rfl,rfl,by rw[hI.2,aeU hn8],rfl⟩
theorem alH{ro:Nat→Option Obj}(hl:bE ro vl 2 iP rs)(hR:∀r∈rs,rI r)(hq:rs.length≤4)(DM:rJ na)(AS:rJ nb):eG zT 184 [vl,.string na,.string nb] ro [] (fun r Y=>∃v ps e,r= .tuple ⟨[v,zI e]⟩∧az v 1 9 pY ps Y∧ps.length≤3∧((e=0∧uq rs (keyOf na) (keyOf nb)=some (ps.length-1)∧1≤ps.length)∨(e=11∧uq rs (keyOf na) (keyOf nb)=none))):=by
 obtain⟨fI,rV,rS,eZ,rfl,tR,lQ,mO⟩:=hl
 refine bD au [] [] ba<|zD 9<|jp (vs:=[.slice fI rs.length eZ]) [] [] (fun aC hs hZ=>ZZ ((show bE _ _ _ _ _ from ⟨fI,rV,rS,eZ,rfl,tR,lQ,mO⟩).up hs) (by omega) hR)<|zD 14<|jn fun Ie=>jp (vs:=[.slice (some ⟨Ie,0,none⟩) 2 2]) [0] [(Ie,.cells ⟨([na,nb].map pY).flatten⟩ 9 (0,0))] (fun aC hs hZ=>aep (bR [na,nb] hZ.head (by intro p hp;rfl)) (by first|omega| (simp only[List.length_set,List.length_append,List.length_cons,List.length_nil];omega)) (by intro x hx;simp only[List.mem_cons,List.not_mem_nil,or_false] at hx;rcases hx with rfl|rfl;exact⟨DM.n,DM.s⟩;exact⟨AS.n,AS.s⟩)) ?_
 refine zD 12<|jp (vs:=[.string na]) [] [] (fun aC hs hZ=>(nOf DM))<|zD 2<|jp (vs:=[.string nb]) [] [] (fun aC hs hZ=>(nOf AS))<|jc (vs:=[.string (keyOf na),.slice fI rs.length eZ,.string (keyOf nb)]) [] (asT (show bE _ _ _ _ _ from ⟨fI,rV,rS,eZ,rfl,tR,lQ,mO⟩) hR (Qp DM).1 (by have:=(Qp DM).2;omega) (by omega)) ?_
 rintro _ L30 ⟨v30,aPl,aPv,rfl,wx,atJ,aQn⟩
 refine zD 12<|js 34 (!aPv) (fun h1=>?_) (fun h1=>?_)
 ·
  try simp only[zB] at h1
  refine zD 7<|aF q0 (.tuple ⟨[zS,zI 11]⟩) [] [] [] (Sub.refl _) ⟨_,_,rfl,rfl,_,[],_,rfl,az.nil _ _ _,by simp,.inr ⟨rfl,aQn (by simp_all)⟩⟩
 try simp only[zB] at h1
 refine zD 9<|aF q0 (.tuple ⟨[v30,zI 0]⟩) [] [0] L30 (Sub.refl _) ⟨_,_,rfl,rfl,_,aPl,_,rfl,wx,by have:=aoB (atJ (by simp_all)).1;have:=(atJ (by simp_all)).2;omega,.inl ⟨rfl,atJ (by simp_all)⟩⟩
theorem aBo{ro:Nat→Option Obj}(hl:bE ro vl 2 iP rs)(hR:∀r∈rs,rI r)(hq:rs.length≤4)(DM:rJ na)(AS:rJ nb):dt zT 155 [vl,.string na,.string nb] ro (.tuple ⟨[zI (uN rs (keyOf na) (keyOf nb)),zI (uE rs (keyOf na) (keyOf nb))]⟩):=by
 obtain⟨fI,rV,rS,eZ,rfl,tR,lQ,mO⟩:=hl
 refine bD au [] [] ba<|zD 10<|jc (vs:=[.slice fI rs.length eZ,.string na,.string nb]) [] (alH (show bE _ _ _ _ _ from ⟨fI,rV,rS,eZ,rfl,tR,lQ,mO⟩) hR hq DM AS) ?_
 rintro _ L14 ⟨v14,aAZ,NO,rfl,Us,bfd,u7⟩
 refine zD 12<|js 18 (!decide (NO=0)) (fun h1=>?_) (fun h1=>?_)
 ·
  replace h1:=of_decide_eq_false (by simpa using h1)
  refine zD 8<|aF q0 (.tuple ⟨[zI 0,zI NO]⟩) [] [] [] (Sub.refl _) ⟨_,_,rfl,rfl,by rcases u7 with ⟨h1,h2,h3⟩| ⟨h1,h2⟩<;>simp only[uN,uE,h2]<;>(subst h1;simp_all<;>omega),rfl⟩
 replace h1:=of_decide_eq_true (by simpa using h1)
 refine zD 5<|Co Us<|ja ((aAZ.length:Int)-1) (by omega)<|zD 4<|aF q0 (.tuple ⟨[zI ((aAZ.length:Int)-1),zI 0]⟩) [] [] [] (Sub.refl _) ⟨_,_,rfl,rfl,by rcases u7 with ⟨h1,h2,h3⟩| ⟨h1,h2⟩<;>simp only[uN,uE,h2]<;>(subst h1;simp_all<;>omega),rfl⟩
theorem P8{ro:Nat→Option Obj}(hl:bE ro vl 2 iP rs)(hR:∀r∈rs,rI r)(hq:rs.length≤4)(DM:rJ na)(AS:rJ nb):dt zT 120 [vl,.string na,.string nb] ro (.tuple ⟨[zI (Fz rs na nb),zI 0]⟩):=by
 obtain⟨fI,rV,rS,eZ,rfl,tR,lQ,mO⟩:=hl
 refine bD au [] [] ba<|zD 10<|jp (vs:=[.slice fI rs.length eZ,.string na,.string nb]) [] [] (fun aC hs hZ=>aBo ((show bE _ _ _ _ _ from ⟨fI,rV,rS,eZ,rfl,tR,lQ,mO⟩).up hs) hR hq DM AS)<|zD 14<|zJ 17 ((uE rs (keyOf na) (keyOf nb))=11) (fun h1=>?_) fun h1=>?_
 ·
  refine zD 7<|aF q0 (.tuple ⟨[zI 2,zI 0]⟩) [] [] [] (Sub.refl _) ⟨_,_,rfl,rfl,by simp only[uN,uE,Fz] at*;rcases huq:uq rs (keyOf na) (keyOf nb) with _|_|n<;>simp_all<;>omega,rfl⟩
 refine zD 7<|js 20 (!decide ((uE rs (keyOf na) (keyOf nb))=0)) (fun h2=>?_) (fun h2=>?_)
 ·
  replace h2:=of_decide_eq_false (by simpa using h2)
  refine zD 8<|aF q0 (.tuple ⟨[zI 0,zI (uE rs (keyOf na) (keyOf nb))]⟩) [] [] [] (Sub.refl _) ⟨_,_,rfl,rfl,by simp only[uN,uE,Fz] at*;rcases huq:uq rs (keyOf na) (keyOf nb) with _|_|n<;>simp_all<;>omega,rfl⟩
 replace h2:=of_decide_eq_true (by simpa using h2)
 refine zD 7<|zJ 24 ((uN rs (keyOf na) (keyOf nb))=0) (fun h3=>?_) fun h3=>?_
 ·
  refine zD 7<|aF q0 (.tuple ⟨[zI 1,zI 0]⟩) [] [] [] (Sub.refl _) ⟨_,_,rfl,rfl,by simp only[uN,uE,Fz] at*;rcases huq:uq rs (keyOf na) (keyOf nb) with _|_|n<;>simp_all<;>omega,rfl⟩
 refine zD 8<|aF q0 (.tuple ⟨[zI 3,zI 0]⟩) [] [] [] (Sub.refl _) ⟨_,_,rfl,rfl,by simp only[uN,uE,Fz] at*;rcases huq:uq rs (keyOf na) (keyOf nb) with _|_|n<;>simp_all<;>omega,rfl⟩
abbrev SG(x:Int):List Value:=[.int .u8 x]
structure bF where
 c:Nat→Nat→Bool
abbrev CX(x:bF):List Value:=[.bool (x.c 0 0),.bool (x.c 0 1),.bool (x.c 0 2),.bool (x.c 0 3),.bool (x.c 1 0),.bool (x.c 1 1),.bool (x.c 1 2),.bool (x.c 1 3),.bool (x.c 2 0),.bool (x.c 2 1),.bool (x.c 2 2),.bool (x.c 2 3),.bool (x.c 3 0),.bool (x.c 3 1),.bool (x.c 3 2),.bool (x.c 3 3)]
def m9(cs:List bO):Nat→List Int
 |0=>[]
 |k+1=>m9 cs k++[match cs[k]? with
  |some c=>if 0≤c.under then KT .u8 (KT .u8 0 (dD .u8 1 k)) ((m9 cs k)[c.under.toNat]?.getD 0) else KT .u8 0 (dD .u8 1 k)
  |none=>0]
theorem oR(cs:List bO):∀k,(m9 cs k).length=k
 |0=>rfl
 |k+1=>by simp[m9,oR cs k]
theorem anS{c:bO}{y:Int}(h:cs[k]?=some c) (hu:0≤c.under) (hy:(m9 cs k)[c.under.toNat]?=some y):m9 cs (k+1)=m9 cs k++[KT .u8 (KT .u8 0 (dD .u8 1 k)) y]:=by
 simp only[m9,h,if_pos hu,hy,Option.getD_some]
theorem anT{c:bO}(h:cs[k]?=some c) (hu:¬0≤c.under):m9 cs (k+1)=m9 cs k++[KT .u8 0 (dD .u8 1 k)]:=by
 simp only[m9,h,if_neg hu]
def aeG(s:Int):Nat→Int
 |0=> -1
 |k+1=>bif hasB s k then k else aeG s k
def GI(cs:List bO)(a b:Int):Int:=aeG (T9 .u8 ((m9 cs cs.length)[a.toNat]?.getD 0) ((m9 cs cs.length)[b.toNat]?.getD 0)) cs.length
def Yt(hd:List cv)(h:Int):Int:=match hd[h.toNat]? with
 |some x=>x.cls
 |none=>0
def zo(K:aI)(x y:ay):Bool:=decide (Fz K.rules x.name y.name=2)
def uB(K:aI)(x y:ay):Bool:=if (x.head <0∨y.head <0)∨x.head=y.head then false else decide (GI K.cs (Yt K.hd x.head) (Yt K.hd y.head) <0)
def BP(on:Int)(a b:Int):List cU→Nat→Bool
 | [],_=>false
 |x::l,k=>(((hasB on k&&decide (x.a=a))&&decide (x.b=b))&& !x.same)||BP on a b l (k+1)
def dk(K:aI)(on:Int)(a b:Nat):Bool:=match K.before[a]?,K.after[b]? with
 |some x,some y=> !zo K x y&&(!uB K x y&& !BP on a b K.facts 0)
 |_,_=>false
structure fe(K:aI):Prop where
 rules:K.rules.length≤4∧∀r∈K.rules,rI r
 before:K.before.length≤4∧∀p∈K.before,rJ p.name∧n7 K.hd p.head
 after:K.after.length≤4∧∀p∈K.after,rJ p.name∧n7 K.hd p.head
 dr:lN K.cs K.hd
 facts:K.facts.length≤4∧∀x∈K.facts,(0≤x.a∧x.a <K.before.length)∧(0≤x.b∧x.b <K.after.length)
def pq(ro:Nat→Option Obj)(f:Nat)(K:aI)(rows:List bF):Prop:=∃(c0 c1 c2 vc vh vr vb va vf vt:Value) (hv:List bw),
 ro f=some (.cells ⟨[c0,c1,c2,vc,vh,vr,vb,va,zI K.gone,zI K.new,zI K.af,vf,vt]⟩ 128 (0,0))∧jC ro vc vh K.cs hv K.hd∧dg dq hv K.hd∧
 bE ro vr 2 iP K.rules∧bE ro vb 5 dL K.before∧bE ro va 5 dL K.after∧bE ro vf 3 pX K.facts∧bE ro vt 16 CX rows
theorem pq.up{ro aG:Nat→Option Obj}{rows:List bF}(h:pq ro f K rows)(hs:Sub ro aG):pq aG f K rows:=by
 obtain⟨c0,c1,c2,vc,vh,vr,vb,va,vf,vt,hv,h1,h2,h3,h4,h5,h6,h7,h8⟩:=h
 exact⟨c0,c1,c2,vc,vh,vr,vb,va,vf,vt,hv,hs _ _ h1,h2.up hs,h3,h4.up hs,h5.up hs,h6.up hs,h7.up hs,h8.up hs⟩
theorem aNX{f i:Int}{ro:Nat→Option Obj}(hi:0≤i∧i≤8):dt zT 334 [.int .u8 f,zI i] ro (.bool (hasB f i)):=by
 refine bD au [] [] ba<|zD 8<|jsr (k:= .u8) (k':= .i64) (a:=f) (b:=i) 422 (by omega)<|zD 5<|aF q0 (.bool (decide ((T9 .u8 (aS .u8 f i) 1)=1))) [] [] [] (Sub.refl _) ⟨_,_,rfl,rfl,rfl,rfl⟩
theorem azE{f i:Int}{ro:Nat→Option Obj}(hi:0≤i∧i≤8):dt zT 335 [.int .u8 f,zI i] ro (.int .u8 (KT .u8 f (dD .u8 1 i))):=by
 refine bD au [] [] ba<|zD 8<|jsh (k:= .u8) (k':= .i64) (a:=1) (b:=i) 422 (by omega)<|zD 4<|aF q0 (.int .u8 (KT .u8 f (dD .u8 1 i))) [] [] [] (Sub.refl _) ⟨_,_,rfl,rfl,rfl,rfl⟩
theorem arL{hv:List bw}{ro:Nat→Option Obj}(hR:jC ro vc vh cs hv hd)(nC:dg dq hv hd)(hT:lN cs hd):eG zT 333 [.agg ⟨[vc,vh]⟩] ro [] (fun r Y=>∃b vS LS vE,r= .tuple ⟨[zP b,zI 0]⟩∧az vS 1 422 SG (m9 cs cs.length) LS∧Y=(b,.cells ⟨[vc,vh,vS,vE]⟩ 426 (0,0))::LS):=by
 obtain⟨hc,hh,de⟩:=id hR
 obtain⟨eI,Ax,Aw,eB,rfl,Dy,yJ,yI⟩:=hc
 obtain⟨dO,u3,u2,dv,rfl,xg,qV,qU⟩:=hh
 have DL:=hT.nc
 have hnh:=hT.nh
 have hlen:=nC.len
 refine bD au [] [] ba<|zD 2<|jn fun b1=>jd 7 [0]<|jp (vs:=[.agg ⟨[.slice eI cs.length eB,.slice dO hv.length dv]⟩]) [] [] (fun aC hs hZ=>(Wi (hR.up hs) nC hT))<|jd 13 [0]<|jn fun fG=>jd 11 [1]<|oH<|dW [1,1,1,0,1,0,0] [] (fun(zz:Nat×Value×Cells)=>[(1,zP b1),(2,.pointer none),(3,zI 0),(5,zP fG),(20,.slice eI cs.length eB),(21,zI (cs.length:Int)),(22,zI (zz.1:Int))]) (fun(zz:Nat×Value×Cells)=>[.l zz.2.2,.b fG (.cells ⟨[.slice eI cs.length eB,.slice dO hv.length dv,zz.2.1,zS]⟩ 426 (0,0)),.b b1 (.cells ⟨[.slice eI cs.length eB,.slice dO hv.length dv]⟩ 35 (0,0))]) (fun(zz:Nat×Value×Cells)=>zz.1≤cs.length∧az zz.2.1 1 422 SG (m9 cs zz.1) zz.2.2) (fun(zz:Nat×Value×Cells)=>cs.length-zz.1) (⟨0,zS,[]⟩) ⟨by dsimp only;omega,az.nil _ _ _⟩ [0,1,2] ?_
 rintro⟨k,vS,LS⟩ hI K1 bK rest
 dsimp only at hI
 refine zD 5<|zJ 23 ((k:Int) <(cs.length:Int)) (fun h1=>?_) fun h1=>?_
 ·
  refine zD 7 ?_
  obtain⟨yq,lH⟩:=zG cs k
  refine iA eB 2 yJ lH<|jl 0 (yI _ _ lH)<|jn fun b7=>jd 4 [0] ?_
  have iV:=hT.cls _ _ lH
  have KV:=oR cs k
  refine zD 2<|jp (vs:=[.int .u8 0,zI (k:Int)]) [] [] (fun aC hs hZ=>(azE (by omega)))<|jd 9 [0]<|zJ 31 (yq.under≥0) (fun h2=>?_) fun h2=>?_
  ·
   refine jd 9 [2,0] ?_
   obtain⟨EZ,xQ⟩:=zG ((m9 cs k)) (yq.under.toNat) (by first|omega| (simp only[List.length_set,List.length_append,List.length_cons,List.length_nil];omega))
   refine pP yq.under 1 hI.2 xQ (Int.toNat_of_nonneg (show 0≤yq.under∧yq.under <(((m9 cs k)).length:Int) from (by have:=iV.2;simp only[oR];omega)).1).symm (fun b39 aTv=>?_)
   refine nS 0 [1] LS (fun s _ hZ=>cm hI.2 aTv hZ xQ)<|jd 10 [2]<|jn fun b48=>jq (sz:=1) (ps:=(m9 cs k)) (qs:=[(KT .u8 (KT .u8 0 (dD .u8 1 (k:Int))) EZ)]) (enc:=SG) (w:= .slice (some ⟨b48,0,none⟩) 1 1) [2] [0] [(b48,.cells ⟨([(KT .u8 (KT .u8 0 (dD .u8 1 (k:Int))) EZ)].map SG).flatten⟩ 422 (0,0))] (hI.2) (fun s _ hZ=>bX [(KT .u8 (KT .u8 0 (dD .u8 1 (k:Int))) EZ)] (hZ _ (.head _)) (by intro p hp;rfl)) (fun p _=>aj rfl) (by simp only[oR,List.length_cons,List.length_nil];omega) (fun v49 L49 qy=>?_)
   obtain⟨Mb,LZ,Hf⟩:=qy.form
   subst Hf
   refine jd 5 [3]<|ja ((k:Int)+1) (by omega)<|zD 2<|bJ bK (⟨k+1,(.slice Mb (((m9 cs k)++[(KT .u8 (KT .u8 0 (dD .u8 1 (k:Int))) EZ)])).length LZ),L49⟩) ⟨by dsimp only;omega,by rw[anS lH (by omega) xQ];exact qy⟩ (by dsimp only;omega) [0,3,4] (Sub.refl _)
  refine jd 9 [2]<|jn fun b48=>jq (sz:=1) (ps:=(m9 cs k)) (qs:=[(KT .u8 0 (dD .u8 1 (k:Int)))]) (enc:=SG) (w:= .slice (some ⟨b48,0,none⟩) 1 1) [2] [0] [(b48,.cells ⟨([(KT .u8 0 (dD .u8 1 (k:Int)))].map SG).flatten⟩ 422 (0,0))] (hI.2) (fun s _ hZ=>bX [(KT .u8 0 (dD .u8 1 (k:Int)))] (hZ _ (.head _)) (by intro p hp;rfl)) (fun p _=>aj rfl) (by simp only[oR,List.length_cons,List.length_nil];omega) (fun v49 L49 qy=>?_)
  obtain⟨Mb,LZ,Hf⟩:=qy.form
  subst Hf
  refine jd 5 [3]<|ja ((k:Int)+1) (by omega)<|zD 2<|bJ bK (⟨k+1,(.slice Mb (((m9 cs k)++[(KT .u8 0 (dD .u8 1 (k:Int)))])).length LZ),L49⟩) ⟨by dsimp only;omega,by rw[anT lH (by omega)];exact qy⟩ (by dsimp only;omega) [0,3,4] (Sub.refl _)
 refine jd 11 [2]<|oH<|dW [1,1,1,1,0,1,0,0] [] (fun(zz:Nat×Value×Cells×(List Value))=>[(2,.pointer none),(3,zI 0),(5,zP fG),(54,.slice dO hv.length dv),(55,zI (hv.length:Int)),(56,zI (zz.1:Int))]) (fun(zz:Nat×Value×Cells×(List Value))=>[.l zz.2.2.1,.b fG (.cells ⟨[.slice eI cs.length eB,.slice dO hv.length dv,vS,zz.2.1]⟩ 426 (0,0)),.l LS,.b b1 (.cells ⟨[.slice eI cs.length eB,.slice dO hv.length dv]⟩ 35 (0,0))]) (fun(zz:Nat×Value×Cells×(List Value))=>(zz.1≤hv.length∧zz.2.2.2.length≤zz.1)∧az zz.2.1 1 436 gh zz.2.2.2 zz.2.2.1) (fun(zz:Nat×Value×Cells×(List Value))=>hv.length-zz.1) (⟨0,zS,[],[]⟩) ⟨⟨by omega,Nat.le_refl _⟩,az.nil _ _ _⟩ [0,2,1,3] ?_
 rintro⟨j,vE,LE,es⟩ hJ K2 mr rest
 dsimp only at hJ
 refine zD 5<|zJ 57 ((j:Int) <(hv.length:Int)) (fun h3=>?_) fun h3=>?_
 ·
  refine zD 6 ?_
  obtain⟨Fx,amy⟩:=zG hv j
  refine iA dv 4 qV amy<|jl 0 (qU _ _ amy)<|jn fun mb=>jsx 0 mb 0 [.string ByteArray.empty,zI 0,zI 0,zS] [.string Fx.word,zI Fx.cls,zI Fx.oA,Fx.ep] 143 (mV de _ (List.mem_of_getElem? amy)) rfl<|zD 3 ?_
  obtain⟨y58,bel,aRe⟩:=de.get amy
  obtain⟨fI,rV,rS,eZ,hqe,tR,lQ,mO⟩:=aRe.2.2.2
  refine jmw 0 [.b mb (.cells ⟨[.string Fx.word,zI Fx.cls,zI Fx.oA,.slice fI y58.ep.length eZ]⟩ 143 (0,0))] (L:=[(mb,.cells ⟨[.string Fx.word,zI Fx.cls,zI Fx.oA,Fx.ep]⟩ 143 (0,0))]) (by rw[hqe];rfl) ?_
  refine jd 6 [0]<|js 73 (!decide (Fx.oA=(-1))) (fun h4=>?_) (fun h4=>?_)
  ·
   replace h4:=of_decide_eq_false (by simpa using h4)
   refine jd 11 [2,0]<|aL 9 fun sB sJ q5=>jn fun b86=>bB q5 [1,2,3,4,5]<|aL 10 fun sA sI qZ=>jq (sz:=1) (ps:=es) (qs:=[(.iface 429 (.agg ⟨[zI Fx.oA]⟩):Value)]) (enc:=gh) (w:= .slice (some ⟨b86,0,none⟩) 1 1) [2] [0] [(b86,.cells ⟨([(.iface 429 (.agg ⟨[zI Fx.oA]⟩):Value)].map gh).flatten⟩ 436 (0,0))] (hJ.2) (fun s _ hZ=>bX [(.iface 429 (.agg ⟨[zI Fx.oA]⟩):Value)] (hZ _ (.head _)) (by intro p hp;rfl)) (by intro p hp;rw[List.mem_singleton] at hp;subst hp;exact aj rfl) (by simp only[List.length_cons,List.length_nil];omega) (fun v87 L87 afP=>?_)
   obtain⟨aMi,aLX,aSD⟩:=afP.form
   subst aSD
   refine iu qZ [[2]]<|zD 2<|aL 13 fun BG BM CC=>jd 1 [3]<|iu CC []<|zD 2<|ja ((j:Int)+1) (by omega)<|zD 2<|bJ mr (⟨j+1,(.slice aMi ((es++[(.iface 429 (.agg ⟨[zI Fx.oA]⟩):Value)])).length aLX),L87,(es++[(.iface 429 (.agg ⟨[zI Fx.oA]⟩):Value)])⟩) ⟨⟨by dsimp only;omega,by simp only[List.length_append,List.length_cons,List.length_nil];omega⟩,afP⟩ (by dsimp only;omega) [0,3,4,5] (Sub.refl _)
  replace h4:=of_decide_eq_true (by simpa using h4)
  refine jd 8 [0]<|js 90 (!decide (Fx.cls=(-1))) (fun h8=>?_) (fun h8=>?_)
  ·
   replace h8:=of_decide_eq_false (by simpa using h8)
   refine jd 13 [2,0,0]<|aL 11 fun abW acF hL6=>jn fun aH3=>bB hL6 [1,2,3,4,5]<|aL 12 fun abV acE Q9=>jq (sz:=1) (ps:=es) (qs:=[(.iface 431 (.agg ⟨[zI Fx.cls,.slice fI y58.ep.length eZ]⟩):Value)]) (enc:=gh) (w:= .slice (some ⟨aH3,0,none⟩) 1 1) [2] [0] [(aH3,.cells ⟨([(.iface 431 (.agg ⟨[zI Fx.cls,.slice fI y58.ep.length eZ]⟩):Value)].map gh).flatten⟩ 436 (0,0))] (hJ.2) (fun s _ hZ=>bX [(.iface 431 (.agg ⟨[zI Fx.cls,.slice fI y58.ep.length eZ]⟩):Value)] (hZ _ (.head _)) (by intro p hp;rfl)) (by intro p hp;rw[List.mem_singleton] at hp;subst hp;exact aj rfl) (by simp only[List.length_cons,List.length_nil];omega) (fun bcf aWK XK=>?_)
   obtain⟨ay3,ayW,aDL⟩:=XK.form
   subst aDL
   refine iu Q9 [[2],[2]]<|zD 2<|aL 15 fun YV Zd hL8=>jd 1 [3]<|iu hL8 []<|zD 2<|ja ((j:Int)+1) (by omega)<|zD 2<|bJ mr (⟨j+1,(.slice ay3 ((es++[(.iface 431 (.agg ⟨[zI Fx.cls,.slice fI y58.ep.length eZ]⟩):Value)])).length ayW),aWK,(es++[(.iface 431 (.agg ⟨[zI Fx.cls,.slice fI y58.ep.length eZ]⟩):Value)])⟩) ⟨⟨by dsimp only;omega,by simp only[List.length_append,List.length_cons,List.length_nil];omega⟩,XK⟩ (by dsimp only;omega) [0,3,4,5] (Sub.refl _)
  replace h8:=of_decide_eq_true (by simpa using h8)
  refine jd 11 [2,0]<|aL 9 fun YU Zc UQ=>jn fun b69=>bB UQ [1,2,3,4,5]<|aL 10 fun Ft FL wy=>jq (sz:=1) (ps:=es) (qs:=[(.iface 433 (.agg ⟨[.slice fI y58.ep.length eZ]⟩):Value)]) (enc:=gh) (w:= .slice (some ⟨b69,0,none⟩) 1 1) [2] [0] [(b69,.cells ⟨([(.iface 433 (.agg ⟨[.slice fI y58.ep.length eZ]⟩):Value)].map gh).flatten⟩ 436 (0,0))] (hJ.2) (fun s _ hZ=>bX [(.iface 433 (.agg ⟨[.slice fI y58.ep.length eZ]⟩):Value)] (hZ _ (.head _)) (by intro p hp;rfl)) (by intro p hp;rw[List.mem_singleton] at hp;subst hp;exact aj rfl) (by simp only[List.length_cons,List.length_nil];omega) (fun v70 L70 afR=>?_)
  obtain⟨aMl,aL0,aSG⟩:=afR.form
  subst aSG
  refine iu wy [[2]]<|zD 2<|aL 13 fun JF JL CG=>jd 1 [3]<|iu CG []<|zD 2<|ja ((j:Int)+1) (by omega)<|zD 2<|bJ mr (⟨j+1,(.slice aMl ((es++[(.iface 433 (.agg ⟨[.slice fI y58.ep.length eZ]⟩):Value)])).length aL0),L70,(es++[(.iface 433 (.agg ⟨[.slice fI y58.ep.length eZ]⟩):Value)])⟩) ⟨⟨by dsimp only;omega,by simp only[List.length_append,List.length_cons,List.length_nil];omega⟩,afR⟩ (by dsimp only;omega) [0,3,4,5] (Sub.refl _)
 refine zD 9<|aF q0 (.tuple ⟨[zP fG,zI 0]⟩) [] [1,2] ((fG,.cells ⟨[.slice eI cs.length eB,.slice dO hv.length dv,vS,vE]⟩ 426 (0,0))::LS) (Sub.refl _) ⟨_,_,rfl,rfl,_,_,LS,_,rfl,by have:=hI.2;rwa[show k=cs.length by omega] at this,rfl⟩
theorem Xc{s:Int}{j:Int}(h:0≤j):aeG s (j+1).toNat=bif hasB s j then j else aeG s j.toNat:=by
 obtain⟨m,rfl⟩:=Int.eq_ofNat_of_zero_le h
 rfl
theorem Ws{on a b:Int}{x:cU}(h:l[k]?=some x):BP on a b (l.drop k) k=((((hasB on k&&decide (x.a=a))&&decide (x.b=b))&& !x.same)||BP on a b (l.drop (k+1)) (k+1)):=by rw[fF h];rfl
theorem ac7{on a b:Int}(h:¬k <l.length):BP on a b (l.drop k) k=false:=by rw[eL h];rfl
theorem XY{hv:List bw}{h:Int}{x:bw}(hS:dg dq hv hd)(hT:lN cs hd)(hk:n7 hd h)(h0:0≤h)(hx:hv[h.toNat]?=some x):Yt hd h=x.cls∧0≤x.cls∧x.cls <cs.length:=by
 obtain⟨y,hy,hs⟩:=hS.get hx
 rcases hk with rfl| ⟨_,z,hz,hc⟩
 ·omega
 rw[hy] at hz;cases hz
 have:=(hT.AV _ _ hy).2.1
 exact⟨by simp[Yt,hy,hs.2.1],hs.2.1▸hc,by rw[hs.2.1];exact this.2⟩
theorem XX{hv:List bw}{h:Int}(hS:dg dq hv hd)(hk:n7 hd h)(h0:0≤h):h <hv.length:=by
 rcases hk with rfl| ⟨_,z,hz,_⟩
 ·omega
 have:=(List.getElem?_eq_some_iff.1 hz).1
 rw[hS.len];omega
theorem arC{hv:List bw}{a b:Int}{ro:Nat→Option Obj}(hR:jC ro vc vh cs hv hd)(nC:dg dq hv hd)(hT:lN cs hd)(ha:0≤a∧a <cs.length)(hb:0≤b∧b <cs.length):dt zT 332 [.agg ⟨[vc,vh]⟩,zI a,zI b] ro (.tuple ⟨[zI (GI cs a b),zI 0]⟩):=by
 obtain⟨hc,hh,de⟩:=id hR
 obtain⟨eI,Ax,Aw,eB,rfl,Dy,yJ,yI⟩:=hc
 obtain⟨dO,u3,u2,dv,rfl,xg,qV,qU⟩:=hh
 have DL:=hT.nc
 have hnh:=hT.nh
 have hlen:=nC.len
 have KV:=oR cs cs.length
 refine bD au [] [] ba<|zD 2<|jn fun b3=>jd 6 [0]<|jc (vs:=[.agg ⟨[.slice eI cs.length eB,.slice dO hv.length dv]⟩]) [] (arL hR nC hT) ?_
 rintro _ _ ⟨bT,vS,LS,vE,rfl,hS,rfl⟩
 refine jg 0 [.b bT (.cells ⟨[.slice eI cs.length eB,.slice dO hv.length dv,vS,vE]⟩ 426 (0,0)),.l LS]<|zD 5<|jf [0,1] ((bT,.cells ⟨[.slice eI cs.length eB,.slice dO hv.length dv,vS,vE]⟩ 426 (0,0))::LS) (fun yH bY iU=>?_)
 have hSS:=hS.kZ iU.tail
 obtain⟨aAB,bc0,bcY,alb,rfl,bcZ,aAA,aAz⟩:=hSS
 refine jd 17 [0]<|ja ((cs.length:Int)-1) (by omega)<|jp (vs:=[zI a,zI 0,zI ((cs.length:Int)-1)]) [] [] (fun aC hs hZ=>jB)<|zD 3<|js 20 (!(iz a 0 ((cs.length:Int)-1))) (fun h4=>?_) (fun h4=>?_)
 ·
  try simp only[zB] at h4
  exfalso;simp only[iz,Bool.not_eq_true',Bool.and_eq_false_iff,decide_eq_false_iff_not] at h4;omega
 try simp only[zB] at h4
 refine jd 6 [0]<|ja ((cs.length:Int)-1) (by omega)<|jp (vs:=[zI b,zI 0,zI ((cs.length:Int)-1)]) [] [] (fun aC hs hZ=>jB)<|zD 3<|js 20 (!(iz b 0 ((cs.length:Int)-1))) (fun h5=>?_) (fun h5=>?_)
 ·
  try simp only[zB] at h5
  exfalso;simp only[iz,Bool.not_eq_true',Bool.and_eq_false_iff,decide_eq_false_iff_not] at h5;omega
 try simp only[zB] at h5
 refine jd 8 [0]<|ja ((cs.length:Int)-1) (by omega)<|zD 3<|dW [1,1,1,0,1,0,0] [] (fun(zz:Int)=>[(1,zI a),(2,zI b),(8,zP bT),(10,zI zz)]) (fun(zz:Int)=>[.b b3 (.cells ⟨[.slice eI cs.length eB,.slice dO hv.length dv]⟩ 35 (0,0))]) (fun(zz:Int)=>(-1≤zz∧zz <cs.length)∧GI cs a b=aeG (T9 .u8 ((m9 cs cs.length)[a.toNat]?.getD 0) ((m9 cs cs.length)[b.toNat]?.getD 0)) (zz+1).toNat) (fun(zz:Int)=>(zz+1).toNat) ((cs.length:Int)-1) ⟨by omega,by rw[GI,show ((cs.length:Int)-1+1).toNat=cs.length by omega]⟩ [0] ?_
 rintro j hI K1 bK rest
 refine zD 6<|zJ 40 (j≥0) (fun h6=>?_) fun h6=>?_
 ·
  refine zD 9<|jl (b:=bT) (off:=0) (m:=4) (vs:=[.slice eI cs.length eB,.slice dO hv.length dv,.slice aAB ((m9 cs cs.length).length) alb,vE]) 2 ⟨_,_,_,.inl (iU _ (.head _)),rfl⟩<|zD 1 ?_
  obtain⟨x48,GR⟩:=zG ((m9 cs cs.length)) (a.toNat) (by simp only[oR];omega)
  refine Oq a alb 1 aAA GR (Int.toNat_of_nonneg (show 0≤a∧a <(((m9 cs cs.length)).length:Int) from (by simp only[oR];omega)).1).symm ?_
  refine jl 0 (aAz _ _ GR)<|zD 3<|jl (b:=bT) (off:=0) (m:=4) (vs:=[.slice eI cs.length eB,.slice dO hv.length dv,.slice aAB ((m9 cs cs.length).length) alb,vE]) 2 ⟨_,_,_,.inl (iU _ (.head _)),rfl⟩<|zD 1 ?_
  obtain⟨x55,amz⟩:=zG ((m9 cs cs.length)) (b.toNat)
  refine Oq b alb 1 aAA amz (by omega)<|jl 0 (aAz _ _ amz)<|zD 2<|jp (vs:=[.int .u8 (T9 .u8 x48 x55),zI j]) [] [] (fun aC hs hZ=>(aNX (by omega)))<|zD 1<|js 59 (hasB (T9 .u8 x48 x55) j) (fun h7=>?_) (fun h7=>?_)
  ·
   refine zD 8<|aF q0.a (.tuple ⟨[zI j,zI 0]⟩) [] [] [] bY ⟨_,_,rfl,rfl,by rw[hI.2,Xc (by omega),GR,amz,Option.getD_some,Option.getD_some,show hasB _ _=true from (by assumption)];rfl,rfl⟩
  refine zD 4<|ja (j-1) (by omega)<|zD 2<|bJ bK (j-1) ⟨by omega,by rw[hI.2,Xc (by omega),GR,amz,Option.getD_some,Option.getD_some,show hasB _ _=false from (by assumption),show j-1+1=j by omega];rfl⟩ (by omega) [0] (Sub.refl _)
 refine zD 8<|aF q0.a (.tuple ⟨[zI (-1),zI 0]⟩) [] [] [] bY ⟨_,_,rfl,rfl,by rw[hI.2,show j= -1 by omega];rfl,rfl⟩
theorem aBK{ro:Nat→Option Obj}:dt zT 163 [] ro (.agg ⟨[.iface 292 (.agg ⟨[]⟩),.iface 293 (.agg ⟨[]⟩),.iface 294 (.agg ⟨[]⟩)]⟩):=by
 refine bD au [] [] ba<|zD 2<|jn fun b0=>jd 13 [0]<|aF q0 (.agg ⟨[.iface 292 (.agg ⟨[]⟩),.iface 293 (.agg ⟨[]⟩),.iface 294 (.agg ⟨[]⟩)]⟩) [0] [] [] (Sub.refl _) ⟨_,_,rfl,rfl,rfl,rfl⟩
theorem atc{rows:List bF}{a:Nat}{on:Int}{ro:Nat→Option Obj}(hF:pq ro f K rows)(hV:fe K)(ha:K.before[a]?=some x) (hb:K.after[b]?=some y):dt zT 328 [.agg ⟨[]⟩,zP f,zI (a:Int),zI (b:Int),.int .u8 on] ro (.bool (zo K x y)):=by
 obtain⟨c0,c1,c2,vc,vh,vr,vb,va,vf,vt,hv,hf,p9,nC,hr,Cy,Hk,Jo,bU⟩:=id hF
 obtain⟨hc,hh,de⟩:=id p9
 obtain⟨eI,Ax,Aw,eB,rfl,Dy,yJ,yI⟩:=hc
 obtain⟨dO,u3,u2,dv,rfl,xg,qV,qU⟩:=hh
 obtain⟨k8,Is,Ir,k7,rfl,Ol,F8,F7⟩:=hr
 obtain⟨kI,IZ,IX,jY,rfl,IY,Em,Ek⟩:=Cy
 obtain⟨kJ,I4,I2,jZ,rfl,I3,Eo,En⟩:=Hk
 obtain⟨mE,TA,Ty,lE,rfl,Tz,MB,MA⟩:=Jo
 obtain⟨nM,Ej,Ei,nt,rfl,Py,Mx,Mw⟩:=bU
 have Sv:=hV.rules.1
 have AS:=hV.before.1
 have DM:=hV.after.1
 have hnf:=hV.facts.1
 have Lc:=(List.getElem?_eq_some_iff.1 ha).1
 have Fh:=(List.getElem?_eq_some_iff.1 hb).1
 refine bD au [] [] ba<|zD 2<|jn fun b5=>zD 8<|jl (b:=f) (off:=0) (m:=13) (vs:=[c0,c1,c2,.slice eI K.cs.length eB,.slice dO hv.length dv,.slice k8 K.rules.length k7,.slice kI K.before.length jY,.slice kJ K.after.length jZ,zI K.gone,zI K.new,zI K.af,.slice mE K.facts.length lE,.slice nM rows.length nt]) 5 ⟨_,_,_,.inl hf,rfl⟩<|zD 4<|jl (b:=f) (off:=0) (m:=13) (vs:=[c0,c1,c2,.slice eI K.cs.length eB,.slice dO hv.length dv,.slice k8 K.rules.length k7,.slice kI K.before.length jY,.slice kJ K.after.length jZ,zI K.gone,zI K.new,zI K.af,.slice mE K.facts.length lE,.slice nM rows.length nt]) 6 ⟨_,_,_,.inl hf,rfl⟩<|zD 1 ?_
 obtain⟨yq,lH⟩:=zG K.before a
 refine iA jY 5 Em lH<|zD 1<|jl 0 (Ek _ _ lH)<|zD 4<|jl (b:=f) (off:=0) (m:=13) (vs:=[c0,c1,c2,.slice eI K.cs.length eB,.slice dO hv.length dv,.slice k8 K.rules.length k7,.slice kI K.before.length jY,.slice kJ K.after.length jZ,zI K.gone,zI K.new,zI K.af,.slice mE K.facts.length lE,.slice nM rows.length nt]) 7 ⟨_,_,_,.inl hf,rfl⟩<|zD 1 ?_
 obtain⟨YY,Nf⟩:=zG K.after b
 refine iA jZ 5 Eo Nf<|zD 1<|jl 0 (En _ _ Nf)<|jp (vs:=[.slice k8 K.rules.length k7,.string yq.name,.string YY.name]) [] [] (fun aC hs hZ=>P8 ((show bE _ _ _ _ _ from ⟨k8,Is,Ir,k7,rfl,Ol,F8,F7⟩).up hs) hV.rules.2 Sv (hV.before.2 _ (List.mem_of_getElem? lH)).1 (hV.after.2 _ (List.mem_of_getElem? Nf)).1)<|zD 9<|jp (vs:=[zI 0]) [] [] (fun aC hs hZ=>AN)<|zD 8<|aF q0 (.bool (decide ((Fz K.rules yq.name YY.name)=2))) [] [] [] (Sub.refl _) ⟨_,_,rfl,rfl,by rw[ha] at lH;cases lH;rw[hb] at Nf;cases Nf;rfl,rfl⟩
theorem afg{rows:List bF}{a:Nat}{on:Int}{ro:Nat→Option Obj}(hF:pq ro f K rows)(hV:fe K)(ha:K.before[a]?=some x) (hb:K.after[b]?=some y):dt zT 330 [.agg ⟨[]⟩,zP f,zI (a:Int),zI (b:Int),.int .u8 on] ro (.bool (uB K x y)):=by
 obtain⟨c0,c1,c2,vc,vh,vr,vb,va,vf,vt,hv,hf,p9,nC,hr,Cy,Hk,Jo,bU⟩:=id hF
 obtain⟨hc,hh,de⟩:=id p9
 obtain⟨eI,Ax,Aw,eB,rfl,Dy,yJ,yI⟩:=hc
 obtain⟨dO,u3,u2,dv,rfl,xg,qV,qU⟩:=hh
 obtain⟨k8,Is,Ir,k7,rfl,Ol,F8,F7⟩:=hr
 obtain⟨kI,IZ,IX,jY,rfl,IY,Em,Ek⟩:=Cy
 obtain⟨kJ,I4,I2,jZ,rfl,I3,Eo,En⟩:=Hk
 obtain⟨mE,TA,Ty,lE,rfl,Tz,MB,MA⟩:=Jo
 obtain⟨nM,Ej,Ei,nt,rfl,Py,Mx,Mw⟩:=bU
 have Sv:=hV.rules.1
 have AS:=hV.before.1
 have DM:=hV.after.1
 have hnf:=hV.facts.1
 have Lc:=(List.getElem?_eq_some_iff.1 ha).1
 have Fh:=(List.getElem?_eq_some_iff.1 hb).1
 refine bD au [] [] ba<|zD 2<|jn fun b5=>zD 8<|jl (b:=f) (off:=0) (m:=13) (vs:=[c0,c1,c2,.slice eI K.cs.length eB,.slice dO hv.length dv,.slice k8 K.rules.length k7,.slice kI K.before.length jY,.slice kJ K.after.length jZ,zI K.gone,zI K.new,zI K.af,.slice mE K.facts.length lE,.slice nM rows.length nt]) 6 ⟨_,_,_,.inl hf,rfl⟩<|zD 1 ?_
 obtain⟨yt,qu⟩:=zG K.before a
 refine iA jY 5 Em qu<|zD 1<|jl 3 (Ek _ _ qu)<|zD 4<|jl (b:=f) (off:=0) (m:=13) (vs:=[c0,c1,c2,.slice eI K.cs.length eB,.slice dO hv.length dv,.slice k8 K.rules.length k7,.slice kI K.before.length jY,.slice kJ K.after.length jZ,zI K.gone,zI K.new,zI K.af,.slice mE K.facts.length lE,.slice nM rows.length nt]) 7 ⟨_,_,_,.inl hf,rfl⟩<|zD 1 ?_
 obtain⟨ox,ju⟩:=zG K.after b
 refine iA jZ 5 Eo ju<|zD 1<|jl 3 (En _ _ ju)<|zD 9<|jj 3 [(1,zP f),(10,.bool false),(11,zI yt.head),(12,zI ox.head),(38,.bool ((decide (yt.head <0))||(decide (ox.head <0))))] (fun gV=>?_) (fun hj=>?_)
 rotate_left
 refine js 35 (decide (yt.head <0)) (fun h1=>?_) (fun h1=>?_)
 ·
  have gv:=h1
  replace gv:=of_decide_eq_true gv
  refine zD 3<|jw 38 (.bool ((decide (yt.head <0))||(decide (ox.head <0)))) (w:= .bool true) (by rw[h1]<;>rfl) ?_
  exact hj _ (by kernel_rfl) (by kernel_rfl)
 ·
  have gv:=h1
  replace gv:=of_decide_eq_false gv
  refine zD 3<|jw 38 (.bool ((decide (yt.head <0))||(decide (ox.head <0)))) (w:= .bool (decide (ox.head <0))) (by rw[h1]<;>rfl) ?_
  exact hj _ (by kernel_rfl) (by kernel_rfl)
 refine zD 1<|jj 4 [(1,zP f),(10,.bool false),(11,zI yt.head),(12,zI ox.head),(43,.bool (((decide (yt.head <0))||(decide (ox.head <0)))||(decide (yt.head=ox.head))))] (fun gV=>?_) (fun hj=>?_)
 rotate_left
 refine js 39 ((decide (yt.head <0))||(decide (ox.head <0))) (fun h2=>?_) (fun h2=>?_)
 ·
  have mI:=h2
  try simp only[zB] at mI
  refine zD 4<|jw 43 (.bool (((decide (yt.head <0))||(decide (ox.head <0)))||(decide (yt.head=ox.head)))) (w:= .bool true) (by rw[h2]<;>rfl) ?_
  exact hj _ (by kernel_rfl) (by kernel_rfl)
 ·
  have mI:=h2
  try simp only[zB] at mI
  refine zD 4<|jw 43 (.bool (((decide (yt.head <0))||(decide (ox.head <0)))||(decide (yt.head=ox.head)))) (w:= .bool (decide (yt.head=ox.head))) (by rw[h2]<;>rfl) ?_
  exact hj _ (by kernel_rfl) (by kernel_rfl)
 refine zD 1<|js 43 (((decide (yt.head <0))||(decide (ox.head <0)))||(decide (yt.head=ox.head))) (fun h3=>?_) (fun h3=>?_)
 ·
  try simp only[zB] at h3
  refine zD 6<|aF q0 (.bool false) [] [] [] (Sub.refl _) ⟨_,_,rfl,rfl,by rw[ha] at qu;cases qu;rw[hb] at ju;cases ju;rw[uB,if_pos (by omega)],rfl⟩
 try simp only[zB] at h3
 refine zD 8<|jl (b:=f) (off:=0) (m:=13) (vs:=[c0,c1,c2,.slice eI K.cs.length eB,.slice dO hv.length dv,.slice k8 K.rules.length k7,.slice kI K.before.length jY,.slice kJ K.after.length jZ,zI K.gone,zI K.new,zI K.af,.slice mE K.facts.length lE,.slice nM rows.length nt]) 3 ⟨_,_,_,.inl hf,rfl⟩<|zD 5<|jl (b:=f) (off:=0) (m:=13) (vs:=[c0,c1,c2,.slice eI K.cs.length eB,.slice dO hv.length dv,.slice k8 K.rules.length k7,.slice kI K.before.length jY,.slice kJ K.after.length jZ,zI K.gone,zI K.new,zI K.af,.slice mE K.facts.length lE,.slice nM rows.length nt]) 4 ⟨_,_,_,.inl hf,rfl⟩<|zD 1 ?_
 obtain⟨x57,Ex⟩:=zG hv (yt.head.toNat) (by have:=XX nC (hV.before.2 _ (List.mem_of_getElem? qu)).2 (by omega);omega)
 refine Oq yt.head dv 4 qV Ex (Int.toNat_of_nonneg (show 0≤yt.head∧yt.head <((hv).length:Int) from (by have:=XX nC (hV.before.2 _ (List.mem_of_getElem? qu)).2 (by omega);omega)).1).symm ?_
 refine zD 1<|jl 1 (qU _ _ Ex)<|zD 5<|jl (b:=f) (off:=0) (m:=13) (vs:=[c0,c1,c2,.slice eI K.cs.length eB,.slice dO hv.length dv,.slice k8 K.rules.length k7,.slice kI K.before.length jY,.slice kJ K.after.length jZ,zI K.gone,zI K.new,zI K.af,.slice mE K.facts.length lE,.slice nM rows.length nt]) 4 ⟨_,_,_,.inl hf,rfl⟩<|zD 1 ?_
 obtain⟨x67,Qx⟩:=zG hv (ox.head.toNat) (by have:=XX nC (hV.after.2 _ (List.mem_of_getElem? ju)).2 (by omega);omega)
 refine Oq ox.head dv 4 qV Qx (Int.toNat_of_nonneg (show 0≤ox.head∧ox.head <((hv).length:Int) from (by have:=XX nC (hV.after.2 _ (List.mem_of_getElem? ju)).2 (by omega);omega)).1).symm ?_
 refine zD 1<|jl 1 (qU _ _ Qx)<|jp (vs:=[.agg ⟨[.slice eI K.cs.length eB,.slice dO hv.length dv]⟩,zI x57.cls,zI x67.cls]) [] [] (fun aC hs hZ=>arC (p9.up hs) nC hV.dr (XY nC hV.dr (hV.before.2 _ (List.mem_of_getElem? qu)).2 (by omega) Ex).2 (XY nC hV.dr (hV.after.2 _ (List.mem_of_getElem? ju)).2 (by omega) Qx).2)<|zD 9<|jp (vs:=[zI 0]) [] [] (fun aC hs hZ=>AN)<|zD 8<|aF q0 (.bool (decide ((GI K.cs x57.cls x67.cls) <0))) [] [] [] (Sub.refl _) ⟨_,_,rfl,rfl,by rw[ha] at qu;cases qu;rw[hb] at ju;cases ju;rw[uB,if_neg (by omega),(XY nC hV.dr (hV.before.2 _ (List.mem_of_getElem? ha)).2 (by omega) Ex).1,(XY nC hV.dr (hV.after.2 _ (List.mem_of_getElem? hb)).2 (by omega) Qx).1],rfl⟩
theorem al1{rows:List bF}{a:Nat}{on:Int}{ro:Nat→Option Obj}(hF:pq ro f K rows)(hV:fe K):dt zT 336 [.agg ⟨[]⟩,zP f,zI (a:Int),zI (b:Int),.int .u8 on] ro (.bool (BP on a b K.facts 0)):=by
 obtain⟨c0,c1,c2,vc,vh,vr,vb,va,vf,vt,hv,hf,p9,nC,hr,Cy,Hk,Jo,bU⟩:=id hF
 obtain⟨hc,hh,de⟩:=id p9
 obtain⟨eI,Ax,Aw,eB,rfl,Dy,yJ,yI⟩:=hc
 obtain⟨dO,u3,u2,dv,rfl,xg,qV,qU⟩:=hh
 obtain⟨k8,Is,Ir,k7,rfl,Ol,F8,F7⟩:=hr
 obtain⟨kI,IZ,IX,jY,rfl,IY,Em,Ek⟩:=Cy
 obtain⟨kJ,I4,I2,jZ,rfl,I3,Eo,En⟩:=Hk
 obtain⟨mE,TA,Ty,lE,rfl,Tz,MB,MA⟩:=Jo
 obtain⟨nM,Ej,Ei,nt,rfl,Py,Mx,Mw⟩:=bU
 have Sv:=hV.rules.1
 have AS:=hV.before.1
 have DM:=hV.after.1
 have hnf:=hV.facts.1
 refine bD au [] [] ba<|zD 2<|jn fun b5=>zD 9<|jl (b:=f) (off:=0) (m:=13) (vs:=[c0,c1,c2,.slice eI K.cs.length eB,.slice dO hv.length dv,.slice k8 K.rules.length k7,.slice kI K.before.length jY,.slice kJ K.after.length jZ,zI K.gone,zI K.new,zI K.af,.slice mE K.facts.length lE,.slice nM rows.length nt]) 11 ⟨_,_,_,.inl hf,rfl⟩<|zD 4<|dW [1,0,1,0,0] [] (fun(zz:Nat)=>[(2,zI (a:Int)),(3,zI (b:Int)),(4,.int .u8 on),(17,.slice mE K.facts.length lE),(18,zI (K.facts.length:Int)),(19,zI (zz:Int))]) (fun(zz:Nat)=>[]) (fun(zz:Nat)=>zz≤K.facts.length∧BP on a b K.facts 0=BP on a b (K.facts.drop zz) zz) (fun(zz:Nat)=>K.facts.length-zz) 0 ⟨by omega,rfl⟩ [] ?_
 rintro k hI K1 bK rest
 refine zD 5<|zJ 20 ((k:Int) <(K.facts.length:Int)) (fun h1=>?_) fun h1=>?_
 ·
  refine zD 7 ?_
  obtain⟨sq,uh⟩:=zG K.facts k
  refine iA lE 3 MB uh<|jl 0 (MA _ _ uh)<|jn fun jQ=>jd 7 [0]<|jp (vs:=[.int .u8 on,zI (k:Int)]) [] [] (fun aC hs hZ=>(aty (by omega)))<|zD 1<|jj 5 [(2,zI (a:Int)),(3,zI (b:Int)),(4,.int .u8 on),(12,zP jQ),(17,.slice mE K.facts.length lE),(18,zI (K.facts.length:Int)),(19,zI (k:Int)),(32,.bool ((hasB on (k:Int))&&(decide (sq.a=(a:Int)))))] (fun gV=>?_) (fun hj=>?_)
  rotate_left
  refine js 27 (hasB on (k:Int)) (fun h2=>?_) (fun h2=>?_)
  ·
   refine jd 5 [0]<|jw 32 (.bool ((hasB on (k:Int))&&(decide (sq.a=(a:Int))))) (w:= .bool (decide (sq.a=(a:Int)))) (by rw[h2]<;>rfl) ?_
   exact hj _ (by kernel_rfl) (by kernel_rfl)
  ·
   refine zD 5<|jw 32 (.bool ((hasB on (k:Int))&&(decide (sq.a=(a:Int))))) (w:= .bool false) (by rw[h2]<;>rfl) ?_
   exact hj _ (by kernel_rfl) (by kernel_rfl)
  refine zD 1<|jj 5 [(2,zI (a:Int)),(3,zI (b:Int)),(4,.int .u8 on),(12,zP jQ),(17,.slice mE K.facts.length lE),(18,zI (K.facts.length:Int)),(19,zI (k:Int)),(38,.bool (((hasB on (k:Int))&&(decide (sq.a=(a:Int))))&&(decide (sq.b=(b:Int)))))] (fun gV=>?_) (fun hj=>?_)
  rotate_left
  refine js 33 ((hasB on (k:Int))&&(decide (sq.a=(a:Int)))) (fun h3=>?_) (fun h3=>?_)
  ·
   have wz:=h3
   try simp only[zB] at wz
   refine jd 5 [0]<|jw 38 (.bool (((hasB on (k:Int))&&(decide (sq.a=(a:Int))))&&(decide (sq.b=(b:Int))))) (w:= .bool (decide (sq.b=(b:Int)))) (by rw[h3]<;>rfl) ?_
   exact hj _ (by kernel_rfl) (by kernel_rfl)
  ·
   have wz:=h3
   try simp only[zB] at wz
   refine zD 5<|jw 38 (.bool (((hasB on (k:Int))&&(decide (sq.a=(a:Int))))&&(decide (sq.b=(b:Int))))) (w:= .bool false) (by rw[h3]<;>rfl) ?_
   exact hj _ (by kernel_rfl) (by kernel_rfl)
  refine zD 1<|jj 4 [(2,zI (a:Int)),(3,zI (b:Int)),(4,.int .u8 on),(17,.slice mE K.facts.length lE),(18,zI (K.facts.length:Int)),(19,zI (k:Int)),(43,.bool ((((hasB on (k:Int))&&(decide (sq.a=(a:Int))))&&(decide (sq.b=(b:Int))))&&(!sq.same)))] (fun gV=>?_) (fun hj=>?_)
  rotate_left
  refine js 39 (((hasB on (k:Int))&&(decide (sq.a=(a:Int))))&&(decide (sq.b=(b:Int)))) (fun h4=>?_) (fun h4=>?_)
  ·
   have ye:=h4
   try simp only[zB] at ye
   refine jd 4 [0]<|jw 43 (.bool ((((hasB on (k:Int))&&(decide (sq.a=(a:Int))))&&(decide (sq.b=(b:Int))))&&(!sq.same))) (w:= .bool (!sq.same)) (by rw[h4]<;>rfl) ?_
   exact hj _ (by kernel_rfl) (by kernel_rfl)
  ·
   have ye:=h4
   try simp only[zB] at ye
   refine zD 4<|jw 43 (.bool ((((hasB on (k:Int))&&(decide (sq.a=(a:Int))))&&(decide (sq.b=(b:Int))))&&(!sq.same))) (w:= .bool false) (by rw[h4]<;>rfl) ?_
   exact hj _ (by kernel_rfl) (by kernel_rfl)
  refine zD 1<|js 43 ((((hasB on (k:Int))&&(decide (sq.a=(a:Int))))&&(decide (sq.b=(b:Int))))&&(!sq.same)) (fun h5=>?_) (fun h5=>?_)
  ·
   refine zD 6<|aF q0 (.bool true) [] [] [] (Sub.refl _) ⟨_,_,rfl,rfl,by rw[hI.2,Ws uh,show (((hasB on k&&decide (sq.a=a))&&decide (sq.b=b))&& !sq.same)=true from (by assumption)];rfl,rfl⟩
  refine zD 3<|ja ((k:Int)+1) (by omega)<|zD 2<|bJ bK (k+1) ⟨by omega,by rw[hI.2,Ws uh,show (((hasB on k&&decide (sq.a=a))&&decide (sq.b=b))&& !sq.same)=false from (by assumption)];rfl⟩ (by omega) [] (Sub.refl _)
 refine zD 7<|aF q0 (.bool false) [] [] [] (Sub.refl _) ⟨_,_,rfl,rfl,by rw[hI.2,ac7 (by omega)],rfl⟩
theorem aBM{rows:List bF}{a:Nat}{on:Int}{ro:Nat→Option Obj}(hF:pq ro f K rows)(hV:fe K)(ha:K.before[a]?=some x) (hb:K.after[b]?=some y):dt zT 126 [zP f,zI (a:Int),zI (b:Int),.int .u8 on] ro (.bool (dk K on a b)):=by
 refine bD au [] [] ba<|zD 7<|jp [] [] (fun aC hs hZ=>aBK)<|zD 3<|dW [1,0,1,0,0] [] (fun(zz:Nat)=>[(0,zP f),(1,zI (a:Int)),(2,zI (b:Int)),(3,.int .u8 on),(11,.agg ⟨[.iface 292 (.agg ⟨[]⟩),.iface 293 (.agg ⟨[]⟩),.iface 294 (.agg ⟨[]⟩)]⟩),(12,zI (zz:Int))]) (fun(zz:Nat)=>[]) (fun(zz:Nat)=>zz≤3∧(1≤zz→zo K x y=false)∧(2≤zz→uB K x y=false)∧(3≤zz→BP on a b K.facts 0=false)) (fun(zz:Nat)=>3-zz) 0 ⟨by omega,nofun,nofun,nofun⟩ [] ?_
 rintro k hI K1 bK rest
 refine zD 5<|zJ 13 ((k:Int) <3) (fun h1=>?_) fun h1=>?_
 ·
  refine zD 6 ?_
  obtain rfl|rfl|rfl:k=0∨k=1∨k=2:=by omega
  ·
   refine zD 10<|jpI (vs:=[.agg ⟨[]⟩,zP f,zI (a:Int),zI (b:Int),.int .u8 on]) (fun aC hs=>atc (hF.up hs) hV ha hb)<|zD 1<|js 20 (zo K x y) (fun h2=>?_) (fun h2=>?_)
   ·
    refine zD 6<|aF q0 (.bool false) [] [] [] (Sub.refl _) ⟨_,_,rfl,rfl,by simp only[dk,ha,hb];simp[*],rfl⟩
   refine zD 6<|bJ bK 1 ⟨by omega,(fun _=>by assumption),nofun,nofun⟩ (by omega) [] (Sub.refl _)
  ·
   refine zD 10<|jpI (vs:=[.agg ⟨[]⟩,zP f,zI (a:Int),zI (b:Int),.int .u8 on]) (fun aC hs=>afg (hF.up hs) hV ha hb)<|zD 1<|js 20 (uB K x y) (fun h3=>?_) (fun h3=>?_)
   ·
    refine zD 6<|aF q0 (.bool false) [] [] [] (Sub.refl _) ⟨_,_,rfl,rfl,by simp only[dk,ha,hb];simp[*],rfl⟩
   refine zD 6<|bJ bK 2 ⟨by omega,(fun _=>hI.2.1 (by omega)),(fun _=>by assumption),nofun⟩ (by omega) [] (Sub.refl _)
  refine zD 10<|jpI (vs:=[.agg ⟨[]⟩,zP f,zI (a:Int),zI (b:Int),.int .u8 on]) (fun aC hs=>al1 (hF.up hs) hV)<|zD 1<|js 20 (BP on a b K.facts 0) (fun h4=>?_) (fun h4=>?_)
  ·
   refine zD 6<|aF q0 (.bool false) [] [] [] (Sub.refl _) ⟨_,_,rfl,rfl,by simp only[dk,ha,hb];simp[*],rfl⟩
  refine zD 6<|bJ bK 3 ⟨by omega,(fun _=>hI.2.1 (by omega)),(fun _=>hI.2.2.1 (by omega)),(fun _=>by assumption)⟩ (by omega) [] (Sub.refl _)
 refine zD 7<|aF q0 (.bool true) [] [] [] (Sub.refl _) ⟨_,_,rfl,rfl,by simp only[dk,ha,hb,hI.2.1 (by omega),hI.2.2.1 (by omega),hI.2.2.2 (by omega)];rfl,rfl⟩
abbrev eP4(p:Nat→Int):List Value:=[zI (p 0),zI (p 1),zI (p 2),zI (p 3)]
abbrev pL(p:Nat→Int):List Int:=[p 0,p 1,p 2,p 3]
def iD(p:Nat→Int)(a:Nat)(v:Int):Nat→Int:=fun i=>if i=a then v else p i
theorem AI{a:Nat}(h:a <4):a=0∨a=1∨a=2∨a=3:=by omega
theorem asC{a:Nat}(h:a <4):nth (eP4 p) (0+(a:Int).toNat*1)=some (zI (p a)):=by
 rcases AI h with rfl|rfl|rfl|rfl<;>rfl
theorem asB{a:Nat}{v:Int}(h:a <4):dC (eP4 p) (0+(a:Int).toNat*1) [zI v]=eP4 (iD p a v):=by
 rcases AI h with rfl|rfl|rfl|rfl<;>rfl
theorem asD{a:Nat}{v:Value}(h:a <4):Nat.ble ((0+(a:Int).toNat*1)+[v].length) (eP4 p).length=true:=by
 rcases AI h with rfl|rfl|rfl|rfl<;>rfl
theorem Wv{r:bF}{a:Nat}(h:a <4)(k:b <4):nth (CX r) (0+(a:Int).toNat*4+(b:Int).toNat*1)=some (.bool (r.c a b)):=by
 rcases AI h with rfl|rfl|rfl|rfl<;>rcases AI k with rfl|rfl|rfl|rfl<;>rfl
def jk(r:bF)(a b:Nat)(v:Bool):bF:=⟨fun i j=>if i=a∧j=b then v else r.c i j⟩
theorem Wu{r:bF}{a:Nat}{v:Bool}(h:a <4)(k:b <4):dC (CX r) (0+(a:Int).toNat*4+(b:Int).toNat*1) [.bool v]=CX (jk r a b v):=by
 rcases AI h with rfl|rfl|rfl|rfl<;>rcases AI k with rfl|rfl|rfl|rfl<;>rfl
theorem Ww{r:bF}{a:Nat}{v:Value}(h:a <4)(k:b <4):Nat.ble ((0+(a:Int).toNat*4+(b:Int).toNat*1)+[v].length) (CX r).length=true:=by
 rcases AI h with rfl|rfl|rfl|rfl<;>rcases AI k with rfl|rfl|rfl|rfl<;>rfl
def lP(on:Int)(p:Nat→Int):List cU→Nat→Bool
 | [],_=>true
 |x::l,k=>bif (hasB on k&&x.same)&& !decide (p x.a.toNat=x.b+1) then false else lP on p l (k+1)
theorem xd{on:Int}{x:cU}(h:l[k]?=some x):lP on p (l.drop k) k=bif (hasB on k&&x.same)&& !decide (p x.a.toNat=x.b+1) then false else lP on p (l.drop (k+1)) (k+1):=by rw[fF h];rfl
theorem Tk{on:Int}(h:¬k <l.length):lP on p (l.drop k) k=true:=by rw[eL h];rfl
def qD(p:Nat→Int)(a:Nat)(v:Int):Bool:=decide (bN (fun y=>decide (v=y)) ((pL p).take a) 0≥0)
theorem akQ{ro:Nat→Option Obj}(h:ro b=some (.cells ⟨eP4 p⟩ T (0,0)))(hn:n≤4):bE ro (.slice (some ⟨b,0,none⟩) n 4) 1 cA ((pL p).take n):=by
 have:=bE.part (bR (enc:=cA) (T:=T) (pL p) h (fun _ _=>rfl)) (l:=0) (h:=n) (by omega) (by simpa using hn)
 simpa [dR] using this
theorem afn{v:Value}{n:Int}{ro:Nat→Option Obj}(hl:bE ro v 1 cA xs)(hn:xs.length≤1000000):dt zT 67 [v,zI n] ro (zI (bN (fun y=>decide (n=y)) xs 0)):=by
 obtain⟨fI,rV,rS,eZ,rfl,tR,lQ,mO⟩:=hl
 refine bD au [] [] ba<|zD 12<|dW [1,0,1,0,0] [] (fun(zz:Nat)=>[(0,.slice fI xs.length eZ),(1,zI n),(7,zI (xs.length:Int)),(8,zI (zz:Int))]) (fun(zz:Nat)=>[]) (fun(zz:Nat)=>zz≤xs.length∧bN (fun y=>decide (n=y)) xs 0=bN (fun y=>decide (n=y)) (xs.drop zz) zz) (fun(zz:Nat)=>xs.length-zz) 0 ⟨by omega,rfl⟩ [] ?_
 rintro k hI K1 bK rest
 refine zD 5<|zJ 9 ((k:Int) <(xs.length:Int)) (fun h1=>?_) fun h1=>?_
 ·
  refine zD 14 ?_
  obtain⟨eA,dE⟩:=zG xs k
  refine iA eZ 1 lQ dE<|jl 0 (mO _ _ dE)<|zD 2<|zJ 16 (n=eA) (fun h2=>?_) fun h2=>?_
  ·
   refine zD 7<|aF q0 (zI (k:Int)) [] [] [] (Sub.refl _) ⟨_,_,rfl,rfl,by rw[hI.2,gI dE];simp[*],rfl⟩
  refine zD 3<|ja ((k:Int)+1) (by omega)<|zD 2<|bJ bK (k+1) ⟨by omega,by rw[hI.2,gI dE];simp[*]⟩ (by omega) [] (Sub.refl _)
 refine zD 7<|aF q0 (zI (-1)) [] [] [] (Sub.refl _) ⟨_,_,rfl,rfl,by rw[hI.2,mZ (by omega)],rfl⟩
theorem aQl{v:Value}{n:Int}{ro:Nat→Option Obj}(hl:bE ro v 1 cA xs)(hn:xs.length≤1000000):dt zT 130 [v,zI n] ro (.bool (decide (bN (fun y=>decide (n=y)) xs 0≥0))):=by
 obtain⟨fI,rV,rS,eZ,rfl,tR,lQ,mO⟩:=hl
 refine bD au [] [] ba<|zD 8<|jp (vs:=[.slice fI xs.length eZ,zI n]) [] [] (fun aC hs hZ=>afn ((show bE _ _ _ _ _ from ⟨fI,rV,rS,eZ,rfl,tR,lQ,mO⟩).up hs) (by first|omega| (simp only[List.length_set,List.length_append,List.length_cons,List.length_nil];omega))) ?_
 refine zD 4<|aF q0 (.bool (decide ((bN (fun y=>decide (n=y)) xs 0)≥0))) [] [] [] (Sub.refl _) ⟨_,_,rfl,rfl,rfl,rfl⟩
theorem atd{rows:List bF}{on:Int}{ro:Nat→Option Obj}(hF:pq ro f K rows)(hV:fe K)(g1:ro b1=some (.cells ⟨[zP f]⟩ 104 (0,0)))(g2:ro b2=some (.cells ⟨[.int .u8 on]⟩ 120 (0,0))):dt zT 127 [.agg ⟨[zI (p 0),zI (p 1),zI (p 2),zI (p 3)]⟩,zP b1,zP b2] ro (.bool (lP on p K.facts 0)):=by
 obtain⟨c0,c1,c2,vc,vh,vr,vb,va,vf,vt,hv,hf,p9,nC,hr,Cy,Hk,Jo,bU⟩:=id hF
 obtain⟨hc,hh,de⟩:=id p9
 obtain⟨eI,Ax,Aw,eB,rfl,Dy,yJ,yI⟩:=hc
 obtain⟨dO,u3,u2,dv,rfl,xg,qV,qU⟩:=hh
 obtain⟨k8,Is,Ir,k7,rfl,Ol,F8,F7⟩:=hr
 obtain⟨kI,IZ,IX,jY,rfl,IY,Em,Ek⟩:=Cy
 obtain⟨kJ,I4,I2,jZ,rfl,I3,Eo,En⟩:=Hk
 obtain⟨mE,TA,Ty,lE,rfl,Tz,MB,MA⟩:=Jo
 obtain⟨nM,Ej,Ei,nt,rfl,Py,Mx,Mw⟩:=bU
 have Sv:=hV.rules.1
 have AS:=hV.before.1
 have DM:=hV.after.1
 have hnf:=hV.facts.1
 refine bD au [] [] ba<|zD 2<|jn fun b3=>zD 5<|jl (b:=b1) (off:=0) (m:=1) (vs:=[zP f]) 0 ⟨_,_,_,.inl g1,rfl⟩<|zD 3<|jl (b:=f) (off:=0) (m:=13) (vs:=[c0,c1,c2,.slice eI K.cs.length eB,.slice dO hv.length dv,.slice k8 K.rules.length k7,.slice kI K.before.length jY,.slice kJ K.after.length jZ,zI K.gone,zI K.new,zI K.af,.slice mE K.facts.length lE,.slice nM rows.length nt]) 11 ⟨_,_,_,.inl hf,rfl⟩<|zD 4<|dW [1,0,1,0,0] [] (fun(zz:Nat)=>[(2,zP b2),(3,zP b3),(11,.slice mE K.facts.length lE),(12,zI (K.facts.length:Int)),(13,zI (zz:Int))]) (fun(zz:Nat)=>[.b b3 (.cells ⟨[zI (p 0),zI (p 1),zI (p 2),zI (p 3)]⟩ 113 (0,0))]) (fun(zz:Nat)=>zz≤K.facts.length∧lP on p K.facts 0=lP on p (K.facts.drop zz) zz) (fun(zz:Nat)=>K.facts.length-zz) 0 ⟨by omega,rfl⟩ [0] ?_
 rintro k hI K1 bK rest
 refine zD 5<|zJ 14 ((k:Int) <(K.facts.length:Int)) (fun h1=>?_) fun h1=>?_
 ·
  refine zD 7 ?_
  obtain⟨Bv,mU⟩:=zG K.facts k
  refine iA lE 3 MB mU<|jl 0 (MA _ _ mU)<|jn fun b6=>jd 4 [0] ?_
  have hf4:=(hV.facts.2 _ (List.mem_of_getElem? mU)).1
  have hf5:=(hV.facts.2 _ (List.mem_of_getElem? mU)).2
  have hae:Bv.a=(Bv.a.toNat:Int):=by omega
  refine zD 1<|jl (b:=b2) (off:=0) (m:=1) (vs:=[.int .u8 on]) 0 ⟨_,_,_,.inl g2,rfl⟩<|zD 1<|jp (vs:=[.int .u8 on,zI (k:Int)]) [] [] (fun aC hs hZ=>(aty (by omega)))<|zD 1<|js 3 (hasB on (k:Int)) (fun h2=>?_) (fun h2=>?_)
  ·
   refine jd 4 [0]<|js 7 Bv.same (fun h3=>?_) (fun h3=>?_)
   ·
    refine jd 2 [0]<|GM (b:=b3) (off:=0) (len:=4) (sz:=1) Bv.a (by omega)<|nS (b:=b3) (off:=0+Bv.a.toNat*1) (m:=1) (vs:=[zI (p Bv.a.toNat)]) 0 [1] [(b3,.cells ⟨[zI (p 0),zI (p 1),zI (p 2),zI (p 3)]⟩ 113 (0,0))] (fun s _ hZ=>oD (hZ _ (.head _)) (by rw[hae];exact asC (by omega))) ?_
    refine jd 2 [0]<|ja (Bv.b+1) (by omega)<|zD 3<|js 34 (!decide ((p Bv.a.toNat)=(Bv.b+1))) (fun h4=>?_) (fun h4=>?_)
    ·
     replace h4:=of_decide_eq_false (by simpa using h4)
     refine zD 6<|aF q0 (.bool false) [] [] [] (Sub.refl _) ⟨_,_,rfl,rfl,by rw[hI.2,xd mU];simp only[h2,h3,decide_eq_false h4,Bool.and_true,Bool.true_and,Bool.not_false,Bool.not_true,Bool.and_false,Bool.false_and,cond_true,cond_false],rfl⟩
    replace h4:=of_decide_eq_true (by simpa using h4)
    refine zD 3<|ja ((k:Int)+1) (by omega)<|zD 2<|bJ bK (k+1) ⟨by omega,by rw[hI.2,xd mU];simp only[h2,h3,decide_eq_true h4,Bool.and_true,Bool.true_and,Bool.not_false,Bool.not_true,Bool.and_false,Bool.false_and,cond_true,cond_false]⟩ (by omega) [1] (Sub.refl _)
   refine zD 13<|ja ((k:Int)+1) (by omega)<|zD 2<|bJ bK (k+1) ⟨by omega,by rw[hI.2,xd mU];simp only[h2,h3,Bool.and_true,Bool.true_and,Bool.not_false,Bool.not_true,Bool.and_false,Bool.false_and,cond_true,cond_false]⟩ (by omega) [1] (Sub.refl _)
  refine zD 17<|ja ((k:Int)+1) (by omega)<|zD 2<|bJ bK (k+1) ⟨by omega,by rw[hI.2,xd mU];simp only[h2,Bool.and_true,Bool.true_and,Bool.not_false,Bool.not_true,Bool.and_false,Bool.false_and,cond_true,cond_false]⟩ (by omega) [1] (Sub.refl _)
 refine zD 7<|aF q0 (.bool true) [] [] [] (Sub.refl _) ⟨_,_,rfl,rfl,by rw[hI.2,Tk (by omega)],rfl⟩
def iO(K:aI)(on:Int):Nat→Nat→(Nat→Int)→List (Nat→Int)
 |0,_,p=>bif lP on p K.facts 0 then [p] else []
 |n+1,a,p=>iO K on n (a+1) p++(List.range K.after.length).flatMap fun b=>bif !dk K on a b||qD p a ((b:Int)+1) then [] else iO K on n (a+1) (iD p a ((b:Int)+1))
def nD(K:aI)(on:Int)(n a:Nat)(p:Nat→Int)(b:Nat):List (Nat→Int):=bif !dk K on a b||qD p a ((b:Int)+1) then [] else iO K on n (a+1) (iD p a ((b:Int)+1))
theorem qG(K:aI)(on:Int)(n a:Nat)(p:Nat→Int):iO K on (n+1) a p=iO K on n (a+1) p++(List.range K.after.length).flatMap (nD K on n a p):=rfl
theorem Part.left{α:Type}{L x y:List α}{p:Nat}(h:Part L p (x++y)):Part L p x:=by
 obtain⟨a,b,rfl,h2⟩:=h
 exact⟨a,y++b,by simp,h2⟩
theorem Part.right{α:Type}{L x y:List α}{p:Nat}(h:Part L p (x++y)):Part L (p+x.length) y:=by
 obtain⟨a,b,rfl,rfl⟩:=h
 exact⟨a++x,b,by simp,by simp⟩
theorem ZA{j:Nat}(h:j <n):∃r,List.range n=List.range j++[j]++r:=by
 refine⟨(List.range n).drop (j+1),?_⟩
 have h1:(List.range n).take (j+1)=List.range (j+1):=by rw[List.take_range,Nat.min_eq_left h]
 rw[←List.range_succ,←h1,List.take_append_drop]
theorem X6{q:Nat→Int}{a:Nat}{v:Int}(ha:a <4)(h:∀i,i≠a→q i=p i):qD q a v=qD p a v:=by
 have:(pL q).take a=(pL p).take a:=by
  rcases AI ha with rfl|rfl|rfl|rfl
  ·rfl
  ·simp[h 0 (by omega)]
  ·simp[h 0 (by omega),h 1 (by omega)]
  simp[h 0 (by omega),h 1 (by omega),h 2 (by omega)]
 simp only[qD,this]
theorem V3{q:Nat→Int}{a:Nat}{v:Int}(h:∀i,i≠a→q i=p i):iD q a v=iD p a v:=by
 funext i
 simp only[iD]
 split
 ·rfl
 rename_i hi;exact h i hi
abbrev ePs(L:List (Nat→Int)):(Nat→Option Obj)→Nat→List Value→Cells→Prop:=fun _ k vs LL=>∃p,L[k]?=some p∧vs=[.agg ⟨eP4 p⟩]∧LL=[]
structure ajj(ro:Nat→Option Obj)(bl f:Nat)(K:aI)(on:Int)(bf br bC bg bt bo:Nat):Prop where
 f:ro bf=some (.cells ⟨[zP f]⟩ 104 (0,0))
 r:ro br=some (.cells ⟨[.func (.func 127) ⟨[]⟩ ⟨[zP bf,zP bo]⟩]⟩ 221 (0,0))
 y:ro bC=some (.cells ⟨[.func (.yield bl) #[] #[]]⟩ 221 (0,0))
 g:ro bg=some (.cells ⟨[.func (.func 129) ⟨[]⟩ ⟨[zP bf,zP br,zP bC,zP bg,zP bt]⟩]⟩ 222 (0,0))
 t:ro bt=some (.cells ⟨CX ⟨dk K on⟩⟩ 159 (0,0))
 o:ro bo=some (.cells ⟨[.int .u8 on]⟩ 120 (0,0))
def aqK(bl f:Nat)(K:aI)(rows:List bF)(on:Int)(bf br bC bg bt bo:Nat)(L:List (Nat→Int))(Inv:Nat→Cells→Prop)(Stop:Cells→Prop)(n:Nat):Prop:=
 ∀(ro:Nat→Option Obj) (a:Nat) (p:Nat→Int) (q:Nat) (B:Cells),ajj ro bl f K on bf br bC bg bt bo→pq ro f K rows→a+n=K.before.length→Part L q (iO K on n a p)→Inv q B→YOK zT bl ro L.length (ePs L) Inv Stop→
  eG zT 129 [.agg ⟨eP4 p⟩,zI (a:Int),zP bf,zP br,zP bC,zP bg,zP bt] ro B (fun r Y=>∃c,r= .bool c∧(c=true→Inv (q+(iO K on n a p).length) Y)∧(c=false→Stop Y))
theorem atz{a q:Nat}{on:Int}{B:Cells}{L:List (Nat→Int)}{Inv:Nat→Cells→Prop}{rows:List bF}{ro:Nat→Option Obj}(ih:∀m,m <n→aqK bl f K rows on bf br bC bg bt bo L Inv Stop m)(hV:fe K)(oL:ajj ro bl f K on bf br bC bg bt bo)(hF:pq ro f K rows)(han:a+n=K.before.length)(hP:Part L q (iO K on n a p))(hB:Inv q B)(hy:YOK zT bl ro L.length (ePs L) Inv Stop):eG zT 129 [.agg ⟨[zI (p 0),zI (p 1),zI (p 2),zI (p 3)]⟩,zI (a:Int),zP bf,zP br,zP bC,zP bg,zP bt] ro B (fun r Y=>∃c,r= .bool c∧(c=true→Inv (q+(iO K on n a p).length) Y)∧(c=false→Stop Y)):=by
 obtain⟨gf,gr,gy,gg,gt,go⟩:=id oL
 obtain⟨c0,c1,c2,vc,vh,vr,vb,va,vf,vt,hv,hf,p9,nC,hr,Cy,Hk,Jo,bU⟩:=id hF
 obtain⟨hc,hh,de⟩:=id p9
 obtain⟨eI,Ax,Aw,eB,rfl,Dy,yJ,yI⟩:=hc
 obtain⟨dO,u3,u2,dv,rfl,xg,qV,qU⟩:=hh
 obtain⟨k8,Is,Ir,k7,rfl,Ol,F8,F7⟩:=hr
 obtain⟨kI,IZ,IX,jY,rfl,IY,Em,Ek⟩:=Cy
 obtain⟨kJ,I4,I2,jZ,rfl,I3,Eo,En⟩:=Hk
 obtain⟨mE,TA,Ty,lE,rfl,Tz,MB,MA⟩:=Jo
 obtain⟨nM,Ej,Ei,nt,rfl,Py,Mx,Mw⟩:=bU
 have Sv:=hV.rules.1
 have AS:=hV.before.1
 have DM:=hV.after.1
 have hnf:=hV.facts.1
 refine bD au [.l B] [] ba<|zD 2<|jn fun b7=>zD 6<|jl (b:=bf) (off:=0) (m:=1) (vs:=[zP f]) 0 ⟨_,_,_,.inl gf,rfl⟩<|zD 3<|jl (b:=f) (off:=0) (m:=13) (vs:=[c0,c1,c2,.slice eI K.cs.length eB,.slice dO hv.length dv,.slice k8 K.rules.length k7,.slice kI K.before.length jY,.slice kJ K.after.length jZ,zI K.gone,zI K.new,zI K.af,.slice mE K.facts.length lE,.slice nM rows.length nt]) 6 ⟨_,_,_,.inl hf,rfl⟩<|zD 3<|zJ 18 ((a:Int)=(K.before.length:Int)) (fun h1=>?_) fun h1=>?_
 ·
  refine zD 2 ?_
  obtain rfl:n=0:=by omega
  refine zD 1<|jl (b:=br) (off:=0) (m:=1) (vs:=[.func (.func 127) ⟨[]⟩ ⟨[zP bf,zP bo]⟩]) 0 ⟨_,_,_,.inl gr,rfl⟩<|jd 1 [0]<|jp (vs:=[.agg ⟨[zI (p 0),zI (p 1),zI (p 2),zI (p 3)]⟩,zP bf,zP bo]) [] [] (fun aC hs hZ=>atd (hF.up hs) hV (hs _ _ gf) (hs _ _ go))<|zD 2<|js 23 (!(lP on p K.facts 0)) (fun h2=>?_) (fun h2=>?_)
  ·
   have mI:=h2
   try simp only[zB] at mI
   refine zD 7<|aF q0 (.bool true) [] [1] B (Sub.refl _) ⟨_,_,rfl,rfl,_,rfl,(fun _=>by rw[show iO K on 0 a p=[] by simp only[iO,show lP on p K.facts 0=false by simpa using h2];rfl];exact hB),nofun⟩
  have mI:=h2
  try simp only[zB] at mI
  have agA:iO K on 0 a p=[p]:=by simp only[iO,show lP on p K.facts 0=true by simpa using h2];rfl
  have XV:=Part.get (i:=0) (x:=p) hP (by rw[agA];rfl)
  refine jl (b:=bC) (off:=0) (m:=1) (vs:=[(.func (.yield bl) #[] #[])]) 0 ⟨_,_,_,.inl gy,rfl⟩<|jd 1 [0]<|jyc [1] (hy q [.agg ⟨[zI (p 0),zI (p 1),zI (p 2),zI (p 3)]⟩] [] B ro XV.1 ⟨_,XV.2,rfl,rfl⟩ hB (Sub.refl _)) (Sub.refl _) ?_
  intro v26 Y26 aQz
  obtain⟨c26,rfl,aTc,aS0⟩:=yb aQz
  refine zD 4<|aF q0 (.bool c26) [] [0] Y26 (Sub.refl _) ⟨_,_,rfl,rfl,_,rfl,(fun h=>by rw[agA];exact aTc h),aS0⟩
 refine zD 4 ?_
 obtain⟨m,rfl⟩:∃m,n=m+1:=⟨n-1,by omega⟩
 rw[qG] at hP
 refine zD 1<|jl (b:=bg) (off:=0) (m:=1) (vs:=[.func (.func 129) ⟨[]⟩ ⟨[zP bf,zP br,zP bC,zP bg,zP bt]⟩]) 0 ⟨_,_,_,.inl gg,rfl⟩<|jd 2 [0]<|ja ((a:Int)+1) (by omega)<|jc (vs:=[.agg ⟨[zI (p 0),zI (p 1),zI (p 2),zI (p 3)]⟩,zI ((a:Int)+1),zP bf,zP br,zP bC,zP bg,zP bt]) [1] (ih m (by omega) _ (a+1) p q _ oL hF (by omega) (Part.left hP) hB hy) ?_
 rintro _ Y32 ⟨c32,rfl,aS9,aSX⟩
 refine zD 2<|js 33 (!c32) (fun h3=>?_) (fun h3=>?_)
 ·
  try simp only[zB] at h3
  refine zD 6<|aF q0 (.bool false) [] [0] Y32 (Sub.refl _) ⟨_,_,rfl,rfl,_,rfl,nofun,fun _=>aSX (by simp_all)⟩
 try simp only[zB] at h3
 refine zD 5<|jl (b:=bf) (off:=0) (m:=1) (vs:=[zP f]) 0 ⟨_,_,_,.inl gf,rfl⟩<|zD 3<|jl (b:=f) (off:=0) (m:=13) (vs:=[c0,c1,c2,.slice eI K.cs.length eB,.slice dO hv.length dv,.slice k8 K.rules.length k7,.slice kI K.before.length jY,.slice kJ K.after.length jZ,zI K.gone,zI K.new,zI K.af,.slice mE K.facts.length lE,.slice nM rows.length nt]) 7 ⟨_,_,_,.inl hf,rfl⟩<|zD 4<|dW [1,1,1,0,1,0,0] [] (fun(zz:Nat×(Nat→Int)×Cells)=>[(1,zI (a:Int)),(5,zP bg),(6,zP bt),(7,zP b7),(39,zI (K.after.length:Int)),(40,zI (zz.1:Int))]) (fun(zz:Nat×(Nat→Int)×Cells)=>[.b b7 (.cells ⟨[zI (zz.2.1 0),zI (zz.2.1 1),zI (zz.2.1 2),zI (zz.2.1 3)]⟩ 113 (0,0)),.l zz.2.2]) (fun(zz:Nat×(Nat→Int)×Cells)=>zz.1≤K.after.length∧Inv (q+(iO K on m (a+1) p).length+((List.range zz.1).flatMap (nD K on m a p)).length) zz.2.2∧∀i,i≠a→zz.2.1 i=p i) (fun(zz:Nat×(Nat→Int)×Cells)=>K.after.length-zz.1) (⟨0,p,Y32⟩) ⟨by dsimp only;omega,by have:=aS9 (by simp_all);simpa using this,fun _ _=>rfl⟩ [1,0] ?_
 rintro⟨j,pp,B⟩ hJ K1 bK rest
 dsimp only at hJ
 refine zD 5<|zJ 41 ((j:Int) <(K.after.length:Int)) (fun h4=>?_) fun h4=>?_
 ·
  refine zD 11 ?_
  have ha4:a <4:=by omega
  have hj4:j <4:=by omega
  obtain⟨rr,hrr⟩:=ZA (show j <K.after.length by omega)
  have hPj:=Part.flat (Part.right hP) hrr
  refine zD 3<|GM (b:=bt) (off:=0) (len:=4) (sz:=4) (a:Int) (by omega)<|GM (b:=bt) (off:=0+(a:Int).toNat*4) (len:=4) (sz:=1) (j:Int) (by omega)<|jl (b:=bt) (off:=0+(a:Int).toNat*4+(j:Int).toNat*1) (m:=1) (vs:=[.bool (dk K on a j)]) 0 (oD (.inl gt) (Wv (r:=⟨dk K on⟩) ha4 hj4))<|zD 2<|js 49 (!(dk K on a j)) (fun h5=>?_) (fun h5=>?_)
  ·
   have Nz:=h5
   try simp only[zB] at Nz
   refine zD 10<|ja ((j:Int)+1) (by omega)<|zD 2<|bJ bK (⟨j+1,pp,B⟩) ⟨by dsimp only;omega,by dsimp only;rw[List.range_succ,List.flatMap_append,List.length_append,List.flatMap_singleton,←Nat.add_assoc];rw[show nD K on m a p j=[] by simp only[nD,h5];rfl];exact hJ.2.1,hJ.2.2⟩ (by dsimp only;omega) [0,1] (Sub.refl _)
  have Nz:=h5
  try simp only[zB] at Nz
  refine zD 1<|jah (b:=b7) (off:=0) (len:=4) (a:Int) (by omega)<|zD 1<|ja ((j:Int)+1) (by omega)<|jp (vs:=[(.slice (some ⟨b7,0,none⟩) (a:Int).toNat 4),zI ((j:Int)+1)]) [0] [(b7,.cells ⟨[zI (pp 0),zI (pp 1),zI (pp 2),zI (pp 3)]⟩ 113 (0,0))] (fun aC hs hZ=>aQl (akQ hZ.head (by omega)) (by rw[List.length_take];omega)) ?_
  refine zD 2<|js 55 (qD pp a ((j:Int)+1)) (fun h6=>?_) (fun h6=>?_)
  ·
   refine zD 3<|ja ((j:Int)+1) (by omega)<|zD 2<|bJ bK (⟨j+1,pp,B⟩) ⟨by dsimp only;omega,by dsimp only;rw[List.range_succ,List.flatMap_append,List.length_append,List.flatMap_singleton,←Nat.add_assoc];rw[show nD K on m a p j=[] by simp only[nD,←X6 ha4 hJ.2.2,h5,h6];rfl];exact hJ.2.1,hJ.2.2⟩ (by dsimp only;omega) [0,1] (Sub.refl _)
  have hg0:nD K on m a p j=iO K on m (a+1) (iD p a ((j:Int)+1)):=by simp only[nD,←X6 ha4 hJ.2.2,h5,h6];rfl
  have hPg:Part L (q+(iO K on m (a+1) p).length+((List.range j).flatMap (nD K on m a p)).length) (iO K on m (a+1) (iD pp a ((j:Int)+1))):=by rw[V3 hJ.2.2,←hg0];exact hPj
  refine zD 6<|ja ((j:Int)+1) (by omega)<|GM (b:=b7) (off:=0) (len:=4) (sz:=1) (a:Int) (by omega)<|jsx 0 b7 (0+(a:Int).toNat*1) [zI (pp 0),zI (pp 1),zI (pp 2),zI (pp 3)] [zI ((j:Int)+1)] 113 (by intro v hv;rw[List.mem_singleton] at hv;subst hv;rfl) (asD (p:=pp) ha4) ?_
  refine jmw 0 [.b b7 (.cells ⟨[zI ((iD pp a ((j:Int)+1)) 0),zI ((iD pp a ((j:Int)+1)) 1),zI ((iD pp a ((j:Int)+1)) 2),zI ((iD pp a ((j:Int)+1)) 3)]⟩ 113 (0,0))] (L:=[(b7,.cells ⟨dC [zI (pp 0),zI (pp 1),zI (pp 2),zI (pp 3)] (0+(a:Int).toNat*1) [zI ((j:Int)+1)]⟩ 113 (0,0))]) (by rw[asB ha4];rfl) ?_
  refine zD 3<|jl (b:=bg) (off:=0) (m:=1) (vs:=[.func (.func 129) ⟨[]⟩ ⟨[zP bf,zP br,zP bC,zP bg,zP bt]⟩]) 0 ⟨_,_,_,.inl gg,rfl⟩<|jd 2 [0]<|ja ((a:Int)+1) (by omega)<|jc (vs:=[.agg ⟨[zI ((iD pp a ((j:Int)+1)) 0),zI ((iD pp a ((j:Int)+1)) 1),zI ((iD pp a ((j:Int)+1)) 2),zI ((iD pp a ((j:Int)+1)) 3)]⟩,zI ((a:Int)+1),zP bf,zP br,zP bC,zP bg,zP bt]) [1] (ih m (by omega) _ (a+1) _ (q+(iO K on m (a+1) p).length+((List.range j).flatMap (nD K on m a p)).length) _ oL hF (by omega) hPg hJ.2.1 hy) ?_
  rintro _ Y64 ⟨Yy,rfl,aS7,aSV⟩
  refine zD 2<|js 65 (!Yy) (fun h7=>?_) (fun h7=>?_)
  ·
   try simp only[zB] at h7
   refine zD 6<|aF q0 (.bool false) [] [0] Y64 (Sub.refl _) ⟨_,_,rfl,rfl,_,rfl,nofun,fun _=>aSV (by simp_all)⟩
  try simp only[zB] at h7
  refine zD 3<|ja ((j:Int)+1) (by omega)<|zD 2<|bJ bK (⟨j+1,(iD pp a ((j:Int)+1)),Y64⟩) ⟨by dsimp only;omega,by dsimp only;rw[List.range_succ,List.flatMap_append,List.length_append,List.flatMap_singleton,←Nat.add_assoc];rw[hg0,←V3 hJ.2.2];exact aS7 (by simp_all),(fun i hi=>by simp only[iD,if_neg hi];exact hJ.2.2 i hi)⟩ (by dsimp only;omega) [1,0] (Sub.refl _)
 refine zD 7<|aF q0 (.bool true) [] [1] B (Sub.refl _) ⟨_,_,rfl,rfl,_,rfl,(fun _=>by rw[qG,List.length_append,←Nat.add_assoc];have:=hJ.2.1;rwa[show j=K.after.length by omega] at this),nofun⟩
theorem aBL(hV:fe K){rows:List bF}{on:Int}{L:List (Nat→Int)}{Inv:Nat→Cells→Prop}:∀n,aqK bl f K rows on bf br bC bg bt bo L Inv Stop n:=by
 intro n
 induction n using Nat.strongRecOn with
 |_ n ih=>exact fun ro a p q B hc hF han hP hB hy=>atz ih hV hc hF han hP hB hy
def aO(K:aI)(on:Int):List (Nat→Int):=iO K on K.before.length 0 fun _=>0
theorem Yj{on:Int}{a:Nat}(h:¬a <K.before.length∨¬b <K.after.length):dk K on a b=false:=by
 rcases h with h|h
 ·simp[dk,List.getElem?_eq_none (Nat.le_of_not_lt h)]
 simp only[dk,List.getElem?_eq_none (Nat.le_of_not_lt h)]
 split
 ·rename_i h1;cases h1
 rfl
def EP(K:aI)(on:Int)(i j:Nat)(r:bF):Prop:=∀x y,r.c x y=((decide (x <i)||(decide (x=i)&&decide (y <j)))&&dk K on x y)
theorem EP.set{on:Int}{i j:Nat}{r:bF}(h:EP K on i j r):EP K on i (j+1) (jk r i j (dk K on i j)):=fun x y=>by
 simp only[jk]
 split
 ·rename_i hx;obtain⟨rfl,rfl⟩:=hx;simp
 rename_i hx
 rw[h x y]
 congr 2
 by_cases e:x=i
 ·subst e
  have:y≠j:=fun e2=>hx ⟨rfl,e2⟩
  simp only[decide_true,Bool.true_and]
  congr 1
  exact propext (by omega)
 simp[e]
theorem EP.nxt{on:Int}{i:Nat}{r:bF}(h:EP K on i K.after.length r):EP K on (i+1) 0 r:=fun x y=>by
 rw[h x y]
 by_cases hy:y <K.after.length
 ·congr 1
  simp only[hy,decide_true,Bool.and_true,Nat.not_lt_zero,decide_false,Bool.and_false,Bool.or_false]
  rw[Bool.eq_iff_iff];simp;omega
 rw[Yj (.inr hy)];simp
theorem EP.fin{on:Int}{r:bF}(h:EP K on K.before.length 0 r):r=⟨dk K on⟩:=by
 rcases r with ⟨c⟩
 congr 1
 funext x y
 have:=h x y
 dsimp only at this
 rw[this]
 by_cases hx:x <K.before.length
 ·simp[hx]
 rw[Yj (.inl hx)];simp
theorem alm{a:Nat}(h:a <4):nth (eP4 p) ((a:Int).toNat*1)=some (zI (p a)):=by
 rcases AI h with rfl|rfl|rfl|rfl<;>rfl
theorem ada{r:bF}{a:Nat}{j:Int}(h:a <4)(k:0≤j∧j <4):nth (CX r) (0+(a:Int).toNat*4+j.toNat*1)=some (.bool (r.c a j.toNat)):=by
 obtain⟨m,rfl⟩:=Int.eq_ofNat_of_zero_le k.1
 exact Wv h (by omega)
def Cb(r:bF)(p:Nat→Int):Nat→Int
 |0=>0
 |k+1=>Cb r p k+bif decide (p k>0)&& !r.c k (p k-1).toNat then 1 else 0
def cw(K:aI)(r:bF)(past:Nat)(p:Nat→Int):ai:=⟨past,p 0,p 1,p 2,p 3,K.before.length-rX (pL p),K.after.length-rX (pL p),Cb r p 4⟩
theorem WL(p:Nat→Int):0≤rX (pL p)∧rX (pL p)≤4:=by
 have:=List.length_filter_le (fun x=>decide (x>0)) (pL p)
 simp only[rX]
 exact⟨by omega,by simp only[List.length_cons,List.length_nil] at this;omega⟩
theorem Xo{rows:List bF}{on:Int}{b3 b4:Nat}{ro:Nat→Option Obj}(hF:pq ro f K rows)(hV:fe K)(g1:ro b1=some (.cells ⟨[zP f]⟩ 104 (0,0)))(g2:ro b2=some (.cells ⟨[.func (.func 127) ⟨[]⟩ ⟨[zP b1,zP b4]⟩]⟩ 221 (0,0)))(g3:ro b3=some (.cells ⟨CX ⟨dk K on⟩⟩ 159 (0,0)))(g4:ro b4=some (.cells ⟨[.int .u8 on]⟩ 120 (0,0))):ItX zT 128 [] [zP b1,zP b2,zP b3] ro [] (aO K on).length (ePs (aO K on)) (fun Z=>Z=[]):=by
 intro bl aC Inv Stop hs hy B hB
 replace g1:=hs _ _ g1
 replace g2:=hs _ _ g2
 replace g3:=hs _ _ g3
 replace g4:=hs _ _ g4
 replace hF:=hF.up hs
 refine bD au [.l B] [] ba<|zD 2<|jn fun b4=>zD 3<|jn fun b5=>jd 9 [0,0]<|jf [1,0] ((b4,.cells ⟨[(.func (.yield bl) #[] #[])]⟩ 221 (0,0))::[(b5,.cells ⟨[.func (.func 129) ⟨[]⟩ ⟨[zP b1,zP b2,zP b4,zP b5,zP b3]⟩]⟩ 222 (0,0))]) fun yH bY iU=>jc (vs:=[.agg ⟨[zI 0,zI 0,zI 0,zI 0]⟩,zI 0,zP b1,zP b2,zP b4,zP b5,zP b3]) [0] (aBL (K:=K) hV (on:=on) _ _ 0 (fun _=>0) 0 _ ⟨(bY _ _ g1),(bY _ _ g2),iU _ (.head _),iU _ (.tail _ (.head _)),(bY _ _ g3),bY _ _ g4⟩ (hF.up bY) (Nat.zero_add _) ⟨[],[],by simp[aO],rfl⟩ hB (YOK.up hy bY)) ?_
 rintro _ Y9 ⟨c9,rfl,hc9,hd9⟩
 refine zD 1<|aF q0.a (.tuple ⟨[]⟩) [] [0] Y9 bY ⟨_,_,rfl,rfl,[],Y9,rfl,rfl,by cases c9 with|true=>exact .inl (by simpa [aO] using hc9 rfl)|false=>exact .inr (hd9 rfl)⟩
theorem KM{rows:List bF}{on:Int}{ro:Nat→Option Obj}(hF:pq ro f K rows)(hV:fe K):eG zT 94 [zP f,.int .u8 on] ro [] (fun r Y=>∃b1 b2 b3 b4,r= .func (.func 128) ⟨[]⟩ ⟨[zP b1,zP b2,zP b3]⟩∧Y=[(b1,.cells ⟨[zP f]⟩ 104 (0,0)),(b2,.cells ⟨[.func (.func 127) ⟨[]⟩ ⟨[zP b1,zP b4]⟩]⟩ 221 (0,0)),(b3,.cells ⟨CX ⟨dk K on⟩⟩ 159 (0,0)),(b4,.cells ⟨[.int .u8 on]⟩ 120 (0,0))]):=by
 obtain⟨c0,c1,c2,vc,vh,vr,vb,va,vf,vt,hv,hf,p9,nC,hr,Cy,Hk,Jo,bU⟩:=id hF
 obtain⟨hc,hh,de⟩:=id p9
 obtain⟨eI,Ax,Aw,eB,rfl,Dy,yJ,yI⟩:=hc
 obtain⟨dO,u3,u2,dv,rfl,xg,qV,qU⟩:=hh
 obtain⟨k8,Is,Ir,k7,rfl,Ol,F8,F7⟩:=hr
 obtain⟨kI,IZ,IX,jY,rfl,IY,Em,Ek⟩:=Cy
 obtain⟨kJ,I4,I2,jZ,rfl,I3,Eo,En⟩:=Hk
 obtain⟨mE,TA,Ty,lE,rfl,Tz,MB,MA⟩:=Jo
 obtain⟨nM,Ej,Ei,nt,rfl,Py,Mx,Mw⟩:=bU
 have Sv:=hV.rules.1
 have AS:=hV.before.1
 have DM:=hV.after.1
 have hnf:=hV.facts.1
 refine bD au [] [] ba<|zD 2<|jn fun b2=>jn fun b3=>zD 4<|jn fun b5=>jd 8 [2]<|jl (b:=f) (off:=0) (m:=13) (vs:=[c0,c1,c2,.slice eI K.cs.length eB,.slice dO hv.length dv,.slice k8 K.rules.length k7,.slice kI K.before.length jY,.slice kJ K.after.length jZ,zI K.gone,zI K.new,zI K.af,.slice mE K.facts.length lE,.slice nM rows.length nt]) 6 ⟨_,_,_,.inl hf,rfl⟩<|zD 4<|dW [1,1,0,1,0,0] [] (fun(zz:Nat×bF)=>[(2,zP b2),(3,zP b3),(4,.nilFunc),(5,zP b5),(14,zI (K.before.length:Int)),(15,zI (zz.1:Int))]) (fun(zz:Nat×bF)=>[.b b5 (.cells ⟨[.bool (zz.2.c 0 0),.bool (zz.2.c 0 1),.bool (zz.2.c 0 2),.bool (zz.2.c 0 3),.bool (zz.2.c 1 0),.bool (zz.2.c 1 1),.bool (zz.2.c 1 2),.bool (zz.2.c 1 3),.bool (zz.2.c 2 0),.bool (zz.2.c 2 1),.bool (zz.2.c 2 2),.bool (zz.2.c 2 3),.bool (zz.2.c 3 0),.bool (zz.2.c 3 1),.bool (zz.2.c 3 2),.bool (zz.2.c 3 3)]⟩ 159 (0,0)),.b b3 (.cells ⟨[.int .u8 on]⟩ 120 (0,0)),.b b2 (.cells ⟨[zP f]⟩ 104 (0,0))]) (fun(zz:Nat×bF)=>zz.1≤K.before.length∧EP K on zz.1 0 zz.2) (fun(zz:Nat×bF)=>K.before.length-zz.1) (⟨0,⟨fun _ _=>false⟩⟩) ⟨by dsimp only;omega,fun x y=>by simp⟩ [0,1,2] ?_
 rintro⟨i,r⟩ hI K1 bK rest
 dsimp only at hI
 refine zD 5<|zJ 16 ((i:Int) <(K.before.length:Int)) (fun h1=>?_) fun h1=>?_
 ·
  refine jd 15 [2]<|jl (b:=f) (off:=0) (m:=13) (vs:=[c0,c1,c2,.slice eI K.cs.length eB,.slice dO hv.length dv,.slice k8 K.rules.length k7,.slice kI K.before.length jY,.slice kJ K.after.length jZ,zI K.gone,zI K.new,zI K.af,.slice mE K.facts.length lE,.slice nM rows.length nt]) 7 ⟨_,_,_,.inl hf,rfl⟩<|zD 4<|dW [1,1,0,1,0,0,1,1,0,0,1,1,0,0] [K1] (fun(zz:Nat×bF)=>[(2,zP b2),(3,zP b3),(4,.nilFunc),(5,zP b5),(6,zI (i:Int)),(14,zI (K.before.length:Int)),(15,zI (i:Int)),(23,zI (K.after.length:Int)),(24,zI (zz.1:Int))]) (fun(zz:Nat×bF)=>[.b b5 (.cells ⟨[.bool (zz.2.c 0 0),.bool (zz.2.c 0 1),.bool (zz.2.c 0 2),.bool (zz.2.c 0 3),.bool (zz.2.c 1 0),.bool (zz.2.c 1 1),.bool (zz.2.c 1 2),.bool (zz.2.c 1 3),.bool (zz.2.c 2 0),.bool (zz.2.c 2 1),.bool (zz.2.c 2 2),.bool (zz.2.c 2 3),.bool (zz.2.c 3 0),.bool (zz.2.c 3 1),.bool (zz.2.c 3 2),.bool (zz.2.c 3 3)]⟩ 159 (0,0)),.b b3 (.cells ⟨[.int .u8 on]⟩ 120 (0,0)),.b b2 (.cells ⟨[zP f]⟩ 104 (0,0))]) (fun(zz:Nat×bF)=>zz.1≤K.after.length∧EP K on i zz.1 zz.2) (fun(zz:Nat×bF)=>K.after.length-zz.1) (⟨0,r⟩) ⟨by dsimp only;omega,hI.2⟩ [0,1,2] ?_
  rintro⟨j,r⟩ hJ K2 mr rest
  dsimp only at hJ
  refine zD 5<|zJ 25 ((j:Int) <(K.after.length:Int)) (fun h2=>?_) fun h2=>?_
  ·
   refine zD 9 ?_
   obtain⟨x,ha⟩:∃x,K.before[i]?=some x:=⟨_,List.getElem?_eq_getElem (by omega)⟩
   obtain⟨y,hb⟩:∃y,K.after[j]?=some y:=⟨_,List.getElem?_eq_getElem (by omega)⟩
   refine jd 7 [2,1]<|GM (b:=b5) (off:=0) (len:=4) (sz:=4) (i:Int) (by omega)<|jp (vs:=[zP f,zI (i:Int),zI (j:Int),.int .u8 on]) [] [] (fun aC hs hZ=>aBM (hF.up hs) hV ha hb)<|GM (b:=b5) (off:=0+(i:Int).toNat*4) (len:=4) (sz:=1) (j:Int) (by omega)<|aL 9 fun sB sJ q5=>jsx 0 b5 (0+(i:Int).toNat*4+(j:Int).toNat*1) [.bool (r.c 0 0),.bool (r.c 0 1),.bool (r.c 0 2),.bool (r.c 0 3),.bool (r.c 1 0),.bool (r.c 1 1),.bool (r.c 1 2),.bool (r.c 1 3),.bool (r.c 2 0),.bool (r.c 2 1),.bool (r.c 2 2),.bool (r.c 2 3),.bool (r.c 3 0),.bool (r.c 3 1),.bool (r.c 3 2),.bool (r.c 3 3)] [.bool (dk K on i j)] 159 (by intro v hv;rw[List.mem_singleton] at hv;subst hv;rfl) (Ww (r:=r) (by omega) (by omega)) ?_
   refine jmw 0 [.b b5 (.cells ⟨[.bool ((jk r i j (dk K on i j)).c 0 0),.bool ((jk r i j (dk K on i j)).c 0 1),.bool ((jk r i j (dk K on i j)).c 0 2),.bool ((jk r i j (dk K on i j)).c 0 3),.bool ((jk r i j (dk K on i j)).c 1 0),.bool ((jk r i j (dk K on i j)).c 1 1),.bool ((jk r i j (dk K on i j)).c 1 2),.bool ((jk r i j (dk K on i j)).c 1 3),.bool ((jk r i j (dk K on i j)).c 2 0),.bool ((jk r i j (dk K on i j)).c 2 1),.bool ((jk r i j (dk K on i j)).c 2 2),.bool ((jk r i j (dk K on i j)).c 2 3),.bool ((jk r i j (dk K on i j)).c 3 0),.bool ((jk r i j (dk K on i j)).c 3 1),.bool ((jk r i j (dk K on i j)).c 3 2),.bool ((jk r i j (dk K on i j)).c 3 3)]⟩ 159 (0,0))] (L:=[(b5,.cells ⟨dC [.bool (r.c 0 0),.bool (r.c 0 1),.bool (r.c 0 2),.bool (r.c 0 3),.bool (r.c 1 0),.bool (r.c 1 1),.bool (r.c 1 2),.bool (r.c 1 3),.bool (r.c 2 0),.bool (r.c 2 1),.bool (r.c 2 2),.bool (r.c 2 3),.bool (r.c 3 0),.bool (r.c 3 1),.bool (r.c 3 2),.bool (r.c 3 3)] (0+(i:Int).toNat*4+(j:Int).toNat*1) [.bool (dk K on i j)]⟩ 159 (0,0))]) (by rw[Wu (by omega) (by omega)];rfl) ?_
   refine iu q5 []<|zD 2<|ja ((j:Int)+1) (by omega)<|zD 2<|bJ mr (⟨j+1,(jk r i j (dk K on i j))⟩) ⟨by dsimp only;omega,hJ.2.set⟩ (by dsimp only;omega) [0,1,2] (Sub.refl _)
  refine zD 3<|ja ((i:Int)+1) (by omega)<|zD 2<|bJ bK (⟨i+1,r⟩) ⟨by dsimp only;omega,EP.nxt (by have:=hJ.2;rwa[show j=K.after.length by omega] at this)⟩ (by dsimp only;omega) [0,1,2] (Sub.refl _)
 refine zD 5<|jn fun b8=>jd 8 [0]<|aF q0 (.func (.func 128) ⟨[]⟩ ⟨[zP b2,zP b8,zP b5]⟩) [] [3,0,1,2] ((b2,.cells ⟨[zP f]⟩ 104 (0,0))::((b8,.cells ⟨[.func (.func 127) ⟨[]⟩ ⟨[zP b2,zP b3]⟩]⟩ 221 (0,0))::((b5,.cells ⟨[.bool (r.c 0 0),.bool (r.c 0 1),.bool (r.c 0 2),.bool (r.c 0 3),.bool (r.c 1 0),.bool (r.c 1 1),.bool (r.c 1 2),.bool (r.c 1 3),.bool (r.c 2 0),.bool (r.c 2 1),.bool (r.c 2 2),.bool (r.c 2 3),.bool (r.c 3 0),.bool (r.c 3 1),.bool (r.c 3 2),.bool (r.c 3 3)]⟩ 159 (0,0))::[(b3,.cells ⟨[.int .u8 on]⟩ 120 (0,0))]))) (Sub.refl _) ⟨_,_,rfl,rfl,_,_,_,_,rfl,by have e:=EP.fin (K:=K) (on:=on) (r:=r) (by have:=hI.2;rwa[show i=K.before.length by omega] at this);subst e;rfl⟩
theorem apw{rows:List bF}{past:Nat}{IT:bF}{ro:Nat→Option Obj}(hF:pq ro f K rows)(hV:fe K)(Cp:rows[past]?=some IT) (hp:∀i,0≤p i∧p i≤4):dt zT 95 [zP f,zI (past:Int),.agg ⟨[zI (p 0),zI (p 1),zI (p 2),zI (p 3)]⟩] ro (.agg ⟨cu (cw K IT past p)⟩):=by
 obtain⟨c0,c1,c2,vc,vh,vr,vb,va,vf,vt,hv,hf,p9,nC,hr,Cy,Hk,Jo,bU⟩:=id hF
 obtain⟨hc,hh,de⟩:=id p9
 obtain⟨eI,Ax,Aw,eB,rfl,Dy,yJ,yI⟩:=hc
 obtain⟨dO,u3,u2,dv,rfl,xg,qV,qU⟩:=hh
 obtain⟨k8,Is,Ir,k7,rfl,Ol,F8,F7⟩:=hr
 obtain⟨kI,IZ,IX,jY,rfl,IY,Em,Ek⟩:=Cy
 obtain⟨kJ,I4,I2,jZ,rfl,I3,Eo,En⟩:=Hk
 obtain⟨mE,TA,Ty,lE,rfl,Tz,MB,MA⟩:=Jo
 obtain⟨nM,Ej,Ei,nt,rfl,Py,Mx,Mw⟩:=bU
 have Sv:=hV.rules.1
 have AS:=hV.before.1
 have DM:=hV.after.1
 have hnf:=hV.facts.1
 have hpc:=WL p
 have Ss:=(List.getElem?_eq_some_iff.1 Cp).1
 refine bD au [] [] ba<|zD 2<|jn fun b5=>jn fun b6=>jd 4 [1]<|jp (vs:=[.agg ⟨[zI (p 0),zI (p 1),zI (p 2),zI (p 3)]⟩]) [] [] (fun aC hs hZ=>(ate (p0:=p 0) (p1:=p 1) (p2:=p 2) (p3:=p 3)))<|jd 10 [1]<|jl (b:=f) (off:=0) (m:=13) (vs:=[c0,c1,c2,.slice eI K.cs.length eB,.slice dO hv.length dv,.slice k8 K.rules.length k7,.slice kI K.before.length jY,.slice kJ K.after.length jZ,zI K.gone,zI K.new,zI K.af,.slice mE K.facts.length lE,.slice nM rows.length nt]) 6 ⟨_,_,_,.inl hf,rfl⟩<|zD 2<|ja ((K.before.length:Int)-(rX (pL p))) (by omega)<|zD 4<|jl (b:=f) (off:=0) (m:=13) (vs:=[c0,c1,c2,.slice eI K.cs.length eB,.slice dO hv.length dv,.slice k8 K.rules.length k7,.slice kI K.before.length jY,.slice kJ K.after.length jZ,zI K.gone,zI K.new,zI K.af,.slice mE K.facts.length lE,.slice nM rows.length nt]) 7 ⟨_,_,_,.inl hf,rfl⟩<|zD 2<|ja ((K.after.length:Int)-(rX (pL p))) (by omega)<|zD 1<|aL 19 fun Ea Eg BB=>jn fun b8=>bB BB [1,2]<|aL 20 fun Ac Aj zd=>jd 1 [0]<|dZ zd<|jd 8 [2]<|dW [1,1,1,0,1,0,0] [] (fun(zz:Nat×Int)=>[(0,zP f),(1,zI (past:Int)),(6,zP b6),(8,zP b8),(32,.agg ⟨[zI (p 0),zI (p 1),zI (p 2),zI (p 3)]⟩),(33,zI (zz.1:Int))]) (fun(zz:Nat×Int)=>[.b b8 (.cells ⟨[zI (past:Int),zI (p 0),zI (p 1),zI (p 2),zI (p 3),zI ((K.before.length:Int)-(rX (pL p))),zI ((K.after.length:Int)-(rX (pL p))),zI zz.2]⟩ 115 (0,0)),.b b6 (.cells ⟨[zI 0,zI 0,zI 0,zI 0,zI 0,zI 0,zI 0,zI 0]⟩ 115 (0,0))]) (fun(zz:Nat×Int)=>zz.1≤4∧zz.2=Cb IT p zz.1∧(0≤zz.2∧zz.2≤zz.1)) (fun(zz:Nat×Int)=>4-zz.1) (⟨0,0⟩) ⟨by dsimp only;omega,rfl,by dsimp only;omega⟩ [0,1] ?_
 rintro⟨k,m⟩ hI K3 X7 rest
 dsimp only at hI
 refine zD 5<|zJ 34 ((k:Int) <4) (fun h3=>?_) fun h3=>?_
 ·
  refine zD 7<|jai (l:=[zI (p 0),zI (p 1),zI (p 2),zI (p 3)]) (k:Int) 4 1 false (by omega) (v:= zI (p k)) (show nth (eP4 p) _=_ from alm (by omega))<|zD 4 ?_
  have hpk:=hp k
  refine zD 4<|js 39 (decide ((p k)>0)) (fun h4=>?_) (fun h4=>?_)
  ·
   have ye:=h4
   replace ye:=of_decide_eq_true ye
   refine zD 3<|jl (b:=f) (off:=0) (m:=13) (vs:=[c0,c1,c2,.slice eI K.cs.length eB,.slice dO hv.length dv,.slice k8 K.rules.length k7,.slice kI K.before.length jY,.slice kJ K.after.length jZ,zI K.gone,zI K.new,zI K.af,.slice mE K.facts.length lE,.slice nM rows.length nt]) 12 ⟨_,_,_,.inl hf,rfl⟩<|zD 3<|ja ((p k)-1) (by omega) ?_
   obtain⟨x48,GR⟩:=zG rows past
   refine iA nt 16 Mx GR<|GM (b:=Ej) (off:=Ei+past*16+0) (len:=4) (sz:=4) (k:Int) (by omega)<|GM (b:=Ej) (off:=Ei+past*16+0+(k:Int).toNat*4) (len:=4) (sz:=1) ((p k)-1) (by omega)<|jl (b:=Ej) (off:=Ei+past*16+0+(k:Int).toNat*4+((p k)-1).toNat*1) (m:=1) (vs:=[.bool (x48.c k ((p k)-1).toNat)]) 0 (show cB ⟨ro,[]⟩ Ej (Ei+past*16+0+(k:Int).toNat*4+((p k)-1).toNat*1) 1 [.bool (x48.c k ((p k)-1).toNat)] from by have:=adr (Mw _ _ GR) (ada (r:=x48) (a:=k) (j:=(p k)-1) (by omega) (by omega));simpa [Nat.add_assoc] using this) ?_
   refine zD 3<|js 53 (!(x48.c k ((p k)-1).toNat)) (fun h5=>?_) (fun h5=>?_)
   ·
    try simp only[zB] at h5
    refine jd 4 [0]<|ja (m+1) (by omega)<|jd 4 [0]<|ja ((k:Int)+1) (by omega)<|zD 2<|bJ X7 (⟨k+1,(m+1)⟩) ⟨by dsimp only;omega,by dsimp only;rw[Cb,hI.2.1];rw[Cp] at GR;cases GR;simp only[decide_eq_true ye,h5,Bool.not_false,Bool.not_true,Bool.and_true,Bool.and_false,cond_true,cond_false,Int.add_zero],by dsimp only;omega⟩ (by dsimp only;omega) [0,1] (Sub.refl _)
   try simp only[zB] at h5
   refine zD 3<|ja ((k:Int)+1) (by omega)<|zD 2<|bJ X7 (⟨k+1,m⟩) ⟨by dsimp only;omega,by dsimp only;rw[Cb,hI.2.1];rw[Cp] at GR;cases GR;simp only[decide_eq_true ye,h5,Bool.not_false,Bool.not_true,Bool.and_true,Bool.and_false,cond_true,cond_false,Int.add_zero],by dsimp only;omega⟩ (by dsimp only;omega) [0,1] (Sub.refl _)
  have ye:=h4
  replace ye:=of_decide_eq_false ye
  refine zD 18<|ja ((k:Int)+1) (by omega)<|zD 2<|bJ X7 (⟨k+1,m⟩) ⟨by dsimp only;omega,by dsimp only;rw[Cb,hI.2.1];simp only[decide_eq_false ye,Bool.false_and,cond_false,Int.add_zero],by dsimp only;omega⟩ (by dsimp only;omega) [0,1] (Sub.refl _)
 refine jd 8 [0,1]<|aF q0 (.agg ⟨[zI (past:Int),zI (p 0),zI (p 1),zI (p 2),zI (p 3),zI ((K.before.length:Int)-(rX (pL p))),zI ((K.after.length:Int)-(rX (pL p))),zI m]⟩) [1] [] [] (Sub.refl _) ⟨_,_,rfl,rfl,by rw[hI.2.1,show k=4 by omega];rfl,rfl⟩
def wY(v:Value)(xs:List ai)(Y:Cells):Prop:=∃ys,ys.Perm xs∧az v 8 115 cu ys Y
def gG(xs:List ai):Prop:=∀x∈xs,0≤x.past∧x.past≤1000
theorem gG.perm{xs ys:List ai}(h:gG xs)(hp:ys.Perm xs):gG ys:=fun x hx=>h x (hp.mem_iff.1 hx)
theorem Fi{x:Int}(h:0≤x∧x≤1000000000):IntKind.i64.wrap (aS .u64 (IntKind.u64.wrap x) 1)=x / 2:=by
 have h1:IntKind.u64.wrap x=x:=sD .u64 rfl _ (by omega) (by simp[IntKind.bits];omega)
 rw[h1]
 have h2:aS .u64 x 1=x / 2:=by
  show x.fdiv 2=x / 2
  exact Int.fdiv_eq_ediv_of_nonneg _ (by decide)
 rw[h2,kG _ (by omega)]
theorem amj{x y:ai}{ro:Nat→Option Obj}(hx:0≤x.past∧x.past≤1000)(hy:0≤y.past∧y.past≤1000):dt zT 110 [.agg ⟨[zI x.past,zI x.w0,zI x.w1,zI x.w2,zI x.w3,zI x.gone,zI x.new,zI x.af]⟩,.agg ⟨[zI y.past,zI y.w0,zI y.w1,zI y.w2,zI y.w3,zI y.gone,zI y.new,zI y.af]⟩] ro (zI (x.past-y.past)):=by
 refine bD au [] [] ba<|zD 2<|jn fun b2=>jn fun b3=>jd 8 [1,0]<|ja (x.past-y.past) (by omega)<|zD 3<|aF q0 (zI (x.past-y.past)) [] [] [] (Sub.refl _) ⟨_,_,rfl,rfl,rfl,rfl⟩
theorem azZ{v:Value}{xs:List ai}{L:Cells}{a b:Int}{ro:Nat→Option Obj}(ho:az v 8 115 cu xs L)(hN:xs.length≤100000)(hP:gG xs)(BA:0≤a∧a≤b∧b≤xs.length):eG zT 169 [v,zI a,zI b,.func (.func 110) ⟨[]⟩ ⟨[]⟩] ro L (fun r Y=>wY v xs Y):=by
 refine bD au [.l L] [] ba<|zD 3<|ja (a+1) (by omega)<|zD 3<|dW [1,0,0] [] (fun(zz:Int×(List ai)×Cells)=>[(0,v),(1,zI a),(2,zI b),(3,.func (.func 110) ⟨[]⟩ ⟨[]⟩),(8,zI zz.1)]) (fun(zz:Int×(List ai)×Cells)=>[.l zz.2.2]) (fun(zz:Int×(List ai)×Cells)=>(a+1≤zz.1)∧az v 8 115 cu zz.2.1 zz.2.2∧zz.2.1.Perm xs) (fun(zz:Int×(List ai)×Cells)=>(b-zz.1).toNat) (⟨(a+1),xs,L⟩) ⟨by dsimp only;omega,ho,.refl _⟩ [0] ?_
 rintro⟨i,ys,L⟩ hI K1 bK rest
 dsimp only at hI
 have Xw:=hI.2.2.length_eq
 have hyp:=hP.perm hI.2.2
 refine zD 7<|zJ 14 (i <b) (fun h1=>?_) fun h1=>?_
 ·
  refine zD 10<|dW [1,0,0,1,0,0,1,0,0] [K1] (fun(zz:Int×(List ai)×Cells)=>[(0,v),(1,zI a),(2,zI b),(3,.func (.func 110) ⟨[]⟩ ⟨[]⟩),(8,zI i),(9,zI zz.1)]) (fun(zz:Int×(List ai)×Cells)=>[.l zz.2.2]) (fun(zz:Int×(List ai)×Cells)=>(a≤zz.1∧zz.1≤i)∧az v 8 115 cu zz.2.1 zz.2.2∧zz.2.1.Perm xs) (fun(zz:Int×(List ai)×Cells)=>(zz.1-a).toNat) (⟨i,ys,L⟩) ⟨by dsimp only;omega,hI.2⟩ [0] ?_
  rintro⟨j,ys,L⟩ hJ K2 mr rest
  dsimp only at hJ
  have Xw:=hJ.2.2.length_eq
  have hyp:=hP.perm hJ.2.2
  refine zD 7<|js 3 (decide (j>a)) (fun h2=>?_) (fun h2=>?_)
  ·
   have mI:=h2
   replace mI:=of_decide_eq_true mI
   refine zD 3 ?_
   obtain⟨yq,lH⟩:=zG ys (j.toNat) (by first|omega| (simp only[List.length_set];omega))
   refine pP j 8 hJ.2.1 lH (Int.toNat_of_nonneg (show 0≤j∧j <((ys).length:Int) from (by first|omega| (simp only[List.length_set];omega))).1).symm (fun ee agR=>?_)
   refine nS 0 [0] L (fun s _ hZ=>cm hJ.2.1 agR hZ lH)<|zD 2<|ja (j-1) (by omega) ?_
   obtain⟨ox,ju⟩:=zG ys ((j-1).toNat) (by first|omega| (simp only[List.length_set];omega))
   refine pP (j-1) 8 hJ.2.1 ju (Int.toNat_of_nonneg (show 0≤(j-1)∧(j-1) <((ys).length:Int) from (by first|omega| (simp only[List.length_set];omega))).1).symm (fun b30 UI=>?_)
   refine nS 0 [0] L (fun s _ hZ=>cm hJ.2.1 UI hZ ju)<|aL 14 fun sB sJ q5=>jp (vs:=[.agg ⟨[zI yq.past,zI yq.w0,zI yq.w1,zI yq.w2,zI yq.w3,zI yq.gone,zI yq.new,zI yq.af]⟩,.agg ⟨[zI ox.past,zI ox.w0,zI ox.w1,zI ox.w2,zI ox.w3,zI ox.gone,zI ox.new,zI ox.af]⟩]) [] [] (fun aC hs hZ=>(amj (x:=yq) (y:=ox) (hyp _ (List.mem_of_getElem? lH)) (hyp _ (List.mem_of_getElem? ju))))<|bB q5 [0]<|zD 3<|zJ 34 ((yq.past-ox.past) <0) (fun h4=>?_) fun h4=>?_
   ·
    refine zD 9<|ja (j-1) (by omega)<|zD 2<|ja (j-1) (by omega) ?_
    obtain⟨pJ,xP⟩:=zG ys ((j-1).toNat) (by first|omega| (simp only[List.length_set];omega))
    refine pP (j-1) 8 hJ.2.1 xP (Int.toNat_of_nonneg (show 0≤(j-1)∧(j-1) <((ys).length:Int) from (by first|omega| (simp only[List.length_set];omega))).1).symm (fun b45 agQ=>?_)
    refine nS 0 [0] L (fun s _ hZ=>cm hJ.2.1 agQ hZ xP)<|zD 2 ?_
    obtain⟨IM,Ez⟩:=zG ys (j.toNat) (by first|omega| (simp only[List.length_set];omega))
    refine pP j 8 hJ.2.1 Ez (Int.toNat_of_nonneg (show 0≤j∧j <((ys).length:Int) from (by first|omega| (simp only[List.length_set];omega))).1).symm (fun b49 agP=>?_)
    refine nS 0 [0] L (fun s _ hZ=>cm hJ.2.1 agP hZ Ez) ?_
    obtain⟨x51,Ey⟩:=zG ys (j.toNat) (by first|omega| (simp only[List.length_set];omega))
    refine pP j 8 hJ.2.1 Ey (Int.toNat_of_nonneg (show 0≤j∧j <((ys).length:Int) from (by first|omega| (simp only[List.length_set];omega))).1).symm (fun b51 agO=>?_)
    refine aL 15 fun sA sI qZ=>Oo 0 0 [zI pJ.past,zI pJ.w0,zI pJ.w1,zI pJ.w2,zI pJ.w3,zI pJ.gone,zI pJ.new,zI pJ.af] pJ hJ.2.1 agO Ey rfl rfl (Nat.le_of_ble_eq_true rfl) fun L6 Ur=>iu qZ [] ?_
    obtain⟨x52,wm⟩:=zG ((ys.set j.toNat pJ)) ((j-1).toNat) (by first|omega| (simp only[List.length_set];omega))
    refine pP (j-1) 8 Ur wm (Int.toNat_of_nonneg (show 0≤(j-1)∧(j-1) <(((ys.set j.toNat pJ)).length:Int) from (by first|omega| (simp only[List.length_set];omega))).1).symm (fun b52 agN=>?_)
    refine aL 17 fun BG BM CC=>Oo 0 0 [zI IM.past,zI IM.w0,zI IM.w1,zI IM.w2,zI IM.w3,zI IM.gone,zI IM.new,zI IM.af] IM Ur agN wm rfl rfl (Nat.le_of_ble_eq_true rfl) fun L9 agc=>dZ CC<|zD 3<|ja (j-1) (by omega)<|zD 2<|bJ mr (⟨(j-1),((ys.set j.toNat pJ).set ((j-1).toNat) IM),L9⟩) ⟨by dsimp only;omega,agc,(nN Ez xP).trans hJ.2.2⟩ (by dsimp only;omega) [0] (Sub.refl _)
   refine zD 4<|ja (i+1) (by omega)<|zD 2<|bJ bK (⟨(i+1),ys,L⟩) ⟨by dsimp only;omega,hJ.2⟩ (by dsimp only;omega) [0] (Sub.refl _)
  have mI:=h2
  replace mI:=of_decide_eq_false mI
  refine zD 18<|ja (i+1) (by omega)<|zD 2<|bJ bK (⟨(i+1),ys,L⟩) ⟨by dsimp only;omega,hJ.2⟩ (by dsimp only;omega) [0] (Sub.refl _)
 refine zD 2<|aF q0 (.tuple ⟨[]⟩) [] [0] L (Sub.refl _) ⟨_,_,rfl,rfl,ys,hI.2.2,hI.2.1⟩
def aIm(n:Nat):Prop:=∀(ro:Nat→Option Obj) (v:Value) (xs:List ai) (L:Cells) (a m b:Int),az v 8 115 cu xs L→xs.length≤100000→gG xs→(0≤a∧a <m∧m <b∧b≤xs.length)→(b-a).toNat=n→
 eG zT 170 [v,zI a,zI m,zI b,.func (.func 110) ⟨[]⟩ ⟨[]⟩] ro L (fun _ Y=>wY v xs Y)
theorem ac8{v:Value}{xs:List ai}{L:Cells}{a b n:Int}{ro:Nat→Option Obj}(ho:az v 8 115 cu xs L)(hN:xs.length≤100000)(hP:gG xs)(BA:(0≤a∧0≤b∧0≤n)∧a+n≤xs.length∧b+n≤xs.length∧a≠b):eG zT 230 [v,zI a,zI b,zI n,.func (.func 110) ⟨[]⟩ ⟨[]⟩] ro L (fun r Y=>wY v xs Y):=by
 refine bD au [.l L] [] ba<|zD 5<|dW [1,0,0] [] (fun(zz:Int×(List ai)×Cells)=>[(0,v),(1,zI a),(2,zI b),(3,zI n),(10,zI zz.1)]) (fun(zz:Int×(List ai)×Cells)=>[.l zz.2.2]) (fun(zz:Int×(List ai)×Cells)=>(0≤zz.1∧zz.1≤n)∧az v 8 115 cu zz.2.1 zz.2.2∧zz.2.1.Perm xs) (fun(zz:Int×(List ai)×Cells)=>(n-zz.1).toNat) (⟨0,xs,L⟩) ⟨by dsimp only;omega,ho,.refl _⟩ [0] ?_
 rintro⟨i,ys,L⟩ hI K1 bK rest
 dsimp only at hI
 have Xw:=hI.2.2.length_eq
 have hyp:=hP.perm hI.2.2
 refine zD 7<|zJ 13 (i <n) (fun h1=>?_) fun h1=>?_
 ·
  refine zD 8<|ja (a+i) (by omega)<|zD 3<|ja (b+i) (by omega)<|zD 3<|ja (b+i) (by omega) ?_
  obtain⟨YZ,atS⟩:=zG ys ((b+i).toNat) (by first|omega| (simp only[List.length_set];omega))
  refine pP (b+i) 8 hI.2.1 atS (Int.toNat_of_nonneg (show 0≤(b+i)∧(b+i) <((ys).length:Int) from (by first|omega| (simp only[List.length_set];omega))).1).symm (fun b28 aTC=>?_)
  refine nS 0 [0] L (fun s _ hZ=>cm hI.2.1 aTC hZ atS)<|zD 3<|ja (a+i) (by omega) ?_
  obtain⟨YY,Nf⟩:=zG ys ((a+i).toNat) (by first|omega| (simp only[List.length_set];omega))
  refine pP (a+i) 8 hI.2.1 Nf (Int.toNat_of_nonneg (show 0≤(a+i)∧(a+i) <((ys).length:Int) from (by first|omega| (simp only[List.length_set];omega))).1).symm (fun b34 aTz=>?_)
  refine nS 0 [0] L (fun s _ hZ=>cm hI.2.1 aTz hZ Nf) ?_
  obtain⟨x36,yZ⟩:=zG ys ((a+i).toNat) (by first|omega| (simp only[List.length_set];omega))
  refine pP (a+i) 8 hI.2.1 yZ (Int.toNat_of_nonneg (show 0≤(a+i)∧(a+i) <((ys).length:Int) from (by first|omega| (simp only[List.length_set];omega))).1).symm (fun dM avJ=>?_)
  refine aL 21 fun Ac Aj zd=>Oo 0 0 [zI YZ.past,zI YZ.w0,zI YZ.w1,zI YZ.w2,zI YZ.w3,zI YZ.gone,zI YZ.new,zI YZ.af] YZ hI.2.1 avJ yZ rfl rfl (Nat.le_of_ble_eq_true rfl) fun L3 ho4=>iu zd [] ?_
  obtain⟨x37,aan⟩:=zG ((ys.set ((a+i).toNat) YZ)) ((b+i).toNat) (by first|omega| (simp only[List.length_set];omega))
  refine pP (b+i) 8 ho4 aan (Int.toNat_of_nonneg (show 0≤(b+i)∧(b+i) <(((ys.set ((a+i).toNat) YZ)).length:Int) from (by first|omega| (simp only[List.length_set];omega))).1).symm (fun b37 aTx=>?_)
  refine aL 23 fun sB sJ q5=>Oo 0 0 [zI YY.past,zI YY.w0,zI YY.w1,zI YY.w2,zI YY.w3,zI YY.gone,zI YY.new,zI YY.af] YY ho4 aTx aan rfl rfl (Nat.le_of_ble_eq_true rfl) fun L6 Ur=>dZ q5<|zD 3<|ja (i+1) (by omega)<|zD 2<|bJ bK (⟨(i+1),((ys.set ((a+i).toNat) YZ).set ((b+i).toNat) YY),L6⟩) ⟨by dsimp only;omega,Ur,(nN Nf atS).trans hI.2.2⟩ (by dsimp only;omega) [0] (Sub.refl _)
 refine zD 2<|aF q0 (.tuple ⟨[]⟩) [] [0] L (Sub.refl _) ⟨_,_,rfl,rfl,ys,hI.2.2,hI.2.1⟩
theorem aOa{v:Value}{xs:List ai}{L:Cells}{a m b:Int}{ro:Nat→Option Obj}(ho:az v 8 115 cu xs L)(hN:xs.length≤100000)(hP:gG xs)(BA:0≤a∧a <m∧m <b∧b≤xs.length):eG zT 202 [v,zI a,zI m,zI b,.func (.func 110) ⟨[]⟩ ⟨[]⟩] ro L (fun r Y=>wY v xs Y):=by
 refine bD au [.l L] [] ba<|zD 4<|ja (m-a) (by omega)<|zD 6<|ja (b-m) (by omega)<|zD 4<|dW [1,1,0,0,0] [] (fun(zz:Int×Int×(List ai)×Cells)=>[(0,v),(2,zI m),(4,.func (.func 110) ⟨[]⟩ ⟨[]⟩),(10,zI zz.1),(11,zI zz.2.1)]) (fun(zz:Int×Int×(List ai)×Cells)=>[.l zz.2.2.2]) (fun(zz:Int×Int×(List ai)×Cells)=>((0 <zz.1∧zz.1≤m-a)∧0 <zz.2.1∧zz.2.1≤b-m)∧az v 8 115 cu zz.2.2.1 zz.2.2.2∧zz.2.2.1.Perm xs) (fun(zz:Int×Int×(List ai)×Cells)=>(zz.1+zz.2.1).toNat) (⟨(m-a),(b-m),xs,L⟩) ⟨by dsimp only;omega,ho,.refl _⟩ [0] ?_
 rintro⟨i,j,ys,L⟩ hI K1 bK rest
 dsimp only at hI
 have Xw:=hI.2.2.length_eq
 have hyp:=hP.perm hI.2.2
 refine zD 7<|js 20 (!decide (i=j)) (fun h1=>?_) (fun h1=>?_)
 ·
  replace h1:=of_decide_eq_false (by simpa using h1)
  refine zD 9<|zJ 23 (i>j) (fun h2=>?_) fun h2=>?_
  ·
   refine zD 6<|ja (m-i) (by omega)<|zD 3<|jc (vs:=[v,zI (m-i),zI m,zI j,.func (.func 110) ⟨[]⟩ ⟨[]⟩]) [0] (ac8 hI.2.1 (by omega) hyp (by omega)) ?_
   rintro bcq Y31 ⟨aLx,aun,aRE⟩
   have aYI:=aun.length_eq
   have aYB:=gG.perm hyp aun
   refine zD 4<|ja (i-j) (by omega)<|zD 2<|bJ bK (⟨(i-j),j,aLx,Y31⟩) ⟨by dsimp only;omega,aRE,(aun.trans hI.2.2)⟩ (by dsimp only;omega) [0] (Sub.refl _)
  refine zD 6<|ja (m-i) (by omega)<|zD 2<|ja (m+j) (by omega)<|zD 1<|ja ((m+j)-i) (by omega)<|zD 2<|jc (vs:=[v,zI (m-i),zI ((m+j)-i),zI i,.func (.func 110) ⟨[]⟩ ⟨[]⟩]) [0] (ac8 hI.2.1 (by omega) hyp (by omega)) ?_
  rintro bco Y46 ⟨aLv,aul,aRA⟩
  have aYG:=aul.length_eq
  have aYz:=gG.perm hyp aul
  refine zD 4<|ja (j-i) (by omega)<|zD 2<|bJ bK (⟨i,(j-i),aLv,Y46⟩) ⟨by dsimp only;omega,aRA,(aul.trans hI.2.2)⟩ (by dsimp only;omega) [0] (Sub.refl _)
 replace h1:=of_decide_eq_true (by simpa using h1)
 refine zD 6<|ja (m-i) (by omega)<|zD 3<|jc (vs:=[v,zI (m-i),zI m,zI i,.func (.func 110) ⟨[]⟩ ⟨[]⟩]) [0] (ac8 hI.2.1 (by omega) hyp (by omega)) ?_
 rintro bcn Y57 ⟨bbC,auj,amH⟩
 have aYF:=auj.length_eq
 have aYy:=gG.perm hyp auj
 refine zD 1<|aF q0 (.tuple ⟨[]⟩) [] [0] Y57 (Sub.refl _) ⟨_,_,rfl,rfl,_,(auj.trans hI.2.2),amH⟩
theorem azW{v:Value}{xs:List ai}{L:Cells}{a m b:Int}{ro:Nat→Option Obj}(ih:∀k,k <n→aIm k)(ho:az v 8 115 cu xs L)(hN:xs.length≤100000)(hP:gG xs)(BA:0≤a∧a <m∧m <b∧b≤xs.length)(hn:(b-a).toNat=n):eG zT 170 [v,zI a,zI m,zI b,.func (.func 110) ⟨[]⟩ ⟨[]⟩] ro L (fun r Y=>wY v xs Y):=by
 refine bD au [.l L] [] ba<|zD 5<|ja (m-a) (by omega)<|zD 2<|zJ 28 ((m-a)=1) (fun h1=>?_) fun h1=>?_
 ·
  refine zD 13<|dW [0,1,0,1,1,0,0,0] [] (fun(zz:Int×Int)=>[(0,v),(1,zI a),(2,zI m),(3,zI b),(4,.func (.func 110) ⟨[]⟩ ⟨[]⟩),(10,zI zz.1),(11,zI zz.2)]) (fun(zz:Int×Int)=>[.l L]) (fun(zz:Int×Int)=>(m≤zz.1∧zz.1≤zz.2)∧zz.2≤b) (fun(zz:Int×Int)=>(zz.2-zz.1).toNat) (⟨m,b⟩) (by dsimp only;omega) [0] ?_
  rintro⟨i,j⟩ hI K1 bK rest
  dsimp only at hI
  refine zD 7<|zJ 33 (i <j) (fun h2=>?_) fun h2=>?_
  ·
   refine zD 7<|ja (i+j) (by omega)<|zD 6 ?_
   have hh:=Fi (x:=i+j) (by omega)
   refine zD 4 ?_
   obtain⟨x43,atP⟩:=zG xs ((IntKind.i64.wrap (aS .u64 (IntKind.u64.wrap (i+j)) 1)).toNat) (by first|omega| (simp only[List.length_set];omega))
   refine pP (IntKind.i64.wrap (aS .u64 (IntKind.u64.wrap (i+j)) 1)) 8 ho atP (Int.toNat_of_nonneg (show 0≤(IntKind.i64.wrap (aS .u64 (IntKind.u64.wrap (i+j)) 1))∧(IntKind.i64.wrap (aS .u64 (IntKind.u64.wrap (i+j)) 1)) <((xs).length:Int) from (by first|omega| (simp only[List.length_set];omega))).1).symm (fun b43 aTs=>?_)
   refine nS 0 [0] L (fun s _ hZ=>cm ho aTs hZ atP)<|zD 2 ?_
   obtain⟨x47,Je⟩:=zG xs (a.toNat) (by first|omega| (simp only[List.length_set];omega))
   refine pP a 8 ho Je (Int.toNat_of_nonneg (show 0≤a∧a <((xs).length:Int) from (by first|omega| (simp only[List.length_set];omega))).1).symm (fun b47 avI=>?_)
   refine nS 0 [0] L (fun s _ hZ=>cm ho avI hZ Je)<|aL 9 fun Ac Aj zd=>jp (vs:=[.agg ⟨[zI x43.past,zI x43.w0,zI x43.w1,zI x43.w2,zI x43.w3,zI x43.gone,zI x43.new,zI x43.af]⟩,.agg ⟨[zI x47.past,zI x47.w0,zI x47.w1,zI x47.w2,zI x47.w3,zI x47.gone,zI x47.new,zI x47.af]⟩]) [] [] (fun aC hs hZ=>(amj (x:=x43) (y:=x47) (hP _ (List.mem_of_getElem? atP)) (hP _ (List.mem_of_getElem? Je))))<|bB zd [0]<|zD 2<|zJ 50 ((x43.past-x47.past) <0) (fun h4=>?_) fun h4=>?_
   ·
    refine zD 3<|ja ((IntKind.i64.wrap (aS .u64 (IntKind.u64.wrap (i+j)) 1))+1) (by omega)<|zD 2<|bJ bK (⟨((IntKind.i64.wrap (aS .u64 (IntKind.u64.wrap (i+j)) 1))+1),j⟩) (by dsimp only;omega) (by dsimp only;omega) [0] (Sub.refl _)
   refine zD 5<|bJ bK (⟨i,(IntKind.i64.wrap (aS .u64 (IntKind.u64.wrap (i+j)) 1))⟩) (by dsimp only;omega) (by dsimp only;omega) [0] (Sub.refl _)
  refine zD 9<|dW [0,1,0,1,1,1,0,1,0,0] [] (fun(zz:Int×(List ai)×Cells)=>[(0,v),(1,zI a),(2,zI m),(3,zI b),(4,.func (.func 110) ⟨[]⟩ ⟨[]⟩),(10,zI i),(13,zI zz.1)]) (fun(zz:Int×(List ai)×Cells)=>[.l zz.2.2]) (fun(zz:Int×(List ai)×Cells)=>a≤zz.1∧az v 8 115 cu zz.2.1 zz.2.2∧zz.2.1.Perm xs) (fun(zz:Int×(List ai)×Cells)=>(i-zz.1).toNat) (⟨a,xs,L⟩) ⟨by dsimp only;omega,ho,.refl _⟩ [0] ?_
  rintro⟨k,ys,L⟩ hJ K3 X7 rest
  dsimp only at hJ
  have Xw:=hJ.2.2.length_eq
  have hyp:=hP.perm hJ.2.2
  refine zD 5<|ja (i-1) (by omega)<|zD 2<|zJ 58 (k <(i-1)) (fun h5=>?_) fun h5=>?_
  ·
   refine zD 9<|ja (k+1) (by omega)<|zD 2<|ja (k+1) (by omega) ?_
   obtain⟨SK,aam⟩:=zG ys ((k+1).toNat) (by first|omega| (simp only[List.length_set];omega))
   refine pP (k+1) 8 hJ.2.1 aam (Int.toNat_of_nonneg (show 0≤(k+1)∧(k+1) <((ys).length:Int) from (by first|omega| (simp only[List.length_set];omega))).1).symm (fun b69 avG=>?_)
   refine nS 0 [0] L (fun s _ hZ=>cm hJ.2.1 avG hZ aam)<|zD 2 ?_
   obtain⟨x73,aal⟩:=zG ys (k.toNat) (by first|omega| (simp only[List.length_set];omega))
   refine pP k 8 hJ.2.1 aal (Int.toNat_of_nonneg (show 0≤k∧k <((ys).length:Int) from (by first|omega| (simp only[List.length_set];omega))).1).symm (fun b73 aTl=>?_)
   refine nS 0 [0] L (fun s _ hZ=>cm hJ.2.1 aTl hZ aal) ?_
   obtain⟨x75,Ue⟩:=zG ys (k.toNat) (by first|omega| (simp only[List.length_set];omega))
   refine pP k 8 hJ.2.1 Ue (Int.toNat_of_nonneg (show 0≤k∧k <((ys).length:Int) from (by first|omega| (simp only[List.length_set];omega))).1).symm (fun b75 aTj=>?_)
   refine aL 15 fun sA sI qZ=>Oo 0 0 [zI SK.past,zI SK.w0,zI SK.w1,zI SK.w2,zI SK.w3,zI SK.gone,zI SK.new,zI SK.af] SK hJ.2.1 aTj Ue rfl rfl (Nat.le_of_ble_eq_true rfl) fun L7 ho8=>iu qZ [] ?_
   obtain⟨x76,aB6⟩:=zG ((ys.set k.toNat SK)) ((k+1).toNat) (by first|omega| (simp only[List.length_set];omega))
   refine pP (k+1) 8 ho8 aB6 (Int.toNat_of_nonneg (show 0≤(k+1)∧(k+1) <(((ys.set k.toNat SK)).length:Int) from (by first|omega| (simp only[List.length_set];omega))).1).symm (fun b76 aTi=>?_)
   refine aL 17 fun BG BM CC=>Oo 0 0 [zI x73.past,zI x73.w0,zI x73.w1,zI x73.w2,zI x73.w3,zI x73.gone,zI x73.new,zI x73.af] x73 ho8 aTi aB6 rfl rfl (Nat.le_of_ble_eq_true rfl) fun VQ agb=>dZ CC<|zD 3<|ja (k+1) (by omega)<|zD 2<|bJ X7 (⟨(k+1),((ys.set k.toNat SK).set ((k+1).toNat) x73),VQ⟩) ⟨by dsimp only;omega,agb,(nN aal aam).trans hJ.2.2⟩ (by dsimp only;omega) [0] (Sub.refl _)
  refine zD 3<|aF q0 (.tuple ⟨[]⟩) [] [0] L (Sub.refl _) ⟨_,_,rfl,rfl,_,hJ.2.2,hJ.2.1⟩
 refine zD 7<|ja (b-m) (by omega)<|zD 2<|zJ 80 ((b-m)=1) (fun IG=>?_) fun IG=>?_
 ·
  refine zD 13<|dW [1,0,1,0,1,1,0,0,0] [] (fun(zz:Int×Int)=>[(0,v),(1,zI a),(2,zI m),(3,zI b),(4,.func (.func 110) ⟨[]⟩ ⟨[]⟩),(14,zI zz.1),(15,zI zz.2)]) (fun(zz:Int×Int)=>[.l L]) (fun(zz:Int×Int)=>(a≤zz.1∧zz.1≤zz.2)∧zz.2≤m) (fun(zz:Int×Int)=>(zz.2-zz.1).toNat) (⟨a,m⟩) (by dsimp only;omega) [0] ?_
  rintro⟨i,j⟩ hI K6 hK6 rest
  dsimp only at hI
  refine zD 7<|zJ 85 (i <j) (fun BC=>?_) fun BC=>?_
  ·
   refine zD 7<|ja (i+j) (by omega)<|zD 6 ?_
   have hh:=Fi (x:=i+j) (by omega)
   refine zD 4 ?_
   obtain⟨x95,atO⟩:=zG xs (m.toNat) (by first|omega| (simp only[List.length_set];omega))
   refine pP m 8 ho atO (Int.toNat_of_nonneg (show 0≤m∧m <((xs).length:Int) from (by first|omega| (simp only[List.length_set];omega))).1).symm (fun b95 aTg=>?_)
   refine nS 0 [0] L (fun s _ hZ=>cm ho aTg hZ atO)<|zD 2 ?_
   obtain⟨x99,atN⟩:=zG xs ((IntKind.i64.wrap (aS .u64 (IntKind.u64.wrap (i+j)) 1)).toNat) (by first|omega| (simp only[List.length_set];omega))
   refine pP (IntKind.i64.wrap (aS .u64 (IntKind.u64.wrap (i+j)) 1)) 8 ho atN (Int.toNat_of_nonneg (show 0≤(IntKind.i64.wrap (aS .u64 (IntKind.u64.wrap (i+j)) 1))∧(IntKind.i64.wrap (aS .u64 (IntKind.u64.wrap (i+j)) 1)) <((xs).length:Int) from (by first|omega| (simp only[List.length_set];omega))).1).symm (fun b99 aTf=>?_)
   refine nS 0 [0] L (fun s _ hZ=>cm ho aTf hZ atN)<|aL 9 fun abV acE Q9=>jp (vs:=[.agg ⟨[zI x95.past,zI x95.w0,zI x95.w1,zI x95.w2,zI x95.w3,zI x95.gone,zI x95.new,zI x95.af]⟩,.agg ⟨[zI x99.past,zI x99.w0,zI x99.w1,zI x99.w2,zI x99.w3,zI x99.gone,zI x99.new,zI x99.af]⟩]) [] [] (fun aC hs hZ=>(amj (x:=x95) (y:=x99) (hP _ (List.mem_of_getElem? atO)) (hP _ (List.mem_of_getElem? atN))))<|bB Q9 [0]<|zD 3<|js 103 (!(decide ((x95.past-x99.past) <0))) (fun EH=>?_) (fun EH=>?_)
   ·
    try simp only[zB] at EH
    refine zD 3<|ja ((IntKind.i64.wrap (aS .u64 (IntKind.u64.wrap (i+j)) 1))+1) (by omega)<|zD 2<|bJ hK6 (⟨((IntKind.i64.wrap (aS .u64 (IntKind.u64.wrap (i+j)) 1))+1),j⟩) (by dsimp only;omega) (by dsimp only;omega) [0] (Sub.refl _)
   try simp only[zB] at EH
   refine zD 5<|bJ hK6 (⟨i,(IntKind.i64.wrap (aS .u64 (IntKind.u64.wrap (i+j)) 1))⟩) (by dsimp only;omega) (by dsimp only;omega) [0] (Sub.refl _)
  refine zD 9<|dW [1,0,1,0,1,1,1,0,1,0,0] [] (fun(zz:Int×(List ai)×Cells)=>[(0,v),(1,zI a),(2,zI m),(3,zI b),(4,.func (.func 110) ⟨[]⟩ ⟨[]⟩),(14,zI i),(17,zI zz.1)]) (fun(zz:Int×(List ai)×Cells)=>[.l zz.2.2]) (fun(zz:Int×(List ai)×Cells)=>(a≤i∧zz.1≤m)∧az v 8 115 cu zz.2.1 zz.2.2∧zz.2.1.Perm xs) (fun(zz:Int×(List ai)×Cells)=>(zz.1-i).toNat) (⟨m,xs,L⟩) ⟨by dsimp only;omega,ho,.refl _⟩ [0] ?_
  rintro⟨k,ys,L⟩ hJ K8 hK8 rest
  dsimp only at hJ
  have Xw:=hJ.2.2.length_eq
  have hyp:=hP.perm hJ.2.2
  refine zD 7<|zJ 110 (k>i) (fun Ju=>?_) fun Ju=>?_
  ·
   refine zD 9<|ja (k-1) (by omega)<|zD 2<|ja (k-1) (by omega) ?_
   obtain⟨BH,afy⟩:=zG ys ((k-1).toNat) (by first|omega| (simp only[List.length_set];omega))
   refine pP (k-1) 8 hJ.2.1 afy (Int.toNat_of_nonneg (show 0≤(k-1)∧(k-1) <((ys).length:Int) from (by first|omega| (simp only[List.length_set];omega))).1).symm (fun bg0 aEa=>?_)
   refine nS 0 [0] L (fun s _ hZ=>cm hJ.2.1 aEa hZ afy)<|zD 2 ?_
   obtain⟨IQ,afx⟩:=zG ys (k.toNat) (by first|omega| (simp only[List.length_set];omega))
   refine pP k 8 hJ.2.1 afx (Int.toNat_of_nonneg (show 0≤k∧k <((ys).length:Int) from (by first|omega| (simp only[List.length_set];omega))).1).symm (fun bgZ aD9=>?_)
   refine nS 0 [0] L (fun s _ hZ=>cm hJ.2.1 aD9 hZ afx) ?_
   obtain⟨bbI,apz⟩:=zG ys (k.toNat) (by first|omega| (simp only[List.length_set];omega))
   refine pP k 8 hJ.2.1 apz (Int.toNat_of_nonneg (show 0≤k∧k <((ys).length:Int) from (by first|omega| (simp only[List.length_set];omega))).1).symm (fun bgY aD8=>?_)
   refine aL 15 fun YU Zc UQ=>Oo 0 0 [zI BH.past,zI BH.w0,zI BH.w1,zI BH.w2,zI BH.w3,zI BH.gone,zI BH.new,zI BH.af] BH hJ.2.1 aD8 apz rfl rfl (Nat.le_of_ble_eq_true rfl) fun L18 aCX=>iu UQ [] ?_
   obtain⟨bbH,afw⟩:=zG ((ys.set k.toNat BH)) ((k-1).toNat) (by first|omega| (simp only[List.length_set];omega))
   refine pP (k-1) 8 aCX afw (Int.toNat_of_nonneg (show 0≤(k-1)∧(k-1) <(((ys.set k.toNat BH)).length:Int) from (by first|omega| (simp only[List.length_set];omega))).1).symm (fun N6 aD7=>?_)
   refine aL 17 fun Ft FL wy=>Oo 0 0 [zI IQ.past,zI IQ.w0,zI IQ.w1,zI IQ.w2,zI IQ.w3,zI IQ.gone,zI IQ.new,zI IQ.af] IQ aCX aD7 afw rfl rfl (Nat.le_of_ble_eq_true rfl) fun L21 aRG=>dZ wy<|zD 3<|ja (k-1) (by omega)<|zD 2<|bJ hK8 (⟨(k-1),((ys.set k.toNat BH).set ((k-1).toNat) IQ),L21⟩) ⟨by dsimp only;omega,aRG,(nN afx afy).trans hJ.2.2⟩ (by dsimp only;omega) [0] (Sub.refl _)
  refine zD 3<|aF q0 (.tuple ⟨[]⟩) [] [0] L (Sub.refl _) ⟨_,_,rfl,rfl,_,hJ.2.2,hJ.2.1⟩
 refine zD 6<|ja (a+b) (by omega)<|zD 6 ?_
 have bff:=Fi (x:=a+b) (by omega)
 refine zD 3<|ja ((IntKind.i64.wrap (aS .u64 (IntKind.u64.wrap (a+b)) 1))+m) (by omega)<|zD 14<|Iu [1,1,1,1,1,1] [] (fun(zz:Int×Int)=>[(0,v),(1,zI a),(2,zI m),(3,zI b),(4,.func (.func 110) ⟨[]⟩ ⟨[]⟩),(18,zI (IntKind.i64.wrap (aS .u64 (IntKind.u64.wrap (a+b)) 1))),(19,zI ((IntKind.i64.wrap (aS .u64 (IntKind.u64.wrap (a+b)) 1))+m)),(20,zI zz.1),(21,zI zz.2)]) (fun(zz:Int×Int)=>[.l L]) (fun(zz:Int×Int)=>(a≤zz.1∧zz.1≤zz.2)∧zz.2≤b∧a≤((IntKind.i64.wrap (aS .u64 (IntKind.u64.wrap (a+b)) 1))+m)-zz.2∧((IntKind.i64.wrap (aS .u64 (IntKind.u64.wrap (a+b)) 1))+m)-zz.1≤b) ?_ (fun K11 aGu=>?_)
 ·
  rintro⟨s0,r0⟩ hC rest
  dsimp only at hC
  refine zD 3<|ja (((IntKind.i64.wrap (aS .u64 (IntKind.u64.wrap (a+b)) 1))+m)-1) (by omega)<|zD 4<|dW [1,1,1,1,1,1,1,0,0,0] [] (fun(zz:Int×Int)=>[(0,v),(1,zI a),(2,zI m),(3,zI b),(4,.func (.func 110) ⟨[]⟩ ⟨[]⟩),(18,zI (IntKind.i64.wrap (aS .u64 (IntKind.u64.wrap (a+b)) 1))),(19,zI ((IntKind.i64.wrap (aS .u64 (IntKind.u64.wrap (a+b)) 1))+m)),(20,zI zz.1),(21,zI zz.2),(22,zI (((IntKind.i64.wrap (aS .u64 (IntKind.u64.wrap (a+b)) 1))+m)-1))]) (fun(zz:Int×Int)=>[.l L]) (fun(zz:Int×Int)=>(a≤zz.1∧zz.1≤zz.2)∧zz.2≤b∧a≤((IntKind.i64.wrap (aS .u64 (IntKind.u64.wrap (a+b)) 1))+m)-zz.2∧((IntKind.i64.wrap (aS .u64 (IntKind.u64.wrap (a+b)) 1))+m)-zz.1≤b) (fun(zz:Int×Int)=>(zz.2-zz.1).toNat) (⟨s0,r0⟩) hC [0] ?_
  rintro⟨sx,r⟩ hK K12 aGt rest
  dsimp only at hK
  refine zD 7<|zJ 151 (sx <r) (fun Fj=>?_) fun Fj=>?_
  ·
   refine zD 7<|ja (sx+r) (by omega)<|zD 6 ?_
   have hsr:=Fi (x:=sx+r) (by omega)
   refine zD 5<|ja ((((IntKind.i64.wrap (aS .u64 (IntKind.u64.wrap (a+b)) 1))+m)-1)-(IntKind.i64.wrap (aS .u64 (IntKind.u64.wrap (sx+r)) 1))) (by omega) ?_
   obtain⟨IP,afs⟩:=zG xs (((((IntKind.i64.wrap (aS .u64 (IntKind.u64.wrap (a+b)) 1))+m)-1)-(IntKind.i64.wrap (aS .u64 (IntKind.u64.wrap (sx+r)) 1))).toNat) (by first|omega| (simp only[List.length_set];omega))
   refine pP ((((IntKind.i64.wrap (aS .u64 (IntKind.u64.wrap (a+b)) 1))+m)-1)-(IntKind.i64.wrap (aS .u64 (IntKind.u64.wrap (sx+r)) 1))) 8 ho afs (Int.toNat_of_nonneg (show 0≤((((IntKind.i64.wrap (aS .u64 (IntKind.u64.wrap (a+b)) 1))+m)-1)-(IntKind.i64.wrap (aS .u64 (IntKind.u64.wrap (sx+r)) 1)))∧((((IntKind.i64.wrap (aS .u64 (IntKind.u64.wrap (a+b)) 1))+m)-1)-(IntKind.i64.wrap (aS .u64 (IntKind.u64.wrap (sx+r)) 1))) <((xs).length:Int) from (by first|omega| (simp only[List.length_set];omega))).1).symm (fun bgW aD5=>?_)
   refine nS 0 [0] L (fun s _ hZ=>cm ho aD5 hZ afs)<|zD 2 ?_
   obtain⟨IN,afr⟩:=zG xs ((IntKind.i64.wrap (aS .u64 (IntKind.u64.wrap (sx+r)) 1)).toNat) (by first|omega| (simp only[List.length_set];omega))
   refine pP (IntKind.i64.wrap (aS .u64 (IntKind.u64.wrap (sx+r)) 1)) 8 ho afr (Int.toNat_of_nonneg (show 0≤(IntKind.i64.wrap (aS .u64 (IntKind.u64.wrap (sx+r)) 1))∧(IntKind.i64.wrap (aS .u64 (IntKind.u64.wrap (sx+r)) 1)) <((xs).length:Int) from (by first|omega| (simp only[List.length_set];omega))).1).symm (fun bgV aD4=>?_)
   refine nS 0 [0] L (fun s _ hZ=>cm ho aD4 hZ afr)<|aL 11 fun aov aoR Nv=>jp (vs:=[.agg ⟨[zI IP.past,zI IP.w0,zI IP.w1,zI IP.w2,zI IP.w3,zI IP.gone,zI IP.new,zI IP.af]⟩,.agg ⟨[zI IN.past,zI IN.w0,zI IN.w1,zI IN.w2,zI IN.w3,zI IN.gone,zI IN.new,zI IN.af]⟩]) [] [] (fun aC hs hZ=>(amj (x:=IP) (y:=IN) (hP _ (List.mem_of_getElem? afs)) (hP _ (List.mem_of_getElem? afr))))<|bB Nv [0]<|zD 3<|js 171 (!(decide ((IP.past-IN.past) <0))) (fun h25=>?_) (fun h25=>?_)
   ·
    try simp only[zB] at h25
    refine zD 3<|ja ((IntKind.i64.wrap (aS .u64 (IntKind.u64.wrap (sx+r)) 1))+1) (by omega)<|zD 2<|bJ aGt (⟨((IntKind.i64.wrap (aS .u64 (IntKind.u64.wrap (sx+r)) 1))+1),r⟩) (by dsimp only;omega) (by dsimp only;omega) [0] (Sub.refl _)
   try simp only[zB] at h25
   refine zD 5<|bJ aGt (⟨sx,(IntKind.i64.wrap (aS .u64 (IntKind.u64.wrap (sx+r)) 1))⟩) (by dsimp only;omega) (by dsimp only;omega) [0] (Sub.refl _)
  refine zD 6<|ja (((IntKind.i64.wrap (aS .u64 (IntKind.u64.wrap (a+b)) 1))+m)-sx) (by omega)<|zD 9<|jj 4 [(0,v),(1,zI a),(2,zI m),(3,zI b),(4,.func (.func 110) ⟨[]⟩ ⟨[]⟩),(18,zI (IntKind.i64.wrap (aS .u64 (IntKind.u64.wrap (a+b)) 1))),(20,zI sx),(24,zI (((IntKind.i64.wrap (aS .u64 (IntKind.u64.wrap (a+b)) 1))+m)-sx)),(185,.bool ((decide (sx <m))&&(decide (m <(((IntKind.i64.wrap (aS .u64 (IntKind.u64.wrap (a+b)) 1))+m)-sx)))))] (fun gV=>?_) (fun hj=>?_)
  rotate_left
  refine js 181 (decide (sx <m)) (fun h26=>?_) (fun h26=>?_)
  ·
   have ahD:=h26
   replace ahD:=of_decide_eq_true ahD
   refine zD 4<|jw 185 (.bool ((decide (sx <m))&&(decide (m <(((IntKind.i64.wrap (aS .u64 (IntKind.u64.wrap (a+b)) 1))+m)-sx))))) (w:= .bool (decide (m <(((IntKind.i64.wrap (aS .u64 (IntKind.u64.wrap (a+b)) 1))+m)-sx)))) (by rw[h26]<;>rfl) ?_
   exact hj _ (by kernel_rfl) (by kernel_rfl)
  ·
   have ahD:=h26
   replace ahD:=of_decide_eq_false ahD
   refine zD 4<|jw 185 (.bool ((decide (sx <m))&&(decide (m <(((IntKind.i64.wrap (aS .u64 (IntKind.u64.wrap (a+b)) 1))+m)-sx))))) (w:= .bool false) (by rw[h26]<;>rfl) ?_
   exact hj _ (by kernel_rfl) (by kernel_rfl)
  refine zD 1<|Iu [1,1,1,1,1,1,1,1,1,1] [] (fun(zz:(List ai)×Cells)=>[(0,v),(1,zI a),(3,zI b),(4,.func (.func 110) ⟨[]⟩ ⟨[]⟩),(18,zI (IntKind.i64.wrap (aS .u64 (IntKind.u64.wrap (a+b)) 1))),(20,zI sx),(24,zI (((IntKind.i64.wrap (aS .u64 (IntKind.u64.wrap (a+b)) 1))+m)-sx))]) (fun(zz:(List ai)×Cells)=>[.l zz.2]) (fun(zz:(List ai)×Cells)=>zz.1.Perm xs∧az v 8 115 cu zz.1 zz.2) ?_ (fun K14 Jt=>?_)
  ·
   rintro⟨ys,L⟩ hA rest
   dsimp only at hA
   have Xw:=hA.1.length_eq
   have hyp:=hP.perm hA.1
   refine zD 7<|jj 4 [(0,v),(1,zI a),(3,zI b),(4,.func (.func 110) ⟨[]⟩ ⟨[]⟩),(18,zI (IntKind.i64.wrap (aS .u64 (IntKind.u64.wrap (a+b)) 1))),(20,zI sx),(24,zI (((IntKind.i64.wrap (aS .u64 (IntKind.u64.wrap (a+b)) 1))+m)-sx)),(199,.bool ((decide (a <sx))&&(decide (sx <(IntKind.i64.wrap (aS .u64 (IntKind.u64.wrap (a+b)) 1))))))] (fun gV=>?_) (fun hj=>?_)
   rotate_left
   refine js 195 (decide (a <sx)) (fun h27=>?_) (fun h27=>?_)
   ·
    have ahC:=h27
    replace ahC:=of_decide_eq_true ahC
    refine zD 4<|jw 199 (.bool ((decide (a <sx))&&(decide (sx <(IntKind.i64.wrap (aS .u64 (IntKind.u64.wrap (a+b)) 1)))))) (w:= .bool (decide (sx <(IntKind.i64.wrap (aS .u64 (IntKind.u64.wrap (a+b)) 1))))) (by rw[h27]<;>rfl) ?_
    exact hj _ (by kernel_rfl) (by kernel_rfl)
   ·
    have ahC:=h27
    replace ahC:=of_decide_eq_false ahC
    refine zD 4<|jw 199 (.bool ((decide (a <sx))&&(decide (sx <(IntKind.i64.wrap (aS .u64 (IntKind.u64.wrap (a+b)) 1)))))) (w:= .bool false) (by rw[h27]<;>rfl) ?_
    exact hj _ (by kernel_rfl) (by kernel_rfl)
   refine zD 1<|Iu [1,1,1,1,1,1,1,1,1,1,1] [] (fun(zz:(List ai)×Cells)=>[(0,v),(3,zI b),(4,.func (.func 110) ⟨[]⟩ ⟨[]⟩),(18,zI (IntKind.i64.wrap (aS .u64 (IntKind.u64.wrap (a+b)) 1))),(24,zI (((IntKind.i64.wrap (aS .u64 (IntKind.u64.wrap (a+b)) 1))+m)-sx))]) (fun(zz:(List ai)×Cells)=>[.l zz.2]) (fun(zz:(List ai)×Cells)=>zz.1.Perm xs∧az v 8 115 cu zz.1 zz.2) ?_ (fun K15 aGs=>?_)
   ·
    rintro⟨ys,L⟩ hB rest
    dsimp only at hB
    have Xw:=hB.1.length_eq
    have hyp:=hP.perm hB.1
    refine zD 6<|jj 4 [(0,v),(3,zI b),(4,.func (.func 110) ⟨[]⟩ ⟨[]⟩),(18,zI (IntKind.i64.wrap (aS .u64 (IntKind.u64.wrap (a+b)) 1))),(24,zI (((IntKind.i64.wrap (aS .u64 (IntKind.u64.wrap (a+b)) 1))+m)-sx)),(213,.bool ((decide ((IntKind.i64.wrap (aS .u64 (IntKind.u64.wrap (a+b)) 1)) <(((IntKind.i64.wrap (aS .u64 (IntKind.u64.wrap (a+b)) 1))+m)-sx)))&&(decide ((((IntKind.i64.wrap (aS .u64 (IntKind.u64.wrap (a+b)) 1))+m)-sx) <b))))] (fun gV=>?_) (fun hj=>?_)
    rotate_left
    refine js 209 (decide ((IntKind.i64.wrap (aS .u64 (IntKind.u64.wrap (a+b)) 1)) <(((IntKind.i64.wrap (aS .u64 (IntKind.u64.wrap (a+b)) 1))+m)-sx))) (fun h28=>?_) (fun h28=>?_)
    ·
     have ahB:=h28
     replace ahB:=of_decide_eq_true ahB
     refine zD 4<|jw 213 (.bool ((decide ((IntKind.i64.wrap (aS .u64 (IntKind.u64.wrap (a+b)) 1)) <(((IntKind.i64.wrap (aS .u64 (IntKind.u64.wrap (a+b)) 1))+m)-sx)))&&(decide ((((IntKind.i64.wrap (aS .u64 (IntKind.u64.wrap (a+b)) 1))+m)-sx) <b)))) (w:= .bool (decide ((((IntKind.i64.wrap (aS .u64 (IntKind.u64.wrap (a+b)) 1))+m)-sx) <b))) (by rw[h28]<;>rfl) ?_
     exact hj _ (by kernel_rfl) (by kernel_rfl)
    ·
     have ahB:=h28
     replace ahB:=of_decide_eq_false ahB
     refine zD 4<|jw 213 (.bool ((decide ((IntKind.i64.wrap (aS .u64 (IntKind.u64.wrap (a+b)) 1)) <(((IntKind.i64.wrap (aS .u64 (IntKind.u64.wrap (a+b)) 1))+m)-sx)))&&(decide ((((IntKind.i64.wrap (aS .u64 (IntKind.u64.wrap (a+b)) 1))+m)-sx) <b)))) (w:= .bool false) (by rw[h28]<;>rfl) ?_
     exact hj _ (by kernel_rfl) (by kernel_rfl)
    refine zD 1<|js 213 ((decide ((IntKind.i64.wrap (aS .u64 (IntKind.u64.wrap (a+b)) 1)) <(((IntKind.i64.wrap (aS .u64 (IntKind.u64.wrap (a+b)) 1))+m)-sx)))&&(decide ((((IntKind.i64.wrap (aS .u64 (IntKind.u64.wrap (a+b)) 1))+m)-sx) <b))) (fun h29=>?_) (fun h29=>?_)
    ·
     try simp only[zB] at h29
     refine zD 7<|jc (vs:=[v,zI (IntKind.i64.wrap (aS .u64 (IntKind.u64.wrap (a+b)) 1)),zI (((IntKind.i64.wrap (aS .u64 (IntKind.u64.wrap (a+b)) 1))+m)-sx),zI b,.func (.func 110) ⟨[]⟩ ⟨[]⟩]) [0] (ih _ (show (b-(IntKind.i64.wrap (aS .u64 (IntKind.u64.wrap (a+b)) 1))).toNat <n by omega) _ _ _ _ _ _ _ hB.2 (by omega) hyp (by omega) rfl) ?_
     rintro aXL aV7 ⟨aXb,afK,aCT⟩
     have aQt:=afK.length_eq
     have aQp:=gG.perm hyp afK
     refine zD 1<|aF q0 (.tuple ⟨[]⟩) [] [0] aV7 (Sub.refl _) ⟨_,_,rfl,rfl,_,(afK.trans hB.1),aCT⟩
    try simp only[zB] at h29
    refine zD 2<|aF q0 (.tuple ⟨[]⟩) [] [0] L (Sub.refl _) ⟨_,_,rfl,rfl,_,hB.1,hB.2⟩
   refine js 199 ((decide (a <sx))&&(decide (sx <(IntKind.i64.wrap (aS .u64 (IntKind.u64.wrap (a+b)) 1))))) (fun h30=>?_) (fun h30=>?_)
   ·
    try simp only[zB] at h30
    refine zD 7<|jc (vs:=[v,zI a,zI sx,zI (IntKind.i64.wrap (aS .u64 (IntKind.u64.wrap (a+b)) 1)),.func (.func 110) ⟨[]⟩ ⟨[]⟩]) [0] (ih _ (show ((IntKind.i64.wrap (aS .u64 (IntKind.u64.wrap (a+b)) 1))-a).toNat <n by omega) _ _ _ _ _ _ _ hA.2 (by omega) hyp (by omega) rfl) ?_
    rintro aXM aV8 ⟨ayD,afL,aCV⟩
    have aQu:=afL.length_eq
    have aQq:=gG.perm hyp afL
    refine zD 1<|bJ aGs ⟨ayD,aV8⟩ ⟨(afL.trans hA.1),aCV⟩ Nat.zero_lt_one [0] (Sub.refl _)
   try simp only[zB] at h30
   refine zD 2<|bJ aGs ⟨ys,L⟩ ⟨hA.1,hA.2⟩ Nat.zero_lt_one [0] (Sub.refl _)
  refine js 185 ((decide (sx <m))&&(decide (m <(((IntKind.i64.wrap (aS .u64 (IntKind.u64.wrap (a+b)) 1))+m)-sx)))) (fun h31=>?_) (fun h31=>?_)
  ·
   try simp only[zB] at h31
   refine zD 7<|jc (vs:=[v,zI sx,zI m,zI (((IntKind.i64.wrap (aS .u64 (IntKind.u64.wrap (a+b)) 1))+m)-sx),.func (.func 110) ⟨[]⟩ ⟨[]⟩]) [0] (aOa ho (by omega) hP (by omega)) ?_
   rintro aXN aV9 ⟨ayE,afM,aCW⟩
   have aQv:=afM.length_eq
   have aQr:=gG.perm hP afM
   refine zD 1<|bJ Jt ⟨ayE,aV9⟩ ⟨(afM.trans (.refl _)),aCW⟩ Nat.zero_lt_one [0] (Sub.refl _)
  try simp only[zB] at h31
  refine zD 2<|bJ Jt ⟨xs,L⟩ ⟨(.refl _),ho⟩ Nat.zero_lt_one [0] (Sub.refl _)
 refine zJ 140 (m>(IntKind.i64.wrap (aS .u64 (IntKind.u64.wrap (a+b)) 1))) (fun h32=>?_) fun h32=>?_
 ·
  refine zD 5<|ja (((IntKind.i64.wrap (aS .u64 (IntKind.u64.wrap (a+b)) 1))+m)-b) (by omega)<|zD 6<|bJ aGu ⟨(((IntKind.i64.wrap (aS .u64 (IntKind.u64.wrap (a+b)) 1))+m)-b),(IntKind.i64.wrap (aS .u64 (IntKind.u64.wrap (a+b)) 1))⟩ (by dsimp only;omega) Nat.zero_lt_one [0] (Sub.refl _)
 refine zD 10<|bJ aGu ⟨a,m⟩ (by dsimp only;omega) Nat.zero_lt_one [0] (Sub.refl _)
theorem aN9:∀n,aIm n:=by
 intro n
 induction n using Nat.strongRecOn with
 |_ n ih=>exact fun ro v xs L a m b ho hN hP BA hn=>azW ih ho hN hP BA hn
theorem ao0{v:Value}{xs:List ai}{L:Cells}{a m b:Int}{ro:Nat→Option Obj}(ho:az v 8 115 cu xs L)(hN:xs.length≤100000)(hP:gG xs)(BA:0≤a∧a <m∧m <b∧b≤xs.length):eG zT 170 [v,zI a,zI m,zI b,.func (.func 110) ⟨[]⟩ ⟨[]⟩] ro L (fun _ Y=>wY v xs Y):=
 aN9 _ ro v xs L a m b ho hN hP BA rfl
theorem azX{v:Value}{xs:List ai}{L:Cells}{n:Int}{ro:Nat→Option Obj}(ho:az v 8 115 cu xs L)(hN:xs.length≤100000)(hP:gG xs)(hn:n=xs.length):eG zT 150 [v,zI n,.func (.func 110) ⟨[]⟩ ⟨[]⟩] ro L (fun r Y=>wY v xs Y):=by
 refine bD au [.l L] [] ba<|zD 12<|dW [1,1,0,0,0] [] (fun(zz:Int×Int×(List ai)×Cells)=>[(0,v),(1,zI n),(2,.func (.func 110) ⟨[]⟩ ⟨[]⟩),(6,zI 20),(7,zI zz.1),(8,zI zz.2.1)]) (fun(zz:Int×Int×(List ai)×Cells)=>[.l zz.2.2.2]) (fun(zz:Int×Int×(List ai)×Cells)=>(zz.2.1=zz.1+20∧0≤zz.1∧zz.1≤n)∧az v 8 115 cu zz.2.2.1 zz.2.2.2∧zz.2.2.1.Perm xs) (fun(zz:Int×Int×(List ai)×Cells)=>(n-zz.1).toNat) (⟨0,20,xs,L⟩) ⟨by dsimp only;omega,ho,.refl _⟩ [0] ?_
 rintro⟨a,b,ys,L⟩ hI K1 bK rest
 dsimp only at hI
 have Xw:=hI.2.2.length_eq
 have hyp:=hP.perm hI.2.2
 refine zD 7<|zJ 13 (b≤n) (fun h1=>?_) fun h1=>?_
 ·
  refine zD 9<|jc (vs:=[v,zI a,zI b,.func (.func 110) ⟨[]⟩ ⟨[]⟩]) [0] (azZ hI.2.1 (by omega) hyp (by omega)) ?_
  rintro bcs Y18 ⟨aLz,QH,aav⟩
  have aYK:=QH.length_eq
  have aYD:=gG.perm hyp QH
  refine zD 9<|ja (b+20) (by omega)<|zD 2<|bJ bK (⟨b,(b+20),aLz,Y18⟩) ⟨by dsimp only;omega,aav,(QH.trans hI.2.2)⟩ (by dsimp only;omega) [0] (Sub.refl _)
 refine zD 8<|jc (vs:=[v,zI a,zI n,.func (.func 110) ⟨[]⟩ ⟨[]⟩]) [0] (azZ hI.2.1 (by omega) hyp (by omega)) ?_
 rintro bcr Y27 ⟨bbD,Cq,Jk⟩
 have aYJ:=Cq.length_eq
 have aYC:=gG.perm hyp Cq
 refine zD 2<|dW [1,1,1,1,0,0] [] (fun(zz:Int×(List ai)×Cells)=>[(0,v),(1,zI n),(2,.func (.func 110) ⟨[]⟩ ⟨[]⟩),(6,zI zz.1)]) (fun(zz:Int×(List ai)×Cells)=>[.l zz.2.2]) (fun(zz:Int×(List ai)×Cells)=>(20≤zz.1∧zz.1≤1000000)∧az v 8 115 cu zz.2.1 zz.2.2∧zz.2.1.Perm xs) (fun(zz:Int×(List ai)×Cells)=>(n-zz.1).toNat) (⟨20,_,_⟩) ⟨by dsimp only;omega,Jk,Cq.trans hI.2.2⟩ [0] ?_
 rintro⟨bz,ys,L⟩ hJ K2 mr rest
 dsimp only at hJ
 have Xw:=hJ.2.2.length_eq
 have hyp:=hP.perm hJ.2.2
 refine zD 7<|zJ 30 (bz <n) (fun h2=>?_) fun h2=>?_
 ·
  refine zD 6<|ja (2*bz) (by omega)<|zD 5<|dW [1,1,1,1,0,0,1,0,1,0,0,0] [K2] (fun(zz:Int×Int×(List ai)×Cells)=>[(0,v),(1,zI n),(2,.func (.func 110) ⟨[]⟩ ⟨[]⟩),(6,zI bz),(7,zI zz.1),(8,zI zz.2.1)]) (fun(zz:Int×Int×(List ai)×Cells)=>[.l zz.2.2.2]) (fun(zz:Int×Int×(List ai)×Cells)=>(zz.2.1=zz.1+2*bz∧0≤zz.1∧zz.1≤n)∧az v 8 115 cu zz.2.2.1 zz.2.2.2∧zz.2.2.1.Perm xs) (fun(zz:Int×Int×(List ai)×Cells)=>(n-zz.1).toNat) (⟨0,(2*bz),ys,L⟩) ⟨by dsimp only;omega,hJ.2⟩ [0] ?_
  rintro⟨a,b,ys,L⟩ hK K3 X7 rest
  dsimp only at hK
  have Xw:=hK.2.2.length_eq
  have hyp:=hP.perm hK.2.2
  refine zD 7<|zJ 35 (b≤n) (fun h3=>?_) fun h3=>?_
  ·
   refine zD 9<|ja (a+bz) (by omega)<|zD 2<|jc (vs:=[v,zI a,zI (a+bz),zI b,.func (.func 110) ⟨[]⟩ ⟨[]⟩]) [0] (ao0 hK.2.1 (by omega) hyp (by omega)) ?_
   rintro bcp Y43 ⟨aLw,aum,aRB⟩
   have aYH:=aum.length_eq
   have aYA:=gG.perm hyp aum
   refine zD 9<|ja (2*bz) (by omega)<|ja (b+(2*bz)) (by omega)<|zD 2<|bJ X7 (⟨b,(b+(2*bz)),aLw,Y43⟩) ⟨by dsimp only;omega,aRB,(aum.trans hK.2.2)⟩ (by dsimp only;omega) [0] (Sub.refl _)
  refine zD 7<|ja (a+bz) (by omega)<|zD 8<|zJ 54 ((a+bz) <n) (fun h4=>?_) fun h4=>?_
  ·
   refine zD 7<|jc (vs:=[v,zI a,zI (a+bz),zI n,.func (.func 110) ⟨[]⟩ ⟨[]⟩]) [0] (ao0 hK.2.1 (by omega) hyp (by omega)) ?_
   rintro bcm Y60 ⟨aLu,afJ,Nk⟩
   have aYE:=afJ.length_eq
   have aYx:=gG.perm hyp afJ
   refine zD 3<|ja (bz*2) (by omega)<|zD 2<|bJ mr (⟨(bz*2),aLu,Y60⟩) ⟨by dsimp only;omega,Nk,(afJ.trans hK.2.2)⟩ (by dsimp only;omega) [0] (Sub.refl _)
  refine zD 4<|ja (bz*2) (by omega)<|zD 2<|bJ mr (⟨(bz*2),ys,L⟩) ⟨by dsimp only;omega,hK.2.1,hK.2.2⟩ (by dsimp only;omega) [0] (Sub.refl _)
 refine zD 2<|aF q0 (.tuple ⟨[]⟩) [] [0] L (Sub.refl _) ⟨_,_,rfl,rfl,_,hJ.2.2,hJ.2.1⟩
theorem Pq{v:Value}{xs:List ai}{L:Cells}{ro:Nat→Option Obj}(ho:az v 8 115 cu xs L)(hN:xs.length≤100000)(hP:gG xs):eG zT 109 [v,.func (.func 110) ⟨[]⟩ ⟨[]⟩] ro L (fun r Y=>wY v xs Y):=by
 refine bD au [.l L] [] ba<|zD 3<|Co ho<|zD 1<|jc (vs:=[v,zI (xs.length:Int),.func (.func 110) ⟨[]⟩ ⟨[]⟩]) [0] (azX ho (by omega) hP rfl) ?_
 rintro rv8 Y8 ⟨ys8,hp8,ho8⟩
 have bei:=hp8.length_eq
 have beh:=gG.perm hP hp8
 refine zD 1<|aF q0 (.tuple ⟨[]⟩) [] [0] Y8 (Sub.refl _) ⟨_,_,rfl,rfl,_,hp8,ho8⟩
open Go.ConcR (KK wgBlock WgAt stA smA rd wr)
def ai5(o:Oper):Array TypeId:=match o.op with
 | .call c=>c.argTypes
 | .go c=>c.argTypes
 | .defer c=>c.argTypes
 |_=> #[]
noncomputable def kE:rN:=awB zT 77 2
theorem aBP:kE.cl.OK zT 194 where
 ff:=by kernel_rfl
 fn:=⟨(Tryz.prog.funcs[107]?).getD default,by kernel_rfl,by kernel_rfl,by kernel_rfl⟩
 bf:=⟨by kernel_rfl,by kernel_rfl,by kernel_rfl⟩
 enter:=fun p1 p2=>by kernel_rfl
 op0:=by kernel_rfl
 rest:=⟨1,by kernel_rfl⟩
 size:=by kernel_rfl
 op:=⟨by kernel_rfl,by kernel_rfl,ai5 kE.cl.oc,by kernel_rfl⟩
theorem atA:∀v,v <2→∀W,∃k,HX zT 194 v (Frame.enter zT 104 #[zP W,zI 1] .normal)=some (List.replicate k W):=by
 intro v hv W
 match v,hv with
 |0,_=>exact⟨7,by kernel_rfl⟩
 |1,_=>exact⟨4,by kernel_rfl⟩
theorem ami:∀W,∃k,xD zT 194 2 (Frame.enter zT 106 #[zP W] .deferred)=some (List.replicate k W):=fun W=>⟨27,by kernel_rfl⟩
theorem amh:∀W,∃k,Bd zT 194 2 (Frame.enter zT 108 #[zP W] .normal)=some (List.replicate k W):=fun W=>⟨164,by kernel_rfl⟩
noncomputable def nF(Wg Ch:Nat)(gX:Os)(cz:Array (Nat×ByteArray)):dY (List ai):=⟨zT,194,Wg,Ch,2,zS,gX,cz,fun l v X=>az v 8 115 cu l X⟩
theorem Hu(K:aI)(on:Int)(hb:K.after.length≤4):∀(n a:Nat) (p:Nat→Int),(∀i,0≤p i∧p i≤4)→(iO K on n a p).length≤5^n∧∀q∈iO K on n a p,∀i,0≤q i∧q i≤4
 |0,a,p,hp=>by
  simp only[iO]
  cases lP on p K.facts 0 with
  |true=>exact⟨by simp,fun q hq=>by simp only[cond_true,List.mem_singleton] at hq;subst hq;exact hp⟩
  |false=>exact⟨by simp,fun q hq=>by simp at hq⟩
 |n+1,a,p,hp=>by
  obtain⟨h1,h2⟩:=Hu K on hb n (a+1) p hp
  have hg:∀b,b <K.after.length→(nD K on n a p b).length≤5^n∧∀q∈nD K on n a p b,∀i,0≤q i∧q i≤4:=fun b cL=>by
   simp only[nD]
   cases !dk K on a b||qD p a ((b:Int)+1) with
   |true=>exact⟨by simp,fun q hq=>by simp at hq⟩
   |false=>
    simp only[cond_false]
    refine Hu K on hb n (a+1) _ fun i=>?_
    simp only[iD]
    split
    ·omega
    exact hp i
  rw[qG]
  refine⟨?_,fun q hq=>?_⟩
  ·rw[List.length_append,List.length_flatMap]
   have:((List.range K.after.length).map fun b=>(nD K on n a p b).length).sum≤K.after.length*5^n:=by
    have key:∀l:List Nat,(∀b∈l,b <K.after.length)→(l.map fun b=>(nD K on n a p b).length).sum≤l.length*5^n:=by
     intro l
     induction l with
     |nil=>intro _;simp
     |cons b l ih=>
      intro hl
      have:=ih fun x hx=>hl x (List.mem_cons_of_mem _ hx)
      have:=(hg b (hl b List.mem_cons_self)).1
      simp only[List.map_cons,List.sum_cons,List.length_cons,Nat.succ_mul]
      omega
    have:=key (List.range K.after.length) fun b hb=>List.mem_range.1 hb
    simpa using this
   have h5:K.after.length*5^n≤4*5^n:=Nat.mul_le_mul_right _ hb
   rw[Nat.pow_succ]
   omega
  rcases List.mem_append.1 hq with hq|hq
  ·exact h2 q hq
  obtain⟨b,mH,hq⟩:=List.mem_flatMap.1 hq
  exact(hg b (List.mem_range.1 mH)).2 q hq
theorem gi(hV:fe K)(on:Int):(aO K on).length≤625∧∀q∈aO K on,∀i,0≤q i∧q i≤4:=by
 obtain⟨h1,h2⟩:=Hu K on hV.after.1 K.before.length 0 (fun _=>0) fun _=>by omega
 refine⟨Nat.le_trans h1 ?_,h2⟩
 have:=Nat.pow_le_pow_right (n:=5) (by omega) hV.before.1
 omega
end Go.L
