/- Part 9 of the proof. -/
import Derived.Test.YtjnpgdnbbljggaaGreatDoorL8
import Derived.Test.YtjnpgdnbbljggaaGreatDoorProg
set_option maxRecDepth 100000
set_option maxHeartbeats 4000000
set_option linter.all false
namespace Go.L
open Go Go.Conc Go.Proofs
variable {ro:Nat→Option Obj} {v vl vS vT:Value} {ways:List (List cE)} {b i b1 n ck bl b2 b3 fc s Vx rm r1 en ec:Nat} {rs:List dK} {Z Z2 LM LE:Cells} {Stop:Cells→Prop} {α κ β:Type} {na nb:ByteArray} {T:TypeId} {seen:List Nat} {xs:List Int} {lim c5 c6:Int}
abbrev eBy(x:Int):List Value:=[.int .u8 x]
theorem aEC:EF zT 337 (Extern.BytealgMakeNoZero.makeNoZero #[3] #[373]):=⟨Tryz.f337,Tryz.func337,by kernel_rfl,by kernel_rfl,by kernel_rfl,by kernel_rfl⟩
def aqR:=(fD Tryz.typeInfo373 Tryz.underlying373 rfl rfl rfl rfl rfl rfl:TF zT 373 _ 1 24 _ false)
theorem adG{l:List Value}:aK (.slice (some ⟨b,0,none⟩) 0 l.length) 1 T eBy ([]:List Int) [(b,.cells ⟨l⟩ T (0,0))]:= .inr ⟨b,l,l.length,rfl,rfl,by simp,by simp,by simp,by simp⟩
theorem akf{c:Int}{L:Cells}(h:aK v 1 T eBy [c] L):∃b l cap,cap≠0∧v= .slice (some ⟨b,0,none⟩) 1 cap∧L=[(b,.cells ⟨.int .u8 c::l⟩ T (0,0))]:=by
 rcases h with ⟨_,h,_⟩| ⟨b,l,cap,h1,h2,h3,h4,_,h6⟩
 ·cases h
 simp only[List.length_cons,List.length_nil] at h1 h4 h6
 cases l with
 |nil=>simp at h3;omega
 |cons x l=>
  simp at h6;subst h6
  exact⟨b,l,cap,by omega,h1,h2⟩
def aaI(n:Int):ByteArray:=⟨#[n.toNat.toUInt8]⟩
theorem aED:EF zT 336 Extern.AbiNoEscape.same:=⟨Tryz.f336,Tryz.func336,by kernel_rfl,by kernel_rfl,by kernel_rfl,by kernel_rfl⟩
theorem aFH:dX zT 321 [zP b] ro [(b,.cells ⟨[.pointer none,v]⟩ 375 (0,0))] (fun r Y=>Y=[(b,.cells ⟨[zP b,v]⟩ 375 (0,0))]):=by
 refine zC [.b b (.cells ⟨[.pointer none,v]⟩ 375 (0,0))]<|jd 12 [0]<|jmo [0] [0,0] [(b,.cells ⟨[.pointer none,v]⟩ 375 (0,0))] (zP b)<|jg 0 [.b b (.cells ⟨[.pointer none,v]⟩ 375 (0,0))]<|aMJ (v:= zP b) aED<|jmo [0] [0,0] [(b,.cells ⟨[.pointer none,v]⟩ 375 (0,0))] (zP b)<|jg 0 [.b b (.cells ⟨[.pointer none,v]⟩ 375 (0,0))]<|jd 4 [0]<|zR (.tuple ⟨[]⟩) [] [0] [(b,.cells ⟨[zP b,v]⟩ 375 (0,0))] rfl
theorem aFG:dX zT 321 [zP b] ro [(b,.cells ⟨[zP b,v]⟩ 375 (0,0))] (fun r Y=>Y=[(b,.cells ⟨[zP b,v]⟩ 375 (0,0))]):=by
 refine zC [.b b (.cells ⟨[zP b,v]⟩ 375 (0,0))]<|jd 16 [0,0]<|jpn (b:=b)<|jg 0 []<|zD 3<|zR (.tuple ⟨[]⟩) [] [0] [(b,.cells ⟨[zP b,v]⟩ 375 (0,0))] rfl
theorem aFj:dX zT 322 [zP b,zI 1] ro [(b,.cells ⟨[zP b,zS]⟩ 375 (0,0))] (fun r Y=>∃v L,aK v 1 5 eBy ([]:List Int) L∧Y=(b,.cells ⟨[zP b,v]⟩ 375 (0,0))::L):=by
 refine zC [.b b (.cells ⟨[zP b,zS]⟩ 375 (0,0))]<|jd 6 [0]<|jcp (c:=0)<|jd 8 [0]<|dV 8 fun tc tj sI=>jnz (n:=1) aEC rfl aqR (by omega) fun bb lz hlz=>jg 0 [.b bb (.cells ⟨lz⟩ 5 (0,0))]<|iv sI [1]<|js0 (a:=⟨bb,0,none⟩) (l:=1) (c:=lz.length)<|jd 9 [1]<|jmo [] [] [] (zI 0)<|jg 0 []<|jd 8 [1]<|zR (.tuple ⟨[]⟩) [] [1,0] ((b,.cells ⟨[zP b,(.slice (some ⟨bb,0,none⟩) 0 lz.length)]⟩ 375 (0,0))::[(bb,.cells ⟨lz⟩ 5 (0,0))]) ⟨_,_,adG,rfl⟩
theorem aFF:dX zT 302 [zP b,zI 1] ro [(b,.cells ⟨[.pointer none,zS]⟩ 375 (0,0))] (fun r Y=>∃v L,aK v 1 5 eBy ([]:List Int) L∧Y=(b,.cells ⟨[zP b,v]⟩ 375 (0,0))::L):=by
 refine zC [.b b (.cells ⟨[.pointer none,zS]⟩ 375 (0,0))]<|zD 3<|jc (vs:=[zP b]) [0] (aFH (v:= zS)) ?_
 rintro _ _ rfl
 refine jg 0 [.b b (.cells ⟨[zP b,zS]⟩ 375 (0,0))]<|jd 15 [0]<|jcp (c:=0)<|jd 13 [0]<|jc (vs:=[zP b,zI 1]) [0] (aFj) ?_
 rintro _ _ ⟨v,L,hv,rfl⟩
 refine jg 0 [.b b (.cells ⟨[zP b,v]⟩ 375 (0,0)),.l L]<|zD 1<|zR (.tuple ⟨[]⟩) [] [0,1] ((b,.cells ⟨[zP b,v]⟩ 375 (0,0))::L) ⟨v,L,hv,rfl⟩
theorem aFI{L:Cells}{c:Int}(ho:aK v 1 5 eBy ([]:List Int) L):dX zT 304 [zP b,.int .u8 c] ro ((b,.cells ⟨[zP b,v]⟩ 375 (0,0))::L) (fun r Y=>∃v' L',aK v' 1 5 eBy [c] L'∧Y=(b,.cells ⟨[zP b,v']⟩ 375 (0,0))::L'):=by
 refine zC [.b b (.cells ⟨[zP b,v]⟩ 375 (0,0)),.l L]<|zD 7<|jc (vs:=[zP b]) [0] (aFG (v:=v)) ?_
 rintro _ _ rfl
 refine jg 0 [.b b (.cells ⟨[zP b,v]⟩ 375 (0,0))]<|jd 9 [0]<|jn fun LI=>wD (sz:=1) (ps:=[]) (qs:=[c]) (enc:=eBy) (w:= .slice (some ⟨LI,0,none⟩) 1 1) [2] [0] [(LI,.cells ⟨([c].map eBy).flatten⟩ 5 (0,0))] (ho) (fun s _ hZ=>gG [c] (hZ _ (.head _)) (by intro p hp;rfl)) (fun p _=>aP rfl) (by simp) (fun v14 L14 Dh=>?_)
 rw[List.nil_append] at Dh
 obtain⟨S2,O1,BK⟩:=Dh.form
 subst BK
 refine jd 9 [2]<|zR (.nilIface) [] [2,0] ((b,.cells ⟨[zP b,(.slice S2 ([c]).length O1)]⟩ 375 (0,0))::L14) ⟨_,_,Dh,rfl⟩
theorem aSm{bb cap:Nat}{l:List Value}{c:Int}(ek:cap≠0):dX zT 305 [zP b] ro [(b,.cells ⟨[zP b,.slice (some ⟨bb,0,none⟩) 1 cap]⟩ 375 (0,0)),(bb,.cells ⟨.int .u8 c::l⟩ 5 (0,0))] (fun r Y=>r= .string (aaI c)):=by
 refine zC [.b b (.cells ⟨[zP b,.slice (some ⟨bb,0,none⟩) 1 cap]⟩ 375 (0,0)),.b bb (.cells ⟨.int .u8 c::l⟩ 5 (0,0))]<|jd 15 [0,0]<|dV 4 fun tc tj sI=>jsd (a:=⟨bb,0,none⟩) (l:=1) ek<|jg 0 []<|iv sI [0,1]<|dV 10 fun LW Mn Nv=>jus (b:=bb) (E:=5) [1] c l fun L9=>wC Nv [[1]]<|zD 3<|zX (.string (aaI c)) rfl
def vu(u:UInt8):ByteArray:=⟨#[u]⟩
theorem amD{u:UInt8}(h:u.toNat <128):Value.string (Utf8.encode (u.toNat:Int))= .string (vu u):=by
 have hv:Utf8.valid (u.toNat:Int)=true:=by simp only[Utf8.valid];simp;omega
 simp only[Utf8.encode,hv,if_true,Int.toNat_natCast,if_pos (show u.toNat <0x80 from h),vu]
 simp
theorem aD5{u:UInt8}(hu:(97≤u.toNat∧u.toNat≤122)):eR zT 262 [.string (vu u)] ro (.string (vu u)):=by
 have nP:(vu u).size=1:=rfl
 refine zE<|zD 15<|fX [1,1,0,1,0,0] [] (fun(zz:Nat×Bool)=>[(0,.string (vu u)),(2,.string (bs [])),(3,.bool true),(4,.bool zz.2),(5,zI (zz.1:Int))]) (fun zz=>[]) (fun zz=>(zz.1=0∧zz.2=false)∨(zz.1=1∧zz.2=false)) (fun zz=>1-zz.1) (⟨0,false⟩) (.inl ⟨rfl,rfl⟩) [] ?_
 rintro⟨i,q⟩ hI K1 cz rest
 dsimp only at hI
 refine zD 8<|zJ 14 ((i:Int) <((vu u).size:Int)) (fun h1=>?_) fun h1=>?_
 ·
  refine zD 5 ?_
  obtain⟨hi0,SJ⟩:i=0∧q=false:=by rcases hI with h|h;exact h;omega
  refine jw 5 (zI 0) (show Value.int .i64 (i:Int)= zI 0 by rw[hi0];rfl) ?_
  refine jw 4 (.bool false) (show Value.bool q= .bool false by rw[SJ])<|zD 12<|zJ 21 ((u.toNat:Int)≥128) (fun h2=>?_) fun h2=>?_
  ·
   exfalso;omega
  refine zD 8<|js 26 (decide (65≤(u.toNat:Int))) (fun h3=>?_) (fun h3=>?_)
  ·
   have vK:=h3
   replace vK:=of_decide_eq_true vK
   refine zD 11<|zY cz (⟨1,decide ((u.toNat:Int)≤90)⟩) (.inr ⟨rfl,decide_eq_false (by omega)⟩) []
  have vK:=h3
  replace vK:=of_decide_eq_false vK
  exfalso;omega
 refine zD 4 ?_
 obtain⟨hi1,hq1⟩:i=1∧q=false:=by rcases hI with h|h;omega;exact h
 refine jw 4 (.bool false) (show Value.bool q= .bool false by rw[hq1])<|zD 17<|zX (.string (vu u)) ⟨rfl,rfl⟩
theorem aD4{u:UInt8}(hu:(65≤u.toNat∧u.toNat≤90)):eR zT 262 [.string (vu u)] ro (.string (aaI (IntKind.u8.wrap ((u.toNat:Int)+32)))):=by
 have nP:(vu u).size=1:=rfl
 refine zE<|zD 15<|fX [1,1,0,1,0,0] [] (fun(zz:Nat×Bool)=>[(0,.string (vu u)),(2,.string (bs [])),(3,.bool true),(4,.bool zz.2),(5,zI (zz.1:Int))]) (fun zz=>[]) (fun zz=>(zz.1=0∧zz.2=false)∨(zz.1=1∧zz.2=true)) (fun zz=>1-zz.1) (⟨0,false⟩) (.inl ⟨rfl,rfl⟩) [] ?_
 rintro⟨i,q⟩ hI K1 cz rest
 dsimp only at hI
 refine zD 8<|zJ 14 ((i:Int) <((vu u).size:Int)) (fun h1=>?_) fun h1=>?_
 ·
  refine zD 5 ?_
  obtain⟨hi0,SJ⟩:i=0∧q=false:=by rcases hI with h|h;exact h;omega
  refine jw 5 (zI 0) (show Value.int .i64 (i:Int)= zI 0 by rw[hi0];rfl) ?_
  refine jw 4 (.bool false) (show Value.bool q= .bool false by rw[SJ])<|zD 12<|zJ 21 ((u.toNat:Int)≥128) (fun h2=>?_) fun h2=>?_
  ·
   exfalso;omega
  refine zD 8<|js 26 (decide (65≤(u.toNat:Int))) (fun h3=>?_) (fun h3=>?_)
  ·
   have vK:=h3
   replace vK:=of_decide_eq_true vK
   refine zD 11<|zY cz (⟨1,decide ((u.toNat:Int)≤90)⟩) (.inr ⟨rfl,decide_eq_true (by omega)⟩) []
  have vK:=h3
  replace vK:=of_decide_eq_false vK
  exfalso;omega
 refine zD 4 ?_
 obtain⟨hi1,hq1⟩:i=1∧q=true:=by rcases hI with h|h;omega;exact h
 refine jw 4 (.bool true) (show Value.bool q= .bool true by rw[hq1])<|zD 14<|jn fun b7=>zD 9<|jc (vs:=[zP b7,zI 1]) [0] (aFF) ?_
 rintro _ _ ⟨v,L,hv,rfl⟩
 refine jg 0 [.b b7 (.cells ⟨[zP b7,v]⟩ 375 (0,0)),.l L]<|zD 7<|fX [1,1,1,0,1,0,1,1,1,1,0,1,0,0] [] (fun(zz:Nat×Int×Value×Cells×(List Int))=>[(0,.string (vu u)),(2,.string (bs [])),(7,zP b7),(8,zI zz.2.1),(9,zI (zz.1:Int))]) (fun zz=>[.b b7 (.cells ⟨[zP b7,zz.2.2.1]⟩ 375 (0,0)),.l zz.2.2.2.1]) (fun zz=>aK zz.2.2.1 1 5 eBy zz.2.2.2.2 zz.2.2.2.1∧((zz.1=0∧zz.2.1=0∧zz.2.2.2.2=[])∨(zz.1=1∧zz.2.1=1∧zz.2.2.2.2=[(IntKind.u8.wrap ((u.toNat:Int)+32))]))) (fun zz=>1-zz.1) (⟨0,0,v,L,[]⟩) ⟨hv,.inl ⟨rfl,rfl,rfl⟩⟩ [0,1] ?_
 rintro⟨j,p,v,L,xs⟩ hJ K2 oy rest
 dsimp only at hJ
 refine zD 8<|zJ 41 ((j:Int) <((vu u).size:Int)) (fun h4=>?_) fun h4=>?_
 ·
  refine zD 5 ?_
  obtain⟨hj0,y3,De⟩:j=0∧p=0∧xs=[]:=by rcases hJ.2 with h|h;exact h;omega
  refine jw 9 (zI 0) (show Value.int .i64 (j:Int)= zI 0 by rw[hj0];rfl) ?_
  refine jw 8 (zI 0) (show Value.int .i64 p= zI 0 by rw[y3])<|zD 11<|js 49 (decide (65≤(u.toNat:Int))) (fun h5=>?_) (fun h5=>?_)
  ·
   have Rn:=h5
   replace Rn:=of_decide_eq_true Rn
   refine zD 4<|zJ 52 ((u.toNat:Int)≤90) (fun h6=>?_) fun h6=>?_
   ·
    refine zD 19<|jc (vs:=[zP b7,.int .u8 (IntKind.u8.wrap ((u.toNat:Int)+32))]) [0,1] (aFI (by have:=hJ.1;rwa[De] at this)) ?_
    rintro _ _ ⟨v2,L2,KM,rfl⟩
    refine jg 0 [.b b7 (.cells ⟨[zP b7,v2]⟩ 375 (0,0)),.l L2]<|zD 11<|zY oy (⟨1,1,v2,L2,[(IntKind.u8.wrap ((u.toNat:Int)+32))]⟩) ⟨KM,.inr ⟨rfl,rfl,rfl⟩⟩ [0,1]
   exfalso;omega
  have Rn:=h5
  replace Rn:=of_decide_eq_false Rn
  exfalso;omega
 refine zD 4 ?_
 obtain⟨hj1,hp1,hx1⟩:j=1∧p=1∧xs=[(IntKind.u8.wrap ((u.toNat:Int)+32))]:=by rcases hJ.2 with h|h;omega;exact h
 refine jw 8 (zI 1) (show Value.int .i64 p= zI 1 by rw[hp1])<|zD 9 ?_
 obtain⟨bb,lz,cap,ek,rfl,rfl⟩:=akf (by have:=hJ.1;rwa[hx1] at this)
 refine zD 1<|jc (vs:=[zP b7]) [0,1] (aSm (bb:=bb) (l:=lz) (c:=(IntKind.u8.wrap ((u.toNat:Int)+32))) ek) ?_
 rintro _ Yz rfl
 refine zD 3<|zX (.string (aaI (IntKind.u8.wrap ((u.toNat:Int)+32)))) ⟨rfl,rfl⟩
def aew(u:UInt8):ByteArray:=if u.toNat <97 then aaI (IntKind.u8.wrap ((u.toNat:Int)+32)) else vu u
theorem aRD{u:UInt8}(h:Ay u=true∨E6 u=true):eR zT 262 [.string (vu u)] ro (.string (aew u)):=by
 unfold aew
 rcases h with h|h
 ·simp only[Ay,Bool.and_eq_true,Nat.ble_eq] at h
  rw[if_neg (by omega)]
  exact aD5 (by omega)
 simp only[E6,Bool.and_eq_true,Nat.ble_eq] at h
 rw[if_pos (by omega)]
 exact aD4 (by omega)
def uqN(rs:List dK)(a to:ByteArray):Nat→Nat→Option Nat
 |0,_=>none
 |f+1,m=>bif decide (0 <(OP rs to m a []).length) then some m else uqN rs a to f (m+1)
def uq(rs:List dK)(a to:ByteArray):Option Nat:=uqN rs a to 3 0
def kF(c:UInt8):ByteArray:=if c.toNat=67 then bs [99,104] else if c.toNat=74 then bs [106,117] else if c.toNat=89 then bs [106,97] else if c.toNat=88 then bs [115,104] else if c.toNat <97 then bs [c.toNat+32] else bs [c.toNat]
def Jf:List UInt8→ByteArray→ByteArray
 | [],a=>a
 |c::l,a=>Jf l (a++kF c)
def keyOf(w:ByteArray):ByteArray:=Jf w.data.toList (bs [])
theorem ak9{l:List UInt8}{k:Nat}{c:UInt8}{a:ByteArray}(h:l[k]?=some c):Jf (l.drop k) a=Jf (l.drop (k+1)) (a++kF c):=by rw[kP h];rfl
theorem aeS{l:List UInt8}{k:Nat}{a:ByteArray}(h:l[k]?=none):Jf (l.drop k) a=a:=by rw[kD (by rw[List.getElem?_eq_none_iff] at h;omega)];rfl
def Gc(rs:List dK)(a b:ByteArray):Int:=match uq rs (keyOf a) (keyOf b) with
 |none=>2
 |some 0=>1
 |some _=>3
structure gB(w:ByteArray):Prop where
 n:1≤w.size∧w.size≤6
 s:Script w
def Ul(c:UInt8):Prop:=Ay c=true∨E6 c=true
theorem gB.let{w:ByteArray}(h:gB w):∀c∈w.data.toList,Ul c:=fun c hc=>h.s.elim (fun k=> .inl (k c hc)) fun k=> .inr (k c hc)
theorem YN:((List.range 256).all fun n=> !(Ay (UInt8.ofNat n)||E6 (UInt8.ofNat n))||(akL (kF (UInt8.ofNat n))&&(Nat.ble 1 (kF (UInt8.ofNat n)).size&&Nat.ble (kF (UInt8.ofNat n)).size 2)))=true:=by kernel_rfl
theorem Ps{c:UInt8}(h:Ul c):yR (kF c)∧1≤(kF c).size∧(kF c).size≤2:=by
 have h2:=List.all_eq_true.1 YN c.toNat (List.mem_range.2 c.toNat_lt)
 have hb:UInt8.ofNat c.toNat=c:=by simp
 rw[hb] at h2
 have h3:(Ay c||E6 c)=true:=by rcases h with h|h<;>simp[h]
 rw[h3] at h2
 simp only[Bool.not_true,Bool.false_or,Bool.and_eq_true,Nat.ble_eq] at h2
 exact⟨Uf h2.1,h2.2⟩
theorem Xf:∀ {l:List UInt8} {a:ByteArray},(∀c∈l,Ul c)→yR a→yR (Jf l a)∧(Jf l a).size≤a.size+2*l.length
 | [],a,_,ha=>⟨ha,by simp[Jf]⟩
 |c::l,a,h,ha=>by
  have h1:=Ps (h c (by simp))
  obtain⟨h2,h3⟩:=Xf (l:=l) (a:=a++kF c) (fun x hx=>h x (by simp[hx])) (ha.app h1.1)
  refine⟨h2,?_⟩
  simp only[Jf,ByteArray.size_append,List.length_cons] at h3 ⊢
  omega
theorem Qz{w:ByteArray}(h:gB w):yR (keyOf w)∧(keyOf w).size≤12:=by
 have h1:=Xf (l:=w.data.toList) (a:=bs []) h.let (fun b hb=>by cases hb)
 have h2:w.data.toList.length=w.size:=Array.length_toList
 have h3:=h.n
 exact⟨h1.1,by have:=h1.2;have e:(bs []).size=0:=rfl;unfold keyOf;omega⟩
theorem akK{c:UInt8}(h:Ul c)(h1:¬(c.toNat:Int)=67)(h2:¬(c.toNat:Int)=74)(h3:¬(c.toNat:Int)=89)(h4:¬(c.toNat:Int)=88):aew c=kF c:=by
 simp only[aew,kF,if_neg (show ¬c.toNat=67 by omega),if_neg (show ¬c.toNat=74 by omega),if_neg (show ¬c.toNat=89 by omega),if_neg (show ¬c.toNat=88 by omega)]
 split
 ·simp only[aaI,bs]
  rw[tY .u8 rfl _ (by omega) (by simp[IntKind.bits];omega),show ((c.toNat:Int)+32).toNat=c.toNat+32 by omega]
  rfl
 simp[vu,bs]
theorem let_128{c:UInt8}(h:Ul c):c.toNat <128:=by
 rcases h with h|h
 ·simp only[Ay,Bool.and_eq_true,Nat.ble_eq] at h;omega
 simp only[E6,Bool.and_eq_true,Nat.ble_eq] at h;omega
theorem arU{c:UInt8}(h:Ul c):eR zT 217 [.int .i32 (c.toNat:Int)] ro (.string (kF c)):=by
 refine zE<|zD 29<|zJ 5 ((c.toNat:Int)=67) (fun h1=>?_) fun h1=>?_
 ·
  refine zD 8<|zX (.string (bs [99,104])) ⟨by rw[kF,if_pos (by omega)]<;>rfl,rfl⟩
 refine zD 8<|zJ 7 ((c.toNat:Int)=74) (fun h2=>?_) fun h2=>?_
 ·
  refine zD 17<|jsa (a:=(bs [106])) (b:=(bs [117])) 9 (by decide)<|zD 3<|zX (.string ((bs [106])++(bs [117]))) ⟨by rw[kF,if_neg (by omega),if_pos (by omega)]<;>rfl,rfl⟩
 refine zD 8<|zJ 9 ((c.toNat:Int)=89) (fun h3=>?_) fun h3=>?_
 ·
  refine zD 16<|jsa (a:=(bs [106])) (b:=(bs [97])) 9 (by decide)<|zD 3<|zX (.string ((bs [106])++(bs [97]))) ⟨by rw[kF,if_neg (by omega),if_neg (by omega),if_pos (by omega)]<;>rfl,rfl⟩
 refine zD 7<|zJ 11 ((c.toNat:Int)=88) (fun h4=>?_) fun h4=>?_
 ·
  refine zD 8<|zX (.string (bs [115,104])) ⟨by rw[kF,if_neg (by omega),if_neg (by omega),if_neg (by omega),if_pos (by omega)]<;>rfl,rfl⟩
 refine zD 6<|je (.string (vu c)) (amD (let_128 h))<|jp (vs:=[.string (vu c)]) [] [] (fun aV hs hZ=>(aRD h))<|zD 3<|zX (.string (aew c)) ⟨by rw[akK h (by omega) (by omega) (by omega) (by omega)],rfl⟩
theorem akD{w to:ByteArray}(hl:cD ro vl 2 kB rs)(hR:∀r∈rs,s8 r)(hw:yR w)(qS:w.size≤100)(hq:rs.length≤100):dX zT 169 [.string w,vl,.string to] ro [] (fun r Y=>(∃n v ps,uq rs w to=some n∧r= .tuple ⟨[v,.bool true]⟩∧aK v 1 9 kT ps Y∧ps.length=n+1)∨(uq rs w to=none∧r= .tuple ⟨[zS,.bool false]⟩∧Y=[])):=by
 obtain⟨cV,nn,nk,cU,rfl,pG,jR,lh⟩:=hl
 refine zE<|zD 11<|fX [1,0,1,0,0] [] (fun(zz:Nat)=>[(0,.string w),(1,.slice cV rs.length cU),(2,.string to),(11,zI (zz:Int))]) (fun zz=>[]) (fun zz=>zz≤3∧uq rs w to=uqN rs w to (3-zz) zz) (fun zz=>3-zz) 0 ⟨by omega,rfl⟩ [] ?_
 rintro k hI K1 cz rest
 refine zD 5<|zJ 12 ((k:Int) <3) (fun h1=>?_) fun h1=>?_
 ·
  refine zD 15<|jc (vs:=[.string w,.slice cV rs.length cU,.string to,zI (k:Int)]) [] (aeg (show cD _ _ _ _ _ from ⟨cV,nn,nk,cU,rfl,pG,jR,lh⟩)) ?_
  rintro _ _ ⟨aev,aeu,aet,aes,rfl,rfl⟩
  refine jg 0 [.b aev (.cells ⟨[.string w]⟩ 259 (0,0)),.b aeu (.cells ⟨[.slice cV rs.length cU]⟩ 30 (0,0)),.b aet (.cells ⟨[.string to]⟩ 259 (0,0)),.b aes (.cells ⟨[zI (k:Int)]⟩ 3 (0,0))]<|jf (zN 0 4) ((aev,.cells ⟨[.string w]⟩ 259 (0,0))::((aeu,.cells ⟨[.slice cV rs.length cU]⟩ 30 (0,0))::((aet,.cells ⟨[.string to]⟩ 259 (0,0))::[(aes,.cells ⟨[zI (k:Int)]⟩ 3 (0,0))]))) fun Tq ql Fe=>jc (vs:=[.func (.func 263) ⟨[]⟩ ⟨[zP aes,zP aet,zP aeu,zP aev]⟩,.func (.func 220) ⟨[]⟩ ⟨[]⟩]) [] (arW (Zv (Fe _ (.tail _ (.tail _ (.tail _ (.head _))))) (Fe _ (.tail _ (.tail _ (.head _)))) (Fe _ (.tail _ (.head _))) (Fe _ (.head _)) ((show cD _ _ _ _ _ from ⟨cV,nn,nk,cU,rfl,pG,jR,lh⟩).up ql) hR hw qS hq (by omega)) (fun x hx=>by have:=NX hx;simp at this;omega)) ?_
  rintro _ L20 ⟨v20,rfl,aLE,Q5,atJ⟩
  refine zD 10<|js 23 (decide (0 <(OP rs to k w []).length)) (fun h5=>?_) (fun h5=>?_)
  ·
   refine zD 8<|aS q0.a (.tuple ⟨[v20,.bool true]⟩) [] [0] L20 ql ⟨_,_,rfl,rfl,.inl ⟨k,v20,aLE,by rw[hI.2,show 3-k=(3-(k+1))+1 by omega,uqN,h5];rfl,rfl,Q5,by have:=NX (atJ (of_decide_eq_true h5));simpa using this⟩⟩
  refine zD 3<|zW ((k:Int)+1)<|zD 2<|eW cz (k+1) ⟨by omega,by rw[hI.2,show 3-k=(3-(k+1))+1 by omega,uqN,h5];rfl⟩ (by omega) [] ql
 refine zD 8<|zX (.tuple ⟨[zS,.bool false]⟩) (.inr ⟨by rw[hI.2,show 3-k=0 by omega];rfl,rfl,rfl⟩)
theorem asb{c:UInt8}(h:Ul c):c.toNat <128:=by
 rcases h with h|h
 ·simp only[Ay,Bool.and_eq_true,Nat.ble_eq] at h;omega
 simp only[E6,Bool.and_eq_true,Nat.ble_eq] at h;omega
theorem arX{w to:ByteArray}(hl:cD ro vl 2 kB rs)(hR:∀r∈rs,s8 r)(hw:yR w)(qS:w.size≤100)(hq:rs.length≤100):dX zT 169 [.string w,vl,.string to] ro [] (fun r Y=>∃v ps ok,r= .tuple ⟨[v,.bool ok]⟩∧aK v 1 9 kT ps Y∧(ok=true→uq rs w to=some (ps.length-1)∧1≤ps.length)∧(ok=false→uq rs w to=none)):=by
 refine(akD hl hR hw qS hq).mono fun _ _ h=>?_
 rcases h with ⟨n,v,ps,h1,h2,h3,h4⟩| ⟨h1,h2,h3⟩
 ·exact⟨v,ps,true,h2,h3,fun _=>⟨by rw[h4];exact h1,by omega⟩,nofun⟩
 subst h3;exact⟨_,[],false,h2,aK.nil _ _ _,nofun,fun _=>h1⟩
def uN(rs:List dK)(a b:ByteArray):Int:=match uq rs a b with
 |some n=>n
 |none=>0
def uE(rs:List dK)(a b:ByteArray):Int:=match uq rs a b with
 |some _=>0
 |none=>11
theorem anz{a to:ByteArray}:∀ {f m n:Nat},uqN rs a to f m=some n→n <m+f
 |0,_,_,h=>by cases h
 |f+1,m,n,h=>by
  simp only[uqN] at h
  cases hd:decide (0 <(OP rs to m a []).length) with
  |true=>rw[hd] at h;simp only[cond_true,Option.some.injEq] at h;omega
  |false=>rw[hd] at h;simp only[cond_false] at h;have:=anz h;omega
theorem nOf{w:ByteArray}(hw:gB w):eR zT 168 [.string w] ro (.string (keyOf w)):=by
 refine zE<|zD 12<|jn fun r7=>zD 2<|fX [1,1,0,1,0,0] [] (fun(zz:Nat×ByteArray)=>[(2,.string (bs [])),(3,.string zz.2),(7,zP r7)]) (fun zz=>[.b r7 (.stringIter w zz.1)]) (fun zz=>(zz.1≤w.data.toList.length∧zz.2.size≤2*zz.1)∧keyOf w=Jf (w.data.toList.drop zz.1) zz.2) (fun zz=>w.data.toList.length-zz.1) (⟨0,(bs [])⟩) ⟨⟨by omega,Nat.le_refl _⟩,rfl⟩ [0] ?_
 rintro⟨p,a⟩ hI K1 cz rest
 dsimp only at hI
 refine zD 2 ?_
 cases hn8:w.data.toList[p]? with
 |some x8=>
  refine jnA r7 0 hn8 (asb (hw.let _ (zL hn8)))<|zD 11 ?_
  have hso:=Ps (hw.let _ (zL hn8))
  have hlen:w.data.toList.length=w.size:=Array.length_toList
  have hwn:=hw.n
  refine zD 3<|jp (vs:=[.int .i32 (x8.toNat:Int)]) [] [] (fun aV hs hZ=>(arU (hw.let _ (zL hn8))))<|jsa (a:=a) (b:=(kF x8)) 9 (by omega)<|zD 2<|eW cz (⟨p+1,(a++kF x8)⟩) ⟨⟨by have:=(List.getElem?_eq_some_iff.1 hn8).1;dsimp only;omega,by dsimp only;rw[ByteArray.size_append];omega⟩,by rw[hI.2,ak9 hn8]⟩ (by have:=(List.getElem?_eq_some_iff.1 hn8).1;dsimp only;omega) [0] (Sub.refl _)
 |none=>
  refine jnZ r7 0 hn8<|zD 11<|zX (.string a) ⟨by rw[hI.2,aeS hn8],rfl⟩
theorem akC(hl:cD ro vl 2 kB rs)(hR:∀r∈rs,s8 r)(hq:rs.length≤4)(Z5:gB na)(Z3:gB nb):dX zT 122 [vl,.string na,.string nb] ro [] (fun r Y=>∃v ps e,r= .tuple ⟨[v,zI e]⟩∧aK v 1 9 kT ps Y∧ps.length≤3∧((e=0∧uq rs (keyOf na) (keyOf nb)=some (ps.length-1)∧1≤ps.length)∨(e=11∧uq rs (keyOf na) (keyOf nb)=none))):=by
 obtain⟨cV,nn,nk,cU,rfl,pG,jR,lh⟩:=hl
 refine zE<|zD 9<|jp (vs:=[.slice cV rs.length cU]) [] [] (fun aV hs hZ=>Zt ((show cD _ _ _ _ _ from ⟨cV,nn,nk,cU,rfl,pG,jR,lh⟩).up hs) (by omega) hR)<|zD 14<|jn fun DN=>jp (vs:=[.slice (some ⟨DN,0,none⟩) 2 2]) [0] [(DN,.cells ⟨([na,nb].map kT).flatten⟩ 9 (0,0))] (fun aV hs hZ=>aef (bM [na,nb] hZ.head (by intro p hp;rfl)) (by first|omega| (simp only[List.length_set,zM];omega)) (by intro x hx;simp only[List.mem_cons,List.not_mem_nil,or_false] at hx;rcases hx with rfl|rfl;exact⟨Z5.n,Z5.s⟩;exact⟨Z3.n,Z3.s⟩)) ?_
 refine zD 12<|jp (vs:=[.string na]) [] [] (fun aV hs hZ=>(nOf Z5))<|zD 2<|jp (vs:=[.string nb]) [] [] (fun aV hs hZ=>(nOf Z3))<|jc (vs:=[.string (keyOf na),.slice cV rs.length cU,.string (keyOf nb)]) [] (arX (show cD _ _ _ _ _ from ⟨cV,nn,nk,cU,rfl,pG,jR,lh⟩) hR (Qz Z5).1 (by have:=(Qz Z5).2;omega) (by omega)) ?_
 rintro _ L30 ⟨v30,aLD,aLL,rfl,Q0,asQ,aM7⟩
 refine zD 12<|js 34 (!aLL) (fun h1=>?_) (fun h1=>?_)
 ·
  try simp only[zB] at h1
  refine zD 7<|zX (.tuple ⟨[zS,zI 11]⟩) ⟨_,[],_,rfl,aK.nil _ _ _,by simp,.inr ⟨rfl,aM7 (by simp_all)⟩⟩
 try simp only[zB] at h1
 refine zD 9<|zR (.tuple ⟨[v30,zI 0]⟩) [] [0] L30 ⟨_,aLD,_,rfl,Q0,by have:=anz (asQ (by simp_all)).1;have:=(asQ (by simp_all)).2;omega,.inl ⟨rfl,asQ (by simp_all)⟩⟩
theorem azQ(hl:cD ro vl 2 kB rs)(hR:∀r∈rs,s8 r)(hq:rs.length≤4)(Z5:gB na)(Z3:gB nb):eR zT 89 [vl,.string na,.string nb] ro (.tuple ⟨[zI (uN rs (keyOf na) (keyOf nb)),zI (uE rs (keyOf na) (keyOf nb))]⟩):=by
 obtain⟨cV,nn,nk,cU,rfl,pG,jR,lh⟩:=hl
 refine zE<|zD 10<|jc (vs:=[.slice cV rs.length cU,.string na,.string nb]) [] (akC (show cD _ _ _ _ _ from ⟨cV,nn,nk,cU,rfl,pG,jR,lh⟩) hR hq Z5 Z3) ?_
 rintro _ L14 ⟨v14,azo,e14,rfl,atu,aZ3,BK⟩
 refine zD 12<|js 18 (!decide (e14=0)) (fun h1=>?_) (fun h1=>?_)
 ·
  replace h1:=of_decide_eq_false (by simpa using h1)
  refine zD 8<|zX (.tuple ⟨[zI 0,zI e14]⟩) ⟨by rcases BK with ⟨h1,h2,h3⟩| ⟨h1,h2⟩<;>simp only[uN,uE,h2]<;>(subst h1;simp_all<;>omega),rfl⟩
 replace h1:=of_decide_eq_true (by simpa using h1)
 refine zD 5<|jol atu<|zW ((azo.length:Int)-1)<|zD 4<|zX (.tuple ⟨[zI ((azo.length:Int)-1),zI 0]⟩) ⟨by rcases BK with ⟨h1,h2,h3⟩| ⟨h1,h2⟩<;>simp only[uN,uE,h2]<;>(subst h1;simp_all<;>omega),rfl⟩
theorem GV(hl:cD ro vl 2 kB rs)(hR:∀r∈rs,s8 r)(hq:rs.length≤4)(Z5:gB na)(Z3:gB nb):eR zT 39 [vl,.string na,.string nb] ro (.tuple ⟨[zI (Gc rs na nb),zI 0]⟩):=by
 obtain⟨cV,nn,nk,cU,rfl,pG,jR,lh⟩:=hl
 refine zE<|zD 10<|jp (vs:=[.slice cV rs.length cU,.string na,.string nb]) [] [] (fun aV hs hZ=>azQ ((show cD _ _ _ _ _ from ⟨cV,nn,nk,cU,rfl,pG,jR,lh⟩).up hs) hR hq Z5 Z3)<|zD 14<|zJ 17 ((uE rs (keyOf na) (keyOf nb))=11) (fun h1=>?_) fun h1=>?_
 ·
  refine zD 7<|zX (.tuple ⟨[zI 2,zI 0]⟩) ⟨by simp only[uN,uE,Gc] at*;rcases huq:uq rs (keyOf na) (keyOf nb) with _|_|n<;>simp_all<;>omega,rfl⟩
 refine zD 7<|js 20 (!decide ((uE rs (keyOf na) (keyOf nb))=0)) (fun h2=>?_) (fun h2=>?_)
 ·
  replace h2:=of_decide_eq_false (by simpa using h2)
  refine zD 8<|zX (.tuple ⟨[zI 0,zI (uE rs (keyOf na) (keyOf nb))]⟩) ⟨by simp only[uN,uE,Gc] at*;rcases huq:uq rs (keyOf na) (keyOf nb) with _|_|n<;>simp_all<;>omega,rfl⟩
 replace h2:=of_decide_eq_true (by simpa using h2)
 refine zD 7<|zJ 24 ((uN rs (keyOf na) (keyOf nb))=0) (fun h3=>?_) fun h3=>?_
 ·
  refine zD 7<|zX (.tuple ⟨[zI 1,zI 0]⟩) ⟨by simp only[uN,uE,Gc] at*;rcases huq:uq rs (keyOf na) (keyOf nb) with _|_|n<;>simp_all<;>omega,rfl⟩
 refine zD 8<|zX (.tuple ⟨[zI 3,zI 0]⟩) ⟨by simp only[uN,uE,Gc] at*;rcases huq:uq rs (keyOf na) (keyOf nb) with _|_|n<;>simp_all<;>omega,rfl⟩
def aic(ro:Nat→Option Obj)(v:Value)(W:List (List Int)):Prop:=∃ws,cD ro v 1 w6 ws∧iF (fun w l=>cD ro w 1 dc l) ws W
def r8(a b:Int):Int:=if a <b then-1 else if a>b then 1 else 0
def orL:List Int→Int
 | []=>0
 |x::l=>if x=0 then orL l else x
theorem adJ{l:List Int}{k:Nat}{x:Int}(h:l[k]?=some x):orL (l.drop k)=if x=0 then orL (l.drop (k+1)) else x:=by rw[kP h];rfl
theorem akh{l:List Int}{k:Nat}(h:¬k <l.length):orL (l.drop k)=0:=by rw[kD h];rfl
def aaE(x y:az):Int:=orL [r8 x.n y.n,r8 x.l y.l]
theorem amP{x y:az}(h:aka x y):aaE x y <0:=by
 rcases h with h| ⟨h1,h2⟩
 ·have e:r8 x.n y.n= -1:=if_pos h
  simp[aaE,orL,e]
 have e:r8 x.n y.n=0:=by simp only[r8];rw[if_neg (by omega),if_neg (by omega)]
 have e2:r8 x.l y.l= -1:=if_pos h2
 simp[aaE,orL,e,e2]
theorem au4{a:Int}:eR zT 204 [zI a] ro (.bool false):=by
 refine zE<|zD 12<|zX (.bool (!decide (a=a))) ⟨by simp,rfl⟩
theorem au7{a b:Int}:eR zT 142 [zI a,zI b] ro (zI (r8 a b)):=by
 refine zE<|zD 7<|jp (vs:=[zI a]) [] [] (fun aV hs hZ=>au4)<|zD 5<|jp (vs:=[zI b]) [] [] (fun aV hs hZ=>au4)<|zD 23<|zJ 16 (a <b) (fun h1=>?_) fun h1=>?_
 ·
  refine zD 6<|zX (zI (-1)) ⟨by simp only[r8];first|rw[if_pos (by omega)]|rw[if_neg (by omega),if_pos (by omega)]|rw[if_neg (by omega),if_neg (by omega)],rfl⟩
 refine zD 9<|zJ 19 (a>b) (fun h2=>?_) fun h2=>?_
 ·
  refine zD 6<|zX (zI 1) ⟨by simp only[r8];first|rw[if_pos (by omega)]|rw[if_neg (by omega),if_pos (by omega)]|rw[if_neg (by omega),if_neg (by omega)],rfl⟩
 refine zD 7<|zX (zI 0) ⟨by simp only[r8];first|rw[if_pos (by omega)]|rw[if_neg (by omega),if_pos (by omega)]|rw[if_neg (by omega),if_neg (by omega)],rfl⟩
theorem gOr(hl:cD ro v 1 dc xs)(hn:xs.length≤1000):eR zT 215 [v] ro (zI (orL xs)):=by
 obtain⟨cV,nn,nk,cU,rfl,pG,jR,lh⟩:=hl
 refine zE<|zD 16<|fX [1,1,0,1,0,0] [] (fun(zz:Nat)=>[(3,zI 0),(6,.slice cV xs.length cU),(7,zI (xs.length:Int)),(8,zI (zz:Int))]) (fun zz=>[]) (fun zz=>zz≤xs.length∧orL xs=orL (xs.drop zz)) (fun zz=>xs.length-zz) 0 ⟨by omega,rfl⟩ [] ?_
 rintro k hI K1 cz rest
 refine zD 5<|zJ 9 ((k:Int) <(xs.length:Int)) (fun h1=>?_) fun h1=>?_
 ·
  refine zD 6 ?_
  obtain⟨x10,Hf⟩:=zG xs k
  refine jq cU 1 jR Hf<|jl 0 (lh _ _ Hf)<|zD 8<|js 14 (!decide (x10=0)) (fun h2=>?_) (fun h2=>?_)
  ·
   replace h2:=of_decide_eq_false (by simpa using h2)
   refine zD 7<|zX (zI x10) ⟨by rw[hI.2,adJ Hf,if_neg (by simp_all)],rfl⟩
  replace h2:=of_decide_eq_true (by simpa using h2)
  refine zD 3<|zW ((k:Int)+1)<|zD 2<|zY cz (k+1) ⟨by omega,by rw[hI.2,adJ Hf,if_pos (by simp_all)]⟩ []
 refine zD 8<|zX (zI 0) ⟨by rw[hI.2,akh (by omega)],rfl⟩
theorem aph{x y:az}:eR zT 211 [.agg ⟨[zI x.n,zI x.l]⟩,.agg ⟨[zI y.n,zI y.l]⟩] ro (zI (aaE x y)):=by
 refine zE<|zD 2<|jn fun b2=>jn fun b3=>jd 12 [1,0,1,0]<|jp (vs:=[zI x.n,zI y.n]) [] [] (fun aV hs hZ=>au7)<|jp (vs:=[zI x.l,zI y.l]) [] [] (fun aV hs hZ=>au7)<|dV 10 fun tc tj sI=>jn fun b15=>iv sI [1,2]<|jp (vs:=[.slice (some ⟨b15,0,none⟩) 2 2]) [0] [(b15,.cells ⟨([(r8 x.n y.n),(r8 x.l y.l)].map dc).flatten⟩ 3 (0,0))] (fun aV hs hZ=>gOr (bM [(r8 x.n y.n),(r8 x.l y.l)] hZ.head (by intro p hp;rfl)) (by first|omega| (simp only[List.length_set,zM];omega))) ?_
 refine zD 3<|zX (zI (orL [(r8 x.n y.n),(r8 x.l y.l)])) ⟨rfl,rfl⟩
theorem Vh{n lo hi:Int}:eR zT 150 [zI n,zI lo,zI hi] ro (.bool (gY n lo hi)):=by
 refine zE<|zD 10<|jj 4 [(6,.bool false),(14,.bool ((decide (lo≤n))&&(decide (n≤hi))))] (fun nK=>?_) (fun hj=>?_)
 rotate_left
 refine js 10 (decide (lo≤n)) (fun h1=>?_) (fun h1=>?_)
 ·
  have qh:=h1
  replace qh:=of_decide_eq_true qh
  refine zD 4<|jw 14 (.bool ((decide (lo≤n))&&(decide (n≤hi)))) (w:= .bool (decide (n≤hi))) (by rw[h1]<;>rfl) ?_
  exact zK hj
 ·
  have qh:=h1
  replace qh:=of_decide_eq_false qh
  refine zD 4<|jw 14 (.bool ((decide (lo≤n))&&(decide (n≤hi)))) (w:= .bool false) (by rw[h1]<;>rfl) ?_
  exact zK hj
 refine zD 3<|zX (.bool ((decide (lo≤n))&&(decide (n≤hi)))) ⟨rfl,rfl⟩
theorem au0{x:az}(hx:B8 x):eR zT 152 [.agg ⟨[zI x.n,zI x.l]⟩] ro (.bool true):=by
 obtain⟨⟨hx1,hx2⟩,hx3,hx4⟩:=hx
 refine zE<|zD 2<|jn fun b1=>jd 6 [0]<|jp (vs:=[zI x.n,zI 1,zI 40]) [] [] (fun aV hs hZ=>Vh)<|zD 1<|jj 4 [(2,.bool false),(10,.bool ((gY x.n 1 40)&&(gY x.l 0 4)))] (fun nK=>?_) (fun hj=>?_)
 rotate_left
 refine js 6 (gY x.n 1 40) (fun h1=>?_) (fun h1=>?_)
 ·
  refine jd 2 [0]<|jp (vs:=[zI x.l,zI 0,zI 4]) [] [] (fun aV hs hZ=>Vh)<|zD 1<|jw 10 (.bool ((gY x.n 1 40)&&(gY x.l 0 4))) (w:= .bool (gY x.l 0 4)) (by rw[h1]<;>rfl) ?_
  exact zK hj
 ·
  refine zD 4<|jw 10 (.bool ((gY x.n 1 40)&&(gY x.l 0 4))) (w:= .bool false) (by rw[h1]<;>rfl) ?_
  exact zK hj
 refine zD 3<|zX (.bool ((gY x.n 1 40)&&(gY x.l 0 4))) ⟨by simp only[gY,Value.bool.injEq,Bool.and_eq_true,decide_eq_true_eq];omega,rfl⟩
theorem agI{S:List (List az)}(hS:bU ro v S)(hO:eG S):eR zT 149 [.agg ⟨[v]⟩] ro (zI 0):=by
 obtain⟨ws,ht,fP⟩:=hS
 obtain⟨iZ,I9,I7,gk,rfl,I8,xo,xm⟩:=ht
 have hln:=fP.len
 have Df:=hO.two
 refine zE<|zD 2<|jn fun b1=>jd 10 [0]<|zJ 10 ((ws.length:Int)=0) (fun h1=>?_) fun h1=>?_
 ·
  exfalso;omega
 refine jd 10 [0]<|zJ 14 ((ws.length:Int)>3) (fun h2=>?_) fun h2=>?_
 ·
  exfalso;omega
 refine jd 11 [0]<|fX [1,1,1,0,1,0,0] [] (fun(zz:Nat)=>[(16,.slice iZ ws.length gk),(17,zI (ws.length:Int)),(18,zI (zz:Int))]) (fun zz=>[.b b1 (.cells ⟨[.slice iZ ws.length gk]⟩ 24 (0,0))]) (fun zz=>zz≤ws.length) (fun zz=>ws.length-zz) 0 (by omega) [0] ?_
 rintro k hI K1 cz rest
 refine zD 5<|zJ 19 ((k:Int) <(ws.length:Int)) (fun h3=>?_) fun h3=>?_
 ·
  refine zD 6 ?_
  obtain⟨OA,Hd⟩:=zG ws k
  refine jq gk 1 xo Hd ?_
  obtain⟨l21,atT,h21⟩:=fP.get Hd
  obtain aCz:=hO.len _ (zL atT)
  obtain aNo:=hO.ok _ (zL atT)
  obtain aNh:=hO.asc _ (zL atT)
  obtain⟨aze,aYp,aYn,aj4,rfl,aYo,azd,azc⟩:=h21
  refine jl 0 (xm _ _ Hd)<|zD 9<|zJ 24 ((l21.length:Int)>8) (fun h4=>?_) fun h4=>?_
  ·
   exfalso;omega
  refine zD 9<|fX [1,1,1,0,1,0,0,1,1,0,0,1,1,1,0,0] [K1] (fun(zz:Nat)=>[(4,.slice aze l21.length aj4),(16,.slice iZ ws.length gk),(17,zI (ws.length:Int)),(18,zI (k:Int)),(25,.slice aze l21.length aj4),(26,zI (l21.length:Int)),(27,zI (zz:Int))]) (fun zz=>[.b b1 (.cells ⟨[.slice iZ ws.length gk]⟩ 24 (0,0))]) (fun zz=>zz≤l21.length) (fun zz=>l21.length-zz) 0 (by omega) [0] ?_
  rintro i hJ K2 oy rest
  refine zD 5<|zJ 28 ((i:Int) <(l21.length:Int)) (fun h5=>?_) fun h5=>?_
  ·
   refine zD 7 ?_
   obtain⟨D5,tF⟩:=zG l21 i
   refine jq aj4 2 azd tF<|jl 0 (azc _ _ tF)<|jn fun b6=>jd 7 [0,0]<|jp (vs:=[.agg ⟨[zI D5.n,zI D5.l]⟩]) [] [] (fun aV hs hZ=>(au0 (x:=D5) (aNo _ (zL tF))))<|zD 9<|js 2 (decide ((i:Int)>0)) (fun h6=>?_) (fun h6=>?_)
   ·
    have BN:=h6
    replace BN:=of_decide_eq_true BN
    refine zD 2<|zW ((i:Int)-1) ?_
    obtain⟨x41,Fb⟩:=zG l21 (((i:Int)-1).toNat)
    refine jsi ((i:Int)-1) aj4 2 azd Fb (by omega)<|jl 0 (azc _ _ Fb)<|jd 1 [0]<|jp (vs:=[.agg ⟨[zI x41.n,zI x41.l]⟩,.agg ⟨[zI D5.n,zI D5.l]⟩]) [] [] (fun aV hs hZ=>(aph (x:=x41) (y:=D5)))<|zD 3<|zJ 46 ((aaE x41 D5)≥0) (fun h7=>?_) fun h7=>?_
    ·
     exfalso;have:=amP (Aj aNh (show ((i:Int)-1).toNat <i by omega) Fb tF);simp_all;omega
    refine zD 3<|zW ((i:Int)+1)<|zD 2<|zY oy (i+1) (by omega) [1]
   have BN:=h6
   replace BN:=of_decide_eq_false BN
   refine zD 13<|zW ((i:Int)+1)<|zD 2<|zY oy (i+1) (by omega) [1]
  refine zD 3<|zW ((k:Int)+1)<|zD 2<|zY cz (k+1) (by omega) [0]
 refine zD 7<|zX (zI 0) ⟨rfl,rfl⟩
abbrev lv(x:ah):Value:= .agg ⟨bW x⟩
instance:DecidableEq ah:=fun x y=>match x,y with
 | ⟨a,b,c⟩,⟨d,e,f⟩=>if h:a=d∧b=e∧c=f then isTrue (by obtain⟨rfl,rfl,rfl⟩:=h;rfl) else isFalse fun k=>h (by cases k;exact⟨rfl,rfl,rfl⟩)
def mU(s:Int)(x:az):ah:=⟨s,x.n,x.l⟩
def Jk(S:List (List az)):Nat→List ah
 |0=>[]
 |k+1=>Jk S k++(match S[k]? with
  |some l=>l.map (mU k)
  |none=>[])
def aG(S:List (List az)):List ah:=Jk S S.length
theorem afm{S:List (List az)}{k:Nat}{l:List az}(h:S[k]?=some l):Jk S (k+1)=Jk S k++l.map (mU k):=by simp only[Jk,h]
theorem FM{S:List (List az)}{x:ah}:∀ {k:Nat},x∈Jk S k↔∃j l p,j <k∧S[j]?=some l∧p∈l∧x=mU j p
 |0=>by simp[Jk]
 |k+1=>by
  simp only[Jk,List.mem_append,FM (k:=k)]
  constructor
  ·rintro(⟨j,l,p,h1,h2⟩|h)
   ·exact⟨j,l,p,by omega,h2⟩
   split at h
   ·rename_i l hl
    obtain⟨p,hp,rfl⟩:=List.mem_map.1 h
    exact⟨k,l,p,by omega,hl,hp,rfl⟩
   cases h
  rintro⟨j,l,p,h1,h2,h3,rfl⟩
  by_cases hj:j=k
  ·subst hj;rw[h2];exact .inr (List.mem_map_of_mem h3)
  exact .inl ⟨j,l,p,by omega,h2,h3,rfl⟩
theorem UL{S:List (List az)}{j:Nat}{l:List az}{p:az}(h1:S[j]?=some l) (h2:p∈l):mU j p∈aG S:=FM.2 ⟨j,l,p,(List.getElem?_eq_some_iff.1 h1).1,h1,h2,rfl⟩
theorem Hh{S:List (List az)}(hO:eG S):∀k,(Jk S k).Nodup
 |0=>List.nodup_nil
 |k+1=>by
  simp only[Jk]
  refine List.nodup_append.2 ⟨Hh hO k,?_,fun x hx y hy e=>?_⟩
  ·split
   ·rename_i l hl
    refine List.pairwise_map.2 ((hO.asc l (zL hl)).imp fun {a b} h e=>?_)
    simp only[mU,ah.mk.injEq] at e
    rcases h with h|h<;>omega
   exact List.nodup_nil
  subst e
  obtain⟨j,l,p,h1,_,_,rfl⟩:=FM.1 hx
  split at hy
  ·obtain⟨q,_,hq⟩:=List.mem_map.1 hy
   simp only[mU,ah.mk.injEq] at hq
   omega
  cases hy
theorem FN{S:List (List az)}(hO:eG S):∀k,(Jk S k).length≤4*k
 |0=>by simp[Jk]
 |k+1=>by
  have:=FN hO k
  simp only[Jk,List.length_append]
  split
  ·rename_i l hl
   have:=hO.len l (zL hl)
   rw[List.length_map];omega
  simp;omega
theorem lA{S:List (List az)}(hO:eG S):(aG S).length≤8:=by
 have:=FN hO S.length
 have:=hO.two
 unfold aG;omega
theorem aEr(a b:ah):Yw zT 10000 41 (lv a) (lv b) (decide (a=b)):=by
 have h:=(kg (fD Tryz.typeInfo41 Tryz.underlying41 rfl rfl rfl rfl rfl rfl) Tryz.stoodInHeld41 (.cons (by decide) (dE gT rfl) (dE gT rfl) (jv gT _ _) (.cons (by decide) (lq (fD Tryz.typeInfo39 Tryz.underlying39 rfl rfl rfl rfl rfl rfl) rfl) (lq (fD Tryz.typeInfo39 Tryz.underlying39 rfl rfl rfl rfl rfl rfl) rfl) (Ll _ _ _ _ 9997) .nil)):Yw zT 10000 41 (lv a) (lv b) _)
 have e:(a.h==b.h&&((a.n==b.n&&(a.l==b.l&&true))&&true))=decide (a=b):=by
  rcases a with ⟨x,y,z⟩;rcases b with ⟨u,v,w⟩
  rw[Bool.eq_iff_iff];simp
 rwa[e] at h
theorem aR5(a:ah):CkD zT 10000 41 (lv a):=
 R7 (fD Tryz.typeInfo41 Tryz.underlying41 rfl rfl rfl rfl rfl rfl) (.cons (by decide) (dE gT rfl) (EK gT _) (.cons (by decide) (lq (fD Tryz.typeInfo39 Tryz.underlying39 rfl rfl rfl rfl rfl rfl) rfl) (R7 (dep:=9998) (fD Tryz.typeInfo39 Tryz.underlying39 rfl rfl rfl rfl rfl rfl) (.cons (by decide) (dE gT rfl) (EK gT _) (.cons (by decide) (dE gT rfl) (EK gT _) .nil))) .nil))
theorem wA:Oq zT 41 lv:=aeV (fD Tryz.typeInfo41 Tryz.underlying41 rfl rfl rfl rfl rfl rfl) (fun k=>⟨_,rfl⟩) aR5 aEr (fun k=>by simp[Instr.sameBits])
def MV(Z:Cells)(F:List (ah×Value))(g:ah→ah):Prop:=∀aR,Knows aR Z→∀x∈F,cD aR x.2 3 bW [g x.1]
theorem HG[DecidableEq κ]{k:κ}:∀ {F:List (κ×Value)} {i:Nat},k∈F.map (·.1)→∃j v,oe k F i=some (j,v)
 | [],_,h=>by cases h
 |x::F,i,h=>by
  simp only[oe]
  split
  ·exact⟨_,_,rfl⟩
  rename_i hk
  refine HG ?_
  rcases List.mem_cons.1 h with h|h
  ·exact absurd h hk
  exact h
theorem M5[DecidableEq κ]{k:κ}{F:List (κ×Value)}(h:k∈F.map (·.1)):∃v,lkM k F=some v∧(k,v)∈F:=by
 obtain⟨j,v,h1⟩:=HG (i:=0) h
 exact⟨v,by simp[lkM,h1],zL (nS h1).2⟩
theorem abX[DecidableEq κ]{k:κ}{F:List (κ×Value)}(h:k∉F.map (·.1)):eQ k v F=F++[(k,v)]:=by
 have:oe k F 0=none:=by
  cases hf:oe k F 0 with
  |none=>rfl
  |some y=>exact absurd (List.mem_map_of_mem (f:=(·.1)) (zL (nS (j:=y.1) (v:=y.2) hf).2)) h
 simp only[eQ,this]
theorem O6[DecidableEq κ]{k:κ}{F:List (κ×Value)}(h:k∈F.map (·.1))(hn:(F.map (·.1)).Nodup):(eQ k v F).map (·.1)=F.map (·.1)∧∀x∈eQ k v F,x=(k,v)∨(x∈F∧x.1≠k):=by
 obtain⟨j,u,h1⟩:=HG (i:=0) h
 have h2:=(nS h1).2
 rw[Nat.sub_zero] at h2
 obtain⟨hj,SM⟩:=List.getElem?_eq_some_iff.1 h2
 simp only[eQ,h1,FG]
 refine⟨?_,fun x hx=>?_⟩
 ·rw[List.map_set]
  refine List.ext_getElem? fun i=>?_
  rw[List.getElem?_set]
  split
  ·rename_i hi;subst hi;simp[h2,hj,SM]
  rfl
 obtain⟨i,hi⟩:=List.getElem?_of_mem hx
 rw[List.getElem?_set] at hi
 split at hi
 ·cases hi;exact .inl rfl
 rename_i IQ
 refine .inr ⟨zL hi,fun e=>IQ ?_⟩
 obtain⟨hi1,IS⟩:=List.getElem?_eq_some_iff.1 hi
 exact(List.getElem_inj (xs:=F.map (·.1)) (h₀:=by simpa using hj) (h₁:=by simpa using hi1) hn).1 (by simp[SM,IS,e])
theorem MV.set{F:List (ah×Value)}{g:ah→ah}(h:MV Z F g){k y:ah}(hk:k∈F.map (·.1))(hn:(F.map (·.1)).Nodup)(hv:∀aR,Knows aR Z2→cD aR v 3 bW [y]):MV (Z++Z2) (eQ k v F) (fun x=>if x=k then y else g x):=fun aR hr x hx=>by
 rcases(O6 hk hn).2 x hx with rfl| ⟨h1,h2⟩
 ·simp only[if_true];exact hv aR hr.right
 simp only[h2,if_false];exact h aR hr.left x h1
theorem MV.add{F:List (ah×Value)}{g:ah→ah}(h:MV Z F g){k:ah}(hv:∀aR,Knows aR Z2→cD aR v 3 bW [g k]):MV (Z++Z2) (F++[(k,v)]) g:=fun aR hr x hx=>by
 rcases List.mem_append.1 hx with h1|h1
 ·exact h aR hr.left x h1
 rw[List.mem_singleton] at h1;subst h1;exact hv aR hr.right
theorem aEe(hl:cD ro v 1 dc xs)(hn:xs.length≤1000):dX zT 157 [v] ro [] (fun r Y=>aK r 1 3 dc xs Y):=by
 obtain⟨cV,nn,nk,cU,rfl,pG,jR,lh⟩:=hl
 refine zE<|zD 8<|jsn 45 (a:=cV) (l:=xs.length) (c:=cU)<|zD 1<|js 4 (cV.isNone) (fun h1=>?_) (fun h1=>?_)
 ·
  refine zD 6<|zX (zS) (by rw[iA jR (by assumption)];exact aK.nil _ _ _)
 refine zD 4<|jn fun b5=>zD 1<|wD (sz:=1) (ps:=[]) (qs:=xs) (enc:=dc) (w:= .slice cV xs.length cU) [0] [] [] (j7 (b:=b5) (T:=3)) (fun s he _=>⟨cV,nn,nk,cU,rfl,jR,fun i p hp=>(lh i p hp).ext he⟩) (fun p _=>aP rfl) (by simp<;>omega) (fun v7 L7 fL=>?_)
 rw[List.nil_append] at fL
 obtain⟨O2,OY,Jv⟩:=fL.form
 subst Jv
 refine zD 3<|zR ((.slice O2 (xs).length OY)) [] [0] L7 fL
theorem aEd{xs:List az}(hl:cD ro v 2 ez xs)(hn:xs.length≤1000):dX zT 109 [v] ro [] (fun r Y=>aK r 2 39 ez xs Y):=by
 obtain⟨cV,nn,nk,cU,rfl,pG,jR,lh⟩:=hl
 refine zE<|zD 8<|jsn 90 (a:=cV) (l:=xs.length) (c:=cU)<|zD 1<|js 4 (cV.isNone) (fun h1=>?_) (fun h1=>?_)
 ·
  refine zD 6<|zX (zS) (by rw[iA jR (by assumption)];exact aK.nil _ _ _)
 refine zD 4<|jn fun b5=>zD 1<|wD (sz:=2) (ps:=[]) (qs:=xs) (enc:=ez) (w:= .slice cV xs.length cU) [0] [] [] (j7 (b:=b5) (T:=39)) (fun s he _=>⟨cV,nn,nk,cU,rfl,jR,fun i p hp=>(lh i p hp).ext he⟩) (fun p _=>aP rfl) (by simp<;>omega) (fun v7 L7 fL=>?_)
 rw[List.nil_append] at fL
 obtain⟨O2,OY,Jv⟩:=fL.form
 subst Jv
 refine zD 3<|zR ((.slice O2 (xs).length OY)) [] [0] L7 fL
theorem aRF{xs:List ah}(hl:cD ro v 3 bW xs)(hn:xs.length≤1000):dX zT 162 [v] ro [] (fun r Y=>aK r 3 41 bW xs Y):=by
 obtain⟨cV,nn,nk,cU,rfl,pG,jR,lh⟩:=hl
 refine zE<|zD 8<|jsn 70 (a:=cV) (l:=xs.length) (c:=cU)<|zD 1<|js 4 (cV.isNone) (fun h1=>?_) (fun h1=>?_)
 ·
  refine zD 6<|zX (zS) (by rw[iA jR (by assumption)];exact aK.nil _ _ _)
 refine zD 4<|jn fun b5=>zD 1<|wD (sz:=3) (ps:=[]) (qs:=xs) (enc:=bW) (w:= .slice cV xs.length cU) [0] [] [] (j7 (b:=b5) (T:=41)) (fun s he _=>⟨cV,nn,nk,cU,rfl,jR,fun i p hp=>(lh i p hp).ext he⟩) (fun p _=>aP rfl) (by simp<;>omega) (fun v7 L7 fL=>?_)
 rw[List.nil_append] at fL
 obtain⟨O2,OY,Jv⟩:=fL.form
 subst Jv
 refine zD 3<|zR ((.slice O2 (xs).length OY)) [] [0] L7 fL
theorem amr{S:List (List az)}(hS:bU ro v S)(hO:eG S):dX zT 160 [.agg ⟨[v]⟩] ro [] (fun r Y=>∃a n c,r= .agg ⟨[.slice a n c]⟩∧∀aR,Knows aR Y→bU aR (.slice a n c) S):=by
 obtain⟨ws,ht,fP⟩:=hS
 obtain⟨iZ,I9,I7,gk,rfl,I8,xo,xm⟩:=ht
 have hln:=fP.len
 have Df:=hO.two
 refine zE<|zD 2<|jn fun b1=>jn fun b2=>zD 4<|jn fun b3=>jd 11 [0,2]<|BD<|BD<|fX [1,1,0,1,0,0] [] (fun(zz:Nat×Value×Cells×(List Value)×Cells)=>[(2,zP b2),(3,zP b3),(8,.slice iZ ws.length gk),(9,zI (ws.length:Int)),(10,zI (zz.1:Int))]) (fun zz=>[.b b3 (.cells ⟨[zz.2.1]⟩ 24 (0,0)),.l zz.2.2.1,.l zz.2.2.2.2,.b b2 (.cells ⟨[zS]⟩ 24 (0,0)),.b b1 (.cells ⟨[.slice iZ ws.length gk]⟩ 24 (0,0))]) (fun zz=>(zz.1≤ws.length∧zz.2.2.2.1.length=zz.1)∧aK zz.2.1 1 90 w6 zz.2.2.2.1 zz.2.2.1∧∀aR,Knows aR zz.2.2.2.2→iF (fun w l=>cD aR w 2 ez l) zz.2.2.2.1 (S.take zz.1)) (fun zz=>ws.length-zz.1) (⟨0,zS,[],[],[]⟩) ⟨⟨by dsimp only;omega,rfl⟩,aK.nil _ _ _,fun _ _=> .nil⟩ [2,1,0,3,4] ?_
 rintro⟨k,vO,LO,es,Z⟩ hI K1 cz rest
 dsimp only at hI
 refine zD 5<|zJ 11 ((k:Int) <(ws.length:Int)) (fun h1=>?_) fun h1=>?_
 ·
  refine zD 6 ?_
  obtain⟨uV,rq⟩:=zG ws k
  refine jq gk 1 xo rq ?_
  obtain⟨l13,aCQ,h13⟩:=fP.get rq
  obtain bah:=hO.len _ (zL aCQ)
  obtain⟨azm,aLB,aLx,azl,rfl,aLz,aLA,aLy⟩:=h13
  refine jl 0 (xm _ _ rq)<|jd 6 [0]<|dV 3 fun LW Mn Nv=>jc (vs:=[.slice azm l13.length azl]) [] (aEd (show cD _ _ _ _ _ from ⟨azm,aLB,aLx,azl,rfl,aLz,aLA,aLy⟩) (by first|omega| (simp only[List.length_set,zM];omega))) ?_
  rintro v17 L17 afH
  obtain⟨E3,E1,aah⟩:=afH.form
  subst aah
  refine iv Nv (zN 1 5)<|dV 4 fun Bc Bm AN=>jn fun b18=>iv AN (zN 1 6)<|dV 5 fun Cq Cy AM=>wD (sz:=1) (ps:=es) (qs:=[((.slice E3 (l13).length E1):Value)]) (enc:=w6) (w:= .slice (some ⟨b18,0,none⟩) 1 1) [3] [0] [(b18,.cells ⟨([((.slice E3 (l13).length E1):Value)].map w6).flatten⟩ 90 (0,0))] (hI.2.1) (fun s _ hZ=>gG [((.slice E3 (l13).length E1):Value)] (hZ _ (.head _)) (by intro p hp;rfl)) (by intro p hp;rw[List.mem_singleton] at hp;subst hp;exact aP rfl) (by simp<;>omega) (fun v19 L19 afx=>?_)
  obtain⟨aJy,aJe,aPj⟩:=afx.form
  subst aPj
  refine wC AM []<|zD 1<|dV 7 fun Yx YJ hL5=>jd 1 [3]<|IJ hL5<|zD 2<|zW ((k:Int)+1)<|zD 2<|zV cz (⟨k+1,(.slice aJy ((es++[((.slice E3 (l13).length E1):Value)])).length aJe),L19,(es++[((.slice E3 (l13).length E1):Value)]),L17++Z⟩) ⟨⟨by dsimp only;omega,by simp only[zM];omega⟩,afx,fun aR hk=>yQ (hI.2.2 aR hk.right) aCQ (afH.n9 hk.left)⟩ [[3],[0],[2,4],[5],[6]]
 refine jd 5 [0] ?_
 obtain⟨va6,vc6,he6⟩:=hI.2.1.form
 subst he6
 refine jd 3 [3]<|zR (.agg ⟨[(.slice va6 (es).length vc6)]⟩) [3] [1,2] (LO++Z) ⟨_,_,_,rfl,fun aR hk=>⟨es,hI.2.1.n9 hk.left,by have:=hI.2.2 aR hk.right;rwa[List.take_of_length_le (by omega)] at this⟩⟩
theorem XO{S:List (List az)}(hS:bU ro v S)(hO:eG S):dX zT 151 [.agg ⟨[v]⟩] ro [] (fun r Y=>aK r 3 41 bW (aG S) Y):=by
 obtain⟨ws,ht,fP⟩:=hS
 obtain⟨iZ,I9,I7,gk,rfl,I8,xo,xm⟩:=ht
 have hln:=fP.len
 have Df:=hO.two
 refine zE<|zD 2<|jn fun b1=>jd 15 [0]<|BD<|fX [1,1,0,1,0,0] [] (fun(zz:Nat×Value×Cells)=>[(2,zS),(3,zz.2.1),(9,.slice iZ ws.length gk),(10,zI (ws.length:Int)),(11,zI (zz.1:Int))]) (fun zz=>[.l zz.2.2,.b b1 (.cells ⟨[.slice iZ ws.length gk]⟩ 24 (0,0))]) (fun zz=>zz.1≤ws.length∧aK zz.2.1 3 41 bW (Jk S zz.1) zz.2.2) (fun zz=>ws.length-zz.1) (⟨0,zS,[]⟩) ⟨by dsimp only;omega,aK.nil _ _ _⟩ [0,1] ?_
 rintro⟨k,vO,LO⟩ hI K1 cz rest
 dsimp only at hI
 refine zD 5<|zJ 12 ((k:Int) <(ws.length:Int)) (fun h1=>?_) fun h1=>?_
 ·
  refine zD 7 ?_
  obtain⟨yj,gD⟩:=zG ws k
  refine jq gk 1 xo gD ?_
  obtain⟨Db,No,Va⟩:=fP.get gD
  obtain aCA:=hO.len _ (zL No)
  obtain⟨adm,azk,azi,PK,rfl,azj,adl,adk⟩:=Va
  refine jl 0 (xm _ _ gD)<|zD 10<|fX [1,1,0,1,0,0,1,1,0,0,1,1,0,0] [K1] (fun(zz:Nat×Value×Cells)=>[(2,zS),(3,zz.2.1),(4,zI (k:Int)),(9,.slice iZ ws.length gk),(10,zI (ws.length:Int)),(11,zI (k:Int)),(16,.slice adm Db.length PK),(17,zI (Db.length:Int)),(18,zI (zz.1:Int))]) (fun zz=>[.l zz.2.2,.b b1 (.cells ⟨[.slice iZ ws.length gk]⟩ 24 (0,0))]) (fun zz=>zz.1≤Db.length∧aK zz.2.1 3 41 bW (Jk S k++(Db.take zz.1).map (mU k)) zz.2.2) (fun zz=>Db.length-zz.1) (⟨0,vO,LO⟩) ⟨by dsimp only;omega,by simpa using hI.2⟩ [0,1] ?_
  rintro⟨i,vO,LO⟩ hJ K2 oy rest
  dsimp only at hJ
  refine zD 5<|zJ 19 ((i:Int) <(Db.length:Int)) (fun h2=>?_) fun h2=>?_
  ·
   refine zD 6 ?_
   obtain⟨OA,Hd⟩:=zG Db i
   refine jq PK 2 adl Hd<|jl 0 (adk _ _ Hd)<|jn fun b7=>jd 7 [0,0]<|jn fun b26=>wD (sz:=3) (ps:=(Jk S k++(Db.take i).map (mU k))) (qs:=[(⟨(k:Int),OA.n,OA.l⟩:ah)]) (enc:=bW) (w:= .slice (some ⟨b26,0,none⟩) 1 1) [2] [0] [(b26,.cells ⟨([(⟨(k:Int),OA.n,OA.l⟩:ah)].map bW).flatten⟩ 41 (0,0))] (hJ.2) (fun s _ hZ=>gG [(⟨(k:Int),OA.n,OA.l⟩:ah)] (hZ _ (.head _)) (by intro p hp;rfl)) (fun p _=>aP rfl) (by have:=FN hO k;simp only[List.length_append,List.length_map,List.length_take,List.length_cons,List.length_nil];omega) (fun v27 L27 Ho=>?_)
   obtain⟨aqD,aqy,aui⟩:=Ho.form
   subst aui
   refine zD 3<|zW ((i:Int)+1)<|zD 2<|zF oy (⟨i+1,(.slice aqD (((Jk S k++(Db.take i).map (mU k))++[(⟨(k:Int),OA.n,OA.l⟩:ah)])).length aqy),L27⟩) (by rw[eK Hd,List.map_append,←List.append_assoc];exact Ho) [0,3]
  refine zD 3<|zW ((k:Int)+1)<|zD 2<|zF cz (⟨k+1,vO,LO⟩) (by rw[afm No];have:=hJ.2;rwa[List.take_of_length_le (by omega)] at this) [0,1]
 refine zD 8<|zR (vO) [] [0] LO (by have:=hI.2;rwa[show k=S.length by omega] at this)
theorem S3{l:List α}{k:Nat}{x:α}(hn:l.Nodup)(h:l[k]?=some x):x∉l.take k:=fun hx=>by
 obtain⟨hk,he⟩:=List.getElem?_eq_some_iff.1 h
 obtain⟨i,hi⟩:=List.getElem?_of_mem hx
 have hik:i <k:=by have:=(List.getElem?_eq_some_iff.1 hi).1;rw[List.length_take] at this;omega
 rw[List.getElem?_take_of_lt hik] at hi
 obtain⟨hi1,IS⟩:=List.getElem?_eq_some_iff.1 hi
 have:=(List.getElem_inj (h₀:=hi1) (h₁:=hk) hn).1 (IS.trans he.symm)
 omega
def yX(n:Int):Bool:= !decide (Int.tmod n 2=0)
def Fq(n:Int):Bool:=decide (Int.tmod n 2=0)
theorem sO{p:α→Bool}{l:List α}{x:α}(h:l[i]?=some x):(l.take (i+1)).filter p=(l.take i).filter p++bif p x then [x] else []:=by
 rw[eK h,List.filter_append]
 cases hp:p x<;>simp[hp]
def sF(l:List az):List (List az):=[l.filter fun x=>yX x.n,l.filter fun x=>Fq x.n]
theorem agj{l h:List az}{x:az}(hh:h∈sF l)(hx:x∈h):x∈l:=by
 simp only[sF,List.mem_cons,List.not_mem_nil,or_false] at hh
 rcases hh with rfl|rfl<;>exact(List.mem_filter.1 hx).1
theorem agk{l h:List az}(hh:h∈sF l):h.length≤l.length:=by
 simp only[sF,List.mem_cons,List.not_mem_nil,or_false] at hh
 rcases hh with rfl|rfl<;>exact List.length_filter_le _ _
def I4(s:Int)(h:List az):List (ah×ah):=(h.zip h.reverse).map fun p=>(mU s p.1,mU s p.2)
def abZ(s:Int)(l:List az):List (ah×ah):=(sF l).flatMap (I4 s)
def J1(s:Int)(l:List az):List (ah×ah):=l.map fun x=>(mU s x,⟨s,if yX x.n=true then x.n+1 else x.n-1,x.l⟩)
def tv(l:List az):Int:=match l[l.length-1]? with
 |some y=>y.n+Int.tmod y.n 2
 |none=>0
def KH(s o:Int)(l:List az)(r:Int):List (ah×ah):=l.map fun x=>(mU s x,⟨o,x.n+r,x.l⟩)
def gU(u:List (ah×ah))(x:ah):ah:=u.foldl (fun y p=>if x=p.1 then p.2 else y) x
theorem amo(u:List (ah×ah))(a b:ah):gU (u++[(a,b)])=fun x=>if x=a then b else gU u x:=by
 funext x;simp only[gU,List.foldl_append,List.foldl_cons,List.foldl_nil]
theorem ajK{s:Int}{h:List az}{x y:az}(hx:h[i]?=some x) (hy:h[(((h.length:Int)-1)-(i:Int)).toNat]?=some y):(I4 s h)[i]?=some (mU s x,mU s y):=by
 have hi:=(List.getElem?_eq_some_iff.1 hx).1
 have h2:h.reverse[i]?=some y:=by rw[List.getElem?_reverse hi,←hy];congr 1;omega
 have:=(List.getElem?_zip_eq_some (z:=(x,y))).2 ⟨hx,h2⟩
 simp only[I4,List.getElem?_map,this];rfl
theorem acL(s:Int)(h:List az):(I4 s h).length=h.length:=by simp[I4]
theorem aep{f:α→β}{l:List α}{x:α}(h:l[i]?=some x):(l.map f)[i]?=some (f x):=by rw[List.getElem?_map,h];rfl
theorem amv{f:α→List β}{l:List α}{x:α}(h:l[i]?=some x):(l.take (i+1)).flatMap f=(l.take i).flatMap f++f x:=by rw[eK h,List.flatMap_append,List.flatMap_singleton]
theorem MV.upd{S:List (List az)}(hO:eG S){F:List (ah×Value)}{u:List (ah×ah)}{l:List az}{x:az}{y:ah}(h:MV Z F (gU u))(hk:F.map (·.1)=aG S)(hl:S[s]?=some l) (hx:x∈l):
 MV (Z++[(b,.cells ⟨bW y⟩ T (0,0))]) (eQ (mU s x) (.slice (some ⟨b,0,none⟩) 1 1) F) (gU (u++[(mU s x,y)]))∧(eQ (mU s x) (.slice (some ⟨b,0,none⟩) 1 1) F).map (·.1)=aG S:=by
 have hm:mU s x∈F.map (·.1):=by rw[hk];exact UL hl hx
 have hn:(F.map (·.1)).Nodup:=by rw[hk];exact Hh hO _
 rw[amo]
 exact⟨h.set hm hn fun aR hk=>bM [y] (hk _ (.head _)) (fun _ _=>rfl),(O6 hm hn).1.trans hk⟩
theorem Pq{S:List (List az)}(hO:eG S){F:List (ah×Value)}{k:Nat}{x:ah}(h:MV Z F id)(hk:F.map (·.1)=(aG S).take k)(hx:(aG S)[k]?=some x):
 MV (Z++[(b,.cells ⟨bW x⟩ T (0,0))]) (eQ x (.slice (some ⟨b,0,none⟩) 1 1) F) id∧(eQ x (.slice (some ⟨b,0,none⟩) 1 1) F).map (·.1)=(aG S).take (k+1):=by
 have:x∉F.map (·.1):=by rw[hk];exact S3 (Hh hO _) hx
 rw[abX this]
 exact⟨h.add fun aR hk=>bM [x] (hk _ (.head _)) (fun _ _=>rfl),by rw[List.map_append,hk,eK hx];rfl⟩
theorem agD{S:List (List az)}(hS:bU ro v S)(hO:eG S):dX zT 161 [.agg ⟨[v]⟩] ro [] (fun r Y=>∃rm F LM Z,r= .map (some rm)∧Y=LM++Z∧fH rm lv F LM∧F.map (·.1)=aG S∧MV Z F id):=by
 have yG:=hS
 obtain⟨ws,ht,fP⟩:=hS
 obtain⟨iZ,I9,I7,gk,rfl,I8,xo,xm⟩:=ht
 have hln:=fP.len
 have Df:=hO.two
 have hhl:=lA hO
 refine zE<|zD 2<|jn fun b1=>zD 4<|jmk lv fun r6 L6 hm6=>jd 6 [1]<|jc (vs:=[.agg ⟨[.slice iZ ws.length gk]⟩]) [] (XO yG hO) ?_
 rintro v8 L8 ho8
 refine jol ho8<|zD 1<|jf [0] L8 (fun yW cR fe=>?_)
 have hzh:=ho8.n9 fe
 obtain⟨aKp,aXA,aXy,ayI,rfl,aXz,aKo,aKn⟩:=hzh
 refine zD 2<|BD<|fX [1,1,0,1,0,0] [] (fun(zz:Nat×(List (ah×Value))×Cells×Cells)=>[(2,(.map none)),(3,(.map (some r6))),(8,.slice aKp ((aG S).length) ayI),(9,zI ((aG S).length:Int)),(10,zI (zz.1:Int))]) (fun(zz:Nat×(List (ah×Value))×Cells×Cells)=>[.l zz.2.2.1,.l zz.2.2.2,.b b1 (.cells ⟨[.slice iZ ws.length gk]⟩ 24 (0,0))]) (fun(zz:Nat×(List (ah×Value))×Cells×Cells)=>zz.1≤(aG S).length∧fH r6 lv zz.2.1 zz.2.2.1∧zz.2.1.map (·.1)=(aG S).take zz.1∧MV zz.2.2.2 zz.2.1 id) (fun(zz:Nat×(List (ah×Value))×Cells×Cells)=>(aG S).length-zz.1) (⟨0,[],L6,[]⟩) ⟨by dsimp only;omega,hm6,rfl,fun _ _ _ h=>(by cases h)⟩ [1,0,2] ?_
 rintro⟨k,F,LM,Z⟩ hI K1 cz rest
 dsimp only at hI
 refine zD 5<|zJ 11 ((k:Int) <((aG S).length:Int)) (fun h4=>?_) fun h4=>?_
 ·
  refine zD 6 ?_
  obtain⟨uV,rq⟩:=zG ((aG S)) k
  refine jq ayI 3 aKo rq<|jl 0 (aKn _ _ rq)<|jn fun b5=>jd 6 [0,0,0]<|jn fun b17=>Ut (kv:=lv) (F:=F) (r:=r6) (K:=41) 2 uV (.slice (some ⟨b17,0,none⟩) 1 1) wA hI.2.1 fun Lm5 hm5=>zD 2<|zW ((k:Int)+1)<|zD 2<|zV cz (⟨k+1,_,Lm5,Z++[(b17,.cells ⟨[zI uV.h,zI uV.n,zI uV.l]⟩ 41 (0,0))]⟩) ⟨by dsimp only;omega,hm5,(Pq (T:=41) hO hI.2.2.2 hI.2.2.1 rq).2,(Pq (T:=41) hO hI.2.2.2 hI.2.2.1 rq).1⟩ [[0],[3,1],[4]]
 refine zD 8<|aS q0.a ((.map (some r6))) [] [0,1] (LM++Z) cR ⟨_,_,rfl,rfl,_,F,LM,Z,rfl,rfl,hI.2.1,by rw[hI.2.2.1,List.take_of_length_le (by omega)],hI.2.2.2⟩
theorem gAt{h n l:Int}:eR zT 287 [zI h,zI n,zI l] ro (.agg ⟨[zI h,zI n,zI l]⟩):=by
 refine zE<|zD 2<|jn fun b6=>jd 11 [0]<|zR (.agg ⟨[zI h,zI n,zI l]⟩) [0] [] [] ⟨rfl,rfl⟩
theorem aD3{x:az}:eR zT 285 [.agg ⟨[zI x.n,zI x.l]⟩] ro (.bool (yX x.n)):=by
 refine zE<|zD 2<|jn fun b1=>jd 11 [0]<|zX (.bool (!decide ((Int.tmod x.n 2)=0))) ⟨rfl,rfl⟩
theorem agG{l:List az}(hl:cD ro v 2 ez l)(hn:l.length≤4):dX zT 284 [v,.func (.func 285) ⟨[]⟩ ⟨[]⟩] ro [] (fun r Y=>aK r 2 39 ez (l.filter fun x=>yX x.n) Y):=by
 obtain⟨cV,nn,nk,cU,rfl,pG,jR,lh⟩:=hl
 refine zE<|zD 16<|BD<|fX [1,1,0,1,0,0] [] (fun(zz:Nat×Value×Cells)=>[(1,.func (.func 285) ⟨[]⟩ ⟨[]⟩),(4,zS),(5,zz.2.1),(8,.slice cV l.length cU),(9,zI (l.length:Int)),(10,zI (zz.1:Int))]) (fun zz=>[.l zz.2.2]) (fun zz=>zz.1≤l.length∧aK zz.2.1 2 39 ez ((l.take zz.1).filter fun x=>yX x.n) zz.2.2) (fun zz=>l.length-zz.1) (⟨0,zS,[]⟩) ⟨by dsimp only;omega,aK.nil _ _ _⟩ [0] ?_
 rintro⟨k,vO,LO⟩ hI K1 cz rest
 dsimp only at hI
 refine zD 5<|zJ 11 ((k:Int) <(l.length:Int)) (fun h1=>?_) fun h1=>?_
 ·
  refine zD 6 ?_
  obtain⟨uV,rq⟩:=zG l k
  refine jq cU 2 jR rq<|jl 0 (lh _ _ rq)<|jn fun b7=>jd 6 [0,0]<|jp (vs:=[.agg ⟨[zI uV.n,zI uV.l]⟩]) [] [] (fun aV hs hZ=>(aD3 (x:=uV)))<|zD 1<|js 16 (yX uV.n) (fun h2=>?_) (fun h2=>?_)
  ·
   refine jd 4 [0]<|jn fun DN=>wD (sz:=2) (ps:=((l.take k).filter fun x=>yX x.n)) (qs:=[(⟨uV.n,uV.l⟩:az)]) (enc:=ez) (w:= .slice (some ⟨DN,0,none⟩) 1 1) [2] [0] [(DN,.cells ⟨([(⟨uV.n,uV.l⟩:az)].map ez).flatten⟩ 39 (0,0))] (hI.2) (fun s _ hZ=>gG [(⟨uV.n,uV.l⟩:az)] (hZ _ (.head _)) (by intro p hp;rfl)) (fun p _=>aP rfl) (by have:=List.length_filter_le (fun x:az=>yX x.n) (l.take k);rw[List.length_take] at this;simp only[List.length_cons,List.length_nil];omega) (fun v20 L20 Hp=>?_)
   obtain⟨S1,SY,UZ⟩:=Hp.form
   subst UZ
   refine zD 3<|zW ((k:Int)+1)<|zD 2<|zF cz (⟨k+1,(.slice S1 ((((l.take k).filter fun x=>yX x.n)++[(⟨uV.n,uV.l⟩:az)])).length SY),L20⟩) (by rw[sO rq,show yX uV.n=true from (by assumption)];exact Hp) [0]
  refine zD 3<|zW ((k:Int)+1)<|zD 2<|zF cz (⟨k+1,vO,LO⟩) (by rw[sO rq,show yX uV.n=false from (by assumption)];simpa using hI.2) [1]
 refine zD 8<|zR (vO) [] [0] LO (by have:=hI.2;rwa[List.take_of_length_le (by omega)] at this)
theorem aD9{x:az}:eR zT 286 [.agg ⟨[zI x.n,zI x.l]⟩] ro (.bool (Fq x.n)):=by
 refine zE<|zD 2<|jn fun b1=>jd 11 [0]<|zX (.bool (decide ((Int.tmod x.n 2)=0))) ⟨rfl,rfl⟩
theorem agF{l:List az}(hl:cD ro v 2 ez l)(hn:l.length≤4):dX zT 284 [v,.func (.func 286) ⟨[]⟩ ⟨[]⟩] ro [] (fun r Y=>aK r 2 39 ez (l.filter fun x=>Fq x.n) Y):=by
 obtain⟨cV,nn,nk,cU,rfl,pG,jR,lh⟩:=hl
 refine zE<|zD 16<|BD<|fX [1,1,0,1,0,0] [] (fun(zz:Nat×Value×Cells)=>[(1,.func (.func 286) ⟨[]⟩ ⟨[]⟩),(4,zS),(5,zz.2.1),(8,.slice cV l.length cU),(9,zI (l.length:Int)),(10,zI (zz.1:Int))]) (fun zz=>[.l zz.2.2]) (fun zz=>zz.1≤l.length∧aK zz.2.1 2 39 ez ((l.take zz.1).filter fun x=>Fq x.n) zz.2.2) (fun zz=>l.length-zz.1) (⟨0,zS,[]⟩) ⟨by dsimp only;omega,aK.nil _ _ _⟩ [0] ?_
 rintro⟨k,vO,LO⟩ hI K1 cz rest
 dsimp only at hI
 refine zD 5<|zJ 11 ((k:Int) <(l.length:Int)) (fun h1=>?_) fun h1=>?_
 ·
  refine zD 6 ?_
  obtain⟨uV,rq⟩:=zG l k
  refine jq cU 2 jR rq<|jl 0 (lh _ _ rq)<|jn fun b7=>jd 6 [0,0]<|jp (vs:=[.agg ⟨[zI uV.n,zI uV.l]⟩]) [] [] (fun aV hs hZ=>(aD9 (x:=uV)))<|zD 1<|js 16 (Fq uV.n) (fun h2=>?_) (fun h2=>?_)
  ·
   refine jd 4 [0]<|jn fun DN=>wD (sz:=2) (ps:=((l.take k).filter fun x=>Fq x.n)) (qs:=[(⟨uV.n,uV.l⟩:az)]) (enc:=ez) (w:= .slice (some ⟨DN,0,none⟩) 1 1) [2] [0] [(DN,.cells ⟨([(⟨uV.n,uV.l⟩:az)].map ez).flatten⟩ 39 (0,0))] (hI.2) (fun s _ hZ=>gG [(⟨uV.n,uV.l⟩:az)] (hZ _ (.head _)) (by intro p hp;rfl)) (fun p _=>aP rfl) (by have:=List.length_filter_le (fun x:az=>Fq x.n) (l.take k);rw[List.length_take] at this;simp only[List.length_cons,List.length_nil];omega) (fun v20 L20 Hp=>?_)
   obtain⟨S1,SY,UZ⟩:=Hp.form
   subst UZ
   refine zD 3<|zW ((k:Int)+1)<|zD 2<|zF cz (⟨k+1,(.slice S1 ((((l.take k).filter fun x=>Fq x.n)++[(⟨uV.n,uV.l⟩:az)])).length SY),L20⟩) (by rw[sO rq,show Fq uV.n=true from (by assumption)];exact Hp) [0]
  refine zD 3<|zW ((k:Int)+1)<|zD 2<|zF cz (⟨k+1,vO,LO⟩) (by rw[sO rq,show Fq uV.n=false from (by assumption)];simpa using hI.2) [1]
 refine zD 8<|zR (vO) [] [0] LO (by have:=hI.2;rwa[List.take_of_length_le (by omega)] at this)
theorem amq{S:List (List az)}{l:List az}{ck c2 c3 c4:Int}{F:List (ah×Value)}(hS:bU ro v S)(hO:eG S)(hl:S[s]?=some l) (hm:fH rm lv F LM) (hk:F.map (·.1)=aG S) (hM:MV Z F id):dX zT 244 [.agg ⟨[v]⟩,.agg ⟨[zI ck,zI (s:Int),zI c2,zI c3,zI c4,zI c5,zI c6]⟩,(.map (some rm))] ro (LM++Z) (fun r Y=>∃F' L' Z',r= zI 0∧Y=L'++Z'∧fH rm lv F' L'∧F'.map (·.1)=aG S∧MV Z' F' (gU (abZ (s:Int) l))):=by
 obtain⟨ws,ht,fP⟩:=hS
 obtain⟨iZ,I9,I7,gk,rfl,I8,xo,xm⟩:=ht
 have hln:=fP.len
 have Df:=hO.two
 have IK:=(List.getElem?_eq_some_iff.1 hl).1
 have hlm:=zL hl
 have A5:=hO.len _ hlm
 refine zC [.l LM,.l Z]<|zD 2<|jn fun b3=>jn fun b4=>zD 4<|jct [1,0,1] [] (fun(zz:Nat×Value×Value×Cells×Cells)=>[(2,(.map (some rm))),(4,zP b4),(6,zI 0),(25,.slice (some ⟨zz.1,0,none⟩) 2 2),(26,zI 2),(27,zI 0)]) (fun zz=>[.b zz.1 (.cells ⟨[zz.2.1,zz.2.2.1]⟩ 90 (0,0)),.l zz.2.2.2.1,.l zz.2.2.2.2,.l LM,.l Z,.b b4 (.cells ⟨[zI ck,zI (s:Int),zI c2,zI c3,zI c4,zI c5,zI c6]⟩ 92 (0,0)),.b b3 (.cells ⟨[.slice iZ ws.length gk]⟩ 24 (0,0))]) (fun zz=>aK zz.2.1 2 39 ez (l.filter fun x=>yX x.n) zz.2.2.2.1∧aK zz.2.2.1 2 39 ez (l.filter fun x=>Fq x.n) zz.2.2.2.2) ?_ (fun K1 cz=>?_)
 ·
  rintro⟨b25,v1,v2,L1,L2⟩ hC rest
  dsimp only at hC
  refine jf [0,1,2] ((b25,.cells ⟨[v1,v2]⟩ 90 (0,0))::(L1++L2)) (fun yW cR fe=>?_)
  have hhv:=bM (enc:=w6) (T:=90) [v1,v2] (fe _ (.head _)) (fun _ _=>rfl)
  have aCY:iF (fun w l=>cD yW w 2 ez l) [v1,v2] (sF l):= .cons (hC.1.n9 (Knows.left (Knows.tail fe))) (.cons (hC.2.n9 (Knows.right (Knows.tail fe))) .nil)
  have hvl: [v1,v2].length=2:=rfl
  obtain⟨qga,qgb,qgo,qgc,Rb,qgk,qgh,qgl⟩:=hhv
  simp only[Value.slice.injEq] at Rb
  obtain⟨rfl,_,rfl⟩:=Rb
  refine zD 1<|fX [1,0,1,0,0] [] (fun(zz:Nat×(List (ah×Value))×Cells×Cells)=>[(2,(.map (some rm))),(4,zP b4),(6,zI 0),(25,.slice (some ⟨b25,0,none⟩) 2 2),(26,zI 2),(27,zI (zz.1:Int))]) (fun(zz:Nat×(List (ah×Value))×Cells×Cells)=>[.l zz.2.2.1,.l zz.2.2.2,.b b4 (.cells ⟨[zI ck,zI (s:Int),zI c2,zI c3,zI c4,zI c5,zI c6]⟩ 92 (0,0)),.b b3 (.cells ⟨[.slice iZ ws.length gk]⟩ 24 (0,0))]) (fun(zz:Nat×(List (ah×Value))×Cells×Cells)=>zz.1≤2∧fH rm lv zz.2.1 zz.2.2.1∧zz.2.1.map (·.1)=aG S∧MV zz.2.2.2 zz.2.1 (gU (((sF l).take zz.1).flatMap (I4 (s:Int))))) (fun(zz:Nat×(List (ah×Value))×Cells×Cells)=>2-zz.1) (⟨0,F,LM,Z⟩) ⟨by dsimp only;omega,hm,hk,hM⟩ (zN 0 4) ?_
  rintro⟨k,F,LM,Z⟩ hI K2 oy rest
  dsimp only at hI
  refine zD 5<|zJ 28 ((k:Int) <2) (fun h4=>?_) fun h4=>?_
  ·
   refine zD 6 ?_
   obtain⟨x29,QN⟩:=zG ([v1,v2]) k
   refine jq 2 1 qgh QN ?_
   obtain⟨Up,atQ,h30⟩:=aCY.get QN
   obtain alY:Up.length≤4:=by have:=agk (zL atQ);omega
   obtain⟨ay5,aX3,aX1,aj3,rfl,aX2,ay4,ay3⟩:=h30
   refine jl 0 (qgl _ _ QN)<|zD 9<|fX [1,0,1,0,0,1,1,0,0,1,1,0,0] [K2] (fun(zz:Nat×(List (ah×Value))×Cells×Cells)=>[(2,(.map (some rm))),(4,zP b4),(6,zI 0),(8,.slice ay5 Up.length aj3),(25,.slice (some ⟨b25,0,none⟩) 2 2),(26,zI 2),(27,zI (k:Int)),(31,.slice ay5 Up.length aj3),(32,zI (Up.length:Int)),(33,zI (zz.1:Int))]) (fun(zz:Nat×(List (ah×Value))×Cells×Cells)=>[.l zz.2.2.1,.l zz.2.2.2,.b b4 (.cells ⟨[zI ck,zI (s:Int),zI c2,zI c3,zI c4,zI c5,zI c6]⟩ 92 (0,0)),.b b3 (.cells ⟨[.slice iZ ws.length gk]⟩ 24 (0,0))]) (fun(zz:Nat×(List (ah×Value))×Cells×Cells)=>zz.1≤Up.length∧fH rm lv zz.2.1 zz.2.2.1∧zz.2.1.map (·.1)=aG S∧MV zz.2.2.2 zz.2.1 (gU (((sF l).take k).flatMap (I4 (s:Int))++(I4 (s:Int) Up).take zz.1))) (fun(zz:Nat×(List (ah×Value))×Cells×Cells)=>Up.length-zz.1) (⟨0,F,LM,Z⟩) ⟨by dsimp only;omega,hI.2.1,hI.2.2.1,by simpa using hI.2.2.2⟩ (zN 0 4) ?_
   rintro⟨i,F,LM,Z⟩ hJ K3 hK3 rest
   dsimp only at hJ
   refine zD 5<|zJ 34 ((i:Int) <(Up.length:Int)) (fun h5=>?_) fun h5=>?_
   ·
    refine zD 7 ?_
    obtain⟨x36,QL⟩:=zG Up i
    refine jq aj3 2 ay4 QL<|jl 0 (ay3 _ _ QL)<|jn fun Ba=>jd 14 [0,3,0,3]<|zW ((Up.length:Int)-1)<|zD 1<|zW (((Up.length:Int)-1)-(i:Int)) ?_
    obtain⟨x51,ZQ⟩:=zG Up (((((Up.length:Int)-1)-(i:Int))).toNat)
    refine jsi (((Up.length:Int)-1)-(i:Int)) aj3 2 ay4 ZQ (by omega)<|jl 0 (ay3 _ _ ZQ)<|zD 1<|dV 16 fun Cq Cy AM=>jn fun b54=>iv AM (zN 1 5)<|dV 17 fun Yx YJ hL5=>Ut (kv:=lv) (F:=F) (r:=rm) (K:=41) 2 (mU (s:Int) x36) (.slice (some ⟨b54,0,none⟩) 1 1) wA hJ.2.1 fun Lm8 hm8=>IJ hL5<|zD 2<|zW ((i:Int)+1)<|zD 2 ?_
    have ZS:=MV.upd (T:=41) (b:=b54) (y:=mU s x51) hO hJ.2.2.2 hJ.2.2.1 hl (agj (zL atQ) (zL QL))
    exact zV hK3 (⟨i+1,_,Lm8,Z++[(b54,.cells ⟨[zI (s:Int),zI x51.n,zI x51.l]⟩ 41 (0,0))]⟩) ⟨by dsimp only;omega,hm8,ZS.2,by rw[eK (ajK QL ZQ),←List.append_assoc];exact ZS.1⟩ [[0],[3,1],[4],[5]]
   refine zD 3<|zW ((k:Int)+1)<|zD 2<|zF oy (⟨k+1,F,LM,Z⟩) ⟨hJ.2.1,hJ.2.2.1,by have:=hJ.2.2.2;rw[List.take_of_length_le (l:=I4 (s:Int) Up) (by rw[acL];omega)] at this;rw[amv atQ];exact this⟩ [0,1,2,3]
  refine zD 7<|aS q0.a (zI 0) [] [0,1] (LM++Z) cR ⟨_,_,rfl,rfl,F,LM,Z,rfl,rfl,hI.2.1,hI.2.2.1,by have:=hI.2.2.2;rwa[show k=2 by omega] at this⟩
 refine jd 5 [1,0] ?_
 obtain⟨Be,as4⟩:=zG ws s
 refine jq gk 1 xo as4 ?_
 obtain⟨l16,aCP,h16⟩:=fP.get as4
 obtain baf:=hO.len _ (zL aCP)
 obtain af9:l16=l:=Option.some.inj (aCP.symm.trans hl)
 obtain⟨azh,aLw,aLs,azg,rfl,aLu,aLv,aLt⟩:=h16
 refine jl 0 (xm _ _ as4)<|jd 4 [1,0] ?_
 obtain⟨YA,rZ⟩:=zG ws s
 refine jq gk 1 xo rZ ?_
 obtain⟨l23,aCO,h23⟩:=fP.get rZ
 obtain bac:=hO.len _ (zL aCO)
 obtain af7:l23=l:=Option.some.inj (aCO.symm.trans hl)
 obtain⟨azb,aLp,aLl,aza,rfl,aLn,aLo,aLm⟩:=h23
 refine jl 0 (xm _ _ rZ)<|zD 1<|dV 6 fun aIE aJK hL6=>jc (vs:=[.slice azh l16.length azg,.func (.func 285) ⟨[]⟩ ⟨[]⟩]) [] (agG (show cD _ _ _ _ _ from ⟨azh,aLw,aLs,azg,rfl,aLu,aLv,aLt⟩) (by omega)) ?_
 rintro v17 L17 afH
 obtain⟨E3,E1,al3⟩:=afH.form
 subst al3
 refine iv hL6 (zN 1 4)<|dV 13 fun aID aJJ hL7=>jc (vs:=[.slice azb l23.length aza,.func (.func 286) ⟨[]⟩ ⟨[]⟩]) [] (agF (show cD _ _ _ _ _ from ⟨azb,aLp,aLl,aza,rfl,aLn,aLo,aLm⟩) (by omega)) ?_
 rintro v24 L24 aCq
 obtain⟨S0,SX,aOW⟩:=aCq.form
 subst aOW
 refine iv hL7 (zN 1 5)<|dV 14 fun ai1 ajn hL8=>jn fun b25=>iv hL8 (zN 1 6)<|zD 2<|eW cz ⟨b25,(.slice E3 (l16.filter fun x=>yX x.n).length E1),(.slice S0 (l23.filter fun x=>Fq x.n).length SX),L17,L24⟩ ⟨by rw[←af9];exact afH,by rw[←af7];exact aCq⟩ Nat.zero_lt_one [0,2,1,5,6,3,4] (Sub.refl _)
theorem Wj{s:Int}{l:List az}{x:az}(h:l[i]?=some x):(J1 s l)[i]?=some (mU s x,⟨s,if yX x.n=true then x.n+1 else x.n-1,x.l⟩):=aep h
theorem agC{S:List (List az)}{l:List az}{ck c2 c3 c4:Int}{F:List (ah×Value)}(hS:bU ro v S)(hO:eG S)(hl:S[s]?=some l) (hm:fH rm lv F LM) (hk:F.map (·.1)=aG S) (hM:MV Z F id):dX zT 245 [.agg ⟨[v]⟩,.agg ⟨[zI ck,zI (s:Int),zI c2,zI c3,zI c4,zI c5,zI c6]⟩,(.map (some rm))] ro (LM++Z) (fun r Y=>∃F' L' Z',r= zI 0∧Y=L'++Z'∧fH rm lv F' L'∧F'.map (·.1)=aG S∧MV Z' F' (gU (J1 (s:Int) l))):=by
 obtain⟨ws,ht,fP⟩:=hS
 obtain⟨iZ,I9,I7,gk,rfl,I8,xo,xm⟩:=ht
 have hln:=fP.len
 have Df:=hO.two
 have IK:=(List.getElem?_eq_some_iff.1 hl).1
 have hlm:=zL hl
 have A5:=hO.len _ hlm
 refine zC [.l LM,.l Z]<|zD 2<|jn fun b3=>jn fun b4=>jd 9 [1,0] ?_
 obtain⟨yj,gD⟩:=zG ws s
 refine jq gk 1 xo gD ?_
 obtain⟨Db,No,Va⟩:=fP.get gD
 obtain aCA:=hO.len _ (zL No)
 obtain U0:Db=l:=Option.some.inj (No.symm.trans hl)
 obtain aNr:=hO.ok _ (zL No)
 obtain⟨adm,azk,azi,PK,rfl,azj,adl,adk⟩:=Va
 refine jl 0 (xm _ _ gD)<|zD 4<|fX [1,0,1,0,0] [] (fun(zz:Nat×(List (ah×Value))×Cells×Cells)=>[(2,(.map (some rm))),(4,zP b4),(6,zI 0),(15,.slice adm Db.length PK),(16,zI (Db.length:Int)),(17,zI (zz.1:Int))]) (fun(zz:Nat×(List (ah×Value))×Cells×Cells)=>[.l zz.2.2.1,.l zz.2.2.2,.b b4 (.cells ⟨[zI ck,zI (s:Int),zI c2,zI c3,zI c4,zI c5,zI c6]⟩ 92 (0,0)),.b b3 (.cells ⟨[.slice iZ ws.length gk]⟩ 24 (0,0))]) (fun(zz:Nat×(List (ah×Value))×Cells×Cells)=>zz.1≤Db.length∧fH rm lv zz.2.1 zz.2.2.1∧zz.2.1.map (·.1)=aG S∧MV zz.2.2.2 zz.2.1 (gU ((J1 (s:Int) l).take zz.1))) (fun(zz:Nat×(List (ah×Value))×Cells×Cells)=>Db.length-zz.1) (⟨0,F,LM,Z⟩) ⟨by dsimp only;omega,hm,hk,hM⟩ [2,3,0,1] ?_
 rintro⟨i,F,LM,Z⟩ hI K1 cz rest
 dsimp only at hI
 refine zD 5<|zJ 18 ((i:Int) <(Db.length:Int)) (fun h1=>?_) fun h1=>?_
 ·
  refine zD 6 ?_
  obtain⟨rV,qw⟩:=zG Db i
  refine jq PK 2 adl qw<|jl 0 (adk _ _ qw)<|jn fun b8=>jd 3 [0] ?_
  have Jp:=aNr _ (zL qw)
  have aNS:=Jp.1.1
  have aNR:=Jp.1.2
  refine jd 3 [0]<|zW (rV.n-1)<|jd 6 [0]<|jp (vs:=[.agg ⟨[zI rV.n,zI rV.l]⟩]) [] [] (fun aV hs hZ=>(aD3 (x:=rV)))<|zD 1<|js 25 (yX rV.n) (fun h2=>?_) (fun h2=>?_)
  ·
   refine jd 4 [0]<|zW (rV.n+1)<|jd 13 [3,0,3,0]<|jp (vs:=[zI (s:Int),zI (rV.n+1),zI rV.l]) [] [] (fun aV hs hZ=>gAt)<|dV 11 fun LW Mn Nv=>jn fun b40=>iv Nv (zN 1 5)<|dV 12 fun Bc Bm AN=>Ut (kv:=lv) (F:=F) (r:=rm) (K:=41) 2 (mU (s:Int) rV) (.slice (some ⟨b40,0,none⟩) 1 1) wA hI.2.1 fun Lm5 hm5=>IJ AN<|zD 2<|zW ((i:Int)+1)<|zD 2 ?_
   have ZS:=MV.upd (T:=41) (b:=b40) (y:=⟨s,rV.n+1,rV.l⟩) hO hI.2.2.2 hI.2.2.1 hl (by rw[←U0];exact zL qw)
   exact zV cz (⟨i+1,_,Lm5,Z++[(b40,.cells ⟨[zI (s:Int),zI (rV.n+1),zI rV.l]⟩ 41 (0,0))]⟩) ⟨by dsimp only;omega,hm5,ZS.2,by rw[eK (Wj (by rw[←U0];exact qw))];rw[if_pos (by assumption)];exact ZS.1⟩ [[0],[3,1],[4],[5]]
  refine jd 13 [3,0,3,0]<|jp (vs:=[zI (s:Int),zI (rV.n-1),zI rV.l]) [] [] (fun aV hs hZ=>gAt)<|dV 11 fun Cq Cy AM=>jn fun b40=>iv AM (zN 1 5)<|dV 12 fun Yx YJ hL5=>Ut (kv:=lv) (F:=F) (r:=rm) (K:=41) 2 (mU (s:Int) rV) (.slice (some ⟨b40,0,none⟩) 1 1) wA hI.2.1 fun Lm8 hm8=>IJ hL5<|zD 2<|zW ((i:Int)+1)<|zD 2 ?_
  have ZS:=MV.upd (T:=41) (b:=b40) (y:=⟨s,rV.n-1,rV.l⟩) hO hI.2.2.2 hI.2.2.1 hl (by rw[←U0];exact zL qw)
  exact zV cz (⟨i+1,_,Lm8,Z++[(b40,.cells ⟨[zI (s:Int),zI (rV.n-1),zI rV.l]⟩ 41 (0,0))]⟩) ⟨by dsimp only;omega,hm8,ZS.2,by rw[eK (Wj (by rw[←U0];exact qw))];rw[if_neg (by rw[show yX rV.n=false from (by assumption)];decide)];exact ZS.1⟩ [[0],[3,1],[4],[5]]
 refine zD 7<|zR (zI 0) [] [0,1] (LM++Z) ⟨F,LM,Z,rfl,rfl,hI.2.1,hI.2.2.1,by have:=hI.2.2.2;rwa[List.take_of_length_le (by simp only[J1,List.length_map];rw[←U0];omega)] at this⟩
def avh(S:List (List az))(c:cE):List (ah×ah):=
 if c.k=1 then abZ c.st (S[c.st.toNat]?.getD []) else if c.k=2 then J1 c.st (S[c.st.toNat]?.getD []) else KH c.st c.ot (S[c.st.toNat]?.getD []) (tv (S[c.ot.toNat]?.getD []))
def pL(S:List (List az))(c:cE)(x:ah):ah:=gU (avh S c) x
theorem C0{l:List α}(h:l.length=1):∃a,l=[a]:=by
 match l,h with
 | [a],_=>exact⟨a,rfl⟩
theorem apg:eR zT 212 [] ro (.agg ⟨[.nilFunc,.func (.func 244) ⟨[]⟩ ⟨[]⟩,.func (.func 245) ⟨[]⟩ ⟨[]⟩,.func (.func 246) ⟨[]⟩ ⟨[]⟩,.func (.func 247) ⟨[]⟩ ⟨[]⟩,.func (.func 248) ⟨[]⟩ ⟨[]⟩,.func (.func 249) ⟨[]⟩ ⟨[]⟩,.func (.func 250) ⟨[]⟩ ⟨[]⟩]⟩):=by
 refine zE<|zD 2<|jn fun b0=>jd 7 [0]<|zR (.agg ⟨[.nilFunc,.func (.func 244) ⟨[]⟩ ⟨[]⟩,.func (.func 245) ⟨[]⟩ ⟨[]⟩,.func (.func 246) ⟨[]⟩ ⟨[]⟩,.func (.func 247) ⟨[]⟩ ⟨[]⟩,.func (.func 248) ⟨[]⟩ ⟨[]⟩,.func (.func 249) ⟨[]⟩ ⟨[]⟩,.func (.func 250) ⟨[]⟩ ⟨[]⟩]⟩) [0] [] [] ⟨rfl,rfl⟩
theorem aEb{S:List (List az)}(hS:bU ro v S)(hO:eG S):dX zT 156 [.agg ⟨[v]⟩,.agg ⟨[zI 1,zI 0,zI 0,zI 0,zI 0,zI 0,zI 0]⟩] ro [] (fun r Y=>∃rm F LM Z,r= .tuple ⟨[.map (some rm),zI 0]⟩∧Y=LM++Z∧fH rm lv F LM∧F.map (·.1)=aG S∧MV Z F (pL S ⟨1,0,0,0,0,0,0⟩)):=by
 obtain⟨p,rfl⟩:=C0 hO.two
 have yG:=hS
 obtain⟨ws,ht,fP⟩:=hS
 obtain⟨w1,rfl⟩:=C0 (fP.len.trans hO.two)
 obtain⟨iZ,I9,I7,gk,rfl,I8,xo,xm⟩:=ht
 refine zE<|zD 2<|jn fun b2=>jn fun b3=>jd 8 [0]<|jp (vs:=[zI 1,zI 1,zI 7]) [] [] (fun aV hs hZ=>Vh)<|jd 18 [1,0]<|jp (vs:=[zI 0,zI 0,zI 0]) [] [] (fun aV hs hZ=>Vh)<|jd 70 [0,0,0,0,0,0]<|jne Zs (Lj 0 0 0 0)<|zD 3<|js 73 (!(0==0&&(0==0&&true))) (fun h1=>?_) (fun h1=>?_)
 ·
  have qh:=h1
  try simp only[zB] at qh
  exact absurd qh (by decide)
 have qh:=h1
 try simp only[zB] at qh
 refine jd 6 [0]<|jne Zs (Lj 0 0 0 0)<|zD 3<|js 82 (!(0==0&&(0==0&&true))) (fun h2=>?_) (fun h2=>?_)
 ·
  exact absurd h2 (by decide)
 refine jd 5 [1]<|jc (vs:=[.agg ⟨[.slice iZ 1 gk]⟩]) [] (agD (yG) hO) ?_
 rintro _ _ ⟨rm,F,LM,Z,rfl,rfl,hmM,hkM,hMM⟩
 refine jg 0 [.l LM,.l Z]<|jd 10 [2,3,2]<|jp [] [] (fun aV hs hZ=>apg)<|zD 1<|dV 7 fun tc tj sI=>jc (vs:=[.agg ⟨[.slice iZ 1 gk]⟩,.agg ⟨[zI 1,zI 0,zI 0,zI 0,zI 0,zI 0,zI 0]⟩,(.map (some rm))]) [0,1] (amq (s:=0) yG hO rfl hmM hkM hMM) ?_
 rintro _ _ ⟨F2,LM2,Z2,rfl,rfl,IP,fe,hM2⟩
 refine jg 0 [.l LM2,.l Z2]<|wC sI [[2]]<|zD 16<|zR (.tuple ⟨[(.map (some rm)),zI 0]⟩) [] [0,1] (LM2++Z2) ⟨rm,F2,LM2,Z2,rfl,rfl,IP,fe,hM2⟩
theorem aEa{S:List (List az)}(hS:bU ro v S)(hO:eG S):dX zT 156 [.agg ⟨[v]⟩,.agg ⟨[zI 2,zI 0,zI 0,zI 0,zI 0,zI 0,zI 0]⟩] ro [] (fun r Y=>∃rm F LM Z,r= .tuple ⟨[.map (some rm),zI 0]⟩∧Y=LM++Z∧fH rm lv F LM∧F.map (·.1)=aG S∧MV Z F (pL S ⟨2,0,0,0,0,0,0⟩)):=by
 obtain⟨p,rfl⟩:=C0 hO.two
 have yG:=hS
 obtain⟨ws,ht,fP⟩:=hS
 obtain⟨w1,rfl⟩:=C0 (fP.len.trans hO.two)
 obtain⟨iZ,I9,I7,gk,rfl,I8,xo,xm⟩:=ht
 refine zE<|zD 2<|jn fun b2=>jn fun b3=>jd 8 [0]<|jp (vs:=[zI 2,zI 1,zI 7]) [] [] (fun aV hs hZ=>Vh)<|jd 18 [1,0]<|jp (vs:=[zI 0,zI 0,zI 0]) [] [] (fun aV hs hZ=>Vh)<|jd 70 [0,0,0,0,0,0]<|jne Zs (Lj 0 0 0 0)<|zD 3<|js 73 (!(0==0&&(0==0&&true))) (fun h1=>?_) (fun h1=>?_)
 ·
  have qh:=h1
  try simp only[zB] at qh
  exact absurd qh (by decide)
 have qh:=h1
 try simp only[zB] at qh
 refine jd 6 [0]<|jne Zs (Lj 0 0 0 0)<|zD 3<|js 82 (!(0==0&&(0==0&&true))) (fun h2=>?_) (fun h2=>?_)
 ·
  exact absurd h2 (by decide)
 refine jd 5 [1]<|jc (vs:=[.agg ⟨[.slice iZ 1 gk]⟩]) [] (agD (yG) hO) ?_
 rintro _ _ ⟨rm,F,LM,Z,rfl,rfl,hmM,hkM,hMM⟩
 refine jg 0 [.l LM,.l Z]<|jd 10 [2,3,2]<|jp [] [] (fun aV hs hZ=>apg)<|zD 1<|dV 7 fun tc tj sI=>jc (vs:=[.agg ⟨[.slice iZ 1 gk]⟩,.agg ⟨[zI 2,zI 0,zI 0,zI 0,zI 0,zI 0,zI 0]⟩,(.map (some rm))]) [0,1] (agC (s:=0) yG hO rfl hmM hkM hMM) ?_
 rintro _ _ ⟨F2,LM2,Z2,rfl,rfl,IP,fe,hM2⟩
 refine jg 0 [.l LM2,.l Z2]<|wC sI [[2]]<|zD 16<|zR (.tuple ⟨[(.map (some rm)),zI 0]⟩) [] [0,1] (LM2++Z2) ⟨rm,F2,LM2,Z2,rfl,rfl,IP,fe,hM2⟩
def ZA(n:Nat):Int:=if n=0 then 0 else if n <2 then 1 else if n <4 then 2 else if n <8 then 3 else 4
theorem au5:∀ {n:Nat},n≤12→eR zT 181 [zU (n:Int)] ro (zI (ZA n))
 |0,_=>by refine cd aE [] [] bJ (zD 35 (ja 0 (by decide) (zD 3 ?_)));exact aS q0 (zI 0) [] [] [] (Sub.refl _) ⟨_,_,rfl,rfl,rfl,rfl⟩
 |1,_=>by refine cd aE [] [] bJ (zD 35 (ja 1 (by decide) (zD 3 ?_)));exact aS q0 (zI 1) [] [] [] (Sub.refl _) ⟨_,_,rfl,rfl,rfl,rfl⟩
 |2,_=>by refine cd aE [] [] bJ (zD 35 (ja 2 (by decide) (zD 3 ?_)));exact aS q0 (zI 2) [] [] [] (Sub.refl _) ⟨_,_,rfl,rfl,rfl,rfl⟩
 |3,_=>by refine cd aE [] [] bJ (zD 35 (ja 2 (by decide) (zD 3 ?_)));exact aS q0 (zI 2) [] [] [] (Sub.refl _) ⟨_,_,rfl,rfl,rfl,rfl⟩
 |4,_=>by refine cd aE [] [] bJ (zD 35 (ja 3 (by decide) (zD 3 ?_)));exact aS q0 (zI 3) [] [] [] (Sub.refl _) ⟨_,_,rfl,rfl,rfl,rfl⟩
 |5,_=>by refine cd aE [] [] bJ (zD 35 (ja 3 (by decide) (zD 3 ?_)));exact aS q0 (zI 3) [] [] [] (Sub.refl _) ⟨_,_,rfl,rfl,rfl,rfl⟩
 |6,_=>by refine cd aE [] [] bJ (zD 35 (ja 3 (by decide) (zD 3 ?_)));exact aS q0 (zI 3) [] [] [] (Sub.refl _) ⟨_,_,rfl,rfl,rfl,rfl⟩
 |7,_=>by refine cd aE [] [] bJ (zD 35 (ja 3 (by decide) (zD 3 ?_)));exact aS q0 (zI 3) [] [] [] (Sub.refl _) ⟨_,_,rfl,rfl,rfl,rfl⟩
 |8,_=>by refine cd aE [] [] bJ (zD 35 (ja 4 (by decide) (zD 3 ?_)));exact aS q0 (zI 4) [] [] [] (Sub.refl _) ⟨_,_,rfl,rfl,rfl,rfl⟩
 |9,_=>by refine cd aE [] [] bJ (zD 35 (ja 4 (by decide) (zD 3 ?_)));exact aS q0 (zI 4) [] [] [] (Sub.refl _) ⟨_,_,rfl,rfl,rfl,rfl⟩
 |10,_=>by refine cd aE [] [] bJ (zD 35 (ja 4 (by decide) (zD 3 ?_)));exact aS q0 (zI 4) [] [] [] (Sub.refl _) ⟨_,_,rfl,rfl,rfl,rfl⟩
 |11,_=>by refine cd aE [] [] bJ (zD 35 (ja 4 (by decide) (zD 3 ?_)));exact aS q0 (zI 4) [] [] [] (Sub.refl _) ⟨_,_,rfl,rfl,rfl,rfl⟩
 |12,_=>by refine cd aE [] [] bJ (zD 35 (ja 4 (by decide) (zD 3 ?_)));exact aS q0 (zI 4) [] [] [] (Sub.refl _) ⟨_,_,rfl,rfl,rfl,rfl⟩
 |n+13,h=>absurd h (by omega)
theorem abC(h:n≤1000):Value.int .u64 (IntKind.u64.wrap (n:Int))= zU (n:Int):=by
 rw[tY .u64 rfl _ (by omega) (by simp[IntKind.bits];omega)]
def Of(v:Value)(xs:List az)(Y:Cells):Prop:=∃ys,ys.Perm xs∧aK v 2 39 ez ys Y
theorem au6(h:n≤12):eR zT 129 [zU (n:Int)] ro (zI (ZA n)):=by
 refine zE<|zD 10<|jp (vs:=[zU (n:Int)]) [] [] (fun aV hs hZ=>(au5 h))<|zD 3<|zX (zI (ZA n)) ⟨rfl,rfl⟩
theorem aRE{xs:List az}{L:Cells}{a b:Int}(ho:aK v 2 39 ez xs L)(hN:xs.length≤1000)(KX:0≤a∧a≤b∧b≤xs.length):dX zT 290 [v,zI a,zI b,.func (.func 211) ⟨[]⟩ ⟨[]⟩] ro L (fun r Y=>Of v xs Y):=by
 refine zC [.l L]<|zD 3<|zW (a+1)<|zD 3<|fX [1,0,0] [] (fun(zz:Int×(List az)×Cells)=>[(0,v),(1,zI a),(2,zI b),(3,.func (.func 211) ⟨[]⟩ ⟨[]⟩),(8,zI zz.1)]) (fun zz=>[.l zz.2.2]) (fun zz=>(a+1≤zz.1)∧aK v 2 39 ez zz.2.1 zz.2.2∧zz.2.1.Perm xs) (fun zz=>(b-zz.1).toNat) (⟨(a+1),xs,L⟩) ⟨by dsimp only;omega,ho,.refl _⟩ [0] ?_
 rintro⟨i,ys,L⟩ hI K1 cz rest
 dsimp only at hI
 have hyl:=hI.2.2.length_eq
 refine zD 7<|zJ 14 (i <b) (fun h1=>?_) fun h1=>?_
 ·
  refine zD 10<|fX [1,0,0,1,0,0,1,0,0] [K1] (fun(zz:Int×(List az)×Cells)=>[(0,v),(1,zI a),(2,zI b),(3,.func (.func 211) ⟨[]⟩ ⟨[]⟩),(8,zI i),(9,zI zz.1)]) (fun zz=>[.l zz.2.2]) (fun zz=>(a≤zz.1∧zz.1≤i)∧aK v 2 39 ez zz.2.1 zz.2.2∧zz.2.1.Perm xs) (fun zz=>(zz.1-a).toNat) (⟨i,ys,L⟩) ⟨by dsimp only;omega,hI.2⟩ [0] ?_
  rintro⟨j,ys,L⟩ hJ K2 oy rest
  dsimp only at hJ
  have hyl:=hJ.2.2.length_eq
  refine zD 7<|js 3 (decide (j>a)) (fun h2=>?_) (fun h2=>?_)
  ·
   have w5:=h2
   replace w5:=of_decide_eq_true w5
   refine zD 3 ?_
   obtain⟨x25,Jj⟩:=zG ys (j.toNat) (by first|omega| (simp only[List.length_set];omega))
   refine zH j 2 hJ.2.1 Jj fun b25 aPW=>uD 0 [0] L (fun s _ hZ=>p9 hJ.2.1 aPW hZ Jj)<|zD 2<|zW (j-1) ?_
   obtain⟨D5,tF⟩:=zG ys ((j-1).toNat) (by first|omega| (simp only[List.length_set];omega))
   refine zH (j-1) 2 hJ.2.1 tF fun b30 auz=>uD 0 [0] L (fun s _ hZ=>p9 hJ.2.1 auz hZ tF)<|dV 14 fun Bc Bm AN=>jp (vs:=[.agg ⟨[zI x25.n,zI x25.l]⟩,.agg ⟨[zI D5.n,zI D5.l]⟩]) [] [] (fun aV hs hZ=>(aph (x:=x25) (y:=D5)))<|iv AN [0]<|zD 3<|zJ 34 ((aaE x25 D5) <0) (fun h4=>?_) fun h4=>?_
   ·
    refine zD 9<|zW (j-1)<|zD 2<|zW (j-1) ?_
    obtain⟨I2,xG⟩:=zG ys ((j-1).toNat) (by first|omega| (simp only[List.length_set];omega))
    refine zH (j-1) 2 hJ.2.1 xG fun b45 auy=>uD 0 [0] L (fun s _ hZ=>p9 hJ.2.1 auy hZ xG)<|zD 2 ?_
    obtain⟨x49,asZ⟩:=zG ys (j.toNat) (by first|omega| (simp only[List.length_set];omega))
    refine zH j 2 hJ.2.1 asZ fun b49 aPO=>uD 0 [0] L (fun s _ hZ=>p9 hJ.2.1 aPO hZ asZ) ?_
    obtain⟨x51,ZQ⟩:=zG ys (j.toNat) (by first|omega| (simp only[List.length_set];omega))
    refine zH j 2 hJ.2.1 ZQ fun b51 aPN=>dV 15 fun Cq Cy AM=>jso 0 0 [zI I2.n,zI I2.l] (⟨I2.n,I2.l⟩:az) hJ.2.1 aPN ZQ rfl rfl (Nat.le_of_ble_eq_true rfl) fun L6 ho7=>wC AM [] ?_
    obtain⟨x52,aBA⟩:=zG ((ys.set j.toNat (⟨I2.n,I2.l⟩:az))) ((j-1).toNat) (by first|omega| (simp only[List.length_set];omega))
    refine zH (j-1) 2 ho7 aBA fun b52 aPM=>dV 17 fun Yx YJ hL5=>jso 0 0 [zI x49.n,zI x49.l] (⟨x49.n,x49.l⟩:az) ho7 aPM aBA rfl rfl (Nat.le_of_ble_eq_true rfl) fun L9 Z0=>IJ hL5<|zD 3<|zW (j-1)<|zD 2<|zF oy (⟨(j-1),((ys.set j.toNat (⟨I2.n,I2.l⟩:az)).set ((j-1).toNat) (⟨x49.n,x49.l⟩:az)),L9⟩) ⟨Z0,(CX asZ xG).trans hJ.2.2⟩ [0]
   refine zD 4<|zW (i+1)<|zD 2<|zF cz (⟨(i+1),ys,L⟩) hJ.2 [0]
  have w5:=h2
  replace w5:=of_decide_eq_false w5
  refine zD 18<|zW (i+1)<|zD 2<|zF cz (⟨(i+1),ys,L⟩) hJ.2 [0]
 refine zD 2<|zR (.tuple ⟨[]⟩) [] [0] L ⟨ys,hI.2.2,hI.2.1⟩
theorem aRC{xs:List az}{L:Cells}(ho:aK v 2 39 ez xs L)(hN:xs.length≤12):dX zT 251 [v,zI 0,zI (xs.length:Int),zI lim,.func (.func 211) ⟨[]⟩ ⟨[]⟩] ro L (fun r Y=>Of v xs Y):=by
 refine zC [.l L]<|zD 9<|fX [1,1,0,0] [] (fun(zz:Nat)=>[(0,v),(1,zI 0),(2,zI (xs.length:Int)),(3,zI lim),(4,.func (.func 211) ⟨[]⟩ ⟨[]⟩),(10,.bool true),(11,.bool true)]) (fun zz=>[.l L]) (fun zz=>True) (fun zz=>zz) 0 trivial [0] ?_
 rintro z hI K1 cz rest
 refine zD 5<|zW ((xs.length:Int)-0)<|zD 8<|zJ 25 (((xs.length:Int)-0)≤12) (fun h1=>?_) fun h1=>?_
 ·
  refine zD 7<|jc (vs:=[v,zI 0,zI (xs.length:Int),.func (.func 211) ⟨[]⟩ ⟨[]⟩]) [0] (aRE ho (by omega) (by omega)) ?_
  rintro aJ8 Y30 ⟨aWK,aNX,Q0⟩
  refine zD 2<|zR (.tuple ⟨[]⟩) [] [0] Y30 ⟨_,aNX,Q0⟩
 exfalso;omega
theorem au2{xs:List az}{L:Cells}(ho:aK v 2 39 ez xs L)(hN:xs.length≤12):dX zT 213 [v,.func (.func 211) ⟨[]⟩ ⟨[]⟩] ro L (fun r Y=>Of v xs Y):=by
 refine zC [.l L]<|zD 3<|jol ho<|zD 6<|je (zU (xs.length:Int)) (abC (by omega))<|jp (vs:=[zU (xs.length:Int)]) [] [] (fun aV hs hZ=>(au6 (by omega)))<|zD 1<|jc (vs:=[v,zI 0,zI (xs.length:Int),zI (ZA xs.length),.func (.func 211) ⟨[]⟩ ⟨[]⟩]) [0] (aRC ho (by omega)) ?_
 rintro aJ9 Y13 ⟨aWN,aN1,ZZ⟩
 refine zD 1<|zR (.tuple ⟨[]⟩) [] [0] Y13 ⟨_,aN1,ZZ⟩
theorem aD6{xs:List ah}{L:Cells}(ho:aK v 3 41 bW xs L)(hN:xs.length≤1):dX zT 252 [v,zI 0,zI (xs.length:Int),.func (.func 164) ⟨[]⟩ ⟨[]⟩] ro L (fun r Y=>aK v 3 41 bW xs Y):=by
 refine zC [.l L]<|zD 7<|fX [1,0,0] [] (fun(zz:Nat)=>[(0,v),(1,zI 0),(2,zI (xs.length:Int)),(3,.func (.func 164) ⟨[]⟩ ⟨[]⟩),(8,zI (0+1))]) (fun zz=>[.l L]) (fun zz=>True) (fun zz=>zz) 0 trivial [0] ?_
 rintro z hI K1 cz rest
 refine zD 7<|zJ 14 ((0+1) <(xs.length:Int)) (fun h1=>?_) fun h1=>?_
 ·
  exfalso;omega
 refine zD 2<|zR (.tuple ⟨[]⟩) [] [0] L ho
theorem aD2{xs:List ah}{L:Cells}(ho:aK v 3 41 bW xs L)(hN:xs.length≤1):dX zT 214 [v,zI 0,zI (xs.length:Int),zI lim,.func (.func 164) ⟨[]⟩ ⟨[]⟩] ro L (fun r Y=>aK v 3 41 bW xs Y):=by
 refine zC [.l L]<|zD 9<|fX [1,1,0,0] [] (fun(zz:Nat)=>[(0,v),(1,zI 0),(2,zI (xs.length:Int)),(3,zI lim),(4,.func (.func 164) ⟨[]⟩ ⟨[]⟩),(10,.bool true),(11,.bool true)]) (fun zz=>[.l L]) (fun zz=>True) (fun zz=>zz) 0 trivial [0] ?_
 rintro z hI K1 cz rest
 refine zD 5<|zW ((xs.length:Int)-0)<|zD 8<|zJ 25 (((xs.length:Int)-0)≤12) (fun h1=>?_) fun h1=>?_
 ·
  refine zD 7<|jc (vs:=[v,zI 0,zI (xs.length:Int),.func (.func 164) ⟨[]⟩ ⟨[]⟩]) [0] (aD6 ho (by omega)) ?_
  rintro aJ8 Y30 Q0
  refine zD 2<|zR (.tuple ⟨[]⟩) [] [0] Y30 Q0
 exfalso;omega
theorem au3{xs:List ah}{L:Cells}(ho:aK v 3 41 bW xs L)(hN:xs.length≤1):dX zT 163 [v,.func (.func 164) ⟨[]⟩ ⟨[]⟩] ro L (fun r Y=>aK v 3 41 bW xs Y):=by
 refine zC [.l L]<|zD 3<|jol ho<|zD 6<|je (zU (xs.length:Int)) (abC (by omega))<|jp (vs:=[zU (xs.length:Int)]) [] [] (fun aV hs hZ=>(au6 (by omega)))<|zD 1<|jc (vs:=[v,zI 0,zI (xs.length:Int),zI (ZA xs.length),.func (.func 164) ⟨[]⟩ ⟨[]⟩]) [0] (aD2 ho (by omega)) ?_
 rintro aJ9 Y13 ZZ
 refine zD 1<|zR (.tuple ⟨[]⟩) [] [0] Y13 ZZ
theorem agH{xs:List ah}{L:Cells}(ho:aK v 3 41 bW xs L)(hN:xs.length≤1):dX zT 165 [v] ro L (fun r Y=>v=r∧L=Y):=by
 refine zC [.l L]<|zD 8<|jol ho<|zD 2<|zJ 8 ((xs.length:Int) <2) (fun h1=>?_) fun h1=>?_
 ·
  refine zD 7<|zR (v) [] [0] L ⟨rfl,rfl⟩
 exfalso;omega
theorem NC{xs:List ah}(hl:cD ro v 3 bW xs)(hN:xs.length≤1):dX zT 121 [v] ro [] (fun r Y=>aK r 3 41 bW xs Y):=by
 obtain⟨cV,nn,nk,cU,rfl,pG,jR,lh⟩:=hl
 refine zE<|zD 7<|jc (vs:=[.slice cV xs.length cU]) [] (aRF (show cD _ _ _ _ _ from ⟨cV,nn,nk,cU,rfl,pG,jR,lh⟩) (by first|omega| (simp only[List.length_set,zM];omega))) ?_
 rintro v5 L5 ho5
 obtain⟨va5,vc5,ON⟩:=ho5.form
 subst ON
 refine zD 5<|jc (vs:=[(.slice va5 (xs).length vc5),.func (.func 164) ⟨[]⟩ ⟨[]⟩]) [0] (au3 ho5 (by omega)) ?_
 rintro rv7 Y7 ho7
 refine zD 4<|jc (vs:=[(.slice va5 (xs).length vc5)]) [0] (agH ho7 (by omega)) ?_
 rintro _ _ ⟨rfl,rfl⟩
 refine zD 3<|zR ((.slice va5 (xs).length vc5)) [] [0] Y7 ho7
theorem MV.put{F:List (ah×Value)}{g:ah→ah}(h:MV Z F g){k:ah}(hv:∀aR,Knows aR Z2→cD aR v 3 bW [g k]):MV (Z++Z2) (eQ k v F) g:=by
 have h1:∀x∈eQ k v F,x=(k,v)∨x∈F:=fun x hx=>by
  unfold eQ at hx
  split at hx
  ·rw[FG] at hx
   obtain⟨i,hi⟩:=List.getElem?_of_mem hx
   rw[List.getElem?_set] at hi
   split at hi
   ·split at hi
    ·cases hi;exact .inl rfl
    cases hi
   exact .inr (zL hi)
  rcases List.mem_append.1 hx with h|h
  ·exact .inr h
  exact .inl (List.mem_singleton.1 h)
 intro aR hr x hx
 rcases h1 x hx with rfl|hx
 ·exact hv aR hr.right
 exact h aR hr.left x hx
theorem O5[DecidableEq κ]{k x:κ}{F:List (κ×Value)}(h:x=k∨x∈F.map (·.1)):x∈(eQ k v F).map (·.1):=by
 unfold eQ
 split
 ·rename_i i u hf
  have AG:=(nS hf).2
  rw[Nat.sub_zero] at AG
  have hs:((F.set i (k,v)).map (·.1))=F.map (·.1):=by
   rw[List.map_set]
   refine List.ext_getElem? fun j=>?_
   rw[List.getElem?_set]
   split
   ·rename_i hj;subst hj;simp[AG,(List.getElem?_eq_some_iff.1 AG).1,(List.getElem?_eq_some_iff.1 AG).2]
   rfl
  rw[FG,hs]
  rcases h with rfl|h
  ·exact List.mem_map_of_mem (f:=(·.1)) (zL AG)
  exact h
 rw[List.map_append]
 rcases h with rfl|h
 ·exact List.mem_append_right _ (by simp)
 exact List.mem_append_left _ h
def Seen(es:Array MapEntry)(seen:List Nat)(F:List (ah×Value)):Prop:=∀e∈es.toList,e∈cZ es seen∨∃k,e.key=lv k∧k∈F.map (·.1)
theorem Seen.start{es:Array MapEntry}{F:List (ah×Value)}:Seen es [] F:=fun e he=> .inl (by rw[uC];exact he)
theorem Seen.step{es:Array MapEntry}{F0 F:List (ah×Value)}(h:Seen es seen F)(hE:oW lv F0 es ck){e:MapEntry}(he:e∈cZ es seen){k:ah}(hk:e.key=lv k):Seen es (seen++[e.born]) (eQ k v F):=fun x hx=>by
 rcases h x hx with h1| ⟨q,h1,h2⟩
 ·rcases G5 hE he h1 with rfl|h2
  ·exact .inr ⟨k,hk,O5 (.inl rfl)⟩
  exact .inl h2
 exact .inr ⟨q,h1,O5 (.inr h2)⟩
theorem ak8{a b:ah}(h:lv a=lv b):a=b:=by
 rcases a with ⟨x,y,z⟩;rcases b with ⟨d,e,f⟩
 simp only[lv,bW,Value.agg.injEq,Array.mk.injEq,List.cons.injEq,Value.int.injEq] at h
 simp[h.1.2,h.2.1.2,h.2.2.1.2]
theorem Seen.fin{es:Array MapEntry}{F0 F:List (ah×Value)}(h:Seen es seen F)(hl:cZ es seen=[])(hE:oW lv F0 es ck){k:ah}(hk:k∈F0.map (·.1)):k∈F.map (·.1):=by
 obtain⟨⟨k',v⟩,h1,rfl⟩:=List.mem_map.1 hk
 have:(lv k',v)∈es.toList.map (fun e=>(e.key,e.val)):=by rw[hE.1];exact List.mem_map_of_mem (f:=fun x:ah×Value=>(lv x.1,x.2)) h1
 obtain⟨e,h2,h3⟩:=List.mem_map.1 this
 simp only[Prod.mk.injEq] at h3
 rcases h e h2 with h4| ⟨q,h4,h5⟩
 ·rw[hl] at h4;cases h4
 have:=ak8 (h3.1.symm.trans h4);subst this;exact h5
structure JM(ro:Nat→Option Obj)(r:Nat)(H:List ah)(g:ah→ah)(es:Array MapEntry)(ck:Nat)(F:List (ah×Value)):Prop where
 m:ro r=some (.map es ck)
 e:oW lv F es ck
 k:F.map (·.1)=H
 v:∀x∈F,cD ro x.2 3 bW [g x.1]
theorem TS{a x:α}{j:Nat}(h: [a][j]?=some x):x=a∧j=0:=by
 cases j with
 |zero=>simp at h;exact⟨h.symm,rfl⟩
 |succ j=>simp at h
theorem ape{FV:Array MapEntry}{F1:List (ah×Value)}{r2 ck2:Nat}{Ft:Array MapEntry}{F2:List (ah×Value)}{H:List ah}{g:ah→ah}(IW:JM ro r1 H id FV Vx F1)(SO:JM ro r2 H g Ft ck2 F2):dX zT 159 [(.map (some r1)),(.map (some r2))] ro [] (fun r Y=>∃rm F LM Z,r= .map (some rm)∧Y=LM++Z∧fH rm lv F LM∧(∀h∈H,h∈F.map (·.1))∧MV Z F g):=by
 refine zE<|zD 6<|jmk lv fun r11 L11 afP=>zD 6<|jmR IW.m fun r13=>jg 0 [.b r13 (qP r1 Vx [])]<|zD 2<|BD<|fX [1,1,0,1,0,0] [] (fun(zz:(List Nat)×(List (ah×Value))×Cells×Cells)=>[(1,(.map (some r2))),(4,(.map none)),(5,(.map (some r11))),(13,zP r13)]) (fun(zz:(List Nat)×(List (ah×Value))×Cells×Cells)=>[.b r13 (qP r1 Vx zz.1),.l zz.2.2.1,.l zz.2.2.2]) (fun(zz:(List Nat)×(List (ah×Value))×Cells×Cells)=>fH r11 lv zz.2.1 zz.2.2.1∧Seen FV zz.1 zz.2.1∧MV zz.2.2.2 zz.2.1 g) (fun(zz:(List Nat)×(List (ah×Value))×Cells×Cells)=>(cZ FV zz.1).length) (⟨[],[],L11,[]⟩) ⟨afP,Seen.start,fun _ _ _ h=>(by cases h)⟩ [1,2,0] ?_
 rintro⟨seen,F,LM,Z⟩ hI K1 cz rest
 dsimp only at hI
 refine zD 2<|jmN (it:=r13) (kv:=lv) (seen:=seen) 0 IW.m IW.e (fun OD v14 e14 aC7 BK Q9 aNs=>?_) (fun aM8=>?_)
 ·
  have hkH:OD∈H:=by rw[←IW.k];exact List.mem_map_of_mem (f:=(·.1)) aC7
  have hvv:cD ro v14 3 bW [OD]:=IW.v _ aC7
  obtain⟨TH,qvb,qvo,IG,rfl,qvk,Zb,Za⟩:=hvv
  refine jg 0 [.b r13 (qP r1 Vx (seen++[e14.born]))]<|zD 8<|jmE (it:=r13) 0 IW.m IW.e BK Q9 aNs<|jg 0 [.b r13 (qP r1 Vx (seen++[e14.born]))]<|zD 2<|jn fun b6=>jd 15 [0]<|BD<|fX [1,1,0,1,0,0,1,1,0,1,1,0,1,0,0] [K1] (fun(zz:Nat×Value×Cells)=>[(1,(.map (some r2))),(4,(.map none)),(5,(.map (some r11))),(6,zP b6),(8,zz.2.1),(13,zP r13),(19,.slice TH ([OD].length) IG),(20,zI ([OD].length:Int)),(21,zI (zz.1:Int))]) (fun zz=>[.l zz.2.2,.b b6 (.cells ⟨[zI OD.h,zI OD.n,zI OD.l]⟩ 41 (0,0)),.b r13 (qP r1 Vx (seen++[e14.born])),.l LM,.l Z]) (fun zz=>zz.1≤[OD].length∧aK zz.2.1 3 41 bW ([g OD].take zz.1) zz.2.2) (fun zz=>[OD].length-zz.1) (⟨0,zS,[]⟩) ⟨by simp,aK.nil _ _ _⟩ (zN 0 5) ?_
  rintro⟨i,vO,LO⟩ hJ K2 oy rest
  dsimp only at hJ
  have OL: [OD].length=1:=rfl
  refine zD 5<|zJ 22 ((i:Int) <([OD].length:Int)) (fun h1=>?_) fun h1=>?_
  ·
   refine zD 6 ?_
   obtain⟨rR,ox⟩:=zG ([OD]) i
   refine jq IG 3 Zb ox<|jl 0 (Za _ _ ox)<|jn fun Ba=>jd 2 [0] ?_
   obtain⟨sD,hj0⟩:=TS ox
   refine jd 4 [0]<|jlu (kv:=lv) (F:=F2) (r:=r2) (K:=41) rR (zS) false [] [] wA (fun s he _=>⟨_,_,he _ _ (.inl SO.m),SO.e⟩) ?_
   obtain⟨w28,as8,afN⟩:=M5 (k:=rR) (F:=F2) (by rw[SO.k,sD];exact hkH)
   have hww:cD ro w28 3 bW [g rR]:=SO.v _ afN
   obtain⟨E5,qwb,qwo,A2,rfl,qwk,TE,TD⟩:=hww
   refine jw 28 (.slice E5 ([g rR].length) A2) (show II (zS) false rR F2=_ from by simp only[II,as8];rfl) ?_
   refine wD (sz:=3) (ps:=([g OD].take i)) (qs:=[g rR]) (enc:=bW) (w:= .slice E5 ([g rR].length) A2) [1] [] [] (hJ.2) (fun s he _=>⟨E5,qwb,qwo,A2,rfl,TE,fun i p hp=>(TD i p hp).ext he⟩) (fun p _=>aP rfl) (by simp only[List.length_take,List.length_cons,List.length_nil];omega) (fun v29 L29 Hn=>?_)
   obtain⟨aqC,aqx,auh⟩:=Hn.form
   subst auh
   refine zD 3<|zW ((i:Int)+1)<|zD 2<|zF oy (⟨i+1,(.slice aqC ((([g OD].take i)++[g rR])).length aqx),L29⟩) (by have:=Hn;rw[hj0] at this ⊢;rw[sD] at this;exact this) [0,2,3,4,5]
  refine jd 6 [1]<|dV 3 fun Bc Bm AN=>Uu (vs:=[vO]) [] [0] LO (fun aV hs hZ=>NC (hJ.2.n9 hZ) (by simp only[List.length_take,List.length_cons,List.length_nil];omega)) ?_
  rintro v34 L34 aN6
  refine iv AN (zN 1 5)<|dV 4 fun Cq Cy AM=>Ut (kv:=lv) (F:=F) (r:=r11) (K:=41) 4 OD (v34) wA hI.1 fun Lm4 hm4=>IJ AM<|zD 1<|Us cz (⟨(seen++[e14.born]),_,Lm4,Z++L34⟩) ⟨hm4,hI.2.1.step IW.e BK Q9,hI.2.2.put fun aR hk=>(by have:=aN6;rw[show ([g OD].take i)=[g OD] from List.take_of_length_le (by simp;omega)] at this;exact this.n9 hk)⟩ (xC BK) [[4],[0],[5,1]] (Sub.refl _)
 refine jg 0 [.b r13 (qP r1 Vx seen)]<|zD 11<|zR ((.map (some r11))) [] [1,2] (LM++Z) ⟨r11,F,LM,Z,rfl,rfl,hI.1,fun h hh=>hI.2.1.fin aM8 IW.e (by rw[IW.k];exact hh),hI.2.2⟩
theorem aeq{kv:κ→Value}{F:List (κ×Value)}{es:Array MapEntry}(h:oW kv F es ck):es.toList.length=F.length:=by
 have:=congrArg List.length h.1
 simpa using this
theorem Vi{FV:Array MapEntry}{F1:List (ah×Value)}{H:List ah}{g:ah→ah}(IW:JM ro r1 H g FV Vx F1)(hn:H.length≤8)(hS:∀x∈F1,(g x.1).h=0):dX zT 158 [(.map (some r1)),zI 1] ro [] (fun r Y=>∃a n c,r= .agg ⟨[.slice a n c]⟩):=by
 refine zE<|zD 2<|jn fun b4=>zD 4<|aMO (E:=90) (z:= zS) fun LI=>jg 0 [.b LI (.cells ⟨[zS]⟩ 90 (0,0))]<|zD 1<|jn fun b5=>jd 6 [0]<|jmR IW.m fun Y9=>jg 0 [.b Y9 (qP r1 Vx [])]<|zD 2<|BD<|fX [1,1,0,1,0,0] [] (fun(zz:(List Nat)×Value×Cells×(List az))=>[(4,zP b4),(5,zP b5),(16,zP Y9)]) (fun zz=>[.b Y9 (qP r1 Vx zz.1),.b LI (.cells ⟨[zz.2.1]⟩ 90 (0,0)),.l zz.2.2.1,.b b5 (.cells ⟨[.slice (some ⟨LI,0,none⟩) 1 1]⟩ 24 (0,0)),.b b4 (.cells ⟨[zS]⟩ 24 (0,0))]) (fun zz=>zz.2.2.2.length+(cZ FV zz.1).length≤8∧aK zz.2.1 2 39 ez zz.2.2.2 zz.2.2.1) (fun zz=>(cZ FV zz.1).length) (⟨[],zS,[],[]⟩) ⟨by rw[uC,aeq IW.e];have:=congrArg List.length IW.k;simp at this ⊢;omega,aK.nil _ _ _⟩ [1,3,0,2,4] ?_
 rintro⟨seen,w0,L0,p0⟩ hI K1 cz rest
 dsimp only at hI
 refine zD 2<|jmN (it:=Y9) (kv:=lv) (seen:=seen) 0 IW.m IW.e (fun k17 v17 e17 al3 aah atY aNq=>?_) (fun aZr=>?_)
 ·
  have hvv:cD ro v17 3 bW [g k17]:=IW.v _ al3
  obtain⟨TH,qvb,qvo,IG,rfl,qvk,Zb,Za⟩:=hvv
  have hsg:(g k17).h=0:=hS _ al3
  have bO:=xC aah
  refine jg 0 [.b Y9 (qP r1 Vx (seen++[e17.born]))]<|zD 8<|jmE (it:=Y9) 0 IW.m IW.e aah atY aNq<|jg 0 [.b Y9 (qP r1 Vx (seen++[e17.born]))]<|zD 10<|fX [1,1,0,1,0,0,1,1,0,1,1,0,0] [K1] (fun(zz:Nat×Value×Cells×(List az))=>[(4,zP b4),(5,zP b5),(16,zP Y9),(21,.slice TH ([g k17].length) IG),(22,zI ([g k17].length:Int)),(23,zI (zz.1:Int))]) (fun zz=>[.b Y9 (qP r1 Vx (seen++[e17.born])),.b LI (.cells ⟨[zz.2.1]⟩ 90 (0,0)),.l zz.2.2.1,.b b5 (.cells ⟨[.slice (some ⟨LI,0,none⟩) 1 1]⟩ 24 (0,0)),.b b4 (.cells ⟨[zS]⟩ 24 (0,0))]) (fun zz=>(zz.1≤1∧zz.2.2.2.length+(cZ FV (seen++[e17.born])).length+(1-zz.1)≤8)∧aK zz.2.1 2 39 ez zz.2.2.2 zz.2.2.1) (fun zz=>1-zz.1) (⟨0,w0,L0,p0⟩) ⟨by dsimp only;omega,hI.2⟩ (zN 0 5) ?_
  rintro⟨i,w0,L0,p0⟩ hJ K2 oy rest
  dsimp only at hJ
  have OL: [g k17].length=1:=rfl
  refine zD 5<|zJ 24 ((i:Int) <([g k17].length:Int)) (fun h1=>?_) fun h1=>?_
  ·
   refine zD 6 ?_
   obtain⟨x25,Jj⟩:=zG ([g k17]) i
   refine jq IG 3 Zb Jj<|jl 0 (Za _ _ Jj) ?_
   obtain⟨sD,hi0⟩:=TS Jj;rw[←sD] at hsg;obtain⟨xh,xn,xl⟩:=x25;dsimp only at hsg;subst hsg
   refine jn fun b9=>jd 11 [0,4,0,4,0]<|jd 4 [2,0]<|dV 12 fun Bc Bm AN=>jn fun b39=>iv AN (zN 1 6)<|dV 13 fun Cq Cy AM=>wD (sz:=2) (ps:=p0) (qs:=[(⟨xn,xl⟩:az)]) (enc:=ez) (w:= .slice (some ⟨b39,0,none⟩) 1 1) [4] [0] [(b39,.cells ⟨([(⟨xn,xl⟩:az)].map ez).flatten⟩ 39 (0,0))] (hJ.2) (fun s _ hZ=>gG [(⟨xn,xl⟩:az)] (hZ _ (.head _)) (by intro p hp;rfl)) (fun p _=>aP rfl) (by simp only[List.length_cons,List.length_nil];omega) (fun v40 L40 xH=>?_)
   obtain⟨abU,abN,af6⟩:=xH.form
   subst af6
   refine wC AM [[2],[5],[2],[5]]<|zD 1<|dV 15 fun Yx YJ hL5=>jd 1 [4]<|IJ hL5<|zD 2<|zW ((i:Int)+1)<|zD 2<|zY oy (⟨i+1,(.slice abU ((p0++[(⟨xn,xl⟩:az)])).length abN),L40,(p0++[(⟨xn,xl⟩:az)])⟩) ⟨by simp only[zM];omega,xH⟩ [3,4,0,5,6]
  refine zD 2<|eW cz (⟨(seen++[e17.born]),w0,L0,p0⟩) ⟨by dsimp only;omega,hJ.2⟩ bO (zN 0 5) (Sub.refl _)
 refine jg 0 [.b Y9 (qP r1 Vx seen)]<|jd 14 [3]<|fX [1,1,1,0,1,0,0] [] (fun(zz:Nat×Value×Cells×(List az))=>[(4,zP b4),(5,zP b5),(44,.slice (some ⟨LI,0,none⟩) 1 1),(45,zI 1),(46,zI (zz.1:Int))]) (fun zz=>[.b LI (.cells ⟨[zz.2.1]⟩ 90 (0,0)),.l zz.2.2.1,.b b5 (.cells ⟨[.slice (some ⟨LI,0,none⟩) 1 1]⟩ 24 (0,0)),.b b4 (.cells ⟨[zS]⟩ 24 (0,0))]) (fun zz=>(zz.1≤1∧zz.2.2.2.length≤8)∧aK zz.2.1 2 39 ez zz.2.2.2 zz.2.2.1) (fun zz=>1-zz.1) (⟨0,w0,L0,p0⟩) ⟨by dsimp only;omega,hI.2⟩ (zN 1 4) ?_
 rintro⟨k,w0,L0,p0⟩ hQ K6 hK6 rest
 dsimp only at hQ
 refine zD 5<|zJ 47 ((k:Int) <1) (fun h5=>?_) fun h5=>?_
 ·
  refine zD 6 ?_
  have hk0:k=0:=by omega
  refine jw 46 (zI 0) (show Value.int .i64 (k:Int)= zI 0 by rw[hk0];rfl) ?_
  refine jd 6 [0]<|jc (vs:=[w0,.func (.func 211) ⟨[]⟩ ⟨[]⟩]) [1] (au2 hQ.2 (by omega)) ?_
  rintro aXp Y51 ⟨aIG,aNW,aN5⟩
  refine zD 5 ?_
  have hle:=aNW.length_eq
  exact zF hK6 (⟨1,w0,Y51,aIG⟩) aN5 [1,0,2,3]
 refine jd 8 [2,3]<|zR (.agg ⟨[.slice (some ⟨LI,0,none⟩) 1 1]⟩) [3] [] [] ⟨_,_,_,rfl⟩
structure VN where
 a:Option Addr
 n:Nat
 c:Nat
 ea:Option Addr
 en:Nat
 ec:Nat
 r:Nat
abbrev ahl(t:VN):List Value:=[.slice t.a t.n t.c,.slice t.ea t.en t.ec,.map (some t.r)]
structure TrD where
 ways:List Int
 g:ah→ah
def aSy(ro:Nat→Option Obj)(r:Nat)(H:List ah)(g:ah→ah):Prop:=∃es ck F,ro r=some (.map es ck)∧oW lv F es ck∧(∀h∈H,h∈F.map (·.1))∧∀y∈F,cD ro y.2 3 bW [g y.1]
def TrR(H:List ah)(ro:Nat→Option Obj)(t:VN)(x:TrD):Prop:=cD ro (.slice t.a t.n t.c) 1 dc x.ways∧aSy ro t.r H x.g
def TrO(H:List ah)(LL:Cells)(t:VN)(x:TrD):Prop:=∀aR,Knows aR LL→TrR H aR t x
abbrev amE(H:List ah)(L:List TrD):(Nat→Option Obj)→Nat→List Value→Cells→Prop:=fun _ k vs LL=>∃x t,L[k]?=some x∧vs=[.agg ⟨ahl t⟩]∧TrO H LL t x
def ajl(S:List (List az))(l:List cE)(i:Nat):TrD:=⟨[(i:Int)],match l[i]? with
 |some c=>pL S c
 |none=>id⟩
def dz(S:List (List az)):List (List cE)→List TrD
 | []=>[⟨[],id⟩]
 |l::_=>(List.range l.length).map (ajl S l)
theorem JW{S:List (List az)}{l:List cE}{c:cE}(h:l[i]?=some c):(dz S [l])[i]?=some ⟨[(i:Int)],pL S c⟩:=by
 have hi:=(List.getElem?_eq_some_iff.1 h).1
 simp only[dz,List.getElem?_map,List.getElem?_range hi,Option.map_some,ajl,h]
structure s7(ways:List (List cE)):Prop where
 one:ways.length≤1
 ok:∀l∈ways,(1≤l.length∧l.length≤3)∧∀c∈l,iE c
theorem aFd{c:cE}(h:iE c):1≤c.k∧c.k≤7:=by
 simp only[iE,List.mem_cons,List.not_mem_nil,or_false] at h
 rcases h with rfl|rfl<;>simp
theorem apd{x:ah}:∀(u:List (ah×ah)) (y:ah),u.foldl (fun y p=>if x=p.1 then p.2 else y) y=y∨∃p∈u,u.foldl (fun y p=>if x=p.1 then p.2 else y) y=p.2
 | [],y=> .inl rfl
 |p::u,y=>by
  simp only[List.foldl_cons]
  rcases apd (x:=x) u (if x=p.1 then p.2 else y) with h| ⟨q,hq,h⟩
  ·rw[h]
   split
   ·exact .inr ⟨p,by simp,rfl⟩
   exact .inl rfl
  exact .inr ⟨q,by simp[hq],h⟩
theorem au1{u:List (ah×ah)}{x:ah}:gU u x=x∨∃p∈u,gU u x=p.2:=apd u x
theorem T6{S:List (List az)}{c:cE}(hc:iE c){x:ah}(hx:x.h=0):(pL S c x).h=0:=by
 rcases au1 (u:=avh S c) (x:=x) with h| ⟨p,hp,h⟩
 ·rw[pL,h];exact hx
 rw[pL,h]
 simp only[iE,List.mem_cons,List.not_mem_nil,or_false] at hc
 rcases hc with rfl|rfl<;>simp[avh,abZ,J1,KH,I4,mU] at hp
 ·obtain⟨_,_,_,_,_,rfl⟩:=hp;rfl
 obtain⟨_,_,rfl⟩:=hp;rfl
theorem Hq{S:List (List az)}(hO:eG S){x:ah}(hx:x∈aG S):x.h=0:=by
 obtain⟨j,l,p,h1,_,_,rfl⟩:=FM.1 hx
 have:=hO.two
 simp only[mU];omega
theorem JM.up{aR:Nat→Option Obj}{r:Nat}{H:List ah}{g:ah→ah}{es:Array MapEntry}{F:List (ah×Value)}(h:JM ro r H g es ck F)(hs:Sub ro aR):JM aR r H g es ck F:=⟨hs _ _ h.m,h.e,h.k,fun x hx=>(h.v x hx).up hs⟩
theorem aEc{S:List (List az)}{c:cE}(hc:iE c)(hS:bU ro v S)(hO:eG S):dX zT 156 [.agg ⟨[v]⟩,.agg ⟨nU c⟩] ro [] (fun r Y=>∃rm F LM Z,r= .tuple ⟨[.map (some rm),zI 0]⟩∧Y=LM++Z∧fH rm lv F LM∧F.map (·.1)=aG S∧MV Z F (pL S c)):=by
 simp only[iE,List.mem_cons,List.not_mem_nil,or_false] at hc
 rcases hc with rfl|rfl
 ·exact aEb hS hO
 exact aEa hS hO
def JK(ro:Nat→Option Obj)(b:Nat)(S:List (List az))(ways:List (List cE)):Prop:=∃vS vT vH fa fc,ro b=some (.cells ⟨[vS,vT,.slice fa 0 fc,vH]⟩ 207 (0,0))∧bU ro vS S∧lG ro vT ways∧cD ro vH 3 bW (aG S)
theorem JK.up{aR:Nat→Option Obj}{S:List (List az)}(h:JK ro b S ways)(hs:Sub ro aR):JK aR b S ways:=by
 obtain⟨vS,vT,vH,fa,fc,h1,h2,h3,h4⟩:=h
 exact⟨vS,vT,vH,fa,fc,hs _ _ h1,h2.up hs,h3.up hs,h4.up hs⟩
theorem au8{fa:Option Addr}{S:List (List az)}(hS:bU ro vS S)(hO:eG S)(hT:lG ro vT ways)(hW:s7 ways):dX zT 118 [.agg ⟨[vS,vT,.slice fa 0 fc]⟩] ro [] (fun r Y=>∃b vH LH,r= .tuple ⟨[zP b,zI 0]⟩∧Y=(b,.cells ⟨[vS,vT,.slice fa 0 fc,vH]⟩ 207 (0,0))::LH∧aK vH 3 41 bW (aG S) LH):=by
 have yG:=hS
 obtain⟨p5,hs,iV⟩:=hS
 obtain⟨xp,qsb,qso,vi,rfl,qsk,Zd,Zc⟩:=hs
 obtain⟨mQ,ht,kz⟩:=id hT
 obtain⟨iZ,I9,I7,gk,rfl,I8,xo,xm⟩:=ht
 have hl6:=iV.len
 have hl7:=kz.len
 have Df:=hO.two
 have atr:=hW.one
 have qzl:∀(i:Nat) (p:iD),([]:List iD)[i]?=some p→da ⟨ro,[]⟩ 0 (0+i*6) 6 (rG p):=fun _ _ h=>wz h
 refine zE<|zD 2<|jn fun b1=>jd 8 [0]<|jp (vs:=[.agg ⟨[.slice xp p5.length vi]⟩]) [] [] (fun aV hs hZ=>agI (yG.up hs) hO)<|jd 17 [0]<|zJ 21 ((mQ.length:Int)>3) (fun h1=>?_) fun h1=>?_
 ·
  exfalso;omega
 refine jd 11 [0]<|fX [1,1,1,0,1,0,0] [] (fun(zz:Nat)=>[(1,zP b1),(23,.slice iZ mQ.length gk),(24,zI (mQ.length:Int)),(25,zI (zz:Int))]) (fun zz=>[.b b1 (.cells ⟨[.slice xp p5.length vi,.slice iZ mQ.length gk,.slice fa 0 fc]⟩ 28 (0,0))]) (fun zz=>zz≤mQ.length) (fun zz=>mQ.length-zz) 0 (by omega) [0] ?_
 rintro k hI K1 cz rest
 refine zD 5<|zJ 26 ((k:Int) <(mQ.length:Int)) (fun h2=>?_) fun h2=>?_
 ·
  refine zD 6 ?_
  obtain⟨x27,Nj⟩:=zG mQ k
  refine jq gk 1 xo Nj ?_
  obtain⟨l28,aOz,h28⟩:=kz.get Nj
  obtain afN:=hW.ok _ (zL aOz)
  obtain⟨ay6,aX6,aX4,arz,rfl,aX5,aLi,aLh⟩:=h28
  refine jl 0 (xm _ _ Nj)<|jn fun b6=>jd 10 [0,0]<|zJ 32 ((l28.length:Int)=0) (fun h3=>?_) fun h3=>?_
  ·
   exfalso;omega
  refine jd 10 [0]<|zJ 36 ((l28.length:Int)>3) (fun h4=>?_) fun h4=>?_
  ·
   exfalso;omega
  refine jd 10 [0]<|fX [1,1,1,0,1,0,0,1,1,0,0,1,1,1,1,0,0] [K1] (fun(zz:Nat)=>[(1,zP b1),(23,.slice iZ mQ.length gk),(24,zI (mQ.length:Int)),(25,zI (k:Int)),(38,.slice ay6 l28.length arz),(39,zI (l28.length:Int)),(40,zI (zz:Int))]) (fun zz=>[.b b6 (.cells ⟨[.slice ay6 l28.length arz]⟩ 82 (0,0)),.b b1 (.cells ⟨[.slice xp p5.length vi,.slice iZ mQ.length gk,.slice fa 0 fc]⟩ 28 (0,0))]) (fun zz=>zz≤l28.length) (fun zz=>l28.length-zz) 0 (by omega) [0,1] ?_
  rintro i hJ K2 oy rest
  refine zD 5<|zJ 41 ((i:Int) <(l28.length:Int)) (fun h5=>?_) fun h5=>?_
  ·
   refine zD 6 ?_
   obtain⟨x42,ZR⟩:=zG l28 i
   refine jq arz 7 aLi ZR<|jl 0 (aLh _ _ ZR)<|jn fun b8=>jd 3 [0] ?_
   have Rg:=aFd (afN.2 _ (zL ZR))
   refine jd 3 [0]<|jp (vs:=[zI x42.k,zI 1,zI 7]) [] [] (fun aV hs hZ=>Vh)<|zD 2<|js 47 (!(gY x42.k 1 7)) (fun h6=>?_) (fun h6=>?_)
   ·
    try simp only[zB] at h6
    exfalso;simp only[gY,Bool.and_eq_false_iff,decide_eq_false_iff_not] at h6;omega
   try simp only[zB] at h6
   refine zD 3<|zW ((i:Int)+1)<|zD 2<|zY oy (i+1) (by omega) [1,2]
  refine zD 3<|zW ((k:Int)+1)<|zD 2<|zY cz (k+1) (by omega) [1]
 refine jd 17 [0,0,0]<|dV 3 fun Bc Bm AN=>jc (vs:=[.agg ⟨[.slice xp p5.length vi]⟩]) [] (XO yG hO) ?_
 rintro v57 L57 aCg
 obtain⟨axU,axQ,aO9⟩:=aCg.form
 subst aO9
 refine iv AN [1]<|zD 1<|dV 5 fun Cq Cy AM=>jn fun b59=>iv AM [1,2]<|jd 11 [2]<|fX [1,1,1,1,1,1,0,1,0,0] [] (fun(zz:Nat)=>[(1,zP b1),(9,zP b59),(61,.slice fa 0 fc),(62,zI 0),(63,zI 0)]) (fun zz=>[.b b59 (.cells ⟨[.slice xp p5.length vi,.slice iZ mQ.length gk,.slice fa 0 fc,(.slice axU (aG S).length axQ)]⟩ 207 (0,0)),.l L57,.b b1 (.cells ⟨[.slice xp p5.length vi,.slice iZ mQ.length gk,.slice fa 0 fc]⟩ 28 (0,0))]) (fun zz=>True) (fun zz=>zz) 0 trivial [0,1,2] ?_
 rintro z hQ K5 hK5 rest
 refine zD 14<|zR (.tuple ⟨[zP b59,zI 0]⟩) [] [0,1] ((b59,.cells ⟨[.slice xp p5.length vi,.slice iZ mQ.length gk,.slice fa 0 fc,(.slice axU (aG S).length axQ)]⟩ 207 (0,0))::L57) ⟨_,_,_,rfl,rfl,aCg⟩
structure aa6(ro:Nat→Option Obj)(bl b b1 b2 b3:Nat):Prop where
 t:ro b1=some (.cells ⟨[zP b]⟩ 149 (0,0))
 y:ro b2=some (.cells ⟨[.func (.yield bl) #[] #[]]⟩ 246 (0,0))
 g:ro b3=some (.cells ⟨[.func (.func 154) ⟨[]⟩ ⟨[zP b1,zP b2,zP b3]⟩]⟩ 246 (0,0))
theorem aa6.up{aR:Nat→Option Obj}(h:aa6 ro bl b b1 b2 b3)(hs:Sub ro aR):aa6 aR bl b b1 b2 b3:=⟨hs _ _ h.t,hs _ _ h.y,hs _ _ h.g⟩
theorem aD8{t:VN}{S:List (List az)}(IV:JK ro b S ways):eR zT 155 [zP b,.agg ⟨[.slice t.a t.n t.c,.slice t.ea t.en t.ec,(.map (some t.r))]⟩] ro (.bool true):=by
 obtain⟨vS,vT,vH,fa,fc,gb,hS,hT,hHs⟩:=IV
 have yG:=hS
 obtain⟨p5,hs,iV⟩:=hS
 obtain⟨xp,qsb,qso,vi,rfl,qsk,Zd,Zc⟩:=hs
 obtain⟨mQ,ht,kz⟩:=id hT
 obtain⟨iZ,I9,I7,gk,rfl,I8,xo,xm⟩:=ht
 have hl6:=iV.len
 have hl7:=kz.len
 have qzl:∀(i:Nat) (p:iD),([]:List iD)[i]?=some p→da ⟨ro,[]⟩ 0 (0+i*6) 6 (rG p):=fun _ _ h=>wz h
 refine zE<|zD 2<|jn fun b3=>zD 9<|jl (b:=b) (off:=0) (m:=4) (vs:=[.slice xp p5.length vi,.slice iZ mQ.length gk,.slice fa 0 fc,vH]) 2 ⟨_,_,_,.inl gb,rfl⟩<|zD 4<|fX [1,0,1,0,0] [] (fun(zz:Nat)=>[(3,zP b3),(11,.slice fa 0 fc),(12,zI 0),(13,zI 0)]) (fun zz=>[.b b3 (.cells ⟨[.slice t.a t.n t.c,.slice t.ea t.en t.ec,(.map (some t.r))]⟩ 156 (0,0))]) (fun zz=>True) (fun zz=>zz) 0 trivial [0] ?_
 rintro z hI K1 cz rest
 refine zD 12<|zX (.bool true) ⟨rfl,rfl⟩
theorem agB:dX zT 119 [zP b] ro [] (fun r Y=>∃b1,r= .func (.func 153) ⟨[]⟩ ⟨[zP b1]⟩∧Y=[(b1,.cells ⟨[zP b]⟩ 149 (0,0))]):=by
 refine zE<|zD 2<|jn fun b1=>zD 8<|zR (.func (.func 153) ⟨[]⟩ ⟨[zP b1]⟩) [] [0] [(b1,.cells ⟨[zP b]⟩ 149 (0,0))] ⟨_,rfl,rfl⟩
theorem agE{S:List (List az)}{L:List TrD}{Inv:Nat→Cells→Prop}{B:Cells}{t:VN}{x:TrD}{k:Nat}{LL:Cells}(IV:JK ro b S ways)(hC:aa6 ro bl b b1 b2 b3)(hn:t.n=ways.length)(hx:L[k]?=some x) (hR:TrO (aG S) LL t x) (hB:Inv k B) (hy:YOK zT bl ro L.length (amE (aG S) L) Inv Stop):dX zT 154 [.agg ⟨[.slice t.a t.n t.c,.slice t.ea t.en t.ec,(.map (some t.r))]⟩,zP b1,zP b2,zP b3] ro (LL++B) (fun r Y=>∃c,r= .bool c∧(c=true→Inv (k+1) Y)∧(c=false→Stop Y)):=by
 have amf:=IV
 obtain⟨vS,vT,vH,fa,fc,gb,hS,hT,hHs⟩:=IV
 have yG:=hS
 obtain⟨p5,hs,iV⟩:=hS
 obtain⟨xp,qsb,qso,vi,rfl,qsk,Zd,Zc⟩:=hs
 obtain⟨mQ,ht,kz⟩:=id hT
 obtain⟨iZ,I9,I7,gk,rfl,I8,xo,xm⟩:=ht
 have hl6:=iV.len
 have hl7:=kz.len
 have qzl:∀(i:Nat) (p:iD),([]:List iD)[i]?=some p→da ⟨ro,[]⟩ 0 (0+i*6) 6 (rG p):=fun _ _ h=>wz h
 refine zC [.l LL,.l B]<|zD 2<|jn fun b4=>jd 13 [0]<|jl (b:=b1) (off:=0) (m:=1) (vs:=[zP b]) 0 ⟨_,_,_,.inl hC.t,rfl⟩<|zD 3<|jl (b:=b) (off:=0) (m:=4) (vs:=[.slice xp p5.length vi,.slice iZ mQ.length gk,.slice fa 0 fc,vH]) 1 ⟨_,_,_,.inl gb,rfl⟩<|zD 3<|zJ 21 ((t.n:Int)=(mQ.length:Int)) (fun h1=>?_) fun h1=>?_
 ·
  refine zD 3<|jl (b:=b1) (off:=0) (m:=1) (vs:=[zP b]) 0 ⟨_,_,_,.inl hC.t,rfl⟩<|jd 1 [0]<|jp (vs:=[zP b,.agg ⟨[.slice t.a t.n t.c,.slice t.ea t.en t.ec,(.map (some t.r))]⟩]) [] [] (fun aV hs hZ=>aD8 (t:=t) (amf.up hs))<|zD 2<|jl (b:=b2) (off:=0) (m:=1) (vs:=[(.func (.yield bl) #[] #[])]) 0 ⟨_,_,_,.inl hC.y,rfl⟩<|jd 1 [0]<|jyc [1,2] (hy k [.agg ⟨[.slice t.a t.n t.c,.slice t.ea t.en t.ec,(.map (some t.r))]⟩] LL B ro (List.getElem?_eq_some_iff.1 hx).1 ⟨x,t,hx,rfl,hR⟩ hB (Sub.refl _)) (Sub.refl _) ?_
  intro v29 Y29 aNa
  obtain⟨c29,rfl,aPG,aPr⟩:=yb aNa
  refine zD 4<|zR (.bool c29) [] [0] Y29 ⟨_,rfl,aPG,aPr⟩
 exfalso;omega
theorem aRB{S:List (List az)}{l:List cE}{Inv:Nat→Cells→Prop}{B:Cells}{ea:Option Addr}{r0 ck0:Nat}{es0:Array MapEntry}{F0:List (ah×Value)}(IV:JK ro b S [l])(hO:eG S)(hW:s7 [l])(hC:aa6 ro bl b b1 b2 b3)(hE:∀aR,Knows aR LE→bU aR (.slice ea en ec) S)(hE0:oW lv F0 es0 ck0)(hk0:F0.map (·.1)=aG S)(y9:MV Z F0 id)(hB:Inv 0 B)(hy:YOK zT bl ro (dz S [l]).length (amE (aG S) (dz S [l])) Inv Stop):dX zT 154 [.agg ⟨[zS,.slice ea en ec,(.map (some r0))]⟩,zP b1,zP b2,zP b3] ro (LE++(r0,.map es0 ck0)::(Z++B)) (fun r Y=>∃c,r= .bool c∧(c=true→Inv l.length Y)∧(c=false→Stop Y)):=by
 have amf:=IV
 obtain⟨vS,vT,vH,fa,fc,gb,hS,hT,hHs⟩:=IV
 have yG:=hS
 obtain⟨p5,hs,iV⟩:=hS
 obtain⟨w1,rfl⟩:=C0 (iV.len.trans hO.two)
 obtain⟨xp,qsb,qso,vi,rfl,qsk,Zd,Zc⟩:=hs
 obtain⟨mQ,ht,kz⟩:=id hT
 obtain⟨iZ,I9,I7,gk,rfl,I8,xo,xm⟩:=ht
 have hl7:=kz.len
 have qzl:∀(i:Nat) (p:iD),([]:List iD)[i]?=some p→da ⟨ro,[]⟩ 0 (0+i*6) 6 (rG p):=fun _ _ h=>wz h
 refine zC [.l LE,.b r0 (.map es0 ck0),.l Z,.l B]<|zD 2<|jn fun b4=>zD 1<|jf [1,2,3] (LE++((r0,.map es0 ck0)::Z)) (fun yW cR fe=>?_)
 have hE1:=hE _ (Knows.left fe)
 have IW:JM yW r0 (aG S) id es0 ck0 F0:=⟨Knows.right fe _ (.head _),hE0,hk0,y9 _ (Knows.tail (Knows.right fe))⟩
 refine jd 12 [0]<|jl (b:=b1) (off:=0) (m:=1) (vs:=[zP b]) 0 ⟨_,_,_,.inl (cR _ _ hC.t),rfl⟩<|zD 3<|jl (b:=b) (off:=0) (m:=4) (vs:=[.slice xp 1 vi,.slice iZ mQ.length gk,.slice fa 0 fc,vH]) 1 ⟨_,_,_,.inl (cR _ _ gb),rfl⟩<|zD 3<|zJ 21 (0=(mQ.length:Int)) (fun h4=>?_) fun h4=>?_
 ·
  exfalso;simp at hl7;omega
 refine zD 4 ?_
 have hl8:mQ.length=1:=hl7
 refine zD 1<|jl (b:=b1) (off:=0) (m:=1) (vs:=[zP b]) 0 ⟨_,_,_,.inl (cR _ _ hC.t),rfl⟩<|zD 3<|jl (b:=b) (off:=0) (m:=4) (vs:=[.slice xp 1 vi,.slice iZ mQ.length gk,.slice fa 0 fc,vH]) 1 ⟨_,_,_,.inl (cR _ _ gb),rfl⟩<|zD 1 ?_
 obtain⟨lO,Ji⟩:=zG mQ 0
 refine jq gk 1 xo Ji<|zD 1 ?_
 obtain⟨l39,afS,h39⟩:=kz.get Ji
 obtain aOr:=hW.ok _ (zL afS)
 obtain Nq:l39=l:=Option.some.inj (afS.symm.trans rfl)
 obtain⟨ay0,aLb,aK9,ary,rfl,aLa,ayZ,ayY⟩:=h39
 refine jl 0 ((xm _ _ Ji).ext (FU cR))<|zD 4<|fX [1,1,1,0,1,0,0] [] (fun(zz:Nat×Cells)=>[(1,zP b1),(3,zP b3),(4,zP b4),(39,.slice ay0 l39.length ary),(40,zI (l39.length:Int)),(41,zI (zz.1:Int))]) (fun zz=>[.l zz.2,.b b4 (.cells ⟨[zS,.slice ea en ec,(.map (some r0))]⟩ 156 (0,0))]) (fun zz=>zz.1≤l39.length∧Inv zz.1 zz.2) (fun zz=>l39.length-zz.1) (⟨0,B⟩) ⟨by dsimp only;omega,hB⟩ [1,0] ?_
 rintro⟨i,B⟩ hI K1 cz rest
 dsimp only at hI
 refine zD 5<|zJ 42 ((i:Int) <(l39.length:Int)) (fun h5=>?_) fun h5=>?_
 ·
  refine zD 7 ?_
  obtain⟨Yy,Jh⟩:=zG l39 i
  refine jq ary 7 ayZ Jh<|jl 0 ((ayY _ _ Jh).ext (FU cR))<|jn fun b8=>jd 4 [0] ?_
  have hco:=aOr.2 _ (zL Jh)
  refine jd 4 [2,0]<|jc (vs:=[.agg ⟨[.slice ea en ec]⟩,.agg ⟨[zI Yy.k,zI Yy.st,zI Yy.ot,zI Yy.fn,zI Yy.fl,zI Yy.tn,zI Yy.tl]⟩]) [] (aEc (c:=Yy) hco (hE1.up (Sub.refl _)) hO) ?_
  rintro _ _ ⟨r9,F9,LM9,Z9,rfl,rfl,hm9,OM,hM9⟩
  obtain⟨es9,ck9,rfl,hE9⟩:=hm9
  refine jg 0 [.b r9 (.map es9 ck9),.l Z9]<|zD 5<|jf [0,1] ((r9,.map es9 ck9)::Z9) (fun ro8 AE hk7=>?_)
  have SO:JM ro8 r9 (aG S) (pL S Yy) es9 ck9 F9:=⟨hk7 _ (.head _),hE9,OM,hM9 _ (Knows.tail hk7)⟩
  refine zD 11<|jl (b:=b3) (off:=0) (m:=1) (vs:=[.func (.func 154) ⟨[]⟩ ⟨[zP b1,zP b2,zP b3]⟩]) 0 ⟨_,_,_,.inl (AE _ _ (cR _ _ hC.g)),rfl⟩<|jd 4 [2]<|jl (b:=b1) (off:=0) (m:=1) (vs:=[zP b]) 0 ⟨_,_,_,.inl (AE _ _ (cR _ _ hC.t)),rfl⟩<|zD 4<|jl (b:=b) (off:=0) (m:=4) (vs:=[.slice xp 1 vi,.slice iZ mQ.length gk,.slice fa 0 fc,vH]) 0 ⟨_,_,_,.inl (AE _ _ (cR _ _ gb)),rfl⟩<|jd 4 [2]<|jls [3,5] ⟨fun z2 t3 AM=>?_,fun z5 t6 hL7=>?_,trivial⟩
  ·
   refine jc (vs:=[zS]) [] (aEe (cD.nil _ _ _ _ _) (by simp)) ?_
   rintro v58 L58 afG
   obtain⟨aJo,aI4,auf⟩:=afG.form
   subst auf
   refine iv AM [1,2,3]<|dV 5 fun ai1 ajn hL8=>jn fun b60=>iv hL8 (zN 1 4)<|dV 6 fun axm aya hL9=>wD (sz:=1) (ps:=([]:List Int)) (qs:=[(i:Int)]) (enc:=dc) (w:= .slice (some ⟨b60,0,none⟩) 1 1) [1] [0] [(b60,.cells ⟨([(i:Int)].map dc).flatten⟩ 3 (0,0))] (afG) (fun s _ hZ=>gG [(i:Int)] (hZ _ (.head _)) (by intro p hp;rfl)) (fun p _=>aP rfl) (by simp only[List.length_cons,List.length_nil];omega) (fun v61 L61 Hl=>?_)
   obtain⟨abS,abL,aue⟩:=Hl.form
   subst aue
   refine wC hL9 [[4],[],[],[]]<|dV 15 fun axo ayc U7=>jc (vs:=[(.map (some r9)),zI 1]) [] (Vi (SO.up (Sub.refl _)) (lA hO) (fun x hx=>T6 hco (Hq hO (by rw[←OM];exact List.mem_map_of_mem (f:=(·.1)) hx)))) ?_
   rintro _ L70 ⟨a70,n70,c70,rfl⟩
   refine iv U7 (zN 1 5)<|dV 19 fun ans anI agt=>jc (vs:=[(.map (some r0)),(.map (some r9))]) [] (ape (IW.up AE) (SO.up (Sub.refl _))) ?_
   rintro _ _ ⟨r74,F74,aSD,Z74,rfl,rfl,atG,atW,auH⟩
   obtain⟨NN,NW,rfl,auM⟩:=atG
   refine jg 0 [.b r74 (.map NN NW),.l Z74]<|iv agt (zN 2 6)<|zD 1<|dV 21 fun anr anH U6=>jc (vs:=[.agg ⟨[(.slice abS ((([]:List Int)++[(i:Int)])).length abL),.slice a70 n70 c70,(.map (some r74))]⟩,zP b1,zP b2,zP b3]) [3,0,1,6] ((show dX _ _ _ _ (L61++(r74,.map NN NW)::(Z74++B)) _ from by have:=agE (t:=⟨abS,((([]:List Int)++[(i:Int)])).length,abL,a70,n70,c70,r74⟩) (LL:=L61++(r74,.map NN NW)::Z74) (amf.up (cR.trans AE)) (hC.up (cR.trans AE)) rfl (JW (by rw[←Nq];exact Jh)) (fun aR hk=>⟨by simpa using Hl.n9 (Knows.left hk),NN,NW,F74,(Knows.right hk) _ (.head _),auM,atW,fun y hy=>auH aR (Knows.tail (Knows.right hk)) y hy⟩) hI.2 (hy.up (cR.trans AE));rwa[List.append_assoc,List.cons_append] at this)) ?_
   rintro _ Y76 ⟨c76,rfl,aut,auo⟩
   refine wC U6 [[],[]]<|zD 2<|js 77 (!c76) (fun Va=>?_) (fun Va=>?_)
   ·
    try simp only[zB] at Va
    refine zD 6<|aS q0.a.a (.bool false) [] [0] Y76 (cR.trans AE) ⟨_,_,rfl,rfl,_,rfl,nofun,fun _=>auo (by simp_all)⟩
   try simp only[zB] at Va
   refine zD 3<|zW ((i:Int)+1)<|zD 2<|eW cz (⟨i+1,Y76⟩) ⟨by dsimp only;omega,aut (by simp_all)⟩ (by dsimp only;omega) [0,4] AE
  refine jn fun b60=>iv hL7 [1,2,3]<|dV 3 fun anq anG ags=>jc (vs:=[zS]) [] (aEe (cD.nil _ _ _ _ _) (by simp)) ?_
  rintro v58 L58 afG
  obtain⟨aJo,aI4,auf⟩:=afG.form
  subst auf
  refine iv ags (zN 1 4)<|dV 6 fun anp anF agq=>wD (sz:=1) (ps:=([]:List Int)) (qs:=[(i:Int)]) (enc:=dc) (w:= .slice (some ⟨b60,0,none⟩) 1 1) [0] [1] [(b60,.cells ⟨([(i:Int)].map dc).flatten⟩ 3 (0,0))] (afG) (fun s _ hZ=>gG [(i:Int)] (hZ _ (.head _)) (by intro p hp;rfl)) (fun p _=>aP rfl) (by simp only[List.length_cons,List.length_nil];omega) (fun v61 L61 Hl=>?_)
  obtain⟨abS,abL,aue⟩:=Hl.form
  subst aue
  refine wC agq [[4],[],[],[]]<|dV 15 fun axn ayb agp=>jc (vs:=[(.map (some r9)),zI 1]) [] (Vi (SO.up (Sub.refl _)) (lA hO) (fun x hx=>T6 hco (Hq hO (by rw[←OM];exact List.mem_map_of_mem (f:=(·.1)) hx)))) ?_
  rintro _ L70 ⟨a70,n70,c70,rfl⟩
  refine iv agp (zN 1 5)<|dV 19 fun ano anE ago=>jc (vs:=[(.map (some r0)),(.map (some r9))]) [] (ape (IW.up AE) (SO.up (Sub.refl _))) ?_
  rintro _ _ ⟨r74,F74,aSD,Z74,rfl,rfl,atG,atW,auH⟩
  obtain⟨NN,NW,rfl,auM⟩:=atG
  refine jg 0 [.b r74 (.map NN NW),.l Z74]<|iv ago (zN 2 6)<|zD 1<|dV 21 fun ann anD U5=>jc (vs:=[.agg ⟨[(.slice abS ((([]:List Int)++[(i:Int)])).length abL),.slice a70 n70 c70,(.map (some r74))]⟩,zP b1,zP b2,zP b3]) [3,0,1,6] ((show dX _ _ _ _ (L61++(r74,.map NN NW)::(Z74++B)) _ from by have:=agE (t:=⟨abS,((([]:List Int)++[(i:Int)])).length,abL,a70,n70,c70,r74⟩) (LL:=L61++(r74,.map NN NW)::Z74) (amf.up (cR.trans AE)) (hC.up (cR.trans AE)) rfl (JW (by rw[←Nq];exact Jh)) (fun aR hk=>⟨by simpa using Hl.n9 (Knows.left hk),NN,NW,F74,(Knows.right hk) _ (.head _),auM,atW,fun y hy=>auH aR (Knows.tail (Knows.right hk)) y hy⟩) hI.2 (hy.up (cR.trans AE));rwa[List.append_assoc,List.cons_append] at this)) ?_
  rintro _ Y76 ⟨c76,rfl,aut,auo⟩
  refine wC U5 [[],[]]<|zD 2<|js 77 (!c76) (fun h22=>?_) (fun h22=>?_)
  ·
   try simp only[zB] at h22
   refine zD 6<|aS q0.a.a (.bool false) [] [0] Y76 (cR.trans AE) ⟨_,_,rfl,rfl,_,rfl,nofun,fun _=>auo (by simp_all)⟩
  try simp only[zB] at h22
  refine zD 3<|zW ((i:Int)+1)<|zD 2<|eW cz (⟨i+1,Y76⟩) ⟨by dsimp only;omega,aut (by simp_all)⟩ (by dsimp only;omega) [0,4] AE
 refine zD 7<|aS q0.a (.bool true) [] [0] B cR ⟨_,_,rfl,rfl,_,rfl,(fun _=>by have:=hI.2;rwa[show i=l.length by rw[←Nq];omega] at this),nofun⟩
theorem aD7{S:List (List az)}{Inv:Nat→Cells→Prop}{B:Cells}{ea:Option Addr}{r0 ck0:Nat}{es0:Array MapEntry}{F0:List (ah×Value)}(IV:JK ro b S ways)(hO:eG S)(hW:s7 ways)(hC:aa6 ro bl b b1 b2 b3)(hE:∀aR,Knows aR LE→bU aR (.slice ea en ec) S)(hE0:oW lv F0 es0 ck0)(hk0:F0.map (·.1)=aG S)(y9:MV Z F0 id)(hB:Inv 0 B)(hy:YOK zT bl ro (dz S ways).length (amE (aG S) (dz S ways)) Inv Stop):
 dX zT 154 [.agg ⟨[zS,.slice ea en ec,.map (some r0)]⟩,zP b1,zP b2,zP b3] ro (LE++(r0,.map es0 ck0)::(Z++B)) (fun r Y=>∃c,r= .bool c∧(c=true→Inv (dz S ways).length Y)∧(c=false→Stop Y)):=by
 match ways,hW with
 | [],_=>
  have:=agE (t:=⟨none,0,0,ea,en,ec,r0⟩) (x:=⟨[],id⟩) (k:=0) (LL:=LE++(r0,.map es0 ck0)::Z) IV hC rfl rfl (fun aR hk=>⟨cD.nil _ _ _ _ _,es0,ck0,F0,(Knows.right hk) _ (.head _),hE0,fun h hh=>by rw[hk0];exact hh,y9 _ (Knows.tail (Knows.right hk))⟩) hB hy
  rwa[List.append_assoc,List.cons_append] at this
 | [l],hW=>
  refine(aRB IV hO hW hC hE hE0 hk0 y9 hB hy).mono fun _ _ ⟨c,h1,h2,h3⟩=>⟨c,h1,fun h=>?_,h3⟩
  rw[show (dz S [l]).length=l.length by simp[dz]]
  exact h2 h
 |_::_::_,hW=>exact absurd hW.one (by simp)
theorem aat{S:List (List az)}(g1:ro b1=some (.cells ⟨[zP b]⟩ 149 (0,0)))(IV:JK ro b S ways)(hO:eG S)(hW:s7 ways):ItX zT 153 [] [zP b1] ro [] (dz S ways).length (amE (aG S) (dz S ways)) (fun Z=>Z=[]):=by
 intro bl aV Inv Stop hs hy B hB
 replace g1:=hs _ _ g1
 replace IV:=IV.up hs
 have aQf:=IV
 obtain⟨vS,vT,vH,fa,fc,gb,hS,hT,hHs⟩:=IV
 have yG:=hS
 obtain⟨p5,ql,iV⟩:=hS
 obtain⟨ajV,aXF,aXB,ajU,rfl,aXD,aXE,aXC⟩:=ql
 obtain⟨mQ,ht,kz⟩:=id hT
 obtain⟨iZ,I9,I7,gk,rfl,I8,xo,xm⟩:=ht
 have qzl:∀(i:Nat) (p:iD),([]:List iD)[i]?=some p→da ⟨aV,[]⟩ 0 (0+i*6) 6 (rG p):=fun _ _ h=>wz h
 refine zC [.l B]<|zD 2<|jn fun b2=>zD 3<|jn fun b3=>jd 5 [0]<|jf [1,0] ((b2,.cells ⟨[(.func (.yield bl) #[] #[])]⟩ 246 (0,0))::[(b3,.cells ⟨[.func (.func 154) ⟨[]⟩ ⟨[zP b1,zP b2,zP b3]⟩]⟩ 246 (0,0))]) fun yW cR fe=>zD 2<|jl (b:=b3) (off:=0) (m:=1) (vs:=[.func (.func 154) ⟨[]⟩ ⟨[zP b1,zP b2,zP b3]⟩]) 0 ⟨_,_,_,.inl (fe _ (.tail _ (.head _))),rfl⟩<|jl (b:=b1) (off:=0) (m:=1) (vs:=[zP b]) 0 ⟨_,_,_,.inl (cR _ _ g1),rfl⟩<|zD 3<|jl (b:=b) (off:=0) (m:=4) (vs:=[.slice ajV p5.length ajU,.slice iZ mQ.length gk,.slice fa 0 fc,vH]) 0 ⟨_,_,_,.inl (cR _ _ gb),rfl⟩<|jl (b:=b1) (off:=0) (m:=1) (vs:=[zP b]) 0 ⟨_,_,_,.inl (cR _ _ g1),rfl⟩<|zD 3<|jl (b:=b) (off:=0) (m:=4) (vs:=[.slice ajV p5.length ajU,.slice iZ mQ.length gk,.slice fa 0 fc,vH]) 0 ⟨_,_,_,.inl (cR _ _ gb),rfl⟩<|dV 6 fun tc tj sI=>jc (vs:=[.agg ⟨[.slice ajV p5.length ajU]⟩]) [] (amr (yG.up cR) hO) ?_
 rintro _ L11 ⟨a11,n11,c11,rfl,aRd⟩
 refine iv sI [1]<|dV 12 fun LW Mn Nv=>jc (vs:=[.agg ⟨[.slice ajV p5.length ajU]⟩]) [] (agD (yG.up cR) hO) ?_
 rintro _ _ ⟨r17,F17,bcp,Z17,rfl,rfl,aOv,atY,aQi⟩
 obtain⟨aRM,aR6,rfl,aRc⟩:=aOv
 refine jg 0 [.b r17 (.map aRM aR6),.l Z17]<|iv Nv [2,3]<|zD 1<|dV 14 fun Bc Bm AN=>jc (vs:=[.agg ⟨[zS,.slice a11 n11 c11,(.map (some r17))]⟩,zP b1,zP b2,zP b3]) [2,0,1,3] (aD7 (aQf.up cR) hO hW ⟨(cR _ _ g1),fe _ (.head _),fe _ (.tail _ (.head _))⟩ aRd aRc atY aQi hB (YOK.up hy cR)) ?_
 rintro _ Y19 ⟨c19,rfl,aPJ,aPu⟩
 refine wC AN [[],[]]<|zD 1<|aS q0.a (.tuple ⟨[]⟩) [] [0] Y19 cR ⟨_,_,rfl,rfl,[],Y19,rfl,rfl,by cases c19 with|true=>exact .inl (aPJ rfl)|false=>exact .inr (aPu rfl)⟩
theorem qX{S:List (List az)}(hW:s7 ways):(dz S ways).length≤3:=by
 match ways,hW with
 | [],_=>simp[dz]
 |l::_,hW=>
  have:=(hW.ok l (by simp)).1.2
  simpa [dz] using this
theorem agJ{fa:Option Addr}{S:List (List az)}(hS:bU ro vS S)(hO:eG S)(hT:lG ro vT ways)(hW:s7 ways):FnG zT 82 [.agg ⟨[vS,vT,.slice fa 0 fc]⟩] ro [] (fun r aV Y=>∃b vl ts Lt Z,r= .tuple ⟨[zP b,vl,zI 0]⟩∧JK aV b S ways∧Y=Lt++Z∧aK vl 3 156 ahl ts Lt∧ts.length=(dz S ways).length∧∀aR,Knows aR Z→iF (TrR (aG S) aR) ts (dz S ways)):=by
 have yG:=hS
 obtain⟨p5,hs,iV⟩:=hS
 obtain⟨xp,qsb,qso,vi,rfl,qsk,Zd,Zc⟩:=hs
 obtain⟨mQ,ht,kz⟩:=id hT
 obtain⟨iZ,I9,I7,gk,rfl,I8,xo,xm⟩:=ht
 have hl6:=iV.len
 have hl7:=kz.len
 have Df:=hO.two
 have atr:=hW.one
 have qzl:∀(i:Nat) (p:iD),([]:List iD)[i]?=some p→da ⟨ro,[]⟩ 0 (0+i*6) 6 (rG p):=fun _ _ h=>wz h
 refine aBh (hm:=aE) [] [] bJ<|zD 2<|jn fun b1=>jd 7 [0]<|jc (vs:=[.agg ⟨[.slice xp p5.length vi,.slice iZ mQ.length gk,.slice fa 0 fc]⟩]) [] (au8 yG hO hT hW) ?_
 rintro _ _ ⟨I0,axY,aGd,rfl,rfl,aN9⟩
 refine jg 0 [.b I0 (.cells ⟨[.slice xp p5.length vi,.slice iZ mQ.length gk,.slice fa 0 fc,axY]⟩ 207 (0,0)),.l aGd]<|zD 5<|jf [0,1] ((I0,.cells ⟨[.slice xp p5.length vi,.slice iZ mQ.length gk,.slice fa 0 fc,axY]⟩ 207 (0,0))::aGd) (fun yW cR fe=>?_)
 have IV:JK yW I0 S ways:=⟨_,_,_,_,_,fe _ (.head _),yG.up cR,hT.up cR,aN9.n9 (Knows.tail fe)⟩
 refine zD 10 ?_
 have hLn:(dz S ways).length≤3:=qX hW
 refine zD 1<|jn fun b7=>zD 5<|jc (vs:=[zP I0]) [] (agB) ?_
 rintro _ _ ⟨aoi,rfl,rfl⟩
 refine jg 0 [.b aoi (.cells ⟨[zP I0]⟩ 149 (0,0))]<|jf [0] [(aoi,.cells ⟨[zP I0]⟩ 149 (0,0))] fun ro6 nz Ck=>zD 2<|BD<|BD<|jrf [] (aat (Ck _ (.head _)) (IV.up nz) hO hW) (by rintro _ _ _ _ ⟨_,_,_,rfl,_⟩;rfl) (fun(zz:Value×Cells×(List VN)×Cells)=>[.b b7 (.cells ⟨[zz.1]⟩ 150 (0,0)),.l zz.2.1,.l zz.2.2.2]) (fun kk=>(fun(zz:Value×Cells×(List VN)×Cells)=>aK zz.1 3 156 ahl zz.2.2.1 zz.2.1∧zz.2.2.1.length=kk∧(∀aR,Knows aR zz.2.2.2→iF (TrR (aG S) aR) zz.2.2.1 ((dz S ways).take kk))∧(dz S ways).length≤3)) (fun jump=>(fun(zz:Value×Cells×(List VN)×Cells)=>False)) (⟨zS,[],[],[]⟩) ⟨aK.nil _ _ _,rfl,fun _ _=> .nil,hLn⟩ [2,0,1] ?_ ?_ ?_
 ·
  rintro bl7 bd7 kk7 vs7 LL7 ⟨vl,Lt,ts,Z⟩ ro7 hk7 aO3 hI Ci
  obtain⟨x7,t7,hx7,rfl,hR7⟩:=aO3
  dsimp only at hI
  have bR:=(List.getElem?_eq_some_iff.1 hx7).1
  refine zD 1<|jn fun b8=>jd 2 [0]<|asL<|jd 4 [2,0]<|jn fun b22=>wD (sz:=3) (ps:=ts) (qs:=[(⟨t7.a,t7.n,t7.c,t7.ea,t7.en,t7.ec,t7.r⟩:VN)]) (enc:=ahl) (w:= .slice (some ⟨b22,0,none⟩) 1 1) [4] [0] [(b22,.cells ⟨([(⟨t7.a,t7.n,t7.c,t7.ea,t7.en,t7.ec,t7.r⟩:VN)].map ahl).flatten⟩ 156 (0,0))] (hI.1) (fun s _ hZ=>gG [(⟨t7.a,t7.n,t7.c,t7.ea,t7.en,t7.ec,t7.r⟩:VN)] (hZ _ (.head _)) (by intro p hp;rfl)) (fun p _=>aP rfl) (by simp only[List.length_cons,List.length_nil];omega) (fun v23 L23 Nl=>?_)
  obtain⟨abW,abP,af7⟩:=Nl.form
  subst af7
  refine jd 2 [4]<|jyn qy0 (Sub.refl _) ⟨(.slice abW ((ts++[(⟨t7.a,t7.n,t7.c,t7.ea,t7.en,t7.ec,t7.r⟩:VN)])).length abP),L23,(ts++[(⟨t7.a,t7.n,t7.c,t7.ea,t7.en,t7.ec,t7.r⟩:VN)]),LL7++Z⟩ ⟨Nl,by simp only[zM];omega,fun aR hk=>yQ (hI.2.2.1 aR (Knows.right hk)) hx7 (hR7 aR (Knows.left hk)),hI.2.2.2⟩ [3,4,0,6,5]
 ·
  rintro bd7 ⟨vl,Lt,ts,Z⟩ Z7 hI hZ7
  dsimp only at hI
  subst hZ7
  refine jd 9 [2]<|aMI Ze.a.a.m (.tuple ⟨[zP I0,vl,zI 0]⟩) [0] [] [2,3] (Lt++Z) (Sub.refl _) ⟨_,_,_,rfl,rfl,(cR.trans nz),I0,vl,ts,Lt,Z,rfl,IV.up nz,rfl,hI.1,hI.2.1,by have:=hI.2.2.1;rwa[List.take_of_length_le (Nat.le_refl _)] at this⟩
 rintro bd7 ⟨vl,Lt,ts,Z⟩ Z7 jump hS hZ7
 exact hS.elim
def wv(t:VN):Value:= .slice t.a t.n t.c
theorem iF.maps{γ δ:Type}{R:α→β→Prop}{T:γ→δ→Prop}{f:α→γ}{g:β→δ}(h:∀a b,R a b→T (f a) (g b)):∀ {l:List α} {m:List β},iF R l m→iF T (l.map f) (m.map g)
 | [],[],.nil=> .nil
 |_::_,_::_,.cons h1 h2=> .cons (h _ _ h1) (iF.maps h h2)
theorem XN{fa:Option Addr}{S:List (List az)}(hS:bU ro vS S)(hO:eG S)(hT:lG ro vT ways)(hW:s7 ways):dX zT 28 [.agg ⟨[vS,vT,.slice fa 0 fc]⟩] ro [] (fun r Y=>∃a n c,r= .tuple ⟨[.slice a n c,zI 0]⟩∧n=((dz S ways).map (·.ways)).length∧∀tS,Knows tS Y→aic tS (.slice a n c) ((dz S ways).map (·.ways))):=by
 have yG:=hS
 obtain⟨p5,hs,iV⟩:=hS
 obtain⟨xp,qsb,qso,vi,rfl,qsk,Zd,Zc⟩:=hs
 obtain⟨mQ,ht,kz⟩:=id hT
 obtain⟨iZ,I9,I7,gk,rfl,I8,xo,xm⟩:=ht
 have hl6:=iV.len
 have hl7:=kz.len
 have Df:=hO.two
 have atr:=hW.one
 have qzl:∀(i:Nat) (p:iD),([]:List iD)[i]?=some p→da ⟨ro,[]⟩ 0 (0+i*6) 6 (rG p):=fun _ _ h=>wz h
 have hLn:=qX (S:=S) hW
 refine zE<|zD 2<|jn fun b1=>jd 6 [0]<|jcG (vs:=[.agg ⟨[.slice xp p5.length vi,.slice iZ mQ.length gk,.slice fa 0 fc]⟩]) [] (agJ yG hO hT hW) ?_
 rintro _ aV _ cR ⟨wK,vl,ts,Lt,Z,rfl,IV,rfl,hL,htl,hA⟩
 obtain⟨uS,uT,uH,ua,uc,gb,_,_,hh⟩:=IV
 obtain⟨ov,TN,TJ,od,rfl,TK,SD,SC⟩:=hh
 obtain⟨aJC,aJi,aPl⟩:=hL.form
 subst aPl
 refine jg 0 [.l Lt,.l Z]<|zD 28<|BD<|fX [1,1,1,1,0,1,0,0] [] (fun(zz:Nat×Value×Cells)=>[(2,zS),(3,zI 0),(7,zz.2.1),(19,(.slice aJC ts.length aJi)),(20,zI (ts.length:Int)),(21,zI (zz.1:Int))]) (fun zz=>[.l zz.2.2,.l Lt,.l Z,.b b1 (.cells ⟨[.slice xp p5.length vi,.slice iZ mQ.length gk,.slice fa 0 fc]⟩ 28 (0,0))]) (fun zz=>zz.1≤ts.length∧aK zz.2.1 1 45 w6 ((ts.take zz.1).map wv) zz.2.2) (fun zz=>ts.length-zz.1) (⟨0,zS,[]⟩) ⟨by dsimp only;omega,aK.nil _ _ _⟩ (zN 0 4) ?_
 rintro⟨k,vO,LO⟩ hI K1 cz rest
 dsimp only at hI
 refine zD 5<|zJ 22 ((k:Int) <(ts.length:Int)) (fun h2=>?_) fun h2=>?_
 ·
  refine zD 6 ?_
  obtain⟨rR,ox⟩:=zG ts k
  refine jxo 3 hL ox fun b23 aPY=>uD 0 [1] Lt (fun s _ hZ=>p9 hL aPY hZ ox)<|jn fun b9=>jd 6 [0,0]<|jn fun b28=>wD (sz:=1) (ps:=((ts.take k).map wv)) (qs:=[(.slice rR.a rR.n rR.c:Value)]) (enc:=w6) (w:= .slice (some ⟨b28,0,none⟩) 1 1) [2] [0] [(b28,.cells ⟨([(.slice rR.a rR.n rR.c:Value)].map w6).flatten⟩ 45 (0,0))] (hI.2) (fun s _ hZ=>gG [(.slice rR.a rR.n rR.c:Value)] (hZ _ (.head _)) (by intro p hp;rfl)) (by intro p hp;rw[List.mem_singleton] at hp;subst hp;exact aP rfl) (by simp only[List.length_map,List.length_take,List.length_cons,List.length_nil];omega) (fun v29 L29 Hn=>?_)
  obtain⟨aqC,aqx,auh⟩:=Hn.form
  subst auh
  refine zD 3<|zW ((k:Int)+1)<|zD 2<|zF cz (⟨k+1,(.slice aqC ((((ts.take k).map wv)++[(.slice rR.a rR.n rR.c:Value)])).length aqx),L29⟩) (by rw[eK ox,List.map_append];exact Hn) [0,3,4,5]
 refine zD 3 ?_
 obtain⟨va3,vc3,he3⟩:=hI.2.form
 subst he3
 refine zD 6<|aS q0.a (.tuple ⟨[(.slice va3 (((ts.take k).map wv)).length vc3),zI 0]⟩) [] [0,2] (LO++Z) cR ⟨_,_,rfl,rfl,_,_,_,rfl,by simp only[List.length_map,List.length_take];omega,fun tS hk=>⟨_,hI.2.n9 (Knows.left hk),by rw[List.take_of_length_le (by omega)];exact(hA tS (Knows.right hk)).maps fun _ _ h=>h.1⟩⟩
open Go.ConcR (KK wgBlock WgAt stA smA rd wr)
open Go.ConcM (OsLater)
noncomputable def gp(W:Nat):Value:= .pointer (some ⟨W,0,none⟩)
noncomputable def sKd(W:Nat):List FD:=[⟨137,tdF Tryz.prog 137 0 0,.normal,84,[(0,gp W)]⟩]
noncomputable def I3(W:Nat):List FD:=[⟨193,tdF Tryz.prog 193 1 3,.normal,7,[(5,gp W)]⟩,⟨137,tdF Tryz.prog 137 1 3,.normal,84,[(0,gp W)]⟩]
noncomputable def Ed(W vs:Nat):List FD:=[⟨200,tdF Tryz.prog 200 1 5,.normal,13,[(9,gp W),(10,.int .u64 ((vs:Int)*KK)),(11,.int .u64 ((vs:Int)*KK+1))]⟩,⟨137,tdF Tryz.prog 137 10 6,.normal,84,[(0,gp W),(2,.int .u64 ((vs:Int)*KK)),(4,.int .u32 0)]⟩]
def wV:Frame→Bool:=fun _=>false
def onL(F:Frame→List Frame→Bl):List Frame→Bl
 |f::s=>F f s
 | []=>none
noncomputable def ck0:List Frame→Bl:=onL fun f s=>yU Tryz.prog 231 (AZ 0 0) false none [(7,0)] f s fun f s=>yI Tryz.prog 231 300 f s (LC Tryz.prog 231)
noncomputable def ckH(vs:Nat):List Frame→Bl:=onL fun f s=>yU Tryz.prog 231 (AZ ((vs:Int)*KK) 0) false (some (0,.u64,(vs:Int)*KK+1)) [(7,0),(8,0)] f s fun f s=>yI Tryz.prog 231 300 f s (X6 Tryz.prog 231)
noncomputable def Qw(b:Bl):Nat:=(b.getD []).length
theorem aIV(W:Nat):Comes W (sKd W) [] [] (MC wV Tryz.prog 231 [Frame.enter Tryz.prog 137 ⟨[gp W]⟩ .normal]):=by unfold Comes;kernel_rfl
theorem aIT(W:Nat)(v:Nat→Nat→Value):Comes W (I3 W) [] [(1,0)] (iG wV Tryz.prog 231 dr (cH (sKd W) v)):=by unfold Comes;kernel_rfl
theorem w_0(W:Nat)(v:Nat→Nat→Value):ck0 (cH (I3 W) v)=some (List.replicate (Qw (ck0 (cH (I3 W) v))) W):=by kernel_rfl
theorem aIS(W:Nat)(v:Nat→Nat→Value):Comes W (Ed W 1) [] [(7,0)] (iG wV Tryz.prog 231 (AZ (((1:Nat):Int)*KK) 0) (cH (I3 W) v)):=by unfold Comes;kernel_rfl
theorem aIR(W:Nat)(v:Nat→Nat→Value):Comes W (Ed W 2) [] [(7,0)] (iG wV Tryz.prog 231 (AZ (((2:Nat):Int)*KK) 0) (cH (I3 W) v)):=by unfold Comes;kernel_rfl
theorem aIQ(W:Nat)(v:Nat→Nat→Value):Comes W (Ed W 3) [] [(7,0)] (iG wV Tryz.prog 231 (AZ (((3:Nat):Int)*KK) 0) (cH (I3 W) v)):=by unfold Comes;kernel_rfl
theorem aIP(W:Nat)(v:Nat→Nat→Value):Comes W (Ed W 4) [] [(7,0)] (iG wV Tryz.prog 231 (AZ (((4:Nat):Int)*KK) 0) (cH (I3 W) v)):=by unfold Comes;kernel_rfl
theorem w_v(W:Nat)(v:Nat→Nat→Value)(h1:1≤n)(h4:n≤4):Comes W (Ed W n) [] [(7,0)] (iG wV Tryz.prog 231 (AZ ((n:Int)*KK) 0) (cH (I3 W) v)):=by
 obtain rfl|rfl|rfl|rfl:n=1∨n=2∨n=3∨n=4:=by omega
 ·exact aIS W v
 ·exact aIR W v
 ·exact aIQ W v
 exact aIP W v
theorem aIZ(W:Nat)(v:Nat→Nat→Value):ckH 1 (cH (Ed W 1) v)=some (List.replicate (Qw (ckH 1 (cH (Ed W 1) v))) W):=by kernel_rfl
theorem aIY(W:Nat)(v:Nat→Nat→Value):ckH 2 (cH (Ed W 2) v)=some (List.replicate (Qw (ckH 2 (cH (Ed W 2) v))) W):=by kernel_rfl
theorem aIX(W:Nat)(v:Nat→Nat→Value):ckH 3 (cH (Ed W 3) v)=some (List.replicate (Qw (ckH 3 (cH (Ed W 3) v))) W):=by kernel_rfl
theorem aIW(W:Nat)(v:Nat→Nat→Value):ckH 4 (cH (Ed W 4) v)=some (List.replicate (Qw (ckH 4 (cH (Ed W 4) v))) W):=by kernel_rfl
theorem w_h(W:Nat)(v:Nat→Nat→Value)(h1:1≤n)(h4:n≤4):∃k,ckH n (cH (Ed W n) v)=some (List.replicate k W):=by
 obtain rfl|rfl|rfl|rfl:n=1∨n=2∨n=3∨n=4:=by omega
 ·exact⟨_,aIZ W v⟩
 ·exact⟨_,aIY W v⟩
 ·exact⟨_,aIX W v⟩
 exact⟨_,aIW W v⟩
theorem axN(W:Nat)(v:Nat→Nat→Value):Comes W (I3 W) [] [(7,0)] (iG wV Tryz.prog 231 (AZ (((0:Nat):Int)*KK) 0) (cH (Ed W 1) v)):=by unfold Comes;kernel_rfl
theorem axM(W:Nat)(v:Nat→Nat→Value):Comes W (I3 W) [] [(7,0)] (iG wV Tryz.prog 231 (AZ (((0:Nat):Int)*KK) 0) (cH (Ed W 2) v)):=by unfold Comes;kernel_rfl
theorem axL(W:Nat)(v:Nat→Nat→Value):Comes W (I3 W) [] [(7,0)] (iG wV Tryz.prog 231 (AZ (((1:Nat):Int)*KK) 0) (cH (Ed W 2) v)):=by unfold Comes;kernel_rfl
theorem axK(W:Nat)(v:Nat→Nat→Value):Comes W (I3 W) [] [(7,0)] (iG wV Tryz.prog 231 (AZ (((0:Nat):Int)*KK) 0) (cH (Ed W 3) v)):=by unfold Comes;kernel_rfl
theorem axJ(W:Nat)(v:Nat→Nat→Value):Comes W (I3 W) [] [(7,0)] (iG wV Tryz.prog 231 (AZ (((1:Nat):Int)*KK) 0) (cH (Ed W 3) v)):=by unfold Comes;kernel_rfl
theorem axI(W:Nat)(v:Nat→Nat→Value):Comes W (I3 W) [] [(7,0)] (iG wV Tryz.prog 231 (AZ (((2:Nat):Int)*KK) 0) (cH (Ed W 3) v)):=by unfold Comes;kernel_rfl
theorem axH(W:Nat)(v:Nat→Nat→Value):Comes W (I3 W) [] [(7,0)] (iG wV Tryz.prog 231 (AZ (((0:Nat):Int)*KK) 0) (cH (Ed W 4) v)):=by unfold Comes;kernel_rfl
theorem axG(W:Nat)(v:Nat→Nat→Value):Comes W (I3 W) [] [(7,0)] (iG wV Tryz.prog 231 (AZ (((1:Nat):Int)*KK) 0) (cH (Ed W 4) v)):=by unfold Comes;kernel_rfl
theorem axF(W:Nat)(v:Nat→Nat→Value):Comes W (I3 W) [] [(7,0)] (iG wV Tryz.prog 231 (AZ (((2:Nat):Int)*KK) 0) (cH (Ed W 4) v)):=by unfold Comes;kernel_rfl
theorem axE(W:Nat)(v:Nat→Nat→Value):Comes W (I3 W) [] [(7,0)] (iG wV Tryz.prog 231 (AZ (((3:Nat):Int)*KK) 0) (cH (Ed W 4) v)):=by unfold Comes;kernel_rfl
theorem w_m(W:Nat)(v:Nat→Nat→Value){k:Nat}(h4:n≤4)(hk:k <n):Comes W (I3 W) [] [(7,0)] (iG wV Tryz.prog 231 (AZ ((k:Int)*KK) 0) (cH (Ed W n) v)):=by
 obtain rfl|rfl|rfl|rfl:n=1∨n=2∨n=3∨n=4:=by omega
 ·obtain rfl:k=0:=by omega
  exact axN W v
 ·obtain rfl|rfl:k=0∨k=1:=by omega
  ·exact axM W v
  exact axL W v
 ·obtain rfl|rfl|rfl:k=0∨k=1∨k=2:=by omega
  ·exact axK W v
  ·exact axJ W v
  exact axI W v
 obtain rfl|rfl|rfl|rfl:k=0∨k=1∨k=2∨k=3:=by omega
 ·exact axH W v
 ·exact axG W v
 ·exact axF W v
 exact axE W v
section
variable {ι:Type} {E:de ι} {Fin:Goroutine→Prop} {c:Frame} {cs:List Frame}
theorem q6{P:Program}{main:Bool}{Live:World→Prop}{S S':Goroutine→Prop}(h:∀g,S g→S' g):∀ {n:Nat} {g:Goroutine},Pure P main Live S n g→Pure P main Live S' n g
 |0,g,hp=>h g hp
 |n+1,g,⟨h1,g',h2,h3⟩=>⟨h1,g',h2,q6 h h3⟩
end
theorem ZD{Hb:Nat}{W:fy}{x:aO}(hH:ro Hb=some (.pending ⟨W.cells (zS)⟩ 105))(hD:1≤W.D∧W.D≤4):eR zT 197 [zP Hb,.agg ⟨[zI x.a,zI x.b,zI x.c,zI x.d]⟩] ro (.bool (aj9 x W.D W.S)):=by
 refine zE<|zD 2<|jn fun b3=>zD 12<|fX [1,1,0,1,0,0] [] (fun(zz:Nat×Nat)=>[(0,zP Hb),(3,zP b3),(5,zI (zz.2:Int)),(6,zI (zz.1:Int))]) (fun zz=>[.b b3 (.cells ⟨[zI x.a,zI x.b,zI x.c,zI x.d]⟩ 112 (0,0))]) (fun zz=>(1≤zz.1∧(zz.1:Int)≤W.D+1∧zz.2 <zz.1)∧aj9 x W.D W.S=Ak x W.D W.S zz.2 (List.range' zz.1 (W.D.toNat+1-zz.1))) (fun zz=>W.D.toNat+1-zz.1) (⟨1,0⟩) ⟨by omega,rfl⟩ [0] ?_
 rintro⟨k,f⟩ hI K1 cz rest
 dsimp only at hI
 refine zD 8<|jlh (b:=Hb) (off:=5) (l:=W.cells (zS)) hH (by decide) rfl<|zD 2<|zJ 13 ((k:Int)≤W.D) (fun h1=>?_) fun h1=>?_
 ·
  refine zD 12<|jlh (b:=Hb) (off:=5) (l:=W.cells (zS)) hH (by decide) rfl<|zD 2<|js 7 (decide ((k:Int) <W.D)) (fun h2=>?_) (fun h2=>?_)
  ·
   have w5:=h2
   replace w5:=of_decide_eq_true w5
   refine zD 1<|xa (b:=b3) (off:=0) (len:=4) (sz:=1) (k:Int) (by omega)<|uD (b:=b3) (off:=0+(k:Int).toNat*1) (m:=1) (vs:=[zI (x.at k)]) 0 [0] [(b3,.cells ⟨[zI x.a,zI x.b,zI x.c,zI x.d]⟩ 112 (0,0))] (fun s _ hZ=>fo (hZ _ (.head _)) (pN (by omega)))<|zD 1<|xa (b:=b3) (off:=0) (len:=4) (sz:=1) (f:Int) (by omega)<|uD (b:=b3) (off:=0+(f:Int).toNat*1) (m:=1) (vs:=[zI (x.at f)]) 0 [0] [(b3,.cells ⟨[zI x.a,zI x.b,zI x.c,zI x.d]⟩ 112 (0,0))] (fun s _ hZ=>fo (hZ _ (.head _)) (pN (by omega)))<|zD 3<|zJ 31 ((x.at k)=(x.at f)) (fun h3=>?_) fun h3=>?_
   ·
    refine zD 4<|zW ((k:Int)+1)<|zD 2<|zY cz (⟨k+1,f⟩) ⟨by omega,hI.2.trans (adu (by omega) (by omega))⟩ [0]
   refine zD 6<|xa (b:=b3) (off:=0) (len:=4) (sz:=1) (f:Int) (by omega)<|uD (b:=b3) (off:=0+(f:Int).toNat*1) (m:=1) (vs:=[zI (x.at f)]) 0 [0] [(b3,.cells ⟨[zI x.a,zI x.b,zI x.c,zI x.d]⟩ 112 (0,0))] (fun s _ hZ=>fo (hZ _ (.head _)) (pN (by omega)))<|zD 2<|jj 3 [(0,zP Hb),(3,zP b3),(5,zI (f:Int)),(6,zI (k:Int)),(39,.bool ((!decide ((x.at f)=(-1)))&&(decide ((f:Int)>0))))] (fun nK=>?_) (fun hj=>?_)
   rotate_left
   refine js 36 (!decide ((x.at f)=(-1))) (fun h4=>?_) (fun h4=>?_)
   ·
    have Jz:=h4
    replace Jz:=of_decide_eq_false (by simpa using Jz)
    refine zD 3<|jw 39 (.bool ((!decide ((x.at f)=(-1)))&&(decide ((f:Int)>0)))) (w:= .bool (decide ((f:Int)>0))) (by rw[h4]<;>rfl) ?_
    exact zK hj
   ·
    have Jz:=h4
    replace Jz:=of_decide_eq_true (by simpa using Jz)
    refine zD 3<|jw 39 (.bool ((!decide ((x.at f)=(-1)))&&(decide ((f:Int)>0)))) (w:= .bool false) (by rw[h4]<;>rfl) ?_
    exact zK hj
   refine zD 1<|jj 8 [(0,zP Hb),(3,zP b3),(5,zI (f:Int)),(6,zI (k:Int)),(48,.bool (((!decide ((x.at f)=(-1)))&&(decide ((f:Int)>0)))&&(decide ((k:Int) <W.D))))] (fun nK=>?_) (fun hj=>?_)
   rotate_left
   refine js 40 ((!decide ((x.at f)=(-1)))&&(decide ((f:Int)>0))) (fun h5=>?_) (fun h5=>?_)
   ·
    have Rn:=h5
    try simp only[zB] at Rn
    refine zD 5<|jlh (b:=Hb) (off:=5) (l:=W.cells (zS)) hH (by decide) rfl<|zD 2<|jw 48 (.bool (((!decide ((x.at f)=(-1)))&&(decide ((f:Int)>0)))&&(decide ((k:Int) <W.D)))) (w:= .bool (decide ((k:Int) <W.D))) (by rw[h5]<;>rfl) ?_
    exact zK hj
   ·
    have Rn:=h5
    try simp only[zB] at Rn
    refine zD 8<|jw 48 (.bool (((!decide ((x.at f)=(-1)))&&(decide ((f:Int)>0)))&&(decide ((k:Int) <W.D)))) (w:= .bool false) (by rw[h5]<;>rfl) ?_
    exact zK hj
   refine zD 1<|jj 10 [(0,zP Hb),(3,zP b3),(5,zI (f:Int)),(6,zI (k:Int)),(59,.bool ((((!decide ((x.at f)=(-1)))&&(decide ((f:Int)>0)))&&(decide ((k:Int) <W.D)))&&(decide (((k:Int)-(f:Int)) <W.S))))] (fun nK=>?_) (fun hj=>?_)
   rotate_left
   refine js 49 (((!decide ((x.at f)=(-1)))&&(decide ((f:Int)>0)))&&(decide ((k:Int) <W.D))) (fun h6=>?_) (fun h6=>?_)
   ·
    have BN:=h6
    try simp only[zB] at BN
    refine zD 2<|zW ((k:Int)-(f:Int))<|zD 4<|jlh (b:=Hb) (off:=6) (l:=W.cells (zS)) hH (by decide) rfl<|zD 2<|jw 59 (.bool ((((!decide ((x.at f)=(-1)))&&(decide ((f:Int)>0)))&&(decide ((k:Int) <W.D)))&&(decide (((k:Int)-(f:Int)) <W.S)))) (w:= .bool (decide (((k:Int)-(f:Int)) <W.S))) (by rw[h6]<;>rfl) ?_
    exact zK hj
   ·
    have BN:=h6
    try simp only[zB] at BN
    refine zD 10<|jw 59 (.bool ((((!decide ((x.at f)=(-1)))&&(decide ((f:Int)>0)))&&(decide ((k:Int) <W.D)))&&(decide (((k:Int)-(f:Int)) <W.S)))) (w:= .bool false) (by rw[h6]<;>rfl) ?_
    exact zK hj
   refine zD 1<|js 59 ((((!decide ((x.at f)=(-1)))&&(decide ((f:Int)>0)))&&(decide ((k:Int) <W.D)))&&(decide (((k:Int)-(f:Int)) <W.S))) (fun h7=>?_) (fun h7=>?_)
   ·
    try simp only[zB] at h7
    refine zD 6<|zX (.bool false) ⟨by rw[hI.2.trans (adw (by omega) (by omega) (by omega))],rfl⟩
   try simp only[zB] at h7
   refine zD 8<|zW ((k:Int)+1)<|zD 2<|zY cz (⟨k+1,k⟩) ⟨by omega,hI.2.trans (adx (by omega) (by omega) (by omega))⟩ [0]
  have w5:=h2
  replace w5:=of_decide_eq_false w5
  refine zD 15<|xa (b:=b3) (off:=0) (len:=4) (sz:=1) (f:Int) (by omega)<|uD (b:=b3) (off:=0+(f:Int).toNat*1) (m:=1) (vs:=[zI (x.at f)]) 0 [0] [(b3,.cells ⟨[zI x.a,zI x.b,zI x.c,zI x.d]⟩ 112 (0,0))] (fun s _ hZ=>fo (hZ _ (.head _)) (pN (by omega)))<|zD 2<|jj 3 [(0,zP Hb),(3,zP b3),(5,zI (f:Int)),(6,zI (k:Int)),(39,.bool ((!decide ((x.at f)=(-1)))&&(decide ((f:Int)>0))))] (fun nK=>?_) (fun hj=>?_)
  rotate_left
  refine js 36 (!decide ((x.at f)=(-1))) (fun h8=>?_) (fun h8=>?_)
  ·
   have h8g:=h8
   replace h8g:=of_decide_eq_false (by simpa using h8g)
   refine zD 3<|jw 39 (.bool ((!decide ((x.at f)=(-1)))&&(decide ((f:Int)>0)))) (w:= .bool (decide ((f:Int)>0))) (by rw[h8]<;>rfl) ?_
   exact zK hj
  ·
   have h8g:=h8
   replace h8g:=of_decide_eq_true (by simpa using h8g)
   refine zD 3<|jw 39 (.bool ((!decide ((x.at f)=(-1)))&&(decide ((f:Int)>0)))) (w:= .bool false) (by rw[h8]<;>rfl) ?_
   exact zK hj
  refine zD 1<|jj 8 [(0,zP Hb),(3,zP b3),(5,zI (f:Int)),(6,zI (k:Int)),(48,.bool (((!decide ((x.at f)=(-1)))&&(decide ((f:Int)>0)))&&(decide ((k:Int) <W.D))))] (fun nK=>?_) (fun hj=>?_)
  rotate_left
  refine js 40 ((!decide ((x.at f)=(-1)))&&(decide ((f:Int)>0))) (fun h9=>?_) (fun h9=>?_)
  ·
   have h9g:=h9
   try simp only[zB] at h9g
   refine zD 5<|jlh (b:=Hb) (off:=5) (l:=W.cells (zS)) hH (by decide) rfl<|zD 2<|jw 48 (.bool (((!decide ((x.at f)=(-1)))&&(decide ((f:Int)>0)))&&(decide ((k:Int) <W.D)))) (w:= .bool (decide ((k:Int) <W.D))) (by rw[h9]<;>rfl) ?_
   exact zK hj
  ·
   have h9g:=h9
   try simp only[zB] at h9g
   refine zD 8<|jw 48 (.bool (((!decide ((x.at f)=(-1)))&&(decide ((f:Int)>0)))&&(decide ((k:Int) <W.D)))) (w:= .bool false) (by rw[h9]<;>rfl) ?_
   exact zK hj
  refine zD 1<|jj 10 [(0,zP Hb),(3,zP b3),(5,zI (f:Int)),(6,zI (k:Int)),(59,.bool ((((!decide ((x.at f)=(-1)))&&(decide ((f:Int)>0)))&&(decide ((k:Int) <W.D)))&&(decide (((k:Int)-(f:Int)) <W.S))))] (fun nK=>?_) (fun hj=>?_)
  rotate_left
  refine js 49 (((!decide ((x.at f)=(-1)))&&(decide ((f:Int)>0)))&&(decide ((k:Int) <W.D))) (fun A7=>?_) (fun A7=>?_)
  ·
   have auP:=A7
   try simp only[zB] at auP
   refine zD 2<|zW ((k:Int)-(f:Int))<|zD 4<|jlh (b:=Hb) (off:=6) (l:=W.cells (zS)) hH (by decide) rfl<|zD 2<|jw 59 (.bool ((((!decide ((x.at f)=(-1)))&&(decide ((f:Int)>0)))&&(decide ((k:Int) <W.D)))&&(decide (((k:Int)-(f:Int)) <W.S)))) (w:= .bool (decide (((k:Int)-(f:Int)) <W.S))) (by rw[A7]<;>rfl) ?_
   exact zK hj
  ·
   have auP:=A7
   try simp only[zB] at auP
   refine zD 10<|jw 59 (.bool ((((!decide ((x.at f)=(-1)))&&(decide ((f:Int)>0)))&&(decide ((k:Int) <W.D)))&&(decide (((k:Int)-(f:Int)) <W.S)))) (w:= .bool false) (by rw[A7]<;>rfl) ?_
   exact zK hj
  refine zD 1<|js 59 ((((!decide ((x.at f)=(-1)))&&(decide ((f:Int)>0)))&&(decide ((k:Int) <W.D)))&&(decide (((k:Int)-(f:Int)) <W.S))) (fun zb=>?_) (fun zb=>?_)
  ·
   try simp only[zB] at zb
   refine zD 6<|zX (.bool false) ⟨by rw[hI.2.trans (adw (by omega) (by omega) (by omega))],rfl⟩
  try simp only[zB] at zb
  refine zD 8<|zW ((k:Int)+1)<|zD 2<|zY cz (⟨k+1,k⟩) ⟨by omega,hI.2.trans (adx (by omega) (by omega) (by omega))⟩ [0]
 refine zD 7<|zX (.bool true) ⟨by rw[hI.2,show W.D.toNat+1-k=0 by omega];rfl,rfl⟩
end Go.L
