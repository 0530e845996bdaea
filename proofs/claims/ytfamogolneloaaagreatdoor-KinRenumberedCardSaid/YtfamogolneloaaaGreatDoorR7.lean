/- Part 7 of the proof. -/
import Derived.Test.YtfamogolneloaaaGreatDoorR6
set_option maxRecDepth 100000
set_option linter.all false
namespace Go.L
open Go Go.Conc Go.Proofs
variable {hd:List cv} {rs:List cQ} {k i b many b1 b2 bC b3 bl bm bt br bg sz b4:Nat} {cs:List bO} {f t x:ByteArray} {l:List Value} {α β:Type} {xs ys:List ByteArray} {p:ByteArray×ByteArray} {fs:List cU} {vl vc vh vp c11 c0 c1 c5 c6 c7 vt:Value} {K:aI} {Stop:Cells→Prop} {r n af gone new lo hi:Int}
theorem aVA{vd:Value}{xs:List Int}{ro:Nat→Option Obj}(hl:bE ro vd 1 cA xs):eG zT 7 [vd] ro [] (fun r Y=>∃d,r= zP d∧bL vd xs d Y):=by
 obtain⟨fI,rV,rS,eZ,rfl,tR,lQ,mO⟩:=hl
 refine bD au [] [] ba<|zD 8<|jn fun b5=>zD 3<|aF q0 (zP b5) [] [0] [(b5,.cells ⟨[.slice fI xs.length eZ,zI 0,zU 11400714819323198485]⟩ 70 (0,0))] (Sub.refl _) ⟨_,_,rfl,rfl,_,rfl,0,_,Nat.zero_le _,rfl⟩
theorem dg.set{R:α→β→Prop}{l:List α}{m:List β}(h:dg R l m){a:α}{b:β}(hb:m[k]?=some b) (hr:R a b):dg R (l.set k a) m:=by
 induction h generalizing k with
 |nil=>simp at hb
 |cons h1 h2 ih=>
  cases k with
  |zero=>simp at hb;subst hb;exact .cons hr h2
  |succ k=>exact .cons h1 (ih (by simpa using hb))
theorem dg.mem{R:α→β→Prop}{l:List α}{m:List β}(h:dg R l m){a:α}(ha:a∈l):∃b∈m,R a b:=by
 obtain⟨i,hi⟩:=List.getElem?_of_mem ha
 obtain⟨b,hb,hr⟩:=h.get hi
 exact⟨b,List.mem_of_getElem? hb,hr⟩
theorem mV{ro:Nat→Option Obj}{hv:List bw}(h:dg (rK ro) hv hd):∀p∈hv,∀c∈mw p,single c=true:=fun p hp=>by
 obtain⟨y,_,h1⟩:=h.mem hp
 obtain⟨w,c,s,a⟩:=p
 obtain⟨_,_,_,_,e,_⟩:=h1.2.2.2
 dsimp only at e
 subst e
 exact aj rfl
theorem RE{ro:Nat→Option Obj}{hw:List bw}{Z L:Cells}{v:Value}{x x':bw}{y:cv}(h:∀aG,Sub ro aG→Knows aG Z→dg (rK aG) hw hd)(hS:dg dq hw hd)(hx:hw[k]?=some x) (lU:hw[k]?=some x') (hy:hd[k]?=some y) (ho:az v 1 3 cA y.ep L):
 (∀aG,Sub ro aG→Knows aG (L++Z)→dg (rK aG) (hw.set k ⟨x'.word,x'.cls,x'.oA,v⟩) hd)∧dg dq (hw.set k ⟨x'.word,x'.cls,x'.oA,v⟩) hd:=by
 rw[hx] at lU;cases lU
 obtain⟨y',h1,h2⟩:=hS.get hx
 rw[hy] at h1;cases h1
 exact⟨fun aG hs hk=>(h aG hs hk.right).set hy ⟨h2.1,h2.2.1,h2.2.2,ho.kZ hk.left⟩,hS.set hy h2⟩
theorem aa3{l m:List α}{a:α}(h:l.drop k=m.drop k):(l.set k a).drop (k+1)=m.drop (k+1):=by
 have h1:=congrArg (List.drop 1) h
 rw[List.drop_drop,List.drop_drop] at h1
 rw[List.drop_set_of_lt (by omega)]
 exact h1
theorem aiy{l m:List α}{a:α}(h:l.drop k=m.drop k)(ha:l[k]?=some a):m[k]?=some a:=by
 have h1:=congrArg (fun q=>q[0]?) h
 simp only[List.getElem?_drop,Nat.add_zero] at h1
 rw[←h1];exact ha
theorem uf{hv:List bw}{ro:Nat→Option Obj}(hT:YP cs hd)(hR:jC ro vc vh cs hv hd)(hS:dg dq hv hd):eG zT 48 [.agg ⟨[vc,vh]⟩] ro [] (fun r Y=>∃(hw:List bw) (ca ha:Option Addr) (cc hc:Nat) (Z:Cells),r= .agg ⟨[.slice ca cs.length cc,.slice ha hw.length hc]⟩∧dg dq hw hd∧(∀aG,Sub ro aG→Knows aG Z→jC aG (.slice ca cs.length cc) (.slice ha hw.length hc) cs hw hd)∧Y=Z):=by
 obtain⟨hc,hh,de⟩:=id hR
 obtain⟨eI,Ax,Aw,eB,rfl,Dy,yJ,yI⟩:=hc
 obtain⟨dO,u3,u2,dv,rfl,xg,qV,qU⟩:=hh
 have hlen:=hS.len
 have hnh:=hT.nh
 have DL:=hT.nc
 refine bD au [] [] ba<|zD 2<|jn fun b1=>jn fun b2=>zD 2<|Iu [1,1] [] (fun(zz:Value×Cells×Value×Cells)=>[(1,zP b1),(2,zP b2)]) (fun(zz:Value×Cells×Value×Cells)=>[.b b1 (.cells ⟨[zz.1,zz.2.2.1]⟩ 35 (0,0)),.l zz.2.1,.l zz.2.2.2,.b b2 (.cells ⟨[zS,zS]⟩ 35 (0,0))]) (fun(zz:Value×Cells×Value×Cells)=>az zz.1 2 140 pn cs zz.2.1∧az zz.2.2.1 4 143 mw hv zz.2.2.2) ?_ (fun K1 bK=>?_)
 ·
  rintro⟨vC,LC,vH,LH⟩ hJ rest
  dsimp only at hJ
  refine zD 6<|oH<|dW [1,1,0,1,0,0] [] (fun(zz:Nat×Value×Cells×(List bw)×Cells)=>[(1,zP b1),(2,zP b2),(3,zI (zz.1:Int))]) (fun(zz:Nat×Value×Cells×(List bw)×Cells)=>[.b b1 (.cells ⟨[vC,zz.2.1]⟩ 35 (0,0)),.l zz.2.2.1,.l zz.2.2.2.2,.l LC,.b b2 (.cells ⟨[zS,zS]⟩ 35 (0,0))]) (fun(zz:Nat×Value×Cells×(List bw)×Cells)=>(zz.1≤zz.2.2.2.1.length∧zz.2.2.2.1.length=hv.length∧zz.2.2.2.1.drop zz.1=hv.drop zz.1)∧az zz.2.1 4 143 mw zz.2.2.2.1 zz.2.2.1∧(∀aG,Sub ro aG→Knows aG zz.2.2.2.2→dg (rK aG) zz.2.2.2.1 hd)∧dg dq zz.2.2.2.1 hd) (fun(zz:Nat×Value×Cells×(List bw)×Cells)=>hv.length-zz.1) (⟨0,vH,LH,hv,[]⟩) ⟨⟨by omega,rfl,rfl⟩,hJ.2,fun _ hs _=>(hR.up hs).2.2,hS⟩ [1,3,0,2,4] ?_
  rintro⟨k,vH,LH,hw,Z⟩ hI K2 mr rest
  dsimp only at hI
  refine jd 6 [0]<|Co hI.2.1<|zD 2<|zJ 18 ((k:Int) <(hw.length:Int)) (fun h1=>?_) fun h1=>?_
  ·
   refine jd 11 [0,0] ?_
   obtain⟨x27,Jg⟩:=zG hw k
   refine T5 4 hI.2.1 Jg fun b27 aTD=>zD 1<|nS 3 [1] LH (fun s _ hZ=>cm hI.2.1 aTD hZ Jg)<|aL 9 (fun sB sJ q5=>?_)
   obtain⟨y27,atK,aRh⟩:=hR.2.2.get (aiy hI.1.2.2 Jg)
   have aZr:=(hT.AV _ _ atK).2.2.1.1
   refine jc (vs:=[x27.ep]) [] (afe aRh.2.2.2 (by omega)) ?_
   rintro v30 L30 ⟨_,wx,rfl⟩
   refine bB q5 [1,2,3,4,5] ?_
   obtain⟨x31,amA⟩:=zG hw k
   refine T5 4 hI.2.1 amA fun fT aTB=>zD 1<|aL 12 (fun sA sI qZ=>?_)
   obtain⟨va4,vc4,he4⟩:=wx.form
   subst he4
   refine Oo 2 3 [(.slice va4 (y27.ep).length vc4)] (⟨x31.word,x31.cls,x31.oA,(.slice va4 (y27.ep).length vc4)⟩:bw) hI.2.1 aTB amA rfl rfl (Nat.le_of_ble_eq_true rfl) fun L5 ho6=>iu qZ []<|zD 3<|ja ((k:Int)+1) (by omega)<|zD 2<|KR mr (⟨k+1,vH,L5,(hw.set k (⟨x31.word,x31.cls,x31.oA,(.slice va4 (y27.ep).length vc4)⟩:bw)),L30++Z⟩) ⟨⟨by rw[List.length_set];omega,by rw[List.length_set];exact hI.1.2.1,aa3 hI.1.2.2⟩,ho6,(RE hI.2.2.1 hI.2.2.2 Jg amA atK wx).1,(RE hI.2.2.1 hI.2.2.2 Jg amA atK wx).2⟩ (by omega) [[2],[0],[1,3],[4],[5]] (Sub.refl _)
  refine jd 5 [0] ?_
  obtain⟨SU,SO,Q3⟩:=hJ.1.form
  subst Q3
  obtain⟨va8,vc8,he8⟩:=hI.2.1.form
  subst he8
  refine jd 3 [4]<|aF q0 (.agg ⟨[(.slice SU (cs).length SO),(.slice va8 (hw).length vc8)]⟩) [4] [1,2,3] (LH++(Z++LC)) (Sub.refl _) ⟨_,_,rfl,rfl,hw,_,_,_,_,_,rfl,hI.2.2.2,fun aG hs hk=>⟨hJ.1.kZ hk.right.right,hI.2.1.kZ hk.left,hI.2.2.1 aG hs hk.right.left⟩,rfl⟩
 refine jd 5 [1,1]<|nj [0,4] ⟨fun z5 t6 Q9=>?_,fun z8 t9 wy=>?_,trivial⟩
 ·
  refine jn fun b4=>bB Q9 [1,2]<|nj [3,4] ⟨fun z11 t12 Nv=>?_,fun z14 t15 Rb=>?_,trivial⟩
  ·
   refine jq (sz:=2) (ps:=[]) (qs:=cs) (enc:=pn) (w:= .slice eI cs.length eB) [0] [] [] (bA (b:=b4) (T:=140)) (fun s he _=>⟨eI,Ax,Aw,eB,rfl,yJ,fun i p hp=>(yI i p hp).ext he⟩) (fun p _=>aj rfl) (by simp<;>omega) (fun v7 L7 iN=>?_)
   rw[List.nil_append] at iN
   obtain⟨SU,SO,Q3⟩:=iN.form
   subst Q3
   refine iu Nv [[2]]<|zD 1<|aL 4 fun aou aoQ Ho=>jn fun b8=>bB Ho [1,2,3]<|aL 7 fun ayB azz ahf=>jq (sz:=4) (ps:=[]) (qs:=hv) (enc:=mw) (w:= .slice dO hv.length dv) [0] [] [] (bA (b:=b8) (T:=143)) (fun s he _=>⟨dO,u3,u2,dv,rfl,qV,fun i p hp=>(qU i p hp).ext he⟩) (mV de) (by simp only[List.length_nil,Nat.zero_add];omega) (fun v11 L11 qz=>?_)
   rw[List.nil_append] at qz
   obtain⟨acw,acn,agI⟩:=qz.form
   subst agI
   refine iu ahf []<|aL 9 fun ayA azy ahe=>jd 1 [3]<|dZ ahe<|zD 1<|aL 11 fun ayz azx Nu=>jd 1 [3]<|dZ Nu<|zD 1<|bJ bK ⟨(.slice SU (cs).length SO),L7,(.slice acw (hv).length acn),L11⟩ ⟨iN,qz⟩ Nat.zero_lt_one [3,1,0,2] (Sub.refl _)
  refine jn fun b8=>bB Rb [1,2,3]<|aL 3 fun ayy azw aaJ=>jq (sz:=2) (ps:=[]) (qs:=cs) (enc:=pn) (w:= .slice eI cs.length eB) [1] [] [] (bA (b:=b4) (T:=140)) (fun s he _=>⟨eI,Ax,Aw,eB,rfl,yJ,fun i p hp=>(yI i p hp).ext he⟩) (fun p _=>aj rfl) (by simp<;>omega) (fun v7 L7 iN=>?_)
  rw[List.nil_append] at iN
  obtain⟨SU,SO,Q3⟩:=iN.form
  subst Q3
  refine iu aaJ [[3]]<|zD 1<|aL 7 fun ayx azv ahd=>jq (sz:=4) (ps:=[]) (qs:=hv) (enc:=mw) (w:= .slice dO hv.length dv) [1] [] [] (bA (b:=b8) (T:=143)) (fun s he _=>⟨dO,u3,u2,dv,rfl,qV,fun i p hp=>(qU i p hp).ext he⟩) (mV de) (by simp only[List.length_nil,Nat.zero_add];omega) (fun v11 L11 qz=>?_)
  rw[List.nil_append] at qz
  obtain⟨acw,acn,agI⟩:=qz.form
  subst agI
  refine iu ahd []<|aL 9 fun ayw azu UY=>jd 1 [3]<|dZ UY<|zD 1<|aL 11 fun aW5 aXC av2=>jd 1 [3]<|dZ av2<|zD 1<|bJ bK ⟨(.slice SU (cs).length SO),L7,(.slice acw (hv).length acn),L11⟩ ⟨iN,qz⟩ Nat.zero_lt_one [3,1,0,2] (Sub.refl _)
 refine jn fun b8=>bB wy [1,2]<|aL 0 fun ayv azt UX=>jn fun b4=>bB UX [1,2,3]<|aL 3 fun aot aoP Js=>jq (sz:=2) (ps:=[]) (qs:=cs) (enc:=pn) (w:= .slice eI cs.length eB) [0] [] [] (bA (b:=b4) (T:=140)) (fun s he _=>⟨eI,Ax,Aw,eB,rfl,yJ,fun i p hp=>(yI i p hp).ext he⟩) (fun p _=>aj rfl) (by simp<;>omega) (fun v7 L7 iN=>?_)
 rw[List.nil_append] at iN
 obtain⟨SU,SO,Q3⟩:=iN.form
 subst Q3
 refine iu Js [[3]]<|zD 1<|aL 7 fun VY V9 Nt=>jq (sz:=4) (ps:=[]) (qs:=hv) (enc:=mw) (w:= .slice dO hv.length dv) [1] [] [] (bA (b:=b8) (T:=143)) (fun s he _=>⟨dO,u3,u2,dv,rfl,qV,fun i p hp=>(qU i p hp).ext he⟩) (mV de) (by simp only[List.length_nil,Nat.zero_add];omega) (fun v11 L11 qz=>?_)
 rw[List.nil_append] at qz
 obtain⟨acw,acn,agI⟩:=qz.form
 subst agI
 refine iu Nt []<|aL 9 fun VX V8 Hn=>jd 1 [3]<|dZ Hn<|zD 1<|aL 11 fun OG O2 Hm=>jd 1 [3]<|dZ Hm<|zD 1<|bJ bK ⟨(.slice SU (cs).length SO),L7,(.slice acw (hv).length acn),L11⟩ ⟨iN,qz⟩ Nat.zero_lt_one [3,1,0,2] (Sub.refl _)
structure da where
 a:Int
 b:Int
 c:Int
 d:Int
 e:Int
 f:Int
abbrev m8(x:da):List Value:=[zI x.a,zI x.b,zI x.c,zI x.d,zI x.e,zI x.f]
def VS(K:aI)(l:List Value):Prop:=∃v0 v1 v3 v4 v5 v6 v7 vb fa fc,l=[v0,v1,.slice fa 0 fc,v3,v4,v5,v6,v7,zI K.gone,zI K.new,zI K.af,vb]∧∀v∈[v0,v1,v3,v4,v5,v6,v7,vb],single v=true
theorem VS.all(h:VS K l):∀v∈l,single v=true:=by
 obtain⟨v0,v1,v3,v4,v5,v6,v7,vb,fa,fc,rfl,h⟩:=h
 simp only[List.mem_cons,List.not_mem_nil,or_false] at h ⊢
 rintro v (rfl|rfl|rfl|rfl|rfl|rfl|rfl|rfl|rfl|rfl|rfl|rfl)<;>first|rfl|exact h _ (by simp)
theorem fo{v:Value}{T:TypeId}{enc:α→List Value}{ps:List α}{L:Cells}(h:az v sz T enc ps L):single v=true:=by
 obtain⟨a,c,rfl⟩:=h.form;rfl
theorem ko{v:Value}{enc:α→List Value}{ps:List α}{ro:Nat→Option Obj}(h:bE ro v sz enc ps):single v=true:=by
 obtain⟨a,b,o,c,rfl,_⟩:=h;rfl
theorem An{a b c d e f g h:Value}(h1:single a=true)(h2:single b=true)(h3:single c=true)(h4:single d=true)(h5:single e=true)(h6:single f=true)(h7:single g=true)(h8:single h=true):∀v∈[a,b,c,d,e,f,g,h],single v=true:=by
 simp only[List.mem_cons,List.not_mem_nil,or_false]
 rintro v (rfl|rfl|rfl|rfl|rfl|rfl|rfl|rfl)<;>assumption
theorem fP.L{ro:Nat→Option Obj}(h:fP ro l K):VS K l:=by
 obtain⟨v0,v1,v3,v4,v5,v6,v7,vb,fa,fc,hv,rfl,⟨_,h0,_⟩,⟨_,h1,_⟩,⟨h3,h4,_⟩,_,h5,h6,h7,hb⟩:=h
 exact⟨_,_,_,_,_,_,_,_,_,_,rfl,An (ko h0) (ko h1) (ko h3) (ko h4) (ko h5) (ko h6) (ko h7) (ko hb)⟩
theorem oG{P:Prop}{p:α}(h:([]:List α)[i]?=some p):P:=by simp at h
theorem eX{l:List α}{a:α}(h:l[i]?=some a):l.take (i+1)=l.take i++[a]:=by
 rw[List.take_succ,h];rfl
theorem qe{R:α→β→Prop}{ws:List α}{ls:List β}{w:α}{l:β}(h:dg R ws (ls.take i))(hl:ls[i]?=some l) (hr:R w l):dg R (ws++[w]) (ls.take (i+1)):=by
 rw[eX hl];exact h.snoc hr
def hqw:ByteArray:=bs [72,81,87]
def kindOf(r:Int):Int:=if 97≤r∧r≤122 then 1 else if (65≤r∧r≤90)∧Qt hqw (UInt8.ofNat (IntKind.u8.wrap r).toNat) <0 then 2 else 0
theorem aHp:EF zT 308 Extern.BytealgIndexByte.indexByte:=⟨Tryz.f308,Tryz.func308,by kernel_rfl,by kernel_rfl,by kernel_rfl,by kernel_rfl⟩
theorem aaf{a:ByteArray}{b:Int}{ro:Nat→Option Obj}:dt zT 300 [.string a,.int .u8 b] ro (zI (Qt a (b).toNat.toUInt8)):=by
 refine bD au [] [] ba<|zD 8<|jib (a:=a) (b:=b) aHp<|zD 3<|aF q0 (zI (Qt a (b).toNat.toUInt8)) [] [] [] (Sub.refl _) ⟨_,_,rfl,rfl,rfl,rfl⟩
theorem aag{a:ByteArray}{b:Int}{ro:Nat→Option Obj}:dt zT 283 [.string a,.int .u8 b] ro (zI (Qt a (b).toNat.toUInt8)):=by
 refine bD au [] [] ba<|zD 8<|jp (vs:=[.string a,.int .u8 b]) [] [] (fun aC hs hZ=>aaf)<|zD 3<|aF q0 (zI (Qt a (b).toNat.toUInt8)) [] [] [] (Sub.refl _) ⟨_,_,rfl,rfl,rfl,rfl⟩
theorem atF{a:ByteArray}{ro:Nat→Option Obj}(hr:0≤r∧r <128):dt zT 259 [.string a,.int .i32 r] ro (zI (Qt a (IntKind.u8.wrap r).toNat.toUInt8)):=by
 refine bD au [] [] ba<|zD 10<|jj 3 [(0,.string a),(1,.int .i32 r),(4,zI 0),(166,.bool ((decide (0≤r))&&(decide (r <128))))] (fun gV=>?_) (fun hj=>?_)
 rotate_left
 refine js 163 (decide (0≤r)) (fun h1=>?_) (fun h1=>?_)
 ·
  have gv:=h1
  replace gv:=of_decide_eq_true gv
  refine zD 3<|jw 166 (.bool ((decide (0≤r))&&(decide (r <128)))) (w:= .bool (decide (r <128))) (by rw[h1]<;>rfl) ?_
  exact hj _ (by kernel_rfl) (by kernel_rfl)
 ·
  have gv:=h1
  replace gv:=of_decide_eq_false gv
  refine zD 3<|jw 166 (.bool ((decide (0≤r))&&(decide (r <128)))) (w:= .bool false) (by rw[h1]<;>rfl) ?_
  exact hj _ (by kernel_rfl) (by kernel_rfl)
 refine zD 2<|js 160 ((decide (0≤r))&&(decide (r <128))) (fun h2=>?_) (fun h2=>?_)
 ·
  try simp only[zB] at h2
  refine zD 6<|jp (vs:=[.string a,.int .u8 (IntKind.u8.wrap r)]) [] [] (fun aC hs hZ=>aag)<|zD 3<|aF q0 (zI (Qt a ((IntKind.u8.wrap r)).toNat.toUInt8)) [] [] [] (Sub.refl _) ⟨_,_,rfl,rfl,rfl,rfl⟩
 try simp only[zB] at h2
 exfalso;omega
theorem am6{a:ByteArray}{ro:Nat→Option Obj}(hr:0≤r∧r <128):dt zT 239 [.string a,.int .i32 r] ro (.bool (decide (Qt a (IntKind.u8.wrap r).toNat.toUInt8≥0))):=by
 refine bD au [] [] ba<|zD 8<|jp (vs:=[.string a,.int .i32 r]) [] [] (fun aC hs hZ=>atF (by omega))<|zD 4<|aF q0 (.bool (decide ((Qt a (IntKind.u8.wrap r).toNat.toUInt8)≥0))) [] [] [] (Sub.refl _) ⟨_,_,rfl,rfl,rfl,rfl⟩
theorem aph{ro:Nat→Option Obj}:dt zT 218 [.int .i32 r] ro (zI (kindOf r)):=by
 refine bD au [] [] ba<|zD 11<|jj 3 [(0,.int .i32 r),(2,zI 0),(9,.bool ((decide (r≥97))&&(decide (r≤122))))] (fun gV=>?_) (fun hj=>?_)
 rotate_left
 refine js 6 (decide (r≥97)) (fun h1=>?_) (fun h1=>?_)
 ·
  have gv:=h1
  replace gv:=of_decide_eq_true gv
  refine zD 3<|jw 9 (.bool ((decide (r≥97))&&(decide (r≤122)))) (w:= .bool (decide (r≤122))) (by rw[h1]<;>rfl) ?_
  exact hj _ (by kernel_rfl) (by kernel_rfl)
 ·
  have gv:=h1
  replace gv:=of_decide_eq_false gv
  refine zD 3<|jw 9 (.bool ((decide (r≥97))&&(decide (r≤122)))) (w:= .bool false) (by rw[h1]<;>rfl) ?_
  exact hj _ (by kernel_rfl) (by kernel_rfl)
 refine zD 2<|js 3 ((decide (r≥97))&&(decide (r≤122))) (fun h2=>?_) (fun h2=>?_)
 ·
  try simp only[zB] at h2
  refine zD 6<|aF q0 (zI 1) [] [] [] (Sub.refl _) ⟨_,_,rfl,rfl,by simp only[kindOf,hqw];congr 1;(try simp at*);(repeat' split)<;>omega,rfl⟩
 try simp only[zB] at h2
 refine zD 6<|jj 3 [(0,.int .i32 r),(2,zI 0),(16,.bool ((decide (r≥65))&&(decide (r≤90))))] (fun gV=>?_) (fun hj=>?_)
 rotate_left
 refine js 13 (decide (r≥65)) (fun h3=>?_) (fun h3=>?_)
 ·
  have wz:=h3
  replace wz:=of_decide_eq_true wz
  refine zD 3<|jw 16 (.bool ((decide (r≥65))&&(decide (r≤90)))) (w:= .bool (decide (r≤90))) (by rw[h3]<;>rfl) ?_
  exact hj _ (by kernel_rfl) (by kernel_rfl)
 ·
  have wz:=h3
  replace wz:=of_decide_eq_false wz
  refine zD 3<|jw 16 (.bool ((decide (r≥65))&&(decide (r≤90)))) (w:= .bool false) (by rw[h3]<;>rfl) ?_
  exact hj _ (by kernel_rfl) (by kernel_rfl)
 refine zD 1<|jj 4 [(2,zI 0),(21,.bool (((decide (r≥65))&&(decide (r≤90)))&&(!(decide (Qt (bs [72,81,87]) (IntKind.u8.wrap r).toNat.toUInt8≥0)))))] (fun gV=>?_) (fun hj=>?_)
 rotate_left
 refine js 17 ((decide (r≥65))&&(decide (r≤90))) (fun h4=>?_) (fun h4=>?_)
 ·
  have ye:=h4
  try simp only[zB] at ye
  refine zD 1<|jp (vs:=[.string (bs [72,81,87]),.int .i32 r]) [] [] (fun aC hs hZ=>am6 (by omega))<|zD 2<|jw 21 (.bool (((decide (r≥65))&&(decide (r≤90)))&&(!(decide (Qt (bs [72,81,87]) (IntKind.u8.wrap r).toNat.toUInt8≥0))))) (w:= .bool (!(decide (Qt (bs [72,81,87]) (IntKind.u8.wrap r).toNat.toUInt8≥0)))) (by rw[h4]<;>rfl) ?_
  exact hj _ (by kernel_rfl) (by kernel_rfl)
 ·
  have ye:=h4
  try simp only[zB] at ye
  refine zD 4<|jw 21 (.bool (((decide (r≥65))&&(decide (r≤90)))&&(!(decide (Qt (bs [72,81,87]) (IntKind.u8.wrap r).toNat.toUInt8≥0))))) (w:= .bool false) (by rw[h4]<;>rfl) ?_
  exact hj _ (by kernel_rfl) (by kernel_rfl)
 refine zD 2<|js 10 (((decide (r≥65))&&(decide (r≤90)))&&(!(decide (Qt (bs [72,81,87]) (IntKind.u8.wrap r).toNat.toUInt8≥0)))) (fun h5=>?_) (fun h5=>?_)
 ·
  try simp only[zB] at h5
  refine zD 6<|aF q0 (zI 2) [] [] [] (Sub.refl _) ⟨_,_,rfl,rfl,by simp only[kindOf,hqw];congr 1;(try simp at*);(repeat' split)<;>omega,rfl⟩
 try simp only[zB] at h5
 refine zD 7<|aF q0 (zI 0) [] [] [] (Sub.refl _) ⟨_,_,rfl,rfl,by simp only[kindOf,hqw];congr 1;(try simp at*);(repeat' split)<;>omega,rfl⟩
theorem aeS:((List.range 256).all fun n=> !GJ (UInt8.ofNat n)||decide (kindOf (n:Int)=1))=true:=by kernel_rfl
theorem aeR:((List.range 256).all fun n=> !Gn (UInt8.ofNat n)||decide (kindOf (n:Int)=2))=true:=by kernel_rfl
def YS(w:ByteArray)(k:Int):Prop:=∀b∈w.data.toList,b.toNat <128∧kindOf (b.toNat:Int)=k
theorem Pp{w:ByteArray}(h:Script w):∃k:Int,(k=1∨k=2)∧YS w k:=by
 have hb:∀b:UInt8,UInt8.ofNat b.toNat=b:=fun b=>by simp
 rcases h with h|h
 ·refine⟨1,.inl rfl,fun b mH=>?_⟩
  have h1:=h b mH
  have h2:=List.all_eq_true.1 aeS b.toNat (List.mem_range.2 b.toNat_lt)
  rw[hb,h1] at h2
  simp only[GJ,Bool.and_eq_true,Nat.ble_eq] at h1
  exact⟨by omega,by simpa using h2⟩
 refine⟨2,.inr rfl,fun b mH=>?_⟩
 have h1:=h b mH
 have h2:=List.all_eq_true.1 aeR b.toNat (List.mem_range.2 b.toNat_lt)
 rw[hb,h1] at h2
 simp only[Gn,Bool.and_eq_true,Nat.ble_eq] at h1
 exact⟨by omega,by simpa using h2⟩
theorem alG{w:ByteArray}{k:Int}{ro:Nat→Option Obj}(hs:1≤w.size∧w.size≤6)(hk:k=1∨k=2)(hK:YS w k):dt zT 185 [.string w] ro (zI 0):=by
 refine bD au [] [] ba<|zD 11<|zJ 9 ((w.size:Int)=0) (fun h1=>?_) fun h1=>?_
 ·
  exfalso;omega
 refine zD 9<|zJ 12 ((w.size:Int)>6) (fun h2=>?_) fun h2=>?_
 ·
  exfalso;omega
 refine zD 10<|jn fun r14=>zD 2<|dW [1,1,1,1,0,1,0,0] [] (fun(zz:Nat×Int)=>[(3,zI zz.2),(14,zP r14)]) (fun(zz:Nat×Int)=>[.b r14 (.stringIter w zz.1)]) (fun(zz:Nat×Int)=>zz.1≤w.data.toList.length∧(zz.2=0∨zz.2=k)) (fun(zz:Nat×Int)=>w.data.toList.length-zz.1) (⟨0,0⟩) ⟨by omega,.inl rfl⟩ [0] ?_
 rintro⟨p,sc⟩ hI K1 bK rest
 dsimp only at hI
 refine zD 2 ?_
 cases QK:w.data.toList[p]? with
 |some Ae=>
  refine jnA r14 0 QK (hK _ (List.mem_of_getElem? QK)).1<|zD 7 ?_
  have XP:=(hK _ (List.mem_of_getElem? QK)).2
  refine zD 7<|jp (vs:=[.int .i32 (Ae.toNat:Int)]) [] [] (fun aC hs hZ=>aph)<|zD 8<|zJ 21 (sc=0) (fun h3=>?_) fun h3=>?_
  ·
   refine zD 10<|jj 4 [(3,zI (kindOf (Ae.toNat:Int))),(14,zP r14),(29,.bool ((decide ((kindOf (Ae.toNat:Int))=0))||(!decide ((kindOf (Ae.toNat:Int))=(kindOf (Ae.toNat:Int))))))] (fun gV=>?_) (fun hj=>?_)
   rotate_left
   refine js 25 (decide ((kindOf (Ae.toNat:Int))=0)) (fun h4=>?_) (fun h4=>?_)
   ·
    have ye:=h4
    replace ye:=of_decide_eq_true ye
    refine zD 4<|jw 29 (.bool ((decide ((kindOf (Ae.toNat:Int))=0))||(!decide ((kindOf (Ae.toNat:Int))=(kindOf (Ae.toNat:Int)))))) (w:= .bool true) (by rw[h4]<;>rfl) ?_
    exact hj _ (by kernel_rfl) (by kernel_rfl)
   ·
    have ye:=h4
    replace ye:=of_decide_eq_false ye
    refine zD 4<|jw 29 (.bool ((decide ((kindOf (Ae.toNat:Int))=0))||(!decide ((kindOf (Ae.toNat:Int))=(kindOf (Ae.toNat:Int)))))) (w:= .bool (!decide ((kindOf (Ae.toNat:Int))=(kindOf (Ae.toNat:Int))))) (by rw[h4]<;>rfl) ?_
    exact hj _ (by kernel_rfl) (by kernel_rfl)
   refine zD 1<|js 29 ((decide ((kindOf (Ae.toNat:Int))=0))||(!decide ((kindOf (Ae.toNat:Int))=(kindOf (Ae.toNat:Int))))) (fun h5=>?_) (fun h5=>?_)
   ·
    try simp only[zB] at h5
    exfalso;omega
   try simp only[zB] at h5
   refine zD 2<|bJ bK (⟨p+1,(kindOf (Ae.toNat:Int))⟩) ⟨by have:=(List.getElem?_eq_some_iff.1 QK).1;dsimp only;omega,by dsimp only;omega⟩ (by have:=(List.getElem?_eq_some_iff.1 QK).1;dsimp only;omega) [0] (Sub.refl _)
  refine zD 7<|jj 4 [(3,zI sc),(14,zP r14),(29,.bool ((decide ((kindOf (Ae.toNat:Int))=0))||(!decide ((kindOf (Ae.toNat:Int))=sc))))] (fun gV=>?_) (fun hj=>?_)
  rotate_left
  refine js 25 (decide ((kindOf (Ae.toNat:Int))=0)) (fun h6=>?_) (fun h6=>?_)
  ·
   have h6g:=h6
   replace h6g:=of_decide_eq_true h6g
   refine zD 4<|jw 29 (.bool ((decide ((kindOf (Ae.toNat:Int))=0))||(!decide ((kindOf (Ae.toNat:Int))=sc)))) (w:= .bool true) (by rw[h6]<;>rfl) ?_
   exact hj _ (by kernel_rfl) (by kernel_rfl)
  ·
   have h6g:=h6
   replace h6g:=of_decide_eq_false h6g
   refine zD 4<|jw 29 (.bool ((decide ((kindOf (Ae.toNat:Int))=0))||(!decide ((kindOf (Ae.toNat:Int))=sc)))) (w:= .bool (!decide ((kindOf (Ae.toNat:Int))=sc))) (by rw[h6]<;>rfl) ?_
   exact hj _ (by kernel_rfl) (by kernel_rfl)
  refine zD 1<|js 29 ((decide ((kindOf (Ae.toNat:Int))=0))||(!decide ((kindOf (Ae.toNat:Int))=sc))) (fun h7=>?_) (fun h7=>?_)
  ·
   try simp only[zB] at h7
   exfalso;omega
  try simp only[zB] at h7
  refine zD 2<|bJ bK (⟨p+1,sc⟩) ⟨by have:=(List.getElem?_eq_some_iff.1 QK).1;dsimp only;omega,by dsimp only;omega⟩ (by have:=(List.getElem?_eq_some_iff.1 QK).1;dsimp only;omega) [0] (Sub.refl _)
 |none=>
  refine jnZ r14 0 QK<|zD 10<|aF q0 (zI 0) [] [] [] (Sub.refl _) ⟨_,_,rfl,rfl,rfl,rfl⟩
def mL:=(ny Tryz.typeInfo3 Tryz.underlying3 rfl rfl rfl rfl rfl rfl:TF zT 3 _ 1 8 _ false)
theorem aim(a b c d:Int)(dep:Nat):EqD zT (dep+2) 73 (.agg ⟨[zI a,zI b]⟩) (.agg ⟨[zI c,zI d]⟩) (a==c&&(b==d&&true)):=
 ux (ny Tryz.typeInfo73 Tryz.underlying73 rfl rfl rfl rfl rfl rfl) Tryz.stoodInHeld73 (.cons (by decide) (ku mL rfl) (ku mL rfl) (oh mL _ _) (.cons (by decide) (ku mL rfl) (ku mL rfl) (oh mL _ _) .nil))
theorem wJ(a b c d:Int):EqV zT 73 (.agg ⟨[zI a,zI b]⟩) (.agg ⟨[zI c,zI d]⟩) (a==c&&(b==d&&true)):=NL (aim a b c d _)
theorem awx(a b c d e f:Int):EqV zT 164 (.agg ⟨[zI a,zI b,zI c]⟩) (.agg ⟨[zI d,zI e,zI f]⟩) (a==d&&(b==e&&(c==f&&true)&&true)):=
 NL (ux (ny Tryz.typeInfo164 Tryz.underlying164 rfl rfl rfl rfl rfl rfl) Tryz.stoodInHeld164 (.cons (by decide) (ku mL rfl) (ku mL rfl) (oh mL _ _) (.cons (by decide) (Gj (ny Tryz.typeInfo73 Tryz.underlying73 rfl rfl rfl rfl rfl rfl) rfl) (Gj (ny Tryz.typeInfo73 Tryz.underlying73 rfl rfl rfl rfl rfl rfl) rfl) (aim _ _ _ _ _) .nil)))
theorem Gu:ov zT 73:=Tryz.eqGuardType73
theorem aBl:ov zT 164:=Tryz.eqGuardType164
def B3(n l:Int)(y:ah):Bool:=n==y.n&&(l==y.l&&true)
theorem TP{w:ByteArray}{ro:Nat→Option Obj}(hs:1≤w.size∧w.size≤6)(h:Script w):dt zT 185 [.string w] ro (zI 0):=by
 obtain⟨k,h1,h2⟩:=Pp h
 exact alG hs h1 h2
theorem AN{ro:Nat→Option Obj}:dt zT 87 [zI 0] ro (.tuple ⟨[]⟩):=by
 refine bD au [] [] ba<|zD 7<|aF q0 (.tuple ⟨[]⟩) [] [] [] (Sub.refl _) ⟨_,_,rfl,rfl,rfl,rfl⟩
theorem Xq{x:ay}{ro:Nat→Option Obj}:dt zT 86 [.agg ⟨[.string x.name,zI x.st,zI x.no,zI x.head,.bool x.bold]⟩] ro (.agg ⟨[zI x.st,zI x.no,zI 0]⟩):=by
 refine bD au [] [] ba<|zD 2<|jn fun b1=>jn fun b2=>jd 12 [1,1,0]<|aF q0 (.agg ⟨[zI x.st,zI x.no,zI 0]⟩) [0] [] [] (Sub.refl _) ⟨_,_,rfl,rfl,rfl,rfl⟩
theorem ae8{v:Value}{ps:List ah}{l:Int}{ro:Nat→Option Obj}(hp:bE ro v 2 cI ps)(hn:ps.length≤1000):dt zT 219 [v,.agg ⟨[zI n,zI l]⟩] ro (zI (bN (B3 n l) ps 0)):=by
 obtain⟨Sn,qpb,qpo,Ka,rfl,qpk,ZH,ZG⟩:=hp
 refine bD au [] [] ba<|zD 2<|jn fun b3=>zD 10<|dW [1,0,1,0,0] [] (fun(zz:Nat)=>[(0,.slice Sn ps.length Ka),(3,zP b3),(7,zI (ps.length:Int)),(8,zI (zz:Int))]) (fun(zz:Nat)=>[.b b3 (.cells ⟨[zI n,zI l]⟩ 73 (0,0))]) (fun(zz:Nat)=>zz≤ps.length∧bN (B3 n l) ps 0=bN (B3 n l) (ps.drop zz) zz) (fun(zz:Nat)=>ps.length-zz) 0 ⟨by omega,rfl⟩ [0] ?_
 rintro k hI K1 bK rest
 refine zD 5<|zJ 9 ((k:Int) <(ps.length:Int)) (fun h1=>?_) fun h1=>?_
 ·
  refine jd 14 [0] ?_
  obtain⟨eA,dE⟩:=zG ps k
  refine iA Ka 2 ZH dE<|jl 0 (ZG _ _ dE)<|jeq Gu (wJ n l eA.n eA.l)<|zD 1<|js 16 (n==eA.n&&(l==eA.l&&true)) (fun h2=>?_) (fun h2=>?_)
  ·
   refine zD 7<|aF q0 (zI (k:Int)) [] [] [] (Sub.refl _) ⟨_,_,rfl,rfl,by rw[hI.2,gI dE,show B3 n l eA=true from (by assumption)];rfl,rfl⟩
  refine zD 3<|ja ((k:Int)+1) (by omega)<|zD 2<|bJ bK (k+1) ⟨by omega,by rw[hI.2,gI dE,show B3 n l eA=false from (by assumption)];rfl⟩ (by omega) [0] (Sub.refl _)
 refine zD 7<|aF q0 (zI (-1)) [] [] [] (Sub.refl _) ⟨_,_,rfl,rfl,by rw[hI.2,mZ (by omega)],rfl⟩
theorem KN{v:Value}{ps:List ah}{l:Int}{ro:Nat→Option Obj}(hp:bE ro v 2 cI ps)(hn:ps.length≤1000):dt zT 186 [v,.agg ⟨[zI n,zI l]⟩] ro (.bool (decide (bN (B3 n l) ps 0≥0))):=by
 obtain⟨Sn,qpb,qpo,Ka,rfl,qpk,ZH,ZG⟩:=hp
 refine bD au [] [] ba<|zD 2<|jn fun b3=>jd 6 [0]<|jp (vs:=[.slice Sn ps.length Ka,.agg ⟨[zI n,zI l]⟩]) [] [] (fun aC hs hZ=>ae8 ((show bE _ _ _ _ _ from ⟨Sn,qpb,qpo,Ka,rfl,qpk,ZH,ZG⟩).up hs) (by first|omega| (simp only[List.length_set,List.length_append,List.length_cons,List.length_nil];omega))) ?_
 refine zD 4<|aF q0 (.bool (decide ((bN (B3 n l) ps 0)≥0))) [] [] [] (Sub.refl _) ⟨_,_,rfl,rfl,rfl,rfl⟩
theorem XW{i:Int}(h:n7 hd i): -1≤i∧i <hd.length:=by
 rcases h with h| ⟨h0,x,h1,_⟩
 ·omega
 have:=(List.getElem?_eq_some_iff.1 h1).1
 omega
theorem Q1{hv:List bw}{i:Int}{x:bw}(h:dg dq hv hd)(hi:n7 hd i)(h0:i≥0)(hx:hv[i.toNat]?=some x):0≤x.cls:=by
 rcases hi with hi| ⟨_,y,h1,h2⟩
 ·omega
 obtain⟨z,h3,h4⟩:=h.get hx
 rw[h1] at h3;cases h3
 rw[h4.2.1];exact h2
theorem Ki{S:List (List ah)}{x:ay}{l:List ah}(h:aoc S hd x)(hl:S[x.st.toNat]?=some l):bN (B3 x.no 0) l 0≥0:=by
 obtain⟨l',h1,h2⟩:=h.2
 rw[h1] at hl;cases hl
 have key:∀(l:List ah) (k:Nat),(⟨x.no,0⟩:ah)∈l→bN (B3 x.no 0) l k≥0:=by
  intro l
  induction l with
  |nil=>intro k h;cases h
  |cons y l ih=>
   intro k h
   simp only[bN]
   cases hx:B3 x.no 0 y with
   |true=>simp
   |false=>
    simp only[cond_false]
    rcases List.mem_cons.1 h with rfl|h
    ·simp[B3] at hx
    exact ih _ h
 exact key _ 0 h2
theorem ae2{x:ay}{ro:Nat→Option Obj}(hK:fP ro l K)(hO:kV K)(hx:aoc K.str K.hd x):dt zT 156 [.agg ⟨l⟩,.agg ⟨[.string x.name,zI x.st,zI x.no,zI x.head,.bool x.bold]⟩,.bool true] ro (zI 0):=by
 obtain⟨vS,vT,vc,vh,vr,vb,va,vf,fa,fc,hv,rfl,hS,hT,p9,nC,hr,hb,ha,hf⟩:=hK
 obtain⟨iC,hs,fC⟩:=id hS
 obtain⟨iX,ht,fw⟩:=id hT
 obtain⟨hc,hh,DR⟩:=id p9
 obtain⟨mD,Tx,Tv,lD,rfl,Tw,Mz,My⟩:=hs
 obtain⟨fg,Av,As,eo,rfl,Au,su,sr⟩:=ht
 obtain⟨eI,Ax,Aw,eB,rfl,Dy,yJ,yI⟩:=hc
 obtain⟨dO,u3,u2,dv,rfl,xg,qV,qU⟩:=hh
 obtain⟨k8,Is,Ir,k7,rfl,Ol,F8,F7⟩:=hr
 obtain⟨lg,ME,MC,k9,rfl,MD,Kc,Kb⟩:=hb
 obtain⟨kD,I5,I0,j7,rfl,I1,Gb,Ga⟩:=ha
 obtain⟨iT,xY,xX,gN,rfl,Dx,sU,sS⟩:=hf
 have Cw:=hO.rules
 have qS:=hO.before.1
 have Oy:=hO.after.1
 have Ox:=hO.facts.1
 have Ow:=hO.ways.1
 have Iz:=fC.len
 have EE:=fw.len
 have XO:=hO.pN.two
 have hl9:=hO.dr.nh
 have Ok:∀(i:Nat) (p:da),([]:List da)[i]?=some p→cB ⟨ro,[]⟩ 0 (0+i*6) 6 (m8 p):=fun _ _ h=>oG h
 have hNm:=hx.1.1
 have hNs:=hNm.1
 have hHd:=hx.1.2.1
 have hHl:=XW hHd
 have hSt:=hx.1.2.2.1
 have hBd:=hx.1.2.2.2
 have hlen:=nC.len
 refine bD au [] [] ba<|zD 2<|jn fun b3=>jn fun b4=>jd 7 [0]<|jp (vs:=[.string x.name]) [] [] (fun aC hs hZ=>(TP (by omega) hNm.2))<|jd 27 [1,0,1]<|ja ((hv.length:Int)-1) (by omega)<|jp (vs:=[zI x.head,zI (-1),zI ((hv.length:Int)-1)]) [] [] (fun aC hs hZ=>eN)<|zD 3<|js 19 (!(iz x.head (-1) ((hv.length:Int)-1))) (fun h1=>?_) (fun h1=>?_)
 ·
  try simp only[zB] at h1
  exfalso;simp only[iz,Bool.and_eq_false_iff,decide_eq_false_iff_not] at h1;omega
 try simp only[zB] at h1
 refine jd 7 [0]<|js 33 (decide (x.head≥0)) (fun h2=>?_) (fun h2=>?_)
 ·
  have mI:=h2
  replace mI:=of_decide_eq_true mI
  refine jd 5 [1,0] ?_
  obtain⟨EZ,xQ⟩:=zG hv (x.head.toNat)
  refine Oq x.head dv 4 qV xQ (by omega)<|zD 1<|jl 1 (qU _ _ xQ)<|zD 4<|zJ 29 (EZ.cls=(-1)) (fun h3=>?_) fun h3=>?_
  ·
   exfalso;have:=Q1 nC hHd (by omega) xQ;omega
  refine jd 8 [0]<|ja ((iC.length:Int)-1) (by omega)<|jp (vs:=[zI x.st,zI 0,zI ((iC.length:Int)-1)]) [] [] (fun aC hs hZ=>eN)<|zD 3<|js 44 (!(iz x.st 0 ((iC.length:Int)-1))) (fun h4=>?_) (fun h4=>?_)
  ·
   try simp only[zB] at h4
   exfalso;simp only[iz,Bool.and_eq_false_iff,decide_eq_false_iff_not] at h4;omega
  try simp only[zB] at h4
  refine jd 7 [0] ?_
  obtain⟨x57,Ex⟩:=zG iC (x.st.toNat)
  refine Oq x.st lD 1 Mz Ex (by omega) ?_
  obtain⟨l58,agm,h58⟩:=fC.get Ex
  obtain aRV:=hO.pN.len _ (List.mem_of_getElem? agm)
  obtain⟨adB,asj,asf,adA,rfl,ash,asi,asg⟩:=h58
  refine jl 0 (My _ _ Ex)<|jd 1 [0]<|jp (vs:=[.agg ⟨[.string x.name,zI x.st,zI x.no,zI x.head,.bool x.bold]⟩]) [] [] (fun aC hs hZ=>(Xq (x:=(⟨x.name,x.st,x.no,x.head,x.bold⟩:ay))))<|zD 1<|jp (vs:=[.slice adB l58.length adA,.agg ⟨[zI x.no,zI 0]⟩]) [] [] (fun aC hs hZ=>KN ((show bE _ _ _ _ _ from ⟨adB,asj,asf,adA,rfl,ash,asi,asg⟩).up hs) (by first|omega| (simp only[List.length_set,List.length_append,List.length_cons,List.length_nil];omega))) ?_
  refine zD 4<|js 44 (!(decide (bN (B3 x.no 0) l58 0≥0))) (fun h5=>?_) (fun h5=>?_)
  ·
   try simp only[zB] at h5
   exfalso;have:=Ki hx agm;omega
  try simp only[zB] at h5
  refine jd 20 [0]<|js 74 x.bold (fun h6=>?_) (fun h6=>?_)
  ·
   exfalso;rw[hBd] at h6;cases h6
  refine zD 7<|aF q0 (zI 0) [] [] [] (Sub.refl _) ⟨_,_,rfl,rfl,rfl,rfl⟩
 have mI:=h2
 replace mI:=of_decide_eq_false mI
 refine jd 20 [0]<|ja ((iC.length:Int)-1) (by omega)<|jp (vs:=[zI x.st,zI 0,zI ((iC.length:Int)-1)]) [] [] (fun aC hs hZ=>eN)<|zD 3<|js 44 (!(iz x.st 0 ((iC.length:Int)-1))) (fun h7=>?_) (fun h7=>?_)
 ·
  try simp only[zB] at h7
  exfalso;simp only[iz,Bool.and_eq_false_iff,decide_eq_false_iff_not] at h7;omega
 try simp only[zB] at h7
 refine jd 7 [0] ?_
 obtain⟨x57,Ex⟩:=zG iC (x.st.toNat)
 refine Oq x.st lD 1 Mz Ex (by omega) ?_
 obtain⟨l58,agm,h58⟩:=fC.get Ex
 obtain aRV:=hO.pN.len _ (List.mem_of_getElem? agm)
 obtain⟨adB,asj,asf,adA,rfl,ash,asi,asg⟩:=h58
 refine jl 0 (My _ _ Ex)<|jd 1 [0]<|jp (vs:=[.agg ⟨[.string x.name,zI x.st,zI x.no,zI x.head,.bool x.bold]⟩]) [] [] (fun aC hs hZ=>(Xq (x:=(⟨x.name,x.st,x.no,x.head,x.bold⟩:ay))))<|zD 1<|jp (vs:=[.slice adB l58.length adA,.agg ⟨[zI x.no,zI 0]⟩]) [] [] (fun aC hs hZ=>KN ((show bE _ _ _ _ _ from ⟨adB,asj,asf,adA,rfl,ash,asi,asg⟩).up hs) (by first|omega| (simp only[List.length_set,List.length_append,List.length_cons,List.length_nil];omega))) ?_
 refine zD 4<|js 44 (!(decide (bN (B3 x.no 0) l58 0≥0))) (fun h8=>?_) (fun h8=>?_)
 ·
  try simp only[zB] at h8
  exfalso;have:=Ki hx agm;omega
 try simp only[zB] at h8
 refine jd 20 [0]<|js 74 x.bold (fun h9=>?_) (fun h9=>?_)
 ·
  exfalso;rw[hBd] at h9;cases h9
 refine zD 7<|aF q0 (zI 0) [] [] [] (Sub.refl _) ⟨_,_,rfl,rfl,rfl,rfl⟩
theorem ae3{x:ay}{ro:Nat→Option Obj}(hK:fP ro l K)(hO:kV K)(hx:aIo K.hd x):dt zT 156 [.agg ⟨l⟩,.agg ⟨[.string x.name,zI x.st,zI x.no,zI x.head,.bool x.bold]⟩,.bool false] ro (zI 0):=by
 obtain⟨vS,vT,vc,vh,vr,vb,va,vf,fa,fc,hv,rfl,hS,hT,p9,nC,hr,hb,ha,hf⟩:=hK
 obtain⟨iC,hs,fC⟩:=id hS
 obtain⟨iX,ht,fw⟩:=id hT
 obtain⟨hc,hh,DR⟩:=id p9
 obtain⟨mD,Tx,Tv,lD,rfl,Tw,Mz,My⟩:=hs
 obtain⟨fg,Av,As,eo,rfl,Au,su,sr⟩:=ht
 obtain⟨eI,Ax,Aw,eB,rfl,Dy,yJ,yI⟩:=hc
 obtain⟨dO,u3,u2,dv,rfl,xg,qV,qU⟩:=hh
 obtain⟨k8,Is,Ir,k7,rfl,Ol,F8,F7⟩:=hr
 obtain⟨lg,ME,MC,k9,rfl,MD,Kc,Kb⟩:=hb
 obtain⟨kD,I5,I0,j7,rfl,I1,Gb,Ga⟩:=ha
 obtain⟨iT,xY,xX,gN,rfl,Dx,sU,sS⟩:=hf
 have Cw:=hO.rules
 have qS:=hO.before.1
 have Oy:=hO.after.1
 have Ox:=hO.facts.1
 have Ow:=hO.ways.1
 have Iz:=fC.len
 have EE:=fw.len
 have XO:=hO.pN.two
 have hl9:=hO.dr.nh
 have Ok:∀(i:Nat) (p:da),([]:List da)[i]?=some p→cB ⟨ro,[]⟩ 0 (0+i*6) 6 (m8 p):=fun _ _ h=>oG h
 have hNm:=hx.1.1
 have hNs:=hNm.1
 have hHd:=hx.1.2.1
 have hHl:=XW hHd
 have hSt:=hx.1.2.2.1
 have hBd:=hx.1.2.2.2
 have hlen:=nC.len
 have hNo:=hx.2
 refine bD au [] [] ba<|zD 2<|jn fun b3=>jn fun b4=>jd 7 [0]<|jp (vs:=[.string x.name]) [] [] (fun aC hs hZ=>(TP (by omega) hNm.2))<|jd 27 [1,0,1]<|ja ((hv.length:Int)-1) (by omega)<|jp (vs:=[zI x.head,zI (-1),zI ((hv.length:Int)-1)]) [] [] (fun aC hs hZ=>eN)<|zD 3<|js 19 (!(iz x.head (-1) ((hv.length:Int)-1))) (fun h1=>?_) (fun h1=>?_)
 ·
  try simp only[zB] at h1
  exfalso;simp only[iz,Bool.and_eq_false_iff,decide_eq_false_iff_not] at h1;omega
 try simp only[zB] at h1
 refine jd 7 [0]<|js 33 (decide (x.head≥0)) (fun h2=>?_) (fun h2=>?_)
 ·
  have mI:=h2
  replace mI:=of_decide_eq_true mI
  refine jd 5 [1,0] ?_
  obtain⟨EZ,xQ⟩:=zG hv (x.head.toNat)
  refine Oq x.head dv 4 qV xQ (by omega)<|zD 1<|jl 1 (qU _ _ xQ)<|zD 4<|zJ 29 (EZ.cls=(-1)) (fun h3=>?_) fun h3=>?_
  ·
   exfalso;have:=Q1 nC hHd (by omega) xQ;omega
  refine jd 8 [0]<|ja ((iC.length:Int)-1) (by omega)<|jp (vs:=[zI x.st,zI 0,zI ((iC.length:Int)-1)]) [] [] (fun aC hs hZ=>eN)<|zD 3<|js 44 (!(iz x.st 0 ((iC.length:Int)-1))) (fun h4=>?_) (fun h4=>?_)
  ·
   try simp only[zB] at h4
   exfalso;simp only[iz,Bool.and_eq_false_iff,decide_eq_false_iff_not] at h4;omega
  try simp only[zB] at h4
  refine jd 25 [0]<|jp (vs:=[zI x.no,zI 1,zI 40]) [] [] (fun aC hs hZ=>eN)<|zD 4<|js 65 (!(iz x.no 1 40)) (fun h5=>?_) (fun h5=>?_)
  ·
   try simp only[zB] at h5
   exfalso;simp only[iz,Bool.and_eq_false_iff,decide_eq_false_iff_not] at h5;omega
  try simp only[zB] at h5
  refine jd 7 [0]<|js 74 x.bold (fun h6=>?_) (fun h6=>?_)
  ·
   exfalso;rw[hBd] at h6;cases h6
  refine zD 7<|aF q0 (zI 0) [] [] [] (Sub.refl _) ⟨_,_,rfl,rfl,rfl,rfl⟩
 have mI:=h2
 replace mI:=of_decide_eq_false mI
 refine jd 20 [0]<|ja ((iC.length:Int)-1) (by omega)<|jp (vs:=[zI x.st,zI 0,zI ((iC.length:Int)-1)]) [] [] (fun aC hs hZ=>eN)<|zD 3<|js 44 (!(iz x.st 0 ((iC.length:Int)-1))) (fun h7=>?_) (fun h7=>?_)
 ·
  try simp only[zB] at h7
  exfalso;simp only[iz,Bool.and_eq_false_iff,decide_eq_false_iff_not] at h7;omega
 try simp only[zB] at h7
 refine jd 25 [0]<|jp (vs:=[zI x.no,zI 1,zI 40]) [] [] (fun aC hs hZ=>eN)<|zD 4<|js 65 (!(iz x.no 1 40)) (fun h8=>?_) (fun h8=>?_)
 ·
  try simp only[zB] at h8
  exfalso;simp only[iz,Bool.and_eq_false_iff,decide_eq_false_iff_not] at h8;omega
 try simp only[zB] at h8
 refine jd 7 [0]<|js 74 x.bold (fun h9=>?_) (fun h9=>?_)
 ·
  exfalso;rw[hBd] at h9;cases h9
 refine zD 7<|aF q0 (zI 0) [] [] [] (Sub.refl _) ⟨_,_,rfl,rfl,rfl,rfl⟩
theorem fP.up{ro aG:Nat→Option Obj}(h:fP ro l K)(hs:Sub ro aG):fP aG l K:=by
 obtain⟨vS,vT,vc,vh,vr,vb,va,vf,fa,fc,hv,rfl,h1,h2,h3,h4,h5,h6,h7,h8⟩:=h
 exact⟨_,_,_,_,_,_,_,_,_,_,_,rfl,h1.up hs,h2.up hs,h3.up hs,h4,h5.up hs,h6.up hs,h7.up hs,h8.up hs⟩
theorem ae4{ro:Nat→Option Obj}(hK:fP ro l K)(hO:kV K)(hp:bE ro vp 5 dL K.before):dt zT 121 [.agg ⟨l⟩,vp,.bool true] ro (zI 0):=by
 have X9:=hK
 obtain⟨vS,vT,vc,vh,vr,vb,va,vf,fa,fc,hv,rfl,hS,hT,p9,nC,hr,hb,ha,hf⟩:=hK
 obtain⟨iC,hs,fC⟩:=id hS
 obtain⟨iX,ht,fw⟩:=id hT
 obtain⟨hc,hh,DR⟩:=id p9
 obtain⟨mD,Tx,Tv,lD,rfl,Tw,Mz,My⟩:=hs
 obtain⟨fg,Av,As,eo,rfl,Au,su,sr⟩:=ht
 obtain⟨eI,Ax,Aw,eB,rfl,Dy,yJ,yI⟩:=hc
 obtain⟨dO,u3,u2,dv,rfl,xg,qV,qU⟩:=hh
 obtain⟨k8,Is,Ir,k7,rfl,Ol,F8,F7⟩:=hr
 obtain⟨lg,ME,MC,k9,rfl,MD,Kc,Kb⟩:=hb
 obtain⟨kD,I5,I0,j7,rfl,I1,Gb,Ga⟩:=ha
 obtain⟨iT,xY,xX,gN,rfl,Dx,sU,sS⟩:=hf
 have Cw:=hO.rules
 have qS:=hO.before.1
 have Oy:=hO.after.1
 have Ox:=hO.facts.1
 have Ow:=hO.ways.1
 have Iz:=fC.len
 have EE:=fw.len
 have XO:=hO.pN.two
 have hl9:=hO.dr.nh
 have Ok:∀(i:Nat) (p:da),([]:List da)[i]?=some p→cB ⟨ro,[]⟩ 0 (0+i*6) 6 (m8 p):=fun _ _ h=>oG h
 obtain⟨Sn,qpb,qpo,Ka,rfl,qpk,ZH,ZG⟩:=hp
 refine bD au [] [] ba<|zD 2<|jn fun b3=>zD 9<|zJ 12 ((K.before.length:Int)>4) (fun h1=>?_) fun h1=>?_
 ·
  exfalso;omega
 refine zD 10<|dW [1,1,0,1,0,0] [] (fun(zz:Nat)=>[(2,.bool true),(3,zP b3),(13,.slice Sn K.before.length Ka),(14,zI (K.before.length:Int)),(15,zI (zz:Int))]) (fun(zz:Nat)=>[.b b3 (.cells ⟨[.slice mD iC.length lD,.slice fg iX.length eo,.slice fa 0 fc,.slice eI K.cs.length eB,.slice dO hv.length dv,.slice k8 K.rules.length k7,.slice lg K.before.length k9,.slice kD K.after.length j7,zI K.gone,zI K.new,zI K.af,.slice iT K.facts.length gN]⟩ 40 (0,0))]) (fun(zz:Nat)=>zz≤K.before.length) (fun(zz:Nat)=>K.before.length-zz) 0 (by omega) [0] ?_
 rintro k hI K1 bK rest
 refine zD 5<|zJ 16 ((k:Int) <(K.before.length:Int)) (fun h2=>?_) fun h2=>?_
 ·
  refine zD 6 ?_
  obtain⟨V0,GS⟩:=zG K.before k
  refine iA Ka 5 ZH GS<|jl 0 (ZG _ _ GS)<|jn fun b8=>jd 7 [0,1,0]<|jp (vs:=[.agg ⟨[.slice mD iC.length lD,.slice fg iX.length eo,.slice fa 0 fc,.slice eI K.cs.length eB,.slice dO hv.length dv,.slice k8 K.rules.length k7,.slice lg K.before.length k9,.slice kD K.after.length j7,zI K.gone,zI K.new,zI K.af,.slice iT K.facts.length gN]⟩,.agg ⟨[.string V0.name,zI V0.st,zI V0.no,zI V0.head,.bool V0.bold]⟩,.bool true]) [] [] (fun aC hs hZ=>(ae2 (x:=V0) (X9.up hs) hO (hO.before.2 _ (List.mem_of_getElem? GS))))<|zD 10<|ja ((k:Int)+1) (by omega)<|zD 2<|bJ bK (k+1) (by omega) (by omega) [1] (Sub.refl _)
 refine zD 7<|aF q0 (zI 0) [] [] [] (Sub.refl _) ⟨_,_,rfl,rfl,rfl,rfl⟩
theorem ae5{ro:Nat→Option Obj}(hK:fP ro l K)(hO:kV K)(hp:bE ro vp 5 dL K.after):dt zT 121 [.agg ⟨l⟩,vp,.bool false] ro (zI 0):=by
 have X9:=hK
 obtain⟨vS,vT,vc,vh,vr,vb,va,vf,fa,fc,hv,rfl,hS,hT,p9,nC,hr,hb,ha,hf⟩:=hK
 obtain⟨iC,hs,fC⟩:=id hS
 obtain⟨iX,ht,fw⟩:=id hT
 obtain⟨hc,hh,DR⟩:=id p9
 obtain⟨mD,Tx,Tv,lD,rfl,Tw,Mz,My⟩:=hs
 obtain⟨fg,Av,As,eo,rfl,Au,su,sr⟩:=ht
 obtain⟨eI,Ax,Aw,eB,rfl,Dy,yJ,yI⟩:=hc
 obtain⟨dO,u3,u2,dv,rfl,xg,qV,qU⟩:=hh
 obtain⟨k8,Is,Ir,k7,rfl,Ol,F8,F7⟩:=hr
 obtain⟨lg,ME,MC,k9,rfl,MD,Kc,Kb⟩:=hb
 obtain⟨kD,I5,I0,j7,rfl,I1,Gb,Ga⟩:=ha
 obtain⟨iT,xY,xX,gN,rfl,Dx,sU,sS⟩:=hf
 have Cw:=hO.rules
 have qS:=hO.before.1
 have Oy:=hO.after.1
 have Ox:=hO.facts.1
 have Ow:=hO.ways.1
 have Iz:=fC.len
 have EE:=fw.len
 have XO:=hO.pN.two
 have hl9:=hO.dr.nh
 have Ok:∀(i:Nat) (p:da),([]:List da)[i]?=some p→cB ⟨ro,[]⟩ 0 (0+i*6) 6 (m8 p):=fun _ _ h=>oG h
 obtain⟨Sn,qpb,qpo,Ka,rfl,qpk,ZH,ZG⟩:=hp
 refine bD au [] [] ba<|zD 2<|jn fun b3=>zD 9<|zJ 12 ((K.after.length:Int)>4) (fun h1=>?_) fun h1=>?_
 ·
  exfalso;omega
 refine zD 10<|dW [1,1,0,1,0,0] [] (fun(zz:Nat)=>[(2,.bool false),(3,zP b3),(13,.slice Sn K.after.length Ka),(14,zI (K.after.length:Int)),(15,zI (zz:Int))]) (fun(zz:Nat)=>[.b b3 (.cells ⟨[.slice mD iC.length lD,.slice fg iX.length eo,.slice fa 0 fc,.slice eI K.cs.length eB,.slice dO hv.length dv,.slice k8 K.rules.length k7,.slice lg K.before.length k9,.slice kD K.after.length j7,zI K.gone,zI K.new,zI K.af,.slice iT K.facts.length gN]⟩ 40 (0,0))]) (fun(zz:Nat)=>zz≤K.after.length) (fun(zz:Nat)=>K.after.length-zz) 0 (by omega) [0] ?_
 rintro k hI K1 bK rest
 refine zD 5<|zJ 16 ((k:Int) <(K.after.length:Int)) (fun h2=>?_) fun h2=>?_
 ·
  refine zD 6 ?_
  obtain⟨V0,GS⟩:=zG K.after k
  refine iA Ka 5 ZH GS<|jl 0 (ZG _ _ GS)<|jn fun b8=>jd 7 [0,1,0]<|jp (vs:=[.agg ⟨[.slice mD iC.length lD,.slice fg iX.length eo,.slice fa 0 fc,.slice eI K.cs.length eB,.slice dO hv.length dv,.slice k8 K.rules.length k7,.slice lg K.before.length k9,.slice kD K.after.length j7,zI K.gone,zI K.new,zI K.af,.slice iT K.facts.length gN]⟩,.agg ⟨[.string V0.name,zI V0.st,zI V0.no,zI V0.head,.bool V0.bold]⟩,.bool false]) [] [] (fun aC hs hZ=>(ae3 (x:=V0) (X9.up hs) hO (hO.after.2 _ (List.mem_of_getElem? GS))))<|zD 10<|ja ((k:Int)+1) (by omega)<|zD 2<|bJ bK (k+1) (by omega) (by omega) [1] (Sub.refl _)
 refine zD 7<|aF q0 (zI 0) [] [] [] (Sub.refl _) ⟨_,_,rfl,rfl,rfl,rfl⟩
theorem atb{x y:cU}{ro:Nat→Option Obj}(hb:ro b=some (.cells ⟨[zI y.a,zI y.b,.bool y.same]⟩ 54 (0,0))):dt zT 93 [.agg ⟨[zI x.a,zI x.b,.bool x.same]⟩,zP b] ro (.bool (decide (x.a=y.a)&&decide (x.b=y.b))):=by
 refine bD au [] [] ba<|zD 2<|jn fun b2=>jd 7 [0]<|jl (b:=b) (off:=0) (m:=3) (vs:=[zI y.a,zI y.b,.bool y.same]) 0 ⟨_,_,_,.inl hb,rfl⟩<|zD 2<|jj 6 [(3,.bool false),(15,.bool ((decide (x.a=y.a))&&(decide (x.b=y.b))))] (fun gV=>?_) (fun hj=>?_)
 rotate_left
 refine js 9 (decide (x.a=y.a)) (fun h1=>?_) (fun h1=>?_)
 ·
  have gv:=h1
  replace gv:=of_decide_eq_true gv
  refine jd 3 [0]<|jl (b:=b) (off:=0) (m:=3) (vs:=[zI y.a,zI y.b,.bool y.same]) 1 ⟨_,_,_,.inl hb,rfl⟩<|zD 2<|jw 15 (.bool ((decide (x.a=y.a))&&(decide (x.b=y.b)))) (w:= .bool (decide (x.b=y.b))) (by rw[h1]<;>rfl) ?_
  exact hj _ (by kernel_rfl) (by kernel_rfl)
 ·
  have gv:=h1
  replace gv:=of_decide_eq_false gv
  refine zD 6<|jw 15 (.bool ((decide (x.a=y.a))&&(decide (x.b=y.b)))) (w:= .bool false) (by rw[h1]<;>rfl) ?_
  exact hj _ (by kernel_rfl) (by kernel_rfl)
 refine zD 3<|aF q0 (.bool ((decide (x.a=y.a))&&(decide (x.b=y.b)))) [] [] [] (Sub.refl _) ⟨_,_,rfl,rfl,rfl,rfl⟩
def Ef(x y:cU):Bool:=decide (y.a=x.a)&&decide (y.b=x.b)
theorem CQ{p:α→Bool}:∀ {l:List α} {k:Nat},(∀y∈l,p y=false)→bN p l k= -1
 | [],_,_=>rfl
 |x::l,k,h=>by simp only[bN,h x (List.mem_cons_self ..),cond_false];exact CQ fun y hy=>h y (List.mem_cons_of_mem _ hy)
theorem ah8{x:cU}(h:fs.Pairwise fun x y=>¬(x.a=y.a∧x.b=y.b))(hx:fs[i]?=some x):bN (Ef x) (fs.take i) 0 <0:=by
 rw[CQ]
 ·omega
 intro y hy
 obtain⟨j,hj⟩:=List.getElem?_of_mem hy
 rw[List.getElem?_take] at hj
 split at hj
 ·rename_i zx
  have:=ql h zx hj hx
  simp only[Ef,Bool.and_eq_false_iff,decide_eq_false_iff_not]
  by_cases h1:y.a=x.a
  ·exact .inr fun h2=>this ⟨h1,h2⟩
  exact .inl h1
 cases hj
theorem atw{v:Value}{x:cU}{ro:Nat→Option Obj}(hf:bE ro v 3 pX fs)(hn:fs.length≤1000)(hb:ro b=some (.cells ⟨[zI x.a,zI x.b,.bool x.same]⟩ 54 (0,0))):dt zT 125 [v,.func (.func 93) ⟨[]⟩ ⟨[zP b]⟩] ro (zI (bN (Ef x) fs 0)):=by
 obtain⟨iT,xY,xX,gN,rfl,Dx,sU,sS⟩:=hf
 refine bD au [] [] ba<|zD 12<|dW [1,0,1,0,0] [] (fun(zz:Nat)=>[(0,.slice iT fs.length gN),(1,.func (.func 93) ⟨[]⟩ ⟨[zP b]⟩),(7,zI (fs.length:Int)),(8,zI (zz:Int))]) (fun(zz:Nat)=>[]) (fun(zz:Nat)=>zz≤fs.length∧bN (Ef x) fs 0=bN (Ef x) (fs.drop zz) zz) (fun(zz:Nat)=>fs.length-zz) 0 ⟨by omega,rfl⟩ [] ?_
 rintro k hI K1 bK rest
 refine zD 5<|zJ 9 ((k:Int) <(fs.length:Int)) (fun h1=>?_) fun h1=>?_
 ·
  refine zD 14 ?_
  obtain⟨eA,dE⟩:=zG fs k
  refine iA gN 3 sU dE<|jl 0 (sS _ _ dE)<|jp (vs:=[.agg ⟨[zI eA.a,zI eA.b,.bool eA.same]⟩,zP b]) [] [] (fun aC hs hZ=>(atb (hs _ _ hb)))<|zD 1<|js 16 (Ef x eA) (fun h2=>?_) (fun h2=>?_)
  ·
   refine zD 7<|aF q0 (zI (k:Int)) [] [] [] (Sub.refl _) ⟨_,_,rfl,rfl,by rw[hI.2,gI dE,show Ef x eA=true from (by assumption)];rfl,rfl⟩
  refine zD 3<|ja ((k:Int)+1) (by omega)<|zD 2<|bJ bK (k+1) ⟨by omega,by rw[hI.2,gI dE,show Ef x eA=false from (by assumption)];rfl⟩ (by omega) [] (Sub.refl _)
 refine zD 7<|aF q0 (zI (-1)) [] [] [] (Sub.refl _) ⟨_,_,rfl,rfl,by rw[hI.2,mZ (by omega)],rfl⟩
theorem amf{v:Value}{x:cU}{ro:Nat→Option Obj}(hf:bE ro v 3 pX fs)(hn:fs.length≤1000)(hb:ro b=some (.cells ⟨[zI x.a,zI x.b,.bool x.same]⟩ 54 (0,0))):dt zT 92 [v,.func (.func 93) ⟨[]⟩ ⟨[zP b]⟩] ro (.bool (decide (bN (Ef x) fs 0≥0))):=by
 obtain⟨iT,xY,xX,gN,rfl,Dx,sU,sS⟩:=hf
 refine bD au [] [] ba<|zD 8<|jp (vs:=[.slice iT fs.length gN,.func (.func 93) ⟨[]⟩ ⟨[zP b]⟩]) [] [] (fun aC hs hZ=>atw ((show bE _ _ _ _ _ from ⟨iT,xY,xX,gN,rfl,Dx,sU,sS⟩).up hs) (by first|omega| (simp only[List.length_set,List.length_append,List.length_cons,List.length_nil];omega)) (hs _ _ hb)) ?_
 refine zD 4<|aF q0 (.bool (decide ((bN (Ef x) fs 0)≥0))) [] [] [] (Sub.refl _) ⟨_,_,rfl,rfl,rfl,rfl⟩
theorem aBN{x:cU}{ro:Nat→Option Obj}(hK:fP ro l K)(hO:kV K)(hp:bE ro vp 3 pX fs)(hn:fs.length≤1000)(hx:(0≤x.a∧x.a <K.before.length)∧(0≤x.b∧x.b <K.after.length))(hw:bN (Ef x) fs 0 <0):dt zT 55 [.agg ⟨l⟩,vp,.agg ⟨[zI x.a,zI x.b,.bool x.same]⟩] ro (zI 0):=by
 obtain⟨vS,vT,vc,vh,vr,vb,va,vf,fa,fc,hv,rfl,hS,hT,p9,nC,hr,hb,ha,hf⟩:=hK
 obtain⟨iC,hs,fC⟩:=id hS
 obtain⟨iX,ht,fw⟩:=id hT
 obtain⟨hc,hh,DR⟩:=id p9
 obtain⟨mD,Tx,Tv,lD,rfl,Tw,Mz,My⟩:=hs
 obtain⟨fg,Av,As,eo,rfl,Au,su,sr⟩:=ht
 obtain⟨eI,Ax,Aw,eB,rfl,Dy,yJ,yI⟩:=hc
 obtain⟨dO,u3,u2,dv,rfl,xg,qV,qU⟩:=hh
 obtain⟨k8,Is,Ir,k7,rfl,Ol,F8,F7⟩:=hr
 obtain⟨lg,ME,MC,k9,rfl,MD,Kc,Kb⟩:=hb
 obtain⟨kD,I5,I0,j7,rfl,I1,Gb,Ga⟩:=ha
 obtain⟨iT,xY,xX,gN,rfl,Dx,sU,sS⟩:=hf
 have Cw:=hO.rules
 have qS:=hO.before.1
 have Oy:=hO.after.1
 have Ox:=hO.facts.1
 have Ow:=hO.ways.1
 have Iz:=fC.len
 have EE:=fw.len
 have XO:=hO.pN.two
 have hl9:=hO.dr.nh
 have Ok:∀(i:Nat) (p:da),([]:List da)[i]?=some p→cB ⟨ro,[]⟩ 0 (0+i*6) 6 (m8 p):=fun _ _ h=>oG h
 obtain⟨Sn,qpb,qpo,Ka,rfl,qpk,ZH,ZG⟩:=hp
 refine bD au [] [] ba<|zD 2<|jn fun b3=>jn fun b5=>jd 12 [0,1]<|ja ((K.before.length:Int)-1) (by omega)<|jp (vs:=[zI x.a,zI 0,zI ((K.before.length:Int)-1)]) [] [] (fun aC hs hZ=>eN)<|zD 3<|js 7 (!(iz x.a 0 ((K.before.length:Int)-1))) (fun h1=>?_) (fun h1=>?_)
 ·
  try simp only[zB] at h1
  exfalso;simp only[iz,Bool.and_eq_false_iff,decide_eq_false_iff_not] at h1;omega
 try simp only[zB] at h1
 refine jd 7 [0,1]<|ja ((K.after.length:Int)-1) (by omega)<|jp (vs:=[zI x.b,zI 0,zI ((K.after.length:Int)-1)]) [] [] (fun aC hs hZ=>eN)<|zD 3<|js 7 (!(iz x.b 0 ((K.after.length:Int)-1))) (fun h2=>?_) (fun h2=>?_)
 ·
  try simp only[zB] at h2
  exfalso;simp only[iz,Bool.and_eq_false_iff,decide_eq_false_iff_not] at h2;omega
 try simp only[zB] at h2
 refine zD 5<|jp (vs:=[.slice Sn fs.length Ka,.func (.func 93) ⟨[]⟩ ⟨[zP b5]⟩]) [0] [(b5,.cells ⟨[zI x.a,zI x.b,.bool x.same]⟩ 54 (0,0))] (fun aC hs hZ=>amf ((show bE _ _ _ _ _ from ⟨Sn,qpb,qpo,Ka,rfl,qpk,ZH,ZG⟩).up hs) (by first|omega| (simp only[List.length_set,List.length_append,List.length_cons,List.length_nil];omega)) hZ.head) ?_
 refine zD 2<|js 24 (decide (bN (Ef x) fs 0≥0)) (fun h3=>?_) (fun h3=>?_)
 ·
  exfalso;have:=of_decide_eq_true h3;omega
 refine zD 7<|aF q0 (zI 0) [] [] [] (Sub.refl _) ⟨_,_,rfl,rfl,rfl,rfl⟩
theorem azD{w:ByteArray}{ro:Nat→Option Obj}(hs:1≤w.size∧w.size≤12)(hc:cS w (bs [99,108,97,115,115])=false)(hf:cS w (bs [102,105,110,105,115])=false)(hK:∀b∈w.data.toList,97≤b.toNat∧b.toNat≤122):dt zT 208 [.string w] ro (.bool true):=by
 refine bD au [] [] ba<|zD 11<|jj 4 [(0,.string w),(2,.bool false),(12,.bool ((decide ((w.size:Int)=0))||(decide ((w.size:Int)>12))))] (fun gV=>?_) (fun hj=>?_)
 rotate_left
 refine js 8 (decide ((w.size:Int)=0)) (fun h1=>?_) (fun h1=>?_)
 ·
  have gv:=h1
  replace gv:=of_decide_eq_true gv
  refine zD 4<|jw 12 (.bool ((decide ((w.size:Int)=0))||(decide ((w.size:Int)>12)))) (w:= .bool true) (by rw[h1]<;>rfl) ?_
  exact hj _ (by kernel_rfl) (by kernel_rfl)
 ·
  have gv:=h1
  replace gv:=of_decide_eq_false gv
  refine zD 4<|jw 12 (.bool ((decide ((w.size:Int)=0))||(decide ((w.size:Int)>12)))) (w:= .bool (decide ((w.size:Int)>12))) (by rw[h1]<;>rfl) ?_
  exact hj _ (by kernel_rfl) (by kernel_rfl)
 refine zD 1<|jj 3 [(0,.string w),(2,.bool false),(16,.bool (((decide ((w.size:Int)=0))||(decide ((w.size:Int)>12)))||(cS w (bs [99,108,97,115,115]))))] (fun gV=>?_) (fun hj=>?_)
 rotate_left
 refine js 13 ((decide ((w.size:Int)=0))||(decide ((w.size:Int)>12))) (fun h2=>?_) (fun h2=>?_)
 ·
  have mI:=h2
  try simp only[zB] at mI
  refine zD 3<|jw 16 (.bool (((decide ((w.size:Int)=0))||(decide ((w.size:Int)>12)))||(cS w (bs [99,108,97,115,115])))) (w:= .bool true) (by rw[h2]<;>rfl) ?_
  exact hj _ (by kernel_rfl) (by kernel_rfl)
 ·
  have mI:=h2
  try simp only[zB] at mI
  refine zD 3<|jw 16 (.bool (((decide ((w.size:Int)=0))||(decide ((w.size:Int)>12)))||(cS w (bs [99,108,97,115,115])))) (w:= .bool (cS w (bs [99,108,97,115,115]))) (by rw[h2]<;>rfl) ?_
  exact hj _ (by kernel_rfl) (by kernel_rfl)
 refine zD 1<|jj 3 [(0,.string w),(2,.bool false),(20,.bool ((((decide ((w.size:Int)=0))||(decide ((w.size:Int)>12)))||(cS w (bs [99,108,97,115,115])))||(cS w (bs [102,105,110,105,115]))))] (fun gV=>?_) (fun hj=>?_)
 rotate_left
 refine js 17 (((decide ((w.size:Int)=0))||(decide ((w.size:Int)>12)))||(cS w (bs [99,108,97,115,115]))) (fun h3=>?_) (fun h3=>?_)
 ·
  have wz:=h3
  try simp only[zB] at wz
  refine zD 3<|jw 20 (.bool ((((decide ((w.size:Int)=0))||(decide ((w.size:Int)>12)))||(cS w (bs [99,108,97,115,115])))||(cS w (bs [102,105,110,105,115])))) (w:= .bool true) (by rw[h3]<;>rfl) ?_
  exact hj _ (by kernel_rfl) (by kernel_rfl)
 ·
  have wz:=h3
  try simp only[zB] at wz
  refine zD 3<|jw 20 (.bool ((((decide ((w.size:Int)=0))||(decide ((w.size:Int)>12)))||(cS w (bs [99,108,97,115,115])))||(cS w (bs [102,105,110,105,115])))) (w:= .bool (cS w (bs [102,105,110,105,115]))) (by rw[h3]<;>rfl) ?_
  exact hj _ (by kernel_rfl) (by kernel_rfl)
 refine zD 1<|js 20 ((((decide ((w.size:Int)=0))||(decide ((w.size:Int)>12)))||(cS w (bs [99,108,97,115,115])))||(cS w (bs [102,105,110,105,115]))) (fun h4=>?_) (fun h4=>?_)
 ·
  try simp only[zB] at h4
  exfalso;simp only[hc,hf,Bool.or_false,Bool.or_eq_true,decide_eq_true_eq,Bool.false_eq_true,or_false] at h4;omega
 try simp only[zB] at h4
 refine zD 6<|jn fun r22=>zD 2<|dW [1,1,0,1,0,0] [] (fun(zz:Nat)=>[(22,zP r22)]) (fun(zz:Nat)=>[.b r22 (.stringIter w zz)]) (fun(zz:Nat)=>zz≤w.data.toList.length) (fun(zz:Nat)=>w.data.toList.length-zz) 0 (by omega) [0] ?_
 rintro p hI K1 bK rest
 refine zD 2 ?_
 cases aax:w.data.toList[p]? with
 |some vk=>
  refine jnA r22 0 aax (by have:=hK _ (List.mem_of_getElem? aax);omega) ?_
  refine zD 7 ?_
  have XP:=hK _ (List.mem_of_getElem? aax)
  refine zD 9<|jj 3 [(22,zP r22),(31,.bool ((decide ((vk.toNat:Int) <97))||(decide ((vk.toNat:Int)>122))))] (fun gV=>?_) (fun hj=>?_)
  rotate_left
  refine js 28 (decide ((vk.toNat:Int) <97)) (fun h5=>?_) (fun h5=>?_)
  ·
   have Nz:=h5
   replace Nz:=of_decide_eq_true Nz
   refine zD 3<|jw 31 (.bool ((decide ((vk.toNat:Int) <97))||(decide ((vk.toNat:Int)>122)))) (w:= .bool true) (by rw[h5]<;>rfl) ?_
   exact hj _ (by kernel_rfl) (by kernel_rfl)
  ·
   have Nz:=h5
   replace Nz:=of_decide_eq_false Nz
   refine zD 3<|jw 31 (.bool ((decide ((vk.toNat:Int) <97))||(decide ((vk.toNat:Int)>122)))) (w:= .bool (decide ((vk.toNat:Int)>122))) (by rw[h5]<;>rfl) ?_
   exact hj _ (by kernel_rfl) (by kernel_rfl)
  refine zD 1<|js 31 ((decide ((vk.toNat:Int) <97))||(decide ((vk.toNat:Int)>122))) (fun h6=>?_) (fun h6=>?_)
  ·
   try simp only[zB] at h6
   exfalso;omega
  try simp only[zB] at h6
  refine zD 2<|bJ bK (p+1) (by have:=(List.getElem?_eq_some_iff.1 aax).1;omega) (by have:=(List.getElem?_eq_some_iff.1 aax).1;omega) [0] (Sub.refl _)
 |none=>
  refine jnZ r22 0 aax<|zD 10<|aF q0 (.bool true) [] [] [] (Sub.refl _) ⟨_,_,rfl,rfl,rfl,rfl⟩
def EN(x y:bO):Bool:=cS y.name x.name
theorem arH{x y:bO}{ro:Nat→Option Obj}(hb:ro b=some (.cells ⟨[.string x.name,zI x.under]⟩ 140 (0,0))):dt zT 210 [.agg ⟨[.string y.name,zI y.under]⟩,zP b] ro (.bool (cS y.name x.name)):=by
 refine bD au [] [] ba<|zD 2<|jn fun b2=>jd 7 [0]<|jl (b:=b) (off:=0) (m:=2) (vs:=[.string x.name,zI x.under]) 0 ⟨_,_,_,.inl hb,rfl⟩<|zD 4<|aF q0 (.bool (cS y.name x.name)) [] [] [] (Sub.refl _) ⟨_,_,rfl,rfl,rfl,rfl⟩
theorem arG{v:Value}{fs:List bO}{x:bO}{ro:Nat→Option Obj}(hf:bE ro v 2 pn fs)(hn:fs.length≤1000)(hb:ro b=some (.cells ⟨[.string x.name,zI x.under]⟩ 140 (0,0))):dt zT 232 [v,.func (.func 210) ⟨[]⟩ ⟨[zP b]⟩] ro (zI (bN (EN x) fs 0)):=by
 obtain⟨iT,xY,xX,gN,rfl,Dx,sU,sS⟩:=hf
 refine bD au [] [] ba<|zD 12<|dW [1,0,1,0,0] [] (fun(zz:Nat)=>[(0,.slice iT fs.length gN),(1,.func (.func 210) ⟨[]⟩ ⟨[zP b]⟩),(7,zI (fs.length:Int)),(8,zI (zz:Int))]) (fun(zz:Nat)=>[]) (fun(zz:Nat)=>zz≤fs.length∧bN (EN x) fs 0=bN (EN x) (fs.drop zz) zz) (fun(zz:Nat)=>fs.length-zz) 0 ⟨by omega,rfl⟩ [] ?_
 rintro k hI K1 bK rest
 refine zD 5<|zJ 9 ((k:Int) <(fs.length:Int)) (fun h1=>?_) fun h1=>?_
 ·
  refine zD 14 ?_
  obtain⟨eA,dE⟩:=zG fs k
  refine iA gN 2 sU dE<|jl 0 (sS _ _ dE)<|jp (vs:=[.agg ⟨[.string eA.name,zI eA.under]⟩,zP b]) [] [] (fun aC hs hZ=>(arH (y:=eA) (hs _ _ hb)))<|zD 1<|js 16 (EN x eA) (fun h2=>?_) (fun h2=>?_)
  ·
   refine zD 7<|aF q0 (zI (k:Int)) [] [] [] (Sub.refl _) ⟨_,_,rfl,rfl,by rw[hI.2,gI dE,show EN x eA=true from (by assumption)];rfl,rfl⟩
  refine zD 3<|ja ((k:Int)+1) (by omega)<|zD 2<|bJ bK (k+1) ⟨by omega,by rw[hI.2,gI dE,show EN x eA=false from (by assumption)];rfl⟩ (by omega) [] (Sub.refl _)
 refine zD 7<|aF q0 (zI (-1)) [] [] [] (Sub.refl _) ⟨_,_,rfl,rfl,by rw[hI.2,mZ (by omega)],rfl⟩
theorem akM{v:Value}{fs:List bO}{x:bO}{ro:Nat→Option Obj}(hf:bE ro v 2 pn fs)(hn:fs.length≤1000)(hb:ro b=some (.cells ⟨[.string x.name,zI x.under]⟩ 140 (0,0))):dt zT 209 [v,.func (.func 210) ⟨[]⟩ ⟨[zP b]⟩] ro (.bool (decide (bN (EN x) fs 0≥0))):=by
 obtain⟨iT,xY,xX,gN,rfl,Dx,sU,sS⟩:=hf
 refine bD au [] [] ba<|zD 8<|jp (vs:=[.slice iT fs.length gN,.func (.func 210) ⟨[]⟩ ⟨[zP b]⟩]) [] [] (fun aC hs hZ=>arG ((show bE _ _ _ _ _ from ⟨iT,xY,xX,gN,rfl,Dx,sU,sS⟩).up hs) (by first|omega| (simp only[List.length_set,List.length_append,List.length_cons,List.length_nil];omega)) (hs _ _ hb)) ?_
 refine zD 4<|aF q0 (.bool (decide ((bN (EN x) fs 0)≥0))) [] [] [] (Sub.refl _) ⟨_,_,rfl,rfl,rfl,rfl⟩
def hdP(x y:bw):Bool:=cS y.word x.word
theorem azL{x y:bw}{ro:Nat→Option Obj}(hb:ro b=some (.cells ⟨[.string x.word,zI x.cls,zI x.oA,x.ep]⟩ 143 (0,0))):dt zT 213 [.agg ⟨[.string y.word,zI y.cls,zI y.oA,y.ep]⟩,zP b] ro (.bool (cS y.word x.word)):=by
 refine bD au [] [] ba<|zD 2<|jn fun b2=>jd 7 [0]<|jl (b:=b) (off:=0) (m:=4) (vs:=[.string x.word,zI x.cls,zI x.oA,x.ep]) 0 ⟨_,_,_,.inl hb,rfl⟩<|zD 4<|aF q0 (.bool (cS y.word x.word)) [] [] [] (Sub.refl _) ⟨_,_,rfl,rfl,rfl,rfl⟩
theorem azK{v:Value}{fs:List bw}{x:bw}{ro:Nat→Option Obj}(hf:bE ro v 4 mw fs)(hn:fs.length≤1000)(hb:ro b=some (.cells ⟨[.string x.word,zI x.cls,zI x.oA,x.ep]⟩ 143 (0,0))):dt zT 233 [v,.func (.func 213) ⟨[]⟩ ⟨[zP b]⟩] ro (zI (bN (hdP x) fs 0)):=by
 obtain⟨iT,xY,xX,gN,rfl,Dx,sU,sS⟩:=hf
 refine bD au [] [] ba<|zD 12<|dW [1,0,1,0,0] [] (fun(zz:Nat)=>[(0,.slice iT fs.length gN),(1,.func (.func 213) ⟨[]⟩ ⟨[zP b]⟩),(7,zI (fs.length:Int)),(8,zI (zz:Int))]) (fun(zz:Nat)=>[]) (fun(zz:Nat)=>zz≤fs.length∧bN (hdP x) fs 0=bN (hdP x) (fs.drop zz) zz) (fun(zz:Nat)=>fs.length-zz) 0 ⟨by omega,rfl⟩ [] ?_
 rintro k hI K1 bK rest
 refine zD 5<|zJ 9 ((k:Int) <(fs.length:Int)) (fun h1=>?_) fun h1=>?_
 ·
  refine zD 14 ?_
  obtain⟨eA,dE⟩:=zG fs k
  refine iA gN 4 sU dE<|jl 0 (sS _ _ dE)<|jp (vs:=[.agg ⟨[.string eA.word,zI eA.cls,zI eA.oA,eA.ep]⟩,zP b]) [] [] (fun aC hs hZ=>(azL (y:=eA) (hs _ _ hb)))<|zD 1<|js 16 (hdP x eA) (fun h2=>?_) (fun h2=>?_)
  ·
   refine zD 7<|aF q0 (zI (k:Int)) [] [] [] (Sub.refl _) ⟨_,_,rfl,rfl,by rw[hI.2,gI dE,show hdP x eA=true from (by assumption)];rfl,rfl⟩
  refine zD 3<|ja ((k:Int)+1) (by omega)<|zD 2<|bJ bK (k+1) ⟨by omega,by rw[hI.2,gI dE,show hdP x eA=false from (by assumption)];rfl⟩ (by omega) [] (Sub.refl _)
 refine zD 7<|aF q0 (zI (-1)) [] [] [] (Sub.refl _) ⟨_,_,rfl,rfl,by rw[hI.2,mZ (by omega)],rfl⟩
theorem arD{v:Value}{fs:List bw}{x:bw}{ro:Nat→Option Obj}(hf:bE ro v 4 mw fs)(hn:fs.length≤1000)(hb:ro b=some (.cells ⟨[.string x.word,zI x.cls,zI x.oA,x.ep]⟩ 143 (0,0))):dt zT 212 [v,.func (.func 213) ⟨[]⟩ ⟨[zP b]⟩] ro (.bool (decide (bN (hdP x) fs 0≥0))):=by
 obtain⟨iT,xY,xX,gN,rfl,Dx,sU,sS⟩:=hf
 refine bD au [] [] ba<|zD 8<|jp (vs:=[.slice iT fs.length gN,.func (.func 213) ⟨[]⟩ ⟨[zP b]⟩]) [] [] (fun aC hs hZ=>azK ((show bE _ _ _ _ _ from ⟨iT,xY,xX,gN,rfl,Dx,sU,sS⟩).up hs) (by first|omega| (simp only[List.length_set,List.length_append,List.length_cons,List.length_nil];omega)) (hs _ _ hb)) ?_
 refine zD 4<|aF q0 (.bool (decide ((bN (hdP x) fs 0)≥0))) [] [] [] (Sub.refl _) ⟨_,_,rfl,rfl,rfl,rfl⟩
def Ag(w:ByteArray):Bool:=Nat.ble 1 w.size&&(Nat.ble w.size 12&&(!cS w (bs [99,108,97,115,115])&&(!cS w (bs [102,105,110,105,115])&&w.data.toList.all fun b=>Nat.ble 97 b.toNat&&Nat.ble b.toNat 122)))
theorem Zh:∀w∈nJ,Ag w=true:=List.all_eq_true.1 (by kernel_rfl)
theorem abb:∀w∈pH,Ag w=true:=List.all_eq_true.1 (by kernel_rfl)
theorem acM{w:ByteArray}{ro:Nat→Option Obj}(h:Ag w=true):dt zT 208 [.string w] ro (.bool true):=by
 simp only[Ag,Bool.and_eq_true,Nat.ble_eq,Bool.not_eq_true',List.all_eq_true] at h
 exact azD ⟨h.1,h.2.1⟩ h.2.2.1 h.2.2.2.1 h.2.2.2.2
structure lN(cs:List bO)(hd:List cv):Prop where
 nc:0 <cs.length∧cs.length≤6
 nh:hd.length≤6
 cls:∀(i:Nat) (c:bO),cs[i]?=some c→Ag c.name=true∧ -1≤c.under∧c.under <i
 names:(cs.map (·.name)).Pairwise fun a b=>cS a b=false
 AV:∀(i:Nat) (x:cv),hd[i]?=some x→Ag x.word=true∧gT cs.length hd.length i x
 words:(hd.map (·.word)).Pairwise fun a b=>cS a b=false∧strLt b a=false
theorem wX.v(h:wX cs hd):lN cs hd:=
 ⟨⟨h.nc.1,by have:=h.nc.2;omega⟩,by have:=h.nh;omega,fun i c hc=>⟨Zh _ (h.cls i c hc).1,(h.cls i c hc).2⟩,h.names,fun i x hx=>⟨abb _ (h.AV i x hx).1,(h.AV i x hx).2⟩,h.words⟩
theorem Ry{p:α→α→Bool}{l:List α}{x:α}(h:l.Pairwise fun y x=>p x y=false)(hx:l[i]?=some x):bN (p x) (l.take i) 0 <0:=by
 rw[CQ]
 ·omega
 intro y hy
 obtain⟨j,hj⟩:=List.getElem?_of_mem hy
 rw[List.getElem?_take] at hj
 split at hj
 ·rename_i zx
  exact ql h zx hj hx
 cases hj
theorem anR{x:bO}(h:lN cs hd)(hx:cs[i]?=some x):bN (EN x) (cs.take i) 0 <0:=
 Ry (p:=EN) (List.pairwise_map.1 h.names) hx
theorem ON{hv:List bw}(h:dg dq hv hd):hv.map (·.word)=hd.map (·.word):=by
 induction h with
 |nil=>rfl
 |cons h1 _ ih=>simp only[List.map_cons,h1.1,ih]
theorem avu{hv:List bw}{x:bw}(h:lN cs hd)(hs:dg dq hv hd)(hx:hv[i]?=some x):bN (hdP x) (hv.take i) 0 <0:=
 Ry (p:=hdP) ((List.pairwise_map.1 (ON hs▸h.words)).imp fun h=>h.1) hx
theorem aDP{hv:List bw}{j:Nat}{x y:bw}(h:lN cs hd)(hs:dg dq hv hd)(IB:j <i)(hx:hv[i]?=some x) (hy:hv[j]?=some y):strLt x.word y.word=false:=
 (ql (List.pairwise_map.1 (ON hs▸h.words)) IB hy hx).2
theorem ac3{ro:Nat→Option Obj}{nc nh:Nat}{x:bw}{y:cv}(h:gT nc nh i y)(hr:rK ro x y):
 (-1≤x.cls∧x.cls <nc)∧(-1≤x.oA∧x.oA <nh∧x.oA≠i)∧(y.ep.length≤nh∧y.ep.Pairwise (· < ·)∧∀z∈y.ep,0≤z∧z <nh∧z≠i)∧(x.oA≠ -1→x.cls= -1∧y.ep.length=0)∧(x.oA= -1→x.cls= -1→y.ep.length≠0):=by
 rw[hr.2.1,hr.2.2.1]
 exact⟨h.1,h.2.1,h.2.2.1,fun a=>⟨(h.2.2.2.1 a).1,by rw[(h.2.2.2.1 a).2];rfl⟩,fun a b c=>h.2.2.2.2 a b (List.eq_nil_of_length_eq_zero c)⟩
theorem arJ{v:Value}{ro:Nat→Option Obj}(hc:bE ro v 2 pn cs)(hT:lN cs hd)(hi:i <cs.length):dt zT 182 [v,zI (i:Int)] ro (zI 0):=by
 obtain⟨eI,Ax,Aw,eB,rfl,Dy,yJ,yI⟩:=hc
 have DL:=hT.nc
 refine bD au [] [] ba<|zD 8 ?_
 obtain⟨x8,hx8⟩:=zG cs i
 refine iA eB 2 yJ hx8<|jl 0 (yI _ _ hx8)<|jn fun b5=>jd 5 [0] ?_
 have iV:=hT.cls _ _ hx8
 have hcn:bN (EN x8) (cs.take (i:Int).toNat) 0 <0:=anR hT hx8
 have htk:(cs.take (i:Int).toNat).length≤cs.length:=by rw[List.length_take];omega
 refine jd 3 [0]<|jp (vs:=[.string x8.name]) [] [] (fun aC hs hZ=>(acM iV.1))<|zD 8<|jcH (hi:=(i:Int)) (show bE _ _ _ _ _ from ⟨eI,Ax,Aw,eB,rfl,Dy,yJ,yI⟩) (by omega) (fun v18 at7=>?_)
 obtain⟨apb,aAu,aAq,apa,rfl,aAs,aAt,aAr⟩:=at7
 refine zD 1<|jp (vs:=[.slice apb ((((cs).take (i:Int).toNat)).length) apa,.func (.func 210) ⟨[]⟩ ⟨[zP b5]⟩]) [0] [(b5,.cells ⟨[.string x8.name,zI x8.under]⟩ 140 (0,0))] (fun aC hs hZ=>akM (x:=x8) ((show bE _ _ _ _ _ from ⟨apb,aAu,aAq,apa,rfl,aAs,aAt,aAr⟩).up hs) (by first|omega| (simp only[List.length_set,List.length_append,List.length_cons,List.length_nil];omega)) hZ.head) ?_
 refine zD 2<|js 15 (decide (bN (EN x8) ((cs).take (i:Int).toNat) 0≥0)) (fun h1=>?_) (fun h1=>?_)
 ·
  exfalso;have:=of_decide_eq_true h1;omega
 refine jd 7 [0]<|ja ((cs.length:Int)-1) (by omega)<|jp (vs:=[zI x8.under,zI (-1),zI ((cs.length:Int)-1)]) [] [] (fun aC hs hZ=>jB)<|zD 3<|js 21 (!(iz x8.under (-1) ((cs.length:Int)-1))) (fun h2=>?_) (fun h2=>?_)
 ·
  try simp only[zB] at h2
  exfalso;simp only[iz,Bool.and_eq_false_iff,decide_eq_false_iff_not] at h2;omega
 try simp only[zB] at h2
 refine jd 9 [0]<|zJ 29 (x8.under≥(i:Int)) (fun h3=>?_) fun h3=>?_
 ·
  exfalso;omega
 refine zD 7<|aF q0 (zI 0) [] [] [] (Sub.refl _) ⟨_,_,rfl,rfl,rfl,rfl⟩
theorem azJ{hv:List bw}{ro:Nat→Option Obj}(hR:jC ro vc vh cs hv hd)(nC:dg dq hv hd)(hT:lN cs hd)(hi:i <hv.length):dt zT 183 [.agg ⟨[vc,vh]⟩,zI (i:Int)] ro (zI 0):=by
 obtain⟨hc,hh,de⟩:=id hR
 obtain⟨eI,Ax,Aw,eB,rfl,Dy,yJ,yI⟩:=hc
 obtain⟨dO,u3,u2,dv,rfl,xg,qV,qU⟩:=hh
 have DL:=hT.nc
 have hnh:=hT.nh
 have hlen:=nC.len
 refine bD au [] [] ba<|zD 2<|jn fun b2=>jd 9 [0,0] ?_
 obtain⟨eA,dE⟩:=zG hv i
 refine iA dv 4 qV dE<|jl 0 (qU _ _ dE)<|aL 7 fun Ea Eg BB=>jn fun b6=>bB BB [1]<|zD 1<|aL 9 fun Ac Aj zd=>jsx 0 b6 0 [.string ByteArray.empty,zI 0,zI 0,zS] [.string eA.word,zI eA.cls,zI eA.oA,eA.ep] 143 (mV de _ (List.mem_of_getElem? dE)) rfl<|dZ zd<|zD 4 ?_
 obtain⟨EX,aB5,aug⟩:=de.get dE
 obtain⟨fI,rV,rS,eZ,hqe,tR,lQ,mO⟩:=aug.2.2.2
 have aQN:=(hT.AV _ _ aB5).1
 have hsh:=ac3 (hT.AV _ _ aB5).2 aug
 obtain⟨bY,oU,Iv,kF,hs5⟩:=hsh
 have hwb:Ag eA.word=true:=by rw[aug.1];exact aQN
 have hcn:bN (hdP eA) (hv.take (i:Int).toNat) 0 <0:=avu hT nC dE
 have htk:(hv.take (i:Int).toNat).length≤hv.length:=by rw[List.length_take];omega
 refine jmw 0 [.b b6 (.cells ⟨[.string eA.word,zI eA.cls,zI eA.oA,.slice fI EX.ep.length eZ]⟩ 143 (0,0))] (L:=[(b6,.cells ⟨[.string eA.word,zI eA.cls,zI eA.oA,eA.ep]⟩ 143 (0,0))]) (by rw[hqe];rfl) ?_
 refine jd 3 [0]<|jp (vs:=[.string eA.word]) [] [] (fun aC hs hZ=>(acM hwb))<|zD 8<|jcH (hi:=(i:Int)) (show bE _ _ _ _ _ from ⟨dO,u3,u2,dv,rfl,xg,qV,qU⟩) (by omega) (fun v24 aQ8=>?_)
 obtain⟨ao9,aAp,aAl,ao8,rfl,aAn,aAo,aAm⟩:=aQ8
 refine zD 1<|jp (vs:=[.slice ao9 ((((hv).take (i:Int).toNat)).length) ao8,.func (.func 213) ⟨[]⟩ ⟨[zP b6]⟩]) [0] [(b6,.cells ⟨[.string eA.word,zI eA.cls,zI eA.oA,.slice fI EX.ep.length eZ]⟩ 143 (0,0))] (fun aC hs hZ=>arD (x:=eA) ((show bE _ _ _ _ _ from ⟨ao9,aAp,aAl,ao8,rfl,aAn,aAo,aAm⟩).up hs) (by first|omega| (simp only[List.length_set,List.length_append,List.length_cons,List.length_nil];omega)) (by rw[hqe];exact hZ.head)) ?_
 refine zD 2<|js 21 (decide (bN (hdP eA) ((hv).take (i:Int).toNat) 0≥0)) (fun h3=>?_) (fun h3=>?_)
 ·
  exfalso;have:=of_decide_eq_true h3;omega
 refine zD 6<|js 2 (decide ((i:Int)>0)) (fun h4=>?_) (fun h4=>?_)
 ·
  have ye:=h4
  replace ye:=of_decide_eq_true ye
  refine jd 4 [0]<|ja ((i:Int)-1) (by omega) ?_
  obtain⟨x36,yZ⟩:=zG hv (((i:Int)-1).toNat)
  refine Oq ((i:Int)-1) dv 4 qV yZ (by omega)<|zD 1<|jl 0 (qU _ _ yZ)<|zD 4<|js 27 (strLt eA.word x36.word) (fun h5=>?_) (fun h5=>?_)
  ·
   exfalso;rw[aDP hT nC (by omega) dE yZ] at h5;cases h5
  refine jd 9 [0,1]<|ja ((cs.length:Int)-1) (by omega)<|jp (vs:=[zI eA.cls,zI (-1),zI ((cs.length:Int)-1)]) [] [] (fun aC hs hZ=>jB)<|zD 3<|js 41 (!(iz eA.cls (-1) ((cs.length:Int)-1))) (fun h6=>?_) (fun h6=>?_)
  ·
   try simp only[zB] at h6
   exfalso;simp only[iz,Bool.and_eq_false_iff,decide_eq_false_iff_not] at h6;omega
  try simp only[zB] at h6
  refine jd 6 [0]<|ja ((hv.length:Int)-1) (by omega)<|jp (vs:=[zI eA.oA,zI (-1),zI ((hv.length:Int)-1)]) [] [] (fun aC hs hZ=>jB)<|zD 3<|js 41 (!(iz eA.oA (-1) ((hv.length:Int)-1))) (fun h7=>?_) (fun h7=>?_)
  ·
   try simp only[zB] at h7
   exfalso;simp only[iz,Bool.and_eq_false_iff,decide_eq_false_iff_not] at h7;omega
  try simp only[zB] at h7
  refine jd 9 [0]<|zJ 57 (eA.oA=(i:Int)) (fun h8=>?_) fun h8=>?_
  ·
   exfalso;omega
  refine jd 11 [0]<|dW [1,1,1,0,1,0,0] [] (fun(zz:Nat)=>[(1,zI (i:Int)),(5,.slice dO hv.length dv),(6,zP b6),(63,.slice fI EX.ep.length eZ),(64,zI (EX.ep.length:Int)),(65,zI (zz:Int))]) (fun(zz:Nat)=>[.b b6 (.cells ⟨[.string eA.word,zI eA.cls,zI eA.oA,.slice fI EX.ep.length eZ]⟩ 143 (0,0))]) (fun(zz:Nat)=>zz≤EX.ep.length) (fun(zz:Nat)=>EX.ep.length-zz) 0 (by omega) [0] ?_
  rintro k hI K3 X7 rest
  refine zD 5<|zJ 66 ((k:Int) <(EX.ep.length:Int)) (fun h9=>?_) fun h9=>?_
  ·
   refine zD 7 ?_
   obtain⟨x68,M9⟩:=zG EX.ep k
   refine iA eZ 1 lQ M9<|jl 0 (mO _ _ M9)<|zD 5 ?_
   have aTM:=Iv.2.2 _ (List.mem_of_getElem? M9)
   refine zD 4<|ja ((hv.length:Int)-1) (by omega)<|jp (vs:=[zI x68,zI 0,zI ((hv.length:Int)-1)]) [] [] (fun aC hs hZ=>jB)<|zD 3<|js 70 (!(iz x68 0 ((hv.length:Int)-1))) (fun OA=>?_) (fun OA=>?_)
   ·
    try simp only[zB] at OA
    exfalso;simp only[iz,Bool.and_eq_false_iff,decide_eq_false_iff_not] at OA;omega
   try simp only[zB] at OA
   refine zD 8<|zJ 77 (x68=(i:Int)) (fun h11=>?_) fun h11=>?_
   ·
    exfalso;omega
   refine zD 6<|js 84 (decide ((k:Int)>0)) (fun IG=>?_) (fun IG=>?_)
   ·
    have ahM:=IG
    replace ahM:=of_decide_eq_true ahM
    refine jd 4 [0]<|ja ((k:Int)-1) (by omega) ?_
    obtain⟨x90,Uc⟩:=zG EX.ep (((k:Int)-1).toNat)
    refine Oq ((k:Int)-1) eZ 1 lQ Uc (by omega)<|jl 0 (mO _ _ Uc)<|zD 4<|zJ 81 (x68≤x90) (fun BC=>?_) fun BC=>?_
    ·
     exfalso;have:=ql Iv.2.1 (show ((k:Int)-1).toNat <k by omega) Uc M9;omega
    refine zD 3<|ja ((k:Int)+1) (by omega)<|zD 2<|bJ X7 (k+1) (by omega) (by omega) [0] (Sub.refl _)
   have ahM:=IG
   replace ahM:=of_decide_eq_false ahM
   refine zD 14<|ja ((k:Int)+1) (by omega)<|zD 2<|bJ X7 (k+1) (by omega) (by omega) [0] (Sub.refl _)
  refine jd 9 [0]<|js 98 (!decide (eA.oA=(-1))) (fun h14=>?_) (fun h14=>?_)
  ·
   have ahK:=h14
   replace ahK:=of_decide_eq_false (by simpa using ahK)
   refine jd 4 [0]<|js 102 (!decide (eA.cls=(-1))) (fun EH=>?_) (fun EH=>?_)
   ·
    have Hs:=EH
    replace Hs:=of_decide_eq_false (by simpa using Hs)
    refine zD 29 ?_
    exfalso;omega
   have Hs:=EH
   replace Hs:=of_decide_eq_true (by simpa using Hs)
   refine jd 7 [0]<|js 109 (decide ((EX.ep.length:Int)>0)) (fun Ju=>?_) (fun Ju=>?_)
   ·
    have ahJ:=Ju
    replace ahJ:=of_decide_eq_true ahJ
    refine zD 22 ?_
    exfalso;omega
   have ahJ:=Ju
   replace ahJ:=of_decide_eq_false ahJ
   refine jd 4 [0]<|js 113 (decide (eA.oA=(-1))) (fun U0=>?_) (fun U0=>?_)
   ·
    have Hr:=U0
    replace Hr:=of_decide_eq_true Hr
    refine jd 5 [0]<|js 118 (decide (eA.cls=(-1))) (fun h18=>?_) (fun h18=>?_)
    ·
     have ahH:=h18
     replace ahH:=of_decide_eq_true ahH
     refine jd 7 [0]<|zJ 124 ((EX.ep.length:Int)=0) (fun Yc=>?_) fun Yc=>?_
     ·
      exfalso;(try simp only[Bool.or_eq_true,Bool.and_eq_true,decide_eq_true_eq,Bool.not_eq_true',decide_eq_false_iff_not] at Yc);omega
     refine zD 7<|aF q0 (zI 0) [] [] [] (Sub.refl _) ⟨_,_,rfl,rfl,rfl,rfl⟩
    have ahH:=h18
    replace ahH:=of_decide_eq_false ahH
    refine zD 14<|aF q0 (zI 0) [] [] [] (Sub.refl _) ⟨_,_,rfl,rfl,rfl,rfl⟩
   have Hr:=U0
   replace Hr:=of_decide_eq_false Hr
   refine zD 19<|aF q0 (zI 0) [] [] [] (Sub.refl _) ⟨_,_,rfl,rfl,rfl,rfl⟩
  have ahK:=h14
  replace ahK:=of_decide_eq_true (by simpa using ahK)
  refine jd 15 [0]<|js 113 (decide (eA.oA=(-1))) (fun h20=>?_) (fun h20=>?_)
  ·
   have Hq:=h20
   replace Hq:=of_decide_eq_true Hq
   refine jd 5 [0]<|js 118 (decide (eA.cls=(-1))) (fun h21=>?_) (fun h21=>?_)
   ·
    have Hp:=h21
    replace Hp:=of_decide_eq_true Hp
    refine jd 7 [0]<|zJ 124 ((EX.ep.length:Int)=0) (fun DT=>?_) fun DT=>?_
    ·
     exfalso;(try simp only[Bool.or_eq_true,Bool.and_eq_true,decide_eq_true_eq,Bool.not_eq_true',decide_eq_false_iff_not] at DT);omega
    refine zD 7<|aF q0 (zI 0) [] [] [] (Sub.refl _) ⟨_,_,rfl,rfl,rfl,rfl⟩
   have Hp:=h21
   replace Hp:=of_decide_eq_false Hp
   refine zD 14<|aF q0 (zI 0) [] [] [] (Sub.refl _) ⟨_,_,rfl,rfl,rfl,rfl⟩
  have Hq:=h20
  replace Hq:=of_decide_eq_false Hq
  refine zD 19<|aF q0 (zI 0) [] [] [] (Sub.refl _) ⟨_,_,rfl,rfl,rfl,rfl⟩
 have ye:=h4
 replace ye:=of_decide_eq_false ye
 refine jd 21 [0,1]<|ja ((cs.length:Int)-1) (by omega)<|jp (vs:=[zI eA.cls,zI (-1),zI ((cs.length:Int)-1)]) [] [] (fun aC hs hZ=>jB)<|zD 3<|js 41 (!(iz eA.cls (-1) ((cs.length:Int)-1))) (fun Fj=>?_) (fun Fj=>?_)
 ·
  try simp only[zB] at Fj
  exfalso;simp only[iz,Bool.and_eq_false_iff,decide_eq_false_iff_not] at Fj;omega
 try simp only[zB] at Fj
 refine jd 6 [0]<|ja ((hv.length:Int)-1) (by omega)<|jp (vs:=[zI eA.oA,zI (-1),zI ((hv.length:Int)-1)]) [] [] (fun aC hs hZ=>jB)<|zD 3<|js 41 (!(iz eA.oA (-1) ((hv.length:Int)-1))) (fun h24=>?_) (fun h24=>?_)
 ·
  try simp only[zB] at h24
  exfalso;simp only[iz,Bool.and_eq_false_iff,decide_eq_false_iff_not] at h24;omega
 try simp only[zB] at h24
 refine jd 9 [0]<|zJ 57 (eA.oA=(i:Int)) (fun h25=>?_) fun h25=>?_
 ·
  exfalso;omega
 refine jd 11 [0]<|dW [1,1,1,0,1,0,0] [] (fun(zz:Nat)=>[(1,zI (i:Int)),(5,.slice dO hv.length dv),(6,zP b6),(63,.slice fI EX.ep.length eZ),(64,zI (EX.ep.length:Int)),(65,zI (zz:Int))]) (fun(zz:Nat)=>[.b b6 (.cells ⟨[.string eA.word,zI eA.cls,zI eA.oA,.slice fI EX.ep.length eZ]⟩ 143 (0,0))]) (fun(zz:Nat)=>zz≤EX.ep.length) (fun(zz:Nat)=>EX.ep.length-zz) 0 (by omega) [0] ?_
 rintro k hI K4 hK4 rest
 refine zD 5<|zJ 66 ((k:Int) <(EX.ep.length:Int)) (fun h26=>?_) fun h26=>?_
 ·
  refine zD 7 ?_
  obtain⟨x68,M9⟩:=zG EX.ep k
  refine iA eZ 1 lQ M9<|jl 0 (mO _ _ M9)<|zD 5 ?_
  have aTM:=Iv.2.2 _ (List.mem_of_getElem? M9)
  refine zD 4<|ja ((hv.length:Int)-1) (by omega)<|jp (vs:=[zI x68,zI 0,zI ((hv.length:Int)-1)]) [] [] (fun aC hs hZ=>jB)<|zD 3<|js 70 (!(iz x68 0 ((hv.length:Int)-1))) (fun h27=>?_) (fun h27=>?_)
  ·
   try simp only[zB] at h27
   exfalso;simp only[iz,Bool.and_eq_false_iff,decide_eq_false_iff_not] at h27;omega
  try simp only[zB] at h27
  refine zD 8<|zJ 77 (x68=(i:Int)) (fun h28=>?_) fun h28=>?_
  ·
   exfalso;omega
  refine zD 6<|js 84 (decide ((k:Int)>0)) (fun h29=>?_) (fun h29=>?_)
  ·
   have ahA:=h29
   replace ahA:=of_decide_eq_true ahA
   refine jd 4 [0]<|ja ((k:Int)-1) (by omega) ?_
   obtain⟨x90,Uc⟩:=zG EX.ep (((k:Int)-1).toNat)
   refine Oq ((k:Int)-1) eZ 1 lQ Uc (by omega)<|jl 0 (mO _ _ Uc)<|zD 4<|zJ 81 (x68≤x90) (fun h30=>?_) fun h30=>?_
   ·
    exfalso;have:=ql Iv.2.1 (show ((k:Int)-1).toNat <k by omega) Uc M9;omega
   refine zD 3<|ja ((k:Int)+1) (by omega)<|zD 2<|bJ hK4 (k+1) (by omega) (by omega) [0] (Sub.refl _)
  have ahA:=h29
  replace ahA:=of_decide_eq_false ahA
  refine zD 14<|ja ((k:Int)+1) (by omega)<|zD 2<|bJ hK4 (k+1) (by omega) (by omega) [0] (Sub.refl _)
 refine jd 9 [0]<|js 98 (!decide (eA.oA=(-1))) (fun h31=>?_) (fun h31=>?_)
 ·
  have ahz:=h31
  replace ahz:=of_decide_eq_false (by simpa using ahz)
  refine jd 4 [0]<|js 102 (!decide (eA.cls=(-1))) (fun h32=>?_) (fun h32=>?_)
  ·
   have ahx:=h32
   replace ahx:=of_decide_eq_false (by simpa using ahx)
   refine zD 29 ?_
   exfalso;omega
  have ahx:=h32
  replace ahx:=of_decide_eq_true (by simpa using ahx)
  refine jd 7 [0]<|js 109 (decide ((EX.ep.length:Int)>0)) (fun h33=>?_) (fun h33=>?_)
  ·
   have ahw:=h33
   replace ahw:=of_decide_eq_true ahw
   refine zD 22 ?_
   exfalso;omega
  have ahw:=h33
  replace ahw:=of_decide_eq_false ahw
  refine jd 4 [0]<|js 113 (decide (eA.oA=(-1))) (fun h34=>?_) (fun h34=>?_)
  ·
   have ahv:=h34
   replace ahv:=of_decide_eq_true ahv
   refine jd 5 [0]<|js 118 (decide (eA.cls=(-1))) (fun h35=>?_) (fun h35=>?_)
   ·
    have ahu:=h35
    replace ahu:=of_decide_eq_true ahu
    refine jd 7 [0]<|zJ 124 ((EX.ep.length:Int)=0) (fun h36=>?_) fun h36=>?_
    ·
     exfalso;(try simp only[Bool.or_eq_true,Bool.and_eq_true,decide_eq_true_eq,Bool.not_eq_true',decide_eq_false_iff_not] at h36);omega
    refine zD 7<|aF q0 (zI 0) [] [] [] (Sub.refl _) ⟨_,_,rfl,rfl,rfl,rfl⟩
   have ahu:=h35
   replace ahu:=of_decide_eq_false ahu
   refine zD 14<|aF q0 (zI 0) [] [] [] (Sub.refl _) ⟨_,_,rfl,rfl,rfl,rfl⟩
  have ahv:=h34
  replace ahv:=of_decide_eq_false ahv
  refine zD 19<|aF q0 (zI 0) [] [] [] (Sub.refl _) ⟨_,_,rfl,rfl,rfl,rfl⟩
 have ahz:=h31
 replace ahz:=of_decide_eq_true (by simpa using ahz)
 refine jd 15 [0]<|js 113 (decide (eA.oA=(-1))) (fun h37=>?_) (fun h37=>?_)
 ·
  have aht:=h37
  replace aht:=of_decide_eq_true aht
  refine jd 5 [0]<|js 118 (decide (eA.cls=(-1))) (fun h38=>?_) (fun h38=>?_)
  ·
   have ahs:=h38
   replace ahs:=of_decide_eq_true ahs
   refine jd 7 [0]<|zJ 124 ((EX.ep.length:Int)=0) (fun h39=>?_) fun h39=>?_
   ·
    exfalso;(try simp only[Bool.or_eq_true,Bool.and_eq_true,decide_eq_true_eq,Bool.not_eq_true',decide_eq_false_iff_not] at h39);omega
   refine zD 7<|aF q0 (zI 0) [] [] [] (Sub.refl _) ⟨_,_,rfl,rfl,rfl,rfl⟩
  have ahs:=h38
  replace ahs:=of_decide_eq_false ahs
  refine zD 14<|aF q0 (zI 0) [] [] [] (Sub.refl _) ⟨_,_,rfl,rfl,rfl,rfl⟩
 have aht:=h37
 replace aht:=of_decide_eq_false aht
 refine zD 19<|aF q0 (zI 0) [] [] [] (Sub.refl _) ⟨_,_,rfl,rfl,rfl,rfl⟩
theorem Wi{hv:List bw}{ro:Nat→Option Obj}(hR:jC ro vc vh cs hv hd)(nC:dg dq hv hd)(hT:lN cs hd):dt zT 154 [.agg ⟨[vc,vh]⟩] ro (zI 0):=by
 obtain⟨hc,hh,de⟩:=id hR
 obtain⟨eI,Ax,Aw,eB,rfl,Dy,yJ,yI⟩:=hc
 obtain⟨dO,u3,u2,dv,rfl,xg,qV,qU⟩:=hh
 have DL:=hT.nc
 have hnh:=hT.nh
 have hlen:=nC.len
 refine bD au [] [] ba<|zD 2<|jn fun b1=>jd 10 [0]<|jj 5 [(1,zP b1),(2,zI 0),(16,.bool ((decide ((cs.length:Int)>6))||(decide ((hv.length:Int)>6))))] (fun gV=>?_) (fun hj=>?_)
 rotate_left
 refine js 11 (decide ((cs.length:Int)>6)) (fun h1=>?_) (fun h1=>?_)
 ·
  have gv:=h1
  replace gv:=of_decide_eq_true gv
  refine zD 5<|jw 16 (.bool ((decide ((cs.length:Int)>6))||(decide ((hv.length:Int)>6)))) (w:= .bool true) (by rw[h1]<;>rfl) ?_
  exact hj _ (by kernel_rfl) (by kernel_rfl)
 ·
  have gv:=h1
  replace gv:=of_decide_eq_false gv
  refine jd 5 [0]<|jw 16 (.bool ((decide ((cs.length:Int)>6))||(decide ((hv.length:Int)>6)))) (w:= .bool (decide ((hv.length:Int)>6))) (by rw[h1]<;>rfl) ?_
  exact hj _ (by kernel_rfl) (by kernel_rfl)
 refine zD 1<|js 16 ((decide ((cs.length:Int)>6))||(decide ((hv.length:Int)>6))) (fun h2=>?_) (fun h2=>?_)
 ·
  try simp only[zB] at h2
  exfalso;omega
 try simp only[zB] at h2
 refine jd 11 [0]<|dW [1,1,0,1,0,0] [] (fun(zz:Nat)=>[(1,zP b1),(19,zI (cs.length:Int)),(20,zI (zz:Int))]) (fun(zz:Nat)=>[.b b1 (.cells ⟨[.slice eI cs.length eB,.slice dO hv.length dv]⟩ 35 (0,0))]) (fun(zz:Nat)=>zz≤cs.length) (fun(zz:Nat)=>cs.length-zz) 0 (by omega) [0] ?_
 rintro k hI K1 bK rest
 refine zD 5<|zJ 21 ((k:Int) <(cs.length:Int)) (fun h3=>?_) fun h3=>?_
 ·
  refine jd 14 [0]<|jp (vs:=[.slice eI cs.length eB,zI (k:Int)]) [] [] (fun aC hs hZ=>arJ ((show bE _ _ _ _ _ from ⟨eI,Ax,Aw,eB,rfl,Dy,yJ,yI⟩).up hs) hT (by omega))<|zD 10<|ja ((k:Int)+1) (by omega)<|zD 2<|bJ bK (k+1) (by omega) (by omega) [0] (Sub.refl _)
 refine jd 11 [0]<|dW [1,1,1,0,1,0,0] [] (fun(zz:Nat)=>[(1,zP b1),(33,zI (hv.length:Int)),(34,zI (zz:Int))]) (fun(zz:Nat)=>[.b b1 (.cells ⟨[.slice eI cs.length eB,.slice dO hv.length dv]⟩ 35 (0,0))]) (fun(zz:Nat)=>zz≤hv.length) (fun(zz:Nat)=>hv.length-zz) 0 (by omega) [0] ?_
 rintro j hJ K2 mr rest
 refine zD 5<|zJ 35 ((j:Int) <(hv.length:Int)) (fun h4=>?_) fun h4=>?_
 ·
  refine jd 13 [0]<|jp (vs:=[.agg ⟨[.slice eI cs.length eB,.slice dO hv.length dv]⟩,zI (j:Int)]) [] [] (fun aC hs hZ=>(azJ (hR.up hs) nC hT (by omega)))<|zD 10<|ja ((j:Int)+1) (by omega)<|zD 2<|bJ mr (j+1) (by omega) (by omega) [0] (Sub.refl _)
 refine zD 7<|aF q0 (zI 0) [] [] [] (Sub.refl _) ⟨_,_,rfl,rfl,rfl,rfl⟩
theorem arK{hv:List bw}{ro:Nat→Option Obj}(hR:jC ro vc vh cs hv hd)(nC:dg dq hv hd)(hT:lN cs hd):dt zT 119 [.agg ⟨[vc,vh]⟩] ro (zI 0):=by
 obtain⟨hc,hh,de⟩:=id hR
 obtain⟨eI,Ax,Aw,eB,rfl,Dy,yJ,yI⟩:=hc
 obtain⟨dO,u3,u2,dv,rfl,xg,qV,qU⟩:=hh
 have DL:=hT.nc
 have hnh:=hT.nh
 have hlen:=nC.len
 refine bD au [] [] ba<|zD 2<|jn fun b1=>jd 5 [0]<|jp (vs:=[.agg ⟨[.slice eI cs.length eB,.slice dO hv.length dv]⟩]) [] [] (fun aC hs hZ=>(Wi (hR.up hs) nC hT))<|zD 3<|aF q0 (zI 0) [] [] [] (Sub.refl _) ⟨_,_,rfl,rfl,rfl,rfl⟩
def Jy(a b:ByteArray):Int:=bif strLt a b then-1 else bif !(strLt a b||cS a b) then 1 else 0
def NT:List ByteArray→List ByteArray→Int
 | [],[]=>0
 | [],_::_=> -1
 |_::_,[]=>1
 |x::xs,y::ys=>if Jy x y=0 then NT xs ys else Jy x y
theorem Ys{y:ByteArray}(hx:xs[k]?=some x) (hy:ys[k]?=some y):NT (xs.drop k) (ys.drop k)=if Jy x y=0 then NT (xs.drop (k+1)) (ys.drop (k+1)) else Jy x y:=by rw[fF hx,fF hy];rfl
theorem aiG(hx:xs[k]?=some x) (hy:¬k <ys.length):NT (xs.drop k) (ys.drop k)=1:=by rw[fF hx,eL hy];rfl
theorem RM(hx:¬k <xs.length):NT (xs.drop k) (ys.drop k)=if k <ys.length then-1 else 0:=by
 rw[eL hx]
 split
 ·rename_i h
  rw[List.drop_eq_getElem_cons h];rfl
 rename_i h
 rw[eL h];rfl
def sW(s p:ByteArray):Bool:=decide (s.size≥p.size)&&cS (s.extract 0 p.size) p
structure an where
 h:Int
 n:Int
 l:Int
abbrev cJ(x:an):List Value:=[zI x.h,zI x.n,zI x.l]
def py(h n l:Int)(y:an):Bool:=h==y.h&&(n==y.n&&(l==y.l&&true)&&true)
theorem aHD{a:ByteArray}{ro:Nat→Option Obj}:dt zT 282 [.string a] ro (.bool false):=by
 refine bD au [] [] ba<|zD 12<|aF q0 (.bool (!(cS a a))) [] [] [] (Sub.refl _) ⟨_,_,rfl,rfl,by rw[BN.2 rfl];rfl,rfl⟩
theorem aVK{a b:ByteArray}{ro:Nat→Option Obj}:dt zT 258 [.string a,.string b] ro (zI (Jy a b)):=by
 refine bD au [] [] ba<|zD 7<|jp (vs:=[.string a]) [] [] (fun aC hs hZ=>aHD)<|zD 5<|jp (vs:=[.string b]) [] [] (fun aC hs hZ=>aHD)<|zD 23<|js 16 (strLt a b) (fun h1=>?_) (fun h1=>?_)
 ·
  refine zD 6<|aF q0 (zI (-1)) [] [] [] (Sub.refl _) ⟨_,_,rfl,rfl,by simp_all[Jy],rfl⟩
 refine zD 9<|js 19 (!(strLt a b||cS a b)) (fun h2=>?_) (fun h2=>?_)
 ·
  try simp only[zB] at h2
  refine zD 6<|aF q0 (zI 1) [] [] [] (Sub.refl _) ⟨_,_,rfl,rfl,by simp_all[Jy],rfl⟩
 try simp only[zB] at h2
 refine zD 7<|aF q0 (zI 0) [] [] [] (Sub.refl _) ⟨_,_,rfl,rfl,by simp_all[Jy],rfl⟩
theorem aOe{v w:Value}{ro:Nat→Option Obj}(hv:bE ro v 1 pY xs)(hw:bE ro w 1 pY ys)(hx:xs.length≤1000)(hy:ys.length≤1000):dt zT 238 [v,w] ro (zI (NT xs ys)):=by
 obtain⟨Mv,qvb,qvo,Bx,rfl,qvk,Px,Pw⟩:=hv
 obtain⟨Tu,qwb,qwo,Mu,rfl,qwk,qwh,qwl⟩:=hw
 refine bD au [] [] ba<|zD 12<|dW [1,0,1,0,0] [] (fun(zz:Nat)=>[(0,.slice Mv xs.length Bx),(1,.slice Tu ys.length Mu),(9,.slice Mv xs.length Bx),(10,zI (xs.length:Int)),(11,zI (zz:Int))]) (fun(zz:Nat)=>[]) (fun(zz:Nat)=>(zz≤xs.length∧zz≤ys.length)∧NT xs ys=NT (xs.drop zz) (ys.drop zz)) (fun(zz:Nat)=>xs.length-zz) 0 ⟨by omega,rfl⟩ [] ?_
 rintro k hI K1 bK rest
 refine zD 5<|zJ 12 ((k:Int) <(xs.length:Int)) (fun h1=>?_) fun h1=>?_
 ·
  refine zD 7 ?_
  obtain⟨eA,dE⟩:=zG xs k
  refine iA Bx 1 Px dE<|jl 0 (Pw _ _ dE)<|zD 11<|zJ 19 ((k:Int)≥(ys.length:Int)) (fun h2=>?_) fun h2=>?_
  ·
   refine zD 6<|aF q0 (zI 1) [] [] [] (Sub.refl _) ⟨_,_,rfl,rfl,by rw[hI.2,aiG dE (by omega)],rfl⟩
  refine zD 6 ?_
  obtain⟨sq,uh⟩:=zG ys k
  refine iA Mu 1 qwh uh<|jl 0 (qwl _ _ uh)<|zD 6<|jp (vs:=[.string eA,.string sq]) [] [] (fun aC hs hZ=>aVK)<|zD 7<|js 28 (!decide ((Jy eA sq)=0)) (fun h3=>?_) (fun h3=>?_)
  ·
   replace h3:=of_decide_eq_false (by simpa using h3)
   refine zD 7<|aF q0 (zI (Jy eA sq)) [] [] [] (Sub.refl _) ⟨_,_,rfl,rfl,by rw[hI.2,Ys dE uh,if_neg (by omega)],rfl⟩
  replace h3:=of_decide_eq_true (by simpa using h3)
  refine zD 3<|ja ((k:Int)+1) (by omega)<|zD 2<|bJ bK (k+1) ⟨by omega,by rw[hI.2,Ys dE uh,if_pos (by omega)]⟩ (by omega) [] (Sub.refl _)
 refine zD 11<|zJ 35 ((xs.length:Int) <(ys.length:Int)) (fun h4=>?_) fun h4=>?_
 ·
  refine zD 6<|aF q0 (zI (-1)) [] [] [] (Sub.refl _) ⟨_,_,rfl,rfl,by rw[hI.2,RM (by omega),if_pos (by omega)],rfl⟩
 refine zD 7<|aF q0 (zI 0) [] [] [] (Sub.refl _) ⟨_,_,rfl,rfl,by rw[hI.2,RM (by omega),if_neg (by omega)],rfl⟩
theorem aaE{a b:ByteArray}{ro:Nat→Option Obj}(hn:a.size≤1000∧b.size≤1000):dt zT 307 [.string a,.string b] ro (.bool (sW a b)):=by
 refine bD au [] [] ba<|zD 12<|js 10 (decide ((a.size:Int)≥(b.size:Int))) (fun h1=>?_) (fun h1=>?_)
 ·
  have gv:=h1
  replace gv:=of_decide_eq_true gv
  refine zD 3<|jtH (b:=a) (hi:=(b.size:Int)) (by omega)<|zD 6<|aF q0 (.bool (cS (a.extract 0 (b.size:Int).toNat) b)) [] [] [] (Sub.refl _) ⟨_,_,rfl,rfl,by simp_all[sW]<;>(intro;omega),rfl⟩
 have gv:=h1
 replace gv:=of_decide_eq_false gv
 refine zD 10<|aF q0 (.bool false) [] [] [] (Sub.refl _) ⟨_,_,rfl,rfl,by simp_all[sW]<;>(intro;omega),rfl⟩
theorem aaF{a b:ByteArray}{ro:Nat→Option Obj}(hn:a.size≤1000∧b.size≤1000):dt zT 299 [.string a,.string b] ro (.bool (sW a b)):=by
 refine bD au [] [] ba<|zD 8<|jp (vs:=[.string a,.string b]) [] [] (fun aC hs hZ=>(aaE (by omega)))<|zD 3<|aF q0 (.bool (sW a b)) [] [] [] (Sub.refl _) ⟨_,_,rfl,rfl,rfl,rfl⟩
theorem ae9{v:Value}{ps:List an}{h l:Int}{ro:Nat→Option Obj}(hp:bE ro v 3 cJ ps)(hn:ps.length≤1000):dt zT 124 [v,.agg ⟨[zI h,zI n,zI l]⟩] ro (zI (bN (py h n l) ps 0)):=by
 obtain⟨Sn,qpb,qpo,Ka,rfl,qpk,ZH,ZG⟩:=hp
 refine bD au [] [] ba<|zD 2<|jn fun b3=>zD 10<|dW [1,0,1,0,0] [] (fun(zz:Nat)=>[(0,.slice Sn ps.length Ka),(3,zP b3),(7,zI (ps.length:Int)),(8,zI (zz:Int))]) (fun(zz:Nat)=>[.b b3 (.cells ⟨[zI h,zI n,zI l]⟩ 164 (0,0))]) (fun(zz:Nat)=>zz≤ps.length∧bN (py h n l) ps 0=bN (py h n l) (ps.drop zz) zz) (fun(zz:Nat)=>ps.length-zz) 0 ⟨by omega,rfl⟩ [0] ?_
 rintro k hI K1 bK rest
 refine zD 5<|zJ 9 ((k:Int) <(ps.length:Int)) (fun h1=>?_) fun h1=>?_
 ·
  refine jd 14 [0] ?_
  obtain⟨eA,dE⟩:=zG ps k
  refine iA Ka 3 ZH dE<|jl 0 (ZG _ _ dE)<|jeq aBl (awx h n l eA.h eA.n eA.l)<|zD 1<|js 16 (h==eA.h&&(n==eA.n&&(l==eA.l&&true)&&true)) (fun h2=>?_) (fun h2=>?_)
  ·
   refine zD 7<|aF q0 (zI (k:Int)) [] [] [] (Sub.refl _) ⟨_,_,rfl,rfl,by rw[hI.2,gI dE,show py h n l eA=true from (by assumption)];rfl,rfl⟩
  refine zD 3<|ja ((k:Int)+1) (by omega)<|zD 2<|bJ bK (k+1) ⟨by omega,by rw[hI.2,gI dE,show py h n l eA=false from (by assumption)];rfl⟩ (by omega) [0] (Sub.refl _)
 refine zD 7<|aF q0 (zI (-1)) [] [] [] (Sub.refl _) ⟨_,_,rfl,rfl,by rw[hI.2,mZ (by omega)],rfl⟩
theorem KO{v:Value}{ps:List an}{h l:Int}{ro:Nat→Option Obj}(hp:bE ro v 3 cJ ps)(hn:ps.length≤1000):dt zT 88 [v,.agg ⟨[zI h,zI n,zI l]⟩] ro (.bool (decide (bN (py h n l) ps 0≥0))):=by
 obtain⟨Sn,qpb,qpo,Ka,rfl,qpk,ZH,ZG⟩:=hp
 refine bD au [] [] ba<|zD 2<|jn fun b3=>jd 6 [0]<|jp (vs:=[.slice Sn ps.length Ka,.agg ⟨[zI h,zI n,zI l]⟩]) [] [] (fun aC hs hZ=>ae9 ((show bE _ _ _ _ _ from ⟨Sn,qpb,qpo,Ka,rfl,qpk,ZH,ZG⟩).up hs) (by first|omega| (simp only[List.length_set,List.length_append,List.length_cons,List.length_nil];omega))) ?_
 refine zD 4<|aF q0 (.bool (decide ((bN (py h n l) ps 0)≥0))) [] [] [] (Sub.refl _) ⟨_,_,rfl,rfl,rfl,rfl⟩
theorem aep{v:Value}{ws:List ByteArray}{ro:Nat→Option Obj}(hv:bE ro v 1 pY ws)(hn:ws.length≤1000)(hW:∀w∈ws,(1≤w.size∧w.size≤6)∧Script w):dt zT 215 [v] ro (zI 0):=by
 obtain⟨Mv,qvb,qvo,Bx,rfl,qvk,Px,Pw⟩:=hv
 refine bD au [] [] ba<|zD 12<|dW [1,0,1,0,0] [] (fun(zz:Nat)=>[(6,.slice Mv ws.length Bx),(7,zI (ws.length:Int)),(8,zI (zz:Int))]) (fun(zz:Nat)=>[]) (fun(zz:Nat)=>zz≤ws.length) (fun(zz:Nat)=>ws.length-zz) 0 (by omega) [] ?_
 rintro k hI K1 bK rest
 refine zD 5<|zJ 9 ((k:Int) <(ws.length:Int)) (fun h1=>?_) fun h1=>?_
 ·
  refine zD 6 ?_
  obtain⟨x10,r5⟩:=zG ws k
  refine iA Bx 1 Px r5<|jl 0 (Pw _ _ r5)<|zD 5<|jp (vs:=[.string x10]) [] [] (fun aC hs hZ=>(TP (hW _ (List.mem_of_getElem? r5)).1 (hW _ (List.mem_of_getElem? r5)).2))<|zD 10<|ja ((k:Int)+1) (by omega)<|zD 2<|bJ bK (k+1) (by omega) (by omega) [] (Sub.refl _)
 refine zD 7<|aF q0 (zI 0) [] [] [] (Sub.refl _) ⟨_,_,rfl,rfl,rfl,rfl⟩
def xI(w:ByteArray):Prop:=∀b∈w.data.toList,b.toNat <128∧kindOf (b.toNat:Int)=1
def alR(w:ByteArray):Bool:=w.data.toList.all fun b=>Nat.blt b.toNat 128&&decide (kindOf (b.toNat:Int)=1)
theorem GD{w:ByteArray}(h:alR w=true):xI w:=fun b hb=>by
 have:=List.all_eq_true.1 h b hb
 simp only[Bool.and_eq_true,Nat.blt_eq,decide_eq_true_eq] at this
 exact this
def Wt(r:cQ):Bool:=(Nat.ble 1 r.f.size&&Nat.ble r.f.size 2)&&(Nat.ble r.t.size 2&&(alR r.f&&(alR r.t&& !cS r.f r.t)))
theorem Zr:(aqk.all fun f=>toW.all fun t=>Wt ⟨f,t⟩)=true:=by kernel_rfl
structure rI(r:cQ):Prop where
 f1:1≤r.f.size∧r.f.size≤2
 t1:r.t.size≤2
 fl:xI r.f
 tl:xI r.t
 ne:cS r.f r.t=false
theorem arT{r:cQ}(h:Ik r):rI r:=by
 have:=List.all_eq_true.1 (List.all_eq_true.1 Zr r.f h.1) r.t h.2
 simp only[Wt,Bool.and_eq_true,Nat.ble_eq,Bool.not_eq_true'] at this
 exact⟨this.1,this.2.1,GD this.2.2.1,GD this.2.2.2.1,this.2.2.2.2⟩
theorem aBp{ro:Nat→Option Obj}:dt zT 252 [.int .i32 r] ro (.bool (!decide (kindOf r=1))):=by
 refine bD au [] [] ba<|zD 7<|jp (vs:=[.int .i32 r]) [] [] (fun aC hs hZ=>aph)<|zD 4<|aF q0 (.bool (!decide ((kindOf r)=1))) [] [] [] (Sub.refl _) ⟨_,_,rfl,rfl,rfl,rfl⟩
theorem aOd{w:ByteArray}{ro:Nat→Option Obj}(hK:xI w):dt zT 290 [.string w,.func (.func 252) ⟨[]⟩ ⟨[]⟩,.bool true] ro (zI (-1)):=by
 refine bD au [] [] ba<|zD 8<|jn fun r10=>zD 2<|dW [1,0,1,0,0] [] (fun(zz:Nat)=>[(1,.func (.func 252) ⟨[]⟩ ⟨[]⟩),(2,.bool true),(10,zP r10)]) (fun(zz:Nat)=>[.b r10 (.stringIter w zz)]) (fun(zz:Nat)=>zz≤w.data.toList.length) (fun(zz:Nat)=>w.data.toList.length-zz) 0 (by omega) [0] ?_
 rintro p hI K1 bK rest
 refine zD 2 ?_
 cases aay:w.data.toList[p]? with
 |some x11=>
  refine jnA r10 0 aay (hK _ (List.mem_of_getElem? aay)).1<|zD 14 ?_
  have XP:=(hK _ (List.mem_of_getElem? aay)).2
  refine zD 3<|jp (vs:=[.int .i32 (x11.toNat:Int)]) [] [] (fun aC hs hZ=>aBp)<|zD 1<|je (.bool ((!decide (kindOf (x11.toNat:Int)=1))==true)) rfl<|zD 1<|js 19 ((!decide (kindOf (x11.toNat:Int)=1))==true) (fun h1=>?_) (fun h1=>?_)
  ·
   exfalso;rw[XP] at h1;cases h1
  refine zD 2<|bJ bK (p+1) (by have:=(List.getElem?_eq_some_iff.1 aay).1;omega) (by have:=(List.getElem?_eq_some_iff.1 aay).1;omega) [0] (Sub.refl _)
 |none=>
  refine jnZ r10 0 aay<|zD 10<|aF q0 (zI (-1)) [] [] [] (Sub.refl _) ⟨_,_,rfl,rfl,rfl,rfl⟩
theorem azY{w:ByteArray}{ro:Nat→Option Obj}(hK:xI w):dt zT 273 [.string w,.func (.func 252) ⟨[]⟩ ⟨[]⟩] ro (zI (-1)):=by
 refine bD au [] [] ba<|zD 8<|jp (vs:=[.string w,.func (.func 252) ⟨[]⟩ ⟨[]⟩,.bool true]) [] [] (fun aC hs hZ=>(aOd hK))<|zD 3<|aF q0 (zI (-1)) [] [] [] (Sub.refl _) ⟨_,_,rfl,rfl,rfl,rfl⟩
theorem az0{w:ByteArray}{ro:Nat→Option Obj}(hK:xI w):dt zT 251 [.string w,.func (.func 252) ⟨[]⟩ ⟨[]⟩] ro (.bool false):=by
 refine bD au [] [] ba<|zD 8<|jp (vs:=[.string w,.func (.func 252) ⟨[]⟩ ⟨[]⟩]) [] [] (fun aC hs hZ=>(azY hK))<|zD 4<|aF q0 (.bool false) [] [] [] (Sub.refl _) ⟨_,_,rfl,rfl,rfl,rfl⟩
theorem P9{w:ByteArray}{ro:Nat→Option Obj}(hK:xI w)(hn:w.size≤1000):dt zT 234 [.string w,zI lo,zI hi] ro (.bool (decide (lo≤w.size)&&decide ((w.size:Int)≤hi))):=by
 refine bD au [] [] ba<|zD 11<|jj 5 [(0,.string w),(6,.bool false),(16,.bool ((decide (lo≤(w.size:Int)))&&(decide ((w.size:Int)≤hi))))] (fun gV=>?_) (fun hj=>?_)
 rotate_left
 refine js 11 (decide (lo≤(w.size:Int))) (fun h1=>?_) (fun h1=>?_)
 ·
  have gv:=h1
  replace gv:=of_decide_eq_true gv
  refine zD 5<|jw 16 (.bool ((decide (lo≤(w.size:Int)))&&(decide ((w.size:Int)≤hi)))) (w:= .bool (decide ((w.size:Int)≤hi))) (by rw[h1]<;>rfl) ?_
  exact hj _ (by kernel_rfl) (by kernel_rfl)
 ·
  have gv:=h1
  replace gv:=of_decide_eq_false gv
  refine zD 5<|jw 16 (.bool ((decide (lo≤(w.size:Int)))&&(decide ((w.size:Int)≤hi)))) (w:= .bool false) (by rw[h1]<;>rfl) ?_
  exact hj _ (by kernel_rfl) (by kernel_rfl)
 refine zD 1<|jj 4 [(6,.bool false),(21,.bool (((decide (lo≤(w.size:Int)))&&(decide ((w.size:Int)≤hi)))&&true))] (fun gV=>?_) (fun hj=>?_)
 rotate_left
 refine js 17 ((decide (lo≤(w.size:Int)))&&(decide ((w.size:Int)≤hi))) (fun h2=>?_) (fun h2=>?_)
 ·
  have mI:=h2
  try simp only[zB] at mI
  refine zD 1<|jp (vs:=[.string w,.func (.func 252) ⟨[]⟩ ⟨[]⟩]) [] [] (fun aC hs hZ=>(az0 hK))<|zD 2<|jw 21 (.bool (((decide (lo≤(w.size:Int)))&&(decide ((w.size:Int)≤hi)))&&true)) (w:= .bool true) (by rw[h2]<;>rfl) ?_
  exact hj _ (by kernel_rfl) (by kernel_rfl)
 ·
  have mI:=h2
  try simp only[zB] at mI
  refine zD 4<|jw 21 (.bool (((decide (lo≤(w.size:Int)))&&(decide ((w.size:Int)≤hi)))&&true)) (w:= .bool false) (by rw[h2]<;>rfl) ?_
  exact hj _ (by kernel_rfl) (by kernel_rfl)
 refine zD 3<|aF q0 (.bool (((decide (lo≤(w.size:Int)))&&(decide ((w.size:Int)≤hi)))&&true)) [] [] [] (Sub.refl _) ⟨_,_,rfl,rfl,by simp_all,rfl⟩
theorem Kw{w:ByteArray}{ro:Nat→Option Obj}(hK:xI w)(h1:lo≤w.size)(h2:(w.size:Int)≤hi)(h3:w.size≤1000):dt zT 234 [.string w,zI lo,zI hi] ro (.bool true):=by
 have:=P9 (ro:=ro) hK h3 (lo:=lo) (hi:=hi)
 rw[decide_eq_true h1,decide_eq_true h2] at this
 exact this
theorem ZZ{v:Value}{ro:Nat→Option Obj}(hv:bE ro v 2 iP rs)(hn:rs.length≤4)(hR:∀r∈rs,rI r):dt zT 214 [v] ro (zI 0):=by
 obtain⟨Mv,qvb,qvo,Bx,rfl,qvk,Px,Pw⟩:=hv
 refine bD au [] [] ba<|zD 11<|zJ 7 ((rs.length:Int)>4) (fun h1=>?_) fun h1=>?_
 ·
  exfalso;omega
 refine zD 10<|dW [1,1,0,1,0,0] [] (fun(zz:Nat)=>[(8,.slice Mv rs.length Bx),(9,zI (rs.length:Int)),(10,zI (zz:Int))]) (fun(zz:Nat)=>[]) (fun(zz:Nat)=>zz≤rs.length) (fun(zz:Nat)=>rs.length-zz) 0 (by omega) [] ?_
 rintro k hI K1 bK rest
 refine zD 5<|zJ 11 ((k:Int) <(rs.length:Int)) (fun h2=>?_) fun h2=>?_
 ·
  refine zD 6 ?_
  obtain⟨tG,qv⟩:=zG rs k
  refine iA Bx 2 Px qv<|jl 0 (Pw _ _ qv)<|jn fun b4=>jd 3 [0] ?_
  have hrp:=(hR _ (List.mem_of_getElem? qv))
  have hrf:=hrp.f1
  have hrt:=hrp.t1
  refine jd 3 [0]<|jp (vs:=[.string tG.f,zI 1,zI 2]) [] [] (fun aC hs hZ=>(Kw hrp.fl (by omega) (by omega) (by omega)))<|jd 4 [0]<|jp (vs:=[.string tG.t,zI 0,zI 2]) [] [] (fun aC hs hZ=>(Kw hrp.tl (by omega) (by omega) (by omega)))<|jd 10 [0,0]<|js 30 (cS tG.f tG.t) (fun h3=>?_) (fun h3=>?_)
  ·
   exfalso;rw[hrp.ne] at h3;cases h3
  refine zD 3<|ja ((k:Int)+1) (by omega)<|zD 2<|bJ bK (k+1) (by omega) (by omega) [] (Sub.refl _)
 refine zD 7<|aF q0 (zI 0) [] [] [] (Sub.refl _) ⟨_,_,rfl,rfl,rfl,rfl⟩
def u4:List Int→Int
 | []=>0
 |x::xs=>xs.foldl min x
def Cf:List Int→Int
 | []=>0
 |x::xs=>xs.foldl max x
theorem asV{xs:List Int}{x:Int}(h:xs[0]?=some x):u4 xs=(xs.drop 1).foldl min x:=by
 cases xs with
 |nil=>cases h
 |cons y l=>simp at h;subst h;rfl
theorem asW{xs:List Int}{x:Int}(h:xs[0]?=some x):Cf xs=(xs.drop 1).foldl max x:=by
 cases xs with
 |nil=>cases h
 |cons y l=>simp at h;subst h;rfl
def rX(l:List Int):Int:=(l.filter fun x=>decide (x>0)).length
theorem Kl{l:List Int}{x:Int}(h:l[k]?=some x):rX (l.take (k+1))=rX (l.take k)+if x>0 then 1 else 0:=by
 rw[eX h,rX,List.filter_append,rX]
 by_cases hx:x>0<;>simp[hx]
structure ai where
 past:Int
 w0:Int
 w1:Int
 w2:Int
 w3:Int
 gone:Int
 new:Int
 af:Int
abbrev cu(x:ai):List Value:=[zI x.past,zI x.w0,zI x.w1,zI x.w2,zI x.w3,zI x.gone,zI x.new,zI x.af]
def cy(g n m:Int)(x:ai):Bool:=decide (x.gone≤g)&&(decide (x.new≤n)&&decide (x.af≤m))
def hasB(f i:Int):Bool:=decide (T9 .u8 (aS .u8 f i) 1=1)
theorem aOb{v:Value}{xs:List Int}{ro:Nat→Option Obj}(hl:bE ro v 1 cA xs)(hn:0 <xs.length∧xs.length≤1000000):dt zT 111 [v] ro (zI (u4 xs)):=by
 obtain⟨fI,rV,rS,eZ,rfl,tR,lQ,mO⟩:=hl
 refine bD au [] [] ba<|zD 11<|zJ 7 ((xs.length:Int) <1) (fun h1=>?_) fun h1=>?_
 ·
  exfalso;omega
 refine zD 5 ?_
 obtain⟨x10,r5⟩:=zG xs 0
 refine iA eZ 1 lQ r5<|jl 0 (mO _ _ r5)<|zD 8<|dW [1,1,1,0,1,0,0] [] (fun(zz:Nat×Int)=>[(0,.slice fI xs.length eZ),(2,zI 0),(3,zI zz.2),(4,zI (zz.1:Int))]) (fun(zz:Nat×Int)=>[]) (fun(zz:Nat×Int)=>(1≤zz.1∧zz.1≤xs.length)∧u4 xs=(xs.drop zz.1).foldl min zz.2) (fun(zz:Nat×Int)=>xs.length-zz.1) (⟨1,x10⟩) ⟨by dsimp only;omega,asV r5⟩ [] ?_
 rintro⟨k,m⟩ hI K1 bK rest
 dsimp only at hI
 refine zD 8<|zJ 15 ((k:Int) <(xs.length:Int)) (fun h2=>?_) fun h2=>?_
 ·
  refine zD 8 ?_
  obtain⟨yt,qu⟩:=zG xs k
  refine iA eZ 1 lQ qu<|jl 0 (mO _ _ qu)<|jmn (k:= .i64) (a:=m) (b:=yt)<|zD 4<|ja ((k:Int)+1) (by omega)<|zD 2<|bJ bK (⟨k+1,(min m yt)⟩) ⟨by dsimp only;omega,by rw[hI.2,fF qu];rfl⟩ (by dsimp only;omega) [] (Sub.refl _)
 refine zD 8<|aF q0 (zI m) [] [] [] (Sub.refl _) ⟨_,_,rfl,rfl,by rw[hI.2,eL (by omega)];rfl,rfl⟩
theorem aOc{v:Value}{xs:List Int}{ro:Nat→Option Obj}(hl:bE ro v 1 cA xs)(hn:0 <xs.length∧xs.length≤1000000):dt zT 112 [v] ro (zI (Cf xs)):=by
 obtain⟨fI,rV,rS,eZ,rfl,tR,lQ,mO⟩:=hl
 refine bD au [] [] ba<|zD 11<|zJ 7 ((xs.length:Int) <1) (fun h1=>?_) fun h1=>?_
 ·
  exfalso;omega
 refine zD 5 ?_
 obtain⟨x10,r5⟩:=zG xs 0
 refine iA eZ 1 lQ r5<|jl 0 (mO _ _ r5)<|zD 8<|dW [1,1,1,0,1,0,0] [] (fun(zz:Nat×Int)=>[(0,.slice fI xs.length eZ),(2,zI 0),(3,zI zz.2),(4,zI (zz.1:Int))]) (fun(zz:Nat×Int)=>[]) (fun(zz:Nat×Int)=>(1≤zz.1∧zz.1≤xs.length)∧Cf xs=(xs.drop zz.1).foldl max zz.2) (fun(zz:Nat×Int)=>xs.length-zz.1) (⟨1,x10⟩) ⟨by dsimp only;omega,asW r5⟩ [] ?_
 rintro⟨k,m⟩ hI K1 bK rest
 dsimp only at hI
 refine zD 8<|zJ 15 ((k:Int) <(xs.length:Int)) (fun h2=>?_) fun h2=>?_
 ·
  refine zD 8 ?_
  obtain⟨yt,qu⟩:=zG xs k
  refine iA eZ 1 lQ qu<|jl 0 (mO _ _ qu)<|jmx (k:= .i64) (a:=m) (b:=yt)<|zD 4<|ja ((k:Int)+1) (by omega)<|zD 2<|bJ bK (⟨k+1,(max m yt)⟩) ⟨by dsimp only;omega,by rw[hI.2,fF qu];rfl⟩ (by dsimp only;omega) [] (Sub.refl _)
 refine zD 8<|aF q0 (zI m) [] [] [] (Sub.refl _) ⟨_,_,rfl,rfl,by rw[hI.2,eL (by omega)];rfl,rfl⟩
theorem apu{v:Value}{xs:List Int}{ro:Nat→Option Obj}(hl:bE ro v 1 cA xs)(hn:0 <xs.length∧xs.length≤1000000):dt zT 79 [v] ro (.agg ⟨[zI (u4 xs),zI (Cf xs)]⟩):=by
 obtain⟨fI,rV,rS,eZ,rfl,tR,lQ,mO⟩:=hl
 refine bD au [] [] ba<|zD 2<|jn fun b2=>zD 4<|jp (vs:=[.slice fI xs.length eZ]) [] [] (fun aC hs hZ=>aOb ((show bE _ _ _ _ _ from ⟨fI,rV,rS,eZ,rfl,tR,lQ,mO⟩).up hs) (by omega))<|zD 1<|jp (vs:=[.slice fI xs.length eZ]) [] [] (fun aC hs hZ=>aOc ((show bE _ _ _ _ _ from ⟨fI,rV,rS,eZ,rfl,tR,lQ,mO⟩).up hs) (by omega))<|jd 4 [0]<|aF q0 (.agg ⟨[zI (u4 xs),zI (Cf xs)]⟩) [0] [] [] (Sub.refl _) ⟨_,_,rfl,rfl,rfl,rfl⟩
theorem amb{x:ai}{ro:Nat→Option Obj}:dt zT 78 [.agg ⟨[zI x.past,zI x.w0,zI x.w1,zI x.w2,zI x.w3,zI x.gone,zI x.new,zI x.af]⟩] ro (.bool true):=by
 refine bD au [] [] ba<|zD 2<|jn fun b1=>zD 7<|aF q0 (.bool true) [] [] [] (Sub.refl _) ⟨_,_,rfl,rfl,rfl,rfl⟩
theorem ae7{f:Nat}{x:ai}{c2 c3 c4:Value}{ro:Nat→Option Obj}(hf:ro f=some (.cells ⟨[c0,c1,c2,c3,c4,c5,c6,c7,zI gone,zI new,zI af,c11,vt]⟩ 128 (0,0))):dt zT 91 [zP f,.agg ⟨[zI x.past,zI x.w0,zI x.w1,zI x.w2,zI x.w3,zI x.gone,zI x.new,zI x.af]⟩] ro (.bool (cy gone new af x)):=by
 refine bD au [] [] ba<|zD 2<|jn fun b3=>jd 10 [0]<|jl (b:=f) (off:=0) (m:=13) (vs:=[c0,c1,c2,c3,c4,c5,c6,c7,zI gone,zI new,zI af,c11,vt]) 8 ⟨_,_,_,.inl hf,rfl⟩<|zD 2<|js 8 (decide (x.gone≤gone)) (fun h1=>?_) (fun h1=>?_)
 ·
  have gv:=h1
  replace gv:=of_decide_eq_true gv
  refine jd 6 [0]<|jl (b:=f) (off:=0) (m:=13) (vs:=[c0,c1,c2,c3,c4,c5,c6,c7,zI gone,zI new,zI af,c11,vt]) 9 ⟨_,_,_,.inl hf,rfl⟩<|zD 3<|js 18 (decide (x.new≤new)) (fun h2=>?_) (fun h2=>?_)
  ·
   have mI:=h2
   replace mI:=of_decide_eq_true mI
   refine jd 6 [0]<|jl (b:=f) (off:=0) (m:=13) (vs:=[c0,c1,c2,c3,c4,c5,c6,c7,zI gone,zI new,zI af,c11,vt]) 10 ⟨_,_,_,.inl hf,rfl⟩<|zD 5<|aF q0 (.bool (decide (x.af≤af))) [] [] [] (Sub.refl _) ⟨_,_,rfl,rfl,by simp_all[cy]<;>(intros;omega),rfl⟩
  have mI:=h2
  replace mI:=of_decide_eq_false mI
  refine zD 12<|aF q0 (.bool false) [] [] [] (Sub.refl _) ⟨_,_,rfl,rfl,by simp_all[cy]<;>(intros;omega),rfl⟩
 have gv:=h1
 replace gv:=of_decide_eq_false gv
 refine zD 22<|aF q0 (.bool false) [] [] [] (Sub.refl _) ⟨_,_,rfl,rfl,by simp_all[cy]<;>(intros;omega),rfl⟩
theorem aty{f i:Int}{ro:Nat→Option Obj}(hi:0≤i∧i≤8):dt zT 117 [.int .u8 f,zI i] ro (.bool (hasB f i)):=by
 refine bD au [] [] ba<|zD 8<|jsr (k:= .u8) (k':= .i64) (a:=f) (b:=i) 120 (by omega)<|zD 5<|aF q0 (.bool (decide ((T9 .u8 (aS .u8 f i) 1)=1))) [] [] [] (Sub.refl _) ⟨_,_,rfl,rfl,rfl,rfl⟩
theorem ate{p0 p1 p2 p3:Int}{ro:Nat→Option Obj}:dt zT 131 [.agg ⟨[zI p0,zI p1,zI p2,zI p3]⟩] ro (zI (rX [p0,p1,p2,p3])):=by
 refine bD au [] [] ba<|zD 2<|jn fun b1=>jd 13 [0]<|dW [1,1,0,1,0,0] [] (fun(zz:Nat×Int)=>[(2,zI 0),(3,zI zz.2),(6,.agg ⟨[zI p0,zI p1,zI p2,zI p3]⟩),(7,zI (zz.1:Int))]) (fun(zz:Nat×Int)=>[]) (fun(zz:Nat×Int)=>zz.1≤4∧zz.2=rX ([p0,p1,p2,p3].take zz.1)∧(0≤zz.2∧zz.2≤zz.1)) (fun(zz:Nat×Int)=>4-zz.1) (⟨0,0⟩) ⟨by omega,rfl,by omega⟩ [] ?_
 rintro⟨k,n⟩ hI K1 bK rest
 dsimp only at hI
 refine zD 5<|zJ 8 ((k:Int) <4) (fun h1=>?_) fun h1=>?_
 ·
  refine zD 6 ?_
  obtain⟨x9,hx9⟩:=zG ([p0,p1,p2,p3]:List Int) k (show k <4 from by omega)
  refine jai (l:=[zI p0,zI p1,zI p2,zI p3]) (k:Int) 4 1 false (by omega) (v:= zI x9) (show nth _ (k*1)=_ by rw[Nat.mul_one];exact aPB hx9) ?_
  refine zD 7<|zJ 11 (x9>0) (fun h2=>?_) fun h2=>?_
  ·
   refine zD 3<|ja (n+1) (by omega)<|zD 3<|ja ((k:Int)+1) (by omega)<|zD 2<|bJ bK (⟨k+1,(n+1)⟩) ⟨by dsimp only;omega,by rw[Kl hx9,if_pos (by assumption),hI.2.1],by dsimp only;omega⟩ (by dsimp only;omega) [] (Sub.refl _)
  refine zD 3<|ja ((k:Int)+1) (by omega)<|zD 2<|bJ bK (⟨k+1,n⟩) ⟨by dsimp only;omega,by rw[Kl hx9,if_neg (by assumption),hI.2.1,Int.add_zero],by dsimp only;omega⟩ (by dsimp only;omega) [] (Sub.refl _)
 refine zD 8<|aF q0 (zI n) [] [] [] (Sub.refl _) ⟨_,_,rfl,rfl,by rw[hI.2.1,show k=4 by omega];rfl,rfl⟩
theorem rn{xs:List α}{a:Option Addr}{o:Nat}(h:∀k,k <xs.length→a=some ⟨b,o,none⟩)(hn:a.isNone=true):xs=[]:=by
 cases xs with
 |nil=>rfl
 |cons x l=>rw[h 0 (by simp)] at hn;cases hn
theorem arQ{v:Value}{ro:Nat→Option Obj}(hl:bE ro v 1 pY xs)(hn:xs.length≤1000):eG zT 256 [v] ro [] (fun r Y=>∃L,az r 1 9 pY xs L∧Y=L):=by
 obtain⟨fI,rV,rS,eZ,rfl,tR,lQ,mO⟩:=hl
 refine bD au [] [] ba<|zD 8<|jsn 137 (a:=fI) (l:=xs.length) (c:=eZ)<|zD 1<|js 4 (fI.isNone) (fun h1=>?_) (fun h1=>?_)
 ·
  refine zD 6<|aF q0 (zS) [] [] [] (Sub.refl _) ⟨_,_,rfl,rfl,[],by rw[rn lQ (by assumption)];exact az.nil _ _ _,rfl⟩
 refine zD 4<|jn fun b5=>zD 1<|jq (sz:=1) (ps:=[]) (qs:=xs) (enc:=pY) (w:= .slice fI xs.length eZ) [0] [] [] (bA (b:=b5) (T:=9)) (fun s he _=>⟨fI,rV,rS,eZ,rfl,lQ,fun i p hp=>(mO i p hp).ext he⟩) (fun p _=>aj rfl) (by simp<;>omega) (fun v7 L7 iN=>?_)
 rw[List.nil_append] at iN
 obtain⟨SU,SO,Q3⟩:=iN.form
 subst Q3
 refine zD 3<|aF q0 ((.slice SU (xs).length SO)) [] [0] L7 (Sub.refl _) ⟨_,_,rfl,rfl,_,iN,rfl⟩
theorem aPX{f:Nat}{c2 c3 c4:Value}{ro:Nat→Option Obj}(hx:bE ro c11 3 pX fs)(hf:ro f=some (.cells ⟨[c0,c1,c2,c3,c4,c5,c6,c7,zI gone,zI new,zI af,c11,vt]⟩ 128 (0,0)))(hn:fs.length≤7):dt zT 51 [zP f] ro (.int .u8 (IntKind.u8.wrap (dD .u8 1 (fs.length:Int)-1))):=by
 obtain⟨qxa,qxb,qxo,qxc,rfl,qxk,qxh,qxl⟩:=hx
 refine bD au [] [] ba<|zD 10<|jl (b:=f) (off:=0) (m:=13) (vs:=[c0,c1,c2,c3,c4,c5,c6,c7,zI gone,zI new,zI af,.slice qxa fs.length qxc,vt]) 11 ⟨_,_,_,.inl hf,rfl⟩<|zD 1<|jsh (k:= .u8) (k':= .i64) (a:=1) (b:=(fs.length:Int)) 120 (by omega)<|zD 4<|aF q0 (.int .u8 (IntKind.u8.wrap ((dD .u8 1 (fs.length:Int))-1))) [] [] [] (Sub.refl _) ⟨_,_,rfl,rfl,rfl,rfl⟩
theorem yb{r:Value}{A B:Prop}(h:(r= .bool true∧A)∨(r= .bool false∧B)):∃c,r= .bool c∧(c=true→A)∧(c=false→B):=by
 rcases h with ⟨rfl,h⟩| ⟨rfl,h⟩
 ·exact⟨true,rfl,fun _=>h,nofun⟩
 exact⟨false,rfl,nofun,fun _=>h⟩
def uI(w f t:ByteArray)(i:Nat):ByteArray:=w.extract 0 (i:Int).toNat++t++w.extract ((i:Int)+(f.size:Int)).toNat w.size
def qk(w f t:ByteArray)(i:Nat):Option ByteArray:=if sW (w.extract i w.size) f=true∧1≤(uI w f t i).size∧(uI w f t i).size≤12 then some (uI w f t i) else none
def u1(w f t:ByteArray)(k:Nat):List ByteArray:=(List.range k).filterMap (qk w f t)
def Dw(w f t:ByteArray):List ByteArray:=u1 w f t (w.size+1)
theorem BT(w f t:ByteArray)(k:Nat):u1 w f t (k+1)=u1 w f t k++(qk w f t k).toList:=by
 rw[u1,u1,List.range_succ,List.filterMap_append]
 cases h:qk w f t k<;>simp[h]
theorem adi(w f t:ByteArray){n:Nat}(h:k≤n):∃l,u1 w f t n=u1 w f t k++l:=by
 induction n with
 |zero=>exact⟨[],by rw[show k=0 by omega];simp⟩
 |succ n ih=>
  by_cases hk:k=n+1
  ·exact⟨[],by rw[hk];simp⟩
  obtain⟨l,hl⟩:=ih (by omega)
  exact⟨l++(qk w f t n).toList,by rw[BT,hl,List.append_assoc]⟩
theorem Pt{w:ByteArray}{n:Nat}(hk:k <n)(h:qk w f t k=some x):(u1 w f t n)[(u1 w f t k).length]?=some x∧(u1 w f t (k+1)).length=(u1 w f t k).length+1:=by
 obtain⟨l,hl⟩:=adi w f t (k:=k+1) (n:=n) hk
 rw[hl,BT,h]
 constructor
 ·rw[List.append_assoc,List.getElem?_append_right (Nat.le_refl _)];simp
 simp
theorem Wx{w:ByteArray}(h:qk w f t k=none):(u1 w f t (k+1)).length=(u1 w f t k).length:=by
 rw[BT,h];simp
abbrev aqo(l:List ByteArray):(Nat→Option Obj)→Nat→List Value→Cells→Prop:=fun _ k vs LL=>∃x,l[k]?=some x∧vs=[.string x]∧LL=[]
theorem xI.ext{w:ByteArray}(h:xI w)(i j:Nat):xI (w.extract i j):=by
 intro b hb
 refine h b ?_
 have:(w.extract i j).data.toList=(w.data.extract i j).toList:=by simp[ByteArray.data_extract]
 rw[this,Array.toList_extract] at hb
 simp only[List.extract_eq_drop_take] at hb
 exact List.mem_of_mem_drop (List.mem_of_mem_take hb)
theorem xI.app{v w:ByteArray}(h:xI v)(k:xI w):xI (v++w):=by
 intro b hb
 have:(v++w).data.toList=v.data.toList++w.data.toList:=by simp[ByteArray.data_append]
 rw[this] at hb
 exact(List.mem_append.1 hb).elim (h b) (k b)
theorem J0{w:ByteArray}(hw:xI w)(ht:xI t):xI (uI w f t i):=((hw.ext _ _).app ht).app (hw.ext _ _)
theorem adL{a b:ByteArray}(h:sW a b=true):b.size≤a.size:=by
 unfold sW at h
 simp only[Bool.and_eq_true,decide_eq_true_eq] at h
 omega
def aeM(w:ByteArray):Bool:=decide ((1:Int)≤w.size)&&decide ((w.size:Int)≤12)
theorem Tn{w:ByteArray}(h:sW (w.extract (k:Int).toNat w.size) f=false):qk w f t k=none:=if_neg fun x=>by
 have h1:sW (w.extract k w.size) f=false:=h
 rw[h1] at x;cases x.1
theorem Zt{w:ByteArray}(h:aeM (uI w f t k)=false):qk w f t k=none:=if_neg fun x=>by
 simp only[aeM,Bool.and_eq_false_iff,decide_eq_false_iff_not] at h
 omega
theorem Tm{w:ByteArray}(h:sW (w.extract (k:Int).toNat w.size) f=true)(h2:aeM (uI w f t k)=true):qk w f t k=some (uI w f t k):=if_pos ⟨h,by
 simp only[aeM,Bool.and_eq_true,decide_eq_true_eq] at h2
 omega⟩
theorem Tl{w:ByteArray}(h:w.size≤100∧f.size≤100∧t.size≤100):(uI w f t k).size≤1000:=by
 simp only[uI,ByteArray.size_append,ByteArray.size_extract];omega
theorem akX{w:ByteArray}(hk:k≤w.size)(h:qk w f t k=some (uI w f t k)):(u1 w f t k).length <(Dw w f t).length∧(Dw w f t)[(u1 w f t k).length]?=some (uI w f t k):=by
 have:=(Pt (n:=w.size+1) (by omega) h).1
 exact⟨(List.getElem?_eq_some_iff.1 this).1,this⟩
theorem Vf(w:ByteArray)(a b:Nat):(w.extract a b).size≤w.size:=by simp;omega
theorem aic(w:ByteArray)(i:Nat)(h:i≤w.size):(w.extract i w.size).size=w.size-i:=by simp
theorem alF{w:ByteArray}{ro:Nat→Option Obj}(g1:ro b1=some (.cells ⟨[.string w]⟩ 308 (0,0)))(g2:ro b2=some (.cells ⟨[.string f]⟩ 9 (0,0)))(g3:ro b3=some (.cells ⟨[.string t]⟩ 9 (0,0)))(hw:xI w)(ht:xI t)(hn:w.size≤100∧f.size≤100∧t.size≤100):ItX zT 298 [] [zP b1,zP b2,zP b3] ro [] (Dw w f t).length (aqo (Dw w f t)) (fun Z=>Z=[]):=by
 intro bl aC Inv Stop hs hy B hB
 replace g1:=hs _ _ g1
 replace g2:=hs _ _ g2
 replace g3:=hs _ _ g3
 refine bD au [.l B] [] ba<|zD 2<|jl (b:=b1) (off:=0) (m:=1) (vs:=[.string w]) 0 ⟨_,_,_,.inl g1,rfl⟩<|zD 1<|ja ((w.size:Int)+1) (by omega)<|zD 3<|dW [1,0,0] [] (fun(zz:Nat×Cells)=>[(0,(.func (.yield bl) #[] #[])),(1,zP b1),(2,zP b2),(3,zP b3),(9,zI ((w.size:Int)+1)),(10,zI (zz.1:Int))]) (fun(zz:Nat×Cells)=>[.l zz.2]) (fun(zz:Nat×Cells)=>zz.1≤w.size+1∧Inv (u1 w f t zz.1).length zz.2) (fun(zz:Nat×Cells)=>w.size+1-zz.1) (⟨0,B⟩) ⟨by dsimp only;omega,hB⟩ [0] ?_
 rintro⟨k,B⟩ hI K1 bK rest
 dsimp only at hI
 refine zD 5<|zJ 11 ((k:Int) <((w.size:Int)+1)) (fun h1=>?_) fun h1=>?_
 ·
  refine zD 11 ?_
  have oV:=Vf w (k:Int).toNat w.size
  refine zD 1<|jl (b:=b1) (off:=0) (m:=1) (vs:=[.string w]) 0 ⟨_,_,_,.inl g1,rfl⟩<|zD 1<|jtL (b:=w) (lo:=(k:Int)) (by omega)<|jl (b:=b2) (off:=0) (m:=1) (vs:=[.string f]) 0 ⟨_,_,_,.inl g2,rfl⟩<|jp (vs:=[.string (w.extract (k:Int).toNat w.size),.string f]) [] [] (fun aC hs hZ=>(aaF (by omega)))<|zD 2<|js 18 (!(sW (w.extract (k:Int).toNat w.size) f)) (fun h2=>?_) (fun h2=>?_)
  ·
   try simp only[zB] at h2
   refine zD 3<|ja ((k:Int)+1) (by omega)<|zD 2<|bJ bK (⟨k+1,B⟩) ⟨by dsimp only;omega,by dsimp only;rw[Wx (Tn (by assumption))];exact hI.2⟩ (by dsimp only;omega) [0] (Sub.refl _)
  try simp only[zB] at h2
  refine zD 3 ?_
  have Ff:=Vf w 0 (k:Int).toNat
  have XZ:=Vf w ((k:Int)+(f.size:Int)).toNat w.size
  have he4:(w.extract 0 (k:Int).toNat++t).size=_:=ByteArray.size_append
  have hpr:sW (w.extract (k:Int).toNat w.size) f=true:=by assumption
  have Ss:=adL hpr
  rw[aic _ _ (by omega)] at Ss
  refine zD 1<|jl (b:=b1) (off:=0) (m:=1) (vs:=[.string w]) 0 ⟨_,_,_,.inl g1,rfl⟩<|zD 1<|jtH (b:=w) (hi:=(k:Int)) (by omega)<|jl (b:=b3) (off:=0) (m:=1) (vs:=[.string t]) 0 ⟨_,_,_,.inl g3,rfl⟩<|jsa (a:=(w.extract 0 (k:Int).toNat)) (b:=t) 308 (by omega)<|jl (b:=b1) (off:=0) (m:=1) (vs:=[.string w]) 0 ⟨_,_,_,.inl g1,rfl⟩<|zD 1<|jl (b:=b2) (off:=0) (m:=1) (vs:=[.string f]) 0 ⟨_,_,_,.inl g2,rfl⟩<|zD 1<|ja ((k:Int)+(f.size:Int)) (by omega)<|jtL (b:=w) (lo:=((k:Int)+(f.size:Int))) (by omega)<|jsa (a:=((w.extract 0 (k:Int).toNat)++t)) (b:=(w.extract ((k:Int)+(f.size:Int)).toNat w.size)) 308 (by omega)<|zD 5<|jp (vs:=[.string (((w.extract 0 (k:Int).toNat)++t)++(w.extract ((k:Int)+(f.size:Int)).toNat w.size)),zI 1,zI 12]) [] [] (fun aC hs hZ=>(P9 (J0 (i:=k) hw ht) (Tl hn)))<|zD 1<|js 33 (aeM (uI w f t k)) (fun h3=>?_) (fun h3=>?_)
  ·
   have hry:=Tm (t:=t) hpr (by assumption)
   have Sr:=akX (by omega) hry
   refine zD 2<|jyc [0] (hy (u1 w f t k).length _ [] B aC Sr.1 ⟨_,Sr.2,rfl,rfl⟩ hI.2 (Sub.refl _)) (Sub.refl _) ?_
   intro v4 Y4 hy4
   obtain⟨c4,rfl,hc4,hd4⟩:=yb hy4
   refine zD 3<|js 38 (!c4) (fun h5=>?_) (fun h5=>?_)
   ·
    try simp only[zB] at h5
    refine zD 2<|aF q0 (.tuple ⟨[]⟩) [] [0] Y4 (Sub.refl _) ⟨_,_,rfl,rfl,[],Y4,rfl,rfl,.inr (hd4 (by simp_all))⟩
   try simp only[zB] at h5
   refine zD 3<|ja ((k:Int)+1) (by omega)<|zD 2<|bJ bK (⟨k+1,Y4⟩) ⟨by dsimp only;omega,by dsimp only;rw[(Pt (n:=k+1) (by omega) hry).2];exact hc4 (by assumption)⟩ (by dsimp only;omega) [0] (Sub.refl _)
  refine zD 9<|ja ((k:Int)+1) (by omega)<|zD 2<|bJ bK (⟨k+1,B⟩) ⟨by dsimp only;omega,by dsimp only;rw[Wx (Zt (by assumption))];exact hI.2⟩ (by dsimp only;omega) [0] (Sub.refl _)
 refine zD 2<|aF q0 (.tuple ⟨[]⟩) [] [0] B (Sub.refl _) ⟨_,_,rfl,rfl,[],B,rfl,rfl,.inl (by have:=hI.2;rwa[show k=w.size+1 by omega] at this)⟩
def qm(rs:List cQ):List (ByteArray×ByteArray):=rs.flatMap fun r=>[(r.f,r.t),(r.t,r.f)]
abbrev eP2(x:ByteArray×ByteArray):List Value:=[.string x.1,.string x.2]
def jM(w:ByteArray)(ps:List (ByteArray×ByteArray)):List ByteArray:=ps.flatMap fun p=>Dw w p.1 p.2
def sG(w:ByteArray)(rs:List cQ):List ByteArray:=jM w (qm rs)
theorem Ko:∀(rs:List cQ),(qm rs).length=2*rs.length
 | []=>rfl
 |r::rs=>by have:=Ko rs;simp only[qm,List.flatMap_cons,List.length_append,List.length_cons,List.length_nil] at this ⊢;omega
theorem PM:∀ {rs:List cQ} {k q:Nat} {r:cQ} {p:ByteArray×ByteArray},rs[k]?=some r→[(r.f,r.t),(r.t,r.f)][q]?=some p→(qm rs)[2*k+q]?=some p
 | [],_,_,_,_,h,_=>by simp at h
 |r::rs,0,q,_,p,h,h2=>by
  simp only[List.getElem?_cons_zero,Option.some.injEq] at h;subst h
  simp only[qm,List.flatMap_cons,Nat.mul_zero,Nat.zero_add]
  rw[List.getElem?_append_left (by have:=(List.getElem?_eq_some_iff.1 h2).1;exact this)];exact h2
 |r::rs,k+1,q,_,p,h,h2=>by
  have:=PM (rs:=rs) (k:=k) (by simpa using h) h2
  simp only[qm,List.flatMap_cons]
  rw[List.getElem?_append_right (by simp;omega)]
  rw[show 2*(k+1)+q- [(r.f,r.t),(r.t,r.f)].length=2*k+q by simp;omega];exact this
theorem FG{w:ByteArray}{ps:List (ByteArray×ByteArray)}(h:ps[k]?=some p):jM w (ps.take (k+1))=jM w (ps.take k)++Dw w p.1 p.2:=by
 rw[jM,eX h,List.flatMap_append];simp[jM]
theorem akG{w:ByteArray}{ps:List (ByteArray×ByteArray)}{j:Nat}(h:ps[k]?=some p) (hx:(Dw w p.1 p.2)[j]?=some x):(jM w (ps.take k)).length+j <(jM w ps).length∧(jM w ps)[(jM w (ps.take k)).length+j]?=some x:=by
 have e:jM w ps=jM w (ps.take (k+1))++jM w (ps.drop (k+1)):=by rw[jM,jM,jM,←List.flatMap_append,List.take_append_drop]
 have hj:=(List.getElem?_eq_some_iff.1 hx).1
 have:(jM w ps)[(jM w (ps.take k)).length+j]?=some x:=by
  rw[e,FG h,List.append_assoc,List.getElem?_append_right (by omega),List.getElem?_append_left (by omega),show (jM w (ps.take k)).length+j-(jM w (ps.take k)).length=j by omega]
  exact hx
 exact⟨(List.getElem?_eq_some_iff.1 this).1,this⟩
theorem alk{r:cQ}{q:Nat}(h:rI r)(hp: [(r.f,r.t),(r.t,r.f)][q]?=some p):xI p.2∧(p.1.size≤100∧p.2.size≤100):=by
 have:=List.mem_of_getElem? hp
 have h1:=h.f1;have h2:=h.t1
 simp only[List.mem_cons,List.not_mem_nil,or_false] at this
 rcases this with rfl|rfl
 ·exact⟨h.tl,by dsimp only;omega,by dsimp only;omega⟩
 exact⟨h.fl,by dsimp only;omega,by dsimp only;omega⟩
theorem Z0{w:ByteArray}{ro:Nat→Option Obj}:eG zT 281 [.string w,.string f,.string t] ro [] (fun r Y=>∃b3 b4 b5,r= .func (.func 298) ⟨[]⟩ ⟨[zP b3,zP b4,zP b5]⟩∧Y=[(b3,.cells ⟨[.string w]⟩ 308 (0,0)),(b4,.cells ⟨[.string f]⟩ 9 (0,0)),(b5,.cells ⟨[.string t]⟩ 9 (0,0))]):=by
 refine bD au [] [] ba<|zD 2<|jn fun b3=>jn fun b4=>jn fun b5=>zD 8<|aF q0 (.func (.func 298) ⟨[]⟩ ⟨[zP b3,zP b4,zP b5]⟩) [] [2,1,0] ((b3,.cells ⟨[.string w]⟩ 308 (0,0))::((b4,.cells ⟨[.string f]⟩ 9 (0,0))::[(b5,.cells ⟨[.string t]⟩ 9 (0,0))])) (Sub.refl _) ⟨_,_,rfl,rfl,_,_,_,rfl,rfl⟩
theorem asP{w:ByteArray}{ro:Nat→Option Obj}(hl:bE ro vl 2 iP rs):eG zT 257 [.string w,vl] ro [] (fun r Y=>∃b2 b3,r= .func (.func 280) ⟨[]⟩ ⟨[zP b3,zP b2]⟩∧Y=[(b2,.cells ⟨[.string w]⟩ 308 (0,0)),(b3,.cells ⟨[vl]⟩ 36 (0,0))]):=by
 obtain⟨fI,rV,rS,eZ,rfl,tR,lQ,mO⟩:=hl
 refine bD au [] [] ba<|zD 2<|jn fun b2=>jn fun b3=>zD 8<|aF q0 (.func (.func 280) ⟨[]⟩ ⟨[zP b3,zP b2]⟩) [] [1,0] ((b2,.cells ⟨[.string w]⟩ 308 (0,0))::[(b3,.cells ⟨[.slice fI rs.length eZ]⟩ 36 (0,0))]) (Sub.refl _) ⟨_,_,rfl,rfl,_,_,rfl,rfl⟩
theorem alE{w:ByteArray}{ro:Nat→Option Obj}(g1:ro b1=some (.cells ⟨[vl]⟩ 36 (0,0)))(hl:bE ro vl 2 iP rs)(hR:∀r∈rs,rI r)(g2:ro b2=some (.cells ⟨[.string w]⟩ 308 (0,0)))(hw:xI w)(hn:w.size≤100)(hq:rs.length≤100):ItX zT 280 [] [zP b1,zP b2] ro [] (sG w rs).length (aqo (sG w rs)) (fun Z=>Z=[]):=by
 intro bl aC Inv Stop hs hy B hB
 replace g1:=hs _ _ g1
 replace g2:=hs _ _ g2
 replace hl:=hl.up hs
 obtain⟨fI,rV,rS,eZ,rfl,tR,lQ,mO⟩:=hl
 refine aml au [.l B] [] ba<|zD 2<|jn fun b3=>jf [0] [(b3,.cells ⟨[(.func (.yield bl) #[] #[])]⟩ 374 (0,0))] fun yH bY iU=>zD 3<|jl (b:=b1) (off:=0) (m:=1) (vs:=[.slice fI rs.length eZ]) 0 ⟨_,_,_,.inl (bY _ _ g1),rfl⟩<|zD 4<|oH<|aBW [1,1,0,0] [] (fun(zz:Nat×(List Nat)×Cells)=>[(2,zP b2),(3,zP b3),(9,.slice fI rs.length eZ),(10,zI (rs.length:Int)),(11,zI (zz.1:Int))]) (fun(zz:Nat×(List Nat)×Cells)=>[.l (mk zz.2.1),.l zz.2.2]) (fun(zz:Nat×(List Nat)×Cells)=>(zz.2.1.map eC)) (fun(zz:Nat×(List Nat)×Cells)=>zz.1≤rs.length∧Inv (jM w ((qm rs).take (2*zz.1))).length zz.2.2) (fun(zz:Nat×(List Nat)×Cells)=>rs.length-zz.1) (⟨0,[],B⟩) ⟨by dsimp only;omega,hB⟩ [0,1] ?_
 rintro⟨k,uz,B⟩ hI K1 bK rest
 dsimp only at hI
 refine zD 5<|zJ 12 ((k:Int) <(rs.length:Int)) (fun h4=>?_) fun h4=>?_
 ·
  refine zD 6 ?_
  obtain⟨x13,amB⟩:=zG rs k
  refine iA eZ 2 lQ amB<|jl 0 ((mO _ _ amB).ext (uu bY))<|jn fun b5=>jd 14 [0,0,0,0,0]<|jn fun ee=>zD 4<|aBW [1,1,0,0,1,1,0,0,1,1,0,0] [K1] (fun(zz:Nat×(List Nat)×Cells)=>[(2,zP b2),(3,zP b3),(9,.slice fI rs.length eZ),(10,zI (rs.length:Int)),(11,zI (k:Int)),(25,.slice (some ⟨ee,0,none⟩) 2 2),(26,zI 2),(27,zI (zz.1:Int))]) (fun(zz:Nat×(List Nat)×Cells)=>[.l (mk zz.2.1),.l zz.2.2,.b ee (.cells ⟨[.string x13.f,.string x13.t,.string x13.t,.string x13.f]⟩ 375 (0,0))]) (fun(zz:Nat×(List Nat)×Cells)=>(zz.2.1.map eC)) (fun(zz:Nat×(List Nat)×Cells)=>zz.1≤2∧Inv (jM w ((qm rs).take (2*k+zz.1))).length zz.2.2) (fun(zz:Nat×(List Nat)×Cells)=>2-zz.1) (⟨0,uz,B⟩) ⟨by dsimp only;omega,hI.2⟩ [2,3,0] ?_
  rintro⟨q,uz,B⟩ hJ K2 mr rest
  dsimp only at hJ
  refine zD 5<|zJ 28 ((q:Int) <2) (fun h5=>?_) fun h5=>?_
  ·
   refine zD 6 ?_
   obtain⟨Eb,AO⟩:=zG ([(x13.f,x13.t),(x13.t,x13.f)]:List _) q (show q <2 from by omega)
   refine iA (a:=(some ⟨ee,0,none⟩)) (b:=ee) (off:=0) 2 2 (fun _ _=>rfl) AO<|nS (m:=2) 0 [2] [(ee,.cells ⟨([(x13.f,x13.t),(x13.t,x13.f)].map eP2).flatten⟩ 375 (0,0))] (fun s _ hZ=>xf (hZ _ (.head _)) (by intro p hp;rfl) AO) ?_
   refine jn fun b7=>jd 3 [0] ?_
   have hpx:=PM amB AO
   have hpk:=alk (hR _ (List.mem_of_getElem? amB)) AO
   refine zD 1<|jl (b:=b2) (off:=0) (m:=1) (vs:=[.string w]) 0 ⟨_,_,_,.inl (bY _ _ g2),rfl⟩<|jd 4 [0,0]<|jc (vs:=[.string w,.string Eb.1,.string Eb.2]) [] (Z0) ?_
   rintro _ _ ⟨apl,apk,apj,rfl,rfl⟩
   refine jg 0 [.b apl (.cells ⟨[.string w]⟩ 308 (0,0)),.b apk (.cells ⟨[.string Eb.1]⟩ 9 (0,0)),.b apj (.cells ⟨[.string Eb.2]⟩ 9 (0,0))]<|jf [0,1,2] ((apl,.cells ⟨[.string w]⟩ 308 (0,0))::((apk,.cells ⟨[.string Eb.1]⟩ 9 (0,0))::[(apj,.cells ⟨[.string Eb.2]⟩ 9 (0,0))])) fun ro8 y3 hk7=>zD 2<|jrf [] (alF (hk7 _ (.head _)) (hk7 _ (.tail _ (.head _))) (hk7 _ (.tail _ (.tail _ (.head _)))) hw hpk.1 ⟨hn,hpk.2⟩) (by rintro _ _ _ _ ⟨_,_,rfl,_⟩;rfl) (fun(zz:Cells)=>[.l zz]) (fun kk=>(fun(zz:Cells)=>Inv ((jM w ((qm rs).take (2*k+q))).length+kk) zz)) (fun jump=>(fun(zz:Cells)=>jump= .ret∧Stop zz)) B (show Inv (_+0) _ from hJ.2) [2] ?_ ?_ ?_
   ·
    rintro bl9 bd9 kk9 vs9 LL9 B ro9 hk9 ave hL hs9
    obtain⟨x9,hx9,rfl,rfl⟩:=ave
    have hu:=akG hpx hx9
    refine zD 3<|jbg<|zD 3<|jl (b:=b3) (off:=0) (m:=1) (vs:=[(.func (.yield bl) #[] #[])]) 0 ⟨_,_,_,.inl (hs9 _ _ (y3 _ _ (iU _ (.head _)))),rfl⟩<|zD 1<|jyc [1] (hy ((jM w ((qm rs).take (2*k+q))).length+kk9) _ [] B ro9 hu.1 ⟨_,hu.2,rfl,rfl⟩ hL ((bY.trans y3).trans hs9)) (Sub.refl _) ?_
    intro v10 Y10 aQA
    obtain⟨c10,rfl,avC,avw⟩:=yb aQA
    refine zD 2<|js 41 (!c10) (fun h11=>?_) (fun h11=>?_)
    ·
     try simp only[zB] at h11
     refine zD 2<|jys ZF (Sub.refl _) .ret Y10 ⟨rfl,avw (by simp_all)⟩ [1,0]
    try simp only[zB] at h11
    refine zD 2<|jyn ZF (Sub.refl _) Y10 (avC (by simp_all)) [1,0]
   ·
    rintro bd9 B Z9 hL hZ9
    subst hZ9
    refine zD 1<|ja ((q:Int)+1) (by omega)<|zD 2<|jnD mr (⟨q+1,(bd9::uz),B⟩) ⟨by dsimp only;omega,by dsimp only;rw[←Nat.add_assoc,FG hpx,List.length_append];exact hL⟩ (by dsimp only;omega) [[0,4],[2],[5]] y3
   rintro bd9 B Z9 jump hS hZ9
   obtain⟨rfl,hS⟩:=hS
   subst hZ9
   exact jrM qm0.a.w.w.a.m (.tuple ⟨[]⟩) [0,4] [] [1] B (bY.trans y3) ⟨[],B,rfl,rfl,.inr hS⟩
  refine zD 3<|ja ((k:Int)+1) (by omega)<|zD 2<|jnD bK (⟨k+1,uz,B⟩) ⟨by dsimp only;omega,by have:=hJ.2;dsimp only;rwa[show 2*(k+1)=2*k+q by omega]⟩ (by dsimp only;omega) [[0],[1]] (Sub.refl _)
 refine zD 2<|jrM qm0.a.w (.tuple ⟨[]⟩) [0] [] [0] B bY ⟨[],B,rfl,rfl,.inl (by have:=hI.2;rwa[show k=rs.length by omega,List.take_of_length_le (by rw[Ko];exact Nat.le_refl _)] at this)⟩
instance:LawfulBEq ByteArray where
 eq_of_beq:=fun h=>by rw[N5] at h;exact of_decide_eq_true h
 rfl:=fun {a}=>by rw[N5];exact decide_eq_true rfl
def dd(l:List ByteArray):List ByteArray:=l.foldl (fun a x=>if x∈a then a else a++[x]) []
theorem NR(l:List ByteArray)(x:ByteArray):dd (l++[x])=if x∈dd l then dd l else dd l++[x]:=by rw[dd,List.foldl_append];rfl
theorem awF(a:List ByteArray):∀b:List ByteArray,∃r,dd (a++b)=dd a++r:=by
 intro b
 induction b generalizing a with
 |nil=>exact⟨[],by simp⟩
 |cons x b ih=>
  obtain⟨r,hr⟩:=ih (a++[x])
  rw[show a++x::b=(a++[x])++b by simp,hr,NR]
  split
  ·exact⟨r,rfl⟩
  exact⟨x::r,by simp⟩
abbrev kvS:ByteArray→Value:=fun a=> .string a
def mF(m:List ByteArray):List (ByteArray×Value):=m.map fun x=>(x,.bool true)
theorem U7(k:ByteArray):∀(m:List ByteArray) (i:Nat),(sw k (mF m) i).map (·.2)=if k∈m then some (.bool true) else none
 | [],_=>rfl
 |x::m,i=>by
  simp only[mF,List.map_cons,sw]
  by_cases h:k=x
  ·simp[h]
  have:=U7 k m (i+1)
  simp only[mF] at this
  simp[h,this]
theorem aBx{k:ByteArray}{m:List ByteArray}:Qj (.bool false) false k (mF m)= .bool (decide (k∈m)):=by
 simp only[Qj,lkM,U7]
 by_cases h:k∈m<;>simp[h]
theorem arp{k:ByteArray}{m:List ByteArray}(h:decide (k∈m)=false):mC k (.bool true) (mF m)=mF (m++[k]):=by
 have h:=of_decide_eq_false h
 have:=U7 k m 0
 rw[if_neg h] at this
 simp only[mC]
 cases hf:sw k (mF m) 0 with
 |none=>simp[mF]
 |some x=>rw[hf] at this;cases this
theorem aiB{l:List ByteArray}(hx:l[k]?=some x) (h:decide (x∈dd (l.take k))=true):dd (l.take (k+1))=dd (l.take k):=by
 rw[eX hx,NR,if_pos (of_decide_eq_true h)]
theorem Vm{l:List ByteArray}(hx:l[k]?=some x) (h:decide (x∈dd (l.take k))=false):dd (l.take (k+1))=dd (l.take k)++[x]:=by
 rw[eX hx,NR,if_neg (of_decide_eq_false h)]
theorem awG{l:List ByteArray}(hx:l[k]?=some x) (h:decide (x∈dd (l.take k))=false):∃r,dd l=dd (l.take k)++[x]++r:=by
 obtain⟨r,hr⟩:=awF (l.take (k+1)) (l.drop (k+1))
 rw[List.take_append_drop,Vm hx h] at hr
 exact⟨r,hr⟩
def OC(rs:List cQ)(to:ByteArray):Nat→ByteArray→List ByteArray→List (List ByteArray)
 |0,w,b=>if cS w to=true then [b++[w]] else []
 |n+1,w,b=>(dd (sG w rs)).flatMap fun s=>OC rs to n s (b++[w])
theorem NY{to:ByteArray}:∀ {n:Nat} {w:ByteArray} {b x:List ByteArray},x∈OC rs to n w b→x.length=b.length+n+1
 |0,w,b,x,h=>by
  simp only[OC] at h
  split at h
  ·rw[List.mem_singleton] at h;subst h;simp
  cases h
 |n+1,w,b,x,h=>by
  simp only[OC,List.mem_flatMap] at h
  obtain⟨s,_,h2⟩:=h
  have:=NY h2
  simp at this;omega
theorem akF{w:ByteArray}(hR:∀r∈rs,rI r)(hw:xI w)(h:x∈sG w rs):xI x∧x.size≤12:=by
 simp only[sG,jM,qm,List.mem_flatMap,Dw,u1,List.mem_filterMap,List.mem_range] at h
 obtain⟨p,⟨r,hr,hp⟩,i,_,hi⟩:=h
 have ht:xI p.2:=by
  simp only[List.mem_cons,List.not_mem_nil,or_false] at hp
  rcases hp with rfl|rfl
  ·exact(hR r hr).tl
  exact(hR r hr).fl
 simp only[qk] at hi
 split at hi
 ·rename_i hc
  cases hi
  exact⟨J0 hw ht,hc.2.2⟩
 cases hi
abbrev anF(L:List (List ByteArray)):(Nat→Option Obj)→Nat→List Value→Cells→Prop:=fun _ k vs LL=>∃x v,L[k]?=some x∧vs=[v]∧az v 1 9 pY x LL
structure aju(ro:Nat→Option Obj)(bl:Nat)(rs:List cQ)(to:ByteArray)(many bm bt bC br bg:Nat)(vl:Value):Prop where
 m:ro bm=some (.cells ⟨[zI (many:Int)]⟩ 3 (0,0))
 t:ro bt=some (.cells ⟨[.string to]⟩ 308 (0,0))
 y:ro bC=some (.cells ⟨[.func (.yield bl) #[] #[]]⟩ 341 (0,0))
 r:ro br=some (.cells ⟨[vl]⟩ 36 (0,0))
 g:ro bg=some (.cells ⟨[.func (.func 255) ⟨[]⟩ ⟨[zP bm,zP bt,zP bC,zP br,zP bg]⟩]⟩ 342 (0,0))
 l:bE ro vl 2 iP rs
theorem aju.up{ro aG:Nat→Option Obj}{to:ByteArray}(h:aju ro bl rs to many bm bt bC br bg vl)(hs:Sub ro aG):aju aG bl rs to many bm bt bC br bg vl:=
 ⟨hs _ _ h.m,hs _ _ h.t,hs _ _ h.y,hs _ _ h.r,hs _ _ h.g,h.l.up hs⟩
def aqM(bl:Nat)(rs:List cQ)(to:ByteArray)(many bm bt bC br bg:Nat)(vl:Value)(L:List (List ByteArray))(Inv:Nat→Cells→Prop)(Stop:Cells→Prop)(n:Nat):Prop:=
 ∀(ro:Nat→Option Obj) (w:ByteArray) (b:List ByteArray) (v:Value) (p:Nat) (B:Cells),aju ro bl rs to many bm bt bC br bg vl→bE ro v 1 pY b→b.length+n=many→xI w→w.size≤100→Part L p (OC rs to n w b)→Inv p B→YOK zT bl ro L.length (anF L) Inv Stop→
  eG zT 255 [.string w,v,zP bm,zP bt,zP bC,zP br,zP bg] ro B (fun r Y=>∃c,r= .bool c∧(c=true→Inv (p+(OC rs to n w b).length) Y)∧(c=false→Stop Y))
theorem asR{n:Nat}{w:ByteArray}{b:List ByteArray}{v:Value}{p:Nat}{B:Cells}{to:ByteArray}{L:List (List ByteArray)}{Inv:Nat→Cells→Prop}{ro:Nat→Option Obj}(ih:∀m,m <n→aqM bl rs to many bm bt bC br bg vl L Inv Stop m)(hR:∀r∈rs,rI r)(hq:rs.length≤100)(XN:many≤100)(Q5:aju ro bl rs to many bm bt bC br bg vl)(hb:bE ro v 1 pY b)(hbn:b.length+n=many)(hw:xI w)(r8:w.size≤100)(hP:Part L p (OC rs to n w b))(hB:Inv p B)(hy:YOK zT bl ro L.length (anF L) Inv Stop):eG zT 255 [.string w,v,zP bm,zP bt,zP bC,zP br,zP bg] ro B (fun r Y=>∃c,r= .bool c∧(c=true→Inv (p+(OC rs to n w b).length) Y)∧(c=false→Stop Y)):=by
 obtain⟨gm,gt,gy,gl,gg,hl⟩:=id Q5
 obtain⟨fI,rV,rS,eZ,rfl,tR,lQ,mO⟩:=hl
 obtain⟨aAy,aOy,aOu,aAx,rfl,aOw,aOx,aOv⟩:=hb
 refine aml au [.l B] [] ba<|zD 2<|jn fun b9=>zD 4<|jc (vs:=[.slice aAy b.length aAx]) [] (arQ (show bE _ _ _ _ _ from ⟨aAy,aOy,aOu,aAx,rfl,aOw,aOx,aOv⟩) (by first|omega| (simp only[List.length_set,List.length_append,List.length_cons,List.length_nil];omega))) ?_
 rintro v14 L14 ⟨_,Us,rfl⟩
 refine zD 1<|jn fun b16=>jq (sz:=1) (ps:=b) (qs:=[w]) (enc:=pY) (w:= .slice (some ⟨b16,0,none⟩) 1 1) [1] [0] [(b16,.cells ⟨([w].map pY).flatten⟩ 9 (0,0))] (Us) (fun s _ hZ=>bX [w] (hZ _ (.head _)) (by intro p hp;rfl)) (fun p _=>aj rfl) (by simp only[List.length_cons,List.length_nil];omega) (fun v17 L17 Uq=>?_)
 obtain⟨xL,xK,Jp⟩:=Uq.form
 subst Jp
 refine jn fun mb=>jd 7 [0,0]<|jl (b:=bm) (off:=0) (m:=1) (vs:=[zI (many:Int)]) 0 ⟨_,_,_,.inl gm,rfl⟩<|zD 2<|zJ 21 (((b++[w]).length:Int)>(many:Int)) (fun h1=>?_) fun h1=>?_
 ·
  refine zD 2 ?_
  obtain rfl:n=0:=by simp only[List.length_append,List.length_cons,List.length_nil] at*;omega
  refine zD 2<|jl (b:=bt) (off:=0) (m:=1) (vs:=[.string to]) 0 ⟨_,_,_,.inl gt,rfl⟩<|zD 2<|js 25 (!(cS w to)) (fun h2=>?_) (fun h2=>?_)
  ·
   have mI:=h2
   try simp only[zB] at mI
   refine jd 7 [3]<|jrM qm0 (.bool true) [] [3] [4] B (Sub.refl _) ⟨_,rfl,(fun _=>by rw[show OC rs to 0 w b=[] from if_neg (by simp_all)];exact hB),nofun⟩
  have mI:=h2
  try simp only[zB] at mI
  have agA:OC rs to 0 w b=[b++[w]]:=if_pos (by simp_all)
  have XV:=Part.get (i:=0) (x:=b++[w]) hP (by rw[agA];rfl)
  refine jl (b:=bC) (off:=0) (m:=1) (vs:=[(.func (.yield bl) #[] #[])]) 0 ⟨_,_,_,.inl gy,rfl⟩<|jd 1 [0]<|jyc [1,4] (hy p [(.slice xL ((b++[w])).length xK)] L17 B ro XV.1 ⟨_,_,XV.2,rfl,Uq⟩ hB (Sub.refl _)) (Sub.refl _) ?_
  intro v28 Y28 aQy
  obtain⟨c28,rfl,aTb,aSZ⟩:=yb aQy
  refine jd 4 [3]<|jrM qm0 (.bool c28) [] [3] [0] Y28 (Sub.refl _) ⟨_,rfl,(fun h=>by rw[agA];exact aTb h),aSZ⟩
 refine zD 3 ?_
 obtain⟨m,rfl⟩:∃m,n=m+1:=⟨n-1,by simp only[List.length_append,List.length_cons,List.length_nil] at*;omega⟩
 refine zD 1<|jmk kvS fun r30 L30 aDa=>jn fun SH=>jd 5 [0]<|jf [2,0,3] ((mb,.cells ⟨[(.slice xL ((b++[w])).length xK)]⟩ 137 (0,0))::((SH,.cells ⟨[(.map (some r30))]⟩ 344 (0,0))::L17)) (fun ro5 Iv hk4=>?_)
 have vu:=Uq.kZ hk4.tail.tail
 replace Q5:=Q5.up Iv
 replace hy:=hy.up Iv
 refine zD 1<|jl (b:=br) (off:=0) (m:=1) (vs:=[.slice fI rs.length eZ]) 0 ⟨_,_,_,.inl (Iv _ _ gl),rfl⟩<|jc (vs:=[.string w,.slice fI rs.length eZ]) [] (asP ((show bE _ _ _ _ _ from ⟨fI,rV,rS,eZ,rfl,tR,lQ,mO⟩).up Iv)) ?_
 rintro _ _ ⟨apn,apm,rfl,rfl⟩
 refine jg 0 [.b apn (.cells ⟨[.string w]⟩ 308 (0,0)),.b apm (.cells ⟨[.slice fI rs.length eZ]⟩ 36 (0,0))]<|jf [0,1] ((apn,.cells ⟨[.string w]⟩ 308 (0,0))::[(apm,.cells ⟨[.slice fI rs.length eZ]⟩ 36 (0,0))]) fun ro8 y3 hk7=>zD 2<|jrf [] (alE (hk7 _ (.tail _ (.head _))) (Q5.l.up y3) hR (hk7 _ (.head _)) hw r8 hq) (by rintro _ _ _ _ ⟨_,_,rfl,_⟩;rfl) (fun(zz:Bool×Cells×Cells)=>[.b b9 (.cells ⟨[.bool zz.1]⟩ 4 (0,0)),.l zz.2.1,.l zz.2.2]) (fun kk=>(fun(zz:Bool×Cells×Cells)=>Inv (p+((dd ((sG w rs).take kk)).flatMap fun s=>OC rs to m s (b++[w])).length) zz.2.2∧j6 r30 kvS (mF (dd ((sG w rs).take kk))) zz.2.1)) (fun jump=>(fun(zz:Bool×Cells×Cells)=>jump= .ret∧(zz.1=false∧Stop zz.2.2))) (⟨false,L30,B⟩) ⟨hB,aDa⟩ [2,0,3] ?_ ?_ ?_
 ·
  rintro bl9 bd9 kk9 vs9 LL9 ⟨rv,Lm,B⟩ ro9 hk9 ave hL hs9
  obtain⟨x9,hx9,rfl,rfl⟩:=ave
  have hue:=akF hR hw (List.mem_of_getElem? hx9)
  refine zD 3<|jbg<|zD 4<|jl (b:=SH) (off:=0) (m:=1) (vs:=[(.map (some r30))]) 0 ⟨_,_,_,.inl (hs9 _ _ (y3 _ _ (hk4 _ (.tail _ (.head _))))),rfl⟩<|zD 1<|jlu (kv:=kvS) (F:=(mF (dd ((sG w rs).take kk9)))) (r:=r30) (K:=308) x9 (.bool false) false [2] Lm (Xk (T:=308) (by kernel_rfl)) (fun s _ hZ=>hL.2.has hZ)<|jw 37 (.bool (decide (x9∈(dd ((sG w rs).take kk9))))) aBx<|zD 1<|js 37 (decide (x9∈(dd ((sG w rs).take kk9)))) (fun OA=>?_) (fun OA=>?_)
  ·
   refine zD 2<|jyn ZF (Sub.refl _) ⟨rv,Lm,B⟩ ⟨by rw[aiB hx9 (by assumption)];exact hL.1,by rw[aiB hx9 (by assumption)];exact hL.2⟩ [0,1,2,3]
  have tk:decide (x9∈dd ((sG w rs).take kk9))=false:=by assumption
  obtain⟨rr,hrr⟩:=awG hx9 tk
  have aCI:=Part.flat (G:=fun s=>OC rs to m s (b++[w])) hP hrr
  refine zD 4<|jl (b:=SH) (off:=0) (m:=1) (vs:=[(.map (some r30))]) 0 ⟨_,_,_,.inl (hs9 _ _ (y3 _ _ (hk4 _ (.tail _ (.head _))))),rfl⟩<|zD 1<|jmu (kv:=kvS) (F:=(mF (dd ((sG w rs).take kk9)))) (r:=r30) (K:=308) 2 x9 (.bool true) (Xk (T:=308) (by kernel_rfl)) hL.2 fun aIq agk=>zD 3<|jl (b:=bg) (off:=0) (m:=1) (vs:=[.func (.func 255) ⟨[]⟩ ⟨[zP bm,zP bt,zP bC,zP br,zP bg]⟩]) 0 ⟨_,_,_,.inl (hs9 _ _ (y3 _ _ (Iv _ _ gg))),rfl⟩<|zD 1<|jl (b:=mb) (off:=0) (m:=1) (vs:=[(.slice xL ((b++[w])).length xK)]) 0 ⟨_,_,_,.inl (hs9 _ _ (y3 _ _ (hk4 _ (.head _)))),rfl⟩<|jc (vs:=[.string x9,(.slice xL ((b++[w])).length xK),zP bm,zP bt,zP bC,zP br,zP bg]) [3] (ih m (by omega) _ _ _ _ (p+((dd ((sG w rs).take kk9)).flatMap fun s=>OC rs to m s (b++[w])).length) _ (Q5.up (y3.trans hs9)) (vu.up (y3.trans hs9)) (by simp only[List.length_append,List.length_cons,List.length_nil];omega) hue.1 (by omega) aCI hL.1 (hy.up (y3.trans hs9))) ?_
  rintro _ Y43 ⟨c43,rfl,aS8,aSW⟩
  refine zD 2<|js 44 (!c43) (fun IG=>?_) (fun IG=>?_)
  ·
   try simp only[zB] at IG
   refine jd 6 [3]<|jys ZF (Sub.refl _) .ret ⟨false,aIq,Y43⟩ ⟨rfl,rfl,aSW (by simp_all)⟩ [2,3,1,0]
  try simp only[zB] at IG
  refine zD 2<|jyn ZF (Sub.refl _) ⟨rv,aIq,Y43⟩ ⟨by rw[Vm hx9 tk,List.flatMap_append,List.length_append,←Nat.add_assoc];have:=aS8 (by simp_all);simpa using this,by rw[Vm hx9 tk,←arp tk];exact agk⟩ [2,3,1,0]
 ·
  rintro bd9 ⟨rv,Lm,B⟩ Z9 hL hZ9
  subst hZ9
  refine jd 5 [2]<|jrM qm0.a.a.m (.bool true) [0] [1] [3] B (Iv.trans y3) ⟨_,rfl,(fun _=>by have:=hL.1;rwa[List.take_of_length_le (Nat.le_refl _)] at this),nofun⟩
 rintro bd9 ⟨rv,Lm,B⟩ Z9 jump hS hZ9
 obtain⟨rfl,hS⟩:=hS
 obtain⟨rfl,hS⟩:=hS
 subst hZ9
 exact jrM qm0.a.a.m (.bool false) [0] [1] [3] B (Iv.trans y3) ⟨_,rfl,nofun,fun _=>hS⟩
theorem aBq{to:ByteArray}{L:List (List ByteArray)}{Inv:Nat→Cells→Prop}(hR:∀r∈rs,rI r)(hq:rs.length≤100)(XN:many≤100):∀n,aqM bl rs to many bm bt bC br bg vl L Inv Stop n:=by
 intro n
 induction n using Nat.strongRecOn with
 |_ n ih=>exact fun ro w b v p B hc hb hbn hw r8 hP hB hy=>asR ih hR hq XN hc hb hbn hw r8 hP hB hy
theorem Z3{w to:ByteArray}{ro:Nat→Option Obj}(g1:ro b1=some (.cells ⟨[zI (many:Int)]⟩ 3 (0,0)))(g2:ro b2=some (.cells ⟨[.string to]⟩ 308 (0,0)))(g3:ro b3=some (.cells ⟨[vl]⟩ 36 (0,0)))(g4:ro b4=some (.cells ⟨[.string w]⟩ 308 (0,0)))(hl:bE ro vl 2 iP rs)(hR:∀r∈rs,rI r)(hw:xI w)(r8:w.size≤100)(hq:rs.length≤100)(XN:many≤100):ItX zT 254 [] [zP b1,zP b2,zP b3,zP b4] ro [] (OC rs to many w []).length (anF (OC rs to many w [])) (fun Z=>Z=[]):=by
 intro bl aC Inv Stop hs hy B hB
 replace g1:=hs _ _ g1
 replace g2:=hs _ _ g2
 replace g3:=hs _ _ g3
 replace g4:=hs _ _ g4
 replace hl:=hl.up hs
 have hlr:=hl
 obtain⟨fI,rV,rS,eZ,rfl,tR,lQ,mO⟩:=hl
 refine bD au [.l B] [] ba<|zD 2<|jn fun b5=>zD 3<|jn fun b6=>jd 8 [0,0]<|jl (b:=b4) (off:=0) (m:=1) (vs:=[.string w]) 0 ⟨_,_,_,.inl g4,rfl⟩<|jf [1,0] ((b5,.cells ⟨[(.func (.yield bl) #[] #[])]⟩ 341 (0,0))::[(b6,.cells ⟨[.func (.func 255) ⟨[]⟩ ⟨[zP b1,zP b2,zP b5,zP b3,zP b6]⟩]⟩ 342 (0,0))]) fun yH bY iU=>jc (vs:=[.string w,zS,zP b1,zP b2,zP b5,zP b3,zP b6]) [0] (aBq hR hq XN many _ _ _ _ 0 _ ⟨bY _ _ g1,bY _ _ g2,iU _ (.head _),bY _ _ g3,iU _ (.tail _ (.head _)),hlr.up bY⟩ (bE.nil _ _ _ _ _) (by simp) hw r8 ⟨[],[],by simp,rfl⟩ hB (YOK.up hy bY)) ?_
 rintro _ Y10 ⟨c10,rfl,avC,avw⟩
 refine zD 1<|aF q0.a (.tuple ⟨[]⟩) [] [0] Y10 bY ⟨_,_,rfl,rfl,[],Y10,rfl,rfl,by cases c10 with|true=>exact .inl (by simpa using avC rfl)|false=>exact .inr (avw rfl)⟩
theorem aeq{w to:ByteArray}{many:Int}{ro:Nat→Option Obj}(hl:bE ro vl 2 iP rs):eG zT 237 [.string w,vl,.string to,zI many] ro [] (fun r Y=>∃b4 b5 b6 b7,r= .func (.func 254) ⟨[]⟩ ⟨[zP b7,zP b6,zP b5,zP b4]⟩∧Y=[(b4,.cells ⟨[.string w]⟩ 308 (0,0)),(b5,.cells ⟨[vl]⟩ 36 (0,0)),(b6,.cells ⟨[.string to]⟩ 308 (0,0)),(b7,.cells ⟨[zI many]⟩ 3 (0,0))]):=by
 obtain⟨fI,rV,rS,eZ,rfl,tR,lQ,mO⟩:=hl
 refine bD au [] [] ba<|zD 2<|jn fun b4=>jn fun b5=>jn fun b6=>jn fun b7=>zD 8<|aF q0 (.func (.func 254) ⟨[]⟩ ⟨[zP b7,zP b6,zP b5,zP b4]⟩) [] [3,2,1,0] ((b4,.cells ⟨[.string w]⟩ 308 (0,0))::((b5,.cells ⟨[.slice fI rs.length eZ]⟩ 36 (0,0))::((b6,.cells ⟨[.string to]⟩ 308 (0,0))::[(b7,.cells ⟨[zI many]⟩ 3 (0,0))]))) (Sub.refl _) ⟨_,_,rfl,rfl,_,_,_,_,rfl,rfl⟩
theorem asS{L:List (List ByteArray)}{ro:Nat→Option Obj}(hit:ItX zT 254 [] [zP b1,zP b2,zP b3,zP b4] ro [] L.length (anF L) (fun Z=>Z=[]))(hL:∀x∈L,x.length≤1000):eG zT 236 [.func (.func 254) ⟨[]⟩ ⟨[zP b1,zP b2,zP b3,zP b4]⟩,.func (.func 238) ⟨[]⟩ ⟨[]⟩] ro [] (fun r Y=>∃v,r= .tuple ⟨[v,.bool (decide (0 <L.length))]⟩∧∃ps,az v 1 9 pY ps Y∧(0 <L.length→ps∈L)):=by
 refine aml au [] [] ba<|zD 2<|jn fun b3=>zD 2<|jf [0] [(b3,.cells ⟨[.func (.func 238) ⟨[]⟩ ⟨[]⟩]⟩ 333 (0,0))] fun yH bY iU=>zD 3<|jn fun b6=>zD 3<|jn fun b7=>jd 8 [0]<|oH<|jrf [] (hit.up bY) (by rintro _ _ _ _ ⟨_,_,_,rfl,_⟩;rfl) (fun(zz:Value×(List ByteArray)×Cells×Bool)=>[.b b6 (.cells ⟨[zz.1]⟩ 137 (0,0)),.b b7 (.cells ⟨[.bool zz.2.2.2]⟩ 4 (0,0)),.l zz.2.2.1]) (fun kk=>(fun(zz:Value×(List ByteArray)×Cells×Bool)=>az zz.1 1 9 pY zz.2.1 zz.2.2.1∧zz.2.2.2=decide (0 <kk)∧(0 <kk→zz.2.1∈L)∧zz.2.1.length≤1000)) (fun jump=>(fun(zz:Value×(List ByteArray)×Cells×Bool)=>False)) (⟨zS,[],[],false⟩) ⟨az.nil _ _ _,rfl,nofun,by simp⟩ [2,1,0] ?_ ?_ ?_
 ·
  rintro bl4 bd4 kk4 vs4 LL4 ⟨v,ps,Lb,sm⟩ ro4 hk4 avf hI kF
  obtain⟨x4,v4,hx4,rfl,ho4⟩:=avf
  have hxl:=hL _ (List.mem_of_getElem? hx4)
  have Ss:=hI.2.2.2
  refine zD 3<|jbg<|jd 6 [2]<|js 13 (!sm) (fun h5=>?_) (fun h5=>?_)
  ·
   have Nz:=h5
   try simp only[zB] at Nz
   refine zD 10 ?_
   obtain⟨va6,vc6,he6⟩:=ho4.form
   subst he6
   refine jd 3 [1,2]<|jyn ZF (Sub.refl _) ⟨(.slice va6 (x4).length vc6),x4,LL4,true⟩ ⟨ho4,rfl,fun _=>List.mem_of_getElem? hx4,hxl⟩ [0,1,2,4]
  have Nz:=h5
  try simp only[zB] at Nz
  refine jl (b:=b3) (off:=0) (m:=1) (vs:=[.func (.func 238) ⟨[]⟩ ⟨[]⟩]) 0 ⟨_,_,_,.inl (kF _ _ (iU _ (.head _))),rfl⟩<|jd 2 [1]<|jp (vs:=[v4,v]) [4,3] (LL4++Lb) (fun aC hs hZ=>aOe (ho4.kZ hZ.left) (hI.1.kZ hZ.right) (by first|omega| (simp only[List.length_set,List.length_append,List.length_cons,List.length_nil];omega)) (by first|omega| (simp only[List.length_set,List.length_append,List.length_cons,List.length_nil];omega))) ?_
  refine zD 3<|zJ 19 ((NT x4 ps) <0) (fun h7=>?_) fun h7=>?_
  ·
   refine zD 3 ?_
   obtain⟨va8,vc8,he8⟩:=ho4.form
   subst he8
   refine jd 3 [1,2]<|jyn ZF (Sub.refl _) ⟨(.slice va8 (x4).length vc8),x4,LL4,true⟩ ⟨ho4,rfl,fun _=>List.mem_of_getElem? hx4,hxl⟩ [0,1,2,4]
  refine zD 2<|jyn ZF (Sub.refl _) ⟨v,ps,Lb,sm⟩ ⟨hI.1,by have:=hI.2.1;simp_all,fun _=>hI.2.2.1 (by have:=hI.2.1;simp_all),Ss⟩ [0,1,2,3]
 ·
  rintro bd4 ⟨v,ps,Lb,sm⟩ Z4 hI hZ4
  subst hZ4
  refine jd 8 [2,3]<|jrM qm0.a.m (.tuple ⟨[v,.bool sm]⟩) [0] [] [3] Lb bY ⟨v,by rw[←hI.2.1],ps,hI.1,hI.2.2.1⟩
 rintro bd4 ⟨v,ps,Lb,sm⟩ Z4 jump hS hZ4
 exact hS.elim
end Go.L
