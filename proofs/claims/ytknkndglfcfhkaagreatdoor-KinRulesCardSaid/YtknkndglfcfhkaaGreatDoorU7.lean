/- Part 7 of the proof. -/
import Derived.Test.YtknkndglfcfhkaaGreatDoorU6
set_option maxRecDepth 100000
set_option linter.all false
namespace Go.L
open Go Go.Conc Go.Proofs
variable {ro:Nat→Option Obj} {hd:List cm} {rs:List aU} {k b i many b1 b2 bB b3 bl bm bt br bg sz b4:Nat} {cs:List bO} {l:List Value} {f t x:ByteArray} {α β:Type} {xs ys:List ByteArray} {p:ByteArray×ByteArray} {fs:List cY} {vl vc vh vp c11 c0 c1 c5 c6 c7 vt:Value} {K:aC} {Stop:Cells→Prop} {T:TypeId} {r n af gone new lo hi:Int}
theorem aQW{vd:Value}{xs:List Int}(hl:bI ro vd 1 cz xs):dR zT 8 [vd] ro [] (fun r Y=>∃d,r= zP d∧bK vd xs d Y):=by
 obtain⟨fu,ry,rq,eI,rfl,tx,lv,mj⟩:=hl
 refine zE<|zD 8<|jn fun b5=>zD 3<|zR (zP b5) [] [0] [(b5,.cells ⟨[.slice fu xs.length eI,zI 0,zU 11400714819323198485]⟩ 76 (0,0))] ⟨_,rfl,0,_,Nat.zero_le _,rfl⟩
theorem dq.set{R:α→β→Prop}{l:List α}{m:List β}(h:dq R l m){a:α}{b:β}(hb:m[k]?=some b) (hr:R a b):dq R (l.set k a) m:=by
 induction h generalizing k with
 |nil=>simp at hb
 |cons h1 h2 ih=>
  cases k with
  |zero=>simp at hb;subst hb;exact .cons hr h2
  |succ k=>exact .cons h1 (ih (by simpa using hb))
theorem dq.mem{R:α→β→Prop}{l:List α}{m:List β}(h:dq R l m){a:α}(ha:a∈l):∃b∈m,R a b:=by
 obtain⟨i,hi⟩:=List.getElem?_of_mem ha
 obtain⟨b,hb,hr⟩:=h.get hi
 exact⟨b,zL hb,hr⟩
theorem mw{hv:List bx}(h:dq (q6 ro) hv hd):∀p∈hv,∀c∈lS p,single c=true:=fun p hp=>by
 obtain⟨y,_,h1⟩:=h.mem hp
 obtain⟨w,c,s,a⟩:=p
 obtain⟨_,_,_,_,e,_⟩:=h1.2.2.2
 dsimp only at e
 subst e
 exact ai rfl
theorem RD{hw:List bx}{Z L:Cells}{v:Value}{x x':bx}{y:cm}(h:∀aI,Sub ro aI→Knows aI Z→dq (q6 aI) hw hd)(hS:dq dj hw hd)(hx:hw[k]?=some x) (lG:hw[k]?=some x') (hy:hd[k]?=some y) (ho:ay v 1 3 cz y.dQ L):
 (∀aI,Sub ro aI→Knows aI (L++Z)→dq (q6 aI) (hw.set k ⟨x'.word,x'.cls,x'.nW,v⟩) hd)∧dq dj (hw.set k ⟨x'.word,x'.cls,x'.nW,v⟩) hd:=by
 rw[hx] at lG;cases lG
 obtain⟨y',h1,h2⟩:=hS.get hx
 rw[hy] at h1;cases h1
 exact⟨fun aI hs hk=>(h aI hs hk.right).set hy ⟨h2.1,h2.2.1,h2.2.2,ho.kQ hk.left⟩,hS.set hy h2⟩
theorem aa5{l m:List α}{a:α}(h:l.drop k=m.drop k):(l.set k a).drop (k+1)=m.drop (k+1):=by
 have h1:=congrArg (List.drop 1) h
 rw[List.drop_drop,List.drop_drop] at h1
 rw[List.drop_set_of_lt (by omega)]
 exact h1
theorem aiC{l m:List α}{a:α}(h:l.drop k=m.drop k)(ha:l[k]?=some a):m[k]?=some a:=by
 have h1:=congrArg (fun q=>q[0]?) h
 simp only[List.getElem?_drop,Nat.add_zero] at h1
 rw[←h1];exact ha
theorem tL{hv:List bx}(hT:YL cs hd)(hR:iT ro vc vh cs hv hd)(hS:dq dj hv hd):dR zT 39 [.agg ⟨[vc,vh]⟩] ro [] (fun r Y=>∃(hw:List bx) (ca ha:Option Addr) (cc hc:Nat) (Z:Cells),r= .agg ⟨[.slice ca cs.length cc,.slice ha hw.length hc]⟩∧dq dj hw hd∧(∀aI,Sub ro aI→Knows aI Z→iT aI (.slice ca cs.length cc) (.slice ha hw.length hc) cs hw hd)∧Y=Z):=by
 obtain⟨hc,hh,dc⟩:=id hR
 obtain⟨ei,Ae,Ad,dW,rfl,De,yq,yp⟩:=hc
 obtain⟨dG,uD,uC,dr,rfl,wP,qB,qA⟩:=hh
 have hlen:=hS.len
 have hnh:=hT.nh
 have Ds:=hT.nc
 refine zE<|zD 2<|jn fun b1=>jn fun b2=>zD 2<|GF [1,1] [] (fun(zz:Value×Cells×Value×Cells)=>[(1,zP b1),(2,zP b2)]) (fun zz=>[.b b1 (.cells ⟨[zz.1,zz.2.2.1]⟩ 35 (0,0)),.l zz.2.1,.l zz.2.2.2,.b b2 (.cells ⟨[zS,zS]⟩ 35 (0,0))]) (fun zz=>ay zz.1 2 142 oK cs zz.2.1∧ay zz.2.2.1 4 145 lS hv zz.2.2.2) ?_ (fun K1 bL=>?_)
 ·
  rintro⟨vC,LC,vH,LH⟩ hJ rest
  dsimp only at hJ
  refine zD 6<|oR<|dS [1,1,0,1,0,0] [] (fun(zz:Nat×Value×Cells×(List bx)×Cells)=>[(1,zP b1),(2,zP b2),(3,zI (zz.1:Int))]) (fun zz=>[.b b1 (.cells ⟨[vC,zz.2.1]⟩ 35 (0,0)),.l zz.2.2.1,.l zz.2.2.2.2,.l LC,.b b2 (.cells ⟨[zS,zS]⟩ 35 (0,0))]) (fun zz=>(zz.1≤zz.2.2.2.1.length∧zz.2.2.2.1.length=hv.length∧zz.2.2.2.1.drop zz.1=hv.drop zz.1)∧ay zz.2.1 4 145 lS zz.2.2.2.1 zz.2.2.1∧(∀aI,Sub ro aI→Knows aI zz.2.2.2.2→dq (q6 aI) zz.2.2.2.1 hd)∧dq dj zz.2.2.2.1 hd) (fun zz=>hv.length-zz.1) (⟨0,vH,LH,hv,[]⟩) ⟨⟨by omega,rfl,rfl⟩,hJ.2,fun _ hs _=>(hR.up hs).2.2,hS⟩ [1,3,0,2,4] ?_
  rintro⟨k,vH,LH,hw,Z⟩ hI K2 mb rest
  dsimp only at hI
  refine jd 6 [0]<|B0 hI.2.1<|zD 2<|zJ 18 ((k:Int) <(hw.length:Int)) (fun h1=>?_) fun h1=>?_
  ·
   refine jd 11 [0,0] ?_
   obtain⟨x27,IZ⟩:=zG hw k
   refine jxo 4 hI.2.1 IZ fun b27 aPe=>zD 1<|oH 3 [1] LH (fun s _ hZ=>cw hI.2.1 aPe hZ IZ)<|aS 9 (fun q9 ri p8=>?_)
   obtain⟨y27,atT,aMU⟩:=hR.2.2.get (aiC hI.1.2.2 IZ)
   have aUD:=(hT.AD _ _ atT).2.2.1.1
   refine jc (vs:=[x27.dQ]) [] (afk aMU.2.2.2 (by omega)) ?_
   rintro v30 L30 ⟨_,B4,rfl⟩
   refine ez p8 (zN 1 5) ?_
   obtain⟨x31,amD⟩:=zG hw k
   refine jxo 4 hI.2.1 amD fun ID aPc=>zD 1<|aS 12 (fun rY sb qE=>?_)
   obtain⟨va4,vc4,he4⟩:=B4.form
   subst he4
   refine So 2 3 [(.slice va4 (y27.dQ).length vc4)] (⟨x31.word,x31.cls,x31.nW,(.slice va4 (y27.dQ).length vc4)⟩:bx) hI.2.1 aPc amD rfl rfl (Nat.le_of_ble_eq_true rfl) fun L5 ho6=>fS qE []<|zD 3<|ja ((k:Int)+1) (by omega)<|zD 2<|M5 mb (⟨k+1,vH,L5,(hw.set k (⟨x31.word,x31.cls,x31.nW,(.slice va4 (y27.dQ).length vc4)⟩:bx)),L30++Z⟩) ⟨⟨by rw[List.length_set];omega,by rw[List.length_set];exact hI.1.2.1,aa5 hI.1.2.2⟩,ho6,(RD hI.2.2.1 hI.2.2.2 IZ amD atT B4).1,(RD hI.2.2.1 hI.2.2.2 IZ amD atT B4).2⟩ (by omega) [[2],[0],[1,3],[4],[5]] (Sub.refl _)
  refine jd 5 [0] ?_
  obtain⟨SW,SP,Q4⟩:=hJ.1.form
  subst Q4
  obtain⟨va8,vc8,he8⟩:=hI.2.1.form
  subst he8
  refine jd 3 [4]<|zR (.agg ⟨[(.slice SW (cs).length SP),(.slice va8 (hw).length vc8)]⟩) [4] [1,2,3] (LH++(Z++LC)) ⟨hw,_,_,_,_,_,rfl,hI.2.2.2,fun aI hs hk=>⟨hJ.1.kQ hk.right.right,hI.2.1.kQ hk.left,hI.2.2.1 aI hs hk.right.left⟩,rfl⟩
 refine jd 5 [1,1]<|ET [0,4] ⟨fun z5 t6 Ra=>?_,fun z8 t9 tS=>?_,trivial⟩
 ·
  refine jn fun b4=>ez Ra [1,2]<|ET [3,4] ⟨fun z11 t12 Nx=>?_,fun z14 t15 Em=>?_,trivial⟩
  ·
   refine iC (sz:=2) (ps:=[]) (qs:=cs) (enc:=oK) (w:= .slice ei cs.length dW) [0] [] [] (bA (b:=b4) (T:=142)) (fun s he _=>⟨ei,Ae,Ad,dW,rfl,yq,fun i p hp=>(yp i p hp).ext he⟩) (fun p _=>ai rfl) (by simp<;>omega) (fun v7 L7 ir=>?_)
   rw[List.nil_append] at ir
   obtain⟨SW,SP,Q4⟩:=ir.form
   subst Q4
   refine fS Nx [[2]]<|zD 1<|aS 4 fun V0 Wc Cg=>jn fun b8=>ez Cg [1,2,3]<|aS 7 fun ab4 acO Nw=>iC (sz:=4) (ps:=[]) (qs:=hv) (enc:=lS) (w:= .slice dG hv.length dr) [0] [] [] (bA (b:=b8) (T:=145)) (fun s he _=>⟨dG,uD,uC,dr,rfl,qB,fun i p hp=>(qA i p hp).ext he⟩) (mw dc) (by simp only[List.length_nil,Nat.zero_add];omega) (fun v11 L11 pY=>?_)
   rw[List.nil_append] at pY
   obtain⟨acB,acu,agL⟩:=pY.form
   subst agL
   refine fS Nw []<|aS 9 fun ab3 acN Nv=>jd 1 [3]<|fT Nv<|zD 1<|aS 11 fun aoy aoT Nu=>jd 1 [3]<|fT Nu<|zD 1<|bJ bL ⟨(.slice SW (cs).length SP),L7,(.slice acB (hv).length acu),L11⟩ ⟨ir,pY⟩ Nat.zero_lt_one [3,1,0,2] (Sub.refl _)
  refine jn fun b8=>ez Em [1,2,3]<|aS 3 fun ayA azt aaN=>iC (sz:=2) (ps:=[]) (qs:=cs) (enc:=oK) (w:= .slice ei cs.length dW) [1] [] [] (bA (b:=b4) (T:=142)) (fun s he _=>⟨ei,Ae,Ad,dW,rfl,yq,fun i p hp=>(yp i p hp).ext he⟩) (fun p _=>ai rfl) (by simp<;>omega) (fun v7 L7 ir=>?_)
  rw[List.nil_append] at ir
  obtain⟨SW,SP,Q4⟩:=ir.form
  subst Q4
  refine fS aaN [[3]]<|zD 1<|aS 7 fun ayz azs U0=>iC (sz:=4) (ps:=[]) (qs:=hv) (enc:=lS) (w:= .slice dG hv.length dr) [1] [] [] (bA (b:=b8) (T:=145)) (fun s he _=>⟨dG,uD,uC,dr,rfl,qB,fun i p hp=>(qA i p hp).ext he⟩) (mw dc) (by simp only[List.length_nil,Nat.zero_add];omega) (fun v11 L11 pY=>?_)
  rw[List.nil_append] at pY
  obtain⟨acB,acu,agL⟩:=pY.form
  subst agL
  refine fS U0 []<|aS 9 fun aox aoS Nt=>jd 1 [3]<|fT Nt<|zD 1<|aS 11 fun ayy azr ahh=>jd 1 [3]<|fT ahh<|zD 1<|bJ bL ⟨(.slice SW (cs).length SP),L7,(.slice acB (hv).length acu),L11⟩ ⟨ir,pY⟩ Nat.zero_lt_one [3,1,0,2] (Sub.refl _)
 refine jn fun b8=>ez tS [1,2]<|aS 0 fun aow aoR Ns=>jn fun b4=>ez Ns [1,2,3]<|aS 3 fun VZ Wb AF=>iC (sz:=2) (ps:=[]) (qs:=cs) (enc:=oK) (w:= .slice ei cs.length dW) [0] [] [] (bA (b:=b4) (T:=142)) (fun s he _=>⟨ei,Ae,Ad,dW,rfl,yq,fun i p hp=>(yp i p hp).ext he⟩) (fun p _=>ai rfl) (by simp<;>omega) (fun v7 L7 ir=>?_)
 rw[List.nil_append] at ir
 obtain⟨SW,SP,Q4⟩:=ir.form
 subst Q4
 refine fS AF [[3]]<|zD 1<|aS 7 fun Jm Ju Cf=>iC (sz:=4) (ps:=[]) (qs:=hv) (enc:=lS) (w:= .slice dG hv.length dr) [1] [] [] (bA (b:=b8) (T:=145)) (fun s he _=>⟨dG,uD,uC,dr,rfl,qB,fun i p hp=>(qA i p hp).ext he⟩) (mw dc) (by simp only[List.length_nil,Nat.zero_add];omega) (fun v11 L11 pY=>?_)
 rw[List.nil_append] at pY
 obtain⟨acB,acu,agL⟩:=pY.form
 subst agL
 refine fS Cf []<|aS 9 fun Jl Jt Ce=>jd 1 [3]<|fT Ce<|zD 1<|aS 11 fun Jk Js Cd=>jd 1 [3]<|fT Cd<|zD 1<|bJ bL ⟨(.slice SW (cs).length SP),L7,(.slice acB (hv).length acu),L11⟩ ⟨ir,pY⟩ Nat.zero_lt_one [3,1,0,2] (Sub.refl _)
structure c8 where
 a:Int
 b:Int
 c:Int
 d:Int
 e:Int
 f:Int
abbrev mB(x:c8):List Value:=[zI x.a,zI x.b,zI x.c,zI x.d,zI x.e,zI x.f]
def VT(K:aC)(l:List Value):Prop:=∃v0 v1 v3 v4 v5 v6 v7 vb fa fc,l=[v0,v1,.slice fa 0 fc,v3,v4,v5,v6,v7,zI K.gone,zI K.new,zI K.af,vb]∧∀v∈[v0,v1,v3,v4,v5,v6,v7,vb],single v=true
theorem VT.all(h:VT K l):∀v∈l,single v=true:=by
 obtain⟨v0,v1,v3,v4,v5,v6,v7,vb,fa,fc,rfl,h⟩:=h
 simp only[List.mem_cons,List.not_mem_nil,or_false] at h ⊢
 rintro v (rfl|rfl|rfl|rfl|rfl|rfl|rfl|rfl|rfl|rfl|rfl|rfl)<;>first|rfl|exact h _ (by simp)
theorem eP{v:Value}{enc:α→List Value}{ps:List α}{L:Cells}(h:ay v sz T enc ps L):single v=true:=by
 obtain⟨a,c,rfl⟩:=h.form;rfl
theorem jP{v:Value}{enc:α→List Value}{ps:List α}(h:bI ro v sz enc ps):single v=true:=by
 obtain⟨a,b,o,c,rfl,_⟩:=h;rfl
theorem zw{a b c d e f g h:Value}(h1:single a=true)(h2:single b=true)(h3:single c=true)(h4:single d=true)(h5:single e=true)(h6:single f=true)(h7:single g=true)(h8:single h=true):∀v∈[a,b,c,d,e,f,g,h],single v=true:=by
 simp only[List.mem_cons,List.not_mem_nil,or_false]
 rintro v (rfl|rfl|rfl|rfl|rfl|rfl|rfl|rfl)<;>assumption
theorem fP.L(h:fP ro l K):VT K l:=by
 obtain⟨v0,v1,v3,v4,v5,v6,v7,vb,fa,fc,hv,rfl,⟨_,h0,_⟩,⟨_,h1,_⟩,⟨h3,h4,_⟩,_,h5,h6,h7,hb⟩:=h
 exact⟨_,_,_,_,_,_,_,_,_,_,rfl,zw (jP h0) (jP h1) (jP h3) (jP h4) (jP h5) (jP h6) (jP h7) (jP hb)⟩
theorem n6{P:Prop}{p:α}(h:([]:List α)[i]?=some p):P:=by simp at h
theorem ee{l:List α}{a:α}(h:l[i]?=some a):l.take (i+1)=l.take i++[a]:=by
 rw[List.take_succ,h];rfl
theorem py{R:α→β→Prop}{ws:List α}{ls:List β}{w:α}{l:β}(h:dq R ws (ls.take i))(hl:ls[i]?=some l) (hr:R w l):dq R (ws++[w]) (ls.take (i+1)):=by
 rw[ee hl];exact h.snoc hr
def hqw:ByteArray:=bs [72,81,87]
def kindOf(r:Int):Int:=if 97≤r∧r≤122 then 1 else if (65≤r∧r≤90)∧Qv hqw (UInt8.ofNat (IntKind.u8.wrap r).toNat) <0 then 2 else 0
theorem aFe:EF zT 299 Extern.BytealgIndexByte.indexByte:=⟨Tryz.f299,Tryz.func299,by kernel_rfl,by kernel_rfl,by kernel_rfl,by kernel_rfl⟩
theorem aah{a:ByteArray}{b:Int}:dD zT 291 [.string a,.int .u8 b] ro (zI (Qv a (b).toNat.toUInt8)):=by
 refine zE<|zD 8<|jib (a:=a) (b:=b) aFe<|zD 3<|zX (zI (Qv a (b).toNat.toUInt8)) ⟨rfl,rfl⟩
theorem aai{a:ByteArray}{b:Int}:dD zT 274 [.string a,.int .u8 b] ro (zI (Qv a (b).toNat.toUInt8)):=by
 refine zE<|zD 8<|jp (vs:=[.string a,.int .u8 b]) [] [] (fun aH hs hZ=>aah)<|zD 3<|zX (zI (Qv a (b).toNat.toUInt8)) ⟨rfl,rfl⟩
theorem atM{a:ByteArray}(hr:0≤r∧r <128):dD zT 250 [.string a,.int .i32 r] ro (zI (Qv a (IntKind.u8.wrap r).toNat.toUInt8)):=by
 refine zE<|zD 10<|jj 3 [(0,.string a),(1,.int .i32 r),(4,zI 0),(166,.bool ((decide (0≤r))&&(decide (r <128))))] (fun gB=>?_) (fun hj=>?_)
 rotate_left
 refine js 163 (decide (0≤r)) (fun h1=>?_) (fun h1=>?_)
 ·
  have fQ:=h1
  replace fQ:=of_decide_eq_true fQ
  refine zD 3<|jw 166 (.bool ((decide (0≤r))&&(decide (r <128)))) (w:= .bool (decide (r <128))) (by rw[h1]<;>rfl) ?_
  exact zK hj
 ·
  have fQ:=h1
  replace fQ:=of_decide_eq_false fQ
  refine zD 3<|jw 166 (.bool ((decide (0≤r))&&(decide (r <128)))) (w:= .bool false) (by rw[h1]<;>rfl) ?_
  exact zK hj
 refine zD 2<|js 160 ((decide (0≤r))&&(decide (r <128))) (fun h2=>?_) (fun h2=>?_)
 ·
  try simp only[zB] at h2
  refine zD 6<|jp (vs:=[.string a,.int .u8 (IntKind.u8.wrap r)]) [] [] (fun aH hs hZ=>aai)<|zD 3<|zX (zI (Qv a ((IntKind.u8.wrap r)).toNat.toUInt8)) ⟨rfl,rfl⟩
 try simp only[zB] at h2
 exfalso;omega
theorem anc{a:ByteArray}(hr:0≤r∧r <128):dD zT 229 [.string a,.int .i32 r] ro (.bool (decide (Qv a (IntKind.u8.wrap r).toNat.toUInt8≥0))):=by
 refine zE<|zD 8<|jp (vs:=[.string a,.int .i32 r]) [] [] (fun aH hs hZ=>atM (by omega))<|zD 4<|zX (.bool (decide ((Qv a (IntKind.u8.wrap r).toNat.toUInt8)≥0))) ⟨rfl,rfl⟩
theorem apj:dD zT 207 [.int .i32 r] ro (zI (kindOf r)):=by
 refine zE<|zD 11<|jj 3 [(0,.int .i32 r),(2,zI 0),(9,.bool ((decide (r≥97))&&(decide (r≤122))))] (fun gB=>?_) (fun hj=>?_)
 rotate_left
 refine js 6 (decide (r≥97)) (fun h1=>?_) (fun h1=>?_)
 ·
  have fQ:=h1
  replace fQ:=of_decide_eq_true fQ
  refine zD 3<|jw 9 (.bool ((decide (r≥97))&&(decide (r≤122)))) (w:= .bool (decide (r≤122))) (by rw[h1]<;>rfl) ?_
  exact zK hj
 ·
  have fQ:=h1
  replace fQ:=of_decide_eq_false fQ
  refine zD 3<|jw 9 (.bool ((decide (r≥97))&&(decide (r≤122)))) (w:= .bool false) (by rw[h1]<;>rfl) ?_
  exact zK hj
 refine zD 2<|js 3 ((decide (r≥97))&&(decide (r≤122))) (fun h2=>?_) (fun h2=>?_)
 ·
  try simp only[zB] at h2
  refine zD 6<|zX (zI 1) ⟨by simp only[kindOf,hqw];congr 1;(try simp at*);(repeat' split)<;>omega,rfl⟩
 try simp only[zB] at h2
 refine zD 6<|jj 3 [(0,.int .i32 r),(2,zI 0),(16,.bool ((decide (r≥65))&&(decide (r≤90))))] (fun gB=>?_) (fun hj=>?_)
 rotate_left
 refine js 13 (decide (r≥65)) (fun h3=>?_) (fun h3=>?_)
 ·
  have vK:=h3
  replace vK:=of_decide_eq_true vK
  refine zD 3<|jw 16 (.bool ((decide (r≥65))&&(decide (r≤90)))) (w:= .bool (decide (r≤90))) (by rw[h3]<;>rfl) ?_
  exact zK hj
 ·
  have vK:=h3
  replace vK:=of_decide_eq_false vK
  refine zD 3<|jw 16 (.bool ((decide (r≥65))&&(decide (r≤90)))) (w:= .bool false) (by rw[h3]<;>rfl) ?_
  exact zK hj
 refine zD 1<|jj 4 [(2,zI 0),(21,.bool (((decide (r≥65))&&(decide (r≤90)))&&(!(decide (Qv (bs [72,81,87]) (IntKind.u8.wrap r).toNat.toUInt8≥0)))))] (fun gB=>?_) (fun hj=>?_)
 rotate_left
 refine js 17 ((decide (r≥65))&&(decide (r≤90))) (fun h4=>?_) (fun h4=>?_)
 ·
  have xQ:=h4
  try simp only[zB] at xQ
  refine zD 1<|jp (vs:=[.string (bs [72,81,87]),.int .i32 r]) [] [] (fun aH hs hZ=>anc (by omega))<|zD 2<|jw 21 (.bool (((decide (r≥65))&&(decide (r≤90)))&&(!(decide (Qv (bs [72,81,87]) (IntKind.u8.wrap r).toNat.toUInt8≥0))))) (w:= .bool (!(decide (Qv (bs [72,81,87]) (IntKind.u8.wrap r).toNat.toUInt8≥0)))) (by rw[h4]<;>rfl) ?_
  exact zK hj
 ·
  have xQ:=h4
  try simp only[zB] at xQ
  refine zD 4<|jw 21 (.bool (((decide (r≥65))&&(decide (r≤90)))&&(!(decide (Qv (bs [72,81,87]) (IntKind.u8.wrap r).toNat.toUInt8≥0))))) (w:= .bool false) (by rw[h4]<;>rfl) ?_
  exact zK hj
 refine zD 2<|js 10 (((decide (r≥65))&&(decide (r≤90)))&&(!(decide (Qv (bs [72,81,87]) (IntKind.u8.wrap r).toNat.toUInt8≥0)))) (fun h5=>?_) (fun h5=>?_)
 ·
  try simp only[zB] at h5
  refine zD 6<|zX (zI 2) ⟨by simp only[kindOf,hqw];congr 1;(try simp at*);(repeat' split)<;>omega,rfl⟩
 try simp only[zB] at h5
 refine zD 7<|zX (zI 0) ⟨by simp only[kindOf,hqw];congr 1;(try simp at*);(repeat' split)<;>omega,rfl⟩
theorem aeW:((List.range 256).all fun n=> !Gz (UInt8.ofNat n)||decide (kindOf (n:Int)=1))=true:=by kernel_rfl
theorem aeV:((List.range 256).all fun n=> !Gg (UInt8.ofNat n)||decide (kindOf (n:Int)=2))=true:=by kernel_rfl
def YO(w:ByteArray)(k:Int):Prop:=∀b∈w.data.toList,b.toNat <128∧kindOf (b.toNat:Int)=k
theorem Pv{w:ByteArray}(h:Script w):∃k:Int,(k=1∨k=2)∧YO w k:=by
 have hb:∀b:UInt8,UInt8.ofNat b.toNat=b:=fun b=>by simp
 rcases h with h|h
 ·refine⟨1,.inl rfl,fun b ma=>?_⟩
  have h1:=h b ma
  have h2:=List.all_eq_true.1 aeW b.toNat (List.mem_range.2 b.toNat_lt)
  rw[hb,h1] at h2
  simp only[Gz,Bool.and_eq_true,Nat.ble_eq] at h1
  exact⟨by omega,by simpa using h2⟩
 refine⟨2,.inr rfl,fun b ma=>?_⟩
 have h1:=h b ma
 have h2:=List.all_eq_true.1 aeV b.toNat (List.mem_range.2 b.toNat_lt)
 rw[hb,h1] at h2
 simp only[Gg,Bool.and_eq_true,Nat.ble_eq] at h1
 exact⟨by omega,by simpa using h2⟩
theorem alN{w:ByteArray}{k:Int}(hs:1≤w.size∧w.size≤6)(hk:k=1∨k=2)(hK:YO w k):dD zT 166 [.string w] ro (zI 0):=by
 refine zE<|zD 11<|zJ 9 ((w.size:Int)=0) (fun h1=>?_) fun h1=>?_
 ·
  exfalso;omega
 refine zD 9<|zJ 12 ((w.size:Int)>6) (fun h2=>?_) fun h2=>?_
 ·
  exfalso;omega
 refine zD 10<|jn fun r14=>zD 2<|dS [1,1,1,1,0,1,0,0] [] (fun(zz:Nat×Int)=>[(3,zI zz.2),(14,zP r14)]) (fun zz=>[.b r14 (.stringIter w zz.1)]) (fun zz=>zz.1≤w.data.toList.length∧(zz.2=0∨zz.2=k)) (fun zz=>w.data.toList.length-zz.1) (⟨0,0⟩) ⟨by omega,.inl rfl⟩ [0] ?_
 rintro⟨p,sc⟩ hI K1 bL rest
 dsimp only at hI
 refine zD 2 ?_
 cases QL:w.data.toList[p]? with
 |some zn=>
  refine jnA r14 0 QL (hK _ (zL QL)).1<|zD 7 ?_
  have XO:=(hK _ (zL QL)).2
  refine zD 7<|jp (vs:=[.int .i32 (zn.toNat:Int)]) [] [] (fun aH hs hZ=>apj)<|zD 8<|zJ 21 (sc=0) (fun h3=>?_) fun h3=>?_
  ·
   refine zD 10<|jj 4 [(3,zI (kindOf (zn.toNat:Int))),(14,zP r14),(29,.bool ((decide ((kindOf (zn.toNat:Int))=0))||(!decide ((kindOf (zn.toNat:Int))=(kindOf (zn.toNat:Int))))))] (fun gB=>?_) (fun hj=>?_)
   rotate_left
   refine js 25 (decide ((kindOf (zn.toNat:Int))=0)) (fun h4=>?_) (fun h4=>?_)
   ·
    have xQ:=h4
    replace xQ:=of_decide_eq_true xQ
    refine zD 4<|jw 29 (.bool ((decide ((kindOf (zn.toNat:Int))=0))||(!decide ((kindOf (zn.toNat:Int))=(kindOf (zn.toNat:Int)))))) (w:= .bool true) (by rw[h4]<;>rfl) ?_
    exact zK hj
   ·
    have xQ:=h4
    replace xQ:=of_decide_eq_false xQ
    refine zD 4<|jw 29 (.bool ((decide ((kindOf (zn.toNat:Int))=0))||(!decide ((kindOf (zn.toNat:Int))=(kindOf (zn.toNat:Int)))))) (w:= .bool (!decide ((kindOf (zn.toNat:Int))=(kindOf (zn.toNat:Int))))) (by rw[h4]<;>rfl) ?_
    exact zK hj
   refine zD 1<|js 29 ((decide ((kindOf (zn.toNat:Int))=0))||(!decide ((kindOf (zn.toNat:Int))=(kindOf (zn.toNat:Int))))) (fun h5=>?_) (fun h5=>?_)
   ·
    try simp only[zB] at h5
    exfalso;omega
   try simp only[zB] at h5
   refine zD 2<|bJ bL (⟨p+1,(kindOf (zn.toNat:Int))⟩) ⟨by have:=(List.getElem?_eq_some_iff.1 QL).1;dsimp only;omega,by dsimp only;omega⟩ (by have:=(List.getElem?_eq_some_iff.1 QL).1;dsimp only;omega) [0] (Sub.refl _)
  refine zD 7<|jj 4 [(3,zI sc),(14,zP r14),(29,.bool ((decide ((kindOf (zn.toNat:Int))=0))||(!decide ((kindOf (zn.toNat:Int))=sc))))] (fun gB=>?_) (fun hj=>?_)
  rotate_left
  refine js 25 (decide ((kindOf (zn.toNat:Int))=0)) (fun h6=>?_) (fun h6=>?_)
  ·
   have h6g:=h6
   replace h6g:=of_decide_eq_true h6g
   refine zD 4<|jw 29 (.bool ((decide ((kindOf (zn.toNat:Int))=0))||(!decide ((kindOf (zn.toNat:Int))=sc)))) (w:= .bool true) (by rw[h6]<;>rfl) ?_
   exact zK hj
  ·
   have h6g:=h6
   replace h6g:=of_decide_eq_false h6g
   refine zD 4<|jw 29 (.bool ((decide ((kindOf (zn.toNat:Int))=0))||(!decide ((kindOf (zn.toNat:Int))=sc)))) (w:= .bool (!decide ((kindOf (zn.toNat:Int))=sc))) (by rw[h6]<;>rfl) ?_
   exact zK hj
  refine zD 1<|js 29 ((decide ((kindOf (zn.toNat:Int))=0))||(!decide ((kindOf (zn.toNat:Int))=sc))) (fun h7=>?_) (fun h7=>?_)
  ·
   try simp only[zB] at h7
   exfalso;omega
  try simp only[zB] at h7
  refine zD 2<|bJ bL (⟨p+1,sc⟩) ⟨by have:=(List.getElem?_eq_some_iff.1 QL).1;dsimp only;omega,by dsimp only;omega⟩ (by have:=(List.getElem?_eq_some_iff.1 QL).1;dsimp only;omega) [0] (Sub.refl _)
 |none=>
  refine jnZ r14 0 QL<|zD 10<|zX (zI 0) ⟨rfl,rfl⟩
def mh:=(mN Tryz.typeInfo3 Tryz.underlying3 rfl rfl rfl rfl rfl rfl:TF zT 3 _ 1 8 _ false)
theorem aiq(a b c d:Int)(dep:Nat):EqD zT (dep+2) 79 (.agg ⟨[zI a,zI b]⟩) (.agg ⟨[zI c,zI d]⟩) (a==c&&(b==d&&true)):=
 tW (mN Tryz.typeInfo79 Tryz.underlying79 rfl rfl rfl rfl rfl rfl) Tryz.stoodInHeld79 (.cons (by decide) (jR mh rfl) (jR mh rfl) (nO mh _ _) (.cons (by decide) (jR mh rfl) (jR mh rfl) (nO mh _ _) .nil))
theorem v9(a b c d:Int):EqV zT 79 (.agg ⟨[zI a,zI b]⟩) (.agg ⟨[zI c,zI d]⟩) (a==c&&(b==d&&true)):=NO (aiq a b c d _)
theorem awA(a b c d e f:Int):EqV zT 158 (.agg ⟨[zI a,zI b,zI c]⟩) (.agg ⟨[zI d,zI e,zI f]⟩) (a==d&&(b==e&&(c==f&&true)&&true)):=
 NO (tW (mN Tryz.typeInfo158 Tryz.underlying158 rfl rfl rfl rfl rfl rfl) Tryz.stoodInHeld158 (.cons (by decide) (jR mh rfl) (jR mh rfl) (nO mh _ _) (.cons (by decide) (Gc (mN Tryz.typeInfo79 Tryz.underlying79 rfl rfl rfl rfl rfl rfl) rfl) (Gc (mN Tryz.typeInfo79 Tryz.underlying79 rfl rfl rfl rfl rfl rfl) rfl) (aiq _ _ _ _ _) .nil)))
theorem Gl:nS zT 79:=Tryz.eqGuardType79
theorem aBl:nS zT 158:=Tryz.eqGuardType158
def BI(n l:Int)(y:ah):Bool:=n==y.n&&(l==y.l&&true)
theorem TW{w:ByteArray}(hs:1≤w.size∧w.size≤6)(h:Script w):dD zT 166 [.string w] ro (zI 0):=by
 obtain⟨k,h1,h2⟩:=Pv h
 exact alN hs h1 h2
theorem Av:dD zT 74 [zI 0] ro (.tuple ⟨[]⟩):=by
 refine zE<|zD 7<|zX (.tuple ⟨[]⟩) ⟨rfl,rfl⟩
theorem Xq{x:aA}:dD zT 73 [.agg ⟨[.string x.name,zI x.st,zI x.no,zI x.head,.bool x.bold]⟩] ro (.agg ⟨[zI x.st,zI x.no,zI 0]⟩):=by
 refine zE<|zD 2<|jn fun b1=>jn fun b2=>jd 12 [1,1,0]<|zR (.agg ⟨[zI x.st,zI x.no,zI 0]⟩) [0] [] [] ⟨rfl,rfl⟩
theorem aff{v:Value}{ps:List ah}{l:Int}(hp:bI ro v 2 cG ps)(hn:ps.length≤1000):dD zT 208 [v,.agg ⟨[zI n,zI l]⟩] ro (zI (cb (BI n l) ps 0)):=by
 obtain⟨Sn,qpb,qpo,JV,rfl,qpk,ZH,ZG⟩:=hp
 refine zE<|zD 2<|jn fun b3=>zD 10<|dS [1,0,1,0,0] [] (fun(zz:Nat)=>[(0,.slice Sn ps.length JV),(3,zP b3),(7,zI (ps.length:Int)),(8,zI (zz:Int))]) (fun zz=>[.b b3 (.cells ⟨[zI n,zI l]⟩ 79 (0,0))]) (fun zz=>zz≤ps.length∧cb (BI n l) ps 0=cb (BI n l) (ps.drop zz) zz) (fun zz=>ps.length-zz) 0 ⟨by omega,rfl⟩ [0] ?_
 rintro k hI K1 bL rest
 refine zD 5<|zJ 9 ((k:Int) <(ps.length:Int)) (fun h1=>?_) fun h1=>?_
 ·
  refine jd 14 [0] ?_
  obtain⟨fD,eC⟩:=zG ps k
  refine iB JV 2 ZH eC<|jl 0 (ZG _ _ eC)<|jeq Gl (v9 n l fD.n fD.l)<|zD 1<|js 16 (n==fD.n&&(l==fD.l&&true)) (fun h2=>?_) (fun h2=>?_)
  ·
   refine zD 7<|zX (zI (k:Int)) ⟨by rw[hI.2,jB eC,show BI n l fD=true from (by assumption)];rfl,rfl⟩
  refine zD 3<|ja ((k:Int)+1) (by omega)<|zD 2<|bJ bL (k+1) ⟨by omega,by rw[hI.2,jB eC,show BI n l fD=false from (by assumption)];rfl⟩ (by omega) [0] (Sub.refl _)
 refine zD 7<|zX (zI (-1)) ⟨by rw[hI.2,qi (by omega)],rfl⟩
theorem Kw{v:Value}{ps:List ah}{l:Int}(hp:bI ro v 2 cG ps)(hn:ps.length≤1000):dD zT 167 [v,.agg ⟨[zI n,zI l]⟩] ro (.bool (decide (cb (BI n l) ps 0≥0))):=by
 obtain⟨Sn,qpb,qpo,JV,rfl,qpk,ZH,ZG⟩:=hp
 refine zE<|zD 2<|jn fun b3=>jd 6 [0]<|jp (vs:=[.slice Sn ps.length JV,.agg ⟨[zI n,zI l]⟩]) [] [] (fun aH hs hZ=>aff ((show bI _ _ _ _ _ from ⟨Sn,qpb,qpo,JV,rfl,qpk,ZH,ZG⟩).up hs) (by first|omega| (simp only[List.length_set,zM];omega))) ?_
 refine zD 4<|zX (.bool (decide ((cb (BI n l) ps 0)≥0))) ⟨rfl,rfl⟩
theorem XT{i:Int}(h:nH hd i): -1≤i∧i <hd.length:=by
 rcases h with h| ⟨h0,x,h1,_⟩
 ·omega
 have:=(List.getElem?_eq_some_iff.1 h1).1
 omega
theorem Q3{hv:List bx}{i:Int}{x:bx}(h:dq dj hv hd)(hi:nH hd i)(h0:i≥0)(hx:hv[i.toNat]?=some x):0≤x.cls:=by
 rcases hi with hi| ⟨_,y,h1,h2⟩
 ·omega
 obtain⟨z,h3,h4⟩:=h.get hx
 rw[h1] at h3;cases h3
 rw[h4.2.1];exact h2
theorem J2{S:List (List ah)}{x:aA}{l:List ah}(h:aog S hd x)(hl:S[x.st.toNat]?=some l):cb (BI x.no 0) l 0≥0:=by
 obtain⟨l',h1,h2⟩:=h.2
 rw[h1] at hl;cases hl
 have key:∀(l:List ah) (k:Nat),(⟨x.no,0⟩:ah)∈l→cb (BI x.no 0) l k≥0:=by
  intro l
  induction l with
  |nil=>intro k h;cases h
  |cons y l ih=>
   intro k h
   simp only[cb]
   cases hx:BI x.no 0 y with
   |true=>simp
   |false=>
    simp only[cond_false]
    rcases List.mem_cons.1 h with rfl|h
    ·simp[BI] at hx
    exact ih _ h
 exact key _ 0 h2
theorem ae7{x:aA}(hK:fP ro l K)(hO:ju K)(hx:aog K.str K.hd x):dD zT 123 [.agg ⟨l⟩,.agg ⟨[.string x.name,zI x.st,zI x.no,zI x.head,.bool x.bold]⟩,.bool true] ro (zI 0):=by
 obtain⟨vS,vT,vc,vh,vr,vb,va,vf,fa,fc,hv,rfl,hS,hT,p7,nv,hr,hb,ha,hf⟩:=hK
 obtain⟨gR,hs,e8⟩:=id hS
 obtain⟨iF,ht,eT⟩:=id hT
 obtain⟨hc,hh,Dv⟩:=id p7
 obtain⟨lX,TA,Ty,kX,rfl,Tz,Mp,Mo⟩:=hs
 obtain⟨eO,Ac,Aa,dP,rfl,Ab,rR,rQ⟩:=ht
 obtain⟨ei,Ae,Ad,dW,rfl,De,yq,yp⟩:=hc
 obtain⟨dG,uD,uC,dr,rfl,wP,qB,qA⟩:=hh
 obtain⟨kH,Ik,Ij,kG,rfl,Ou,FW,FV⟩:=hr
 obtain⟨lB,Ox,Ov,lf,rfl,Ow,Mt,Ms⟩:=hb
 obtain⟨kR,JZ,JX,kK,rfl,JY,IS,IQ⟩:=ha
 obtain⟨jK,Dd,Dc,iV,rfl,JW,xJ,xI⟩:=hf
 have Ca:=hO.rules
 have qy:=hO.before.1
 have OG:=hO.after.1
 have OF:=hO.facts.1
 have OE:=hO.ways.1
 have Iq:=e8.len
 have Ei:=eT.len
 have XN:=hO.oD.two
 have hl9:=hO.cZ.nh
 have Ot:∀(i:Nat) (p:c8),([]:List c8)[i]?=some p→cv ⟨ro,[]⟩ 0 (0+i*6) 6 (mB p):=fun _ _ h=>n6 h
 have hNm:=hx.1.1
 have hNs:=hNm.1
 have hHd:=hx.1.2.1
 have hHl:=XT hHd
 have hSt:=hx.1.2.2.1
 have hBd:=hx.1.2.2.2
 have hlen:=nv.len
 refine zE<|zD 2<|jn fun b3=>jn fun b4=>jd 7 [0]<|jp (vs:=[.string x.name]) [] [] (fun aH hs hZ=>(TW (by omega) hNm.2))<|jd 27 [1,0,1]<|ja ((hv.length:Int)-1) (by omega)<|jp (vs:=[zI x.head,zI (-1),zI ((hv.length:Int)-1)]) [] [] (fun aH hs hZ=>eY)<|zD 3<|js 19 (!(iy x.head (-1) ((hv.length:Int)-1))) (fun h1=>?_) (fun h1=>?_)
 ·
  try simp only[zB] at h1
  exfalso;simp only[iy,Bool.and_eq_false_iff,decide_eq_false_iff_not] at h1;omega
 try simp only[zB] at h1
 refine jd 7 [0]<|js 33 (decide (x.head≥0)) (fun h2=>?_) (fun h2=>?_)
 ·
  have me:=h2
  replace me:=of_decide_eq_true me
  refine jd 5 [1,0] ?_
  obtain⟨EH,xB⟩:=zG hv (x.head.toNat)
  refine Oz x.head dr 4 qB xB (by omega)<|zD 1<|jl 1 (qA _ _ xB)<|zD 4<|zJ 29 (EH.cls=(-1)) (fun h3=>?_) fun h3=>?_
  ·
   exfalso;have:=Q3 nv hHd (by omega) xB;omega
  refine jd 8 [0]<|ja ((gR.length:Int)-1) (by omega)<|jp (vs:=[zI x.st,zI 0,zI ((gR.length:Int)-1)]) [] [] (fun aH hs hZ=>eY)<|zD 3<|js 44 (!(iy x.st 0 ((gR.length:Int)-1))) (fun h4=>?_) (fun h4=>?_)
  ·
   try simp only[zB] at h4
   exfalso;simp only[iy,Bool.and_eq_false_iff,decide_eq_false_iff_not] at h4;omega
  try simp only[zB] at h4
  refine jd 7 [0] ?_
  obtain⟨x57,Ea⟩:=zG gR (x.st.toNat)
  refine Oz x.st kX 1 Mp Ea (by omega) ?_
  obtain⟨l58,agq,h58⟩:=e8.get Ea
  obtain aNy:=hO.oD.len _ (zL agq)
  obtain⟨adD,asq,asm,adC,rfl,aso,asp,asn⟩:=h58
  refine jl 0 (Mo _ _ Ea)<|jd 1 [0]<|jp (vs:=[.agg ⟨[.string x.name,zI x.st,zI x.no,zI x.head,.bool x.bold]⟩]) [] [] (fun aH hs hZ=>(Xq (x:=(⟨x.name,x.st,x.no,x.head,x.bold⟩:aA))))<|zD 1<|jp (vs:=[.slice adD l58.length adC,.agg ⟨[zI x.no,zI 0]⟩]) [] [] (fun aH hs hZ=>Kw ((show bI _ _ _ _ _ from ⟨adD,asq,asm,adC,rfl,aso,asp,asn⟩).up hs) (by first|omega| (simp only[List.length_set,zM];omega))) ?_
  refine zD 4<|js 44 (!(decide (cb (BI x.no 0) l58 0≥0))) (fun h5=>?_) (fun h5=>?_)
  ·
   try simp only[zB] at h5
   exfalso;have:=J2 hx agq;omega
  try simp only[zB] at h5
  refine jd 20 [0]<|js 74 x.bold (fun h6=>?_) (fun h6=>?_)
  ·
   exfalso;rw[hBd] at h6;cases h6
  refine zD 7<|zX (zI 0) ⟨rfl,rfl⟩
 have me:=h2
 replace me:=of_decide_eq_false me
 refine jd 20 [0]<|ja ((gR.length:Int)-1) (by omega)<|jp (vs:=[zI x.st,zI 0,zI ((gR.length:Int)-1)]) [] [] (fun aH hs hZ=>eY)<|zD 3<|js 44 (!(iy x.st 0 ((gR.length:Int)-1))) (fun h7=>?_) (fun h7=>?_)
 ·
  try simp only[zB] at h7
  exfalso;simp only[iy,Bool.and_eq_false_iff,decide_eq_false_iff_not] at h7;omega
 try simp only[zB] at h7
 refine jd 7 [0] ?_
 obtain⟨x57,Ea⟩:=zG gR (x.st.toNat)
 refine Oz x.st kX 1 Mp Ea (by omega) ?_
 obtain⟨l58,agq,h58⟩:=e8.get Ea
 obtain aNy:=hO.oD.len _ (zL agq)
 obtain⟨adD,asq,asm,adC,rfl,aso,asp,asn⟩:=h58
 refine jl 0 (Mo _ _ Ea)<|jd 1 [0]<|jp (vs:=[.agg ⟨[.string x.name,zI x.st,zI x.no,zI x.head,.bool x.bold]⟩]) [] [] (fun aH hs hZ=>(Xq (x:=(⟨x.name,x.st,x.no,x.head,x.bold⟩:aA))))<|zD 1<|jp (vs:=[.slice adD l58.length adC,.agg ⟨[zI x.no,zI 0]⟩]) [] [] (fun aH hs hZ=>Kw ((show bI _ _ _ _ _ from ⟨adD,asq,asm,adC,rfl,aso,asp,asn⟩).up hs) (by first|omega| (simp only[List.length_set,zM];omega))) ?_
 refine zD 4<|js 44 (!(decide (cb (BI x.no 0) l58 0≥0))) (fun h8=>?_) (fun h8=>?_)
 ·
  try simp only[zB] at h8
  exfalso;have:=J2 hx agq;omega
 try simp only[zB] at h8
 refine jd 20 [0]<|js 74 x.bold (fun h9=>?_) (fun h9=>?_)
 ·
  exfalso;rw[hBd] at h9;cases h9
 refine zD 7<|zX (zI 0) ⟨rfl,rfl⟩
theorem ae8{x:aA}(hK:fP ro l K)(hO:ju K)(hx:aGe K.hd x):dD zT 123 [.agg ⟨l⟩,.agg ⟨[.string x.name,zI x.st,zI x.no,zI x.head,.bool x.bold]⟩,.bool false] ro (zI 0):=by
 obtain⟨vS,vT,vc,vh,vr,vb,va,vf,fa,fc,hv,rfl,hS,hT,p7,nv,hr,hb,ha,hf⟩:=hK
 obtain⟨gR,hs,e8⟩:=id hS
 obtain⟨iF,ht,eT⟩:=id hT
 obtain⟨hc,hh,Dv⟩:=id p7
 obtain⟨lX,TA,Ty,kX,rfl,Tz,Mp,Mo⟩:=hs
 obtain⟨eO,Ac,Aa,dP,rfl,Ab,rR,rQ⟩:=ht
 obtain⟨ei,Ae,Ad,dW,rfl,De,yq,yp⟩:=hc
 obtain⟨dG,uD,uC,dr,rfl,wP,qB,qA⟩:=hh
 obtain⟨kH,Ik,Ij,kG,rfl,Ou,FW,FV⟩:=hr
 obtain⟨lB,Ox,Ov,lf,rfl,Ow,Mt,Ms⟩:=hb
 obtain⟨kR,JZ,JX,kK,rfl,JY,IS,IQ⟩:=ha
 obtain⟨jK,Dd,Dc,iV,rfl,JW,xJ,xI⟩:=hf
 have Ca:=hO.rules
 have qy:=hO.before.1
 have OG:=hO.after.1
 have OF:=hO.facts.1
 have OE:=hO.ways.1
 have Iq:=e8.len
 have Ei:=eT.len
 have XN:=hO.oD.two
 have hl9:=hO.cZ.nh
 have Ot:∀(i:Nat) (p:c8),([]:List c8)[i]?=some p→cv ⟨ro,[]⟩ 0 (0+i*6) 6 (mB p):=fun _ _ h=>n6 h
 have hNm:=hx.1.1
 have hNs:=hNm.1
 have hHd:=hx.1.2.1
 have hHl:=XT hHd
 have hSt:=hx.1.2.2.1
 have hBd:=hx.1.2.2.2
 have hlen:=nv.len
 have hNo:=hx.2
 refine zE<|zD 2<|jn fun b3=>jn fun b4=>jd 7 [0]<|jp (vs:=[.string x.name]) [] [] (fun aH hs hZ=>(TW (by omega) hNm.2))<|jd 27 [1,0,1]<|ja ((hv.length:Int)-1) (by omega)<|jp (vs:=[zI x.head,zI (-1),zI ((hv.length:Int)-1)]) [] [] (fun aH hs hZ=>eY)<|zD 3<|js 19 (!(iy x.head (-1) ((hv.length:Int)-1))) (fun h1=>?_) (fun h1=>?_)
 ·
  try simp only[zB] at h1
  exfalso;simp only[iy,Bool.and_eq_false_iff,decide_eq_false_iff_not] at h1;omega
 try simp only[zB] at h1
 refine jd 7 [0]<|js 33 (decide (x.head≥0)) (fun h2=>?_) (fun h2=>?_)
 ·
  have me:=h2
  replace me:=of_decide_eq_true me
  refine jd 5 [1,0] ?_
  obtain⟨EH,xB⟩:=zG hv (x.head.toNat)
  refine Oz x.head dr 4 qB xB (by omega)<|zD 1<|jl 1 (qA _ _ xB)<|zD 4<|zJ 29 (EH.cls=(-1)) (fun h3=>?_) fun h3=>?_
  ·
   exfalso;have:=Q3 nv hHd (by omega) xB;omega
  refine jd 8 [0]<|ja ((gR.length:Int)-1) (by omega)<|jp (vs:=[zI x.st,zI 0,zI ((gR.length:Int)-1)]) [] [] (fun aH hs hZ=>eY)<|zD 3<|js 44 (!(iy x.st 0 ((gR.length:Int)-1))) (fun h4=>?_) (fun h4=>?_)
  ·
   try simp only[zB] at h4
   exfalso;simp only[iy,Bool.and_eq_false_iff,decide_eq_false_iff_not] at h4;omega
  try simp only[zB] at h4
  refine jd 25 [0]<|jp (vs:=[zI x.no,zI 1,zI 40]) [] [] (fun aH hs hZ=>eY)<|zD 4<|js 65 (!(iy x.no 1 40)) (fun h5=>?_) (fun h5=>?_)
  ·
   try simp only[zB] at h5
   exfalso;simp only[iy,Bool.and_eq_false_iff,decide_eq_false_iff_not] at h5;omega
  try simp only[zB] at h5
  refine jd 7 [0]<|js 74 x.bold (fun h6=>?_) (fun h6=>?_)
  ·
   exfalso;rw[hBd] at h6;cases h6
  refine zD 7<|zX (zI 0) ⟨rfl,rfl⟩
 have me:=h2
 replace me:=of_decide_eq_false me
 refine jd 20 [0]<|ja ((gR.length:Int)-1) (by omega)<|jp (vs:=[zI x.st,zI 0,zI ((gR.length:Int)-1)]) [] [] (fun aH hs hZ=>eY)<|zD 3<|js 44 (!(iy x.st 0 ((gR.length:Int)-1))) (fun h7=>?_) (fun h7=>?_)
 ·
  try simp only[zB] at h7
  exfalso;simp only[iy,Bool.and_eq_false_iff,decide_eq_false_iff_not] at h7;omega
 try simp only[zB] at h7
 refine jd 25 [0]<|jp (vs:=[zI x.no,zI 1,zI 40]) [] [] (fun aH hs hZ=>eY)<|zD 4<|js 65 (!(iy x.no 1 40)) (fun h8=>?_) (fun h8=>?_)
 ·
  try simp only[zB] at h8
  exfalso;simp only[iy,Bool.and_eq_false_iff,decide_eq_false_iff_not] at h8;omega
 try simp only[zB] at h8
 refine jd 7 [0]<|js 74 x.bold (fun h9=>?_) (fun h9=>?_)
 ·
  exfalso;rw[hBd] at h9;cases h9
 refine zD 7<|zX (zI 0) ⟨rfl,rfl⟩
theorem fP.up{aI:Nat→Option Obj}(h:fP ro l K)(hs:Sub ro aI):fP aI l K:=by
 obtain⟨vS,vT,vc,vh,vr,vb,va,vf,fa,fc,hv,rfl,h1,h2,h3,h4,h5,h6,h7,h8⟩:=h
 exact⟨_,_,_,_,_,_,_,_,_,_,_,rfl,h1.up hs,h2.up hs,h3.up hs,h4,h5.up hs,h6.up hs,h7.up hs,h8.up hs⟩
theorem ae9(hK:fP ro l K)(hO:ju K)(hp:bI ro vp 5 eA K.before):dD zT 98 [.agg ⟨l⟩,vp,.bool true] ro (zI 0):=by
 have X4:=hK
 obtain⟨vS,vT,vc,vh,vr,vb,va,vf,fa,fc,hv,rfl,hS,hT,p7,nv,hr,hb,ha,hf⟩:=hK
 obtain⟨gR,hs,e8⟩:=id hS
 obtain⟨iF,ht,eT⟩:=id hT
 obtain⟨hc,hh,Dv⟩:=id p7
 obtain⟨lX,TA,Ty,kX,rfl,Tz,Mp,Mo⟩:=hs
 obtain⟨eO,Ac,Aa,dP,rfl,Ab,rR,rQ⟩:=ht
 obtain⟨ei,Ae,Ad,dW,rfl,De,yq,yp⟩:=hc
 obtain⟨dG,uD,uC,dr,rfl,wP,qB,qA⟩:=hh
 obtain⟨kH,Ik,Ij,kG,rfl,Ou,FW,FV⟩:=hr
 obtain⟨lB,Ox,Ov,lf,rfl,Ow,Mt,Ms⟩:=hb
 obtain⟨kR,JZ,JX,kK,rfl,JY,IS,IQ⟩:=ha
 obtain⟨jK,Dd,Dc,iV,rfl,JW,xJ,xI⟩:=hf
 have Ca:=hO.rules
 have qy:=hO.before.1
 have OG:=hO.after.1
 have OF:=hO.facts.1
 have OE:=hO.ways.1
 have Iq:=e8.len
 have Ei:=eT.len
 have XN:=hO.oD.two
 have hl9:=hO.cZ.nh
 have Ot:∀(i:Nat) (p:c8),([]:List c8)[i]?=some p→cv ⟨ro,[]⟩ 0 (0+i*6) 6 (mB p):=fun _ _ h=>n6 h
 obtain⟨Sn,qpb,qpo,JV,rfl,qpk,ZH,ZG⟩:=hp
 refine zE<|zD 2<|jn fun b3=>zD 9<|zJ 12 ((K.before.length:Int)>4) (fun h1=>?_) fun h1=>?_
 ·
  exfalso;omega
 refine zD 10<|dS [1,1,0,1,0,0] [] (fun(zz:Nat)=>[(2,.bool true),(3,zP b3),(13,.slice Sn K.before.length JV),(14,zI (K.before.length:Int)),(15,zI (zz:Int))]) (fun zz=>[.b b3 (.cells ⟨[.slice lX gR.length kX,.slice eO iF.length dP,.slice fa 0 fc,.slice ei K.cs.length dW,.slice dG hv.length dr,.slice kH K.rules.length kG,.slice lB K.before.length lf,.slice kR K.after.length kK,zI K.gone,zI K.new,zI K.af,.slice jK K.facts.length iV]⟩ 40 (0,0))]) (fun zz=>zz≤K.before.length) (fun zz=>K.before.length-zz) 0 (by omega) [0] ?_
 rintro k hI K1 bL rest
 refine zD 5<|zJ 16 ((k:Int) <(K.before.length:Int)) (fun h2=>?_) fun h2=>?_
 ·
  refine zD 6 ?_
  obtain⟨V2,GL⟩:=zG K.before k
  refine iB JV 5 ZH GL<|jl 0 (ZG _ _ GL)<|jn fun b8=>jd 7 [0,1,0]<|jp (vs:=[.agg ⟨[.slice lX gR.length kX,.slice eO iF.length dP,.slice fa 0 fc,.slice ei K.cs.length dW,.slice dG hv.length dr,.slice kH K.rules.length kG,.slice lB K.before.length lf,.slice kR K.after.length kK,zI K.gone,zI K.new,zI K.af,.slice jK K.facts.length iV]⟩,.agg ⟨[.string V2.name,zI V2.st,zI V2.no,zI V2.head,.bool V2.bold]⟩,.bool true]) [] [] (fun aH hs hZ=>(ae7 (x:=V2) (X4.up hs) hO (hO.before.2 _ (zL GL))))<|zD 10<|ja ((k:Int)+1) (by omega)<|zD 2<|bJ bL (k+1) (by omega) (by omega) [1] (Sub.refl _)
 refine zD 7<|zX (zI 0) ⟨rfl,rfl⟩
theorem afa(hK:fP ro l K)(hO:ju K)(hp:bI ro vp 5 eA K.after):dD zT 98 [.agg ⟨l⟩,vp,.bool false] ro (zI 0):=by
 have X4:=hK
 obtain⟨vS,vT,vc,vh,vr,vb,va,vf,fa,fc,hv,rfl,hS,hT,p7,nv,hr,hb,ha,hf⟩:=hK
 obtain⟨gR,hs,e8⟩:=id hS
 obtain⟨iF,ht,eT⟩:=id hT
 obtain⟨hc,hh,Dv⟩:=id p7
 obtain⟨lX,TA,Ty,kX,rfl,Tz,Mp,Mo⟩:=hs
 obtain⟨eO,Ac,Aa,dP,rfl,Ab,rR,rQ⟩:=ht
 obtain⟨ei,Ae,Ad,dW,rfl,De,yq,yp⟩:=hc
 obtain⟨dG,uD,uC,dr,rfl,wP,qB,qA⟩:=hh
 obtain⟨kH,Ik,Ij,kG,rfl,Ou,FW,FV⟩:=hr
 obtain⟨lB,Ox,Ov,lf,rfl,Ow,Mt,Ms⟩:=hb
 obtain⟨kR,JZ,JX,kK,rfl,JY,IS,IQ⟩:=ha
 obtain⟨jK,Dd,Dc,iV,rfl,JW,xJ,xI⟩:=hf
 have Ca:=hO.rules
 have qy:=hO.before.1
 have OG:=hO.after.1
 have OF:=hO.facts.1
 have OE:=hO.ways.1
 have Iq:=e8.len
 have Ei:=eT.len
 have XN:=hO.oD.two
 have hl9:=hO.cZ.nh
 have Ot:∀(i:Nat) (p:c8),([]:List c8)[i]?=some p→cv ⟨ro,[]⟩ 0 (0+i*6) 6 (mB p):=fun _ _ h=>n6 h
 obtain⟨Sn,qpb,qpo,JV,rfl,qpk,ZH,ZG⟩:=hp
 refine zE<|zD 2<|jn fun b3=>zD 9<|zJ 12 ((K.after.length:Int)>4) (fun h1=>?_) fun h1=>?_
 ·
  exfalso;omega
 refine zD 10<|dS [1,1,0,1,0,0] [] (fun(zz:Nat)=>[(2,.bool false),(3,zP b3),(13,.slice Sn K.after.length JV),(14,zI (K.after.length:Int)),(15,zI (zz:Int))]) (fun zz=>[.b b3 (.cells ⟨[.slice lX gR.length kX,.slice eO iF.length dP,.slice fa 0 fc,.slice ei K.cs.length dW,.slice dG hv.length dr,.slice kH K.rules.length kG,.slice lB K.before.length lf,.slice kR K.after.length kK,zI K.gone,zI K.new,zI K.af,.slice jK K.facts.length iV]⟩ 40 (0,0))]) (fun zz=>zz≤K.after.length) (fun zz=>K.after.length-zz) 0 (by omega) [0] ?_
 rintro k hI K1 bL rest
 refine zD 5<|zJ 16 ((k:Int) <(K.after.length:Int)) (fun h2=>?_) fun h2=>?_
 ·
  refine zD 6 ?_
  obtain⟨V2,GL⟩:=zG K.after k
  refine iB JV 5 ZH GL<|jl 0 (ZG _ _ GL)<|jn fun b8=>jd 7 [0,1,0]<|jp (vs:=[.agg ⟨[.slice lX gR.length kX,.slice eO iF.length dP,.slice fa 0 fc,.slice ei K.cs.length dW,.slice dG hv.length dr,.slice kH K.rules.length kG,.slice lB K.before.length lf,.slice kR K.after.length kK,zI K.gone,zI K.new,zI K.af,.slice jK K.facts.length iV]⟩,.agg ⟨[.string V2.name,zI V2.st,zI V2.no,zI V2.head,.bool V2.bold]⟩,.bool false]) [] [] (fun aH hs hZ=>(ae8 (x:=V2) (X4.up hs) hO (hO.after.2 _ (zL GL))))<|zD 10<|ja ((k:Int)+1) (by omega)<|zD 2<|bJ bL (k+1) (by omega) (by omega) [1] (Sub.refl _)
 refine zD 7<|zX (zI 0) ⟨rfl,rfl⟩
theorem ati{x y:cY}(hb:ro b=some (.cells ⟨[zI y.a,zI y.b,.bool y.same]⟩ 58 (0,0))):dD zT 125 [.agg ⟨[zI x.a,zI x.b,.bool x.same]⟩,zP b] ro (.bool (decide (x.a=y.a)&&decide (x.b=y.b))):=by
 refine zE<|zD 2<|jn fun b2=>jd 7 [0]<|jl (b:=b) (off:=0) (m:=3) (vs:=[zI y.a,zI y.b,.bool y.same]) 0 ⟨_,_,_,.inl hb,rfl⟩<|zD 2<|jj 6 [(3,.bool false),(15,.bool ((decide (x.a=y.a))&&(decide (x.b=y.b))))] (fun gB=>?_) (fun hj=>?_)
 rotate_left
 refine js 9 (decide (x.a=y.a)) (fun h1=>?_) (fun h1=>?_)
 ·
  have fQ:=h1
  replace fQ:=of_decide_eq_true fQ
  refine jd 3 [0]<|jl (b:=b) (off:=0) (m:=3) (vs:=[zI y.a,zI y.b,.bool y.same]) 1 ⟨_,_,_,.inl hb,rfl⟩<|zD 2<|jw 15 (.bool ((decide (x.a=y.a))&&(decide (x.b=y.b)))) (w:= .bool (decide (x.b=y.b))) (by rw[h1]<;>rfl) ?_
  exact zK hj
 ·
  have fQ:=h1
  replace fQ:=of_decide_eq_false fQ
  refine zD 6<|jw 15 (.bool ((decide (x.a=y.a))&&(decide (x.b=y.b)))) (w:= .bool false) (by rw[h1]<;>rfl) ?_
  exact zK hj
 refine zD 3<|zX (.bool ((decide (x.a=y.a))&&(decide (x.b=y.b)))) ⟨rfl,rfl⟩
def DV(x y:cY):Bool:=decide (y.a=x.a)&&decide (y.b=x.b)
theorem Cp{p:α→Bool}:∀ {l:List α} {k:Nat},(∀y∈l,p y=false)→cb p l k= -1
 | [],_,_=>rfl
 |x::l,k,h=>by simp only[cb,h x (List.mem_cons_self ..),cond_false];exact Cp fun y hy=>h y (List.mem_cons_of_mem _ hy)
theorem aic{x:cY}(h:fs.Pairwise fun x y=>¬(x.a=y.a∧x.b=y.b))(hx:fs[i]?=some x):cb (DV x) (fs.take i) 0 <0:=by
 rw[Cp]
 ·omega
 intro y hy
 obtain⟨j,hj⟩:=List.getElem?_of_mem hy
 rw[List.getElem?_take] at hj
 split at hj
 ·rename_i ze
  have:=pK h ze hj hx
  simp only[DV,Bool.and_eq_false_iff,decide_eq_false_iff_not]
  by_cases h1:y.a=x.a
  ·exact .inr fun h2=>this ⟨h1,h2⟩
  exact .inl h1
 cases hj
theorem atA{v:Value}{x:cY}(hf:bI ro v 3 rM fs)(hn:fs.length≤1000)(hb:ro b=some (.cells ⟨[zI x.a,zI x.b,.bool x.same]⟩ 58 (0,0))):dD zT 168 [v,.func (.func 125) ⟨[]⟩ ⟨[zP b]⟩] ro (zI (cb (DV x) fs 0)):=by
 obtain⟨jK,Dd,Dc,iV,rfl,JW,xJ,xI⟩:=hf
 refine zE<|zD 12<|dS [1,0,1,0,0] [] (fun(zz:Nat)=>[(0,.slice jK fs.length iV),(1,.func (.func 125) ⟨[]⟩ ⟨[zP b]⟩),(7,zI (fs.length:Int)),(8,zI (zz:Int))]) (fun zz=>[]) (fun zz=>zz≤fs.length∧cb (DV x) fs 0=cb (DV x) (fs.drop zz) zz) (fun zz=>fs.length-zz) 0 ⟨by omega,rfl⟩ [] ?_
 rintro k hI K1 bL rest
 refine zD 5<|zJ 9 ((k:Int) <(fs.length:Int)) (fun h1=>?_) fun h1=>?_
 ·
  refine zD 14 ?_
  obtain⟨fD,eC⟩:=zG fs k
  refine iB iV 3 xJ eC<|jl 0 (xI _ _ eC)<|jp (vs:=[.agg ⟨[zI fD.a,zI fD.b,.bool fD.same]⟩,zP b]) [] [] (fun aH hs hZ=>(ati (hs _ _ hb)))<|zD 1<|js 16 (DV x fD) (fun h2=>?_) (fun h2=>?_)
  ·
   refine zD 7<|zX (zI (k:Int)) ⟨by rw[hI.2,jB eC,show DV x fD=true from (by assumption)];rfl,rfl⟩
  refine zD 3<|ja ((k:Int)+1) (by omega)<|zD 2<|bJ bL (k+1) ⟨by omega,by rw[hI.2,jB eC,show DV x fD=false from (by assumption)];rfl⟩ (by omega) [] (Sub.refl _)
 refine zD 7<|zX (zI (-1)) ⟨by rw[hI.2,qi (by omega)],rfl⟩
theorem ami{v:Value}{x:cY}(hf:bI ro v 3 rM fs)(hn:fs.length≤1000)(hb:ro b=some (.cells ⟨[zI x.a,zI x.b,.bool x.same]⟩ 58 (0,0))):dD zT 124 [v,.func (.func 125) ⟨[]⟩ ⟨[zP b]⟩] ro (.bool (decide (cb (DV x) fs 0≥0))):=by
 obtain⟨jK,Dd,Dc,iV,rfl,JW,xJ,xI⟩:=hf
 refine zE<|zD 8<|jp (vs:=[.slice jK fs.length iV,.func (.func 125) ⟨[]⟩ ⟨[zP b]⟩]) [] [] (fun aH hs hZ=>atA ((show bI _ _ _ _ _ from ⟨jK,Dd,Dc,iV,rfl,JW,xJ,xI⟩).up hs) (by first|omega| (simp only[List.length_set,zM];omega)) (hs _ _ hb)) ?_
 refine zD 4<|zX (.bool (decide ((cb (DV x) fs 0)≥0))) ⟨rfl,rfl⟩
theorem aBN{x:cY}(hK:fP ro l K)(hO:ju K)(hp:bI ro vp 3 rM fs)(hn:fs.length≤1000)(hx:(0≤x.a∧x.a <K.before.length)∧(0≤x.b∧x.b <K.after.length))(hw:cb (DV x) fs 0 <0):dD zT 99 [.agg ⟨l⟩,vp,.agg ⟨[zI x.a,zI x.b,.bool x.same]⟩] ro (zI 0):=by
 obtain⟨vS,vT,vc,vh,vr,vb,va,vf,fa,fc,hv,rfl,hS,hT,p7,nv,hr,hb,ha,hf⟩:=hK
 obtain⟨gR,hs,e8⟩:=id hS
 obtain⟨iF,ht,eT⟩:=id hT
 obtain⟨hc,hh,Dv⟩:=id p7
 obtain⟨lX,TA,Ty,kX,rfl,Tz,Mp,Mo⟩:=hs
 obtain⟨eO,Ac,Aa,dP,rfl,Ab,rR,rQ⟩:=ht
 obtain⟨ei,Ae,Ad,dW,rfl,De,yq,yp⟩:=hc
 obtain⟨dG,uD,uC,dr,rfl,wP,qB,qA⟩:=hh
 obtain⟨kH,Ik,Ij,kG,rfl,Ou,FW,FV⟩:=hr
 obtain⟨lB,Ox,Ov,lf,rfl,Ow,Mt,Ms⟩:=hb
 obtain⟨kR,JZ,JX,kK,rfl,JY,IS,IQ⟩:=ha
 obtain⟨jK,Dd,Dc,iV,rfl,JW,xJ,xI⟩:=hf
 have Ca:=hO.rules
 have qy:=hO.before.1
 have OG:=hO.after.1
 have OF:=hO.facts.1
 have OE:=hO.ways.1
 have Iq:=e8.len
 have Ei:=eT.len
 have XN:=hO.oD.two
 have hl9:=hO.cZ.nh
 have Ot:∀(i:Nat) (p:c8),([]:List c8)[i]?=some p→cv ⟨ro,[]⟩ 0 (0+i*6) 6 (mB p):=fun _ _ h=>n6 h
 obtain⟨Sn,qpb,qpo,JV,rfl,qpk,ZH,ZG⟩:=hp
 refine zE<|zD 2<|jn fun b3=>jn fun b5=>jd 12 [0,1]<|ja ((K.before.length:Int)-1) (by omega)<|jp (vs:=[zI x.a,zI 0,zI ((K.before.length:Int)-1)]) [] [] (fun aH hs hZ=>eY)<|zD 3<|js 7 (!(iy x.a 0 ((K.before.length:Int)-1))) (fun h1=>?_) (fun h1=>?_)
 ·
  try simp only[zB] at h1
  exfalso;simp only[iy,Bool.and_eq_false_iff,decide_eq_false_iff_not] at h1;omega
 try simp only[zB] at h1
 refine jd 7 [0,1]<|ja ((K.after.length:Int)-1) (by omega)<|jp (vs:=[zI x.b,zI 0,zI ((K.after.length:Int)-1)]) [] [] (fun aH hs hZ=>eY)<|zD 3<|js 7 (!(iy x.b 0 ((K.after.length:Int)-1))) (fun h2=>?_) (fun h2=>?_)
 ·
  try simp only[zB] at h2
  exfalso;simp only[iy,Bool.and_eq_false_iff,decide_eq_false_iff_not] at h2;omega
 try simp only[zB] at h2
 refine zD 5<|jp (vs:=[.slice Sn fs.length JV,.func (.func 125) ⟨[]⟩ ⟨[zP b5]⟩]) [0] [(b5,.cells ⟨[zI x.a,zI x.b,.bool x.same]⟩ 58 (0,0))] (fun aH hs hZ=>ami ((show bI _ _ _ _ _ from ⟨Sn,qpb,qpo,JV,rfl,qpk,ZH,ZG⟩).up hs) (by first|omega| (simp only[List.length_set,zM];omega)) hZ.head) ?_
 refine zD 2<|js 24 (decide (cb (DV x) fs 0≥0)) (fun h3=>?_) (fun h3=>?_)
 ·
  exfalso;have:=of_decide_eq_true h3;omega
 refine zD 7<|zX (zI 0) ⟨rfl,rfl⟩
theorem azy{w:ByteArray}(hs:1≤w.size∧w.size≤12)(hc:cQ w (bs [99,108,97,115,115])=false)(hf:cQ w (bs [102,105,110,105,115])=false)(hK:∀b∈w.data.toList,97≤b.toNat∧b.toNat≤122):dD zT 197 [.string w] ro (.bool true):=by
 refine zE<|zD 11<|jj 4 [(0,.string w),(2,.bool false),(12,.bool ((decide ((w.size:Int)=0))||(decide ((w.size:Int)>12))))] (fun gB=>?_) (fun hj=>?_)
 rotate_left
 refine js 8 (decide ((w.size:Int)=0)) (fun h1=>?_) (fun h1=>?_)
 ·
  have fQ:=h1
  replace fQ:=of_decide_eq_true fQ
  refine zD 4<|jw 12 (.bool ((decide ((w.size:Int)=0))||(decide ((w.size:Int)>12)))) (w:= .bool true) (by rw[h1]<;>rfl) ?_
  exact zK hj
 ·
  have fQ:=h1
  replace fQ:=of_decide_eq_false fQ
  refine zD 4<|jw 12 (.bool ((decide ((w.size:Int)=0))||(decide ((w.size:Int)>12)))) (w:= .bool (decide ((w.size:Int)>12))) (by rw[h1]<;>rfl) ?_
  exact zK hj
 refine zD 1<|jj 3 [(0,.string w),(2,.bool false),(16,.bool (((decide ((w.size:Int)=0))||(decide ((w.size:Int)>12)))||(cQ w (bs [99,108,97,115,115]))))] (fun gB=>?_) (fun hj=>?_)
 rotate_left
 refine js 13 ((decide ((w.size:Int)=0))||(decide ((w.size:Int)>12))) (fun h2=>?_) (fun h2=>?_)
 ·
  have me:=h2
  try simp only[zB] at me
  refine zD 3<|jw 16 (.bool (((decide ((w.size:Int)=0))||(decide ((w.size:Int)>12)))||(cQ w (bs [99,108,97,115,115])))) (w:= .bool true) (by rw[h2]<;>rfl) ?_
  exact zK hj
 ·
  have me:=h2
  try simp only[zB] at me
  refine zD 3<|jw 16 (.bool (((decide ((w.size:Int)=0))||(decide ((w.size:Int)>12)))||(cQ w (bs [99,108,97,115,115])))) (w:= .bool (cQ w (bs [99,108,97,115,115]))) (by rw[h2]<;>rfl) ?_
  exact zK hj
 refine zD 1<|jj 3 [(0,.string w),(2,.bool false),(20,.bool ((((decide ((w.size:Int)=0))||(decide ((w.size:Int)>12)))||(cQ w (bs [99,108,97,115,115])))||(cQ w (bs [102,105,110,105,115]))))] (fun gB=>?_) (fun hj=>?_)
 rotate_left
 refine js 17 (((decide ((w.size:Int)=0))||(decide ((w.size:Int)>12)))||(cQ w (bs [99,108,97,115,115]))) (fun h3=>?_) (fun h3=>?_)
 ·
  have vK:=h3
  try simp only[zB] at vK
  refine zD 3<|jw 20 (.bool ((((decide ((w.size:Int)=0))||(decide ((w.size:Int)>12)))||(cQ w (bs [99,108,97,115,115])))||(cQ w (bs [102,105,110,105,115])))) (w:= .bool true) (by rw[h3]<;>rfl) ?_
  exact zK hj
 ·
  have vK:=h3
  try simp only[zB] at vK
  refine zD 3<|jw 20 (.bool ((((decide ((w.size:Int)=0))||(decide ((w.size:Int)>12)))||(cQ w (bs [99,108,97,115,115])))||(cQ w (bs [102,105,110,105,115])))) (w:= .bool (cQ w (bs [102,105,110,105,115]))) (by rw[h3]<;>rfl) ?_
  exact zK hj
 refine zD 1<|js 20 ((((decide ((w.size:Int)=0))||(decide ((w.size:Int)>12)))||(cQ w (bs [99,108,97,115,115])))||(cQ w (bs [102,105,110,105,115]))) (fun h4=>?_) (fun h4=>?_)
 ·
  try simp only[zB] at h4
  exfalso;simp only[hc,hf,Bool.or_false,Bool.or_eq_true,decide_eq_true_eq,Bool.false_eq_true,or_false] at h4;omega
 try simp only[zB] at h4
 refine zD 6<|jn fun r22=>zD 2<|dS [1,1,0,1,0,0] [] (fun(zz:Nat)=>[(22,zP r22)]) (fun zz=>[.b r22 (.stringIter w zz)]) (fun zz=>zz≤w.data.toList.length) (fun zz=>w.data.toList.length-zz) 0 (by omega) [0] ?_
 rintro p hI K1 bL rest
 refine zD 2 ?_
 cases aaC:w.data.toList[p]? with
 |some uP=>
  refine jnA r22 0 aaC (by have:=hK _ (zL aaC);omega) ?_
  refine zD 7 ?_
  have XO:=hK _ (zL aaC)
  refine zD 9<|jj 3 [(22,zP r22),(31,.bool ((decide ((uP.toNat:Int) <97))||(decide ((uP.toNat:Int)>122))))] (fun gB=>?_) (fun hj=>?_)
  rotate_left
  refine js 28 (decide ((uP.toNat:Int) <97)) (fun h5=>?_) (fun h5=>?_)
  ·
   have NA:=h5
   replace NA:=of_decide_eq_true NA
   refine zD 3<|jw 31 (.bool ((decide ((uP.toNat:Int) <97))||(decide ((uP.toNat:Int)>122)))) (w:= .bool true) (by rw[h5]<;>rfl) ?_
   exact zK hj
  ·
   have NA:=h5
   replace NA:=of_decide_eq_false NA
   refine zD 3<|jw 31 (.bool ((decide ((uP.toNat:Int) <97))||(decide ((uP.toNat:Int)>122)))) (w:= .bool (decide ((uP.toNat:Int)>122))) (by rw[h5]<;>rfl) ?_
   exact zK hj
  refine zD 1<|js 31 ((decide ((uP.toNat:Int) <97))||(decide ((uP.toNat:Int)>122))) (fun h6=>?_) (fun h6=>?_)
  ·
   try simp only[zB] at h6
   exfalso;omega
  try simp only[zB] at h6
  refine zD 2<|bJ bL (p+1) (by have:=(List.getElem?_eq_some_iff.1 aaC).1;omega) (by have:=(List.getElem?_eq_some_iff.1 aaC).1;omega) [0] (Sub.refl _)
 |none=>
  refine jnZ r22 0 aaC<|zD 10<|zX (.bool true) ⟨rfl,rfl⟩
def Ew(x y:bO):Bool:=cQ y.name x.name
theorem arL{x y:bO}(hb:ro b=some (.cells ⟨[.string x.name,zI x.under]⟩ 142 (0,0))):dD zT 199 [.agg ⟨[.string y.name,zI y.under]⟩,zP b] ro (.bool (cQ y.name x.name)):=by
 refine zE<|zD 2<|jn fun b2=>jd 7 [0]<|jl (b:=b) (off:=0) (m:=2) (vs:=[.string x.name,zI x.under]) 0 ⟨_,_,_,.inl hb,rfl⟩<|zD 4<|zX (.bool (cQ y.name x.name)) ⟨rfl,rfl⟩
theorem arK{v:Value}{fs:List bO}{x:bO}(hf:bI ro v 2 oK fs)(hn:fs.length≤1000)(hb:ro b=some (.cells ⟨[.string x.name,zI x.under]⟩ 142 (0,0))):dD zT 222 [v,.func (.func 199) ⟨[]⟩ ⟨[zP b]⟩] ro (zI (cb (Ew x) fs 0)):=by
 obtain⟨jK,Dd,Dc,iV,rfl,JW,xJ,xI⟩:=hf
 refine zE<|zD 12<|dS [1,0,1,0,0] [] (fun(zz:Nat)=>[(0,.slice jK fs.length iV),(1,.func (.func 199) ⟨[]⟩ ⟨[zP b]⟩),(7,zI (fs.length:Int)),(8,zI (zz:Int))]) (fun zz=>[]) (fun zz=>zz≤fs.length∧cb (Ew x) fs 0=cb (Ew x) (fs.drop zz) zz) (fun zz=>fs.length-zz) 0 ⟨by omega,rfl⟩ [] ?_
 rintro k hI K1 bL rest
 refine zD 5<|zJ 9 ((k:Int) <(fs.length:Int)) (fun h1=>?_) fun h1=>?_
 ·
  refine zD 14 ?_
  obtain⟨fD,eC⟩:=zG fs k
  refine iB iV 2 xJ eC<|jl 0 (xI _ _ eC)<|jp (vs:=[.agg ⟨[.string fD.name,zI fD.under]⟩,zP b]) [] [] (fun aH hs hZ=>(arL (y:=fD) (hs _ _ hb)))<|zD 1<|js 16 (Ew x fD) (fun h2=>?_) (fun h2=>?_)
  ·
   refine zD 7<|zX (zI (k:Int)) ⟨by rw[hI.2,jB eC,show Ew x fD=true from (by assumption)];rfl,rfl⟩
  refine zD 3<|ja ((k:Int)+1) (by omega)<|zD 2<|bJ bL (k+1) ⟨by omega,by rw[hI.2,jB eC,show Ew x fD=false from (by assumption)];rfl⟩ (by omega) [] (Sub.refl _)
 refine zD 7<|zX (zI (-1)) ⟨by rw[hI.2,qi (by omega)],rfl⟩
theorem akU{v:Value}{fs:List bO}{x:bO}(hf:bI ro v 2 oK fs)(hn:fs.length≤1000)(hb:ro b=some (.cells ⟨[.string x.name,zI x.under]⟩ 142 (0,0))):dD zT 198 [v,.func (.func 199) ⟨[]⟩ ⟨[zP b]⟩] ro (.bool (decide (cb (Ew x) fs 0≥0))):=by
 obtain⟨jK,Dd,Dc,iV,rfl,JW,xJ,xI⟩:=hf
 refine zE<|zD 8<|jp (vs:=[.slice jK fs.length iV,.func (.func 199) ⟨[]⟩ ⟨[zP b]⟩]) [] [] (fun aH hs hZ=>arK ((show bI _ _ _ _ _ from ⟨jK,Dd,Dc,iV,rfl,JW,xJ,xI⟩).up hs) (by first|omega| (simp only[List.length_set,zM];omega)) (hs _ _ hb)) ?_
 refine zD 4<|zX (.bool (decide ((cb (Ew x) fs 0)≥0))) ⟨rfl,rfl⟩
def hdP(x y:bx):Bool:=cQ y.word x.word
theorem azG{x y:bx}(hb:ro b=some (.cells ⟨[.string x.word,zI x.cls,zI x.nW,x.dQ]⟩ 145 (0,0))):dD zT 202 [.agg ⟨[.string y.word,zI y.cls,zI y.nW,y.dQ]⟩,zP b] ro (.bool (cQ y.word x.word)):=by
 refine zE<|zD 2<|jn fun b2=>jd 7 [0]<|jl (b:=b) (off:=0) (m:=4) (vs:=[.string x.word,zI x.cls,zI x.nW,x.dQ]) 0 ⟨_,_,_,.inl hb,rfl⟩<|zD 4<|zX (.bool (cQ y.word x.word)) ⟨rfl,rfl⟩
theorem azF{v:Value}{fs:List bx}{x:bx}(hf:bI ro v 4 lS fs)(hn:fs.length≤1000)(hb:ro b=some (.cells ⟨[.string x.word,zI x.cls,zI x.nW,x.dQ]⟩ 145 (0,0))):dD zT 223 [v,.func (.func 202) ⟨[]⟩ ⟨[zP b]⟩] ro (zI (cb (hdP x) fs 0)):=by
 obtain⟨jK,Dd,Dc,iV,rfl,JW,xJ,xI⟩:=hf
 refine zE<|zD 12<|dS [1,0,1,0,0] [] (fun(zz:Nat)=>[(0,.slice jK fs.length iV),(1,.func (.func 202) ⟨[]⟩ ⟨[zP b]⟩),(7,zI (fs.length:Int)),(8,zI (zz:Int))]) (fun zz=>[]) (fun zz=>zz≤fs.length∧cb (hdP x) fs 0=cb (hdP x) (fs.drop zz) zz) (fun zz=>fs.length-zz) 0 ⟨by omega,rfl⟩ [] ?_
 rintro k hI K1 bL rest
 refine zD 5<|zJ 9 ((k:Int) <(fs.length:Int)) (fun h1=>?_) fun h1=>?_
 ·
  refine zD 14 ?_
  obtain⟨fD,eC⟩:=zG fs k
  refine iB iV 4 xJ eC<|jl 0 (xI _ _ eC)<|jp (vs:=[.agg ⟨[.string fD.word,zI fD.cls,zI fD.nW,fD.dQ]⟩,zP b]) [] [] (fun aH hs hZ=>(azG (y:=fD) (hs _ _ hb)))<|zD 1<|js 16 (hdP x fD) (fun h2=>?_) (fun h2=>?_)
  ·
   refine zD 7<|zX (zI (k:Int)) ⟨by rw[hI.2,jB eC,show hdP x fD=true from (by assumption)];rfl,rfl⟩
  refine zD 3<|ja ((k:Int)+1) (by omega)<|zD 2<|bJ bL (k+1) ⟨by omega,by rw[hI.2,jB eC,show hdP x fD=false from (by assumption)];rfl⟩ (by omega) [] (Sub.refl _)
 refine zD 7<|zX (zI (-1)) ⟨by rw[hI.2,qi (by omega)],rfl⟩
theorem arH{v:Value}{fs:List bx}{x:bx}(hf:bI ro v 4 lS fs)(hn:fs.length≤1000)(hb:ro b=some (.cells ⟨[.string x.word,zI x.cls,zI x.nW,x.dQ]⟩ 145 (0,0))):dD zT 201 [v,.func (.func 202) ⟨[]⟩ ⟨[zP b]⟩] ro (.bool (decide (cb (hdP x) fs 0≥0))):=by
 obtain⟨jK,Dd,Dc,iV,rfl,JW,xJ,xI⟩:=hf
 refine zE<|zD 8<|jp (vs:=[.slice jK fs.length iV,.func (.func 202) ⟨[]⟩ ⟨[zP b]⟩]) [] [] (fun aH hs hZ=>azF ((show bI _ _ _ _ _ from ⟨jK,Dd,Dc,iV,rfl,JW,xJ,xI⟩).up hs) (by first|omega| (simp only[List.length_set,zM];omega)) (hs _ _ hb)) ?_
 refine zD 4<|zX (.bool (decide ((cb (hdP x) fs 0)≥0))) ⟨rfl,rfl⟩
def zp(w:ByteArray):Bool:=Nat.ble 1 w.size&&(Nat.ble w.size 12&&(!cQ w (bs [99,108,97,115,115])&&(!cQ w (bs [102,105,110,105,115])&&w.data.toList.all fun b=>Nat.ble 97 b.toNat&&Nat.ble b.toNat 122)))
theorem Zj:∀w∈m8,zp w=true:=List.all_eq_true.1 (by kernel_rfl)
theorem abe:∀w∈oT,zp w=true:=List.all_eq_true.1 (by kernel_rfl)
theorem acR{w:ByteArray}(h:zp w=true):dD zT 197 [.string w] ro (.bool true):=by
 simp only[zp,Bool.and_eq_true,Nat.ble_eq,Bool.not_eq_true',List.all_eq_true] at h
 exact azy ⟨h.1,h.2.1⟩ h.2.2.1 h.2.2.2.1 h.2.2.2.2
structure lj(cs:List bO)(hd:List cm):Prop where
 nc:0 <cs.length∧cs.length≤6
 nh:hd.length≤6
 cls:∀(i:Nat) (c:bO),cs[i]?=some c→zp c.name=true∧ -1≤c.under∧c.under <i
 names:(cs.map (·.name)).Pairwise fun a b=>cQ a b=false
 AD:∀(i:Nat) (x:cm),hd[i]?=some x→zp x.word=true∧gA cs.length hd.length i x
 words:(hd.map (·.word)).Pairwise fun a b=>cQ a b=false∧strLt b a=false
theorem wE.v(h:wE cs hd):lj cs hd:=
 ⟨⟨h.nc.1,by have:=h.nc.2;omega⟩,by have:=h.nh;omega,fun i c hc=>⟨Zj _ (h.cls i c hc).1,(h.cls i c hc).2⟩,h.names,fun i x hx=>⟨abe _ (h.AD i x hx).1,(h.AD i x hx).2⟩,h.words⟩
theorem Rx{p:α→α→Bool}{l:List α}{x:α}(h:l.Pairwise fun y x=>p x y=false)(hx:l[i]?=some x):cb (p x) (l.take i) 0 <0:=by
 rw[Cp]
 ·omega
 intro y hy
 obtain⟨j,hj⟩:=List.getElem?_of_mem hy
 rw[List.getElem?_take] at hj
 split at hj
 ·rename_i ze
  exact pK h ze hj hx
 cases hj
theorem anX{x:bO}(h:lj cs hd)(hx:cs[i]?=some x):cb (Ew x) (cs.take i) 0 <0:=
 Rx (p:=Ew) (List.pairwise_map.1 h.names) hx
theorem OX{hv:List bx}(h:dq dj hv hd):hv.map (·.word)=hd.map (·.word):=by
 induction h with
 |nil=>rfl
 |cons h1 _ ih=>simp only[List.map_cons,h1.1,ih]
theorem avB{hv:List bx}{x:bx}(h:lj cs hd)(hs:dq dj hv hd)(hx:hv[i]?=some x):cb (hdP x) (hv.take i) 0 <0:=
 Rx (p:=hdP) ((List.pairwise_map.1 (OX hs▸h.words)).imp fun h=>h.1) hx
theorem aDM{hv:List bx}{j:Nat}{x y:bx}(h:lj cs hd)(hs:dq dj hv hd)(Is:j <i)(hx:hv[i]?=some x) (hy:hv[j]?=some y):strLt x.word y.word=false:=
 (pK (List.pairwise_map.1 (OX hs▸h.words)) Is hy hx).2
theorem ac7{nc nh:Nat}{x:bx}{y:cm}(h:gA nc nh i y)(hr:q6 ro x y):
 (-1≤x.cls∧x.cls <nc)∧(-1≤x.nW∧x.nW <nh∧x.nW≠i)∧(y.dQ.length≤nh∧y.dQ.Pairwise (· < ·)∧∀z∈y.dQ,0≤z∧z <nh∧z≠i)∧(x.nW≠ -1→x.cls= -1∧y.dQ.length=0)∧(x.nW= -1→x.cls= -1→y.dQ.length≠0):=by
 rw[hr.2.1,hr.2.2.1]
 exact⟨h.1,h.2.1,h.2.2.1,fun a=>⟨(h.2.2.2.1 a).1,by rw[(h.2.2.2.1 a).2];rfl⟩,fun a b c=>h.2.2.2.2 a b (List.eq_nil_of_length_eq_zero c)⟩
theorem arN{v:Value}(hc:bI ro v 2 oK cs)(hT:lj cs hd)(hi:i <cs.length):dD zT 163 [v,zI (i:Int)] ro (zI 0):=by
 obtain⟨ei,Ae,Ad,dW,rfl,De,yq,yp⟩:=hc
 have Ds:=hT.nc
 refine zE<|zD 8 ?_
 obtain⟨x8,hx8⟩:=zG cs i
 refine iB dW 2 yq hx8<|jl 0 (yp _ _ hx8)<|jn fun b5=>jd 5 [0] ?_
 have iD:=hT.cls _ _ hx8
 have hcn:cb (Ew x8) (cs.take (i:Int).toNat) 0 <0:=anX hT hx8
 have htk:(cs.take (i:Int).toNat).length≤cs.length:=by rw[List.length_take];omega
 refine jd 3 [0]<|jp (vs:=[.string x8.name]) [] [] (fun aH hs hZ=>(acR iD.1))<|zD 8<|jcH (hi:=(i:Int)) (show bI _ _ _ _ _ from ⟨ei,Ae,Ad,dW,rfl,De,yq,yp⟩) (by omega) (fun v18 auh=>?_)
 obtain⟨apd,aAt,aAp,apc,rfl,aAr,aAs,aAq⟩:=auh
 refine zD 1<|jp (vs:=[.slice apd ((((cs).take (i:Int).toNat)).length) apc,.func (.func 199) ⟨[]⟩ ⟨[zP b5]⟩]) [0] [(b5,.cells ⟨[.string x8.name,zI x8.under]⟩ 142 (0,0))] (fun aH hs hZ=>akU (x:=x8) ((show bI _ _ _ _ _ from ⟨apd,aAt,aAp,apc,rfl,aAr,aAs,aAq⟩).up hs) (by first|omega| (simp only[List.length_set,zM];omega)) hZ.head) ?_
 refine zD 2<|js 15 (decide (cb (Ew x8) ((cs).take (i:Int).toNat) 0≥0)) (fun h1=>?_) (fun h1=>?_)
 ·
  exfalso;have:=of_decide_eq_true h1;omega
 refine jd 7 [0]<|ja ((cs.length:Int)-1) (by omega)<|jp (vs:=[zI x8.under,zI (-1),zI ((cs.length:Int)-1)]) [] [] (fun aH hs hZ=>iS)<|zD 3<|js 21 (!(iy x8.under (-1) ((cs.length:Int)-1))) (fun h2=>?_) (fun h2=>?_)
 ·
  try simp only[zB] at h2
  exfalso;simp only[iy,Bool.and_eq_false_iff,decide_eq_false_iff_not] at h2;omega
 try simp only[zB] at h2
 refine jd 9 [0]<|zJ 29 (x8.under≥(i:Int)) (fun h3=>?_) fun h3=>?_
 ·
  exfalso;omega
 refine zD 7<|zX (zI 0) ⟨rfl,rfl⟩
theorem azE{hv:List bx}(hR:iT ro vc vh cs hv hd)(nv:dq dj hv hd)(hT:lj cs hd)(hi:i <hv.length):dD zT 164 [.agg ⟨[vc,vh]⟩,zI (i:Int)] ro (zI 0):=by
 obtain⟨hc,hh,dc⟩:=id hR
 obtain⟨ei,Ae,Ad,dW,rfl,De,yq,yp⟩:=hc
 obtain⟨dG,uD,uC,dr,rfl,wP,qB,qA⟩:=hh
 have Ds:=hT.nc
 have hnh:=hT.nh
 have hlen:=nv.len
 refine zE<|zD 2<|jn fun b2=>jd 9 [0,0] ?_
 obtain⟨fD,eC⟩:=zG hv i
 refine iB dr 4 qB eC<|jl 0 (qA _ _ eC)<|aS 7 fun DM DW Bh=>jn fun b6=>ez Bh [1]<|zD 1<|aS 9 fun zl zt yR=>jsx 0 b6 0 [.string ByteArray.empty,zI 0,zI 0,zS] [.string fD.word,zI fD.cls,zI fD.nW,fD.dQ] 145 (mw dc _ (zL eC)) rfl<|fT yR<|zD 4 ?_
 obtain⟨EE,aB4,aun⟩:=dc.get eC
 obtain⟨fu,ry,rq,eI,hqe,tx,lv,mj⟩:=aun.2.2.2
 have aMr:=(hT.AD _ _ aB4).1
 have hsh:=ac7 (hT.AD _ _ aB4).2 aun
 obtain⟨bX,pU,Dr,j5,hs5⟩:=hsh
 have hwb:zp fD.word=true:=by rw[aun.1];exact aMr
 have hcn:cb (hdP fD) (hv.take (i:Int).toNat) 0 <0:=avB hT nv eC
 have htk:(hv.take (i:Int).toNat).length≤hv.length:=by rw[List.length_take];omega
 refine jmw 0 [.b b6 (.cells ⟨[.string fD.word,zI fD.cls,zI fD.nW,.slice fu EE.dQ.length eI]⟩ 145 (0,0))] (L:=[(b6,.cells ⟨[.string fD.word,zI fD.cls,zI fD.nW,fD.dQ]⟩ 145 (0,0))]) (by rw[hqe];rfl) ?_
 refine jd 3 [0]<|jp (vs:=[.string fD.word]) [] [] (fun aH hs hZ=>(acR hwb))<|zD 8<|jcH (hi:=(i:Int)) (show bI _ _ _ _ _ from ⟨dG,uD,uC,dr,rfl,wP,qB,qA⟩) (by omega) (fun v24 aML=>?_)
 obtain⟨apb,aAo,aAk,apa,rfl,aAm,aAn,aAl⟩:=aML
 refine zD 1<|jp (vs:=[.slice apb ((((hv).take (i:Int).toNat)).length) apa,.func (.func 202) ⟨[]⟩ ⟨[zP b6]⟩]) [0] [(b6,.cells ⟨[.string fD.word,zI fD.cls,zI fD.nW,.slice fu EE.dQ.length eI]⟩ 145 (0,0))] (fun aH hs hZ=>arH (x:=fD) ((show bI _ _ _ _ _ from ⟨apb,aAo,aAk,apa,rfl,aAm,aAn,aAl⟩).up hs) (by first|omega| (simp only[List.length_set,zM];omega)) (by rw[hqe];exact hZ.head)) ?_
 refine zD 2<|js 21 (decide (cb (hdP fD) ((hv).take (i:Int).toNat) 0≥0)) (fun h3=>?_) (fun h3=>?_)
 ·
  exfalso;have:=of_decide_eq_true h3;omega
 refine zD 6<|js 2 (decide ((i:Int)>0)) (fun h4=>?_) (fun h4=>?_)
 ·
  have xQ:=h4
  replace xQ:=of_decide_eq_true xQ
  refine jd 4 [0]<|ja ((i:Int)-1) (by omega) ?_
  obtain⟨x36,yG⟩:=zG hv (((i:Int)-1).toNat)
  refine Oz ((i:Int)-1) dr 4 qB yG (by omega)<|zD 1<|jl 0 (qA _ _ yG)<|zD 4<|js 27 (strLt fD.word x36.word) (fun h5=>?_) (fun h5=>?_)
  ·
   exfalso;rw[aDM hT nv (by omega) eC yG] at h5;cases h5
  refine jd 9 [0,1]<|ja ((cs.length:Int)-1) (by omega)<|jp (vs:=[zI fD.cls,zI (-1),zI ((cs.length:Int)-1)]) [] [] (fun aH hs hZ=>iS)<|zD 3<|js 41 (!(iy fD.cls (-1) ((cs.length:Int)-1))) (fun h6=>?_) (fun h6=>?_)
  ·
   try simp only[zB] at h6
   exfalso;simp only[iy,Bool.and_eq_false_iff,decide_eq_false_iff_not] at h6;omega
  try simp only[zB] at h6
  refine jd 6 [0]<|ja ((hv.length:Int)-1) (by omega)<|jp (vs:=[zI fD.nW,zI (-1),zI ((hv.length:Int)-1)]) [] [] (fun aH hs hZ=>iS)<|zD 3<|js 41 (!(iy fD.nW (-1) ((hv.length:Int)-1))) (fun h7=>?_) (fun h7=>?_)
  ·
   try simp only[zB] at h7
   exfalso;simp only[iy,Bool.and_eq_false_iff,decide_eq_false_iff_not] at h7;omega
  try simp only[zB] at h7
  refine jd 9 [0]<|zJ 57 (fD.nW=(i:Int)) (fun h8=>?_) fun h8=>?_
  ·
   exfalso;omega
  refine jd 11 [0]<|dS [1,1,1,0,1,0,0] [] (fun(zz:Nat)=>[(1,zI (i:Int)),(5,.slice dG hv.length dr),(6,zP b6),(63,.slice fu EE.dQ.length eI),(64,zI (EE.dQ.length:Int)),(65,zI (zz:Int))]) (fun zz=>[.b b6 (.cells ⟨[.string fD.word,zI fD.cls,zI fD.nW,.slice fu EE.dQ.length eI]⟩ 145 (0,0))]) (fun zz=>zz≤EE.dQ.length) (fun zz=>EE.dQ.length-zz) 0 (by omega) [0] ?_
  rintro k hI K3 X3 rest
  refine zD 5<|zJ 66 ((k:Int) <(EE.dQ.length:Int)) (fun h9=>?_) fun h9=>?_
  ·
   refine zD 7 ?_
   obtain⟨x68,Na⟩:=zG EE.dQ k
   refine iB eI 1 lv Na<|jl 0 (mj _ _ Na)<|zD 5 ?_
   have aPn:=Dr.2.2 _ (zL Na)
   refine zD 4<|ja ((hv.length:Int)-1) (by omega)<|jp (vs:=[zI x68,zI 0,zI ((hv.length:Int)-1)]) [] [] (fun aH hs hZ=>iS)<|zD 3<|js 70 (!(iy x68 0 ((hv.length:Int)-1))) (fun Iy=>?_) (fun Iy=>?_)
   ·
    try simp only[zB] at Iy
    exfalso;simp only[iy,Bool.and_eq_false_iff,decide_eq_false_iff_not] at Iy;omega
   try simp only[zB] at Iy
   refine zD 8<|zJ 77 (x68=(i:Int)) (fun NC=>?_) fun NC=>?_
   ·
    exfalso;omega
   refine zD 6<|js 84 (decide ((k:Int)>0)) (fun Ix=>?_) (fun Ix=>?_)
   ·
    have ahP:=Ix
    replace ahP:=of_decide_eq_true ahP
    refine jd 4 [0]<|ja ((k:Int)-1) (by omega) ?_
    obtain⟨x90,Ui⟩:=zG EE.dQ (((k:Int)-1).toNat)
    refine Oz ((k:Int)-1) eI 1 lv Ui (by omega)<|jl 0 (mj _ _ Ui)<|zD 4<|zJ 81 (x68≤x90) (fun Bi=>?_) fun Bi=>?_
    ·
     exfalso;have:=pK Dr.2.1 (show ((k:Int)-1).toNat <k by omega) Ui Na;omega
    refine zD 3<|ja ((k:Int)+1) (by omega)<|zD 2<|bJ X3 (k+1) (by omega) (by omega) [0] (Sub.refl _)
   have ahP:=Ix
   replace ahP:=of_decide_eq_false ahP
   refine zD 14<|ja ((k:Int)+1) (by omega)<|zD 2<|bJ X3 (k+1) (by omega) (by omega) [0] (Sub.refl _)
  refine jd 9 [0]<|js 98 (!decide (fD.nW=(-1))) (fun h14=>?_) (fun h14=>?_)
  ·
   have ahN:=h14
   replace ahN:=of_decide_eq_false (by simpa using ahN)
   refine jd 4 [0]<|js 102 (!decide (fD.cls=(-1))) (fun NB=>?_) (fun NB=>?_)
   ·
    have Hi:=NB
    replace Hi:=of_decide_eq_false (by simpa using Hi)
    refine zD 29 ?_
    exfalso;omega
   have Hi:=NB
   replace Hi:=of_decide_eq_true (by simpa using Hi)
   refine jd 7 [0]<|js 109 (decide ((EE.dQ.length:Int)>0)) (fun U3=>?_) (fun U3=>?_)
   ·
    have ahM:=U3
    replace ahM:=of_decide_eq_true ahM
    refine zD 22 ?_
    exfalso;omega
   have ahM:=U3
   replace ahM:=of_decide_eq_false ahM
   refine jd 4 [0]<|js 113 (decide (fD.nW=(-1))) (fun h17=>?_) (fun h17=>?_)
   ·
    have Hh:=h17
    replace Hh:=of_decide_eq_true Hh
    refine jd 5 [0]<|js 118 (decide (fD.cls=(-1))) (fun h18=>?_) (fun h18=>?_)
    ·
     have ahK:=h18
     replace ahK:=of_decide_eq_true ahK
     refine jd 7 [0]<|zJ 124 ((EE.dQ.length:Int)=0) (fun h19=>?_) fun h19=>?_
     ·
      exfalso;(try simp only[Bool.or_eq_true,Bool.and_eq_true,decide_eq_true_eq,Bool.not_eq_true',decide_eq_false_iff_not] at h19);omega
     refine zD 7<|zX (zI 0) ⟨rfl,rfl⟩
    have ahK:=h18
    replace ahK:=of_decide_eq_false ahK
    refine zD 14<|zX (zI 0) ⟨rfl,rfl⟩
   have Hh:=h17
   replace Hh:=of_decide_eq_false Hh
   refine zD 19<|zX (zI 0) ⟨rfl,rfl⟩
  have ahN:=h14
  replace ahN:=of_decide_eq_true (by simpa using ahN)
  refine jd 15 [0]<|js 113 (decide (fD.nW=(-1))) (fun h20=>?_) (fun h20=>?_)
  ·
   have ahJ:=h20
   replace ahJ:=of_decide_eq_true ahJ
   refine jd 5 [0]<|js 118 (decide (fD.cls=(-1))) (fun h21=>?_) (fun h21=>?_)
   ·
    have ahI:=h21
    replace ahI:=of_decide_eq_true ahI
    refine jd 7 [0]<|zJ 124 ((EE.dQ.length:Int)=0) (fun KP=>?_) fun KP=>?_
    ·
     exfalso;(try simp only[Bool.or_eq_true,Bool.and_eq_true,decide_eq_true_eq,Bool.not_eq_true',decide_eq_false_iff_not] at KP);omega
    refine zD 7<|zX (zI 0) ⟨rfl,rfl⟩
   have ahI:=h21
   replace ahI:=of_decide_eq_false ahI
   refine zD 14<|zX (zI 0) ⟨rfl,rfl⟩
  have ahJ:=h20
  replace ahJ:=of_decide_eq_false ahJ
  refine zD 19<|zX (zI 0) ⟨rfl,rfl⟩
 have xQ:=h4
 replace xQ:=of_decide_eq_false xQ
 refine jd 21 [0,1]<|ja ((cs.length:Int)-1) (by omega)<|jp (vs:=[zI fD.cls,zI (-1),zI ((cs.length:Int)-1)]) [] [] (fun aH hs hZ=>iS)<|zD 3<|js 41 (!(iy fD.cls (-1) ((cs.length:Int)-1))) (fun E5=>?_) (fun E5=>?_)
 ·
  try simp only[zB] at E5
  exfalso;simp only[iy,Bool.and_eq_false_iff,decide_eq_false_iff_not] at E5;omega
 try simp only[zB] at E5
 refine jd 6 [0]<|ja ((hv.length:Int)-1) (by omega)<|jp (vs:=[zI fD.nW,zI (-1),zI ((hv.length:Int)-1)]) [] [] (fun aH hs hZ=>iS)<|zD 3<|js 41 (!(iy fD.nW (-1) ((hv.length:Int)-1))) (fun h24=>?_) (fun h24=>?_)
 ·
  try simp only[zB] at h24
  exfalso;simp only[iy,Bool.and_eq_false_iff,decide_eq_false_iff_not] at h24;omega
 try simp only[zB] at h24
 refine jd 9 [0]<|zJ 57 (fD.nW=(i:Int)) (fun h25=>?_) fun h25=>?_
 ·
  exfalso;omega
 refine jd 11 [0]<|dS [1,1,1,0,1,0,0] [] (fun(zz:Nat)=>[(1,zI (i:Int)),(5,.slice dG hv.length dr),(6,zP b6),(63,.slice fu EE.dQ.length eI),(64,zI (EE.dQ.length:Int)),(65,zI (zz:Int))]) (fun zz=>[.b b6 (.cells ⟨[.string fD.word,zI fD.cls,zI fD.nW,.slice fu EE.dQ.length eI]⟩ 145 (0,0))]) (fun zz=>zz≤EE.dQ.length) (fun zz=>EE.dQ.length-zz) 0 (by omega) [0] ?_
 rintro k hI K4 hK4 rest
 refine zD 5<|zJ 66 ((k:Int) <(EE.dQ.length:Int)) (fun h26=>?_) fun h26=>?_
 ·
  refine zD 7 ?_
  obtain⟨x68,Na⟩:=zG EE.dQ k
  refine iB eI 1 lv Na<|jl 0 (mj _ _ Na)<|zD 5 ?_
  have aPn:=Dr.2.2 _ (zL Na)
  refine zD 4<|ja ((hv.length:Int)-1) (by omega)<|jp (vs:=[zI x68,zI 0,zI ((hv.length:Int)-1)]) [] [] (fun aH hs hZ=>iS)<|zD 3<|js 70 (!(iy x68 0 ((hv.length:Int)-1))) (fun h27=>?_) (fun h27=>?_)
  ·
   try simp only[zB] at h27
   exfalso;simp only[iy,Bool.and_eq_false_iff,decide_eq_false_iff_not] at h27;omega
  try simp only[zB] at h27
  refine zD 8<|zJ 77 (x68=(i:Int)) (fun h28=>?_) fun h28=>?_
  ·
   exfalso;omega
  refine zD 6<|js 84 (decide ((k:Int)>0)) (fun h29=>?_) (fun h29=>?_)
  ·
   have ahD:=h29
   replace ahD:=of_decide_eq_true ahD
   refine jd 4 [0]<|ja ((k:Int)-1) (by omega) ?_
   obtain⟨x90,Ui⟩:=zG EE.dQ (((k:Int)-1).toNat)
   refine Oz ((k:Int)-1) eI 1 lv Ui (by omega)<|jl 0 (mj _ _ Ui)<|zD 4<|zJ 81 (x68≤x90) (fun h30=>?_) fun h30=>?_
   ·
    exfalso;have:=pK Dr.2.1 (show ((k:Int)-1).toNat <k by omega) Ui Na;omega
   refine zD 3<|ja ((k:Int)+1) (by omega)<|zD 2<|bJ hK4 (k+1) (by omega) (by omega) [0] (Sub.refl _)
  have ahD:=h29
  replace ahD:=of_decide_eq_false ahD
  refine zD 14<|ja ((k:Int)+1) (by omega)<|zD 2<|bJ hK4 (k+1) (by omega) (by omega) [0] (Sub.refl _)
 refine jd 9 [0]<|js 98 (!decide (fD.nW=(-1))) (fun h31=>?_) (fun h31=>?_)
 ·
  have ahC:=h31
  replace ahC:=of_decide_eq_false (by simpa using ahC)
  refine jd 4 [0]<|js 102 (!decide (fD.cls=(-1))) (fun h32=>?_) (fun h32=>?_)
  ·
   have ahA:=h32
   replace ahA:=of_decide_eq_false (by simpa using ahA)
   refine zD 29 ?_
   exfalso;omega
  have ahA:=h32
  replace ahA:=of_decide_eq_true (by simpa using ahA)
  refine jd 7 [0]<|js 109 (decide ((EE.dQ.length:Int)>0)) (fun h33=>?_) (fun h33=>?_)
  ·
   have ahz:=h33
   replace ahz:=of_decide_eq_true ahz
   refine zD 22 ?_
   exfalso;omega
  have ahz:=h33
  replace ahz:=of_decide_eq_false ahz
  refine jd 4 [0]<|js 113 (decide (fD.nW=(-1))) (fun h34=>?_) (fun h34=>?_)
  ·
   have ahy:=h34
   replace ahy:=of_decide_eq_true ahy
   refine jd 5 [0]<|js 118 (decide (fD.cls=(-1))) (fun h35=>?_) (fun h35=>?_)
   ·
    have ahx:=h35
    replace ahx:=of_decide_eq_true ahx
    refine jd 7 [0]<|zJ 124 ((EE.dQ.length:Int)=0) (fun h36=>?_) fun h36=>?_
    ·
     exfalso;(try simp only[Bool.or_eq_true,Bool.and_eq_true,decide_eq_true_eq,Bool.not_eq_true',decide_eq_false_iff_not] at h36);omega
    refine zD 7<|zX (zI 0) ⟨rfl,rfl⟩
   have ahx:=h35
   replace ahx:=of_decide_eq_false ahx
   refine zD 14<|zX (zI 0) ⟨rfl,rfl⟩
  have ahy:=h34
  replace ahy:=of_decide_eq_false ahy
  refine zD 19<|zX (zI 0) ⟨rfl,rfl⟩
 have ahC:=h31
 replace ahC:=of_decide_eq_true (by simpa using ahC)
 refine jd 15 [0]<|js 113 (decide (fD.nW=(-1))) (fun h37=>?_) (fun h37=>?_)
 ·
  have ahw:=h37
  replace ahw:=of_decide_eq_true ahw
  refine jd 5 [0]<|js 118 (decide (fD.cls=(-1))) (fun h38=>?_) (fun h38=>?_)
  ·
   have ahv:=h38
   replace ahv:=of_decide_eq_true ahv
   refine jd 7 [0]<|zJ 124 ((EE.dQ.length:Int)=0) (fun h39=>?_) fun h39=>?_
   ·
    exfalso;(try simp only[Bool.or_eq_true,Bool.and_eq_true,decide_eq_true_eq,Bool.not_eq_true',decide_eq_false_iff_not] at h39);omega
   refine zD 7<|zX (zI 0) ⟨rfl,rfl⟩
  have ahv:=h38
  replace ahv:=of_decide_eq_false ahv
  refine zD 14<|zX (zI 0) ⟨rfl,rfl⟩
 have ahw:=h37
 replace ahw:=of_decide_eq_false ahw
 refine zD 19<|zX (zI 0) ⟨rfl,rfl⟩
theorem Wl{hv:List bx}(hR:iT ro vc vh cs hv hd)(nv:dq dj hv hd)(hT:lj cs hd):dD zT 121 [.agg ⟨[vc,vh]⟩] ro (zI 0):=by
 obtain⟨hc,hh,dc⟩:=id hR
 obtain⟨ei,Ae,Ad,dW,rfl,De,yq,yp⟩:=hc
 obtain⟨dG,uD,uC,dr,rfl,wP,qB,qA⟩:=hh
 have Ds:=hT.nc
 have hnh:=hT.nh
 have hlen:=nv.len
 refine zE<|zD 2<|jn fun b1=>jd 10 [0]<|jj 5 [(1,zP b1),(2,zI 0),(16,.bool ((decide ((cs.length:Int)>6))||(decide ((hv.length:Int)>6))))] (fun gB=>?_) (fun hj=>?_)
 rotate_left
 refine js 11 (decide ((cs.length:Int)>6)) (fun h1=>?_) (fun h1=>?_)
 ·
  have fQ:=h1
  replace fQ:=of_decide_eq_true fQ
  refine zD 5<|jw 16 (.bool ((decide ((cs.length:Int)>6))||(decide ((hv.length:Int)>6)))) (w:= .bool true) (by rw[h1]<;>rfl) ?_
  exact zK hj
 ·
  have fQ:=h1
  replace fQ:=of_decide_eq_false fQ
  refine jd 5 [0]<|jw 16 (.bool ((decide ((cs.length:Int)>6))||(decide ((hv.length:Int)>6)))) (w:= .bool (decide ((hv.length:Int)>6))) (by rw[h1]<;>rfl) ?_
  exact zK hj
 refine zD 1<|js 16 ((decide ((cs.length:Int)>6))||(decide ((hv.length:Int)>6))) (fun h2=>?_) (fun h2=>?_)
 ·
  try simp only[zB] at h2
  exfalso;omega
 try simp only[zB] at h2
 refine jd 11 [0]<|dS [1,1,0,1,0,0] [] (fun(zz:Nat)=>[(1,zP b1),(19,zI (cs.length:Int)),(20,zI (zz:Int))]) (fun zz=>[.b b1 (.cells ⟨[.slice ei cs.length dW,.slice dG hv.length dr]⟩ 35 (0,0))]) (fun zz=>zz≤cs.length) (fun zz=>cs.length-zz) 0 (by omega) [0] ?_
 rintro k hI K1 bL rest
 refine zD 5<|zJ 21 ((k:Int) <(cs.length:Int)) (fun h3=>?_) fun h3=>?_
 ·
  refine jd 14 [0]<|jp (vs:=[.slice ei cs.length dW,zI (k:Int)]) [] [] (fun aH hs hZ=>arN ((show bI _ _ _ _ _ from ⟨ei,Ae,Ad,dW,rfl,De,yq,yp⟩).up hs) hT (by omega))<|zD 10<|ja ((k:Int)+1) (by omega)<|zD 2<|bJ bL (k+1) (by omega) (by omega) [0] (Sub.refl _)
 refine jd 11 [0]<|dS [1,1,1,0,1,0,0] [] (fun(zz:Nat)=>[(1,zP b1),(33,zI (hv.length:Int)),(34,zI (zz:Int))]) (fun zz=>[.b b1 (.cells ⟨[.slice ei cs.length dW,.slice dG hv.length dr]⟩ 35 (0,0))]) (fun zz=>zz≤hv.length) (fun zz=>hv.length-zz) 0 (by omega) [0] ?_
 rintro j hJ K2 mb rest
 refine zD 5<|zJ 35 ((j:Int) <(hv.length:Int)) (fun h4=>?_) fun h4=>?_
 ·
  refine jd 13 [0]<|jp (vs:=[.agg ⟨[.slice ei cs.length dW,.slice dG hv.length dr]⟩,zI (j:Int)]) [] [] (fun aH hs hZ=>(azE (hR.up hs) nv hT (by omega)))<|zD 10<|ja ((j:Int)+1) (by omega)<|zD 2<|bJ mb (j+1) (by omega) (by omega) [0] (Sub.refl _)
 refine zD 7<|zX (zI 0) ⟨rfl,rfl⟩
theorem arO{hv:List bx}(hR:iT ro vc vh cs hv hd)(nv:dq dj hv hd)(hT:lj cs hd):dD zT 96 [.agg ⟨[vc,vh]⟩] ro (zI 0):=by
 obtain⟨hc,hh,dc⟩:=id hR
 obtain⟨ei,Ae,Ad,dW,rfl,De,yq,yp⟩:=hc
 obtain⟨dG,uD,uC,dr,rfl,wP,qB,qA⟩:=hh
 have Ds:=hT.nc
 have hnh:=hT.nh
 have hlen:=nv.len
 refine zE<|zD 2<|jn fun b1=>jd 5 [0]<|jp (vs:=[.agg ⟨[.slice ei cs.length dW,.slice dG hv.length dr]⟩]) [] [] (fun aH hs hZ=>(Wl (hR.up hs) nv hT))<|zD 3<|zX (zI 0) ⟨rfl,rfl⟩
def Jd(a b:ByteArray):Int:=bif strLt a b then-1 else bif !(strLt a b||cQ a b) then 1 else 0
def NY:List ByteArray→List ByteArray→Int
 | [],[]=>0
 | [],_::_=> -1
 |_::_,[]=>1
 |x::xs,y::ys=>if Jd x y=0 then NY xs ys else Jd x y
theorem Yn{y:ByteArray}(hx:xs[k]?=some x) (hy:ys[k]?=some y):NY (xs.drop k) (ys.drop k)=if Jd x y=0 then NY (xs.drop (k+1)) (ys.drop (k+1)) else Jd x y:=by rw[fo hx,fo hy];rfl
theorem aiL(hx:xs[k]?=some x) (hy:¬k <ys.length):NY (xs.drop k) (ys.drop k)=1:=by rw[fo hx,eo hy];rfl
theorem RM(hx:¬k <xs.length):NY (xs.drop k) (ys.drop k)=if k <ys.length then-1 else 0:=by
 rw[eo hx]
 split
 ·rename_i h
  rw[List.drop_eq_getElem_cons h];rfl
 rename_i h
 rw[eo h];rfl
def sC(s p:ByteArray):Bool:=decide (s.size≥p.size)&&cQ (s.extract 0 p.size) p
structure an where
 h:Int
 n:Int
 l:Int
abbrev cH(x:an):List Value:=[zI x.h,zI x.n,zI x.l]
def oO(h n l:Int)(y:an):Bool:=h==y.h&&(n==y.n&&(l==y.l&&true)&&true)
theorem aFs{a:ByteArray}:dD zT 273 [.string a] ro (.bool false):=by
 refine zE<|zD 12<|zX (.bool (!(cQ a a))) ⟨by rw[Bv.2 rfl];rfl,rfl⟩
theorem aQ6{a b:ByteArray}:dD zT 249 [.string a,.string b] ro (zI (Jd a b)):=by
 refine zE<|zD 7<|jp (vs:=[.string a]) [] [] (fun aH hs hZ=>aFs)<|zD 5<|jp (vs:=[.string b]) [] [] (fun aH hs hZ=>aFs)<|zD 23<|js 16 (strLt a b) (fun h1=>?_) (fun h1=>?_)
 ·
  refine zD 6<|zX (zI (-1)) ⟨by simp_all[Jd],rfl⟩
 refine zD 9<|js 19 (!(strLt a b||cQ a b)) (fun h2=>?_) (fun h2=>?_)
 ·
  try simp only[zB] at h2
  refine zD 6<|zX (zI 1) ⟨by simp_all[Jd],rfl⟩
 try simp only[zB] at h2
 refine zD 7<|zX (zI 0) ⟨by simp_all[Jd],rfl⟩
theorem aJU{v w:Value}(hv:bI ro v 1 mf xs)(hw:bI ro w 1 mf ys)(hx:xs.length≤1000)(hy:ys.length≤1000):dD zT 228 [v,w] ro (zI (NY xs ys)):=by
 obtain⟨Ml,qvb,qvo,Be,rfl,qvk,PC,PB⟩:=hv
 obtain⟨Tx,qwb,qwo,Mk,rfl,qwk,qwh,qwl⟩:=hw
 refine zE<|zD 12<|dS [1,0,1,0,0] [] (fun(zz:Nat)=>[(0,.slice Ml xs.length Be),(1,.slice Tx ys.length Mk),(9,.slice Ml xs.length Be),(10,zI (xs.length:Int)),(11,zI (zz:Int))]) (fun zz=>[]) (fun zz=>(zz≤xs.length∧zz≤ys.length)∧NY xs ys=NY (xs.drop zz) (ys.drop zz)) (fun zz=>xs.length-zz) 0 ⟨by omega,rfl⟩ [] ?_
 rintro k hI K1 bL rest
 refine zD 5<|zJ 12 ((k:Int) <(xs.length:Int)) (fun h1=>?_) fun h1=>?_
 ·
  refine zD 7 ?_
  obtain⟨fD,eC⟩:=zG xs k
  refine iB Be 1 PC eC<|jl 0 (PB _ _ eC)<|zD 11<|zJ 19 ((k:Int)≥(ys.length:Int)) (fun h2=>?_) fun h2=>?_
  ·
   refine zD 6<|zX (zI 1) ⟨by rw[hI.2,aiL eC (by omega)],rfl⟩
  refine zD 6 ?_
  obtain⟨rP,tN⟩:=zG ys k
  refine iB Mk 1 qwh tN<|jl 0 (qwl _ _ tN)<|zD 6<|jp (vs:=[.string fD,.string rP]) [] [] (fun aH hs hZ=>aQ6)<|zD 7<|js 28 (!decide ((Jd fD rP)=0)) (fun h3=>?_) (fun h3=>?_)
  ·
   replace h3:=of_decide_eq_false (by simpa using h3)
   refine zD 7<|zX (zI (Jd fD rP)) ⟨by rw[hI.2,Yn eC tN,if_neg (by omega)],rfl⟩
  replace h3:=of_decide_eq_true (by simpa using h3)
  refine zD 3<|ja ((k:Int)+1) (by omega)<|zD 2<|bJ bL (k+1) ⟨by omega,by rw[hI.2,Yn eC tN,if_pos (by omega)]⟩ (by omega) [] (Sub.refl _)
 refine zD 11<|zJ 35 ((xs.length:Int) <(ys.length:Int)) (fun h4=>?_) fun h4=>?_
 ·
  refine zD 6<|zX (zI (-1)) ⟨by rw[hI.2,RM (by omega),if_pos (by omega)],rfl⟩
 refine zD 7<|zX (zI 0) ⟨by rw[hI.2,RM (by omega),if_neg (by omega)],rfl⟩
theorem aaI{a b:ByteArray}(hn:a.size≤1000∧b.size≤1000):dD zT 298 [.string a,.string b] ro (.bool (sC a b)):=by
 refine zE<|zD 12<|js 10 (decide ((a.size:Int)≥(b.size:Int))) (fun h1=>?_) (fun h1=>?_)
 ·
  have fQ:=h1
  replace fQ:=of_decide_eq_true fQ
  refine zD 3<|jtH (b:=a) (hi:=(b.size:Int)) (by omega)<|zD 6<|zX (.bool (cQ (a.extract 0 (b.size:Int).toNat) b)) ⟨by simp_all[sC]<;>(intro;omega),rfl⟩
 have fQ:=h1
 replace fQ:=of_decide_eq_false fQ
 refine zD 10<|zX (.bool false) ⟨by simp_all[sC]<;>(intro;omega),rfl⟩
theorem aaJ{a b:ByteArray}(hn:a.size≤1000∧b.size≤1000):dD zT 290 [.string a,.string b] ro (.bool (sC a b)):=by
 refine zE<|zD 8<|jp (vs:=[.string a,.string b]) [] [] (fun aH hs hZ=>(aaI (by omega)))<|zD 3<|zX (.bool (sC a b)) ⟨rfl,rfl⟩
theorem afg{v:Value}{ps:List an}{h l:Int}(hp:bI ro v 3 cH ps)(hn:ps.length≤1000):dD zT 102 [v,.agg ⟨[zI h,zI n,zI l]⟩] ro (zI (cb (oO h n l) ps 0)):=by
 obtain⟨Sn,qpb,qpo,JV,rfl,qpk,ZH,ZG⟩:=hp
 refine zE<|zD 2<|jn fun b3=>zD 10<|dS [1,0,1,0,0] [] (fun(zz:Nat)=>[(0,.slice Sn ps.length JV),(3,zP b3),(7,zI (ps.length:Int)),(8,zI (zz:Int))]) (fun zz=>[.b b3 (.cells ⟨[zI h,zI n,zI l]⟩ 158 (0,0))]) (fun zz=>zz≤ps.length∧cb (oO h n l) ps 0=cb (oO h n l) (ps.drop zz) zz) (fun zz=>ps.length-zz) 0 ⟨by omega,rfl⟩ [0] ?_
 rintro k hI K1 bL rest
 refine zD 5<|zJ 9 ((k:Int) <(ps.length:Int)) (fun h1=>?_) fun h1=>?_
 ·
  refine jd 14 [0] ?_
  obtain⟨fD,eC⟩:=zG ps k
  refine iB JV 3 ZH eC<|jl 0 (ZG _ _ eC)<|jeq aBl (awA h n l fD.h fD.n fD.l)<|zD 1<|js 16 (h==fD.h&&(n==fD.n&&(l==fD.l&&true)&&true)) (fun h2=>?_) (fun h2=>?_)
  ·
   refine zD 7<|zX (zI (k:Int)) ⟨by rw[hI.2,jB eC,show oO h n l fD=true from (by assumption)];rfl,rfl⟩
  refine zD 3<|ja ((k:Int)+1) (by omega)<|zD 2<|bJ bL (k+1) ⟨by omega,by rw[hI.2,jB eC,show oO h n l fD=false from (by assumption)];rfl⟩ (by omega) [0] (Sub.refl _)
 refine zD 7<|zX (zI (-1)) ⟨by rw[hI.2,qi (by omega)],rfl⟩
theorem Kx{v:Value}{ps:List an}{h l:Int}(hp:bI ro v 3 cH ps)(hn:ps.length≤1000):dD zT 75 [v,.agg ⟨[zI h,zI n,zI l]⟩] ro (.bool (decide (cb (oO h n l) ps 0≥0))):=by
 obtain⟨Sn,qpb,qpo,JV,rfl,qpk,ZH,ZG⟩:=hp
 refine zE<|zD 2<|jn fun b3=>jd 6 [0]<|jp (vs:=[.slice Sn ps.length JV,.agg ⟨[zI h,zI n,zI l]⟩]) [] [] (fun aH hs hZ=>afg ((show bI _ _ _ _ _ from ⟨Sn,qpb,qpo,JV,rfl,qpk,ZH,ZG⟩).up hs) (by first|omega| (simp only[List.length_set,zM];omega))) ?_
 refine zD 4<|zX (.bool (decide ((cb (oO h n l) ps 0)≥0))) ⟨rfl,rfl⟩
theorem aer{v:Value}{ws:List ByteArray}(hv:bI ro v 1 mf ws)(hn:ws.length≤1000)(hW:∀w∈ws,(1≤w.size∧w.size≤6)∧Script w):dD zT 204 [v] ro (zI 0):=by
 obtain⟨Ml,qvb,qvo,Be,rfl,qvk,PC,PB⟩:=hv
 refine zE<|zD 12<|dS [1,0,1,0,0] [] (fun(zz:Nat)=>[(6,.slice Ml ws.length Be),(7,zI (ws.length:Int)),(8,zI (zz:Int))]) (fun zz=>[]) (fun zz=>zz≤ws.length) (fun zz=>ws.length-zz) 0 (by omega) [] ?_
 rintro k hI K1 bL rest
 refine zD 5<|zJ 9 ((k:Int) <(ws.length:Int)) (fun h1=>?_) fun h1=>?_
 ·
  refine zD 6 ?_
  obtain⟨x10,rD⟩:=zG ws k
  refine iB Be 1 PC rD<|jl 0 (PB _ _ rD)<|zD 5<|jp (vs:=[.string x10]) [] [] (fun aH hs hZ=>(TW (hW _ (zL rD)).1 (hW _ (zL rD)).2))<|zD 10<|ja ((k:Int)+1) (by omega)<|zD 2<|bJ bL (k+1) (by omega) (by omega) [] (Sub.refl _)
 refine zD 7<|zX (zI 0) ⟨rfl,rfl⟩
def xk(w:ByteArray):Prop:=∀b∈w.data.toList,b.toNat <128∧kindOf (b.toNat:Int)=1
def alY(w:ByteArray):Bool:=w.data.toList.all fun b=>Nat.blt b.toNat 128&&decide (kindOf (b.toNat:Int)=1)
theorem yD{w:ByteArray}(h:alY w=true):xk w:=fun b hb=>by
 have:=List.all_eq_true.1 h b hb
 simp only[Bool.and_eq_true,Nat.blt_eq,decide_eq_true_eq] at this
 exact this
def FM(r:aU):Bool:=(Nat.ble 1 r.f.size&&Nat.ble r.f.size 2)&&(Nat.ble r.t.size 2&&(alY r.f&&(alY r.t&& !cQ r.f r.t)))
theorem Zt:(aqr.all fun f=>toW.all fun t=>FM ⟨f,t⟩)=true:=by kernel_rfl
structure mY(r:aU):Prop where
 f1:1≤r.f.size∧r.f.size≤2
 t1:r.t.size≤2
 fl:xk r.f
 tl:xk r.t
 ne:cQ r.f r.t=false
theorem arX{r:aU}(h:Ib r):mY r:=by
 have:=List.all_eq_true.1 (List.all_eq_true.1 Zt r.f h.1) r.t h.2
 simp only[FM,Bool.and_eq_true,Nat.ble_eq,Bool.not_eq_true'] at this
 exact⟨this.1,this.2.1,yD this.2.2.1,yD this.2.2.2.1,this.2.2.2.2⟩
theorem aBp:dD zT 243 [.int .i32 r] ro (.bool (!decide (kindOf r=1))):=by
 refine zE<|zD 7<|jp (vs:=[.int .i32 r]) [] [] (fun aH hs hZ=>apj)<|zD 4<|zX (.bool (!decide ((kindOf r)=1))) ⟨rfl,rfl⟩
theorem aJT{w:ByteArray}(hK:xk w):dD zT 281 [.string w,.func (.func 243) ⟨[]⟩ ⟨[]⟩,.bool true] ro (zI (-1)):=by
 refine zE<|zD 8<|jn fun r10=>zD 2<|dS [1,0,1,0,0] [] (fun(zz:Nat)=>[(1,.func (.func 243) ⟨[]⟩ ⟨[]⟩),(2,.bool true),(10,zP r10)]) (fun zz=>[.b r10 (.stringIter w zz)]) (fun zz=>zz≤w.data.toList.length) (fun zz=>w.data.toList.length-zz) 0 (by omega) [0] ?_
 rintro p hI K1 bL rest
 refine zD 2 ?_
 cases aaD:w.data.toList[p]? with
 |some x11=>
  refine jnA r10 0 aaD (hK _ (zL aaD)).1<|zD 14 ?_
  have XO:=(hK _ (zL aaD)).2
  refine zD 3<|jp (vs:=[.int .i32 (x11.toNat:Int)]) [] [] (fun aH hs hZ=>aBp)<|zD 1<|je (.bool ((!decide (kindOf (x11.toNat:Int)=1))==true)) rfl<|zD 1<|js 19 ((!decide (kindOf (x11.toNat:Int)=1))==true) (fun h1=>?_) (fun h1=>?_)
  ·
   exfalso;rw[XO] at h1;cases h1
  refine zD 2<|bJ bL (p+1) (by have:=(List.getElem?_eq_some_iff.1 aaD).1;omega) (by have:=(List.getElem?_eq_some_iff.1 aaD).1;omega) [0] (Sub.refl _)
 |none=>
  refine jnZ r10 0 aaD<|zD 10<|zX (zI (-1)) ⟨rfl,rfl⟩
theorem azU{w:ByteArray}(hK:xk w):dD zT 264 [.string w,.func (.func 243) ⟨[]⟩ ⟨[]⟩] ro (zI (-1)):=by
 refine zE<|zD 8<|jp (vs:=[.string w,.func (.func 243) ⟨[]⟩ ⟨[]⟩,.bool true]) [] [] (fun aH hs hZ=>(aJT hK))<|zD 3<|zX (zI (-1)) ⟨rfl,rfl⟩
theorem azW{w:ByteArray}(hK:xk w):dD zT 242 [.string w,.func (.func 243) ⟨[]⟩ ⟨[]⟩] ro (.bool false):=by
 refine zE<|zD 8<|jp (vs:=[.string w,.func (.func 243) ⟨[]⟩ ⟨[]⟩]) [] [] (fun aH hs hZ=>(azU hK))<|zD 4<|zX (.bool false) ⟨rfl,rfl⟩
theorem Qd{w:ByteArray}(hK:xk w)(hn:w.size≤1000):dD zT 224 [.string w,zI lo,zI hi] ro (.bool (decide (lo≤w.size)&&decide ((w.size:Int)≤hi))):=by
 refine zE<|zD 11<|jj 5 [(0,.string w),(6,.bool false),(16,.bool ((decide (lo≤(w.size:Int)))&&(decide ((w.size:Int)≤hi))))] (fun gB=>?_) (fun hj=>?_)
 rotate_left
 refine js 11 (decide (lo≤(w.size:Int))) (fun h1=>?_) (fun h1=>?_)
 ·
  have fQ:=h1
  replace fQ:=of_decide_eq_true fQ
  refine zD 5<|jw 16 (.bool ((decide (lo≤(w.size:Int)))&&(decide ((w.size:Int)≤hi)))) (w:= .bool (decide ((w.size:Int)≤hi))) (by rw[h1]<;>rfl) ?_
  exact zK hj
 ·
  have fQ:=h1
  replace fQ:=of_decide_eq_false fQ
  refine zD 5<|jw 16 (.bool ((decide (lo≤(w.size:Int)))&&(decide ((w.size:Int)≤hi)))) (w:= .bool false) (by rw[h1]<;>rfl) ?_
  exact zK hj
 refine zD 1<|jj 4 [(6,.bool false),(21,.bool (((decide (lo≤(w.size:Int)))&&(decide ((w.size:Int)≤hi)))&&true))] (fun gB=>?_) (fun hj=>?_)
 rotate_left
 refine js 17 ((decide (lo≤(w.size:Int)))&&(decide ((w.size:Int)≤hi))) (fun h2=>?_) (fun h2=>?_)
 ·
  have me:=h2
  try simp only[zB] at me
  refine zD 1<|jp (vs:=[.string w,.func (.func 243) ⟨[]⟩ ⟨[]⟩]) [] [] (fun aH hs hZ=>(azW hK))<|zD 2<|jw 21 (.bool (((decide (lo≤(w.size:Int)))&&(decide ((w.size:Int)≤hi)))&&true)) (w:= .bool true) (by rw[h2]<;>rfl) ?_
  exact zK hj
 ·
  have me:=h2
  try simp only[zB] at me
  refine zD 4<|jw 21 (.bool (((decide (lo≤(w.size:Int)))&&(decide ((w.size:Int)≤hi)))&&true)) (w:= .bool false) (by rw[h2]<;>rfl) ?_
  exact zK hj
 refine zD 3<|zX (.bool (((decide (lo≤(w.size:Int)))&&(decide ((w.size:Int)≤hi)))&&true)) ⟨by simp_all,rfl⟩
theorem Kh{w:ByteArray}(hK:xk w)(h1:lo≤w.size)(h2:(w.size:Int)≤hi)(h3:w.size≤1000):dD zT 224 [.string w,zI lo,zI hi] ro (.bool true):=by
 have:=Qd (ro:=ro) hK h3 (lo:=lo) (hi:=hi)
 rw[decide_eq_true h1,decide_eq_true h2] at this
 exact this
theorem Z0{v:Value}(hv:bI ro v 2 e9 rs)(hn:rs.length≤4)(hR:∀r∈rs,mY r):dD zT 203 [v] ro (zI 0):=by
 obtain⟨Ml,qvb,qvo,Be,rfl,qvk,PC,PB⟩:=hv
 refine zE<|zD 11<|zJ 7 ((rs.length:Int)>4) (fun h1=>?_) fun h1=>?_
 ·
  exfalso;omega
 refine zD 10<|dS [1,1,0,1,0,0] [] (fun(zz:Nat)=>[(8,.slice Ml rs.length Be),(9,zI (rs.length:Int)),(10,zI (zz:Int))]) (fun zz=>[]) (fun zz=>zz≤rs.length) (fun zz=>rs.length-zz) 0 (by omega) [] ?_
 rintro k hI K1 bL rest
 refine zD 5<|zJ 11 ((k:Int) <(rs.length:Int)) (fun h2=>?_) fun h2=>?_
 ·
  refine zD 6 ?_
  obtain⟨s8,pS⟩:=zG rs k
  refine iB Be 2 PC pS<|jl 0 (PB _ _ pS)<|jn fun b4=>jd 3 [0] ?_
  have hrp:=(hR _ (zL pS))
  have hrf:=hrp.f1
  have hrt:=hrp.t1
  refine jd 3 [0]<|jp (vs:=[.string s8.f,zI 1,zI 2]) [] [] (fun aH hs hZ=>(Kh hrp.fl (by omega) (by omega) (by omega)))<|jd 4 [0]<|jp (vs:=[.string s8.t,zI 0,zI 2]) [] [] (fun aH hs hZ=>(Kh hrp.tl (by omega) (by omega) (by omega)))<|jd 10 [0,0]<|js 30 (cQ s8.f s8.t) (fun h3=>?_) (fun h3=>?_)
  ·
   exfalso;rw[hrp.ne] at h3;cases h3
  refine zD 3<|ja ((k:Int)+1) (by omega)<|zD 2<|bJ bL (k+1) (by omega) (by omega) [] (Sub.refl _)
 refine zD 7<|zX (zI 0) ⟨rfl,rfl⟩
def uG:List Int→Int
 | []=>0
 |x::xs=>xs.foldl min x
def BT:List Int→Int
 | []=>0
 |x::xs=>xs.foldl max x
theorem as1{xs:List Int}{x:Int}(h:xs[0]?=some x):uG xs=(xs.drop 1).foldl min x:=by
 cases xs with
 |nil=>cases h
 |cons y l=>simp at h;subst h;rfl
theorem as2{xs:List Int}{x:Int}(h:xs[0]?=some x):BT xs=(xs.drop 1).foldl max x:=by
 cases xs with
 |nil=>cases h
 |cons y l=>simp at h;subst h;rfl
def rz(l:List Int):Int:=(l.filter fun x=>decide (x>0)).length
theorem J5{l:List Int}{x:Int}(h:l[k]?=some x):rz (l.take (k+1))=rz (l.take k)+if x>0 then 1 else 0:=by
 rw[ee h,rz,List.filter_append,rz]
 by_cases hx:x>0<;>simp[hx]
structure aj where
 past:Int
 w0:Int
 w1:Int
 w2:Int
 w3:Int
 gone:Int
 new:Int
 af:Int
abbrev cP(x:aj):List Value:=[zI x.past,zI x.w0,zI x.w1,zI x.w2,zI x.w3,zI x.gone,zI x.new,zI x.af]
def cE(g n m:Int)(x:aj):Bool:=decide (x.gone≤g)&&(decide (x.new≤n)&&decide (x.af≤m))
def hasB(f i:Int):Bool:=decide (Ug .u8 (aT .u8 f i) 1=1)
theorem aJR{v:Value}{xs:List Int}(hl:bI ro v 1 cz xs)(hn:0 <xs.length∧xs.length≤1000000):dD zT 110 [v] ro (zI (uG xs)):=by
 obtain⟨fu,ry,rq,eI,rfl,tx,lv,mj⟩:=hl
 refine zE<|zD 11<|zJ 7 ((xs.length:Int) <1) (fun h1=>?_) fun h1=>?_
 ·
  exfalso;omega
 refine zD 5 ?_
 obtain⟨x10,rD⟩:=zG xs 0
 refine iB eI 1 lv rD<|jl 0 (mj _ _ rD)<|zD 8<|dS [1,1,1,0,1,0,0] [] (fun(zz:Nat×Int)=>[(0,.slice fu xs.length eI),(2,zI 0),(3,zI zz.2),(4,zI (zz.1:Int))]) (fun zz=>[]) (fun zz=>(1≤zz.1∧zz.1≤xs.length)∧uG xs=(xs.drop zz.1).foldl min zz.2) (fun zz=>xs.length-zz.1) (⟨1,x10⟩) ⟨by dsimp only;omega,as1 rD⟩ [] ?_
 rintro⟨k,m⟩ hI K1 bL rest
 dsimp only at hI
 refine zD 8<|zJ 15 ((k:Int) <(xs.length:Int)) (fun h2=>?_) fun h2=>?_
 ·
  refine zD 8 ?_
  obtain⟨x6,pR⟩:=zG xs k
  refine iB eI 1 lv pR<|jl 0 (mj _ _ pR)<|jmn (k:= .i64) (a:=m) (b:=x6)<|zD 4<|ja ((k:Int)+1) (by omega)<|zD 2<|bJ bL (⟨k+1,(min m x6)⟩) ⟨by dsimp only;omega,by rw[hI.2,fo pR];rfl⟩ (by dsimp only;omega) [] (Sub.refl _)
 refine zD 8<|zX (zI m) ⟨by rw[hI.2,eo (by omega)];rfl,rfl⟩
theorem aJS{v:Value}{xs:List Int}(hl:bI ro v 1 cz xs)(hn:0 <xs.length∧xs.length≤1000000):dD zT 111 [v] ro (zI (BT xs)):=by
 obtain⟨fu,ry,rq,eI,rfl,tx,lv,mj⟩:=hl
 refine zE<|zD 11<|zJ 7 ((xs.length:Int) <1) (fun h1=>?_) fun h1=>?_
 ·
  exfalso;omega
 refine zD 5 ?_
 obtain⟨x10,rD⟩:=zG xs 0
 refine iB eI 1 lv rD<|jl 0 (mj _ _ rD)<|zD 8<|dS [1,1,1,0,1,0,0] [] (fun(zz:Nat×Int)=>[(0,.slice fu xs.length eI),(2,zI 0),(3,zI zz.2),(4,zI (zz.1:Int))]) (fun zz=>[]) (fun zz=>(1≤zz.1∧zz.1≤xs.length)∧BT xs=(xs.drop zz.1).foldl max zz.2) (fun zz=>xs.length-zz.1) (⟨1,x10⟩) ⟨by dsimp only;omega,as2 rD⟩ [] ?_
 rintro⟨k,m⟩ hI K1 bL rest
 dsimp only at hI
 refine zD 8<|zJ 15 ((k:Int) <(xs.length:Int)) (fun h2=>?_) fun h2=>?_
 ·
  refine zD 8 ?_
  obtain⟨x6,pR⟩:=zG xs k
  refine iB eI 1 lv pR<|jl 0 (mj _ _ pR)<|jmx (k:= .i64) (a:=m) (b:=x6)<|zD 4<|ja ((k:Int)+1) (by omega)<|zD 2<|bJ bL (⟨k+1,(max m x6)⟩) ⟨by dsimp only;omega,by rw[hI.2,fo pR];rfl⟩ (by dsimp only;omega) [] (Sub.refl _)
 refine zD 8<|zX (zI m) ⟨by rw[hI.2,eo (by omega)];rfl,rfl⟩
theorem apw{v:Value}{xs:List Int}(hl:bI ro v 1 cz xs)(hn:0 <xs.length∧xs.length≤1000000):dD zT 86 [v] ro (.agg ⟨[zI (uG xs),zI (BT xs)]⟩):=by
 obtain⟨fu,ry,rq,eI,rfl,tx,lv,mj⟩:=hl
 refine zE<|zD 2<|jn fun b2=>zD 4<|jp (vs:=[.slice fu xs.length eI]) [] [] (fun aH hs hZ=>aJR ((show bI _ _ _ _ _ from ⟨fu,ry,rq,eI,rfl,tx,lv,mj⟩).up hs) (by omega))<|zD 1<|jp (vs:=[.slice fu xs.length eI]) [] [] (fun aH hs hZ=>aJS ((show bI _ _ _ _ _ from ⟨fu,ry,rq,eI,rfl,tx,lv,mj⟩).up hs) (by omega))<|jd 4 [0]<|zR (.agg ⟨[zI (uG xs),zI (BT xs)]⟩) [0] [] [] ⟨rfl,rfl⟩
theorem amg{x:aj}:dD zT 85 [.agg ⟨[zI x.past,zI x.w0,zI x.w1,zI x.w2,zI x.w3,zI x.gone,zI x.new,zI x.af]⟩] ro (.bool true):=by
 refine zE<|zD 2<|jn fun b1=>zD 7<|zX (.bool true) ⟨rfl,rfl⟩
theorem afe{f:Nat}{x:aj}{c2 c3 c4:Value}(hf:ro f=some (.cells ⟨[c0,c1,c2,c3,c4,c5,c6,c7,zI gone,zI new,zI af,c11,vt]⟩ 150 (0,0))):dD zT 77 [zP f,.agg ⟨[zI x.past,zI x.w0,zI x.w1,zI x.w2,zI x.w3,zI x.gone,zI x.new,zI x.af]⟩] ro (.bool (cE gone new af x)):=by
 refine zE<|zD 2<|jn fun b3=>jd 10 [0]<|jl (b:=f) (off:=0) (m:=13) (vs:=[c0,c1,c2,c3,c4,c5,c6,c7,zI gone,zI new,zI af,c11,vt]) 8 ⟨_,_,_,.inl hf,rfl⟩<|zD 2<|js 8 (decide (x.gone≤gone)) (fun h1=>?_) (fun h1=>?_)
 ·
  have fQ:=h1
  replace fQ:=of_decide_eq_true fQ
  refine jd 6 [0]<|jl (b:=f) (off:=0) (m:=13) (vs:=[c0,c1,c2,c3,c4,c5,c6,c7,zI gone,zI new,zI af,c11,vt]) 9 ⟨_,_,_,.inl hf,rfl⟩<|zD 3<|js 18 (decide (x.new≤new)) (fun h2=>?_) (fun h2=>?_)
  ·
   have me:=h2
   replace me:=of_decide_eq_true me
   refine jd 6 [0]<|jl (b:=f) (off:=0) (m:=13) (vs:=[c0,c1,c2,c3,c4,c5,c6,c7,zI gone,zI new,zI af,c11,vt]) 10 ⟨_,_,_,.inl hf,rfl⟩<|zD 5<|zX (.bool (decide (x.af≤af))) ⟨by simp_all[cE]<;>(intros;omega),rfl⟩
  have me:=h2
  replace me:=of_decide_eq_false me
  refine zD 12<|zX (.bool false) ⟨by simp_all[cE]<;>(intros;omega),rfl⟩
 have fQ:=h1
 replace fQ:=of_decide_eq_false fQ
 refine zD 22<|zX (.bool false) ⟨by simp_all[cE]<;>(intros;omega),rfl⟩
theorem atB{f i:Int}(hi:0≤i∧i≤8):dD zT 94 [.int .u8 f,zI i] ro (.bool (hasB f i)):=by
 refine zE<|zD 8<|jsr (k:= .u8) (k':= .i64) (a:=f) (b:=i) 105 (by omega)<|zD 5<|zX (.bool (decide ((Ug .u8 (aT .u8 f i) 1)=1))) ⟨rfl,rfl⟩
theorem atk{p0 p1 p2 p3:Int}:dD zT 120 [.agg ⟨[zI p0,zI p1,zI p2,zI p3]⟩] ro (zI (rz [p0,p1,p2,p3])):=by
 refine zE<|zD 2<|jn fun b1=>jd 13 [0]<|dS [1,1,0,1,0,0] [] (fun(zz:Nat×Int)=>[(2,zI 0),(3,zI zz.2),(6,.agg ⟨[zI p0,zI p1,zI p2,zI p3]⟩),(7,zI (zz.1:Int))]) (fun zz=>[]) (fun zz=>zz.1≤4∧zz.2=rz ([p0,p1,p2,p3].take zz.1)∧(0≤zz.2∧zz.2≤zz.1)) (fun zz=>4-zz.1) (⟨0,0⟩) ⟨by omega,rfl,by omega⟩ [] ?_
 rintro⟨k,n⟩ hI K1 bL rest
 dsimp only at hI
 refine zD 5<|zJ 8 ((k:Int) <4) (fun h1=>?_) fun h1=>?_
 ·
  refine zD 6 ?_
  obtain⟨x9,hx9⟩:=zG ([p0,p1,p2,p3]:List Int) k (show k <4 from by omega)
  refine jai (l:=[zI p0,zI p1,zI p2,zI p3]) (k:Int) 4 1 false (by omega) (v:= zI x9) (show nth _ (k*1)=_ by rw[Nat.mul_one];exact aLf hx9) ?_
  refine zD 7<|zJ 11 (x9>0) (fun h2=>?_) fun h2=>?_
  ·
   refine zD 3<|ja (n+1) (by omega)<|zD 3<|ja ((k:Int)+1) (by omega)<|zD 2<|bJ bL (⟨k+1,(n+1)⟩) ⟨by dsimp only;omega,by rw[J5 hx9,if_pos (by assumption),hI.2.1],by dsimp only;omega⟩ (by dsimp only;omega) [] (Sub.refl _)
  refine zD 3<|ja ((k:Int)+1) (by omega)<|zD 2<|bJ bL (⟨k+1,n⟩) ⟨by dsimp only;omega,by rw[J5 hx9,if_neg (by assumption),hI.2.1,Int.add_zero],by dsimp only;omega⟩ (by dsimp only;omega) [] (Sub.refl _)
 refine zD 8<|zX (zI n) ⟨by rw[hI.2.1,show k=4 by omega];rfl,rfl⟩
theorem qO{xs:List α}{a:Option Addr}{o:Nat}(h:∀k,k <xs.length→a=some ⟨b,o,none⟩)(hn:a.isNone=true):xs=[]:=by
 cases xs with
 |nil=>rfl
 |cons x l=>rw[h 0 (by simp)] at hn;cases hn
theorem arU{v:Value}(hl:bI ro v 1 mf xs)(hn:xs.length≤1000):dR zT 247 [v] ro [] (fun r Y=>∃L,ay r 1 9 mf xs L∧Y=L):=by
 obtain⟨fu,ry,rq,eI,rfl,tx,lv,mj⟩:=hl
 refine zE<|zD 8<|jsn 99 (a:=fu) (l:=xs.length) (c:=eI)<|zD 1<|js 4 (fu.isNone) (fun h1=>?_) (fun h1=>?_)
 ·
  refine zD 6<|zX (zS) ⟨[],by rw[qO lv (by assumption)];exact ay.nil _ _ _,rfl⟩
 refine zD 4<|jn fun b5=>zD 1<|iC (sz:=1) (ps:=[]) (qs:=xs) (enc:=mf) (w:= .slice fu xs.length eI) [0] [] [] (bA (b:=b5) (T:=9)) (fun s he _=>⟨fu,ry,rq,eI,rfl,lv,fun i p hp=>(mj i p hp).ext he⟩) (fun p _=>ai rfl) (by simp<;>omega) (fun v7 L7 ir=>?_)
 rw[List.nil_append] at ir
 obtain⟨SW,SP,Q4⟩:=ir.form
 subst Q4
 refine zD 3<|zR ((.slice SW (xs).length SP)) [] [0] L7 ⟨_,ir,rfl⟩
theorem aLB{f:Nat}{c2 c3 c4:Value}(hx:bI ro c11 3 rM fs)(hf:ro f=some (.cells ⟨[c0,c1,c2,c3,c4,c5,c6,c7,zI gone,zI new,zI af,c11,vt]⟩ 150 (0,0)))(hn:fs.length≤7):dD zT 42 [zP f] ro (.int .u8 (IntKind.u8.wrap (dz .u8 1 (fs.length:Int)-1))):=by
 obtain⟨qxa,qxb,qxo,qxc,rfl,qxk,qxh,qxl⟩:=hx
 refine zE<|zD 10<|jl (b:=f) (off:=0) (m:=13) (vs:=[c0,c1,c2,c3,c4,c5,c6,c7,zI gone,zI new,zI af,.slice qxa fs.length qxc,vt]) 11 ⟨_,_,_,.inl hf,rfl⟩<|zD 1<|jsh (k:= .u8) (k':= .i64) (a:=1) (b:=(fs.length:Int)) 105 (by omega)<|zD 4<|zX (.int .u8 (IntKind.u8.wrap ((dz .u8 1 (fs.length:Int))-1))) ⟨rfl,rfl⟩
theorem yb{r:Value}{A B:Prop}(h:(r= .bool true∧A)∨(r= .bool false∧B)):∃c,r= .bool c∧(c=true→A)∧(c=false→B):=by
 rcases h with ⟨rfl,h⟩| ⟨rfl,h⟩
 ·exact⟨true,rfl,fun _=>h,nofun⟩
 exact⟨false,rfl,nofun,fun _=>h⟩
def ug(w f t:ByteArray)(i:Nat):ByteArray:=w.extract 0 (i:Int).toNat++t++w.extract ((i:Int)+(f.size:Int)).toNat w.size
def pJ(w f t:ByteArray)(i:Nat):Option ByteArray:=if sC (w.extract i w.size) f=true∧1≤(ug w f t i).size∧(ug w f t i).size≤12 then some (ug w f t i) else none
def uB(w f t:ByteArray)(k:Nat):List ByteArray:=(List.range k).filterMap (pJ w f t)
def Db(w f t:ByteArray):List ByteArray:=uB w f t (w.size+1)
theorem BB(w f t:ByteArray)(k:Nat):uB w f t (k+1)=uB w f t k++(pJ w f t k).toList:=by
 rw[uB,uB,List.range_succ,List.filterMap_append]
 cases h:pJ w f t k<;>simp[h]
theorem adm(w f t:ByteArray){n:Nat}(h:k≤n):∃l,uB w f t n=uB w f t k++l:=by
 induction n with
 |zero=>exact⟨[],by rw[show k=0 by omega];simp⟩
 |succ n ih=>
  by_cases hk:k=n+1
  ·exact⟨[],by rw[hk];simp⟩
  obtain⟨l,hl⟩:=ih (by omega)
  exact⟨l++(pJ w f t n).toList,by rw[BB,hl,List.append_assoc]⟩
theorem Py{w:ByteArray}{n:Nat}(hk:k <n)(h:pJ w f t k=some x):(uB w f t n)[(uB w f t k).length]?=some x∧(uB w f t (k+1)).length=(uB w f t k).length+1:=by
 obtain⟨l,hl⟩:=adm w f t (k:=k+1) (n:=n) hk
 rw[hl,BB,h]
 constructor
 ·rw[List.append_assoc,List.getElem?_append_right (Nat.le_refl _)];simp
 simp
theorem Wz{w:ByteArray}(h:pJ w f t k=none):(uB w f t (k+1)).length=(uB w f t k).length:=by
 rw[BB,h];simp
abbrev aqv(l:List ByteArray):(Nat→Option Obj)→Nat→List Value→Cells→Prop:=fun _ k vs LL=>∃x,l[k]?=some x∧vs=[.string x]∧LL=[]
theorem xk.ext{w:ByteArray}(h:xk w)(i j:Nat):xk (w.extract i j):=by
 intro b hb
 refine h b ?_
 have:(w.extract i j).data.toList=(w.data.extract i j).toList:=by simp[ByteArray.data_extract]
 rw[this,Array.toList_extract] at hb
 simp only[List.extract_eq_drop_take] at hb
 exact List.mem_of_mem_drop (List.mem_of_mem_take hb)
theorem xk.app{v w:ByteArray}(h:xk v)(k:xk w):xk (v++w):=by
 intro b hb
 have:(v++w).data.toList=v.data.toList++w.data.toList:=by simp[ByteArray.data_append]
 rw[this] at hb
 exact(List.mem_append.1 hb).elim (h b) (k b)
theorem JI{w:ByteArray}(hw:xk w)(ht:xk t):xk (ug w f t i):=((hw.ext _ _).app ht).app (hw.ext _ _)
theorem adN{a b:ByteArray}(h:sC a b=true):b.size≤a.size:=by
 unfold sC at h
 simp only[Bool.and_eq_true,decide_eq_true_eq] at h
 omega
def aeQ(w:ByteArray):Bool:=decide ((1:Int)≤w.size)&&decide ((w.size:Int)≤12)
theorem Tq{w:ByteArray}(h:sC (w.extract (k:Int).toNat w.size) f=false):pJ w f t k=none:=if_neg fun x=>by
 have h1:sC (w.extract k w.size) f=false:=h
 rw[h1] at x;cases x.1
theorem Zv{w:ByteArray}(h:aeQ (ug w f t k)=false):pJ w f t k=none:=if_neg fun x=>by
 simp only[aeQ,Bool.and_eq_false_iff,decide_eq_false_iff_not] at h
 omega
theorem Tp{w:ByteArray}(h:sC (w.extract (k:Int).toNat w.size) f=true)(h2:aeQ (ug w f t k)=true):pJ w f t k=some (ug w f t k):=if_pos ⟨h,by
 simp only[aeQ,Bool.and_eq_true,decide_eq_true_eq] at h2
 omega⟩
theorem To{w:ByteArray}(h:w.size≤100∧f.size≤100∧t.size≤100):(ug w f t k).size≤1000:=by
 simp only[ug,ByteArray.size_append,ByteArray.size_extract];omega
theorem ak6{w:ByteArray}(hk:k≤w.size)(h:pJ w f t k=some (ug w f t k)):(uB w f t k).length <(Db w f t).length∧(Db w f t)[(uB w f t k).length]?=some (ug w f t k):=by
 have:=(Py (n:=w.size+1) (by omega) h).1
 exact⟨(List.getElem?_eq_some_iff.1 this).1,this⟩
theorem Vi(w:ByteArray)(a b:Nat):(w.extract a b).size≤w.size:=by simp;omega
theorem aih(w:ByteArray)(i:Nat)(h:i≤w.size):(w.extract i w.size).size=w.size-i:=by simp
theorem alM{w:ByteArray}(g1:ro b1=some (.cells ⟨[.string w]⟩ 299 (0,0)))(g2:ro b2=some (.cells ⟨[.string f]⟩ 9 (0,0)))(g3:ro b3=some (.cells ⟨[.string t]⟩ 9 (0,0)))(hw:xk w)(ht:xk t)(hn:w.size≤100∧f.size≤100∧t.size≤100):ItX zT 289 [] [zP b1,zP b2,zP b3] ro [] (Db w f t).length (aqv (Db w f t)) (fun Z=>Z=[]):=by
 intro bl aH Inv Stop hs hy B hB
 replace g1:=hs _ _ g1
 replace g2:=hs _ _ g2
 replace g3:=hs _ _ g3
 refine zC [.l B]<|zD 2<|jl (b:=b1) (off:=0) (m:=1) (vs:=[.string w]) 0 ⟨_,_,_,.inl g1,rfl⟩<|zD 1<|ja ((w.size:Int)+1) (by omega)<|zD 3<|dS [1,0,0] [] (fun(zz:Nat×Cells)=>[(0,(.func (.yield bl) #[] #[])),(1,zP b1),(2,zP b2),(3,zP b3),(9,zI ((w.size:Int)+1)),(10,zI (zz.1:Int))]) (fun zz=>[.l zz.2]) (fun zz=>zz.1≤w.size+1∧Inv (uB w f t zz.1).length zz.2) (fun zz=>w.size+1-zz.1) (⟨0,B⟩) ⟨by dsimp only;omega,hB⟩ [0] ?_
 rintro⟨k,B⟩ hI K1 bL rest
 dsimp only at hI
 refine zD 5<|zJ 11 ((k:Int) <((w.size:Int)+1)) (fun h1=>?_) fun h1=>?_
 ·
  refine zD 11 ?_
  have uU:=Vi w (k:Int).toNat w.size
  refine zD 1<|jl (b:=b1) (off:=0) (m:=1) (vs:=[.string w]) 0 ⟨_,_,_,.inl g1,rfl⟩<|zD 1<|jtL (b:=w) (lo:=(k:Int)) (by omega)<|jl (b:=b2) (off:=0) (m:=1) (vs:=[.string f]) 0 ⟨_,_,_,.inl g2,rfl⟩<|jp (vs:=[.string (w.extract (k:Int).toNat w.size),.string f]) [] [] (fun aH hs hZ=>(aaJ (by omega)))<|zD 2<|js 18 (!(sC (w.extract (k:Int).toNat w.size) f)) (fun h2=>?_) (fun h2=>?_)
  ·
   try simp only[zB] at h2
   refine zD 3<|ja ((k:Int)+1) (by omega)<|zD 2<|bJ bL (⟨k+1,B⟩) ⟨by dsimp only;omega,by dsimp only;rw[Wz (Tq (by assumption))];exact hI.2⟩ (by dsimp only;omega) [0] (Sub.refl _)
  try simp only[zB] at h2
  refine zD 3 ?_
  have E0:=Vi w 0 (k:Int).toNat
  have he3:=Vi w ((k:Int)+(f.size:Int)).toNat w.size
  have he4:(w.extract 0 (k:Int).toNat++t).size=_:=ByteArray.size_append
  have hpr:sC (w.extract (k:Int).toNat w.size) f=true:=by assumption
  have Sv:=adN hpr
  rw[aih _ _ (by omega)] at Sv
  refine zD 1<|jl (b:=b1) (off:=0) (m:=1) (vs:=[.string w]) 0 ⟨_,_,_,.inl g1,rfl⟩<|zD 1<|jtH (b:=w) (hi:=(k:Int)) (by omega)<|jl (b:=b3) (off:=0) (m:=1) (vs:=[.string t]) 0 ⟨_,_,_,.inl g3,rfl⟩<|jsa (a:=(w.extract 0 (k:Int).toNat)) (b:=t) 299 (by omega)<|jl (b:=b1) (off:=0) (m:=1) (vs:=[.string w]) 0 ⟨_,_,_,.inl g1,rfl⟩<|zD 1<|jl (b:=b2) (off:=0) (m:=1) (vs:=[.string f]) 0 ⟨_,_,_,.inl g2,rfl⟩<|zD 1<|ja ((k:Int)+(f.size:Int)) (by omega)<|jtL (b:=w) (lo:=((k:Int)+(f.size:Int))) (by omega)<|jsa (a:=((w.extract 0 (k:Int).toNat)++t)) (b:=(w.extract ((k:Int)+(f.size:Int)).toNat w.size)) 299 (by omega)<|zD 5<|jp (vs:=[.string (((w.extract 0 (k:Int).toNat)++t)++(w.extract ((k:Int)+(f.size:Int)).toNat w.size)),zI 1,zI 12]) [] [] (fun aH hs hZ=>(Qd (JI (i:=k) hw ht) (To hn)))<|zD 1<|js 33 (aeQ (ug w f t k)) (fun h3=>?_) (fun h3=>?_)
  ·
   have hry:=Tp (t:=t) hpr (by assumption)
   have Su:=ak6 (by omega) hry
   refine zD 2<|jyc [0] (hy (uB w f t k).length _ [] B aH Su.1 ⟨_,Su.2,rfl,rfl⟩ hI.2 (Sub.refl _)) (Sub.refl _) ?_
   intro v4 Y4 hy4
   obtain⟨c4,rfl,hc4,hd4⟩:=yb hy4
   refine zD 3<|js 38 (!c4) (fun h5=>?_) (fun h5=>?_)
   ·
    try simp only[zB] at h5
    refine zD 2<|zR (.tuple ⟨[]⟩) [] [0] Y4 ⟨[],Y4,rfl,rfl,.inr (hd4 (by simp_all))⟩
   try simp only[zB] at h5
   refine zD 3<|ja ((k:Int)+1) (by omega)<|zD 2<|bJ bL (⟨k+1,Y4⟩) ⟨by dsimp only;omega,by dsimp only;rw[(Py (n:=k+1) (by omega) hry).2];exact hc4 (by assumption)⟩ (by dsimp only;omega) [0] (Sub.refl _)
  refine zD 9<|ja ((k:Int)+1) (by omega)<|zD 2<|bJ bL (⟨k+1,B⟩) ⟨by dsimp only;omega,by dsimp only;rw[Wz (Zv (by assumption))];exact hI.2⟩ (by dsimp only;omega) [0] (Sub.refl _)
 refine zD 2<|zR (.tuple ⟨[]⟩) [] [0] B ⟨[],B,rfl,rfl,.inl (by have:=hI.2;rwa[show k=w.size+1 by omega] at this)⟩
def oE(rs:List aU):List (ByteArray×ByteArray):=rs.flatMap fun r=>[(r.f,r.t),(r.t,r.f)]
abbrev eP2(x:ByteArray×ByteArray):List Value:=[.string x.1,.string x.2]
def iW(w:ByteArray)(ps:List (ByteArray×ByteArray)):List ByteArray:=ps.flatMap fun p=>Db w p.1 p.2
def mM(w:ByteArray)(rs:List aU):List ByteArray:=iW w (oE rs)
theorem J7:∀(rs:List aU),(oE rs).length=2*rs.length
 | []=>rfl
 |r::rs=>by have:=J7 rs;simp only[oE,List.flatMap_cons,zM] at this ⊢;omega
theorem PT:∀ {rs:List aU} {k q:Nat} {r:aU} {p:ByteArray×ByteArray},rs[k]?=some r→[(r.f,r.t),(r.t,r.f)][q]?=some p→(oE rs)[2*k+q]?=some p
 | [],_,_,_,_,h,_=>by simp at h
 |r::rs,0,q,_,p,h,h2=>by
  simp only[List.getElem?_cons_zero,Option.some.injEq] at h;subst h
  simp only[oE,List.flatMap_cons,Nat.mul_zero,Nat.zero_add]
  rw[List.getElem?_append_left (by have:=(List.getElem?_eq_some_iff.1 h2).1;exact this)];exact h2
 |r::rs,k+1,q,_,p,h,h2=>by
  have:=PT (rs:=rs) (k:=k) (by simpa using h) h2
  simp only[oE,List.flatMap_cons]
  rw[List.getElem?_append_right (by simp;omega)]
  rw[show 2*(k+1)+q- [(r.f,r.t),(r.t,r.f)].length=2*k+q by simp;omega];exact this
theorem Fv{w:ByteArray}{ps:List (ByteArray×ByteArray)}(h:ps[k]?=some p):iW w (ps.take (k+1))=iW w (ps.take k)++Db w p.1 p.2:=by
 rw[iW,ee h,List.flatMap_append];simp[iW]
theorem akM{w:ByteArray}{ps:List (ByteArray×ByteArray)}{j:Nat}(h:ps[k]?=some p) (hx:(Db w p.1 p.2)[j]?=some x):(iW w (ps.take k)).length+j <(iW w ps).length∧(iW w ps)[(iW w (ps.take k)).length+j]?=some x:=by
 have e:iW w ps=iW w (ps.take (k+1))++iW w (ps.drop (k+1)):=by rw[iW,iW,iW,←List.flatMap_append,List.take_append_drop]
 have hj:=(List.getElem?_eq_some_iff.1 hx).1
 have:(iW w ps)[(iW w (ps.take k)).length+j]?=some x:=by
  rw[e,Fv h,List.append_assoc,List.getElem?_append_right (by omega),List.getElem?_append_left (by omega),show (iW w (ps.take k)).length+j-(iW w (ps.take k)).length=j by omega]
  exact hx
 exact⟨(List.getElem?_eq_some_iff.1 this).1,this⟩
theorem alu{r:aU}{q:Nat}(h:mY r)(hp: [(r.f,r.t),(r.t,r.f)][q]?=some p):xk p.2∧(p.1.size≤100∧p.2.size≤100):=by
 have:=zL hp
 have h1:=h.f1;have h2:=h.t1
 simp only[List.mem_cons,List.not_mem_nil,or_false] at this
 rcases this with rfl|rfl
 ·exact⟨h.tl,by dsimp only;omega,by dsimp only;omega⟩
 exact⟨h.fl,by dsimp only;omega,by dsimp only;omega⟩
theorem Z3{w:ByteArray}:dR zT 272 [.string w,.string f,.string t] ro [] (fun r Y=>∃b3 b4 b5,r= .func (.func 289) ⟨[]⟩ ⟨[zP b3,zP b4,zP b5]⟩∧Y=[(b3,.cells ⟨[.string w]⟩ 299 (0,0)),(b4,.cells ⟨[.string f]⟩ 9 (0,0)),(b5,.cells ⟨[.string t]⟩ 9 (0,0))]):=by
 refine zE<|zD 2<|jn fun b3=>jn fun b4=>jn fun b5=>zD 8<|zR (.func (.func 289) ⟨[]⟩ ⟨[zP b3,zP b4,zP b5]⟩) [] [2,1,0] ((b3,.cells ⟨[.string w]⟩ 299 (0,0))::((b4,.cells ⟨[.string f]⟩ 9 (0,0))::[(b5,.cells ⟨[.string t]⟩ 9 (0,0))])) ⟨_,_,_,rfl,rfl⟩
theorem asV{w:ByteArray}(hl:bI ro vl 2 e9 rs):dR zT 248 [.string w,vl] ro [] (fun r Y=>∃b2 b3,r= .func (.func 271) ⟨[]⟩ ⟨[zP b3,zP b2]⟩∧Y=[(b2,.cells ⟨[.string w]⟩ 299 (0,0)),(b3,.cells ⟨[vl]⟩ 36 (0,0))]):=by
 obtain⟨fu,ry,rq,eI,rfl,tx,lv,mj⟩:=hl
 refine zE<|zD 2<|jn fun b2=>jn fun b3=>zD 8<|zR (.func (.func 271) ⟨[]⟩ ⟨[zP b3,zP b2]⟩) [] [1,0] ((b2,.cells ⟨[.string w]⟩ 299 (0,0))::[(b3,.cells ⟨[.slice fu rs.length eI]⟩ 36 (0,0))]) ⟨_,_,rfl,rfl⟩
theorem alL{w:ByteArray}(g1:ro b1=some (.cells ⟨[vl]⟩ 36 (0,0)))(hl:bI ro vl 2 e9 rs)(hR:∀r∈rs,mY r)(g2:ro b2=some (.cells ⟨[.string w]⟩ 299 (0,0)))(hw:xk w)(hn:w.size≤100)(hq:rs.length≤100):ItX zT 271 [] [zP b1,zP b2] ro [] (mM w rs).length (aqv (mM w rs)) (fun Z=>Z=[]):=by
 intro bl aH Inv Stop hs hy B hB
 replace g1:=hs _ _ g1
 replace g2:=hs _ _ g2
 replace hl:=hl.up hs
 obtain⟨fu,ry,rq,eI,rfl,tx,lv,mj⟩:=hl
 refine amn au [.l B] [] bn<|zD 2<|jn fun b3=>jf [0] [(b3,.cells ⟨[(.func (.yield bl) #[] #[])]⟩ 366 (0,0))] fun za bX iI=>zD 3<|jl (b:=b1) (off:=0) (m:=1) (vs:=[.slice fu rs.length eI]) 0 ⟨_,_,_,.inl (bX _ _ g1),rfl⟩<|zD 4<|oR<|aBV [1,1,0,0] [] (fun(zz:Nat×(List Nat)×Cells)=>[(2,zP b2),(3,zP b3),(9,.slice fu rs.length eI),(10,zI (rs.length:Int)),(11,zI (zz.1:Int))]) (fun zz=>[.l (mk zz.2.1),.l zz.2.2]) (fun zz=>(zz.2.1.map dX)) (fun zz=>zz.1≤rs.length∧Inv (iW w ((oE rs).take (2*zz.1))).length zz.2.2) (fun zz=>rs.length-zz.1) (⟨0,[],B⟩) ⟨by dsimp only;omega,hB⟩ [0,1] ?_
 rintro⟨k,tY,B⟩ hI K1 bL rest
 dsimp only at hI
 refine zD 5<|zJ 12 ((k:Int) <(rs.length:Int)) (fun h4=>?_) fun h4=>?_
 ·
  refine zD 6 ?_
  obtain⟨x13,amE⟩:=zG rs k
  refine iB eI 2 lv amE<|jl 0 ((mj _ _ amE).ext (tT bX))<|jn fun b5=>jd 14 [0,0,0,0,0]<|jn fun nQ=>zD 4<|aBV [1,1,0,0,1,1,0,0,1,1,0,0] [K1] (fun(zz:Nat×(List Nat)×Cells)=>[(2,zP b2),(3,zP b3),(9,.slice fu rs.length eI),(10,zI (rs.length:Int)),(11,zI (k:Int)),(25,.slice (some ⟨nQ,0,none⟩) 2 2),(26,zI 2),(27,zI (zz.1:Int))]) (fun zz=>[.l (mk zz.2.1),.l zz.2.2,.b nQ (.cells ⟨[.string x13.f,.string x13.t,.string x13.t,.string x13.f]⟩ 367 (0,0))]) (fun zz=>(zz.2.1.map dX)) (fun zz=>zz.1≤2∧Inv (iW w ((oE rs).take (2*k+zz.1))).length zz.2.2) (fun zz=>2-zz.1) (⟨0,tY,B⟩) ⟨by dsimp only;omega,hI.2⟩ [2,3,0] ?_
  rintro⟨q,tY,B⟩ hJ K2 mb rest
  dsimp only at hJ
  refine zD 5<|zJ 28 ((q:Int) <2) (fun h5=>?_) fun h5=>?_
  ·
   refine zD 6 ?_
   obtain⟨DN,Aw⟩:=zG ([(x13.f,x13.t),(x13.t,x13.f)]:List _) q (show q <2 from by omega)
   refine iB (a:=(some ⟨nQ,0,none⟩)) (b:=nQ) (off:=0) 2 2 (fun _ _=>rfl) Aw<|oH (m:=2) 0 [2] [(nQ,.cells ⟨([(x13.f,x13.t),(x13.t,x13.f)].map eP2).flatten⟩ 367 (0,0))] (fun s _ hZ=>wO (hZ _ (.head _)) (by intro p hp;rfl) Aw) ?_
   refine jn fun b7=>jd 3 [0] ?_
   have hpx:=PT amE Aw
   have hpk:=alu (hR _ (zL amE)) Aw
   refine zD 1<|jl (b:=b2) (off:=0) (m:=1) (vs:=[.string w]) 0 ⟨_,_,_,.inl (bX _ _ g2),rfl⟩<|jd 4 [0,0]<|jc (vs:=[.string w,.string DN.1,.string DN.2]) [] (Z3) ?_
   rintro _ _ ⟨apn,apm,apl,rfl,rfl⟩
   refine jg 0 [.b apn (.cells ⟨[.string w]⟩ 299 (0,0)),.b apm (.cells ⟨[.string DN.1]⟩ 9 (0,0)),.b apl (.cells ⟨[.string DN.2]⟩ 9 (0,0))]<|jf [0,1,2] ((apn,.cells ⟨[.string w]⟩ 299 (0,0))::((apm,.cells ⟨[.string DN.1]⟩ 9 (0,0))::[(apl,.cells ⟨[.string DN.2]⟩ 9 (0,0))])) fun ro8 yH hk7=>zD 2<|jrf [] (alM (hk7 _ (.head _)) (hk7 _ (.tail _ (.head _))) (hk7 _ (.tail _ (.tail _ (.head _)))) hw hpk.1 ⟨hn,hpk.2⟩) (by rintro _ _ _ _ ⟨_,_,rfl,_⟩;rfl) (fun(zz:Cells)=>[.l zz]) (fun kk=>(fun(zz:Cells)=>Inv ((iW w ((oE rs).take (2*k+q))).length+kk) zz)) (fun jump=>(fun(zz:Cells)=>jump= .ret∧Stop zz)) B (show Inv (_+0) _ from hJ.2) [2] ?_ ?_ ?_
   ·
    rintro bl9 bd9 kk9 vs9 LL9 B ro9 hk9 avl hL hs9
    obtain⟨x9,hx9,rfl,rfl⟩:=avl
    have hu:=akM hpx hx9
    refine zD 3<|jbg<|zD 3<|jl (b:=b3) (off:=0) (m:=1) (vs:=[(.func (.yield bl) #[] #[])]) 0 ⟨_,_,_,.inl (hs9 _ _ (yH _ _ (iI _ (.head _)))),rfl⟩<|zD 1<|jyc [1] (hy ((iW w ((oE rs).take (2*k+q))).length+kk9) _ [] B ro9 hu.1 ⟨_,hu.2,rfl,rfl⟩ hL ((bX.trans yH).trans hs9)) (Sub.refl _) ?_
    intro v10 Y10 aMe
    obtain⟨c10,rfl,avK,avD⟩:=yb aMe
    refine zD 2<|js 41 (!c10) (fun NC=>?_) (fun NC=>?_)
    ·
     try simp only[zB] at NC
     refine zD 2<|jys ZF (Sub.refl _) .ret Y10 ⟨rfl,avD (by simp_all)⟩ [1,0]
    try simp only[zB] at NC
    refine zD 2<|jyn ZF (Sub.refl _) Y10 (avK (by simp_all)) [1,0]
   ·
    rintro bd9 B Z9 hL hZ9
    subst hZ9
    refine zD 1<|ja ((q:Int)+1) (by omega)<|zD 2<|jnD mb (⟨q+1,(bd9::tY),B⟩) ⟨by dsimp only;omega,by dsimp only;rw[←Nat.add_assoc,Fv hpx,List.length_append];exact hL⟩ (by dsimp only;omega) [[0,4],[2],[5]] yH
   rintro bd9 B Z9 jump hS hZ9
   obtain⟨rfl,hS⟩:=hS
   subst hZ9
   exact jrM qm0.a.w.w.a.m (.tuple ⟨[]⟩) [0,4] [] [1] B (bX.trans yH) ⟨[],B,rfl,rfl,.inr hS⟩
  refine zD 3<|ja ((k:Int)+1) (by omega)<|zD 2<|jnD bL (⟨k+1,tY,B⟩) ⟨by dsimp only;omega,by have:=hJ.2;dsimp only;rwa[show 2*(k+1)=2*k+q by omega]⟩ (by dsimp only;omega) [[0],[1]] (Sub.refl _)
 refine zD 2<|jrM qm0.a.w (.tuple ⟨[]⟩) [0] [] [0] B bX ⟨[],B,rfl,rfl,.inl (by have:=hI.2;rwa[show k=rs.length by omega,List.take_of_length_le (by rw[J7];exact Nat.le_refl _)] at this)⟩
instance:LawfulBEq ByteArray where
 eq_of_beq:=fun h=>by rw[N9] at h;exact of_decide_eq_true h
 rfl:=fun {a}=>by rw[N9];exact decide_eq_true rfl
def dd(l:List ByteArray):List ByteArray:=l.foldl (fun a x=>if x∈a then a else a++[x]) []
theorem E7(l:List ByteArray)(x:ByteArray):dd (l++[x])=if x∈dd l then dd l else dd l++[x]:=by rw[dd,List.foldl_append];rfl
theorem awI(a:List ByteArray):∀b:List ByteArray,∃r,dd (a++b)=dd a++r:=by
 intro b
 induction b generalizing a with
 |nil=>exact⟨[],by simp⟩
 |cons x b ih=>
  obtain⟨r,hr⟩:=ih (a++[x])
  rw[show a++x::b=(a++[x])++b by simp,hr,E7]
  split
  ·exact⟨r,rfl⟩
  exact⟨x::r,by simp⟩
abbrev kvS:ByteArray→Value:=fun a=> .string a
def mF(m:List ByteArray):List (ByteArray×Value):=m.map fun x=>(x,.bool true)
theorem Va(k:ByteArray):∀(m:List ByteArray) (i:Nat),(rV k (mF m) i).map (·.2)=if k∈m then some (.bool true) else none
 | [],_=>rfl
 |x::m,i=>by
  simp only[mF,List.map_cons,rV]
  by_cases h:k=x
  ·simp[h]
  have:=Va k m (i+1)
  simp only[mF] at this
  simp[h,this]
theorem aBx{k:ByteArray}{m:List ByteArray}:Qn (.bool false) false k (mF m)= .bool (decide (k∈m)):=by
 simp only[Qn,lkM,Va]
 by_cases h:k∈m<;>simp[h]
theorem arv{k:ByteArray}{m:List ByteArray}(h:decide (k∈m)=false):lV k (.bool true) (mF m)=mF (m++[k]):=by
 have h:=of_decide_eq_false h
 have:=Va k m 0
 rw[if_neg h] at this
 simp only[lV]
 cases hf:rV k (mF m) 0 with
 |none=>simp[mF]
 |some x=>rw[hf] at this;cases this
theorem aiF{l:List ByteArray}(hx:l[k]?=some x) (h:decide (x∈dd (l.take k))=true):dd (l.take (k+1))=dd (l.take k):=by
 rw[ee hx,E7,if_pos (of_decide_eq_true h)]
theorem Vp{l:List ByteArray}(hx:l[k]?=some x) (h:decide (x∈dd (l.take k))=false):dd (l.take (k+1))=dd (l.take k)++[x]:=by
 rw[ee hx,E7,if_neg (of_decide_eq_false h)]
theorem awJ{l:List ByteArray}(hx:l[k]?=some x) (h:decide (x∈dd (l.take k))=false):∃r,dd l=dd (l.take k)++[x]++r:=by
 obtain⟨r,hr⟩:=awI (l.take (k+1)) (l.drop (k+1))
 rw[List.take_append_drop,Vp hx h] at hr
 exact⟨r,hr⟩
def DE(rs:List aU)(to:ByteArray):Nat→ByteArray→List ByteArray→List (List ByteArray)
 |0,w,b=>if cQ w to=true then [b++[w]] else []
 |n+1,w,b=>(dd (mM w rs)).flatMap fun s=>DE rs to n s (b++[w])
theorem N2{to:ByteArray}:∀ {n:Nat} {w:ByteArray} {b x:List ByteArray},x∈DE rs to n w b→x.length=b.length+n+1
 |0,w,b,x,h=>by
  simp only[DE] at h
  split at h
  ·rw[List.mem_singleton] at h;subst h;simp
  cases h
 |n+1,w,b,x,h=>by
  simp only[DE,List.mem_flatMap] at h
  obtain⟨s,_,h2⟩:=h
  have:=N2 h2
  simp at this;omega
theorem akL{w:ByteArray}(hR:∀r∈rs,mY r)(hw:xk w)(h:x∈mM w rs):xk x∧x.size≤12:=by
 simp only[mM,iW,oE,List.mem_flatMap,Db,uB,List.mem_filterMap,List.mem_range] at h
 obtain⟨p,⟨r,hr,hp⟩,i,_,hi⟩:=h
 have ht:xk p.2:=by
  simp only[List.mem_cons,List.not_mem_nil,or_false] at hp
  rcases hp with rfl|rfl
  ·exact(hR r hr).tl
  exact(hR r hr).fl
 simp only[pJ] at hi
 split at hi
 ·rename_i hc
  cases hi
  exact⟨JI hw ht,hc.2.2⟩
 cases hi
abbrev anN(L:List (List ByteArray)):(Nat→Option Obj)→Nat→List Value→Cells→Prop:=fun _ k vs LL=>∃x v,L[k]?=some x∧vs=[v]∧ay v 1 9 mf x LL
structure ajy(ro:Nat→Option Obj)(bl:Nat)(rs:List aU)(to:ByteArray)(many bm bt bB br bg:Nat)(vl:Value):Prop where
 m:ro bm=some (.cells ⟨[zI (many:Int)]⟩ 3 (0,0))
 t:ro bt=some (.cells ⟨[.string to]⟩ 299 (0,0))
 y:ro bB=some (.cells ⟨[.func (.yield bl) #[] #[]]⟩ 333 (0,0))
 r:ro br=some (.cells ⟨[vl]⟩ 36 (0,0))
 g:ro bg=some (.cells ⟨[.func (.func 246) ⟨[]⟩ ⟨[zP bm,zP bt,zP bB,zP br,zP bg]⟩]⟩ 334 (0,0))
 l:bI ro vl 2 e9 rs
theorem ajy.up{aI:Nat→Option Obj}{to:ByteArray}(h:ajy ro bl rs to many bm bt bB br bg vl)(hs:Sub ro aI):ajy aI bl rs to many bm bt bB br bg vl:=
 ⟨hs _ _ h.m,hs _ _ h.t,hs _ _ h.y,hs _ _ h.r,hs _ _ h.g,h.l.up hs⟩
def aqU(bl:Nat)(rs:List aU)(to:ByteArray)(many bm bt bB br bg:Nat)(vl:Value)(L:List (List ByteArray))(Inv:Nat→Cells→Prop)(Stop:Cells→Prop)(n:Nat):Prop:=
 ∀(ro:Nat→Option Obj) (w:ByteArray) (b:List ByteArray) (v:Value) (p:Nat) (B:Cells),ajy ro bl rs to many bm bt bB br bg vl→bI ro v 1 mf b→b.length+n=many→xk w→w.size≤100→Part L p (DE rs to n w b)→Inv p B→YOK zT bl ro L.length (anN L) Inv Stop→
  dR zT 246 [.string w,v,zP bm,zP bt,zP bB,zP br,zP bg] ro B (fun r Y=>∃c,r= .bool c∧(c=true→Inv (p+(DE rs to n w b).length) Y)∧(c=false→Stop Y))
theorem asX{n:Nat}{w:ByteArray}{b:List ByteArray}{v:Value}{p:Nat}{B:Cells}{to:ByteArray}{L:List (List ByteArray)}{Inv:Nat→Cells→Prop}(ih:∀m,m <n→aqU bl rs to many bm bt bB br bg vl L Inv Stop m)(hR:∀r∈rs,mY r)(hq:rs.length≤100)(XL:many≤100)(Q6:ajy ro bl rs to many bm bt bB br bg vl)(hb:bI ro v 1 mf b)(hbn:b.length+n=many)(hw:xk w)(rE:w.size≤100)(hP:Part L p (DE rs to n w b))(hB:Inv p B)(hy:YOK zT bl ro L.length (anN L) Inv Stop):dR zT 246 [.string w,v,zP bm,zP bt,zP bB,zP br,zP bg] ro B (fun r Y=>∃c,r= .bool c∧(c=true→Inv (p+(DE rs to n w b).length) Y)∧(c=false→Stop Y)):=by
 obtain⟨gm,gt,gy,gl,gg,hl⟩:=id Q6
 obtain⟨fu,ry,rq,eI,rfl,tx,lv,mj⟩:=hl
 obtain⟨aAx,aKc,aJ8,aAw,rfl,aKa,aKb,aJ9⟩:=hb
 refine amn au [.l B] [] bn<|zD 2<|jn fun b9=>zD 4<|jc (vs:=[.slice aAx b.length aAw]) [] (arU (show bI _ _ _ _ _ from ⟨aAx,aKc,aJ8,aAw,rfl,aKa,aKb,aJ9⟩) (by first|omega| (simp only[List.length_set,zM];omega))) ?_
 rintro v14 L14 ⟨_,Uz,rfl⟩
 refine zD 1<|jn fun b16=>iC (sz:=1) (ps:=b) (qs:=[w]) (enc:=mf) (w:= .slice (some ⟨b16,0,none⟩) 1 1) [1] [0] [(b16,.cells ⟨([w].map mf).flatten⟩ 9 (0,0))] (Uz) (fun s _ hZ=>bN [w] (hZ _ (.head _)) (by intro p hp;rfl)) (fun p _=>ai rfl) (by simp only[List.length_cons,List.length_nil];omega) (fun v17 L17 Uy=>?_)
 obtain⟨xq,xp,I5⟩:=Uy.form
 subst I5
 refine jn fun rX=>jd 7 [0,0]<|jl (b:=bm) (off:=0) (m:=1) (vs:=[zI (many:Int)]) 0 ⟨_,_,_,.inl gm,rfl⟩<|zD 2<|zJ 21 (((b++[w]).length:Int)>(many:Int)) (fun h1=>?_) fun h1=>?_
 ·
  refine zD 2 ?_
  obtain rfl:n=0:=by simp only[zM] at*;omega
  refine zD 2<|jl (b:=bt) (off:=0) (m:=1) (vs:=[.string to]) 0 ⟨_,_,_,.inl gt,rfl⟩<|zD 2<|js 25 (!(cQ w to)) (fun h2=>?_) (fun h2=>?_)
  ·
   have me:=h2
   try simp only[zB] at me
   refine jd 7 [3]<|jrM qm0 (.bool true) [] [3] [4] B (Sub.refl _) ⟨_,rfl,(fun _=>by rw[show DE rs to 0 w b=[] from if_neg (by simp_all)];exact hB),nofun⟩
  have me:=h2
  try simp only[zB] at me
  have agD:DE rs to 0 w b=[b++[w]]:=if_pos (by simp_all)
  have hel:=Part.get (i:=0) (x:=b++[w]) hP (by rw[agD];rfl)
  refine jl (b:=bB) (off:=0) (m:=1) (vs:=[(.func (.yield bl) #[] #[])]) 0 ⟨_,_,_,.inl gy,rfl⟩<|jd 1 [0]<|jyc [1,4] (hy p [(.slice xq ((b++[w])).length xp)] L17 B ro hel.1 ⟨_,_,hel.2,rfl,Uy⟩ hB (Sub.refl _)) (Sub.refl _) ?_
  intro v28 Y28 aMc
  obtain⟨c28,rfl,aOO,aOB⟩:=yb aMc
  refine jd 4 [3]<|jrM qm0 (.bool c28) [] [3] [0] Y28 (Sub.refl _) ⟨_,rfl,(fun h=>by rw[agD];exact aOO h),aOB⟩
 refine zD 3 ?_
 obtain⟨m,rfl⟩:∃m,n=m+1:=⟨n-1,by simp only[zM] at*;omega⟩
 refine zD 1<|jmk kvS fun r30 L30 aC7=>jn fun SI=>jd 5 [0]<|jf [2,0,3] ((rX,.cells ⟨[(.slice xq ((b++[w])).length xp)]⟩ 99 (0,0))::((SI,.cells ⟨[(.map (some r30))]⟩ 336 (0,0))::L17)) (fun ro5 Dr hk4=>?_)
 have uV:=Uy.kQ hk4.tail.tail
 replace Q6:=Q6.up Dr
 replace hy:=hy.up Dr
 refine zD 1<|jl (b:=br) (off:=0) (m:=1) (vs:=[.slice fu rs.length eI]) 0 ⟨_,_,_,.inl (Dr _ _ gl),rfl⟩<|jc (vs:=[.string w,.slice fu rs.length eI]) [] (asV ((show bI _ _ _ _ _ from ⟨fu,ry,rq,eI,rfl,tx,lv,mj⟩).up Dr)) ?_
 rintro _ _ ⟨apq,apo,rfl,rfl⟩
 refine jg 0 [.b apq (.cells ⟨[.string w]⟩ 299 (0,0)),.b apo (.cells ⟨[.slice fu rs.length eI]⟩ 36 (0,0))]<|jf [0,1] ((apq,.cells ⟨[.string w]⟩ 299 (0,0))::[(apo,.cells ⟨[.slice fu rs.length eI]⟩ 36 (0,0))]) fun ro8 yH hk7=>zD 2<|jrf [] (alL (hk7 _ (.tail _ (.head _))) (Q6.l.up yH) hR (hk7 _ (.head _)) hw rE hq) (by rintro _ _ _ _ ⟨_,_,rfl,_⟩;rfl) (fun(zz:Bool×Cells×Cells)=>[.b b9 (.cells ⟨[.bool zz.1]⟩ 4 (0,0)),.l zz.2.1,.l zz.2.2]) (fun kk=>(fun(zz:Bool×Cells×Cells)=>Inv (p+((dd ((mM w rs).take kk)).flatMap fun s=>DE rs to m s (b++[w])).length) zz.2.2∧jJ r30 kvS (mF (dd ((mM w rs).take kk))) zz.2.1)) (fun jump=>(fun(zz:Bool×Cells×Cells)=>jump= .ret∧(zz.1=false∧Stop zz.2.2))) (⟨false,L30,B⟩) ⟨hB,aC7⟩ [2,0,3] ?_ ?_ ?_
 ·
  rintro bl9 bd9 kk9 vs9 LL9 ⟨rv,Lm,B⟩ ro9 hk9 avl hL hs9
  obtain⟨x9,hx9,rfl,rfl⟩:=avl
  have hue:=akL hR hw (zL hx9)
  refine zD 3<|jbg<|zD 4<|jl (b:=SI) (off:=0) (m:=1) (vs:=[(.map (some r30))]) 0 ⟨_,_,_,.inl (hs9 _ _ (yH _ _ (hk4 _ (.tail _ (.head _))))),rfl⟩<|zD 1<|jlu (kv:=kvS) (F:=(mF (dd ((mM w rs).take kk9)))) (r:=r30) (K:=299) x9 (.bool false) false [2] Lm (Xk (T:=299) (by kernel_rfl)) (fun s _ hZ=>hL.2.has hZ)<|jw 37 (.bool (decide (x9∈(dd ((mM w rs).take kk9))))) aBx<|zD 1<|js 37 (decide (x9∈(dd ((mM w rs).take kk9)))) (fun Iy=>?_) (fun Iy=>?_)
  ·
   refine zD 2<|jyn ZF (Sub.refl _) ⟨rv,Lm,B⟩ ⟨by rw[aiF hx9 (by assumption)];exact hL.1,by rw[aiF hx9 (by assumption)];exact hL.2⟩ (zN 0 4)
  have sN:decide (x9∈dd ((mM w rs).take kk9))=false:=by assumption
  obtain⟨rr,hrr⟩:=awJ hx9 sN
  have aCG:=Part.flat (G:=fun s=>DE rs to m s (b++[w])) hP hrr
  refine zD 4<|jl (b:=SI) (off:=0) (m:=1) (vs:=[(.map (some r30))]) 0 ⟨_,_,_,.inl (hs9 _ _ (yH _ _ (hk4 _ (.tail _ (.head _))))),rfl⟩<|zD 1<|jmu (kv:=kvS) (F:=(mF (dd ((mM w rs).take kk9)))) (r:=r30) (K:=299) 2 x9 (.bool true) (Xk (T:=299) (by kernel_rfl)) hL.2 fun aGg ago=>zD 3<|jl (b:=bg) (off:=0) (m:=1) (vs:=[.func (.func 246) ⟨[]⟩ ⟨[zP bm,zP bt,zP bB,zP br,zP bg]⟩]) 0 ⟨_,_,_,.inl (hs9 _ _ (yH _ _ (Dr _ _ gg))),rfl⟩<|zD 1<|jl (b:=rX) (off:=0) (m:=1) (vs:=[(.slice xq ((b++[w])).length xp)]) 0 ⟨_,_,_,.inl (hs9 _ _ (yH _ _ (hk4 _ (.head _)))),rfl⟩<|jc (vs:=[.string x9,(.slice xq ((b++[w])).length xp),zP bm,zP bt,zP bB,zP br,zP bg]) [3] (ih m (by omega) _ _ _ _ (p+((dd ((mM w rs).take kk9)).flatMap fun s=>DE rs to m s (b++[w])).length) _ (Q6.up (yH.trans hs9)) (uV.up (yH.trans hs9)) (by simp only[zM];omega) hue.1 (by omega) aCG hL.1 (hy.up (yH.trans hs9))) ?_
  rintro _ Y43 ⟨c43,rfl,aOL,aOy⟩
  refine zD 2<|js 44 (!c43) (fun Ix=>?_) (fun Ix=>?_)
  ·
   try simp only[zB] at Ix
   refine jd 6 [3]<|jys ZF (Sub.refl _) .ret ⟨false,aGg,Y43⟩ ⟨rfl,rfl,aOy (by simp_all)⟩ [2,3,1,0]
  try simp only[zB] at Ix
  refine zD 2<|jyn ZF (Sub.refl _) ⟨rv,aGg,Y43⟩ ⟨by rw[Vp hx9 sN,List.flatMap_append,List.length_append,←Nat.add_assoc];have:=aOL (by simp_all);simpa using this,by rw[Vp hx9 sN,←arv sN];exact ago⟩ [2,3,1,0]
 ·
  rintro bd9 ⟨rv,Lm,B⟩ Z9 hL hZ9
  subst hZ9
  refine jd 5 [2]<|jrM qm0.a.a.m (.bool true) [0] [1] [3] B (Dr.trans yH) ⟨_,rfl,(fun _=>by have:=hL.1;rwa[List.take_of_length_le (Nat.le_refl _)] at this),nofun⟩
 rintro bd9 ⟨rv,Lm,B⟩ Z9 jump hS hZ9
 obtain⟨rfl,hS⟩:=hS
 obtain⟨rfl,hS⟩:=hS
 subst hZ9
 exact jrM qm0.a.a.m (.bool false) [0] [1] [3] B (Dr.trans yH) ⟨_,rfl,nofun,fun _=>hS⟩
theorem aBq{to:ByteArray}{L:List (List ByteArray)}{Inv:Nat→Cells→Prop}(hR:∀r∈rs,mY r)(hq:rs.length≤100)(XL:many≤100):∀n,aqU bl rs to many bm bt bB br bg vl L Inv Stop n:=by
 intro n
 induction n using Nat.strongRecOn with
 |_ n ih=>exact fun ro w b v p B hc hb hbn hw rE hP hB hy=>asX ih hR hq XL hc hb hbn hw rE hP hB hy
theorem Z5{w to:ByteArray}(g1:ro b1=some (.cells ⟨[zI (many:Int)]⟩ 3 (0,0)))(g2:ro b2=some (.cells ⟨[.string to]⟩ 299 (0,0)))(g3:ro b3=some (.cells ⟨[vl]⟩ 36 (0,0)))(g4:ro b4=some (.cells ⟨[.string w]⟩ 299 (0,0)))(hl:bI ro vl 2 e9 rs)(hR:∀r∈rs,mY r)(hw:xk w)(rE:w.size≤100)(hq:rs.length≤100)(XL:many≤100):ItX zT 245 [] [zP b1,zP b2,zP b3,zP b4] ro [] (DE rs to many w []).length (anN (DE rs to many w [])) (fun Z=>Z=[]):=by
 intro bl aH Inv Stop hs hy B hB
 replace g1:=hs _ _ g1
 replace g2:=hs _ _ g2
 replace g3:=hs _ _ g3
 replace g4:=hs _ _ g4
 replace hl:=hl.up hs
 have hlr:=hl
 obtain⟨fu,ry,rq,eI,rfl,tx,lv,mj⟩:=hl
 refine zC [.l B]<|zD 2<|jn fun b5=>zD 3<|jn fun b6=>jd 8 [0,0]<|jl (b:=b4) (off:=0) (m:=1) (vs:=[.string w]) 0 ⟨_,_,_,.inl g4,rfl⟩<|jf [1,0] ((b5,.cells ⟨[(.func (.yield bl) #[] #[])]⟩ 333 (0,0))::[(b6,.cells ⟨[.func (.func 246) ⟨[]⟩ ⟨[zP b1,zP b2,zP b5,zP b3,zP b6]⟩]⟩ 334 (0,0))]) fun za bX iI=>jc (vs:=[.string w,zS,zP b1,zP b2,zP b5,zP b3,zP b6]) [0] (aBq hR hq XL many _ _ _ _ 0 _ ⟨bX _ _ g1,bX _ _ g2,iI _ (.head _),bX _ _ g3,iI _ (.tail _ (.head _)),hlr.up bX⟩ (bI.nil _ _ _ _ _) (by simp) hw rE ⟨[],[],by simp,rfl⟩ hB (YOK.up hy bX)) ?_
 rintro _ Y10 ⟨c10,rfl,avK,avD⟩
 refine zD 1<|aM q0.a (.tuple ⟨[]⟩) [] [0] Y10 bX ⟨_,_,rfl,rfl,[],Y10,rfl,rfl,by cases c10 with|true=>exact .inl (by simpa using avK rfl)|false=>exact .inr (avD rfl)⟩
theorem aes{w to:ByteArray}{many:Int}(hl:bI ro vl 2 e9 rs):dR zT 227 [.string w,vl,.string to,zI many] ro [] (fun r Y=>∃b4 b5 b6 b7,r= .func (.func 245) ⟨[]⟩ ⟨[zP b7,zP b6,zP b5,zP b4]⟩∧Y=[(b4,.cells ⟨[.string w]⟩ 299 (0,0)),(b5,.cells ⟨[vl]⟩ 36 (0,0)),(b6,.cells ⟨[.string to]⟩ 299 (0,0)),(b7,.cells ⟨[zI many]⟩ 3 (0,0))]):=by
 obtain⟨fu,ry,rq,eI,rfl,tx,lv,mj⟩:=hl
 refine zE<|zD 2<|jn fun b4=>jn fun b5=>jn fun b6=>jn fun b7=>zD 8<|zR (.func (.func 245) ⟨[]⟩ ⟨[zP b7,zP b6,zP b5,zP b4]⟩) [] [3,2,1,0] ((b4,.cells ⟨[.string w]⟩ 299 (0,0))::((b5,.cells ⟨[.slice fu rs.length eI]⟩ 36 (0,0))::((b6,.cells ⟨[.string to]⟩ 299 (0,0))::[(b7,.cells ⟨[zI many]⟩ 3 (0,0))]))) ⟨_,_,_,_,rfl,rfl⟩
theorem asY{L:List (List ByteArray)}(hit:ItX zT 245 [] [zP b1,zP b2,zP b3,zP b4] ro [] L.length (anN L) (fun Z=>Z=[]))(hL:∀x∈L,x.length≤1000):dR zT 226 [.func (.func 245) ⟨[]⟩ ⟨[zP b1,zP b2,zP b3,zP b4]⟩,.func (.func 228) ⟨[]⟩ ⟨[]⟩] ro [] (fun r Y=>∃v,r= .tuple ⟨[v,.bool (decide (0 <L.length))]⟩∧∃ps,ay v 1 9 mf ps Y∧(0 <L.length→ps∈L)):=by
 refine amn au [] [] bn<|zD 2<|jn fun b3=>zD 2<|jf [0] [(b3,.cells ⟨[.func (.func 228) ⟨[]⟩ ⟨[]⟩]⟩ 325 (0,0))] fun za bX iI=>zD 3<|jn fun b6=>zD 3<|jn fun b7=>jd 8 [0]<|oR<|jrf [] (hit.up bX) (by rintro _ _ _ _ ⟨_,_,_,rfl,_⟩;rfl) (fun(zz:Value×(List ByteArray)×Cells×Bool)=>[.b b6 (.cells ⟨[zz.1]⟩ 99 (0,0)),.b b7 (.cells ⟨[.bool zz.2.2.2]⟩ 4 (0,0)),.l zz.2.2.1]) (fun kk=>(fun(zz:Value×(List ByteArray)×Cells×Bool)=>ay zz.1 1 9 mf zz.2.1 zz.2.2.1∧zz.2.2.2=decide (0 <kk)∧(0 <kk→zz.2.1∈L)∧zz.2.1.length≤1000)) (fun jump=>(fun(zz:Value×(List ByteArray)×Cells×Bool)=>False)) (⟨zS,[],[],false⟩) ⟨ay.nil _ _ _,rfl,nofun,by simp⟩ [2,1,0] ?_ ?_ ?_
 ·
  rintro bl4 bd4 kk4 vs4 LL4 ⟨v,ps,Lb,sm⟩ ro4 hk4 avm hI j5
  obtain⟨x4,v4,hx4,rfl,ho4⟩:=avm
  have hxl:=hL _ (zL hx4)
  have Sv:=hI.2.2.2
  refine zD 3<|jbg<|jd 6 [2]<|js 13 (!sm) (fun h5=>?_) (fun h5=>?_)
  ·
   have NA:=h5
   try simp only[zB] at NA
   refine zD 10 ?_
   obtain⟨va6,vc6,he6⟩:=ho4.form
   subst he6
   refine jd 3 [1,2]<|jyn ZF (Sub.refl _) ⟨(.slice va6 (x4).length vc6),x4,LL4,true⟩ ⟨ho4,rfl,fun _=>zL hx4,hxl⟩ [0,1,2,4]
  have NA:=h5
  try simp only[zB] at NA
  refine jl (b:=b3) (off:=0) (m:=1) (vs:=[.func (.func 228) ⟨[]⟩ ⟨[]⟩]) 0 ⟨_,_,_,.inl (j5 _ _ (iI _ (.head _))),rfl⟩<|jd 2 [1]<|jp (vs:=[v4,v]) [4,3] (LL4++Lb) (fun aH hs hZ=>aJU (ho4.kQ hZ.left) (hI.1.kQ hZ.right) (by first|omega| (simp only[List.length_set,zM];omega)) (by first|omega| (simp only[List.length_set,zM];omega))) ?_
  refine zD 3<|zJ 19 ((NY x4 ps) <0) (fun h7=>?_) fun h7=>?_
  ·
   refine zD 3 ?_
   obtain⟨va8,vc8,he8⟩:=ho4.form
   subst he8
   refine jd 3 [1,2]<|jyn ZF (Sub.refl _) ⟨(.slice va8 (x4).length vc8),x4,LL4,true⟩ ⟨ho4,rfl,fun _=>zL hx4,hxl⟩ [0,1,2,4]
  refine zD 2<|jyn ZF (Sub.refl _) ⟨v,ps,Lb,sm⟩ ⟨hI.1,by have:=hI.2.1;simp_all,fun _=>hI.2.2.1 (by have:=hI.2.1;simp_all),Sv⟩ (zN 0 4)
 ·
  rintro bd4 ⟨v,ps,Lb,sm⟩ Z4 hI hZ4
  subst hZ4
  refine jd 8 [2,3]<|jrM qm0.a.m (.tuple ⟨[v,.bool sm]⟩) [0] [] [3] Lb bX ⟨v,by rw[←hI.2.1],ps,hI.1,hI.2.2.1⟩
 rintro bd4 ⟨v,ps,Lb,sm⟩ Z4 jump hS hZ4
 exact hS.elim
abbrev eBy(x:Int):List Value:=[.int .u8 x]
theorem aFf:EF zT 294 (Extern.BytealgMakeNoZero.makeNoZero #[3] #[355]):=⟨Tryz.f294,Tryz.func294,by kernel_rfl,by kernel_rfl,by kernel_rfl,by kernel_rfl⟩
def arC:=(mN Tryz.typeInfo355 Tryz.underlying355 rfl rfl rfl rfl rfl rfl:TF zT 355 _ 1 24 _ false)
theorem adX:ay (.slice (some ⟨b,0,none⟩) 0 l.length) 1 T eBy ([]:List Int) [(b,.cells ⟨l⟩ T (0,0))]:= .inr ⟨b,l,l.length,rfl,rfl,by simp,by simp,by simp,by simp⟩
theorem alw{v:Value}{c:Int}{L:Cells}(h:ay v 1 T eBy [c] L):∃b l cap,cap≠0∧v= .slice (some ⟨b,0,none⟩) 1 cap∧L=[(b,.cells ⟨.int .u8 c::l⟩ T (0,0))]:=by
 rcases h with ⟨_,h,_⟩| ⟨b,l,cap,h1,h2,h3,h4,_,h6⟩
 ·cases h
 simp only[List.length_cons,List.length_nil] at h1 h4 h6
 cases l with
 |nil=>simp at h3;omega
 |cons x l=>
  simp at h6;subst h6
  exact⟨b,l,cap,by omega,h1,h2⟩
def abb(n:Int):ByteArray:=⟨#[n.toNat.toUInt8]⟩
theorem aFg:EF zT 293 Extern.AbiNoEscape.same:=⟨Tryz.f293,Tryz.func293,by kernel_rfl,by kernel_rfl,by kernel_rfl,by kernel_rfl⟩
theorem aFF{v:Value}:dR zT 282 [zP b] ro [(b,.cells ⟨[.pointer none,v]⟩ 357 (0,0))] (fun r Y=>Y=[(b,.cells ⟨[zP b,v]⟩ 357 (0,0))]):=by
 refine zC [.b b (.cells ⟨[.pointer none,v]⟩ 357 (0,0))]<|jd 12 [0]<|jmo [0] [0,0] [(b,.cells ⟨[.pointer none,v]⟩ 357 (0,0))] (zP b)<|jg 0 [.b b (.cells ⟨[.pointer none,v]⟩ 357 (0,0))]<|aLI (v:= zP b) aFg<|jmo [0] [0,0] [(b,.cells ⟨[.pointer none,v]⟩ 357 (0,0))] (zP b)<|jg 0 [.b b (.cells ⟨[.pointer none,v]⟩ 357 (0,0))]<|jd 4 [0]<|zR (.tuple ⟨[]⟩) [] [0] [(b,.cells ⟨[zP b,v]⟩ 357 (0,0))] rfl
theorem aFE{v:Value}:dR zT 282 [zP b] ro [(b,.cells ⟨[zP b,v]⟩ 357 (0,0))] (fun r Y=>Y=[(b,.cells ⟨[zP b,v]⟩ 357 (0,0))]):=by
 refine zC [.b b (.cells ⟨[zP b,v]⟩ 357 (0,0))]<|jd 16 [0,0]<|jpn (b:=b)<|jg 0 []<|zD 3<|zR (.tuple ⟨[]⟩) [] [0] [(b,.cells ⟨[zP b,v]⟩ 357 (0,0))] rfl
theorem aFy:dR zT 283 [zP b,zI 1] ro [(b,.cells ⟨[zP b,zS]⟩ 357 (0,0))] (fun r Y=>∃v L,ay v 1 5 eBy ([]:List Int) L∧Y=(b,.cells ⟨[zP b,v]⟩ 357 (0,0))::L):=by
 refine zC [.b b (.cells ⟨[zP b,zS]⟩ 357 (0,0))]<|jd 6 [0]<|jcp (c:=0)<|jd 8 [0]<|aS 8 fun DM DW Bh=>jnz (n:=1) aFf rfl arC (by omega) fun bb lz hlz=>jg 0 [.b bb (.cells ⟨lz⟩ 5 (0,0))]<|ez Bh [1]<|js0 (a:=⟨bb,0,none⟩) (l:=1) (c:=lz.length)<|jd 9 [1]<|jmo [] [] [] (zI 0)<|jg 0 []<|jd 8 [1]<|zR (.tuple ⟨[]⟩) [] [1,0] ((b,.cells ⟨[zP b,(.slice (some ⟨bb,0,none⟩) 0 lz.length)]⟩ 357 (0,0))::[(bb,.cells ⟨lz⟩ 5 (0,0))]) ⟨_,_,adX,rfl⟩
theorem aFD:dR zT 265 [zP b,zI 1] ro [(b,.cells ⟨[.pointer none,zS]⟩ 357 (0,0))] (fun r Y=>∃v L,ay v 1 5 eBy ([]:List Int) L∧Y=(b,.cells ⟨[zP b,v]⟩ 357 (0,0))::L):=by
 refine zC [.b b (.cells ⟨[.pointer none,zS]⟩ 357 (0,0))]<|zD 3<|jc (vs:=[zP b]) [0] (aFF (v:= zS)) ?_
 rintro _ _ rfl
 refine jg 0 [.b b (.cells ⟨[zP b,zS]⟩ 357 (0,0))]<|jd 15 [0]<|jcp (c:=0)<|jd 13 [0]<|jc (vs:=[zP b,zI 1]) [0] (aFy) ?_
 rintro _ _ ⟨v,L,hv,rfl⟩
 refine jg 0 [.b b (.cells ⟨[zP b,v]⟩ 357 (0,0)),.l L]<|zD 1<|zR (.tuple ⟨[]⟩) [] [0,1] ((b,.cells ⟨[zP b,v]⟩ 357 (0,0))::L) ⟨v,L,hv,rfl⟩
theorem aFG{v:Value}{L:Cells}{c:Int}(ho:ay v 1 5 eBy ([]:List Int) L):dR zT 267 [zP b,.int .u8 c] ro ((b,.cells ⟨[zP b,v]⟩ 357 (0,0))::L) (fun r Y=>∃v' L',ay v' 1 5 eBy [c] L'∧Y=(b,.cells ⟨[zP b,v']⟩ 357 (0,0))::L'):=by
 refine zC [.b b (.cells ⟨[zP b,v]⟩ 357 (0,0)),.l L]<|zD 7<|jc (vs:=[zP b]) [0] (aFE (v:=v)) ?_
 rintro _ _ rfl
 refine jg 0 [.b b (.cells ⟨[zP b,v]⟩ 357 (0,0))]<|jd 9 [0]<|jn fun zi=>iC (sz:=1) (ps:=[]) (qs:=[c]) (enc:=eBy) (w:= .slice (some ⟨zi,0,none⟩) 1 1) [2] [0] [(zi,.cells ⟨([c].map eBy).flatten⟩ 5 (0,0))] (ho) (fun s _ hZ=>bN [c] (hZ _ (.head _)) (by intro p hp;rfl)) (fun p _=>ai rfl) (by simp) (fun v14 L14 tP=>?_)
 rw[List.nil_append] at tP
 obtain⟨Fu,DU,uJ⟩:=tP.form
 subst uJ
 refine jd 9 [2]<|zR (.nilIface) [] [2,0] ((b,.cells ⟨[zP b,(.slice Fu ([c]).length DU)]⟩ 357 (0,0))::L14) ⟨_,_,tP,rfl⟩
theorem aRc{bb cap:Nat}{c:Int}(n9:cap≠0):dR zT 268 [zP b] ro [(b,.cells ⟨[zP b,.slice (some ⟨bb,0,none⟩) 1 cap]⟩ 357 (0,0)),(bb,.cells ⟨.int .u8 c::l⟩ 5 (0,0))] (fun r Y=>r= .string (abb c)):=by
 refine zC [.b b (.cells ⟨[zP b,.slice (some ⟨bb,0,none⟩) 1 cap]⟩ 357 (0,0)),.b bb (.cells ⟨.int .u8 c::l⟩ 5 (0,0))]<|jd 15 [0,0]<|aS 4 fun DM DW Bh=>jsd (a:=⟨bb,0,none⟩) (l:=1) n9<|jg 0 []<|ez Bh [0,1]<|aS 10 fun zl zt yR=>jus (b:=bb) (E:=5) [1] c l fun L9=>fS yR [[1]]<|zD 3<|zX (.string (abb c)) rfl
def tE(u:UInt8):ByteArray:=⟨#[u]⟩
theorem anL{u:UInt8}(h:u.toNat <128):Value.string (Utf8.encode (u.toNat:Int))= .string (tE u):=by
 have hv:Utf8.valid (u.toNat:Int)=true:=by simp only[Utf8.valid];simp;omega
 simp only[Utf8.encode,hv,if_true,Int.toNat_natCast,if_pos (show u.toNat <0x80 from h),tE]
 simp
theorem aET{u:UInt8}(hu:(97≤u.toNat∧u.toNat≤122)):dD zT 244 [.string (tE u)] ro (.string (tE u)):=by
 have uI:(tE u).size=1:=rfl
 refine zE<|zD 15<|dS [1,1,0,1,0,0] [] (fun(zz:Nat×Bool)=>[(0,.string (tE u)),(2,.string (bs [])),(3,.bool true),(4,.bool zz.2),(5,zI (zz.1:Int))]) (fun zz=>[]) (fun zz=>(zz.1=0∧zz.2=false)∨(zz.1=1∧zz.2=false)) (fun zz=>1-zz.1) (⟨0,false⟩) (.inl ⟨rfl,rfl⟩) [] ?_
 rintro⟨i,q⟩ hI K1 bL rest
 dsimp only at hI
 refine zD 8<|zJ 14 ((i:Int) <((tE u).size:Int)) (fun h1=>?_) fun h1=>?_
 ·
  refine zD 5 ?_
  obtain⟨hi0,XB⟩:i=0∧q=false:=by rcases hI with h|h;exact h;omega
  refine jw 5 (zI 0) (show Value.int .i64 (i:Int)= zI 0 by rw[hi0];rfl) ?_
  refine jw 4 (.bool false) (show Value.bool q= .bool false by rw[XB])<|zD 12<|zJ 21 ((u.toNat:Int)≥128) (fun h2=>?_) fun h2=>?_
  ·
   exfalso;omega
  refine zD 8<|js 26 (decide (65≤(u.toNat:Int))) (fun h3=>?_) (fun h3=>?_)
  ·
   have vK:=h3
   replace vK:=of_decide_eq_true vK
   refine zD 11<|bJ bL (⟨1,decide ((u.toNat:Int)≤90)⟩) (.inr ⟨rfl,decide_eq_false (by omega)⟩) (by dsimp only;omega) [] (Sub.refl _)
  have vK:=h3
  replace vK:=of_decide_eq_false vK
  exfalso;omega
 refine zD 4 ?_
 obtain⟨hi1,hq1⟩:i=1∧q=false:=by rcases hI with h|h;omega;exact h
 refine jw 4 (.bool false) (show Value.bool q= .bool false by rw[hq1])<|zD 17<|zX (.string (tE u)) ⟨rfl,rfl⟩
theorem aES{u:UInt8}(hu:(65≤u.toNat∧u.toNat≤90)):dD zT 244 [.string (tE u)] ro (.string (abb (IntKind.u8.wrap ((u.toNat:Int)+32)))):=by
 have uI:(tE u).size=1:=rfl
 refine zE<|zD 15<|dS [1,1,0,1,0,0] [] (fun(zz:Nat×Bool)=>[(0,.string (tE u)),(2,.string (bs [])),(3,.bool true),(4,.bool zz.2),(5,zI (zz.1:Int))]) (fun zz=>[]) (fun zz=>(zz.1=0∧zz.2=false)∨(zz.1=1∧zz.2=true)) (fun zz=>1-zz.1) (⟨0,false⟩) (.inl ⟨rfl,rfl⟩) [] ?_
 rintro⟨i,q⟩ hI K1 bL rest
 dsimp only at hI
 refine zD 8<|zJ 14 ((i:Int) <((tE u).size:Int)) (fun h1=>?_) fun h1=>?_
 ·
  refine zD 5 ?_
  obtain⟨hi0,XB⟩:i=0∧q=false:=by rcases hI with h|h;exact h;omega
  refine jw 5 (zI 0) (show Value.int .i64 (i:Int)= zI 0 by rw[hi0];rfl) ?_
  refine jw 4 (.bool false) (show Value.bool q= .bool false by rw[XB])<|zD 12<|zJ 21 ((u.toNat:Int)≥128) (fun h2=>?_) fun h2=>?_
  ·
   exfalso;omega
  refine zD 8<|js 26 (decide (65≤(u.toNat:Int))) (fun h3=>?_) (fun h3=>?_)
  ·
   have vK:=h3
   replace vK:=of_decide_eq_true vK
   refine zD 11<|bJ bL (⟨1,decide ((u.toNat:Int)≤90)⟩) (.inr ⟨rfl,decide_eq_true (by omega)⟩) (by dsimp only;omega) [] (Sub.refl _)
  have vK:=h3
  replace vK:=of_decide_eq_false vK
  exfalso;omega
 refine zD 4 ?_
 obtain⟨hi1,hq1⟩:i=1∧q=true:=by rcases hI with h|h;omega;exact h
 refine jw 4 (.bool true) (show Value.bool q= .bool true by rw[hq1])<|zD 14<|jn fun b7=>zD 9<|jc (vs:=[zP b7,zI 1]) [0] (aFD) ?_
 rintro _ _ ⟨v,L,hv,rfl⟩
 refine jg 0 [.b b7 (.cells ⟨[zP b7,v]⟩ 357 (0,0)),.l L]<|zD 7<|dS [1,1,1,0,1,0,1,1,1,1,0,1,0,0] [] (fun(zz:Nat×Int×Value×Cells×(List Int))=>[(0,.string (tE u)),(2,.string (bs [])),(7,zP b7),(8,zI zz.2.1),(9,zI (zz.1:Int))]) (fun zz=>[.b b7 (.cells ⟨[zP b7,zz.2.2.1]⟩ 357 (0,0)),.l zz.2.2.2.1]) (fun zz=>ay zz.2.2.1 1 5 eBy zz.2.2.2.2 zz.2.2.2.1∧((zz.1=0∧zz.2.1=0∧zz.2.2.2.2=[])∨(zz.1=1∧zz.2.1=1∧zz.2.2.2.2=[(IntKind.u8.wrap ((u.toNat:Int)+32))]))) (fun zz=>1-zz.1) (⟨0,0,v,L,[]⟩) ⟨hv,.inl ⟨rfl,rfl,rfl⟩⟩ [0,1] ?_
 rintro⟨j,p,v,L,xs⟩ hJ K2 mb rest
 dsimp only at hJ
 refine zD 8<|zJ 41 ((j:Int) <((tE u).size:Int)) (fun h4=>?_) fun h4=>?_
 ·
  refine zD 5 ?_
  obtain⟨hj0,hp0,GM⟩:j=0∧p=0∧xs=[]:=by rcases hJ.2 with h|h;exact h;omega
  refine jw 9 (zI 0) (show Value.int .i64 (j:Int)= zI 0 by rw[hj0];rfl) ?_
  refine jw 8 (zI 0) (show Value.int .i64 p= zI 0 by rw[hp0])<|zD 11<|js 49 (decide (65≤(u.toNat:Int))) (fun h5=>?_) (fun h5=>?_)
  ·
   have NA:=h5
   replace NA:=of_decide_eq_true NA
   refine zD 4<|zJ 52 ((u.toNat:Int)≤90) (fun h6=>?_) fun h6=>?_
   ·
    refine zD 19<|jc (vs:=[zP b7,.int .u8 (IntKind.u8.wrap ((u.toNat:Int)+32))]) [0,1] (aFG (by have:=hJ.1;rwa[GM] at this)) ?_
    rintro _ _ ⟨v2,L2,Im,rfl⟩
    refine jg 0 [.b b7 (.cells ⟨[zP b7,v2]⟩ 357 (0,0)),.l L2]<|zD 11<|bJ mb (⟨1,1,v2,L2,[(IntKind.u8.wrap ((u.toNat:Int)+32))]⟩) ⟨Im,.inr ⟨rfl,rfl,rfl⟩⟩ (by dsimp only;omega) [0,1] (Sub.refl _)
   exfalso;omega
  have NA:=h5
  replace NA:=of_decide_eq_false NA
  exfalso;omega
 refine zD 4 ?_
 obtain⟨hj1,hp1,hx1⟩:j=1∧p=1∧xs=[(IntKind.u8.wrap ((u.toNat:Int)+32))]:=by rcases hJ.2 with h|h;omega;exact h
 refine jw 8 (zI 1) (show Value.int .i64 p= zI 1 by rw[hp1])<|zD 9 ?_
 obtain⟨bb,lz,cap,n9,rfl,rfl⟩:=alw (by have:=hJ.1;rwa[hx1] at this)
 refine zD 1<|jc (vs:=[zP b7]) [0,1] (aRc (bb:=bb) (l:=lz) (c:=(IntKind.u8.wrap ((u.toNat:Int)+32))) n9) ?_
 rintro _ Yz rfl
 refine zD 3<|zX (.string (abb (IntKind.u8.wrap ((u.toNat:Int)+32)))) ⟨rfl,rfl⟩
def aeL(u:UInt8):ByteArray:=if u.toNat <97 then abb (IntKind.u8.wrap ((u.toNat:Int)+32)) else tE u
theorem aQB{u:UInt8}(h:Gz u=true∨Gg u=true):dD zT 244 [.string (tE u)] ro (.string (aeL u)):=by
 unfold aeL
 rcases h with h|h
 ·simp only[Gz,Bool.and_eq_true,Nat.ble_eq] at h
  rw[if_neg (by omega)]
  exact aET (by omega)
 simp only[Gg,Bool.and_eq_true,Nat.ble_eq] at h
 rw[if_pos (by omega)]
 exact aES (by omega)
end Go.L
