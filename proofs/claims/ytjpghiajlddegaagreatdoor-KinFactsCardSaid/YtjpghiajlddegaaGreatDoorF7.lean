/- Part 7 of the proof. -/
import Derived.Test.YtjpghiajlddegaaGreatDoorF6
set_option maxRecDepth 100000
set_option linter.all false
namespace Go.L
open Go Go.Conc Go.Proofs
variable {hd:List cq} {rs:List cM} {k i b many b1 b2 bx b3 bl bm bt br bg sz b4:Nat} {cs:List bK} {f t x:ByteArray} {l:List Value} {α β:Type} {xs ys:List ByteArray} {p:ByteArray×ByteArray} {fs:List ez} {vl vc vh vp c11 c0 c1 c5 c6 c7 vt:Value} {K:aP} {Stop:Cells→Prop} {r n af gone new lo hi:Int}
theorem aUU{vd:Value}{xs:List Int}{ro:Nat→Option Obj}(hl:bE ro vd 1 cT xs):eS zT 8 [vd] ro [] (fun r Y=>∃d,r= zP d∧bH vd xs d Y):=by
 obtain⟨fS,sj,si,fe,rfl,tY,mw,nj⟩:=hl
 refine bC au [] [] bu<|zD 8<|jn fun b5=>zD 3<|aH q0 (zP b5) [] [0] [(b5,.cells ⟨[.slice fS xs.length fe,zI 0,zU 11400714819323198485]⟩ 93 (0,0))] (Sub.refl _) ⟨_,_,rfl,rfl,_,rfl,0,_,Nat.zero_le _,rfl⟩
theorem dg.set{R:α→β→Prop}{l:List α}{m:List β}(h:dg R l m){a:α}{b:β}(hb:m[k]?=some b) (hr:R a b):dg R (l.set k a) m:=by
 induction h generalizing k with
 |nil=>simp at hb
 |cons h1 h2 ih=>
  cases k with
  |zero=>simp at hb;subst hb;exact .cons hr h2
  |succ k=>exact .cons h1 (ih (by simpa using hb))
theorem dg.mem{R:α→β→Prop}{l:List α}{m:List β}(h:dg R l m){a:α}(ha:a∈l):∃b∈m,R a b:=by
 obtain⟨i,hi⟩:=List.getElem?_of_mem ha
 obtain⟨b,hb,hr⟩:=h.get hi
 exact⟨b,List.mem_of_getElem? hb,hr⟩
theorem nq{ro:Nat→Option Obj}{hv:List bp}(h:dg (rV ro) hv hd):∀p∈hv,∀c∈mP p,single c=true:=fun p hp=>by
 obtain⟨y,_,h1⟩:=h.mem hp
 obtain⟨w,c,s,a⟩:=p
 obtain⟨_,_,_,_,e,_⟩:=h1.2.2.2
 dsimp only at e
 subst e
 exact ai rfl
theorem Q9{ro:Nat→Option Obj}{hw:List bp}{Z L:Cells}{v:Value}{x x':bp}{y:cq}(h:∀aF,Sub ro aF→Knows aF Z→dg (rV aF) hw hd)(hS:dg de hw hd)(hx:hw[k]?=some x) (mA:hw[k]?=some x') (hy:hd[k]?=some y) (ho:ax v 1 3 cT y.eC L):
 (∀aF,Sub ro aF→Knows aF (L++Z)→dg (rV aF) (hw.set k ⟨x'.word,x'.cls,x'.oK,v⟩) hd)∧dg de (hw.set k ⟨x'.word,x'.cls,x'.oK,v⟩) hd:=by
 rw[hx] at mA;cases mA
 obtain⟨y',h1,h2⟩:=hS.get hx
 rw[hy] at h1;cases h1
 exact⟨fun aF hs hk=>(h aF hs hk.right).set hy ⟨h2.1,h2.2.1,h2.2.2,ho.lR hk.left⟩,hS.set hy h2⟩
theorem aap{l m:List α}{a:α}(h:l.drop k=m.drop k):(l.set k a).drop (k+1)=m.drop (k+1):=by
 have h1:=congrArg (List.drop 1) h
 rw[List.drop_drop,List.drop_drop] at h1
 rw[List.drop_set_of_lt (by omega)]
 exact h1
theorem ahU{l m:List α}{a:α}(h:l.drop k=m.drop k)(ha:l[k]?=some a):m[k]?=some a:=by
 have h1:=congrArg (fun q=>q[0]?) h
 simp only[List.getElem?_drop,Nat.add_zero] at h1
 rw[←h1];exact ha
theorem ur{hv:List bp}{ro:Nat→Option Obj}(hT:Yn cs hd)(hR:jM ro vc vh cs hv hd)(hS:dg de hv hd):eS zT 48 [.agg ⟨[vc,vh]⟩] ro [] (fun r Y=>∃(hw:List bp) (ca ha:Option Addr) (cc hc:Nat) (Z:Cells),r= .agg ⟨[.slice ca cs.length cc,.slice ha hw.length hc]⟩∧dg de hw hd∧(∀aF,Sub ro aF→Knows aF Z→jM aF (.slice ca cs.length cc) (.slice ha hw.length hc) cs hw hd)∧Y=Z):=by
 obtain⟨hc,hh,dC⟩:=id hR
 obtain⟨eL,AH,AG,eF,rfl,Dt,yQ,yP⟩:=hc
 obtain⟨dS,vk,vi,dB,rfl,xw,q8,q7⟩:=hh
 have hlen:=hS.len
 have hnh:=hT.nh
 have DG:=hT.nc
 refine bC au [] [] bu<|zD 2<|jn fun b1=>jn fun b2=>zD 2<|Ff [1,1] [] (fun(zz:Value×Cells×Value×Cells)=>[(1,zP b1),(2,zP b2)]) (fun(zz:Value×Cells×Value×Cells)=>[.b b1 (.cells ⟨[zz.1,zz.2.2.1]⟩ 33 (0,0)),.l zz.2.1,.l zz.2.2.2,.b b2 (.cells ⟨[zS,zS]⟩ 33 (0,0))]) (fun(zz:Value×Cells×Value×Cells)=>ax zz.1 2 130 pG cs zz.2.1∧ax zz.2.2.1 4 133 mP hv zz.2.2.2) ?_ (fun K1 bG=>?_)
 ·
  rintro⟨vC,LC,vH,LH⟩ hJ rest
  dsimp only at hJ
  refine zD 6<|py<|eO [1,1,0,1,0,0] [] (fun(zz:Nat×Value×Cells×(List bp)×Cells)=>[(1,zP b1),(2,zP b2),(3,zI (zz.1:Int))]) (fun(zz:Nat×Value×Cells×(List bp)×Cells)=>[.b b1 (.cells ⟨[vC,zz.2.1]⟩ 33 (0,0)),.l zz.2.2.1,.l zz.2.2.2.2,.l LC,.b b2 (.cells ⟨[zS,zS]⟩ 33 (0,0))]) (fun(zz:Nat×Value×Cells×(List bp)×Cells)=>(zz.1≤zz.2.2.2.1.length∧zz.2.2.2.1.length=hv.length∧zz.2.2.2.1.drop zz.1=hv.drop zz.1)∧ax zz.2.1 4 133 mP zz.2.2.2.1 zz.2.2.1∧(∀aF,Sub ro aF→Knows aF zz.2.2.2.2→dg (rV aF) zz.2.2.2.1 hd)∧dg de zz.2.2.2.1 hd) (fun(zz:Nat×Value×Cells×(List bp)×Cells)=>hv.length-zz.1) (⟨0,vH,LH,hv,[]⟩) ⟨⟨by omega,rfl,rfl⟩,hJ.2,fun _ hs _=>(hR.up hs).2.2,hS⟩ [1,3,0,2,4] ?_
  rintro⟨k,vH,LH,hw,Z⟩ hI K2 mg rest
  dsimp only at hI
  refine jd 6 [0]<|Fe hI.2.1<|zD 2<|zJ 18 ((k:Int) <(hw.length:Int)) (fun h1=>?_) fun h1=>?_
  ·
   refine jd 11 [0,0] ?_
   obtain⟨x27,I2⟩:=zG hw k
   refine jxo 4 hI.2.1 I2 fun b27 aS3=>zD 1<|px 3 [1] LH (fun s _ hZ=>cD hI.2.1 aS3 hZ I2)<|aD 9 (fun rZ r8 qL=>?_)
   obtain⟨y27,ate,aQD⟩:=hR.2.2.get (ahU hI.1.2.2 I2)
   have aY3:=(hT.A3 _ _ ate).2.2.1.1
   refine jc (vs:=[x27.eC]) [] (aet aQD.2.2.2 (by omega)) ?_
   rintro v30 L30 ⟨_,Cw,rfl⟩
   refine ba qL [1,2,3,4,5] ?_
   obtain⟨x31,alU⟩:=zG hw k
   refine jxo 4 hI.2.1 alU fun gx aS1=>zD 1<|aD 12 (fun sN sU ri=>?_)
   obtain⟨va4,vc4,he4⟩:=Cw.form
   subst he4
   refine RL 2 3 [(.slice va4 (y27.eC).length vc4)] (⟨x31.word,x31.cls,x31.oK,(.slice va4 (y27.eC).length vc4)⟩:bp) hI.2.1 aS1 alU rfl rfl (Nat.le_of_ble_eq_true rfl) fun L5 ho6=>iB ri []<|zD 3<|ja ((k:Int)+1) (by omega)<|zD 2<|Km mg (⟨k+1,vH,L5,(hw.set k (⟨x31.word,x31.cls,x31.oK,(.slice va4 (y27.eC).length vc4)⟩:bp)),L30++Z⟩) ⟨⟨by rw[List.length_set];omega,by rw[List.length_set];exact hI.1.2.1,aap hI.1.2.2⟩,ho6,(Q9 hI.2.2.1 hI.2.2.2 I2 alU ate Cw).1,(Q9 hI.2.2.1 hI.2.2.2 I2 alU ate Cw).2⟩ (by omega) [[2],[0],[1,3],[4],[5]] (Sub.refl _)
  refine jd 5 [0] ?_
  obtain⟨So,Sk,QB⟩:=hJ.1.form
  subst QB
  obtain⟨va8,vc8,he8⟩:=hI.2.1.form
  subst he8
  refine jd 3 [4]<|aH q0 (.agg ⟨[(.slice So (cs).length Sk),(.slice va8 (hw).length vc8)]⟩) [4] [1,2,3] (LH++(Z++LC)) (Sub.refl _) ⟨_,_,rfl,rfl,hw,_,_,_,_,_,rfl,hI.2.2.2,fun aF hs hk=>⟨hJ.1.lR hk.right.right,hI.2.1.lR hk.left,hI.2.2.1 aF hs hk.right.left⟩,rfl⟩
 refine jd 5 [1,1]<|lJ [0,4] ⟨fun z5 t6 QG=>?_,fun z8 t9 wJ=>?_,trivial⟩
 ·
  refine jn fun b4=>ba QG [1,2]<|lJ [3,4] ⟨fun z11 t12 M5=>?_,fun z14 t15 QI=>?_,trivial⟩
  ·
   refine jE (sz:=2) (ps:=[]) (qs:=cs) (enc:=pG) (w:= .slice eL cs.length eF) [0] [] [] (bw (b:=b4) (T:=130)) (fun s he _=>⟨eL,AH,AG,eF,rfl,yQ,fun i p hp=>(yP i p hp).ext he⟩) (fun p _=>ai rfl) (by simp<;>omega) (fun v7 L7 iU=>?_)
   rw[List.nil_append] at iU
   obtain⟨So,Sk,QB⟩:=iU.form
   subst QB
   refine iB M5 [[2]]<|zD 1<|aD 4 fun anR aok CM=>jn fun b8=>ba CM [1,2,3]<|aD 7 fun ax3 ay9 agx=>jE (sz:=4) (ps:=[]) (qs:=hv) (enc:=mP) (w:= .slice dS hv.length dB) [0] [] [] (bw (b:=b8) (T:=133)) (fun s he _=>⟨dS,vk,vi,dB,rfl,q8,fun i p hp=>(q7 i p hp).ext he⟩) (nq dC) (by simp only[List.length_nil,Nat.zero_add];omega) (fun v11 L11 qI=>?_)
   rw[List.nil_append] at qI
   obtain⟨abR,abJ,afX⟩:=qI.form
   subst afX
   refine iB agx []<|aD 9 fun ax2 ay8 agw=>jd 1 [3]<|cw agw<|zD 1<|aD 11 fun ax1 ay7 Hj=>jd 1 [3]<|cw Hj<|zD 1<|bF bG ⟨(.slice So (cs).length Sk),L7,(.slice abR (hv).length abJ),L11⟩ ⟨iU,qI⟩ Nat.zero_lt_one [3,1,0,2] (Sub.refl _)
  refine jn fun b8=>ba QI [1,2,3]<|aD 3 fun ax0 ay6 aad=>jE (sz:=2) (ps:=[]) (qs:=cs) (enc:=pG) (w:= .slice eL cs.length eF) [1] [] [] (bw (b:=b4) (T:=130)) (fun s he _=>⟨eL,AH,AG,eF,rfl,yQ,fun i p hp=>(yP i p hp).ext he⟩) (fun p _=>ai rfl) (by simp<;>omega) (fun v7 L7 iU=>?_)
  rw[List.nil_append] at iU
  obtain⟨So,Sk,QB⟩:=iU.form
  subst QB
  refine iB aad [[3]]<|zD 1<|aD 7 fun axZ ay5 agv=>jE (sz:=4) (ps:=[]) (qs:=hv) (enc:=mP) (w:= .slice dS hv.length dB) [1] [] [] (bw (b:=b8) (T:=133)) (fun s he _=>⟨dS,vk,vi,dB,rfl,q8,fun i p hp=>(q7 i p hp).ext he⟩) (nq dC) (by simp only[List.length_nil,Nat.zero_add];omega) (fun v11 L11 qI=>?_)
  rw[List.nil_append] at qI
  obtain⟨abR,abJ,afX⟩:=qI.form
  subst afX
  refine iB agv []<|aD 9 fun axY ay4 M4=>jd 1 [3]<|cw M4<|zD 1<|aD 11 fun aWx aXe avA=>jd 1 [3]<|cw avA<|zD 1<|bF bG ⟨(.slice So (cs).length Sk),L7,(.slice abR (hv).length abJ),L11⟩ ⟨iU,qI⟩ Nat.zero_lt_one [3,1,0,2] (Sub.refl _)
 refine jn fun b8=>ba wJ [1,2]<|aD 0 fun axX ay3 UA=>jn fun b4=>ba UA [1,2,3]<|aD 3 fun anQ aoj EI=>jE (sz:=2) (ps:=[]) (qs:=cs) (enc:=pG) (w:= .slice eL cs.length eF) [0] [] [] (bw (b:=b4) (T:=130)) (fun s he _=>⟨eL,AH,AG,eF,rfl,yQ,fun i p hp=>(yP i p hp).ext he⟩) (fun p _=>ai rfl) (by simp<;>omega) (fun v7 L7 iU=>?_)
 rw[List.nil_append] at iU
 obtain⟨So,Sk,QB⟩:=iU.form
 subst QB
 refine iB EI [[3]]<|zD 1<|aD 7 fun Vx VN M3=>jE (sz:=4) (ps:=[]) (qs:=hv) (enc:=mP) (w:= .slice dS hv.length dB) [1] [] [] (bw (b:=b8) (T:=133)) (fun s he _=>⟨dS,vk,vi,dB,rfl,q8,fun i p hp=>(q7 i p hp).ext he⟩) (nq dC) (by simp only[List.length_nil,Nat.zero_add];omega) (fun v11 L11 qI=>?_)
 rw[List.nil_append] at qI
 obtain⟨abR,abJ,afX⟩:=qI.form
 subst afX
 refine iB M3 []<|aD 9 fun Vw VM Hi=>jd 1 [3]<|cw Hi<|zD 1<|aD 11 fun Oi OG CL=>jd 1 [3]<|cw CL<|zD 1<|bF bG ⟨(.slice So (cs).length Sk),L7,(.slice abR (hv).length abJ),L11⟩ ⟨iU,qI⟩ Nat.zero_lt_one [3,1,0,2] (Sub.refl _)
structure cU where
 a:Int
 b:Int
 c:Int
 d:Int
 e:Int
 f:Int
abbrev ny(x:cU):List Value:=[zI x.a,zI x.b,zI x.c,zI x.d,zI x.e,zI x.f]
def rn(K:aP)(l:List Value):Prop:=∃v0 v1 v3 v4 v5 v6 v7 vb fa fc,l=[v0,v1,.slice fa 0 fc,v3,v4,v5,v6,v7,zI K.gone,zI K.new,zI K.af,vb]∧∀v∈[v0,v1,v3,v4,v5,v6,v7,vb],single v=true
theorem rn.all(h:rn K l):∀v∈l,single v=true:=by
 obtain⟨v0,v1,v3,v4,v5,v6,v7,vb,fa,fc,rfl,h⟩:=h
 simp only[List.mem_cons,List.not_mem_nil,or_false] at h ⊢
 rintro v (rfl|rfl|rfl|rfl|rfl|rfl|rfl|rfl|rfl|rfl|rfl|rfl)<;>first|rfl|exact h _ (by simp)
theorem fE{v:Value}{T:TypeId}{enc:α→List Value}{ps:List α}{L:Cells}(h:ax v sz T enc ps L):single v=true:=by
 obtain⟨a,c,rfl⟩:=h.form;rfl
theorem kK{v:Value}{enc:α→List Value}{ps:List α}{ro:Nat→Option Obj}(h:bE ro v sz enc ps):single v=true:=by
 obtain⟨a,b,o,c,rfl,_⟩:=h;rfl
theorem Ay{a b c d e f g h:Value}(h1:single a=true)(h2:single b=true)(h3:single c=true)(h4:single d=true)(h5:single e=true)(h6:single f=true)(h7:single g=true)(h8:single h=true):∀v∈[a,b,c,d,e,f,g,h],single v=true:=by
 simp only[List.mem_cons,List.not_mem_nil,or_false]
 rintro v (rfl|rfl|rfl|rfl|rfl|rfl|rfl|rfl)<;>assumption
theorem gF.L{ro:Nat→Option Obj}(h:gF ro l K):rn K l:=by
 obtain⟨v0,v1,v3,v4,v5,v6,v7,vb,fa,fc,hv,rfl,⟨_,h0,_⟩,⟨_,h1,_⟩,⟨h3,h4,_⟩,_,h5,h6,h7,hb⟩:=h
 exact⟨_,_,_,_,_,_,_,_,_,_,rfl,Ay (kK h0) (kK h1) (kK h3) (kK h4) (kK h5) (kK h6) (kK h7) (kK hb)⟩
theorem oP{P:Prop}{p:α}(h:([]:List α)[i]?=some p):P:=by simp at h
theorem fL{l:List α}{a:α}(h:l[i]?=some a):l.take (i+1)=l.take i++[a]:=by
 rw[List.take_succ,h];rfl
theorem ql{R:α→β→Prop}{ws:List α}{ls:List β}{w:α}{l:β}(h:dg R ws (ls.take i))(hl:ls[i]?=some l) (hr:R w l):dg R (ws++[w]) (ls.take (i+1)):=by
 rw[fL hl];exact h.snoc hr
def hqw:ByteArray:=bs [72,81,87]
def kindOf(r:Int):Int:=if 97≤r∧r≤122 then 1 else if (65≤r∧r≤90)∧P6 hqw (UInt8.ofNat (IntKind.u8.wrap r).toNat) <0 then 2 else 0
theorem aGR:EF zT 291 Extern.BytealgIndexByte.indexByte:=⟨Tryz.f291,Tryz.func291,by kernel_rfl,by kernel_rfl,by kernel_rfl,by kernel_rfl⟩
theorem ZF{a:ByteArray}{b:Int}{ro:Nat→Option Obj}:dO zT 283 [.string a,.int .u8 b] ro (zI (P6 a (b).toNat.toUInt8)):=by
 refine bC au [] [] bu<|zD 8<|jib (a:=a) (b:=b) aGR<|zD 3<|aH q0 (zI (P6 a (b).toNat.toUInt8)) [] [] [] (Sub.refl _) ⟨_,_,rfl,rfl,rfl,rfl⟩
theorem ZG{a:ByteArray}{b:Int}{ro:Nat→Option Obj}:dO zT 266 [.string a,.int .u8 b] ro (zI (P6 a (b).toNat.toUInt8)):=by
 refine bC au [] [] bu<|zD 8<|jp (vs:=[.string a,.int .u8 b]) [] [] (fun aB hs hZ=>ZF)<|zD 3<|aH q0 (zI (P6 a (b).toNat.toUInt8)) [] [] [] (Sub.refl _) ⟨_,_,rfl,rfl,rfl,rfl⟩
theorem as8{a:ByteArray}{ro:Nat→Option Obj}(hr:0≤r∧r <128):dO zT 242 [.string a,.int .i32 r] ro (zI (P6 a (IntKind.u8.wrap r).toNat.toUInt8)):=by
 refine bC au [] [] bu<|zD 10<|jj 3 [(0,.string a),(1,.int .i32 r),(4,zI 0),(166,.bool ((decide (0≤r))&&(decide (r <128))))] (fun gQ=>?_) (fun hj=>?_)
 rotate_left
 refine js 163 (decide (0≤r)) (fun h1=>?_) (fun h1=>?_)
 ·
  have gN:=h1
  replace gN:=of_decide_eq_true gN
  refine zD 3<|jw 166 (.bool ((decide (0≤r))&&(decide (r <128)))) (w:= .bool (decide (r <128))) (by rw[h1]<;>rfl) ?_
  exact hj _ (by kernel_rfl) (by kernel_rfl)
 ·
  have gN:=h1
  replace gN:=of_decide_eq_false gN
  refine zD 3<|jw 166 (.bool ((decide (0≤r))&&(decide (r <128)))) (w:= .bool false) (by rw[h1]<;>rfl) ?_
  exact hj _ (by kernel_rfl) (by kernel_rfl)
 refine zD 2<|js 160 ((decide (0≤r))&&(decide (r <128))) (fun h2=>?_) (fun h2=>?_)
 ·
  try simp only[zB] at h2
  refine zD 6<|jp (vs:=[.string a,.int .u8 (IntKind.u8.wrap r)]) [] [] (fun aB hs hZ=>ZG)<|zD 3<|aH q0 (zI (P6 a ((IntKind.u8.wrap r)).toNat.toUInt8)) [] [] [] (Sub.refl _) ⟨_,_,rfl,rfl,rfl,rfl⟩
 try simp only[zB] at h2
 exfalso;omega
theorem amr{a:ByteArray}{ro:Nat→Option Obj}(hr:0≤r∧r <128):dO zT 221 [.string a,.int .i32 r] ro (.bool (decide (P6 a (IntKind.u8.wrap r).toNat.toUInt8≥0))):=by
 refine bC au [] [] bu<|zD 8<|jp (vs:=[.string a,.int .i32 r]) [] [] (fun aB hs hZ=>as8 (by omega))<|zD 4<|aH q0 (.bool (decide ((P6 a (IntKind.u8.wrap r).toNat.toUInt8)≥0))) [] [] [] (Sub.refl _) ⟨_,_,rfl,rfl,rfl,rfl⟩
theorem aoI{ro:Nat→Option Obj}:dO zT 199 [.int .i32 r] ro (zI (kindOf r)):=by
 refine bC au [] [] bu<|zD 11<|jj 3 [(0,.int .i32 r),(2,zI 0),(9,.bool ((decide (r≥97))&&(decide (r≤122))))] (fun gQ=>?_) (fun hj=>?_)
 rotate_left
 refine js 6 (decide (r≥97)) (fun h1=>?_) (fun h1=>?_)
 ·
  have gN:=h1
  replace gN:=of_decide_eq_true gN
  refine zD 3<|jw 9 (.bool ((decide (r≥97))&&(decide (r≤122)))) (w:= .bool (decide (r≤122))) (by rw[h1]<;>rfl) ?_
  exact hj _ (by kernel_rfl) (by kernel_rfl)
 ·
  have gN:=h1
  replace gN:=of_decide_eq_false gN
  refine zD 3<|jw 9 (.bool ((decide (r≥97))&&(decide (r≤122)))) (w:= .bool false) (by rw[h1]<;>rfl) ?_
  exact hj _ (by kernel_rfl) (by kernel_rfl)
 refine zD 2<|js 3 ((decide (r≥97))&&(decide (r≤122))) (fun h2=>?_) (fun h2=>?_)
 ·
  try simp only[zB] at h2
  refine zD 6<|aH q0 (zI 1) [] [] [] (Sub.refl _) ⟨_,_,rfl,rfl,by simp only[kindOf,hqw];congr 1;(try simp at*);(repeat' split)<;>omega,rfl⟩
 try simp only[zB] at h2
 refine zD 6<|jj 3 [(0,.int .i32 r),(2,zI 0),(16,.bool ((decide (r≥65))&&(decide (r≤90))))] (fun gQ=>?_) (fun hj=>?_)
 rotate_left
 refine js 13 (decide (r≥65)) (fun h3=>?_) (fun h3=>?_)
 ·
  have wK:=h3
  replace wK:=of_decide_eq_true wK
  refine zD 3<|jw 16 (.bool ((decide (r≥65))&&(decide (r≤90)))) (w:= .bool (decide (r≤90))) (by rw[h3]<;>rfl) ?_
  exact hj _ (by kernel_rfl) (by kernel_rfl)
 ·
  have wK:=h3
  replace wK:=of_decide_eq_false wK
  refine zD 3<|jw 16 (.bool ((decide (r≥65))&&(decide (r≤90)))) (w:= .bool false) (by rw[h3]<;>rfl) ?_
  exact hj _ (by kernel_rfl) (by kernel_rfl)
 refine zD 1<|jj 4 [(2,zI 0),(21,.bool (((decide (r≥65))&&(decide (r≤90)))&&(!(decide (P6 (bs [72,81,87]) (IntKind.u8.wrap r).toNat.toUInt8≥0)))))] (fun gQ=>?_) (fun hj=>?_)
 rotate_left
 refine js 17 ((decide (r≥65))&&(decide (r≤90))) (fun h4=>?_) (fun h4=>?_)
 ·
  have yq:=h4
  try simp only[zB] at yq
  refine zD 1<|jp (vs:=[.string (bs [72,81,87]),.int .i32 r]) [] [] (fun aB hs hZ=>amr (by omega))<|zD 2<|jw 21 (.bool (((decide (r≥65))&&(decide (r≤90)))&&(!(decide (P6 (bs [72,81,87]) (IntKind.u8.wrap r).toNat.toUInt8≥0))))) (w:= .bool (!(decide (P6 (bs [72,81,87]) (IntKind.u8.wrap r).toNat.toUInt8≥0)))) (by rw[h4]<;>rfl) ?_
  exact hj _ (by kernel_rfl) (by kernel_rfl)
 ·
  have yq:=h4
  try simp only[zB] at yq
  refine zD 4<|jw 21 (.bool (((decide (r≥65))&&(decide (r≤90)))&&(!(decide (P6 (bs [72,81,87]) (IntKind.u8.wrap r).toNat.toUInt8≥0))))) (w:= .bool false) (by rw[h4]<;>rfl) ?_
  exact hj _ (by kernel_rfl) (by kernel_rfl)
 refine zD 2<|js 10 (((decide (r≥65))&&(decide (r≤90)))&&(!(decide (P6 (bs [72,81,87]) (IntKind.u8.wrap r).toNat.toUInt8≥0)))) (fun h5=>?_) (fun h5=>?_)
 ·
  try simp only[zB] at h5
  refine zD 6<|aH q0 (zI 2) [] [] [] (Sub.refl _) ⟨_,_,rfl,rfl,by simp only[kindOf,hqw];congr 1;(try simp at*);(repeat' split)<;>omega,rfl⟩
 try simp only[zB] at h5
 refine zD 7<|aH q0 (zI 0) [] [] [] (Sub.refl _) ⟨_,_,rfl,rfl,by simp only[kindOf,hqw];congr 1;(try simp at*);(repeat' split)<;>omega,rfl⟩
theorem ad9:((List.range 256).all fun n=> !GI (UInt8.ofNat n)||decide (kindOf (n:Int)=1))=true:=by kernel_rfl
theorem ad8:((List.range 256).all fun n=> !Gn (UInt8.ofNat n)||decide (kindOf (n:Int)=2))=true:=by kernel_rfl
def Yq(w:ByteArray)(k:Int):Prop:=∀b∈w.data.toList,b.toNat <128∧kindOf (b.toNat:Int)=k
theorem O3{w:ByteArray}(h:Script w):∃k:Int,(k=1∨k=2)∧Yq w k:=by
 have hb:∀b:UInt8,UInt8.ofNat b.toNat=b:=fun b=>by simp
 rcases h with h|h
 ·refine⟨1,.inl rfl,fun b mZ=>?_⟩
  have h1:=h b mZ
  have h2:=List.all_eq_true.1 ad9 b.toNat (List.mem_range.2 b.toNat_lt)
  rw[hb,h1] at h2
  simp only[GI,Bool.and_eq_true,Nat.ble_eq] at h1
  exact⟨by omega,by simpa using h2⟩
 refine⟨2,.inr rfl,fun b mZ=>?_⟩
 have h1:=h b mZ
 have h2:=List.all_eq_true.1 ad8 b.toNat (List.mem_range.2 b.toNat_lt)
 rw[hb,h1] at h2
 simp only[Gn,Bool.and_eq_true,Nat.ble_eq] at h1
 exact⟨by omega,by simpa using h2⟩
theorem ak4{w:ByteArray}{k:Int}{ro:Nat→Option Obj}(hs:1≤w.size∧w.size≤6)(hk:k=1∨k=2)(hK:Yq w k):dO zT 158 [.string w] ro (zI 0):=by
 refine bC au [] [] bu<|zD 11<|zJ 9 ((w.size:Int)=0) (fun h1=>?_) fun h1=>?_
 ·
  exfalso;omega
 refine zD 9<|zJ 12 ((w.size:Int)>6) (fun h2=>?_) fun h2=>?_
 ·
  exfalso;omega
 refine zD 10<|jn fun r14=>zD 2<|eO [1,1,1,1,0,1,0,0] [] (fun(zz:Nat×Int)=>[(3,zI zz.2),(14,zP r14)]) (fun(zz:Nat×Int)=>[.b r14 (.stringIter w zz.1)]) (fun(zz:Nat×Int)=>zz.1≤w.data.toList.length∧(zz.2=0∨zz.2=k)) (fun(zz:Nat×Int)=>w.data.toList.length-zz.1) (⟨0,0⟩) ⟨by omega,.inl rfl⟩ [0] ?_
 rintro⟨p,sc⟩ hI K1 bG rest
 dsimp only at hI
 refine zD 2 ?_
 cases Qn:w.data.toList[p]? with
 |some Am=>
  refine jnA r14 0 Qn (hK _ (List.mem_of_getElem? Qn)).1<|zD 7 ?_
  have Xp:=(hK _ (List.mem_of_getElem? Qn)).2
  refine zD 7<|jp (vs:=[.int .i32 (Am.toNat:Int)]) [] [] (fun aB hs hZ=>aoI)<|zD 8<|zJ 21 (sc=0) (fun h3=>?_) fun h3=>?_
  ·
   refine zD 10<|jj 4 [(3,zI (kindOf (Am.toNat:Int))),(14,zP r14),(29,.bool ((decide ((kindOf (Am.toNat:Int))=0))||(!decide ((kindOf (Am.toNat:Int))=(kindOf (Am.toNat:Int))))))] (fun gQ=>?_) (fun hj=>?_)
   rotate_left
   refine js 25 (decide ((kindOf (Am.toNat:Int))=0)) (fun h4=>?_) (fun h4=>?_)
   ·
    have yq:=h4
    replace yq:=of_decide_eq_true yq
    refine zD 4<|jw 29 (.bool ((decide ((kindOf (Am.toNat:Int))=0))||(!decide ((kindOf (Am.toNat:Int))=(kindOf (Am.toNat:Int)))))) (w:= .bool true) (by rw[h4]<;>rfl) ?_
    exact hj _ (by kernel_rfl) (by kernel_rfl)
   ·
    have yq:=h4
    replace yq:=of_decide_eq_false yq
    refine zD 4<|jw 29 (.bool ((decide ((kindOf (Am.toNat:Int))=0))||(!decide ((kindOf (Am.toNat:Int))=(kindOf (Am.toNat:Int)))))) (w:= .bool (!decide ((kindOf (Am.toNat:Int))=(kindOf (Am.toNat:Int))))) (by rw[h4]<;>rfl) ?_
    exact hj _ (by kernel_rfl) (by kernel_rfl)
   refine zD 1<|js 29 ((decide ((kindOf (Am.toNat:Int))=0))||(!decide ((kindOf (Am.toNat:Int))=(kindOf (Am.toNat:Int))))) (fun h5=>?_) (fun h5=>?_)
   ·
    try simp only[zB] at h5
    exfalso;omega
   try simp only[zB] at h5
   refine zD 2<|bF bG (⟨p+1,(kindOf (Am.toNat:Int))⟩) ⟨by have:=(List.getElem?_eq_some_iff.1 Qn).1;dsimp only;omega,by dsimp only;omega⟩ (by have:=(List.getElem?_eq_some_iff.1 Qn).1;dsimp only;omega) [0] (Sub.refl _)
  refine zD 7<|jj 4 [(3,zI sc),(14,zP r14),(29,.bool ((decide ((kindOf (Am.toNat:Int))=0))||(!decide ((kindOf (Am.toNat:Int))=sc))))] (fun gQ=>?_) (fun hj=>?_)
  rotate_left
  refine js 25 (decide ((kindOf (Am.toNat:Int))=0)) (fun h6=>?_) (fun h6=>?_)
  ·
   have h6g:=h6
   replace h6g:=of_decide_eq_true h6g
   refine zD 4<|jw 29 (.bool ((decide ((kindOf (Am.toNat:Int))=0))||(!decide ((kindOf (Am.toNat:Int))=sc)))) (w:= .bool true) (by rw[h6]<;>rfl) ?_
   exact hj _ (by kernel_rfl) (by kernel_rfl)
  ·
   have h6g:=h6
   replace h6g:=of_decide_eq_false h6g
   refine zD 4<|jw 29 (.bool ((decide ((kindOf (Am.toNat:Int))=0))||(!decide ((kindOf (Am.toNat:Int))=sc)))) (w:= .bool (!decide ((kindOf (Am.toNat:Int))=sc))) (by rw[h6]<;>rfl) ?_
   exact hj _ (by kernel_rfl) (by kernel_rfl)
  refine zD 1<|js 29 ((decide ((kindOf (Am.toNat:Int))=0))||(!decide ((kindOf (Am.toNat:Int))=sc))) (fun h7=>?_) (fun h7=>?_)
  ·
   try simp only[zB] at h7
   exfalso;omega
  try simp only[zB] at h7
  refine zD 2<|bF bG (⟨p+1,sc⟩) ⟨by have:=(List.getElem?_eq_some_iff.1 Qn).1;dsimp only;omega,by dsimp only;omega⟩ (by have:=(List.getElem?_eq_some_iff.1 Qn).1;dsimp only;omega) [0] (Sub.refl _)
 |none=>
  refine jnZ r14 0 Qn<|zD 10<|aH q0 (zI 0) [] [] [] (Sub.refl _) ⟨_,_,rfl,rfl,rfl,rfl⟩
def ng:=(nJ Tryz.typeInfo3 Tryz.underlying3 rfl rfl rfl rfl rfl rfl:TF zT 3 _ 1 8 _ false)
theorem ahI(a b c d:Int)(dep:Nat):EqD zT (dep+2) 70 (.agg ⟨[zI a,zI b]⟩) (.agg ⟨[zI c,zI d]⟩) (a==c&&(b==d&&true)):=
 uF (nJ Tryz.typeInfo70 Tryz.underlying70 rfl rfl rfl rfl rfl rfl) Tryz.stoodInHeld70 (.cons (by decide) (kN ng rfl) (kN ng rfl) (oD ng _ _) (.cons (by decide) (kN ng rfl) (kN ng rfl) (oD ng _ _) .nil))
theorem wU(a b c d:Int):EqV zT 70 (.agg ⟨[zI a,zI b]⟩) (.agg ⟨[zI c,zI d]⟩) (a==c&&(b==d&&true)):=No (ahI a b c d _)
theorem av3(a b c d e f:Int):EqV zT 144 (.agg ⟨[zI a,zI b,zI c]⟩) (.agg ⟨[zI d,zI e,zI f]⟩) (a==d&&(b==e&&(c==f&&true)&&true)):=
 No (uF (nJ Tryz.typeInfo144 Tryz.underlying144 rfl rfl rfl rfl rfl rfl) Tryz.stoodInHeld144 (.cons (by decide) (kN ng rfl) (kN ng rfl) (oD ng _ _) (.cons (by decide) (Gk (nJ Tryz.typeInfo70 Tryz.underlying70 rfl rfl rfl rfl rfl rfl) rfl) (Gk (nJ Tryz.typeInfo70 Tryz.underlying70 rfl rfl rfl rfl rfl rfl) rfl) (ahI _ _ _ _ _) .nil)))
theorem Gt:oF zT 70:=Tryz.eqGuardType70
theorem aAU:oF zT 144:=Tryz.eqGuardType144
def B7(n l:Int)(y:ah):Bool:=n==y.n&&(l==y.l&&true)
theorem Tl{w:ByteArray}{ro:Nat→Option Obj}(hs:1≤w.size∧w.size≤6)(h:Script w):dO zT 158 [.string w] ro (zI 0):=by
 obtain⟨k,h1,h2⟩:=O3 h
 exact ak4 hs h1 h2
theorem AW{ro:Nat→Option Obj}:dO zT 66 [zI 0] ro (.tuple ⟨[]⟩):=by
 refine bC au [] [] bu<|zD 7<|aH q0 (.tuple ⟨[]⟩) [] [] [] (Sub.refl _) ⟨_,_,rfl,rfl,rfl,rfl⟩
theorem W0{x:aI}{ro:Nat→Option Obj}:dO zT 65 [.agg ⟨[.string x.name,zI x.st,zI x.no,zI x.head,.bool x.bold]⟩] ro (.agg ⟨[zI x.st,zI x.no,zI 0]⟩):=by
 refine bC au [] [] bu<|zD 2<|jn fun b1=>jn fun b2=>jd 12 [1,1,0]<|aH q0 (.agg ⟨[zI x.st,zI x.no,zI 0]⟩) [0] [] [] (Sub.refl _) ⟨_,_,rfl,rfl,rfl,rfl⟩
theorem aeq{v:Value}{ps:List ah}{l:Int}{ro:Nat→Option Obj}(hp:bE ro v 2 cE ps)(hn:ps.length≤1000):dO zT 200 [v,.agg ⟨[zI n,zI l]⟩] ro (zI (cX (B7 n l) ps 0)):=by
 obtain⟨RJ,qpb,qpo,JQ,rfl,qpk,Zh,Zg⟩:=hp
 refine bC au [] [] bu<|zD 2<|jn fun b3=>zD 10<|eO [1,0,1,0,0] [] (fun(zz:Nat)=>[(0,.slice RJ ps.length JQ),(3,zP b3),(7,zI (ps.length:Int)),(8,zI (zz:Int))]) (fun(zz:Nat)=>[.b b3 (.cells ⟨[zI n,zI l]⟩ 70 (0,0))]) (fun(zz:Nat)=>zz≤ps.length∧cX (B7 n l) ps 0=cX (B7 n l) (ps.drop zz) zz) (fun(zz:Nat)=>ps.length-zz) 0 ⟨by omega,rfl⟩ [0] ?_
 rintro k hI K1 bG rest
 refine zD 5<|zJ 9 ((k:Int) <(ps.length:Int)) (fun h1=>?_) fun h1=>?_
 ·
  refine jd 14 [0] ?_
  obtain⟨gi,eW⟩:=zG ps k
  refine jb JQ 2 Zh eW<|jl 0 (Zg _ _ eW)<|jeq Gt (wU n l gi.n gi.l)<|zD 1<|js 16 (n==gi.n&&(l==gi.l&&true)) (fun h2=>?_) (fun h2=>?_)
  ·
   refine zD 7<|aH q0 (zI (k:Int)) [] [] [] (Sub.refl _) ⟨_,_,rfl,rfl,by rw[hI.2,j9 eW,show B7 n l gi=true from (by assumption)];rfl,rfl⟩
  refine zD 3<|ja ((k:Int)+1) (by omega)<|zD 2<|bF bG (k+1) ⟨by omega,by rw[hI.2,j9 eW,show B7 n l gi=false from (by assumption)];rfl⟩ (by omega) [0] (Sub.refl _)
 refine zD 7<|aH q0 (zI (-1)) [] [] [] (Sub.refl _) ⟨_,_,rfl,rfl,by rw[hI.2,qP (by omega)],rfl⟩
theorem Kj{v:Value}{ps:List ah}{l:Int}{ro:Nat→Option Obj}(hp:bE ro v 2 cE ps)(hn:ps.length≤1000):dO zT 159 [v,.agg ⟨[zI n,zI l]⟩] ro (.bool (decide (cX (B7 n l) ps 0≥0))):=by
 obtain⟨RJ,qpb,qpo,JQ,rfl,qpk,Zh,Zg⟩:=hp
 refine bC au [] [] bu<|zD 2<|jn fun b3=>jd 6 [0]<|jp (vs:=[.slice RJ ps.length JQ,.agg ⟨[zI n,zI l]⟩]) [] [] (fun aB hs hZ=>aeq ((show bE _ _ _ _ _ from ⟨RJ,qpb,qpo,JQ,rfl,qpk,Zh,Zg⟩).up hs) (by first|omega| (simp only[List.length_set,List.length_append,List.length_cons,List.length_nil];omega))) ?_
 refine zD 4<|aH q0 (.bool (decide ((cX (B7 n l) ps 0)≥0))) [] [] [] (Sub.refl _) ⟨_,_,rfl,rfl,rfl,rfl⟩
theorem Xu{i:Int}(h:ox hd i): -1≤i∧i <hd.length:=by
 rcases h with h| ⟨h0,x,h1,_⟩
 ·omega
 have:=(List.getElem?_eq_some_iff.1 h1).1
 omega
theorem QA{hv:List bp}{i:Int}{x:bp}(h:dg de hv hd)(hi:ox hd i)(h0:i≥0)(hx:hv[i.toNat]?=some x):0≤x.cls:=by
 rcases hi with hi| ⟨_,y,h1,h2⟩
 ·omega
 obtain⟨z,h3,h4⟩:=h.get hx
 rw[h1] at h3;cases h3
 rw[h4.2.1];exact h2
theorem JX{S:List (List ah)}{x:aI}{l:List ah}(h:anu S hd x)(hl:S[x.st.toNat]?=some l):cX (B7 x.no 0) l 0≥0:=by
 obtain⟨l',h1,h2⟩:=h.2
 rw[h1] at hl;cases hl
 have key:∀(l:List ah) (k:Nat),(⟨x.no,0⟩:ah)∈l→cX (B7 x.no 0) l k≥0:=by
  intro l
  induction l with
  |nil=>intro k h;cases h
  |cons y l ih=>
   intro k h
   simp only[cX]
   cases hx:B7 x.no 0 y with
   |true=>simp
   |false=>
    simp only[cond_false]
    rcases List.mem_cons.1 h with rfl|h
    ·simp[B7] at hx
    exact ih _ h
 exact key _ 0 h2
theorem aek{x:aI}{ro:Nat→Option Obj}(hK:gF ro l K)(hO:mH K)(hx:anu K.str K.hd x):dO zT 114 [.agg ⟨l⟩,.agg ⟨[.string x.name,zI x.st,zI x.no,zI x.head,.bool x.bold]⟩,.bool true] ro (zI 0):=by
 obtain⟨vS,vT,vc,vh,vr,vb,va,vf,fa,fc,hv,rfl,hS,hT,qj,nN,hr,hb,ha,hf⟩:=hK
 obtain⟨iM,hs,fN⟩:=id hS
 obtain⟨jk,ht,fI⟩:=id hT
 obtain⟨hc,hh,DK⟩:=id qj
 obtain⟨mW,S5,S3,lV,rfl,S4,LX,LW⟩:=hs
 obtain⟨fD,AF,AD,eA,rfl,AE,sL,sJ⟩:=ht
 obtain⟨eL,AH,AG,eF,rfl,Dt,yQ,yP⟩:=hc
 obtain⟨dS,vk,vi,dB,rfl,xw,q8,q7⟩:=hh
 obtain⟨lG,Ic,Ib,lF,rfl,NZ,Gc,Gb⟩:=hr
 obtain⟨jV,Pd,Pb,jP,rfl,Pc,N1,N0⟩:=hb
 obtain⟨jC,Mc,Ma,jq,rfl,Mb,JU,JR⟩:=ha
 obtain⟨iA,B5,B4,gR,rfl,IM,xX,xW⟩:=hf
 have CE:=hO.rules
 have q5:=hO.before.1
 have Oa:=hO.after.1
 have N9:=hO.facts.1
 have N8:=hO.ways.1
 have Il:=fN.len
 have ED:=fI.len
 have Xo:=hO.qy.two
 have hl9:=hO.dP.nh
 have NY:∀(i:Nat) (p:cU),([]:List cU)[i]?=some p→cv ⟨ro,[]⟩ 0 (0+i*6) 6 (ny p):=fun _ _ h=>oP h
 have hNm:=hx.1.1
 have hNs:=hNm.1
 have hHd:=hx.1.2.1
 have hHl:=Xu hHd
 have hSt:=hx.1.2.2.1
 have hBd:=hx.1.2.2.2
 have hlen:=nN.len
 refine bC au [] [] bu<|zD 2<|jn fun b3=>jn fun b4=>jd 7 [0]<|jp (vs:=[.string x.name]) [] [] (fun aB hs hZ=>(Tl (by omega) hNm.2))<|jd 27 [1,0,1]<|ja ((hv.length:Int)-1) (by omega)<|jp (vs:=[zI x.head,zI (-1),zI ((hv.length:Int)-1)]) [] [] (fun aB hs hZ=>gL)<|zD 3<|js 19 (!(jK x.head (-1) ((hv.length:Int)-1))) (fun h1=>?_) (fun h1=>?_)
 ·
  try simp only[zB] at h1
  exfalso;simp only[jK,Bool.and_eq_false_iff,decide_eq_false_iff_not] at h1;omega
 try simp only[zB] at h1
 refine jd 7 [0]<|js 33 (decide (x.head≥0)) (fun h2=>?_) (fun h2=>?_)
 ·
  have lM:=h2
  replace lM:=of_decide_eq_true lM
  refine jd 5 [1,0] ?_
  obtain⟨E3,x3⟩:=zG hv (x.head.toNat)
  refine N3 x.head dB 4 q8 x3 (by omega)<|zD 1<|jl 1 (q7 _ _ x3)<|zD 4<|zJ 29 (E3.cls=(-1)) (fun h3=>?_) fun h3=>?_
  ·
   exfalso;have:=QA nN hHd (by omega) x3;omega
  refine jd 8 [0]<|ja ((iM.length:Int)-1) (by omega)<|jp (vs:=[zI x.st,zI 0,zI ((iM.length:Int)-1)]) [] [] (fun aB hs hZ=>gL)<|zD 3<|js 44 (!(jK x.st 0 ((iM.length:Int)-1))) (fun h4=>?_) (fun h4=>?_)
  ·
   try simp only[zB] at h4
   exfalso;simp only[jK,Bool.and_eq_false_iff,decide_eq_false_iff_not] at h4;omega
  try simp only[zB] at h4
  refine jd 7 [0] ?_
  obtain⟨x57,Eu⟩:=zG iM (x.st.toNat)
  refine N3 x.st lV 1 LX Eu (by omega) ?_
  obtain⟨l58,afA,h58⟩:=fN.get Eu
  obtain aRi:=hO.qy.len _ (List.mem_of_getElem? afA)
  obtain⟨acS,arM,arI,acR,rfl,arK,arL,arJ⟩:=h58
  refine jl 0 (LW _ _ Eu)<|jd 1 [0]<|jp (vs:=[.agg ⟨[.string x.name,zI x.st,zI x.no,zI x.head,.bool x.bold]⟩]) [] [] (fun aB hs hZ=>(W0 (x:=(⟨x.name,x.st,x.no,x.head,x.bold⟩:aI))))<|zD 1<|jp (vs:=[.slice acS l58.length acR,.agg ⟨[zI x.no,zI 0]⟩]) [] [] (fun aB hs hZ=>Kj ((show bE _ _ _ _ _ from ⟨acS,arM,arI,acR,rfl,arK,arL,arJ⟩).up hs) (by first|omega| (simp only[List.length_set,List.length_append,List.length_cons,List.length_nil];omega))) ?_
  refine zD 4<|js 44 (!(decide (cX (B7 x.no 0) l58 0≥0))) (fun h5=>?_) (fun h5=>?_)
  ·
   try simp only[zB] at h5
   exfalso;have:=JX hx afA;omega
  try simp only[zB] at h5
  refine jd 20 [0]<|js 74 x.bold (fun h6=>?_) (fun h6=>?_)
  ·
   exfalso;rw[hBd] at h6;cases h6
  refine zD 7<|aH q0 (zI 0) [] [] [] (Sub.refl _) ⟨_,_,rfl,rfl,rfl,rfl⟩
 have lM:=h2
 replace lM:=of_decide_eq_false lM
 refine jd 20 [0]<|ja ((iM.length:Int)-1) (by omega)<|jp (vs:=[zI x.st,zI 0,zI ((iM.length:Int)-1)]) [] [] (fun aB hs hZ=>gL)<|zD 3<|js 44 (!(jK x.st 0 ((iM.length:Int)-1))) (fun h7=>?_) (fun h7=>?_)
 ·
  try simp only[zB] at h7
  exfalso;simp only[jK,Bool.and_eq_false_iff,decide_eq_false_iff_not] at h7;omega
 try simp only[zB] at h7
 refine jd 7 [0] ?_
 obtain⟨x57,Eu⟩:=zG iM (x.st.toNat)
 refine N3 x.st lV 1 LX Eu (by omega) ?_
 obtain⟨l58,afA,h58⟩:=fN.get Eu
 obtain aRi:=hO.qy.len _ (List.mem_of_getElem? afA)
 obtain⟨acS,arM,arI,acR,rfl,arK,arL,arJ⟩:=h58
 refine jl 0 (LW _ _ Eu)<|jd 1 [0]<|jp (vs:=[.agg ⟨[.string x.name,zI x.st,zI x.no,zI x.head,.bool x.bold]⟩]) [] [] (fun aB hs hZ=>(W0 (x:=(⟨x.name,x.st,x.no,x.head,x.bold⟩:aI))))<|zD 1<|jp (vs:=[.slice acS l58.length acR,.agg ⟨[zI x.no,zI 0]⟩]) [] [] (fun aB hs hZ=>Kj ((show bE _ _ _ _ _ from ⟨acS,arM,arI,acR,rfl,arK,arL,arJ⟩).up hs) (by first|omega| (simp only[List.length_set,List.length_append,List.length_cons,List.length_nil];omega))) ?_
 refine zD 4<|js 44 (!(decide (cX (B7 x.no 0) l58 0≥0))) (fun h8=>?_) (fun h8=>?_)
 ·
  try simp only[zB] at h8
  exfalso;have:=JX hx afA;omega
 try simp only[zB] at h8
 refine jd 20 [0]<|js 74 x.bold (fun h9=>?_) (fun h9=>?_)
 ·
  exfalso;rw[hBd] at h9;cases h9
 refine zD 7<|aH q0 (zI 0) [] [] [] (Sub.refl _) ⟨_,_,rfl,rfl,rfl,rfl⟩
theorem ael{x:aI}{ro:Nat→Option Obj}(hK:gF ro l K)(hO:mH K)(hx:aHP K.hd x):dO zT 114 [.agg ⟨l⟩,.agg ⟨[.string x.name,zI x.st,zI x.no,zI x.head,.bool x.bold]⟩,.bool false] ro (zI 0):=by
 obtain⟨vS,vT,vc,vh,vr,vb,va,vf,fa,fc,hv,rfl,hS,hT,qj,nN,hr,hb,ha,hf⟩:=hK
 obtain⟨iM,hs,fN⟩:=id hS
 obtain⟨jk,ht,fI⟩:=id hT
 obtain⟨hc,hh,DK⟩:=id qj
 obtain⟨mW,S5,S3,lV,rfl,S4,LX,LW⟩:=hs
 obtain⟨fD,AF,AD,eA,rfl,AE,sL,sJ⟩:=ht
 obtain⟨eL,AH,AG,eF,rfl,Dt,yQ,yP⟩:=hc
 obtain⟨dS,vk,vi,dB,rfl,xw,q8,q7⟩:=hh
 obtain⟨lG,Ic,Ib,lF,rfl,NZ,Gc,Gb⟩:=hr
 obtain⟨jV,Pd,Pb,jP,rfl,Pc,N1,N0⟩:=hb
 obtain⟨jC,Mc,Ma,jq,rfl,Mb,JU,JR⟩:=ha
 obtain⟨iA,B5,B4,gR,rfl,IM,xX,xW⟩:=hf
 have CE:=hO.rules
 have q5:=hO.before.1
 have Oa:=hO.after.1
 have N9:=hO.facts.1
 have N8:=hO.ways.1
 have Il:=fN.len
 have ED:=fI.len
 have Xo:=hO.qy.two
 have hl9:=hO.dP.nh
 have NY:∀(i:Nat) (p:cU),([]:List cU)[i]?=some p→cv ⟨ro,[]⟩ 0 (0+i*6) 6 (ny p):=fun _ _ h=>oP h
 have hNm:=hx.1.1
 have hNs:=hNm.1
 have hHd:=hx.1.2.1
 have hHl:=Xu hHd
 have hSt:=hx.1.2.2.1
 have hBd:=hx.1.2.2.2
 have hlen:=nN.len
 have hNo:=hx.2
 refine bC au [] [] bu<|zD 2<|jn fun b3=>jn fun b4=>jd 7 [0]<|jp (vs:=[.string x.name]) [] [] (fun aB hs hZ=>(Tl (by omega) hNm.2))<|jd 27 [1,0,1]<|ja ((hv.length:Int)-1) (by omega)<|jp (vs:=[zI x.head,zI (-1),zI ((hv.length:Int)-1)]) [] [] (fun aB hs hZ=>gL)<|zD 3<|js 19 (!(jK x.head (-1) ((hv.length:Int)-1))) (fun h1=>?_) (fun h1=>?_)
 ·
  try simp only[zB] at h1
  exfalso;simp only[jK,Bool.and_eq_false_iff,decide_eq_false_iff_not] at h1;omega
 try simp only[zB] at h1
 refine jd 7 [0]<|js 33 (decide (x.head≥0)) (fun h2=>?_) (fun h2=>?_)
 ·
  have lM:=h2
  replace lM:=of_decide_eq_true lM
  refine jd 5 [1,0] ?_
  obtain⟨E3,x3⟩:=zG hv (x.head.toNat)
  refine N3 x.head dB 4 q8 x3 (by omega)<|zD 1<|jl 1 (q7 _ _ x3)<|zD 4<|zJ 29 (E3.cls=(-1)) (fun h3=>?_) fun h3=>?_
  ·
   exfalso;have:=QA nN hHd (by omega) x3;omega
  refine jd 8 [0]<|ja ((iM.length:Int)-1) (by omega)<|jp (vs:=[zI x.st,zI 0,zI ((iM.length:Int)-1)]) [] [] (fun aB hs hZ=>gL)<|zD 3<|js 44 (!(jK x.st 0 ((iM.length:Int)-1))) (fun h4=>?_) (fun h4=>?_)
  ·
   try simp only[zB] at h4
   exfalso;simp only[jK,Bool.and_eq_false_iff,decide_eq_false_iff_not] at h4;omega
  try simp only[zB] at h4
  refine jd 25 [0]<|jp (vs:=[zI x.no,zI 1,zI 40]) [] [] (fun aB hs hZ=>gL)<|zD 4<|js 65 (!(jK x.no 1 40)) (fun h5=>?_) (fun h5=>?_)
  ·
   try simp only[zB] at h5
   exfalso;simp only[jK,Bool.and_eq_false_iff,decide_eq_false_iff_not] at h5;omega
  try simp only[zB] at h5
  refine jd 7 [0]<|js 74 x.bold (fun h6=>?_) (fun h6=>?_)
  ·
   exfalso;rw[hBd] at h6;cases h6
  refine zD 7<|aH q0 (zI 0) [] [] [] (Sub.refl _) ⟨_,_,rfl,rfl,rfl,rfl⟩
 have lM:=h2
 replace lM:=of_decide_eq_false lM
 refine jd 20 [0]<|ja ((iM.length:Int)-1) (by omega)<|jp (vs:=[zI x.st,zI 0,zI ((iM.length:Int)-1)]) [] [] (fun aB hs hZ=>gL)<|zD 3<|js 44 (!(jK x.st 0 ((iM.length:Int)-1))) (fun h7=>?_) (fun h7=>?_)
 ·
  try simp only[zB] at h7
  exfalso;simp only[jK,Bool.and_eq_false_iff,decide_eq_false_iff_not] at h7;omega
 try simp only[zB] at h7
 refine jd 25 [0]<|jp (vs:=[zI x.no,zI 1,zI 40]) [] [] (fun aB hs hZ=>gL)<|zD 4<|js 65 (!(jK x.no 1 40)) (fun h8=>?_) (fun h8=>?_)
 ·
  try simp only[zB] at h8
  exfalso;simp only[jK,Bool.and_eq_false_iff,decide_eq_false_iff_not] at h8;omega
 try simp only[zB] at h8
 refine jd 7 [0]<|js 74 x.bold (fun h9=>?_) (fun h9=>?_)
 ·
  exfalso;rw[hBd] at h9;cases h9
 refine zD 7<|aH q0 (zI 0) [] [] [] (Sub.refl _) ⟨_,_,rfl,rfl,rfl,rfl⟩
theorem gF.up{ro aF:Nat→Option Obj}(h:gF ro l K)(hs:Sub ro aF):gF aF l K:=by
 obtain⟨vS,vT,vc,vh,vr,vb,va,vf,fa,fc,hv,rfl,h1,h2,h3,h4,h5,h6,h7,h8⟩:=h
 exact⟨_,_,_,_,_,_,_,_,_,_,_,rfl,h1.up hs,h2.up hs,h3.up hs,h4,h5.up hs,h6.up hs,h7.up hs,h8.up hs⟩
theorem aem{ro:Nat→Option Obj}(hK:gF ro l K)(hO:mH K)(hp:bE ro vp 5 eT K.before):dO zT 88 [.agg ⟨l⟩,vp,.bool true] ro (zI 0):=by
 have XE:=hK
 obtain⟨vS,vT,vc,vh,vr,vb,va,vf,fa,fc,hv,rfl,hS,hT,qj,nN,hr,hb,ha,hf⟩:=hK
 obtain⟨iM,hs,fN⟩:=id hS
 obtain⟨jk,ht,fI⟩:=id hT
 obtain⟨hc,hh,DK⟩:=id qj
 obtain⟨mW,S5,S3,lV,rfl,S4,LX,LW⟩:=hs
 obtain⟨fD,AF,AD,eA,rfl,AE,sL,sJ⟩:=ht
 obtain⟨eL,AH,AG,eF,rfl,Dt,yQ,yP⟩:=hc
 obtain⟨dS,vk,vi,dB,rfl,xw,q8,q7⟩:=hh
 obtain⟨lG,Ic,Ib,lF,rfl,NZ,Gc,Gb⟩:=hr
 obtain⟨jV,Pd,Pb,jP,rfl,Pc,N1,N0⟩:=hb
 obtain⟨jC,Mc,Ma,jq,rfl,Mb,JU,JR⟩:=ha
 obtain⟨iA,B5,B4,gR,rfl,IM,xX,xW⟩:=hf
 have CE:=hO.rules
 have q5:=hO.before.1
 have Oa:=hO.after.1
 have N9:=hO.facts.1
 have N8:=hO.ways.1
 have Il:=fN.len
 have ED:=fI.len
 have Xo:=hO.qy.two
 have hl9:=hO.dP.nh
 have NY:∀(i:Nat) (p:cU),([]:List cU)[i]?=some p→cv ⟨ro,[]⟩ 0 (0+i*6) 6 (ny p):=fun _ _ h=>oP h
 obtain⟨RJ,qpb,qpo,JQ,rfl,qpk,Zh,Zg⟩:=hp
 refine bC au [] [] bu<|zD 2<|jn fun b3=>zD 9<|zJ 12 ((K.before.length:Int)>4) (fun h1=>?_) fun h1=>?_
 ·
  exfalso;omega
 refine zD 10<|eO [1,1,0,1,0,0] [] (fun(zz:Nat)=>[(2,.bool true),(3,zP b3),(13,.slice RJ K.before.length JQ),(14,zI (K.before.length:Int)),(15,zI (zz:Int))]) (fun(zz:Nat)=>[.b b3 (.cells ⟨[.slice mW iM.length lV,.slice fD jk.length eA,.slice fa 0 fc,.slice eL K.cs.length eF,.slice dS hv.length dB,.slice lG K.rules.length lF,.slice jV K.before.length jP,.slice jC K.after.length jq,zI K.gone,zI K.new,zI K.af,.slice iA K.facts.length gR]⟩ 38 (0,0))]) (fun(zz:Nat)=>zz≤K.before.length) (fun(zz:Nat)=>K.before.length-zz) 0 (by omega) [0] ?_
 rintro k hI K1 bG rest
 refine zD 5<|zJ 16 ((k:Int) <(K.before.length:Int)) (fun h2=>?_) fun h2=>?_
 ·
  refine zD 6 ?_
  obtain⟨Vz,GP⟩:=zG K.before k
  refine jb JQ 5 Zh GP<|jl 0 (Zg _ _ GP)<|jn fun b8=>jd 7 [0,1,0]<|jp (vs:=[.agg ⟨[.slice mW iM.length lV,.slice fD jk.length eA,.slice fa 0 fc,.slice eL K.cs.length eF,.slice dS hv.length dB,.slice lG K.rules.length lF,.slice jV K.before.length jP,.slice jC K.after.length jq,zI K.gone,zI K.new,zI K.af,.slice iA K.facts.length gR]⟩,.agg ⟨[.string Vz.name,zI Vz.st,zI Vz.no,zI Vz.head,.bool Vz.bold]⟩,.bool true]) [] [] (fun aB hs hZ=>(aek (x:=Vz) (XE.up hs) hO (hO.before.2 _ (List.mem_of_getElem? GP))))<|zD 10<|ja ((k:Int)+1) (by omega)<|zD 2<|bF bG (k+1) (by omega) (by omega) [1] (Sub.refl _)
 refine zD 7<|aH q0 (zI 0) [] [] [] (Sub.refl _) ⟨_,_,rfl,rfl,rfl,rfl⟩
theorem aen{ro:Nat→Option Obj}(hK:gF ro l K)(hO:mH K)(hp:bE ro vp 5 eT K.after):dO zT 88 [.agg ⟨l⟩,vp,.bool false] ro (zI 0):=by
 have XE:=hK
 obtain⟨vS,vT,vc,vh,vr,vb,va,vf,fa,fc,hv,rfl,hS,hT,qj,nN,hr,hb,ha,hf⟩:=hK
 obtain⟨iM,hs,fN⟩:=id hS
 obtain⟨jk,ht,fI⟩:=id hT
 obtain⟨hc,hh,DK⟩:=id qj
 obtain⟨mW,S5,S3,lV,rfl,S4,LX,LW⟩:=hs
 obtain⟨fD,AF,AD,eA,rfl,AE,sL,sJ⟩:=ht
 obtain⟨eL,AH,AG,eF,rfl,Dt,yQ,yP⟩:=hc
 obtain⟨dS,vk,vi,dB,rfl,xw,q8,q7⟩:=hh
 obtain⟨lG,Ic,Ib,lF,rfl,NZ,Gc,Gb⟩:=hr
 obtain⟨jV,Pd,Pb,jP,rfl,Pc,N1,N0⟩:=hb
 obtain⟨jC,Mc,Ma,jq,rfl,Mb,JU,JR⟩:=ha
 obtain⟨iA,B5,B4,gR,rfl,IM,xX,xW⟩:=hf
 have CE:=hO.rules
 have q5:=hO.before.1
 have Oa:=hO.after.1
 have N9:=hO.facts.1
 have N8:=hO.ways.1
 have Il:=fN.len
 have ED:=fI.len
 have Xo:=hO.qy.two
 have hl9:=hO.dP.nh
 have NY:∀(i:Nat) (p:cU),([]:List cU)[i]?=some p→cv ⟨ro,[]⟩ 0 (0+i*6) 6 (ny p):=fun _ _ h=>oP h
 obtain⟨RJ,qpb,qpo,JQ,rfl,qpk,Zh,Zg⟩:=hp
 refine bC au [] [] bu<|zD 2<|jn fun b3=>zD 9<|zJ 12 ((K.after.length:Int)>4) (fun h1=>?_) fun h1=>?_
 ·
  exfalso;omega
 refine zD 10<|eO [1,1,0,1,0,0] [] (fun(zz:Nat)=>[(2,.bool false),(3,zP b3),(13,.slice RJ K.after.length JQ),(14,zI (K.after.length:Int)),(15,zI (zz:Int))]) (fun(zz:Nat)=>[.b b3 (.cells ⟨[.slice mW iM.length lV,.slice fD jk.length eA,.slice fa 0 fc,.slice eL K.cs.length eF,.slice dS hv.length dB,.slice lG K.rules.length lF,.slice jV K.before.length jP,.slice jC K.after.length jq,zI K.gone,zI K.new,zI K.af,.slice iA K.facts.length gR]⟩ 38 (0,0))]) (fun(zz:Nat)=>zz≤K.after.length) (fun(zz:Nat)=>K.after.length-zz) 0 (by omega) [0] ?_
 rintro k hI K1 bG rest
 refine zD 5<|zJ 16 ((k:Int) <(K.after.length:Int)) (fun h2=>?_) fun h2=>?_
 ·
  refine zD 6 ?_
  obtain⟨Vz,GP⟩:=zG K.after k
  refine jb JQ 5 Zh GP<|jl 0 (Zg _ _ GP)<|jn fun b8=>jd 7 [0,1,0]<|jp (vs:=[.agg ⟨[.slice mW iM.length lV,.slice fD jk.length eA,.slice fa 0 fc,.slice eL K.cs.length eF,.slice dS hv.length dB,.slice lG K.rules.length lF,.slice jV K.before.length jP,.slice jC K.after.length jq,zI K.gone,zI K.new,zI K.af,.slice iA K.facts.length gR]⟩,.agg ⟨[.string Vz.name,zI Vz.st,zI Vz.no,zI Vz.head,.bool Vz.bold]⟩,.bool false]) [] [] (fun aB hs hZ=>(ael (x:=Vz) (XE.up hs) hO (hO.after.2 _ (List.mem_of_getElem? GP))))<|zD 10<|ja ((k:Int)+1) (by omega)<|zD 2<|bF bG (k+1) (by omega) (by omega) [1] (Sub.refl _)
 refine zD 7<|aH q0 (zI 0) [] [] [] (Sub.refl _) ⟨_,_,rfl,rfl,rfl,rfl⟩
theorem asG{x y:ez}{ro:Nat→Option Obj}(hb:ro b=some (.cells ⟨[zI y.a,zI y.b,.bool y.same]⟩ 57 (0,0))):dO zT 116 [.agg ⟨[zI x.a,zI x.b,.bool x.same]⟩,zP b] ro (.bool (decide (x.a=y.a)&&decide (x.b=y.b))):=by
 refine bC au [] [] bu<|zD 2<|jn fun b2=>jd 7 [0]<|jl (b:=b) (off:=0) (m:=3) (vs:=[zI y.a,zI y.b,.bool y.same]) 0 ⟨_,_,_,.inl hb,rfl⟩<|zD 2<|jj 6 [(3,.bool false),(15,.bool ((decide (x.a=y.a))&&(decide (x.b=y.b))))] (fun gQ=>?_) (fun hj=>?_)
 rotate_left
 refine js 9 (decide (x.a=y.a)) (fun h1=>?_) (fun h1=>?_)
 ·
  have gN:=h1
  replace gN:=of_decide_eq_true gN
  refine jd 3 [0]<|jl (b:=b) (off:=0) (m:=3) (vs:=[zI y.a,zI y.b,.bool y.same]) 1 ⟨_,_,_,.inl hb,rfl⟩<|zD 2<|jw 15 (.bool ((decide (x.a=y.a))&&(decide (x.b=y.b)))) (w:= .bool (decide (x.b=y.b))) (by rw[h1]<;>rfl) ?_
  exact hj _ (by kernel_rfl) (by kernel_rfl)
 ·
  have gN:=h1
  replace gN:=of_decide_eq_false gN
  refine zD 6<|jw 15 (.bool ((decide (x.a=y.a))&&(decide (x.b=y.b)))) (w:= .bool false) (by rw[h1]<;>rfl) ?_
  exact hj _ (by kernel_rfl) (by kernel_rfl)
 refine zD 3<|aH q0 (.bool ((decide (x.a=y.a))&&(decide (x.b=y.b)))) [] [] [] (Sub.refl _) ⟨_,_,rfl,rfl,rfl,rfl⟩
def Ea(x y:ez):Bool:=decide (y.a=x.a)&&decide (y.b=x.b)
theorem CX{p:α→Bool}:∀ {l:List α} {k:Nat},(∀y∈l,p y=false)→cX p l k= -1
 | [],_,_=>rfl
 |x::l,k,h=>by simp only[cX,h x (List.mem_cons_self ..),cond_false];exact CX fun y hy=>h y (List.mem_cons_of_mem _ hy)
theorem ahv{x:ez}(h:fs.Pairwise fun x y=>¬(x.a=y.a∧x.b=y.b))(hx:fs[i]?=some x):cX (Ea x) (fs.take i) 0 <0:=by
 rw[CX]
 ·omega
 intro y hy
 obtain⟨j,hj⟩:=List.getElem?_of_mem hy
 rw[List.getElem?_take] at hj
 split at hj
 ·rename_i Ae
  have:=qx h Ae hj hx
  simp only[Ea,Bool.and_eq_false_iff,decide_eq_false_iff_not]
  by_cases h1:y.a=x.a
  ·exact .inr fun h2=>this ⟨h1,h2⟩
  exact .inl h1
 cases hj
theorem asZ{v:Value}{x:ez}{ro:Nat→Option Obj}(hf:bE ro v 3 lP fs)(hn:fs.length≤1000)(hb:ro b=some (.cells ⟨[zI x.a,zI x.b,.bool x.same]⟩ 57 (0,0))):dO zT 160 [v,.func (.func 116) ⟨[]⟩ ⟨[zP b]⟩] ro (zI (cX (Ea x) fs 0)):=by
 obtain⟨iA,B5,B4,gR,rfl,IM,xX,xW⟩:=hf
 refine bC au [] [] bu<|zD 12<|eO [1,0,1,0,0] [] (fun(zz:Nat)=>[(0,.slice iA fs.length gR),(1,.func (.func 116) ⟨[]⟩ ⟨[zP b]⟩),(7,zI (fs.length:Int)),(8,zI (zz:Int))]) (fun(zz:Nat)=>[]) (fun(zz:Nat)=>zz≤fs.length∧cX (Ea x) fs 0=cX (Ea x) (fs.drop zz) zz) (fun(zz:Nat)=>fs.length-zz) 0 ⟨by omega,rfl⟩ [] ?_
 rintro k hI K1 bG rest
 refine zD 5<|zJ 9 ((k:Int) <(fs.length:Int)) (fun h1=>?_) fun h1=>?_
 ·
  refine zD 14 ?_
  obtain⟨gi,eW⟩:=zG fs k
  refine jb gR 3 xX eW<|jl 0 (xW _ _ eW)<|jp (vs:=[.agg ⟨[zI gi.a,zI gi.b,.bool gi.same]⟩,zP b]) [] [] (fun aB hs hZ=>(asG (hs _ _ hb)))<|zD 1<|js 16 (Ea x gi) (fun h2=>?_) (fun h2=>?_)
  ·
   refine zD 7<|aH q0 (zI (k:Int)) [] [] [] (Sub.refl _) ⟨_,_,rfl,rfl,by rw[hI.2,j9 eW,show Ea x gi=true from (by assumption)];rfl,rfl⟩
  refine zD 3<|ja ((k:Int)+1) (by omega)<|zD 2<|bF bG (k+1) ⟨by omega,by rw[hI.2,j9 eW,show Ea x gi=false from (by assumption)];rfl⟩ (by omega) [] (Sub.refl _)
 refine zD 7<|aH q0 (zI (-1)) [] [] [] (Sub.refl _) ⟨_,_,rfl,rfl,by rw[hI.2,qP (by omega)],rfl⟩
theorem alB{v:Value}{x:ez}{ro:Nat→Option Obj}(hf:bE ro v 3 lP fs)(hn:fs.length≤1000)(hb:ro b=some (.cells ⟨[zI x.a,zI x.b,.bool x.same]⟩ 57 (0,0))):dO zT 115 [v,.func (.func 116) ⟨[]⟩ ⟨[zP b]⟩] ro (.bool (decide (cX (Ea x) fs 0≥0))):=by
 obtain⟨iA,B5,B4,gR,rfl,IM,xX,xW⟩:=hf
 refine bC au [] [] bu<|zD 8<|jp (vs:=[.slice iA fs.length gR,.func (.func 116) ⟨[]⟩ ⟨[zP b]⟩]) [] [] (fun aB hs hZ=>asZ ((show bE _ _ _ _ _ from ⟨iA,B5,B4,gR,rfl,IM,xX,xW⟩).up hs) (by first|omega| (simp only[List.length_set,List.length_append,List.length_cons,List.length_nil];omega)) (hs _ _ hb)) ?_
 refine zD 4<|aH q0 (.bool (decide ((cX (Ea x) fs 0)≥0))) [] [] [] (Sub.refl _) ⟨_,_,rfl,rfl,rfl,rfl⟩
theorem aBk{x:ez}{ro:Nat→Option Obj}(hK:gF ro l K)(hO:mH K)(hp:bE ro vp 3 lP fs)(hn:fs.length≤1000)(hx:(0≤x.a∧x.a <K.before.length)∧(0≤x.b∧x.b <K.after.length))(hw:cX (Ea x) fs 0 <0):dO zT 90 [.agg ⟨l⟩,vp,.agg ⟨[zI x.a,zI x.b,.bool x.same]⟩] ro (zI 0):=by
 obtain⟨vS,vT,vc,vh,vr,vb,va,vf,fa,fc,hv,rfl,hS,hT,qj,nN,hr,hb,ha,hf⟩:=hK
 obtain⟨iM,hs,fN⟩:=id hS
 obtain⟨jk,ht,fI⟩:=id hT
 obtain⟨hc,hh,DK⟩:=id qj
 obtain⟨mW,S5,S3,lV,rfl,S4,LX,LW⟩:=hs
 obtain⟨fD,AF,AD,eA,rfl,AE,sL,sJ⟩:=ht
 obtain⟨eL,AH,AG,eF,rfl,Dt,yQ,yP⟩:=hc
 obtain⟨dS,vk,vi,dB,rfl,xw,q8,q7⟩:=hh
 obtain⟨lG,Ic,Ib,lF,rfl,NZ,Gc,Gb⟩:=hr
 obtain⟨jV,Pd,Pb,jP,rfl,Pc,N1,N0⟩:=hb
 obtain⟨jC,Mc,Ma,jq,rfl,Mb,JU,JR⟩:=ha
 obtain⟨iA,B5,B4,gR,rfl,IM,xX,xW⟩:=hf
 have CE:=hO.rules
 have q5:=hO.before.1
 have Oa:=hO.after.1
 have N9:=hO.facts.1
 have N8:=hO.ways.1
 have Il:=fN.len
 have ED:=fI.len
 have Xo:=hO.qy.two
 have hl9:=hO.dP.nh
 have NY:∀(i:Nat) (p:cU),([]:List cU)[i]?=some p→cv ⟨ro,[]⟩ 0 (0+i*6) 6 (ny p):=fun _ _ h=>oP h
 obtain⟨RJ,qpb,qpo,JQ,rfl,qpk,Zh,Zg⟩:=hp
 refine bC au [] [] bu<|zD 2<|jn fun b3=>jn fun b5=>jd 12 [0,1]<|ja ((K.before.length:Int)-1) (by omega)<|jp (vs:=[zI x.a,zI 0,zI ((K.before.length:Int)-1)]) [] [] (fun aB hs hZ=>gL)<|zD 3<|js 7 (!(jK x.a 0 ((K.before.length:Int)-1))) (fun h1=>?_) (fun h1=>?_)
 ·
  try simp only[zB] at h1
  exfalso;simp only[jK,Bool.and_eq_false_iff,decide_eq_false_iff_not] at h1;omega
 try simp only[zB] at h1
 refine jd 7 [0,1]<|ja ((K.after.length:Int)-1) (by omega)<|jp (vs:=[zI x.b,zI 0,zI ((K.after.length:Int)-1)]) [] [] (fun aB hs hZ=>gL)<|zD 3<|js 7 (!(jK x.b 0 ((K.after.length:Int)-1))) (fun h2=>?_) (fun h2=>?_)
 ·
  try simp only[zB] at h2
  exfalso;simp only[jK,Bool.and_eq_false_iff,decide_eq_false_iff_not] at h2;omega
 try simp only[zB] at h2
 refine zD 5<|jp (vs:=[.slice RJ fs.length JQ,.func (.func 116) ⟨[]⟩ ⟨[zP b5]⟩]) [0] [(b5,.cells ⟨[zI x.a,zI x.b,.bool x.same]⟩ 57 (0,0))] (fun aB hs hZ=>alB ((show bE _ _ _ _ _ from ⟨RJ,qpb,qpo,JQ,rfl,qpk,Zh,Zg⟩).up hs) (by first|omega| (simp only[List.length_set,List.length_append,List.length_cons,List.length_nil];omega)) hZ.head) ?_
 refine zD 2<|js 24 (decide (cX (Ea x) fs 0≥0)) (fun h3=>?_) (fun h3=>?_)
 ·
  exfalso;have:=of_decide_eq_true h3;omega
 refine zD 7<|aH q0 (zI 0) [] [] [] (Sub.refl _) ⟨_,_,rfl,rfl,rfl,rfl⟩
theorem azd{w:ByteArray}{ro:Nat→Option Obj}(hs:1≤w.size∧w.size≤12)(hc:cN w (bs [99,108,97,115,115])=false)(hf:cN w (bs [102,105,110,105,115])=false)(hK:∀b∈w.data.toList,97≤b.toNat∧b.toNat≤122):dO zT 189 [.string w] ro (.bool true):=by
 refine bC au [] [] bu<|zD 11<|jj 4 [(0,.string w),(2,.bool false),(12,.bool ((decide ((w.size:Int)=0))||(decide ((w.size:Int)>12))))] (fun gQ=>?_) (fun hj=>?_)
 rotate_left
 refine js 8 (decide ((w.size:Int)=0)) (fun h1=>?_) (fun h1=>?_)
 ·
  have gN:=h1
  replace gN:=of_decide_eq_true gN
  refine zD 4<|jw 12 (.bool ((decide ((w.size:Int)=0))||(decide ((w.size:Int)>12)))) (w:= .bool true) (by rw[h1]<;>rfl) ?_
  exact hj _ (by kernel_rfl) (by kernel_rfl)
 ·
  have gN:=h1
  replace gN:=of_decide_eq_false gN
  refine zD 4<|jw 12 (.bool ((decide ((w.size:Int)=0))||(decide ((w.size:Int)>12)))) (w:= .bool (decide ((w.size:Int)>12))) (by rw[h1]<;>rfl) ?_
  exact hj _ (by kernel_rfl) (by kernel_rfl)
 refine zD 1<|jj 3 [(0,.string w),(2,.bool false),(16,.bool (((decide ((w.size:Int)=0))||(decide ((w.size:Int)>12)))||(cN w (bs [99,108,97,115,115]))))] (fun gQ=>?_) (fun hj=>?_)
 rotate_left
 refine js 13 ((decide ((w.size:Int)=0))||(decide ((w.size:Int)>12))) (fun h2=>?_) (fun h2=>?_)
 ·
  have lM:=h2
  try simp only[zB] at lM
  refine zD 3<|jw 16 (.bool (((decide ((w.size:Int)=0))||(decide ((w.size:Int)>12)))||(cN w (bs [99,108,97,115,115])))) (w:= .bool true) (by rw[h2]<;>rfl) ?_
  exact hj _ (by kernel_rfl) (by kernel_rfl)
 ·
  have lM:=h2
  try simp only[zB] at lM
  refine zD 3<|jw 16 (.bool (((decide ((w.size:Int)=0))||(decide ((w.size:Int)>12)))||(cN w (bs [99,108,97,115,115])))) (w:= .bool (cN w (bs [99,108,97,115,115]))) (by rw[h2]<;>rfl) ?_
  exact hj _ (by kernel_rfl) (by kernel_rfl)
 refine zD 1<|jj 3 [(0,.string w),(2,.bool false),(20,.bool ((((decide ((w.size:Int)=0))||(decide ((w.size:Int)>12)))||(cN w (bs [99,108,97,115,115])))||(cN w (bs [102,105,110,105,115]))))] (fun gQ=>?_) (fun hj=>?_)
 rotate_left
 refine js 17 (((decide ((w.size:Int)=0))||(decide ((w.size:Int)>12)))||(cN w (bs [99,108,97,115,115]))) (fun h3=>?_) (fun h3=>?_)
 ·
  have wK:=h3
  try simp only[zB] at wK
  refine zD 3<|jw 20 (.bool ((((decide ((w.size:Int)=0))||(decide ((w.size:Int)>12)))||(cN w (bs [99,108,97,115,115])))||(cN w (bs [102,105,110,105,115])))) (w:= .bool true) (by rw[h3]<;>rfl) ?_
  exact hj _ (by kernel_rfl) (by kernel_rfl)
 ·
  have wK:=h3
  try simp only[zB] at wK
  refine zD 3<|jw 20 (.bool ((((decide ((w.size:Int)=0))||(decide ((w.size:Int)>12)))||(cN w (bs [99,108,97,115,115])))||(cN w (bs [102,105,110,105,115])))) (w:= .bool (cN w (bs [102,105,110,105,115]))) (by rw[h3]<;>rfl) ?_
  exact hj _ (by kernel_rfl) (by kernel_rfl)
 refine zD 1<|js 20 ((((decide ((w.size:Int)=0))||(decide ((w.size:Int)>12)))||(cN w (bs [99,108,97,115,115])))||(cN w (bs [102,105,110,105,115]))) (fun h4=>?_) (fun h4=>?_)
 ·
  try simp only[zB] at h4
  exfalso;simp only[hc,hf,Bool.or_false,Bool.or_eq_true,decide_eq_true_eq,Bool.false_eq_true,or_false] at h4;omega
 try simp only[zB] at h4
 refine zD 6<|jn fun r22=>zD 2<|eO [1,1,0,1,0,0] [] (fun(zz:Nat)=>[(22,zP r22)]) (fun(zz:Nat)=>[.b r22 (.stringIter w zz)]) (fun(zz:Nat)=>zz≤w.data.toList.length) (fun(zz:Nat)=>w.data.toList.length-zz) 0 (by omega) [0] ?_
 rintro p hI K1 bG rest
 refine zD 2 ?_
 cases ZZ:w.data.toList[p]? with
 |some vG=>
  refine jnA r22 0 ZZ (by have:=hK _ (List.mem_of_getElem? ZZ);omega) ?_
  refine zD 7 ?_
  have Xp:=hK _ (List.mem_of_getElem? ZZ)
  refine zD 9<|jj 3 [(22,zP r22),(31,.bool ((decide ((vG.toNat:Int) <97))||(decide ((vG.toNat:Int)>122))))] (fun gQ=>?_) (fun hj=>?_)
  rotate_left
  refine js 28 (decide ((vG.toNat:Int) <97)) (fun h5=>?_) (fun h5=>?_)
  ·
   have M9:=h5
   replace M9:=of_decide_eq_true M9
   refine zD 3<|jw 31 (.bool ((decide ((vG.toNat:Int) <97))||(decide ((vG.toNat:Int)>122)))) (w:= .bool true) (by rw[h5]<;>rfl) ?_
   exact hj _ (by kernel_rfl) (by kernel_rfl)
  ·
   have M9:=h5
   replace M9:=of_decide_eq_false M9
   refine zD 3<|jw 31 (.bool ((decide ((vG.toNat:Int) <97))||(decide ((vG.toNat:Int)>122)))) (w:= .bool (decide ((vG.toNat:Int)>122))) (by rw[h5]<;>rfl) ?_
   exact hj _ (by kernel_rfl) (by kernel_rfl)
  refine zD 1<|js 31 ((decide ((vG.toNat:Int) <97))||(decide ((vG.toNat:Int)>122))) (fun h6=>?_) (fun h6=>?_)
  ·
   try simp only[zB] at h6
   exfalso;omega
  try simp only[zB] at h6
  refine zD 2<|bF bG (p+1) (by have:=(List.getElem?_eq_some_iff.1 ZZ).1;omega) (by have:=(List.getElem?_eq_some_iff.1 ZZ).1;omega) [0] (Sub.refl _)
 |none=>
  refine jnZ r22 0 ZZ<|zD 10<|aH q0 (.bool true) [] [] [] (Sub.refl _) ⟨_,_,rfl,rfl,rfl,rfl⟩
def EO(x y:bK):Bool:=cN y.name x.name
theorem aq6{x y:bK}{ro:Nat→Option Obj}(hb:ro b=some (.cells ⟨[.string x.name,zI x.under]⟩ 130 (0,0))):dO zT 191 [.agg ⟨[.string y.name,zI y.under]⟩,zP b] ro (.bool (cN y.name x.name)):=by
 refine bC au [] [] bu<|zD 2<|jn fun b2=>jd 7 [0]<|jl (b:=b) (off:=0) (m:=2) (vs:=[.string x.name,zI x.under]) 0 ⟨_,_,_,.inl hb,rfl⟩<|zD 4<|aH q0 (.bool (cN y.name x.name)) [] [] [] (Sub.refl _) ⟨_,_,rfl,rfl,rfl,rfl⟩
theorem aq5{v:Value}{fs:List bK}{x:bK}{ro:Nat→Option Obj}(hf:bE ro v 2 pG fs)(hn:fs.length≤1000)(hb:ro b=some (.cells ⟨[.string x.name,zI x.under]⟩ 130 (0,0))):dO zT 214 [v,.func (.func 191) ⟨[]⟩ ⟨[zP b]⟩] ro (zI (cX (EO x) fs 0)):=by
 obtain⟨iA,B5,B4,gR,rfl,IM,xX,xW⟩:=hf
 refine bC au [] [] bu<|zD 12<|eO [1,0,1,0,0] [] (fun(zz:Nat)=>[(0,.slice iA fs.length gR),(1,.func (.func 191) ⟨[]⟩ ⟨[zP b]⟩),(7,zI (fs.length:Int)),(8,zI (zz:Int))]) (fun(zz:Nat)=>[]) (fun(zz:Nat)=>zz≤fs.length∧cX (EO x) fs 0=cX (EO x) (fs.drop zz) zz) (fun(zz:Nat)=>fs.length-zz) 0 ⟨by omega,rfl⟩ [] ?_
 rintro k hI K1 bG rest
 refine zD 5<|zJ 9 ((k:Int) <(fs.length:Int)) (fun h1=>?_) fun h1=>?_
 ·
  refine zD 14 ?_
  obtain⟨gi,eW⟩:=zG fs k
  refine jb gR 2 xX eW<|jl 0 (xW _ _ eW)<|jp (vs:=[.agg ⟨[.string gi.name,zI gi.under]⟩,zP b]) [] [] (fun aB hs hZ=>(aq6 (y:=gi) (hs _ _ hb)))<|zD 1<|js 16 (EO x gi) (fun h2=>?_) (fun h2=>?_)
  ·
   refine zD 7<|aH q0 (zI (k:Int)) [] [] [] (Sub.refl _) ⟨_,_,rfl,rfl,by rw[hI.2,j9 eW,show EO x gi=true from (by assumption)];rfl,rfl⟩
  refine zD 3<|ja ((k:Int)+1) (by omega)<|zD 2<|bF bG (k+1) ⟨by omega,by rw[hI.2,j9 eW,show EO x gi=false from (by assumption)];rfl⟩ (by omega) [] (Sub.refl _)
 refine zD 7<|aH q0 (zI (-1)) [] [] [] (Sub.refl _) ⟨_,_,rfl,rfl,by rw[hI.2,qP (by omega)],rfl⟩
theorem akg{v:Value}{fs:List bK}{x:bK}{ro:Nat→Option Obj}(hf:bE ro v 2 pG fs)(hn:fs.length≤1000)(hb:ro b=some (.cells ⟨[.string x.name,zI x.under]⟩ 130 (0,0))):dO zT 190 [v,.func (.func 191) ⟨[]⟩ ⟨[zP b]⟩] ro (.bool (decide (cX (EO x) fs 0≥0))):=by
 obtain⟨iA,B5,B4,gR,rfl,IM,xX,xW⟩:=hf
 refine bC au [] [] bu<|zD 8<|jp (vs:=[.slice iA fs.length gR,.func (.func 191) ⟨[]⟩ ⟨[zP b]⟩]) [] [] (fun aB hs hZ=>aq5 ((show bE _ _ _ _ _ from ⟨iA,B5,B4,gR,rfl,IM,xX,xW⟩).up hs) (by first|omega| (simp only[List.length_set,List.length_append,List.length_cons,List.length_nil];omega)) (hs _ _ hb)) ?_
 refine zD 4<|aH q0 (.bool (decide ((cX (EO x) fs 0)≥0))) [] [] [] (Sub.refl _) ⟨_,_,rfl,rfl,rfl,rfl⟩
def hdP(x y:bp):Bool:=cN y.word x.word
theorem azl{x y:bp}{ro:Nat→Option Obj}(hb:ro b=some (.cells ⟨[.string x.word,zI x.cls,zI x.oK,x.eC]⟩ 133 (0,0))):dO zT 194 [.agg ⟨[.string y.word,zI y.cls,zI y.oK,y.eC]⟩,zP b] ro (.bool (cN y.word x.word)):=by
 refine bC au [] [] bu<|zD 2<|jn fun b2=>jd 7 [0]<|jl (b:=b) (off:=0) (m:=4) (vs:=[.string x.word,zI x.cls,zI x.oK,x.eC]) 0 ⟨_,_,_,.inl hb,rfl⟩<|zD 4<|aH q0 (.bool (cN y.word x.word)) [] [] [] (Sub.refl _) ⟨_,_,rfl,rfl,rfl,rfl⟩
theorem azk{v:Value}{fs:List bp}{x:bp}{ro:Nat→Option Obj}(hf:bE ro v 4 mP fs)(hn:fs.length≤1000)(hb:ro b=some (.cells ⟨[.string x.word,zI x.cls,zI x.oK,x.eC]⟩ 133 (0,0))):dO zT 215 [v,.func (.func 194) ⟨[]⟩ ⟨[zP b]⟩] ro (zI (cX (hdP x) fs 0)):=by
 obtain⟨iA,B5,B4,gR,rfl,IM,xX,xW⟩:=hf
 refine bC au [] [] bu<|zD 12<|eO [1,0,1,0,0] [] (fun(zz:Nat)=>[(0,.slice iA fs.length gR),(1,.func (.func 194) ⟨[]⟩ ⟨[zP b]⟩),(7,zI (fs.length:Int)),(8,zI (zz:Int))]) (fun(zz:Nat)=>[]) (fun(zz:Nat)=>zz≤fs.length∧cX (hdP x) fs 0=cX (hdP x) (fs.drop zz) zz) (fun(zz:Nat)=>fs.length-zz) 0 ⟨by omega,rfl⟩ [] ?_
 rintro k hI K1 bG rest
 refine zD 5<|zJ 9 ((k:Int) <(fs.length:Int)) (fun h1=>?_) fun h1=>?_
 ·
  refine zD 14 ?_
  obtain⟨gi,eW⟩:=zG fs k
  refine jb gR 4 xX eW<|jl 0 (xW _ _ eW)<|jp (vs:=[.agg ⟨[.string gi.word,zI gi.cls,zI gi.oK,gi.eC]⟩,zP b]) [] [] (fun aB hs hZ=>(azl (y:=gi) (hs _ _ hb)))<|zD 1<|js 16 (hdP x gi) (fun h2=>?_) (fun h2=>?_)
  ·
   refine zD 7<|aH q0 (zI (k:Int)) [] [] [] (Sub.refl _) ⟨_,_,rfl,rfl,by rw[hI.2,j9 eW,show hdP x gi=true from (by assumption)];rfl,rfl⟩
  refine zD 3<|ja ((k:Int)+1) (by omega)<|zD 2<|bF bG (k+1) ⟨by omega,by rw[hI.2,j9 eW,show hdP x gi=false from (by assumption)];rfl⟩ (by omega) [] (Sub.refl _)
 refine zD 7<|aH q0 (zI (-1)) [] [] [] (Sub.refl _) ⟨_,_,rfl,rfl,by rw[hI.2,qP (by omega)],rfl⟩
theorem aq2{v:Value}{fs:List bp}{x:bp}{ro:Nat→Option Obj}(hf:bE ro v 4 mP fs)(hn:fs.length≤1000)(hb:ro b=some (.cells ⟨[.string x.word,zI x.cls,zI x.oK,x.eC]⟩ 133 (0,0))):dO zT 193 [v,.func (.func 194) ⟨[]⟩ ⟨[zP b]⟩] ro (.bool (decide (cX (hdP x) fs 0≥0))):=by
 obtain⟨iA,B5,B4,gR,rfl,IM,xX,xW⟩:=hf
 refine bC au [] [] bu<|zD 8<|jp (vs:=[.slice iA fs.length gR,.func (.func 194) ⟨[]⟩ ⟨[zP b]⟩]) [] [] (fun aB hs hZ=>azk ((show bE _ _ _ _ _ from ⟨iA,B5,B4,gR,rfl,IM,xX,xW⟩).up hs) (by first|omega| (simp only[List.length_set,List.length_append,List.length_cons,List.length_nil];omega)) (hs _ _ hb)) ?_
 refine zD 4<|aH q0 (.bool (decide ((cX (hdP x) fs 0)≥0))) [] [] [] (Sub.refl _) ⟨_,_,rfl,rfl,rfl,rfl⟩
def Ao(w:ByteArray):Bool:=Nat.ble 1 w.size&&(Nat.ble w.size 12&&(!cN w (bs [99,108,97,115,115])&&(!cN w (bs [102,105,110,105,115])&&w.data.toList.all fun b=>Nat.ble 97 b.toNat&&Nat.ble b.toNat 122)))
theorem YL:∀w∈nV,Ao w=true:=List.all_eq_true.1 (by kernel_rfl)
theorem aax:∀w∈pR,Ao w=true:=List.all_eq_true.1 (by kernel_rfl)
theorem ab7{w:ByteArray}{ro:Nat→Option Obj}(h:Ao w=true):dO zT 189 [.string w] ro (.bool true):=by
 simp only[Ao,Bool.and_eq_true,Nat.ble_eq,Bool.not_eq_true',List.all_eq_true] at h
 exact azd ⟨h.1,h.2.1⟩ h.2.2.1 h.2.2.2.1 h.2.2.2.2
structure mi(cs:List bK)(hd:List cq):Prop where
 nc:0 <cs.length∧cs.length≤6
 nh:hd.length≤6
 cls:∀(i:Nat) (c:bK),cs[i]?=some c→Ao c.name=true∧ -1≤c.under∧c.under <i
 names:(cs.map (·.name)).Pairwise fun a b=>cN a b=false
 A3:∀(i:Nat) (x:cq),hd[i]?=some x→Ao x.word=true∧iz cs.length hd.length i x
 words:(hd.map (·.word)).Pairwise fun a b=>cN a b=false∧strLt b a=false
theorem xg.v(h:xg cs hd):mi cs hd:=
 ⟨⟨h.nc.1,by have:=h.nc.2;omega⟩,by have:=h.nh;omega,fun i c hc=>⟨YL _ (h.cls i c hc).1,(h.cls i c hc).2⟩,h.names,fun i x hx=>⟨aax _ (h.A3 i x hx).1,(h.A3 i x hx).2⟩,h.words⟩
theorem Q6{p:α→α→Bool}{l:List α}{x:α}(h:l.Pairwise fun y x=>p x y=false)(hx:l[i]?=some x):cX (p x) (l.take i) 0 <0:=by
 rw[CX]
 ·omega
 intro y hy
 obtain⟨j,hj⟩:=List.getElem?_of_mem hy
 rw[List.getElem?_take] at hj
 split at hj
 ·rename_i Ae
  exact qx h Ae hj hx
 cases hj
theorem ana{x:bK}(h:mi cs hd)(hx:cs[i]?=some x):cX (EO x) (cs.take i) 0 <0:=
 Q6 (p:=EO) (List.pairwise_map.1 h.names) hx
theorem Ot{hv:List bp}(h:dg de hv hd):hv.map (·.word)=hd.map (·.word):=by
 induction h with
 |nil=>rfl
 |cons h1 _ ih=>simp only[List.map_cons,h1.1,ih]
theorem au0{hv:List bp}{x:bp}(h:mi cs hd)(hs:dg de hv hd)(hx:hv[i]?=some x):cX (hdP x) (hv.take i) 0 <0:=
 Q6 (p:=hdP) ((List.pairwise_map.1 (Ot hs▸h.words)).imp fun h=>h.1) hx
theorem aDk{hv:List bp}{j:Nat}{x y:bp}(h:mi cs hd)(hs:dg de hv hd)(Io:j <i)(hx:hv[i]?=some x) (hy:hv[j]?=some y):strLt x.word y.word=false:=
 (qx (List.pairwise_map.1 (Ot hs▸h.words)) Io hy hx).2
theorem acp{ro:Nat→Option Obj}{nc nh:Nat}{x:bp}{y:cq}(h:iz nc nh i y)(hr:rV ro x y):
 (-1≤x.cls∧x.cls <nc)∧(-1≤x.oK∧x.oK <nh∧x.oK≠i)∧(y.eC.length≤nh∧y.eC.Pairwise (· < ·)∧∀z∈y.eC,0≤z∧z <nh∧z≠i)∧(x.oK≠ -1→x.cls= -1∧y.eC.length=0)∧(x.oK= -1→x.cls= -1→y.eC.length≠0):=by
 rw[hr.2.1,hr.2.2.1]
 exact⟨h.1,h.2.1,h.2.2.1,fun a=>⟨(h.2.2.2.1 a).1,by rw[(h.2.2.2.1 a).2];rfl⟩,fun a b c=>h.2.2.2.2 a b (List.eq_nil_of_length_eq_zero c)⟩
theorem aq8{v:Value}{ro:Nat→Option Obj}(hc:bE ro v 2 pG cs)(hT:mi cs hd)(hi:i <cs.length):dO zT 155 [v,zI (i:Int)] ro (zI 0):=by
 obtain⟨eL,AH,AG,eF,rfl,Dt,yQ,yP⟩:=hc
 have DG:=hT.nc
 refine bC au [] [] bu<|zD 8 ?_
 obtain⟨x8,hx8⟩:=zG cs i
 refine jb eF 2 yQ hx8<|jl 0 (yP _ _ hx8)<|jn fun b5=>jd 5 [0] ?_
 have iZ:=hT.cls _ _ hx8
 have hcn:cX (EO x8) (cs.take (i:Int).toNat) 0 <0:=ana hT hx8
 have htk:(cs.take (i:Int).toNat).length≤cs.length:=by rw[List.length_take];omega
 refine jd 3 [0]<|jp (vs:=[.string x8.name]) [] [] (fun aB hs hZ=>(ab7 iZ.1))<|zD 8<|jcH (hi:=(i:Int)) (show bE _ _ _ _ _ from ⟨eL,AH,AG,eF,rfl,Dt,yQ,yP⟩) (by omega) (fun v18 atB=>?_)
 obtain⟨aoC,az4,az0,aoB,rfl,az2,az3,az1⟩:=atB
 refine zD 1<|jp (vs:=[.slice aoC ((((cs).take (i:Int).toNat)).length) aoB,.func (.func 191) ⟨[]⟩ ⟨[zP b5]⟩]) [0] [(b5,.cells ⟨[.string x8.name,zI x8.under]⟩ 130 (0,0))] (fun aB hs hZ=>akg (x:=x8) ((show bE _ _ _ _ _ from ⟨aoC,az4,az0,aoB,rfl,az2,az3,az1⟩).up hs) (by first|omega| (simp only[List.length_set,List.length_append,List.length_cons,List.length_nil];omega)) hZ.head) ?_
 refine zD 2<|js 15 (decide (cX (EO x8) ((cs).take (i:Int).toNat) 0≥0)) (fun h1=>?_) (fun h1=>?_)
 ·
  exfalso;have:=of_decide_eq_true h1;omega
 refine jd 7 [0]<|ja ((cs.length:Int)-1) (by omega)<|jp (vs:=[zI x8.under,zI (-1),zI ((cs.length:Int)-1)]) [] [] (fun aB hs hZ=>jL)<|zD 3<|js 21 (!(jK x8.under (-1) ((cs.length:Int)-1))) (fun h2=>?_) (fun h2=>?_)
 ·
  try simp only[zB] at h2
  exfalso;simp only[jK,Bool.and_eq_false_iff,decide_eq_false_iff_not] at h2;omega
 try simp only[zB] at h2
 refine jd 9 [0]<|zJ 29 (x8.under≥(i:Int)) (fun h3=>?_) fun h3=>?_
 ·
  exfalso;omega
 refine zD 7<|aH q0 (zI 0) [] [] [] (Sub.refl _) ⟨_,_,rfl,rfl,rfl,rfl⟩
theorem azj{hv:List bp}{ro:Nat→Option Obj}(hR:jM ro vc vh cs hv hd)(nN:dg de hv hd)(hT:mi cs hd)(hi:i <hv.length):dO zT 156 [.agg ⟨[vc,vh]⟩,zI (i:Int)] ro (zI 0):=by
 obtain⟨hc,hh,dC⟩:=id hR
 obtain⟨eL,AH,AG,eF,rfl,Dt,yQ,yP⟩:=hc
 obtain⟨dS,vk,vi,dB,rfl,xw,q8,q7⟩:=hh
 have DG:=hT.nc
 have hnh:=hT.nh
 have hlen:=nN.len
 refine bC au [] [] bu<|zD 2<|jn fun b2=>jd 9 [0,0] ?_
 obtain⟨gi,eW⟩:=zG hv i
 refine jb dB 4 q8 eW<|jl 0 (q7 _ _ eW)<|aD 7 fun D5 Eb BG=>jn fun b6=>ba BG [1]<|zD 1<|aD 9 fun BK BR A6=>yh 0 b6 0 [.string ByteArray.empty,zI 0,zI 0,zS] [.string gi.word,zI gi.cls,zI gi.oK,gi.eC] 133 (nq dC _ (List.mem_of_getElem? eW)) rfl<|cw A6<|zD 4 ?_
 obtain⟨E0,aBD,atH⟩:=dC.get eW
 obtain⟨fS,sj,si,fe,hqe,tY,mw,nj⟩:=atH.2.2.2
 have aQa:=(hT.A3 _ _ aBD).1
 have hsh:=acp (hT.A3 _ _ aBD).2 atH
 obtain⟨cd,pe,Ih,lL,hs5⟩:=hsh
 have hwb:Ao gi.word=true:=by rw[atH.1];exact aQa
 have hcn:cX (hdP gi) (hv.take (i:Int).toNat) 0 <0:=au0 hT nN eW
 have htk:(hv.take (i:Int).toNat).length≤hv.length:=by rw[List.length_take];omega
 refine jmw 0 [.b b6 (.cells ⟨[.string gi.word,zI gi.cls,zI gi.oK,.slice fS E0.eC.length fe]⟩ 133 (0,0))] (L:=[(b6,.cells ⟨[.string gi.word,zI gi.cls,zI gi.oK,gi.eC]⟩ 133 (0,0))]) (by rw[hqe];rfl) ?_
 refine jd 3 [0]<|jp (vs:=[.string gi.word]) [] [] (fun aB hs hZ=>(ab7 hwb))<|zD 8<|jcH (hi:=(i:Int)) (show bE _ _ _ _ _ from ⟨dS,vk,vi,dB,rfl,xw,q8,q7⟩) (by omega) (fun v24 aQu=>?_)
 obtain⟨aoA,azZ,azV,aoz,rfl,azX,azY,azW⟩:=aQu
 refine zD 1<|jp (vs:=[.slice aoA ((((hv).take (i:Int).toNat)).length) aoz,.func (.func 194) ⟨[]⟩ ⟨[zP b6]⟩]) [0] [(b6,.cells ⟨[.string gi.word,zI gi.cls,zI gi.oK,.slice fS E0.eC.length fe]⟩ 133 (0,0))] (fun aB hs hZ=>aq2 (x:=gi) ((show bE _ _ _ _ _ from ⟨aoA,azZ,azV,aoz,rfl,azX,azY,azW⟩).up hs) (by first|omega| (simp only[List.length_set,List.length_append,List.length_cons,List.length_nil];omega)) (by rw[hqe];exact hZ.head)) ?_
 refine zD 2<|js 21 (decide (cX (hdP gi) ((hv).take (i:Int).toNat) 0≥0)) (fun h3=>?_) (fun h3=>?_)
 ·
  exfalso;have:=of_decide_eq_true h3;omega
 refine zD 6<|js 2 (decide ((i:Int)>0)) (fun h4=>?_) (fun h4=>?_)
 ·
  have yq:=h4
  replace yq:=of_decide_eq_true yq
  refine jd 4 [0]<|ja ((i:Int)-1) (by omega) ?_
  obtain⟨x36,y6⟩:=zG hv (((i:Int)-1).toNat)
  refine N3 ((i:Int)-1) dB 4 q8 y6 (by omega)<|zD 1<|jl 0 (q7 _ _ y6)<|zD 4<|js 27 (strLt gi.word x36.word) (fun h5=>?_) (fun h5=>?_)
  ·
   exfalso;rw[aDk hT nN (by omega) eW y6] at h5;cases h5
  refine jd 9 [0,1]<|ja ((cs.length:Int)-1) (by omega)<|jp (vs:=[zI gi.cls,zI (-1),zI ((cs.length:Int)-1)]) [] [] (fun aB hs hZ=>jL)<|zD 3<|js 41 (!(jK gi.cls (-1) ((cs.length:Int)-1))) (fun h6=>?_) (fun h6=>?_)
  ·
   try simp only[zB] at h6
   exfalso;simp only[jK,Bool.and_eq_false_iff,decide_eq_false_iff_not] at h6;omega
  try simp only[zB] at h6
  refine jd 6 [0]<|ja ((hv.length:Int)-1) (by omega)<|jp (vs:=[zI gi.oK,zI (-1),zI ((hv.length:Int)-1)]) [] [] (fun aB hs hZ=>jL)<|zD 3<|js 41 (!(jK gi.oK (-1) ((hv.length:Int)-1))) (fun h7=>?_) (fun h7=>?_)
  ·
   try simp only[zB] at h7
   exfalso;simp only[jK,Bool.and_eq_false_iff,decide_eq_false_iff_not] at h7;omega
  try simp only[zB] at h7
  refine jd 9 [0]<|zJ 57 (gi.oK=(i:Int)) (fun h8=>?_) fun h8=>?_
  ·
   exfalso;omega
  refine jd 11 [0]<|eO [1,1,1,0,1,0,0] [] (fun(zz:Nat)=>[(1,zI (i:Int)),(5,.slice dS hv.length dB),(6,zP b6),(63,.slice fS E0.eC.length fe),(64,zI (E0.eC.length:Int)),(65,zI (zz:Int))]) (fun(zz:Nat)=>[.b b6 (.cells ⟨[.string gi.word,zI gi.cls,zI gi.oK,.slice fS E0.eC.length fe]⟩ 133 (0,0))]) (fun(zz:Nat)=>zz≤E0.eC.length) (fun(zz:Nat)=>E0.eC.length-zz) 0 (by omega) [0] ?_
  rintro k hI K3 hK3 rest
  refine zD 5<|zJ 66 ((k:Int) <(E0.eC.length:Int)) (fun h9=>?_) fun h9=>?_
  ·
   refine zD 7 ?_
   obtain⟨x68,MF⟩:=zG E0.eC k
   refine jb fe 1 mw MF<|jl 0 (nj _ _ MF)<|zD 5 ?_
   have aTc:=Ih.2.2 _ (List.mem_of_getElem? MF)
   refine zD 4<|ja ((hv.length:Int)-1) (by omega)<|jp (vs:=[zI x68,zI 0,zI ((hv.length:Int)-1)]) [] [] (fun aB hs hZ=>jL)<|zD 3<|js 70 (!(jK x68 0 ((hv.length:Int)-1))) (fun Oc=>?_) (fun Oc=>?_)
   ·
    try simp only[zB] at Oc
    exfalso;simp only[jK,Bool.and_eq_false_iff,decide_eq_false_iff_not] at Oc;omega
   try simp only[zB] at Oc
   refine zD 8<|zJ 77 (x68=(i:Int)) (fun Nc=>?_) fun Nc=>?_
   ·
    exfalso;omega
   refine zD 6<|js 84 (decide ((k:Int)>0)) (fun DL=>?_) (fun DL=>?_)
   ·
    have aha:=DL
    replace aha:=of_decide_eq_true aha
    refine jd 4 [0]<|ja ((k:Int)-1) (by omega) ?_
    obtain⟨x90,TG⟩:=zG E0.eC (((k:Int)-1).toNat)
    refine N3 ((k:Int)-1) fe 1 mw TG (by omega)<|jl 0 (nj _ _ TG)<|zD 4<|zJ 81 (x68≤x90) (fun BH=>?_) fun BH=>?_
    ·
     exfalso;have:=qx Ih.2.1 (show ((k:Int)-1).toNat <k by omega) TG MF;omega
    refine zD 3<|ja ((k:Int)+1) (by omega)<|zD 2<|bF hK3 (k+1) (by omega) (by omega) [0] (Sub.refl _)
   have aha:=DL
   replace aha:=of_decide_eq_false aha
   refine zD 14<|ja ((k:Int)+1) (by omega)<|zD 2<|bF hK3 (k+1) (by omega) (by omega) [0] (Sub.refl _)
  refine jd 9 [0]<|js 98 (!decide (gi.oK=(-1))) (fun h14=>?_) (fun h14=>?_)
  ·
   have ag8:=h14
   replace ag8:=of_decide_eq_false (by simpa using ag8)
   refine jd 4 [0]<|js 102 (!decide (gi.cls=(-1))) (fun Nb=>?_) (fun Nb=>?_)
   ·
    have Hm:=Nb
    replace Hm:=of_decide_eq_false (by simpa using Hm)
    refine zD 29 ?_
    exfalso;omega
   have Hm:=Nb
   replace Hm:=of_decide_eq_true (by simpa using Hm)
   refine jd 7 [0]<|js 109 (decide ((E0.eC.length:Int)>0)) (fun Na=>?_) (fun Na=>?_)
   ·
    have Hl:=Na
    replace Hl:=of_decide_eq_true Hl
    refine zD 22 ?_
    exfalso;omega
   have Hl:=Na
   replace Hl:=of_decide_eq_false Hl
   refine jd 4 [0]<|js 113 (decide (gi.oK=(-1))) (fun h17=>?_) (fun h17=>?_)
   ·
    have wL:=h17
    replace wL:=of_decide_eq_true wL
    refine jd 5 [0]<|js 118 (decide (gi.cls=(-1))) (fun UC=>?_) (fun UC=>?_)
    ·
     have Hk:=UC
     replace Hk:=of_decide_eq_true Hk
     refine jd 7 [0]<|zJ 124 ((E0.eC.length:Int)=0) (fun XH=>?_) fun XH=>?_
     ·
      exfalso;(try simp only[Bool.or_eq_true,Bool.and_eq_true,decide_eq_true_eq,Bool.not_eq_true',decide_eq_false_iff_not] at XH);omega
     refine zD 7<|aH q0 (zI 0) [] [] [] (Sub.refl _) ⟨_,_,rfl,rfl,rfl,rfl⟩
    have Hk:=UC
    replace Hk:=of_decide_eq_false Hk
    refine zD 14<|aH q0 (zI 0) [] [] [] (Sub.refl _) ⟨_,_,rfl,rfl,rfl,rfl⟩
   have wL:=h17
   replace wL:=of_decide_eq_false wL
   refine zD 19<|aH q0 (zI 0) [] [] [] (Sub.refl _) ⟨_,_,rfl,rfl,rfl,rfl⟩
  have ag8:=h14
  replace ag8:=of_decide_eq_true (by simpa using ag8)
  refine jd 15 [0]<|js 113 (decide (gi.oK=(-1))) (fun h20=>?_) (fun h20=>?_)
  ·
   have Jd:=h20
   replace Jd:=of_decide_eq_true Jd
   refine jd 5 [0]<|js 118 (decide (gi.cls=(-1))) (fun h21=>?_) (fun h21=>?_)
   ·
    have ag5:=h21
    replace ag5:=of_decide_eq_true ag5
    refine jd 7 [0]<|zJ 124 ((E0.eC.length:Int)=0) (fun KA=>?_) fun KA=>?_
    ·
     exfalso;(try simp only[Bool.or_eq_true,Bool.and_eq_true,decide_eq_true_eq,Bool.not_eq_true',decide_eq_false_iff_not] at KA);omega
    refine zD 7<|aH q0 (zI 0) [] [] [] (Sub.refl _) ⟨_,_,rfl,rfl,rfl,rfl⟩
   have ag5:=h21
   replace ag5:=of_decide_eq_false ag5
   refine zD 14<|aH q0 (zI 0) [] [] [] (Sub.refl _) ⟨_,_,rfl,rfl,rfl,rfl⟩
  have Jd:=h20
  replace Jd:=of_decide_eq_false Jd
  refine zD 19<|aH q0 (zI 0) [] [] [] (Sub.refl _) ⟨_,_,rfl,rfl,rfl,rfl⟩
 have yq:=h4
 replace yq:=of_decide_eq_false yq
 refine jd 21 [0,1]<|ja ((cs.length:Int)-1) (by omega)<|jp (vs:=[zI gi.cls,zI (-1),zI ((cs.length:Int)-1)]) [] [] (fun aB hs hZ=>jL)<|zD 3<|js 41 (!(jK gi.cls (-1) ((cs.length:Int)-1))) (fun Fu=>?_) (fun Fu=>?_)
 ·
  try simp only[zB] at Fu
  exfalso;simp only[jK,Bool.and_eq_false_iff,decide_eq_false_iff_not] at Fu;omega
 try simp only[zB] at Fu
 refine jd 6 [0]<|ja ((hv.length:Int)-1) (by omega)<|jp (vs:=[zI gi.oK,zI (-1),zI ((hv.length:Int)-1)]) [] [] (fun aB hs hZ=>jL)<|zD 3<|js 41 (!(jK gi.oK (-1) ((hv.length:Int)-1))) (fun h24=>?_) (fun h24=>?_)
 ·
  try simp only[zB] at h24
  exfalso;simp only[jK,Bool.and_eq_false_iff,decide_eq_false_iff_not] at h24;omega
 try simp only[zB] at h24
 refine jd 9 [0]<|zJ 57 (gi.oK=(i:Int)) (fun h25=>?_) fun h25=>?_
 ·
  exfalso;omega
 refine jd 11 [0]<|eO [1,1,1,0,1,0,0] [] (fun(zz:Nat)=>[(1,zI (i:Int)),(5,.slice dS hv.length dB),(6,zP b6),(63,.slice fS E0.eC.length fe),(64,zI (E0.eC.length:Int)),(65,zI (zz:Int))]) (fun(zz:Nat)=>[.b b6 (.cells ⟨[.string gi.word,zI gi.cls,zI gi.oK,.slice fS E0.eC.length fe]⟩ 133 (0,0))]) (fun(zz:Nat)=>zz≤E0.eC.length) (fun(zz:Nat)=>E0.eC.length-zz) 0 (by omega) [0] ?_
 rintro k hI K4 hK4 rest
 refine zD 5<|zJ 66 ((k:Int) <(E0.eC.length:Int)) (fun h26=>?_) fun h26=>?_
 ·
  refine zD 7 ?_
  obtain⟨x68,MF⟩:=zG E0.eC k
  refine jb fe 1 mw MF<|jl 0 (nj _ _ MF)<|zD 5 ?_
  have aTc:=Ih.2.2 _ (List.mem_of_getElem? MF)
  refine zD 4<|ja ((hv.length:Int)-1) (by omega)<|jp (vs:=[zI x68,zI 0,zI ((hv.length:Int)-1)]) [] [] (fun aB hs hZ=>jL)<|zD 3<|js 70 (!(jK x68 0 ((hv.length:Int)-1))) (fun h27=>?_) (fun h27=>?_)
  ·
   try simp only[zB] at h27
   exfalso;simp only[jK,Bool.and_eq_false_iff,decide_eq_false_iff_not] at h27;omega
  try simp only[zB] at h27
  refine zD 8<|zJ 77 (x68=(i:Int)) (fun h28=>?_) fun h28=>?_
  ·
   exfalso;omega
  refine zD 6<|js 84 (decide ((k:Int)>0)) (fun h29=>?_) (fun h29=>?_)
  ·
   have agZ:=h29
   replace agZ:=of_decide_eq_true agZ
   refine jd 4 [0]<|ja ((k:Int)-1) (by omega) ?_
   obtain⟨x90,TG⟩:=zG E0.eC (((k:Int)-1).toNat)
   refine N3 ((k:Int)-1) fe 1 mw TG (by omega)<|jl 0 (nj _ _ TG)<|zD 4<|zJ 81 (x68≤x90) (fun h30=>?_) fun h30=>?_
   ·
    exfalso;have:=qx Ih.2.1 (show ((k:Int)-1).toNat <k by omega) TG MF;omega
   refine zD 3<|ja ((k:Int)+1) (by omega)<|zD 2<|bF hK4 (k+1) (by omega) (by omega) [0] (Sub.refl _)
  have agZ:=h29
  replace agZ:=of_decide_eq_false agZ
  refine zD 14<|ja ((k:Int)+1) (by omega)<|zD 2<|bF hK4 (k+1) (by omega) (by omega) [0] (Sub.refl _)
 refine jd 9 [0]<|js 98 (!decide (gi.oK=(-1))) (fun h31=>?_) (fun h31=>?_)
 ·
  have agW:=h31
  replace agW:=of_decide_eq_false (by simpa using agW)
  refine jd 4 [0]<|js 102 (!decide (gi.cls=(-1))) (fun h32=>?_) (fun h32=>?_)
  ·
   have agV:=h32
   replace agV:=of_decide_eq_false (by simpa using agV)
   refine zD 29 ?_
   exfalso;omega
  have agV:=h32
  replace agV:=of_decide_eq_true (by simpa using agV)
  refine jd 7 [0]<|js 109 (decide ((E0.eC.length:Int)>0)) (fun h33=>?_) (fun h33=>?_)
  ·
   have agS:=h33
   replace agS:=of_decide_eq_true agS
   refine zD 22 ?_
   exfalso;omega
  have agS:=h33
  replace agS:=of_decide_eq_false agS
  refine jd 4 [0]<|js 113 (decide (gi.oK=(-1))) (fun h34=>?_) (fun h34=>?_)
  ·
   have agR:=h34
   replace agR:=of_decide_eq_true agR
   refine jd 5 [0]<|js 118 (decide (gi.cls=(-1))) (fun h35=>?_) (fun h35=>?_)
   ·
    have agQ:=h35
    replace agQ:=of_decide_eq_true agQ
    refine jd 7 [0]<|zJ 124 ((E0.eC.length:Int)=0) (fun h36=>?_) fun h36=>?_
    ·
     exfalso;(try simp only[Bool.or_eq_true,Bool.and_eq_true,decide_eq_true_eq,Bool.not_eq_true',decide_eq_false_iff_not] at h36);omega
    refine zD 7<|aH q0 (zI 0) [] [] [] (Sub.refl _) ⟨_,_,rfl,rfl,rfl,rfl⟩
   have agQ:=h35
   replace agQ:=of_decide_eq_false agQ
   refine zD 14<|aH q0 (zI 0) [] [] [] (Sub.refl _) ⟨_,_,rfl,rfl,rfl,rfl⟩
  have agR:=h34
  replace agR:=of_decide_eq_false agR
  refine zD 19<|aH q0 (zI 0) [] [] [] (Sub.refl _) ⟨_,_,rfl,rfl,rfl,rfl⟩
 have agW:=h31
 replace agW:=of_decide_eq_true (by simpa using agW)
 refine jd 15 [0]<|js 113 (decide (gi.oK=(-1))) (fun h37=>?_) (fun h37=>?_)
 ·
  have agP:=h37
  replace agP:=of_decide_eq_true agP
  refine jd 5 [0]<|js 118 (decide (gi.cls=(-1))) (fun h38=>?_) (fun h38=>?_)
  ·
   have agO:=h38
   replace agO:=of_decide_eq_true agO
   refine jd 7 [0]<|zJ 124 ((E0.eC.length:Int)=0) (fun h39=>?_) fun h39=>?_
   ·
    exfalso;(try simp only[Bool.or_eq_true,Bool.and_eq_true,decide_eq_true_eq,Bool.not_eq_true',decide_eq_false_iff_not] at h39);omega
   refine zD 7<|aH q0 (zI 0) [] [] [] (Sub.refl _) ⟨_,_,rfl,rfl,rfl,rfl⟩
  have agO:=h38
  replace agO:=of_decide_eq_false agO
  refine zD 14<|aH q0 (zI 0) [] [] [] (Sub.refl _) ⟨_,_,rfl,rfl,rfl,rfl⟩
 have agP:=h37
 replace agP:=of_decide_eq_false agP
 refine zD 19<|aH q0 (zI 0) [] [] [] (Sub.refl _) ⟨_,_,rfl,rfl,rfl,rfl⟩
theorem VV{hv:List bp}{ro:Nat→Option Obj}(hR:jM ro vc vh cs hv hd)(nN:dg de hv hd)(hT:mi cs hd):dO zT 112 [.agg ⟨[vc,vh]⟩] ro (zI 0):=by
 obtain⟨hc,hh,dC⟩:=id hR
 obtain⟨eL,AH,AG,eF,rfl,Dt,yQ,yP⟩:=hc
 obtain⟨dS,vk,vi,dB,rfl,xw,q8,q7⟩:=hh
 have DG:=hT.nc
 have hnh:=hT.nh
 have hlen:=nN.len
 refine bC au [] [] bu<|zD 2<|jn fun b1=>jd 10 [0]<|jj 5 [(1,zP b1),(2,zI 0),(16,.bool ((decide ((cs.length:Int)>6))||(decide ((hv.length:Int)>6))))] (fun gQ=>?_) (fun hj=>?_)
 rotate_left
 refine js 11 (decide ((cs.length:Int)>6)) (fun h1=>?_) (fun h1=>?_)
 ·
  have gN:=h1
  replace gN:=of_decide_eq_true gN
  refine zD 5<|jw 16 (.bool ((decide ((cs.length:Int)>6))||(decide ((hv.length:Int)>6)))) (w:= .bool true) (by rw[h1]<;>rfl) ?_
  exact hj _ (by kernel_rfl) (by kernel_rfl)
 ·
  have gN:=h1
  replace gN:=of_decide_eq_false gN
  refine jd 5 [0]<|jw 16 (.bool ((decide ((cs.length:Int)>6))||(decide ((hv.length:Int)>6)))) (w:= .bool (decide ((hv.length:Int)>6))) (by rw[h1]<;>rfl) ?_
  exact hj _ (by kernel_rfl) (by kernel_rfl)
 refine zD 1<|js 16 ((decide ((cs.length:Int)>6))||(decide ((hv.length:Int)>6))) (fun h2=>?_) (fun h2=>?_)
 ·
  try simp only[zB] at h2
  exfalso;omega
 try simp only[zB] at h2
 refine jd 11 [0]<|eO [1,1,0,1,0,0] [] (fun(zz:Nat)=>[(1,zP b1),(19,zI (cs.length:Int)),(20,zI (zz:Int))]) (fun(zz:Nat)=>[.b b1 (.cells ⟨[.slice eL cs.length eF,.slice dS hv.length dB]⟩ 33 (0,0))]) (fun(zz:Nat)=>zz≤cs.length) (fun(zz:Nat)=>cs.length-zz) 0 (by omega) [0] ?_
 rintro k hI K1 bG rest
 refine zD 5<|zJ 21 ((k:Int) <(cs.length:Int)) (fun h3=>?_) fun h3=>?_
 ·
  refine jd 14 [0]<|jp (vs:=[.slice eL cs.length eF,zI (k:Int)]) [] [] (fun aB hs hZ=>aq8 ((show bE _ _ _ _ _ from ⟨eL,AH,AG,eF,rfl,Dt,yQ,yP⟩).up hs) hT (by omega))<|zD 10<|ja ((k:Int)+1) (by omega)<|zD 2<|bF bG (k+1) (by omega) (by omega) [0] (Sub.refl _)
 refine jd 11 [0]<|eO [1,1,1,0,1,0,0] [] (fun(zz:Nat)=>[(1,zP b1),(33,zI (hv.length:Int)),(34,zI (zz:Int))]) (fun(zz:Nat)=>[.b b1 (.cells ⟨[.slice eL cs.length eF,.slice dS hv.length dB]⟩ 33 (0,0))]) (fun(zz:Nat)=>zz≤hv.length) (fun(zz:Nat)=>hv.length-zz) 0 (by omega) [0] ?_
 rintro j hJ K2 mg rest
 refine zD 5<|zJ 35 ((j:Int) <(hv.length:Int)) (fun h4=>?_) fun h4=>?_
 ·
  refine jd 13 [0]<|jp (vs:=[.agg ⟨[.slice eL cs.length eF,.slice dS hv.length dB]⟩,zI (j:Int)]) [] [] (fun aB hs hZ=>(azj (hR.up hs) nN hT (by omega)))<|zD 10<|ja ((j:Int)+1) (by omega)<|zD 2<|bF mg (j+1) (by omega) (by omega) [0] (Sub.refl _)
 refine zD 7<|aH q0 (zI 0) [] [] [] (Sub.refl _) ⟨_,_,rfl,rfl,rfl,rfl⟩
theorem aq9{hv:List bp}{ro:Nat→Option Obj}(hR:jM ro vc vh cs hv hd)(nN:dg de hv hd)(hT:mi cs hd):dO zT 86 [.agg ⟨[vc,vh]⟩] ro (zI 0):=by
 obtain⟨hc,hh,dC⟩:=id hR
 obtain⟨eL,AH,AG,eF,rfl,Dt,yQ,yP⟩:=hc
 obtain⟨dS,vk,vi,dB,rfl,xw,q8,q7⟩:=hh
 have DG:=hT.nc
 have hnh:=hT.nh
 have hlen:=nN.len
 refine bC au [] [] bu<|zD 2<|jn fun b1=>jd 5 [0]<|jp (vs:=[.agg ⟨[.slice eL cs.length eF,.slice dS hv.length dB]⟩]) [] [] (fun aB hs hZ=>(VV (hR.up hs) nN hT))<|zD 3<|aH q0 (zI 0) [] [] [] (Sub.refl _) ⟨_,_,rfl,rfl,rfl,rfl⟩
def Jh(a b:ByteArray):Int:=bif strLt a b then-1 else bif !(strLt a b||cN a b) then 1 else 0
def Nw:List ByteArray→List ByteArray→Int
 | [],[]=>0
 | [],_::_=> -1
 |_::_,[]=>1
 |x::xs,y::ys=>if Jh x y=0 then Nw xs ys else Jh x y
theorem XY{y:ByteArray}(hx:xs[k]?=some x) (hy:ys[k]?=some y):Nw (xs.drop k) (ys.drop k)=if Jh x y=0 then Nw (xs.drop (k+1)) (ys.drop (k+1)) else Jh x y:=by rw[gE hx,gE hy];rfl
theorem ah3(hx:xs[k]?=some x) (hy:¬k <ys.length):Nw (xs.drop k) (ys.drop k)=1:=by rw[gE hx,eY hy];rfl
theorem Rg(hx:¬k <xs.length):Nw (xs.drop k) (ys.drop k)=if k <ys.length then-1 else 0:=by
 rw[eY hx]
 split
 ·rename_i h
  rw[List.drop_eq_getElem_cons h];rfl
 rename_i h
 rw[eY h];rfl
def td(s p:ByteArray):Bool:=decide (s.size≥p.size)&&cN (s.extract 0 p.size) p
structure ak where
 h:Int
 n:Int
 l:Int
abbrev cF(x:ak):List Value:=[zI x.h,zI x.n,zI x.l]
def pK(h n l:Int)(y:ak):Bool:=h==y.h&&(n==y.n&&(l==y.l&&true)&&true)
theorem aG5{a:ByteArray}{ro:Nat→Option Obj}:dO zT 265 [.string a] ro (.bool false):=by
 refine bC au [] [] bu<|zD 12<|aH q0 (.bool (!(cN a a))) [] [] [] (Sub.refl _) ⟨_,_,rfl,rfl,by rw[BS.2 rfl];rfl,rfl⟩
theorem aU4{a b:ByteArray}{ro:Nat→Option Obj}:dO zT 241 [.string a,.string b] ro (zI (Jh a b)):=by
 refine bC au [] [] bu<|zD 7<|jp (vs:=[.string a]) [] [] (fun aB hs hZ=>aG5)<|zD 5<|jp (vs:=[.string b]) [] [] (fun aB hs hZ=>aG5)<|zD 23<|js 16 (strLt a b) (fun h1=>?_) (fun h1=>?_)
 ·
  refine zD 6<|aH q0 (zI (-1)) [] [] [] (Sub.refl _) ⟨_,_,rfl,rfl,by simp_all[Jh],rfl⟩
 refine zD 9<|js 19 (!(strLt a b||cN a b)) (fun h2=>?_) (fun h2=>?_)
 ·
  try simp only[zB] at h2
  refine zD 6<|aH q0 (zI 1) [] [] [] (Sub.refl _) ⟨_,_,rfl,rfl,by simp_all[Jh],rfl⟩
 try simp only[zB] at h2
 refine zD 7<|aH q0 (zI 0) [] [] [] (Sub.refl _) ⟨_,_,rfl,rfl,by simp_all[Jh],rfl⟩
theorem aNF{v w:Value}{ro:Nat→Option Obj}(hv:bE ro v 1 p7 xs)(hw:bE ro w 1 p7 ys)(hx:xs.length≤1000)(hy:ys.length≤1000):dO zT 220 [v,w] ro (zI (Nw xs ys)):=by
 obtain⟨O9,qvb,qvo,Ee,rfl,qvk,S2,S1⟩:=hv
 obtain⟨S0,qwb,qwo,LQ,rfl,qwk,qwh,qwl⟩:=hw
 refine bC au [] [] bu<|zD 12<|eO [1,0,1,0,0] [] (fun(zz:Nat)=>[(0,.slice O9 xs.length Ee),(1,.slice S0 ys.length LQ),(9,.slice O9 xs.length Ee),(10,zI (xs.length:Int)),(11,zI (zz:Int))]) (fun(zz:Nat)=>[]) (fun(zz:Nat)=>(zz≤xs.length∧zz≤ys.length)∧Nw xs ys=Nw (xs.drop zz) (ys.drop zz)) (fun(zz:Nat)=>xs.length-zz) 0 ⟨by omega,rfl⟩ [] ?_
 rintro k hI K1 bG rest
 refine zD 5<|zJ 12 ((k:Int) <(xs.length:Int)) (fun h1=>?_) fun h1=>?_
 ·
  refine zD 7 ?_
  obtain⟨gi,eW⟩:=zG xs k
  refine jb Ee 1 S2 eW<|jl 0 (S1 _ _ eW)<|zD 11<|zJ 19 ((k:Int)≥(ys.length:Int)) (fun h2=>?_) fun h2=>?_
  ·
   refine zD 6<|aH q0 (zI 1) [] [] [] (Sub.refl _) ⟨_,_,rfl,rfl,by rw[hI.2,ah3 eW (by omega)],rfl⟩
  refine zD 6 ?_
  obtain⟨sI,uv⟩:=zG ys k
  refine jb LQ 1 qwh uv<|jl 0 (qwl _ _ uv)<|zD 6<|jp (vs:=[.string gi,.string sI]) [] [] (fun aB hs hZ=>aU4)<|zD 7<|js 28 (!decide ((Jh gi sI)=0)) (fun h3=>?_) (fun h3=>?_)
  ·
   replace h3:=of_decide_eq_false (by simpa using h3)
   refine zD 7<|aH q0 (zI (Jh gi sI)) [] [] [] (Sub.refl _) ⟨_,_,rfl,rfl,by rw[hI.2,XY eW uv,if_neg (by omega)],rfl⟩
  replace h3:=of_decide_eq_true (by simpa using h3)
  refine zD 3<|ja ((k:Int)+1) (by omega)<|zD 2<|bF bG (k+1) ⟨by omega,by rw[hI.2,XY eW uv,if_pos (by omega)]⟩ (by omega) [] (Sub.refl _)
 refine zD 11<|zJ 35 ((xs.length:Int) <(ys.length:Int)) (fun h4=>?_) fun h4=>?_
 ·
  refine zD 6<|aH q0 (zI (-1)) [] [] [] (Sub.refl _) ⟨_,_,rfl,rfl,by rw[hI.2,Rg (by omega),if_pos (by omega)],rfl⟩
 refine zD 7<|aH q0 (zI 0) [] [] [] (Sub.refl _) ⟨_,_,rfl,rfl,by rw[hI.2,Rg (by omega),if_neg (by omega)],rfl⟩
theorem aaa{a b:ByteArray}{ro:Nat→Option Obj}(hn:a.size≤1000∧b.size≤1000):dO zT 290 [.string a,.string b] ro (.bool (td a b)):=by
 refine bC au [] [] bu<|zD 12<|js 10 (decide ((a.size:Int)≥(b.size:Int))) (fun h1=>?_) (fun h1=>?_)
 ·
  have gN:=h1
  replace gN:=of_decide_eq_true gN
  refine zD 3<|jtH (b:=a) (hi:=(b.size:Int)) (by omega)<|zD 6<|aH q0 (.bool (cN (a.extract 0 (b.size:Int).toNat) b)) [] [] [] (Sub.refl _) ⟨_,_,rfl,rfl,by simp_all[td]<;>(intro;omega),rfl⟩
 have gN:=h1
 replace gN:=of_decide_eq_false gN
 refine zD 10<|aH q0 (.bool false) [] [] [] (Sub.refl _) ⟨_,_,rfl,rfl,by simp_all[td]<;>(intro;omega),rfl⟩
theorem aab{a b:ByteArray}{ro:Nat→Option Obj}(hn:a.size≤1000∧b.size≤1000):dO zT 282 [.string a,.string b] ro (.bool (td a b)):=by
 refine bC au [] [] bu<|zD 8<|jp (vs:=[.string a,.string b]) [] [] (fun aB hs hZ=>(aaa (by omega)))<|zD 3<|aH q0 (.bool (td a b)) [] [] [] (Sub.refl _) ⟨_,_,rfl,rfl,rfl,rfl⟩
theorem aer{v:Value}{ps:List ak}{h l:Int}{ro:Nat→Option Obj}(hp:bE ro v 3 cF ps)(hn:ps.length≤1000):dO zT 93 [v,.agg ⟨[zI h,zI n,zI l]⟩] ro (zI (cX (pK h n l) ps 0)):=by
 obtain⟨RJ,qpb,qpo,JQ,rfl,qpk,Zh,Zg⟩:=hp
 refine bC au [] [] bu<|zD 2<|jn fun b3=>zD 10<|eO [1,0,1,0,0] [] (fun(zz:Nat)=>[(0,.slice RJ ps.length JQ),(3,zP b3),(7,zI (ps.length:Int)),(8,zI (zz:Int))]) (fun(zz:Nat)=>[.b b3 (.cells ⟨[zI h,zI n,zI l]⟩ 144 (0,0))]) (fun(zz:Nat)=>zz≤ps.length∧cX (pK h n l) ps 0=cX (pK h n l) (ps.drop zz) zz) (fun(zz:Nat)=>ps.length-zz) 0 ⟨by omega,rfl⟩ [0] ?_
 rintro k hI K1 bG rest
 refine zD 5<|zJ 9 ((k:Int) <(ps.length:Int)) (fun h1=>?_) fun h1=>?_
 ·
  refine jd 14 [0] ?_
  obtain⟨gi,eW⟩:=zG ps k
  refine jb JQ 3 Zh eW<|jl 0 (Zg _ _ eW)<|jeq aAU (av3 h n l gi.h gi.n gi.l)<|zD 1<|js 16 (h==gi.h&&(n==gi.n&&(l==gi.l&&true)&&true)) (fun h2=>?_) (fun h2=>?_)
  ·
   refine zD 7<|aH q0 (zI (k:Int)) [] [] [] (Sub.refl _) ⟨_,_,rfl,rfl,by rw[hI.2,j9 eW,show pK h n l gi=true from (by assumption)];rfl,rfl⟩
  refine zD 3<|ja ((k:Int)+1) (by omega)<|zD 2<|bF bG (k+1) ⟨by omega,by rw[hI.2,j9 eW,show pK h n l gi=false from (by assumption)];rfl⟩ (by omega) [0] (Sub.refl _)
 refine zD 7<|aH q0 (zI (-1)) [] [] [] (Sub.refl _) ⟨_,_,rfl,rfl,by rw[hI.2,qP (by omega)],rfl⟩
theorem Kk{v:Value}{ps:List ak}{h l:Int}{ro:Nat→Option Obj}(hp:bE ro v 3 cF ps)(hn:ps.length≤1000):dO zT 67 [v,.agg ⟨[zI h,zI n,zI l]⟩] ro (.bool (decide (cX (pK h n l) ps 0≥0))):=by
 obtain⟨RJ,qpb,qpo,JQ,rfl,qpk,Zh,Zg⟩:=hp
 refine bC au [] [] bu<|zD 2<|jn fun b3=>jd 6 [0]<|jp (vs:=[.slice RJ ps.length JQ,.agg ⟨[zI h,zI n,zI l]⟩]) [] [] (fun aB hs hZ=>aer ((show bE _ _ _ _ _ from ⟨RJ,qpb,qpo,JQ,rfl,qpk,Zh,Zg⟩).up hs) (by first|omega| (simp only[List.length_set,List.length_append,List.length_cons,List.length_nil];omega))) ?_
 refine zD 4<|aH q0 (.bool (decide ((cX (pK h n l) ps 0)≥0))) [] [] [] (Sub.refl _) ⟨_,_,rfl,rfl,rfl,rfl⟩
theorem adF{v:Value}{ws:List ByteArray}{ro:Nat→Option Obj}(hv:bE ro v 1 p7 ws)(hn:ws.length≤1000)(hW:∀w∈ws,(1≤w.size∧w.size≤6)∧Script w):dO zT 196 [v] ro (zI 0):=by
 obtain⟨O9,qvb,qvo,Ee,rfl,qvk,S2,S1⟩:=hv
 refine bC au [] [] bu<|zD 12<|eO [1,0,1,0,0] [] (fun(zz:Nat)=>[(6,.slice O9 ws.length Ee),(7,zI (ws.length:Int)),(8,zI (zz:Int))]) (fun(zz:Nat)=>[]) (fun(zz:Nat)=>zz≤ws.length) (fun(zz:Nat)=>ws.length-zz) 0 (by omega) [] ?_
 rintro k hI K1 bG rest
 refine zD 5<|zJ 9 ((k:Int) <(ws.length:Int)) (fun h1=>?_) fun h1=>?_
 ·
  refine zD 6 ?_
  obtain⟨x10,su⟩:=zG ws k
  refine jb Ee 1 S2 su<|jl 0 (S1 _ _ su)<|zD 5<|jp (vs:=[.string x10]) [] [] (fun aB hs hZ=>(Tl (hW _ (List.mem_of_getElem? su)).1 (hW _ (List.mem_of_getElem? su)).2))<|zD 10<|ja ((k:Int)+1) (by omega)<|zD 2<|bF bG (k+1) (by omega) (by omega) [] (Sub.refl _)
 refine zD 7<|aH q0 (zI 0) [] [] [] (Sub.refl _) ⟨_,_,rfl,rfl,rfl,rfl⟩
def xQ(w:ByteArray):Prop:=∀b∈w.data.toList,b.toNat <128∧kindOf (b.toNat:Int)=1
def ale(w:ByteArray):Bool:=w.data.toList.all fun b=>Nat.blt b.toNat 128&&decide (kindOf (b.toNat:Int)=1)
theorem GC{w:ByteArray}(h:ale w=true):xQ w:=fun b hb=>by
 have:=List.all_eq_true.1 h b hb
 simp only[Bool.and_eq_true,Nat.blt_eq,decide_eq_true_eq] at this
 exact this
def V4(r:cM):Bool:=(Nat.ble 1 r.f.size&&Nat.ble r.f.size 2)&&(Nat.ble r.t.size 2&&(ale r.f&&(ale r.t&& !cN r.f r.t)))
theorem YY:(apM.all fun f=>toW.all fun t=>V4 ⟨f,t⟩)=true:=by kernel_rfl
structure rR(r:cM):Prop where
 f1:1≤r.f.size∧r.f.size≤2
 t1:r.t.size≤2
 fl:xQ r.f
 tl:xQ r.t
 ne:cN r.f r.t=false
theorem arj{r:cM}(h:H5 r):rR r:=by
 have:=List.all_eq_true.1 (List.all_eq_true.1 YY r.f h.1) r.t h.2
 simp only[V4,Bool.and_eq_true,Nat.ble_eq,Bool.not_eq_true'] at this
 exact⟨this.1,this.2.1,GC this.2.2.1,GC this.2.2.2.1,this.2.2.2.2⟩
theorem aAY{ro:Nat→Option Obj}:dO zT 235 [.int .i32 r] ro (.bool (!decide (kindOf r=1))):=by
 refine bC au [] [] bu<|zD 7<|jp (vs:=[.int .i32 r]) [] [] (fun aB hs hZ=>aoI)<|zD 4<|aH q0 (.bool (!decide ((kindOf r)=1))) [] [] [] (Sub.refl _) ⟨_,_,rfl,rfl,rfl,rfl⟩
theorem aNE{w:ByteArray}{ro:Nat→Option Obj}(hK:xQ w):dO zT 273 [.string w,.func (.func 235) ⟨[]⟩ ⟨[]⟩,.bool true] ro (zI (-1)):=by
 refine bC au [] [] bu<|zD 8<|jn fun r10=>zD 2<|eO [1,0,1,0,0] [] (fun(zz:Nat)=>[(1,.func (.func 235) ⟨[]⟩ ⟨[]⟩),(2,.bool true),(10,zP r10)]) (fun(zz:Nat)=>[.b r10 (.stringIter w zz)]) (fun(zz:Nat)=>zz≤w.data.toList.length) (fun(zz:Nat)=>w.data.toList.length-zz) 0 (by omega) [0] ?_
 rintro p hI K1 bG rest
 refine zD 2 ?_
 cases Z0:w.data.toList[p]? with
 |some x11=>
  refine jnA r10 0 Z0 (hK _ (List.mem_of_getElem? Z0)).1<|zD 14 ?_
  have Xp:=(hK _ (List.mem_of_getElem? Z0)).2
  refine zD 3<|jp (vs:=[.int .i32 (x11.toNat:Int)]) [] [] (fun aB hs hZ=>aAY)<|zD 1<|je (.bool ((!decide (kindOf (x11.toNat:Int)=1))==true)) rfl<|zD 1<|js 19 ((!decide (kindOf (x11.toNat:Int)=1))==true) (fun h1=>?_) (fun h1=>?_)
  ·
   exfalso;rw[Xp] at h1;cases h1
  refine zD 2<|bF bG (p+1) (by have:=(List.getElem?_eq_some_iff.1 Z0).1;omega) (by have:=(List.getElem?_eq_some_iff.1 Z0).1;omega) [0] (Sub.refl _)
 |none=>
  refine jnZ r10 0 Z0<|zD 10<|aH q0 (zI (-1)) [] [] [] (Sub.refl _) ⟨_,_,rfl,rfl,rfl,rfl⟩
theorem azy{w:ByteArray}{ro:Nat→Option Obj}(hK:xQ w):dO zT 256 [.string w,.func (.func 235) ⟨[]⟩ ⟨[]⟩] ro (zI (-1)):=by
 refine bC au [] [] bu<|zD 8<|jp (vs:=[.string w,.func (.func 235) ⟨[]⟩ ⟨[]⟩,.bool true]) [] [] (fun aB hs hZ=>(aNE hK))<|zD 3<|aH q0 (zI (-1)) [] [] [] (Sub.refl _) ⟨_,_,rfl,rfl,rfl,rfl⟩
theorem azA{w:ByteArray}{ro:Nat→Option Obj}(hK:xQ w):dO zT 234 [.string w,.func (.func 235) ⟨[]⟩ ⟨[]⟩] ro (.bool false):=by
 refine bC au [] [] bu<|zD 8<|jp (vs:=[.string w,.func (.func 235) ⟨[]⟩ ⟨[]⟩]) [] [] (fun aB hs hZ=>(azy hK))<|zD 4<|aH q0 (.bool false) [] [] [] (Sub.refl _) ⟨_,_,rfl,rfl,rfl,rfl⟩
theorem PK{w:ByteArray}{ro:Nat→Option Obj}(hK:xQ w)(hn:w.size≤1000):dO zT 216 [.string w,zI lo,zI hi] ro (.bool (decide (lo≤w.size)&&decide ((w.size:Int)≤hi))):=by
 refine bC au [] [] bu<|zD 11<|jj 5 [(0,.string w),(6,.bool false),(16,.bool ((decide (lo≤(w.size:Int)))&&(decide ((w.size:Int)≤hi))))] (fun gQ=>?_) (fun hj=>?_)
 rotate_left
 refine js 11 (decide (lo≤(w.size:Int))) (fun h1=>?_) (fun h1=>?_)
 ·
  have gN:=h1
  replace gN:=of_decide_eq_true gN
  refine zD 5<|jw 16 (.bool ((decide (lo≤(w.size:Int)))&&(decide ((w.size:Int)≤hi)))) (w:= .bool (decide ((w.size:Int)≤hi))) (by rw[h1]<;>rfl) ?_
  exact hj _ (by kernel_rfl) (by kernel_rfl)
 ·
  have gN:=h1
  replace gN:=of_decide_eq_false gN
  refine zD 5<|jw 16 (.bool ((decide (lo≤(w.size:Int)))&&(decide ((w.size:Int)≤hi)))) (w:= .bool false) (by rw[h1]<;>rfl) ?_
  exact hj _ (by kernel_rfl) (by kernel_rfl)
 refine zD 1<|jj 4 [(6,.bool false),(21,.bool (((decide (lo≤(w.size:Int)))&&(decide ((w.size:Int)≤hi)))&&true))] (fun gQ=>?_) (fun hj=>?_)
 rotate_left
 refine js 17 ((decide (lo≤(w.size:Int)))&&(decide ((w.size:Int)≤hi))) (fun h2=>?_) (fun h2=>?_)
 ·
  have lM:=h2
  try simp only[zB] at lM
  refine zD 1<|jp (vs:=[.string w,.func (.func 235) ⟨[]⟩ ⟨[]⟩]) [] [] (fun aB hs hZ=>(azA hK))<|zD 2<|jw 21 (.bool (((decide (lo≤(w.size:Int)))&&(decide ((w.size:Int)≤hi)))&&true)) (w:= .bool true) (by rw[h2]<;>rfl) ?_
  exact hj _ (by kernel_rfl) (by kernel_rfl)
 ·
  have lM:=h2
  try simp only[zB] at lM
  refine zD 4<|jw 21 (.bool (((decide (lo≤(w.size:Int)))&&(decide ((w.size:Int)≤hi)))&&true)) (w:= .bool false) (by rw[h2]<;>rfl) ?_
  exact hj _ (by kernel_rfl) (by kernel_rfl)
 refine zD 3<|aH q0 (.bool (((decide (lo≤(w.size:Int)))&&(decide ((w.size:Int)≤hi)))&&true)) [] [] [] (Sub.refl _) ⟨_,_,rfl,rfl,by simp_all,rfl⟩
theorem J5{w:ByteArray}{ro:Nat→Option Obj}(hK:xQ w)(h1:lo≤w.size)(h2:(w.size:Int)≤hi)(h3:w.size≤1000):dO zT 216 [.string w,zI lo,zI hi] ro (.bool true):=by
 have:=PK (ro:=ro) hK h3 (lo:=lo) (hi:=hi)
 rw[decide_eq_true h1,decide_eq_true h2] at this
 exact this
theorem Zw{v:Value}{ro:Nat→Option Obj}(hv:bE ro v 2 iW rs)(hn:rs.length≤4)(hR:∀r∈rs,rR r):dO zT 195 [v] ro (zI 0):=by
 obtain⟨O9,qvb,qvo,Ee,rfl,qvk,S2,S1⟩:=hv
 refine bC au [] [] bu<|zD 11<|zJ 7 ((rs.length:Int)>4) (fun h1=>?_) fun h1=>?_
 ·
  exfalso;omega
 refine zD 10<|eO [1,1,0,1,0,0] [] (fun(zz:Nat)=>[(8,.slice O9 rs.length Ee),(9,zI (rs.length:Int)),(10,zI (zz:Int))]) (fun(zz:Nat)=>[]) (fun(zz:Nat)=>zz≤rs.length) (fun(zz:Nat)=>rs.length-zz) 0 (by omega) [] ?_
 rintro k hI K1 bG rest
 refine zD 5<|zJ 11 ((k:Int) <(rs.length:Int)) (fun h2=>?_) fun h2=>?_
 ·
  refine zD 6 ?_
  obtain⟨tM,qG⟩:=zG rs k
  refine jb Ee 2 S2 qG<|jl 0 (S1 _ _ qG)<|jn fun b4=>jd 3 [0] ?_
  have hrp:=(hR _ (List.mem_of_getElem? qG))
  have hrf:=hrp.f1
  have hrt:=hrp.t1
  refine jd 3 [0]<|jp (vs:=[.string tM.f,zI 1,zI 2]) [] [] (fun aB hs hZ=>(J5 hrp.fl (by omega) (by omega) (by omega)))<|jd 4 [0]<|jp (vs:=[.string tM.t,zI 0,zI 2]) [] [] (fun aB hs hZ=>(J5 hrp.tl (by omega) (by omega) (by omega)))<|jd 10 [0,0]<|js 30 (cN tM.f tM.t) (fun h3=>?_) (fun h3=>?_)
  ·
   exfalso;rw[hrp.ne] at h3;cases h3
  refine zD 3<|ja ((k:Int)+1) (by omega)<|zD 2<|bF bG (k+1) (by omega) (by omega) [] (Sub.refl _)
 refine zD 7<|aH q0 (zI 0) [] [] [] (Sub.refl _) ⟨_,_,rfl,rfl,rfl,rfl⟩
def vq:List Int→Int
 | []=>0
 |x::xs=>xs.foldl min x
def Cn:List Int→Int
 | []=>0
 |x::xs=>xs.foldl max x
theorem asp{xs:List Int}{x:Int}(h:xs[0]?=some x):vq xs=(xs.drop 1).foldl min x:=by
 cases xs with
 |nil=>cases h
 |cons y l=>simp at h;subst h;rfl
theorem asq{xs:List Int}{x:Int}(h:xs[0]?=some x):Cn xs=(xs.drop 1).foldl max x:=by
 cases xs with
 |nil=>cases h
 |cons y l=>simp at h;subst h;rfl
def wo(l:List Int):Int:=(l.filter fun x=>decide (x>0)).length
theorem J0{l:List Int}{x:Int}(h:l[k]?=some x):wo (l.take (k+1))=wo (l.take k)+if x>0 then 1 else 0:=by
 rw[fL h,wo,List.filter_append,wo]
 by_cases hx:x>0<;>simp[hx]
structure aw where
 past:Int
 w0:Int
 w1:Int
 w2:Int
 w3:Int
 gone:Int
 new:Int
 af:Int
abbrev cR(x:aw):List Value:=[zI x.past,zI x.w0,zI x.w1,zI x.w2,zI x.w3,zI x.gone,zI x.new,zI x.af]
def dA(g n m:Int)(x:aw):Bool:=decide (x.gone≤g)&&(decide (x.new≤n)&&decide (x.af≤m))
def hasB(f i:Int):Bool:=decide (TD .u8 (aR .u8 f i) 1=1)
theorem aNC{v:Value}{xs:List Int}{ro:Nat→Option Obj}(hl:bE ro v 1 cT xs)(hn:0 <xs.length∧xs.length≤1000000):dO zT 110 [v] ro (zI (vq xs)):=by
 obtain⟨fS,sj,si,fe,rfl,tY,mw,nj⟩:=hl
 refine bC au [] [] bu<|zD 11<|zJ 7 ((xs.length:Int) <1) (fun h1=>?_) fun h1=>?_
 ·
  exfalso;omega
 refine zD 5 ?_
 obtain⟨x10,su⟩:=zG xs 0
 refine jb fe 1 mw su<|jl 0 (nj _ _ su)<|zD 8<|eO [1,1,1,0,1,0,0] [] (fun(zz:Nat×Int)=>[(0,.slice fS xs.length fe),(2,zI 0),(3,zI zz.2),(4,zI (zz.1:Int))]) (fun(zz:Nat×Int)=>[]) (fun(zz:Nat×Int)=>(1≤zz.1∧zz.1≤xs.length)∧vq xs=(xs.drop zz.1).foldl min zz.2) (fun(zz:Nat×Int)=>xs.length-zz.1) (⟨1,x10⟩) ⟨by dsimp only;omega,asp su⟩ [] ?_
 rintro⟨k,m⟩ hI K1 bG rest
 dsimp only at hI
 refine zD 8<|zJ 15 ((k:Int) <(xs.length:Int)) (fun h2=>?_) fun h2=>?_
 ·
  refine zD 8 ?_
  obtain⟨yE,qF⟩:=zG xs k
  refine jb fe 1 mw qF<|jl 0 (nj _ _ qF)<|jmn (k:= .i64) (a:=m) (b:=yE)<|zD 4<|ja ((k:Int)+1) (by omega)<|zD 2<|bF bG (⟨k+1,(min m yE)⟩) ⟨by dsimp only;omega,by rw[hI.2,gE qF];rfl⟩ (by dsimp only;omega) [] (Sub.refl _)
 refine zD 8<|aH q0 (zI m) [] [] [] (Sub.refl _) ⟨_,_,rfl,rfl,by rw[hI.2,eY (by omega)];rfl,rfl⟩
theorem aND{v:Value}{xs:List Int}{ro:Nat→Option Obj}(hl:bE ro v 1 cT xs)(hn:0 <xs.length∧xs.length≤1000000):dO zT 111 [v] ro (zI (Cn xs)):=by
 obtain⟨fS,sj,si,fe,rfl,tY,mw,nj⟩:=hl
 refine bC au [] [] bu<|zD 11<|zJ 7 ((xs.length:Int) <1) (fun h1=>?_) fun h1=>?_
 ·
  exfalso;omega
 refine zD 5 ?_
 obtain⟨x10,su⟩:=zG xs 0
 refine jb fe 1 mw su<|jl 0 (nj _ _ su)<|zD 8<|eO [1,1,1,0,1,0,0] [] (fun(zz:Nat×Int)=>[(0,.slice fS xs.length fe),(2,zI 0),(3,zI zz.2),(4,zI (zz.1:Int))]) (fun(zz:Nat×Int)=>[]) (fun(zz:Nat×Int)=>(1≤zz.1∧zz.1≤xs.length)∧Cn xs=(xs.drop zz.1).foldl max zz.2) (fun(zz:Nat×Int)=>xs.length-zz.1) (⟨1,x10⟩) ⟨by dsimp only;omega,asq su⟩ [] ?_
 rintro⟨k,m⟩ hI K1 bG rest
 dsimp only at hI
 refine zD 8<|zJ 15 ((k:Int) <(xs.length:Int)) (fun h2=>?_) fun h2=>?_
 ·
  refine zD 8 ?_
  obtain⟨yE,qF⟩:=zG xs k
  refine jb fe 1 mw qF<|jl 0 (nj _ _ qF)<|jmx (k:= .i64) (a:=m) (b:=yE)<|zD 4<|ja ((k:Int)+1) (by omega)<|zD 2<|bF bG (⟨k+1,(max m yE)⟩) ⟨by dsimp only;omega,by rw[hI.2,gE qF];rfl⟩ (by dsimp only;omega) [] (Sub.refl _)
 refine zD 8<|aH q0 (zI m) [] [] [] (Sub.refl _) ⟨_,_,rfl,rfl,by rw[hI.2,eY (by omega)];rfl,rfl⟩
theorem aoV{v:Value}{xs:List Int}{ro:Nat→Option Obj}(hl:bE ro v 1 cT xs)(hn:0 <xs.length∧xs.length≤1000000):dO zT 82 [v] ro (.agg ⟨[zI (vq xs),zI (Cn xs)]⟩):=by
 obtain⟨fS,sj,si,fe,rfl,tY,mw,nj⟩:=hl
 refine bC au [] [] bu<|zD 2<|jn fun b2=>zD 4<|jp (vs:=[.slice fS xs.length fe]) [] [] (fun aB hs hZ=>aNC ((show bE _ _ _ _ _ from ⟨fS,sj,si,fe,rfl,tY,mw,nj⟩).up hs) (by omega))<|zD 1<|jp (vs:=[.slice fS xs.length fe]) [] [] (fun aB hs hZ=>aND ((show bE _ _ _ _ _ from ⟨fS,sj,si,fe,rfl,tY,mw,nj⟩).up hs) (by omega))<|jd 4 [0]<|aH q0 (.agg ⟨[zI (vq xs),zI (Cn xs)]⟩) [0] [] [] (Sub.refl _) ⟨_,_,rfl,rfl,rfl,rfl⟩
theorem alz{x:aw}{ro:Nat→Option Obj}:dO zT 81 [.agg ⟨[zI x.past,zI x.w0,zI x.w1,zI x.w2,zI x.w3,zI x.gone,zI x.new,zI x.af]⟩] ro (.bool true):=by
 refine bC au [] [] bu<|zD 2<|jn fun b1=>zD 7<|aH q0 (.bool true) [] [] [] (Sub.refl _) ⟨_,_,rfl,rfl,rfl,rfl⟩
theorem aep{f:Nat}{x:aw}{c2 c3 c4:Value}{ro:Nat→Option Obj}(hf:ro f=some (.cells ⟨[c0,c1,c2,c3,c4,c5,c6,c7,zI gone,zI new,zI af,c11,vt]⟩ 116 (0,0))):dO zT 73 [zP f,.agg ⟨[zI x.past,zI x.w0,zI x.w1,zI x.w2,zI x.w3,zI x.gone,zI x.new,zI x.af]⟩] ro (.bool (dA gone new af x)):=by
 refine bC au [] [] bu<|zD 2<|jn fun b3=>jd 10 [0]<|jl (b:=f) (off:=0) (m:=13) (vs:=[c0,c1,c2,c3,c4,c5,c6,c7,zI gone,zI new,zI af,c11,vt]) 8 ⟨_,_,_,.inl hf,rfl⟩<|zD 2<|js 8 (decide (x.gone≤gone)) (fun h1=>?_) (fun h1=>?_)
 ·
  have gN:=h1
  replace gN:=of_decide_eq_true gN
  refine jd 6 [0]<|jl (b:=f) (off:=0) (m:=13) (vs:=[c0,c1,c2,c3,c4,c5,c6,c7,zI gone,zI new,zI af,c11,vt]) 9 ⟨_,_,_,.inl hf,rfl⟩<|zD 3<|js 18 (decide (x.new≤new)) (fun h2=>?_) (fun h2=>?_)
  ·
   have lM:=h2
   replace lM:=of_decide_eq_true lM
   refine jd 6 [0]<|jl (b:=f) (off:=0) (m:=13) (vs:=[c0,c1,c2,c3,c4,c5,c6,c7,zI gone,zI new,zI af,c11,vt]) 10 ⟨_,_,_,.inl hf,rfl⟩<|zD 5<|aH q0 (.bool (decide (x.af≤af))) [] [] [] (Sub.refl _) ⟨_,_,rfl,rfl,by simp_all[dA]<;>(intros;omega),rfl⟩
  have lM:=h2
  replace lM:=of_decide_eq_false lM
  refine zD 12<|aH q0 (.bool false) [] [] [] (Sub.refl _) ⟨_,_,rfl,rfl,by simp_all[dA]<;>(intros;omega),rfl⟩
 have gN:=h1
 replace gN:=of_decide_eq_false gN
 refine zD 22<|aH q0 (.bool false) [] [] [] (Sub.refl _) ⟨_,_,rfl,rfl,by simp_all[dA]<;>(intros;omega),rfl⟩
theorem as1{f i:Int}{ro:Nat→Option Obj}(hi:0≤i∧i≤8):dO zT 75 [.int .u8 f,zI i] ro (.bool (hasB f i)):=by
 refine bC au [] [] bu<|zD 8<|jsr (k:= .u8) (k':= .i64) (a:=f) (b:=i) 99 (by omega)<|zD 5<|aH q0 (.bool (decide ((TD .u8 (aR .u8 f i) 1)=1))) [] [] [] (Sub.refl _) ⟨_,_,rfl,rfl,rfl,rfl⟩
theorem asJ{p0 p1 p2 p3:Int}{ro:Nat→Option Obj}:dO zT 102 [.agg ⟨[zI p0,zI p1,zI p2,zI p3]⟩] ro (zI (wo [p0,p1,p2,p3])):=by
 refine bC au [] [] bu<|zD 2<|jn fun b1=>jd 13 [0]<|eO [1,1,0,1,0,0] [] (fun(zz:Nat×Int)=>[(2,zI 0),(3,zI zz.2),(6,.agg ⟨[zI p0,zI p1,zI p2,zI p3]⟩),(7,zI (zz.1:Int))]) (fun(zz:Nat×Int)=>[]) (fun(zz:Nat×Int)=>zz.1≤4∧zz.2=wo ([p0,p1,p2,p3].take zz.1)∧(0≤zz.2∧zz.2≤zz.1)) (fun(zz:Nat×Int)=>4-zz.1) (⟨0,0⟩) ⟨by omega,rfl,by omega⟩ [] ?_
 rintro⟨k,n⟩ hI K1 bG rest
 dsimp only at hI
 refine zD 5<|zJ 8 ((k:Int) <4) (fun h1=>?_) fun h1=>?_
 ·
  refine zD 6 ?_
  obtain⟨x9,hx9⟩:=zG ([p0,p1,p2,p3]:List Int) k (show k <4 from by omega)
  refine jai (l:=[zI p0,zI p1,zI p2,zI p3]) (k:Int) 4 1 false (by omega) (v:= zI x9) (show nth _ (k*1)=_ by rw[Nat.mul_one];exact aOW hx9) ?_
  refine zD 7<|zJ 11 (x9>0) (fun h2=>?_) fun h2=>?_
  ·
   refine zD 3<|ja (n+1) (by omega)<|zD 3<|ja ((k:Int)+1) (by omega)<|zD 2<|bF bG (⟨k+1,(n+1)⟩) ⟨by dsimp only;omega,by rw[J0 hx9,if_pos (by assumption),hI.2.1],by dsimp only;omega⟩ (by dsimp only;omega) [] (Sub.refl _)
  refine zD 3<|ja ((k:Int)+1) (by omega)<|zD 2<|bF bG (⟨k+1,n⟩) ⟨by dsimp only;omega,by rw[J0 hx9,if_neg (by assumption),hI.2.1,Int.add_zero],by dsimp only;omega⟩ (by dsimp only;omega) [] (Sub.refl _)
 refine zD 8<|aH q0 (zI n) [] [] [] (Sub.refl _) ⟨_,_,rfl,rfl,by rw[hI.2.1,show k=4 by omega];rfl,rfl⟩
theorem rE{xs:List α}{a:Option Addr}{o:Nat}(h:∀k,k <xs.length→a=some ⟨b,o,none⟩)(hn:a.isNone=true):xs=[]:=by
 cases xs with
 |nil=>rfl
 |cons x l=>rw[h 0 (by simp)] at hn;cases hn
theorem arf{v:Value}{ro:Nat→Option Obj}(hl:bE ro v 1 p7 xs)(hn:xs.length≤1000):eS zT 239 [v] ro [] (fun r Y=>∃L,ax r 1 9 p7 xs L∧Y=L):=by
 obtain⟨fS,sj,si,fe,rfl,tY,mw,nj⟩:=hl
 refine bC au [] [] bu<|zD 8<|jsn 127 (a:=fS) (l:=xs.length) (c:=fe)<|zD 1<|js 4 (fS.isNone) (fun h1=>?_) (fun h1=>?_)
 ·
  refine zD 6<|aH q0 (zS) [] [] [] (Sub.refl _) ⟨_,_,rfl,rfl,[],by rw[rE mw (by assumption)];exact ax.nil _ _ _,rfl⟩
 refine zD 4<|jn fun b5=>zD 1<|jE (sz:=1) (ps:=[]) (qs:=xs) (enc:=p7) (w:= .slice fS xs.length fe) [0] [] [] (bw (b:=b5) (T:=9)) (fun s he _=>⟨fS,sj,si,fe,rfl,mw,fun i p hp=>(nj i p hp).ext he⟩) (fun p _=>ai rfl) (by simp<;>omega) (fun v7 L7 iU=>?_)
 rw[List.nil_append] at iU
 obtain⟨So,Sk,QB⟩:=iU.form
 subst QB
 refine zD 3<|aH q0 ((.slice So (xs).length Sk)) [] [0] L7 (Sub.refl _) ⟨_,_,rfl,rfl,_,iU,rfl⟩
theorem aPh{f:Nat}{c2 c3 c4:Value}{ro:Nat→Option Obj}(hx:bE ro c11 3 lP fs)(hf:ro f=some (.cells ⟨[c0,c1,c2,c3,c4,c5,c6,c7,zI gone,zI new,zI af,c11,vt]⟩ 116 (0,0)))(hn:fs.length≤7):dO zT 37 [zP f] ro (.int .u8 (IntKind.u8.wrap (dJ .u8 1 (fs.length:Int)-1))):=by
 obtain⟨qxa,qxb,qxo,qxc,rfl,qxk,qxh,qxl⟩:=hx
 refine bC au [] [] bu<|zD 10<|jl (b:=f) (off:=0) (m:=13) (vs:=[c0,c1,c2,c3,c4,c5,c6,c7,zI gone,zI new,zI af,.slice qxa fs.length qxc,vt]) 11 ⟨_,_,_,.inl hf,rfl⟩<|zD 1<|jsh (k:= .u8) (k':= .i64) (a:=1) (b:=(fs.length:Int)) 99 (by omega)<|zD 4<|aH q0 (.int .u8 (IntKind.u8.wrap ((dJ .u8 1 (fs.length:Int))-1))) [] [] [] (Sub.refl _) ⟨_,_,rfl,rfl,rfl,rfl⟩
theorem yb{r:Value}{A B:Prop}(h:(r= .bool true∧A)∨(r= .bool false∧B)):∃c,r= .bool c∧(c=true→A)∧(c=false→B):=by
 rcases h with ⟨rfl,h⟩| ⟨rfl,h⟩
 ·exact⟨true,rfl,fun _=>h,nofun⟩
 exact⟨false,rfl,nofun,fun _=>h⟩
def uQ(w f t:ByteArray)(i:Nat):ByteArray:=w.extract 0 (i:Int).toNat++t++w.extract ((i:Int)+(f.size:Int)).toNat w.size
def qt(w f t:ByteArray)(i:Nat):Option ByteArray:=if td (w.extract i w.size) f=true∧1≤(uQ w f t i).size∧(uQ w f t i).size≤12 then some (uQ w f t i) else none
def vg(w f t:ByteArray)(k:Nat):List ByteArray:=(List.range k).filterMap (qt w f t)
def Ds(w f t:ByteArray):List ByteArray:=vg w f t (w.size+1)
theorem BY(w f t:ByteArray)(k:Nat):vg w f t (k+1)=vg w f t k++(qt w f t k).toList:=by
 rw[vg,vg,List.range_succ,List.filterMap_append]
 cases h:qt w f t k<;>simp[h]
theorem acD(w f t:ByteArray){n:Nat}(h:k≤n):∃l,vg w f t n=vg w f t k++l:=by
 induction n with
 |zero=>exact⟨[],by rw[show k=0 by omega];simp⟩
 |succ n ih=>
  by_cases hk:k=n+1
  ·exact⟨[],by rw[hk];simp⟩
  obtain⟨l,hl⟩:=ih (by omega)
  exact⟨l++(qt w f t n).toList,by rw[BY,hl,List.append_assoc]⟩
theorem O6{w:ByteArray}{n:Nat}(hk:k <n)(h:qt w f t k=some x):(vg w f t n)[(vg w f t k).length]?=some x∧(vg w f t (k+1)).length=(vg w f t k).length+1:=by
 obtain⟨l,hl⟩:=acD w f t (k:=k+1) (n:=n) hk
 rw[hl,BY,h]
 constructor
 ·rw[List.append_assoc,List.getElem?_append_right (Nat.le_refl _)];simp
 simp
theorem V8{w:ByteArray}(h:qt w f t k=none):(vg w f t (k+1)).length=(vg w f t k).length:=by
 rw[BY,h];simp
abbrev apQ(l:List ByteArray):(Nat→Option Obj)→Nat→List Value→Cells→Prop:=fun _ k vs LL=>∃x,l[k]?=some x∧vs=[.string x]∧LL=[]
theorem xQ.ext{w:ByteArray}(h:xQ w)(i j:Nat):xQ (w.extract i j):=by
 intro b hb
 refine h b ?_
 have:(w.extract i j).data.toList=(w.data.extract i j).toList:=by simp[ByteArray.data_extract]
 rw[this,Array.toList_extract] at hb
 simp only[List.extract_eq_drop_take] at hb
 exact List.mem_of_mem_drop (List.mem_of_mem_take hb)
theorem xQ.app{v w:ByteArray}(h:xQ v)(k:xQ w):xQ (v++w):=by
 intro b hb
 have:(v++w).data.toList=v.data.toList++w.data.toList:=by simp[ByteArray.data_append]
 rw[this] at hb
 exact(List.mem_append.1 hb).elim (h b) (k b)
theorem JG{w:ByteArray}(hw:xQ w)(ht:xQ t):xQ (uQ w f t i):=((hw.ext _ _).app ht).app (hw.ext _ _)
theorem ac2{a b:ByteArray}(h:td a b=true):b.size≤a.size:=by
 unfold td at h
 simp only[Bool.and_eq_true,decide_eq_true_eq] at h
 omega
def ad3(w:ByteArray):Bool:=decide ((1:Int)≤w.size)&&decide ((w.size:Int)≤12)
theorem SU{w:ByteArray}(h:td (w.extract (k:Int).toNat w.size) f=false):qt w f t k=none:=if_neg fun x=>by
 have h1:td (w.extract k w.size) f=false:=h
 rw[h1] at x;cases x.1
theorem Y0{w:ByteArray}(h:ad3 (uQ w f t k)=false):qt w f t k=none:=if_neg fun x=>by
 simp only[ad3,Bool.and_eq_false_iff,decide_eq_false_iff_not] at h
 omega
theorem SS{w:ByteArray}(h:td (w.extract (k:Int).toNat w.size) f=true)(h2:ad3 (uQ w f t k)=true):qt w f t k=some (uQ w f t k):=if_pos ⟨h,by
 simp only[ad3,Bool.and_eq_true,decide_eq_true_eq] at h2
 omega⟩
theorem SR{w:ByteArray}(h:w.size≤100∧f.size≤100∧t.size≤100):(uQ w f t k).size≤1000:=by
 simp only[uQ,ByteArray.size_append,ByteArray.size_extract];omega
theorem akr{w:ByteArray}(hk:k≤w.size)(h:qt w f t k=some (uQ w f t k)):(vg w f t k).length <(Ds w f t).length∧(Ds w f t)[(vg w f t k).length]?=some (uQ w f t k):=by
 have:=(O6 (n:=w.size+1) (by omega) h).1
 exact⟨(List.getElem?_eq_some_iff.1 this).1,this⟩
theorem UR(w:ByteArray)(a b:Nat):(w.extract a b).size≤w.size:=by simp;omega
theorem ahz(w:ByteArray)(i:Nat)(h:i≤w.size):(w.extract i w.size).size=w.size-i:=by simp
theorem ak3{w:ByteArray}{ro:Nat→Option Obj}(g1:ro b1=some (.cells ⟨[.string w]⟩ 291 (0,0)))(g2:ro b2=some (.cells ⟨[.string f]⟩ 9 (0,0)))(g3:ro b3=some (.cells ⟨[.string t]⟩ 9 (0,0)))(hw:xQ w)(ht:xQ t)(hn:w.size≤100∧f.size≤100∧t.size≤100):ItX zT 281 [] [zP b1,zP b2,zP b3] ro [] (Ds w f t).length (apQ (Ds w f t)) (fun Z=>Z=[]):=by
 intro bl aB Inv Stop hs hy B hB
 replace g1:=hs _ _ g1
 replace g2:=hs _ _ g2
 replace g3:=hs _ _ g3
 refine bC au [.l B] [] bu<|zD 2<|jl (b:=b1) (off:=0) (m:=1) (vs:=[.string w]) 0 ⟨_,_,_,.inl g1,rfl⟩<|zD 1<|ja ((w.size:Int)+1) (by omega)<|zD 3<|eO [1,0,0] [] (fun(zz:Nat×Cells)=>[(0,(.func (.yield bl) #[] #[])),(1,zP b1),(2,zP b2),(3,zP b3),(9,zI ((w.size:Int)+1)),(10,zI (zz.1:Int))]) (fun(zz:Nat×Cells)=>[.l zz.2]) (fun(zz:Nat×Cells)=>zz.1≤w.size+1∧Inv (vg w f t zz.1).length zz.2) (fun(zz:Nat×Cells)=>w.size+1-zz.1) (⟨0,B⟩) ⟨by dsimp only;omega,hB⟩ [0] ?_
 rintro⟨k,B⟩ hI K1 bG rest
 dsimp only at hI
 refine zD 5<|zJ 11 ((k:Int) <((w.size:Int)+1)) (fun h1=>?_) fun h1=>?_
 ·
  refine zD 11 ?_
  have vK:=UR w (k:Int).toNat w.size
  refine zD 1<|jl (b:=b1) (off:=0) (m:=1) (vs:=[.string w]) 0 ⟨_,_,_,.inl g1,rfl⟩<|zD 1<|jtL (b:=w) (lo:=(k:Int)) (by omega)<|jl (b:=b2) (off:=0) (m:=1) (vs:=[.string f]) 0 ⟨_,_,_,.inl g2,rfl⟩<|jp (vs:=[.string (w.extract (k:Int).toNat w.size),.string f]) [] [] (fun aB hs hZ=>(aab (by omega)))<|zD 2<|js 18 (!(td (w.extract (k:Int).toNat w.size) f)) (fun h2=>?_) (fun h2=>?_)
  ·
   try simp only[zB] at h2
   refine zD 3<|ja ((k:Int)+1) (by omega)<|zD 2<|bF bG (⟨k+1,B⟩) ⟨by dsimp only;omega,by dsimp only;rw[V8 (SU (by assumption))];exact hI.2⟩ (by dsimp only;omega) [0] (Sub.refl _)
  try simp only[zB] at h2
  refine zD 3 ?_
  have Ir:=UR w 0 (k:Int).toNat
  have he3:=UR w ((k:Int)+(f.size:Int)).toNat w.size
  have he4:(w.extract 0 (k:Int).toNat++t).size=_:=ByteArray.size_append
  have hpr:td (w.extract (k:Int).toNat w.size) f=true:=by assumption
  have Qj:=ac2 hpr
  rw[ahz _ _ (by omega)] at Qj
  refine zD 1<|jl (b:=b1) (off:=0) (m:=1) (vs:=[.string w]) 0 ⟨_,_,_,.inl g1,rfl⟩<|zD 1<|jtH (b:=w) (hi:=(k:Int)) (by omega)<|jl (b:=b3) (off:=0) (m:=1) (vs:=[.string t]) 0 ⟨_,_,_,.inl g3,rfl⟩<|jsa (a:=(w.extract 0 (k:Int).toNat)) (b:=t) 291 (by omega)<|jl (b:=b1) (off:=0) (m:=1) (vs:=[.string w]) 0 ⟨_,_,_,.inl g1,rfl⟩<|zD 1<|jl (b:=b2) (off:=0) (m:=1) (vs:=[.string f]) 0 ⟨_,_,_,.inl g2,rfl⟩<|zD 1<|ja ((k:Int)+(f.size:Int)) (by omega)<|jtL (b:=w) (lo:=((k:Int)+(f.size:Int))) (by omega)<|jsa (a:=((w.extract 0 (k:Int).toNat)++t)) (b:=(w.extract ((k:Int)+(f.size:Int)).toNat w.size)) 291 (by omega)<|zD 5<|jp (vs:=[.string (((w.extract 0 (k:Int).toNat)++t)++(w.extract ((k:Int)+(f.size:Int)).toNat w.size)),zI 1,zI 12]) [] [] (fun aB hs hZ=>(PK (JG (i:=k) hw ht) (SR hn)))<|zD 1<|js 33 (ad3 (uQ w f t k)) (fun h3=>?_) (fun h3=>?_)
  ·
   have hry:=SS (t:=t) hpr (by assumption)
   have RP:=akr (by omega) hry
   refine zD 2<|jyc [0] (hy (vg w f t k).length _ [] B aB RP.1 ⟨_,RP.2,rfl,rfl⟩ hI.2 (Sub.refl _)) (Sub.refl _) ?_
   intro v4 Y4 hy4
   obtain⟨c4,rfl,hc4,hd4⟩:=yb hy4
   refine zD 3<|js 38 (!c4) (fun h5=>?_) (fun h5=>?_)
   ·
    try simp only[zB] at h5
    refine zD 2<|aH q0 (.tuple ⟨[]⟩) [] [0] Y4 (Sub.refl _) ⟨_,_,rfl,rfl,[],Y4,rfl,rfl,.inr (hd4 (by simp_all))⟩
   try simp only[zB] at h5
   refine zD 3<|ja ((k:Int)+1) (by omega)<|zD 2<|bF bG (⟨k+1,Y4⟩) ⟨by dsimp only;omega,by dsimp only;rw[(O6 (n:=k+1) (by omega) hry).2];exact hc4 (by assumption)⟩ (by dsimp only;omega) [0] (Sub.refl _)
  refine zD 9<|ja ((k:Int)+1) (by omega)<|zD 2<|bF bG (⟨k+1,B⟩) ⟨by dsimp only;omega,by dsimp only;rw[V8 (Y0 (by assumption))];exact hI.2⟩ (by dsimp only;omega) [0] (Sub.refl _)
 refine zD 2<|aH q0 (.tuple ⟨[]⟩) [] [0] B (Sub.refl _) ⟨_,_,rfl,rfl,[],B,rfl,rfl,.inl (by have:=hI.2;rwa[show k=w.size+1 by omega] at this)⟩
def qz(rs:List cM):List (ByteArray×ByteArray):=rs.flatMap fun r=>[(r.f,r.t),(r.t,r.f)]
abbrev eP2(x:ByteArray×ByteArray):List Value:=[.string x.1,.string x.2]
def j5(w:ByteArray)(ps:List (ByteArray×ByteArray)):List ByteArray:=ps.flatMap fun p=>Ds w p.1 p.2
def sR(w:ByteArray)(rs:List cM):List ByteArray:=j5 w (qz rs)
theorem J2:∀(rs:List cM),(qz rs).length=2*rs.length
 | []=>rfl
 |r::rs=>by have:=J2 rs;simp only[qz,List.flatMap_cons,List.length_append,List.length_cons,List.length_nil] at this ⊢;omega
theorem Pr:∀ {rs:List cM} {k q:Nat} {r:cM} {p:ByteArray×ByteArray},rs[k]?=some r→[(r.f,r.t),(r.t,r.f)][q]?=some p→(qz rs)[2*k+q]?=some p
 | [],_,_,_,_,h,_=>by simp at h
 |r::rs,0,q,_,p,h,h2=>by
  simp only[List.getElem?_cons_zero,Option.some.injEq] at h;subst h
  simp only[qz,List.flatMap_cons,Nat.mul_zero,Nat.zero_add]
  rw[List.getElem?_append_left (by have:=(List.getElem?_eq_some_iff.1 h2).1;exact this)];exact h2
 |r::rs,k+1,q,_,p,h,h2=>by
  have:=Pr (rs:=rs) (k:=k) (by simpa using h) h2
  simp only[qz,List.flatMap_cons]
  rw[List.getElem?_append_right (by simp;omega)]
  rw[show 2*(k+1)+q- [(r.f,r.t),(r.t,r.f)].length=2*k+q by simp;omega];exact this
theorem FL{w:ByteArray}{ps:List (ByteArray×ByteArray)}(h:ps[k]?=some p):j5 w (ps.take (k+1))=j5 w (ps.take k)++Ds w p.1 p.2:=by
 rw[j5,fL h,List.flatMap_append];simp[j5]
theorem aka{w:ByteArray}{ps:List (ByteArray×ByteArray)}{j:Nat}(h:ps[k]?=some p) (hx:(Ds w p.1 p.2)[j]?=some x):(j5 w (ps.take k)).length+j <(j5 w ps).length∧(j5 w ps)[(j5 w (ps.take k)).length+j]?=some x:=by
 have e:j5 w ps=j5 w (ps.take (k+1))++j5 w (ps.drop (k+1)):=by rw[j5,j5,j5,←List.flatMap_append,List.take_append_drop]
 have hj:=(List.getElem?_eq_some_iff.1 hx).1
 have:(j5 w ps)[(j5 w (ps.take k)).length+j]?=some x:=by
  rw[e,FL h,List.append_assoc,List.getElem?_append_right (by omega),List.getElem?_append_left (by omega),show (j5 w (ps.take k)).length+j-(j5 w (ps.take k)).length=j by omega]
  exact hx
 exact⟨(List.getElem?_eq_some_iff.1 this).1,this⟩
theorem akL{r:cM}{q:Nat}(h:rR r)(hp: [(r.f,r.t),(r.t,r.f)][q]?=some p):xQ p.2∧(p.1.size≤100∧p.2.size≤100):=by
 have:=List.mem_of_getElem? hp
 have h1:=h.f1;have h2:=h.t1
 simp only[List.mem_cons,List.not_mem_nil,or_false] at this
 rcases this with rfl|rfl
 ·exact⟨h.tl,by dsimp only;omega,by dsimp only;omega⟩
 exact⟨h.fl,by dsimp only;omega,by dsimp only;omega⟩
theorem Zx{w:ByteArray}{ro:Nat→Option Obj}:eS zT 264 [.string w,.string f,.string t] ro [] (fun r Y=>∃b3 b4 b5,r= .func (.func 281) ⟨[]⟩ ⟨[zP b3,zP b4,zP b5]⟩∧Y=[(b3,.cells ⟨[.string w]⟩ 291 (0,0)),(b4,.cells ⟨[.string f]⟩ 9 (0,0)),(b5,.cells ⟨[.string t]⟩ 9 (0,0))]):=by
 refine bC au [] [] bu<|zD 2<|jn fun b3=>jn fun b4=>jn fun b5=>zD 8<|aH q0 (.func (.func 281) ⟨[]⟩ ⟨[zP b3,zP b4,zP b5]⟩) [] [2,1,0] ((b3,.cells ⟨[.string w]⟩ 291 (0,0))::((b4,.cells ⟨[.string f]⟩ 9 (0,0))::[(b5,.cells ⟨[.string t]⟩ 9 (0,0))])) (Sub.refl _) ⟨_,_,rfl,rfl,_,_,_,rfl,rfl⟩
theorem asi{w:ByteArray}{ro:Nat→Option Obj}(hl:bE ro vl 2 iW rs):eS zT 240 [.string w,vl] ro [] (fun r Y=>∃b2 b3,r= .func (.func 263) ⟨[]⟩ ⟨[zP b3,zP b2]⟩∧Y=[(b2,.cells ⟨[.string w]⟩ 291 (0,0)),(b3,.cells ⟨[vl]⟩ 34 (0,0))]):=by
 obtain⟨fS,sj,si,fe,rfl,tY,mw,nj⟩:=hl
 refine bC au [] [] bu<|zD 2<|jn fun b2=>jn fun b3=>zD 8<|aH q0 (.func (.func 263) ⟨[]⟩ ⟨[zP b3,zP b2]⟩) [] [1,0] ((b2,.cells ⟨[.string w]⟩ 291 (0,0))::[(b3,.cells ⟨[.slice fS rs.length fe]⟩ 34 (0,0))]) (Sub.refl _) ⟨_,_,rfl,rfl,_,_,rfl,rfl⟩
theorem ak2{w:ByteArray}{ro:Nat→Option Obj}(g1:ro b1=some (.cells ⟨[vl]⟩ 34 (0,0)))(hl:bE ro vl 2 iW rs)(hR:∀r∈rs,rR r)(g2:ro b2=some (.cells ⟨[.string w]⟩ 291 (0,0)))(hw:xQ w)(hn:w.size≤100)(hq:rs.length≤100):ItX zT 263 [] [zP b1,zP b2] ro [] (sR w rs).length (apQ (sR w rs)) (fun Z=>Z=[]):=by
 intro bl aB Inv Stop hs hy B hB
 replace g1:=hs _ _ g1
 replace g2:=hs _ _ g2
 replace hl:=hl.up hs
 obtain⟨fS,sj,si,fe,rfl,tY,mw,nj⟩:=hl
 refine alF au [.l B] [] bu<|zD 2<|jn fun b3=>jf [0] [(b3,.cells ⟨[(.func (.yield bl) #[] #[])]⟩ 358 (0,0))] fun BE cd jW=>zD 3<|jl (b:=b1) (off:=0) (m:=1) (vs:=[.slice fS rs.length fe]) 0 ⟨_,_,_,.inl (cd _ _ g1),rfl⟩<|zD 4<|py<|aBt [1,1,0,0] [] (fun(zz:Nat×(List Nat)×Cells)=>[(2,zP b2),(3,zP b3),(9,.slice fS rs.length fe),(10,zI (rs.length:Int)),(11,zI (zz.1:Int))]) (fun(zz:Nat×(List Nat)×Cells)=>[.l (mk zz.2.1),.l zz.2.2]) (fun(zz:Nat×(List Nat)×Cells)=>(zz.2.1.map eG)) (fun(zz:Nat×(List Nat)×Cells)=>zz.1≤rs.length∧Inv (j5 w ((qz rs).take (2*zz.1))).length zz.2.2) (fun(zz:Nat×(List Nat)×Cells)=>rs.length-zz.1) (⟨0,[],B⟩) ⟨by dsimp only;omega,hB⟩ [0,1] ?_
 rintro⟨k,uI,B⟩ hI K1 bG rest
 dsimp only at hI
 refine zD 5<|zJ 12 ((k:Int) <(rs.length:Int)) (fun h4=>?_) fun h4=>?_
 ·
  refine zD 6 ?_
  obtain⟨x13,alV⟩:=zG rs k
  refine jb fe 2 mw alV<|jl 0 ((nj _ _ alV).ext (uB cd))<|jn fun b5=>jd 14 [0,0,0,0,0]<|jn fun eg=>zD 4<|aBt [1,1,0,0,1,1,0,0,1,1,0,0] [K1] (fun(zz:Nat×(List Nat)×Cells)=>[(2,zP b2),(3,zP b3),(9,.slice fS rs.length fe),(10,zI (rs.length:Int)),(11,zI (k:Int)),(25,.slice (some ⟨eg,0,none⟩) 2 2),(26,zI 2),(27,zI (zz.1:Int))]) (fun(zz:Nat×(List Nat)×Cells)=>[.l (mk zz.2.1),.l zz.2.2,.b eg (.cells ⟨[.string x13.f,.string x13.t,.string x13.t,.string x13.f]⟩ 359 (0,0))]) (fun(zz:Nat×(List Nat)×Cells)=>(zz.2.1.map eG)) (fun(zz:Nat×(List Nat)×Cells)=>zz.1≤2∧Inv (j5 w ((qz rs).take (2*k+zz.1))).length zz.2.2) (fun(zz:Nat×(List Nat)×Cells)=>2-zz.1) (⟨0,uI,B⟩) ⟨by dsimp only;omega,hI.2⟩ [2,3,0] ?_
  rintro⟨q,uI,B⟩ hJ K2 mg rest
  dsimp only at hJ
  refine zD 5<|zJ 28 ((q:Int) <2) (fun h5=>?_) fun h5=>?_
  ·
   refine zD 6 ?_
   obtain⟨D6,AX⟩:=zG ([(x13.f,x13.t),(x13.t,x13.f)]:List _) q (show q <2 from by omega)
   refine jb (a:=(some ⟨eg,0,none⟩)) (b:=eg) (off:=0) 2 2 (fun _ _=>rfl) AX<|px (m:=2) 0 [2] [(eg,.cells ⟨([(x13.f,x13.t),(x13.t,x13.f)].map eP2).flatten⟩ 359 (0,0))] (fun s _ hZ=>xv (hZ _ (.head _)) (by intro p hp;rfl) AX) ?_
   refine jn fun b7=>jd 3 [0] ?_
   have hpx:=Pr alV AX
   have hpk:=akL (hR _ (List.mem_of_getElem? alV)) AX
   refine zD 1<|jl (b:=b2) (off:=0) (m:=1) (vs:=[.string w]) 0 ⟨_,_,_,.inl (cd _ _ g2),rfl⟩<|jd 4 [0,0]<|jc (vs:=[.string w,.string D6.1,.string D6.2]) [] (Zx) ?_
   rintro _ _ ⟨aoM,aoL,aoK,rfl,rfl⟩
   refine jg 0 [.b aoM (.cells ⟨[.string w]⟩ 291 (0,0)),.b aoL (.cells ⟨[.string D6.1]⟩ 9 (0,0)),.b aoK (.cells ⟨[.string D6.2]⟩ 9 (0,0))]<|jf [0,1,2] ((aoM,.cells ⟨[.string w]⟩ 291 (0,0))::((aoL,.cells ⟨[.string D6.1]⟩ 9 (0,0))::[(aoK,.cells ⟨[.string D6.2]⟩ 9 (0,0))])) fun ro8 y7 hk7=>zD 2<|jrf [] (ak3 (hk7 _ (.head _)) (hk7 _ (.tail _ (.head _))) (hk7 _ (.tail _ (.tail _ (.head _)))) hw hpk.1 ⟨hn,hpk.2⟩) (by rintro _ _ _ _ ⟨_,_,rfl,_⟩;rfl) (fun(zz:Cells)=>[.l zz]) (fun kk=>(fun(zz:Cells)=>Inv ((j5 w ((qz rs).take (2*k+q))).length+kk) zz)) (fun jump=>(fun(zz:Cells)=>jump= .ret∧Stop zz)) B (show Inv (_+0) _ from hJ.2) [2] ?_ ?_ ?_
   ·
    rintro bl9 bd9 kk9 vs9 LL9 B ro9 hk9 auH hL hs9
    obtain⟨x9,hx9,rfl,rfl⟩:=auH
    have hu:=aka hpx hx9
    refine zD 3<|jbg<|zD 3<|jl (b:=b3) (off:=0) (m:=1) (vs:=[(.func (.yield bl) #[] #[])]) 0 ⟨_,_,_,.inl (hs9 _ _ (y7 _ _ (jW _ (.head _)))),rfl⟩<|zD 1<|jyc [1] (hy ((j5 w ((qz rs).take (2*k+q))).length+kk9) _ [] B ro9 hu.1 ⟨_,hu.2,rfl,rfl⟩ hL ((cd.trans y7).trans hs9)) (Sub.refl _) ?_
    intro v10 Y10 aPX
    obtain⟨c10,rfl,au8,au2⟩:=yb aPX
    refine zD 2<|js 41 (!c10) (fun Nc=>?_) (fun Nc=>?_)
    ·
     try simp only[zB] at Nc
     refine zD 2<|jys Zf (Sub.refl _) .ret Y10 ⟨rfl,au2 (by simp_all)⟩ [1,0]
    try simp only[zB] at Nc
    refine zD 2<|jyn Zf (Sub.refl _) Y10 (au8 (by simp_all)) [1,0]
   ·
    rintro bd9 B Z9 hL hZ9
    subst hZ9
    refine zD 1<|ja ((q:Int)+1) (by omega)<|zD 2<|jnD mg (⟨q+1,(bd9::uI),B⟩) ⟨by dsimp only;omega,by dsimp only;rw[←Nat.add_assoc,FL hpx,List.length_append];exact hL⟩ (by dsimp only;omega) [[0,4],[2],[5]] y7
   rintro bd9 B Z9 jump hS hZ9
   obtain⟨rfl,hS⟩:=hS
   subst hZ9
   exact jrM qm0.a.w.w.a.m (.tuple ⟨[]⟩) [0,4] [] [1] B (cd.trans y7) ⟨[],B,rfl,rfl,.inr hS⟩
  refine zD 3<|ja ((k:Int)+1) (by omega)<|zD 2<|jnD bG (⟨k+1,uI,B⟩) ⟨by dsimp only;omega,by have:=hJ.2;dsimp only;rwa[show 2*(k+1)=2*k+q by omega]⟩ (by dsimp only;omega) [[0],[1]] (Sub.refl _)
 refine zD 2<|jrM qm0.a.w (.tuple ⟨[]⟩) [0] [] [0] B cd ⟨[],B,rfl,rfl,.inl (by have:=hI.2;rwa[show k=rs.length by omega,List.take_of_length_le (by rw[J2];exact Nat.le_refl _)] at this)⟩
instance:LawfulBEq ByteArray where
 eq_of_beq:=fun h=>by rw[NI] at h;exact of_decide_eq_true h
 rfl:=fun {a}=>by rw[NI];exact decide_eq_true rfl
def dd(l:List ByteArray):List ByteArray:=l.foldl (fun a x=>if x∈a then a else a++[x]) []
theorem Nt(l:List ByteArray)(x:ByteArray):dd (l++[x])=if x∈dd l then dd l else dd l++[x]:=by rw[dd,List.foldl_append];rfl
theorem awa(a:List ByteArray):∀b:List ByteArray,∃r,dd (a++b)=dd a++r:=by
 intro b
 induction b generalizing a with
 |nil=>exact⟨[],by simp⟩
 |cons x b ih=>
  obtain⟨r,hr⟩:=ih (a++[x])
  rw[show a++x::b=(a++[x])++b by simp,hr,Nt]
  split
  ·exact⟨r,rfl⟩
  exact⟨x::r,by simp⟩
abbrev kvS:ByteArray→Value:=fun a=> .string a
def mF(m:List ByteArray):List (ByteArray×Value):=m.map fun x=>(x,.bool true)
theorem UJ(k:ByteArray):∀(m:List ByteArray) (i:Nat),(sM k (mF m) i).map (·.2)=if k∈m then some (.bool true) else none
 | [],_=>rfl
 |x::m,i=>by
  simp only[mF,List.map_cons,sM]
  by_cases h:k=x
  ·simp[h]
  have:=UJ k m (i+1)
  simp only[mF] at this
  simp[h,this]
theorem aA6{k:ByteArray}{m:List ByteArray}:PX (.bool false) false k (mF m)= .bool (decide (k∈m)):=by
 simp only[PX,lkM,UJ]
 by_cases h:k∈m<;>simp[h]
theorem aqP{k:ByteArray}{m:List ByteArray}(h:decide (k∈m)=false):mV k (.bool true) (mF m)=mF (m++[k]):=by
 have h:=of_decide_eq_false h
 have:=UJ k m 0
 rw[if_neg h] at this
 simp only[mV]
 cases hf:sM k (mF m) 0 with
 |none=>simp[mF]
 |some x=>rw[hf] at this;cases this
theorem ahX{l:List ByteArray}(hx:l[k]?=some x) (h:decide (x∈dd (l.take k))=true):dd (l.take (k+1))=dd (l.take k):=by
 rw[fL hx,Nt,if_pos (of_decide_eq_true h)]
theorem U0{l:List ByteArray}(hx:l[k]?=some x) (h:decide (x∈dd (l.take k))=false):dd (l.take (k+1))=dd (l.take k)++[x]:=by
 rw[fL hx,Nt,if_neg (of_decide_eq_false h)]
theorem awb{l:List ByteArray}(hx:l[k]?=some x) (h:decide (x∈dd (l.take k))=false):∃r,dd l=dd (l.take k)++[x]++r:=by
 obtain⟨r,hr⟩:=awa (l.take (k+1)) (l.drop (k+1))
 rw[List.take_append_drop,U0 hx h] at hr
 exact⟨r,hr⟩
def Oe(rs:List cM)(to:ByteArray):Nat→ByteArray→List ByteArray→List (List ByteArray)
 |0,w,b=>if cN w to=true then [b++[w]] else []
 |n+1,w,b=>(dd (sR w rs)).flatMap fun s=>Oe rs to n s (b++[w])
theorem NA{to:ByteArray}:∀ {n:Nat} {w:ByteArray} {b x:List ByteArray},x∈Oe rs to n w b→x.length=b.length+n+1
 |0,w,b,x,h=>by
  simp only[Oe] at h
  split at h
  ·rw[List.mem_singleton] at h;subst h;simp
  cases h
 |n+1,w,b,x,h=>by
  simp only[Oe,List.mem_flatMap] at h
  obtain⟨s,_,h2⟩:=h
  have:=NA h2
  simp at this;omega
theorem aj9{w:ByteArray}(hR:∀r∈rs,rR r)(hw:xQ w)(h:x∈sR w rs):xQ x∧x.size≤12:=by
 simp only[sR,j5,qz,List.mem_flatMap,Ds,vg,List.mem_filterMap,List.mem_range] at h
 obtain⟨p,⟨r,hr,hp⟩,i,_,hi⟩:=h
 have ht:xQ p.2:=by
  simp only[List.mem_cons,List.not_mem_nil,or_false] at hp
  rcases hp with rfl|rfl
  ·exact(hR r hr).tl
  exact(hR r hr).fl
 simp only[qt] at hi
 split at hi
 ·rename_i hc
  cases hi
  exact⟨JG hw ht,hc.2.2⟩
 cases hi
abbrev am0(L:List (List ByteArray)):(Nat→Option Obj)→Nat→List Value→Cells→Prop:=fun _ k vs LL=>∃x v,L[k]?=some x∧vs=[v]∧ax v 1 9 p7 x LL
structure aiP(ro:Nat→Option Obj)(bl:Nat)(rs:List cM)(to:ByteArray)(many bm bt bx br bg:Nat)(vl:Value):Prop where
 m:ro bm=some (.cells ⟨[zI (many:Int)]⟩ 3 (0,0))
 t:ro bt=some (.cells ⟨[.string to]⟩ 291 (0,0))
 y:ro bx=some (.cells ⟨[.func (.yield bl) #[] #[]]⟩ 325 (0,0))
 r:ro br=some (.cells ⟨[vl]⟩ 34 (0,0))
 g:ro bg=some (.cells ⟨[.func (.func 238) ⟨[]⟩ ⟨[zP bm,zP bt,zP bx,zP br,zP bg]⟩]⟩ 326 (0,0))
 l:bE ro vl 2 iW rs
theorem aiP.up{ro aF:Nat→Option Obj}{to:ByteArray}(h:aiP ro bl rs to many bm bt bx br bg vl)(hs:Sub ro aF):aiP aF bl rs to many bm bt bx br bg vl:=
 ⟨hs _ _ h.m,hs _ _ h.t,hs _ _ h.y,hs _ _ h.r,hs _ _ h.g,h.l.up hs⟩
def aqh(bl:Nat)(rs:List cM)(to:ByteArray)(many bm bt bx br bg:Nat)(vl:Value)(L:List (List ByteArray))(Inv:Nat→Cells→Prop)(Stop:Cells→Prop)(n:Nat):Prop:=
 ∀(ro:Nat→Option Obj) (w:ByteArray) (b:List ByteArray) (v:Value) (p:Nat) (B:Cells),aiP ro bl rs to many bm bt bx br bg vl→bE ro v 1 p7 b→b.length+n=many→xQ w→w.size≤100→Part L p (Oe rs to n w b)→Inv p B→YOK zT bl ro L.length (am0 L) Inv Stop→
  eS zT 238 [.string w,v,zP bm,zP bt,zP bx,zP br,zP bg] ro B (fun r Y=>∃c,r= .bool c∧(c=true→Inv (p+(Oe rs to n w b).length) Y)∧(c=false→Stop Y))
theorem asl{n:Nat}{w:ByteArray}{b:List ByteArray}{v:Value}{p:Nat}{B:Cells}{to:ByteArray}{L:List (List ByteArray)}{Inv:Nat→Cells→Prop}{ro:Nat→Option Obj}(ih:∀m,m <n→aqh bl rs to many bm bt bx br bg vl L Inv Stop m)(hR:∀r∈rs,rR r)(hq:rs.length≤100)(Xn:many≤100)(QE:aiP ro bl rs to many bm bt bx br bg vl)(hb:bE ro v 1 p7 b)(hbn:b.length+n=many)(hw:xQ w)(sw:w.size≤100)(hP:Part L p (Oe rs to n w b))(hB:Inv p B)(hy:YOK zT bl ro L.length (am0 L) Inv Stop):eS zT 238 [.string w,v,zP bm,zP bt,zP bx,zP br,zP bg] ro B (fun r Y=>∃c,r= .bool c∧(c=true→Inv (p+(Oe rs to n w b).length) Y)∧(c=false→Stop Y)):=by
 obtain⟨gm,gt,gy,gl,gg,hl⟩:=id QE
 obtain⟨fS,sj,si,fe,rfl,tY,mw,nj⟩:=hl
 obtain⟨az8,aNX,aNT,az7,rfl,aNV,aNW,aNU⟩:=hb
 refine alF au [.l B] [] bu<|zD 2<|jn fun b9=>zD 4<|jc (vs:=[.slice az8 b.length az7]) [] (arf (show bE _ _ _ _ _ from ⟨az8,aNX,aNT,az7,rfl,aNV,aNW,aNU⟩) (by first|omega| (simp only[List.length_set,List.length_append,List.length_cons,List.length_nil];omega))) ?_
 rintro v14 L14 ⟨_,T1,rfl⟩
 refine zD 1<|jn fun b16=>jE (sz:=1) (ps:=b) (qs:=[w]) (enc:=p7) (w:= .slice (some ⟨b16,0,none⟩) 1 1) [1] [0] [(b16,.cells ⟨([w].map p7).flatten⟩ 9 (0,0))] (T1) (fun s _ hZ=>bS [w] (hZ _ (.head _)) (by intro p hp;rfl)) (fun p _=>ai rfl) (by simp only[List.length_cons,List.length_nil];omega) (fun v17 L17 TZ=>?_)
 obtain⟨xU,xT,I9⟩:=TZ.form
 subst I9
 refine jn fun pH=>jd 7 [0,0]<|jl (b:=bm) (off:=0) (m:=1) (vs:=[zI (many:Int)]) 0 ⟨_,_,_,.inl gm,rfl⟩<|zD 2<|zJ 21 (((b++[w]).length:Int)>(many:Int)) (fun h1=>?_) fun h1=>?_
 ·
  refine zD 2 ?_
  obtain rfl:n=0:=by simp only[List.length_append,List.length_cons,List.length_nil] at*;omega
  refine zD 2<|jl (b:=bt) (off:=0) (m:=1) (vs:=[.string to]) 0 ⟨_,_,_,.inl gt,rfl⟩<|zD 2<|js 25 (!(cN w to)) (fun h2=>?_) (fun h2=>?_)
  ·
   have lM:=h2
   try simp only[zB] at lM
   refine jd 7 [3]<|jrM qm0 (.bool true) [] [3] [4] B (Sub.refl _) ⟨_,rfl,(fun _=>by rw[show Oe rs to 0 w b=[] from if_neg (by simp_all)];exact hB),nofun⟩
  have lM:=h2
  try simp only[zB] at lM
  have afM:Oe rs to 0 w b=[b++[w]]:=if_pos (by simp_all)
  have Xt:=Part.get (i:=0) (x:=b++[w]) hP (by rw[afM];rfl)
  refine jl (b:=bx) (off:=0) (m:=1) (vs:=[(.func (.yield bl) #[] #[])]) 0 ⟨_,_,_,.inl gy,rfl⟩<|jd 1 [0]<|jyc [1,4] (hy p [(.slice xU ((b++[w])).length xT)] L17 B ro Xt.1 ⟨_,_,Xt.2,rfl,TZ⟩ hB (Sub.refl _)) (Sub.refl _) ?_
  intro v28 Y28 aPV
  obtain⟨c28,rfl,aSE,aSs⟩:=yb aPV
  refine jd 4 [3]<|jrM qm0 (.bool c28) [] [3] [0] Y28 (Sub.refl _) ⟨_,rfl,(fun h=>by rw[afM];exact aSE h),aSs⟩
 refine zD 3 ?_
 obtain⟨m,rfl⟩:∃m,n=m+1:=⟨n-1,by simp only[List.length_append,List.length_cons,List.length_nil] at*;omega⟩
 refine zD 1<|jmk kvS fun r30 L30 aCG=>jn fun Sa=>jd 5 [0]<|jf [2,0,3] ((pH,.cells ⟨[(.slice xU ((b++[w])).length xT)]⟩ 127 (0,0))::((Sa,.cells ⟨[(.map (some r30))]⟩ 328 (0,0))::L17)) (fun ro5 Ih hk4=>?_)
 have vL:=TZ.lR hk4.tail.tail
 replace QE:=QE.up Ih
 replace hy:=hy.up Ih
 refine zD 1<|jl (b:=br) (off:=0) (m:=1) (vs:=[.slice fS rs.length fe]) 0 ⟨_,_,_,.inl (Ih _ _ gl),rfl⟩<|jc (vs:=[.string w,.slice fS rs.length fe]) [] (asi ((show bE _ _ _ _ _ from ⟨fS,sj,si,fe,rfl,tY,mw,nj⟩).up Ih)) ?_
 rintro _ _ ⟨aoO,aoN,rfl,rfl⟩
 refine jg 0 [.b aoO (.cells ⟨[.string w]⟩ 291 (0,0)),.b aoN (.cells ⟨[.slice fS rs.length fe]⟩ 34 (0,0))]<|jf [0,1] ((aoO,.cells ⟨[.string w]⟩ 291 (0,0))::[(aoN,.cells ⟨[.slice fS rs.length fe]⟩ 34 (0,0))]) fun ro8 y7 hk7=>zD 2<|jrf [] (ak2 (hk7 _ (.tail _ (.head _))) (QE.l.up y7) hR (hk7 _ (.head _)) hw sw hq) (by rintro _ _ _ _ ⟨_,_,rfl,_⟩;rfl) (fun(zz:Bool×Cells×Cells)=>[.b b9 (.cells ⟨[.bool zz.1]⟩ 4 (0,0)),.l zz.2.1,.l zz.2.2]) (fun kk=>(fun(zz:Bool×Cells×Cells)=>Inv (p+((dd ((sR w rs).take kk)).flatMap fun s=>Oe rs to m s (b++[w])).length) zz.2.2∧kD r30 kvS (mF (dd ((sR w rs).take kk))) zz.2.1)) (fun jump=>(fun(zz:Bool×Cells×Cells)=>jump= .ret∧(zz.1=false∧Stop zz.2.2))) (⟨false,L30,B⟩) ⟨hB,aCG⟩ [2,0,3] ?_ ?_ ?_
 ·
  rintro bl9 bd9 kk9 vs9 LL9 ⟨rv,Lm,B⟩ ro9 hk9 auH hL hs9
  obtain⟨x9,hx9,rfl,rfl⟩:=auH
  have hue:=aj9 hR hw (List.mem_of_getElem? hx9)
  refine zD 3<|jbg<|zD 4<|jl (b:=Sa) (off:=0) (m:=1) (vs:=[(.map (some r30))]) 0 ⟨_,_,_,.inl (hs9 _ _ (y7 _ _ (hk4 _ (.tail _ (.head _))))),rfl⟩<|zD 1<|jlu (kv:=kvS) (F:=(mF (dd ((sR w rs).take kk9)))) (r:=r30) (K:=291) x9 (.bool false) false [2] Lm (WS (T:=291) (by kernel_rfl)) (fun s _ hZ=>hL.2.has hZ)<|jw 37 (.bool (decide (x9∈(dd ((sR w rs).take kk9))))) aA6<|zD 1<|js 37 (decide (x9∈(dd ((sR w rs).take kk9)))) (fun Oc=>?_) (fun Oc=>?_)
  ·
   refine zD 2<|jyn Zf (Sub.refl _) ⟨rv,Lm,B⟩ ⟨by rw[ahX hx9 (by assumption)];exact hL.1,by rw[ahX hx9 (by assumption)];exact hL.2⟩ [0,1,2,3]
  have tx:decide (x9∈dd ((sR w rs).take kk9))=false:=by assumption
  obtain⟨rr,hrr⟩:=awb hx9 tx
  have aCf:=Part.flat (G:=fun s=>Oe rs to m s (b++[w])) hP hrr
  refine zD 4<|jl (b:=Sa) (off:=0) (m:=1) (vs:=[(.map (some r30))]) 0 ⟨_,_,_,.inl (hs9 _ _ (y7 _ _ (hk4 _ (.tail _ (.head _))))),rfl⟩<|zD 1<|jmu (kv:=kvS) (F:=(mF (dd ((sR w rs).take kk9)))) (r:=r30) (K:=291) 2 x9 (.bool true) (WS (T:=291) (by kernel_rfl)) hL.2 fun aHR afy=>zD 3<|jl (b:=bg) (off:=0) (m:=1) (vs:=[.func (.func 238) ⟨[]⟩ ⟨[zP bm,zP bt,zP bx,zP br,zP bg]⟩]) 0 ⟨_,_,_,.inl (hs9 _ _ (y7 _ _ (Ih _ _ gg))),rfl⟩<|zD 1<|jl (b:=pH) (off:=0) (m:=1) (vs:=[(.slice xU ((b++[w])).length xT)]) 0 ⟨_,_,_,.inl (hs9 _ _ (y7 _ _ (hk4 _ (.head _)))),rfl⟩<|jc (vs:=[.string x9,(.slice xU ((b++[w])).length xT),zP bm,zP bt,zP bx,zP br,zP bg]) [3] (ih m (by omega) _ _ _ _ (p+((dd ((sR w rs).take kk9)).flatMap fun s=>Oe rs to m s (b++[w])).length) _ (QE.up (y7.trans hs9)) (vL.up (y7.trans hs9)) (by simp only[List.length_append,List.length_cons,List.length_nil];omega) hue.1 (by omega) aCf hL.1 (hy.up (y7.trans hs9))) ?_
  rintro _ Y43 ⟨c43,rfl,aSB,aSp⟩
  refine zD 2<|js 44 (!c43) (fun DL=>?_) (fun DL=>?_)
  ·
   try simp only[zB] at DL
   refine jd 6 [3]<|jys Zf (Sub.refl _) .ret ⟨false,aHR,Y43⟩ ⟨rfl,rfl,aSp (by simp_all)⟩ [2,3,1,0]
  try simp only[zB] at DL
  refine zD 2<|jyn Zf (Sub.refl _) ⟨rv,aHR,Y43⟩ ⟨by rw[U0 hx9 tx,List.flatMap_append,List.length_append,←Nat.add_assoc];have:=aSB (by simp_all);simpa using this,by rw[U0 hx9 tx,←aqP tx];exact afy⟩ [2,3,1,0]
 ·
  rintro bd9 ⟨rv,Lm,B⟩ Z9 hL hZ9
  subst hZ9
  refine jd 5 [2]<|jrM qm0.a.a.m (.bool true) [0] [1] [3] B (Ih.trans y7) ⟨_,rfl,(fun _=>by have:=hL.1;rwa[List.take_of_length_le (Nat.le_refl _)] at this),nofun⟩
 rintro bd9 ⟨rv,Lm,B⟩ Z9 jump hS hZ9
 obtain⟨rfl,hS⟩:=hS
 obtain⟨rfl,hS⟩:=hS
 subst hZ9
 exact jrM qm0.a.a.m (.bool false) [0] [1] [3] B (Ih.trans y7) ⟨_,rfl,nofun,fun _=>hS⟩
theorem aAZ{to:ByteArray}{L:List (List ByteArray)}{Inv:Nat→Cells→Prop}(hR:∀r∈rs,rR r)(hq:rs.length≤100)(Xn:many≤100):∀n,aqh bl rs to many bm bt bx br bg vl L Inv Stop n:=by
 intro n
 induction n using Nat.strongRecOn with
 |_ n ih=>exact fun ro w b v p B hc hb hbn hw sw hP hB hy=>asl ih hR hq Xn hc hb hbn hw sw hP hB hy
theorem Zy{w to:ByteArray}{ro:Nat→Option Obj}(g1:ro b1=some (.cells ⟨[zI (many:Int)]⟩ 3 (0,0)))(g2:ro b2=some (.cells ⟨[.string to]⟩ 291 (0,0)))(g3:ro b3=some (.cells ⟨[vl]⟩ 34 (0,0)))(g4:ro b4=some (.cells ⟨[.string w]⟩ 291 (0,0)))(hl:bE ro vl 2 iW rs)(hR:∀r∈rs,rR r)(hw:xQ w)(sw:w.size≤100)(hq:rs.length≤100)(Xn:many≤100):ItX zT 237 [] [zP b1,zP b2,zP b3,zP b4] ro [] (Oe rs to many w []).length (am0 (Oe rs to many w [])) (fun Z=>Z=[]):=by
 intro bl aB Inv Stop hs hy B hB
 replace g1:=hs _ _ g1
 replace g2:=hs _ _ g2
 replace g3:=hs _ _ g3
 replace g4:=hs _ _ g4
 replace hl:=hl.up hs
 have hlr:=hl
 obtain⟨fS,sj,si,fe,rfl,tY,mw,nj⟩:=hl
 refine bC au [.l B] [] bu<|zD 2<|jn fun b5=>zD 3<|jn fun b6=>jd 8 [0,0]<|jl (b:=b4) (off:=0) (m:=1) (vs:=[.string w]) 0 ⟨_,_,_,.inl g4,rfl⟩<|jf [1,0] ((b5,.cells ⟨[(.func (.yield bl) #[] #[])]⟩ 325 (0,0))::[(b6,.cells ⟨[.func (.func 238) ⟨[]⟩ ⟨[zP b1,zP b2,zP b5,zP b3,zP b6]⟩]⟩ 326 (0,0))]) fun BE cd jW=>jc (vs:=[.string w,zS,zP b1,zP b2,zP b5,zP b3,zP b6]) [0] (aAZ hR hq Xn many _ _ _ _ 0 _ ⟨cd _ _ g1,cd _ _ g2,jW _ (.head _),cd _ _ g3,jW _ (.tail _ (.head _)),hlr.up cd⟩ (bE.nil _ _ _ _ _) (by simp) hw sw ⟨[],[],by simp,rfl⟩ hB (YOK.up hy cd)) ?_
 rintro _ Y10 ⟨c10,rfl,au8,au2⟩
 refine zD 1<|aH q0.a (.tuple ⟨[]⟩) [] [0] Y10 cd ⟨_,_,rfl,rfl,[],Y10,rfl,rfl,by cases c10 with|true=>exact .inl (by simpa using au8 rfl)|false=>exact .inr (au2 rfl)⟩
theorem adG{w to:ByteArray}{many:Int}{ro:Nat→Option Obj}(hl:bE ro vl 2 iW rs):eS zT 219 [.string w,vl,.string to,zI many] ro [] (fun r Y=>∃b4 b5 b6 b7,r= .func (.func 237) ⟨[]⟩ ⟨[zP b7,zP b6,zP b5,zP b4]⟩∧Y=[(b4,.cells ⟨[.string w]⟩ 291 (0,0)),(b5,.cells ⟨[vl]⟩ 34 (0,0)),(b6,.cells ⟨[.string to]⟩ 291 (0,0)),(b7,.cells ⟨[zI many]⟩ 3 (0,0))]):=by
 obtain⟨fS,sj,si,fe,rfl,tY,mw,nj⟩:=hl
 refine bC au [] [] bu<|zD 2<|jn fun b4=>jn fun b5=>jn fun b6=>jn fun b7=>zD 8<|aH q0 (.func (.func 237) ⟨[]⟩ ⟨[zP b7,zP b6,zP b5,zP b4]⟩) [] [3,2,1,0] ((b4,.cells ⟨[.string w]⟩ 291 (0,0))::((b5,.cells ⟨[.slice fS rs.length fe]⟩ 34 (0,0))::((b6,.cells ⟨[.string to]⟩ 291 (0,0))::[(b7,.cells ⟨[zI many]⟩ 3 (0,0))]))) (Sub.refl _) ⟨_,_,rfl,rfl,_,_,_,_,rfl,rfl⟩
theorem asm{L:List (List ByteArray)}{ro:Nat→Option Obj}(hit:ItX zT 237 [] [zP b1,zP b2,zP b3,zP b4] ro [] L.length (am0 L) (fun Z=>Z=[]))(hL:∀x∈L,x.length≤1000):eS zT 218 [.func (.func 237) ⟨[]⟩ ⟨[zP b1,zP b2,zP b3,zP b4]⟩,.func (.func 220) ⟨[]⟩ ⟨[]⟩] ro [] (fun r Y=>∃v,r= .tuple ⟨[v,.bool (decide (0 <L.length))]⟩∧∃ps,ax v 1 9 p7 ps Y∧(0 <L.length→ps∈L)):=by
 refine alF au [] [] bu<|zD 2<|jn fun b3=>zD 2<|jf [0] [(b3,.cells ⟨[.func (.func 220) ⟨[]⟩ ⟨[]⟩]⟩ 317 (0,0))] fun BE cd jW=>zD 3<|jn fun b6=>zD 3<|jn fun b7=>jd 8 [0]<|py<|jrf [] (hit.up cd) (by rintro _ _ _ _ ⟨_,_,_,rfl,_⟩;rfl) (fun(zz:Value×(List ByteArray)×Cells×Bool)=>[.b b6 (.cells ⟨[zz.1]⟩ 127 (0,0)),.b b7 (.cells ⟨[.bool zz.2.2.2]⟩ 4 (0,0)),.l zz.2.2.1]) (fun kk=>(fun(zz:Value×(List ByteArray)×Cells×Bool)=>ax zz.1 1 9 p7 zz.2.1 zz.2.2.1∧zz.2.2.2=decide (0 <kk)∧(0 <kk→zz.2.1∈L)∧zz.2.1.length≤1000)) (fun jump=>(fun(zz:Value×(List ByteArray)×Cells×Bool)=>False)) (⟨zS,[],[],false⟩) ⟨ax.nil _ _ _,rfl,nofun,by simp⟩ [2,1,0] ?_ ?_ ?_
 ·
  rintro bl4 bd4 kk4 vs4 LL4 ⟨v,ps,Lb,sm⟩ ro4 hk4 auI hI lL
  obtain⟨x4,v4,hx4,rfl,ho4⟩:=auI
  have hxl:=hL _ (List.mem_of_getElem? hx4)
  have Qj:=hI.2.2.2
  refine zD 3<|jbg<|jd 6 [2]<|js 13 (!sm) (fun h5=>?_) (fun h5=>?_)
  ·
   have M9:=h5
   try simp only[zB] at M9
   refine zD 10 ?_
   obtain⟨va6,vc6,he6⟩:=ho4.form
   subst he6
   refine jd 3 [1,2]<|jyn Zf (Sub.refl _) ⟨(.slice va6 (x4).length vc6),x4,LL4,true⟩ ⟨ho4,rfl,fun _=>List.mem_of_getElem? hx4,hxl⟩ [0,1,2,4]
  have M9:=h5
  try simp only[zB] at M9
  refine jl (b:=b3) (off:=0) (m:=1) (vs:=[.func (.func 220) ⟨[]⟩ ⟨[]⟩]) 0 ⟨_,_,_,.inl (lL _ _ (jW _ (.head _))),rfl⟩<|jd 2 [1]<|jp (vs:=[v4,v]) [4,3] (LL4++Lb) (fun aB hs hZ=>aNF (ho4.lR hZ.left) (hI.1.lR hZ.right) (by first|omega| (simp only[List.length_set,List.length_append,List.length_cons,List.length_nil];omega)) (by first|omega| (simp only[List.length_set,List.length_append,List.length_cons,List.length_nil];omega))) ?_
  refine zD 3<|zJ 19 ((Nw x4 ps) <0) (fun h7=>?_) fun h7=>?_
  ·
   refine zD 3 ?_
   obtain⟨va8,vc8,he8⟩:=ho4.form
   subst he8
   refine jd 3 [1,2]<|jyn Zf (Sub.refl _) ⟨(.slice va8 (x4).length vc8),x4,LL4,true⟩ ⟨ho4,rfl,fun _=>List.mem_of_getElem? hx4,hxl⟩ [0,1,2,4]
  refine zD 2<|jyn Zf (Sub.refl _) ⟨v,ps,Lb,sm⟩ ⟨hI.1,by have:=hI.2.1;simp_all,fun _=>hI.2.2.1 (by have:=hI.2.1;simp_all),Qj⟩ [0,1,2,3]
 ·
  rintro bd4 ⟨v,ps,Lb,sm⟩ Z4 hI hZ4
  subst hZ4
  refine jd 8 [2,3]<|jrM qm0.a.m (.tuple ⟨[v,.bool sm]⟩) [0] [] [3] Lb cd ⟨v,by rw[←hI.2.1],ps,hI.1,hI.2.2.1⟩
 rintro bd4 ⟨v,ps,Lb,sm⟩ Z4 jump hS hZ4
 exact hS.elim
end Go.L
