/- Part 15 of the proof: a program logic, contracts, a theorem on goroutines. -/
import Derived.Test.YtjnblekiagbmkaaGreatDoorL14
set_option maxRecDepth 100000
set_option linter.all false
namespace Go.L
open Go Go.Conc Go.Proofs
variable {rs:List cG} {b k f b1 b2 many b3 b4:Nat} {p:Nat→Int} {vl vc vh:Value} {cs:List bG} {hd:List bY} {l:List iD} {K:bk} {na nb:ByteArray} {x y:aE} {T:TypeId} {xs:List Int}
theorem ayK{bl:Nat}{to:ByteArray}{bm bt bu br bg:Nat}{L:List (List ByteArray)}{Inv:Nat→Cells→Prop}{Stop:Cells→Prop}(hR:∀r∈rs,rh r)(hq:rs.length≤100)(Vp:many≤100):∀n,anO bl rs to many bm bt bu br bg vl L Inv Stop n:=by
 intro n
 induction n using Nat.strongRecOn with
 |_ n ih=>exact fun ro w b v p B hc hb hbn hw rJ hP hB hy=>apK ih hR hq Vp hc hb hbn hw rJ hP hB hy
theorem Xp{w to:ByteArray}{ro:Nat→Option Obj}(g1:ro b1=some (.cells ⟨[zI (many:Int)]⟩ 3 (0,0)))(g2:ro b2=some (.cells ⟨[.string to]⟩ 283 (0,0)))(g3:ro b3=some (.cells ⟨[vl]⟩ 36 (0,0)))(g4:ro b4=some (.cells ⟨[.string w]⟩ 283 (0,0)))(hl:bK ro vl 2 jO rs)(hR:∀r∈rs,rh r)(hw:xm w)(rJ:w.size≤100)(hq:rs.length≤100)(Vp:many≤100):ItX zT 225 [] [zP b1,zP b2,zP b3,zP b4] ro [] (MC rs to many w []).length (akR (MC rs to many w [])) (fun Z=>Z=[]):=by
 intro bl aA Inv Stop hs hy B hB
 replace g1:=hs _ _ g1
 replace g2:=hs _ _ g2
 replace g3:=hs _ _ g3
 replace g4:=hs _ _ g4
 replace hl:=hl.up hs
 have hlr:=hl
 obtain⟨fL,rD,rC,eV,rfl,tH,lJ,mE⟩:=hl
 refine bC au [.l B] [] bn<|zD 2<|jn fun b5=>zD 3<|jn fun b6=>jd 8 [0,0]<|jl (b:=b4) (off:=0) (m:=1) (vs:=[.string w]) 0 ⟨_,_,_,.inl g4,rfl⟩<|jf [1,0] ((b5,.cells ⟨[(.func (.yield bl) #[] #[])]⟩ 322 (0,0))::[(b6,.cells ⟨[.func (.func 226) ⟨[]⟩ ⟨[zP b1,zP b2,zP b5,zP b3,zP b6]⟩]⟩ 323 (0,0))]) fun AM bW jC=>jc (vs:=[.string w,zS,zP b1,zP b2,zP b5,zP b3,zP b6]) [0] (ayK hR hq Vp many _ _ _ _ 0 _ ⟨bW _ _ g1,bW _ _ g2,jC _ (.head _),bW _ _ g3,jC _ (.tail _ (.head _)),hlr.up bW⟩ (bK.nil _ _ _ _ _) (by simp) hw rJ ⟨[],[],by simp,rfl⟩ hB (YO.up hy bW)) ?_
 rintro _ Zm ⟨c10,rfl,asy,ass⟩
 refine zD 1<|aF q0.a (.tuple ⟨[]⟩) [] [0] Zm bW ⟨_,_,rfl,rfl,[],Zm,rfl,rfl,by cases c10 with|true=>exact .inl (by simpa using asy rfl)|false=>exact .inr (ass rfl)⟩
theorem abJ{w to:ByteArray}{many:Int}{ro:Nat→Option Obj}(hl:bK ro vl 2 jO rs):eG zT 207 [.string w,vl,.string to,zI many] ro [] (fun r Y=>∃b4 b5 b6 b7,r= .func (.func 225) ⟨[]⟩ ⟨[zP b7,zP b6,zP b5,zP b4]⟩∧Y=[(b4,.cells ⟨[.string w]⟩ 283 (0,0)),(b5,.cells ⟨[vl]⟩ 36 (0,0)),(b6,.cells ⟨[.string to]⟩ 283 (0,0)),(b7,.cells ⟨[zI many]⟩ 3 (0,0))]):=by
 obtain⟨fL,rD,rC,eV,rfl,tH,lJ,mE⟩:=hl
 refine bC au [] [] bn<|zD 2<|jn fun b4=>jn fun b5=>jn fun b6=>jn fun b7=>zD 8<|aF q0 (.func (.func 225) ⟨[]⟩ ⟨[zP b7,zP b6,zP b5,zP b4]⟩) [] [3,2,1,0] ((b4,.cells ⟨[.string w]⟩ 283 (0,0))::((b5,.cells ⟨[.slice fL rs.length eV]⟩ 36 (0,0))::((b6,.cells ⟨[.string to]⟩ 283 (0,0))::[(b7,.cells ⟨[zI many]⟩ 3 (0,0))]))) (Sub.refl _) ⟨_,_,rfl,rfl,_,_,_,_,rfl,rfl⟩
theorem apL{L:List (List ByteArray)}{ro:Nat→Option Obj}(hit:ItX zT 225 [] [zP b1,zP b2,zP b3,zP b4] ro [] L.length (akR L) (fun Z=>Z=[]))(hL:∀x∈L,x.length≤1000):eG zT 206 [.func (.func 225) ⟨[]⟩ ⟨[zP b1,zP b2,zP b3,zP b4]⟩,.func (.func 208) ⟨[]⟩ ⟨[]⟩] ro [] (fun r Y=>∃v,r= .tuple ⟨[v,.bool (decide (0 <L.length))]⟩∧∃ps,az v 1 9 py ps Y∧(0 <L.length→ps∈L)):=by
 refine ajA au [] [] bn<|zD 2<|jn fun b3=>zD 2<|jf [0] [(b3,.cells ⟨[.func (.func 208) ⟨[]⟩ ⟨[]⟩]⟩ 311 (0,0))] fun AM bW jC=>zD 3<|jn fun b6=>zD 3<|jn fun b7=>jd 8 [0]<|qB<|jrf [] (hit.up bW) (by rintro _ _ _ _ ⟨_,_,_,rfl,_⟩;rfl) (fun(zz:Value×(List ByteArray)×Cells×Bool)=>[.b b6 (.cells ⟨[zz.1]⟩ 111 (0,0)),.b b7 (.cells ⟨[.bool zz.2.2.2]⟩ 4 (0,0)),.l zz.2.2.1]) (fun kk=>(fun(zz:Value×(List ByteArray)×Cells×Bool)=>az zz.1 1 9 py zz.2.1 zz.2.2.1∧zz.2.2.2=decide (0 <kk)∧(0 <kk→zz.2.1∈L)∧zz.2.1.length≤1000)) (fun jump=>(fun(zz:Value×(List ByteArray)×Cells×Bool)=>False)) (⟨zS,[],[],false⟩) ⟨az.nil _ _ _,rfl,nofun,by simp⟩ [2,1,0] ?_ ?_ ?_
 ·
  rintro bl4 bd4 kk4 vs4 LL4 ⟨v,ps,Lb,sm⟩ ro4 hk4 asa hI kX
  obtain⟨x4,v4,hx4,rfl,ho4⟩:=asa
  have hxl:=hL _ (List.mem_of_getElem? hx4)
  have Qb:=hI.2.2.2
  refine zD 3<|jbg<|jd 6 [2]<|js 13 (!sm) (fun h5=>?_) (fun h5=>?_)
  ·
   have Lg:=h5
   try simp only[zB] at Lg
   refine zD 10 ?_
   obtain⟨va6,vc6,he6⟩:=ho4.form
   subst he6
   refine jd 3 [1,2]<|jyn WY (Sub.refl _) ⟨(.slice va6 (x4).length vc6),x4,LL4,true⟩ ⟨ho4,rfl,fun _=>List.mem_of_getElem? hx4,hxl⟩ [0,1,2,4]
  have Lg:=h5
  try simp only[zB] at Lg
  refine jl (b:=b3) (off:=0) (m:=1) (vs:=[.func (.func 208) ⟨[]⟩ ⟨[]⟩]) 0 ⟨_,_,_,.inl (kX _ _ (jC _ (.head _))),rfl⟩<|jd 2 [1]<|jp (vs:=[v4,v]) [4,3] (LL4++Lb) (fun aA hs hZ=>aLn (ho4.nv hZ.left) (hI.1.nv hZ.right) (by first|omega| (simp only[List.length_set,List.length_append,List.length_cons,List.length_nil];omega)) (by first|omega| (simp only[List.length_set,List.length_append,List.length_cons,List.length_nil];omega))) ?_
  refine zD 3<|zJ 19 ((LP x4 ps) <0) (fun h7=>?_) fun h7=>?_
  ·
   refine zD 3 ?_
   obtain⟨va8,vc8,he8⟩:=ho4.form
   subst he8
   refine jd 3 [1,2]<|jyn WY (Sub.refl _) ⟨(.slice va8 (x4).length vc8),x4,LL4,true⟩ ⟨ho4,rfl,fun _=>List.mem_of_getElem? hx4,hxl⟩ [0,1,2,4]
  refine zD 2<|jyn WY (Sub.refl _) ⟨v,ps,Lb,sm⟩ ⟨hI.1,by have:=hI.2.1;simp_all,fun _=>hI.2.2.1 (by have:=hI.2.1;simp_all),Qb⟩ [0,1,2,3]
 ·
  rintro bd4 ⟨v,ps,Lb,sm⟩ Z4 hI hZ4
  subst hZ4
  refine jd 8 [2,3]<|jrM qm0.a.m (.tuple ⟨[v,.bool sm]⟩) [0] [] [3] Lb bW ⟨v,by rw[←hI.2.1],ps,hI.1,hI.2.2.1⟩
 rintro bd4 ⟨v,ps,Lb,sm⟩ Z4 jump hS hZ4
 exact hS.elim
abbrev eBy(x:Int):List Value:=[.int .u8 x]
theorem aEx:EF zT 274 (Extern.BytealgMakeNoZero.makeNoZero #[3] #[344]):=⟨Tryz.f274,Tryz.func274,by kernel_rfl,by kernel_rfl,by kernel_rfl,by kernel_rfl⟩
def aoy:=(m8 Tryz.typeInfo344 Tryz.underlying344 rfl rfl rfl rfl rfl rfl:TF zT 344 _ 1 24 _ false)
theorem abg{l:List Value}:az (.slice (some ⟨b,0,none⟩) 0 l.length) 1 T eBy ([]:List Int) [(b,.cells ⟨l⟩ T (0,0))]:= .inr ⟨b,l,l.length,rfl,rfl,by simp,by simp,by simp,by simp⟩
theorem aiI{v:Value}{c:Int}{L:Cells}(h:az v 1 T eBy [c] L):∃b l cap,cap≠0∧v= .slice (some ⟨b,0,none⟩) 1 cap∧L=[(b,.cells ⟨.int .u8 c::l⟩ T (0,0))]:=by
 rcases h with ⟨_,h,_⟩| ⟨b,l,cap,h1,h2,h3,h4,_,h6⟩
 ·cases h
 simp only[List.length_cons,List.length_nil] at h1 h4 h6
 cases l with
 |nil=>simp at h3;omega
 |cons x l=>
  simp at h6;subst h6
  exact⟨b,l,cap,by omega,h1,h2⟩
def Yt(n:Int):ByteArray:=⟨#[n.toNat.toUInt8]⟩
theorem aEy:EF zT 273 Extern.AbiNoEscape.same:=⟨Tryz.f273,Tryz.func273,by kernel_rfl,by kernel_rfl,by kernel_rfl,by kernel_rfl⟩
theorem aEX{v:Value}{ro:Nat→Option Obj}:eG zT 262 [zP b] ro [(b,.cells ⟨[.pointer none,v]⟩ 346 (0,0))] (fun r Y=>Y=[(b,.cells ⟨[zP b,v]⟩ 346 (0,0))]):=by
 refine bC au [.b b (.cells ⟨[.pointer none,v]⟩ 346 (0,0))] [] bn<|jd 12 [0]<|jmo [0] [0,0] [(b,.cells ⟨[.pointer none,v]⟩ 346 (0,0))] (zP b)<|jg 0 [.b b (.cells ⟨[.pointer none,v]⟩ 346 (0,0))]<|aNd (v:= zP b) aEy<|jmo [0] [0,0] [(b,.cells ⟨[.pointer none,v]⟩ 346 (0,0))] (zP b)<|jg 0 [.b b (.cells ⟨[.pointer none,v]⟩ 346 (0,0))]<|jd 4 [0]<|aF q0 (.tuple ⟨[]⟩) [] [0] [(b,.cells ⟨[zP b,v]⟩ 346 (0,0))] (Sub.refl _) ⟨_,_,rfl,rfl,rfl⟩
theorem aEW{v:Value}{ro:Nat→Option Obj}:eG zT 262 [zP b] ro [(b,.cells ⟨[zP b,v]⟩ 346 (0,0))] (fun r Y=>Y=[(b,.cells ⟨[zP b,v]⟩ 346 (0,0))]):=by
 refine bC au [.b b (.cells ⟨[zP b,v]⟩ 346 (0,0))] [] bn<|jd 16 [0,0]<|jpn (b:=b)<|jg 0 []<|zD 3<|aF q0 (.tuple ⟨[]⟩) [] [0] [(b,.cells ⟨[zP b,v]⟩ 346 (0,0))] (Sub.refl _) ⟨_,_,rfl,rfl,rfl⟩
theorem aEQ{ro:Nat→Option Obj}:eG zT 263 [zP b,zI 1] ro [(b,.cells ⟨[zP b,zS]⟩ 346 (0,0))] (fun r Y=>∃v L,az v 1 5 eBy ([]:List Int) L∧Y=(b,.cells ⟨[zP b,v]⟩ 346 (0,0))::L):=by
 refine bC au [.b b (.cells ⟨[zP b,zS]⟩ 346 (0,0))] [] bn<|jd 6 [0]<|jcp (c:=0)<|jd 8 [0]<|aH 8 fun CY C4 AT=>jnz (n:=1) aEx rfl aoy (by omega) fun bb lz hlz=>jg 0 [.b bb (.cells ⟨lz⟩ 5 (0,0))]<|bw AT [1]<|js0 (a:=⟨bb,0,none⟩) (l:=1) (c:=lz.length)<|jd 9 [1]<|jmo [] [] [] (zI 0)<|jg 0 []<|jd 8 [1]<|aF q0 (.tuple ⟨[]⟩) [] [1,0] ((b,.cells ⟨[zP b,(.slice (some ⟨bb,0,none⟩) 0 lz.length)]⟩ 346 (0,0))::[(bb,.cells ⟨lz⟩ 5 (0,0))]) (Sub.refl _) ⟨_,_,rfl,rfl,_,_,abg,rfl⟩
theorem aEV{ro:Nat→Option Obj}:eG zT 245 [zP b,zI 1] ro [(b,.cells ⟨[.pointer none,zS]⟩ 346 (0,0))] (fun r Y=>∃v L,az v 1 5 eBy ([]:List Int) L∧Y=(b,.cells ⟨[zP b,v]⟩ 346 (0,0))::L):=by
 refine bC au [.b b (.cells ⟨[.pointer none,zS]⟩ 346 (0,0))] [] bn<|zD 3<|jc (vs:=[zP b]) [0] (aEX (v:= zS)) ?_
 rintro _ _ rfl
 refine jg 0 [.b b (.cells ⟨[zP b,zS]⟩ 346 (0,0))]<|jd 15 [0]<|jcp (c:=0)<|jd 13 [0]<|jc (vs:=[zP b,zI 1]) [0] (aEQ) ?_
 rintro _ _ ⟨v,L,hv,rfl⟩
 refine jg 0 [.b b (.cells ⟨[zP b,v]⟩ 346 (0,0)),.l L]<|zD 1<|aF q0 (.tuple ⟨[]⟩) [] [0,1] ((b,.cells ⟨[zP b,v]⟩ 346 (0,0))::L) (Sub.refl _) ⟨_,_,rfl,rfl,v,L,hv,rfl⟩
theorem aEY{v:Value}{L:Cells}{c:Int}{ro:Nat→Option Obj}(ho:az v 1 5 eBy ([]:List Int) L):eG zT 247 [zP b,.int .u8 c] ro ((b,.cells ⟨[zP b,v]⟩ 346 (0,0))::L) (fun r Y=>∃v' L',az v' 1 5 eBy [c] L'∧Y=(b,.cells ⟨[zP b,v']⟩ 346 (0,0))::L'):=by
 refine bC au [.b b (.cells ⟨[zP b,v]⟩ 346 (0,0)),.l L] [] bn<|zD 7<|jc (vs:=[zP b]) [0] (aEW (v:=v)) ?_
 rintro _ _ rfl
 refine jg 0 [.b b (.cells ⟨[zP b,v]⟩ 346 (0,0))]<|jd 9 [0]<|jn fun yZ=>k8 (sz:=1) (ps:=[]) (qs:=[c]) (enc:=eBy) (w:= .slice (some ⟨yZ,0,none⟩) 1 1) [2] [0] [(yZ,.cells ⟨([c].map eBy).flatten⟩ 5 (0,0))] (ho) (fun s _ hZ=>cb [c] (hZ _ (.head _)) (by intro p hp;rfl)) (fun p _=>ar rfl) (by simp) (fun v14 L14 tY=>?_)
 rw[List.nil_append] at tY
 obtain⟨JE,Ho,xC⟩:=tY.form
 subst xC
 refine jd 9 [2]<|aF q0 (.nilIface) [] [2,0] ((b,.cells ⟨[zP b,(.slice JE ([c]).length Ho)]⟩ 346 (0,0))::L14) (Sub.refl _) ⟨_,_,rfl,rfl,_,_,tY,rfl⟩
theorem aSR{bb cap:Nat}{l:List Value}{c:Int}{ro:Nat→Option Obj}(oh:cap≠0):eG zT 248 [zP b] ro [(b,.cells ⟨[zP b,.slice (some ⟨bb,0,none⟩) 1 cap]⟩ 346 (0,0)),(bb,.cells ⟨.int .u8 c::l⟩ 5 (0,0))] (fun r Y=>r= .string (Yt c)):=by
 refine bC au [.b b (.cells ⟨[zP b,.slice (some ⟨bb,0,none⟩) 1 cap]⟩ 346 (0,0)),.b bb (.cells ⟨.int .u8 c::l⟩ 5 (0,0))] [] bn<|jd 15 [0,0]<|aH 4 fun CY C4 AT=>jsd (a:=⟨bb,0,none⟩) (l:=1) oh<|jg 0 []<|bw AT [0,1]<|aH 10 fun AY A6 Ad=>jus (b:=bb) (E:=5) [1] c l fun L9=>iM Ad [[1]]<|zD 3<|aF q0 (.string (Yt c)) [] [] [] (Sub.refl _) ⟨_,_,rfl,rfl,rfl⟩
def tN(u:UInt8):ByteArray:=⟨#[u]⟩
theorem akP{u:UInt8}(h:u.toNat <128):Value.string (Utf8.encode (u.toNat:Int))= .string (tN u):=by
 have hv:Utf8.valid (u.toNat:Int)=true:=by simp only[Utf8.valid];simp;omega
 simp only[Utf8.encode,hv,if_true,Int.toNat_natCast,if_pos (show u.toNat <0x80 from h),tN]
 simp
theorem aEb{u:UInt8}{ro:Nat→Option Obj}(hu:(97≤u.toNat∧u.toNat≤122)):dL zT 224 [.string (tN u)] ro (.string (tN u)):=by
 have uM:(tN u).size=1:=rfl
 refine bC au [] [] bn<|zD 15<|eN [1,1,0,1,0,0] [] (fun(zz:Nat×Bool)=>[(0,.string (tN u)),(2,.string (bs [])),(3,.bool true),(4,.bool zz.2),(5,zI (zz.1:Int))]) (fun(zz:Nat×Bool)=>[]) (fun(zz:Nat×Bool)=>(zz.1=0∧zz.2=false)∨(zz.1=1∧zz.2=false)) (fun(zz:Nat×Bool)=>1-zz.1) (⟨0,false⟩) (.inl ⟨rfl,rfl⟩) [] ?_
 rintro⟨i,q⟩ hI K1 bF rest
 dsimp only at hI
 refine zD 8<|zJ 14 ((i:Int) <((tN u).size:Int)) (fun h1=>?_) fun h1=>?_
 ·
  refine zD 5 ?_
  obtain⟨hi0,Vh⟩:i=0∧q=false:=by rcases hI with h|h;exact h;omega
  refine jw 5 (zI 0) (show Value.int .i64 (i:Int)= zI 0 by rw[hi0];rfl) ?_
  refine jw 4 (.bool false) (show Value.bool q= .bool false by rw[Vh])<|zD 12<|zJ 21 ((u.toNat:Int)≥128) (fun h2=>?_) fun h2=>?_
  ·
   exfalso;omega
  refine zD 8<|js 26 (decide (65≤(u.toNat:Int))) (fun h3=>?_) (fun h3=>?_)
  ·
   have vP:=h3
   replace vP:=of_decide_eq_true vP
   refine zD 11<|bI bF (⟨1,decide ((u.toNat:Int)≤90)⟩) (.inr ⟨rfl,decide_eq_false (by omega)⟩) (by dsimp only;omega) [] (Sub.refl _)
  have vP:=h3
  replace vP:=of_decide_eq_false vP
  exfalso;omega
 refine zD 4 ?_
 obtain⟨hi1,hq1⟩:i=1∧q=false:=by rcases hI with h|h;omega;exact h
 refine jw 4 (.bool false) (show Value.bool q= .bool false by rw[hq1])<|zD 17<|aF q0 (.string (tN u)) [] [] [] (Sub.refl _) ⟨_,_,rfl,rfl,rfl,rfl⟩
theorem aEa{u:UInt8}{ro:Nat→Option Obj}(hu:(65≤u.toNat∧u.toNat≤90)):dL zT 224 [.string (tN u)] ro (.string (Yt (IntKind.u8.wrap ((u.toNat:Int)+32)))):=by
 have uM:(tN u).size=1:=rfl
 refine bC au [] [] bn<|zD 15<|eN [1,1,0,1,0,0] [] (fun(zz:Nat×Bool)=>[(0,.string (tN u)),(2,.string (bs [])),(3,.bool true),(4,.bool zz.2),(5,zI (zz.1:Int))]) (fun(zz:Nat×Bool)=>[]) (fun(zz:Nat×Bool)=>(zz.1=0∧zz.2=false)∨(zz.1=1∧zz.2=true)) (fun(zz:Nat×Bool)=>1-zz.1) (⟨0,false⟩) (.inl ⟨rfl,rfl⟩) [] ?_
 rintro⟨i,q⟩ hI K1 bF rest
 dsimp only at hI
 refine zD 8<|zJ 14 ((i:Int) <((tN u).size:Int)) (fun h1=>?_) fun h1=>?_
 ·
  refine zD 5 ?_
  obtain⟨hi0,Vh⟩:i=0∧q=false:=by rcases hI with h|h;exact h;omega
  refine jw 5 (zI 0) (show Value.int .i64 (i:Int)= zI 0 by rw[hi0];rfl) ?_
  refine jw 4 (.bool false) (show Value.bool q= .bool false by rw[Vh])<|zD 12<|zJ 21 ((u.toNat:Int)≥128) (fun h2=>?_) fun h2=>?_
  ·
   exfalso;omega
  refine zD 8<|js 26 (decide (65≤(u.toNat:Int))) (fun h3=>?_) (fun h3=>?_)
  ·
   have vP:=h3
   replace vP:=of_decide_eq_true vP
   refine zD 11<|bI bF (⟨1,decide ((u.toNat:Int)≤90)⟩) (.inr ⟨rfl,decide_eq_true (by omega)⟩) (by dsimp only;omega) [] (Sub.refl _)
  have vP:=h3
  replace vP:=of_decide_eq_false vP
  exfalso;omega
 refine zD 4 ?_
 obtain⟨hi1,hq1⟩:i=1∧q=true:=by rcases hI with h|h;omega;exact h
 refine jw 4 (.bool true) (show Value.bool q= .bool true by rw[hq1])<|zD 14<|jn fun b7=>zD 9<|jc (vs:=[zP b7,zI 1]) [0] (aEV) ?_
 rintro _ _ ⟨v,L,hv,rfl⟩
 refine jg 0 [.b b7 (.cells ⟨[zP b7,v]⟩ 346 (0,0)),.l L]<|zD 7<|eN [1,1,1,0,1,0,1,1,1,1,0,1,0,0] [] (fun(zz:Nat×Int×Value×Cells×(List Int))=>[(0,.string (tN u)),(2,.string (bs [])),(7,zP b7),(8,zI zz.2.1),(9,zI (zz.1:Int))]) (fun(zz:Nat×Int×Value×Cells×(List Int))=>[.b b7 (.cells ⟨[zP b7,zz.2.2.1]⟩ 346 (0,0)),.l zz.2.2.2.1]) (fun(zz:Nat×Int×Value×Cells×(List Int))=>az zz.2.2.1 1 5 eBy zz.2.2.2.2 zz.2.2.2.1∧((zz.1=0∧zz.2.1=0∧zz.2.2.2.2=[])∨(zz.1=1∧zz.2.1=1∧zz.2.2.2.2=[(IntKind.u8.wrap ((u.toNat:Int)+32))]))) (fun(zz:Nat×Int×Value×Cells×(List Int))=>1-zz.1) (⟨0,0,v,L,[]⟩) ⟨hv,.inl ⟨rfl,rfl,rfl⟩⟩ [0,1] ?_
 rintro⟨j,p,v,L,xs⟩ hJ K2 mL rest
 dsimp only at hJ
 refine zD 8<|zJ 41 ((j:Int) <((tN u).size:Int)) (fun h4=>?_) fun h4=>?_
 ·
  refine zD 5 ?_
  obtain⟨hj0,hp0,FD⟩:j=0∧p=0∧xs=[]:=by rcases hJ.2 with h|h;exact h;omega
  refine jw 9 (zI 0) (show Value.int .i64 (j:Int)= zI 0 by rw[hj0];rfl) ?_
  refine jw 8 (zI 0) (show Value.int .i64 p= zI 0 by rw[hp0])<|zD 11<|js 49 (decide (65≤(u.toNat:Int))) (fun h5=>?_) (fun h5=>?_)
  ·
   have Lg:=h5
   replace Lg:=of_decide_eq_true Lg
   refine zD 4<|zJ 52 ((u.toNat:Int)≤90) (fun h6=>?_) fun h6=>?_
   ·
    refine zD 19<|jc (vs:=[zP b7,.int .u8 (IntKind.u8.wrap ((u.toNat:Int)+32))]) [0,1] (aEY (by have:=hJ.1;rwa[FD] at this)) ?_
    rintro _ _ ⟨v2,L2,G6,rfl⟩
    refine jg 0 [.b b7 (.cells ⟨[zP b7,v2]⟩ 346 (0,0)),.l L2]<|zD 11<|bI mL (⟨1,1,v2,L2,[(IntKind.u8.wrap ((u.toNat:Int)+32))]⟩) ⟨G6,.inr ⟨rfl,rfl,rfl⟩⟩ (by dsimp only;omega) [0,1] (Sub.refl _)
   exfalso;omega
  have Lg:=h5
  replace Lg:=of_decide_eq_false Lg
  exfalso;omega
 refine zD 4 ?_
 obtain⟨hj1,hp1,hx1⟩:j=1∧p=1∧xs=[(IntKind.u8.wrap ((u.toNat:Int)+32))]:=by rcases hJ.2 with h|h;omega;exact h
 refine jw 8 (zI 1) (show Value.int .i64 p= zI 1 by rw[hp1])<|zD 9 ?_
 obtain⟨bb,lz,cap,oh,rfl,rfl⟩:=aiI (by have:=hJ.1;rwa[hx1] at this)
 refine zD 1<|jc (vs:=[zP b7]) [0,1] (aSR (bb:=bb) (l:=lz) (c:=(IntKind.u8.wrap ((u.toNat:Int)+32))) oh) ?_
 rintro _ Yz rfl
 refine zD 3<|aF q0 (.string (Yt (IntKind.u8.wrap ((u.toNat:Int)+32)))) [] [] [] (Sub.refl _) ⟨_,_,rfl,rfl,rfl,rfl⟩
def ab0(u:UInt8):ByteArray:=if u.toNat <97 then Yt (IntKind.u8.wrap ((u.toNat:Int)+32)) else tN u
theorem aSd{u:UInt8}{ro:Nat→Option Obj}(h:Fu u=true∨E5 u=true):dL zT 224 [.string (tN u)] ro (.string (ab0 u)):=by
 unfold ab0
 rcases h with h|h
 ·simp only[Fu,Bool.and_eq_true,Nat.ble_eq] at h
  rw[if_neg (by omega)]
  exact aEb (by omega)
 simp only[E5,Bool.and_eq_true,Nat.ble_eq] at h
 rw[if_pos (by omega)]
 exact aEa (by omega)
def uqN(rs:List cG)(a to:ByteArray):Nat→Nat→Option Nat
 |0,_=>none
 |f+1,m=>bif decide (0 <(MC rs to m a []).length) then some m else uqN rs a to f (m+1)
def uq(rs:List cG)(a to:ByteArray):Option Nat:=uqN rs a to 3 0
def jF(c:UInt8):ByteArray:=if c.toNat=67 then bs [99,104] else if c.toNat=74 then bs [106,117] else if c.toNat=89 then bs [106,97] else if c.toNat=88 then bs [115,104] else if c.toNat <97 then bs [c.toNat+32] else bs [c.toNat]
def HB:List UInt8→ByteArray→ByteArray
 | [],a=>a
 |c::l,a=>HB l (a++jF c)
def keyOf(w:ByteArray):ByteArray:=HB w.data.toList (bs [])
theorem ajl{l:List UInt8}{c:UInt8}{a:ByteArray}(h:l[k]?=some c):HB (l.drop k) a=HB (l.drop (k+1)) (a++jF c):=by rw[gu h];rfl
theorem acd{l:List UInt8}{a:ByteArray}(h:l[k]?=none):HB (l.drop k) a=a:=by rw[eQ (by rw[List.getElem?_eq_none_iff] at h;omega)];rfl
def Eo(rs:List cG)(a b:ByteArray):Int:=match uq rs (keyOf a) (keyOf b) with
 |none=>2
 |some 0=>1
 |some _=>3
structure ri(w:ByteArray):Prop where
 n:1≤w.size∧w.size≤6
 s:Script w
def RA(c:UInt8):Prop:=Fu c=true∨E5 c=true
theorem ri.let{w:ByteArray}(h:ri w):∀c∈w.data.toList,RA c:=fun c hc=>h.s.elim (fun k=> .inl (k c hc)) fun k=> .inr (k c hc)
theorem Wx:((List.range 256).all fun n=> !(Fu (UInt8.ofNat n)||E5 (UInt8.ofNat n))||(aja (jF (UInt8.ofNat n))&&(Nat.ble 1 (jF (UInt8.ofNat n)).size&&Nat.ble (jF (UInt8.ofNat n)).size 2)))=true:=by kernel_rfl
theorem Nf{c:UInt8}(h:RA c):xm (jF c)∧1≤(jF c).size∧(jF c).size≤2:=by
 have h2:=List.all_eq_true.1 Wx c.toNat (List.mem_range.2 c.toNat_lt)
 have hb:UInt8.ofNat c.toNat=c:=by simp
 rw[hb] at h2
 have h3:(Fu c||E5 c)=true:=by rcases h with h|h<;>simp[h]
 rw[h3] at h2
 simp only[Bool.not_true,Bool.false_or,Bool.and_eq_true,Nat.ble_eq] at h2
 exact⟨Fo h2.1,h2.2⟩
theorem U0:∀ {l:List UInt8} {a:ByteArray},(∀c∈l,RA c)→xm a→xm (HB l a)∧(HB l a).size≤a.size+2*l.length
 | [],a,_,ha=>⟨ha,by simp[HB]⟩
 |c::l,a,h,ha=>by
  have h1:=Nf (h c (by simp))
  obtain⟨h2,h3⟩:=U0 (l:=l) (a:=a++jF c) (fun x hx=>h x (by simp[hx])) (ha.app h1.1)
  refine⟨h2,?_⟩
  simp only[HB,ByteArray.size_append,List.length_cons] at h3 ⊢
  omega
theorem Of{w:ByteArray}(h:ri w):xm (keyOf w)∧(keyOf w).size≤12:=by
 have h1:=U0 (l:=w.data.toList) (a:=bs []) h.let (fun b hb=>by cases hb)
 have h2:w.data.toList.length=w.size:=Array.length_toList
 have h3:=h.n
 exact⟨h1.1,by have:=h1.2;have e:(bs []).size=0:=rfl;unfold keyOf;omega⟩
theorem ai9{c:UInt8}(h:RA c)(h1:¬(c.toNat:Int)=67)(h2:¬(c.toNat:Int)=74)(h3:¬(c.toNat:Int)=89)(h4:¬(c.toNat:Int)=88):ab0 c=jF c:=by
 simp only[ab0,jF,if_neg (show ¬c.toNat=67 by omega),if_neg (show ¬c.toNat=74 by omega),if_neg (show ¬c.toNat=89 by omega),if_neg (show ¬c.toNat=88 by omega)]
 split
 ·simp only[Yt,bs]
  rw[r8 .u8 rfl _ (by omega) (by simp[IntKind.bits];omega),show ((c.toNat:Int)+32).toNat=c.toNat+32 by omega]
  rfl
 simp[tN,bs]
theorem let_128{c:UInt8}(h:RA c):c.toNat <128:=by
 rcases h with h|h
 ·simp only[Fu,Bool.and_eq_true,Nat.ble_eq] at h;omega
 simp only[E5,Bool.and_eq_true,Nat.ble_eq] at h;omega
theorem apJ{c:UInt8}{ro:Nat→Option Obj}(h:RA c):dL zT 205 [.int .i32 (c.toNat:Int)] ro (.string (jF c)):=by
 refine bC au [] [] bn<|zD 29<|zJ 5 ((c.toNat:Int)=67) (fun h1=>?_) fun h1=>?_
 ·
  refine zD 8<|aF q0 (.string (bs [99,104])) [] [] [] (Sub.refl _) ⟨_,_,rfl,rfl,by rw[jF,if_pos (by omega)]<;>rfl,rfl⟩
 refine zD 8<|zJ 7 ((c.toNat:Int)=74) (fun h2=>?_) fun h2=>?_
 ·
  refine zD 17<|jsa (a:=(bs [106])) (b:=(bs [117])) 9 (by decide)<|zD 3<|aF q0 (.string ((bs [106])++(bs [117]))) [] [] [] (Sub.refl _) ⟨_,_,rfl,rfl,by rw[jF,if_neg (by omega),if_pos (by omega)]<;>rfl,rfl⟩
 refine zD 8<|zJ 9 ((c.toNat:Int)=89) (fun h3=>?_) fun h3=>?_
 ·
  refine zD 16<|jsa (a:=(bs [106])) (b:=(bs [97])) 9 (by decide)<|zD 3<|aF q0 (.string ((bs [106])++(bs [97]))) [] [] [] (Sub.refl _) ⟨_,_,rfl,rfl,by rw[jF,if_neg (by omega),if_neg (by omega),if_pos (by omega)]<;>rfl,rfl⟩
 refine zD 7<|zJ 11 ((c.toNat:Int)=88) (fun h4=>?_) fun h4=>?_
 ·
  refine zD 8<|aF q0 (.string (bs [115,104])) [] [] [] (Sub.refl _) ⟨_,_,rfl,rfl,by rw[jF,if_neg (by omega),if_neg (by omega),if_neg (by omega),if_pos (by omega)]<;>rfl,rfl⟩
 refine zD 6<|je (.string (tN c)) (akP (let_128 h))<|jp (vs:=[.string (tN c)]) [] [] (fun aA hs hZ=>(aSd h))<|zD 3<|aF q0 (.string (ab0 c)) [] [] [] (Sub.refl _) ⟨_,_,rfl,rfl,by rw[ai9 h (by omega) (by omega) (by omega) (by omega)],rfl⟩
theorem ai2{w to:ByteArray}{ro:Nat→Option Obj}(hl:bK ro vl 2 jO rs)(hR:∀r∈rs,rh r)(hw:xm w)(rJ:w.size≤100)(hq:rs.length≤100):eG zT 182 [.string w,vl,.string to] ro [] (fun r Y=>(∃n v ps,uq rs w to=some n∧r= .tuple ⟨[v,.bool true]⟩∧az v 1 9 py ps Y∧ps.length=n+1)∨(uq rs w to=none∧r= .tuple ⟨[zS,.bool false]⟩∧Y=[])):=by
 obtain⟨fL,rD,rC,eV,rfl,tH,lJ,mE⟩:=hl
 refine bC au [] [] bn<|zD 11<|eN [1,0,1,0,0] [] (fun(zz:Nat)=>[(0,.string w),(1,.slice fL rs.length eV),(2,.string to),(11,zI (zz:Int))]) (fun(zz:Nat)=>[]) (fun(zz:Nat)=>zz≤3∧uq rs w to=uqN rs w to (3-zz) zz) (fun(zz:Nat)=>3-zz) 0 ⟨by omega,rfl⟩ [] ?_
 rintro k hI K1 bF rest
 refine zD 5<|zJ 12 ((k:Int) <3) (fun h1=>?_) fun h1=>?_
 ·
  refine zD 15<|jc (vs:=[.string w,.slice fL rs.length eV,.string to,zI (k:Int)]) [] (abJ (show bK _ _ _ _ _ from ⟨fL,rD,rC,eV,rfl,tH,lJ,mE⟩)) ?_
  rintro _ _ ⟨abY,abX,abW,abV,rfl,rfl⟩
  refine jg 0 [.b abY (.cells ⟨[.string w]⟩ 283 (0,0)),.b abX (.cells ⟨[.slice fL rs.length eV]⟩ 36 (0,0)),.b abW (.cells ⟨[.string to]⟩ 283 (0,0)),.b abV (.cells ⟨[zI (k:Int)]⟩ 3 (0,0))]<|jf [0,1,2,3] ((abY,.cells ⟨[.string w]⟩ 283 (0,0))::((abX,.cells ⟨[.slice fL rs.length eV]⟩ 36 (0,0))::((abW,.cells ⟨[.string to]⟩ 283 (0,0))::[(abV,.cells ⟨[zI (k:Int)]⟩ 3 (0,0))]))) fun ro4 qD Zd=>jc (vs:=[.func (.func 225) ⟨[]⟩ ⟨[zP abV,zP abW,zP abX,zP abY]⟩,.func (.func 208) ⟨[]⟩ ⟨[]⟩]) [] (apL (Xp (Zd _ (.tail _ (.tail _ (.tail _ (.head _))))) (Zd _ (.tail _ (.tail _ (.head _)))) (Zd _ (.tail _ (.head _))) (Zd _ (.head _)) ((show bK _ _ _ _ _ from ⟨fL,rD,rC,eV,rfl,tH,lJ,mE⟩).up qD) hR hw rJ hq (by omega)) (fun x hx=>by have:=LW hx;simp at this;omega)) ?_
  rintro _ L20 ⟨v20,rfl,aMu,aOS,arD⟩
  refine zD 10<|js 23 (decide (0 <(MC rs to k w []).length)) (fun h5=>?_) (fun h5=>?_)
  ·
   refine zD 8<|aF q0.a (.tuple ⟨[v20,.bool true]⟩) [] [0] L20 qD ⟨_,_,rfl,rfl,.inl ⟨k,v20,aMu,by rw[hI.2,show 3-k=(3-(k+1))+1 by omega,uqN,h5];rfl,rfl,aOS,by have:=LW (arD (of_decide_eq_true h5));simpa using this⟩⟩
  refine zD 3<|ja ((k:Int)+1) (by omega)<|zD 2<|bI bF (k+1) ⟨by omega,by rw[hI.2,show 3-k=(3-(k+1))+1 by omega,uqN,h5];rfl⟩ (by omega) [] qD
 refine zD 8<|aF q0 (.tuple ⟨[zS,.bool false]⟩) [] [] [] (Sub.refl _) ⟨_,_,rfl,rfl,.inr ⟨by rw[hI.2,show 3-k=0 by omega];rfl,rfl,rfl⟩⟩
theorem apZ{c:UInt8}(h:RA c):c.toNat <128:=by
 rcases h with h|h
 ·simp only[Fu,Bool.and_eq_true,Nat.ble_eq] at h;omega
 simp only[E5,Bool.and_eq_true,Nat.ble_eq] at h;omega
theorem apM{w to:ByteArray}{ro:Nat→Option Obj}(hl:bK ro vl 2 jO rs)(hR:∀r∈rs,rh r)(hw:xm w)(rJ:w.size≤100)(hq:rs.length≤100):eG zT 182 [.string w,vl,.string to] ro [] (fun r Y=>∃v ps ok,r= .tuple ⟨[v,.bool ok]⟩∧az v 1 9 py ps Y∧(ok=true→uq rs w to=some (ps.length-1)∧1≤ps.length)∧(ok=false→uq rs w to=none)):=by
 refine(ai2 hl hR hw rJ hq).mono fun _ _ h=>?_
 rcases h with ⟨n,v,ps,h1,h2,h3,h4⟩| ⟨h1,h2,h3⟩
 ·exact⟨v,ps,true,h2,h3,fun _=>⟨by rw[h4];exact h1,by omega⟩,nofun⟩
 subst h3;exact⟨_,[],false,h2,az.nil _ _ _,nofun,fun _=>h1⟩
def uN(rs:List cG)(a b:ByteArray):Int:=match uq rs a b with
 |some n=>n
 |none=>0
def uE(rs:List cG)(a b:ByteArray):Int:=match uq rs a b with
 |some _=>0
 |none=>11
theorem alG{a to:ByteArray}:∀ {f m n:Nat},uqN rs a to f m=some n→n <m+f
 |0,_,_,h=>by cases h
 |f+1,m,n,h=>by
  simp only[uqN] at h
  cases hd:decide (0 <(MC rs to m a []).length) with
  |true=>rw[hd] at h;simp only[cond_true,Option.some.injEq] at h;omega
  |false=>rw[hd] at h;simp only[cond_false] at h;have:=alG h;omega
theorem nOf{w:ByteArray}{ro:Nat→Option Obj}(hw:ri w):dL zT 181 [.string w] ro (.string (keyOf w)):=by
 refine bC au [] [] bn<|zD 12<|jn fun r7=>zD 2<|eN [1,1,0,1,0,0] [] (fun(zz:Nat×ByteArray)=>[(2,.string (bs [])),(3,.string zz.2),(7,zP r7)]) (fun(zz:Nat×ByteArray)=>[.b r7 (.stringIter w zz.1)]) (fun(zz:Nat×ByteArray)=>(zz.1≤w.data.toList.length∧zz.2.size≤2*zz.1)∧keyOf w=HB (w.data.toList.drop zz.1) zz.2) (fun(zz:Nat×ByteArray)=>w.data.toList.length-zz.1) (⟨0,(bs [])⟩) ⟨⟨by omega,Nat.le_refl _⟩,rfl⟩ [0] ?_
 rintro⟨p,a⟩ hI K1 bF rest
 dsimp only at hI
 refine zD 2 ?_
 cases hn8:w.data.toList[p]? with
 |some x8=>
  refine jnA r7 0 hn8 (apZ (hw.let _ (List.mem_of_getElem? hn8)))<|zD 11 ?_
  have hso:=Nf (hw.let _ (List.mem_of_getElem? hn8))
  have hlen:w.data.toList.length=w.size:=Array.length_toList
  have hwn:=hw.n
  refine zD 3<|jp (vs:=[.int .i32 (x8.toNat:Int)]) [] [] (fun aA hs hZ=>(apJ (hw.let _ (List.mem_of_getElem? hn8))))<|jsa (a:=a) (b:=(jF x8)) 9 (by omega)<|zD 2<|bI bF (⟨p+1,(a++jF x8)⟩) ⟨⟨by have:=(List.getElem?_eq_some_iff.1 hn8).1;dsimp only;omega,by dsimp only;rw[ByteArray.size_append];omega⟩,by rw[hI.2,ajl hn8]⟩ (by have:=(List.getElem?_eq_some_iff.1 hn8).1;dsimp only;omega) [0] (Sub.refl _)
 |none=>
  refine jnZ r7 0 hn8<|zD 11<|aF q0 (.string a) [] [] [] (Sub.refl _) ⟨_,_,rfl,rfl,by rw[hI.2,acd hn8],rfl⟩
theorem ai1{ro:Nat→Option Obj}(hl:bK ro vl 2 jO rs)(hR:∀r∈rs,rh r)(hq:rs.length≤4)(HK:ri na)(FP:ri nb):eG zT 141 [vl,.string na,.string nb] ro [] (fun r Y=>∃v ps e,r= .tuple ⟨[v,zI e]⟩∧az v 1 9 py ps Y∧ps.length≤3∧((e=0∧uq rs (keyOf na) (keyOf nb)=some (ps.length-1)∧1≤ps.length)∨(e=11∧uq rs (keyOf na) (keyOf nb)=none))):=by
 obtain⟨fL,rD,rC,eV,rfl,tH,lJ,mE⟩:=hl
 refine bC au [] [] bn<|zD 9<|jp (vs:=[.slice fL rs.length eV]) [] [] (fun aA hs hZ=>Xn ((show bK _ _ _ _ _ from ⟨fL,rD,rC,eV,rfl,tH,lJ,mE⟩).up hs) (by omega) hR)<|zD 14<|jn fun GR=>jp (vs:=[.slice (some ⟨GR,0,none⟩) 2 2]) [0] [(GR,.cells ⟨([na,nb].map py).flatten⟩ 9 (0,0))] (fun aA hs hZ=>abI (bR [na,nb] hZ.head (by intro p hp;rfl)) (by first|omega| (simp only[List.length_set,List.length_append,List.length_cons,List.length_nil];omega)) (by intro x hx;simp only[List.mem_cons,List.not_mem_nil,or_false] at hx;rcases hx with rfl|rfl;exact⟨HK.n,HK.s⟩;exact⟨FP.n,FP.s⟩)) ?_
 refine zD 12<|jp (vs:=[.string na]) [] [] (fun aA hs hZ=>(nOf HK))<|zD 2<|jp (vs:=[.string nb]) [] [] (fun aA hs hZ=>(nOf FP))<|jc (vs:=[.string (keyOf na),.slice fL rs.length eV,.string (keyOf nb)]) [] (apM (show bK _ _ _ _ _ from ⟨fL,rD,rC,eV,rfl,tH,lJ,mE⟩) hR (Of HK).1 (by have:=(Of HK).2;omega) (by omega)) ?_
 rintro _ L30 ⟨v30,aMt,aMD,rfl,BJ,aqE,aNx⟩
 refine zD 12<|js 34 (!aMD) (fun h1=>?_) (fun h1=>?_)
 ·
  try simp only[zB] at h1
  refine zD 7<|aF q0 (.tuple ⟨[zS,zI 11]⟩) [] [] [] (Sub.refl _) ⟨_,_,rfl,rfl,_,[],_,rfl,az.nil _ _ _,by simp,.inr ⟨rfl,aNx (by simp_all)⟩⟩
 try simp only[zB] at h1
 refine zD 9<|aF q0 (.tuple ⟨[v30,zI 0]⟩) [] [0] L30 (Sub.refl _) ⟨_,_,rfl,rfl,_,aMt,_,rfl,BJ,by have:=alG (aqE (by simp_all)).1;have:=(aqE (by simp_all)).2;omega,.inl ⟨rfl,aqE (by simp_all)⟩⟩
theorem ayI{ro:Nat→Option Obj}(hl:bK ro vl 2 jO rs)(hR:∀r∈rs,rh r)(hq:rs.length≤4)(HK:ri na)(FP:ri nb):dL zT 117 [vl,.string na,.string nb] ro (.tuple ⟨[zI (uN rs (keyOf na) (keyOf nb)),zI (uE rs (keyOf na) (keyOf nb))]⟩):=by
 obtain⟨fL,rD,rC,eV,rfl,tH,lJ,mE⟩:=hl
 refine bC au [] [] bn<|zD 10<|jc (vs:=[.slice fL rs.length eV,.string na,.string nb]) [] (ai1 (show bK _ _ _ _ _ from ⟨fL,rD,rC,eV,rfl,tH,lJ,mE⟩) hR hq HK FP) ?_
 rintro _ L14 ⟨v14,ayj,LD,rfl,Sf,bcJ,xC⟩
 refine zD 12<|js 18 (!decide (LD=0)) (fun h1=>?_) (fun h1=>?_)
 ·
  replace h1:=of_decide_eq_false (by simpa using h1)
  refine zD 8<|aF q0 (.tuple ⟨[zI 0,zI LD]⟩) [] [] [] (Sub.refl _) ⟨_,_,rfl,rfl,by rcases xC with ⟨h1,h2,h3⟩| ⟨h1,h2⟩<;>simp only[uN,uE,h2]<;>(subst h1;simp_all<;>omega),rfl⟩
 replace h1:=of_decide_eq_true (by simpa using h1)
 refine zD 5<|DY Sf<|ja ((ayj.length:Int)-1) (by omega)<|zD 4<|aF q0 (.tuple ⟨[zI ((ayj.length:Int)-1),zI 0]⟩) [] [] [] (Sub.refl _) ⟨_,_,rfl,rfl,by rcases xC with ⟨h1,h2,h3⟩| ⟨h1,h2⟩<;>simp only[uN,uE,h2]<;>(subst h1;simp_all<;>omega),rfl⟩
theorem NZ{ro:Nat→Option Obj}(hl:bK ro vl 2 jO rs)(hR:∀r∈rs,rh r)(hq:rs.length≤4)(HK:ri na)(FP:ri nb):dL zT 78 [vl,.string na,.string nb] ro (.tuple ⟨[zI (Eo rs na nb),zI 0]⟩):=by
 obtain⟨fL,rD,rC,eV,rfl,tH,lJ,mE⟩:=hl
 refine bC au [] [] bn<|zD 10<|jp (vs:=[.slice fL rs.length eV,.string na,.string nb]) [] [] (fun aA hs hZ=>ayI ((show bK _ _ _ _ _ from ⟨fL,rD,rC,eV,rfl,tH,lJ,mE⟩).up hs) hR hq HK FP)<|zD 14<|zJ 17 ((uE rs (keyOf na) (keyOf nb))=11) (fun h1=>?_) fun h1=>?_
 ·
  refine zD 7<|aF q0 (.tuple ⟨[zI 2,zI 0]⟩) [] [] [] (Sub.refl _) ⟨_,_,rfl,rfl,by simp only[uN,uE,Eo] at*;rcases huq:uq rs (keyOf na) (keyOf nb) with _|_|n<;>simp_all<;>omega,rfl⟩
 refine zD 7<|js 20 (!decide ((uE rs (keyOf na) (keyOf nb))=0)) (fun h2=>?_) (fun h2=>?_)
 ·
  replace h2:=of_decide_eq_false (by simpa using h2)
  refine zD 8<|aF q0 (.tuple ⟨[zI 0,zI (uE rs (keyOf na) (keyOf nb))]⟩) [] [] [] (Sub.refl _) ⟨_,_,rfl,rfl,by simp only[uN,uE,Eo] at*;rcases huq:uq rs (keyOf na) (keyOf nb) with _|_|n<;>simp_all<;>omega,rfl⟩
 replace h2:=of_decide_eq_true (by simpa using h2)
 refine zD 7<|zJ 24 ((uN rs (keyOf na) (keyOf nb))=0) (fun h3=>?_) fun h3=>?_
 ·
  refine zD 7<|aF q0 (.tuple ⟨[zI 1,zI 0]⟩) [] [] [] (Sub.refl _) ⟨_,_,rfl,rfl,by simp only[uN,uE,Eo] at*;rcases huq:uq rs (keyOf na) (keyOf nb) with _|_|n<;>simp_all<;>omega,rfl⟩
 refine zD 8<|aF q0 (.tuple ⟨[zI 3,zI 0]⟩) [] [] [] (Sub.refl _) ⟨_,_,rfl,rfl,by simp only[uN,uE,Eo] at*;rcases huq:uq rs (keyOf na) (keyOf nb) with _|_|n<;>simp_all<;>omega,rfl⟩
abbrev Qo(x:Int):List Value:=[.int .u8 x]
structure bU where
 c:Nat→Nat→Bool
abbrev BX(x:bU):List Value:=[.bool (x.c 0 0),.bool (x.c 0 1),.bool (x.c 0 2),.bool (x.c 0 3),.bool (x.c 1 0),.bool (x.c 1 1),.bool (x.c 1 2),.bool (x.c 1 3),.bool (x.c 2 0),.bool (x.c 2 1),.bool (x.c 2 2),.bool (x.c 2 3),.bool (x.c 3 0),.bool (x.c 3 1),.bool (x.c 3 2),.bool (x.c 3 3)]
def mP(cs:List bG):Nat→List Int
 |0=>[]
 |k+1=>mP cs k++[match cs[k]? with
  |some c=>if 0≤c.under then I1 .u8 (I1 .u8 0 (dE .u8 1 k)) ((mP cs k)[c.under.toNat]?.getD 0) else I1 .u8 0 (dE .u8 1 k)
  |none=>0]
theorem oA(cs:List bG):∀k,(mP cs k).length=k
 |0=>rfl
 |k+1=>by simp[mP,oA cs k]
theorem ak1{c:bG}{y:Int}(h:cs[k]?=some c) (hu:0≤c.under) (hy:(mP cs k)[c.under.toNat]?=some y):mP cs (k+1)=mP cs k++[I1 .u8 (I1 .u8 0 (dE .u8 1 k)) y]:=by
 simp only[mP,h,if_pos hu,hy,Option.getD_some]
theorem ak2{c:bG}(h:cs[k]?=some c) (hu:¬0≤c.under):mP cs (k+1)=mP cs k++[I1 .u8 0 (dE .u8 1 k)]:=by
 simp only[mP,h,if_neg hu]
def abZ(s:Int):Nat→Int
 |0=> -1
 |k+1=>bif hasB s k then k else abZ s k
def Ft(cs:List bG)(a b:Int):Int:=abZ (RM .u8 ((mP cs cs.length)[a.toNat]?.getD 0) ((mP cs cs.length)[b.toNat]?.getD 0)) cs.length
def VU(hd:List bY)(h:Int):Int:=match hd[h.toNat]? with
 |some x=>x.cls
 |none=>0
def Mi(K:bk)(x y:aE):Bool:=decide (Eo K.rules x.name y.name=2)
def B9(K:bk)(x y:aE):Bool:=if (x.head <0∨y.head <0)∨x.head=y.head then false else decide (Ft K.cs (VU K.hd x.head) (VU K.hd y.head) <0)
def Hp(on:Int)(a b:Int):List iD→Nat→Bool
 | [],_=>false
 |x::l,k=>(((hasB on k&&decide (x.a=a))&&decide (x.b=b))&& !x.same)||Hp on a b l (k+1)
def cZ(K:bk)(on:Int)(a b:Nat):Bool:=match K.before[a]?,K.after[b]? with
 |some x,some y=> !Mi K x y&&(!B9 K x y&& !Hp on a b K.facts 0)
 |_,_=>false
structure gT(K:bk):Prop where
 rules:K.rules.length≤4∧∀r∈K.rules,rh r
 before:K.before.length≤4∧∀p∈K.before,ri p.name∧nO K.hd p.head
 after:K.after.length≤4∧∀p∈K.after,ri p.name∧nO K.hd p.head
 eO:lF K.cs K.hd
 facts:K.facts.length≤4∧∀x∈K.facts,(0≤x.a∧x.a <K.before.length)∧(0≤x.b∧x.b <K.after.length)
def pF(ro:Nat→Option Obj)(f:Nat)(K:bk)(rows:List bU):Prop:=∃(c0 c1 c2 vc vh vr vb va vf vt:Value) (hv:List bp),
 ro f=some (.cells ⟨[c0,c1,c2,vc,vh,vr,vb,va,zI K.gone,zI K.new,zI K.af,vf,vt]⟩ 124 (0,0))∧jT ro vc vh K.cs hv K.hd∧dK dC hv K.hd∧
 bK ro vr 2 jO K.rules∧bK ro vb 5 e8 K.before∧bK ro va 5 e8 K.after∧bK ro vf 3 wo K.facts∧bK ro vt 16 BX rows
theorem pF.up{ro aL:Nat→Option Obj}{rows:List bU}(h:pF ro f K rows)(hs:Sub ro aL):pF aL f K rows:=by
 obtain⟨c0,c1,c2,vc,vh,vr,vb,va,vf,vt,hv,h1,h2,h3,h4,h5,h6,h7,h8⟩:=h
 exact⟨c0,c1,c2,vc,vh,vr,vb,va,vf,vt,hv,hs _ _ h1,h2.up hs,h3,h4.up hs,h5.up hs,h6.up hs,h7.up hs,h8.up hs⟩
theorem aK6{f i:Int}{ro:Nat→Option Obj}(hi:0≤i∧i≤8):dL zT 305 [.int .u8 f,zI i] ro (.bool (hasB f i)):=by
 refine bC au [] [] bn<|zD 8<|jsr (k:= .u8) (k':= .i64) (a:=f) (b:=i) 403 (by omega)<|zD 5<|aF q0 (.bool (decide ((RM .u8 (aQ .u8 f i) 1)=1))) [] [] [] (Sub.refl _) ⟨_,_,rfl,rfl,rfl,rfl⟩
theorem awW{f i:Int}{ro:Nat→Option Obj}(hi:0≤i∧i≤8):dL zT 306 [.int .u8 f,zI i] ro (.int .u8 (I1 .u8 f (dE .u8 1 i))):=by
 refine bC au [] [] bn<|zD 8<|jsh (k:= .u8) (k':= .i64) (a:=1) (b:=i) 403 (by omega)<|zD 4<|aF q0 (.int .u8 (I1 .u8 f (dE .u8 1 i))) [] [] [] (Sub.refl _) ⟨_,_,rfl,rfl,rfl,rfl⟩
theorem aoL{hv:List bp}{ro:Nat→Option Obj}(hR:jT ro vc vh cs hv hd)(oF:dK dC hv hd)(hT:lF cs hd):eG zT 304 [.agg ⟨[vc,vh]⟩] ro [] (fun r Y=>∃b vS LS vE,r= .tuple ⟨[zP b,zI 0]⟩∧az vS 1 403 Qo (mP cs cs.length) LS∧Y=(b,.cells ⟨[vc,vh,vS,vE]⟩ 407 (0,0))::LS):=by
 obtain⟨hc,hh,cY⟩:=id hR
 obtain⟨eL,AR,AQ,eF,rfl,Da,yR,yQ⟩:=hc
 obtain⟨dR,uZ,uY,dD,rfl,xu,qM,qL⟩:=hh
 have CC:=hT.nc
 have hnh:=hT.nh
 have hlen:=oF.len
 refine bC au [] [] bn<|zD 2<|jn fun b1=>jd 7 [0]<|jp (vs:=[.agg ⟨[.slice eL cs.length eF,.slice dR hv.length dD]⟩]) [] [] (fun aA hs hZ=>(T6 (hR.up hs) oF hT))<|jd 13 [0]<|jn fun fy=>jd 11 [1]<|qB<|eN [1,1,1,0,1,0,0] [] (fun(zz:Nat×Value×Cells)=>[(1,zP b1),(2,.pointer none),(3,zI 0),(5,zP fy),(20,.slice eL cs.length eF),(21,zI (cs.length:Int)),(22,zI (zz.1:Int))]) (fun(zz:Nat×Value×Cells)=>[.l zz.2.2,.b fy (.cells ⟨[.slice eL cs.length eF,.slice dR hv.length dD,zz.2.1,zS]⟩ 407 (0,0)),.b b1 (.cells ⟨[.slice eL cs.length eF,.slice dR hv.length dD]⟩ 35 (0,0))]) (fun(zz:Nat×Value×Cells)=>zz.1≤cs.length∧az zz.2.1 1 403 Qo (mP cs zz.1) zz.2.2) (fun(zz:Nat×Value×Cells)=>cs.length-zz.1) (⟨0,zS,[]⟩) ⟨by dsimp only;omega,az.nil _ _ _⟩ [0,1,2] ?_
 rintro⟨k,vS,LS⟩ hI K1 bF rest
 dsimp only at hI
 refine zD 5<|zJ 23 ((k:Int) <(cs.length:Int)) (fun h1=>?_) fun h1=>?_
 ·
  refine zD 7 ?_
  obtain⟨xX,lq⟩:=zG cs k
  refine iW eF 2 yR lq<|jl 0 (yQ _ _ lq)<|jn fun b7=>jd 4 [0] ?_
  have iO:=hT.cls _ _ lq
  have I3:=oA cs k
  refine zD 2<|jp (vs:=[.int .u8 0,zI (k:Int)]) [] [] (fun aA hs hZ=>(awW (by omega)))<|jd 9 [0]<|zJ 31 (xX.under≥0) (fun h2=>?_) fun h2=>?_
  ·
   refine jd 9 [2,0] ?_
   obtain⟨DL,xy⟩:=zG ((mP cs k)) (xX.under.toNat) (by first|omega| (simp only[List.length_set,List.length_append,List.length_cons,List.length_nil];omega))
   refine p5 xX.under 1 hI.2 xy (Int.toNat_of_nonneg (show 0≤xX.under∧xX.under <(((mP cs k)).length:Int) from (by have:=iO.2;simp only[oA];omega)).1).symm (fun b39 aQG=>?_)
   refine oV 0 [1] LS (fun s _ hZ=>cv hI.2 aQG hZ xy)<|jd 10 [2]<|jn fun b48=>k8 (sz:=1) (ps:=(mP cs k)) (qs:=[(I1 .u8 (I1 .u8 0 (dE .u8 1 (k:Int))) DL)]) (enc:=Qo) (w:= .slice (some ⟨b48,0,none⟩) 1 1) [2] [0] [(b48,.cells ⟨([(I1 .u8 (I1 .u8 0 (dE .u8 1 (k:Int))) DL)].map Qo).flatten⟩ 403 (0,0))] (hI.2) (fun s _ hZ=>cb [(I1 .u8 (I1 .u8 0 (dE .u8 1 (k:Int))) DL)] (hZ _ (.head _)) (by intro p hp;rfl)) (fun p _=>ar rfl) (by simp only[oA,List.length_cons,List.length_nil];omega) (fun v49 L49 FK=>?_)
   obtain⟨ah3,ahZ,ad1⟩:=FK.form
   subst ad1
   refine jd 5 [3]<|ja ((k:Int)+1) (by omega)<|zD 2<|bI bF (⟨k+1,(.slice ah3 (((mP cs k)++[(I1 .u8 (I1 .u8 0 (dE .u8 1 (k:Int))) DL)])).length ahZ),L49⟩) ⟨by dsimp only;omega,by rw[ak1 lq (by omega) xy];exact FK⟩ (by dsimp only;omega) [0,3,4] (Sub.refl _)
  refine jd 9 [2]<|jn fun b48=>k8 (sz:=1) (ps:=(mP cs k)) (qs:=[(I1 .u8 0 (dE .u8 1 (k:Int)))]) (enc:=Qo) (w:= .slice (some ⟨b48,0,none⟩) 1 1) [2] [0] [(b48,.cells ⟨([(I1 .u8 0 (dE .u8 1 (k:Int)))].map Qo).flatten⟩ 403 (0,0))] (hI.2) (fun s _ hZ=>cb [(I1 .u8 0 (dE .u8 1 (k:Int)))] (hZ _ (.head _)) (by intro p hp;rfl)) (fun p _=>ar rfl) (by simp only[oA,List.length_cons,List.length_nil];omega) (fun v49 L49 FK=>?_)
  obtain⟨ah3,ahZ,ad1⟩:=FK.form
  subst ad1
  refine jd 5 [3]<|ja ((k:Int)+1) (by omega)<|zD 2<|bI bF (⟨k+1,(.slice ah3 (((mP cs k)++[(I1 .u8 0 (dE .u8 1 (k:Int)))])).length ahZ),L49⟩) ⟨by dsimp only;omega,by rw[ak2 lq (by omega)];exact FK⟩ (by dsimp only;omega) [0,3,4] (Sub.refl _)
 refine jd 11 [2]<|qB<|eN [1,1,1,1,0,1,0,0] [] (fun(zz:Nat×Value×Cells×(List Value))=>[(2,.pointer none),(3,zI 0),(5,zP fy),(54,.slice dR hv.length dD),(55,zI (hv.length:Int)),(56,zI (zz.1:Int))]) (fun(zz:Nat×Value×Cells×(List Value))=>[.l zz.2.2.1,.b fy (.cells ⟨[.slice eL cs.length eF,.slice dR hv.length dD,vS,zz.2.1]⟩ 407 (0,0)),.l LS,.b b1 (.cells ⟨[.slice eL cs.length eF,.slice dR hv.length dD]⟩ 35 (0,0))]) (fun(zz:Nat×Value×Cells×(List Value))=>(zz.1≤hv.length∧zz.2.2.2.length≤zz.1)∧az zz.2.1 1 417 jz zz.2.2.2 zz.2.2.1) (fun(zz:Nat×Value×Cells×(List Value))=>hv.length-zz.1) (⟨0,zS,[],[]⟩) ⟨⟨by omega,Nat.le_refl _⟩,az.nil _ _ _⟩ [0,2,1,3] ?_
 rintro⟨j,vE,LE,es⟩ hJ K2 mL rest
 dsimp only at hJ
 refine zD 5<|zJ 57 ((j:Int) <(hv.length:Int)) (fun h3=>?_) fun h3=>?_
 ·
  refine zD 6 ?_
  obtain⟨Em,ajL⟩:=zG hv j
  refine iW dD 4 qM ajL<|jl 0 (qL _ _ ajL)<|jn fun rY=>xH 0 rY 0 [.string ByteArray.empty,zI 0,zI 0,zS] [.string Em.word,zI Em.cls,zI Em.n5,Em.eg] 117 (mI cY _ (List.mem_of_getElem? ajL)) rfl<|zD 3 ?_
  obtain⟨Zx,bbR,aOp⟩:=cY.get ajL
  obtain⟨fL,rD,rC,eV,hqe,tH,lJ,mE⟩:=aOp.2.2.2
  refine jmw 0 [.b rY (.cells ⟨[.string Em.word,zI Em.cls,zI Em.n5,.slice fL Zx.eg.length eV]⟩ 117 (0,0))] (L:=[(rY,.cells ⟨[.string Em.word,zI Em.cls,zI Em.n5,Em.eg]⟩ 117 (0,0))]) (by rw[hqe];rfl) ?_
  refine jd 6 [0]<|js 73 (!decide (Em.n5=(-1))) (fun h4=>?_) (fun h4=>?_)
  ·
   replace h4:=of_decide_eq_false (by simpa using h4)
   refine jd 11 [2,0]<|aH 9 fun rZ si qG=>jn fun b86=>bw qG [1,2,3,4,5]<|aH 10 fun tw tz rP=>k8 (sz:=1) (ps:=es) (qs:=[(.iface 410 (.agg ⟨[zI Em.n5]⟩):Value)]) (enc:=jz) (w:= .slice (some ⟨b86,0,none⟩) 1 1) [2] [0] [(b86,.cells ⟨([(.iface 410 (.agg ⟨[zI Em.n5]⟩):Value)].map jz).flatten⟩ 417 (0,0))] (hJ.2) (fun s _ hZ=>cb [(.iface 410 (.agg ⟨[zI Em.n5]⟩):Value)] (hZ _ (.head _)) (by intro p hp;rfl)) (by intro p hp;rw[List.mem_singleton] at hp;subst hp;exact ar rfl) (by simp only[List.length_cons,List.length_nil];omega) (fun v87 L87 adb=>?_)
   obtain⟨aJt,aI4,aPK⟩:=adb.form
   subst aPK
   refine iM rP [[2]]<|zD 2<|aH 13 fun AX A5 BO=>jd 1 [3]<|iM BO []<|zD 2<|ja ((j:Int)+1) (by omega)<|zD 2<|bI mL (⟨j+1,(.slice aJt ((es++[(.iface 410 (.agg ⟨[zI Em.n5]⟩):Value)])).length aI4),L87,(es++[(.iface 410 (.agg ⟨[zI Em.n5]⟩):Value)])⟩) ⟨⟨by dsimp only;omega,by simp only[List.length_append,List.length_cons,List.length_nil];omega⟩,adb⟩ (by dsimp only;omega) [0,3,4,5] (Sub.refl _)
  replace h4:=of_decide_eq_true (by simpa using h4)
  refine jd 8 [0]<|js 90 (!decide (Em.cls=(-1))) (fun h8=>?_) (fun h8=>?_)
  ·
   replace h8:=of_decide_eq_false (by simpa using h8)
   refine jd 13 [2,0,0]<|aH 11 fun Zq aab X9=>jn fun aFb=>bw X9 [1,2,3,4,5]<|aH 12 fun Zp aaa O2=>k8 (sz:=1) (ps:=es) (qs:=[(.iface 412 (.agg ⟨[zI Em.cls,.slice fL Zx.eg.length eV]⟩):Value)]) (enc:=jz) (w:= .slice (some ⟨aFb,0,none⟩) 1 1) [2] [0] [(aFb,.cells ⟨([(.iface 412 (.agg ⟨[zI Em.cls,.slice fL Zx.eg.length eV]⟩):Value)].map jz).flatten⟩ 417 (0,0))] (hJ.2) (fun s _ hZ=>cb [(.iface 412 (.agg ⟨[zI Em.cls,.slice fL Zx.eg.length eV]⟩):Value)] (hZ _ (.head _)) (by intro p hp;rfl)) (by intro p hp;rw[List.mem_singleton] at hp;subst hp;exact ar rfl) (by simp only[List.length_cons,List.length_nil];omega) (fun aZL aTP Vn=>?_)
   obtain⟨awj,awc,aAZ⟩:=Vn.form
   subst aAZ
   refine iM O2 [[2],[2]]<|zD 2<|aH 15 fun Zo Z8 hL8=>jd 1 [3]<|iM hL8 []<|zD 2<|ja ((j:Int)+1) (by omega)<|zD 2<|bI mL (⟨j+1,(.slice awj ((es++[(.iface 412 (.agg ⟨[zI Em.cls,.slice fL Zx.eg.length eV]⟩):Value)])).length awc),aTP,(es++[(.iface 412 (.agg ⟨[zI Em.cls,.slice fL Zx.eg.length eV]⟩):Value)])⟩) ⟨⟨by dsimp only;omega,by simp only[List.length_append,List.length_cons,List.length_nil];omega⟩,Vn⟩ (by dsimp only;omega) [0,3,4,5] (Sub.refl _)
  replace h8:=of_decide_eq_true (by simpa using h8)
  refine jd 11 [2,0]<|aH 9 fun Zn Z6 X7=>jn fun b69=>bw X7 [1,2,3,4,5]<|aH 10 fun H5 Ia vN=>k8 (sz:=1) (ps:=es) (qs:=[(.iface 414 (.agg ⟨[.slice fL Zx.eg.length eV]⟩):Value)]) (enc:=jz) (w:= .slice (some ⟨b69,0,none⟩) 1 1) [2] [0] [(b69,.cells ⟨([(.iface 414 (.agg ⟨[.slice fL Zx.eg.length eV]⟩):Value)].map jz).flatten⟩ 417 (0,0))] (hJ.2) (fun s _ hZ=>cb [(.iface 414 (.agg ⟨[.slice fL Zx.eg.length eV]⟩):Value)] (hZ _ (.head _)) (by intro p hp;rfl)) (by intro p hp;rw[List.mem_singleton] at hp;subst hp;exact ar rfl) (by simp only[List.length_cons,List.length_nil];omega) (fun v70 L70 adf=>?_)
  obtain⟨aJw,aI7,aPN⟩:=adf.form
  subst aPN
  refine iM vN [[2]]<|zD 2<|aH 13 fun MH M0 F6=>jd 1 [3]<|iM F6 []<|zD 2<|ja ((j:Int)+1) (by omega)<|zD 2<|bI mL (⟨j+1,(.slice aJw ((es++[(.iface 414 (.agg ⟨[.slice fL Zx.eg.length eV]⟩):Value)])).length aI7),L70,(es++[(.iface 414 (.agg ⟨[.slice fL Zx.eg.length eV]⟩):Value)])⟩) ⟨⟨by dsimp only;omega,by simp only[List.length_append,List.length_cons,List.length_nil];omega⟩,adf⟩ (by dsimp only;omega) [0,3,4,5] (Sub.refl _)
 refine zD 9<|aF q0 (.tuple ⟨[zP fy,zI 0]⟩) [] [1,2] ((fy,.cells ⟨[.slice eL cs.length eF,.slice dR hv.length dD,vS,vE]⟩ 407 (0,0))::LS) (Sub.refl _) ⟨_,_,rfl,rfl,_,_,LS,_,rfl,by have:=hI.2;rwa[show k=cs.length by omega] at this,rfl⟩
theorem UQ{s:Int}{j:Int}(h:0≤j):abZ s (j+1).toNat=bif hasB s j then j else abZ s j.toNat:=by
 obtain⟨m,rfl⟩:=Int.eq_ofNat_of_zero_le h
 rfl
theorem Ud{on a b:Int}{x:iD}(h:l[k]?=some x):Hp on a b (l.drop k) k=((((hasB on k&&decide (x.a=a))&&decide (x.b=b))&& !x.same)||Hp on a b (l.drop (k+1)) (k+1)):=by rw[gu h];rfl
theorem aaC{on a b:Int}(h:¬k <l.length):Hp on a b (l.drop k) k=false:=by rw[eQ h];rfl
theorem Vv{hv:List bp}{h:Int}{x:bp}(hS:dK dC hv hd)(hT:lF cs hd)(hk:nO hd h)(h0:0≤h)(hx:hv[h.toNat]?=some x):VU hd h=x.cls∧0≤x.cls∧x.cls <cs.length:=by
 obtain⟨y,hy,hs⟩:=hS.get hx
 rcases hk with rfl| ⟨_,z,hz,hc⟩
 ·omega
 rw[hy] at hz;cases hz
 have:=(hT.Ab _ _ hy).2.1
 exact⟨by simp[VU,hy,hs.2.1],hs.2.1▸hc,by rw[hs.2.1];exact this.2⟩
theorem Vu{hv:List bp}{h:Int}(hS:dK dC hv hd)(hk:nO hd h)(h0:0≤h):h <hv.length:=by
 rcases hk with rfl| ⟨_,z,hz,_⟩
 ·omega
 have:=(List.getElem?_eq_some_iff.1 hz).1
 rw[hS.len];omega
theorem aoC{hv:List bp}{a b:Int}{ro:Nat→Option Obj}(hR:jT ro vc vh cs hv hd)(oF:dK dC hv hd)(hT:lF cs hd)(ha:0≤a∧a <cs.length)(hb:0≤b∧b <cs.length):dL zT 303 [.agg ⟨[vc,vh]⟩,zI a,zI b] ro (.tuple ⟨[zI (Ft cs a b),zI 0]⟩):=by
 obtain⟨hc,hh,cY⟩:=id hR
 obtain⟨eL,AR,AQ,eF,rfl,Da,yR,yQ⟩:=hc
 obtain⟨dR,uZ,uY,dD,rfl,xu,qM,qL⟩:=hh
 have CC:=hT.nc
 have hnh:=hT.nh
 have hlen:=oF.len
 have I3:=oA cs cs.length
 refine bC au [] [] bn<|zD 2<|jn fun b3=>jd 6 [0]<|jc (vs:=[.agg ⟨[.slice eL cs.length eF,.slice dR hv.length dD]⟩]) [] (aoL hR oF hT) ?_
 rintro _ _ ⟨bT,vS,LS,vE,rfl,hS,rfl⟩
 refine jg 0 [.b bT (.cells ⟨[.slice eL cs.length eF,.slice dR hv.length dD,vS,vE]⟩ 407 (0,0)),.l LS]<|zD 5<|jf [0,1] ((bT,.cells ⟨[.slice eL cs.length eF,.slice dR hv.length dD,vS,vE]⟩ 407 (0,0))::LS) (fun AM bW jC=>?_)
 have hSS:=hS.nv jC.tail
 obtain⟨axT,baA,bay,aix,rfl,baz,axS,axR⟩:=hSS
 refine jd 17 [0]<|ja ((cs.length:Int)-1) (by omega)<|jp (vs:=[zI a,zI 0,zI ((cs.length:Int)-1)]) [] [] (fun aA hs hZ=>jh)<|zD 3<|js 20 (!(jb a 0 ((cs.length:Int)-1))) (fun h4=>?_) (fun h4=>?_)
 ·
  try simp only[zB] at h4
  exfalso;simp only[jb,Bool.not_eq_true',Bool.and_eq_false_iff,decide_eq_false_iff_not] at h4;omega
 try simp only[zB] at h4
 refine jd 6 [0]<|ja ((cs.length:Int)-1) (by omega)<|jp (vs:=[zI b,zI 0,zI ((cs.length:Int)-1)]) [] [] (fun aA hs hZ=>jh)<|zD 3<|js 20 (!(jb b 0 ((cs.length:Int)-1))) (fun h5=>?_) (fun h5=>?_)
 ·
  try simp only[zB] at h5
  exfalso;simp only[jb,Bool.not_eq_true',Bool.and_eq_false_iff,decide_eq_false_iff_not] at h5;omega
 try simp only[zB] at h5
 refine jd 8 [0]<|ja ((cs.length:Int)-1) (by omega)<|zD 3<|eN [1,1,1,0,1,0,0] [] (fun(zz:Int)=>[(1,zI a),(2,zI b),(8,zP bT),(10,zI zz)]) (fun(zz:Int)=>[.b b3 (.cells ⟨[.slice eL cs.length eF,.slice dR hv.length dD]⟩ 35 (0,0))]) (fun(zz:Int)=>(-1≤zz∧zz <cs.length)∧Ft cs a b=abZ (RM .u8 ((mP cs cs.length)[a.toNat]?.getD 0) ((mP cs cs.length)[b.toNat]?.getD 0)) (zz+1).toNat) (fun(zz:Int)=>(zz+1).toNat) ((cs.length:Int)-1) ⟨by omega,by rw[Ft,show ((cs.length:Int)-1+1).toNat=cs.length by omega]⟩ [0] ?_
 rintro j hI K1 bF rest
 refine zD 6<|zJ 40 (j≥0) (fun h6=>?_) fun h6=>?_
 ·
  refine zD 9<|jl (b:=bT) (off:=0) (m:=4) (vs:=[.slice eL cs.length eF,.slice dR hv.length dD,.slice axT ((mP cs cs.length).length) aix,vE]) 2 ⟨_,_,_,.inl (jC _ (.head _)),rfl⟩<|zD 1 ?_
  obtain⟨x48,FB⟩:=zG ((mP cs cs.length)) (a.toNat) (by simp only[oA];omega)
  refine Mw a aix 1 axS FB (Int.toNat_of_nonneg (show 0≤a∧a <(((mP cs cs.length)).length:Int) from (by simp only[oA];omega)).1).symm ?_
  refine jl 0 (axR _ _ FB)<|zD 3<|jl (b:=bT) (off:=0) (m:=4) (vs:=[.slice eL cs.length eF,.slice dR hv.length dD,.slice axT ((mP cs cs.length).length) aix,vE]) 2 ⟨_,_,_,.inl (jC _ (.head _)),rfl⟩<|zD 1 ?_
  obtain⟨x55,ajM⟩:=zG ((mP cs cs.length)) (b.toNat)
  refine Mw b aix 1 axS ajM (by omega)<|jl 0 (axR _ _ ajM)<|zD 2<|jp (vs:=[.int .u8 (RM .u8 x48 x55),zI j]) [] [] (fun aA hs hZ=>(aK6 (by omega)))<|zD 1<|js 59 (hasB (RM .u8 x48 x55) j) (fun h7=>?_) (fun h7=>?_)
  ·
   refine zD 8<|aF q0.a (.tuple ⟨[zI j,zI 0]⟩) [] [] [] bW ⟨_,_,rfl,rfl,by rw[hI.2,UQ (by omega),FB,ajM,Option.getD_some,Option.getD_some,show hasB _ _=true from (by assumption)];rfl,rfl⟩
  refine zD 4<|ja (j-1) (by omega)<|zD 2<|bI bF (j-1) ⟨by omega,by rw[hI.2,UQ (by omega),FB,ajM,Option.getD_some,Option.getD_some,show hasB _ _=false from (by assumption),show j-1+1=j by omega];rfl⟩ (by omega) [0] (Sub.refl _)
 refine zD 8<|aF q0.a (.tuple ⟨[zI (-1),zI 0]⟩) [] [] [] bW ⟨_,_,rfl,rfl,by rw[hI.2,show j= -1 by omega];rfl,rfl⟩
theorem ay3{ro:Nat→Option Obj}:dL zT 131 [] ro (.agg ⟨[.iface 262 (.agg ⟨[]⟩),.iface 263 (.agg ⟨[]⟩),.iface 264 (.agg ⟨[]⟩)]⟩):=by
 refine bC au [] [] bn<|zD 2<|jn fun b0=>jd 13 [0]<|aF q0 (.agg ⟨[.iface 262 (.agg ⟨[]⟩),.iface 263 (.agg ⟨[]⟩),.iface 264 (.agg ⟨[]⟩)]⟩) [0] [] [] (Sub.refl _) ⟨_,_,rfl,rfl,rfl,rfl⟩
theorem ap7{rows:List bU}{a:Nat}{on:Int}{ro:Nat→Option Obj}(hF:pF ro f K rows)(hV:gT K)(ha:K.before[a]?=some x) (hb:K.after[b]?=some y):dL zT 299 [.agg ⟨[]⟩,zP f,zI (a:Int),zI (b:Int),.int .u8 on] ro (.bool (Mi K x y)):=by
 obtain⟨c0,c1,c2,vc,vh,vr,vb,va,vf,vt,hv,hf,rO,oF,hr,Ds,HQ,I6,bM⟩:=id hF
 obtain⟨hc,hh,cY⟩:=id rO
 obtain⟨eL,AR,AQ,eF,rfl,Da,yR,yQ⟩:=hc
 obtain⟨dR,uZ,uY,dD,rfl,xu,qM,qL⟩:=hh
 obtain⟨mr,J3,J2,mo,rfl,Nv,Iy,Ix⟩:=hr
 obtain⟨lK,J8,J6,kT,rfl,J7,EP,EO⟩:=Ds
 obtain⟨lL,Kb,J9,kU,rfl,Ka,ET,ES⟩:=HQ
 obtain⟨mv,Rh,Rf,lg,rfl,Rg,J5,J4⟩:=I6
 obtain⟨nz,C9,C8,mX,rfl,Ns,J1,J0⟩:=bM
 have Qd:=hV.rules.1
 have FP:=hV.before.1
 have HK:=hV.after.1
 have hnf:=hV.facts.1
 have KY:=(List.getElem?_eq_some_iff.1 ha).1
 have X4:=(List.getElem?_eq_some_iff.1 hb).1
 refine bC au [] [] bn<|zD 2<|jn fun b5=>zD 8<|jl (b:=f) (off:=0) (m:=13) (vs:=[c0,c1,c2,.slice eL K.cs.length eF,.slice dR hv.length dD,.slice mr K.rules.length mo,.slice lK K.before.length kT,.slice lL K.after.length kU,zI K.gone,zI K.new,zI K.af,.slice mv K.facts.length lg,.slice nz rows.length mX]) 5 ⟨_,_,_,.inl hf,rfl⟩<|zD 4<|jl (b:=f) (off:=0) (m:=13) (vs:=[c0,c1,c2,.slice eL K.cs.length eF,.slice dR hv.length dD,.slice mr K.rules.length mo,.slice lK K.before.length kT,.slice lL K.after.length kU,zI K.gone,zI K.new,zI K.af,.slice mv K.facts.length lg,.slice nz rows.length mX]) 6 ⟨_,_,_,.inl hf,rfl⟩<|zD 1 ?_
 obtain⟨xX,lq⟩:=zG K.before a
 refine iW kT 5 EP lq<|zD 1<|jl 0 (EO _ _ lq)<|zD 4<|jl (b:=f) (off:=0) (m:=13) (vs:=[c0,c1,c2,.slice eL K.cs.length eF,.slice dR hv.length dD,.slice mr K.rules.length mo,.slice lK K.before.length kT,.slice lL K.after.length kU,zI K.gone,zI K.new,zI K.af,.slice mv K.facts.length lg,.slice nz rows.length mX]) 7 ⟨_,_,_,.inl hf,rfl⟩<|zD 1 ?_
 obtain⟨Wl,HG⟩:=zG K.after b
 refine iW kU 5 ET HG<|zD 1<|jl 0 (ES _ _ HG)<|jp (vs:=[.slice mr K.rules.length mo,.string xX.name,.string Wl.name]) [] [] (fun aA hs hZ=>NZ ((show bK _ _ _ _ _ from ⟨mr,J3,J2,mo,rfl,Nv,Iy,Ix⟩).up hs) hV.rules.2 Qd (hV.before.2 _ (List.mem_of_getElem? lq)).1 (hV.after.2 _ (List.mem_of_getElem? HG)).1)<|zD 9<|jp (vs:=[zI 0]) [] [] (fun aA hs hZ=>zu)<|zD 8<|aF q0 (.bool (decide ((Eo K.rules xX.name Wl.name)=2))) [] [] [] (Sub.refl _) ⟨_,_,rfl,rfl,by rw[ha] at lq;cases lq;rw[hb] at HG;cases HG;rfl,rfl⟩
theorem acA{rows:List bU}{a:Nat}{on:Int}{ro:Nat→Option Obj}(hF:pF ro f K rows)(hV:gT K)(ha:K.before[a]?=some x) (hb:K.after[b]?=some y):dL zT 301 [.agg ⟨[]⟩,zP f,zI (a:Int),zI (b:Int),.int .u8 on] ro (.bool (B9 K x y)):=by
 obtain⟨c0,c1,c2,vc,vh,vr,vb,va,vf,vt,hv,hf,rO,oF,hr,Ds,HQ,I6,bM⟩:=id hF
 obtain⟨hc,hh,cY⟩:=id rO
 obtain⟨eL,AR,AQ,eF,rfl,Da,yR,yQ⟩:=hc
 obtain⟨dR,uZ,uY,dD,rfl,xu,qM,qL⟩:=hh
 obtain⟨mr,J3,J2,mo,rfl,Nv,Iy,Ix⟩:=hr
 obtain⟨lK,J8,J6,kT,rfl,J7,EP,EO⟩:=Ds
 obtain⟨lL,Kb,J9,kU,rfl,Ka,ET,ES⟩:=HQ
 obtain⟨mv,Rh,Rf,lg,rfl,Rg,J5,J4⟩:=I6
 obtain⟨nz,C9,C8,mX,rfl,Ns,J1,J0⟩:=bM
 have Qd:=hV.rules.1
 have FP:=hV.before.1
 have HK:=hV.after.1
 have hnf:=hV.facts.1
 have KY:=(List.getElem?_eq_some_iff.1 ha).1
 have X4:=(List.getElem?_eq_some_iff.1 hb).1
 refine bC au [] [] bn<|zD 2<|jn fun b5=>zD 8<|jl (b:=f) (off:=0) (m:=13) (vs:=[c0,c1,c2,.slice eL K.cs.length eF,.slice dR hv.length dD,.slice mr K.rules.length mo,.slice lK K.before.length kT,.slice lL K.after.length kU,zI K.gone,zI K.new,zI K.af,.slice mv K.facts.length lg,.slice nz rows.length mX]) 6 ⟨_,_,_,.inl hf,rfl⟩<|zD 1 ?_
 obtain⟨xY,p7⟩:=zG K.before a
 refine iW kT 5 EP p7<|zD 1<|jl 3 (EO _ _ p7)<|zD 4<|jl (b:=f) (off:=0) (m:=13) (vs:=[c0,c1,c2,.slice eL K.cs.length eF,.slice dR hv.length dD,.slice mr K.rules.length mo,.slice lK K.before.length kT,.slice lL K.after.length kU,zI K.gone,zI K.new,zI K.af,.slice mv K.facts.length lg,.slice nz rows.length mX]) 7 ⟨_,_,_,.inl hf,rfl⟩<|zD 1 ?_
 obtain⟨oE,jZ⟩:=zG K.after b
 refine iW kU 5 ET jZ<|zD 1<|jl 3 (ES _ _ jZ)<|zD 9<|jj 3 [(1,zP f),(10,.bool false),(11,zI xY.head),(12,zI oE.head),(38,.bool ((decide (xY.head <0))||(decide (oE.head <0))))] (fun gZ=>?_) (fun hj=>?_)
 rotate_left
 refine js 35 (decide (xY.head <0)) (fun h1=>?_) (fun h1=>?_)
 ·
  have gD:=h1
  replace gD:=of_decide_eq_true gD
  refine zD 3<|jw 38 (.bool ((decide (xY.head <0))||(decide (oE.head <0)))) (w:= .bool true) (by rw[h1]<;>rfl) ?_
  exact hj _ (by kernel_rfl) (by kernel_rfl)
 ·
  have gD:=h1
  replace gD:=of_decide_eq_false gD
  refine zD 3<|jw 38 (.bool ((decide (xY.head <0))||(decide (oE.head <0)))) (w:= .bool (decide (oE.head <0))) (by rw[h1]<;>rfl) ?_
  exact hj _ (by kernel_rfl) (by kernel_rfl)
 refine zD 1<|jj 4 [(1,zP f),(10,.bool false),(11,zI xY.head),(12,zI oE.head),(43,.bool (((decide (xY.head <0))||(decide (oE.head <0)))||(decide (xY.head=oE.head))))] (fun gZ=>?_) (fun hj=>?_)
 rotate_left
 refine js 39 ((decide (xY.head <0))||(decide (oE.head <0))) (fun h2=>?_) (fun h2=>?_)
 ·
  have mz:=h2
  try simp only[zB] at mz
  refine zD 4<|jw 43 (.bool (((decide (xY.head <0))||(decide (oE.head <0)))||(decide (xY.head=oE.head)))) (w:= .bool true) (by rw[h2]<;>rfl) ?_
  exact hj _ (by kernel_rfl) (by kernel_rfl)
 ·
  have mz:=h2
  try simp only[zB] at mz
  refine zD 4<|jw 43 (.bool (((decide (xY.head <0))||(decide (oE.head <0)))||(decide (xY.head=oE.head)))) (w:= .bool (decide (xY.head=oE.head))) (by rw[h2]<;>rfl) ?_
  exact hj _ (by kernel_rfl) (by kernel_rfl)
 refine zD 1<|js 43 (((decide (xY.head <0))||(decide (oE.head <0)))||(decide (xY.head=oE.head))) (fun h3=>?_) (fun h3=>?_)
 ·
  try simp only[zB] at h3
  refine zD 6<|aF q0 (.bool false) [] [] [] (Sub.refl _) ⟨_,_,rfl,rfl,by rw[ha] at p7;cases p7;rw[hb] at jZ;cases jZ;rw[B9,if_pos (by omega)],rfl⟩
 try simp only[zB] at h3
 refine zD 8<|jl (b:=f) (off:=0) (m:=13) (vs:=[c0,c1,c2,.slice eL K.cs.length eF,.slice dR hv.length dD,.slice mr K.rules.length mo,.slice lK K.before.length kT,.slice lL K.after.length kU,zI K.gone,zI K.new,zI K.af,.slice mv K.facts.length lg,.slice nz rows.length mX]) 3 ⟨_,_,_,.inl hf,rfl⟩<|zD 5<|jl (b:=f) (off:=0) (m:=13) (vs:=[c0,c1,c2,.slice eL K.cs.length eF,.slice dR hv.length dD,.slice mr K.rules.length mo,.slice lK K.before.length kT,.slice lL K.after.length kU,zI K.gone,zI K.new,zI K.af,.slice mv K.facts.length lg,.slice nz rows.length mX]) 4 ⟨_,_,_,.inl hf,rfl⟩<|zD 1 ?_
 obtain⟨x57,Dg⟩:=zG hv (xY.head.toNat) (by have:=Vu oF (hV.before.2 _ (List.mem_of_getElem? p7)).2 (by omega);omega)
 refine Mw xY.head dD 4 qM Dg (Int.toNat_of_nonneg (show 0≤xY.head∧xY.head <((hv).length:Int) from (by have:=Vu oF (hV.before.2 _ (List.mem_of_getElem? p7)).2 (by omega);omega)).1).symm ?_
 refine zD 1<|jl 1 (qL _ _ Dg)<|zD 5<|jl (b:=f) (off:=0) (m:=13) (vs:=[c0,c1,c2,.slice eL K.cs.length eF,.slice dR hv.length dD,.slice mr K.rules.length mo,.slice lK K.before.length kT,.slice lL K.after.length kU,zI K.gone,zI K.new,zI K.af,.slice mv K.facts.length lg,.slice nz rows.length mX]) 4 ⟨_,_,_,.inl hf,rfl⟩<|zD 1 ?_
 obtain⟨x67,ajK⟩:=zG hv (oE.head.toNat) (by have:=Vu oF (hV.after.2 _ (List.mem_of_getElem? jZ)).2 (by omega);omega)
 refine Mw oE.head dD 4 qM ajK (Int.toNat_of_nonneg (show 0≤oE.head∧oE.head <((hv).length:Int) from (by have:=Vu oF (hV.after.2 _ (List.mem_of_getElem? jZ)).2 (by omega);omega)).1).symm ?_
 refine zD 1<|jl 1 (qL _ _ ajK)<|jp (vs:=[.agg ⟨[.slice eL K.cs.length eF,.slice dR hv.length dD]⟩,zI x57.cls,zI x67.cls]) [] [] (fun aA hs hZ=>aoC (rO.up hs) oF hV.eO (Vv oF hV.eO (hV.before.2 _ (List.mem_of_getElem? p7)).2 (by omega) Dg).2 (Vv oF hV.eO (hV.after.2 _ (List.mem_of_getElem? jZ)).2 (by omega) ajK).2)<|zD 9<|jp (vs:=[zI 0]) [] [] (fun aA hs hZ=>zu)<|zD 8<|aF q0 (.bool (decide ((Ft K.cs x57.cls x67.cls) <0))) [] [] [] (Sub.refl _) ⟨_,_,rfl,rfl,by rw[ha] at p7;cases p7;rw[hb] at jZ;cases jZ;rw[B9,if_neg (by omega),(Vv oF hV.eO (hV.before.2 _ (List.mem_of_getElem? ha)).2 (by omega) Dg).1,(Vv oF hV.eO (hV.after.2 _ (List.mem_of_getElem? hb)).2 (by omega) ajK).1],rfl⟩
theorem ajm{rows:List bU}{a:Nat}{on:Int}{ro:Nat→Option Obj}(hF:pF ro f K rows)(hV:gT K):dL zT 307 [.agg ⟨[]⟩,zP f,zI (a:Int),zI (b:Int),.int .u8 on] ro (.bool (Hp on a b K.facts 0)):=by
 obtain⟨c0,c1,c2,vc,vh,vr,vb,va,vf,vt,hv,hf,rO,oF,hr,Ds,HQ,I6,bM⟩:=id hF
 obtain⟨hc,hh,cY⟩:=id rO
 obtain⟨eL,AR,AQ,eF,rfl,Da,yR,yQ⟩:=hc
 obtain⟨dR,uZ,uY,dD,rfl,xu,qM,qL⟩:=hh
 obtain⟨mr,J3,J2,mo,rfl,Nv,Iy,Ix⟩:=hr
 obtain⟨lK,J8,J6,kT,rfl,J7,EP,EO⟩:=Ds
 obtain⟨lL,Kb,J9,kU,rfl,Ka,ET,ES⟩:=HQ
 obtain⟨mv,Rh,Rf,lg,rfl,Rg,J5,J4⟩:=I6
 obtain⟨nz,C9,C8,mX,rfl,Ns,J1,J0⟩:=bM
 have Qd:=hV.rules.1
 have FP:=hV.before.1
 have HK:=hV.after.1
 have hnf:=hV.facts.1
 refine bC au [] [] bn<|zD 2<|jn fun b5=>zD 9<|jl (b:=f) (off:=0) (m:=13) (vs:=[c0,c1,c2,.slice eL K.cs.length eF,.slice dR hv.length dD,.slice mr K.rules.length mo,.slice lK K.before.length kT,.slice lL K.after.length kU,zI K.gone,zI K.new,zI K.af,.slice mv K.facts.length lg,.slice nz rows.length mX]) 11 ⟨_,_,_,.inl hf,rfl⟩<|zD 4<|eN [1,0,1,0,0] [] (fun(zz:Nat)=>[(2,zI (a:Int)),(3,zI (b:Int)),(4,.int .u8 on),(17,.slice mv K.facts.length lg),(18,zI (K.facts.length:Int)),(19,zI (zz:Int))]) (fun(zz:Nat)=>[]) (fun(zz:Nat)=>zz≤K.facts.length∧Hp on a b K.facts 0=Hp on a b (K.facts.drop zz) zz) (fun(zz:Nat)=>K.facts.length-zz) 0 ⟨by omega,rfl⟩ [] ?_
 rintro k hI K1 bF rest
 refine zD 5<|zJ 20 ((k:Int) <(K.facts.length:Int)) (fun h1=>?_) fun h1=>?_
 ·
  refine zD 7 ?_
  obtain⟨rS,tV⟩:=zG K.facts k
  refine iW lg 3 J5 tV<|jl 0 (J4 _ _ tV)<|jn fun jP=>jd 7 [0]<|jp (vs:=[.int .u8 on,zI (k:Int)]) [] [] (fun aA hs hZ=>(aqr (by omega)))<|zD 1<|jj 5 [(2,zI (a:Int)),(3,zI (b:Int)),(4,.int .u8 on),(12,zP jP),(17,.slice mv K.facts.length lg),(18,zI (K.facts.length:Int)),(19,zI (k:Int)),(32,.bool ((hasB on (k:Int))&&(decide (rS.a=(a:Int)))))] (fun gZ=>?_) (fun hj=>?_)
  rotate_left
  refine js 27 (hasB on (k:Int)) (fun h2=>?_) (fun h2=>?_)
  ·
   refine jd 5 [0]<|jw 32 (.bool ((hasB on (k:Int))&&(decide (rS.a=(a:Int))))) (w:= .bool (decide (rS.a=(a:Int)))) (by rw[h2]<;>rfl) ?_
   exact hj _ (by kernel_rfl) (by kernel_rfl)
  ·
   refine zD 5<|jw 32 (.bool ((hasB on (k:Int))&&(decide (rS.a=(a:Int))))) (w:= .bool false) (by rw[h2]<;>rfl) ?_
   exact hj _ (by kernel_rfl) (by kernel_rfl)
  refine zD 1<|jj 5 [(2,zI (a:Int)),(3,zI (b:Int)),(4,.int .u8 on),(12,zP jP),(17,.slice mv K.facts.length lg),(18,zI (K.facts.length:Int)),(19,zI (k:Int)),(38,.bool (((hasB on (k:Int))&&(decide (rS.a=(a:Int))))&&(decide (rS.b=(b:Int)))))] (fun gZ=>?_) (fun hj=>?_)
  rotate_left
  refine js 33 ((hasB on (k:Int))&&(decide (rS.a=(a:Int)))) (fun h3=>?_) (fun h3=>?_)
  ·
   have vP:=h3
   try simp only[zB] at vP
   refine jd 5 [0]<|jw 38 (.bool (((hasB on (k:Int))&&(decide (rS.a=(a:Int))))&&(decide (rS.b=(b:Int))))) (w:= .bool (decide (rS.b=(b:Int)))) (by rw[h3]<;>rfl) ?_
   exact hj _ (by kernel_rfl) (by kernel_rfl)
  ·
   have vP:=h3
   try simp only[zB] at vP
   refine zD 5<|jw 38 (.bool (((hasB on (k:Int))&&(decide (rS.a=(a:Int))))&&(decide (rS.b=(b:Int))))) (w:= .bool false) (by rw[h3]<;>rfl) ?_
   exact hj _ (by kernel_rfl) (by kernel_rfl)
  refine zD 1<|jj 4 [(2,zI (a:Int)),(3,zI (b:Int)),(4,.int .u8 on),(17,.slice mv K.facts.length lg),(18,zI (K.facts.length:Int)),(19,zI (k:Int)),(43,.bool ((((hasB on (k:Int))&&(decide (rS.a=(a:Int))))&&(decide (rS.b=(b:Int))))&&(!rS.same)))] (fun gZ=>?_) (fun hj=>?_)
  rotate_left
  refine js 39 (((hasB on (k:Int))&&(decide (rS.a=(a:Int))))&&(decide (rS.b=(b:Int)))) (fun h4=>?_) (fun h4=>?_)
  ·
   have xN:=h4
   try simp only[zB] at xN
   refine jd 4 [0]<|jw 43 (.bool ((((hasB on (k:Int))&&(decide (rS.a=(a:Int))))&&(decide (rS.b=(b:Int))))&&(!rS.same))) (w:= .bool (!rS.same)) (by rw[h4]<;>rfl) ?_
   exact hj _ (by kernel_rfl) (by kernel_rfl)
  ·
   have xN:=h4
   try simp only[zB] at xN
   refine zD 4<|jw 43 (.bool ((((hasB on (k:Int))&&(decide (rS.a=(a:Int))))&&(decide (rS.b=(b:Int))))&&(!rS.same))) (w:= .bool false) (by rw[h4]<;>rfl) ?_
   exact hj _ (by kernel_rfl) (by kernel_rfl)
  refine zD 1<|js 43 ((((hasB on (k:Int))&&(decide (rS.a=(a:Int))))&&(decide (rS.b=(b:Int))))&&(!rS.same)) (fun h5=>?_) (fun h5=>?_)
  ·
   refine zD 6<|aF q0 (.bool true) [] [] [] (Sub.refl _) ⟨_,_,rfl,rfl,by rw[hI.2,Ud tV,show (((hasB on k&&decide (rS.a=a))&&decide (rS.b=b))&& !rS.same)=true from (by assumption)];rfl,rfl⟩
  refine zD 3<|ja ((k:Int)+1) (by omega)<|zD 2<|bI bF (k+1) ⟨by omega,by rw[hI.2,Ud tV,show (((hasB on k&&decide (rS.a=a))&&decide (rS.b=b))&& !rS.same)=false from (by assumption)];rfl⟩ (by omega) [] (Sub.refl _)
 refine zD 7<|aF q0 (.bool false) [] [] [] (Sub.refl _) ⟨_,_,rfl,rfl,by rw[hI.2,aaC (by omega)],rfl⟩
theorem ay5{rows:List bU}{a:Nat}{on:Int}{ro:Nat→Option Obj}(hF:pF ro f K rows)(hV:gT K)(ha:K.before[a]?=some x) (hb:K.after[b]?=some y):dL zT 98 [zP f,zI (a:Int),zI (b:Int),.int .u8 on] ro (.bool (cZ K on a b)):=by
 refine bC au [] [] bn<|zD 7<|jp [] [] (fun aA hs hZ=>ay3)<|zD 3<|eN [1,0,1,0,0] [] (fun(zz:Nat)=>[(0,zP f),(1,zI (a:Int)),(2,zI (b:Int)),(3,.int .u8 on),(11,.agg ⟨[.iface 262 (.agg ⟨[]⟩),.iface 263 (.agg ⟨[]⟩),.iface 264 (.agg ⟨[]⟩)]⟩),(12,zI (zz:Int))]) (fun(zz:Nat)=>[]) (fun(zz:Nat)=>zz≤3∧(1≤zz→Mi K x y=false)∧(2≤zz→B9 K x y=false)∧(3≤zz→Hp on a b K.facts 0=false)) (fun(zz:Nat)=>3-zz) 0 ⟨by omega,nofun,nofun,nofun⟩ [] ?_
 rintro k hI K1 bF rest
 refine zD 5<|zJ 13 ((k:Int) <3) (fun h1=>?_) fun h1=>?_
 ·
  refine zD 6 ?_
  obtain rfl|rfl|rfl:k=0∨k=1∨k=2:=by omega
  ·
   refine zD 10<|jpI (vs:=[.agg ⟨[]⟩,zP f,zI (a:Int),zI (b:Int),.int .u8 on]) (fun aA hs=>ap7 (hF.up hs) hV ha hb)<|zD 1<|js 20 (Mi K x y) (fun h2=>?_) (fun h2=>?_)
   ·
    refine zD 6<|aF q0 (.bool false) [] [] [] (Sub.refl _) ⟨_,_,rfl,rfl,by simp only[cZ,ha,hb];simp[*],rfl⟩
   refine zD 6<|bI bF 1 ⟨by omega,(fun _=>by assumption),nofun,nofun⟩ (by omega) [] (Sub.refl _)
  ·
   refine zD 10<|jpI (vs:=[.agg ⟨[]⟩,zP f,zI (a:Int),zI (b:Int),.int .u8 on]) (fun aA hs=>acA (hF.up hs) hV ha hb)<|zD 1<|js 20 (B9 K x y) (fun h3=>?_) (fun h3=>?_)
   ·
    refine zD 6<|aF q0 (.bool false) [] [] [] (Sub.refl _) ⟨_,_,rfl,rfl,by simp only[cZ,ha,hb];simp[*],rfl⟩
   refine zD 6<|bI bF 2 ⟨by omega,(fun _=>hI.2.1 (by omega)),(fun _=>by assumption),nofun⟩ (by omega) [] (Sub.refl _)
  refine zD 10<|jpI (vs:=[.agg ⟨[]⟩,zP f,zI (a:Int),zI (b:Int),.int .u8 on]) (fun aA hs=>ajm (hF.up hs) hV)<|zD 1<|js 20 (Hp on a b K.facts 0) (fun h4=>?_) (fun h4=>?_)
  ·
   refine zD 6<|aF q0 (.bool false) [] [] [] (Sub.refl _) ⟨_,_,rfl,rfl,by simp only[cZ,ha,hb];simp[*],rfl⟩
  refine zD 6<|bI bF 3 ⟨by omega,(fun _=>hI.2.1 (by omega)),(fun _=>hI.2.2.1 (by omega)),(fun _=>by assumption)⟩ (by omega) [] (Sub.refl _)
 refine zD 7<|aF q0 (.bool true) [] [] [] (Sub.refl _) ⟨_,_,rfl,rfl,by simp only[cZ,ha,hb,hI.2.1 (by omega),hI.2.2.1 (by omega),hI.2.2.2 (by omega)];rfl,rfl⟩
abbrev eP4(p:Nat→Int):List Value:=[zI (p 0),zI (p 1),zI (p 2),zI (p 3)]
abbrev pL(p:Nat→Int):List Int:=[p 0,p 1,p 2,p 3]
def pN(p:Nat→Int)(a:Nat)(v:Int):Nat→Int:=fun i=>if i=a then v else p i
theorem Kz{a:Nat}(h:a <4):a=0∨a=1∨a=2∨a=3:=by omega
theorem apv{a:Nat}(h:a <4):nth (eP4 p) (0+(a:Int).toNat*1)=some (zI (p a)):=by
 rcases Kz h with rfl|rfl|rfl|rfl<;>rfl
theorem apu{a:Nat}{v:Int}(h:a <4):dz (eP4 p) (0+(a:Int).toNat*1) [zI v]=eP4 (pN p a v):=by
 rcases Kz h with rfl|rfl|rfl|rfl<;>rfl
theorem apw{a:Nat}{v:Value}(h:a <4):Nat.ble ((0+(a:Int).toNat*1)+[v].length) (eP4 p).length=true:=by
 rcases Kz h with rfl|rfl|rfl|rfl<;>rfl
theorem Ug{r:bU}{a:Nat}(h:a <4)(k:b <4):nth (BX r) (0+(a:Int).toNat*4+(b:Int).toNat*1)=some (.bool (r.c a b)):=by
 rcases Kz h with rfl|rfl|rfl|rfl<;>rcases Kz k with rfl|rfl|rfl|rfl<;>rfl
def iT(r:bU)(a b:Nat)(v:Bool):bU:=⟨fun i j=>if i=a∧j=b then v else r.c i j⟩
theorem Uf{r:bU}{a:Nat}{v:Bool}(h:a <4)(k:b <4):dz (BX r) (0+(a:Int).toNat*4+(b:Int).toNat*1) [.bool v]=BX (iT r a b v):=by
 rcases Kz h with rfl|rfl|rfl|rfl<;>rcases Kz k with rfl|rfl|rfl|rfl<;>rfl
theorem Uh{r:bU}{a:Nat}{v:Value}(h:a <4)(k:b <4):Nat.ble ((0+(a:Int).toNat*4+(b:Int).toNat*1)+[v].length) (BX r).length=true:=by
 rcases Kz h with rfl|rfl|rfl|rfl<;>rcases Kz k with rfl|rfl|rfl|rfl<;>rfl
def oJ(on:Int)(p:Nat→Int):List iD→Nat→Bool
 | [],_=>true
 |x::l,k=>bif (hasB on k&&x.same)&& !decide (p x.a.toNat=x.b+1) then false else oJ on p l (k+1)
theorem wN{on:Int}{x:iD}(h:l[k]?=some x):oJ on p (l.drop k) k=bif (hasB on k&&x.same)&& !decide (p x.a.toNat=x.b+1) then false else oJ on p (l.drop (k+1)) (k+1):=by rw[gu h];rfl
theorem Q1{on:Int}(h:¬k <l.length):oJ on p (l.drop k) k=true:=by rw[eQ h];rfl
def SA(p:Nat→Int)(a:Nat)(v:Int):Bool:=decide (cQ (fun y=>decide (v=y)) ((pL p).take a) 0≥0)
theorem aie{ro:Nat→Option Obj}{n:Nat}(h:ro b=some (.cells ⟨eP4 p⟩ T (0,0)))(hn:n≤4):bK ro (.slice (some ⟨b,0,none⟩) n 4) 1 cS ((pL p).take n):=by
 have:=bK.part (bR (enc:=cS) (T:=T) (pL p) h (fun _ _=>rfl)) (l:=0) (h:=n) (by omega) (by simpa using hn)
 simpa [dO] using this
theorem aqB{v:Value}{n:Int}{ro:Nat→Option Obj}(hl:bK ro v 1 cS xs)(hn:xs.length≤1000000):dL zT 132 [v,zI n] ro (zI (cQ (fun y=>decide (n=y)) xs 0)):=by
 obtain⟨fL,rD,rC,eV,rfl,tH,lJ,mE⟩:=hl
 refine bC au [] [] bn<|zD 12<|eN [1,0,1,0,0] [] (fun(zz:Nat)=>[(0,.slice fL xs.length eV),(1,zI n),(7,zI (xs.length:Int)),(8,zI (zz:Int))]) (fun(zz:Nat)=>[]) (fun(zz:Nat)=>zz≤xs.length∧cQ (fun y=>decide (n=y)) xs 0=cQ (fun y=>decide (n=y)) (xs.drop zz) zz) (fun(zz:Nat)=>xs.length-zz) 0 ⟨by omega,rfl⟩ [] ?_
 rintro k hI K1 bF rest
 refine zD 5<|zJ 9 ((k:Int) <(xs.length:Int)) (fun h1=>?_) fun h1=>?_
 ·
  refine zD 14 ?_
  obtain⟨fU,eI⟩:=zG xs k
  refine iW eV 1 lJ eI<|jl 0 (mE _ _ eI)<|zD 2<|zJ 16 (n=fU) (fun h2=>?_) fun h2=>?_
  ·
   refine zD 7<|aF q0 (zI (k:Int)) [] [] [] (Sub.refl _) ⟨_,_,rfl,rfl,by rw[hI.2,jN eI];simp[*],rfl⟩
  refine zD 3<|ja ((k:Int)+1) (by omega)<|zD 2<|bI bF (k+1) ⟨by omega,by rw[hI.2,jN eI];simp[*]⟩ (by omega) [] (Sub.refl _)
 refine zD 7<|aF q0 (zI (-1)) [] [] [] (Sub.refl _) ⟨_,_,rfl,rfl,by rw[hI.2,qk (by omega)],rfl⟩
theorem aNv{v:Value}{n:Int}{ro:Nat→Option Obj}(hl:bK ro v 1 cS xs)(hn:xs.length≤1000000):dL zT 103 [v,zI n] ro (.bool (decide (cQ (fun y=>decide (n=y)) xs 0≥0))):=by
 obtain⟨fL,rD,rC,eV,rfl,tH,lJ,mE⟩:=hl
 refine bC au [] [] bn<|zD 8<|jp (vs:=[.slice fL xs.length eV,zI n]) [] [] (fun aA hs hZ=>aqB ((show bK _ _ _ _ _ from ⟨fL,rD,rC,eV,rfl,tH,lJ,mE⟩).up hs) (by first|omega| (simp only[List.length_set,List.length_append,List.length_cons,List.length_nil];omega))) ?_
 refine zD 4<|aF q0 (.bool (decide ((cQ (fun y=>decide (n=y)) xs 0)≥0))) [] [] [] (Sub.refl _) ⟨_,_,rfl,rfl,rfl,rfl⟩
theorem ap8{rows:List bU}{on:Int}{ro:Nat→Option Obj}(hF:pF ro f K rows)(hV:gT K)(g1:ro b1=some (.cells ⟨[zP f]⟩ 80 (0,0)))(g2:ro b2=some (.cells ⟨[.int .u8 on]⟩ 85 (0,0))):dL zT 99 [.agg ⟨[zI (p 0),zI (p 1),zI (p 2),zI (p 3)]⟩,zP b1,zP b2] ro (.bool (oJ on p K.facts 0)):=by
 obtain⟨c0,c1,c2,vc,vh,vr,vb,va,vf,vt,hv,hf,rO,oF,hr,Ds,HQ,I6,bM⟩:=id hF
 obtain⟨hc,hh,cY⟩:=id rO
 obtain⟨eL,AR,AQ,eF,rfl,Da,yR,yQ⟩:=hc
 obtain⟨dR,uZ,uY,dD,rfl,xu,qM,qL⟩:=hh
 obtain⟨mr,J3,J2,mo,rfl,Nv,Iy,Ix⟩:=hr
 obtain⟨lK,J8,J6,kT,rfl,J7,EP,EO⟩:=Ds
 obtain⟨lL,Kb,J9,kU,rfl,Ka,ET,ES⟩:=HQ
 obtain⟨mv,Rh,Rf,lg,rfl,Rg,J5,J4⟩:=I6
 obtain⟨nz,C9,C8,mX,rfl,Ns,J1,J0⟩:=bM
 have Qd:=hV.rules.1
 have FP:=hV.before.1
 have HK:=hV.after.1
 have hnf:=hV.facts.1
 refine bC au [] [] bn<|zD 2<|jn fun b3=>zD 5<|jl (b:=b1) (off:=0) (m:=1) (vs:=[zP f]) 0 ⟨_,_,_,.inl g1,rfl⟩<|zD 3<|jl (b:=f) (off:=0) (m:=13) (vs:=[c0,c1,c2,.slice eL K.cs.length eF,.slice dR hv.length dD,.slice mr K.rules.length mo,.slice lK K.before.length kT,.slice lL K.after.length kU,zI K.gone,zI K.new,zI K.af,.slice mv K.facts.length lg,.slice nz rows.length mX]) 11 ⟨_,_,_,.inl hf,rfl⟩<|zD 4<|eN [1,0,1,0,0] [] (fun(zz:Nat)=>[(2,zP b2),(3,zP b3),(11,.slice mv K.facts.length lg),(12,zI (K.facts.length:Int)),(13,zI (zz:Int))]) (fun(zz:Nat)=>[.b b3 (.cells ⟨[zI (p 0),zI (p 1),zI (p 2),zI (p 3)]⟩ 89 (0,0))]) (fun(zz:Nat)=>zz≤K.facts.length∧oJ on p K.facts 0=oJ on p (K.facts.drop zz) zz) (fun(zz:Nat)=>K.facts.length-zz) 0 ⟨by omega,rfl⟩ [0] ?_
 rintro k hI K1 bF rest
 refine zD 5<|zJ 14 ((k:Int) <(K.facts.length:Int)) (fun h1=>?_) fun h1=>?_
 ·
  refine zD 7 ?_
  obtain⟨AZ,oM⟩:=zG K.facts k
  refine iW lg 3 J5 oM<|jl 0 (J4 _ _ oM)<|jn fun b6=>jd 4 [0] ?_
  have hf4:=(hV.facts.2 _ (List.mem_of_getElem? oM)).1
  have hf5:=(hV.facts.2 _ (List.mem_of_getElem? oM)).2
  have hae:AZ.a=(AZ.a.toNat:Int):=by omega
  refine zD 1<|jl (b:=b2) (off:=0) (m:=1) (vs:=[.int .u8 on]) 0 ⟨_,_,_,.inl g2,rfl⟩<|zD 1<|jp (vs:=[.int .u8 on,zI (k:Int)]) [] [] (fun aA hs hZ=>(aqr (by omega)))<|zD 1<|js 3 (hasB on (k:Int)) (fun h2=>?_) (fun h2=>?_)
  ·
   refine jd 4 [0]<|js 7 AZ.same (fun h3=>?_) (fun h3=>?_)
   ·
    refine jd 2 [0]<|IZ (b:=b3) (off:=0) (len:=4) (sz:=1) AZ.a (by omega)<|oV (b:=b3) (off:=0+AZ.a.toNat*1) (m:=1) (vs:=[zI (p AZ.a.toNat)]) 0 [1] [(b3,.cells ⟨[zI (p 0),zI (p 1),zI (p 2),zI (p 3)]⟩ 89 (0,0))] (fun s _ hZ=>sC (hZ _ (.head _)) (by rw[hae];exact apv (by omega))) ?_
    refine jd 2 [0]<|ja (AZ.b+1) (by omega)<|zD 3<|js 34 (!decide ((p AZ.a.toNat)=(AZ.b+1))) (fun h4=>?_) (fun h4=>?_)
    ·
     replace h4:=of_decide_eq_false (by simpa using h4)
     refine zD 6<|aF q0 (.bool false) [] [] [] (Sub.refl _) ⟨_,_,rfl,rfl,by rw[hI.2,wN oM];simp only[h2,h3,decide_eq_false h4,Bool.and_true,Bool.true_and,Bool.not_false,Bool.not_true,Bool.and_false,Bool.false_and,cond_true,cond_false],rfl⟩
    replace h4:=of_decide_eq_true (by simpa using h4)
    refine zD 3<|ja ((k:Int)+1) (by omega)<|zD 2<|bI bF (k+1) ⟨by omega,by rw[hI.2,wN oM];simp only[h2,h3,decide_eq_true h4,Bool.and_true,Bool.true_and,Bool.not_false,Bool.not_true,Bool.and_false,Bool.false_and,cond_true,cond_false]⟩ (by omega) [1] (Sub.refl _)
   refine zD 13<|ja ((k:Int)+1) (by omega)<|zD 2<|bI bF (k+1) ⟨by omega,by rw[hI.2,wN oM];simp only[h2,h3,Bool.and_true,Bool.true_and,Bool.not_false,Bool.not_true,Bool.and_false,Bool.false_and,cond_true,cond_false]⟩ (by omega) [1] (Sub.refl _)
  refine zD 17<|ja ((k:Int)+1) (by omega)<|zD 2<|bI bF (k+1) ⟨by omega,by rw[hI.2,wN oM];simp only[h2,Bool.and_true,Bool.true_and,Bool.not_false,Bool.not_true,Bool.and_false,Bool.false_and,cond_true,cond_false]⟩ (by omega) [1] (Sub.refl _)
 refine zD 7<|aF q0 (.bool true) [] [] [] (Sub.refl _) ⟨_,_,rfl,rfl,by rw[hI.2,Q1 (by omega)],rfl⟩
end Go.L
