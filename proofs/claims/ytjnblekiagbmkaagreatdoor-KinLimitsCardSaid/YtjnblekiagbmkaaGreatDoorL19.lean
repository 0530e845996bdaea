/- Part 19 of the proof: a program logic, contracts, a theorem on goroutines. -/
import Derived.Test.YtjnblekiagbmkaaGreatDoorL18
set_option maxRecDepth 100000
set_option linter.all false
namespace Go.L
open Go Go.Conc Go.Proofs
variable {ways:List (List aM)} {K:bk} {ys xs:List Int} {l:List Value} {k b n b1 bl b2 b3 fc i ck0 en ec:Nat} {Stop:Cells→Prop} {x f y g j:Int} {α:Type} {vS vT:Value} {B LE:Cells}
structure YP(ro:Nat→Option Obj)(bl b b1 b2 b3:Nat):Prop where
 t:ro b1=some (.cells ⟨[zP b]⟩ 176 (0,0))
 y:ro b2=some (.cells ⟨[.func (.yield bl) #[] #[]]⟩ 253 (0,0))
 g:ro b3=some (.cells ⟨[.func (.func 150) ⟨[]⟩ ⟨[zP b1,zP b2,zP b3]⟩]⟩ 253 (0,0))
theorem YP.up{ro aL:Nat→Option Obj}(h:YP ro bl b b1 b2 b3)(hs:Sub ro aL):YP aL bl b b1 b2 b3:=⟨hs _ _ h.t,hs _ _ h.y,hs _ _ h.g⟩
theorem aEe{t:Tx}{S:List (List ah)}{ro:Nat→Option Obj}(Hd:H2 ro b S ways):dL zT 151 [zP b,.agg ⟨[.slice t.a t.n t.c,.slice t.ea t.en t.ec,(.map (some t.r))]⟩] ro (.bool true):=by
 obtain⟨vS,vT,vH,fa,fc,gb,hS,hT,hHs⟩:=Hd
 have xM:=hS
 obtain⟨jm,hs,fY⟩:=hS
 obtain⟨mU,Uq,Uo,mj,rfl,Up,Nu,Nt⟩:=hs
 obtain⟨jV,ht,fO⟩:=id hT
 obtain⟨fg,AP,AN,eA,rfl,AO,tq,tk⟩:=ht
 have HM:=fY.len
 have D7:=fO.len
 have P5:∀(i:Nat) (p:eE),([]:List eE)[i]?=some p→cg ⟨ro,[]⟩ 0 (0+i*6) 6 (oz p):=fun _ _ h=>oS h
 refine bC au [] [] bn<|zD 2<|jn fun b3=>zD 9<|jl (b:=b) (off:=0) (m:=4) (vs:=[.slice mU jm.length mj,.slice fg jV.length eA,.slice fa 0 fc,vH]) 2 ⟨_,_,_,.inl gb,rfl⟩<|zD 4<|eN [1,0,1,0,0] [] (fun(zz:Nat)=>[(3,zP b3),(11,.slice fa 0 fc),(12,zI 0),(13,zI 0)]) (fun(zz:Nat)=>[.b b3 (.cells ⟨[.slice t.a t.n t.c,.slice t.ea t.en t.ec,(.map (some t.r))]⟩ 185 (0,0))]) (fun(zz:Nat)=>True) (fun(zz:Nat)=>zz) 0 trivial [0] ?_
 rintro z hI K1 bF rest
 refine zD 12<|aF q0 (.bool true) [] [] [] (Sub.refl _) ⟨_,_,rfl,rfl,rfl,rfl⟩
theorem afa{ro:Nat→Option Obj}:eG zT 122 [zP b] ro [] (fun r Y=>∃b1,r= .func (.func 149) ⟨[]⟩ ⟨[zP b1]⟩∧Y=[(b1,.cells ⟨[zP b]⟩ 176 (0,0))]):=by
 refine bC au [] [] bn<|zD 2<|jn fun b1=>zD 8<|aF q0 (.func (.func 149) ⟨[]⟩ ⟨[zP b1]⟩) [] [0] [(b1,.cells ⟨[zP b]⟩ 176 (0,0))] (Sub.refl _) ⟨_,_,rfl,rfl,_,rfl,rfl⟩
theorem afc{S:List (List ah)}{L:List TrD}{Inv:Nat→Cells→Prop}{t:Tx}{x:TrD}{LL:Cells}{ro:Nat→Option Obj}(Hd:H2 ro b S ways)(hC:YP ro bl b b1 b2 b3)(hn:t.n=ways.length)(hx:L[k]?=some x) (hR:TrO (bA S) LL t x) (hB:Inv k B) (hy:YO zT bl ro L.length (akQ (bA S) L) Inv Stop):eG zT 150 [.agg ⟨[.slice t.a t.n t.c,.slice t.ea t.en t.ec,(.map (some t.r))]⟩,zP b1,zP b2,zP b3] ro (LL++B) (fun r Y=>∃c,r= .bool c∧(c=true→Inv (k+1) Y)∧(c=false→Stop Y)):=by
 have akk:=Hd
 obtain⟨vS,vT,vH,fa,fc,gb,hS,hT,hHs⟩:=Hd
 have xM:=hS
 obtain⟨jm,hs,fY⟩:=hS
 obtain⟨mU,Uq,Uo,mj,rfl,Up,Nu,Nt⟩:=hs
 obtain⟨jV,ht,fO⟩:=id hT
 obtain⟨fg,AP,AN,eA,rfl,AO,tq,tk⟩:=ht
 have HM:=fY.len
 have D7:=fO.len
 have P5:∀(i:Nat) (p:eE),([]:List eE)[i]?=some p→cg ⟨ro,[]⟩ 0 (0+i*6) 6 (oz p):=fun _ _ h=>oS h
 refine bC au [.l LL,.l B] [] bn<|zD 2<|jn fun b4=>jd 13 [0]<|jl (b:=b1) (off:=0) (m:=1) (vs:=[zP b]) 0 ⟨_,_,_,.inl hC.t,rfl⟩<|zD 3<|jl (b:=b) (off:=0) (m:=4) (vs:=[.slice mU jm.length mj,.slice fg jV.length eA,.slice fa 0 fc,vH]) 1 ⟨_,_,_,.inl gb,rfl⟩<|zD 3<|zJ 21 ((t.n:Int)=(jV.length:Int)) (fun h1=>?_) fun h1=>?_
 ·
  refine zD 3<|jl (b:=b1) (off:=0) (m:=1) (vs:=[zP b]) 0 ⟨_,_,_,.inl hC.t,rfl⟩<|jd 1 [0]<|jp (vs:=[zP b,.agg ⟨[.slice t.a t.n t.c,.slice t.ea t.en t.ec,(.map (some t.r))]⟩]) [] [] (fun aA hs hZ=>aEe (t:=t) (akk.up hs))<|zD 2<|jl (b:=b2) (off:=0) (m:=1) (vs:=[(.func (.yield bl) #[] #[])]) 0 ⟨_,_,_,.inl hC.y,rfl⟩<|jd 1 [0]<|jyc [1,2] (hy k [.agg ⟨[.slice t.a t.n t.c,.slice t.ea t.en t.ec,(.map (some t.r))]⟩] LL B ro (List.getElem?_eq_some_iff.1 hx).1 ⟨x,t,hx,rfl,hR⟩ hB (Sub.refl _)) (Sub.refl _) ?_
  intro v29 Y29 aNH
  obtain⟨c29,rfl,aQo,aQb⟩:=yb aNH
  refine zD 4<|aF q0 (.bool c29) [] [0] Y29 (Sub.refl _) ⟨_,_,rfl,rfl,_,rfl,aQo,aQb⟩
 exfalso;omega
theorem aSb{S:List (List ah)}{l:List aM}{Inv:Nat→Cells→Prop}{ea:Option Addr}{r0:Nat}{es0:Array MapEntry}{F0:List (aj×Value)}{Z:Cells}{ro:Nat→Option Obj}(Hd:H2 ro b S [l])(hO:eZ S)(hW:xV [l])(hC:YP ro bl b b1 b2 b3)(hE:∀aL,Knows aL LE→cK aL (.slice ea en ec) S)(hE0:td oK F0 es0 ck0)(hk0:F0.map (·.1)=bA S)(hM0:MV Z F0 id)(hB:Inv 0 B)(hy:YO zT bl ro (cP S [l]).length (akQ (bA S) (cP S [l])) Inv Stop):eG zT 150 [.agg ⟨[zS,.slice ea en ec,(.map (some r0))]⟩,zP b1,zP b2,zP b3] ro (LE++(r0,.map es0 ck0)::(Z++B)) (fun r Y=>∃c,r= .bool c∧(c=true→Inv l.length Y)∧(c=false→Stop Y)):=by
 have akk:=Hd
 obtain⟨vS,vT,vH,fa,fc,gb,hS,hT,hHs⟩:=Hd
 have xM:=hS
 obtain⟨jm,hs,fY⟩:=hS
 obtain⟨w1,w2,rfl⟩:=pO (fY.len.trans hO.two)
 obtain⟨mU,Uq,Uo,mj,rfl,Up,Nu,Nt⟩:=hs
 obtain⟨jV,ht,fO⟩:=id hT
 obtain⟨fg,AP,AN,eA,rfl,AO,tq,tk⟩:=ht
 have D7:=fO.len
 have P5:∀(i:Nat) (p:eE),([]:List eE)[i]?=some p→cg ⟨ro,[]⟩ 0 (0+i*6) 6 (oz p):=fun _ _ h=>oS h
 refine bC au [.l LE,.b r0 (.map es0 ck0),.l Z,.l B] [] bn<|zD 2<|jn fun b4=>zD 1<|jf [1,2,3] (LE++((r0,.map es0 ck0)::Z)) (fun AM bW jC=>?_)
 have hE1:=hE _ (Knows.left jC)
 have He:PW AM r0 (bA S) id es0 ck0 F0:=⟨Knows.right jC _ (.head _),hE0,hk0,hM0 _ (Knows.tail (Knows.right jC))⟩
 refine jd 12 [0]<|jl (b:=b1) (off:=0) (m:=1) (vs:=[zP b]) 0 ⟨_,_,_,.inl (bW _ _ hC.t),rfl⟩<|zD 3<|jl (b:=b) (off:=0) (m:=4) (vs:=[.slice mU 2 mj,.slice fg jV.length eA,.slice fa 0 fc,vH]) 1 ⟨_,_,_,.inl (bW _ _ gb),rfl⟩<|zD 3<|zJ 21 (0=(jV.length:Int)) (fun h4=>?_) fun h4=>?_
 ·
  exfalso;simp at D7;omega
 refine zD 4 ?_
 have XW:jV.length=1:=D7
 refine zD 1<|jl (b:=b1) (off:=0) (m:=1) (vs:=[zP b]) 0 ⟨_,_,_,.inl (bW _ _ hC.t),rfl⟩<|zD 3<|jl (b:=b) (off:=0) (m:=4) (vs:=[.slice mU 2 mj,.slice fg jV.length eA,.slice fa 0 fc,vH]) 1 ⟨_,_,_,.inl (bW _ _ gb),rfl⟩<|zD 1 ?_
 obtain⟨x37,XI⟩:=zG jV 0
 refine iW eA 1 tq XI<|zD 1 ?_
 obtain⟨l39,aAy,Zj⟩:=fO.get XI
 obtain aO8:=hW.ok _ (List.mem_of_getElem? aAy)
 obtain ad2:l39=l:=Option.some.inj (aAy.symm.trans rfl)
 obtain⟨aLT,baJ,baH,axW,rfl,baI,aLS,aLR⟩:=Zj
 refine jl 0 ((tk _ _ XI).ext (ud bW))<|zD 4<|eN [1,1,1,0,1,0,0] [] (fun(zz:Nat×Cells)=>[(1,zP b1),(3,zP b3),(4,zP b4),(39,.slice aLT l39.length axW),(40,zI (l39.length:Int)),(41,zI (zz.1:Int))]) (fun(zz:Nat×Cells)=>[.l zz.2,.b b4 (.cells ⟨[zS,.slice ea en ec,(.map (some r0))]⟩ 185 (0,0))]) (fun(zz:Nat×Cells)=>zz.1≤l39.length∧Inv zz.1 zz.2) (fun(zz:Nat×Cells)=>l39.length-zz.1) (⟨0,B⟩) ⟨by dsimp only;omega,hB⟩ [1,0] ?_
 rintro⟨i,B⟩ hI K1 bF rest
 dsimp only at hI
 refine zD 5<|zJ 42 ((i:Int) <(l39.length:Int)) (fun h5=>?_) fun h5=>?_
 ·
  refine zD 7 ?_
  obtain⟨Wk,HF⟩:=zG l39 i
  refine iW axW 7 aLS HF<|jl 0 ((aLR _ _ HF).ext (ud bW))<|jn fun b8=>jd 4 [0] ?_
  have hco:=aO8.2 _ (List.mem_of_getElem? HF)
  refine jd 4 [2,0]<|jc (vs:=[.agg ⟨[.slice ea en ec]⟩,.agg ⟨[zI Wk.k,zI Wk.st,zI Wk.ot,zI Wk.fn,zI Wk.fl,zI Wk.tn,zI Wk.tl]⟩]) [] (aSf (c:=Wk) hco (hE1.up (Sub.refl _)) hO) ?_
  rintro _ _ ⟨r9,F9,LM9,Z9,rfl,rfl,hm9,hk9,hM9⟩
  obtain⟨es9,ck9,rfl,hE9⟩:=hm9
  refine jg 0 [.b r9 (.map es9 ck9),.l Z9]<|zD 5<|jf [0,1] ((r9,.map es9 ck9)::Z9) (fun ro8 yx hk7=>?_)
  have hP2:PW ro8 r9 (bA S) (yo S Wk) es9 ck9 F9:=⟨hk7 _ (.head _),hE9,hk9,hM9 _ (Knows.tail hk7)⟩
  refine zD 11<|jl (b:=b3) (off:=0) (m:=1) (vs:=[.func (.func 150) ⟨[]⟩ ⟨[zP b1,zP b2,zP b3]⟩]) 0 ⟨_,_,_,.inl (yx _ _ (bW _ _ hC.g)),rfl⟩<|jd 4 [2]<|jl (b:=b1) (off:=0) (m:=1) (vs:=[zP b]) 0 ⟨_,_,_,.inl (yx _ _ (bW _ _ hC.t)),rfl⟩<|zD 4<|jl (b:=b) (off:=0) (m:=4) (vs:=[.slice mU 2 mj,.slice fg jV.length eA,.slice fa 0 fc,vH]) 0 ⟨_,_,_,.inl (yx _ _ (bW _ _ gb)),rfl⟩<|jd 4 [2]<|lD [3,5] ⟨fun z2 t3 rP=>?_,fun z5 t6 O2=>?_,trivial⟩
  ·
   refine jc (vs:=[zS]) [] (aEl (bK.nil _ _ _ _ _) (by simp)) ?_
   rintro v58 L58 adA
   obtain⟨ah2,ahY,Sr⟩:=adA.form
   subst Sr
   refine bw rP [1,2,3]<|aH 5 fun Zo Z8 hL8=>jn fun b60=>bw hL8 [1,2,3,4]<|aH 6 fun Zn Z6 X7=>k8 (sz:=1) (ps:=([]:List Int)) (qs:=[(i:Int)]) (enc:=cS) (w:= .slice (some ⟨b60,0,none⟩) 1 1) [1] [0] [(b60,.cells ⟨([(i:Int)].map cS).flatten⟩ 3 (0,0))] (adA) (fun s _ hZ=>cb [(i:Int)] (hZ _ (.head _)) (by intro p hp;rfl)) (fun p _=>ar rfl) (by simp only[List.length_cons,List.length_nil];omega) (fun v61 L61 FI=>?_)
   obtain⟨ZS,ZM,asd⟩:=FI.form
   subst asd
   refine iM X7 [[4],[],[],[]]<|aH 15 fun H5 Ia vN=>jc (vs:=[(.map (some r9)),zI 2]) [] (afh (hP2.up (Sub.refl _)) (tZ hO) (fun x hx=>abL hco (OA hO (by rw[←hk9];exact List.mem_map_of_mem (f:=(·.1)) hx)))) ?_
   rintro _ L70 ⟨a70,n70,c70,rfl⟩
   refine bw vN [1,2,3,4,5]<|aH 19 fun MH M0 F6=>jc (vs:=[(.map (some r0)),(.map (some r9))]) [] (ang (He.up yx) (hP2.up (Sub.refl _))) ?_
   rintro _ _ ⟨r74,F74,aTA,Z74,rfl,rfl,arB,arW,asM⟩
   obtain⟨Lx,LV,rfl,atr⟩:=arB
   refine jg 0 [.b r74 (.map Lx LV),.l Z74]<|bw F6 [2,3,4,5,6,7]<|zD 1<|aH 21 fun TK TY F5=>jc (vs:=[.agg ⟨[(.slice ZS ((([]:List Int)++[(i:Int)])).length ZM),.slice a70 n70 c70,(.map (some r74))]⟩,zP b1,zP b2,zP b3]) [3,0,1,6] ((show eG _ _ _ _ (L61++(r74,.map Lx LV)::(Z74++B)) _ from by have:=afc (t:=⟨ZS,((([]:List Int)++[(i:Int)])).length,ZM,a70,n70,c70,r74⟩) (LL:=L61++(r74,.map Lx LV)::Z74) (akk.up (bW.trans yx)) (hC.up (bW.trans yx)) rfl (H7 (by rw[←ad2];exact HF)) (fun aL hk=>⟨by simpa using FI.nv (Knows.left hk),Lx,LV,F74,(Knows.right hk) _ (.head _),atr,arW,fun y hy=>asM aL (Knows.tail (Knows.right hk)) y hy⟩) hI.2 (hy.up (bW.trans yx));rwa[List.append_assoc,List.cons_append] at this)) ?_
   rintro _ Y76 ⟨c76,rfl,asx,asr⟩
   refine iM F5 [[],[]]<|zD 2<|js 77 (!c76) (fun Gb=>?_) (fun Gb=>?_)
   ·
    try simp only[zB] at Gb
    refine zD 6<|aF q0.a.a (.bool false) [] [0] Y76 (bW.trans yx) ⟨_,_,rfl,rfl,_,rfl,nofun,fun _=>asr (by simp_all)⟩
   try simp only[zB] at Gb
   refine zD 3<|ja ((i:Int)+1) (by omega)<|zD 2<|bI bF (⟨i+1,Y76⟩) ⟨by dsimp only;omega,asx (by simp_all)⟩ (by dsimp only;omega) [0,4] yx
  refine jn fun b60=>bw O2 [1,2,3]<|aH 3 fun alz alT F4=>jc (vs:=[zS]) [] (aEl (bK.nil _ _ _ _ _) (by simp)) ?_
  rintro v58 L58 adA
  obtain⟨ah2,ahY,Sr⟩:=adA.form
  subst Sr
  refine bw F4 [1,2,3,4]<|aH 6 fun avT awS atj=>k8 (sz:=1) (ps:=([]:List Int)) (qs:=[(i:Int)]) (enc:=cS) (w:= .slice (some ⟨b60,0,none⟩) 1 1) [0] [1] [(b60,.cells ⟨([(i:Int)].map cS).flatten⟩ 3 (0,0))] (adA) (fun s _ hZ=>cb [(i:Int)] (hZ _ (.head _)) (by intro p hp;rfl)) (fun p _=>ar rfl) (by simp only[List.length_cons,List.length_nil];omega) (fun v61 L61 FI=>?_)
  obtain⟨ZS,ZM,asd⟩:=FI.form
  subst asd
  refine iM atj [[4],[],[],[]]<|aH 15 fun aUo aVe ati=>jc (vs:=[(.map (some r9)),zI 2]) [] (afh (hP2.up (Sub.refl _)) (tZ hO) (fun x hx=>abL hco (OA hO (by rw[←hk9];exact List.mem_map_of_mem (f:=(·.1)) hx)))) ?_
  rintro _ L70 ⟨a70,n70,c70,rfl⟩
  refine bw ati [1,2,3,4,5]<|aH 19 fun aUn aVd HR=>jc (vs:=[(.map (some r0)),(.map (some r9))]) [] (ang (He.up yx) (hP2.up (Sub.refl _))) ?_
  rintro _ _ ⟨r74,F74,aTA,Z74,rfl,rfl,arB,arW,asM⟩
  obtain⟨Lx,LV,rfl,atr⟩:=arB
  refine jg 0 [.b r74 (.map Lx LV),.l Z74]<|bw HR [2,3,4,5,6,7]<|zD 1<|aH 21 fun aly alS Lc=>jc (vs:=[.agg ⟨[(.slice ZS ((([]:List Int)++[(i:Int)])).length ZM),.slice a70 n70 c70,(.map (some r74))]⟩,zP b1,zP b2,zP b3]) [3,0,1,6] ((show eG _ _ _ _ (L61++(r74,.map Lx LV)::(Z74++B)) _ from by have:=afc (t:=⟨ZS,((([]:List Int)++[(i:Int)])).length,ZM,a70,n70,c70,r74⟩) (LL:=L61++(r74,.map Lx LV)::Z74) (akk.up (bW.trans yx)) (hC.up (bW.trans yx)) rfl (H7 (by rw[←ad2];exact HF)) (fun aL hk=>⟨by simpa using FI.nv (Knows.left hk),Lx,LV,F74,(Knows.right hk) _ (.head _),atr,arW,fun y hy=>asM aL (Knows.tail (Knows.right hk)) y hy⟩) hI.2 (hy.up (bW.trans yx));rwa[List.append_assoc,List.cons_append] at this)) ?_
  rintro _ Y76 ⟨c76,rfl,asx,asr⟩
  refine iM Lc [[],[]]<|zD 2<|js 77 (!c76) (fun Jb=>?_) (fun Jb=>?_)
  ·
   try simp only[zB] at Jb
   refine zD 6<|aF q0.a.a (.bool false) [] [0] Y76 (bW.trans yx) ⟨_,_,rfl,rfl,_,rfl,nofun,fun _=>asr (by simp_all)⟩
  try simp only[zB] at Jb
  refine zD 3<|ja ((i:Int)+1) (by omega)<|zD 2<|bI bF (⟨i+1,Y76⟩) ⟨by dsimp only;omega,asx (by simp_all)⟩ (by dsimp only;omega) [0,4] yx
 refine zD 7<|aF q0.a (.bool true) [] [0] B bW ⟨_,_,rfl,rfl,_,rfl,(fun _=>by have:=hI.2;rwa[show i=l.length by rw[←ad2];omega] at this),nofun⟩
theorem aEd{S:List (List ah)}{Inv:Nat→Cells→Prop}{ea:Option Addr}{r0:Nat}{es0:Array MapEntry}{F0:List (aj×Value)}{Z:Cells}{ro:Nat→Option Obj}(Hd:H2 ro b S ways)(hO:eZ S)(hW:xV ways)(hC:YP ro bl b b1 b2 b3)(hE:∀aL,Knows aL LE→cK aL (.slice ea en ec) S)(hE0:td oK F0 es0 ck0)(hk0:F0.map (·.1)=bA S)(hM0:MV Z F0 id)(hB:Inv 0 B)(hy:YO zT bl ro (cP S ways).length (akQ (bA S) (cP S ways)) Inv Stop):
 eG zT 150 [.agg ⟨[zS,.slice ea en ec,.map (some r0)]⟩,zP b1,zP b2,zP b3] ro (LE++(r0,.map es0 ck0)::(Z++B)) (fun r Y=>∃c,r= .bool c∧(c=true→Inv (cP S ways).length Y)∧(c=false→Stop Y)):=by
 match ways,hW with
 | [],_=>
  have:=afc (t:=⟨none,0,0,ea,en,ec,r0⟩) (x:=⟨[],id⟩) (k:=0) (LL:=LE++(r0,.map es0 ck0)::Z) Hd hC rfl rfl (fun aL hk=>⟨bK.nil _ _ _ _ _,es0,ck0,F0,(Knows.right hk) _ (.head _),hE0,fun h hh=>by rw[hk0];exact hh,hM0 _ (Knows.tail (Knows.right hk))⟩) hB hy
  rwa[List.append_assoc,List.cons_append] at this
 | [l],hW=>
  refine(aSb Hd hO hW hC hE hE0 hk0 hM0 hB hy).mono fun _ _ ⟨c,h1,h2,h3⟩=>⟨c,h1,fun h=>?_,h3⟩
  rw[show (cP S [l]).length=l.length by simp[cP]]
  exact h2 h
 |_::_::_,hW=>exact absurd hW.one (by simp)
theorem Yf{S:List (List ah)}{ro:Nat→Option Obj}(g1:ro b1=some (.cells ⟨[zP b]⟩ 176 (0,0)))(Hd:H2 ro b S ways)(hO:eZ S)(hW:xV ways):ItX zT 149 [] [zP b1] ro [] (cP S ways).length (akQ (bA S) (cP S ways)) (fun Z=>Z=[]):=by
 intro bl aA Inv Stop hs hy B hB
 replace g1:=hs _ _ g1
 replace Hd:=Hd.up hs
 have aQ1:=Hd
 obtain⟨vS,vT,vH,fa,fc,gb,hS,hT,hHs⟩:=Hd
 have xM:=hS
 obtain⟨jm,qD,fY⟩:=hS
 obtain⟨ais,bat,bap,air,rfl,bar,bas,baq⟩:=qD
 obtain⟨jV,ht,fO⟩:=id hT
 obtain⟨fg,AP,AN,eA,rfl,AO,tq,tk⟩:=ht
 have P5:∀(i:Nat) (p:eE),([]:List eE)[i]?=some p→cg ⟨aA,[]⟩ 0 (0+i*6) 6 (oz p):=fun _ _ h=>oS h
 refine bC au [.l B] [] bn<|zD 2<|jn fun b2=>zD 3<|jn fun b3=>jd 5 [0]<|jf [1,0] ((b2,.cells ⟨[(.func (.yield bl) #[] #[])]⟩ 253 (0,0))::[(b3,.cells ⟨[.func (.func 150) ⟨[]⟩ ⟨[zP b1,zP b2,zP b3]⟩]⟩ 253 (0,0))]) fun AM bW jC=>zD 2<|jl (b:=b3) (off:=0) (m:=1) (vs:=[.func (.func 150) ⟨[]⟩ ⟨[zP b1,zP b2,zP b3]⟩]) 0 ⟨_,_,_,.inl (jC _ (.tail _ (.head _))),rfl⟩<|jl (b:=b1) (off:=0) (m:=1) (vs:=[zP b]) 0 ⟨_,_,_,.inl (bW _ _ g1),rfl⟩<|zD 3<|jl (b:=b) (off:=0) (m:=4) (vs:=[.slice ais jm.length air,.slice fg jV.length eA,.slice fa 0 fc,vH]) 0 ⟨_,_,_,.inl (bW _ _ gb),rfl⟩<|jl (b:=b1) (off:=0) (m:=1) (vs:=[zP b]) 0 ⟨_,_,_,.inl (bW _ _ g1),rfl⟩<|zD 3<|jl (b:=b) (off:=0) (m:=4) (vs:=[.slice ais jm.length air,.slice fg jV.length eA,.slice fa 0 fc,vH]) 0 ⟨_,_,_,.inl (bW _ _ gb),rfl⟩<|aH 6 fun CY C4 AT=>jc (vs:=[.agg ⟨[.slice ais jm.length air]⟩]) [] (akI (xM.up bW) hO) ?_
 rintro _ L11 ⟨a11,n11,c11,rfl,aRF⟩
 refine bw AT [1]<|aH 12 fun AY A6 Ad=>jc (vs:=[.agg ⟨[.slice ais jm.length air]⟩]) [] (Je (xM.up bW) hO) ?_
 rintro _ _ ⟨r17,F17,bfi,Z17,rfl,rfl,arE,XY,aRb⟩
 obtain⟨aSs,aSG,rfl,aRE⟩:=arE
 refine jg 0 [.b r17 (.map aSs aSG),.l Z17]<|bw Ad [2,3]<|zD 1<|aH 14 fun rZ si qG=>jc (vs:=[.agg ⟨[zS,.slice a11 n11 c11,(.map (some r17))]⟩,zP b1,zP b2,zP b3]) [2,0,1,3] (aEd (aQ1.up bW) hO hW ⟨(bW _ _ g1),jC _ (.head _),jC _ (.tail _ (.head _))⟩ aRF aRE XY aRb hB (YO.up hy bW)) ?_
 rintro _ Y19 ⟨c19,rfl,aQr,aQe⟩
 refine iM qG [[],[]]<|zD 1<|aF q0.a (.tuple ⟨[]⟩) [] [0] Y19 bW ⟨_,_,rfl,rfl,[],Y19,rfl,rfl,by cases c19 with|true=>exact .inl (aQr rfl)|false=>exact .inr (aQe rfl)⟩
theorem Eu{S:List (List ah)}(hW:xV ways):(cP S ways).length≤3:=by
 match ways,hW with
 | [],_=>simp[cP]
 |l::_,hW=>
  have:=(hW.ok l (by simp)).1.2
  simpa [cP] using this
theorem afg{fa:Option Addr}{S:List (List ah)}{ro:Nat→Option Obj}(hS:cK ro vS S)(hO:eZ S)(hT:nM ro vT ways)(hW:xV ways):FnG zT 82 [.agg ⟨[vS,vT,.slice fa 0 fc]⟩] ro [] (fun r aA Y=>∃b vl ts Lt Z,r= .tuple ⟨[zP b,vl,zI 0]⟩∧H2 aA b S ways∧Y=Lt++Z∧az vl 3 185 afQ ts Lt∧ts.length=(cP S ways).length∧∀aL,Knows aL Z→dK (TrR (bA S) aL) ts (cP S ways)):=by
 have xM:=hS
 obtain⟨jm,hs,fY⟩:=hS
 obtain⟨mU,Uq,Uo,mj,rfl,Up,Nu,Nt⟩:=hs
 obtain⟨jV,ht,fO⟩:=id hT
 obtain⟨fg,AP,AN,eA,rfl,AO,tq,tk⟩:=ht
 have HM:=fY.len
 have D7:=fO.len
 have HI:=hO.two
 have zy:=hW.one
 have P5:∀(i:Nat) (p:eE),([]:List eE)[i]?=some p→cg ⟨ro,[]⟩ 0 (0+i*6) 6 (oz p):=fun _ _ h=>oS h
 refine azc (hm:=au) [] [] bn<|zD 2<|jn fun b1=>jd 7 [0]<|jc (vs:=[.agg ⟨[.slice mU jm.length mj,.slice fg jV.length eA,.slice fa 0 fc]⟩]) [] (atK xM hO hT hW) ?_
 rintro _ _ ⟨Qp,awl,aFz,rfl,rfl,arq⟩
 refine jg 0 [.b Qp (.cells ⟨[.slice mU jm.length mj,.slice fg jV.length eA,.slice fa 0 fc,awl]⟩ 181 (0,0)),.l aFz]<|zD 5<|jf [0,1] ((Qp,.cells ⟨[.slice mU jm.length mj,.slice fg jV.length eA,.slice fa 0 fc,awl]⟩ 181 (0,0))::aFz) (fun AM bW jC=>?_)
 have Hd:H2 AM Qp S ways:=⟨_,_,_,_,_,jC _ (.head _),xM.up bW,hT.up bW,arq.nv (Knows.tail jC)⟩
 refine zD 10 ?_
 have hLn:(cP S ways).length≤3:=Eu hW
 refine zD 1<|jn fun b7=>zD 5<|jc (vs:=[zP Qp]) [] (afa) ?_
 rintro _ _ ⟨amn,rfl,rfl⟩
 refine jg 0 [.b amn (.cells ⟨[zP Qp]⟩ 176 (0,0))]<|jf [0] [(amn,.cells ⟨[zP Qp]⟩ 176 (0,0))] fun ro6 kX Zc=>zD 2<|qB<|qB<|jrf [] (Yf (Zc _ (.head _)) (Hd.up kX) hO hW) (by rintro _ _ _ _ ⟨_,_,_,rfl,_⟩;rfl) (fun(zz:Value×Cells×(List Tx)×Cells)=>[.b b7 (.cells ⟨[zz.1]⟩ 177 (0,0)),.l zz.2.1,.l zz.2.2.2]) (fun kk=>(fun(zz:Value×Cells×(List Tx)×Cells)=>az zz.1 3 185 afQ zz.2.2.1 zz.2.1∧zz.2.2.1.length=kk∧(∀aL,Knows aL zz.2.2.2→dK (TrR (bA S) aL) zz.2.2.1 ((cP S ways).take kk))∧(cP S ways).length≤3)) (fun jump=>(fun(zz:Value×Cells×(List Tx)×Cells)=>False)) (⟨zS,[],[],[]⟩) ⟨az.nil _ _ _,rfl,fun _ _=> .nil,hLn⟩ [2,0,1] ?_ ?_ ?_
 ·
  rintro bl7 bd7 kk7 vs7 LL7 ⟨vl,Lt,ts,Z⟩ ro7 hk7 aPI hI rK
  obtain⟨x7,t7,hx7,rfl,hR7⟩:=aPI
  dsimp only at hI
  have bO:=(List.getElem?_eq_some_iff.1 hx7).1
  refine zD 1<|jn fun b8=>jd 2 [0]<|azf<|jd 4 [2,0]<|jn fun mW=>k8 (sz:=3) (ps:=ts) (qs:=[(⟨t7.a,t7.n,t7.c,t7.ea,t7.en,t7.ec,t7.r⟩:Tx)]) (enc:=afQ) (w:= .slice (some ⟨mW,0,none⟩) 1 1) [4] [0] [(mW,.cells ⟨([(⟨t7.a,t7.n,t7.c,t7.ea,t7.en,t7.ec,t7.r⟩:Tx)].map afQ).flatten⟩ 185 (0,0))] (hI.1) (fun s _ hZ=>cb [(⟨t7.a,t7.n,t7.c,t7.ea,t7.en,t7.ec,t7.r⟩:Tx)] (hZ _ (.head _)) (by intro p hp;rfl)) (fun p _=>ar rfl) (by simp only[List.length_cons,List.length_nil];omega) (fun v23 L23 yz=>?_)
  obtain⟨aJK,aJl,asl⟩:=yz.form
  subst asl
  refine jd 2 [4]<|jyn WY (Sub.refl _) ⟨(.slice aJK ((ts++[(⟨t7.a,t7.n,t7.c,t7.ea,t7.en,t7.ec,t7.r⟩:Tx)])).length aJl),L23,(ts++[(⟨t7.a,t7.n,t7.c,t7.ea,t7.en,t7.ec,t7.r⟩:Tx)]),LL7++Z⟩ ⟨yz,by simp only[List.length_append,List.length_cons,List.length_nil];omega,fun aL hk=>xj (hI.2.2.1 aL (Knows.right hk)) hx7 (hR7 aL (Knows.left hk)),hI.2.2.2⟩ [3,4,0,6,5]
 ·
  rintro bd7 ⟨vl,Lt,ts,Z⟩ Z7 hI hZ7
  dsimp only at hI
  subst hZ7
  refine jd 9 [2]<|aM9 qm0.a.a.m (.tuple ⟨[zP Qp,vl,zI 0]⟩) [0] [] [2,3] (Lt++Z) (Sub.refl _) ⟨_,_,_,rfl,rfl,(bW.trans kX),Qp,vl,ts,Lt,Z,rfl,Hd.up kX,rfl,hI.1,hI.2.1,by have:=hI.2.2.1;rwa[List.take_of_length_le (Nat.le_refl _)] at this⟩
 rintro bd7 ⟨vl,Lt,ts,Z⟩ Z7 jump hS hZ7
 exact hS.elim
def wv(t:Tx):Value:= .slice t.a t.n t.c
theorem dK.maps{β γ δ:Type}{R:α→β→Prop}{T:γ→δ→Prop}{f:α→γ}{g:β→δ}(h:∀a b,R a b→T (f a) (g b)):∀ {l:List α} {m:List β},dK R l m→dK T (l.map f) (m.map g)
 | [],[],.nil=> .nil
 |_::_,_::_,.cons h1 h2=> .cons (h _ _ h1) (dK.maps h h2)
theorem Xf{y:aj}{l:List aj}(h:y∈l):cQ (oR y.h y.n y.l) l 0≥0:=by
 have key:∀(l:List aj) (k:Nat),y∈l→cQ (oR y.h y.n y.l) l k≥0:=by
  intro l
  induction l with
  |nil=>intro k h;cases h
  |cons x l ih=>
   intro k h
   simp only[cQ]
   cases hx:oR y.h y.n y.l x with
   |true=>simp
   |false=>
    simp only[cond_false]
    rcases List.mem_cons.1 h with rfl|h
    ·simp[oR] at hx
    exact ih _ h
 exact key l 0 h
theorem akG{fa:Option Addr}{S:List (List ah)}{ro:Nat→Option Obj}(hS:cK ro vS S)(hO:eZ S)(hT:nM ro vT ways)(hW:xV ways):eG zT 76 [.agg ⟨[vS,vT,.slice fa 0 fc]⟩] ro [] (fun r Y=>∃a n c,r= .tuple ⟨[.slice a n c,zI 0]⟩∧n=((cP S ways).map (·.ways)).length∧∀kB,Knows kB Y→agz kB (.slice a n c) ((cP S ways).map (·.ways))):=by
 have xM:=hS
 obtain⟨jm,hs,fY⟩:=hS
 obtain⟨mU,Uq,Uo,mj,rfl,Up,Nu,Nt⟩:=hs
 obtain⟨jV,ht,fO⟩:=id hT
 obtain⟨fg,AP,AN,eA,rfl,AO,tq,tk⟩:=ht
 have HM:=fY.len
 have D7:=fO.len
 have HI:=hO.two
 have zy:=hW.one
 have P5:∀(i:Nat) (p:eE),([]:List eE)[i]?=some p→cg ⟨ro,[]⟩ 0 (0+i*6) 6 (oz p):=fun _ _ h=>oS h
 have hLn:=Eu (S:=S) hW
 refine bC au [] [] bn<|zD 2<|jn fun b1=>jd 6 [0]<|jcG (vs:=[.agg ⟨[.slice mU jm.length mj,.slice fg jV.length eA,.slice fa 0 fc]⟩]) [] (afg xM hO hT hW) ?_
 rintro _ aA _ bW ⟨jP,vl,ts,Lt,Z,rfl,Hd,rfl,hL,htl,hA⟩
 obtain⟨uS,uT,uH,ua,uc,gb,_,_,hh⟩:=Hd
 obtain⟨dR,uZ,uY,dD,rfl,xu,qM,qL⟩:=hh
 obtain⟨aJP,aJq,aP2⟩:=hL.form
 subst aP2
 refine jg 0 [.l Lt,.l Z]<|zD 28<|qB<|eN [1,1,1,1,0,1,0,0] [] (fun(zz:Nat×Value×Cells)=>[(2,zS),(3,zI 0),(7,zz.2.1),(19,(.slice aJP ts.length aJq)),(20,zI (ts.length:Int)),(21,zI (zz.1:Int))]) (fun(zz:Nat×Value×Cells)=>[.l zz.2.2,.l Lt,.l Z,.b b1 (.cells ⟨[.slice mU jm.length mj,.slice fg jV.length eA,.slice fa 0 fc]⟩ 31 (0,0))]) (fun(zz:Nat×Value×Cells)=>zz.1≤ts.length∧az zz.2.1 1 22 jz ((ts.take zz.1).map wv) zz.2.2) (fun(zz:Nat×Value×Cells)=>ts.length-zz.1) (⟨0,zS,[]⟩) ⟨by dsimp only;omega,az.nil _ _ _⟩ [0,1,2,3] ?_
 rintro⟨k,vO,LO⟩ hI K1 bF rest
 dsimp only at hI
 refine zD 5<|zJ 22 ((k:Int) <(ts.length:Int)) (fun h2=>?_) fun h2=>?_
 ·
  refine zD 6 ?_
  obtain⟨uW,sN⟩:=zG ts k
  refine Y3 3 hL sN fun b23 aQP=>oV 0 [1] Lt (fun s _ hZ=>cv hL aQP hZ sN)<|jn fun b9=>jd 6 [0,0]<|jn fun b28=>k8 (sz:=1) (ps:=((ts.take k).map wv)) (qs:=[(.slice uW.a uW.n uW.c:Value)]) (enc:=jz) (w:= .slice (some ⟨b28,0,none⟩) 1 1) [2] [0] [(b28,.cells ⟨([(.slice uW.a uW.n uW.c:Value)].map jz).flatten⟩ 22 (0,0))] (hI.2) (fun s _ hZ=>cb [(.slice uW.a uW.n uW.c:Value)] (hZ _ (.head _)) (by intro p hp;rfl)) (by intro p hp;rw[List.mem_singleton] at hp;subst hp;exact ar rfl) (by simp only[List.length_map,List.length_take,List.length_cons,List.length_nil];omega) (fun v29 L29 FM=>?_)
  obtain⟨ZV,ZO,ad3⟩:=FM.form
  subst ad3
  refine zD 3<|ja ((k:Int)+1) (by omega)<|zD 2<|bI bF (⟨k+1,(.slice ZV ((((ts.take k).map wv)++[(.slice uW.a uW.n uW.c:Value)])).length ZO),L29⟩) ⟨by dsimp only;omega,by rw[fq sN,List.map_append];exact FM⟩ (by dsimp only;omega) [0,3,4,5] (Sub.refl _)
 refine zD 3 ?_
 obtain⟨va3,vc3,Zf⟩:=hI.2.form
 subst Zf
 refine zD 6<|aF q0.a (.tuple ⟨[(.slice va3 (((ts.take k).map wv)).length vc3),zI 0]⟩) [] [0,2] (LO++Z) bW ⟨_,_,rfl,rfl,_,_,_,rfl,by simp only[List.length_map,List.length_take];omega,fun kB hk=>⟨_,hI.2.nv (Knows.left hk),by rw[List.take_of_length_le (by omega)];exact(hA kB (Knows.right hk)).maps fun _ _ h=>h.1⟩⟩
theorem atC{fa:Option Addr}{S:List (List ah)}{y:aj}{x:TrD}{ro:Nat→Option Obj}(hS:cK ro vS S)(hO:eZ S)(hT:nM ro vT ways)(hW:xV ways)(hy:y∈bA S)(hLx:cP S ways=[x]):eG zT 47 [.agg ⟨[vS,vT,.slice fa 0 fc]⟩,.agg ⟨[zI y.h,zI y.n,zI y.l]⟩] ro [] (fun r Y=>∃a n c,r= .tuple ⟨[.slice a n c,zI 0]⟩∧∀kB,Knows kB Y→bK kB (.slice a n c) 3 cw [x.g y]):=by
 have xM:=hS
 obtain⟨jm,hs,fY⟩:=hS
 obtain⟨mU,Uq,Uo,mj,rfl,Up,Nu,Nt⟩:=hs
 obtain⟨jV,ht,fO⟩:=id hT
 obtain⟨fg,AP,AN,eA,rfl,AO,tq,tk⟩:=ht
 have HM:=fY.len
 have D7:=fO.len
 have HI:=hO.two
 have zy:=hW.one
 have P5:∀(i:Nat) (p:eE),([]:List eE)[i]?=some p→cg ⟨ro,[]⟩ 0 (0+i*6) 6 (oz p):=fun _ _ h=>oS h
 have hhl:=tZ hO
 have hph:=Xf hy
 have AT:(cP S ways).length=1:=by rw[hLx];rfl
 refine bC au [] [] bn<|zD 2<|jn fun b2=>jn fun b3=>jd 6 [1]<|jcG (vs:=[.agg ⟨[.slice mU jm.length mj,.slice fg jV.length eA,.slice fa 0 fc]⟩]) [] (afg xM hO hT hW) ?_
 rintro _ aA _ bW ⟨V9,vl,ts,Lt,Z,rfl,Hd,rfl,hL,htl,hA⟩
 obtain⟨uS,uT,uH,ua,uc,gb,_,_,hh⟩:=Hd
 obtain⟨dR,uZ,uY,dD,rfl,xu,qM,qL⟩:=hh
 obtain⟨JE,Ho,xC⟩:=hL.form
 subst xC
 refine jg 0 [.l Lt,.l Z]<|zD 22<|jl (b:=V9) (off:=0) (m:=4) (vs:=[uS,uT,.slice ua 0 uc,.slice dR ((bA S).length) dD]) 3 ⟨_,_,_,.inl gb,rfl⟩<|jd 1 [2]<|jp (vs:=[.slice dR ((bA S).length) dD,.agg ⟨[zI y.h,zI y.n,zI y.l]⟩]) [] [] (fun aA hs hZ=>IX ((show bK _ _ _ _ _ from ⟨dR,uZ,uY,dD,rfl,xu,qM,qL⟩).up hs) (by omega))<|zD 2<|js 27 (!(decide (cQ (oR y.h y.n y.l) (bA S) 0≥0))) (fun h2=>?_) (fun h2=>?_)
 ·
  exfalso;simp_all
 refine zD 9<|zJ 30 ((ts.length:Int)=0) (fun h3=>?_) fun h3=>?_
 ·
  exfalso;omega
 refine zD 5<|jf [0,1] (Lt++Z) (fun ro6 kX Zc=>?_)
 have hLs:=hL.nv (Knows.left Zc)
 have hAs:=hA _ (Knows.right Zc)
 obtain⟨mr,J3,J2,mo,Qa,Nv,Iy,Ix⟩:=hLs
 simp only[Value.slice.injEq] at Qa
 obtain⟨rfl,_,rfl⟩:=Qa
 refine zD 9<|qB<|eN [1,1,1,1,1,1,0,1,0,0] [] (fun(zz:Nat×Value×Cells)=>[(3,zP b3),(4,zS),(5,zI 0),(9,zz.2.1),(31,.slice JE ts.length Ho),(32,zI (ts.length:Int)),(33,zI (zz.1:Int))]) (fun(zz:Nat×Value×Cells)=>[.l zz.2.2,.b b3 (.cells ⟨[zI y.h,zI y.n,zI y.l]⟩ 132 (0,0)),.b b2 (.cells ⟨[.slice mU jm.length mj,.slice fg jV.length eA,.slice fa 0 fc]⟩ 31 (0,0))]) (fun(zz:Nat×Value×Cells)=>zz.1≤ts.length∧az zz.2.1 3 132 cw ([x.g y].take zz.1) zz.2.2) (fun(zz:Nat×Value×Cells)=>ts.length-zz.1) (⟨0,zS,[]⟩) ⟨by dsimp only;omega,az.nil _ _ _⟩ [0,1,2] ?_
 rintro⟨k,vO,LO⟩ hI K1 bF rest
 dsimp only at hI
 refine zD 5<|zJ 34 ((k:Int) <(ts.length:Int)) (fun h7=>?_) fun h7=>?_
 ·
  refine zD 6 ?_
  obtain⟨x35,RV⟩:=zG ts k
  refine iW Ho 3 Iy RV<|jl 0 (Ix _ _ RV)<|jn fun Qp=>jd 2 [0] ?_
  obtain⟨q35,azS,_,bef,bei,F35,aO9,aRD,aPk,aN3⟩:=hAs.get RV
  obtain⟨hqe,hk0⟩:=E6 (by rw[hLx] at azS;exact azS)
  replace hqe:=hqe.symm
  subst hqe
  refine jd 5 [0,2]<|jlu (kv:=oK) (F:=F35) (r:=x35.r) (K:=132) y (zS) false [] [] Cz (fun s he _=>⟨_,_,he _ _ (.inl aO9),aRD⟩) ?_
  obtain⟨w41,aNS,aO7⟩:=UT (k:=y) (F:=F35) (aPk y hy)
  have hww:bK _ w41 3 cw [x.g y]:=aN3 _ aO7
  obtain⟨Rb,qwb,qwo,JZ,rfl,qwk,qwh,qwl⟩:=hww
  refine jw 41 (.slice Rb ([x.g y].length) JZ) (show Oa (zS) false y F35=_ from by simp only[Oa,aNS];rfl) ?_
  refine k8 (sz:=3) (ps:=([x.g y].take k)) (qs:=[x.g y]) (enc:=cw) (w:= .slice Rb ([x.g y].length) JZ) [1] [] [] (hI.2) (fun s he _=>⟨Rb,qwb,qwo,JZ,rfl,qwh,fun i p hp=>(qwl i p hp).ext he⟩) (fun p _=>ar rfl) (by simp only[List.length_take,List.length_cons,List.length_nil];omega) (fun v42 L42 adj=>?_)
  obtain⟨aJC,aJd,aPU⟩:=adj.form
  subst aPU
  refine zD 3<|ja ((k:Int)+1) (by omega)<|zD 2<|bI bF (⟨k+1,(.slice aJC ((([x.g y].take k)++[x.g y])).length aJd),L42⟩) ⟨by dsimp only;omega,by have:=adj;rw[hk0] at this ⊢;exact this⟩ (by dsimp only;omega) [0,2,3] (Sub.refl _)
 refine zD 5<|Y6 (vs:=[vO]) [] [0] LO (fun aA hs hZ=>VE (hI.2.nv hZ) (by simp only[List.length_take,List.length_cons,List.length_nil];omega)) ?_
 rintro v45 L45 az4
 obtain⟨aoj,an9,asf⟩:=az4.form
 subst asf
 refine zD 4<|aF q0.a.a (.tuple ⟨[(.slice aoj (([x.g y].take k)).length an9),zI 0]⟩) [] [0] L45 (bW.trans kX) ⟨_,_,rfl,rfl,_,_,_,rfl,fun kB hk=>by have:=az4.nv hk;have e: [x.g y].take k=[x.g y]:=List.take_of_length_le (by simp only[List.length_cons,List.length_nil];omega);simpa only[e] using this⟩
def Xd(S:List (List ah))(ways:List (List aM))(w:List Int)(x:aE):List aj:=match ways,w with
 |l::_,i::_=>(match l[i.toNat]? with
  |some c=>[yo S c ⟨x.st,x.no,0⟩]
  |none=>[])
 |_,_=>[⟨x.st,x.no,0⟩]
def WW(K:bk):List (List Int):=(cP K.str K.ways).map (·.ways)
theorem Tw{l:List aM}{w:List Int}(h:K.ways=[l])(hw:w∈WW K):∃(i:Nat) (c:aM),l[i]?=some c∧w=[(i:Int)]:=by
 simp only[WW,h,cP,List.map_map,List.mem_map,List.mem_range,Function.comp,aou] at hw
 obtain⟨i,hi,rfl⟩:=hw
 exact⟨i,l[i],List.getElem?_eq_getElem hi,rfl⟩
theorem oD.wp(h:oD K):xV K.ways:=⟨h.ways.1,fun l hl=>⟨⟨(h.ways.2 l hl).1.1,by have:=(h.ways.2 l hl).1.2;omega⟩,(h.ways.2 l hl).2⟩⟩
theorem Uz(h:oD K):K.ways=[]∨∃l,K.ways=[l]:=by
 have:=h.ways.1
 match hw:K.ways,this with
 | [],_=>exact .inl rfl
 | [l],_=>exact .inr ⟨l,rfl⟩
theorem ZE(h:oD K):Tv K (WW K):=by
 rcases Uz h with e| ⟨l,e⟩
 ·exact⟨by simp[WW,e,cP],fun w hw=>by simp[WW,e,cP] at hw;simp[hw,e],fun w hw k l n hl=>by simp[e] at hl⟩
 have hl:=(h.ways.2 l (by simp[e])).1
 refine⟨by simp[WW,e,cP];omega,fun w hw=>?_,fun w hw k l' n hk hn=>?_⟩
 ·obtain⟨i,c,_,rfl⟩:=Tw e hw;simp[e]
 obtain⟨i,c,hi,rfl⟩:=Tw e hw
 rw[e] at hk
 obtain⟨rfl,rfl⟩:=E6 hk
 obtain⟨rfl,_⟩:=E6 hn
 have:=(List.getElem?_eq_some_iff.1 hi).1
 omega
theorem ZZ{ro:Nat→Option Obj}(hK:gV ro l K)(hO:oD K):qv ro l (WW K):=by
 obtain⟨vS,vT,vc,vh,vr,vb,va,vf,fa,fc,hv,rfl,hS,hT,_⟩:=hK
 intro aA hs
 exact akG (hS.up hs) hO.sG (hT.up hs) hO.wp
theorem Xi{S:List (List ah)}{hd:List bY}{x:aE}(h:ali S hd x):(⟨x.st,x.no,0⟩:aj)∈bA S:=by
 obtain⟨l,h1,h2⟩:=h.2
 have:=FO h1 h2
 simp only[mH] at this
 rwa[show ((x.st.toNat:Nat):Int)=x.st by have:=h.1.2.2.1;omega] at this
theorem akU{l:List aM}{c:aM}(h:l[i]?=some c):(l.take ((i:Int).toNat+1)).drop (i:Int).toNat=[c]:=by
 rw[Int.toNat_natCast,fq h,List.drop_append_of_le_length (by have:=(List.getElem?_eq_some_iff.1 h).1;rw[List.length_take];omega),List.drop_eq_nil_of_le (by rw[List.length_take];omega)];rfl
theorem ahP{ro:Nat→Option Obj}(hK:gV ro l K)(hO:oD K):xk ro l K (WW K) (Xd K.str K.ways):=by
 obtain⟨vS,vT,vc,vh,vr,vb,va,vf,fa,fc,hv,rfl,hS,hT,_⟩:=hK
 intro w hw x hx
 have hy:=Xi (hO.before.2 x hx)
 have fin:∀(t:TrD),xV (As K.ways w)→cP K.str (As K.ways w)=[t]→Xd K.str K.ways w x=[t.g ⟨x.st,x.no,0⟩]→(Xd K.str K.ways w x).length≤1000∧∀aA,Sub ro aA→∀v vS' vT' vU r,[vS,vT,.slice fa 0 fc,vc,vh,vr,vb,va,zI K.gone,zI K.new,zI K.af,vf]=vS'::vT'::vU::r→nM aA v (As K.ways w)→
  eG zT 47 [.agg ⟨[vS',v,vU]⟩,.agg ⟨[zI x.st,zI x.no,zI 0]⟩] aA [] (fun r Y=>∃a n c,r= .tuple ⟨[.slice a n c,zI 0]⟩∧∀kB,Knows kB Y→bK kB (.slice a n c) 3 cw (Xd K.str K.ways w x)):=by
  intro t h1 h2 h3
  rw[h3]
  refine⟨by simp,fun aA hs v vS' vT' vU r he hv=>?_⟩
  simp only[List.cons.injEq] at he
  obtain⟨rfl,_,rfl,_⟩:=he
  exact atC (hS.up hs) hO.sG hv h1 hy h2
 rcases Uz hO with e| ⟨l,e⟩
 ·refine fin ⟨[],id⟩ ?_ ?_ ?_
  ·rw[e];exact⟨by simp[As],by simp[As]⟩
  ·rw[e];simp[As,cP]
  rw[e];rfl
 obtain⟨i,c,hi,rfl⟩:=Tw e hw
 have hc:As K.ways [(i:Int)]=[[c]]:=by rw[e];simp only[As,List.zipWith_cons_cons,List.zipWith_nil_right,akU hi]
 refine fin ⟨[0],yo K.str c⟩ ?_ ?_ ?_
 ·rw[hc]
  refine⟨by simp,fun l' hl=>?_⟩
  rw[List.mem_singleton] at hl;subst hl
  exact⟨by simp,fun c' sS=>by rw[List.mem_singleton] at sS;subst sS;exact(hO.ways.2 l (by simp[e])).2 _ (List.mem_of_getElem? hi)⟩
 ·rw[hc];rfl
 rw[e];simp only[Xd,Int.toNat_natCast,hi]
def jq(K:bk):List bU:=(WW K).map (lH K (Xd K.str K.ways))
theorem sA(h:oD K):(jq K).length≤2:=by
 rw[jq,List.length_map];exact(ZE h).n.2
theorem B8{ro:Nat→Option Obj}(hK:gV ro l K)(hO:oD K)(hV:gT K):mT ro l K (jq K):=
 alb hK hO hV (ZE hO) (ZZ hK hO) (ahP hK hO)
def iL(K:bk)(g n m:Int):bk:={K with gone:=g,new:=n,af:=m}
theorem oD.Oc(h:oD K){n m:Int}(hl:(0≤g∧g≤4)∧(0≤n∧n≤4)∧(0≤m∧m≤4)):oD (iL K g n m):=⟨h.sG,h.ways,h.eO,h.rules,h.before,h.after,hl,h.facts,h.apart⟩
theorem gT.Oc(h:gT K){n m:Int}:gT (iL K g n m):=⟨h.rules,h.before,h.after,h.eO,h.facts⟩
theorem gV.Oc{ro:Nat→Option Obj}{v0 v1 v3 v4 v5 v6 v7 vb:Value}{fa:Option Addr}{a b c n m:Int}(h:gV ro [v0,v1,.slice fa 0 fc,v3,v4,v5,v6,v7,zI a,zI b,zI c,vb] K):gV ro [v0,v1,.slice fa 0 fc,v3,v4,v5,v6,v7,zI g,zI n,zI m,vb] (iL K g n m):=by
 obtain⟨w0,w1,w3,w4,w5,w6,w7,wb,ga,gc,hv,he,h2⟩:=h
 simp only[List.cons.injEq,Value.slice.injEq] at he
 obtain⟨rfl,rfl,⟨rfl,_,rfl⟩,rfl,rfl,rfl,rfl,rfl,_,_,_,rfl,_⟩:=he
 exact⟨_,_,_,_,_,_,_,_,_,_,hv,rfl,h2⟩
def fN(K:bk):Nat:=(gB K (eP K) (eY K.gone K.new K.af) (jq K)).length
theorem Ew{n m:Int}(h1:K.gone≤g)(h2:K.new≤n)(h3:K.af≤m):fN K≤fN (iL K g n m):=by
 have e:fN (iL K g n m)=(gB K (eP K) (eY g n m) (jq K)).length:=by
  show (gB {K with gone:=g,new:=n,af:=m} _ _ _).length=_
  rw[PT];rfl
 rw[e]
 exact YK fun x hx=>RG h1 h2 h3 x hx
theorem Cg(hV:gT K):fN (iL K 4 4 4)=(gB K (eP K) (fun _=>true) (jq K)).length:=by
 rw[Xx hV]
 show (gB {K with gone:=4,new:=4,af:=4} _ _ _).length=_
 rw[PT];rfl
theorem Gf:∀(l:List Int) (a:Int),l.foldl min a≤a∧∀x∈l,l.foldl min a≤x
 | [],a=>⟨Int.le_refl _,fun _ h=>(by cases h)⟩
 |y::l,a=>by
  obtain⟨h1,h2⟩:=Gf l (min a y)
  refine⟨by simp only[List.foldl_cons];omega,fun x hx=>?_⟩
  rcases List.mem_cons.1 hx with rfl|hx
  ·simp only[List.foldl_cons];omega
  exact h2 x hx
theorem Ku{l:List Int}(h:x∈l):tS l≤x:=by
 cases l with
 |nil=>cases h
 |cons y l=>
  rcases List.mem_cons.1 h with rfl|h
  ·exact(Gf l _).1
  exact(Gf l _).2 x h
theorem U4{ro:Nat→Option Obj}(hK:gV ro l K)(hO:oD K)(hV:gT K):G0 zT 9 [.agg ⟨l⟩] ro [] (fun r Y=>∃zs m e,zs.Perm (gB K (eP K) (fun _=>true) (jq K))∧Y=[]∧r= .tuple ⟨[zI m,zI e]⟩∧((zs=[]∧m=0∧e=9)∨(zs≠[]∧m=tS (zs.map C6)∧e=0))):=
 fun fr=>Fn.mono (aqn hK hV (sA hO) (B8 hK hO hV) fr) fun en s' ⟨v,Y,h1,h2,zs,h3,h4,h5⟩=>⟨v,Y,h1,h2,by
  rcases h5 with ⟨h5,h6⟩| ⟨h5,h6⟩
  ·exact⟨zs,0,9,h3,h4,h6,.inl ⟨h5,rfl,rfl⟩⟩
  exact⟨zs,_,0,h3,h4,h6,.inr ⟨h5,rfl,rfl⟩⟩⟩
theorem zt{ro:Nat→Option Obj}(hK:gV ro l K)(hO:oD K)(hV:gT K):G0 zT 8 [.agg ⟨l⟩] ro [] (fun r Y=>r= .tuple ⟨[zI (fN K:Int),zI 0]⟩∧Y=[]):=acj hK hV (sA hO) (B8 hK hO hV)
theorem Xv{zs:List ay}(hz:zs.Perm (gB K (eP K) (fun _=>true) (jq K)))(h:K.gone+K.new+K.af <tS (zs.map C6)):fN K=0:=by
 refine List.length_eq_zero_iff.2 (List.eq_nil_iff_forall_not_mem.2 fun x hx=>?_)
 obtain⟨i,r,p,h1,h2,rfl,h4⟩:=qu hx
 have h5:dS K r i p∈gB K (eP K) (fun _=>true) (jq K):=by
  refine List.mem_flatten.2 ⟨_,List.mem_map.2 ⟨i,List.mem_range.2 (List.getElem?_eq_some_iff.1 h1).1,rfl⟩,?_⟩
  simp only[h1,Option.getD_some,qK]
  exact List.mem_filter.2 ⟨List.mem_map_of_mem h2,rfl⟩
 have h6:=Ku (List.mem_map_of_mem (f:=C6) (hz.mem_iff.2 h5))
 simp only[eY,Bool.and_eq_true,decide_eq_true_eq] at h4
 simp only[C6] at h6
 omega
def Yl:List Int→List Int→Bool
 | [],[]=>true
 |x::l,y::m=>decide (x=y)&&Yl l m
 |_,_=>false
theorem afI:∀ {l m:List Int},¬l.length=m.length→Yl l m=false
 | [],[],h=>absurd rfl h
 | [],_::_,_=>rfl
 |_::_,[],_=>rfl
 |x::l,y::m,h=>by rw[Yl,afI (l:=l) (m:=m) (by simpa using h),Bool.and_false]
theorem afJ(hx:xs[k]?=some x) (hy:ys[k]?=some y):Yl (xs.drop k) (ys.drop k)=(decide (x=y)&&Yl (xs.drop (k+1)) (ys.drop (k+1))):=by rw[gu hx,gu hy];rfl
theorem akN(hx:¬k <xs.length)(h:xs.length=ys.length):Yl (xs.drop k) (ys.drop k)=true:=by rw[eQ hx,eQ (by omega)];rfl
def HT:List (List Int)→List (List Int)→Bool
 | [],[]=>true
 |x::l,y::m=>Yl x y&&HT l m
 |_,_=>false
theorem VM:∀ {l m:List (List Int)},¬l.length=m.length→HT l m=false
 | [],[],h=>absurd rfl h
 | [],_::_,_=>rfl
 |_::_,[],_=>rfl
 |x::l,y::m,h=>by rw[HT,VM (l:=l) (m:=m) (by simpa using h),Bool.and_false]
theorem VN{xs ys:List (List Int)}{x y:List Int}(hx:xs[k]?=some x) (hy:ys[k]?=some y):HT (xs.drop k) (ys.drop k)=(Yl x y&&HT (xs.drop (k+1)) (ys.drop (k+1))):=by rw[gu hx,gu hy];rfl
theorem afH{xs ys:List (List Int)}(hx:¬k <xs.length)(h:xs.length=ys.length):HT (xs.drop k) (ys.drop k)=true:=by rw[eQ hx,eQ (by omega)];rfl
def xS:List Int→List Int→Int
 | [],[]=>0
 | [],_::_=> -1
 |_::_,[]=>1
 |x::xs,y::ys=>if qH x y=0 then xS xs ys else qH x y
theorem PE(hx:xs[k]?=some x) (hy:ys[k]?=some y):xS (xs.drop k) (ys.drop k)=if qH x y=0 then xS (xs.drop (k+1)) (ys.drop (k+1)) else qH x y:=by rw[gu hx,gu hy];rfl
theorem Yr(hx:xs[k]?=some x) (hy:¬k <ys.length):xS (xs.drop k) (ys.drop k)=1:=by rw[gu hx,eQ hy];rfl
theorem Jq(hx:¬k <xs.length):xS (xs.drop k) (ys.drop k)=if k <ys.length then-1 else 0:=by
 rw[eQ hx]
 split
 ·rename_i h
  rw[List.drop_eq_getElem_cons h];rfl
 rename_i h
 rw[eQ h];rfl
def lZ(f:Int):Nat→List Int
 |0=>[]
 |k+1=>lZ f k++(bif hasB f k then [(k:Int)] else [])
theorem ajc(h:hasB f (k:Int)=true):lZ f (k+1)=lZ f k++[(k:Int)]:=by rw[lZ,h];rfl
theorem ajd(h:hasB f (k:Int)=false):lZ f (k+1)=lZ f k:=by rw[lZ,h];exact List.append_nil _
theorem IU(f:Int)(n:Nat):(lZ f n).length≤n:=by
 induction n with
 |zero=>exact Nat.le_refl _
 |succ n ih=>rw[lZ,List.length_append];cases hasB f (n:Int)<;>simp<;>omega
def yg(f:Int):Int:=([0,1,1,2,1,2,2,3,1,2,2,3,2,3,3,4]:List Int).getD f.toNat 0
theorem Uu(h:0≤f∧f <16):0≤yg f∧yg f≤8:=by
 obtain⟨n,rfl⟩:=Int.eq_ofNat_of_zero_le h.1
 have h2:n <16:=by omega
 revert h2
 exact(by decide:∀n:Nat,n <16→0≤yg (n:Int)∧yg (n:Int)≤8) n
def PC(x y:Int):Int:=if yg x-yg y=0 then xS (lZ x 4) (lZ y 4) else yg x-yg y
theorem ano{v w:Value}{ro:Nat→Option Obj}(hv:bK ro v 1 cS xs)(hw:bK ro w 1 cS ys)(hx:xs.length≤1000)(hy:ys.length≤1000):dL zT 37 [v,w] ro (.bool (Yl xs ys)):=by
 obtain⟨Nr,qvb,qvo,C7,rfl,qvk,Re,Rc⟩:=hv
 obtain⟨Rb,qwb,qwo,JZ,rfl,qwk,qwh,qwl⟩:=hw
 refine bC au [] [] bn<|zD 13<|js 10 (!decide ((xs.length:Int)=(ys.length:Int))) (fun h1=>?_) (fun h1=>?_)
 ·
  replace h1:=of_decide_eq_false (by simpa using h1)
  refine zD 6<|aF q0 (.bool false) [] [] [] (Sub.refl _) ⟨_,_,rfl,rfl,by rw[afI (by omega)],rfl⟩
 replace h1:=of_decide_eq_true (by simpa using h1)
 refine zD 8<|eN [1,1,0,1,0,0] [] (fun(zz:Nat)=>[(0,.slice Nr xs.length C7),(1,.slice Rb ys.length JZ),(5,zI (zz:Int))]) (fun(zz:Nat)=>[]) (fun(zz:Nat)=>zz≤xs.length∧Yl xs ys=Yl (xs.drop zz) (ys.drop zz)) (fun(zz:Nat)=>xs.length-zz) 0 ⟨by omega,rfl⟩ [] ?_
 rintro k hI K1 bF rest
 refine zD 8<|zJ 14 ((k:Int) <(xs.length:Int)) (fun h2=>?_) fun h2=>?_
 ·
  refine zD 8 ?_
  obtain⟨DM,xz⟩:=zG xs k
  refine iW C7 1 Re xz<|jl 0 (Rc _ _ xz)<|zD 2 ?_
  obtain⟨uW,sN⟩:=zG ys k
  refine iW JZ 1 qwh sN<|jl 0 (qwl _ _ sN)<|zD 2<|js 25 (!decide (DM=uW)) (fun h3=>?_) (fun h3=>?_)
  ·
   replace h3:=of_decide_eq_false (by simpa using h3)
   refine zD 6<|aF q0 (.bool false) [] [] [] (Sub.refl _) ⟨_,_,rfl,rfl,by rw[hI.2,afJ xz sN,decide_eq_false (by omega),Bool.false_and],rfl⟩
  replace h3:=of_decide_eq_true (by simpa using h3)
  refine zD 4<|ja ((k:Int)+1) (by omega)<|zD 2<|bI bF (k+1) ⟨by omega,by rw[hI.2,afJ xz sN,decide_eq_true (by omega),Bool.true_and]⟩ (by omega) [] (Sub.refl _)
 refine zD 7<|aF q0 (.bool true) [] [] [] (Sub.refl _) ⟨_,_,rfl,rfl,by rw[hI.2,akN (by omega) (by omega)],rfl⟩
theorem aNw{v w:Value}{ro:Nat→Option Obj}(hv:bK ro v 1 cS xs)(hw:bK ro w 1 cS ys)(hx:xs.length≤1000)(hy:ys.length≤1000):dL zT 114 [v,w] ro (zI (xS xs ys)):=by
 obtain⟨Nr,qvb,qvo,C7,rfl,qvk,Re,Rc⟩:=hv
 obtain⟨Rb,qwb,qwo,JZ,rfl,qwk,qwh,qwl⟩:=hw
 refine bC au [] [] bn<|zD 12<|eN [1,0,1,0,0] [] (fun(zz:Nat)=>[(0,.slice Nr xs.length C7),(1,.slice Rb ys.length JZ),(9,.slice Nr xs.length C7),(10,zI (xs.length:Int)),(11,zI (zz:Int))]) (fun(zz:Nat)=>[]) (fun(zz:Nat)=>(zz≤xs.length∧zz≤ys.length)∧xS xs ys=xS (xs.drop zz) (ys.drop zz)) (fun(zz:Nat)=>xs.length-zz) 0 ⟨by omega,rfl⟩ [] ?_
 rintro k hI K1 bF rest
 refine zD 5<|zJ 12 ((k:Int) <(xs.length:Int)) (fun h1=>?_) fun h1=>?_
 ·
  refine zD 7 ?_
  obtain⟨fU,eI⟩:=zG xs k
  refine iW C7 1 Re eI<|jl 0 (Rc _ _ eI)<|zD 11<|zJ 19 ((k:Int)≥(ys.length:Int)) (fun h2=>?_) fun h2=>?_
  ·
   refine zD 6<|aF q0 (zI 1) [] [] [] (Sub.refl _) ⟨_,_,rfl,rfl,by rw[hI.2,Yr eI (by omega)],rfl⟩
  refine zD 6 ?_
  obtain⟨rS,tV⟩:=zG ys k
  refine iW JZ 1 qwh tV<|jl 0 (qwl _ _ tV)<|zD 6<|jp (vs:=[zI fU,zI rS]) [] [] (fun aA hs hZ=>atI)<|zD 7<|js 28 (!decide ((qH fU rS)=0)) (fun h3=>?_) (fun h3=>?_)
  ·
   replace h3:=of_decide_eq_false (by simpa using h3)
   refine zD 7<|aF q0 (zI (qH fU rS)) [] [] [] (Sub.refl _) ⟨_,_,rfl,rfl,by rw[hI.2,PE eI tV,if_neg (by omega)],rfl⟩
  replace h3:=of_decide_eq_true (by simpa using h3)
  refine zD 3<|ja ((k:Int)+1) (by omega)<|zD 2<|bI bF (k+1) ⟨by omega,by rw[hI.2,PE eI tV,if_pos (by omega)]⟩ (by omega) [] (Sub.refl _)
 refine zD 11<|zJ 35 ((xs.length:Int) <(ys.length:Int)) (fun h4=>?_) fun h4=>?_
 ·
  refine zD 6<|aF q0 (zI (-1)) [] [] [] (Sub.refl _) ⟨_,_,rfl,rfl,by rw[hI.2,Jq (by omega),if_pos (by omega)],rfl⟩
 refine zD 7<|aF q0 (zI 0) [] [] [] (Sub.refl _) ⟨_,_,rfl,rfl,by rw[hI.2,Jq (by omega),if_neg (by omega)],rfl⟩
theorem afs{ro:Nat→Option Obj}:eG zT 72 [.int .u8 f] ro [] (fun r Y=>∃L,az r 1 3 cS (lZ f 4) L∧Y=L):=by
 refine bC au [] [] bn<|zD 14<|qB<|eN [1,1,0,1,0,0] [] (fun(zz:Nat×Value×Cells)=>[(0,.int .u8 f),(2,zS),(3,zz.2.1),(5,zI (zz.1:Int))]) (fun(zz:Nat×Value×Cells)=>[.l zz.2.2]) (fun(zz:Nat×Value×Cells)=>zz.1≤4∧az zz.2.1 1 3 cS (lZ f zz.1) zz.2.2) (fun(zz:Nat×Value×Cells)=>4-zz.1) (⟨0,zS,[]⟩) ⟨by dsimp only;omega,az.nil _ _ _⟩ [0] ?_
 rintro⟨k,v,L⟩ hI K1 bF rest
 dsimp only at hI
 have hll:=IU f k
 refine zD 5<|zJ 6 ((k:Int) <4) (fun h1=>?_) fun h1=>?_
 ·
  refine zD 13<|jp (vs:=[.int .u8 f,zI (k:Int)]) [] [] (fun aA hs hZ=>(aqr (by omega)))<|zD 1<|js 10 (hasB f (k:Int)) (fun h2=>?_) (fun h2=>?_)
  ·
   refine zD 4<|jn fun yZ=>k8 (sz:=1) (ps:=(lZ f k)) (qs:=[(k:Int)]) (enc:=cS) (w:= .slice (some ⟨yZ,0,none⟩) 1 1) [1] [0] [(yZ,.cells ⟨([(k:Int)].map cS).flatten⟩ 3 (0,0))] (hI.2) (fun s _ hZ=>cb [(k:Int)] (hZ _ (.head _)) (by intro p hp;rfl)) (fun p _=>ar rfl) (by simp<;>omega) (fun v14 L14 tY=>?_)
   obtain⟨JE,Ho,xC⟩:=tY.form
   subst xC
   refine zD 3<|ja ((k:Int)+1) (by omega)<|zD 2<|bI bF (⟨k+1,(.slice JE (((lZ f k)++[(k:Int)])).length Ho),L14⟩) ⟨by dsimp only;omega,by dsimp only;rw[ajc (by assumption)];exact tY⟩ (by dsimp only;omega) [0] (Sub.refl _)
  refine zD 3<|ja ((k:Int)+1) (by omega)<|zD 2<|bI bF (⟨k+1,v,L⟩) ⟨by dsimp only;omega,by dsimp only;rw[ajd (by assumption)];exact hI.2⟩ (by dsimp only;omega) [0] (Sub.refl _)
 refine zD 8<|aF q0 (v) [] [0] L (Sub.refl _) ⟨_,_,rfl,rfl,_,(by rw[←show k=4 by omega];exact hI.2),rfl⟩
theorem aqj{ro:Nat→Option Obj}:dL zT 113 [.int .u8 0] ro (zI 0):=by
 refine bC au [] [] bn<|zD 12<|aF q0 (zI 0) [] [] [] (Sub.refl _) ⟨_,_,rfl,rfl,rfl,rfl⟩
theorem aqi{ro:Nat→Option Obj}:dL zT 113 [.int .u8 1] ro (zI 1):=by
 refine bC au [] [] bn<|zD 12<|aF q0 (zI 1) [] [] [] (Sub.refl _) ⟨_,_,rfl,rfl,rfl,rfl⟩
theorem aqh{ro:Nat→Option Obj}:dL zT 113 [.int .u8 2] ro (zI 1):=by
 refine bC au [] [] bn<|zD 12<|aF q0 (zI 1) [] [] [] (Sub.refl _) ⟨_,_,rfl,rfl,rfl,rfl⟩
theorem aqg{ro:Nat→Option Obj}:dL zT 113 [.int .u8 3] ro (zI 2):=by
 refine bC au [] [] bn<|zD 12<|aF q0 (zI 2) [] [] [] (Sub.refl _) ⟨_,_,rfl,rfl,rfl,rfl⟩
theorem aqf{ro:Nat→Option Obj}:dL zT 113 [.int .u8 4] ro (zI 1):=by
 refine bC au [] [] bn<|zD 12<|aF q0 (zI 1) [] [] [] (Sub.refl _) ⟨_,_,rfl,rfl,rfl,rfl⟩
theorem aqe{ro:Nat→Option Obj}:dL zT 113 [.int .u8 5] ro (zI 2):=by
 refine bC au [] [] bn<|zD 12<|aF q0 (zI 2) [] [] [] (Sub.refl _) ⟨_,_,rfl,rfl,rfl,rfl⟩
theorem aqd{ro:Nat→Option Obj}:dL zT 113 [.int .u8 6] ro (zI 2):=by
 refine bC au [] [] bn<|zD 12<|aF q0 (zI 2) [] [] [] (Sub.refl _) ⟨_,_,rfl,rfl,rfl,rfl⟩
theorem aqc{ro:Nat→Option Obj}:dL zT 113 [.int .u8 7] ro (zI 3):=by
 refine bC au [] [] bn<|zD 12<|aF q0 (zI 3) [] [] [] (Sub.refl _) ⟨_,_,rfl,rfl,rfl,rfl⟩
theorem aqb{ro:Nat→Option Obj}:dL zT 113 [.int .u8 8] ro (zI 1):=by
 refine bC au [] [] bn<|zD 12<|aF q0 (zI 1) [] [] [] (Sub.refl _) ⟨_,_,rfl,rfl,rfl,rfl⟩
theorem aqa{ro:Nat→Option Obj}:dL zT 113 [.int .u8 9] ro (zI 2):=by
 refine bC au [] [] bn<|zD 12<|aF q0 (zI 2) [] [] [] (Sub.refl _) ⟨_,_,rfl,rfl,rfl,rfl⟩
theorem ajs{ro:Nat→Option Obj}:dL zT 113 [.int .u8 10] ro (zI 2):=by
 refine bC au [] [] bn<|zD 12<|aF q0 (zI 2) [] [] [] (Sub.refl _) ⟨_,_,rfl,rfl,rfl,rfl⟩
theorem ajr{ro:Nat→Option Obj}:dL zT 113 [.int .u8 11] ro (zI 3):=by
 refine bC au [] [] bn<|zD 12<|aF q0 (zI 3) [] [] [] (Sub.refl _) ⟨_,_,rfl,rfl,rfl,rfl⟩
theorem ajq{ro:Nat→Option Obj}:dL zT 113 [.int .u8 12] ro (zI 2):=by
 refine bC au [] [] bn<|zD 12<|aF q0 (zI 2) [] [] [] (Sub.refl _) ⟨_,_,rfl,rfl,rfl,rfl⟩
theorem ajp{ro:Nat→Option Obj}:dL zT 113 [.int .u8 13] ro (zI 3):=by
 refine bC au [] [] bn<|zD 12<|aF q0 (zI 3) [] [] [] (Sub.refl _) ⟨_,_,rfl,rfl,rfl,rfl⟩
theorem ajo{ro:Nat→Option Obj}:dL zT 113 [.int .u8 14] ro (zI 3):=by
 refine bC au [] [] bn<|zD 12<|aF q0 (zI 3) [] [] [] (Sub.refl _) ⟨_,_,rfl,rfl,rfl,rfl⟩
theorem ajn{ro:Nat→Option Obj}:dL zT 113 [.int .u8 15] ro (zI 4):=by
 refine bC au [] [] bn<|zD 12<|aF q0 (zI 4) [] [] [] (Sub.refl _) ⟨_,_,rfl,rfl,rfl,rfl⟩
theorem amu{ro:Nat→Option Obj}(h:0≤f∧f <16):dL zT 113 [.int .u8 f] ro (zI (yg f)):=by
 obtain rfl|rfl|rfl|rfl|rfl|rfl|rfl|rfl|rfl|rfl|rfl|rfl|rfl|rfl|rfl|rfl:=(by omega:f=0∨f=1∨f=2∨f=3∨f=4∨f=5∨f=6∨f=7∨f=8∨f=9∨f=10∨f=11∨f=12∨f=13∨f=14∨f=15)
 ·exact aqj
 ·exact aqi
 ·exact aqh
 ·exact aqg
 ·exact aqf
 ·exact aqe
 ·exact aqd
 ·exact aqc
 ·exact aqb
 ·exact aqa
 ·exact ajs
 ·exact ajr
 ·exact ajq
 ·exact ajp
 ·exact ajo
 exact ajn
def LL(ro:Nat→Option Obj)(v:Value)(W:List (List Int)):Prop:=∃ws,bK ro v 1 jz ws∧dK (fun w l=>bK ro w 1 cS l) ws W
theorem atT{v w:Value}{ws us:List Value}{W U:List (List Int)}{ro:Nat→Option Obj}(hv:bK ro v 1 jz ws)(hw:bK ro w 1 jz us)(ha:dK (fun w l=>bK ro w 1 cS l) ws W)(hb:dK (fun w l=>bK ro w 1 cS l) us U)(hx:W.length≤1000)(hy:U.length≤1000)(hW:∀l∈W,l.length≤1000)(hU:∀l∈U,l.length≤1000):dL zT 36 [v,w] ro (.bool (HT W U)):=by
 obtain⟨Nr,qvb,qvo,C7,rfl,qvk,Re,Rc⟩:=hv
 obtain⟨Rb,qwb,qwo,JZ,rfl,qwk,qwh,qwl⟩:=hw
 have hla:=ha.len
 have hlb:=hb.len
 refine bC au [] [] bn<|zD 13<|js 10 (!decide ((ws.length:Int)=(us.length:Int))) (fun h1=>?_) (fun h1=>?_)
 ·
  replace h1:=of_decide_eq_false (by simpa using h1)
  refine zD 6<|aF q0 (.bool false) [] [] [] (Sub.refl _) ⟨_,_,rfl,rfl,by rw[VM (by omega)],rfl⟩
 replace h1:=of_decide_eq_true (by simpa using h1)
 refine zD 8<|eN [1,1,0,1,0,0] [] (fun(zz:Nat)=>[(0,.slice Nr ws.length C7),(1,.slice Rb us.length JZ),(5,zI (zz:Int))]) (fun(zz:Nat)=>[]) (fun(zz:Nat)=>zz≤W.length∧HT W U=HT (W.drop zz) (U.drop zz)) (fun(zz:Nat)=>W.length-zz) 0 ⟨by omega,rfl⟩ [] ?_
 rintro k hI K1 bF rest
 refine zD 8<|zJ 14 ((k:Int) <(ws.length:Int)) (fun h2=>?_) fun h2=>?_
 ·
  refine zD 8 ?_
  obtain⟨DM,xz⟩:=zG ws k
  refine iW C7 1 Re xz ?_
  obtain⟨l20,arM,h20⟩:=ha.get xz
  obtain arD:=hW _ (List.mem_of_getElem? arM)
  obtain⟨ayd,aMc,aL8,ayc,rfl,aMa,aMb,aL9⟩:=h20
  refine jl 0 (Rc _ _ xz)<|zD 2 ?_
  obtain⟨uW,sN⟩:=zG us k
  refine iW JZ 1 qwh sN ?_
  obtain⟨RF,Sn,h24⟩:=hb.get sN
  obtain aAp:=hU _ (List.mem_of_getElem? Sn)
  obtain⟨apm,ax6,ax4,aa3,rfl,ax5,aiA,aiz⟩:=h24
  refine jl 0 (qwl _ _ sN)<|jp (vs:=[.slice ayd l20.length ayc,.slice apm RF.length aa3]) [] [] (fun aA hs hZ=>ano ((show bK _ _ _ _ _ from ⟨ayd,aMc,aL8,ayc,rfl,aMa,aMb,aL9⟩).up hs) ((show bK _ _ _ _ _ from ⟨apm,ax6,ax4,aa3,rfl,ax5,aiA,aiz⟩).up hs) arD aAp)<|zD 2<|js 26 (!(Yl l20 RF)) (fun h3=>?_) (fun h3=>?_)
  ·
   try simp only[zB] at h3
   refine zD 6<|aF q0 (.bool false) [] [] [] (Sub.refl _) ⟨_,_,rfl,rfl,by rw[hI.2,VN arM Sn];simp_all,rfl⟩
  try simp only[zB] at h3
  refine zD 4<|ja ((k:Int)+1) (by omega)<|zD 2<|bI bF (k+1) ⟨by omega,by rw[hI.2,VN arM Sn];simp_all⟩ (by omega) [] (Sub.refl _)
 refine zD 7<|aF q0 (.bool true) [] [] [] (Sub.refl _) ⟨_,_,rfl,rfl,by rw[hI.2,afH (by omega) (by omega)],rfl⟩
theorem Ob:(lZ f 4).length≤1000:=Nat.le_trans (IU f 4) (by decide)
def De:Nat→List Int→List Int
 |0,ys=>ys
 |j+1,ys=>if PC (ys.getD (j+1) 0) (ys.getD j 0) <0 then De j ((ys.set (j+1) (ys.getD j 0)).set j (ys.getD (j+1) 0)) else ys
def EC:Nat→Nat→List Int→List Int
 |0,_,ys=>ys
 |n+1,i,ys=>EC n (i+1) (De i ys)
def Cn(xs:List Int):List Int:=EC (xs.length-1) 1 xs
theorem XA(h:¬j>0):De j.toNat ys=ys:=by rw[show j.toNat=0 by omega];rfl
theorem akE(h:ys[i]?=some x):ys.getD i 0=x:=by rw[List.getD_eq_getElem?_getD,h];rfl
theorem XB(hj:j>0)(hx:ys[j.toNat]?=some x) (hy:ys[(j-1).toNat]?=some y) (h:¬PC x y <0):De j.toNat ys=ys:=by
 have e:j.toNat=(j-1).toNat+1:=by omega
 rw[e] at hx ⊢
 rw[De,akE hx,akE hy,if_neg h]
theorem U9{x' y':Int}(hj:j>0)(hx:ys[j.toNat]?=some x) (hy:ys[(j-1).toNat]?=some y) (lO:ys[j.toNat]?=some x') (XF:ys[(j-1).toNat]?=some y') (h:PC x y <0):De j.toNat ys=De (j-1).toNat ((ys.set j.toNat y').set (j-1).toNat x'):=by
 rw[hx] at lO;rw[hy] at XF;cases lO;cases XF
 have e:j.toNat=(j-1).toNat+1:=by omega
 rw[e] at hx ⊢
 rw[De,akE hx,akE hy,if_pos h]
def Mk(v:Value)(xs:List Int)(Y:Cells):Prop:=∃ys,ys=Cn xs∧az v 1 85 Qo ys Y
theorem QO{i:Int}(h:Cn xs=EC (n-i.toNat) i.toNat ys)(hi:0≤i∧i <n):Cn xs=EC (n-(i+1).toNat) (i+1).toNat (De i.toNat ys):=by
 rw[h,show n-i.toNat=(n-(i+1).toNat)+1 by omega,show (i+1).toNat=i.toNat+1 by omega];rfl
theorem Wz{i:Int}(h:Cn xs=EC (n-i.toNat) i.toNat ys)(hi:¬i <n):ys=Cn xs:=by
 rw[h,show n-i.toNat=0 by omega];rfl
theorem aMV{ro:Nat→Option Obj}(hx:0≤x∧x <16)(hy:0≤y∧y <16):dL zT 112 [.int .u8 x,.int .u8 y] ro (zI (PC x y)):=by
 have hpx:=Uu hx
 have hpy:=Uu hy
 refine bC au [] [] bn<|zD 8<|jp (vs:=[.int .u8 x]) [] [] (fun aA hs hZ=>(amu hx))<|zD 1<|jp (vs:=[.int .u8 y]) [] [] (fun aA hs hZ=>(amu hy))<|ja ((yg x)-(yg y)) (by omega)<|zD 7<|js 12 (!decide (((yg x)-(yg y))=0)) (fun h1=>?_) (fun h1=>?_)
 ·
  replace h1:=of_decide_eq_false (by simpa using h1)
  refine zD 7<|aF q0 (zI ((yg x)-(yg y))) [] [] [] (Sub.refl _) ⟨_,_,rfl,rfl,by rw[PC,if_neg (by omega)],rfl⟩
 replace h1:=of_decide_eq_true (by simpa using h1)
 refine zD 5<|jc (vs:=[.int .u8 x]) [] (afs) ?_
 rintro v15 L15 ⟨_,arp,rfl⟩
 refine zD 1<|jc (vs:=[.int .u8 y]) [] (afs) ?_
 rintro v17 L17 ⟨_,BK,rfl⟩
 refine jp (vs:=[v15,v17]) [1,0] (L15++L17) (fun aA hs hZ=>aNw (arp.nv hZ.left) (BK.nv hZ.right) Ob Ob)<|zD 3<|aF q0 (zI (xS (lZ x 4) (lZ y 4))) [] [] [] (Sub.refl _) ⟨_,_,rfl,rfl,by rw[PC,if_pos (by omega)],rfl⟩
theorem aMU{v:Value}{L:Cells}{ro:Nat→Option Obj}(ho:az v 1 85 Qo xs L)(hN:xs.length≤12)(hM:∀m∈xs,0≤m∧m <16):eG zT 162 [v,zI 0,zI (xs.length:Int),.func (.func 112) ⟨[]⟩ ⟨[]⟩] ro L (fun r Y=>Mk v xs Y):=by
 refine bC au [.l L] [] bn<|zD 7<|eN [1,0,0] [] (fun(zz:Int×(List Int)×Cells)=>[(0,v),(1,zI 0),(2,zI (xs.length:Int)),(3,.func (.func 112) ⟨[]⟩ ⟨[]⟩),(8,zI zz.1)]) (fun(zz:Int×(List Int)×Cells)=>[.l zz.2.2]) (fun(zz:Int×(List Int)×Cells)=>(1≤zz.1)∧az v 1 85 Qo zz.2.1 zz.2.2∧zz.2.1.Perm xs∧Cn xs=EC (xs.length-zz.1.toNat) zz.1.toNat zz.2.1) (fun(zz:Int×(List Int)×Cells)=>((xs.length:Int)-zz.1).toNat) (⟨1,xs,L⟩) ⟨by dsimp only;omega,ho,.refl _,rfl⟩ [0] ?_
 rintro⟨i,ys,L⟩ hI K1 bF rest
 dsimp only at hI
 have Vb:=hI.2.2.1.length_eq
 have hym:∀m∈ys,0≤m∧m <16:=fun m hm=>hM m (hI.2.2.1.mem_iff.1 hm)
 refine zD 7<|zJ 14 (i <(xs.length:Int)) (fun h1=>?_) fun h1=>?_
 ·
  refine zD 10<|eN [1,0,0,1,0,0,1,0,0] [K1] (fun(zz:Int×(List Int)×Cells)=>[(0,v),(1,zI 0),(2,zI (xs.length:Int)),(3,.func (.func 112) ⟨[]⟩ ⟨[]⟩),(8,zI i),(9,zI zz.1)]) (fun(zz:Int×(List Int)×Cells)=>[.l zz.2.2]) (fun(zz:Int×(List Int)×Cells)=>(0≤zz.1∧zz.1≤i)∧az v 1 85 Qo zz.2.1 zz.2.2∧zz.2.1.Perm xs∧Cn xs=EC (xs.length-(i+1).toNat) (i+1).toNat (De zz.1.toNat zz.2.1)) (fun(zz:Int×(List Int)×Cells)=>zz.1.toNat) (⟨i,ys,L⟩) ⟨by dsimp only;omega,hI.2.1,hI.2.2.1,QO hI.2.2.2 (by omega)⟩ [0] ?_
  rintro⟨j,ys,L⟩ hJ K2 mL rest
  dsimp only at hJ
  have Vb:=hJ.2.2.1.length_eq
  have hym:∀m∈ys,0≤m∧m <16:=fun m hm=>hM m (hJ.2.2.1.mem_iff.1 hm)
  refine zD 7<|js 3 (decide (j>0)) (fun h2=>?_) (fun h2=>?_)
  ·
   have mz:=h2
   replace mz:=of_decide_eq_true mz
   refine zD 3 ?_
   obtain⟨xX,lq⟩:=zG ys (j.toNat) (by first|omega| (simp only[List.length_set];omega))
   refine p5 j 1 hJ.2.1 lq (Int.toNat_of_nonneg (show 0≤j∧j <((ys).length:Int) from (by first|omega| (simp only[List.length_set];omega))).1).symm (fun dW aee=>?_)
   refine oV 0 [0] L (fun s _ hZ=>cv hJ.2.1 aee hZ lq)<|zD 2<|ja (j-1) (by omega) ?_
   obtain⟨oE,jZ⟩:=zG ys ((j-1).toNat) (by first|omega| (simp only[List.length_set];omega))
   refine p5 (j-1) 1 hJ.2.1 jZ (Int.toNat_of_nonneg (show 0≤(j-1)∧(j-1) <((ys).length:Int) from (by first|omega| (simp only[List.length_set];omega))).1).symm (fun b30 Sz=>?_)
   refine oV 0 [0] L (fun s _ hZ=>cv hJ.2.1 Sz hZ jZ)<|aH 14 fun rZ si qG=>jp (vs:=[.int .u8 xX,.int .u8 oE]) [] [] (fun aA hs hZ=>(aMV (hym _ (List.mem_of_getElem? lq)) (hym _ (List.mem_of_getElem? jZ))))<|bw qG [0]<|zD 3<|zJ 34 ((PC xX oE) <0) (fun h4=>?_) fun h4=>?_
   ·
    refine zD 9<|ja (j-1) (by omega)<|zD 2<|ja (j-1) (by omega) ?_
    obtain⟨xp,Dj⟩:=zG ys ((j-1).toNat) (by first|omega| (simp only[List.length_set];omega))
    refine p5 (j-1) 1 hJ.2.1 Dj (Int.toNat_of_nonneg (show 0≤(j-1)∧(j-1) <((ys).length:Int) from (by first|omega| (simp only[List.length_set];omega))).1).symm (fun b45 aed=>?_)
    refine oV 0 [0] L (fun s _ hZ=>cv hJ.2.1 aed hZ Dj)<|zD 2 ?_
    obtain⟨Hj,Di⟩:=zG ys (j.toNat) (by first|omega| (simp only[List.length_set];omega))
    refine p5 j 1 hJ.2.1 Di (Int.toNat_of_nonneg (show 0≤j∧j <((ys).length:Int) from (by first|omega| (simp only[List.length_set];omega))).1).symm (fun b49 aec=>?_)
    refine oV 0 [0] L (fun s _ hZ=>cv hJ.2.1 aec hZ Di) ?_
    obtain⟨x51,Dh⟩:=zG ys (j.toNat) (by first|omega| (simp only[List.length_set];omega))
    refine p5 j 1 hJ.2.1 Dh (Int.toNat_of_nonneg (show 0≤j∧j <((ys).length:Int) from (by first|omega| (simp only[List.length_set];omega))).1).symm (fun b51 aeb=>?_)
    refine aH 15 fun tw tz rP=>P7 0 0 [.int .u8 xp] xp hJ.2.1 aeb Dh rfl rfl (Nat.le_of_ble_eq_true rfl) fun L6 XQ=>iM rP [] ?_
    obtain⟨x52,BG⟩:=zG ((ys.set j.toNat xp)) ((j-1).toNat) (by first|omega| (simp only[List.length_set];omega))
    refine p5 (j-1) 1 XQ BG (Int.toNat_of_nonneg (show 0≤(j-1)∧(j-1) <(((ys.set j.toNat xp)).length:Int) from (by first|omega| (simp only[List.length_set];omega))).1).symm (fun b52 aea=>?_)
    refine aH 17 fun AX A5 BO=>P7 0 0 [.int .u8 Hj] Hj XQ aea BG rfl rfl (Nat.le_of_ble_eq_true rfl) fun L9 adC=>cM BO<|zD 3<|ja (j-1) (by omega)<|zD 2<|bI mL (⟨(j-1),((ys.set j.toNat xp).set ((j-1).toNat) Hj),L9⟩) ⟨by dsimp only;omega,adC,(nA Di Dj).trans hJ.2.2.1,by dsimp only;rw[hJ.2.2.2,U9 (by omega) lq jZ Di Dj (by assumption)]⟩ (by dsimp only;omega) [0] (Sub.refl _)
   refine zD 4<|ja (i+1) (by omega)<|zD 2<|bI bF (⟨(i+1),ys,L⟩) ⟨by dsimp only;omega,hJ.2.1,hJ.2.2.1,by dsimp only;rw[hJ.2.2.2,XB (by omega) lq jZ (by assumption)]⟩ (by dsimp only;omega) [0] (Sub.refl _)
  have mz:=h2
  replace mz:=of_decide_eq_false mz
  refine zD 18<|ja (i+1) (by omega)<|zD 2<|bI bF (⟨(i+1),ys,L⟩) ⟨by dsimp only;omega,hJ.2.1,hJ.2.2.1,by dsimp only;rw[hJ.2.2.2,XA (by omega)]⟩ (by dsimp only;omega) [0] (Sub.refl _)
 refine zD 2<|aF q0 (.tuple ⟨[]⟩) [] [0] L (Sub.refl _) ⟨_,_,rfl,rfl,ys,Wz hI.2.2.2 (by omega),hI.2.1⟩
theorem alg(h:K.facts.length≤3):IntKind.u8.wrap (eP K+1)=((2^K.facts.length:Nat):Int):=by
 unfold eP
 generalize K.facts.length=n at h
 obtain rfl|rfl|rfl|rfl:n=0∨n=1∨n=2∨n=3:=by omega
 all_goals decide
theorem aiD(h:n≤3):2^n≤8:=by
 obtain rfl|rfl|rfl|rfl:n=0∨n=1∨n=2∨n=3:=by omega
 all_goals decide
theorem awq(h:n≤255):Value.int .u8 (IntKind.u8.wrap (n:Int))= .int .u8 (n:Int):=by
 rw[r8 .u8 rfl _ (by omega) (by simp[IntKind.bits];omega)]
def oT(n:Nat):List Int:=Cn (dw (2^n))
theorem WU(h:n≤8):∀m∈dw n,0≤m∧m <16:=fun m hm=>by have:=pS hm;omega
theorem aMT{v:Value}{L:Cells}{Oc:Int}{ro:Nat→Option Obj}(ho:az v 1 85 Qo xs L)(hN:xs.length≤12)(hM:∀m∈xs,0≤m∧m <16):eG zT 136 [v,zI 0,zI (xs.length:Int),zI Oc,.func (.func 112) ⟨[]⟩ ⟨[]⟩] ro L (fun r Y=>Mk v xs Y):=by
 refine bC au [.l L] [] bn<|zD 9<|eN [1,1,0,0] [] (fun(zz:Nat)=>[(0,v),(1,zI 0),(2,zI (xs.length:Int)),(3,zI Oc),(4,.func (.func 112) ⟨[]⟩ ⟨[]⟩),(10,.bool true),(11,.bool true)]) (fun(zz:Nat)=>[.l L]) (fun(zz:Nat)=>True) (fun(zz:Nat)=>zz) 0 trivial [0] ?_
 rintro z hI K1 bF rest
 refine zD 5<|ja ((xs.length:Int)-0) (by omega)<|zD 8<|zJ 25 (((xs.length:Int)-0)≤12) (fun h1=>?_) fun h1=>?_
 ·
  refine zD 7<|jc (vs:=[v,zI 0,zI (xs.length:Int),.func (.func 112) ⟨[]⟩ ⟨[]⟩]) [0] (aMU ho hN hM) ?_
  rintro axj Y30 ⟨aIF,arh,BJ⟩
  refine zD 2<|aF q0 (.tuple ⟨[]⟩) [] [0] Y30 (Sub.refl _) ⟨_,_,rfl,rfl,_,arh,BJ⟩
 exfalso;omega
theorem ayO{v:Value}{L:Cells}{ro:Nat→Option Obj}(ho:az v 1 85 Qo xs L)(hN:xs.length≤12)(hM:∀m∈xs,0≤m∧m <16):eG zT 111 [v,.func (.func 112) ⟨[]⟩ ⟨[]⟩] ro L (fun r Y=>Mk v xs Y):=by
 refine bC au [.l L] [] bn<|zD 3<|DY ho<|zD 6<|je (zU (xs.length:Int)) (ZA (by omega))<|jp (vs:=[zU (xs.length:Int)]) [] [] (fun aA hs hZ=>(atH (by omega)))<|zD 1<|jc (vs:=[v,zI 0,zI (xs.length:Int),zI (Xs xs.length),.func (.func 112) ⟨[]⟩ ⟨[]⟩]) [0] (aMT ho hN hM) ?_
 rintro axk Y13 ⟨aIH,XO,Si⟩
 refine zD 1<|aF q0 (.tuple ⟨[]⟩) [] [0] Y13 (Sub.refl _) ⟨_,_,rfl,rfl,_,XO,Si⟩
theorem aEo{f:Nat}{rows:List bU}{ro:Nat→Option Obj}(hF:pF ro f K rows)(hV:gT K)(hn3:K.facts.length≤3):eG zT 70 [zP f] ro [] (fun r Y=>∃L,az r 1 85 Qo (oT K.facts.length) L∧Y=L):=by
 have hp8:=aiD hn3
 refine bC au [] [] bn<|zD 12<|jp (vs:=[zP f]) [] [] (fun aA hs hZ=>Og hV (hF.up hs))<|je (.int .u8 ((2^K.facts.length:Nat):Int)) (congrArg (Value.int .u8) (alg hn3))<|zD 3<|qB<|eN [1,1,0,1,0,0] [] (fun(zz:Nat×Value×Cells)=>[(2,zS),(3,zz.2.1),(7,.int .u8 ((2^K.facts.length:Nat):Int)),(8,.int .u8 (zz.1:Int))]) (fun(zz:Nat×Value×Cells)=>[.l zz.2.2]) (fun(zz:Nat×Value×Cells)=>zz.1≤2^K.facts.length∧az zz.2.1 1 85 Qo (dw zz.1) zz.2.2) (fun(zz:Nat×Value×Cells)=>2^K.facts.length-zz.1) (⟨0,zS,[]⟩) ⟨Nat.zero_le _,az.nil _ _ _⟩ [0] ?_
 rintro⟨k,v,L⟩ hI K1 bF rest
 dsimp only at hI
 have hrl:=lI k
 refine zD 5<|zJ 9 ((k:Int) <((2^K.facts.length:Nat):Int)) (fun h1=>?_) fun h1=>?_
 ·
  refine zD 12<|jn fun yZ=>k8 (sz:=1) (ps:=(dw k)) (qs:=[(k:Int)]) (enc:=Qo) (w:= .slice (some ⟨yZ,0,none⟩) 1 1) [1] [0] [(yZ,.cells ⟨([(k:Int)].map Qo).flatten⟩ 85 (0,0))] (hI.2) (fun s _ hZ=>cb [(k:Int)] (hZ _ (.head _)) (by intro p hp;rfl)) (fun p _=>ar rfl) (by simp<;>omega) (fun v14 L14 tY=>?_)
  obtain⟨JE,Ho,xC⟩:=tY.form
  subst xC
  refine zD 3<|je (.int .u8 ((k:Int)+1)) (awq (n:=k+1) (by omega))<|zD 2<|bI bF (⟨k+1,(.slice JE (((dw k)++[(k:Int)])).length Ho),L14⟩) ⟨by dsimp only;omega,by dsimp only;rw[vk];exact tY⟩ (by dsimp only;omega) [0] (Sub.refl _)
 refine zD 5<|jc (vs:=[v,.func (.func 112) ⟨[]⟩ ⟨[]⟩]) [0] (ayO hI.2 (by rw[lI];omega) (WU (by omega))) ?_
 rintro aZZ Y17 ⟨aZa,aOD,BK⟩
 refine zD 7<|aF q0 (v) [] [0] Y17 (Sub.refl _) ⟨_,_,rfl,rfl,_,by rw[oT,show 2^K.facts.length=k by omega,←aOD];exact BK,rfl⟩
def H0(K:bk)(rows:List bU)(p:Nat→Int):Nat→Bool
 |0=>false
 |i+1=>H0 K rows p i||eY K.gone K.new K.af (dS K ((rows[i]?).getD ⟨fun _ _=>false⟩) i p)
theorem Wa{rows:List bU}{p:Nat→Int}{r:bU}(h:rows[i]?=some r):H0 K rows p (i+1)=(H0 K rows p i||eY K.gone K.new K.af (dS K r i p)):=by rw[H0,h];rfl
theorem alf{rows:List bU}{p:Nat→Int}(h:H0 K rows p i=true)(hn:i≤n):H0 K rows p n=true:=by
 induction n with
 |zero=>rwa[show i=0 by omega] at h
 |succ n ih=>
  by_cases e:i=n+1
  ·rwa[e] at h
  rw[H0,ih (by omega),Bool.true_or]
def Yv(K:bk)(rows:List bU)(on:Int):Bool:=(dH K on).any fun p=>H0 K rows p rows.length
theorem agq{f:α→Bool}{l:List α}{x:α}(h:l[k]?=some x) (h1:(l.take k).any f=false) (h2:f x=false):(l.take (k+1)).any f=false:=by
 rw[jB h,List.any_append,h1,List.any_cons,h2];rfl
theorem aSm{f:Nat}{rows:List bU}{on:Int}{ro:Nat→Option Obj}(hF:pF ro f K rows)(hV:gT K)(hR:rows.length≤1000):eG zT 71 [zP f,.int .u8 on] ro [] (fun r Y=>r= .bool (Yv K rows on)∧Y=[]):=by
 obtain⟨c0,c1,c2,vc,vh,vr,vb,va,vf,vt,hv,hf,rO,oF,hr,Ds,HQ,I6,bM⟩:=id hF
 obtain⟨hc,hh,cY⟩:=id rO
 obtain⟨eL,AR,AQ,eF,rfl,Da,yR,yQ⟩:=hc
 obtain⟨dR,uZ,uY,dD,rfl,xu,qM,qL⟩:=hh
 obtain⟨mr,J3,J2,mo,rfl,Nv,Iy,Ix⟩:=hr
 obtain⟨lK,J8,J6,kT,rfl,J7,EP,EO⟩:=Ds
 obtain⟨lL,Kb,J9,kU,rfl,Ka,ET,ES⟩:=HQ
 obtain⟨mv,Rh,Rf,lg,rfl,Rg,J5,J4⟩:=I6
 obtain⟨nz,C9,C8,mX,rfl,Ns,J1,J0⟩:=bM
 have Qd:=hV.rules.1
 have FP:=hV.before.1
 have HK:=hV.after.1
 have hnf:=hV.facts.1
 refine ajA au [] [] bn<|zD 2<|jn fun b2=>zD 5<|jn fun b5=>jd 9 [0,1]<|jc (vs:=[zP f,.int .u8 on]) [] (IV (on:=on) hF hV) ?_
 rintro _ _ ⟨q1,q2,q3,q4,rfl,rfl⟩
 refine jg 0 [.b q1 (.cells ⟨[zP f]⟩ 80 (0,0)),.b q2 (.cells ⟨[.func (.func 99) ⟨[]⟩ ⟨[zP q1,zP q4]⟩]⟩ 200 (0,0)),.b q3 (.cells ⟨[.bool (cZ K on 0 0),.bool (cZ K on 0 1),.bool (cZ K on 0 2),.bool (cZ K on 0 3),.bool (cZ K on 1 0),.bool (cZ K on 1 1),.bool (cZ K on 1 2),.bool (cZ K on 1 3),.bool (cZ K on 2 0),.bool (cZ K on 2 1),.bool (cZ K on 2 2),.bool (cZ K on 2 3),.bool (cZ K on 3 0),.bool (cZ K on 3 1),.bool (cZ K on 3 2),.bool (cZ K on 3 3)]⟩ 127 (0,0)),.b q4 (.cells ⟨[.int .u8 on]⟩ 85 (0,0))]<|jf [0,1,2,3,5] ((q1,.cells ⟨[zP f]⟩ 80 (0,0))::((q2,.cells ⟨[.func (.func 99) ⟨[]⟩ ⟨[zP q1,zP q4]⟩]⟩ 200 (0,0))::((q3,.cells ⟨[.bool (cZ K on 0 0),.bool (cZ K on 0 1),.bool (cZ K on 0 2),.bool (cZ K on 0 3),.bool (cZ K on 1 0),.bool (cZ K on 1 1),.bool (cZ K on 1 2),.bool (cZ K on 1 3),.bool (cZ K on 2 0),.bool (cZ K on 2 1),.bool (cZ K on 2 2),.bool (cZ K on 2 3),.bool (cZ K on 3 0),.bool (cZ K on 3 1),.bool (cZ K on 3 2),.bool (cZ K on 3 3)]⟩ 127 (0,0))::((q4,.cells ⟨[.int .u8 on]⟩ 85 (0,0))::[(b2,.cells ⟨[zP f]⟩ 80 (0,0))])))) fun AM bW jC=>zD 2<|jrf [] (U3 (on:=on) (hF.up bW) hV (jC _ (.head _)) (jC _ (.tail _ (.head _))) (jC _ (.tail _ (.tail _ (.head _)))) (jC _ (.tail _ (.tail _ (.tail _ (.head _)))))) (by rintro _ _ _ _ ⟨_,_,rfl,_⟩;rfl) (fun(zz:Bool)=>[.b b5 (.cells ⟨[.bool zz]⟩ 4 (0,0))]) (fun kk=>(fun(zz:Bool)=>zz=false∧(((dH K on).take kk).any fun p=>H0 K rows p rows.length)=false)) (fun jump=>(fun(zz:Bool)=>jump= .exit 0∧zz=true∧Yv K rows on=true)) false ⟨rfl,rfl⟩ [0] ?_ ?_ ?_
 ·
  rintro bl4 bd4 kk4 vs4 LL4 bo ro4 hk4 asa hI kX
  obtain⟨p4,hp4,rfl,rfl⟩:=asa
  have XN:=(lX hV on).2 p4 (List.mem_of_getElem? hp4)
  refine zD 1<|jn fun b6=>jd 2 [0]<|azf<|zD 3<|jl (b:=b2) (off:=0) (m:=1) (vs:=[zP f]) 0 ⟨_,_,_,.inl (kX _ _ (jC _ (.tail _ (.tail _ (.tail _ (.tail _ (.head _))))))),rfl⟩<|zD 2<|jl (b:=f) (off:=0) (m:=13) (vs:=[c0,c1,c2,.slice eL K.cs.length eF,.slice dR hv.length dD,.slice mr K.rules.length mo,.slice lK K.before.length kT,.slice lL K.after.length kU,zI K.gone,zI K.new,zI K.af,.slice mv K.facts.length lg,.slice nz rows.length mX]) 12 ⟨_,_,_,.inl (kX _ _ (bW _ _ hf)),rfl⟩<|zD 4<|aNi [1] [1,0,1,1,0,1,0,3,0,1,0,0] [] (fun(zz:Nat×Bool)=>[(2,zP b2),(4,.bool false),(5,zP b5),(6,zP b6),(16,zI (rows.length:Int)),(17,zI (zz.1:Int))]) (fun(zz:Nat×Bool)=>[.b b5 (.cells ⟨[.bool zz.2]⟩ 4 (0,0)),.b b6 (.cells ⟨[zI (p4 0),zI (p4 1),zI (p4 2),zI (p4 3)]⟩ 89 (0,0))]) (fun(zz:Nat×Bool)=>zz.1≤rows.length∧zz.2=false∧H0 K rows p4 zz.1=false) (fun(zz:Nat×Bool)=>rows.length-zz.1) (⟨0,bo⟩) ⟨Nat.zero_le _,hI.1,rfl⟩ [2,0,1] ?_
  rintro⟨i,bo⟩ hJ K1 bF rest
  dsimp only at hJ
  refine zD 5<|zJ 18 ((i:Int) <(rows.length:Int)) (fun h5=>?_) fun h5=>?_
  ·
   refine zD 5 ?_
   obtain⟨r_,BH⟩:∃r_,rows[i]?=some r_:=⟨_,List.getElem?_eq_getElem (by omega)⟩
   refine zD 6<|jl (b:=b2) (off:=0) (m:=1) (vs:=[zP f]) 0 ⟨_,_,_,.inl (kX _ _ (jC _ (.tail _ (.tail _ (.tail _ (.tail _ (.head _))))))),rfl⟩<|jl (b:=b2) (off:=0) (m:=1) (vs:=[zP f]) 0 ⟨_,_,_,.inl (kX _ _ (jC _ (.tail _ (.tail _ (.tail _ (.tail _ (.head _))))))),rfl⟩<|jd 2 [1]<|jp (vs:=[zP f,zI (i:Int),.agg ⟨[zI (p4 0),zI (p4 1),zI (p4 2),zI (p4 3)]⟩]) [] [] (fun aA hs hZ=>amv (hF.up (Sub.trans (bW.trans kX) hs)) hV BH XN)<|jp (vs:=[zP f,.agg ⟨[zI ((dS K r_ i p4).past),zI ((dS K r_ i p4).w0),zI ((dS K r_ i p4).w1),zI ((dS K r_ i p4).w2),zI ((dS K r_ i p4).w3),zI ((dS K r_ i p4).gone),zI ((dS K r_ i p4).new),zI ((dS K r_ i p4).af)]⟩]) [] [] (fun aA hs hZ=>acu (x:=(dS K r_ i p4)) (hs _ _ (kX _ _ (bW _ _ hf))))<|aH 6 fun AY A6 Ad=>jd 1 [0]<|cM Ad<|jd 5 [0]<|js 26 (eY K.gone K.new K.af (dS K r_ i p4)) (fun h7=>?_) (fun h7=>?_)
   ·
    refine zD 2<|jys WY (Sub.refl _) (.exit 0) (eY K.gone K.new K.af (dS K r_ i p4)) ⟨rfl,by assumption,List.any_eq_true.2 ⟨p4,List.mem_of_getElem? hp4,alf (i:=i+1) (by rw[Wa BH];simp[*]) (by omega)⟩⟩ [2,0]
   refine zD 3<|ja ((i:Int)+1) (by omega)<|zD 2<|bI bF (⟨i+1,(eY K.gone K.new K.af (dS K r_ i p4))⟩) ⟨by dsimp only;omega,by assumption,by dsimp only;rw[Wa BH,hJ.2.2,Bool.false_or];assumption⟩ (by dsimp only;omega) [0,1,2] (Sub.refl _)
  refine zD 2<|jyn WY (Sub.refl _) bo ⟨hJ.2.1,agq hp4 hI.2 (by have:=hJ.2.2;rwa[show i=rows.length by omega] at this)⟩ [2,0]
 ·
  rintro bd4 bo Z4 hI hZ4
  subst hZ4
  refine jd 6 [2]<|jrM qm0.a.m (.bool bo) [0] [] [] [] bW ⟨by have:=hI.2;rw[List.take_of_length_le (Nat.le_refl _)] at this;rw[hI.1,Yv,this],rfl⟩
 rintro bd4 bo Z4 jump hS hZ4
 obtain⟨rfl,hS⟩:=hS
 subst hZ4
 refine jd 6 [2]<|jrM qm0.a.m (.bool bo) [0] [] [] [] bW ⟨by rw[hS.1,hS.2],rfl⟩
def iAn(k:IntKind)(a b:Int):Int:=k.wrap (BitVec.ofInt k.bits a&&& ~~~ BitVec.ofInt k.bits b).toNat
theorem apT:oT 0=[0]:=by kernel_rfl
theorem apS:oT 1=[0,1]:=by kernel_rfl
theorem apR:oT 2=[0,1,2,3]:=by kernel_rfl
theorem apQ:oT 3=[0,1,2,4,3,5,6,7]:=by kernel_rfl
theorem abR(h:n≤3):(oT n).length≤8∧∀m∈oT n,0≤m∧m <16:=by
 obtain rfl|rfl|rfl|rfl:n=0∨n=1∨n=2∨n=3:=by omega
 ·rw[apT];decide
 ·rw[apS];decide
 ·rw[apR];decide
 rw[apQ];decide
def JA(K:bk)(rows:List bU):Option Int:=(oT K.facts.length).find? fun m=>Yv K rows (iAn .u8 (eP K) m)
theorem VK{p:α→Bool}{l:List α}{x:α}(hx:l[k]?=some x):(l.drop k).find? p=bif p x then some x else (l.drop (k+1)).find? p:=by rw[gu hx,List.find?_cons];cases p x<;>rfl
theorem afo{p:α→Bool}{l:List α}(hx:¬k <l.length):(l.drop k).find? p=none:=by rw[eQ hx];rfl
theorem ap5{rows:List bU}{ro:Nat→Option Obj}(hK:gV ro l K)(hV:gT K)(hR:rows.length≤2)(hB:mT ro l K rows)(hn3:K.facts.length≤3):eG zT 32 [.agg ⟨l⟩] ro [] (fun r Y=>∃v e,r= .tuple ⟨[v,zI e]⟩∧((∃m,JA K rows=some m∧az v 1 3 cS (lZ m 4) Y∧e=0)∨(JA K rows=none∧v= zS∧e=11∧Y=[]))):=by
 obtain⟨v0,v1,v3,v4,v5,v6,v7,vb,fa,fc,hv,rfl,_⟩:=hK
 have OI:=abR hn3
 have Sm:=OI.1
 refine bC au [] [] bn<|zD 2<|jn fun b1=>jd 6 [0]<|jc (vs:=[.agg ⟨[v0,v1,.slice fa 0 fc,v3,v4,v5,v6,v7,zI K.gone,zI K.new,zI K.af,vb]⟩]) [] (hB _ (Sub.refl _)) ?_
 rintro _ Zm ⟨f10,rfl,atq⟩
 refine zD 5<|jf [0] Zm (fun AM bW jC=>?_)
 have Le:=atq _ bW jC
 refine zD 13<|jc (vs:=[zP f10]) [] (aEo Le hV hn3) ?_
 rintro v17 L17 ⟨_,BK,rfl⟩
 refine DY BK<|zD 3<|eN [1,1,1,0,1,0,0] [] (fun(zz:Nat)=>[(4,zP f10),(17,v17),(18,zI ((oT K.facts.length).length:Int)),(19,zI (zz:Int))]) (fun(zz:Nat)=>[.l L17,.b b1 (.cells ⟨[v0,v1,.slice fa 0 fc,v3,v4,v5,v6,v7,zI K.gone,zI K.new,zI K.af,vb]⟩ 40 (0,0))]) (fun(zz:Nat)=>zz≤(oT K.facts.length).length∧JA K rows=((oT K.facts.length).drop zz).find? (fun m=>Yv K rows (iAn .u8 (eP K) m))) (fun(zz:Nat)=>(oT K.facts.length).length-zz) 0 ⟨Nat.zero_le _,rfl⟩ [0,1] ?_
 rintro k hI K1 bF rest
 refine zD 5<|zJ 20 ((k:Int) <((oT K.facts.length).length:Int)) (fun h4=>?_) fun h4=>?_
 ·
  refine zD 6 ?_
  obtain⟨xY,p7⟩:=zG ((oT K.facts.length)) k (by first|omega| (simp only[List.length_set,List.length_append,List.length_cons,List.length_nil];omega))
  refine Y3 1 BK p7 fun b21 aQQ=>oV 0 [0] L17 (fun s _ hZ=>cv BK aQQ hZ p7)<|zD 6<|jp (vs:=[zP f10]) [] [] (fun aA hs hZ=>Og hV (Le.up hs))<|zD 1<|je (.int .u8 (iAn .u8 (eP K) xY)) rfl<|jc (vs:=[zP f10,.int .u8 (iAn .u8 (eP K) xY)]) [] (aSm Le hV (by omega)) ?_
  rintro _ _ ⟨rfl,rfl⟩
  refine jg 0 []<|zD 1<|js 28 (Yv K rows (iAn .u8 (eP K) xY)) (fun h5=>?_) (fun h5=>?_)
  ·
   refine zD 4<|jc (vs:=[.int .u8 xY]) [] (afs) ?_
   rintro v30 L30 ⟨_,BJ,rfl⟩
   refine zD 4<|aF q0.a (.tuple ⟨[v30,zI 0]⟩) [] [0] L30 bW ⟨_,_,rfl,rfl,_,_,rfl,.inl ⟨_,by rw[hI.2,VK p7];simp only[*,cond_true],BJ,rfl⟩⟩
  refine zD 3<|ja ((k:Int)+1) (by omega)<|zD 2<|bI bF (k+1) ⟨by omega,by rw[hI.2,VK p7];simp only[*,cond_false]⟩ (by omega) [0,1] (Sub.refl _)
 refine zD 8<|aF q0.a (.tuple ⟨[zS,zI 11]⟩) [] [] [] bW ⟨_,_,rfl,rfl,_,_,rfl,.inr ⟨by rw[hI.2,afo (by omega)],rfl,rfl,rfl⟩⟩
theorem aqo{f:Nat}{rows:List bU}{ro:Nat→Option Obj}(hF:pF ro f K rows)(hV:gT K)(hR:rows.length≤2):G0 zT 115 [zP f] ro [] (fun r Y=>∃zs v e,r= .tuple ⟨[v,zI e]⟩∧zs.Perm (gB K (eP K) (eY K.gone K.new K.af) rows)∧az v 8 91 cN zs Y∧((zs=[]∧e=9)∨(zs≠[]∧e=0))):=by
 refine HC au [] [] bn fun fr=>zD 9<|jp (vs:=[zP f]) [] [] (fun aA hs hZ=>Og hV (hF.up hs))<|KE (vs:=[zP f,.int .u8 (eP K)]) [] (fun _ _ h=>h) (U2 hV hF hR) ?_
 rintro v8 Y8 ⟨zs,hz,ho8⟩
 refine zD 6<|DY ho8<|zD 2<|zJ 11 ((zs.length:Int)=0) (fun h1=>?_) fun h1=>?_
 ·
  refine zD 7<|RI qC (.tuple ⟨[zS,zI 9]⟩) [1] [] (Sub.refl _) ⟨zs,_,_,rfl,hz,by rw[show zs=[] from List.eq_nil_of_length_eq_zero (by omega)];exact az.nil _ _ _,.inl ⟨List.eq_nil_of_length_eq_zero (by omega),rfl⟩⟩
 refine zD 9<|RI qC (.tuple ⟨[v8,zI 0]⟩) [0,1] Y8 (Sub.refl _) ⟨zs,_,_,rfl,hz,ho8,.inr ⟨fun e=>by subst e;simp at*,rfl⟩⟩
theorem acs{rows:List bU}{ro:Nat→Option Obj}(hK:gV ro l K)(hV:gT K)(hR:rows.length≤2)(hB:mT ro l K rows):auq zT 73 [.agg ⟨l⟩] ro [] (fun r aA Y=>∃f zs v e,r= .tuple ⟨[pV f,v,zI e]⟩∧pF aA f K rows∧zs.Perm (gB K (eP K) (eY K.gone K.new K.af) rows)∧az v 8 91 cN zs Y∧((zs=[]∧e=9)∨(zs≠[]∧e=0))):=by
 obtain⟨v0,v1,v3,v4,v5,v6,v7,vb,fa,fc,hv,rfl,_⟩:=hK
 refine azd (hm:=au) [] [] bn fun fr=>zD 2<|jn fun b1=>jd 7 [0]<|jc (vs:=[.agg ⟨[v0,v1,.slice fa 0 fc,v3,v4,v5,v6,v7,zI K.gone,zI K.new,zI K.af,vb]⟩]) [] (hB _ (Sub.refl _)) ?_
 rintro _ Zm ⟨f10,rfl,atq⟩
 refine zD 5<|jf [0] Zm (fun AM bW jC=>?_)
 have Le:=atq _ bW jC
 refine zD 12<|KE (vs:=[zP f10]) [] (fun _ _ h=>h) (aqo Le hV hR) ?_
 rintro _ Y18 ⟨zs,v18,e18,rfl,hz,XS,he⟩
 refine zD 16<|aNa qC.a (.tuple ⟨[zP f10,v18,zI e18]⟩) [0,2] Y18 bW ⟨f10,zs,v18,e18,rfl,Le,hz,XS,he⟩
end Go.L
