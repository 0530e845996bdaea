/- Part 11 of the proof. -/
import Derived.Test.YtfamogolneloaaaGreatDoorG10
set_option maxRecDepth 100000
set_option linter.all false
namespace Go.L
open Go Go.Conc Go.Proofs
variable {l:List Value} {K:aM} {b i j ck p1 p2 q na k fc nb:Nat} {n:Int} {T R:Nat→Nat→Int} {W:List (List Int)} {seen:List Nat} {p:Nat→Int} {α:Type} {v0 v1 v3 v5 v6 v7 vb:Value}
structure fu where
 c:Nat→Nat→Int
abbrev yX(m:fu):List Value:=[zI (m.c 0 0),zI (m.c 0 1),zI (m.c 0 2),zI (m.c 0 3),zI (m.c 1 0),zI (m.c 1 1),zI (m.c 1 2),zI (m.c 1 3),zI (m.c 2 0),zI (m.c 2 1),zI (m.c 2 2),zI (m.c 2 3),zI (m.c 3 0),zI (m.c 3 1),zI (m.c 3 2),zI (m.c 3 3)]
theorem Ag{m:fu}{a:Nat}(h:a <4)(k:b <4):nth (yX m) (0+(a:Int).toNat*4+(b:Int).toNat*1)=some (zI (m.c a b)):=by
 rcases Ai h with rfl|rfl|rfl|rfl<;>rcases Ai k with rfl|rfl|rfl|rfl<;>rfl
def rG(m:fu)(a b:Nat)(v:Int):fu:=⟨fun i j=>if i=a∧j=b then v else m.c i j⟩
theorem akn{m:fu}{a:Nat}{v:Int}(h:a <4)(k:b <4):du (yX m) (0+(a:Int).toNat*4+(b:Int).toNat*1) [zI v]=yX (rG m a b v):=by
 rcases Ai h with rfl|rfl|rfl|rfl<;>rcases Ai k with rfl|rfl|rfl|rfl<;>rfl
theorem ako{m:fu}{a:Nat}{v:Value}(h:a <4)(k:b <4):Nat.ble ((0+(a:Int).toNat*4+(b:Int).toNat*1)+[v].length) (yX m).length=true:=by
 rcases Ai h with rfl|rfl|rfl|rfl<;>rcases Ai k with rfl|rfl|rfl|rfl<;>rfl
def pI(x:ai):Nat→Int
 |0=>x.w0
 |1=>x.w1
 |2=>x.w2
 |_=>x.w3
def aw(zs:List ai):fu:=⟨fun i j=>((zs.filter fun x=>decide (pI x i=(j:Int)+1)).length:Int)⟩
theorem Cz(zs:List ai)(i j:Nat):0≤(aw zs).c i j∧(aw zs).c i j≤zs.length:=by
 have:=List.length_filter_le (fun x=>decide (pI x i=(j:Int)+1)) zs
 simp only[aw];omega
theorem AS{zs ys:List ai}(h:zs.Perm ys):aw zs=aw ys:=by
 simp only[aw,(h.filter _).length_eq]
theorem xa{r:bH}(hp:∀i,0≤p i∧p i≤4)(q:Nat):0≤pI (cW K r i p) q∧pI (cW K r i p) q≤4:=match q with
 |0=>hp 0
 |1=>hp 1
 |2=>hp 2
 |_+3=>hp 3
def qK:Prop:=∀ {ro:Nat→Option Obj} {v:Value} {zs:List ai},bE ro v 8 cm zs→zs.length≤100000→(∀x∈zs,∀q,0≤pI x q∧pI x q≤4)→eE zT 54 [v] ro [] (fun r Y=>r= .agg ⟨yX (aw zs)⟩∧Y=[])
def mN(m:fu)(n:Int)(i:Nat):Nat→List (List Int)
 |0=>[]
 |j+1=>mN m n i j++(bif decide (m.c i j=n) then [[(i:Int),(j:Int)]] else [])
def nq(m:fu)(n:Int)(w:Nat):Nat→List (List Int)
 |0=>[]
 |i+1=>nq m n w i++mN m n i w
theorem VM{m:fu}(h:m.c i j=n):mN m n i (j+1)=mN m n i j++[[(i:Int),(j:Int)]]:=by rw[mN,decide_eq_true h];rfl
theorem VN{m:fu}(h:¬m.c i j=n):mN m n i (j+1)=mN m n i j:=by rw[mN,decide_eq_false h];exact List.append_nil _
theorem BX(m:fu)(n:Int)(i:Nat):∀j,(mN m n i j).length≤j
 |0=>Nat.le_refl _
 |j+1=>by have:=BX m n i j;rw[mN,List.length_append];cases decide (m.c i j=n)<;>simp<;>omega
theorem BY(m:fu)(n:Int){w:Nat}(hw:w≤4):∀i,(nq m n w i).length≤4*i
 |0=>Nat.le_refl _
 |i+1=>by have:=BY m n hw i;have:=BX m n i w;rw[nq,List.length_append];omega
theorem akO{rows:List bH}{ro:Nat→Option Obj}(hK:gk ro l K)(hV:fy K)(hR:rows.length≤2)(hB:gZ ro l K rows)(hCt:qK):Bs zT 63 [.agg ⟨l⟩,.func (.func 65) ⟨[]⟩ ⟨[]⟩] ro [] (fun r Y=>∃zs v e,zs.Perm (dc K (bF K) (cP K.gone K.new K.af) rows)∧r= .tuple ⟨[v,zI e]⟩∧((zs=[]∧v= zS∧e=9∧Y=[])∨(zs≠[]∧e=0∧∀aI,Knows aI Y→LL aI v (nq (aw zs) ((zs.length:Nat):Int) K.after.length K.before.length)))):=by
 obtain⟨v0,v1,v3,v4,v5,v6,v7,vb,fa,fc,hv,rfl,_⟩:=id hK
 refine yG au [] [] a8 fun fr=>zD 2<|jn fun b2=>jd 6 [0]<|ak1 (vs:=[.agg ⟨[v0,v1,.slice fa 0 fc,v3,v4,v5,v6,v7,zI K.gone,zI K.new,zI K.af,vb]⟩]) [] (fun _ _ h=>h) (V9 hK hV hR hB) ?_
 rintro _ aB Y15 bW ⟨f15,zs,v15,e15,rfl,Bo,hz,aeR,he⟩
 have Ir:∀x∈zs,(-4≤x.gone∧x.gone≤4)∧(-4≤x.new∧x.new≤4)∧(0≤x.af∧x.af≤4):=fun x hx=>by obtain⟨i,r,p,_,_,rfl,_⟩:=eR (hz.mem_iff.1 hx);exact kI hV r i p
 have S1:zs.length≤1250:=by rw[hz.length_eq];exact lj hV _ _ hR
 have hpr:∀x∈zs,∀q,0≤pI x q∧pI x q≤4:=fun x hx=>by obtain⟨i,r,p,_,hp,rfl,_⟩:=eR (hz.mem_iff.1 hx);exact xa ((gp hV _).2 p hp)
 obtain⟨d0,d1,d2,d3,d4,d5,d6,d7,d8,d9,dh,hf,rh,oF,hr,Ci,GD,Ix,bS⟩:=id Bo
 obtain⟨kB,Ia,H8,jR,rfl,H9,DT,DR⟩:=Ci
 obtain⟨kD,Ie,Ib,jT,rfl,Ic,DV,DU⟩:=GD
 have Av:=hV.before.1
 have Dg:=hV.after.1
 refine zD 7<|jf [0] Y15 (fun ro4 n6 PO=>?_)
 have TH:=aeR.lR PO
 obtain⟨mJ,BN,BL,lH,rfl,BM,yt,yq⟩:=TH
 refine zD 7<|js 20 (!decide (e15=0)) (fun h5=>?_) (fun h5=>?_)
 ·
  replace h5:=of_decide_eq_false (by simpa using h5)
  have oY:zs=[]∧e15=9:=by rcases he with h| ⟨_,h⟩;exact h;omega
  refine zD 8<|HG qC.a.a (.tuple ⟨[zS,zI e15]⟩) [1] [] (bW.trans n6) ⟨zs,_,_,hz,rfl,.inl ⟨oY.1,rfl,oY.2,rfl⟩⟩
 replace h5:=of_decide_eq_true (by simpa using h5)
 have oY:zs≠[]∧e15=0:=by rcases he with ⟨_,h⟩|h;omega;exact h
 refine zD 9<|jc (vs:=[.slice mJ zs.length lH]) [] (hCt (show bE _ _ _ _ _ from ⟨mJ,BN,BL,lH,rfl,BM,yt,yq⟩) (by omega) hpr) ?_
 rintro _ _ ⟨rfl,rfl⟩
 refine jg 0 []<|jn fun lP=>jd 9 [0]<|jl (b:=f15) (off:=0) (m:=13) (vs:=[d0,d1,d2,d3,d4,d5,.slice kB K.before.length jR,.slice kD K.after.length jT,zI K.gone,zI K.new,zI K.af,d8,d9]) 6 ⟨_,_,_,.inl (n6 _ _ hf),rfl⟩<|zD 4<|pE<|pE<|dW [1,1,1,1,1,0,1,0,0] [] (fun(zz:Nat×Value×Cells×(List Value)×Cells)=>[(1,.func (.func 65) ⟨[]⟩ ⟨[]⟩),(4,zS),(5,zI 0),(6,zP f15),(7,.slice mJ zs.length lH),(9,zz.2.1),(10,zP lP),(29,zI (K.before.length:Int)),(30,zI (zz.1:Int))]) (fun(zz:Nat×Value×Cells×(List Value)×Cells)=>[.l zz.2.2.1,.l zz.2.2.2.2,.b lP (.cells ⟨[zI ((aw zs).c 0 0),zI ((aw zs).c 0 1),zI ((aw zs).c 0 2),zI ((aw zs).c 0 3),zI ((aw zs).c 1 0),zI ((aw zs).c 1 1),zI ((aw zs).c 1 2),zI ((aw zs).c 1 3),zI ((aw zs).c 2 0),zI ((aw zs).c 2 1),zI ((aw zs).c 2 2),zI ((aw zs).c 2 3),zI ((aw zs).c 3 0),zI ((aw zs).c 3 1),zI ((aw zs).c 3 2),zI ((aw zs).c 3 3)]⟩ 123 (0,0)),.b b2 (.cells ⟨[v0,v1,.slice fa 0 fc,v3,v4,v5,v6,v7,zI K.gone,zI K.new,zI K.af,vb]⟩ 40 (0,0)),.l fr]) (fun(zz:Nat×Value×Cells×(List Value)×Cells)=>(zz.1≤K.before.length∧zz.2.2.2.1.length=(nq (aw zs) ((zs.length:Nat):Int) K.after.length zz.1).length)∧aA zz.2.1 1 22 ir zz.2.2.2.1 zz.2.2.1∧∀aI,Knows aI zz.2.2.2.2→dj (fun w l=>bE aI w 1 cv l) zz.2.2.2.1 (nq (aw zs) ((zs.length:Nat):Int) K.after.length zz.1)) (fun(zz:Nat×Value×Cells×(List Value)×Cells)=>K.before.length-zz.1) (⟨0,zS,[],[],[]⟩) ⟨⟨by dsimp only;omega,rfl⟩,aA.nil _ _ _,fun _ _=> .nil⟩ [1,0,2,3,4] ?_
 rintro⟨i,vO,LO,es,Z⟩ hI K1 bK rest
 dsimp only at hI
 have hil:=BY (aw zs) ((zs.length:Nat):Int) (w:=K.after.length) (by omega) i
 refine zD 5<|zJ 31 ((i:Int) <(K.before.length:Int)) (fun h6=>?_) fun h6=>?_
 ·
  refine zD 15<|jl (b:=f15) (off:=0) (m:=13) (vs:=[d0,d1,d2,d3,d4,d5,.slice kB K.before.length jR,.slice kD K.after.length jT,zI K.gone,zI K.new,zI K.af,d8,d9]) 7 ⟨_,_,_,.inl (n6 _ _ hf),rfl⟩<|zD 4<|dW [1,1,1,1,1,0,1,0,0,1,1,0,0,1,1,0,0] [K1] (fun(zz:Nat×Value×Cells×(List Value)×Cells)=>[(1,.func (.func 65) ⟨[]⟩ ⟨[]⟩),(4,zS),(5,zI 0),(6,zP f15),(7,.slice mJ zs.length lH),(9,zz.2.1),(10,zP lP),(11,zI (i:Int)),(29,zI (K.before.length:Int)),(30,zI (i:Int)),(38,zI (K.after.length:Int)),(39,zI (zz.1:Int))]) (fun(zz:Nat×Value×Cells×(List Value)×Cells)=>[.l zz.2.2.1,.l zz.2.2.2.2,.b lP (.cells ⟨[zI ((aw zs).c 0 0),zI ((aw zs).c 0 1),zI ((aw zs).c 0 2),zI ((aw zs).c 0 3),zI ((aw zs).c 1 0),zI ((aw zs).c 1 1),zI ((aw zs).c 1 2),zI ((aw zs).c 1 3),zI ((aw zs).c 2 0),zI ((aw zs).c 2 1),zI ((aw zs).c 2 2),zI ((aw zs).c 2 3),zI ((aw zs).c 3 0),zI ((aw zs).c 3 1),zI ((aw zs).c 3 2),zI ((aw zs).c 3 3)]⟩ 123 (0,0)),.b b2 (.cells ⟨[v0,v1,.slice fa 0 fc,v3,v4,v5,v6,v7,zI K.gone,zI K.new,zI K.af,vb]⟩ 40 (0,0)),.l fr]) (fun(zz:Nat×Value×Cells×(List Value)×Cells)=>(zz.1≤K.after.length∧zz.2.2.2.1.length=((nq (aw zs) ((zs.length:Nat):Int) K.after.length i)++(mN (aw zs) ((zs.length:Nat):Int) i zz.1)).length)∧aA zz.2.1 1 22 ir zz.2.2.2.1 zz.2.2.1∧∀aI,Knows aI zz.2.2.2.2→dj (fun w l=>bE aI w 1 cv l) zz.2.2.2.1 ((nq (aw zs) ((zs.length:Nat):Int) K.after.length i)++(mN (aw zs) ((zs.length:Nat):Int) i zz.1))) (fun(zz:Nat×Value×Cells×(List Value)×Cells)=>K.after.length-zz.1) (⟨0,vO,LO,es,Z⟩) ⟨⟨by dsimp only;omega,by simpa [mN] using hI.1.2⟩,hI.2.1,by simpa [mN] using hI.2.2⟩ [0,1,2,3,4] ?_
  rintro⟨j,vO,LO,es,Z⟩ hJ K2 lg rest
  dsimp only at hJ
  have hjl:=BX (aw zs) ((zs.length:Nat):Int) i j
  have WC:=hJ.1.2
  rw[List.length_append] at WC
  refine zD 5<|zJ 40 ((j:Int) <(K.after.length:Int)) (fun h7=>?_) fun h7=>?_
  ·
   refine zD 10 ?_
   have iM:=Cz zs i j
   refine zD 4<|Gc (b:=lP) (off:=0) (len:=4) (sz:=4) (i:Int) (by omega)<|Gc (b:=lP) (off:=0+(i:Int).toNat*4) (len:=4) (sz:=1) (j:Int) (by omega)<|oQ (b:=lP) (off:=0+(i:Int).toNat*4+(j:Int).toNat*1) (m:=1) (vs:=[zI ((aw zs).c i j)]) 0 [2] [(lP,.cells ⟨[zI ((aw zs).c 0 0),zI ((aw zs).c 0 1),zI ((aw zs).c 0 2),zI ((aw zs).c 0 3),zI ((aw zs).c 1 0),zI ((aw zs).c 1 1),zI ((aw zs).c 1 2),zI ((aw zs).c 1 3),zI ((aw zs).c 2 0),zI ((aw zs).c 2 1),zI ((aw zs).c 2 2),zI ((aw zs).c 2 3),zI ((aw zs).c 3 0),zI ((aw zs).c 3 1),zI ((aw zs).c 3 2),zI ((aw zs).c 3 3)]⟩ 123 (0,0))] (fun s _ hZ=>oy (hZ _ (.head _)) (Ag (m:=aw zs) (by omega) (by omega)))<|zD 2<|jp (vs:=[zI ((aw zs).c i j),zI (zs.length:Int)]) [] [] (fun aB hs hZ=>arK)<|zD 1<|js 50 (decide (((aw zs).c i j)=(zs.length:Int))) (fun h8=>?_) (fun h8=>?_)
   ·
    refine zD 5<|jn fun QS=>jn fun b55=>kL (sz:=1) (ps:=es) (qs:=[(.slice (some ⟨QS,0,none⟩) 2 2:Value)]) (enc:=ir) (w:= .slice (some ⟨b55,0,none⟩) 1 1) [2] [0] [(b55,.cells ⟨([(.slice (some ⟨QS,0,none⟩) 2 2:Value)].map ir).flatten⟩ 22 (0,0))] (hJ.2.1) (fun s _ hZ=>cb [(.slice (some ⟨QS,0,none⟩) 2 2:Value)] (hZ _ (.head _)) (by intro p hp;rfl)) (by intro p hp;rw[List.mem_singleton] at hp;subst hp;exact ar rfl) (by simp only[List.length_cons,List.length_nil];omega) (fun v56 L56 qm=>?_)
    obtain⟨NG,NC,Tw⟩:=qm.form
    subst Tw
    refine zD 3<|ja ((j:Int)+1) (by omega)<|zD 2<|Nl lg (⟨j+1,(.slice NG ((es++[(.slice (some ⟨QS,0,none⟩) 2 2:Value)])).length NC),L56,(es++[(.slice (some ⟨QS,0,none⟩) 2 2:Value)]),Z++[(QS,.cells ⟨[zI (i:Int),zI (j:Int)]⟩ 3 (0,0))]⟩) ⟨⟨by dsimp only;omega,by dsimp only;rw[VM (of_decide_eq_true (by assumption)),←List.append_assoc];simp only[List.length_append,List.length_cons,List.length_nil] at*;omega⟩,qm,fun aI hk=>by dsimp only;rw[VM (of_decide_eq_true (by assumption)),←List.append_assoc];exact(hJ.2.2 aI hk.left).snoc (bQ (enc:=cv) (T:=3) [(i:Int),(j:Int)] (hk.right _ (.head _)) (fun _ _=>rfl))⟩ (by dsimp only;omega) [[0],[3,2],[4],[5],[6]] (Sub.refl _)
   refine zD 3<|ja ((j:Int)+1) (by omega)<|zD 2<|bO lg (⟨j+1,vO,LO,es,Z⟩) ⟨⟨by dsimp only;omega,by dsimp only;rw[VN (of_decide_eq_false (by assumption))];exact hJ.1.2⟩,hJ.2.1,by dsimp only;rw[VN (of_decide_eq_false (by assumption))];exact hJ.2.2⟩ (by dsimp only;omega) [0,1,2,3,4] (Sub.refl _)
  refine zD 3<|ja ((i:Int)+1) (by omega)<|zD 2<|bO bK (⟨i+1,vO,LO,es,Z⟩) ⟨⟨by dsimp only;omega,by have:=hJ.1.2;rw[show j=K.after.length by omega] at this;exact this⟩,hJ.2.1,by have:=hJ.2.2;rw[show j=K.after.length by omega] at this;exact this⟩ (by dsimp only;omega) [0,1,2,3,4] (Sub.refl _)
 refine zD 9<|aAe qC.a.a (.tuple ⟨[vO,zI 0]⟩) [0,1,4] LO Z (bW.trans n6) ⟨zs,_,_,hz,rfl,.inr ⟨oY.1,rfl,fun aI hk=>⟨es,hI.2.1.lR hk.left,by have:=hI.2.2 aI hk.right;rwa[show i=K.before.length by omega] at this⟩⟩⟩
structure wQ where
 f:Bool
 a:Int
 b:Int
 w:Int
def ZZ(m:fu)(n:Int)(i j:Nat):Int:=max (m.c i j) (n-m.c i j)
def A1(m:fu)(n:Int)(i:Nat)(s:wQ):Nat→wQ
 |0=>s
 |j+1=>if ZZ m n i j <(A1 m n i s j).w then ⟨true,i,j,ZZ m n i j⟩ else A1 m n i s j
def Z0(m:fu)(n:Int)(w:Nat):Nat→wQ
 |0=>⟨false,0,0,n⟩
 |i+1=>A1 m n i (Z0 m n w i) w
def Uw(s:wQ):Int×Int×Int×Int:=bif s.f then (s.a,s.b,s.w,0) else (0,0,0,11)
theorem avg{m:fu}{s:wQ}{f:Bool}{a b w:Int}(h:(⟨f,a,b,w⟩:wQ)=A1 m n i s j)(h2:ZZ m n i j <w):(⟨true,i,j,ZZ m n i j⟩:wQ)=A1 m n i s (j+1):=by rw[A1,←h,if_pos h2]
theorem ahG{m:fu}{s:wQ}{f:Bool}{a b w:Int}(h:(⟨f,a,b,w⟩:wQ)=A1 m n i s j)(h2:¬ZZ m n i j <w):(⟨f,a,b,w⟩:wQ)=A1 m n i s (j+1):=by rw[A1,←h,if_neg h2]
theorem adH{rows:List bH}{ro:Nat→Option Obj}(hK:gk ro l K)(hV:fy K)(hR:rows.length≤2)(hB:gZ ro l K rows)(hCt:qK):Bs zT 22 [.agg ⟨l⟩] ro [] (fun r Y=>∃zs v e,zs.Perm (dc K (bF K) (cP K.gone K.new K.af) rows)∧r= .tuple ⟨[v,zI e]⟩∧((zs=[]∧v= zS∧e=9∧Y=[])∨(zs≠[]∧e=0∧∀aI,Knows aI Y→LL aI v (nq (aw zs) ((zs.length:Nat):Int) K.after.length K.before.length)))):=by
 obtain⟨v0,v1,v3,v4,v5,v6,v7,vb,fa,fc,hv,rfl,_⟩:=id hK
 refine yG au [] [] a8 fun fr=>zD 2<|jn fun b1=>jd 6 [0]<|Gd (vs:=[.agg ⟨[v0,v1,.slice fa 0 fc,v3,v4,v5,v6,v7,zI K.gone,zI K.new,zI K.af,vb]⟩,.func (.func 65) ⟨[]⟩ ⟨[]⟩]) [] (fun _ _ h=>h) (akO hK hV hR hB hCt) ?_
 rintro _ Y5 ⟨zs,v5,e5,hz,rfl,hcs⟩
 refine zD 6<|HG qC (.tuple ⟨[v5,zI e5]⟩) [0,2] Y5 (Sub.refl _) ⟨zs,v5,e5,hz,rfl,hcs⟩
theorem aOm{rows:List bH}{ro:Nat→Option Obj}(hK:gk ro l K)(hV:fy K)(hR:rows.length≤2)(hB:gZ ro l K rows)(hCt:qK):Bs zT 40 [.agg ⟨l⟩] ro [] (fun r Y=>∃zs a b w e,zs.Perm (dc K (bF K) (cP K.gone K.new K.af) rows)∧Y=[]∧r= .tuple ⟨[zI a,zI b,zI w,zI e]⟩∧((zs=[]∧a=0∧b=0∧w=0∧e=9)∨(zs≠[]∧(a,b,w,e)=Uw (Z0 (aw zs) ((zs.length:Nat):Int) K.after.length K.before.length)))):=by
 obtain⟨v0,v1,v3,v4,v5,v6,v7,vb,fa,fc,hv,rfl,_⟩:=id hK
 refine yG au [] [] a8 fun fr=>zD 2<|jn fun b1=>jd 8 [0]<|ak1 (vs:=[.agg ⟨[v0,v1,.slice fa 0 fc,v3,v4,v5,v6,v7,zI K.gone,zI K.new,zI K.af,vb]⟩]) [] (fun _ _ h=>h) (V9 hK hV hR hB) ?_
 rintro _ aB Y14 bW ⟨f14,zs,v14,MI,rfl,Bo,hz,Tm,he⟩
 have Ir:∀x∈zs,(-4≤x.gone∧x.gone≤4)∧(-4≤x.new∧x.new≤4)∧(0≤x.af∧x.af≤4):=fun x hx=>by obtain⟨i,r,p,_,_,rfl,_⟩:=eR (hz.mem_iff.1 hx);exact kI hV r i p
 have S1:zs.length≤1250:=by rw[hz.length_eq];exact lj hV _ _ hR
 have hpr:∀x∈zs,∀q,0≤pI x q∧pI x q≤4:=fun x hx=>by obtain⟨i,r,p,_,hp,rfl,_⟩:=eR (hz.mem_iff.1 hx);exact xa ((gp hV _).2 p hp)
 obtain⟨d0,d1,d2,d3,d4,d5,d6,d7,d8,d9,dh,hf,rh,oF,hr,Ci,GD,Ix,bS⟩:=id Bo
 obtain⟨kB,Ia,H8,jR,rfl,H9,DT,DR⟩:=Ci
 obtain⟨kD,Ie,Ib,jT,rfl,Ic,DV,DU⟩:=GD
 have Av:=hV.before.1
 have Dg:=hV.after.1
 refine zD 7<|jf [0] Y14 (fun ro4 n6 PO=>?_)
 have TH:=Tm.lR PO
 obtain⟨mJ,BN,BL,lH,rfl,BM,yt,yq⟩:=TH
 refine zD 7<|js 20 (!decide (MI=0)) (fun h5=>?_) (fun h5=>?_)
 ·
  replace h5:=of_decide_eq_false (by simpa using h5)
  have oY:zs=[]∧MI=9:=by rcases he with h| ⟨_,h⟩;exact h;omega
  refine zD 10<|HG qC.a.a (.tuple ⟨[zI 0,zI 0,zI 0,zI MI]⟩) [1] [] (bW.trans n6) ⟨zs,_,_,_,_,hz,rfl,rfl,.inl ⟨oY.1,rfl,rfl,rfl,oY.2⟩⟩
 replace h5:=of_decide_eq_true (by simpa using h5)
 have oY:zs≠[]∧MI=0:=by rcases he with ⟨_,h⟩|h;omega;exact h
 refine zD 5<|jc (vs:=[.slice mJ zs.length lH]) [] (hCt (show bE _ _ _ _ _ from ⟨mJ,BN,BL,lH,rfl,BM,yt,yq⟩) (by omega) hpr) ?_
 rintro _ _ ⟨rfl,rfl⟩
 refine jg 0 []<|jn fun b8=>jd 16 [0]<|jl (b:=f14) (off:=0) (m:=13) (vs:=[d0,d1,d2,d3,d4,d5,.slice kB K.before.length jR,.slice kD K.after.length jT,zI K.gone,zI K.new,zI K.af,d8,d9]) 6 ⟨_,_,_,.inl (n6 _ _ hf),rfl⟩<|zD 4<|dW [1,1,1,1,1,0,1,0,0] [] (fun(zz:Nat×Bool×Int×Int×Int)=>[(2,zI zz.2.2.1),(3,zI zz.2.2.2.1),(4,zI zz.2.2.2.2),(5,zI MI),(6,zP f14),(7,.slice mJ zs.length lH),(8,zP b8),(9,.bool zz.2.1),(31,zI (K.before.length:Int)),(32,zI (zz.1:Int))]) (fun(zz:Nat×Bool×Int×Int×Int)=>[.b b8 (.cells ⟨[zI ((aw zs).c 0 0),zI ((aw zs).c 0 1),zI ((aw zs).c 0 2),zI ((aw zs).c 0 3),zI ((aw zs).c 1 0),zI ((aw zs).c 1 1),zI ((aw zs).c 1 2),zI ((aw zs).c 1 3),zI ((aw zs).c 2 0),zI ((aw zs).c 2 1),zI ((aw zs).c 2 2),zI ((aw zs).c 2 3),zI ((aw zs).c 3 0),zI ((aw zs).c 3 1),zI ((aw zs).c 3 2),zI ((aw zs).c 3 3)]⟩ 123 (0,0)),.b b1 (.cells ⟨[v0,v1,.slice fa 0 fc,v3,v4,v5,v6,v7,zI K.gone,zI K.new,zI K.af,vb]⟩ 40 (0,0)),.l fr]) (fun(zz:Nat×Bool×Int×Int×Int)=>zz.1≤K.before.length∧(⟨zz.2.1,zz.2.2.1,zz.2.2.2.1,zz.2.2.2.2⟩:wQ)=(Z0 (aw zs) ((zs.length:Nat):Int) K.after.length zz.1)) (fun(zz:Nat×Bool×Int×Int×Int)=>K.before.length-zz.1) (⟨0,false,0,0,((zs.length:Nat):Int)⟩) ⟨by dsimp only;omega,rfl⟩ [0,1,2] ?_
 rintro⟨i,qf,qa,qb,qw⟩ hI K1 bK rest
 dsimp only at hI
 refine zD 5<|zJ 33 ((i:Int) <(K.before.length:Int)) (fun h6=>?_) fun h6=>?_
 ·
  refine zD 15<|jl (b:=f14) (off:=0) (m:=13) (vs:=[d0,d1,d2,d3,d4,d5,.slice kB K.before.length jR,.slice kD K.after.length jT,zI K.gone,zI K.new,zI K.af,d8,d9]) 7 ⟨_,_,_,.inl (n6 _ _ hf),rfl⟩<|zD 4<|dW [1,1,1,1,1,0,1,0,0,1,1,0,0,1,1,0,0] [K1] (fun(zz:Nat×Bool×Int×Int×Int)=>[(2,zI zz.2.2.1),(3,zI zz.2.2.2.1),(4,zI zz.2.2.2.2),(5,zI MI),(6,zP f14),(7,.slice mJ zs.length lH),(8,zP b8),(9,.bool zz.2.1),(10,zI (i:Int)),(31,zI (K.before.length:Int)),(32,zI (i:Int)),(40,zI (K.after.length:Int)),(41,zI (zz.1:Int))]) (fun(zz:Nat×Bool×Int×Int×Int)=>[.b b8 (.cells ⟨[zI ((aw zs).c 0 0),zI ((aw zs).c 0 1),zI ((aw zs).c 0 2),zI ((aw zs).c 0 3),zI ((aw zs).c 1 0),zI ((aw zs).c 1 1),zI ((aw zs).c 1 2),zI ((aw zs).c 1 3),zI ((aw zs).c 2 0),zI ((aw zs).c 2 1),zI ((aw zs).c 2 2),zI ((aw zs).c 2 3),zI ((aw zs).c 3 0),zI ((aw zs).c 3 1),zI ((aw zs).c 3 2),zI ((aw zs).c 3 3)]⟩ 123 (0,0)),.b b1 (.cells ⟨[v0,v1,.slice fa 0 fc,v3,v4,v5,v6,v7,zI K.gone,zI K.new,zI K.af,vb]⟩ 40 (0,0)),.l fr]) (fun(zz:Nat×Bool×Int×Int×Int)=>zz.1≤K.after.length∧(⟨zz.2.1,zz.2.2.1,zz.2.2.2.1,zz.2.2.2.2⟩:wQ)=(A1 (aw zs) ((zs.length:Nat):Int) i (Z0 (aw zs) ((zs.length:Nat):Int) K.after.length i) zz.1)) (fun(zz:Nat×Bool×Int×Int×Int)=>K.after.length-zz.1) (⟨0,qf,qa,qb,qw⟩) ⟨by dsimp only;omega,hI.2⟩ [0,1,2] ?_
  rintro⟨j,qf,qa,qb,qw⟩ hJ K2 lg rest
  dsimp only at hJ
  refine zD 5<|zJ 42 ((j:Int) <(K.after.length:Int)) (fun h7=>?_) fun h7=>?_
  ·
   refine zD 10 ?_
   have iM:=Cz zs i j
   refine zD 3<|Gc (b:=b8) (off:=0) (len:=4) (sz:=4) (i:Int) (by omega)<|Gc (b:=b8) (off:=0+(i:Int).toNat*4) (len:=4) (sz:=1) (j:Int) (by omega)<|oQ (b:=b8) (off:=0+(i:Int).toNat*4+(j:Int).toNat*1) (m:=1) (vs:=[zI ((aw zs).c i j)]) 0 [0] [(b8,.cells ⟨[zI ((aw zs).c 0 0),zI ((aw zs).c 0 1),zI ((aw zs).c 0 2),zI ((aw zs).c 0 3),zI ((aw zs).c 1 0),zI ((aw zs).c 1 1),zI ((aw zs).c 1 2),zI ((aw zs).c 1 3),zI ((aw zs).c 2 0),zI ((aw zs).c 2 1),zI ((aw zs).c 2 2),zI ((aw zs).c 2 3),zI ((aw zs).c 3 0),zI ((aw zs).c 3 1),zI ((aw zs).c 3 2),zI ((aw zs).c 3 3)]⟩ 123 (0,0))] (fun s _ hZ=>oy (hZ _ (.head _)) (Ag (m:=aw zs) (by omega) (by omega)))<|zD 4<|Gc (b:=b8) (off:=0) (len:=4) (sz:=4) (i:Int) (by omega)<|Gc (b:=b8) (off:=0+(i:Int).toNat*4) (len:=4) (sz:=1) (j:Int) (by omega)<|oQ (b:=b8) (off:=0+(i:Int).toNat*4+(j:Int).toNat*1) (m:=1) (vs:=[zI ((aw zs).c i j)]) 0 [0] [(b8,.cells ⟨[zI ((aw zs).c 0 0),zI ((aw zs).c 0 1),zI ((aw zs).c 0 2),zI ((aw zs).c 0 3),zI ((aw zs).c 1 0),zI ((aw zs).c 1 1),zI ((aw zs).c 1 2),zI ((aw zs).c 1 3),zI ((aw zs).c 2 0),zI ((aw zs).c 2 1),zI ((aw zs).c 2 2),zI ((aw zs).c 2 3),zI ((aw zs).c 3 0),zI ((aw zs).c 3 1),zI ((aw zs).c 3 2),zI ((aw zs).c 3 3)]⟩ 123 (0,0))] (fun s _ hZ=>oy (hZ _ (.head _)) (Ag (m:=aw zs) (by omega) (by omega)))<|ja ((zs.length:Int)-((aw zs).c i j)) (by omega)<|jmx (k:= .i64) (a:=((aw zs).c i j)) (b:=((zs.length:Int)-((aw zs).c i j)))<|zD 8<|zJ 60 ((max ((aw zs).c i j) ((zs.length:Int)-((aw zs).c i j))) <qw) (fun h8=>?_) fun h8=>?_
   ·
    refine zD 11<|ja ((j:Int)+1) (by omega)<|zD 2<|bO lg (⟨j+1,true,(i:Int),(j:Int),(max ((aw zs).c i j) ((zs.length:Int)-((aw zs).c i j)))⟩) ⟨by dsimp only;omega,avg hJ.2 (by assumption)⟩ (by dsimp only;omega) [0,1,2] (Sub.refl _)
   refine zD 3<|ja ((j:Int)+1) (by omega)<|zD 2<|bO lg (⟨j+1,qf,qa,qb,qw⟩) ⟨by dsimp only;omega,ahG hJ.2 (by assumption)⟩ (by dsimp only;omega) [0,1,2] (Sub.refl _)
  refine zD 3<|ja ((i:Int)+1) (by omega)<|zD 2<|bO bK (⟨i+1,qf,qa,qb,qw⟩) ⟨by dsimp only;omega,by have:=hJ.2;rw[show j=K.after.length by omega] at this;exact this⟩ (by dsimp only;omega) [0,1,2] (Sub.refl _)
 refine zD 8<|js 67 (!qf) (fun h9=>?_) (fun h9=>?_)
 ·
  try simp only[zB] at h9
  refine zD 9<|HG qC.a.a (.tuple ⟨[zI 0,zI 0,zI 0,zI 11]⟩) [2] [] (bW.trans n6) ⟨zs,_,_,_,_,hz,rfl,rfl,.inr ⟨oY.1,by have:=hI.2;rw[show i=K.before.length by omega] at this;rw[←this];simp only[Uw];cases qf<;>first|rfl|contradiction|simp_all⟩⟩
 try simp only[zB] at h9
 refine zD 13<|HG qC.a.a (.tuple ⟨[zI qa,zI qb,zI qw,zI 0]⟩) [2] [] (bW.trans n6) ⟨zs,_,_,_,_,hz,rfl,rfl,.inr ⟨oY.1,by have:=hI.2;rw[show i=K.before.length by omega] at this;rw[←this];simp only[Uw];cases qf<;>first|rfl|contradiction|simp_all⟩⟩
def H2:Value→Int
 | .int _ n=>n
 |_=>0
def RV(f:P4→Int)(F:List (P4×Value)):Int:=(F.map fun x=>f x.1*H2 x.2).sum
def pk(x:ai):P4:=(x.w0,x.w1,x.w2,x.w3)
def abx(f:P4→Int)(zs:List ai):Int:=(zs.map fun x=>f (pk x)).sum
structure CF(F:List (P4×Value))(zs:List ai):Prop where
 sum:∀f,RV f F=abx f zs
 val:∀x∈F,∃n,x.2= zI n∧0≤n∧n≤zs.length
 key:∀x∈F,∃z∈zs,x.1=pk z
theorem CF.nil:CF [] []:=⟨fun _=>rfl,by simp,by simp⟩
theorem Fc{κ:Type}(g:κ×Value→Int):∀ {F:List (κ×Value)} {i:Nat} {k:κ} {u v:Value},F[i]?=some (k,u)→((tC k v F i).map g).sum=(F.map g).sum-g (k,u)+g (k,v)
 | [],_,_,_,_,h=>by simp at h
 |x::F,0,k,u,v,h=>by simp at h;subst h;simp only[tC,List.map_cons,List.sum_cons];omega
 |x::F,i+1,k,u,v,h=>by
  simp at h
  have:=Fc g (v:=v) h
  simp only[tC,List.map_cons,List.sum_cons];omega
theorem vK{κ:Type}:∀ {F:List (κ×Value)} {i:Nat} {k:κ} {v:Value} {x:κ×Value},x∈tC k v F i→x=(k,v)∨x∈F
 | [],_,_,_,_,h=>by cases h
 |y::F,0,k,v,x,h=>by
  rcases List.mem_cons.1 h with h|h
  ·exact .inl h
  exact .inr (List.mem_cons_of_mem _ h)
 |y::F,i+1,k,v,x,h=>by
  rcases List.mem_cons.1 h with h|h
  ·exact .inr (by rw[h];exact List.mem_cons_self)
  exact(vK h).imp id (List.mem_cons_of_mem _)
theorem CF.look{F:List (P4×Value)}{zs:List ai}(h:CF F zs)(k:P4):∃n,Pb (zI 0) false k F= zI n∧0≤n∧n≤zs.length:=by
 simp only[Pb,lkM]
 cases hf:sa k F 0 with
 |none=>exact⟨0,rfl,by omega,by omega⟩
 |some u=>
  obtain⟨j,u⟩:=u
  have:=(qz hf).2
  exact h.val _ (List.mem_of_getElem? this)
theorem CF.upd{F F1:List (P4×Value)}{zs:List ai}{x:ai}(h:CF F zs)(h1:((∃u,sa (pk x) F 0=some u)∧F1=F)∨(sa (pk x) F 0=none∧F1=F++[(pk x,zI 0)]))(hl:Pb (zI 0) false (pk x) F= zI n)(hn:0≤n∧n≤zs.length):CF (mg (pk x) (zI (n+1)) F1) (zs++[x]):=by
 have hz (f:P4→Int):abx f (zs++[x])=abx f zs+f (pk x):=by simp[abx]
 rcases h1 with ⟨⟨⟨j,u⟩,hf⟩,rfl⟩| ⟨hf,rfl⟩
 ·have hu:=qz hf
  simp only[Nat.sub_zero] at hu
  have qO:u= zI n:=by simpa [Pb,lkM,hf] using hl
  subst qO
  simp only[mg,hf]
  refine⟨fun f=>?_,fun y hy=>?_,fun y hy=>?_⟩
  ·rw[hz,←h.sum,RV,Fc _ hu.2,RV]
   simp only[H2,Int.mul_add,Int.mul_one];omega
  ·rcases vK hy with rfl|hy
   ·exact⟨n+1,rfl,by omega,by simp;omega⟩
   obtain⟨m,h1,h2⟩:=h.val _ hy
   exact⟨m,h1,by omega,by simp;omega⟩
  rcases vK hy with rfl|hy
  ·exact⟨x,by simp,rfl⟩
  obtain⟨z,h1,h2⟩:=h.key _ hy
  exact⟨z,by simp[h1],h2⟩
 have qO:n=0:=by
  have:(Value.int .i64 0)= zI n:=by simpa [Pb,lkM,hf] using hl
  cases this;rfl
 subst qO
 have hs:mg (pk x) (zI (0+1)) (F++[(pk x,zI 0)])=tC (pk x) (zI (0+1)) (F++[(pk x,zI 0)]) (0+F.length):=by
  simp only[mg,AG (v:= zI 0) hf]
 have hg:(F++[(pk x,Value.int .i64 0)])[0+F.length]?=some (pk x,zI 0):=by simp
 rw[hs]
 refine⟨fun f=>?_,fun y hy=>?_,fun y hy=>?_⟩
 ·rw[hz,←h.sum,RV,Fc _ hg,RV]
  simp[H2]
 ·rcases vK hy with rfl|hy
  ·exact⟨0+1,rfl,by omega,by simp;omega⟩
  rcases List.mem_append.1 hy with hy|hy
  ·obtain⟨m,h1,h2⟩:=h.val _ hy
   exact⟨m,h1,by omega,by simp;omega⟩
  rw[List.mem_singleton] at hy;subst hy
  exact⟨0,rfl,by omega,by omega⟩
 rcases vK hy with rfl|hy
 ·exact⟨x,by simp,rfl⟩
 rcases List.mem_append.1 hy with hy|hy
 ·obtain⟨z,h1,h2⟩:=h.key _ hy
  exact⟨z,by simp[h1],h2⟩
 rw[List.mem_singleton] at hy;subst hy
 exact⟨x,by simp,rfl⟩
def fV(i j:Nat):Value→Int
 | .agg ⟨l⟩=>(match l[i]? with
  |some (.int _ n)=>if n=(j:Int)+1 then 1 else 0
  |_=>0)
 |_=>0
def sA(i j:Nat)(l:List MapEntry):Int:=(l.map fun e=>fV i j e.key*H2 e.val).sum
theorem aby{F:List (P4×Value)}{es:Array MapEntry}(h:tb HF F es ck)(i j:Nat):sA i j es.toList=RV (fun k=>fV i j (HF k)) F:=by
 have h1:=congrArg (List.map fun p:Value×Value=>fV i j p.1*H2 p.2) h.1
 simp only[List.map_map] at h1
 unfold sA RV
 exact congrArg List.sum h1
theorem NZ(i j:Nat):∀ {l:List MapEntry} {e:MapEntry},(l.map (·.born)).Nodup→e∈l→sA i j l=fV i j e.key*H2 e.val+sA i j (l.filter fun x=> !decide (x.born=e.born))
 | [],_,_,h=>by cases h
 |x::l,e,hn,h=>by
  simp only[List.map_cons,List.nodup_cons] at hn
  rcases List.mem_cons.1 h with rfl|h
  ·have:l.filter (fun y=> !decide (y.born=e.born))=l:=by
    refine List.filter_eq_self.2 fun y hy=>?_
    have:y.born≠e.born:=fun h=>hn.1 (h▸List.mem_map_of_mem hy)
    simp[this]
   rw[List.filter_cons_of_neg (by simp),this];rfl
  have dR:x.born≠e.born:=fun k=>hn.1 (k▸List.mem_map_of_mem h)
  rw[List.filter_cons_of_pos (by simp[dR])]
  have:=NZ i j hn.2 h
  simp only[sA,List.map_cons,List.sum_cons] at this ⊢
  omega
theorem SQ(es:Array MapEntry)(seen:List Nat)(b:Nat):cF es (seen++[b])=(cF es seen).filter fun x=> !decide (x.born=b):=by
 simp only[cF,List.filter_filter]
 refine List.filter_congr fun x _=>?_
 simp only[List.contains_eq_mem,List.mem_append,List.mem_singleton,Bool.decide_or,Bool.not_or]
 rw[Bool.and_comm]
theorem I1{F:List (P4×Value)}{es:Array MapEntry}(h:tb HF F es ck){e:MapEntry}(he:e∈cF es seen)(i j:Nat):sA i j (cF es seen)=fV i j e.key*H2 e.val+sA i j (cF es (seen++[e.born])):=by
 rw[SQ]
 exact NZ i j ((List.filter_sublist.map _).nodup h.2.1) he
theorem aoN(i j:Nat)(v:Value):fV i j v=0∨fV i j v=1:=by
 unfold fV
 split<;>try exact .inl rfl
 split<;>try exact .inl rfl
 split<;>simp
theorem NY{i j:Nat}:∀ {l:List MapEntry},(∀e∈l,0≤H2 e.val)→0≤sA i j l
 | [],_=>Int.le_refl _
 |x::l,h=>by
  have h1:=NY (i:=i) (j:=j) (l:=l) fun e he=>h e (List.mem_cons_of_mem _ he)
  have h2:=h x List.mem_cons_self
  simp only[sA,List.map_cons,List.sum_cons] at h1 ⊢
  rcases aoN i j x.key with h3|h3<;>rw[h3]<;>omega
theorem ajh{F:List (P4×Value)}{zs:List ai}(h:CF F zs){es:Array MapEntry}(hE:tb HF F es ck):∀e∈cF es seen,0≤H2 e.val:=fun e he=>by
 have h1:e∈es.toList:=(List.mem_filter.1 he).1
 have h2:(e.key,e.val)∈es.toList.map (fun e=>(e.key,e.val)):=List.mem_map_of_mem (f:=fun e:MapEntry=>(e.key,e.val)) h1
 rw[hE.1] at h2
 obtain⟨y,h3,h4⟩:=List.mem_map.1 h2
 obtain⟨n,h5,h6,_⟩:=h.val _ h3
 simp only[Prod.mk.injEq] at h4
 rw[←h4.2,h5];exact h6
theorem W5(x:ai)(j:Nat)(hi:i <4):fV i j (HF (pk x))=if pI x i=(j:Int)+1 then 1 else 0:=by
 rcases Ai hi with rfl|rfl|rfl|rfl<;>rfl
theorem Vb(p:α→Prop)[DecidablePred p]:∀l:List α,(l.map fun x=>if p x then (1:Int) else 0).sum=((l.filter fun x=>decide (p x)).length:Int)
 | []=>rfl
 |x::l=>by
  rw[List.map_cons,List.sum_cons,Vb p l]
  by_cases h:p x
  ·rw[if_pos h,List.filter_cons_of_pos (by simpa using h),List.length_cons];omega
  rw[if_neg h,List.filter_cons_of_neg (by simpa using h)];omega
theorem CF.total{F:List (P4×Value)}{zs:List ai}(h:CF F zs){es:Array MapEntry}(hE:tb HF F es ck)(j:Nat)(hi:i <4):sA i j (cF es [])=(aw zs).c i j:=by
 rw[B7,aby hE,h.sum,abx]
 simp only[W5 _ j hi]
 exact Vb (fun x=>pI x i=(j:Int)+1) zs
theorem aaK{z:ai}(h:(z.w0==0&&(z.w1==0&&(z.w2==0&&(z.w3==0&&true))))=true)(i:Nat):pI z i=0:=by
 simp only[Bool.and_eq_true,beq_iff_eq] at h
 match i with
 |0=>exact h.1
 |1=>exact h.2.1
 |2=>exact h.2.2.1
 |_+3=>exact h.2.2.2.1
def Ew(m:fu)(S T:Nat→Nat→Int):Prop:=∀i j,i <4→j <4→0≤m.c i j∧m.c i j+S i j=T i j
theorem Ew.init{F:List (P4×Value)}{zs:List ai}(h:CF F zs){es:Array MapEntry}(hE:tb HF F es ck):Ew ⟨fun _ _=>0⟩ (fun i j=>sA i j (cF es [])) (aw zs).c:=fun i j hi _=>⟨Int.le_refl _,by show 0+sA i j (cF es [])=_;rw[h.total hE j hi];exact Int.zero_add _⟩
def YR(z:ai)(n:Int)(q:Nat)(R:Nat→Nat→Int):Nat→Nat→Int:=fun i j=>(if i <q then 0 else fV i j (HF (pk z))*n)+R i j
theorem Ew.zero{m:fu}{z:ai}{n:Int}{es:Array MapEntry}{ck:Nat}{F:List (P4×Value)}{T:Nat→Nat→Int}{seen:List Nat}{e:MapEntry}(hE:tb HF F es ck)(he:e∈cF es seen)(hk:e.key=HF (pk z))(hz:∀i,pI z i=0)(h:Ew m (fun i j=>sA i j (cF es seen)) T):Ew m (fun i j=>sA i j (cF es (seen++[e.born]))) T:=fun i j hi hj=>by
 have h1:=h i j hi hj
 have h2:=I1 hE he i j
 rw[hk,W5 z j hi,if_neg (by rw[hz];omega),Int.zero_mul,Int.zero_add] at h2
 dsimp only at h1 ⊢
 rw[h2] at h1;exact h1
theorem Ew.open_{m:fu}{z:ai}{es:Array MapEntry}{F:List (P4×Value)}{e:MapEntry}(hE:tb HF F es ck)(he:e∈cF es seen)(hk:e.key=HF (pk z))(hv:e.val= zI n)(h:Ew m (fun i j=>sA i j (cF es seen)) T):Ew m (YR z n 0 fun i j=>sA i j (cF es (seen++[e.born]))) T:=fun i j hi hj=>by
 have h1:=h i j hi hj
 have h2:=I1 hE he i j
 rw[hk,hv] at h2
 simp only[H2] at h2
 simp only[YR,if_neg (Nat.not_lt_zero i)]
 dsimp only at h1
 rw[h2] at h1;exact h1
theorem Ew.close{m:fu}{z:ai}(h:Ew m (YR z n 4 R) T):Ew m R T:=fun i j hi hj=>by
 have h1:=h i j hi hj
 simp only[YR,if_pos hi,Int.zero_add] at h1
 exact h1
theorem Ew.skip{m:fu}{z:ai}(h:Ew m (YR z n q R) T)(hq:¬pI z q>0):Ew m (YR z n (q+1) R) T:=fun i j hi hj=>by
 have h1:=h i j hi hj
 simp only[YR] at h1 ⊢
 by_cases e:i=q
 ·subst e
  rw[if_neg (Nat.lt_irrefl _),W5 z j hi,if_neg (by omega),Int.zero_mul] at h1
  rw[if_pos (Nat.lt_succ_self _)];exact h1
 by_cases e2:i <q
 ·rw[if_pos e2] at h1;rw[if_pos (by omega)];exact h1
 rw[if_neg e2] at h1;rw[if_neg (by omega)];exact h1
theorem Ew.add{m:fu}{z:ai}(h:Ew m (YR z n q R) T)(hn:0≤n)(hq:pI z q>0)(hq4:q <4):Ew (rG m q (pI z q-1).toNat (m.c q (pI z q-1).toNat+n)) (YR z n (q+1) R) T:=fun i j hi hj=>by
 have h1:=h i j hi hj
 simp only[YR,rG] at h1 ⊢
 by_cases e:i=q
 ·subst e
  rw[if_neg (Nat.lt_irrefl _),W5 z j hi] at h1
  rw[if_pos (Nat.lt_succ_self _)]
  by_cases e2:j=(pI z i-1).toNat
  ·rw[if_pos (by omega)] at h1
   rw[if_pos ⟨rfl,e2⟩,←e2];omega
  rw[if_neg (by omega)] at h1
  rw[if_neg (by omega)];omega
 rw[if_neg (c:=i=q∧j=(pI z q-1).toNat) (by omega)]
 by_cases e2:i <q
 ·rw[if_pos e2] at h1;rw[if_pos (by omega)];exact h1
 rw[if_neg e2] at h1;rw[if_neg (by omega)];exact h1
theorem Ew.bound{m:fu}{z:ai}(h:Ew m (YR z n q R) T)(hR:∀i j,0≤R i j)(hn:0≤n)(hi:i <4)(hj:j <4):0≤m.c i j∧m.c i j≤T i j:=by
 have h1:=h i j hi hj
 have h2:=hR i j
 simp only[YR] at h1
 split at h1
 ·omega
 rcases aoN i j (HF (pk z)) with h3|h3<;>rw[h3] at h1<;>omega
theorem Ew.fin{m:fu}{zs:List ai}{es:Array MapEntry}(h:Ew m (fun i j=>sA i j (cF es seen)) (aw zs).c)(he:cF es seen=[]):yX m=yX (aw zs):=by
 have k (i j:Nat) (hi:i <4) (hj:j <4):m.c i j=(aw zs).c i j:=by
  have:=(h i j hi hj).2
  rw[he] at this
  simpa [sA] using this
 simp only[yX,k 0 0 (by decide) (by decide),k 0 1 (by decide) (by decide),k 0 2 (by decide) (by decide),k 0 3 (by decide) (by decide),k 1 0 (by decide) (by decide),k 1 1 (by decide) (by decide),k 1 2 (by decide) (by decide),k 1 3 (by decide) (by decide),k 2 0 (by decide) (by decide),k 2 1 (by decide) (by decide),k 2 2 (by decide) (by decide),k 2 3 (by decide) (by decide),k 3 0 (by decide) (by decide),k 3 1 (by decide) (by decide),k 3 2 (by decide) (by decide),k 3 3 (by decide) (by decide)]
theorem aqO{z:ai}(h:q <4):nth [zI z.w0,zI z.w1,zI z.w2,zI z.w3] ((q:Int).toNat*1)=some (zI (pI z q)):=by
 rcases Ai h with rfl|rfl|rfl|rfl<;>rfl
theorem ac1{m:fu}{a:Nat}{j:Int}(h:a <4)(k:0≤j∧j <4):nth (yX m) (0+(a:Int).toNat*4+j.toNat*1)=some (zI (m.c a j.toNat)):=by
 obtain⟨b,rfl⟩:=Int.eq_ofNat_of_zero_le k.1
 exact Ag h (by omega)
theorem ac0{m:fu}{a:Nat}{j v:Int}(h:a <4)(k:0≤j∧j <4):du (yX m) (0+(a:Int).toNat*4+j.toNat*1) [zI v]=yX (rG m a j.toNat v):=by
 obtain⟨b,rfl⟩:=Int.eq_ofNat_of_zero_le k.1
 exact akn h (by omega)
theorem ac2{m:fu}{a:Nat}{j:Int}{v:Value}(h:a <4)(k:0≤j∧j <4):Nat.ble ((0+(a:Int).toNat*4+j.toNat*1)+[v].length) (yX m).length=true:=by
 obtain⟨b,rfl⟩:=Int.eq_ofNat_of_zero_le k.1
 exact ako h (by omega)
theorem aT0(z:ai):EqV zT 113 (v4 z.w0 z.w1 z.w2 z.w3) (v4 0 0 0 0) (z.w0==0&&(z.w1==0&&(z.w2==0&&(z.w3==0&&true)))):=MF (aFI (dep:=9998) (nn Tryz.typeInfo113 Tryz.underlying113 rfl rfl rfl rfl rfl rfl) mE _ _ _ _ _ _ _ _)
theorem aN4:od zT 113:=by unfold od;kernel_rfl
theorem O9{F F1:List (P4×Value)}{k:P4}(h1:((∃u,sa k F 0=some u)∧F1=F)∨(sa k F 0=none∧F1=F++[(k,zI 0)]))(hl:Pb (zI 0) false k F= zI n):Pb (zI 0) false k F1= zI n:=by
 rcases h1 with ⟨_,rfl⟩| ⟨hf,rfl⟩
 ·exact hl
 simp only[Pb,lkM,AG (v:= zI 0) hf]
 simpa [Pb,lkM,hf] using hl
theorem adR{v:Value}{zs:List ai}{ro:Nat→Option Obj}(hl:bE ro v 8 cm zs)(hn:zs.length≤100000)(hp:∀x∈zs,∀q,0≤pI x q∧pI x q≤4):eE zT 54 [v] ro [] (fun r Y=>r= .agg ⟨yX (aw zs)⟩∧Y=[]):=by
 obtain⟨fI,rM,rK,eX,rfl,tG,lG,mH⟩:=hl
 refine bA au [] [] a8<|zD 2<|jn fun b2=>zD 3<|jmk HF fun Fx L11 aeZ=>zD 10<|dW [1,1,0,1,0,0] [] (fun(zz:Nat×(List (P4×Value))×Cells)=>[(2,zP b2),(3,(.map (some Fx))),(12,.slice fI zs.length eX),(13,zI (zs.length:Int)),(14,zI (zz.1:Int))]) (fun(zz:Nat×(List (P4×Value))×Cells)=>[.l zz.2.2,.b b2 (.cells ⟨[zI 0,zI 0,zI 0,zI 0,zI 0,zI 0,zI 0,zI 0,zI 0,zI 0,zI 0,zI 0,zI 0,zI 0,zI 0,zI 0]⟩ 123 (0,0))]) (fun(zz:Nat×(List (P4×Value))×Cells)=>zz.1≤zs.length∧jV Fx HF zz.2.1 zz.2.2∧CF zz.2.1 (zs.take zz.1)) (fun(zz:Nat×(List (P4×Value))×Cells)=>zs.length-zz.1) (⟨0,[],L11⟩) ⟨by dsimp only;omega,aeZ,CF.nil⟩ [0,1] ?_
 rintro⟨k,F,LM⟩ hI K1 bK rest
 dsimp only at hI
 refine zD 5<|zJ 15 ((k:Int) <(zs.length:Int)) (fun h1=>?_) fun h1=>?_
 ·
  refine zD 6 ?_
  obtain⟨A8,mO⟩:=zG zs k
  refine iK eX 8 lG mO<|jl 0 (mH _ _ mO)<|jn fun b5=>jd 2 [0] ?_
  obtain⟨nk,hlk,hnk⟩:=hI.2.2.look (pk A8)
  have Ro:(zs.take k).length=k:=by rw[List.length_take];omega
  refine jd 4 [0]<|nK [3,5] ⟨fun z2 t3 sR=>?_,fun z5 t6 TO=>?_,trivial⟩
  ·
   refine jlu (kv:=HF) (F:=F) (r:=Fx) (K:=113) (pk A8) (zI 0) false [1] LM adw (fun s _ hZ=>hI.2.1.has hZ)<|bI sR [0,1,2]<|jw 3 (zI nk) hlk<|ja (nk+1) (by omega)<|aO 5 fun aaG abk hL8=>jme (kv:=HF) (F:=F) (r:=Fx) (L:=LM) 1 (pk A8) adw mE hI.2.1 fun Fm4 bm4 cm4 Lm4 bfo hm4=>jA hL8 []<|aO 6 fun aaF abj Zo=>zD 1<|bI Zo [0,1,2]<|aO 7 fun IN IV yS=>jes 0 (zI (nk+1)) hm4 fun Lm7 hm7=>e8 yS<|zD 2<|ja ((k:Int)+1) (by omega)<|zD 2<|bO bK (⟨k+1,_,Lm7⟩) ⟨by dsimp only;omega,hm7,by dsimp only;rw[jz mO];exact hI.2.2.upd (by assumption) hlk hnk⟩ (by dsimp only;omega) [0,2] (Sub.refl _)
  refine jme (kv:=HF) (F:=F) (r:=Fx) (L:=LM) 1 (pk A8) adw mE hI.2.1 fun Fm9 bm9 cm9 Lm9 aER hm9=>e8 TO<|nK [3,6] ⟨fun z11 t12 Ms=>?_,fun z14 t15 P7=>?_,trivial⟩
  ·
   refine jlu (kv:=HF) (F:=Fm9) (r:=Fx) (K:=113) (pk A8) (zI 0) false [0] Lm9 adw (fun s _ hZ=>hm9.own.has hZ)<|e8 Ms<|jw 3 (zI nk) (O9 aER hlk)<|ja (nk+1) (by omega)<|aO 6 fun am0 anh Mr=>zD 1<|bI Mr [0,1,2]<|aO 7 fun awT axN afL=>jes 0 (zI (nk+1)) hm9 fun aU5 aBv=>e8 afL<|zD 2<|ja ((k:Int)+1) (by omega)<|zD 2<|bO bK (⟨k+1,_,aU5⟩) ⟨by dsimp only;omega,aBv,by dsimp only;rw[jz mO];exact hI.2.2.upd (by assumption) hlk hnk⟩ (by dsimp only;omega) [0,2] (Sub.refl _)
  refine zD 1<|e8 P7<|aO 3 fun awS axM afK=>jlu (kv:=HF) (F:=Fm9) (r:=Fx) (K:=113) (pk A8) (zI 0) false [0] Lm9 adw (fun s _ hZ=>hm9.own.has hZ)<|e8 afK<|jw 3 (zI nk) (O9 aER hlk)<|ja (nk+1) (by omega)<|aO 7 fun awR axL TU=>jes 0 (zI (nk+1)) hm9 fun aU4 aeY=>e8 TU<|zD 2<|ja ((k:Int)+1) (by omega)<|zD 2<|bO bK (⟨k+1,_,aU4⟩) ⟨by dsimp only;omega,aeY,by dsimp only;rw[jz mO];exact hI.2.2.upd (by assumption) hlk hnk⟩ (by dsimp only;omega) [0,2] (Sub.refl _)
 refine zD 4<|jn fun b6=>jf [1] LM (fun bbr asq ati=>?_)
 have hCF:CF F zs:=by have:=hI.2.2;rwa[show k=zs.length by omega,List.take_length] at this
 obtain⟨Br,HW,rfl,hE1⟩:=hI.2.1
 refine zD 5<|jmR (ati _ (.head _)) fun r27=>jg 0 [.b r27 (uB Fx HW [])]<|zD 2<|dW [1,1,1,1,0,1,0,0] [] (fun(zz:(List Nat)×fu)=>[(2,zP b2),(6,zP b6),(27,zP r27)]) (fun(zz:(List Nat)×fu)=>[.b r27 (uB Fx HW zz.1),.b b6 (.cells ⟨[zI (zz.2.c 0 0),zI (zz.2.c 0 1),zI (zz.2.c 0 2),zI (zz.2.c 0 3),zI (zz.2.c 1 0),zI (zz.2.c 1 1),zI (zz.2.c 1 2),zI (zz.2.c 1 3),zI (zz.2.c 2 0),zI (zz.2.c 2 1),zI (zz.2.c 2 2),zI (zz.2.c 2 3),zI (zz.2.c 3 0),zI (zz.2.c 3 1),zI (zz.2.c 3 2),zI (zz.2.c 3 3)]⟩ 123 (0,0)),.b b2 (.cells ⟨[zI 0,zI 0,zI 0,zI 0,zI 0,zI 0,zI 0,zI 0,zI 0,zI 0,zI 0,zI 0,zI 0,zI 0,zI 0,zI 0]⟩ 123 (0,0))]) (fun(zz:(List Nat)×fu)=>Ew zz.2 (fun i j=>sA i j (cF Br zz.1)) (aw zs).c) (fun(zz:(List Nat)×fu)=>(cF Br zz.1).length) (⟨[],⟨fun _ _=>0⟩⟩) (Ew.init hCF hE1) [0,1,2] ?_
 rintro⟨seen,m⟩ hI K21 alT rest
 dsimp only at hI
 refine zD 2<|jmN (it:=r27) (kv:=HF) (seen:=seen) 0 (ati _ (.head _)) hE1 (fun k28 v28 e28 aBW Zj atg aAA=>?_) (fun arY=>?_)
 ·
  obtain⟨FV,aoh,aBm⟩:=hCF.val _ aBW
  obtain⟨kR,arY,hkz⟩:=hCF.key _ aBW
  dsimp only at aoh hkz
  subst aoh
  subst hkz
  have hpz:=hp kR arY
  have cG:=F6 Zj
  refine jg 0 [.b r27 (uB Fx HW (seen++[e28.born]))]<|zD 8<|jmE (it:=r27) 0 (ati _ (.head _)) hE1 Zj atg aAA<|jg 0 [.b r27 (uB Fx HW (seen++[e28.born]))]<|zD 2<|jn fun b7=>jd 8 [0,0]<|jeq aN4 (aT0 kR)<|zD 1<|js 35 (kR.w0==0&&(kR.w1==0&&(kR.w2==0&&(kR.w3==0&&true)))) (fun h21=>?_) (fun h21=>?_)
  ·
   refine zD 2<|bO alT (⟨(seen++[e28.born]),m⟩) (hI.zero (n:=0) hE1 Zj atg (aaK (by assumption))) cG [1,2,3] (Sub.refl _)
  refine jd 8 [0]<|dW [1,1,1,1,0,1,0,0,1,1,0,1,1,1,0,0] [K21] (fun(zz:Nat×fu)=>[(2,zP b2),(6,zP b6),(8,zI FV),(27,zP r27),(36,.agg ⟨[zI kR.w0,zI kR.w1,zI kR.w2,zI kR.w3]⟩),(37,zI (zz.1:Int))]) (fun(zz:Nat×fu)=>[.b r27 (uB Fx HW (seen++[e28.born])),.b b6 (.cells ⟨[zI (zz.2.c 0 0),zI (zz.2.c 0 1),zI (zz.2.c 0 2),zI (zz.2.c 0 3),zI (zz.2.c 1 0),zI (zz.2.c 1 1),zI (zz.2.c 1 2),zI (zz.2.c 1 3),zI (zz.2.c 2 0),zI (zz.2.c 2 1),zI (zz.2.c 2 2),zI (zz.2.c 2 3),zI (zz.2.c 3 0),zI (zz.2.c 3 1),zI (zz.2.c 3 2),zI (zz.2.c 3 3)]⟩ 123 (0,0)),.b b7 (.cells ⟨[zI kR.w0,zI kR.w1,zI kR.w2,zI kR.w3]⟩ 113 (0,0)),.b b2 (.cells ⟨[zI 0,zI 0,zI 0,zI 0,zI 0,zI 0,zI 0,zI 0,zI 0,zI 0,zI 0,zI 0,zI 0,zI 0,zI 0,zI 0]⟩ 123 (0,0))]) (fun(zz:Nat×fu)=>zz.1≤4∧Ew zz.2 (YR kR FV zz.1 (fun i j=>sA i j (cF Br (seen++[e28.born])))) (aw zs).c) (fun(zz:Nat×fu)=>4-zz.1) (⟨0,m⟩) ⟨by dsimp only;omega,hI.open_ hE1 Zj atg aAA⟩ [1,2,0,3] ?_
  rintro⟨q,m⟩ hJ K22 aEL rest
  dsimp only at hJ
  refine zD 5<|zJ 38 ((q:Int) <4) (fun J3=>?_) fun J3=>?_
  ·
   refine zD 7<|jai (l:=[zI kR.w0,zI kR.w1,zI kR.w2,zI kR.w3]) (q:Int) 4 1 false (by omega) (v:= zI (pI kR q)) (show nth [_,_,_,_] _=_ from aqO (by omega))<|zD 8<|zJ 42 ((pI kR q)>0) (fun EU=>?_) fun EU=>?_
   ·
    refine zD 4<|ja ((pI kR q)-1) (by have:=hpz q;omega) ?_
    refine Gc (b:=b6) (off:=0) (len:=4) (sz:=4) (q:Int) (by omega)<|Gc (b:=b6) (off:=0+(q:Int).toNat*4) (len:=4) (sz:=1) ((pI kR q)-1) (by have:=hpz q;omega) ?_
    refine oQ (b:=b6) (off:=0+(q:Int).toNat*4+((pI kR q)-1).toNat*1) (m:=1) (vs:=[zI (m.c q (pI kR q-1).toNat)]) 0 [1] [(b6,.cells ⟨[zI (m.c 0 0),zI (m.c 0 1),zI (m.c 0 2),zI (m.c 0 3),zI (m.c 1 0),zI (m.c 1 1),zI (m.c 1 2),zI (m.c 1 3),zI (m.c 2 0),zI (m.c 2 1),zI (m.c 2 2),zI (m.c 2 3),zI (m.c 3 0),zI (m.c 3 1),zI (m.c 3 2),zI (m.c 3 3)]⟩ 123 (0,0))] (fun s _ hZ=>oy (hZ _ (.head _)) (ac1 (m:=m) (by omega) (by have:=hpz q;omega))) ?_
    refine zD 1<|ja ((m.c q (pI kR q-1).toNat)+FV) (by have h7:=hJ.2.bound (fun i j=>NY (ajh hCF hE1)) aBm.1 (i:=q) (j:=(pI kR q-1).toNat) (by omega) (by have:=hpz q;omega);have h8:=Cz zs q (pI kR q-1).toNat;omega) ?_
    refine Gc (b:=b6) (off:=0) (len:=4) (sz:=4) (q:Int) (by omega)<|Gc (b:=b6) (off:=0+(q:Int).toNat*4) (len:=4) (sz:=1) ((pI kR q)-1) (by have:=hpz q;omega) ?_
    refine aO 10 fun awO axI afI=>jsx 1 b6 (0+(q:Int).toNat*4+((pI kR q)-1).toNat*1) [zI (m.c 0 0),zI (m.c 0 1),zI (m.c 0 2),zI (m.c 0 3),zI (m.c 1 0),zI (m.c 1 1),zI (m.c 1 2),zI (m.c 1 3),zI (m.c 2 0),zI (m.c 2 1),zI (m.c 2 2),zI (m.c 2 3),zI (m.c 3 0),zI (m.c 3 1),zI (m.c 3 2),zI (m.c 3 3)] [zI ((m.c q (pI kR q-1).toNat)+FV)] 123 (by intro v hv;rw[List.mem_singleton] at hv;subst hv;rfl) (ac2 (m:=m) (by omega) (by have:=hpz q;omega)) ?_
    refine jmw 0 [.b b6 (.cells ⟨[zI ((rG m q (pI kR q-1).toNat (m.c q (pI kR q-1).toNat+FV)).c 0 0),zI ((rG m q (pI kR q-1).toNat (m.c q (pI kR q-1).toNat+FV)).c 0 1),zI ((rG m q (pI kR q-1).toNat (m.c q (pI kR q-1).toNat+FV)).c 0 2),zI ((rG m q (pI kR q-1).toNat (m.c q (pI kR q-1).toNat+FV)).c 0 3),zI ((rG m q (pI kR q-1).toNat (m.c q (pI kR q-1).toNat+FV)).c 1 0),zI ((rG m q (pI kR q-1).toNat (m.c q (pI kR q-1).toNat+FV)).c 1 1),zI ((rG m q (pI kR q-1).toNat (m.c q (pI kR q-1).toNat+FV)).c 1 2),zI ((rG m q (pI kR q-1).toNat (m.c q (pI kR q-1).toNat+FV)).c 1 3),zI ((rG m q (pI kR q-1).toNat (m.c q (pI kR q-1).toNat+FV)).c 2 0),zI ((rG m q (pI kR q-1).toNat (m.c q (pI kR q-1).toNat+FV)).c 2 1),zI ((rG m q (pI kR q-1).toNat (m.c q (pI kR q-1).toNat+FV)).c 2 2),zI ((rG m q (pI kR q-1).toNat (m.c q (pI kR q-1).toNat+FV)).c 2 3),zI ((rG m q (pI kR q-1).toNat (m.c q (pI kR q-1).toNat+FV)).c 3 0),zI ((rG m q (pI kR q-1).toNat (m.c q (pI kR q-1).toNat+FV)).c 3 1),zI ((rG m q (pI kR q-1).toNat (m.c q (pI kR q-1).toNat+FV)).c 3 2),zI ((rG m q (pI kR q-1).toNat (m.c q (pI kR q-1).toNat+FV)).c 3 3)]⟩ 123 (0,0))] (L:=[(b6,.cells ⟨du [zI (m.c 0 0),zI (m.c 0 1),zI (m.c 0 2),zI (m.c 0 3),zI (m.c 1 0),zI (m.c 1 1),zI (m.c 1 2),zI (m.c 1 3),zI (m.c 2 0),zI (m.c 2 1),zI (m.c 2 2),zI (m.c 2 3),zI (m.c 3 0),zI (m.c 3 1),zI (m.c 3 2),zI (m.c 3 3)] (0+(q:Int).toNat*4+((pI kR q)-1).toNat*1) [zI ((m.c q (pI kR q-1).toNat)+FV)]⟩ 123 (0,0))]) (by rw[ac0 (m:=m) (by omega) (by have:=hpz q;omega)];rfl) ?_
    refine jA afI []<|zD 2<|ja ((q:Int)+1) (by omega)<|zD 2<|bO aEL (⟨q+1,(rG m q (pI kR q-1).toNat (m.c q (pI kR q-1).toNat+FV))⟩) ⟨by dsimp only;omega,hJ.2.add aBm.1 (by assumption) (by omega)⟩ (by dsimp only;omega) [1,0,2,3] (Sub.refl _)
   refine zD 3<|ja ((q:Int)+1) (by omega)<|zD 2<|bO aEL (⟨q+1,m⟩) ⟨by dsimp only;omega,hJ.2.skip (by assumption)⟩ (by dsimp only;omega) [0,1,2,3] (Sub.refl _)
  refine zD 2<|bO alT (⟨(seen++[e28.born]),m⟩) (Ew.close (z:=kR) (n:=FV) (by have:=hJ.2;rwa[show q=4 by omega] at this)) cG [0,1,3] (Sub.refl _)
 refine jg 0 [.b r27 (uB Fx HW seen)]<|jd 11 [1,2]<|aE q0.a (.agg ⟨[zI (m.c 0 0),zI (m.c 0 1),zI (m.c 0 2),zI (m.c 0 3),zI (m.c 1 0),zI (m.c 1 1),zI (m.c 1 2),zI (m.c 1 3),zI (m.c 2 0),zI (m.c 2 1),zI (m.c 2 2),zI (m.c 2 3),zI (m.c 3 0),zI (m.c 3 1),zI (m.c 3 2),zI (m.c 3 3)]⟩) [2] [] [] asq ⟨_,_,rfl,rfl,by rw[←hI.fin arY],rfl⟩
theorem wB:qK:=fun hl hn hp=>adR hl hn hp
theorem AE:∀(l:List Int) (a:Int),l.foldl min a=a∨l.foldl min a∈l
 | [],_=> .inl rfl
 |y::l,a=>by
  simp only[List.foldl_cons]
  rcases AE l (min a y) with h|h
  ·rw[h]
   rcases(by omega:min a y=a∨min a y=y) with e|e
   ·exact .inl e
   rw[e];exact .inr List.mem_cons_self
  exact .inr (List.mem_cons_of_mem _ h)
theorem O5:∀ {l:List Int},l≠[]→uR l∈l
 | [],h=>absurd rfl h
 |y::l,_=>by
  show l.foldl min y∈_
  rcases AE l y with h|h
  ·rw[h];exact List.mem_cons_self
  exact List.mem_cons_of_mem _ h
theorem JE{l m:List Int}(h:l.Perm m)(hl:l≠[]):uR l=uR m:=by
 have h1:=LD (h.mem_iff.1 (O5 hl))
 have h2:=LD (h.mem_iff.2 (O5 (fun e=>hl (by rw[e] at h;exact h.eq_nil))))
 omega
theorem GP:∀(l:List Int) (a:Int),a≤l.foldl max a∧∀x∈l,x≤l.foldl max a
 | [],a=>⟨Int.le_refl _,fun _ h=>(by cases h)⟩
 |y::l,a=>by
  obtain⟨h1,h2⟩:=GP l (max a y)
  refine⟨by simp only[List.foldl_cons];omega,fun x hx=>?_⟩
  rcases List.mem_cons.1 hx with rfl|hx
  ·simp only[List.foldl_cons];omega
  exact h2 x hx
theorem AF:∀(l:List Int) (a:Int),l.foldl max a=a∨l.foldl max a∈l
 | [],_=> .inl rfl
 |y::l,a=>by
  simp only[List.foldl_cons]
  rcases AF l (max a y) with h|h
  ·rw[h]
   rcases(by omega:max a y=a∨max a y=y) with e|e
   ·exact .inl e
   rw[e];exact .inr List.mem_cons_self
  exact .inr (List.mem_cons_of_mem _ h)
theorem V1{l:List Int}{x:Int}(h:x∈l):x≤B3 l:=by
 cases l with
 |nil=>cases h
 |cons y l=>
  rcases List.mem_cons.1 h with rfl|h
  ·exact(GP l _).1
  exact(GP l _).2 x h
theorem O6:∀ {l:List Int},l≠[]→B3 l∈l
 | [],h=>absurd rfl h
 |y::l,_=>by
  show l.foldl max y∈_
  rcases AF l y with h|h
  ·rw[h];exact List.mem_cons_self
  exact List.mem_cons_of_mem _ h
theorem YC{l m:List Int}(h:l.Perm m)(hl:l≠[]):B3 l=B3 m:=by
 have h1:=V1 (h.mem_iff.1 (O6 hl))
 have h2:=V1 (h.mem_iff.2 (O6 (fun e=>hl (by rw[e] at h;exact h.eq_nil))))
 omega
theorem LJ{β:Type}{f:α→β}{l:List α}(h:l≠[]):l.map f≠[]:=fun e=>h (List.map_eq_nil_iff.1 e)
abbrev fsT:List fF:=[⟨2,1,true⟩,⟨0,1,true⟩]
theorem cC(h:0≤n∧n≤4):mz (aT n):=aoR (fs:=[]) h (by decide) (by simp) .nil
theorem cV:fy (aT n):=aoQ (fs:=[]) (by decide) (by simp)
theorem cCT:mz (Dq 2 fsT):=aoR (by decide) (by decide) (by decide) (by decide)
theorem cVT:fy (Dq 2 fsT):=aoQ (by decide) (by decide)
theorem rT:eN (aT 2)=4:=by kernel_rfl
theorem rL:uR ((dc (aT 1) (bF (aT 1)) (fun _=>true) (fG (aT 1))).map Fe)=2:=by kernel_rfl
theorem rLn:(dc (aT 1) (bF (aT 1)) (fun _=>true) (fG (aT 1))).length=0→False:=by
 have e:Nat.beq (dc (aT 1) (bF (aT 1)) (fun _=>true) (fG (aT 1))).length 0=false:=by kernel_rfl
 intro h;rw[h] at e;cases e
theorem r1n:(dc (aT 1) (bF (aT 1)) (cP (aT 1).gone (aT 1).new (aT 1).af) (fG (aT 1))).length=0→False:=by
 have e:Nat.beq (dc (aT 1) (bF (aT 1)) (cP (aT 1).gone (aT 1).new (aT 1).af) (fG (aT 1))).length 0=false:=by kernel_rfl
 intro h;rw[h] at e;cases e
theorem r2n:(dc (aT 2) (bF (aT 2)) (cP (aT 2).gone (aT 2).new (aT 2).af) (fG (aT 2))).length=0→False:=by
 have e:Nat.beq (dc (aT 2) (bF (aT 2)) (cP (aT 2).gone (aT 2).new (aT 2).af) (fG (aT 2))).length 0=false:=by kernel_rfl
 intro h;rw[h] at e;cases e
theorem rM1:uR ((dc (aT 2) (bF (aT 2)) (cP (aT 2).gone (aT 2).new (aT 2).af) (fG (aT 2))).map fun x=>x.af)=0:=by kernel_rfl
theorem rM2:B3 ((dc (aT 2) (bF (aT 2)) (cP (aT 2).gone (aT 2).new (aT 2).af) (fG (aT 2))).map fun x=>x.af)=2:=by kernel_rfl
theorem rU:nq (aw (dc (aT 1) (bF (aT 1)) (cP (aT 1).gone (aT 1).new (aT 1).af) (fG (aT 1)))) (((dc (aT 1) (bF (aT 1)) (cP (aT 1).gone (aT 1).new (aT 1).af) (fG (aT 1))).length:Nat):Int) (aT 1).after.length (aT 1).before.length=[[0,0],[2,1]]:=by kernel_rfl
theorem rW:Kz (Dq 2 fsT) (fG (Dq 2 fsT))=some 1:=by kernel_rfl
theorem rL1:lX 1 4=[0]:=by kernel_rfl
theorem rA:(Uw (Z0 (aw (dc (aT 2) (bF (aT 2)) (cP (aT 2).gone (aT 2).new (aT 2).af) (fG (aT 2)))) (((dc (aT 2) (bF (aT 2)) (cP (aT 2).gone (aT 2).new (aT 2).af) (fG (aT 2))).length:Nat):Int) (aT 2).after.length (aT 2).before.length)).2.2=(2,0):=by kernel_rfl
theorem Ya{ro:Nat→Option Obj}(hK:gk ro l (aT 2)):Bs zT 15 [.agg ⟨l⟩] ro [] (fun r Y=>r= .tuple ⟨[zI 4,zI 0]⟩∧Y=[]):=
 (adz hK (cC (by decide)) cV).mono fun v X h=>⟨by rw[h.1,rT];rfl,h.2⟩
theorem abZ{ro:Nat→Option Obj}(hK:gk ro l (aT 1)):Bs zT 36 [.agg ⟨l⟩] ro [] (fun r Y=>r= .tuple ⟨[zI 2,zI 0]⟩∧Y=[]):=
 (akQ hK (cC (by decide)) cV).mono fun v X ⟨zs,m,e,hz,hY,hr,h⟩=>by
  rcases h with ⟨h,_⟩| ⟨h,hm,he⟩
  ·exact(rLn (by rw[←hz.length_eq,h];rfl)).elim
  exact⟨by rw[hr,hm,he,JE (hz.map Fe) (LJ h),rL],hY⟩
theorem ajF{ro:Nat→Option Obj}(hK:gk ro l (aT 1)):Bs zT 22 [.agg ⟨l⟩] ro [] (fun r Y=>∃v,r= .tuple ⟨[v,zI 0]⟩∧∀aI,Knows aI Y→LL aI v [[0,0],[2,1]]):=
 (adH hK cV (jo (cC (by decide))) (qG hK (cC (by decide)) cV) wB).mono fun r X ⟨zs,v,e,hz,hr,h⟩=>by
  rcases h with ⟨h,_⟩| ⟨h,he,hl⟩
  ·exact(r1n (by rw[←hz.length_eq,h];rfl)).elim
  refine⟨v,by rw[hr,he],fun aI hk=>?_⟩
  have:=hl aI hk
  rwa[AS hz,hz.length_eq,rU] at this
theorem abY{ro:Nat→Option Obj}(hK:gk ro l (aT 2)):Bs zT 35 [.agg ⟨l⟩] ro [] (fun r Y=>r= .tuple ⟨[.agg ⟨[zI 0,zI 2]⟩,zI 0]⟩∧Y=[]):=
 (arL hK cV (jo (cC (by decide))) (qG hK (cC (by decide)) cV)).mono fun r X ⟨zs,a,b,e,hz,hY,hr,h⟩=>by
  rcases h with ⟨h,_⟩| ⟨h,ha,hb,he⟩
  ·exact(r2n (by rw[←hz.length_eq,h];rfl)).elim
  exact⟨by rw[hr,ha,hb,he,JE (hz.map _) (LJ h),YC (hz.map _) (LJ h),rM1,rM2],hY⟩
theorem aqq{ro:Nat→Option Obj}(hK:gk ro l (aT 2)):Bs zT 40 [.agg ⟨l⟩] ro [] (fun r Y=>∃a b,r= .tuple ⟨[zI a,zI b,zI 2,zI 0]⟩∧Y=[]):=
 (aOm hK cV (jo (cC (by decide))) (qG hK (cC (by decide)) cV) wB).mono fun r X ⟨zs,a,b,w,e,hz,hY,hr,h⟩=>by
  rcases h with ⟨h,_⟩| ⟨h,ha⟩
  ·exact(r2n (by rw[←hz.length_eq,h];rfl)).elim
  rw[AS hz,hz.length_eq] at ha
  have h2:=congrArg (fun x:Int×Int×Int×Int=>x.2.2) ha
  dsimp only at h2
  rw[rA] at h2
  cases h2
  exact⟨a,b,hr,hY⟩
theorem abX{ro:Nat→Option Obj}(hK:gk ro l (Dq 2 fsT)):eE zT 37 [.agg ⟨l⟩] ro [] (fun r Y=>∃v,r= .tuple ⟨[v,zI 0]⟩∧aA v 1 3 cv [0] Y):=
 Fn.mono (art hK cVT (jo cCT) (qG hK cCT cVT) (by decide)) fun en s' ⟨r,X,h1,h2,v,e,hr,h⟩=>⟨r,X,h1,h2,by
  rcases h with ⟨m,hm,ho,he⟩| ⟨hm,_⟩
  ·rw[rW] at hm;cases hm
   rw[rL1] at ho
   exact⟨v,by rw[hr,he],ho⟩
  rw[rW] at hm;cases hm⟩
theorem adq{ro:Nat→Option Obj}{v4 vf:Value}{fa:Option Addr}{fs:List fF}(h:gk ro [v0,v1,.slice fa 0 fc,v3,v4,v5,v6,v7,zI 1,zI 1,zI n,vb] (aT n))(hf:bE ro vf 3 wA fs):gk ro [v0,v1,.slice fa 0 fc,v3,v4,v5,v6,v7,zI 1,zI 1,zI n,vf] (Dq n fs):=by
 obtain⟨w0,w1,w3,w4,w5,w6,w7,wb,ga,gc,hv,e,h1,h2,h3,h4,h5,h6,h7,_⟩:=h
 cases e
 exact⟨_,_,_,_,_,_,_,_,_,_,hv,rfl,h1,h2,h3,h4,h5,h6,h7,hf⟩
theorem NN{v4:Value}{fa fb:Option Addr}{fn fd:Nat}(h:∀v∈[v0,v1,v3,v4,v5,v6,v7,vb],single v=true):∀v∈[v0,v1,.slice fa 0 fc,v3,v4,v5,v6,v7,zI 1,zI 1,zI 2,.slice fb fn fd],single v=true:=by
 simp only[List.mem_cons,List.not_mem_nil,or_false] at h ⊢
 rintro v (rfl|rfl|rfl|rfl|rfl|rfl|rfl|rfl|rfl|rfl|rfl|rfl)<;>first|rfl|exact h _ (by simp)
theorem LL.up{ro aI:Nat→Option Obj}{v:Value}(h:LL ro v W)(hs:Sub ro aI):LL aI v W:=by
 obtain⟨ws,h1,h2⟩:=h
 exact⟨ws,h1.up hs,h2.imp fun _ _ k=>k.up hs⟩
theorem aFG(a b c d:Int):EqV zT 93 (.agg ⟨[zI a,zI b]⟩) (.agg ⟨[zI c,zI d]⟩) (a==c&&(b==d&&true)):=
 MF (uf (dep:=9999) (nn Tryz.typeInfo93 Tryz.underlying93 rfl rfl rfl rfl rfl rfl) Tryz.stoodInHeld93 (.cons (by decide) (j9 mE rfl) (j9 mE rfl) (n8 mE _ _) (.cons (by decide) (j9 mE rfl) (j9 mE rfl) (n8 mE _ _) .nil)))
theorem aN3:od zT 93:=by unfold od;kernel_rfl
theorem Vr{ro:Nat→Option Obj}:Bs zT 9 [] ro [] (fun r Y=>r= .bool true∧Y=[]):=by
 refine yG au [] [] a8 fun fr=>zD 6<|jc (vs:=[zI 2]) [] (Kr) ?_
 rintro _ Y16 ⟨l16,rfl,aSr,P7⟩
 refine jf [0] Y16 (fun yp bW iL=>?_)
 have aS7:=aSr _ iL
 refine Gd (vs:=[(.agg ⟨l16⟩)]) [] (fun _ _ h=>h) (Ya aS7) ?_
 rintro _ _ ⟨rfl,rfl⟩
 refine jg 0 []<|zD 8<|jc (vs:=[zI 1]) [] (Kr) ?_
 rintro _ Y21 ⟨l21,rfl,aSq,Zq⟩
 refine jf [0] Y21 (fun ro6 ky Wz=>?_)
 have alT:=aSq _ Wz
 refine Gd (vs:=[(.agg ⟨l21⟩)]) [] (fun _ _ h=>h) (ajF alT) ?_
 rintro _ Y22 ⟨v22,rfl,aQq⟩
 refine zD 5<|jf [0] Y22 (fun ro9 rS hk8=>?_)
 have aSt:=aQq _ hk8
 refine zD 3<|jc (vs:=[zI 2]) [] (Kr) ?_
 rintro _ Y26 ⟨vM,rfl,aSp,P6⟩
 refine jf [0] Y26 (fun bbw aAN aQF=>?_)
 have aS6:=aSp _ aQF
 refine Gd (vs:=[(.agg ⟨vM⟩)]) [] (fun _ _ h=>h) (abY aS6) ?_
 rintro _ _ ⟨rfl,rfl⟩
 refine jg 0 []<|zD 3<|jn fun b5=>jd 5 [0]<|jc (vs:=[zI 1]) [] (Kr) ?_
 rintro _ Y31 ⟨l31,rfl,aSo,Zp⟩
 refine jf [0] Y31 (fun bbu aAL alv=>?_)
 have aS5:=aSo _ alv
 refine Gd (vs:=[(.agg ⟨l31⟩)]) [] (fun _ _ h=>h) (abZ aS5) ?_
 rintro _ _ ⟨rfl,rfl⟩
 refine jg 0 []<|zD 8<|jc (vs:=[zI 2]) [] (Kr) ?_
 rintro _ Y36 ⟨l36,rfl,aSn,TP⟩
 refine jp (vs:=[zI 2,zI 1,.bool true]) [] [] (fun aB hs hZ=>aFW)<|jp (vs:=[zI 0,zI 1,.bool true]) [] [] (fun aB hs hZ=>aFW)<|jn fun b39=>jf [1,0] (Y36++[(b39,.cells ⟨[zI 2,zI 1,.bool true,zI 0,zI 1,.bool true]⟩ 54 (0,0))]) (fun bbs aAK Zh=>?_)
 have aS3:=aSn _ (Knows.left Zh)
 have aQU:=bQ (sz:=3) (enc:=wA) (T:=54) [⟨2,1,true⟩,⟨0,1,true⟩] (Knows.right Zh _ (.head _)) (fun _ _=>rfl)
 obtain⟨v0,v1,v3,v4,v5,v6,v7,vb,fa,fc,rfl,aPx⟩:=TP
 refine jp (vs:=[.agg ⟨[v0,v1,(.slice fa 0 fc),v3,v4,v5,v6,v7,zI 1,zI 1,zI 2,vb]⟩,(.slice (some ⟨b39,0,none⟩) 2 2)]) [] [] (fun aB hs hZ=>aFV (NN aPx))<|jc (vs:=[.agg ⟨[v0,v1,(.slice fa 0 fc),v3,v4,v5,v6,v7,zI 1,zI 1,zI 2,(.slice (some ⟨b39,0,none⟩) 2 2)]⟩]) [] (abX (adq aS3 aQU)) ?_
 rintro _ Y41 ⟨v41,rfl,aP2⟩
 refine zD 8<|jc (vs:=[zI 2]) [] (Kr) ?_
 rintro _ Y45 ⟨l45,rfl,aSm,aCE⟩
 refine jf [0] Y45 (fun bbq aAJ aQC=>?_)
 have aS2:=aSm _ aQC
 refine Gd (vs:=[(.agg ⟨l45⟩)]) [] (fun _ _ h=>h) (aqq aS2) ?_
 rintro _ _ ⟨qa,qb,rfl,rfl⟩
 refine jg 0 []<|jd 49 [1]<|jeq aN3 (aFG 0 2 0 2)<|zD 3<|jn fun b92=>jn fun b93=>jn fun b94=>jf [2,1,0] ((b92,.cells ⟨[zI 0,zI 0]⟩ 3 (0,0))::((b93,.cells ⟨[zI 2,zI 1]⟩ 3 (0,0))::[(b94,.cells ⟨[.slice (some ⟨b92,0,none⟩) 2 2,.slice (some ⟨b93,0,none⟩) 2 2]⟩ 22 (0,0))])) (fun bbp aAI ath=>?_)
 obtain⟨wsM,hsM,haM⟩:=aSt.up ((((aAN.trans aAL).trans aAK).trans aAJ).trans aAI)
 have aO6:=bQ (sz:=1) (enc:=ir) (T:=22) [.slice (some ⟨b92,0,none⟩) 2 2,.slice (some ⟨b93,0,none⟩) 2 2] (ath _ (.tail _ (.tail _ (.head _)))) (fun _ _=>rfl)
 have aSe:=bQ (sz:=1) (enc:=cv) (T:=3) [0,0] (ath _ (.head _)) (fun _ _=>rfl)
 have aSd:=bQ (sz:=1) (enc:=cv) (T:=3) [2,1] (ath _ (.tail _ (.head _))) (fun _ _=>rfl)
 refine jp (vs:=[v22,(.slice (some ⟨b94,0,none⟩) 2 2)]) [] [] (fun aB hs hZ=>(show de _ _ _ _ (.bool (Ek [[0,0],[2,1]] [[0,0],[2,1]])) from auX (hsM.up hs) (aO6.up hs) (haM.imp fun _ _ h=>h.up hs) (.cons (aSe.up hs) (.cons (aSd.up hs) .nil)) (by decide) (by decide) (by decide) (by decide)))<|zD 3<|jn fun b99=>jp (vs:=[v41,.slice (some ⟨b99,0,none⟩) 1 1]) [1,0] (Y41++[(b99,.cells ⟨([0].map cv).flatten⟩ 3 (0,0))]) (fun aB hs hZ=>(show de _ _ _ _ (.bool (G3 [0] [0])) from ag8 (aP2.lR hZ.left) (bQ [0] hZ.right.head (by intro p hp;rfl)) (by decide) (by decide))) ?_
 refine zD 4<|HG qC.a.a.a.a.a.a.a.a (.bool true) [3] [] (((((((bW.trans ky).trans rS).trans aAN).trans aAL).trans aAK).trans aAJ).trans aAI) ⟨rfl,rfl⟩
theorem WL{n:Nat}(hn:n≤4)(hi:i <n):hasB (IntKind.u8.wrap (dv .u8 1 (n:Int)-1)) i=true:=by
 have h:(n=1∧i=0)∨(n=2∧(i=0∨i=1))∨(n=3∧(i=0∨i=1∨i=2))∨(n=4∧(i=0∨i=1∨i=2∨i=3)):=by omega
 rcases h with ⟨rfl,rfl⟩| ⟨rfl,rfl|rfl⟩| ⟨rfl,rfl|rfl|rfl⟩| ⟨rfl,rfl|rfl|rfl|rfl⟩<;>rfl
def BB(a b:Int)(l:List fF):Bool:=l.any fun x=>(decide (x.a=a)&&decide (x.b=b))&& !x.same
def p5(p:Nat→Int)(l:List fF):Bool:=l.all fun x=> !x.same||decide (p x.a.toNat=x.b+1)
theorem Vh{on:Int}{a b:Int}:∀ {l:List fF} {k:Nat},(∀j,j <l.length→hasB on ((k+j:Nat):Int)=true)→BA on a b l k=BB a b l
 | [],_,_=>rfl
 |x::l,k,h=>by
  have h0:=h 0 (Nat.zero_lt_succ _)
  have ih:=Vh (a:=a) (b:=b) (l:=l) (k:=k+1) fun j hj=>by
   have:=h (j+1) (Nat.succ_lt_succ hj)
   rwa[show k+1+j=k+(j+1) by omega]
  simp only[Nat.add_zero] at h0
  simp only[BA,h0,ih,BB,List.any_cons,Bool.true_and]
theorem I6{on:Int}{p:Nat→Int}:∀ {l:List fF} {k:Nat},(∀j,j <l.length→hasB on ((k+j:Nat):Int)=true)→lE on p l k=p5 p l
 | [],_,_=>rfl
 |x::l,k,h=>by
  have h0:=h 0 (Nat.zero_lt_succ _)
  have ih:=I6 (p:=p) (l:=l) (k:=k+1) fun j hj=>by
   have:=h (j+1) (Nat.succ_lt_succ hj)
   rwa[show k+1+j=k+(j+1) by omega]
  simp only[Nat.add_zero] at h0
  simp only[lE,h0,ih,p5,List.all_cons,Bool.true_and]
  cases x.same<;>cases decide (p x.a.toNat=x.b+1)<;>simp
def gA(F:Nat→Nat→Bool)(R:(Nat→Int)→Bool)(na:Nat):Nat→Nat→(Nat→Int)→List (Nat→Int)
 |0,_,p=>bif R p then [p] else []
 |n+1,a,p=>gA F R na n (a+1) p++(List.range na).flatMap fun b=>bif !F a b||qu p a ((b:Int)+1) then [] else gA F R na n (a+1) (iy p a ((b:Int)+1))
def AJ(K:aM)(a b:Nat):Bool:=match K.before[a]?,K.after[b]? with
 |some x,some y=> !y5 K x y&&(!uj K x y&& !BB a b K.facts)
 |_,_=>false
theorem amc(h:K.facts.length≤4)(a b:Nat):db K (bF K) a b=AJ K a b:=by
 have e:BA (bF K) a b K.facts 0=BB a b K.facts:=Vh fun j hj=>by
  rw[Nat.zero_add];exact WL h hj
 simp only[db,AJ,e]
 cases K.before[a]?<;>cases K.after[b]?<;>rfl
theorem oG(h:K.facts.length≤4):∀(n a:Nat) (p:Nat→Int),iH K (bF K) n a p=gA (AJ K) (fun p=>p5 p K.facts) K.after.length n a p
 |0,a,p=>by
  have e:lE (bF K) p K.facts 0=p5 p K.facts:=I6 fun j hj=>by
   rw[Nat.zero_add];exact WL h hj
  simp only[iH,gA,e]
 |n+1,a,p=>by
  simp only[iH,gA,amc h,oG h n]
theorem tK{r:bH}(hq:q <4):pI (cW K r i p) q=p q:=by
 rcases Ai hq with rfl|rfl|rfl|rfl<;>rfl
def mM(m:fu)(i:Nat):Nat→List (List Int)
 |0=>[]
 |j+1=>mM m i j++(bif decide (m.c i j>0) then [[(i:Int),(j:Int)]] else [])
def oA(m:fu)(w:Nat):Nat→List (List Int)
 |0=>[]
 |i+1=>oA m w i++mM m i w
theorem VC{m:fu}(h:m.c i j>0):mM m i (j+1)=mM m i j++[[(i:Int),(j:Int)]]:=by rw[mM,decide_eq_true h];rfl
theorem VD{m:fu}(h:¬m.c i j>0):mM m i (j+1)=mM m i j:=by rw[mM,decide_eq_false h];exact List.append_nil _
theorem BQ(m:fu)(i:Nat):∀j,(mM m i j).length≤j
 |0=>Nat.le_refl _
 |j+1=>by have:=BQ m i j;rw[mM,List.length_append];cases decide (m.c i j>0)<;>simp<;>omega
theorem BR(m:fu){w:Nat}(hw:w≤4):∀i,(oA m w i).length≤4*i
 |0=>Nat.le_refl _
 |i+1=>by have:=BR m hw i;have:=BQ m i w;rw[oA,List.length_append];omega
theorem Js(m:fu)(i:Nat):∀j,∀l∈mM m i j,l.length=2
 |0=>fun _ h=>by cases h
 |j+1=>fun l h=>by
  rw[mM] at h
  rcases List.mem_append.1 h with h|h
  ·exact Js m i j l h
  cases hd:decide (m.c i j>0)
  ·rw[hd] at h;simp at h
  rw[hd] at h;simp at h;rw[h];rfl
theorem Ju(m:fu)(w:Nat):∀i,∀l∈oA m w i,l.length=2
 |0=>fun _ h=>by cases h
 |i+1=>fun l h=>by
  rw[oA] at h
  rcases List.mem_append.1 h with h|h
  ·exact Ju m w i l h
  exact Js m i w l h
theorem arz{a b:Int}{ro:Nat→Option Obj}:de zT 64 [zI a,zI b] ro (.bool (decide (a>0))):=by
 refine bA au [] [] a8<|zD 11<|aE q0 (.bool (decide (a>0))) [] [] [] (Sub.refl _) ⟨_,_,rfl,rfl,rfl,rfl⟩
theorem adI{rows:List bH}{ro:Nat→Option Obj}(hK:gk ro l K)(hV:fy K)(hR:rows.length≤2)(hB:gZ ro l K rows)(hCt:qK):Bs zT 63 [.agg ⟨l⟩,.func (.func 64) ⟨[]⟩ ⟨[]⟩] ro [] (fun r Y=>∃zs v e,zs.Perm (dc K (bF K) (cP K.gone K.new K.af) rows)∧r= .tuple ⟨[v,zI e]⟩∧((zs=[]∧v= zS∧e=9∧Y=[])∨(zs≠[]∧e=0∧∀aI,Knows aI Y→LL aI v (oA (aw zs) K.after.length K.before.length)))):=by
 obtain⟨v0,v1,v3,v4,v5,v6,v7,vb,fa,fc,hv,rfl,_⟩:=id hK
 refine yG au [] [] a8 fun fr=>zD 2<|jn fun b2=>jd 6 [0]<|ak1 (vs:=[.agg ⟨[v0,v1,.slice fa 0 fc,v3,v4,v5,v6,v7,zI K.gone,zI K.new,zI K.af,vb]⟩]) [] (fun _ _ h=>h) (V9 hK hV hR hB) ?_
 rintro _ aB Y15 bW ⟨f15,zs,v15,e15,rfl,Bo,hz,aeR,he⟩
 have Ir:∀x∈zs,(-4≤x.gone∧x.gone≤4)∧(-4≤x.new∧x.new≤4)∧(0≤x.af∧x.af≤4):=fun x hx=>by obtain⟨i,r,p,_,_,rfl,_⟩:=eR (hz.mem_iff.1 hx);exact kI hV r i p
 have S1:zs.length≤1250:=by rw[hz.length_eq];exact lj hV _ _ hR
 have hpr:∀x∈zs,∀q,0≤pI x q∧pI x q≤4:=fun x hx=>by obtain⟨i,r,p,_,hp,rfl,_⟩:=eR (hz.mem_iff.1 hx);exact xa ((gp hV _).2 p hp)
 obtain⟨d0,d1,d2,d3,d4,d5,d6,d7,d8,d9,dh,hf,rh,oF,hr,Ci,GD,Ix,bS⟩:=id Bo
 obtain⟨kB,Ia,H8,jR,rfl,H9,DT,DR⟩:=Ci
 obtain⟨kD,Ie,Ib,jT,rfl,Ic,DV,DU⟩:=GD
 have Av:=hV.before.1
 have Dg:=hV.after.1
 refine zD 7<|jf [0] Y15 (fun ro4 n6 PO=>?_)
 have TH:=aeR.lR PO
 obtain⟨mJ,BN,BL,lH,rfl,BM,yt,yq⟩:=TH
 refine zD 7<|js 20 (!decide (e15=0)) (fun h5=>?_) (fun h5=>?_)
 ·
  replace h5:=of_decide_eq_false (by simpa using h5)
  have oY:zs=[]∧e15=9:=by rcases he with h| ⟨_,h⟩;exact h;omega
  refine zD 8<|HG qC.a.a (.tuple ⟨[zS,zI e15]⟩) [1] [] (bW.trans n6) ⟨zs,_,_,hz,rfl,.inl ⟨oY.1,rfl,oY.2,rfl⟩⟩
 replace h5:=of_decide_eq_true (by simpa using h5)
 have oY:zs≠[]∧e15=0:=by rcases he with ⟨_,h⟩|h;omega;exact h
 refine zD 9<|jc (vs:=[.slice mJ zs.length lH]) [] (hCt (show bE _ _ _ _ _ from ⟨mJ,BN,BL,lH,rfl,BM,yt,yq⟩) (by omega) hpr) ?_
 rintro _ _ ⟨rfl,rfl⟩
 refine jg 0 []<|jn fun lP=>jd 9 [0]<|jl (b:=f15) (off:=0) (m:=13) (vs:=[d0,d1,d2,d3,d4,d5,.slice kB K.before.length jR,.slice kD K.after.length jT,zI K.gone,zI K.new,zI K.af,d8,d9]) 6 ⟨_,_,_,.inl (n6 _ _ hf),rfl⟩<|zD 4<|pE<|pE<|dW [1,1,1,1,1,0,1,0,0] [] (fun(zz:Nat×Value×Cells×(List Value)×Cells)=>[(1,.func (.func 64) ⟨[]⟩ ⟨[]⟩),(4,zS),(5,zI 0),(6,zP f15),(7,.slice mJ zs.length lH),(9,zz.2.1),(10,zP lP),(29,zI (K.before.length:Int)),(30,zI (zz.1:Int))]) (fun(zz:Nat×Value×Cells×(List Value)×Cells)=>[.l zz.2.2.1,.l zz.2.2.2.2,.b lP (.cells ⟨[zI ((aw zs).c 0 0),zI ((aw zs).c 0 1),zI ((aw zs).c 0 2),zI ((aw zs).c 0 3),zI ((aw zs).c 1 0),zI ((aw zs).c 1 1),zI ((aw zs).c 1 2),zI ((aw zs).c 1 3),zI ((aw zs).c 2 0),zI ((aw zs).c 2 1),zI ((aw zs).c 2 2),zI ((aw zs).c 2 3),zI ((aw zs).c 3 0),zI ((aw zs).c 3 1),zI ((aw zs).c 3 2),zI ((aw zs).c 3 3)]⟩ 123 (0,0)),.b b2 (.cells ⟨[v0,v1,.slice fa 0 fc,v3,v4,v5,v6,v7,zI K.gone,zI K.new,zI K.af,vb]⟩ 40 (0,0)),.l fr]) (fun(zz:Nat×Value×Cells×(List Value)×Cells)=>(zz.1≤K.before.length∧zz.2.2.2.1.length=(oA (aw zs) K.after.length zz.1).length)∧aA zz.2.1 1 22 ir zz.2.2.2.1 zz.2.2.1∧∀aI,Knows aI zz.2.2.2.2→dj (fun w l=>bE aI w 1 cv l) zz.2.2.2.1 (oA (aw zs) K.after.length zz.1)) (fun(zz:Nat×Value×Cells×(List Value)×Cells)=>K.before.length-zz.1) (⟨0,zS,[],[],[]⟩) ⟨⟨by dsimp only;omega,rfl⟩,aA.nil _ _ _,fun _ _=> .nil⟩ [1,0,2,3,4] ?_
 rintro⟨i,vO,LO,es,Z⟩ hI K1 bK rest
 dsimp only at hI
 have hil:=BR (aw zs) (w:=K.after.length) (by omega) i
 refine zD 5<|zJ 31 ((i:Int) <(K.before.length:Int)) (fun h6=>?_) fun h6=>?_
 ·
  refine zD 15<|jl (b:=f15) (off:=0) (m:=13) (vs:=[d0,d1,d2,d3,d4,d5,.slice kB K.before.length jR,.slice kD K.after.length jT,zI K.gone,zI K.new,zI K.af,d8,d9]) 7 ⟨_,_,_,.inl (n6 _ _ hf),rfl⟩<|zD 4<|dW [1,1,1,1,1,0,1,0,0,1,1,0,0,1,1,0,0] [K1] (fun(zz:Nat×Value×Cells×(List Value)×Cells)=>[(1,.func (.func 64) ⟨[]⟩ ⟨[]⟩),(4,zS),(5,zI 0),(6,zP f15),(7,.slice mJ zs.length lH),(9,zz.2.1),(10,zP lP),(11,zI (i:Int)),(29,zI (K.before.length:Int)),(30,zI (i:Int)),(38,zI (K.after.length:Int)),(39,zI (zz.1:Int))]) (fun(zz:Nat×Value×Cells×(List Value)×Cells)=>[.l zz.2.2.1,.l zz.2.2.2.2,.b lP (.cells ⟨[zI ((aw zs).c 0 0),zI ((aw zs).c 0 1),zI ((aw zs).c 0 2),zI ((aw zs).c 0 3),zI ((aw zs).c 1 0),zI ((aw zs).c 1 1),zI ((aw zs).c 1 2),zI ((aw zs).c 1 3),zI ((aw zs).c 2 0),zI ((aw zs).c 2 1),zI ((aw zs).c 2 2),zI ((aw zs).c 2 3),zI ((aw zs).c 3 0),zI ((aw zs).c 3 1),zI ((aw zs).c 3 2),zI ((aw zs).c 3 3)]⟩ 123 (0,0)),.b b2 (.cells ⟨[v0,v1,.slice fa 0 fc,v3,v4,v5,v6,v7,zI K.gone,zI K.new,zI K.af,vb]⟩ 40 (0,0)),.l fr]) (fun(zz:Nat×Value×Cells×(List Value)×Cells)=>(zz.1≤K.after.length∧zz.2.2.2.1.length=((oA (aw zs) K.after.length i)++(mM (aw zs) i zz.1)).length)∧aA zz.2.1 1 22 ir zz.2.2.2.1 zz.2.2.1∧∀aI,Knows aI zz.2.2.2.2→dj (fun w l=>bE aI w 1 cv l) zz.2.2.2.1 ((oA (aw zs) K.after.length i)++(mM (aw zs) i zz.1))) (fun(zz:Nat×Value×Cells×(List Value)×Cells)=>K.after.length-zz.1) (⟨0,vO,LO,es,Z⟩) ⟨⟨by dsimp only;omega,by simpa [mM] using hI.1.2⟩,hI.2.1,by simpa [mM] using hI.2.2⟩ [0,1,2,3,4] ?_
  rintro⟨j,vO,LO,es,Z⟩ hJ K2 lg rest
  dsimp only at hJ
  have hjl:=BQ (aw zs) i j
  have WC:=hJ.1.2
  rw[List.length_append] at WC
  refine zD 5<|zJ 40 ((j:Int) <(K.after.length:Int)) (fun h7=>?_) fun h7=>?_
  ·
   refine zD 10 ?_
   have iM:=Cz zs i j
   refine zD 4<|Gc (b:=lP) (off:=0) (len:=4) (sz:=4) (i:Int) (by omega)<|Gc (b:=lP) (off:=0+(i:Int).toNat*4) (len:=4) (sz:=1) (j:Int) (by omega)<|oQ (b:=lP) (off:=0+(i:Int).toNat*4+(j:Int).toNat*1) (m:=1) (vs:=[zI ((aw zs).c i j)]) 0 [2] [(lP,.cells ⟨[zI ((aw zs).c 0 0),zI ((aw zs).c 0 1),zI ((aw zs).c 0 2),zI ((aw zs).c 0 3),zI ((aw zs).c 1 0),zI ((aw zs).c 1 1),zI ((aw zs).c 1 2),zI ((aw zs).c 1 3),zI ((aw zs).c 2 0),zI ((aw zs).c 2 1),zI ((aw zs).c 2 2),zI ((aw zs).c 2 3),zI ((aw zs).c 3 0),zI ((aw zs).c 3 1),zI ((aw zs).c 3 2),zI ((aw zs).c 3 3)]⟩ 123 (0,0))] (fun s _ hZ=>oy (hZ _ (.head _)) (Ag (m:=aw zs) (by omega) (by omega)))<|zD 2<|jp (vs:=[zI ((aw zs).c i j),zI (zs.length:Int)]) [] [] (fun aB hs hZ=>arz)<|zD 1<|js 50 (decide (((aw zs).c i j)>0)) (fun h8=>?_) (fun h8=>?_)
   ·
    refine zD 5<|jn fun QS=>jn fun b55=>kL (sz:=1) (ps:=es) (qs:=[(.slice (some ⟨QS,0,none⟩) 2 2:Value)]) (enc:=ir) (w:= .slice (some ⟨b55,0,none⟩) 1 1) [2] [0] [(b55,.cells ⟨([(.slice (some ⟨QS,0,none⟩) 2 2:Value)].map ir).flatten⟩ 22 (0,0))] (hJ.2.1) (fun s _ hZ=>cb [(.slice (some ⟨QS,0,none⟩) 2 2:Value)] (hZ _ (.head _)) (by intro p hp;rfl)) (by intro p hp;rw[List.mem_singleton] at hp;subst hp;exact ar rfl) (by simp only[List.length_cons,List.length_nil];omega) (fun v56 L56 qm=>?_)
    obtain⟨NG,NC,Tw⟩:=qm.form
    subst Tw
    refine zD 3<|ja ((j:Int)+1) (by omega)<|zD 2<|Nl lg (⟨j+1,(.slice NG ((es++[(.slice (some ⟨QS,0,none⟩) 2 2:Value)])).length NC),L56,(es++[(.slice (some ⟨QS,0,none⟩) 2 2:Value)]),Z++[(QS,.cells ⟨[zI (i:Int),zI (j:Int)]⟩ 3 (0,0))]⟩) ⟨⟨by dsimp only;omega,by dsimp only;rw[VC (of_decide_eq_true (by assumption)),←List.append_assoc];simp only[List.length_append,List.length_cons,List.length_nil] at*;omega⟩,qm,fun aI hk=>by dsimp only;rw[VC (of_decide_eq_true (by assumption)),←List.append_assoc];exact(hJ.2.2 aI hk.left).snoc (bQ (enc:=cv) (T:=3) [(i:Int),(j:Int)] (hk.right _ (.head _)) (fun _ _=>rfl))⟩ (by dsimp only;omega) [[0],[3,2],[4],[5],[6]] (Sub.refl _)
   refine zD 3<|ja ((j:Int)+1) (by omega)<|zD 2<|bO lg (⟨j+1,vO,LO,es,Z⟩) ⟨⟨by dsimp only;omega,by dsimp only;rw[VD (of_decide_eq_false (by assumption))];exact hJ.1.2⟩,hJ.2.1,by dsimp only;rw[VD (of_decide_eq_false (by assumption))];exact hJ.2.2⟩ (by dsimp only;omega) [0,1,2,3,4] (Sub.refl _)
  refine zD 3<|ja ((i:Int)+1) (by omega)<|zD 2<|bO bK (⟨i+1,vO,LO,es,Z⟩) ⟨⟨by dsimp only;omega,by have:=hJ.1.2;rw[show j=K.after.length by omega] at this;exact this⟩,hJ.2.1,by have:=hJ.2.2;rw[show j=K.after.length by omega] at this;exact this⟩ (by dsimp only;omega) [0,1,2,3,4] (Sub.refl _)
 refine zD 9<|aAe qC.a.a (.tuple ⟨[vO,zI 0]⟩) [0,1,4] LO Z (bW.trans n6) ⟨zs,_,_,hz,rfl,.inr ⟨oY.1,rfl,fun aI hk=>⟨es,hI.2.1.lR hk.left,by have:=hI.2.2 aI hk.right;rwa[show i=K.before.length by omega] at this⟩⟩⟩
theorem akE{rows:List bH}{ro:Nat→Option Obj}(hK:gk ro l K)(hV:fy K)(hR:rows.length≤2)(hB:gZ ro l K rows)(hCt:qK):Bs zT 21 [.agg ⟨l⟩] ro [] (fun r Y=>∃zs v e,zs.Perm (dc K (bF K) (cP K.gone K.new K.af) rows)∧r= .tuple ⟨[v,zI e]⟩∧((zs=[]∧v= zS∧e=9∧Y=[])∨(zs≠[]∧e=0∧∀aI,Knows aI Y→LL aI v (oA (aw zs) K.after.length K.before.length)))):=by
 obtain⟨v0,v1,v3,v4,v5,v6,v7,vb,fa,fc,hv,rfl,_⟩:=id hK
 refine yG au [] [] a8 fun fr=>zD 2<|jn fun b1=>jd 6 [0]<|Gd (vs:=[.agg ⟨[v0,v1,.slice fa 0 fc,v3,v4,v5,v6,v7,zI K.gone,zI K.new,zI K.af,vb]⟩,.func (.func 64) ⟨[]⟩ ⟨[]⟩]) [] (fun _ _ h=>h) (adI hK hV hR hB hCt) ?_
 rintro _ Y5 ⟨zs,v5,e5,hz,rfl,hcs⟩
 refine zD 6<|HG qC (.tuple ⟨[v5,zI e5]⟩) [0,2] Y5 (Sub.refl _) ⟨zs,v5,e5,hz,rfl,hcs⟩
theorem GV{p:Int→Bool}:∀(l:List Int) (k:Nat),bG p l k≥0↔∃x∈l,p x=true
 | [],k=>by simp[bG]
 |x::l,k=>by
  have ih:=GV (p:=p) l (k+1)
  simp only[bG,List.mem_cons,exists_eq_or_imp]
  cases h:p x
  ·simp only[cond_false,Bool.false_eq_true,false_or];exact ih
  simp only[cond_true,true_or,iff_true];omega
theorem U5(p:Nat→Int){a:Nat}(ha:a≤4)(v:Int):v∈(pL p).take a↔∃c,c <a∧p c=v:=by
 have h:a=0∨a=1∨a=2∨a=3∨a=4:=by omega
 constructor
 ·intro hv
  rcases h with rfl|rfl|rfl|rfl|rfl<;>simp[pL] at hv
  ·exact⟨0,by omega,hv.symm⟩
  ·rcases hv with h|h;exact⟨0,by omega,h.symm⟩;exact⟨1,by omega,h.symm⟩
  ·rcases hv with h|h|h;exact⟨0,by omega,h.symm⟩;exact⟨1,by omega,h.symm⟩;exact⟨2,by omega,h.symm⟩
  rcases hv with h|h|h|h;exact⟨0,by omega,h.symm⟩;exact⟨1,by omega,h.symm⟩;exact⟨2,by omega,h.symm⟩;exact⟨3,by omega,h.symm⟩
 rintro⟨c,hc,rfl⟩
 have hc4:c=0∨c=1∨c=2∨c=3:=by omega
 rcases h with rfl|rfl|rfl|rfl|rfl<;>rcases hc4 with rfl|rfl|rfl|rfl<;>first|omega|simp[pL]
theorem P3{a:Nat}{v:Int}(ha:a≤4):qu p a v=true↔∃c,c <a∧p c=v:=by
 simp only[qu,decide_eq_true_eq]
 rw[GV]
 constructor
 ·rintro⟨x,hx,h⟩
  obtain⟨c,hc,e⟩:=(U5 p ha x).1 hx
  exact⟨c,hc,by rw[e];exact(of_decide_eq_true h).symm⟩
 rintro⟨c,hc,e⟩
 exact⟨v,(U5 p ha v).2 ⟨c,hc,e⟩,decide_eq_true rfl⟩
theorem sI{F:Nat→Nat→Bool}{R:(Nat→Int)→Bool}:∀(n a:Nat) (p q:Nat→Int),a+n≤4→(q∈gA F R na n a p↔(∀c,c <a∨a+n≤c→q c=p c)∧(∀c,a≤c→c <a+n→q c=p c∨∃b,b <na∧F c b=true∧q c=(b:Int)+1∧∀d,d <c→q d≠(b:Int)+1)∧R q=true)
 |0,a,p,q,_=>by
  simp only[gA,Nat.add_zero]
  constructor
  ·intro h
   cases hr:R p
   ·rw[hr] at h;simp at h
   rw[hr] at h;simp at h;subst h;exact⟨fun _ _=>rfl,fun c h1 h2=>by omega,hr⟩
  rintro⟨h1,_,h3⟩
  have e:q=p:=funext fun c=>h1 c (by omega)
  subst e
  rw[h3];simp
 |n+1,a,p,q,han=>by
  simp only[gA,List.mem_append,List.mem_flatMap,List.mem_range]
  constructor
  ·rintro(h| ⟨b,hb,h⟩)
   ·obtain⟨h1,h2,h3⟩:=(sI n (a+1) p q (by omega)).1 h
    refine⟨fun c hc=>h1 c (by omega),fun c hc1 Zk=>?_,h3⟩
    by_cases e:c=a
    ·exact .inl (h1 c (by omega))
    exact h2 c (by omega) (by omega)
   cases hx: !F a b||qu p a ((b:Int)+1)
   ·rw[hx] at h
    simp only[cond_false] at h
    obtain⟨h1,h2,h3⟩:=(sI n (a+1) _ q (by omega)).1 h
    simp only[Bool.or_eq_false_iff,Bool.not_eq_false'] at hx
    have hp:∀c,c≠a→iy p a ((b:Int)+1) c=p c:=fun c hc=>by simp[iy,hc]
    refine⟨fun c hc=>by rw[h1 c (by omega),hp c (by omega)],fun c hc1 Zk=>?_,h3⟩
    by_cases e:c=a
    ·subst e
     have hq:q c=(b:Int)+1:=by rw[h1 c (by omega)];simp[iy]
     refine .inr ⟨b,hb,hx.1,hq,fun d hd hqd=>?_⟩
     have:qu p c ((b:Int)+1)=true:=(P3 (by omega)).2 ⟨d,hd,by rw[←hqd,h1 d (by omega),hp d (by omega)]⟩
     rw[hx.2] at this;cases this
    rcases h2 c (by omega) (by omega) with h|h
    ·exact .inl (by rw[h,hp c e])
    exact .inr h
   rw[hx] at h;simp at h
  rintro⟨h1,h2,h3⟩
  rcases h2 a (Nat.le_refl _) (by omega) with he| ⟨b,hb,hF,hq,hd⟩
  ·left
   exact(sI n (a+1) p q (by omega)).2 ⟨fun c hc=>by
    by_cases e:c=a
    ·rw[e];exact he
    exact h1 c (by omega),fun c hc1 Zk=>h2 c (by omega) (by omega),h3⟩
  right
  refine⟨b,hb,?_⟩
  have hx:(!F a b||qu p a ((b:Int)+1))=false:=by
   cases hh:qu p a ((b:Int)+1)
   ·simp[hF]
   obtain⟨c,hc,e⟩:=(P3 (by omega)).1 hh
   exact absurd (by rw[h1 c (by omega),e]) (hd c hc)
  rw[hx]
  simp only[cond_false]
  refine(sI n (a+1) _ q (by omega)).2 ⟨fun c hc=>?_,fun c hc1 Zk=>?_,h3⟩
  ·by_cases e:c=a
   ·rw[e,hq];simp[iy]
   rw[h1 c (by omega)];simp[iy,e]
  have:iy p a ((b:Int)+1) c=p c:=by simp[iy,show c≠a by omega]
  rw[this]
  exact h2 c (by omega) (by omega)
theorem B0(h:K.facts.length≤4)(hb:K.before.length≤4){q:Nat→Int}:q∈bp K (bF K)↔(∀c,q c=0∨(c <K.before.length∧∃b,b <K.after.length∧AJ K c b=true∧q c=(b:Int)+1))∧(∀c d,d <c→q c=q d→q c=0)∧p5 q K.facts=true:=by
 rw[bp,oG h,sI _ _ _ _ (by omega)]
 constructor
 ·rintro⟨h1,h2,h3⟩
  have key:∀c,q c=0∨(c <K.before.length∧∃b,b <K.after.length∧AJ K c b=true∧q c=(b:Int)+1∧∀d,d <c→q d≠(b:Int)+1):=fun c=>by
   by_cases hc:c <K.before.length
   ·rcases h2 c (Nat.zero_le _) (by omega) with e| ⟨b,h⟩
    ·exact .inl e
    exact .inr ⟨hc,b,h⟩
   exact .inl (h1 c (.inr (by omega)))
  refine⟨fun c=>?_,fun c d hd e=>?_,h3⟩
  ·rcases key c with e| ⟨hc,b,hb1,gh,hb3,_⟩
   ·exact .inl e
   exact .inr ⟨hc,b,hb1,gh,hb3⟩
  rcases key c with e2| ⟨hc,b,_,_,hq,dR⟩
  ·exact e2
  exact absurd (by rw[←e,hq]) (dR d hd)
 rintro⟨h1,h2,h3⟩
 refine⟨fun c hc=>?_,fun c _ hc=>?_,h3⟩
 ·rcases h1 c with e| ⟨Zk,_⟩
  ·exact e
  omega
 rcases h1 c with e| ⟨_,b,hb1,gh,hq⟩
 ·exact .inl e
 refine .inr ⟨b,hb1,gh,hq,fun d hd e=>?_⟩
 have:=h2 c d hd (by rw[hq,e])
 omega
def fB(zs:List ai)(a:Nat):Nat→List Int
 |0=>[]
 |k+1=>fB zs a k++(bif zs.any (fun x=>decide (pI x a=(k:Int))) then [(k:Int)-1] else [])
def yI(x:ai)(v:Int):Int:=bG (fun y=>decide (v=y)) [x.w0,x.w1,x.w2,x.w3] 0
def gJ(zs:List ai)(b:Nat):Nat→List Int
 |0=>[]
 |k+1=>gJ zs b k++(bif zs.any (fun x=>decide (yI x ((b:Int)+1)=(k:Int)-1)) then [(k:Int)-1] else [])
theorem GY{zs:List ai}{a:Nat}{v:Int}:∀ {n:Nat},v∈fB zs a n↔∃k:Nat,k <n∧v=(k:Int)-1∧∃x∈zs,pI x a=(k:Int)
 |0=>by simp[fB]
 |n+1=>by
  rw[fB,List.mem_append,GY (n:=n)]
  constructor
  ·rintro(⟨k,h1,h2⟩|h)
   ·exact⟨k,by omega,h2⟩
   cases hx:zs.any (fun x=>decide (pI x a=(n:Int)))
   ·rw[hx] at h;simp at h
   rw[hx] at h;simp at h
   obtain⟨x,h1,h2⟩:=List.any_eq_true.1 hx
   exact⟨n,by omega,h,x,h1,of_decide_eq_true h2⟩
  rintro⟨k,h1,h2,x,hx,h3⟩
  by_cases e:k=n
  ·subst e
   right
   rw[show zs.any (fun x=>decide (pI x a=(k:Int)))=true from List.any_eq_true.2 ⟨x,hx,decide_eq_true h3⟩]
   simp[h2]
  exact .inl ⟨k,by omega,h2,x,hx,h3⟩
theorem Ad{zs:List ai}{v:Int}:∀ {n:Nat},v∈gJ zs b n↔∃k:Nat,k <n∧v=(k:Int)-1∧∃x∈zs,yI x ((b:Int)+1)=(k:Int)-1
 |0=>by simp[gJ]
 |n+1=>by
  rw[gJ,List.mem_append,Ad (n:=n)]
  constructor
  ·rintro(⟨k,h1,h2⟩|h)
   ·exact⟨k,by omega,h2⟩
   cases hx:zs.any (fun x=>decide (yI x ((b:Int)+1)=(n:Int)-1))
   ·rw[hx] at h;simp at h
   rw[hx] at h;simp at h
   obtain⟨x,h1,h2⟩:=List.any_eq_true.1 hx
   exact⟨n,by omega,h,x,h1,of_decide_eq_true h2⟩
  rintro⟨k,h1,h2,x,hx,h3⟩
  by_cases e:k=n
  ·subst e
   right
   rw[show zs.any (fun x=>decide (yI x ((b:Int)+1)=(k:Int)-1))=true from List.any_eq_true.2 ⟨x,hx,decide_eq_true h3⟩]
   simp[h2]
  exact .inl ⟨k,by omega,h2,x,hx,h3⟩
theorem AK(zs:List ai)(a:Nat):∀n,(fB zs a n).length≤n
 |0=>Nat.le_refl _
 |n+1=>by
  have:=AK zs a n
  rw[fB,List.length_append]
  cases zs.any (fun x=>decide (pI x a=(n:Int)))<;>simp<;>omega
theorem FL(zs:List ai)(b:Nat):∀n,(gJ zs b n).length≤n
 |0=>Nat.le_refl _
 |n+1=>by
  have:=FL zs b n
  rw[gJ,List.length_append]
  cases zs.any (fun x=>decide (yI x ((b:Int)+1)=(n:Int)-1))<;>simp<;>omega
theorem adU{l:List Int}{v:Int}:0≤bG (fun y=>decide (y=v)) l 0↔v∈l:=by
 have:=GV (p:=fun y=>decide (y=v)) l 0
 simp only[ge_iff_le] at this
 rw[this]
 constructor
 ·rintro⟨x,h1,h2⟩;rwa[of_decide_eq_true h2] at h1
 exact fun h=>⟨v,h,decide_eq_true rfl⟩
def ah0(x:ai):Prop:=∀c d,d <c→c <4→pI x c=pI x d→pI x c=0
theorem imp_or{a b:Prop}[Decidable a](h:a→b):¬a∨b:=Decidable.byCases (fun ha=> .inr (h ha)) .inl
theorem Ma{x:ai}(h:ah0 x){v:Int}(hv:v≠0)(a:Nat)(ha:a <4):yI x v=(a:Int)↔pI x a=v:=by
 have HS:=imp_or (h 1 0 (by omega) (by omega));have Zw:=imp_or (h 2 0 (by omega) (by omega));have h21:=imp_or (h 2 1 (by omega) (by omega))
 have Zt:=imp_or (h 3 0 (by omega) (by omega));have h31:=imp_or (h 3 1 (by omega) (by omega));have h32:=imp_or (h 3 2 (by omega) (by omega))
 simp only[pI] at HS Zw h21 Zt h31 h32
 simp only[yI,bG]
 by_cases e0:v=x.w0
 ·simp only[decide_eq_true e0,cond_true]
  rcases Ai ha with rfl|rfl|rfl|rfl<;>simp only[pI]<;>constructor<;>intro h<;>first|trivial|omega
 simp only[decide_eq_false e0,cond_false]
 by_cases e1:v=x.w1
 ·simp only[decide_eq_true e1,cond_true]
  rcases Ai ha with rfl|rfl|rfl|rfl<;>simp only[pI]<;>constructor<;>intro h<;>first|trivial|omega
 simp only[decide_eq_false e1,cond_false]
 by_cases e2:v=x.w2
 ·simp only[decide_eq_true e2,cond_true]
  rcases Ai ha with rfl|rfl|rfl|rfl<;>simp only[pI]<;>constructor<;>intro h<;>first|trivial|omega
 simp only[decide_eq_false e2,cond_false]
 by_cases e3:v=x.w3
 ·simp only[decide_eq_true e3,cond_true]
  rcases Ai ha with rfl|rfl|rfl|rfl<;>simp only[pI]<;>constructor<;>intro h<;>first|trivial|omega
 simp only[decide_eq_false e3,cond_false]
 rcases Ai ha with rfl|rfl|rfl|rfl<;>simp only[pI]<;>constructor<;>intro h<;>first|trivial|omega
theorem XJ{keep:ai→Bool}{rows:List bH}(h:K.facts.length≤4)(hb:K.before.length≤4):∀x∈dc K (bF K) keep rows,ah0 x:=fun x hx c d hd hc=>by
 obtain⟨i,r,q,_,hq,rfl,_⟩:=eR hx
 rw[tK hc,tK (by omega)]
 exact(B0 h hb).1 hq|>.2.1 c d hd
theorem IS{keep:ai→Bool}{rows:List bH}(h:K.facts.length≤4)(hb:K.before.length≤4):∀x∈dc K (bF K) keep rows,∀a <4,0≤pI x a∧pI x a≤K.after.length:=fun x hx a ha=>by
 obtain⟨i,r,q,_,hq,rfl,_⟩:=eR hx
 rw[tK ha]
 rcases((B0 h hb).1 hq).1 a with e| ⟨_,b,hb,_,e⟩<;>omega
theorem Xb{zs:List ai}:(aw zs).c i j>0↔∃x∈zs,pI x i=(j:Int)+1:=by
 simp only[aw]
 constructor
 ·intro h
  obtain⟨x,hx⟩:=List.length_pos_iff_exists_mem.1 (by omega:0 <(zs.filter fun x=>decide (pI x i=(j:Int)+1)).length)
  have:=List.mem_filter.1 hx
  exact⟨x,this.1,of_decide_eq_true this.2⟩
 rintro⟨x,hx,e⟩
 have hm:x∈zs.filter fun x=>decide (pI x i=(j:Int)+1):=List.mem_filter.2 ⟨hx,decide_eq_true e⟩
 have:=List.length_pos_iff_exists_mem.2 ⟨x,hm⟩
 omega
theorem ams{zs:List ai}:(aw zs).c i j=zs.length↔∀x∈zs,pI x i=(j:Int)+1:=by
 simp only[aw]
 constructor
 ·intro h x hx
  have:=(List.filter_eq_self (l:=zs)).1 (List.filter_sublist.eq_of_length (Int.ofNat_inj.1 h)) x hx
  exact of_decide_eq_true this
 intro h
 rw[List.filter_eq_self.2 fun x hx=>decide_eq_true (h x hx)]
theorem ZF{zs:List ai}{a:Nat}(hb:b <na):(b:Int)∈fB zs a (na+1)↔(aw zs).c a b>0:=by
 rw[GY,Xb]
 constructor
 ·rintro⟨k,_,h2,x,hx,e⟩;exact⟨x,hx,by omega⟩
 rintro⟨x,hx,e⟩;exact⟨b+1,by omega,by omega,x,hx,by omega⟩
theorem Ys{zs:List ai}{a:Nat}(hi:∀x∈zs,ah0 x)(ha:a <nb)(Av:nb≤4):(a:Int)∈gJ zs b (nb+1)↔(aw zs).c a b>0:=by
 rw[Ad,Xb]
 constructor
 ·rintro⟨k,_,h2,x,hx,e⟩
  exact⟨x,hx,(Ma (hi x hx) (by omega) a (by omega)).1 (by omega)⟩
 rintro⟨x,hx,e⟩
 exact⟨a+1,by omega,by omega,x,hx,by rw[(Ma (hi x hx) (by omega) a (by omega)).2 e];omega⟩
theorem apS{x:ai}{a:Nat}(h:a <4):nth (cm x) (0+1+(a:Int).toNat*1)=some (zI (pI x a)):=by
 rcases Ai h with rfl|rfl|rfl|rfl<;>rfl
def uI(a:Nat)(w:Int)(x:ai):Bool:=decide (pI x a=w+1)
def xQ(b:Int)(w:Int)(x:ai):Bool:=decide (yI x (b+1)=w)
def pf(n m:Int):Int:=if n=m then 1 else if n=0 then 2 else 3
theorem GW{p:ai→Bool}:∀(l:List ai) (k:Nat),decide (bG p l k≥0)=l.any p
 | [],k=>by simp[bG]
 |x::l,k=>by
  have ih:=GW (p:=p) l (k+1)
  simp only[bG,List.any_cons]
  by_cases h:p x=true
  ·simp only[h,cond_true,Bool.true_or];exact decide_eq_true (by omega)
  have h':p x=false:=by simpa using h
  simp only[h',cond_false,Bool.false_or];exact ih
def uF(W:List (List Int))(a b:Int):Bool:=W.any fun l=>G3 l [a,b]
theorem P2{a b:Int}{l:List Int}(h:W[k]?=some l):uF (W.drop k) a b=(G3 l [a,b]||uF (W.drop (k+1)) a b):=by rw[fN h];rfl
theorem Zn{a b:Int}(h:¬k <W.length):uF (W.drop k) a b=false:=by rw[eA h];rfl
theorem akU{x:ai}{a:Nat}{w:Int}{ro:Nat→Option Obj}(g1:ro p1=some (.cells ⟨[zI (a:Int)]⟩ 3 (0,0)))(g2:ro p2=some (.cells ⟨[zI w]⟩ 3 (0,0)))(ha:a <4)(hw: -1≤w∧w≤100):de zT 47 [.agg ⟨[zI x.past,zI x.w0,zI x.w1,zI x.w2,zI x.w3,zI x.gone,zI x.new,zI x.af]⟩,zP p1,zP p2] ro (.bool (decide (pI x a=w+1))):=by
 refine bA au [] [] a8<|zD 2<|jn fun b3=>zD 4<|jl (b:=p1) (off:=0) (m:=1) (vs:=[zI (a:Int)]) 0 ⟨_,_,_,.inl g1,rfl⟩<|zD 1<|Gc (b:=b3) (off:=1) (len:=4) (sz:=1) (a:Int) (by omega)<|oQ (b:=b3) (off:=1+(a:Int).toNat*1) (m:=1) (vs:=[zI (pI x a)]) 0 [0] [(b3,.cells ⟨[zI x.past,zI x.w0,zI x.w1,zI x.w2,zI x.w3,zI x.gone,zI x.new,zI x.af]⟩ 115 (0,0))] (fun s _ hZ=>oy (hZ _ (.head _)) (apS ha))<|jl (b:=p2) (off:=0) (m:=1) (vs:=[zI w]) 0 ⟨_,_,_,.inl g2,rfl⟩<|ja (w+1) (by omega)<|zD 4<|aE q0 (.bool (decide ((pI x a)=(w+1)))) [] [] [] (Sub.refl _) ⟨_,_,rfl,rfl,rfl,rfl⟩
theorem akS{v:Value}{zs:List ai}{a:Nat}{w:Int}{ro:Nat→Option Obj}(hf:bE ro v 8 cm zs)(hn:zs.length≤100000)(g1:ro p1=some (.cells ⟨[zI (a:Int)]⟩ 3 (0,0)))(g2:ro p2=some (.cells ⟨[zI w]⟩ 3 (0,0)))(ha:a <4)(hw: -1≤w∧w≤100):de zT 89 [v,.func (.func 47) ⟨[]⟩ ⟨[zP p1,zP p2]⟩] ro (zI (bG (uI a w) zs 0)):=by
 obtain⟨jW,Bf,Be,iQ,rfl,DN,u6,u5⟩:=hf
 refine bA au [] [] a8<|zD 12<|dW [1,0,1,0,0] [] (fun(zz:Nat)=>[(0,.slice jW zs.length iQ),(1,.func (.func 47) ⟨[]⟩ ⟨[zP p1,zP p2]⟩),(7,zI (zs.length:Int)),(8,zI (zz:Int))]) (fun(zz:Nat)=>[]) (fun(zz:Nat)=>zz≤zs.length∧bG (uI a w) zs 0=bG (uI a w) (zs.drop zz) zz) (fun(zz:Nat)=>zs.length-zz) 0 ⟨by omega,rfl⟩ [] ?_
 rintro k hI K1 bK rest
 refine zD 5<|zJ 9 ((k:Int) <(zs.length:Int)) (fun h1=>?_) fun h1=>?_
 ·
  refine zD 14 ?_
  obtain⟨dZ,dw⟩:=zG zs k
  refine iK iQ 8 u6 dw<|jl 0 (u5 _ _ dw)<|jp (vs:=[.agg ⟨[zI dZ.past,zI dZ.w0,zI dZ.w1,zI dZ.w2,zI dZ.w3,zI dZ.gone,zI dZ.new,zI dZ.af]⟩,zP p1,zP p2]) [] [] (fun aB hs hZ=>(akU (x:=dZ) (hs _ _ g1) (hs _ _ g2) ha hw))<|zD 1<|js 16 (uI a w dZ) (fun h2=>?_) (fun h2=>?_)
  ·
   refine zD 7<|aE q0 (zI (k:Int)) [] [] [] (Sub.refl _) ⟨_,_,rfl,rfl,by rw[hI.2,gH dw,show uI a w dZ=true from (by assumption)];rfl,rfl⟩
  refine zD 3<|ja ((k:Int)+1) (by omega)<|zD 2<|bO bK (k+1) ⟨by omega,by rw[hI.2,gH dw,show uI a w dZ=false from (by assumption)];rfl⟩ (by omega) [] (Sub.refl _)
 refine zD 7<|aE q0 (zI (-1)) [] [] [] (Sub.refl _) ⟨_,_,rfl,rfl,by rw[hI.2,mU (by omega)],rfl⟩
theorem adN{v:Value}{zs:List ai}{a:Nat}{w:Int}{ro:Nat→Option Obj}(hf:bE ro v 8 cm zs)(hn:zs.length≤100000)(g1:ro p1=some (.cells ⟨[zI (a:Int)]⟩ 3 (0,0)))(g2:ro p2=some (.cells ⟨[zI w]⟩ 3 (0,0)))(ha:a <4)(hw: -1≤w∧w≤100):de zT 46 [v,.func (.func 47) ⟨[]⟩ ⟨[zP p1,zP p2]⟩] ro (.bool (decide (bG (uI a w) zs 0≥0))):=by
 obtain⟨jW,Bf,Be,iQ,rfl,DN,u6,u5⟩:=hf
 refine bA au [] [] a8<|zD 8<|jp (vs:=[.slice jW zs.length iQ,.func (.func 47) ⟨[]⟩ ⟨[zP p1,zP p2]⟩]) [] [] (fun aB hs hZ=>akS ((show bE _ _ _ _ _ from ⟨jW,Bf,Be,iQ,rfl,DN,u6,u5⟩).up hs) hn (hs _ _ g1) (hs _ _ g2) ha hw)<|zD 4<|aE q0 (.bool (decide ((bG (uI a w) zs 0)≥0))) [] [] [] (Sub.refl _) ⟨_,_,rfl,rfl,rfl,rfl⟩
theorem az0{m:Int}{ro:Nat→Option Obj}:de zT 53 [zI n,zI m] ro (zI (pf n m)):=by
 refine bA au [] [] a8<|zD 16<|zJ 6 (n=m) (fun h1=>?_) fun h1=>?_
 ·
  refine zD 6<|aE q0 (zI 1) [] [] [] (Sub.refl _) ⟨_,_,rfl,rfl,by rw[pf,if_pos (by omega)],rfl⟩
 refine zD 6<|zJ 9 (n=0) (fun h2=>?_) fun h2=>?_
 ·
  refine zD 6<|aE q0 (zI 2) [] [] [] (Sub.refl _) ⟨_,_,rfl,rfl,by rw[pf,if_neg (by omega),if_pos (by omega)],rfl⟩
 refine zD 7<|aE q0 (zI 3) [] [] [] (Sub.refl _) ⟨_,_,rfl,rfl,by rw[pf,if_neg (by omega),if_neg (by omega)],rfl⟩
theorem UW{v:Value}{ws:List Value}{a b:Int}{ro:Nat→Option Obj}(hv:bE ro v 1 ir ws)(ha:dj (fun w l=>bE ro w 1 cv l) ws W)(hx:W.length≤1000)(hW:∀l∈W,l.length≤1000):de zT 25 [v,zI a,zI b] ro (.bool (uF W a b)):=by
 obtain⟨KZ,qvb,qvo,Ba,rfl,qvk,Oi,Oh⟩:=hv
 have hla:=ha.len
 refine bA au [] [] a8<|zD 10<|dW [1,0,1,0,0] [] (fun(zz:Nat)=>[(0,.slice KZ ws.length Ba),(1,zI a),(2,zI b),(7,zI (zz:Int))]) (fun(zz:Nat)=>[]) (fun(zz:Nat)=>zz≤W.length∧uF W a b=uF (W.drop zz) a b) (fun(zz:Nat)=>W.length-zz) 0 ⟨by omega,rfl⟩ [] ?_
 rintro k hI K1 bK rest
 refine zD 8<|zJ 11 ((k:Int) <(ws.length:Int)) (fun h1=>?_) fun h1=>?_
 ·
  refine zD 8 ?_
  obtain⟨A8,mO⟩:=zG ws k
  refine iK Ba 1 Oi mO ?_
  obtain⟨l17,as6,Zx⟩:=ha.get mO
  obtain aeY:=hW _ (List.mem_of_getElem? as6)
  obtain⟨azc,aNv,aNr,azb,rfl,aNt,aNu,aNs⟩:=Zx
  refine jl 0 (Oh _ _ mO)<|zD 2<|jn fun b20=>jp (vs:=[.slice azc l17.length azb,.slice (some ⟨b20,0,none⟩) 2 2]) [0] [(b20,.cells ⟨([a,b].map cv).flatten⟩ 3 (0,0))] (fun aB hs hZ=>ag8 ((show bE _ _ _ _ _ from ⟨azc,aNv,aNr,azb,rfl,aNt,aNu,aNs⟩).up hs) (bQ [a,b] hZ.head (by intro p hp;rfl)) aeY (by simp)) ?_
  refine zD 1<|js 21 (G3 l17 [a,b]) (fun h2=>?_) (fun h2=>?_)
  ·
   refine zD 6<|aE q0 (.bool true) [] [] [] (Sub.refl _) ⟨_,_,rfl,rfl,by rw[hI.2,P2 as6];simp_all,rfl⟩
  refine zD 4<|ja ((k:Int)+1) (by omega)<|zD 2<|bO bK (k+1) ⟨by omega,by rw[hI.2,P2 as6];simp_all⟩ (by omega) [] (Sub.refl _)
 refine zD 7<|aE q0 (.bool false) [] [] [] (Sub.refl _) ⟨_,_,rfl,rfl,by rw[hI.2,Zn (by omega)],rfl⟩
theorem akm{m:fu}{a:Nat}(h:a <4):FH true (yX m) ((a:Int).toNat*4) 4=some (.agg ⟨[zI (m.c a 0),zI (m.c a 1),zI (m.c a 2),zI (m.c a 3)]⟩):=by
 rcases Ai h with rfl|rfl|rfl|rfl<;>rfl
theorem aqi{m:fu}{a:Nat}(h:b <4):FH false [zI (m.c a 0),zI (m.c a 1),zI (m.c a 2),zI (m.c a 3)] ((b:Int).toNat*1) 1=some (zI (m.c a b)):=by
 rcases Ai h with rfl|rfl|rfl|rfl<;>rfl
theorem ZE{zs:List ai}{a:Nat}{c:Bool}(h:decide (bG (uI a ((k:Int)-1)) zs 0≥0)=c):fB zs a (k+1)=fB zs a k++(bif c then [(k:Int)-1] else []):=by
 rw[GW] at h
 rw[fB,←h]
 congr 2
 refine congrArg zs.any (funext fun x=>?_)
 simp only[uI]
 exact decide_eq_decide.2 (by omega)
theorem GX{zs:List ai}{a:Nat}{w:Int}{c:Bool}(hw: -1≤w)(h:decide (bG (uI a w) zs 0≥0)=c):fB zs a (w+1+1).toNat=fB zs a (w+1).toNat++(bif c then [w] else []):=by
 obtain⟨k,rfl⟩:∃k:Nat,w=(k:Int)-1:=⟨(w+1).toNat,by omega⟩
 rw[show ((k:Int)-1+1+1).toNat=k+1 by omega,show ((k:Int)-1+1).toNat=k by omega]
 exact ZE h
theorem ary{rows:List bH}{a:Nat}{ro:Nat→Option Obj}(hK:gk ro l K)(hV:fy K)(hB:gZ ro l K rows)(Bm:a <K.before.length)(Iz:b <K.after.length):eE zT 52 [.agg ⟨l⟩,zI (a:Int),zI (b:Int)] ro [] (fun r Y=>∃f,r= .tuple ⟨[pV f,zI 0]⟩∧(∀aI,Sub ro aI→Knows aI Y→pd aI f K rows)):=by
 obtain⟨v0,v1,v3,v4,v5,v6,v7,vb,fa,fc,hv,rfl,_,_,_,_,_,hb,ha,_⟩:=id hK
 obtain⟨mI,Rc,Ra,mA,rfl,Rb,Oq,Oo⟩:=hb
 obtain⟨mB,Ov,Ot,mr,rfl,Ou,Ni,Nh⟩:=ha
 have Av:=hV.before.1
 have Dg:=hV.after.1
 refine bA au [] [] a8<|zD 2<|jn fun b3=>jd 6 [0]<|jc (vs:=[.agg ⟨[v0,v1,.slice fa 0 fc,v3,v4,v5,.slice mI K.before.length mA,.slice mB K.after.length mr,zI K.gone,zI K.new,zI K.af,vb]⟩]) [] (hB _ (Sub.refl _)) ?_
 rintro _ Y12 ⟨f12,rfl,auv⟩
 refine jd 22 [1]<|ja ((K.before.length:Int)-1) (by omega)<|jp (vs:=[zI (a:Int),zI 0,zI ((K.before.length:Int)-1)]) [] [] (fun aB hs hZ=>eB)<|zD 3<|js 19 (!(iu (a:Int) 0 ((K.before.length:Int)-1))) (fun h1=>?_) (fun h1=>?_)
 ·
  try simp only[zB] at h1
  exfalso;simp only[iu,Bool.and_eq_false_iff,decide_eq_false_iff_not] at h1;omega
 try simp only[zB] at h1
 refine jd 6 [1]<|ja ((K.after.length:Int)-1) (by omega)<|jp (vs:=[zI (b:Int),zI 0,zI ((K.after.length:Int)-1)]) [] [] (fun aB hs hZ=>eB)<|zD 3<|js 19 (!(iu (b:Int) 0 ((K.after.length:Int)-1))) (fun h2=>?_) (fun h2=>?_)
 ·
  try simp only[zB] at h2
  exfalso;simp only[iu,Bool.and_eq_false_iff,decide_eq_false_iff_not] at h2;omega
 try simp only[zB] at h2
 refine zD 9<|aE q0 (.tuple ⟨[zP f12,zI 0]⟩) [] [0] Y12 (Sub.refl _) ⟨_,_,rfl,rfl,f12,rfl,auv⟩
theorem ady{rows:List bH}{a:Nat}{ro:Nat→Option Obj}(hK:gk ro l K)(hV:fy K)(hR:rows.length≤2)(hB:gZ ro l K rows)(hCt:qK)(Bm:a <K.before.length)(Iz:b <K.after.length):Bs zT 16 [.agg ⟨l⟩,zI (a:Int),zI (b:Int)] ro [] (fun r Y=>∃zs v e,zs.Perm (dc K (bF K) (cP K.gone K.new K.af) rows)∧Y=[]∧r= .tuple ⟨[zI v,zI e]⟩∧((zs=[]∧e=9∧v=0)∨(zs≠[]∧e=0∧v=pf ((aw zs).c a b) ((zs.length:Nat):Int)))):=by
 obtain⟨v0,v1,v3,v4,v5,v6,v7,vb,fa,fc,hv,rfl,_⟩:=id hK
 have Av:=hV.before.1
 have Dg:=hV.after.1
 refine yG au [] [] a8 fun fr=>zD 2<|jn fun b3=>jd 8 [0]<|jc (vs:=[.agg ⟨[v0,v1,.slice fa 0 fc,v3,v4,v5,v6,v7,zI K.gone,zI K.new,zI K.af,vb]⟩,zI (a:Int),zI (b:Int)]) [] (ary hK hV hB Bm Iz) ?_
 rintro _ Y15 ⟨f15,rfl,aS9⟩
 refine zD 5<|jf [0] Y15 (fun yp bW iL=>?_)
 have Bo:=aS9 _ bW iL
 refine zD 12<|Gd (vs:=[zP f15]) [] (fun _ _ h=>h) (LW Bo hV hR) ?_
 rintro _ Y23 ⟨zs,v23,e23,rfl,hz,aP6,he⟩
 have Ir:∀x∈zs,(-4≤x.gone∧x.gone≤4)∧(-4≤x.new∧x.new≤4)∧(0≤x.af∧x.af≤4):=fun x hx=>by obtain⟨i,r,p,_,_,rfl,_⟩:=eR (hz.mem_iff.1 hx);exact kI hV r i p
 have S1:zs.length≤1250:=by rw[hz.length_eq];exact lj hV _ _ hR
 have hpr:∀x∈zs,∀q,0≤pI x q∧pI x q≤4:=fun x hx=>by obtain⟨i,r,p,_,hp,rfl,_⟩:=eR (hz.mem_iff.1 hx);exact xa ((gp hV _).2 p hp)
 refine zD 5<|jf [0] Y23 (fun ro6 ky Wz=>?_)
 have TH:=aP6.lR Wz
 obtain⟨mJ,BN,BL,lH,rfl,BM,yt,yq⟩:=TH
 refine zD 7<|js 27 (!decide (e23=0)) (fun h7=>?_) (fun h7=>?_)
 ·
  replace h7:=of_decide_eq_false (by simpa using h7)
  have oY:zs=[]∧e23=9:=by rcases he with h| ⟨_,h⟩;exact h;omega
  refine zD 8<|HG qC.a.a (.tuple ⟨[zI 0,zI e23]⟩) [1] [] (bW.trans ky) ⟨zs,_,_,hz,rfl,rfl,.inl ⟨oY.1,oY.2,rfl⟩⟩
 replace h7:=of_decide_eq_true (by simpa using h7)
 have oY:zs≠[]∧e23=0:=by rcases he with ⟨_,h⟩|h;omega;exact h
 refine zD 5<|jc (vs:=[.slice mJ zs.length lH]) [] (hCt (show bE _ _ _ _ _ from ⟨mJ,BN,BL,lH,rfl,BM,yt,yq⟩) (by omega) hpr) ?_
 rintro _ _ ⟨rfl,rfl⟩
 refine jg 0 []<|zD 1<|jai (l:=yX (aw zs)) (a:Int) 4 4 true (by omega) (akm (m:=aw zs) (by omega))<|zD 1<|jai (b:Int) 4 1 false (by omega) (aqi (m:=aw zs) (a:=a) (by omega))<|zD 2<|jp (vs:=[zI ((aw zs).c a b),zI (zs.length:Int)]) [] [] (fun aB hs hZ=>az0)<|zD 4<|HG qC.a.a (.tuple ⟨[zI (pf ((aw zs).c a b) (zs.length:Int)),zI 0]⟩) [1] [] (bW.trans ky) ⟨zs,_,_,hz,rfl,rfl,.inr ⟨oY.1,rfl,rfl⟩⟩
theorem az5{rows:List bH}{a:Nat}{ro:Nat→Option Obj}(hK:gk ro l K)(hV:fy K)(hR:rows.length≤2)(hB:gZ ro l K rows)(Bm:a <K.before.length):Bs zT 11 [.agg ⟨l⟩,zI (a:Int)] ro [] (fun r Y=>∃zs v e,zs.Perm (dc K (bF K) (cP K.gone K.new K.af) rows)∧r= .tuple ⟨[v,zI e]⟩∧((zs=[]∧e=9)∨(zs≠[]∧e=0∧aA v 1 3 cv (fB zs a (K.after.length+1)) Y))):=by
 obtain⟨v0,v1,v3,v4,v5,v6,v7,vb,fa,fc,hv,rfl,_,_,_,_,_,hb,ha,_⟩:=id hK
 obtain⟨mI,Rc,Ra,mA,rfl,Rb,Oq,Oo⟩:=hb
 obtain⟨mB,Ov,Ot,mr,rfl,Ou,Ni,Nh⟩:=ha
 have Av:=hV.before.1
 have Dg:=hV.after.1
 refine yG au [] [] a8 fun fr=>zD 2<|jn fun b2=>jn fun b3=>jd 6 [1]<|jc (vs:=[.agg ⟨[v0,v1,.slice fa 0 fc,v3,v4,v5,.slice mI K.before.length mA,.slice mB K.after.length mr,zI K.gone,zI K.new,zI K.af,vb]⟩]) [] (hB _ (Sub.refl _)) ?_
 rintro _ Y13 ⟨f13,rfl,auu⟩
 refine zD 5<|jf [0] Y13 (fun yp bW iL=>?_)
 have Bo:=auu _ bW iL
 refine jd 16 [0,1]<|ja ((K.before.length:Int)-1) (by omega)<|jp (vs:=[zI (a:Int),zI 0,zI ((K.before.length:Int)-1)]) [] [] (fun aB hs hZ=>eB)<|zD 3<|js 20 (!(iu (a:Int) 0 ((K.before.length:Int)-1))) (fun h4=>?_) (fun h4=>?_)
 ·
  try simp only[zB] at h4
  exfalso;simp only[iu,Bool.and_eq_false_iff,decide_eq_false_iff_not] at h4;omega
 try simp only[zB] at h4
 refine zD 5<|Gd (vs:=[zP f13]) [] (fun _ _ h=>h) (LW Bo hV hR) ?_
 rintro _ Y30 ⟨zs,v30,e30,rfl,hz,vZ,he⟩
 have Ir:∀x∈zs,(-4≤x.gone∧x.gone≤4)∧(-4≤x.new∧x.new≤4)∧(0≤x.af∧x.af≤4):=fun x hx=>by obtain⟨i,r,p,_,_,rfl,_⟩:=eR (hz.mem_iff.1 hx);exact kI hV r i p
 have S1:zs.length≤1250:=by rw[hz.length_eq];exact lj hV _ _ hR
 have hpr:∀x∈zs,∀q,0≤pI x q∧pI x q≤4:=fun x hx=>by obtain⟨i,r,p,_,hp,rfl,_⟩:=eR (hz.mem_iff.1 hx);exact xa ((gp hV _).2 p hp)
 refine zD 5<|jf [0] Y30 (fun ro7 hs5 hk6=>?_)
 have TH:=vZ.lR hk6
 obtain⟨mJ,BN,BL,lH,rfl,BM,yt,yq⟩:=TH
 refine zD 7<|js 34 (!decide (e30=0)) (fun h8=>?_) (fun h8=>?_)
 ·
  replace h8:=of_decide_eq_false (by simpa using h8)
  have oY:zs=[]∧e30=9:=by rcases he with h| ⟨_,h⟩;exact h;omega
  refine zD 8<|HG qC.a.a (.tuple ⟨[zS,zI e30]⟩) [2] [] (bW.trans hs5) ⟨zs,_,_,hz,rfl,.inl ⟨oY.1,oY.2⟩⟩
 replace h8:=of_decide_eq_true (by simpa using h8)
 have oY:zs≠[]∧e30=0:=by rcases he with ⟨_,h⟩|h;omega;exact h
 refine zD 9<|jn fun lP=>jd 3 [0]<|pE<|dW [1,1,1,1,1,1,0,1,0,0] [] (fun(zz:Int×Nat×Value×Cells)=>[(2,zP b2),(3,zP b3),(4,zS),(5,zI 0),(8,.slice mJ zs.length lH),(9,zz.2.2.1),(10,zP zz.2.1)]) (fun(zz:Int×Nat×Value×Cells)=>[.b zz.2.1 (.cells ⟨[zI zz.1]⟩ 3 (0,0)),.l zz.2.2.2,.b b3 (.cells ⟨[zI (a:Int)]⟩ 3 (0,0)),.b b2 (.cells ⟨[v0,v1,.slice fa 0 fc,v3,v4,v5,.slice mI K.before.length mA,.slice mB K.after.length mr,zI K.gone,zI K.new,zI K.af,vb]⟩ 40 (0,0)),.l fr]) (fun(zz:Int×Nat×Value×Cells)=>(-1≤zz.1∧zz.1≤K.after.length)∧aA zz.2.2.1 1 3 cv (fB zs a (zz.1+1).toNat) zz.2.2.2) (fun(zz:Int×Nat×Value×Cells)=>((K.after.length:Int)-zz.1).toNat) (⟨(-1),lP,zS,[]⟩) ⟨by dsimp only;omega,aA.nil _ _ _⟩ [1,0,2,3,4] ?_
 rintro⟨w,bx,vO,LO⟩ hI K1 bK rest
 dsimp only at hI
 have uV:=AK zs a (w+1).toNat
 refine jd 9 [0,3]<|zJ 40 (w <(K.after.length:Int)) (fun h9=>?_) fun h9=>?_
 ·
  refine zD 8<|jp (vs:=[.slice mJ zs.length lH,.func (.func 47) ⟨[]⟩ ⟨[zP b3,zP bx]⟩]) [2,0] ((b3,.cells ⟨[zI (a:Int)]⟩ 3 (0,0))::[(bx,.cells ⟨[zI w]⟩ 3 (0,0))]) (fun aB hs hZ=>adN (a:=a) ((show bE _ _ _ _ _ from ⟨mJ,BN,BL,lH,rfl,BM,yt,yq⟩).up hs) (by omega) hZ.head hZ.tail.head (by omega) (by omega))<|zD 1<|js 45 (decide (bG (uI a w) zs 0≥0)) (fun HS=>?_) (fun HS=>?_)
  ·
   refine jd 4 [0]<|jn fun b48=>kL (sz:=1) (ps:=(fB zs a (w+1).toNat)) (qs:=[w]) (enc:=cv) (w:= .slice (some ⟨b48,0,none⟩) 1 1) [2] [0] [(b48,.cells ⟨([w].map cv).flatten⟩ 3 (0,0))] (hI.2) (fun s _ hZ=>cb [w] (hZ _ (.head _)) (by intro p hp;rfl)) (fun p _=>ar rfl) (by simp only[List.length_cons,List.length_nil];omega) (fun v49 L49 qn=>?_)
   obtain⟨NH,ND,Mm⟩:=qn.form
   subst Mm
   refine jd 8 [2]<|jn fun lP=>jd 4 [0,0]<|ja (w+1) (by omega)<|jd 2 [0]<|bO bK (⟨w+1,lP,(.slice NH (((fB zs a (w+1).toNat)++[w])).length ND),L49⟩) ⟨by dsimp only;omega,by dsimp only;rw[GX hI.1.1 (by assumption)];exact qn⟩ (by dsimp only;omega) [0,1,4,5,6] (Sub.refl _)
  refine jd 8 [0]<|jn fun lP=>jd 4 [0,0]<|ja (w+1) (by omega)<|jd 2 [0]<|bO bK (⟨w+1,lP,vO,LO⟩) ⟨by dsimp only;omega,by dsimp only;rw[GX hI.1.1 (by assumption)];simpa using hI.2⟩ (by dsimp only;omega) [0,2,3,4,5] (Sub.refl _)
 refine zD 9<|HG qC.a.a (.tuple ⟨[vO,zI 0]⟩) [1,4] LO (bW.trans hs5) ⟨zs,_,_,hz,rfl,.inr ⟨oY.1,rfl,by have:=hI.2;rwa[show (w+1).toNat=K.after.length+1 by omega] at this⟩⟩
theorem Jx{zs:List ai}{w:Int}{c:Bool}(hw: -1≤w)(h:decide (bG (xQ (b:Int) w) zs 0≥0)=c):gJ zs b (w+1+1).toNat=gJ zs b (w+1).toNat++(bif c then [w] else []):=by
 obtain⟨k,rfl⟩:∃k:Nat,w=(k:Int)-1:=⟨(w+1).toNat,by omega⟩
 rw[show ((k:Int)-1+1+1).toNat=k+1 by omega,show ((k:Int)-1+1).toNat=k by omega]
 rw[GW] at h
 rw[gJ,←h]
 rfl
theorem abF{ro:Nat→Option Obj}{T:TypeId}{x:ai}(h:ro b=some (.cells ⟨cm x⟩ T (0,0))):bE ro (.slice (some ⟨b,1,none⟩) 4 4) 1 cv [x.w0,x.w1,x.w2,x.w3]:=
 ⟨some ⟨b,1,none⟩,b,1,4,rfl,Nat.le_refl _,fun _ _=>rfl,fun i p hp=>by
  have hi:i <4:=(List.getElem?_eq_some_iff.1 hp).1
  refine⟨_,_,_,.inl h,?_⟩
  rcases Ai hi with rfl|rfl|rfl|rfl<;>(simp at hp;subst hp;rfl)⟩
theorem akG{x:ai}{b w:Int}{ro:Nat→Option Obj}(g1:ro p1=some (.cells ⟨[zI b]⟩ 3 (0,0)))(g2:ro p2=some (.cells ⟨[zI w]⟩ 3 (0,0)))(ha: -1≤b∧b≤100):de zT 66 [.agg ⟨[zI x.past,zI x.w0,zI x.w1,zI x.w2,zI x.w3,zI x.gone,zI x.new,zI x.af]⟩,zP p1,zP p2] ro (.bool (decide (yI x (b+1)=w))):=by
 refine bA au [] [] a8<|zD 2<|jn fun b3=>zD 6<|jl (b:=p1) (off:=0) (m:=1) (vs:=[zI b]) 0 ⟨_,_,_,.inl g1,rfl⟩<|ja (b+1) (by omega)<|jl (b:=p2) (off:=0) (m:=1) (vs:=[zI w]) 0 ⟨_,_,_,.inl g2,rfl⟩<|jp (vs:=[(.slice (some ⟨b3,1,none⟩) 4 4),zI (b+1)]) [0] [(b3,.cells ⟨[zI x.past,zI x.w0,zI x.w1,zI x.w2,zI x.w3,zI x.gone,zI x.new,zI x.af]⟩ 115 (0,0))] (fun aB hs hZ=>adZ (abF hZ.head) (by simp))<|zD 4<|aE q0 (.bool (decide ((yI x (b+1))=w))) [] [] [] (Sub.refl _) ⟨_,_,rfl,rfl,rfl,rfl⟩
theorem akR{v:Value}{zs:List ai}{b w:Int}{ro:Nat→Option Obj}(hf:bE ro v 8 cm zs)(hn:zs.length≤100000)(g1:ro p1=some (.cells ⟨[zI b]⟩ 3 (0,0)))(g2:ro p2=some (.cells ⟨[zI w]⟩ 3 (0,0)))(ha: -1≤b∧b≤100):de zT 89 [v,.func (.func 66) ⟨[]⟩ ⟨[zP p1,zP p2]⟩] ro (zI (bG (xQ b w) zs 0)):=by
 obtain⟨jW,Bf,Be,iQ,rfl,DN,u6,u5⟩:=hf
 refine bA au [] [] a8<|zD 12<|dW [1,0,1,0,0] [] (fun(zz:Nat)=>[(0,.slice jW zs.length iQ),(1,.func (.func 66) ⟨[]⟩ ⟨[zP p1,zP p2]⟩),(7,zI (zs.length:Int)),(8,zI (zz:Int))]) (fun(zz:Nat)=>[]) (fun(zz:Nat)=>zz≤zs.length∧bG (xQ b w) zs 0=bG (xQ b w) (zs.drop zz) zz) (fun(zz:Nat)=>zs.length-zz) 0 ⟨by omega,rfl⟩ [] ?_
 rintro k hI K1 bK rest
 refine zD 5<|zJ 9 ((k:Int) <(zs.length:Int)) (fun h1=>?_) fun h1=>?_
 ·
  refine zD 14 ?_
  obtain⟨dZ,dw⟩:=zG zs k
  refine iK iQ 8 u6 dw<|jl 0 (u5 _ _ dw)<|jp (vs:=[.agg ⟨[zI dZ.past,zI dZ.w0,zI dZ.w1,zI dZ.w2,zI dZ.w3,zI dZ.gone,zI dZ.new,zI dZ.af]⟩,zP p1,zP p2]) [] [] (fun aB hs hZ=>(akG (x:=dZ) (hs _ _ g1) (hs _ _ g2) ha))<|zD 1<|js 16 (xQ b w dZ) (fun h2=>?_) (fun h2=>?_)
  ·
   refine zD 7<|aE q0 (zI (k:Int)) [] [] [] (Sub.refl _) ⟨_,_,rfl,rfl,by rw[hI.2,gH dw,show xQ b w dZ=true from (by assumption)];rfl,rfl⟩
  refine zD 3<|ja ((k:Int)+1) (by omega)<|zD 2<|bO bK (k+1) ⟨by omega,by rw[hI.2,gH dw,show xQ b w dZ=false from (by assumption)];rfl⟩ (by omega) [] (Sub.refl _)
 refine zD 7<|aE q0 (zI (-1)) [] [] [] (Sub.refl _) ⟨_,_,rfl,rfl,by rw[hI.2,mU (by omega)],rfl⟩
theorem adM{v:Value}{zs:List ai}{b w:Int}{ro:Nat→Option Obj}(hf:bE ro v 8 cm zs)(hn:zs.length≤100000)(g1:ro p1=some (.cells ⟨[zI b]⟩ 3 (0,0)))(g2:ro p2=some (.cells ⟨[zI w]⟩ 3 (0,0)))(ha: -1≤b∧b≤100):de zT 46 [v,.func (.func 66) ⟨[]⟩ ⟨[zP p1,zP p2]⟩] ro (.bool (decide (bG (xQ b w) zs 0≥0))):=by
 obtain⟨jW,Bf,Be,iQ,rfl,DN,u6,u5⟩:=hf
 refine bA au [] [] a8<|zD 8<|jp (vs:=[.slice jW zs.length iQ,.func (.func 66) ⟨[]⟩ ⟨[zP p1,zP p2]⟩]) [] [] (fun aB hs hZ=>akR ((show bE _ _ _ _ _ from ⟨jW,Bf,Be,iQ,rfl,DN,u6,u5⟩).up hs) hn (hs _ _ g1) (hs _ _ g2) ha)<|zD 4<|aE q0 (.bool (decide ((bG (xQ b w) zs 0)≥0))) [] [] [] (Sub.refl _) ⟨_,_,rfl,rfl,rfl,rfl⟩
theorem akF{rows:List bH}{ro:Nat→Option Obj}(hK:gk ro l K)(hV:fy K)(hR:rows.length≤2)(hB:gZ ro l K rows)(Iz:b <K.after.length):Bs zT 23 [.agg ⟨l⟩,zI (b:Int)] ro [] (fun r Y=>∃zs v e,zs.Perm (dc K (bF K) (cP K.gone K.new K.af) rows)∧r= .tuple ⟨[v,zI e]⟩∧((zs=[]∧e=9)∨(zs≠[]∧e=0∧aA v 1 3 cv (gJ zs b (K.before.length+1)) Y))):=by
 obtain⟨v0,v1,v3,v4,v5,v6,v7,vb,fa,fc,hv,rfl,_,_,_,_,_,hb,ha,_⟩:=id hK
 obtain⟨mI,Rc,Ra,mA,rfl,Rb,Oq,Oo⟩:=hb
 obtain⟨mB,Ov,Ot,mr,rfl,Ou,Ni,Nh⟩:=ha
 have Av:=hV.before.1
 have Dg:=hV.after.1
 refine yG au [] [] a8 fun fr=>zD 2<|jn fun b2=>jn fun b3=>jd 6 [1]<|jc (vs:=[.agg ⟨[v0,v1,.slice fa 0 fc,v3,v4,v5,.slice mI K.before.length mA,.slice mB K.after.length mr,zI K.gone,zI K.new,zI K.af,vb]⟩]) [] (hB _ (Sub.refl _)) ?_
 rintro _ Y13 ⟨f13,rfl,auu⟩
 refine zD 5<|jf [0] Y13 (fun yp bW iL=>?_)
 have Bo:=auu _ bW iL
 refine jd 16 [0,1]<|ja ((K.after.length:Int)-1) (by omega)<|jp (vs:=[zI (b:Int),zI 0,zI ((K.after.length:Int)-1)]) [] [] (fun aB hs hZ=>eB)<|zD 3<|js 20 (!(iu (b:Int) 0 ((K.after.length:Int)-1))) (fun h4=>?_) (fun h4=>?_)
 ·
  try simp only[zB] at h4
  exfalso;simp only[iu,Bool.and_eq_false_iff,decide_eq_false_iff_not] at h4;omega
 try simp only[zB] at h4
 refine zD 5<|Gd (vs:=[zP f13]) [] (fun _ _ h=>h) (LW Bo hV hR) ?_
 rintro _ Y30 ⟨zs,v30,e30,rfl,hz,vZ,he⟩
 have Ir:∀x∈zs,(-4≤x.gone∧x.gone≤4)∧(-4≤x.new∧x.new≤4)∧(0≤x.af∧x.af≤4):=fun x hx=>by obtain⟨i,r,p,_,_,rfl,_⟩:=eR (hz.mem_iff.1 hx);exact kI hV r i p
 have S1:zs.length≤1250:=by rw[hz.length_eq];exact lj hV _ _ hR
 have hpr:∀x∈zs,∀q,0≤pI x q∧pI x q≤4:=fun x hx=>by obtain⟨i,r,p,_,hp,rfl,_⟩:=eR (hz.mem_iff.1 hx);exact xa ((gp hV _).2 p hp)
 refine zD 5<|jf [0] Y30 (fun ro7 hs5 hk6=>?_)
 have TH:=vZ.lR hk6
 obtain⟨mJ,BN,BL,lH,rfl,BM,yt,yq⟩:=TH
 refine zD 7<|js 34 (!decide (e30=0)) (fun h8=>?_) (fun h8=>?_)
 ·
  replace h8:=of_decide_eq_false (by simpa using h8)
  have oY:zs=[]∧e30=9:=by rcases he with h| ⟨_,h⟩;exact h;omega
  refine zD 8<|HG qC.a.a (.tuple ⟨[zS,zI e30]⟩) [2] [] (bW.trans hs5) ⟨zs,_,_,hz,rfl,.inl ⟨oY.1,oY.2⟩⟩
 replace h8:=of_decide_eq_true (by simpa using h8)
 have oY:zs≠[]∧e30=0:=by rcases he with ⟨_,h⟩|h;omega;exact h
 refine zD 9<|jn fun lP=>jd 3 [0]<|pE<|dW [1,1,1,1,1,1,0,1,0,0] [] (fun(zz:Int×Nat×Value×Cells)=>[(2,zP b2),(3,zP b3),(4,zS),(5,zI 0),(8,.slice mJ zs.length lH),(9,zz.2.2.1),(10,zP zz.2.1)]) (fun(zz:Int×Nat×Value×Cells)=>[.b zz.2.1 (.cells ⟨[zI zz.1]⟩ 3 (0,0)),.l zz.2.2.2,.b b3 (.cells ⟨[zI (b:Int)]⟩ 3 (0,0)),.b b2 (.cells ⟨[v0,v1,.slice fa 0 fc,v3,v4,v5,.slice mI K.before.length mA,.slice mB K.after.length mr,zI K.gone,zI K.new,zI K.af,vb]⟩ 40 (0,0)),.l fr]) (fun(zz:Int×Nat×Value×Cells)=>(-1≤zz.1∧zz.1≤K.before.length)∧aA zz.2.2.1 1 3 cv (gJ zs b (zz.1+1).toNat) zz.2.2.2) (fun(zz:Int×Nat×Value×Cells)=>((K.before.length:Int)-zz.1).toNat) (⟨(-1),lP,zS,[]⟩) ⟨by dsimp only;omega,aA.nil _ _ _⟩ [1,0,2,3,4] ?_
 rintro⟨w,bx,vO,LO⟩ hI K1 bK rest
 dsimp only at hI
 have uV:=FL zs b (w+1).toNat
 refine jd 9 [0,3]<|zJ 40 (w <(K.before.length:Int)) (fun h9=>?_) fun h9=>?_
 ·
  refine zD 8<|jp (vs:=[.slice mJ zs.length lH,.func (.func 66) ⟨[]⟩ ⟨[zP b3,zP bx]⟩]) [2,0] ((b3,.cells ⟨[zI (b:Int)]⟩ 3 (0,0))::[(bx,.cells ⟨[zI w]⟩ 3 (0,0))]) (fun aB hs hZ=>adM (b:=(b:Int)) ((show bE _ _ _ _ _ from ⟨mJ,BN,BL,lH,rfl,BM,yt,yq⟩).up hs) (by omega) hZ.head hZ.tail.head (by omega))<|zD 1<|js 45 (decide (bG (xQ (b:Int) w) zs 0≥0)) (fun HS=>?_) (fun HS=>?_)
  ·
   refine jd 4 [0]<|jn fun b48=>kL (sz:=1) (ps:=(gJ zs b (w+1).toNat)) (qs:=[w]) (enc:=cv) (w:= .slice (some ⟨b48,0,none⟩) 1 1) [2] [0] [(b48,.cells ⟨([w].map cv).flatten⟩ 3 (0,0))] (hI.2) (fun s _ hZ=>cb [w] (hZ _ (.head _)) (by intro p hp;rfl)) (fun p _=>ar rfl) (by simp only[List.length_cons,List.length_nil];omega) (fun v49 L49 qn=>?_)
   obtain⟨NH,ND,Mm⟩:=qn.form
   subst Mm
   refine jd 8 [2]<|jn fun lP=>jd 4 [0,0]<|ja (w+1) (by omega)<|jd 2 [0]<|bO bK (⟨w+1,lP,(.slice NH (((gJ zs b (w+1).toNat)++[w])).length ND),L49⟩) ⟨by dsimp only;omega,by dsimp only;rw[Jx hI.1.1 (by assumption)];exact qn⟩ (by dsimp only;omega) [0,1,4,5,6] (Sub.refl _)
  refine jd 8 [0]<|jn fun lP=>jd 4 [0,0]<|ja (w+1) (by omega)<|jd 2 [0]<|bO bK (⟨w+1,lP,vO,LO⟩) ⟨by dsimp only;omega,by dsimp only;rw[Jx hI.1.1 (by assumption)];simpa using hI.2⟩ (by dsimp only;omega) [0,2,3,4,5] (Sub.refl _)
 refine zD 9<|HG qC.a.a (.tuple ⟨[vO,zI 0]⟩) [1,4] LO (bW.trans hs5) ⟨zs,_,_,hz,rfl,.inr ⟨oY.1,rfl,by have:=hI.2;rwa[show (w+1).toNat=K.before.length+1 by omega] at this⟩⟩
theorem QU{p:α→Bool}{l m:List α}(h:l.Perm m):l.any p=m.any p:=by
 cases hm:m.any p
 ·exact List.any_eq_false.2 fun x hx=>by have:=List.any_eq_false.1 hm x (h.mem_iff.1 hx);exact this
 obtain⟨x,hx,e⟩:=List.any_eq_true.1 hm
 exact List.any_eq_true.2 ⟨x,h.mem_iff.2 hx,e⟩
theorem Ki{zs ys:List ai}(h:zs.Perm ys)(a:Nat):∀n,fB zs a n=fB ys a n
 |0=>rfl
 |n+1=>by rw[fB,fB,Ki h a n,QU h]
theorem Jw{zs ys:List ai}(h:zs.Perm ys)(b:Nat):∀n,gJ zs b n=gJ ys b n
 |0=>rfl
 |n+1=>by rw[gJ,gJ,Jw h b n,QU h]
theorem MG:∀ {l m:List Int},G3 l m=true↔l=m
 | [],[]=>by simp[G3]
 | [],y::m=>by simp[G3]
 |x::l,[]=>by simp[G3]
 |x::l,y::m=>by simp[G3,MG (l:=l) (m:=m)]
theorem Jr{m:fu}{a:Nat}:∀ {j:Nat},[(a:Int),(b:Int)]∈mM m i j↔a=i∧b <j∧m.c i b>0
 |0=>by simp[mM]
 |j+1=>by
  rw[mM,List.mem_append,Jr (j:=j)]
  by_cases h:m.c i j>0
  ·simp only[decide_eq_true h,cond_true,List.mem_singleton,List.cons.injEq,and_true]
   constructor
   ·rintro(⟨h1,h2,h3⟩| ⟨h1,h2⟩)
    ·exact⟨h1,by omega,h3⟩
    have:b=j:=by omega
    subst this;exact⟨by omega,by omega,h⟩
   rintro⟨h1,h2,h3⟩
   by_cases e:b=j
   ·exact .inr ⟨by omega,by omega⟩
   exact .inl ⟨h1,by omega,h3⟩
  simp only[decide_eq_false h,cond_false,List.not_mem_nil,or_false]
  constructor
  ·rintro⟨h1,h2,h3⟩;exact⟨h1,by omega,h3⟩
  rintro⟨h1,h2,h3⟩
  refine⟨h1,?_,h3⟩
  by_cases e:b=j
  ·subst e;exact absurd h3 h
  omega
theorem Jt{m:fu}{w a:Nat}:∀ {i:Nat},[(a:Int),(b:Int)]∈oA m w i↔a <i∧b <w∧m.c a b>0
 |0=>by simp[oA]
 |i+1=>by
  rw[oA,List.mem_append,Jt (i:=i),Jr]
  constructor
  ·rintro(⟨h1,h2⟩| ⟨h1,h2,h3⟩)
   ·exact⟨by omega,h2⟩
   subst h1;exact⟨by omega,h2,h3⟩
  rintro⟨h1,h2,h3⟩
  by_cases e:a=i
  ·subst e;exact .inr ⟨rfl,h2,h3⟩
  exact .inl ⟨by omega,h2,h3⟩
theorem JA{m:fu}{a:Nat}:∀ {j:Nat},[(a:Int),(b:Int)]∈mN m n i j↔a=i∧b <j∧m.c i b=n
 |0=>by simp[mN]
 |j+1=>by
  rw[mN,List.mem_append,JA (j:=j)]
  by_cases h:m.c i j=n
  ·simp only[decide_eq_true h,cond_true,List.mem_singleton,List.cons.injEq,and_true]
   constructor
   ·rintro(⟨h1,h2,h3⟩| ⟨h1,h2⟩)
    ·exact⟨h1,by omega,h3⟩
    have:b=j:=by omega
    subst this;exact⟨by omega,by omega,h⟩
   rintro⟨h1,h2,h3⟩
   by_cases e:b=j
   ·exact .inr ⟨by omega,by omega⟩
   exact .inl ⟨h1,by omega,h3⟩
  simp only[decide_eq_false h,cond_false,List.not_mem_nil,or_false]
  constructor
  ·rintro⟨h1,h2,h3⟩;exact⟨h1,by omega,h3⟩
  rintro⟨h1,h2,h3⟩
  refine⟨h1,?_,h3⟩
  by_cases e:b=j
  ·subst e;exact absurd h3 h
  omega
theorem JC{m:fu}{w a:Nat}:∀ {i:Nat},[(a:Int),(b:Int)]∈nq m n w i↔a <i∧b <w∧m.c a b=n
 |0=>by simp[nq]
 |i+1=>by
  rw[nq,List.mem_append,JC (i:=i),JA]
  constructor
  ·rintro(⟨h1,h2⟩| ⟨h1,h2,h3⟩)
   ·exact⟨by omega,h2⟩
   subst h1;exact⟨by omega,h2,h3⟩
  rintro⟨h1,h2,h3⟩
  by_cases e:a=i
  ·subst e;exact .inr ⟨rfl,h2,h3⟩
  exact .inl ⟨by omega,h2,h3⟩
theorem J1{a b:Int}:uF W a b=true↔[a,b]∈W:=by
 simp only[uF,List.any_eq_true]
 constructor
 ·rintro⟨l,hl,e⟩;rwa[MG.1 e] at hl
 exact fun h=>⟨_,h,MG.2 rfl⟩
theorem JB(m:fu)(n:Int)(i:Nat):∀j,∀l∈mN m n i j,l.length=2
 |0=>fun _ h=>by cases h
 |j+1=>fun l h=>by
  rw[mN] at h
  rcases List.mem_append.1 h with h|h
  ·exact JB m n i j l h
  cases hd:decide (m.c i j=n)
  ·rw[hd] at h;simp at h
  rw[hd] at h;simp at h;rw[h];rfl
theorem JD(m:fu)(n:Int)(w:Nat):∀i,∀l∈nq m n w i,l.length=2
 |0=>fun _ h=>by cases h
 |i+1=>fun l h=>by
  rw[nq] at h
  rcases List.mem_append.1 h with h|h
  ·exact JD m n w i l h
  exact JB m n i w l h
theorem Qu{zs:List ai}{a:Nat}(hz:zs≠[])(hr:∀x∈zs,0≤pI x a∧pI x a≤na):0 <(fB zs a (na+1)).length:=by
 obtain⟨x,hx⟩:=List.exists_mem_of_ne_nil zs hz
 have:=hr x hx
 exact List.length_pos_of_mem (GY.2 ⟨(pI x a).toNat,by omega,rfl,x,hx,by omega⟩)
theorem Qv{zs:List ai}{a:Nat}(hz:zs≠[])(h:∀x∈zs,pI x a=(b:Int)+1):∀n,b+1 <n→fB zs a n=[(b:Int)]
 |0,hn=>by omega
 |n+1,hn=>by
  obtain⟨x,hx⟩:=List.exists_mem_of_ne_nil zs hz
  have key:∀k:Nat,zs.any (fun x=>decide (pI x a=(k:Int)))=decide (k=b+1):=fun k=>by
   by_cases e:k=b+1
   ·rw[decide_eq_true e];exact List.any_eq_true.2 ⟨x,hx,decide_eq_true (by rw[h x hx,e];omega)⟩
   rw[decide_eq_false e];exact List.any_eq_false.2 fun y hy=>by simp only[decide_eq_true_eq];rw[h y hy];omega
  have none:∀k,k≤b+1→fB zs a k=[]:=fun k=>by
   induction k with
   |zero=>intro _;rfl
   |succ k ih=>intro hk;rw[fB,ih (by omega),key,decide_eq_false (by omega)];rfl
  by_cases e:n=b+1
  ·subst e
   rw[fB,none _ (Nat.le_refl _),key,decide_eq_true rfl]
   simp
  rw[fB,Qv hz h n (by omega),key,decide_eq_false (by omega)];rfl
theorem SZ(x:ai)(v:Int):yI x v= -1∨∃c:Nat,c <4∧yI x v=c∧pI x c=v:=by
 simp only[yI,bG]
 by_cases e0:v=x.w0
 ·simp only[decide_eq_true e0,cond_true];exact .inr ⟨0,by omega,rfl,e0.symm⟩
 simp only[decide_eq_false e0,cond_false]
 by_cases e1:v=x.w1
 ·simp only[decide_eq_true e1,cond_true];exact .inr ⟨1,by omega,rfl,e1.symm⟩
 simp only[decide_eq_false e1,cond_false]
 by_cases e2:v=x.w2
 ·simp only[decide_eq_true e2,cond_true];exact .inr ⟨2,by omega,rfl,e2.symm⟩
 simp only[decide_eq_false e2,cond_false]
 by_cases e3:v=x.w3
 ·simp only[decide_eq_true e3,cond_true];exact .inr ⟨3,by omega,rfl,e3.symm⟩
 simp only[decide_eq_false e3,cond_false];exact .inl trivial
theorem acu{zs:List ai}(hz:zs≠[])(hr:∀x∈zs,∀c,nb≤c→c <4→pI x c=0):0 <(gJ zs b (nb+1)).length:=by
 obtain⟨x,hx⟩:=List.exists_mem_of_ne_nil zs hz
 rcases SZ x ((b:Int)+1) with h| ⟨c,hc,h1,h2⟩
 ·exact List.length_pos_of_mem (Ad.2 ⟨0,by omega,rfl,x,hx,by rw[h];rfl⟩)
 have:c <nb:=by
  by_cases e:c <nb
  ·exact e
  have:=hr x hx c (by omega) hc;omega
 exact List.length_pos_of_mem (Ad.2 ⟨c+1,by omega,rfl,x,hx,by rw[h1];omega⟩)
theorem OI{zs:List ai}{a:Nat}(hz:zs≠[])(hi:∀x∈zs,ah0 x)(ha:a <4)(h:∀x∈zs,pI x a=(b:Int)+1):∀n,a+1 <n→gJ zs b n=[(a:Int)]
 |0,hn=>by omega
 |n+1,hn=>by
  obtain⟨x,hx⟩:=List.exists_mem_of_ne_nil zs hz
  have Bj:∀y∈zs,yI y ((b:Int)+1)=(a:Int):=fun y hy=>(Ma (hi y hy) (by omega) a ha).2 (h y hy)
  have key:∀k:Nat,zs.any (fun x=>decide (yI x ((b:Int)+1)=(k:Int)-1))=decide (k=a+1):=fun k=>by
   by_cases e:k=a+1
   ·rw[decide_eq_true e];exact List.any_eq_true.2 ⟨x,hx,decide_eq_true (by rw[Bj x hx,e];omega)⟩
   rw[decide_eq_false e];exact List.any_eq_false.2 fun y hy=>by simp only[decide_eq_true_eq];rw[Bj y hy];omega
  have none:∀k,k≤a+1→gJ zs b k=[]:=fun k=>by
   induction k with
   |zero=>intro _;rfl
   |succ k ih=>intro hk;rw[gJ,ih (by omega),key,decide_eq_false (by omega)];rfl
  by_cases e:n=a+1
  ·subst e
   rw[gJ,none _ (Nat.le_refl _),key,decide_eq_true rfl]
   simp
  rw[gJ,OI hz hi ha h n (by omega),key,decide_eq_false (by omega)];rfl
theorem RQ{keep:ai→Bool}{rows:List bH}(h:K.facts.length≤4)(hb:K.before.length≤4):∀x∈dc K (bF K) keep rows,∀c,K.before.length≤c→c <4→pI x c=0:=fun x hx c hc hc4=>by
 obtain⟨i,r,q,_,hq,rfl,_⟩:=eR hx
 rw[tK hc4]
 rcases((B0 h hb).1 hq).1 c with e| ⟨h1,_⟩
 ·exact e
 omega
theorem UB{zs:List ai}(hf:K.facts.length≤4)(hb:K.before.length≤4)(hz:zs.Perm (dc K (bF K) (cP K.gone K.new K.af) (fG K)))(hn:zs≠[])(hi:i <K.before.length)(hj:j <K.after.length):
 (0 <(fB zs i (K.after.length+1)).length∧(fB zs i (K.after.length+1)).length≤K.after.length+1∧0 <(gJ zs j (K.before.length+1)).length)∧
 (decide (bG (fun y=>decide (y=(j:Int))) (fB zs i (K.after.length+1)) 0≥0)=decide ((aw zs).c i j>0))∧(decide (bG (fun y=>decide (y=(i:Int))) (gJ zs j (K.before.length+1)) 0≥0)=decide ((aw zs).c i j>0))∧
 (uF (oA (aw zs) K.after.length K.before.length) i j=decide ((aw zs).c i j>0))∧(pf ((aw zs).c i j) ((zs.length:Nat):Int)=2↔¬(aw zs).c i j>0)∧
 (uF (nq (aw zs) ((zs.length:Nat):Int) K.after.length K.before.length) i j=decide (pf ((aw zs).c i j) ((zs.length:Nat):Int)=1))∧
 (pf ((aw zs).c i j) ((zs.length:Nat):Int)=1→(fB zs i (K.after.length+1)).length=1∧(gJ zs j (K.before.length+1)).length=1):=by
 have Tt:∀x∈zs,ah0 x:=fun x hx=>XJ hf hb x (hz.mem_iff.1 hx)
 have Ir:∀x∈zs,0≤pI x i∧pI x i≤K.after.length:=fun x hx=>IS hf hb x (hz.mem_iff.1 hx) i (by omega)
 have hc:=Cz zs i j
 have hl:=List.length_pos_iff.2 hn
 have v1:pf ((aw zs).c i j) ((zs.length:Nat):Int)=1↔(aw zs).c i j=zs.length:=by
  simp only[pf]
  split
  ·exact⟨fun _=>by assumption,fun _=>rfl⟩
  split<;>exact⟨fun h=>by omega,fun h=>by omega⟩
 refine⟨⟨Qu hn Ir,AK _ _ _,acu hn fun x hx=>RQ hf hb x (hz.mem_iff.1 hx)⟩,decide_eq_decide.2 (adU.trans (ZF hj)),decide_eq_decide.2 (adU.trans (Ys Tt hi hb)),?_,?_,?_,fun h=>?_⟩
 ·rw[Bool.eq_iff_iff,J1,Jt,decide_eq_true_eq]
  exact⟨fun h=>h.2.2,fun h=>⟨hi,hj,h⟩⟩
 ·simp only[pf]
  split
  ·simp only[Int.reduceEq,false_iff];omega
  split
  ·simp only[true_iff];omega
  simp only[Int.reduceEq,false_iff];omega
 ·rw[Bool.eq_iff_iff,J1,JC,decide_eq_true_eq,v1]
  exact⟨fun h=>h.2.2,fun h=>⟨hi,hj,h⟩⟩
 have cY:=ams.1 (v1.1 h)
 exact⟨by rw[Qv hn cY _ (by omega)];rfl,by rw[OI hn Tt (by omega) cY _ (by omega)];rfl⟩
theorem aro{vd:Value}{xs:List Int}{ro:Nat→Option Obj}(hN:Dn ro vd xs):ao8 Tryz.prog 6 [vd] ro (fun r Y=>r= .bool true∧Y=[]):=by
 have hN0:=hN
 obtain⟨hl,hxn⟩:=hN
 obtain⟨fI,rM,rK,eX,rfl,tG,lG,mH⟩:=hl
 refine aAa au (by kernel_rfl) [] a8 (fun fr=>?_)
 refine jd 7 [] ?_
 refine jc (vs:=[.slice fI xs.length eX]) [] (aT5 hN0.1) ?_
 rintro _ X16 ⟨d16,rfl,afT⟩
 refine jcG (vs:=[.pointer (some ⟨d16,0,none⟩),.int .i64 3,.int .i64 2]) [0] (aT6 hN0 afT (by decide) (by decide)) ?_
 rintro _ aB X18 bW ⟨K,l,rfl,hO,uC,hK,P8⟩
 obtain⟨v0,v1,v3,v4,v5,v6,v7,vb,va,vc,hv,rfl,_,_,_,_,_,hb,ha,hf⟩:=id hK
 obtain⟨mI,Rc,Ra,mA,rfl,Rb,Oq,Oo⟩:=hb
 obtain⟨mB,Ov,Ot,mr,rfl,Ou,Ni,Nh⟩:=ha
 obtain⟨jW,Bf,Be,iQ,rfl,DN,u6,u5⟩:=hf
 have hC:=hO.c
 have hV:=hO.v
 have asY:=hO.yE
 have Rt:=hV.before.1
 have J2:=hV.after.1
 refine jn (fun b3=>?_)
 refine jsx 0 b3 0 [.slice none 0 0,.slice none 0 0,.slice none 0 0,.slice none 0 0,.slice none 0 0,.slice none 0 0,.slice none 0 0,.slice none 0 0,.int .i64 0,.int .i64 0,.int .i64 0,.slice none 0 0] [v0,v1,.slice va 0 vc,v3,v4,v5,.slice mI K.before.length mA,.slice mB K.after.length mr,.int .i64 K.gone,.int .i64 K.new,.int .i64 K.af,.slice jW K.facts.length iQ] 40 hK.L.all rfl ?_
 refine jd 4 [0] ?_
 refine Gd (vs:=[.agg ⟨[v0,v1,.slice va 0 vc,v3,v4,v5,.slice mI K.before.length mA,.slice mB K.after.length mr,.int .i64 K.gone,.int .i64 K.new,.int .i64 K.af,.slice jW K.facts.length iQ]⟩]) [] (fun _ _ h=>h) (akE hK hV (jo hC) (qG hK hC hV) wB) ?_
 rintro _ YP ⟨zP,vP,eP,hzP,rfl,hpP⟩
 refine jd 9 [1] ?_
 refine Gd (vs:=[.agg ⟨[v0,v1,.slice va 0 vc,v3,v4,v5,.slice mI K.before.length mA,.slice mB K.after.length mr,.int .i64 K.gone,.int .i64 K.new,.int .i64 K.af,.slice jW K.facts.length iQ]⟩]) [] (fun _ _ h=>h) (adH hK hV (jo hC) (qG hK hC hV) wB) ?_
 rintro _ YQ ⟨zQ,vQ,eQ,hzQ,rfl,hpQ⟩
 refine jd 5 [] ?_
 refine jf [1,0] (YP++YQ) (fun ro4 n6 PO=>?_)
 have hLP:zP≠[]→LL ro4 vP (oA (aw zP) K.after.length K.before.length):=fun hn=>(hpP.resolve_left fun h=>hn h.1).2.2 _ (Knows.left PO)
 have hLQ:zQ≠[]→LL ro4 vQ (nq (aw zQ) ((zQ.length:Nat):Int) K.after.length K.before.length):=fun hn=>(hpQ.resolve_left fun h=>hn h.1).2.2 _ (Knows.right PO)
 replace hK:=hK.up n6
 refine jd 3 [] ?_
 have n12:=(hzP.trans hzQ.symm).length_eq
 have qP:(zP.length=0∧eP=9)∨(0 <zP.length∧eP=0):=by rcases hpP with ⟨h,_,e,_⟩| ⟨h,e,_⟩;exact .inl ⟨by rw[h];rfl,e⟩;exact .inr ⟨List.length_pos_iff.2 h,e⟩
 have qQ:(zQ.length=0∧eQ=9)∨(0 <zQ.length∧eQ=0):=by rcases hpQ with ⟨h,_,e,_⟩| ⟨h,e,_⟩;exact .inl ⟨by rw[h];rfl,e⟩;exact .inr ⟨List.length_pos_iff.2 h,e⟩
 have hee:eQ=eP∧(eP=0∨eP=9):=by omega
 refine jd 5 [] ?_
 refine js 34 (!decide (eP=eQ)) (fun h5=>?_) (fun h5=>?_)
 ·
  have Eg:=h5
  replace Eg:=of_decide_eq_false (by simpa using Eg)
  exfalso;omega
 ·
  have Eg:=h5
  replace Eg:=of_decide_eq_true (by simpa using Eg)
  refine jd 4 [] ?_
  refine js 37 (!decide (eP=0)) (fun h6=>?_) (fun h6=>?_)
  ·
   replace h6:=of_decide_eq_false (by simpa using h6)
   refine jd 7 [] ?_
   refine js 41 (decide (eP=eQ)) (fun h7=>?_) (fun h7=>?_)
   ·
    have h7g:=h7
    replace h7g:=of_decide_eq_true h7g
    refine jd 4 [] ?_
    refine js 45 (decide (eP=9)) (fun h8=>?_) (fun h8=>?_)
    ·
     have h8g:=h8
     replace h8g:=of_decide_eq_true h8g
     refine Gd [] (fun _ _ h=>h) (Vr) ?_
     rintro _ _ ⟨rfl,rfl⟩
     refine jg 0 [] ?_
     refine jd 4 [] ?_
     exact HG qC.a.a (.bool true) [2] [] (bW.trans n6) ⟨rfl,rfl⟩
    ·
     have h8g:=h8
     replace h8g:=of_decide_eq_false h8g
     exfalso;omega
   ·
    have h7g:=h7
    replace h7g:=of_decide_eq_false h7g
    exfalso;omega
  ·
   replace h6:=of_decide_eq_true (by simpa using h6)
   refine jd 4 [] ?_
   have hnP:zP≠[]:=fun h=>by rw[h,List.length_nil] at qP;omega
   have hnQ:zQ≠[]:=fun h=>by rw[h,List.length_nil] at qQ;omega
   obtain⟨wsP,hsP,haP⟩:=hLP hnP
   have aCD:=hLQ hnQ
   rw[←AS (hzP.trans hzQ.symm),←(hzP.trans hzQ.symm).length_eq] at aCD
   obtain⟨wsQ,hsQ,haQ⟩:=aCD
   have Px:=BR (aw zP) (w:=K.after.length) (by omega) K.before.length
   have Rm:=BY (aw zP) ((zP.length:Nat):Int) (w:=K.after.length) (by omega) K.before.length
   have hf4:K.facts.length≤4:=by omega
   refine jd 4 [] ?_
   refine dW [1,1,1,1,1,0,1,0,0] [] (fun(zz:Nat)=>[(3,.pointer (some ⟨b3,0,none⟩)),(4,vP),(6,vQ),(8,.int .i64 (zz:Int))]) (fun(zz:Nat)=>[.b b3 (.cells ⟨[v0,v1,.slice va 0 vc,v3,v4,v5,.slice mI K.before.length mA,.slice mB K.after.length mr,.int .i64 K.gone,.int .i64 K.new,.int .i64 K.af,.slice jW K.facts.length iQ]⟩ 40 (0,0)),.l X18,.l fr]) (fun(zz:Nat)=>zz≤K.before.length) (fun(zz:Nat)=>K.before.length-zz) 0 (by omega) [0,1,2] ?_
   rintro i hI K1 bK rest
   refine jd 9 [0] ?_
   refine js 52 (decide ((i:Int) <(K.before.length:Int))) (fun h9=>?_) (fun h9=>?_)
   ·
    replace h9:=of_decide_eq_true h9
    refine jd 8 [0] ?_
    refine Gd (vs:=[.agg ⟨[v0,v1,.slice va 0 vc,v3,v4,v5,.slice mI K.before.length mA,.slice mB K.after.length mr,.int .i64 K.gone,.int .i64 K.new,.int .i64 K.af,.slice jW K.facts.length iQ]⟩,.int .i64 (i:Int)]) [] (fun _ _ h=>h) (az5 (a:=i) hK hV (jo hC) (qG hK hC hV) (by omega)) ?_
    rintro _ YF ⟨zF,vF,eF,hzF,rfl,hpF⟩
    obtain⟨_,rfl,hoF⟩:=hpF.resolve_left (fun h=>hnP (by have h9:=hzP.trans hzF.symm;rw[h.1] at h9;exact h9.eq_nil))
    rw[Ki (hzF.trans hzP.symm)] at hoF
    refine jd 8 [] ?_
    have Bo:=Qu (a:=i) (na:=K.after.length) hnP (fun x hx=>IS hf4 Rt x (hzP.mem_iff.1 hx) i (by omega))
    have hF2:=AK zP i (K.after.length+1)
    refine jd 5 [] ?_
    refine Ao hoF ?_
    refine jd 3 [] ?_
    refine js 68 (decide (((fB zP i (K.after.length+1)).length:Int)=0)) (fun HS=>?_) (fun HS=>?_)
    ·
     have agk:=HS
     replace agk:=of_decide_eq_true agk
     exfalso;omega
    ·
     have agk:=HS
     replace agk:=of_decide_eq_false agk
     refine jd 1 [] ?_
     refine Ao hoF ?_
     refine jd 3 [1] ?_
     refine ja ((K.after.length:Int)+1) (by omega) ?_
     refine jd 3 [] ?_
     refine js 76 (decide (((fB zP i (K.after.length+1)).length:Int)>((K.after.length:Int)+1))) (fun Mu=>?_) (fun Mu=>?_)
     ·
      replace Mu:=of_decide_eq_true Mu
      exfalso;omega
     ·
      replace Mu:=of_decide_eq_false Mu
      refine jd 7 [] ?_
      refine dW [1,1,1,1,1,0,1,0,0,1,0,0,1,1,1,0,0] [K1] (fun(zz:Nat)=>[(3,.pointer (some ⟨b3,0,none⟩)),(4,vP),(6,vQ),(8,.int .i64 (i:Int)),(9,vF),(11,.int .i64 (zz:Int))]) (fun(zz:Nat)=>[.l YF,.b b3 (.cells ⟨[v0,v1,.slice va 0 vc,v3,v4,v5,.slice mI K.before.length mA,.slice mB K.after.length mr,.int .i64 K.gone,.int .i64 K.new,.int .i64 K.af,.slice jW K.facts.length iQ]⟩ 40 (0,0)),.l X18,.l fr]) (fun(zz:Nat)=>zz≤K.after.length) (fun(zz:Nat)=>K.after.length-zz) 0 (by omega) [0,1,2,3] ?_
      rintro j hJ K2 lg rest
      refine jd 9 [1] ?_
      refine js 81 (decide ((j:Int) <(K.after.length:Int))) (fun Bp=>?_) (fun Bp=>?_)
      ·
       replace Bp:=of_decide_eq_true Bp
       refine jd 8 [1] ?_
       refine Gd (vs:=[.agg ⟨[v0,v1,.slice va 0 vc,v3,v4,v5,.slice mI K.before.length mA,.slice mB K.after.length mr,.int .i64 K.gone,.int .i64 K.new,.int .i64 K.af,.slice jW K.facts.length iQ]⟩,.int .i64 (j:Int)]) [] (fun _ _ h=>h) (akF (b:=j) hK hV (jo hC) (qG hK hC hV) (by omega)) ?_
       rintro _ YO ⟨zO,vO,eO,hzO,rfl,hpO⟩
       obtain⟨_,rfl,hoO⟩:=hpO.resolve_left (fun h=>hnP (by have h9:=hzP.trans hzO.symm;rw[h.1] at h9;exact h9.eq_nil))
       rw[Jw (hzO.trans hzP.symm)] at hoO
       refine jd 11 [2] ?_
       refine Gd (vs:=[.agg ⟨[v0,v1,.slice va 0 vc,v3,v4,v5,.slice mI K.before.length mA,.slice mB K.after.length mr,.int .i64 K.gone,.int .i64 K.new,.int .i64 K.af,.slice jW K.facts.length iQ]⟩,.int .i64 (i:Int),.int .i64 (j:Int)]) [] (fun _ _ h=>h) (ady (a:=i) (b:=j) hK hV (jo hC) (qG hK hC hV) wB (by omega) (by omega)) ?_
       rintro _ _ ⟨zV,vV,eV,hzV,rfl,rfl,hpV⟩
       obtain⟨_,rfl,hvV⟩:=hpV.resolve_left (fun h=>hnP (by have h9:=hzP.trans hzV.symm;rw[h.1] at h9;exact h9.eq_nil))
       rw[AS (hzV.trans hzP.symm),(hzV.trans hzP.symm).length_eq] at hvV
       subst hvV
       refine jg 0 [] ?_
       refine jd 8 [] ?_
       have hO2:=FL zP j (K.before.length+1)
       obtain⟨⟨_,_,ho1⟩,a1,a2,a3,a4,a5,a6⟩:=UB (i:=i) (j:=j) hf4 Rt hzP hnP (by omega) (by omega)
       have a4b:(!decide ((pf ((aw zP).c i j) ((zP.length:Nat):Int))=2))=decide ((aw zP).c i j>0):=by rw[Bool.eq_iff_iff];simp only[Bool.not_eq_true',decide_eq_false_iff_not,decide_eq_true_eq,a4];exact Decidable.not_not
       refine jd 9 [] ?_
       refine Ao hoO ?_
       refine jd 3 [] ?_
       refine js 107 (decide (((gJ zP j (K.before.length+1)).length:Int)=0)) (fun xe=>?_) (fun xe=>?_)
       ·
        replace xe:=of_decide_eq_true xe
        exfalso;omega
       ·
        replace xe:=of_decide_eq_false xe
        refine jd 6 [] ?_
        refine jp (vs:=[vF,.int .i64 (j:Int)]) [1] YF (fun aB hs hZ=>SW (hoF.lR hZ) (by first|omega| (simp only[List.length_set,List.length_append,List.length_cons,List.length_nil];omega))) ?_
        refine jd 9 [] ?_
        refine jp (vs:=[vO,.int .i64 (i:Int)]) [0] YO (fun aB hs hZ=>SW (hoO.lR hZ) (by first|omega| (simp only[List.length_set,List.length_append,List.length_cons,List.length_nil];omega))) ?_
        refine jd 3 [] ?_
        refine js 118 (!((decide ((bG (fun y=>decide (y=(j:Int))) (fB zP i (K.after.length+1)) 0)≥0))==(decide ((bG (fun y=>decide (y=(i:Int))) (gJ zP j (K.before.length+1)) 0)≥0)))) (fun Qb=>?_) (fun Qb=>?_)
        ·
         have IB:=Qb
         try simp only[Bool.and_eq_true,Bool.or_eq_true,Bool.and_eq_false_iff,Bool.or_eq_false_iff,Bool.not_eq_true',Bool.not_eq_false',decide_eq_true_eq,decide_eq_false_iff_not,not_true_eq_false,or_false,false_or] at IB
         simp[a1,a2] at IB
        ·
         have IB:=Qb
         try simp only[Bool.and_eq_true,Bool.or_eq_true,Bool.and_eq_false_iff,Bool.or_eq_false_iff,Bool.not_eq_true',Bool.not_eq_false',decide_eq_true_eq,decide_eq_false_iff_not,not_true_eq_false,or_false,false_or] at IB
         refine jd 4 [] ?_
         refine jp (vs:=[vP,.int .i64 (i:Int),.int .i64 (j:Int)]) [] [] (fun aB hs hZ=>UW (hsP.up hs) (haP.imp fun _ _ h=>h.up hs) (by omega) (fun l hl=>by rw[Ju _ _ _ l hl];decide)) ?_
         refine jd 3 [] ?_
         refine js 126 (!((decide ((bG (fun y=>decide (y=(j:Int))) (fB zP i (K.after.length+1)) 0)≥0))==(uF (oA (aw zP) K.after.length K.before.length) (i:Int) (j:Int)))) (fun GK=>?_) (fun GK=>?_)
         ·
          have xM:=GK
          try simp only[Bool.and_eq_true,Bool.or_eq_true,Bool.and_eq_false_iff,Bool.or_eq_false_iff,Bool.not_eq_true',Bool.not_eq_false',decide_eq_true_eq,decide_eq_false_iff_not,not_true_eq_false,or_false,false_or] at xM
          simp[a1,a3] at xM
         ·
          have xM:=GK
          try simp only[Bool.and_eq_true,Bool.or_eq_true,Bool.and_eq_false_iff,Bool.or_eq_false_iff,Bool.not_eq_true',Bool.not_eq_false',decide_eq_true_eq,decide_eq_false_iff_not,not_true_eq_false,or_false,false_or] at xM
          refine jd 6 [] ?_
          refine js 131 (!((decide ((bG (fun y=>decide (y=(j:Int))) (fB zP i (K.after.length+1)) 0)≥0))==(!decide ((pf ((aw zP).c i j) ((zP.length:Nat):Int))=2)))) (fun IA=>?_) (fun IA=>?_)
          ·
           try simp only[Bool.and_eq_true,Bool.or_eq_true,Bool.and_eq_false_iff,Bool.or_eq_false_iff,Bool.not_eq_true',Bool.not_eq_false',decide_eq_true_eq,decide_eq_false_iff_not,not_true_eq_false,or_false,false_or] at IA
           rw[a1,a4b] at IA;simp at IA
          ·
           try simp only[Bool.and_eq_true,Bool.or_eq_true,Bool.and_eq_false_iff,Bool.or_eq_false_iff,Bool.not_eq_true',Bool.not_eq_false',decide_eq_true_eq,decide_eq_false_iff_not,not_true_eq_false,or_false,false_or] at IA
           refine jd 14 [] ?_
           refine jp (vs:=[vQ,.int .i64 (i:Int),.int .i64 (j:Int)]) [] [] (fun aB hs hZ=>UW (hsQ.up hs) (haQ.imp fun _ _ h=>h.up hs) (by omega) (fun l hl=>by rw[JD _ _ _ _ l hl];decide)) ?_
           refine jd 2 [] ?_
           refine js 140 (!((decide ((pf ((aw zP).c i j) ((zP.length:Nat):Int))=1))==(uF (nq (aw zP) ((zP.length:Nat):Int) K.after.length K.before.length) (i:Int) (j:Int)))) (fun Zx=>?_) (fun Zx=>?_)
           ·
            have xL:=Zx
            try simp only[Bool.and_eq_true,Bool.or_eq_true,Bool.and_eq_false_iff,Bool.or_eq_false_iff,Bool.not_eq_true',Bool.not_eq_false',decide_eq_true_eq,decide_eq_false_iff_not,not_true_eq_false,or_false,false_or] at xL
            simp[a5] at xL
           ·
            have xL:=Zx
            try simp only[Bool.and_eq_true,Bool.or_eq_true,Bool.and_eq_false_iff,Bool.or_eq_false_iff,Bool.not_eq_true',Bool.not_eq_false',decide_eq_true_eq,decide_eq_false_iff_not,not_true_eq_false,or_false,false_or] at xL
            refine jd 2 [] ?_
            refine js 142 (decide ((pf ((aw zP).c i j) ((zP.length:Nat):Int))=1)) (fun TW=>?_) (fun TW=>?_)
            ·
             have GJ:=TW
             replace GJ:=of_decide_eq_true GJ
             refine jd 1 [] ?_
             refine Ao hoF ?_
             refine jd 2 [] ?_
             refine js 146 (!decide (((fB zP i (K.after.length+1)).length:Int)=1)) (fun WR=>?_) (fun WR=>?_)
             ·
              have agf:=WR
              replace agf:=of_decide_eq_false (by simpa using agf)
              exfalso;have:=a6 (by assumption);omega
             ·
              have agf:=WR
              replace agf:=of_decide_eq_true (by simpa using agf)
              refine jd 1 [] ?_
              refine Ao hoO ?_
              refine jd 5 [] ?_
              refine js 152 (!decide (((gJ zP j (K.before.length+1)).length:Int)=1)) (fun Zw=>?_) (fun Zw=>?_)
              ·
               replace Zw:=of_decide_eq_false (by simpa using Zw)
               exfalso;have:=a6 (by assumption);omega
              ·
               replace Zw:=of_decide_eq_true (by simpa using Zw)
               refine jd 4 [] ?_
               refine ja ((j:Int)+1) (by omega) ?_
               refine jd 2 [] ?_
               exact bO lg (j+1) (by omega) (by omega) [1,2,3,4] (Sub.refl _)
            ·
             have GJ:=TW
             replace GJ:=of_decide_eq_false GJ
             refine jd 15 [] ?_
             refine ja ((j:Int)+1) (by omega) ?_
             refine jd 2 [] ?_
             exact bO lg (j+1) (by omega) (by omega) [1,2,3,4] (Sub.refl _)
      ·
       replace Bp:=of_decide_eq_false Bp
       refine jd 4 [] ?_
       refine ja ((i:Int)+1) (by omega) ?_
       refine jd 2 [] ?_
       exact bO bK (i+1) (by omega) (by omega) [1,2,3] (Sub.refl _)
   ·
    replace h9:=of_decide_eq_false h9
    refine jd 4 [] ?_
    refine Gd [] (fun _ _ h=>h) (Vr) ?_
    rintro _ _ ⟨rfl,rfl⟩
    refine jg 0 [] ?_
    refine jd 3 [] ?_
    exact HG qC.a.a (.bool true) [2] [] (bW.trans n6) ⟨rfl,rfl⟩
theorem F5(W:World){vd:Value}{xs:List Int}(hN:Dn (fun b=>W.heap[b]?) vd xs) {Post:Value→World→Prop}
 (P5:∀w:World,(∀(b:Nat) (o:Obj),W.heap[b]?=some o→w.heap[b]?=some o)→w.os=W.os→w.output=W.output→Post (.bool true) w):
 ∃N last o w' t',runNT zT (N+1) (solo (G (Frame.enter zT 6 ⟨[vd]⟩ .normal) []) W) #[]=(.ended o w',t')∧runN zT N (solo (G (Frame.enter zT 6 ⟨[vd]⟩ .normal) []) W)= .next last∧step zT last= .ended o w'∧Good zT Post last o w' t':=by
 have ha:aQ ⟨fun b=>W.heap[b]?,[]⟩ W:=⟨fun _ _ h=>h,(fun _ _ h=>(by cases h)),by simp,(fun _ _ h=>(by cases h))⟩
 exact abu ha (aro hN _ _ _ fun v Y w qi pH tq Ed=>by
  obtain⟨rfl,rfl⟩:=qi
  exact P5 w (fun b o hb=>pH.ro b o hb) tq Ed)
end Go.L
