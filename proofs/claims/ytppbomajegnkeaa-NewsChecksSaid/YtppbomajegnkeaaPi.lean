/- For whatever news and notice, the law NewsChecks returns true and changes no argument: the error of news, chains and the notices in force are as the reference tells them. -/
import Derived.Test.YtppbomajegnkeaaPh
import Derived.Test.YtppbomajegnkeaaPd
import Derived.Test.YtppbomajegnkeaaPe
set_option linter.unusedVariables false
set_option linter.unusedSimpArgs false
set_option linter.unusedSectionVars false
set_option maxRecDepth 10000
set_option maxHeartbeats 4000000
namespace Go.Eng
open Go Go.Proofs
theorem zXG (n:Nw):FG 26 [nwV n,.nils 0] (.bool (zDR n [])):=by
 refine zAf Try.f26 ?_
 refine zAc 2<|zAa<|zAh<|zAc 2<|S_a [(0,.n n.l.length)] (ap (lnS prV n.l) an)<|zAd 2<|zEY 11 ((↑n.l.length:Int)>20) (fun k0=>(zAd 16<|zAa<|zBX<|zAc 1<|zAa<|zAm<|E_a [] an (PV.bool true) [] ?_ rfl)) (fun k0=>(zAd 2<|S_a [(0,.n n.n.length)] (ap (lnS ntV n.n) an)<|zAd 3<|zEY 17 ((↑n.n.length:Int)>12) (fun k1=>(zAd 10<|zAa<|zBX<|zAc 1<|zAa<|zAm<|E_a [] an (PV.bool true) [] ?_ rfl)) (fun k1=>(zAd 2<|S_a [(0,.n n.s.length)] (ap (lnS zAF n.s) an)<|zAd 3<|zEY 23 ((↑n.s.length:Int)>10) (fun k2=>(zAd 4<|zAa<|zBX<|zAc 1<|zAa<|zAm<|E_a [] an (PV.bool true) [] ?_ rfl)) (fun k2=>(zAd 4<|zAa<|zA4<|zAl<|zAh<|zAc 2<|S_a [(0,.n n.s.length)] (ap (lnS zAF n.s) an)<|zAd 1<|zAa<|zAi 0 ?_))))))
 ·simp only [zDR,decide_eq_true k0,Bool.true_or]
 ·simp only [zDR,decide_eq_true k1,Bool.true_or,Bool.or_true]
 ·simp only [zDR,decide_eq_true k2,Bool.true_or,Bool.or_true]
 have e:zDR n []=n.s.any fun l=>decide ((l.length:Int)>14):=by
  simp only [zDR,decide_eq_false k0,decide_eq_false k1,decide_eq_false k2,Bool.false_or,List.length_nil];rfl
 rw [e]
 refine zAu (fun i=>i≤n.s.length∧∀ j,j<i→decide (((n.s.getD j []).length:Int)>14)=false) (fun (i:Nat)=>[(31,I (i:Nat))]) (fun i=>n.s.length-i) (0:Nat) ⟨Nat.zero_le _,fun j hj=>absurd hj (Nat.not_lt_zero j)⟩ fun i ⟨hi,ha⟩=>?_
 by_cases yJ:i<n.s.length
 ·have gN:decide (((n.s.getD i []).length:Int)>14)=true→(n.s.any fun l=>decide ((l.length:Int)>14))=true:=fun h=>by
   rw [zAB yJ] at h
   exact List.any_eq_true.2 ⟨_,List.getElem_mem yJ,h⟩
  have j8:decide (((n.s.getD i []).length:Int)>14)=false→∀ j,j<i+1→decide (((n.s.getD j []).length:Int)>14)=false:=fun h j hj=>by
   rcases Nat.lt_succ_iff_lt_or_eq.1 hj with h2 | rfl
   ·exact ha j h2
   ·exact h
  clear ha
  refine zAc 1<|zAa<|zAh<|zA0 ((↑i:Int)<(↑n.s.length:Int)) (by omega)<|zAl<|zAh<|zAi 1<|zAh<|zAg<|S_a [(2,.v (zAF (n.s.getD i [])))] (ap (zB0 [] (by omega):(List.map zAF n.s)[i]? = some (zAF (n.s.getD i []))) an)<|zAd 2<|zAa<|zAc 1<|S_a [(0,.n ((n.s.getD i []).length))] (ap (lnS I (n.s.getD i [])) an)<|zAd 1<|zAa<|zCn ((↑(n.s.getD i []).length:Int)>14) (fun k3=>(zAc 1<|zAa<|zAm<|E_a [] an (PV.bool true) [] ?_ rfl)) (fun k3=>(zAl<|zAg<|S_a [(1,.v (I (↑(i+1):Int)))] (ap (wrN i) an)<|zAd 1<|zAa ?_))
  ·rw [gN (decide_eq_true k3)]
  ·exact ⟨i+1,⟨by omega,j8 (decide_eq_false k3)⟩,by omega,by kernel_rfl,by kernel_rfl⟩
 ·have hx:(n.s.any fun l=>decide ((l.length:Int)>14))=false:=by
   rw [List.any_eq_false]
   intro x hx
   obtain ⟨j,hj,rfl⟩:=List.getElem_of_mem hx
   have:=ha j (by omega)
   rw [zAB hj] at this
   rw [this];simp
  rw [hx]
  clear ha
  refine zAc 1<|zAa<|zAh<|zA1 ((↑i:Int)<(↑n.s.length:Int)) (by omega)<|zAE 0<|zAc 1<|zAa<|zAm<|E_a [] an (PV.bool false) [] rfl rfl
theorem zPv (n:Nw) (x:Int) (hs:Small n):∃ (l:List Int) (e:Int),FG 31 [nwV n,I x] (.tup [.own 1 (l.map I),I e])∧FG 32 [nwV n,I x] (.tup [.own 1 (l.map I),I e])∧l.length≤80:=by
 by_cases he:zBu n=0
 ·have ho:=zTf he
  have h8:=ho.nl.2
  cases hi:inB x 0 (n.n.length-1) with
  | true =>
   have hr:=zEm hi
   exact ⟨_,_,f31_1 n x ho (by omega),f32_1 n x ho (by omega),Nat.le_trans zEJ (by omega)⟩
  | false=>exact ⟨[],_,f31_2 n x ho hi,f32_2 n x ho hi,by simp⟩
 ·exact ⟨[],_,f31_3 n x hs he,f32_3 n x hs he,by simp⟩
theorem zPb (n:Nw) (hs:Small n):∃ (l:List Int) (e:Int),FG 16 [nwV n] (.tup [.own 1 (l.map I),I e])∧FG 34 [nwV n] (.tup [.own 1 (l.map I),I e])∧l.length≤80:=by
 by_cases he:zBu n=0
 ·have ho:=zTf he
  have h8:=ho.nl.2
  exact ⟨_,_,f16_1 n ho,f34_1 n ho,Nat.le_trans zEJ (by omega)⟩
 ·exact ⟨[],_,f16_2 n hs he,f34_2 n hs he,by simp⟩
theorem f5 (n:Nw) (x:Int):FG 5 [nwV n,I x] (.bool true):=by
 cases hg:zDR n [] with
 | true =>
  have vf:FG 26 [nwV n,.nils 0] (.bool true):=hg▸zXG n
  refine zAf Try.f5 ?_
  refine zAc 2<|zAa<|zAh<|zAc 1<|S_a [(8,.ret (PV.bool true) [])] (ap vf an)<|zAa<|zBX<|zAh<|zAg<|S_a [(4,.ret (PV.bool true) [])] (ap f14 an)<|zAd 1<|zAa<|zAm<|E_a [] an (PV.bool true) [] rfl rfl
 | false =>
  have vf:FG 26 [nwV n,.nils 0] (.bool false):=hg▸zXG n
  obtain ⟨yP,hs⟩:=zUv hg
  clear hg
  obtain ⟨L,x1,a1,b1,g1⟩:=zPv n x hs
  obtain ⟨M,x2,a2,b2,g2⟩:=zPb n hs
  refine zAf Try.f5 ?_
  refine zAc 2<|zAa<|zAh<|zAc 1<|S_a [(8,.ret (PV.bool false) [])] (ap vf an)<|zAa<|zA4<|zAl<|zAc 1<|S_a [(6,.ret (nwO n) [])] (ap (f27 n (by omega)) an)<|zAd 1<|S_a [(6,.ret (nwO n) [])] (ap (f28 n (by omega)) an)<|zAd 4<|zAa<|zAh<|zAc 1<|S_a [(6,.ob),(0,.v (prs n.l)),(1,.ob),(0,.v (PV.sl (List.map ntV n.n))),(1,.ob),(0,.v (PV.sl (List.map zAF n.s))),(2,.ret (I (zBu n)) [])] (ap (blz (List.map prV n.l))<|ap (frT prV n.l)<|ap (blz (List.map ntV n.n))<|ap (frT ntV n.n)<|ap (blz (List.map zD0 n.s))<|ap (frC zD0 zAF n.s)<|ap (f29 n (by omega)) an)<|zAd 1<|S_a [(6,.ob),(0,.v (prs n.l)),(1,.ob),(0,.v (PV.sl (List.map ntV n.n))),(1,.ob),(0,.v (PV.sl (List.map zAF n.s))),(2,.ret (I (zBu n)) [])] (ap (blz (List.map prV n.l))<|ap (frT prV n.l)<|ap (blz (List.map ntV n.n))<|ap (frT ntV n.n)<|ap (blz (List.map zD0 n.s))<|ap (frC zD0 zAF n.s)<|ap (f30 n (by omega)) an)<|zAd 1<|zAa<|zFr (zBu n=zBu n) (by omega)<|zAl<|zAc 2<|S_a [(6,.ob),(0,.v (prs n.l)),(1,.ob),(0,.v (PV.sl (List.map ntV n.n))),(1,.ob),(0,.v (PV.sl (List.map zAF n.s))),(4,.ret (PV.tup [PV.own 1 (List.map I L),I x1]) []),(1,.yes)] (ap (blz (List.map prV n.l))<|ap (frT prV n.l)<|ap (blz (List.map ntV n.n))<|ap (frT ntV n.n)<|ap (blz (List.map zD0 n.s))<|ap (frC zD0 zAF n.s)<|ap a1<|ap ((by exact zNY (zFy _) rfl):(PV.tup [PV.own 1 (List.map I L),I x1]).free=true) an)<|zAd 5<|zAa<|zAc 2<|S_a [(6,.ob),(0,.v (prs n.l)),(1,.ob),(0,.v (PV.sl (List.map ntV n.n))),(1,.ob),(0,.v (PV.sl (List.map zAF n.s))),(4,.ret (PV.tup [PV.own 1 (List.map I L),I x1]) []),(1,.yes)] (ap (blz (List.map prV n.l))<|ap (frT prV n.l)<|ap (blz (List.map ntV n.n))<|ap (frT ntV n.n)<|ap (blz (List.map zD0 n.s))<|ap (frC zD0 zAF n.s)<|ap b1<|ap ((by exact zNY (zFy _) rfl):(PV.tup [PV.own 1 (List.map I L),I x1]).free=true) an)<|zAd 5<|zAa<|zAh<|zAc 4<|zUy 38 (x1=x1) (by omega) (zAd 2<|S_a [(3,.ob),(0,.v (zAF L)),(1,.ob),(0,.v (zAF L)),(2,.ret (PV.bool (decide (L=L))) [])] (ap (blz (List.map I L))<|ap (frT I L)<|ap (blz (List.map I L))<|ap (frT I L)<|ap (f33 L L (by omega)) an)<|zAd 2<|zAa<|zFr (L=L) (by (simp;done))<|zAl<|zAc 1<|S_a [(6,.ob),(0,.v (prs n.l)),(1,.ob),(0,.v (PV.sl (List.map ntV n.n))),(1,.ob),(0,.v (PV.sl (List.map zAF n.s))),(2,.ret (PV.tup [PV.own 1 (List.map I M),I x2]) []),(1,.yes)] (ap (blz (List.map prV n.l))<|ap (frT prV n.l)<|ap (blz (List.map ntV n.n))<|ap (frT ntV n.n)<|ap (blz (List.map zD0 n.s))<|ap (frC zD0 zAF n.s)<|ap a2<|ap ((by exact zNY (zFy _) rfl):(PV.tup [PV.own 1 (List.map I M),I x2]).free=true) an)<|zAd 5<|zAa<|zAc 1<|S_a [(6,.ob),(0,.v (prs n.l)),(1,.ob),(0,.v (PV.sl (List.map ntV n.n))),(1,.ob),(0,.v (PV.sl (List.map zAF n.s))),(2,.ret (PV.tup [PV.own 1 (List.map I M),I x2]) []),(1,.yes)] (ap (blz (List.map prV n.l))<|ap (frT prV n.l)<|ap (blz (List.map ntV n.n))<|ap (frT ntV n.n)<|ap (blz (List.map zD0 n.s))<|ap (frC zD0 zAF n.s)<|ap b2<|ap ((by exact zNY (zFy _) rfl):(PV.tup [PV.own 1 (List.map I M),I x2]).free=true) an)<|zAd 5<|zAa<|zAc 4<|zMA 57 (x2=x2) (by omega) (zAd 2<|S_a [(3,.ob),(0,.v (zAF M)),(1,.ob),(0,.v (zAF M)),(2,.ret (PV.bool (decide (M=M))) [])] (ap (blz (List.map I M))<|ap (frT I M)<|ap (blz (List.map I M))<|ap (frT I M)<|ap (f33 M M (by omega)) an)<|zAd 2<|zMA 62 (M=M) (by (simp;done)) (zAd 2<|S_a [(6,.ob),(0,.v (prs n.l)),(1,.ob),(0,.v (PV.sl (List.map ntV n.n))),(1,.ob),(0,.v (PV.sl (List.map zAF n.s))),(4,.ret (PV.bool true) [])] (ap (blz (List.map prV n.l))<|ap (frT prV n.l)<|ap (blz (List.map ntV n.n))<|ap (frT ntV n.n)<|ap (blz (List.map zD0 n.s))<|ap (frC zD0 zAF n.s)<|ap (f35 n (by omega)) an)<|zAd 2<|S_a [(4,.ret (PV.bool true) [])] (ap f14 an)<|zAd 2<|zAa<|zAm<|E_a [] an (PV.bool true) [] rfl rfl)))
end Go.Eng
set_option maxRecDepth 100000
namespace Go.Proofs.Ytppbomajegnkeaa
open Go.ChangeShapes Go.WideShapes Go.ChangeAt Go.RowKit Go.Eng
theorem newsChecks_gives (ss:List (Bool×List Sh)) (wK:zEW Try.prog Try.f5.params.toList=some ss) (qs:List PV) (hq:zK6 ss qs):@zDi (yo1 Try.prog zGK) Try.prog zGK 5 qs [] (.bool true) []:=by
 have he:zEW Try.prog Try.f5.params.toList=some [(true,[.num .i64,.list true [.num .i64,.num .i64],.list true [.num .i64,.bool],.list false [.list false [.num .i64]]]),(false,[.num .i64])]:=by kernel_rfl
 rw [he] at wK
 cases wK
 obtain ⟨p0,qs0,rfl,h0,gw⟩:=hq
 obtain ⟨p1,qs1,rfl,h1,kd⟩:=gw
 simp only [zK6] at kd
 subst kd
 obtain ⟨x0,rfl⟩:=zTY h0
 obtain ⟨x1,rfl,b1⟩:=zWp h1
 simp only [IntKind.min,IntKind.max,IntKind.signed,IntKind.bits] at b1
 simp at b1
 exact f5 x0 x1
theorem newsChecks_lifted (os:Os) (started:os.Started) (H:Type) (enc:TypeId×Value→H) :
  ReturnsInHanded {} Try.checked os 5 .any (Rows.newsChecksSpec.pre6 enc Try.prog Try.f5 Rows.newsChecksRow.domain false) (Rows.newsChecksSpec.post enc Try.prog Try.f5 false true false false):=by
 refine returnsInHanded_of_change (C:=Try.checked) Try.own started (by kernel_rfl) Try.func5
  (ChangeSpec.witness6 (enc:=enc) (C:=Try.checked) false ⟨#[],#[.agg #[.int .i64 0,.slice none 0 0,.slice none 0 0,.slice none 0 0],.int .i64 0],[]⟩ 8 (by kernel_rfl) (by kernel_rfl) (by kernel_rfl) (by kernel_rfl)) ?_
 intro W base args ds gs before hval0 hW hcnd _
 obtain ⟨p,q,hA0,hV,_,_,_⟩:=id hW
 obtain ⟨rfl,rfl⟩:=trodVars_none hV
 obtain ⟨ss,wK⟩:∃ ss,zEW Try.prog Try.f5.params.toList=some ss:=Option.isSome_iff_exists.1 (by kernel_rfl)
 have hZ:ss.length≤1000:=by
  have h:((zEW Try.prog Try.f5.params.toList).map fun s=>Nat.ble s.length 1000)=some true:=by kernel_rfl
  rw [wK] at h
  simpa using h
 exact zT3 zE9 hnm zMi hin Try.laidOut rfl Try.underlying4 (by kernel_rfl) (by kernel_rfl) (fun ds hd=>by match ds,hd with | [d0,d1],_=>rfl) wK hZ (newsChecks_gives ss wK) hval0 hW
theorem newsChecks_holds:Rows.NewsChecksSaid :=
 OpenClaim.holds_of_wide 5 Try.f5 rfl rfl rfl rfl rfl rfl rfl ⟨rfl,rfl,rfl,rfl,rfl⟩ rfl rfl rfl rfl rfl (by kernel_rfl) Try.func5 (by kernel_rfl)
  (of_decide_eq_true (by kernel_rfl)) (by unfold Func.isWrapper;first | (rw [if_pos (by decide +kernel)];kernel_rfl) | (rw [if_neg (by decide +kernel)];exact ⟨rfl,rfl⟩))
  (fun os started H enc _=>newsChecks_lifted os started H enc)
end Go.Proofs.Ytppbomajegnkeaa
