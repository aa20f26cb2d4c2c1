/- For all numbers and cries the law NewsEvenings ends in true: from evening to evening no j3 j4 an earlier notice, all settles when it is told, and gaps are there as told; without conditions. -/
import Derived.Test.YtppbomajegnkeaaGreatPh
import Derived.Test.YtppbomajegnkeaaGreatPd
import Derived.Test.YtppbomajegnkeaaGreatPg
import Derived.Test.YtppbomajegnkeaaGreatPe
set_option linter.unusedVariables false
set_option linter.unusedSimpArgs false
set_option linter.unusedSectionVars false
set_option maxRecDepth 10000
set_option maxHeartbeats 4000000
namespace Go.Eng
open Go Go.Proofs
def zV7 (n:Nw) (cs:List (Int×Int)) (e:Int) (st:List Int):Int:=if zP3 n cs e=0 then if (!st.all fun x=>inB x 0 (n.s.length-1))=true then 1 else if st.Nodup then 0 else 5 else zP3 n cs e
structure OffOk (n:Nw) (cs:List (Int×Int)) (e:Int) (st:List Int):Prop where
 err:zV7 n cs e st=0
 ev:EvOk n cs e
 rng:∀ s∈st,0≤s∧s<n.s.length
 nd:st.Nodup
abbrev zYK (n:Nw) (cs:List (Int×Int)) (e:Int) (l:List (Int×Int)):PV := .func 173 [] [.ref (zDN n cs),.ref (prs l),.ref (I e)]
theorem f168_2 (n:Nw) (hb:n.s.length≤6) (x:Int):FG 168 [I x,.ref (.func 170 [nwV n] [])] (.bool (!(inB x 0 (n.s.length-1)))):=by
 refine zAf Tryz.f168 ?_
 refine zAd 1<|zAa<|zAd 2<|S_a [(8,.ret (PV.bool (inB x 0 ((↑n.s.length:Int)-1))) [])] (ap (f170 n x (by omega)) an)<|zAc 2<|zAa<|zAn<|E_a [] an (PV.bool !inB x 0 ((↑n.s.length:Int)-1)) [] rfl rfl
theorem f131_2 (n:Nw) (hb:n.s.length≤6) (l:List (Int)) (hl:l.length<4294967296):FG 131 [.sl (l.map I),.func 168 [] [.ref (.func 170 [nwV n] [])]] (I (zEf (fun x => !(inB x 0 (n.s.length-1))) l)):=by
 refine zAf Tryz.f131 ?_
 refine zAd 1<|zAa<|zAh<|zAd 1<|S_a [(0,.n l.length)] (ap (lnS I l) an)<|zAc 1<|zAa<|zAk 0 ?_
 refine zAz (fun i=>i≤l.length∧∀ j,j<i→(fun x => !(inB x 0 (n.s.length-1))) (l.getD j 0)=false) (fun i=>[(8,I (i:Nat))]) (fun i=>l.length-i) (0:Nat) (by simp) fun i ⟨hi,ha⟩=>?_
 refine zAd 1<|zAa<|zAh<|zCP ((↑i:Int)<(↑l.length:Int)) (fun k0=>(zAl<|zAh<|zAk 1<|zAd 2<|zAa<|zAd 3<|S_a [(2,.v (I (l.getD i 0)))] (ap (zDh (0) (by omega):(List.map I l)[i]? = some (I (l.getD i 0))) an)<|zAc 1<|S_a [(7,.ret (PV.bool !inB (l.getD i 0) 0 ((↑n.s.length:Int)-1)) [])] (ap (f168_2 n (by omega) (l.getD i 0)) an)<|zAa<|zFM (!inB (l.getD i 0) 0 ((↑n.s.length:Int)-1)) (fun k1=>(zAd 2<|zAa<|zAn<|E_a [] an (I (↑i:Int)) [] ?_ rfl)) (fun k1=>(zAl<|zAg<|S_a [(1,.v (I (↑(i+1):Int)))] (ap (wrN i) an)<|zAc 1<|zAa ?_)))) (fun k0=>(zAL 0<|zAd 1<|zAa<|zAn<|E_a [] an (I (-1)) [] ?_ rfl))
 ·rw [zBT (i:=i) (by omega) (fun j hj=>by rw [← zAA (d:=0)];exact ha j hj) (by rw [← zAA (d:=0)];first | assumption | exact decide_eq_true ‹_› | (simp only [Bool.not_eq_true',decide_eq_false_iff_not];assumption))]
 ·refine ⟨i+1,⟨by omega,fun j hj=>?_⟩,by omega,by kernel_rfl,by kernel_rfl⟩
  rcases Nat.lt_succ_iff_lt_or_eq.1 hj with h | rfl
  ·exact ha j h
  ·first | assumption | exact decide_eq_false ‹_› | (simp only [Bool.not_eq_false',decide_eq_true_eq];first | assumption | (apply Decidable.of_not_not;assumption))
 ·rw [zB9 fun j hj=>by rw [← zAA (d:=0)];exact ha j (by omega)]
theorem f52_2 (n:Nw) (hb:n.s.length≤6) (l:List (Int)) (hl:l.length<4294967296):FG 52 [.sl (l.map I),.func 168 [] [.ref (.func 170 [nwV n] [])]] (.bool (l.any (fun x => !(inB x 0 (n.s.length-1))))):=by
 refine zAf Tryz.f52 ?_
 refine zAd 1<|zAa<|zAd 2<|S_a [(7,.ret (I (zEf (fun x => !inB x 0 ((↑n.s.length:Int)-1)) l)) [])] (ap (f131_2 n (by omega) l (by omega)) an)<|zAc 2<|zAa<|zAn<|E_a [] an (PV.bool (decide (zEf (fun x => !inB x 0 ((↑n.s.length:Int)-1)) l≥0))) [] ?_ rfl
 rw [zDM]
theorem f108_2 (n:Nw) (hb:n.s.length≤6) (l:List (Int)) (hl:l.length<4294967296):FG 108 [.sl (l.map I),.func 170 [nwV n] []] (.bool (l.all (fun x=>inB x 0 (n.s.length-1)))):=by
 refine zAf Tryz.f108 ?_
 refine zAd 2<|zAa<|zAd 2<|S_a [(12,.ret (PV.bool (l.any fun x => !inB x 0 ((↑n.s.length:Int)-1))) [])] (ap (f52_2 n (by omega) l (by omega)) an)<|zAc 2<|zAa<|zAn<|E_a [] an (PV.bool !l.any fun x => !inB x 0 ((↑n.s.length:Int)-1)) [] ?_ rfl
 simp [List.not_any_eq_all_not]
theorem f121_1 (n:Nw) (cs:List (Int×Int)) (e:Int) (st:List Int) (ho:OffOk n cs e st) (yK:st.length<1000000):FG 121 [nwV n,prs cs,I e,zBk st] (.tup [zDN n cs,prs (zBB n (zAU n cs e.toNat)),.agg [zYK n cs e (zBB n (zAU n cs e.toNat))],I 0]):=by
 have uN:=ho.ev
 have hcr:=uN.cr
 have vE:=hcr.w
 have hn:=hcr.nw
 have he:=uN.ev
 have hs6:=hn.sl.2
 have gr:=zBr (n:=n) (cs:=cs) e.toNat
 have hgl:=zGW (w:=zAU n cs e.toNat) hn
 have hin:(!st.all fun x=>inB x 0 (n.s.length-1))=false:=by
  simp only [Bool.not_eq_false',List.all_eq_true]
  intro s hs;have:=ho.rng s hs
  simp only [inB,Bool.and_eq_true,decide_eq_true_eq];omega
 refine zAf Tryz.f121 ?_
 refine zAd 6<|zAa<|zAd 3<|S_a [(10,.ret (PV.tup [zDN n cs,I 0]) [])] (ap (f90_1 n cs e (by omega)) an)<|zAc 6<|zAa<|zAh<|zAk 0<|zAd 3<|zAa<|zAE<|zAd 3<|S_a [(7,.ret (PV.bool (st.all fun x=>inB x 0 ((↑n.s.length:Int)-1))) [])] (ap (f108_2 n (by omega) st (by omega)) an)<|zAc 2<|zAa<|zFM (!st.all fun x=>inB x 0 ((↑n.s.length:Int)-1)) (fun k0=>(zAd 5<|zAa<|zAn<|E_a [] an (PV.tup [PV.nilp,PV.sl [],PV.agg [PV.nilf],I 1]) [] ?_ rfl)) (fun k0=>(zAl<|zAh<|zAd 1<|S_a [(0,.n st.length)] (ap (lnS I st) an)<|zAc 1<|zAa<|zAk 1 ?_))
 ·rw [hin] at k0;cases k0
 ·refine zAz (fun i=>i≤st.length) (fun (i:Nat)=>[(38,I (i:Nat))]) (fun i=>st.length-i) (0:Nat) (by omega) fun i hi=>?_
  by_cases yT:i<st.length
  ·have ju:has (st.take i) (st.getD i 0)=false:=by
    rw [zVJ,decide_eq_false_iff_not]
    intro hm
    have yW:=ho.nd
    rw [← List.take_append_drop i st,List.nodup_append] at yW
    refine yW.2.2 _ hm _ ?_ rfl
    rw [List.drop_eq_getElem_cons yT,zAA yT];exact List.mem_cons_self
   refine zAd 1<|zAa<|zAh<|zBa ((↑i:Int)<(↑st.length:Int)) (by omega)<|zAl<|zAh<|zAk 2<|zAd 1<|S_a [(2,.v (I (st.getD i 0)))] (ap (zDh (0) (by omega):(List.map I st)[i]? = some (I (st.getD i 0))) an)<|zAc 3<|zAa<|zAd 2<|S_a [(3,.ob),(0,.ob),(0,.v (zBk (List.take i st)))] (ap ((by exact zBb (by simp only [List.length_map,zzLn,zA1]<;>omega)):i.ble (List.map I st).length=true)<|ap ((by exact all_map _):((List.map I st).all fun x=>x.cells.length.beq ((fun x=>x.size) Tryz.prog.types[3]))=true)<|ap ((by simp):PV.sl (List.take i (List.drop 0 (List.map I st)))=zBk (List.take i st)) an)<|zAc 1<|S_a [(8,.ret (PV.bool (has (List.take i st) (st.getD i 0))) [])] (ap (f58 (List.take i st) (st.getD i 0) (by first | omega | (simp<;>omega))) an)<|zAa<|zFM (has (List.take i st) (st.getD i 0)) (fun k1=>(zAd 5<|zAa<|zAn<|E_a [] an (PV.tup [PV.nilp,PV.sl [],PV.agg [PV.nilf],I 5]) [] ?_ rfl)) (fun k1=>(zAl<|zAg<|S_a [(1,.v (I (↑(i+1):Int)))] (ap (wrN i) an)<|zAc 1<|zAa ?_))
   ·rw [ju] at k1;cases k1
   ·exact ⟨i+1,by omega,by omega,by kernel_rfl,by kernel_rfl⟩
  ·refine zAd 1<|zAa<|zAh<|zA0 ((↑i:Int)<(↑st.length:Int)) (by omega)<|zAL 1<|zAd 3<|S_a [(7,.ret (hdV (zAU n cs e.toNat)) [])] (ap (f92 n cs e (by omega) (by omega)) an)<|S_a [(7,.ret (PV.own 2 (List.map prV (zBB n (zAU n cs e.toNat)))) [])] (ap (f91 n cs (zAU n cs e.toNat) (by omega) (by omega)) an)<|zAc 1<|S_a [(3,.v (prs (zBB n (zAU n cs e.toNat))))] (ap ((zT5 (zAN _)):PV.sl (zAv (List.map prV (zBB n (zAU n cs e.toNat))))=prs (zBB n (zAU n cs e.toNat))) an)<|zAa<|zAd 8<|zAa<|zAn<|E_a [] an (PV.tup [(PV.agg (I n.h::prs n.l::PV.sl (List.map ntV n.n)::PV.sl (List.map zBk n.s)::prs cs::PV.map (List.map zBF (List.map pr2 n.l))::(zAV (zAj n) 8++zAV (zBl n) 8))).ref,prs (zBB n (zAU n cs e.toNat)),PV.agg [PV.func 173 [] [(PV.agg (I n.h::prs n.l::PV.sl (List.map ntV n.n)::PV.sl (List.map zBk n.s)::prs cs::PV.map (List.map zBF (List.map pr2 n.l))::(zAV (zAj n) 8++zAV (zBl n) 8))).ref.ref,(prs (zBB n (zAU n cs e.toNat))).ref,(I e).ref]],I 0]) [] rfl rfl
theorem f173 (n:Nw) (cs l:List (Int×Int)) (e:Int) (c:Int×Int) (ho:CrW n cs) (hl:cs.length≤16) (he:0≤e∧e≤1000) (qt:l.length≤1000) (hm:∀ g∈l,(0≤g.1∧g.1<n.h)∧(0≤g.2∧g.2<n.n.length)) (hc:(0≤c.1∧c.1<n.n.length)∧(0≤c.2∧c.2<n.s.length)):FG 173 [prV c,.ref (zDN n cs),.ref (prs l),.ref (I e)] (.sl ((zH5 n (zAU n (cs++[c]) e.toNat) l).map prV)):=by
 refine zAf Tryz.f173 ?_
 refine zAd 2<|zAa<|zAd 4<|S_a [(11,.ret (PV.own 2 (List.map prV (zH5 n (zAU n (cs++[c]) e.toNat) l))) [])] (ap (f119 n cs l e c (by omega) (by omega) (by omega) (by omega) (by omega) (by omega)) an)<|zAc 1<|zAa<|zAn<|E_a [(1,.envv ([(4,(PV.agg [I c.fst,I c.snd]).box),(5,prs (zH5 n (zAU n (cs++[c]) e.toNat) l))]) (prs (zH5 n (zAU n (cs++[c]) e.toNat) l)))] (ap (And.intro (Eq.trans (by kernel_rfl:Env.frz [(4,(PV.agg [I c.fst,I c.snd]).box),(5,PV.own 2 (List.map prV (zH5 n (zAU n (cs++[c]) e.toNat) l)))] 5 []=some [(4,(PV.agg [I c.fst,I c.snd]).box),(5,PV.sl (zAv (List.map prV (zH5 n (zAU n (cs++[c]) e.toNat) l))))]) ((by simp only [show zAv (List.map prV (zH5 n (zAU n (cs++[c]) e.toNat) l))=List.map prV (zH5 n (zAU n (cs++[c]) e.toNat) l) from (by first | exact zAN _ | exact zA2 _ | exact zAW _ | exact zA8 (zA2 _) | exact zA8 (zAW _) | exact zC6 (by simp [zCb]) (zAN _))]):some [(4,(PV.agg [I c.fst,I c.snd]).box),(5,PV.sl (zAv (List.map prV (zH5 n (zAU n (cs++[c]) e.toNat) l))))]=some [(4,(PV.agg [I c.fst,I c.snd]).box),(5,prs (zH5 n (zAU n (cs++[c]) e.toNat) l))])) (zU0 (by first | exact zAN _ | exact zA2 _ | exact zAW _):PV.mapW (inl 5 [] (PV.own 2 (List.map prV (zH5 n (zAU n (cs++[c]) e.toNat) l)))) (PV.bor 5 [] 2 0 (List.map prV (zH5 n (zAU n (cs++[c]) e.toNat) l)).length)=prs (zH5 n (zAU n (cs++[c]) e.toNat) l))) an) (prs (zH5 n (zAU n (cs++[c]) e.toNat) l)) [] rfl rfl
end Go.Eng
namespace Go.Eng
open Go Go.Proofs
end Go.Eng
namespace Go.Eng
open Go Go.Proofs
end Go.Eng
set_option maxRecDepth 10000
set_option maxHeartbeats 4000000
namespace Go.Eng
open Go Go.Proofs
section
variable [Yo]
theorem f50_ex (n:Nw) (l:List Int) (a:Nat) (t most:Int) (ho:NwOk n) (h:zDU l a) (hm:0≤most∧most≤16):∃ v h',zBC Tryz.prog zCK 50 [zPs,nwV n,I most] [zBR l a t] v h'∧∃ (cs:List (Int×Int)) (a':Nat) (t':Int),v = .own 2 (cs.map prV)∧h'=[zBR l a' t']∧(cs.length:Int)≤most∧(∀ c∈cs,(0≤c.1∧c.1<n.n.length)∧(0≤c.2∧c.2<n.s.length))∧zDU l a':=by
 have ud:=ho.nl
 have hs6:=ho.sl
 have g1:=zCx h
 have s1:=zCC l a t most
 refine zLL Tryz.f50 _ ?_
 refine zAd 2<|zAa<|zAd 1<|zAa<|zAh<|zAd 2<|S_a [(6,.ret (I (zAp l a t most)) ([zBR l (zAC l a) (zAI l a t)]))] (ap (f129 l a t most (by omega) (by omega)) an)<|zAc 1<|zAa<|zAk 0 ?_
 have ga:0≤zAp l a t most∧zAp l a t most≤most:=by omega
 generalize zAp l a t most=M at *
 clear s1
 generalize zAI l a t=T0 at *
 generalize zAC l a=A0 at *
 refine zAz (fun (i,q,a,_)=>(i:Int)≤M∧q.length=i∧(∀ c∈q,(0≤c.1∧c.1<n.n.length)∧(0≤c.2∧c.2<n.s.length))∧zDU l a) (fun ((i:Nat),(q:List (Int×Int)),(a:Nat),(t:Int))=>[(7,.own 2 (q.map prV)),(11,I (i:Nat)),(50000000,zBR l a t)]) (fun (i,_,_,_)=>M.toNat-i) ((0:Nat),([]:List (Int×Int)),A0,T0) ⟨by omega,rfl,fun c hc=>absurd hc List.not_mem_nil,g1⟩ fun (i,q,a,t) ⟨hiM,qr,hq,ha⟩=>?_
 by_cases yT:(i:Int)<M
 ·have g2:=zCx ha
  have g3:=zCx g2
  have s2:=zCC l a t ((n.n.length-1:Nat):Int)
  have s3:=zCC l (zAC l a) (zAI l a t) ((n.s.length-1:Nat):Int)
  have uM:∀ c∈q++[(zAp l a t ((n.n.length-1:Nat):Int),zAp l (zAC l a) (zAI l a t) ((n.s.length-1:Nat):Int))],(0≤c.1∧c.1<n.n.length)∧(0≤c.2∧c.2<n.s.length):=fun c hc=>by
   rcases List.mem_append.1 hc with hc | hc
   ·exact hq c hc
   ·rw [List.mem_singleton] at hc;subst hc;simp only;omega
  clear hq
  refine zAd 1<|zAa<|zAh<|zBa ((↑i:Int)<M) (by omega)<|zAl<|zAh<|zAk 1<|zAg<|zAc 4<|S_a [(0,.n n.n.length)] (ap (lnS ntV n.n) an)<|S_a [(1,.v (I (↑(n.n.length-1):Int)))] (ap ((zCr (by omega) (by omega)):I (IntKind.i64.wrap ((↑n.n.length:Int)-1))=I (↑(n.n.length-1):Int)) an)<|S_a [(6,.ret (I (zAp l a t (↑(n.n.length-1):Int))) ([zBR l (zAC l a) (zAI l a t)]))] (ap (f129 l a t ((↑(n.n.length-1):Int)) (by omega) (by omega)) an)<|zAc 3<|S_a [(0,.n n.s.length)] (ap (lnS zBk n.s) an)<|S_a [(1,.v (I (↑(n.s.length-1):Int)))] (ap ((zCr (by omega) (by omega)):I (IntKind.i64.wrap ((↑n.s.length:Int)-1))=I (↑(n.s.length-1):Int)) an)<|S_a [(6,.ret (I (zAp l (zAC l a) (zAI l a t) (↑(n.s.length-1):Int))) ([zBR l (zAC l (zAC l a)) (zAI l (zAC l a) (zAI l a t))]))] (ap (f129 l (zAC l a) (zAI l a t) ((↑(n.s.length-1):Int)) (by omega) (by omega)) an)<|zAc 2<|S_a [(4,.ob),(0,.ob),(0,.yes),(2,.v (PV.own 2 (List.map prV (q++[(zAp l a t (↑(n.n.length-1):Int),zAp l (zAC l a) (zAI l a t) (↑(n.s.length-1):Int))]))))] (ap (blz (List.map prV q))<|ap ((by exact zBb (by simp only [List.length_map,zzLn,zA1]<;>omega)):((List.map prV q).length + [PV.agg [I (zAp l a t (↑(n.n.length-1):Int)),I (zAp l (zAC l a) (zAI l a t) (↑(n.s.length-1):Int))]].length).ble zA1=true)<|ap ((by exact zBN (by simp<;>omega)):(0+(List.map prV q).length).beq (List.map prV q).length=true)<|ap ((zA9 (zBP (by kernel_rfl))):PV.own 2 (List.map prV q++[PV.agg [I (zAp l a t (↑(n.n.length-1):Int)),I (zAp l (zAC l a) (zAI l a t) (↑(n.s.length-1):Int))]])=PV.own 2 (List.map prV (q++[(zAp l a t (↑(n.n.length-1):Int),zAp l (zAC l a) (zAI l a t) (↑(n.s.length-1):Int))]))) an)<|zAc 1<|zAa<|zAg<|S_a [(1,.v (I (↑(i+1):Int)))] (ap (wrN i) an)<|zAc 1<|zAa ?_
  exact ⟨(i+1,q++[(zAp l a t ((n.n.length-1:Nat):Int),zAp l (zAC l a) (zAI l a t) ((n.s.length-1:Nat):Int))],zAC l (zAC l a),zAI l (zAC l a) (zAI l a t)),⟨by omega,by rw [List.length_append,qr];rfl,uM,g3⟩,by simp only;omega,by kernel_rfl,by kernel_rfl⟩
 ·refine zAd 1<|zAa<|zAh<|zA0 ((↑i:Int)<M) (by omega)<|zAL 0<|zAd 1<|S_a [(2,.yes)] (ap ((by exact zBN (by simp<;>omega)):(Nat.beq 0 0&&(List.map prV q).length.beq (List.map prV q).length)=true) an)<|zAa<|zAn<|E_q [(1,.yes),(1,.v (PV.own 2 (List.map prV q)))] (ap (blz (List.map prV q))<|ap ((zA9 zBz):PV.own 2 (List.take (List.map prV q).length (List.drop 0 (List.map prV q)))=PV.own 2 (List.map prV q)) an) (PV.own 2 (List.map prV q)) ([(PV.agg [PV.sl (List.map u8 l),I (↑a:Int),PV.int IntKind.u32 t]).box]) ?_
  exact ⟨q,a,t,rfl,rfl,by omega,hq,ha⟩
end
end Go.Eng
set_option maxRecDepth 10000
set_option maxHeartbeats 4000000
namespace Go.Eng
open Go Go.Proofs
end Go.Eng
set_option maxRecDepth 100000
set_option maxHeartbeats 4000000
namespace Go.Eng
open Go Go.Proofs
def zDR:Nw:=⟨4,[(0,1),(1,2),(2,3)],[(-1,false),(0,true)],[[0],[0,3]]⟩
def zFh:List (Int×Int):=[(0,1),(1,0)]
def zIw:List (Int×Int):=[(2,0),(3,0)]
theorem zUm:NwOk zDR:=zU2 (by decide +kernel)
theorem zJ1:CrOk zDR zFh:=zVa (by decide +kernel)
theorem zOe:zBB zDR (zAU zDR zFh (1:Int).toNat)=zIw:=by decide +kernel
theorem zVf:OffOk zDR zFh 1 [0,1]:=⟨by decide +kernel,zTK (by decide +kernel),by decide,by decide⟩
theorem zWJ:zH5 zDR (zAU zDR (zFh++[(1,0)]) (1:Int).toNat) zIw=[]:=by decide +kernel
theorem zWE:zH5 zDR (zAU zDR (zFh++[(1,1)]) (1:Int).toNat) zIw=zIw:=by decide +kernel
def zZA:List (PV×PV):=[(.agg [I 1,I 0],.sl []),(.agg [I 1,I 1],.sl (zIw.map prV))]
abbrev zRy:List PV:=[.addr 50000000 [] 0 0 none,.addr 50000001 [] 0 0 none,.addr 50000002 [] 0 0 none,.addr 50000003 [] 0 0 none,.addr 50000004 [] 0 0 none]
abbrev zQc (b:Bool) (l:List PV):List PV:=[.box (.bool b),.box (.own 2 l),.box (.own 2 [prV (1,0),prV (1,1)]),.box (.omap [(prV (1,0),.sl []),(prV (1,1),prs zIw)]),.box (.func 187 [] zRy)]
theorem zPK:zBC Tryz.prog zCK 187 (.nils 0::prs zIw::zRy) (zQc false []) (.tup []) (zQc true [prV (1,1)]):=zBC.closed 60
theorem zRN:FG 134 [zDN zDR zFh,.agg [zYK zDR zFh 1 zIw],prs zIw,I 0,zBk [0,1]] (.tup [.own 2 [.agg [I 1,I 1]],.bool true]):=by
 have h0:FG 173 [.agg [I 1,I 0],.ref (zDN zDR zFh),.ref (prs zIw),.ref (I 1)] (.sl []):=by
  have:=f173 zDR zFh zIw 1 (1,0) zJ1.w (by decide) (by decide) (by decide) (by decide) (by decide)
  rw [zWJ] at this;exact this
 have h1:FG 173 [.agg [I 1,I 1],.ref (zDN zDR zFh),.ref (prs zIw),.ref (I 1)] (.sl (zIw.map prV)):=by
  have:=f173 zDR zFh zIw 1 (1,1) zJ1.w (by decide) (by decide) (by decide) (by decide) (by decide)
  rw [zWE] at this;exact this
 refine zAf Tryz.f134 ?_
 refine zAd 3<|zAa<|zAd 3<|zAa<|zAd 1<|zAa<|zAh<|zAd 1<|zAc 1<|zAc 1<|zAa<|zAk 0 ?_
 refine zAz (fun j=>j≤2) (fun (j:Nat)=>[(12,.box (.omap (zZA.take j))),(13,.box (.own 2 (([(1,0),(1,1)]:List (Int×Int)).take j |>.map prV))),(23,I (j:Nat))]) (fun j=>2-j) (0:Nat) (by omega) fun j hj=>?_
 have hj3:j=0∨j=1∨j=2:=by omega
 rcases hj3 with e | e | e
 ·subst e
  refine zAd 1<|zAa<|zAh<|zD8<|zAl<|zAh<|zAk 1<|zAd 3<|zAa<|zAd 10<|zAa<|zAg<|zAc 2<|zAc 1<|zAc 6<|S_a [(9,.ret (PV.sl []) [])] (ap h0 an)<|zAc 4<|zAa<|zAg<|zAc 2<|zAa ?_
  exact ⟨1,by omega,by omega,by kernel_rfl,by kernel_rfl⟩
 ·subst e
  refine zAd 1<|zAa<|zAh<|zD8<|zAl<|zAh<|zAk 1<|zAd 3<|zAa<|zAd 10<|zAa<|zAg<|zAc 2<|zAc 1<|zAc 6<|S_a [(9,.ret (prs zIw) [])] (ap h1 an)<|zAc 4<|zAa<|zAg<|zAc 2<|zAa ?_
  exact ⟨2,by omega,by omega,by kernel_rfl,by kernel_rfl⟩
 ·subst e
  have yS:=zPK
  refine zAd 1<|zAa<|zAh<|zAE<|zAL 0<|zAd 1<|zAa<|zAd 2<|zAa<|zAd 1<|zAa<|zAd 2<|zAa<|zAd 2<|S_a [(8,.ret (PV.tup []) (zQc true [prV (1,1)]))] (ap yS an)<|zAa<|zAd 1<|zAc 1<|zAc 1<|zAc 1<|zAa<|zAn<|E_a [] an (PV.tup [PV.own 2 [PV.agg [I (1,1).fst,I (1,1).snd]],PV.bool true]) [] rfl rfl
theorem zPY:FG 57 [nwV zDR,prs zFh,I 1,zBk [0,1]] (.tup [.own 2 [.agg [I 1,I 1]],I 0]):=by
 have ho:=f121_1 zDR zFh 1 [0,1] zVf (by decide)
 rw [zOe] at ho
 have LF:FG 135 [zDN zDR zFh,prs zIw,I 0] (.own 2 (zIw.map prV)):=by
  have:=f135 zDR zFh zIw 0 zUm (by decide) (by decide)
  rwa [show ofL zDR 0 zIw=zIw from by decide +kernel] at this
 have hc:=zRN
 refine zAf Tryz.f57 ?_
 refine zAd 3<|zAa<|zAd 4<|S_a [(12,.ret (PV.tup [zDN zDR zFh,prs zIw,PV.agg [zYK zDR zFh 1 zIw],I 0]) [])] (ap ho an)<|zAc 10<|zAa<|zAh<|zAd 2<|zAa<|zAE<|zAl<|zAd 1<|zAa<|zAh<|zAd 2<|zAc 1<|zAc 1<|zAa<|zAk 0 ?_
 refine zAz (fun j=>j≤2) (fun (j:Nat)=>[(14,.own 2 (([(1,1)]:List (Int×Int)).take j |>.map prV)),(34,I (j:Nat))]) (fun j=>2-j) (0:Nat) (by omega) fun j hj=>?_
 have hj3:j=0∨j=1∨j=2:=by omega
 rcases hj3 with e | e | e
 ·subst e
  refine zAd 1<|zAa<|zAh<|zD8<|zAl<|zAh<|zAk 1<|zAd 2<|zAa<|zAh<|zAd 8<|zAa<|zAE<|zAl<|zAd 5<|S_a [(9,.ret (PV.own 2 (List.map prV zIw)) [])] (ap LF an)<|zAc 2<|S_a [(14,.ret (PV.tup [PV.own 2 [PV.agg [I 1,I 1]],PV.bool true]) [])] (ap hc an)<|zAc 5<|zAa<|zAh<|zAd 2<|zAa<|zAE<|zAl<|zAg<|zAc 4<|zAa<|zAg<|zAc 2<|zAa ?_
  exact ⟨1,by omega,by omega,by kernel_rfl,by kernel_rfl⟩
 ·subst e
  refine zAd 1<|zAa<|zAh<|zD8<|zAl<|zAh<|zAk 1<|zAd 2<|zAa<|zAh<|zAd 8<|zAa<|zD8<|zAL 1<|zAg<|zAc 2<|zAa ?_
  exact ⟨2,by omega,by omega,by kernel_rfl,by kernel_rfl⟩
 ·subst e
  refine zAd 1<|zAa<|zAh<|zAE<|zAL 0<|zAd 3<|zAa<|zAn<|E_a [] an (PV.tup [PV.own 2 [PV.agg [I (1,1).fst,I (1,1).snd]],I 0]) [] rfl rfl
end Go.Eng
set_option maxRecDepth 10000
set_option maxHeartbeats 4000000
namespace Go.Eng
open Go Go.Proofs
theorem f38_2 (n:Nw) (cs:List (Int×Int)) (h:Int) (x:Int) (ho:CrOk n cs) (hh:0≤h∧h<n.h) (hx:0≤x∧x<n.n.length) (hm:∀ j,j≤12→(zAU n cs j).getD (h.toNat*8+((zAj n).getD x.toNat 0).toNat) 0≠x):FG 38 [nwV n,prs cs,I h,I x] (.tup [.own 1 [],I 6]):=by
 have hn:=ho.nw
 have vE:=ho.w
 have hb:=hn.h
 have ud:=hn.nl
 have hin:inB x 0 (n.n.length-1)=true:=by simp only [inB,Bool.and_eq_true,decide_eq_true_eq];omega
 have hih:inB h 0 (n.h-1)=true:=by simp only [inB,Bool.and_eq_true,decide_eq_true_eq];omega
 have hfb:=zB7 hn x.toNat (by omega)
 refine zAf Tryz.f38 ?_
 refine zAd 4<|zAa<|zAd 2<|S_a [(8,.ret (PV.tup [zDN n cs,I 0]) [])] (ap (f99_1 n cs (by omega)) an)<|zAc 5<|zAa<|zAh<|zAk 0<|zAd 3<|zAa<|zAE<|zAd 2<|S_a [(8,.ret (PV.bool (inB h 0 (n.h-1))) [])] (ap (f109 n h (by omega)) an)<|zAc 2<|zFg 32 (!inB h 0 (n.h-1)) (fun k0=>(zAc 6<|zAa<|zD8<|zAd 2<|zAa<|zAn<|E_a [] an (PV.tup [PV.own 1 [],I 1]) [] ?_ rfl)) (fun k0=>(zAc 2<|S_a [(8,.ret (PV.bool (inB x 0 ((↑n.n.length:Int)-1))) [])] (ap (f106 n x (by first | omega | (simp<;>omega))) an)<|zAc 3<|zAa<|zFM (!inB x 0 ((↑n.n.length:Int)-1)) (fun k1=>(zAd 2<|zAa<|zAn<|E_a [] an (PV.tup [PV.own 1 [],I 1]) [] ?_ rfl)) (fun k1=>(zAl<|zAd 4<|S_a [(0,.ob),(1,.ob),(0,.v ((I ((zAj n).getD x.toNat 0)).ref))] (ap ((by exact zAu (by omega)):decide (0≤x)=true)<|ap ((by exact zAu (by omega)):decide (x.toNat<8)=true)<|ap (zGn (F:=zAj n) (m:=8) (j:=x.toNat) (by omega):zCl (PV.agg (zAV (zAj n) 8)).ref (x.toNat*(fun x=>x.size) Tryz.prog.types[3]) none=some (I ((zAj n).getD x.toNat 0)).ref) an)<|zAc 3<|zAa<|zAd 1<|S_a [(5,.ret (hdV (zOl n cs)) [])] (ap (f100 n cs (by omega)) an)<|zAc 3<|zAa<|zAh<|zAk 1 ?_))))
 ·exact absurd (by assumption:(!inB h 0 (n.h-1))=true) (by rw [hih];simp)
 ·exact absurd (by assumption:(!inB x 0 (n.n.length-1))=true) (by rw [hin];simp)
 ·generalize hc:((zAj n).getD x.toNat 0)=c at *
  refine zAz (fun (j,S)=>j≤12∧S=zRh n cs (j+1)) (fun (j,S)=>[(13,zUg S)]) (fun (j,_)=>12-j) ((0:Nat),[zOl n cs]) ⟨by omega,rfl⟩ fun (j,S) ⟨hj,hS⟩=>?_
  have wa:S.length=j+1:=by rw [hS];simp [zRh]
  have qM:S.getD (S.length-1) []=zAU n cs j:=by rw [wa,hS];exact zLv (by omega)
  have gr:(S.getD (S.length-1) []).length=80:=by rw [qM];exact zBr j
  have hI:=hm j hj
  rw [← qM] at hI
  have hSS:S++[zCg n (S.getD (S.length-1) [])]=zRh n cs (j+1+1):=by rw [zMO (k:=j+1),← hS,qM];rfl
  by_cases hjk:j<12
  ·refine zAh<|zAh<|zAg<|S_a [(1,.v (PV.bor 13 [(0,0)] 80 0 S.length))] (ap ((by simp):PV.bor 13 [(0,0)] 80 0 (List.map hdV S).length=PV.bor 13 [(0,0)] 80 0 S.length) an)<|S_a [(1,.v (PV.bor 13 [(0,0)] 80 0 S.length))] (ap ((by simp):PV.bor 13 [(0,0)] 80 0 (List.map hdV S).length=PV.bor 13 [(0,0)] 80 0 S.length) an)<|zAc 1<|S_a [(1,.v (I (↑(S.length-1):Int)))] (ap ((zCr (by omega) (by omega)):I (IntKind.i64.wrap ((↑S.length:Int)-1))=I (↑(S.length-1):Int)) an)<|zAc 2<|S_a [(2,.ob),(1,.n (S.length-1))] (ap ((by exact zAu (by omega)):decide (S.length-1<S.length)=true)<|ap ((by simp):some (0+(S.length-1))=some (S.length-1)) an)<|S_a [(0,.ob),(1,.ob)] (ap ((by exact zAu (by omega)):decide (0≤h)=true)<|ap ((by exact zAu (by omega)):decide (h.toNat<10)=true) an)<|S_a [(0,.ob),(1,.ob)] (ap ((by exact zAu (by omega)):decide (0≤c)=true)<|ap ((by exact zAu (by omega)):decide (c.toNat<8)=true) an)<|S_a [(0,.cs true ([I ((S.getD (S.length-1) []).getD (h.toNat*8+c.toNat) 0)]))] (ap (zC8 (q:=PV.own 80 (List.map hdV S)) (xs:=List.map hdV S) (x:=PV.agg (zAV (S.getD (S.length-1) []) 80)) (zMd (xs:=[PV.own 80 (List.map hdV S)]) (x:=PV.own 80 (List.map hdV S)) (y:=PV.own 80 (List.map hdV S)) rfl rfl) (zDh [] (by omega)) (zEV (F:=S.getD (S.length-1) []) (m:=80) (j:=h.toNat*8+c.toNat) (by first | rfl | exact zB1 (by kernel_rfl) | exact zB2 (by kernel_rfl) | exact zDL (by kernel_rfl) (by kernel_rfl) | exact zDm (by kernel_rfl) | exact zDS (by kernel_rfl) (by kernel_rfl) | exact zDD (by kernel_rfl) | (simp;done)) (by omega)):zAr 13 (PV.own 80 (List.map hdV S)).box [(0,0)] (S.length-1) (0+h.toNat*(fun x=>x.size) Tryz.prog.types[128]+c.toNat*(fun x=>x.size) Tryz.prog.types[3]) 1=some (true,[I ((S.getD (S.length-1) []).getD (h.toNat*8+c.toNat) 0)])) an)<|zAc 2<|zAa<|zJl ((S.getD (S.length-1) []).getD (h.toNat*8+c.toNat) 0=x) (by omega)<|zAl<|zAk 2<|zAh<|zAh<|zAg<|S_a [(1,.v (PV.bor 13 [(0,0)] 80 0 S.length))] (ap ((by simp):PV.bor 13 [(0,0)] 80 0 (List.map hdV S).length=PV.bor 13 [(0,0)] 80 0 S.length) an)<|zAc 2<|zAa<|zA0 ((↑S.length:Int)>12) (by omega)<|zAl<|zAg<|S_a [(1,.v (PV.bor 13 [(0,0)] 80 0 S.length))] (ap ((by simp):PV.bor 13 [(0,0)] 80 0 (List.map hdV S).length=PV.bor 13 [(0,0)] 80 0 S.length) an)<|zAc 1<|S_a [(1,.v (PV.bor 13 [(0,0)] 80 0 S.length))] (ap ((by simp):PV.bor 13 [(0,0)] 80 0 (List.map hdV S).length=PV.bor 13 [(0,0)] 80 0 S.length) an)<|S_a [(1,.v (PV.bor 13 [(0,0)] 80 0 S.length))] (ap ((by simp):PV.bor 13 [(0,0)] 80 0 (List.map hdV S).length=PV.bor 13 [(0,0)] 80 0 S.length) an)<|zAc 1<|S_a [(1,.v (I (↑(S.length-1):Int)))] (ap ((zCr (by omega) (by omega)):I (IntKind.i64.wrap ((↑S.length:Int)-1))=I (↑(S.length-1):Int)) an)<|S_a [(2,.ob),(1,.n (S.length-1))] (ap ((by exact zAu (by omega)):decide (S.length-1<S.length)=true)<|ap ((by simp):some (0+(S.length-1))=some (S.length-1)) an)<|S_a [(0,.cs true (zAV (S.getD (S.length-1) []) 80))] (ap (zC8 (q:=PV.own 80 (List.map hdV S)) (xs:=List.map hdV S) (x:=PV.agg (zAV (S.getD (S.length-1) []) 80)) (zMd (xs:=[PV.own 80 (List.map hdV S)]) (x:=PV.own 80 (List.map hdV S)) (y:=PV.own 80 (List.map hdV S)) rfl rfl) (zDh [] (by omega)):zAr 13 (PV.own 80 (List.map hdV S)).box [(0,0)] (S.length-1) 0 Tryz.prog.types[130].size=some (true,zAV (S.getD (S.length-1) []) 80)) an)<|S_a [(7,.ret (hdV (zCg n (S.getD (S.length-1) []))) [])] (ap (f101 n cs (S.getD (S.length-1) []) (by omega) (by omega)) an)<|zAc 1<|S_a [(4,.ob),(0,.ob),(0,.yes),(2,.v (PV.own 80 (List.map hdV (S++[zCg n (S.getD (S.length-1) [])]))))] (ap ((by exact zBb (by simp only [List.length_map,zzLn,zA1]<;>omega)):(0+S.length).ble (List.map hdV S).length=true)<|ap ((by exact zBb (by simp only [List.length_map,zzLn,zA1]<;>omega)):((List.map hdV S).length + [PV.agg (zAV (zCg n (S.getD (S.length-1) [])) 80)].length).ble zA1=true)<|ap ((by exact zBN (by simp<;>omega)):(0+S.length).beq (List.map hdV S).length=true)<|ap ((zA9 (zBP (by kernel_rfl))):PV.own 80 (List.map hdV S++[PV.agg (zAV (zCg n (S.getD (S.length-1) [])) 80)])=PV.own 80 (List.map hdV (S++[zCg n (S.getD (S.length-1) [])]))) an)<|zAc 1<|zAa ?_
   exact ⟨(j+1,S++[zCg n (S.getD (S.length-1) [])]),⟨by omega,hSS⟩,by simp only;omega,by kernel_rfl,by kernel_rfl⟩
  ·refine zAh<|zAh<|zAg<|S_a [(1,.v (PV.bor 13 [(0,0)] 80 0 S.length))] (ap ((by simp):PV.bor 13 [(0,0)] 80 0 (List.map hdV S).length=PV.bor 13 [(0,0)] 80 0 S.length) an)<|S_a [(1,.v (PV.bor 13 [(0,0)] 80 0 S.length))] (ap ((by simp):PV.bor 13 [(0,0)] 80 0 (List.map hdV S).length=PV.bor 13 [(0,0)] 80 0 S.length) an)<|zAc 1<|S_a [(1,.v (I (↑(S.length-1):Int)))] (ap ((zCr (by omega) (by omega)):I (IntKind.i64.wrap ((↑S.length:Int)-1))=I (↑(S.length-1):Int)) an)<|zAc 2<|S_a [(2,.ob),(1,.n (S.length-1))] (ap ((by exact zAu (by omega)):decide (S.length-1<S.length)=true)<|ap ((by simp):some (0+(S.length-1))=some (S.length-1)) an)<|S_a [(0,.ob),(1,.ob)] (ap ((by exact zAu (by omega)):decide (0≤h)=true)<|ap ((by exact zAu (by omega)):decide (h.toNat<10)=true) an)<|S_a [(0,.ob),(1,.ob)] (ap ((by exact zAu (by omega)):decide (0≤c)=true)<|ap ((by exact zAu (by omega)):decide (c.toNat<8)=true) an)<|S_a [(0,.cs true ([I ((S.getD (S.length-1) []).getD (h.toNat*8+c.toNat) 0)]))] (ap (zC8 (q:=PV.own 80 (List.map hdV S)) (xs:=List.map hdV S) (x:=PV.agg (zAV (S.getD (S.length-1) []) 80)) (zMd (xs:=[PV.own 80 (List.map hdV S)]) (x:=PV.own 80 (List.map hdV S)) (y:=PV.own 80 (List.map hdV S)) rfl rfl) (zDh [] (by omega)) (zEV (F:=S.getD (S.length-1) []) (m:=80) (j:=h.toNat*8+c.toNat) (by first | rfl | exact zB1 (by kernel_rfl) | exact zB2 (by kernel_rfl) | exact zDL (by kernel_rfl) (by kernel_rfl) | exact zDm (by kernel_rfl) | exact zDS (by kernel_rfl) (by kernel_rfl) | exact zDD (by kernel_rfl) | (simp;done)) (by omega)):zAr 13 (PV.own 80 (List.map hdV S)).box [(0,0)] (S.length-1) (0+h.toNat*(fun x=>x.size) Tryz.prog.types[128]+c.toNat*(fun x=>x.size) Tryz.prog.types[3]) 1=some (true,[I ((S.getD (S.length-1) []).getD (h.toNat*8+c.toNat) 0)])) an)<|zAc 2<|zAa<|zJl ((S.getD (S.length-1) []).getD (h.toNat*8+c.toNat) 0=x) (by omega)<|zAl<|zAk 2<|zAh<|zAh<|zAg<|S_a [(1,.v (PV.bor 13 [(0,0)] 80 0 S.length))] (ap ((by simp):PV.bor 13 [(0,0)] 80 0 (List.map hdV S).length=PV.bor 13 [(0,0)] 80 0 S.length) an)<|zAc 2<|zAa<|zBa ((↑S.length:Int)>12) (by omega)<|zAd 2<|zAa<|zAn<|E_a [] an (PV.tup [PV.own 1 [],I 6]) [] rfl rfl
end Go.Eng
set_option maxRecDepth 100000
set_option maxHeartbeats 4000000
namespace Go.Eng
open Go Go.Proofs
theorem zVB:FG 83 [] (.tup [nwO zDR,.own 2 (zFh.map prV)]):=zBC.closed 20
theorem zSK:FG 22 [nwV zDR,prs zFh,I 1] (.tup [.own 2 [.agg [I 2,I 0],.agg [I 3,I 0]],I 0]):=by
 have:=f22_1 zDR zFh 1 (zTK (by decide +kernel))
 rw [zOe] at this;exact this
theorem zNv:FG 29 [nwV zDR,prs zFh] (.tup [I 3,I 0]):=f29_1 zDR zFh 3 zJ1 (by decide) (by decide +kernel) (by decide +kernel)
theorem zTq:FG 38 [nwV zDR,prs zFh,I 2,I 0] (.tup [.own 1 [I 3,I 2],I 0]):=by
 have:=f38_1 zDR zFh 2 0 1 zJ1 (by decide) (by decide) (by decide) (by decide +kernel) (by decide +kernel)
 rw [show bkL zDR zFh ((zAj zDR).getD (0:Int).toNat 0).toNat 0 1 [2]=[3,2] from by decide +kernel] at this;exact this
theorem zWQ:FG 38 [nwV zDR,prs zFh,I 1,I 0] (.tup [.own 1 [],I 6]):=f38_2 zDR zFh 1 0 zJ1 (by decide) (by decide) (by decide +kernel)
theorem zQl:FG 31 [nwV zDR,prs zFh] (.tup [I 3,I 0]):=by
 have:=f31_1 zDR zFh zJ1
 rw [if_pos (show zBB zDR (zAU zDR zFh 12)=[] from by decide +kernel),if_pos (show zBB zDR (zAU zDR zFh 12)=[] from by decide +kernel),show zQ3 zDR zFh 12=3 from by decide +kernel] at this;exact this
theorem zPo:FG 26 [nwV zDR,prs zFh,I 0] (.tup [.own 1 [I 3],I 0]):=by
 have:=f26_1 zDR zFh 0 (zTK (by decide +kernel))
 rw [show zGE (msl zDR (zBB zDR (zAU zDR zFh (0:Int).toNat)))=[3] from by decide +kernel] at this;exact this
theorem zRu:FG 86 [nwV zDR] (.tup [.own 1 [],I 0]):=by
 have:=f86_1 zDR zUm
 rw [show zEw (zTJ zDR) zDR.n.length=[] from by decide +kernel] at this;exact this
theorem f17:FG 17 [] (.bool true):=by
 have h1:=zVB
 have h2:=zSK
 have h3:=zNv
 have h4:=zTq
 have h5:=zWQ
 have h6:=zPY
 have h7:=zQl
 have h8:=zPo
 have h9:=zRu
 have l1:FG 78 [.sl [.agg [I 2,I 0],.agg [I 3,I 0]],.sl [.agg [I 2,I 0],.agg [I 3,I 0]]] (.bool true):=f78 [(2,0),(3,0)] [(2,0),(3,0)] (by decide)
 have l2:FG 28 [.sl [I 3,I 2],.sl [I 3,I 2]] (.bool true):=f28 [3,2] [3,2] (by decide)
 have l3:FG 34 [.sl [.agg [I 1,I 1]],.sl [.agg [I 1,I 1]]] (.bool true):=f34 [(1,1)] [(1,1)] (by decide)
 have l4:FG 28 [.sl [I 3],.sl [I 3]] (.bool true):=f28 [3] [3] (by decide)
 refine zAf Tryz.f17 ?_
 refine zAd 1<|zAa<|zAh<|zAg<|S_a [(4,.ret (PV.tup [nwO zDR,PV.own 2 (List.map prV zFh)]) [])] (ap h1 an)<|zAc 6<|zAa<|zAd 2<|S_a [(21,.ret (PV.tup [PV.own 2 [PV.agg [I 2,I 0],PV.agg [I 3,I 0]],I 0]) [])] (ap h2 an)<|zAc 5<|zAa<|zAd 2<|S_a [(19,.ret (PV.tup [I 3,I 0]) [])] (ap h3 an)<|zAc 5<|zAa<|zAd 2<|S_a [(23,.ret (PV.tup [PV.own 1 [I 3,I 2],I 0]) [])] (ap h4 an)<|zAc 5<|zAa<|zAd 2<|S_a [(23,.ret (PV.tup [PV.own 1 [],I 6]) [])] (ap h5 an)<|zAc 5<|zAa<|zAh<|zAd 19<|S_a [(10,.ret (PV.bool true) [])] (ap l1 an)<|zAc 9<|S_a [(10,.ret (PV.bool true) [])] (ap l2 an)<|zAc 2<|zAa<|zAE<|zAl<|zAd 3<|S_a [(24,.ret (PV.tup [PV.own 2 [PV.agg [I 1,I 1]],I 0]) [])] (ap h6 an)<|zAc 5<|zAa<|zAd 2<|S_a [(19,.ret (PV.tup [I 3,I 0]) [])] (ap h7 an)<|zAc 5<|zAa<|zAd 2<|S_a [(21,.ret (PV.tup [PV.own 1 [I 3],I 0]) [])] (ap h8 an)<|zAc 5<|zAa<|zAd 1<|S_a [(16,.ret (PV.tup [PV.own 1 [],I 0]) [])] (ap h9 an)<|zAc 5<|zAa<|zAd 18<|S_a [(10,.ret (PV.bool true) [])] (ap l3 an)<|zAc 8<|S_a [(10,.ret (PV.bool true) [])] (ap l4 an)<|zAc 3<|zAc 4<|zAa<|zAn<|E_a [] an (PV.bool true) [] rfl rfl
end Go.Eng
set_option maxRecDepth 10000
set_option maxHeartbeats 4000000
namespace Go.Eng
open Go Go.Proofs
theorem zYY {n:Nw} {cs:List (Int×Int)} (h:zGv n=0) (hl:cs.length≤16) (hc:∀ c∈cs,(0≤c.1∧c.1<n.n.length)∧(0≤c.2∧c.2<n.s.length)):CrOk n cs:=by
 refine zVa ?_
 have ha:(cs.all fun c=>zIn n c)=true:=List.all_eq_true.2 fun c hm=>by
  have:=hc c hm
  simp only [zIn,inB,Bool.and_eq_true,decide_eq_true_eq];omega
 have qH:¬ (cs.length:Int)>16:=by omega
 simp only [zP5,h,qH,ha,if_true,if_false];rfl
theorem zVb {n:Nw} {cs:List (Int×Int)} {e:Int} (h:CrOk n cs) (he:0≤e∧e≤12):EvOk n cs e:=by
 refine zTK ?_
 have hi:inB e 0 12=true:=by simp only [inB,Bool.and_eq_true,decide_eq_true_eq];omega
 simp only [zP3,h.err,hi,if_true]
end Go.Eng
set_option maxRecDepth 10000
set_option maxHeartbeats 4000000
namespace Go.Eng
open Go Go.Proofs
def evP (n:Nw) (x y:Int):Bool:=decide (y≥x)&&(decide (y<n.n.length)&&decide ((zAj n).getD y.toNat 0=(zAj n).getD x.toNat 0))
section
variable [Yo]
theorem f54 (n:Nw) (x:Int) (ho:NwOk n) (hx:0≤x∧x<n.n.length):FG 54 [nwV n,I x] (I ((zAj n).getD x.toNat 0)):=by
 have ud:=ho.nl
 refine zAf Tryz.f54 ?_
 refine zAd 2<|zAa<|zAh<|zAk 0 ?_
 refine zAz (fun (y:Int)=>∃ m:Nat,y=m∧m<n.n.length∧(zAj n).getD m 0=(zAj n).getD x.toNat 0) (fun y=>[(1,I y)]) (fun y=>y.toNat) x ⟨x.toNat,by omega,by omega,rfl⟩ fun y ⟨m,hy,hm,hc⟩=>?_
 subst hy
 have ham:=ho.na m hm
 have vU:=zRY ho hm
 by_cases qu:(n.n.getD m default).1 = -1
 ·rw [if_pos qu] at vU
  rw [← hc,vU]
  refine zAh<|zAd 3<|S_a [(2,.v (PV.agg [I (n.n.getD m default).fst,PV.bool (n.n.getD m default).snd]))] (ap (zDh default (by omega):(List.map ntV n.n)[m]? = some (PV.agg [I (n.n.getD m default).fst,PV.bool (n.n.getD m default).snd])) an)<|zAc 3<|zAa<|zK6 ((n.n.getD m default).fst = -1) (by omega)<|zAL 0<|zAd 2<|zAa<|zAn<|E_a [] an (I (↑m:Int)) [] rfl rfl
 ·rw [if_neg qu] at vU
  refine zAh<|zAd 3<|S_a [(2,.v (PV.agg [I (n.n.getD m default).fst,PV.bool (n.n.getD m default).snd]))] (ap (zDh default (by omega):(List.map ntV n.n)[m]? = some (PV.agg [I (n.n.getD m default).fst,PV.bool (n.n.getD m default).snd])) an)<|zAc 3<|zAa<|zJl ((n.n.getD m default).fst = -1) (by omega)<|zAl<|zAk 1<|zAg<|zAc 3<|S_a [(2,.v (PV.agg [I (n.n.getD m default).fst,PV.bool (n.n.getD m default).snd]))] (ap (zDh default (by omega):(List.map ntV n.n)[m]? = some (PV.agg [I (n.n.getD m default).fst,PV.bool (n.n.getD m default).snd])) an)<|zAc 3<|zAa ?_
  exact ⟨(n.n.getD m default).1,⟨(n.n.getD m default).1.toNat,by omega,by omega,by rw [← vU];exact hc⟩,by omega,by kernel_rfl,by kernel_rfl⟩
theorem f53 (n:Nw) (x:Int) (ho:NwOk n) (hx:0≤x∧x<n.n.length) (y:Int):FG 53 [I y,.ref (I x),.ref (nwV n)] (.bool (evP n x y)):=by
 have ud:=ho.nl
 refine zAf Tryz.f53 ?_
 by_cases h1:y≥x
 ·by_cases h2:y<n.n.length
  ·refine zAd 1<|zAa<|zAd 4<|zLO 8 (y≥x) (by omega) (zAc 3<|S_a [(0,.n n.n.length)] (ap (lnS ntV n.n) an)<|zAc 3<|zLO 15 (y<(↑n.n.length:Int)) (by omega) (zAc 2<|S_a [(8,.ret (I ((zAj n).getD y.toNat 0)) [])] (ap (f54 n y (by omega) (by first | omega | (simp<;>omega))) an)<|zAc 2<|S_a [(8,.ret (I ((zAj n).getD x.toNat 0)) [])] (ap (f54 n x (by omega) (by omega)) an)<|zAc 3<|zAa<|zAn<|E_a [] an (PV.bool ((zAj n).getD y.toNat 0==(zAj n).getD x.toNat 0)) [] ?_ rfl))
   simp only [evP,decide_eq_true h1,decide_eq_true h2,Bool.true_and]
   rfl
  ·refine zAd 1<|zAa<|zAd 4<|zLO 8 (y≥x) (by omega) (zAc 3<|S_a [(0,.n n.n.length)] (ap (lnS ntV n.n) an)<|zAc 3<|zFe 15 (y<(↑n.n.length:Int)) (by omega) (zAc 9<|zAa<|zAn<|E_a [] an (PV.bool false) [] ?_ rfl))
   simp only [evP,decide_eq_true h1,decide_eq_false h2,Bool.true_and,Bool.false_and]
 ·refine zAd 1<|zAa<|zAd 4<|zFe 8 (y≥x) (by omega) (zAc 16<|zAa<|zAn<|E_a [] an (PV.bool false) [] ?_ rfl)
  simp only [evP,decide_eq_false h1,Bool.false_and]
theorem f131_8 (n:Nw) (z:Int) (ho:NwOk n) (hz:0≤z∧z<n.n.length) (l:List (Int)) (hl:l.length<4294967296):FG 131 [.sl (l.map I),.func 53 [] [.ref (I z),.ref (nwV n)]] (I (zEf (fun x=>evP n z x) l)):=by
 refine zAf Tryz.f131 ?_
 refine zAd 1<|zAa<|zAh<|zAd 1<|S_a [(0,.n l.length)] (ap (lnS I l) an)<|zAc 1<|zAa<|zAk 0 ?_
 refine zAz (fun i=>i≤l.length∧∀ j,j<i→(fun x=>evP n z x) (l.getD j 0)=false) (fun i=>[(8,I (i:Nat))]) (fun i=>l.length-i) (0:Nat) (by simp) fun i ⟨hi,ha⟩=>?_
 refine zAd 1<|zAa<|zAh<|zCP ((↑i:Int)<(↑l.length:Int)) (fun k0=>(zAl<|zAh<|zAk 1<|zAd 2<|zAa<|zAd 3<|S_a [(2,.v (I (l.getD i 0)))] (ap (zDh (0) (by omega):(List.map I l)[i]? = some (I (l.getD i 0))) an)<|zAc 1<|S_a [(8,.ret (PV.bool (evP n z (l.getD i 0))) [])] (ap (f53 n z (by omega) (by omega) (l.getD i 0)) an)<|zAa<|zFM (evP n z (l.getD i 0)) (fun k1=>(zAd 2<|zAa<|zAn<|E_a [] an (I (↑i:Int)) [] ?_ rfl)) (fun k1=>(zAl<|zAg<|S_a [(1,.v (I (↑(i+1):Int)))] (ap (wrN i) an)<|zAc 1<|zAa ?_)))) (fun k0=>(zAL 0<|zAd 1<|zAa<|zAn<|E_a [] an (I (-1)) [] ?_ rfl))
 ·rw [zBT (i:=i) (by omega) (fun j hj=>by rw [← zAA (d:=0)];exact ha j hj) (by rw [← zAA (d:=0)];first | assumption | exact decide_eq_true ‹_› | (simp only [Bool.not_eq_true',decide_eq_false_iff_not];assumption))]
 ·refine ⟨i+1,⟨by omega,fun j hj=>?_⟩,by omega,by kernel_rfl,by kernel_rfl⟩
  rcases Nat.lt_succ_iff_lt_or_eq.1 hj with h | rfl
  ·exact ha j h
  ·first | assumption | exact decide_eq_false ‹_› | (simp only [Bool.not_eq_false',decide_eq_true_eq];first | assumption | (apply Decidable.of_not_not;assumption))
 ·rw [zB9 fun j hj=>by rw [← zAA (d:=0)];exact ha j (by omega)]
theorem f52_8 (n:Nw) (z:Int) (ho:NwOk n) (hz:0≤z∧z<n.n.length) (l:List (Int)) (hl:l.length<4294967296):FG 52 [.sl (l.map I),.func 53 [] [.ref (I z),.ref (nwV n)]] (.bool (l.any (fun x=>evP n z x))):=by
 refine zAf Tryz.f52 ?_
 refine zAd 1<|zAa<|zAd 2<|S_a [(7,.ret (I (zEf (fun x=>evP n z x) l)) [])] (ap (f131_8 n z (by omega) (by omega) l (by omega)) an)<|zAc 2<|zAa<|zAn<|E_a [] an (PV.bool (decide (zEf (fun x=>evP n z x) l≥0))) [] ?_ rfl
 rw [zDM]
end
end Go.Eng
set_option maxRecDepth 10000
set_option maxHeartbeats 4000000
namespace Go.Eng
open Go Go.Proofs
def chB (n:Nw) (cs:List (Int×Int)) (k h:Nat):Bool:=(List.range h).any fun j => !decide (hoL n cs k j=hoL n cs (k+1) j)
theorem zOz {n:Nw} {cs:List (Int×Int)} {k h:Nat}:chB n cs k (h+1)=(chB n cs k h || !decide (hoL n cs k h=hoL n cs (k+1) h)):=by
 simp [chB,List.range_succ]
theorem zVA {n:Nw} {cs:List (Int×Int)} (ho:CrW n cs) {k:Nat}:chB n cs k n.h.toNat = !decide (zAU n cs (k+1)=zAU n cs k):=by
 rw [Bool.eq_iff_iff,Bool.not_eq_true',decide_eq_false_iff_not,← zVw ho]
 simp [chB]
theorem f7 (nums crs:List Int) (vl:nums.length<9223372036854775808) (qH:crs.length<9223372036854775808):FG 7 [.sl (nums.map u8),.sl (crs.map u8)] (.bool true):=by
 obtain ⟨v1,h1,kH,n,a1,t1,rfl,rfl,herr,hH,hN,hS,y4⟩:=f48_ex nums 0 0 8 5 4 ⟨Nat.zero_le _,vl⟩ (by omega) (by omega) (by omega)
 have ho:=zU2 herr
 have ud:=ho.nl
 have hs6:=ho.sl
 have hHH:=ho.h
 obtain ⟨v2,h2,wQ,cs,a2,t2,rfl,rfl,yO,hcr,jY⟩:=f50_ex n crs 0 0 7 ho ⟨Nat.zero_le _,qH⟩ (by omega)
 have uT:=zYY herr (by omega) hcr
 have vE:=uT.w
 obtain ⟨s0,hs0,kD,jk⟩:=zUC (n:=n) (cs:=cs) ho
 have c1:=f29_1 n cs s0 uT (by omega) kD jk
 have c2:=f31_1 n cs uT
 obtain ⟨cl1,cl2⟩:=zTP (n:=n) (cs:=cs) (k0:=s0) (by omega) kD
 have j0:∀ k:Nat,s0≤k→zAU n cs (k+1)=zAU n cs k:=fun k hk=>by rw [zKG kD (k+1) (by omega),zKG kD k hk]
 have c3:∀ k h:Nat,k<12→(h:Int)<n.h→FG 51 [nwV n,prs cs,I k,I h] (.tup [.own 1 ((hoL n cs k h).map I),I 0]):=fun k h hk hh=>by
  have:=f51_1 n cs k h (zVb uT (by omega)) hh
  rwa [Int.toNat_natCast] at this
 have c4:∀ k h:Nat,k<12→(h:Int)<n.h→FG 51 [nwV n,prs cs,I ((k:Int)+1),I h] (.tup [.own 1 ((hoL n cs (k+1) h).map I),I 0]):=fun k h hk hh=>by
  have:=f51_1 n cs ((k:Int)+1) h (zVb uT (by omega)) hh
  rwa [show ((k:Int)+1).toNat=k+1 by omega] at this
 have c5:∀ k:Nat,k<12→FG 22 [nwV n,prs cs,I k] (.tup [.own 2 ((zBB n (zAU n cs k)).map prV),I 0]):=fun k hk=>by
  have:=f22_1 n cs k (zVb uT (by omega))
  rwa [Int.toNat_natCast] at this
 have q1:∀ k h:Nat,h<n.h.toNat→∀ x∈hoL n cs k h,(0≤x∧x<n.n.length)∧(hoL n cs (k+1) h).any (fun y=>evP n x y)=true:=fun k h hh x hx=>by
  obtain ⟨i,g1,_,rfl⟩:=zJb.1 hx
  obtain ⟨y,g2,g3,g4,g5⟩:=zTp vE hh hx
  refine ⟨by omega,List.any_eq_true.2 ⟨y,g2,?_⟩⟩
  simp only [evP,Bool.and_eq_true,decide_eq_true_eq]
  exact ⟨by omega,g4.2,g5⟩
 have q2:∀ k h:Nat,h<n.h.toNat→(hoL n cs k h).length≤(hoL n cs (k+1) h).length∧(hoL n cs (k+1) h).length≤8:=fun k h hh=>⟨zTU vE hh,Nat.le_trans zVd (by omega)⟩
 have q3:∀ k:Nat,chB n cs k n.h.toNat = !decide (zAU n cs (k+1)=zAU n cs k):=fun k=>zVA vE
 have q4:∀ k,(zBB n (zAU n cs k)).length≤80:=fun k=>zGW ho
 have kj:=f17
 clear hcr uT kD
 obtain ⟨cl,er,yx,jT⟩:∃ cl er:Int,FG 31 [nwV n,prs cs] (.tup [I cl,I er])∧(er=0∧cl=lgN n cs 10+1∧(0≤cl∧cl≤s0)∧lgN n cs 10≠9∨er=6∧lgN n cs 10=9):=by
  by_cases hg:zBB n (zAU n cs 12)=[]
  ·rw [if_pos hg,if_pos hg] at c2
   obtain ⟨g1,g2,g3,g4⟩:=cl1 hg
   exact ⟨_,_,c2,.inl ⟨rfl,g3,⟨g2,g1⟩,g4⟩⟩
  ·rw [if_neg hg,if_neg hg] at c2
   exact ⟨_,_,c2,.inr ⟨rfl,cl2 hg⟩⟩
 clear c2 cl1 cl2
 refine zAf Tryz.f7 ?_
 rcases jT with ⟨rfl,vR,wn,hcl3⟩ | ⟨rfl,vR⟩
 ·refine zAd 1<|zAa<|zAd 1<|S_a [(6,.ret (zBR nums 0 0) [])] (ap (f49 nums) an)<|S_a [(10,.ret (nwO n) ([zBR nums a1 t1]))] (ap kH an)<|zAc 1<|S_a [(3,.v (PV.agg [I n.h,prs n.l,PV.sl (List.map ntV n.n),PV.sl (List.map zBk n.s)]))] (ap ((by simp only [show zAv (List.map prV n.l)=List.map prV n.l from (by first | exact zAN _ | exact zA2 _ | exact zAW _ | exact zA8 (zA2 _) | exact zA8 (zAW _) | exact zC6 (by simp [zCb]) (zAN _)),show zAv (List.map ntV n.n)=List.map ntV n.n from (by first | exact zAN _ | exact zA2 _ | exact zAW _ | exact zA8 (zA2 _) | exact zA8 (zAW _) | exact zC6 (by simp [zCb]) (zAN _)),show zAv (List.map zJN n.s)=List.map zBk n.s from (by first | exact zAN _ | exact zA2 _ | exact zAW _ | exact zA8 (zA2 _) | exact zA8 (zAW _) | exact zC6 (by simp [zCb]) (zAN _))]):PV.agg [I n.h,PV.sl (zAv (List.map prV n.l)),PV.sl (zAv (List.map ntV n.n)),PV.sl (zAv (List.map zJN n.s))]=PV.agg [I n.h,prs n.l,PV.sl (List.map ntV n.n),PV.sl (List.map zBk n.s)]) an)<|zAa<|zAd 1<|S_a [(6,.ret (zBR crs 0 0) [])] (ap (f49 crs) an)<|zAc 1<|S_a [(8,.ret (PV.own 2 (List.map prV cs)) ([zBR crs a2 t2]))] (ap wQ an)<|zAc 1<|zAa<|zAd 2<|S_a [(5,.ob),(0,.v (prs cs)),(2,.ret (PV.tup [I (↑s0:Int),I 0]) [])] (ap (blz (List.map prV cs))<|ap (frT prV cs)<|ap c1 an)<|zAc 5<|zAa<|zAd 2<|S_a [(5,.ob),(0,.v (prs cs)),(2,.ret (PV.tup [I cl,I 0]) [])] (ap (blz (List.map prV cs))<|ap (frT prV cs)<|ap yx an)<|zAc 5<|zAa<|zAh<|zAd 13<|zFe 54 ((↑s0:Int)≥n.h) (by omega) (zAc 14<|zFe 68 (cl<0) (by omega) (zAc 6<|zAa<|zA0 (cl>(↑s0:Int)) (by omega)<|zAl<|zAd 1<|zAa<|zAh<|zAd 1<|zAa<|zAk 0 ?_))
  refine zAz (fun (k,lg)=>k≤10∧lg=lgN n cs k) (fun ((k:Nat),(lg:Int))=>[(11,I lg),(75,I (k:Nat))]) (fun (k,_)=>10-k) ((0:Nat),(-1:Int)) ⟨Nat.zero_le _,rfl⟩ fun (k,lg) ⟨hk,kC⟩=>?_
  by_cases v6:k<10
  ·have yp:=zF2 (n:=n) (cs:=cs) (k:=k)
   rw [← kC] at yp
   have d3:=fun h:Nat=>c3 k h (by omega)
   have d4:=fun h:Nat=>c4 k h (by omega)
   have d5:=c5 k (by omega)
   have r1:=q1 k
   have r2:=q2 k
   have r3:=q3 k
   have r4:=q4 k
   have qN:=j0 k
   have ka:=jk k
   clear c3 c4 c5 q1 q2 q3 q4 j0 jk kC vR
   refine zAd 1<|zAa<|zAh<|zBa ((↑k:Int)<10) (by omega)<|zAl<|zAh<|zAk 1<|zAd 2<|zAa<|zAd 1<|zAa<|zAh<|zAd 3<|zAa<|zAk 2 ?_
   refine zAz (fun (h,ch)=>h≤n.h.toNat∧ch=chB n cs k h) (fun ((h:Nat),(ch:Bool))=>[(13,.bool ch),(80,I (h:Nat))]) (fun (h,_)=>n.h.toNat-h) ((0:Nat),false) ⟨Nat.zero_le _,rfl⟩ fun (h,ch) ⟨hh,yS⟩=>?_
   by_cases wP:(h:Int)<n.h
   ·have e3:=d3 h wP
    have e4:=d4 h wP
    have s1:=r1 h (by omega)
    have s2:=r2 h (by omega)
    have gv:=zOz (n:=n) (cs:=cs) (k:=k) (h:=h)
    rw [← yS] at gv
    clear d3 d4 d5 r1 r2 r3 yS qN ka yp
    generalize hoL n cs k h=A at *
    generalize hoL n cs (k+1) h=B at *
    cases ch
    ·refine zAd 1<|zAa<|zAh<|zBa ((↑h:Int)<n.h) (by omega)<|zAl<|zAh<|zAk 3<|zAd 2<|zAa<|zAd 4<|S_a [(5,.ob),(0,.v (prs cs)),(6,.ret (PV.tup [PV.own 1 (List.map I A),I 0]) []),(1,.yes)] (ap (blz (List.map prV cs))<|ap (frT prV cs)<|ap e3<|ap ((by exact zFd (zB3 _) rfl):(PV.tup [PV.own 1 (List.map I A),I 0]).free=true) an)<|zAc 5<|zAa<|zAd 3<|S_a [(1,.v (I (↑(k+1):Int)))] (ap (wrN k) an)<|zAc 1<|S_a [(5,.ob),(0,.v (prs cs)),(6,.ret (PV.tup [PV.own 1 (List.map I B),I 0]) []),(1,.yes)] (ap (blz (List.map prV cs))<|ap (frT prV cs)<|ap e4<|ap ((by exact zFd (zB3 _) rfl):(PV.tup [PV.own 1 (List.map I B),I 0]).free=true) an)<|zAc 5<|zAa<|zAh<|zAd 8<|S_a [(0,.n B.length)] (ap (lnS I B) an)<|zAc 1<|S_a [(0,.n A.length)] (ap (lnS I A) an)<|zAc 2<|zAa<|zA0 ((↑B.length:Int)<(↑A.length:Int)) (by omega)<|zAl<|zAd 4<|S_a [(3,.ob),(0,.v (zBk A)),(1,.ob),(0,.v (zBk B)),(2,.ret (PV.bool (decide (A=B))) [])] (ap (blz (List.map I A))<|ap (frT I A)<|ap (blz (List.map I B))<|ap (frT I B)<|ap (f28 A B (by omega)) an)<|zAc 3<|zAa<|zAd 1<|S_a [(0,.n A.length)] (ap (lnS I A) an)<|zAc 1<|zAa<|zAk 4 ?_
     refine zAz (fun i=>i≤A.length) (fun (i:Nat)=>[(122,I (i:Nat))]) (fun i=>A.length-i) (0:Nat) (Nat.zero_le _) fun i hi=>?_
     by_cases yT:i<A.length
     ·have hx:=zCk (d:=0) s1 i yT
      have jF:=hx.1
      have d:=f52_8 n (A.getD i 0) ho jF B (by omega)
      rw [hx.2] at d
      clear s1 hx
      refine zAd 1<|zAa<|zAh<|zBa ((↑i:Int)<(↑A.length:Int)) (by omega)<|zAl<|zAh<|zAk 5<|zAh<|zAg<|S_a [(2,.ob),(1,.n i)] (ap ((by exact zAu (by simp only [List.length_map,zzLn]<;>omega)):decide (i<(List.map I A).length)=true)<|ap ((by simp):some (0+i)=some i) an)<|S_a [(0,.cs false ([I (A.getD i 0)]))] (ap (zC8 (q:=PV.own 1 (List.map I A)) (xs:=List.map I A) (x:=I (A.getD i 0)) rfl (zDh (0) (by omega)):zAr 15 (PV.own 1 (List.map I A)) [] i 0 1=some (false,[I (A.getD i 0)])) an)<|zAc 2<|zAa<|zAh<|zAd 3<|zFe 128 (A.getD i 0<0) (by omega) (zAc 3<|S_a [(0,.n n.n.length)] (ap (lnS ntV n.n) an)<|zAc 2<|zAa<|zA0 (A.getD i 0≥(↑n.n.length:Int)) (by omega)<|zAl<|zAd 2<|S_a [(3,.ob),(0,.v (zBk B)),(15,.ret (PV.bool true) [])] (ap (blz (List.map I B))<|ap (frT I B)<|ap d an)<|zAc 1<|zAa<|zAE<|zAl<|zAg<|S_a [(1,.v (I (↑(i+1):Int)))] (ap (wrN i) an)<|zAc 1<|zAa ?_)
      exact ⟨i+1,by omega,by omega,by kernel_rfl,by kernel_rfl⟩
     clear s1
     refine zAd 1<|zAa<|zAh<|zA0 ((↑i:Int)<(↑A.length:Int)) (by omega)<|zAL 4<|zAg<|S_a [(1,.v (I (↑(h+1):Int)))] (ap (wrN h) an)<|zAc 1<|zAa ?_
     exact ⟨(h+1,!decide (A=B)),⟨by omega,by rw [gv];rfl⟩,by simp only;omega,by kernel_rfl,by kernel_rfl⟩
    ·refine zAd 1<|zAa<|zAh<|zBa ((↑h:Int)<n.h) (by omega)<|zAl<|zAh<|zAk 3<|zAd 2<|zAa<|zAd 4<|S_a [(5,.ob),(0,.v (prs cs)),(6,.ret (PV.tup [PV.own 1 (List.map I A),I 0]) []),(1,.yes)] (ap (blz (List.map prV cs))<|ap (frT prV cs)<|ap e3<|ap ((by exact zFd (zB3 _) rfl):(PV.tup [PV.own 1 (List.map I A),I 0]).free=true) an)<|zAc 5<|zAa<|zAd 3<|S_a [(1,.v (I (↑(k+1):Int)))] (ap (wrN k) an)<|zAc 1<|S_a [(5,.ob),(0,.v (prs cs)),(6,.ret (PV.tup [PV.own 1 (List.map I B),I 0]) []),(1,.yes)] (ap (blz (List.map prV cs))<|ap (frT prV cs)<|ap e4<|ap ((by exact zFd (zB3 _) rfl):(PV.tup [PV.own 1 (List.map I B),I 0]).free=true) an)<|zAc 5<|zAa<|zAh<|zAd 8<|S_a [(0,.n B.length)] (ap (lnS I B) an)<|zAc 1<|S_a [(0,.n A.length)] (ap (lnS I A) an)<|zAc 2<|zAa<|zA0 ((↑B.length:Int)<(↑A.length:Int)) (by omega)<|zAl<|zAd 8<|zAa<|zAd 1<|S_a [(0,.n A.length)] (ap (lnS I A) an)<|zAc 1<|zAa<|zAk 4 ?_
     refine zAz (fun i=>i≤A.length) (fun (i:Nat)=>[(122,I (i:Nat))]) (fun i=>A.length-i) (0:Nat) (Nat.zero_le _) fun i hi=>?_
     by_cases yT:i<A.length
     ·have hx:=zCk (d:=0) s1 i yT
      have jF:=hx.1
      have d:=f52_8 n (A.getD i 0) ho jF B (by omega)
      rw [hx.2] at d
      clear s1 hx
      refine zAd 1<|zAa<|zAh<|zBa ((↑i:Int)<(↑A.length:Int)) (by omega)<|zAl<|zAh<|zAk 5<|zAh<|zAg<|S_a [(2,.ob),(1,.n i)] (ap ((by exact zAu (by simp only [List.length_map,zzLn]<;>omega)):decide (i<(List.map I A).length)=true)<|ap ((by simp):some (0+i)=some i) an)<|S_a [(0,.cs false ([I (A.getD i 0)]))] (ap (zC8 (q:=PV.own 1 (List.map I A)) (xs:=List.map I A) (x:=I (A.getD i 0)) rfl (zDh (0) (by omega)):zAr 15 (PV.own 1 (List.map I A)) [] i 0 1=some (false,[I (A.getD i 0)])) an)<|zAc 2<|zAa<|zAh<|zAd 3<|zFe 128 (A.getD i 0<0) (by omega) (zAc 3<|S_a [(0,.n n.n.length)] (ap (lnS ntV n.n) an)<|zAc 2<|zAa<|zA0 (A.getD i 0≥(↑n.n.length:Int)) (by omega)<|zAl<|zAd 2<|S_a [(3,.ob),(0,.v (zBk B)),(15,.ret (PV.bool true) [])] (ap (blz (List.map I B))<|ap (frT I B)<|ap d an)<|zAc 1<|zAa<|zAE<|zAl<|zAg<|S_a [(1,.v (I (↑(i+1):Int)))] (ap (wrN i) an)<|zAc 1<|zAa ?_)
      exact ⟨i+1,by omega,by omega,by kernel_rfl,by kernel_rfl⟩
     clear s1
     refine zAd 1<|zAa<|zAh<|zA0 ((↑i:Int)<(↑A.length:Int)) (by omega)<|zAL 4<|zAg<|S_a [(1,.v (I (↑(h+1):Int)))] (ap (wrN h) an)<|zAc 1<|zAa ?_
     exact ⟨(h+1,true),⟨by omega,by rw [gv];rfl⟩,by simp only;omega,by kernel_rfl,by kernel_rfl⟩
   have e:h=n.h.toNat:=by omega
   subst e
   rw [r3] at yS
   clear d3 d4 r1 r2 r3
   generalize zBB n (zAU n cs k)=G at *
   by_cases qO:zAU n cs (k+1)=zAU n cs k
   ·rw [decide_eq_true qO] at yS
    have qu:s0≤k:=Decidable.byContradiction fun h=>ka (by omega) qO
    subst yS
    clear qN ka
    refine zAd 1<|zAa<|zAh<|zA0 ((↑n.h.toNat:Int)<n.h) (by omega)<|zAL 2<|zAd 3<|S_a [(5,.ob),(0,.v (prs cs)),(4,.ret (PV.tup [PV.own 2 (List.map prV G),I 0]) []),(1,.yes)] (ap (blz (List.map prV cs))<|ap (frT prV cs)<|ap d5<|ap ((by exact zFd (zB3 _) rfl):(PV.tup [PV.own 2 (List.map prV G),I 0]).free=true) an)<|zAc 5<|zAa<|zAh<|zAd 16<|S_a [(1,.v (I ((↑s0:Int)-1)))] (ap ((zCr rfl (by omega)):I (IntKind.i64.wrap ((↑s0:Int)-1))=I ((↑s0:Int)-1)) an)<|zAc 3<|zAa<|zA0 ((↑k:Int)=(↑s0:Int)-1) (by omega)<|zAl<|zAd 1<|S_a [(0,.n G.length)] (ap (lnS prV G) an)<|zAc 1<|zAa<|zCP ((↑G.length:Int)>0) (fun k1=>(zAg<|zAc 2<|zAa<|zAg<|S_a [(1,.v (I (↑(k+1):Int)))] (ap (wrN k) an)<|zAc 1<|zAa ?_)) (fun k1=>(zAl<|zAg<|S_a [(1,.v (I (↑(k+1):Int)))] (ap (wrN k) an)<|zAc 1<|zAa ?_))
    ·rw [if_pos (by omega)] at yp
     exact ⟨(k+1,(k:Int)),⟨by omega,yp.symm⟩,by simp only;omega,by kernel_rfl,by kernel_rfl⟩
    ·rw [if_neg (by omega)] at yp
     exact ⟨(k+1,lg),⟨by omega,yp.symm⟩,by simp only;omega,by kernel_rfl,by kernel_rfl⟩
   ·rw [decide_eq_false qO] at yS
    have qu:k<s0:=Decidable.byContradiction fun h=>qO (qN (by omega))
    subst yS
    clear qN ka
    refine zAd 1<|zAa<|zAh<|zA0 ((↑n.h.toNat:Int)<n.h) (by omega)<|zAL 2<|zAd 3<|S_a [(5,.ob),(0,.v (prs cs)),(4,.ret (PV.tup [PV.own 2 (List.map prV G),I 0]) []),(1,.yes)] (ap (blz (List.map prV cs))<|ap (frT prV cs)<|ap d5<|ap ((by exact zFd (zB3 _) rfl):(PV.tup [PV.own 2 (List.map prV G),I 0]).free=true) an)<|zAc 5<|zAa<|zAh<|zAd 11<|zFe 158 ((↑k:Int)≥(↑s0:Int)) (by omega) (zAc 9<|zAa<|zAE<|zAl<|zAd 1<|S_a [(0,.n G.length)] (ap (lnS prV G) an)<|zAc 1<|zAa<|zCP ((↑G.length:Int)>0) (fun k1=>(zAg<|zAc 2<|zAa<|zAg<|S_a [(1,.v (I (↑(k+1):Int)))] (ap (wrN k) an)<|zAc 1<|zAa ?_)) (fun k1=>(zAl<|zAg<|S_a [(1,.v (I (↑(k+1):Int)))] (ap (wrN k) an)<|zAc 1<|zAa ?_)))
    ·rw [if_pos (by omega)] at yp
     exact ⟨(k+1,(k:Int)),⟨by omega,yp.symm⟩,by simp only;omega,by kernel_rfl,by kernel_rfl⟩
    ·rw [if_neg (by omega)] at yp
     exact ⟨(k+1,lg),⟨by omega,yp.symm⟩,by simp only;omega,by kernel_rfl,by kernel_rfl⟩
  have e:k=10:=by omega
  subst e
  rw [← kC] at vR
  rw [← kC] at hcl3
  clear c3 c4 c5 q1 q2 q3 q4 j0 jk kC
  refine zAd 1<|zAa<|zAh<|zAE<|zAL 0<|zAd 6<|zFg 178 ((0==6)==(lg==9)) (fun k0=>(zAc 5<|S_a [(1,.v (I (lg+1)))] (ap ((zCr rfl (by omega)):I (IntKind.i64.wrap (lg+1))=I (lg+1)) an)<|zAc 4<|zLO 188 (cl=lg+1) (by omega) (S_a [(4,.ret (PV.bool true) [])] (ap kj an)<|zAc 2<|zAa<|zAn<|E_a [] an (PV.bool true) [] rfl rfl))) (fun k0=>(zAc 13<|zAa<|zAn<|E_a [] an (PV.bool false) [] ?_ rfl))
  exfalso
  have e:(lg==9)=false:=by simpa using hcl3
  rw [e] at k0
  revert k0
  decide
 ·refine zAd 1<|zAa<|zAd 1<|S_a [(6,.ret (zBR nums 0 0) [])] (ap (f49 nums) an)<|S_a [(10,.ret (nwO n) ([zBR nums a1 t1]))] (ap kH an)<|zAc 1<|S_a [(3,.v (PV.agg [I n.h,prs n.l,PV.sl (List.map ntV n.n),PV.sl (List.map zBk n.s)]))] (ap ((by simp only [show zAv (List.map prV n.l)=List.map prV n.l from (by first | exact zAN _ | exact zA2 _ | exact zAW _ | exact zA8 (zA2 _) | exact zA8 (zAW _) | exact zC6 (by simp [zCb]) (zAN _)),show zAv (List.map ntV n.n)=List.map ntV n.n from (by first | exact zAN _ | exact zA2 _ | exact zAW _ | exact zA8 (zA2 _) | exact zA8 (zAW _) | exact zC6 (by simp [zCb]) (zAN _)),show zAv (List.map zJN n.s)=List.map zBk n.s from (by first | exact zAN _ | exact zA2 _ | exact zAW _ | exact zA8 (zA2 _) | exact zA8 (zAW _) | exact zC6 (by simp [zCb]) (zAN _))]):PV.agg [I n.h,PV.sl (zAv (List.map prV n.l)),PV.sl (zAv (List.map ntV n.n)),PV.sl (zAv (List.map zJN n.s))]=PV.agg [I n.h,prs n.l,PV.sl (List.map ntV n.n),PV.sl (List.map zBk n.s)]) an)<|zAa<|zAd 1<|S_a [(6,.ret (zBR crs 0 0) [])] (ap (f49 crs) an)<|zAc 1<|S_a [(8,.ret (PV.own 2 (List.map prV cs)) ([zBR crs a2 t2]))] (ap wQ an)<|zAc 1<|zAa<|zAd 2<|S_a [(5,.ob),(0,.v (prs cs)),(2,.ret (PV.tup [I (↑s0:Int),I 0]) [])] (ap (blz (List.map prV cs))<|ap (frT prV cs)<|ap c1 an)<|zAc 5<|zAa<|zAd 2<|S_a [(5,.ob),(0,.v (prs cs)),(2,.ret (PV.tup [I cl,I 6]) [])] (ap (blz (List.map prV cs))<|ap (frT prV cs)<|ap yx an)<|zAc 5<|zAa<|zAh<|zAd 13<|zFe 54 ((↑s0:Int)≥n.h) (by omega) (zAc 20<|zAa<|zAE<|zAl<|zAd 1<|zAa<|zAh<|zAd 1<|zAa<|zAk 0 ?_)
  refine zAz (fun (k,lg)=>k≤10∧lg=lgN n cs k) (fun ((k:Nat),(lg:Int))=>[(11,I lg),(75,I (k:Nat))]) (fun (k,_)=>10-k) ((0:Nat),(-1:Int)) ⟨Nat.zero_le _,rfl⟩ fun (k,lg) ⟨hk,kC⟩=>?_
  by_cases v6:k<10
  ·have yp:=zF2 (n:=n) (cs:=cs) (k:=k)
   rw [← kC] at yp
   have d3:=fun h:Nat=>c3 k h (by omega)
   have d4:=fun h:Nat=>c4 k h (by omega)
   have d5:=c5 k (by omega)
   have r1:=q1 k
   have r2:=q2 k
   have r3:=q3 k
   have r4:=q4 k
   have qN:=j0 k
   have ka:=jk k
   clear c3 c4 c5 q1 q2 q3 q4 j0 jk kC vR
   refine zAd 1<|zAa<|zAh<|zBa ((↑k:Int)<10) (by omega)<|zAl<|zAh<|zAk 1<|zAd 2<|zAa<|zAd 1<|zAa<|zAh<|zAd 3<|zAa<|zAk 2 ?_
   refine zAz (fun (h,ch)=>h≤n.h.toNat∧ch=chB n cs k h) (fun ((h:Nat),(ch:Bool))=>[(13,.bool ch),(80,I (h:Nat))]) (fun (h,_)=>n.h.toNat-h) ((0:Nat),false) ⟨Nat.zero_le _,rfl⟩ fun (h,ch) ⟨hh,yS⟩=>?_
   by_cases wP:(h:Int)<n.h
   ·have e3:=d3 h wP
    have e4:=d4 h wP
    have s1:=r1 h (by omega)
    have s2:=r2 h (by omega)
    have gv:=zOz (n:=n) (cs:=cs) (k:=k) (h:=h)
    rw [← yS] at gv
    clear d3 d4 d5 r1 r2 r3 yS qN ka yp
    generalize hoL n cs k h=A at *
    generalize hoL n cs (k+1) h=B at *
    cases ch
    ·refine zAd 1<|zAa<|zAh<|zBa ((↑h:Int)<n.h) (by omega)<|zAl<|zAh<|zAk 3<|zAd 2<|zAa<|zAd 4<|S_a [(5,.ob),(0,.v (prs cs)),(6,.ret (PV.tup [PV.own 1 (List.map I A),I 0]) []),(1,.yes)] (ap (blz (List.map prV cs))<|ap (frT prV cs)<|ap e3<|ap ((by exact zFd (zB3 _) rfl):(PV.tup [PV.own 1 (List.map I A),I 0]).free=true) an)<|zAc 5<|zAa<|zAd 3<|S_a [(1,.v (I (↑(k+1):Int)))] (ap (wrN k) an)<|zAc 1<|S_a [(5,.ob),(0,.v (prs cs)),(6,.ret (PV.tup [PV.own 1 (List.map I B),I 0]) []),(1,.yes)] (ap (blz (List.map prV cs))<|ap (frT prV cs)<|ap e4<|ap ((by exact zFd (zB3 _) rfl):(PV.tup [PV.own 1 (List.map I B),I 0]).free=true) an)<|zAc 5<|zAa<|zAh<|zAd 8<|S_a [(0,.n B.length)] (ap (lnS I B) an)<|zAc 1<|S_a [(0,.n A.length)] (ap (lnS I A) an)<|zAc 2<|zAa<|zA0 ((↑B.length:Int)<(↑A.length:Int)) (by omega)<|zAl<|zAd 4<|S_a [(3,.ob),(0,.v (zBk A)),(1,.ob),(0,.v (zBk B)),(2,.ret (PV.bool (decide (A=B))) [])] (ap (blz (List.map I A))<|ap (frT I A)<|ap (blz (List.map I B))<|ap (frT I B)<|ap (f28 A B (by omega)) an)<|zAc 3<|zAa<|zAd 1<|S_a [(0,.n A.length)] (ap (lnS I A) an)<|zAc 1<|zAa<|zAk 4 ?_
     refine zAz (fun i=>i≤A.length) (fun (i:Nat)=>[(122,I (i:Nat))]) (fun i=>A.length-i) (0:Nat) (Nat.zero_le _) fun i hi=>?_
     by_cases yT:i<A.length
     ·have hx:=zCk (d:=0) s1 i yT
      have jF:=hx.1
      have d:=f52_8 n (A.getD i 0) ho jF B (by omega)
      rw [hx.2] at d
      clear s1 hx
      refine zAd 1<|zAa<|zAh<|zBa ((↑i:Int)<(↑A.length:Int)) (by omega)<|zAl<|zAh<|zAk 5<|zAh<|zAg<|S_a [(2,.ob),(1,.n i)] (ap ((by exact zAu (by simp only [List.length_map,zzLn]<;>omega)):decide (i<(List.map I A).length)=true)<|ap ((by simp):some (0+i)=some i) an)<|S_a [(0,.cs false ([I (A.getD i 0)]))] (ap (zC8 (q:=PV.own 1 (List.map I A)) (xs:=List.map I A) (x:=I (A.getD i 0)) rfl (zDh (0) (by omega)):zAr 15 (PV.own 1 (List.map I A)) [] i 0 1=some (false,[I (A.getD i 0)])) an)<|zAc 2<|zAa<|zAh<|zAd 3<|zFe 128 (A.getD i 0<0) (by omega) (zAc 3<|S_a [(0,.n n.n.length)] (ap (lnS ntV n.n) an)<|zAc 2<|zAa<|zA0 (A.getD i 0≥(↑n.n.length:Int)) (by omega)<|zAl<|zAd 2<|S_a [(3,.ob),(0,.v (zBk B)),(15,.ret (PV.bool true) [])] (ap (blz (List.map I B))<|ap (frT I B)<|ap d an)<|zAc 1<|zAa<|zAE<|zAl<|zAg<|S_a [(1,.v (I (↑(i+1):Int)))] (ap (wrN i) an)<|zAc 1<|zAa ?_)
      exact ⟨i+1,by omega,by omega,by kernel_rfl,by kernel_rfl⟩
     clear s1
     refine zAd 1<|zAa<|zAh<|zA0 ((↑i:Int)<(↑A.length:Int)) (by omega)<|zAL 4<|zAg<|S_a [(1,.v (I (↑(h+1):Int)))] (ap (wrN h) an)<|zAc 1<|zAa ?_
     exact ⟨(h+1,!decide (A=B)),⟨by omega,by rw [gv];rfl⟩,by simp only;omega,by kernel_rfl,by kernel_rfl⟩
    ·refine zAd 1<|zAa<|zAh<|zBa ((↑h:Int)<n.h) (by omega)<|zAl<|zAh<|zAk 3<|zAd 2<|zAa<|zAd 4<|S_a [(5,.ob),(0,.v (prs cs)),(6,.ret (PV.tup [PV.own 1 (List.map I A),I 0]) []),(1,.yes)] (ap (blz (List.map prV cs))<|ap (frT prV cs)<|ap e3<|ap ((by exact zFd (zB3 _) rfl):(PV.tup [PV.own 1 (List.map I A),I 0]).free=true) an)<|zAc 5<|zAa<|zAd 3<|S_a [(1,.v (I (↑(k+1):Int)))] (ap (wrN k) an)<|zAc 1<|S_a [(5,.ob),(0,.v (prs cs)),(6,.ret (PV.tup [PV.own 1 (List.map I B),I 0]) []),(1,.yes)] (ap (blz (List.map prV cs))<|ap (frT prV cs)<|ap e4<|ap ((by exact zFd (zB3 _) rfl):(PV.tup [PV.own 1 (List.map I B),I 0]).free=true) an)<|zAc 5<|zAa<|zAh<|zAd 8<|S_a [(0,.n B.length)] (ap (lnS I B) an)<|zAc 1<|S_a [(0,.n A.length)] (ap (lnS I A) an)<|zAc 2<|zAa<|zA0 ((↑B.length:Int)<(↑A.length:Int)) (by omega)<|zAl<|zAd 8<|zAa<|zAd 1<|S_a [(0,.n A.length)] (ap (lnS I A) an)<|zAc 1<|zAa<|zAk 4 ?_
     refine zAz (fun i=>i≤A.length) (fun (i:Nat)=>[(122,I (i:Nat))]) (fun i=>A.length-i) (0:Nat) (Nat.zero_le _) fun i hi=>?_
     by_cases yT:i<A.length
     ·have hx:=zCk (d:=0) s1 i yT
      have jF:=hx.1
      have d:=f52_8 n (A.getD i 0) ho jF B (by omega)
      rw [hx.2] at d
      clear s1 hx
      refine zAd 1<|zAa<|zAh<|zBa ((↑i:Int)<(↑A.length:Int)) (by omega)<|zAl<|zAh<|zAk 5<|zAh<|zAg<|S_a [(2,.ob),(1,.n i)] (ap ((by exact zAu (by simp only [List.length_map,zzLn]<;>omega)):decide (i<(List.map I A).length)=true)<|ap ((by simp):some (0+i)=some i) an)<|S_a [(0,.cs false ([I (A.getD i 0)]))] (ap (zC8 (q:=PV.own 1 (List.map I A)) (xs:=List.map I A) (x:=I (A.getD i 0)) rfl (zDh (0) (by omega)):zAr 15 (PV.own 1 (List.map I A)) [] i 0 1=some (false,[I (A.getD i 0)])) an)<|zAc 2<|zAa<|zAh<|zAd 3<|zFe 128 (A.getD i 0<0) (by omega) (zAc 3<|S_a [(0,.n n.n.length)] (ap (lnS ntV n.n) an)<|zAc 2<|zAa<|zA0 (A.getD i 0≥(↑n.n.length:Int)) (by omega)<|zAl<|zAd 2<|S_a [(3,.ob),(0,.v (zBk B)),(15,.ret (PV.bool true) [])] (ap (blz (List.map I B))<|ap (frT I B)<|ap d an)<|zAc 1<|zAa<|zAE<|zAl<|zAg<|S_a [(1,.v (I (↑(i+1):Int)))] (ap (wrN i) an)<|zAc 1<|zAa ?_)
      exact ⟨i+1,by omega,by omega,by kernel_rfl,by kernel_rfl⟩
     clear s1
     refine zAd 1<|zAa<|zAh<|zA0 ((↑i:Int)<(↑A.length:Int)) (by omega)<|zAL 4<|zAg<|S_a [(1,.v (I (↑(h+1):Int)))] (ap (wrN h) an)<|zAc 1<|zAa ?_
     exact ⟨(h+1,true),⟨by omega,by rw [gv];rfl⟩,by simp only;omega,by kernel_rfl,by kernel_rfl⟩
   have e:h=n.h.toNat:=by omega
   subst e
   rw [r3] at yS
   clear d3 d4 r1 r2 r3
   generalize zBB n (zAU n cs k)=G at *
   by_cases qO:zAU n cs (k+1)=zAU n cs k
   ·rw [decide_eq_true qO] at yS
    have qu:s0≤k:=Decidable.byContradiction fun h=>ka (by omega) qO
    subst yS
    clear qN ka
    refine zAd 1<|zAa<|zAh<|zA0 ((↑n.h.toNat:Int)<n.h) (by omega)<|zAL 2<|zAd 3<|S_a [(5,.ob),(0,.v (prs cs)),(4,.ret (PV.tup [PV.own 2 (List.map prV G),I 0]) []),(1,.yes)] (ap (blz (List.map prV cs))<|ap (frT prV cs)<|ap d5<|ap ((by exact zFd (zB3 _) rfl):(PV.tup [PV.own 2 (List.map prV G),I 0]).free=true) an)<|zAc 5<|zAa<|zAh<|zAd 16<|S_a [(1,.v (I ((↑s0:Int)-1)))] (ap ((zCr rfl (by omega)):I (IntKind.i64.wrap ((↑s0:Int)-1))=I ((↑s0:Int)-1)) an)<|zAc 3<|zAa<|zA0 ((↑k:Int)=(↑s0:Int)-1) (by omega)<|zAl<|zAd 1<|S_a [(0,.n G.length)] (ap (lnS prV G) an)<|zAc 1<|zAa<|zCP ((↑G.length:Int)>0) (fun k1=>(zAg<|zAc 2<|zAa<|zAg<|S_a [(1,.v (I (↑(k+1):Int)))] (ap (wrN k) an)<|zAc 1<|zAa ?_)) (fun k1=>(zAl<|zAg<|S_a [(1,.v (I (↑(k+1):Int)))] (ap (wrN k) an)<|zAc 1<|zAa ?_))
    ·rw [if_pos (by omega)] at yp
     exact ⟨(k+1,(k:Int)),⟨by omega,yp.symm⟩,by simp only;omega,by kernel_rfl,by kernel_rfl⟩
    ·rw [if_neg (by omega)] at yp
     exact ⟨(k+1,lg),⟨by omega,yp.symm⟩,by simp only;omega,by kernel_rfl,by kernel_rfl⟩
   ·rw [decide_eq_false qO] at yS
    have qu:k<s0:=Decidable.byContradiction fun h=>qO (qN (by omega))
    subst yS
    clear qN ka
    refine zAd 1<|zAa<|zAh<|zA0 ((↑n.h.toNat:Int)<n.h) (by omega)<|zAL 2<|zAd 3<|S_a [(5,.ob),(0,.v (prs cs)),(4,.ret (PV.tup [PV.own 2 (List.map prV G),I 0]) []),(1,.yes)] (ap (blz (List.map prV cs))<|ap (frT prV cs)<|ap d5<|ap ((by exact zFd (zB3 _) rfl):(PV.tup [PV.own 2 (List.map prV G),I 0]).free=true) an)<|zAc 5<|zAa<|zAh<|zAd 11<|zFe 158 ((↑k:Int)≥(↑s0:Int)) (by omega) (zAc 9<|zAa<|zAE<|zAl<|zAd 1<|S_a [(0,.n G.length)] (ap (lnS prV G) an)<|zAc 1<|zAa<|zCP ((↑G.length:Int)>0) (fun k1=>(zAg<|zAc 2<|zAa<|zAg<|S_a [(1,.v (I (↑(k+1):Int)))] (ap (wrN k) an)<|zAc 1<|zAa ?_)) (fun k1=>(zAl<|zAg<|S_a [(1,.v (I (↑(k+1):Int)))] (ap (wrN k) an)<|zAc 1<|zAa ?_)))
    ·rw [if_pos (by omega)] at yp
     exact ⟨(k+1,(k:Int)),⟨by omega,yp.symm⟩,by simp only;omega,by kernel_rfl,by kernel_rfl⟩
    ·rw [if_neg (by omega)] at yp
     exact ⟨(k+1,lg),⟨by omega,yp.symm⟩,by simp only;omega,by kernel_rfl,by kernel_rfl⟩
  have e:k=10:=by omega
  subst e
  rw [← kC] at vR
  clear c3 c4 c5 q1 q2 q3 q4 j0 jk kC
  refine zAd 1<|zAa<|zAh<|zAE<|zAL 0<|zAd 6<|zFg 178 ((6==6)==(lg==9)) (fun k0=>(zAc 10<|S_a [(4,.ret (PV.bool true) [])] (ap kj an)<|zAc 2<|zAa<|zAn<|E_a [] an (PV.bool true) [] rfl rfl)) (fun k0=>(zAc 13<|zAa<|zAn<|E_a [] an (PV.bool false) [] ?_ rfl))
  exfalso
  have e:(lg==9)=true:=by rw [vR];rfl
  rw [e] at k0
  revert k0
  decide
end Go.Eng
set_option maxRecDepth 100000
namespace Go.Proofs.YtppbomajegnkeaaGreat
open Go.ChangeShapes Go.WideShapes Go.ChangeAt Go.RowKit Go.Eng
theorem newsEvenings_gives (ss:List (Bool×List Sh)) (w5:zEO Tryz.prog Tryz.f7.params.toList=some ss) (qs:List PV) (hq:zKN ss qs):@zBC (yo1 Tryz.prog zCK) Tryz.prog zCK 7 qs [] (.bool true) []:=by
 have he:zEO Tryz.prog Tryz.f7.params.toList=some [(false,[.list false [.num .u8]]),(false,[.list false [.num .u8]])]:=by kernel_rfl
 rw [he] at w5
 cases w5
 obtain ⟨p0,qs0,rfl,h0,hq0⟩:=hq
 obtain ⟨p1,qs1,rfl,h1,kN⟩:=hq0
 simp only [zKN] at kN
 subst kN
 obtain ⟨x0,rfl,l0,b0⟩:=zQP h0
 unfold maxLen at l0
 simp only [IntKind.min,IntKind.max,IntKind.signed,IntKind.bits] at b0
 simp at b0
 obtain ⟨x1,rfl,l1,b1⟩:=zQP h1
 unfold maxLen at l1
 simp only [IntKind.min,IntKind.max,IntKind.signed,IntKind.bits] at b1
 simp at b1
 exact f7 x0 x1 (by omega) (by omega)
theorem newsEvenings_lifted (os:Os) (started:os.Started) (H:Type) (enc:TypeId×Value→H) :
  ReturnsInHanded {} Tryz.checked os 7 .any (Rows.newsEveningsSpec.pre6 enc Tryz.prog Tryz.f7 Rows.newsEveningsRow.domain false) (Rows.newsEveningsSpec.post enc Tryz.prog Tryz.f7 false true false false):=by
 refine returnsInHanded_of_change (C:=Tryz.checked) Tryz.own started (by kernel_rfl) Tryz.func7
  (ChangeSpec.witness6 (enc:=enc) (C:=Tryz.checked) false ⟨#[],#[.slice none 0 0,.slice none 0 0],[]⟩ 8 (by kernel_rfl) (by kernel_rfl) (by kernel_rfl) (by kernel_rfl)) ?_
 intro W base args ds gs before hval0 hW hcnd _
 obtain ⟨p,q,hA0,hV,_,_,_⟩:=id hW
 obtain ⟨rfl,rfl⟩:=trodVars_none hV
 obtain ⟨ss,w5⟩:∃ ss,zEO Tryz.prog Tryz.f7.params.toList=some ss:=Option.isSome_iff_exists.1 (by kernel_rfl)
 have hZ:ss.length≤1000:=by
  have h:((zEO Tryz.prog Tryz.f7.params.toList).map fun s=>Nat.ble s.length 1000)=some true:=by kernel_rfl
  rw [w5] at h
  simpa using h
 exact zVL zE2 hnm zMy hin Tryz.laidOut rfl Tryz.underlying4 (by kernel_rfl) (by kernel_rfl) (fun ds hd=>by match ds,hd with | [d0,d1],_=>rfl) w5 hZ (newsEvenings_gives ss w5) hval0 hW
theorem newsEvenings_holds:Rows.NewsEveningsSaid :=
 OpenClaim.holds_of_wide 7 Tryz.f7 rfl rfl rfl rfl rfl rfl rfl ⟨rfl,rfl,rfl,rfl,rfl⟩ rfl rfl rfl rfl rfl (by kernel_rfl) Tryz.func7 (by kernel_rfl)
  (of_decide_eq_true (by kernel_rfl)) (by unfold Func.isWrapper;first | (rw [if_pos (by decide +kernel)];kernel_rfl) | (rw [if_neg (by decide +kernel)];exact ⟨rfl,rfl⟩))
  (fun os started H enc _=>newsEvenings_lifted os started H enc)
end Go.Proofs.YtppbomajegnkeaaGreat
